import PyProof.Rows.All
import PySem.Value
import PyProof.StrCalls2
import PySem.Eval
import KE.KDictList
import PyProof.Rows.SortStr
import PyProof.Rows.SortRunsK
import KE.KSortTup
import KE.KLam
import Wide.All
import Open.Line
import Open.Pieces
import OpenK.KCall
import PySem.Challenge.RW_uf060007_13
set_option Elab.async false
set_option tactic.hygienic false
set_option bootstrap.genMatcherCode false
set_option linter.all false
set_option genInjectivity false
set_option genSizeOf false
set_option autoImplicit false
set_option maxRecDepth 100000
noncomputable section
open Option renaming some->À,none->Ã
open PySem renaming call->Á,wpAny_bind->Â,Value->Ä,Shared->Å,wpAny_pure->Ç,Addr->È,wpAny->É,wpAny_mono->Ï,Around->Ñ,Heap->Ó,Expr->Ô,wpAny_loadPart_at->Õ,starEach->Ù,mainGlobals->Ü,wpAny_field->ß,wpAny_holding->à,Scope->á,wpAny_isSubtype_exc->â,wpAny_seqItems->æ,wpAny_newObj_type->ç,codeAny_builtin->é,sizeLine->ê,cellsFrom->ì,recursionLimit->í,IsPair->î,wpAny_truthy_bool->ï,wpAny_callSpecial?_slot->ð,OsState->ó,rawInt->ô,Program->õ,GenState->ö,wpAny_rule->ú,wpAny_execs_cons->ü,wpAny_call_entry->ý,checkBuiltinCall->þ,wpAny_setField_rec->Ā,wpAny_pyIter_tuple->ā,typeLookup->Ă,builtinsNs->ă,wpAny_updateSeq->Ą,NameKind->ą,plainId_quiet->Ć,codeAny_call_builtin->Ċ,Stmt->č,Builtin->Ď,wpAny_standAt->đ,wpAny_letGo->Ĕ,codeAmong->ĕ,wpAny_Return_some->ė,foldedSetIterable->Ę,bootBuiltins->ę,builtinLookup_eq_fast->ě,sysModules->Ĝ,TriplesOk->ĝ,codeAny->Ğ,unsupported->ğ,wpAny_execs_nil->ġ,argBest->ģ,wpAny_tryCatch->Ħ,wpAny_setField->ħ,cameBackBy->Ĩ,callEnvC->ĩ,FuncData->Ī,wpAny_pyIter_list->ĭ,wpAny_assign_Name->Į,wpAny_attempt->İ,pyNext->ı,backTo->Ĳ,swapsWith->ĸ,binaryOp->ĺ,Arguments->Ļ,typeLookup_type->ł,letOwnedTupleGo->Ń,updateSeq->Ŋ,wpAny_setItem_pairs->Ŏ,ExceptHandler->œ,wpAny_call->ŗ,wpAny_typeOf->Ŝ,wpAny_pyIter_zip->ş,noFill_tuple_add->Š,wpAny_loadPart'->ũ,wpAny_list_append_plain->ό,wpAny_Call_method_lateS->ύ
open Bool renaming true->Æ,false->Ê
open PyProof.Rows renaming Keyed->Ë,wpS_bind->Í,wpS_pure->Ð,SortSt->Ò,pendingOf->Ö,arrOf->Û,wpS_forRange->ä,seqObj->å,args_cons->è,failedOf->ë,IntsAre->ñ,recsOf->ò,wpS_modify->ù,Call_Name->ć,setPending->ĉ,args_nil->Ē,wpS_mono->Ė,wpS_get->Ĭ,wpS_lift->ķ,reverseSlice'_eq->Ĺ,mergeAt'->ń,reverseSlice'->ő,listUpdate_at->Œ,SortKind->ŵ
open PySem.W renaming hideAll->ŀ
open PySem.Calls renaming docDef->Ņ
open Nat renaming le_trans->z',lt_of_lt_of_le->ĳ,le_refl->Đ,le_add_right->Ň,le_of_lt->ī,zero_le->Ĥ,lt_of_succ_lt->Ş,lt_of_le_of_ne->Ŧ,ne_of_lt->ŉ,succ_le_succ->š,not_lt->ľ,lt_of_le_of_lt->ŷ,le_of_eq->ŕ,le_antisymm->ť,le_succ_of_le->ſ,min_eq_left->Ŵ,le_of_lt_succ->ϋ,lt_succ_self->Ż,add_sub_cancel_left->ϯ,lt_irrefl->ţ,sub_le->ŏ,add_le_add_right->ϣ,add_assoc->ű,ne_of_gt->ū,add_le_add_left->ϴ,lt_succ_of_le->Ϩ,add_le_add->Ϗ,zero_add->ż,sub_pos_of_lt->ϳ,add_right_comm->abQ,one_pos->Ŷ,pos_of_ne_zero->abT,max_eq_right->ϲ,le_of_ble_eq_true->ab0,succ_pos->ϒ,lt_of_succ_lt_succ->ab6,add_sub_cancel'->ab7,add_comm->ϟ,lt_trans->Ϟ,lt_succ_of_lt->ace,lt_add_of_pos_right->acf,not_lt_zero->aci,min_le_left->acj,eq_zero_of_not_pos->acm,le_succ->ϝ,not_le->ϕ,le_of_add_le_add_left->acw,sub_self->Ϸ,sub_lt->Ϡ,mul_le_mul_left->acI,succ_lt_succ->acK,min_le_right->acL,succ_ne_zero->acM,sub_add_cancel->acR,add_sub_cancel->acS,add_lt_of_lt_sub'->acV,add_sub_add_right->acX,add_sub_assoc->ac0,add_lt_add_right->ac6,min_eq_right->ac9,add_left_cancel->add,exists_eq_add_of_le->ads,le_mul_of_pos_left->adz,le_of_succ_le_succ->adE,sub_eq_zero_of_le->adH,le_of_sub_eq_zero->adL,le_max_right->adP,not_succ_le_zero->adT,sub_le_sub_left->adW,succ->ad2,max_le->ad',lt_succ_iff_lt_or_eq->aeh,succ_pred_eq_of_pos->aen,lt_or_ge->aes,eq_zero_of_le_zero->aeu,add_sub_add_left->aeA,add_right_cancel->aeB,sub_lt_sub_left->aeG,add_lt_add_left->aeH,lt_of_lt_of_eq->aeO,eq_zero_or_pos->aeP,lt_or_eq_of_le->aeQ,beq->aeU,lt_trichotomy->aeV,min_self->aeX,min_comm->aeY,succ_sub_succ->ae0,sub_zero->ae1,lt_add_right->afc,two_pos->afh,le_add_left->afk,zero_ne_one->afm,le_max_left->afn,strongRecOn->afo,le_min->aft,le_total->afB,zero_min->afC,add_zero->afE,sub_sub->afJ,le_zero->afK
open List renaming mem_cons_self->G',length_map->H',mem_cons_of_mem->J',mem_singleton->O',getElem?_eq_getElem->ē,length_append->û,append_assoc->ÿ,getElem?_eq_some_iff->Ġ,mem_of_getElem?->ĥ,mem_cons->Ĉ,mem_append->Ģ,getElem?_map->į,range->ċ,append_nil->Ĵ,pairwise_cons->Ō,take_length->ŋ,take_append_drop->Ť,mem_append_right->ŧ,length_range->Ś,map_append->Ŗ,mem_of_mem_take->ŭ,replicate->Ő,getElem?_append_left->ϓ,mem_append_left->Ź,getElem?_append_right->ϙ,getElem?_toArray->ž,mem_filter->ŝ,size_toArray->ų,map_cons->ř,length_take->Ŭ,isEmpty_iff->Ų,mem_map->ś,mem_range->Ũ,getElem_mem->ź,map_congr_left->ϔ,mem_of_mem_drop->ϛ,length_eq_zero_iff->ϰ,pairwise_append->Ϣ,lookup_cons->ϊ,contains_cons->ϖ,getElem?_eq_none->ϭ,map_map->Ū,length_filter_le->ϻ,length_replicate->Ϻ,getElem?_range->Ϭ,foldl_cons->ϑ,drop_eq_getElem_cons->abF,of_mem_zip->ϗ,length_cons->ϧ,all_eq_true->Ϧ,mem_reverse->ϥ,nodup_cons->Ϥ,length_drop->ϱ,reverse_append->abZ,mem_iff_getElem->ab2,reverse_reverse->ab3,length_reverse->ab8,extract_eq_take_drop->ab9,getElem?_set_ne->acd,reverse_perm->acg,pairwise_singleton->ach,length_set->acl,pairwise_iff_getElem->acv,range_succ->acA,take_sublist->acG,mem_filterMap->acT,pairwise_lt_range->acU,set_append_right->acW,foldl_append->acY,getElem?_of_mem->ac4,not_mem_nil->ac',filter_cons->ada,getElem?_zip_eq_some->adb,mem_or_eq_of_mem_set->adc,filterMap_cons->ade,forIn_cons->adk,length_zip->adl,zip_cons_cons->ado,filter_append->adp,mem_replicate->adq,toArray->adt,getElem?_set_self->adu,drop_eq_nil_of_le->adv,take_add_one->adw,forIn_nil->adx,take_of_length_le->adA,drop_drop->adB,findIdx_lt_length_of_exists->adF,exists_of_findSome?_eq_some->adG,perm_append_comm->adK,zipIdx_cons->adN,drop_length->adO,mem_flatMap->adQ,nodup_range->adR,length_nil->adU,replicate_succ->adV,nodup_nil->ad3,take_take->ad5,take_zero->ad6,map->ad8,perm_ext_iff_of_nodup->ad9,length->aea,getElem_take->aec,ext_getElem?->aed,pairwise_map->aee,contains->aeg,getElem?_cons_succ->aej,cons_append->aek,isEmpty_nil->ael,range_succ_eq_map->aer,length_eq_one_iff->aet,pairwise_reverse->aev,findSome?_append->aew,length_take_le'->aeD,findIdx_getElem->aeE,map_eq_nil_iff->aeF,mem_map_of_mem->aeI,flatMap_append->aeK,findSome?_cons->aeL,drop_nil->aeM,zip_nil_right->aeR,nodup_append->aeW,getElem_drop->ae4,flatMap_cons->ae9,cons_ne_nil->afa,perm_middle->afd,not_lt->afg,nil_append->afl,map_const'->afp,drop_take->afq,drop_zero->afr,range_add->afu,take_nil->afx,map_drop->afz,map_set->afH,map_id->afL
open PySem.Heap renaming get?_push_of_some->N',get?_push_size->Ł,lt_size->ō,get?_update_self->Ϛ,get?_update_other->ϫ,get?_none_of_le->abD,size_push->ϐ,get?_update_ne->aeJ,get?_push_at->ae6,get?->afe
open Exists renaming elim->W'
open Int renaming natCast_nonneg->Ě,toNat_natCast->ĵ,le_antisymm->ņ,le_trans->Ŀ,le_refl->Ř,not_lt->Ŕ,ofNat_le->Ţ,toNat_of_nonneg->ϡ,zero_add->Ű,add_zero->ů,ofNat_lt->Ů,sub_nonneg_of_le->abP,add_assoc->ϩ,ofNat_sub->ϵ,add_pos_of_nonneg_of_pos->ack,min_eq_right->acp,min_le_right->acq,add_nonneg->acr,lt_of_lt_of_le->acu,min_eq_left->acy,min_le_left->acz,zero_mul->Ϲ,max_eq_right->acJ,mul_one->϶,le_of_eq->acO,le_total->acP,le_of_lt->acQ,one_mul->ac3,lt_trans->ac8,lt_irrefl->adf,max_eq_left->adi,le_max_left->adj,lt_of_le_of_lt->adm,eq_ofNat_of_zero_le->adr,self_le_toNat->adD,le_max_right->adM,add_le_add_right->adS,add_lt_add_left->adX,add_le_add_left->adY,add_comm->adZ,sub_add_cancel->ad0,add_sub_cancel->ad1,add_le_add->ad4,lt_trichotomy->aeb,toNat_sub->aef,ofNat->aei,neg_eq_neg_one_mul->aeo,not_le->aep,toNat_le->aeq,mul_add->aex,lt_iff_le_and_ne->aey,sub_le_sub_right->aez,le_of_lt_add_one->aeC,lt_or_eq_of_le->aeS,mul_zero->aeT,ediv_one->aeZ,add_sub_assoc->ae2,ne_of_gt->ae3,lt_toNat->ae7,sub_le_sub->afs,mul_assoc->afw,toNat_lt->afA,sub_zero->afD,ne_of_lt->afG,neg->afM
open Or renaming elim->ã
open Bool renaming and_eq_true_iff->Ľ,false_ne_true->Ķ,and_eq_true->ň,not_eq_true'->ώ,or_eq_true->Ϙ,false_eq_true->abR,or_eq_true_iff->abY,or_eq_false_iff->acC,or_false->adg,true_and->adh,not_eq_false'->adn,eq_false_iff->ady,and_false->adC,and_eq_false_iff->adJ,not_eq_true->ae',noConfusion->afb,false_or->afy,or_true->afF
open Array renaming toList_append->Ÿ,length_toList->Ž,getElem?_toList->Ϯ,getElem?_eq_some_iff->act,getElem?_eq_getElem->acx,toList_extract->acF,toList_push->acZ,getElem?_setIfInBounds_self_of_lt->ac2,toArray_toList->ac5,toList_reverse->ac7,toList_setIfInBounds->ad7,toList->ae5,size_push->afi
open Option renaming map_eq_some_iff->Ϫ,isSome_iff_exists->abt,isNone_iff_eq_none->abX,bind_some->ab4,bind->Ϝ,isSome->aeN,isSome_map->ae8,getD->aff,map_some->afj,none_or->afv
open Classical renaming byContradiction->abE,choose_spec->adI
open PySem.Str renaming ofString->ϸ,length_append->ac1,empty->aem
open Prod renaming fst->afI
open Except renaming ok->afN
namespace Lar
universe uu
theorem N{α:Sort uu}{a:α}:a=a:=rfl
inductive ZT where
 |v (i:Nat)
 |n (k:Nat)
 |a (x y:ZT)
 |s (x y:ZT)
noncomputable def X8:Nat->List Int->Int:=Nat.rec (λc=>c.headD 0) λz f c=>f c.tail
noncomputable def ZT.ev(c:List Int):ZT->Int
 |.v i=>X8 i c
 |.n k=>(k:Int)
 |.a x y=>x.ev c+y.ev c
 |.s x y=>x.ev c-y.ev c
noncomputable def pG(f:Int->Int):List Int->List Int->List Int
 |[],m=>m.map f
 |x::l,m=>(x+f (m.headD 0))::pG f l m.tail
noncomputable def fH:List Int->List Int->Int
 |[],_=>0
 |x::l,c=>x*c.headD 0+fH l c.tail
noncomputable def yt:Nat->List Int
 |0=>[1]
 |i+1=>0::yt i
noncomputable def ZT.nf:ZT->List Int
 |.v i=>0::yt i
 |.n k=>[(k:Int)]
 |.a x y=>pG id x.nf y.nf
 |.s x y=>pG afM x.nf y.nf
theorem IB(k:Int)(f:Int->Int)(hf:∀x,f x=k*x)(m:List Int):∀c,fH (m.map f) c=k*fH m c:=by
 induction m with
 |nil=>intro c;exact(aeT k).symm
 |cons x m ih=>intro c;show f x*c.headD 0+fH (m.map f) c.tail=k*(x*c.headD 0+fH m c.tail);rw[ih,hf,aex,afw]
theorem nR(k:Int)(f:Int->Int)(hf:∀x,f x=k*x)(l:List Int):∀m c,fH (pG f l m) c=fH l c+k*fH m c:=by
 induction l with
 |nil=>intro m c;exact(IB k f hf m c).trans (Ű _).symm
 |cons x l ih=>
  intro m c
  have e:fH m c=m.headD 0*c.headD 0+fH m.tail c.tail:=by
   cases m with
   |nil=>show (0:Int)=0*_+0;rw[Ϲ];rfl
   |cons y m=>rfl
  show (x+f (m.headD 0))*c.headD 0+fH (pG f l m.tail) c.tail=(x*c.headD 0+fH l c.tail)+k*fH m c;rw[ih,hf,e,Int.add_mul,aex,afw,ϩ,ϩ,Int.add_left_comm (k*_)]
theorem Eu(i:Nat):∀c,fH (yt i) c=X8 i c:=by
 induction i with
 |zero=>intro c;show 1*c.headD 0+0=_;rw[ac3,ů];rfl
 |succ i ih=>intro c;show 0*c.headD 0+fH (yt i) c.tail=_;rw[ih,Ϲ,Ű];rfl
theorem ZT.nf_ev(c:List Int)(e:ZT):fH e.nf (1::c)=e.ev c:=by
 induction e with
 |v i=>show 0*1+fH (yt i) c=_;rw[Eu,Ϲ,Ű];rfl
 |n k=>show (k:Int)*1+0=_;rw[϶,ů];rfl
 |a x y hx hy=>show fH (pG id x.nf y.nf) _=_;rw[nR 1 id (λx=>(ac3 x).symm),hx,hy,ac3];rfl
 |s x y hx hy=>show fH (pG afM x.nf y.nf) _=_;rw[nR (-1) afM (λx=>aeo x),hx,hy,<-aeo];rfl
structure ZC where
 o:Nat
 l:ZT
 r:ZT
def ZC.den(c:List Int)(q:ZC):Prop:=[q.l.ev c<=q.r.ev c,q.l.ev c<q.r.ev c,q.l.ev c=q.r.ev c,q.l.ev c=q.r.ev c,¬ q.l.ev c<=q.r.ev c,¬ q.l.ev c<q.r.ev c].getD q.o False
noncomputable def ZC.t(q:ZC):ZT:=[.s q.r q.l,.s q.r (.a q.l (.n 1)),.s q.r q.l,.s q.l q.r,.s q.l (.a q.r (.n 1)),.s q.l q.r].getD q.o (.n 0)
theorem ZC.t_of(c:List Int)(q:ZC)(h:q.den c):0<=q.t.ev c:=by
 cases q with|mk o l r=>
 cases o with
 |zero=>exact abP h
 |succ o=>cases o with
  |zero=>exact abP h
  |succ o=>cases o with
   |zero=>exact abP (acO h)
   |succ o=>cases o with
    |zero=>exact abP (acO (Eq.symm h))
    |succ o=>cases o with
     |zero=>exact abP (aep.mp h)
     |succ o=>cases o with
      |zero=>exact abP (Ŕ.mp h)
      |succ o=>exact False.elim h
def ZC.gd(c:List Int)(q:ZC):Prop:=Nat.rec (q.l.ev c<=q.r.ev c) (λz z=>q.l.ev c<q.r.ev c) q.o
noncomputable def ZC.gt(q:ZC):ZT:=.s q.l (Nat.rec (.a q.r (.n 1)) (λz z=>q.r) q.o)
theorem ZC.of_neg(c:List Int)(q:ZC)(h:0<=q.gt.ev c->False):q.gd c:=by
 cases q with|mk o l r=>
 cases o with
 |zero=>exact Ŕ.mp λk=>h (abP k)
 |succ n=>exact aep.mp λk=>h (abP k)
noncomputable def Nz(l:List Int):Bool:=l.all λx=>x==0
theorem Et(l:List Int):∀c:List Int,Nz l=Æ->fH l c=0:=by
 induction l with
 |nil=>exact λz z=>rfl
 |cons x l ih=>intro c h;have h:=Ľ.mp h;show x*_+fH l c.tail=0;rw[eq_of_beq h.1,ih _ h.2,Ϲ];rfl
def IF(l:List Int):Nat->List Int->List Int:=Nat.rec id λz f acc=>f (pG id acc l)
theorem AA{l c:List Int}(h:0<=fH l c)(k:Nat):∀acc:List Int,0<=fH acc c->0<=fH (IF l k acc) c:=by
 induction k with
 |zero=>exact λz h0=>h0
 |succ k ih=>intro acc h0;refine ih _ ?_;rw[nR 1 id (λx=>(ac3 x).symm),ac3];exact acr h0 h
def ZC.fin(g:ZC)(acc:List Int):Bool:=decide (acc.headD 0<0)&&Nz acc.tail
def ZC.chk(g:ZC):List (Nat×ZC)->List Int->Bool:=List.rec (λacc=>g.fin (pG id acc g.gt.nf)) λp z f acc=>f (IF p.2.t.nf p.1 acc)
def ZC.all(c:List Int)(g:ZC):List (Nat×ZC)->Prop:=List.rec (g.gd c) λp z f=>p.2.den c->f
theorem ZC.all_of(c:List Int)(g:ZC)(t:List (Nat×ZC)):∀acc:List Int,ZC.chk g t acc=Æ->0<=fH acc (1::c)->ZC.all c g t:=by
 induction t with
 |nil=>
  intro acc h h0;refine ZC.of_neg c g λh3=>?_;rw[<-ZT.nf_ev]at h3
  have h5:0<=fH (pG id acc g.gt.nf) (1::c):=by rw[nR 1 id (λx=>(ac3 x).symm),ac3];exact acr h0 h3
  have h2:g.fin (pG id acc g.gt.nf)=Æ:=h;generalize pG id acc g.gt.nf=z at h2 h5;have h2:=Ľ.mp h2;cases z with
  |nil=>exact absurd (of_decide_eq_true h2.1) (adf 0)
  |cons x z=>have h6:0<=x*1+fH z c:=h5;rw[Et z c h2.2,϶,ů]at h6;exact absurd (of_decide_eq_true h2.1) (Ŕ.mpr h6)
 |cons p t ih=>exact λacc h h0 hp=>ih _ h (AA (by rw[ZT.nf_ev];exact ZC.t_of c p.2 hp) p.1 acc h0)
noncomputable def Wz(f:Nat):Nat->List ZT->List (Nat×ZC)->List (Nat×ZC)×ZC:=
 Nat.rec (λy y cs=>(cs,⟨0,.n 1,.n 0⟩)) (λy f z st cs=>
  bif Nat.blt (z % 16) 8 then f (z / 16) (.v (z % 16)::st) cs
  else bif aeU (z % 16) 8 then f (z / 256) (.n (z / 16 % 16)::st) cs
  else bif aeU (z % 16) 9 then f (z / 1048576) (.n (z / 16 % 65536)::st) cs
  else bif aeU (z % 16) 10 then f (z / 16) (.a (st.tail.headD (.n 0)) (st.headD (.n 0))::st.tail.tail) cs
  else bif aeU (z % 16) 14 then f (z / 16) (.s (st.tail.headD (.n 0)) (st.headD (.n 0))::st.tail.tail) cs
  else bif aeU (z % 16) 11 then f (z / 4096) st.tail.tail ((z / 256 % 16,⟨z / 16 % 16,st.tail.headD (.n 0),st.headD (.n 0)⟩)::cs)
  else bif aeU (z % 16) 12 then (cs,⟨z / 16 % 16,st.tail.headD (.n 0),st.headD (.n 0)⟩)
  else f (z / 19342813113834066795298816) (.n (z / 16 % 1208925819614629174706176)::st) cs) f
def zq(z:Nat):List (Nat×ZC)×ZC:=Wz 100 z [] []
def KN(z:Nat):Bool:=ZC.chk (zq z).2 (zq z).1 []
def tZ(c:List Int)(z:Nat):Prop:=ZC.all c (zq z).2 (zq z).1
theorem MY(c:List Int)(z:Nat)(h:KN z=Æ):tZ c z:=ZC.all_of c _ _ _ h (Ř _)
theorem y1{a:Int}(z:Nat)(h:KN z=Æ):tZ [a] z:=MY _ z h
theorem y2{a b:Int}(z:Nat)(h:KN z=Æ):tZ [a,b] z:=MY _ z h
theorem y3{a b c:Int}(z:Nat)(h:KN z=Æ):tZ [a,b,c] z:=MY _ z h
theorem y4{a b c d:Int}(z:Nat)(h:KN z=Æ):tZ [a,b,c,d] z:=MY _ z h
theorem y5{a b c d e:Int}(z:Nat)(h:KN z=Æ):tZ [a,b,c,d,e] z:=MY _ z h
theorem y6{a b c d e f:Int}(z:Nat)(h:KN z=Æ):tZ [a,b,c,d,e,f] z:=MY _ z h
theorem y7{a b c d e f g:Int}(z:Nat)(h:KN z=Æ):tZ [a,b,c,d,e,f,g] z:=MY _ z h
theorem y8{a b c d e f g k:Int}(z:Nat)(h:KN z=Æ):tZ [a,b,c,d,e,f,g,k] z:=MY _ z h
theorem iL{a b:Nat}(h:a<=b):(a:Int)<=b:=Ţ.mpr h
theorem iT{a b:Nat}(h:a<b):(a:Int)<b:=Ů.mpr h
theorem iE{a b:Nat}(h:a=b):(a:Int)=b:=congrArg aei h
theorem zI(h:(0:Int)<0):False:=adf 0 h
theorem jL{a b:Nat}(h:(a:Int)<=b):a<=b:=Ţ.mp h
theorem jT{a b:Nat}(h:(a:Int)<b):a<b:=Ů.mp h
theorem iP(a:Nat):(0:Int)<=a:=Ě a
theorem iA(a b:Nat):((a+b:Nat):Int)=a+b:=rfl
theorem iS(a b:Nat):(a:Int)<=((a-b:Nat):Int)+b:=Ţ.mpr (Nat.le_add_of_sub_le (Đ (a-b)))
theorem aO{P Q:Prop}{C:Prop}(h:P/\Q)(k:P->Q->C):C:=k h.1 h.2
theorem gH{P Q R:Prop}{C:Prop}(h:P/\Q/\R)(k:P->Q->R->C):C:=k h.1 h.2.1 h.2.2
theorem EC{P Q R S:Prop}{C:Prop}(h:P/\Q/\R/\S)(k:P->Q->R->S->C):C:=k h.1 h.2.1 h.2.2.1 h.2.2.2
theorem Uw{P Q R S T:Prop}{C:Prop}(h:P/\Q/\R/\S/\T)(k:P->Q->R->S->T->C):C:=k h.1 h.2.1 h.2.2.1 h.2.2.2.1 h.2.2.2.2
theorem Yt{P Q R S T Č X:Prop}{C:Prop}(h:P/\Q/\R/\S/\T/\Č/\X)(k:P->Q->R->S->T->Č->X->C):C:=k h.1 h.2.1 h.2.2.1 h.2.2.2.1 h.2.2.2.2.1 h.2.2.2.2.2.1 h.2.2.2.2.2.2
theorem aF{α:Sort _}{P Q:α->Prop}{C:Prop}(h:∃a,P a/\Q a)(k:∀a,P a->Q a->C):C:=h.elim λa q=>k a q.1 q.2
theorem dN{α:Sort _}{P Q R:α->Prop}{C:Prop}(h:∃a,P a/\Q a/\R a)(k:∀a,P a->Q a->R a->C):C:=h.elim λa q=>k a q.1 q.2.1 q.2.2
theorem wg{α:Sort _}{P Q R S:α->Prop}{C:Prop}(h:∃a,P a/\Q a/\R a/\S a)(k:∀a,P a->Q a->R a->S a->C):C:=h.elim λa q=>k a q.1 q.2.1 q.2.2.1 q.2.2.2
theorem Yv{α:Sort _}{P Q R S T:α->Prop}{C:Prop}(h:∃a,P a/\Q a/\R a/\S a/\T a)(k:∀a,P a->Q a->R a->S a->T a->C):C:=h.elim λa q=>k a q.1 q.2.1 q.2.2.1 q.2.2.2.1 q.2.2.2.2
theorem mM{α:Sort _}{β:Sort _}{P:α->β->Prop}{C:Prop}(h:∃a b,P a b)(k:∀a b,P a b->C):C:=h.elim λa q=>q.elim λb q=>k a b q
theorem gq{α:Sort _}{β:Sort _}{P Q:α->β->Prop}{C:Prop}(h:∃a b,P a b/\Q a b)(k:∀a b,P a b->Q a b->C):C:=h.elim λa q=>q.elim λb q=>k a b q.1 q.2
theorem fu{α:Sort _}{β:Sort _}{P Q R:α->β->Prop}{C:Prop}(h:∃a b,P a b/\Q a b/\R a b)(k:∀a b,P a b->Q a b->R a b->C):C:=h.elim λa q=>q.elim λb q=>k a b q.1 q.2.1 q.2.2
theorem JG{α:Sort _}{β:Sort _}{P Q R S:α->β->Prop}{C:Prop}(h:∃a b,P a b/\Q a b/\R a b/\S a b)(k:∀a b,P a b->Q a b->R a b->S a b->C):C:=h.elim λa q=>q.elim λb q=>k a b q.1 q.2.1 q.2.2.1 q.2.2.2
theorem Mj{α:Sort _}{β:Sort _}{P Q R S T:α->β->Prop}{C:Prop}(h:∃a b,P a b/\Q a b/\R a b/\S a b/\T a b)(k:∀a b,P a b->Q a b->R a b->S a b->T a b->C):C:=h.elim λa q=>q.elim λb q=>k a b q.1 q.2.1 q.2.2.1 q.2.2.2.1 q.2.2.2.2
theorem Yw{α:Sort _}{β:Sort _}{P Q R S T Č:α->β->Prop}{C:Prop}(h:∃a b,P a b/\Q a b/\R a b/\S a b/\T a b/\Č a b)(k:∀a b,P a b->Q a b->R a b->S a b->T a b->Č a b->C):C:=h.elim λa q=>q.elim λb q=>k a b q.1 q.2.1 q.2.2.1 q.2.2.2.1 q.2.2.2.2.1 q.2.2.2.2.2
theorem Ux{α:Sort _}{β:Sort _}{P Q R S T Č X:α->β->Prop}{C:Prop}(h:∃a b,P a b/\Q a b/\R a b/\S a b/\T a b/\Č a b/\X a b)(k:∀a b,P a b->Q a b->R a b->S a b->T a b->Č a b->X a b->C):C:=h.elim λa q=>q.elim λb q=>k a b q.1 q.2.1 q.2.2.1 q.2.2.2.1 q.2.2.2.2.1 q.2.2.2.2.2.1 q.2.2.2.2.2.2
theorem wi{α:Sort _}{β:Sort _}{γ:Sort _}{P:α->β->γ->Prop}{C:Prop}(h:∃a b c,P a b c)(k:∀a b c,P a b c->C):C:=h.elim λa q=>q.elim λb q=>q.elim λc q=>k a b c q
theorem oS{α:Sort _}{β:Sort _}{γ:Sort _}{P Q:α->β->γ->Prop}{C:Prop}(h:∃a b c,P a b c/\Q a b c)(k:∀a b c,P a b c->Q a b c->C):C:=h.elim λa q=>q.elim λb q=>q.elim λc q=>k a b c q.1 q.2
theorem t5{α:Sort _}{β:Sort _}{γ:Sort _}{P Q R:α->β->γ->Prop}{C:Prop}(h:∃a b c,P a b c/\Q a b c/\R a b c)(k:∀a b c,P a b c->Q a b c->R a b c->C):C:=h.elim λa q=>q.elim λb q=>q.elim λc q=>k a b c q.1 q.2.1 q.2.2
theorem JH{α:Sort _}{β:Sort _}{γ:Sort _}{P Q R S:α->β->γ->Prop}{C:Prop}(h:∃a b c,P a b c/\Q a b c/\R a b c/\S a b c)(k:∀a b c,P a b c->Q a b c->R a b c->S a b c->C):C:=h.elim λa q=>q.elim λb q=>q.elim λc q=>k a b c q.1 q.2.1 q.2.2.1 q.2.2.2
theorem WR{α:Sort _}{β:Sort _}{γ:Sort _}{P Q R S T:α->β->γ->Prop}{C:Prop}(h:∃a b c,P a b c/\Q a b c/\R a b c/\S a b c/\T a b c)(k:∀a b c,P a b c->Q a b c->R a b c->S a b c->T a b c->C):C:=h.elim λa q=>q.elim λb q=>q.elim λc q=>k a b c q.1 q.2.1 q.2.2.1 q.2.2.2.1 q.2.2.2.2
theorem SP{α:Sort _}{β:Sort _}{γ:Sort _}{P Q R S T Č:α->β->γ->Prop}{C:Prop}(h:∃a b c,P a b c/\Q a b c/\R a b c/\S a b c/\T a b c/\Č a b c)(k:∀a b c,P a b c->Q a b c->R a b c->S a b c->T a b c->Č a b c->C):C:=h.elim λa q=>q.elim λb q=>q.elim λc q=>k a b c q.1 q.2.1 q.2.2.1 q.2.2.2.1 q.2.2.2.2.1 q.2.2.2.2.2
theorem PH{α:Sort _}{β:Sort _}{γ:Sort _}{δ:Sort _}{P:α->β->γ->δ->Prop}{C:Prop}(h:∃a b c d,P a b c d)(k:∀a b c d,P a b c d->C):C:=h.elim λa q=>q.elim λb q=>q.elim λc q=>q.elim λd q=>k a b c d q
theorem WT{α:Sort _}{β:Sort _}{γ:Sort _}{δ:Sort _}{P Q:α->β->γ->δ->Prop}{C:Prop}(h:∃a b c d,P a b c d/\Q a b c d)(k:∀a b c d,P a b c d->Q a b c d->C):C:=h.elim λa q=>q.elim λb q=>q.elim λc q=>q.elim λd q=>k a b c d q.1 q.2
theorem ED{α:Sort _}{β:Sort _}{γ:Sort _}{δ:Sort _}{P Q R:α->β->γ->δ->Prop}{C:Prop}(h:∃a b c d,P a b c d/\Q a b c d/\R a b c d)(k:∀a b c d,P a b c d->Q a b c d->R a b c d->C):C:=h.elim λa q=>q.elim λb q=>q.elim λc q=>q.elim λd q=>k a b c d q.1 q.2.1 q.2.2
theorem Uy{α:Sort _}{β:Sort _}{γ:Sort _}{δ:Sort _}{P Q R S:α->β->γ->δ->Prop}{C:Prop}(h:∃a b c d,P a b c d/\Q a b c d/\R a b c d/\S a b c d)(k:∀a b c d,P a b c d->Q a b c d->R a b c d->S a b c d->C):C:=h.elim λa q=>q.elim λb q=>q.elim λc q=>q.elim λd q=>k a b c d q.1 q.2.1 q.2.2.1 q.2.2.2
theorem WU{α:Sort _}{β:Sort _}{γ:Sort _}{δ:Sort _}{P Q R S T:α->β->γ->δ->Prop}{C:Prop}(h:∃a b c d,P a b c d/\Q a b c d/\R a b c d/\S a b c d/\T a b c d)(k:∀a b c d,P a b c d->Q a b c d->R a b c d->S a b c d->T a b c d->C):C:=h.elim λa q=>q.elim λb q=>q.elim λc q=>q.elim λd q=>k a b c d q.1 q.2.1 q.2.2.1 q.2.2.2.1 q.2.2.2.2
theorem Uz{α:Sort _}{β:Sort _}{γ:Sort _}{δ:Sort _}{P Q R S T Č:α->β->γ->δ->Prop}{C:Prop}(h:∃a b c d,P a b c d/\Q a b c d/\R a b c d/\S a b c d/\T a b c d/\Č a b c d)(k:∀a b c d,P a b c d->Q a b c d->R a b c d->S a b c d->T a b c d->Č a b c d->C):C:=h.elim λa q=>q.elim λb q=>q.elim λc q=>q.elim λd q=>k a b c d q.1 q.2.1 q.2.2.1 q.2.2.2.1 q.2.2.2.2.1 q.2.2.2.2.2
theorem IN{α:Sort _}{β:Sort _}{γ:Sort _}{δ:Sort _}{ε:Sort _}{P:α->β->γ->δ->ε->Prop}{C:Prop}(h:∃a b c d f,P a b c d f)(k:∀a b c d f,P a b c d f->C):C:=h.elim λa q=>q.elim λb q=>q.elim λc q=>q.elim λd q=>q.elim λf q=>k a b c d f q
theorem Yx{α:Sort _}{β:Sort _}{γ:Sort _}{δ:Sort _}{ε:Sort _}{P Q R S:α->β->γ->δ->ε->Prop}{C:Prop}(h:∃a b c d f,P a b c d f/\Q a b c d f/\R a b c d f/\S a b c d f)(k:∀a b c d f,P a b c d f->Q a b c d f->R a b c d f->S a b c d f->C):C:=h.elim λa q=>q.elim λb q=>q.elim λc q=>q.elim λd q=>q.elim λf q=>k a b c d f q.1 q.2.1 q.2.2.1 q.2.2.2
theorem Yy{α:Sort _}{β:Sort _}{γ:Sort _}{δ:Sort _}{ε:Sort _}{P Q R S T:α->β->γ->δ->ε->Prop}{C:Prop}(h:∃a b c d f,P a b c d f/\Q a b c d f/\R a b c d f/\S a b c d f/\T a b c d f)(k:∀a b c d f,P a b c d f->Q a b c d f->R a b c d f->S a b c d f->T a b c d f->C):C:=h.elim λa q=>q.elim λb q=>q.elim λc q=>q.elim λd q=>q.elim λf q=>k a b c d f q.1 q.2.1 q.2.2.1 q.2.2.2.1 q.2.2.2.2
theorem fv{α:Sort _}{a b:α}{C:α->Prop}(h:a=b)(k:C a):C b:=h▸k
theorem aW{α:Sort _}{a b:α}{C:α->Prop}(h:b=a)(k:C a):C b:=h▸k
def hc{α:Type}(P:α->Prop)(d:α):α:=@Classical.epsilon α ⟨d⟩ λa=>¬ P a
theorem hk{α:Type}{d:α}{P:α->Prop}(h:P (hc P d))(a:α):P a:=abE λn=>@Classical.epsilon_spec α (λa=>¬ P a) ⟨a,n⟩ h
set_option autoImplicit true
def U2{a1 a2:Type}(f:a1->a2->Prop)(x:a1×a2):Prop:=f x.1 x.2
def U3{a1 a2 a3:Type}(f:a1->a2->a3->Prop)(x:a1×a2×a3):Prop:=U2 (f x.1) x.2
def U4{a1 a2 a3 a4:Type}(f:a1->a2->a3->a4->Prop)(x:a1×a2×a3×a4):Prop:=U3 (f x.1) x.2
def U5{a1 a2 a3 a4 a5:Type}(f:a1->a2->a3->a4->a5->Prop)(x:a1×a2×a3×a4×a5):Prop:=U4 (f x.1) x.2
def U6{a1 a2 a3 a4 a5 a6:Type}(f:a1->a2->a3->a4->a5->a6->Prop)(x:a1×a2×a3×a4×a5×a6):Prop:=U5 (f x.1) x.2
def U7{a1 a2 a3 a4 a5 a6 a7:Type}(f:a1->a2->a3->a4->a5->a6->a7->Prop)(x:a1×a2×a3×a4×a5×a6×a7):Prop:=U6 (f x.1) x.2
def U8{a1 a2 a3 a4 a5 a6 a7 a8:Type}(f:a1->a2->a3->a4->a5->a6->a7->a8->Prop)(x:a1×a2×a3×a4×a5×a6×a7×a8):Prop:=U7 (f x.1) x.2
def U9{a1 a2 a3 a4 a5 a6 a7 a8 a9:Type}(f:a1->a2->a3->a4->a5->a6->a7->a8->a9->Prop)(x:a1×a2×a3×a4×a5×a6×a7×a8×a9):Prop:=U8 (f x.1) x.2
def TZ{a1 a2 a3 a4 a5 a6 a7 a8 a9 vJ:Type}(f:a1->a2->a3->a4->a5->a6->a7->a8->a9->vJ->Prop)(x:a1×a2×a3×a4×a5×a6×a7×a8×a9×vJ):Prop:=U9 (f x.1) x.2
def Yk{a1 a2 a3 a4 a5 a6 a7 a8 a9 vJ AH:Type}(f:a1->a2->a3->a4->a5->a6->a7->a8->a9->vJ->AH->Prop)(x:a1×a2×a3×a4×a5×a6×a7×a8×a9×vJ×AH):Prop:=TZ (f x.1) x.2
def NO{a1 a2 a3 a4 a5 a6 a7 a8 a9 vJ AH E0:Type}(f:a1->a2->a3->a4->a5->a6->a7->a8->a9->vJ->AH->E0->Prop)(x:a1×a2×a3×a4×a5×a6×a7×a8×a9×vJ×AH×E0):Prop:=Yk (f x.1) x.2
def Qo{a1 a2 a3 a4 a5 a6 a7 a8 a9 vJ AH E0 L5:Type}(f:a1->a2->a3->a4->a5->a6->a7->a8->a9->vJ->AH->E0->L5->Prop)(x:a1×a2×a3×a4×a5×a6×a7×a8×a9×vJ×AH×E0×L5):Prop:=NO (f x.1) x.2
def T1{a1 a2 a3 a4 a5 a6 a7 a8 a9 vJ AH E0 L5 Qt:Type}(f:a1->a2->a3->a4->a5->a6->a7->a8->a9->vJ->AH->E0->L5->Qt->Prop)(x:a1×a2×a3×a4×a5×a6×a7×a8×a9×vJ×AH×E0×L5×Qt):Prop:=Qo (f x.1) x.2
def yx{a1 a2 a3 a4 a5 a6 a7 a8 a9 vJ AH E0 L5 Qt WG:Type}(f:a1->a2->a3->a4->a5->a6->a7->a8->a9->vJ->AH->E0->L5->Qt->WG->Prop)(x:a1×a2×a3×a4×a5×a6×a7×a8×a9×vJ×AH×E0×L5×Qt×WG):Prop:=T1 (f x.1) x.2
end Lar
set_option compiler.extract_closed false
set_option maxHeartbeats 1000000
@[elab_as_elim] theorem Lar.rwG.{u} {α:Sort u} {a b:α} {P:α->Prop} (x:P b) (h:a=b):P a:=h▸x
@[elab_as_elim] theorem Lar.rwH.{u} {α:Sort u} {a b:α} {P:α->Prop} (x:P b) (h:b=a):P a:=h▸x
section
local macro_rules
|`(tactic|show $t)=>`(tactic|first|refine $t|fail)
local macro_rules
 |`(tactic| rewrite [<-$e])=>`(tactic| first|refine Lar.rwH ?_ $e|fail)
 |`(tactic| rewrite [$e:term])=>`(tactic| first|refine Lar.rwG ?_ $e|fail)
 |`(tactic| rewrite [$r,$rs,*])=>`(tactic| (rewrite [$r];rewrite [$rs,*]))
set_option backward.match.sparseCases false
namespace Lar
open PySem
set_option genInjectivity true in
inductive V where
 |none
 |bool (b:Bool)
 |int (i:Int)
 |str (s:Str)
 |tup (l:List V)
 |ref (n:Nat)
 |ro (l:List Int)
set_option genInjectivity true in
inductive bp where
 |lst (l:List V)
 |di (l:List (Int×V))
 |ds (l:List (Str×V))
 |own
 |wd (w:Str)
 |exn (c d:Nat)
 |tab (q:Str)
noncomputable abbrev ag:=List bp
noncomputable abbrev aL:=Nat->Option V
noncomputable def cP(U:aL)(i:Nat)(v:V):aL:=λj=>if j=i then À v else U j
inductive nX where
 |len|sum|min2|max2|min1|max1|minD|tuple|list|str|int
 |isInt|isBool|isTuple|isStr|isList
 |sorted
inductive j3 where
 |append|extend|find|get|join
set_option genCtorIdx false in
inductive jS where
 |one (i:Nat)
 |two (i j:Nat)
set_option genCtorIdx false in
inductive KX where
 |var (i:Nat)
 |num (i:Int)
 |idx (a i:KX)
 |pair (a b:KX)
set_option genCtorIdx false in
mutual
inductive CE where
 |cst (v:V)
 |var (i:Nat)
 |bin (op:Operator) (a b:CE)
 |cmp (op:CmpOp) (a b:CE)
 |not (a:CE)
 |neg (a:CE)
 |and (a b:CE)
 |or (a b:CE)
 |ite (t a b:CE)
 |list (es:gb)
 |tuple (es:gb)
 |dict0
 |idx (a i:CE)
 |slc (a lo hi:CE)
 |call (f:Nat) (as:gb)
 |prim (p:nX) (as:gb)
 |meth (m:j3) (o:CE) (as:gb)
 |comp (elt:CE) (t:jS) (it:jo) (ifs:gb)
 |sortK (it:jo) (i:Nat) (k:KX)
 |word (e:CE)
 |isC (c:Nat) (e:CE)
 |zipl (a b:CE)
inductive gb where
 |nil
 |cons (e:CE) (r:gb)
inductive jo where
 |ex (e:CE)
 |rng1 (a:CE)
 |rng2 (a b:CE)
 |zip (a b:CE)
 |enm (a:CE)
end
set_option genCtorIdx false in
mutual
inductive CS where
 |assign (t:jS) (e:CE)
 |setItem (o i v:CE)
 |expr (e:CE)
 |ite (c:CE) (t e:ff)
 |for_ (t:jS) (it:jo) (body:ff)
 |while_ (c:CE) (body:ff)
 |ret (e:CE)
 |raise_ (c:Nat) (e:CE)
 |try_ (body:ff) (x:Nat) (h:ff)
inductive ff where
 |nil
 |cons (s:CS) (r:ff)
end
set_option genInjectivity true in
inductive cm where
 |next
 |ret (v:V)
 |exc (c:Nat) (w:Str)
set_option genInjectivity true in
inductive vH where
 |ok (v:V)
 |exc (c:Nat) (w:Str)
noncomputable def al:Nat:=16777216
noncomputable def tu(a b:Int):Bool:=decide (a.natAbs<18446744073709551616)||decide (b.natAbs<18446744073709551616)
noncomputable def px:V->Option Int
 |.int i=>À i
 |_=>Ã
noncomputable def NV:V->Option Bool
 |.bool b=>À b
 |_=>Ã
noncomputable def Cy:V->Option Str
 |.str x=>À x
 |_=>Ã
noncomputable def Cz:V->Option (List V)
 |.tup l=>À l
 |_=>Ã
noncomputable def sD:V->Option Nat
 |.ref r=>À r
 |_=>Ã
noncomputable def WJ:bp->Option (List V)
 |.lst l=>À l
 |_=>Ã
noncomputable def NW:bp->Option (List (Str×V))
 |.ds l=>À l
 |_=>Ã
noncomputable def Tp:V->Bool
 |.none=>Æ
 |_=>Ê
noncomputable def bT{α β:Type}(m:Option (α×ag))(k:α->ag->Option β):Option β:=match m with
 |none=>Ã
 |some p=>k p.1 p.2
noncomputable def mI{α β γ:Type}(m:Option (α×β×ag))(k:α->β->ag->Option γ):Option γ:=match m with
 |none=>Ã
 |some p=>k p.1 p.2.1 p.2.2
def lO{β:Type}(m:Option (V×ag))(k:Bool->ag->Option β):Option β:=bT m λx H=>(NV x).bind λb=>k b H
def qj{β:Type}(m:Option (V×ag))(k:Int->ag->Option β):Option β:=bT m λx H=>(px x).bind λb=>k b H
def lst(H:ag)(r:Nat):Option (List V):=(H[r]?).bind WJ
def ds(H:ag)(r:Nat):Option (List (Str×V)):=(H[r]?).bind NW
noncomputable def i5{κ β:Type}[DecidableEq κ]:List (κ×β)->κ->Option β
 |[],_=>Ã
 |(a,b)::r,k=>if a=k then À b else i5 r k
noncomputable def eT{κ β:Type}[DecidableEq κ]:List (κ×β)->κ->β->List (κ×β)
 |[],k,v=>[(k,v)]
 |(a,b)::r,k,v=>if a=k then (a,v)::r else (a,b)::eT r k v
def rV(H:ag)(l:List V):Option (V×ag):=if l.length<=al then À (.ref H.length,H++[.lst l]) else Ã
def rj(H:ag)(l:List V):Option (V×ag):=if l.length<=al then À (.tup l,H) else Ã
def Pc(H:ag)(x:Str):Option (V×ag):=if x.length<=al then À (.str x,H) else Ã
noncomputable def BL{α:Type}(l:List α):Nat->List α
 |0=>[]
 |n+1=>l++BL l n
def L6(a b:V)(H:ag):Option (V×ag):=match a with
 |.int x=>(px b).bind λy=>À (.int (x+y),H)
 |.str x=>(Cy b).bind λy=>if x.length+y.length<=al then À (.str (x++y),H) else Ã
 |.tup x=>(Cz b).bind λy=>rj H (x++y)
 |.ref i=>(sD b).bind λj=>(lst H i).bind λx=>(lst H j).bind λy=>rV H (x++y)
 |_=>Ã
def M4(a b:V)(H:ag):Option (V×ag):=(px b).bind λn=>match a with
 |.int x=>if tu x n then À (.int (x*n),H) else Ã
 |.ref i=>(lst H i).bind λx=>if 0<=n/\n<=100000/\x.length<=100 then rV H (BL x n.toNat) else Ã
 |_=>Ã
def Bj(f:Int->Int->Option Int)(a b:V)(H:ag):Option (V×ag):=(px a).bind λx=>(px b).bind λy=>(f x y).bind λz=>À (.int z,H)
noncomputable def Wv(x y:Int):Option Int:=À (x-y)
noncomputable def Uu(x y:Int):Option Int:=if y=0\/1073741824<=y.natAbs then Ã else À (x.fdiv y)
noncomputable def Wj(x y:Int):Option Int:=if y=0 then Ã else À (x.fmod y)
def oN(op:Operator)(a b:V)(H:ag):Option (V×ag):=match op with
 |.Add=>L6 a b H
 |.Mult=>M4 a b H
 |.Sub=>Bj Wv a b H
 |.FloorDiv=>Bj Uu a b H
 |.Mod=>Bj Wj a b H
 |_=>Ã
noncomputable def FQ(f:V->V->Option Bool):List V->List V->Option Bool
 |[],m=>À m.isEmpty
 |x::xs,m=>match m with
  |[]=>À Ê
  |y::ys=>(f x y).bind λa=>(FQ f xs ys).bind λb=>À (a&&b)
noncomputable def Oh:V->Option Bool
 |.none=>À Æ
 |.int _=>À Ê
 |.tup _=>À Ê
 |_=>Ã
noncomputable def QN(x:Int):V->Option Bool
 |.int y=>À (x==y)
 |.none=>À Ê
 |_=>Ã
def WW:Nat->V->V->Option Bool
 |0,_,_=>Ã
 |n+1,a,b=>match a with
  |.none=>Oh b
  |.bool p=>(NV b).bind λq=>À (p==q)
  |.int x=>QN x b
  |.str x=>(Cy b).bind λy=>À (x==y)
  |_=>Ã
def SQ(a b:V):Option Bool:=WW 6 a b
def JL(a b:List V):Option Bool:=FQ SQ a b
def FR(H:ag)(x:List V):V->Option Bool
 |.ref j=>(lst H j).bind λy=>if x.length=y.length then (if x.length=0 then À Æ else JL x y) else À Ê
 |.tup _=>À Ê
 |.none=>À Ê
 |_=>Ã
def Mk(H:ag)(a b:V):Option Bool:=match sD b with
 |some j=>(lst H j).bind λz=>À Ê
 |none=>SQ a b
def u1(H:ag)(a b:V):Option Bool:=match a with
 |.ref i=>(lst H i).bind λx=>FR H x b
 |.tup l=>Mk H (.tup l) b
 |.none=>Mk H .none b
 |a=>SQ a b
theorem yW{H:ag}{r q:Nat}{l:List V}(h1:lst H r=À l)(h2:lst H q=À []):u1 H (.ref r) (.ref q)=À (decide (l.length=0)):=by show (lst H r).bind (λx=>FR H x (.ref q))=_;rw[h1];show (lst H q).bind _=_;rw[h2];cases l<;>rfl
def qR(f:Int->Int->Bool)(a b:V):Option Bool:=(px a).bind λx=>(px b).bind λy=>À (f x y)
def Ki(a b:V):Option Bool:=match b with
 |.none=>À (Tp a)
 |_=>Ã
def MV(a b:V):Option Bool:=match b with
 |.none=>À (!Tp a)
 |.bool q=>(NV a).bind λp=>À (p != q)
 |_=>Ã
def AU(op:CmpOp)(a b:V)(H:ag):Option Bool:=match op with
 |.Eq=>u1 H a b
 |.NotEq=>(u1 H a b).bind λc=>À (!c)
 |.Lt=>qR (λx y=>decide (x<y)) a b
 |.LtE=>qR (λx y=>decide (x<=y)) a b
 |.Gt=>qR (λx y=>decide (y<x)) a b
 |.GtE=>qR (λx y=>decide (y<=x)) a b
 |.Is=>Ki a b
 |.IsNot=>MV a b
 |.In=>Ã
 |.NotIn=>Ã
def GI(l:List V)(i:V):Option V:=(px i).bind λk=>if 0<=k then l[k.toNat]? else Ã
def OR(i:V):bp->Option V
 |.lst l=>GI l i
 |.di l=>(px i).bind (i5 l)
 |.ds l=>(Cy i).bind (i5 l)
 |.own=>Ã
 |.wd _=>Ã
 |.exn _ _=>Ã
 |.tab _=>Ã
def lE(a i:V)(H:ag):Option V:=match a with
 |.tup l=>GI l i
 |.str x=>(px i).bind λk=>if 0<=k/\k<4611686018427387904 then (x.cps[k.toNat]?).bind (λc=>À (.str ⟨#[c]⟩)) else Ã
 |.ref r=>(H[r]?).bind (OR i)
 |_=>Ã
noncomputable def m6:V->Option Nat
 |.none=>À 0
 |.int k=>if 0<=k/\k<4611686018427387904 then À k.toNat else Ã
 |_=>Ã
noncomputable def kY(n:Nat):V->Option Nat
 |.none=>À n
 |.int k=>if 0<=k/\k<4611686018427387904 then À (min n k.toNat) else Ã
 |_=>Ã
noncomputable def oQ{α:Type}(l:List α)(lo hi:Nat):List α:=(l.take hi).drop lo
def xw(a lo hi:V)(H:ag):Option (V×ag):=match a with
 |.tup l=>(m6 lo).bind λi=>(kY l.length hi).bind λj=>rj H (oQ l i j)
 |.str x=>(m6 lo).bind λi=>(kY x.length hi).bind λj=>Pc H ⟨(oQ x.cps.toList i j).toArray⟩
 |_=>Ã
def pc(H:ag):V->Option (List V×List (Nat×bp))
 |.tup l=>À (l,[])
 |.ro l=>À (l.map .int,[])
 |.ref r=>(lst H r).bind λl=>À (l,[(r,.lst l)])
 |_=>Ã
noncomputable def cC:List V->Option (List Int)
 |[]=>À []
 |v::r=>(px v).bind λi=>(cC r).bind λl=>À (i::l)
noncomputable def m7:List Int->Option Int
 |[]=>Ã
 |x::r=>À (r.foldl (λa b=>max a b) x)
noncomputable def gs:List Int->Option Int
 |[]=>Ã
 |x::r=>À (r.foldl (λa b=>min a b) x)
def nY(l:List Str):Prop:=l.Pairwise λa b=>¬ (b.cps.toList<a.cps.toList)
open Classical in
def jQ(l:List Str):List Str:=if h:∃m:List Str,m.Perm l/\nY m then choose h else l
noncomputable def bz:List V->List V->List V
 |[],_=>[]
 |x::xs,m=>match m with
  |[]=>[]
  |y::ys=>.tup [x,y]::bz xs ys
noncomputable def js(f:V->Option (V×ag)):List V->Option (V×ag)
 |[]=>Ã
 |a::r=>if r.isEmpty then f a else Ã
def E5(f:V->V->Option (V×ag)):List V->Option (V×ag)
 |[]=>Ã
 |a::r=>js (f a) r
def rt(H:ag)(f:List Int->Option V)(a:V):Option (V×ag):=(pc H a).bind λp=>(cC p.1).bind λns=>(f ns).bind λv=>À (v,H)
def Hp(H:ag)(f:Int->Int->Int)(a b:V):Option (V×ag):=(px a).bind λx=>(px b).bind λy=>À (.int (f x y),H)
def R8(H:ag):V->Option (V×ag)
 |.str x=>if x.length<=al then À (.int x.length,H) else Ã
 |a=>(pc H a).bind λp=>À (.int p.1.length,H)
inductive AD where
 |none|bool|int|str|tup|lst
def MW(H:ag):V->Option AD
 |.none=>À .none
 |.bool _=>À .bool
 |.int _=>À .int
 |.str _=>À .str
 |.tup _=>À .tup
 |.ref r=>(lst H r).bind λz=>À .lst
 |.ro _=>Ã
noncomputable def AD.isInt:AD->Bool
 |.int=>Æ
 |.bool=>Æ
 |_=>Ê
noncomputable def AD.isBool:AD->Bool
 |.bool=>Æ
 |_=>Ê
noncomputable def AD.isTup:AD->Bool
 |.tup=>Æ
 |_=>Ê
noncomputable def AD.isLst:AD->Bool
 |.lst=>Æ
 |_=>Ê
noncomputable def nH(c d:Nat):Bool:=c==d||d==0||d==3
noncomputable def QA:bp->Option (Nat×Nat)
 |.exn c d=>if c==1||c==2 then À (c,d) else Ã
 |_=>Ã
def Bm(H:ag)(d:Nat)(a:V):Option V:=(sD a).bind λr=>(H[r]?).bind λm=>(QA m).bind λp=>À (.bool (nH p.1 d))
def Tu(H:ag)(f:AD->Bool)(a:V):Option (V×ag):=(MW H a).bind λk=>À (.bool (f k),H)
noncomputable def dA:Option Int->V
 |none=>.none
 |some m=>.int m
def gk(p:nX)(as:List V)(H:ag):Option (V×ag):=match p with
 |.len=>js (R8 H) as
 |.sum=>js (rt H λns=>À (.int (ns.foldl (·+·) 0))) as
 |.min2=>E5 (Hp H min) as
 |.max2=>E5 (Hp H max) as
 |.max1=>js (rt H λns=>(m7 ns).bind λm=>À (.int m)) as
 |.min1=>js (rt H λns=>(gs ns).bind λm=>À (.int m)) as
 |.minD=>js (rt H λns=>À (dA (gs ns))) as
 |.tuple=>js (λa=>(sD a).bind λr=>(lst H r).bind λl=>rj H l) as
 |.list=>js (λa=>(Cz a).bind λl=>rV H l) as
 |.str=>Ã
 |.int=>js (λa=>(NV a).bind λb=>À (.int (if b then 1 else 0),H)) as
 |.isInt=>js (Tu H AD.isInt) as
 |.isBool=>js (Tu H AD.isBool) as
 |.isTuple=>js (Tu H AD.isTup) as
 |.isStr=>Ã
 |.isList=>Ã
 |.sorted=>js (λa=>(sD a).bind λr=>(ds H r).bind λl=>if l.length<64 then rV H ((jQ (l.map (·.1))).map .str) else Ã) as
def Bw(H:ag)(o x:V):Option (V×ag):=(sD o).bind λr=>(lst H r).bind λl=>if l.length<=al then À (.none,H.set r (.lst (l++[x]))) else Ã
def pS(H:ag)(o x:V):Option (V×ag):=(sD o).bind λr=>(sD x).bind λq=>(lst H r).bind λl=>(lst H q).bind λk=>if l.length+k.length<=al/\r≠q then À (.none,H.set r (.lst (l++k))) else Ã
def M1(H:ag)(o x:V):Option (V×ag):=(Cy o).bind λa=>(Cy x).bind λb=>À (.int (Txt.find a b),H)
def RZ(H:ag)(o k d:V):Option (V×ag):=(sD o).bind λr=>(Cy k).bind λk=>(ds H r).bind λl=>À ((i5 l k).getD d,H)
def l6(m:j3)(o:V)(as:List V)(H:ag):Option (V×ag):=match m with
 |.append=>js (Bw H o) as
 |.extend=>js (pS H o) as
 |.find=>js (M1 H o) as
 |.get=>E5 (RZ H o) as
 |.join=>Ã
def rD(m:j3)(o:V)(H:ag):Bool:=match m with
 |.append=>((sD o).bind (lst H)).isSome
 |.extend=>((sD o).bind (lst H)).isSome
 |.find=>(Cy o).isSome
 |.join=>(Cy o).isSome
 |.get=>((sD o).bind (ds H)).isSome
def Nn(H:ag)(r:Nat)(l:List (Str×V))(v:V):V->Option ag
 |.str k=>if l.length<=al then À (H.set r (.ds (eT l k v))) else Ã
 |.int k=>if l.isEmpty then À (H.set r (.di [(k,v)])) else Ã
 |_=>Ã
def Se(H:ag)(r:Nat)(i v:V):bp->Option ag
 |.lst l=>(px i).bind λk=>if 0<=k/\k.toNat<l.length then À (H.set r (.lst (l.set k.toNat v))) else Ã
 |.di l=>(px i).bind λk=>if l.length<=al then À (H.set r (.di (eT l k v))) else Ã
 |.ds l=>Nn H r l v i
 |.own=>Ã
 |.wd _=>Ã
 |.exn _ _=>Ã
 |.tab _=>Ã
def rF(o i v:V)(H:ag):Option ag:=(sD o).bind λr=>(H[r]?).bind (Se H r i v)
noncomputable def tM:V->Option (V×V)
 |.tup l=>match l with
  |[a,b]=>À (a,b)
  |_=>Ã
 |_=>Ã
def jS.put(t:jS)(x:V)(U:aL):Option aL:=match t with
 |.one i=>À (cP U i x)
 |.two i j=>(tM x).bind λp=>À (cP (cP U i p.1) j p.2)
def cA(H:ag)(w:List (Nat×bp)):Prop:=∀p∈w,H[p.1]?=À p.2
noncomputable def iV(a b c:Int):Nat:=(if c > 0 then (if a<b then (b-a-1) / c+1 else 0) else (if a > b then (a-b-1) / (-c)+1 else 0)).toNat
def cp(a b c:Int):List V:=(ċ (iV a b c)).map λ(i:Nat)=>.int (a+(i:Int)*c)
noncomputable def jC(a:Int):Bool:=decide (-1000000000<=a)&&decide (a<=1000000000)
noncomputable def dI(i:Nat):List V->List V
 |[]=>[]
 |x::xs=>.tup [.int i,x]::dI (i+1) xs
def sh:V->Option (List Int)
 |.int k=>À [k]
 |.tup l=>match l with
  |[a,b]=>(px a).bind λx=>(px b).bind λy=>À [x,y]
  |_=>Ã
 |_=>Ã
noncomputable def ch:List Int->List Int->Bool
 |[],m=>!m.isEmpty
 |a::x,m=>match m with
  |[]=>Ê
  |b::y=>decide (a<b)||(a==b&&ch x y)
noncomputable abbrev KP:=List Int×Int
def lc(p q:KP):Bool:=ch p.1 q.1||(!ch q.1 p.1&&decide (p.2<q.2))
noncomputable def Df(p:KP):List KP->List KP
 |[]=>[p]
 |q::r=>if lc q p then q::Df p r else p::q::r
noncomputable def fo:List KP->List KP
 |[]=>[]
 |p::r=>Df p (fo r)
noncomputable def gm:Int->List Int->Bool
 |_,[]=>Æ
 |a,b::r=>decide (a<b)&&gm b r
noncomputable def c9:KX->aL->ag->Option V
 |.var i,U,_=>U i
 |.num i,_,_=>À (.int i)
 |.idx a i,U,H=>(c9 a U H).bind λx=>(c9 i U H).bind λy=>lE x y H
 |.pair a b,U,H=>(c9 a U H).bind λx=>(c9 b U H).bind λy=>À (.tup [x,y])
noncomputable def o5(k:KX)(i:Nat)(U:aL)(H:ag):List Int->Option (List KP)
 |[]=>À []
 |n::r=>(c9 k (cP U i (.int n)) H).bind λv=>(sh v).bind λl=>(o5 k i U H r).bind λps=>À ((l,n)::ps)
noncomputable def gG(ps:List KP):Bool:=ps.all λp=>ps.all λq=>p.1.length==q.1.length
def me(k:KX)(i:Nat)(U:aL)(H:ag)(xs:List V):Option (V×ag):=(cC xs).bind λns=>if gm (-1) ns/\ns.length<=10000000 then (o5 k i U H ns).bind λps=>if gG ps then rV H ((fo ps).map λp=>.int p.2) else Ã else Ã
noncomputable def KX.ce:KX->CE
 |.var i=>.var i
 |.num i=>.cst (.int i)
 |.idx a i=>.idx a.ce i.ce
 |.pair a b=>.tuple (.cons a.ce (.cons b.ce .nil))
noncomputable def BV(it:jo)(w:List (Nat×bp)):Bool:=match it with
 |.rng1 _=>Æ
 |_=>!w.isEmpty
noncomputable def Ua:bp->Option Str
 |.wd w=>À w
 |_=>Ã
def vu(H:ag)(a:V):Option V:=(sD a).bind λr=>(H[r]?).bind λm=>(QA m).bind λp=>(H[p.2]?).bind λm'=>(Ua m').bind λw=>À (.str w)
abbrev az:=Nat->List V->ag->Option (vH×ag)
abbrev Ex:=Option (cm×aL×ag)
def ig(m:Ex)(k:aL->ag->Ex):Ex:=mI m λf U H=>match f with
 |.next=>k U H
 |.ret v=>À (.ret v,U,H)
 |.exc c w=>À (.exc c w,U,H)
noncomputable def okV:vH->Option V
 |.ok v=>À v
 |.exc _ _=>Ã
abbrev XR:=Option (Nat×Str×ag)
noncomputable def JQ(H:ag):vH->XR
 |.ok _=>Ã
 |.exc c w=>À (c,w,H)
noncomputable def R7(a b:XR):XR:=match a with
 |some x=>À x
 |none=>b
noncomputable def E3(m:Ex)(x:XR)(U:aL):Ex:=match m with
 |some r=>À r
 |none=>x.bind λp=>À (.exc p.1 p.2.1,U,p.2.2)
open Classical in
def gh{β:Type}(H:ag)(w:List (Nat×bp))(x:Option β):Option β:=if cA H w then x else Ã
def lF(body:aL->ag->Ex)(t:jS)(w:List (Nat×bp)):List V->aL->ag->Ex
 |[],U,H=>gh H w (À (.next,U,H))
 |x::xs,U,H=>gh H w ((t.put x U).bind λaR=>ig (body aR H) λii ij=>lF body t w xs ii ij)
noncomputable def oL(Sl:aL->ag->Option (Bool×ag))(body:aL->ag->Ex):Nat->aL->ag->Ex
 |0,_,_=>Ã
 |n+1,U,H=>bT (Sl U H) λb ae=>if b then ig (body U ae) (λii ij=>oL Sl body n ii ij) else À (.next,U,ae)
def fQ(elt:aL->ag->Option (V×ag))(cond:aL->ag->Option (Bool×ag))(t:jS)(w:List (Nat×bp)):List V->aL->ag->Option (List V×ag)
 |[],_,H=>gh H w (À ([],H))
 |x::xs,U,H=>gh H w ((t.put x U).bind λaR=>bT (cond aR H) λb Î=>if b then bT (elt aR Î) λv Ý=>bT (fQ elt cond t w xs U Ý) λl bH=>À (v::l,bH) else fQ elt cond t w xs U Î)
mutual
def ab(Á:az):CE->aL->ag->Option (V×ag)
 |.cst v,_,H=>À (v,H)
 |.var i,U,H=>(U i).bind λv=>À (v,H)
 |.bin op a b,U,H=>bT (ab Á a U H) λx Î=>bT (ab Á b U Î) λy Ý=>oN op x y Ý
 |.cmp op a b,U,H=>bT (ab Á a U H) λx Î=>bT (ab Á b U Î) λy Ý=>(AU op x y Ý).bind λr=>À (.bool r,Ý)
 |.not a,U,H=>lO (ab Á a U H) λb Î=>À (.bool (!b),Î)
 |.neg a,U,H=>qj (ab Á a U H) λi Î=>À (.int (-i),Î)
 |.and a b,U,H=>lO (ab Á a U H) λp Î=>if p then ab Á b U Î else À (.bool Ê,Î)
 |.or a b,U,H=>lO (ab Á a U H) λp Î=>if p then À (.bool Æ,Î) else ab Á b U Î
 |.ite t a b,U,H=>lO (ab Á t U H) λp Î=>if p then ab Á a U Î else ab Á b U Î
 |.list es,U,H=>bT (bO Á es U H) λvs Î=>rV Î vs
 |.tuple es,U,H=>bT (bO Á es U H) λvs Î=>rj Î vs
 |.dict0,_,H=>À (.ref H.length,H++[.ds []])
 |.idx a i,U,H=>bT (ab Á a U H) λx Î=>bT (ab Á i U Î) λy Ý=>(lE x y Ý).bind λr=>À (r,Ý)
 |.slc a lo hi,U,H=>bT (ab Á a U H) λx Î=>bT (ab Á lo U Î) λy Ý=>bT (ab Á hi U Ý) λz bH=>xw x y z bH
 |.call f as,U,H=>bT (bO Á as U H) λvs Î=>bT (Á f vs Î) λr Ý=>(okV r).bind λv=>À (v,Ý)
 |.prim p as,U,H=>bT (bO Á as U H) λvs Î=>gk p vs Î
 |.meth m o as,U,H=>bT (ab Á o U H) λx Î=>if rD m x Î then bT (bO Á as U Î) λvs Ý=>l6 m x vs Ý else Ã
 |.comp elt t it ifs,U,H=>mI (cB Á it U H) λxs w Î=>bT (fQ (ab Á elt) (dp Á ifs) t w xs U Î) λl Ý=>rV Ý l
 |.sortK it i k,U,H=>mI (cB Á it U H) λxs w Î=>if BV it w then me k i U Î xs else Ã
 |.word e,U,H=>bT (ab Á e U H) λx Î=>(vu Î x).bind λv=>À (v,Î)
 |.isC c e,U,H=>bT (ab Á e U H) λx Î=>(Bm Î c x).bind λv=>À (v,Î)
 |.zipl a b,U,H=>bT (ab Á a U H) λx Î=>bT (ab Á b U Î) λy Ý=>(sD x).bind λr=>(lst Ý r).bind λxs=>(Cz y).bind λys=>rV (Ý++[.own]) (bz xs ys)
def dp(Á:az):gb->aL->ag->Option (Bool×ag)
 |.nil,_,H=>À (Æ,H)
 |.cons e r,U,H=>lO (ab Á e U H) λb Î=>if b then dp Á r U Î else À (Ê,Î)
def bO(Á:az):gb->aL->ag->Option (List V×ag)
 |.nil,_,H=>À ([],H)
 |.cons e r,U,H=>bT (ab Á e U H) λv Î=>bT (bO Á r U Î) λvs Ý=>À (v::vs,Ý)
def cB(Á:az):jo->aL->ag->Option (List V×List (Nat×bp)×ag)
 |.ex e,U,H=>bT (ab Á e U H) λx Î=>(pc Î x).bind λp=>À (p.1,p.2,Î)
 |.rng1 a,U,H=>qj (ab Á a U H) λn Î=>if jC n then À (cp 0 n 1,[],Î) else Ã
 |.rng2 a b,U,H=>qj (ab Á a U H) λm Î=>qj (ab Á b U Î) λn Ý=>if jC m&&jC n then À (cp m n 1,[],Ý) else Ã
 |.zip a b,U,H=>bT (ab Á a U H) λx Î=>bT (ab Á b U Î) λy Ý=>(Cz x).bind λxs=>(Cz y).bind λys=>À (bz xs ys,[(Ý.length,.own)],Ý++[.own])
 |.enm a,U,H=>bT (ab Á a U H) λx Î=>(Cz x).bind λxs=>À (dI 0 xs,[],Î)
end
mutual
def dD(Á:az):CE->aL->ag->XR
 |.call f as,U,H=>bT (bO Á as U H) λvs Î=>bT (Á f vs Î) λr Ý=>JQ Ý r
 |.meth m o as,U,H=>bT (ab Á o U H) λx Î=>if rD m x Î then lw Á as U Î else Ã
 |.list es,U,H=>lw Á es U H
 |_,_,_=>Ã
def lw(Á:az):gb->aL->ag->XR
 |.nil,_,_=>Ã
 |.cons e r,U,H=>R7 (dD Á e U H) (bT (ab Á e U H) λz Î=>lw Á r U Î)
end
def JP(Á:az):jo->aL->ag->XR
 |.ex e,U,H=>dD Á e U H
 |_,_,_=>Ã
def handled(m:Ex):Ex:=mI m λf U H=>match f with
 |.ret v=>À (.ret v,U,H)
 |_=>Ã
def Fw(k:aL->ag->Ex)(x:Nat)(m:Ex):Ex:=mI m λf U H=>match f with
 |.exc c w=>handled (k (cP U x (.ref (H.length+1))) (H++[.wd w,.exn c H.length]))
 |.next=>À (.next,U,H)
 |.ret v=>À (.ret v,U,H)
def bU(Á:az)(e:CE)(U:aL)(H:ag):Option (Bool×ag):=lO (ab Á e U H) λb Î=>À (b,Î)
noncomputable def kT:Nat:=100000
mutual
def bD(Á:az):CS->aL->ag->Ex
 |.assign t e,U,H=>E3 (bT (ab Á e U H) λv Î=>(t.put v U).bind λaR=>À (.next,aR,Î)) (dD Á e U H) U
 |.setItem o i v,U,H=>bT (ab Á v U H) λx Î=>bT (ab Á o U Î) λy Ý=>bT (ab Á i U Ý) λz bH=>(rF y z x bH).bind λlH=>À (.next,U,lH)
 |.expr e,U,H=>E3 (bT (ab Á e U H) λk Î=>À (.next,U,Î)) (dD Á e U H) U
 |.ite c t e,U,H=>lO (ab Á c U H) λb Î=>if b then aN Á t U Î else aN Á e U Î
 |.for_ t it body,U,H=>E3 (mI (cB Á it U H) λxs w Î=>lF (aN Á body) t w xs U Î) (JP Á it U H) U
 |.while_ c body,U,H=>oL (bU Á c) (aN Á body) kT U H
 |.ret e,U,H=>E3 (bT (ab Á e U H) λv Î=>À (.ret v,U,Î)) (dD Á e U H) U
 |.raise_ c e,U,H=>bT (ab Á e U H) λv Î=>(Cy v).bind λw=>À (.exc c w,U,Î)
 |.try_ body x h,U,H=>Fw (aN Á h) x (aN Á body U H)
def aN(Á:az):ff->aL->ag->Ex
 |.nil,U,H=>À (.next,U,H)
 |.cons s r,U,H=>ig (bD Á s U H) (aN Á r)
end
section
variable{Á:az}{U:aL}{H:ag}{t:jS}{e o i v c a b:CE}{it:jo}{x y:ff}
theorem gI:bD Á (.assign t e) U H=E3 (bT (ab Á e U H) λv Î=>(t.put v U).bind λaR=>À (.next,aR,Î)) (dD Á e U H) U:=rfl
theorem qu:bD Á (.setItem o i v) U H=bT (ab Á v U H) λx Î=>bT (ab Á o U Î) λy Ý=>bT (ab Á i U Ý) λz bH=>(rF y z x bH).bind λlH=>À (.next,U,lH):=rfl
theorem t9:bD Á (.expr e) U H=E3 (bT (ab Á e U H) λz Î=>À (.next,U,Î)) (dD Á e U H) U:=rfl
theorem FY:bD Á (.ite c x y) U H=lO (ab Á c U H) λb Î=>if b then aN Á x U Î else aN Á y U Î:=rfl
theorem yZ:bD Á (.for_ t it x) U H=E3 (mI (cB Á it U H) λxs w Î=>lF (aN Á x) t w xs U Î) (JP Á it U H) U:=rfl
theorem lR:bD Á (.ret e) U H=E3 (bT (ab Á e U H) λv Î=>À (.ret v,U,Î)) (dD Á e U H) U:=rfl
theorem wm{k:Nat}:bD Á (.raise_ k e) U H=bT (ab Á e U H) λv Î=>(Cy v).bind λw=>À (.exc k w,U,Î):=rfl
theorem y9{k:Nat}:bD Á (.try_ x k y) U H=Fw (aN Á y) k (aN Á x U H):=rfl
theorem kO:cB Á (.ex e) U H=bT (ab Á e U H) λx Î=>(pc Î x).bind λp=>À (p.1,p.2,Î):=rfl
theorem rN:cB Á (.zip a b) U H=bT (ab Á a U H) λx Î=>bT (ab Á b U Î) λy Ý=>(Cz x).bind λxs=>(Cz y).bind λys=>À (bz xs ys,[(Ý.length,.own)],Ý++[.own]):=rfl
theorem rM:cB Á (.enm a) U H=bT (ab Á a U H) λx Î=>(Cz x).bind λxs=>À (dI 0 xs,[],Î):=rfl
end
structure bo where
 arity:Nat
 body:ff
noncomputable def bI(as:List V):aL:=λi=>as[i]?
def hW(m:Ex):Option (vH×ag):=mI m λf z H=>match f with
 |.next=>À (.ok .none,H)
 |.ret v=>À (.ok v,H)
 |.exc c w=>À (.exc c w,H)
def aG(P:List bo):Nat->az
 |0=>λz z z=>Ã
 |d+1=>λf as H=>(P[f]?).bind λfn=>if as.length=fn.arity then hW (aN (aG P d) fn.body (bI as) H) else Ã
theorem i4{α β:Type}{m:Option (α×ag)}{k:α->ag->Option β}{r:β}(h:bT m k=À r):∃a H,m=À (a,H)/\k a H=À r:=by
 cases m with
 |none=>cases h
 |some p=>show⟨p.1,p.2,N,h⟩
theorem sG{α β γ:Type}{m:Option (α×β×ag)}{k:α->β->ag->Option γ}{r:γ}(h:mI m k=À r):∃a b H,m=À (a,b,H)/\k a b H=À r:=by
 cases m with
 |none=>cases h
 |some p=>show⟨p.1,p.2.1,p.2.2,N,h⟩
theorem ob{α β:Type}{m:Option α}{k:α->Option β}{r:β}(h:m.bind k=À r):∃a,m=À a/\k a=À r:=by
 cases m with
 |none=>cases h
 |some p=>show⟨p,N,h⟩
theorem no{α:Type}{r:α}{p:Prop}(h:(none:Option α)=À r):p:=nomatch h
theorem sm{α:Type}{a b:α}(h:À a=À b):a=b:=Option.some.inj h
theorem nT{α β:Type}{a a':α}{b b':β}(h:À (a,b)=À (a',b')):a=a'/\b=b':=⟨congrArg afI (sm h),congrArg Prod.snd (sm h)⟩
theorem No{α β γ:Type}{a a':α}{b b':β}{c c':γ}(h:À (a,b,c)=À (a',b',c')):a=a'/\b=b'/\c=c':=⟨congrArg (λp=>p.1) (sm h),congrArg (λp=>p.2.1) (sm h),congrArg (λp=>p.2.2) (sm h)⟩
theorem E8:∀{v:V} {i:Int},px v=À i->v=.int i
 |.none,_,h=>no h
 |.bool _,_,h=>no h
 |.int _,_,h=>congrArg _ (sm h)
 |.str _,_,h=>no h
 |.tup _,_,h=>no h
 |.ref _,_,h=>no h
 |.ro _,_,h=>no h
theorem E7:∀{v:V} {i:Bool},NV v=À i->v=.bool i
 |.none,_,h=>no h
 |.bool _,_,h=>congrArg _ (sm h)
 |.int _,_,h=>no h
 |.str _,_,h=>no h
 |.tup _,_,h=>no h
 |.ref _,_,h=>no h
 |.ro _,_,h=>no h
theorem mF:∀{v:V} {i:List V},Cz v=À i->v=.tup i
 |.none,_,h=>no h
 |.bool _,_,h=>no h
 |.int _,_,h=>no h
 |.str _,_,h=>no h
 |.tup _,_,h=>congrArg _ (sm h)
 |.ref _,_,h=>no h
 |.ro _,_,h=>no h
theorem E9:∀{v:bp} {i:List V},WJ v=À i->v=.lst i
 |.lst _,_,h=>congrArg _ (sm h)
 |.di _,_,h=>no h
 |.ds _,_,h=>no h
 |.own,_,h=>no h
 |.wd _,_,h=>no h
 |.exn _ _,_,h=>no h
 |.tab _,_,h=>no h
theorem Cv:∀{v:bp} {i:List (Str×V)},NW v=À i->v=.ds i
 |.lst _,_,h=>no h
 |.di _,_,h=>no h
 |.ds _,_,h=>congrArg _ (sm h)
 |.own,_,h=>no h
 |.wd _,_,h=>no h
 |.exn _ _,_,h=>no h
 |.tab _,_,h=>no h
theorem sH{β:Type}{m:Option (V×ag)}{k:Bool->ag->Option β}{r:β}(h:lO m k=À r):∃b H,m=À (.bool b,H)/\k b H=À r:=by show gq (i4 h) λv H h1 h2=>aF (ob h2) λb h3 h4=>⟨b,H,E7 h3▸h1,h4⟩
theorem CB{β:Type}{m:Option (V×ag)}{k:Int->ag->Option β}{r:β}(h:qj m k=À r):∃b H,m=À (.int b,H)/\k b H=À r:=by show gq (i4 h) λv H h1 h2=>aF (ob h2) λb h3 h4=>⟨b,H,E8 h3▸h1,h4⟩
theorem qV{H:ag}{r:Nat}{l:List V}(h:lst H r=À l):H[r]?=À (.lst l):=by show aF (ob h) λm h1 h2=>E9 h2▸h1
theorem t4{H:ag}{r:Nat}{l:List (Str×V)}(h:ds H r=À l):H[r]?=À (.ds l):=by show aF (ob h) λm h1 h2=>Cv h2▸h1
theorem cy{H:ag}{r:Nat}{l:List V}(h:H[r]?=À (.lst l)):lst H r=À l:=by unfold lst;rw[h];rfl
theorem ft{f:V->Option (V×ag)}{as:List V}{r:V×ag}(h:js f as=À r):∃a,as=[a]/\f a=À r:=by
 cases as with
 |nil=>cases h
 |cons a t=>
  cases t with
  |nil=>show⟨a,N,h⟩
  |cons b t=>cases h
theorem sC{f:V->V->Option (V×ag)}{as:List V}{r:V×ag}(h:E5 f as=À r):∃a b,as=[a,b]/\f a b=À r:=by
 cases as with
 |nil=>cases h
 |cons a t=>show aF (ft (f:=f a) h) λb h1 h2=>⟨a,b,by rw[h1],h2⟩
theorem cT{α:Type}{c:Prop}[Decidable c]{x:Option α}{r:α}(h:(if c then x else Ã)=À r):c/\x=À r:=by
 by_cases hc:c
 ·rw[if_pos hc]at h;show⟨hc,h⟩
 ·rw[if_neg hc]at h;cases h
theorem oX{β:Type}{H:ag}{w:List (Nat×bp)}{x:Option β}{r:β}(h:gh H w x=À r):cA H w/\x=À r:=by unfold gh at h;show @cT _ _ (_) _ _ h
theorem jb{β:Type}{H:ag}{w:List (Nat×bp)}{x:Option β}(h:cA H w):gh H w x=x:=by unfold gh;rw[if_pos h]
theorem jg{m:Ex}{k:aL->ag->Ex}{fl:cm}{aR:aL}{ae:ag}(h:ig m k=À (fl,aR,ae)):(∃cJ Î,m=À (.next,cJ,Î)/\k cJ Î=À (fl,aR,ae))\/(m=À (fl,aR,ae)/\fl≠.next):=by
 show oS (sG h) λf U H h1 h2=>?_;cases f with
 |next=>show .inl ⟨U,H,h1,h2⟩
 |ret v=>show gH (No h2) λe1 e2 e3=>.inr ⟨by rw[h1,e1,e2,e3],λe=>nomatch (e1.trans e)⟩
 |exc c w=>show gH (No h2) λe1 e2 e3=>.inr ⟨by rw[h1,e1,e2,e3],λe=>nomatch (e1.trans e)⟩
theorem vK{m:bp}{p:Nat×Nat}(h:QA m=À p):m=.exn p.1 p.2/\(p.1=1\/p.1=2):=by
 cases m with
 |exn c d=>show aO (cT h) λh1 h2=>?_;have h2:=Option.some.inj h2;apply fv h2;show⟨rfl,by simpa using h1⟩
 |_=>show no h
theorem Fb{m:bp}{w:Str}(h:Ua m=À w):m=.wd w:=by
 cases m with
 |wd u=>show congrArg _ (Option.some.inj h)
 |_=>show no h
theorem fO{m:Ex}{x:XR}{U aR:aL}{fl:cm}{ae:ag}(h:E3 m x U=À (fl,aR,ae)):m=À (fl,aR,ae)\/∃c w,fl=.exc c w/\aR=U/\x=À (c,w,ae):=by
 cases m with
 |some r=>show .inl h
 |none=>show aF (ob (m:=x) h) λk1 h1 h2=>?_;obtain ⟨c,w,Î⟩:=k1;show gH (No h2) λq1 q2 q3=>?_;apply fv q1;apply fv q2;apply fv q3;show .inr ⟨c,w,rfl,rfl,h1⟩
theorem lL{m:Ex}{x:XR}{U:aL}{r:cm×aL×ag}(h:m=À r):E3 m x U=À r:=by rw[h];rfl
theorem pL{m:Ex}{x:XR}{U:aL}{c:Nat}{w:Str}{H:ag}(h:m=Ã)(hx:x=À (c,w,H)):E3 m x U=À (.exc c w,U,H):=by rw[h,hx];rfl
theorem Hq{a b:XR}{r:Nat×Str×ag}(h:R7 a b=À r):a=À r\/(a=Ã/\b=À r):=by
 cases a with
 |some x=>show .inl h
 |none=>show .inr ⟨N,h⟩
theorem CR{H ae:ag}{r:vH}{c:Nat}{w:Str}(h:JQ H r=À (c,w,ae)):r=.exc c w/\ae=H:=by
 cases r with
 |ok v=>show no h
 |exc c' w'=>show gH (No h) λq1 q2 q3=>?_;apply aW q1;apply aW q2;apply aW q3;show⟨N,N⟩
theorem j8{Á:az}{U:aL}{H:ag}:∀{k:KX} {v:V},c9 k U H=À v->ab Á k.ce U H=À (v,H)
 |.var i,v,h=>by show (U i).bind (λv=>À (v,H))=_;rw[show U i=À v from h];rfl
 |.num i,v,h=>by rw[<-sm h];rfl
 |.idx a i,v,h=>by show aF (ob h) λx h1 h=>aF (ob h) λy h2 h=>?_;show bT (ab Á a.ce U H) (λx Î=>bT (ab Á i.ce U Î) λy Ý=>(lE x y Ý).bind λr=>À (r,Ý))=_;rw[j8 h1];show bT (ab Á i.ce U H) (λy Ý=>(lE x y Ý).bind λr=>À (r,Ý))=_;rw[j8 h2];show (lE x y H).bind (λr=>À (r,H))=_;rw[h];rfl
 |.pair a b,v,h=>by show aF (ob h) λx h1 h=>aF (ob h) λy h2 h=>?_;rw[<-sm h];show bT (bT (ab Á a.ce U H) (λv Î=>bT (bT (ab Á b.ce U Î) λw Ý=>bT (À ([],Ý)) λvs bH=>À (w::vs,bH)) λvs Ý=>À (v::vs,Ý))) (λvs Î=>rj Î vs)=_;rw[j8 h1];show bT (bT (bT (ab Á b.ce U H) λw Ý=>bT (À ([],Ý)) λvs bH=>À (w::vs,bH)) λvs Ý=>À (x::vs,Ý)) (λvs Î=>rj Î vs)=_;rw[j8 h2];rfl
theorem dM{Á:az}{e:CE}{U:aL}{H ae:ag}{b:Bool}(h:bU Á e U H=À (b,ae)):ab Á e U H=À (.bool b,ae):=by show gq (sH h) λc Î h1 h2=>aO (nT h2) λe1 e2=>?_;rw[h1,e1,e2]
theorem bR{Á:az}{e:CE}{U:aL}{H ae:ag}{b:Bool}(h:ab Á e U H=À (.bool b,ae)):bU Á e U H=À (b,ae):=by unfold bU;rw[h];rfl
theorem bW{α β:Type}{m:Option α}{k:α->Option β}{r:β}{C:Prop}(h:m.bind k=À r)(c:∀a,m=À a->k a=À r->C):C:=(ob h).elim λa q=>c a q.1 q.2
theorem ie{α β γ:Type}{m:Option α}{n:α->Option β}{k:α->β->Option γ}{r:γ}{C:Prop}(h:m.bind (λa=>(n a).bind (k a))=À r)(c:∀a b,m=À a->n a=À b->k a b=À r->C):C:=bW h λa h1 h=>bW h λb h2 h=>c a b h1 h2 h
theorem BA{α γ β:Type}{m:Option (α×γ)}{k:α×γ->Option β}{r:β}{C:Prop}(h:m.bind k=À r)(c:∀a b,m=À (a,b)->k (a,b)=À r->C):C:=(ob h).elim λa q=>c a.1 a.2 q.1 q.2
theorem dz{α β:Type}{m:Option (α×ag)}{k:α->ag->Option β}{r:β}{C:Prop}(h:bT m k=À r)(c:∀a H,m=À (a,H)->k a H=À r->C):C:=(i4 h).elim λa q=>q.elim λH q=>c a H q.1 q.2
theorem r5{α β γ:Type}{m:Option (α×ag)}{n:α->ag->Option (β×ag)}{k:α->ag->β->ag->Option γ}{r:γ}{C:Prop}(h:bT m (λa H=>bT (n a H) (k a H))=À r)(c:∀a H b τ,m=À (a,H)->n a H=À (b,τ)->k a H b τ=À r->C):C:=dz h λa H h1 h=>dz h λb τ h2 h=>c a H b τ h1 h2 h
theorem oO{α β γ:Type}{m:Option (α×β×ag)}{k:α->β->ag->Option γ}{r:γ}{C:Prop}(h:mI m k=À r)(c:∀a b H,m=À (a,b,H)->k a b H=À r->C):C:=(sG h).elim λa q=>q.elim λb q=>q.elim λH q=>c a b H q.1 q.2
theorem j6{β:Type}{m:Option (V×ag)}{k:Bool->ag->Option β}{r:β}{C:Prop}(h:lO m k=À r)(c:∀b H,m=À (.bool b,H)->k b H=À r->C):C:=(sH h).elim λa q=>q.elim λH q=>c a H q.1 q.2
theorem AN{β:Type}{m:Option (V×ag)}{k:Int->ag->Option β}{r:β}{C:Prop}(h:qj m k=À r)(c:∀b H,m=À (.int b,H)->k b H=À r->C):C:=(CB h).elim λa q=>q.elim λH q=>c a H q.1 q.2
theorem dF{α:Type}{c:Prop}[Decidable c]{x:Option α}{r:α}{C:Prop}(h:(if c then x else Ã)=À r)(k:c->x=À r->C):C:=k (cT h).1 (cT h).2
theorem dC{α:Type}{a b:α}{C:α->Prop}(h:À a=À b)(k:C a):C b:=sm h▸k
theorem dn{α β:Type}{a a':α}{b b':β}{C:α->β->Prop}(h:À (a,b)=À (a',b'))(k:C a b):C a' b':=dC (C:=λp=>C p.1 p.2) h k
theorem jh{α β γ:Type}{a a':α}{b b':β}{c c':γ}{C:α->β->γ->Prop}(h:À (a,b,c)=À (a',b',c'))(k:C a b c):C a' b' c':=dC (C:=λp=>C p.1 p.2.1 p.2.2) h k
theorem qL{β:Type}{H:ag}{w:List (Nat×bp)}{x:Option β}{r:β}{C:Prop}(h:gh H w x=À r)(c:cA H w->x=À r->C):C:=c (oX h).1 (oX h).2
end Lar
namespace Lar
open PySem
structure f9 where
 funs:List Str
 consts:List (Str×Int)
 classes:List (Str×Nat)
 calm:List Nat
noncomputable def je(scope bQ:á):á:=
 {scope with names:=scope.names.map λ(n,k)=>if (k==.free&&bQ.kind==.function&&bQ.names.lookup n==À .cell) then (n,.cell) else (n,k)}
noncomputable def fS(sc:á):Bool:=sc.names.all λx=>x.2 != .free&&x.1 != (".0":Str)
noncomputable def GK:ą->Bool
 |.local=>Æ
 |.cell=>Æ
 |.free=>Æ
 |_=>Ê
def vV(cx:f9)(sc:á)(O:List (Str×Nat))(x:Str):Option CE:=
 if x==("__debug__":Str)||x==("__classdict__":Str) then Ã else
 (sc.names.lookup x).bind λk=>if GK k then (O.lookup x).bind λi=>À (.var i) else if k==.globalImplicit then (cx.consts.lookup x).bind λi=>À (.cst (.int i)) else Ã
noncomputable def lh{α:Type}:List α->Option α
 |[]=>Ã
 |a::r=>if r.isEmpty then À a else Ã
def two{α:Type}:List α->Option (α×α)
 |[]=>Ã
 |a::r=>(lh r).bind λb=>À (a,b)
theorem bX{α:Type}{l:List α}{a:α}(h:lh l=À a):l=[a]:=by
 cases l with
 |nil=>show no h
 |cons b t=>
  cases t with
  |nil=>show congrArg (λx=>[x]) (sm h)
  |cons c t=>show no h
theorem hG{α:Type}{l:List α}{p:α×α}(h:two l=À p):l=[p.1,p.2]:=by
 cases l with
 |nil=>show no h
 |cons b t=>show bW (α:=α) h λc h1 h2=>dC (C:=λp=>b::t=[p.1,p.2]) h2 (congrArg (b::·) (bX h1))
noncomputable def Mn{α:Type}(d:α)(O:Str->α)(tp:List Ô->α)(cl:Ô->List Ô->List Keyword->α)(lm:Ļ->Ô->á->α):Ô->α
 |.Name x _=>O x
 |.Tuple l _ _=>tp l
 |.Call f as ks _=>cl f as ks
 |.Lambda ps b sc _=>lm ps b sc
 |_=>d
theorem QO{α:Type}{r:α}{O:Str->Option α}{tp:List Ô->Option α}{cl:Ô->List Ô->List Keyword->Option α}{lm:Ļ->Ô->á->Option α}{e:Ô}{C:Ô->Prop}(h:Mn Ã O tp cl lm e=À r)
  (h1:∀x p,O x=À r->C (.Name x p)) (h2:∀l k p,tp l=À r->C (.Tuple l k p)) (h3:∀f as ks p,cl f as ks=À r->C (.Call f as ks p)) (h4:∀ps b sc p,lm ps b sc=À r->C (.Lambda ps b sc p)):C e:=by
 cases e with
 |Name x p=>show h1 x p h
 |Tuple l k p=>show h2 l k p h
 |Call f as ks p=>show h3 f as ks p h
 |Lambda ps b sc p=>show h4 ps b sc p h
 |_=>show no h
noncomputable def n1{α β:Type}(_:α):Option β:=Ã
noncomputable def n3{α β γ δ:Type}(_:α)(_:β)(_:γ):Option δ:=Ã
def dj:Ô->Option Str:=Mn Ã À n1 n3 n3
theorem bB{e:Ô}{x:Str}(h:dj e=À x):∃p,e=.Name x p:=
 QO (C:=λe=>∃p,e=.Name x p) h (λy p h=>⟨p,congrArg (Expr.Name · p) (sm h)⟩) (λz z z h=>no h) (λz z z z h=>no h) λz z z z h=>no h
noncomputable def cc(f:Ô->Option CE):List Ô->Option gb
 |[]=>À .nil
 |e::r=>(f e).bind λc=>(cc f r).bind λcs=>À (.cons c cs)
noncomputable def Uo(op:BoolOp)(a b:CE):CE:=match op with
 |.And=>.and a b
 |.Or=>.or a b
noncomputable def vO(f:Ô->Option CE)(op:BoolOp):List Ô->Option CE
 |[]=>Ã
 |e::r=>if r.isEmpty then f e else (f e).bind λa=>(vO f op r).bind λb=>À (Uo op a b)
noncomputable def yK:Const->Option V
 |.none=>À .none
 |.bool b=>À (.bool b)
 |.int i=>À (.int i)
 |.str s=>À (.str s)
 |_=>Ã
noncomputable def Fo(f:Ô->Option CE):Option Ô->Option CE
 |none=>À (.cst .none)
 |some e=>f e
noncomputable def bi(sc:á)(x:Str):Bool:=sc.names.lookup x==À .globalImplicit && !(x==("__debug__":Str))
noncomputable def eN:List Str:=["len","sum","min","max","tuple","list","str","int","isinstance","sorted","range","zip","enumerate","bool","ValueError"]
noncomputable def B6{α:Type}(t:List (Str×Nat×α))(x:Str)(n:Nat):Option α:=(t.find? λq=>q.1==x&&q.2.1==n).bind λq=>À q.2.2
theorem mf{α:Type}{t:List (Str×Nat×α)}{x:Str}{n:Nat}{a:α}(h:B6 t x n=À a):(x,n,a)∈t:=by
 show bW h λq h1 h2=>?_;apply dC h2;have h3:=List.find?_some h1
 simp only[ň,beq_iff_eq]at h3
 show aO h3 λq1 q2=>?_;apply fv q1;apply fv q2;show List.mem_of_find?_eq_some h1
noncomputable def BF:List (Str×Nat×nX):=[("len",1,.len),("sum",1,.sum),("min",2,.min2),("max",2,.max2),("min",1,.min1),("max",1,.max1),("tuple",1,.tuple),("list",1,.list),("str",1,.str),("int",1,.int),("sorted",1,.sorted)]
def Fp(x:Str)(n:Nat):Option nX:=B6 BF x n
noncomputable def GL:List (Str×Nat×nX):=[("int",0,.isInt),("bool",0,.isBool),("tuple",0,.isTuple),("str",0,.isStr),("list",0,.isList)]
def N8(x:Str):Option nX:=B6 GL x 0
noncomputable def By:List (Str×Nat×j3):=[("append",1,.append),("extend",1,.extend),("find",1,.find),("get",2,.get),("join",1,.join)]
def AP(x:Str)(n:Nat):Option j3:=B6 By x n
noncomputable def gU(cx:f9)(x:Str):Option Nat:=cx.funs.findIdx? (·==x)
noncomputable def oK(sc:á)(O:List (Str×Nat))(x:Str):Option Nat:=if sc.names.lookup x==À .local||sc.names.lookup x==À .cell then O.lookup x else Ã
def L7:Ô->Option (List Ô):=Mn Ã n1 À n3 n3
theorem qh{e:Ô}{l:List Ô}(h:L7 e=À l):∃k p,e=.Tuple l k p:=
 QO (C:=λe=>∃k p,e=.Tuple l k p) h (λz z h=>no h) (λm k p h=>⟨k,p,congrArg (Expr.Tuple · k p) (sm h)⟩) (λz z z z h=>no h) λz z z z h=>no h
def fP(sc:á)(O:List (Str×Nat))(e:Ô):Option jS:=match dj e with
 |some x=>(oK sc O x).bind λi=>À (.one i)
 |none=>(L7 e).bind λl=>(two l).bind λp=>(dj p.1).bind λx=>(dj p.2).bind λy=>if x==y then Ã else (oK sc O x).bind λi=>(oK sc O y).bind λj=>À (.two i j)
def ba:Ô->List Str:=Mn [] (λx=>[x]) (λl=>l.filterMap dj) (λz z z=>[]) (λz z z=>[])
noncomputable def Ah:Ô->Bool
 |.Name _ _=>Æ
 |.Constant _ _ _=>Æ
 |.Subscript _ _ _=>Æ
 |_=>Ê
noncomputable def o4:jo->Bool
 |.zip _ _=>Æ
 |.enm _=>Æ
 |_=>Ê
noncomputable def jS.isTwo:jS->Bool
 |.one _=>Ê
 |.two _ _=>Æ
def mV(it:jo)(t:jS):Bool:=!o4 it||t.isTwo
noncomputable def cn(scope:á)(O:List (Str×Nat))(nx:Nat)(ts:List Str):List (Str×Nat):=
 ts.zipIdx nx++(scope.names.filterMap λ(n,k)=>if k==.free then (O.lookup n).map λi=>(n,i) else Ã)
def tW(scope bQ:á)(O:List (Str×Nat))(nx:Nat)(ts:List Str):Bool:=
 scope.kind==.function &&
 scope.names.all (λ(_,k)=>k==.local||k==.cell||k==.free||k==.globalImplicit) &&
 scope.names.all (λ(n,k)=>scope.names.lookup n==À k) &&
 scope.names.all (λ(n,k)=>k != .free||((bQ.names.lookup n==À .cell||bQ.names.lookup n==À .free)&&(O.lookup n).isSome)) &&
 scope.names.all (λ(n,k)=>!(k==.local||k==.cell)||n==(".0":Str)||ts.contains n) &&
 ts.all (λt=>scope.names.lookup t==À .local||scope.names.lookup t==À .cell) &&
 O.all (λ(_,i)=>decide (i<nx)) &&
 !fS (je scope bQ)
noncomputable def WN(op:UnaryOp)(a:CE):Option CE:=match op with
 |.Not=>À (.not a)
 |_=>Ã
def QF(f:Ô->Option CE)(l:Ô)(ops:List CmpOp)(rs:List Ô):Option CE:=(lh ops).bind λop=>(lh rs).bind λr=>if behindInMarks op r then Ã else (f l).bind λa=>(f r).bind λb=>À (.cmp op a b)
def QI(f:Ô->Option CE)(v i:Ô):Option CE:=(f v).bind λa=>match i with
 |.Slice lo hi st _=>if st.isNone then (Fo f lo).bind λx=>(Fo f hi).bind λy=>À (.slc a x y) else Ã
 |i=>(f i).bind λx=>À (.idx a x)
def Ma(f:Ô->Option CE)(sc:á)(as:List Ô):Option CE:=(two as).bind λp=>(dj p.2).bind λt=>if bi sc t then (N8 t).bind λq=>(f p.1).bind λa=>À (.prim q (.cons a .nil)) else Ã
noncomputable def gR:List (Str×Nat):=[("LarderError",0),("TooMuch",1),("Short",2),("ValueError",3)]
def Md(as:List Ô):Option Nat:=(two as).bind λp=>(dj p.2).bind λt=>gR.lookup t
def N7(f:Ô->Option CE)(sc:á)(as:List Ô):Option CE:=(two as).bind λp=>(dj p.2).bind λt=>if bi sc t then (gR.lookup t).bind λc=>(f p.1).bind λa=>À (.isC c a) else Ã
def j7:Ô->Option (Str×List Ô):=Mn Ã n1 n1 (λfn as ks=>if ks.isEmpty then (dj fn).bind λg=>À (g,as) else Ã) n3
theorem iM{e:Ô}{g:Str}{as:List Ô}(h:j7 e=À (g,as)):∃p q,e=.Call (.Name g p) as [] q:=
 QO (C:=λe=>∃p q,e=.Call (.Name g p) as [] q) h (λz z h=>no h) (λz z z h=>no h) (λfn WI ks q h=>dF h λh1 h2=>bW h2 λx h3 h4=>
  dn (C:=λg as=>∃p q',Expr.Call fn WI ks q=.Call (.Name g p) as [] q') h4 ((bB h3).elim λp e=>⟨p,q,by rw[e,Ų.mp h1]⟩)) λz z z z h=>no h
def ID(cx:f9)(sc:á)(g:Str)(as:List Ô):Option (Ô×Ô):=if g==("list":Str) then (lh as).bind λe=>(j7 e).bind λq=>if q.1==("zip":Str)&&bi sc ("zip":Str)&&(gU cx ("zip":Str)).isNone then two q.2 else Ã else Ã
noncomputable def Uq(f:Ô->Option CE)(p:Ô×Ô):Option CE:=(f p.1).bind λx=>(f p.2).bind λy=>À (.zipl x y)
def qk(f:Ô->Option CE)(cx:f9)(sc:á)(g:Str)(as:List Ô):Option CE:=match gU cx g with
 |some k=>if as.isEmpty then Ã else (cc f as).bind λcs=>À (.call k cs)
 |none=>if g==("isinstance":Str) then (if (Md as).isSome then N7 f sc as else Ma f sc as) else match ID cx sc g as with
  |some p=>Uq f p
  |none=>(Fp g as.length).bind λp=>(cc f as).bind λcs=>À (.prim p cs)
noncomputable def dg(p:Ļ):Bool:=p.posonlyargs.isEmpty&&p.vararg.isNone&&p.kwonlyargs.isEmpty&&p.kw_defaults.isEmpty&&p.kwarg.isNone&&p.defaults.isEmpty
def MX:Ô->Option (Arg×Ô×á):=Mn Ã n1 n1 n3 λps body scope=>if dg ps then (lh ps.args).bind λa=>À (a,body,scope) else Ã
theorem zS{e:Ô}{a:Arg}{body:Ô}{scope:á}(h:MX e=À (a,body,scope)):∃ps pos,e=.Lambda ps body scope pos/\dg ps=Æ/\ps.args=[a]:=
 QO (C:=λe=>∃ps pos,e=.Lambda ps body scope pos/\dg ps=Æ/\ps.args=[a]) h (λz z h=>no h) (λz z z h=>no h) (λz z z z h=>no h) λps b sc p h=>
  dF h λh1 h2=>bW h2 λc h3 h4=>jh (C:=λa body scope=>∃Nh pos,Expr.Lambda ps b sc p=.Lambda Nh body scope pos/\dg Nh=Æ/\Nh.args=[a]) h4 ⟨ps,p,N,h1,bX h3⟩
def GZ(scope bQ:á)(O:List (Str×Nat))(nx:Nat)(x:Str):Bool:=
 scope.kind==.function && !scope.isGenerator && !scope.isCoroutine &&
 scope.names.all (λ(_,k)=>k==.local||k==.free||k==.globalImplicit) &&
 scope.names.all (λ(n,k)=>scope.names.lookup n==À k) &&
 scope.names.all (λ(n,k)=>k != .free||((bQ.names.lookup n==À .cell||bQ.names.lookup n==À .free)&&(O.lookup n).isSome)) &&
 scope.names.lookup x==À .local &&
 O.all (λ(_,i)=>decide (i<nx)) &&
 !fS scope
noncomputable def Qy:Const->Option Int
 |.int i=>À i
 |_=>Ã
noncomputable def Qz:CE->Option Nat
 |.var i=>À i
 |_=>Ã
def EB(cx:f9)(sc:á)(O:List (Str×Nat)):Nat->Ô->Option KX
 |0,_=>Ã
 |n+1,e=>match e with
  |.Name x _=>(vV cx sc O x).bind λc=>(Qz c).bind λi=>À (.var i)
  |.Constant c _ _=>(Qy c).bind λi=>À (.num i)
  |.Subscript v i _=>(EB cx sc O n v).bind λa=>(EB cx sc O n i).bind λb=>À (.idx a b)
  |.Tuple es _ _=>(two es).bind λp=>(EB cx sc O n p.1).bind λa=>(EB cx sc O n p.2).bind λb=>À (.pair a b)
  |_=>Ã
noncomputable def RJ:jo->Bool
 |.ex _=>Æ
 |.rng1 _=>Æ
 |_=>Ê
def SK(fI:Ô->Option jo)(cx:f9)(sc:á)(O:List (Str×Nat))(nx:Nat)(as:List Ô)(k:Keyword):Option CE:=
 (lh as).bind λx=>(MX k.value).bind λq=>if k.arg==À ("key":Str)&&fS sc&&GZ q.2.2 sc O nx q.1.arg then
  (fI x).bind λit=>if RJ it then (EB cx q.2.2 (cn q.2.2 O nx [q.1.arg]) 50 q.2.1).bind λkx=>À (.sortK it nx kx) else Ã else Ã
noncomputable def Bo:Ô->Bool
 |.Constant c _ _=>match c with
  |.none=>Æ
  |_=>Ê
 |_=>Ê
def Fl(f:Ô->Option CE)(g:Str)(as:List Ô)(k:Keyword):Option CE:=(lh as).bind λx=>if g==("min":Str)&&k.arg==À ("default":Str)&&Bo k.value then (f x).bind λa=>À (.prim .minD (.cons a .nil)) else Ã
def Fk(f:Ô->Option CE)(sk:List Ô->Keyword->Option CE)(cx:f9)(sc:á)(fn:Ô)(as:List Ô)(ks:List Keyword)(pos:Pos):Option CE:=match fn with
 |.Name g _=>if bi sc g then (match ks with
  |[]=>qk f cx sc g as
  |k::ks=>if ks.isEmpty then (if g==("sorted":Str) then sk as k else Fl f g as k) else Ã) else Ã
 |.Attribute o m ap=>if ks.isEmpty&&Ah o&&ap.endLine==pos.line then (AP m as.length).bind λp=>(f o).bind λa=>(cc f as).bind λcs=>À (.meth p a cs) else Ã
 |_=>Ã
def WL(F:á->List (Str×Nat)->Nat->Ô->Option CE)(fI:Ô->Option jo)(sc:á)(O:List (Str×Nat))(nx:Nat)(elt:Ô)(uj:List Comprehension)(scope:á):Option CE:=
 (lh uj).bind λgn=>if gn.is_async==0&&tW scope sc O nx (ba gn.target) then
  (fI gn.iter).bind λit=>(fP (je scope sc) (cn scope O nx (ba gn.target)) gn.target).bind λt=>
  (cc (F (je scope sc) (cn scope O nx (ba gn.target)) (nx+2)) gn.ifs).bind λcs=>(F (je scope sc) (cn scope O nx (ba gn.target)) (nx+2) elt).bind λc=>
  if mV it t then À (.comp c t it cs) else Ã
 else Ã
noncomputable def Fs(f:Ô->Option CE):List Ô->Option jo
 |[]=>Ã
 |a::r=>(f a).bind λx=>match r with
  |[]=>À (.rng1 x)
  |b::r=>(f b).bind λy=>match r with
   |[]=>À (.rng2 x y)
   |_::_=>Ã
noncomputable def CC(f:Ô->Option CE)(e:Ô):Option jo:=(f e).bind λc=>À (.ex c)
def N9(f:Ô->Option CE)(g:Str)(as:List Ô)(e:Ô):Option jo:=
 if g==("range":Str) then Fs f as
 else if g==("zip":Str) then (two as).bind λp=>(f p.1).bind λx=>(f p.2).bind λy=>À (.zip x y)
 else if g==("enumerate":Str) then (lh as).bind λa=>(f a).bind λx=>À (.enm x)
 else CC f e
def EA(f:Ô->Option CE)(cx:f9)(sc:á)(e:Ô):Option jo:=match j7 e with
 |some p=>if bi sc p.1&&(gU cx p.1).isNone then N9 f p.1 p.2 e else CC f e
 |none=>CC f e
def yL(F:á->List (Str×Nat)->Nat->Ô->Option CE)(fI:Ô->Option jo)(cx:f9)(sc:á)(O:List (Str×Nat))(nx:Nat):Ô->Option CE
 |.Constant c _ _=>(yK c).bind λv=>À (.cst v)
 |.Name x _=>vV cx sc O x
 |.BinOp l op r _=>(F sc O nx l).bind λa=>(F sc O nx r).bind λb=>À (.bin op a b)
 |.UnaryOp op x _=>(F sc O nx x).bind (WN op)
 |.BoolOp op vs _=>vO (F sc O nx) op vs
 |.IfExp t a b _=>(F sc O nx t).bind λx=>(F sc O nx a).bind λy=>(F sc O nx b).bind λz=>À (.ite x y z)
 |.Compare l ops rs _=>QF (F sc O nx) l ops rs
 |.List es _=>(cc (F sc O nx) es).bind λcs=>À (.list cs)
 |.Tuple es _ _=>(cc (F sc O nx) es).bind λcs=>À (.tuple cs)
 |.Dict ks vs _=>if ks.isEmpty&&vs.isEmpty then À .dict0 else Ã
 |.Subscript v i _=>QI (F sc O nx) v i
 |.Call fn as ks pos=>Fk (F sc O nx) (SK fI cx sc O nx) cx sc fn as ks pos
 |.ListComp elt uj scope _=>WL F fI sc O nx elt uj scope
 |.Attribute o a _=>if a==("word":Str)&&(dj o).isSome then (F sc O nx o).bind λc=>À (.word c) else Ã
 |_=>Ã
def cr(cx:f9):Nat->á->List (Str×Nat)->Nat->Ô->Option CE
 |0,_,_,_,_=>Ã
 |n+1,sc,O,nx,e=>yL (cr cx n) (λi=>EA (cr cx n sc O nx) cx sc i) cx sc O nx e
def vP(cx:f9)(n:Nat)(sc:á)(O:List (Str×Nat))(nx:Nat)(e:Ô):Option jo:=EA (cr cx n sc O nx) cx sc e
def WM(Q:Ô->Option CE)(cx:f9)(sc:á)(O:List (Str×Nat)):Ô->Option CE
 |.Constant c _ _=>(yK c).bind λv=>À (.cst v)
 |.Name x _=>vV cx sc O x
 |.UnaryOp op x _=>(Q x).bind (WN op)
 |.BoolOp op vs _=>vO Q op vs
 |.List es _=>(cc Q es).bind λcs=>À (.list cs)
 |.Attribute o a _=>if a==("word":Str)&&(dj o).isSome then (Q o).bind λc=>À (.word c) else Ã
 |.Call fn as ks _=>(dj fn).bind λg=>if ks.isEmpty&&bi sc g then (match gU cx g with
  |some k=>if as.isEmpty || !cx.calm.contains k then Ã else (cc Q as).bind λcs=>À (.call k cs)
  |none=>if g==("isinstance":Str) then N7 Q sc as else Ã) else Ã
 |_=>Ã
def cQ(cx:f9)(sc:á)(O:List (Str×Nat)):Nat->Ô->Option CE
 |0,_=>Ã
 |n+1,e=>WM (cQ cx sc O n) cx sc O e
noncomputable def QH(f:Ô->Option CE)(B:List č->Option ff):č->Option CS
 |.If t a b _=>(f t).bind λx=>(B a).bind λy=>(B b).bind λz=>À (.ite x y z)
 |.Return v _=>v.bind λe=>(f e).bind λc=>À (.ret c)
 |_=>Ã
noncomputable def dX(S:č->Option CS):List č->Option ff
 |[]=>À .nil
 |s::r=>(S s).bind λa=>(dX S r).bind λb=>À (.cons a b)
def Js(cx:f9)(sc:á)(O:List (Str×Nat)):Nat->č->Option CS
 |0,_=>Ã
 |n+1,s=>QH (cQ cx sc O n) (dX (Js cx sc O n)) s
def BJ(o:Option Ô):Option (Str×Ô):=o.bind (Mn Ã n1 n1 (λfn as ks=>if ks.isEmpty then (dj fn).bind λx=>(lh as).bind λe=>À (x,e) else Ã) n3)
theorem u3{o:Option Ô}{x:Str}{e:Ô}(h:BJ o=À (x,e)):∃p q,o=À (.Call (.Name x p) [e] [] q):=
 bW h λc h0 h=>QO (C:=λc=>o=À c->∃p q,o=À (.Call (.Name x p) [e] [] q)) h (λk k h=>no h) (λk k k h=>no h) (λfn as ks q h h0=>dF h λh1 h2=>bW h2 λy h3 h4=>bW h4 λz h5 h6=>
  dn (C:=λx e=>∃p q,o=À (.Call (.Name x p) [e] [] q)) h6 ((bB h3).elim λp e=>⟨p,q,by rw[h0,e,Ų.mp h1,bX h5]⟩)) (λk k k k h=>no h) h0
noncomputable def Wq:(st:č)->Option {e:Ô // ∃p,st=.Return (À e) p}
 |.Return v p=>match v with
  |some e=>À ⟨e,p,N⟩
  |none=>Ã
 |_=>Ã
def Gx(x:Str)(n:Str)(b:List č)(l:List œ):Prop:=∃p q,l=[.ExceptHandler (À (.Name x p)) (À n) b q]
def Gj(l:List œ):Option (Str×Str×List č):=(lh l).bind λh=>match h with
 |.ExceptHandler t n b _=>t.bind λt=>(dj t).bind λx=>n.bind λn=>À (x,n,b)
theorem wI{l:List œ}{x n:Str}{b:List č}(h:Gj l=À (x,n,b)):∃p q,l=[.ExceptHandler (À (.Name x p)) (À n) b q]:=by
 show bW h λa h1 h2=>?_;cases a with|ExceptHandler t m c q=>
 show bW h2 λt' h3 h4=>bW h4 λy h5 h6=>bW h6 λm' h7 h8=>jh (C:=λx n b=>Gx x n b l) h8 ((bB h5).elim λp e=>⟨p,q,by rw[bX h1,h3,h7,e]⟩)
def zL:Ô->Bool:=Mn Ê (λz=>Ê) (λz=>Æ) (λz z z=>Ê) (λz z z=>Ê)
def Un(f:Ô->Option CE)(sc:á)(O:List (Str×Nat))(t v:Ô):Option CS:=match t with
 |.Name x p=>(fP sc O (.Name x p)).bind λt=>(f v).bind λa=>À (.assign t a)
 |.Tuple ts k p=>if zL v then Ã else (fP sc O (.Tuple ts k p)).bind λt=>(f v).bind λa=>À (.assign t a)
 |.Subscript o i _=>(f o).bind λa=>(f i).bind λb=>(f v).bind λc=>À (.setItem a b c)
 |_=>Ã
noncomputable def j3.isStep:j3->Bool
 |.append=>Æ
 |.extend=>Æ
 |_=>Ê
def Mb(c:CE):Option CS:=match c with
 |.meth m o as=>if m.isStep then À (.expr (.meth m o as)) else Ã
 |_=>Ã
def Up(f:Ô->Option CE)(e:Ô):Option CS:=match e with
 |.Call fn as ks p=>(f (.Call fn as ks p)).bind Mb
 |_=>Ã
def Fu(f:Ô->Option CE)(fI:Ô->Option jo)(B KE:List č->Option ff)(sc:á)(O:List (Str×Nat)):č->Option CS
 |.Assign ts v _=>(lh ts).bind λt=>Un f sc O t v
 |.Expr e _=>Up f e
 |.If t a b _=>(f t).bind λx=>(B a).bind λy=>(B b).bind λz=>À (.ite x y z)
 |.For t it body kn _=>if kn.isEmpty then (fP sc O t).bind λx=>(fI it).bind λy=>(B body).bind λz=>if mV y x then À (.for_ x y z) else Ã else Ã
 |.While t body kn _=>if kn.isEmpty then (f t).bind λx=>(B body).bind λz=>À (.while_ x z) else Ã
 |.Return v _=>v.bind λe=>(f e).bind λc=>À (.ret c)
 |.Raise exc Mc _=>if Mc.isNone then (BJ exc).bind λp=>if bi sc p.1 then (gR.lookup p.1).bind λc=>if c==1||c==2 then (f p.2).bind λa=>À (.raise_ c a) else Ã else Ã else Ã
 |.Try body hs kn hW _=>if kn.isEmpty&&hW.isEmpty then (Gj hs).bind λq=>if bi sc q.1&&q.1==("LarderError":Str) && !q.2.2.isEmpty&&(sc.names.lookup q.2.1==À .local) then (oK sc O q.2.1).bind λi=>(lh body).bind λst=>(Wq st).bind λe=>(f e.1).bind λa=>(KE q.2.2).bind λy=>À (.try_ (.cons (.ret a) .nil) i y) else Ã else Ã
 |_=>Ã
def sI(cx:f9)(sc:á)(O:List (Str×Nat))(nx:Nat):Nat->č->Option CS
 |0,_=>Ã
 |n+1,s=>Fu (cr cx n sc O nx) (vP cx n sc O nx) (dX (sI cx sc O nx n)) (dX (Js cx sc O n)) sc O s
noncomputable def dW(sc:á):List (Str×Nat):=((sc.names.filter λ(_,k)=>k==.local||k==.cell).map (·.1)).zipIdx
def CD(cx:f9)(params:Ļ)(sc:á)(body:List č):Option bo:=
  let O:=dW sc
  let as:=params.args
  if dg params&&sc.kind==.function && !sc.isGenerator && !sc.isCoroutine &&
   sc.names.all (λ(n,k)=>sc.names.lookup n==À k&&(k==.local||k==.cell||k==.globalImplicit)) &&
   decide (as.map (·.arg)=(O.map (·.1)).take as.length)&&decide ((O.map (·.1)).Nodup) then
   (dX (sI cx sc O O.length 200) body).bind λb=>À ⟨as.length,b⟩
  else Ã
end Lar
set_option backward.match.sparseCases true
namespace Lar
open PySem PyProof.Rows PySem.Calls
structure G where
 prog:õ
 w:World
 B:Ó
 tabs:List (Str×È)
 cls:Nat->È
def j0(o:Obj):Prop:=(o.cls=.type "tuple"/\∃cO n,o.data=.seq cO n)\/(o.cls=.type "code"/\∃vs,o.data=.fields vs)
def gv(h:Ó)(b:È)(o:Obj):Prop:=h.get? b=À o\/((∃es ep,o.data=.dict es ep)/\∃sl,h.get? b=À {o with slots:=sl})
mutual
inductive VR(g:G)(J:List È)(h:Ó):V->Ä->Prop
 |none:VR g J h .none .none
 |bool (b:Bool):VR g J h (.bool b) (.bool b)
 |int (i:Int) (t:Tok):VR g J h (.int i) (.int i t)
 |str (x:Str) (t:Tok):VR g J h (.str x) (.str x t)
 |tup {l:List V} {a:È} {vs:List Ä}:h.IsTuple a vs.toArray->l.length<=al+1->bq g J h l vs->a∉J->VR g J h (.tup l) (.ref a)
 |ref {n:Nat} {a:È}:J[n]?=À a->VR g J h (.ref n) (.ref a)
 |ro {ns:List Int} {a:È} {vs:List Ä}:g.B.IsList a vs.toArray->ns.length<=al+1->ñ vs ns->VR g J h (.ro ns) (.ref a)
inductive bq(g:G)(J:List È)(h:Ó):List V->List Ä->Prop
 |nil:bq g J h [] []
 |cons {v:V} {a:Ä} {l:List V} {vs:List Ä}:VR g J h v a->bq g J h l vs->bq g J h (v::l) (a::vs)
end
inductive MR(g:G)(J:List È)(h:Ó):bp->È->Prop
 |lst {l:List V} {a:È} {vs:List Ä}:h.PlainList a vs.toArray->l.length<=al+1->bq g J h l vs->MR g J h (.lst l) a
 |di {l:List (Int×V)} {a:È} {kvs:List (Int×Ä)}:h.DictOf (intKind g.prog g.w) a kvs->kvs.map (·.1)=l.map (·.1)->bq g J h (l.map (·.2)) (kvs.map (·.2))->MR g J h (.di l) a
 |ds {l:List (Str×V)} {a:È} {kvs:List (Str×Ä)}:h.DictOf (strKind g.prog g.w) a kvs->kvs.map (·.1)=l.map (·.1)->bq g J h (l.map (·.2)) (kvs.map (·.2))->MR g J h (.ds l) a
 |own {a:È} {x y:Ä}:h.get? a=À {cls:=.type "tuple",data:=.seq #[x,y]}->MR g J h .own a
 |wd {w:Str} {a:È} {m:Str->Option Ä} {t:Tok}:h.Ns a m->m ("word":Str)=À (.str w t)->MR g J h (.wd w) a
 |exn {c d:Nat} {a D:È} {o:Obj} {vs:Array Ä}:h.get? a=À o->o.cls=.ref (g.cls c)->o.data=.fields vs->o.dict=À D->J[d]?=À D->MR g J h (.exn c d) a
 |tab {q:Str} {a:È} {ps:Array Ä}:h.get? a=À {cls:=.none,data:=.fields ps}->ĝ ps.toList->(∀pos cv,ĕ pos ps.toList=À cv->∃c' o vs t,cv=.ref c'/\c'∉J/\h.get? c'=À o/\o.cls=.type "code"/\o.data=.fields vs/\vs[1]?=À (.str (q++"<lambda>") t))->MR g J h (.tab q) a
structure ar(g:G)(J:List È)(H:ag)(h:Ó):Prop where
 base:∀b o,g.B.get? b=À o->h.get? b=À o
 fresh:∀a∈J,g.B.get? a=Ã
 len:J.length=H.length
 nodup:J.Nodup
 objs:∀(i:Nat) (a:È) (m:bp),J[i]?=À a->H[i]?=À m->MR g J h m a
 tabs:∀(j:Nat) (q:Str) (P:È),g.tabs[j]?=À (q,P)->J[j]?=À P/\H[j]?=À (.tab q)
structure cU(ms:È->Prop)(J:List È)(h:Ó)(aT:List È)(h':Ó):Prop where
 pres:∀b o,h.get? b=À o->¬ ms b->gv h' b o
 dom:∀b o,h.get? b=À o->∃o',h'.get? b=À o'
 ext:∃t,aT=J++t/\∀a∈t,h.get? a=Ã
abbrev SE(J:List È)(h:Ó)(aT:List È)(h':Ó):Prop:=cU (λb=>b∈J) J h aT h'
def bJ(s s':Å):Prop:=s'.gens=s.gens/\s'.drawn=s.drawn/\s'.os=s.os
inductive bA(g:G)(J:List È)(s:Å)(v:V)(ae:ag)(a:Ä)(s':Å):Prop
 |mk (aT:List È) (S:SE J s.heap aT s'.heap) (R:ar g aT ae s'.heap) (V:VR g aT s'.heap v a) (T:bJ s s'):bA g J s v ae a s'
theorem bA.el{g:G}{J:List È}{s:Å}{v:V}{ae:ag}{a:Ä}{s':Å}{C:Prop}(x:bA g J s v ae a s')(k:∀aT,SE J s.heap aT s'.heap->ar g aT ae s'.heap->VR g aT s'.heap v a->bJ s s'->C):C:=bA.casesOn (motive:=λz=>C) x k
def NK(g:G)(q:Str)(cd:Ä):Prop:=∃(j:Nat) (c P:È) (KE:Ó),g.tabs[j]?=À (q,P)/\cd=.ref c/\KE.IsCode c P #[]/\KE.TableAt c P #[]/\∀o,KE.get? c=À o->g.B.get? c=À o
structure Fn where
 name:Str
 addr:È
 params:Ļ
 body:List č
 scope:á
noncomputable def jY:List Ä:=[.type "ValueError",.type "Exception",.type "BaseException",.type "object"]
noncomputable def il:List Str:=["__module__","__firstlineno__","__init__","__static_attributes__","__weakref__","__doc__"]
structure ER where
 pzJ:È
 O:Str
 q:Str
 bs:List Ä
 sub:List Ä
 k0:Option Ä
 k1:Option Ä
 k2:Option Ä
 k3:Option Ä
 k5:Option Ä
noncomputable abbrev ER.obj(d:ER)(C:È)(tl:List Ä):Obj:=excClassObj d.O d.q C d.pzJ d.bs tl Æ [] d.sub Ê Ã Ã d.k0 d.k1 d.k2 d.k3 d.k5 "ValueError.__new__"
structure fi(h:Ó)(C:È)(tl:List Ä)(mN:Str->Option Ä):Prop where
 obj:∃d:ER,h.get? C=À (d.obj C tl)/\h.Ns d.pzJ mN
 quiet:∀n,n∉il->mN n=Ã
def OT(fd:Ī):Prop:=∃p1 p2 p3 p4,fd.body=.stmts [.Assign [.Attribute (.Name ("self":Str) p1) ("word":Str) p2] (.Name ("word":Str) p3) p4]
structure Qh(o:Obj)(fd:Ī)(a1 a2:Arg):Prop where
 cls:o.cls=.type "function"
 data:o.data=.func fd
 init:OT fd
 params:fd.params=⟨[],[a1,a2],Ã,[],[],Ã,[]⟩
 n1:a1.arg=("self":Str)
 n2:a2.arg=("word":Str)
 names:fd.scope.names=[(("self":Str),NameKind.local),(("word":Str),NameKind.local)]
 kind:fd.scope.kind=.function
 gen:fd.scope.isGenerator=Ê
 co:fd.scope.isCoroutine=Ê
 gl:fd.globals=Ü
 clo:fd.closure=[]
 df:fd.defaults=.none
 bl:fd.builtins=ă
structure iI(h:Ó)(f:È):Prop where
 ex:∃o fd a1 a2,h.get? f=À o/\Qh o fd a1 a2/\h.CodeRec fd.code fd.qualname
structure TE(g:G)(mg:Str->Option Ä):Prop where
 n0:mg ("LarderError":Str)=À (.ref (g.cls 0))
 n1:mg ("TooMuch":Str)=À (.ref (g.cls 1))
 n2:mg ("Short":Str)=À (.ref (g.cls 2))
 c0:∃mN f,fi g.B (g.cls 0) jY mN/\mN ("__init__":Str)=À (.ref f)/\iI g.B f
 c1:∃mN,fi g.B (g.cls 1) (.ref (g.cls 0)::jY) mN/\mN ("__init__":Str)=Ã
 c2:∃mN,fi g.B (g.cls 2) (.ref (g.cls 0)::jY) mN/\mN ("__init__":Str)=Ã
 ap:g.cls 1≠g.cls 2/\g.cls 1≠g.cls 0/\g.cls 2≠g.cls 0
structure fN(g:G)(cx:f9)(fs:List Fn)(mg mb:Str->Option Ä):Prop where
 gns:g.B.Ns Ü mg
 bns:g.B.Ns ă mb
 nolimit:g.B.NoLimit
 sys:∃o,g.B.get? Ĝ=À o
 prims:∀x∈eN,mg x=Ã/\mb x=ę x
 consts:∀x i,cx.consts.lookup x=À i->∃t,mg x=À (.int i t)
 names:fs.map (·.name)=cx.funs
 made:∀f∈fs,mg f.name=À (.ref f.addr)/\∃o pm cd doc,g.B.get? f.addr=À o/\o.data=.func (Ņ f.name f.params f.body f.scope pm cd doc)/\g.B.CodeRec cd f.name
 bmain:∃bm ob,mg ("__builtins__":Str)=À (.ref bm)/\bm≠ă/\g.B.get? bm=À ob/\ob.cls=.type "module"/\ob.dict=À ă/\ob.data=.plain
 exc:TE g mg
 tab:∀f∈fs,∀o fd,g.B.get? f.addr=À o->o.data=.func fd->NK g (fd.qualname++".<locals>.") fd.code
structure Cx where
 g:G
 cx:f9
 fs:List Fn
 mg:Str->Option Ä
 mb:Str->Option Ä
 P:List bo
theorem JF:Nonempty Cx:=⟨⟨⟨default,⟨λz z=>0,⟨λz=>0,λz=>0,id,λz=>0,λz z=>0,λz=>Ê,λz=>0,.refcount,.text,λz=>0,λz=>Ã,λz=>Ê,λz z z=>Æ,λz z z=>Æ,Æ,λz=>Ê,λz=>Ã,λz=>Ã,λz z z=>0,λz z=>Ã,λz=>Ã,λz=>(0,Ê,"UTC"),λz=>Ã,λd=>d,λz=>Ê⟩⟩,default,[],λz=>0⟩,⟨[],[],[],[]⟩,[],λz=>Ã,λz=>Ã,[]⟩⟩
def NI(cx:f9)(fs:List Fn)(P:List bo):Prop:=∀(k:Nat) (fn:Fn),fs[k]?=À fn->∃cf,P[k]?=À cf/\CD cx fn.params fn.scope fn.body=À cf
def NJ(cx:f9)(fs:List Fn)(P:List bo):Prop:=∀k∈cx.calm,∀fn cf,fs[k]?=À fn->P[k]?=À cf->dX (Js cx fn.scope (dW fn.scope) 200) fn.body=À cf.body
def vE(c:Cx):Prop:=fN c.g c.cx c.fs c.mg c.mb->NI c.cx c.fs c.P->NJ c.cx c.fs c.P->∀d,d<=100->∀k as H v ae,aG c.P d k as H=À (.ok v,ae)->∀fn,c.fs[k]?=À fn->∀J s cb,ar c.g J H s.heap->bq c.g J s.heap as cb->∀E,É (model c.g.prog c.g.w) callerA (PySem.call (.ref fn.addr) cb) (bA c.g J s v ae) E s
def kk:Cx:=@Classical.epsilon Cx JF λc=>¬ vE c
theorem CG(h:vE kk)(c:Cx):vE c:=abE λn=>@Classical.epsilon_spec Cx (λc=>¬ vE c) ⟨c,n⟩ h
def gg:G:=kk.g
def cx:f9:=kk.cx
def fs:List Fn:=kk.fs
def mg:Str->Option Ä:=kk.mg
def mb:Str->Option Ä:=kk.mb
def P:List bo:=kk.P
abbrev mo:Model:=model gg.prog gg.w
noncomputable def dS:Å:=⟨default,#[],{},0,default⟩
end Lar
set_option autoImplicit true
namespace Lar
open PySem PyProof.Rows
structure I7(o:Obj):Prop where
 seq:∀cO n,o.data≠.seq cO n
 dict:∀es ep,o.data≠.dict es ep
 code:o.cls=.type "code"->∀vs,o.data≠.fields vs
theorem gv.of(x:gv h b o)(hd:∀es ep,o.data≠.dict es ep):h.get? b=À o:=by
 rcases x with x|⟨⟨es,ep,x⟩,_⟩
 ·show x
 ·show absurd x (hd es ep)
theorem gv.seq(x:gv h b o)(hd:o.data=.seq cO n):h.get? b=À o:=x.of (λes ep q=>nomatch hd.symm.trans q)
theorem gv.hard(x:gv h b o)(hd:j0 o):h.get? b=À o:=by
 rcases hd with ⟨_,cO,n,hd⟩|⟨_,vs,hd⟩
 ·show x.seq hd
 ·show x.of (λes ep q=>nomatch hd.symm.trans q)
theorem gv.live(x:gv h b o):∃o',h.get? b=À o':=by
 rcases x with x|⟨_,sl,x⟩
 ·show⟨o,x⟩
 ·show⟨_,x⟩
theorem gv.then(x:gv h' b o)(y:∀o',h'.get? b=À o'->gv qM b o'):gv qM b o:=by
 rcases x with x|⟨hd,sl,x⟩
 ·show y o x
 ·rcases y _ x with y|⟨_,Ws,y⟩
  ·show .inr ⟨hd,sl,y⟩
  ·show .inr ⟨hd,Ws,y⟩
theorem gv.ns{h h':Ó}{a:È}{m:Str->Option Ä}(hn:h.Ns a m)(x:∀o,h.get? a=À o->gv h' a o):h'.Ns a m:=by
 show t5 hn λo es ep ho hd r=>?_;rcases x o ho with y|⟨_,sl,y⟩
 ·show⟨o,es,ep,y,hd,r⟩
 ·show⟨_,es,ep,y,hd,r⟩
theorem VR.el{J:List È}{h:Ó}{C:V->Ä->Prop}{v:V}{a:Ä}(x:VR gg J h v a)(none:C .none .none)(bool:∀b,C (.bool b) (.bool b))(int:∀i t,C (.int i) (.int i t))(str:∀x t,C (.str x) (.str x t))
  (tup:∀l a vs,h.IsTuple a (adt vs)->l.length<=al+1->bq gg J h l vs->a∉J->C (.tup l) (.ref a)) (ref:∀n a,J[n]?=À a->C (.ref n) (.ref a)) (ro:∀ns a vs,gg.B.IsList a (adt vs)->ns.length<=al+1->ñ vs ns->C (.ro ns) (.ref a)):C v a:=
 VR.casesOn (motive_1:=λv a z=>C v a) x none bool int str (λh1 h2 h3 h4=>tup _ _ _ h1 h2 h3 h4) (λh1=>ref _ _ h1) λh1 h2 h3=>ro _ _ _ h1 h2 h3
theorem MR.el{J:List È}{h:Ó}{C:bp->Prop}{m:bp}{a:È}(x:MR gg J h m a)(lst:∀l vs,h.PlainList a (adt vs)->l.length<=al+1->bq gg J h l vs->C (.lst l))
  (di:∀l kvs,h.DictOf (intKind gg.prog gg.w) a kvs->kvs.map (·.1)=l.map (·.1)->bq gg J h (l.map (·.2)) (kvs.map (·.2))->C (.di l))
  (ds:∀l kvs,h.DictOf (strKind gg.prog gg.w) a kvs->kvs.map (·.1)=l.map (·.1)->bq gg J h (l.map (·.2)) (kvs.map (·.2))->C (.ds l))
  (own:∀x y,h.get? a=À {cls:=.type "tuple",data:=.seq #[x,y]}->C .own) (wd:∀w m t,h.Ns a m->m ("word":Str)=À (.str w t)->C (.wd w)) (exn:∀c d D o vs,h.get? a=À o->o.cls=.ref (gg.cls c)->o.data=.fields vs->o.dict=À D->J[d]?=À D->C (.exn c d))
  (tab:∀q ps,h.get? a=À {cls:=.none,data:=.fields ps}->ĝ ps.toList->(∀pos cv,ĕ pos ps.toList=À cv->∃c' o vs t,cv=.ref c'/\c'∉J/\h.get? c'=À o/\o.cls=.type "code"/\o.data=.fields vs/\vs[1]?=À (.str (q++"<lambda>") t))->C (.tab q)):C m:=by
 cases x with
 |lst h1 h2 h3=>show lst _ _ h1 h2 h3
 |di h1 h2 h3=>show di _ _ h1 h2 h3
 |ds h1 h2 h3=>show ds _ _ h1 h2 h3
 |own h1=>show own _ _ h1
 |wd h1 h2=>show wd _ _ _ h1 h2
 |exn h1 h2 h3 h4 h5=>show exn _ _ _ _ _ h1 h2 h3 h4 h5
 |tab h1 h2 h3=>show tab _ _ h1 h2 h3
theorem cU.refl(ms:È->Prop)(J:List È)(h:Ó):cU ms J h J h:=
 ⟨λz z e z=>.inl e,λz o e=>⟨o,e⟩,[],(Ĵ _).symm,λz ha=>(nomatch ha)⟩
theorem cU.pre{ms:È->Prop}{J aT:List È}{h h':Ó}(x:cU ms J h aT h'){n:Nat}{a:È}(e:J[n]?=À a):aT[n]?=À a:=by show aF x.ext λt q2 z=>?_;apply aW q2;have hn:n<J.length:=(Ġ.mp e).1;rw[ϓ hn];show e
theorem cU.notin(x:cU ms J h aT h')(e:h.get? b=À o)(hb:b∉J):b∉aT:=by
 show aF x.ext λt q2 ht=>?_;apply aW q2;intro hm;show ã (Ģ.mp hm) (λhm=>?_) (λhm=>?_)
 ·show hb hm
 ·rw[ht b hm]at e;show no e
theorem cU.trans(x:cU ms J h aT h')(y:cU ms' aT h' J'' qM)
  (h1:∀b o,h.get? b=À o->¬ ms'' b->¬ ms b) (h2:∀b o,h.get? b=À o->¬ ms'' b->¬ ms' b):cU ms'' J h J'' qM:=by
 show⟨λb o e hb=>(x.pres b o e (h1 b o e hb)).then λo' e'=>y.pres b o' e' (h2 b o e hb),λb o e=>?_,?_⟩
 ·show W' (x.dom b o e) λo' e'=>y.dom b o' e'
 ·show aF x.ext λt q2 ht=>?_;subst q2
  show aF y.ext λu q2 hu=>?_;apply aW q2;show⟨t++u,by simp,λa ha=>ã (Ģ.mp ha) (λha=>?_) (λha=>?_)⟩
  ·show ht a ha
  ·cases e:h.get? a with
   |none=>rfl
   |some o=>show W' (x.dom a o e) λo' e'=>?_;rw[hu a ha]at e';show no e'
theorem SE.trans(x:SE J h aT h')(y:SE aT h' J'' qM):SE J h J'' qM:=
 cU.trans x y (λz z z hb=>hb) λz z e hb=>x.notin e hb
theorem SE.refl(J:List È)(h:Ó):SE J h J h:=cU.refl _ _ _
theorem xf{α:Type}{l:List α}(hn:l.Nodup){i j:Nat}{a:α}(hi:l[i]?=À a)(hj:l[j]?=À a):i=j:=by
 show W' (Ġ.mp hi) λh1 e1=>?_;show W' (Ġ.mp hj) λh2 e2=>?_;have hp:=acv.mp hn;rcases aeV i j with h|h|h
 ·show absurd (e1.trans e2.symm) (hp i j h1 h2 h)
 ·show h
 ·show absurd (e2.trans e1.symm) (hp j i h2 h1 h)
theorem gK(hc:o.cls=.type "list"):¬ j0 o:=by rintro (⟨h,_⟩|⟨h,_⟩)<;>rw[hc]at h<;>show absurd h (by decide)
theorem sP(hd:o.data=.dict es ep):¬ j0 o:=by rintro (⟨_,_,_,h⟩|⟨_,_,h⟩)<;>show nomatch hd.symm.trans h
theorem kG{K:Type}[DecidableEq K]{knd:KeyKind gg.prog gg.w K}{h h':Ó}{a:È}{kvs:List (K×Ä)}(x:h.DictOf knd a kvs)(hk:∀o,h.get? a=À o->h'.get? a=À o):h'.DictOf knd a kvs:=
 wi x λo es ep r=>⟨o,es,ep,hk o r.1,r.2⟩
theorem MR.live(x:MR gg J h m a):∃o,h.get? a=À o:=by
 apply MR.el x
 case lst=>
  intro _ _ hl _ _;show W' hl λn ho=>⟨_,ho⟩
 case di=>
  intro _ _ hd _ _;show t5 hd λo z z ho hc z=>⟨o,ho⟩
 case ds=>
  intro _ _ hd _ _;show t5 hd λo z z ho hc z=>⟨o,ho⟩
 case own=>intro _ _ ho;show⟨_,ho⟩
 case wd=>
  intro _ _ _ hn _;show oS hn λo z z ho z=>⟨o,ho⟩
 case exn=>intro _ _ _ _ _ ho _ _ _ _;show⟨_,ho⟩
 case tab=>intro _ _ ho _ _;show⟨_,ho⟩
theorem ar.live(R:ar gg J H h)(ha:a∈J):∃o,h.get? a=À o:=by obtain ⟨i,hi,rfl⟩:=ab2.mp ha;have h1:J[i]?=À J[i]:=ē hi;have jZ:i<H.length:=R.len▸hi;have h2:H[i]?=À H[i]:=ē jZ;show(R.objs i _ _ h1 h2).live
theorem VR.stepT(hp:∀(n:Nat) (a:È),J[n]?=À a->aT[n]?=À a)(S:∀b o,h.get? b=À o->j0 o->b∉J->h'.get? b=À o/\b∉aT)(x:VR gg J h v a):VR gg aT h' v a:=
 VR.rec (motive_1:=λv a z=>VR gg aT h' v a) (motive_2:=λl vs z=>bq gg aT h' l vs) .none .bool .int .str (λht hz z hn ih=>by show dN ht λo ho hc r=>?_;have k:=S _ _ ho (.inl ⟨hc,_,r⟩) hn;show .tup ⟨o,k.1,hc,r⟩ hz ih k.2) (λe=>.ref (hp _ _ e)) .ro .nil (λz z h1 h2=>.cons h1 h2) x
theorem bq.stepT(hp:∀(n:Nat) (a:È),J[n]?=À a->aT[n]?=À a)(S:∀b o,h.get? b=À o->j0 o->b∉J->h'.get? b=À o/\b∉aT)(x:bq gg J h l vs):bq gg aT h' l vs:=by
 induction l generalizing vs with
 |nil=>cases x;show .nil
 |cons v l ih=>cases x with|cons hv hr=>show .cons (hv.stepT hp S) (ih hr)
theorem VR.step{J aT:List È}{H:ag}{h h':Ó}(R:ar gg J H h)(S:SE J h aT h'){v:V}{a:Ä}(x:VR gg J h v a):VR gg aT h' v a:=x.stepT (λz z e=>S.pre e) λz z e hh hn=>⟨(S.pres _ _ e hn).hard hh,S.notin e hn⟩
theorem bq.step{J aT:List È}{H:ag}{h h':Ó}(R:ar gg J H h)(S:SE J h aT h'){l:List V}{vs:List Ä}(x:bq gg J h l vs):bq gg aT h' l vs:=x.stepT (λz z e=>S.pre e) λz z e hh hn=>⟨(S.pres _ _ e hn).hard hh,S.notin e hn⟩
theorem bq.nilE(x:bq gg J h [] vs):vs=[]:=by cases x;rfl
theorem bq.consE{J:List È}{h:Ó}{v:V}{l:List V}{vs:List Ä}{C:Prop}(x:bq gg J h (v::l) vs)(k:∀a us,vs=a::us->VR gg J h v a->bq gg J h l us->C):C:=by
 cases x with
 |cons h1 h2=>show k _ _ N h1 h2
theorem bq.hd{J:List È}{h:Ó}{v:V}{l:List V}{a:Ä}{vs:List Ä}(x:bq gg J h (v::l) (a::vs)):VR gg J h v a:=x.consE λz z e h1 z=>(List.cons.inj e).1▸h1
theorem bq.tl{J:List È}{h:Ó}{v:V}{l:List V}{a:Ä}{vs:List Ä}(x:bq gg J h (v::l) (a::vs)):bq gg J h l vs:=x.consE λz z e z h2=>(List.cons.inj e).2▸h2
theorem bq.length(x:bq gg J h l vs):l.length=vs.length:=by
 induction l generalizing vs with
 |nil=>cases x;rfl
 |cons v l ih=>cases x with|cons hv hr=>show congrArg (·+1) (ih hr)
theorem bq.append(x:bq gg J h l vs)(y:bq gg J h m ws):bq gg J h (l++m) (vs++ws):=by
 induction l generalizing vs with
 |nil=>cases x;show y
 |cons v l ih=>cases x with|cons hv hr=>show .cons hv (ih hr)
theorem bq.get{J:List È}{h:Ó}{v:V}{l:List V}:∀{vs:List Ä} {i:Nat},bq gg J h l vs->l[i]?=À v->∃a,vs[i]?=À a/\VR gg J h v a:=by
 induction l with
 |nil=>show λz e=>no (e)
 |cons w l ih=>
  intro vs i x e;show x.consE λa us q hv hr=>?_;rw[q];cases i with
  |zero=>show⟨a,N,Option.some.inj e▸hv⟩
  |succ i=>show(ih (i:=i) hr e:∃b,us[i]?=À b/\VR gg J h v b)
theorem bq.set{J:List È}{h:Ó}{v:V}{a:Ä}(x:VR gg J h v a){l:List V}:∀{vs:List Ä} (i:Nat),bq gg J h l vs->bq gg J h (l.set i v) (vs.set i a):=by
 induction l with
 |nil=>intro vs i y;rw[y.nilE];show .nil
 |cons w l ih=>
  intro vs i y;show y.consE λb us q hv hr=>?_;rw[q];cases i with
  |zero=>show .cons x hr
  |succ i=>show .cons hv (ih i hr)
theorem bq.one(x:VR gg J h v a):bq gg J h [v] [a]:=.cons x .nil
theorem bq.take{J:List È}{h:Ó}{l:List V}:∀{vs:List Ä} (i:Nat),bq gg J h l vs->bq gg J h (l.take i) (vs.take i):=by
 induction l with
 |nil=>intro vs i y;rw[y.nilE,afx,afx];show .nil
 |cons w l ih=>
  intro vs i y;show y.consE λb us q hv hr=>?_;rw[q];cases i with
  |zero=>show .nil
  |succ i=>show .cons hv (ih i hr)
theorem bq.drop{J:List È}{h:Ó}{l:List V}:∀{vs:List Ä} (i:Nat),bq gg J h l vs->bq gg J h (l.drop i) (vs.drop i):=by
 induction l with
 |nil=>intro vs i y;rw[y.nilE,aeM,aeM];show .nil
 |cons w l ih=>
  intro vs i y;cases i with
  |zero=>show y
  |succ i=>show y.consE λb us q hv hr=>q▸ih i hr
theorem MR.step(R:ar gg J H h)(S:SE J h aT h')(x:MR gg J h m a)(ha:∀o,h.get? a=À o->h'.get? a=À o):MR gg aT h' m a:=by
 apply MR.el x
 case lst=>intro _ _ hl hz hv;show .lst (hl.at ha) hz (hv.step R S)
 case di=>intro _ _ hd he hv;show .di (kG hd ha) he (hv.step R S)
 case ds=>intro _ _ hd he hv;show .ds (kG hd ha) he (hv.step R S)
 case own=>intro _ _ ho;show .own (ha _ ho)
 case wd=>intro _ _ _ hn hw;show .wd (let ⟨o,es,ep,ho,r⟩:=hn;⟨o,es,ep,ha _ ho,r⟩) hw
 case exn=>intro _ _ _ _ _ ho h1 h2 h3 h4;show .exn (ha _ ho) h1 h2 h3 (S.pre h4)
 case tab=>
  intro _ _ ho ht hc
  show .tab (ha _ ho) ht λpos cv e=>by show Uz (hc pos cv e) λc' o vs t e1 e2 e3 e4 e5 e6=>⟨c',o,vs,t,e1,S.notin e3 e2,(S.pres _ _ e3 e2).hard (.inr ⟨e4,vs,e5⟩),e4,e5,e6⟩
theorem MR.stepT(hp:∀(n:Nat) (a:È),J[n]?=À a->aT[n]?=À a)(S:∀b o,h.get? b=À o->j0 o->b∉J->h'.get? b=À o/\b∉aT)(x:MR gg J h m a)(ha:∀o,h.get? a=À o->h'.get? a=À o):MR gg aT h' m a:=by
 apply MR.el x
 case lst=>intro _ _ hl hz hv;show .lst (hl.at ha) hz (hv.stepT hp S)
 case di=>intro _ _ hd he hv;show .di (kG hd ha) he (hv.stepT hp S)
 case ds=>intro _ _ hd he hv;show .ds (kG hd ha) he (hv.stepT hp S)
 case own=>intro _ _ ho;show .own (ha _ ho)
 case wd=>intro _ _ _ hn hw;show .wd (let ⟨o,es,ep,ho,r⟩:=hn;⟨o,es,ep,ha _ ho,r⟩) hw
 case exn=>intro _ _ _ _ _ ho h1 h2 h3 h4;show .exn (ha _ ho) h1 h2 h3 (hp _ _ h4)
 case tab=>
  intro _ _ ho ht hc
  show .tab (ha _ ho) ht λpos cv e=>by show Uz (hc pos cv e) λc' o vs t e1 e2 e3 e4 e5 e6=>?_;have k:=S _ _ e3 (.inr ⟨e4,vs,e5⟩) e2;show⟨c',o,vs,t,e1,k.2,k.1,e4,e5,e6⟩
theorem ar.keeps(R:ar gg J H h)(hk:∀b o,h.get? b=À o->h'.get? b=À o):ar gg J H h':=by have S:SE J h J h':=⟨λb o e z=>.inl (hk b o e),λb o e=>⟨o,hk b o e⟩,[],(Ĵ _).symm,λz ha=>(nomatch ha)⟩;show⟨λb o e=>hk b o (R.base b o e),R.fresh,R.len,R.nodup,λi a m h1 h2=>(R.objs i a m h1 h2).step R S λo e=>hk _ o e,R.tabs⟩
theorem SE.keeps(J:List È)(hk:∀b o,h.get? b=À o->h'.get? b=À o):SE J h J h':=
 ⟨λb o e z=>.inl (hk b o e),λb o e=>⟨o,hk b o e⟩,[],(Ĵ _).symm,λz ha=>(nomatch ha)⟩
theorem ar.other(R:ar gg J H h)(hL:L∉J)(hB:gg.B.get? L=Ã)
  (hk:∀b o,b≠L->h.get? b=À o->h'.get? b=À o) (ht:∀o,h.get? L=À o->¬ j0 o):ar gg J H h':=by
 show⟨λb o e=>hk b o (by rintro rfl;rw[hB]at e;show no e) (R.base b o e),R.fresh,R.len,R.nodup,λi a m h1 h2=>?_,R.tabs⟩;have Y0:a≠L:=by rintro rfl;show hL (ĥ h1)
 show(R.objs i a m h1 h2).stepT (λz z e=>e) (λb o e hs hn=>⟨hk b o ?_ e,hn⟩) λo e=>hk _ o Y0 e;rintro rfl;show ht o e hs
theorem ar.tabsOn{J t:List È}{H u:ag}{h:Ó}(R:ar gg J H h){j:Nat}{q:Str}{P:È}(hj:gg.tabs[j]?=À (q,P)):(J++t)[j]?=À P/\(H++u)[j]?=À (.tab q):=by show aO (R.tabs j q P hj) λh1 h2=>⟨by rw[ϓ (Ġ.mp h1).1];show h1,by rw[ϓ (Ġ.mp h2).1];show h2⟩
theorem ar.more{J:List È}{H:ag}{h:Ó}{a:È}{m:bp}(R:ar gg J H h)(ha:a∉J)(hB:gg.B.get? a=Ã)(hm:MR gg J h m a)(hT:∀o,h.get? a=À o->¬ j0 o):ar gg (J++[a]) (H++[m]) h:=by
 have up:∀{m:bp} {b:È},MR gg J h m b->MR gg (J++[a]) h m b:=λx=>
  x.stepT (λn b e=>by rw[ϓ (Ġ.mp e).1];show e) (λb o e hc hn=>⟨e,λhm=>by
   show ã (Ģ.mp hm) (λhm=>?_) (λhm=>?_)
   ·show hn hm
   ·simp at hm;subst hm;show hT o e hc⟩) λz e=>e
 show⟨R.base,λb hb=>?_,by simp [R.len],?_,λi b m' h1 h2=>?_,λj q P hj=>R.tabsOn hj⟩
 ·show ã (Ģ.mp hb) (λhb=>?_) (λhb=>?_)
  ·show R.fresh b hb
  ·apply aW (O'.mp hb);show hB
 ·rw[aeW]
  show⟨R.nodup,by simp,λx hx y hy=>?_⟩;apply aW (O'.mp hy);rintro rfl;show ha hx
 ·by_cases hi:i<J.length
  ·rw[ϓ hi]at h1
   rw[ϓ (R.len▸hi)]at h2;show up (R.objs i b m' h1 h2)
  ·have jZ:i=J.length:=by
    have:=(Ġ.mp h1).1
    simp at this;show ť (ϋ this) (ľ.mp hi)
   subst jZ
   simp at h1
   rw[R.len]at h2;simp at h2;apply fv h1;subst h2;show up hm
theorem ar.moreOwn{J:List È}{H:ag}{aZ h:Ó}{a:È}{x y:Ä}(R:ar gg J H aZ)(hk:∀b o,aZ.get? b=À o->h.get? b=À o)(h0:aZ.get? a=Ã)(hB:gg.B.get? a=Ã)(ho:h.get? a=À {cls:=.type "tuple",data:=.seq #[x,y]}):
  ar gg (J++[a]) (H++[.own]) h/\SE J aZ (J++[a]) h:=by
 have zD:a∉J:=λhm=>by show W' (R.live hm) λo' e=>?_;rw[h0]at e;show no e
 have S:SE J aZ (J++[a]) h:=⟨λb o e z=>.inl (hk b o e),λb o e=>⟨o,hk b o e⟩,[a],rfl,λb hb=>by apply aW (O'.mp hb);show h0⟩;show⟨⟨λb o e=>hk b o (R.base b o e),λb hb=>?_,by simp [R.len],?_,λi b m' h1 h2=>?_,λj q P hj=>R.tabsOn hj⟩,S⟩
 ·show ã (Ģ.mp hb) (λhb=>?_) (λhb=>?_)
  ·show R.fresh b hb
  ·simp at hb;apply aW hb;show hB
 ·rw[aeW]
  show⟨R.nodup,by simp,λx hx y hy=>?_⟩;apply aW (O'.mp hy);rintro rfl;show zD hx
 ·by_cases hi:i<J.length
  ·rw[ϓ hi]at h1
   rw[ϓ (R.len▸hi)]at h2;show(R.objs i b m' h1 h2).step R S λo e=>hk _ o e
  ·have jZ:i=J.length:=by
    have:=(Ġ.mp h1).1
    simp at this;show ť (ϋ this) (ľ.mp hi)
   subst jZ
   simp at h1
   rw[R.len]at h2;simp at h2;apply fv h1;subst h2;show .own ho
theorem ar.put{J:List È}{H:ag}{h h':Ó}{a:È}{r:Nat}{m KJ:bp}(R:ar gg J H h)(hr:J[r]?=À a)(aZ:H[r]?=À KJ)
  (hs:∀b o,b≠a->h.get? b=À o->h'.get? b=À o) (hm:MR gg J h' m a) (MB:∀q,KJ=.tab q->m=.tab q):ar gg J (H.set r m) h':=by
 have oj:a∈J:=ĥ hr;show⟨λb o e=>hs b o (by rintro rfl;rw[R.fresh _ oj]at e;show no e) (R.base b o e),R.fresh,by simp [R.len],R.nodup,λi b m' h1 h2=>?_,λj q P hj=>?_⟩
 rotate_left
 ·show aO (R.tabs j q P hj) λh1 h2=>⟨h1,?_⟩
  by_cases hjr:r=j
  ·subst hjr
   rw[adu (Ġ.mp aZ).1,MB q (sm (aZ.symm.trans h2))]
  ·rw[acd hjr];show h2
 by_cases hi:i=r
 ·subst hi
  apply fv (sm ((hr).symm.trans h1));rw[adu (Ġ.mp aZ).1]at h2;cases h2;show hm
 ·rw[acd (Ne.symm hi)]at h2
  have hb:b≠a:=by rintro rfl;show hi (xf R.nodup h1 hr)
  show(R.objs i b m' h1 h2).stepT (λz z e=>e) (λc o e hc hn=>⟨hs c o ?_ e,hn⟩) λo e=>hs _ o hb e;rintro rfl;show hn oj
theorem SE.put(ha:a∈J)(hs:Heap.SameBut a h h')(hd:∃o,h'.get? a=À o):SE J h J h':=
 ⟨λb o e hb=>.inl (hs.extBut b o (by rintro rfl;show hb ha) e),λb o e=>by
  by_cases hb:b=a
  ·apply aW hb;show hd
  ·show⟨o,hs.extBut b o hb e⟩,[],(Ĵ _).symm,λz hm=>(nomatch hm)⟩
theorem bJ.refl(s:Å):bJ s s:=⟨N,N,N⟩
theorem bJ.trans(x:bJ s s')(y:bJ s' pb):bJ s pb:=⟨y.1.trans x.1,y.2.1.trans x.2.1,y.2.2.trans x.2.2⟩
inductive Qf(J:List È)(s:Å)(l:List V)(ae:ag)(vs:List Ä)(s':Å):Prop
 |mk (aT:List È) (S:SE J s.heap aT s'.heap) (R:ar gg aT ae s'.heap) (V:bq gg aT s'.heap l vs) (T:bJ s s'):Qf J s l ae vs s'
inductive Cp(J:List È)(s:Å)(b:Bool)(ae:ag)(b':Bool)(s':Å):Prop
 |mk (e:b'=b) (aT:List È) (S:SE J s.heap aT s'.heap) (R:ar gg aT ae s'.heap) (T:bJ s s'):Cp J s b ae b' s'
theorem Cp.el{J:List È}{s:Å}{b:Bool}{ae:ag}{b':Bool}{s':Å}{C:Prop}(x:Cp J s b ae b' s')(k:b'=b->∀aT,SE J s.heap aT s'.heap->ar gg aT ae s'.heap->bJ s s'->C):C:=Cp.casesOn (motive:=λz=>C) x k
end Lar
namespace Lar
open PySem PyProof.Rows PySem.Calls
def Qm(Z:Env):Prop:=NK gg Z.qual Z.code
noncomputable def br(A:Ñ):List Env:=A.frames.getD []
def su(fr:List Env)(J:List È)(h:Ó):Prop:=∀e∈fr,e.scope.kind≠.module/\∃L o es ep,e.frame=À L/\h.get? L=À o/\o.data=.dict es ep/\L∉J/\gg.B.get? L=Ã
theorem su.to(x:su fr J h)(hd:∀L o es ep,h.get? L=À o->o.data=.dict es ep->L∉J->(∃o' Oi Og,h'.get? L=À o'/\o'.data=.dict Oi Og)/\L∉aT):su fr aT h':=λe he=>by obtain ⟨h1,L,o,es,ep,h2,h3,h4,h5,h6⟩:=x e he;show aO (hd L o es ep h3 h4 h5) λk8 k3=>?_;show oS k8 λo' Oi Og k1 k2=>?_;show⟨h1,L,o',Oi,Og,h2,k1,k2,k3,h6⟩
section
variable{A:Ñ}
theorem qG(h:f∈br (A.deeper Z)):f=Z\/f∈br A:=by
 have h:f∈(A.frames.map (Z::·)).getD []:=h;unfold br;cases e:A.frames with
 |none=>rw[e]at h;show nomatch h
 |some l=>rw[e]at h;show Ĉ.mp h
theorem Om(hl:A.frames=À l)(h:f∈br A):f∈br (A.deeper Z):=by show f∈(A.frames.map (Z::·)).getD [];unfold br at h;rw[hl]at h ⊢;show J' _ h
end
theorem gv.isD(x:gv h b o)(hd:o.data=.dict es ep):∃o' Oi Og,h.get? b=À o'/\o'.data=.dict Oi Og:=by
 rcases x with x|⟨_,sl,x⟩
 ·show⟨o,es,ep,x,hd⟩
 ·show⟨_,es,ep,x,hd⟩
structure eH(fr:List Env)(J:List È)(Z:Env)(O:List (Str×Nat))(U:aL)(h:Ó):Prop where
 kind:Z.scope.kind=.function
 glob:Z.globals=Ü
 blt:Z.builtins=ă
 ns:∃m,h.Ns Z.locals m/\∀x i v,O.lookup x=À i->Z.kindOf x=À .local->U i=À v->∃a,m x=À a/\VR gg J h v a
 cells:∀x i,O.lookup x=À i->(Z.kindOf x=À .cell\/Z.kindOf x=À .free)->∃c u,Z.cells.lookup x=À c/\h.IsCell c u/\∀v,U i=À v->∃a,u=À a/\VR gg J h v a
 locN:Z.locals∉J
 locB:gg.B.get? Z.locals=Ã
 cellF:∀x c,Z.cells.lookup x=À c->(∃u,h.IsCell c u)/\c∉J/\c≠Z.locals/\gg.B.get? c=Ã
 cellI:∀x y c,Z.cells.lookup x=À c->Z.cells.lookup y=À c->x=y
 slots:∀x y i,O.lookup x=À i->O.lookup y=À i->x=y
 tab:fS Z.scope=Æ->Qm Z
 stk:su fr J h
def FM(J:List È)(Z:Env)(b:È):Prop:=b∈J\/b=Z.locals\/∃x,Z.cells.lookup x=À b
def NM(Z:Env)(x:Str)(b:È):Prop:=b=Z.locals\/Z.cells.lookup x=À b
theorem Ns.noSeq{h:Ó}{L:È}{m:Str->Option Ä}(hn:h.Ns L m):∀o,h.get? L=À o->¬ j0 o:=by
 show t5 hn λo' es ep ho hd z=>?_;rintro o e (⟨_,_,_,q⟩|⟨_,_,q⟩)
 ·rw[ho]at e;cases e;show nomatch hd.symm.trans q
 ·rw[ho]at e;cases e;show nomatch hd.symm.trans q
theorem ET.noSeq{h:Ó}{c:È}{u:Option Ä}(hc:h.IsCell c u):∀o,h.get? c=À o->¬ j0 o:=by
 show aF hc λo' ho hd=>?_;rintro o e (⟨_,_,_,q⟩|⟨_,_,q⟩)
 ·rw[ho]at e;cases e;show nomatch hd.symm.trans q
 ·rw[ho]at e;cases e;show nomatch hd.symm.trans q
section
variable{A:Ñ}{J aT:List È}{H ae:ag}{Z:Env}{O:List (Str×Nat)}{U:aL}{h h':Ó}
theorem eH.step(F:eH (br A) J Z O U h)(R:ar gg J H h)(S:SE J h aT h'):eH (br A) aT Z O U h':=by
 show aF F.ns λm hn hm=>?_
 have wW:∀c,c∉J->∀u,h.IsCell c u->h'.IsCell c u:=λc hc u x=>by show aF x λo ho hd=>⟨o,(S.pres _ _ ho hc).of (λes ep q=>nomatch hd.symm.trans q),hd⟩
 show⟨F.kind,F.glob,F.blt,⟨m,?_,λx i v a b c=>?_⟩,λx i a b=>?_,?_,F.locB,λx c e=>?_,F.cellI,F.slots,F.tab,F.stk.to λL o es ep h1 h2 h3=>⟨(S.pres _ _ h1 h3).isD h2,S.notin h1 h3⟩⟩
 ·show gv.ns hn λo e=>S.pres _ _ e F.locN
 ·show aF (hm x i v a b c) λy h1 h2=>⟨y,h1,h2.step R S⟩
 ·show fu (F.cells x i a b) λc u h1 h2 h3=>⟨c,u,h1,wW c (F.cellF x c h1).2.1 u h2,λv hv=>aF (h3 v hv) λy h4 h5=>⟨y,h4,h5.step R S⟩⟩
 ·show oS hn λo es ep ho r=>S.notin ho F.locN
 ·show EC (F.cellF x c e) λk9 h1 h2 h3=>?_;show W' k9 λu hu=>?_
  show⟨⟨u,wW c h1 u hu⟩,?_,h2,h3⟩;show aF hu λo ho hd=>S.notin ho h1
inductive I5(fr:List Env)(J:List È)(Z:Env)(O:List (Str×Nat))(s:Å)(aR:aL)(ae:ag)(s':Å):Prop
 |mk (aT:List È) (S:cU (FM J Z) J s.heap aT s'.heap) (R:ar gg aT ae s'.heap) (F:eH fr aT Z O aR s'.heap) (T:bJ s s'):I5 fr J Z O s aR ae s'
theorem I5.el{fr:List Env}{J:List È}{Z:Env}{O:List (Str×Nat)}{s:Å}{aR:aL}{ae:ag}{s':Å}{C:Prop}(x:I5 fr J Z O s aR ae s')(k:∀aT,cU (FM J Z) J s.heap aT s'.heap->ar gg aT ae s'.heap->eH fr aT Z O aR s'.heap->bJ s s'->C):C:=I5.casesOn (motive:=λz=>C) x k
theorem cU.ofSE(S:SE J h aT h')(Z:Env):cU (FM J Z) J h aT h':=⟨λb o e hb=>S.pres b o e λx=>hb (.inl x),S.dom,S.ext⟩
theorem FM.trans(x:cU (FM J Z) J h aT h')(y:cU (FM aT Z) aT h' J'' qM):cU (FM J Z) J h J'' qM:=
 cU.trans x y (λk k k hb=>hb) λb o e hb q=>by
  show ã q (λq=>?_) (λq=>?_)
  ·show x.notin e (λz=>hb (.inl z)) q
  ·show hb (.inr q)
end
def iF(A:Ñ)(E:Ä->Å->Prop)(J:List È)(H:ag)(Z:Env)(O:List (Str×Nat))(U:aL)(s:Å)(x:Str)(i:Nat)(v:V)(a:Ä)(Q:Unit->Å->Prop):Prop:=∀(F:eH (br A) J Z O U s.heap) (R:ar gg J H s.heap) (hx:O.lookup x=À i) (hk:Z.kindOf x=À .local\/Z.kindOf x=À .cell) (hv:VR gg J s.heap v a) (h:∀h' tk,cU (NM Z x) J s.heap J h'->ar gg J H h'->eH (br A) J Z O (cP U i v) h'->(∀{v:V} {a:Ä},VR gg J s.heap v a->VR gg J h' v a)->Q () {s with heap:=h',toks:=tk}),É mo A (storeName Z x a) Q E s
namespace store_nameH
def kc:=hc (Qo iF) ({},λz z=>True,[],[],default,[],λz=>Ã,dS,default,0,.none,.none,λz z=>True)
def A:=kc.1
def E:=kc.2.1
def J:=kc.2.2.1
def H:=kc.2.2.2.1
def Z:=kc.2.2.2.2.1
def O:=kc.2.2.2.2.2.1
def U:=kc.2.2.2.2.2.2.1
def s:=kc.2.2.2.2.2.2.2.1
def x:=kc.2.2.2.2.2.2.2.2.1
def i:=kc.2.2.2.2.2.2.2.2.2.1
def v:=kc.2.2.2.2.2.2.2.2.2.2.1
def a:=kc.2.2.2.2.2.2.2.2.2.2.2.1
def Q:=kc.2.2.2.2.2.2.2.2.2.2.2.2
theorem kt:iF A E J H Z O U s x i v a Q:=by
 intro F R hx hk hv h;show aF F.ns λm hn hm=>ã hk (λhk=>?_) (λhk=>?_)
 ·show wpAny_storeName_local hk hn (λh' lU lV=>?_) (by rw[F.kind];rfl)
  have noSeq:=Ns.noSeq hn;have kp:∀b o,b≠Z.locals->s.heap.get? b=À o->h'.get? b=À o:=λb o hb e=>lV.extBut b o hb e;have up:∀{v:V} {a:Ä},VR gg J s.heap v a->VR gg J h' v a:=λx=>x.stepT (λk k e=>e) λb o e wQ hn=>⟨kp b o (by rintro rfl;show noSeq o e wQ) e,hn⟩;show h h' _ ⟨λb o e hb=>.inl (kp b o (λx=>hb (.inl x)) e),λb o e=>?_,[],(Ĵ _).symm,λk hm=>(nomatch hm)⟩ (R.other F.locN F.locB kp noSeq) ?_ up
  ·by_cases hb:b=Z.locals
   ·apply aW hb
    show oS lU λo' k k s0 k=>⟨o',s0⟩
   ·show⟨o,kp b o hb e⟩
  ·show⟨F.kind,F.glob,F.blt,⟨_,lU,λy j w' hy uA hj=>?_⟩,λy j hy uA=>?_,F.locN,F.locB,λy c e=>?_,F.cellI,F.slots,F.tab,F.stk.to λL o es ep h1 h2 h3=>⟨?_,h3⟩⟩
   rotate_right
   ·by_cases hb:L=Z.locals
    ·show t5 lU λo' Oi Og s0 ke k=>⟨o',Oi,Og,hb▸s0,ke⟩
    ·show⟨o,es,ep,kp L o hb h1,h2⟩
   ·by_cases GF:y=x
    ·subst GF
     rw[hx]at hy;cases hy
     simp only[cP,if_true]at hj;cases hj
     show⟨a,by simp,up hv⟩
    ·have zx:j≠i:=λe=>GF (F.slots y x i (e▸hy) hx)
     simp only[cP,if_neg zx]at hj
     show aF (hm y j w' hy uA hj) λz h1 h2=>⟨z,by simp [GF,h1],up h2⟩
   ·have GF:y≠x:=by rintro rfl;rw[hk]at uA;rcases uA with q|q<;>cases q
    have zx:j≠i:=λe=>GF (F.slots y x i (e▸hy) hx);show fu (F.cells y j hy uA) λc u h1 h2 h3=>⟨c,u,h1,?_,λw' hw=>?_⟩
    ·show aF h2 λo ho hd=>⟨o,kp c o (F.cellF y c h1).2.2.1 ho,hd⟩
    ·simp only[cP,if_neg zx]at hw
     show aF (h3 w' hw) λz h4 h5=>⟨z,h4,up h5⟩
   ·show EC (F.cellF y c e) λKk h1 h2 h3=>?_;show gq Kk λu o ho hd=>?_
    show⟨⟨u,o,kp c o h2 ho,hd⟩,h1,h2,h3⟩
 ·show fu (F.cells x i hx (.inl hk)) λc u hc Os k=>EC (F.cellF x c hc) λk UZ Zb wJ=>wpAny_storeName_cell F.kind hk hc Os λh' eU lV=>?_
  have noSeq:=ET.noSeq Os;have kp:∀b o,b≠c->s.heap.get? b=À o->h'.get? b=À o:=λb o hb e=>lV.extBut b o hb e;have up:∀{v:V} {a:Ä},VR gg J s.heap v a->VR gg J h' v a:=λx=>x.stepT (λk k e=>e) λb o e wQ hn=>⟨kp b o (by rintro rfl;show noSeq o e wQ) e,hn⟩;show h h' _ ⟨λb o e hb=>.inl (kp b o (λy=>hb (.inr (y▸hc))) e),λb o e=>?_,[],(Ĵ _).symm,λk hm=>(nomatch hm)⟩ (R.other UZ wJ kp noSeq) ?_ up
  ·by_cases hb:b=c
   ·apply aW hb
    show aF eU λo' s0 k=>⟨o',s0⟩
   ·show⟨o,kp b o hb e⟩
  ·show⟨F.kind,F.glob,F.blt,⟨m,?_,λy j w' hy uA hj=>?_⟩,λy j hy uA=>?_,F.locN,F.locB,λy d e=>?_,F.cellI,F.slots,F.tab,F.stk.to λL o es ep h1 h2 h3=>⟨⟨o,es,ep,kp L o ?_ h1,h2⟩,h3⟩⟩
   rotate_right
   ·rintro rfl
    show aF Os λo' s0 ke=>?_;rw[h1]at s0;cases s0;show nomatch h2.symm.trans ke
   ·show oS hn λo es ep ho r=>⟨o,es,ep,kp _ o (Ne.symm Zb) ho,r⟩
   ·have GF:y≠x:=by rintro rfl;rw[hk]at uA;cases uA
    have zx:j≠i:=λe=>GF (F.slots y x i (e▸hy) hx)
    simp only[cP,if_neg zx]at hj
    show aF (hm y j w' hy uA hj) λz h1 h2=>⟨z,h1,up h2⟩
   ·by_cases GF:y=x
    ·subst GF
     apply fv (sm ((hx).symm.trans hy));show⟨c,À a,hc,eU,λw' hw=>?_⟩
     simp only[cP,if_true]at hw;cases hw
     show⟨a,N,up hv⟩
    ·have zx:j≠i:=λe=>GF (F.slots y x i (e▸hy) hx)
     show fu (F.cells y j hy uA) λd u' h1 h2 h3=>?_;have SW:d≠c:=λe=>GF (F.cellI y x c (e▸h1) hc);show⟨d,u',h1,?_,λw' hw=>?_⟩
     ·show aF h2 λo ho hd=>⟨o,kp d o SW ho,hd⟩
     ·simp only[cP,if_neg zx]at hw
      show aF (h3 w' hw) λz h4 h5=>⟨z,h4,up h5⟩
   ·show EC (F.cellF y d e) λKl h1 h2 h3=>?_;show gq Kl λu' o ho hd=>?_
    by_cases SW:d=c
    ·subst SW
     show⟨⟨_,eU⟩,h1,h2,h3⟩
    ·show⟨⟨u',o,kp d o SW ho,hd⟩,h1,h2,h3⟩
end store_nameH
theorem fE:iF A E J H Z O U s x i v a Q:=hk (P:=Qo iF) store_nameH.kt (A,E,J,H,Z,O,U,s,x,i,v,a,Q)
section
variable{A:Ñ}{E:Ä->Å->Prop}{J:List È}{H:ag}{Z:Env}{O:List (Str×Nat)}{U:aL}{s:Å}
theorem ja(G:fN gg cx fs mg mb)(F:eH (br A) J Z O U s.heap)(R:ar gg J H s.heap)(hx:Z.kindOf x=À .globalImplicit)(hd:(x==("__debug__":Str))=Ê)
  (hv:mg x=À v) (h:Q v s):É mo A (eval (.Name x pos) Z) Q E s:=
 Name_function_global F.kind hx (loadGlobal_global (by rw[F.glob];show G.gns.keeps R.base) hv h) hd
theorem cF(G:fN gg cx fs mg mb)(F:eH (br A) J Z O U s.heap)(R:ar gg J H s.heap)(hx:Z.kindOf x=À .globalImplicit)(hd:(x==("__debug__":Str))=Ê)
  (hp:x∈eN) (hv:ę x=À v) (h:Q v s):É mo A (eval (.Name x pos) Z) Q E s:=
 Name_function_global F.kind hx (loadGlobal_builtin (by rw[F.glob];show G.gns.keeps R.base) (G.prims x hp).1 (by rw[F.blt];show G.bns.keeps R.base) ((G.prims x hp).2.trans hv) h) hd
def aS(A:Ñ)(Z:Env)(O:List (Str×Nat))(e:Ô)(m:aL->ag->Option (V×ag)):Prop:=
 ∀U H v ae,m U H=À (v,ae)->∀J s,ar gg J H s.heap->eH (br A) J Z O U s.heap->∀E,É mo A (eval e Z) (bA gg J s v ae) E s
def fq(A:Ñ)(Z:Env)(O:List (Str×Nat))(e:Ô)(m:aL->ag->Option (Bool×ag)):Prop:=
 ∀U H b ae,m U H=À (b,ae)->∀J s,ar gg J H s.heap->eH (br A) J Z O U s.heap->∀E,É mo A (isTrue e Z (eval e Z)) (Cp J s b ae) E s
theorem bA.here(R:ar gg J H s.heap)(hv:VR gg J s.heap v a):bA gg J s v H a {s with toks:=tk}:=
 ⟨J,SE.refl _ _,R,hv,N,N,N⟩
theorem zK:∀{k:ą},GK k=Æ->k=.local\/k=.cell\/k=.free:=λ{k} h=>by cases k<;>first|exact .inl N|exact .inr (.inl N)|exact .inr (.inr N)|cases h
set_option tactic.hygienic true in
theorem rK{x:Str}{pos:Pos}{c:CE}{Á:az}(G:fN gg cx fs mg mb)(hc:vV cx Z.scope O x=À c):aS A Z O (.Name x pos) (ab Á c):=by
 intro U H v ae he J s R F E;unfold vV at hc;split at hc
 ·show no hc
 ·rename_i hd
  simp only[Ϙ,not_or,ae']at hd
  show bW hc λk hk hc=>?_;by_cases hl:GK k=Æ
  ·rw[if_pos hl]at hc
   show bW hc λi hi hc=>?_;obtain rfl:=sm hc;show aF (ob he) λv' uC he=>?_;apply dn he;rcases zK hl with rfl|rfl|rfl
   ·show aF F.ns λm hn hm=>aF (hm x i _ hi hk uC) λa h1 h2=>wpAny_Name (wpAny_loadName_local F.kind hk hn h1 (bA.here R h2)) hd.1
   ·show fu (F.cells x i hi (.inl hk)) λcl u h1 h2 h3=>aF (h3 _ uC) λa q2 h4=>?_;subst q2
    show wpAny_Name (wpAny_loadName_cell F.kind hk h1 h2 (bA.here R h4)) hd.1
   ·show fu (F.cells x i hi (.inr hk)) λcl u h1 h2 h3=>aF (h3 _ uC) λa q2 h4=>?_;subst q2
    show wpAny_Name (wpAny_loadName_free F.kind hk h1 h2 (bA.here R h4) hd.2) hd.1
  ·rw[if_neg hl]at hc
   show dF hc λhg hc=>bW hc λi hi hc=>?_;obtain rfl:=sm hc;show aO (nT he) λKm RK=>(W' (G.consts x i hi) λt ht=>?_);apply fv Km;apply fv RK;rw[beq_iff_eq.mp hg]at hk;show ja G F R hk hd.1 ht (bA.here R (.int i t))
end
section
variable{A:Ñ}{E:Ä->Å->Prop}{J:List È}{H:ag}{s:Å}
theorem km(h:∀o,x=À o->False):x=Ã:=by
 cases x with
 |none=>rfl
 |some o=>show(h o N).elim
theorem gT{h:Ó}{T:È}(hs:h.objs.size<=T):h.get? T=Ã:=km λo e=>ľ.mpr hs (ō e)
theorem aH(h:Ó):h.get? h.objs.size=Ã:=gT (Đ _)
theorem bA.newL(R:ar gg J H s.heap)(hz:l.length<=al+1)(hv:bq gg J s.heap l vs)(hk:∀b o,s.heap.get? b=À o->h'.get? b=À o)
  (hD:s.heap.get? D=Ã) (hl:h'.PlainList D vs.toArray):bA gg J s (.ref H.length) (H++[.lst l]) (.ref D) {s with heap:=h',toks:=tk}:=by
 have R':ar gg J H h':=R.keeps hk;have S:SE J s.heap J h':=SE.keeps J hk;have C5:D∉J:=λx=>(R.live x).elim λo ho=>no (hD.symm.trans ho);have PJ:gg.B.get? D=Ã:=km λo e=>no (hD.symm.trans (R.base D o e));show⟨J++[D],⟨S.pres,S.dom,[D],N,λa ha=>?_⟩,R'.more C5 PJ (.lst hl hz (hv.step R S)) (λo e=>by show W' hl λn ho=>?_;apply fv (sm ((ho).symm.trans e));show gK N),.ref ?_,N,N,N⟩
 ·apply aW (O'.mp ha);show hD
 ·rw[<-R.len];simp
theorem bA.newT(R:ar gg J H s.heap)(hz:l.length<=al+1)(hv:bq gg J s.heap l vs)(hk:∀b o,s.heap.get? b=À o->h'.get? b=À o)
  (hD:s.heap.get? D=Ã) (hl:h'.IsTuple D vs.toArray):bA gg J s (.tup l) H (.ref D) {s with heap:=h',toks:=tk}:=
 have S:SE J s.heap J h':=SE.keeps J hk
 ⟨J,S,R.keeps hk,.tup hl hz (hv.step R S) (λx=>(R.live x).elim λo ho=>no (hD.symm.trans ho)),N,N,N⟩
theorem fR{h h':Ó}{D:È}(hk:∀b o,h.get? b=À o->h'.get? b=À o)(hD:h'.get? D=Ã):h.get? D=Ã:=km λo e=>no (hD.symm.trans (hk D o e))
theorem ar.list(R:ar gg J H h)(hr:J[r]?=À a)(hl:lst H r=À l):∃vs,h.PlainList a vs.toArray/\bq gg J h l vs/\l.length<=al+1:=by
 have:=R.objs r a _ hr (qV hl);cases this with
 |lst h1 hz h2=>show⟨_,h1,h2,hz⟩
theorem Ph(l:List α)(n:Nat):BL l n=(Ő n l).flatten:=by
 induction n with
 |zero=>rfl
 |succ n ih=>simp [BL,adV,ih]
theorem bq.rep(x:bq gg J h l vs)(n:Nat):bq gg J h (BL l n) (Lar.BL vs n):=by
 induction n with
 |zero=>show .nil
 |succ n ih=>show x.append ih
set_option tactic.hygienic true in
theorem AL(h:x.natAbs<18446744073709551616):Builtin.Int.intBits x<=64:=by
 unfold Builtin.Int.intBits;split
 ·show Ĥ _
 ·rename_i hx
  have h0:x.natAbs≠0:=by intro h';show hx (by simpa using h')
  have:x.natAbs.log2<64:=(Nat.log2_lt h0).mpr h;show this
set_option tactic.hygienic true in
theorem vI(hi:px x=À i)(hx:VR gg J h x a):∃t,a=.int i t:=by
 revert hi;apply VR.el hx
 case int=>intro j t hi;show⟨t,by rw[sm hi]⟩
 all_goals (intros;rename_i hi;exact no hi)
set_option tactic.hygienic true in
theorem vB(hi:NV x=À i)(hx:VR gg J h x a):a=.bool i:=by
 revert hi;apply VR.el hx
 case bool=>intro j hi;rw[sm hi]
 all_goals (intros;rename_i hi;exact no hi)
set_option tactic.hygienic true in
theorem vS(hi:Cy x=À i)(hx:VR gg J h x a):∃t,a=.str i t:=by
 revert hi;apply VR.el hx
 case str=>intro j t hi;show⟨t,by rw[sm hi]⟩
 all_goals (intros;rename_i hi;exact no hi)
set_option tactic.hygienic true in
theorem vR(hi:sD x=À i)(hx:VR gg J h x a):∃c,a=.ref c/\J[i]?=À c:=by
 revert hi;apply VR.el hx
 case ref=>intro n c hr hi;show⟨c,N,sm hi▸hr⟩
 all_goals (intros;rename_i hi;exact no hi)
theorem EN{C:Ä->Prop}(hi:px x=À i)(hx:VR gg J h x a)(k:∀t,C (.int i t)):C a:=(vI hi hx).elim λt e=>aW e (k t)
theorem Wx{C:Ä->Prop}(hi:Cy x=À i)(hx:VR gg J h x a)(k:∀t,C (.str i t)):C a:=(vS hi hx).elim λt e=>aW e (k t)
theorem Tv{C:Ä->Prop}(hi:sD x=À i)(hx:VR gg J h x a)(k:∀c,J[i]?=À c->C (.ref c)):C a:=(vR hi hx).elim λt e=>aW e.1 (k t e.2)
set_option tactic.hygienic true in
theorem vT(hi:Cz x=À i)(hx:VR gg J h x a):∃c vs,a=.ref c/\h.IsTuple c vs.toArray/\i.length<=al+1/\bq gg J h i vs/\c∉J:=by
 revert hi;apply VR.el hx
 case tup=>intro l c vs h1 h2 h3 h4 hi;rw[<-sm hi];show⟨c,vs,N,h1,h2,h3,h4⟩
 all_goals (intros;rename_i hi;exact no hi)
theorem pn{h:Ó}{a:È}{vs:Array Ä}(x:h.IsTuple a vs):∃n d sl,h.get? a=À {cls:=.type "tuple",dict:=d,data:=.seq vs n,slots:=sl}:=by
 obtain ⟨⟨cls,d,data,sl⟩,ho,hc,n,hd⟩:=x
 simp only at hc hd
 subst hc hd;show⟨n,d,sl,ho⟩
theorem lZ{h:Ó}{a:È}{vs:Array Ä}(x:h.IsList a vs):∃n d sl,h.get? a=À {cls:=.type "list",dict:=d,data:=.seq vs n,slots:=sl}:=by
 obtain ⟨⟨cls,d,data,sl⟩,ho,hc,n,hd⟩:=x
 simp only at hc hd
 subst hc hd;show⟨n,d,sl,ho⟩
theorem gE(h:Ó)(vs:Array Ä):(h.push {cls:=.type "tuple",data:=.seq vs}).IsTuple h.objs.size vs:=⟨_,Ł _ N,N,_,N⟩
theorem o3(h:Ó)(vs:Array Ä):(h.push {cls:=.type "list",data:=.seq vs}).PlainList h.objs.size vs:=⟨_,Ł _ N⟩
theorem bq.nil_iff(x:bq gg J h l vs):vs=[]↔l=[]:=by cases x<;>simp
theorem kL(h:rj H l=À (v,ae)):l.length<=ê/\v=.tup l/\ae=H:=by show dF h λhz h=>?_;apply dn h;show⟨hz,N,N⟩
theorem fV(h:rV H l=À (v,ae)):l.length<=ê/\v=.ref H.length/\ae=H++[.lst l]:=by show dF h λhz h=>?_;apply dn h;show⟨hz,N,N⟩
theorem Jh{l m:List V}{ta tb:È}{vs ws:List Ä}(hz:(l++m).length<=ê)(R:ar gg J H s.heap)(ht:s.heap.IsTuple ta vs.toArray)(To:l.length<=al+1)(hv:bq gg J s.heap l vs)(OC:ta∉J)(hu:s.heap.IsTuple tb ws.toArray)(V5:m.length<=al+1)(hw:bq gg J s.heap m ws)(MA:tb∉J):
  É mo A (ĺ .Add (.ref ta) (.ref tb)) (bA gg J s (.tup (l++m)) H) E s:=by
 have RD:=ſ hz;show wi (pn ht) λn1 d1 s1 o1=>wi (pn hu) λn2 d2 s2 o2=>?_;rw[û,hv.length,hw.length]at hz;by_cases e1:vs=[]
 ·show PySem.concat_meets ⟨_,o1,N⟩ ⟨_,o2,N⟩ Š seq_tuple_add PySem.F.slot_tuple_add PySem.F.entry_tuple_add (PySem.F.args_tuple_add_2 _ _)
   (tuple_addW0 _ _ vs.toArray ws.toArray n1 n2 d1 d2 s1 s2 (by simp [e1])) ⟨o1,o2,?_⟩
  have:l=[]:=hv.nil_iff.mp e1;apply aW this;show bA.here (tk:=s.toks) R (.tup hu V5 hw MA)
 ·by_cases e2:ws=[]
  ·show PySem.concat_meets ⟨_,o1,N⟩ ⟨_,o2,N⟩ Š seq_tuple_add PySem.F.slot_tuple_add PySem.F.entry_tuple_add (PySem.F.args_tuple_add_2 _ _)
    (tuple_addW1 _ _ vs.toArray ws.toArray n1 n2 d1 d2 s1 s2 (by simpa using e1) (by simp [e2])) ⟨o1,o2,?_⟩
   have:m=[]:=hw.nil_iff.mp e2;apply aW this;rw[Ĵ];show bA.here (tk:=s.toks) R (.tup ht To hv OC)
  ·show PySem.concat_meets ⟨_,o1,N⟩ ⟨_,o2,N⟩ Š seq_tuple_add PySem.F.slot_tuple_add PySem.F.entry_tuple_add (PySem.F.args_tuple_add_2 _ _)
    (tuple_addW2 _ _ vs.toArray ws.toArray n1 n2 d1 d2 s1 s2 (by simpa using e1) (by simpa using e2) (by rw[ų,ų];show hz)) ⟨o1,o2,?_⟩
   rw[show vs.toArray++ws.toArray=(vs++ws).toArray from by simp];show bA.newT R RD (hv.append hw) (λb o e=>N' _ e) (aH _) (gE _ _)
theorem Jf{i j:Nat}{l m:List V}{ta tb:È}(hz:(l++m).length<=ê)(R:ar gg J H s.heap)(hi:J[i]?=À ta)(hj:J[j]?=À tb)(h1:lst H i=À l)(h2:lst H j=À m):
  É mo A (ĺ .Add (.ref ta) (.ref tb)) (bA gg J s (.ref H.length) (H++[.lst (l++m)])) E s:=by
 have RD:=ſ hz;show dN (R.list hi h1) λvs hl hv z=>dN (R.list hj h2) λws hm hw z=>wi (lZ hl.isList) λn1 d1 s1 o1=>wi (lZ hm.isList) λn2 d2 s2 o2=>?_;rw[û,hv.length,hw.length]at hz
 show PySem.concat_meets ⟨_,o1,N⟩ ⟨_,o2,N⟩ noFill_list_add seq_list_add PySem.F.slot_list_add PySem.F.entry_list_add (PySem.F.args_list_add_2 _ _)
  (list_addW _ _ vs.toArray ws.toArray n1 n2 d1 d2 s1 s2 (by simpa using hz)) ⟨o1,o2,?_⟩
 rw[show vs.toArray++ws.toArray=(vs++ws).toArray from by simp];show bA.newL R RD (hv.append hw) (λb o e=>N' _ e) (aH _) (o3 _ _)
theorem KG{i:Nat}{l:List V}{ta:È}{n:Int}{u:Tok}(hz:(BL l n.toNat).length<=ê)(C8:0<=n)(C9:n<=100000)(Rp:l.length<=100)(R:ar gg J H s.heap)(hi:J[i]?=À ta)(h1:lst H i=À l):
  É mo A (ĺ .Mult (.ref ta) (.int n u)) (bA gg J s (.ref H.length) (H++[.lst (BL l n.toNat)])) E s:=by
 have RD:=ſ hz;show dN (R.list hi h1) λvs hl hv z=>wi (lZ hl.isList) λn1 d1 s1 o1=>?_;have Z5:=hv.length;have hs:vs.toArray.size*n.toNat<=10000000:=Nat.mul_le_mul (show vs.length<=100 from Z5▸Rp) (aeq.mpr C9);have hf:Builtin.List.listFitsIndex n=Æ:=Ľ.mpr ⟨decide_eq_true (Ŀ (by decide) C8),decide_eq_true (adm C9 (by decide))⟩
 show wpAny_binaryOp_repeat_ref (T := "list") (U := "int") (by decide) ⟨_,o1,N⟩ (λs'=>typeIs_int s' n u) noFill_list_mul PySem.F.fills_int_mul PySem.F.slot_int_rmul repeat_list PySem.F.slot_int_index.lookup
  (call_meets PySem.F.slot_int_rmul (typeIs_int s n u) PySem.F.entry_int_rmul (PySem.F.args_int_rmul_2 _ _) (lm_int_rmul_list_any n u _ vs.toArray n1 d1 s1)
   ⟨o1,N,⟨_,o1,N⟩,call_meets PySem.F.slot_list_mul ⟨_,o1,N⟩ PySem.F.entry_list_mul (PySem.F.args_list_mul_2 _ _)
    (lm_list_mul_any _ vs.toArray n1 d1 s1 n u (by rw[hf];show Ķ) (ľ.mpr (z' hs (by decide))) (λh=>absurd (of_decide_eq_true h) (ľ.mpr (z' hs (by decide)))))
    ⟨o1,?_⟩⟩)
 rw[listMul_foldl_if,show (vs.toArray.toList)=vs from N,<-Ph];show bA.newL R RD (hv.rep _) (λb o e=>N' _ e) (aH _) (o3 _ _)
theorem Jg{x y:V}{a b:Ä}{v:V}{ae:ag}(he:L6 x y H=À (v,ae))(R:ar gg J H s.heap)(hx:VR gg J s.heap x a)(hy:VR gg J s.heap y b):
  É mo A (ĺ .Add a b) (bA gg J s v ae) E s:=by
 revert he;apply VR.el hx
 case int=>
  intro i t he;show bW he λj hj he=>?_;apply EN hj hy;intro u;apply dn he;show PyProof.Rows.add_int (bA.here R (.int _ _))
 case str=>
  intro p t he;show bW he λq hq he=>?_;apply Wx hq hy;intro u;show dF he λhz he=>?_;apply dn he;show PyProof.Rows.add_str (λt' tk=>bA.here R (.str _ _)) hz
 case tup=>
  intro _ _ _ ht To hv OC he;show bW he λm hm he=>Mj (vT hm hy) λtb ws q3 hu V5 hw MA=>?_;apply aW q3;show gH (kL he) λhz q2 q3=>?_;apply aW q2;apply aW q3;show Jh hz R ht To hv OC hu V5 hw MA
 case ref=>
  intro _ _ hi he;show bW he λj hj he=>?_;apply Tv hj hy;intro tb hj;show ie he λl m h1 h2 he=>?_;show gH (fV he) λhz q2 q3=>?_;apply aW q2;apply aW q3;show Jf hz R hi hj h1 h2
 case none=>intro he;show no he
 case bool=>intro _ he;show no he
 case ro=>intro _ _ _ _ _ _ he;show no he
theorem KH{x y:V}{a b:Ä}{v:V}{ae:ag}(he:M4 x y H=À (v,ae))(R:ar gg J H s.heap)(hx:VR gg J s.heap x a)(hy:VR gg J s.heap y b):
  É mo A (ĺ .Mult a b) (bA gg J s v ae) E s:=by
 show bW he λn hn he=>?_;apply EN hn hy;intro u;revert he;apply VR.el hx
 case int=>
  intro i t he;show dF he λhm he=>?_;apply dn he;show PyProof.Rows.mul_int (bA.here R (.int _ _)) ?_
  simp only[tu,Ϙ,decide_eq_true_eq]at hm
  show ã hm (λhm=>?_) (λhm=>?_)
  ·show IntMulOk.of_left (AL hm)
  ·show IntMulOk.of_right (AL hm)
 case tup=>intro _ _ _ _ _ _ _ he;show no he
 case ref=>
  intro _ _ hi he;show bW he λl hl he=>?_;obtain ⟨⟨h1,h2,h3⟩,he⟩:=cT he;show gH (fV he) λhz q2 q3=>?_;apply aW q2;apply aW q3;show KG hz h1 h2 h3 R hi hl
 case none=>intro he;show no he
 case bool=>intro _ he;show no he
 case str=>intro _ _ he;show no he
 case ro=>intro _ _ _ _ _ _ he;show no he
theorem uE{f:Int->Int->Option Int}(he:Bj f x y H=À (v,ae))(hx:VR gg J s.heap x a)(hy:VR gg J s.heap y b)
  (k:∀i j z t u,f i j=À z->É mo A (ĺ op (.int i t) (.int j u)) (bA gg J s (.int z) H) E s):É mo A (ĺ op a b) (bA gg J s v ae) E s:=by
 show ie he λi j hi hj he=>?_;show bW he λz hz he=>?_;apply EN hi hx;intro t;apply EN hj hy;intro u;apply dn he;show k i j z t u hz
theorem zM{α:Type}{c:Prop}[Decidable c]{x:Option α}{r:α}(h:(if c then Ã else x)=À r):¬ c/\x=À r:=by
 by_cases hc:c
 ·rw[if_pos hc]at h;show no h
 ·rw[if_neg hc]at h;show⟨hc,h⟩
theorem Jo(he:oN op x y H=À (v,ae))(R:ar gg J H s.heap)(hx:VR gg J s.heap x a)(hy:VR gg J s.heap y b):
  É mo A (ĺ op a b) (bA gg J s v ae) E s:=by
 cases op with
 |Add=>show Jg he R hx hy
 |Mult=>show KH he R hx hy
 |Sub=>show uE he hx hy λi j z t u h=>by apply dC h;show PyProof.Rows.sub_int (bA.here R (.int _ _))
 |FloorDiv=>
  show uE he hx hy λi j z t u h=>?_
  ·show aO (zM h) λhm h=>?_
   apply dC h
   simp only[not_or,ϕ]at hm
   show PyProof.Rows.floordiv_int hm.1 (bA.here R (.int _ _)) (.inl (PyProof.noPylong_small hm.2))
 |Mod=>
  show uE he hx hy λi j z t u h=>?_
  ·show aO (zM h) λhm h=>?_
   apply dC h;show PyProof.Rows.mod_int' hm (bA.here R (.int _ _))
 |_=>show no he
end
end Lar
namespace Lar
open PySem PyProof.Rows PySem.Calls PySem.SeqAt
structure iZ(A:Ñ)(d:Nat):Prop where
 handled:A.handled=Ã
 depth:A.depth+d<=600
 units:A.units+3*d<=9000
section
variable{A:Ñ}{E:Ä->Å->Prop}{J:List È}{H:ag}{s:Å}
theorem wj{f:V->V->Option Bool}{P:Ä->Ä->Bool->Prop}{h:Ó}
  (hf:∀x y a b c,f x y=À c->VR gg J h x a->VR gg J h y b->P a b c) {l:List V}:∀{m:List V} {vs ws:List Ä} {c:Bool},FQ f l m=À c->bq gg J h l vs->bq gg J h m ws ->
  ∃e:Nat->Bool,(∀(j:Nat) (h1:j<vs.length) (h2:j<ws.length),P vs[j] ws[j] (e j))/\c=((ċ (min vs.length ws.length)).all e&&vs.length==ws.length):=by
 induction l with
 |nil=>intro m vs ws c hc hv hw;rw[hv.nilE];show⟨λz=>Æ,λj h1=>absurd h1 (aci _),?_⟩;rw[<-sm hc,<-hw.length];cases m<;>rfl
 |cons x xs ih=>
  intro m vs ws c hc hv hw;show hv.consE λa us ev h1 hr=>?_;cases m with
  |nil=>rw[hw.nilE,ev];show⟨λz=>Æ,λj z h2=>absurd h2 (aci _),(sm hc).symm⟩
  |cons y ys=>
   show hw.consE λb ts ew h2 hs=>bW hc λp k1 hc=>bW hc λq k2 hc=>aF (ih k2 hr hs) λe he q3=>?_;rw[ev,ew,<-sm hc,q3];show⟨λj=>Nat.rec p (λj z=>e j) j,λj YD YG=>?_,?_⟩
   ·cases j with
    |zero=>show hf x y a b p k1 h1 h2
    |succ j=>show he j (ab6 YD) (ab6 YG)
   ·rw[ϧ,ϧ,Nat.succ_min_succ,aer,List.all_cons,List.all_map,Bool.and_assoc]
    congr 2
    show(decide_eq_decide.mpr Nat.succ_inj).symm
theorem Sp{a n c:Nat}(h:a+n<c):a<c:=ŷ (Ň _ _) h
set_option tactic.hygienic true in
theorem AZ{n:Nat}(R:ar gg J H s.heap):∀{A:Ñ} {x y:V} {a b:Ä} {c:Bool},A.units+n<cLine->WW n x y=À c->VR gg J s.heap x a->VR gg J s.heap y b->EqAt A s a b c/\RcAt A s a b c/\RcNeAt A s a b (!c):=by
 induction n with
 |zero=>intro A x y a b c _ h;show no h
 |succ n ih=>
  intro A x y a b c hu h hx hy;revert h;apply VR.el hx
  case none=>
   intro h;revert h;apply VR.el hy
   case none=>intro h;apply dC h;show⟨EqAt.same _,RcAt.none_none,RcNeAt.none_none⟩
   case int=>intro i t h;apply dC h;show⟨EqAt.none_int _ _,RcAt.none_int _ _,RcNeAt.none_int _ _⟩
   case tup=>intro _ _ _ ht _ _ _ h;apply dC h;show⟨EqAt.none_tuple ht (Sp hu),RcAt.none_tuple ht (Sp hu),RcNeAt.none_tuple ht (Sp hu)⟩
   all_goals (intros;rename_i h;exact no h)
  case bool=>
   intro p h;revert h;apply VR.el hy
   case bool=>intro q h;apply dC h;show⟨EqAt.bool_bool _ _,RcAt.bool_bool _ _,RcNeAt.bool_bool _ _⟩
   all_goals (intros;rename_i h;exact no h)
  case int=>
   intro i t h;revert h;apply VR.el hy
   case none=>intro h;apply dC h;show⟨EqAt.int_none _ _,RcAt.int_none _ _,RcNeAt.int_none _ _⟩
   case int=>intro j u h;apply dC h;show⟨EqAt.int_int _ _ _ _,RcAt.int_int _ _ _ _,RcNeAt.int_int _ _ _ _⟩
   all_goals (intros;rename_i h;exact no h)
  case str=>
   intro p t h;revert h;apply VR.el hy
   case str=>intro q u h;apply dC h;show⟨EqAt.str_str _ _ _ _,RcAt.str_str _ _ _ _,RcNeAt.str_str _ _ _ _⟩
   all_goals (intros;rename_i h;exact no h)
  case tup=>
   intro l ta vs ht To hv OC h;revert h;apply VR.el hy
   all_goals (intros;rename_i h;exact no h)
  case ref=>intro _ _ _ h;show no h
  case ro=>intro _ _ _ _ _ _ h;show no h
end
section
variable{A:Ñ}{E:Ä->Å->Prop}{J:List È}{H:ag}{s:Å}
theorem G9{i j:Nat}{ta tb:È}{l m:List V}{c:Bool}(he:(if l.length=m.length then (if l.length=0 then À Æ else JL l m) else À Ê)=À c)(hA:A.units+8<cLine)(R:ar gg J H s.heap)(hi:J[i]?=À ta)(hj:J[j]?=À tb)(h1:lst H i=À l)(h2:lst H j=À m):
  RcAt A s (.ref ta) (.ref tb) c/\RcNeAt A s (.ref ta) (.ref tb) (!c):=by
 have hu:A.units<cLine:=Sp hA;show dN (R.list hi h1) λvs hl PY z=>dN (R.list hj h2) λws hm XO z=>?_;have hv:=PY.length;have hw:=XO.length;by_cases ca:l.length=m.length
 ·rw[if_pos ca]at he
  have oY:vs.length=ws.length:=hv.symm.trans (ca.trans hw);by_cases h0:l.length=0
  ·rw[if_pos h0]at he
   apply dC he;have IR:vs.toArray.size=0:=hv.symm.trans h0;show⟨RcAt.lists (A:=A) (e:=λz=>Æ) hl.isList hm.isList oY hu (λj h1 h2=>absurd h1 (by rw[IR];show aci _)) |> λk=>by simpa [IR] using k,RcNeAt.lists (A:=A) (e:=λz=>Æ) hl.isList hm.isList oY hu (λj h1 h2=>absurd h1 (by rw[IR];show aci _)) |> λk=>by simpa [IR] using k⟩
  ·rw[if_neg h0]at he
   show aF (wj (P:=λa b c=>EqAt A.in1 s a b c) (λx y a b c h1 h2 h3=>(AZ R (n:=6) (A:=A.in1) (Ş hA) h1 h2 h3).1) he PY XO) λe Xn q3=>?_;apply aW q3;have k1:=RcAt.lists (A:=A) (e:=e) hl.isList hm.isList (by simpa using oY) hu (λj h1 h2=>Xn j (by simpa using h1) (by simpa using h2));have k2:=RcNeAt.lists (A:=A) (e:=e) hl.isList hm.isList (by simpa using oY) hu (λj h1 h2=>Xn j (by simpa using h1) (by simpa using h2))
   simp only[ų]at k1 k2
   simp only[oY,aeX,beq_self_eq_true,Bool.and_true]at k1 k2 ⊢
   show⟨k1,k2⟩
 ·rw[if_neg ca]at he
  apply dC he;have oY:¬ vs.length=ws.length:=λq=>ca (hv.trans (q.trans hw.symm));show⟨RcAt.lists_lengths hl.isList hm.isList (by simpa using oY) hu,RcNeAt.lists_lengths hl.isList hm.isList (by simpa using oY) hu⟩
set_option tactic.hygienic true in
theorem FV(he:u1 H x y=À c)(hA:A.units+8<cLine)(R:ar gg J H s.heap)(hx:VR gg J s.heap x a)(hy:VR gg J s.heap y b):
  RcAt A s a b c/\RcNeAt A s a b (!c):=by
 have bn:SQ x y=À c->RcAt A s a b c/\RcNeAt A s a b (!c):=λh=>(AZ R (n:=6) (Ş (Ş hA)) h hx hy).2;have hu:A.units<cLine:=Sp hA;revert he bn;apply VR.el hx
 case ref=>
  intro _ _ hi he bn;show bW he λl hl he=>aF (R.list hi hl) λvs jd _=>?_;revert bn he;apply VR.el hy
  case ref=>
   intro _ _ hj bn he;show bW he λm hm he=>G9 he hA R hi hj hl hm
  case none=>intro bn he;apply dC he;show⟨RcAt.list_none jd.isList hu,RcNeAt.list_none jd.isList hu⟩
  case tup=>intro _ _ _ ht _ _ _ bn he;apply dC he;show⟨RcAt.list_tuple jd.isList ht hu,RcNeAt.list_tuple jd.isList ht hu⟩
  all_goals (intros;rename_i bn he;exact no he)
 case none=>
  intro he bn;revert he bn;apply VR.el hy
  case ref=>
   intro _ _ hj he bn;show bW he λm hm he=>?_;apply dC he;show aF (R.list hj hm) λvs jd _=>⟨RcAt.none_list jd.isList hu,RcNeAt.none_list jd.isList hu⟩
  all_goals (intros;rename_i he bn;exact bn he)
 case tup=>
  intro _ _ _ ht hz hv _ he bn;revert he bn;apply VR.el hy
  case ref=>
   intro _ _ hj he bn;show bW he λm hm he=>?_;apply dC he;show aF (R.list hj hm) λvs jd _=>⟨RcAt.tuple_list ht jd.isList hu,RcNeAt.tuple_list ht jd.isList hu⟩
  all_goals (intros;rename_i he bn;exact bn he)
 all_goals (intros;rename_i he bn;exact bn he)
theorem Pa(he:((u1 H x y).bind λc=>À (!c))=À c)(hA:A.units+8<cLine)(R:ar gg J H s.heap)(hx:VR gg J s.heap x a)(hy:VR gg J s.heap y b):RcNeAt A s a b c:=by show bW he λd hd he=>?_;apply dC he;show(FV hd hA R hx hy).2
theorem pQ(he:qR f x y=À c)(hx:VR gg J s.heap x a)(hy:VR gg J s.heap y b)(h:Q (.bool c) s)
  (k:∀i j t u,Q (.bool (f i j)) s->É mo A (compareOp op (.int i t) (.int j u)) Q E s):É mo A (compareOp op a b) Q E s:=by
 show ie he λi j hi hj he=>?_;obtain rfl:=sm he;show W' (vI hi hx) λt q2=>?_;apply aW q2;show W' (vI hj hy) λu q2=>?_;apply aW q2;show k i j t u h
theorem Bn(hx:VR gg J h x a):(Tp x=Æ/\a=.none)\/(Tp x=Ê/\a≠.none):=by
 apply VR.el hx
 case none=>skip;show .inl ⟨N,N⟩
 all_goals (intros;exact .inr ⟨N,λe=>nomatch e⟩)
set_option tactic.hygienic true in
theorem OU(he:Ki x y=À c)(hx:VR gg J s.heap x a)(hy:VR gg J s.heap y b)(h:Q (.bool c) s):É mo A (compareOp .Is a b) Q E s:=by
 revert he;apply VR.el hy
 case none=>
  intro he;obtain rfl:=sm he;rcases Bn hx with ⟨h1,rfl⟩|⟨h1,h2⟩
  ·rw[h1]at h;show is_none_none h
  ·rw[h1]at h;show is_none_ne h2 h
 all_goals (intros;rename_i he;exact no he)
set_option tactic.hygienic true in
theorem Dk(he:MV x y=À c)(hx:VR gg J s.heap x a)(hy:VR gg J s.heap y b)(h:Q (.bool c) s):É mo A (compareOp .IsNot a b) Q E s:=by
 revert he;apply VR.el hy
 case none=>
  intro he;obtain rfl:=sm he;rcases Bn hx with ⟨h1,rfl⟩|⟨h1,h2⟩
  ·rw[h1]at h;show isnot_none_none h
  ·rw[h1]at h;show isnot_none_ne h2 h
 case bool=>
  intro q he;show bW he λp hp he=>?_;obtain rfl:=sm he;apply aW (vB hp hx);show wpAny_isNot_plain (by cases p<;>cases q<;>rfl) ?_;have:(!(Value.bool p==Value.bool q))=(p != q):=by cases p<;>cases q<;>rfl
  rw[this];show h
 all_goals (intros;rename_i he;exact no he)
theorem AT(he:AU op x y H=À c)(hA:A.units+8<cLine)(R:ar gg J H s.heap)(hx:VR gg J s.heap x a)(hy:VR gg J s.heap y b)
  (h:Q (.bool c) s):É mo A (compareOp op a b) Q E s:=by
 cases op with
 |Eq=>show(FV he hA R hx hy).1 gg.prog gg.w E Q h
 |NotEq=>show(Pa he hA R hx hy) gg.prog gg.w E Q h
 |Lt=>show pQ he hx hy h λi j t u q=>PyProof.Rows.lt_int q
 |LtE=>show pQ he hx hy h λi j t u q=>PyProof.Rows.le_int q
 |Gt=>show pQ he hx hy h λi j t u q=>PyProof.Rows.gt_int q
 |GtE=>show pQ he hx hy h λi j t u q=>PyProof.Rows.ge_int q
 |Is=>show OU he hx hy h
 |IsNot=>show Dk he hx hy h
 |In=>show no he
 |NotIn=>show no he
theorem n5[DecidableEq κ](p:κ×β)(r:List (κ×β))(k:κ):i5 (p::r) k=if p.1=k then À p.2 else i5 r k:=rfl
theorem rU[DecidableEq κ]:∀{kvs:List (κ×Ä)},valueAt kvs k=i5 kvs k:=λ{kvs}=>by
 induction kvs with
 |nil=>rfl
 |cons p r ih=>
  rw[n5,<-ih];unfold valueAt;rw[List.find?_cons];by_cases h:p.1=k
  ·rw[decide_eq_true h,if_pos h];rfl
  ·rw[decide_eq_false h,if_neg h]
theorem wb[DecidableEq κ]:∀{kvs:List (κ×Ä)},kvs.map (·.1)=l.map (·.1)->bq gg J h (l.map (·.2)) (kvs.map (·.2))->(i5 l k=Ã->i5 kvs k=Ã)/\∀v,i5 l k=À v->∃a,i5 kvs k=À a/\VR gg J h v a:=by
 induction l with
 |nil=>intro kvs hk _;rw[aeF.mp hk];show⟨λz=>rfl,λz h=>no h⟩
 |cons p l ih=>
  intro kvs hk hv;cases kvs with
  |nil=>show absurd hk.symm (afa _ _)
  |cons q kvs=>
   have hk:=List.cons.inj hk;rw[n5,n5,show q.1=p.1 from hk.1];by_cases hp:p.1=k
   ·rw[if_pos hp,if_pos hp];show⟨λh=>no h.symm,λv h=>⟨_,N,sm h▸hv.hd⟩⟩
   ·rw[if_neg hp,if_neg hp];show ih hk.2 hv.tl
theorem n6{κ:Type}[DecidableEq κ]{J:List È}{h:Ó}{l:List (κ×V)}{kvs:List (κ×Ä)}{k:κ}{v:V}(he:i5 l k=À v)(hk:kvs.map (·.1)=l.map (·.1))(hv:bq gg J h (l.map (·.2)) (kvs.map (·.2))):∃a,valueAt kvs k=À a/\VR gg J h v a:=by rw[rU];show(wb hk hv).2 v he
theorem CO{κ:Type}[DecidableEq κ]{J:List È}{h:Ó}{l:List (κ×V)}{kvs:List (κ×Ä)}{k:κ}(he:i5 l k=Ã)(hk:kvs.map (·.1)=l.map (·.1))(hv:bq gg J h (l.map (·.2)) (kvs.map (·.2))):valueAt kvs k=Ã:=by rw[rU];show(wb hk hv).1 he
theorem Bi(he:GI l y=À v)(hy:VR gg J s.heap y b):∃k u,b=.int k u/\0<=k/\l[k.toNat]?=À v:=by show bW he λk hk he=>?_;apply EN hk hy;intro u;show dF he λh0 he=>⟨k,u,N,h0,he⟩
theorem L8(h0:0<=k)(h1:k.toNat<n):seqIndex? k n=À k.toNat:=by show (if (decide (0<=(if k<0 then k+n else k))&&decide ((if k<0 then k+n else k)<(n:Int)))=Æ then À (if k<0 then k+n else k).toNat else Ã)=_;rw[if_neg (Ŕ.mpr h0)];show if_pos (Ľ.mpr ⟨decide_eq_true h0,decide_eq_true ((afA h0).mp h1)⟩)
theorem Fc(h0:0<=k):-(2 ^ 63)<=k:=Ŀ (by decide) h0
theorem yI{k:Int}{n:Nat}(h0:0<=k)(h1:k.toNat<n)(hz:n<=al+1):k<2 ^ 63:=(afA h0).mp (ĳ h1 (z' hz (by decide)))
theorem wT{l:List V}{y:V}{ta:È}{vs:List Ä}{b:Ä}{v:V}(he:GI l y=À v)(R:ar gg J H s.heap)(ht:s.heap.IsTuple ta vs.toArray)(hz:l.length<=al+1)(hv:bq gg J s.heap l vs)(hy:VR gg J s.heap y b):
  É mo A (getItem (.ref ta) b) (bA gg J s v H) E s:=by
 show fu (Bi he hy) λk u q3 hk he=>(aF (hv.get he) λa h1 h2=>?_);apply aW q3;have cE:k.toNat<l.length:=(Ġ.mp he).1;show getItem_tuple (j:=k.toNat) ht (Fc hk) (yI hk cE hz) (L8 hk (aeO cE hv.length)) (ž.trans h1) (bA.here (tk:=s.toks) R h2)
theorem wS(he:((px y).bind λk=>if 0<=k/\k<4611686018427387904 then (p.cps[k.toNat]?).bind (λc=>À (.str ⟨#[c]⟩)) else Ã)=À v)(R:ar gg J H s.heap)(hy:VR gg J s.heap y b):
  É mo A (getItem (.str p t) b) (bA gg J s v H) E s:=by
 show bW he λk hk he=>?_;apply EN hk hy;intro u;show dF he λhk he=>bW he λc hc he=>?_;apply dC he;show PySem.P.getItem_str (c:=c) (acC.mpr ⟨decide_eq_false (Ŕ.mpr (Fc hk.1)),decide_eq_false (aep.mpr (ac8 hk.2 (by decide)))⟩) ?_ (bA.here R (.str _ _));rw[L8 hk.1 (n:=p.length) (act.mp hc).1];show hc
theorem wR{r:Nat}{ta:È}{m:bp}{y:V}{b:Ä}{v:V}(he:OR y m=À v)(R:ar gg J H s.heap)(hr:J[r]?=À ta)(hm:H[r]?=À m)(hy:VR gg J s.heap y b):
  (∃T id,s.TypeIs (.ref ta) T/\Ă (.type T) "__getitem__" = pure (À (.builtin id)))/\É mo A (getItem (.ref ta) b) (bA gg J s v H) E s:=by
 revert he;apply MR.el (R.objs _ _ _ hr hm)
 case lst=>
  intro _ _ hl hz hv he;show fu (Bi he hy) λk u q3 hk he=>(aF (hv.get he) λa h3 h4=>?_);apply aW q3;have cE:=(Ġ.mp he).1;show⟨⟨"list",_,hl.isList.typeIs,slot_list_getitem.lookup⟩,wpAny_getItem_list hl.isList hk (yI hk cE hz) (ž.trans h3) (bA.here (tk:=s.toks) R h4)⟩
 case di=>
  intro _ _ hd hk hv he;show bW he λk kZ he=>?_;apply EN kZ hy;intro u;show aF (n6 he hk hv) λa h3 h4=>⟨⟨"dict",_,hd.typeIs,slot_dict_getitem.lookup⟩,wpAny_getItem_of (intKind_is gg.prog gg.w k u) hd.mapOf h3 (bA.here R h4)⟩
 case ds=>
  intro _ _ hd hk hv he;show bW he λk kZ he=>?_;apply Wx kZ hy;intro u;show aF (n6 he hk hv) λa h3 h4=>⟨⟨"dict",_,hd.typeIs,slot_dict_getitem.lookup⟩,wpAny_getItem_of (strKind_is gg.prog gg.w k u) hd.mapOf h3 (bA.here R h4)⟩
 case own=>intro _ _ _ he;show no he
 case wd=>intro _ _ _ _ _ he;show no he
 case exn=>intro _ _ _ _ _ _ _ _ _ _ he;show no he
 case tab=>intro _ _ _ _ _ he;show no he
set_option tactic.hygienic true in
theorem Kf(he:lE x y H=À v)(R:ar gg J H s.heap)(hx:VR gg J s.heap x a)(hy:VR gg J s.heap y b):
  (∃T id,s.TypeIs a T/\Ă (.type T) "__getitem__" = pure (À (.builtin id)))/\É mo A (getItem a b) (bA gg J s v H) E s:=by
 revert he;apply VR.el hx
 case tup=>intro _ _ _ ht hz hv _ he;show⟨⟨"tuple",_,ht.typeIs,PySem.F.slot_tuple_getitem.lookup⟩,wT he R ht hz hv hy⟩
 case str=>intro p t he;show⟨⟨"str",_,typeIs_str s p t,PySem.F.slot_str_getitem.lookup⟩,wS he R hy⟩
 case ref=>
  intro _ _ hr he;show bW he λm hm he=>wR he R hr hm hy
 all_goals (intros;rename_i he;exact no he)
end
inductive jN:Ä->V->Prop
 |none:jN .none .none
 |int (k:Int) (t:Tok):jN (.int k t) (.int k)
set_option backward.match.sparseCases false in
noncomputable def gr:V->Option Int
 |.int k=>À k
 |_=>Ã
section
variable{A:Ñ}{E:Ä->Å->Prop}{J:List È}{H:ag}{s:Å}
theorem O6(k:Int)(n:Nat)(hk:0<=k):min k (n:Int)=((min k.toNat n:Nat):Int):=
 (afB k.toNat n).elim (λh=>by rw[Ŵ h,ϡ hk,acy (aeq.mp h)]) (λh=>by rw[ac9 h,acp ((Int.le_toNat hk).mp h)])
theorem yb{j m n:Nat}(h:j-m=n)(hj:j<=n):j=n:=ť hj (h▸ŏ j m)
theorem NU{lo:V}{i n:Nat}{stop:Option Int}(h:m6 lo=À i):(Builtin.Slice.sliceAdjust (gr lo) stop 1 (n:Int)).1=((min i n:Nat):Int):=by
 cases lo with
 |none=>rw[<-sm h,afC];rfl
 |int k=>have z:=cT h;rw[<-sm z.2];show(if_neg (Ŕ.mpr z.1.1)).trans (O6 k n z.1.1)
 |_=>show nomatch h
theorem NS{hi:V}{j n:Nat}{start:Option Int}(h:kY n hi=À j):(Builtin.Slice.sliceAdjust start (gr hi) 1 (n:Int)).2=(j:Int):=by
 cases hi with
 |none=>rw[<-sm h];rfl
 |int k=>have z:=cT h;rw[<-sm z.2,aeY];show(if_neg (Ŕ.mpr z.1.1)).trans (O6 k n z.1.1)
 |_=>show nomatch h
theorem KT(a b:Nat):Builtin.Slice.slicePlaces (a:Int) (b:Int) 1=b-a:=by
 show (if (a:Int)<b then ((b:Int)-a-1) / 1+1 else 0).toNat=b-a;by_cases h:(a:Int)<b
 ·rw[if_pos h,aeZ,ad0];show aef b a
 ·rw[if_neg h];show(adH (Ţ.mp (Ŕ.mp h))).symm
theorem ry(ha:jN a v)(h:Q (gr v) s):É mo A (Builtin.Slice.slicePartIndex a) Q E s:=by
 cases ha with
 |none=>show slicePart_none h
 |int k t=>show slicePart_int h
theorem Ji{sl:È}{a b:Ä}{lo hi:V}{i j n:Nat}{Q:Int×Int×Nat->Å->Prop}(hs:s.heap.IsSliceOf sl a b .none)(ha:jN a lo)(hb:jN b hi)(jZ:m6 lo=À i)(hj:kY n hi=À j)
  (h:Q (((min i n:Nat):Int),1,j-min i n) s):É mo A (Builtin.Slice.sliceApplied (.ref sl) (pure (n:Int))) Q E s:=by
 show dN (id hs) λos uB iq uq=>?_;unfold Builtin.Slice.sliceApplied Builtin.Slice.sliceFields;show Â (Â (ß uB uq (x:=a) N (Â (ß uB uq (x:=b) N (Â (ß uB uq (x:=.none) N (Ç (Â (slicePart_none ?_)))))))));show É _ _ (if ((1:Int)==0)=Æ then _ else _) _ _ s;rw[if_neg (by decide)];show Â (ry ha (Â (ry hb (Â (Ç ?_)))));have e1:=NU (n:=n) (stop:=gr hi) jZ;have e2:=NS (start:=gr lo) hj;show Ç ?_
 have gJ:∀p:Int×Int,p.1=((min i n:Nat):Int)->p.2=(j:Int)->Q (p.1,(aff Ã (1:Int)),Builtin.Slice.slicePlaces p.1 p.2 (aff Ã (1:Int))) s:=by intro p h1 h2;rw[h1,h2,Option.getD_none,KT];show h
 show gJ _ e1 e2
theorem Ht(vs:List Ä)(a k:Nat):((ċ k).filterMap λ(x:Nat)=>vs.toArray[((a:Int)+(x:Int)*1).toNat]?)=(vs.drop a).take k:=by
 have e:(λ(x:Nat)=>vs.toArray[((a:Int)+(x:Int)*1).toNat]?)=λx=>vs.toArray[a+x]?:=by
  funext x
  have:((a:Int)+(x:Int)*1).toNat=a+x:=by rw[϶];show ĵ (a+x)
  rw[this]
 have:=pick_run vs.toArray a k;rw[List.filterMap_map]at this;rw[e];show this
theorem tX(l:List α)(i j:Nat):oQ l i j=(l.drop (min i l.length)).take (j-min i l.length):=by
 unfold oQ;rw[afq];by_cases h:i<=l.length
 ·rw[Ŵ h]
 ·rw[ac9 (ī (ϕ.mp h)),adv (ī (ϕ.mp h)),adv (Đ _)]
  simp
theorem Ba(h:kY n hi=À j):j<=n:=by
 unfold kY at h;split at h
 ·cases h;show Đ _
 ·split at h
  ·cases h;show acj _ _
  ·cases h
 ·cases h
end
def jH(A:Ñ)(E:Ä->Å->Prop)(J:List È)(H:ag)(s:Å)(t:È)(sl:È)(l:List V)(vs:List Ä)(a:Ä)(b:Ä)(lo:V)(hi:V)(i:Nat)(j:Nat):Prop:=∀(R:ar gg J H s.heap) (ht:s.heap.IsTuple t vs.toArray) (hz:l.length<=al+1) (hv:bq gg J s.heap l vs) (MB:t∉J) (hs:s.heap.IsSliceOf sl a b .none) (ha:jN a lo) (hb:jN b hi) (jZ:m6 lo=À i) (hj:kY l.length hi=À j) (s8:(oQ l i j).length<=al),É mo A (getItem (.ref t) (.ref sl)) (bA gg J s (.tup (oQ l i j)) H) E s
namespace tup_sliceH
def kc:=hc (yx jH) ({},λz z=>True,[],[],dS,0,0,[],[],.none,.none,.none,.none,0,0)
def A:=kc.1
def E:=kc.2.1
def J:=kc.2.2.1
def H:=kc.2.2.2.1
def s:=kc.2.2.2.2.1
def t:=kc.2.2.2.2.2.1
def sl:=kc.2.2.2.2.2.2.1
def l:=kc.2.2.2.2.2.2.2.1
def vs:=kc.2.2.2.2.2.2.2.2.1
def a:=kc.2.2.2.2.2.2.2.2.2.1
def b:=kc.2.2.2.2.2.2.2.2.2.2.1
def lo:=kc.2.2.2.2.2.2.2.2.2.2.2.1
def hi:=kc.2.2.2.2.2.2.2.2.2.2.2.2.1
def i:=kc.2.2.2.2.2.2.2.2.2.2.2.2.2.1
def j:=kc.2.2.2.2.2.2.2.2.2.2.2.2.2.2
theorem kt:jH A E J H s t sl l vs a b lo hi i j:=by
 intro R ht hz hv MB hs ha hb jZ hj s8;show dN (id hs) λos uB iq uq=>?_;have YX:s.TypeIs (.ref sl) "slice" := ⟨os,uB,iq⟩;have ca:l.length=vs.length:=hv.length;unfold getItem
 try with_reducible refine à ?_
 first|refine Â (Ç ?_)|skip
 show Â (wpAny_sequenceKey ht.typeIs (by decide) ?_)
 show Â (ð (name:=ϸ "__getitem__") ht.typeIs PyProof.Rows.slot_tuple_getitem
  (ý PyProof.Rows.slot_tuple_getitem ht.typeIs PyProof.Rows.entry_tuple_getitem ?_ (PyProof.Rows.args_tuple_getitem _ _)))
 show É _ _ (Builtin.Tuple.tupleItemsOf (.ref t)>>=_) _ _ s;show Â (tupleItemsOf_ ht (Â (Ŝ YX ?_)));rw[if_pos (by decide)];have Rz:vs.toArray.size=l.length:=by simp [ca]
 rw[Rz];show Â (Ji hs ha hb jZ hj ?_)
 have Mu:bq gg J s.heap (oQ l i j) ((vs.drop (min i l.length)).take (j-min i l.length)):=by rw[tX];show(hv.drop _).take _
 have rV:É mo A.in1 (Builtin.Tuple.tupleExact (((ċ (j-min i l.length)).filterMap λ(k:Nat)=>vs.toArray[((min i l.length:Nat):Int)+(k:Int)*1 |>.toNat]?).toArray)>>=λx=>ret x)
   (λhW s'=>∃v,hW=.done (.ret v)/\bA gg J s (.tup (oQ l i j)) H v s') (λz z=>False) s:=by
  rw[Ht];unfold Builtin.Tuple.tupleExact;show Â (ç (Ç ⟨_,N,?_⟩) ?_)
  ·show bA.newT R (ſ s8) Mu (λb o e=>N' _ e) (aH _) (gE _ _)
  ·show Array.size _<=ê
   rw[ų,<-Mu.length];show s8
 have Wk:=Ï rV (Q':=λhW s'=>∃v,hW=.done (.ret v)/\É mo A (pure v) (bA gg J s (.tup (oQ l i j)) H) E s') (E':=E) (λhW s' ⟨v,h1,h2⟩=>⟨v,h1,Ç h2⟩) (λz z f=>f.elim);show É _ _ (if ((((min i l.length:Nat):Int)==0)&&((1:Int)==1)&&((j-min i l.length)==l.length))=Æ then _ else _) _ _ s;by_cases hc:((((min i l.length:Nat):Int)==0)&&((1:Int)==1)&&((j-min i l.length)==l.length))=Æ
 ·rw[if_pos hc]
  simp only[ň,beq_iff_eq]at hc
  have e0:min i l.length=0:=aei.inj hc.1.1;have e1:j=l.length:=yb hc.2 (Ba hj);have e2:oQ l i j=l:=by rw[tX,e0,e1];simp
  rw[e2];unfold Builtin.Tuple.tupleIsExact;show Â (Â (Ŝ ht.typeIs (Ç ?_)));rw[if_pos (by decide)];show Â (ú (Â (Ç (Ç ⟨_,N,Ç (bA.here (tk:=s.toks) R (.tup ht hz hv MB))⟩))))
 ·rw[if_neg hc]
  show Wk
end tup_sliceH
theorem Ec{lo hi:V}:jH A E J H s t sl l vs a b lo hi i j:=hk (P:=yx jH) tup_sliceH.kt (A,E,J,H,s,t,sl,l,vs,a,b,lo,hi,i,j)
section
variable{A:Ñ}{E:Ä->Å->Prop}{J:List È}{H:ag}{s:Å}
theorem xk(h:jN a v):∃p:Option (Int×Tok),a=partValue p/\p.map (·.1)=gr v:=by
 cases h with
 |none=>show⟨Ã,N,N⟩
 |int k t=>show⟨À (k,t),N,N⟩
theorem vY(k:Int)(n:Nat)(hk:0<=k):max 0 (min (if k<0 then k+(n:Int) else k) (n:Int))=((min k.toNat n:Nat):Int):=by rw[if_neg (Ŕ.mpr hk),acJ (Int.le_min.mpr ⟨hk,Ě n⟩)];show O6 k n hk
noncomputable def AQ(v:Option Int)(d n:Int):Int:=match v with|none=>d|some i=>max 0 (min (if i<0 then i+n else i) n)
theorem Jv{lo:V}{i:Nat}(n:Nat)(h:m6 lo=À i):AQ (gr lo) 0 n=((min i n:Nat):Int):=by
 cases lo with
 |none=>rw[<-sm h,afC];rfl
 |int k=>have z:=cT h;rw[<-sm z.2];show vY k n z.1.1
 |_=>show nomatch h
theorem Ju(h:kY n hi=À j):AQ (gr hi) n n=(j:Int):=by
 cases hi with
 |none=>rw[<-sm h];rfl
 |int k=>have z:=cT h;rw[<-sm z.2,aeY];show vY k n z.1.1
 |_=>show nomatch h
theorem Dz(i j:Nat):sliceRange (i:Int) (j:Int) 1=(ċ (j-i)).map λk=>i+k:=by
 unfold sliceRange;have h2:(1:Int) > 0:=by decide
 simp only[h2,if_true,aeZ,ac3]
 have hc:(if (i:Int)<(j:Int) then (j:Int)-(i:Int)+1-1 else 0).toNat=j-i:=by
  rw[ad1];split
  ·show aef j i
  ·show(adH (Nat.le_of_not_lt λx=>‹¬_› (Ů.mpr x))).symm
 rw[hc];show ϔ λk z=>ĵ (i+k)
theorem x7{lo hi:V}{i j n:Nat}(jZ:m6 lo=À i)(hj:kY n hi=À j):Builtin.Str.strSliceIndices (gr lo) (gr hi) 1 n=(ċ (j-min i n)).map λk=>min i n+k:=by
 have e:Builtin.Str.strSliceIndices (gr lo) (gr hi) 1 n=sliceRange (AQ (gr lo) 0 n) (AQ (gr hi) n n) 1:=by cases gr lo<;>cases gr hi<;>rfl
 rw[e,Jv n jZ,Ju hj];show Dz _ _
theorem D7:∀{n:Nat},n-m=n->m=0\/n=0:=by
 intro n h;cases m with
 |zero=>show .inl N
 |succ m=>
  cases n with
  |zero=>show .inr N
  |succ n=>show absurd (Ϩ (ae0 n m▸ŏ n m)) (h.symm▸ţ _)
set_option tactic.hygienic true in
theorem D6{x:Str}{t:Tok}{sl:È}{a b:Ä}{lo hi:V}{i j:Nat}(R:ar gg J H s.heap)(hs:s.heap.IsSliceOf sl a b .none)(ha:jN a lo)(hb:jN b hi)
  (jZ:m6 lo=À i) (hj:kY x.length hi=À j) (s8:(⟨(oQ x.cps.toList i j).toArray⟩:Str).length<=al) :
  É mo A (getItem (.str x t) (.ref sl)) (bA gg J s (.str ⟨(oQ x.cps.toList i j).toArray⟩) H) E s:=by
 show aF (xk ha) λp q2 hp=>?_;subst q2;show aF (xk hb) λq q2 hq=>?_;subst q2;show wpAny_getItem_str_slice (l:=p) (u:=q) (st:=Ã) hs N ?_
 have MF:slicePicked x p q Ã=(ċ (j-min i x.length)).map λk=>min i x.length+k:=by unfold slicePicked;rw[hp,hq];show x7 jZ hj
 have VW:((slicePicked x p q Ã).filterMap (x.cps[·]?))=oQ x.cps.toList i j:=by rw[MF,pick_run,tX];rfl
 have ca:(slicePicked x p q Ã).length=j-min i x.length:=by rw[MF];simp
 unfold sliceMade;rw[ca,VW];split
 ·rename_i hc
  simp only[ň,beq_iff_eq]at hc
  have PM:j-min i x.length=x.length:=by first|exact hc|exact hc.1|exact hc.2|exact hc.1.2|exact hc.2.1
  have e1:j=x.length:=yb PM (Ba hj);have e0:min i x.length=0\/x.length=0:=D7 (e1▸PM)
  have e2:oQ x.cps.toList i j=x.cps.toList:=by
   rw[tX];have hl:x.cps.toList.length=x.length:=rfl;rw[hl];show ã e0 (λe0=>?_) (λe0=>?_)
   ·rw[e0,e1,afr,ae1,<-hl,ŋ]
   ·have:x.cps.toList=[]:=ϰ.mp (hl.trans e0)
    rw[this];simp
  rw[e2];show bA.here (tk:=s.toks) R (.str _ _)
 ·show⟨s8,bA.here R (.str _ _)⟩
end
noncomputable def ni:nX->List Ä->Sem Ä
 |.len,as=>Á (.builtin "len") as
 |.sum,as=>Á (.builtin "sum") as
 |.min2,as=>Á (.builtin "min") as
 |.max2,as=>Á (.builtin "max") as
 |.min1,as=>Á (.builtin "min") as
 |.max1,as=>Á (.builtin "max") as
 |.minD,as=>Á (.builtin "min") as [("default",.none)]
 |.tuple,as=>Á (.type "tuple") as
 |.list,as=>Á (.type "list") as
 |.str,as=>Á (.type "str") as
 |.int,as=>Á (.type "int") as
 |.isInt,as=>Á (.builtin "isinstance") (as++[.type "int"])
 |.isBool,as=>Á (.builtin "isinstance") (as++[.type "bool"])
 |.isTuple,as=>Á (.builtin "isinstance") (as++[.type "tuple"])
 |.isStr,as=>Á (.builtin "isinstance") (as++[.type "str"])
 |.isList,as=>Á (.builtin "isinstance") (as++[.type "list"])
 |.sorted,as=>Á (.builtin "sorted") as
section
variable{A:Ñ}{E:Ä->Å->Prop}{J:List È}{H:ag}{s:Å}
theorem bA.grown(R:ar gg J H s.heap)(hk:∀b o,s.heap.get? b=À o->h'.get? b=À o)(hv:VR gg J h' v a):bA gg J s v H a {s with heap:=h',toks:=tk}:=
 ⟨J,SE.keeps J hk,R.keeps hk,hv,N,N,N⟩
theorem Bl(x:ñ vs ns):bq gg J h (ns.map .int) vs:=by
 induction x with
 |nil=>show .nil
 |cons n t r ih=>show .cons (.int n t) ih
theorem nN(he:cC l=À ns)(x:bq gg J h l vs):ñ vs ns:=by
 induction l generalizing vs ns with
 |nil=>cases x;rw[<-sm he];show .nil
 |cons v l ih=>
  cases x with
  |cons hv hr=>show ie he λi ms hi hn he=>?_;show W' (vI hi hv) λt ht=>?_;rw[<-sm he,ht];show .cons i t (ih hn hr)
inductive ik(J:List È)(h:Ó)(a:È)(l:List V)(vs:List Ä):Prop
 |lst:h.IsList a vs.toArray->bq gg J h l vs->l.length<=al+1->ik J h a l vs
 |tup:h.IsTuple a vs.toArray->bq gg J h l vs->l.length<=al+1->ik J h a l vs
theorem ik.vrs(x:ik J h a l vs):bq gg J h l vs:=by cases x<;>assumption
theorem ik.len(x:ik J h a l vs):l.length<=al+1:=by cases x<;>assumption
set_option tactic.hygienic true in
theorem HJ(he:pc H x=À (l,w))(R:ar gg J H h)(hx:VR gg J h x a):∃c vs,a=.ref c/\ik J h c l vs:=by
 revert he;apply VR.el hx
 case tup=>intro _ _ _ ht hz hv _ he;show aO (nT he) λq1 _=>?_;apply fv q1;show⟨_,_,N,.tup ht hv hz⟩
 case ro=>
  intro _ _ _ hl hz hi he;show aO (nT he) λq1 _=>?_;apply fv q1;show⟨_,_,rfl,.lst (hl.at λo e=>R.base _ o e) (Bl hi) (by simpa using hz)⟩
 case ref=>
  intro _ _ hr he;show bW he λl' jd he=>aO (nT he) λq1 _=>?_;apply fv q1;show dN (R.list hr jd) λvs hl hv hz=>⟨_,vs,N,.lst hl.isList hv hz⟩
 all_goals (intros;rename_i he;exact no he)
theorem nr(hh:A.handled=Ã)(hs:ik J s.heap c l vs)
  (h:∀I fp St h',Walks gg.prog gg.w A I fp [I] vs.length (λi v=>vs[i]?=À v) St->St 0 h'->(∀b∈fp,b<h'.objs.size)->s.heap.get? I=Ã->(∀b o,s.heap.get? b=À o->h'.get? b=À o)->Q (.ref I) {s with heap:=h'}) :
  É mo A (pyIter (.ref c)) Q E s:=by
 cases hs with
 |lst hl hv hz=>
  have cE:c<s.heap.objs.size:=by show aF hl λz e z=>?_;show ō e
  have W:=Walks.list (prog:=gg.prog) (w:=gg.w) hh s.heap.objs.size c (ŉ cE) vs.toArray
  simp only[ų,ž]at W
  have hb:∀b∈[s.heap.objs.size,c],b<(s.heap.push {cls:=.type "list_iterator",data:=.fields #[.ref c,.int 0 0]}).objs.size:=λb hb=>by
   rw[ϐ];show ã (Ĉ.mp hb) (λhb=>?_) (λhb=>?_)
   ·show hb▸Ż _
   ·show(O'.mp hb)▸ace cE
  show ĭ hl (h _ [s.heap.objs.size,c] _ _ W ⟨⟨_,Ł _ N,N,N⟩,hl.push _⟩ hb (aH _) λb o e=>N' _ e)
 |tup ht hv hz=>
  have cE:c<s.heap.objs.size:=by show aF ht λz e z=>?_;show ō e
  have W:=Walks.tuple (prog:=gg.prog) (w:=gg.w) hh s.heap.objs.size c (ŉ cE) vs.toArray
  simp only[ų,ž]at W
  have hb:∀b∈[s.heap.objs.size,c],b<(s.heap.push {cls:=.type "tuple_iterator",data:=.fields #[.ref c,.int 0 0]}).objs.size:=λb hb=>by
   rw[ϐ];show ã (Ĉ.mp hb) (λhb=>?_) (λhb=>?_)
   ·show hb▸Ż _
   ·show(O'.mp hb)▸ace cE
  show ā ht (h _ [s.heap.objs.size,c] _ _ W ⟨⟨_,Ł _ N,N,N⟩,ht.push _⟩ hb (aH _) λb o e=>N' _ e)
theorem dE(x:ñ vs ns):∀{i:Nat} {v:Ä},vs[i]?=À v->∃t,v=.int (ns[i]?.getD 0) t:=by
 induction x with
 |nil=>show λh=>no h
 |cons n t r ih=>
  intro i v h;cases i with
  |zero=>show⟨t,(sm h).symm⟩
  |succ i=>show ih (i:=i) h
theorem Dx(ns:List Int)(k:Nat):k<=ns.length->preSum (λi=>ns[i]?.getD 0) k=(ns.take k).foldl (·+·) 0:=by
 induction k with
 |zero=>show λz=>rfl
 |succ k ih=>intro h;show preSum (λi=>ns[i]?.getD 0) k+ns[k]?.getD 0=_;rw[ih (Nat.le_of_succ_le h),adw,ē h,acY];rfl
theorem qF{f:Int->Int->Int}{le:Int->Int->Prop}(rf:∀x,le x x)(tr:∀x y z,le x y->le y z->le x z)(hf:∀x y,(f x y=x\/f x y=y)/\le (f x y) x/\le (f x y) y):∀(ns:List Int) (x:Int),ns.foldl f x∈x::ns/\∀y∈x::ns,le (ns.foldl f x) y:=by
 intro ns
 induction ns with
 |nil=>show λx=>⟨G',λy hy=>O'.mp hy▸rf x⟩
 |cons y ns ih=>intro x;show aO (ih (f x y)) λh1 h2=>gH (hf x y) λq1 q2 q3=>?_;have h0:=h2 _ G';show⟨ã (Ĉ.mp h1) (λq=>?_) λq=>J' _ (J' _ q),λz hz=>ã (Ĉ.mp hz) (λq=>by rw[q];show tr _ _ _ h0 q2) λhz=>ã (Ĉ.mp hz) (λq=>by rw[q];show tr _ _ _ h0 q3) λhz=>h2 z (J' _ hz)⟩;rw[ϑ,q];show ã q1 (λq=>by rw[q];show G') λq=>by rw[q];show J' _ G'
theorem Hb(x y:Int):(max x y=x\/max x y=y)/\x<=max x y/\y<=max x y:=⟨(acP y x).imp adi acJ,adj x y,adM x y⟩
theorem Hf(x y:Int):(min x y=x\/min x y=y)/\min x y<=x/\min x y<=y:=⟨(acP x y).imp acy acp,acz x y,acq x y⟩
theorem Fe{ns:List Int}{m:Int}(hm:m7 ns=À m):0<ns.length/\ns[ģ (λi j=>decide (ns[i]?.getD 0 > ns[j]?.getD 0)) (ns.length-1)]?=À m:=by
 cases ns with
 |nil=>show no hm
 |cons x r=>show⟨ϒ _,?_⟩;rw[<-sm hm];show aO (qF (f:=max) (le:=λa b=>b<=a) Ř (λz z z h h'=>Ŀ h' h) Hb r x) λh1 h3=>W' (ac4 h1) λk h2=>?_;show aO (argBest_gt (λi=>(x::r)[i]?.getD 0) ((x::r).length-1)) λb1 b2=>?_;generalize ģ (λi j=>decide ((x::r)[i]?.getD 0 > (x::r)[j]?.getD 0)) ((x::r).length-1)=q at b1 b2 ⊢;have hq:q<(x::r).length:=Ϩ b1;have e1:(x::r)[q]?=À (x::r)[q]:=ē hq;have u2:=b2 k (ϋ (Ġ.mp h2).1);rw[h2,e1]at u2;rw[e1];show congrArg À (ņ (h3 _ (ź hq)) u2)
theorem vM{ns:List Int}{m:Int}(hm:gs ns=À m):0<ns.length/\ns[ģ (λi j=>decide (ns[i]?.getD 0<ns[j]?.getD 0)) (ns.length-1)]?=À m:=by
 cases ns with
 |nil=>show no hm
 |cons x r=>show⟨ϒ _,?_⟩;rw[<-sm hm];show aO (qF (f:=min) (le:=λa b=>a<=b) Ř (λz z z=>Ŀ) Hf r x) λh1 h3=>W' (ac4 h1) λk h2=>?_;show aO (argBest_lt (λi=>(x::r)[i]?.getD 0) ((x::r).length-1)) λb1 b2=>?_;generalize ģ (λi j=>decide ((x::r)[i]?.getD 0<(x::r)[j]?.getD 0)) ((x::r).length-1)=q at b1 b2 ⊢;have hq:q<(x::r).length:=Ϩ b1;have e1:(x::r)[q]?=À (x::r)[q]:=ē hq;have u2:=b2 k (ϋ (Ġ.mp h2).1);rw[h2,e1]at u2;rw[e1];show congrArg À (ņ u2 (h3 _ (ź hq)))
theorem rq{h jx h':Ó}{I:È}(hI:h.get? I=Ã)(h1:∀b o,h.get? b=À o->jx.get? b=À o)(h2:∀b o,b∉[I]->jx.get? b=À o->h'.get? b=À o):∀b o,h.get? b=À o->h'.get? b=À o:=λb o e=>by
 show h2 b o (λhm=>?_) (h1 b o e)
 simp at hm
 subst hm;rw[hI]at e;cases e
theorem Kx(R:ar gg J H s.heap)(hs:ik J s.heap c l vs):É mo A (Á (.builtin "len") [.ref c]) (bA gg J s (.int l.length) H) E s:=by
 have hl:l.length=vs.toArray.size:=hs.vrs.length;have hz:(vs.toArray.size:Int)<2 ^ 63:=Ů.mpr (ŷ (hl▸hs.len) (by decide));have he:∀t tk,bA gg J s (.int l.length) H (.int vs.toArray.size t) {s with toks:=tk}:=λt tk=>hl▸bA.here R (.int _ _);cases hs with
 |lst h1 h2 h3=>show Calls.call_len_list h1 hz (he _ _)
 |tup h1 h2 h3=>show PyProof.Rows.len_tuple h1 hz (he _ _)
theorem Lu{c:È}{l:List V}{vs:List Ä}{ns:List Int}(hh:A.handled=Ã)(R:ar gg J H s.heap)(hs:ik J s.heap c l vs)(hn:cC l=À ns):
  É mo A (Á (.builtin "sum") [.ref c]) (bA gg J s (.int (ns.foldl (·+·) 0)) H) E s:=by
 have hi:=nN hn hs.vrs;show call_sum_walkAnyS (nr (A:=A.in1) hh hs λI fp St h' W fy J6 hI hk=>⟨I,fp,[I],_,vs.length,_,_,λi=>ns[i]?.getD 0,N,W.toS,fy,J6,λi v hv=>dE hi hv,λs' t' hm=>?_⟩);rw[hi.length,Dx ns _ (Đ _),ŋ];have kZ:=rq hI hk hm.heap;show⟨J,SE.keeps J kZ,R.keeps kZ,.int _ _,hm.gens,hm.drawn,hm.os⟩
theorem Kz{c:È}{l:List V}{vs:List Ä}{ns:List Int}{m:Int}(hh:A.handled=Ã)(R:ar gg J H s.heap)(hs:ik J s.heap c l vs)(hn:cC l=À ns)(hm:m7 ns=À m):
  É mo A (Á (.builtin "max") [.ref c]) (bA gg J s (.int m) H) E s:=by
 have hi:=nN hn hs.vrs;show aO (Fe hm) λh0 h1=>call_max_walk (nr (A:=A.in1) hh hs λI fp St h' W fy J6 hI hk=>⟨I,fp,[I],vs.length,_,_,λi j=>decide (ns[i]?.getD 0 > ns[j]?.getD 0),N,W,fy,J6,by rw[hi.length];show h0,CmpOf.ints_gt (λi=>ns[i]?.getD 0) (λi v hv=>dE hi hv),λv qM tk hv uw=>?_⟩);rw[hi.length]at hv;show W' (dE hi hv) λt q2=>?_;apply aW q2;rw[h1];show bA.grown R (rq hI hk uw) (.int _ _)
theorem KD{c:È}{l:List V}{vs:List Ä}{ns:List Int}{m:Int}(hh:A.handled=Ã)(R:ar gg J H s.heap)(hs:ik J s.heap c l vs)(hn:cC l=À ns)(hm:gs ns=À m):
  É mo A (Á (.builtin "min") [.ref c]) (bA gg J s (.int m) H) E s:=by
 have hi:=nN hn hs.vrs;show aO (vM hm) λh0 h1=>call_min_walk (nr (A:=A.in1) hh hs λI fp St h' W fy J6 hI hk=>⟨I,fp,[I],vs.length,_,_,λi j=>decide (ns[i]?.getD 0<ns[j]?.getD 0),N,W,fy,J6,by rw[hi.length];show h0,CmpOf.ints_lt (λi=>ns[i]?.getD 0) (λi v hv=>dE hi hv),λv qM tk hv uw=>?_⟩);rw[hi.length]at hv;show W' (dE hi hv) λt q2=>?_;apply aW q2;rw[h1];show bA.grown R (rq hI hk uw) (.int _ _)
end
theorem Cq(a:Ä):argsOk "min" ⟨[a],[("default",.none)]⟩:=by unfold argsOk;kernel_rfl
section
variable{A:Ñ}{R:Result->Å->Prop}{I:È}{fp wr:List È}{n:Nat}{P:Nat->Ä->Prop}{St:Nat->Ó->Prop}
theorem Du(W:Walks gg.prog gg.w A.in1 I fp wr n P St)(bt:Nat->Nat->Bool)(Oq:CmpOf gg.prog gg.w A.in1 .Lt P bt)(S:È)(Mq:S∉fp):
  ∀(k j:Nat) (s:Å) (vb:Ä) (c:Nat),j+1+k=n->St (j+1) s.heap->P (ģ bt j) vb ->
  s.heap.get? S=À {cls:=.type "list",dict:=Ã,data:=.seq #[vb,vb] c,slots:=#[]} ->
  (∀v h' tk,P (ģ bt (n-1)) v->(∀b o,b∉wr->b≠S->s.heap.get? b=À o->h'.get? b=À o)->R (.ok (.ret v)) {s with heap:=h',toks:=tk}) ->
  Ğ mo A (.builtin "min.loop" ⟨[.ref I,.none,.ref S],[("default",.none)]⟩) R s:=by
 have SV:S∉wr:=λh=>Mq (W.sub _ h);have oZ:(toString "min"++toString ".loop":String)="min.loop" := by decide
 intro k
 induction k with
 |zero=>intro j s vb c J7 fy SU hS hR;have J7:j+1=n:=J7;show é F.entry_min_loop ?_;rw[Around.under_plainId F.plain_min_loop _];show É _ A.in1 (seqItems? (.ref S)>>=_) _ _ s;show Â (æ hS N ?_);show É _ A.in1 (tryCatch (ı (.ref I)) _>>=_) _ _ s;show Â (Ħ (W.done s _ _ (J7▸fy) λh' tk kZ=>?_));have EG:=kZ S _ SV hS;show É _ A.in1 (Ŋ S (λz=>#[])>>=_) _ _ _;show Â (Ą EG N (Â (Ĕ (Ç (hR vb _ tk (by rw[<-J7];show SU) λb o EH IT e=>(ϫ _ _ (Ne.symm IT)).trans (kZ b o EH e))))))
 |succ k ih=>
  intro j s vb c hk fy SU hS hR;have cE:j+1<n:=hk▸acf (ϒ k);have hk:j+1+1+k=n:=(abQ (j+1) 1 k).trans hk;show é F.entry_min_loop ?_;rw[Around.under_plainId F.plain_min_loop _];show É _ A.in1 (seqItems? (.ref S)>>=_) _ _ s;show Â (æ hS N ?_);show É _ A.in1 (tryCatch (ı (.ref I)) _>>=_) _ _ s;show Â (Ħ (W.item (j+1) s _ _ cE fy λv h' tk hP se kZ=>?_));have EG:=kZ S _ SV hS;show É _ A.in1 (tryCatch (holding [v,v] (richCompare .Lt v vb>>=_)) _>>=_) _ _ _;show Â (Ħ (à (Â (Oq (j+1) (ģ bt j) v vb _ _ _ hP SU (Â (à (ï (Â (Ĕ (Ç ?_))))))))));cases hb:bt (j+1) (ģ bt j) with
  |true=>
   simp only[if_true]
   show Â (Ą EG N (Â (Ĕ ?_)));rw[oZ]
   show Ç ⟨Ć F.plain_min_loop _,ih (j+1) _ v _ hk (W.frame _ _ _ se λb UQ o e=>?_) (by simp only[ģ,hb,if_true];show hP) (Ϛ _ EG rfl)
    λv' qM Im EF Gr=>?_⟩
   ·show(ϫ _ _ (λh:S=b=>Mq (by rw[h];show UQ))).trans e
   ·show hR v' qM Im EF λb o EH IT e=>Gr b o EH IT ((ϫ _ _ (Ne.symm IT)).trans (kZ b o EH e))
  |false=>
   simp only[abR,if_false]
   show Â (Ĕ ?_);rw[oZ];show Ç ⟨Ć F.plain_min_loop _,ih (j+1) _ vb c hk se (by simp only[ģ,hb,abR,if_false];show SU) EG λv' qM Im EF Gr=>?_⟩;show hR v' qM Im EF λb o EH IT e=>Gr b o EH IT (kZ b o EH e)
theorem zZ(W:Walks gg.prog gg.w A.in1 I fp wr n P St)(bt:Nat->Nat->Bool)(Oq:CmpOf gg.prog gg.w A.in1 .Lt P bt)(S:È)(Mq:S∉fp)(fy:St 0 s.heap)
  (hS:s.heap.get? S=À {cls:=.type "list",dict:=Ã,data:=.seq #[] c,slots:=#[]})
  (hR:∀v h' tk,(if n=0 then v=.none else P (ģ bt (n-1)) v)->(∀b o,b∉wr->b≠S->s.heap.get? b=À o->h'.get? b=À o)->R (.ok (.ret v)) {s with heap:=h',toks:=tk}) :
  Ğ mo A (.builtin "min.loop" ⟨[.ref I,.none,.ref S],[("default",.none)]⟩) R s:=by
 have SV:S∉wr:=λh=>Mq (W.sub _ h);have oZ:(toString "min"++toString ".loop":String)="min.loop" := by decide
 show é F.entry_min_loop ?_;rw[Around.under_plainId F.plain_min_loop _];show É _ A.in1 (seqItems? (.ref S)>>=_) _ _ s;show Â (æ hS N ?_);show É _ A.in1 (tryCatch (ı (.ref I)) _>>=_) _ _ s;show ã (aeP n) (λhn=>?_) (λhn=>?_)
 ·subst hn
  show Â (Ħ (W.done s _ _ fy λh' tk kZ=>Â (ú (Ç (hR .none h' tk (by rw[if_pos N]) λb o EH IT e=>kZ b o EH e)))))
 ·show Â (Ħ (W.item 0 s _ _ hn fy λv h' tk hP se kZ=>?_))
  have EG:=kZ S _ SV hS;show É _ A.in1 (Ŋ S (λz=>#[v,v])>>=_) _ _ _;show Â (Ą EG N ?_);rw[oZ];show Ç ⟨Ć F.plain_min_loop _,Du W bt Oq S Mq (n-1) 0 _ v _ (Nat.add_sub_of_le hn) (W.frame _ _ _ se λb UQ o e=>?_) hP (Ϛ _ EG N) λv' qM Im EF Gr=>?_⟩
  ·show(ϫ _ _ (λh:S=b=>Mq (by rw[h];show UQ))).trans e
  ·show hR v' qM Im (by rw[if_neg (ū hn)];show EF) λb o EH IT e=>Gr b o EH IT ((ϫ _ _ (Ne.symm IT)).trans (kZ b o EH e))
end
section
variable{A:Ñ}{E:Ä->Å->Prop}{J:List È}{H:ag}{s:Å}
theorem tU{id:String}{b:Ď}{E6:List Ä}{kw:List (Str×Ä)}{Q:Ä->Å->Prop}(hk:builtinKind id=Ã)(hp:plainId id=Æ)(hb:entryFor table id=À b)(ha:argsOk id ⟨E6,kw⟩)
  (hc:É mo A.in1 (b ⟨E6,kw⟩) (λhW s'=>match hW with
   |.done f=>(match (afN f:Result) with|.ok (.ret v)=>Q v s'|.ok _=>False|.error e=>E e s')
   |.again c'=>c'.quiet=Æ/\Ğ mo A c' (λr s'=>match r with|.ok (.ret v)=>Q v s'|.ok _=>False|.error e=>E e s') s') E s) :
  É mo A (Á (.builtin id) E6 kw) Q E s:=by
 show ŗ (Ċ hp hb ?_)
 simp only[þ,hk]
 cases hsig:Manifest.signature? id with
 |none=>show Ç hc
 |some sig=>
  have ha':Bind.checkArgs id sig ⟨E6,kw⟩=pure ():=by simpa only [argsOk,hsig] using ha
  simp only[ha']
  show Ç hc
theorem Hd(hh:A.handled=Ã)(R:ar gg J H s.heap)(hs:ik J s.heap c l vs)(hn:cC l=À ns):
  É mo A (Á (.builtin "min") [.ref c] [("default",.none)]) (bA gg J s (dA (gs ns)) H) E s:=by
 have hi:=nN hn hs.vrs;have oZ:(toString "min"++toString ".loop":String)="min.loop" := by decide
 show tU F.kind_min F.plain_min F.entry_min (Cq _) ?_;show É _ A.in1 (Builtin.Builtins.bindParams "min" ["key","default"] 0 ⟨[],[("default",.none)]⟩>>=_) _ _ s;show Â (wpAny_of_eq (show Builtin.Builtins.bindParams "min" ["key","default"] 0 ⟨[],[("default",.none)]⟩=pure [Ã,À .none] from N) (Â (Ç (Â (nr (A:=A.in1) hh hs λI fp St h' W fy J6 hI hk=>Â (ç ?_))))));have Mq:h'.objs.size∉fp:=λhm=>ţ _ (J6 _ hm);rw[oZ];show Ç ⟨Ć F.plain_min_loop _,zZ W (λi j=>decide (ns[i]?.getD 0<ns[j]?.getD 0)) (CmpOf.ints_lt (λi=>ns[i]?.getD 0) (λi v hv=>dE hi hv)) h'.objs.size Mq (W.frame _ _ _ fy λb z o e=>N' _ e) (Ł _ N) λv qM tk hP uw=>?_⟩;have IX:∀b o,s.heap.get? b=À o->qM.get? b=À o:=λb o e=>uw b o (λhm=>by rw[O'.mp hm,hI]at e;cases e) (ŉ (ō (hk b o e))) (N' _ (hk b o e));show bA gg J s (dA (gs ns)) H v _;by_cases h0:vs.length=0
 ·rw[if_pos h0]at hP
  apply aW hP;have:ns=[]:=ϰ.mp (hi.length.symm.trans h0);apply aW this;show bA.grown R IX .none
 ·rw[if_neg h0]at hP
  cases hm:gs ns with
  |none=>
   cases ns with
   |nil=>show absurd hi.length h0
   |cons _ _=>cases hm
  |some m=>show aO (vM hm) λz h1=>?_;rw[hi.length]at hP;show W' (dE hi hP) λt q2=>?_;apply aW q2;rw[h1];show bA.grown R IX (.int _ _)
end
section
variable{A:Ñ}{E:Ä->Å->Prop}{J:List È}{H:ag}{s:Å}
theorem Dw(h:Pc H x=À (v,ae)):x.length<=ê/\v=.str x/\ae=H:=by show dF h λhz h=>?_;apply dn h;show⟨hz,N,N⟩
end
section
variable{A:Ñ}{E:Ä->Å->Prop}{s:Å}
theorem v0{T:String}{r d:È}{n:Nat}{P:Nat->Ä->Prop}{OK:Ó->Prop}{Q:List Ä->Å->Prop}(K:PySem.W.KdlSrc gg.prog gg.w T r d n P OK)(hh:A.handled=Ã)(ou:OK s.heap)(hn:n<=ê)
  (hQ:∀h' tk pr,(∀b o,s.heap.get? b=À o->h'.get? b=À o)->ItemsOf P pr n->Q pr.toList {s with heap:=h',toks:=tk}):É mo A (collect (.ref r)) Q E s:=by
 have cE:=K.there _ ou;unfold collect;show Â (wpAny_runValue (é F.entry_proto_collect ?_));rw[Around.under_plainId F.plain_proto_collect _];show É _ A.in1 (newList []>>=λl=>again (.builtin "list.__iadd__" ⟨[l,.ref r],[]⟩)) _ _ s;show Â (ç (Ç ⟨Ć F.plain_list_iadd _,é F.entry_list_iadd ?_⟩));rw[Around.under_plainId F.plain_list_iadd _];show É _ A.in1 (Builtin.List.listExtendWith (.ref s.heap.objs.size) (.ref r) (.ref s.heap.objs.size)) _ _ _
 show PySem.W.kdl_extend (A:=A) (R:=λr' s'=>match r' with
  |.ok (.ret v)=>É mo A (match v with
   |.ref a=>do match (<-load a).data with
    |.seq xs _=>pure xs.toList
    |_=>ğ "internal:collect"
   |_=>ğ "internal:collect") Q E s'
  |.ok _=>False
  |.error e=>E e s') K hh ?_ s.heap.objs.size (ū cE.1) (ū cE.2) _ 0 ?_ (λh' tk pr c' hk EG um=>?_) hn
 ·show K.keep _ _ ou λb z o e=>N' _ e
 ·show Ł _ N
 show É _ A (load s.heap.objs.size>>=_) _ _ _;show Â (wpAny_load EG ?_);show Ç (hQ h' tk pr (λb o e=>hk b o (ŉ (ō e)) (N' _ e)) um)
theorem B1:∀(vs:List Ä) (kvs:List (Str×Ä)),vs.length=kvs.length->(∀(j:Nat) v,vs[j]?=À v->∃k x,kvs[j]?=À (k,x)/\Value.isStrOf k v=Æ)->StrsAre vs (kvs.map (·.1))
 |[],[],_,_=>.nil
 |[],_::_,h,_=>nomatch h
 |_::_,[],h,_=>nomatch h
 |v::vs,kv::kvs,h,hj=>by show gq (hj 0 v N) λk x e hk=>W' (Value.isStrOf_shape hk) λt q2=>?_;apply aW q2;have e:kv=(k,x):=Option.some.inj e;rw[e];show .cons k t (B1 vs kvs (ad2.inj h) λj v e=>hj (j+1) v e)
theorem xP{Q:Ä->Å->Prop}(hh:A.handled=Ã)(hd:s.heap.DictOf (PySem.strKind gg.prog gg.w) d kvs)(lo:(d==Ĝ)=Ê)(SR:kvs.length<64)
  (hQ:∀(h':Ó) (tk n:Nat) (D:È) (Wy:List Ä) (Np:List Str),(∀b o,s.heap.get? b=À o->h'.get? b=À o)->s.heap.get? D=Ã->h'.get? D=À (å "list" Wy.toArray n)->StrsAre Wy Np->Np.Perm (kvs.map (·.1))->sortedS Np=Æ->Q (.ref D) {s with heap:=h',toks:=tk}) :
  É mo A (Á (.builtin "sorted") [.ref d]) Q E s:=by
 show W' hd.dictAt λep hm=>Calls.call_function_entry kind_sorted plain_sorted entry_sorted (args_sorted1 _) ?_;unfold Ď.«sorted»;show Â (m:=checkCount "sorted" 1 1 _) (Ç (Â (v0 (PySem.W.kdl_dict (knd:=PySem.strKind gg.prog gg.w) (kvs:=kvs) (ep:=ep) lo) hh hm (z' (ī SR) (by decide)) λh' tk pr hk um=>?_)));have hS:StrsAre pr.toList (kvs.map (·.1)):=B1 _ _ (by rw[Ž];show um.1) λj v e=>um.2 j v (by rw[<-Ϯ];show e);have UE:pr.toList.length<64:=by rw[Ž,um.1];show SR
 show Â (wpAny_newList ?_);have PT:(h'.push (å "list" pr.toList.toArray 0)).get? h'.objs.size=À (å "list" pr.toList.toArray 0):=Ł _ N;show Â (à (ý slot_list_sort ⟨_,PT,N⟩ entry_list_sort (list_sort_treeK strKind_oneLt PT hS.keysOf (λv₁ v₂ aD e=>keyKind_strs (by rw[<-e];show hS)) UE λÚ hp hs=>⟨_,N,(dN (sorted_out_str hS hp hs) λNp h1 h2 h3=>W' (sortedHeap_at (out:=(Û Ú).map (·.2)) PT) λe he=>Ç ⟨_,N,hQ _ tk e h'.objs.size ((Û Ú).map (·.2)).toList Np (λb o e1=>?_) ?_ (by rw[ac5];show he) h1 h2 h3⟩)⟩) (args_list_sort _)))
 ·have cE:=ō (hk b o e1)
  rw[sortedHeap_old (ŉ cE) (by rw[size_push'];show ace cE)];show N' _ (hk b o e1)
 ·cases hq:s.heap.get? h'.objs.size with
  |none=>rfl
  |some o=>show absurd (ō (hk _ _ hq)) (ţ _)
end
section
variable{A:Ñ}{E:Ä->Å->Prop}{J:List È}{H:ag}{s:Å}
theorem Dq{a b c:Str}(h1:¬ (b.cps.toList<a.cps.toList))(h2:¬ (c.cps.toList<b.cps.toList)):¬ (c.cps.toList<a.cps.toList):=λh=>h1 (List.lt_of_le_of_lt (afg.mp h2) h)
theorem tB:∀(l:List Str) (p:Str),risingS p l=Æ->nY (p::l)
 |[],p,_=>.cons (λz h=>nomatch h) .nil
 |x::l,p,h=>by
  show aO (Ľ.mp (show (!PySem.Spec.ltCps x.cps.toList p.cps.toList&&risingS x l)=Æ from h)) λh1 h2=>?_;rw[ltCps_eq]at h1;have h1:¬ (x.cps.toList<p.cps.toList):=by simpa using h1
  have ih:=tB l x h2;show .cons (λy hy=>?_) ih;rcases Ĉ.mp hy with rfl|hy
  ·show h1
  ·show Dq h1 ((Ō.mp ih).1 y hy)
theorem H8(h:m.Perm l)(hr:nY m):jQ l=m:=by have Xp:∃m:List Str,m.Perm l/\nY m:=⟨m,h,hr⟩;unfold jQ;rw[dif_pos Xp];show aO (adI Xp) λh1 h2=>List.Perm.eq_of_pairwise (le:=λa b:Str=>¬ (b.cps.toList<a.cps.toList)) (λa b z z g1 g2=>?_) h2 hr (h1.trans h.symm);have:=List.le_antisymm (afg.mp g1) (afg.mp g2);cases a;cases b;show congrArg Str.mk (Array.toList_inj.mp this)
theorem Ip(x:StrsAre vs ss):bq gg J h (ss.map .str) vs:=by
 induction x with
 |nil=>show .nil
 |cons y t r ih=>show .cons (.str y t) ih
set_option tactic.hygienic true in
theorem Am(hh:A.handled=Ã)(zC:∃o,gg.B.get? Ĝ=À o)(R:ar gg J H s.heap)(hr:J[r]?=À c)(hl:ds H r=À l)(he:(if l.length<64 then rV H ((jQ (l.map (·.1))).map .str) else Ã)=À (v,ae)):
  É mo A (Á (.builtin "sorted") [.ref c]) (bA gg J s v ae) E s:=by
 show dF he λSR he=>gH (fV he) λhz q2 q3=>?_;apply aW q2;apply aW q3
 have z9:(c==Ĝ)=Ê:=by
  show W' zC λo ho=>?_;have:=R.fresh _ (ĥ hr)
  simp only[beq_eq_false_iff_ne,ne_eq]
  rintro rfl;rw[ho]at this;show nomatch this
 cases R.objs _ _ _ hr (t4 hl) with
 |ds hd hk PY=>
  rename_i kvs;have ca:kvs.length=l.length:=by have:=congrArg aea hk;rwa [H',H']at this
  show xP hh hd z9 (ŷ (ŕ ca) SR) λh' tk n D Wy Np Rl hD jd hS hp hs=>?_;rw[hk]at hp
  have e:jQ (l.map (·.1))=Np:=H8 hp (by
   cases Np with
   |nil=>show .nil
   |cons p r=>show tB r p hs)
  rw[e];rw[e]at hz;show bA.newL R (ſ hz) (Ip hS) Rl hD ⟨n,jd⟩
theorem ru(hv:bq gg J h [a] as):∃b,as=[b]/\VR gg J h a b:=by
 cases hv with
 |cons h1 h2=>cases h2;show⟨_,N,h1⟩
theorem vq(hv:bq gg J h [a,b] as):∃c d,as=[c,d]/\VR gg J h a c/\VR gg J h b d:=by
 cases hv with
 |cons h1 h2=>show aF (ru h2) λd q2 h3=>?_;apply aW q2;show⟨_,d,N,h1,h3⟩
theorem nh{f:V->Option (V×ag)}{c:List Ä->Sem Ä}(he:js f l=À (v,ae))(hv:bq gg J s.heap l as)
  (k:∀x a,f x=À (v,ae)->VR gg J s.heap x a->É mo A (c [a]) (bA gg J s v ae) E s):É mo A (c as) (bA gg J s v ae) E s:=by
 show aF (ft he) λx q2 he=>?_;subst q2;show aF (ru hv) λa k1 hx=>?_;subst k1;show k x a he hx
theorem BE{f:List Int->Option V}{c:List Ä->Sem Ä}(he:js (rt H f) l=À (v,ae))(R:ar gg J H s.heap)(hv:bq gg J s.heap l as)
  (k:∀a l vs ns,ik J s.heap a l vs->cC l=À ns->f ns=À v->É mo A (c [.ref a]) (bA gg J s v H) E s):É mo A (c as) (bA gg J s v ae) E s:=by
 show nh he hv λx a he hx=>BA he λl' w hl he=>ie he λns u hn hu he=>?_;show aO (nT he) λq1 q2=>?_;subst q1 q2;show gq (HJ hl R hx) λc' vs q3 wQ=>?_;apply aW q3;show k c' l' vs ns wQ hn hu
theorem Ng{f:Int->Int->Int}{c:List Ä->Sem Ä}(he:E5 (Hp H f) l=À (v,ae))(hv:bq gg J s.heap l as)
  (k:∀i j t u,É mo A (c [.int i t,.int j u]) (bA gg J s (.int (f i j)) H) E s):É mo A (c as) (bA gg J s v ae) E s:=by
 show gq (sC he) λx y q3 he=>?_;subst q3;show fu (vq hv) λa b k2 hx hy=>?_;subst k2;show ie he λi j hi hj he=>?_;apply dn he;apply EN hi hx;intro t;apply EN hj hy;intro u;show k i j t u
set_option tactic.hygienic true in
theorem G7(he:R8 H x=À (v,ae))(R:ar gg J H s.heap)(hx:VR gg J s.heap x a):É mo A (Á (.builtin "len") [a]) (bA gg J s v ae) E s:=by
 have sq:∀{x:V},VR gg J s.heap x a->((pc H x).bind λp=>À (V.int p.1.length,H))=À (v,ae)->É mo A (Á (.builtin "len") [a]) (bA gg J s v ae) E s:=λhx he=>by show BA he λl' w hl he=>?_;apply dn he;show gq (HJ hl R hx) λc' vs q3 wQ=>?_;apply aW q3;show Kx R wQ
 revert he sq;apply VR.el hx
 case str=>
  intro y t he sq;show dF he λhz he=>?_;apply dn he;show PyProof.Rows.len_str (aep.mpr (Ů.mpr (ŷ hz (by decide)))) (bA.here R (.int _ _))
 case ref=>intro _ _ hr he sq;show sq (.ref hr) he
 case tup=>intro _ _ _ h1 h2 h3 h4 he sq;show sq (.tup h1 h2 h3 h4) he
 case ro=>intro _ _ _ h1 h2 h3 he sq;show sq (.ro h1 h2 h3) he
 all_goals (intros;rename_i he sq;exact no he)
theorem rT(he:((sD x).bind λr=>(lst H r).bind λl=>rj H l)=À (v,ae))(R:ar gg J H s.heap)(hx:VR gg J s.heap x a):É mo A (Á (.type "tuple") [a]) (bA gg J s v ae) E s:=by show ie he λr l hr hl he=>?_;show gH (kL he) λhz q2 q3=>?_;apply aW q2;apply aW q3;apply Tv hr hx;intro c hr;show dN (R.list hr hl) λvs hl hv z=>call_tuple_list hl.isList (λh' hk=>bA.newT (tk:=s.toks) R (ſ hz) hv (λb o e=>N' _ (hk b o e)) (fR hk (aH _)) (gE _ _)) (by rw[ų,<-hv.length];show hz)
theorem si(he:((Cz x).bind λl=>rV H l)=À (v,ae))(R:ar gg J H s.heap)(hx:VR gg J s.heap x a):É mo A (Á (.type "list") [a]) (bA gg J s v ae) E s:=by show bW he λl hl he=>gH (fV he) λhz q2 q3=>?_;apply aW q2;apply aW q3;show Mj (vT hl hx) λc vs q3 ht z hv z=>?_;apply aW q3;obtain ⟨o,ho,hc,n,hd⟩:=id ht;show call_list_seq c (.inr rfl) ho hc hd (λh' c' hk hS=>bA.newL (tk:=s.toks) R (ſ hz) hv hk (aH _) ⟨_,hS⟩) (by rw[ų,<-hv.length];show hz)
theorem uD(he:((NV x).bind λb=>À (V.int (if b then 1 else 0),H))=À (v,ae))(R:ar gg J H s.heap)(hx:VR gg J s.heap x a):É mo A (Á (.type "int") [a]) (bA gg J s v ae) E s:=by show bW he λb hb he=>?_;apply dn he;apply aW (vB hb hx);show call_int_bool (bA.here R (.int _ _))
inductive KR(h:Ó):AD->Ä->Prop
 |none:KR h .none .none
 |bool (b:Bool):KR h .bool (.bool b)
 |int (i:Int) (t:Tok):KR h .int (.int i t)
 |str (x:Str) (t:Tok):KR h .str (.str x t)
 |tup {c:È} {o:Obj}:h.get? c=À o->o.cls=.type "tuple"->KR h .tup (.ref c)
 |lst {c:È} {o:Obj}:h.get? c=À o->o.cls=.type "list"->KR h .lst (.ref c)
theorem RT(hk:MW H x=À k)(R:ar gg J H s.heap)(hx:VR gg J s.heap x a):KR s.heap k a:=by
 cases hx with
 |none=>apply dC hk;show .none
 |bool b=>apply dC hk;show .bool b
 |int i t=>apply dC hk;show .int i t
 |str i t=>apply dC hk;show .str i t
 |tup ht _ _ _=>apply dC hk;show dN ht λo ho hc z=>?_;show .tup ho hc
 |ref hr=>show bW hk λl hl hk=>?_;apply dC hk;show aF (R.list hr hl) λvs k3 z=>?_;show W' k3 λn ho=>?_;show .lst ho N
 |ro _ _ _=>show no hk
theorem uH(he:Tu H f x=À (v,ae))(R:ar gg J H s.heap)(hx:VR gg J s.heap x a)
  (h:∀k,KR s.heap k a->(∀tk,bA gg J s (.bool (f k)) H (.bool (f k)) {s with toks:=tk})->É mo A (Á (.builtin "isinstance") [a,.type T]) (bA gg J s (.bool (f k)) H) E s) :
  É mo A (Á (.builtin "isinstance") [a,.type T]) (bA gg J s v ae) E s:=by
 show bW he λk hk he=>?_;apply dn he;show h k (RT hk R hx) λtk=>bA.here R (.bool _)
theorem Dh(hk:KR s.heap k a)(h:∀tk,Q (.bool k.isInt) {s with toks:=tk}):É mo A (Á (.builtin "isinstance") [a,.type "int"]) Q E s:=by
 cases hk with
 |none=>show IsiPair.NoneType_int (h _)
 |bool _=>show IsiPair.bool_int (h s.toks)
 |int _ _=>show IsiPair.int_int (h s.toks)
 |str _ _=>show IsiPair.str_int (h _)
 |tup ho hc=>show IsiPair.tuple_int ho hc (h _)
 |lst ho hc=>show IsiPair.list_int ho hc (h _)
theorem zJ(hk:KR s.heap k a)(h:∀tk,Q (.bool k.isBool) {s with toks:=tk}):É mo A (Á (.builtin "isinstance") [a,.type "bool"]) Q E s:=by
 cases hk with
 |none=>show IsiPair.NoneType_bool (h _)
 |bool _=>show IsiPair.bool_bool (h s.toks)
 |int _ _=>show IsiPair.int_bool (h _)
 |str _ _=>show IsiPair.str_bool (h _)
 |tup ho hc=>show IsiPair.tuple_bool ho hc (h _)
 |lst ho hc=>show IsiPair.list_bool ho hc (h _)
theorem Di(hk:KR s.heap k a)(h:∀tk,Q (.bool k.isTup) {s with toks:=tk}):É mo A (Á (.builtin "isinstance") [a,.type "tuple"]) Q E s:=by
 cases hk with
 |none=>show IsiPair.NoneType_tuple (h _)
 |bool _=>show IsiPair.bool_tuple (h _)
 |int _ _=>show IsiPair.int_tuple (h _)
 |str _ _=>show IsiPair.str_tuple (h _)
 |tup ho hc=>show IsiPair.tuple_tuple ho hc (h s.toks)
 |lst ho hc=>show IsiPair.list_tuple ho hc (h _)
theorem rz(he:gk p l H=À (v,ae))(hh:A.handled=Ã)(zC:∃o,gg.B.get? Ĝ=À o)(R:ar gg J H s.heap)(hv:bq gg J s.heap l as):
  É mo A (ni p as) (bA gg J s v ae) E s:=by
 cases p with
 |len=>show nh he hv λx a he hx=>G7 he R hx
 |sum=>show BE he R hv λa l vs ns wQ hn hu=>sm hu▸Lu hh R wQ hn
 |max1=>
  show BE he R hv λa l vs ns wQ hn hu=>?_
  ·show bW hu λm hm hu=>sm hu▸Kz hh R wQ hn hm
 |min1=>
  show BE he R hv λa l vs ns wQ hn hu=>?_
  ·show bW hu λm hm hu=>sm hu▸KD hh R wQ hn hm
 |minD=>show BE (c:=λas=>Á (.builtin "min") as [("default",.none)]) he R hv λa l vs ns wQ hn hu=>sm hu▸Hd hh R wQ hn
 |min2=>
  show Ng he hv λi j t u=>?_
  ·show min_two_ints hh λh' tk hk=>?_
   by_cases hc:j<i
   ·rw[if_pos hc,acp (acQ hc)];show bA.grown R hk (.int _ _)
   ·rw[if_neg hc,acy (Ŕ.mp hc)];show bA.grown R hk (.int _ _)
 |max2=>
  show Ng he hv λi j t u=>?_
  ·show max_two_ints hh λh' tk hk=>?_
   by_cases hc:j > i
   ·rw[if_pos hc,acJ (acQ hc)];show bA.grown R hk (.int _ _)
   ·rw[if_neg hc,adi (Ŕ.mp hc)];show bA.grown R hk (.int _ _)
 |tuple=>show nh he hv λx a he hx=>rT he R hx
 |list=>show nh he hv λx a he hx=>si he R hx
 |str=>show no he
 |int=>show nh he hv λx a he hx=>uD he R hx
 |isInt=>show nh (c:=λas=>Á (.builtin "isinstance") (as++[.type "int"])) he hv λx a he hx=>uH he R hx λk hk q=>Dh hk q
 |isBool=>show nh (c:=λas=>Á (.builtin "isinstance") (as++[.type "bool"])) he hv λx a he hx=>uH he R hx λk hk q=>zJ hk q
 |isTuple=>show nh (c:=λas=>Á (.builtin "isinstance") (as++[.type "tuple"])) he hv λx a he hx=>uH he R hx λk hk q=>Di hk q
 |isStr=>show no he
 |isList=>show no he
 |sorted=>
  show nh he hv λx a he hx=>?_
  ·show ie he λr l hr hl he=>?_
   apply Tv hr hx;intro c hr;show Am hh zC R hr hl he
end
noncomputable def re:j3->Str
 |.append=> "append" |.extend=> "extend" |.find=> "find" |.get=> "get" |.join=> "join"
noncomputable def rd:j3->String
 |.append=> "list.append" |.extend=> "list.extend" |.find=> "str.find" |.get=> "dict.get" |.join=> "str.join"
noncomputable def rg:j3->String
 |.append=> "list" |.extend=> "list" |.find=> "str" |.get=> "dict" |.join=> "str"
theorem rh(m:j3):PlainAttrs (rg m):=by
 cases m
 ·show PySem.F.plainAttrs_list
 ·show PySem.F.plainAttrs_list
 ·show PySem.F.plainAttrs_str
 ·show PySem.F.plainAttrs_dict
 ·show PySem.F.plainAttrs_str
theorem tm(m:j3):Slot (rg m) (re m) (rd m):=by
 cases m
 ·show PySem.F.slot_list_append
 ·show PySem.F.slot_list_extend
 ·show PySem.F.slot_str_find
 ·show PySem.F.slot_dict_get
 ·show PySem.F.slot_str_join
theorem tq(m:j3):typeOf (.builtin (rd m))=pure (.type "method_descriptor"):=by
 cases m
 ·show PySem.F.type_list_append
 ·show PySem.F.type_list_extend
 ·show PySem.F.type_str_find
 ·show PySem.F.type_dict_get
 ·show PySem.F.type_str_join
section
variable{A:Ñ}{E:Ä->Å->Prop}{J:List È}{H:ag}{s:Å}
theorem xq(hr:rD m x H=Æ)(R:ar gg J H s.heap)(hx:VR gg J s.heap x a):
  s.TypeIs a (rg m)/\∀c,a=.ref c->∃ob,s.heap.get? c=À ob/\ob.dict=Ã:=by
 have L:((sD x).bind (lst H)).isSome=Æ->s.TypeIs a "list"/\∀d,a=.ref d->∃ob,s.heap.get? d=À ob/\ob.dict=Ã:=λh=>by show W' (abt.mp h) λl h=>aF (ob h) λr h1 hl=>?_;show aF (vR h1 hx) λc k1 h1=>?_;apply aW k1;show aF (R.list h1 hl) λvs k2 z=>?_;show W' k2 λn ho=>?_;show⟨⟨_,ho,N⟩,λd e=>⟨_,Value.ref.inj e▸ho,N⟩⟩
 have S:(Cy x).isSome=Æ->s.TypeIs a "str"/\∀d,a=.ref d->∃ob,s.heap.get? d=À ob/\ob.dict=Ã:=λh=>by show W' (abt.mp h) λy h=>W' (vS h hx) λt k3=>?_;apply aW k3;show⟨typeIs_str s y t,λc e=>nomatch e⟩
 cases m with
 |append=>show L hr
 |extend=>show L hr
 |find=>show S hr
 |join=>show S hr
 |get=>
  show W' (abt.mp hr) λl h=>aF (ob h) λr h1 hl=>aF (vR h1 hx) λc k4 h1=>?_;apply aW k4;cases R.objs _ _ _ h1 (t4 hl) with
  |ds hd _ _=>show⟨hd.typeIs,hd.mapOf.noDict⟩
theorem bA.putL(R:ar gg J H s.heap)(hr:J[r]?=À a)(aZ:H[r]?=À (.lst l₀))(hs:Heap.SameBut a s.heap h')
  (hl:h'.PlainList a ws.toArray) (hz:l.length<=al+1) (hv:bq gg J s.heap l ws):SE J s.heap J h'/\ar gg J (H.set r (.lst l)) h':=by
 have ha:a∈J:=ĥ hr;have S:SE J s.heap J h':=SE.put ha hs (by show W' hl λn e=>?_;show⟨_,e⟩);show⟨S,R.put hr aZ (λb o hb e=>hs.extBut b o hb e) (.lst hl hz (hv.step R S)) λq e=>nomatch e⟩
theorem yH(he:Bw H x y=À (v,ae))(R:ar gg J H s.heap)(hx:VR gg J s.heap x a)(hy:VR gg J s.heap y b):
  v=.none/\É mo A (Á (.builtin "list.append") [a,b]) (bA gg J s .none ae) E s:=by
 show aF (ob he) λr hr he=>aF (ob he) λl Vz he=>aO (cT he) λhz he=>aO (nT he) λk8 k9=>?_;apply fv k8;subst k9;show aF (vR hr hx) λc Kk hr=>(dN (R.list hr Vz) λvs hl hv z=>?_);apply aW Kk;show⟨rfl,ό hl (λh' hl2 hs=>?_) (by rw[ų,<-hv.length];show hz)⟩;have VA:h'.PlainList c (vs++[b]).toArray:=by simpa using hl2
 show aO (bA.putL (l:=l++[y]) R hr (qV Vz) hs VA (by simp;show hz) (hv.append (bq.one hy))) λS R'=>⟨J,S,R',.none,rfl,rfl,rfl⟩
theorem za(he:pS H x y=À (v,ae))(R:ar gg J H s.heap)(hx:VR gg J s.heap x a)(hy:VR gg J s.heap y b):
  v=.none/\É mo A (Á (.builtin "list.extend") [a,b]) (bA gg J s .none ae) E s:=by
 show aF (ob he) λr hr he=>aF (ob he) λq hq he=>aF (ob he) λl1 h1 he=>aF (ob he) λl2 h2 he=>aO (cT he) λhz he=>?_;show aO (nT he) λKl Km=>?_;apply fv Kl;subst Km;show aF (vR hr hx) λc RK hr=>?_;apply aW RK;show aF (vR hq hy) λd RL hq=>?_;apply aW RL;show dN (R.list hr h1) λvs RM Te z=>?_;show W' RM λn1 o1=>?_;show dN (R.list hq h2) λws V8 XH z=>?_;show W' V8 λn2 o2=>?_;have s4:vs.toArray.size+ws.toArray.size<=ê:=by rw[ų,ų,<-Te.length,<-XH.length];show hz.1
 show⟨N,call_meets PySem.F.slot_list_extend ⟨_,o1,N⟩ PySem.F.entry_list_extend (PySem.F.args_list_extend_2 _ _)
  (AutoSeq1.list_extend_list_list_0 c vs.toArray n1 d ws.toArray n2 (extend_door s4) (by show jL (y4 0xc1310b1010b20813ba230 N (iL s4) (iP _) (iA _ _))) (by show jL (y3 0xc2010b1013ba1812 N (iL s4) (iA _ _)))) ⟨o1,o2,?_⟩⟩
 have qP:(s.heap.update c (Obj.mapSeq λx=>x++ws.toArray)).PlainList c (vs++ws).toArray:=by
  have e:=Ϛ (Obj.mapSeq λx=>x++ws.toArray) o1 N
  simp only[Obj.mapSeq,List.append_toArray]at e
  show⟨_,e⟩
 show aO (bA.putL (l:=l1++l2) R hr (qV h1) (Heap.SameBut.update ..) qP (by simp;show ſ hz.1) (Te.append XH)) λS R'=>⟨J,S,R',.none,rfl,rfl,rfl⟩
theorem F1(he:M1 H x y=À (v,ae))(R:ar gg J H s.heap)(hx:VR gg J s.heap x a)(hy:VR gg J s.heap y b):
  É mo A (Á (.builtin "str.find") [a,b]) (bA gg J s v ae) E s:=by
 show aF (ob he) λp hp he=>aF (ob he) λq hq he=>aO (nT he) λk17 V9=>?_;apply fv k17;subst V9;show W' (vS hp hx) λt k19=>?_;apply aW k19;show W' (vS hq hy) λu Wa=>?_;apply aW Wa;show SC.find (bA.here R (.int _ _))
theorem J1(he:RZ H x y z=À (v,ae))(zC:∃o,gg.B.get? Ĝ=À o)(R:ar gg J H s.heap)(hx:VR gg J s.heap x a)(hy:VR gg J s.heap y b)(hz:VR gg J s.heap z d):
  É mo A (Á (.builtin "dict.get") [a,b,d]) (bA gg J s v ae) E s:=by
 show aF (ob he) λr hr he=>aF (ob he) λk hk he=>aF (ob he) λl hl he=>?_;show aO (nT he) λRN k22=>?_;apply fv RN;subst k22;show aF (vR hr hx) λc k23 hr=>?_;apply aW k23;show W' (vS hk hy) λu k24=>?_;apply aW k24
 have z9:(c==Ĝ)=Ê:=by
  show W' zC λo ho=>?_;have:=R.fresh _ (ĥ hr)
  simp only[beq_eq_false_iff_ne,ne_eq]
  rintro rfl;rw[ho]at this;show nomatch this
 cases R.objs _ _ _ hr (t4 hl) with
 |ds hd hk PY=>
  show call_meetsIn PySem.F.slot_dict_get hd.typeIs PySem.F.entry_dict_get (PySem.F.args_dict_get_3 _ _ _) (meets_dict_get_default (strKind gg.prog gg.w) c (strKind_is gg.prog gg.w k u) z9 d) ⟨_,hd.mapOf,?_⟩;cases hg:i5 l k with
  |none=>rw[CO hg hk PY];show bA.here R hz
  |some w=>show aF (n6 hg hk PY) λa' h1 h2=>?_;rw[h1];show bA.here R h2
theorem Hc(he:l6 m x l H=À (v,ae))(zC:∃o,gg.B.get? Ĝ=À o)(R:ar gg J H s.heap)(hx:VR gg J s.heap x a)(hv:bq gg J s.heap l as):
  É mo A (Á (.builtin (rd m)) (a::as)) (bA gg J s v ae) E s:=by
 cases m with
 |append=>show aF (ft he) λy k30 he=>?_;subst k30;show aF (ru hv) λb k31 hy=>?_;subst k31;show aO (yH (A:=A) (E:=E) he R hx hy) λWb h=>?_;apply aW Wb;show h
 |extend=>show aF (ft he) λy k33 he=>?_;subst k33;show aF (ru hv) λb k34 hy=>?_;subst k34;show aO (za (A:=A) (E:=E) he R hx hy) λRO h=>?_;apply aW RO;show h
 |find=>show aF (ft he) λy k36 he=>?_;subst k36;show aF (ru hv) λb k37 hy=>?_;subst k37;show F1 he R hx hy
 |join=>show no he
 |get=>show gq (sC he) λy z Wc he=>?_;subst Wc;show fu (vq hv) λb d k41 hy hz=>?_;subst k41;show J1 he zC R hx hy hz
theorem D3(hm:m.isStep=Æ)(he:l6 m x l H=À (v,ae)):v=.none:=by
 cases m with
 |append=>show aF (ft he) λy We he=>(aF (ob he) λr hr he=>?_);apply aW We;show aF (ob he) λl Vz he=>(nT (cT he).2).1.symm
 |extend=>show aF (ft he) λy k43 he=>(aF (ob he) λr hr he=>aF (ob he) λq hq he=>?_);apply aW k43;show aF (ob he) λl1 h1 he=>aF (ob he) λl2 h2 he=>(nT (cT he).2).1.symm
 |_=>cases hm
end
section
variable{A:Ñ}{E:Ä->Å->Prop}{J:List È}{H:ag}{s:Å}
theorem HD{c:È}{vs:List Ä}{k:Int}{t:Tok}{v:Ä}{Q:Unit->Å->Prop}(hl:s.heap.PlainList c vs.toArray)(h0:0<=k)(hj:k.toNat<vs.length)(Rf:Builtin.List.listFitsIndex k=Æ)
  (hQ:∀h',h'.PlainList c (vs.set k.toNat v).toArray->Heap.SameBut c s.heap h'->Q () {s with heap:=h'}) :
  É mo A (setItem (.ref c) (.int k t) v) Q E s:=by
 show W' (id hl) λn ho=>?_;obtain ⟨j,Mx⟩:∃j,j=k.toNat:=⟨_,rfl⟩;rw[<-Mx]at hj hQ
 have qP:(s.heap.update c (Obj.mapSeq (·.setIfInBounds j v))).PlainList c (vs.set j v).toArray:=by
  have e:=Ϛ (Obj.mapSeq (·.setIfInBounds j v)) ho N
  simp only[Obj.mapSeq,List.setIfInBounds_toArray]at e
  show⟨_,e⟩
 unfold setItem
 try with_reducible refine à ?_
 show Â (wpAny_sequenceKey hl.isList.typeIs (by decide) ?_)
 show Â (ð (name:=ϸ "__setitem__") hl.isList.typeIs PySem.slot_list_setitem
  (ý PySem.slot_list_setitem hl.isList.typeIs PySem.entry_list_setitem ?_ (PySem.args_list_setitem _ _ _)))
 show É _ _ (Builtin.List.listSubscript? (.int k t)>>=_) _ _ s;show Â (wpAny_listSubscript_int Rf ?_);show W' (adr h0) λj' q2=>?_;subst q2;have Zt:j=j':=Mx;clear Rf h0 Mx;apply fv Zt;show É _ _ ((seqItemAt c j>>=λr=>pure (r.map (j,·)))>>=_) _ _ s;show Â (Â (wpAny_seqItemAt ho rfl (Ç ?_)));rw[show vs.toArray[j]?=À vs[j] by simp [hj]];show É _ _ (setSeqItemAt c j v>>=_) _ _ s;show Â (wpAny_setSeqItemAt ho rfl ?_)
 first
  |show Â (Ç (Ç ⟨.none,N,Ç (hQ _ qP (Heap.SameBut.update ..))⟩))
  |show Ç ⟨.none,rfl,Ç (hQ _ qP (Heap.SameBut.update ..))⟩
theorem n8[DecidableEq κ](p:κ×β)(r:List (κ×β))(k:κ)(v:β):eT (p::r) k v=if p.1=k then (p.1,v)::r else p::eT r k v:=rfl
theorem D5{κ:Type}[DecidableEq κ]{k:κ}{a:Ä}{kvs:List (κ×Ä)}:(kvs.map (·.1)).Nodup->stored kvs k a=eT kvs k a:=by
 induction kvs with
 |nil=>show λz=>rfl
 |cons p r ih=>
  intro hn;have hn:=Ϥ.mp hn;rw[n8];by_cases hp:p.1=k
  ·rw[if_pos hp]
   show(if_pos (List.any_eq_true.mpr ⟨p,G',decide_eq_true hp⟩)).trans ?_;rw[ř,if_pos hp,map_store_of_not_mem r k a (hp▸hn.1)]
  ·rw[if_neg hp,<-ih hn.2]
   have e:(p::r).any (λkv=>decide (kv.1=k))=r.any λkv=>decide (kv.1=k):=by rw[List.any_cons,decide_eq_false hp];rfl
   show (if (p::r).any (λkv=>decide (kv.1=k)) then _ else _)=p::if _ then _ else _;rw[e];by_cases hr:(r.any λkv=>decide (kv.1=k))=Æ
   ·rw[if_pos hr,if_pos hr,ř,if_neg hp]
   ·rw[if_neg hr,if_neg hr];rfl
theorem FO[DecidableEq κ](PX:VR gg J h v a):∀{kvs:List (κ×Ä)},kvs.map (·.1)=l.map (·.1)->bq gg J h (l.map (·.2)) (kvs.map (·.2)) ->
  (eT kvs k a).map (·.1)=(eT l k v).map (·.1)/\bq gg J h ((eT l k v).map (·.2)) ((eT kvs k a).map (·.2)):=by
 induction l with
 |nil=>intro kvs hk _;rw[aeF.mp hk];show⟨N,.one PX⟩
 |cons p l ih=>
  intro kvs hk hv;cases kvs with
  |nil=>show absurd hk.symm (afa _ _)
  |cons q kvs=>
   have hk:=List.cons.inj hk;have e:q.1=p.1:=hk.1;rw[n8,n8,e];by_cases hp:p.1=k
   ·rw[if_pos hp,if_pos hp];show⟨congrArg (p.1::·) hk.2,.cons PX hv.tl⟩
   ·rw[if_neg hp,if_neg hp]
    show aO (ih hk.2 hv.tl) λi1 i2=>⟨List.cons_eq_cons.mpr ⟨e,i1⟩,.cons hv.hd i2⟩
theorem oR{κ:Type}[DecidableEq κ]{h:Ó}{k:κ}{v:V}{a:Ä}(PX:VR gg J h v a){l:List (κ×V)}{kvs:List (κ×Ä)}(hk:kvs.map (·.1)=l.map (·.1))(hn:(kvs.map (·.1)).Nodup)(hv:bq gg J h (l.map (·.2)) (kvs.map (·.2))):
  (stored kvs k a).map (·.1)=(eT l k v).map (·.1)/\bq gg J h ((eT l k v).map (·.2)) ((stored kvs k a).map (·.2)):=by
 rw[D5 hn];show FO PX hk hv
theorem mL{K:Type}[DecidableEq K]{knd:KeyKind gg.prog gg.w K}{h:Ó}{a:È}{kvs:List (K×Ä)}(x:h.DictOf knd a kvs):(kvs.map (·.1)).Nodup:=wi x λz z z r=>r.2.2.2.2.2
theorem t0{K K':Type}[DecidableEq K][DecidableEq K']{knd:KeyKind gg.prog gg.w K}{Wf:KeyKind gg.prog gg.w K'}{h:Ó}{a:È}(x:h.DictOf knd a []):h.DictOf Wf a []:=by
 show SP x λo es ep ho hc hd hk hp z=>?_
 have he:es.toList=[]:=by cases hq:es.toList with
  |nil=>rfl
  |cons _ _=>rw[hq]at hp;cases hp
 have IU:es=#[]:=by simpa using he
 subst IU;show⟨o,#[],ep,ho,hc,hd,λe he=>by simp at he,Pairs.nil,ad3⟩
theorem ar.putM(R:ar gg J H s.heap)(hr:J[r]?=À c)(aZ:H[r]?=À KJ)(hs:Heap.SameBut c s.heap h')(hd:∃o,h'.get? c=À o)
  (hm:SE J s.heap J h'->MR gg J h' m c) (MB:∀q,KJ=.tab q->m=.tab q):SE J s.heap J h'/\ar gg J (H.set r m) h':=by
 have S:SE J s.heap J h':=SE.put (ĥ hr) hs hd;show⟨S,R.put hr aZ (λb o hb e=>hs.extBut b o hb e) (hm S) MB⟩
theorem K7(he:((px i).bind λk=>if 0<=k/\k.toNat<l.length then À (H.set r (.lst (l.set k.toNat v))) else Ã)=À ae)(R:ar gg J H s.heap)(hr:J[r]?=À c)(h1:H[r]?=À (.lst l))(hi:VR gg J s.heap i ai)(hv:VR gg J s.heap v av)
  (h:∀h' tk,SE J s.heap J h'->ar gg J ae h'->Q () {s with heap:=h',toks:=tk}):É mo A (setItem (.ref c) ai av) Q E s:=by
 have sz:al+1=16777217:=rfl;show dN (R.list hr (cy h1)) λvs hl Be hz=>bW he λk hk he=>aO (cT he) λk1 he=>?_;show aO k1 λmS IW=>?_;obtain rfl:=sm he;show W' (vI hk hi) λt q2=>?_;subst q2;show HD hl mS (by rw[<-Be.length];show IW) (fitsIndex_of (by show y1 0xc00810b008 rfl mS) (yI mS IW hz)) λh' jd lV=>?_;show aO (bA.putL (l:=l.set k.toNat v) R hr h1 lV jd (by simpa using hz) (bq.set hv k.toNat Be)) λS R'=>h h' _ S R'
theorem Pm{Q:Unit->Å->Prop}(he:((px i).bind λk=>if l.length<=al then À (H.set r (.di (eT l k v))) else Ã)=À ae)(R:ar gg J H s.heap)(hr:J[r]?=À c)(h1:H[r]?=À (.di l))(hi:VR gg J s.heap i ai)(hv:VR gg J s.heap v av)
  (h:∀h' tk,SE J s.heap J h'->ar gg J ae h'->Q () {s with heap:=h',toks:=tk}):É mo A (setItem (.ref c) ai av) Q E s:=by
 show bW he λk hk he=>dF he λhz he=>?_;obtain rfl:=sm he;show W' (vI hk hi) λt q2=>?_;subst q2;cases R.objs _ _ _ hr h1 with
 |@di _ _ kvs hd hk Be=>
  have ca:kvs.length=l.length:=by have:=congrArg aea hk;simpa using this
  show Ŏ (intKind_is gg.prog gg.w k t) hd (λh' ke lV=>aO (oR hv hk (mL hd) Be (k:=k)) λi1 i2=>aO (R.putM (m:=.di (eT l k v)) hr h1 lV (by show oS ke λo z z ho z=>?_;show⟨o,ho⟩) (λS=>.di ke i1 (i2.step R S)) λq e=>nomatch e) λS R'=>?_) (by rw[ca];show hz);show h h' _ S R'
theorem Pn{Q:Unit->Å->Prop}(he:Nn H r l v i=À ae)(R:ar gg J H s.heap)(hr:J[r]?=À c)(h1:H[r]?=À (.ds l))(hi:VR gg J s.heap i ai)(hv:VR gg J s.heap v av)
  (h:∀h' tk,SE J s.heap J h'->ar gg J ae h'->Q () {s with heap:=h',toks:=tk}):É mo A (setItem (.ref c) ai av) Q E s:=by
 cases R.objs _ _ _ hr h1 with
 |@ds _ _ kvs hd hk Be=>
  have ca:kvs.length=l.length:=by have:=congrArg aea hk;simpa using this
  cases hi with
  |str k t=>show dF he λhz he=>?_;obtain rfl:=sm he;show Ŏ (strKind_is gg.prog gg.w k t) hd (λh' ke lV=>aO (oR hv hk (mL hd) Be (k:=k)) λi1 i2=>aO (R.putM (m:=.ds (eT l k v)) hr h1 lV (by show oS ke λo z z ho z=>?_;show⟨o,ho⟩) (λS=>.ds ke i1 (i2.step R S)) λq e=>nomatch e) λS R'=>?_) (by rw[ca];show hz);show h h' _ S R'
  |int k t=>
   show dF he λhz he=>?_;obtain rfl:=sm he
   have Ka:kvs=[]:=by rw[Ų.mp hz]at ca;show ϰ.mp ca
   subst Ka;show Ŏ (intKind_is gg.prog gg.w k t) (t0 hd) (λh' ke lV=>aO (R.putM (m:=.di [(k,v)]) hr h1 lV (by show oS ke λo z z ho z=>?_;show⟨o,ho⟩) (λS=>.di ke (by simp [stored]) (by simpa [stored] using bq.one (hv.step R S))) λq e=>nomatch e) λS R'=>?_) (Ĥ _);show h h' _ S R'
  |_=>show no he
theorem K8(he:rF o i v H=À ae)(R:ar gg J H s.heap)(ho:VR gg J s.heap o ao)(hi:VR gg J s.heap i ai)(hv:VR gg J s.heap v av)
  (h:∀h' tk,SE J s.heap J h'->ar gg J ae h'->Q () {s with heap:=h',toks:=tk}) :
  É mo A (setItem ao ai av) Q E s:=by
 show ie he λr m hr hm he=>?_;apply Tv hr ho;intro c hr;cases m with
 |lst l=>show K7 he R hr hm hi hv h
 |di l=>show Pm he R hr hm hi hv h
 |ds l=>show Pn he R hr hm hi hv h
 |own=>show no he
 |wd _=>show no he
 |exn _ _=>show no he
 |tab _=>show no he
end
theorem m8{P:α->Prop}(h:P a):∀b∈[a],P b:=λz hb=>O'.mp hb▸h
theorem qX{P:α->Prop}(h:P a)(k:P c):∀b∈[a,c],P b:=λb hb=>(Ĉ.mp hb).elim (λe=>e▸h) (m8 k b)
theorem KA{P:α->Prop}:∀b∈([]:List α),P b:=λz hb=>absurd hb ac'
theorem R6{α:Type}{P:α->Prop}{l m:List α}(h:∀b∈l,P b)(k:∀b∈m,P b):∀b,b∈l\/b∈m->P b:=λb hb=>hb.elim (h b) (k b)
theorem XW(h:b∉[a]):b≠a:=λe=>h (O'.mpr e)
def Mv(wr J:List È)(h h':Ó):Prop:=∀b o,b∉wr->b∉J->h.get? b=À o->h'.get? b=À o
def ed(h:Ó)(b:È):Prop:=∃o,h.get? b=À o/\I7 o
theorem iD(hc:o.cls=.type n)(hd:o.data=.fields vs)(hn:n≠"code"):I7 o:=
 ⟨(λz z q=>nomatch hd.symm.trans q),(λz z q=>nomatch hd.symm.trans q),λq=>absurd (hc.symm.trans q) λq=>hn (by injection q)⟩
theorem I7.not(x:I7 o):¬ j0 o:=by
 rintro (⟨_,_,_,h⟩|⟨h1,_,h2⟩)
 ·show x.seq _ _ h
 ·show x.code h1 _ h2
def vF(h:Ó)(b:È):Prop:=∃o cO n,h.get? b=À o/\o.data=.seq cO n
def vj(two:Bool)(t:Ô):Prop:=(∃es k p,t=.Tuple es k p)\/(two=Ê/\∃x p,t=.Name x p)
structure rZ(A:Ñ)(I:È)(xs:List V)(w:List (Nat×bp))(two:Bool)(ys:List V)(vs:List Ä)(wr kp:List È)(St:Nat->Ó->Prop)(r0:Nat->Ä->Ó->Prop):Prop where
 frame:∀i h h',St i h->(∀b,b∈wr\/b∈kp->∀o,h.get? b=À o->h'.get? b=À o)->St i h'
 wrN:∀i h,St i h->∀b∈wr,ed h b
 wrM:∀i a h,r0 i a h->∀b∈wr,ed h b
 kpN:∀i h,St i h->∀b∈kp,vF h b
 item:∀i J H (s:Å) (Q:Option Ä->Å->Prop) (E:Ä->Å->Prop) x,St i s.heap->ar gg J H s.heap->bq gg J s.heap ys vs->cA H w->(∀b,b∈wr\/b∈kp->b∉J)->(∀b∈wr,gg.B.get? b=Ã)->xs[i]?=À x ->
  (∀a h' tk,Mv wr J s.heap h'->ar gg J H h'->VR gg J h' x a->r0 i a h'->Q (À a) {s with heap:=h',toks:=tk})->É mo A (ı (.ref I)) Q E s
 go:∀t,vj two t->∀i J H a (s:Å) (Q:Unit->Å->Prop) (E:Ä->Å->Prop),r0 i a s.heap->ar gg J H s.heap->(∀b,b∈wr\/b∈kp->b∉J)->(∀b∈wr,gg.B.get? b=Ã) ->
  (∀h',Mv wr J s.heap h'->ar gg J H h'->St (i+1) h'->Q () {s with heap:=h'})->É mo A (Ń t (.ref I) a) Q E s
 done:∀J H (s:Å) (Q:Option Ä->Å->Prop) (E:Ä->Å->Prop),St xs.length s.heap->ar gg J H s.heap->bq gg J s.heap ys vs->cA H w->(∀b,b∈wr\/b∈kp->b∉J)->(∀b∈wr,gg.B.get? b=Ã) ->
  (∀h' tk,Mv wr J s.heap h'->ar gg J H h'->Q Ã {s with heap:=h',toks:=tk})->É mo A (ı (.ref I)) Q E s
 self:∀i (s:Å) (Q:Ä->Å->Prop) (E:Ä->Å->Prop),St i s.heap->Q (.ref I) s->É mo A (pyIter (.ref I)) Q E s
section
variable{A:Ñ}{E:Ä->Å->Prop}{J:List È}{H:ag}{s:Å}{wr:List È}
theorem Mv.tup(M:Mv wr J h h')(hw:∀b∈wr,ed h b):∀b o,h.get? b=À o->j0 o->b∉J->h'.get? b=À o/\b∉J:=
 λb o e hs hn=>⟨M b o (λhb=>(hw b hb).elim λo' k=>k.2.not (sm (e.symm.trans k.1)▸hs)) hn e,hn⟩
theorem Mv.vr(M:Mv wr J h h')(hw:∀b∈wr,ed h b)(x:VR gg J h v a):VR gg J h' v a:=x.stepT (λz z e=>e) (M.tup hw)
theorem Mv.vrs(M:Mv wr J h h')(hw:∀b∈wr,ed h b)(x:bq gg J h l vs):bq gg J h' l vs:=x.stepT (λz z e=>e) (M.tup hw)
theorem ar.mv(R:ar gg J H h)(M:∀b o,b∉wr->h.get? b=À o->h'.get? b=À o)(hw:∀b∈wr,ed h b)(hn:∀b∈wr,b∉J)(hB:∀b∈wr,gg.B.get? b=Ã):ar gg J H h':=by have M':Mv wr J h h':=λb o h1 z e=>M b o h1 e;show⟨λb o e=>M b o (λhb=>by rw[hB b hb]at e;cases e) (R.base b o e),R.fresh,R.len,R.nodup,λi a m h1 h2=>?_,R.tabs⟩;show(R.objs i a m h1 h2).stepT (λz z e=>e) (M'.tup hw) λo e=>M _ o (λhb=>hn _ hb (ĥ h1)) e
theorem Mv.all(M:∀b o,b∉wr->h.get? b=À o->h'.get? b=À o):Mv wr J h h':=λb o h1 z e=>M b o h1 e
def OV(n:String):Prop:=["enumerate","zip","dict_itemiterator","dict_reverseitemiterator","odict_iterator","itertools.zip_longest","itertools.pairwise"].contains n=Ê
theorem mY(ht:vj Ê t)(ho:s.heap.get? I=À o)(hc:o.cls=.type n)(hn:OV n)(h:Q () s):
  É mo A (Ń t (.ref I) a) Q E s:=by
 show ht.elim (λq=>wi q λes k p q=>?_) λq=>mM q.2 λx p q=>?_
 ·rw[q]
  cases a with
  |ref c=>
   unfold Ń;show Â (wpAny_load ho ?_);rw[hc];cases hd:o.data with
   |fields vs=>show É _ _ (if (["enumerate","zip","dict_itemiterator","dict_reverseitemiterator","odict_iterator","itertools.zip_longest","itertools.pairwise"].contains n&&vs[0]?==À (ô c))=Æ then _ else _) Q E s;rw[show ["enumerate","zip","dict_itemiterator","dict_reverseitemiterator","odict_iterator","itertools.zip_longest","itertools.pairwise"].contains n=Ê from hn];show Ç h
   |_=>show Ç h
  |_=>show Ç h
 ·rw[q];show Ç h
theorem tI(h:cA H ((r,m)::w)):H[r]?=À m:=h _ G'
theorem rZ.list(hh:A.handled=Ã)(I c:È)(r:Nat)(l:List V)(eJ:c≠I):
  rZ A I l [(r,.lst l)] Ê [.ref r] [.ref c] [I] [] (λi h=>h.IsListIter I c i) (λi z h=>h.IsListIter I c (i+1)):=by
 have ns:∀i h,h.IsListIter I c i->∀b∈[I],ed h b:=λi h st b hb=>by apply aW (O'.mp hb);show dN st λo ho hc hd=>⟨o,ho,iD hc hd (by decide)⟩
 have Jl:∀{J:List È} {H:ag} {h:Ó},ar gg J H h->bq gg J h [.ref r] [.ref c]->cA H [(r,.lst l)]->∃vs,h.IsList c vs.toArray/\bq gg J h l vs:=λ{J H h} R hv hw=>by
  cases hv with
  |cons hv _=>
   cases hv with
   |ref hr=>show dN (R.list hr (cy (tI hw))) λvs hl Be z=>⟨vs,hl.isList,Be⟩
 show⟨λi h h' st hk=>st.at λo e=>hk I (.inl G') o e,ns,λi a h m=>ns _ h m,λz z z=>KA,?_,?_,?_,λi s Q E st h=>wpAny_pyIter_listiter st h⟩
 ·intro i J H s Q E x st R hv hw hn hB hx hQ
  show aF (Jl R hv hw) λvs hl Be=>aF (Be.get hx) λa ha Z9=>wpAny_pyNext_list_item st hl (x:=a) (ž.trans ha) λh' Ow lV=>?_;have M:∀b o,b∉[I]->s.heap.get? b=À o->h'.get? b=À o:=λb o hb e=>lV.extBut b o (XW hb) e;have M':Mv [I] J s.heap h':=Mv.all M;show hQ a h' s.toks M' (R.mv M (ns _ _ st) (λb hb=>hn b (.inl hb)) hB) (M'.vr (ns _ _ st) Z9) Ow
 ·intro t ht i J H a s Q E m R hn hB hQ
  show dN (id m) λo ho hc hd=>mY ht ho hc N (hQ s.heap (λz z z z e=>e) R m)
 ·intro J H s Q E st R hv hw hn hB hQ
  show aF (Jl R hv hw) λvs hl Be=>wpAny_pyNext_list_end hh st hl (by simp [Be.length]) λh' lV=>?_;have M:∀b o,b∉[I]->s.heap.get? b=À o->h'.get? b=À o:=λb o hb e=>lV b o (XW hb) e;show hQ h' s.toks (Mv.all M) (R.mv M (ns _ _ st) (λb hb=>hn b (.inl hb)) hB)
theorem rZ.walks{I:È}{fp kp:List È}{xs ys:List V}{vs:List Ä}{P:Nat->Ä->Prop}{St:Nat->Ó->Prop}{n:String}(W:Walks gg.prog gg.w A I fp [I] xs.length P St)(J6:∀b∈fp,b=I\/b∈kp)
  (hn:OV n) (VG:n≠"code")
  (hI:∀i h,St i h->∃o vs,h.get? I=À o/\o.cls=.type n/\o.data=.fields vs) (Vv:∀i h,St i h->∀b∈kp,vF h b)
  (hP:∀J h i v x,bq gg J h ys vs->P i v->xs[i]?=À x->VR gg J h x v) :
  rZ A I xs [] Ê ys vs [I] kp St (λi z h=>St (i+1) h):=by
 have ns:∀i h,St i h->∀b∈[I],ed h b:=λi h st b hb=>by apply aW (O'.mp hb);show fu (hI i h st) λo vs ho hc hd=>⟨o,ho,iD hc hd VG⟩
 show⟨λi h h' st hk=>W.frame i h h' st λb hb o e=>hk b ((J6 b hb).imp (λe=>O'.mpr e) id) o e,ns,λi a h m=>ns _ h m,Vv,?_,?_,?_,W.self⟩
 ·intro i J H s Q E x st R hv hw lU hB hx hQ
  show W.item i s Q E (Ġ.mp hx).1 st λv h' tk hp Ú M=>?_;have M':Mv [I] J s.heap h':=Mv.all M;show hQ v h' tk M' (R.mv M (ns _ _ st) (λb hb=>lU b (.inl hb)) hB) (hP J h' i v x (M'.vrs (ns _ _ st) hv) hp hx) Ú
 ·intro t ht i J H a s Q E m R lU hB hQ
  show fu (hI _ _ m) λo vs ho hc hd=>mY ht ho hc hn (hQ s.heap (λz z z z e=>e) R m)
 ·intro J H s Q E st R hv hw lU hB hQ
  show W.done s Q E st λh' tk M=>hQ h' tk (Mv.all M) (R.mv M (ns _ _ st) (λb hb=>lU b (.inl hb)) hB)
def Co(A:Ñ)(J:List È)(s:Å)(xs:List V)(w:List (Nat×bp))(two:Bool)(ae:ag)(a:Ä)(Ì:Å):Prop:=
 ∃aT,SE J s.heap aT Ì.heap/\ar gg aT ae Ì.heap/\bJ s Ì/\∀(E:Ä->Å->Prop) (Q:Ä->Å->Prop),
  (∀I ys vs wr kp St r0 h',rZ A I xs w two ys vs wr kp St r0->St 0 h'->(∀b o,Ì.heap.get? b=À o->h'.get? b=À o)->bq gg aT h' ys vs->(∀b∈wr,s.heap.get? b=Ã)->(∀b,b∈wr\/b∈kp->b∉aT) ->
   (∀b∈wr,gg.B.get? b=Ã)->Q (.ref I) {Ì with heap:=h'})->É mo A (pyIter a) Q E Ì
theorem aV(R:ar gg J H h)(hb:h.get? b=Ã):gg.B.get? b=Ã:=km λo e=>no (hb.symm.trans (R.base b o e))
theorem aX(R:ar gg J H h)(hb:h.get? b=Ã):b∉J:=λx=>(R.live x).elim λo ho=>no (hb.symm.trans ho)
theorem SE.back(S:SE J h aT h')(hb:h'.get? b=Ã):h.get? b=Ã:=km λo e=>(S.dom b o e).elim λo' e'=>no (hb.symm.trans e')
theorem xW{c:È}{l:List V}{vs:List Ä}{n:String}{St:Nat->Ó->Prop}{Ì:Å}{aT:List È}{Q:Ä->Å->Prop}(S:SE J s.heap aT Ì.heap)(R:ar gg aT H Ì.heap)(hv:bq gg aT Ì.heap l vs)(hn:c∉aT)
  (W:Walks gg.prog gg.w A Ì.heap.objs.size [Ì.heap.objs.size,c] [Ì.heap.objs.size] vs.toArray.size (λi v=>vs.toArray[i]?=À v) St) (Zz:OV n) (VG:n≠"code") (hI:∀i h,St i h->∃o vs,h.get? Ì.heap.objs.size=À o/\o.cls=.type n/\o.data=.fields vs) (Vv:∀i h,St i h->vF h c)
  (h0:St 0 (Ì.heap.push {cls:=.type n,data:=.fields #[.ref c,.int 0 0]}))
  (h:∀I ys vs wr kp St r0 h',rZ A I l [] Ê ys vs wr kp St r0->St 0 h'->(∀b o,Ì.heap.get? b=À o->h'.get? b=À o)->bq gg aT h' ys vs->(∀b∈wr,s.heap.get? b=Ã)->(∀b,b∈wr\/b∈kp->b∉aT) ->
   (∀b∈wr,gg.B.get? b=Ã)->Q (.ref I) {Ì with heap:=h'}):Q (.ref Ì.heap.objs.size) {Ì with heap:=Ì.heap.push {cls:=.type n,data:=.fields #[.ref c,.int 0 0]}}:=by
 rw[show vs.toArray.size=l.length from hv.length.symm]at W
 show h _ l vs [_] [c] _ _ _ (rZ.walks W (λb hb=>(Ĉ.mp hb).imp id id) Zz VG hI (λi h st=>m8 (Vv i h st)) λJ h i v x hv hp hx=>?_) h0 (λb o e=>N' _ e) (hv.stepT (λz z e=>e) λb o e z hn=>⟨N' _ e,hn⟩)
  (m8 (S.back (aH _))) (R6 (m8 (aX R (aH _))) (m8 hn)) (m8 (aV R (aH _)))
 show aF (hv.get hx) λa ha hr=>sm (ha.symm.trans (ž.symm.trans hp))▸hr
set_option tactic.hygienic true in
theorem Lq{x:V}{a:Ä}{xs:List V}{w:List (Nat×bp)}{Ì:Å}(hh:A.handled=Ã)(he:pc H x=À (xs,w))(hp:bA gg J s x H a Ì):Co A J s xs w Ê H a Ì:=by
 show bA.el hp λaT S R hx hS=>⟨aT,S,R,hS,λE Q h=>?_⟩;revert he h;apply VR.el hx
 case tup=>
  intro l c vs ht hz hv hn he h;have cE:c<Ì.heap.objs.size:=aF ht λ_ e _=>ō e;revert h;apply dn he;intro h;show ā ht (xW S R hv hn (Walks.tuple (prog:=gg.prog) (w:=gg.w) hh _ c (ŉ cE) vs.toArray) N (by decide) (λi h st=>dN st.1 λo ho hc hd=>⟨o,_,ho,hc,hd⟩) (λi h st=>dN st.2 λo ho hc hd=>hd.elim λn hd=>⟨o,_,n,ho,hd⟩) ⟨⟨_,Ł _ N,N,N⟩,ht.push _⟩ h)
 case ro=>
  intro ns c vs hl hz hi he h;have jd:Ì.heap.IsList c vs.toArray:=hl.at λo e=>R.base _ o e;have cE:c<Ì.heap.objs.size:=aF jd λ_ e _=>ō e;revert h;apply dn he;intro h;show ĭ jd (xW S R (Bl hi) (λhm=>aF hl λo ho _=>no ((R.fresh _ hm).symm.trans ho)) (Walks.list (prog:=gg.prog) (w:=gg.w) hh _ c (ŉ cE) vs.toArray) N (by decide) (λi h st=>dN st.1 λo ho hc hd=>⟨o,_,ho,hc,hd⟩) (λi h st=>dN st.2 λo ho hc hd=>hd.elim λn hd=>⟨o,_,n,ho,hd⟩) ⟨⟨_,Ł _ N,N,N⟩,jd.push _⟩ h)
 case ref=>
  intro r c hr he h;show bW he λl' jd he=>dN (R.list hr jd) λvs hl hv hz=>?_;have cE:c<Ì.heap.objs.size:=hl.elim λ_ e=>ō e;revert h;apply dn he;intro h;show ĭ hl.isList (h _ [.ref r] [.ref c] [_] [] _ _ _ (rZ.list hh Ì.heap.objs.size c r l' (ŉ cE)) ⟨_,Ł _ N,N,N⟩ (λb o e=>N' _ e) (.one (.ref hr)) (m8 (S.back (aH _))) (R6 (m8 (aX R (aH _))) KA) (m8 (aV R (aH _))))
 all_goals (intros;rename_i he h;exact no he)
theorem Dy(a b c:Int):iV a b c=(Builtin.Range.rangeSize a b c).toNat:=rfl
theorem Nl{x y c:Int}(hc:0<c):0<=(if y<x then (x-y-1) / c+1 else 0):=by
 by_cases h:y<x
 ·rw[if_pos h];show acr (Int.ediv_nonneg (by show y2 0xce18e010811b10 N h) (acQ hc)) (by decide)
 ·rw[if_neg h];show Ř 0
theorem Nk{x y c M:Int}(hc:0<c)(hM:x-y<=M)(h0:0<=M):(if y<x then (x-y-1) / c+1 else 0)<=M:=by
 by_cases h:y<x
 ·rw[if_pos h];show Ŀ (adS (Int.ediv_le_self c (by show y2 0xce18e010811b10 N h)) 1) (Ŀ (acO (ad0 _ _)) hM)
 ·rw[if_neg h];show h0
theorem M5(hc:c≠0)(hp:¬ c > 0):0 < -c:=Int.neg_pos_of_neg (aey.mpr ⟨Ŕ.mp hp,hc⟩)
theorem fC(a b c:Int)(hc:c≠0):0<=Builtin.Range.rangeSize a b c:=by
 unfold Builtin.Range.rangeSize;by_cases hp:c > 0
 ·rw[if_pos hp];show Nl hp
 ·rw[if_neg hp];show Nl (M5 hc hp)
theorem u4(a b c:Int)(hc:c≠0)(ha:-1000000000<=a/\a<=1000000000)(hb:-1000000000<=b/\b<=1000000000):Builtin.Range.rangeSize a b c<=2000000000:=by
 unfold Builtin.Range.rangeSize;by_cases hp:c > 0
 ·rw[if_pos hp];show Nk hp (afs hb.2 ha.1) (by decide)
 ·rw[if_neg hp];show Nk (M5 hc hp) (afs ha.2 hb.1) (by decide)
theorem JV(h1:-3000000000<=x)(h2:x<=3000000000):Builtin.Range.rangeFitsLong x=Æ:=Ľ.mpr ⟨decide_eq_true (Ŀ (by decide) h1),decide_eq_true (adm h2 (by decide))⟩
theorem F2(h:-1000000000<=x/\x<=1000000000):Builtin.Range.rangeFitsLong x=Æ:=JV (Ŀ (by decide) h.1) (Ŀ h.2 (by decide))
theorem rH(hc:c≠0)(ha:-1000000000<=a/\a<=1000000000)(hb:-1000000000<=b/\b<=1000000000)(eU:-1000000000<=c/\c<=1000000000):Builtin.Range.small a b c=Æ:=by
 show Ľ.mpr ⟨Ľ.mpr ⟨Ľ.mpr ⟨Ľ.mpr ⟨F2 ha,F2 hb⟩,F2 eU⟩,JV (Ŀ (by decide) (fC a b c hc)) (Ŀ (u4 a b c hc ha hb) (by decide))⟩,abY.mpr (.inr ?_)⟩;have hl:=ad4 hb.1 eU.1;have hu:=ad4 hb.2 eU.2;by_cases hp:c > 0
 ·rw[if_pos hp];show JV (Ŀ (by decide) (ae2 b c 1▸aez hl 1)) (Ŀ (ae2 b c 1▸aez hu 1) (by decide))
 ·rw[if_neg hp];show JV (Ŀ (by decide) (ϩ b c 1▸adS hl 1)) (Ŀ (ϩ b c 1▸adS hu 1) (by decide))
theorem D2{a b c:Int}{r:È}{t u v:Tok}{Ì:Å}(hh:A.handled=Ã)(hr:IsRange Ì.heap r a b c t u v)(hc:c≠0)(Dc:Builtin.Range.small a b c=Æ){aT:List È}(S:SE J s.heap aT Ì.heap)(R:ar gg aT H Ì.heap)(hS:bJ s Ì):
  Co A J s (cp a b c) [] Ê H (.ref r) Ì:=by
 show⟨aT,S,R,hS,λE Q h=>?_⟩;have fb:s.heap.get? Ì.heap.objs.size=Ã:=S.back (aH _);have YB:Ì.heap.objs.size∉aT:=aX R (aH _);have fB:gg.B.get? Ì.heap.objs.size=Ã:=aV R (aH _);have ca:(cp a b c).length=(Builtin.Range.rangeSize a b c).toNat:=(H' _).trans Ś;have W:=Walks.range (prog:=gg.prog) (w:=gg.w) hh Ì.heap.objs.size a c (cp a b c).length;show wpAny_pyIter_range hr Dc (h _ [] [] [_] [] _ _ _ (rZ.walks (n := "range_iterator") W (λb hb=>.inl (O'.mp hb)) N (by decide) ?_ (λi h st=>KA) ?_) ?_ (λb o e=>N' _ e) .nil (m8 fb) (R6 (m8 YB) KA) (m8 fB))
 ·intro i h st
  show⟨_,_,st,N,N⟩
 ·intro J h i v x hv hp hx
  show W' hp λt q2=>?_;apply aW q2;have hi:i<iV a b c:=aeO (Ġ.mp hx).1 ca;unfold cp at hx;rw[į,Ϭ hi]at hx;apply dC hx;show .int _ _
 ·show IsRangeIter _ _ _ _ _
  have e:(((Builtin.Range.rangeSize a b c).toNat:Int)-(0:Nat))=Builtin.Range.rangeSize a b c:=(afD _).trans (ϡ (fC a b c hc));have e2:a+((0:Nat):Int)*c=a:=(congrArg (a+·) (Ϲ c)).trans (ů a);rw[ca,e,e2];show Ł _ N
end
section
variable{A:Ñ}{E:Ä->Å->Prop}{s:Å}
theorem dv{cO}(sZ:s.heap.IsTupleIter it t i)
  (ht:s.heap.IsTuple t cO) (hx:cO[i]?=À x)
  (hQ:∀h',h'.IsTupleIter it t (i+1)->Heap.SameBut it s.heap h'->Q x {s with heap:=h'}) :
  É mo A (Builtin.SmallTypes.nextOf (.ref it)) Q E s:=by
 show dN (id sZ) λo ho hc hd=>?_;obtain ⟨ol,VK,_,nl,Mw⟩:=ht;unfold Builtin.SmallTypes.nextOf
 show Â (ð (name:=ϸ "__next__") sZ.typeIs F.slot_tuple_iterator_next
  (ý F.slot_tuple_iterator_next sZ.typeIs F.entry_tuple_iterator_next ?_ (F.args_tuple_iterator_next_1 _)))
 show É _ _ (field (.ref it) 0>>=_) _ _ s;show Â (ß ho hd (x:=.ref t) N ?_);show É _ _ (if (Value.ref t==Value.none)=Æ then _ else _) _ _ s;rw[if_neg (show ¬ ((Value.ref t==Value.none)=Æ) from Ķ)];show É _ _ (field (.ref it) 1>>=_) _ _ s;show Â (ß ho hd (x:=.int i 0) N ?_);show É _ _ (seqItems? (.ref t)>>=_) _ _ s;show Â (æ VK Mw ?_)
 simp only[ĵ,hx]
 show Â (ħ ho hd (by simp) (Ç ⟨x,rfl,Ç (hQ _ ?_ (Heap.SameBut.update ..))⟩))
 show⟨_,Ϛ _ ho (Obj.isFreed_of_fields (Obj.data_mapFields hd _)),(Obj.cls_mapFields ..).trans hc,by
  rw[Obj.data_mapFields hd];simp [ô]⟩
theorem dR{cO}(hh:A.handled=Ã)
  (sZ:s.heap.IsTupleIter it t i) (ht:s.heap.IsTuple t cO) (hx:cO[i]?=Ã)
  (hE:∀h' e,Heap.ExtBut it s.heap h'->(∃o,h'.get? e=À o/\o.cls=.type "StopIteration")->E (.ref e) {s with heap:=h'}) :
  É mo A (Builtin.SmallTypes.nextOf (.ref it)) Q E s:=by
 show dN (id sZ) λo ho hc hd=>?_;obtain ⟨ol,VK,_,nl,Mw⟩:=ht;unfold Builtin.SmallTypes.nextOf
 show Â (ð (name:=ϸ "__next__") sZ.typeIs F.slot_tuple_iterator_next
  (ý F.slot_tuple_iterator_next sZ.typeIs F.entry_tuple_iterator_next ?_ (F.args_tuple_iterator_next_1 _)))
 show É _ _ (field (.ref it) 0>>=_) _ _ s;show Â (ß ho hd (x:=.ref t) N ?_);show É _ _ (if (Value.ref t==Value.none)=Æ then _ else _) _ _ s;rw[if_neg (show ¬ ((Value.ref t==Value.none)=Æ) from Ķ)];show É _ _ (field (.ref it) 1>>=_) _ _ s;show Â (ß ho hd (x:=.int i 0) N ?_);show É _ _ (seqItems? (.ref t)>>=_) _ _ s;show Â (æ VK Mw ?_)
 simp only[ĵ,hx]
 show Â (ú (Â (ħ ho hd (by simp) ?_)));show É _ _ (newExc (.type "StopIteration") []>>=_) _ _ _;show Â ?_
 simp only[newExc,newTuple]
 refine Â (ç (Â (m:=firstArgMember _ _) (wpAny_of_eq (a:=Value.none) (by first|rfl|(simp only[firstArgMember];rfl)) (ç ?_ (by size_fits)))) (by size_fits))
 simp only[raiseNew]
 show Â (wpAny_handled ?_)
 first|rw[show A.in1.handled=Ã from hh]|rw[hh]
 show Â (Ç (wpAny_throw (hE _ _ (((Heap.SameBut.update ..).extBut.push _).push _) ⟨_,Ł _ N,N⟩)))
end
theorem yU(hh:A.handled=Ã)(it l:È)(eJ:l≠it)(cO:Array Ä):
  Draws gg.prog gg.w A it [it,l] cO.size (λi v=>cO[i]?=À v) (λi h=>h.IsTupleIter it l i/\h.IsTuple l cO) where
 live:=λz z st=>let ⟨o,ho,_⟩:=st.1;⟨o,ho⟩
 frame:=λz z z st hk=>⟨st.1.at λo e=>hk it (by simp) o e,st.2.at λo e=>hk l (by simp) o e⟩
 item:=λi s Q E hi st hQ=>by show dv st.1 st.2 (x:=cO[i]) (by simp [hi]) λh' Ow lV=>hQ _ h' s.toks (by simp [hi]) ⟨Ow,st.2.extBut lV.extBut eJ⟩ lV
 done:=λs Q E st hE=>dR hh st.1 st.2 (by simp) hE
theorem uU:∀{k i:Nat} {x:V},(dI k xs)[i]?=À x->∃y,xs[i]?=À y/\x=.tup [.int ((k+i:Nat):Int),y]:=by
 induction xs with
 |nil=>show λh=>no h
 |cons y xs ih=>
  intro k i x h;cases i with
  |zero=>show⟨y,N,(sm h).symm⟩
  |succ i=>show(show k+1+i=k+(i+1) from Nat.succ_add_eq_add_succ k i)▸ih (i:=i) h
theorem uV(xs:List V):∀k:Nat,(dI k xs).length=xs.length:=by
 induction xs with
 |nil=>show λz=>rfl
 |cons y xs ih=>show λk=>congrArg (·+1) (ih (k+1))
def ND(e it c:È)(vs:List Ä)(i:Nat)(h:Ó):Prop:=(∃old,IsEnum h e it i old)/\h.IsTupleIter it c i/\h.IsTuple c vs.toArray
def Qe(e it c:È)(vs:List Ä)(i:Nat)(a:Ä)(h:Ó):Prop:=∃T,a=.ref T/\(∃x,IsEnumOut h e it ((i:Int)+1) x T)/\(h.IsTupleIter it c (i+1)/\h.IsTuple c vs.toArray)/\T≠e/\T≠it
theorem fG(x:h.IsTupleIter a t i):ed h a:=dN x λo ho hc hd=>⟨o,ho,iD hc hd (by decide)⟩
theorem ND.ns(st:ND e it c vs i h):∀b∈[e,it],ed h b:=qX (st.1.elim λz he=>⟨_,he,iD N N (by decide)⟩) (fG st.2.1)
theorem Qe.ns(m:Qe e it c vs i a h):∀b∈[e,it],ed h b:=wg m λz z k3 k4 z=>qX (k3.elim λz he=>⟨_,he,iD N N (by decide)⟩) (fG k4.1)
section
variable{A:Ñ}{E:Ä->Å->Prop}{J:List È}{H:ag}{s:Å}
theorem rZ.enum(hh:A.handled=Ã)(e it c:È)(xs:List V)(vs:List Ä)(OO:xs.length=vs.length)(Xo:e≠it)(Zk:e≠c)(Ze:c≠it):
  rZ A e (dI 0 xs) [] Æ xs vs [e,it] [c] (ND e it c vs) (Qe e it c vs):=by
 have D:=yU (A:=A.in1) hh it c Ze vs.toArray;have W:=WalksT.enumerateD D e Xo (λq=>(Ĉ.mp q).elim Xo λq=>Zk (O'.mp q)) G';have hz:(dI 0 xs).length=vs.toArray.size:=(uV xs 0).trans OO;show⟨λi h h' st hk=>W.frame i h h' st λb hb o x=>hk b ((Ĉ.mp hb).elim (λq=>.inl (Ĉ.mpr (.inl q))) λhb=>(Ĉ.mp hb).imp (λq=>J' _ (O'.mpr q)) id) o x,λi h st=>ND.ns st,λi a h m=>Qe.ns m,λi h st=>m8 (dN st.2.2 λo ho j hd=>hd.elim λn hd=>⟨o,_,n,ho,hd⟩),?_,?_,?_,W.self⟩
 ·intro i J H s Q E x st R hv hw hn hB hx hQ
  show W.item i s Q E (hz▸(Ġ.mp hx).1) st λT cb h' tk hP hsz hT hm M=>?_;show gq hP λt y hy q4=>aF (uU hx) λz vz q3=>aF (hv.get vz) λa ha hr=>?_;have M':Mv [e,it] J s.heap h':=Mv.all M;rw[q4]at hT;show hQ _ h' tk M' (R.mv M (ND.ns st) (λb hb=>hn b (.inl hb)) hB) (aW (C:=λx=>VR gg J h' x (.ref T)) q3 (.tup (l:=[.int ((0+i:Nat):Int),z]) (vs:=[.int i t,y]) hT (show 2<=al+1 by decide) (.cons (show VR gg J h' (.int ((0+i:Nat):Int)) (.int i t) by rw[ż];show .int _ _) (.one (sm (ha.symm.trans (ž.symm.trans hy))▸M'.vr (ND.ns st) hr))) (aX R (gT hsz)))) ⟨T,N,hm.1,hm.2.1,hm.2.2.1,hm.2.2.2⟩
 ·intro t ht i J H a s Q E m R hn hB hQ
  show Yv (id m) λT q2 m1 m2 m3 m4=>?_;have O:=Qe.ns m;rw[q2];show ht.elim (λq=>wi q λes k p q=>?_) λq=>absurd q.1 afb;rw[q];show W.go es k p i T s Q E ⟨m1,m2,m3,m4⟩ λh' Ú M=>hQ h' (Mv.all M) (R.mv M O (λb hb=>hn b (.inl hb)) hB) Ú
 ·intro J H s Q E st R hv hw hn hB hQ
  rw[hz]at st;show W.done s Q E st λh' tk M=>hQ h' tk (Mv.all M) (R.mv M (ND.ns st) (λb hb=>hn b (.inl hb)) hB)
end
section
variable{A:Ñ}{E:Ä->Å->Prop}{s:Å}
structure ZP where
 z:È
 TI:È
 TO:È
 i1:È
 i2:È
 l1:È
 l2:È
 vs:List Ä
 ws:List Ä
 b:Bool
def r4(b:Bool)(h:Ó)(it l:È)(i:Nat)(vs:List Ä):Prop:=match b with
 |true=>h.IsListIter it l i/\h.IsList l vs.toArray
 |false=>h.IsTupleIter it l i/\h.IsTuple l vs.toArray
theorem r4.at(x:r4 b h it l i vs)(h1:∀o,h.get? it=À o->h'.get? it=À o)(h2:∀o,h.get? l=À o->h'.get? l=À o):r4 b h' it l i vs:=by
 cases b
 ·show⟨x.1.at h1,x.2.at h2⟩
 ·show⟨x.1.at h1,x.2.at h2⟩
theorem r4.ext(x:r4 b h it l i vs)(e:Heap.ExtBut a h h')(n1:it≠a)(n2:l≠a):r4 b h' it l i vs:=x.at (λz q=>e _ _ n1 q) λz q=>e _ _ n2 q
theorem r4.item(x:r4 b s.heap it l i vs)(eJ:l≠it)(hx:vs[i]?=À v)(hQ:∀h',r4 b h' it l (i+1) vs->Heap.SameBut it s.heap h'->Q v {s with heap:=h'}):É mo A (Builtin.SmallTypes.nextOf (.ref it)) Q E s:=by
 cases b
 ·show dv x.1 x.2 (ž.trans hx) λh' hi hs=>hQ h' ⟨hi,x.2.extBut hs.extBut eJ⟩ hs
 ·show wpAny_nextOf_list_item x.1 x.2 (ž.trans hx) λh' hi hs=>hQ h' ⟨hi,x.2.extBut hs.extBut eJ⟩ hs
theorem r4.done(hh:A.handled=Ã)(x:r4 b s.heap it l i vs)(hx:vs[i]?=Ã)(hE:∀h' e,Heap.ExtBut it s.heap h'->(∃o,h'.get? e=À o/\o.cls=.type "StopIteration")->E (.ref e) {s with heap:=h'}):É mo A (Builtin.SmallTypes.nextOf (.ref it)) Q E s:=by
 cases b
 ·show dR hh x.1 x.2 (ž.trans hx) hE
 ·show wpAny_nextOf_list_end hh x.1 x.2 (ž.trans hx) hE
theorem r4.soft(x:r4 b h it l i vs):ed h it:=by
 cases b
 ·show fG x.1
 ·show dN x.1 λo ho hc hd=>⟨o,ho,iD hc hd (by decide)⟩
theorem r4.seq(x:r4 b h it l i vs):vF h l:=by
 cases b
 ·show dN x.2 λo ho z hd=>hd.elim λn hd=>⟨o,_,n,ho,hd⟩
 ·show dN x.2 λo ho z hd=>hd.elim λn hd=>⟨o,_,n,ho,hd⟩
structure ZS(c:ZP)(f:Ä)(k:Nat)(h:Ó):Prop where
 z:IsZip h c.z c.TI c.TO f
 p:î h c.TI (.ref c.i1) (.ref c.i2)
 i1:r4 c.b h c.i1 c.l1 k c.vs
 i2:h.IsTupleIter c.i2 c.l2 k
 t2:h.IsTuple c.l2 c.ws.toArray
def ZK(c:ZP)(h h':Ó):Prop:=∀b o,b≠c.z->b≠c.TO->b≠c.i1->b≠c.i2->h.get? b=À o->h'.get? b=À o
end
def jM(A:Ñ)(E:Ä->Å->Prop)(s:Å)(c:ZP)(k:Nat)(a:Ä)(b:Ä)(Q:Ä->Å->Prop):Prop:=∀(hh:A.handled=Ã) (D:ZipApart c.z c.TI c.TO c.i1 c.i2 c.l1 c.l2) (Ø:ZS c .none k s.heap) (sW:î s.heap c.TO a b) (hQ:∀x y,c.vs[k]?=À x->c.ws[k]?=À y->∀h',ZS c (ô s.heap.objs.size) (k+1) h'->î h' c.TO x y->î h' s.heap.objs.size x y->ZK c s.heap h'->Q (.ref s.heap.objs.size) {s with heap:=h'}) (hE:(c.vs[k]?=Ã\/c.ws[k]?=Ã)->∀h' e a' b',ZK c s.heap h'->î h' c.TO a' b'->(∃o,h'.get? e=À o/\o.cls=.type "StopIteration")->E (.ref e) {s with heap:=h'}),É mo A (Ď.«zip.__next__» ⟨[.ref c.z],[]⟩) (λhW s'=>∃v,hW=.done (.ret v)/\Q v s') E s
namespace zipT_nextH
def kc:=hc (U8 jM) ({},λz z=>True,dS,⟨0,0,0,0,0,0,0,[],[],Ê⟩,0,.none,.none,λz z=>True)
def A:=kc.1
def E:=kc.2.1
def s:=kc.2.2.1
def c:=kc.2.2.2.1
def k:=kc.2.2.2.2.1
def a:=kc.2.2.2.2.2.1
def b:=kc.2.2.2.2.2.2.1
def Q:=kc.2.2.2.2.2.2.2
theorem kt:jM A E s c k a b Q:=by
 intro hh D Ø sW hQ hE;have stop:∀{h:Ó} {e:È} {o:Obj} {f:Ä},IsZip h c.z c.TI c.TO f->h.get? e=À o->o.cls=.type "StopIteration"->e≠c.z:=λh1 h2 h3 q=>absurd (show Value.type "zip" = .type "StopIteration" from (congrArg Obj.cls (sm (h1.symm.trans (q▸h2)))).trans h3) (by decide);show É _ _ (field (.ref c.z) 2>>=_) _ _ _;show Â (ß Ø.z N (x:=.bool Ê) N ?_);show É _ _ (field (.ref c.z) 3>>=_) _ _ _;show Â (ß Ø.z N (x:=.ref c.TI) N (Â (æ Ø.p N ?_)));show É _ _ (Builtin.SmallTypes.ownedTupleIsFree (.ref c.z)>>=_) _ _ _;show Â ?_;unfold Builtin.SmallTypes.ownedTupleIsFree;show Â (ß Ø.z N (x:=.none) N (Ç ?_))
 simp only[if_true]
 show Â (ú (Â (ß Ø.z rfl (x:=.ref c.TO) rfl (Â (Ā Ø.z (by simp) λbF Bg kf=>?_)))));replace Bg:IsZip bF c.z c.TI c.TO .ellipsis:=Bg;show Â ?_
 simp only[adN,List.zipIdx_nil,adk,adx]
 show Â (Â (wpAny_onRaise ?_));show É _ _ (Builtin.SmallTypes.nextOf (.ref c.i1)>>=_) _ _ _;cases hx:c.vs[k]? with
 |none=>show Â (r4.done hh (Ø.i1.ext kf.extBut D.i1z D.l1z) hx λjx e lD he=>aF he λoe Ru EI=>?_);have MM:IsZip jx c.z c.TI c.TO .ellipsis:=lD _ _ D.i1z.symm Bg;show Ā MM (by simp) λdZ j gV=>hE (.inl hx) dZ e a b (λc o c1 j c3 j x=>gV.extBut _ _ c1 (lD _ _ c3 (kf.extBut _ _ c1 x))) (gV.extBut _ _ D.TOz (lD _ _ D.TOi1 (kf.extBut _ _ D.TOz sW))) ⟨oe,gV.extBut _ _ (stop MM Ru EI) Ru,EI⟩
 |some x=>
  show Â ((Ø.i1.ext kf.extBut D.i1z D.l1z).item D.l1i1 hx λjx QW lD=>Ç ?_);have Gf:î jx c.TO a b:=lD.extBut _ _ D.TOi1 (kf.extBut _ _ D.TOz sW);show Â (æ Gf N (Â (wpAny_updateSeq_pair Gf λdZ uk gV=>?_)));replace uk:î dZ c.TO x b:=uk;show Â (Ĕ (Ç (Â (Â (wpAny_onRaise ?_)))));show É _ _ (Builtin.SmallTypes.nextOf (.ref c.i2)>>=_) _ _ _;have Mp:=((Ø.i2.extBut kf.extBut D.i2z).extBut lD.extBut D.i12.symm).extBut gV.extBut D.TOi2.symm;have My:=((Ø.t2.extBut kf.extBut D.l2z).extBut lD.extBut D.l2i1).extBut gV.extBut D.l2TO;have MN:IsZip dZ c.z c.TI c.TO .ellipsis:=gV.extBut _ _ D.TOz.symm (lD.extBut _ _ D.i1z.symm Bg);have pq:∀b o,b≠c.z->b≠c.TO->b≠c.i1->s.heap.get? b=À o->dZ.get? b=À o:=λb o c1 c2 c3 e=>gV.extBut _ _ c2 (lD.extBut _ _ c3 (kf.extBut _ _ c1 e));cases hy:c.ws[k]? with
  |none=>show Â (dR hh Mp My (ž.trans hy) λlW e mT he=>aF he λoe Ru EI=>?_);have MO:IsZip lW c.z c.TI c.TO .ellipsis:=mT _ _ D.i2z.symm MN;show Ā MO (by simp) λjV j mU=>hE (.inr hy) jV e x b (λb o c1 c2 c3 c4 x=>mU.extBut _ _ c1 (mT _ _ c4 (pq b o c1 c2 c3 x))) (mU.extBut _ _ D.TOz (mT _ _ D.TOi2 uk)) ⟨oe,mU.extBut _ _ (stop MO Ru EI) Ru,EI⟩
  |some y=>
   show Â (dv Mp My (ž.trans hy) λlW QX mT=>Ç ?_);have Gg:î lW c.TO x b:=mT.extBut _ _ D.TOi2 uk;show Â (æ Gg N (Â (wpAny_updateSeq_pair Gg λjV ul mU=>?_)));replace ul:î jV c.TO x y:=ul;show Â (Ĕ (Ç (Ç (Â (æ ul N (Â (wpAny_newTuple ?_)))))));have hsz:jV.objs.size=s.heap.objs.size:=by rw[mU.1,mT.1,gV.1,lD.1,kf.1]
   have MP:IsZip jV c.z c.TI c.TO .ellipsis:=mU.extBut _ _ D.TOz.symm (mT.extBut _ _ D.i2z.symm MN);have Rm:ZK c s.heap jV:=λb o c1 c2 c3 c4 e=>mU.extBut _ _ c2 (mT.extBut _ _ c4 (pq b o c1 c2 c3 e));have eJ:=ū (ō MP);show É _ _ (Builtin.SmallTypes.ownedTupleHandOut (.ref c.z) (.ref jV.objs.size)>>=_) _ _ _;show Â ?_;unfold Builtin.SmallTypes.ownedTupleHandOut;have RE:IsZip (jV.push {cls:=.type "tuple",data:=.seq #[x,y]}) c.z c.TI c.TO .ellipsis:=N' _ MP;show Â (Ā RE (by simp) λKd GG Bd=>?_);replace GG:IsZip Kd c.z c.TI c.TO (ô jV.objs.size):=GG;show Ā GG (by simp) λGH Bh MH=>?_;replace Bh:IsZip GH c.z c.TI c.TO (ô jV.objs.size):=Bh;have up:∀b o,b≠c.z->jV.get? b=À o->GH.get? b=À o:=λb o c1 e=>MH.extBut _ _ c1 (Bd.extBut _ _ c1 (N' _ e));have Mr:î GH jV.objs.size x y:=MH.extBut _ _ eJ (Bd.extBut _ _ eJ (Ł _ rfl));have K:ZK c s.heap GH:=λb o c1 c2 c3 c4 e=>up b o c1 (Rm b o c1 c2 c3 c4 e);rw[hsz]at Bh Mr;show Ç ⟨_,rfl,?_⟩;show Q (.ref jV.objs.size) _;rw[hsz];show hQ x y hx hy GH ⟨Bh,K _ _ D.TIz D.TITO D.TIi1 D.TIi2 Ø.p,(((QW.ext gV.extBut D.TOi1.symm D.l1TO).ext mT.extBut D.i12 D.l1i2).ext mU.extBut D.TOi1.symm D.l1TO).at (λo e=>up _ o D.i1z e) λo e=>up _ o D.l1z e,(QX.extBut mU.extBut D.TOi2.symm).at λo e=>up _ o D.i2z e,Ø.t2.at λo e=>K _ o D.l2z D.l2TO D.l2i1 D.l2i2 e⟩ (up _ _ D.TOz ul) Mr K
end zipT_nextH
theorem Ey:jM A E s c k a b Q:=hk (P:=U8 jM) zipT_nextH.kt (A,E,s,c,k,a,b,Q)
section
variable{A:Ñ}{E:Ä->Å->Prop}{s:Å}
theorem oB(hh:A.handled=Ã)(D:ZipApart c.z c.TI c.TO c.i1 c.i2 c.l1 c.l2)(Ø:ZS c .none k s.heap)(sW:î s.heap c.TO a b)
  (hQ:∀x y,c.vs[k]?=À x->c.ws[k]?=À y->∀h',ZS c (ô s.heap.objs.size) (k+1) h'->î h' c.TO x y->î h' s.heap.objs.size x y->ZK c s.heap h'->Q (À (.ref s.heap.objs.size)) {s with heap:=h'})
  (hE:(c.vs[k]?=Ã\/c.ws[k]?=Ã)->∀h' a' b',ZK c s.heap h'->î h' c.TO a' b'->Q Ã {s with heap:=h'}):É mo A (ı (.ref c.z)) Q E s:=by
 have hT:s.TypeIs (.ref c.z) "zip" := ⟨_,Ø.z,N⟩;unfold ı
 show Â (İ (ð (name:=ϸ "__next__") hT F.slot_zip_next
  (ý F.slot_zip_next hT F.entry_zip_next (Ey hh D Ø sW (λx y hx hy h' a1 a2 a3 a4=>Ç (hQ x y hx hy h' a1 a2 a3 a4)) λoq h' e a' b' hk hp he=>?_) (F.args_zip_next_1 _))))
 show aF he λo ho hc=>Â (wpAny_isInstance (T := "StopIteration") (b:=Æ) ⟨o,ho,hc⟩ isSubtype_stop (Ç (hE oq _ a' b' hk hp)))
noncomputable def Tr(b:Bool):String:=if b then "list_iterator" else "tuple_iterator"
def PE(b:Bool)(h:Ó)(l:È)(xs:List Ä):Prop:=match b with
 |true=>h.IsList l xs.toArray
 |false=>h.IsTuple l xs.toArray
theorem Kj(ht:PE b s.heap l xs)(hQ:Q (.ref s.heap.objs.size) {s with heap:=s.heap.push {cls:=.type (Tr b),data:=.fields #[.ref l,.int 0 0]}}):É (model prog w) A (pyIter (.ref l)) Q E s:=by
 cases b
 ·show ā ht hQ
 ·show ĭ ht hQ
theorem PE.sqs(ht:PE b h l xs)(g:h'.get? a=À {cls:=.type (Tr b),data:=.fields #[.ref l,.int 0 0]})(k:∀c o,h.get? c=À o->h'.get? c=À o):r4 b h' a l 0 xs:=by
 cases b
 ·show⟨⟨_,g,N,N⟩,ht.at λo e=>k _ o e⟩
 ·show⟨⟨_,g,N,N⟩,ht.at λo e=>k _ o e⟩
abbrev Tw(b:Bool)(h:Ó)(l1:È):Ó:=h.push {cls:=.type (Tr b),data:=.fields #[.ref l1,.int 0 0]}
abbrev Tx(b:Bool)(h:Ó)(l1 l2:È):Ó:=(Tw b h l1).push {cls:=.type "tuple_iterator",data:=.fields #[.ref l2,.int 0 0]}
abbrev Tz(b:Bool)(h:Ó)(l1 l2:È):Ó:=(Tx b h l1 l2).push {cls:=.type "tuple",data:=.seq #[.ref h.objs.size,.ref (Tw b h l1).objs.size]}
abbrev TA(b:Bool)(h:Ó)(l1 l2:È):Ó:=(Tz b h l1 l2).push {cls:=.type "tuple",data:=.seq #[.none,.none]}
abbrev Ny(b:Bool)(h:Ó)(l1 l2:È):Ó:=(TA b h l1 l2).push {cls:=.type "zip",data:=.fields #[.none,.bool Ê,.bool Ê,.ref (Tx b h l1 l2).objs.size,.ref (Tz b h l1 l2).objs.size]}
theorem zW(b:Bool)(l1 l2:È)(xs:List Ä)(ys:Array Ä):
  Meets (Ď.«zip.__new__» ⟨[.type "zip",.ref l1,.ref l2],[]⟩) (λz R s=>PE b s.heap l1 xs/\s.heap.IsTuple l2 ys /\
   R (.ok (.ret (.ref (TA b s.heap l1 l2).objs.size))) {s with heap:=Ny b s.heap l1 l2}):=
 .of_wp λprog w A R s h=>by
  obtain ⟨hp,g,d,tk,os⟩:=s;obtain ⟨hl1,hl2,h⟩:=h;have ON:=sub_zip;have YN:PE b (Shared.heap ⟨hp,g,d,tk,os⟩) l1 xs:=hl1;have YO:Heap.IsTuple (Shared.heap ⟨hp.push {cls:=.type (Tr b),data:=.fields #[.ref l1,.int 0 0]},g,d,tk,os⟩) l2 ys:=Heap.IsTuple.push hl2 _
  wp_walk using Kj YN,ā YO
  show⟨_,N,h⟩
theorem sK(hl1:PE b s.heap l1 xs)(hl2:s.heap.IsTuple l2 ys)
  (h:∀h',IsZip h' (s.heap.objs.size+4) (s.heap.objs.size+2) (s.heap.objs.size+3) .none->î h' (s.heap.objs.size+2) (.ref s.heap.objs.size) (.ref (s.heap.objs.size+1)) ->
   î h' (s.heap.objs.size+3) .none .none->r4 b h' s.heap.objs.size l1 0 xs->h'.IsTupleIter (s.heap.objs.size+1) l2 0->h'.objs.size=s.heap.objs.size+5 ->
   (∀c o,s.heap.get? c=À o->h'.get? c=À o)->Q (.ref (s.heap.objs.size+4)) {s with heap:=h'}) :
  É mo A (Á (.type "zip") [.ref l1,.ref l2]) Q E s:=by
 show callType_new F.called_zip (by decide) (F.typeCall_zip_2 _ _) (F.newCall_zip_2 _ _) (λobj=>F.args_object_init_3 obj _ _) F.entry_zip_new
  (zW b l1 l2 xs ys) ⟨hl1,hl2,?_⟩
 have z1:(Tw b s.heap l1).objs.size=s.heap.objs.size+1:=ϐ ..;have z2:(Tx b s.heap l1 l2).objs.size=s.heap.objs.size+2:=by rw[ϐ,z1]
 have z3:(Tz b s.heap l1 l2).objs.size=s.heap.objs.size+3:=by rw[ϐ,z2]
 have z4:(TA b s.heap l1 l2).objs.size=s.heap.objs.size+4:=by rw[ϐ,z3]
 have z5:(Ny b s.heap l1 l2).objs.size=s.heap.objs.size+5:=by rw[ϐ,z4]
 have g5:(Ny b s.heap l1 l2).get? (TA b s.heap l1 l2).objs.size=À _:=Ł _ N;have g4:(Ny b s.heap l1 l2).get? (Tz b s.heap l1 l2).objs.size=À _:=N' _ (Ł _ N);have g3:(Ny b s.heap l1 l2).get? (Tx b s.heap l1 l2).objs.size=À _:=N' _ (N' _ (Ł _ N));have g2:(Ny b s.heap l1 l2).get? (Tw b s.heap l1).objs.size=À _:=N' _ (N' _ (N' _ (Ł _ N)));have g1:(Ny b s.heap l1 l2).get? s.heap.objs.size=À _:=N' _ (N' _ (N' _ (N' _ (Ł _ N))));show _/\_;rw[z2,z3,z4]at g5;rw[z1,z2]at g3;rw[z3]at g4;rw[z1]at g2;rw[z4]
 have up:∀c o,s.heap.get? c=À o->(Ny b s.heap l1 l2).get? c=À o:=λc o x=>
  N' _ (N' _ (N' _ (N' _ (N' _ x))))
 show⟨⟨_,g5,N⟩,h _ g5 g3 g4 (hl1.sqs g1 up) ⟨_,g2,N,N⟩ z5 up⟩
end
theorem pa:∀{ys:List V} {i:Nat} {p:V},(bz xs ys)[i]?=À p->∃x y,xs[i]?=À x/\ys[i]?=À y/\p=.tup [x,y]:=by
 induction xs with
 |nil=>show λh=>no h
 |cons x xs ih=>
  intro ys i p h;cases ys with
  |nil=>show no h
  |cons y ys=>
   cases i with
   |zero=>show⟨x,y,N,N,(sm h).symm⟩
   |succ i=>show ih (ys:=ys) (i:=i) h
theorem o9(xs:List V):∀ys:List V,xs.length<=(bz xs ys).length\/ys.length<=(bz xs ys).length:=by
 induction xs with
 |nil=>show λz=>.inl (Đ _)
 |cons x xs ih=>
  intro ys;cases ys with
  |nil=>show .inr (Đ _)
  |cons y ys=>show(ih ys).imp š š
section
variable{A:Ñ}{E:Ä->Å->Prop}{J:List È}{H:ag}{s:Å}
theorem bq.split:∀{vs:List Ä},l.length=vs.length->bq gg J h (l++m) (vs++ws)->bq gg J h l vs/\bq gg J h m ws:=by
 induction l with
 |nil=>intro vs e x;rw[ϰ.mp e.symm]at x ⊢;show⟨.nil,x⟩
 |cons v l ih=>
  intro vs e x;cases vs with
  |nil=>show nomatch e
  |cons a vs=>show x.consE λa' us q hv hr=>?_;rw[<-(List.cons.inj q).1]at hv;rw[<-(List.cons.inj q).2]at hr;show aO (ih (ad2.inj e) hr) λh1 h2=>⟨.cons hv h1,h2⟩
theorem ar.mvOwn{wr:List È}{TO:È}{r:Nat}{x y:Ä}{h h':Ó}(R:ar gg J H h)(hr:J[r]?=À TO)(ho:H[r]?=À .own)(M:∀b o,b∉wr->b≠TO->h.get? b=À o->h'.get? b=À o)(hw:∀b∈wr,ed h b)(hn:∀b∈wr,b∉J)(hB:∀b∈wr,gg.B.get? b=Ã)
  (hp:î h' TO x y):ar gg J H h'/\Mv wr J h h':=by
 have Q3:TO∈J:=ĥ hr;have M':Mv wr J h h':=λb o h1 h2 e=>M b o h1 (λq=>h2 (q▸Q3)) e;show⟨⟨λb o e=>M b o (λhb=>no ((hB b hb).symm.trans e)) (λq=>no ((R.fresh _ Q3).symm.trans (q▸e))) (R.base b o e),R.fresh,R.len,R.nodup,λi a m h1 h2=>?_,R.tabs⟩,M'⟩;by_cases hi:i=r
 ·rw[hi]at h1 h2
  apply fv (sm (hr.symm.trans h1));apply fv (sm (ho.symm.trans h2));show .own hp
 ·have ha:a≠TO:=λq=>hi (xf R.nodup h1 (q▸hr))
  show(R.objs i a m h1 h2).stepT (λz z e=>e) (M'.tup hw) λo e=>M _ o (λhb=>hn _ hb (ĥ h1)) ha e
theorem ZS.ns(Ø:ZS c f k h):∀b∈[c.z,c.i1,c.i2],ed h b:=λb hb=>(Ĉ.mp hb).elim (λe=>e▸⟨_,Ø.z,iD N N (by decide)⟩) (qX Ø.i1.soft (fG Ø.i2) b)
def ZM(c:ZP)(k:Nat)(a:Ä)(h:Ó):Prop:=∃T,a=.ref T/\ZS c (ô T) (k+1) h
theorem LA(x:h.IsTuple t xs):vF h t:=dN x λo ho z hd=>hd.elim λn hd=>⟨o,_,n,ho,hd⟩
theorem ZK.mv(K:ZK c h h'):∀b o,b∉[c.z,c.i1,c.i2]->b≠c.TO->h.get? b=À o->h'.get? b=À o:=λb o hb hT e=>
 K b o (λq=>hb (Ĉ.mpr (.inl q))) hT (λq=>hb (J' _ (Ĉ.mpr (.inl q)))) (λq=>hb (J' _ (J' _ (O'.mpr q)))) e
structure ZI(c:ZP)(r:Nat)(xs ys:List V)(J:List È)(H:ag)(h:Ó):Prop where
 hr:J[r]?=À c.TO
 ho:H[r]?=À .own
 p:∃x y,î h c.TO x y
 x:bq gg J h xs c.vs
 y:bq gg J h ys c.ws
theorem rZ.zip(hh:A.handled=Ã)(c:ZP)(r:Nat)(xs ys:List V)(OO:xs.length=c.vs.length)(Z6:ys.length=c.ws.length)(D:ZipApart c.z c.TI c.TO c.i1 c.i2 c.l1 c.l2):
  rZ A c.z (bz xs ys) [(r,.own)] Æ (.ref r::(xs++ys)) (.ref c.TO::(c.vs++c.ws)) [c.z,c.i1,c.i2] [c.TI,c.l1,c.l2] (ZS c .none) (ZM c):=by
 have Jl:∀{J:List È} {H:ag} {h:Ó},ar gg J H h->bq gg J h (.ref r::(xs++ys)) (.ref c.TO::(c.vs++c.ws))->cA H [(r,.own)]->ZI c r xs ys J H h:=λ{J H h} R hv hw=>by
  show hv.consE λa us q hv Ry=>?_
  have hr:J[r]?=À c.TO:=by show aF (vR N hv) λd q1 q2=>?_;have:=(List.cons.inj q).1.trans q1;show Value.ref.inj this▸q2
  show aO (bq.split OO ((List.cons.inj q).2▸Ry)) λhx hy=>?_;have h1:=tI hw;show⟨hr,h1,?_,hx,hy⟩;have:=R.objs _ _ _ hr h1;cases this with
  |own ho=>show⟨_,_,ho⟩
 show⟨λi h h' st hk=>⟨hk _ (.inl G') _ st.z,hk _ (.inr G') _ st.p,st.i1.at (λo e=>hk _ (.inl (J' _ G')) o e) λo e=>hk _ (.inr (J' _ G')) o e,st.i2.at λo e=>hk _ (.inl (J' _ (J' _ G'))) o e,
   st.t2.at λo e=>hk _ (.inr (J' _ (J' _ G'))) o e⟩,
  λi h st=>ZS.ns st,λi a h m=>m.elim λT m=>ZS.ns m.2,λi h st b hb=>(Ĉ.mp hb).elim (λe=>e▸⟨_,_,_,st.p,N⟩) (qX st.i1.seq (LA st.t2) b),?_,?_,?_,λi s Q E st hQ=>ş st.z hQ⟩
 ·intro i J H s Q E x st R hv hw hn hB hx hQ
  have I:=Jl R hv hw;show fu (pa hx) λp q hp hq q5=>aF (I.x.get hp) λap PK ZR=>aF (I.y.get hq) λaq Xg VQ=>mM I.p λa b sW=>oB hh D st sW (λx' y' GD RC h' a1 a2 a5 hk=>aO (R.mvOwn I.hr I.ho hk.mv (ZS.ns st) (λb hb=>hn b (.inl hb)) hB a2) λR' M=>hQ _ h' s.toks M R' (aW (C:=λx=>VR gg J h' x _) q5 (.tup (l:=[p,q]) (vs:=[x',y']) ⟨_,a5,N,_,N⟩ (show 2<=al+1 by decide) (.cons (sm (PK.symm.trans GD)▸M.vr (ZS.ns st) ZR) (.one (sm (Xg.symm.trans RC)▸M.vr (ZS.ns st) VQ))) (aX R (aH _)))) ⟨_,N,a1⟩) λoq=>oq.elim (λq=>no (q.symm.trans PK)) λq=>no (q.symm.trans Xg)
 ·intro t ht i J H a s Q E m R hn hB hQ
  show aF m λT q2 Ø=>?_;rw[q2];show ht.elim (λq=>wi q λes k p q=>?_) λq=>absurd q.1 afb;rw[q];show wpAny_letOwnedTupleGo_zip Ø.z λh' s8 lV=>?_;have M:∀b o,b∉[c.z,c.i1,c.i2]->s.heap.get? b=À o->h'.get? b=À o:=λb o hb e=>lV.extBut b o (λq=>hb (Ĉ.mpr (.inl q))) e;show hQ h' (Mv.all M) (R.mv M (ZS.ns Ø) (λb hb=>hn b (.inl hb)) hB) ⟨s8,lV.extBut _ _ D.TIz Ø.p,Ø.i1.ext lV.extBut D.i1z D.l1z,Ø.i2.extBut lV.extBut D.i2z,Ø.t2.extBut lV.extBut D.l2z⟩
 ·intro J H s Q E st R hv hw hn hB hQ
  have I:=Jl R hv hw;show mM I.p λa b sW=>?_;have oq:=o9 xs ys;rw[OO,Z6]at oq;show oB hh D st sW (λx y hx hy=>oq.elim (λq=>no ((ϭ q).symm.trans hx)) λq=>no ((ϭ q).symm.trans hy)) λj h' a' b' hk hp=>?_;show aO (R.mvOwn I.hr I.ho hk.mv (ZS.ns st) (λb hb=>hn b (.inl hb)) hB hp) λR' M=>hQ h' s.toks M R'
end
open AutoSeq1 (wpAny_loadPart')
theorem HA(h:∀b,Q b s):É (model prog w) A (pure a) Q E s:=Ç (h a)
theorem w8(l:È)(cO:Array Ä)(n:Nat)(Ut:Option È)(sl:Array (Option Ä)):
  Meets (Ď.«enumerate.__new__» ⟨[.type "enumerate",.ref l],[]⟩) (λz R s=>s.heap.get? l=À {cls:=.type "tuple",dict:=Ut,data:=.seq cO n,slots:=sl} /\
   R (.ok (.ret (.ref (s.heap.push {cls:=.type "tuple_iterator",data:=.fields #[.ref l,.int 0 0]}).objs.size)))
    {s with heap:=(s.heap.push {cls:=.type "tuple_iterator",data:=.fields #[.ref l,.int 0 0]}).push {cls:=.type "enumerate",data:=.fields #[.none,.bool Ê,.ref s.heap.objs.size,ô 0,.none,.none]}}):=
 .of_wp λprog w A R s h=>by
  obtain ⟨hp,g,d,tk,os⟩:=s;show aO h λhl h=>?_;have ON:=sub_enumerate;have hL:Heap.IsTuple (Shared.heap ⟨hp,g,d,tk,os⟩) l cO:=⟨_,hl,rfl,n,rfl⟩
  wp_walk using ũ hl
  show wpAny_stack_any λst=>HA λbb=>?_;cases bb
  ·wp_walk using ũ hl,ā hL
   show⟨_,N,h⟩
  ·wp_walk using ũ hl,ā hL
   show⟨_,N,h⟩
section
variable{A:Ñ}{E:Ä->Å->Prop}{s:Å}
theorem yP(hL:s.heap.IsTuple l cO)
  (h:∀h',IsEnum h' (s.heap.objs.size+1) s.heap.objs.size 0 .none->h'.IsTupleIter s.heap.objs.size l 0->h'.objs.size=s.heap.objs.size+2 ->
   (∀b o,s.heap.get? b=À o->h'.get? b=À o)->Q (.ref (s.heap.objs.size+1)) {s with heap:=h'}) :
  É mo A (Á (.type "enumerate") [.ref l]) Q E s:=by
 obtain ⟨⟨c,Ut,dt,sl⟩,hl,hc,n,hd⟩:=hL;replace hc:c=.type "tuple" := hc;replace hd:dt=.seq cO n:=hd;subst hc hd
 show callType_new F.called_enumerate (by decide) (F.typeCall_enumerate_1 _) (F.newCall_enumerate_1 _) (λobj=>F.args_object_init_2 obj _) F.entry_enumerate_new
  (w8 l cO n Ut sl) ⟨hl,?_⟩
 have hz:(s.heap.push {cls:=.type "tuple_iterator",data:=.fields #[.ref l,.int 0 0]}).objs.size=s.heap.objs.size+1:=ϐ ..;show _/\_;rw[hz]
 have he:IsEnum ((s.heap.push {cls:=.type "tuple_iterator",data:=.fields #[.ref l,.int 0 0]}).push
   {cls:=.type "enumerate",data:=.fields #[.none,.bool Ê,.ref s.heap.objs.size,ô 0,.none,.none]}) (s.heap.objs.size+1) s.heap.objs.size 0 .none:=by
  have:=Ł (s.heap.push {cls:=.type "tuple_iterator",data:=.fields #[.ref l,.int 0 0]})
   (o:={cls:=.type "enumerate",data:=.fields #[.none,.bool Ê,.ref s.heap.objs.size,ô 0,.none,.none]}) N
  rw[hz]at this;show this
 show⟨⟨_,he,N⟩,h _ he ⟨_,N' _ (Ł _ N),N,N⟩ (by rw[ϐ,hz]) λb o x=>N' _ (N' _ x)⟩
end
section
variable{A:Ñ}{E:Ä->Å->Prop}{J:List È}{H:ag}{s:Å}
theorem H9(hh:A.handled=Ã)(S:SE J s.heap aT Ì.heap)(R:ar gg aT H Ì.heap)(hx:VR gg aT Ì.heap (.tup xs) a)(hS:bJ s Ì):
  É mo A (Á (.type "enumerate") [a]) (Co A J s (dI 0 xs) [] Æ H) E Ì:=by
 cases hx with
 |@tup _ c vs ht hz hv hn=>
  have cE:c<Ì.heap.objs.size:=by show aF ht λz e z=>?_;show ō e
  show yP ht λh' he sZ hsz hk=>?_;have fr:∀b∈[Ì.heap.objs.size+1,Ì.heap.objs.size],Ì.heap.get? b=Ã:=qX (gT (ϝ _)) (aH _);show⟨aT,S.trans (SE.keeps _ hk),R.keeps hk,hS,λE Q h=>?_⟩;show wpAny_pyIter_enum he (h _ xs vs _ _ _ _ h' (rZ.enum hh (Ì.heap.objs.size+1) Ì.heap.objs.size c xs vs hv.length (ū (Ż _)) (ū (ace cE)) (ŉ cE)) ⟨⟨_,he⟩,sZ,ht.at λo e=>hk _ o e⟩ (λz z e=>e) (hv.step R (SE.keeps _ hk)) (λb hb=>S.back (fr b hb)) (R6 (λb hb=>aX R (fr b hb)) (m8 hn)) λb hb=>aV R (fr b hb))
theorem Lr(hh:A.handled=Ã)(S:SE J s.heap aT Ì.heap)(R:ar gg aT H Ì.heap)(hx:VR gg aT Ì.heap (.tup xs) a)(hy:VR gg aT Ì.heap (.tup ys) b)(hS:bJ s Ì):
  É mo A (Á (.type "zip") [a,b]) (Co A J s (bz xs ys) [(H.length,.own)] Æ (H++[.own])) E Ì:=by
 cases hx with
 |@tup _ l1 vs ht hz hv hn=>
  cases hy with
  |@tup _ l2 ws hu s8 hw hm=>
   have Gv:l1<Ì.heap.objs.size:=by show aF ht λz e z=>?_;show ō e
   have Gw:l2<Ì.heap.objs.size:=by show aF hu λz e z=>?_;show ō e
   show sK (b:=Ê) ht hu λh' vz UK sW Vp Vq hsz hk=>?_;have fr:∀k,Ì.heap.get? (Ì.heap.objs.size+k)=Ã:=λk=>gT (Ň _ _);show aO (R.moreOwn hk (fr 3) (aV R (fr 3)) sW) λR' S'=>?_;have D:=zipApart_new Gv Gw;have qP:∀k,k≠3->Ì.heap.objs.size+k∉aT++[Ì.heap.objs.size+3]:=λk Gs pA=>(Ģ.mp pA).elim (aX R (fr k)) λq=>Gs (add (O'.mp q));have Rv:∀c,c<Ì.heap.objs.size->c∉aT->c∉aT++[Ì.heap.objs.size+3]:=λc hc Q8 pA=>(Ģ.mp pA).elim Q8 λq=>absurd hc (O'.mp q▸ľ.mpr (Ň _ _));have w3:∀b∈[Ì.heap.objs.size+4,Ì.heap.objs.size,Ì.heap.objs.size+1],Ì.heap.get? b=Ã:=λb hb=>(Ĉ.mp hb).elim (λe=>e▸fr 4) (qX (P:=λb=>Ì.heap.get? b=Ã) (aH _) (fr 1) b);show⟨aT++[Ì.heap.objs.size+3],S.trans S',R',hS,λE Q h=>?_⟩;have zD:(aT++[Ì.heap.objs.size+3])[H.length]?=À (Ì.heap.objs.size+3):=by rw[<-R.len];simp
   show ş vz (h _ _ _ _ _ _ _ h' (rZ.zip hh ⟨Ì.heap.objs.size+4,Ì.heap.objs.size+2,Ì.heap.objs.size+3,Ì.heap.objs.size,Ì.heap.objs.size+1,l1,l2,vs,ws,Ê⟩ H.length xs ys hv.length hw.length D)
    ⟨vz,UK,Vp,Vq,hu.at λo e=>hk _ o e⟩ (λz z e=>e) (.cons (.ref zD) ((hv.step R S').append (hw.step R S'))) (λb hb=>S.back (w3 b hb))
    (R6 (λb hb=>(Ĉ.mp hb).elim (λe=>e▸qP 4 (by decide)) (qX (P:=λb=>b∉aT++[Ì.heap.objs.size+3]) (qP 0 (by decide)) (qP 1 (by decide)) b)) λb hb=>(Ĉ.mp hb).elim (λe=>e▸qP 2 (by decide)) (qX (P:=λb=>b∉aT++[Ì.heap.objs.size+3]) (Rv _ Gv hn) (Rv _ Gw hm) b)) λb hb=>aV R (w3 b hb))
end
structure ZB(c:ZP)(T k:Nat)(h:Ó):Prop where
 z:∃u,h.get? c.z=À {cls:=.type "zip",data:=.fields #[ô T,.bool u,.bool Ê,.ref c.TI,.ref c.TO]}
 t:∃x y,î h T x y
 p:î h c.TI (.ref c.i1) (.ref c.i2)
 i1:r4 c.b h c.i1 c.l1 k c.vs
 i2:h.IsTupleIter c.i2 c.l2 k
 t2:h.IsTuple c.l2 c.ws.toArray
def SI(c:ZP)(h h':Ó):Prop:=∀b o,b≠c.z->b≠c.i1->b≠c.i2->h.get? b=À o->h'.get? b=À o
section
variable{A:Ñ}{E:Ä->Å->Prop}{s:Å}{c:ZP}{T k:Nat}{Q:Ä->Å->Prop}
theorem yj{Q:Option Obj->Å->Prop}(h:Q (s.heap.get? a) s):É mo A (loadIfAlive a) Q E s:=λz z z=>h
theorem Ev(hh:A.handled=Ã)(D:ZipApart c.z c.TI c.TO c.i1 c.i2 c.l1 c.l2)(hT:T≠c.z/\T≠c.i1/\T≠c.i2)(Ø:ZB c T k s.heap)
  (hQ:∀x y,c.vs[k]?=À x->c.ws[k]?=À y->∀h',ZB c T (k+1) h'->î h' s.heap.objs.size x y->SI c s.heap h'->Q (.ref s.heap.objs.size) {s with heap:=h'})
  (hE:(c.vs[k]?=Ã\/c.ws[k]?=Ã)->∀h' e,SI c s.heap h'->(∃o,h'.get? e=À o/\o.cls=.type "StopIteration")->E (.ref e) {s with heap:=h'}) :
  É mo A (Ď.«zip.__next__» ⟨[.ref c.z],[]⟩) (λhW s'=>∃v,hW=.done (.ret v)/\Q v s') E s:=by
 show Ø.z.elim λu hz=>mM Ø.t λtx ty ht=>?_;show É _ _ (field (.ref c.z) 2>>=_) _ _ _;show Â (ß hz N (x:=.bool Ê) N ?_);show É _ _ (field (.ref c.z) 3>>=_) _ _ _;show Â (ß hz N (x:=.ref c.TI) N (Â (æ Ø.p N ?_)));show É _ _ (Builtin.SmallTypes.ownedTupleIsFree (.ref c.z)>>=_) _ _ _;show Â (Ï (Q:=λb s'=>b=Ê/\∃h1,s'={s with heap:=h1}/\h1.get? c.z=À {cls:=.type "zip",data:=.fields #[ô T,.bool Æ,.bool Ê,.ref c.TI,.ref c.TO]}/\Heap.SameBut c.z s.heap h1) ?_ (λb s' h=>aO h λq h=>dN h λh1 q1 vz s4=>?_) λj j x=>x)
 ·unfold Builtin.SmallTypes.ownedTupleIsFree
  show Â (ß hz N (x:=ô T) N ?_);show É _ _ (loadIfAlive T>>=_) _ _ _;show Â (yj ?_);rw[show s.heap.get? T=_ from ht];show É _ _ (field (.ref c.z) 1>>=_) _ _ _;show Â (ß hz N (x:=.bool u) N ?_);cases u with
  |true=>show Ç ⟨N,s.heap,N,hz,⟨N,λj j=>rfl⟩⟩
  |false=>show É _ _ (setField (.ref c.z) 1 (.bool Æ)>>=_) _ _ _;show Â (Ā hz (by simp) λh1 vz s4=>Ç ⟨rfl,h1,rfl,vz,s4⟩)
 rw[q,q1]
 simp only[<-Array.forIn_toList,adk,adx]
 show Â (Â (Â (à ?_)));show É _ _ (Builtin.SmallTypes.nextOf (.ref c.i1)>>=_) _ _ _;have Z1:=Ø.i1.ext s4.extBut D.i1z D.l1z;cases hx:c.vs[k]? with
 |none=>show Â (r4.done hh Z1 hx λh2 e hs2 he=>hE (.inl hx) h2 e (λb o c1 c2 j x=>hs2 _ _ c2 (s4.extBut _ _ c1 x)) he)
 |some x=>
  show Â (Z1.item D.l1i1 hx λh2 z2 hs2=>Ç (Ç (Â (Â (à ?_)))));show É _ _ (Builtin.SmallTypes.nextOf (.ref c.i2)>>=_) _ _ _;have Z2:=(Ø.i2.extBut s4.extBut D.i2z).extBut hs2.extBut D.i12.symm;have T2:=(Ø.t2.extBut s4.extBut D.l2z).extBut hs2.extBut D.l2i1;cases hy:c.ws[k]? with
  |none=>show Â (dR hh Z2 T2 (ž.trans hy) λh3 e Db he=>?_);show hE (.inr hy) h3 e (λb o c1 c2 c3 x=>Db _ _ c3 (hs2.extBut _ _ c2 (s4.extBut _ _ c1 x))) he
  |some y=>
   show Â (dv Z2 T2 (ž.trans hy) λh3 z3 Db=>Ç ?_);show Ç (Ç (Â (wpAny_newTuple ?_ (show 2<=ê by decide))));have up:∀b o,b≠c.z->b≠c.i1->b≠c.i2->s.heap.get? b=À o->h3.get? b=À o:=λb o c1 c2 c3 x=>Db.extBut _ _ c3 (hs2.extBut _ _ c2 (s4.extBut _ _ c1 x));have hsz:h3.objs.size=s.heap.objs.size:=by rw[Db.1,hs2.1,s4.1]
   show É _ _ (ret (.ref h3.objs.size)) _ _ _;show Ç ⟨_,N,?_⟩;rw[hsz];have pu:∀b o,h3.get? b=À o->(h3.push {cls:=.type "tuple",data:=.seq [x,y].toArray}).get? b=À o:=λb o e=>N' _ e;have K:SI c s.heap (h3.push {cls:=.type "tuple",data:=.seq [x,y].toArray}):=λb o c1 c2 c3 e=>pu b o (up b o c1 c2 c3 e);show hQ x y hx hy _ ⟨⟨Æ,pu _ _ (Db.extBut _ _ D.i2z.symm (hs2.extBut _ _ D.i1z.symm vz))⟩,⟨tx,ty,K _ _ hT.1 hT.2.1 hT.2.2 ht⟩,K _ _ D.TIz D.TIi1 D.TIi2 Ø.p,(z2.ext Db.extBut D.i12 D.l1i2).at (λo e=>pu _ o e) λo e=>pu _ o e,z3.at λo e=>pu _ o e,(T2.extBut Db.extBut D.l2i2).at λo e=>pu _ o e⟩ ?_ K;rw[<-hsz];show Ł _ N
theorem ZB.ns(Ø:ZB c T k h):∀b∈[c.z,c.i1,c.i2],ed h b:=λb hb=>(Ĉ.mp hb).elim (λe=>e▸Ø.z.elim λy hz=>⟨_,hz,iD N N (by decide)⟩) (qX Ø.i1.soft (fG Ø.i2) b)
def ZW(c:ZP)(k:Nat)(h:Ó):Prop:=(k=0/\ZS c .none k h)\/∃T,ZB c T k h/\T≠c.z/\T≠c.i1/\T≠c.i2
theorem ZW.ns(Ø:ZW c k h):∀b∈[c.z,c.i1,c.i2],ed h b:=Ø.elim (λz=>ZS.ns z.2) λz=>z.elim λy z=>ZB.ns z.1
theorem ZW.zT(Ø:ZW c k s.heap):s.TypeIs (.ref c.z) "zip" := Ø.elim (λz=>⟨_,z.2.z,N⟩) λz=>z.elim λy z=>z.1.z.elim λy hz=>⟨_,hz,N⟩
theorem ZW.next{Q:Option Ä->Å->Prop}(hh:A.handled=Ã)(D:ZipApart c.z c.TI c.TO c.i1 c.i2 c.l1 c.l2)(Ø:ZW c k s.heap)(sW:î s.heap c.TO a b)
  (hQ:∀x y,c.vs[k]?=À x->c.ws[k]?=À y->∀h' a' b',ZW c (k+1) h'->î h' c.TO a' b'->î h' s.heap.objs.size x y->ZK c s.heap h'->Q (À (.ref s.heap.objs.size)) {s with heap:=h'})
  (hE:(c.vs[k]?=Ã\/c.ws[k]?=Ã)->∀h' a' b',ZK c s.heap h'->î h' c.TO a' b'->Q Ã {s with heap:=h'}):É mo A (ı (.ref c.z)) Q E s:=by
 show Ø.elim (λz=>?_) λz=>wg z λT z t1 t2 t3=>?_
 ·have l1:c.z<s.heap.objs.size:=ō z.2.z
  have l2:c.i1<s.heap.objs.size:=z.2.i1.soft.elim λj h=>ō h.1;have l3:c.i2<s.heap.objs.size:=(fG z.2.i2).elim λj h=>ō h.1;show oB hh D z.2 sW (λx y hx hy h' a1 a2 a3 a4=>hQ x y hx hy h' _ _ (.inr ⟨_,⟨⟨Ê,a1.z⟩,⟨x,y,a3⟩,a1.p,a1.i1,a1.i2,a1.t2⟩,ū l1,ū l2,ū l3⟩) a2 a3 a4) hE
 ·have hT:s.TypeIs (.ref c.z) "zip" := Ø.zT
  have to:∀{h'},SI c s.heap h'->ZK c s.heap h'/\î h' c.TO a b:=λK=>⟨λb o c1 j c3 c4 e=>K b o c1 c3 c4 e,K _ _ D.TOz D.TOi1 D.TOi2 sW⟩;unfold ı
  show Â (İ (ð (name:=ϸ "__next__") hT F.slot_zip_next
   (ý F.slot_zip_next hT F.entry_zip_next (Ev hh D ⟨t1,t2,t3⟩ z (λx y hx hy h' a1 a2 a3=>Ç (hQ x y hx hy h' _ _ (.inr ⟨T,a1,t1,t2,t3⟩) (to a3).2 a2 (to a3).1)) λoq h' e hk he=>?_) (F.args_zip_next_1 _))))
  show aF he λo ho hc=>Â (wpAny_isInstance (T := "StopIteration") (b:=Æ) ⟨o,ho,hc⟩ isSubtype_stop (Ç (hE oq _ a b (to hk).1 (to hk).2)))
theorem Az:Ă (.type "zip") "__len__" = pure Ã:=by rw[ł,ě];kernel_rfl
theorem yq:Ă (.type "zip") "__length_hint__" = pure Ã:=by rw[ł,ě];kernel_rfl
structure SJ(c:ZP)(S r:Nat)(xs ys:List V)(J:List È)(H:ag):Prop where
 D:ZipApart c.z c.TI c.TO c.i1 c.i2 c.l1 c.l2
 hr:J[r]?=À c.TO
 ho:H[r]?=À .own
 n:∀b∈[c.z,c.i1,c.i2],b∉J/\gg.B.get? b=Ã
 s:S∉J/\gg.B.get? S=Ã
 a:S≠c.z/\S≠c.TO/\S≠c.i1/\S≠c.i2/\S≠c.TI/\S≠c.l1/\S≠c.l2
 z:(bz xs ys).length<=al
structure T9(c:ZP)(S:Nat)(l:List V)(J:List È)(H:ag)(h0:Ó)(acc:Array Ä)(h:Ó):Prop where
 R:ar gg J H h
 l:bq gg J h l acc.toList
 s:∃n,h.get? S=À {cls:=.type "list",data:=.seq acc n}
 k:∀b o,b≠c.z->b≠c.TO->b≠c.i1->b≠c.i2->b≠S->h0.get? b=À o->h.get? b=À o
structure WF(c:ZP)(S:Nat)(xs ys:List V)(J:List È)(H:ag)(h0:Ó)(k:Nat)(acc:Array Ä)(h:Ó):Prop where
 w:ZW c k h
 x:bq gg J h xs c.vs
 y:bq gg J h ys c.ws
 e:T9 c S ((bz xs ys).take k) J H h0 acc h
theorem IE(C:SJ c S r xs ys J H)(R:ar gg J H h):∃a b,î h c.TO a b:=by
 have:=R.objs _ _ _ C.hr C.ho;cases this with
 |own ho=>show⟨_,_,ho⟩
theorem NA(C:SJ c S r xs ys J H)(I:WF c S xs ys J H h0 k acc h)(K:ZK c h h')(hp:î h' c.TO a b):T9 c S ((bz xs ys).take k) J H h0 acc h'/\bq gg J h' xs c.vs/\bq gg J h' ys c.ws:=by show aO (I.e.R.mvOwn C.hr C.ho K.mv I.w.ns (λb hb=>(C.n b hb).1) (λb hb=>(C.n b hb).2) hp) λR' M=>⟨⟨R',M.vrs I.w.ns I.e.l,I.e.s.imp λz q=>K _ _ C.a.1 C.a.2.1 C.a.2.2.1 C.a.2.2.2.1 q,λb o c1 c2 c3 c4 c5 e=>K b o c1 c2 c3 c4 (I.e.k b o c1 c2 c3 c4 c5 e)⟩,M.vrs I.w.ns I.x,M.vrs I.w.ns I.y⟩
theorem ZW.at(Ø:ZW c k h)(hk:∀b o,b≠S->h.get? b=À o->h'.get? b=À o)(a:S≠c.z/\S≠c.TO/\S≠c.i1/\S≠c.i2/\S≠c.TI/\S≠c.l1/\S≠c.l2)(hS:h.get? S=À {cls:=.type "list",data:=.seq acc n}):ZW c k h':=by show Yt a λa1 a2 a3 a4 a5 a6 a7=>Ø.imp (λz=>⟨z.1,hk _ _ a1.symm z.2.z,hk _ _ a5.symm z.2.p,z.2.i1.at (λo e=>hk _ o a3.symm e) λo e=>hk _ o a6.symm e,z.2.i2.at λo e=>hk _ o a4.symm e,z.2.t2.at λo e=>hk _ o a7.symm e⟩) λz=>wg z λT z t1 t2 t3=>⟨T,⟨z.z.imp λj q=>hk _ _ a1.symm q,mM z.t λx y q=>⟨x,y,hk _ _ (λe=>?_) q⟩,hk _ _ a5.symm z.p,z.i1.at (λo e=>hk _ o a3.symm e) λo e=>hk _ o a6.symm e,z.i2.at λo e=>hk _ o a4.symm e,z.t2.at λo e=>hk _ o a7.symm e⟩,t1,t2,t3⟩;have:Value.type "tuple" = .type "list" := congrArg Obj.cls (sm (q.symm.trans (e▸hS)));show absurd this (by decide)
theorem Ew{R:Result->Å->Prop}(hh:A.handled=Ã)(C:SJ c S r xs ys J H)(hR:∀h' acc,T9 c S (bz xs ys) J H h0 acc h'->R (.ok (.ret .none)) {s with heap:=h'}):
  ∀m k h acc,k+m=(bz xs ys).length->WF c S xs ys J H h0 k acc h->Ğ mo A (.builtin "list.extend.loop" ⟨[.ref S,.ref c.z,.none],[]⟩) R {s with heap:=h}:=by
 intro m
 induction m with
 |zero=>
  intro k h acc hk I;have hk:k=(bz xs ys).length:=hk;show é F.entry_extend_loop ?_;rw[Around.under_plainId F.plain_extend_loop _];show É _ A.in1 (ı (.ref c.z)>>=_) _ _ _;show mM (IE C I.e.R) λa b sW=>Â (ZW.next (s:={s with heap:=h}) (A:=A.in1) hh C.D I.w sW (λx y hx hy=>?_) λj h' a' b' K hp=>?_)
  ·have oq:=o9 xs ys
   rw[I.x.length,I.y.length,<-hk]at oq;show oq.elim (λq=>no ((ϭ q).symm.trans hx)) λq=>no ((ϭ q).symm.trans hy)
  ·have E:=(NA C I K hp).1
   rw[hk,ŋ]at E;show Ç (hR h' acc E)
 |succ m ih=>
  intro k h acc hk I;have cE:k<(bz xs ys).length:=hk▸acf (ϒ m);show é F.entry_extend_loop ?_;rw[Around.under_plainId F.plain_extend_loop _];show É _ A.in1 (ı (.ref c.z)>>=_) _ _ _;have hg:(bz xs ys)[k]?=À (bz xs ys)[k]:=ē cE;show fu (pa hg) λu v hu hv q=>aF (I.x.get hu) λau Xi ZU=>aF (I.y.get hv) λav Xj ZV=>mM (IE C I.e.R) λa b sW=>Â (ZW.next (s:={s with heap:=h}) (A:=A.in1) hh C.D I.w sW (λx y hx hy h' a' b' Z' hp hn K=>gH (NA C I K hp) λE' X' Y'=>E'.s.elim λn es=>?_) λoq=>oq.elim (λq=>no (q.symm.trans Xi)) λq=>no (q.symm.trans Xj));have ca:acc.size=k:=by rw[<-Ž,<-I.e.l.length,Ŭ];show Ŵ (ī cE)
  show É _ A.in1 (Ŋ S (·.push (.ref h.objs.size))>>=_) _ _ _;have hz:=C.z;show Â (Ą es N (Ç ⟨Ć F.plain_extend_loop _,ih (k+1) _ (acc.push (.ref h.objs.size)) (by rw[<-hk];show abQ k 1 m) ?_⟩) (by rw[ca];show z' (ī cE) hz) (by show (acc.push _).size<=_;rw[afi,ca];show š (z' (ī cE) hz)));have ot:∀b o,b≠S->h'.get? b=À o->(h'.update S (Obj.mapSeq (·.push (.ref h.objs.size)))).get? b=À o:=λb o hb e=>(ϫ _ _ (Ne.symm hb)).trans e;have sf:∀b o,h'.get? b=À o->j0 o->b∉J->(h'.update S (Obj.mapSeq (·.push (.ref h.objs.size)))).get? b=À o/\b∉J:=λb o e hd hb=>⟨ot b o (λq=>by rw[q,es]at e;show gK N (sm e▸hd)) e,hb⟩;have qP:h.objs.size∉J:=aX I.e.R (aH h)
  have Kb:VR gg J h' (bz xs ys)[k] (.ref h.objs.size):=by rw[q];have M:Mv [c.z,c.i1,c.i2] J h h':=λb o h1 h2 e=>K.mv b o h1 (λz=>h2 (z▸ĥ C.hr)) e;show .tup (l:=[u,v]) (vs:=[x,y]) ⟨_,hn,N,_,N⟩ (show 2<=al+1 by decide) (.cons (sm (Xi.symm.trans hx)▸M.vr I.w.ns ZU) (.one (sm (Xj.symm.trans hy)▸M.vr I.w.ns ZV))) qP
  show⟨Z'.at ot C.a es,X'.stepT (λj j e=>e) sf,Y'.stepT (λj j e=>e) sf,E'.R.other C.s.1 C.s.2 ot λo e=>by rw[es]at e;show sm e▸gK N,?_,⟨_,Ϛ _ es N⟩,λb o c1 c2 c3 c4 c5 e=>ot b o c5 (E'.k b o c1 c2 c3 c4 c5 e)⟩;rw[adw,hg,acZ];show((E'.l.append (.one Kb)).stepT (λj j e=>e) sf)
theorem IC(hh:A.handled=Ã)(R:ar gg J H s.heap)(hx:J[i]?=À l1)(hl:lst H i=À xs)(hy:VR gg J s.heap (.tup ys) b)(hz:(bz xs ys).length<=al):
  É mo A (Á (.type "zip") [.ref l1,b]) (λz s'=>É mo A (Á (.type "list") [z]) (bA gg J s (.ref (H.length+1)) (H++[.own]++[.lst (bz xs ys)])) E s') E s:=by
 show dN (R.list hx hl) λvs hl1 Te vz=>?_;cases hy with
 |@tup _ l2 ws hu s8 hw hm=>
  have Gv:l1<s.heap.objs.size:=by show aF hl1.isList λy e y=>?_;show ō e
  have Gw:l2<s.heap.objs.size:=by show aF hu λy e y=>?_;show ō e
  show sK (b:=Æ) hl1.isList hu λh' vz UK sW Vp Vq hsz hk=>?_;have fr:∀k,s.heap.get? (s.heap.objs.size+k)=Ã:=λk=>gT (Ň _ _);show aO (R.moreOwn hk (fr 3) (aV R (fr 3)) sW) λR' S'=>?_;have D:=zipApart_new Gv Gw;have nk:∀j k:Nat,j≠k->s.heap.objs.size+j≠s.heap.objs.size+k:=λj k h e=>h (add e);have J7:∀k,k≠3->s.heap.objs.size+k∉J++[s.heap.objs.size+3]:=λk Gs pA=>(Ģ.mp pA).elim (aX R (fr k)) λq=>Gs (add (O'.mp q));have hb:∀k,gg.B.get? (s.heap.objs.size+k)=Ã:=λk=>aV R (fr k);have YV:h'.get? (s.heap.objs.size+5)=Ã:=hsz▸aH h'
  have C:SJ ⟨s.heap.objs.size+4,s.heap.objs.size+2,s.heap.objs.size+3,s.heap.objs.size,s.heap.objs.size+1,l1,l2,vs,ws,Æ⟩ (s.heap.objs.size+5) H.length xs ys (J++[s.heap.objs.size+3]) (H++[.own]):=
   ⟨D,by rw[<-R.len];simp,by simp,λb hm=>(Ĉ.mp hm).elim (λe=>e▸⟨J7 4 (by decide),hb 4⟩) (qX (P:=λb=>b∉J++[s.heap.objs.size+3]/\gg.B.get? b=Ã) ⟨J7 0 (by decide),hb 0⟩ ⟨J7 1 (by decide),hb 1⟩ b),⟨J7 5 (by decide),hb 5⟩,
    ⟨nk 5 4 (by decide),nk 5 3 (by decide),nk 5 0 (by decide),nk 5 1 (by decide),nk 5 2 (by decide),ū (afc 5 Gv),ū (afc 5 Gw)⟩,hz⟩
  show callType_codes (Q₁:=λobj Ì=>obj=.ref (s.heap.objs.size+5)/\Ì={s with heap:=h'.push {cls:=.type "list",data:=.seq #[]}}) F.called_list (F.typeCall_list_1 _) F.entry_list_init
   (code_list_new _ ⟨by rw[<-hsz],N⟩) λobj Ì bF=>?_
  show aO bF λq1 q2=>?_;apply aW q1;apply aW q2;have g1:(h'.push {cls:=.type "list",data:=.seq #[]}).get? (s.heap.objs.size+5)=À {cls:=.type "list",data:=.seq #[]}:=hsz▸Ł _ rfl;have k1:∀b o,h'.get? b=À o->(h'.push {cls:=.type "list",data:=.seq #[]}).get? b=À o:=λb o e=>N' _ e;generalize h'.push {cls:=.type "list",data:=.seq #[]}=h1 at g1 k1;show⟨⟨_,g1,rfl⟩,F.args_list_init_2 _ _,?_⟩;show É _ A.in1.in1 (do let old <-Builtin.List.listItems (.ref (s.heap.objs.size+5));Builtin.List.listUpdate (.ref (s.heap.objs.size+5)) (λy=>#[]);letGo old.toList.reverse;Builtin.List.listExtendWith (.ref (s.heap.objs.size+5)) (.ref (s.heap.objs.size+4)) .none) _ _ _;show Â ?_;unfold Builtin.List.listItems;show Â (æ g1 rfl (Ç ?_));show É _ _ (Ŋ (s.heap.objs.size+5) (λy=>#[])>>=λy=>letGo (#[]:Array Ä).toList.reverse>>=λy=>Builtin.List.listExtendWith _ _ .none) _ _ _;show Â (Ą g1 rfl ?_);have g2:=Ϛ (Obj.mapSeq (λy=>(#[]:Array Ä))) g1 rfl;have ne:∀{b o},h'.get? b=À o->s.heap.objs.size+5≠b:=λe q=>no (YV.symm.trans (q▸e));have k2:∀b o,h'.get? b=À o->(h1.update (s.heap.objs.size+5) (Obj.mapSeq (λy=>(#[]:Array Ä)))).get? b=À o:=λb o e=>(ϫ _ _ (ne e)).trans (k1 b o e);generalize h1.update (s.heap.objs.size+5) (Obj.mapSeq (λy=>(#[]:Array Ä)))=h2 at g2 k2;show Â (Ĕ ?_);have hT:∀{h},(∀b o,h'.get? b=À o->h.get? b=À o)->Shared.TypeIs {s with heap:=h} (.ref (s.heap.objs.size+4)) "zip" := λk=>⟨_,k _ _ vz,rfl⟩;unfold Builtin.List.listExtendWith;show Â (Ŝ (hT k2) ?_);have q1:Builtin.List.listSameRef (.ref (s.heap.objs.size+5)) (.ref (s.heap.objs.size+4))=Ê:=by simp [Builtin.List.listSameRef]
  have q2:(Value.type "zip"==Value.type "list")=Ê:=by decide
  have q3:(Value.type "zip"==Value.type "tuple")=Ê:=by decide
  simp only[q1,q2,q3,adg,abR,if_false]
  show Â (ş (k2 _ _ vz) (Â (à ?_)));unfold Builtin.List.listLengthHint;show Â (wpAny_specialOf (hT k2) Az ?_);show É _ _ (specialOf (Value.ref _) (ϸ "__length_hint__")>>=_) _ _ _;show Â (wpAny_specialOf (hT k2) yq (Ç ?_));show É _ _ (rule "list.extend.makes-room" >>= λy=>Builtin.List.listTouch (.ref (s.heap.objs.size+5))>>=λy=>again (.builtin "list.extend.loop" ⟨[.ref (s.heap.objs.size+5),.ref (s.heap.objs.size+4),.none],[]⟩)) _ _ _;show Â (ú (Â ?_));show É _ _ (Ŋ (s.heap.objs.size+5) (·.push .none)>>=λy=>Ŋ (s.heap.objs.size+5) (·.pop)) _ _ _;show Â (Ą g2 N ?_);have g3:=Ϛ (Obj.mapSeq (·.push Value.none)) g2 N;show Ą (hz:=by seq_fits) g3 N ?_;have g4:=Ϛ (Obj.mapSeq (·.pop)) g3 N;have k4:∀b o,h'.get? b=À o->((h2.update (s.heap.objs.size+5) (Obj.mapSeq (·.push Value.none))).update (s.heap.objs.size+5) (Obj.mapSeq (·.pop))).get? b=À o:=λb o e=>(ϫ _ _ (ne e)).trans ((ϫ _ _ (ne e)).trans (k2 b o e));generalize (h2.update (s.heap.objs.size+5) (Obj.mapSeq (·.push Value.none))).update (s.heap.objs.size+5) (Obj.mapSeq (·.pop))=h4 at g4 k4;have K4:∀b o,s.heap.get? b=À o->h4.get? b=À o:=λb o e=>k4 b o (hk b o e);have St:SE J s.heap (J++[s.heap.objs.size+3]) h4:=S'.trans (SE.keeps _ k4);show Ç ⟨Ć F.plain_extend_loop _,Ew (h0:=s.heap) (A:=A.in1) hh C (λqM acc E=>⟨N,?_⟩) (bz xs ys).length 0 h4 #[] (ż _) ⟨.inl ⟨N,k4 _ _ vz,k4 _ _ UK,Vp.at (λo e=>k4 _ o e) λo e=>k4 _ o e,Vq.at λo e=>k4 _ o e,hu.at λo e=>K4 _ o e⟩,Te.step R St,hw.step R St,R'.keeps k4,.nil,⟨_,g4⟩,λb o y y y y y e=>K4 b o e⟩⟩
  have K5:∀b o,s.heap.get? b=À o->qM.get? b=À o:=λb o e=>by have nf:∀k,b≠s.heap.objs.size+k:=λk q=>no ((fr k).symm.trans (q▸e));show E.k b o (nf 4) (nf 3) (nf 0) (nf 1) (nf 5) e
  show E.s.elim λn es=>⟨J++[s.heap.objs.size+3]++[s.heap.objs.size+5],⟨λb o e y=>.inl (K5 b o e),λb o e=>⟨o,K5 b o e⟩,[s.heap.objs.size+3,s.heap.objs.size+5],by rw[ÿ];rfl,qX (P:=λb=>s.heap.get? b=Ã) (fr 3) (fr 5)⟩,E.R.more C.s.1 C.s.2 (.lst ⟨n,es⟩ (ſ hz) E.l) (λo e=>by rw[es]at e;show sm e▸gK rfl),.ref ?_,rfl,rfl,rfl⟩;rw[<-R.len];simp
end
abbrev Gd{α:Type}(P:α->Prop)(o:Option α):Prop:=∀c,o=À c->P c
theorem ah{α β:Type}{m:Option α}{k:α->Option β}{P:β->Prop}(h:∀a,m=À a->Gd P (k a)):Gd P (m.bind k):=λc e=>by show bW e λa h1 h2=>h a h1 c h2
theorem aM{P:α->Prop}(h:P a):Gd P (À a):=λc e=>sm e▸h
theorem dQ{P:α->Prop}:Gd P Ã:=λc e=>no e
theorem cY{P:α->Prop}[Decidable b](h:b->Gd P x):Gd P (if b then x else Ã):=λc e=>h (cT e).1 c (cT e).2
theorem qJ{P:α->Prop}[Decidable b](h:¬ b->Gd P x):Gd P (if b then Ã else x):=λc e=>h (zM e).1 c (zM e).2
theorem kb{P:α->Prop}[Decidable b](h:b->Gd P x)(h':¬ b->Gd P y):Gd P (if b then x else y):=λc e=>by
 by_cases hb:b
 ·show h hb c ((if_pos hb).symm.trans e)
 ·show h' hb c ((if_neg hb).symm.trans e)
noncomputable def Tq:jo->Nat
 |.ex _=>0
 |.rng1 _=>1
 |_=>2
noncomputable def V7:jo->Option CE
 |.ex c=>À c
 |.rng1 c=>À c
 |_=>Ã
def WC(f:Ô->Option CE)(sc:á)(e:Ô)(it:jo):Prop:=(∃c,it=.ex c/\f e=À c)\/(∃y p q c,it=.rng1 c/\e=.Call (.Name ("range":Str) p) [y] [] q/\bi sc ("range":Str)=Æ/\f y=À c)\/Tq it=2
theorem tT:Gd (WC f sc e) (EA f cx sc e):=by
 have ex:Gd (WC f sc e) (CC f e):=ah λc hc=>aM (.inl ⟨c,N,hc⟩);unfold EA;cases hp:j7 e with
 |none=>show ex
 |some p=>
  show kb (λhg=>kb (λh1=>?_) λk=>
   kb (λk=>ah λk k=>ah λk k=>ah λk k=>aM (.inr (.inr N))) λk=>
   kb (λk=>ah λk k=>ah λk k=>aM (.inr (.inr N))) λk=>
   ex) λk=>ex
  obtain ⟨gn,as⟩:=p;cases as with
  |nil=>show dQ
  |cons a r=>
   show ah λx hx=>?_;cases r with
   |nil=>show aM (.inr (.inl (mM (iM hp) λp q z=>⟨a,p,q,x,N,beq_iff_eq.mp h1▸z,beq_iff_eq.mp h1▸(Ľ.mp hg).1,hx⟩)))
   |cons b r=>
    show ah λy k=>?_;cases r with
    |nil=>show aM (.inr (.inr N))
    |cons c r=>show dQ
section
variable{A:Ñ}{E:Ä->Å->Prop}{J aj:List È}{H Î ae:ag}{s Ì:Å}{Z:Env}{O:List (Str×Nat)}{U:aL}
theorem bA.after(S:SE J s.heap aj Ì.heap)(T:bJ s Ì)(h:bA gg aj Ì v ae a cW):bA gg J s v ae a cW:=by show bA.el h λaT S' R' V' T'=>⟨aT,S.trans S',R',V',T.trans T'⟩
theorem Cp.after(S:SE J s.heap aj Ì.heap)(T:bJ s Ì)(h:Cp aj Ì b ae c cW):Cp J s b ae c cW:=by obtain ⟨e,aT,S',R',T'⟩:=h;show⟨e,aT,S.trans S',R',T.trans T'⟩
theorem aS.bind(hA:aS A Z O e m)(h:m U H=À (x,Î))(R:ar gg J H s.heap)(F:eH (br A) J Z O U s.heap)
  (k:∀a Ì aj,SE J s.heap aj Ì.heap->bJ s Ì->ar gg aj Î Ì.heap->eH (br A) aj Z O U Ì.heap->VR gg aj Ì.heap x a->Q a Ì):É mo A (eval e Z) Q E s:=
 Ï (hA U H x Î h J s R F E) (λa Ì ⟨aj,S,aC,bh,T⟩=>k a Ì aj S T aC (F.step R S) bh) λz z x=>x
theorem fq.bind(hA:fq A Z O e m)(h:m U H=À (x,Î))(R:ar gg J H s.heap)(F:eH (br A) J Z O U s.heap)
  (k:∀Ì aj,SE J s.heap aj Ì.heap->bJ s Ì->ar gg aj Î Ì.heap->eH (br A) aj Z O U Ì.heap->Q x Ì):É mo A (isTrue e Z (eval e Z)) Q E s:=
 Ï (hA U H x Î h J s R F E) (λa Ì ⟨e,aj,S,aC,T⟩=>by apply aW e;show k Ì aj S T aC (F.step R S)) λz z x=>x
def sv(A:Ñ)(Á:az)(k:Nat):Prop:=
 ∀as H v ae,Á k as H=À (.ok v,ae)->∀fn,fs[k]?=À fn->∀J s cb,ar gg J H s.heap->su (br A) J s.heap->bq gg J s.heap as cb->∀E,É mo A (PySem.call (.ref fn.addr) cb) (bA gg J s v ae) E s
def tL(A:Ñ)(Á:az):Prop:=∀k,sv A Á k
def mB(A:Ñ)(Z:Env)(O:List (Str×Nat))(e:Ô)(two:Bool)(m:aL->ag->Option (List V×List (Nat×bp)×ag)):Prop:=
 ∀U H xs w ae,m U H=À (xs,w,ae)->∀J s,ar gg J H s.heap->eH (br A) J Z O U s.heap->∀E,É mo A (eval e Z) (Co A J s xs w two ae) E s
theorem DU{e:Ô}{c:CE}{Á:az}(h:aS A Z O e (ab Á c))(he:isTrue e Z (eval e Z)=(do let v <-eval e Z;standAt e.pos;holding [v] (truthy v))):fq A Z O e (bU Á c):=by intro U H b ae ht J s R F E;show isTrue_plain (h.bind (dM ht) R F λa Ì aj S T aC a0 bh=>?_) he;apply aW (vB N bh);show ï ⟨N,aj,S,aC,T⟩
theorem oH{v:V}{k:Const}{n:Nat}{pos:Pos}{Á:az}(hk:yK k=À v):aS A Z O (.Constant k n pos) (ab Á (.cst v)):=by
 intro U H v' ae he J s R F E;apply dn he;cases k with
 |none=>apply dC hk;show wpAny_Constant_none (bA.here (tk:=s.toks) R .none)
 |bool _=>apply dC hk;show wpAny_Constant_bool (bA.here (tk:=s.toks) R (.bool _))
 |int _=>apply dC hk;show wpAny_Constant_int (bA.here R (.int _ _))
 |str _=>apply dC hk;show wpAny_Constant_str (bA.here R (.str _ _))
 |_=>show no hk
theorem La{l r:Ô}{op:Operator}{pos:Pos}{a b:CE}{Á:az}(hl:aS A Z O l (ab Á a))(hr:aS A Z O r (ab Á b)):aS A Z O (.BinOp l op r pos) (ab Á (.bin op a b)):=by intro U H v ae he J s R F E;show r5 he λx Î y Ý h1 h2 he=>?_;show wpAny_BinOp (hl.bind h1 R F λa Ì aj S T aC a0 bh=>hr.bind h2 aC a0 λb cW cR S' T' bu eQ dP=>?_);show Ï (Jo he bu (bh.step aC S') dP) (λz z x=>(bA.after (S.trans S') (T.trans T') x)) λz z x=>x
theorem sB(hA:iZ A d):A.units+8<cLine:=ŷ (ϣ (z' (Ň _ _) hA.units) 8) (by decide)
theorem Lb{d:Nat}(hA:iZ A d){l r:Ô}{op:CmpOp}{pos:Pos}{a b:CE}{Á:az}(hm:behindInMarks op r=Ê)(hl:aS A Z O l (ab Á a))(hr:aS A Z O r (ab Á b)):
  aS A Z O (.Compare l [op] [r] pos) (ab Á (.cmp op a b))/\fq A Z O (.Compare l [op] [r] pos) (bU Á (.cmp op a b)):=by
 constructor
 ·intro U H v ae he J s R F E
  show r5 he λx Î y Ý h1 h2 he=>?_;show bW he λc hc he=>?_;apply dn he;show wpAny_Compare1 (hl.bind h1 R F λa Ì aj S T aC a0 bh=>hr.bind h2 aC a0 λb cW cR S' T' bu eQ dP=>AT hc (sB hA) bu (bh.step aC S') dP ⟨cR,S.trans S',bu,.bool _,T.trans T'⟩) hm
 ·intro U H v ae he J s R F E
  show dz (dM he) λx Î h1 he=>dz he λy Ý h2 he=>bW he λc hc he=>aO (nT he) λe1 q2=>?_;apply fv q2;apply fv (V.bool.inj e1);show wpAny_isTrue_Compare1 (hl.bind h1 R F λa Ì aj S T aC a0 bh=>hr.bind h2 aC a0 λb cW cR S' T' bu eQ dP=>?_) hm;show AT hc (sB hA) bu (bh.step aC S') dP (ï ⟨N,cR,S.trans S',bu,T.trans T'⟩)
theorem BU{x:Ô}{pos:Pos}{a:CE}{Á:az}(hx:aS A Z O x (ab Á a))(GD:fq A Z O x (bU Á a)):
  aS A Z O (.UnaryOp .Not x pos) (ab Á (.not a))/\fq A Z O (.UnaryOp .Not x pos) (bU Á (.not a)):=by
 constructor
 ·intro U H v ae he J s R F E
  show j6 he λb Î h1 he=>?_;apply dn he;show UnaryOp_ (hx.bind h1 R F λa Ì aj S T aC a0 bh=>?_);apply aW (vB N bh);show not_of (ï ⟨aj,S,aC,.bool _,T⟩)
 ·intro U H v ae he J s R F E
  show j6 (dM he) λb Î h1 he=>aO (nT he) λe1 q2=>?_;apply fv q2;apply fv (V.bool.inj e1);show isTrue_not (GD.bind (bR h1) R F λÌ aj S T aC a0=>⟨N,aj,S,aC,T⟩)
theorem Lh{t x y:Ô}{pos:Pos}{a b c:CE}{Á:az}(ht:fq A Z O t (bU Á a))(hx:aS A Z O x (ab Á b))(GD:fq A Z O x (bU Á b))(hy:aS A Z O y (ab Á c))(RC:fq A Z O y (bU Á c)):
  aS A Z O (.IfExp t x y pos) (ab Á (.ite a b c))/\fq A Z O (.IfExp t x y pos) (bU Á (.ite a b c)):=by
 constructor
 ·intro U H v ae he J s R F E
  show j6 he λp Î h1 he=>?_;cases p with
  |true=>show IfExp_ (ht.bind (bR h1) R F λÌ aj S T aC a0=>hx.bind he aC a0 λb cW cR S' T' bu eQ dP=>⟨cR,S.trans S',bu,dP,T.trans T'⟩)
  |false=>show IfExp_ (ht.bind (bR h1) R F λÌ aj S T aC a0=>hy.bind he aC a0 λb cW cR S' T' bu eQ dP=>⟨cR,S.trans S',bu,dP,T.trans T'⟩)
 ·intro U H v ae he J s R F E
  show j6 (dM he) λp Î h1 he=>?_;cases p with
  |true=>show isTrue_IfExp (ht.bind (bR h1) R F λÌ aj S T aC a0=>GD.bind (bR he) aC a0 λcW cR S' T' bu eQ=>⟨N,cR,S.trans S',bu,T.trans T'⟩)
  |false=>show isTrue_IfExp (ht.bind (bR h1) R F λÌ aj S T aC a0=>RC.bind (bR he) aC a0 λcW cR S' T' bu eQ=>⟨N,cR,S.trans S',bu,T.trans T'⟩)
theorem oF{f:Ô->Option CE}{Á:az}(ih:∀e c,f e=À c->aS A Z O e (ab Á c))(op:BoolOp)(pos:Pos):∀(vs:List Ô) (c:CE),vO f op vs=À c->aS A Z O (.BoolOp op vs pos) (ab Á c)
 |[],_,h=>no h
 |[e],c,h=>λU H v ae he J s R F E=>BoolOp_one (ih e c h U H v ae he J s R F E)
 |e::e'::r,c,h=>by
  show ie h λa b ha hb h=>?_;apply dC h;have h1:=ih e a ha;have h2:=oF ih op pos (e'::r) b hb;intro U H v ae he J s R F E;cases op with
  |And=>
   show j6 he λp Î hx he=>BoolOp_and (h1.bind hx R F λa Ì aj S T aC a0 bh=>?_);apply aW (vB N bh);cases p with
   |true=>show ï (h2.bind he aC a0 λb cW cR S' T' bu eQ dP=>⟨cR,S.trans S',bu,dP,T.trans T'⟩)
   |false=>apply dn he;show ï ⟨aj,S,aC,.bool _,T⟩
  |Or=>
   show j6 he λp Î hx he=>BoolOp_or (h1.bind hx R F λa Ì aj S T aC a0 bh=>?_);apply aW (vB N bh);cases p with
   |false=>show ï (h2.bind he aC a0 λb cW cR S' T' bu eQ dP=>⟨cR,S.trans S',bu,dP,T.trans T'⟩)
   |true=>apply dn he;show ï ⟨aj,S,aC,.bool _,T⟩
theorem oG{f:Ô->Option CE}{Á:az}(ih:∀e c,f e=À c->fq A Z O e (bU Á c))(op:BoolOp)(pos:Pos)(wh:Sem Ä):∀(vs:List Ô) (c:CE),vO f op vs=À c ->
  ∀U H b ae,bU Á c U H=À (b,ae)->∀J s,ar gg J H s.heap->eH (br A) J Z O U s.heap->∀E,É mo A (isTrue (.BoolOp op vs pos) Z wh) (Cp J s b ae) E s
 |[],_,h=>no h
 |[e],c,h=>λU H v ae he J s R F E=>by
  cases op with
  |And=>
   show isTrue_and ((ih e c h).bind he R F λÌ aj S T aC a0=>?_);cases v
   ·show⟨N,aj,S,aC,T⟩
   ·show isTrue_and_nil ⟨N,aj,S,aC,T⟩
  |Or=>
   show isTrue_or ((ih e c h).bind he R F λÌ aj S T aC a0=>?_);cases v
   ·show isTrue_or_nil ⟨N,aj,S,aC,T⟩
   ·show⟨N,aj,S,aC,T⟩
 |e::e'::r,c,h=>by
  show ie h λa b ha hb h=>?_;apply dC h;have h1:=ih e a ha;have h2:=oG ih op pos wh (e'::r) b hb;intro U H v ae he J s R F E;cases op with
  |And=>
   show j6 (dM he) λp Î hx he=>isTrue_and (h1.bind (bR hx) R F λÌ aj S T aC a0=>?_);cases p with
   |true=>show Ï (h2 U Î v ae (bR he) aj Ì aC a0 E) (λz z x=>Cp.after S T x) λz z x=>x
   |false=>show aO (nT he) λe1 q2=>?_;apply fv q2;apply fv (V.bool.inj e1);show⟨N,aj,S,aC,T⟩
  |Or=>
   show j6 (dM he) λp Î hx he=>isTrue_or (h1.bind (bR hx) R F λÌ aj S T aC a0=>?_);cases p with
   |false=>show Ï (h2 U Î v ae (bR he) aj Ì aC a0 E) (λz z x=>Cp.after S T x) λz z x=>x
   |true=>show aO (nT he) λe1 q2=>?_;apply fv q2;apply fv (V.bool.inj e1);show⟨N,aj,S,aC,T⟩
theorem cN{f:Ô->Option CE}(hs:∀e p,f (.Starred e p)=Ã)(h:f e=À c)(aD:List Ô):Ù (e::aD) Z=(Ê,eval e Z)::Ù aD Z:=by
 cases e with
 |Starred e p=>rw[hs]at h;show no h
 |_=>rfl
theorem ji{f:Ô->Option CE}(hs:∀e p,f (.Starred e p)=Ã)(pos:Pos):∀{es:List Ô} {cs:gb},cc f es=À cs->(Ĳ pos (Ù es Z)).any (·.1)=Ê
 |[],_,_=>rfl
 |e::r,cs,h=>by
  show ie h λc IM h1 h2 h=>?_;rw[cN hs h1];have:=ji hs pos h2 (es:=r)
  simpa [Ĳ] using this
theorem fZ{f:Ô->Option CE}{Á:az}(hs:∀e p,f (.Starred e p)=Ã)(ih:∀e c,f e=À c->aS A Z O e (ab Á c))(pos:Pos):∀{es:List Ô} {cs:gb},cc f es=À cs ->
  ∀ ⦃U H vs ae⦄,bO Á cs U H=À (vs,ae)->∀ ⦃J s⦄,ar gg J H s.heap->eH (br A) J Z O U s.heap->∀E,É mo A (spliced (Ĳ pos (Ù es Z))) (Qf J s vs ae) E s
 |[],cs,h=>by intro U H vs ae he J s R F E;obtain rfl:=sm h;show aO (nT he) λk1 k2=>?_;apply fv k1;apply fv k2;show Ē ⟨J,SE.refl _ _,R,.nil,bJ.refl _⟩
 |e::r,cs,h=>by show ie h λc IM h1 h2 h=>?_;apply dC h;intro U H vs ae he J s R F E;show r5 he λx Î xs Ý hx Tl he=>?_;apply dn he;show è ((ih e c h1).bind hx R F λa Ì aj S T aC a0 bh=>Ï (fZ hs ih pos h2 Tl aC a0 E) (λvs cW ⟨cR,S',bu,dP,T'⟩=>?_) λz z x=>x) (cN hs h1 r);show⟨cR,S.trans S',bu,.cons (bh.step aC S') dP,T.trans T'⟩
theorem xH{f:Ô->Option CE}{Á:az}(hs:∀e p,f (.Starred e p)=Ã)(ih:∀e c,f e=À c->aS A Z O e (ab Á c)){pos:Pos}{es:List Ô}{cs:gb}(h:cc f es=À cs):aS A Z O (.List es pos) (ab Á (.list cs)):=by intro U H v ae he J s R F E;show dz he λvs Î h1 he=>gH (fV he) λhz q2 q3=>?_;apply aW q2;apply aW q3;show wpAny_List_spliced (Ï (fZ hs ih pos h h1 R F E) (λas Ì ⟨aj,S,aC,bh,T⟩=>⟨by rw[<-bh.length];show hz,(bA.after S T (bA.newL (tk:=Ì.toks) aC (ſ hz) bh (λb o e=>N' _ e) (aH _) ⟨_,Ł _ N⟩))⟩) λz z x=>x)
theorem tD{f:Ô->Option CE}{Á:az}(hs:∀e p,f (.Starred e p)=Ã)(ih:∀e c,f e=À c->aS A Z O e (ab Á c)){pos:Pos}{k:Nat}{es:List Ô}{cs:gb}(h:cc f es=À cs):aS A Z O (.Tuple es k pos) (ab Á (.tuple cs)):=by intro U H v ae he J s R F E;show dz he λvs Î h1 he=>gH (kL he) λhz q2 q3=>(wpAny_Tuple_spliced (Ï (fZ hs ih pos h h1 R F E) (λas Ì ⟨aj,S,aC,bh,T⟩=>⟨by rw[<-bh.length];show hz,?_⟩) λz z x=>x));apply aW q2;apply aW q3;show bA.after S T (bA.newT (tk:=Ì.toks) aC (ſ hz) bh (λb o e=>N' _ e) (aH _) (gE _ _))
theorem DO{pos:Pos}{Á:az}:aS A Z O (.Dict [] [] pos) (ab Á .dict0):=by
 intro U H v ae he J s R F E;apply dn he;show wpAny_Dict_empty ?_;have hk:∀b o,s.heap.get? b=À o->(s.heap.push {cls:=.type "dict",data:=.dict #[]}).get? b=À o:=λb o e=>N' _ e;have R':ar gg J H (s.heap.push {cls:=.type "dict",data:=.dict #[]}):=R.keeps hk;have C5:=aX R (aH _);have PJ:=aV R (aH _);have S:SE J s.heap J (s.heap.push {cls:=.type "dict",data:=.dict #[]}):=SE.keeps J hk;have hd:(s.heap.push {cls:=.type "dict",data:=.dict #[]}).DictOf (strKind gg.prog gg.w) s.heap.objs.size []:=Heap.DictOf.new ..;show⟨J++[s.heap.objs.size],⟨S.pres,S.dom,[_],N,λa ha=>?_⟩,R'.more C5 PJ (.ds hd N .nil) (λo e=>?_),.ref ?_,bJ.refl _⟩
 ·apply aW (O'.mp ha);show aH _
 ·apply fv (sm ((Ł _ N).symm.trans e));show sP N
 ·rw[<-R.len];simp
end
section
variable{A:Ñ}{E:Ä->Å->Prop}{J aj:List È}{H Î ae:ag}{s Ì:Å}{Z:Env}{O:List (Str×Nat)}{U:aL}
theorem BP{v i:Ô}{pos:Pos}{a b:CE}{Á:az}(ic:∀l u st p,i≠.Slice l u st p)(hv:aS A Z O v (ab Á a))(hi:aS A Z O i (ab Á b)):aS A Z O (.Subscript v i pos) (ab Á (.idx a b)):=by
 intro U H r ae he J s R F E;show r5 he λx Î y Ý h1 h2 he=>?_;show bW he λc hc he=>?_;apply dn he;show Subscript_ (hv.bind h1 R F λa Ì aj S T aC a0 bh=>hi.bind h2 aC a0 λb cW cR S' T' bu eQ dP=>?_);show aO (Kf (A:=A) (E:=E) hc bu (bh.step aC S') dP) λk1 hg=>?_;show gq k1 λT id hT hl=>?_;show tail_any (ops:=[a,b]) hT hl (Ï hg (λz z x=>bA.after (S.trans S') (bJ.trans ‹_› T') x) λz z x=>x) ?_;cases i with
 |Slice l u st p=>show absurd N (ic l u st p)
 |_=>rfl
theorem xT(hv:VR gg J h v a)(hl:m6 v=À i):jN a v:=by
 cases hv with
 |none=>show .none
 |int k t=>show .int k t
 |_=>show no hl
theorem xQ(hv:VR gg J h v a)(hl:kY n v=À i):jN a v:=by
 cases hv with
 |none=>show .none
 |int k t=>show .int k t
 |_=>show no hl
theorem aS.part{f:Ô->Option CE}{Á:az}(ih:∀e c,f e=À c->aS A Z O e (ab Á c)){o:Option Ô}{c:CE}(hc:Fo f o=À c){x:V}(h:ab Á c U H=À (x,Î))(R:ar gg J H s.heap)(F:eH (br A) J Z O U s.heap){Q:Ä->Å->Prop}
  (k:∀a Ì aj,SE J s.heap aj Ì.heap->bJ s Ì->ar gg aj Î Ì.heap->eH (br A) aj Z O U Ì.heap->VR gg aj Ì.heap x a->Q a Ì):É mo A (evalPart o Z) Q E s:=by
 cases o with
 |none=>obtain rfl:=sm hc;show aO (nT h) λk2 k3=>?_;subst k2;subst k3;show evalPart_none_step (k .none s J (SE.refl _ _) (bJ.refl _) R F .none)
 |some e=>show evalPart_some_step ((ih e c hc).bind h R F k)
set_option tactic.hygienic true in
theorem Ll{f:Ô->Option CE}{v:Ô}{lo hi:Option Ô}{p pos:Pos}{a b c:CE}{Á:az}(ih:∀e c,f e=À c->aS A Z O e (ab Á c))(hv:aS A Z O v (ab Á a))(hl:Fo f lo=À b)(hu:Fo f hi=À c):
  aS A Z O (.Subscript v (.Slice lo hi Ã p) pos) (ab Á (.slc a b c)):=by
 intro U H r ae he J s R F E;show r5 he λx Î y Ý h1 h2 he=>?_;show dz he λz bH h3 he=>Subscript_ (hv.bind h1 R F λa Ì aj S T aC a0 bh=>wpAny_Slice (aS.part ih hl h2 aC a0 λb cW cR dh gO bu eQ dP=>aS.part ih hu h3 bu eQ λc iX yu jr yF jp rY NP=>evalPart_none_step ?_));have hk:∀b' o,iX.heap.get? b'=À o->(iX.heap.push {cls:=.type "slice",data:=.fields #[b,c,.none]}).get? b'=À o:=λb o e=>N' _ e;have lK:SE yu iX.heap yu (iX.heap.push {cls:=.type "slice",data:=.fields #[b,c,.none]}):=SE.keeps _ hk;have r2:=jp.keeps hk;have Qq:=((bh.step aC dh).step bu jr).step jp lK;have LZ:=(dP.step bu jr).step jp lK;have L0:=NP.step jp lK;have hs:=Heap.IsSliceOf.new iX.heap b c .none
 have hW:∀{r ae a' s'},bA gg yu {iX with heap:=iX.heap.push {cls:=.type "slice",data:=.fields #[b,c,.none]}} r ae a' s'->bA gg J s r ae a' s':=λx=>
  bA.after (Ì:={iX with heap:=iX.heap.push {cls:=.type "slice",data:=.fields #[b,c,.none]}}) (S.trans (dh.trans (jr.trans lK))) (T.trans (gO.trans yF)) x
 revert he;apply VR.el Qq
 case tup=>
  intro _ _ _ ht hz s6 hn he
  ·show ie he λi j hi hj he=>?_
   show gH (kL he) λs8 q2 q3=>?_;apply aW q2;apply aW q3;show tail_any (ops:=[.ref iX.heap.objs.size,.ref _]) ht.typeIs slot_tuple_getitem.lookup (Ï (Ec r2 ht hz s6 hn hs (xT LZ hi) (xQ L0 hj) hi hj s8) (λ_ _ x=>hW x) λ_ _ x=>x) N
 case str=>
  intro x t he
  ·show ie he λi j hi hj he=>?_
   show gH (Dw he) λs8 q2 q3=>?_;apply aW q2;apply aW q3;show tail_any (ops:=[.ref iX.heap.objs.size,.str x t]) (typeIs_str _ _ _) PySem.F.slot_str_getitem.lookup (Ï (D6 r2 hs (xT LZ hi) (xQ L0 hj) hi hj s8) (λ_ _ x=>hW x) λ_ _ x=>x) N
 all_goals (intros;rename_i he;exact no he)
theorem bM(h:bi Z.scope x=Æ):Z.kindOf x=À .globalImplicit/\(x==("__debug__":Str))=Ê:=by
 simp only[bi,ň,beq_iff_eq,ώ]at h
 show⟨h.1,h.2⟩
set_option tactic.hygienic true in
theorem oW:∀{l:List α} {k:Nat},l.findIdx? p=À k->∃x,l[k]?=À x/\p x=Æ
 |[],_,h=>by simp at h
 |a::l,k,h=>by
  rw[List.findIdx?_cons]at h;split at h
  ·rename_i hp
   cases h;show⟨a,N,hp⟩
  ·simp only[Ϫ]at h
   show aF h λj hj q3=>?_;apply fv q3;show aF (oW hj) λx h1 h2=>⟨x,h1,h2⟩
theorem Gc(G:fN gg cx fs mg mb)(h:gU cx f=À k):∃fn,fs[k]?=À fn/\fn.name=f:=by
 show aF (oW h) λx h1 h2=>?_;rw[<-G.names]at h1
 simp only[į,Ϫ]at h1
 show aF h1 λfn h3 q3=>?_;subst q3;show⟨fn,h3,by simpa using h2⟩
theorem xB{Á:az}{k:Nat}(G:fN gg cx fs mg mb)(hC:sv A Á k){F':Ô->Option CE}(hs:∀e p,F' (.Starred e p)=Ã)(ih:∀e c,F' e=À c->aS A Z O e (ab Á c)){f:Str}{p pos:Pos}{as:List Ô}{cs:gb}
  (hg:bi Z.scope f=Æ) (hk:gU cx f=À k) (eJ:as.isEmpty=Ê) (h:cc F' as=À cs):aS A Z O (.Call (.Name f p) as [] pos) (ab Á (.call k cs)):=by
 intro U H v ae he J s R F E;show r5 he λvs Î r Ý h1 h2 he=>?_;show bW he λu hu he=>?_;apply dn he
 have hr:r=.ok u:=by
  cases r with
  |ok w=>show congrArg vH.ok (sm hu)
  |exc _ _=>show no hu
 subst hr;show aF (Gc G hk) λfn lT q3=>?_;subst q3;obtain ⟨hm,o,pm,cd,doc,ho,hd,om⟩:=G.made fn (ĥ lT);show aO (bM hg) λmn mq=>?_;cases as with
 |nil=>cases eJ
 |cons e aD=>show bW (k:=λc=>(cc F' aD).bind λcs=>À (gb.cons c cs)) h λc hc z=>ć N (ja G F R mn mq hm (callWith_def (o:=o) hd (Ï (fZ hs ih pos h h1 R F E) (λcb Ì ⟨aj,S,aC,bh,T⟩=>⟨aC.base _ _ ho,?_⟩) λz z x=>x) (cN hs hc aD)));show Ï (hC vs Î u Ý h2 fn lT aj Ì cb aC (F.step R S).stk bh E) (λz z x=>bA.after S T x) λz z x=>x
set_option backward.match.sparseCases false in
noncomputable def fX:nX->Ä
 |.len=>.builtin "len" |.sum=>.builtin "sum" |.min2=>.builtin "min" |.max2=>.builtin "max" |.min1=>.builtin "min" |.max1=>.builtin "max"
 |.tuple=>.type "tuple" |.list=>.type "list" |.str=>.type "str" |.int=>.type "int" |.sorted=>.builtin "sorted" |_=>.none
noncomputable def Hx:nX->Bool
 |.len|.sum|.min2|.max2|.min1|.max1|.tuple|.list|.str|.int|.sorted=>Æ
 |_=>Ê
theorem Ac:∀q∈BF,1<=q.2.1/\q.1∈eN/\ę q.1=À (fX q.2.2)/\Hx q.2.2=Æ:=by decide +kernel
theorem xl(h:Hx p=Æ):(∀as,ni p as=PySem.call (fX p) as)/\((∃id,fX p=.builtin id)\/∃T,fX p=.type T):=by cases p<;>first|exact⟨λz=>rfl,.inl ⟨_,rfl⟩⟩|exact⟨λz=>rfl,.inr ⟨_,rfl⟩⟩|exact nomatch h
theorem Fq(h:Fp f n=À p):1<=n/\f∈eN/\ę f=À (fX p)/\(∀as,ni p as=PySem.call (fX p) as)/\((∃id,fX p=.builtin id)\/∃T,fX p=.type T):=by show EC (Ac _ (mf h)) λh1 h2 h3 h4=>⟨h1,h2,h3,xl h4⟩
theorem bP(hv:(∃id,v=.builtin id)\/∃T,v=.type T)
  (h:É mo A (spliced (Ĳ pos (Ù (e::aD) Z))) (λvs Ì=>É mo A (PySem.call v vs) Q E Ì) E s)
  (he:Ù (e::aD) Z=(Ê,eval e Z)::Ù aD Z) (Gy:(Ĳ pos (Ù aD Z)).any (·.1)=Ê) :
  É mo A (callWith pos v [] (Ĳ pos (Ù (e::aD) Z)) []) Q E s:=by
 rcases hv with ⟨id,rfl⟩|⟨T,rfl⟩
 ·show callWith_builtin1 h he Gy
 ·show callWith_type1 h he Gy
theorem H1{Á:az}{d:Nat}(hA:iZ A d)(G:fN gg cx fs mg mb){F':Ô->Option CE}(hs:∀e p,F' (.Starred e p)=Ã)(ih:∀e c,F' e=À c->aS A Z O e (ab Á c)){f:Str}{p' pos:Pos}{p:nX}{as:List Ô}{cs:gb}
  (hg:bi Z.scope f=Æ) (hp:Fp f as.length=À p) (h:cc F' as=À cs):aS A Z O (.Call (.Name f p') as [] pos) (ab Á (.prim p cs)):=by
 intro U H v ae he J s R F E;show dz he λvs Î h1 he=>Uw (Fq hp) λhn hm hb hc hh=>aO (bM hg) λmn mq=>?_;cases as with
 |nil=>cases hn
 |cons e aD=>show bW (k:=λc=>(cc F' aD).bind λcs=>À (gb.cons c cs)) h λc eU h'=>bW h' λIM hr z=>ć N (cF G F R mn mq hm hb (bP hh (Ï (fZ hs ih pos h h1 R F E) (λcb Ì ⟨aj,S,aC,bh,T⟩=>?_) λz z x=>x) (cN hs eU aD) (ji hs pos hr)));rw[<-hc];show Ï (rz he hA.handled G.sys aC bh) (λz z x=>bA.after S T x) λz z x=>x
theorem H7{Á:az}{d:Nat}(hA:iZ A d)(G:fN gg cx fs mg mb){F':Ô->Option CE}(hs:∀e p,F' (.Starred e p)=Ã)(ih:∀e c,F' e=À c->aS A Z O e (ab Á c)){x y:Ô}{a b:CE}{p' p2 pos Pg:Pos}
  (hg:bi Z.scope ("list":Str)=Æ) (IV:bi Z.scope ("zip":Str)=Æ) (ha:F' x=À a) (hb:F' y=À b):aS A Z O (.Call (.Name ("list":Str) p') [.Call (.Name ("zip":Str) p2) [x,y] [] Pg] [] pos) (ab Á (.zipl a b)):=by
 intro U H v ae he J s R F E;show r5 he λu Î w Ý h1 h2 he=>ie he λr xs hr hl he=>bW he λys hy he=>dF he λhz he=>?_;apply dn he
 have zw:cc F' [x,y]=À (.cons a (.cons b .nil)):=by show (F' x).bind _=_;rw[ha];show ((F' y).bind _).bind _=_;rw[hb];rfl
 have Zl:bO Á (.cons a (.cons b .nil)) U H=À ([u,w],Ý):=by show bT (ab Á a U H) _=_;rw[h1];show bT (bT (ab Á b U Î) λv Î=>bT (bO Á .nil U Î) λvs Ý=>À (v::vs,Ý)) (λvs Ý=>À (u::vs,Ý))=_;rw[h2];rfl
 show aO (bM hg) λmn mq=>aO (bM IV) λVi Vj=>ć N (cF G F R mn mq (by decide) (v:=.type "list") (by decide +kernel) (bP (.inr ⟨_,N⟩) (è (ć N (cF G F R Vi Vj (by decide) (v:=.type "zip") (by decide +kernel) (bP (.inr ⟨_,N⟩) (Ï (fZ hs ih Pg zw Zl R F E) (λcb Ì ⟨aj,S,aC,bh,T⟩=>bh.consE λva vr q1 Vu Vr=>Vr.consE λvb vn q2 Vw Vn=>?_) λk k x=>x) (cN hs ha [y]) (ji hs Pg (show cc F' [y]=À (.cons b .nil) by show (F' y).bind _=_;rw[hb];rfl))))) N) N N));rw[q1,q2,Vn.nilE];show aF (vR hr Vu) λl1 q3 q4=>?_;rw[q3];rw[mF hy]at Vw;show Ï (IC hA.handled aC q4 hl Vw hz) (λz cW h=>Ē (Ï h (λk k x=>?_) λk k x=>x)) λk k x=>x;rw[û];show bA.after S T x
set_option backward.match.sparseCases false in
noncomputable def MU:nX->String
 |.isInt=> "int" |.isBool=> "bool" |.isTuple=> "tuple" |.isStr=> "str" |.isList=> "list" |_=> ""
theorem Dj:∀q∈GL,q.1∈eN/\ę q.1=À (.type (MU q.2.2))/\MU q.2.2≠"" := by decide +kernel
theorem Jr(h:N8 t=À p):∃T,t∈eN/\ę t=À (.type T)/\∀a,ni p [a]=PySem.call (.builtin "isinstance") [a,.type T]:=by refine gH (Dj _ (mf h)) λh1 h2 h3=>⟨_,h1,h2,λa=>?_⟩;cases p<;>first|rfl|exact absurd N h3
theorem Lg{Á:az}{d:Nat}(hA:iZ A d)(G:fN gg cx fs mg mb){x:Ô}{t:Str}{p' Nc pos:Pos}{p:nX}{a:CE}(ic:∀e q,x≠.Starred e q)(hx:aS A Z O x (ab Á a))(hg:bi Z.scope ("isinstance":Str)=Æ)(IV:bi Z.scope t=Æ)
  (hp:N8 t=À p):aS A Z O (.Call (.Name ("isinstance":Str) p') [x,.Name t Nc] [] pos) (ab Á (.prim p (.cons a .nil))):=by
 intro U H v ae he J s R F E;show dz he λvs Î h1 he=>dz h1 λy Ý h2 h1=>aO (nT h1) λq1 q2=>(dN (Jr hp) λT hm hb hc=>aO (bM hg) λmn mq=>aO (bM IV) λVi Vj=>?_);subst q1 q2
 have fy:Ù [x,.Name t Nc] Z=(Ê,eval x Z)::Ù [.Name t Nc] Z:=by
  cases x with
  |Starred e q=>show absurd N (ic e q)
  |_=>rfl
 show ć N (cF G F R mn mq (by decide) (v:=.builtin "isinstance") (by decide +kernel) (bP (.inl ⟨_,N⟩) (è (hx.bind h2 R F λb Ì aj S T' aC a0 bh=>è (cF G a0 aC Vi Vj hm hb (Ē ?_))) fy) fy N));rw[<-hc];show Ï (rz he hA.handled G.sys aC (.one bh)) (λz z x=>bA.after S T' x) λz z x=>x
theorem H0{Á:az}{d:Nat}(hA:iZ A d)(G:fN gg cx fs mg mb){x:Ô}{p' Nc pos kp:Pos}{n:Nat}{a:CE}(ic:∀e q,x≠.Starred e q)(hx:aS A Z O x (ab Á a))(hg:bi Z.scope ("min":Str)=Æ):
  aS A Z O (.Call (.Name ("min":Str) p') [x] [⟨À ("default":Str),.Constant .none n Nc,kp⟩] pos) (ab Á (.prim .minD (.cons a .nil))):=by
 intro U H v ae he J s R F E;show dz he λvs Î h1 he=>dz h1 λy Ý h2 h1=>aO (nT h1) λq1 q2=>(aO (bM hg) λmn mq=>?_);subst q1 q2
 have fy:Ù [x] Z=(Ê,eval x Z)::Ù [] Z:=by
  cases x with
  |Starred e q=>show absurd N (ic e q)
  |_=>rfl
 show wpAny_Call_Name_kw (cF G F R mn mq (by decide) (v:=.builtin "min") (by decide +kernel) (callWith_kw (è (hx.bind h2 R F λb Ì aj S T' aC a0 bh=>Ē (Â (Â (wpAny_Constant_none (Â (đ (Ç (Â (à (Ç (Ç ?_))))))))))) fy) (by rw[fy];rfl) (by rw[fy];rfl)));show Ï (rz (p:=.minD) he hA.handled G.sys aC (.one bh)) (λz z x=>bA.after S T' x) λz z x=>x
theorem zY:∀q∈By,1<=q.2.1/\q.2.1<=2/\q.1=re q.2.2:=by decide +kernel
theorem vU(h:AP m n=À p):1<=n/\n<=2/\m=re p:=zY _ (mf h)
theorem xY(hs:∀e p,f (.Starred e p)=Ã)(pos:Pos)(h:cc f es=À cs):(Ĳ pos (Ù es Z)).all (λx=>!x.1)=Æ:=by
 have:=ji (Z:=Z) hs pos h;rw[List.any_eq_false]at this;rw[Ϧ];intro x hx;have:=this x hx
 simpa using this
theorem HZ{Á:az}(G:fN gg cx fs mg mb){F':Ô->Option CE}(hs:∀e p,F' (.Starred e p)=Ã)(ih:∀e c,F' e=À c->aS A Z O e (ab Á c)){o:Ô}{m:Str}{ap pos:Pos}{p:j3}{as:List Ô}{a:CE}{cs:gb}
  (ho:aS A Z O o (ab Á a)) (OG:Ah o=Æ) (qN:(ap.endLine==pos.line)=Æ) (hp:AP m as.length=À p) (h:cc F' as=À cs):aS A Z O (.Call (.Attribute o m ap) as [] pos) (ab Á (.meth p a cs)):=by
 intro U H v ae he J s R F E;show dz he λx Î h1 he=>dF he λhr he=>dz he λvs Ý h2 he=>gH (vU hp) λC8 C9 q3=>?_;apply aW q3;cases as with
 |nil=>cases C8
 |cons e aD=>
  show bW (k:=λc=>(cc F' aD).bind λcs=>À (gb.cons c cs)) h λc eU h'=>bW h' λIM Ry z=>ύ ?_ ?_ qN (ho.bind h1 R F λav Ì aj S T aC a0 bh=>?_)
  ·cases o with
   |Name x p=>rfl
   |Constant k n p=>rfl
   |Subscript x y p=>rfl
   |_=>cases OG
  ·rw[xY hs pos h]
   have:(e::aD).length+0+0<30:=by have:=C9;show jT (y3 0x1c001e9210b28012ba080112ba0812 N (iL C9) (iA _ _) (iA _ _))
   show decide_eq_true (p:=(e::aD).length+0+0<30) this
  ·show aO (xq (s:=Ì) hr aC bh) λhT hd=>⟨rg p,rd p,rh p,tm p,tq p,hT,hd,callWith_method1 (Ï (fZ hs ih pos h h2 aC a0 E) (λcb cW ⟨cR,dh,bu,dP,gO⟩=>Ï (Hc he G.sys bu (bh.step aC dh) dP) (λz z x=>bA.after (S.trans dh) (T.trans gO) x) λz z x=>x) λz z x=>x) (cN hs eU aD) (ji hs pos Ry)⟩
end
section
variable{A:Ñ}{E:Ä->Å->Prop}{J aj:List È}{H Î ae:ag}{s Ì:Å}{Z:Env}{O:List (Str×Nat)}{U:aL}{Á:az}{d:Nat}
theorem HW(hA:iZ A d)(he:aS A Z O e (ab Á c)):mB A Z O e Ê (cB Á (.ex c)):=by intro U H xs w ae h J s R F E;rw[kO]at h;show dz h λx Î h1 h=>BA h λl w' h2 h=>?_;apply jh h;show Ï (he U H x Î h1 J s R F E) (λa Ì hp=>Lq hA.handled h2 hp) λz z x=>x
theorem nv(h:jC a=Æ):-1000000000<=a/\a<=1000000000:=by
 simpa [jC] using h
theorem nD(ic:∀e q,x≠.Starred e q):Ù (x::aD) Z=(Ê,eval x Z)::Ù aD Z:=by
 cases x with
 |Starred e q=>show absurd N (ic e q)
 |_=>rfl
theorem xU(hA:A.handled=Ã)(hc:c≠0)(Dc:Builtin.Range.small a b c=Æ)(S:SE J s.heap aj Ì.heap)(R:ar gg aj H Ì.heap)(T:bJ s Ì):
  Co A J s (cp a b c) [] Ê H (.ref Ì.heap.objs.size) {Ì with heap:=Ì.heap.push {cls:=.type "range",data:=.fields #[.int a t,.int b u,.int c v]},toks:=tk}:=
 have hk:∀b' o,Ì.heap.get? b'=À o->(Ì.heap.push {cls:=.type "range",data:=.fields #[.int a t,.int b u,.int c v]}).get? b'=À o:=λb o e=>N' _ e
 D2 (Ì:={Ì with heap:=Ì.heap.push {cls:=.type "range",data:=.fields #[.int a t,.int b u,.int c v]},toks:=tk}) hA (IsRange.new ..) hc Dc (S.trans (SE.keeps _ hk)) (R.keeps hk) T
theorem H3(hA:iZ A d)(G:fN gg cx fs mg mb)(hg:bi Z.scope ("range":Str)=Æ)(ic:∀e q,x≠.Starred e q)(hx:aS A Z O x (ab Á a)):mB A Z O (.Call (.Name ("range":Str) p) [x] [] pos) Ê (cB Á (.rng1 a)):=by intro U H xs w ae h J s R F E;show AN h λn Î h1 h=>dF h λDc h=>?_;apply jh h;show aO (bM hg) λmn mq=>?_;have fy:Ù [x] Z=(Ê,eval x Z)::Ù [] Z:=nD ic;show ć N (cF G F R mn mq (by decide) (v:=.type "range") (by decide +kernel) (bP (.inr ⟨_,N⟩) (è (hx.bind h1 R F λb Ì aj S T aC a0 bh=>Ē ?_) fy) fy N));apply EN N bh;intro t1;show call_range_1 (xU hA.handled (by decide) (rH (by decide) (by decide) (nv Dc) (by decide)) S aC T)
theorem H4(hA:iZ A d)(G:fN gg cx fs mg mb)(hg:bi Z.scope ("range":Str)=Æ)(ic:∀e q,x≠.Starred e q)(OD:∀e q,y≠.Starred e q)(hx:aS A Z O x (ab Á a))(hy:aS A Z O y (ab Á b)):mB A Z O (.Call (.Name ("range":Str) p) [x,y] [] pos) Ê (cB Á (.rng2 a b)):=by
 intro U H xs w ae h J s R F E;show AN h λm Î h1 h=>AN h λn Ý h2 h=>dF h λDc h=>?_;apply jh h
 simp only[ň]at Dc
 show aO (bM hg) λmn mq=>?_;have fy:Ù [x,y] Z=(Ê,eval x Z)::Ù [y] Z:=nD ic;have se:Ù [y] Z=(Ê,eval y Z)::Ù [] Z:=nD OD;show ć N (cF G F R mn mq (by decide) (v:=.type "range") (by decide +kernel) (bP (.inr ⟨_,N⟩) (è (hx.bind h1 R F λb Ì aj S T aC a0 bh=>è (hy.bind h2 aC a0 λb' cW cR dh gO bu eQ dP=>Ē ?_) se) fy) fy (by rw[se];rfl)));apply EN N bh;intro t1;apply EN N dP;intro t2;show call_range_2 (xU hA.handled (by decide) (rH (by decide) (nv Dc.1) (nv Dc.2) (by decide)) (S.trans dh) bu (T.trans gO))
theorem Lo(hA:iZ A d)(G:fN gg cx fs mg mb)(hg:bi Z.scope ("zip":Str)=Æ)(ic:∀e q,x≠.Starred e q)(OD:∀e q,y≠.Starred e q)(hx:aS A Z O x (ab Á a))(hy:aS A Z O y (ab Á b)):mB A Z O (.Call (.Name ("zip":Str) p) [x,y] [] pos) Æ (cB Á (.zip a b)):=by intro U H xs w ae h J s R F E;rw[rN]at h;show r5 h λm Î n Ý h1 h2 h=>?_;show ie h λX7 ys' GD RC h=>?_;apply jh h;obtain rfl:=mF GD;obtain rfl:=mF RC;show aO (bM hg) λmn mq=>?_;have fy:Ù [x,y] Z=(Ê,eval x Z)::Ù [y] Z:=nD ic;have se:Ù [y] Z=(Ê,eval y Z)::Ù [] Z:=nD OD;show ć rfl (cF G F R mn mq (by decide) (v:=.type "zip") (by decide +kernel) (bP (.inr ⟨_,rfl⟩) (è (hx.bind h1 R F λb Ì aj S T aC a0 bh=>è (hy.bind h2 aC a0 λb' cW cR dh gO bu eQ dP=>Ē ?_) se) fy) fy (by rw[se];rfl)));show Lr hA.handled (S.trans dh) bu (bh.step aC dh) dP (T.trans gO)
theorem Lc(hA:iZ A d)(G:fN gg cx fs mg mb)(hg:bi Z.scope ("enumerate":Str)=Æ)(ic:∀e q,x≠.Starred e q)(hx:aS A Z O x (ab Á a)):mB A Z O (.Call (.Name ("enumerate":Str) p) [x] [] pos) Æ (cB Á (.enm a)):=by intro U H xs w ae h J s R F E;rw[rM]at h;show dz h λl Î h1 h=>bW h λX7 GD h=>?_;apply jh h;obtain rfl:=mF GD;show aO (bM hg) λmn mq=>?_;have fy:Ù [x] Z=(Ê,eval x Z)::Ù [] Z:=nD ic;show ć rfl (cF G F R mn mq (by decide) (v:=.type "enumerate") (by decide +kernel) (bP (.inr ⟨_,rfl⟩) (è (hx.bind h1 R F λb Ì aj S T aC a0 bh=>Ē (H9 hA.handled S aC bh T)) fy) fy rfl))
end
def yd:jS->Nat->Prop
 |.one a,i=>i=a
 |.two a b,i=>i=a\/i=b
section
variable{A:Ñ}{E:Ä->Å->Prop}{J aj:List È}{H Î ae:ag}{s Ì:Å}{Z:Env}{O:List (Str×Nat)}{U aR:aL}{Á:az}{d:Nat}
theorem eH.on(F:eH (br A) J Z O U h)(hr:∀y i v,O.lookup y=À i->aR i=À v->U i=À v):eH (br A) J Z O aR h:=by
 show⟨F.kind,F.glob,F.blt,?_,?_,F.locN,F.locB,F.cellF,F.cellI,F.slots,F.tab,F.stk⟩
 ·show aF F.ns λm hn hm=>⟨m,hn,λx i v a b c=>hm x i v a b (hr x i v a c)⟩
 ·intro x i a b
  show fu (F.cells x i a b) λc u h1 h2 h3=>⟨c,u,h1,h2,λv hv=>h3 v (hr x i v a hv)⟩
def TM(Z:Env)(ts:List Str)(b:È):Prop:=b=Z.locals\/∃x∈ts,Z.cells.lookup x=À b
theorem TM.fm(h:TM Z ts b):FM J Z b:=by
 show ã h (λh=>?_) (λq=>aF q λx z h=>?_)
 ·show .inr (.inl h)
 ·show .inr (.inr ⟨x,h⟩)
theorem cU.mono(S:cU ms J h aj h')(hm:∀b,ms b->ms' b):cU ms' J h aj h':=⟨λb o e hb=>S.pres b o e λx=>hb (hm b x),S.dom,S.ext⟩
theorem ph(h:oK Z.scope O x=À i):O.lookup x=À i/\(Z.kindOf x=À .local\/Z.kindOf x=À .cell):=by
 show dF h λhk h=>?_
 simp only[Ϙ,beq_iff_eq]at hk
 show⟨h,hk⟩
theorem sJ(h:fP Z.scope O (.Name x p)=À t):∃i,t=.one i/\O.lookup x=À i/\(Z.kindOf x=À .local\/Z.kindOf x=À .cell):=by show bW h λi h1 h=>?_;apply dC h;show⟨i,N,ph h1⟩
structure yD(Z:Env)(O:List (Str×Nat))(x:Str)(i:Nat):Prop where
 lk:O.lookup x=À i
 kd:Z.kindOf x=À .local\/Z.kindOf x=À .cell
inductive Qn(Z:Env)(O:List (Str×Nat)):Ô->jS->Prop
 |one {x:Str} {p:Pos} {i:Nat}:yD Z O x i->Qn Z O (.Name x p) (.one i)
 |two {x y:Str} {p q:Pos} {k:Nat} {pp:Pos} {i j:Nat}:yD Z O x i->yD Z O y j->Qn Z O (.Tuple [.Name x p,.Name y q] k pp) (.two i j)
theorem yD.of(h:oK Z.scope O x=À i):yD Z O x i:=aO (ph h) λa b=>⟨a,b⟩
theorem ql(h:fP Z.scope O t=À r):Qn Z O t r:=by
 unfold fP at h;cases hn:dj t with
 |some x=>rw[hn]at h;show bW h λi h1 h=>?_;apply dC h;show W' (bB hn) λp ht=>ht▸.one (.of h1)
 |none=>
  rw[hn]at h;show bW h λl hl h=>BA h λa b hl2 h=>ie h λx y hx hy h=>?_;show aO (zM h) λz h=>ie h λi j h1 h2 h=>?_;apply dC h;show mM (qh hl) λk pp ht=>W' (bB hx) λp hp=>W' (bB hy) λq hq=>?_;have e:t=.Tuple [.Name x p,.Name y q] k pp:=by rw[ht,hG hl2,show a=_ from hp,show b=_ from hq]
  show e▸.two (.of h1) (.of h2)
theorem Qn.all(h:Qn Z O t r):(∀i,yd r i->∃x∈ba t,O.lookup x=À i)/\∀x∈ba t,∃i,O.lookup x=À i/\yd r i:=by
 cases h with
 |one n=>show⟨λi hi=>⟨_,G',(show i=_ from hi)▸n.lk⟩,λx hx=>⟨_,(O'.mp (show x∈[_] from hx))▸n.lk,N⟩⟩
 |two n m=>show⟨λi hi=>ã (show i=_\/i=_ from hi) (λq=>⟨_,G',q▸n.lk⟩) λq=>⟨_,J' _ G',q▸m.lk⟩,λx hx=>ã (Ĉ.mp (show x∈[_,_] from hx)) (λq=>⟨_,q▸n.lk,.inl N⟩) λq=>⟨_,O'.mp q▸m.lk,.inr N⟩⟩
theorem TM.one(hx:x∈ts)(b:È)(h:NM Z x b):TM Z ts b:=h.imp id λq=>⟨x,hx,q⟩
theorem Fa(h:tM x=À p):Cz x=À [p.1,p.2]:=by
 cases x with
 |tup l=>
  match l,h with
  |[a,b],h=>rw[<-sm h];rfl
 |_=>show no h
theorem Lw(hh:A.handled=Ã)(pzJ:yD Z O x i)(M:yD Z O y j)(hp:(jS.two i j).put v U=À aR)(R:ar gg J H s.heap)(F:eH (br A) J Z O U s.heap)(hv:VR gg J s.heap v a)
  (h:∀h' tk,cU (TM Z [x,y]) J s.heap J h'->ar gg J H h'->eH (br A) J Z O aR h'->(∀{v:V} {a:Ä},VR gg J s.heap v a->VR gg J h' v a)->Q () {s with heap:=h',toks:=tk}) :
  É mo A (assign (.Tuple [.Name x p,.Name y q] k pp) Z a) Q E s:=by
 show BA hp λa' b' hx hp=>?_;rw[<-sm hp]at h;show Mj (vT (Fa hx) hv) λc vs e ht t Be t=>fu (vq Be) λva vb q3 PX Z4=>?_;rw[q3]at ht;apply aW e;show wpAny_assign_Tuple hh ht N N λbF hx=>?_;have hk:∀b o,s.heap.get? b=À o->bF.get? b=À o:=λb o e=>hx b o (ŉ (ō e)) e;have iJ:SE J s.heap J bF:=SE.keeps _ hk;show Â (à (Į (fE (s:={s with heap:=bF}) (F.step R iJ) (R.keeps hk) pzJ.lk pzJ.kd (PX.step R iJ) λjx Sm dh bu eQ Nu=>Â (à (Į (fE (s:={s with heap:=jx,toks:=Sm}) eQ bu M.lk M.kd (Nu (Z4.step R iJ)) λdZ rS jr jp rY pq=>Ç (h dZ rS ⟨λb o e hb=>(dh.pres b o (hk b o e) λz=>hb (TM.one G' b z)).then λo' e'=>jr.pres b o' e' λz=>hb (TM.one (J' _ G') b z),λb o e=>(dh.dom b o (hk b o e)).elim (jr.dom b),[],(Ĵ _).symm,λt hm=>(nomatch hm)⟩ jp rY λx=>pq (Nu (x.step R iJ)))))))))
theorem vm(hh:A.handled=Ã)(hc:fP Z.scope O t=À r)(hp:r.put x U=À aR)(R:ar gg J H s.heap)(F:eH (br A) J Z O U s.heap)(hv:VR gg J s.heap x a)
  (h:∀h' tk,cU (TM Z (ba t)) J s.heap J h'->ar gg J H h'->eH (br A) J Z O aR h'->(∀{v:V} {a:Ä},VR gg J s.heap v a->VR gg J h' v a)->Q () {s with heap:=h',toks:=tk}) :
  É mo A (assign t Z a) Q E s:=by
 have c:=ql hc;clear hc;cases c with
 |one n=>rw[<-sm hp]at h;show Į (fE F R n.lk n.kd hv λh' tk S R' F' up=>h h' tk (S.mono (TM.one G')) R' F' up)
 |two n m=>show Lw hh n m hp R F hv h
end
noncomputable def EM(nx:Nat)(U:aL):aL:=λi=>if i<nx then U i else Ã
theorem cK:∀(names:List (Str×ą)) (n:Nat) (acc:List (Str×È)),ì n names acc=ì n names []++acc
 |[],_,_=>rfl
 |(x,k)::r,n,acc=>by
  unfold ì;split
  ·rw[cK r (n+1) ((x,n)::acc),cK r (n+1) [(x,n)]];simp
  ·show cK r n acc
set_option tactic.hygienic true in
theorem iO:∀(names:List (Str×ą)) (n:Nat) {x:Str} {c:È},(x,c)∈ì n names []->(x,.cell)∈names
 |[],_,_,_,h=>by simp [ì]at h
 |(y,k)::r,n,x,c,h=>by
  unfold ì at h;split at h
  ·rename_i hk
   rw[cK]at h;show ã (Ģ.mp h) (λh=>?_) (λh=>?_)
   ·show J' _ (iO r _ h)
   ·simp at h
    rw[h.1,beq_iff_eq.mp hk];show G'
  ·show J' _ (iO r _ h)
theorem de{α:Type}{x:Str}{c:α}{l:List (Str×α)}(h:(x,c)∈l):∃c',l.lookup x=À c':=by
 induction l with
 |nil=>show nomatch h
 |cons p r ih=>
  cases p with|mk y b=>
  rw[ϊ];cases hb:x==y with
  |true=>show⟨b,N⟩
  |false=>
   show ã (Ĉ.mp h) (λh=>?_) (λh=>?_)
   ·cases h;simp at hb
   ·show ih h
theorem ej:∀(names:List (Str×ą)) (n:Nat) {x:Str},(x,.cell)∈names->∃c,(x,c)∈ì n names []
 |(y,k)::r,n,x,h=>by
  unfold ì;show ã (Ĉ.mp h) (λh=>?_) (λh=>?_)
  ·cases h
   rw[if_pos (show (NameKind.cell==NameKind.cell)=Æ from rfl),cK];show⟨n,by simp⟩
  ·split
   ·show W' (ej r (n+1) h) λc hc=>?_
    rw[cK];show⟨c,Ź _ hc⟩
   ·show ej r n h
noncomputable def du(Z:Env):List (Str×ą)->List (Str×È)->List (Str×È)
 |[],acc=>acc
 |(n,k)::r,acc=>if k==.free then (match Z.cells.lookup n with|some c=>du Z r ((n,c)::acc)|none=>acc) else du Z r acc
theorem ll(scope:á)(h:∀n,(n,NameKind.free)∈scope.names->∃c,Z.cells.lookup n=À c):closureFor scope Z=pure (du Z scope.names []):=by
 unfold closureFor
 have gJ:∀(l:List (Str×ą)) (acc:List (Str×È)),(∀n,(n,NameKind.free)∈l->∃c,Z.cells.lookup n=À c) ->
   (forIn l acc λ(x:Str×ą) (cs:List (Str×È))=>(match x with|(name,kind)=>if (kind==.free)=Æ then (do let c <-cellOf Z name;pure (ForInStep.yield ((name,c)::cs))) else pure (ForInStep.yield cs):Sem (ForInStep (List (Str×È)))))=(pure (du Z l acc):Sem (List (Str×È))):=by
  intro l
  induction l with
  |nil=>intro acc _;rfl
  |cons x r ih=>
   intro acc h;obtain ⟨n,k⟩:=x;rw[adk];by_cases hk:(k==NameKind.free)=Æ
   ·show W' (h n ((beq_iff_eq.mp hk)▸G')) λc hc=>?_
    have e1:cellOf Z n=pure c:=by unfold cellOf;rw[hc]
    simp only[hk,if_true,e1,pure_bind]
    rw[ih _ λn hn=>h n (J' _ hn)]
    simp only[du,hk,if_true,hc]
   ·simp only[hk,abR,if_false,pure_bind]
    rw[ih _ λn hn=>h n (J' _ hn)]
    simp only[du,hk,abR,if_false]
 rw[show (do
   let mut cs:=[]
   for (name,kind) in scope.names do
    if kind==.free then cs:=(name,<-cellOf Z name)::cs
   return cs:Sem (List (Str×È)))=(forIn scope.names [] λ(x:Str×ą) (cs:List (Str×È))=>(match x with|(name,kind)=>if (kind==.free)=Æ then (do let c <-cellOf Z name;pure (ForInStep.yield ((name,c)::cs))) else pure (ForInStep.yield cs):Sem (ForInStep (List (Str×È)))))>>=λcs=>pure cs from N,gJ _ _ h]
 rfl
set_option tactic.hygienic true in
theorem kD:∀{l:List (Str×ą)} {acc:List (Str×È)} {n:Str} {c:È},(n,c)∈du Z l acc->((n,.free)∈l/\Z.cells.lookup n=À c)\/(n,c)∈acc
 |[],_,_,_,h=>.inr h
 |(x,k)::r,acc,n,c,h=>by
  unfold du at h;split at h
  ·rename_i hk
   split at h
   ·rename_i c' hc
    show ã (kD h) (λq=>aO q λh1 h2=>?_) (λh1=>?_)
    ·show .inl ⟨J' _ h1,h2⟩
    ·show ã (Ĉ.mp h1) (λh1=>?_) (λh1=>?_)
     ·cases h1;show .inl ⟨by rw[beq_iff_eq.mp hk];show G',hc⟩
     ·show .inr h1
   ·show .inr h
  ·show ã (kD h) (λq=>aO q λh1 h2=>?_) (λh1=>?_)
   ·show .inl ⟨J' _ h1,h2⟩
   ·show .inr h1
set_option tactic.hygienic true in
theorem sM:∀(acc:List (Str×È)),(∀n,(n,NameKind.free)∈l->∃c,Z.cells.lookup n=À c)->(∀n c,(n,c)∈acc->(n,c)∈du Z l acc)/\∀{n c},(n,NameKind.free)∈l->Z.cells.lookup n=À c->(n,c)∈du Z l acc:=by
 induction l with
 |nil=>show λacc _=>⟨λ_ _ h=>h,λh=>nomatch h⟩
 |cons p r ih=>
  intro acc hf;cases p with|mk x k=>
  unfold du;have EJ:∀n,(n,NameKind.free)∈r->∃c,Z.cells.lookup n=À c:=λn hn=>hf n (J' _ hn);split
  ·rename_i hk
   show W' (hf x ((beq_iff_eq.mp hk)▸G')) λc' eU=>?_;rw[eU];show aO (ih ((x,c')::acc) EJ) λi1 i2=>⟨λn c h=>i1 n c (J' _ h),λ{n c} h e=>ã (Ĉ.mp h) (λh=>?_) (λh=>?_)⟩
   ·cases h
    apply fv (sm ((eU).symm.trans e));show i1 _ _ G'
   ·show i2 h e
  ·rename_i hk
   show aO (ih acc EJ) λi1 i2=>⟨i1,λ{n c} h e=>ã (Ĉ.mp h) (λh=>?_) (λh=>?_)⟩
   ·cases h;simp at hk
   ·show i2 h e
theorem mj{i:Nat}{x:Str}{ts:List Str}:∀{n:Nat},(ts.zipIdx n).lookup x=À i->n<=i/\ts[i-n]?=À x:=by
 induction ts with
 |nil=>show λh=>no h
 |cons t ts ih=>
  intro n h;rw[adN,ϊ]at h;cases hb:x==t with
  |true=>rw[hb]at h;cases h;show⟨Đ _,by rw[beq_iff_eq.mp hb];simp⟩
  |false=>rw[hb]at h;show aO (ih h) λh1 h2=>⟨(by show jL (y3 0xc1210b1013ba1820 N (iL h1) (iA _ _))),?_⟩;have:i-n=(i-(n+1))+1:=ť (by show jL (y6 0xc4512ba181010ba03213ba183412be125 N (iA _ _) (iS _ _) (iA _ _) (ϵ (jL (y3 0xc1210b1013ba1820 N (iL h1) (iA _ _)))))) (by show jL (y6 0xc5213ba181012ba183210ba15412be043 N (iA _ _) (iA _ _) (iS _ _) (ϵ (jL (y2 0xc1010b10 N (iL h1))))));rw[this,aej];show h2
structure lJ(scope bQ:á)(O:List (Str×Nat))(nx:Nat)(ts:List Str):Prop where
 kind:scope.kind=.function
 kinds:∀n k,(n,k)∈scope.names->k=.local\/k=.cell\/k=.free\/k=.globalImplicit
 uniq:∀n k,(n,k)∈scope.names->scope.names.lookup n=À k
 free:∀n,(n,NameKind.free)∈scope.names->(bQ.names.lookup n=À .cell\/bQ.names.lookup n=À .free)/\∃i,O.lookup n=À i
 tgts:∀t∈ts,scope.names.lookup t=À .local\/scope.names.lookup t=À .cell
 below:∀n i,(n,i)∈O->i<nx
 lev:fS (je scope bQ)=Ê
theorem sN(h:tW scope bQ O nx ts=Æ):lJ scope bQ O nx ts:=by
 simp only[tW,ň,Ϧ,Ϙ,beq_iff_eq,decide_eq_true_eq,bne_iff_ne,ne_eq,abt,ώ]at h
 show aO h λk1 h8=>?_;show aO k1 λk5 h7=>?_;show aO k5 λk6 h6=>?_;obtain ⟨⟨⟨⟨h1,h2⟩,h3⟩,h4⟩,_⟩:=k6;show⟨h1,λn k hm=>?_,λn k hm=>h3 (n,k) hm,λn hm=>?_,h6,λn i hm=>h7 (n,i) hm,h8⟩
 ·have:=h2 (n,k) hm
  rcases this with ((h|h)|h)|h
  ·show .inl h
  ·show .inr (.inl h)
  ·show .inr (.inr (.inl h))
  ·show .inr (.inr (.inr h))
 ·show ã (h4 (n,.free) hm) (λh=>?_) (λh=>?_)
  ·show absurd N h
  ·show h
theorem dJ(scope:á)(Z:Env):relabel scope Z=je scope Z.scope:=by unfold relabel je Env.kindOf;rfl
theorem xr{bQ:á}{x:Str}{k:ą}{names:List (Str×ą)}(h:names.lookup x=À k):
  (names.map λ(n,k)=>if (k==NameKind.free&&bQ.kind==.function&&bQ.names.lookup n==À .cell) then (n,NameKind.cell) else (n,k)).lookup x=À (if (k==NameKind.free&&bQ.kind==.function&&bQ.names.lookup x==À .cell) then .cell else k):=by
 induction names with
 |nil=>show no h
 |cons p r ih=>
  cases p with|mk n k'=>
  show List.lookup x ((if (k'==NameKind.free&&bQ.kind==.function&&bQ.names.lookup n==À .cell)=Æ then (n,NameKind.cell) else (n,k'))::_)=_;cases hx:x==n with
  |true=>
   simp only[ϊ,hx]at h
   cases h;have:x=n:=by simpa using hx
   apply aW this;split<;>simp
  |false=>
   simp only[ϊ,hx]at h
   split<;>(simp only[ϊ,hx];show ih h)
theorem tz{scope bQ:á}{x:Str}{k:ą}(h:scope.names.lookup x=À k):(je scope bQ).names.lookup x=À (if (k==NameKind.free&&bQ.kind==.function&&bQ.names.lookup x==À .cell) then .cell else k):=xr h
theorem fz(x:Str):∀(a b:List (Str×α)),(a++b).lookup x=match a.lookup x with|some v=>À v|none=>b.lookup x
 |[],b=>rfl
 |(y,v)::a,b=>by
  rw[aek,ϊ,ϊ];cases x==y with
  |true=>rfl
  |false=>show fz x a b
theorem r8{O:List (Str×Nat)}{x:Str}{i:Nat}{names:List (Str×ą)}(h:(names.filterMap λ(n,k)=>if k==.free then (O.lookup n).map λi=>(n,i) else Ã).lookup x=À i):(x,.free)∈names/\O.lookup x=À i:=by
 induction names with
 |nil=>show no h
 |cons p r ih=>
  cases p with|mk n k=>
  rw[ade]at h;by_cases hk:(k==NameKind.free)=Æ
  ·simp only[hk,if_true]at h
   cases hn:O.lookup n with
   |none=>rw[hn]at h;show aO (ih h) λh1 h2=>⟨J' _ h1,h2⟩
   |some j=>
    rw[hn]at h
    simp only[afj,ϊ]at h
    cases hb:x==n with
    |true=>
     rw[hb]at h;cases h;have:x=n:=by simpa using hb
     apply aW this;show⟨(beq_iff_eq.mp hk)▸G',hn⟩
    |false=>rw[hb]at h;show aO (ih h) λh1 h2=>⟨J' _ h1,h2⟩
  ·simp only[hk,abR,if_false]at h
   show aO (ih h) λh1 h2=>⟨J' _ h1,h2⟩
set_option tactic.hygienic true in
theorem cw{scope:á}{O:List (Str×Nat)}{nx:Nat}{ts:List Str}{x:Str}{i:Nat}(h:(cn scope O nx ts).lookup x=À i):(nx<=i/\ts[i-nx]?=À x)\/((x,.free)∈scope.names/\O.lookup x=À i):=by
 unfold cn at h;rw[fz]at h;split at h
 ·rename_i v hv
  cases h;show .inl (mj hv)
 ·show .inr (r8 h)
section
variable{A:Ñ}{E:Ä->Å->Prop}{J aj:List È}{H:ag}{s:Å}{Z:Env}{O:List (Str×Nat)}{U:aL}
theorem AR(F:eH (br A) J Z O U h)(K:lJ scope Z.scope O nx ts):∀n,(n,NameKind.free)∈scope.names->∃c,Z.cells.lookup n=À c:=λn hn=>by obtain ⟨h1,i,hi⟩:=K.free n hn;show gq (F.cells n i hi h1) λc u hc z=>⟨c,hc⟩
end
def kE(A:Ñ)(E:Ä->Å->Prop)(J:List È)(H:ag)(s:Å)(Z:Env)(O:List (Str×Nat))(U:aL)(scope:á)(nx:Nat)(ts:List Str)(Q:Env->Å->Prop):Prop:=∀(K:lJ scope Z.scope O nx ts) (R:ar gg J H s.heap) (F:eH (br A) J Z O U s.heap) (h:∀cenv h',(∀b o,s.heap.get? b=À o->h'.get? b=À o)->cenv.scope=scope->eH (br A) J {cenv with scope:=relabel scope Z} (cn scope O nx ts) (EM nx U) h'->s.heap.get? cenv.locals=Ã ->
   (∀x∈ts,∀c,cenv.cells.lookup x=À c->s.heap.get? c=Ã)->(∀x c,cenv.cells.lookup x=À c->s.heap.get? c=Ã\/∃y,Z.cells.lookup y=À c)->Q cenv {s with heap:=h'}),É mo A (newFunctionEnv scope Z.globals (du Z scope.names []) [] Z.qual Ã .none (À Z)) Q E s
namespace comp_envH
def kc:=hc (NO kE) ({},λz z=>True,[],[],dS,default,[],λz=>Ã,default,0,[],λz z=>True)
def A:=kc.1
def E:=kc.2.1
def J:=kc.2.2.1
def H:=kc.2.2.2.1
def s:=kc.2.2.2.2.1
def Z:=kc.2.2.2.2.2.1
def O:=kc.2.2.2.2.2.2.1
def U:=kc.2.2.2.2.2.2.2.1
def scope:=kc.2.2.2.2.2.2.2.2.1
def nx:=kc.2.2.2.2.2.2.2.2.2.1
def ts:=kc.2.2.2.2.2.2.2.2.2.2.1
def Q:=kc.2.2.2.2.2.2.2.2.2.2.2
set_option tactic.hygienic true in
theorem kt:kE A E J H s Z O U scope nx ts Q:=by
 intro K R F h;have hf:=AR F K
 simp only[newFunctionEnv,Option.isSome_some,if_true]
 show Â (wpAny_alloc (Â (wpAny_layCells _ (λname kind cells=>by cases Vs:kind==NameKind.cell<;>simp [Vs]) _ _ _ _ ?_)));have ok:=cellsFrom_ok scope.names (s.heap.push {cls:=.type "dict",data:=.dict #[]}) (s.heap.objs.size+1) [] ⟨λ_ _ hm=>(nomatch hm),List.Pairwise.nil⟩ (by rw[ϐ];show Đ _);rw[ϐ]at ok;rw[show ({s with heap:=s.heap.push {cls:=.type "dict",data:=.dict #[]}}:Å).heap.objs.size=s.heap.objs.size+1 from ϐ ..];rw[cK];rw[adx];show Â (Ç (Ç ?_));have hk:∀b o,s.heap.get? b=À o->(pushCells (s.heap.push {cls:=.type "dict",data:=.dict #[]}) scope.names).get? b=À o:=λb o e=>pushCells_keeps _ _ b o (N' _ e);have ic:=(Heap.Ns.new s.heap (.type "dict")).keeps (pushCells_keeps scope.names (s.heap.push {cls:=.type "dict",data:=.dict #[]}));generalize pushCells (s.heap.push {cls:=.type "dict",data:=.dict #[]}) scope.names=h' at ok hk ic;have S:SE J s.heap J h':=SE.keeps _ hk
 -- the cells
 have rx:∀{x c},(ì (s.heap.objs.size+1) scope.names []).lookup x=À c->h'.IsCell c Ã/\s.heap.objs.size+1<=c/\scope.names.lookup x=À .cell:=λ{x c} e=>by have hm:=mem_of_lookup e;show⟨(ok.empty x c hm).1,(ok.empty x c hm).2,K.uniq _ _ (iO _ _ hm)⟩
 have nZ:∀{x c},(du Z scope.names []).lookup x=À c->Z.cells.lookup x=À c/\scope.names.lookup x=À .free:=λ{x c} e=>by
  show ã (kD (mem_of_lookup e)) (λq=>aO q λh1 h2=>?_) (λh1=>?_)
  ·show⟨h2,K.uniq _ _ h1⟩
  ·cases h1
 have Ha:∀{x c},(ì (s.heap.objs.size+1) scope.names []++du Z scope.names []).lookup x=À c->(ì (s.heap.objs.size+1) scope.names []).lookup x=À c\/(du Z scope.names []).lookup x=À c:=λ{x c} e=>by
  rw[fz]at e;split at e
  ·rename_i v hv;cases e;show .inl hv
  ·show .inr e
 have uh:∀{c},s.heap.objs.size+1<=c->s.heap.get? c=Ã:=λhc=>gT (z' (ϝ _) hc);show h {scope,locals:=s.heap.objs.size,globals:=Z.globals,cells:=ì (s.heap.objs.size+1) scope.names []++du Z scope.names [],qual:=Z.qual,func:=Ã,code:=Z.code,frame:=Z.frame,builtins:=Z.builtins} h' hk N ?_ (aH _) ?_ ?_
 ·show⟨?_,F.glob,F.blt,⟨_,ic,?_⟩,?_,aX R (aH _),aV R (aH _),?_,?_,?_,λq=>?_,F.stk.to λL o es ep h1 h2 h3=>⟨⟨o,es,ep,hk L o h1,h2⟩,h3⟩⟩
  rotate_right
  ·have q':fS (relabel scope Z)=Æ:=q
   rw[dJ,K.lev]at q';show absurd q' Ķ
  ·show (relabel scope Z).kind=_
   show K.kind
  ·intro x i v hx EK uC
   exfalso
   show ã (cw hx) (λq=>aO q λh1 h2=>?_) (λq=>aO q λh1 h2=>?_)
   ·simp [EM,ľ.mpr h1]at uC
   ·have e1:(relabel scope Z).names.lookup x=À .local:=EK
    rw[dJ,tz (K.uniq _ _ h1)]at e1;split at e1<;>cases e1
  ·intro x i hx EK
   show ã (cw hx) (λq=>aO q λh1 h2=>?_) (λq=>aO q λh1 h2=>?_)
   ·have ht:=K.tgts x (ĥ h2)
    have hc:scope.names.lookup x=À .cell:=by
     show ã ht (λht=>?_) (λht=>?_)
     ·have e1:(relabel scope Z).names.lookup x=À .local:=by
       rw[dJ,tz ht];rfl
      show ã EK (λq=>?_) (λq=>?_)
      ·have q':(relabel scope Z).names.lookup x=À .cell:=q
       rw[e1]at q';cases q'
      ·have q':(relabel scope Z).names.lookup x=À .free:=q
       rw[e1]at q';cases q'
     ·show ht
    show W' (ej scope.names (s.heap.objs.size+1) (mem_of_lookup hc)) λc Zf=>W' (de Zf) λc' eU=>⟨c',Ã,?_,(rx eU).1,λv hv=>?_⟩
    ·show (ì (s.heap.objs.size+1) scope.names []++du Z scope.names []).lookup x=À c'
     rw[fz,eU]
    ·simp [EM,ľ.mpr h1]at hv
   ·obtain ⟨h3,j,hj⟩:=K.free x h1
    show fu (F.cells x i h2 h3) λc u hc Os hv=>W' (de ((sM [] hf).2 h1 hc)) λc' eU=>?_;have Mt:c'=c:=by have:=(nZ eU).1;rw[hc]at this;show(Option.some.inj this).symm
    subst Mt;show⟨c',u,?_,Os.keeps hk,λv s6=>?_⟩
    ·show (ì (s.heap.objs.size+1) scope.names []++du Z scope.names []).lookup x=À c'
     rw[fz];cases q:(ì (s.heap.objs.size+1) scope.names []).lookup x with
     |none=>show eU
     |some z=>have:=(rx q).2.2;rw[K.uniq _ _ h1]at this;cases this
    ·have:U i=À v:=by
      unfold EM at s6;split at s6
      ·show s6
      ·show no s6
     show aF (hv v this) λa h4 h5=>⟨a,h4,h5.step R S⟩
  ·intro x c e
   show ã (Ha e) (λe=>?_) (λe=>?_)
   ·show gH (rx e) λh1 h2 _=>⟨⟨_,h1⟩,aX R (uh h2),ū h2,aV R (uh h2)⟩
   ·show aO (nZ e) λh1 _=>EC (F.cellF x c h1) λk2 h2 h3 h4=>?_;show W' k2 λu hu=>?_
    show⟨⟨u,hu.keeps hk⟩,h2,ŉ hu.lt,h4⟩
  ·intro x y c e1 e2
   rcases Ha e1 with e1|e1<;>show ã (Ha e2) (λe2=>?_) (λe2=>?_)
   ·show name_of_addr ok.apart (mem_of_lookup e1) (mem_of_lookup e2)
   ·exfalso
    show gH (rx e1) λ_ h2 _=>aO (F.cellF y c (nZ e2).1) λk3 _=>?_;show W' k3 λu hu=>?_;show absurd hu.lt (ľ.mpr (z' (ϝ _) h2))
   ·exfalso
    show gH (rx e2) λ_ h2 _=>aO (F.cellF x c (nZ e1).1) λk4 _=>?_;show W' k4 λu hu=>?_;show absurd hu.lt (ľ.mpr (z' (ϝ _) h2))
   ·show F.cellI x y c (nZ e1).1 (nZ e2).1
  ·intro x y i e1 e2
   rcases cw e1 with ⟨h1,h2⟩|⟨h1,h2⟩<;>show ã (cw e2) (λq=>aO q λh3 h4=>?_) (λq=>aO q λh3 h4=>?_)
   ·rw[h2]at h4;show Option.some.inj h4
   ·have:=K.below _ _ (mem_of_lookup h4);lia
   ·have:=K.below _ _ (mem_of_lookup h2);lia
   ·show F.slots x y i h2 h4
 ·intro x hx c e
  show ã (Ha e) (λe=>?_) (λe=>?_)
  ·show uh (rx e).2.1
  ·exfalso
   have:=(nZ e).2;rcases K.tgts x hx with q|q<;>(rw[q]at this;cases this)
 ·intro x c e
  show ã (Ha e) (λe=>?_) (λe=>?_)
  ·show .inl (uh (rx e).2.1)
  ·show .inr ⟨x,(nZ e).1⟩
end comp_envH
theorem FC:kE A E J H s Z O U scope nx ts Q:=hk (P:=NO kE) comp_envH.kt (A,E,J,H,s,Z,O,U,scope,nx,ts,Q)
def NT(h:Ó)(b:È):Prop:=∀o,h.get? b=À o->¬ j0 o
theorem ed.nt(x:ed h b):NT h b:=λo e=>by show aF x λo' e' hn=>?_;apply aW (sm ((e).symm.trans e'));show hn.not
section
variable{A:Ñ}{E:Ä->Å->Prop}{J aj ļ:List È}{H:ag}{s Þ:Å}{Z:Env}{O:List (Str×Nat)}{U:aL}{wr:List È}
theorem Mv.tupT(M:Mv wr J h h')(hw:∀b∈wr,NT h b):∀b o,h.get? b=À o->j0 o->b∉J->h'.get? b=À o/\b∉J:=
 λb o e hs hn=>⟨M b o (λhb=>hw b hb o e hs) hn e,hn⟩
theorem Mv.vrT(M:Mv wr J h h')(hw:∀b∈wr,NT h b)(x:VR gg J h v a):VR gg J h' v a:=x.stepT (λz z e=>e) (M.tupT hw)
theorem Mv.vrsT(M:Mv wr J h h')(hw:∀b∈wr,NT h b)(x:bq gg J h l vs):bq gg J h' l vs:=x.stepT (λz z e=>e) (M.tupT hw)
theorem ar.mvT(R:ar gg J H h)(M:∀b o,b∉wr->h.get? b=À o->h'.get? b=À o)(hw:∀b∈wr,NT h b)(hn:∀b∈wr,b∉J)(hB:∀b∈wr,gg.B.get? b=Ã):ar gg J H h':=by have M':Mv wr J h h':=λb o h1 z e=>M b o h1 e;show⟨λb o e=>M b o (λhb=>by rw[hB b hb]at e;show no e) (R.base b o e),R.fresh,R.len,R.nodup,λi a m h1 h2=>?_,R.tabs⟩;show(R.objs i a m h1 h2).stepT (λz z e=>e) (M'.tupT hw) λo e=>M _ o (λhb=>hn _ hb (ĥ h1)) e
theorem eH.mv(F:eH (br A) J Z O U h)(M:Mv wr J h h')(hw:∀b∈wr,NT h b)(hL:Z.locals∉wr)(hC:∀x c,Z.cells.lookup x=À c->c∉wr)(hS:∀e∈(br A),∀L,e.frame=À L->L∉wr):eH (br A) J Z O U h':=by
 show aF F.ns λm hn hm=>?_
 have wW:∀x c u,Z.cells.lookup x=À c->h.IsCell c u->h'.IsCell c u:=λx c u e y=>by show aF y λo ho hd=>⟨o,M _ _ (hC x c e) (F.cellF x c e).2.1 ho,hd⟩
 show⟨F.kind,F.glob,F.blt,⟨m,?_,λx i v a b c=>?_⟩,λx i a b=>?_,F.locN,F.locB,λx c e=>?_,F.cellI,F.slots,F.tab,λe he=>?_⟩
 rotate_right
 ·obtain ⟨k1,L,o,es,ep,k2,k3,k4,k5,k6⟩:=F.stk e he
  show⟨k1,L,o,es,ep,k2,M L o (hS e he L k2) k5 k3,k4,k5,k6⟩
 ·show oS hn λo es ep ho r=>⟨o,es,ep,M _ _ hL F.locN ho,r⟩
 ·show aF (hm x i v a b c) λy h1 h2=>⟨y,h1,M.vrT hw h2⟩
 ·show fu (F.cells x i a b) λc u h1 h2 h3=>⟨c,u,h1,wW x c u h1 h2,λv hv=>aF (h3 v hv) λy h4 h5=>⟨y,h4,M.vrT hw h5⟩⟩
 ·show EC (F.cellF x c e) λk8 h1 h2 h3=>?_;show W' k8 λu hu=>?_
  show⟨⟨u,wW x c u e hu⟩,h1,h2,h3⟩
theorem eH.mvN(F:eH (br A) J Z O U h)(M:Mv wr J h h')(hw:∀b∈wr,ed h b)(hL:Z.locals∉wr)(hC:∀x c,Z.cells.lookup x=À c->c∉wr):eH (br A) J Z O U h':=
 F.mv M (λb hb=>(hw b hb).nt) hL hC λe he L hf hb=>by obtain ⟨_,L',o,es,ep,k2,k3,k4,_⟩:=F.stk e he;show aF (hw L hb) λo' e' ho=>?_;rw[hf]at k2;cases k2;rw[k3]at e';cases e';show ho.dict _ _ k4
theorem cU.mv(S:cU ms ļ aZ J h)(R':ar gg J H h')(M:Mv wr J h h')(Zy:∀b,b∈ļ->ms b)(hf:∀b∈wr,aZ.get? b=Ã):cU ms ļ aZ J h':=by
 have nw:∀b o,aZ.get? b=À o->b∉wr:=λb o e hb=>by rw[hf b hb]at e;show no e
 show⟨λb o e hb=>(S.pres b o e hb).then λo' e'=>.inl (M b o' (nw b o e) (S.notin e λq=>hb (Zy b q)) e'),λb o e=>?_,S.ext⟩;by_cases hb:b∈J
 ·show R'.live hb
 ·show W' (S.dom b o e) λo' e'=>⟨o',M b o' (nw b o e) hb e'⟩
theorem pg(f:Ô->Bool->Sem (ForInStep Bool))(hf:∀c,f c Ê=pure (.yield Ê)):∀(ifs:List Ô) {Q:Bool->Å->Prop},Q Ê s->É mo A (forIn ifs Ê f) Q E s
 |[],Q,h=>by rw[adx];show Ç h
 |c::r,Q,h=>by rw[adk,hf];show Â (Ç (pg f hf r h))
theorem tC{F':Ô->Option CE}{Á:az}(ih:∀e c,F' e=À c->fq A Z O e (bU Á c)):∀{ifs:List Ô} {cs:gb},cc F' ifs=À cs->∀ ⦃U H b ae⦄,dp Á cs U H=À (b,ae)->∀ ⦃J s⦄,ar gg J H s.heap->eH (br A) J Z O U s.heap ->
  ∀E,É mo A (forIn ifs Æ λc r=>if r=Æ then do let ok <-isTrue c Z (eval c Z);pure (ForInStep.yield ok) else pure (ForInStep.yield r)) (Cp J s b ae) E s
 |[],cs,h=>by intro U H b ae he J s R F E;obtain rfl:=sm h;show aO (nT he) λRL RM=>?_;apply fv RL;apply fv RM;rw[adx];show Ç ⟨rfl,J,SE.refl _ _,R,bJ.refl _⟩
 |e::r,cs,h=>by
  show ie h λc IM h1 h2 h=>?_;apply dC h;intro U H b ae he J s R F E;rw[adk]
  simp only[if_true]
  show j6 he λp Î hx he=>Â (Â ((ih e c h1).bind (bR hx) R F λÌ aj S T aC a0=>Ç ?_));cases p with
  |true=>show Ï (tC ih h2 he aC a0 E) (λz z x=>Cp.after S T x) λz z x=>x
  |false=>apply dn he;show pg _ (λz=>by simp) r ⟨rfl,aj,S,aC,T⟩
end
def fJ(A:Ñ)(R:Result->Å->Prop)(s:Å)(elt:Ô)(aK:Ô)(cM:Ô)(ifs:List Ô)(scope:á)(pos:Pos)(it:Ä)(acc:Ä)(Z:Env)(I:Nat->Å->Prop)(n:Nat):Prop:=∀(yh:∀n s,I n s->∀E,É mo A (ı it) (λr Ì=>match r with
   |none=>R (.ok .next) Ì
   |some v=>É mo A (Ń aK it v) (λz Nq=>É mo A (assign aK Z v) (λz cW=>
     É mo A (forIn ifs Æ λc r=>if r=Æ then do let ok <-isTrue c Z (eval c Z);pure (ForInStep.yield ok) else pure (ForInStep.yield r)) (λok iX=>
      if ok=Æ then É mo A (eval elt Z) (λx Ap=>
       É mo A (Á (.builtin "list.append") [acc,x]) (λz Ig=>∃m,m<n/\I m Ig) E Ap) E iX
      else ∃m,m<n/\I m iX) E cW) E Nq) E Ì) E s) (h:I n s),Ğ mo A (.compLoop (.ListComp elt [⟨aK,cM,ifs,0⟩] scope pos) 0 it acc Z) R s
namespace compLoop_anyH
def kc:=hc (T1 fJ) ({},λz z=>True,dS,default,default,default,[],default,default,.none,.none,default,λz z=>True,0)
def A:=kc.1
def R:=kc.2.1
def s:=kc.2.2.1
def elt:=kc.2.2.2.1
def aK:=kc.2.2.2.2.1
def cM:=kc.2.2.2.2.2.1
def ifs:=kc.2.2.2.2.2.2.1
def scope:=kc.2.2.2.2.2.2.2.1
def pos:=kc.2.2.2.2.2.2.2.2.1
def it:=kc.2.2.2.2.2.2.2.2.2.1
def acc:=kc.2.2.2.2.2.2.2.2.2.2.1
def Z:=kc.2.2.2.2.2.2.2.2.2.2.2.1
def I:=kc.2.2.2.2.2.2.2.2.2.2.2.2.1
def n:=kc.2.2.2.2.2.2.2.2.2.2.2.2.2
theorem kt:fJ A R s elt aK cM ifs scope pos it acc Z I n:=by
 intro yh h;show codeAny_loop N I (λn s hI=>?_) n h;show É _ A ((compTurn (.ListComp elt [⟨aK,cM,ifs,0⟩] scope pos) 0 it acc Z).onRaise (λx=>do noteFrame x Z;theTreesLotGoes x)) _ _ s;show wpAny_noted ?_;rw[compTurn_list];show Â (đ (Â (Ï (yh n s hI _) (λr Ì bF=>?_) λz z h'=>h')));cases r with
 |none=>show Ç bF
 |some v=>
  show Â (Ï bF (λz Nq RF=>Â (Ï RF (λz cW jx=>Â (Ï jx (λok iX dZ=>?_) λz z h'=>h')) λz z h'=>h')) λz z h'=>h');cases ok with
  |false=>show Ç ⟨N,dZ⟩
  |true=>show Â (Â (Ï dZ (λx Ap lW=>Â (Ï lW (λz Ig jV=>Ç (Ç ⟨N,jV⟩)) λz z h'=>h')) λz z h'=>h'))
end compLoop_anyH
theorem tV:fJ A R s elt aK cM ifs scope pos it acc Z I n:=hk (P:=T1 fJ) compLoop_anyH.kt (A,R,s,elt,aK,cM,ifs,scope,pos,it,acc,Z,I,n)
theorem Nt(h:i≠a):cP U a x i=U i:=if_neg h
theorem OZ{S:Nat->Prop}(h:∀i v,(i<nx\/S i)->cJ i=À v->II i=À v)(i:Nat)(v:V)(hi:i<nx\/i=a\/S i)(hv:cP cJ a x i=À v):cP II a x i=À v:=by
 by_cases e:i=a
 ·show(if_pos e).trans ((if_pos e).symm.trans hv)
 ·rw[Nt e]at hv ⊢;show h i v (hi.imp id λq=>q.resolve_left e) hv
theorem O0(ha:nx<=a)(h:∀i v,EM nx U i=À v->cJ i=À v)(i:Nat)(v:V)(hv:EM nx U i=À v):cP cJ a x i=À v:=
 (Nt (ŉ (ĳ (cT hv).1 ha))).trans (h i v hv)
theorem RY(i:Nat)(v:V)(hi:i<nx\/False)(hv:U i=À v):EM nx U i=À v:=(if_pos (hi.resolve_right id)).trans hv
theorem KU(h:t.put x U=À aR)(hs:∀i,yd t i->nx<=i):
  ∃ii,t.put x (EM nx U)=À ii/\(∀i v,(i<nx\/yd t i)->aR i=À v->ii i=À v)/\∀i v,EM nx U i=À v->aR i=À v:=by
 cases t with
 |one a=>apply dC h;show⟨_,N,λi v hi=>OZ RY i v (hi.imp id .inl),O0 (hs a N) λi v hv=>(cT hv).2⟩
 |two a b=>show bW h λp hx h=>?_;apply dC h;show⟨_,?_,λi v hi=>OZ (OZ RY) i v (hi.imp id λq=>q.symm.imp id .inl),O0 (hs b (.inr N)) (O0 (hs a (.inl N)) λi v hv=>(cT hv).2)⟩;show (tM x).bind _=_;rw[hx];rfl
section
variable{A:Ñ}{E:Ä->Å->Prop}{ļ:List È}{Þ:Å}{cenv:Env}{O:List (Str×Nat)}{U:aL}{Á:az}{d:Nat}
theorem rZ.kp{I:È}{xs:List V}{w:List (Nat×bp)}{two:Bool}{ys:List V}{vs:List Ä}{wr kp:List È}{St:Nat->Ó->Prop}{r0:Nat->Ä->Ó->Prop}(Ti:rZ A I xs w two ys vs wr kp St r0){k:Nat}{h h':Ó}(st:St k h){b:È}(hb:b∈wr\/b∈kp){o:Obj}(e:h.get? b=À o)(x:gv h' b o):h'.get? b=À o:=by
 show ã (hb) (λhb=>?_) (λhb=>?_)
 ·obtain ⟨o',e',hs⟩:=Ti.wrN _ _ st b hb
  rw[e]at e';cases e';show x.of hs.dict
 ·obtain ⟨o',cO,n,e',hd⟩:=Ti.kpN _ _ st b hb
  rw[e]at e';cases e';show x.seq hd
theorem G8{h h':Ó}{D:È}{va:Array Ä}(p:h.PlainList D va){o:Obj}(e:h.get? D=À o)(x:gv h' D o):h'.get? D=À o:=by obtain ⟨n,ho⟩:=p;rw[ho]at e;cases e;show x.seq rfl
structure EV(wr kp:List È)(Z:Env)(D:È):Prop where
 loc:∀b,b∈wr\/b∈kp->b≠Z.locals
 cel:∀b,b∈wr\/b∈kp->∀x,Z.cells.lookup x≠À b
 acc:∀b,b∈wr\/b∈kp->b≠D
structure Sy where
 A:Ñ
 ļ:List È
 Þ:Å
 Z:Env
 O:List (Str×Nat)
 ys:List V
 vs:List Ä
 wr:List È
 kp:List È
 D:È
structure Qc(c:Sy):Prop where
 L:EV c.wr c.kp c.Z c.D
 dl:c.D≠c.Z.locals
 dc:∀x,c.Z.cells.lookup x≠À c.D
 w0:∀b∈c.wr,c.Þ.heap.get? b=Ã
 d0:c.Þ.heap.get? c.D=Ã
 wB:∀b∈c.wr,gg.B.get? b=Ã
 dB:gg.B.get? c.D=Ã
structure CI(c:Sy)(U:aL)(J:List È)(la:List V)(va:List Ä)(h:Ó):Prop where
 S:SE c.ļ c.Þ.heap J h
 F:eH (br c.A) J c.Z c.O U h
 ys:bq gg J h c.ys c.vs
 hn:∀b,b∈c.wr\/b∈c.kp->b∉J
 hD:h.PlainList c.D va.toArray
 dφ:c.D∉J
 la:bq gg J h la va
section
variable{c:Sy}{J aT:List È}{H:ag}{la:List V}{va:List Ä}{h h':Ó}{aR:aL}
theorem CI.mv(X:Qc c)(I:CI c U J la va h)(M:Mv c.wr J h h')(R':ar gg J H h')(w:∀b∈c.wr,ed h b):CI c U J la va h':=
 ⟨cU.mv I.S R' M (λz q=>q) X.w0,I.F.mvN M w (λq=>X.L.loc _ (.inl q) N) λx b e q=>X.L.cel b (.inl q) x e,M.vrsT (λb hb=>(w b hb).nt) I.ys,I.hn,I.hD.at λo e=>M c.D o (λq=>X.L.acc c.D (.inl q) N) I.dφ e,I.dφ,M.vrsT (λb hb=>(w b hb).nt) I.la⟩
theorem CI.on(I:CI c U J la va h)(hr:∀y i v,c.O.lookup y=À i->aR i=À v->U i=À v):CI c aR J la va h:=⟨I.S,I.F.on hr,I.ys,I.hn,I.hD,I.dφ,I.la⟩
theorem bq.upG(up:∀{v:V} {a:Ä},VR gg J h v a->VR gg J h' v a):∀{l:List V} {vs:List Ä},bq gg J h l vs->bq gg J h' l vs
 |[],_,x=>by cases x;show .nil
 |v::l,_,x=>by cases x with|cons h1 h2=>show .cons (up h1) (bq.upG up h2)
theorem CI.tgt(X:Qc c)(I:CI c U J la va h)(S':cU (TM c.Z ns) J h J h')(F':eH (br c.A) J c.Z c.O aR h')(up:∀{v:V} {a:Ä},VR gg J h v a->VR gg J h' v a)(EE:c.Þ.heap.get? c.Z.locals=Ã)(uo:∀x∈ns,∀b,c.Z.cells.lookup x=À b->c.Þ.heap.get? b=Ã):CI c aR J la va h':=
 ⟨cU.trans I.S S' (λz z z hb=>hb) λb o e z q=>ã q (λq=>by rw[q,EE]at e;show(nomatch e)) λq=>aF q λx hx q=>by rw[uo x hx b q]at e;show(nomatch e),
  F',I.ys.upG up,I.hn,I.hD.at λo e=>G8 I.hD e (S'.pres c.D o e λq=>ã q X.dl λq=>aF q λx z q=>X.dc x q),I.dφ,I.la.upG up⟩
theorem CI.step(I:CI c U J la va h)(R:ar gg J H h)(S':SE J h aT h')(lv:∀b,b∈c.wr\/b∈c.kp->∃o,h.get? b=À o):CI c U aT la va h':=
 ⟨I.S.trans S',I.F.step R S',I.ys.step R S',λb hb=>(lv b hb).elim λo e=>S'.notin e (I.hn b hb),I.hD.at λo e=>G8 I.hD e (S'.pres c.D o e I.dφ),I.hD.elim λn e=>S'.notin e I.dφ,I.la.step R S'⟩
theorem XY{D:È}{va:Array Ä}(hp:h.PlainList D va):∀b∈[D],NT h b:=λb hb o e=>by rw[O'.mp hb]at e;show hp.elim λn ho=>by rw[<-Option.some.inj (ho.symm.trans e)];show gK N
theorem CI.app(X:Qc c)(I:CI c U J la va h)(R:ar gg J H h)(V:VR gg J h v av)(D':h'.PlainList c.D (va.toArray.push av))(hs:Heap.SameBut c.D h h'):ar gg J H h'/\CI c U J (la++[v]) (va++[av]) h':=by
 have M:∀b o,b∉[c.D]->h.get? b=À o->h'.get? b=À o:=λb o hb e=>hs.extBut b o (λq=>hb (O'.mpr q)) e;have M':Mv [c.D] J h h':=Mv.all M;have nt:=XY I.hD;have one:∀{P:È->Prop},P c.D->∀b∈[c.D],P b:=λp b hb=>by rw[O'.mp hb];show p
 have R':=R.mvT M nt (one I.dφ) (one X.dB);show⟨R',cU.mv I.S R' M' (λz q=>q) (one X.d0),I.F.mv M' nt (λq=>X.dl (O'.mp q).symm) (λx b e q=>X.dc x (O'.mp q▸e)) (λe he L hf q=>?_),M'.vrsT nt I.ys,I.hn,?_,I.dφ,M'.vrsT nt (I.la.append (.one V))⟩
 ·obtain ⟨_,L',o,es,ep,k2,k3,k4,_⟩:=I.F.stk e he
  rw[hf]at k2;cases k2;rw[O'.mp q]at k3;show I.hD.elim λn ho=>by rw[<-Option.some.inj (ho.symm.trans k3)]at k4;show nomatch k4
 ·rw[List.push_toArray]at D';show D'
end
def mw(ļ:List È)(Þ:Å)(C D:È)(l:List V)(σe:ag)(s':Å):Prop:=
 ∃aT,SE ļ Þ.heap aT s'.heap/\ar gg aT (σe++[.lst l]) s'.heap/\VR gg aT s'.heap (.ref σe.length) (.ref D)/\bJ Þ s'/\C∉aT/\∃m,s'.heap.Ns C m
theorem CI.fin(X:Qc c)(I:CI c U J l va s'.heap)(R:ar gg J σe s'.heap)(T:bJ c.Þ s')(hl:l.length<=al):mw c.ļ c.Þ c.Z.locals c.D l σe s':=by
 show aF I.F.ns λm ic z=>aF I.S.ext λt ht hf=>⟨J++[c.D],⟨I.S.pres,I.S.dom,t++[c.D],by rw[ht,ÿ],λa ha=>ã (Ģ.mp ha) (hf a) λha=>by rw[O'.mp ha];show X.d0⟩,R.more I.dφ X.dB (.lst I.hD (ſ hl) I.la) (XY I.hD c.D G'),.ref ?_,T,λq=>?_,m,ic⟩
 ·rw[<-R.len,ϙ (Đ _),Ϸ];rfl
 ·show ã (Ģ.mp q) I.F.locN λq=>X.dl (O'.mp q).symm
structure CT(c:Sy)(U Sw:aL)(cl:CE)(cs:gb)(Á:az)(t:jS)(w:List (Nat×bp))(xs l:List V)(σe:ag)(St:Nat->Ó->Prop)(n k:Nat)(J:List È)(H:ag)(la:List V)(va:List Ä)(lr:List V)(s:Å):Prop where
 I:CI c U J la va s.heap
 T:bJ c.Þ s
 R:ar gg J H s.heap
 st:St k s.heap
 hk:k<=xs.length
 n:n=xs.length-k
 hc:fQ (ab Á cl) (dp Á cs) t w (xs.drop k) Sw H=À (lr,σe)
 hl:la++lr=l
theorem rZ.live{I:È}{xs:List V}{w:List (Nat×bp)}{two:Bool}{ys:List V}{vs:List Ä}{wr kp:List È}{St:Nat->Ó->Prop}{r0:Nat->Ä->Ó->Prop}(Ti:rZ A I xs w two ys vs wr kp St r0){k:Nat}{h:Ó}(st:St k h)(b:È)(hb:b∈wr\/b∈kp):∃o,h.get? b=À o:=
 ã hb (λhb=>aF (Ti.wrN _ _ st b hb) λo e z=>⟨o,e⟩) λhb=>oS (Ti.kpN _ _ st b hb) λo z z e z=>⟨o,e⟩
end
def kF(A:Ñ)(ļ:List È)(Þ:Å)(cenv:Env)(O:List (Str×Nat))(U:aL)(Á:az)(d:Nat)(elt:Ô)(aK:Ô)(cM:Ô)(ifs:List Ô)(scope:á)(pos:Pos)(nx:Nat)(t:jS)(I:È)(D:È)(xs:List V)(ys:List V)(l:List V)(vs:List Ä)(w:List (Nat×bp))(two:Bool)(wr:List È)(kp:List È)(St:Nat->Ó->Prop)(r0:Nat->Ä->Ó->Prop)(c:CE)(cs:gb)(F':Ô->Option CE)(H:ag)(σe:ag)(Q:Result->Å->Prop)(s:Å)(J:List È):Prop:=∀(hA:iZ A d) (Ti:rZ A I xs w two ys vs wr kp St r0) (EL:vj two aK) (C6:fP cenv.scope O aK=À t) (s5:∀i,yd t i->nx<=i) (Tc:∀y i,O.lookup y=À i->i<nx\/yd t i) (hE:aS A cenv O elt (ab Á c)) (iq:cc F' ifs=À cs) (hT:∀e c,F' e=À c->fq A cenv O e (bU Á c)) (L:EV wr kp cenv D) (Xa:D≠cenv.locals) (W9:∀x,cenv.cells.lookup x≠À D) (EE:Þ.heap.get? cenv.locals=Ã) (uo:∀x∈ba aK,∀c,cenv.cells.lookup x=À c->Þ.heap.get? c=Ã) (qQ:∀b∈wr,Þ.heap.get? b=Ã) (W8:Þ.heap.get? D=Ã) (hB:∀b∈wr,gg.B.get? b=Ã) (PJ:gg.B.get? D=Ã) (hl:l.length<=al) (hc:fQ (ab Á c) (dp Á cs) t w xs U H=À (l,σe)) (S:SE ļ Þ.heap J s.heap) (T:bJ Þ s) (R:ar gg J H s.heap) (F:eH (br A) J cenv O (EM nx U) s.heap) (h0:St 0 s.heap) (ML:bq gg J s.heap ys vs) (hn:∀b,b∈wr\/b∈kp->b∉J) (hD:s.heap.PlainList D #[]) (C5:D∉J) (hQ:∀s',mw ļ Þ cenv.locals D l σe s'->Q (.ok .next) s'),Ğ mo A (.compLoop (.ListComp elt [⟨aK,cM,ifs,0⟩] scope pos) 0 (.ref I) (.ref D) cenv) Q s
namespace comp_runH
def kc:=hc (U2 λb0=>U2 λb1=>U2 λb2=>U2 λb3=>U2 λb4=>U2 λb5=>U2 λb6=>U2 λb7=>U2 λb8=>U2 λb9=>U2 λUb=>U2 λUc=>U2 λUd=>U2 λUe=>U2 λUf=>U2 λUg=>U2 λUh=>U2 λUi=>U2 λUj=>U2 λUk=>U2 λUl=>yx (kF b0 b1 b2 b3 b4 b5 b6 b7 b8 b9 Ub Uc Ud Ue Uf Ug Uh Ui Uj Uk Ul)) ({},[],dS,default,[],λz=>Ã,λz z z=>Ã,0,default,default,default,[],default,default,0,.one 0,0,0,[],[],[],[],[],Ê,[],[],λz z=>True,λz z z=>True,.dict0,.nil,λz=>Ã,[],[],λz z=>True,dS,[])
def A:=kc.1
def ļ:=kc.2.1
def Þ:=kc.2.2.1
def cenv:=kc.2.2.2.1
def O:=kc.2.2.2.2.1
def U:=kc.2.2.2.2.2.1
def Á:=kc.2.2.2.2.2.2.1
def d:=kc.2.2.2.2.2.2.2.1
def elt:=kc.2.2.2.2.2.2.2.2.1
def aK:=kc.2.2.2.2.2.2.2.2.2.1
def cM:=kc.2.2.2.2.2.2.2.2.2.2.1
def ifs:=kc.2.2.2.2.2.2.2.2.2.2.2.1
def scope:=kc.2.2.2.2.2.2.2.2.2.2.2.2.1
def pos:=kc.2.2.2.2.2.2.2.2.2.2.2.2.2.1
def nx:=kc.2.2.2.2.2.2.2.2.2.2.2.2.2.2.1
def t:=kc.2.2.2.2.2.2.2.2.2.2.2.2.2.2.2.1
def I:=kc.2.2.2.2.2.2.2.2.2.2.2.2.2.2.2.2.1
def D:=kc.2.2.2.2.2.2.2.2.2.2.2.2.2.2.2.2.2.1
def xs:=kc.2.2.2.2.2.2.2.2.2.2.2.2.2.2.2.2.2.2.1
def ys:=kc.2.2.2.2.2.2.2.2.2.2.2.2.2.2.2.2.2.2.2.1
def l:=kc.2.2.2.2.2.2.2.2.2.2.2.2.2.2.2.2.2.2.2.2.1
def vs:=kc.2.2.2.2.2.2.2.2.2.2.2.2.2.2.2.2.2.2.2.2.2.1
def w:=kc.2.2.2.2.2.2.2.2.2.2.2.2.2.2.2.2.2.2.2.2.2.2.1
def two:=kc.2.2.2.2.2.2.2.2.2.2.2.2.2.2.2.2.2.2.2.2.2.2.2.1
def wr:=kc.2.2.2.2.2.2.2.2.2.2.2.2.2.2.2.2.2.2.2.2.2.2.2.2.1
def kp:=kc.2.2.2.2.2.2.2.2.2.2.2.2.2.2.2.2.2.2.2.2.2.2.2.2.2.1
def St:=kc.2.2.2.2.2.2.2.2.2.2.2.2.2.2.2.2.2.2.2.2.2.2.2.2.2.2.1
def r0:=kc.2.2.2.2.2.2.2.2.2.2.2.2.2.2.2.2.2.2.2.2.2.2.2.2.2.2.2.1
def c:=kc.2.2.2.2.2.2.2.2.2.2.2.2.2.2.2.2.2.2.2.2.2.2.2.2.2.2.2.2.1
def cs:=kc.2.2.2.2.2.2.2.2.2.2.2.2.2.2.2.2.2.2.2.2.2.2.2.2.2.2.2.2.2.1
def F':=kc.2.2.2.2.2.2.2.2.2.2.2.2.2.2.2.2.2.2.2.2.2.2.2.2.2.2.2.2.2.2.1
def H:=kc.2.2.2.2.2.2.2.2.2.2.2.2.2.2.2.2.2.2.2.2.2.2.2.2.2.2.2.2.2.2.2.1
def σe:=kc.2.2.2.2.2.2.2.2.2.2.2.2.2.2.2.2.2.2.2.2.2.2.2.2.2.2.2.2.2.2.2.2.1
def Q:=kc.2.2.2.2.2.2.2.2.2.2.2.2.2.2.2.2.2.2.2.2.2.2.2.2.2.2.2.2.2.2.2.2.2.1
def s:=kc.2.2.2.2.2.2.2.2.2.2.2.2.2.2.2.2.2.2.2.2.2.2.2.2.2.2.2.2.2.2.2.2.2.2.1
def J:=kc.2.2.2.2.2.2.2.2.2.2.2.2.2.2.2.2.2.2.2.2.2.2.2.2.2.2.2.2.2.2.2.2.2.2.2
theorem kt:kF A ļ Þ cenv O U Á d elt aK cM ifs scope pos nx t I D xs ys l vs w two wr kp St r0 c cs F' H σe Q s J:=by
 intro hA Ti EL C6 s5 Tc hE iq hT L Xa W9 EE uo qQ W8 hB PJ hl hc S T R F h0 ML hn hD C5 hQ;have X:Qc ⟨A,ļ,Þ,cenv,O,ys,vs,wr,kp,D⟩:=⟨L,Xa,W9,qQ,W8,hB,PJ⟩;show tV (I:=λn s=>∃k J H la va,∃lr,CT ⟨A,ļ,Þ,cenv,O,ys,vs,wr,kp,D⟩ (EM nx U) U c cs Á t w xs l σe St n k J H la va lr s) (n:=xs.length) ?_ ⟨0,J,H,[],[],l,⟨S,F,ML,hn,hD,C5,.nil⟩,T,R,h0,Ĥ _,N,hc,N⟩;intro n s q E;show IN q λk J H la va q=>W' q λlr Ø=>ã (aes k xs.length) (λcE=>?_) (λlB=>?_)
 ·have hc:=Ø.hc
  rw[abF cE]at hc;show qL hc λhw hc=>bW hc λaR Gz hc=>Ti.item k J H s _ E xs[k] Ø.st Ø.R Ø.I.ys hw Ø.I.hn hB (ē cE) λa bF pj yC aC bh ri=>?_;have tK:=Ø.I.mv X yC aC (Ti.wrN k _ Ø.st);show Ti.go aK EL k J H a _ _ E ri aC Ø.I.hn hB λjx EW bu x9=>?_;have IA:=Ti.wrM k a _ ri;have EU:=tK.mv X EW bu IA;show dN (KU Gz s5) λii OF VD Q5=>vm (s:={s with heap:=jx,toks:=pj}) hA.handled C6 OF bu EU.F (EW.vrT (λb hb=>(IA b hb).nt) bh) λdZ rS jr jp rY pq=>?_;have Cm:=EU.tgt X jr (rY.on λy i v hy hv=>VD i v (Tc y i hy) hv) pq EE uo;have rQ:St (k+1) dZ:=Ti.frame _ _ _ x9 λb hb o e=>Ti.kp x9 hb e (jr.pres b o e λq=>ã q (L.loc b hb) λq=>aF q λx z q=>L.cel b hb x q);have lt:xs.length-(k+1)<n:=by rw[Ø.n];show aeG cE (Ż k)
  have back:∀y i v,O.lookup y=À i->EM nx U i=À v->aR i=À v:=λy i v z hv=>Q5 i v hv;have fr:∀{aT h'},SE J dZ aT h'->St (k+1) h':=λS'=>Ti.frame _ _ _ rQ λb hb o e=>Ti.kp rQ hb e (S'.pres b o e (Ø.I.hn b hb));show dz hc λbt Î GC hc=>Ï (tC hT iq GC (s:={s with heap:=dZ,toks:=rS}) jp Cm.F E) (λok Ap lW=>lW.el λWo IJ lK r2 NN=>?_) λz z x=>x;rw[Wo];have T':=Ø.T.trans (bJ.trans ⟨N,N,N⟩ NN);have NH:=Cm.step jp lK (Ti.live rQ);cases bt with
  |false=>show⟨xs.length-(k+1),lt,k+1,IJ,Î,la,va,lr,NH.on back,T',r2,fr lK,cE,N,hc,Ø.hl⟩
  |true=>
   rw[if_pos N]at hc;show dz hc λv Ý Vg hc=>dz hc λlr' bH jO hc=>?_;have q:=nT hc;show hE.bind Vg r2 NH.F λav Ig Sx Jc TX I6 NF T3=>?_;have Qi:=NH.step r2 Jc (Ti.live (fr lK));show ό Qi.hD (λh₆ TD MG=>?_) ?_
   ·have Y:=Qi.app X I6 T3 TD MG
    show⟨xs.length-(k+1),lt,k+1,Sx,Ý,la++[v],va++[av],lr',Y.2.on back,(T'.trans TX).trans ⟨N,N,N⟩,Y.1,Ti.frame _ _ _ (fr (lK.trans Jc)) λb hb o e=>MG.extBut b o (L.acc b hb) e,cE,N,by rw[jO,q.2],?_⟩;rw[ÿ,<-Ø.hl,<-q.1];rfl
   ·rw[ų,<-Ø.I.la.length]
    show z' ?_ hl;rw[<-Ø.hl,û];show Ň _ _
 ·have kZ:k=xs.length:=ť Ø.hk lB
  have hc:=Ø.hc;have st:=Ø.st;rw[kZ,adO]at hc;rw[kZ]at st;show qL hc λhw hc=>?_;have q:=nT hc;show Ti.done J _ s _ E st Ø.R Ø.I.ys hw Ø.I.hn hB λbF pj yC aC=>?_;have tK:=Ø.I.mv X yC aC (Ti.wrN _ _ st);have e:la=l:=by rw[<-Ø.hl,<-q.1,Ĵ]
  rw[e]at tK;rw[q.2]at aC;show hQ _ (CI.fin (s':={s with heap:=bF,toks:=pj}) X tK aC (Ø.T.trans ⟨N,N,N⟩) hl)
end comp_runH
theorem FD{Á:az}{two:Bool}{St:Nat->Ó->Prop}:kF A ļ Þ cenv O U Á d elt aK cM ifs scope pos nx t I D xs ys l vs w two wr kp St r0 c cs F' H σe Q s J:=hk (P:=U2 λb0=>U2 λb1=>U2 λb2=>U2 λb3=>U2 λb4=>U2 λb5=>U2 λb6=>U2 λb7=>U2 λb8=>U2 λb9=>U2 λUb=>U2 λUc=>U2 λUd=>U2 λUe=>U2 λUf=>U2 λUg=>U2 λUh=>U2 λUi=>U2 λUj=>U2 λUk=>U2 λUl=>yx (kF b0 b1 b2 b3 b4 b5 b6 b7 b8 b9 Ub Uc Ud Ue Uf Ug Uh Ui Uj Uk Ul)) comp_runH.kt (A,ļ,Þ,cenv,O,U,Á,d,elt,aK,cM,ifs,scope,pos,nx,t,I,D,xs,ys,l,vs,w,two,wr,kp,St,r0,c,cs,F',H,σe,Q,s,J)
theorem Ch:∀{ts:List Str} {n:Nat} {x:Str},x∈ts->∃i,(ts.zipIdx n).lookup x=À i
 |t::ts,n,x,h=>by
  rw[adN,ϊ];cases hb:x==t with
  |true=>show⟨n,N⟩
  |false=>
   show ã (Ĉ.mp h) (λh=>?_) (λh=>?_)
   ·subst h;simp at hb
   ·show Ch h
theorem yS(hx:x∈ts)(h:(cn scope O nx ts).lookup x=À i):nx<=i:=by unfold cn at h;rw[fz]at h;show W' (Ch (n:=nx) hx) λj hj=>?_;rw[hj]at h;cases h;show(mj hj).1
section
variable{A:Ñ}{E:Ä->Å->Prop}{J:List È}{s:Å}{Z:Env}{O:List (Str×Nat)}{U:aL}{Á:az}{d:Nat}
theorem D9{scope:á}{env':Env}{nx:Nat}{aK:Ô}{t:jS}(K:lJ scope Z.scope O nx (ba aK))(h:fP env'.scope (cn scope O nx (ba aK)) aK=À t):
  (∀i,yd t i->nx<=i)/\∀y i,(cn scope O nx (ba aK)).lookup y=À i->i<nx\/yd t i:=by
 have c:=(ql h).all;show⟨λi hi=>aF (c.1 i hi) λx hx h1=>yS hx h1,λy a hy=>ã (cw hy) (λq=>?_) λq=>.inl (K.below _ _ (mem_of_lookup q.2))⟩;show aF (c.2 y (ĥ q.2)) λi h1 h2=>.inr (sm (h1.symm.trans hy)▸h2)
theorem sO{elt aK cM:Ô}{ifs:List Ô}{scope:á}{pos Pf:Pos}{nx:Nat}{t:jS}{it:jo}{c:CE}{cs:gb}{F':Ô->Option CE}{two:Bool}{xs l:List V}{w:List (Nat×bp)}{H Î Ý:ag}{use:Option (Ä->Sem Unit)}{Q:Ä->Å->Prop}
  (hA:iZ A d) (K:lJ scope Z.scope O nx (ba aK)) (hs:∀x,Ę cM Z x=pure x) (EL:vj two aK)
  (hi:mB A Z O cM two (cB Á it)) (C6:fP (je scope Z.scope) (cn scope O nx (ba aK)) aK=À t)
  (hE:∀e',e'.scope=je scope Z.scope->aS A e' (cn scope O nx (ba aK)) elt (ab Á c)) (iq:cc F' ifs=À cs) (hT:∀e',e'.scope=je scope Z.scope->∀e c,F' e=À c->fq A e' (cn scope O nx (ba aK)) e (bU Á c))
  (h1:cB Á it U H=À (xs,w,Î)) (h2:fQ (ab Á c) (dp Á cs) t w xs U Î=À (l,Ý)) (hl:l.length<=al) (R:ar gg J H s.heap) (F:eH (br A) J Z O U s.heap)
  (hQ:∀D C s',mw J s C D l Ý s'->s.heap.get? C=Ã->compPost mo A E use Q (.ref D) C (.ok .next) s') :
  É mo A (comprehension (.ListComp elt [⟨aK,cM,ifs,0⟩] scope pos) scope Z Pf (newList []) Ê (eval cM Z) use) Q E s:=by
 show wpAny_comprehension_free (use:=use) N hs (ll scope (AR F K)) K.kind (λx hx hl=>K.uniq _ _ ((hl)▸hx)) (Ï (hi U H xs w Î h1 J s R F E) (λxv Ì bF=>wg bF λaT iJ aC yE mk=>mk E _ λI ys vs wr kp St r0 h' Ti nG hk ML qQ hn hB=>?_) λz z e=>e)
 have lv:∀b,b∈wr\/b∈kp->∃o,h'.get? b=À o:=λb hb=>by
  show ã hb (λhb=>?_) (λhb=>?_)
  ·show aF (Ti.wrN _ _ nG b hb) λo e z=>?_;show⟨o,e⟩
  ·show oS (Ti.kpN _ _ nG b hb) λo z z e z=>?_;show⟨o,e⟩
 have bu:ar gg aT Î h':=aC.keeps hk;have a0:=F.step R iJ;show ç ?_;have Gs:∀b o,h'.get? b=À o->(h'.push {cls:=.type "list",data:=.seq ([]:List Ä).toArray}).get? b=À o:=λb o e=>N' _ e;have SS:(h'.push {cls:=.type "list",data:=.seq ([]:List Ä).toArray}).PlainList h'.objs.size #[]:=⟨_,Ł _ rfl⟩;show É _ _ _ _ _ {Ì with heap:=h'.push {cls:=.type "list",data:=.seq ([]:List Ä).toArray}};generalize h'.push {cls:=.type "list",data:=.seq ([]:List Ä).toArray}=dZ at Gs SS;have J8:∀b o,Ì.heap.get? b=À o->dZ.get? b=À o:=λb o e=>Gs b o (hk b o e);have I9:SE aT Ì.heap aT dZ:=SE.keeps _ J8;have jp:ar gg aT Î dZ:=aC.keeps J8;show FC (s:={Ì with heap:=dZ}) K jp (a0.step aC I9) λcenv lW PQ VT ES On Da zv=>?_;dsimp only at PQ On Da zv;have Rk:∀b o,Ì.heap.get? b=À o->lW.get? b=À o:=λb o e=>PQ b o (J8 b o e);have Ja:SE aT Ì.heap aT lW:=SE.keeps _ Rk;have fr:∀b,dZ.get? b=Ã->s.heap.get? b=Ã:=λb hb=>iJ.back (fR J8 hb);show aO (D9 (env':={cenv with scope:=relabel scope Z}) K (by show fP (relabel scope Z) _ _=_;rw[dJ];show C6)) λs5 Tc=>?_;have Q0:h'.get? h'.objs.size=Ã:=aH _
 have Q7:∀x b,cenv.cells.lookup x=À b->(∃o,h'.get? b=À o)->∃y,Z.cells.lookup y=À b:=λx b e ⟨o,ho⟩=>by
  show ã (zv x b e) (λq=>?_) (λq=>?_)
  ·rw[Gs b o ho]at q;cases q
  ·show q
 have AY:∀y b,Z.cells.lookup y=À b->∃u,s.heap.IsCell b u:=λy b e=>(F.cellF y b e).1
 have RW:Ğ mo A (.compLoop (.ListComp elt [⟨aK,cM,ifs,0⟩] scope pos) 0 (.ref I) (.ref h'.objs.size) {cenv with scope:=relabel scope Z}) (compPost mo A E use Q (.ref h'.objs.size) cenv.locals) {Ì with heap:=lW}:=by
  show FD (Þ:=s) (ļ:=J) (cenv:={cenv with scope:=relabel scope Z}) (J:=aT) (l:=l) (σe:=Ý) (U:=U) (t:=t) (nx:=nx) (c:=c) (cs:=cs) (F':=F') (Á:=Á) hA Ti EL (by show fP (relabel scope Z) _ _=_;rw[dJ];show C6) s5 Tc
   (hE _ (dJ _ _)) iq (hT _ (dJ _ _)) ⟨?_,?_,?_⟩ ?_ ?_ (fr _ On) (λx hx c e=>fr _ (Da x hx c e)) qQ ?_ hB ?_ hl h2 (iJ.trans Ja) (yE.trans ⟨N,N,N⟩) (aC.keeps Rk) ES (Ti.frame _ _ _ nG λb z o e=>PQ b o (Gs b o e)) (ML.step bu (SE.keeps _ λb o e=>PQ b o (Gs b o e))) hn (SS.at λo e=>PQ _ o e) ?_ λs' lV=>hQ _ _ s' lV (fr _ On)
  ·rintro b hb rfl
   show W' (lv _ hb) λo e=>?_;rw[Gs _ o e]at On;cases On
  ·intro b hb x e
   show W' (Q7 x b e (lv b hb)) λy hy=>gq (AY y b hy) λu o ho hd=>ã hb (λhb=>?_) (λhb=>?_)
   ·rw[qQ b hb]at ho;show no ho
   ·show oS (Ti.kpN _ _ nG b hb) λo' cO n' e' ke=>?_
    have Gm:h'.get? b=À o:=hk b o ((iJ.pres b o ho (F.cellF y b hy).2.1).of λes ep q=>nomatch hd.symm.trans q);rw[Gm]at e';cases e';rw[hd]at ke;cases ke
  ·rintro b hb rfl
   show W' (lv _ hb) λo e=>?_;rw[Q0]at e;show no e
  ·rintro e
   show W' SS λn' ho=>?_;rw[show cenv.locals=h'.objs.size from e.symm,ho]at On;cases On
  ·intro x e
   show ã (zv x _ e) (λq=>?_) (λq=>W' q λy hy=>?_)
   ·show W' SS λn' ho=>?_
    rw[ho]at q;cases q
   ·show gq (AY y _ hy) λu o ho hd=>?_
    have:h'.get? h'.objs.size=À o:=hk _ o ((iJ.pres _ o ho (F.cellF y _ hy).2.1).of λes ep q=>nomatch hd.symm.trans q);rw[Q0]at this;show no this
  ·show iJ.back (fR hk Q0)
  ·show aV bu Q0
  ·show aX bu Q0
 show codeAny_compStart_list RW (Ti.self 0 _ _ _ (Ti.frame _ _ _ nG λb z o e=>PQ b o (Gs b o e)) RW)
theorem mw.evp(R:ar gg J H s.heap)(x:mw J s C D l σe s')(hC:s.heap.get? C=Ã)(hs:Heap.SameBut C s'.heap h'):bA gg J s (.ref σe.length) (σe++[.lst l]) (.ref D) {s' with heap:=h'}:=by
 obtain ⟨aT,S,R',V',T,Ge,m,hn⟩:=x;have M:∀b o,b≠C->s'.heap.get? b=À o->h'.get? b=À o:=λb o hb e=>hs.extBut b o hb e;have bu:ar gg aT (σe++[.lst l]) h':=R'.other Ge (aV R hC) M (Ns.noSeq hn);show⟨aT,cU.mv (wr:=[C]) S bu (λb o hb z e=>M b o (λq=>hb (O'.mpr q)) e) (λz q=>q) (by simpa using hC),bu,?_,T.trans ⟨rfl,rfl,rfl⟩⟩;cases V' with
 |ref h=>show .ref h
theorem HU{elt aK cM:Ô}{ifs:List Ô}{scope:á}{pos:Pos}{nx:Nat}{t:jS}{it:jo}{c:CE}{cs:gb}{F':Ô->Option CE}{two:Bool}
  (hA:iZ A d) (K:lJ scope Z.scope O nx (ba aK)) (hs:∀x,Ę cM Z x=pure x) (EL:vj two aK)
  (hi:mB A Z O cM two (cB Á it)) (C6:fP (je scope Z.scope) (cn scope O nx (ba aK)) aK=À t)
  (hE:∀e',e'.scope=je scope Z.scope->aS A e' (cn scope O nx (ba aK)) elt (ab Á c)) (iq:cc F' ifs=À cs) (hT:∀e',e'.scope=je scope Z.scope->∀e c,F' e=À c->fq A e' (cn scope O nx (ba aK)) e (bU Á c)) :
  aS A Z O (.ListComp elt [⟨aK,cM,ifs,0⟩] scope pos) (ab Á (.comp c t it cs)):=by
 intro U H v ae he J s R F E;show oO he λxs w Î h1 he=>?_
 ··show dz he λl Ý h2 he=>gH (fV he) λhz q2 q3=>?_;apply aW q2;apply aW q3
   rw[eval_ListComp];show sO hA K hs EL hi C6 hE iq hT h1 h2 hz R F λD C s' EI hC=>?_;obtain ⟨aT,S,R',V',T,Ge,m,hn⟩:=id EI;show⟨m,hn,λh' lV=>EI.evp R hC lV⟩
end
end Lar
namespace Lar
open PySem
theorem mZ:∀(x y:List Int),ch x y=Æ->ch y x=Ê
 |[],[],h=>nomatch h
 |[],_::_,_=>rfl
 |_::_,[],h=>nomatch h
 |a::x,b::y,h=>by
  replace h:(decide (a<b)||(a==b&&ch x y))=Æ:=h;show (decide (b<a)||(b==a&&ch y x))=Ê
  simp only[Ϙ,decide_eq_true_eq,ň,beq_iff_eq]at h
  rw[acC,decide_eq_false_iff_not,adJ,beq_eq_false_iff_ne];rcases h with h|⟨rfl,h⟩
  ·show⟨Ŕ.mpr (acQ h),.inl (ae3 h)⟩
  ·show⟨adf _,.inr (mZ x y h)⟩
theorem te:∀(x y z:List Int),ch x y=Æ->ch y z=Æ->ch x z=Æ
 |[],[],_,h,_=>nomatch h
 |[],_::_,[],_,h=>nomatch h
 |[],_::_,_::_,_,_=>rfl
 |_::_,[],_,h,_=>nomatch h
 |_::_,_::_,[],_,h=>nomatch h
 |a::x,b::y,c::z,h,h'=>by
  replace h:(decide (a<b)||(a==b&&ch x y))=Æ:=h;replace h':(decide (b<c)||(b==c&&ch y z))=Æ:=h';show (decide (a<c)||(a==c&&ch x z))=Æ
  simp only[Ϙ,decide_eq_true_eq,ň,beq_iff_eq]at h h' ⊢
  rcases h with h|⟨rfl,h⟩
  ·rcases h' with h'|⟨rfl,_⟩
   ·show .inl (ac8 h h')
   ·show .inl h
  ·rcases h' with h'|⟨rfl,h'⟩
   ·show .inl h'
   ·show .inr ⟨N,te x y z h h'⟩
theorem m5:∀(x y z:List Int),ch x z=Æ->ch x y=Æ\/ch y z=Æ
 |[],_,[],h=>nomatch h
 |[],[],_::_,_=>.inr N
 |[],_::_,_::_,_=>.inl N
 |_::_,_,[],h=>nomatch h
 |_::_,[],_::_,_=>.inr N
 |a::x,b::y,c::z,h=>by
  replace h:(decide (a<c)||(a==c&&ch x z))=Æ:=h;show (decide (a<b)||(a==b&&ch x y))=Æ\/(decide (b<c)||(b==c&&ch y z))=Æ
  simp only[Ϙ,decide_eq_true_eq,ň,beq_iff_eq]at h ⊢
  rcases aeb a b with Ms|rfl|Ms
  ·show .inl (.inl Ms)
  ·rcases h with h|⟨rfl,h⟩
   ·show .inr (.inl h)
   ·show ã (m5 x y z h) (λq=>?_) (λq=>?_)
    ·show .inl (.inr ⟨N,q⟩)
    ·show .inr (.inr ⟨N,q⟩)
  ·rcases h with h|⟨rfl,_⟩
   ·show .inr (.inl (ac8 Ms h))
   ·show .inr (.inl Ms)
theorem Bu:∀(x y:List Int),ch x y=Ê->ch y x=Ê->x=y
 |[],[],_,_=>rfl
 |[],_::_,h,_=>nomatch h
 |_::_,[],_,h=>nomatch h
 |a::x,b::y,h,h'=>by replace h:(decide (a<b)||(a==b&&ch x y))=Ê:=h;replace h':(decide (b<a)||(b==a&&ch y x))=Ê:=h';rw[acC,decide_eq_false_iff_not,adJ,beq_eq_false_iff_ne]at h h';have e:a=b:=ņ (Ŕ.mp h'.1) (Ŕ.mp h.1);subst e;rw[Bu x y (h.2.resolve_left λq=>q N) (h'.2.resolve_left λq=>q N)]
theorem Bp(h:lc p q=Æ):lc q p=Ê:=by
 unfold lc at h ⊢;cases h1:ch p.1 q.1 with
 |true=>rw[mZ _ _ h1];rfl
 |false=>
  rw[h1]at h;cases h2:ch q.1 p.1 with
  |true=>rw[h2]at h;show nomatch h
  |false=>rw[h2]at h;have h:decide (p.2<q.2)=Æ:=h;show (Ê||(!false&&decide (q.2<p.2)))=Ê;rw[decide_eq_false (Ŕ.mpr (acQ (of_decide_eq_true h)))];rfl
theorem GR(h:lc p q=Ê):p=q\/lc q p=Æ:=by
 unfold lc at h ⊢;rw[acC]at h;cases h2:ch q.1 p.1 with
 |true=>show .inr N
 |false=>
  rw[h2]at h;have h3:decide (p.2<q.2)=Ê:=h.2;have e:=Bu _ _ h.1 h2;rcases aeb q.2 p.2 with g|g|g
  ·show .inr ?_
   rw[h.1,decide_eq_true g];rfl
  ·show .inl (Prod.ext e g.symm)
  ·show absurd g (of_decide_eq_false h3)
theorem GU(h:lc p q=Æ)(h':lc q r=Æ):lc p r=Æ:=by
 unfold lc at h h' ⊢;cases h1:ch p.1 r.1 with
 |true=>rfl
 |false=>
  show ã (abY.mp h) (λa=>?_) (λa=>?_)
  ·show ã (m5 _ r.1 _ a) (λb=>?_) (λb=>?_)
   ·rw[h1]at b;show nomatch b
   ·show ã (abY.mp h') (λc=>?_) (λc=>?_)
    ·rw[mZ _ _ b]at c;show nomatch c
    ·rw[b]at c;show nomatch c
  ·show aO (Ľ.mp a) λa1 a2=>ã (abY.mp h') (λc=>?_) (λc=>?_)
   ·show ã (m5 _ p.1 _ c) (λb=>?_) (λb=>?_)
    ·rw[b]at a1;show nomatch a1
    ·rw[h1]at b;show nomatch b
   ·show aO (Ľ.mp c) λc1 c2=>?_
    cases h2:ch r.1 p.1 with
    |true=>
     show ã (m5 _ q.1 _ h2) (λb=>?_) (λb=>?_)
     ·rw[b]at c1;show nomatch c1
     ·rw[b]at a1;show nomatch a1
    |false=>show (Ê||(!false&&decide (p.2<r.2)))=Æ;rw[decide_eq_true (ac8 (of_decide_eq_true a2) (of_decide_eq_true c2))];rfl
theorem ov(p:KP):∀l:List KP,(Df p l).Perm (p::l)
 |[]=>.refl _
 |q::r=>by
  unfold Df;split
  ·show((ov p r).cons q).trans (.swap ..)
  ·show .refl _
theorem fD:∀l:List KP,(fo l).Perm l
 |[]=>.refl _
 |p::r=>(ov p _).trans ((fD r).cons p)
def nV(p q:KP):Prop:=lc q p=Ê
theorem zQ(h:nV p q)(h':nV q r):nV p r:=by
 unfold nV at *;cases h2:lc r p with
 |false=>rfl
 |true=>
  show ã (GR h) (λe=>?_) (λe=>?_)
  ·subst e;rw[h2]at h';show nomatch h'
  ·rw[GU h2 e]at h';show nomatch h'
set_option tactic.hygienic true in
theorem o0(p:KP):∀{l:List KP},l.Pairwise nV->(Df p l).Pairwise nV
 |[],_=>Ō.mpr ⟨(λ_ h=>nomatch h),.nil⟩
 |q::r,h=>by
  show aO (Ō.mp h) λh1 h2=>?_;unfold Df;split
  ·rename_i hq
   show Ō.mpr ⟨λz hz=>?_,o0 p h2⟩;rcases Ĉ.mp ((ov p r).mem_iff.mp hz) with rfl|hz
   ·show Bp hq
   ·show h1 z hz
  ·rename_i hq
   have Ta:nV p q:=ady.mpr hq;show Ō.mpr ⟨λz hz=>?_,h⟩;rcases Ĉ.mp hz with rfl|hz
   ·show Ta
   ·show zQ Ta (h1 z hz)
theorem jD:∀l:List KP,(fo l).Pairwise nV
 |[]=>.nil
 |p::r=>o0 p (jD r)
theorem xO(hp:m.Perm l)(hs:m.Pairwise nV):m=fo l:=
 List.Perm.eq_of_pairwise (le:=nV) (λa b z z g1 g2=>by
  show ã (GR g1) (λe=>?_) (λe=>?_)
  ·show e.symm
  ·rw[g2]at e;show nomatch e) hs (jD l) (hp.trans (fD l).symm)
end Lar
namespace Lar
open PySem PyProof.Rows
def kW{α:Type}(r:α->α->Bool)(l:List α):Prop:=l.Pairwise λx y=>r x y=Æ
noncomputable def rr(blt:Ë->Ë->Bool)(ord:Ë->Nat)(x y:Ë):Bool:=blt x y||(!blt y x&&decide (ord x<ord y))
theorem dK{blt:Ë->Ë->Bool}{ord:Ë->Nat}{x y:Ë}:rr blt ord x y=Æ↔blt x y=Æ\/(blt y x=Ê/\ord x<ord y):=by unfold rr;rw[Ϙ,ň,ώ,decide_eq_true_eq]
structure SO(A:Ñ)(E:Ä->Å->Prop)(s:Å)(blt:Ë->Ë->Bool)(kd:ŵ)(Č:Ë->Prop):Prop where
 cmp:∀x y,Č x->Č y->∀(st:Ò) (Q:Option Bool->Ò->Prop),kindOf st=kd->Q (À (blt x y)) st->wpS mo A E s (lt' x y) Q st
 asym:∀x y,blt x y=Æ->blt y x=Ê
 trans:∀x y z,blt x y=Æ->blt y z=Æ->blt x z=Æ
 neg:∀x y z,blt x z=Æ->blt x y=Æ\/blt y z=Æ
def AF(A:Ñ)(E:Ä->Å->Prop)(s:Å)(blt:Ë->Ë->Bool)(ord:Ë->Nat)(kd:ŵ)(Č:Ë->Prop):Prop:=∀{a₀:List Ë} {st:Ò} {Q:Unit->Ò->Prop} (S:SO A E s blt kd Č) (hU:∀x∈a₀,Č x) (hk:kindOf st=kd) (hf:ë st=Ã) (hp:Ö st=#[]) (e:(Û st).toList=a₀) (asc:a₀.Pairwise λx y=>ord x<ord y)
  (h:∀Ø Ú,kW (rr blt ord) Ø->Ø.Perm a₀->(Û Ú).toList=Ø->ë Ú=Ã->Q () Ú),wpS mo A E s sortRuns' Q st
def zc:=hc (U7 AF) ({},λz z=>True,dS,λz z=>Æ,λz=>0,oneType',λz=>True)
def zA:=zc.1
def zE:=zc.2.1
def zs:=zc.2.2.1
def zb:=zc.2.2.2.1
def zo:=zc.2.2.2.2.1
def zk:=zc.2.2.2.2.2.1
def zU:=zc.2.2.2.2.2.2
abbrev zr:Ë->Ë->Bool:=rr zb zo
theorem cI{H α:Type}{c:Prop}[Decidable c]{m n:StateT H Sem α}{Q:α->H->Prop}{st:H}(hc:c)(h:wpS mo zA zE zs m Q st):wpS mo zA zE zs (if c then m else n) Q st:=by rw[if_pos hc];show h
theorem ck{H α:Type}{c:Prop}[Decidable c]{m n:StateT H Sem α}{Q:α->H->Prop}{st:H}(hc:¬ c)(h:wpS mo zA zE zs n Q st):wpS mo zA zE zs (if c then m else n) Q st:=by rw[if_neg hc];show h
noncomputable def eW:Bool->Ë->Array Ë->Nat->Nat->Nat->StateT Ò Sem (Option Nat):=sortPriv% PySem.Builtin.gallop
noncomputable def Ff(left:Bool)(gJ:Ë)(arr:Array Ë)(base i:Nat):StateT Ò Sem (Option Bool):=
 elem' arr (base+i)>>=λx=>if left=Æ then lt' x gJ else lt' gJ x>>=λz=>pure (z.map λb=>!b)
abbrev GS:Type:=Option (Option Nat)×Nat×Nat
def Gi(left:Bool)(gJ:Ë)(arr:Array Ë)(base:Nat)(_:Nat)(c:GS):StateT Ò Sem (ForInStep GS):=
 if c.2.1 >= c.2.2 then pure (.done (Ã,c.2.1,c.2.2))
 else Ff left gJ arr base (c.2.1+(c.2.2-c.2.1) / 2)>>=λz=>match z with
  |some b=>if b=Æ then pure (.yield (Ã,c.2.1+(c.2.2-c.2.1) / 2+1,c.2.2)) else pure (.yield (Ã,c.2.1,c.2.1+(c.2.2-c.2.1) / 2))
  |_=>pure (.done (À Ã,c.2.1,c.2.2))
def X3(left:Bool)(gJ:Ë)(arr:Array Ë)(base top hint:Nat)(_:Nat)(c:GS):StateT Ò Sem (ForInStep GS):=
 if c.2.2 >= top then pure (.done (Ã,c.2.1,c.2.2))
 else Ff left gJ arr base (hint+c.2.2)>>=λz=>match z with
  |some b=>if (!b)=Æ then pure (.done (Ã,c.2.1,c.2.2)) else pure (.yield (Ã,c.2.2,2*c.2.2+1))
  |_=>pure (.done (À Ã,c.2.1,c.2.2))
def Mh(left:Bool)(gJ:Ë)(arr:Array Ë)(base top hint:Nat)(_:Nat)(c:GS):StateT Ò Sem (ForInStep GS):=
 if c.2.2 >= top then pure (.done (Ã,c.2.1,c.2.2))
 else Ff left gJ arr base (hint-c.2.2)>>=λz=>match z with
  |some b=>if b=Æ then pure (.done (Ã,c.2.1,c.2.2)) else pure (.yield (Ã,c.2.2,2*c.2.2+1))
  |_=>pure (.done (À Ã,c.2.1,c.2.2))
noncomputable def pi(c:GS)(k:Nat->Nat->StateT Ò Sem (Option Nat)):StateT Ò Sem (Option Nat):=match c.1 with
 |some r=>pure r
 |none=>k c.2.1 c.2.2
def Fi(left:Bool)(gJ:Ë)(arr:Array Ë)(base n lo hi:Nat):StateT Ò Sem (Option Nat):=
 forIn [0:n] ((Ã,lo,hi):GS) (Gi left gJ arr base)>>=λc=>pi c λz h=>pure (À h)
theorem zm(left:Bool)(gJ:Ë)(arr:Array Ë)(base n hint:Nat):eW left gJ arr base n hint =
  (Ff left gJ arr base hint>>=λz=>match z with
   |some b=>if b=Æ then forIn [0:n] ((Ã,0,1):GS) (X3 left gJ arr base (n-hint) hint)>>=λc=>pi c λl o=>Fi left gJ arr base n (hint+l+1) (hint+min o (n-hint))
    else forIn [0:n] ((Ã,0,1):GS) (Mh left gJ arr base (hint+1) hint)>>=λc=>pi c λl o=>Fi left gJ arr base n (hint+1-min o (hint+1)) (hint-l)
   |_=>pure Ã):=by kernel_rfl
section
def Qb(left:Bool)(gJ:Ë)(arr:Array Ë)(base n:Nat)(st:Ò)(bey:Nat->Bool):Prop:=
 ∀i,i<n->∀Q:Option Bool->Ò->Prop,Q (À (bey i)) st->wpS mo zA zE zs (Ff left gJ arr base i) Q st
theorem mG{i n:Nat}{bey:Nat->Bool}(gj:∀i j,i<=j->j<n->bey j=Æ->bey i=Æ){k:Nat}(hk:bey k=Ê)(h1:k<=i)(h2:i<n):bey i=Ê:=by
 cases hb:bey i with
 |false=>rfl
 |true=>rw[gj k i h1 h2 hb]at hk;show nomatch hk
structure BI{β:Type}(bey:Nat->Bool)(n x:Nat)(c:Option β×Nat×Nat):Prop where
 no:c.1=Ã
 le:c.2.1<=c.2.2
 hi:c.2.2<=n
 lo:∀i,i<c.2.1->bey i=Æ
 up:∀i,c.2.2<=i->i<n->bey i=Ê
 t:c.2.2+x<=n+c.2.1
structure BQ{β:Type}(bey:Nat->Bool)(n:Nat)(c:Option β×Nat×Nat):Prop where
 no:c.1=Ã
 eq:c.2.2<=c.2.1
 hi:c.2.2<=n
 lo:∀i,i<c.2.1->bey i=Æ
 up:∀i,c.2.2<=i->i<n->bey i=Ê
theorem J3{lo hi:Nat}(h:¬ lo >= hi):lo+(hi-lo) / 2<hi:=acV (Nat.div_lt_self (ϳ (ϕ.mp h)) (Đ 2))
theorem jG(h:c.1=Ã):pi c k=k c.2.1 c.2.2:=by unfold pi;rw[h]
section
variable{left:Bool}{gJ:Ë}{arr:Array Ë}{base n hint:Nat}{st:Ò}{bey:Nat->Bool}{Q:Option Nat->Ò->Prop}
theorem Iy(hB:Qb left gJ arr base n st bey)(gj:∀i j,i<=j->j<n->bey j=Æ->bey i=Æ){x:Nat}{c:GS}(I:BI bey n x c){P:ForInStep GS->Ò->Prop}(hd:∀c,BQ bey n c->P (.done c) st)(hy:∀c,BI bey n (x+1) c->P (.yield c) st):
  wpS mo zA zE zs (Gi left gJ arr base x c) P st:=by
 unfold Gi;by_cases lB:c.2.1 >= c.2.2
 ·show cI lB (Ð (hd _ ⟨N,lB,I.hi,I.lo,I.up⟩))
 ·have hm:=J3 lB
  have hn:=ĳ hm I.hi;show ck lB (Í (hB _ hn _ ?_));have S5:c.2.1<=c.2.1+(c.2.2-c.2.1) / 2:=Ň _ _;cases hb:bey (c.2.1+(c.2.2-c.2.1) / 2) with
  |true=>show cI N (Ð (hy _ ⟨N,hm,I.hi,λi hi=>gj i _ (ϋ hi) hn hb,I.up,š (z' I.t (ϴ S5 n))⟩))
  |false=>show ck Ķ (Ð (hy _ ⟨N,S5,ī hn,I.lo,λi h6 h7=>mG gj hb h6 h7,z' (ac6 hm x) I.t⟩))
theorem Ce(hB:Qb left gJ arr base n st bey)(gj:∀i j,i<=j->j<n->bey j=Æ->bey i=Æ)(h:∀k,k<=n->(∀i,i<k->bey i=Æ)->(∀i,k<=i->i<n->bey i=Ê)->Q (À k) st){lo hi:Nat}(h1:lo<=hi)(h2:hi<=n)(h3:∀i,i<lo->bey i=Æ)(h4:∀i,hi<=i->i<n->bey i=Ê):
  wpS mo zA zE zs (Fi left gJ arr base n lo hi) Q st:=by
 show Í (ä (I:=λx c Ú=>Ú=st/\BI bey n x c) (λx c Ú z z q=>?_) (λc Ú q=>?_) ⟨N,N,h1,h2,h3,h4,z' h2 (Ň _ _)⟩)
 ·rw[q.1]
  show Iy hB gj q.2 (λc I=>by show wpS _ _ _ _ (pi c λz h=>pure (À h)) Q st;rw[jG I.no];show Ð (h _ I.hi (λi hi=>I.lo i (ĳ hi I.eq)) I.up)) λc I=>⟨N,I⟩
 ·have I:=q.2
  rw[jG I.no,q.1];have t:=I.t;have e:max 0 n=n:=ϲ (Ĥ _);rw[e,ϟ]at t;show Ð (h _ I.hi (λi hi=>I.lo i (ĳ hi (acw t))) I.up)
structure UI(bey:Nat->Bool)(n hint x:Nat)(c:GS):Prop where
 no:c.1=Ã
 lt:c.2.1<c.2.2
 t:x<c.2.2
 ln:hint+c.2.1<n
 b:bey (hint+c.2.1)=Æ
structure DI(bey:Nat->Bool)(hint x:Nat)(c:GS):Prop where
 no:c.1=Ã
 lt:c.2.1<c.2.2
 t:x<c.2.2
 ln:c.2.1<=hint
 b:bey (hint-c.2.1)=Ê
theorem WO(n:Nat):n<2*n+1:=Ϩ (adz n afh)
theorem QK(h:x<n):x+1<2*n+1:=acK (ĳ h (adz n afh))
theorem tw(hh:hint<n)(h:n-hint<=o):hint+min o (n-hint)=n:=by rw[ac9 h,ab7 (ī hh)]
theorem Au(hh:hint<n)(h6:hint+min o (n-hint)<=i)(h7:i<n):hint+o<=i:=by
 show ã (afB o (n-hint)) (λq=>?_) λq=>?_
 ·rw[Ŵ q]at h6;show h6
 ·rw[tw hh q]at h6;show absurd h7 (ľ.mpr h6)
theorem vw(hB:Qb left gJ arr base n st bey)(hh:hint<n)(gj:∀i j,i<=j->j<n->bey j=Æ->bey i=Æ)(h:∀k,k<=n->(∀i,i<k->bey i=Æ)->(∀i,k<=i->i<n->bey i=Ê)->Q (À k) st){x:Nat}{c:GS}(I:UI bey n hint x c)(h5:c.2.2 >= n-hint\/bey (hint+c.2.2)=Ê):
  wpS mo zA zE zs (pi c λl o=>Fi left gJ arr base n (hint+l+1) (hint+min o (n-hint))) Q st:=by
 rw[jG I.no];show Ce hB gj h (ϴ (aft.mpr ⟨I.lt,Nat.le_sub_of_add_le' I.ln⟩) hint) (z' (ϴ (acL _ _) _) (ŕ (ab7 (ī hh)))) (λi hi=>gj i _ (ϋ hi) I.ln I.b) λi h6 h7=>ã h5 (λh5=>?_) λh5=>mG gj h5 (Au hh h6 h7) h7;rw[tw hh h5]at h6;show absurd h7 (ľ.mpr h6)
theorem oM(hB:Qb left gJ arr base n st bey)(hh:hint<n)(gj:∀i j,i<=j->j<n->bey j=Æ->bey i=Æ)(h:∀k,k<=n->(∀i,i<k->bey i=Æ)->(∀i,k<=i->i<n->bey i=Ê)->Q (À k) st){x:Nat}{c:GS}(I:DI bey hint x c)(h5:c.2.2 >= hint+1\/bey (hint-c.2.2)=Æ):
  wpS mo zA zE zs (pi c λl o=>Fi left gJ arr base n (hint+1-min o (hint+1)) (hint-l)) Q st:=by
 rw[jG I.no];have S6:=ŷ (ŏ hint c.2.1) hh;show Ce hB gj h ?_ (ī S6) (λi hi=>?_) λi h6 h7=>mG gj I.b h6 h7
 ·rw[<-ae0 hint c.2.1]
  show adW (aft.mpr ⟨I.lt,š I.ln⟩) _
 ·show ã h5 (λh5=>?_) λh5=>gj i _ ?_ (ŷ (ŏ _ _) hh) h5
  ·rw[ac9 h5,Ϸ]at hi
   show absurd hi (aci _)
  ·rw[aeY,<-Nat.sub_eq_sub_min]at hi
   show Nat.le_sub_of_add_le (ϋ (Nat.add_lt_of_lt_sub hi))
theorem Ax(hB:Qb left gJ arr base n st bey)(hh:hint<n)
  (gj:∀i j,i<=j->j<n->bey j=Æ->bey i=Æ)
  (h:∀k,k<=n->(∀i,i<k->bey i=Æ)->(∀i,k<=i->i<n->bey i=Ê)->Q (À k) st) :
  wpS mo zA zE zs (eW left gJ arr base n hint) Q st:=by
 rw[zm];show Í (hB hint hh _ ?_);have e:max 0 n=n:=ϲ (Ĥ _);cases zt:bey hint with
 |true=>
  show cI N (Í (ä (I:=λx c Ú=>Ú=st/\UI bey n hint x c) (λx c Ú z hx q=>?_) (λc Ú q=>?_) ⟨N,N,Ŷ,Ŷ,hh,zt⟩))
  ·rw[q.1]
   have I:=q.2;unfold X3;by_cases lB:c.2.2 >= n-hint
   ·show cI lB (Ð (vw hB hh gj h (c:=(Ã,c.2.1,c.2.2)) ⟨N,I.lt,I.t,I.ln,I.b⟩ (.inl lB)))
   ·have cE:hint+c.2.2<n:=acV (ϕ.mp lB)
    show ck lB (Í (hB _ cE _ ?_));cases hb:bey (hint+c.2.2) with
    |true=>show ck Ķ (Ð ⟨N,N,WO _,QK I.t,cE,hb⟩)
    |false=>show cI N (Ð (vw hB hh gj h (c:=(Ã,c.2.1,c.2.2)) ⟨N,I.lt,I.t,I.ln,I.b⟩ (.inr hb)))
  ·rw[q.1]
   have t:=q.2.t;rw[e]at t;show vw hB hh gj h q.2 (.inl (z' (ŏ _ _) (ī t)))
 |false=>
  show ck Ķ (Í (ä (I:=λx c Ú=>Ú=st/\DI bey hint x c) (λx c Ú z hx q=>?_) (λc Ú q=>?_) ⟨N,N,Ŷ,Ŷ,Ĥ _,zt⟩))
  ·rw[q.1]
   have I:=q.2;unfold Mh;by_cases lB:c.2.2 >= hint+1
   ·show cI lB (Ð (oM hB hh gj h (c:=(Ã,c.2.1,c.2.2)) ⟨N,I.lt,I.t,I.ln,I.b⟩ (.inl lB)))
   ·show ck lB (Í (hB _ (ŷ (ŏ _ _) hh) _ ?_))
    cases hb:bey (hint-c.2.2) with
    |true=>show cI N (Ð (oM hB hh gj h (c:=(Ã,c.2.1,c.2.2)) ⟨N,I.lt,I.t,I.ln,I.b⟩ (.inr hb)))
    |false=>show ck Ķ (Ð ⟨N,N,WO _,QK I.t,ϋ (ϕ.mp lB),hb⟩)
  ·rw[q.1]
   have t:=q.2.t;rw[e]at t;show oM hB hh gj h q.2 (.inl (Ϟ hh t))
end
end
section
variable{α:Type}{r:α->α->Bool}{la lb o ra rb p:List α}
def yv(r:α->α->Bool)(l m:List α):Prop:=∀x∈l,∀y∈m,r x y=Æ
theorem cz:kW r (l++m)↔kW r l/\kW r m/\yv r l m:=Ϣ
structure Mg(r:α->α->Bool)(la lb o ra rb:List α):Prop where
 sa:kW r (o++ra)
 sb:kW r (o++rb)
 pm:(o++(ra++rb)).Perm (la++lb)
structure fh(r:α->α->Bool)(la lb o:List α):Prop where
 so:kW r o
 pm:o.Perm (la++lb)
theorem Mg.swap(h:Mg r la lb o ra rb):Mg r lb la o rb ra:=⟨h.sb,h.sa,(adK.append_left o).trans (h.pm.trans adK)⟩
theorem fh.swap(h:fh r la lb o):fh r lb la o:=⟨h.so,h.pm.trans adK⟩
theorem Mg.addA(h:Mg r la lb o (p++ra) rb)(hk:yv r p rb):Mg r la lb (o++p) ra rb:=by
 have q:=cz.mp h.sa;have q':=cz.mp h.sb;show⟨by rw[ÿ];show h.sa,cz.mpr ⟨cz.mpr ⟨q.1,(cz.mp q.2.1).1,λx hx y hy=>q.2.2 x hx y (Ź _ hy)⟩,q'.2.1,λx hx y hy=>?_⟩,?_⟩
 ·show ã (Ģ.mp hx) (λhx=>q'.2.2 x hx y hy) λhx=>hk x hx y hy
 ·have:=h.pm
  rw[ÿ]at this ⊢;show this
theorem Mg.addB(h:Mg r la lb o ra (p++rb))(hk:yv r p ra):Mg r la lb (o++p) ra rb:=(h.swap.addA hk).swap
theorem Mg.endA(h:Mg r la lb o ra []):fh r la lb (o++ra):=⟨h.sa,by have:=h.pm;rw[Ĵ]at this;show this⟩
theorem Mg.endB(h:Mg r la lb o [] rb):fh r la lb (o++rb):=h.swap.endA.swap
theorem Mg.endBA(h:Mg r la lb o ra rb)(hk:yv r rb ra):fh r la lb (o++(rb++ra)):=by have:=h;rw[<-Ĵ rb]at this;rw[<-ÿ];show(this.addB hk).endA
theorem Mg.srtA(h:Mg r la lb o ra rb):kW r ra:=(cz.mp h.sa).2.1
theorem Mg.srtB(h:Mg r la lb o ra rb):kW r rb:=(cz.mp h.sb).2.1
noncomputable def IP(r:α->α->Bool):α->α->Bool:=λx y=>r y x
theorem BX(h:kW r l):kW (IP r) l.reverse:=aev.mpr h
theorem fh.rev(h:fh (IP r) la.reverse lb.reverse o):fh r la lb o.reverse:=
 ⟨aev.mpr h.so,(acg o).trans (h.pm.trans ((acg la).append (acg lb)))⟩
theorem Pv(h:kW r (x::l)):∀y∈l,r x y=Æ:=(Ō.mp h).1
theorem Fg(tr:∀x y z,r x y=Æ->r y z=Æ->r x z=Æ)(zs:kW r (y::l))(h:∀x∈p,r x y=Æ):yv r p (y::l):=λx hx z hz=>
 ã (Ĉ.mp hz) (λe=>e▸h x hx) λhz=>tr _ _ _ (h x hx) (Pv zs z hz)
end
section
variable{st:Ò}
theorem jm(he:arr.toList[j]?=À x)(h:Q x st):wpS mo zA zE zs (elem' arr j) Q st:=by rw[elem'_eq,<-Ϯ,he];show Ð h
theorem Cf{left:Bool}{gJ:Ë}{arr:Array Ë}{base hint:Nat}{X:List Ë}{f:Ë->Bool}{Q:Option Nat->Ò->Prop}(ha:∀i (hi:i<X.length),arr.toList[base+i]?=À X[i])
  (hc:∀x∈X,∀P:Option Bool->Ò->Prop,P (À (f x)) st->wpS mo zA zE zs (if left=Æ then lt' x gJ else lt' gJ x>>=λz=>pure (z.map λb=>!b)) P st)
  (gj:X.Pairwise λx y=>f y=Æ->f x=Æ) (hh:hint<X.length) (h:∀k,k<=X.length->(∀x∈X.take k,f x=Æ)->(∀x∈X.drop k,f x=Ê)->Q (À k) st) :
  wpS mo zA zE zs (eW left gJ arr base X.length hint) Q st:=by
 have e:∀i (hi:i<X.length),(X[i]?).elim Ê f=f X[i]:=λi hi=>by rw[ē hi];rfl
 show Ax (bey:=λi=>(X[i]?).elim Ê f) (λi hi P hP=>?_) hh (λi j zx hj hb=>?_) λk hk h1 h2=>h k hk (λx hx=>?_) λx hx=>?_
 ·show Í (jm (ha i hi) (hc _ (ź hi) _ (by rw[<-e i hi];show hP)))
 ·show ã (aeQ zx) (λcE=>?_) λq=>q▸hb
  have hi:=Ϟ cE hj;rw[e j hj]at hb;rw[e i hi];show acv.mp gj i j hi hj cE hb
 ·show W' (ab2.mp hx) λi q=>W' q λhi q=>?_
  have jZ:=ĳ hi (z' (ŕ (Ŭ ..)) (acj _ _));rw[<-q,aec,<-e i (ĳ jZ hk)];show h1 i jZ
 ·show W' (ab2.mp hx) λi q=>W' q λhi q=>?_
  have jZ:k+i<X.length:=acV (ĳ hi (ŕ (ϱ ..)));rw[<-q,ae4,<-e _ jZ];show h2 _ (Ň _ _) jZ
structure MC(X Y:List Ë):Prop where
 cmp:∀x∈X,∀y∈Y,∀(st:Ò) (Q:Option Bool->Ò->Prop),kindOf st=zk->Q (À (zr y x)) st->wpS mo zA zE zs (lt' y x) Q st
 trans:∀x y z,zr x y=Æ->zr y z=Æ->zr x z=Æ
 asym:∀x y,zr x y=Æ->zr y x=Ê
 tot:∀x∈X,∀y∈Y,zr y x=Ê->zr x y=Æ
 sX:kW zr X
 sY:kW zr Y
theorem MC.gX{X Y X':List Ë}(M:MC X Y)(hX:∀x∈X',x∈X)(sX:kW zr X'){arr:Array Ë}{base hint:Nat}{n:Nat}(hn:X'.length=n)(ha:∀i (hi:i<X'.length),arr.toList[base+i]?=À X'[i]){y:Ë}(hy:y∈Y)(hh:hint<n)(hk:kindOf st=zk){Q:Option Nat->Ò->Prop}
  (h:∀k,k<=n->(∀x∈X'.take k,zr x y=Æ)->(∀x∈X'.drop k,zr y x=Æ)->Q (À k) st):wpS mo zA zE zs (eW Ê y arr base n hint) Q st:=by
 subst hn;show Cf (f:=λx=>!(zr y x)) ha (λx hx P hP=>ck Ķ (Í (M.cmp x (hX x hx) y hy _ _ hk (Ð hP)))) (List.Pairwise.imp_of_mem (λ{x x'} hx GD hr hb=>?_) sX) hh λk hk h1 h2=>h k hk (λx hx=>?_) λx hx=>?_
 ·have hb':zr y x'=Ê:=(ώ _).mp hb
  rw[M.asym _ _ (M.trans _ _ _ hr (M.tot x' (hX x' GD) y hy hb'))];rfl
 ·show M.tot x (hX x (ŭ hx)) y hy ((ώ _).mp (h1 x hx))
 ·show(adn _).mp (h2 x hx)
theorem MC.gY(M:MC X Y)(hY:∀y∈Y',y∈Y)(sY:kW zr Y')(hn:Y'.length=n)(ha:∀i (hi:i<Y'.length),arr.toList[base+i]?=À Y'[i])(hx:x∈X)(hh:hint<n)(hk:kindOf st=zk){Q:Option Nat->Ò->Prop}
  (h:∀k,k<=n->(∀y∈Y'.take k,zr y x=Æ)->(∀y∈Y'.drop k,zr x y=Æ)->Q (À k) st):wpS mo zA zE zs (eW Æ x arr base n hint) Q st:=by
 subst hn;show Cf (f:=λy=>zr y x) ha (λy hy P hP=>cI N (M.cmp x hx y (hY y hy) _ _ hk hP)) (List.Pairwise.imp (λ{y y'} hr hb=>M.trans _ _ _ hr hb) sY) hh λk hk h1 h2=>h k hk h1 λy hy=>M.tot x hx y (hY y (ϛ hy)) (h2 y hy)
end
noncomputable def eC:Nat->StateT Ò Sem Unit:=sortPriv% PySem.Builtin.setMinGallop
noncomputable def rc:Array Ë->Array Ë->StateT Ò Sem (Array Ë):=sortPriv% PySem.Builtin.mergeLo
theorem dU(g:Nat):eC g=modify (λzs=>SortSt.mk' (kindOf zs) (Û zs) (Ö zs) g (ë zs)):=rfl
noncomputable def ge(a b out:Array Ë)(ia ib:Nat):Array Ë:=out++a.extract ia a.size++b.extract ib b.size
noncomputable def ow(a b out:Array Ë)(ia ib:Nat):Array Ë:=out++b.extract ib b.size++a.extract ia a.size
abbrev LS:Type:=Option (Array Ë)×Array Ë×Nat×Nat×Nat×Nat×Nat
def gD(a b out:Array Ë)(ia ib mg ac bc:Nat):StateT Ò Sem (ForInStep LS):=
 elem' a ia>>=λx=>
  if (ia+1+1==a.size)=Æ then pure (.done (À (ow a b (out.push x) (ia+1) ib),out.push x,ia+1,ib,mg,ac,bc))
  else if (decide (ac<7)&&decide (bc<7))=Æ then pure (.done (Ã,out.push x,ia+1,ib,mg,ac,bc))
  else pure (.yield (Ã,out.push x,ia+1,ib,mg,ac,bc))
def gC(a b out:Array Ë)(ia ib mg ac bc:Nat):StateT Ò Sem (ForInStep LS):=
 elem' b ib>>=λx=>
  if (ib+1==b.size)=Æ then pure (.done (À (ge a b (out.push x) ia (ib+1)),out.push x,ia,ib+1,mg,ac,bc))
  else elem' a ia>>=λy=>eW Æ y b (ib+1) (b.size-(ib+1)) 0>>=λz=>match z with
   |some k=>if k > 0 then (if (ib+1+k==b.size)=Æ then pure (.done (À (ge a b (out.push x++b.extract (ib+1) (ib+1+k)) ia (ib+1+k)),out.push x++b.extract (ib+1) (ib+1+k),ia,ib+1+k,mg,ac,k))
     else gD a b (out.push x++b.extract (ib+1) (ib+1+k)) ia (ib+1+k) mg ac k)
    else gD a b (out.push x) ia (ib+1) mg ac k
   |_=>pure (.done (À (ge a b (out.push x) ia (ib+1)),out.push x,ia,ib+1,mg,ac,bc))
def gB(a b out:Array Ë)(ia ib mg ac bc:Nat):StateT Ò Sem (ForInStep LS):=
 eC mg>>=λy=>elem' b ib>>=λx=>eW Ê x a ia (a.size-ia) 0>>=λz=>match z with
 |some k=>if k > 0 then (if (ia+k+1==a.size)=Æ then pure (.done (À (ow a b (out++a.extract ia (ia+k)) (ia+k) ib),out++a.extract ia (ia+k),ia+k,ib,mg,k,bc))
   else if (ia+k==a.size)=Æ then pure (.done (À (ge a b (out++a.extract ia (ia+k)) (ia+k) ib),out++a.extract ia (ia+k),ia+k,ib,mg,k,bc))
   else gC a b (out++a.extract ia (ia+k)) (ia+k) ib mg k bc)
  else gC a b out ia ib mg k bc
 |_=>pure (.done (À (ge a b out ia ib),out,ia,ib,mg,ac,bc))
abbrev IS:Type:=Option (Array Ë)×Array Ë×Nat×Nat×Nat×Nat
def M9(a b:Array Ë)(mg:Nat)(_:Nat)(c:IS):StateT Ò Sem (ForInStep IS):=
 elem' b c.2.2.2.1>>=λy=>elem' a c.2.2.1>>=λx=>lt' y x>>=λz=>match z with
 |some t=>if t=Æ then elem' b c.2.2.2.1>>=λv=>
    if (c.2.2.2.1+1==b.size)=Æ then pure (.done (À (ge a b (c.2.1.push v) c.2.2.1 (c.2.2.2.1+1)),c.2.1.push v,c.2.2.1,c.2.2.2.1+1,0,c.2.2.2.2.2+1))
    else if c.2.2.2.2.2+1 >= mg then pure (.done (Ã,c.2.1.push v,c.2.2.1,c.2.2.2.1+1,0,c.2.2.2.2.2+1)) else pure (.yield (Ã,c.2.1.push v,c.2.2.1,c.2.2.2.1+1,0,c.2.2.2.2.2+1))
   else elem' a c.2.2.1>>=λv=>
    if (c.2.2.1+1+1==a.size)=Æ then pure (.done (À (ow a b (c.2.1.push v) (c.2.2.1+1) c.2.2.2.1),c.2.1.push v,c.2.2.1+1,c.2.2.2.1,c.2.2.2.2.1+1,0))
    else if c.2.2.2.2.1+1 >= mg then pure (.done (Ã,c.2.1.push v,c.2.2.1+1,c.2.2.2.1,c.2.2.2.2.1+1,0)) else pure (.yield (Ã,c.2.1.push v,c.2.2.1+1,c.2.2.2.1,c.2.2.2.2.1+1,0))
 |_=>pure (.done (À (ge a b c.2.1 c.2.2.1 c.2.2.2.1),c.2.1,c.2.2.1,c.2.2.2.1,c.2.2.2.2.1,c.2.2.2.2.2))
def QV(a b:Array Ë)(_:Nat)(c:LS):StateT Ò Sem (ForInStep LS):=
 if c.2.2.2.2.1 > 1 then gB a b c.2.1 c.2.2.1 c.2.2.2.1 (c.2.2.2.2.1-1) c.2.2.2.2.2.1 c.2.2.2.2.2.2 else gB a b c.2.1 c.2.2.1 c.2.2.2.1 c.2.2.2.2.1 c.2.2.2.2.2.1 c.2.2.2.2.2.2
abbrev OS:Type:=Option (Array Ë)×Array Ë×Nat×Nat×Nat
def Nb(a b:Array Ë)(_:Nat)(c:OS):StateT Ò Sem (ForInStep OS):=
 forIn [0:a.size+b.size] ((Ã,c.2.1,c.2.2.1,c.2.2.2.1,0,0):IS) (M9 a b c.2.2.2.2)>>=λd=>match d.1 with
 |some q=>pure (.done (À q,d.2.1,d.2.2.1,d.2.2.2.1,c.2.2.2.2))
 |none=>(liftM (rule "list.sort.gallop"):StateT Ò Sem Unit)>>=λz=>forIn [0:a.size+b.size] ((Ã,d.2.1,d.2.2.1,d.2.2.2.1,c.2.2.2.2+1,d.2.2.2.2.1,d.2.2.2.2.2):LS) (QV a b)>>=λf=>match f.1 with
  |some q=>pure (.done (À q,f.2.1,f.2.2.1,f.2.2.2.1,f.2.2.2.2.1))
  |none=>eC (f.2.2.2.2.1+1)>>=λz=>pure (.yield (Ã,f.2.1,f.2.2.1,f.2.2.2.1,f.2.2.2.2.1+1))
theorem xd(a b:Array Ë):rc a b =
  ((liftM (rule "list.sort.merge-lo"):StateT Ò Sem Unit)>>=λz=>elem' b 0>>=λx=>
   if (1==b.size)=Æ then pure (ge a b #[x] 0 1) else if (0+1==a.size)=Æ then pure (ow a b #[x] 0 1)
   else get>>=λzs=>forIn [0:a.size+b.size] ((Ã,#[x],0,1,gallopOf zs):OS) (Nb a b)>>=λc=>match c.1 with
    |some q=>pure q
    |none=>ğ "internal:list.sort.merge-bound"):=by kernel_rfl
structure bS(st Ú:Ò):Prop where
 k:kindOf Ú=kindOf st
 a:Û Ú=Û st
 p:Ö Ú=Ö st
 f:ë Ú=ë st
theorem bS.refl(st:Ò):bS st st:=⟨N,N,N,N⟩
theorem bS.trans{a b c:Ò}(x:bS a b)(y:bS b c):bS a c:=⟨y.k.trans x.k,y.a.trans x.a,y.p.trans x.p,y.f.trans x.f⟩
section
variable{H α:Type}{m n:StateT H Sem α}{Q:α->H->Prop}{st:H}
theorem cD[Decidable c](hT:c->wpS mo zA zE zs m Q st)(hF:¬ c->wpS mo zA zE zs n Q st):wpS mo zA zE zs (if c then m else n) Q st:=by
 by_cases h:c
 ·show cI h (hT h)
 ·show ck h (hF h)
theorem cj{i j:Nat}(hT:i=j->wpS mo zA zE zs m Q st)(hF:i≠j->wpS mo zA zE zs n Q st):wpS mo zA zE zs (if (i==j)=Æ then m else n) Q st:=
 cD (λh=>hT (beq_iff_eq.mp h)) λh=>hF λe=>h (beq_iff_eq.mpr e)
end
section
variable{la lb rb:List Ë}{a b out:Array Ë}{ia ib k:Nat}
theorem AX(hi:ia<a.size):a.toList.drop ia=a[ia]::a.toList.drop (ia+1):=abF hi
theorem pB(hi:ia<a.size):a[ia]∈a.toList:=Array.getElem_mem_toList hi
theorem OY(a:Array Ë)(i:Nat):(a.toList.drop i).length=a.size-i:=ϱ ..
theorem AI(a:Array Ë)(j i:Nat)(hi:i<(a.toList.drop j).length):a.toList[j+i]?=À (a.toList.drop j)[i]:=by rw[<-List.getElem?_drop,ē hi]
theorem we{l:List Ë}{n:Nat}(h:n=l.length):l.drop n=[]:=adv (ŕ h.symm)
theorem kR(a:Array Ë)(i:Nat):(a.extract i a.size).toList=a.toList.drop i:=by rw[acF,ab9];show adA (ŕ (OY a i))
theorem Mg.pushA(hi:ia<a.size)(h:Mg zr la lb out.toList (a.toList.drop ia) rb)(hk:∀y∈rb,zr a[ia] y=Æ):Mg zr la lb (out.push a[ia]).toList (a.toList.drop (ia+1)) rb:=by rw[AX hi]at h;rw[acZ];show h.addA (p:=[a[ia]]) λx hx y hy=>by rw[O'.mp hx];show hk y hy
theorem Mg.extA(k:Nat)(h:Mg zr la lb out.toList (a.toList.drop ia) rb)(hk:yv zr ((a.toList.drop ia).take k) rb):Mg zr la lb (out++a.extract ia (ia+k)).toList (a.toList.drop (ia+k)) rb:=by rw[<-Ť k (a.toList.drop ia),adB]at h;rw[Ÿ,acF,ab9,ϯ];show h.addA hk
theorem Mg.pushB(hi:ib<b.size)(h:Mg zr la lb out.toList rb (b.toList.drop ib))(hk:∀y∈rb,zr b[ib] y=Æ):Mg zr la lb (out.push b[ib]).toList rb (b.toList.drop (ib+1)):=(h.swap.pushA hi hk).swap
theorem Mg.extB(k:Nat)(h:Mg zr la lb out.toList rb (b.toList.drop ib))(hk:yv zr ((b.toList.drop ib).take k) rb):Mg zr la lb (out++b.extract ib (ib+k)).toList rb (b.toList.drop (ib+k)):=(h.swap.extA k hk).swap
theorem tP(tr:∀x y z,zr x y=Æ->zr y z=Æ->zr x z=Æ)(hi:ia<a.size)(zs:kW zr (a.toList.drop ia))(h:∀x∈p,zr x a[ia]=Æ):yv zr p (a.toList.drop ia):=by rw[AX hi]at zs ⊢;show Fg tr zs h
theorem xj(tr:∀x y z,zr x y=Æ->zr y z=Æ->zr x z=Æ)(hi:ia<a.size)(zs:kW zr (a.toList.drop ia))(h:zr x a[ia]=Æ):∀y∈a.toList.drop ia,zr x y=Æ:=λy hy=>
 tP (p:=[x]) tr hi zs (λz hz=>by rw[O'.mp hz];show h) x G' y hy
theorem G5(hk:k<=a.size-ia)(hi:ia<=a.size):ia+k<=a.size:=Nat.add_le_of_le_sub' hi hk
theorem up3(h:m<=i+j):m<=i+1+(j+1+k):=z' h (Ϗ (ϝ i) (z' (ϝ j) (Ň _ _)))
theorem up2(h:m<=i+j):m<=i+k+j:=z' h (ϣ (Ň i k) j)
structure IL(a b out:Array Ë)(ia ib:Nat):Prop where
 mi:Mg zr a.toList b.toList out.toList (a.toList.drop ia) (b.toList.drop ib)
 ha:ia+1<a.size
 hb:ib<b.size
def Cn(a b:Array Ë)(m:Nat)(q:Option (Array Ë))(out:Array Ë)(ia ib:Nat):Prop:=match q with
 |some mu=>fh zr a.toList b.toList mu.toList
 |none=>IL a b out ia ib/\m<=ia+ib
def LR(a b:Array Ë):Prop:=∀y∈b.toList,∀x∈a.toList.drop (a.size-1),zr y x=Æ
theorem p9(gi:LR a b)(h:Mg zr a.toList b.toList out.toList (a.toList.drop ia) (b.toList.drop ib))(ha:ia+1=a.size):fh zr a.toList b.toList (ow a b out ia ib).toList:=by unfold ow;rw[Ÿ,Ÿ,kR,kR,ÿ];show h.endBA λy hy x hx=>gi y (ϛ hy) x (by rw[<-ha];show hx)
theorem vo(h:Mg zr a.toList b.toList out.toList (a.toList.drop ia) (b.toList.drop ib))(hb:ib=b.size):fh zr a.toList b.toList (ge a b out ia ib).toList:=by have e:b.toList.drop ib=[]:=we hb;unfold ge;rw[Ÿ,Ÿ,kR,kR,e,Ĵ];rw[e]at h;show h.endA
theorem Pz(h:Mg zr a.toList b.toList out.toList (a.toList.drop ia) (b.toList.drop ib))(ha:ia=a.size):fh zr a.toList b.toList (ge a b out ia ib).toList:=by have e:a.toList.drop ia=[]:=we ha;unfold ge;rw[Ÿ,Ÿ,kR,kR,e,Ĵ];rw[e]at h;show h.endB
end
section
variable{a b out:Array Ë}{ia ib mg ac bc m:Nat}{st:Ò}{P:ForInStep LS->Ò->Prop}
theorem bV(hi:i<a.size)(h:Q a[i] st):wpS mo zA zE zs (elem' a i) Q st:=by rw[elem'_eq,acx hi];show Ð h
theorem Iu(gi:LR a b)(I:IL a b out ia ib)(hc:∀y∈b.toList.drop ib,zr (a[ia]'(Ş I.ha)) y=Æ)(hm:m<=ia+1+ib)(hd:∀c:LS,Cn a b m c.1 c.2.1 c.2.2.1 c.2.2.2.1->P (.done c) st)(hy:∀c:LS,c.1=Ã->Cn a b m c.1 c.2.1 c.2.2.1 c.2.2.2.1->P (.yield c) st):
  wpS mo zA zE zs (gD a b out ia ib mg ac bc) P st:=by
 have pz:ia<a.size:=Ş I.ha;have h1:=I.mi.pushA pz hc;show Í (bV pz (cj (λh2=>Ð (hd _ (p9 gi h1 h2))) λh2=>?_));have I':IL a b (out.push a[ia]) (ia+1) ib:=⟨h1,Ŧ I.ha h2,I.hb⟩;show cD (λz=>Ð (hd _ ⟨I',hm⟩)) λz=>Ð (hy _ N ⟨I',hm⟩)
theorem It(M:MC a.toList b.toList)(gi:LR a b)(lC:kindOf st=zk)(I:IL a b out ia ib)(hc:∀y∈a.toList.drop ia,zr (b[ib]'I.hb) y=Æ)(hm:m<=ia+ib)(hd:∀c:LS,Cn a b m c.1 c.2.1 c.2.2.1 c.2.2.2.1->P (.done c) st)(hy:∀c:LS,c.1=Ã->Cn a b m c.1 c.2.1 c.2.2.1 c.2.2.2.1->P (.yield c) st):
  wpS mo zA zE zs (gC a b out ia ib mg ac bc) P st:=by
 have pz:ia<a.size:=Ş I.ha;have h1:=I.mi.pushB I.hb hc;show Í (bV I.hb (cj (λh2=>Ð (hd _ (vo h1 h2))) λh2=>Í (bV pz ?_)));have zu:ib+1<b.size:=Ŧ I.hb h2;show Í (M.gY (λy hy=>ϛ hy) h1.srtB (OY b (ib+1)) (AI b (ib+1)) (pB pz) (ϳ zu) lC λk hk g1 g2=>cD (λz=>?_) λmS=>?_)
 ·have h3:=h1.extB k (tP M.trans pz h1.srtA g1)
  rw[adB]at g2;show cj (λh4=>Ð (hd _ (vo h3 h4))) λh4=>Iu gi ⟨h3,I.ha,Ŧ (G5 hk (ī zu)) h4⟩ g2 (up3 hm) hd hy
 ·have e:k=0:=acm mS
  rw[e]at g2;show Iu gi ⟨h1,I.ha,zu⟩ g2 (by show jL (y7 0xc6010b1013ba183213ba185413ba42612ba531 N (iL hm) (iA _ _) (iA _ _) (iA _ _) (iA _ _))) hd hy
theorem Ir(M:MC a.toList b.toList)(gi:LR a b)(lC:kindOf st=zk)(I:IL a b out ia ib)(hm:m<=ia+ib)(hd:∀(c:LS) Ú,bS st Ú->Cn a b m c.1 c.2.1 c.2.2.1 c.2.2.2.1->P (.done c) Ú)(hy:∀(c:LS) Ú,bS st Ú->c.1=Ã->Cn a b m c.1 c.2.1 c.2.2.1 c.2.2.2.1->P (.yield c) Ú):
  wpS mo zA zE zs (gB a b out ia ib mg ac bc) P st:=by
 have pz:ia<a.size:=Ş I.ha;have hs:bS st (SortSt.mk' (kindOf st) (Û st) (Ö st) mg (ë st)):=⟨N,N,N,N⟩;show Í ?_;rw[dU];show ù (Í (bV I.hb (Í (M.gX (st:=SortSt.mk' (kindOf st) (Û st) (Ö st) mg (ë st)) (λy hy=>ϛ hy) I.mi.srtA (OY a ia) (AI a ia) (pB I.hb) (ϳ pz) lC λk hk g1 g2=>cD (λz=>?_) λmS=>?_))))
 ·have h3:=I.mi.extA k (tP M.trans I.hb I.mi.srtB g1)
  rw[adB]at g2;show cj (λh4=>Ð (hd _ _ hs (p9 gi h3 h4))) λh4=>cj (λh5=>Ð (hd _ _ hs (Pz h3 h5))) λh5=>It M gi lC ⟨h3,Ŧ (Ŧ (G5 hk (ī pz)) h5) h4,I.hb⟩ g2 (up2 hm) (λc=>hd c _ hs) λc=>hy c _ hs
 ·have e:k=0:=acm mS
  rw[e]at g2;show It M gi lC I g2 hm (λc=>hd c _ hs) λc=>hy c _ hs
theorem En(M:MC a.toList b.toList)(gi:LR a b)(lC:kindOf st=zk){y:Nat}{c:IS}(I:IL a b c.2.1 c.2.2.1 c.2.2.2.1)(hm:m<=c.2.2.1+c.2.2.2.1){P:ForInStep IS->Ò->Prop}(hd:∀c:IS,Cn a b (m+1) c.1 c.2.1 c.2.2.1 c.2.2.2.1->P (.done c) st)(hy:∀c:IS,c.1=Ã->Cn a b (m+1) c.1 c.2.1 c.2.2.1 c.2.2.2.1->P (.yield c) st):
  wpS mo zA zE zs (M9 a b mg y c) P st:=by
 have pz:c.2.2.1<a.size:=Ş I.ha;have uu:=I.hb;show Í (bV uu (Í (bV pz (Í (M.cmp _ (pB pz) _ (pB uu) _ _ lC ?_)))));cases hr:zr b[c.2.2.2.1] a[c.2.2.1] with
 |true=>have h2:=I.mi.pushB uu (xj M.trans pz I.mi.srtA hr);show cI N (Í (bV uu (cj (λh3=>Ð (hd _ (vo h2 h3))) λh3=>?_)));have I':IL a b (c.2.1.push b[c.2.2.2.1]) c.2.2.1 (c.2.2.2.1+1):=⟨h2,I.ha,Ŧ uu h3⟩;show cD (λz=>Ð (hd _ ⟨I',š hm⟩)) λz=>Ð (hy _ N ⟨I',š hm⟩)
 |false=>have h2:=I.mi.pushA pz (xj M.trans uu I.mi.srtB (M.tot _ (pB pz) _ (pB uu) hr));show ck Ķ (Í (bV pz (cj (λh3=>Ð (hd _ (p9 gi h2 h3))) λh3=>?_)));have I':IL a b (c.2.1.push a[c.2.2.1]) (c.2.2.1+1) c.2.2.2.1:=⟨h2,Ŧ I.ha h3,uu⟩;have S8:m+1<=c.2.2.1+1+c.2.2.2.1:=(by show jL (y7 0xc5210b1012ba180213ba184313ba63512ba641 N (iL hm) (iA _ _) (iA _ _) (iA _ _) (iA _ _)));show cD (λz=>Ð (hd _ ⟨I',S8⟩)) λz=>Ð (hy _ N ⟨I',S8⟩)
theorem Ep(M:MC a.toList b.toList)(gi:LR a b)(lC:kindOf st=zk){x:Nat}{c:OS}(I:IL a b c.2.1 c.2.2.1 c.2.2.2.1)(hm:m<=c.2.2.1+c.2.2.2.1){P:ForInStep OS->Ò->Prop}(hd:∀q out ia ib mg Ú,bS st Ú->fh zr a.toList b.toList (ae5 q)->P (.done (À q,out,ia,ib,mg)) Ú)
  (hy:∀out ia ib mg Ú,bS st Ú->IL a b out ia ib->m+1<=ia+ib->P (.yield (Ã,out,ia,ib,mg)) Ú):wpS mo zA zE zs (Nb a b x c) P st:=by
 show Í (Ė (ä (I:=λy (d:IS) Ú=>Ú=st/\d.1=Ã/\Cn a b (m+y) d.1 d.2.1 d.2.2.1 d.2.2.2.1) (Q:=λ(d:IS) Ú=>Ú=st/\Cn a b (m+1) d.1 d.2.1 d.2.2.1 d.2.2.2.1) (λy d Ú z hy q=>?_) (λd Ú q=>?_) ⟨N,N,I,hm⟩) λd Ú q=>?_)
 ·rw[q.1]
  have q2:=q.2.2;rw[q.2.1]at q2;show En M gi lC q2.1 q2.2 (λc o=>⟨rfl,?_⟩) λc e o=>⟨rfl,e,o⟩;rcases c with ⟨_|mu,c⟩
  ·show⟨o.1,z' (š (Ň _ _)) o.2⟩
  ·show o
 ·have q2:=q.2.2
  rw[q.2.1]at q2;have ha:=q2.1.ha;have hb:=q2.1.hb;have hz:=q2.2;show absurd (adP 0 (a.size+b.size)) (by lia)
 ·rw[q.1]
  have q2:=q.2;rcases d with ⟨_|mu,d⟩
  ·show Í (ķ (ú ⟨N,(Í (Ė (ä (I:=λy (f:LS) Ú=>bS st Ú/\f.1=Ã/\Cn a b (m+1) f.1 f.2.1 f.2.2.1 f.2.2.2.1) (Q:=λ(f:LS) Ú=>bS st Ú/\Cn a b (m+1) f.1 f.2.1 f.2.2.1 f.2.2.2.1) (λy f Ú z hy q=>?_) (λf Ú q=>⟨q.1,q.2.2⟩) ⟨bS.refl _,N,q2⟩) λf Ú q=>?_))⟩))
   ·have q2:=q.2.2
    rw[q.2.1]at q2;have hk:=q.1.k.trans lC;show cD (λz=>Ir M gi hk q2.1 q2.2 (λc da hs o=>⟨q.1.trans hs,o⟩) λc da hs e o=>⟨q.1.trans hs,e,o⟩) λz=>Ir M gi hk q2.1 q2.2 (λc da hs o=>⟨q.1.trans hs,o⟩) λc da hs e o=>⟨q.1.trans hs,e,o⟩
   ·have q2:=q.2
    rcases f with ⟨_|mu,f⟩
    ·show Í ?_
     rw[dU];show ù (Ð (hy _ _ _ _ _ (q.1.trans ⟨N,N,N,N⟩) q2.1 q2.2))
    ·show Ð (hd _ _ _ _ _ _ q.1 q2)
  ·show Ð (hd _ _ _ _ _ _ (bS.refl _) q2)
theorem yn{Q:Array Ë->Ò->Prop}(M:MC a.toList b.toList)(gi:LR a b)(PS:0<a.size)(Rq:0<b.size)(first:∀x∈a.toList,zr b[0] x=Æ)(lC:kindOf st=zk)
  (h:∀mu Ú,bS st Ú->fh zr a.toList b.toList mu.toList->Q mu Ú):wpS mo zA zE zs (rc a b) Q st:=by
 rw[xd];refine Í (ķ (ú ⟨N,Í (bV Rq ?_)⟩));have h0:Mg zr a.toList b.toList (#[]:Array Ë).toList (a.toList.drop 0) (b.toList.drop 0):=⟨M.sX,M.sY,List.Perm.refl _⟩;have h1:=h0.pushB Rq first
 show cj (λzu=>Ð (h _ _ (bS.refl _) (vo h1 zu))) λzu=>cj (λOo=>Ð (h _ _ (bS.refl _) (p9 gi h1 Oo))) λOo=>Í (Ĭ (Í (Ė (ä (I:=λx (c:OS) Ú=>bS st Ú/\c.1=Ã/\Cn a b (x+1) c.1 c.2.1 c.2.2.1 c.2.2.2.1) (Q:=λ(c:OS) Ú=>bS st Ú/\∃q,c.1=À q/\fh zr a.toList b.toList q.toList) (λx c Ú z hx q=>?_) (λc Ú q=>?_) ⟨bS.refl _,N,⟨h1,Ŧ PS Oo,Ŧ Rq zu⟩,Đ _⟩) λc Ú q=>?_)))
 ·have q2:=q.2.2
  rw[q.2.1]at q2;show Ep M gi (q.1.k.trans lC) q2.1 q2.2 (λmu out ia ib mg da hs e=>⟨q.1.trans hs,_,N,e⟩) λout ia ib mg da hs I hm=>⟨q.1.trans hs,N,I,hm⟩
 ·have q2:=q.2.2
  rw[q.2.1]at q2;have ha:=q2.1.ha;have hb:=q2.1.hb;have hz:=q2.2;show absurd (adP 0 (a.size+b.size)) (by lia)
 ·show W' q.2 λmu e=>?_
  rw[e.1];show Ð (h _ _ q.1 e.2)
end
noncomputable def qZ:Array Ë->Array Ë->StateT Ò Sem (Array Ë):=sortPriv% PySem.Builtin.mergeHi
noncomputable def gc(a b out:Array Ë)(na nb:Nat):Array Ë:=a.extract 0 na++b.extract 0 nb++out.reverse
noncomputable def kI(a b out:Array Ë)(na nb:Nat):Array Ë:=b.extract 0 nb++a.extract 0 na++out.reverse
abbrev HS:Type:=Option (Array Ë)×Nat×Nat×Array Ë×Nat×Nat×Nat
def hD(a b out:Array Ë)(na nb mg ac bc:Nat):StateT Ò Sem (ForInStep HS):=
 elem' a (na-1)>>=λx=>
  if (na-1==0)=Æ then pure (.done (À (gc a b (out.push x) (na-1) nb),na-1,nb,out.push x,mg,ac,bc))
  else if (decide (ac<7)&&decide (bc<7))=Æ then pure (.done (Ã,na-1,nb,out.push x,mg,ac,bc))
  else pure (.yield (Ã,na-1,nb,out.push x,mg,ac,bc))
def hC(a b out:Array Ë)(na nb mg ac bc:Nat):StateT Ò Sem (ForInStep HS):=
 elem' b (nb-1)>>=λx=>
  if (nb-1==1)=Æ then pure (.done (À (kI a b (out.push x) na (nb-1)),na,nb-1,out.push x,mg,ac,bc))
  else elem' a (na-1)>>=λy=>eW Æ y b 0 (nb-1) (nb-1-1)>>=λz=>match z with
   |some k=>if nb-1-k > 0 then (if (k==1)=Æ then pure (.done (À (kI a b (out.push x++(b.extract k (nb-1)).reverse) na k),na,k,out.push x++(b.extract k (nb-1)).reverse,mg,ac,nb-1-k))
     else if (k==0)=Æ then pure (.done (À (gc a b (out.push x++(b.extract k (nb-1)).reverse) na k),na,k,out.push x++(b.extract k (nb-1)).reverse,mg,ac,nb-1-k))
     else hD a b (out.push x++(b.extract k (nb-1)).reverse) na k mg ac (nb-1-k))
    else hD a b (out.push x) na (nb-1) mg ac (nb-1-k)
   |_=>pure (.done (À (gc a b (out.push x) na (nb-1)),na,nb-1,out.push x,mg,ac,bc))
def hB(a b out:Array Ë)(na nb mg ac bc:Nat):StateT Ò Sem (ForInStep HS):=
 eC mg>>=λy=>elem' b (nb-1)>>=λx=>eW Ê x a 0 na (na-1)>>=λz=>match z with
 |some k=>if na-k > 0 then (if (k==0)=Æ then pure (.done (À (gc a b (out++(a.extract k na).reverse) k nb),k,nb,out++(a.extract k na).reverse,mg,na-k,bc))
   else hC a b (out++(a.extract k na).reverse) k nb mg (na-k) bc)
  else hC a b out na nb mg (na-k) bc
 |_=>pure (.done (À (gc a b out na nb),na,nb,out,mg,ac,bc))
abbrev JS:Type:=Option (Array Ë)×Nat×Nat×Array Ë×Nat×Nat
def M8(a b:Array Ë)(mg:Nat)(_:Nat)(c:JS):StateT Ò Sem (ForInStep JS):=
 elem' b (c.2.2.1-1)>>=λy=>elem' a (c.2.1-1)>>=λx=>lt' y x>>=λz=>match z with
 |some t=>if t=Æ then elem' a (c.2.1-1)>>=λv=>
    if (c.2.1-1==0)=Æ then pure (.done (À (gc a b (c.2.2.2.1.push v) (c.2.1-1) c.2.2.1),c.2.1-1,c.2.2.1,c.2.2.2.1.push v,c.2.2.2.2.1+1,0))
    else if c.2.2.2.2.1+1 >= mg then pure (.done (Ã,c.2.1-1,c.2.2.1,c.2.2.2.1.push v,c.2.2.2.2.1+1,0)) else pure (.yield (Ã,c.2.1-1,c.2.2.1,c.2.2.2.1.push v,c.2.2.2.2.1+1,0))
   else elem' b (c.2.2.1-1)>>=λv=>
    if (c.2.2.1-1==1)=Æ then pure (.done (À (kI a b (c.2.2.2.1.push v) c.2.1 (c.2.2.1-1)),c.2.1,c.2.2.1-1,c.2.2.2.1.push v,0,c.2.2.2.2.2+1))
    else if c.2.2.2.2.2+1 >= mg then pure (.done (Ã,c.2.1,c.2.2.1-1,c.2.2.2.1.push v,0,c.2.2.2.2.2+1)) else pure (.yield (Ã,c.2.1,c.2.2.1-1,c.2.2.2.1.push v,0,c.2.2.2.2.2+1))
 |_=>pure (.done (À (gc a b c.2.2.2.1 c.2.1 c.2.2.1),c.2.1,c.2.2.1,c.2.2.2.1,c.2.2.2.2.1,c.2.2.2.2.2))
def QU(a b:Array Ë)(_:Nat)(c:HS):StateT Ò Sem (ForInStep HS):=
 if c.2.2.2.2.1 > 1 then hB a b c.2.2.2.1 c.2.1 c.2.2.1 (c.2.2.2.2.1-1) c.2.2.2.2.2.1 c.2.2.2.2.2.2 else hB a b c.2.2.2.1 c.2.1 c.2.2.1 c.2.2.2.2.1 c.2.2.2.2.2.1 c.2.2.2.2.2.2
abbrev QS:Type:=Option (Array Ë)×Nat×Nat×Array Ë×Nat
def Na(a b:Array Ë)(_:Nat)(c:QS):StateT Ò Sem (ForInStep QS):=
 forIn [0:a.size+b.size] ((Ã,c.2.1,c.2.2.1,c.2.2.2.1,0,0):JS) (M8 a b c.2.2.2.2)>>=λd=>match d.1 with
 |some q=>pure (.done (À q,d.2.1,d.2.2.1,d.2.2.2.1,c.2.2.2.2))
 |none=>(liftM (rule "list.sort.gallop"):StateT Ò Sem Unit)>>=λz=>forIn [0:a.size+b.size] ((Ã,d.2.1,d.2.2.1,d.2.2.2.1,c.2.2.2.2+1,d.2.2.2.2.1,d.2.2.2.2.2):HS) (QU a b)>>=λf=>match f.1 with
  |some q=>pure (.done (À q,f.2.1,f.2.2.1,f.2.2.2.1,f.2.2.2.2.1))
  |none=>eC (f.2.2.2.2.1+1)>>=λz=>pure (.yield (Ã,f.2.1,f.2.2.1,f.2.2.2.1,f.2.2.2.2.1+1))
theorem xc(a b:Array Ë):qZ a b =
  ((liftM (rule "list.sort.merge-hi"):StateT Ò Sem Unit)>>=λz=>elem' a (a.size-1)>>=λx=>
   if (a.size-1==0)=Æ then pure (gc a b #[x] (a.size-1) b.size) else if (b.size==1)=Æ then pure (kI a b #[x] (a.size-1) b.size)
   else get>>=λzs=>forIn [0:a.size+b.size] ((Ã,a.size-1,b.size,#[x],gallopOf zs):QS) (Na a b)>>=λc=>match c.1 with
    |some q=>pure q
    |none=>ğ "internal:list.sort.merge-bound"):=by kernel_rfl
section
variable{la lb rb:List Ë}{a b out:Array Ë}{na nb k n:Nat}
theorem vC(h0:0<n)(hn:n<=m):n-1<m:=ĳ (Ϡ h0 Ŷ) hn
theorem RU(hn:n<=a.size):(a.toList.take n).length=n:=(Ŭ ..).trans (Ŵ hn)
theorem AJ(a:Array Ë)(n i:Nat)(hi:i<(a.toList.take n).length):a.toList[0+i]?=À (a.toList.take n)[i]:=by rw[ż,aec];show ē _
theorem Nr(h0:0<n)(hn:n<=a.size):(a.toList.take n).reverse=(a[n-1]'(vC h0 hn))::(a.toList.take (n-1)).reverse:=by
 cases n with
 |zero=>show absurd h0 (ţ _)
 |succ n=>rw[List.take_succ_eq_append_getElem hn,abZ];rfl
theorem jl(a:Array Ë)(n:Nat):(a.extract 0 n).toList=a.toList.take n:=by rw[acF,ab9];rfl
theorem Mg.pushHA{r:Ë->Ë->Bool}(h0:0<na)(hn:na<=a.size)(h:Mg r la lb out.toList (a.toList.take na).reverse rb)(hk:∀y∈rb,r (a[na-1]'(vC h0 hn)) y=Æ):Mg r la lb (out.push (a[na-1]'(vC h0 hn))).toList (a.toList.take (na-1)).reverse rb:=by rw[Nr h0 hn]at h;rw[acZ];show h.addA (p:=[a[na-1]'(vC h0 hn)]) λx hx y hy=>by rw[O'.mp hx];show hk y hy
theorem Mg.extHA{r:Ë->Ë->Bool}(hk:k<=na)(h:Mg r la lb out.toList (a.toList.take na).reverse rb)(hb:∀x∈(a.toList.take na).drop k,∀y∈rb,r x y=Æ):Mg r la lb (out++(a.extract k na).reverse).toList (a.toList.take k).reverse rb:=by rw[<-Ť k (a.toList.take na),abZ,ad5,Ŵ hk]at h;rw[Ÿ,ac7,acF,ab9,<-afq];show h.addA λx hx=>hb x (ϥ.mp hx)
theorem mH{r:Ë->Ë->Bool}(tr:∀x y z,r x y=Æ->r y z=Æ->r x z=Æ)(h0:0<n)(hn:n<=a.size)(zs:kW r (a.toList.take n).reverse)(h:∀x∈p,r x (a[n-1]'(vC h0 hn))=Æ):yv r p (a.toList.take n).reverse:=by rw[Nr h0 hn]at zs ⊢;show Fg tr zs h
structure IK(a b out:Array Ë)(na nb:Nat):Prop where
 mi:Mg (IP zr) a.toList.reverse b.toList.reverse out.toList (a.toList.take na).reverse (b.toList.take nb).reverse
 ha:0<na
 ha':na<=a.size
 hb:1<nb
 hb':nb<=b.size
def nW(a b:Array Ë)(m:Nat)(q:Option (Array Ë))(na nb:Nat)(out:Array Ë):Prop:=match q with
 |some mu=>fh zr a.toList b.toList mu.toList
 |none=>IK a b out na nb/\m+na+nb<=a.size+b.size
def NE(a b:Array Ë):Prop:=∀y∈b.toList.take 1,∀x∈a.toList,zr y x=Æ
theorem ur(h:Mg (IP zr) a.toList.reverse b.toList.reverse out.toList (a.toList.take na).reverse (b.toList.take nb).reverse)(hn:na=0):fh zr a.toList b.toList (gc a b out na nb).toList:=by unfold gc;rw[hn]at h ⊢;have q:=h.endB.rev;rw[abZ,ab3]at q;rw[Ÿ,Ÿ,jl,jl,ac7];show q
theorem Ou(h:Mg (IP zr) a.toList.reverse b.toList.reverse out.toList (a.toList.take na).reverse (b.toList.take nb).reverse)(hn:nb=0):fh zr a.toList b.toList (gc a b out na nb).toList:=by unfold gc;rw[hn]at h ⊢;have q:=h.endA.rev;rw[abZ,ab3]at q;rw[Ÿ,Ÿ,jl,jl,ac7,ad6,Ĵ];show q
theorem ut(first:NE a b)(h:Mg (IP zr) a.toList.reverse b.toList.reverse out.toList (a.toList.take na).reverse (b.toList.take nb).reverse)(hn:nb=1):fh zr a.toList b.toList (kI a b out na nb).toList:=by unfold kI;have q:=(h.swap.endBA λx hx y hy=>first y (by rw[hn]at hy;exact ϥ.mp hy) x (ŭ (ϥ.mp hx))).swap.rev;rw[abZ,abZ,ab3,ab3]at q;rw[Ÿ,Ÿ,jl,jl,ac7];exact q
theorem WP(h0:0<n)(h:m+n+p<=q):m+1+(n-1)+p<=q:=by rw[ű m,ϟ 1,acR h0];show h
theorem WQ(h0:0<p)(h:m+n+p<=q):m+1+n+(p-1)<=q:=by rw[abQ m,ű (m+n),ϟ 1,acR h0];show h
theorem Uv(hn:n'<=n)(hp:p'<=p)(h:m+n+p<=q):m+n'+p'<=q:=z' (Ϗ (ϴ hn m) hp) h
theorem xe{m i j x:Nat}{C:Prop}(ha:0<i)(hz:m+max 0 x+i+j<=x):C:=by rw[ϲ (Ĥ _)]at hz;show absurd (ĳ (ĳ (acf ha) (ϣ (afk x m) i)) (z' (Ň _ j) hz)) (ţ _)
end
section
variable{a b out:Array Ë}{na nb mg ac bc m:Nat}{st:Ò}{P:ForInStep HS->Ò->Prop}
theorem MC.trF(M:MC X Y)(x y z:Ë)(h:IP zr x y=Æ)(h':IP zr y z=Æ):IP zr x z=Æ:=M.trans z y x h' h
theorem Ix(I:IK a b out na nb)(hc:∀x∈b.toList.take nb,zr x (a[na-1]'(vC I.ha I.ha'))=Æ)(hm:m+(na-1)+nb<=a.size+b.size)(hd:∀c:HS,nW a b m c.1 c.2.1 c.2.2.1 c.2.2.2.1->P (.done c) st)(hy:∀c:HS,c.1=Ã->nW a b m c.1 c.2.1 c.2.2.1 c.2.2.2.1->P (.yield c) st):
  wpS mo zA zE zs (hD a b out na nb mg ac bc) P st:=by
 have h1:=I.mi.pushHA I.ha I.ha' λy hy=>hc y (ϥ.mp hy);show Í (bV (vC I.ha I.ha') (cj (λh2=>Ð (hd _ (ur h1 h2))) λh2=>?_));have I':IK a b (out.push (a[na-1]'(vC I.ha I.ha'))) (na-1) nb:=⟨h1,abT h2,ī (vC I.ha I.ha'),I.hb,I.hb'⟩;show cD (λz=>Ð (hd _ ⟨I',hm⟩)) λz=>Ð (hy _ N ⟨I',hm⟩)
theorem Iw(M:MC a.toList b.toList)(first:NE a b)(lC:kindOf st=zk)(I:IK a b out na nb)(hc:∀x∈a.toList.take na,zr x (b[nb-1]'(vC (Ş I.hb) I.hb'))=Æ)(hm:m+na+nb<=a.size+b.size)(hd:∀c:HS,nW a b m c.1 c.2.1 c.2.2.1 c.2.2.2.1->P (.done c) st)(hy:∀c:HS,c.1=Ã->nW a b m c.1 c.2.1 c.2.2.1 c.2.2.2.1->P (.yield c) st):
  wpS mo zA zE zs (hC a b out na nb mg ac bc) P st:=by
 have zt:0<nb:=Ş I.hb;have pz:=vC I.ha I.ha';have zu:nb-1<=b.size:=ī (vC zt I.hb');have h1:=(I.mi.swap.pushHA zt I.hb' λy hy=>hc y (ϥ.mp hy)).swap;refine Í (bV (vC zt I.hb') (cj (λh2=>Ð (hd _ (ut first h1 h2))) λh2=>Í (bV pz ?_)));have hp:0<nb-1:=ϳ I.hb;refine Í (M.gY (λy hy=>ŭ hy) (M.sY.sublist (acG _ _)) (RU zu) (AJ b _) (pB pz) (Ϡ hp Ŷ) lC λk hk g1 g2=>?_);rw[ad5,Ŵ hk]at g1;refine cD (λj=>?_) λmS=>?_
 ·have h3:=(h1.swap.extHA hk λx hx=>mH M.trF I.ha I.ha' h1.srtA (p:=[x]) (λz hz=>by rw[O'.mp hz];show g2 x hx) x G').swap
  exact cj (λh4=>Ð (hd _ (ut first h3 h4))) λh4=>cj (λh5=>Ð (hd _ (Ou h3 h5))) λh5=>Ix ⟨h3,I.ha,I.ha',Ŧ (abT h5) (Ne.symm h4),z' hk zu⟩ g1 (Uv (ŏ _ _) (z' hk (ŏ _ _)) hm) hd hy
 ·have e:k=nb-1:=ť hk (adL (acm mS))
  rw[e]at g1;show Ix ⟨h1,I.ha,I.ha',Ŧ hp (Ne.symm h2),zu⟩ g1 (Uv (ŏ _ _) (ŏ _ _) hm) hd hy
theorem Iv(M:MC a.toList b.toList)(first:NE a b)(lC:kindOf st=zk)(I:IK a b out na nb)(hm:m+na+nb<=a.size+b.size)(hd:∀(c:HS) Ú,bS st Ú->nW a b m c.1 c.2.1 c.2.2.1 c.2.2.2.1->P (.done c) Ú)(hy:∀(c:HS) Ú,bS st Ú->c.1=Ã->nW a b m c.1 c.2.1 c.2.2.1 c.2.2.2.1->P (.yield c) Ú):
  wpS mo zA zE zs (hB a b out na nb mg ac bc) P st:=by
 have zt:0<nb:=Ş I.hb;have uu:=vC zt I.hb';have hs:bS st (SortSt.mk' (kindOf st) (Û st) (Ö st) mg (ë st)):=⟨N,N,N,N⟩;show Í ?_;rw[dU];show ù (Í (bV uu (Í (M.gX (st:=SortSt.mk' (kindOf st) (Û st) (Ö st) mg (ë st)) (λy hy=>ŭ hy) (M.sX.sublist (acG _ _)) (RU I.ha') (AJ a _) (pB uu) (Ϡ I.ha Ŷ) lC λk hk g1 g2=>?_))));rw[ad5,Ŵ hk]at g1;show cD (λj=>?_) λmS=>?_
 ·have h3:=I.mi.extHA hk λx hx=>mH M.trF zt I.hb' I.mi.srtB (p:=[x]) (λz hz=>by rw[O'.mp hz];show g2 x hx) x G'
  exact cj (λh4=>Ð (hd _ _ hs (ur h3 h4))) λh4=>Iw M first lC ⟨h3,abT h4,z' hk I.ha',I.hb,I.hb'⟩ g1 (Uv hk (Đ _) hm) (λc=>hd c _ hs) λc=>hy c _ hs
 ·have e:k=na:=ť hk (adL (acm mS))
  rw[e]at g1;exact Iw M first lC I g1 hm (λc=>hd c _ hs) λc=>hy c _ hs
theorem Em(M:MC a.toList b.toList)(first:NE a b)(lC:kindOf st=zk){y:Nat}{c:JS}(I:IK a b c.2.2.2.1 c.2.1 c.2.2.1)(hm:m+c.2.1+c.2.2.1<=a.size+b.size){P:ForInStep JS->Ò->Prop}(hd:∀c:JS,nW a b (m+1) c.1 c.2.1 c.2.2.1 c.2.2.2.1->P (.done c) st)(hy:∀c:JS,c.1=Ã->nW a b (m+1) c.1 c.2.1 c.2.2.1 c.2.2.2.1->P (.yield c) st):
  wpS mo zA zE zs (M8 a b mg y c) P st:=by
 have zt:0<c.2.2.1:=Ş I.hb;have pz:=vC I.ha I.ha';have uu:=vC zt I.hb';show Í (bV uu (Í (bV pz (Í (M.cmp _ (pB pz) _ (pB uu) _ _ lC ?_)))));cases hr:zr b[c.2.2.1-1] a[c.2.1-1] with
 |true=>have h2:=I.mi.pushHA I.ha I.ha' λx hx=>mH M.trF zt I.hb' I.mi.srtB (p:=[a[c.2.1-1]]) (λz hz=>by rw[O'.mp hz];show hr) _ G' x hx;show cI N (Í (bV pz (cj (λh3=>Ð (hd _ (ur h2 h3))) λh3=>?_)));have I':IK a b (c.2.2.2.1.push a[c.2.1-1]) (c.2.1-1) c.2.2.1:=⟨h2,abT h3,ī pz,I.hb,I.hb'⟩;show cD (λk=>Ð (hd _ ⟨I',WP I.ha hm⟩)) λk=>Ð (hy _ N ⟨I',WP I.ha hm⟩)
 |false=>have hr:=M.tot _ (pB pz) _ (pB uu) hr;have h2:=(I.mi.swap.pushHA zt I.hb' λx hx=>mH M.trF I.ha I.ha' I.mi.srtA (p:=[b[c.2.2.1-1]]) (λz hz=>by rw[O'.mp hz];exact hr) _ G' x hx).swap;refine ck Ķ (Í (bV uu (cj (λh3=>Ð (hd _ (ut first h2 h3))) λh3=>?_)));have I':IK a b (c.2.2.2.1.push b[c.2.2.1-1]) c.2.1 (c.2.2.1-1):=⟨h2,I.ha,I.ha',Ŧ (ϳ I.hb) (Ne.symm h3),ī uu⟩;exact cD (λk=>Ð (hd _ ⟨I',WQ zt hm⟩)) λk=>Ð (hy _ N ⟨I',WQ zt hm⟩)
theorem Eo(M:MC a.toList b.toList)(first:NE a b)(lC:kindOf st=zk){x:Nat}{c:QS}(I:IK a b c.2.2.2.1 c.2.1 c.2.2.1)(hm:m+c.2.1+c.2.2.1<=a.size+b.size){P:ForInStep QS->Ò->Prop}(hd:∀q na nb out mg Ú,bS st Ú->fh zr a.toList b.toList (ae5 q)->P (.done (À q,na,nb,out,mg)) Ú)
  (hy:∀na nb out mg Ú,bS st Ú->IK a b out na nb->m+1+na+nb<=a.size+b.size->P (.yield (Ã,na,nb,out,mg)) Ú):wpS mo zA zE zs (Na a b x c) P st:=by
 show Í (Ė (ä (I:=λy (d:JS) Ú=>Ú=st/\d.1=Ã/\nW a b (m+y) d.1 d.2.1 d.2.2.1 d.2.2.2.1) (Q:=λ(d:JS) Ú=>Ú=st/\nW a b (m+1) d.1 d.2.1 d.2.2.1 d.2.2.2.1) (λy d Ú z hy q=>?_) (λd Ú q=>?_) ⟨N,N,I,hm⟩) λd Ú q=>?_)
 ·rw[q.1]
  have q2:=q.2.2;rw[q.2.1]at q2;refine Em M first lC q2.1 q2.2 (λc o=>⟨N,?_⟩) λc e o=>⟨N,e,o⟩
  rcases c with ⟨_|mu,c⟩
  ·show⟨o.1,z' (ϣ (ϣ (š (Ň m y)) _) _) o.2⟩
  ·show o
 ·have q2:=q.2.2
  rw[q.2.1]at q2;show xe q2.1.ha q2.2
 ·rw[q.1]
  have q2:=q.2;rcases d with ⟨_|mu,d⟩
  ·show Í (ķ (ú ⟨N,(Í (Ė (ä (I:=λy (f:HS) Ú=>bS st Ú/\f.1=Ã/\nW a b (m+1) f.1 f.2.1 f.2.2.1 f.2.2.2.1) (Q:=λ(f:HS) Ú=>bS st Ú/\nW a b (m+1) f.1 f.2.1 f.2.2.1 f.2.2.2.1) (λy f Ú z hy q=>?_) (λf Ú q=>⟨q.1,q.2.2⟩) ⟨bS.refl _,N,q2⟩) λf Ú q=>?_))⟩))
   ·have q2:=q.2.2
    rw[q.2.1]at q2;have hk:=q.1.k.trans lC;exact cD (λz=>Iv M first hk q2.1 q2.2 (λc da hs o=>⟨q.1.trans hs,o⟩) λc da hs e o=>⟨q.1.trans hs,e,o⟩) λz=>Iv M first hk q2.1 q2.2 (λc da hs o=>⟨q.1.trans hs,o⟩) λc da hs e o=>⟨q.1.trans hs,e,o⟩
   ·have q2:=q.2
    rcases f with ⟨_|mu,f⟩
    ·show Í ?_
     rw[dU];show ù (Ð (hy _ _ _ _ _ (q.1.trans ⟨N,N,N,N⟩) q2.1 q2.2))
    ·show Ð (hd _ _ _ _ _ _ q.1 q2)
  ·show Ð (hd _ _ _ _ _ _ (bS.refl _) q2)
theorem ym{Q:Array Ë->Ò->Prop}(M:MC a.toList b.toList)(first:NE a b)(PS:0<a.size)(Rq:0<b.size)(gi:∀y∈b.toList,zr y (a[a.size-1]'(vC PS (Đ _)))=Æ)(lC:kindOf st=zk)
  (h:∀mu Ú,bS st Ú->fh zr a.toList b.toList mu.toList->Q mu Ú):wpS mo zA zE zs (qZ a b) Q st:=by
 rw[xc];show Í (ķ (ú ⟨N,Í (bV (vC PS (Đ _)) ?_)⟩));have ta:∀a:Array Ë,a.toList.take a.size=a.toList:=λa=>adA (Đ _)
 have h0:Mg (IP zr) a.toList.reverse b.toList.reverse (#[]:Array Ë).toList (a.toList.take a.size).reverse (b.toList.take b.size).reverse:=by rw[ta,ta];show⟨BX M.sX,BX M.sY,List.Perm.refl _⟩
 have h1:=h0.pushHA PS (Đ _) λy hy=>gi y (ŭ (ϥ.mp hy));refine cj (λOo=>Ð (h _ _ (bS.refl _) (ur h1 Oo))) λOo=>cj (λzu=>Ð (h _ _ (bS.refl _) (ut first h1 zu))) λzu=>Í (Ĭ (Í (Ė (ä (I:=λx (c:QS) Ú=>bS st Ú/\c.1=Ã/\nW a b (1+x) c.1 c.2.1 c.2.2.1 c.2.2.2.1) (Q:=λ(c:QS) Ú=>bS st Ú/\∃q,c.1=À q/\fh zr a.toList b.toList q.toList) (λx c Ú z hx q=>?_) (λc Ú q=>?_) ⟨bS.refl _,N,⟨h1,abT Oo,ŏ _ _,Ŧ Rq (Ne.symm zu),Đ _⟩,?_⟩) λc Ú q=>?_)))
 ·have q2:=q.2.2
  rw[q.2.1]at q2;exact Eo M first (q.1.k.trans lC) q2.1 q2.2 (λmu na nb out mg da hs e=>⟨q.1.trans hs,_,N,e⟩) λna nb out mg da hs I hm=>⟨q.1.trans hs,N,I,hm⟩
 ·have q2:=q.2.2
  rw[q.2.1]at q2;show xe q2.1.ha q2.2
 ·show 1+0+(a.size-1)+b.size<=a.size+b.size
  rw[ϟ (1+0),acR PS];show Đ _
 ·show W' q.2 λmu e=>?_
  rw[e.1];show Ð (h _ _ q.1 e.2)
end
noncomputable def AK(p:Nat)(q:Array Ë):StateT Ò Sem Bool:=
 (modify λzs=>setArr zs (List.foldl (λa (x:Ë×Nat)=>a.setIfInBounds (p+x.snd) x.fst) (Û zs) q.toList.zipIdx))>>=λz=>get>>=λzs=>pure (ë zs).isNone
def Nm(zs:Ò)(sa na sb nb:Nat):StateT Ò Sem Bool:=
 elem' (Û zs) sb>>=λy=>eW Ê y (Û zs) sa na 0>>=λz=>match z with
 |some k=>if (na-k==0)=Æ then pure Æ
  else elem' (Û zs) (sa+k+(na-k)-1)>>=λx=>eW Æ x (Û zs) sb nb (nb-1)>>=λz=>match z with
   |some n=>if (n==0)=Æ then pure Æ
    else if na-k<=n then rc ((Û zs).extract (sa+k) sb) ((Û zs).extract sb (sb+n))>>=AK (sa+k)
    else qZ ((Û zs).extract (sa+k) sb) ((Û zs).extract sb (sb+n))>>=AK (sa+k)
   |_=>pure Ê
 |_=>pure Ê
theorem xb{i sa na pw sb nb pw2:Nat}{st:Ò}(hi:(Ö st)[i]?=À (sa,na,pw))(hj:(Ö st)[i+1]?=À (sb,nb,pw2)){Q:Bool->Ò->Prop}
  (h:wpS mo zA zE zs (Nm st sa na sb nb) Q (ĉ st (((Ö st).setIfInBounds i (sa,na+nb,pw)).eraseIdxIfInBounds (i+1)))):wpS mo zA zE zs (ń i) Q st:=by
 have e:ń i=(get>>=λzs=>match (Ö zs)[i]?,(Ö zs)[i+1]? with
  |some (sa,na,pw),À (sb,nb,_)=>set (ĉ zs (((Ö zs).setIfInBounds i (sa,na+nb,pw)).eraseIdxIfInBounds (i+1)))>>=λz=>Nm zs sa na sb nb
  |_,_=>ğ "internal:list.sort.pending"):=by kernel_rfl
 rw[e];show Í (Ĭ ?_);rw[hi,hj];show Í ?_;unfold wpS;rw[StateT.run_set];show Ç ⟨N,h⟩
theorem Ay(q:Nat)(l:List Ë){T l' P:List Ë}{n:Nat}{arr:Array Ë}(e:arr.toList=P++(l'++T))(hP:P.length=q+n)(hl:l.length=l'.length):((l.zipIdx n).foldl (λa (x:Ë×Nat)=>a.setIfInBounds (q+x.2) x.1) arr).toList=P++(l++T):=by
 induction l generalizing l' P n arr with
 |nil=>rw[ϰ.mp hl.symm]at e;show e
 |cons x l ih=>
  cases l' with
  |nil=>show nomatch hl
  |cons y l'=>
   rw[adN,ϑ,ih (P:=P++[x]) (l':=l') ?_ ?_ (ad2.inj hl),ÿ];rfl
   ·rw[ad7,e,<-hP,acW _ _ (Đ _),Ϸ,ÿ];rfl
   ·rw[û,hP];rfl
section
variable{X Y T P Wi:List Ë}{k n:Nat}
theorem zX(sX:kW zr X)(sY:kW zr Y)(h1:yv zr (X.take k) Y)(h2:yv zr X (Y.drop n))(hm:fh zr (X.drop k) (Y.take n) Wi):fh zr X Y (X.take k++(Wi++Y.drop n)):=by
 have eX:=Ť k X;have eY:=Ť n Y;have a:=cz.mp (show kW zr (X.take k++X.drop k) by rw[eX];show sX);have b:=cz.mp (show kW zr (Y.take n++Y.drop n) by rw[eY];show sY);have pA:∀z∈Wi,z∈X.drop k\/z∈Y.take n:=λz hz=>Ģ.mp (hm.pm.mem_iff.mp hz);show⟨cz.mpr ⟨a.1,cz.mpr ⟨hm.so,b.2.1,λx hx y hy=>?_⟩,λx hx z hz=>?_⟩,?_⟩
 ·show ã (pA x hx) (λh=>h2 x (ϛ h) y hy) λh=>b.2.2 x h y hy
 ·show ã (Ģ.mp hz) (λhz=>ã (pA z hz) (λh=>a.2.2 x hx z h) λh=>h1 x hx z (ŭ h)) λhz=>h1 x hx z (ϛ hz)
 ·show((hm.pm.append_right _).append_left _).trans ?_
  rw[ÿ,eY,<-ÿ,eX]
theorem gP(e:l=P++(X++T))(hP:P.length=n)(i:Nat)(hi:i<X.length):l[n+i]?=À X[i]:=by rw[e,<-hP,ϙ (Ň _ _),ϯ,ϓ hi,ē hi]
theorem Jn(tr:∀x y z,zr x y=Æ->zr y z=Æ->zr x z=Æ)(zs:kW zr Y)(h0:0<Y.length)(h:∀x∈P,zr x Y[0]=Æ):yv zr P Y:=by
 cases Y with
 |nil=>show nomatch h0
 |cons y Y=>show Fg tr zs h
theorem Dt(h0:0<Y.length)(h:y∈Y.take (min 1 n)):y=Y[0]:=by
 cases Y with
 |nil=>show nomatch h0
 |cons z Y=>show O'.mp ((List.take_sublist_take_left (acj 1 n)).subset h)
theorem sR{l:List Ë}(h:l.length-1<l.length):l.drop (l.length-1)=[l[l.length-1]]:=by rw[abF h,acR (ŷ (Ĥ _) h),adO]
theorem xX(tr:∀x y z,zr x y=Æ->zr y z=Æ->zr x z=Æ)(zs:kW zr X)(h:X.length-1<X.length){l:List Ë}(g:∀y∈l,zr X[X.length-1] y=Æ):yv zr X l:=λx hx y hy=>by
 have q:=cz.mp (show kW zr (X.take (X.length-1)++X.drop (X.length-1)) by rw[Ť];show zs);have hx:x∈X.take (X.length-1)++X.drop (X.length-1):=by rw[Ť];show hx
 rw[sR h]at q hx;show ã (Ģ.mp hx) (λhx=>tr _ _ _ (q.2.2 x hx _ G') (g y hy)) λhx=>?_;rw[O'.mp hx];show g y hy
theorem A3{arr:Array Ë}{i j:Nat}(e:arr.toList=P++(X++T))(hi:i=P.length)(hj:j=P.length+X.length):(arr.extract i j).toList=X:=by rw[acF,ab9,e,hi,hj,List.drop_left,ϯ,List.take_left]
end
section
variable{st:Ò}
theorem Iq{k n sa:Nat}{P X Y T:List Ë}{mu:Array Ë}{Q:Bool->Ò->Prop}(e:(Û st).toList=P++(X++(Y++T)))(hP:P.length=sa)(hk:k<=X.length)(hE:fh zr (X.drop k) (Y.take n) mu.toList)(hf:ë st=Ã)
  (h:∀arr,arr.toList=P++((X.take k++(mu.toList++Y.drop n))++T)->Q Æ (setArr st arr)):wpS mo zA zE zs (AK (sa+k) mu) Q st:=by
 have hw:=Ay (sa+k) mu.toList (T:=Y.drop n++T) (l':=X.drop k++Y.take n) (P:=P++X.take k) (n:=0) (arr:=Û st) (by
  rw[e,ÿ P,ÿ (X.drop k),<-ÿ (X.take k),Ť,<-ÿ (Y.take n),Ť]) (by rw[û,hP,Ŭ,Ŵ hk];rfl) hE.pm.length_eq
 show Í (ù (Í (Ĭ (Ð ?_))));show Q (ë st).isNone _;rw[hf];show h _ (hw.trans ?_);rw[ÿ,ÿ,ÿ]
theorem yl{i sa pw pw2:Nat}{P X Y T:List Ë}{Q:Bool->Ò->Prop}(hi:(Ö st)[i]?=À (sa,X.length,pw))(hj:(Ö st)[i+1]?=À (sa+X.length,Y.length,pw2))
  (e:(Û st).toList=P++(X++(Y++T))) (hP:P.length=sa) (hX:0<X.length) (hY:0<Y.length) (M:MC X Y) (lC:kindOf st=zk) (hf:ë st=Ã)
  (h:∀Ø Ú,fh zr X Y Ø->kindOf Ú=kindOf st->(Û Ú).toList=P++(Ø++T)->Ö Ú=((Ö st).setIfInBounds i (sa,X.length+Y.length,pw)).eraseIdxIfInBounds (i+1)->ë Ú=Ã->Q Æ Ú) :
  wpS mo zA zE zs (ń i) Q st:=by
 show xb hi hj ?_;have S7:X.length-1<X.length:=Ϡ hX Ŷ;have e2:(Û st).toList=(P++X)++(Y++T):=by rw[e,ÿ]
 have UJ:(P++X).length=sa+X.length:=by rw[û,hP]
 have eX:=gP e hP;have eY:=gP e2 UJ;show Í (jm (eY 0 hY) ?_);have same:yv zr X Y->Q Æ (ĉ st (((Ö st).setIfInBounds i (sa,X.length+Y.length,pw)).eraseIdxIfInBounds (i+1))):=λTm=>h (X++Y) _ ⟨cz.mpr ⟨M.sX,M.sY,Tm⟩,List.Perm.refl _⟩ N (by rw[ÿ];show e) N hf;show Í (M.gX (st:=ĉ st (((Ö st).setIfInBounds i (sa,X.length+Y.length,pw)).eraseIdxIfInBounds (i+1))) (λx hx=>hx) M.sX N eX (ź hY) hX lC λk hk g1 g2=>?_);have UM:yv zr (X.take k) Y:=Jn M.trans M.sY hY g1;show cj (λhz=>Ð (same ?_)) λhz=>?_
 ·rw[adA (adL hz)]at UM;show UM
 have EK:k<X.length:=Nat.lt_of_sub_pos (abT hz);have ei:sa+k+(X.length-k)-1=sa+(X.length-1):=by rw[ű,ab7 hk,ac0 hX]
 show Í (jm (x:=X[X.length-1]) (by rw[ei];show eX _ S7) (Í (M.gY (st:=ĉ st (((Ö st).setIfInBounds i (sa,X.length+Y.length,pw)).eraseIdxIfInBounds (i+1))) (λy hy=>hy) M.sY N eY (ź S7) (Ϡ hY Ŷ) lC λn hn g3 g4=>?_)));have UN:yv zr X (Y.drop n):=xX M.trans M.sX S7 g4;show cj (λMz=>Ð (same ?_)) λMz=>?_
 ·rw[Mz]at UN;show UN
 have ex:((Û st).extract (sa+k) (sa+X.length)).toList=X.drop k:=A3 (P:=P++X.take k) (T:=Y++T) (by rw[e,ÿ,<-ÿ (X.take k),Ť]) (by rw[û,hP,Ŭ,Ŵ hk]) (by rw[û,hP,Ŭ,Ŵ hk,ϱ,ű,ab7 hk]);have ey:((Û st).extract (sa+X.length) (sa+X.length+n)).toList=Y.take n:=A3 (P:=P++X) (T:=Y.drop n++T) (by rw[e2,<-ÿ (Y.take n),Ť]) UJ.symm (by rw[UJ,Ŭ,Ŵ hn]);generalize (Û st).extract (sa+k) (sa+X.length)=xa at ex;generalize (Û st).extract (sa+X.length) (sa+X.length+n)=ya at ey;have sx:xa.size=X.length-k:=by rw[<-Ž,ex,ϱ]
 have sy:ya.size=n:=by rw[<-Ž,ey,Ŭ,Ŵ hn]
 have M2:MC xa.toList ya.toList:=by rw[ex,ey];show⟨λx hx y hy=>M.cmp x (ϛ hx) y (ŭ hy),M.trans,M.asym,λx hx y hy=>M.tot x (ϛ hx) y (ŭ hy),M.sX.sublist (List.drop_sublist _ _),M.sY.sublist (acG _ _)⟩
 have gi:LR xa ya:=λy hy x hx=>by rw[ey]at hy;rw[ex,sx,adB,<-ac0 (ϳ EK),ab7 hk,sR S7]at hx;rw[O'.mp hx];show g3 y hy
 have first:NE xa ya:=λy hy x hx=>by rw[ex]at hx;rw[ey,ad5]at hy;rw[Dt hY hy];exact g2 x hx
 have V3:0<xa.size:=by rw[sx];show ϳ EK
 have V4:0<ya.size:=by rw[sy];show abT Mz
 have Ii:∀(mu:Array Ë) (da:Ò),bS (ĉ st (((Ö st).setIfInBounds i (sa,X.length+Y.length,pw)).eraseIdxIfInBounds (i+1))) da->fh zr xa.toList ya.toList mu.toList->wpS mo zA zE zs (AK (sa+k) mu) Q da:=λmu da hs hE=>by rw[ex,ey]at hE;show Iq ((congrArg ae5 hs.a).trans e) hP hk hE (hs.f.trans hf) λarr ea=>h _ _ (zX M.sX M.sY UM UN hE) hs.k ea hs.p (hs.f.trans hf)
 exact cD (λz=>Í (yn M2 gi V3 V4 (λx hx=>first _ (by rw[<-afr (l:=ya.toList),AX V4];exact G') x hx) lC Ii)) λz=>Í (ym M2 first V3 V4 (λy hy=>gi y hy _ (by rw[AX (Ϡ V3 Ŷ)];exact G')) lC Ii)
end
section
variable{st:Ò}
theorem fY(h:zo v<zo u):rr zb zo u v=zb u v:=by unfold rr;rw[decide_eq_false (by show λq0=>zI (y2 0x1c080811b1011b01 N (iT h) (iT q0))),adC,adg]
theorem u7(h:zo v<zo u)(hf:rr zb zo u v=Ê):rr zb zo v u=Æ:=by rw[fY h]at hf;show dK.mpr (.inr ⟨hf,h⟩)
theorem SO.rasym(S:SO zA zE zs zb zk zU)(x y:Ë)(h:rr zb zo x y=Æ):rr zb zo y x=Ê:=by
 cases h2:rr zb zo y x with
 |false=>rfl
 |true=>
  show ã (dK.mp h) (λh=>?_) (λq=>aO q λh h'=>?_)
  ·show ã (dK.mp h2) (λg=>?_) (λq=>aO q λg g'=>?_)
   ·rw[S.asym _ _ h]at g;show nomatch g
   ·rw[h]at g;show nomatch g
  ·show ã (dK.mp h2) (λg=>?_) (λq=>aO q λg g'=>?_)
   ·rw[h]at g;show nomatch g
   ·show absurd g' (Nat.lt_asymm h')
theorem SO.rtrans(S:SO zA zE zs zb zk zU)(x y z:Ë)(h:rr zb zo x y=Æ)(h2:rr zb zo y z=Æ):rr zb zo x z=Æ:=by
 show ã (dK.mp h) (λh=>?_) (λq=>aO q λh h'=>?_)
 ·show ã (dK.mp h2) (λg=>?_) (λq=>aO q λg g'=>?_)
  ·show dK.mpr (.inl (S.trans _ _ _ h g))
  ·show ã (S.neg x z y h) (λq=>?_) (λq=>?_)
   ·show dK.mpr (.inl q)
   ·rw[g]at q;show nomatch q
 ·show ã (dK.mp h2) (λg=>?_) (λq=>aO q λg g'=>?_)
  ·show ã (S.neg y x z g) (λq=>?_) (λq=>?_)
   ·rw[h]at q;show nomatch q
   ·show dK.mpr (.inl q)
  ·show dK.mpr (.inr ⟨?_,Ϟ h' g'⟩)
   cases q:zb z x with
   |false=>rfl
   |true=>
    show ã (S.neg z y x q) (λq=>?_) (λq=>?_)
    ·rw[g]at q;show nomatch q
    ·rw[h]at q;show nomatch q
theorem D8{B T:List Ë}{u v:Ë}{arr:Array Ë}{i j:Nat}(e:arr.toList=B++(u::v::T))(hj:j=B.length)(hi:i=j+1):(arr.swapIfInBounds i j).toList=B++(v::u::T):=by
 have hsz:arr.size=B.length+(T.length+1+1):=by rw[<-Ž,e,û];rfl
 have h1:i<arr.size:=by rw[hsz,hi,hj];show aeH (acK (ϒ _)) _
 have h2:j<arr.size:=by rw[hsz,hj];show acf (ϒ _)
 have g1:arr[i]=v:=by
  have:arr.toList[i]?=À v:=by rw[e,hi,hj,ϙ (Ň _ 1),ϯ];rfl
  rw[Ϯ,acx h1]at this;show Option.some.inj this
 have g2:arr[j]=u:=by
  have:arr.toList[j]?=À u:=by rw[e,hj,ϙ (Đ _),Ϸ];rfl
  rw[Ϯ,acx h2]at this;show Option.some.inj this
 unfold Array.swapIfInBounds;rw[dif_pos h1,dif_pos h2,Array.toList_swap,g1,g2,e,hi,hj,acW _ _ (Ň _ 1),ϯ,acW _ _ (Đ _),Ϸ];rfl
theorem vN:∀{B:List Ë},arr.toList=B++(R++(x::T))->(bubble arr (B.length+R.length) R.length).toList=B++(x::(R++T)):=by
 induction R with
 |nil=>show λe=>e
 |cons z R ih=>
  intro B e;have h:=ih (B:=B++[z]) (by rw[e,ÿ];rfl);rw[û,ű,ϟ [z].length,ÿ]at h;rw[show (z::R).length=R.length+1 from N,bubble_succ];show D8 h ?_ ?_
  ·rw[<-ű,abQ,acS,acS]
  ·rw[<-ű,abQ,acS,acS]
structure cX(st Ú:Ò):Prop where
 k:kindOf Ú=kindOf st
 p:Ö Ú=Ö st
 f:ë Ú=ë st
theorem cX.refl(st:Ò):cX st st:=⟨N,N,N⟩
structure f8(zb:Ë->Ë->Bool)(zo:Ë->Nat)(P R T Ø R':List Ë)(n:Nat)(arr:List Ë):Prop where
 arr:arr=P++(Ø++(R'++T))
 len:Ø.length=n
 so:kW (rr zb zo) Ø
 pm:(Ø++R').Perm R
 bf:∀x∈Ø,∀y∈R',zo x<zo y
 asc:R'.Pairwise λx y=>zo x<zo y
abbrev BS:Type:=Option Bool×Nat×Nat
noncomputable def QD(lo k:Nat)(_:Nat)(c:BS):StateT Ò Sem (ForInStep BS):=
 if c.2.1 >= c.2.2 then pure (.done (Ã,c.2.1,c.2.2)) else ltAt' (lo+k) (lo+(c.2.1+c.2.2) / 2)>>=λz=>match z with
 |some less=>if less=Æ then pure (.yield (Ã,c.2.1,(c.2.1+c.2.2) / 2)) else pure (.yield (Ã,(c.2.1+c.2.2) / 2+1,c.2.2))
 |_=>pure (.done (À Ê,c.2.1,c.2.2))
abbrev US:Type:=Option Bool×Unit
def RI(lo:Nat)(k:Nat)(_:US):StateT Ò Sem (ForInStep US):=
 forIn [0:k] ((Ã,0,k):BS) (QD lo k)>>=λc=>match c.1 with
 |some r=>pure (.done (À r,()))
 |none=>moveDown' (lo+k) (lo+c.2.1)>>=λz=>pure (.yield (Ã,()))
theorem yJ(lo n ok:Nat):binarySort' lo n ok=(forIn [max ok 1:n] ((Ã,()):US) (RI lo)>>=λc=>match c.1 with
 |some r=>pure r
 |none=>pure Æ):=by kernel_rfl
theorem O5(h:¬ l >= r):(l+r) / 2<r:=Nat.div_lt_of_lt_mul (by rw[Nat.two_mul];show ac6 (ϕ.mp h) r)
theorem G6(h:¬ l >= r):l<=(l+r) / 2:=(Nat.le_div_iff_mul_le afh).mpr (by rw[Nat.mul_two];show ϴ (ī (ϕ.mp h)) l)
theorem SO.ltAt(S:SO zA zE zs zb zk zU)(hx:(Û st).toList[i]?=À x)(hy:(Û st).toList[j]?=À y)(ux:zU x)(uy:zU y)(hk:kindOf st=zk)(h:Q (À (zb x y)) st):wpS mo zA zE zs (ltAt' i j) Q st:=by rw[ltAt'_eq];show Í (Ĭ (Í (jm hx (Í (jm hy (S.cmp _ _ ux uy _ _ hk h))))))
theorem LG{lo k:Nat}{X:List Ë}{f:Ë->Bool}{Q:BS->Ò->Prop}(hc:∀m (hm:m<X.length) (P:Option Bool->Ò->Prop),P (À (!f X[m])) st->wpS mo zA zE zs (ltAt' (lo+k) (lo+m)) P st)(hk:X.length=k)(gj:X.Pairwise λx y=>f y=Æ->f x=Æ)
  (h:∀c:BS,c.1=Ã->c.2.1<=k->(∀x∈X.take c.2.1,f x=Æ)->(∀x∈X.drop c.2.1,f x=Ê)->Q c st):wpS mo zA zE zs (forIn [0:k] ((Ã,0,k):BS) (QD lo k)) Q st:=by
 subst hk;have e:∀i (hi:i<X.length),(X[i]?).elim Ê f=f X[i]:=λi hi=>by rw[ē hi];rfl
 have M3:∀i j,i<=j->j<X.length->(X[j]?).elim Ê f=Æ->(X[i]?).elim Ê f=Æ:=λi j zx hj hb=>by show ã (aeQ zx) (λcE=>?_) λq=>q▸hb;have hi:=Ϟ cE hj;rw[e j hj]at hb;rw[e i hi];show acv.mp gj i j hi hj cE hb
 have hW:∀c:BS,BQ (λi=>(X[i]?).elim Ê f) X.length c->c.2.1<=c.2.2->Q c st:=λc I S4=>by
  have eq:=ť S4 I.eq;show h c I.no (eq▸I.hi) (λx hx=>?_) λx hx=>?_
  ·show W' (ab2.mp hx) λi q=>W' q λhi q=>?_
   have jZ:=ĳ hi (z' (ŕ (Ŭ ..)) (acj _ _));rw[<-q,aec,<-e i (ĳ jZ (eq▸I.hi))];show I.lo i jZ
  ·show W' (ab2.mp hx) λi q=>W' q λhi q=>?_
   have jZ:c.2.1+i<X.length:=acV (ĳ hi (ŕ (ϱ ..)));rw[<-q,ae4,<-e _ jZ];show I.up _ (z' I.eq (Ň _ _)) jZ
 show ä (I:=λx (c:BS) Ú=>Ú=st/\BI (λi=>(X[i]?).elim Ê f) X.length x c) (λx c Ú z z q=>?_) (λc Ú q=>?_) ⟨N,N,Ĥ _,Đ _,(λi hi=>absurd hi (aci _)),(λi h1 h2=>absurd h2 (ľ.mpr h1)),Đ _⟩
 ·rw[q.1]
  have I:=q.2;show cD (λlB=>Ð (hW (Ã,c.2.1,c.2.2) ⟨N,lB,I.hi,I.lo,I.up⟩ I.le)) λlB=>?_;have hm:=O5 lB;have hn:=ĳ hm I.hi;show Í (hc _ hn _ ?_);cases hb:f (X[(c.2.1+c.2.2) / 2]'hn) with
  |true=>show ck Ķ (Ð ⟨N,N,hm,I.hi,λi hi=>M3 i _ (ϋ hi) hn ((e _ hn).trans hb),I.up,š (z' I.t (ϴ (G6 lB) _))⟩)
  |false=>show cI N (Ð ⟨N,N,G6 lB,ī hn,I.lo,λi h6 h7=>mG M3 ((e _ hn).trans hb) h6 h7,z' (ac6 hm x) I.t⟩)
 ·have I:=q.2
  have t:=I.t;rw[ϲ (Ĥ _),ϟ]at t;rw[q.1];show hW c ⟨I.no,acw t,I.hi,I.lo,I.up⟩ I.le
theorem KB{Ø:List Ë}{x u:Ë}{l:Nat}(h:u∈Ø.take l++x::Ø.drop l):u=x\/u∈Ø:=
 ã (Ģ.mp h) (λh=>.inr (ŭ h)) λh=>ã (Ĉ.mp h) .inl λh=>.inr (ϛ h)
theorem f8.ins{P R T Ø R' arr:List Ë}{x:Ë}{k l:Nat}(L:f8 zb zo P R T Ø (x::R') k arr)(h1:∀y∈Ø.take l,rr zb zo y x=Æ)(h2:∀y∈Ø.drop l,rr zb zo x y=Æ):
  f8 zb zo P R T (Ø.take l++x::Ø.drop l) R' (k+1) (P++((Ø.take l++x::Ø.drop l)++(R'++T))):=by
 have a:=cz.mp (show kW (rr zb zo) (Ø.take l++Ø.drop l) by rw[Ť];show L.so);have o:=Ō.mp L.asc;show⟨N,?_,cz.mpr ⟨a.1,Ō.mpr ⟨h2,a.2.1⟩,λu hu v hv=>?_⟩,?_,λu hu v hv=>?_,o.2⟩
 ·rw[<-L.len,<-Ť l Ø,û,û,Ť];rfl
 ·show ã (Ĉ.mp hv) (λe=>by rw[e];show h1 u hu) λhv=>a.2.2 u hu v hv
 ·show List.Perm.trans ?_ L.pm
  rw[ÿ,aek];show afd.trans ?_;rw[<-ÿ,Ť];show afd.symm
 ·show ã (KB hu) (λe=>by rw[e];show o.1 v hv) λh=>L.bf u h v (J' _ hv)
theorem LH(S:SO zA zE zs zb zk zU){lo k:Nat}{P R T Ø R':List Ë}{x:Ë}{c:US}{Q:ForInStep US->Ò->Prop}(hk:kindOf st=zk)(hP:P.length=lo)(hU:∀x∈R,zU x)(L:f8 zb zo P R T Ø (x::R') k (Û st).toList)
  (h:∀Z' Ú,cX st Ú->f8 zb zo P R T Z' R' (k+1) (Û Ú).toList->Q (.yield (Ã,())) Ú):wpS mo zA zE zs (RI lo k c) Q st:=by
 have hx:∀y∈Ø,zo y<zo x:=λy hy=>L.bf y hy x G';have uZ:∀y∈Ø,zU y:=λy hy=>hU y (L.pm.mem_iff.mp (Ź _ hy));have ux:zU x:=hU x (L.pm.mem_iff.mp (ŧ _ G'));have ex:(Û st).toList[lo+k]?=À x:=gP (n:=lo+k) (P:=P++Ø) (X:=[x]) (T:=R'++T) (i:=0) (by rw[L.arr,ÿ];rfl) (by rw[û,hP,L.len]) Ŷ;show Í (LG (X:=Ø) (f:=λy=>!(zb x y)) (λm hm P EF=>S.ltAt ex (gP L.arr hP m hm) ux (uZ _ (ź hm)) hk (by rw[Bool.not_not]at EF;show EF)) L.len (L.so.imp_of_mem λ{y z} hy hz hr hb=>?_) λc e hl g1 g2=>?_)
 ·have hb':rr zb zo x z=Ê:=(fY (hx z hz)).trans ((ώ _).mp hb)
  have:=S.rasym _ _ (S.rtrans _ _ _ hr (u7 (hx z hz) hb'));rw[fY (hx y hy)]at this;rw[this];rfl
 rw[e];show Í ?_;rw[moveDown'_eq];have L':=L.ins (l:=c.2.1) (λy hy=>u7 (hx y (ŭ hy)) ((fY (hx y (ŭ hy))).trans ((ώ _).mp (g1 y hy)))) λy hy=>(fY (hx y (ϛ hy))).trans ((adn _).mp (g2 y hy));show ù (Ð (h (Ø.take c.2.1++x::Ø.drop c.2.1) _ ⟨N,N,N⟩ ?_));have eb:=vN (arr:=Û st) (B:=P++Ø.take c.2.1) (R:=Ø.drop c.2.1) (x:=x) (T:=R'++T) (by rw[L.arr,ÿ,<-ÿ (Ø.take c.2.1),Ť];rfl);have Xu:c.2.1<=Ø.length:=by rw[L.len];show hl
 rw[û,hP,Ŭ,Ŵ Xu,ϱ,ű,ab7 Xu,L.len,ÿ]at eb;show f8 zb zo P R T _ R' (k+1) (bubble (Û st) (lo+k) (lo+k-(lo+c.2.1))).toList;rw[aeA,eb];have:=L';rw[ÿ]at this;show this
theorem yk(S:SO zA zE zs zb zk zU){lo n:Nat}{P R T Ø R':List Ë}{Q:Bool->Ò->Prop}(hk:kindOf st=zk)(hP:P.length=lo)(hU:∀x∈R,zU x)(hZ:0<Ø.length)(hn:n=Ø.length+R'.length)(L:f8 zb zo P R T Ø R' Ø.length (Û st).toList)
  (h:∀Z' Ú,cX st Ú->f8 zb zo P R T Z' [] n (Û Ú).toList->Q Æ Ú):wpS mo zA zE zs (binarySort' lo n Ø.length) Q st:=by
 rw[yJ,Nat.max_eq_left hZ];have hR:=L.pm.length_eq;show Í (Ė (ä (I:=λk (c:US) Ú=>c.1=Ã/\cX st Ú/\∃Ø R',f8 zb zo P R T Ø R' k (Û Ú).toList) (Q:=λ(c:US) Ú=>c.1=Ã/\cX st Ú/\∃Ø,f8 zb zo P R T Ø [] n (Û Ú).toList) (λk c Ú z Ka q=>?_) (λc Ú q=>?_) ⟨N,cX.refl st,Ø,R',L⟩) λc Ú q=>?_)
 ·show mM q.2.2 λZ1 R1 L1=>?_
  have hl:=L1.pm.length_eq.trans hR.symm;rw[û,û,<-hn,L1.len]at hl;cases R1 with
  |nil=>show absurd Ka (by rw[<-hl];show ţ _)
  |cons x R1=>show LH S (q.2.1.k.trans hk) hP hU L1 λZ' da hs L2=>⟨N,⟨hs.k.trans q.2.1.k,hs.p.trans q.2.1.p,hs.f.trans q.2.1.f⟩,Z',R1,L2⟩
 ·show mM q.2.2 λZ1 R1 L1=>⟨q.1,q.2.1,Z1,?_⟩
  rw[ϲ (by rw[hn];show Ň _ _)]at L1;have hl:=L1.pm.length_eq.trans hR.symm;rw[û,û,<-hn,L1.len]at hl;rw[ϰ.mp (add hl)]at L1;show L1
 ·rw[q.1]
  show W' q.2.2 λZ' L'=>Ð (h Z' Ú q.2.1 L')
end
noncomputable def NY(lo:Nat)(_:Nat)(c:Option (Option Nat)×Nat):StateT Ò Sem (ForInStep (Option (Option Nat)×Nat)):=do
 let z <-ltAt' (lo+c.2) (lo+c.2-1)
 match z with
 |some vd=>if vd=Æ then pure (ForInStep.done (Ã,c.2)) else pure (ForInStep.yield (Ã,c.2+1))
 |_=>pure (ForInStep.done (À Ã,c.2))
def Ik(lo n dT:Nat):StateT Ò Sem (Option Nat):=
 ő lo (lo+n)>>=λz=>forIn [n:dT] ((Ã,n):Option (Option Nat)×Nat) (NY lo)>>=λc=>match c.1 with
 |some r=>pure r
 |none=>pure (À c.2)
abbrev DS:Type:=Option (Option Nat)×Nat×Nat
noncomputable def Mf(lo:Nat)(_:Nat)(c:DS):StateT Ò Sem (ForInStep DS):=
 ltAt' (lo+c.2.1) (lo+c.2.1-1)>>=λz=>match z with
 |some vd=>if vd=Æ then (if c.2.2 > 0 then ő (lo+c.2.1-(c.2.2+1)) (lo+c.2.1)>>=λy=>pure (ForInStep.yield (Ã,c.2.1+1,0)) else pure (ForInStep.yield (Ã,c.2.1+1,0)))
  else ltAt' (lo+c.2.1-1) (lo+c.2.1)>>=λz=>match z with
   |some OX=>if OX=Æ then pure (ForInStep.done (Ã,c.2.1,c.2.2)) else pure (ForInStep.yield (Ã,c.2.1+1,c.2.2+1))
   |_=>pure (ForInStep.done (À Ã,c.2.1,c.2.2))
 |_=>pure (ForInStep.done (À Ã,c.2.1,c.2.2))
def AV(lo n dT:Nat):StateT Ò Sem (Option Nat):=
 (liftM (rule "list.sort.descending-run"):StateT Ò Sem Unit)>>=λz=>forIn [n+1:dT] ((Ã,n+1,0):DS) (Mf lo)>>=λc=>match c.1 with
 |some r=>pure r
 |none=>if c.2.2 > 0 then ő (lo+c.2.1-(c.2.2+1)) (lo+c.2.1)>>=λz=>Ik lo c.2.1 dT else Ik lo c.2.1 dT
theorem CK(lo dT:Nat):countRun' lo dT=(forIn [1:dT] ((Ã,1):Option (Option Nat)×Nat) (NY lo)>>=λc=>match c.1 with
 |some q=>pure q
 |none=>if (c.2==dT)=Æ then pure (À c.2) else if c.2 > 1 then ltAt' lo (lo+c.2-1)>>=λz=>(match z with
   |some t=>if t=Æ then pure (À c.2) else ő lo (lo+c.2)>>=λy=>AV lo c.2 dT
   |_=>pure Ã)
  else AV lo c.2 dT):=by kernel_rfl
theorem ki{L B C:List Ë}{arr:Array Ë}{i j:Nat}(e:arr.toList=L++(B++C))(hi:L.length=i)(hj:i+B.length=j):(mirror arr i j ((j-i) / 2)).toList=L++(B.reverse++C):=by
 have hsz:j<=arr.size:=by rw[<-Ž,e,û,û,hi,<-ű,hj];show Ň _ _
 apply aed;intro k;rw[Ϯ,getElem?_mirror_all hsz];by_cases h1:i<=k/\k<j
 ·show W' (ads h1.1) λt et=>?_
  have ht:t<B.length:=by rw[et,<-hj]at h1;show Nat.lt_of_add_lt_add_left h1.2
  have hp:B.length-1-t<B.length:=ŷ (ŏ _ _) (Ϡ (ŷ (Ĥ _) ht) Ŷ);have hr:t<B.reverse.length:=by rw[ab8];show ht
  rw[if_pos h1,et,<-hj,afJ,Nat.add_left_comm 1,aeA,ϟ 1,ac0 (show t+1<=B.length from ht),ϟ t,<-afJ,<-Ϯ,gP e hi _ hp,gP (l:=L++(B.reverse++C)) N hi t hr,List.getElem_reverse]
 ·rw[if_neg h1,<-Ϯ,e]
  show ã (aes k i) (λh2=>?_) λh2=>?_
  ·rw[<-hi]at h2
   rw[ϓ h2,ϓ h2]
  ·have h3:(L++B).length<=k:=by
    rw[û,hi,hj];show ľ.mp λq=>h1 ⟨h2,q⟩
   have h4:(L++B.reverse).length<=k:=by rw[û,ab8,<-û];show h3
   rw[<-ÿ,<-ÿ,ϙ h3,ϙ h4,û,û,ab8]
section
variable{st Ú:Ò}{P R T:List Ë}{lo dT n:Nat}
theorem cX.trans(x:cX a b)(y:cX b c):cX a c:=⟨y.k.trans x.k,y.p.trans x.p,y.f.trans x.f⟩
theorem cX.arr(x:cX a b)(v:Array Ë):cX a (setArr b v):=⟨x.k,x.p,x.f⟩
theorem SO.irr(S:SO zA zE zs zb zk zU)(x:Ë):zb x x=Ê:=by
 cases q:zb x x with
 |false=>rfl
 |true=>show(S.asym _ _ q).symm.trans q |> λe=>nomatch e
def LM(zb:Ë->Ë->Bool)(zo:Ë->Nat)(P R T:List Ë)(st:Ò)(n:Nat)(Ú:Ò):Prop:=cX st Ú/\∃Ø R',f8 zb zo P R T Ø R' n (Û Ú).toList
theorem f8.next{Ø R' arr:List Ë}{x:Ë}(L:f8 zb zo P R T Ø (x::R') n arr)(hP:P.length=lo):arr[lo+n]?=À x:=
 gP (n:=lo+n) (P:=P++Ø) (X:=[x]) (T:=R'++T) (i:=0) (by rw[L.arr,ÿ];rfl) (by rw[û,hP,L.len]) Ŷ
theorem f8.last{Ø R' arr:List Ë}(L:f8 zb zo P R T Ø R' n arr)(hP:P.length=lo)(h1:1<=n)(hl:Ø.length-1<Ø.length):arr[lo+n-1]?=À Ø[Ø.length-1]:=by rw[ac0 h1,<-L.len];show gP L.arr hP _ hl
theorem f8.snoc{Ø R' arr:List Ë}{x:Ë}(L:f8 zb zo P R T Ø (x::R') n arr)(hz:∀z∈Ø,rr zb zo z x=Æ):f8 zb zo P R T (Ø++[x]) R' (n+1) arr:=by have o:=Ō.mp L.asc;show⟨by rw[L.arr,ÿ Ø];rfl,by rw[û,L.len];rfl,cz.mpr ⟨L.so,ach _ _,λz h y hy=>by rw[O'.mp hy];show hz z h⟩,by rw[ÿ];show L.pm,λu hu v hv=>ã (Ģ.mp hu) (λh=>L.bf u h v (J' _ hv)) λh=>by rw[O'.mp h];show o.1 v hv,o.2⟩
theorem f8.rest{Ø R' arr:List Ë}(L:f8 zb zo P R T Ø R' n arr):n+R'.length=R.length:=by have h:=L.pm.length_eq;rw[û,L.len]at h;show h
theorem vL(S:SO zA zE zs zb zk zU)(hk:kindOf st=zk)(hP:P.length=lo)(hU:∀x∈R,zU x)(hR:R.length=dT)(h1:1<=n0)(hn:n0<=dT)(I:LM zb zo P R T st n0 Ú){Q:Option (Option Nat)×Nat->Ò->Prop}
  (hE:∀da,LM zb zo P R T st dT da->Q (Ã,dT) da) (hB:∀n da Ø x R',1<=n->n<dT->cX st da->f8 zb zo P R T Ø (x::R') n (Û da).toList->(∀hl:Ø.length-1<Ø.length,zb x Ø[Ø.length-1]=Æ)->Q (Ã,n) da) :
  wpS mo zA zE zs (forIn [n0:dT] ((Ã,n0):Option (Option Nat)×Nat) (NY lo)) Q Ú:=by
 show ä (I:=λx c da=>c=(Ã,x)/\LM zb zo P R T st x da) (λx c da hx Tj q=>?_) (λc da q=>?_) ⟨N,I⟩
 ·rw[q.1]
  show mM q.2.2 λØ R' L=>?_;have MJ:=z' h1 hx;cases R' with
  |nil=>show absurd Tj (by rw[<-hR,<-L.rest];show ţ _)
  |cons y R'=>
   have hl:Ø.length-1<Ø.length:=by rw[L.len];show Ϡ MJ Ŷ
   have hm:=ź hl;have ho:=L.bf _ hm y G';show Í (S.ltAt (L.next hP) (L.last hP MJ hl) (hU _ (L.pm.mem_iff.mp (ŧ _ G'))) (hU _ (L.pm.mem_iff.mp (Ź _ hm))) (q.2.1.k.trans hk) ?_);cases hb:zb y Ø[Ø.length-1] with
   |true=>show cI N (Ð (hB x da Ø y R' MJ Tj q.2.1 L λj=>hb))
   |false=>show ck Ķ (Ð ⟨N,q.2.1,Ø++[y],R',L.snoc λz hz=>xX (l:=[y]) S.rtrans L.so hl (λu hu=>by rw[O'.mp hu];show u7 ho ((fY ho).trans hb)) z hz y G'⟩)
 ·rw[q.1,ϲ hn]
  have I:=q.2;rw[ϲ hn]at I;show hE da I
structure gN(zb:Ë->Ë->Bool)(zo:Ë->Nat)(P R T D V R':List Ë)(n neq:Nat)(arr:List Ë):Prop where
 arr:arr=P++(D++(V++(R'++T)))
 len:D.length+V.length=n
 neq:V.length=neq+1
 so:kW (rr zb zo) (V++D.reverse)
 eqk:∀x∈V,∀y∈V,zb x y=Ê
 uv:∀x∈D,∀y∈V,zo x<zo y
 pm:(D++(V++R')).Perm R
 bf:∀x∈D++V,∀y∈R',zo x<zo y
 asc:R'.Pairwise λx y=>zo x<zo y
theorem qY{D V:List Ë}{y:Ë}(h:y∈D++V.reverse):y∈D++V:=
 ã (Ģ.mp h) (Ź _) λh=>ŧ _ (ϥ.mp h)
theorem gN.down{D V R' arr:List Ë}{x:Ë}{neq:Nat}(S:SO zA zE zs zb zk zU)(L:gN zb zo P R T D V (x::R') n neq arr){vl:Ë}(hv:vl∈V)(hb:zb x vl=Æ):gN zb zo P R T (D++V.reverse) [x] R' (n+1) 0 (P++(D++(V.reverse++((x::R')++T)))):=by
 have o:=Ō.mp L.asc;have hV:∀v∈V,rr zb zo x v=Æ:=λv s6=>dK.mpr (.inl (ã (S.neg x v vl hb) (λq=>q) λq=>by rw[L.eqk v s6 vl hv]at q;show nomatch q))
 have hx:∀y∈V++D.reverse,rr zb zo x y=Æ:=λy hy=>
  ã (Ģ.mp hy) (hV y) λh=>S.rtrans _ _ _ (hV vl hv) ((cz.mp L.so).2.2 vl hv y h)
 show⟨by rw[ÿ];rfl,by rw[û,ab8,L.len];rfl,N,by rw[abZ,ab3];show Ō.mpr ⟨hx,L.so⟩,λy hy z hz=>?_,λy hy z hz=>?_,?_,λy hy z hz=>?_,o.2⟩
 ·rw[O'.mp hy,O'.mp hz];show S.irr x
 ·rw[O'.mp hz];show L.bf y (qY hy) x G'
 ·show List.Perm.trans ?_ L.pm
  rw[ÿ];show((acg V).append_right _).append_left _
 ·show ã (Ģ.mp hy) (λh=>L.bf y (qY h) z (J' _ hz)) λh=>by rw[O'.mp h];show o.1 z hz
theorem SO.eqv(S:SO zA zE zs zb zk zU)(h1:zb x y=Ê)(h2:zb y z=Ê):zb x z=Ê:=by
 cases q:zb x z with
 |false=>rfl
 |true=>show ã (S.neg x y z q) (λq=>nomatch h1.symm.trans q) λq=>nomatch h2.symm.trans q
theorem gN.same{D V R' arr:List Ë}{x:Ë}{neq:Nat}(S:SO zA zE zs zb zk zU)(L:gN zb zo P R T D V (x::R') n neq arr){vl:Ë}(hv:vl∈V)(h1:zb x vl=Ê)(h2:zb vl x=Ê):gN zb zo P R T D (V++[x]) R' (n+1) (neq+1) arr:=by
 have o:=Ō.mp L.asc;have xv:∀v∈V,zb x v=Ê:=λv s6=>S.eqv h1 (L.eqk vl hv v s6);have vx:∀v∈V,zb v x=Ê:=λv s6=>S.eqv (L.eqk v s6 vl hv) h2;have ovx:∀v∈V,zo v<zo x:=λv s6=>L.bf v (ŧ _ s6) x G';have q:=cz.mp L.so;show⟨by rw[L.arr,ÿ V];rfl,by rw[û,<-ű,L.len];rfl,by rw[û,L.neq];rfl,?_,λy hy z hz=>?_,λy hy z hz=>?_,by rw[ÿ];show L.pm,λy hy z hz=>?_,o.2⟩
 ·rw[ÿ]
  show cz.mpr ⟨q.1,Ō.mpr ⟨λu hu=>?_,q.2.1⟩,λv s6 y hy=>?_⟩
  ·have g:=q.2.2 vl hv u hu
   rw[fY (L.uv u (ϥ.mp hu) vl hv)]at g;show dK.mpr (.inl (ã (S.neg vl x u g) (λq=>nomatch h2.symm.trans q) λq=>q))
  ·show ã (Ĉ.mp hy) (λe=>by rw[e];show dK.mpr (.inr ⟨xv v s6,ovx v s6⟩)) λhy=>q.2.2 v s6 y hy
 ·show ã (Ģ.mp hy) (λhy=>ã (Ģ.mp hz) (λhz=>L.eqk y hy z hz) λhz=>?_) λhy=>ã (Ģ.mp hz) (λhz=>?_) λhz=>?_
  ·rw[O'.mp hz];show vx y hy
  ·rw[O'.mp hy];show xv z hz
  ·rw[O'.mp hy,O'.mp hz];show S.irr x
 ·show ã (Ģ.mp hz) (λhz=>L.uv y hy z hz) λhz=>by rw[O'.mp hz];show L.bf y (Ź _ hy) x G'
 ·rw[<-ÿ]at hy
  show ã (Ģ.mp hy) (λh=>L.bf y h z (J' _ hz)) λh=>by rw[O'.mp h];show o.1 z hz
theorem gN.rest{D V R' arr:List Ë}{neq:Nat}(L:gN zb zo P R T D V R' n neq arr):n+R'.length=R.length:=by have h:=L.pm.length_eq;rw[û,û,<-ű,L.len]at h;show h
theorem u5{V:List Ë}{neq:Nat}(h:V.length=neq+1)(h0:¬ neq > 0):V.reverse=V:=by rw[acm h0]at h;show W' (aet.mp h) λv e=>by rw[e];rfl
theorem gN.turn{D V R':List Ë}{arr:Array Ë}{neq:Nat}(L:gN zb zo P R T D V R' n neq arr.toList)(hP:P.length=lo):(mirror arr (lo+n-(neq+1)) (lo+n) ((lo+n-(lo+n-(neq+1))) / 2)).toList=P++(D++(V.reverse++(R'++T))):=by
 have hn:lo+n-(neq+1)=lo+D.length:=by rw[<-L.len,<-L.neq,<-ű,acS]
 rw[<-ÿ];show ki (by rw[L.arr,ÿ]) (by rw[û,hP,hn]) ?_;rw[hn,ű,L.len]
variable{Q:Option Nat->Ò->Prop}
theorem tJ(S:SO zA zE zs zb zk zU)(hk:kindOf st=zk)(hP:P.length=lo)(hU:∀x∈R,zU x)(hR:R.length=dT)(h1:1<=n)(hs:cX st Ú){D V R':List Ë}{neq:Nat}{arr:List Ë}(L:gN zb zo P R T D V R' n neq arr)(e:(Û Ú).toList=P++(D++(V.reverse++(R'++T))))
  (h:∀n da,1<=n->n<=dT->LM zb zo P R T st n da->Q (À n) da):wpS mo zA zE zs (Ik lo n dT) Q Ú:=by
 have hl:(D++V.reverse).length=n:=by rw[û,ab8];show L.len
 show Í ?_;rw[Ĺ];have e2:(Û Ú).toList=P++((D++V.reverse)++(R'++T)):=by rw[e,ÿ]
 have I:LM zb zo P R T st n (setArr Ú (mirror (Û Ú) lo (lo+n) ((lo+n-lo) / 2))):=by show⟨hs.arr _,(D++V.reverse).reverse,R',ki e2 hP (by rw[hl]),by rw[ab8];show hl,by rw[abZ,ab3];show L.so,((acg _).append_right _).trans (List.Perm.trans ?_ L.pm),λx hx=>L.bf x (qY (ϥ.mp hx)),L.asc⟩;rw[ÿ];show((acg V).append_right _).append_left _
 have hn:n<=dT:=by rw[<-hR,<-L.rest];show Ň _ _
 show ù (Í (vL S hk hP hU hR h1 hn I (λda I2=>Ð (h dT da (z' h1 hn) (Đ _) I2)) λm da Ø x R2 g1 g2 hs2 L2 z=>Ð (h m da g1 (ī g2) ⟨hs2,Ø,_,L2⟩)))
def NC(zb:Ë->Ë->Bool)(zo:Ë->Nat)(P R T:List Ë)(st:Ò)(c:DS)(Ú:Ò):Prop:=c.1=Ã/\cX st Ú/\∃D V R',gN zb zo P R T D V R' c.2.1 c.2.2 (Û Ú).toList
theorem Ej(S:SO zA zE zs zb zk zU)(hk:kindOf st=zk)(hP:P.length=lo)(hU:∀x∈R,zU x)(hs:cX st Ú){x:Nat}{c:DS}{D V R':List Ë}{z:Ë}(L:gN zb zo P R T D V (z::R') c.2.1 c.2.2 (Û Ú).toList){Q:ForInStep DS->Ò->Prop}
  (hd:∀da,cX st da->gN zb zo P R T D V (z::R') c.2.1 c.2.2 (Û da).toList->Q (.done (Ã,c.2.1,c.2.2)) da) (hy:∀m da,NC zb zo P R T st (Ã,c.2.1+1,m) da->Q (.yield (Ã,c.2.1+1,m)) da):wpS mo zA zE zs (Mf lo x c) Q Ú:=by
 have hl:V.length-1<V.length:=by rw[L.neq];show Ż _
 have hm:=ź hl;have ca:D.length+V.length=c.2.1:=L.len;have e1:(Û Ú).toList[lo+c.2.1]?=À z:=gP (n:=lo+c.2.1) (P:=P++(D++V)) (X:=[z]) (T:=R'++T) (i:=0) (by rw[L.arr,ÿ,ÿ];rfl) (by rw[û,û,hP,ca]) Ŷ
 have e2:(Û Ú).toList[lo+c.2.1-1]?=À V[V.length-1]:=by rw[<-ca,<-ű,ac0 (by rw[L.neq];show ϒ _)];show gP (P:=P++D) (T:=(z::R')++T) (by rw[L.arr,ÿ]) (by rw[û,hP]) _ hl
 have uz:zU z:=hU _ (L.pm.mem_iff.mp (ŧ _ (ŧ _ G')));have uv:zU V[V.length-1]:=hU _ (L.pm.mem_iff.mp (ŧ _ (Ź _ hm)));show Í (S.ltAt e1 e2 uz uv (hs.k.trans hk) ?_);cases hb:zb z V[V.length-1] with
 |true=>
  have L2:=L.down S hm hb;show cI N (cD (λh0=>Í ?_) λh0=>Ð (hy 0 _ ⟨N,hs,D++V.reverse,[z],R',?_⟩))
  ·rw[Ĺ]
   show ù (Ð (hy 0 _ ⟨N,hs.arr _,D++V.reverse,[z],R',?_⟩));have:=L2;rw[<-L.turn hP]at this;show this
  ·have:=L2
   have e3:P++(D++(V.reverse++((z::R')++T)))=(Û Ú).toList:=by rw[u5 L.neq h0,L.arr]
   rw[e3]at this;show this
 |false=>
  show ck Ķ (Í (S.ltAt e2 e1 uv uz (hs.k.trans hk) ?_));cases hc:zb V[V.length-1] z with
  |true=>show cI N (Ð (hd _ hs L))
  |false=>show ck Ķ (Ð (hy _ _ ⟨N,hs,D,V++[z],R',L.same S hm hb hc⟩))
theorem Ek(S:SO zA zE zs zb zk zU)(hk:kindOf st=zk)(hP:P.length=lo)(hU:∀x∈R,zU x)(hR:R.length=dT)(hn:n+1<=dT)(hs:cX st Ú){D V R':List Ë}(L:gN zb zo P R T D V R' (n+1) 0 (Û Ú).toList)
  (h:∀n da,1<=n->n<=dT->LM zb zo P R T st n da->Q (À n) da):wpS mo zA zE zs (AV lo n dT) Q Ú:=by
 show Í (ķ (ú ⟨N,(Í (Ė (ä (I:=λx (c:DS) da=>c.2.1=x/\NC zb zo P R T st c da) (Q:=λ(c:DS) da=>1<=c.2.1/\NC zb zo P R T st c da) (λx c da hx Tj q=>?_) (λc da q=>⟨?_,q.2⟩) ⟨N,N,hs,D,V,R',L⟩) λc da q=>?_))⟩))
 ·show wi q.2.2.2 λD V R' L=>?_
  cases R' with
  |nil=>show absurd Tj (by rw[<-hR,<-L.rest,q.1];show ţ _)
  |cons z R'=>show Ej S hk hP hU q.2.2.1 L (λvD Db L3=>⟨by rw[q.1];show z' (ϒ n) hx,N,Db,D,V,z::R',L3⟩) λm vD I3=>⟨by rw[q.1],I3⟩
 ·rw[q.1,ϲ hn];show z' (ϒ n) hn
 ·rw[q.2.1]
  show wi q.2.2.2 λD V R' L=>cD (λh0=>Í ?_) λh0=>?_
  ·rw[Ĺ]
   show ù (tJ S hk hP hU hR q.1 (q.2.2.1.arr _) L (L.turn hP) h)
  ·show tJ S hk hP hU hR q.1 q.2.2.1 L (by rw[u5 L.neq h0];show L.arr) h
theorem Ei(S:SO zA zE zs zb zk zU)(hk:kindOf st=zk)(hP:P.length=lo)(hU:∀x∈R,zU x)(hn:1<=dT)(e:(Û st).toList=P++(R++T))(hR:R.length=dT)(asc:R.Pairwise λx y=>zo x<zo y)
  (h:∀n da,1<=n->n<=dT->LM zb zo P R T st n da->Q (À n) da):wpS mo zA zE zs (countRun' lo dT) Q st:=by
 rw[CK]
 have I:LM zb zo P R T st 1 st:=by
  cases R with
  |nil=>rw[<-hR]at hn;show nomatch hn
  |cons x R=>show⟨cX.refl _,[x],R,e,N,ach _ _,.refl _,λu hu v hv=>by rw[O'.mp hu];show(Ō.mp asc).1 v hv,(Ō.mp asc).2⟩
 show Í (vL S hk hP hU hR (Đ 1) hn I (λda I2=>cI (beq_self_eq_true dT) (Ð (h dT da hn (Đ _) I2))) λn da Ø x R' g1 g2 hs L Y6=>ck (λq=>ŉ g2 (beq_iff_eq.mp q)) ?_);have hl:Ø.length-1<Ø.length:=by rw[L.len];show Ϡ g1 Ŷ
 have h0:0<Ø.length:=ŷ (Ĥ _) hl;have hx:=Y6 hl;have uZ:∀z∈Ø,zU z:=λz hz=>hU _ (L.pm.mem_iff.mp (Ź _ hz));have o:=Ō.mp L.asc
 have QL:∀vD,cX st vD->(Û vD).toList=P++(Ø.reverse++((x::R')++T))->(∀z∈Ø,zb z Ø[Ø.length-1]=Ê)->wpS mo zA zE zs (AV lo n dT) Q vD:=λvD Db e4 hq=>by
  have hxz:∀z∈Ø,rr zb zo x z=Æ:=λz hz=>dK.mpr (.inl (ã (S.neg x z _ hx) (λq=>q) λq=>nomatch (hq z hz).symm.trans q));show Ek S hk hP hU hR g2 Db (D:=Ø.reverse) (V:=[x]) (R':=R') ⟨e4,by rw[ab8,L.len];rfl,N,by rw[ab3];show Ō.mpr ⟨hxz,L.so⟩,λy hy z hz=>?_,λy hy z hz=>?_,((acg Ø).append_right _).trans L.pm,λy hy z hz=>?_,o.2⟩ h
  ·rw[O'.mp hy,O'.mp hz];show S.irr x
  ·rw[O'.mp hz];show L.bf y (ϥ.mp hy) x G'
  ·show ã (Ģ.mp hy) (λhy=>L.bf y (ϥ.mp hy) z (J' _ hz)) λhy=>by rw[O'.mp hy];show o.1 z hz
 show cD (λWZ=>?_) λWZ=>?_
 ·show Í (S.ltAt (x:=Ø[0]) (by rw[<-afE lo];show gP L.arr hP 0 h0) (L.last hP g1 hl) (uZ _ (ź h0)) (uZ _ (ź hl)) (hs.k.trans hk) ?_)
  cases hr:zb Ø[0] Ø[Ø.length-1] with
  |true=>show cI N (Ð (h n da g1 (ī g2) ⟨hs,Ø,_,L⟩))
  |false=>
   show ck Ķ (Í ?_);rw[Ĺ];show ù (QL _ (hs.arr _) (ki L.arr hP (by rw[L.len])) λz hz=>S.eqv (y:=Ø[0]) (W' (ab2.mp hz) λi q=>W' q λhi q=>ã (aeP i) (λe=>?_) λhp=>?_) hr)
   ·rw[<-q]
    have:Ø[i]=Ø[0]:=by congr 1
    rw[this];show S.irr _
   ·have g:=S.rasym _ _ (acv.mp L.so 0 i h0 hi hp)
    rw[q]at g;cases q2:zb z Ø[0] with
    |false=>rfl
    |true=>rw[dK.mpr (.inl q2)]at g;show nomatch g
 ·have e1:n=1:=ť (ľ.mp WZ) g1
  have hZ:Ø.length=0+1:=L.len.trans e1;show QL da hs (by rw[u5 hZ (ţ _)];show L.arr) λz hz=>W' (aet.mp hZ) λv ev=>?_;have h1:z=v:=by rw[ev]at hz;show O'.mp hz
  have h2:Ø[Ø.length-1]=v:=O'.mp (ev▸ź hl);rw[h1,h2];show S.irr v
end
noncomputable abbrev Ez:=List Ë×Nat
noncomputable def eK:Nat->List Ez->List (Nat×Nat×Nat)
 |_,[]=>[]
 |n,b::t=>(n,b.1.length,b.2)::eK (n+b.1.length) t
noncomputable def bn:List Ez->List Ë
 |[]=>[]
 |b::t=>b.1++bn t
theorem i8:∀(L M:List Ez),bn (L++M)=bn L++bn M
 |[],_=>rfl
 |b::L,M=>by show b.1++bn (L++M)=(b.1++bn L)++bn M;rw[i8 L M,ÿ]
theorem jf:∀(n:Nat) (L M:List Ez),eK n (L++M)=eK n L++eK (n+(bn L).length) M
 |_,[],_=>rfl
 |n,b::L,M=>by show _::eK (n+b.1.length) (L++M)=_::(eK (n+b.1.length) L++eK (n+(b.1++bn L).length) M);rw[jf,û,ű]
theorem nq:∀(n:Nat) (L:List Ez),(eK n L).length=L.length
 |_,[]=>rfl
 |n,b::L=>congrArg (·+1) (nq _ L)
theorem wA:∀{L:List Ez},b∈L->x∈b.1->x∈bn L
 |c::L,h,hx=>ã (Ĉ.mp h) (λe=>Ź _ (e▸hx)) λh=>ŧ _ (wA h hx)
theorem wz:∀{L:List Ez},(∀b∈L,0<b.1.length)->L.length<=(bn L).length
 |[],_=>Đ _
 |b::L,h=>by show L.length+1<=(b.1++bn L).length;rw[û,ϟ];show Ϗ (h b G') (wz λc hc=>h c (J' _ hc))
theorem Sg:∀{n:Nat},1<n->n-2+1<n
 |n+2,_=>Ż (n+1)
 |0,h=>nomatch h
 |1,h=>absurd h (ţ 1)
theorem o6(x:α)(f:α->α):∀l:List α,(l++[x]).modify l.length f=l++[f x]
 |[]=>rfl
 |a::l=>congrArg (a::·) (o6 x f l)
section
variable{st:Ò}{a₀ R Ø:List Ë}{L Bs T:List Ez}
def TB(zo:Ë->Nat)(b c:Ez):Prop:=∀x∈b.1,∀y∈c.1,zo x<zo y
structure X9(zb:Ë->Ë->Bool)(zo:Ë->Nat)(b:Ez):Prop where
 pos:0<b.1.length
 so:kW (rr zb zo) b.1
structure mC(zb:Ë->Ë->Bool)(zo:Ë->Nat)(zk:ŵ)(a₀:List Ë)(Bs:List Ez)(R:List Ë)(st:Ò):Prop where
 kind:kindOf st=zk
 failed:ë st=Ã
 pend:(Ö st).toList=eK 0 Bs
 arr:(Û st).toList=bn Bs++R
 ok:∀b∈Bs,X9 zb zo b
 bf:(Bs++[(R,0)]).Pairwise (TB zo)
 pm:(bn Bs++R).Perm a₀
theorem mC.size(I:mC zb zo zk a₀ Bs R st):(Ö st).size=Bs.length:=by rw[<-Ž,I.pend,nq]
theorem mC.len(I:mC zb zo zk a₀ Bs R st):(bn Bs).length+R.length=a₀.length:=by rw[<-û];show I.pm.length_eq
theorem mC.none(I:mC zb zo zk a₀ Bs R st)(h:a₀.length<=(bn Bs).length):R=[]:=by rw[<-I.len]at h;show ϰ.mp (afK.mp (acw (z' h (ŕ (afE _).symm))))
theorem DE(L:List α)(x y z:α)(T:List α):((L++x::y::T).set L.length z).eraseIdx (L.length+1)=L++z::T:=by rw[acW _ _ (Đ _),Ϸ,List.eraseIdx_append_of_length_le (Ň _ 1),ϯ];rfl
theorem NZ(L:List α)(x:α)(T:List α):(L++x::T)[L.length]?=À x:=by rw[ϙ (Đ _),Ϸ];rfl
theorem Jm(L:List α)(x y:α)(T:List α):(L++x::y::T)[L.length+1]?=À y:=by rw[ϙ (Ň _ 1),ϯ];rfl
theorem Fh(h:(L++(X,p)::(Y,q)::T).Pairwise (TB zo))(hZ:∀x∈Ø,x∈X\/x∈Y):(L++(Ø,p)::T).Pairwise (TB zo):=by
 have a:=Ϣ.mp h;have b:=Ō.mp a.2.1;have c:=Ō.mp b.2;show Ϣ.mpr ⟨a.1,Ō.mpr ⟨λd hd x hx y hy=>?_,c.2⟩,λe he d hd x hx y hy=>?_⟩
 ·show ã (hZ x hx) (λhx=>b.1 d (J' _ hd) x hx y hy) λhx=>c.1 d hd x hx y hy
 ·show ã (Ĉ.mp hd) (λq=>?_) λhd=>a.2.2 e he d (J' _ (J' _ hd)) x hx y hy
  rw[q]at hy;show ã (hZ y hy) (λhy=>a.2.2 e he _ G' x hx y hy) λhy=>a.2.2 e he _ (J' _ G') x hx y hy
theorem w9(h:b∈L++c::T):b=c\/b∈L++d::T:=
 ã (Ģ.mp h) (λh=>.inr (Ź _ h)) λh=>ã (Ĉ.mp h) .inl λh=>.inr (ŧ _ (J' _ h))
theorem mC.repower(I:mC zb zo zk a₀ (L++[(X,p)]) R st)(pw:Nat):mC zb zo zk a₀ (L++[(X,pw)]) R (ĉ st ((Ö st).modify ((Ö st).size-1) λx=>(x.1,x.2.1,pw))):=by
 have eF:bn (L++[(X,pw)])=bn (L++[(X,p)]):=by rw[i8,i8];rfl
 show⟨I.kind,I.failed,?_,eF▸I.arr,λb hb=>?_,?_,eF▸I.pm⟩
 ·show ((Ö st).modify _ _).toList=_
  rw[Array.toList_modify,I.size,I.pend,jf,jf,û];show List.modify (eK 0 L++[_]) L.length _=_;rw[<-nq 0 L];show o6 ..
 ·show ã (w9 (d:=(X,p)) hb) (λe=>?_) λh=>I.ok b h
  have o:=I.ok (X,p) (ŧ _ G');rw[e];show⟨o.pos,o.so⟩
 ·have h:=I.bf
  rw[ÿ]at h ⊢;have a:=Ϣ.mp h;have b:=Ō.mp a.2.1;show Ϣ.mpr ⟨a.1,Ō.mpr ⟨b.1,b.2⟩,λe he d hd=>ã (Ĉ.mp hd) (λq=>by rw[q];show a.2.2 e he (X,p) G') λhd=>a.2.2 e he d (J' _ hd)⟩
theorem mC.push(I:mC zb zo zk a₀ Bs (Ø++R) st)(hn:Ø.length=n)(hZ:0<n)(hs:kW (rr zb zo) Ø)(zR:∀x∈Ø,∀y∈R,zo x<zo y):
  mC zb zo zk a₀ (Bs++[(Ø,0)]) R (ĉ st ((Ö st).push ((bn Bs).length,n,0))):=by
 have eF:bn (Bs++[(Ø,0)])++R=bn Bs++(Ø++R):=by rw[i8];show (bn Bs++(Ø++[]))++R=_;rw[Ĵ,ÿ]
 show⟨I.kind,I.failed,?_,eF▸I.arr,λb hb=>?_,?_,eF▸I.pm⟩
 ·show ((Ö st).push _).toList=_
  rw[acZ,I.pend,jf,ż,<-hn];rfl
 ·show ã (Ģ.mp hb) (I.ok b) λh=>by rw[O'.mp h];show⟨hn▸hZ,hs⟩
 ·have a:=Ϣ.mp I.bf
  rw[ÿ];show Ϣ.mpr ⟨a.1,Ō.mpr ⟨λc hc=>by rw[O'.mp hc];show zR,ach _ _⟩,λb hb c hc x hx y hy=>a.2.2 b hb _ G' x hx y (ã (Ĉ.mp hc) (λe=>?_) λh=>?_)⟩
  ·rw[e]at hy;show Ź _ hy
  ·rw[O'.mp h]at hy;show ŧ _ hy
end
section
variable{st:Ò}{a₀ R:List Ë}{L Bs T:List Ez}
theorem vv(S:SO zA zE zs zb zk zU)(hU:∀x∈a₀,zU x)(I:mC zb zo zk a₀ (L++(X,p)::(Y,q)::T) R st)(hi:L.length=i)
  (h:∀Ø Ú,mC zb zo zk a₀ (L++(Ø,p)::T) R Ú->Q Æ Ú):wpS mo zA zE zs (ń i) Q st:=by
 have hX:(X,p)∈L++(X,p)::(Y,q)::T:=ŧ _ G';have hY:(Y,q)∈L++(X,p)::(Y,q)::T:=ŧ _ (J' _ G');have eF:bn (L++(X,p)::(Y,q)::T)=bn L++(X++(Y++bn T)):=by rw[i8];rfl
 have eP:(Ö st).toList=eK 0 L++((bn L).length,X.length,p)::((bn L).length+X.length,Y.length,q)::eK ((bn L).length+X.length+Y.length) T:=by rw[I.pend,jf,ż];rfl
 have hl:i=(eK 0 L).length:=hi.symm.trans (nq 0 L).symm;have bf:=I.bf;rw[ÿ]at bf;have Tm:∀x∈X,∀y∈Y,zo x<zo y:=(Ō.mp (Ϣ.mp bf).2.1).1 (Y,q) G';have uF:∀b∈L++(X,p)::(Y,q)::T,∀x∈b.1,zU x:=λb hb x hx=>hU x (I.pm.mem_iff.mp (Ź _ (wA hb hx)));have M:MC X Y:=⟨λx hx y hy st1 Q hk hq=>S.cmp y x (uF _ hY y hy) (uF _ hX x hx) st1 Q hk (by rw[<-fY (Tm x hx y hy)];show hq),S.rtrans,S.rasym,λx hx y hy hr=>u7 (Tm x hx y hy) hr,(I.ok _ hX).so,(I.ok _ hY).so⟩;show yl (P:=bn L) (X:=X) (Y:=Y) (T:=bn T++R) (sa:=(bn L).length) (pw:=p) (pw2:=q) ?_ ?_ ?_ N (I.ok _ hX).pos (I.ok _ hY).pos M I.kind I.failed λØ Ú hE hk ha hp hf=>?_
 ·rw[<-Ϯ,eP,hl];show NZ _ _ _
 ·rw[<-Ϯ,eP,hl];show Jm _ _ _ _
 ·rw[I.arr,eF,ÿ,ÿ,ÿ]
 ·have hZ:∀x∈Ø,x∈X\/x∈Y:=λx hx=>Ģ.mp (hE.pm.mem_iff.mp hx)
  have Xf:Ø.length=X.length+Y.length:=by rw[hE.pm.length_eq,û]
  have WV:bn (L++(Ø,p)::T)=bn L++(Ø++bn T):=by rw[i8];rfl
  have pF:(bn (L++(Ø,p)::T)).Perm (bn (L++(X,p)::(Y,q)::T)):=by rw[eF,WV,<-ÿ X];show(hE.pm.append_right _).append_left _
  show h Ø Ú ⟨hk.trans I.kind,hf,?_,?_,λb hb=>?_,?_,(pF.append_right R).trans I.pm⟩
  ·rw[hp,Array.toList_eraseIdxIfInBounds,ad7,eP,hl,DE,jf,ż]
   show _=eK 0 L++(_,Ø.length,p)::eK ((bn L).length+Ø.length) T;rw[Xf,ű]
  ·rw[ha,WV,ÿ,ÿ]
  ·show ã (w9 (d:=(X,p)) hb) (λe=>?_) λh=>?_
   ·rw[e]
    show⟨by rw[Xf];show ĳ (I.ok _ hX).pos (Ň _ _),hE.so⟩
   ·show I.ok b (ã (Ģ.mp h) (Ź _) λh=>ŧ _ (ã (Ĉ.mp h) (λe=>e▸G') λh=>J' _ (J' _ h)))
  ·rw[ÿ]
   show Fh bf hZ
theorem R9(h:i+1<l.length):∃L x y T,l=L++x::y::T/\L.length=i:=
 ⟨l.take i,l[i]'(Ş h),l[i+1],l.drop (i+2),by rw[<-abF,<-abF,Ť],by rw[Ŭ,Ŵ (ī (Ş h))]⟩
theorem nQ(S:SO zA zE zs zb zk zU)(hU:∀x∈a₀,zU x)(I:mC zb zo zk a₀ Bs R st)(hi:i+1<Bs.length)
  (h:∀pH Ú,mC zb zo zk a₀ pH R Ú->pH.length+1=Bs.length->Q Æ Ú):wpS mo zA zE zs (ń i) Q st:=by
 show WT (R9 hi) λL x y T e hL=>?_;rw[e]at I;show vv (X:=x.1) (p:=x.2) (Y:=y.1) (q:=y.2) S hU I hL λØ Ú I'=>h _ Ú I' ?_;rw[e,û,û];rfl
abbrev VS:Type:=Option Unit×Unit
abbrev WS:Type:=Option Unit×Nat
noncomputable def Mi(pw:Nat)(_:Nat)(_:VS):StateT Ò Sem (ForInStep VS):=
 get>>=λst=>match (if (Ö st).size > 1 then (Ö st)[(Ö st).size-2]? else Ã) with
 |some (_,_,older)=>if older<=pw then pure (.done (Ã,())) else ń ((Ö st).size-2)>>=λb=>if (!b)=Æ then pure (.done (À (),())) else pure (.yield (Ã,()))
 |_=>pure (.done (Ã,()))
noncomputable def HB(lo n:Nat):StateT Ò Sem (ForInStep WS):=(modify λzs=>ĉ zs ((Ö zs).push (lo,n,0)))>>=λz=>pure (.yield (Ã,lo+n))
def B9(md lo n:Nat):StateT Ò Sem (ForInStep WS):=
 get>>=λst=>match (Ö st).back? with
 |some (s1,n1,_)=>forIn [0:md] ((Ã,()):VS) (Mi (power' md (2*s1+n1) (2*s1+n1+n1+n) md))>>=λr=>match r.1 with
  |some a=>pure (.done (À a,lo))
  |none=>(modify λzs=>ĉ zs ((Ö zs).modify ((Ö zs).size-1) λx=>(x.1,x.2.1,power' md (2*s1+n1) (2*s1+n1+n1+n) md)))>>=λz=>HB lo n
 |_=>HB lo n
def Sb(md mr:Nat)(_:Nat)(c:WS):StateT Ò Sem (ForInStep WS):=
 if c.2 >= md then pure (.done (Ã,c.2)) else countRun' c.2 (md-c.2)>>=λz=>match z with
 |some n=>if n<mr then (liftM (rule "list.sort.binary-insertion"):StateT Ò Sem Unit)>>=λy=>binarySort' c.2 (min (md-c.2) mr) n>>=λb=>if (!b)=Æ then pure (.done (À (),c.2)) else B9 md c.2 (min (md-c.2) mr)
  else B9 md c.2 n
 |_=>pure (.done (À (),c.2))
noncomputable def Nd(p:Array (Nat×Nat×Nat)):Nat:=if (if p.size-2 > 0 then p[p.size-2-1]?.map (·.2.1) else Ã).any (· < (p[p.size-2+1]?.elim 0 (·.2.1))) then p.size-2-1 else p.size-2
def UC(_:Nat)(_:VS):StateT Ò Sem (ForInStep VS):=
 get>>=λst=>if (Ö st).size<=1 then pure (.done (Ã,())) else ń (Nd (Ö st))>>=λb=>if (!b)=Æ then pure (.done (À (),())) else pure (.yield (Ã,()))
theorem K0:sortRuns'=(get>>=λzs=>forIn [0:(Û zs).size] ((Ã,0):WS) (Sb (Û zs).size (minRun' (Û zs).size (Û zs).size 0))>>=λc=>match c.1 with
 |some r=>pure r
 |none=>forIn [0:(Û zs).size] ((Ã,()):VS) UC>>=λd=>match d.1 with
  |some r=>pure r
  |none=>pure ()):=by kernel_rfl
theorem El(S:SO zA zE zs zb zk zU)(hU:∀x∈a₀,zU x)(I:mC zb zo zk a₀ Bs R st)(h0:Bs≠[])(hd:Q (.done (Ã,())) st)(hy:∀pH Ú,mC zb zo zk a₀ pH R Ú->pH≠[]->Q (.yield (Ã,())) Ú):
  wpS mo zA zE zs (Mi pw x c) Q st:=by
 show Í (Ĭ ?_);by_cases h2:(Ö st).size > 1
 ·rw[if_pos h2]
  split
  ·show cD (λz=>Ð hd) λz=>?_
   rw[I.size]at h2 ⊢;show Í (nQ S hU I (Sg h2) λpH Ú I' hl=>ck Ķ (Ð (hy pH Ú I' λe=>?_)));rw[e]at hl;show ţ _ (hl▸h2)
  ·show Ð hd
 ·rw[if_neg h2]
  show Ð hd
theorem Kt(h:l≠[]):∃L x,l=L++[x]:=⟨l.dropLast,l.getLast h,(List.dropLast_concat_getLast h).symm⟩
set_option tactic.hygienic true in
theorem Es(S:SO zA zE zs zb zk zU)(hU:∀x∈a₀,zU x)(I:mC zb zo zk a₀ Bs (Ø++R) st)(hn:Ø.length=n)(hZ:0<n)(hs:kW (rr zb zo) Ø)(zR:∀x∈Ø,∀y∈R,zo x<zo y)
  (h:∀pH Ú,mC zb zo zk a₀ pH R Ú->Q (.yield (Ã,(bn Bs).length+n)) Ú):wpS mo zA zE zs (B9 md (bn Bs).length n) Q st:=by
 have Ii:∀pH Ú,mC zb zo zk a₀ pH (Ø++R) Ú->wpS mo zA zE zs (HB (bn Bs).length n) Q Ú:=λpH Ú I'=>by show Í (ù (Ð (h (pH++[(Ø,0)]) _ ?_)));have e:(bn pH).length=(bn Bs).length:=aeB (I'.len.trans I.len.symm);have:=I'.push hn hZ hs zR;rw[e]at this;show this
 show Í (Ĭ ?_);split
 ·rename_i s1 n1 p1 hb
  have eJ:Bs≠[]:=λe=>by
   have h1:(Ö st).toList=[]:=by rw[I.pend,e];rfl
   rw[Array.toList_eq_nil_iff.mp h1]at hb;show nomatch hb
  generalize power' md (2*s1+n1) (2*s1+n1+n1+n) md=pw;show Í (Ė (ä (I:=λ_ (c:VS) Ú=>c.1=Ã/\∃pH,mC zb zo zk a₀ pH (Ø++R) Ú/\pH≠[]) (λx c Ú _ _ q=>?_) (λ_ _ q=>q) ⟨N,Bs,I,eJ⟩) λc Ú q=>?_)
  ·show aF q.2 λpH I' h'=>El S hU I' h' ⟨rfl,pH,I',h'⟩ λB2 da I2 h2=>⟨N,B2,I2,h2⟩
  ·rw[q.1]
   show aF q.2 λpH I' h'=>mM (Kt h') λL x e=>?_;rw[e]at I';show Í (ù (Ii _ _ (mC.repower (X:=x.1) (p:=x.2) I' pw)))
 ·show Ii Bs st I
theorem Er:AF zA zE zs zb zo zk zU:=by
 intro a₀ st Q S hU hk hf hp e asc h;rw[K0];show Í (Ĭ ?_);rw[show (Û st).size=a₀.length by rw[<-Ž,e]];generalize minRun' a₀.length a₀.length 0=mr;show Í (Ė (ä (I:=λx (c:WS) Ú=>c.1=Ã/\∃Bs R,mC zb zo zk a₀ Bs R Ú/\(bn Bs).length=c.2/\R.Pairwise (λx y=>zo x<zo y)/\(x<=c.2\/a₀.length<=c.2)) (Q:=λ(c:WS) Ú=>c.1=Ã/\∃Bs,mC zb zo zk a₀ Bs [] Ú) (λx c Ú j hx q=>?_) (λc Ú q=>⟨q.1,?_⟩) ⟨N,[],a₀,⟨hk,hf,by rw[hp];rfl,e,(λj h=>nomatch h),ach _ _,.refl _⟩,N,asc,.inl (Đ _)⟩) λc Ú q=>?_)
 ·show JG q.2 λBs R I hl ha RB=>?_
  have ca:=I.len;unfold Sb;rw[<-hl];show cD (λlB=>Ð ⟨N,Bs,?_⟩) λlB=>?_
  ·rw[I.none lB]at I;show I
  have cE:(bn Bs).length<a₀.length:=ϕ.mp lB;have hR:R.length=a₀.length-(bn Bs).length:=by rw[<-ca,ϯ]
  have RB:x<=(bn Bs).length:=ã RB (λh=>hl▸h) λh=>absurd (hl▸h) lB;have uR:∀y∈R,zU y:=λy hy=>hU y (I.pm.mem_iff.mp (ŧ _ hy))
  -- the state behind a run found
  have aD:∀{n vD Z' R'},cX Ú vD->f8 zb zo (bn Bs) R [] Z' R' n (Û vD).toList->mC zb zo zk a₀ Bs (Z'++R') vD:=λ{n vD Z' R'} hs L=>by have a:=Ϣ.mp I.bf;show⟨hs.k.trans I.kind,hs.f.trans I.failed,by rw[hs.p];show I.pend,by rw[L.arr,Ĵ],I.ok,Ϣ.mpr ⟨a.1,ach _ _,λb hb c hc=>?_⟩,(L.pm.append_left _).trans I.pm⟩;rw[O'.mp hc];show λx hx y hy=>a.2.2 b hb _ G' x hx y (L.pm.mem_iff.mp hy)
  have step:∀{P:ForInStep WS->Ò->Prop},(∀c' Wt,(c'.1=Ã/\∃Bs R,mC zb zo zk a₀ Bs R Wt/\(bn Bs).length=c'.2/\R.Pairwise (λx y=>zo x<zo y)/\(x+1<=c'.2\/a₀.length<=c'.2))->P (.yield c') Wt)->∀{n vD Z' R'},1<=n->cX Ú vD->f8 zb zo (bn Bs) R [] Z' R' n (Û vD).toList->wpS mo zA zE zs (B9 a₀.length (bn Bs).length n) P vD:=λ{P} hP {n vD Z' R'} h1 hs L=>
   Es S hU (aD hs L) L.len h1 L.so L.bf λpH Wt I4=>hP _ _ ⟨N,pH,R',I4,aeB ((I4.len.trans ca.symm).trans (by rw[ű,L.rest])),L.asc,.inl (Ϗ RB h1)⟩
  show Í (Ei S I.kind (P:=bn Bs) (R:=R) (T:=[]) N uR (ϳ cE) (by rw[Ĵ];show I.arr) hR ha λn da C8 C9 hA=>gq (show ∃Ø R',cX Ú da/\f8 zb zo (bn Bs) R [] Ø R' n (Û da).toList from W' hA.2 λØ q=>W' q λR' L=>⟨Ø,R',hA.1,L⟩) λØ R' hs L=>cD (λZx=>Í (ķ (ú ⟨N,?_⟩))) λj=>step (λj j q=>q) C8 hs L);have qO:min (a₀.length-(bn Bs).length) mr<=R.length:=by rw[hR];show acj _ _
  have Rn:n<=min (a₀.length-(bn Bs).length) mr:=aft.mpr ⟨C9,ī Zx⟩;generalize min (a₀.length-(bn Bs).length) mr=force at qO Rn;have jO:=L.rest
  have ht:force-n<=R'.length:=by rw[<-jO]at qO;show Nat.sub_le_iff_le_add'.mpr qO
  have PK:=Ť (force-n) R';have QB:=L.asc;rw[<-PK]at QB;have sp:=Ϣ.mp QB;have L1:f8 zb zo (bn Bs) (Ø++R'.take (force-n)) (R'.drop (force-n)) Ø (R'.take (force-n)) Ø.length (Û da).toList:=⟨by rw[L.arr,Ĵ,PK],N,L.so,.refl _,λy hy z hz=>L.bf y hy z (ŭ hz),sp.1⟩;rw[<-L.len];show Í (yk S (hs.k.trans I.kind) N (λy hy=>uR y (L.pm.mem_iff.mp (ã (Ģ.mp hy) (Ź _) λhy=>ŧ _ (ŭ hy)))) (by rw[L.len];show C8) (by rw[L.len,Ŭ,Ŵ ht,ab7 Rn]) L1 λZ' vD Db L3=>ck Ķ (step (λj j q=>q) (Z':=Z') (R':=R'.drop (force-n)) (z' C8 Rn) (hs.trans Db) ?_));have pm:=L3.pm;rw[Ĵ]at pm;show⟨by rw[L3.arr,Ĵ,afl],L3.len,L3.so,?_,λy hy z hz=>?_,sp.2.1⟩
  ·show(pm.append_right _).trans ?_
   rw[ÿ,PK];show L.pm
  ·show ã (Ģ.mp (pm.mem_iff.mp hy)) (λhy=>L.bf y hy z (ϛ hz)) λhy=>sp.2.2 y hy z hz
 ·show JG q.2 λBs R I hl ha hx=>⟨Bs,?_⟩
  have h2:a₀.length<=(bn Bs).length:=ã hx (λh=>by rw[ϲ (Ĥ _)]at h;show hl▸h) λh=>hl▸h;rw[I.none h2]at I;show I
 ·rw[q.1]
  show W' q.2 λBs I=>?_;have ca:=I.len;show Í (Ė (ä (I:=λx (d:VS) da=>d.1=Ã/\∃Bs,mC zb zo zk a₀ Bs [] da/\(Bs.length+x<=a₀.length+1\/Bs.length<=1)) (Q:=λ(d:VS) da=>d.1=Ã/\∃Bs,mC zb zo zk a₀ Bs [] da/\Bs.length<=1) (λx d da j hx q=>?_) (λd da q=>⟨q.1,?_⟩) ⟨N,Bs,I,.inl (ſ (ca▸wz λb hb=>(I.ok b hb).pos))⟩) λd da q=>?_)
  ·show aF q.2 λBs I hl=>Í (Ĭ ?_)
   unfold Nd;rw[I.size];show cD (λh1=>Ð ⟨N,Bs,I,h1⟩) λh1=>?_;have hl2:=ϕ.mp h1;have p2:=Sg hl2
   have pick:∀(c:Prop) [Decidable c],(if c then Bs.length-2-1 else Bs.length-2)+1<Bs.length:=λc j=>by
    split
    ·show ŷ (š (ŏ _ _)) p2
    ·show p2
   show Í (nQ S hU I (pick _) λpH vD I' h2=>ck Ķ (Ð ⟨N,pH,I',.inl ?_⟩));have jd:Bs.length+x<=a₀.length+1:=ã hl (λh=>h) λh=>absurd h h1;rw[<-h2,abQ]at jd;show jd
  ·show aF q.2 λBs I hl=>⟨Bs,I,ã hl (λh=>?_) λh=>h⟩
   rw[ϲ (Ĥ _),ϟ]at h;show acw h
  ·rw[q.1]
   show aF q.2 λBs I hl=>Ð ?_
   match Bs,I,hl with
   |[],I,_=>show h [] da .nil I.pm I.arr I.failed
   |[b],I,_=>
    have eF:bn [b]++[]=b.1:=by show (b.1++[])++[]=b.1;rw[Ĵ,Ĵ]
    show h b.1 da (I.ok b G').so (eF▸I.pm) (eF▸I.arr) I.failed
   |_::_::_,_,hl=>show absurd hl (ϕ.mpr (acK (ϒ _)))
end
theorem Iz{blt:Ë->Ë->Bool}{kd:ŵ}{Č:Ë->Prop}:AF A E s blt ord kd Č:=hk (P:=U7 AF) Er (A,E,s,blt,ord,kd,Č)
end Lar
namespace Lar
open PySem PyProof.Rows PySem.W
inductive yB(h:Ó):Ä->List Int->Prop
 |one (k:Int) (t:Tok):yB h (.int k t) [k]
 |two {a:È} (x y:Int) (t u:Tok):h.IsTuple a #[.int x t,.int y u]->yB h (.ref a) [x,y]
noncomputable def P2(h:Ó):Ä->List Int
 |.int k _=>[k]
 |.ref a=>match h.get? a with
  |some o=>match o.data with
   |.seq xs _=>xs.toList.map numOf
   |_=>[]
  |none=>[]
 |_=>[]
theorem yB.eq(x:yB h v l):P2 h v=l:=by
 cases x with
 |one=>rfl
 |two x y t u ht=>
  obtain ⟨o,ho,_,n,hd⟩:=ht
  show (match h.get? _ with
   |some o=>match o.data with
    |.seq xs _=>xs.toList.map numOf
    |_=>[]
   |none=>[])=_
  rw[ho];dsimp only;rw[hd];rfl
section
variable{A:Ñ}{E:Ä->Å->Prop}{s:Å}
theorem O1(hx:s.heap.IsTuple x #[.int a t,.int b u])(hy:s.heap.IsTuple y #[.int c v,.int d z])(h:Q (ch [a,b] [c,d]) s):
  É mo A (keyLt' (tuples' Æ) (.ref x) (.ref y)) Q E s:=by
 obtain ⟨ox,ZG,_,nx,Zh⟩:=hx;obtain ⟨oy,ZH,_,ny,Zi⟩:=hy;show kat_lt ZG Zh ZH Zi (kat_cons (wpAny_eqBool_int ?_));have e:ch [a,b] [c,d]=(decide (a<c)||(a==c&&(decide (b<d)||(b==d&&Ê)))):=rfl;rw[e]at h;cases hac:a==c with
 |true=>
  have UO:a=c:=beq_iff_eq.mp hac;show kat_yes (kat_cons (wpAny_eqBool_int ?_));rw[hac,UO,decide_eq_false (adf c),afy,adh]at h;cases hbd:b==d with
  |true=>have UP:b=d:=beq_iff_eq.mp hbd;rw[UP,decide_eq_false (adf d),adC,afy]at h;show kat_yes (kat_nil h)
  |false=>rw[adC,adg]at h;show kat_no (kat_one _ _ (lt_int h))
 |false=>rw[hac,Bool.false_and,adg]at h;show kat_no (oneLt_int h)
theorem Lp(hk:(n=1/\kd=oneType')\/(n=2/\kd=tuples' Æ)):
  SO A E s (λx y=>ch (P2 s.heap x.1) (P2 s.heap y.1)) kd (λx=>∃l,yB s.heap x.1 l/\l.length=n):=by
 show⟨λx y hx hy st Q fy hq=>?_,λx y=>mZ _ _,λx y z=>te _ _ _,λx y z=>m5 _ _ _⟩;obtain ⟨lx,kx,nx⟩:=hx;obtain ⟨ly,ky,ny⟩:=hy;rw[kx.eq,ky.eq]at hq;rw[lt'_eq];show Í (Ĭ ?_);rw[fy];obtain ⟨vx,ix⟩:=x;obtain ⟨vy,iy⟩:=y;rcases hk with ⟨rfl,rfl⟩|⟨rfl,rfl⟩
 ·cases kx with
  |two _ _ _ _ _=>show nomatch nx
  |one k t=>
   cases ky with
   |two _ _ _ _ _=>show nomatch ny
   |one k' t'=>rw[keyLt'_oneType];show Í (ķ (İ (oneLt_int ⟨N,Ð ?_⟩)));have e:ch [k] [k']=(decide (k<k')||(k==k'&&Ê)):=rfl;rw[e,adC,adg]at hq;show hq
 ·cases kx with
  |one _ _=>show nomatch nx
  |two a b t u hx=>
   cases ky with
   |one _ _=>show nomatch ny
   |two c d v z hy=>show Í (ķ (İ (O1 hx hy ⟨N,Ð hq⟩)))
end
end Lar
namespace Lar
open PySem PyProof.Rows PySem.Calls PySem.SeqAt
theorem uJ(hk:sh v=À l)(x:VR gg J h v a):yB h a l/\((l.length=1/\∃k t,a=.int k t)\/(l.length=2/\∃c o xs n k t,a=.ref c/\h.get? c=À o/\o.cls=.type "tuple"/\o.data=.seq xs n/\xs[0]?=À (.int k t))):=by
 revert hk;apply VR.el x
 case int=>
  intro i t hk;apply dC hk;show⟨.one i t,.inl ⟨rfl,i,t,rfl⟩⟩
 case tup=>
  intro m c vs ht hz hv hn hk
  match m,hk,hv with
  |[],hk,_=>show no hk
  |[_],hk,_=>show no hk
  |_::_::_::_,hk,_=>show no hk
  |[p,q],hk,hv=>show bW (m:=px p) hk λi hi hk=>bW hk λj hj hk=>?_;apply dC hk;show fu (vq hv) λap aq q3 hp hq=>?_;subst q3;show W' (vI hi hp) λt q2=>?_;subst q2;show W' (vI hj hq) λu q2=>?_;subst q2;show⟨.two i j t u ht,.inr ⟨rfl,?_⟩⟩;obtain ⟨o,ho,hc,n,hd⟩:=ht;show⟨c,o,_,n,i,t,rfl,ho,hc,hd,rfl⟩
 case none=>intro hk;show no hk
 case bool=>intro _ hk;show no hk
 case str=>intro _ _ hk;show no hk
 case ref=>intro _ _ _ hk;show no hk
 case ro=>intro _ _ _ _ _ _ hk;show no hk
inductive dq:List V->List KP->Prop
 |nil:dq [] []
 |cons {v:V} {p:KP} {vs:List V} {ps:List KP}:sh v=À p.1->dq vs ps->dq (v::vs) (p::ps)
section
variable{A:Ñ}{E:Ä->Å->Prop}{J:List È}{H:ag}{s:Å}
structure SB(J:List È)(H:ag)(Þ:Å)(a kS:È)(e1:Nat)(kvs:List V)(i:Nat)(s':Å):Prop where
 S:SE J Þ.heap J s'.heap
 R:ar gg J H s'.heap
 T:bJ Þ s'
 ha:s'.heap.get? a=À (å "list" #[] e1)
 hk:∃kA e,s'.heap.get? kS=À (å "list" kA e)/\bq gg J s'.heap (kvs.take i) kA.toList
def Qj(J:List È)(H:ag)(v:V)(s':Å)(k:Ä)(pb:Å):Prop:=SE J s'.heap J pb.heap/\ar gg J H pb.heap/\bJ s' pb/\VR gg J pb.heap v k
theorem rk(hc:c = "list"):¬ j0 (å c xs n):=by apply aW hc;show gK N
theorem SE.mvOne(S:SE J aZ J h)(R':ar gg J H h')(hs:Heap.SameBut a h h')(h0:aZ.get? a=Ã):SE J aZ J h':=
 cU.mv (wr:=[a]) S R' (λb o hb z e=>hs.extBut b o (by simpa using hb) e) (λz q=>q) (by simpa using h0)
theorem pY(R:ar gg J H h)(hs:Heap.SameBut a h h')(ho:h.get? a=À (å "list" xs n))(ha:a∉J)(hB:gg.B.get? a=Ã):ar gg J H h':=
 R.other ha hB (λb o hb e=>hs.extBut b o hb e) λo e=>by rw[ho]at e;cases e;show rk N
theorem LB(hs:Heap.SameBut a h h')(ho:h.get? a=À (å "list" xs n))(x:bq gg J h l vs):bq gg J h' l vs:=
 x.stepT (λz z e=>e) λb o e hh hn=>⟨hs.extBut b o (by rintro rfl;rw[ho]at e;cases e;show rk rfl hh) e,hn⟩
theorem GO{Þ:Å}{a kS:È}{e1:Nat}{kvs:List V}{st:Ò}{out:List V}{P:PySem.Fin->Å->Prop}(K:SB J H Þ a kS e1 kvs kvs.length s)(Bb:kS≠a)(oj:a∉J)(wO:kS∉J)(Gh:Þ.heap.get? a=Ã)(mS:Þ.heap.get? kS=Ã)(J2:gg.B.get? a=Ã)(Ox:gg.B.get? kS=Ã)
  (hz:kvs.length<=10000000) (fy:(Û st).size=kvs.length) (hf:ë st=Ã) (OE:∀h,bq gg J h out ((Û st).map (·.2)).toList)
  (h:∀h' tk c,SE J Þ.heap J h'->ar gg J H h'->bJ Þ {s with heap:=h',toks:=tk}->h'.get? a=À (å "list" ((Û st).map (·.2)) c)->P (.done (.ret .none)) {s with heap:=h',toks:=tk}) :
  É mo A (ksk_tail a Ê e1 (.ref kS) st) P E s:=by
 show gq K.hk λkA e hk r9=>?_
 have ca:kA.size<=kvs.length:=by have h1:=r9.length;rw[ŋ]at h1;rw[h1,Ž];show Đ _
 have sl:(10000000:Nat)<=ê:=ab0 rfl;have s1:=Heap.SameBut.update s.heap kS (Obj.mapSeq λz=>(#[]:Array Ä));have R1:=pY K.R s1 hk wO Ox;have S1:=SE.mvOne K.S R1 s1 mS;have Tt:(s.heap.update kS (Obj.mapSeq λz=>(#[]:Array Ä))).get? a=À (å "list" #[] e1):=(s1.2 a Bb.symm).trans K.ha;have s2:=Heap.SameBut.update (s.heap.update kS (Obj.mapSeq λz=>(#[]:Array Ä))) a (Obj.mapSeq λz=>(Û st).map (·.2));have R2:=pY R1 s2 Tt oj J2;have S2:=SE.mvOne S1 R2 s2 Gh;obtain ⟨c2,PM⟩:∃c2,((s.heap.update kS (Obj.mapSeq λz=>(#[]:Array Ä))).update a (Obj.mapSeq λz=>(Û st).map (·.2))).get? a=À (å "list" ((Û st).map (·.2)) c2):=⟨_,get?_update_seq Tt λz=>(Û st).map (·.2)⟩;unfold ksk_tail
 try dsimp only
 show Â (Œ hk N (Â (Ĕ (Â (seqEpoch_at Tt N (Â (Œ Tt N ?_ (Ĥ _) (z' (ŕ (Array.size_map ..)) (ſ (z' (ŕ fy) (z' hz sl)))))))))) (z' ca (z' hz sl)) (Ĥ _));rw[hf]
 simp only[bne_self_eq_false,abR,if_false]
 show Ç (h _ _ c2 S2 R2 (K.T.trans ⟨N,N,N⟩) PM)
end
end Lar
namespace Lar
open PySem PyProof.Rows PySem.Calls PySem.SeqAt PySem.W
noncomputable def kg(ps:List KP):List V:=ps.map λp=>.int p.2
noncomputable def KO(x:Ë):Nat:=(numOf x.2).toNat
def zP(h:Ó)(x:Ë):KP:=(P2 h x.1,numOf x.2)
theorem xt:∀{ns:List Int} {a:Int},gm a ns=Æ->∀n∈ns,a<n
 |m::r,a,h,n,hn=>by
  show aO (Ľ.mp (show (decide (a<m)&&gm m r)=Æ from h)) λh1 h2=>?_;have h1:=of_decide_eq_true h1;rcases Ĉ.mp hn with rfl|hn
  ·show h1
  ·show ac8 h1 (xt h2 n hn)
theorem Io(h:-1<a)(Ms:a<b):a.toNat<b.toNat:=by show jT (y4 0x1c2311b1010b2112b03 N Ms (adD _) (ϡ (y1 0xc00811b0e1808 N h)))
theorem w6{a b:Int}(h:a.toNat<b.toNat):a<b:=aep.mp λq=>absurd h (ľ.mpr (Int.toNat_le_toNat q))
theorem wU(x:ñ vs ns)(h:v∈vs):∃m∈ns,∃u,v=.int m u:=by
 induction x with
 |nil=>show nomatch h
 |cons n t hr ih=>show(Ĉ.mp h).elim (λe=>⟨n,G',t,e⟩) λh=>aF (ih h) λm hm e=>⟨m,J' _ hm,e⟩
theorem CA(x:ñ vs ns):∀{ks:List Ä} {a:Int},ks.length=vs.length->gm a ns=Æ->-1<=a->(ks.zip vs).Pairwise λx y=>KO x<KO y:=by
 induction x with
 |nil=>intro ks a hl _ _;rw[ϰ.mp hl];show .nil
 |@cons n t vs ns hr ih=>
  intro ks a hl h ha;cases ks with
  |nil=>show nomatch hl
  |cons k ks=>show aO (Ľ.mp (show (decide (a<n)&&gm n _)=Æ from h)) λh1 h2=>?_;have h1:=of_decide_eq_true h1;have hn:-1<n:=adm ha h1;show Ō.mpr ⟨λy hy=>aF (wU hr (ϗ hy).2) λm hm q=>W' q λu hu=>?_,ih (ad2.inj hl) h2 (acQ hn)⟩;show n.toNat<(numOf y.2).toNat;rw[hu];show Io hn (xt h2 m hm)
section
variable{A:Ñ}{E:Ä->Å->Prop}{J:List È}{H:ag}{s:Å}
theorem Dg(h:ñ vs (n::ns)):∃t us,vs=.int n t::us/\ñ us ns:=by
 cases h with
 |cons _ t h=>show⟨t,_,N,h⟩
theorem GQ(x:dq kvs ps):∀{ks vs:List Ä},bq gg J h kvs ks->ñ vs (ps.map (·.2))->(ks.zip vs).map (zP h)=ps:=by
 induction x with
 |nil=>intro ks vs y _;rw[y.nilE];rfl
 |cons hk hr ih=>intro ks vs y hI;show y.consE λa us q hv Kb=>gq (Dg hI) λt us q3 YJ=>?_;rw[q,q3,ado,ř,ih Kb YJ];show congrArg (·::_) (Prod.ext (uJ hk hv).1.eq N)
theorem Kr(x:dq kvs ps):∀{ks vs:List Ä},bq gg J h kvs ks->(∀p∈ps,p.1.length=n)->∀x∈ks.zip vs,∃l,yB h x.1 l/\l.length=n:=by
 induction x with
 |nil=>intro ks vs y _ x hx;rw[y.nilE]at hx;show nomatch hx
 |@cons v p vs ps hk hr ih=>
  intro ks ws y hn x hx;show y.consE λa us q hv Kb=>?_;rw[q]at hx;cases ws with
  |nil=>show nomatch hx
  |cons w ws=>show(Ĉ.mp hx).elim (λe=>⟨p.1,?_,hn p G'⟩) (ih Kb (λq hq=>hn q (J' _ hq)) x);rw[e];show(uJ hk hv).1
theorem Dm(x:dq kvs ps):∀{ks:List Ä},bq gg J h kvs ks->(∀p∈ps,p.1.length=1)->∃kz,ñ ks kz:=by
 induction x with
 |nil=>intro ks y _;rw[y.nilE];show⟨[],.nil⟩
 |@cons v p vs ps hk hr ih=>
  intro ks y hn;show y.consE λa us q hv Kb=>?_;rw[q];show W' (ih Kb λq hq=>hn q (J' _ hq)) λkz h1=>?_;rcases (uJ hk hv).2 with ⟨_,k,t,rfl⟩|⟨h2,_⟩
  ·show⟨k::kz,.cons k t h1⟩
  ·show nomatch h2.symm.trans (hn p G')
theorem Dn(x:dq kvs ps):∀{ks:List Ä},bq gg J h kvs ks->(∀p∈ps,p.1.length=2)->∃fs,KatTups h ks fs/\fs.length=ks.length/\∀v∈fs,∃k t,v=Value.int k t:=by
 induction x with
 |nil=>intro ks y _;rw[y.nilE];show⟨[],trivial,N,λz h=>nomatch h⟩
 |@cons v p vs ps hk hr ih=>
  intro ks y hn;show y.consE λa us q hv Kb=>?_;rw[q];show dN (ih Kb λq hq=>hn q (J' _ hq)) λfs h1 h2 h3=>?_;rcases (uJ hk hv).2 with ⟨h2,_⟩|⟨_,c,o,xs,n,k,t,rfl,ho,hc,hd,h0⟩
  ·show nomatch h2.symm.trans (hn p G')
  ·show⟨.int k t::fs,KatTups.cons ho hc hd h0 h1,congrArg (·+1) h2,λv hv=>(Ĉ.mp hv).elim (λe=>⟨k,t,e⟩) (h3 v)⟩
theorem Kq(h:sh v=À l):l.length=1\/l.length=2:=by
 cases v with
 |int i=>apply dC h;show .inl N
 |tup m=>
  match m,h with
  |[],h=>show no h
  |[_],h=>show no h
  |_::_::_::_,h=>show no h
  |[p,q],h=>show bW (m:=px p) h λi hi h=>bW h λj hj h=>?_;apply dC h;show .inr N
 |none=>show no h
 |bool _=>show no h
 |str _=>show no h
 |ref _=>show no h
 |ro _=>show no h
theorem uK(h:dq kvs ps)(hs:gG ps=Æ)(eJ:0<ps.length):∃n,(n=1\/n=2)/\∀p∈ps,p.1.length=n:=by
 cases h with
 |nil=>show absurd eJ (ţ _)
 |@cons v p vs ps hk hr=>show⟨p.1.length,Kq hk,λq hq=>?_⟩;have h1:=Ϧ.mp hs p G';have h2:=Ϧ.mp h1 q hq;show(beq_iff_eq.mp h2).symm
theorem cG(x:dq kvs ps):kvs.length=ps.length:=by
 induction x with
 |nil=>rfl
 |cons _ _ ih=>show congrArg (·+1) ih
theorem BB:∀{Ø:List Ë},(∀x∈Ø,∃n t,x.2=.int n t)->bq gg J h' (kg (Ø.map (zP h))) (Ø.map (·.2))
 |[],_=>.nil
 |x::Ø,hx=>by show mM (hx x G') λn t e=>.cons ?_ (BB λy hy=>hx y (J' _ hy));show VR gg J h' (.int (numOf x.2)) x.2;rw[e];show .int n t
theorem KZ{h:Ó}{x y:Ë}(hr:rr (λx y=>ch (P2 h x.1) (P2 h y.1)) KO x y=Æ):nV (zP h x) (zP h y):=by
 show Bp ?_;unfold lc zP;show ã (dK.mp hr) (λhr=>?_) (λq=>aO q λh1 h2=>?_)
 ·rw[hr];rfl
 ·rw[h1,decide_eq_true (w6 h2)]
  show afF _
theorem yp(OW:Array Ä)(vs:List Ä):(OW.zip vs.toArray).toList=OW.toList.zip vs:=ksk_zip OW vs
end
def mW(A:Ñ)(E:Ä->Å->Prop)(J:List È)(H:ag)(s:Å)(Þ:Å)(a:È)(kS:È)(e1:Nat)(e:Nat)(kvs:List V)(ps:List KP)(kA:Array Ä)(vs:List Ä)(P:PySem.Fin->Å->Prop):Prop:=∀(K:SB J H Þ a kS e1 kvs kvs.length s) (PR:s.heap.get? kS=À (å "list" kA e)) (r9:bq gg J s.heap kvs kA.toList) (pP:dq kvs ps) (hI:ñ vs (ps.map (·.2))) (hr:gm (-1) (ps.map (·.2))=Æ) (s5:gG ps=Æ) (Bb:kS≠a) (oj:a∉J) (wO:kS∉J) (Gh:Þ.heap.get? a=Ã) (mS:Þ.heap.get? kS=Ã) (J2:gg.B.get? a=Ã) (Ox:gg.B.get? kS=Ã) (hz:kvs.length<=10000000) (h:∀h' tk c ws,SE J Þ.heap J h'->ar gg J H h'->bJ Þ {s with heap:=h',toks:=tk}->h'.get? a=À (å "list" (adt ws) c)->bq gg J h' (kg (fo ps)) ws->P (.done (.ret .none)) {s with heap:=h',toks:=tk}),É mo A (ksk_end a Ê vs.toArray e1 (.ref kS) kA) P E s
namespace key_endH
def kc:=hc (yx mW) ({},λz z=>True,[],[],dS,dS,0,0,0,0,[],[],#[],[],λz z=>True)
def A:=kc.1
def E:=kc.2.1
def J:=kc.2.2.1
def H:=kc.2.2.2.1
def s:=kc.2.2.2.2.1
def Þ:=kc.2.2.2.2.2.1
def a:=kc.2.2.2.2.2.2.1
def kS:=kc.2.2.2.2.2.2.2.1
def e1:=kc.2.2.2.2.2.2.2.2.1
def e:=kc.2.2.2.2.2.2.2.2.2.1
def kvs:=kc.2.2.2.2.2.2.2.2.2.2.1
def ps:=kc.2.2.2.2.2.2.2.2.2.2.2.1
def kA:=kc.2.2.2.2.2.2.2.2.2.2.2.2.1
def vs:=kc.2.2.2.2.2.2.2.2.2.2.2.2.2.1
def P:=kc.2.2.2.2.2.2.2.2.2.2.2.2.2.2
theorem kt:mW A E J H s Þ a kS e1 e kvs ps kA vs P:=by
 intro K PR r9 pP hI hr s5 Bb oj wO Gh mS J2 Ox hz h;have hl1:kA.toList.length=vs.length:=by rw[<-r9.length,cG pP,hI.length,H']
 have Oz:vs.length=kvs.length:=by rw[<-hl1,<-r9.length]
 have C7:=GQ pP r9 hI
 have hint:∀x∈kA.toList.zip vs,∃n t,x.2=.int n t:=λx hx=>by obtain ⟨m,_,u,e⟩:=wU hI (ϗ hx).2;show⟨m,u,e⟩
 have hW:∀(st:Ò) (Ø:List Ë),(Û st).toList=Ø->Ø.Perm (kA.toList.zip vs)->Ø.map (zP s.heap)=fo ps->ë st=Ã->É mo A (ksk_tail a Ê e1 (.ref kS) st) P E s:=λst Ø hZ hp hm hf=>by
  have YY:∀x∈Ø,∃n t,x.2=.int n t:=λx hx=>hint x (hp.mem_iff.mp hx)
  have OE:∀h',bq gg J h' (kg (fo ps)) ((Û st).map (·.2)).toList:=λh'=>by rw[Array.toList_map,hZ,<-hm];show BB YY
  show GO K Bb oj wO Gh mS J2 Ox hz ?_ hf OE λh' tk c S' R' T' ho=>h h' tk c ((Û st).map (·.2)).toList S' R' T' ((ac5)▸ho) (OE h');rw[<-Ž,hZ,hp.length_eq,adl,hl1,aeX,Oz]
 unfold ksk_end
 try dsimp only
 rw[if_neg Ķ];by_cases h2:vs.toArray.size<2
 ·rw[if_pos h2,if_pos h2]
  show Â (Ç ?_);rw[StateT.run_pure];show Â (Ç ?_)
  try dsimp only
  rw[ų]at h2;show hW (SortSt.mk' general' (kA.zip vs.toArray) #[] 7 Ã) (kA.toList.zip vs) (yp kA vs) (.refl _) ?_ N;rw[C7];have VN:ps.length<2:=by rw[<-cG pP,<-Oz];show h2
  match ps,VN with
  |[],_=>rfl
  |[p],_=>rfl
  |_::_::_,h=>show absurd h (by simp only[ϧ];show λq0=>zI (y3 0x1c080810b00813ba180113ba181211b282 rfl (iP _) (iA _ _) (iA _ _) (iT q0)))
 ·rw[if_neg h2,if_neg h2]
  rw[ų]at h2;have eJ:0<ps.length:=by rw[<-cG pP,<-Oz];show jT (y1 0x1c00810b028 N (iL (ľ.mp h2)))
  show aF (uK pP s5 eJ) λn hn J4=>?_
  have run:∀kd:ŵ,((n=1/\kd=oneType')\/(n=2/\kd=tuples' Æ))->É mo A (do
    let ((),st) <-sortRuns'.run (SortSt.mk' kd (kA.zip vs.toArray) #[] 7 Ã)
    ksk_tail a Ê e1 (.ref kS) st) P E s:=λkd lC=>by
   show Â (Ï (Iz (E:=E) (ord:=KO) (Lp lC) (a₀:=kA.toList.zip vs) (st:=SortSt.mk' kd (kA.zip vs.toArray) #[] 7 Ã)
    (Q:=λz Ú=>∃Ø:List Ë,(Û Ú).toList=Ø/\Ø.Perm (kA.toList.zip vs)/\Ø.map (zP s.heap)=fo ps/\ë Ú=Ã) (Kr pP r9 J4) N N N (yp kA vs) (CA hI hl1 hr (Ř _)) λØ Ú hs hp ha hf=>⟨Ø,ha,hp,?_,hf⟩) ?_ λz z x=>x)
   ·show xO ?_ ?_
    ·rw[<-C7];show hp.map _
    ·rw[aee]
     show hs.imp KZ
   ·rintro ⟨⟨⟩,Ú⟩ s' ⟨rfl,Ø,hZ,hp,hm,hf⟩
    show hW Ú Ø hZ hp hm hf
  rcases hn with rfl|rfl
  ·show W' (Dm pP r9 J4) λkz Zv=>?_
   rw[ksk_kind Zv (by rw[<-Ž,hl1];show ľ.mp h2)];show Â (Ç (run _ (.inl ⟨N,N⟩)))
  ·show dN (Dn pP r9 J4) λfs ht S3 Zm=>?_
   rw[show kA=kA.toList.toArray from (ac5 (xs:=kA)).symm];show Â (kat_kind (T:=.type "int") ht (by rw[S3,hl1];show jT (y1 0x1c00810b028 N (iL (ľ.mp h2)))) (λv hv=>?_) (by decide) ?_)
   ·show mM (Zm v hv) λk t q3=>?_;apply aW q3
    show Looks.of_pure N
   ·have:=run (tuples' Æ) (.inr ⟨N,N⟩)
    rw[show kA=kA.toList.toArray from (ac5 (xs:=kA)).symm]at this;show this
end key_endH
theorem Kp{P:PySem.Fin->Å->Prop}{vs:List Ä}{kA:Array Ä}:mW A E J H s Þ a kS e1 e kvs ps kA vs P:=hk (P:=yx mW) key_endH.kt (A,E,J,H,s,Þ,a,kS,e1,e,kvs,ps,kA,vs,P)
section
variable{A:Ñ}{E:Ä->Å->Prop}{J:List È}{H:ag}{s:Å}
theorem bq.snoc(x:bq gg J h l vs)(y:VR gg J h v a):bq gg J h (l++[v]) (vs++[a]):=x.append (.one y)
def AC(A:Ñ)(J:List È)(H:ag)(Þ:Å)(f:Ä)(ps:List KP)(kvs:List V):Prop:=
 ∀(j:Nat) (p:KP) (kv:V) (t:Tok),ps[j]?=À p->kvs[j]?=À kv->∀s':Å,SE J Þ.heap J s'.heap->ar gg J H s'.heap->bJ Þ s'->∀E,É mo A (Á f [.int p.2 t]) (Qj J H kv s') E s'
theorem GN{Þ:Å}{a kS:È}{e1:Nat}{kvs:List V}{ps:List KP}{vs:List Ä}{f:Ä}{P:PySem.Fin->Å->Prop}(K:SB J H Þ a kS e1 kvs 0 s)(pP:dq kvs ps)(hI:ñ vs (ps.map (·.2)))(hr:gm (-1) (ps.map (·.2))=Æ)(s5:gG ps=Æ)
  (Bb:kS≠a) (oj:a∉J) (wO:kS∉J) (Gh:Þ.heap.get? a=Ã) (mS:Þ.heap.get? kS=Ã) (J2:gg.B.get? a=Ã) (Ox:gg.B.get? kS=Ã) (hz:kvs.length<=10000000)
  (yh:AC A J H Þ f ps kvs)
  (h:∀s' c ws,SE J Þ.heap J s'.heap->ar gg J H s'.heap->bJ Þ s'->s'.heap.get? a=À (å "list" (adt ws) c)->bq gg J s'.heap (kg (fo ps)) ws->P (.done (.ret .none)) s') :
  É mo A (ksk_rest a f Ê vs.toArray e1 (.ref kS)) P E s:=by
 have hl:vs.length=kvs.length:=by rw[hI.length,H',cG pP]
 have sl:(10000000:Nat)<=ê:=ab0 N;unfold ksk_rest;show Â (ú ?_);rw[List.forIn_toArray];show Â (ksk_fold (λi s'=>SB J H Þ a kS e1 kvs i s') vs 0 s K ?step ?done)
 case step=>
  intro j x s' hx K';rw[ż]at K' ⊢;have hj:j<kvs.length:=by rw[<-hl];show(Ġ.mp hx).1
  have Mx:kvs[j]?=À kvs[j]:=ē hj;have Xr:j<ps.length:=(cG pP)▸hj
  obtain ⟨t,rfl⟩:∃t,x=.int ps[j].2 t:=by show W' (dE hI hx) λt e=>?_;rw[į,ē Xr]at e;show⟨t,e⟩
  show Â (İ (Ï (yh j ps[j] kvs[j] t (ē Xr) Mx s' K'.S K'.R K'.T _) (λk pb hk=>?_) λz z x=>x));show EC hk λS2 R2 T2 V2=>?_;dsimp only;show gq K'.hk λkA e PR r9=>?_;have J9:pb.heap.get? kS=À (å "list" kA e):=(S2.pres _ _ PR wO).seq rfl;have YZ:pb.heap.get? a=À (å "list" #[] e1):=(S2.pres _ _ K'.ha oj).seq rfl;have Vy:=r9.step K'.R S2;have s1:=Heap.SameBut.update pb.heap kS (Obj.mapSeq (·.push k));obtain ⟨c2,PM⟩:∃c2,(pb.heap.update kS (Obj.mapSeq (·.push k))).get? kS=À (å "list" (kA.push k) c2):=⟨_,get?_update_seq J9 (·.push k)⟩
  have hsz:kA.size<=10000000:=by have h1:=r9.length;have h2:kA.toList.length=kA.size:=Ž;rw[Ŭ]at h1;show z' (ŕ (h2.symm.trans h1.symm)) (z' (acL _ _) hz)
  have R3:=pY R2 s1 J9 wO Ox;show Â (Œ J9 N (Ç ⟨N,SE.mvOne (K'.S.trans S2) R3 s1 mS,R3,(K'.T.trans T2).trans ⟨N,N,N⟩,(s1.2 a Bb.symm).trans YZ,kA.push k,c2,PM,?_⟩) (z' hsz sl) (z' (ŕ (afi ..)) (š (z' hsz sl))));rw[adw,Mx,acZ];show LB s1 J9 (Vy.snoc V2)
 case done=>
  intro s' K';rw[ż,hl]at K';show gq K'.hk λkA e PR r9=>?_;rw[ŋ]at r9;show Â (listItems_at PR N (Kp K' PR r9 pP hI hr s5 Bb oj wO Gh mS J2 Ox hz λh' tk c ws a1 a2 a3 a4 a5=>h _ c ws a1 a2 a3 a4 a5))
theorem Pl{Þ:Å}{h h':Ó}(S:SE J Þ.heap J h)(hk:∀b o,h.get? b=À o->h'.get? b=À o):SE J Þ.heap J h':=SE.trans S (SE.keeps _ hk)
theorem GP{Þ:Å}{a:È}{n:Nat}{kvs:List V}{ps:List KP}{vs:List Ä}{f:Ä}{P:PySem.Fin->Å->Prop}(S:SE J Þ.heap J s.heap)(R:ar gg J H s.heap)(T:bJ Þ s)(ho:s.heap.get? a=À (å "list" vs.toArray n))(pP:dq kvs ps)(hI:ñ vs (ps.map (·.2)))(hr:gm (-1) (ps.map (·.2))=Æ)(s5:gG ps=Æ)
  (oj:a∉J) (Gh:Þ.heap.get? a=Ã) (J2:gg.B.get? a=Ã) (hz:kvs.length<=10000000)
  (yh:AC A J H Þ f ps kvs)
  (h:∀s' c ws,SE J Þ.heap J s'.heap->ar gg J H s'.heap->bJ Þ s'->s'.heap.get? a=À (å "list" (adt ws) c)->bq gg J s'.heap (kg (fo ps)) ws->P (.done (.ret .none)) s') :
  É mo A (ksk_tree a f Ê) P E s:=by
 have hl:vs.length=kvs.length:=by rw[hI.length,H',cG pP]
 have sl:(10000000:Nat)<=ê:=ab0 N;have Tf:vs.length<=ê:=by rw[hl];show z' hz sl
 have s1:=Heap.SameBut.update s.heap a (Obj.mapSeq λz=>(#[]:Array Ä));obtain ⟨e1,S9⟩:∃e1,(s.heap.update a (Obj.mapSeq λz=>(#[]:Array Ä))).get? a=À (å "list" #[] e1):=⟨_,get?_update_seq ho λz=>#[]⟩;have R1:=pY R s1 ho oj J2;have S1:=SE.mvOne S R1 s1 Gh;generalize hh1:s.heap.update a (Obj.mapSeq λz=>(#[]:Array Ä))=h1 at s1 S9 R1 S1;have uw:∀b o,h1.get? b=À o->((h1.push (å "tuple" vs.toArray 0)).push (å "list" #[] 0)).get? b=À o:=λb o e=>N' _ (N' _ e);have Zu:(h1.push (å "tuple" vs.toArray 0)).objs.size=h1.objs.size+1:=size_push' ..;have Gu:h1.get? (h1.push (å "tuple" vs.toArray 0)).objs.size=Ã:=abD (by rw[Zu];show ϝ _);unfold ksk_tree;show Â (listItems_at ho rfl (Â (Œ ho rfl ?_ (by rw[ų];show Tf) (Ĥ _))));rw[hh1];show Â (seqEpoch_at S9 rfl (Â (wpAny_newTuple (Â (wpAny_newList (à ?_) (Ĥ _))) Tf)));have R3:ar gg J H ((h1.push (å "tuple" vs.toArray 0)).push (å "list" #[] 0)):=R1.keeps uw;show GN (s:={s with heap:=(h1.push (å "tuple" vs.toArray 0)).push (å "list" #[] 0)}) (Þ:=Þ) (kS:=(h1.push (å "tuple" vs.toArray 0)).objs.size) ⟨Pl S1 uw,R3,T.trans ⟨rfl,rfl,rfl⟩,uw _ _ S9,#[],0,Ł _ rfl,.nil⟩ pP hI hr s5 ?_ oj ?_ Gh ?_ J2 ?_ hz yh h
 ·intro q
  rw[q,S9]at Gu;cases Gu
 ·show aX R1 Gu
 ·show S1.back Gu
 ·show aV R1 Gu
theorem Al(R:ar gg J H s.heap)
  (UX:∀(Q:List Ä->Å->Prop),(∀h' tk vs,(∀b o,s.heap.get? b=À o->h'.get? b=À o)->ñ vs (ps.map (·.2))->Q vs {s with heap:=h',toks:=tk})->É mo A.in1 (collect src) Q E s)
  (pP:dq kvs ps) (hr:gm (-1) (ps.map (·.2))=Æ) (s5:gG ps=Æ) (hz:kvs.length<=10000000) (yh:AC A.in1.in1 J H s (.ref q) ps kvs) :
  É mo A (Á (.builtin "sorted") [src] [(ϸ "key",.ref q)]) (bA gg J s (.ref H.length) (H++[.lst (kg (fo ps))])) E s:=by
 have sl:(10000000:Nat)<=ê:=ab0 N;show call_function_entry_kw kind_sorted plain_sorted entry_sorted (ksk_s1 _ _) ?_;unfold Ď.«sorted»;show Â (m:=checkCount "sorted" 1 1 _) (Ç (Â (UX _ λh1 tk1 vs IW hI=>?_)));have hl:vs.length=kvs.length:=by rw[hI.length,H',cG pP]
 have Tf:vs.length<=ê:=by rw[hl];show z' hz sl
 show Â (wpAny_newList ?_ Tf);have uw:∀b o,s.heap.get? b=À o->(h1.push (å "list" vs.toArray 0)).get? b=À o:=λb o e=>N' _ (IW b o e);have PT:(h1.push (å "list" vs.toArray 0)).get? h1.objs.size=À (å "list" vs.toArray 0):=Ł _ N;have R1:=R.keeps IW;have Re:h1.get? h1.objs.size=Ã:=aH _;have Xq:s.heap.get? h1.objs.size=Ã:=fR IW Re;show Â (à (wpAny_call_entry_kw slot_list_sort ⟨_,PT,N⟩ entry_list_sort ?body (ksk_l1 _ _)))
 case body=>
  show É mo A.in1.in1 (Ď.«list.sort» ⟨[.ref h1.objs.size],[(ϸ "key",.ref q)]⟩) _ _ _;rw[ksk_t1];show GP (s:={s with heap:=h1.push (å "list" vs.toArray 0),toks:=tk1}) (Þ:=s) (SE.keeps _ uw) (R.keeps uw) ⟨N,N,N⟩ PT pP hI hr s5 (aX R1 Re) Xq (aV R1 Re) hz yh λs' c ws S' R' T' s0 V'=>⟨_,N,Ç ⟨_,N,(⟨J++[h1.objs.size],⟨S'.pres,S'.dom,[_],N,λb hb=>by rw[O'.mp hb];show Xq⟩,R'.more (aX R1 Re) (aV R1 Re) (.lst ⟨c,s0⟩ ?_ V') (λo e=>by apply fv (sm ((s0).symm.trans e));show rk N),.ref ?_,T'⟩)⟩⟩
  ·have:(kg (fo ps)).length=kvs.length:=by rw[kg,H',(fD ps).length_eq,cG pP]
   rw[this];show ſ (z' hz sl)
  ·rw[<-R.len];simp
theorem FA(hl:s.heap.IsList l vs.toArray)(hI:ñ vs ns)(hz:vs.length<=ê)
  (hQ:∀h' tk ws,(∀b o,s.heap.get? b=À o->h'.get? b=À o)->ñ ws ns->Q ws {s with heap:=h',toks:=tk}):É mo A (collect (.ref l)) Q E s:=by
 obtain ⟨o,ho,hc,n,hd⟩:=hl;show wpAny_collect_seq l (.inl rfl) ho hc hd (λh' hk=>hQ h' s.toks vs hk hI) hz
theorem Bk:∀(vs:List Ä) (ns:List Int),vs.length=ns.length->(∀(j:Nat) v,vs[j]?=À v->∃k t,ns[j]?=À k/\v=.int k t)->ñ vs ns
 |[],[],_,_=>.nil
 |[],_::_,h,_=>nomatch h
 |_::_,[],h,_=>nomatch h
 |v::vs,n::ns,h,hj=>by show gq (hj 0 v N) λk t e q4=>?_;apply aW q4;rw[Option.some.inj e];show .cons k t (Bk vs ns (ad2.inj h) λj v e=>hj (j+1) v e)
theorem CJ{r:È}{a b c:Int}{t u v:Tok}{n:Nat}{Q:List Ä->Å->Prop}(hh:A.handled=Ã)(hr:IsRange s.heap r a b c t u v)(zB:Builtin.Range.small a b c=Æ)(hn:Builtin.Range.rangeSize a b c=n)(hz:n<=2 ^ 24)
  (hQ:∀h' tk ws,(∀b o,s.heap.get? b=À o->h'.get? b=À o)->ñ ws ((ċ n).map λ(i:Nat)=>a+(i:Int)*c)->Q ws {s with heap:=h',toks:=tk}):É mo A (collect (.ref r)) Q E s:=by
 unfold collect;show Â (wpAny_runValue (é F.entry_proto_collect ?_));rw[Around.under_plainId F.plain_proto_collect _];show É _ A.in1 (newList []>>=λl=>again (.builtin "list.__iadd__" ⟨[l,.ref r],[]⟩)) _ _ s;show Â (ç (Ç ⟨Ć F.plain_list_iadd _,é F.entry_list_iadd ?_⟩));rw[Around.under_plainId F.plain_list_iadd _];show É _ A.in1 (Builtin.List.listExtendWith (.ref s.heap.objs.size) (.ref r) (.ref s.heap.objs.size)) _ _ _
 show wpAny_extend_range (A:=A) (R:=λr' s'=>match r' with
  |.ok (.ret v)=>É mo A (match v with
   |.ref a=>do match (<-load a).data with
    |.seq xs _=>pure xs.toList
    |_=>ğ "internal:collect"
   |_=>ğ "internal:collect") Q E s'
  |.ok _=>False
  |.error e=>E e s') hh (N' _ hr) zB hn hz s.heap.objs.size _ 0 (Ł _ N) λh' tk pr c' hk EG um=>?_
 show É _ A (load s.heap.objs.size>>=_) _ _ _;show Â (wpAny_load EG (Ç (hQ h' tk pr.toList (λb o e=>hk b o (ŉ (ō e)) (N' _ e)) ?_)));show Bk _ _ (by rw[Ž,H',Ś];show um.1) λj v hv=>?_;have hj:j<pr.size:=by rw[<-Ž];show(Ġ.mp hv).1
 show W' (um.2 j v ((Ϯ)▸hv)) λt e=>?_;show⟨a+(j:Int)*c,t,by rw[į,Ϭ ((um.1)▸hj)];rfl,e⟩
end
set_option tactic.hygienic true in
theorem yG:∀(l:List Ä),ĝ l->ĕ pos (l++[ô a,ô b,c])=À cv->ĕ pos l=À cv\/cv=c:=by
 intro l
 fun_induction ĝ l with
 |case1=>
  intro _ h;have h:(if ((a:Int)==pos.line&&(b:Int)==pos.col)=Æ then À c else ĕ pos [])=À cv:=h;split at h
  ·show .inr (Option.some.inj h).symm
  ·show .inl h
 |case2 i t j u x aD ih=>
  intro ht h;have h:(if (i==pos.line&&j==pos.col)=Æ then À x else ĕ pos (aD++[ô a,ô b,c]))=À cv:=h;show (if (i==pos.line&&j==pos.col)=Æ then À x else ĕ pos aD)=À cv\/_;split at h
  ·rename_i hc
   rw[if_pos hc];show .inl h
  ·rename_i hc
   rw[if_neg hc];show ih ht h
 |case3 l h1 h2=>intro ht;show ht.elim
theorem vp:∀(l:List Ä),ĝ l->ĝ (l++[ô a,ô b,c]):=by
 intro l
 fun_induction ĝ l with
 |case1=>show λz=>trivial
 |case2 i t j u x aD ih=>show λh=>ih h
 |case3 l h1 h2=>show λh=>h.elim
def lI(h:Ó)(c:È)(q:Str):Prop:=∃o vs t,h.get? c=À o/\o.cls=.type "code"/\o.data=.fields vs/\vs[1]?=À (.str q t)
theorem lI.rec(x:lI h c q):h.CodeRec (.ref c) q:=let ⟨o,vs,t,h1,_,h2,h3⟩:=x;⟨c,o,vs,t,N,h1,h2,h3⟩
section
variable{A:Ñ}{E:Ä->Å->Prop}{s:Å}{name qual:Str}{params:Ļ}{body:Ô}{scope:á}{Z:Env}{c P:È}{ps:Array Ä}{pos:Pos}{sU:Nat}{mg:Str->Option Ä}{Jw:List (Str×È)}{Q:Ä->Å->Prop}
theorem G3(zw:closureFor scope Z=pure Jw)(Rh:Z.globals=Ü)(UR:Z.builtins=ă)(hg:s.heap.Ns Ü mg)(A9:Z.code=.ref c)(C:CodeHd s.heap c P)(hP:s.heap.get? P=À (tabObj ps))(ht:ĝ ps.toList)(iq:∀pos cv,ĕ pos ps.toList=À cv->∃c',cv=.ref c'/\lI s.heap c' qual)
  (Vk:Ü≠P) (hb:s.heap.BuiltinsAt mg P)
  (h:∀c' CM h' tk Nh f pm,(∀b o,b≠P->s.heap.get? b=À o->h'.get? b=À o)->h'.get? P=À (tabObj Nh)->ĝ Nh.toList->(∀pos cv,ĕ pos Nh.toList=À cv->∃d,cv=.ref d/\(lI s.heap d qual\/(s.heap.get? d=Ã/\lI h' d qual))) ->
   (lI s.heap c' qual\/(s.heap.get? c'=Ã/\lI h' c' qual))->c'≠P->s.heap.get? f=Ã->h'.get? f=À (kla_obj name qual params body scope Jw pm c' CM)->Q (.ref f) {s with heap:=h',toks:=tk}) :
  É mo A (makeFunction name qual params (.expr body) scope Z [] [] [] pos sU) Q E s:=by
 rw[makeFunction_eq]
 simp only[aeR,List.filterMap_nil,ael,if_true,pure_bind]
 have Wm:∀{d:È},lI s.heap d qual->d≠P:=λ⟨o,vs,t,h1,h2,_⟩ e=>by rw[e,hP]at h1;cases h1;cases h2
 cases hf:ĕ pos ps.toList with
 |some cv=>
  show aF (iq pos cv hf) λc' q2 eU=>?_;subst q2
  show kla_makeTailHit zw Rh hg A9 C hP ht hf hb λCM h' tk hk hsz=>h c' CM _ tk ps _ _ (λb o z e=>N' _ (hk b o e)) (N' _ (hk _ _ hP)) ht (λpos cv e=>by show aF (iq pos cv e) λd h1 h2=>?_;show⟨d,h1,.inl h2⟩) (.inl eU) (Wm eU) (abD hsz) (Ł _ N)
 |none=>
  show Ux hb λbm ob Y5 VH Xk VI UT Gn k5=>?_;show aO k5 λlz Ra=>?_;unfold makeTail;rw[zw,Rh,UR];show Â (Ç ?_)
  have hW:∀(bF:Ó) (CM:Ä),(∀b o,s.heap.get? b=À o->bF.get? b=À o)->É mo A (do
    let code <-functionCode Z pos sU name qual params scope (.expr body)
    let bs <-builtinsFor Ü ă
    let O <-nsGet Ü "__name__"
    let doc <-(pure .none:Sem Ä)
    newObj (.type "function") (.func {name:=name,qualname:=qual,params,body:=.expr body,scope,globals:=Ü,closure:=Jw,closureTuple:=CM,code,builtins:=bs,defaults:=.none,kwdefaults:=.none,annotations:=Ã,pyModule:=O.getD .none,doc})) Q E {s with heap:=bF}:=λbF CM jc=>by
   show Â (wpAny_functionCodeX (s:={s with heap:=bF}) A9 ((C.keeps jc).code (jc _ _ hP) ht) ((C.keeps jc).tab (jc _ _ hP)) hf λc' h' tk hx lB cE hic VP ZX Da=>?_);have IV:h'.Ns Ü mg:=(hg.keeps jc).extBut hx Vk;show Â (wpAny_builtinsFor IV Y5 VH (hx _ _ VI (jc _ _ UT)) Gn lz Ra (Â (wpAny_nsGet IV ?_)));show wg Da λP' EF z k8 z=>?_;show JG k8 λo vs ho ZE hod z=>?_;show Uy VP λc2 o2 vs2 t2 e1 e2 e3 e4=>?_;cases e1;have eo:o=o2:=Option.some.inj (ho.symm.trans e2);subst eo;have fresh:s.heap.get? c'=Ã:=fR jc (abD lB);have om:∀oo,lI (h'.push oo) c' qual:=λoo=>⟨o,vs2,t2,N' _ ho,ZE,e3,e4⟩;show Â (Ç (ç (h c' CM _ tk _ h'.objs.size _ (λb o hb e=>N' _ (hx b o hb (jc b o e))) (N' _ ZX.2) ?_ (λPf cv e=>?_) (.inr ⟨fresh,om _⟩) ?_ ?_ (Ł _ N)) (by size_fits)))
   ·rw[Ÿ];show vp _ ht
   ·rw[Ÿ]at e
    rcases yG _ ht e with e|rfl
    ·show aF (iq Pf cv e) λd h1 h2=>⟨d,h1,.inl h2⟩
    ·show⟨c',N,.inr ⟨fresh,om _⟩⟩
   ·rintro rfl
    rw[fresh]at hP;show no hP
   ·have:bF.objs.size<=h'.objs.size:=z' lB (ī cE)
    show fR jc (abD this)
  cases Jw with
  |nil=>
   simp only[ael,if_true]
   show Â (Ç (hW s.heap .none λz z e=>e))
  |cons q r=>
   simp only[List.isEmpty_cons,abR,if_false]
   show Â (wpAny_newTextTuple (hW _ _ λb o e=>N' _ e))
end
theorem jR:∀{l:List Str} {vs:List α} {n:Str},l.length=vs.length->n∈l->((l.zip vs).lookup n).isNone=Ê
 |[],_,_,_,h=>nomatch h
 |a::l,[],_,e,_=>by simp at e
 |a::l,v::vs,n,e,h=>by
  rw[ado,ϊ];cases hb:n==a with
  |true=>rfl
  |false=>
   show ã (Ĉ.mp h) (λh=>?_) (λh=>?_)
   ·subst h;simp at hb
   ·show jR (by simpa using e) h
theorem sn{α:Type}{l:List Str}{vs:List α}(hl:l.length=vs.length)(hn:l.Nodup):l.filterMap (λn=>((l.zip vs).lookup n).map (n,·))=l.zip vs:=by
 induction l generalizing vs with
 |nil=>simp
 |cons a l ih=>
  cases vs with
  |nil=>simp at hl
  |cons v vs=>
   rw[ade]
   simp only[ado,ϊ,beq_self_eq_true,afj]
   have lU:=Ϥ.mp hn
   have gJ:∀(m:List Str),(∀n∈m,n≠a)->m.filterMap (λn=>((match n==a with|true=>À v|false=>(l.zip vs).lookup n):Option α).map (n,·))=m.filterMap (λn=>((l.zip vs).lookup n).map (n,·)):=by
    intro m hm
    induction m with
    |nil=>rfl
    |cons b m ihm=>
     have hb:(b==a)=Ê:=by simpa using hm b G'
     rw[ade,ade,hb,ihm λn hn=>hm n (J' _ hn)]
   show congrArg (List.cons (a,v)) ((gJ l (λn hn e=>lU.1 (e▸hn))).trans (ih (by simpa using hl) lU.2))
def tQ(name:Str)(qual:Str)(as:List Arg)(body:FuncBody)(scope:á)(gl:È)(clo:List (Str×È))(kwd:Ä)(doc:Ä)(pm:Ä)(an:Option È)(code:Ä)(ct:Ä)(bl:È)(cb:List Ä):Prop:=∀(hl:cb.length=as.length) (hn:(as.map (·.arg)).Nodup),bindArgs ⟨name,qual,⟨[],as,Ã,[],[],Ã,[]⟩,body,scope,gl,clo,.none,kwd,doc,pm,an,code,ct,bl⟩ ⟨cb,[]⟩=pure ((as.map (·.arg)).zip cb)
namespace bind0H
def kc:=hc (yx tQ) (default,default,[],default,default,0,[],.none,.none,.none,Ã,.none,.none,0,[])
def name:=kc.1
def qual:=kc.2.1
def as:=kc.2.2.1
def body:=kc.2.2.2.1
def scope:=kc.2.2.2.2.1
def gl:=kc.2.2.2.2.2.1
def clo:=kc.2.2.2.2.2.2.1
def kwd:=kc.2.2.2.2.2.2.2.1
def doc:=kc.2.2.2.2.2.2.2.2.1
def pm:=kc.2.2.2.2.2.2.2.2.2.1
def an:=kc.2.2.2.2.2.2.2.2.2.2.1
def code:=kc.2.2.2.2.2.2.2.2.2.2.2.1
def ct:=kc.2.2.2.2.2.2.2.2.2.2.2.2.1
def bl:=kc.2.2.2.2.2.2.2.2.2.2.2.2.2.1
def cb:=kc.2.2.2.2.2.2.2.2.2.2.2.2.2.2
theorem kt:tQ name qual as body scope gl clo kwd doc pm an code ct bl cb:=by
 intro hl hn
 have hm:(ad8 (λx:Arg=>x.arg) as).filter (λn=>(((ad8 (λx:Arg=>x.arg) as).zip cb).lookup n).isNone)=[]:=by rw[List.filter_eq_nil_iff];intro n hn;rw[jR (by simp [hl]) hn];simp
 have hz:=sn (l:=as.map (·.arg)) (vs:=cb) (by simp [hl]) hn;have h1:¬ ((decide (cb.length > (ad8 (λx:Arg=>x.arg) as).length)&&Æ)=Æ):=by simp [hl]
 have h2:¬ ((!((List.take ((ad8 (λx:Arg=>x.arg) as).length-0) (ad8 (λx:Arg=>x.arg) as)).filter (λn=>(((ad8 (λx:Arg=>x.arg) as).zip cb).lookup n).isNone)).isEmpty)=Æ):=by rw[ae1,ŋ,hm];decide
 have s8:((ad8 (λx:Arg=>x.arg) as)++[]).filterMap (λn=>(((ad8 (λx:Arg=>x.arg) as).zip cb).lookup n).map (n,·))=(as.map (·.arg)).zip cb:=by rw[Ĵ];show hz
 show(if_neg h1).trans ?_;rw[show ∀i,List.drop i (aff (none:Option (Array Ä)) #[]).toList=[] from λi=>aeM];show(if_neg h2).trans ?_;rw[aeR];show congrArg (λb=>(pure b:Sem (List (Str×Ä)))) s8
end bind0H
theorem QE{code:Ä}:tQ name qual as body scope gl clo kwd doc pm an code ct bl cb:=hk (P:=yx tQ) bind0H.kt (name,qual,as,body,scope,gl,clo,kwd,doc,pm,an,code,ct,bl,cb)
theorem lN{fd:Ī}{as:List Arg}(hp:fd.params=⟨[],as,Ã,[],[],Ã,[]⟩)(hd:fd.defaults=.none)(cb:List Ä)(hl:cb.length=as.length)(hn:(as.map (·.arg)).Nodup):bindArgs fd ⟨cb,[]⟩=pure ((as.map (·.arg)).zip cb):=by cases fd;cases hp;cases hd;show QE hl hn
theorem kC(hk:k x=À .local):∀(b:List (Str×Ä)) (m:Str->Option Ä),(b.map (·.1)).Nodup->bindL k b m x=match b.lookup x with|some v=>À v|none=>m x
 |[],m,_=>rfl
 |(n,v)::r,m,hn=>by
  have lU:=Ϥ.mp hn;unfold bindL;rw[kC hk r _ lU.2,ϊ];cases hb:x==n with
  |true=>
   have:x=n:=by simpa using hb
   subst this
   have hr:r.lookup x=Ã:=by
    cases q:r.lookup x with
    |none=>rfl
    |some y=>show absurd (aeI (f:=(·.1)) (mem_of_lookup q)) lU.1
   rw[hr,if_pos hk];simp
  |false=>
   have eJ:x≠n:=by simpa using hb
   cases q:r.lookup x with
   |some y=>rfl
   |none=>
    by_cases Ka:k n=À .local
    ·rw[if_pos Ka];simp [eJ]
    ·rw[if_neg Ka]
structure AE(scope bQ:á)(O:List (Str×Nat))(nx:Nat)(x:Str):Prop where
 kind:scope.kind=.function
 gen:scope.isGenerator=Ê
 cor:scope.isCoroutine=Ê
 kinds:∀n k,(n,k)∈scope.names->k=.local\/k=.free\/k=.globalImplicit
 uniq:∀n k,(n,k)∈scope.names->scope.names.lookup n=À k
 free:∀n,(n,NameKind.free)∈scope.names->(bQ.names.lookup n=À .cell\/bQ.names.lookup n=À .free)/\∃i,O.lookup n=À i
 par:scope.names.lookup x=À .local
 below:∀n i,(n,i)∈O->i<nx
 lev:fS scope=Ê
theorem G0(h:GZ scope bQ O nx x=Æ):AE scope bQ O nx x:=by
 simp only[GZ,ň,Ϧ,Ϙ,beq_iff_eq,decide_eq_true_eq,bne_iff_ne,ne_eq,abt,ώ]at h
 show aO h λV8 h9=>?_;show aO V8 λk51 h8=>?_;show aO k51 λk73 h7=>?_;obtain ⟨⟨⟨⟨⟨h1,h2⟩,h3⟩,h4⟩,h5⟩,h6⟩:=k73;show⟨h1,h2,h3,λn k hm=>?_,λn k hm=>h5 (n,k) hm,λn hm=>?_,h7,λn i hm=>h8 (n,i) hm,h9⟩
 ·rcases h4 (n,k) hm with (h|h)|h
  ·show .inl h
  ·show .inr (.inl h)
  ·show .inr (.inr h)
 ·show ã (h6 (n,.free) hm) (λh=>?_) (λh=>?_)
  ·show absurd N h
  ·show h
theorem uY(h:dg ps=Æ)(ha:ps.args=[a]):ps=⟨[],[a],Ã,[],[],Ã,[]⟩:=by
 obtain ⟨po,as,va,ko,kd,kw,df⟩:=ps
 simp only[dg,ň,Ų,abX]at h
 show aO h λV9 h6=>?_;show aO V9 λk53 h5=>?_;show aO k53 λk75 h4=>?_;obtain ⟨⟨h1,h2⟩,h3⟩:=k75
 simp only at ha h1 h2 h3 h4 h5 h6
 subst ha h1 h2 h3 h4 h5 h6;rfl
section
variable{A:Ñ}{E:Ä->Å->Prop}{J:List È}{H:ag}{s:Å}{Z:Env}{O:List (Str×Nat)}{U:aL}
theorem ar.notCode(R:ar gg J H h)(x:lI h d q):d∉J:=λhm=>by
 obtain ⟨i,hi,rfl⟩:=ab2.mp hm;have h1:J[i]?=À J[i]:=ē hi;have jZ:i<H.length:=R.len▸hi;obtain ⟨m,h2⟩:∃m,H[i]?=À m:=⟨_,ē jZ⟩;show JH x λo vs t ho hc hd z=>?_;generalize J[i]=a at h1 ho;have mr:=R.objs i a m h1 h2;apply MR.el mr
 case lst=>intro _ _ hl _ _;show W' hl λn e=>?_;rw[e]at ho;cases ho;cases hd
 case di=>intro _ _ hx _ _;show JH hx λo' es ep e z ke z=>?_;rw[e]at ho;cases ho;show nomatch hd.symm.trans ke
 case ds=>intro _ _ hx _ _;show JH hx λo' es ep e z ke z=>?_;rw[e]at ho;cases ho;show nomatch hd.symm.trans ke
 case own=>intro _ _ e;rw[e]at ho;cases ho;cases hd
 case wd=>intro _ _ _ hn _;show t5 hn λo' es ep e ke z=>?_;rw[e]at ho;cases ho;show nomatch hd.symm.trans ke
 case exn=>intro _ _ _ _ _ e eU _ _ _;rw[e]at ho;cases ho;show nomatch hc.symm.trans eU
 case tab=>intro _ _ e _ _;rw[e]at ho;cases ho;cases hc
structure LP(J:List È)(H:ag)(Z:Env)(params:Ļ)(body:Ô)(scope:á)(s:Å)(f:È)(s':Å):Prop where
 S:SE J s.heap J s'.heap
 R:ar gg J H s'.heap
 T:bJ s s'
 fn:f∉J
 ob:∃pm c' CM,s'.heap.get? f=À (kla_obj "<lambda>" (Z.qual++"<lambda>") params body scope (du Z scope.names []) pm c' CM)/\lI s'.heap c' (Z.qual++"<lambda>")
theorem G2(G:fN gg cx fs mg mb)(R:ar gg J H s.heap)(F:eH (br A) J Z O U s.heap)(Oy:fS Z.scope=Æ)(K:AE scope Z.scope O nx a.arg)(hp:params=⟨[],[a],Ã,[],[],Ã,[]⟩)
  (h:∀f s',LP J H Z params body scope s f s'->Q (.ref f) s'):É mo A (eval (.Lambda params body scope lp) Z) Q E s:=by
 show WU (F.tab Oy) λj c P KE hj A9 YL UL wJ=>aO (R.tabs j _ P hj) λzD V6=>?_;have Q2:P∈J:=ĥ zD;have Xb:gg.B.get? P=Ã:=R.fresh P Q2
 have C:CodeHd s.heap c P:=by show IN (CodeHd.of YL UL) λo vs UB tf QR RN=>?_;show WT RN λtg inF Ww tt ho r=>?_;show⟨o,vs,UB,tf,QR,tg,inF,Ww,tt,R.base _ _ (wJ o ho),r⟩
 have Zq:s.heap.Ns Ü mg:=G.gns.keeps R.base
 have Vk:Ü≠P:=λq=>by show oS G.gns λo z z e z=>?_;rw[q,Xb]at e;show no e
 show Yw G.bmain λbm ob b1 b2 b3 b4 b5 b6=>?_
 have Xk:bm≠Ü:=λq=>by show t5 G.gns λo es ep e hd z=>?_;rw[q,e]at b3;cases b3;show nomatch hd.symm.trans b6
 have Y1:bm≠P:=λq=>by rw[q,Xb]at b3;show no b3
 have cl:=ll (Z:=Z) scope λn hn=>by obtain ⟨h1,i,hi⟩:=K.free n hn;show gq (F.cells n i hi h1) λc u hc z=>⟨c,hc⟩
 have Vc:defaultsOf params Z=([],[]):=by rw[hp];rfl
 have mr:=R.objs j P _ zD V6;cases mr with
 |@tab _ _ ps hP ht iq=>
  show kla_eval Vc (G3 cl F.glob F.blt Zq A9 C hP ht (λpos cv e=>?_) Vk ⟨bm,ob,b1,b2,Xk,Y1,R.base _ _ b3,b4,b5,b6⟩ λc' CM h' tk Nh f pm hk EF Td UY om hcP hf Zn=>?_)
  ·show Uz (iq pos cv e) λc' o vs t e1 z e3 e4 e5 e6=>⟨c',e1,o,vs,t,e3,e4,e5,e6⟩
  ·have hd:∃o,h'.get? P=À o:=⟨_,EF⟩
   have S:SE J s.heap J h':=⟨λb o e hb=>.inl (hk b o (by rintro rfl;show hb Q2) e),λb o e=>by
    by_cases hb:b=P
    ·apply aW hb;show hd
    ·show⟨o,hk b o hb e⟩,[],(Ĵ _).symm,λz hm=>(nomatch hm)⟩
   have up:∀{d:È},(lI s.heap d (Z.qual++"<lambda>")\/(s.heap.get? d=Ã/\lI h' d (Z.qual++"<lambda>")))->d∉J/\lI h' d (Z.qual++"<lambda>"):=λ{d} x=>by
    show ã x (λx=>?_) (λq=>aO q λx y=>?_)
    ·have hn:=R.notCode x
     show JH x λo vs t e1 e2 e3 e4=>⟨hn,o,vs,t,(S.pres _ _ e1 hn).hard (.inr ⟨e2,vs,e3⟩),e2,e3,e4⟩
    ·show⟨aX R x,y⟩
   have R':ar gg J (H.set j (.tab Z.qual)) h':=R.put zD V6 hk (.tab EF Td λpos cv e=>by show aF (UY pos cv e) λd h1 h2=>?_;obtain ⟨h3,o,vs,t,h4,h5,h6,h7⟩:=up h2;show⟨d,o,vs,t,h1,h3,h4,h5,h6,h7⟩) λq e=>by injection e with e;rw[e]
   have Yz:H.set j (.tab Z.qual)=H:=by show W' (Ġ.mp V6) λcE e=>?_;rw[<-e];show List.set_getElem_self cE
   rw[Yz]at R';show h f _ ⟨S,R',⟨N,N,N⟩,aX R hf,pm,c',CM,Zn,(up om).2⟩
end
section
variable{A:Ñ}{E:Ä->Å->Prop}{J:List È}{H:ag}{s:Å}{Z:Env}{O:List (Str×Nat)}{U:aL}
theorem Dp(K:AE scope Z.scope O nx x)(R:ar gg J H s.heap)(F:eH (br A) J Z O U s.heap)(hv:VR gg J s.heap v av)(hk:∀b o,s.heap.get? b=À o->bF.get? b=À o)(hL:s.heap.get? L=Ã)(ic:bF.Ns L (λy=>[(x,av)].reverse.lookup y)):
  eH (br (A.deeper (newEnv scope L Ü (du Z scope.names []) q (À f) cd Ã ă))) J (newEnv scope L Ü (du Z scope.names []) q (À f) cd Ã ă) (cn scope O nx [x]) (cP U nx v) bF:=by
 have hf:∀n,(n,NameKind.free)∈scope.names->∃c,Z.cells.lookup n=À c:=λn hn=>by obtain ⟨h1,i,hi⟩:=K.free n hn;show gq (F.cells n i hi h1) λc u hc k=>⟨c,hc⟩
 have S:SE J s.heap J bF:=SE.keeps _ hk
 have nZ:∀{x c},(du Z scope.names []).lookup x=À c->Z.cells.lookup x=À c/\scope.names.lookup x=À .free:=λ{x c} e=>by
  show ã (kD (mem_of_lookup e)) (λq=>aO q λh1 h2=>?_) (λh1=>?_)
  ·show⟨h2,K.uniq _ _ h1⟩
  ·cases h1
 have P6:∀{y i},nx<=i->[x][i-nx]?=À y->y=x/\i=nx:=λ{y i} h1 h2=>by
  have cE:=(Ġ.mp h2).1
  simp only[ϧ,adU]at cE
  have e:i-nx=0:=ť (ϋ cE) (Ĥ _);rw[e]at h2;show⟨(Option.some.inj h2).symm,ť (by show jL (y4 0xc3211b1010ba30212ba18081 N (iT cE) (iS _ _) (iA _ _))) (h1)⟩
 show⟨K.kind,N,N,⟨_,ic,?_⟩,?_,aX R hL,aV R hL,?_,?_,?_,λq=>?_,λe he=>ã (qG he) (λhe=>?_) ((F.stk.to λL o es ep h1 h2 h3=>⟨⟨o,es,ep,hk L o h1,h2⟩,h3⟩) e)⟩
 rotate_right
 ·rw[he]
  show t5 ic λo es ep ho hd k=>⟨?_,L,o,es,ep,N,ho,hd,aX R hL,aV R hL⟩;show scope.kind≠.module;rw[K.kind];show nofun
 ·intro y i w hy uA uC
  show ã (cw hy) (λq=>aO q λh1 h2=>?_) (λq=>aO q λh1 h2=>?_)
  ·show aO (P6 h1 h2) λq1 q2=>?_;subst q1 q2
   simp only[cP,if_true]at uC
   cases uC;show⟨av,by simp,hv.step R S⟩
  ·have e1:scope.names.lookup y=À .local:=uA
   rw[K.uniq _ _ h1]at e1;cases e1
 ·intro y i hy uA
  show ã (cw hy) (λq=>aO q λh1 h2=>?_) (λq=>aO q λh1 h2=>?_)
  ·show aO (P6 h1 h2) λq1 q2=>?_;subst q1 q2
   exfalso
   show ã uA (λr=>?_) (λr=>?_)
   ·have e1:scope.names.lookup y=À .cell:=r
    rw[K.par]at e1;cases e1
   ·have e1:scope.names.lookup y=À .free:=r
    rw[K.par]at e1;cases e1
  ·obtain ⟨h3,j,hj⟩:=K.free y h1
   show fu (F.cells y i h2 h3) λc u hc Os s6=>W' (de ((sM [] hf).2 h1 hc)) λc' eU=>?_;have Mt:c'=c:=by have:=(nZ eU).1;rw[hc]at this;show(Option.some.inj this).symm
   subst Mt;show⟨c',u,eU,Os.keeps hk,λw hw=>?_⟩;have cE:=K.below _ _ (mem_of_lookup h2)
   simp only[cP,if_neg (ŉ cE)]at hw
   show aF (s6 w hw) λa h4 h5=>⟨a,h4,h5.step R S⟩
 ·intro y c e
  show aO (nZ e) λh1 k=>EC (F.cellF y c h1) λRO h2 h3 h4=>?_;show W' RO λu hu=>?_;show⟨⟨u,hu.keeps hk⟩,h2,λq=>aF hu λo ho k=>?_,h4⟩;rw[show c=L from q,hL]at ho;show no ho
 ·intro y z c e1 e2
  show F.cellI y z c (nZ e1).1 (nZ e2).1
 ·intro y z i e1 e2
  rcases cw e1 with ⟨h1,h2⟩|⟨h1,h2⟩<;>show ã (cw e2) (λq=>aO q λh3 h4=>?_) (λq=>aO q λh3 h4=>?_)
  ·show(P6 h1 h2).1.trans (P6 h3 h4).1.symm
  ·show absurd (K.below _ _ (mem_of_lookup h4)) (ľ.mpr (ŕ (P6 h1 h2).2.symm))
  ·show absurd (K.below _ _ (mem_of_lookup h2)) (ľ.mpr (ŕ (P6 h3 h4).2.symm))
  ·show F.slots y z i h2 h4
 ·rw[show (newEnv scope L Ü (du Z scope.names []) _ (À f) cd Ã ă).scope=scope from N,K.lev]at q
  show absurd q Ķ
noncomputable def Hl:az:=λz z z=>Ã
theorem ve(G:fN gg cx fs mg mb):∀(n:Nat) (e:Ô) (k:KX),EB cx Z.scope O n e=À k->aS A Z O e (ab Hl k.ce)
 |0,_,_,h=>no h
 |n+1,e,k,h=>by
  cases e with
  |Name x p=>
   show ie h λc i h1 h2 h=>?_;apply dC h
   have hc:c=.var i:=by
    cases c<;>first|exact no h2|skip
    show congrArg _ (sm h2)
   subst hc;show rK G h1
  |Constant c m p=>
   show bW h λi h1 h=>?_;apply dC h
   have hc:c=.int i:=by
    cases c<;>first|exact no h1|skip
    show congrArg _ (sm h1)
   apply aW hc;show oH N
  |Subscript v i p=>show ie h λa b h1 h2 h=>?_;apply dC h;show BP (λl u st q e=>?_) (ve G n v a h1) (ve G n i b h2);subst e;cases n<;>show no h2
  |Tuple es m p=>
   show BA h λx y h0 h=>ie h λa b h1 h2 h=>?_;apply dC h;apply aW (hG h0);show tD (f:=λe=>(EB cx Z.scope O n e).bind λk=>À k.ce) (λe q=>by cases n<;>rfl) (λe c hc=>?_) ?_
   ·show bW hc λk h3 hc=>?_
    apply dC hc;show ve G n e k h3
   ·show ((EB cx Z.scope O n x).bind λk=>À k.ce).bind _=_
    rw[show EB cx Z.scope O n x=À a from h1];show ((((EB cx Z.scope O n y).bind λk=>À k.ce).bind _)).bind _=_;rw[show EB cx Z.scope O n y=À b from h2];rfl
  |_=>show no h
theorem qT:∀{ns:List Int} {ps:List KP},o5 k i U H ns=À ps->∃kvs,dq kvs ps/\ps.map (·.2)=ns/\∀(j:Nat) (p:KP) (kv:V),ps[j]?=À p->kvs[j]?=À kv->c9 k (cP U i (.int p.2)) H=À kv
 |[],ps,h=>by apply dC h;show⟨[],.nil,rfl,λj p kv h=>by simp at h⟩
 |n::ns,ps,h=>by
  show ie h λv l h1 h2 h=>?_;show bW h λqs h3 h=>?_;apply dC h;show dN (qT h3) λkvs a1 a2 a3=>⟨v::kvs,.cons h2 a1,by rw[ř,a2],λj p kv hp hk=>?_⟩;cases j with
  |zero=>cases hp;cases hk;show h1
  |succ j=>show a3 j p kv hp hk
theorem G1(G:fN gg cx fs mg mb)(wM:A.depth<í)(hp:params=⟨[],[a],Ã,[],[],Ã,[]⟩)(K:AE scope Z.scope O nx a.arg)(EK:EB cx scope (cn scope O nx [a.arg]) n body=À kx)
  (L:LP J H Z params body scope Þ f s) (F:eH (br A) J Z O U s.heap) (r9:∀(j:Nat) (p:KP) (kv:V),ps[j]?=À p->kvs[j]?=À kv->c9 kx (cP U nx (.int p.2)) H=À kv):AC A J H s (.ref f) ps kvs:=by
 intro j p kv t hj Mx s' S' R' T' E;show oS L.ob λpm c' CM ho om=>?_;have F':=F.step L.R S';have s0:s'.heap.get? f=À (kla_obj "<lambda>" (Z.qual++"<lambda>") params body scope (du Z scope.names []) pm c' CM):=(S'.pres _ _ ho L.fn).of λes ep q=>nomatch q;have Q8:=L.R.notCode om
 have UV:lI s'.heap c' (Z.qual++"<lambda>"):=by show JH om λo vs u e1 e2 e3 e4=>⟨o,vs,u,(S'.pres _ _ e1 Q8).hard (.inr ⟨e2,vs,e3⟩),e2,e3,e4⟩
 have zy:s'.heap.NoLimit:=G.nolimit.keeps R'.base;show ŗ (kla_callFunE (body:=body) wM s0 N K.cor K.gen N UV.rec ?_);rw[lN (as:=[a]) hp N [.int p.2 t] N (Ϥ.mpr ⟨(λh=>nomatch h),ad3⟩)];show Ç (wpAny_newFunctionEnv (λx hx e=>?_) (λx hx=>?_) (λbF ic Xz=>⟨zy.fresh _ Xz,kla_codeExpr ?_⟩) K.kind)
 ·rcases K.kinds x.1 x.2 hx with q|q|q<;>(rw[e]at q;cases q)
 ·rcases Ĉ.mp hx with rfl|hx
  ·show K.par
  ·show nomatch hx
 have jc:∀b o,s'.heap.get? b=À o->bF.get? b=À o:=λb o e=>Xz.extBut b o (ŉ (ō e)) (N' _ e);have FL:=Dp (f:=f) (q:=Z.qual++"<lambda>"++".<locals>.") (cd:=.ref c') (v:=.int p.2) (av:=.int p.2 t) K R' F' (.int _ _) jc (aH _) ic;have aC:ar gg J H bF:=R'.keeps jc;have he:=j8 (Á:=Hl) (r9 j p kv hj Mx);show Ï (ve (A:=A.deeper _) G n body kx EK _ _ _ _ he J {s' with heap:=bF,toks:=_} aC FL _) (λv cW hq=>bA.el hq λaT dh bu dP gO=>?_) λz z x=>x;show aF dh.ext λu q2 z=>?_;subst q2
 have hu:u=[]:=by have h1:=bu.len;have h2:=R'.len;rw[û]at h1;show ϰ.mp (ť (by show jL (y4 0xc08312b1013b1213ba320 N (iE h1) (iE h2) (iA _ _))) (Ĥ _))
 subst hu;rw[Ĵ]at dh bu dP;show⟨SE.trans (SE.keeps _ jc) dh,bu,bJ.trans ⟨N,N,N⟩ gO,dP⟩
end
section
variable{A:Ñ}{E:Ä->Å->Prop}{J:List È}{H:ag}{s:Å}{Z:Env}{O:List (Str×Nat)}{U:aL}{Á:az}{d:Nat}
def TR(A:Ñ)(J:List È)(H:ag)(xs:List V)(a:Ä)(Ì:Å):Prop:=
 ∀(s':Å),SE J Ì.heap J s'.heap->ar gg J H s'.heap->∀ns,cC xs=À ns->ns.length<=10000000->∀(E:Ä->Å->Prop) (Q:List Ä->Å->Prop),
  (∀h' tk vs,(∀b o,s'.heap.get? b=À o->h'.get? b=À o)->ñ vs ns->Q vs {s' with heap:=h',toks:=tk})->É mo A.in1 (collect a) Q E s'
theorem rC:∀(l:List Nat),cC (l.map λ(i:Nat)=>V.int (a+(i:Int)*c))=À (l.map λ(i:Nat)=>a+(i:Int)*c)
 |[]=>rfl
 |i::l=>by show (cC (l.map λ(i:Nat)=>V.int (a+(i:Int)*c))).bind _=_;rw[rC l];rfl
theorem Lm(hA:iZ A d)(G:fN gg cx fs mg mb)(hs:∀e p,f (.Starred e p)=Ã)(cZ:∀e c,f e=À c->aS A Z O e (ab Á c))(h:EA f cx Z.scope x=À it)(ho:RJ it=Æ)
  (sd:cB Á it U H=À (xs,w,Î)) (hw:BV it w=Æ) (R:ar gg J H s.heap) (F:eH (br A) J Z O U s.heap)
  (k:∀a Ì aj,SE J s.heap aj Ì.heap->bJ s Ì->ar gg aj Î Ì.heap->eH (br A) aj Z O U Ì.heap->TR A aj Î xs a Ì->Q a Ì):É mo A (eval x Z) Q E s:=by
 cases it with
 |ex c=>
  have hx:aS A Z O x (ab Á c):=(tT _ h).elim (λq=>aF q λc' e hc=>cZ _ _ (hc.trans (congrArg V7 e).symm)) λq=>q.elim (λq=>PH q λz z z z q=>absurd (congrArg Tq q.1) afm) λq=>absurd q.symm (acM 1);show dz (show bT (ab Á c U H) (λx Î=>(pc Î x).bind λp=>À (p.1,p.2,Î))=_ from sd) λv Ý h1 sd=>?_;show BA sd λX7 w' h2 sd=>?_;show gH (No sd) λq1 q2 q3=>?_;subst q1 q2 q3;show hx.bind h1 R F λa Ì aj S T aC a0 bh=>k a Ì aj S T aC a0 ?_;intro s' S' R' ns ic hz E Q hQ;have V':=bh.step aC S';cases V' with
  |ref hr=>show bW (m:=lst Ý _) h2 λl' jd h2=>?_;show aO (nT h2) λq1 z=>?_;subst q1;show dN (R'.list hr jd) λvs hl hv z=>?_;have hI:=nN ic hv;show FA hl.isList hI (by rw[hI.length];show z' hz (ab0 N)) hQ
  |tup _ _ _ _=>show aO (nT h2) λz q2=>?_;subst q2;show absurd hw Ķ
  |ro _ _ _=>show aO (nT h2) λz q2=>?_;subst q2;show absurd hw Ķ
  |none=>show no h2
  |bool _=>show no h2
  |int _ _=>show no h2
  |str _ _=>show no h2
 |rng1 c=>
  have hx:∃y p q,x=.Call (.Name ("range":Str) p) [y] [] q/\bi Z.scope ("range":Str)=Æ/\f y=À c:=(tT _ h).elim (λq=>aF q λz e z=>absurd (congrArg Tq e) Nat.one_ne_zero) λq=>q.elim (λq=>Uy q λy p q c' e e1 e2 e3=>⟨y,p,q,e1,e2,e3.trans (congrArg V7 e).symm⟩) λq=>absurd (ad2.inj q.symm) (acM 0);show t5 hx λy p q q4 hg hy=>?_;apply aW q4;have ic:∀e q,y≠.Starred e q:=λe q e'=>by rw[e',hs]at hy;show no hy
  show AN (show qj (ab Á c U H) (λn Î=>if jC n then À (cp 0 n 1,[],Î) else Ã)=_ from sd) λn Ý h1 sd=>?_;show dF sd λDc sd=>?_;show gH (No sd) λq1 q2 q3=>?_;subst q1 q2 q3;show aO (bM hg) λmn mq=>?_;have fy:Ù [y] Z=(Ê,eval y Z)::Ù [] Z:=nD ic;show ć N (cF G F R mn mq (by decide) (v:=.type "range") (by decide +kernel) (bP (.inr ⟨_,N⟩) (è ((cZ _ _ hy).bind h1 R F λb Ì aj S T aC a0 bh=>Ē ?_) fy) fy N));show W' (vI N bh) λt1 q2=>?_;apply aW q2;have zB:Builtin.Range.small 0 n 1=Æ:=rH (by decide) (by decide) (nv Dc) (by decide);show call_range_1 ?_;have hk:∀b o,Ì.heap.get? b=À o->(Ì.heap.push {cls:=.type "range",data:=.fields #[.int 0 (Ì.toks+1),.int n t1,.int 1 (Ì.toks+2)]}).get? b=À o:=λb o e=>N' _ e;have hr:=IsRange.new Ì.heap 0 n 1 (Ì.toks+1) t1 (Ì.toks+2);show k _ _ aj (S.trans (SE.keeps _ λb o e=>N' _ e)) (T.trans ⟨N,N,N⟩) (aC.keeps λb o e=>N' _ e) (a0.step aC (SE.keeps _ λb o e=>N' _ e)) ?_;intro s' S' R' ns ic hz E Q hQ;have Mz:=fC 0 n 1 (by decide);have Xy:iV 0 n 1=(Builtin.Range.rangeSize 0 n 1).toNat:=Dy 0 n 1;have Rr:ns=(ċ (iV 0 n 1)).map λ(i:Nat)=>(0:Int)+(i:Int)*1:=(sm ((rC _).symm.trans ic)).symm;have ca:iV 0 n 1<=10000000:=by rw[Rr,H',Ś]at hz;show hz
  show CJ (n:=iV 0 n 1) (a:=0) (b:=n) (c:=1) hA.handled ((S'.pres _ _ (Ł _ N) (aX aC (aH _))).of λes ep q=>nomatch q) zB (by show ņ (y3 0xc0213b1010b12 N (iE Xy) (adD _)) (y3 0xc2012b1012b21 N (iE Xy) (ϡ (y1 0xc00810b008 N Mz)))) (by lia) (by rw[<-Rr];show hQ)
 |_=>show absurd ho Ķ
theorem DX(hA:iZ A d)(G:fN gg cx fs mg mb)(hs:∀e p,f (.Starred e p)=Ã)(cZ:∀e c,f e=À c->aS A Z O e (ab Á c))(hg:bi Z.scope ("sorted":Str)=Æ)(h:SK (λi=>EA f cx Z.scope i) cx Z.scope O nx as k=À c):
  aS A Z O (.Call (.Name ("sorted":Str) p) as [k] pos) (ab Á c):=by
 show bW h λx hx h=>?_;show aF (ob h) λk1 hl h=>?_;obtain ⟨a,body,scope⟩:=k1;show dF h λhc h=>?_;show bW h λit sZ h=>?_;show dF h λou h=>?_;show bW h λkx EK h=>?_;apply dC h;apply aW (bX hx)
 simp only[ň,beq_iff_eq]at hc
 show aO hc λk2 VB=>?_;show aO k2 λBb Oy=>?_;obtain ⟨ka,kv,kp⟩:=k;obtain rfl:ka=À ("key":Str):=Bb;show fu (zS hl) λps lp q3 zz A7=>?_;subst q3;have K:=G0 VB;have Xv:=uY zz A7;intro U H v ae he J s R F E;show oO (show mI (cB Á it U H) (λxs w Î=>if BV it w then me kx nx U Î xs else Ã)=_ from he) λxs w Î h1 he=>?_;show dF he λhw he=>?_;show bW he λns ic he=>?_;show aO (cT he) λk3 he=>?_;show aO k3 λhr hz=>?_;show bW he λkps Vx he=>?_;show dF he λs5 he=>?_;show gH (fV he) λhzz q2 q3=>?_;apply aW q2;apply aW q3;show dN (qT Vx) λkvs Bb C7 r9=>?_;show aO (bM hg) λmn mq=>?_
 have fy:Ù [x] Z=(Ê,eval x Z)::Ù [] Z:=by
  cases x with
  |Starred e q=>
   exfalso
   have:CC f (.Starred e q)=À it:=sZ;show bW this λc' eU z=>?_;rw[hs]at eU;show no eU
  |_=>rfl
 have wM:A.in1.in1.depth<í:=by
  have h1:=hA.depth;have h2:600<í:=by decide
  show A.depth<_;show jT (y4 0x1c1310b02589011b10258910b20813ba230 N (iL h1) (iT h2) (iP _) (iA _ _))
 show wpAny_Call_Name_kw (cF G F R mn mq (by decide) (v:=.builtin "sorted") (by decide +kernel) (callWith_kw (è (Lm hA G hs cZ sZ ou h1 hw R F λb Ì aj S T aC a0 T6=>Ē ?_) fy) (by rw[fy];rfl) (by rw[fy];rfl)));show Â (Â (G2 (a:=a) G aC a0 Oy K Xv λq cW L=>Â (đ (Ç ?_))));show Â (à (Ç (Ç ?_)));have eQ:=a0.step aC L.S;show Ï (Al (kvs:=kvs) (ps:=kps) L.R (λQ hQ=>T6 cW L.S L.R ns ic hz E Q (by rw[<-C7];show hQ)) Bb (by rw[C7];show hr) s5 (by rw[cG Bb,<-H' (f:=(·.2)),C7];show hz) (G1 G wM Xv K EK L eQ r9)) (λz z x=>bA.after (S.trans L.S) (T.trans L.T) x) λz z x=>x
end
end Lar
namespace Lar
open PySem PyProof.Rows PySem.Calls PySem.SeqAt
open Builtin Builtin.ObjectAttr
structure eV(h:Ó)(C C0:È)(mN mN0:Str->Option Ä):Prop where
 c:fi h C (.ref C0::jY) mN
 c0:fi h C0 jY mN0
theorem fi.keeps(X:fi h C tl mN)(hk:∀b o,h.get? b=À o->h'.get? b=À o):fi h' C tl mN:=⟨X.obj.elim λD y=>⟨D,hk _ _ y.1,y.2.keeps hk⟩,X.quiet⟩
theorem fi.el{h:Ó}{C:È}{tl:List Ä}{mN:Str->Option Ä}{P:Prop}(X:fi h C tl mN)(k:∀D:ER,h.get? C=À (D.obj C tl)->h.Ns D.pzJ mN->P):P:=X.obj.elim λD y=>k D y.1 y.2
section
variable{A:Ñ}{E:Ä->Å->Prop}{h:Ó}{g:Array ö}{d:Drawn}{t:Nat}{os:ó}
 {C C0 x:È} {mN mN0 mA:Str->Option Ä} {name:Str} {v:Ä}
theorem w5{n:Str}{y:Option Ä}{Q:Option Ä->Å->Prop}(S:eV h C C0 mN mN0)(hB:Ă (.type "ValueError") n=pure y)
  (hq:Q (match mN n with|some v=>À v|none=>match mN0 n with|some v=>À v|none=>y) ⟨h,g,d,t,os⟩):É mo A (Ă (.ref C) n) Q E ⟨h,g,d,t,os⟩:=by
 show S.c.el λD hC hn=>S.c0.el λD0 EE Mz=>?_
 have jO:lookupAlong jY n=pure y:=by rw[typeLookup_eq,PySem.F.excBase_ValueError.mroIs]at hB;show hB
 rw[typeLookup_eq];show Â (wpAny_mroOf_exc hC ?_);rw[lookupAlong_cons];show Â (wpAny_classOwn_exc hC hn ?_);cases hv:mN n with
 |some v=>rw[hv]at hq;show Ç hq
 |none=>
  rw[hv]at hq;show É _ _ (lookupAlong (.ref C0::jY) n) _ _ _;rw[lookupAlong_cons];show Â (wpAny_classOwn_cls EE Mz ?_);cases OO:mN0 n with
  |some v=>rw[OO]at hq;show Ç hq
  |none=>rw[OO]at hq;show É _ _ (lookupAlong jY n) _ _ _;rw[jO];show Ç hq
theorem dG(S:eV h C C0 mN mN0)(hk:n∉il)(hB:Ă (.type "ValueError") n=pure y)(hq:Q y ⟨h,g,d,t,os⟩):É mo A (Ă (.ref C) n) Q E ⟨h,g,d,t,os⟩:=by show w5 S hB ?_;rw[S.c.quiet n hk,S.c0.quiet n hk];show hq
theorem eZ(hb:jY.contains (.type X)=b):(Value.ref C::.ref C0::jY).contains (.type X)=b:=by rw[ϖ,ϖ,hb];rfl
end
def ju(A:Ñ)(E:Ä->Å->Prop)(h:Ó)(g:Array ö)(d:Drawn)(t:Nat)(os:ó)(C:È)(C0:È)(mN:Str->Option Ä)(mN0:Str->Option Ä)(aD:List Ä)(Q:Unit->Å->Prop):Prop:=∀(S:eV h C C0 mN mN0) (hq:Q () ⟨h,g,d,t,os⟩),É mo A (þ "ValueError.__new__" ⟨.ref C::aD,[]⟩) Q E ⟨h,g,d,t,os⟩
namespace check_newH
def kc:=hc (Qo ju) ({},λz z=>True,default,#[],{},0,default,0,0,λz=>Ã,λz=>Ã,[],λz z=>True)
def A:=kc.1
def E:=kc.2.1
def h:=kc.2.2.1
def g:=kc.2.2.2.1
def d:=kc.2.2.2.2.1
def t:=kc.2.2.2.2.2.1
def os:=kc.2.2.2.2.2.2.1
def C:=kc.2.2.2.2.2.2.2.1
def C0:=kc.2.2.2.2.2.2.2.2.1
def mN:=kc.2.2.2.2.2.2.2.2.2.1
def mN0:=kc.2.2.2.2.2.2.2.2.2.2.1
def aD:=kc.2.2.2.2.2.2.2.2.2.2.2.1
def Q:=kc.2.2.2.2.2.2.2.2.2.2.2.2
theorem kt:ju A E h g d t os C C0 mN mN0 aD Q:=by
 intro S hq;show S.c.el λD hC hn=>?_;have Fn:=PySem.F.excBase_ValueError;have Q9:(Value.ref C::.ref C0::jY).contains (.type "ValueError")=Æ:=eZ Fn.hasB;have hstar:=Fn.noStar;unfold þ;rw[Fn.newKind,Fn.newSplit]at ⊢;dsimp only
 repeat (first|refine Õ hC ?_|(refine â hC ?_;rw[Q9]at ⊢)|refine wpAny_staticBase_exc hC ?_|refine wpAny_madeBy_exc hC ?_|rw[Fn.newRow]at ⊢|simp only[bne_self_eq_false,abR,if_false]|wp_step)
 show hq
end check_newH
theorem CF{os:ó}:ju A E h g d t os C C0 mN mN0 aD Q:=hk (P:=Qo ju) check_newH.kt (A,E,h,g,d,t,os,C,C0,mN,mN0,aD,Q)
def mP(A:Ñ)(h:Ó)(g:Array ö)(d:Drawn)(t:Nat)(os:ó)(C:È)(C0:È)(mN:Str->Option Ä)(mN0:Str->Option Ä)(aD:List Ä)(R:Result->Å->Prop):Prop:=∀(S:eV h C C0 mN mN0) (jO:aD.length<=ê) (hq:R (.ok (.ret (.ref (h.objs.size+1)))) ⟨(h.push {cls:=.type "tuple",data:=.seq aD.toArray}).push {cls:=.ref C,data:=.fields #[.ref h.objs.size,.none,.none,.none,.bool Ê,.none]},g,d,t,os⟩),Ğ mo A (.builtin "ValueError.__new__" ⟨.ref C::aD,[]⟩) R ⟨h,g,d,t,os⟩
namespace exc_newH
def kc:=hc (NO mP) ({},default,#[],{},0,default,0,0,λz=>Ã,λz=>Ã,[],λz z=>True)
def A:=kc.1
def h:=kc.2.1
def g:=kc.2.2.1
def d:=kc.2.2.2.1
def t:=kc.2.2.2.2.1
def os:=kc.2.2.2.2.2.1
def C:=kc.2.2.2.2.2.2.1
def C0:=kc.2.2.2.2.2.2.2.1
def mN:=kc.2.2.2.2.2.2.2.2.1
def mN0:=kc.2.2.2.2.2.2.2.2.2.1
def aD:=kc.2.2.2.2.2.2.2.2.2.2.1
def R:=kc.2.2.2.2.2.2.2.2.2.2.2
theorem kt:mP A h g d t os C C0 mN mN0 aD R:=by
 intro S jO hq;show S.c.el λD hC hn=>?_;have Fn:=PySem.F.excBase_ValueError;have hends:=Fn.ends;have wJ:(Value.ref C::.ref C0::jY).contains (.type "ValueError")=Æ:=eZ Fn.hasB;have Y9:(Value.ref C::.ref C0::jY).contains (.type "AttributeError")=Ê:=eZ Fn.noAttr;have Zc:(Value.ref C::.ref C0::jY).contains (.type "NameError")=Ê:=eZ Fn.noName;show codeAny_builtinAt Fn.entry ?_;unfold Ď.«BaseException.__new__»;show PySem.wpAt_bind ?_;show PySem.wpAt _ _ _ (stack>>=_) _ _ _;show PySem.wpAt_bind (PySem.wpAt_stack λp below=>PySem.wpAt_of_wpAny ?_)
 wp_walk
 show PySem.wpAt_of_wpAny ?_;rw[Fn.owner]
 repeat (first|with_reducible refine wpAny_madeHere_exc Fn.canon hC ?_|with_reducible refine Õ hC ?_|(with_reducible refine â hC ?_;first|rw[wJ]|rw[Y9]|rw[Zc])|wp_step)
 show R _ _;rw[ϐ];show hq
end exc_newH
theorem JR{A:Ñ}{h:Ó}{g:Array ö}{d:Drawn}{t:Nat}{os:ó}{C:È}{C0:È}{mN:Str->Option Ä}{mN0:Str->Option Ä}{aD:List Ä}{R:Result->Å->Prop}:mP A h g d t os C C0 mN mN0 aD R:=hk (P:=NO mP) exc_newH.kt (A,h,g,d,t,os,C,C0,mN,mN0,aD,R)
section
variable{A:Ñ}{E:Ä->Å->Prop}{h:Ó}{g:Array ö}{d:Drawn}{t:Nat}{os:ó}
 {C C0 x:È} {mN mN0 mA:Str->Option Ä} {name:Str} {v:Ä}
theorem eV.keeps(S:eV h C C0 mN mN0)(hk:∀b o,h.get? b=À o->h'.get? b=À o):eV h' C C0 mN mN0:=⟨S.c.keeps hk,S.c0.keeps hk⟩
end
def jI(A:Ñ)(E:Ä->Å->Prop)(h:Ó)(g:Array ö)(d:Drawn)(t:Nat)(os:ó)(C:È)(C0:È)(mN:Str->Option Ä)(mN0:Str->Option Ä)(aD:List Ä)(fI:È)(oI:Obj)(Q:PySem.Fin->Å->Prop):Prop:=∀(S:eV h C C0 mN mN0) (h1:mN ("__init__":Str)=Ã) (h2:mN0 ("__init__":Str)=À (.ref fI)) (SZ:h.get? fI=À oI) (S0:oI.cls=.type "function") (jO:aD.length<=ê) (hq:∀h' e,Heap.MadeExcOf h h' e (.ref C) aD->É mo A (Á (.ref fI) (.ref e::aD)) (λr s'=>r=.none/\Q (.done (.ret (.ref e))) s') E ⟨h',g,d,t,os⟩),É mo A (Ď.«type.__call__» ⟨.ref C::aD,[]⟩) Q E ⟨h,g,d,t,os⟩
namespace type_callH
def kc:=hc (yx jI) ({},λz z=>True,default,#[],{},0,default,0,0,λz=>Ã,λz=>Ã,[],0,default,λz z=>True)
def A:=kc.1
def E:=kc.2.1
def h:=kc.2.2.1
def g:=kc.2.2.2.1
def d:=kc.2.2.2.2.1
def t:=kc.2.2.2.2.2.1
def os:=kc.2.2.2.2.2.2.1
def C:=kc.2.2.2.2.2.2.2.1
def C0:=kc.2.2.2.2.2.2.2.2.1
def mN:=kc.2.2.2.2.2.2.2.2.2.1
def mN0:=kc.2.2.2.2.2.2.2.2.2.2.1
def aD:=kc.2.2.2.2.2.2.2.2.2.2.2.1
def fI:=kc.2.2.2.2.2.2.2.2.2.2.2.2.1
def oI:=kc.2.2.2.2.2.2.2.2.2.2.2.2.2.1
def Q:=kc.2.2.2.2.2.2.2.2.2.2.2.2.2.2
theorem kt:jI A E h g d t os C C0 mN mN0 aD fI oI Q:=by
 intro S h1 h2 SZ S0 jO hq;show S.c.el λD hC hn=>?_;have Fn:=PySem.F.excBase_ValueError
 repeat (first|with_reducible refine Õ hC ?_|with_reducible refine wpAny_madeBy_exc hC ?_|wp_step)
 show codeAny_call_builtin_code (Code.quiet_builtin _ Fn.quiet) (CF S (JR S jO ?_));show É _ _ _ _ _ _;have kp:∀b o,h.get? b=À o->((h.push {cls:=.type "tuple",data:=.seq aD.toArray}).push {cls:=.ref C,data:=.fields #[.ref h.objs.size,.none,.none,.none,.bool Ê,.none]}).get? b=À o:=λb o e=>N' _ (N' _ e);have iJ:=S.keeps kp;have QY:=kp _ _ hC;have Ot:=kp _ _ SZ
 have Ri:((h.push {cls:=.type "tuple",data:=.seq aD.toArray}).push
   {cls:=.ref C,data:=.fields #[.ref h.objs.size,.none,.none,.none,.bool Ê,.none]}).get? (h.objs.size+1)=À
   {cls:=.ref C,data:=.fields #[.ref h.objs.size,.none,.none,.none,.bool Ê,.none]}:=by heap_get
 have UU:(Value.ref C::.ref C0::jY).contains (.ref C)=Æ:=by simp
 unfold isInstance
 repeat (first|with_reducible refine Õ Ri ?_|(with_reducible refine â QY ?_;rw[UU])|wp_step)
 show É _ _ (Ă (.ref C) _) _ _ _;show w5 iJ Fn.init.lookup ?_;rw[h1,h2];show à (Â ?_);unfold bindSpecial;show Â (Ŝ (T := "function") ⟨_,Ot,S0⟩ ?_);rw[if_pos (by decide)];show Ç (Â (Ï (hq _ (h.objs.size+1) ⟨kp,abD (ϝ _),h.objs.size,Ri,abD (Đ _),?_⟩) (λr s' hr=>?_) λz z x=>x))
 ·show N' _ (ae6 N N)
 ·show aO hr λq1 hQ=>?_;apply aW q1
  wp_walk
  show hQ
end type_callH
theorem Ed{os:ó}:jI A E h g d t os C C0 mN mN0 aD fI oI Q:=hk (P:=yx jI) type_callH.kt (A,E,h,g,d,t,os,C,C0,mN,mN0,aD,fI,oI,Q)
section
variable{A:Ñ}{E:Ä->Å->Prop}{h:Ó}{g:Array ö}{d:Drawn}{t:Nat}{os:ó}
 {C C0 x:È} {mN mN0 mA:Str->Option Ä} {name:Str} {v:Ä}
theorem Fv{aD:List Ä}{fI:È}{oI:Obj}{Q:Ä->Å->Prop}(S:eV h C C0 mN mN0)(h1:mN ("__init__":Str)=Ã)(h2:mN0 ("__init__":Str)=À (.ref fI))(SZ:h.get? fI=À oI)(S0:oI.cls=.type "function")(jO:aD.length<=ê)
  (hq:∀h' e,Heap.MadeExcOf h h' e (.ref C) aD->É mo (A.under (.builtin "type.__call__" ⟨.ref C::aD,[]⟩)) (Á (.ref fI) (.ref e::aD)) (λr s'=>r=.none/\Q (.ref e) s') E ⟨h',g,d,t,os⟩) :
  É mo A (Á (.ref C) aD) Q E ⟨h,g,d,t,os⟩:=by
 show S.c.el λD hC hn=>?_;have f1:=tc_lookup;have f2:=tc_bind (.ref C);have hT:(⟨h,g,d,t,os⟩:Å).TypeIs (.ref C) "type" := ⟨_,hC,N⟩;show ŗ (codeAny_of_tree ?_);show É _ _ (callAny (.ref C) _) _ _ _
 repeat (any_goals (first|assumption|with_reducible refine Õ hC ?_|wp_step))
 show⟨N,(codeAny_call_builtin_at (Code.quiet_builtin _ (by decide +kernel)) entry_typeCall (wpAny_check_type_call_sub hC (Ed S h1 h2 SZ S0 jO λh' e hm=>hq h' e hm)))⟩
end
open Builtin Builtin.ObjectAttr
theorem Bv:Ă (.type "ValueError") ("word":Str)=pure Ã:=by rw[ł,ě];kernel_rfl
theorem Bz:("word":Str)∉il:=by decide +kernel
theorem Pd:("__setattr__":Str)∉il:=by decide +kernel
section
variable{A:Ñ}{E:Ä->Å->Prop}{h:Ó}{g:Array ö}{d:Drawn}{t:Nat}{os:ó}
 {C C0 x:È} {mN mN0:Str->Option Ä} {v:Ä} {vs:Array Ä} {sl:Array (Option Ä)}
def EZ(h:Ó)(x C:È)(vs:Array Ä)(sl:Array (Option Ä))(v:Ä)(h':Ó):Prop:=
 ∃D,h'.get? x=À {cls:=.ref C,dict:=À D,data:=.fields vs,slots:=sl}/\h'.Ns1 D (λy=>if y=("word":Str) then À v else Ã)/\h.get? D=Ã/\∀b ob,b≠x->h.get? b=À ob->h'.get? b=À ob
end
def jB(A:Ñ)(E:Ä->Å->Prop)(h:Ó)(g:Array ö)(d:Drawn)(t:Nat)(os:ó)(C:È)(C0:È)(x:È)(mN:Str->Option Ä)(mN0:Str->Option Ä)(v:Ä)(vs:Array Ä)(sl:Array (Option Ä))(tk:Tok)(o:Obj)(Q:PySem.Fin->Å->Prop):Prop:=∀(S:eV h C C0 mN mN0) (hx:h.get? x=À o) (hc:o.cls=.ref C) (Rc:o.dict=Ã) (SY:o.data=.fields vs) (s5:o.slots=sl) (hq:∀h' Ly,EZ h x C vs sl v h'->Q (.done (.ret .none)) ⟨h',g,d,Ly,os⟩),É mo A (Ď.«object.__setattr__» ⟨[.ref x,.str "word" tk,v],[]⟩) Q E ⟨h,g,d,t,os⟩
namespace set_entryH
def kc:=hc (U2 λb0=>U2 λb1=>U2 λb2=>yx (jB b0 b1 b2)) ({},λz z=>True,default,#[],{},0,default,0,0,0,λz=>Ã,λz=>Ã,.none,#[],#[],default,default,λz z=>True)
def A:=kc.1
def E:=kc.2.1
def h:=kc.2.2.1
def g:=kc.2.2.2.1
def d:=kc.2.2.2.2.1
def t:=kc.2.2.2.2.2.1
def os:=kc.2.2.2.2.2.2.1
def C:=kc.2.2.2.2.2.2.2.1
def C0:=kc.2.2.2.2.2.2.2.2.1
def x:=kc.2.2.2.2.2.2.2.2.2.1
def mN:=kc.2.2.2.2.2.2.2.2.2.2.1
def mN0:=kc.2.2.2.2.2.2.2.2.2.2.2.1
def v:=kc.2.2.2.2.2.2.2.2.2.2.2.2.1
def vs:=kc.2.2.2.2.2.2.2.2.2.2.2.2.2.1
def sl:=kc.2.2.2.2.2.2.2.2.2.2.2.2.2.2.1
def tk:=kc.2.2.2.2.2.2.2.2.2.2.2.2.2.2.2.1
def o:=kc.2.2.2.2.2.2.2.2.2.2.2.2.2.2.2.2.1
def Q:=kc.2.2.2.2.2.2.2.2.2.2.2.2.2.2.2.2.2
set_option tactic.hygienic true in
theorem kt:jB A E h g d t os C C0 x mN mN0 v vs sl tk o Q:=by
 intro S hx hc Rc SY s5 hq;show S.c.el λD hC hn=>?_;have SF:=PySem.F.store_ValueError;have Rx:refuseLoop (.ref x) "__setattr__" jY=pure ():=SF.passes (.ref x);unfold Ď.«object.__setattr__»
 repeat (first|rw[refuse_eq]|(rw[refuseLoop_ref,refuseLoop_ref,Rx])|(with_reducible refine Õ hx ?_;rw[hc])|with_reducible refine wpAny_mroOf_exc hC ?_|with_reducible refine dG S Bz Bv ?_|wp_step)
 rw[Rc,if_neg (by simp [typeHasDict])];split
 ·rename_i om
  show no om
 split
 ·rename_i c om
  show nomatch SY.symm.trans om
 have MK:(h.push {cls:=.type "dict",data:=.dict #[]}).get? x=À o:=N' _ hx;have Tl:x≠h.objs.size:=ŉ (ō hx);show Â (wpAny_alloc' (Â (wpAny_update' MK (Ç ?_))))
 have Zo:((h.push {cls:=.type "dict",data:=.dict #[]}).update x λo=>{cls:=o.cls,dict:=À h.objs.size,data:=o.data,slots:=o.slots}).get? h.objs.size
   = À {cls:=.type "dict",data:=.dict #[]}:=(aeJ _ _ _ _ Tl.symm).trans (ae6 N N)
 have Gx:((h.push {cls:=.type "dict",data:=.dict #[]}).update x λo=>{cls:=o.cls,dict:=À h.objs.size,data:=o.data,slots:=o.slots}).Ns h.objs.size (λ_=>Ã):=
  ⟨_,#[],_,Zo,rfl,λe he=>absurd he (by simp),λ_=>rfl⟩
 show É _ _ (storeInDict h.objs.size (.str "word" tk) "word" v) _ _ _;unfold storeInDict newKeyGuard;show Â (Ç (Â (wpAny_nsSet1 (Heap.Ns1.of_empty Gx) λh' lU hs=>t5 (lU.count (Within.cons ("word":Str) v Within.nil)) λoD esD epD ZA Zg Za=>Â (wpAny_lookBehind ZA (by rw[Zg];show pastItsLine_dict (z' Za (by rw[ϧ,adU,sizeLine_eq];show jL (y2 0xc1012ba1808013ba1800000000000001000000d1 N (iA _ _) (iA _ _))))) ?_))))
 wp_walk
 show hq h' _ ⟨h.objs.size,?_,lU,abD (Đ _),λb ob Y7 hb=>?_⟩
 ·show(hs.2 x Tl).trans ((Ϛ _ MK ?_).trans ?_)
  ·show Obj.isFreed_of_fields SY
  ·rw[hc,SY,s5]
 ·show(hs.2 b (ŉ (ō hb))).trans ((aeJ _ _ _ _ Y7).trans (N' _ hb))
end set_entryH
theorem DD{os:ó}:jB A E h g d t os C C0 x mN mN0 v vs sl tk o Q:=hk (P:=U2 λb0=>U2 λb1=>U2 λb2=>yx (jB b0 b1 b2)) set_entryH.kt (A,E,h,g,d,t,os,C,C0,x,mN,mN0,v,vs,sl,tk,o,Q)
section
variable{A:Ñ}{E:Ä->Å->Prop}{h:Ó}{g:Array ö}{d:Drawn}{t:Nat}{os:ó}
 {C C0 x:È} {mN mN0:Str->Option Ä} {v:Ä} {vs:Array Ä} {sl:Array (Option Ä)}
theorem Fx(S:eV h C C0 mN mN0)(hx:h.get? x=À o)(hc:o.cls=.ref C)(hq:Q () ⟨h,g,d,t,os⟩):É mo A (þ "object.__setattr__" ⟨[.ref x,nameV,v],[]⟩) Q E ⟨h,g,d,t,os⟩:=by
 show S.c.el λD hC hn=>?_;have SF:=PySem.F.store_ValueError;have wJ:(Value.ref C::.ref C0::jY).contains (.type "object")=Æ:=eZ SF.hasOwner;have ha:=SF.args (.ref x) nameV v
 simp only[þ,SF.kind,SF.split]
 show Â ?_
 ·unfold isInstance
  repeat (first|(with_reducible refine Õ hx ?_;rw[hc])|(with_reducible refine â hC ?_;rw[wJ])|wp_step)
  show hq
theorem HL(S:eV h C C0 mN mN0)(hx:h.get? x=À {cls:=.ref C,data:=.fields vs,slots:=sl})
  (hq:∀h' Ly,EZ h x C vs sl v h'->Q () ⟨h',g,d,Ly,os⟩):É mo A (setAttr (.ref x) "word" v) Q E ⟨h,g,d,t,os⟩:=by
 have SF:=PySem.F.store_ValueError;have f3:=SF.slot.bind (.ref x);unfold setAttr callSpecial? specialOf
 repeat (any_goals (first|assumption|with_reducible refine Õ hx ?_|with_reducible refine dG S Pd SF.slot.lookup ?_|wp_step))
 show Ċ SF.slot.plain SF.entry (Fx S hx N (DD (sl:=sl) S hx N N N N λh' Ly W=>?_))
 repeat (any_goals (first|assumption|wp_step))
 show hq h' Ly W
end
section
variable{A:Ñ}{E:Ä->Å->Prop}{s:Å}{C C0 e f:È}{mN mN0:Str->Option Ä}{v:Ä}{vs:Array Ä}
theorem Dd(I:iI s.heap f)(wM:A.depth<í)(zy:s.heap.NoLimit)(S:eV s.heap C C0 mN mN0)(hx:s.heap.get? e=À {cls:=.ref C,data:=.fields vs})
  (hq:∀h' Ly,(∃D,h'.get? e=À {cls:=.ref C,dict:=À D,data:=.fields vs}/\h'.Ns1 D (λy=>if y=("word":Str) then À v else Ã)/\s.heap.get? D=Ã/\∀b ob,b≠e->s.heap.get? b=À ob->h'.get? b=À ob)->Q .none {s with heap:=h',toks:=Ly}) :
  É mo A (Á (.ref f) [.ref e,v]) Q E s:=by
 show ED I.ex λo fd a1 a2 ho IO om=>PH IO.init λp1 p2 p3 p4 hb=>?_;have Q6:bindArgs fd ⟨[.ref e,v],[]⟩=pure ((([a1,a2].map (·.arg))).zip [.ref e,v]):=lN IO.params IO.df [.ref e,v] N (by rw[ř,ř,IO.n1,IO.n2];decide);have Op:bindArgs fd ⟨[.ref e,v],[]⟩=pure [(("self":Str),.ref e),(("word":Str),v)]:=by rw[Q6,ř,ř,IO.n1,IO.n2];rfl
 have MZ:fd.scope.names.lookup ("self":Str)=À .local:=by rw[IO.names];decide
 have M0:fd.scope.names.lookup ("word":Str)=À .local:=by rw[IO.names];decide
 show ŗ (codeAny_call_cells wM ho IO.data zy om hb Op IO.clo (λx hx=>?_) (λÌ x=>?_) IO.co IO.gen IO.kind)
 ·rcases Ĉ.mp hx with rfl|hx
  ·show .inl MZ
  ·rw[O'.mp hx];show .inl M0
 ·have keep:=x.toInCall.keep
  show mM x.toInCall.same λbF pj GA=>?_;have k1:(ĩ fd s.heap.objs.size f).kindOf ("self":Str)=À .local:=MZ;have k2:(ĩ fd s.heap.objs.size f).kindOf ("word":Str)=À .local:=M0;have nd:([(("self":Str),Value.ref e),(("word":Str),v)].map (·.1)).Nodup:=by show (["self","word"]:List Str).Nodup;decide
  show ü (plainObj_wpAny_Assign_Attribute (NameLC x IO.kind k2 (v:=v) (by rw[kC k2 _ _ nd];rfl) (NameLC x IO.kind k1 (v:=.ref e) (by rw[kC k1 _ _ nd];rfl) ?_ (by decide)) (by decide)));subst GA;show HL (h:=bF) (S.keeps keep) (keep _ _ hx) λh' Ly W=>wg W λD w1 w2 w3 w4=>ġ (hq h' Ly ⟨D,w1,w2,fR keep w3,λb ob hb UT=>w4 b ob hb (keep b ob UT)⟩)
end
def P0(f:Ä):Prop:=f=.none
def PL(L:È)(f:Ä):Prop:=f=.none\/f=ô L
structure Yj where
 T:È
 o:Obj
 ts:Array Ä
 f:Ä
structure TV(J:List È)(aZ h:Ó)(P:Ä->Prop)(e:È)(vs:Array Ä)(d:Yj):Prop where
 v:vs[1]?=À (.ref d.T)
 ne:d.T≠e
 ho:h.get? d.T=À d.o
 cls:d.o.cls=.type "traceback"
 data:d.o.data=.fields d.ts
 f:d.ts[3]?=À d.f
 p:P d.f
 T0:aZ.get? d.T=Ã
 Tφ:d.T∉J
def TU(J:List È)(aZ h:Ó)(Č:Prop)(P:Ä->Prop)(e:È)(vs:Array Ä):Prop:=(Č/\vs[1]?=À .none)\/∃d,TV J aZ h P e vs d
structure XD where
 vs:Array Ä
 D:È
 m:Str->Option Ä
 t:Tok
 sl:Array (Option Ä)
abbrev XD.obj(x:XD)(c:Nat):Obj:={cls:=.ref (gg.cls c),dict:=À x.D,data:=.fields x.vs,slots:=x.sl}
structure XB(J:List È)(aZ h:Ó)(e:È)(c:Nat)(w:Str)(x:XD):Prop where
 he:h.get? e=À (x.obj c)
 hsz:1<x.vs.size
 hD:h.Ns x.D x.m
 hm:x.m ("word":Str)=À (.str w x.t)
 D0:aZ.get? x.D=Ã
 Dφ:x.D∉J
structure XF(J:List È)(aZ h:Ó)(Č:Prop)(P:Ä->Prop)(e:È)(c:Nat)(w:Str)(x:XD):Prop where
 b:XB J aZ h e c w x
 tb:TU J aZ h Č P e x.vs
structure SG(J:List È)(aZ h:Ó)(Č:Prop)(P:Ä->Prop)(e:È)(c:Nat)(w:Str):Prop where
 ex:∃x,XF J aZ h Č P e c w x
 e0:aZ.get? e=Ã
 eφ:e∉J
 eB:gg.B.get? e=Ã
section
variable{A:Ñ}{E:Ä->Å->Prop}{J:List È}{H:ag}{s:Å}{aZ:Ó}{P:Ä->Prop}{e L:È}{c:Nat}{w:Str}{Z:Env}
theorem ar.same(R:ar gg J H h)(hB:∀b o,gg.B.get? b=À o->h.get? b=À o->h'.get? b=À o)(zD:∀a o,a∈J->h.get? a=À o->h'.get? a=À o)(hH:∀b o,h.get? b=À o->j0 o->b∉J->h'.get? b=À o):ar gg J H h':=
 ⟨λb o e=>hB b o e (R.base b o e),R.fresh,R.len,R.nodup,λi a m h1 h2=>(R.objs i a m h1 h2).stepT (λz z e=>e) (λb o e hh hn=>⟨hH b o e hh hn,hn⟩) λo e=>zD a o (ĥ h1) e,R.tabs⟩
structure yy(aZ h h':Ó)(e:È):Prop where
 old:∀b o,h.get? b=À o->aZ.get? b≠Ã->gv h' b o
 dom:∀b o,h.get? b=À o->∃o',h'.get? b=À o'
theorem yy.trans(x:yy aZ h h' e)(y:yy aZ h' qM e):yy aZ h qM e:=
 ⟨λb o e h0=>(x.old b o e h0).then λo' e'=>y.old b o' e' h0,λb o e=>by show W' (x.dom b o e) λo' e'=>?_;show y.dom b o' e'⟩
def TF(fr:List Env)(aZ:Ó):Prop:=∀f∈fr,∀L,f.frame=À L->aZ.get? L≠Ã
noncomputable def F8(fr:List Env):List È:=fr.filterMap (·.frame)
theorem A4(h:L∈F8 (br A)):∃f∈(br A),f.frame=À L:=by show aF (acT.mp h) λf hf hl=>⟨f,hf,hl⟩
theorem su.at(F:su (br A) J h)(hL:L∈F8 (br A)):∃o es ep,h.get? L=À o/\o.data=.dict es ep/\L∉J/\gg.B.get? L=Ã:=by show aF (A4 hL) λf hf hl=>?_;obtain ⟨_,L',o,es,ep,k2,k3,k4,k5,k6⟩:=F f hf;rw[hl]at k2;cases k2;show⟨o,es,ep,k3,k4,k5,k6⟩
theorem zl(F:su (br A) J h)(hb:∀L∈F8 (br A),base.get? L=Ã):h.FunFrames base (br A):=by
 unfold su F8 at *;generalize br A=l at F hb ⊢
 induction l with
 |nil=>trivial
 |cons f r ih=>obtain ⟨k1,L,o,es,ep,k2,k3,k4,_,_⟩:=F f G';show⟨k1,⟨L,o,k2,hb L (acT.mpr ⟨f,G',k2⟩),k3,λvs q=>nomatch k4.symm.trans q⟩,ih (λf hf=>F f (J' _ hf)) λL hL=>hb L (aF (acT.mp hL) λf' EJ jd=>acT.mpr ⟨f',J' _ EJ,jd⟩)⟩
theorem Hm(b:È):(({}:Ó)).get? b=Ã:=abD (Ĥ _)
theorem XB.De(b:XB J aZ h e c w x):x.D≠e:=λq=>by show t5 b.hD λo es ep ho hd z=>?_;rw[q,b.he]at ho;cases ho;cases hd
structure ml(fr:List Env)(J:List È)(H:ag)(aZ h:Ó)(Č:Prop)(P:Ä->Prop)(e:È)(c:Nat)(w:Str):Prop where
 R:ar gg J H h
 FS:su fr J h
 F0:TF fr aZ
 dom:∀b o,aZ.get? b=À o->∃o',h.get? b=À o'
 B0:∀b o,gg.B.get? b=À o->aZ.get? b=À o
 X:SG J aZ h Č P e c w
theorem ml.free(Y:ml (br A) J H aZ h Č P e c w)(ha:aZ.get? a=Ã)(hL:L∈F8 (br A)):L≠a:=λq=>aF (A4 hL) λf hf hl=>Y.F0 f hf L hl (q▸ha)
theorem JK(Y:ml (br A) J H aZ h Č P₀ e c w)(y:XB J aZ h e c w x)(hs:Heap.SlotsOnly (F8 (br A)) h bF)(hc:oT.cls=.type "traceback")(hd:oT.data=.fields ts)(h3:ts[3]?=À f)(hP:P f)
  (eh:h'=(bF.push oT).update e (Obj.mapFields (·.setIfInBounds 1 (.ref bF.objs.size)))):ml (br A) J H aZ h' False P e c w/\yy aZ h h' e:=by
 have e1:bF.get? e=À (x.obj c):=(hs.2.1 e λq=>Y.free Y.X.e0 q N).trans y.he;have Xd:bF.objs.size≠e:=ū (ō e1);have Hs:∀b,b≠e->h'.get? b=(bF.push oT).get? b:=λb hb=>(congrArg (afe · b) eh).trans (ϫ _ _ (Ne.symm hb));have ee:h'.get? e=À (XD.obj ⟨x.vs.setIfInBounds 1 (.ref bF.objs.size),x.D,x.m,x.t,x.sl⟩ c):=(congrArg (afe · e) eh).trans (Ϛ _ (N' _ e1) N);have T':h'.get? bF.objs.size=À oT:=(Hs _ Xd).trans (Ł _ (Obj.isFreed_of_fields hd));clear eh;have keep:∀b o,b≠e->bF.get? b=À o->h'.get? b=À o:=λb o hb e2=>(Hs b hb).trans (N' _ e2);have ex:∀b o,b≠e->b∉F8 (br A)->h.get? b=À o->h'.get? b=À o:=λb o hb hf e2=>keep b o hb ((hs.2.1 b hf).trans e2);have WX:∀b o,b∈F8 (br A)->h.get? b=À o->∃es ep,o.data=.dict es ep:=λb o hb e2=>t5 (Y.FS.at hb) λo' es ep k1 k2 z=>⟨es,ep,by rw[sm (e2.symm.trans k1)];show k2⟩
 have kp:∀b o,b≠e->h.get? b=À o->gv h' b o:=λb o hb e2=>by
  by_cases hf:b∈F8 (br A)
  ·show(hs.2.2 b o e2).elim λWs e3=>.inr ⟨WX b o hf e2,Ws,keep b _ hb e3⟩
  ·show .inl (ex b o hb hf e2)
 have WH:∀b o,h.get? b=À o->∃o',h'.get? b=À o':=λb o e2=>by
  by_cases hb:b=e
  ·show⟨_,hb▸ee⟩
  ·show(kp b o hb e2).live
 have T0:h.get? bF.objs.size=Ã:=abD (by rw[hs.1];show Đ _)
 show⟨⟨Y.R.same (λb o hb e2=>ex b o (λq=>no (Y.X.eB.symm.trans (q▸hb))) (λhf=>JH (Y.FS.at hf) λz z z z z z k4=>no (k4.symm.trans hb)) e2)
  (λa o ha e2=>ex a o (λq=>Y.X.eφ (q▸ha)) (λhf=>JH (Y.FS.at hf) λz z z z z k3 z=>k3 ha) e2)
  (λb o e2 hh hn=>ex b o (λq=>?_) (λhf=>mM (WX b o hf e2) λes ep k2=>sP k2 hh) e2),
  Y.FS.to λL o es ep k1 k2 k3=>⟨(kp L o (λq=>?_) k1).isD k2,k3⟩,Y.F0,λb o e2=>(Y.dom b o e2).elim (WH b),Y.B0,
  ⟨⟨⟨x.vs.setIfInBounds 1 (.ref bF.objs.size),x.D,x.m,x.t,x.sl⟩,⟨ee,by rw[Array.size_setIfInBounds];show y.hsz,gv.ns y.hD λo e2=>kp x.D o y.De e2,y.hm,y.D0,y.Dφ⟩,.inr ⟨⟨bF.objs.size,oT,ts,f⟩,?_,Xd,T',hc,hd,h3,hP,km λo q=>(Y.dom _ o q).elim λo' e3=>no (T0.symm.trans e3),aX Y.R T0⟩⟩,Y.X.e0,Y.X.eφ,Y.X.eB⟩⟩,⟨λb o e2 hb=>kp b o (λq=>hb (q▸Y.X.e0)) e2,WH⟩⟩
 ·have q2:=sm (y.he.symm.trans (q▸e2))
  rw[<-q2]at hh;show hh.elim (λk=>nomatch k.1) λk=>nomatch k.1
 ·have q2:=sm (y.he.symm.trans (q▸k1))
  rw[<-q2]at k2;show nomatch k2
 ·show(ac2 y.hsz)
end
section
variable{A:Ñ}{E:Ä->Å->Prop}{J:List È}{H:ag}{s:Å}{aZ:Ó}{Č:Prop}{P P':Ä->Prop}{e L:È}{c:Nat}{w:Str}{Z:Env}
theorem SG.mono(X:SG J aZ h Č P e c w)(hU:Č->U')(hP:∀f,P f->P' f):SG J aZ h U' P' e c w:=
 ⟨X.ex.elim λx y=>⟨x,y.b,y.tb.imp (λq=>⟨hU q.1,q.2⟩) λq=>q.elim λd z=>⟨d,z.v,z.ne,z.ho,z.cls,z.data,z.f,hP _ z.p,z.T0,z.Tφ⟩⟩,X.e0,X.eφ,X.eB⟩
theorem ml.mono(Y:ml (br A) J H aZ h Č P e c w)(hU:Č->U')(hP:∀f,P f->P' f):ml (br A) J H aZ h U' P' e c w:=⟨Y.R,Y.FS,Y.F0,Y.dom,Y.B0,Y.X.mono hU hP⟩
theorem XB.DT(b:XB J aZ h e c w x)(z:TV J aZ h P e x.vs d):x.D≠d.T:=λq=>by show t5 b.hD λo es ep ho hd y=>?_;have:=sm (z.ho.symm.trans (q▸ho));rw[<-this]at hd;show nomatch z.data.symm.trans hd
theorem yy.refl(aZ h:Ó)(e:È):yy aZ h h e:=⟨λb o e z=>.inl e,λb o e=>⟨o,e⟩⟩
theorem wD(Y:ml (br A) J H aZ h Č P e c w)(b:XB J aZ h e c w x)(z:TV J aZ h P e x.vs d)(hP:P' v)(eh:h'=h.update d.T (Obj.mapFields (·.setIfInBounds 3 v))):
  ml (br A) J H aZ h' False P' e c w/\yy aZ h h' e/\XB J aZ h' e c w x:=by
 have Hs:∀b,b≠d.T->h'.get? b=h.get? b:=λb hb=>(congrArg (afe · b) eh).trans (ϫ _ _ (Ne.symm hb));have ke:=Obj.data_mapFields z.data (·.setIfInBounds 3 v);have TT:h'.get? d.T=À (Obj.mapFields (·.setIfInBounds 3 v) d.o):=(congrArg (afe · d.T) eh).trans (Ϛ _ z.ho (Obj.isFreed_of_fields ke));clear eh
 have dm:∀b o,h.get? b=À o->∃o',h'.get? b=À o':=λb o e2=>by
  by_cases hb:b=d.T
  ·show⟨_,hb▸TT⟩
  ·show⟨o,(Hs b hb).trans e2⟩
 have XT:∀{b o},h.get? b=À o->b=d.T->o=d.o:=λe2 q=>sm (e2.symm.trans (q▸z.ho));have B:XB J aZ h' e c w x:=⟨(Hs e z.ne.symm).trans b.he,b.hsz,oS b.hD λo es ep ho r=>⟨o,es,ep,(Hs x.D (b.DT z)).trans ho,r⟩,b.hm,b.D0,b.Dφ⟩
 show⟨⟨Y.R.same (λb o hb e2=>(Hs b λq=>no (z.T0.symm.trans (q▸Y.B0 b o hb))).trans e2) (λa o ha e2=>(Hs a λq=>z.Tφ (q▸ha)).trans e2) (λb o e2 hh hn=>(Hs b λq=>?_).trans e2),
  Y.FS.to λL o es ep k1 k2 k3=>⟨⟨o,es,ep,(Hs L λq=>?_).trans k1,k2⟩,k3⟩,Y.F0,λb o e2=>(Y.dom b o e2).elim (dm b),Y.B0,
  ⟨⟨x,B,.inr ⟨⟨d.T,_,_,v⟩,z.v,z.ne,TT,(Obj.cls_mapFields _ _).trans z.cls,ke,?_,hP,z.T0,z.Tφ⟩⟩,Y.X.e0,Y.X.eφ,Y.X.eB⟩⟩,⟨λb o e2 hb=>.inl ((Hs b λq=>hb (q▸z.T0)).trans e2),dm⟩,B⟩
 ·rw[XT e2 q]at hh
  show hh.elim (λk=>absurd (z.cls.symm.trans k.1) (by decide)) λk=>absurd (z.cls.symm.trans k.1) (by decide)
 ·rw[XT k1 q]at k2
  show nomatch z.data.symm.trans k2
 ·show ac2 (act.mp z.f).1
theorem iC(Y:ml (br A) J H aZ s.heap Č P e c w)(hP:P' (fr.elim .none λf=>ô f))
  (hQ:∀h',ml (br A) J H aZ h' Č P' e c w->yy aZ s.heap h' e->Q () {s with heap:=h'}):É mo A (setFlight (.ref e) fr) Q E s:=by
 show W' Y.X.ex λx y=>?_;unfold setFlight;show ã y.tb (λq=>?_) λq=>W' q λd z=>?_
 ·show Â (ß y.b.he N q.2 ?_)
  rw[if_neg (by decide)];show Ç (hQ s.heap ⟨Y.R,Y.FS,Y.F0,Y.dom,Y.B0,⟨x,y.b,.inl q⟩,Y.X.e0,Y.X.eφ,Y.X.eB⟩ (yy.refl _ _ _))
 ·show Â (ß y.b.he N z.v ?_)
  rw[if_pos (show (Value.ref d.T != Value.none)=Æ from by simp)];show gH (wD (P':=P') Y y.b z hP rfl) λY' K' k=>ħ z.ho z.data (act.mp z.f).1 (hQ _ (Y'.mono (λq=>q.elim) λk q=>q) K')
theorem sS(Gq:A.frames=À (Z::bQ))(hf:Z.frame=À L)(Y:ml (br A) J H aZ s.heap Č P e c w)(y:XB J aZ s.heap e c w x)(Vf:Ä)(b:Bool)
  (hQ:∀h',ml (br A) J H aZ h' False (PL L) e c w->yy aZ s.heap h' e->Q () {s with heap:=h'}):É mo A (do let a <-frameOf Z;let pl <-entryPlaceOf L b;let x <-EntryCells.newEntry Vf a .none (ô L) .none pl;setField (.ref e) 1 x) Q E s:=by
 have hg:br A=Z::bQ:=by unfold br;rw[Gq];rfl
 show Â (wpAny_frameOf_fun (base:={}) Gq (hg▸zl Y.FS λL z=>Hm L) hf λbF kf=>Â (wpAny_entryPlaceOf λpl zz=>?_));unfold EntryCells.newEntry newFields;show Â (ç ?_ (zz.sizeOk5 _ _ _ _ _));have GB:Heap.SlotsOnly (F8 (br A)) s.heap bF:=by unfold F8;rw[hg];show kf
 refine ħ (N' _ ((GB.2.1 e λq=>Y.free Y.X.e0 q rfl).trans y.he)) rfl y.hsz ?_;exact aO (JK (P:=PL L) (f:=ô L) Y y GB rfl rfl (by first|rfl|simp) (.inr rfl) rfl) λY' K'=>hQ _ Y' K'
theorem Aa(Gq:A.frames=À (Z::bQ))(hf:Z.frame=À L)(Y:ml (br A) J H aZ s.heap Č (PL L) e c w)
  (hQ:∀h',ml (br A) J H aZ h' False (PL L) e c w->yy aZ s.heap h' e->Q () {s with heap:=h'}):É mo A (noteFrame (.ref e) Z) Q E s:=by
 show W' Y.X.ex λx y=>?_;unfold noteFrame
 simp only[hf]
 show ã y.tb (λq=>?_) λq=>W' q λd z=>?_
 ·show Â (ß y.b.he N q.2 ?_)
  rw[if_neg (by decide)];show sS Gq hf Y y.b .none _ hQ
 ·show Â (ß y.b.he N z.v ?_)
  rw[if_pos (show (Value.ref d.T != Value.none)=Æ from by simp)];show Â (ß z.ho z.data z.f ?_);by_cases S3:(d.f==ô L)=Æ
  ·rw[if_pos S3]
   show Ç (hQ s.heap ⟨Y.R,Y.FS,Y.F0,Y.dom,Y.B0,⟨x,y.b,.inr ⟨d,z⟩⟩,Y.X.e0,Y.X.eφ,Y.X.eB⟩ (yy.refl _ _ _))
  ·rw[if_neg S3]
   show gH (wD (P':=PL L) Y y.b z (.inl N) N) λY' K' B'=>Â (ħ z.ho z.data (act.mp z.f).1 ?_);show sS (s:={s with heap:=s.heap.update d.T (Obj.mapFields (·.setIfInBounds 3 Value.none))}) Gq hf Y' B' (.ref d.T) _ λh' Y2 K2=>hQ h' Y2 (K'.trans K2)
theorem Ku(Gq:A.frames=À (Z::bQ))(hf:Z.frame=À L)(Y:ml (br A) J H aZ s.heap Č (PL L) e c w)
  (hQ:∀h',ml (br A) J H aZ h' False P0 e c w->yy aZ s.heap h' e->Q () {s with heap:=h'}):É mo A (leaving Z (.ref e)) Q E s:=by
 unfold leaving;show Â (Aa Gq hf Y λh' Y' K'=>iC (s:={s with heap:=h'}) (P':=P0) Y' N λqM Y2 K2=>hQ qM Y2 (K'.trans K2))
theorem N4(hf:Z.frame=À L)(Y:ml (br A) J H aZ s.heap False (PL L) e c w)
  (hQ:∀h',ml (br A) J H aZ h' False (PL L) e c w->yy aZ s.heap h' e->E' (.ref e) {s with heap:=h'}):Ĩ mo A Z E' (.ref e) s:=by
 show W' Y.X.ex λx y=>?_;unfold Ĩ;show ã y.tb (λq=>q.1.elim) λq=>W' q λd z=>Â (ß y.b.he rfl z.v ?_);rw[if_neg (by simp)];show iC (P':=PL L) Y (by rw[hf];show .inr rfl) hQ
end
theorem yi(C:È)(v:Ä):(Code.builtin "type.__call__" ⟨[.ref C,v],[]⟩).weight=1:=by kernel_rfl
theorem l0(h:gR.lookup x=À c):(c=0/\x=("LarderError":Str))\/(c=1/\x=("TooMuch":Str))\/(c=2/\x=("Short":Str))\/(c=3/\x=("ValueError":Str)):=by
 have hm:=mem_of_lookup h
 simp only[gR,Ĉ,Prod.mk.injEq,ac',or_false]at hm
 rcases hm with ⟨h1,h2⟩|⟨h1,h2⟩|⟨h1,h2⟩|⟨h1,h2⟩
 ·show .inl ⟨h2,h1⟩
 ·show .inr (.inl ⟨h2,h1⟩)
 ·show .inr (.inr (.inl ⟨h2,h1⟩))
 ·show .inr (.inr (.inr ⟨h2,h1⟩))
section
variable{A:Ñ}{E:Ä->Å->Prop}{s:Å}{Z:Env}{C C0:È}{mN mN0:Str->Option Ä}
theorem Ae(hh:A.handled=Ã)
  (h:É mo A x (λv Ì=>∃e t D,v=.ref e/\eV Ì.heap C C0 mN mN0/\Ì.heap.get? e=À {cls:=.ref C,dict:=À D,data:=.fields #[.ref t,.none,.none,.none,.bool Ê,.none]}/\E (.ref e) Ì) E s) :
  É mo A (raiseStmt Z (À x) Ã) Q E s:=by
 have wJ:(Value.ref C::.ref C0::jY).contains (.type "BaseException")=Æ:=eZ PySem.F.excBase_ValueError.hasBase;unfold raiseStmt;show Â (Ï h (λv Ì bF=>?_) λz z x=>x);show JH bF λe t D q4 S he hE=>?_;apply aW q4;show S.c.el λD hC hn=>?_;obtain ⟨hp,g,d,tk,os⟩:=Ì
 repeat (first|with_reducible refine Õ he ?_|with_reducible refine Õ hC ?_|(with_reducible refine â hC ?_;rw[wJ])|wp_step)
 show wpAny_raiseNew_none hh hE
end
section
variable{A:Ñ}{E:Ä->Å->Prop}{J:List È}{H:ag}{s:Å}{Z:Env}{O:List (Str×Nat)}{U:aL}{Á:az}{d:Nat}
theorem iI.keeps(I:iI h f)(hk:∀b o,h.get? b=À o->h'.get? b=À o):iI h' f:=by show ED I.ex λo fd a1 a2 ho IO om=>⟨o,fd,a1,a2,hk _ _ ho,IO,om.keeps hk⟩
theorem vg(G:fN gg cx fs mg mb)(hc:c=1\/c=2):∃mN mN0 f,eV gg.B (gg.cls c) (gg.cls 0) mN mN0/\mN ("__init__":Str)=Ã/\mN0 ("__init__":Str)=À (.ref f)/\iI gg.B f:=by
 show fu G.exc.c0 λm0 f a1 a2 a3=>?_;rcases hc with rfl|rfl
 ·show aF G.exc.c1 λm1 b1 b2=>⟨m1,m0,f,⟨b1,a1⟩,b2,a2,a3⟩
 ·show aF G.exc.c2 λm1 b1 b2=>⟨m1,m0,f,⟨b1,a1⟩,b2,a2,a3⟩
theorem vZ(G:fN gg cx fs mg mb)(h:gR.lookup x=À c)(hc:c=1\/c=2\/c=0):mg x=À (.ref (gg.cls c)):=by
 rcases l0 h with ⟨rfl,rfl⟩|⟨rfl,rfl⟩|⟨rfl,rfl⟩|⟨rfl,rfl⟩
 ·show G.exc.n0
 ·show G.exc.n1
 ·show G.exc.n2
 ·rcases hc with q|q|q<;>cases q
theorem KW(hA:iZ A d)(G:fN gg cx fs mg mb)(hg:bi Z.scope x=Æ)(zw:gR.lookup x=À c)(hc:c=1\/c=2)(ic:∀y q,e≠.Starred y q)(hx:aS A Z O e (ab Á a))(he:ab Á a U H=À (.str wd,Î))(R:ar gg J H s.heap)(F:eH (br A) J Z O U s.heap)
  (hE:∀ea aj s',SE J s.heap aj s'.heap->bJ s s'->ml (br A) aj Î s.heap s'.heap True P0 ea c wd->E (.ref ea) s') :
  É mo A (exec (.Raise (À (.Call (.Name x np) [e] [] py)) Ã pos) Z) Q E s:=by
 show JH (vg G hc) λmN mN0 f S2 i1 i2 i3=>aO (bM hg) λmn mq=>?_;have fy:Ù [e] Z=(Ê,eval e Z)::Ù [] Z:=nD ic
 have wM:A.depth<í:=by
  have h1:=hA.depth;have h2:600<í:=by decide
  show jT (y4 0x1c1310b02589011b10258910b20813ba230 N (iL h1) (iT h2) (iP _) (iA _ _))
 have Rb:∀v:Ä,(A.under (.builtin "type.__call__" ⟨[.ref (gg.cls c),v],[]⟩)).depth<í:=λv=>by
  have h1:=hA.depth;have h2:700<í:=by decide
  have h3:=yi (gg.cls c) v;show A.depth+(Code.builtin "type.__call__" ⟨[.ref (gg.cls c),v],[]⟩).weight<_;show jT (y6 0x1c1310b02589011b102bc912b18212ba24310b50813ba540 N (iL h1) (iT h2) (iE h3) (iA _ _) (iP _) (iA _ _))
 rw[arm_exec_Raise];show Â (đ (Ae (C:=gg.cls c) (C0:=gg.cls 0) (mN:=mN) (mN0:=mN0) hA.handled (Â (Ï (wpAny_Call_ofName (ja G F R mn mq (vZ G zw (by rcases hc with q|q;show .inl q;show .inr (.inl q))) ?_)) (λv iX dZ=>Â (đ (Ç dZ))) λz z x=>x))));show É _ _ (callWith py (.ref (gg.cls c)) [] (Ĳ py (Ù [e] Z)) []) _ _ _;rw[fy];unfold callWith;show Â (à (evalArgs_plain ?_));show É _ _ (spliced (Ĳ py ((Ê,eval e Z)::Ù [] Z))) _ _ _;have spl:∀{Q':List Ä->Å->Prop},É mo A (spliced (Ĳ py (Ù [e] Z))) Q' E s->É mo A (spliced (Ĳ py ((Ê,eval e Z)::Ù [] Z))) Q' E s:=λh=>by rw[fy]at h;show h
 show spl (è (hx.bind he R F λb Ì aj S T aC a0 bh=>Ē ?_) fy);apply Wx N bh;intro t;show Â (đ ?_);have LV:=S2.keeps aC.base;show LV.c.el λD hC hn=>?_
 have A8:∃o,gg.B.get? f=À o/\o.cls=.type "function" := by
  show ED i3.ex λo fd a1 a2 ho IO z=>⟨o,ho,IO.cls⟩
 show aF A8 λoI ZD VJ=>?_;have zy:Ì.heap.NoLimit:=G.nolimit.keeps aC.base
 have Qg:TF (br A) s.heap:=λf' EJ L hl=>by obtain ⟨_,L',o,es,ep,k2,k3,_⟩:=F.stk f' EJ;apply aW (sm ((hl).symm.trans k2));rw[k3];show λq=>nomatch q
 obtain ⟨hp,gg,dd,tk,os⟩:=Ì;show Â (wpAny_keeperOf_exc hC (Â (Fv LV i1 i2 (aC.base _ _ ZD) VJ (ab0 rfl) λh' ea hm=>dN hm.there λtt Zj htn MI=>Ï (Dd (s:=⟨h',gg,dd,tk,os⟩) ((i3.keeps aC.base).keeps hm.keeps) (Rb _) (zy.keeps hm.keeps) (LV.keeps hm.keeps) Zj λh2 tk2 W=>wg W λD w1 w2 w3 w4=>?_) (λv s' q=>q) λz z x=>x)));have uw:∀b o,hp.get? b=À o->h2.get? b=À o:=λb o e2=>w4 b o (λq=>by rw[q,hm.new]at e2;show no e2) (hm.keeps b o e2);show⟨rfl,Â (à (wpAny_point (Ç ⟨ea,tt,D,rfl,LV.keeps uw,w1,?_⟩)))⟩;have S':SE J s.heap aj h2:=S.trans (SE.keeps _ uw);have e0:hp.get? ea=Ã:=hm.new;have D0:hp.get? D=Ã:=fR hm.keeps w3;show hE ea aj ⟨h2,gg,dd,tk2,os⟩ S' (T.trans ⟨rfl,rfl,rfl⟩) ⟨aC.keeps uw,(a0.step aC (SE.keeps _ uw)).stk,Qg,S'.dom,R.base,⟨⟨⟨_,D,λy=>if y=("word":Str) then À (.str wd t) else Ã,t,_⟩,⟨w1,ab0 rfl,w2.ns,(if_pos rfl:(if ("word":Str)=("word":Str) then À (Value.str wd t) else Ã)=_),S.back D0,aX aC D0⟩,.inl ⟨trivial,rfl⟩⟩,S.back e0,aX aC e0,aV aC e0⟩⟩
end
open Builtin Builtin.ObjectAttr
theorem M6:("__getattribute__":Str)∉il:=by decide +kernel
theorem M7:("__getattr__":Str)∉il:=by decide +kernel
theorem R5:("__class__":Str)∉il:=by decide +kernel
theorem RV:Ă (.type "ValueError") ("__class__":Str)=pure (À (.builtin "object.__class__")):=by rw[ł,ě];kernel_rfl
section
variable{A:Ñ}{E:Ä->Å->Prop}{h:Ó}{g:Array ö}{d:Drawn}{t:Nat}{os:ó}
 {C C0 a D:È} {mN mN0 m:Str->Option Ä} {v:Ä} {o:Obj} {vs:Array Ä} {FB:ExcAttrBase "ValueError" jY}
theorem vW(S:eV h C C0 mN mN0)(hx:h.get? a=À o)(hc:o.cls=.ref C)(hq:Q () ⟨h,g,d,t,os⟩):É mo A (þ "BaseException.__getattribute__" ⟨[.ref a,nameV],[]⟩) Q E ⟨h,g,d,t,os⟩:=by
 show S.c.el λD hC hn=>?_;have hk:builtinKind "BaseException.__getattribute__" = À .slot:=by decide +kernel
 have OL:splitId "BaseException.__getattribute__" = À ("BaseException","__getattribute__"):=by decide +kernel
 have wJ:(Value.ref C::.ref C0::jY).contains (.type "BaseException")=Æ:=eZ PySem.F.excBase_ValueError.hasBase;have ha:=PySem.F.args_bexc_ga (.ref a) nameV
 simp only[þ,hk,OL]
 show Â ?_
 ·unfold isInstance
  repeat (first|(with_reducible refine Õ hx ?_;rw[hc])|(with_reducible refine â hC ?_;rw[wJ])|wp_step)
  show hq
end
def iG(A:Ñ)(E:Ä->Å->Prop)(h:Ó)(g:Array ö)(d:Drawn)(t:Nat)(os:ó)(C:È)(C0:È)(a:È)(D:È)(mN:Str->Option Ä)(mN0:Str->Option Ä)(m:Str->Option Ä)(v:Ä)(o:Obj)(vs:Array Ä)(tk:Tok)(Q:PySem.Fin->Å->Prop):Prop:=∀(S:eV h C C0 mN mN0) (hx:h.get? a=À o) (hc:o.cls=.ref C) (hd:o.data=.fields vs) (lz:o.dict=À D) (hD:h.Ns D m) (hw:m ("word":Str)=À v) (hq:Q (.done (.ret v)) ⟨h,g,d,t,os⟩),É mo A (Ď.«object.__getattribute__» ⟨[.ref a,.str "word" tk],[]⟩) Q E ⟨h,g,d,t,os⟩
namespace word_entryH
def kc:=hc (U2 λb0=>U2 λb1=>U2 λb2=>U2 λb3=>yx (iG b0 b1 b2 b3)) ({},λz z=>True,default,#[],{},0,default,0,0,0,0,λz=>Ã,λz=>Ã,λz=>Ã,.none,default,#[],default,λz z=>True)
def A:=kc.1
def E:=kc.2.1
def h:=kc.2.2.1
def g:=kc.2.2.2.1
def d:=kc.2.2.2.2.1
def t:=kc.2.2.2.2.2.1
def os:=kc.2.2.2.2.2.2.1
def C:=kc.2.2.2.2.2.2.2.1
def C0:=kc.2.2.2.2.2.2.2.2.1
def a:=kc.2.2.2.2.2.2.2.2.2.1
def D:=kc.2.2.2.2.2.2.2.2.2.2.1
def mN:=kc.2.2.2.2.2.2.2.2.2.2.2.1
def mN0:=kc.2.2.2.2.2.2.2.2.2.2.2.2.1
def m:=kc.2.2.2.2.2.2.2.2.2.2.2.2.2.1
def v:=kc.2.2.2.2.2.2.2.2.2.2.2.2.2.2.1
def o:=kc.2.2.2.2.2.2.2.2.2.2.2.2.2.2.2.1
def vs:=kc.2.2.2.2.2.2.2.2.2.2.2.2.2.2.2.2.1
def tk:=kc.2.2.2.2.2.2.2.2.2.2.2.2.2.2.2.2.2.1
def Q:=kc.2.2.2.2.2.2.2.2.2.2.2.2.2.2.2.2.2.2
set_option tactic.hygienic true in
theorem kt:iG A E h g d t os C C0 a D mN mN0 m v o vs tk Q:=by
 intro S hx hc hd lz hD hw hq;show S.c.el λD hC hn=>?_
 repeat (any_goals (first|assumption|(with_reducible refine Õ hx ?_;rw[hc])|with_reducible refine dG S Bz Bv ?_|wp_step))
 split
 ·rename_i c om
  rw[hd]at om;cases om
 unfold instanceDict
 repeat (first|(with_reducible refine Õ hx ?_;rw[hc])|with_reducible refine Õ hC ?_|wp_step)
 rw[lz]
 repeat (first|(with_reducible refine wpAny_nsGet hD ?_;rw[hw])|wp_step)
 show hq
end word_entryH
theorem Aw{os:ó}:iG A E h g d t os C C0 a D mN mN0 m v o vs tk Q:=hk (P:=U2 λb0=>U2 λb1=>U2 λb2=>U2 λb3=>yx (iG b0 b1 b2 b3)) word_entryH.kt (A,E,h,g,d,t,os,C,C0,a,D,mN,mN0,m,v,o,vs,tk,Q)
section
variable{A:Ñ}{E:Ä->Å->Prop}{h:Ó}{g:Array ö}{d:Drawn}{t:Nat}{os:ó}
 {C C0 a D:È} {mN mN0 m:Str->Option Ä} {v:Ä} {o:Obj} {vs:Array Ä} {FB:ExcAttrBase "ValueError" jY}
theorem Eh(S:eV h C C0 mN mN0)(hx:h.get? a=À o)(hc:o.cls=.ref C)(hd:o.data=.fields vs)(lz:o.dict=À D)(hD:h.Ns D m)(hw:m ("word":Str)=À v)(hq:R (.ok (.ret v)) ⟨h,g,d,t,os⟩):
  Ğ mo A (.call (.builtin "BaseException.__getattribute__") ⟨[.ref a,.str "word" tk],[]⟩) R ⟨h,g,d,t,os⟩:=
 Ċ PySem.F.attrBase_ValueError.ga.plain PySem.F.entry_bexc_ga (vW S hx hc (Aw S hx hc hd lz hD hw hq))
theorem LD{tk:Tok}{fill expr:Bool}{Q:Ä->Å->Prop}(S:eV h C C0 mN mN0)(hx:h.get? a=À o)(hc:o.cls=.ref C)(hd:o.data=.fields vs)(lz:o.dict=À D)(hD:h.Ns D m)(hw:m ("word":Str)=À v)(hh:handedOut v=pure v)(hq:Q v ⟨h,g,d,t,os⟩):
  É mo A (getAttrBy (.ref a) (.str "word" tk) fill expr) Q E ⟨h,g,d,t,os⟩:=by
 have f3:=PySem.F.attrBase_ValueError.ga.bind (.ref a);have OQ:(expr&&onTheHeap (Value.builtin "BaseException.__getattribute__"))=Ê:=by cases expr<;>rfl
 have PZ:(Value.builtin "BaseException.__getattribute__"==Value.builtin "object.__getattribute__")=Ê:=by decide +kernel
 have MJ:(onTheHeap (Value.ref C)&&Value.builtin "BaseException.__getattribute__"==Value.builtin "object.__getattribute__")=Ê:=by rw[PZ];rfl
 repeat (any_goals (first|assumption|(with_reducible refine Õ hx ?_;rw[hc])|with_reducible refine dG S M6 PySem.F.attrBase_ValueError.ga.lookup ?_|with_reducible refine dG S M7 PySem.F.attrBase_ValueError.noGetattr ?_|wp_step))
 show Eh S hx hc hd lz hD hw ?_;show É _ _ (handedOut v) _ _ _;rw[hh];show Ç hq
theorem Eg{expr:Bool}{Q:Ä->Å->Prop}(S:eV h C C0 mN mN0)(hx:h.get? a=À o)(hc:o.cls=.ref C)(hd:o.data=.fields vs)(lz:o.dict=À D)(hD:h.Ns D m)(hw:m ("word":Str)=À v)(hh:handedOut v=pure v)(hq:Q v ⟨h,g,d,t+1,os⟩):
  É mo A (getAttr (.ref a) "word" expr) Q E ⟨h,g,d,t,os⟩:=by
 unfold getAttr
 repeat (any_goals (first|assumption|with_reducible apply LD S hx hc hd lz hD hw hh|wp_step))
end
open Builtin Builtin.ObjectAttr
section
variable{A:Ñ}{E:Ä->Å->Prop}{h:Ó}{g:Array ö}{d:Drawn}{t:Nat}{os:ó}
 {C C0 a D:È} {mN mN0 m:Str->Option Ä} {v cv:Ä} {o:Obj} {vs:Array Ä} {b:Bool}
theorem CH(S:eV h C C0 mN mN0)(hx:h.get? a=À o)(hc:o.cls=.ref C)(hq:R (.ok (.ret (.ref C))) ⟨h,g,d,t,os⟩):
  Ğ mo A (.call (.builtin "getset_descriptor.__get__") ⟨[.builtin "object.__class__",.ref a,.ref C],[]⟩) R ⟨h,g,d,t,os⟩:=by
 show S.c.el λD hC hn=>?_;have Xc:(⟨h,g,d,t,os⟩:Å).TypeIs (.builtin "object.__class__") "getset_descriptor" := PySem.F.typeOf_object_class
 have wJ:(Value.ref C::.ref C0::jY).contains (.type (".".intercalate ("object.__class__".cutAt '.').dropLast))=Æ:=by rw[PySem.F.owner_object_class];show eZ (by decide +kernel)
 show Ċ PySem.F.slot_gs_get.plain PySem.F.entry_gs_get (PySem.F.slot_gs_get.check _ _ _ _ _ _ _ _ Xc (PySem.F.args_gs_get _ _ _) ?_)
 repeat (any_goals (first|assumption|(with_reducible refine Õ hx ?_;rw[hc])|(with_reducible refine â hC ?_;rw[wJ])|wp_step))
 show⟨Code.quiet_builtin _ (by decide +kernel),é PySem.F.entry_object_class ?_⟩
 repeat (any_goals (first|assumption|(with_reducible refine Õ hx ?_;rw[hc])|wp_step))
theorem vX(S:eV h C C0 mN mN0)(hx:h.get? a=À o)(hc:o.cls=.ref C)(hq:Q (.done (.ret (.ref C))) ⟨h,g,d,t,os⟩):
  É mo A (Ď.«object.__getattribute__» ⟨[.ref a,.str "__class__" tk],[]⟩) Q E ⟨h,g,d,t,os⟩:=by
 have Xc:(⟨h,g,d,t,os⟩:Å).TypeIs (.builtin "object.__class__") "getset_descriptor" := PySem.F.typeOf_object_class;have f5:=PySem.F.typeOf_object_class;have f6:=PySem.F.slot_gs_get.lookup;have f7:=PySem.F.slot_gs_set.lookup
 repeat (any_goals (first|assumption|(with_reducible refine Õ hx ?_;rw[hc])|with_reducible refine dG S R5 RV ?_|wp_step))
 show CH S hx hc ?_
 repeat (any_goals (first|assumption|wp_step))
theorem yR(S:eV h C C0 mN mN0)(hx:h.get? a=À o)(hc:o.cls=.ref C)(hq:R (.ok (.ret (.ref C))) ⟨h,g,d,t,os⟩):
  Ğ mo A (.call (.builtin "BaseException.__getattribute__") ⟨[.ref a,.str "__class__" tk],[]⟩) R ⟨h,g,d,t,os⟩:=
 Ċ PySem.F.attrBase_ValueError.ga.plain PySem.F.entry_bexc_ga (vW S hx hc (vX S hx hc hq))
theorem Fy{tk:Tok}{fill expr:Bool}{Q:Ä->Å->Prop}(S:eV h C C0 mN mN0)(hx:h.get? a=À o)(hc:o.cls=.ref C)(hq:Q (.ref C) ⟨h,g,d,t,os⟩):
  É mo A (getAttrBy (.ref a) (.str "__class__" tk) fill expr) Q E ⟨h,g,d,t,os⟩:=by
 have f3:=PySem.F.attrBase_ValueError.ga.bind (.ref a);have OQ:(expr&&onTheHeap (Value.builtin "BaseException.__getattribute__"))=Ê:=by cases expr<;>rfl
 have PZ:(Value.builtin "BaseException.__getattribute__"==Value.builtin "object.__getattribute__")=Ê:=by decide +kernel
 have MJ:(onTheHeap (Value.ref C)&&Value.builtin "BaseException.__getattribute__"==Value.builtin "object.__getattribute__")=Ê:=by rw[PZ];rfl
 repeat (any_goals (first|assumption|(with_reducible refine Õ hx ?_;rw[hc])|with_reducible refine dG S M6 PySem.F.attrBase_ValueError.ga.lookup ?_|with_reducible refine dG S M7 PySem.F.attrBase_ValueError.noGetattr ?_|wp_step))
 show yR S hx hc ?_
 repeat (any_goals (first|assumption|wp_step))
theorem yQ{Q:Option Ä->Å->Prop}(S:eV h C C0 mN mN0)(hx:h.get? a=À o)(hc:o.cls=.ref C)(hq:Q (À (.ref C)) ⟨h,g,d,t+1,os⟩):É mo A (getAttr? (.ref a) "__class__") Q E ⟨h,g,d,t,os⟩:=by
 unfold getAttr? getAttrBy?
 repeat (any_goals (first|assumption|with_reducible apply Fy S hx hc|wp_step))
def mz(h:Ó)(cv:Ä):Prop:=(∃T,cv=.type T/\typeOf (.type T)=pure (.type "type"))\/∃C tl D,cv=.ref C/\h.get? C=À (ER.obj D C tl)
theorem mz.type{s:Å}(x:mz s.heap cv):s.TypeIs cv "type" := by
 rcases x with ⟨T,rfl,h⟩|⟨C,tl,D,rfl,h⟩
 ·show h
 ·show⟨_,h,N⟩
theorem lY(x:mz h cv)(hq:Q Æ ⟨h,g,d,t,os⟩):É mo A (isType cv) Q E ⟨h,g,d,t,os⟩:=by
 unfold isType;rcases x with ⟨T,rfl,h⟩|⟨C,tl,D,rfl,h⟩
 ·show Ç hq
 ·repeat (any_goals (first|assumption|with_reducible refine Õ h ?_|wp_step))
theorem z8(S:eV h C C0 mN mN0)(hx:h.get? a=À o)(hc:o.cls=.ref C)(hI:mz h cv)(hb:(Value.ref C::.ref C0::jY).contains cv=b)
  (hq:∀t',Q (.done (.ret (.bool b))) ⟨h,g,d,t',os⟩) :
  É mo A (Ď.«isinstance.nested» ⟨[.ref a,cv,.int dep tk],[]⟩) Q E ⟨h,g,d,t,os⟩:=by
 show S.c.el λD hC hn=>?_;have ht:(⟨h,g,d,t,os⟩:Å).TypeIs cv "type" := mz.type hI;have YW:∀t',(⟨h,g,d,t',os⟩:Å).TypeIs (.ref C) "type" := λt'=>⟨_,hC,N⟩;have hT1:=YW (t+1);have YK:mz h (.ref C):=.inr ⟨_,_,_,N,hC⟩;by_cases he:(Value.ref C==cv)=Æ
 ·have hb':b=Æ:=by rw[<-hb,ϖ];simp only[beq_iff_eq]at he;rw[he];simp
  subst hb';have IZ:=hq t
  repeat (any_goals (first|assumption|(with_reducible refine Õ hx ?_;rw[hc])|wp_step))
 ·have IU:(Value.ref C==cv)=Ê:=by simpa using he
  cases b with
  |true=>
   have IZ:=hq t
   repeat (any_goals (first|assumption|(with_reducible refine Õ hx ?_;rw[hc])|with_reducible refine lY hI ?_|(with_reducible refine â hC ?_;rw[hb])|wp_step))
  |false=>
   have Xw:=hq (t+1)
   repeat (any_goals (first|assumption|(with_reducible refine Õ hx ?_;rw[hc])|with_reducible refine lY hI ?_|with_reducible refine lY YK ?_|(with_reducible refine â hC ?_;rw[hb])|with_reducible apply yQ S hx hc|wp_step))
theorem Kh(S:eV h C C0 mN mN0)(hx:h.get? a=À o)(hc:o.cls=.ref C)(ht:mz h cv)(hb:(Value.ref C::.ref C0::jY).contains cv=b)
  (hq:∀t',Q (.bool b) ⟨h,g,d,t',os⟩):É mo A (Á (.builtin "isinstance") [.ref a,cv]) Q E ⟨h,g,d,t,os⟩:=
 call_isinstance_of (z8 S hx hc ht hb λt'=>hq t') λe=>nomatch e
end
section
variable{A:Ñ}{E:Ä->Å->Prop}{J:List È}{H:ag}{s:Å}{Z:Env}{O:List (Str×Nat)}{U:aL}{Á:az}{d:Nat}
def Jz(d:Nat):Ä:=if d=3 then .type "ValueError" else .ref (gg.cls d)
theorem Fj:jY.contains (.ref C)=Ê:=by
 simp [jY]
theorem JA(G:fN gg cx fs mg mb)(hc:c=1\/c=2)(hd:d=0\/d=1\/d=2\/d=3):(Value.ref (gg.cls c)::.ref (gg.cls 0)::jY).contains (Jz d)=nH c d:=by
 show gH G.exc.ap λa1 a2 a3=>?_;rcases hd with rfl|rfl|rfl|rfl
 ·show aeg _ (Value.ref (gg.cls 0))=_
  rw[ϖ,ϖ,beq_self_eq_true];simp [nH]
 ·show aeg _ (Value.ref (gg.cls 1))=_
  rw[ϖ,ϖ,Fj];rcases hc with rfl|rfl
  ·simp [nH]
  ·simp [nH,a1,a2]
 ·show aeg _ (Value.ref (gg.cls 2))=_
  rw[ϖ,ϖ,Fj];rcases hc with rfl|rfl
  ·simp [nH,a1.symm,a3]
  ·simp [nH]
 ·show aeg _ (Value.type "ValueError")=_
  rw[eZ PySem.F.excBase_ValueError.hasB];simp [nH]
theorem oA(h:gR.lookup x=À c):c=0\/c=1\/c=2\/c=3:=by
 rcases l0 h with ⟨h,_⟩|⟨h,_⟩|⟨h,_⟩|⟨h,_⟩
 ·show .inl h
 ·show .inr (.inl h)
 ·show .inr (.inr (.inl h))
 ·show .inr (.inr (.inr h))
theorem AS(G:fN gg cx fs mg mb)(F:eH (br A) J Z O U s.heap)(R:ar gg J H s.heap)(hg:bi Z.scope x=Æ)(h:gR.lookup x=À c)(hq:Q (Jz c) s):É mo A (eval (.Name x p) Z) Q E s:=by
 show aO (bM hg) λmn mq=>?_;by_cases h3:c=3
 ·subst h3
  have hx:x=("ValueError":Str):=by
   rcases l0 h with ⟨q,_⟩|⟨q,_⟩|⟨q,_⟩|⟨_,q⟩
   ·cases q
   ·cases q
   ·cases q
   ·show q
  subst hx;show cF G F R mn mq (by decide) (v:=.type "ValueError") (by decide +kernel) hq
 ·show ja G F R mn mq (vZ G h ?_) ?_
  ·rcases oA h with q|q|q|q
   ·show .inr (.inr q)
   ·show .inl q
   ·show .inr (.inl q)
   ·show absurd q h3
  ·unfold Jz at hq;rw[if_neg h3]at hq;show hq
theorem Fz(G:fN gg cx fs mg mb)(R:ar gg J H s.heap)(h:c=0\/c=1\/c=2\/c=3):mz s.heap (Jz c):=by
 have own:∀{C tl mN},fi gg.B C tl mN->mz s.heap (.ref C):=λX=>by show X.el λD hC hn=>.inr ⟨_,_,_,N,R.base _ _ hC⟩
 rcases h with rfl|rfl|rfl|rfl
 ·show gq G.exc.c0 λm0 f a1 z=>?_;show own a1
 ·show aF G.exc.c1 λm0 a1 z=>?_;show own a1
 ·show aF G.exc.c2 λm0 a1 z=>?_;show own a1
 ·show .inl ⟨_,N,by kernel_rfl⟩
theorem MR.exnE(x:MR gg J h (.exn c d) a):∃o vs D,h.get? a=À o/\o.cls=.ref (gg.cls c)/\o.data=.fields vs/\o.dict=À D/\J[d]?=À D:=by
 cases x with
 |exn h1 h2 h3 h4 h5=>show⟨_,_,_,h1,h2,h3,h4,h5⟩
theorem MR.wdE(x:MR gg J h (.wd w) a):∃m t,h.Ns a m/\m ("word":Str)=À (.str w t):=by
 cases x with
 |wd h1 h2=>show⟨_,_,h1,h2⟩
set_option tactic.hygienic true in
theorem Sq(hr:sD x=À r)(V:VR gg J h x b):∃a,b=.ref a/\J[r]?=À a:=by
 cases V<;>first|exact no hr|skip
 rename_i n a h1;apply dC hr;show⟨a,rfl,h1⟩
theorem Lf(G:fN gg cx fs mg mb)(ic:∀e q,x≠.Starred e q)(hx:aS A Z O x (ab Á a))(hg:bi Z.scope ("isinstance":Str)=Æ)(IV:bi Z.scope tn=Æ)(hc:gR.lookup tn=À c):
  aS A Z O (.Call (.Name ("isinstance":Str) p') [x,.Name tn Nc] [] pos) (ab Á (.isC c a)):=by
 intro U H v ae he J s R F E;show dz he λy Î h1 he=>bW he λv' h2 he=>?_;apply dn he;show ie h2 λr m h3 h4 h2=>?_;show BA h2 λc' D' h5 h2=>?_;apply dC h2;show aO (vK h5) λq1 Mt=>(aO (bM hg) λmn mq=>?_);subst q1;have fy:Ù [x,.Name tn Nc] Z=(Ê,eval x Z)::Ù [.Name tn Nc] Z:=nD ic;show ć rfl (cF G F R mn mq (by decide) (v:=.builtin "isinstance") (by decide +kernel) (bP (.inl ⟨_,rfl⟩) (è (hx.bind h1 R F λb Ì aj S T' aC a0 bh=>è (AS G a0 aC IV hc (Ē ?_))) fy) fy rfl));show aF (Sq h3 bh) λaa q2 zD=>?_;apply aW q2;show WR ((aC.objs _ _ _ zD h4).exnE) λo vs D e1 e2 e3 e4 e5=>oS (vg G Mt) λmN mN0 f S2 z=>?_;have ct:=Fz (s:=Ì) G aC (oA hc);have LV:=S2.keeps aC.base;obtain ⟨hp,gg,dd,tk,os⟩:=Ì;show Kh LV e1 e2 ct (JA G Mt (oA hc)) λt'=>bA.after S T' ⟨aj,cU.refl _ _ _,aC,.bool _,rfl,rfl,rfl⟩
theorem xK(G:fN gg cx fs mg mb)(hx:aS A Z O (.Name x p) (ab Á a)):aS A Z O (.Attribute (.Name x p) ("word":Str) pos) (ab Á (.word a)):=by intro U H v ae he J s R F E;show dz he λy Î h1 he=>bW he λv' h2 he=>?_;apply dn he;show ie h2 λr m h3 h4 h2=>?_;show BA h2 λc' d' h5 h2=>ie h2 λm' w h6 h7 h2=>?_;apply dC h2;show aO (vK h5) λq1 Mt=>?_;subst q1;obtain rfl:=Fb h7;show Attribute_name (hx.bind h1 R F λb Ì aj S T' aC a0 bh=>?_);show aF (Sq h3 bh) λaa q2 zD=>?_;subst q2;show WR ((aC.objs _ _ _ zD h4).exnE) λo vs D e1 e2 e3 e4 e5=>?_;show gq ((aC.objs _ _ _ e5 h6).wdE) λmm t w1 w2=>oS (vg G Mt) λmN mN0 f S2 z=>?_;have LV:=S2.keeps aC.base;obtain ⟨hp,gg,dd,tk,os⟩:=Ì;show Eg LV e1 e2 e3 e4 w1 w2 rfl (bA.after S T' ⟨aj,cU.refl _ _ _,aC,.str _ _,rfl,rfl,rfl⟩)
end
theorem LI{Á:az}{k:Nat}{as:gb}{U:aL}{H:ag}:dD Á (.call k as) U H=bT (bO Á as U H) λvs Î=>bT (Á k vs Î) λr Ý=>JQ Ý r:=rfl
theorem LL{Á:az}{m:j3}{o:CE}{as:gb}{U:aL}{H:ag}:dD Á (.meth m o as) U H=bT (ab Á o U H) λx Î=>if rD m x Î then lw Á as U Î else Ã:=rfl
theorem LK{Á:az}{as:gb}{U:aL}{H:ag}:dD Á (.list as) U H=lw Á as U H:=rfl
theorem LJ{Á:az}{e:CE}{r:gb}{U:aL}{H:ag}:lw Á (.cons e r) U H=R7 (dD Á e U H) (bT (ab Á e U H) λz Î=>lw Á r U Î):=rfl
structure Jd(fr:List Env)(J:List È)(s:Å)(c:Nat)(w:Str)(ae:ag)(ea:È)(aT:List È)(s':Å):Prop where
 hc:c=1\/c=2
 S:SE J s.heap aT s'.heap
 T:bJ s s'
 X:ml fr aT ae s.heap s'.heap True P0 ea c w
def jq(A:Ñ)(Z:Env)(O:List (Str×Nat))(e:Ô)(x:aL->ag->XR):Prop:=
 ∀U H c w ae,x U H=À (c,w,ae)->∀J s,ar gg J H s.heap->eH (br A) J Z O U s.heap->∀(Q:Ä->Å->Prop) E,(∀ea aT s',Jd (br A) J s c w ae ea aT s'->E (.ref ea) s')->É mo A (eval e Z) Q E s
def qd(A:Ñ)(Á:az):Prop:=
 ∀k as H c w ae,Á k as H=À (.exc c w,ae)->∀fn,fs[k]?=À fn->∀J s cb,ar gg J H s.heap->su (br A) J s.heap->bq gg J s.heap as cb->∀(Q:Ä->Å->Prop) E,(∀ea aT s',Jd (br A) J s c w ae ea aT s'->E (.ref ea) s')->É mo A (PySem.call (.ref fn.addr) cb) Q E s
section
variable{A:Ñ}{E:Ä->Å->Prop}{J aj aT:List È}{H Î ae:ag}{s Ì s':Å}{Z:Env}{O:List (Str×Nat)}{U:aL}{Á:az}{d:Nat}{c:Nat}{w:Str}{ea:È}
theorem Ol(F:su (br A) J h):TF (br A) h:=λf hf L hl=>by obtain ⟨_,L',o,es,ep,k2,k3,_⟩:=F f hf;apply aW (sm ((hl).symm.trans k2));rw[k3];show λq=>nomatch q
theorem ml.before{ms:È->Prop}{P:Ä->Prop}(S:cU ms J h aj bF)(R:ar gg J H h)(F:su (br A) J h)(Y:ml (br A) aT ae bF h' Č P ea c w):ml (br A) aT ae h h' Č P ea c w:=by have bk:∀{b},bF.get? b=Ã->h.get? b=Ã:=λ{b} e=>km λo q=>(S.dom b o q).elim λo' e'=>no (e.symm.trans e');show⟨Y.R,Y.FS,Ol F,λb o e=>(S.dom b o e).elim (Y.dom b),R.base,Y.X.ex.elim λx y=>⟨x,⟨y.b.he,y.b.hsz,y.b.hD,y.b.hm,bk y.b.D0,y.b.Dφ⟩,y.tb.imp id λq=>q.elim λd z=>⟨d,z.v,z.ne,z.ho,z.cls,z.data,z.f,z.p,bk z.T0,z.Tφ⟩⟩,bk Y.X.e0,Y.X.eφ,Y.X.eB⟩
theorem Jd.after(S:SE J s.heap aj Ì.heap)(T:bJ s Ì)(R:ar gg J H s.heap)(F:su (br A) J s.heap)(x:Jd (br A) aj Ì c w ae ea aT s'):Jd (br A) J s c w ae ea aT s':=
 ⟨x.hc,S.trans x.S,T.trans x.T,x.X.before S R F⟩
theorem DL(G:fN gg cx fs mg mb)(hC:qd A Á)(hs:∀e p,F' (.Starred e p)=Ã)(ih:∀e c,F' e=À c->aS A Z O e (ab Á c))
  (hg:bi Z.scope f=Æ) (hk:gU cx f=À k) (eJ:as.isEmpty=Ê) (h:cc F' as=À cs):jq A Z O (.Call (.Name f p) as [] pos) (dD Á (.call k cs)):=by
 intro U H c w ae he J s R F Q E hE;rw[LI]at he;show r5 he λvs Î r Ý h1 h2 he=>?_;show aO (CR he) λq1 q2=>?_;subst q1 q2;show aF (Gc G hk) λfn lT q3=>?_;subst q3;obtain ⟨hm,o,pm,cd,doc,ho,hd,om⟩:=G.made fn (ĥ lT);show aO (bM hg) λmn mq=>?_;cases as with
 |nil=>cases eJ
 |cons e aD=>show bW (k:=λc=>(cc F' aD).bind λcs=>À (gb.cons c cs)) h λc hc z=>ć N (ja G F R mn mq hm (callWith_def (o:=o) hd (Ï (fZ hs ih pos h h1 R F E) (λcb Ì ⟨aj,S,aC,bh,T⟩=>⟨aC.base _ _ ho,(hC k vs Î _ _ _ h2 fn lT aj Ì cb aC (F.step R S).stk bh _ E λea aT s' X=>hE ea aT s' (X.after S T R F.stk))⟩) λz z x=>x) (cN hs hc aD)))
theorem oE(hs:∀e p,f (.Starred e p)=Ã)(ih:∀e c,f e=À c->aS A Z O e (ab Á c))(yz:∀e c,f e=À c->jq A Z O e (dD Á c))(pos:Pos):∀{es:List Ô} {cs:gb},cc f es=À cs ->
  ∀ ⦃U H c w ae⦄,lw Á cs U H=À (c,w,ae)->∀ ⦃J s⦄,ar gg J H s.heap->eH (br A) J Z O U s.heap->∀(Q:List Ä->Å->Prop) E,(∀ea aT s',Jd (br A) J s c w ae ea aT s'->E (.ref ea) s')->É mo A (spliced (Ĳ pos (Ù es Z))) Q E s
 |[],cs,h=>by intro U H c w ae he J s R F Q E hE;obtain rfl:=sm h;show no he
 |e::r,cs,h=>by
  show ie h λc IM h1 h2 h=>?_;apply dC h;intro U H c w ae he J s R F Q E hE;rw[LJ]at he;show ã (Hq he) (λhe=>?_) (λq=>aO q λz he=>?_)
  ·show è (yz e _ h1 U H c w ae he J s R F _ E hE) (cN hs h1 r)
  ·show dz he λx Î hx he=>è ((ih e _ h1).bind hx R F λa Ì aj S T aC a0 bh=>oE hs ih yz pos h2 he aC a0 _ E λea aT s' X=>hE ea aT s' (X.after S T R F.stk)) (cN hs h1 r)
theorem DQ(hs:∀e p,f (.Starred e p)=Ã)(ih:∀e c,f e=À c->aS A Z O e (ab Á c))(yz:∀e c,f e=À c->jq A Z O e (dD Á c))(h:cc f es=À cs):jq A Z O (.List es pos) (dD Á (.list cs)):=by intro U H c w ae he J s R F Q E hE;rw[LK]at he;show wpAny_List_spliced (oE hs ih yz pos h he R F _ E hE)
theorem DR(G:fN gg cx fs mg mb)(hs:∀e p,F' (.Starred e p)=Ã)(ih:∀e c,F' e=À c->aS A Z O e (ab Á c))(yz:∀e c,F' e=À c->jq A Z O e (dD Á c))
  (ho:aS A Z O o (ab Á a)) (OG:Ah o=Æ) (qN:(ap.endLine==pos.line)=Æ) (hp:AP m as.length=À p) (h:cc F' as=À cs):jq A Z O (.Call (.Attribute o m ap) as [] pos) (dD Á (.meth p a cs)):=by
 intro U H c w ae he J s R F Q E hE;rw[LL]at he;show dz he λx Î h1 he=>dF he λhr he=>gH (vU hp) λC8 C9 q3=>?_;apply aW q3;cases as with
 |nil=>cases C8
 |cons e aD=>
  show bW (k:=λc=>(cc F' aD).bind λcs=>À (gb.cons c cs)) h λc' eU h'=>bW h' λIM Ry z=>ύ ?_ ?_ qN (ho.bind h1 R F λav Ì aj S T aC a0 bh=>?_)
  ·cases o with
   |Name x p=>rfl
   |Constant k n p=>rfl
   |Subscript x y p=>rfl
   |_=>cases OG
  ·rw[xY hs pos h]
   have:(e::aD).length+0+0<30:=by have:=C9;show jT (y3 0x1c001e9210b28012ba080112ba0812 N (iL C9) (iA _ _) (iA _ _))
   show decide_eq_true (p:=(e::aD).length+0+0<30) this
  ·show aO (xq (s:=Ì) hr aC bh) λhT hd=>⟨rg p,rd p,rh p,tm p,tq p,hT,hd,callWith_method1 (oE hs ih yz pos h he aC a0 _ E λea aT s' X=>hE ea aT s' (X.after S T R F.stk)) (cN hs eU aD) (ji hs pos Ry)⟩
end
theorem jt(cx:f9)(n:Nat)(sc:á)(O:List (Str×Nat))(nx:Nat)(e:Ô)(p:Pos):cr cx n sc O nx (.Starred e p)=Ã:=by cases n<;>rfl
theorem Fm(h:cr cx n sc O nx x=À c):∀e q,x≠.Starred e q:=by rintro e q rfl;show no ((jt cx n sc O nx e q).symm.trans h)
theorem yM(h:cr cx n sc O nx x=À c):∀l u st p,x≠.Slice l u st p:=by rintro l u st p rfl;cases n<;>show no h
section
variable{A:Ñ}{Á:az}{d:Nat}
theorem oi(h:vP cx n sc O nx e=À it):∀x,Ę e Z x=pure x:=by
 intro x;cases e with
 |Set a b c=>show aF (ob (m:=cr cx n sc O nx (.Set a b c)) (k:=λc=>À (jo.ex c)) h) λc' h z=>?_;cases n<;>show no h
 |_=>rfl
theorem vk(h:mV it t=Æ)(hc:fP sc O e=À t):vj (o4 it) e:=by
 unfold fP at hc;cases hn:dj e with
 |some x=>
  rw[hn]at hc;show W' (bB hn) λp ht=>?_;show aF (ob hc) λi z hc=>?_;show .inr ⟨?_,x,p,ht⟩;rw[<-sm hc,mV]at h;cases hq:o4 it with
  |false=>rfl
  |true=>rw[hq]at h;show absurd h Ķ
 |none=>rw[hn]at hc;show aF (ob hc) λl hl z=>?_;show mM (qh hl) λk p ht=>?_;show .inl ⟨_,_,_,ht⟩
theorem kX(h:aS A Z O e (ab Á c))(he:isTrue e Z (eval e Z)=(do let v <-eval e Z;standAt e.pos;holding [v] (truthy v))):
  aS A Z O e (ab Á c)/\fq A Z O e (bU Á c):=⟨h,DU h he⟩
def Yd(A:Ñ)(Á:az)(F:á->List (Str×Nat)->Nat->Ô->Option CE):Prop:=∀(Z:Env) O nx e c,F Z.scope O nx e=À c->aS A Z O e (ab Á c)/\fq A Z O e (bU Á c)
theorem HT(hA:iZ A d)(cZ:∀e c,f e=À c->aS A Z O e (ab Á c))(h:QF f l ops rs=À c):
  aS A Z O (.Compare l ops rs p) (ab Á c)/\fq A Z O (.Compare l ops rs p) (bU Á c):=by
 show aF (ob h) λop h1 h=>?_;show aF (ob h) λr h2 h=>?_;show aO (zM h) λhm h=>?_;show aF (ob h) λa ha h=>?_;show aF (ob h) λb hb h=>?_;obtain rfl:=sm h;obtain rfl:=bX h1;obtain rfl:=bX h2;show Lb hA (ady.mpr hm) (cZ _ _ ha) (cZ _ _ hb)
theorem H6(cZ:∀e c,f e=À c->aS A Z O e (ab Á c))(ic:∀e c,f e=À c->∀l u st p,e≠.Slice l u st p)(h:QI f v i=À c):
  aS A Z O (.Subscript v i p) (ab Á c):=by
 show aF (ob h) λa ha h=>?_;by_cases hs:∃lo hi st p,i=.Slice lo hi st p
 ·show PH hs λlo hi st q k1=>?_;subst k1
  show aO (cT h) λfy h=>?_;show aF (ob h) λx hx h=>?_;show aF (ob h) λy hy h=>?_;obtain rfl:=sm h;cases st with
  |none=>show Ll cZ (cZ _ _ ha) hx hy
  |some _=>show nomatch fy
 ·have h':((f i).bind λx=>À (CE.idx a x))=À c:=by
   cases i with
   |Slice lo hi st p=>show absurd ⟨lo,hi,st,p,N⟩ hs
   |_=>show h
  show aF (ob h') λx hx h=>?_;obtain rfl:=sm h;show BP (ic _ _ hx) (cZ _ _ ha) (cZ _ _ hx)
theorem fe{f:Ô->Option CE}(hs:∀e p,f (.Starred e p)=Ã)(hx:f x=À a):∀e q,x≠.Starred e q:=λe q eq=>by rw[eq,hs]at hx;show no hx
theorem HY{f:Ô->Option CE}(hA:iZ A d)(G:fN gg cx fs mg mb)(hs:∀e p,f (.Starred e p)=Ã)(cZ:∀e c,f e=À c->aS A Z O e (ab Á c))(hg:bi Z.scope ("isinstance":Str)=Æ)
  (h:Ma f Z.scope as=À c):aS A Z O (.Call (.Name ("isinstance":Str) p) as [] pos) (ab Á c):=by
 show aF (ob h) λk2 hl h=>?_;obtain ⟨x,t⟩:=k2;show aF (ob h) λtn ht h=>?_;show aO (cT h) λVm h=>?_;show aF (ob h) λq hq h=>?_;show aF (ob h) λa ha h=>?_;obtain rfl:=sm h;obtain rfl:=hG hl;show W' (bB ht) λp' k3=>?_;subst k3;show Lg hA G (fe hs ha) (cZ _ _ ha) hg Vm hq
theorem xC{f:Ô->Option CE}(G:fN gg cx fs mg mb)(hs:∀e p,f (.Starred e p)=Ã)(cZ:∀e c,f e=À c->aS A Z O e (ab Á c))(hg:bi Z.scope ("isinstance":Str)=Æ)
  (h:N7 f Z.scope as=À c):aS A Z O (.Call (.Name ("isinstance":Str) p) as [] pos) (ab Á c):=by
 show aF (ob h) λk4 hl h=>?_;obtain ⟨x,t⟩:=k4;show aF (ob h) λtn ht h=>?_;show aO (cT h) λVm h=>?_;show aF (ob h) λq hq h=>?_;show aF (ob h) λa ha h=>?_;obtain rfl:=sm h;obtain rfl:=hG hl;show W' (bB ht) λp' k5=>?_;subst k5;show Lf G (fe hs ha) (cZ _ _ ha) hg Vm hq
theorem DK(hA:iZ A d)(G:fN gg cx fs mg mb)(hC:tL A Á)(hs:∀e p,f (.Starred e p)=Ã)(cZ:∀e c,f e=À c->aS A Z O e (ab Á c))(hg:bi Z.scope gn=Æ)
  (h:qk f cx Z.scope gn as=À c):aS A Z O (.Call (.Name gn p) as [] pos) (ab Á c):=by
 unfold qk at h;cases hk:gU cx gn with
 |some k=>rw[hk]at h;show aO (zM h) λeJ h=>?_;show aF (ob h) λcs iq h=>?_;obtain rfl:=sm h;show xB G (hC k) hs cZ hg hk (ady.mpr eJ) iq
 |none=>
  rw[hk]at h;by_cases hi:(gn==("isinstance":Str))=Æ
  ·replace h:=(if_pos hi).symm.trans h
   obtain rfl:=beq_iff_eq.mp hi;by_cases zw:(Md as).isSome=Æ
   ·show xC G hs cZ hg ((if_pos zw).symm.trans h)
   ·show HY hA G hs cZ hg ((if_neg zw).symm.trans h)
  ·replace h:=(if_neg hi).symm.trans h
   cases Kc:ID cx Z.scope gn as with
   |some q=>rw[Kc]at h;show ie h λa b ha hb h=>?_;apply dC h;show dF Kc λZp Kc=>bW Kc λe he Kc=>bW Kc λq2 Tb Kc=>dF Kc λVo h2=>?_;obtain ⟨zn,zas⟩:=q2;rw[ň,ň,beq_iff_eq]at Vo;show mM (iM Tb) λp2 q3 EI=>?_;rw[beq_iff_eq.mp Zp]at hg ⊢;rw[bX he,EI,show zn=_ from Vo.1.1,show zas=_ from hG h2];show H7 hA G hs cZ hg Vo.1.2 ha hb
   |none=>
   rw[Kc]at h;show aF (ob h) λq hq h=>?_;show aF (ob h) λcs iq h=>?_;obtain rfl:=sm h;show H1 hA G hs cZ hg hq iq
set_option tactic.hygienic true in
theorem uG(h:Bo e=Æ):∃n q,e=.Constant .none n q:=by
 cases e<;>first|exact absurd h Ķ|skip
 rename_i cv n q;cases cv<;>first|exact absurd h Ķ|skip
 show⟨n,q,N⟩
theorem DJ{f:Ô->Option CE}(hA:iZ A d)(G:fN gg cx fs mg mb)(hs:∀e p,f (.Starred e p)=Ã)(cZ:∀e c,f e=À c->aS A Z O e (ab Á c))(hg:bi Z.scope gn=Æ)
  (h:Fl f gn as k=À c):aS A Z O (.Call (.Name gn p) as [k] pos) (ab Á c):=by
 show aF (ob h) λx hx h=>?_;show aO (cT h) λhc h=>?_;show aF (ob h) λa ha h=>?_;obtain rfl:=sm h
 simp only[ň,beq_iff_eq]at hc
 show aO hc λk6 r9=>?_;show aO k6 λWe Bb=>?_;subst We;obtain rfl:=bX hx;obtain ⟨ka,kv,kp⟩:=k;obtain rfl:ka=À ("default":Str):=Bb;show mM (uG r9) λn q k7=>?_;subst k7;show H0 hA G (fe hs ha) (cZ _ _ ha) hg
theorem DH(hA:iZ A d)(G:fN gg cx fs mg mb)(hC:tL A Á)(hs:∀e p,f (.Starred e p)=Ã)(cZ:∀e c,f e=À c->aS A Z O e (ab Á c))
  (VU:∀as k c p,bi Z.scope ("sorted":Str)=Æ->sk as k=À c->aS A Z O (.Call (.Name ("sorted":Str) p) as [k] pos) (ab Á c))
  (h:Fk f sk cx Z.scope fn as ks pos=À c):aS A Z O (.Call fn as ks pos) (ab Á c):=by
 cases fn with
 |Name wH p=>
  cases ks with
  |nil=>show DK hA G hC hs cZ (cT h).1 (cT h).2
  |cons k ks=>
   have hk:=cT (cT h).2;obtain rfl:=Ų.mp hk.1;by_cases hso:(wH==("sorted":Str))=Æ
   ·have h2:=(if_pos hso).symm.trans hk.2
    obtain rfl:=beq_iff_eq.mp hso;show VU as k c p (cT h).1 h2
   ·have h2:=(if_neg hso).symm.trans hk.2
    show DJ hA G hs cZ (cT h).1 h2
 |Attribute o m ap=>
  show aO (cT h) λhc h=>?_;show aF (ob h) λq hq h=>?_;show aF (ob h) λa ha h=>?_;show aF (ob h) λcs iq h=>?_;obtain rfl:=sm h
  simp only[ň]at hc
  show aO hc λk8 qN=>?_;show aO k8 λhk OG=>?_;obtain rfl:=Ų.mp hk;show HZ G hs cZ (cZ _ _ ha) OG qN hq iq
 |_=>show no h
theorem Ak{Z:Env}{O:List (Str×Nat)}{f:Ô->Option CE}(hA:iZ A d)(G:fN gg cx fs mg mb)(hs:∀e p,f (.Starred e p)=Ã)(cZ:∀e c,f e=À c->aS A Z O e (ab Á c)){as:List Ô}{p q:Pos}{it:jo}(hg:bi Z.scope ("range":Str)=Æ)(h:Fs f as=À it):mB A Z O (.Call (.Name ("range":Str) p) as [] q) (o4 it) (cB Á it):=by
 match as,h with
 |[],h=>show no h
 |[a],h=>show aF (ob h) λx hx h=>?_;obtain rfl:=sm h;show H3 hA G hg (fe hs hx) (cZ _ _ hx)
 |[a,b],h=>show aF (ob h) λx hx h=>?_;show aF (ob h) λy hy h=>?_;obtain rfl:=sm h;show H4 hA G hg (fe hs hx) (fe hs hy) (cZ _ _ hx) (cZ _ _ hy)
 |a::b::c::r,h=>show aF (ob h) λx hx h=>?_;show aF (ob h) λy hy h=>?_;show no h
theorem H5(hA:iZ A d)(G:fN gg cx fs mg mb)(hs:∀e p,f (.Starred e p)=Ã)(cZ:∀e c,f e=À c->aS A Z O e (ab Á c))(hg:bi Z.scope gn=Æ)
  (h:N9 f gn as (.Call (.Name gn p) as [] q)=À it):mB A Z O (.Call (.Name gn p) as [] q) (o4 it) (cB Á it):=by
 unfold N9 at h;by_cases h1:(gn==("range":Str))=Æ
 ·replace h:=(if_pos h1).symm.trans h
  obtain rfl:=beq_iff_eq.mp h1;show Ak hA G hs cZ hg h
 ·replace h:=(if_neg h1).symm.trans h
  by_cases h2:(gn==("zip":Str))=Æ
  ·replace h:=(if_pos h2).symm.trans h
   show aF (ob h) λk9 hl h=>?_;obtain ⟨a,b⟩:=k9;show aF (ob h) λx hx h=>?_;show aF (ob h) λy hy h=>?_;obtain rfl:=sm h;obtain rfl:=hG hl;obtain rfl:=beq_iff_eq.mp h2;show Lo hA G hg (fe hs hx) (fe hs hy) (cZ _ _ hx) (cZ _ _ hy)
  ·replace h:=(if_neg h2).symm.trans h
   by_cases h3:(gn==("enumerate":Str))=Æ
   ·replace h:=(if_pos h3).symm.trans h
    show aF (ob h) λa hl h=>?_;show aF (ob h) λx hx h=>?_;obtain rfl:=sm h;obtain rfl:=bX hl;obtain rfl:=beq_iff_eq.mp h3;show Lc hA G hg (fe hs hx) (cZ _ _ hx)
   ·replace h:=(if_neg h3).symm.trans h
    show aF (ob h) λc hc h=>?_;obtain rfl:=sm h;show HW hA (cZ _ _ hc)
theorem BR(hA:iZ A d)(G:fN gg cx fs mg mb)(hs:∀e p,f (.Starred e p)=Ã)(cZ:∀e c,f e=À c->aS A Z O e (ab Á c))(h:EA f cx Z.scope e=À it):mB A Z O e (o4 it) (cB Á it):=by
 have ex:CC f e=À it->mB A Z O e (o4 it) (cB Á it):=λh=>by show aF (ob h) λc hc h=>?_;obtain rfl:=sm h;show HW hA (cZ _ _ hc)
 unfold EA at h;cases hp:j7 e with
 |none=>rw[hp]at h;show ex h
 |some p=>
  rw[hp]at h;obtain ⟨gn,as⟩:=p;by_cases hg:(bi Z.scope gn&&(gU cx gn).isNone)=Æ
  ·replace h:=(if_pos hg).symm.trans h
   have IV:bi Z.scope gn=Æ:=(Ľ.mp hg).1;show mM (iM hp) λp q Kk=>?_;subst Kk;show H5 hA G hs cZ IV h
  ·show ex ((if_neg hg).symm.trans h)
theorem vQ(h:WL F fI sc O nx elt uj scope=À a):
  ∃aK cM ifs it t cs c,uj=[⟨aK,cM,ifs,0⟩]/\tW scope sc O nx (ba aK)=Æ/\fI cM=À it/\fP (je scope sc) (cn scope O nx (ba aK)) aK=À t /\
   cc (F (je scope sc) (cn scope O nx (ba aK)) (nx+2)) ifs=À cs/\F (je scope sc) (cn scope O nx (ba aK)) (nx+2) elt=À c/\mV it t=Æ/\a=.comp c t it cs:=by
 show aF (ob h) λKl h1 h=>?_;obtain ⟨aK,cM,ifs,as⟩:=Kl;show aO (cT h) λou h=>?_;show aO (Ľ.mp ou) λha ou=>?_;show aF (ob h) λit sZ h=>?_;show aF (ob h) λt ht h=>?_;show aF (ob h) λcs iq h=>?_;show aF (ob h) λc hc h=>?_;show aO (cT h) λMI h=>?_;have eU:=(sm h).symm;obtain rfl:=bX h1;obtain rfl:as=0:=beq_iff_eq.mp ha;show⟨aK,cM,ifs,it,t,cs,c,rfl,ou,sZ,ht,iq,hc,MI,eU⟩
theorem nz(hA:iZ A d)(G:fN gg cx fs mg mb)(hC:tL A Á):∀n,Yd A Á (cr cx n):=by
 intro n
 induction n with
 |zero=>show λZ O nx e c h=>no h
 |succ n ih=>
  intro Z O nx e;have hs:∀e p,cr cx n Z.scope O nx (.Starred e p)=Ã:=λe p=>jt ..;have cZ:∀e c,cr cx n Z.scope O nx e=À c->aS A Z O e (ab Á c):=λe c h=>(ih Z O nx e c h).1;have MQ:∀e c,cr cx n Z.scope O nx e=À c->fq A Z O e (bU Á c):=λe c h=>(ih Z O nx e c h).2;show Gd (λc=>aS A Z O e (ab Á c)/\fq A Z O e (bU Á c)) (yL (cr cx n) (λi=>EA (cr cx n Z.scope O nx) cx Z.scope i) cx Z.scope O nx e);cases e with
  |Constant k _ _=>show ah λv hv=>aM (kX (oH hv) N)
  |Name x p=>show λc h=>kX (rK G h) N
  |BinOp l op r p=>show ah λa ha=>ah λb hb=>aM (kX (La (cZ _ _ ha) (cZ _ _ hb)) N)
  |UnaryOp op x p=>
   show ah λa ha=>?_;cases op with
   |Not=>show aM (BU (cZ _ _ ha) (MQ _ _ ha))
   |_=>show dQ
  |BoolOp op vs p=>show λc h=>⟨oF cZ _ _ _ _ h,λU H b ae he J s R F E=>oG MQ _ _ _ _ _ h U H b ae he J s R F E⟩
  |IfExp t a b p=>show ah λx hx=>ah λy hy=>ah λz hz=>aM (Lh (MQ _ _ hx) (cZ _ _ hy) (MQ _ _ hy) (cZ _ _ hz) (MQ _ _ hz))
  |Compare l ops rs p=>show λc h=>HT hA cZ h
  |List es p=>show ah λcs iq=>aM (kX (xH hs cZ iq) N)
  |Tuple es k p=>show ah λcs iq=>aM (kX (tD hs cZ iq) N)
  |Dict ks vs p=>show cY λhk=>aM ?_;show aO (Ľ.mp hk) λh1 h2=>?_;obtain rfl:=Ų.mp h1;obtain rfl:=Ų.mp h2;show kX DO rfl
  |Subscript v i p=>show λc h=>kX (H6 cZ (λe c h=>yM h) h) N
  |Call fn as ks p=>show λc h=>kX (DH hA G hC hs cZ (λas k c q hg hk=>DX hA G hs cZ hg hk) h) N
  |Attribute o a p=>
   show cY λhw=>ah λc' eU=>aM ?_
   simp only[ň,beq_iff_eq]at hw
   show aO hw λKm hn=>?_;subst Km;show W' (abt.mp hn) λx hx=>?_;show W' (bB hx) λq RK=>?_;subst RK;show kX (xK G (cZ _ _ eU)) N
  |ListComp elt uj scope pos=>
   intro c h;show IN (vQ h) λaK cM ifs it t k27=>?_;show Ux k27 λcs c' RL ou sZ ht iq eU k28=>?_;show aO k28 λMI RM=>?_;subst RL;subst RM;show kX (HU hA (sN ou) (oi sZ) (vk MI ht) (BR hA G hs cZ sZ) ht (λe' IU=>?_) iq λe' IU e c h=>?_) N
   ·rw[<-IU]at eU;show(ih _ _ _ _ _ eU).1
   ·rw[<-IU]at h;show(ih _ _ _ _ _ h).2
  |_=>show dQ
theorem xF(hA:iZ A d)(G:fN gg cx fs mg mb)(hC:tL A Á)(n:Nat)(Z:Env)(O:List (Str×Nat))(nx:Nat)(e:Ô)(it:jo)(h:vP cx n Z.scope O nx e=À it):mB A Z O e (o4 it) (cB Á it):=
 BR hA G (λe p=>jt ..) (λe c h=>(nz hA G hC n Z O nx e c h).1) h
theorem ci(h:∀U H,dD Á c U H=Ã):jq A Z O e (dD Á c):=λU H c w ae he=>no ((h U H).symm.trans he)
theorem Aj(G:fN gg cx fs mg mb)(hC:qd A Á)(hs:∀e p,f (.Starred e p)=Ã)(cZ:∀e c,f e=À c->aS A Z O e (ab Á c))(yz:∀e c,f e=À c->jq A Z O e (dD Á c))
  (VU:∀as k c,sk as k=À c->∃a b d,c=.sortK a b d):Gd (λc=>jq A Z O (.Call fn as ks pos) (dD Á c)) (Fk f sk cx Z.scope fn as ks pos):=by
 cases fn with
 |Name wH p=>
  cases ks with
  |nil=>
   show cY λhg=>?_;show Gd _ (qk f cx Z.scope wH as);unfold qk;cases hk:gU cx wH with
   |some k=>show qJ λeJ=>ah λcs iq=>aM (DL G hC hs cZ hg hk (ady.mpr eJ) iq)
   |none=>show kb (λz=>kb (λz=>ah λz z=>ah λz z=>cY λz=>ah λz z=>ah λz z=>aM (ci λz z=>rfl)) λz=>ah λz z=>ah λz z=>cY λz=>ah λz z=>ah λz z=>aM (ci λz z=>rfl)) λz=>(by
    cases ID cx Z.scope wH as with
    |some q=>show ah λz z=>ah λz z=>aM (ci λz z=>rfl)
    |none=>show ah λz z=>ah λz z=>aM (ci λz z=>rfl))
  |cons k ks=>
   show cY λhg=>cY λhk=>kb (λz c h=>?_) λz=>?_
   ·show wi (VU _ _ _ h) λz z z k39=>?_;subst k39
    show ci λz z=>rfl
   ·show ah λz z=>cY λz=>ah λz z=>aM (ci λz z=>rfl)
 |Attribute o m ap=>
  show cY λhc=>ah λq hq=>ah λa ha=>ah λcs iq=>aM ?_
  simp only[ň]at hc
  show aO hc λWc qN=>?_;show aO Wc λhk OG=>?_;obtain rfl:=Ų.mp hk;show DR G hs cZ yz (cZ _ _ ha) OG qN hq iq
 |_=>show dQ
theorem Ft(h:SK fI cx sc O nx as k=À c):∃a b d,c=.sortK a b d:=by show aF (ob h) λz z h=>?_;show aF (ob h) λz z h=>?_;show aF (ob (cT h).2) λz z h=>?_;show aF (ob (cT h).2) λz z h=>?_;show⟨_,_,_,(sm h).symm⟩
theorem rI(hA:iZ A d)(G:fN gg cx fs mg mb)(hC:tL A Á)(hX:qd A Á):∀n (Z:Env) O nx e c,cr cx n Z.scope O nx e=À c->jq A Z O e (dD Á c):=by
 intro n
 induction n with
 |zero=>show λZ O nx e c h=>no h
 |succ n ih=>
  intro Z O nx e;have hs:∀e p,cr cx n Z.scope O nx (.Starred e p)=Ã:=λe p=>jt ..;have cZ:∀e c,cr cx n Z.scope O nx e=À c->aS A Z O e (ab Á c):=λe c h=>(nz hA G hC n Z O nx e c h).1;show Gd (λc=>jq A Z O e (dD Á c)) (yL (cr cx n) (λi=>EA (cr cx n Z.scope O nx) cx Z.scope i) cx Z.scope O nx e);cases e with
  |Constant k _ _=>show ah λv hv=>aM (ci λj j=>rfl)
  |Name x p=>show qJ λj=>ah λk j=>kb (λj=>ah λi j=>aM (ci λj j=>rfl)) λj=>cY λj=>ah λi j=>aM (ci λj j=>rfl)
  |BinOp l op r p=>show ah λa ha=>ah λb hb=>aM (ci λj j=>rfl)
  |UnaryOp op x p=>
   show ah λa ha=>?_;cases op with
   |Not=>show aM (ci λj j=>rfl)
   |_=>show dQ
  |BoolOp op vs p=>
   cases vs with
   |nil=>show dQ
   |cons e r=>
    cases r with
    |nil=>show λc h U H c w ae he J s R F Q E hE=>BoolOp_one (ih _ _ _ _ _ h U H c w ae he J s R F _ E hE)
    |cons e' r=>show ah λa ha=>ah λb hb=>aM (by cases op<;>show ci λj j=>rfl)
  |IfExp t a b p=>show ah λx hx=>ah λy hy=>ah λz hz=>aM (ci λj j=>rfl)
  |Compare l ops rs p=>show ah λj j=>ah λj j=>qJ λj=>ah λj j=>ah λj j=>aM (ci λj j=>rfl)
  |List es p=>show ah λcs iq=>aM (DQ hs cZ (λe c h=>ih _ _ _ _ _ h) iq)
  |Tuple es k p=>show ah λcs iq=>aM (ci λj j=>rfl)
  |Dict ks vs p=>show cY λhk=>aM (ci λj j=>rfl)
  |Subscript v i p=>
   show ah λa ha=>?_;cases i with
   |Slice lo hi st p=>show cY λj=>ah λj j=>ah λj j=>aM (ci λj j=>rfl)
   |_=>show ah λj j=>aM (ci λj j=>rfl)
  |Call fn as ks p=>show Aj G hX hs cZ (λe c h=>ih _ _ _ _ _ h) (sk:=SK (λi=>EA (cr cx n Z.scope O nx) cx Z.scope i) cx Z.scope O nx) (λas k c h=>Ft h)
  |Attribute o a p=>show cY λj=>ah λj j=>aM (ci λj j=>rfl)
  |ListComp elt uj scope pos=>show ah λj j=>cY λj=>ah λj j=>ah λj j=>ah λj j=>ah λj j=>cY λj=>aM (ci λj j=>rfl)
  |_=>show dQ
theorem DP(hA:iZ A d)(G:fN gg cx fs mg mb)(hC:tL A Á)(hX:qd A Á)(n:Nat)(Z:Env)(O:List (Str×Nat))(nx:Nat)(e:Ô)(it:jo)(h:vP cx n Z.scope O nx e=À it):jq A Z O e (JP Á it):=by
 cases it with
 |ex c=>have gJ:cr cx n Z.scope O nx e=À c:=(tT _ (show EA (cr cx n Z.scope O nx) cx Z.scope e=À (.ex c) from h)).elim (λq=>aF q λc' e hc=>hc.trans (congrArg V7 e).symm) λq=>q.elim (λq=>PH q λz z z z q=>absurd (congrArg Tq q.1) afm) λq=>absurd q.symm (acM 1);show rI hA G hC hX n Z O nx e c gJ
 |_=>show λU H c w ae he=>no he
end
section
variable{A:Ñ}{Á:az}{d:Nat}
theorem Jt(cx:f9)(n:Nat)(sc:á)(O:List (Str×Nat))(e:Ô)(p:Pos):cQ cx sc O n (.Starred e p)=Ã:=by cases n<;>rfl
theorem HR(G:fN gg cx fs mg mb)(hQ:∀k∈cx.calm,sv A Á k)(Z:Env)(O:List (Str×Nat)):∀n e c,cQ cx Z.scope O n e=À c->aS A Z O e (ab Á c)/\fq A Z O e (bU Á c):=by
 intro n
 induction n with
 |zero=>show λe c h=>no h
 |succ n ih=>
  intro e;have hs:∀e p,cQ cx Z.scope O n (.Starred e p)=Ã:=λe p=>Jt ..;have cZ:∀e c,cQ cx Z.scope O n e=À c->aS A Z O e (ab Á c):=λe c h=>(ih e c h).1;have MQ:∀e c,cQ cx Z.scope O n e=À c->fq A Z O e (bU Á c):=λe c h=>(ih e c h).2;show Gd (λc=>aS A Z O e (ab Á c)/\fq A Z O e (bU Á c)) (WM (cQ cx Z.scope O n) cx Z.scope O e);cases e with
  |Constant k _ _=>show ah λv hv=>aM (kX (oH hv) N)
  |Name x p=>show λc h=>kX (rK G h) N
  |UnaryOp op x p=>
   show ah λa ha=>?_;cases op with
   |Not=>show aM (BU (cZ _ _ ha) (MQ _ _ ha))
   |_=>show dQ
  |BoolOp op vs p=>show λc h=>⟨oF cZ _ _ _ _ h,λU H b ae he J s R F E=>oG MQ _ _ _ _ _ h U H b ae he J s R F E⟩
  |List es p=>show ah λcs iq=>aM (kX (xH hs cZ iq) N)
  |Attribute o a p=>
   show cY λhw=>ah λc' eU=>aM ?_
   simp only[ň,beq_iff_eq]at hw
   show aO hw λq1 hn=>(W' (abt.mp hn) λx hx=>?_);apply aW q1;show W' (bB hx) λq q2=>?_;subst q2;show kX (xK G (cZ _ _ eU)) N
  |Call fn as ks p=>
   show ah λgn hn=>cY λhc=>W' (bB hn) λp' q2=>?_;apply aW q2
   simp only[ň]at hc
   show aO hc λhk hg=>?_;apply aW (Ų.mp hk);cases hk:gU cx gn with
   |some k=>
    show qJ λeJ=>ah λcs iq=>aM ?_
    simp only[Ϙ,not_or,ae',ώ,Bool.not_eq_false]at eJ
    show kX (xB G (hQ k (by simpa using eJ.2)) hs cZ hg hk eJ.1 iq) rfl
   |none=>show cY λhi c h=>?_;obtain rfl:=beq_iff_eq.mp hi;show kX (xC G hs cZ hg h) rfl
  |_=>show dQ
end
def yA(fr:List Env)(J:List È)(Z:Env)(O:List (Str×Nat))(s:Å):cm->aL->ag->PySem.Flow->Å->Prop
 |.next,aR,ae,f,s'=>f=.next/\I5 fr J Z O s aR ae s'
 |.ret v,_,ae,f,s'=>∃a aT,f=.ret a/\cU (FM J Z) J s.heap aT s'.heap/\ar gg aT ae s'.heap/\VR gg aT s'.heap v a/\bJ s s'
 |.exc _ _,_,_,_,_=>False
def AG(Č:Prop)(fr:List Env)(J:List È)(Z:Env)(s:Å):cm->ag->Ä->Å->Prop
 |.exc c w,ae,e,s'=>∃aT ea L,e=.ref ea/\Z.frame=À L/\(c=1\/c=2)/\cU (FM J Z) J s.heap aT s'.heap/\bJ s s'/\ml fr aT ae s.heap s'.heap Č (PL L) ea c w
 |_,_,_,_=>False
abbrev SH(fr:List Env)(J:List È)(Z:Env)(s:Å)(fl:cm)(ae:ag)(e:Ä)(s':Å):Prop:=AG True fr J Z s fl ae e s'
structure FX(A:Ñ)(Z:Env):Prop where
 top:∃bQ,A.frames=À (Z::bQ)
 own:∃L,Z.frame=À L
def kU(A:Ñ)(Z:Env)(O:List (Str×Nat))(st:č)(m:aL->ag->Option (cm×aL×ag)):Prop:=
 ∀U H fl aR ae,m U H=À (fl,aR,ae)->∀J s,ar gg J H s.heap->eH (br A) J Z O U s.heap->∀E,(∀e s',SH (br A) J Z s fl ae e s'->E e s')->É mo A (exec st Z) (yA (br A) J Z O s fl aR ae) E s
def lj(A:Ñ)(Z:Env)(O:List (Str×Nat))(st:List č)(m:aL->ag->Option (cm×aL×ag)):Prop:=
 ∀U H fl aR ae,m U H=À (fl,aR,ae)->∀J s,ar gg J H s.heap->eH (br A) J Z O U s.heap->∀E,(∀e s',SH (br A) J Z s fl ae e s'->E e s')->É mo A (execs st Z) (yA (br A) J Z O s fl aR ae) E s
section
variable{A:Ñ}{E:Ä->Å->Prop}{J aj:List È}{H Î ae:ag}{s Ì:Å}{Z:Env}{O:List (Str×Nat)}{U aR:aL}{Á:az}{d:Nat}
theorem yA.after(S:cU (FM J Z) J s.heap aj Ì.heap)(T:bJ s Ì)(h:yA (br A) aj Z O Ì fl aR ae f cW):yA (br A) J Z O s fl aR ae f cW:=by
 cases fl with
 |next=>obtain ⟨e,aT,S',R',F',T'⟩:=h;show⟨e,aT,FM.trans S S',R',F',T.trans T'⟩
 |ret v=>show Mj h λa aT e S' R' V' T'=>⟨a,aT,e,FM.trans S S',R',V',T.trans T'⟩
 |exc c w=>show h.elim
theorem AG.after(S:cU (FM J Z) J s.heap aj Ì.heap)(T:bJ s Ì)(R:ar gg J H s.heap)(F:su (br A) J s.heap)(h:AG Č (br A) aj Z Ì fl ae e cW):AG Č (br A) J Z s fl ae e cW:=by
 cases fl with
 |next=>show h
 |ret v=>show h
 |exc c w=>show SP h λaT ea L h1 h2 h3 S' T' X=>⟨aT,ea,L,h1,h2,h3,FM.trans S S',T.trans T',X.before S R F⟩
theorem Jd.stm(K:FX A Z)(x:Jd (br A) J s c w ae ea aT s'):SH (br A) J Z s (.exc c w) ae (.ref ea) s':=by show W' K.own λL hL=>⟨aT,ea,L,N,hL,x.hc,cU.ofSE x.S Z,x.T,x.X.mono (λq=>q) λf q=>.inl q⟩
theorem cU.xkp(S:cU ms J aZ aT h)(K:yy aZ h h' e):cU ms J aZ aT h':=
 ⟨λb o e hb=>(S.pres b o e hb).then λo' e'=>K.old b o' e' (by rw[e];show λq=>nomatch q),λb o e=>by show W' (S.dom b o e) λo' e'=>?_;show K.dom b o' e',S.ext⟩
theorem AG.note(K:FX A Z)(x:AG Č (br A) J Z s fl ae e s')(hQ:∀pb,AG False (br A) J Z s fl ae e pb->Q () pb):É mo A (noteFrame e Z) Q E s':=by
 cases fl with
 |next=>show x.elim
 |ret v=>show x.elim
 |exc c w=>show SP x λaT ea L q4 h2 h3 S' T' X=>(W' K.top λbQ ho=>?_);subst q4;show Aa ho h2 X λh' X' K'=>hQ _ ⟨aT,ea,L,N,h2,h3,S'.xkp K',T'.trans ⟨N,N,N⟩,X'⟩
theorem AG.back(x:AG False (br A) J Z s fl ae e s')(hE:∀pb,SH (br A) J Z s fl ae e pb->E' e pb):Ĩ mo A Z E' e s':=by
 cases fl with
 |next=>show x.elim
 |ret v=>show x.elim
 |exc c w=>show SP x λaT ea L q4 h2 h3 S' T' X=>?_;subst q4;show N4 h2 X λh' X' K'=>hE _ ⟨aT,ea,L,N,h2,h3,S'.xkp K',T'.trans ⟨N,N,N⟩,X'.mono (λq=>q.elim) λz q=>q⟩
theorem Ao(hv:∀a b c d,v≠.ListComp a b c d)(hc:cr cx n sc O nx v=À c):ĸ v (À t) ln Z=pure Ê:=by
 cases v with
 |ListComp a b c d=>show absurd N (hv a b c d)
 |SetComp a b c d=>cases n<;>show no hc
 |DictComp a b c d e=>cases n<;>show no hc
 |_=>rfl
theorem rJ(hA:iZ A d)(ht:fP Z.scope O (.Name x p)=À t)(hs:ĸ v (À (.Name x p)) pos.line Z=pure Ê)(K:FX A Z)(VY:jq A Z O v (dD Á a))(hv:aS A Z O v (ab Á a)):
  kU A Z O (.Assign [.Name x p] v pos) (bD Á (.assign t a)):=by
 intro U H fl aR ae he J s R F E hE;rw[gI]at he;rcases fO he with he|⟨c,w,rfl,rfl,hx⟩
 rotate_left
 ·show wpAny_Assign_Name (VY _ H c w ae hx J s R F _ E λea aT s' X=>hE _ _ (X.stm K)) hs
 show dz he λx' Î h1 he=>bW he λcJ hp he=>?_;apply jh he;show wpAny_Assign_Name (hv.bind h1 R F λav Ì aj S T aC a0 bh=>?_) hs;show dN (sJ ht) λi q2 hx hk=>?_;subst q2;apply dC hp;show fE a0 aC hx hk bh λh' tk S' R' F' z=>⟨N,aj,FM.trans (cU.ofSE S Z) (S'.mono λb hb=>ã hb (λhb=>?_) (λhb=>?_)),R',F',T.trans ⟨N,N,N⟩⟩
 ·show .inr (.inl hb)
 ·show .inr (.inr ⟨x,hb⟩)
theorem xy(hA:iZ A d)(ht:fP Z.scope O (.Tuple ts k p)=À t)(hs:swapsWithSole [.Tuple ts k p] v pos.line Z=pure Ê)(hw:swappedStores [.Tuple ts k p] v Z=pure Ã)(K:FX A Z)(VY:jq A Z O v (dD Á a))(hv:aS A Z O v (ab Á a)):
  kU A Z O (.Assign [.Tuple ts k p] v pos) (bD Á (.assign t a)):=by
 intro U H fl aR ae he J s R F E hE;rw[gI]at he;rcases fO he with he|⟨c,w,rfl,rfl,hx⟩
 rotate_left
 ·show Assign_Tuple (VY _ H c w ae hx J s R F _ E λea aT s' X=>hE _ _ (X.stm K)) hs hw
 show dz he λx' Î h1 he=>bW he λcJ hp he=>?_;apply jh he;show Assign_Tuple (hv.bind h1 R F λav Ì aj S T aC a0 bh=>?_) hs hw;show vm hA.handled ht hp aC a0 bh λh' tk S' R' F' z=>⟨N,aj,FM.trans (cU.ofSE S Z) (S'.mono λb hb=>hb.fm),R',F',T.trans ⟨N,N,N⟩⟩
theorem xx{x:Str}{p pos:Pos}{elt aK cM:Ô}{ifs:List Ô}{scope:á}{py:Pos}{nx:Nat}{t t':jS}{it:jo}{c:CE}{cs:gb}{F':Ô->Option CE}{two:Bool}
  (hA:iZ A d) (ht:fP Z.scope O (.Name x p)=À t') (PW:ĸ (.ListComp elt [⟨aK,cM,ifs,0⟩] scope py) (À (.Name x p)) pos.line Z=pure Æ)
  (K:lJ scope Z.scope O nx (ba aK)) (hs:∀x,Ę cM Z x=pure x) (EL:vj two aK)
  (hi:mB A Z O cM two (cB Á it)) (C6:fP (je scope Z.scope) (cn scope O nx (ba aK)) aK=À t)
  (hE:∀e',e'.scope=je scope Z.scope->aS A e' (cn scope O nx (ba aK)) elt (ab Á c)) (iq:cc F' ifs=À cs) (hT:∀e',e'.scope=je scope Z.scope->∀e c,F' e=À c->fq A e' (cn scope O nx (ba aK)) e (bU Á c)) :
  kU A Z O (.Assign [.Name x p] (.ListComp elt [⟨aK,cM,ifs,0⟩] scope py) pos) (bD Á (.assign t' (.comp c t it cs))):=by
 intro U H fl aR ae he J s R F E hE0;rw[gI]at he;rcases fO he with he|⟨c,w,rfl,rfl,hx⟩
 rotate_left
 ·show no hx
 show dz he λx' bH IR he=>oO IR λxs w Î h1 IR=>dz IR λl Ý h2 IR=>bW he λcJ hp he=>?_;apply jh he;show gH (fV IR) λhz q2 q3=>?_;subst q2 q3
 ····show dN (sJ ht) λi q2 hx hk=>?_;subst q2
     apply dC hp;rw[exec_Assign_Name_used _ _ _ _ PW];show Â (đ (Â ?_));show É _ A (do let _ <-comprehension (.ListComp elt [⟨aK,cM,ifs,0⟩] scope py) scope Z _ (newList []) Ê (eval cM Z) (À (assign (.Name x p) Z))) _ _ s;show Â (Ï (sO (use:=À (assign (.Name x p) Z)) (Q:=λz s'=>yA (br A) J Z O s .next (cP U i (.ref Ý.length)) (Ý++[.lst l]) .next s') hA K hs EL hi C6 hE iq hT h1 h2 hz R F λD C s' EI hC=>?_) (λz s' hq=>Ç (Ç hq)) λz z e=>e);obtain ⟨aT,S,R',V',T,Ge,m,hn⟩:=id EI;have a0:=F.step R S
     have W5:C≠Z.locals:=by rintro rfl;show aF F.ns λm' k5 z=>?_;show oS k5 λo z z ho z=>?_;rw[hC]at ho;show no ho
     have W6:∀y,Z.cells.lookup y≠À C:=λy e=>by show aO (F.cellF y C e) λk6 z=>?_;show gq k6 λu o ho z=>?_;rw[hC]at ho;show no ho
     show É _ A (assign (.Name x p) Z (.ref D)) _ _ _;show Į (fE a0 R' hx hk V' λjx tk dh bu eQ up=>?_);have Bc:jx.Ns C m:=gv.ns hn λo ho=>dh.pres _ _ ho (λq=>by rcases q with q|q;show W5 q;show W6 x q);show⟨m,Bc,λdZ gV=>⟨rfl,aT,?_,?_,?_,T.trans ⟨rfl,rfl,rfl⟩⟩⟩
     ·have I8:cU (FM J Z) J s.heap aT jx:=FM.trans (cU.ofSE S Z) (dh.mono λb hb=>by rcases hb with hb|hb;show .inr (.inl hb);show .inr (.inr ⟨x,hb⟩))
      have jp:ar gg aT (Ý++[.lst l]) dZ:=bu.other Ge (aV R hC) (λb o hb e=>gV.extBut b o hb e) (Ns.noSeq Bc);show cU.mv (wr:=[C]) I8 jp (λb o hb z e=>gV.extBut b o (λq=>hb (O'.mpr q)) e) (λz q=>.inl q) (by simpa using hC)
     ·show bu.other Ge (aV R hC) (λb o hb e=>gV.extBut b o hb e) (Ns.noSeq Bc)
     ·show eQ.mv (wr:=[C]) (λb o hb z e=>gV.extBut b o (λq=>hb (O'.mpr q)) e) (λb hb o e=>?_) (by simpa using λq=>W5 q.symm) (λy c e=>by simp;rintro rfl;show W6 y e) λe he L hf=>?_
      ·simp at hb;subst hb
       show Ns.noSeq Bc o e
      ·obtain ⟨_,L',o,es,ep,k2,k3,_⟩:=F.stk e he
       apply aW (sm ((hf).symm.trans k2))
       simp only[O'];rintro rfl
       rw[hC]at k3;show no k3
theorem xJ(hs:ĸ v (À (.Subscript o i p)) pos.line Z=pure Ê)(ho:aS A Z O o (ab Á a))(hi:aS A Z O i (ab Á b))(hv:aS A Z O v (ab Á c)):
  kU A Z O (.Assign [.Subscript o i p] v pos) (bD Á (.setItem a b c)):=by
 intro U H fl aR ae he J s R F E hE;rw[qu]at he;show r5 he λx Î y Ý h1 h2 he=>?_;show dz he λz bH h3 he=>bW he λlH h4 he=>?_;apply jh he;show wpAny_Assign_Subscript (hv.bind h1 R F λa Ì aj S T aC a0 bh=>ho.bind h2 aC a0 λb cW cR dh gO bu eQ dP=>hi.bind h3 bu eQ λc iX yu jr yF jp rY NP=>?_) hs;show K8 h4 jp (dP.step bu jr) NP ((bh.step aC dh).step bu jr) λh' tk S' R'=>⟨N,yu,cU.ofSE (S.trans (dh.trans (jr.trans S'))) Z,R',rY.step jp S',T.trans (gO.trans (yF.trans ⟨N,N,N⟩))⟩
theorem HX(hm:m.isStep=Æ)(hk:Z.scope.kind=.function)(hs:ĸ e Ã pos.line Z=pure Ê)(K:FX A Z)(hX:jq A Z O e (dD Á (.meth m o as)))(he:aS A Z O e (ab Á (.meth m o as))):
  kU A Z O (.Expr e pos) (bD Á (.expr (.meth m o as))):=by
 intro U H fl aR ae h J s R F E hE;rw[t9]at h;rcases fO h with h|⟨c,w,rfl,rfl,hx⟩
 rotate_left
 ·show wpAny_Expr (hX _ H c w ae hx J s R F _ E λea aT s' X=>hE _ _ (X.stm K)) (by unfold interactive;rw[hk];rfl) hs
 show gq (i4 h) λv Î q h=>gH (No h) λKk Kl Km=>?_;apply fv Kk;apply fv Kl;apply fv Km
 have hv:v=.none:=by show gq (i4 q) λx Ý z q=>aO (cT q) λz q=>gq (i4 q) λvs bH z q=>D3 hm q
 subst hv;show wpAny_Expr (he.bind q R F λa Ì aj S T aC a0 bh=>?_) (by unfold interactive;rw[hk];rfl) hs;cases bh;show⟨N,aj,cU.ofSE S Z,aC,a0,T⟩
theorem Pr(ht:fq A Z O t (bU Á c))(ha:lj A Z O a (aN Á x))(hb:lj A Z O b (aN Á y)):kU A Z O (.If t a b pos) (bD Á (.ite c x y)):=by
 intro U H fl aR ae h J s R F E hE;show j6 h λp Î h1 h=>wpAny_If (ht.bind (bR h1) R F λÌ aj S T aC a0=>?_);cases p with
 |true=>show Ï (ha U Î fl aR ae h aj Ì aC a0 E λe s' X=>hE e s' (X.after (cU.ofSE S Z) T R F.stk)) (λz z x=>yA.after (cU.ofSE S Z) T x) λz z x=>x
 |false=>show Ï (hb U Î fl aR ae h aj Ì aC a0 E λe s' X=>hE e s' (X.after (cU.ofSE S Z) T R F.stk)) (λz z x=>yA.after (cU.ofSE S Z) T x) λz z x=>x
theorem Lk(K:FX A Z)(hX:jq A Z O e (dD Á c))(he:aS A Z O e (ab Á c)):kU A Z O (.Return (À e) pos) (bD Á (.ret c)):=by
 intro U H fl aR ae h J s R F E hE;rw[lR]at h;rcases fO h with h|⟨c',w,rfl,rfl,hx⟩
 rotate_left
 ·show ė (hX _ H c' w ae hx J s R F _ E λea aT s' X=>hE _ _ (X.stm K))
 show dz h λv Î q h=>?_;apply jh h;show ė (he.bind q R F λa Ì aj S T aC a0 bh=>⟨a,aj,N,cU.ofSE S Z,aC,bh,T⟩)
theorem DW(hA:iZ A d)(G:fN gg cx fs mg mb)(K:FX A Z)(hg:bi Z.scope x=Æ)(zw:gR.lookup x=À c)(hc:c=1\/c=2)(ic:∀y q,e≠.Starred y q)(hx:aS A Z O e (ab Á a)):
  kU A Z O (.Raise (À (.Call (.Name x np) [e] [] py)) Ã pos) (bD Á (.raise_ c a)):=by
 intro U H fl aR ae h J s R F E hE;rw[wm]at h;show dz h λv Î h1 h=>bW h λw h2 h=>gH (No h) λq1 q2 q3=>?_;subst q1 q2 q3
 have hv:v=.str w:=by
  cases v<;>first|exact no h2|skip
  show congrArg _ (sm h2)
 subst hv;show KW hA G hg zw hc ic hx h1 R F λea aj s' S T X=>hE _ _ (Jd.stm K ⟨hc,S,T,X⟩)
theorem Li:lj A Z O [] (aN Á .nil):=by intro U H fl aR ae h J s R F E hE;apply jh h;show ġ ⟨rfl,J,cU.refl _ _ _,R,F,bJ.refl _⟩
theorem HV{st:č}{aD:List č}{c:CS}{cs:ff}(h1:kU A Z O st (bD Á c))(h2:lj A Z O aD (aN Á cs)):lj A Z O (st::aD) (aN Á (.cons c cs)):=by
 intro U H fl aR ae h J s R F E hE;show ã (jg h) (λq=>gq q λcJ Î hx h=>?_) (λq=>aO q λhx eJ=>?_)
 ·show ü (Ï (h1 U H .next cJ Î hx J s R F E λe s' X=>X.elim) (λf Ì hf=>?_) λz z x=>x)
  obtain ⟨rfl,aj,S,aC,a0,T⟩:=hf;show Ï (h2 cJ Î fl aR ae h aj Ì aC a0 E λe s' X=>hE e s' (X.after S T R F.stk)) (λz z x=>yA.after S T x) λz z x=>x
 ·show ü (Ï (h1 U H fl aR ae hx J s R F E hE) (λf Ì hf=>?_) λz z x=>x)
  cases fl with
  |next=>show absurd N eJ
  |ret v=>show gq hf λa aT q3 r=>?_;apply aW q3;show⟨a,aT,N,r⟩
  |exc c w=>show hf.elim
end
section
variable{A:Ñ}{E:Ä->Å->Prop}{s:Å}{Z:Env}
theorem w7{h:Ó}{g:Array ö}{d:Drawn}{t:Nat}{os:ó}{C C0 e:È}{mN mN0:Str->Option Ä}{oe:Obj}{Q:Bool->Å->Prop}(S:eV h C C0 mN mN0)(he:h.get? e=À oe)(Gn:oe.cls=.ref C)
  (hq:Q Æ ⟨h,g,d,t,os⟩):É mo A (excMatches (.ref e) (.ref C0)) Q E ⟨h,g,d,t,os⟩:=by
 show S.c.el λD hC hn=>S.c0.el λD0 EE Mz=>?_;have wJ:(Value.ref C0::jY).contains (.type "BaseException")=Æ:=by rw[ϖ,show jY.contains (.type "BaseException")=Æ from PySem.F.excBase_ValueError.hasBase,afF]
 have UU:(Value.ref C::.ref C0::jY).contains (.ref C0)=Æ:=by rw[ϖ,ϖ,beq_self_eq_true];simp
 have f:=tc_notTuple;unfold excMatches
 repeat (first|(with_reducible refine Õ he ?_;rw[Gn])|with_reducible refine Õ EE ?_|(with_reducible refine â EE ?_;rw[wJ])|(with_reducible refine â hC ?_;rw[UU])|wp_step)
 show hq
end
def fL(A:Ñ)(E:Ä->Å->Prop)(s:Å)(Z:Env)(e:È)(t:Ô)(n:Str)(b₀:č)(f0:List č)(pos:Pos)(aD:List œ)(Q:PySem.Flow->Å->Prop):Prop:=∀(h:É mo (A.mark (À (.ref e))) (eval t Z) (λc Ì=>∃C C0 mN mN0,c=.ref C0/\eV Ì.heap C C0 mN mN0/\(∃oe,Ì.heap.get? e=À oe/\oe.cls=.ref C) /\
   É mo (A.mark (À (.ref e))) (setFlight (.ref e) Ã) (λz cW=>
     É mo (A.mark (À (.ref e))) (storeName Z n (.ref e)) (λz iX=>
      É mo (A.mark (À (.ref e))) (execs (b₀::f0) Z)
       (λf Ap=>É mo A (do bindName Z n .none;unbindBehindTheSuite Z n pos) (λz Ig=>Q f Ig) E Ap)
       (AsSuiteRaised mo (A.mark (À (.ref e))) Z n pos (notedBy mo (A.mark (À (.ref e))) Z (Ĩ mo A Z E))) iX) (notedBy mo (A.mark (À (.ref e))) Z (Ĩ mo A Z E)) cW) (notedBy mo (A.mark (À (.ref e))) Z (Ĩ mo A Z E)) Ì) (notedBy mo (A.mark (À (.ref e))) Z (Ĩ mo A Z E)) s),É mo A (handleBy (.ref e) Z (.ExceptHandler (À t) (À n) (b₀::f0) pos::aD)) Q E s
namespace handleBy_subH
def kc:=hc (NO fL) ({},λz z=>True,dS,default,0,default,default,default,[],default,[],λz z=>True)
def A:=kc.1
def E:=kc.2.1
def s:=kc.2.2.1
def Z:=kc.2.2.2.1
def e:=kc.2.2.2.2.1
def t:=kc.2.2.2.2.2.1
def n:=kc.2.2.2.2.2.2.1
def b₀:=kc.2.2.2.2.2.2.2.1
def f0:=kc.2.2.2.2.2.2.2.2.1
def pos:=kc.2.2.2.2.2.2.2.2.2.1
def aD:=kc.2.2.2.2.2.2.2.2.2.2.1
def Q:=kc.2.2.2.2.2.2.2.2.2.2.2
theorem kt:fL A E s Z e t n b₀ f0 pos aD Q:=by intro h;show wpAny_handleBy_cons (codeAny_handlers_test (Ï h (λc Ì bF=>?_) λz z y=>y)) (by intro q;cases q);show Uy bF λC C0 mN mN0 k25 S k26 hk=>?_;show aF k26 λoe he Gn=>?_;apply aW k25;obtain ⟨hh,g,d,tk,os⟩:=Ì;show w7 S he Gn (codeAny_handlers_suite_as hk)
end handleBy_subH
theorem un:fL A E s Z e t n b₀ f0 pos aD Q:=hk (P:=NO fL) handleBy_subH.kt (A,E,s,Z,e,t,n,b₀,f0,pos,aD,Q)
def XZ:cm->Prop
 |.exc _ _=>False
 |_=>True
def LO(J:List È)(s:Å)(U:aL):cm->aL->ag->PySem.Flow->Å->Prop
 |.next,aR,ae,f,s'=>f=.next/\aR=U/\∃aT,SE J s.heap aT s'.heap/\ar gg aT ae s'.heap/\bJ s s'
 |.ret v,_,ae,f,s'=>∃a aT,f=.ret a/\SE J s.heap aT s'.heap/\ar gg aT ae s'.heap/\VR gg aT s'.heap v a/\bJ s s'
 |.exc _ _,_,_,_,_=>False
def EX(A:Ñ)(Z:Env)(O:List (Str×Nat))(st:č)(m:aL->ag->Option (cm×aL×ag)):Prop:=
 ∀U H fl aR ae,m U H=À (fl,aR,ae)->XZ fl->∀J s,ar gg J H s.heap->eH (br A) J Z O U s.heap->∀E,É mo A (exec st Z) (LO J s U fl aR ae) E s
def sw(A:Ñ)(Z:Env)(O:List (Str×Nat))(st:List č)(m:aL->ag->Option (cm×aL×ag)):Prop:=
 ∀U H fl aR ae,m U H=À (fl,aR,ae)->XZ fl->∀J s,ar gg J H s.heap->eH (br A) J Z O U s.heap->∀E,É mo A (execs st Z) (LO J s U fl aR ae) E s
section
variable{A:Ñ}{E:Ä->Å->Prop}{J aj:List È}{H Î ae:ag}{s Ì:Å}{Z:Env}{O:List (Str×Nat)}{U aR:aL}{Á:az}{d:Nat}
theorem LO.after(S:SE J s.heap aj Ì.heap)(T:bJ s Ì)(h:LO aj Ì U fl aR ae f cW):LO J s U fl aR ae f cW:=by
 cases fl with
 |next=>obtain ⟨e,e',aT,S',R',T'⟩:=h;show⟨e,e',aT,S.trans S',R',T.trans T'⟩
 |ret v=>show Mj h λa aT e S' R' V' T'=>⟨a,aT,e,S.trans S',R',V',T.trans T'⟩
 |exc c w=>show h.elim
theorem Lj(ht:fq A Z O t (bU Á c))(ha:sw A Z O a (aN Á x))(hb:sw A Z O b (aN Á y)):EX A Z O (.If t a b pos) (bD Á (.ite c x y)):=by
 intro U H fl aR ae h ou J s R F E;show j6 h λp Î h1 h=>wpAny_If (ht.bind (bR h1) R F λÌ aj S T aC a0=>?_);cases p with
 |true=>show Ï (ha U Î fl aR ae h ou aj Ì aC a0 E) (λz z x=>LO.after S T x) λz z x=>x
 |false=>show Ï (hb U Î fl aR ae h ou aj Ì aC a0 E) (λz z x=>LO.after S T x) λz z x=>x
theorem H2(he:aS A Z O e (ab Á c)):EX A Z O (.Return (À e) pos) (bD Á (.ret c)):=by
 intro U H fl aR ae h ou J s R F E;rw[lR]at h;rcases fO h with h|⟨c',w,rfl,rfl,hx⟩
 ·show dz h λv Î q h=>?_
  apply jh h;show ė (he.bind q R F λa Ì aj S T aC a0 bh=>⟨a,aj,N,S,aC,bh,T⟩)
 ·show ou.elim
theorem DV{st:č}{aD:List č}{c:CS}{cs:ff}(h1:EX A Z O st (bD Á c))(h2:sw A Z O aD (aN Á cs)):sw A Z O (st::aD) (aN Á (.cons c cs)):=by
 intro U H fl aR ae h ou J s R F E;show ã (jg h) (λq=>gq q λcJ Î hx h'=>?_) (λq=>aO q λhx eJ=>?_)
 ·show ü (Ï (h1 U H .next cJ Î hx trivial J s R F E) (λf Ì hf=>?_) λz z x=>x)
  obtain ⟨rfl,rfl,aj,S,aC,T⟩:=hf;show Ï (h2 _ Î fl aR ae h' ou aj Ì aC (F.step R S) E) (λz z x=>LO.after S T x) λz z x=>x
 ·show ü (Ï (h1 U H fl aR ae hx ou J s R F E) (λf Ì hf=>?_) λz z x=>x)
  cases fl with
  |next=>show absurd N eJ
  |ret v=>show gq hf λa aT q3 r=>?_;apply aW q3;show⟨a,aT,N,r⟩
  |exc c w=>show hf.elim
theorem g8(ih:∀st c,S st=À c->EX A Z O st (bD Á c)):∀{ss:List č} {c:ff},dX S ss=À c->sw A Z O ss (aN Á c)
 |[],c,h=>by apply dC h;intro U H fl aR ae h ou J s R F E;apply jh h;show ġ ⟨N,N,J,SE.refl _ _,R,bJ.refl _⟩
 |st::r,c,h=>by show ie h λa b ha hb h=>?_;apply dC h;show DV (ih _ _ ha) (g8 ih hb)
theorem rL(G:fN gg cx fs mg mb)(hQ:∀k∈cx.calm,sv A Á k)(Z:Env)(O:List (Str×Nat)):∀n st c,Js cx Z.scope O n st=À c->EX A Z O st (bD Á c):=by
 intro n
 induction n with
 |zero=>show λst c h=>no h
 |succ n ih=>
  have P1:=HR G hQ Z O n;intro st c h;replace h:QH (cQ cx Z.scope O n) (dX (Js cx Z.scope O n)) st=À c:=h;cases st with
  |If t a b pos=>show ie h λx y hx hy h=>?_;show bW h λz hz h=>?_;apply dC h;show Lj (P1 _ _ hx).2 (g8 ih hy) (g8 ih hz)
  |Return v pos=>show ie h λe c' he eU h=>?_;apply dC h;apply aW he;show H2 (P1 _ _ eU).1
  |_=>show no h
theorem ml.rep{aZ h:Ó}{Č:Prop}{P:Ä->Prop}{ea:È}{c:Nat}{w:Str}(X:ml (br A) J H aZ h Č P ea c w):∃D,ar gg (J++[D,ea]) (H++[.wd w,.exn c H.length]) h/\aZ.get? D=Ã/\∃o,h.get? ea=À o/\o.cls=.ref (gg.cls c):=by
 show W' X.X.ex λx y=>?_;have len:=X.R.len;have R1:ar gg (J++[x.D]) (H++[.wd w]) h:=X.R.more y.b.Dφ (km λo q=>no (y.b.D0.symm.trans (X.B0 _ _ q))) (.wd y.b.hD y.b.hm) (Ns.noSeq y.b.hD)
 have R2:=R1.more (m:=.exn c H.length) (a:=ea) (λq=>ã (Ģ.mp q) X.X.eφ λq=>y.b.De (O'.mp q).symm) X.X.eB (.exn y.b.he N N N (by rw[<-len];show List.getElem?_concat_length)) λo e hh=>by rw[<-sm (y.b.he.symm.trans e)]at hh;show hh.elim (λk=>nomatch k.1) λk=>nomatch k.1
 rw[ÿ,ÿ]at R2;show⟨x.D,R2,y.b.D0,_,y.b.he,N⟩
theorem CU(h:aN Á (.cons (.ret a) .nil) U H=À (f,cJ,Î)):(∃v,f=.ret v/\cJ=U/\ab Á a U H=À (v,Î))\/∃c w,f=.exc c w/\cJ=U/\dD Á a U H=À (c,w,Î):=by
 have gJ:∀{f cJ Î},bD Á (.ret a) U H=À (f,cJ,Î)->(∃v,f=.ret v/\cJ=U/\ab Á a U H=À (v,Î))\/∃c w,f=.exc c w/\cJ=U/\dD Á a U H=À (c,w,Î):=λ{f cJ Î} h=>by
  rw[lR]at h;rcases fO h with h|⟨c,w,rfl,rfl,hx⟩
  ·show dz h λv Ý q h=>?_
   apply jh h;show .inl ⟨v,N,N,q⟩
  ·show .inr ⟨c,w,N,N,hx⟩
 show ã (jg h) (λq=>gq q λII Ý hx h=>?_) (λq=>aO q λhx eJ=>?_)
 ·rcases gJ hx with ⟨v,e,_⟩|⟨c,w,e,_⟩<;>cases e
 ·show gJ hx
end
def nB(A:Ñ)(Z:Env)(O:List (Str×Nat))(Á:az)(n:Str)(i:Nat)(e:Ô)(a:CE)(b₀:č)(f0:List č)(y:ff)(rp:Pos)(tp:Pos)(wP:Pos)(pos:Pos):Prop:=∀(G:fN gg cx fs mg mb) (K:FX A Z) (hg:bi Z.scope ("LarderError":Str)=Æ) (hl:Z.kindOf n=À .local) (hi:O.lookup n=À i) (hX:jq A Z O e (dD Á a)) (he:aS A Z O e (ab Á a)) (hH:∀ea,sw (A.mark (À (.ref ea))) Z O (b₀::f0) (aN Á y)),kU A Z O (.Try [.Return (À e) rp] [.ExceptHandler (À (.Name ("LarderError":Str) tp)) (À n) (b₀::f0) wP] [] [] pos) (bD Á (.try_ (.cons (.ret a) .nil) i y))
namespace snd_tryH
def kc:=hc (yx nB) ({},default,[],λz z z=>Ã,default,0,default,.dict0,default,[],.nil,default,default,default,default)
def A:=kc.1
def Z:=kc.2.1
def O:=kc.2.2.1
def Á:=kc.2.2.2.1
def n:=kc.2.2.2.2.1
def i:=kc.2.2.2.2.2.1
def e:=kc.2.2.2.2.2.2.1
def a:=kc.2.2.2.2.2.2.2.1
def b₀:=kc.2.2.2.2.2.2.2.2.1
def f0:=kc.2.2.2.2.2.2.2.2.2.1
def y:=kc.2.2.2.2.2.2.2.2.2.2.1
def rp:=kc.2.2.2.2.2.2.2.2.2.2.2.1
def tp:=kc.2.2.2.2.2.2.2.2.2.2.2.2.1
def wP:=kc.2.2.2.2.2.2.2.2.2.2.2.2.2.1
def pos:=kc.2.2.2.2.2.2.2.2.2.2.2.2.2.2
theorem kt:nB A Z O Á n i e a b₀ f0 y rp tp wP pos:=by
 intro G K hg hl hi hX he hH;intro U H fl aR ae h0 J s R F E hE;rw[y9]at h0;show oO h0 λf cJ Î h1 h=>?_;clear h0;rcases CU h1 with ⟨v,rfl,rfl,q⟩|⟨c,w,rfl,rfl,hx⟩
 ·apply jh h
  show wpAny_Try_except (ü (ė (he.bind q R F λa Ì aj S T aC a0 bh=>⟨a,aj,N,cU.ofSE S Z,aC,bh,T⟩)))
 ·show oO h λf2 II Ý h2 h=>?_
  cases f2 with
  |next=>show no h
  |exc c' w'=>show no h
  |ret v2=>
  apply jh h;show wpAny_Try_except (ü (ė (hX _ H c w Î hx J s R F _ _ λea aj Ì X=>W' K.top λbQ ho=>W' K.own λL hL=>oS (vg G X.hc) λmN mN0 fI S2 z=>Aa ho hL (X.X.mono (λq=>q) λf q=>.inl q) λjx T7 TJ=>iC (s:={Ì with heap:=jx}) (P':=P0) T7 N λdZ Je TK=>?_)));have jr:SE J s.heap aj dZ:=cU.xkp (cU.xkp X.S TJ) TK;show un (AS (A:=A.mark _) (s:={Ì with heap:=dZ}) (c:=0) G (F.step R jr) Je.R hg N ⟨gg.cls c,gg.cls 0,mN,mN0,N,S2.keeps Je.R.base,?_,?_⟩)
  ·show Je.X.ex.elim λx y=>⟨_,y.b.he,N⟩
  show iC (A:=A.mark _) (s:={Ì with heap:=dZ}) (P':=P0) Je rfl λlW Qr TL=>?_;obtain ⟨D,r2,D0,o,_⟩:=Qr.rep;have EY:SE J s.heap aj lW:=cU.xkp jr TL
  have lK:SE J s.heap (aj++[D,ea]) lW:=by
   show aF EY.ext λt ht hf=>⟨EY.pres,EY.dom,t++[D,ea],by rw[ht,ÿ],λb hb=>ã (Ģ.mp hb) (λhb=>?_) (λhb=>?_)⟩
   ·show hf b hb
   ·simp only[Ĉ,ac',or_false]at hb
    rcases hb with rfl|rfl
    ·show D0
    ·show X.X.X.e0
  have ES:=F.step R lK
  have zD:(aj++[D,ea])[Î.length+1]?=À ea:=by have len:aj.length=Î.length:=Qr.R.len;rw[<-len,ϙ (ϝ _),show aj.length.succ-aj.length=1 from (ϯ aj.length 1)];rfl
  show fE (A:=A.mark _) (s:={Ì with heap:=lW}) ES r2 hi (.inl hl) (.ref zD) λjV Sn Jc I6 NF up5=>Ï (hH ea _ _ (.ret v2) _ _ h2 trivial _ {Ì with heap:=jV,toks:=Sn} I6 NF _) (λf Sk hf=>?_) λz z x=>x;show Mj hf λav Cj q3 Ql TP T5 TY=>?_;apply aW q3;have NG:=NF.step I6 Ql;show aF NG.ns λm₆ MD z=>?_;have ns:=Ns.noSeq MD;show wpAny_nameGoes hl MD (by rw[F.kind];rfl) λKd m₇ Rs Bd=>?_;have kp:∀b o,b≠Z.locals->Sk.heap.get? b=À o->Kd.get? b=À o:=λb o hb e=>Bd.extBut b o hb e
  have TS:cU (FM Cj Z) Cj Sk.heap Cj Kd:=by
   show⟨λb o e hb=>.inl (kp b o (λq=>hb (.inr (.inl q))) e),λb o e=>?_,[],(Ĵ _).symm,λz hm=>nomatch hm⟩;by_cases hb:b=Z.locals
   ·show oS Rs λo' z z s0 z=>⟨o',hb▸s0⟩
   ·show⟨o,kp b o hb e⟩
  have Jb:cU (FM J Z) J s.heap (aj++[D,ea]) jV:=FM.trans (cU.ofSE lK Z) (Jc.mono λb hb=>by
   show ã hb (λhb=>?_) (λhb=>?_)
   ·show .inr (.inl hb)
   ·show .inr (.inr ⟨n,hb⟩))
  show⟨av,Cj,rfl,FM.trans Jb (FM.trans (cU.ofSE Ql Z) TS),TP.other NG.locN NG.locB kp ns,T5.stepT (λz z e=>e) λb o e wQ hn=>⟨kp b o (by rintro rfl;show ns o e wQ) e,hn⟩,(X.T.trans ⟨rfl,rfl,rfl⟩).trans (TY.trans ⟨rfl,rfl,rfl⟩)⟩
end snd_tryH
theorem Ln{A:Ñ}{Z:Env}{O:List (Str×Nat)}{Á:az}{n:Str}{i:Nat}{e:Ô}{a:CE}{b₀:č}{f0:List č}{y:ff}{rp:Pos}{tp:Pos}{wP:Pos}{pos:Pos}:nB A Z O Á n i e a b₀ f0 y rp tp wP pos:=hk (P:=yx nB) snd_tryH.kt (A,Z,O,Á,n,i,e,a,b₀,f0,y,rp,tp,wP,pos)
section
variable{A:Ñ}{E:Ä->Å->Prop}{J aj ļ:List È}{H Î ae:ag}{s Ì Þ:Å}{Z:Env}{O:List (Str×Nat)}{U aR:aL}{Á:az}{d:Nat}
theorem VR.stepF(F:eH (br A) J Z O U h)(S:cU (FM J Z) J h aj h')(x:VR gg J h v a):VR gg aj h' v a:=by
 show x.stepT (λn a e=>S.pre e) λb o e hs hn=>⟨(S.pres b o e λq=>?_).hard hs,S.notin e hn⟩;rcases q with q|q|⟨y,q⟩
 ·show hn q
 ·subst q
  show aF F.ns λm ic z=>Ns.noSeq ic o e hs
 ·show aO (F.cellF y b q) λk1 z=>?_;show W' k1 λu hu=>?_
  show ET.noSeq hu o e hs
theorem bq.stepF(F:eH (br A) J Z O U h)(S:cU (FM J Z) J h aj h')(x:bq gg J h l vs):bq gg aj h' l vs:=by
 induction vs generalizing l with
 |nil=>cases x;show .nil
 |cons v vs ih=>cases x with|cons h1 h2=>show .cons (h1.stepF F S) (ih h2)
structure Sz where
 A:Ñ
 ļ:List È
 Þ:Å
 Z:Env
 O:List (Str×Nat)
 ys:List V
 vs:List Ä
 wr:List È
 kp:List È
structure SA(c:Sz):Prop where
 wL:∀b,b∈c.wr\/b∈c.kp->b≠c.Z.locals
 wC:∀b,b∈c.wr\/b∈c.kp->∀x,c.Z.cells.lookup x≠À b
 w0:∀b∈c.wr,c.Þ.heap.get? b=Ã
structure FI(c:Sz)(U:aL)(J:List È)(h:Ó):Prop where
 S:cU (FM c.ļ c.Z) c.ļ c.Þ.heap J h
 F:eH (br c.A) J c.Z c.O U h
 ys:bq gg J h c.ys c.vs
 hn:∀b,b∈c.wr\/b∈c.kp->b∉J
section
variable{c:Sz}{J aT:List È}{h h':Ó}
theorem FI.mv(X:SA c)(I:FI c U J h)(M:Mv c.wr J h h')(R':ar gg J H h')(w:∀b∈c.wr,ed h b):FI c U J h':=
 ⟨cU.mv I.S R' M (λz q=>.inl q) X.w0,I.F.mvN M w (λq=>X.wL _ (.inl q) N) λx b e q=>X.wC b (.inl q) x e,M.vrsT (λb hb=>(w b hb).nt) I.ys,I.hn⟩
theorem FI.tgt(I:FI c U J h)(S':cU (TM c.Z ns) J h J h')(F':eH (br c.A) J c.Z c.O aR h')(up:∀{v:V} {a:Ä},VR gg J h v a->VR gg J h' v a):FI c aR J h':=
 ⟨FM.trans I.S (S'.mono λb hb=>hb.fm),F',I.ys.upG up,I.hn⟩
theorem SA.nFM(X:SA c)(hn:∀b,b∈c.wr\/b∈c.kp->b∉J)(b:È)(hb:b∈c.wr\/b∈c.kp):¬ FM J c.Z b:=λq=>by
 rcases q with q|q|⟨x,q⟩
 ·show hn b hb q
 ·show X.wL b hb q
 ·show X.wC b hb x q
theorem FI.body(I:FI c U J h)(S':cU (FM J c.Z) J h aT h')(F':eH (br c.A) aT c.Z c.O aR h')(lv:∀b,b∈c.wr\/b∈c.kp->∃o,h.get? b=À o):FI c aR aT h':=
 ⟨FM.trans I.S S',F',bq.stepF I.F S' I.ys,λb hb=>(lv b hb).elim λo e=>S'.notin e (I.hn b hb)⟩
end
structure FT(c:Sz)(m:aL->ag->Option (cm×aL×ag))(t:jS)(w:List (Nat×bp))(xs:List V)(r:cm×aL×ag)(St:Nat->Ó->Prop)(n k:Nat)(J:List È)(H:ag)(U:aL)(s:Å):Prop where
 I:FI c U J s.heap
 T:bJ c.Þ s
 R:ar gg J H s.heap
 st:St k s.heap
 hk:k<=xs.length
 n:n=xs.length-k
 hc:lF m t w (xs.drop k) U H=À r
theorem JX{aK:Ô}{body:List č}{t:jS}{I:È}{xs ys:List V}{vs:List Ä}{w:List (Nat×bp)}{two:Bool}{wr kp:List È}{St:Nat->Ó->Prop}{r0:Nat->Ä->Ó->Prop}{m:aL->ag->Option (cm×aL×ag)}{fl:cm}{qb:aL}{σe iH:ag}{Q:Result->Å->Prop}
  (hA:iZ A d) (K:FX A Z) (TN:ar gg ļ iH Þ.heap) (TG:su (br A) ļ Þ.heap) (Ti:rZ A I xs w two ys vs wr kp St r0) (EL:vj two aK) (C6:fP Z.scope O aK=À t)
  (hb:lj A Z O body m)
  (XN:∀b,b∈wr\/b∈kp->b≠Z.locals) (XM:∀b,b∈wr\/b∈kp->∀x,Z.cells.lookup x≠À b) (qQ:∀b∈wr,Þ.heap.get? b=Ã) (hB:∀b∈wr,gg.B.get? b=Ã)
  (hc:lF m t w xs U H=À (fl,qb,σe)) (YT:∀e s',AG False (br A) ļ Z Þ fl σe e s'->Q (.error e) s')
  (S:cU (FM ļ Z) ļ Þ.heap J s.heap) (T:bJ Þ s) (R:ar gg J H s.heap) (F:eH (br A) J Z O U s.heap) (h0:St 0 s.heap) (ML:bq gg J s.heap ys vs) (hn:∀b,b∈wr\/b∈kp->b∉J)
  (hQ:∀f s',yA (br A) ļ Z O Þ fl qb σe f s'->Q (.ok f) s') :
  Ğ mo A (.forLoop aK (.ref I) body [] Z) Q s:=by
 have X:SA ⟨A,ļ,Þ,Z,O,ys,vs,wr,kp⟩:=⟨XN,XM,qQ⟩;show codeAny_forLoop_any (λn s=>∃k J H U,FT ⟨A,ļ,Þ,Z,O,ys,vs,wr,kp⟩ m t w xs (fl,qb,σe) St n k J H U s) ?_ xs.length ⟨0,J,H,U,⟨S,F,ML,hn⟩,T,R,h0,Ĥ _,N,hc⟩;intro n s q;show PH q λk J H U Ø=>ã (aes k xs.length) (λcE=>?_) (λlB=>?_)
 ·have hc:=Ø.hc
  rw[abF cE]at hc;show qL hc λhw hc=>bW hc λaR Gz hc=>Ti.item k J H s _ _ xs[k] Ø.st Ø.R Ø.I.ys hw Ø.I.hn hB (ē cE) λa bF pj yC aC bh ri=>?_;have tK:=Ø.I.mv X yC aC (Ti.wrN k _ Ø.st);show Ti.go aK EL k J H a _ _ _ ri aC Ø.I.hn hB λjx EW bu x9=>?_;have IA:=Ti.wrM k a _ ri;have EU:=tK.mv X EW bu IA;show vm (s:={s with heap:=jx,toks:=pj}) hA.handled C6 Gz bu EU.F (EW.vrT (λb hb=>(IA b hb).nt) bh) λdZ rS jr jp rY pq=>?_;have Cm:=EU.tgt jr rY pq;have rQ:St (k+1) dZ:=Ti.frame _ _ _ x9 λb hb o e=>Ti.kp x9 hb e (jr.pres b o e λq=>ã q (XN b hb) λq=>aF q λx z q=>XM b hb x q);have yF:bJ Þ {s with heap:=dZ,toks:=rS}:=Ø.T.trans ⟨N,N,N⟩;show ã (jg hc) (λq=>gq q λii ij Gk hc=>?_) (λq=>aO q λhc eJ=>?_)
  ·show Ï (hb aR H .next ii ij Gk J {s with heap:=dZ,toks:=rS} jp rY _ λe s' X=>X.elim) (λf Ap hf=>aO hf λq hf=>?_) λz z x=>x
   rw[q];show hf.el λIJ lK r2 ES NN=>⟨xs.length-(k+1),by rw[Ø.n];show aeG cE (Ż k),k+1,IJ,ij,ii,Cm.body lK ES (Ti.live rQ),yF.trans NN,r2,Ti.frame _ _ _ rQ λb hb o e=>Ti.kp rQ hb e (lK.pres b o e (X.nFM Ø.I.hn b hb)),cE,N,hc⟩
  ·show Ï (hb aR H fl qb σe hc J {s with heap:=dZ,toks:=rS} jp rY _ λe s' X=>AG.note K (AG.after Cm.S yF TN TG X) λpb X'=>YT e pb X') (λf Ap hf=>?_) λz z x=>x
   cases fl with
   |next=>show absurd N eJ
   |ret v=>have EJ:=yA.after Cm.S yF hf;show gq hf λa' aT q3 r=>?_;rw[q3]at EJ ⊢;show hQ _ _ EJ
   |exc c w=>show hf.elim
 ·have kZ:k=xs.length:=ť Ø.hk lB
  have hc:=Ø.hc;have st:=Ø.st;rw[kZ,adO]at hc;rw[kZ]at st;show qL hc λhw hc=>Ti.done J _ s _ _ st Ø.R Ø.I.ys hw Ø.I.hn hB λbF pj yC aC=>?_;have tK:=Ø.I.mv X yC aC (Ti.wrN _ _ st);show ġ (hQ _ _ ?_);apply jh hc;show⟨N,J,tK.S,aC,tK.F,Ø.T.trans ⟨N,N,N⟩⟩
theorem Ld{aK cM:Ô}{body:List č}{pos:Pos}{t:jS}{it:jo}{b:ff}{two:Bool}(hA:iZ A d)(K:FX A Z)(hs:∀x,Ę cM Z x=pure x)(EL:vj two aK)(C6:fP Z.scope O aK=À t)(Zs:jq A Z O cM (JP Á it))
  (hi:mB A Z O cM two (cB Á it)) (hb:lj A Z O body (aN Á b)):kU A Z O (.For aK cM body [] pos) (bD Á (.for_ t it b)):=by
 intro U H fl aR ae h J s R F E hE
 have Wh:∀xs w Î,cB Á it U H=À (xs,w,Î)->lF (aN Á b) t w xs U Î=À (fl,aR,ae)->É mo A (exec (.For aK cM body [] pos) Z) (yA (br A) J Z O s fl aR ae) E s:=λxs w Î h1 h2=>by
  show wpAny_For (Ï (hi U H xs w Î h1 J s R F E) (λxv Ì hp=>wg hp λaT iJ aC yE mk=>mk E _ λI ys vs wr kp St r0 h' Ti nG hk ML qQ hn hB=>?_) λz z x=>x) hs;have a0:=F.step R iJ;have LW:SE aT Ì.heap aT h':=SE.keeps _ hk;have eQ:=a0.step aC LW;show JX (Þ:=s) (ļ:=J) (s:={Ì with heap:=h'}) hA K R F.stk Ti EL C6 hb ?_ ?_ qQ hB h2 (λe s' X=>X.back λpb X'=>hE e pb X') (cU.ofSE (iJ.trans LW) Z) (yE.trans ⟨N,N,N⟩) (aC.keeps hk) eQ nG ML hn λf s' hf=>hf
  ·rintro b hb rfl
   show ã hb (λhb=>?_) (λhb=>?_)
   ·show aF F.ns λm' k3 z=>?_;show oS k3 λo z z ho z=>?_
    rw[qQ _ hb]at ho;show no ho
   ·show oS (Ti.kpN _ _ nG _ hb) λo' cO n' e' ke=>aF eQ.ns λm' ic z=>t5 ic λo2 es2 ep2 Rt U0 z=>?_
    rw[e']at Rt;cases Rt;show nomatch ke.symm.trans U0
  ·intro b hb x e
   show ã hb (λhb=>?_) (λhb=>?_)
   ·show aO (F.cellF x b e) λk4 z=>?_;show gq k4 λu o ho z=>?_
    rw[qQ _ hb]at ho;show no ho
   ·show oS (Ti.kpN _ _ nG _ hb) λo' cO n' e' ke=>aO (eQ.cellF x b e) λk5 z=>?_;show W' k5 λu hu=>?_
    show aF hu λo2 Rt U0=>?_;rw[e']at Rt;cases Rt;show nomatch ke.symm.trans U0
 rw[yZ]at h;rcases fO h with h|⟨c,w,rfl,rfl,hx⟩
 rotate_left
 ·show wpAny_For (Zs _ H c w ae hx J s R F _ E λea aT s' X=>hE _ _ (X.stm K)) hs
 show oO h λxs w Î h1 h2=>Wh xs w Î h1 h2
theorem I5.after(S:cU (FM J Z) J s.heap aj Ì.heap)(T:bJ s Ì)(h:I5 (br A) aj Z O Ì aR ae cW):I5 (br A) J Z O s aR ae cW:=h.el λaT S' R' F' T'=>⟨aT,FM.trans S S',R',F',T.trans T'⟩
theorem yA.isRet(h:yA (br A) J Z O s fl aR ae f cW)(eJ:fl≠.next):∃a,f=.ret a:=by
 cases fl with
 |next=>show absurd N eJ
 |ret v=>show gq h λa z q z=>⟨a,q⟩
 |exc c w=>show h.elim
theorem DZ(K:FX A Z)(ht:fq A Z O t (bU Á c))(hb:lj A Z O body (aN Á b)):kU A Z O (.While t body [] pos) (bD Á (.while_ c b)):=by
 intro U H fl aR ae h J s R F E hE;show wpAny_While (codeAny_whileLoop (λn s'=>∃cJ Î,I5 (br A) J Z O s cJ Î s'/\oL (bU Á c) (aN Á b) n cJ Î=À (fl,aR,ae)) (λn Ì q=>gq q λcJ Î X bF=>X.el λaj iJ aC a0 yE=>?_) kT ⟨U,H,⟨J,cU.refl _ _ _,R,F,bJ.refl _⟩,h⟩);cases n with
 |zero=>show no bF
 |succ n=>
  show dz bF λp Ý GC bF=>ht.bind GC aC a0 λcW cR dh gO bu eQ=>?_;have pJ:=FM.trans iJ (cU.ofSE dh Z);have pK:=yE.trans gO;cases p with
  |false=>apply jh bF;show ġ ⟨N,cR,pJ,bu,eQ,pK⟩
  |true=>
   show ã (jg bF) (λq=>gq q λNB bH Gk bF=>?_) (λq=>aO q λbF eJ=>?_)
   ·show Ï (hb cJ Ý .next NB bH Gk cR cW bu eQ _ λe s' X=>X.elim) (λf iX hf=>?_) λz z x=>x
    apply aW hf.1;show⟨n,Ż _,NB,bH,hf.2.after pJ pK,bF⟩
   ·show Ï (hb cJ Ý fl aR ae bF cR cW bu eQ _ λe s' X=>AG.note K (AG.after pJ pK R F.stk X) λpb X'=>X'.back λs3 X2=>hE e s3 X2) (λf iX hf=>?_) λz z x=>x
    have EJ:=yA.after pJ pK hf;show W' (hf.isRet eJ) λa q=>?_;rw[q]at EJ ⊢;show EJ
theorem Si(hc:cr cx n sc O nx v=À c):swapsWithSole [.Tuple ts k p] v ln Z=pure Ê:=by
 cases v with
 |SetComp a b c d=>cases n<;>show no hc
 |DictComp a b c d e=>cases n<;>show no hc
 |_=>rfl
theorem Sh:ĸ v (À (.Subscript o i p)) ln Z=pure Ê:=by cases v<;>rfl
theorem Sj(h:¬ zL v=Æ):swappedStores [.Tuple ts k p] v Z=pure Ã:=by
 cases v with
 |Tuple a b c=>show(h N).elim
 |_=>rfl
theorem HQ(hA:iZ A d)(G:fN gg cx fs mg mb)(hC:tL A Á)(hX:qd A Á)(K:FX A Z)(ht:fP Z.scope O (.Name x p)=À t)(ha:cr cx n Z.scope O nx v=À a):
  kU A Z O (.Assign [.Name x p] v pos) (bD Á (.assign t a)):=by
 have ih:=(nz hA G hC n Z O nx v a ha).1;have yz:=rI hA G hC hX n Z O nx v a ha;by_cases hv:∃a b c d,v=.ListComp a b c d
 ·show PH hv λelt uj scope py q5=>?_;subst q5
  cases n with
  |zero=>show no ha
  |succ n=>
   have PW:∃b,ĸ (.ListComp elt uj scope py) (À (.Name x p)) pos.line Z=pure b:=⟨_,N⟩;show W' PW λb PW=>?_;cases b with
   |false=>show rJ hA ht PW K yz ih
   |true=>
    show IN (vQ ha) λaK cM ifs it t' Wa=>?_;show Ux Wa λcs c' k7 ou sZ Td iq eU RN=>?_;show aO RN λMI k8=>?_;apply aW k7;apply aW k8;have jE:=nz hA G hC n;show xx hA ht PW (sN ou) (oi sZ) (vk MI Td) (xF hA G hC n Z O nx cM it sZ) Td (λe' IU=>?_) iq λe' IU e c h=>?_
    ·rw[<-IU]at eU;show(jE _ _ _ _ _ eU).1
    ·rw[<-IU]at h;show(jE _ _ _ _ _ h).2
 ·show rJ hA ht (Ao (λa b c d e=>hv ⟨a,b,c,d,e⟩) ha) K yz ih
theorem yN(h:Mb c=À r):∃m o as,c=.meth m o as/\m.isStep=Æ/\r=.expr (.meth m o as):=by
 cases c with
 |meth m o as=>show⟨m,o,as,N,(cT h).1,(sm (cT h).2).symm⟩
 |_=>show no h
theorem gM(ih:∀st c,S st=À c->kU A Z O st (bD Á c)):∀{ss:List č} {c:ff},dX S ss=À c->lj A Z O ss (aN Á c)
 |[],c,h=>by apply dC h;show Li
 |st::r,c,h=>by show ie h λa b ha hb h=>?_;apply dC h;show HV (ih _ _ ha) (gM ih hb)
theorem DY(hA:iZ A d)(G:fN gg cx fs mg mb)(hC:tL A Á)(hX:qd A Á)(hQ:∀ea,∀k∈cx.calm,sv (A.mark (À (.ref ea))) Á k)(Z:Env)(K:FX A Z)(O:List (Str×Nat))(nx:Nat)(hk:Z.scope.kind=.function):∀n st c,sI cx Z.scope O nx n st=À c->kU A Z O st (bD Á c):=by
 intro n
 induction n with
 |zero=>show λst c h=>no h
 |succ n ih=>
  have P1:=nz hA G hC n Z O nx;have cZ:∀{e c},cr cx n Z.scope O nx e=À c->aS A Z O e (ab Á c):=λh=>(P1 _ _ h).1;have yz:∀{e c},cr cx n Z.scope O nx e=À c->jq A Z O e (dD Á c):=λh=>rI hA G hC hX n Z O nx _ _ h;intro st;show Gd (λc=>kU A Z O st (bD Á c)) (Fu (cr cx n Z.scope O nx) (vP cx n Z.scope O nx) (dX (sI cx Z.scope O nx n)) (dX (Js cx Z.scope O n)) Z.scope O st);cases st with
  |Assign ts v pos=>
   show ah λt ht=>?_;apply aW (bX ht);cases t with
   |Name x p=>show ah (m:=fP Z.scope O (.Name x p)) (k:=λt=>(cr cx n Z.scope O nx v).bind λa=>À (CS.assign t a)) λt ht=>ah λa ha=>aM (HQ hA G hC hX K ht ha)
   |Tuple ts k p=>show qJ (b:=zL v=Æ) (x:=(fP Z.scope O (.Tuple ts k p)).bind λt=>(cr cx n Z.scope O nx v).bind λa=>À (CS.assign t a)) λMB=>ah λt ht=>ah λa ha=>aM (xy hA ht (Si ha) (Sj MB) K (yz ha) (cZ ha))
   |Subscript o i p=>show ah (m:=cr cx n Z.scope O nx o) (k:=λa=>(cr cx n Z.scope O nx i).bind λb=>(cr cx n Z.scope O nx v).bind λc=>À (CS.setItem a b c)) λa ha=>ah λb hb=>ah λc' eU=>aM (xJ Sh (cZ ha) (cZ hb) (cZ eU))
   |_=>show dQ
  |Expr e pos=>
   cases e with
   |Call fn as ks p=>show ah λa ha c h=>t5 (yN h) λm o WI q4 hm q6=>?_;subst q4 q6;show HX hm hk N K (yz ha) (cZ ha)
   |_=>show dQ
  |If t a b pos=>show ah λx hx=>ah λy hy=>ah λz hz=>aM (Pr (P1 _ _ hx).2 (gM ih hy) (gM ih hz))
  |For t it body kn pos=>show cY λho=>ah λx hx=>ah λy hy=>ah λz hz=>cY λMI=>aM ?_;apply aW (Ų.mp ho);show Ld hA K (oi hy) (vk MI hx) hx (DP hA G hC hX n Z O nx _ _ hy) (xF hA G hC n Z O nx _ _ hy) (gM ih hz)
  |While t body kn pos=>show cY λho=>ah λx hx=>ah λz hz=>aM ?_;apply aW (Ų.mp ho);show DZ K (P1 _ _ hx).2 (gM ih hz)
  |Return v pos=>show ah λe he=>ah λc' eU=>aM ?_;apply aW he;show Lk K (yz eU) (cZ eU)
  |Raise exc Mc pos=>show cY λQ8=>ah λp hr=>cY λhg=>ah λk kZ=>cY λIX=>ah λa ha=>aM ?_;obtain ⟨x,e⟩:=p;show mM (u3 hr) λp q q3=>?_;apply aW q3;apply aW (abX.mp Q8);show DW hA G K hg kZ (by simpa using IX) (Fm ha) (cZ ha)
  |Try body hs kn hW pos=>
   show cY λho=>ah λq hh=>cY λhc=>ah λi hi=>ah λst fy=>ah λe j=>ah λa ha=>ah λy hy=>aM ?_;obtain ⟨x,nn,f0⟩:=q
   simp only[ň,beq_iff_eq,ώ]at hc ho
   show aO hc λWb hl=>?_;show aO Wb λRO eJ=>?_;show aO RO λhg k38=>?_;subst k38;apply aW (Ų.mp ho.1);apply aW (Ų.mp ho.2);apply aW (bX fy);show W' e.2 λrp q2=>?_;apply aW q2;show mM (wI hh) λtp hp q3=>?_;apply aW q3;cases f0 with
   |nil=>cases eJ
   |cons b₀ f0=>show Ln G K hg hl (cT hi).2 (yz ha) (cZ ha) λea=>g8 (rL G (hQ ea) Z O n) hy
  |_=>show dQ
end
theorem sF(hk:k x=À .cell):∀(b:List (Str×Ä)) (m:Str->Option Ä),(b.map (·.1)).Nodup->bindC k b m x=match b.lookup x with|some v=>À v|none=>m x
 |[],m,_=>rfl
 |(n,v)::r,m,hn=>by
  have lU:=Ϥ.mp hn;unfold bindC;rw[sF hk r _ lU.2,ϊ];cases hb:x==n with
  |true=>
   have:x=n:=by simpa using hb
   subst this
   have hr:r.lookup x=Ã:=by
    cases q:r.lookup x with
    |none=>rfl
    |some y=>show absurd (aeI (f:=(·.1)) (mem_of_lookup q)) lU.1
   rw[hr,if_neg (by rw[hk];decide)];simp
  |false=>
   have eJ:x≠n:=by simpa using hb
   cases q:r.lookup x with
   |some y=>rfl
   |none=>
    by_cases Ka:k n=À .local
    ·rw[if_pos Ka]
    ·rw[if_neg Ka];simp [eJ]
theorem Cg:∀{l:List Str} {vs:List α} {i:Nat} {x:Str} {v:α},l.Nodup->l[i]?=À x->vs[i]?=À v->(l.zip vs).lookup x=À v
 |[],_,_,_,_,_,h,_=>by simp at h
 |a::l,[],_,_,_,_,_,h=>by simp at h
 |a::l,b::vs,0,x,v,_,h1,h2=>by
  simp at h1 h2;apply aW h1;apply aW h2
  simp
 |a::l,b::vs,i+1,x,v,hn,h1,h2=>by
  have lU:=Ϥ.mp hn
  simp only[aej]at h1 h2
  rw[ado,ϊ]
  have:(x==a)=Ê:=by
   simp only[beq_eq_false_iff_ne,ne_eq];rintro rfl;show lU.1 (ĥ h1)
  rw[this];show Cg lU.2 h1 h2
structure AB(cx:f9)(fn:Fn)(cf:bo)(as:List Arg)(b:ff):Prop where
 params:fn.params=⟨[],as,Ã,[],[],Ã,[]⟩
 kind:fn.scope.kind=.function
 gen:fn.scope.isGenerator=Ê
 cor:fn.scope.isCoroutine=Ê
 uniq:∀n k,(n,k)∈fn.scope.names->fn.scope.names.lookup n=À k
 kinds:∀n k,(n,k)∈fn.scope.names->k=.local\/k=.cell\/k=.globalImplicit
 nodup:((dW fn.scope).map (·.1)).Nodup
 pre:as.map (·.arg)=((dW fn.scope).map (·.1)).take as.length
 body:dX (sI cx fn.scope (dW fn.scope) (dW fn.scope).length 200) fn.body=À b
 cf:cf=⟨as.length,b⟩
theorem kq(h:dg p=Æ):p=⟨[],p.args,Ã,[],[],Ã,[]⟩:=by
 obtain ⟨a,b,c,d,e,f,g⟩:=p
 simp only[dg,ň,Ų,abX]at h
 show aO h λk2 k3=>?_;show aO k2 λk6 k7=>?_;show aO k6 λKk Kl=>?_;obtain ⟨⟨rfl,rfl⟩,rfl⟩:=Kk;apply aW Kl;apply aW k7;apply aW k3;rfl
theorem qH(h:CD cx fn.params fn.scope fn.body=À cf):∃as b,AB cx fn cf as b:=by
 show dF h λhc h=>bW h λb hb h=>?_;apply dC h
 simp only[ň,beq_iff_eq,ώ,Ϧ,Ϙ,decide_eq_true_eq]at hc
 show aO hc λk4 h6=>?_;show aO k4 λk8 h5=>?_;show aO k8 λKm h4=>?_;obtain ⟨⟨⟨h0,h1⟩,h2⟩,h3⟩:=Km;show⟨fn.params.args,b,kq h0,h1,h2,h3,λn k hm=>(h4 (n,k) hm).1,λn k hm=>?_,h6,h5,hb,rfl⟩;rcases (h4 (n,k) hm).2 with (h|h)|h
 ·show .inl h
 ·show .inr (.inl h)
 ·show .inr (.inr h)
theorem i9(h:(dW sc).lookup x=À i):((dW sc).map (·.1))[i]?=À x/\∃k,(x,k)∈sc.names/\(k=.local\/k=.cell):=by
 unfold dW at h ⊢;have h1:=mj h
 simp only[Ĥ,ae1,true_and]at h1
 show⟨by simpa using h1,?_⟩;have hm:=ĥ h1;rw[ś]at hm;show aF hm λk1 pA k2=>?_;obtain ⟨n,k⟩:=k1;apply fv k2;show aO (ŝ.mp pA) λh2 h3=>?_
 simp only[Ϙ,beq_iff_eq]at h3
 show⟨k,h2,h3⟩
section
variable{A:Ñ}
structure PD(A:Ñ)(d:Nat):Prop where
 depth:A.depth+d<=600
 units:A.units+3*d<=9000
theorem PD.deeper(h:PD A (d+1))(Z:Env):PD (A.deeper Z) d:=by
 show⟨?_,?_⟩
 ·have:=h.depth
  show A.depth+1+d<=600;show jL (y6 0xc02589310b02589012ba182112ba41313ba184513ba520 N (iL this) (iA _ _) (iA _ _) (iA _ _) (iA _ _))
 ·have:=h.units
  show A.units+3+3*d<=9000;lia
theorem iZ.room(h:iZ A d):PD A d:=⟨h.depth,h.units⟩
theorem C3(ø:AB cx fn cf as b)(R:ar gg J H s.heap)(hv:bq gg J s.heap vs cb)(hl:vs.length=as.length)(VX:Qm (ĩ (Ņ fn.name fn.params fn.body fn.scope pm cd doc) s.heap.objs.size a))(OM:su (br A) J Ì.heap)
  (x:InCallC s (ĩ (Ņ fn.name fn.params fn.body fn.scope pm cd doc) s.heap.objs.size a).locals (bindL (ĩ (Ņ fn.name fn.params fn.body fn.scope pm cd doc) s.heap.objs.size a).kindOf ((as.map (·.arg)).zip cb) λj=>Ã)
   (ĩ (Ņ fn.name fn.params fn.body fn.scope pm cd doc) s.heap.objs.size a).cells (bindC (ĩ (Ņ fn.name fn.params fn.body fn.scope pm cd doc) s.heap.objs.size a).kindOf ((as.map (·.arg)).zip cb) λj=>Ã) Ì) :
  eH (br A) J (ĩ (Ņ fn.name fn.params fn.body fn.scope pm cd doc) s.heap.objs.size a) (dW fn.scope) (bI vs) Ì.heap:=by
 have hk:=x.toInCall.keep;have S:SE J s.heap J Ì.heap:=SE.keeps _ hk;have Oz:vs.length=cb.length:=hv.length
 have Gx:(((as.map (·.arg)).zip cb).map (·.1)).Nodup:=by rw[List.map_fst_zip (by simp;show z' (ŕ hl.symm) (ŕ Oz)),ø.pre];show ø.nodup.sublist (acG _ _)
 have OB:(as.map (·.arg)).Nodup:=by rw[ø.pre];show ø.nodup.sublist (acG _ _)
 have bound:∀{x i v},(dW fn.scope).lookup x=À i->bI vs i=À v->∃av,((as.map (·.arg)).zip cb).lookup x=À av/\VR gg J Ì.heap v av:=λ{x i v} hx hi=>by show aO (i9 hx) λh1 j=>?_;show aF (hv.get hi) λav h2 h3=>?_;have jZ:i<vs.length:=(Ġ.mp hi).1;show⟨av,Cg OB ?_ h2,h3.step R S⟩;rw[ø.pre,List.getElem?_take,if_pos (ĳ jZ (ŕ hl))];show h1
 have Ob:∀{y c},(ì (s.heap.objs.size+1) fn.scope.names []).lookup y=À c->s.heap.objs.size<c:=λ{y c} e=>x.above y c (mem_of_lookup e);show⟨ø.kind,N,N,⟨_,x.toInCall.ns,?_⟩,?_,aX R (aH _),aV R (aH _),?_,?_,?_,λj=>VX,OM⟩
 ·intro y i v hy uA uC
  show aF (bound hy uC) λav h1 h2=>?_;show⟨av,?_,h2⟩;rw[kC uA _ _ Gx,h1]
 ·intro y i hy uA
  obtain ⟨_,k,hm,uw⟩:=i9 hy;have IX:=ø.uniq y k hm
  have Gm:k=.cell:=by
   show ã uw (λq=>?_) (λq=>?_)
   ·subst q
    show ã uA (λr=>?_) (λr=>?_)
    ·have r':fn.scope.names.lookup y=À .cell:=r
     rw[IX]at r';cases r'
    ·have r':fn.scope.names.lookup y=À .free:=r
     rw[IX]at r';cases r'
   ·show q
  subst Gm;show W' (ej fn.scope.names (s.heap.objs.size+1) hm) λc hc=>?_;show W' (de hc) λc' eU=>?_;show⟨c',_,eU,x.cell y c' eU,λv uC=>?_⟩;show aF (bound hy uC) λav h1 h2=>?_;show⟨av,?_,h2⟩;rw[sF (by show IX) _ _ Gx,h1]
 ·intro y c e
  have:=Ob e;have hf:s.heap.get? c=Ã:=gT (ī this);show⟨⟨_,x.cell y c e⟩,aX R hf,ū this,aV R hf⟩
 ·intro y z c e1 e2
  show name_of_addr x.apart (mem_of_lookup e1) (mem_of_lookup e2)
 ·intro y z i e1 e2
  show aO (i9 e1) λh1 j=>?_;show aO (i9 e2) λh2 j=>?_;rw[h1]at h2;show Option.some.inj h2
theorem ml.out{P:Ä->Prop}(X:ml (br A') J H aZ h Č P e c w)(hs:∀f∈br A,f∈br A'):ml (br A) J H aZ h Č P e c w:=
 ⟨X.R,λf hf=>X.FS f (hs f hf),λf hf=>X.F0 f (hs f hf),X.dom,X.B0,⟨X.X.ex,X.X.e0,X.X.eφ,X.X.eB⟩⟩
structure Ye(A:Ñ)(fn:Fn)(J:List È)(H:ag)(vs:List V)(s:Å)(Z:Env)(Ì:Å):Prop where
 F:eH (br (A.deeper Z)) J Z (dW fn.scope) (bI vs) Ì.heap
 R:ar gg J H Ì.heap
 S:SE J s.heap J Ì.heap
 T:bJ s Ì
 back:∀{aT:List È} {h':Ó},cU (FM J Z) J Ì.heap aT h'->SE J s.heap aT h'
 scope:Z.scope=fn.scope
 frame:Z.frame=À Z.locals
theorem qI{fn:Fn}{cf:bo}{as:List Arg}{b:ff}{A:Ñ}{d k:Nat}{vs:List V}{J:List È}{H:ag}{s:Å}{cb:List Ä}{Q:Ä->Å->Prop}{E:Ä->Å->Prop}(G:fN gg cx fs mg mb)(ø:AB cx fn cf as b)(lT:fs[k]?=À fn)(hA:PD A (d+1))(ca:vs.length=as.length)
  (R:ar gg J H s.heap) (FS:su (br A) J s.heap) (hv:bq gg J s.heap vs cb)
  (h:∀Z Ì,Ye A fn J H vs s Z Ì->É mo (A.deeper Z) (execs fn.body Z) (λf s'=>Q (match f with|.ret v=>v|_=>.none) s') (λe s'=>É mo (A.deeper Z) (leaving Z e) (λz pb=>E e pb) (λe' pb=>E e' pb) s') Ì) :
  É mo A (PySem.call (.ref fn.addr) cb) Q E s:=by
 obtain ⟨hm,o,pm,cd,doc,ho,hd,om⟩:=G.made fn (ĥ lT);have zy:s.heap.NoLimit:=G.nolimit.keeps R.base;have Oz:cb.length=as.length:=(hv.length)▸ca;have OB:(as.map (·.arg)).Nodup:=by rw[ø.pre];show ø.nodup.sublist (acG _ _)
 have wM:A.depth<í:=by
  have h1:=hA.depth;have:600<í:=by decide
  show jT (y5 0x1c1410b02589011b10258910b20813ba182313ba340 N (iL h1) (iT this) (iP _) (iA _ _) (iA _ _))
 show ŗ (codeAny_call_cells (body:=fn.body) (binds:=(as.map (·.arg)).zip cb) wM (R.base _ _ ho) hd zy (om.keeps R.base) N (lN ø.params N cb Oz OB) N ?_ (λÌ x=>?_) ø.cor ø.gen ø.kind)
 ·intro y hy
  have qO:y.1∈as.map (·.arg):=(ϗ hy).1;rw[ø.pre]at qO;have Rn:y.1∈(dW fn.scope).map (·.1):=ŭ qO;show aF (ś.mp Rn) λk6 pA e=>?_;obtain ⟨n,i⟩:=k6;show W' (de pA) λi' jZ=>?_;have e':n=y.1:=e;rw[e']at jZ;obtain ⟨_,kk,Vt,IX⟩:=i9 jZ;show ã IX (λq=>?_) (λq=>?_)
  ·subst q;show .inl (ø.uniq _ _ Vt)
  ·subst q
   show .inr ⟨ø.uniq _ _ Vt,?_⟩;show W' (ej fn.scope.names (s.heap.objs.size+1) Vt) λc hc=>?_;show W' (de hc) λc' eU=>?_;show ((ì (s.heap.objs.size+1) fn.scope.names []).lookup y.1).isSome=Æ;rw[eU];rfl
 ·have hk:=x.toInCall.keep
  have iJ:SE J s.heap J Ì.heap:=SE.keeps _ hk;show mM x.toInCall.same λbF pj GA=>?_;have yE:bJ s Ì:=by rw[GA];show⟨N,N,N⟩
  have OM:su (br (A.deeper (ĩ (Ņ fn.name fn.params fn.body fn.scope pm cd doc) s.heap.objs.size fn.addr))) J Ì.heap:=λf hf=>by
   rcases qG hf with rfl|hf
   ·show t5 x.toInCall.ns λo' es ep s0 ke z=>?_
    show⟨?_,_,o',es,ep,N,s0,ke,aX R (aH _),aV R (aH _)⟩;show fn.scope.kind≠.module;rw[ø.kind];decide
   ·obtain ⟨k1,L,o',es,ep,k2,k3,k4,k5,k6⟩:=FS f hf
    show⟨k1,L,o',es,ep,k2,hk _ _ k3,k4,k5,k6⟩
  show h _ Ì ⟨C3 ø R hv ca (G.tab fn (ĥ lT) o _ ho hd) OM x,R.keeps hk,iJ,yE,λdh=>?_,rfl,rfl⟩;show cU.trans iJ dh (λz z z hb=>hb) λb o e hb q=>?_;rcases q with q|q|⟨y,q⟩
  ·show hb q
  ·have q':b=s.heap.objs.size:=q
   show absurd (ō e) (by rw[q'];show ţ _)
  ·have:=x.above y b (mem_of_lookup q)
   show absurd (ō e) (ľ.mpr (ī this))
theorem lP(A8:P[k]?=À cf)(h:aG P (d+1) k vs H=À r):vs.length=cf.arity/\hW (aN (aG P d) cf.body (bI vs) H)=À r:=by show bW (m:=P[k]?) (k:=λfn=>if vs.length=fn.arity then hW (aN (aG P d) fn.body (bI vs) H) else Ã) h λYm UW h=>?_;apply aW (sm (A8.symm.trans UW));show cT h
theorem qE(h:hW m=À (r,ae)):∃fl aR,m=À (fl,aR,ae)/\(fl=.next/\r=.ok .none\/(∃v,fl=.ret v/\r=.ok v)\/∃c w,fl=.exc c w/\r=.exc c w):=by
 show oO h λfl aR Ý hb h=>?_;cases fl with
 |ret v'=>apply dn h;show⟨_,_,hb,.inr (.inl ⟨_,N,N⟩)⟩
 |next=>apply dn h;show⟨_,_,hb,.inl ⟨N,N⟩⟩
 |exc c w=>apply dn h;show⟨_,_,hb,.inr (.inr ⟨_,_,N,N⟩)⟩
theorem DN(G:fN gg cx fs mg mb)(hP:NI cx fs P)(hQ:NJ cx fs P):
  ∀d (A:Ñ),PD A d->∀k∈cx.calm,sv A (aG P d) k:=by
 intro d
 induction d with
 |zero=>intro A hA k hk as H v ae h;show no h
 |succ d ih=>
  intro A hA k hk vs H v ae h fn lT J s cb R FS hv E;show aF (hP k fn lT) λcf A8 wK=>?_;show mM (qH wK) λas b ø=>?_;show aO (lP A8 h) λca h=>?_;have hq:=hQ k hk fn cf lT A8;rw[ø.cf]at ca h hq;show qI G ø lT hA ca R FS hv λZ Ì I=>?_;have PI:=hA.deeper Z;have q':dX (Js cx Z.scope (dW fn.scope) 200) fn.body=À b:=by rw[I.scope];show hq
  have B:=g8 (rL (Á:=aG P d) G (ih _ PI) Z (dW fn.scope) 200) q';show gq (qE h) λfl aR hb hr=>?_;rcases hr with ⟨rfl,hr⟩|⟨v',rfl,hr⟩|⟨_,_,_,hr⟩
  ·apply aW (vH.ok.inj hr)
   show Ï (B _ H _ aR ae hb trivial J Ì I.R I.F _) (λf s' hf=>?_) λz z y=>y;obtain ⟨rfl,_,aT,dh,bu,gO⟩:=hf;show⟨aT,I.S.trans dh,bu,.none,I.T.trans gO⟩
  ·apply aW (vH.ok.inj hr)
   show Ï (B _ H _ aR ae hb trivial J Ì I.R I.F _) (λf s' hf=>?_) λz z y=>y;show Mj hf λav aT q3 dh bu dP gO=>?_;apply aW q3;show⟨aT,I.S.trans dh,bu,dP,I.T.trans gO⟩
  ·cases hr
theorem DM(G:fN gg cx fs mg mb)(hP:NI cx fs P)(hQ:NJ cx fs P):
  ∀d l (A:Ñ),iZ A d->A.frames=À l->tL A (aG P d)/\qd A (aG P d):=by
 intro d
 induction d with
 |zero=>intro l A hA hl;show⟨λk as H v ae h=>no h,λk as H c w ae h=>no h⟩
 |succ d ih=>
  intro l A hA hl
  have gJ:∀(Z:Env) (fn:Fn) (cf:bo) (as:List Arg) (b:ff),AB cx fn cf as b->Z.scope=fn.scope->Z.frame=À Z.locals->lj (A.deeper Z) Z (dW fn.scope) fn.body (aN (aG P d) b):=λZ fn cf as b ø VT Gq=>by
   have PI:iZ (A.deeper Z) d:=⟨hA.handled,(hA.room.deeper Z).depth,(hA.room.deeper Z).units⟩
   have jd:(A.deeper Z).frames=À (Z::l):=by show A.frames.map (Z::·)=_;rw[hl];rfl
   show aO (ih (Z::l) _ PI jd) λh1 h2=>?_;have q':dX (sI cx Z.scope (dW fn.scope) (dW fn.scope).length 200) fn.body=À b:=by rw[VT];show ø.body
   show gM (DY PI G h1 h2 (λea=>DN G hP hQ d _ ⟨PI.depth,PI.units⟩) Z ⟨⟨l,jd⟩,_,Gq⟩ (dW fn.scope) (dW fn.scope).length (by rw[VT];show ø.kind) 200) q'
  show⟨λk vs H v ae h fn lT J s cb R FS hv E=>?_,λk vs H c w ae h fn lT J s cb R FS hv Q E hE=>?_⟩
  ·show aF (hP k fn lT) λcf A8 wK=>?_
   show mM (qH wK) λas b ø=>?_;show aO (lP A8 h) λca h=>?_;rw[ø.cf]at ca h;show qI G ø lT hA.room ca R FS hv λZ Ì I=>?_;have B:=gJ Z fn cf as b ø I.scope I.frame;show gq (qE h) λfl aR hb hr=>?_;rcases hr with ⟨rfl,hr⟩|⟨v',rfl,hr⟩|⟨_,_,_,hr⟩
   ·apply aW (vH.ok.inj hr)
    show Ï (B _ H _ aR ae hb J Ì I.R I.F _ λe s' X=>X.elim) (λf s' hf=>?_) λz z y=>y;obtain ⟨rfl,aT,dh,bu,eQ,gO⟩:=hf;show⟨aT,I.back dh,bu,.none,I.T.trans gO⟩
   ·apply aW (vH.ok.inj hr)
    show Ï (B _ H _ aR ae hb J Ì I.R I.F _ λe s' X=>X.elim) (λf s' hf=>?_) λz z y=>y;show Mj hf λav aT q3 dh bu dP gO=>?_;apply aW q3;show⟨aT,I.back dh,bu,dP,I.T.trans gO⟩
   ·cases hr
  ·show aF (hP k fn lT) λcf A8 wK=>?_
   show mM (qH wK) λas b ø=>?_;show aO (lP A8 h) λca h=>?_;rw[ø.cf]at ca h;show qI G ø lT hA.room ca R FS hv λZ Ì I=>?_;have B:=gJ Z fn cf as b ø I.scope I.frame;show gq (qE h) λfl aR hb hr=>?_;rcases hr with ⟨rfl,hr⟩|⟨v',rfl,hr⟩|⟨c',w',rfl,hr⟩
   ·cases hr
   ·cases hr
   ·injection hr with e1 e2
    subst e1;subst e2;show Ï (B _ H _ aR ae hb J Ì I.R I.F _ λe s' X=>?_) (λf s' hf=>hf.elim) λz z y=>y;obtain ⟨aT,ea,L,rfl,hL,hc,dh,gO,X⟩:=X
    have jd:(A.deeper Z).frames=À (Z::l):=by show A.frames.map (Z::·)=_;rw[hl];rfl
    show Ku jd hL X λh' X' K'=>?_;show hE ea aT _ ⟨hc,I.back (cU.xkp dh K'),I.T.trans (gO.trans ⟨N,N,N⟩),?_⟩;show((X'.out λf hf=>Om hl hf).before I.S R FS).mono (λq=>q.elim) λz q=>q
theorem J0:su (br callerA) J h:=λz hf=>nomatch hf
theorem Ea:vE kk:=λG hP hQ d hd k as H v ae h fn lT J s cb R V E=>by
 have c1:callerA.depth<=500:=by decide
 have c2:callerA.units<=500:=by decide
 have hA:iZ callerA d:=⟨N,(by show jL (y3 0xc02589210b00649010b01f49112ba012 N (iL hd) (iL c1) (iA _ _))),by lia⟩;show(DM G hP hQ d [] callerA hA N).1 k as H v ae h fn lT J s cb R J0 V E
end
end Lar
namespace Lar
open PySem PySem.W PyProof.Rows PySem.Calls PySem.SeqAt
noncomputable def wa(p:õ)(consts:List (Str×Int))(calm:List Nat):f9:=⟨(ò p).map (·.name),consts,[],calm⟩
def zi(p:õ)(loose:List Str):Bool:=eN.all λx=>!(startupNames.contains x) && !(loose.contains x) && !(((ò p).map (·.name)).contains x) && !(((litsOf p).map (·.1)).contains x) && !(((clssOf p loose).map (·.name)).contains x)&&x != ("__name__":Str)
noncomputable def Me:PyData->Option Int
 |.int j=>À j
 |_=>Ã
theorem yT{d:PyData}{i:Int}(h:Me d=À i):d=.int i:=by cases d<;>first|exact no h|exact congrArg _ (sm h)
def constsOk(p:õ)(consts:List (Str×Int)):Bool:=consts.all λc=>(valOf p c.1).bind Me==À c.2
theorem F4{mg:Str->Option Ä}{h:Ó}:∀(l:List DefRec),(∀d∈l,∃a o pm code doc,mg d.name=À (.ref a)/\h.get? a=À o/\o.data=.func (Ņ d.name d.params d.body d.scope pm code doc)/\h.CodeRec code d.name) ->
  ∃fs:List Fn,fs.map (·.name)=l.map (·.name)/\fs.map (λf=>(f.params,f.scope,f.body))=l.map (λd=>(d.params,d.scope,d.body)) /\
   ∀f∈fs,mg f.name=À (.ref f.addr)/\∃o pm cd doc,h.get? f.addr=À o/\o.data=.func (Ņ f.name f.params f.body f.scope pm cd doc)/\h.CodeRec cd f.name
 |[],_=>⟨[],N,N,λz hf=>nomatch hf⟩
 |d::l,hl=>by
  show Yx (hl d G') λa o pm code doc h1 h2 h3 h4=>dN (F4 l λd hd=>hl d (J' _ hd)) λfs e1 e2 e3=>⟨⟨d.name,a,d.params,d.body,d.scope⟩::fs,by simp [e1],by simp [e2],λf hf=>?_⟩;rcases Ĉ.mp hf with rfl|hf
  ·show⟨h1,o,pm,code,doc,h2,h3,h4⟩
  ·show e3 f hf
set_option backward.match.sparseCases false
noncomputable def qg:Ä->Option È
 |.ref a=>À a
 |_=>Ã
theorem sE{v:Ä}{a:È}(h:qg v=À a):v=.ref a:=by cases v<;>first|exact no h|exact congrArg _ (sm h)
noncomputable def Jj:Data->Option Ī
 |.func fd=>À fd
 |_=>Ã
theorem Cw{v:Data}{a:Ī}(h:Jj v=À a):v=.func a:=by cases v<;>first|exact no h|exact congrArg _ (sm h)
noncomputable def Qx:Data->Option ClassData
 |.cls c=>À c
 |_=>Ã
theorem Cu{v:Data}{a:ClassData}(h:Qx v=À a):v=.cls a:=by cases v<;>first|exact no h|exact congrArg _ (sm h)
noncomputable def NX:Data->Option (Array Ä)
 |.fields vs=>À vs
 |_=>Ã
noncomputable def Qw:FuncBody->Option (List č)
 |.stmts b=>À b
 |_=>Ã
theorem Ct{v:FuncBody}{a:List č}(h:Qw v=À a):v=.stmts a:=by cases v<;>first|exact no h|exact congrArg _ (sm h)
def Qu:č->Option (Ô×Ô)
 |.Assign ts v _=>(lh ts).bind λt=>À (t,v)
 |_=>Ã
set_option tactic.hygienic true in
theorem Cr{st:č}{t v:Ô}(h:Qu st=À (t,v)):∃p,st=.Assign [t] v p:=by
 cases st<;>first|exact no h|skip
 rename_i ts v' p;show bW h λt' h1 h2=>?_;apply dn h2;apply aW (bX h1);show⟨p,rfl⟩
noncomputable def Qv:Ô->Option (Ô×Str)
 |.Attribute o a _=>À (o,a)
 |_=>Ã
theorem Cs{e o:Ô}{a:Str}(h:Qv e=À (o,a)):∃p,e=.Attribute o a p:=by
 cases e<;>first|exact no h|skip
 apply dn h;show⟨_,N⟩
set_option backward.match.sparseCases true
def Aq(h:Ó)(mv:Option Ä):Option È:=mv.bind λv=>(qg v).bind λa=>(h.get? a).bind λo=>(Jj o.data).bind λfd=>(qg fd.code).bind λc=>(h.get? c).bind λoc=>(NX oc.data).bind λvs=>(vs[11]?).bind qg
theorem Ar{h h':Ó}{mv:Option Ä}{P:È}(x:Aq h mv=À P)(hk:∀b o,h.get? b=À o->h'.get? b=À o):Aq h' mv=À P:=by show ie x λv a h1 h2 x=>?_;show ie x λo fd h3 h4 x=>?_;show ie x λc oc h5 h6 x=>?_;unfold Aq;rw[h1];simp only[ab4];rw[h2];simp only[ab4];rw[hk _ _ h3];simp only[ab4];rw[h4];simp only[ab4];rw[h5];simp only[ab4];rw[hk _ _ h6];show x
def nJ(h:Ó)(mg:Str->Option Ä):List DefRec->Option (List È)
 |[]=>À []
 |d::r=>(Aq h (mg d.name)).bind λP=>(nJ h mg r).bind λPs=>À (P::Ps)
theorem pf{h h':Ó}{mg:Str->Option Ä}(hk:∀b o,h.get? b=À o->h'.get? b=À o):∀{l:List DefRec} {Ps:List È},nJ h mg l=À Ps->nJ h' mg l=À Ps
 |[],Ps,x=>x
 |d::r,Ps,x=>by show ie x λP Qs h1 h2 x=>?_;show (Aq h' (mg d.name)).bind _=_;rw[Ar h1 hk];show (nJ h' mg r).bind _=_;rw[pf hk h2];show x
theorem kP{h:Ó}{mg:Str->Option Ä}:∀{l:List DefRec} {Ps:List È},nJ h mg l=À Ps->Ps.length=l.length/\∀(i:Nat) (d:DefRec),l[i]?=À d->∃P,Ps[i]?=À P/\Aq h (mg d.name)=À P
 |[],Ps,x=>by apply dC x;show⟨rfl,λi d e=>by simp at e⟩
 |d::r,Ps,x=>by
  show ie x λP Qs h1 h2 x=>?_;apply dC x;show aO (kP h2) λk1 k2=>⟨by simp [k1],λi d' e=>?_⟩;cases i with
  |zero=>apply fv (Option.some.inj e);show⟨P,N,h1⟩
  |succ i=>show k2 i d' e
theorem b1{a b:Bool}(h:(a&&b)=Æ):a=Æ:=(Ľ.mp h).1
theorem b2{a b:Bool}(h:(a&&b)=Æ):b=Æ:=(Ľ.mp h).2
theorem nb{a:Bool}(h:(!a)=Æ):a=Ê:=by cases a;rfl;cases h
theorem KM{o:Obj}{c:Ä}{dt:Data}{sl:Array (Option Ä)}(h1:o.cls=c)(h2:o.dict=Ã)(h3:o.data=dt)(h4:o.slots=sl):o={cls:=c,dict:=Ã,data:=dt,slots:=sl}:=by show Obj.mk o.cls o.dict o.data o.slots=_;rw[h1,h2,h3,h4]
theorem Oa{cd:ClassData}{mro:List Ä}(h1:cd.mro=mro)(h2:cd.hasDict=Æ)(h3:cd.slotNames=[])(h4:cd.abstract=Ê)(h5:cd.collection=Ã)(h6:cd.hasDel=Ê):cd={name:=cd.name,bases:=cd.bases,mro:=mro,ns:=cd.ns,qualname:=cd.qualname,hasDict:=Æ,slotNames:=[],subclasses:=cd.subclasses,abstract:=Ê,collection:=Ã,hasDel:=Ê}:=by show ClassData.mk cd.name cd.bases cd.mro cd.ns cd.qualname cd.hasDict cd.slotNames cd.subclasses cd.abstract cd.collection cd.hasDel=_;rw[h1,h2,h3,h4,h5,h6]
theorem DG{sl:Array (Option Ä)}{v:Option Ä}(h1:sl.size=6)(h2:sl[4]?=À v):∃k0 k1 k2 k3 k5,sl=#[k0,k1,k2,k3,v,k5]:=by obtain ⟨l⟩:=sl;show IN (six_places (l:=l) h1 (by simpa using h2)) λk0 k1 k2 k3 k5 q6=>?_;apply aW q6;show⟨k0,k1,k2,k3,k5,rfl⟩
theorem Um{a b c d:Bool}{C:Prop}(h:(a&&(b&&(c&&d)))=Æ)(k:a=Æ->b=Æ->c=Æ->d=Æ->C):C:=k (b1 h) (b1 (b2 h)) (b1 (b2 (b2 h))) (b2 (b2 (b2 h)))
theorem QC{a b c d e:Bool}{C:Prop}(h:(a&&(b&&(c&&(d&&e))))=Æ)(k:a=Æ->b=Æ->c=Æ->d=Æ->e=Æ->C):C:=Um h λx y z w=>k x y z (b1 w) (b2 w)
def Oc(h:Ó)(tl:List Ä)(C:È)(o:Obj)(cd:ClassData):Bool:=o.cls==.type "type" && (o.dict.isNone&&(o.slots.size==6&&(o.slots[4]?==À (À (.builtin "ValueError.__new__"))&&(cd.mro==.ref C::tl&&(cd.hasDict&&(cd.slotNames.isEmpty&&(!cd.abstract&&(cd.collection.isNone&&(!cd.hasDel&&(h.isNs cd.ns&&(h.nsKeys cd.ns).all il.contains))))))))))
def Jy(h:Ó)(mv:Option Ä)(tl:List Ä):Option (È×È):=mv.bind λv=>(qg v).bind λC=>(h.get? C).bind λo=>(Qx o.data).bind λcd=>if Oc h tl C o cd then À (C,cd.ns) else Ã
theorem Jx{h:Ó}{tl:List Ä}{C:È}{o:Obj}{cd:ClassData}(c1:Oc h tl C o cd=Æ)(ho:h.get? C=À o)(hd:o.data=.cls cd):fi h C tl (h.nsMap cd.ns)/\h.isNs cd.ns=Æ:=by
 unfold Oc at c1;show QC c1 λd1 d2 d3 d4 r=>QC r λd5 d6 d7 d8 r=>Um r λd9 Ur SN Us=>IN (DG (beq_iff_eq.mp (d3)) (beq_iff_eq.mp (d4))) λk0 k1 k2 k3 k5 s5=>?_;have om:=Oa (beq_iff_eq.mp (d5)) (d6) (Ų.mp (d7)) (nb (d8)) (abX.mp (d9)) (nb (Ur));have ZF:=KM (beq_iff_eq.mp (d1)) (abX.mp (d2)) (hd.trans (congrArg _ om)) s5;show⟨⟨⟨⟨cd.ns,cd.name,cd.qualname,cd.bases,cd.subclasses,k0,k1,k2,k3,k5⟩,ho.trans (congrArg À ZF),.of_isNs (SN)⟩,λn hn=>Heap.nsMap_none λhm=>hn ?_⟩,SN⟩
 simpa using Ϧ.mp (Us) n hm
theorem n4{h:Ó}{mv:Option Ä}{tl:List Ä}{C pzJ:È}(x:Jy h mv tl=À (C,pzJ)):mv=À (.ref C)/\fi h C tl (h.nsMap pzJ)/\h.isNs pzJ=Æ:=by show ie x λv C' h1 h2 x=>?_;show ie x λo cd h3 h4 x=>?_;show dF x λhc x=>?_;apply dn x;show⟨h1.trans (congrArg À (sE h2)),Jx hc h3 (Cu h4)⟩
structure TH where
 f:È
 o:Obj
 fd:Ī
 x:Str
 n:Str
 y:Str
 a:Arg×Arg
def MS(h:Ó)(mv:Option Ä):Option TH:=mv.bind λv=>(qg v).bind λf=>(h.get? f).bind λo=>(Jj o.data).bind λfd=>(Qw fd.body).bind λb=>(lh b).bind λst=>(Qu st).bind λq=>(Qv q.1).bind λr=>(dj r.1).bind λx=>(dj q.2).bind λy=>(two fd.params.args).bind λa=>À ⟨f,o,fd,x,r.2,y,a⟩
theorem zG{h:Ó}{mv:Option Ä}{p:TH}{C:Prop}(z:MS h mv=À p)(k:mv=À (.ref p.f)->h.get? p.f=À p.o->p.o.data=.func p.fd->(∃p1 p2 p3 p4,p.fd.body=.stmts [.Assign [.Attribute (.Name p.x p1) p.n p2] (.Name p.y p3) p4])->p.fd.params.args=[p.a.1,p.a.2]->C):C:=by show ie z λv f h1 h2 z=>ie z λo fd h3 h4 z=>ie z λb st h5 h6 z=>BA z λt v' h7 z=>BA z λWn O h8 z=>ie z λx y h9 YE z=>bW z λa YF z=>?_;revert k;apply dC z;intro k;show W' (Cr h7) λp1 e7=>W' (Cs h8) λp2 e8=>W' (bB h9) λp3 e9=>W' (bB YE) λp4 Yu=>k (h1.trans (congrArg À (sE h2))) h3 (Cw h4) ⟨p3,p2,p4,p1,(Ct h5).trans (by rw[bX h6,e7,show t=_ from e8,show Wn=_ from e9,show v'=_ from Yu])⟩ (hG YF)
def RH(h:Ó)(p:TH):Bool:=p.o.cls==.type "function" && (p.x==("self":Str)&&(p.n==("word":Str)&&(p.y==("word":Str)&&(dg p.fd.params&&(p.a.1.arg==("self":Str)&&(p.a.2.arg==("word":Str)&&(decide (p.fd.scope.names=[(("self":Str),NameKind.local),(("word":Str),NameKind.local)]) &&
  (p.fd.scope.kind==.function&&(!p.fd.scope.isGenerator&&(!p.fd.scope.isCoroutine&&(p.fd.globals==Ü&&(p.fd.closure.isEmpty&&(p.fd.defaults==.none&&(p.fd.builtins==ă&&h.codeRecOk p.fd.code p.fd.qualname))))))))))))))
def MT(h:Ó)(mv:Option Ä):Option Unit:=(MS h mv).bind λp=>if RH h p then À () else Ã
theorem zH{h:Ó}{mv:Option Ä}(z:MT h mv=À ()):∃f,mv=À (.ref f)/\iI h f:=by show bW z λp h0 z=>zG h0 λh1 h2 h3 h4 h5=>⟨p.f,h1,(QC (cT z).1 λd1 d2 d3 d4 r=>QC r λd5 d6 d7 d8 r=>QC r λd9 Ur SN Us r=>Um r λYo Yp Yq Yr=>?_)⟩;have hp:=kq d5;rw[h5]at hp;rw[beq_iff_eq.mp d2,beq_iff_eq.mp d3,beq_iff_eq.mp d4]at h4;show⟨p.o,p.fd,p.a.1,p.a.2,h2,⟨beq_iff_eq.mp d1,h3,h4,hp,beq_iff_eq.mp d6,beq_iff_eq.mp d7,of_decide_eq_true d8,beq_iff_eq.mp d9,nb Ur,nb SN,beq_iff_eq.mp Us,Ų.mp Yo,beq_iff_eq.mp Yp,beq_iff_eq.mp Yq⟩,.of_ok Yr⟩
structure XC(mg:Str->Option Ä)(h:Ó)(C0 C1 C2:È)(m0 m1 m2:Str->Option Ä)(f:È):Prop where
 n0:mg ("LarderError":Str)=À (.ref C0)
 n1:mg ("TooMuch":Str)=À (.ref C1)
 n2:mg ("Short":Str)=À (.ref C2)
 c0:fi h C0 jY m0
 c1:fi h C1 (.ref C0::jY) m1
 c2:fi h C2 (.ref C0::jY) m2
 i0:m0 ("__init__":Str)=À (.ref f)
 i:iI h f
 j1:m1 ("__init__":Str)=Ã
 j2:m2 ("__init__":Str)=Ã
 q:C1≠C2/\C1≠C0/\C2≠C0
structure XE(q:õ)(mg:Str->Option Ä)(h:Ó):Prop where
 tabs:∃Ps,nJ h mg (ò q)=À Ps/\Ps.Nodup
 exc:∃C0 C1 C2 m0 m1,∃m2 f,XC mg h C0 C1 C2 m0 m1 m2 f
theorem XE.keeps{q:õ}{mg:Str->Option Ä}{h h':Ó}(X:XE q mg h)(hk:∀b o,h.get? b=À o->h'.get? b=À o):XE q mg h':=
 ⟨aF X.tabs λPs h1 h2=>⟨Ps,pf hk h1,h2⟩,IN X.exc λC0 C1 C2 m0 m1 k=>mM k λm2 f x=>⟨C0,C1,C2,m0,m1,m2,f,x.n0,x.n1,x.n2,x.c0.keeps hk,x.c1.keeps hk,x.c2.keeps hk,x.i0,x.i.keeps hk,x.j1,x.j2,x.q⟩⟩
def xeT(q:õ)(h:Ó):Option Unit:=(Jy h (h.nsMap Ü ("LarderError":Str)) jY).bind λp0=>(Jy h (h.nsMap Ü ("TooMuch":Str)) (.ref p0.1::jY)).bind λp1=>(Jy h (h.nsMap Ü ("Short":Str)) (.ref p0.1::jY)).bind λp2=>
 (MT h (h.nsMap p0.2 ("__init__":Str))).bind λz=>(nJ h (h.nsMap Ü) (ò q)).bind λPs=>if (h.nsMap p1.2 ("__init__":Str)).isNone&&(h.nsMap p2.2 ("__init__":Str)).isNone&&p1.1 != p2.1&&p1.1 != p0.1&&p2.1 != p0.1&&decide Ps.Nodup then À () else Ã
def X5(q:õ)(s:Å):Bool:=(xeT q s.heap).isSome
theorem X6{q:õ}{s:Å}(x:X5 q s=Æ):XE q (s.heap.nsMap Ü) s.heap:=by
 show W' (abt.mp x) λu x=>BA x λC0 N0 h0 x=>BA x λC1 N1 h1 x=>BA x λC2 N2 h2 x=>ie x λz Ps h3 h4 x=>?_;show dF x λhc z=>?_
 simp only[ň,abX,bne_iff_ne,ne_eq,decide_eq_true_eq]at hc
 obtain ⟨⟨⟨⟨⟨c1,c2⟩,c3⟩,c4⟩,c5⟩,c6⟩:=hc;show gH (n4 h0) λa1 a2 z=>gH (n4 h1) λb1 b2 z=>gH (n4 h2) λd1 d2 z=>aF (zH h3) λf e1 e2=>⟨⟨Ps,h4,c6⟩,C0,C1,C2,_,_,_,f,a1,b1,d1,a2,b2,d2,e1,e2,c1,c2,c3,c4,c5⟩
theorem Lv{h:Ó}{mv:Option Ä}{a c P:È}{o:Obj}{fd:Ī}(x1:mv=À (.ref a))(x2:h.get? a=À o)(x3:o.data=.func fd)(x4:fd.code=.ref c)(x6:h.TableAt c P #[]):Aq h mv=À P:=by
 obtain ⟨⟨oo,ws,z1,z2,z3,z4⟩,z5⟩:=x6
 have e1:(NX oo.data).bind (λvs=>(vs[11]?).bind qg)=À P:=by rw[z3];show (ws[11]?).bind qg=_;rw[z4];rfl
 have e2:(Jj o.data).bind (λfd=>(qg fd.code).bind λc=>(h.get? c).bind λoc=>(NX oc.data).bind λvs=>(vs[11]?).bind qg)=À P:=by rw[x3];show (qg fd.code).bind _=_;rw[x4];show (h.get? c).bind _=_;rw[z1];show e1
 rw[x1];show (h.get? a).bind _=_;rw[x2];show e2
noncomputable def QJ(C0 C1 C2:È)(n:Nat):È:=if n=0 then C0 else if n=1 then C1 else C2
noncomputable def fF(l:List DefRec)(Ps:List È):List (Str×È):=(l.map (λd=>(d.name++".<locals>.":Str))).zip Ps
structure Ck(h:Ó)(Ps:List È):Prop where
 at_:∀P∈Ps,h.get? P=À {cls:=.none,data:=.fields #[]}/\isCodeTable h P
theorem Ck.up{h:Ó}{Ps:List È}(KE:Ck h Ps)(b:È)(o:Obj)(e:h.get? b=À o)(hd:o.data≠.fields #[]):(ŀ h Ps).get? b=À o:=
 hideAll_get Ps e λhm=>hd (by rw[Option.some.inj (e.symm.trans (KE.at_ b hm).1)])
theorem Ck.ns{h:Ó}{Ps:List È}(KE:Ck h Ps){a:È}{m:Str->Option Ä}(x:h.Ns a m):(ŀ h Ps).Ns a m:=
 t5 x λo es ep e hd r=>⟨o,es,ep,KE.up _ _ e (by rw[hd];show λq=>nomatch q),hd,r⟩
theorem Ck.cdr{h:Ó}{Ps:List È}(KE:Ck h Ps){cd:Ä}{q:Str}(x:h.CodeRec cd q):(ŀ h Ps).CodeRec cd q:=by obtain ⟨c,o,vs,t,y1,y2,y3,y4⟩:=x;show⟨c,o,vs,t,y1,KE.up _ _ y2 ?_,y3,y4⟩;rw[y3];intro q';injection q' with q';subst q';simp at y4
theorem Ck.cls{h:Ó}{Ps:List È}(KE:Ck h Ps){C:È}{tl:List Ä}{mN:Str->Option Ä}(x:fi h C tl mN):fi (ŀ h Ps) C tl mN:=
 ⟨x.obj.elim λD y=>⟨D,KE.up _ _ y.1 (λq=>nomatch q),KE.ns y.2⟩,x.quiet⟩
theorem Ck.init{h:Ó}{Ps:List È}(KE:Ck h Ps){f:È}(x:iI h f):iI (ŀ h Ps) f:=
 ⟨ED x.ex λo fd a1 a2 ho IO om=>⟨o,fd,a1,a2,KE.up _ _ ho (by rw[IO.data];show λq=>nomatch q),IO,KE.cdr om⟩⟩
structure LY(mg:Str->Option Ä)(h:Ó)(Ps:List È)(n:Str)(k:Nat)(a:È)(o:Obj)(fd:Ī)(c P:È):Prop where
 O:mg n=À (.ref a)
 ho:h.get? a=À o
 hd:o.data=.func fd
 hc:fd.code=.ref c
 is:h.IsCode c P #[]
 ta:h.TableAt c P #[]
 pk:Ps[k]?=À P
theorem Ih{p:õ}{loose:List Str}{qW:ExcName->Option Ä}{mg mb:Str->Option Ä}{h:Ó}(T:Top p loose qW mg mb h){Ps:List È}(t1:nJ h mg (ò p)=À Ps)(k:Nat)(d:DefRec)(hd:(ò p)[k]?=À d):∃a o fd c P,LY mg h Ps d.name k a o fd c P:=by obtain ⟨a,o,fd,c,P,x1,x2,x3,x4,x5,x6⟩:=T.tab d (ĥ hd);show aF ((kP t1).2 k d hd) λP' y1 y2=>?_;rw[Option.some.inj (y2.symm.trans (Lv x1 x2 x3 x4 x6))]at y1;show⟨a,o,fd,c,P,x1,x2,x3,x4,x5,x6,y1⟩
theorem Ov{p:õ}{loose:List Str}{qW:ExcName->Option Ä}{mg mb:Str->Option Ä}{h:Ó}(T:Top p loose qW mg mb h){Ps:List È}(t1:nJ h mg (ò p)=À Ps):Ck h Ps:=⟨λP hP=>by
 show W' (List.getElem_of_mem hP) λk q=>W' q λhk e=>?_;have kZ:k<(ò p).length:=(kP t1).1▸hk;show IN (Ih T t1 k _ (ē kZ)) λa o fd c P' x=>?_
 have q:P'=P:=by have:=x.pk;rw[ē hk,e]at this;show(Option.some.inj this).symm
 rw[<-q];show⟨x.ta.2,x.ta.isCodeTable⟩⟩
theorem Hy{p:õ}{loose:List Str}{qW:ExcName->Option Ä}{mg mb:Str->Option Ä}{h:Ó}(T:Top p loose qW mg mb h)(hf:zi p loose=Æ)(x:Str)(hx:x∈eN):mg x=Ã/\mb x=ę x:=by
 have:=Ϧ.mp hf x hx
 simp only[ň,ώ,List.contains_eq_mem,decide_eq_false_iff_not,bne_iff_ne,ne_eq]at this
 obtain ⟨⟨⟨⟨⟨h1,h2⟩,h3⟩,h4⟩,h5⟩,h6⟩:=this;show⟨T.free x h1 h2 h3 h4 h5,T.builtins x h6⟩
theorem consts_of{p:õ}{loose:List Str}{qW:ExcName->Option Ä}{mg mb:Str->Option Ä}{h:Ó}(T:Top p loose qW mg mb h){consts:List (Str×Int)}(hc:constsOk p consts=Æ)(x:Str)(i:Int)(hx:consts.lookup x=À i):∃t,mg x=À (.int i t):=by show bW (beq_iff_eq.mp (Ϧ.mp hc _ (mem_of_lookup hx))) λd h1 h2=>?_;rw[yT h2]at h1;show aF (T.const x _ h1) λv h3 h4=>?_;have:=h4 h;cases this;show⟨_,h3⟩
theorem Ck.tabC{mg:Str->Option Ä}{h:Ó}{Ps:List È}(KE:Ck h Ps){l:List DefRec}{d:DefRec}{k:Nat}(hd:l[k]?=À d){a:È}{o:Obj}{fd:Ī}{c P:È}(x:LY mg h Ps d.name k a o fd c P)(hq:fd.qualname=d.name){prog:õ}{w:World}{cl:Nat->È}:NK ⟨prog,w,ŀ h Ps,fF l Ps,cl⟩ (fd.qualname++".<locals>.") fd.code:=by
 show⟨k,c,P,h,?_,x.hc,x.is,x.ta,λo ho=>KE.up _ _ ho ?_⟩
 ·show (fF l Ps)[k]?=_
  unfold fF;rw[adb];show⟨?_,x.pk⟩;rw[į,hd,hq];rfl
 ·obtain ⟨⟨oo,ws,z1,z2,z3,z4⟩,z5⟩:=x.ta
  rw[<-Option.some.inj (z1.symm.trans ho),z3];intro q';injection q' with q';subst q';simp at z4
theorem Lz{p prog:õ}{w:World}{loose:List Str}{qW:ExcName->Option Ä}{mg mb:Str->Option Ä}{h:Ó}(T:Top p loose qW mg mb h)(X:XE p mg h)(hi:importsNone p=Æ)(consts:List (Str×Int))(calm:List Nat)(hc:constsOk p consts=Æ)(hf:zi p loose=Æ):
  ∃fs Ps C0 C1 C2,fN ⟨prog,w,ŀ h Ps,fF (ò p) Ps,QJ C0 C1 C2⟩ (wa p consts calm) fs mg mb/\fs.map (λf=>(f.params,f.scope,f.body))=(ò p).map (λd=>(d.params,d.scope,d.body))/\Ps.Nodup/\Ps.length=(ò p).length /\
   ∀P∈Ps,h.get? P=À {cls:=.none,data:=.fields #[]}/\isCodeTable h P:=by
 show dN (F4 (ò p) T.fn) λfs e1 e2 e3=>aF X.tabs λPs t1 t2=>IN X.exc λC0 C1 C2 m0 m1 k=>mM k λm2 f x=>?_;have KE:=Ov T t1;show⟨fs,Ps,C0,C1,C2,⟨KE.ns T.g,KE.ns T.b,aF T.nolimit λmc h1 h2=>⟨mc,KE.ns h1,h2⟩,aF ((T.seer hi).mods) λmm hm z=>oS (KE.ns hm) λo z z ho z=>⟨o,ho⟩,Hy T hf,consts_of T hc,e1,λf hf=>?_,?_,⟨x.n0,x.n1,x.n2,⟨m0,f,KE.cls x.c0,x.i0,KE.init x.i⟩,⟨m1,KE.cls x.c1,x.j1⟩,⟨m2,KE.cls x.c2,x.j2⟩,x.q⟩,λf hf o fd ho hd=>?_⟩,e2,t2,(kP t1).1,KE.at_⟩
 ·obtain ⟨h1,o,pm,cd,doc,h2,h3,h4⟩:=e3 f hf
  show⟨h1,o,pm,cd,doc,KE.up _ _ h2 (by rw[h3];show λq=>nomatch q),h3,KE.cdr h4⟩
 ·obtain ⟨bm,Wn,b1,b2,b3,b4,b5,b6⟩:=T.bmain
  show⟨bm,Wn,b1,b2,KE.up _ _ b3 (by rw[b6];show λq=>nomatch q),b4,b5,b6⟩
 ·show W' (ac4 hf) λk hk=>?_
  have MA:(fs.map (·.name))[k]?=À f.name:=by rw[į,hk];rfl
  rw[e1,į,Ϫ]at MA;show aF MA λd ke Rc=>IN (Ih T t1 k d ke) λa o' YA c P y=>?_;obtain ⟨y1,o2,pm,cd,doc,y2,y3,y4⟩:=e3 f hf
  have ha:f.addr=a:=by have:=y.O;rw[Rc,y1]at this;show Value.ref.inj (Option.some.inj this)
  have s0:=of_hideAll Ps ho;have eo:o'=o:=Option.some.inj (y.ho.symm.trans (ha▸s0));have ef:YA=fd:=Data.func.inj (y.hd.symm.trans (eo▸hd));rw[ef]at y;show KE.tabC ke y ?_;have:=(hd.symm.trans (congrArg Obj.data (Option.some.inj (s0.symm.trans y2)))).trans y3;rw[Data.func.inj this];show Rc.symm
theorem Pe{h h':Ó}{Ps:List È}(hk:∀b o,h.get? b=À o->b∉Ps->h'.get? b=À o)(hP:∀P∈Ps,h.get? P=À {cls:=.none,data:=.fields #[]}/\isCodeTable h P)(hQ:∀P∈Ps,∃vs,h'.get? P=À {cls:=.none,data:=.fields vs}):OldK h h':=by
 show⟨λb o e=>?_,λb o e=>?_⟩
 ·by_cases hb:b∈Ps
  ·show aO (hP b hb) λh1 h2=>W' (hQ b hb) λvs h3=>?_
   apply fv (Option.some.inj (h1.symm.trans e));show .inr (.inl ⟨h2,rfl,#[],vs,rfl,by rw[h3];simp⟩)
  ·show .inl (hk b o e hb)
 ·by_cases hb:b∈Ps
  ·show W' (hQ b hb) λvs h3=>⟨_,h3⟩
  ·show⟨o,hk b o e hb⟩
theorem law_run{p prog:õ}{w:World}{loose:List Str}{qW:ExcName->Option Ä}{mg mb:Str->Option Ä}{s:Å}(T:Top p loose qW mg mb s.heap)(X:XE p mg s.heap)(hi:importsNone p=Æ)(consts:List (Str×Int))(calm:List Nat)(hc:constsOk p consts=Æ)(hf:zi p loose=Æ)
  {P:List bo} (hP:(ò p).map (λd=>CD (wa p consts calm) d.params d.scope d.body)=P.map À) (YU:∀k∈calm,∃d cf,(ò p)[k]?=À d/\P[k]?=À cf/\dX (Js (wa p consts calm) d.scope (dW d.scope) 200) d.body=À cf.body) {k:Nat} {name:Str} (hk:((ò p).map (·.name))[k]?=À name) {fa:È} (VF:mg name=À (.ref fa)) {a:È} {vs:List Ä} {ns:List Int} (hl:s.heap.IsList a vs.toArray) (hz:ns.length<=al+1) (hv:ñ vs ns)
  {d:Nat} (hd:d<=100) (h:∀H,∃ae,aG P d k [.ro ns] H=À (.ok (.bool Æ),ae)) {E:Ä->Å->Prop} {Q:Ä->Å->Prop} (hQ:∀s',OldK s.heap s'.heap->s'.gens=s.gens->s'.os=s.os->Q (.bool Æ) s') :
  É (model prog w) callerA (PySem.call (.ref fa) [.ref a]) Q E s:=by
 show Yy (Lz (prog:=prog) (w:=w) T X hi consts calm hc hf) λfs Ps C0 C1 C2 G Rg Gx ca hT=>?_
 have Nj:∀(k:Nat) (fn:Fn),fs[k]?=À fn->∃dr,(ò p)[k]?=À dr/\dr.params=fn.params/\dr.scope=fn.scope/\dr.body=fn.body:=λk fn lT=>by
  have h1:(fs.map (λf=>(f.params,f.scope,f.body)))[k]?=À (fn.params,fn.scope,fn.body):=by simp [lT]
  rw[Rg,į,Ϫ]at h1;show aF h1 λdr Rd e=>?_;injection e with e1 e
  injection e with e2 e3
  show⟨dr,Rd,e1,e2,e3⟩
 have YR:∀(k:Nat) (fn:Fn),fs[k]?=À fn->∃cf,P[k]?=À cf/\CD (wa p consts calm) fn.params fn.scope fn.body=À cf:=λk fn lT=>by
  show wg (Nj k fn lT) λdr Rd e1 e2 e3=>?_;have h2:((ò p).map (λd=>CD (wa p consts calm) d.params d.scope d.body))[k]?=À (CD (wa p consts calm) dr.params dr.scope dr.body):=by simp [Rd]
  rw[hP,į,Ϫ]at h2;show aF h2 λcf A8 e4=>⟨cf,A8,by rw[<-e1,<-e2,<-e3];show e4.symm⟩
 have YS:∀k∈(wa p consts calm).calm,∀fn cf,fs[k]?=À fn->P[k]?=À cf->dX (Js (wa p consts calm) fn.scope (dW fn.scope) 200) fn.body=À cf.body:=λk Vs fn cf lT A8=>by show fu (YU k Vs) λd' Ym h1 h2 h3=>wg (Nj k fn lT) λdr Rd e1 e2 e3=>?_;obtain rfl:=Option.some.inj (h1.symm.trans Rd);apply fv (Option.some.inj (h2.symm.trans A8));rw[<-e2,<-e3];show h3
 have lT:∃fn,fs[k]?=À fn/\fn.name=name:=by rw[show (ò p).map (·.name)=fs.map (·.name) from G.names.symm,į,Ϫ]at hk;show hk
 show aF lT λfn lT oZ=>?_
 have Q4:fn.addr=fa:=by have:=(G.made fn (ĥ lT)).1;rw[oZ,VF]at this;injection this with this;injection this with this;show this.symm
 have So:(fF (ò p) Ps).length=Ps.length:=by unfold fF;simp [ca]
 have Px:∀(j:Nat) (q:Str) (P:È),(fF (ò p) Ps)[j]?=À (q,P)->Ps[j]?=À P:=λj q P hj=>by unfold fF at hj;rw[adb]at hj;show hj.2
 have R:ar ⟨prog,w,ŀ s.heap Ps,fF (ò p) Ps,QJ C0 C1 C2⟩ Ps ((fF (ò p) Ps).map λt=>.tab t.1) s.heap:=by show⟨λb o e=>of_hideAll Ps e,λa ha=>hideAll_none Ps ha,by rw[H',So],Gx,λi a m h1 h2=>?_,λj q P hj=>⟨Px j q P hj,by rw[į,hj];rfl⟩⟩;rw[į,Ϫ]at h2;obtain ⟨⟨q,P⟩,h2,rfl⟩:=h2;apply aW (Option.some.inj ((Px i q P h2).symm.trans h1));show .tab (hT _ (ĥ h1)).1 trivial λpos cv e=>no (e)
 have jd:(ŀ s.heap Ps).IsList a vs.toArray:=by show dN hl λo e eU ke=>⟨o,hideAll_get Ps e λhm=>?_,eU,ke⟩;have:=(hT a hm).1;rw[e]at this;cases this;cases eU
 show W' (h ((fF (ò p) Ps).map λt=>.tab t.1)) λae OH=>?_;have:=CG Ea ⟨_,_,fs,mg,mb,P⟩ G YR YS d hd k [.ro ns] _ (.bool Æ) ae OH fn lT Ps s [.ref a] R (.cons (.ro jd hz hv) .nil) E;rw[Q4]at this;show Ï this (λv s' hp=>?_) λz z x=>x;obtain ⟨aT,S,R',V',T'⟩:=hp;cases V';show hQ s' (Pe (λb o e hb=>R'.base b o (hideAll_get Ps e hb)) hT λP hP=>W' (ac4 hP) λj hj=>?_) T'.1 T'.2.2;have Rj:j<(fF (ò p) Ps).length:=by rw[So];show(Ġ.mp hj).1
 obtain ⟨⟨q,P'⟩,hq⟩:∃t,(fF (ò p) Ps)[j]?=À t:=⟨_,ē Rj⟩;apply fv (Option.some.inj ((Px j q P' hq).symm.trans hj));show aO (R'.tabs j q P' hq) λk1 k2=>?_;cases R'.objs j P' _ k1 k2 with
 |tab h1 _ _=>show⟨_,h1⟩
theorem Kw{p q:õ}{loose:List Str}{Xt:Å->Bool}{α:Type}{Yf:Å->α}{Ya:World->α}{pzJ:Nat}{g0:Bool}
  (e:opening p=plainProg p.main.scope.names) (hN:Nat.ble 600 pzJ=Æ) (f:∀s,fenceModules? p s=À s)
  (run:∀w os,(topFrom treeTable p w pzJ ⟨boot_heap w.params,Array.mk [],boot_drawn,boot_toks,os⟩).map (λs=>(openSeen q loose (importedModules p.main.body) Xt g0 s,Yf s))=À (openGood q loose,Ya w)) :
  LeftO p q loose Xt Yf Ya pzJ g0:=λw=>by
 show aF (Ϫ.mp (boot_open e hN f w)) λs e1 e2=>?_;have q:=Prod.mk.inj e2;have q2:=Prod.mk.inj q.2;have q3:=Prod.mk.inj q2.2
 have es:s=⟨boot_heap w.params,Array.mk [],boot_drawn,boot_toks,s.os⟩:=by show Shared.mk s.heap s.gens s.drawn s.toks s.os=_;rw[q.1,q2.1,q3.1,q3.2]
 unfold openEnds;rw[e1,es];show run w s.os
theorem PA{p q:õ}{loose R4:List Str}{w:World}{pzJ:Nat}{s:Å}{Xt:Å->Bool}{g0:Bool}{α:Type}{Yf:Å->α}:
  (topFrom treeTable p w pzJ s).map (λs=>(openSeen q loose R4 Xt g0 s,Yf s)) =
  (match s.heap.isNs Ü&&s.gens.size==0 with
  |true=>(PySem.W.Fast.tw14082659384304107361 PySem.W.Fast.tw14364793385576792824 p w s.heap.objs.size (s.heap.nsMap Ü "__annotations__") pzJ s (topStub p)).bind λÌ=>match staticsOk (importedModules p.main.body) s.heap Ì.heap&&namesBound p Ì.heap&&gensDone Ì&&laidKept s.heap Ì.heap with
   |true=>À Ì
   |false=>Ã
  |false=>Ã).map (λs=>(PySem.W.Fast.tw4187177175401517315 q loose R4 Xt g0 s,Yf s)):=by
 rw[<-PySem.W.Fast.te14082659384304107361,<-PySem.W.Fast.te14364793385576792824,<-PySem.W.Fast.te4187177175401517315];rfl
end Lar
namespace Lar
open PySem
noncomputable abbrev xv(i:Nat):CE:=.var i
noncomputable abbrev xn(i:Int):CE:=.cst (.int i)
noncomputable abbrev xz(s:Str):CE:=.cst (.str s)
noncomputable abbrev xA(a b:CE):CE:=.bin .Add a b
noncomputable abbrev xS(a b:CE):CE:=.bin .Sub a b
noncomputable abbrev xM(a b:CE):CE:=.bin .Mult a b
noncomputable abbrev xD(a b:CE):CE:=.bin .FloorDiv a b
noncomputable abbrev xR(a b:CE):CE:=.bin .Mod a b
noncomputable abbrev xE(a b:CE):CE:=.cmp .Eq a b
noncomputable abbrev xN(a b:CE):CE:=.cmp .NotEq a b
noncomputable abbrev xL(a b:CE):CE:=.cmp .Lt a b
noncomputable abbrev xLE(a b:CE):CE:=.cmp .LtE a b
noncomputable abbrev xG(a b:CE):CE:=.cmp .Gt a b
noncomputable abbrev P7(a b:CE):CE:=.cmp .GtE a b
noncomputable abbrev xI(a b:CE):CE:=.cmp .Is a b
noncomputable abbrev xIN(a b:CE):CE:=.cmp .IsNot a b
noncomputable abbrev a1(a:CE):gb:=.cons a .nil
abbrev a2(a b:CE):gb:=.cons a (a1 b)
abbrev a3(a b c:CE):gb:=.cons a (a2 b c)
abbrev a4(a b c d:CE):gb:=.cons a (a3 b c d)
abbrev xi(a:CE)(i:Int):CE:=.idx a (xn i)
abbrev xu(a:Nat)(i:Int):CE:=xi (.var a) i
noncomputable abbrev sa(i:Nat)(e:CE):CS:=.assign (.one i) e
abbrev ap(i:Nat)(e:CE):CS:=.expr (.meth .append (.var i) (a1 e))
noncomputable abbrev jP(c:CE)(t:ff):CS:=.ite c t .nil
noncomputable abbrev fr(i:Nat)(e:CE)(t:ff):CS:=.for_ (.one i) (.ex e) t
noncomputable abbrev dx(a:CS):ff:=.cons a .nil
abbrev u8(a b:CS):ff:=.cons a (dx b)
abbrev rX(a b c:CS):ff:=.cons a (u8 b c)
abbrev DC(a b c d:CS):ff:=.cons a (rX b c d)
abbrev Sc(a b c d e:CS):ff:=.cons a (DC b c d e)
abbrev Sd(a b c d e f:CS):ff:=.cons a (Sc b c d e f)
def zj:bo:=⟨1,(rX (sa 1 .dict0) (fr 2 (xv 0) (dx (.for_ (.two 3 4) (.ex (xu 2 1)) (dx (.setItem (xv 1) (xv 3) (.cst (.bool Æ))))))) (.ret (.prim .tuple (a1 (.prim .sorted (a1 (xv 1)))))))⟩
def JW:bo:=⟨2,(rX (sa 2 (xM (.list (a1 (xn 0))) (xn 7))) (.for_ (.two 3 4) (.ex (xv 0)) (dx (.for_ (.two 5 6) (.ex (xv 4)) (dx (jP (xE (xv 5) (xv 1)) (dx (.setItem (xv 2) (xS (xv 3) (xn 1)) (xA (.idx (xv 2) (xS (xv 3) (xn 1))) (xv 6))))))))) (.ret (.prim .tuple (a1 (xv 2)))))⟩
def CW:bo:=⟨1,(dx (.ret (.prim .tuple (a1 (.comp (.prim .sum (a1 (.slc (xv 0) (xv 1) (.cst .none)))) (.one 1) (.rng1 (xn 7)) .nil)))))⟩
def uf:bo:=⟨4,(u8 (sa 4 (.comp (xv 5) (.two 5 6) (.enm (xv 0)) (a1 (.and (xE (xu 6 0) (xv 2)) (.and (P7 (xu 6 2) (xv 3)) (xG (.idx (xv 1) (xv 5)) (xn 0))))))) (.ret (.sortK (.ex (xv 4)) 5 (.pair (.idx (.idx (.var 0) (.var 5)) (.num 2)) (.var 5)))))⟩
def C4:bo:=⟨4,(Sc (sa 4 (.list .nil)) (.assign (.two 5 6) (xv 2)) (fr 7 (.call 3 (a4 (xv 0) (xv 1) (xv 5) (xv 3))) (dx (jP (xG (xv 6) (xn 0)) (DC (sa 8 (.prim .min2 (a2 (xv 6) (.idx (xv 1) (xv 7))))) (.setItem (xv 1) (xv 7) (xS (.idx (xv 1) (xv 7)) (xv 8))) (sa 6 (xS (xv 6) (xv 8))) (ap 4 (.tuple (a2 (xv 7) (xv 8)))))))) (jP (xG (xv 6) (xn 0)) (dx (.raise_ 2 (xv 5)))) (.ret (xv 4)))⟩
def JU:bo:=⟨2,(DC (sa 2 (.comp (xu 9 1) (.one 9) (.ex (xv 1)) .nil)) (sa 3 (xM (.list (a1 (.tuple .nil))) (.prim .len (a1 (xv 0))))) (fr 4 (.sortK (.rng1 (.prim .len (a1 (xv 0)))) 9 (.idx (.idx (.var 0) (.var 9)) (.num 0))) (DC (.assign (.two 5 6) (.idx (xv 0) (xv 4))) (sa 7 (.list .nil)) (fr 8 (xv 6) (dx (.expr (.meth .extend (xv 7) (a1 (.call 4 (a4 (xv 1) (xv 2) (xv 8) (xv 5)))))))) (.setItem (xv 3) (xv 4) (.prim .tuple (a1 (xv 7)))))) (.ret (.prim .tuple (a1 (xv 3)))))⟩
def QP:bo:=⟨2,(Sc (sa 2 (xM (.list (a1 (xn 0))) (.prim .len (a1 (xv 0))))) (fr 3 (xv 1) (dx (.for_ (.two 4 5) (.ex (xv 3)) (dx (.setItem (xv 2) (xv 4) (xA (.idx (xv 2) (xv 4)) (xv 5))))))) (sa 6 (.list .nil)) (.for_ (.two 4 7) (.enm (xv 0)) (u8 (sa 8 (xS (xu 7 1) (.idx (xv 2) (xv 4)))) (.ite (xL (xu 7 2) (xn 7)) (dx (ap 6 (.tuple (a3 (.idx (xv 2) (xv 4)) (xv 8) (xn 0))))) (dx (ap 6 (.tuple (a3 (.idx (xv 2) (xv 4)) (xn 0) (xv 8)))))))) (.ret (.prim .tuple (a1 (xv 6)))))⟩
def QQ:bo:=⟨2,(rX (sa 2 (.list .nil)) (.for_ (.one 3) (.rng2 (xn 1) (xA (xn 7) (xn 1))) (dx (ap 2 (.prim .sum (a1 (.comp (xu 4 1) (.one 4) (.ex (xv 0)) (a1 (.and (xE (xu 4 0) (xv 1)) (P7 (xu 4 2) (xv 3)))))))))) (.ret (.prim .tuple (a1 (xv 2)))))⟩
def F3:bo:=⟨3,(rX (sa 3 (.call 2 (a1 (.call 1 (a2 (xv 0) (xv 2)))))) (sa 4 (.call 7 (a2 (xv 1) (xv 2)))) (.ret (.prim .tuple (a1 (.comp (.prim .max2 (a2 (xn 0) (xS (.idx (xv 3) (xv 5)) (.idx (xv 4) (xv 5))))) (.one 5) (.rng1 (xn 7)) .nil)))))⟩
def zg:bo:=⟨2,(dx (.ret (xE (.prim .min2 (a2 (xu 0 2) (xn 7))) (xv 1))))⟩
def CX:bo:=⟨4,(u8 (jP (xE (xv 2) (xn 7)) (dx (.ret (.ite (xE (xv 3) (xn 0)) (xn 0) (.cst .none))))) (.ret (.idx (.idx (xv 0) (xA (xv 2) (xn 1))) (.prim .max2 (a2 (xv 3) (.idx (xv 1) (xv 2)))))))⟩
def wF:bo:=⟨3,(rX (sa 3 (.idx (xv 0) (.prim .max2 (a2 (xn 0) (xS (xv 2) (xu 1 0)))))) (jP (xI (xv 3) (.cst .none)) (dx (.ret (.cst .none)))) (.ret (xA (xv 3) (xu 1 1))))⟩
def JZ:bo:=⟨4,(DC (sa 4 (.comp (xv 8) (.one 8) (.ex (xv 0)) (a1 (.call 9 (a2 (xv 8) (xv 3)))))) (sa 5 (.list (a1 (.call 10 (a4 (xv 2) (xv 1) (xv 3) (xn 0)))))) (.for_ (.one 6) (.rng2 (xn 1) (xA (.prim .max1 (a1 (xv 1))) (xn 1))) (u8 (sa 7 (xA (.list (a1 (.call 10 (a4 (xv 2) (xv 1) (xv 3) (xv 6))))) (.comp (.call 11 (a3 (xv 5) (xv 8) (xv 6))) (.one 8) (.ex (xv 4)) .nil))) (ap 5 (.prim .minD (a1 (.comp (xv 8) (.one 8) (.ex (xv 7)) (a1 (xIN (xv 8) (.cst .none))))))))) (.ret (.prim .tuple (a1 (xv 5)))))⟩
def ui:bo:=⟨2,(rX (sa 2 .dict0) (.for_ (.one 3) (.rng1 (xn 7)) (u8 (sa 4 (xS (xn 7) (xv 3))) (.setItem (xv 2) (xv 4) (.call 12 (a4 (xv 0) (xv 1) (xv 2) (xv 4)))))) (.ret (xv 2)))⟩
def ug:bo:=⟨4,(u8 (.for_ (.two 4 5) (.enm (xv 0)) (dx (jP (.and (.call 9 (a2 (xv 5) (xv 2))) (xE (.call 11 (a3 (xv 1) (xv 5) (xv 3))) (.idx (xv 1) (xv 3)))) (dx (.ret (xv 4)))))) (.ret (.cst .none)))⟩
def JT:bo:=⟨2,(.cons (sa 2 (.call 13 (a2 (xv 0) (xv 1)))) (Sd (sa 3 (xn 1)) (sa 4 (xu 1 0)) (jP (xI (.idx (.idx (xv 2) (xv 3)) (xv 4)) (.cst .none)) (dx (.ret (.cst .none)))) (sa 5 (xM (.list (a1 (xn 0))) (.prim .len (a1 (xv 0))))) (.while_ (xLE (xv 3) (xn 7)) (dx (.ite (xE (.idx (.idx (xv 2) (xv 3)) (xv 4)) (.call 10 (a4 (xv 2) (xv 1) (xv 3) (xv 4)))) (u8 (jP (xL (xv 3) (xn 7)) (dx (sa 4 (.prim .max2 (a2 (xv 4) (.idx (xv 1) (xv 3))))))) (sa 3 (xA (xv 3) (xn 1)))) (rX (sa 6 (.call 14 (a4 (xv 0) (.idx (xv 2) (xv 3)) (xv 3) (xv 4)))) (.setItem (xv 5) (xv 6) (xA (.idx (xv 5) (xv 6)) (xn 1))) (sa 4 (.prim .max2 (a2 (xn 0) (xS (xv 4) (xi (.idx (xv 0) (xv 6)) 0))))))))) (.ret (.prim .tuple (a1 (xv 5))))))⟩
def ze:bo:=⟨4,(Sc (jP (xG (.prim .sum (a1 (.call 1 (a2 (xv 0) (xv 3))))) (xn 200)) (dx (.raise_ 1 (xv 3)))) (sa 4 (.comp (xv 6) (.two 6 7) (.enm (xv 2)) (a1 (xE (xu 7 0) (xv 3))))) (sa 5 (.call 15 (a2 (.prim .tuple (a1 (.comp (.slc (.idx (xv 2) (xv 6)) (xn 1) (.cst .none)) (.one 6) (.ex (xv 4)) .nil))) (.call 8 (a3 (xv 0) (xv 1) (xv 3)))))) (jP (xI (xv 5) (.cst .none)) (dx (.raise_ 2 (xv 3)))) (.ret (.zipl (xv 4) (xv 5))))⟩
def F9:bo:=⟨3,(rX (sa 3 (xM (.list (a1 (xn 0))) (.prim .len (a1 (xv 2))))) (fr 4 (.call 0 (a1 (xv 0))) (dx (.for_ (.two 5 6) (.ex (.call 16 (a4 (xv 0) (xv 1) (xv 2) (xv 4)))) (dx (.setItem (xv 3) (xv 5) (xv 6)))))) (.ret (.prim .tuple (a1 (xv 3)))))⟩
def Ga:bo:=⟨3,(rX (sa 3 (.prim .list (a1 (xv 0)))) (.for_ (.two 4 5) (.zip (xv 1) (xv 2)) (dx (.for_ (.one 6) (.rng1 (xv 5)) (dx (ap 3 (.tuple (a3 (xu 4 0) (xu 4 1) (xu 4 3)))))))) (.ret (.prim .tuple (a1 (xv 3)))))⟩
def QT:bo:=⟨3,(DC (sa 3 (.call 17 (a3 (xv 0) (xv 1) (xv 2)))) (sa 4 (.call 18 (a3 (xv 1) (xv 2) (xv 3)))) (sa 5 (.call 5 (a2 (xv 0) (xv 4)))) (.ret (.tuple (a4 (xv 3) (xv 4) (xv 5) (.call 6 (a2 (xv 4) (xv 5)))))))⟩
def oU:bo:=⟨1,(DC (sa 1 (.list .nil)) (sa 2 (xn 1)) (fr 3 (xv 0) (u8 (sa 2 (xR (xA (xA (xM (xv 2) (xn 6364136223846793005)) (xv 3)) (xn 1442695040888963407)) (xn 1000000000000000003))) (ap 1 (xv 2)))) (.ret (xv 1)))⟩
def iQ:bo:=⟨2,(u8 (jP (xL (xv 1) (.prim .len (a1 (xv 0)))) (dx (.ret (.idx (xv 0) (xv 1))))) (.ret (xM (xM (xA (xv 1) (xn 3)) (xA (xv 1) (xn 7))) (xn 7919))))⟩
def sT:bo:=⟨2,(u8 (sa 2 (xR (xA (xA (xv 0) (xM (xn 104729) (xv 1))) (xM (xM (xn 7919) (xv 1)) (xv 1))) (xn 998244353))) (.ret (xR (xM (xR (xM (xv 2) (xv 2)) (xn 998244353)) (xn 1000003)) (xn 998244353))))⟩
def wx:bo:=⟨1,(dx (.ret (.and (.prim .isInt (a1 (xv 0))) (.not (.prim .isBool (a1 (xv 0)))))))⟩
def r7:bo:=⟨2,(rX (jP (.or (.not (.prim .isTuple (a1 (xv 0)))) (xN (.prim .len (a1 (xv 0))) (.prim .len (a1 (xv 1))))) (dx (.ret (.cst (.bool Ê))))) (.for_ (.one 2) (.rng1 (.prim .len (a1 (xv 1)))) (dx (jP (.or (.not (.call 23 (a1 (.idx (xv 0) (xv 2))))) (xN (.idx (xv 0) (xv 2)) (.idx (xv 1) (xv 2)))) (dx (.ret (.cst (.bool Ê))))))) (.ret (.cst (.bool Æ))))⟩
def iR:bo:=⟨2,(.cons (sa 2 (xz "abcdefghijklmnopqrstuvwxyz")) (.cons (sa 3 (.list (.cons (xz "total") (.cons (xz "day") (.cons (xz "flour") (.cons (xz "salt") (.cons (xz "left") (.cons (xz "used") (.cons (xz "short") (a4 (xz "salts") (xz "a") (xz "z") (xz "oil"))))))))))) (.cons (sa 4 (xD (xv 0) (xn 6))) (.cons (jP (.and (xE (xR (xv 0) (xn 6)) (xn 0)) (xL (xv 1) (xn 4))) (dx (.ret (.idx (xv 3) (xR (xA (xv 4) (xv 1)) (xn 11)))))) (.cons (sa 5 (xz "")) (.cons (sa 6 (xD (xv 4) (xn 7))) (Sd (.for_ (.one 7) (.rng1 (xA (xn 1) (xR (xv 4) (xn 7)))) (u8 (sa 6 (xA (xA (xv 6) (xn 1)) (xR (xD (xv 4) (xn 182)) (xn 25)))) (sa 5 (xA (xv 5) (.idx (xv 2) (xR (xv 6) (xn 26))))))) (sa 8 (xR (xD (xv 4) (xn 4550)) (.prim .len (a1 (xv 5))))) (jP (xG (xv 1) (xn 3)) (u8 (sa 9 (xA (.idx (xv 2) (xR (xA (xv 6) (xD (xv 1) (xn 26))) (xn 26))) (.idx (xv 2) (xR (xv 1) (xn 26))))) (.ret (xA (xA (.slc (xv 5) (.cst .none) (.prim .min2 (a2 (xv 8) (xn 6)))) (xv 9)) (.slc (xv 5) (.prim .min2 (a2 (xv 8) (xn 6))) (xn 6)))))) (jP (xG (xR (xv 0) (xn 6)) (xn 3)) (dx (.ret (xA (.idx (xv 2) (xR (xA (xD (xv 4) (xn 7)) (xv 1)) (xn 26))) (xv 5))))) (jP (xE (xv 1) (xn 1)) (u8 (sa 10 (.idx (xv 2) (xR (xA (.meth .find (xv 2) (a1 (.idx (xv 5) (xv 8)))) (xn 1)) (xn 26)))) (.ret (xA (xA (.slc (xv 5) (.cst .none) (xv 8)) (xv 10)) (.slc (xv 5) (xA (xv 8) (xn 1)) (.cst .none)))))) (.ret (xA (xv 5) (.idx (.list (a4 (xz "") (xz "") (.idx (xv 2) (xR (xv 6) (xn 26))) (.idx (xv 2) (xR (xA (xv 6) (xn 1)) (xn 26))))) (xv 1)))))))))))⟩
def mQ:bo:=⟨2,(DC (sa 2 (xR (xv 0) (xn 8))) (jP (xE (xv 2) (xn 0)) (dx (.ret (xA (xn 1) (xR (xD (xv 0) (xn 8)) (xv 1)))))) (jP (xE (xv 2) (xn 1)) (dx (.ret (xA (xn 1) (xR (xD (xv 0) (xn 8)) (xn 60)))))) (.ret (xA (xn 1) (xR (xD (xv 0) (xn 8)) (xn 12)))))⟩
def qw:bo:=⟨1,(rX (jP (xE (xR (xv 0) (xn 6)) (xn 0)) (dx (.ret (xA (xn 1) (xR (xD (xv 0) (xn 6)) (xn 99)))))) (jP (xL (xR (xv 0) (xn 6)) (xn 3)) (dx (.ret (xA (xn 7) (xR (xD (xv 0) (xn 6)) (xn 2)))))) (.ret (xA (xn 1) (xR (xD (xv 0) (xn 6)) (xn 9)))))⟩
def ua:bo:=⟨3,(rX (sa 3 (.list .nil)) (.for_ (.one 4) (.rng1 (xv 2)) (Sc (sa 5 (.call 22 (a2 (.call 21 (a2 (xv 0) (xA (xn 3) (xR (xv 4) (xn 20))))) (xv 4)))) (sa 6 (.list .nil)) (sa 7 (.idx (.list (a2 (xR (xD (xv 5) (xn 7)) (xn 4)) (xR (xD (xv 5) (xn 7)) (xn 21)))) (.prim .int (a1 (.and (xE (xR (xD (xv 5) (xn 147)) (xn 40)) (xn 0)) (xL (xv 4) (xn 2))))))) (.for_ (.one 8) (.rng1 (xv 7)) (DC (sa 9 (.call 22 (a2 (xD (xv 5) (xn 28)) (xA (xv 8) (xn 1))))) (sa 10 (xA (xn 1) (xR (xD (xv 9) (xn 60)) (xn 12)))) (jP (xE (xR (xD (xv 9) (xn 720)) (xn 40)) (xn 0)) (dx (sa 10 (.call 26 (a2 (xD (xv 9) (xn 28800)) (xn 200)))))) (ap 6 (.tuple (a2 (.call 25 (a2 (xu 1 0) (xR (xR (xv 9) (xn 60)) (xu 1 1)))) (xv 10)))))) (ap 3 (.tuple (a2 (xA (xn 1) (xR (xv 5) (xn 7))) (.prim .tuple (a1 (xv 6)))))))) (.ret (.prim .tuple (a1 (xv 3)))))⟩
def ub:bo:=⟨3,(rX (sa 3 (.list .nil)) (.for_ (.one 4) (.rng1 (xv 2)) (rX (sa 5 (.call 22 (a2 (.call 21 (a2 (xv 0) (xA (xn 23) (xR (xv 4) (xn 10))))) (xA (xn 40) (xv 4))))) (sa 6 (.call 22 (a2 (xv 5) (xv 4)))) (ap 3 (.tuple (a3 (.call 25 (a2 (xu 1 0) (xR (xR (xv 5) (xn 60)) (xu 1 1)))) (.call 26 (a2 (xD (xv 5) (xn 60)) (xn 200))) (.call 27 (a1 (xv 6)))))))) (.ret (.prim .tuple (a1 (xv 3)))))⟩
def oV:bo:=⟨1,(rX (jP (xE (xR (xv 0) (xn 9)) (xn 0)) (dx (.ret (xR (xD (xv 0) (xn 9)) (xn 1000001))))) (jP (xE (xR (xv 0) (xn 9)) (xn 1)) (dx (.ret (xn 0)))) (.ret (xR (xD (xv 0) (xn 9)) (xn 30))))⟩
def wu:bo:=⟨3,(rX (sa 3 (.list .nil)) (.for_ (.one 4) (.rng1 (xv 2)) (DC (sa 5 (.call 22 (a2 (.call 21 (a2 (xv 0) (xA (xn 33) (xR (xv 4) (xn 10))))) (xA (xn 80) (xv 4))))) (sa 6 (.call 22 (a2 (xv 5) (xA (xv 4) (xn 1))))) (sa 7 (.call 25 (a2 (xu 1 0) (xR (xR (xv 5) (xn 60)) (xu 1 1))))) (ap 3 (.tuple (a4 (xv 7) (.call 26 (a2 (xD (xv 5) (xn 60)) (xn 200))) (.call 30 (a1 (xv 6))) (.call 27 (a1 (xD (xv 6) (xn 997))))))))) (.ret (.prim .tuple (a1 (xv 3)))))⟩
def wt:bo:=⟨1,(DC (sa 1 (.call 21 (a2 (xv 0) (xn 0)))) (sa 2 (.idx (.list (a4 (xn 1) (xn 2) (xn 3) (xn 4))) (xR (.call 21 (a2 (xv 0) (xn 1))) (xn 4)))) (jP (xE (xR (xD (.call 21 (a2 (xv 0) (xn 1))) (xn 4)) (xn 16)) (xn 0)) (dx (sa 2 (xn 12)))) (.ret (.list (a2 (xv 1) (xv 2)))))⟩
def qz:bo:=⟨3,(u8 (jP (xE (xR (xv 0) (xn 24)) (xn 0)) (dx (.ret (xR (xD (xv 0) (xn 24)) (xA (xv 2) (xn 1)))))) (.ret (xR (xD (xv 0) (xn 24)) (xA (xv 1) (xn 1)))))⟩
def wq:bo:=⟨3,(rX (sa 3 (.list .nil)) (.for_ (.one 4) (.rng2 (xn 1) (xn 8)) (DC (sa 5 (xn 0)) (fr 6 (xv 0) (dx (jP (P7 (xu 6 0) (xv 4)) (dx (sa 5 (xA (xv 5) (.prim .sum (a1 (.comp (xu 8 1) (.one 8) (.ex (xu 6 1)) (a1 (xE (xu 8 0) (xv 2)))))))))))) (fr 7 (xv 1) (dx (jP (.and (xE (xu 7 0) (xv 2)) (P7 (xu 7 2) (xv 4))) (dx (sa 5 (xS (xv 5) (xu 7 1))))))) (ap 3 (.prim .max2 (a2 (xn 0) (xv 5)))))) (.ret (xv 3)))⟩
def uc:bo:=⟨2,(rX (sa 2 (xn 0)) (fr 3 (xv 0) (dx (sa 2 (xA (xv 2) (.prim .sum (a1 (.comp (xu 4 1) (.one 4) (.ex (xu 3 1)) (a1 (xE (xu 4 0) (xv 1)))))))))) (.ret (xv 2)))⟩
def ud:bo:=⟨1,(rX (sa 1 .dict0) (fr 2 (xv 0) (dx (fr 3 (xu 2 1) (dx (.setItem (xv 1) (xu 3 0) (.cst (.bool Æ))))))) (.ret (.prim .sorted (a1 (xv 1)))))⟩
def CV:bo:=⟨3,(u8 (fr 3 (.call 36 (a1 (xv 0))) (rX (jP (xG (.call 35 (a2 (xv 0) (xv 3))) (xn 200)) (dx (.ret (.list (.cons (.cst (.bool Æ)) (a4 (.cst (.bool Ê)) (.cst (.bool Ê)) (.cst (.bool Æ)) (xv 3))))))) (sa 4 (.call 34 (a3 (xv 0) (xv 1) (xv 3)))) (.for_ (.one 5) (.rng2 (xn 1) (xn 8)) (u8 (sa 6 (.comp (xv 7) (.one 7) (.ex (xv 2)) (a1 (.and (xE (xu 7 0) (xv 3)) (P7 (xu 7 3) (xv 5)))))) (jP (.and (xG (.idx (xv 4) (xS (xv 5) (xn 1))) (xn 0)) (xE (xv 6) (.list .nil))) (dx (.ret (.list (.cons (.cst (.bool Ê)) (a4 (.cst (.bool Æ)) (.cst (.bool Ê)) (.cst (.bool Æ)) (xv 3))))))))))) (.ret (.list .nil)))⟩
def wn:bo:=⟨1,(dx (.ret (.list (.cons (.isC 1 (xv 0)) (a4 (.isC 2 (xv 0)) (.cst (.bool Ê)) (.isC 3 (xv 0)) (.word (xv 0)))))))⟩
def ww:bo:=⟨3,(dx (.try_ (dx (.ret (.list (a2 (.call 19 (a3 (xv 0) (xv 1) (xv 2))) (.list .nil))))) 3 (dx (.ret (.list (a2 (.cst .none) (.call 38 (a1 (xv 3)))))))))⟩
def zd:bo:=⟨3,(Sd (sa 3 (xS (xA (xn 199) (xR (xv 2) (xn 3))) (.call 35 (a2 (xv 0) (xv 1))))) (jP (xL (xv 3) (xn 2)) (dx (.ret (xv 0)))) (sa 4 (xA (xn 1) (xR (xD (xv 2) (xn 3)) (xS (xv 3) (xn 1))))) (sa 5 (.tuple (a2 (.tuple (a2 (xA (xn 1) (xR (xD (xv 2) (xn 600)) (xn 7))) (.tuple (a1 (.tuple (a2 (xv 1) (xv 4))))))) (.tuple (a2 (xA (xn 1) (xR (xD (xv 2) (xn 4200)) (xn 7))) (.tuple (a1 (.tuple (a2 (xv 1) (xS (xv 3) (xv 4))))))))))) (sa 6 (xR (xD (xv 2) (xn 30000)) (xA (.prim .len (a1 (xv 0))) (xn 1)))) (.ret (xA (xA (.slc (xv 0) (.cst .none) (xv 6)) (xv 5)) (.slc (xv 0) (xv 6) (.cst .none)))))⟩
def wy:bo:=⟨1,(.cons (sa 1 (.call 32 (a1 (xv 0)))) (.cons (sa 2 (.call 21 (a2 (xv 0) (xn 2)))) (.cons (sa 3 (.call 28 (a3 (xv 0) (xv 1) (.call 33 (a3 (xv 2) (xn 5) (xn 24)))))) (.cons (sa 4 (.call 29 (a3 (xv 0) (xv 1) (.call 33 (a3 (xD (xv 2) (xn 1500)) (xn 5) (xn 120)))))) (Sd (sa 5 (.call 31 (a3 (xv 0) (xv 1) (xR (xD (xv 2) (xn 60000)) (xn 6))))) (sa 5 (.prim .tuple (a1 (.comp (xA (.tuple (a2 (xu 9 0) (.prim .max2 (a2 (xn 4) (xu 9 1))))) (.slc (xv 9) (xn 2) (.cst .none))) (.one 9) (.ex (xv 5)) .nil)))) (sa 6 (xD (xv 2) (xn 700000))) (jP (.and (xG (xR (xv 6) (xn 3)) (xn 0)) (xL (xu 1 1) (xn 5))) (dx (.for_ (.one 7) (.rng1 (xu 1 1)) (u8 (sa 8 (.call 25 (a2 (xu 1 0) (xv 7)))) (sa 5 (xA (xv 5) (.tuple (a1 (.tuple (a4 (xv 8) (xA (xn 4) (xR (xA (xD (xv 6) (xn 3)) (xv 7)) (xn 17))) (xA (xR (xD (xv 6) (xn 60)) (xn 50)) (xv 7)) (xA (xn 7) (xR (xv 7) (xn 3))))))))))))) (jP (xE (xR (xD (xv 6) (xn 9000)) (xn 9)) (xn 0)) (dx (sa 3 (.call 40 (a3 (xv 3) (.call 25 (a2 (xu 1 0) (xR (xD (xv 6) (xn 81000)) (xu 1 1)))) (xD (xv 6) (xn 1000000))))))) (.ret (.list (a3 (xv 3) (xv 4) (xv 5)))))))))⟩
def wv:bo:=⟨3,(dx (.try_ (dx (.ret (.list (a2 (.call 17 (a3 (xv 0) (xv 1) (xv 2))) (.list .nil))))) 3 (dx (.ret (.list (a2 (.cst .none) (.call 38 (a1 (xv 3)))))))))⟩
def od:bo:=⟨3,(rX (sa 3 (xM (.list (a1 (xn 0))) (.prim .len (a1 (xv 2))))) (fr 4 (.call 36 (a1 (xv 0))) (DC (sa 5 (.prim .tuple (a1 (.comp (.slc (xv 9) (xn 1) (.cst .none)) (.one 9) (.ex (xv 2)) (a1 (xE (xu 9 0) (xv 4))))))) (sa 6 (.call 15 (a2 (xv 5) (.prim .tuple (a1 (.call 34 (a3 (xv 0) (xv 1) (xv 4)))))))) (sa 7 (xn 0)) (.for_ (.one 8) (.rng1 (.prim .len (a1 (xv 2)))) (dx (jP (xE (xi (.idx (xv 2) (xv 8)) 0) (xv 4)) (u8 (.setItem (xv 3) (xv 8) (.idx (xv 6) (xv 7))) (sa 7 (xA (xv 7) (xn 1))))))))) (.ret (xv 3)))⟩
def UD:bo:=⟨1,(.cons (sa 1 (.call 41 (a1 (.call 20 (a1 (xv 0)))))) (.cons (sa 2 (.call 42 (a3 (xu 1 0) (xu 1 1) (xu 1 2)))) (.cons (sa 3 (.call 37 (a3 (xu 1 0) (xu 1 1) (xu 1 2)))) (.cons (jP (.or (xN (xu 2 1) (xv 3)) (xN (xi (.call 39 (a3 (xu 1 0) (xu 1 1) (xu 1 2))) 1) (xv 3))) (dx (.ret (.cst (.bool Ê))))) (.cons (jP (xE (xv 3) (.list .nil)) (dx (.ret (.call 24 (a2 (xu 2 0) (.call 43 (a3 (xu 1 0) (xu 1 1) (xu 1 2)))))))) (.cons (jP (xu 3 0) (dx (.ret (.cst (.bool Æ))))) (Sd (sa 4 (xu 1 2)) (fr 5 (.call 36 (a1 (xu 1 0))) (dx (sa 4 (xA (xv 4) (.tuple (a1 (.tuple (a4 (xv 5) (xn 9) (xn 5) (xn 7))))))))) (sa 6 (.call 42 (a3 (xu 1 0) (xu 1 1) (xv 4)))) (sa 3 (.call 37 (a3 (xu 1 0) (xu 1 1) (xv 4)))) (jP (.or (xN (xu 6 1) (xv 3)) (xN (xv 3) (.list .nil))) (dx (.ret (.and (xE (xu 6 1) (xv 3)) (xu 3 0))))) (.ret (.call 24 (a2 (xu 6 0) (.call 43 (a3 (xu 1 0) (xu 1 1) (xv 4)))))))))))))⟩
def PP:List bo:=[zj,JW,CW,uf,C4,JU,QP,QQ,F3,zg,CX,wF,JZ,ui,ug,JT,ze,F9,Ga,QT,oU,iQ,sT,wx,r7,iR,mQ,qw,ua,ub,oV,wu,wt,qz,wq,uc,ud,CV,wn,ww,zd,wy,wv,od,UD]
noncomputable def constsP:List (Str×Int):=[("DAYS",7),("MOST",200)]
def aB(H ae:ag):Prop:=∀(i:Nat) (o:bp),H[i]?=À o->ae[i]?=À o
theorem aB.refl(H:ag):aB H H:=λz z h=>h
theorem aB.trans{a b c:ag}(x:aB a b)(y:aB b c):aB a c:=λi o h=>y i o (x i o h)
theorem aB.app(H τ:ag):aB H (H++τ):=λi o h=>by rw[ϓ (Ġ.mp h).1];show h
theorem aB.set{H ae:ag}{r:Nat}{m:bp}(h:aB H ae)(hr:H.length<=r):aB H (ae.set r m):=λi o e=>by have hi:i<H.length:=(Ġ.mp e).1;rw[acd (by show λq0=>(by show zI (y3 0x1c080810b1011b0212b21 N (iL hr) (iT hi) (iE q0))))];show h i o e
theorem aB.len{H ae:ag}(h:aB H ae):H.length<=ae.length:=by
 show ã (aes ae.length H.length) (λhl=>?_) (λhl=>?_)
 ·have e:H[ae.length]?=À H[ae.length]:=ē hl
  have:=h _ _ e
  simp at this
 ·show hl
theorem pN{P:List bo}{d k:Nat}{f:bo}{as:List V}{H:ag}(hk:P[k]?=À f)(ha:as.length=f.arity):aG P (d+1) k as H=hW (aN (aG P d) f.body (bI as) H):=by
 simp only[aG,hk,ab4,ha,if_true]
theorem RG(a b:Int):(a==b)=decide (a=b):=by by_cases h:a=b<;>simp [h]
theorem c7{a b:Int}(h:0<b):0<=a.fmod b/\a.fmod b<b:=⟨Int.fmod_nonneg_of_pos a h,Int.fmod_lt_of_pos a h⟩
theorem iw{a b:Int}(h:b.natAbs<18446744073709551616):tu a b=Æ:=abY.mpr (.inr (decide_eq_true h))
theorem E1{x:Int}{k:Nat}(h0:0<=x)(h1:x<k):x.natAbs<k:=Ů.mp ((Int.natAbs_of_nonneg h0).symm▸h1)
noncomputable def Hg(x y:Int):Int:=((((((x+104729*y)+(7919*y)*y).fmod 998244353)*(((x+104729*y)+(7919*y)*y).fmod 998244353)).fmod 998244353)*1000003).fmod 998244353
noncomputable def cellF(cs:List Int)(k:Nat):Int:=match cs[k]? with|some x=>x|none=>((k:Int)+3)*((k:Int)+7)*7919
noncomputable def gw(x m:Int):Int:=if x.fmod 8=0 then 1+(x.fdiv 8).fmod m else if x.fmod 8=1 then 1+(x.fdiv 8).fmod 60 else 1+(x.fdiv 8).fmod 12
theorem Sa{x b:Int}(a:0<=x/\x<b)(hb:b<=200):1<=1+x/\1+x<=200:=⟨y1 0xca0181810b008 N a.1,Ŀ (adZ 1 x▸a.2) hb⟩
theorem iK(x:Int):1<=gw x 200/\gw x 200<=200:=by
 have h {b:Int} (hb:0<b) (hb':b<=200):=Sa (c7 (a:=x.fdiv 8) hb) hb';unfold gw;by_cases h1:x.fmod 8=0
 ·rw[if_pos h1];show h (by decide) (by decide)
 ·rw[if_neg h1]
  by_cases h2:x.fmod 8=1
  ·rw[if_pos h2];show h (by decide) (by decide)
  ·rw[if_neg h2];show h (by decide) (by decide)
noncomputable def tc(x:Int):Int:=if x.fmod 6=0 then 1+(x.fdiv 6).fmod 99 else if x.fmod 6<3 then 7+(x.fdiv 6).fmod 2 else 1+(x.fdiv 6).fmod 9
theorem bw(H:ag):cA H []:=λz h=>nomatch h
theorem iY{H:ag}{r:Nat}{m:bp}(h:H[r]?=À m):cA H [(r,m)]:=λp hp=>by rw[O'.mp hp];show h
theorem aE(H:ag)(m:bp):(H++[m])[H.length]?=À m:=by simp
theorem bL{α β:Type}{m:Option (α×ag)}{k:α->ag->Option β}{a:α}{H:ag}{r:Option β}(h:m=À (a,H))(e:k a H=r):bT m k=r:=by rw[h];show e
theorem tR{α β γ:Type}{m:Option (α×β×ag)}{k:α->β->ag->Option γ}{a:α}{b:β}{H:ag}{r:Option γ}(h:m=À (a,b,H))(e:k a b H=r):mI m k=r:=by rw[h];show e
theorem mK{β:Type}{m:Option (V×ag)}{k:Bool->ag->Option β}{a:Bool}{H:ag}{r:Option β}(h:m=À (.bool a,H))(e:k a H=r):lO m k=r:=by rw[h];show e
theorem tS{β:Type}{m:Option (V×ag)}{k:Int->ag->Option β}{a:Int}{H:ag}{r:Option β}(h:m=À (.int a,H))(e:k a H=r):qj m k=r:=by rw[h];show e
theorem dw{α β:Type}{m:Option α}{k:α->Option β}{a:α}{r:Option β}(h:m=À a)(e:k a=r):m.bind k=r:=by rw[h];show e
theorem n9{Á:az}{U:aL}{H Î Ý:ag}{a i:CE}{x y r:V}(ha:ab Á a U H=À (x,Î))(hi:ab Á i U Î=À (y,Ý))(h:lE x y Ý=À r):ab Á (.idx a i) U H=À (r,Ý):=bL ha (bL hi (dw h N))
theorem kK{l:List V}{k:Int}{x:V}(mS:0<=k)(hx:l[k.toNat]?=À x):GI l (.int k)=À x:=(if_pos mS).trans hx
theorem bx{Á:az}{U:aL}{H Î Ý:ag}{a i:CE}(r:Nat)(k:Int)(l:List V)(x:V)(ha:ab Á a U H=À (.ref r,Î))(hi:ab Á i U Î=À (.int k,Ý))(hr:Ý[r]?=À (.lst l))(mS:0<=k)(hx:l[k.toNat]?=À x):ab Á (.idx a i) U H=À (x,Ý):=n9 ha hi (dw hr (kK mS hx))
theorem bg{Á:az}{U:aL}{H Î Ý:ag}{a i:CE}(k:Int)(l:List V)(x:V)(ha:ab Á a U H=À (.tup l,Î))(hi:ab Á i U Î=À (.int k,Ý))(mS:0<=k)(hx:l[k.toNat]?=À x):ab Á (.idx a i) U H=À (x,Ý):=
 n9 ha hi (kK mS hx)
theorem af{Á:az}{f:Nat}{as:gb}{U:aL}{H Î Ý:ag}{vs:List V}{v:V}(h:bO Á as U H=À (vs,Î))(hc:Á f vs Î=À (.ok v,Ý)):ab Á (.call f as) U H=À (v,Ý):=bL h (bL hc N)
theorem aP{Á:az}{op:Operator}{a b:CE}{U:aL}{H Î Ý:ag}{x y:V}{r:Option (V×ag)}(ha:ab Á a U H=À (x,Î))(hb:ab Á b U Î=À (y,Ý))(h:oN op x y Ý=r):ab Á (.bin op a b) U H=r:=bL ha (bL hb h)
theorem kl{x y:Int}{H:ag}(m:tu x y=Æ):oN .Mult (.int x) (.int y) H=À (.int (x*y),H):=if_pos m
theorem dH{x y:Int}{H:ag}(m:y≠0):oN .Mod (.int x) (.int y) H=À (.int (x.fmod y),H):=by show (if y=0 then Ã else À (x.fmod y)).bind (λz=>À (V.int z,H))=_;rw[if_neg m];rfl
theorem FK{x y:Int}{H:ag}(m:y≠0)(m':y.natAbs<1073741824):oN .FloorDiv (.int x) (.int y) H=À (.int (x.fdiv y),H):=by show (if y=0\/1073741824<=y.natAbs then Ã else À (x.fdiv y)).bind (λz=>À (V.int z,H))=_;rw[if_neg (not_or.mpr ⟨m,ϕ.mpr m'⟩)];rfl
theorem bN{Á:az}{op:CmpOp}{a b:CE}{U:aL}{H Î Ý:ag}{x y:V}{c:Bool}(ha:ab Á a U H=À (x,Î))(hb:ab Á b U Î=À (y,Ý))(h:AU op x y Ý=À c):ab Á (.cmp op a b) U H=À (.bool c,Ý):=bL ha (bL hb (dw h N))
theorem Oj{Á:az}{a:CE}{U:aL}{H Î:ag}{b:Bool}(ha:ab Á a U H=À (.bool b,Î)):ab Á (.not a) U H=À (.bool (!b),Î):=mK ha N
theorem t7{Á:az}{a b:CE}{U:aL}{H Î:ag}{r:Option (V×ag)}(ha:ab Á a U H=À (.bool Æ,Î))(hb:ab Á b U Î=r):ab Á (.and a b) U H=r:=mK ha hb
theorem t8{Á:az}{a b:CE}{U:aL}{H Î:ag}(ha:ab Á a U H=À (.bool Ê,Î)):ab Á (.and a b) U H=À (.bool Ê,Î):=mK ha N
theorem A2{Á:az}{a b:CE}{U:aL}{H Î:ag}{r:Option (V×ag)}(ha:ab Á a U H=À (.bool Ê,Î))(hb:ab Á b U Î=r):ab Á (.or a b) U H=r:=mK ha hb
theorem aQ{Á:az}{p:nX}{as:gb}{U:aL}{H Î:ag}{vs:List V}{r:Option (V×ag)}(h:bO Á as U H=À (vs,Î))(hp:gk p vs Î=r):ab Á (.prim p as) U H=r:=bL h hp
theorem ak{Á:az}{e:CE}{U:aL}{H Î:ag}{v:V}(h:ab Á e U H=À (v,Î)):bO Á (.cons e .nil) U H=À ([v],Î):=bL h N
theorem aA{Á:az}{e:CE}{r:gb}{U:aL}{H Î Ý:ag}{v:V}{vs:List V}(h:ab Á e U H=À (v,Î))(hr:bO Á r U Î=À (vs,Ý)):bO Á (.cons e r) U H=À (v::vs,Ý):=bL h (bL hr N)
theorem aI{Á:az}{i:Nat}{U:aL}{H:ag}{v:V}(h:U i=À v):ab Á (.var i) U H=À (v,H):=dw h N
theorem fK{Á:az}{elt:CE}{t:jS}{it:jo}{ifs:gb}{U:aL}{H Î Ý:ag}{xs l:List V}{w:List (Nat×bp)}(hs:cB Á it U H=À (xs,w,Î))(hc:fQ (ab Á elt) (dp Á ifs) t w xs U Î=À (l,Ý))(hz:l.length<=al):ab Á (.comp elt t it ifs) U H=À (.ref Ý.length,Ý++[.lst l]):=tR hs (bL hc (if_pos hz))
theorem Ie{H:ag}{r:Nat}{ns:List Int}{l:List V}(hr:H[r]?=À (.lst l))(hi:cC l=À ns):gk .sum [.ref r] H=À (.int (ns.foldl (·+·) 0),H):=(show Ϝ (Ϝ _ _) _=_ from dw (dw (cy hr) N) (dw hi N))
theorem jz{H:ag}(l:List V):gk .len [.tup l] H=À (.int l.length,H):=rfl
theorem bv{H:ag}{r:Nat}{l:List V}(hr:H[r]?=À (.lst l))(hz:l.length<=al):gk .tuple [.ref r] H=À (.tup l,H):=(show Ϝ (lst H r) _=_ from dw (cy hr) (if_pos hz))
def Le(a b:aL):Prop:=∀i v,a i=À v->b i=À v
theorem Le.refl(a:aL):Le a a:=λz z h=>h
theorem Le.trans{a b c:aL}(x:Le a b)(y:Le b c):Le a c:=λi v h=>y i v (x i v h)
theorem Le.upd{a b:aL}(x:Le a b)(i:Nat)(v:V):Le (cP a i v) (cP b i v):=λj w h=>by
 unfold Lar.cP at h ⊢;by_cases hj:j=i
 ·rw[if_pos hj]at h ⊢;show h
 ·rw[if_neg hj]at h ⊢;show x j w h
noncomputable def bG(l:List (Option V)):aL:=λi=>(l[i]?).join
def qc(U:aL):Nat->List (Option V)->Prop
 |_,[]=>True
 |i,Ã::r=>qc U (i+1) r
 |i,À v::r=>U i=À v/\qc U (i+1) r
theorem qc.get{U:aL}:∀{l:List (Option V)} {k i:Nat} {v:V},qc U k l->(l[i]?).join=À v->U (k+i)=À v
 |[],_,_,_,_,h=>by simp at h
 |none::r,k,0,_,_,h=>by simp at h
 |none::r,k,i+1,v,ha,h=>by
  have:=qc.get (k:=k+1) ha (by simpa using h)
  rwa [abQ]at this
 |some w::r,k,0,v,ha,h=>by
  obtain rfl:w=v:=by simpa using h
  show ha.1
 |some w::r,k,i+1,v,ha,h=>by
  have:=qc.get ha.2 (by simpa using h)
  rwa [abQ]at this
theorem ay{U:aL}{l:List (Option V)}(h:qc U 0 l):Le (bG l) U:=λi v e=>by
 have:=h.get e
 rwa [ż]at this
theorem Ad{t:jS}{x:V}{a b a':aL}(hl:Le a b)(h:t.put x a=À a'):∃b',t.put x b=À b'/\Le a' b':=by
 cases t with
 |one i=>apply dC h;show⟨_,N,hl.upd _ _⟩
 |two i j=>show bW h λp hp h=>?_;apply dC h;show⟨_,?_,(hl.upd i p.1).upd j p.2⟩;show (tM x).bind _=_;rw[hp];rfl
theorem bK{α β:Type}{m m':Option (α×ag)}{k k':α->ag->Option β}{r:β}(h:bT m k=À r)(hm:∀p,m=À p->m'=À p)(hk:∀a H,k a H=À r->k' a H=À r):bT m' k'=À r:=dz h λa H h1 h2=>bL (hm _ h1) (hk a H h2)
theorem AM{α β γ:Type}{m m':Option (α×β×ag)}{k k':α->β->ag->Option γ}{r:γ}(h:mI m k=À r)(hm:∀p,m=À p->m'=À p)(hk:∀a b H,k a b H=À r->k' a b H=À r):mI m' k'=À r:=oO h λa b H h1 h2=>tR (hm _ h1) (hk a b H h2)
theorem mJ{β:Type}{m m':Option (V×ag)}{k k':Bool->ag->Option β}{r:β}(h:lO m k=À r)(hm:∀p,m=À p->m'=À p)(hk:∀a H,k a H=À r->k' a H=À r):lO m' k'=À r:=bK h hm λa H e=>bW e λb h1 h2=>dw h1 (hk b H h2)
theorem pM{β:Type}{m m':Option (V×ag)}{k k':Int->ag->Option β}{r:β}(h:qj m k=À r)(hm:∀p,m=À p->m'=À p)(hk:∀a H,k a H=À r->k' a H=À r):qj m' k'=À r:=bK h hm λa H e=>bW e λb h1 h2=>dw h1 (hk b H h2)
theorem qn{elt QM:aL->ag->Option (V×ag)}{cond cond':aL->ag->Option (Bool×ag)}{t:jS}{w:List (Nat×bp)}(he:∀a b H r,Le a b->elt a H=À r->QM b H=À r)(hc:∀a b H r,Le a b->cond a H=À r->cond' b H=À r):
  ∀{xs:List V} {a b:aL} {H:ag} {r:List V×ag},Le a b->fQ elt cond t w xs a H=À r->fQ QM cond' t w xs b H=À r
 |[],a,b,H,r,hl,h=>h
 |x::xs,a,b,H,r,hl,h=>by
  show qL h λhw h=>bW h λa' hp h=>aF (Ad hl hp) λb' VL jd=>?_;show gh H w ((t.put x b).bind λaR=>_)=_;rw[jb hw,VL,ab4];show bK h (λp e=>hc _ _ _ _ jd e) λc Î h=>?_;cases c with
  |false=>show qn he hc hl h
  |true=>rw[if_pos N]at h ⊢;show bK h (λp e=>he _ _ _ _ jd e) λv Ý h=>bK h (λp e=>qn he hc hl e) λl bH h=>h
theorem j9:∀{k:KX} {a b:aL} {H:ag} {v:V},Le a b->c9 k a H=À v->c9 k b H=À v
 |.var i,a,b,H,v,hl,h=>hl i v h
 |.num i,a,b,H,v,hl,h=>h
 |.idx x y,a,b,H,v,hl,h=>by show bW h λu h1 h=>bW h λz h2 h=>?_;show (c9 x b H).bind _=_;rw[j9 hl h1];show (c9 y b H).bind _=_;rw[j9 hl h2];show h
 |.pair x y,a,b,H,v,hl,h=>by show bW h λu h1 h=>bW h λz h2 h=>?_;show (c9 x b H).bind _=_;rw[j9 hl h1];show (c9 y b H).bind _=_;rw[j9 hl h2];show h
theorem wZ{k:KX}{i:Nat}{H:ag}{a b:aL}(hl:Le a b):∀{ns:List Int} {ps:List KP},o5 k i a H ns=À ps->o5 k i b H ns=À ps
 |[],ps,h=>h
 |n::r,ps,h=>by show bW h λv h1 h=>bW h λl h2 h=>bW h λqs h3 h=>?_;show (c9 k (cP b i (.int n)) H).bind _=_;rw[j9 (hl.upd i (.int n)) h1];show (sh v).bind _=_;rw[h2];show (o5 k i b H r).bind _=_;rw[wZ hl h3];show h
theorem D1{k:KX}{i:Nat}{H:ag}{a b:aL}{xs:List V}{r:V×ag}(hl:Le a b)(h:me k i a H xs=À r):me k i b H xs=À r:=by show bW h λns h1 h=>dF h λh2 h=>bW h λps h3 h=>?_;show (cC xs).bind _=_;rw[h1];show (if _ then _ else _)=_;rw[if_pos h2,wZ hl h3];show h
mutual
theorem aJ{Á:az}:∀(e:CE) {a b:aL} {H:ag} {r:V×ag},Le a b->ab Á e a H=À r->ab Á e b H=À r
 |.cst v,_,_,_,_,_,h=>h
 |.var i,a,b,H,r,hl,h=>by show bW h λv h1 h2=>?_;show (b i).bind _=_;rw[hl i v h1];show h2
 |.bin op x y,a,b,H,r,hl,h=>bK h (λp e=>aJ x hl e) λj j h=>bK h (λp e=>aJ y hl e) λj j h=>h
 |.cmp op x y,a,b,H,r,hl,h=>bK h (λp e=>aJ x hl e) λj j h=>bK h (λp e=>aJ y hl e) λj j h=>h
 |.not x,a,b,H,r,hl,h=>mJ h (λp e=>aJ x hl e) λj j h=>h
 |.neg x,a,b,H,r,hl,h=>pM h (λp e=>aJ x hl e) λj j h=>h
 |.and x y,a,b,H,r,hl,h=>mJ h (λp e=>aJ x hl e) λc j h=>by
  cases c with
  |true=>show aJ y hl h
  |false=>show h
 |.or x y,a,b,H,r,hl,h=>mJ h (λp e=>aJ x hl e) λc j h=>by
  cases c with
  |true=>show h
  |false=>show aJ y hl h
 |.ite t x y,a,b,H,r,hl,h=>mJ h (λp e=>aJ t hl e) λc j h=>by
  cases c with
  |true=>show aJ x hl h
  |false=>show aJ y hl h
 |.list es,a,b,H,r,hl,h=>bK h (λp e=>db es hl e) λj j h=>h
 |.tuple es,a,b,H,r,hl,h=>bK h (λp e=>db es hl e) λj j h=>h
 |.dict0,_,_,_,_,_,h=>h
 |.idx x y,a,b,H,r,hl,h=>bK h (λp e=>aJ x hl e) λj j h=>bK h (λp e=>aJ y hl e) λj j h=>h
 |.slc x y z,a,b,H,r,hl,h=>bK h (λp e=>aJ x hl e) λj j h=>bK h (λp e=>aJ y hl e) λj j h=>bK h (λp e=>aJ z hl e) λj j h=>h
 |.call f as,a,b,H,r,hl,h=>bK h (λp e=>db as hl e) λj j h=>h
 |.prim p as,a,b,H,r,hl,h=>bK h (λp e=>db as hl e) λj j h=>h
 |.meth m o as,a,b,H,r,hl,h=>bK h (λp e=>aJ o hl e) λx Î h=>by show dF h λhr h=>?_;rw[if_pos hr];show bK h (λp e=>db as hl e) λj j h=>h
 |.sortK it i k,a,b,H,r,hl,h=>AM h (λp e=>vf it hl e) λxs w Î h=>by show dF h λh1 h=>?_;rw[if_pos h1];show D1 hl h
 |.word x,a,b,H,r,hl,h=>bK h (λp e=>aJ x hl e) λj j h=>h
 |.zipl x y,a,b,H,r,hl,h=>bK h (λp e=>aJ x hl e) λj j h=>bK h (λp e=>aJ y hl e) λj j h=>h
 |.isC c x,a,b,H,r,hl,h=>bK h (λp e=>aJ x hl e) λj j h=>h
 |.comp elt t it ifs,a,b,H,r,hl,h=>AM h (λp e=>vf it hl e) λxs w Î h=>bK h (λp e=>qn (cond':=dp Á ifs) (λa b H r hl e=>aJ elt (H:=H) hl e) (λa b H r hl e=>tG ifs hl e) hl e) λj j h=>h
theorem tG{Á:az}:∀(e:gb) {a b:aL} {H:ag} {r:Bool×ag},Le a b->dp Á e a H=À r->dp Á e b H=À r
 |.nil,_,_,_,_,_,h=>h
 |.cons x y,a,b,H,r,hl,h=>mJ h (λp e=>aJ x hl e) λc z h=>by
  cases c with
  |true=>show tG y hl h
  |false=>show h
theorem db{Á:az}:∀(e:gb) {a b:aL} {H:ag} {r:List V×ag},Le a b->bO Á e a H=À r->bO Á e b H=À r
 |.nil,_,_,_,_,_,h=>h
 |.cons x y,a,b,H,r,hl,h=>bK h (λp e=>aJ x hl e) λz z h=>bK h (λp e=>db y hl e) λz z h=>h
theorem vf{Á:az}:∀(e:jo) {a b:aL} {H:ag} {r:List V×List (Nat×bp)×ag},Le a b->cB Á e a H=À r->cB Á e b H=À r
 |.ex x,a,b,H,r,hl,h=>by rw[kO]at h ⊢;show bK h (λp e=>aJ x hl e) λz z h=>h
 |.rng1 x,a,b,H,r,hl,h=>pM h (λp e=>aJ x hl e) λz z h=>h
 |.rng2 x y,a,b,H,r,hl,h=>pM h (λp e=>aJ x hl e) λz z h=>pM h (λp e=>aJ y hl e) λz z h=>h
 |.zip x y,a,b,H,r,hl,h=>by rw[rN]at h ⊢;show bK h (λp e=>aJ x hl e) λz z h=>bK h (λp e=>aJ y hl e) λz z h=>h
 |.enm x,a,b,H,r,hl,h=>by rw[rM]at h ⊢;show bK h (λp e=>aJ x hl e) λz z h=>h
end
def W(Á:az)(ss:ff)(a:aL)(H:ag)(Q:cm->aL->ag->Prop):Prop:=∀U,Le a U->∃fl b aR ae,Le b aR/\aN Á ss U H=À (fl,aR,ae)/\Q fl b ae
def TQ(Á:az)(aD:ff)(Q:cm->aL->ag->Prop)(fl:cm)(U:aL)(H:ag):Prop:=match fl with
 |.next=>W Á aD U H Q
 |fl=>Q fl U H
def RQ(R:V->ag->Prop)(fl:cm)(_:aL)(H:ag):Prop:=∃v,fl=.ret v/\R v H
def LQ(I:Nat->aL->ag->Prop)(k:Nat)(fl:cm)(U:aL)(H:ag):Prop:=fl=.next/\∃a,Le a U/\I (k+1) a H
def LX(I:Nat->aL->ag->Prop)(ď:cm->ag->Prop)(k:Nat)(fl:cm)(U:aL)(H:ag):Prop:=(fl=.next/\∃a,Le a U/\I (k+1) a H)\/(fl≠.next/\ď fl H)
theorem u9{fl:cm}{U:aL}{H:ag}{k:aL->ag->Ex}(h:fl≠.next):ig (À (fl,U,H)) k=À (fl,U,H):=by
 cases fl with
 |next=>show absurd N h
 |ret v=>rfl
 |exc c w=>rfl
section
variable{Á:az}{aD:ff}{U a:aL}{H Î Ý bH:ag}{Q:cm->aL->ag->Prop}
theorem W.nil(h:Q .next a H):W Á .nil a H Q:=λU hl=>⟨_,a,U,H,hl,N,h⟩
theorem W.le{ss:ff}(hl:Le a U)(h:W Á ss a H Q):W Á ss U H Q:=λr h2=>h r (hl.trans h2)
theorem W.mono{ss:ff}{Q':cm->aL->ag->Prop}(h:W Á ss a H Q)(hq:∀fl aR ae,Q fl aR ae->Q' fl aR ae):W Á ss a H Q':=λU hl=>ED (h U hl) λfl b aR ae h1 h2 h3=>⟨fl,b,aR,ae,h1,h2,hq _ _ _ h3⟩
theorem W.step{s:CS}{b:aL}(h:∀U,Le a U->∃aR,Le b aR/\bD Á s U H=À (.next,aR,Î))(k:W Á aD b Î Q):W Á (.cons s aD) a H Q:=λU hl=>by show aF (h U hl) λaR jd e=>ED (k aR jd) λfl b ii ij h1 h2 h3=>⟨fl,b,ii,ij,h1,?_,h3⟩;show ig (bD Á s U H) (aN Á aD)=_;rw[e];show h2
theorem W.out{s:CS}{fl:cm}(eJ:fl≠.next)(h:∀U,Le a U->bD Á s U H=À (fl,U,Î))(k:Q fl a Î):W Á (.cons s aD) a H Q:=λU hl=>by show⟨fl,a,U,Î,hl,?_,k⟩;show ig (bD Á s U H) (aN Á aD)=_;rw[h U hl];show u9 eJ
theorem W.block{s:CS}{t:ff}(e:∀U,Le a U->bD Á s U H=aN Á t U Î)(k:W Á t a Î (TQ Á aD Q)):W Á (.cons s aD) a H Q:=λU hl=>by
 show ED (k U hl) λfl b aR ae h1 h2 h3=>?_
 have h4:aN Á (.cons s aD) U H=ig (À (fl,aR,ae)) (aN Á aD):=by show ig (bD Á s U H) (aN Á aD)=_;rw[e U hl,h2]
 cases fl with
 |next=>show ED (h3 aR h1) λfl b Sv fg g1 g2 g3=>⟨fl,b,Sv,fg,g1,h4.trans g2,g3⟩
 |ret v=>show⟨_,b,aR,ae,h1,h4,h3⟩
 |exc c w=>show⟨_,b,aR,ae,h1,h4,h3⟩
theorem W.set{i:Nat}{e:CE}{v:V}{Î:ag}(h:ab Á e a H=À (v,Î))(k:W Á aD (cP a i v) Î Q):W Á (.cons (.assign (.one i) e) aD) a H Q:=
 W.step (λU hl=>⟨_,hl.upd i v,by rw[gI];show lL (by rw[aJ e hl h];rfl)⟩) k
theorem W.put{t:jS}{e:CE}{v:V}{b:aL}(h:ab Á e a H=À (v,Î))(hp:t.put v a=À b)(k:W Á aD b Î Q):W Á (.cons (.assign t e) aD) a H Q:=
 W.step (λU hl=>aF (Ad hl hp) λaR h1 h2=>⟨aR,h2,by
  rw[gI];show lL ?_;rw[aJ e hl h];show (t.put v U).bind _=_;rw[h1];rfl⟩) k
theorem W.expr{e:CE}{v:V}(h:ab Á e a H=À (v,Î))(k:W Á aD a Î Q):W Á (.cons (.expr e) aD) a H Q:=
 W.step (λU hl=>⟨U,hl,by rw[t9];show lL (by rw[aJ e hl h];rfl)⟩) k
theorem W.retE{e:CE}{v:V}{Î:ag}(h:ab Á e a H=À (v,Î))(k:Q (.ret v) a Î):W Á (.cons (.ret e) aD) a H Q:=
 W.out (fl:=.ret v) (λq=>nomatch q) (λU hl=>by rw[lR];show lL (by rw[aJ e hl h];rfl)) k
theorem W.ifB{c:CE}{t e:ff}{b:Bool}{Î:ag}(h:ab Á c a H=À (.bool b,Î))(hT:b=Æ->W Á t a Î (TQ Á aD Q))(hF:b=Ê->W Á e a Î (TQ Á aD Q)):W Á (.cons (.ite c t e) aD) a H Q:=by
 cases b with
 |true=>show W.block (λU hl=>by rw[FY,aJ c hl h];rfl) (hT N)
 |false=>show W.block (λU hl=>by rw[FY,aJ c hl h];rfl) (hF N)
theorem W.iteT{c:CE}{t e:ff}(Î:ag)(h:bU Á c a H=À (Æ,Î))(k:W Á t a Î (TQ Á aD Q)):W Á (.cons (.ite c t e) aD) a H Q:=W.ifB (dM h) (λz=>k) λq=>nomatch q
theorem W.iteF{c:CE}{t e:ff}(Î:ag)(h:bU Á c a H=À (Ê,Î))(k:W Á e a Î (TQ Á aD Q)):W Á (.cons (.ite c t e) aD) a H Q:=W.ifB (dM h) (λq=>nomatch q) λz=>k
theorem W.if_{c:CE}{t e:ff}{p:Prop}[Decidable p]{Î:ag}(h:ab Á c a H=À (.bool (decide p),Î))(hT:p->W Á t a Î (TQ Á aD Q))(hF:¬ p->W Á e a Î (TQ Á aD Q)):W Á (.cons (.ite c t e) aD) a H Q:=
 W.ifB h (λq=>hT (of_decide_eq_true q)) λq=>hF (of_decide_eq_false q)
theorem rE{m:j3}(hm:m=.append\/m=.extend){r:Nat}{l:List V}(hr:H[r]?=À (.lst l)):rD m (.ref r) H=Æ:=by
 have:(lst H r).isSome=Æ:=by rw[cy hr];rfl
 rcases hm with rfl|rfl<;>show this
theorem A1{m:j3}(hm:m=.append\/m=.extend){o e:CE}{r:Nat}{l:List V}{v x:V}(ho:ab Á o a H=À (.ref r,H))(hr:H[r]?=À (.lst l))(he:ab Á e a H=À (v,Î))(Rw:l6 m (.ref r) [v] Î=À (x,Ý)):ab Á (.meth m o (.cons e .nil)) a H=À (x,Ý):=by show bT (ab Á o a H) (λx Î=>if rD m x Î then bT (bO Á (.cons e .nil) a Î) λvs Ý=>l6 m x vs Ý else Ã)=_;rw[ho];show (if rD m (.ref r) H then bT (bO Á (.cons e .nil) a H) λvs Ý=>l6 m (.ref r) vs Ý else Ã)=_;rw[if_pos (rE hm hr),ak he];show Rw
theorem W.append{o e:CE}(r:Nat)(l:List V)(v:V)(Î:ag)(ho:ab Á o a H=À (.ref r,H))(hr:H[r]?=À (.lst l))(he:ab Á e a H=À (v,Î))(ZO:Î[r]?=À (.lst l))(hz:l.length<=al)
  (k:W Á aD a (Î.set r (.lst (l++[v]))) Q):W Á (.cons (.expr (.meth .append o (.cons e .nil))) aD) a H Q:=
 W.expr (A1 (.inl N) ho hr he (by
  show (lst Î r).bind (λl=>if l.length<=al then À (V.none,Î.set r (.lst (l++[v]))) else Ã)=_;rw[cy ZO];show if_pos hz)) k
theorem W.append0{o e:CE}(r:Nat)(l:List V)(v:V)(ho:ab Á o a H=À (.ref r,H))(hr:H[r]?=À (.lst l))(he:ab Á e a H=À (v,H))(hz:l.length<=al)
  (k:W Á aD a (H.set r (.lst (l++[v]))) Q):W Á (.cons (.expr (.meth .append o (.cons e .nil))) aD) a H Q:=W.append r l v H ho hr he hr hz k
theorem W.setV{o i v:CE}{x y z:V}(hv:ab Á v a H=À (x,Î))(ho:ab Á o a Î=À (y,Î))(hi:ab Á i a Î=À (z,Î))(hs:rF y z x Î=À Ý)(c:W Á aD a Ý Q):W Á (.cons (.setItem o i v) aD) a H Q:=
 W.step (λU hl=>⟨U,hl,by
  rw[qu,aJ v hl hv];show bT (ab Á o U Î) (λy Ý=>bT (ab Á i U Ý) λz bH=>(rF y z x bH).bind λlH=>À (cm.next,U,lH))=_;rw[aJ o hl ho];show bT (ab Á i U Î) (λz bH=>(rF y z x bH).bind λlH=>À (cm.next,U,lH))=_;rw[aJ i hl hi];show (rF y z x Î).bind (λlH=>À (cm.next,U,lH))=_;rw[hs];rfl⟩) c
theorem W.setItem{o i v:CE}(r:Nat)(k:Int)(l:List V)(x:V)(Î:ag)(hv:ab Á v a H=À (x,Î))(ho:ab Á o a Î=À (.ref r,Î))(hi:ab Á i a Î=À (.int k,Î))(hr:Î[r]?=À (.lst l))(mS:0<=k)(IW:k.toNat<l.length)
  (c:W Á aD a (Î.set r (.lst (l.set k.toNat x))) Q):W Á (.cons (.setItem o i v) aD) a H Q:=W.setV hv ho hi (dw N (dw hr (if_pos ⟨mS,IW⟩))) c
theorem W.setItem0{o i v:CE}(r:Nat)(k:Int)(l:List V)(x:V)(hv:ab Á v a H=À (x,H))(ho:ab Á o a H=À (.ref r,H))(hi:ab Á i a H=À (.int k,H))(hr:H[r]?=À (.lst l))(mS:0<=k)(IW:k.toNat<l.length)
  (c:W Á aD a (H.set r (.lst (l.set k.toNat x))) Q):W Á (.cons (.setItem o i v) aD) a H Q:=W.setItem r k l x H hv ho hi hr mS IW c
theorem Ds{body:ff}{t:jS}{w:List (Nat×bp)}{xs:List V}(I:Nat->aL->ag->Prop)(ď:cm->ag->Prop)(hw:∀k U H,I k U H->cA H w)
  (step:∀k x U H,xs[k]?=À x->I k U H->∃aR,t.put x U=À aR/\W Á body aR H (LX I ď k)) :
  ∀(ys:List V) (k:Nat) (a U:aL) (H:ag),xs.drop k=ys->k<=xs.length->Le a U->I k a H->∃fl qb σe,lF (aN Á body) t w ys U H=À (fl,qb,σe)/\((fl=.next/\∃b,Le b qb/\I xs.length b σe)\/(fl≠.next/\ď fl σe)):=by
 intro ys
 induction ys with
 |nil=>intro k a U H hd hk hl hI;have kZ:k=xs.length:=ť hk (List.drop_eq_nil_iff.mp hd);subst kZ;show⟨.next,U,H,jb (hw _ _ _ hI),.inl ⟨N,a,hl,hI⟩⟩
 |cons y ys ih=>
  intro k a U H hd hk hl hI
  have hx:xs[k]?=À y:=by
   have:=congrArg (·[0]?) hd
   simpa using this
  have cE:k<xs.length:=(Ġ.mp hx).1;show aF (step k y a H hx hI) λa' h1 h2=>aF (Ad hl h1) λaR g1 g2=>ED (h2 aR g2) λfl b ii ij h4 h5 h3=>?_
  have e:lF (aN Á body) t w (y::ys) U H=ig (À (fl,ii,ij)) λii ij=>lF (aN Á body) t w ys ii ij:=by show gh H w ((t.put y U).bind λaR=>ig (aN Á body aR H) λii ij=>lF (aN Á body) t w ys ii ij)=_;rw[jb (hw _ _ _ hI),g1];show ig (aN Á body aR H) _=_;rw[h5]
  rw[e];rcases h3 with ⟨rfl,c,h6,h7⟩|⟨eJ,h3⟩
  ·show ih (k+1) c ii ij (by rw[<-adB,hd];rfl) cE (h6.trans h4) h7
  ·show⟨fl,ii,ij,u9 eJ,.inr ⟨eJ,h3⟩⟩
theorem W.loopE{t:jS}{it:jo}{body:ff}{xs:List V}{w:List (Nat×bp)}(h:cB Á it U H=À (xs,w,Î))(I:Nat->aL->ag->Prop)(ď:cm->ag->Prop){a:aL}(ha:Le a U)(h0:I 0 a Î)(hw:∀k U H,I k U H->cA H w)
  (step:∀k x U H,xs[k]?=À x->I k U H->∃aR,t.put x U=À aR/\W Á body aR H (LX I ď k))
  (k:∀aR ae,I xs.length aR ae->W Á aD aR ae Q) (kr:∀fl aR ae,ď fl ae->Q fl aR ae):W Á (.cons (.for_ t it body) aD) U H Q:=λr hr=>by
 show oS (Ds I ď hw step xs 0 a r Î N (Ĥ _) (ha.trans hr) h0) λfl qb σe h1 h2=>?_
 have ex:bD Á (.for_ t it body) r H=À (fl,qb,σe):=by rw[yZ];show lL (by rw[vf it hr h];show h1)
 have eq:aN Á (.cons (.for_ t it body) aD) r H=ig (À (fl,qb,σe)) (aN Á aD):=by show ig (bD Á (.for_ t it body) r H) (aN Á aD)=_;rw[ex]
 rcases h2 with ⟨rfl,b,hl,hI⟩|⟨eJ,hJ⟩
 ·show ED (k b σe hI qb hl) λfl b Sv fg g1 g2 g3=>⟨fl,b,Sv,fg,g1,eq.trans g2,g3⟩
 ·show⟨fl,qb,qb,σe,Le.refl _,eq.trans (u9 eJ),kr fl qb σe hJ⟩
theorem W.loop{t:jS}{it:jo}{body:ff}{xs:List V}{w:List (Nat×bp)}{Î:ag}(h:cB Á it U H=À (xs,w,Î))(I:Nat->aL->ag->Prop){a:aL}(ha:Le a U)(h0:I 0 a Î)(hw:∀k U H,I k U H->cA H w)
  (step:∀k x U H,xs[k]?=À x->I k U H->∃aR,t.put x U=À aR/\W Á body aR H (LQ I k))
  (k:∀aR ae,I xs.length aR ae->W Á aD aR ae Q):W Á (.cons (.for_ t it body) aD) U H Q:=
 W.loopE h I (λz z=>False) ha h0 hw (λk x U H hx hI=>aF (step k x U H hx hI) λaR h1 h2=>⟨aR,h1,h2.mono λz z z=>.inl⟩) k λz z z q=>q.elim
end
theorem eI{P:List bo}{d k:Nat}{f:bo}{as:List V}{H:ag}(hk:P[k]?=À f)(ha:as.length=f.arity){R:V->ag->Prop}(h:W (aG P d) f.body (bI as) H (RQ R)):∃v ae,aG P (d+1) k as H=À (.ok v,ae)/\R v ae:=by obtain ⟨fl,b,aR,ae,_,h1,v,rfl,h2⟩:=h _ (Le.refl _);show⟨v,ae,by rw[pN hk ha,h1];rfl,h2⟩
section
variable{Á:az}{U:aL}{H Î Ý:ag}
theorem fw{a b:CE}{x y:Int}(ha:ab Á a U H=À (.int x,Î))(hb:ab Á b U Î=À (.int y,Ý)):ab Á (.cmp .Eq a b) U H=À (.bool (decide (x=y)),Ý):=by rw[<-RG];show bN ha hb N
theorem uO{r:Nat}{l:List V}(hr:H[r]?=À (.lst l)):gk .len [.ref r] H=À (.int l.length,H):=(show Ϝ (Ϝ _ _) _=_ from dw (dw (cy hr) N) N)
end
theorem gQ{P:List bo}{d k:Nat}{f:bo}{as:List V}{H:ag}{v:V}(hk:P[k]?=À f)(ha:as.length=f.arity)(h:W (aG P d) f.body (bI as) H (RQ λu ae=>u=v/\ae=H)):aG P (d+1) k as H=À (.ok v,H):=by show fu (eI hk ha h) λv' ae h1 q4 q5=>?_;subst q4 q5;show h1
theorem m9{P:List bo}{k d:Nat}{H:ag}(hk:P[k]?=À sT)(x y:Int)(hy:y.natAbs<18446744073709551616):aG P (d+1) k [.int x,.int y] H=À (.ok (.int (Hg x y)),H):=by have b1:=c7 (a:=(x+104729*y)+(7919*y)*y) (b:=998244353) (by decide);show gQ hk N (W.set (aP (aP (aP N (aP N N (kl (iw hy))) N) (aP (aP N N (kl (iw hy))) N (kl (iw hy))) N) N (dH (by decide))) ?_);have m4:tu (((x+104729*y)+(7919*y)*y).fmod 998244353) (((x+104729*y)+(7919*y)*y).fmod 998244353)=Æ:=iw (E1 b1.1 (ac8 b1.2 (by decide)));have em:Hg x y=(((((x+104729*y)+(7919*y)*y).fmod 998244353)*(((x+104729*y)+(7919*y)*y).fmod 998244353)).fmod 998244353*1000003).fmod 998244353:=rfl;rw[em];generalize ((x+104729*y)+(7919*y)*y).fmod 998244353=z at m4;show W.retE (aP (aP (aP (aP N N (kl m4)) N (dH (by decide))) N (kl (iw (by decide)))) N (dH (by decide))) ⟨_,N,N,N⟩
theorem sL{P:List bo}{k d:Nat}{H:ag}{r:Nat}{cs:List Int}(hk:P[k]?=À iQ)(hr:H[r]?=À (.lst (cs.map .int)))(j:Nat)(hj:j<1000000):aG P (d+1) k [.ref r,.int j] H=À (.ok (.int (cellF cs j)),H):=by
 have m1:tu ((j:Int)+3) ((j:Int)+7)=Æ:=iw (show j+7<18446744073709551616 from ĳ (ac6 hj 7) (by decide));show gQ hk N (W.if_ (bN N (aQ N ((uO hr).trans (by rw[H']))) N) (λhc=>?_) λhc=>W.nil ?_)
 ·have cE:j<cs.length:=by (show Ů.mp ‹_›)
  have e:cs[j]?=À cs[j]:=ē cE;show W.retE (bx r j _ (.int cs[j]) N N hr (Ě _) (by rw[ĵ,į,e];rfl)) ⟨_,N,?_,N⟩;rw[cellF,e]
 ·have e:cs[j]?=Ã:=ϭ (by show jL (y2 0xc0115b10 N hc))
  show W.retE (aP (aP N N (kl m1)) N (kl (iw (by decide)))) ⟨_,N,?_,N⟩;rw[cellF,e]
theorem j4{P:List bo}{k d:Nat}{H:ag}(hk:P[k]?=À mQ)(x m:Int)(hm:m≠0):aG P (d+1) k [.int x,.int m] H=À (.ok (.int (gw x m)),H):=by
 show gQ hk N (W.set (Î:=H) N (W.if_ (fw N N) (λhc=>?_) λhc=>W.nil ?_))
 ·show W.retE (aP N (aP N N (dH hm)) N) ⟨_,N,by rw[gw,if_pos hc],N⟩
 ·show W.if_ (fw N N) (λGl=>?_) λGl=>W.nil ?_
  ·show W.retE N ⟨_,N,by rw[gw,if_neg hc,if_pos Gl],N⟩
  ·show W.retE N ⟨_,N,by rw[gw,if_neg hc,if_neg Gl],N⟩
theorem td{P:List bo}{k d:Nat}{H:ag}(hk:P[k]?=À qw)(x:Int):aG P (d+1) k [.int x] H=À (.ok (.int (tc x)),H):=by
 show gQ hk N (W.if_ (fw N N) (λhc=>?_) λhc=>W.nil ?_)
 ·show W.retE N ⟨_,N,by rw[tc,if_pos hc],N⟩
 ·show W.if_ (bN N N N) (λGl=>?_) λGl=>W.nil ?_
  ·show W.retE N ⟨_,N,by rw[tc,if_neg hc,if_pos Gl],N⟩
  ·show W.retE N ⟨_,N,by rw[tc,if_neg hc,if_neg Gl],N⟩
noncomputable def iU:Int->List Int->List Int
 |_,[]=>[]
 |m,c::cs=>(m*6364136223846793005+c+1442695040888963407).fmod 1000000000000000003::iU ((m*6364136223846793005+c+1442695040888963407).fmod 1000000000000000003) cs
theorem HK(H:ag)(a b:bp):(H++[a]).set H.length b=H++[b]:=by simp
theorem Pu{Á:az}{U:aL}{H Î:ag}{e:CE}{l:List Int}(h:ab Á e U H=À (.ro l,Î)):cB Á (.ex e) U H=À (l.map .int,[],Î):=kO.trans (bL h N)
def iu(P:List bo)(k:Nat)(d:Nat)(H:ag)(ns:List Int):Prop:=∀(hk:P[k]?=À oU) (hn:ns.length<=63),aG P (d+1) k [.ro ns] H=À (.ok (.ref H.length),H++[.lst ((iU 1 ns).map .int)])
namespace mixed_callH
def kc:=hc (U5 iu) ([],0,0,[],[])
def P:=kc.1
def k:=kc.2.1
def d:=kc.2.2.1
def H:=kc.2.2.2.1
def ns:=kc.2.2.2.2
theorem kt:iu P k d H ns:=by
 intro hk hn;have hsz:al=16777216:=rfl
 obtain ⟨v,ae,h,rfl,rfl⟩:=eI (R:=λv ae=>v=.ref H.length/\ae=H++[.lst ((iU 1 ns).map .int)]) (d:=d) hk (as:=[.ro ns]) rfl (by
  show W.set (Î:=H++[.lst []]) N (W.set N (W.loop (Pu N)
   (λj U ae=>∃m acc,U=bG [Ã,À (.ref H.length),À (.int m)]/\ae=H++[.lst (acc.map .int)]/\acc++iU m (ns.drop j)=iU 1 ns/\acc.length<=j/\j<=ns.length)
   (a:=bG [Ã,À (.ref H.length),À (.int 1)]) (ay ⟨N,N,trivial⟩) ⟨1,[],N,N,N,Đ _,Ĥ _⟩ (λy y y y=>bw _) ?_ ?_))
  ·rintro j x _ _ hx ⟨m,acc,rfl,rfl,h3,h4,hj⟩
   have cE:j<ns.length:=by have:=(Ġ.mp hx).1;rwa [H']at this
   have hxe:x=.int ns[j]:=by rw[į,ē cE]at hx;show(sm hx).symm
   apply aW hxe;rw[abF cE]at h3;show⟨_,rfl,?_⟩;generalize hz:(m*6364136223846793005+ns[j]+1442695040888963407).fmod 1000000000000000003=z;show W.set (v:=.int z) (by rw[<-hz];show aP (aP (aP (aP rfl rfl (kl (iw (by decide)))) rfl rfl) rfl rfl) rfl (dH (by decide))) (W.append0 H.length (acc.map .int) (.int z) rfl (aE _ _) rfl (by rw[H'];show jL (y4 0xc1210b003f9013b00000000000001000000d110b3211b03 rfl (iL hn) (iE hsz) (iL h4) (iT cE))) ?_);rw[HK];show W.nil ⟨rfl,bG [Ã,À (.ref H.length),À (.int z)],ay ⟨rfl,rfl,trivial⟩,z,acc++[z],rfl,by simp,?_,by simp;show h4,cE⟩;rw[<-h3,iU,hz];simp
  ·rintro _ _ ⟨m,acc,rfl,rfl,h3,_⟩
   rw[H',adO,iU,Ĵ]at h3;apply aW h3;show W.retE N ⟨_,N,N,N⟩)
 show h
end mixed_callH
theorem z0{P:List bo}:iu P k d H ns:=hk (P:=U5 iu) mixed_callH.kt (P,k,d,H,ns)
structure cV where
 a:Int
 p:Int
 l:Int
noncomputable def cV.v(o:cV):V:=.tup [.int o.a,.int o.p,.int o.l]
theorem pX(a b:Nat):iV a b 1=b-a:=by
 show (if (a:Int)<b then ((b:Int)-a-1) / 1+1 else 0).toNat=b-a;by_cases h:(a:Int)<b
 ·rw[if_pos h,aeZ,ad0];show aef b a
 ·rw[if_neg h];show(adH (Ţ.mp (Ŕ.mp h))).symm
theorem l9(a b:Nat):(cp a b 1).length=b-a:=(H' _).trans (Ś.trans (pX a b))
theorem rB{a b j:Nat}{x:V}(h:(cp a b 1)[j]?=À x):j<b-a/\x=.int ((a:Int)+j):=by have hj:j<b-a:=l9 a b▸(Ġ.mp h).1;unfold cp at h;rw[į,Ϭ (pX a b▸hj)]at h;show⟨hj,(sm h).symm.trans (congrArg (λz=>V.int ((a:Int)+z)) (϶ j))⟩
theorem gW{n:Nat}{j:Nat}{x:V}(h:(cp 0 n 1)[j]?=À x):j<n/\x=.int j:=Ű j▸rB (a:=0) h
theorem gZ(n:Nat):(cp 0 n 1).length=n:=l9 0 n
theorem lX(l:List Int):cC (l.map .int)=À l:=by
 induction l with
 |nil=>rfl
 |cons x l ih=>show (cC (l.map .int)).bind (λl=>À (x::l))=_;rw[ih];rfl
theorem ez{α:Type}{elt:aL->ag->Option (V×ag)}{cond:aL->ag->Option (Bool×ag)}{t:jS}{w:List (Nat×bp)}{U:aL}{H:ag}{g:α->V}{p:α->Bool}{f:α->V}(hw:cA H w){xs:List α}:
  (∀x∈xs,∃aR,t.put (g x) U=À aR/\cond aR H=À (p x,H)/\(p x=Æ->elt aR H=À (f x,H)))->fQ elt cond t w (xs.map g) U H=À ((xs.filter p).map f,H):=by
 induction xs with
 |nil=>show λz=>jb hw
 |cons x xs ih=>
  intro h;show dN (h x G') λaR h1 h2 h3=>?_;have ih:=ih λy hy=>h y (J' _ hy);show gh H w ((t.put (g x) U).bind λaR=>bT (cond aR H) λb Î=>if b then bT (elt aR Î) λv Ý=>bT (fQ elt cond t w (xs.map g) U Ý) λl bH=>À (v::l,bH) else fQ elt cond t w (xs.map g) U Î)=_;rw[jb hw,h1];show (bT (cond aR H) λb Î=>if b then bT (elt aR Î) λv Ý=>bT (fQ elt cond t w (xs.map g) U Ý) λl bH=>À (v::l,bH) else fQ elt cond t w (xs.map g) U Î)=_;rw[h2,ada];show (if p x=Æ then bT (elt aR H) λv Ý=>bT (fQ elt cond t w (xs.map g) U Ý) λl bH=>À (v::l,bH) else fQ elt cond t w (xs.map g) U H)=_;by_cases hp:p x=Æ
  ·rw[if_pos hp,if_pos hp,h3 hp]
   show (bT (fQ elt cond t w (xs.map g) U H) λl bH=>À (f x::l,bH))=_;rw[ih];rfl
  ·rw[if_neg hp,if_neg hp];show ih
noncomputable def be(l:List Int):Int:=l.foldl (·+·) 0
theorem tE(l:List Int)(x:Int):be (l++[x])=be l+x:=by simp [be]
theorem rR{α:Type}{Á:az}{elt:CE}{t:jS}{it:jo}{ifs:gb}{U:aL}{H Î:ag}{w:List (Nat×bp)}{g:α->V}{p:α->Bool}{f:α->Int}{xs:List α}(hs:cB Á it U H=À (xs.map g,w,Î))(hw:cA Î w)(hz:xs.length<=al)
  (h:∀x∈xs,∃aR,t.put (g x) U=À aR/\dp Á ifs aR Î=À (p x,Î)/\(p x=Æ->ab Á elt aR Î=À (.int (f x),Î))) :
  ab Á (.prim .sum (.cons (.comp elt t it ifs) .nil)) U H=À (.int (be ((xs.filter p).map f)),Î++[.lst (((xs.filter p).map f).map .int)]):=by
 have hc:=ez hw h;rw[show (xs.filter p).map (λx=>V.int (f x))=((xs.filter p).map f).map .int from by simp]at hc
 have s8:(((xs.filter p).map f).map V.int).length<=al:=by
  have:=ϻ p xs
  simp;show z' this hz
 show aQ (ak (fK hs hc s8)) (Ie (aE _ _) (lX _))
theorem nK{Á:az}{e:CE}{U:aL}{H Î:ag}{b:Bool}(h:ab Á e U H=À (.bool b,Î)):dp Á (.cons e .nil) U H=À (b,Î):=mK h (by cases b<;>rfl)
theorem Ia{Á:az}{a b:CE}{U:aL}{H:ag}{xs ys:List V}(ha:ab Á a U H=À (.tup xs,H))(hb:ab Á b U H=À (.tup ys,H)):cB Á (.zip a b) U H=À (bz xs ys,[(H.length,.own)],H++[.own]):=rN.trans (bL ha (bL hb N))
theorem eD{Á:az}{a:CE}{U:aL}{H Î:ag}{n:Nat}(ha:ab Á a U H=À (.int n,Î))(hn:n<=1000000000):cB Á (.rng1 a) U H=À (cp 0 n 1,[],Î):=tS ha (if_pos (by simp [jC];(show Ţ.mpr ‹_›)))
theorem fx{α:Type}(l:List α):l.filter (λz=>Æ)=l:=List.filter_eq_self.mpr λz z=>rfl
theorem Wp{Á:az}{e:CE}{U:aL}{H Î:ag}{v:V}(h:ab Á e U H=À (v,Î)):hW (aN Á (.cons (.ret e) .nil) U H)=À (.ok v,Î):=by show hW (ig (bD Á (.ret e) U H) _)=_;rw[lR,lL (r:=(.ret v,U,Î)) (by rw[h];rfl)];rfl
theorem l8(n:Nat):cp 0 n 1=(ċ n).map λj:Nat=>V.int j:=by unfold cp;rw[show iV 0 n 1=n from pX 0 n];show ϔ λj z=>by rw[϶,Ű]
theorem A6{cs:List Int}{j:Nat}(hj:j<cs.length):(cs.map V.int)[((j:Nat):Int).toNat]?=À (.int ((cs[j]?).getD 0)):=by rw[ĵ,į,ē hj];rfl
theorem xo{n:Nat}{j:Nat}{x:V}(h:(cp 1 (n+1:Nat) 1)[j]?=À x):j<n/\x=.int ((j:Int)+1):=adZ 1 j▸rB (a:=1) h
theorem xp(n:Nat):(cp 1 (n+1:Nat) 1).length=n:=l9 1 (n+1)
section
variable{Á:az}{U:aL}{H Î Ý bH:ag}
theorem cg{es:gb}{vs:List V}(h:bO Á es U H=À (vs,Î))(hz:vs.length<=al):ab Á (.list es) U H=À (.ref Î.length,Î++[.lst vs]):=bL h (if_pos hz)
theorem bY{es:gb}{vs:List V}(h:bO Á es U H=À (vs,Î))(hz:vs.length<=al):ab Á (.tuple es) U H=À (.tup vs,Î):=bL h (if_pos hz)
theorem eL{a b:CE}{x y:Str}(ha:ab Á a U H=À (.str x,Î))(hb:ab Á b U Î=À (.str y,Ý))(hz:x.length+y.length<=al):ab Á (.bin .Add a b) U H=À (.str (x++y),Ý):=
 aP ha hb (if_pos hz)
theorem lQ{a lo hi:CE}{x y z:V}{r:Option (V×ag)}(ha:ab Á a U H=À (x,Î))(hl:ab Á lo U Î=À (y,Ý))(hh:ab Á hi U Ý=À (z,bH))(h:xw x y z bH=r):ab Á (.slc a lo hi) U H=r:=bL ha (bL hl (bL hh h))
theorem JN{o e:CE}{x y:Str}(ho:ab Á o U H=À (.str x,Î))(he:ab Á e U Î=À (.str y,Ý)):ab Á (.meth .find o (.cons e .nil)) U H=À (.int (Txt.find x y),Ý):=bL ho (bL (ak he) N)
theorem qU{k:Int}(h:0<=k/\k<4611686018427387904):m6 (.int k)=À k.toNat:=if_pos h
theorem mR{k:Int}{n:Nat}(h:0<=k/\k<4611686018427387904):kY n (.int k)=À (min n k.toNat):=if_pos h
theorem XS{k:Nat}(h:k<=1000):0<=(k:Int)/\(k:Int)<4611686018427387904:=⟨Ě k,adm (Ţ.mpr h) (by decide)⟩
theorem tY{α:Type}(l:List α)(i j:Nat):(oQ l i j).length<=l.length:=by unfold oQ;rw[ϱ,Ŭ];show z' (ŏ _ _) (acL _ _)
theorem CQ{e:CE}{x:Str}(h:ab Á e U H=À (.str x,Î))(hx:x.length<=al):ab Á (.prim .len (.cons e .nil)) U H=À (.int x.length,Î):=
 aQ (ak h) (if_pos hx)
theorem FW{a b:CE}{p q:Prop}[Decidable p][Decidable q](ha:ab Á a U H=À (.bool (decide p),H))(hb:ab Á b U H=À (.bool (decide q),H)):ab Á (.and a b) U H=À (.bool (decide (p/\q)),H):=by
 by_cases hp:p
 ·rw[decide_eq_true hp]at ha
  rw[t7 ha hb]
  simp [hp]
 ·rw[decide_eq_false hp]at ha
  rw[t8 ha]
  simp [hp]
theorem fm{a b:Int}(h:0<b):∃n:Nat,a.fmod b=n/\(n:Int)<b:=by show aO (c7 (a:=a) h) λh1 h2=>⟨(a.fmod b).toNat,(ϡ h1).symm,by rw[ϡ h1];show h2⟩
end
noncomputable def sg:Str := "abcdefghijklmnopqrstuvwxyz"
theorem Po:sg.length=26:=by decide +kernel
noncomputable def nO:List Str:=["total","day","flour","salt","left","used","short","salts","a","z","oil"]
structure aU where
 n:Str
 a:Int
 l:Int
noncomputable def aU.v(b:aU):V:=.tup [.str b.n,.int b.a,.int b.l]
theorem eG{H:ag}{r:Nat}{m m':bp}(e:H[r]?=À m):(H.set r m')[r]?=À m':=adu (Ġ.mp e).1
theorem qm{P:List bo}{k d:Nat}{H:ag}{r:Nat}{cs:List Int}(hk:P[k]?=À iQ)(hr:H[r]?=À (.lst (cs.map .int)))(j:Nat)(hj:j<1000){z:Int}(hz:z=j):aG P (d+1) k [.ref r,.int z] H=À (.ok (.int (cellF cs j)),H):=by apply aW hz;show sL hk hr j (by show jT (y1 0x1c000000000000000f4240d011b03e890 N (iT hj)))
theorem JY{n:Nat}(h:n<4):([V.int 1,.int 2,.int 3,.int 4]:List V)[n]?=À (.int (n+1:Nat)):=show ((ċ 4).map λj:Nat=>V.int (j+1:Nat))[n]?=_ by rw[į,Ϭ h];rfl
def iz(d:Nat)(H:ag)(r:Nat)(cs:List Int):Prop:=∀(hr:H[r]?=À (.lst (cs.map .int))),∃(q:Nat) (aw:Int) (m:Nat) (ae:ag),aG PP (d+2) 32 [.ref r] H=À (.ok (.ref q),ae)/\ae[q]?=À (.lst [.int aw,.int m])/\aB H ae/\1<=m/\m<=12
namespace names_callH
def kc:=hc (U4 iz) (0,[],0,[])
def d:=kc.1
def H:=kc.2.1
def r:=kc.2.2.1
def cs:=kc.2.2.2
theorem kt:iz d H r cs:=by
 intro hr;have ec:∀(j:Nat),j<1000->∀ae,aB H ae->aG PP (d+1) 21 [.ref r,.int j] ae=À (.ok (.int (cellF cs j)),ae):=λj hj ae hK=>sL N (hK _ _ hr) j (ĳ ‹_<_› (by decide))
 obtain ⟨v,ae,h,q,aw,m,rfl,h1,h2,h3,h4⟩:=eI (P:=PP) (k:=32) (d:=d+1) rfl (as:=[.ref r]) rfl (by
  show W.set (af N (ec 0 (by decide) H (aB.refl _))) ?_;generalize cellF cs 0=aw;have UA:=ec 1 (by decide);generalize cellF cs 1=c at UA;show aF (fm (a:=c) (b:=4) (by decide)) λn hn lU=>?_;have K1:aB H (H++[.lst [V.int 1,.int 2,.int 3,.int 4]]):=aB.app _ _;show W.set (v:=.int (n+1:Nat)) (bx H.length n _ _ (cg (vs:=[V.int 1,.int 2,.int 3,.int 4]) N (by decide)) (by rw[<-hn];show aP (af N (UA _ K1)) N (dH (by decide))) (aE _ _) (Ě _) (JY (Ů.mp ‹_›))) ?_;generalize H++[.lst [V.int 1,.int 2,.int 3,.int 4]]=bj at K1
  have hW:∀(m:Nat) (U:aL),U 1=À (.int aw)->U 2=À (.int m)->1<=m->m<=12->W (aG PP (d+1)) (.cons (.ret (.list (.cons (.var 1) (.cons (.var 2) .nil)))) .nil) U bj (λfl z ae=>∃v,fl=.ret v/\∃(q:Nat) (aw:Int) (m:Nat),v=.ref q/\ae[q]?=À (.lst [.int aw,.int m])/\aB H ae/\1<=m/\m<=12):=by intro m U g1 g2 h1 h2;show W.retE (cg (aA (aI g1) (ak (aI g2))) (by simp only[ϧ,adU];decide)) ⟨_,rfl,_,aw,m,rfl,aE _ _,K1.trans (aB.app _ _),h1,h2⟩
  show W.if_ (fw (aP (aP (af N (UA _ K1)) N (FK (by decide) (by decide))) N (dH (by decide))) N) (λhc=>?_) λhc=>W.nil ?_
  ·show W.set N (W.nil (hW 12 _ N N (by decide) (by decide)))
  ·show hW (n+1) _ N N (by show jL (y2 0xc11810b00813ba1801 N (iP _) (iA _ _))) (by (show ĳ (Ů.mp ‹_<_›) (by decide))))
 show⟨q,aw,m,ae,h,h1,h2,h3,h4⟩
end names_callH
theorem z7:iz d H r cs:=hk (P:=U4 iz) names_callH.kt (d,H,r,cs)
theorem tj{P:List bo}{k d:Nat}{H:ag}(hk:P[k]?=À qz)(c:Int)(few DA:Nat)(Gq:few<=DA):∃n:Nat,aG P (d+1) k [.int c,.int few,.int DA] H=À (.ok (.int n),H)/\n<=DA:=by
 obtain ⟨v,ae,h,rfl,n,rfl,h2⟩:=eI (R:=λv ae=>ae=H/\∃n:Nat,v=.int n/\n<=DA) (H:=H) hk (as:=[.int c,.int few,.int DA]) rfl (by
  show aF (fm (a:=c.fdiv 24) (b:=(DA:Int)+1) (by (show ack (Ě _) (by decide)))) λn hn lU=>aF (fm (a:=c.fdiv 24) (b:=(few:Int)+1) (by (show ack (Ě _) (by decide)))) λm hm S8=>W.if_ (fw N N) (λhc=>?_) λhc=>W.nil ?_
  ·show W.retE (aP N N (dH (by (show ae3 (ack (Ě _) (by decide)))))) ⟨_,N,N,n,by rw[hn],Ţ.mp (aeC lU)⟩
  ·show W.retE (aP N N (dH (by (show ae3 (ack (Ě _) (by decide)))))) ⟨_,N,N,m,by rw[hm],z' (Ţ.mp (aeC S8)) Gq⟩)
 show⟨n,h,h2⟩
section
variable{Á:az}{U:aL}{H Î Ý bH:ag}
theorem cH{e:CE}{l:List V}(h:ab Á e U H=À (.tup l,Î)):cB Á (.ex e) U H=À (l,[],Î):=kO.trans (bL h N)
theorem nC{e:CE}{l:List V}(h:ab Á e U H=À (.tup l,Î)):cB Á (.enm e) U H=À (dI 0 l,[],Î):=rM.trans (bL h N)
end
noncomputable def pV(p:Nat×Int):V:=.tup [.int p.1,.int p.2]
def sj(ps:List (Nat×Int)):V:=.tup (ps.map pV)
noncomputable def Fd:aU:=⟨aem,0,0⟩
theorem bC{α:Type}{l:List α}{k:Nat}{x:α}(h:l[k]?=À x):l.take (k+1)=l.take k++[x]:=by rw[adw,h];rfl
theorem l5{α:Type}{f:α->V}{l:List α}{k:Nat}{x:V}(h:(l.map f)[k]?=À x):∃y,l[k]?=À y/\x=f y:=by
 rw[į]at h;cases hy:l[k]? with
 |none=>rw[hy]at h;show no h
 |some y=>rw[hy]at h;show⟨y,N,(sm h).symm⟩
noncomputable def Ke(x:Str)(n:Nat):Str:=⟨#[(x.cps[n]?).getD 0]⟩
def P4(x:Str)(i j:Nat):Str:=⟨(oQ x.cps.toList i j).toArray⟩
def HM(z:Int):Str:=Ke sg (z.fmod 26).toNat
theorem p7(x:Str)(i j:Nat):(P4 x i j).length<=x.length:=by show (oQ x.cps.toList i j).toArray.size<=_;rw[ų];show tY _ _ _
section
variable{Á:az}{U:aL}{H Î Ý bH:ag}
theorem qt{a i:CE}{x:Str}{k:Int}(ha:ab Á a U H=À (.str x,Î))(hi:ab Á i U Î=À (.int k,Ý))(h0:0<=k)(h1:k<x.length)(hx:x.length<=1000):ab Á (.idx a i) U H=À (.str (Ke x k.toNat),Ý):=by
 have cE:k.toNat<x.cps.size:=by have:x.length=x.cps.size:=rfl;show jT (y4 0x1c2311b1012b2112b03 N h1 (iE this) (ϡ (y1 0xc00810b008 N h0)))
 have e:x.cps[k.toNat]?=À x.cps[k.toNat]:=acx cE;have hk:0<=k/\k<4611686018427387904:=by show⟨y1 0xc00810b008 N h0,y2 0x1c00004000000000000000d011b1010b03e891 N h1 (iL hx)⟩
 show n9 ha hi ?_;show (Ϝ (À k) λk=>if 0<=k/\k<4611686018427387904 then (x.cps[k.toNat]?).bind (λc=>À (V.str ⟨#[c]⟩)) else Ã)=_;unfold Ke;rw[ab4,if_pos hk,e];rfl
theorem jw{a lo hi:CE}{x:Str}{u v:V}{i j:Nat}(ha:ab Á a U H=À (.str x,Î))(hl:ab Á lo U Î=À (u,Ý))(hh:ab Á hi U Ý=À (v,bH))(h0:m6 u=À i)(h1:kY x.length v=À j)(hx:x.length<=1000):
  ab Á (.slc a lo hi) U H=À (.str (P4 x i j),bH):=by
 have hc:(oQ x.cps.toList i j).length<=x.length:=tY _ _ _;have hz:(oQ x.cps.toList i j).toArray.size<=al:=by rw[ų];unfold al;show jL (y2 0xc00000000000001000000d110b03e89010b01 N (iL hx) (iL hc))
 show lQ ha hl hh ?_;show ((m6 u).bind λi=>(kY x.length v).bind λj=>Pc bH ⟨(oQ x.cps.toList i j).toArray⟩)=_;rw[h0,h1];show if_pos hz
theorem gS{i:CE}{z:Int}(hv:U 2=À (.str sg))(hi:ab Á i U H=À (.int (z.fmod 26),Î)):ab Á (.idx (.var 2) i) U H=À (.str (HM z),Î):=by have b:=c7 (a:=z) (b:=26) (by decide);have:=Po;show qt (aI hv) hi b.1 (by show y2 0x1c1011b001a9013b001a91 N b.2 (iE this)) (by show jL (y1 0xc03e89012b001a90 N (iE this)))
end
def ti(fA:Int):Nat->Str×Int
 |0=>(("":Str),fA.fdiv 7)
 |j+1=>((ti fA j).1++HM ((ti fA j).2+1+(fA.fdiv 182).fmod 25),(ti fA j).2+1+(fA.fdiv 182).fmod 25)
theorem uQ(fA:Int):∀j,(ti fA j).1.length=j
 |0=>by show ("":Str).length=0;decide +kernel
 |j+1=>by show ((ti fA j).1++HM _).length=_;rw[ac1,uQ fA j];rfl
def Ij(Jl:Int)(i:Nat):Str:=([("":Str),("":Str),HM Jl,HM (Jl+1)]:List Str)[i]?.getD ("":Str)
def gu(aw:Int)(i:Nat):Str:=
 if aw.fmod 6=0/\(i:Int)<4 then (nO[((aw.fdiv 6+i).fmod 11).toNat]?).getD ("":Str)
 else if (3:Int)<i then P4 (ti (aw.fdiv 6) (1+((aw.fdiv 6).fmod 7).toNat)).1 0 (min (1+((aw.fdiv 6).fmod 7).toNat) (min (((aw.fdiv 6).fdiv 4550).fmod (1+((aw.fdiv 6).fmod 7).toNat:Nat)) 6).toNat)++(HM ((ti (aw.fdiv 6) (1+((aw.fdiv 6).fmod 7).toNat)).2+(i:Int).fdiv 26)++HM i)++P4 (ti (aw.fdiv 6) (1+((aw.fdiv 6).fmod 7).toNat)).1 (min (((aw.fdiv 6).fdiv 4550).fmod (1+((aw.fdiv 6).fmod 7).toNat:Nat)) 6).toNat (min (1+((aw.fdiv 6).fmod 7).toNat) 6)
 else if (3:Int)<aw.fmod 6 then HM ((aw.fdiv 6).fdiv 7+(i:Int))++(ti (aw.fdiv 6) (1+((aw.fdiv 6).fmod 7).toNat)).1
 else if (i:Int)=1 then P4 (ti (aw.fdiv 6) (1+((aw.fdiv 6).fmod 7).toNat)).1 0 (min (1+((aw.fdiv 6).fmod 7).toNat) (((aw.fdiv 6).fdiv 4550).fmod (1+((aw.fdiv 6).fmod 7).toNat:Nat)).toNat)++HM (Txt.find sg (Ke (ti (aw.fdiv 6) (1+((aw.fdiv 6).fmod 7).toNat)).1 (((aw.fdiv 6).fdiv 4550).fmod (1+((aw.fdiv 6).fmod 7).toNat:Nat)).toNat)+1)++P4 (ti (aw.fdiv 6) (1+((aw.fdiv 6).fmod 7).toNat)).1 ((((aw.fdiv 6).fdiv 4550).fmod (1+((aw.fdiv 6).fmod 7).toNat:Nat))+1).toNat (1+((aw.fdiv 6).fmod 7).toNat)
 else (ti (aw.fdiv 6) (1+((aw.fdiv 6).fmod 7).toNat)).1++Ij (ti (aw.fdiv 6) (1+((aw.fdiv 6).fmod 7).toNat)).2 i
theorem Il{a:Int}{i:Nat}(h:i<4):([V.str ("":Str),V.str ("":Str),V.str (HM a),V.str (HM (a+1))]:List V)[(i:Int).toNat]?=À (.str (Ij a i))/\(Ij a i).length<=1:=by
 have h0:("":Str).length<=1:=by decide +kernel
 cases i with
 |zero=>show⟨N,h0⟩
 |succ i=>cases i with
  |zero=>show⟨N,h0⟩
  |succ i=>cases i with
   |zero=>show⟨N,Đ _⟩
   |succ i=>cases i with
    |zero=>show⟨N,Đ _⟩
    |succ i=>show absurd h (ľ.mpr (afk 4 i))
theorem l7{P:List bo}{k d:Nat}{H:ag}(hk:P[k]?=À iR)(aw:Int)(i:Nat)(hi:i<100):∃ae,aG P (d+1) k [.int aw,.int i] H=À (.ok (.str (gu aw i)),ae)/\aB H ae:=by
 have hsz:al=16777216:=rfl
 obtain ⟨v,ae,h,rfl,h1⟩:=eI (R:=λv ae=>v=.str (gu aw i)/\aB H ae) hk (as:=[.int aw,.int i]) rfl (by
  show W.set (v:=.str sg) (Î:=H) N (W.set (Î:=H++[.lst (nO.map .str)]) (cg N (by decide)) ?_);have hw:(H++[.lst (nO.map .str)])[H.length]?=À (.lst (nO.map .str)):=aE _ _;have kw:aB H (H++[.lst (nO.map .str)]):=aB.app _ _;generalize H++[.lst (nO.map .str)]=bj at hw kw;show W.set (Î:=bj) N ?_;unfold gu;generalize hm:aw.fdiv 6=fA;show W.if_ (FW (fw N N) (bN N N N)) (λhc=>?_) λhc=>W.nil ?_
  ·rw[if_pos hc]
   obtain ⟨n,hn,lU⟩:=fm (b:=11) (by decide);have cE:n<nO.length:=by show n<11;show jT (y1 0x1cb8011bb80 rfl lU)
   have hx:(nO.map V.str)[(n:Int).toNat]?=À (.str nO[n]):=by rw[ĵ,į,ē cE];rfl
   have he:ab (aG P d) (.bin .Mod (.bin .Add (.var 4) (.var 1)) (.cst (.int 11))) (cP (cP (cP (bI [.int aw,.int i]) 2 (.str sg)) 3 (.ref H.length)) 4 (.int fA)) bj=À (.int n,bj):=by rw[<-hn];rfl
   show W.retE (bx H.length n _ _ N he hw (by show y1 0xc00810b008 N (iP _)) hx) ⟨_,N,by rw[hn,ĵ,ē cE];rfl,kw⟩
  ·rw[if_neg hc]
   show W.set rfl (W.set (Î:=bj) rfl ?_);obtain ⟨n,hn,lU⟩:=fm (b:=7) (by decide)
   show W.loop (xs:=cp 0 (1+n:Nat) 1) (eD (by show À (V.int (1+fA.fmod 7),bj)=_;rw[hn];rfl) (by show jL (y2 0xc0000000000003b9aca00d111b78012ba0181 N lU (iA _ _))))
    (λj U ae=>U=bG [À (.int aw),À (.int i),À (.str sg),Ã,À (.int fA),À (.str (ti fA j).1),À (.int (ti fA j).2)]/\ae=bj/\j<=7)
    (a:=bG [À (.int aw),À (.int i),À (.str sg),Ã,À (.int fA),À (.str ("":Str)),À (.int (fA.fdiv 7))]) (ay ⟨N,N,N,N,N,N,trivial⟩) ⟨N,N,Ĥ _⟩ (λz z z z=>bw _) ?_ ?_
   ·rintro j x _ ae hx ⟨rfl,e0,hj⟩
    subst e0;obtain ⟨cE,rfl⟩:=gW hx;show⟨_,rfl,?_⟩;have hl:=uQ fA j;show W.set (Î:=ae) rfl (W.set (Î:=ae) (eL (aI rfl) (gS rfl rfl) (by show _+1<=_;show jL (y4 0xc0313b00000000000001000000d010b78112b1212ba1823 rfl (iE hsz) (iL hj) (iE hl) (iA _ _)))) (W.nil ⟨rfl,bG [À (.int aw),À (.int i),À (.str sg),Ã,À (.int fA),À (.str (ti fA (j+1)).1),À (.int (ti fA (j+1)).2)],ay ⟨rfl,rfl,rfl,rfl,rfl,rfl,trivial⟩,rfl,rfl,by show jL (y4 0xc78311b78011b2112ba181312ba0182 rfl lU (iT cE) (iA _ _) (iA _ _))⟩))
   ·rintro _ ae ⟨rfl,e0,hj⟩
    subst e0;rw[gZ]at hj ⊢;rw[show (fA.fmod 7).toNat=n by rw[hn];rfl];have hx:=uQ fA (1+n);generalize (ti fA (1+n)).1=x at hx;generalize (ti fA (1+n)).2=Jl;have V1:0<1+n:=by show jT (y2 0x1c10810b00813ba0181 N (iP _) (iA _ _))
    generalize 1+n=w at hx hj V1;subst hx;have hx7:x.length<=7:=hj;have OQ:0<(x.length:Int):=by show y1 0x1c00811b008 N (iT V1)
    obtain ⟨sp,XA,OI⟩:=fm OQ;rw[XA];show W.set (v:=.int sp) (by rw[<-XA];show aP (aP rfl rfl (FK (by decide) (by decide))) (CQ (aI rfl) (by show jL (y2 0xc0113b00000000000001000000d010b781 rfl (iE hsz) (iL hj)))) (dH (by show λq0=>zI (y1 0x1c080811b00812b080 rfl (iT V1) q0)))) ?_
    -- the names of fA than four
    show W.if_ (bN N N N) (λhc=>?_) λh3=>W.nil ?_
    ·rw[if_pos hc]
     have Ro:0<=min (sp:Int) 6/\min (sp:Int) 6<4611686018427387904:=by show(acP _ _).elim (λd0=>⟨y2 0xc10810b00813b01 N (iP _) (acy d0),y1 0x1c00004000000000000000d010b680 N (acq _ _)⟩) λd0=>⟨y1 0xc00813b680 N (acp d0),y1 0x1c00004000000000000000d010b680 N (acq _ _)⟩
     show W.set (Î:=ae) (eL (gS N N) (gS N N) (by show 1+1<=_;show jL (y2 0xc0113b00000000000001000000d012ba18181 N (iE hsz) (iA _ _)))) ?_;have l3:=p7 x 0 (min x.length (min (sp:Int) 6).toNat);have l4:=p7 x (min (sp:Int) 6).toNat (min x.length 6);show W.retE (eL (eL (jw (aI N) N N N (mR Ro) (by show jL (y1 0xc03e89010b780 N (iL hj)))) (aI N) ?_) (jw (aI N) N N (qU Ro) (mR (by decide)) (by show jL (y1 0xc03e89010b780 N (iL hj)))) ?_) ⟨_,N,N,kw⟩
     ·rw[ac1];show _+(1+1)<=_;show jL (y5 0xc0413b00000000000001000000d010b78110b1212ba1818312ba324 N (iE hsz) (iL hj) (iL l3) (iA _ _) (iA _ _))
     ·rw[ac1,ac1];show _+(1+1)+_<=_;show z' (Ϗ (ϣ l3 _) l4) (by show jL (y5 0xc0413b00000000000001000000d020b78112ba1818212ba21312ba134 N (iE hsz) (iL hj) (iA _ _) (iA _ _) (iA _ _)))
    ·rw[if_neg h3]
     show W.if_ (bN N N N) (λhc=>?_) λhc=>W.nil ?_
     ·rw[if_pos hc]
      show W.retE (eL (gS N N) (aI N) (by show 1+_<=_;show jL (y3 0xc0213b00000000000001000000d010b78112ba1182 N (iE hsz) (iL hj) (iA _ _)))) ⟨_,N,N,kw⟩
     ·rw[if_neg hc]
      show W.if_ (fw N N) (λhc=>?_) λhc=>W.nil ?_
      ·rw[if_pos hc]
       have OJ:0<=(sp:Int)/\(sp:Int)<4611686018427387904:=by show⟨y1 0xc00810b008 N (iP _),y2 0x1c00004000000000000000d110b78011b01 N (iL hj) OI⟩
       have VV:0<=(sp:Int)+1/\(sp:Int)+1<4611686018427387904:=by show⟨y1 0xca1800810b008 N OJ.1,y2 0x1c00004000000000000000da18110b78011b01 N (iL hj) OI⟩
       show W.set (Î:=ae) (gS N (aP (aP (JN (aI N) (qt (aI N) (aI N) (by show y1 0xc00810b008 N OJ.1) (by show y2 0x1c1011b10 N OI) (by show jL (y1 0xc03e89010b780 N (iL hj))))) N N) N (dH (by decide)))) ?_;have l3:=p7 x 0 (min x.length (sp:Int).toNat);have l4:=p7 x ((sp:Int)+1).toNat x.length;show W.retE (eL (eL (jw (aI N) N N N (mR OJ) (by show jL (y1 0xc03e89010b780 N (iL hj)))) (aI N) ?_) (jw (aI N) N N (qU VV) N (by show jL (y1 0xc03e89010b780 N (iL hj)))) ?_) ⟨_,N,N,kw⟩
       ·show _+1<=_;show jL (y4 0xc0313b00000000000001000000d010b78110b1212ba1823 N (iE hsz) (iL hj) (iL l3) (iA _ _))
       ·rw[ac1];show _+1+_<=_;show z' (Ϗ (ϣ l3 _) l4) (by show jL (y4 0xc0313b00000000000001000000d020b78112ba181212ba123 N (iE hsz) (iL hj) (iA _ _) (iA _ _)))
      ·rw[if_neg hc]
       have Zr:i<4:=Ϩ (Ţ.mp (Ŕ.mp h3));obtain ⟨hs,s4⟩:=Il Zr;show W.retE (eL (aI rfl) (bx ae.length i _ _ (cg (aA rfl (aA rfl (aA (gS rfl rfl) (ak (gS rfl rfl))))) (by show 4<=al;show jL (y1 0xc04813b00000000000001000000d0 rfl (iE hsz)))) (aI rfl) (aE _ _) (Ě i) hs) (by show jL (y4 0xc0313b00000000000001000000d010b78110b18212ba213 rfl (iE hsz) (iL hj) (iL s4) (iA _ _)))) ⟨_,rfl,rfl,kw.trans (aB.app _ _)⟩)
 show⟨ae,h,h1⟩
structure ax where
 d:Nat
 ns:List (Str×Int)
noncomputable def tv(p:Str×Int):V:=.tup [.str p.1,.int p.2]
def ax.v(x:ax):V:=.tup [.int x.d,.tup (x.ns.map tv)]
def ax.ok(x:ax):Prop:=1<=x.d/\x.d<=7/\x.ns.length<=20
theorem CY(l:List Int):∀a:Int,l.foldl (·+·) a=a+l.foldl (·+·) 0:=by
 induction l with
 |nil=>intro a;simp
 |cons x l ih=>intro a;rw[ϑ,ϑ,ih (a+x),ih (0+x)];show ņ (y3 0xcaa2a1080a2a10 N) (y3 0xca2a10aa2a1080 N)
theorem aY(x:Int)(l:List Int):be (x::l)=x+be l:=by unfold be;rw[ϑ,CY];show ņ (y2 0xca10a1a008 N) (y2 0xca1a008a10 N)
section
variable{Á:az}{aD:ff}{U:aL}{H Î Ý bH:ag}{Q:cm->aL->ag->Prop}
theorem io{a b:CE}{p q:Bool}(ha:ab Á a U H=À (.bool p,H))(hb:ab Á b U H=À (.bool q,H)):ab Á (.and a b) U H=À (.bool (p&&q),H):=by
 cases p with
 |true=>show t7 ha hb
 |false=>show t8 ha
end
def gx(ns:List (Str×Int))(O:Str):Int:=be ((ns.filter λp=>p.1==O).map (·.2))
def wE(ds:List ax)(O:Str)(t:Nat):Int:=be ((ds.filter λx=>decide (t<x.d)).map λx=>gx x.ns O)
def fT(bs:List aU)(O:Str)(t:Nat):Int:=be ((bs.filter λb=>b.n==O&&decide ((t:Int)<b.l)).map aU.a)
def Yg(aw:Int)(ns:List (Str×Int)):Prop:=∀p∈ns,∃k,k<12/\p.1=gu aw k
def ax.okN(aw:Int)(x:ax):Prop:=x.ok/\Yg aw x.ns
theorem Hi{P:List bo}{d iN:Nat}{H:ag}{U:aL}{q m:Nat}{aw c:Int}{i0 i1:Nat}(hN:P[iN]?=À iR)(qO:1<=m)(hm:m<=12)(hq:H[q]?=À (.lst [.int aw,.int m]))(g1:U i1=À (.ref q))(g5:U i0=À (.int c)):
  ∃O ae,ab (aG P (d+1)) (.call iN (.cons (.idx (.var i1) (.cst (.int 0))) (.cons (.bin .Mod (.bin .Mod (.var i0) (.cst (.int 60))) (.idx (.var i1) (.cst (.int 1)))) .nil))) U H=À (.str O,ae)/\aB H ae/\∃k,k<12/\O=gu aw k:=by
 obtain ⟨k,hk,kZ⟩:=fm (b:=m) (by show y1 0x1c00810b018 rfl (iL qO));obtain ⟨ae,h,h1⟩:=l7 hN aw k (by show jT (y2 0x1c00649110bc8011b01 rfl (iL hm) kZ));show⟨_,ae,af (aA (bx q 0 _ _ (aI g1) rfl hq (by decide) rfl) (ak ?_)) h,h1,k,by show jT (y2 0x1cc8110bc8011b01 rfl (iL hm) kZ),rfl⟩;rw[<-hk];show aP (aP (aI g5) rfl (dH (by decide))) (bx q 1 _ _ (aI g1) rfl hq (by decide) rfl) (dH (by show λq0=>zI (y1 0x1c080810b01812b080 rfl (iL qO) q0)))
section
variable{Á:az}{aD:ff}{U:aL}{H Î:ag}{Q:cm->aL->ag->Prop}
theorem W.setStr{o i v:CE}(r:Nat)(k:Str)(l:List (Str×V))(x:V)(hv:ab Á v U H=À (x,H))(ho:ab Á o U H=À (.ref r,H))(hi:ab Á i U H=À (.str k,H))(hr:H[r]?=À (.ds l))(hz:l.length<=al)
  (c:W Á aD U (H.set r (.ds (eT l k x))) Q):W Á (.cons (.setItem o i v) aD) U H Q:=W.setV hv ho hi (dw N (dw hr (if_pos hz))) c
end
def As(l:List Str):List (Str×V):=l.foldl (λacc n=>eT acc n (.bool Æ)) []
theorem yf(l:List Str)(n:Str):As (l++[n])=eT (As l) n (.bool Æ):=by unfold As;rw[acY];rfl
theorem sQ{v:V}{k:Str}:∀(l:List (Str×V)),(l.map (·.1)).Nodup->((eT l k v).map (·.1)).Nodup/\∀x∈(eT l k v).map (·.1),x=k\/x∈l.map (·.1)
 |[],_=>by show ([k]:List Str).Nodup/\∀x∈([k]:List Str),_;show⟨Ϥ.mpr ⟨(λh=>nomatch h),ad3⟩,λx hx=>.inl (O'.mp hx)⟩
 |(a,b)::r,h=>by
  obtain ⟨h1,h2⟩:=Ϥ.mp (show (a::r.map (·.1)).Nodup from h);obtain ⟨h3,h4⟩:=sQ r h2;show ((if a=k then (a,v)::r else (a,b)::eT r k v).map (·.1)).Nodup/\∀x∈(if a=k then (a,v)::r else (a,b)::eT r k v).map (·.1),_;by_cases hk:a=k
  ·rw[if_pos hk]
   show⟨h,λx hx=>.inr hx⟩
  ·rw[if_neg hk]
   show⟨Ϥ.mpr ⟨λhm=>?_,h3⟩,λx hx=>?_⟩
   ·rcases h4 a hm with e|e
    ·show hk e
    ·show h1 e
   ·rcases Ĉ.mp hx with e|e
    ·show .inr (Ĉ.mpr (.inl e))
    ·rcases h4 x e with e|e
     ·show .inl e
     ·show .inr (J' _ e)
theorem ye:∀(l acc:List Str),((As acc).map (·.1)).Nodup/\(∀x∈(As acc).map (·.1),x∈acc)->((As (acc++l)).map (·.1)).Nodup/\∀x∈(As (acc++l)).map (·.1),x∈acc++l
 |[],acc,h=>by rw[Ĵ];show h
 |n::l,acc,h=>by
  have:=ye l (acc++[n]) (by
   obtain ⟨h1,h2⟩:=sQ (As acc) h.1;rw[yf];show⟨h1,λx hx=>?_⟩;rcases h2 x hx with e|e
   ·rw[e];show ŧ _ G'
   ·show Ź _ (h.2 x e))
  rwa [ÿ]at this
theorem xg{α:Type}[DecidableEq α]:∀(l m:List α),l.Nodup->(∀x∈l,x∈m)->l.length<=m.length
 |[],_,_,_=>Ĥ _
 |x::l,m,h,hm=>by obtain ⟨h1,h2⟩:=Ϥ.mp h;have hx:=hm x G';have ih:=xg l (m.erase x) h2 λy hy=>(List.mem_erase_of_ne (λe=>h1 (by rw[<-e];show hy))).mpr (hm y (J' _ hy));have wP:=List.length_pos_of_mem hx;rw[List.length_erase_of_mem hx]at ih;rw[ϧ];show jL (y4 0xc3210b1012ba180212be1831 rfl (iL ih) (iA _ _) (ϵ (jL (y1 0xc01811b008 rfl (iT wP)))))
def NL(aw:Int)(l:List Str):Prop:=∀n∈l,∃k,k<12/\n=gu aw k
theorem kQ{aw:Int}{l:List Str}(h:NL aw l):(As l).length<=12:=by
 obtain ⟨h1,h2⟩:=ye l [] ⟨ad3,λx hx=>nomatch hx⟩;rw[afl]at h1 h2
 have:=xg _ ((ċ 12).map (gu aw)) h1 λx hx=>by obtain ⟨k,hk,e⟩:=h x (h2 x hx);show ś.mpr ⟨k,Ũ.mpr hk,e.symm⟩
 rwa [H',H',Ś]at this
noncomputable def pv(ds:List ax):List Str:=ds.flatMap λx=>x.ns.map (·.1)
theorem sA(l:List ax)(x:ax):pv (l++[x])=pv l++x.ns.map (·.1):=by unfold pv;rw[aeK];simp
theorem mD{aw:Int}{ds:List ax}(h:∀x∈ds,x.okN aw):NL aw (pv ds):=λn hn=>by obtain ⟨x,hx,hp⟩:=adQ.mp hn;obtain ⟨p,VL,rfl⟩:=ś.mp hp;show(h x hx).2 p VL
theorem oJ(l:List Str):(jQ l).length=l.length:=by
 unfold jQ;by_cases h:∃m:List Str,m.Perm l/\nY m
 ·rw[dif_pos h];show(adI h).1.length_eq
 ·rw[dif_neg h]
theorem pe{H:ag}{r:Nat}{l:List (Str×V)}(hr:H[r]?=À (.ds l))(hz:l.length<=12):gk .sorted [.ref r] H=À (.ref H.length,H++[.lst ((jQ (l.map (·.1))).map .str)]):=by show (Ϝ (Ϝ H[r]? NW) λl=>if l.length<64 then rV H ((jQ (l.map (·.1))).map .str) else Ã)=_;rw[hr];show (if l.length<64 then rV H ((jQ (l.map (·.1))).map .str) else Ã)=_;rw[if_pos (by show jT (y1 0x1c00409010bc80 N (iL hz)))];show if_pos (by rw[H',oJ,H'];unfold al;show jL (y1 0xc00000000000001000000d010bc80 N (iL hz)))
def kJ(Á:az)(aD:ff)(H:ag)(Q:cm->aL->ag->Prop)(U:aL)(t:jS)(kx:CE)(aw:Int)(r:Nat)(ds:List ax):Prop:=∀(uq:∀x∈ds,x.okN aw) (g0:U 0=À (.tup (ds.map ax.v))) (g1:U 1=À (.ref r)) (hr:H[r]?=À (.ds [])) (ht:∀(p:Str×Int) (U:aL),U 1=À (.ref r)->∃aR,t.put (tv p) U=À aR/\aR 1=À (.ref r)/\∀H,ab Á kx aR H=À (.str p.1,H)) (k:∀ae,(∀i m,i≠r->H[i]?=À m->ae[i]?=À m)->ae[r]?=À (.ds (As (pv ds)))->W Á aD (bG [Ã,À (.ref r)]) ae Q),W Á (.cons (.for_ (.one 2) (.ex (.var 0)) (.cons (.for_ t (.ex (.idx (.var 2) (.cst (.int 1)))) (.cons (.setItem (.var 1) kx (.cst (.bool Æ))) .nil)) .nil)) aD) U H Q
namespace gather_WH
def kc:=hc (TZ kJ) (λz z z=>Ã,.nil,[],λz z z=>True,λz=>Ã,.one 0,.dict0,0,0,[])
def Á:=kc.1
def aD:=kc.2.1
def H:=kc.2.2.1
def Q:=kc.2.2.2.1
def U:=kc.2.2.2.2.1
def t:=kc.2.2.2.2.2.1
def kx:=kc.2.2.2.2.2.2.1
def aw:=kc.2.2.2.2.2.2.2.1
def r:=kc.2.2.2.2.2.2.2.2.1
def ds:=kc.2.2.2.2.2.2.2.2.2
theorem kt:kJ Á aD H Q U t kx aw r ds:=by
 intro uq g0 g1 hr ht k;have hsz:al=16777216:=rfl;have J4:=mD uq
 show W.loop (cH (aI g0))
  (λj U ae=>U=bG [Ã,À (.ref r)]/\(∀i m,i≠r->H[i]?=À m->ae[i]?=À m)/\ae[r]?=À (.ds (As (pv (ds.take j)))))
  (a:=bG [Ã,À (.ref r)]) (ay ⟨g1,trivial⟩) ⟨N,λz z z h=>h,by rw[ad6];show hr⟩ (λz z z z=>bw _) ?_ ?_
 ·rintro j x _ bj OQ ⟨rfl,hK,hD⟩
  obtain ⟨x,hx,rfl⟩:=l5 OQ;show⟨_,rfl,?_⟩
  have OC:NL aw (pv (ds.take j)++x.ns.map (·.1)):=by rw[<-sA,<-bC hx];show mD λy hy=>uq y (ŭ hy)
  show W.loop (cH (bg 1 _ _ (aI N) N (by decide) N))
   (λi U ae=>U=bG [Ã,À (.ref r)]/\(∀i m,i≠r->H[i]?=À m->ae[i]?=À m)/\ae[r]?=À (.ds (As (pv (ds.take j)++(x.ns.take i).map (·.1)))))
   (a:=bG [Ã,À (.ref r)]) (ay ⟨N,trivial⟩) ⟨N,hK,by rw[ad6,List.map_nil,Ĵ];show hD⟩ (λz z z z=>bw _) ?_ ?_
  ·rintro i y _ cS hy ⟨rfl,hK2,QZ⟩
   obtain ⟨p,hp,rfl⟩:=l5 hy;obtain ⟨aR,Gz,WY,EK⟩:=ht p (bG [Ã,À (.ref r)]) rfl;show⟨aR,Gz,?_⟩
   have ON:NL aw (pv (ds.take j)++(x.ns.take i).map (·.1)):=λn hn=>by
    rcases Ģ.mp hn with h|h
    ·show OC n (Ź _ h)
    ·obtain ⟨p,hp,rfl⟩:=ś.mp h
     show OC _ (ŧ _ (ś.mpr ⟨p,ŭ hp,N⟩))
   have Dc:=kQ ON;show W.setStr r p.1 _ (.bool Æ) N (aI WY) (EK _) QZ (by show jL (y2 0xc0113b00000000000001000000d010bc81 N (iE hsz) (iL Dc))) (W.nil ⟨N,bG [Ã,À (.ref r)],ay ⟨WY,trivial⟩,N,λi m hi e=>?_,?_⟩)
   ·rw[acd (Ne.symm hi)];show hK2 i m hi e
   ·rw[eG QZ,bC hp,Ŗ,<-ÿ,<-yf];rfl
  ·rintro _ cS ⟨rfl,hK2,QZ⟩
   rw[H',ŋ]at QZ;show W.nil ⟨N,bG [Ã,À (.ref r)],ay ⟨N,trivial⟩,N,hK2,by rw[QZ,bC hx,sA]⟩
 ·rintro _ bj ⟨rfl,hK,hD⟩
  rw[H',ŋ]at hD;show k bj hK hD
end gather_WH
theorem wG{Á:az}{aD:ff}{Q:cm->aL->ag->Prop}{t:jS}{kx:CE}{ds:List ax}:kJ Á aD H Q U t kx aw r ds:=hk (P:=TZ kJ) gather_WH.kt (Á,aD,H,Q,U,t,kx,aw,r,ds)
theorem uI{H ae:ag}{m:bp}(h:∀i m',i≠H.length->(H++[m])[i]?=À m'->ae[i]?=À m'):aB H ae:=λi o e=>h i o (ŉ (Ġ.mp e).1) (aB.app _ _ _ _ e)
structure Pk where
 n:Str
 a:Int
 p:Int
 l:Int
noncomputable def Pk.v(b:Pk):V:=.tup [.str b.n,.int b.a,.int b.p,.int b.l]
noncomputable def Hv(x:Int):Int:=if x.fmod 9=0 then (x.fdiv 9).fmod 1000001 else if x.fmod 9=1 then 0 else (x.fdiv 9).fmod 30
theorem Hw{P:List bo}{k d:Nat}{H:ag}(hk:P[k]?=À oV)(x:Int):aG P (d+1) k [.int x] H=À (.ok (.int (Hv x)),H):=by
 show gQ hk N (W.if_ (fw N N) (λhc=>?_) λhc=>W.nil ?_)
 ·show W.retE N ⟨_,N,by rw[Hv,if_pos hc],N⟩
 ·show W.if_ (fw N N) (λGl=>?_) λGl=>W.nil ?_
  ·show W.retE N ⟨_,N,by rw[Hv,if_neg hc,if_pos Gl],N⟩
  ·show W.retE N ⟨_,N,by rw[Hv,if_neg hc,if_neg Gl],N⟩
def X0(x:Pk×Int):V:=.tup [x.1.v,.int x.2]
theorem Hu:∀(ps:List Pk) (cs:List Int),bz (ps.map Pk.v) (cs.map .int)=(ps.zip cs).map X0
 |[],_=>rfl
 |_::_,[]=>rfl
 |p::ps,c::cs=>congrArg (V.tup [p.v,.int c]::·) (Hu ps cs)
theorem Pt{Á:az}{a b:CE}{U:aL}{H:ag}{ps:List Pk}{cs:List Int}(ha:ab Á a U H=À (.tup (ps.map Pk.v),H))(hb:ab Á b U H=À (.tup (cs.map .int),H)):cB Á (.zip a b) U H=À ((ps.zip cs).map X0,[(H.length,.own)],H++[.own]):=by rw[<-Hu];show Ia ha hb
theorem Dr{H:ag}{l:List V}(hz:l.length<=al):gk .list [.tup l] H=À (.ref H.length,H++[.lst l]):=if_pos hz
noncomputable def GW(bs:List aU)(i:Nat):Int:=((bs[i]?).map aU.l).getD 0
noncomputable def cq(lf:List Int)(i:Nat):Int:=(lf[i]?).getD 0
def JI(bs:List aU)(lf:List Int)(O:Str)(dy:Int)(i:Nat):Bool:=match bs[i]? with
 |some b=>b.n==O&&(decide (dy<=b.l)&&decide (0<cq lf i))
 |none=>Ê
def Bf(bs:List aU)(i j:Nat):Prop:=GW bs i<GW bs j\/(GW bs i=GW bs j/\i<j)
theorem Bf.asym{bs:List aU}{i j:Nat}(h:Bf bs i j):¬ Bf bs j i:=λk=>h.elim (λa=>k.elim (λb=>adf _ (ac8 a b)) λb=>afG a b.1.symm) λa=>k.elim (λb=>afG b a.1.symm) λb=>ţ _ (Ϟ a.2 b.2)
def Do(bs:List aU)(i:Nat):KP:=([GW bs i,(i:Int)],(i:Int))
def P5(bs:List aU)(l:List Nat):List Nat:=(fo (l.map (Do bs))).map λp=>p.2.toNat
theorem BW(bs:List aU)(l:List Nat):fo (l.map (Do bs))=(P5 bs l).map (Do bs):=by
 unfold P5;rw[Ū]
 conv=>lhs;rw[<-afL (fo (l.map (Do bs)))]
 show ϔ λp hp=>aF (ś.mp ((fD _).mem_iff.mp hp)) λi z q3=>?_;apply fv q3;rfl
theorem rO(bs:List aU)(l:List Nat):(P5 bs l).Perm l:=by
 have h:=(fD (l.map (Do bs))).map λp=>p.2.toNat;rw[Ū]at h
 have e:((λp:KP=>p.2.toNat) ∘ Do bs)=id:=by
  funext i;show ĵ i
 rw[e,afL]at h;show h
theorem RS{bs:List aU}{i j:Nat}(h:Bf bs i j):lc (Do bs i) (Do bs j)=Æ:=by show abY.mpr (.inl (abY.mpr (h.imp (λa=>decide_eq_true a) λa=>Ľ.mpr ⟨beq_iff_eq.mpr a.1,abY.mpr (.inl (decide_eq_true (Ů.mpr a.2)))⟩)))
theorem RR{bs:List aU}{i j:Nat}(h:nV (Do bs i) (Do bs j))(eJ:i≠j):Bf bs i j:=by
 have n:¬ Bf bs j i:=λk=>Ķ (h.symm.trans (RS k));rcases aeb (GW bs i) (GW bs j) with q|q|q
 ·show .inl q
 ·show .inr ⟨q,(Nat.lt_or_gt_of_ne eJ).elim id λz=>absurd (.inr ⟨q.symm,z⟩) n⟩
 ·show absurd (.inl q) n
theorem Pw{bs:List aU}{l:List Nat}(hn:l.Nodup):(P5 bs l).Pairwise (Bf bs):=by have h1:=jD (l.map (Do bs));rw[BW,aee]at h1;have h2:(P5 bs l).Pairwise (·≠·):=(rO bs l).nodup_iff.mpr hn;show(h1.and h2).imp λ⟨a,b⟩=>RR a b
def JJ(bs:List aU)(lf:List Int)(O:Str)(dy:Int):List Nat:=(ċ bs.length).filter (JI bs lf O dy)
def bE(bs:List aU)(lf:List Int)(O:Str)(dy:Int):List Nat:=P5 bs (JJ bs lf O dy)
theorem qr{bs:List aU}{lf:List Int}{O:Str}{dy:Int}{i:Nat}(h:JI bs lf O dy i=Æ):i<bs.length:=by
 unfold JI at h;cases e:bs[i]? with
 |none=>rw[e]at h;cases h
 |some b=>show(Ġ.mp e).1
theorem j5{bs:List aU}{lf:List Int}{O:Str}{dy:Int}{i:Nat}:i∈bE bs lf O dy↔JI bs lf O dy i=Æ:=by rw[bE,(rO _ _).mem_iff,JJ,ŝ,Ũ];show⟨λh=>h.2,λh=>⟨qr h,h⟩⟩
theorem L9(bs:List aU)(lf:List Int)(O:Str)(dy:Int):(bE bs lf O dy).Pairwise (Bf bs):=Pw (adR.filter _)
theorem N3(bs:List aU)(lf:List Int)(O:Str)(dy:Int):(bE bs lf O dy).length<=bs.length:=by rw[bE,(rO _ _).length_eq,JJ];show z' (ϻ _ _) (by rw[Ś];show Đ _)
theorem pR{lf:List Int}{i j:Nat}{x:Int}(h:i<lf.length):cq (lf.set i x) j=if i=j then x else cq lf j:=by
 unfold cq;rw[List.getElem?_set];by_cases zx:i=j
 ·apply fv zx;rw[if_pos N,if_pos h,if_pos N];rfl
 ·rw[if_neg zx,if_neg zx]
structure Tk where
 ps:List (Nat×Int)
 lf:List Int
 am:Int
def nU(t:Tk)(i:Nat):Int:=min t.am (cq t.lf i)
def rP(t:Tk)(i:Nat):Tk:=if 0<t.am then ⟨t.ps++[(i,nU t i)],t.lf.set i (cq t.lf i-nU t i),t.am-nU t i⟩ else t
theorem nE:∀(l:List Nat) (t:Tk),¬ 0<t.am->l.foldl rP t=t
 |[],t,_=>rfl
 |i::l,t,h=>by rw[ϑ,show rP t i=t from if_neg h];show nE l t h
theorem BY(t:Tk)(i:Nat):(rP t i).lf.length=t.lf.length:=by
 unfold rP;split
 ·show acl
 ·rfl
theorem nF:∀(l:List Nat) (t:Tk),(l.foldl rP t).lf.length=t.lf.length
 |[],t=>rfl
 |i::l,t=>by rw[ϑ,nF l,BY]
def pE(bs:List aU)(lf:List Int)(O:Str)(am dy:Int):Tk:=(bE bs lf O dy).foldl rP ⟨[],lf,am⟩
noncomputable def cu{α β:Type}(f:α->β->Except Str α):α->List β->Except Str α
 |a,[]=>.ok a
 |a,x::r=>match f a x with
  |.ok b=>cu f b r
  |.error e=>.error e
theorem og{α β:Type}{f:α->β->Except Str α}:∀(l m:List β) (a:α),cu f a (l++m)=match cu f a l with|.ok b=>cu f b m|.error e=>.error e
 |[],m,a=>rfl
 |x::l,m,a=>by
  show (match f a x with|.ok b=>cu f b (l++m)|.error e=>.error e)=match (match f a x with|.ok b=>cu f b l|.error e=>.error e) with|.ok b=>cu f b m|.error e=>.error e
  cases f a x with
  |error e=>rfl
  |ok b=>show og l m b
theorem lS{α β:Type}{f:α->β->Except Str α}{l:List β}{a b:α}{x:β}(h:cu f a l=.ok b):cu f a (l++[x])=f b x:=by rw[og,h];show (match f b x with|.ok b=>afN b|.error e=>.error e)=f b x;cases f b x<;>rfl
theorem sV{α β:Type}{f:α->β->Except Str α}{l:List β}{k:Nat}{a b:α}{x:β}{e:Str}(h:cu f a (l.take k)=.ok b)(hx:l[k]?=À x)(he:f b x=.error e):cu f a l=.error e:=by
 have h1:cu f a (l.take (k+1))=.error e:=by rw[bC hx,lS h,he]
 rw[<-Ť (k+1) l,og,h1]
def vA(bs:List aU)(dy:Int)(st:List Int×List (Nat×Int))(p:Str×Int):Except Str (List Int×List (Nat×Int)):=
 if 0<(pE bs st.1 p.1 p.2 dy).am then .error p.1 else .ok ((pE bs st.1 p.1 p.2 dy).lf,st.2++(pE bs st.1 p.1 p.2 dy).ps)
noncomputable abbrev EP:=List Int×List (List (Nat×Int))
def lu(bs:List aU)(ds:List ax)(st:EP)(k:Nat):Except Str EP:=match ds[k]? with
 |none=>.ok st
 |some x=>match cu (vA bs x.d) (st.1,[]) x.ns with
  |.ok p=>.ok (p.1,st.2.set k p.2)
  |.error e=>.error e
noncomputable def qp(ds:List ax)(k:Nat):Nat:=((ds[k]?).map ax.d).getD 0
def jW(ds:List ax):List Nat:=(ċ 7).flatMap λt=>(ċ ds.length).filter λk=>qp ds k==t+1
noncomputable def SM(bs:List aU)(ds:List ax):EP:=(bs.map aU.a,Ő ds.length [])
def lq(bs:List aU)(ds:List ax):Except Str EP:=cu (lu bs ds) (SM bs ds) (jW ds)
def P3(ds:List ax)(i:Nat):KP:=([(qp ds i:Int)],(i:Int))
theorem uW{ds:List ax}(hd:∀x∈ds,x.ok){k:Nat}:k∈jW ds↔k<ds.length:=by
 unfold jW;rw[adQ];show⟨λ⟨t,_,h⟩=>Ũ.mp (ŝ.mp h).1,λh=>?_⟩;have hx:=hd _ (ź h);have e:qp ds k=ds[k].d:=by unfold qp;rw[ē h];rfl
 show gH hx λh1 h2 z=>⟨ds[k].d-1,Ũ.mpr (by show jT (y2 0x1c78110b78012be1801 N (iL h2) (ϵ (jL (y1 0xc01810b018 N (iL h1)))))),ŝ.mpr ⟨Ũ.mpr h,?_⟩⟩;rw[e,beq_iff_eq];show(acR h1).symm
theorem Ab(ds:List ax):(jW ds).Pairwise λi j=>qp ds i<qp ds j\/(qp ds i=qp ds j/\i<j):=by
 unfold jW;rw[List.pairwise_flatMap];show⟨λt z=>?_,?_⟩
 ·show((acU).filter _).imp_of_mem λ{i j} hi hj h=>.inr ⟨?_,h⟩
  have h1:=beq_iff_eq.mp (ŝ.mp hi).2;have h2:=beq_iff_eq.mp (ŝ.mp hj).2;show ť (z' (ŕ h1) (ŕ h2.symm)) (z' (ŕ h2) (ŕ h1.symm))
 ·show(acU).imp λ{t u} ZZ i hi j hj=>.inl ?_
  have h1:=beq_iff_eq.mp (ŝ.mp hi).2;have h2:=beq_iff_eq.mp (ŝ.mp hj).2;show jT (y6 0x1c4211b1012b3213b5412ba180313ba1815 N (iT ZZ) (iE h1) (iE h2) (iA _ _) (iA _ _))
theorem Hr{ds:List ax}(hd:∀x∈ds,x.ok):fo ((ċ ds.length).map (P3 ds))=(jW ds).map (P3 ds):=by
 show(xO ?_ ?_).symm
 ·show List.Perm.map _ ((ad9 ((Ab ds).imp λh q=>by subst q;show h.elim (λd0=>zI (y1 0x1c080811b00 N (iT d0))) λd0=>zI (y1 0x1c080811b00 N (iT d0.2))) adR).mpr λk=>(uW hd).trans Ũ.symm)
 ·rw[aee]
  show(Ab ds).imp λ{i j} h=>?_;unfold nV lc P3
  simp only[ch,ael,Bool.not_true,adC,adg,acC,decide_eq_false_iff_not,adJ,adn,decide_eq_true_eq]
  show h.elim (λd0=>⟨Ŕ.mpr (y2 0xc1011b10 N (iT d0)),.inl (y2 0x1c1011b10 N (iT d0))⟩) λd0=>⟨Ŕ.mpr (y2 0xc1012b10 N (iE d0.1)),.inr (Ŕ.mpr (y2 0xc1011b10 N (iT d0.2)))⟩
section
variable{Á:az}{aD:ff}{U aR:aL}{H Î Ý bH:ag}{Q:cm->aL->ag->Prop}
theorem mO{f:Nat}{as:gb}{vs:List V}{c:Nat}{w:Str}(h:bO Á as U H=À (vs,Î))(hc:Á f vs Î=À (.exc c w,Ý)):ab Á (.call f as) U H=Ã/\dD Á (.call f as) U H=À (c,w,Ý):=⟨bL h (bL hc N),(show bT (bO Á as U H) (λvs Î=>bT (Á f vs Î) λr Ý=>JQ Ý r)=_ from bL h (bL hc N))⟩
theorem W.raise{e:CE}{c:Nat}{w:Str}(h:ab Á e U H=À (.str w,Î))(k:Q (.exc c w) U Î):W Á (.cons (.raise_ c e) aD) U H Q:=
 W.out (fl:=.exc c w) (λq=>nomatch q) (λr hl=>by rw[wm,aJ e hl h];rfl) k
theorem W.extend{o e:CE}(r q:Nat)(l m:List V)(ho:ab Á o U H=À (.ref r,H))(hr:H[r]?=À (.lst l))(he:ab Á e U H=À (.ref q,Î))(Rw:pS Î (.ref r) (.ref q)=À (.none,Î.set r (.lst (l++m))))
  (k:W Á aD U (Î.set r (.lst (l++m))) Q):W Á (.cons (.expr (.meth .extend o (.cons e .nil))) aD) U H Q:=W.expr (A1 (.inr N) ho hr he Rw) k
theorem W.extX{o:CE}{f:Nat}{as:gb}{vs:List V}{r:Nat}{l:List V}{c:Nat}{w:Str}(ho:ab Á o U H=À (.ref r,H))(hr:H[r]?=À (.lst l))(h:bO Á as U H=À (vs,Î))(hc:Á f vs Î=À (.exc c w,Ý))(k:Q (.exc c w) U Ý):
  W Á (.cons (.expr (.meth .extend o (.cons (.call f as) .nil))) aD) U H Q:=
 W.out (fl:=.exc c w) (λq=>nomatch q) (λaR hl=>by
  have X:=mO (db as hl h) hc
  have e1:ab Á (.meth .extend o (.cons (.call f as) .nil)) aR H=Ã:=by show bT (ab Á o aR H) (λx Î=>if rD .extend x Î then bT (bT (ab Á (.call f as) aR Î) λv Î=>bT (bO Á .nil aR Î) λvs Ý=>À (v::vs,Ý)) λvs Ý=>l6 .extend x vs Ý else Ã)=_;rw[aJ o hl ho];show (if rD .extend (.ref r) H then bT (bT (ab Á (.call f as) aR H) _) _ else Ã)=_;rw[if_pos (rE (.inr N) hr),X.1];rfl
  rw[t9];show pL (by rw[e1];rfl) ?_;show bT (ab Á o aR H) (λx Î=>if rD .extend x Î then lw Á (.cons (.call f as) .nil) aR Î else Ã)=_;rw[aJ o hl ho];show (if rD .extend (.ref r) H then lw Á (.cons (.call f as) .nil) aR H else Ã)=_;rw[if_pos (rE (.inr N) hr)];show R7 (dD Á (.call f as) aR H) _=_;rw[X.2];rfl) k
def RX(R:vH->ag->Prop)(fl:cm)(_:aL)(H:ag):Prop:=(∃v,fl=.ret v/\R (.ok v) H)\/∃c w,fl=.exc c w/\R (.exc c w) H
theorem yO{P:List bo}{d k:Nat}{f:bo}{as:List V}(hk:P[k]?=À f)(ha:as.length=f.arity){R:vH->ag->Prop}(h:W (aG P d) f.body (bI as) H (RX R)):∃r ae,aG P (d+1) k as H=À (r,ae)/\R r ae:=by
 show ED (h _ (Le.refl _)) λfl b aR ae z h1 h2=>?_;rcases h2 with ⟨v,rfl,h2⟩|⟨c,w,rfl,h2⟩
 ·show⟨_,ae,by rw[pN hk ha,h1];rfl,h2⟩
 ·show⟨_,ae,by rw[pN hk ha,h1];rfl,h2⟩
theorem wl{it:jo}{i:Nat}{k:KX}{xs:List V}{w:List (Nat×bp)}{r:Option (V×ag)}(h:cB Á it U H=À (xs,w,Î))(hs:BV it w=Æ)(hk:me k i U Î xs=r):ab Á (.sortK it i k) U H=r:=tR h ((if_pos hs).trans hk)
end
theorem tA:∀{l:List Nat} {a:Int},(∀i∈l,a<(i:Int))->l.Pairwise (· < ·)->gm a (l.map λi:Nat=>(i:Int))=Æ
 |[],_,_,_=>rfl
 |i::l,a,h1,h2=>by have h3:=Ō.mp h2;show (decide (a<(i:Int))&&gm (i:Int) (l.map λi:Nat=>(i:Int)))=Æ;rw[decide_eq_true (h1 i G'),adh];show tA (λj hj=>by have:=h3.1 j hj;(show Ů.mpr ‹_›)) h3.2
theorem GV{k:KX}{i:Nat}{U:aL}{H:ag}{f:Nat->KP}:∀{l:List Nat},(∀n∈l,∃v,c9 k (cP U i (.int n)) H=À v/\sh v=À (f n).1/\(f n).2=n)->o5 k i U H (l.map λi:Nat=>(i:Int))=À (l.map f)
 |[],_=>rfl
 |n::l,h=>by show dN (h n G') λv h1 h2 h3=>?_;show (c9 k (cP U i (.int n)) H).bind _=_;rw[h1];show (sh v).bind _=_;rw[h2];show (o5 k i U H (l.map λi:Nat=>(i:Int))).bind _=_;rw[GV λm hm=>h m (J' _ hm)];show À (((f n).1,(n:Int))::l.map f)=_;rw[<-h3];rfl
theorem HI{f:Nat->KP}{c:Nat}(h:∀n,(f n).1.length=c)(l:List Nat):gG (l.map f)=Æ:=by unfold gG;rw[Ϧ];intro p hp;rw[Ϧ];intro q hq;show aF (ś.mp hp) λi z q3=>?_;apply fv q3;show aF (ś.mp hq) λj z q3=>?_;apply fv q3;rw[h,h];show beq_self_eq_true _
theorem s9(l:List Nat):cC (l.map λi:Nat=>V.int i)=À (l.map λi:Nat=>(i:Int)):=by
 have e:(l.map λi:Nat=>V.int i)=(l.map λi:Nat=>(i:Int)).map V.int:=by rw[Ū];rfl
 rw[e];show lX _
theorem pd{k:KX}{i:Nat}{U:aL}{H:ag}{f:Nat->KP}{l:List Nat}{c:Nat}(hp:l.Pairwise (· < ·))(hl:l.length<=10000000)(hc:∀n,(f n).1.length=c)(h:∀n∈l,∃v,c9 k (cP U i (.int n)) H=À v/\sh v=À (f n).1/\(f n).2=n){m:List Nat}(hm:fo (l.map f)=m.map f)(hf:∀n∈m,(f n).2=n):
  me k i U H (l.map λi:Nat=>V.int i)=À (.ref H.length,H++[.lst (m.map λi:Nat=>V.int i)]):=by
 have S5:m.length=l.length:=by have:=congrArg aea hm;rw[(fD _).length_eq,H',H']at this;show this.symm
 unfold me;rw[s9];show (if _ then _ else _)=_;rw[if_pos ⟨tA (λi z=>by (show Ě _)) hp,by rw[H'];show hl⟩,GV h];show (if gG (l.map f) then _ else _)=_;rw[if_pos (HI hc l),hm,Ū]
 have e:(m.map ((λp:KP=>V.int p.2) ∘ f))=m.map λi:Nat=>V.int i:=ϔ λn hn=>by show V.int (f n).2=_;rw[hf n hn]
 rw[e];unfold rV;show if_pos (by rw[H',S5];show z' hl (by decide))
def vG(L:Nat)(H ae:ag):Prop:=∀(i:Nat) (o:bp),i≠L->H[i]?=À o->ae[i]?=À o
theorem aB.b{L:Nat}{a b:ag}(x:aB a b):vG L a b:=λi o z h=>x i o h
theorem dL{H:ag}{i j:Nat}{m:bp}(h:i≠j):(H.set i m)[j]?=H[j]?:=acd h
def tN(bs:List aU)(i:Nat):aU:=(bs[i]?).getD Fd
theorem qi{bs:List aU}{i:Nat}(h:i<bs.length):bs[i]?=À (tN bs i):=by unfold tN;rw[ē h];rfl
theorem N5{bs:List aU}{i:Nat}(h:i<bs.length):(bs.map aU.v)[((i:Nat):Int).toNat]?=À (tN bs i).v:=by rw[ĵ,į,qi h];rfl
theorem Ks{bs:List aU}{i:Nat}(h:i<bs.length):GW bs i=(tN bs i).l:=by unfold GW;rw[qi h];rfl
theorem Of{bs:List aU}{lf:List Int}{O:Str}{dy:Int}{i:Nat}(h:i<bs.length):JI bs lf O dy i=((tN bs i).n==O&&(decide (dy<=(tN bs i).l)&&decide (0<cq lf i))):=by unfold JI;rw[qi h]
theorem zV{lf:List Int}{i:Nat}(h:i<lf.length):(lf.map V.int)[((i:Nat):Int).toNat]?=À (.int (cq lf i)):=A6 h
theorem fW{α:Type}{f:α->V}(x0:α):∀(l:List α) (j:Nat),dI j (l.map f)=(ċ l.length).map λi=>.tup [.int ((j+i:Nat):Int),f ((l[i]?).getD x0)]
 |[],j=>rfl
 |b::l,j=>by show V.tup [.int j,f b]::dI (j+1) (l.map f)=_;rw[fW x0 l (j+1),ϧ,aer,ř,Ū];show congr (congrArg _ N) (ϔ λi z=>?_);show V.tup [.int ((j+1+i:Nat):Int),f ((l[i]?).getD x0)]=V.tup [.int ((j+(i+1):Nat):Int),f (((b::l)[i+1]?).getD x0)];rw[abQ j 1 i];rfl
theorem iW{Á:az}{U:aL}{H Î:ag}{e:CE}{r:Nat}{l:List V}(h:ab Á e U H=À (.ref r,Î))(hr:Î[r]?=À (.lst l)):cB Á (.ex e) U H=À (l,[(r,.lst l)],Î):=kO.trans (bL h (dw (dw (cy hr) N) N))
theorem Ko{U:aL}{H:ag}{bs:List aU}{n:Nat}(h0:U 0=À (.tup (bs.map aU.v)))(hn:n<bs.length):∃v,c9 (.pair (.idx (.idx (.var 0) (.var 5)) (.num 2)) (.var 5)) (cP U 5 (.int n)) H=À v/\sh v=À (Do bs n).1/\(Do bs n).2=n:=by
 show⟨.tup [.int (GW bs n),.int n],?_,N,N⟩;rw[Ks hn]
 have e1:c9 (.idx (.var 0) (.var 5)) (cP U 5 (.int n)) H=À (tN bs n).v:=by show ((cP U 5 (.int n)) 0).bind _=_;rw[show (cP U 5 (.int n)) 0=U 0 from N,h0];show kK (Ě _) (N5 hn)
 show ((c9 (.idx (.var 0) (.var 5)) (cP U 5 (.int n)) H).bind λx=>(c9 (.num 2) (cP U 5 (.int n)) H).bind λy=>lE x y H).bind _=_;rw[e1];rfl
noncomputable abbrev bZ(l:List Nat):List V:=l.map λi:Nat=>V.int i
theorem tO{d:Nat}{H:ag}{L:Nat}(bs:List aU)(lf:List Int)(O:Str)(dy:Int)(hl:lf.length=bs.length)(hb:bs.length<=10000000)(hL:H[L]?=À (.lst (lf.map .int))):
  ∃q ae,aG PP (d+1) 3 [.tup (bs.map aU.v),.ref L,.str O,.int dy] H=À (.ok (.ref q),ae)/\aB H ae/\H.length<=q/\ae[q]?=À (.lst (bZ (bE bs lf O dy))):=by
 have hsz:al=16777216:=rfl
 obtain ⟨v,ae,h,q,rfl,h1,h2,h3⟩:=eI (P:=PP) (k:=3) (R:=λv ae=>∃q,v=.ref q/\aB H ae/\H.length<=q/\ae[q]?=À (.lst (bZ (bE bs lf O dy)))) rfl rfl (by
  have hs:cB (aG PP d) (.enm (.var 0)) (bI [.tup (bs.map aU.v),.ref L,.str O,.int dy]) H=À ((ċ bs.length).map λi=>V.tup [.int ((0+i:Nat):Int),(tN bs i).v],[],H):=by show(fW Fd bs 0)▸nC N
  have hc:=ez (elt:=ab (aG PP d) (.var 5)) (cond:=dp (aG PP d) (.cons (.and (.cmp .Eq (.idx (.var 6) (.cst (.int 0))) (.var 2)) (.and (.cmp .GtE (.idx (.var 6) (.cst (.int 2))) (.var 3)) (.cmp .Gt (.idx (.var 1) (.var 5)) (.cst (.int 0))))) .nil)) (t:=.two 5 6) (U:=bI [.tup (bs.map aU.v),.ref L,.str O,.int dy]) (g:=λi=>V.tup [.int ((0+i:Nat):Int),(tN bs i).v]) (p:=JI bs lf O dy) (bw _) (xs:=ċ bs.length) λi hi=>by
   have jZ:=Ũ.mp hi;show⟨_,N,?_,λz=>?_⟩
   ·rw[Of jZ]
    show nK (io (bN (bg 0 _ _ (aI N) N (by decide) N) N N) (io (bN (bg 2 _ _ (aI N) N (by decide) N) N N) (bN (bx L ((0+i:Nat):Int) _ (.int (cq lf i)) N N hL (Ě _) ?_) N N)));rw[ż];show zV (hl▸jZ)
   ·show À (V.int ((0+i:Nat):Int),H)=_
    rw[ż]
  show W.set (fK hs hc ?_) ?_
  ·rw[H']
   show z' (ϻ _ _) (by rw[Ś];show z' hb (by decide))
  have hD:=aE H (.lst (bZ (JJ bs lf O dy)));show W.retE (wl (iW (aI N) hD) N (pd (c:=2) ((acU).filter _) (z' (ϻ _ _) (by rw[Ś];show hb)) (λz=>rfl) (λn hn=>?_) (BW bs _) λz z=>rfl)) ⟨_,N,_,N,(aB.app _ _).trans (aB.app _ _),by rw[û];show jL (y3 0xc1210b00813ba021 N (iP _) (iA _ _)),aE _ _⟩;show Ko N (Ũ.mp (ŝ.mp hn).1))
 show⟨q,ae,h,h1,h2,h3⟩
structure Qp(L:Nat)(H:ag)(t:Tk)(O:Str)(r:vH)(ae:ag):Prop where
 keep:vG L H ae
 lf:ae[L]?=À (.lst (t.lf.map .int))
 bad:0<t.am->r=.exc 2 O
 ok:¬ 0<t.am->∃q,r=.ok (.ref q)/\H.length<=q/\ae[q]?=À (.lst (t.ps.map pV))
theorem zh{t:Tk}{l:List Nat}{k i:Nat}(h:l[k]?=À i):(l.take (k+1)).foldl rP t=rP ((l.take k).foldl rP t) i:=by rw[bC h,acY];rfl
theorem Hj{l:List Nat}{k:Nat}{x:V}(h:(bZ l)[k]?=À x):∃i:Nat,l[k]?=À i/\x=.int i:=by rw[bZ,į,Ϫ]at h;obtain ⟨i,h1,h2⟩:=h;show⟨i,h1,h2.symm⟩
theorem eM(l:List Int)(i:Nat)(x:Int):(l.map V.int).set i (.int x)=(l.set i x).map V.int:=by rw[afH]
theorem Hz:∀(l:List Nat) (t:Tk),(l.foldl rP t).ps.length<=t.ps.length+l.length
 |[],t=>by simp
 |i::l,t=>by
  rw[ϑ];have h1:=Hz l (rP t i)
  have h2:(rP t i).ps.length<=t.ps.length+1:=by
   unfold rP;split
   ·simp
   ·show jL (y2 0xc0113ba1810 N (iA _ _))
  rw[ϧ];show jL (y8 0xc6010b1010b3213ba185413ba47612ba52112ba1873 N (iL h1) (iL h2) (iA _ _) (iA _ _) (iA _ _) (iA _ _))
abbrev uL(bs:List aU)(L:Nat)(dy:Int)(p:Nat)(O:Str)(a:Int):List (Option V):=[À (.tup (bs.map aU.v)),À (.ref L),Ã,À (.int dy),À (.ref p),À (.str O),À (.int a)]
structure Yl(l:List Nat)(lf:List Int)(am:Int)(L q:Nat)(H:ag)(k:Nat)(ae:ag)(t:Tk):Prop where
 ht:(l.take k).foldl rP ⟨[],lf,am⟩=t
 h1:ae[L]?=À (.lst (t.lf.map .int))
 h2:ae[H.length]?=À (.lst (t.ps.map pV))
 h3:ae[q]?=À (.lst (bZ l))
 hK:vG L H ae
def jJ(d:Nat)(H:ag)(L:Nat)(bs:List aU)(lf:List Int)(O:Str)(am:Int)(dy:Int):Prop:=∀(hl:lf.length=bs.length) (hb:bs.length<=10000000) (hL:H[L]?=À (.lst (lf.map .int))),∃r ae,aG PP (d+2) 4 [.tup (bs.map aU.v),.ref L,.tup [.str O,.int am],.int dy] H=À (r,ae)/\Qp L H (pE bs lf O am dy) O r ae
namespace used_callH
def kc:=hc (U8 jJ) (0,[],0,[],[],default,0,0)
def d:=kc.1
def H:=kc.2.1
def L:=kc.2.2.1
def bs:=kc.2.2.2.1
def lf:=kc.2.2.2.2.1
def O:=kc.2.2.2.2.2.1
def am:=kc.2.2.2.2.2.2.1
def dy:=kc.2.2.2.2.2.2.2
theorem kt:jJ d H L bs lf O am dy:=by
 intro hl hb hL;have hsz:al=16777216:=rfl;have UH:L<H.length:=(Ġ.mp hL).1;show yO (P:=PP) (k:=4) N N (W.set (v:=.ref H.length) (Î:=H++[.lst []]) N ?_);show W.put N N (JG (tO (d:=d) (H:=H++[.lst []]) bs lf O dy hl hb (aB.app _ _ _ _ hL)) λq bj e1 k1 hq VO=>?_);rw[û]at hq;have IZ:H.length<q:=hq;generalize hE:bE bs lf O dy=l at VO;have ca:l.length<=10000000:=by rw[<-hE];show z' (N3 _ _ _ _) hb
 have cE:∀i∈l,i<bs.length:=λi hi=>qr (j5.mp (hE▸hi));have ZY:pE bs lf O am dy=l.foldl rP ⟨[],lf,am⟩:=by unfold pE;rw[hE]
 rw[ZY]
 show W.loop (iW (af N e1) VO)
  (λk U ae=>∃t,U=bG (uL bs L dy H.length O t.am)/\Yl l lf am L q H k ae t)
  (a:=bG (uL bs L dy H.length O am)) (ay ⟨N,N,N,N,N,N,trivial⟩) ⟨⟨[],lf,am⟩,N,N,k1 _ _ (aB.app _ _ _ _ hL),k1 _ _ (aE _ _),VO,((aB.app _ _).trans k1).b⟩ (λ_ _ _ ⟨_,_,I⟩=>iY I.h3) ?_ ?_
 ·intro j x Su cS hx q1
  show aF q1 λt q1 I=>?_;apply aW q1;show aF (Hj hx) λi hi q3=>?_;apply aW q3;have uu:=cE i (ĥ hi);have zz:=Hz (l.take j) ⟨[],lf,am⟩;have Xs:=nF (l.take j) ⟨[],lf,am⟩;have Rg:=zh (t:=⟨[],lf,am⟩) hi;rw[I.ht]at zz Xs Rg;have PO:i<t.lf.length:=by rw[Xs];show hl▸uu
  have ZL:(t.ps.map pV).length<=al:=by rw[H'];show z' zz (z' (by rw[adU,ż];show z' (aeD j l) ca) (by decide:10000000<=al))
  show⟨_,N,W.if_ (Î:=cS) N (λh0=>?_) λh0=>?_⟩
  ·show W.set (v:=.int (nU t i)) (aQ (aA N (ak (bx L (i:Int) _ _ N N I.h1 (Ě _) (zV PO)))) N) (W.setItem0 L (i:Int) (t.lf.map .int) (.int (cq t.lf i-nU t i)) (aP (bx L (i:Int) _ _ N N I.h1 (Ě _) (zV PO)) N N) N N I.h1 (Ě _) (by rw[ĵ,H'];show PO) ?_)
   rw[ĵ,eM];show W.set N ?_;have g1:=eG (m':=.lst ((t.lf.set i (cq t.lf i-nU t i)).map .int)) I.h1;have g2:=(dL (m:=.lst ((t.lf.set i (cq t.lf i-nU t i)).map .int)) (ŉ UH)).trans I.h2;have g3:=(dL (m:=.lst ((t.lf.set i (cq t.lf i-nU t i)).map .int)) (ŉ (Ϟ UH IZ))).trans I.h3;have K3:vG L H (cS.set L (.lst ((t.lf.set i (cq t.lf i-nU t i)).map .int))):=λb o hb e=>(dL (Ne.symm hb)).trans (I.hK b o hb e);generalize cS.set L (.lst ((t.lf.set i (cq t.lf i-nU t i)).map .int))=fg at g1 g2 g3 K3
   show W.append0 H.length (t.ps.map pV) (pV (i,nU t i)) N g2 N ZL (W.nil (W.nil ⟨N,bG (uL bs L dy H.length O (t.am-nU t i)),ay ⟨N,N,N,N,N,N,trivial⟩,⟨t.ps++[(i,nU t i)],t.lf.set i (cq t.lf i-nU t i),t.am-nU t i⟩,N,Rg.trans (if_pos h0),(dL (ū UH)).trans g1,
    (eG g2).trans (congrArg (λz=>À (bp.lst z)) (Ŗ (l₂:=[(i,nU t i)])).symm),(dL (ŉ IZ)).trans g3,λb o hb e=>(dL (ū (Ġ.mp e).1)).trans (K3 b o hb e)⟩))
  ·show W.nil (W.nil ⟨N,bG (uL bs L dy H.length O t.am),ay ⟨N,N,N,N,N,N,trivial⟩,t,N,Rg.trans (if_neg h0),I.h1,I.h2,I.h3,I.hK⟩)
 ·intro Su cS q1
  show aF q1 λt q1 I=>?_;apply aW q1;have ht:=I.ht;rw[show (bZ l).length=l.length from H' _,ŋ]at ht;rw[ht];show W.if_ (Î:=cS) N (λh0=>?_) λh0=>?_
  ·show W.raise N (.inr ⟨2,O,N,I.hK,I.h1,λy=>rfl,λh=>absurd h0 h⟩)
  ·show W.nil (W.retE N (.inl ⟨_,N,I.hK,I.h1,λh=>absurd h h0,λy=>⟨_,N,Đ _,I.h2⟩⟩))
end used_callH
theorem Ee:jJ d H L bs lf O am dy:=hk (P:=U8 jJ) used_callH.kt (d,H,L,bs,lf,O,am,dy)
noncomputable def th(p:aU->Bool):List aU->List Int->Int
 |[],_=>0
 |b::bs,lf=>(if p b then cq lf 0 else 0)+th p bs lf.tail
theorem fU(lf:List Int)(i:Nat):cq lf.tail i=cq lf (i+1):=by cases lf<;>rfl
set_option tactic.hygienic true in
theorem kh{p:aU->Bool}:∀{bs:List aU} {lf lf':List Int},(∀i b,bs[i]?=À b->p b=Æ->cq lf i<=cq lf' i)->th p bs lf<=th p bs lf'
 |[],_,_,_=>Ř _
 |b::bs,lf,lf',h=>by
  show ad4 ?_ (kh λi c hc hp=>?_)
  ·split
   ·rename_i hb;show h 0 b rfl hb
   ·show Ř _
  ·rw[fU,fU];show h (i+1) c hc hp
theorem oz{p:aU->Bool}{bs:List aU}{lf lf':List Int}(h:∀i b,bs[i]?=À b->p b=Æ->cq lf i=cq lf' i):th p bs lf=th p bs lf':=
 ņ (kh λi b e q=>acO (h i b e q)) (kh λi b e q=>acO (h i b e q).symm)
theorem uP(p:aU->Bool):∀bs:List aU,th p bs []=0
 |[]=>rfl
 |b::bs=>by show (if p b then (0:Int) else 0)+th p bs []=0;rw[uP p bs,ite_self];rfl
theorem Ky{p:aU->Bool}(bs:List aU):∀{lf lf':List Int} {i:Nat} {b:aU},bs[i]?=À b->p b=Æ->(∀j,j≠i->cq lf' j=cq lf j)->th p bs lf'=th p bs lf+(cq lf' i-cq lf i):=by
 induction bs with
 |nil=>show λhb=>no hb
 |cons c bs ih=>
  intro lf lf' i b hb hp h;show (if p c then cq lf' 0 else 0)+th p bs lf'.tail=(if p c then cq lf 0 else 0)+th p bs lf.tail+_;cases i with
  |zero=>rw[sm hb,if_pos hp,if_pos hp,oz (lf:=lf'.tail) (lf':=lf.tail) λi b z z=>by rw[fU,fU];show h _ (acM i)];show ņ (y3 0xcae20a12a10 N) (y3 0xca12ae02a10 N)
  |succ i=>
   have e:=ih (lf:=lf.tail) (lf':=lf'.tail) (i:=i) hb hp λj hj=>by rw[fU,fU];show h _ λq=>hj (ad2.inj q)
   rw[fU,fU]at e;rw[e,h 0 (acM i).symm];show ņ (y4 0xcae32a10aae3210 N) (y4 0xcaae3210ae32a10 N)
structure WE(R:Nat->Nat->Prop)(l:List Nat)(t t':Tk):Prop where
 out:∀i,i∉l->cq t'.lf i=cq t.lf i
 inn:∀i∈l,0<=cq t'.lf i/\cq t'.lf i<=cq t.lf i
 bad:0<t'.am->∀i∈l,cq t'.lf i=0
 ord:∀i∈l,∀j∈l,R i j->cq t'.lf j≠cq t.lf j->cq t'.lf i=0
 nn:0<=t.am->0<=t'.am
 few:(∀i∈l,0<cq t.lf i)->(t'.ps.length:Int)+t'.am<=t.ps.length+t.am
 sum:∀bs p,(∀i∈l,∃b,bs[i]?=À b/\p b=Æ)->th p bs t.lf+t'.am=th p bs t'.lf+t.am
theorem B8{R:Nat->Nat->Prop}(as:∀i j,R i j->¬ R j i):∀{l:List Nat} {t:Tk},l.Pairwise R->(∀i∈l,i<t.lf.length/\0<=cq t.lf i)->WE R l t (l.foldl rP t):=by
 intro l
 induction l with
 |nil=>intro t _ _;show⟨λy y=>rfl,(λy h=>nomatch h),(λy y h=>nomatch h),(λy h=>nomatch h),id,λy=>Ř _,λy y y=>rfl⟩
 |cons i l IH=>
  intro t hp h;by_cases h0:0<t.am
  ·have hp:=Ō.mp hp
   have hi:=h i G';have PO:i∉l:=λq=>as i i (hp.1 i q) (hp.1 i q);have e1:rP t i=⟨t.ps++[(i,nU t i)],t.lf.set i (cq t.lf i-nU t i),t.am-nU t i⟩:=if_pos h0;have f1:∀j,j≠i->cq (rP t i).lf j=cq t.lf j:=λj hj=>by rw[e1];show(pR hi.1).trans (if_neg (Ne.symm hj))
   have f2:cq (rP t i).lf i=cq t.lf i-nU t i:=by rw[e1];show(pR hi.1).trans (if_pos N)
   have f3:(rP t i).am=t.am-nU t i:=by rw[e1]
   have f4:nU t i<=t.am/\nU t i<=cq t.lf i/\0<=nU t i/\(nU t i=t.am\/nU t i=cq t.lf i):=by unfold nU;show(acP _ _).elim (λd0=>⟨y2 0xc1010b10 N (acz _ _),⟨y2 0xc1010b10 N (acq _ _),⟨y2 0xc10811b00813b01 N h0 (acy d0),.inl (ņ (y2 0xc1010b10 N (acz _ _)) (y2 0xc0113b10 N (acy d0)))⟩⟩⟩) λd0=>⟨y2 0xc1010b10 N (acz _ _),⟨y2 0xc1010b10 N (acq _ _),⟨y2 0xc10810b00813b01 N hi.2 (acp d0),.inr (ņ (y2 0xc1010b10 N (acq _ _)) (y2 0xc0113b10 N (acp d0)))⟩⟩⟩
   generalize nU t i=x at f2 f3 f4;generalize e2:rP t i=t1 at f1 f2 f3;have hl1:t1.lf.length=t.lf.length:=by rw[<-e2,BY]
   have ne:∀j∈l,j≠i:=λj hj q=>PO (q▸hj);have ih:=IH hp.2 λj hj=>by rw[hl1,f1 j (ne j hj)];show h j (J' _ hj)
   rw[ϑ,e2];have o1:=ih.out i PO;show⟨λj hj=>?_,λj hj=>?_,λhb j hj=>?_,λa ha b hb hr hc=>?_,λy=>ih.nn (by show y3 0xc20810b1013be012 N f4.1 f3),λhp=>?_,λbs p hs=>?_⟩
   ·rw[ih.out j λq=>hj (J' _ q),f1 j λq=>hj (q▸G')]
   ·show ã (Ĉ.mp hj) (λq=>?_) λq=>?_
    ·rw[q,o1];show⟨y3 0xc20810b1013be012 N f4.2.1 f2,y3 0xc2110b00812be021 N f4.2.2.1 f2⟩
    ·rw[<-f1 j (ne j q)];show ih.inn j q
   ·show ã (Ĉ.mp hj) (λq=>?_) λq=>ih.bad hb j q
    rw[q,o1];by_cases h1:0<t1.am
    ·show f4.2.2.2.elim (λd0=>ņ ((zI (y3 0x1c080812be21011b00813b12 N f3 h1 d0)).elim) (y3 0xc20810b1013be012 N f4.2.1 f2)) λd0=>ņ (y3 0xc08012be21013b12 N f2 d0) (y3 0xc20810b1013be012 N f4.2.1 f2)
    ·rw[nE l t1 h1]at hb;show absurd hb h1
   ·show ã (Ĉ.mp hb) (λq=>?_) λq=>?_
    ·subst q
     show ã (Ĉ.mp ha) (λq=>absurd (q▸hr) (as _ _ (q▸hr))) λq=>absurd hr (as _ _ (hp.1 a q))
    ·show ã (Ĉ.mp ha) (λz=>?_) λz=>ih.ord a z b q hr (f1 b (ne b q)▸hc)
     rw[z,o1];by_cases h1:0<t1.am
     ·show f4.2.2.2.elim (λd0=>ņ ((zI (y3 0x1c080812be21011b00813b12 N f3 h1 d0)).elim) (y3 0xc20810b1013be012 N f4.2.1 f2)) λd0=>ņ (y3 0xc08012be21013b12 N f2 d0) (y3 0xc20810b1013be012 N f4.2.1 f2)
     ·rw[nE l t1 h1,f1 b (ne b q)]at hc;show absurd N hc
   ·have h1:=ih.few λj hj=>by rw[f1 j (ne j hj)];show hp j (J' _ hj)
    have h2:=hp i G';have h3:t1.ps.length=t.ps.length+1:=by rw[<-e2,e1,û];rfl
    rw[f3,h3]at h1;show f4.2.2.2.elim (λd0=>y6 0xca05a2111b00810bae403a2112ba185313b04 N h0 h1 (iA _ _) d0) λd0=>y7 0xca36a1010bae432a1011b50812ba186213b54 N h1 h2 (iA _ _) d0
   ·have s1:=ih.sum bs p λj hj=>hs j (J' _ hj)
    show aF (hs i G') λb hb ZJ=>?_;have s2:=Ky bs hb ZJ f1;rw[f3]at s1;rw[f2]at s2;show ņ (y7 0xca32a1512bae432a1013bae6e4650 N s1 s2) (y7 0xca15a3213bae432a1012bae6e4650 N s1 s2)
  ·rw[nE _ t h0]
   show⟨λy y=>rfl,λj hj=>⟨(h j hj).2,Ř _⟩,λq=>absurd q h0,λy y y y y q=>absurd N q,id,λy=>Ř _,λy y y=>rfl⟩
noncomputable def pk(O:Str)(t:Nat)(b:aU):Bool:=b.n==O&&decide ((t:Int)<b.l)
structure HC(bs:List aU)(lf:List Int)(D:Str->Nat->Int):Prop where
 len:lf.length=bs.length
 nn:∀i,0<=cq lf i
 le:∀(O:Str) (t:Nat),D O t+th (pk O t) bs lf<=fT bs O t
 ex:∀(O:Str) (t:Nat),D O t+th (pk O t) bs lf=fT bs O t\/(1<=t/\∀i b,bs[i]?=À b->b.n=O->b.l=(t:Int)->cq lf i=0)
theorem pO{bs:List aU}{lf:List Int}{O:Str}{dy:Int}{i:Nat}:JI bs lf O dy i=Æ↔∃b,bs[i]?=À b/\b.n=O/\dy<=b.l/\0<cq lf i:=by
 unfold JI;cases bs[i]? with
 |none=>show⟨(λq=>nomatch q),λq=>q.elim λb q=>nomatch q.1⟩
 |some c=>dsimp only;rw[ň,ň,beq_iff_eq,decide_eq_true_iff,decide_eq_true_iff];show⟨λq=>⟨c,rfl,q⟩,λq=>aF q λb q1 q2=>Option.some.inj q1▸q2⟩
theorem Py{bs:List aU}{lf:List Int}{O:Str}{am dy:Int}(hl:lf.length=bs.length)(ha:0<=am):((pE bs lf O am dy).ps.length:Int)<=am:=by have hp:∀i∈bE bs lf O dy,0<cq lf i:=λi hi=>wg (pO.mp (j5.mp hi)) λz z z z q=>q;have T:=B8 (λz z=>Bf.asym) (t:=⟨[],lf,am⟩) (L9 bs lf O dy) λi hi=>⟨hl▸qr (j5.mp hi),acQ (hp i hi)⟩;have h1:=T.few hp;have h2:=T.nn ha;change _<=((0:Nat):Int)+am at h1;unfold pE;show y3 0xc2110b00810ba208a01 N h2 h1
def my(bs:List aU)(lf:List Int)(D:Str->Nat->Int)(O:Str)(am:Int)(dy:Nat):Prop:=∀(I:HC bs lf D) (hd:1<=dy),HC bs (pE bs lf O am dy).lf (λn t=>D n t+if n=O/\t<dy then am-(pE bs lf O am dy).am else 0) /\
  (0<=am->0<=(pE bs lf O am dy).am)/\(0<(pE bs lf O am dy).am->∀i b,bs[i]?=À b->b.n=O->(dy:Int)<=b.l->cq (pE bs lf O am dy).lf i=0)
namespace HC_takeH
def kc:=hc (U6 my) ([],[],λz z=>0,default,0,0)
def bs:=kc.1
def lf:=kc.2.1
def D:=kc.2.2.1
def O:=kc.2.2.2.1
def am:=kc.2.2.2.2.1
def dy:=kc.2.2.2.2.2
theorem kt:my bs lf D O am dy:=by
 intro I hd;have T:=B8 (λy y=>Bf.asym) (t:=⟨[],lf,am⟩) (L9 bs lf O dy) λi hi=>⟨I.len▸qr (j5.mp hi),I.nn i⟩;have hl:=nF (bE bs lf O dy) ⟨[],lf,am⟩;change WE _ _ _ (pE bs lf O am dy) at T;change (pE bs lf O am dy).lf.length=lf.length at hl;generalize pE bs lf O am dy=u at T hl;have Ts:∀{i},i∈bE bs lf O dy->∃b,bs[i]?=À b/\b.n=O/\(dy:Int)<=b.l/\0<cq lf i:=λhi=>pO.mp (j5.mp hi);have Wl:∀i,cq lf i=0->cq u.lf i=0:=λi h=>(T.out i λq=>wg (Ts q) λy y y y q=>by show zI (y1 0x1c080812b08011b008 N h q)).trans h;have hW:∀i b,bs[i]?=À b->b.n=O->(dy:Int)<=b.l->(0<cq lf i->cq u.lf i=0)->cq u.lf i=0:=λi b e1 e2 e3 k=>ã (aeS (I.nn i)) k λq=>Wl i q.symm
 have Ys:∀i,cq u.lf i<=cq lf i:=λi=>by
  by_cases hi:i∈bE bs lf O dy
  ·show(T.inn i hi).2
  ·show acO (T.out i hi)
 have same:∀(n:Str) (t:Nat),th (pk n t) bs u.lf=th (pk n t) bs lf->D n t+th (pk n t) bs u.lf=fT bs n t\/(1<=t/\∀i b,bs[i]?=À b->b.n=n->b.l=(t:Int)->cq u.lf i=0):=λn t e=>by rw[e];show(I.ex n t).imp id λq=>⟨q.1,λi b h1 h2 h3=>Wl i (q.2 i b h1 h2 h3)⟩
 show⟨⟨hl.trans I.len,λi=>?_,λn t=>?_,λn t=>?_⟩,T.nn,λh0 i b e1 e2 e3=>hW i b e1 e2 e3 λhp=>T.bad h0 i (j5.mpr (pO.mpr ⟨b,e1,e2,e3,hp⟩))⟩
 ·by_cases hi:i∈bE bs lf O dy
  ·show(T.inn i hi).1
  ·rw[T.out i hi];show I.nn i
 ·have h1:=I.le n t
  by_cases hc:n=O/\t<dy
  ·rw[if_pos hc]
   have h2:=T.sum bs (pk n t) λi hi=>wg (Ts hi) λb e1 e2 e3 y=>⟨b,e1,by unfold pk;rw[e2,hc.1,beq_self_eq_true,adh];show decide_eq_true (by show y3 0x1c2011b1010b21 rfl (iT hc.2) e3)⟩;dsimp only at h2;show y6 0xc2a4ae35010b2a1013ba54a31 rfl h1 h2
  ·rw[if_neg hc]
   have h2:=kh (p:=pk n t) (bs:=bs) λi b y y=>Ys i;show y4 0xc2a3a08010b2a1010b13 N h1 h2
 ·by_cases hc:n=O/\t<dy
  ·have h2:=T.sum bs (pk n t) λi hi=>wg (Ts hi) λb e1 e2 e3 y=>⟨b,e1,by unfold pk;rw[e2,hc.1,beq_self_eq_true,adh];show decide_eq_true (by show y3 0x1c2011b1010b21 N (iT hc.2) e3)⟩
   dsimp only at h2;rw[if_pos hc];show(I.ex n t).imp (λq=>by show ņ (y6 0xc5a2ae13413ba32a1012b5a04 rfl h2 q) (y6 0xca2ae134512ba32a1013b5a04 rfl h2 q)) λq=>⟨q.1,λi b h1 h2 h3=>Wl i (q.2 i b h1 h2 h3)⟩
  ·rw[if_neg hc,ů]
   by_cases he:∀i b,bs[i]?=À b->pk n t b=Æ->cq u.lf i=cq lf i
   ·show same n t (oz he)
   ·show .inr ?_
    obtain ⟨i,b,e1,hp,eJ⟩:∃i b,bs[i]?=À b/\pk n t b=Æ/\cq u.lf i≠cq lf i:=abE λq=>he λi b e1 e2=>abE λz=>q ⟨i,b,e1,e2,z⟩;have hi:i∈bE bs lf O dy:=abE λq=>eJ (T.out i q);have hp:=Ľ.mp hp;have hn:n=O:=wg (Ts hi) λc q1 q2 y y=>(beq_iff_eq.mp hp.1).symm.trans ((Option.some.inj (e1.symm.trans q1))▸q2);have ht:¬ t<dy:=λq=>hc ⟨hn,q⟩;show⟨z' hd (ľ.mp ht),λj c f1 f2 f3=>hW j c f1 (f2.trans hn) (by show y3 0xc2010b1013b12 rfl (iL (ľ.mp ht)) f3) λh0=>T.ord j (j5.mpr (pO.mpr ⟨c,f1,f2.trans hn,by show y3 0xc2010b1013b12 rfl (iL (ľ.mp ht)) f3,h0⟩)) i hi (.inl ?_) eJ⟩;unfold GW;rw[f1,e1];show c.l<b.l;rw[f3];show of_decide_eq_true hp.2
end HC_takeH
theorem HC.take:my bs lf D O am dy:=hk (P:=U6 my) HC_takeH.kt (bs,lf,D,O,am,dy)
theorem HC.fail{bs:List aU}{lf:List Int}{D:Str->Nat->Int}(I:HC bs lf D){O:Str}:∀{dy:Nat},1<=dy->(∀i b,bs[i]?=À b->b.n=O->(dy:Int)<=b.l->cq lf i=0)->∃t,t<dy/\fT bs O t=D O t
 |t+1,_,hz=>by have e:th (pk O t) bs lf=0:=(oz λi b h1 h2=>hz i b h1 (beq_iff_eq.mp (Ľ.mp h2).1) (of_decide_eq_true (Ľ.mp h2).2)).trans (uP _ _);show ã (I.ex O t) (λq=>⟨t,Ż t,by show ņ (y3 0xc1212b08013b2a01 N e q) (y3 0xc2113b08012b2a01 N e q)⟩) λq=>aF (I.fail q.1 λi b h1 h2 h3=>ã (aeS h3) (λz=>hz i b h1 h2 z) λz=>q.2 i b h1 h2 z.symm) λu h1 h2=>⟨u,ace h1,h2⟩
theorem mE(p:Str×Int)(l:List (Str×Int))(n:Str):gx (p::l) n=(if n=p.1 then p.2 else 0)+gx l n:=by
 unfold gx;by_cases h:n=p.1
 ·rw[if_pos h,List.filter_cons_of_pos (by rw[h];show beq_self_eq_true _),ř,aY]
 ·rw[if_neg h,List.filter_cons_of_neg (by intro q;show h (beq_iff_eq.mp q).symm),Ű]
theorem qf{n:Str}:∀{l:List (Str×Int)},(∀p∈l,0<=p.2)->0<=gx l n
 |[],_=>Ř _
 |p::l,h=>by
  have h1:=h p G';have h2:=qf (n:=n) λq hq=>h q (J' _ hq);rw[mE];show acr ?_ h2;split
  ·show h1
  ·show Ř 0
theorem O9{bs:List aU}{dy:Nat}(hd:1<=dy)(ns:List (Str×Int)):∀{st:List Int×List (Nat×Int)} {D:Str->Nat->Int},HC bs st.1 D->(∀p∈ns,0<=p.2) ->
  (∀Ú,cu (vA bs dy) st ns=.ok Ú->HC bs Ú.1 λn t=>D n t+if t<dy then gx ns n else 0)/\∀e,cu (vA bs dy) st ns=.error e->(∃t,t<dy/\fT bs e t<D e t+gx ns e)/\∃a,(e,a)∈ns:=by
 induction ns with
 |nil=>show λ{st D} I _=>⟨λÚ h=>by
   injection h with h;subst h
   have:(λn t=>D n t+if t<dy then gx [] n else 0)=D:=by funext n t;show D n t+(if t<dy then (0:Int) else 0)=_;rw[ite_self,ů]
   rw[this];show I,λe h=>nomatch h⟩
 |cons p ns IH=>
  intro st D I hp;have h0:=hp p G';have hn:=λq hq=>hp q (J' _ hq);show gH (I.take (O:=p.1) (am:=p.2) hd) λI1 h1 h2=>?_;have h1:=h1 h0;unfold cu vA;by_cases hb:0<(pE bs st.1 p.1 p.2 dy).am
  ·rw[if_pos hb]
   show⟨(λy h=>nomatch h),λe h=>?_⟩;injection h with h;subst h
   show⟨aF (I1.fail hd (h2 hb)) λt ht e=>⟨t,ht,?_⟩,p.2,G'⟩;rw[if_pos ⟨N,ht⟩]at e;have:=qf (n:=p.1) hn;rw[e,mE,if_pos N];show y4 0x1caa132ae03211b00810b108 N hb this
  ·rw[if_neg hb]
   dsimp only;rw[show (pE bs st.1 p.1 p.2 dy).am=0 by show ņ (y1 0xc08015b008 rfl hb) (y1 0xc00810b008 rfl h1),afD]at I1;have ih:=IH (st:=((pE bs st.1 p.1 p.2 dy).lf,st.2++(pE bs st.1 p.1 p.2 dy).ps)) I1 hn;show⟨λÚ h=>?_,λe h=>?_⟩
   ·have:=ih.1 Ú h
    have q:(λn t=>D n t+if t<dy then gx (p::ns) n else 0)=λn t=>D n t+(if n=p.1/\t<dy then p.2 else 0)+if t<dy then gx ns n else 0:=by
     funext n t
     rw[mE];by_cases a:n=p.1<;>by_cases b:t<dy<;>simp [a,b]<;>show ņ (y3 0xca2a10aa210 rfl) (y3 0xcaa210a2a10 rfl)
    rw[q];show this
   ·show aO (ih.2 e h) λq1 q2=>⟨aF q1 λt ht q=>⟨t,ht,?_⟩,q2.elim λa ha=>⟨a,J' _ ha⟩⟩
    rw[mE];by_cases a:e=p.1
    ·rw[if_pos ⟨a,ht⟩]at q;rw[if_pos a];show y4 0x1caa321011ba3a210 N q
    ·rw[if_neg λz=>a z.1]at q;rw[if_neg a];show y3 0x1caa2081011ba2a0810 N q
def ax.nn(x:ax):Prop:=∀p∈x.ns,0<=p.2
def eR(n:Str)(t:Nat)(x:ax):Int:=if t<x.d then gx x.ns n else 0
def lM(ds:List ax)(n:Str)(t k:Nat):Int:=((ds[k]?).map (eR n t)).getD 0
theorem JB{bs:List aU}{ds:List ax}(hd:∀x∈ds,x.ok/\x.nn)(o:List Nat):∀{st:EP} {D:Str->Nat->Int},HC bs st.1 D ->
  (∀Ú,cu (lu bs ds) st o=.ok Ú->HC bs Ú.1 λn t=>D n t+be (o.map (lM ds n t)))/\∀e,cu (lu bs ds) st o=.error e->(∃t,t<7/\fT bs e t<D e t+be (o.map (lM ds e t)))/\∃x∈ds,∃a,(e,a)∈x.ns:=by
 induction o with
 |nil=>show λ{st D} I=>⟨λÚ h=>by
   injection h with h;subst h
   have:(λn t=>D n t+be (([]:List Nat).map (lM ds n t)))=D:=by funext n t;show ů _
   rw[this];show I,λe h=>nomatch h⟩
 |cons k o IH=>
  intro st D I
  have pos:∀n t,0<=be (o.map (lM ds n t)):=λn t=>by
   clear IH
   induction o with
   |nil=>show Ř _
   |cons j o ih=>
    rw[ř,aY];show acr ?_ ih;unfold lM eR;cases e:ds[j]? with
    |none=>show Ř _
    |some x=>
     show 0<=if t<x.d then gx x.ns n else 0;split
     ·show qf (hd x (ĥ e)).2
     ·show Ř _
  unfold cu lu;cases ek:ds[k]? with
  |none=>
   dsimp only;have ih:=IH I
   have q:∀n t,be ((k::o).map (lM ds n t))=be (o.map (lM ds n t)):=λn t=>by rw[ř,aY];unfold lM;rw[ek];show Ű _
   show⟨λÚ h=>?_,λe h=>?_⟩
   ·simp only[q];show ih.1 Ú h
   ·simp only[q];show ih.2 e h
  |some x=>
   have hx:=hd x (ĥ ek)
   have q:∀n t,be ((k::o).map (lM ds n t))=eR n t x+be (o.map (lM ds n t)):=λn t=>by
    rw[ř,aY]
    congr 1
    unfold lM;rw[ek];rfl
   dsimp only;have pzJ:=O9 hx.1.1 x.ns (st:=(st.1,[])) I hx.2;cases hf:cu (vA bs x.d) (st.1,[]) x.ns with
   |error e'=>
    show⟨(λy h=>nomatch h),λe h=>?_⟩;injection h with h;subst h
    show aO (pzJ.2 e' hf) λq1 q2=>⟨aF q1 λt ht z=>⟨t,ĳ ht hx.1.2.1,?_⟩,x,ĥ ek,q2⟩;have:=pos e' t;rw[q];unfold eR;rw[if_pos ht];show y4 0x1caa321011ba21010b308 N z this
   |ok p=>
    dsimp only;have ih:=IH (st:=(p.1,st.2.set k p.2)) (pzJ.1 p hf);show⟨λÚ h=>?_,λe h=>?_⟩
    ·simp only[q,<-ϩ];show ih.1 Ú h
    ·simp only[q,<-ϩ];show ih.2 e h
theorem Ic{l m:List Int}(h:l.Perm m):be l=be m:=by
 induction h with
 |nil=>rfl
 |cons x _ ih=>rw[aY,aY,ih]
 |swap x y l=>rw[aY,aY,aY,aY];show ņ (y3 0xcaa201aa210 N) (y3 0xcaa201aa210 N)
 |trans _ _ h1 h2=>show h1.trans h2
theorem nI{α:Type}{p:α->Bool}{f:α->Int}:∀l:List α,be ((l.filter p).map f)=be (l.map λx=>if p x then f x else 0)
 |[]=>rfl
 |x::l=>by
  rw[ř,aY,ada,<-nI l];cases p x with
  |true=>show aY _ _
  |false=>show(Ű _).symm
theorem A5(ds:List ax)(n:Str)(t:Nat):wE ds n t=be (ds.map (eR n t)):=by
 unfold wE;rw[nI];show congrArg be (ϔ λx z=>?_);unfold eR;by_cases h:t<x.d
 ·rw[if_pos h,if_pos (decide_eq_true h)]
 ·rw[if_neg h,if_neg (by rw[decide_eq_true_iff];show h)]
theorem Jk{ds:List ax}(hd:∀x∈ds,x.ok)(n:Str)(t:Nat):be ((jW ds).map (lM ds n t))=wE ds n t:=by
 have e:(ċ ds.length).map (lM ds n t)=ds.map (eR n t):=by
  show aed λi=>?_;rw[į,į];by_cases h:i<ds.length
  ·rw[Ϭ h,ē h]
   show À (lM ds n t i)=_;unfold lM;rw[ē h];rfl
  ·rw[ϭ (by rw[Ś];show ľ.mp h),ϭ (ľ.mp h)];rfl
 have nd:(jW ds).Nodup:=(Ab ds).imp λh q=>by subst q;show h.elim (λd0=>zI (y1 0x1c080811b00 N (iT d0))) λd0=>zI (y1 0x1c080811b00 N (iT d0.2))
 rw[Ic (((ad9 nd adR).mpr λk=>(uW hd).trans Ũ.symm).map _),e,A5]
theorem Yn{bs:List aU}(hb:∀b∈bs,0<=b.a):HC bs (bs.map aU.a) λz z=>0:=by
 have e:∀(bs:List aU) O t,th (pk O t) bs (bs.map aU.a)=fT bs O t:=λbs O t=>by
  unfold fT;rw[nI]
  induction bs with
  |nil=>rfl
  |cons b bs ih=>rw[ř,ř,aY,<-ih];rfl
 show⟨H' _,λi=>?_,λO t=>?_,λO t=>.inl ?_⟩
 ·unfold cq
  rw[į];cases h:bs[i]? with
  |none=>show Ř _
  |some b=>show hb b (ĥ h)
 ·rw[e,Ű];show Ř _
 ·rw[e,Ű]
theorem JC{bs:List aU}{ds:List ax}(hb:∀b∈bs,0<=b.a)(hd:∀x∈ds,x.ok/\x.nn):
  (∀st,lq bs ds=.ok st->∀O t,wE ds O t<=fT bs O t)/\∀e,lq bs ds=.error e->(∃t,t<7/\fT bs e t<wE ds e t)/\∃x∈ds,∃a,(e,a)∈x.ns:=by
 have C:=JB hd (jW ds) (st:=SM bs ds) (Yn hb);have a:=Jk λx hx=>(hd x hx).1
 simp only[a,Ű]at C
 show⟨λst h O t=>?_,C.2⟩;have I:=C.1 st h;have h1:=I.le O t;have h2:=kh (p:=pk O t) (bs:=bs) (lf:=[]) λi b z z=>I.nn i;rw[uP]at h2;show y3 0xc2010b2a1010b108 N h1 h2
theorem BM(n:Nat):BL [V.tup []] n=(Ő n ([]:List (Nat×Int))).map sj:=by
 induction n with
 |zero=>rfl
 |succ n ih=>rw[adV,ř,<-ih];rfl
section
variable{Á:az}{U:aL}{H:ag}{bs:List aU}{ds:List ax}
theorem Kv{i:Nat}(h:U 1=À (.tup (bs.map aU.v)))(hb:bs.length<=10000000):ab Á (.comp (.idx (.var i) (.cst (.int 1))) (.one i) (.ex (.var 1)) .nil) U H=À (.ref H.length,H++[.lst ((bs.map aU.a).map .int)]):=by
 have hsz:al=16777216:=rfl;have hc:=ez (elt:=ab Á (.idx (.var i) (.cst (.int 1)))) (cond:=dp Á .nil) (t:=.one i) (w:=[]) (U:=U) (H:=H) (g:=aU.v) (p:=λz=>Æ) (f:=λb=>V.int b.a) (bw _) (xs:=bs) λb hb=>⟨_,N,N,λz=>bg 1 _ _ (aI (v:=b.v) (by show (if i=i then À b.v else U i)=_;rw[if_pos N])) N (by decide) N⟩;rw[fx]at hc;have e:(bs.map λb=>V.int b.a)=(bs.map aU.a).map .int:=by rw[Ū];rfl
 rw[e]at hc;show fK (cH (aI h)) hc (by rw[H',H'];show z' hb (by decide))
theorem F7(h:U 0=À (.tup (ds.map ax.v)))(hd:ds.length<=200):ab Á (.bin .Mult (.list (.cons (.tuple .nil) .nil)) (.prim .len (.cons (.var 0) .nil))) U H=À (.ref (H.length+1),H++[.lst [.tup []]]++[.lst ((Ő ds.length ([]:List (Nat×Int))).map sj)]):=by
 have hsz:al=16777216:=rfl;have hz:0<=(ds.length:Int)/\(ds.length:Int)<=100000/\[V.tup []].length<=100:=⟨by (show Ě _),by show y1 0xc000000000000000186a0d010b00c890 rfl (iL hd),by decide⟩;have Tn:(BL [V.tup []] (ds.length:Int).toNat).length<=al:=by rw[BM];simp;show jL (y2 0xc1010b00c89013b00000000000001000000d1 rfl (iL hd) (iE hsz))
 show aP (cg (vs:=[.tup []]) N (by decide)) (aQ (vs:=[.tup (ds.map ax.v)]) (ak (aI h)) ((jz _).trans (by rw[H']))) ?_;show ((lst (H++[.lst [.tup []]]) H.length).bind λx=>if 0<=(ds.length:Int)/\(ds.length:Int)<=100000/\x.length<=100 then rV (H++[.lst [.tup []]]) (BL x (ds.length:Int).toNat) else Ã)=_;rw[cy (aE _ _),ab4,if_pos hz];unfold rV;rw[if_pos Tn,BM,ĵ,û];rfl
end
noncomputable def gp(ds:List ax)(i:Nat):ax:=(ds[i]?).getD ⟨0,[]⟩
theorem i6{ds:List ax}{i:Nat}(h:i<ds.length):ds[i]?=À (gp ds i):=by unfold gp;rw[ē h];rfl
theorem AW{ds:List ax}{i:Nat}(h:i<ds.length):(ds.map ax.v)[((i:Nat):Int).toNat]?=À (gp ds i).v:=by rw[ĵ,į,i6 h];rfl
theorem CN{ds:List ax}{i:Nat}(h:i<ds.length):qp ds i=(gp ds i).d:=by unfold qp;rw[i6 h];rfl
theorem wc{bs:List aU}{ds:List ax}{st:EP}{k:Nat}(h:k<ds.length):lu bs ds st k=match cu (vA bs (gp ds k).d) (st.1,[]) (gp ds k).ns with|.ok p=>.ok (p.1,st.2.set k p.2)|.error e=>.error e:=by
 unfold lu;rw[i6 h]
 all_goals (dsimp only;try (cases cu (vA bs (gp ds k).d) (st.1,[]) (gp ds k).ns<;>rfl))
theorem GM{U:aL}{H:ag}{ds:List ax}{n:Nat}(h0:U 0=À (.tup (ds.map ax.v)))(hn:n<ds.length):∃v,c9 (.idx (.idx (.var 0) (.var 9)) (.num 0)) (cP U 9 (.int n)) H=À v/\sh v=À (P3 ds n).1/\(P3 ds n).2=n:=by
 show⟨.int (qp ds n),?_,N,N⟩;rw[CN hn]
 have e1:c9 (.idx (.var 0) (.var 9)) (cP U 9 (.int n)) H=À (gp ds n).v:=by show ((cP U 9 (.int n)) 0).bind _=_;rw[show (cP U 9 (.int n)) 0=U 0 from N,h0];show kK (l:=ds.map ax.v) (Ě _) (AW hn)
 show (c9 (.idx (.var 0) (.var 9)) (cP U 9 (.int n)) H).bind _=_;rw[e1];rfl
theorem zN{H bj cS:ag}{A:Nat}(h:aB H bj)(hA:H.length<=A)(hB:vG A bj cS):aB H cS:=λi o e=>by have:i<H.length:=(Ġ.mp e).1;show hB i o (λq0=>(by show zI (y3 0x1c080810b1011b0213b12 N (iL hA) (iT this) (iE q0)))) (h i o e)
theorem wX{H bj:ag}{A:Nat}{m:bp}(h:aB H bj)(hA:H.length<=A):aB H (bj.set A m):=λi o e=>by have:i<H.length:=(Ġ.mp e).1;rw[dL (by show λq0=>(by show zI (y3 0x1c080810b1011b0212b21 N (iL hA) (iT this) (iE q0))))];show h i o e
theorem O8{bs:List aU}{dy:Int}{st Ú:List Int×List (Nat×Int)}{p:Str×Int}(h:vA bs dy st p=.ok Ú)(hl:st.1.length=bs.length)(hp:0<=p.2/\p.2<=201):Ú.1.length=bs.length/\Ú.2.length<=st.2.length+201:=by
 unfold vA at h;split at h
 ·cases h
 ·injection h with h;apply fv h
  show⟨(nF (bE bs st.1 p.1 dy) ⟨[],st.1,p.2⟩).trans hl,?_⟩;have:=Py (bs:=bs) (O:=p.1) (dy:=dy) hl hp.1;show (st.2++(pE bs st.1 p.1 p.2 dy).ps).length<=_;rw[û];show jL (y5 0xc4210b00c99010b0112ba13213ba00c9934 N hp.2 this (iA _ _) (iA _ _))
abbrev cL(ds:List ax)(bs:List aU)(A B:Nat):List (Option V):=[À (.tup (ds.map ax.v)),À (.tup (bs.map aU.v)),À (.ref A),À (.ref B)]
abbrev QG(ds:List ax)(bs:List aU)(A B k d C:Nat):List (Option V):=[À (.tup (ds.map ax.v)),À (.tup (bs.map aU.v)),À (.ref A),À (.ref B),À (.int k),À (.int d),Ã,À (.ref C)]
structure LN(H:ag)(c:Except Str EP)(r:vH)(ae:ag):Prop where
 keep:aB H ae
 bad:∀O,c=.error O->r=.exc 2 O
 ok:∀st,c=.ok st->r=.ok (.tup (st.2.map sj))
structure Yh(bs:List aU)(x:ax)(us:List (List (Nat×Int)))(lf:List Int)(ø:List V)(A B C q:Nat)(H:ag)(j:Nat)(ae:ag)(st:List Int×List (Nat×Int)):Prop where
 hf:cu (vA bs x.d) (lf,[]) (x.ns.take j)=.ok st
 hl2:st.1.length=bs.length
 hs2:st.2.length<=201*j
 e1:ae[A]?=À (.lst (st.1.map .int))
 e2:ae[B]?=À (.lst (us.map sj))
 e3:ae[C]?=À (.lst (st.2.map pV))
 e4:ae[q]?=À (.lst ø)
 hK2:aB H ae
def nc(d:Nat)(H:ag)(bj:ag)(ds:List ax)(bs:List aU)(A:Nat)(B:Nat)(C:Nat)(q:Nat)(k:Nat)(aD:ff)(Q:cm->aL->ag->Prop)(us:List (List (Nat×Int)))(lf:List Int)(ø:List V)(x:ax)(U:aL):Prop:=∀(hb:bs.length<=10000000) (hx:x.ok) (hA:∀p∈x.ns,0<=p.2/\p.2<=201) (uC:Le (bG (QG ds bs A B k x.d C)) U) (h6:U 6=À (.tup (x.ns.map tv))) (W1:H.length<=A) (EE:H.length<=C) (W2:A≠B) (UF:A≠C) (W3:A≠q) (W4:C≠B) (W7:C≠q) (hl:lf.length=bs.length) (g1:bj[A]?=À (.lst (lf.map .int))) (g2:bj[B]?=À (.lst (us.map sj))) (g3:bj[C]?=À (.lst [])) (g4:bj[q]?=À (.lst ø)) (hK:aB H bj) (XU:∀st cS,cu (vA bs x.d) (lf,[]) x.ns=.ok st->st.1.length=bs.length->st.2.length<=201*20->cS[A]?=À (.lst (st.1.map .int))->cS[B]?=À (.lst (us.map sj))->cS[C]?=À (.lst (st.2.map pV))->cS[q]?=À (.lst ø)->aB H cS->W (aG PP (d+2)) aD (bG (QG ds bs A B k x.d C)) cS Q) (RP:∀O aR cS,cu (vA bs x.d) (lf,[]) x.ns=.error O->aB H cS->Q (.exc 2 O) aR cS),W (aG PP (d+2)) (.cons (.for_ (.one 8) (.ex (.var 6)) (.cons (.expr (.meth .extend (.var 7) (.cons (.call 4 (.cons (.var 1) (.cons (.var 2) (.cons (.var 8) (.cons (.var 5) .nil))))) .nil))) .nil)) aD) U bj Q
namespace needs_WH
def kc:Nat×ag×ag×List ax×List aU×Nat×Nat×Nat×Nat×Nat×ff×(cm->aL->ag->Prop)×(List (List (Nat×Int)))×List Int×List V×ax×aL:=hc (λx=>nc x.1 x.2.1 x.2.2.1 x.2.2.2.1 x.2.2.2.2.1 x.2.2.2.2.2.1 x.2.2.2.2.2.2.1 x.2.2.2.2.2.2.2.1 x.2.2.2.2.2.2.2.2.1 x.2.2.2.2.2.2.2.2.2.1 x.2.2.2.2.2.2.2.2.2.2.1 x.2.2.2.2.2.2.2.2.2.2.2.1 x.2.2.2.2.2.2.2.2.2.2.2.2.1 x.2.2.2.2.2.2.2.2.2.2.2.2.2.1 x.2.2.2.2.2.2.2.2.2.2.2.2.2.2.1 x.2.2.2.2.2.2.2.2.2.2.2.2.2.2.2.1 x.2.2.2.2.2.2.2.2.2.2.2.2.2.2.2.2) (0,[],[],[],[],0,0,0,0,0,.nil,λz z z=>True,[],[],[],⟨0,[]⟩,λz=>Ã)
def d:=kc.1
def H:=kc.2.1
def bj:=kc.2.2.1
def ds:=kc.2.2.2.1
def bs:=kc.2.2.2.2.1
def A:=kc.2.2.2.2.2.1
def B:=kc.2.2.2.2.2.2.1
def C:=kc.2.2.2.2.2.2.2.1
def q:=kc.2.2.2.2.2.2.2.2.1
def k:=kc.2.2.2.2.2.2.2.2.2.1
def aD:=kc.2.2.2.2.2.2.2.2.2.2.1
def Q:=kc.2.2.2.2.2.2.2.2.2.2.2.1
def us:=kc.2.2.2.2.2.2.2.2.2.2.2.2.1
def lf:=kc.2.2.2.2.2.2.2.2.2.2.2.2.2.1
def ø:=kc.2.2.2.2.2.2.2.2.2.2.2.2.2.2.1
def x:=kc.2.2.2.2.2.2.2.2.2.2.2.2.2.2.2.1
def U:=kc.2.2.2.2.2.2.2.2.2.2.2.2.2.2.2.2
theorem kt:nc d H bj ds bs A B C q k aD Q us lf ø x U:=by
 intro hb hx hA uC h6 W1 EE W2 UF W3 W4 W7 hl g1 g2 g3 g4 hK XU RP;have hsz:al=16777216:=rfl
 show W.loopE (cH (aI h6))
  (λj U ae=>∃st,U=bG (QG ds bs A B k x.d C)/\Yh bs x us lf ø A B C q H j ae st)
  (λfl ae=>∃O,fl=.exc 2 O/\cu (vA bs x.d) (lf,[]) x.ns=.error O/\aB H ae) uC
  ⟨(lf,[]),N,N,hl,Ĥ _,g1,g2,g3,g4,hK⟩ (λt t t t=>bw _) ?_ ?_ λfl aR ae ⟨O,h1,h2,h3⟩=>h1▸RP O aR ae h2 h3
 ·intro j y Su cS hy q1
  show aF q1 λst q1 I=>?_;apply aW q1;show aF (l5 hy) λp hp q3=>?_;apply aW q3;have Rj:j<x.ns.length:=(Ġ.mp hp).1;have OA:=hx.2.2;show gq (Ee (d:=d) (H:=cS) (L:=A) (bs:=bs) (lf:=st.1) (O:=p.1) (am:=p.2) (dy:=x.d) I.hl2 hb I.e1) λr fg ec Č=>?_;have A7:bO (aG PP (d+2)) (.cons (.var 1) (.cons (.var 2) (.cons (.var 8) (.cons (.var 5) .nil)))) (cP (bG (QG ds bs A B k x.d C)) 8 (tv p)) cS=À ([.tup (bs.map aU.v),.ref A,.tup [.str p.1,.int p.2],.int x.d],cS):=rfl;have K3:aB H fg:=zN I.hK2 W1 Č.keep;show⟨_,N,?_⟩;by_cases h0:0<(pE bs st.1 p.1 p.2 x.d).am
  ·rw[Č.bad h0]at ec
   show W.extX N I.e3 A7 ec (.inr ⟨(λq=>nomatch q),p.1,N,sV I.hf hp (if_pos h0),K3⟩)
  ·show dN (Č.ok h0) λu hu Z0 Z3=>?_
   rw[hu]at ec;have Gx:vA bs x.d st p=.ok ((pE bs st.1 p.1 p.2 x.d).lf,st.2++(pE bs st.1 p.1 p.2 x.d).ps):=if_neg h0;show aO (O8 Gx I.hl2 (hA p (ĥ hp))) λl1 l2=>?_;have YH:C<cS.length:=(Ġ.mp I.e3).1;have f3:fg[C]?=À (.lst (st.2.map pV)):=Č.keep _ _ UF.symm I.e3;have YI:C≠u:=λq0=>(by show zI (y3 0x1c080810b1011b0213b12 N (iL Z0) (iT YH) (iE q0)))
   have Rw:pS fg (.ref C) (.ref u)=À (.none,fg.set C (.lst (st.2.map pV++(pE bs st.1 p.1 p.2 x.d).ps.map pV))):=by show (lst fg C).bind (λl=>(lst fg u).bind λk=>if l.length+k.length<=al/\C≠u then À (V.none,fg.set C (.lst (l++k))) else Ã)=_;rw[cy f3];show (lst fg u).bind _=_;rw[cy Z3];show if_pos ⟨?_,YI⟩;dsimp only at l2;rw[û]at l2;rw[H',H'];show z' l2 (z' (ϣ (z' I.hs2 (acI 201 (ī (ĳ Rj OA)))) 201) (by decide))
   show W.extend C u _ _ N I.e3 (af A7 ec) Rw (W.nil (.inl ⟨N,bG (QG ds bs A B k x.d C),ay ⟨N,N,N,N,N,N,N,trivial⟩,_,N,?_,l1,?_,?_,?_,?_,?_,?_⟩))
   ·rw[bC hp,lS I.hf,Gx]
   ·show z' l2 (ϣ I.hs2 201)
   ·rw[dL UF.symm];show Č.lf
   ·rw[dL W4];show Č.keep _ _ W2.symm I.e2
   ·rw[eG f3]
    show congrArg (λz=>À (bp.lst z)) (Ŗ ..).symm
   ·rw[dL W7];show Č.keep _ _ W3.symm I.e4
   ·show wX K3 EE
 ·intro Su cS q1
  show aF q1 λst q1 I=>?_;apply aW q1;rw[H']at I;have hf:=I.hf;rw[ŋ]at hf;have OA:=hx.2.2;show XU st cS hf I.hl2 (z' I.hs2 (acI 201 OA)) I.e1 I.e2 I.e3 I.e4 I.hK2
end needs_WH
theorem KL{d:Nat}{H:ag}{bj:ag}{ds:List ax}{bs:List aU}{A:Nat}{B:Nat}{C:Nat}{q:Nat}{k:Nat}{aD:ff}{Q:cm->aL->ag->Prop}{us:List (List (Nat×Int))}{lf:List Int}{ø:List V}{x:ax}{U:aL}:nc d H bj ds bs A B C q k aD Q us lf ø x U:=hk (P:=λx:Nat×ag×ag×List ax×List aU×Nat×Nat×Nat×Nat×Nat×ff×(cm->aL->ag->Prop)×(List (List (Nat×Int)))×List Int×List V×ax×aL=>nc x.1 x.2.1 x.2.2.1 x.2.2.2.1 x.2.2.2.2.1 x.2.2.2.2.2.1 x.2.2.2.2.2.2.1 x.2.2.2.2.2.2.2.1 x.2.2.2.2.2.2.2.2.1 x.2.2.2.2.2.2.2.2.2.1 x.2.2.2.2.2.2.2.2.2.2.1 x.2.2.2.2.2.2.2.2.2.2.2.1 x.2.2.2.2.2.2.2.2.2.2.2.2.1 x.2.2.2.2.2.2.2.2.2.2.2.2.2.1 x.2.2.2.2.2.2.2.2.2.2.2.2.2.2.1 x.2.2.2.2.2.2.2.2.2.2.2.2.2.2.2.1 x.2.2.2.2.2.2.2.2.2.2.2.2.2.2.2.2) needs_WH.kt (d,H,bj,ds,bs,A,B,C,q,k,aD,Q,us,lf,ø,x,U)
theorem FH{bs:List aU}{ds:List ax}{st Ú:EP}{k:Nat}{lf:List Int}{ps:List (Nat×Int)}(h:k<ds.length)(hf:cu (vA bs (gp ds k).d) (st.1,[]) (gp ds k).ns=.ok (lf,ps)):lu bs ds st k=.ok (lf,st.2.set k ps):=by rw[wc h,hf]
theorem FG{bs:List aU}{ds:List ax}{st:EP}{k:Nat}{e:Str}(h:k<ds.length)(hf:cu (vA bs (gp ds k).d) (st.1,[]) (gp ds k).ns=.error e):lu bs ds st k=.error e:=by rw[wc h,hf]
theorem PC(us:List (List (Nat×Int)))(k:Nat)(ps:List (Nat×Int)):(us.map sj).set k (sj ps)=(us.set k ps).map sj:=by rw[afH]
theorem FE(H:ag)(bs:List aU)(ds:List ax):(H++[bp.lst ((bs.map aU.a).map .int)]).length+1=H.length+2/\(H++[.lst ((bs.map aU.a).map .int)]++[.lst [.tup []]]++[.lst ((Ő ds.length ([]:List (Nat×Int))).map sj)])[H.length]?=À (bp.lst ((bs.map aU.a).map .int)) /\
  (H++[.lst ((bs.map aU.a).map .int)]++[.lst [.tup []]]++[.lst ((Ő ds.length ([]:List (Nat×Int))).map sj)])[H.length+2]?=À (bp.lst ((Ő ds.length ([]:List (Nat×Int))).map sj))/\aB H (H++[.lst ((bs.map aU.a).map .int)]++[.lst [.tup []]]++[.lst ((Ő ds.length ([]:List (Nat×Int))).map sj)]):=by
 show⟨by rw[û];rfl,aB.app _ _ _ _ (aB.app _ _ _ _ (aE _ _)),?_,(aB.app _ _).trans ((aB.app _ _).trans (aB.app _ _))⟩;have:=aE (H++[.lst ((bs.map aU.a).map .int)]++[.lst [.tup []]]) (.lst ((Ő ds.length ([]:List (Nat×Int))).map sj));rw[û,û]at this;show this
structure Yb(bs:List aU)(ds:List ax)(H EO:ag)(j:Nat)(ae:ag)(st:List Int×List (List (Nat×Int))):Prop where
 hj:j<=(jW ds).length
 hf:cu (lu bs ds) (SM bs ds) ((jW ds).take j)=.ok st
 hl1:st.1.length=bs.length
 hl2:st.2.length=ds.length
 e1:ae[H.length]?=À (.lst (st.1.map .int))
 e2:ae[H.length+2]?=À (.lst (st.2.map sj))
 e3:ae[EO.length]?=À (.lst (bZ (jW ds)))
 hK:aB H ae
def gz(d:Nat)(H:ag)(ds:List ax)(bs:List aU):Prop:=∀(hd:ds.length<=200) (hb:bs.length<=10000000) (uq:∀x∈ds,x.ok) (hA:∀x∈ds,∀p∈x.ns,0<=p.2/\p.2<=201),∃r ae,aG PP (d+3) 5 [.tup (ds.map ax.v),.tup (bs.map aU.v)] H=À (r,ae)/\LN H (lq bs ds) r ae
namespace cooked_callH
def kc:=hc (U4 gz) (0,[],[],[])
def d:=kc.1
def H:=kc.2.1
def ds:=kc.2.2.1
def bs:=kc.2.2.2
theorem kt:gz d H ds bs:=by
 intro hd hb uq hA;have hsz:al=16777216:=rfl;show yO (P:=PP) (k:=5) (d:=d+2) N (as:=[.tup (ds.map ax.v),.tup (bs.map aU.v)]) N (R:=LN H (lq bs ds)) (W.set (Kv N hb) ?_);show W.set (F7 N hd) (EC (FE H bs ds) λa4 a1 a2 a3=>?_);rw[a4];generalize H++[.lst ((bs.map aU.a).map .int)]++[.lst [.tup []]]++[.lst ((Ő ds.length ([]:List (Nat×Int))).map sj)]=EO at a1 a2 a3 ⊢;have IZ:H.length+2<EO.length:=(Ġ.mp a2).1
 have eS:∀{U:aL},U 0=À (.tup (ds.map ax.v))->ab (aG PP (d+2)) (.sortK (.rng1 (.prim .len (.cons (.var 0) .nil))) 9 (.idx (.idx (.var 0) (.var 9)) (.num 0))) U EO=À (.ref EO.length,EO++[.lst (bZ (jW ds))]):=λ{U} h0=>by
  have hs:cB (aG PP (d+2)) (.rng1 (.prim .len (.cons (.var 0) .nil))) U EO=À ((ċ ds.length).map λj:Nat=>V.int j,[],EO):=by rw[<-l8];show eD (n:=ds.length) (aQ (vs:=[.tup (ds.map ax.v)]) (ak (aI h0)) ((jz _).trans (by rw[H']))) (by show jL (y1 0xc0000000000003b9aca00d010b00c890 N (iL hd)))
  show wl hs N (pd (f:=P3 ds) (c:=1) (m:=jW ds) (l:=ċ ds.length) acU (by rw[Ś];show z' hd (by decide)) (λz=>rfl) (λn hn=>GM h0 (Ũ.mp hn)) (Hr uq) λz z=>rfl)
 show W.loopE (iW (eS N) (aE _ _))
  (λj U ae=>∃st,U=bG (cL ds bs H.length (H.length+2))/\Yb bs ds H EO j ae st)
  (λfl ae=>∃O,fl=.exc 2 O/\lq bs ds=.error O/\aB H ae) (a:=bG (cL ds bs H.length (H.length+2))) (ay ⟨N,N,N,N,trivial⟩)
  ⟨SM bs ds,N,Ĥ _,N,H' _,Ϻ,aB.app _ _ _ _ a1,aB.app _ _ _ _ a2,aE _ _,a3.trans (aB.app _ _)⟩ (λ_ _ _ ⟨_,_,I⟩=>iY I.e3) ?_ ?_ λfl aR ae ⟨O,h1,h2,h3⟩=>.inr ⟨2,O,h1,h3,λXX e=>(by rw[h2]at e;injection e with e;rw[e]),λst e=>(by rw[h2]at e;cases e)⟩
 ·intro j y IG bj hy q1
  show aF q1 λst q1 I=>?_;apply aW q1;show aF (Hj hy) λi hi q3=>?_;apply aW q3;have Rj:j<(jW ds).length:=(Ġ.mp hi).1;have PN:i<ds.length:=(uW uq).mp (ĥ hi);have hx:(gp ds i).ok:=uq _ (ĥ (i6 PN));have s4:EO.length<bj.length:=(Ġ.mp I.e3).1;show⟨_,N,W.put (v:=(gp ds i).v) (Î:=bj) (bg (i:Int) _ _ N N (Ě _) (AW PN)) N (W.set (v:=.ref bj.length) (Î:=bj++[.lst []]) N (KL (H:=H) (ds:=ds) (A:=H.length) (B:=H.length+2) (C:=bj.length) (q:=EO.length) (k:=i) (us:=st.2) (lf:=st.1) (ø:=bZ (jW ds)) (x:=gp ds i) hb hx (hA _ (ĥ (i6 PN))) (ay ⟨N,N,N,N,N,N,N,trivial⟩) N (Đ _) (by show jL (y4 0xc2311b1011b2113ba2830 N (iT IZ) (iT s4) (iA _ _))) (λq0=>(by show zI (y2 0x1c080813b1013ba2801 N (iE q0) (iA _ _)))) (ŉ (Ϟ (acf (ϒ 1)) (Ϟ IZ s4))) (λq0=>(by show zI (y3 0x1c080811b1013b1213ba2820 N (iT IZ) (iE q0) (iA _ _)))) (λq0=>(by show zI (y3 0x1c080811b1011b2112b02 N (iT IZ) (iT s4) (iE q0)))) (λq0=>(by show zI (y2 0x1c080811b1012b01 N (iT s4) (iE q0)))) I.hl1 (aB.app _ _ _ _ I.e1) (aB.app _ _ _ _ I.e2) (aE _ _) (aB.app _ _ _ _ I.e3) (I.hK.trans (aB.app _ _)) ?_ ?_))⟩
  ·intro da cS Vh m1 m2 g1 g2 g3 g4 hK2
   obtain ⟨lf2,ps⟩:=da;have hz:(ps.map pV).length<=al:=by rw[H'];dsimp only at m2;(show z' ‹_<=_› (by decide))
   show W.setItem0 (H.length+2) (i:Int) (st.2.map sj) (sj ps) (aQ (vs:=[.ref bj.length]) N (bv g3 hz)) N N g2 (Ě _) (by rw[ĵ,H',I.hl2];show PN) ?_;rw[ĵ,PC];show W.nil (.inl ⟨N,bG (cL ds bs H.length (H.length+2)),ay ⟨N,N,N,N,trivial⟩,(lf2,st.2.set i ps),N,Rj,?_,m1,?_,?_,eG g2,?_,wX hK2 (by show jL (y2 0xc0113ba2810 N (iA _ _)))⟩)
   ·rw[bC hi,lS I.hf,FH (Ú:=st) PN Vh]
   ·rw[acl];show I.hl2
   ·rw[dL (by show λq0=>(by show zI (y2 0x1c080812b1013ba2810 N (iE q0) (iA _ _))))];show g1
   ·rw[dL (by show λq0=>(by show zI (y2 0x1c080811b1013b10 N (iT IZ) (iE q0))))];show g4
  ·intro O aR cS Vh hK2
   show .inr ⟨(λq=>nomatch q),O,N,sV I.hf hi (FG PN Vh),hK2⟩
 ·intro IG bj q1
  show aF q1 λst q1 I=>?_;apply aW q1;have hf:=I.hf;rw[show (bZ (jW ds)).length=(jW ds).length from H' _,ŋ]at hf;have hz:(st.2.map sj).length<=al:=by have hl2:=I.hl2;rw[H'];show jL (y3 0xc1210b00c89013b00000000000001000000d112b02 N (iL hd) (iE hsz) (iE hl2))
  show W.retE (aQ (vs:=[.ref (H.length+2)]) N (bv I.e2 hz)) (.inl ⟨_,N,I.hK,λO e=>?_,λÚ e=>?_⟩)
  ·rw[show lq bs ds=.ok st from hf]at e;cases e
  ·rw[show lq bs ds=.ok st from hf]at e;injection e with e;rw[e]
end cooked_callH
theorem v7{ds:List ax}:gz d H ds bs:=hk (P:=U4 gz) cooked_callH.kt (d,H,ds,bs)
theorem yY{Á:az}{U:aL}{H:ag}{i r c d e:Nat}(h:U i=À (.ref r))(hr:H[r]?=À (.exn c e))(hc:(c==1||c==2)=Æ):ab Á (.isC d (.var i)) U H=À (.bool (nH c d),H):=by
 show bT (ab Á (.var i) U H) (λx Î=>(Bm Î d x).bind λv=>À (v,Î))=_;rw[aI h];show (Bm H d (.ref r)).bind _=_
 have e1:Bm H d (.ref r)=À (.bool (nH c d)):=by show (H[r]?).bind (λm=>(QA m).bind λp=>À (V.bool (nH p.1 d)))=_;rw[hr];show (if (c==1||c==2)=Æ then À (c,e) else Ã).bind _=_;rw[if_pos hc];rfl
 rw[e1];rfl
theorem JO{Á:az}{U:aL}{H:ag}{i r c e:Nat}{w:Str}(h:U i=À (.ref r))(hr:H[r]?=À (.exn c e))(he:H[e]?=À (.wd w))(hc:(c==1||c==2)=Æ):ab Á (.word (.var i)) U H=À (.str w,H):=by
 show bT (ab Á (.var i) U H) (λx Î=>(vu Î x).bind λv=>À (v,Î))=_;rw[aI h];show (vu H (.ref r)).bind _=_
 have e1:vu H (.ref r)=À (.str w):=by show (H[r]?).bind (λm=>(QA m).bind λp=>(H[p.2]?).bind λm'=>(Ua m').bind λw=>À (V.str w))=_;rw[hr];show (if (c==1||c==2)=Æ then À (c,e) else Ã).bind _=_;rw[if_pos hc];show (H[e]?).bind _=_;rw[he];rfl
 rw[e1];rfl
structure Qa{α:Type}(f:α->V)(P:α->Prop)(iH:ag)(q n:Nat)(xs:List α)(H:ag):Prop where
 k:aB iH H
 b:H[q]?=À (.lst (xs.map f))
 l:xs.length=n
 ok:∀x∈xs,P x
def TC{α:Type}(f:α->V)(P:α->Prop)(iH:ag)(q n:Nat)(L:aL)(fl:cm)(U:aL)(H:ag):Prop:=fl=.next/\Le L U/\∃xs,Qa f P iH q n xs H
section
variable{α:Type}{Á:az}{aD:ff}{U L:aL}{H iH Î:ag}{Q:cm->aL->ag->Prop}{f:α->V}{P:α->Prop}{q n j:Nat}{xs:List α}
theorem W.build{it:jo}{body:ff}{i:Nat}(f:α->V)(P:α->Prop)(q:Nat)(hs:cB Á it U H=À (cp 0 n 1,[],Î))(hl:Le L U)(hk:aB iH Î)(h0:Î[q]?=À (.lst []))
  (step:∀j xs ae,j<n->Qa f P iH q j xs ae->W Á body (cP L i (.int j)) ae (TC f P iH q (j+1) L))
  (k:∀xs ae,Qa f P iH q n xs ae->W Á aD L ae Q):W Á (.cons (.for_ (.one i) it body) aD) U H Q:=by
 show W.loop hs (λj U ae=>U=L/\∃xs,Qa f P iH q j xs ae) hl ⟨N,[],hk,h0,N,λz h=>nomatch h⟩ (λz z z z=>bw _) (λj x IG bj hx h=>?_) λIG bj h=>?_
 ·show aO (gW hx) λhj e=>?_;apply aW e
  show aO h λe h=>?_;apply aW e;show⟨_,N,h.elim λxs I=>W.mono (step j xs bj hj I) λfl aR ae q=>⟨q.1,L,q.2.1,N,q.2.2⟩⟩
 ·rw[gZ]at h
  show aO h λe h=>?_;apply aW e;show h.elim λxs I=>k xs bj I
theorem W.lay{o e:CE}(x:α)(I:Qa f P iH q j xs H)(hq:iH.length<=q)(ho:ab Á o U H=À (.ref q,H))(he:ab Á e U H=À (f x,Î))(K:aB H Î)(hP:P x)(hz:j<=1000)(hl:Le L U):
  W Á (.cons (.expr (.meth .append o (.cons e .nil))) .nil) U H (TC f P iH q (j+1) L):=by
 have hb:=K _ _ I.b;show W.append q (xs.map f) (f x) Î ho I.b he hb (by rw[H',I.l];show z' hz (by decide)) (W.nil ⟨N,hl,xs++[x],(I.k.trans K).set hq,?_,by rw[û,I.l];rfl,λy hy=>?_⟩)
 ·rw[eG hb,Ŗ];rfl
 ·show ã (Ģ.mp hy) (I.ok y) λh=>O'.mp h▸hP
end
section
variable{d r q m j:Nat}{H:ag}{U:aL}{cs:List Int}{aw:Int}
theorem Oe{a b y:Int}{e:CE}(hr:H[r]?=À (.lst (cs.map .int)))(g0:U 0=À (.ref r))(g4:U 4=À (.int j))(hb:0<b)(ha:0<=a)(Ms:a+b<=100)(hy:y.natAbs<1000000)(he:ab (aG PP (d+1)) e U H=À (.int y,H)):
  ∃c:Int,ab (aG PP (d+1)) (.call 22 (.cons (.call 21 (.cons (.var 0) (.cons (.bin .Add (.cst (.int a)) (.bin .Mod (.var 4) (.cst (.int b)))) .nil))) (.cons e .nil))) U H=À (.int c,H):=by
 have hm:=c7 (a:=(j:Int)) hb;show⟨_,af (aA (af (aA (aI g0) (ak (aP N (aP (aI g4) N (dH (by show λq0=>zI (y1 0x1c080811b00812b080 N hb q0)))) N))) (qm N hr _ ((Int.toNat_lt' (by decide)).mpr (acu (adX hm.2 a) (Ŀ Ms (by decide)))) (by show ņ (y3 0xc2a1010b2a10 N (adD _)) (y3 0xca21012ba210 N (ϡ (y2 0xca100810b00810b108 N ha hm.1)))))) (ak he)) (m9 N _ _ (by show jT (y1 0x1c00010000000000000000d011b000000000000000f4240d0 N (iT hy))))⟩
theorem z6{i0:Nat}{c:Int}(qO:1<=m)(hm:m<=12)(hq:H[q]?=À (.lst [.int aw,.int m]))(g1:U 1=À (.ref q))(g5:U i0=À (.int c)):
  ∃O ae,ab (aG PP (d+1)) (.call 25 (.cons (.idx (.var 1) (.cst (.int 0))) (.cons (.bin .Mod (.bin .Mod (.var i0) (.cst (.int 60))) (.idx (.var 1) (.cst (.int 1)))) .nil))) U H=À (.str O,ae)/\aB H ae/\∃k,k<12/\O=gu aw k:=Hi N qO hm hq g1 g5
abbrev gL(r q p:Nat):aL:=bG [À (.ref r),À (.ref q),Ã,À (.ref p)]
theorem G4(hr:H[r]?=À (.lst (cs.map .int)))(hq:H[q]?=À (.lst [.int aw,.int m]))(qO:1<=m)(hm:m<=12)(n:Nat)(hn:n<=200):
  ∃(bs:List aU) (ae:ag),aG PP (d+2) 29 [.ref r,.ref q,.int n] H=À (.ok (.tup (bs.map aU.v)),ae)/\aB H ae/\bs.length=n/\∀b∈bs,0<=b.a:=by
 obtain ⟨v,ae,h,bs,rfl,h1⟩:=eI (R:=λv ae=>∃bs:List aU,v=.tup (bs.map aU.v)/\aB H ae/\bs.length=n/\∀b∈bs,0<=b.a) (P:=PP) (k:=29) rfl (as:=[.ref r,.ref q,.int n]) rfl (by
  show W.set (v:=.ref H.length) (Î:=H++[.lst []]) N (W.build (L:=gL r q H.length) aU.v (λb=>0<=b.a) H.length (eD N (by show jL (y1 0xc0000000000003b9aca00d010b00c890 N (iL hn)))) (ay ⟨N,N,N,trivial⟩) (aB.app _ _) (aE _ _) (λj bs bj hj I=>?_) λbs bj I=>?_)
  ·show W' (Oe (d:=d) (a:=23) (b:=10) (U:=cP (gL r q H.length) 4 (.int j)) (e:=.bin .Add (.cst (.int 40)) (.var 4)) (I.k _ _ hr) N N (by decide) (by decide) (by decide) (E1 (acr (by decide) (Ě j)) (acu (adX (Ů.mpr (ĳ hj hn)) 40) (by decide))) N) λc e1=>W.set e1 (W.set (af N (m9 N _ _ (by show jT (y2 0x1c00010000000000000000d110b00c89011b01 N (iL hn) (iT hj))))) ?_)
   generalize Hg c j=sm;show fu (z6 (d:=d) (U:=cP (cP (cP (gL r q H.length) 4 (.int j)) 5 (.int c)) 6 (.int sm)) (i0:=5) qO hm (I.k _ _ hq) N N) λO cS e2 k2 z=>W.lay (⟨O,gw (c.fdiv 60) 200,tc sm⟩:aU) I (Đ _) N (bY (aA e2 (aA (af N (j4 N _ _ (by decide))) (ak (af N (td N _))))) (show 3<=al by decide)) k2 ?_ (ī (ĳ hj (z' hn (by decide)))) (ay ⟨N,N,N,trivial⟩);have:=iK (c.fdiv 60);show Ŀ (by decide) this.1
  ·show W.retE (aQ N (bv I.b (by rw[H',I.l];show z' hn (by decide)))) ⟨_,N,bs,N,I.k,I.l,I.ok⟩)
 show⟨bs,ae,h,h1⟩
def Pk.okP(p:Pk):Prop:=1<=p.a/\p.a<=200
theorem KQ(hr:H[r]?=À (.lst (cs.map .int)))(hq:H[q]?=À (.lst [.int aw,.int m]))(qO:1<=m)(hm:m<=12)(n:Nat)(hn:n<=200):
  ∃(bs:List Pk) (ae:ag),aG PP (d+2) 31 [.ref r,.ref q,.int n] H=À (.ok (.tup (bs.map Pk.v)),ae)/\aB H ae/\bs.length=n/\∀b∈bs,b.okP:=by
 obtain ⟨v,ae,h,bs,rfl,h1⟩:=eI (R:=λv ae=>∃bs:List Pk,v=.tup (bs.map Pk.v)/\aB H ae/\bs.length=n/\∀b∈bs,b.okP) (P:=PP) (k:=31) rfl (as:=[.ref r,.ref q,.int n]) rfl (by
  show W.set (v:=.ref H.length) (Î:=H++[.lst []]) N (W.build (L:=gL r q H.length) Pk.v Pk.okP H.length (eD N (by show jL (y1 0xc0000000000003b9aca00d010b00c890 N (iL hn)))) (ay ⟨N,N,N,trivial⟩) (aB.app _ _) (aE _ _) (λj bs bj hj I=>?_) λbs bj I=>?_)
  ·show W' (Oe (d:=d) (a:=33) (b:=10) (U:=cP (gL r q H.length) 4 (.int j)) (e:=.bin .Add (.cst (.int 80)) (.var 4)) (I.k _ _ hr) N N (by decide) (by decide) (by decide) (E1 (acr (by decide) (Ě j)) (acu (adX (Ů.mpr (ĳ hj hn)) 80) (by decide))) N) λc e1=>W.set e1 (W.set (af N (m9 N _ _ (show j+1<18446744073709551616 from ĳ (acK (ĳ hj hn)) (by decide)))) ?_)
   generalize Hg c (j+1)=sm;show fu (z6 (d:=d) (U:=cP (cP (cP (gL r q H.length) 4 (.int j)) 5 (.int c)) 6 (.int sm)) (i0:=5) qO hm (I.k _ _ hq) N N) λO cS e2 k2 z=>W.set e2 (W.lay (⟨O,gw (c.fdiv 60) 200,Hv sm,tc (sm.fdiv 997)⟩:Pk) ⟨I.k.trans k2,k2 _ _ I.b,I.l,I.ok⟩ (Đ _) N (bY (aA N (aA (af N (j4 N _ _ (by decide))) (aA (af N (Hw N _)) (ak (af N (td N _)))))) (show 4<=al by decide)) (aB.refl _) (iK (c.fdiv 60)) (ī (ĳ hj (z' hn (by decide)))) (ay ⟨N,N,N,trivial⟩))
  ·show W.retE (aQ N (bv I.b (by rw[H',I.l];show z' hn (by decide)))) ⟨_,N,bs,N,I.k,I.l,I.ok⟩)
 show⟨bs,ae,h,h1⟩
def Hk(aw:Int)(p:Str×Int):Prop:=(∃k,k<12/\p.1=gu aw k)/\1<=p.2/\p.2<=201
def ax.okA(aw:Int)(x:ax):Prop:=x.ok/\∀p∈x.ns,Hk aw p
abbrev nL(r q p:Nat)(c:Int)(u:Nat):aL:=bG [À (.ref r),À (.ref q),Ã,À (.ref p),Ã,À (.int c),À (.ref u)]
theorem FJ(hr:H[r]?=À (.lst (cs.map .int)))(hq:H[q]?=À (.lst [.int aw,.int m]))(qO:1<=m)(hm:m<=12)(n:Nat)(hn:n<=200):
  ∃(ds:List ax) (ae:ag),aG PP (d+2) 28 [.ref r,.ref q,.int n] H=À (.ok (.tup (ds.map ax.v)),ae)/\aB H ae/\ds.length=n/\∀x∈ds,x.okA aw:=by
 obtain ⟨v,ae,h,bs,rfl,h1⟩:=eI (R:=λv ae=>∃ds:List ax,v=.tup (ds.map ax.v)/\aB H ae/\ds.length=n/\∀x∈ds,x.okA aw) (P:=PP) (k:=28) rfl (as:=[.ref r,.ref q,.int n]) rfl (by
  show W.set (v:=.ref H.length) (Î:=H++[.lst []]) N (W.build (L:=gL r q H.length) ax.v (ax.okA aw) H.length (eD N (by show jL (y1 0xc0000000000003b9aca00d010b00c890 N (iL hn)))) (ay ⟨N,N,N,trivial⟩) (aB.app _ _) (aE _ _) (λj ds bj hj I=>?_) λbs bj I=>?_)
  ·show W' (Oe (d:=d) (a:=3) (b:=20) (U:=cP (gL r q H.length) 4 (.int j)) (e:=.var 4) (I.k _ _ hr) N N (by decide) (by decide) (by decide) (by show jT (y2 0x1c000000000000000f4240d110b00c89011b01 N (iL hn) (iT hj))) N) λc e1=>W.set e1 (W.set (v:=.ref bj.length) (Î:=bj++[.lst []]) N (aF (fm (a:=c.fdiv 7) (b:=4) (by decide)) λt1 f1 l1=>aF (fm (a:=c.fdiv 7) (b:=21) (by decide)) λt2 f2 l2=>?_))
   have hc:∃t:Nat,t<=20/\ab (aG PP (d+1)) (.idx (.list (.cons (.bin .Mod (.bin .FloorDiv (.var 5) (.cst (.int 7))) (.cst (.int 4))) (.cons (.bin .Mod (.bin .FloorDiv (.var 5) (.cst (.int 7))) (.cst (.int 21))) .nil))) (.prim .int (.cons (.and (.cmp .Eq (.bin .Mod (.bin .FloorDiv (.var 5) (.cst (.int 147))) (.cst (.int 40))) (.cst (.int 0))) (.cmp .Lt (.var 4) (.cst (.int 2)))) .nil))) (cP (cP (cP (gL r q H.length) 4 (.int j)) 5 (.int c)) 6 (.ref bj.length)) (bj++[.lst []])=À (.int t,bj++[.lst []]++[.lst [.int ((c.fdiv 7).fmod 4),.int ((c.fdiv 7).fmod 21)]]):=by
    have el:=cg (Á:=aG PP (d+1)) (U:=cP (cP (cP (gL r q H.length) 4 (.int j)) 5 (.int c)) 6 (.ref bj.length)) (H:=bj++[.lst []]) (es:=.cons (.bin .Mod (.bin .FloorDiv (.var 5) (.cst (.int 7))) (.cst (.int 4))) (.cons (.bin .Mod (.bin .FloorDiv (.var 5) (.cst (.int 7))) (.cst (.int 21))) .nil)) (vs:=[.int ((c.fdiv 7).fmod 4),.int ((c.fdiv 7).fmod 21)]) rfl (show 2<=al by decide);obtain ⟨b,hb⟩:∃b,ab (aG PP (d+1)) (.and (.cmp .Eq (.bin .Mod (.bin .FloorDiv (.var 5) (.cst (.int 147))) (.cst (.int 40))) (.cst (.int 0))) (.cmp .Lt (.var 4) (.cst (.int 2)))) (cP (cP (cP (gL r q H.length) 4 (.int j)) 5 (.int c)) 6 (.ref bj.length)) (bj++[.lst []]++[.lst [.int ((c.fdiv 7).fmod 4),.int ((c.fdiv 7).fmod 21)]])=À (.bool b,_):=⟨_,io rfl rfl⟩;cases b with
    |true=>show⟨t2,by show jL (y1 0xc00149011b001590 N l2),bx _ 1 _ _ el (aQ (ak hb) N) (aE _ _) (by decide) (by rw[<-f2];rfl)⟩
    |false=>show⟨t1,by show jL (y1 0xc00149011b480 N l1),bx _ 0 _ _ el (aQ (ak hb) N) (aE _ _) (by decide) (by rw[<-f1];rfl)⟩
   show aF hc λt ht e2=>W.set e2 ?_;have hK:aB bj (bj++[.lst []]++[.lst [.int ((c.fdiv 7).fmod 4),.int ((c.fdiv 7).fmod 21)]]):=(aB.app _ _).trans (aB.app _ _);have hN:=aB.app (bj++[.lst []]) [.lst [.int ((c.fdiv 7).fmod 4),.int ((c.fdiv 7).fmod 21)]] _ _ (aE bj (.lst []));generalize bj++[.lst []]++[.lst [.int ((c.fdiv 7).fmod 4),.int ((c.fdiv 7).fmod 21)]]=cS at hK hN;show W.build (L:=nL r q H.length c bj.length) tv (Hk aw) bj.length (eD N (by show jL (y1 0xc0000000000003b9aca00d010b001490 N (iL ht)))) (ay ⟨N,N,N,N,N,trivial⟩) hK hN (λi ns fg hi ď=>?_) λns fg ď=>?_
   ·show W.set (af N (m9 N _ _ (show i+1<18446744073709551616 from ĳ (acK (ĳ hi ht)) (by decide)))) ?_
    generalize Hg (c.fdiv 28) (i+1)=sm;show W.set N ?_
    have XV:∀(am:Int) (U:aL),1<=am/\am<=201->Le (nL r q H.length c bj.length) U->U 9=À (.int sm)->U 10=À (.int am)->W (aG PP (d+1)) (.cons (.expr (.meth .append (.var 6) (.cons (.tuple (.cons (.call 25 (.cons (.idx (.var 1) (.cst (.int 0))) (.cons (.bin .Mod (.bin .Mod (.var 9) (.cst (.int 60))) (.idx (.var 1) (.cst (.int 1)))) .nil))) (.cons (.var 10) .nil))) .nil))) .nil) U fg (TC tv (Hk aw) bj bj.length (i+1) (nL r q H.length c bj.length)):=λam U ha hl g9 YC=>by show fu (z6 (d:=d) qO hm (ď.k _ _ (I.k _ _ hq)) (hl 1 _ N) g9) λO sr e3 k4 MA=>W.lay (O,am) ď (Đ _) (aI (hl 6 _ N)) (bY (aA e3 (ak (aI YC))) (show 2<=al by decide)) k4 ⟨MA,ha⟩ (by show jL (y2 0xc03e89110b00149011b01 N (iL ht) (iT hi))) hl
    show W.if_ (fw N N) (λz=>?_) λz=>W.nil ?_
    ·show W.set (af N (j4 N _ _ (by decide))) (W.nil (XV _ _ ?_ (ay ⟨N,N,N,N,N,trivial⟩) N N))
     have:=iK (sm.fdiv 28800);show⟨y1 0xc01810b018 N this.1,y1 0xc00c99010b00c890 N this.2⟩
    ·show XV _ _ ?_ (ay ⟨N,N,N,N,N,trivial⟩) N N
     have:=c7 (a:=sm.fdiv 60) (b:=12) (by decide);show⟨y1 0xca0181810b008 N this.1,y1 0xc00c99a01811bc80 N this.2⟩
   ·show aF (fm (a:=c) (b:=7) (by decide)) λdy f3 l3=>W.lay (⟨1+dy,ns⟩:ax) ⟨I.k.trans ď.k,ď.k _ _ I.b,I.l,I.ok⟩ (Đ _) N (bY (aA (by show À (V.int (1+c.fmod 7),fg)=_;rw[f3];rfl) (ak (aQ N (bv ď.b (by rw[H',ď.l];show z' ht (by decide)))))) (show 2<=al by decide)) (aB.refl _) ⟨⟨?_,?_,?_⟩,ď.ok⟩ (by show jL (y2 0xc03e89110b00c89011b01 N (iL hn) (iT hj))) (ay ⟨N,N,N,trivial⟩)
    ·show 1<=1+dy;show jL (y2 0xc11810b00813ba0181 N (iP _) (iA _ _))
    ·show 1+dy<=7;show jL (y2 0xc78111b78012ba0181 N l3 (iA _ _))
    ·show ns.length<=20;rw[ď.l];show ht
  ·show W.retE (aQ N (bv I.b (by rw[H',I.l];show z' hn (by decide)))) ⟨_,N,bs,N,I.k,I.l,I.ok⟩)
 show⟨bs,ae,h,h1⟩
end
section
variable{Á:az}{aD:ff}{U:aL}{H Î:ag}{Q:cm->aL->ag->Prop}
theorem W.acc{α:Type}{e:CE}{body:ff}{i:Nat}{xs:List α}{v:α->V}(B:Int->aL)(g:α->Int)(hs:ab Á e U H=À (.tup (xs.map v),H))(z:Int)(hl:Le (B z) U)
  (step:∀x∈xs,∀z ae,aB H ae->W Á body (cP (B z) i (v x)) ae λfl aR ij=>fl=.next/\Le (B (z+g x)) aR/\aB H ij) (k:∀ae,aB H ae->W Á aD (B (z+be (xs.map g))) ae Q):W Á (.cons (.for_ (.one i) (.ex e) body) aD) U H Q:=by
 show W.loop (cH hs) (λj U ae=>U=B (z+be ((xs.take j).map g))/\aB H ae) hl ⟨congrArg B (ů z).symm,aB.refl _⟩ (λt t t t=>bw _) (λj y IG bj hy q1=>?_) λIG bj q1=>?_
 ·show aO q1 λq1 hK=>?_;apply aW q1
  show aF (l5 hy) λx hx q3=>?_;apply aW q3;show⟨_,N,W.mono (step x (ĥ hx) _ bj hK) λfl aR ae q=>⟨q.1,_,q.2.1,?_,q.2.2⟩⟩;rw[bC hx,Ŗ,List.map_singleton,tE,ϩ]
 ·show aO q1 λq1 hK=>?_;apply aW q1
  rw[H',ŋ];show k bj hK
end
section
variable{d r q m j:Nat}{H:ag}{U:aL}{cs:List Int}{aw:Int}{ds:List ax}
theorem ax.okA.nn{x:ax}(h:x.okA aw):x.nn:=λp hp=>Ŀ (by decide) (h.2 p hp).2.1
theorem B4:∀{l:List Int},(∀x∈l,0<=x)->0<=be l
 |[],_=>Ř _
 |x::l,h=>by rw[aY];show acr (h x G') (B4 λy hy=>h y (J' _ hy))
theorem PB(hd:∀x∈ds,x.okA aw)(O:Str):0<=be (ds.map (eR O 0)):=B4 λy hy=>by
 show aF (ś.mp hy) λx hx e=>?_;apply fv e;unfold eR;split
 ·show qf (hd x hx).nn
 ·show Ř _
theorem xh(hd:∀x∈ds,x.okA aw)(O:Str):∃ae,aG PP (d+1) 35 [.tup (ds.map ax.v),.str O] H=À (.ok (.int (be (ds.map (eR O 0)))),ae)/\aB H ae:=by show fu (eI (R:=λv ae=>v=.int (be (ds.map (eR O 0)))/\aB H ae) (P:=PP) (k:=35) (H:=H) (d:=d) N (as:=[.tup (ds.map ax.v),.str O]) N (W.set N (W.acc (λz=>bG [Ã,À (.str O),À (.int z)]) (eR O 0) N 0 (ay ⟨N,N,trivial⟩) (λx hx z bj hK=>?_) λbj hK=>W.retE N ⟨_,N,congrArg V.int (Ű _),hK⟩))) λv ae h q k=>⟨ae,q▸h,k⟩;have ou:=hd x hx;have hs:=rR (Á:=aG PP d) (elt:=xu 4 1) (t:=.one 4) (it:=.ex (xu 3 1)) (ifs:=a1 (xE (xu 4 0) (xv 1))) (U:=cP (bG [Ã,À (.str O),À (.int z)]) 3 x.v) (H:=bj) (p:=λp:Str×Int=>p.1==O) (f:=Prod.snd) (cH N) (bw _) (z' ou.1.2.2 (by decide)) λp hp=>⟨_,N,nK N,λy=>rfl⟩;show W.set (v:=.int (z+gx x.ns O)) (aP N hs N) (W.nil ⟨N,?_,hK.trans (aB.app _ _)⟩);rw[show eR O 0 x=gx x.ns O from if_pos ou.1.1];show ay ⟨N,N,trivial⟩
theorem Pq{l:List V}{a:Nat}(h:a<=l.length)(hl:l.length<=1000):xw (.tup l) .none (.int a) H=À (.tup (l.take a),H):=by show ((m6 V.none).bind λi=>(kY l.length (.int a)).bind λj=>rj H (oQ l i j))=_;rw[mR (XS (z' h hl)),ĵ,ac9 h];show if_pos (z' (tY l 0 a) (z' hl (by decide)))
theorem vc{l:List V}{a:Nat}(h:a<=l.length)(hl:l.length<=1000):xw (.tup l) (.int a) .none H=À (.tup (l.drop a),H):=by
 show ((m6 (.int a)).bind λi=>(kY l.length .none).bind λj=>rj H (oQ l i j))=_;rw[qU (XS (z' h hl)),ĵ];have:oQ l a l.length=l.drop a:=by unfold oQ;rw[ŋ]
 show rj H (oQ l a l.length)=_;rw[this];show if_pos (z' (by rw[ϱ];show ŏ _ _) (z' hl (by decide)))
theorem E2{a b:List V}(h:a.length+b.length<=1000):oN .Add (.tup a) (.tup b) H=À (.tup (a++b),H):=if_pos (by rw[û];show z' h (by decide))
end
def pT(d:Nat)(H:ag)(aw:Int)(ds:List ax)(k:Nat)(c:Int):Prop:=∀(hd:∀x∈ds,x.okA aw) (hl:ds.length<=24) (hk:k<12),∃(FP:List ax) (ae:ag),aG PP (d+2) 40 [.tup (ds.map ax.v),.str (gu aw k),.int c] H=À (.ok (.tup (FP.map ax.v)),ae)/\aB H ae/\FP.length<=26/\∀x∈FP,x.okA aw
namespace near11H
def kc:=hc (U6 pT) (0,[],0,[],0,0)
def d:=kc.1
def H:=kc.2.1
def aw:=kc.2.2.1
def ds:=kc.2.2.2.1
def k:=kc.2.2.2.2.1
def c:=kc.2.2.2.2.2
theorem kt:pT d H aw ds k c:=by
 intro hd hl hk;generalize hn:gu aw k=O
 obtain ⟨v,ae,h,FP,rfl,h1⟩:=eI (R:=λv ae=>∃FP:List ax,v=.tup (FP.map ax.v)/\aB H ae/\FP.length<=26/\∀x∈FP,x.okA aw) (P:=PP) (k:=40) rfl (as:=[.tup (ds.map ax.v),.str O,.int c]) rfl (by
  show aF (xh (d:=d) (H:=H) hd O) λbj e1 k1=>?_;have hz:=PB hd O;generalize be (ds.map (eR O 0))=z at e1 hz;show W.set (aP N (af N e1) N) ?_;have h3:=c7 (a:=c) (b:=3) (by decide);generalize hw:199+c.fmod 3-z=w;have XI:w<=201:=by show y3 0xc00c99210b00811b38113b2e0a100c79 N hz h3.2 hw
  show W.if_ N (λj=>W.retE N ⟨_,N,ds,N,k1,by show jL (y1 0xc001a9010b001890 N (iL hl)),hd⟩) λh2=>W.nil ?_;have hm:=c7 (a:=c.fdiv 3) (b:=w-1) (by show y1 0x1ce1800815b280 N h2);show W.set (aP N (aP N N (dH (by show λq0=>zI (y1 0x1c080815b28012b08e180 N h2 q0)))) N) ?_;generalize (c.fdiv 3).fmod (w-1)=t at hm;show aF (fm (a:=c.fdiv 600) (b:=7) (by decide)) λd1 f1 g1=>aF (fm (a:=c.fdiv 4200) (b:=7) (by decide)) λd2 f2 g2=>?_
  have nd:∀(H:ag) (U:aL) (e b:CE) (i:Nat) (y:Int),ab (aG PP (d+1)) e U H=À (.int ((1+i:Nat):Int),H)->ab (aG PP (d+1)) b U H=À (.int y,H)->U 1=À (.str O)->ab (aG PP (d+1)) (.tuple (.cons e (.cons (.tuple (.cons (.tuple (.cons (.var 1) (.cons b .nil))) .nil)) .nil))) U H=À (ax.v ⟨1+i,[(O,y)]⟩,H):=λH U e b i y h1 h2 h3=>
   bY (aA h1 (ak (bY (ak (bY (aA (aI h3) (ak h2)) (show 2<=al by decide))) (show 1<=al by decide)))) (show 2<=al by decide)
  show W.set (v:=.tup ([⟨1+d1,[(O,1+t)]⟩,⟨1+d2,[(O,w-(1+t))]⟩].map ax.v)) (Î:=bj) (bY (aA (nd _ _ _ _ d1 _ (by show À (V.int (1+(c.fdiv 600).fmod 7),bj)=_;rw[f1];rfl) N N) (ak (nd _ _ _ _ d2 _ (by show À (V.int (1+(c.fdiv 4200).fmod 7),bj)=_;rw[f2];rfl) N N))) (show 2<=al by decide)) (aF (fm (a:=c.fdiv 30000) (b:=(ds.map ax.v).length+1) (by show y1 0x1ca1800810b008 N (iP _))) λa f3 g3=>?_);have S6:(ds.map ax.v).length<=1000:=by rw[H'];show jL (y1 0xc03e89010b001890 N (iL hl))
  show W.set (Î:=bj) (f3▸aP N (aP (aQ N (jz _)) N N) (dH (by show λq0=>zI (y1 0x1c080810b00812b08a180 N (iP _) q0)))) ?_;have ha:a<=(ds.map ax.v).length:=by show jL (y2 0xc1011ba1810 N g3)
  show W.retE (v:=.tup ((ds.take a++[(⟨1+d1,[(O,1+t)]⟩:ax),⟨1+d2,[(O,w-(1+t))]⟩]++ds.drop a).map ax.v)) (aP (aP (lQ (aI N) N N (Pq ha S6)) (aI N) (E2 ?_)) (lQ (aI N) N N (vc ha S6)) ((E2 ?_).trans ?_)) ⟨_,N,_,N,k1,?_,λx hx=>?_⟩
  ·rw[Ŭ,H'];show z' (ϣ (z' (acL _ _) hl) 2) (by decide)
  ·rw[û,Ŭ,ϱ,H',H'];show z' (Ϗ (ϣ (z' (acL _ _) hl) 2) (z' (ŏ _ _) hl)) (by decide)
  ·rw[Ŗ,Ŗ,List.map_take,afz]
  ·rw[H']at ha
   rw[û,û,Ŭ,ϱ,Ŵ ha];show a+2+_<=_;show jL (y5 0xc001a9310b00189012ba282112ba41312be204 N (iL hl) (iA _ _) (iA _ _) (ϵ (jL (y2 0xc1010b10 N (iL ha)))))
  ·have nw:∀(i:Nat) (b:Int),(i:Int)<7->1<=b->b<=201->ax.okA aw ⟨1+i,[(O,b)]⟩:=λi b h1 h2 h3=>⟨⟨Ň 1 i,(by show jL (y2 0xc78111b78012ba0181 N h1 (iA _ _)):1+i<=7),(by decide:1<=20)⟩,λp hp=>O'.mp hp▸⟨⟨k,hk,hn.symm⟩,h2,h3⟩⟩
   rcases Ģ.mp hx with hx|hx
   ·rcases Ģ.mp hx with hx|hx
    ·show hd x (ŭ hx)
    ·rcases Ĉ.mp hx with hx|hx
     ·show hx▸nw d1 _ g1 (by show y1 0xca0181810b008 N hm.1) (by show y2 0xc00c99a11810b00c99011be1801 N XI hm.2)
     ·show O'.mp hx▸nw d2 _ g2 (by show y2 0xcea01811811be1810 N hm.2) (by show y2 0xc00c99ea118010b00c99010b108 N XI hm.1)
   ·show hd x (ϛ hx))
 show⟨FP,ae,h,h1⟩
end near11H
theorem Pb{ds:List ax}:pT d H aw ds k c:=hk (P:=U6 pT) near11H.kt (d,H,aw,ds,k,c)
def Pk.okQ(p:Pk):Prop:=4<=p.a/\p.a<=200
structure SD(ds:List ax)(bs:List aU)(ps:List Pk)(aw:Int):Prop where
 dl:ds.length<=26
 dk:∀x∈ds,x.okA aw
 bl:bs.length<=120
 bk:∀b∈bs,0<=b.a
 pl:ps.length<=9
 pk:∀p∈ps,p.okQ
abbrev wL(q:Nat)(ds:List ax)(bs:List aU)(ps:List Pk)(z:Int):aL:=bG [Ã,À (.ref q),Ã,À (.tup (ds.map ax.v)),À (.tup (bs.map aU.v)),À (.tup (ps.map Pk.v)),À (.int z)]
def nP(d:Nat)(r:Nat)(H:ag)(cs:List Int):Prop:=∀(hr:H[r]?=À (.lst (cs.map .int))),∃(w:Nat) (ds:List ax) (bs:List aU) (ps:List Pk) (aw:Int) (ae:ag),aG PP (d+4) 41 [.ref r] H=À (.ok (.ref w),ae)/\ae[w]?=À (.lst [.tup (ds.map ax.v),.tup (bs.map aU.v),.tup (ps.map Pk.v)])/\aB H ae/\SD ds bs ps aw
namespace world11H
def kc:=hc (U4 nP) (0,0,[],[])
def d:=kc.1
def r:=kc.2.1
def H:=kc.2.2.1
def cs:=kc.2.2.2
theorem kt:nP d r H cs:=by
 intro hr
 obtain ⟨v,ae,h,w,ds,bs,ps,aw,rfl,h1⟩:=eI (R:=λv ae=>∃(w:Nat) (ds:List ax) (bs:List aU) (ps:List Pk) (aw:Int),v=.ref w/\ae[w]?=À (.lst [.tup (ds.map ax.v),.tup (bs.map aU.v),.tup (ps.map Pk.v)])/\aB H ae/\SD ds bs ps aw) (P:=PP) (k:=41) (H:=H) (d:=d+3) rfl (as:=[.ref r]) rfl (by
  show WU (z7 (d:=d+1) hr) λq aw m bj e1 hq k1 qO hm=>W.set (af (vs:=[.ref r]) N e1) ?_;have h1:=k1 _ _ hr;show W.set (af (vs:=[.ref r,.int 2]) N (qm (P:=PP) (k:=21) (d:=d+2) N h1 2 (by decide) N)) ?_;generalize cellF cs 2=c;show aF (tj (P:=PP) (k:=33) (d:=d+2) (H:=bj) N c 5 24 (by decide)) λn1 f1 C8=>JG (FJ (d:=d+1) h1 hq qO hm n1 (by show jL (y1 0xc00c89010b001890 N (iL C8)))) λds cS e2 k2 Mw SX=>W.set (af (vs:=[.ref r,.ref q,.int n1]) (aA N (aA N (ak (af (vs:=[.int c,.int 5,.int 24]) N f1)))) e2) (aF (tj (P:=PP) (k:=33) (d:=d+2) (H:=cS) N (c.fdiv 1500) 5 120 (by decide)) λn2 f2 C9=>JG (G4 (d:=d+1) (k2 _ _ h1) (k2 _ _ hq) qO hm n2 (by show jL (y1 0xc00c89010b007890 N (iL C9)))) λbs fg e3 k3 Y4 Y3=>W.set (af (vs:=[.ref r,.ref q,.int n2]) (aA N (aA N (ak (af (vs:=[.int (c.fdiv 1500),.int 5,.int 120]) N f2)))) e3) ?_);have k3:=k2.trans k3;show aF (fm (a:=c.fdiv 60000) (b:=6) (by decide)) λn3 f3 Rp=>JG (KQ (d:=d+1) (k3 _ _ h1) (k3 _ _ hq) qO hm n3 (by show jL (y1 0xc00c89011b680 N Rp))) λps sr e4 k4 zz IY=>W.set (af (vs:=[.ref r,.ref q,.int n3]) (aA N (aA N (ak (by show À (V.int ((c.fdiv 60000).fmod 6),fg)=_;rw[f3])))) e4) ?_;have k4:=k3.trans k4;have ZN:=k4 _ _ hq;have YM:=k1.trans k4;have hz:(ps.map λp:Pk=>Pk.v ⟨p.n,max 4 p.a,p.p,p.l⟩).length<=al:=by rw[H',zz];show z' (by show jL (y1 0xc68011b680 N Rp):n3<=6) (by decide)
  have ec:=ez (elt:=ab (aG PP (d+3)) (.bin .Add (.tuple (.cons (.idx (.var 9) (.cst (.int 0))) (.cons (.prim .max2 (.cons (.cst (.int 4)) (.cons (.idx (.var 9) (.cst (.int 1))) .nil))) .nil))) (.slc (.var 9) (.cst (.int 2)) (.cst .none)))) (cond:=dp (aG PP (d+3)) .nil) (t:=.one 9) (w:=[]) (U:=cP (cP (cP (cP (cP (bI [.ref r]) 1 (.ref q)) 2 (.int c)) 3 (.tup (ds.map ax.v))) 4 (.tup (bs.map aU.v))) 5 (.tup (ps.map Pk.v))) (H:=sr) (g:=Pk.v) (p:=λu=>Æ) (f:=λp:Pk=>Pk.v ⟨p.n,max 4 p.a,p.p,p.l⟩) (bw _) (xs:=ps) λp hp=>
   ⟨_,N,N,λu=>aP (x:=.tup [.str p.n,.int (max 4 p.a)]) (bY (aA (bg 0 _ _ (aI (v:=p.v) N) N (by decide) N) (ak (aQ (vs:=[.int 4,.int p.a]) (aA N (ak (bg 1 _ _ (aI (v:=p.v) N) N (by decide) N))) N))) (show 2<=al by decide)) (lQ (aI (v:=p.v) N) N N (vc (a:=2) (l:=[.str p.n,.int p.a,.int p.p,.int p.l]) (show 2<=4 by decide) (show 4<=1000 by decide))) (E2 (show 4<=1000 by decide))⟩
  rw[fx]at ec;show W.set (aQ (ak (fK (cH N) ec hz)) (bv (aE _ _) hz)) ?_
  have pP:∀p∈ps.map λp:Pk=>(⟨p.n,max 4 p.a,p.p,p.l⟩:Pk),p.okQ:=λp hp=>by show aF (ś.mp hp) λx hx e=>?_;apply fv e;have:=IY x hx;unfold Pk.okP at this;show⟨(by show y1 0xc04810b048 N (adj _ _):4<=max 4 x.a),(by show(acP _ _).elim (λd0=>y2 0xc00c89110b00c89012b01 N this.2 (acJ d0)) λd0=>y1 0xc00c89012b480 N (adi d0):max 4 x.a<=200)⟩
  rw[show (ps.map λp:Pk=>Pk.v ⟨p.n,max 4 p.a,p.p,p.l⟩)=(ps.map λp:Pk=>(⟨p.n,max 4 p.a,p.p,p.l⟩:Pk)).map Pk.v by rw[Ū];rfl];have UG:aB H (sr++[.lst ((ps.map λp:Pk=>(⟨p.n,max 4 p.a,p.p,p.l⟩:Pk)).map Pk.v)]):=YM.trans (aB.app _ _);have PV:=aB.app sr [.lst ((ps.map λp:Pk=>(⟨p.n,max 4 p.a,p.p,p.l⟩:Pk)).map Pk.v)] _ _ ZN;have zz:(ps.map λp:Pk=>(⟨p.n,max 4 p.a,p.p,p.l⟩:Pk)).length<=5:=by rw[H'];show jL (y2 0xc58111b68012b01 N Rp (iE zz))
  generalize sr++[.lst ((ps.map λp:Pk=>(⟨p.n,max 4 p.a,p.p,p.l⟩:Pk)).map Pk.v)]=li at UG PV;generalize (ps.map λp:Pk=>(⟨p.n,max 4 p.a,p.p,p.l⟩:Pk))=ps1 at pP zz;show W.set (v:=.int (c.fdiv 700000)) N ?_;generalize c.fdiv 700000=z
  -- the gi part,from any packs
  have hW:∀(ps:List Pk) (U:aL) (li:ag),ps.length<=9->(∀p∈ps,p.okQ)->aB H li->li[q]?=À (.lst [.int aw,.int m])->Le (wL q ds bs ps z) U ->
    W (aG PP (d+3)) (.cons (.ite (.cmp .Eq (.bin .Mod (.bin .FloorDiv (.var 6) (.cst (.int 9000))) (.cst (.int 9))) (.cst (.int 0))) (.cons (.assign (.one 3) (.call 40 (.cons (.var 3) (.cons (.call 25 (.cons (.idx (.var 1) (.cst (.int 0))) (.cons (.bin .Mod (.bin .FloorDiv (.var 6) (.cst (.int 81000))) (.idx (.var 1) (.cst (.int 1)))) .nil))) (.cons (.bin .FloorDiv (.var 6) (.cst (.int 1000000))) .nil))))) .nil) .nil)
     (.cons (.ret (.list (.cons (.var 3) (.cons (.var 4) (.cons (.var 5) .nil))))) .nil)) U li λfl u ae=>∃v,fl=.ret v/\∃(w:Nat) (ds:List ax) (bs:List aU) (ps:List Pk) (aw:Int),v=.ref w/\ae[w]?=À (.lst [.tup (ds.map ax.v),.tup (bs.map aU.v),.tup (ps.map Pk.v)])/\aB H ae/\SD ds bs ps aw:=λps U li zz IY hK hq hl=>by
   show W.le hl ?_
   have ret:∀(ds:List ax) (U:aL) (li:ag),ds.length<=26->(∀x∈ds,x.okA aw)->aB H li->U 3=À (.tup (ds.map ax.v))->U 4=À (.tup (bs.map aU.v))->U 5=À (.tup (ps.map Pk.v))->W (aG PP (d+3)) (.cons (.ret (.list (.cons (.var 3) (.cons (.var 4) (.cons (.var 5) .nil))))) .nil) U li λfl u ae=>∃v,fl=.ret v/\∃(w:Nat) (ds:List ax) (bs:List aU) (ps:List Pk) (aw:Int),v=.ref w/\ae[w]?=À (.lst [.tup (ds.map ax.v),.tup (bs.map aU.v),.tup (ps.map Pk.v)])/\aB H ae/\SD ds bs ps aw:=λds U li Mw SX hK g3 g4 g5=>
    W.retE (cg (aA (aI g3) (aA (aI g4) (ak (aI g5)))) (show 3<=al by decide)) ⟨_,N,_,ds,bs,ps,aw,N,aE _ _,hK.trans (aB.app _ _),Mw,SX,by show jL (y2 0xc00789110b00789012b01 N (iL C9) (iE Y4)),Y3,zz,IY⟩
   show W.if_ (p:=(z.fdiv 9000).fmod 9=0) (fw N N) (λu=>aF (fm (a:=z.fdiv 81000) (b:=m) (by show y1 0x1c00810b018 N (iL qO))) λk fk hk=>aF (l7 (P:=PP) (k:=25) (d:=d+2) (H:=li) N aw k (by show jT (y2 0x1c00649110bc8011b01 N (iL hm) hk))) λCi e6 k6=>JG (Pb (d:=d+1) (H:=Ci) (k:=k) (c:=z.fdiv 1000000) SX (by show jL (y2 0xc00189110b00189012b01 N (iL C8) (iE Mw))) (by show jT (y2 0x1cc8110bc8011b01 N (iL hm) hk))) λFP P8 e7 k7 Ve Vd=>W.set (af (vs:=[.tup (ds.map ax.v),.str (gu aw k),.int (z.fdiv 1000000)]) (aA N (aA (af (vs:=[.int aw,.int k]) (aA (bx q 0 _ _ N N hq (by decide) N) (ak (fk▸aP (x:=.int (z.fdiv 81000)) (y:=.int m) N (bx q 1 _ _ N N hq (by decide) N) (dH (by show λq0=>zI (y1 0x1c080810b01812b080 N (iL qO) q0)))))) e6) (ak N))) e7) (W.nil (ret FP _ _ Ve Vd ((hK.trans k6).trans k7) N N N))) λu=>W.nil (ret ds _ _ (by show jL (y2 0xc001a9110b00189012b01 N (iL C8) (iE Mw))) SX hK N N N)
  have Zd:=io (Á:=aG PP (d+3)) (U:=wL q ds bs ps1 z) (H:=li) (a:=.cmp .Gt (.bin .Mod (.var 6) (.cst (.int 3))) (.cst (.int 0))) (b:=.cmp .Lt (.idx (.var 1) (.cst (.int 1))) (.cst (.int 5))) N (bN (bx q 1 _ _ N N PV (by decide) N) N N);show W.le (a:=wL q ds bs ps1 z) (ay ⟨N,N,N,N,N,trivial⟩) (W.ifB Zd (λhb=>?_) λu=>W.nil (hW ps1 _ _ (by show jL (y1 0xc98010b580 N (iL zz))) pP UG PV (Le.refl _)));have VE:m<5:=by have:=of_decide_eq_true (Ľ.mp hb).2;show jT (y1 0x1c58011b580 N this)
  show W.loop (eD (n:=m) (bx q 1 _ _ N N PV (by decide) N) (by show jL (y1 0xc0000000000003b9aca00d010bc80 N (iL hm))))
   (λj U ae=>∃ps:List Pk,U=wL q ds bs ps z/\ps.length<=5+j/\(∀p∈ps,p.okQ)/\aB li ae) (a:=wL q ds bs ps1 z) (Le.refl _) ⟨ps1,N,zz,pP,aB.refl _⟩ (λu u u u=>bw _) (λj y ρ6 Ci hy q1=>?_) λρ6 Ci q1=>?_
  ·show wg q1 λps q1 hl hk hK=>?_;apply aW q1
   show aO (gW hy) λhj q2=>?_;apply aW q2;show aF (l7 (P:=PP) (k:=25) (d:=d+2) (H:=Ci) N aw j (Ϟ hj (Ϟ VE (by decide)))) λP8 e7 k7=>?_;have b1:=c7 (a:=z.fdiv 3+j) (b:=17) (by decide);show⟨_,N,W.set (af (vs:=[.int aw,.int j]) (aA (bx q 0 _ _ N N (hK _ _ PV) (by decide) N) (ak N)) e7) (W.set (v:=.tup ((ps++[(⟨gu aw j,4+(z.fdiv 3+j).fmod 17,(z.fdiv 60).fmod 50+j,7+(j:Int).fmod 3⟩:Pk)]).map Pk.v)) (Î:=P8) (aP (aI N) (bY (vs:=[Pk.v ⟨gu aw j,4+(z.fdiv 3+j).fmod 17,(z.fdiv 60).fmod 50+j,7+(j:Int).fmod 3⟩]) (ak (bY (vs:=[.str (gu aw j),.int (4+(z.fdiv 3+j).fmod 17),.int ((z.fdiv 60).fmod 50+j),.int (7+(j:Int).fmod 3)]) N (show 4<=al by decide))) (show 1<=al by decide)) ((E2 (by rw[H'];show z' (š (z' hl (ϴ (ī (Ϟ hj VE)) 5))) (by decide))).trans (by rw[Ŗ];rfl))) (W.nil ⟨N,wL q ds bs (ps++[(⟨gu aw j,4+(z.fdiv 3+j).fmod 17,(z.fdiv 60).fmod 50+j,7+(j:Int).fmod 3⟩:Pk)]) z,ay ⟨N,N,N,N,N,trivial⟩,_,N,by rw[û];show š hl,λp hp=>ã (Ģ.mp hp) (hk p) λh=>O'.mp h▸⟨Int.le_add_of_nonneg_right b1.1,Ŀ (adY (acQ b1.2) 4) (by decide)⟩,hK.trans k7⟩))⟩
  ·show wg q1 λps q1 hl hk hK=>?_;apply aW q1
   rw[gZ]at hl;show W.nil (hW ps _ _ (z' hl (ϴ (ϋ VE) 5)) hk (UG.trans hK) (hK _ _ PV) (Le.refl _)))
 show⟨w,ds,bs,ps,aw,ae,h,h1⟩
end world11H
theorem LF:nP d r H cs:=hk (P:=U4 nP) world11H.kt (d,r,H,cs)
def zp(n:Str)(t:Nat)(b:aU):Int:=if pk n t b then b.a else 0
def fc(ds:List ax)(bs:List aU)(n:Str)(t:Nat):Int:=max 0 (0+be (ds.map (eR n t))+be (bs.map λb=>- zp n t b))
abbrev Wg(ds:List ax)(bs:List aU)(n:Str)(p:Nat)(t:Nat)(z:Int):aL:=bG [À (.tup (ds.map ax.v)),À (.tup (bs.map aU.v)),À (.str n),À (.ref p),À (.int ((t:Int)+1)),À (.int z)]
def mX(d:Nat)(H:ag)(ds:List ax)(bs:List aU)(O:Str):Prop:=∀(hd:∀x∈ds,x.ok),∃ae,aG PP (d+1) 34 [.tup (ds.map ax.v),.tup (bs.map aU.v),.str O] H=À (.ok (.ref H.length),ae)/\ae[H.length]?=À (.lst (((ċ 7).map (fc ds bs O)).map .int))/\aB H ae
namespace lacks11H
def kc:=hc (U5 mX) (0,[],[],[],default)
def d:=kc.1
def H:=kc.2.1
def ds:=kc.2.2.1
def bs:=kc.2.2.2.1
def O:=kc.2.2.2.2
theorem kt:mX d H ds bs O:=by
 intro hd
 obtain ⟨v,ae,h,rfl,h1⟩:=eI (R:=λv ae=>v=.ref H.length/\ae[H.length]?=À (.lst (((ċ 7).map (fc ds bs O)).map .int))/\aB H ae) (P:=PP) (k:=34) (d:=d) rfl (as:=[.tup (ds.map ax.v),.tup (bs.map aU.v),.str O]) rfl (by
  show W.set (Î:=H++[.lst []]) N (W.loop (xs:=cp 1 (7+1:Nat) 1) N
   (λj U ae=>U=bG [À (.tup (ds.map ax.v)),À (.tup (bs.map aU.v)),À (.str O),À (.ref H.length)]/\aB H ae/\ae[H.length]?=À (.lst (((ċ j).map (fc ds bs O)).map .int)))
   (a:=bG [À (.tup (ds.map ax.v)),À (.tup (bs.map aU.v)),À (.str O),À (.ref H.length)]) (ay ⟨N,N,N,N,trivial⟩) ⟨N,aB.app _ _,aE _ _⟩ (λu u u u=>bw _) (λj y IG bj hy q1=>?_) λIG bj q1=>?_)
  ·show gH q1 λq1 hK hU=>?_;apply aW q1
   show aO (xo hy) λhj q2=>?_;apply aW q2;show⟨_,N,W.set N (W.acc (Wg ds bs O H.length j) (eR O j) N 0 (ay ⟨N,N,N,N,N,N,trivial⟩) (λx hx z cS hK2=>?_) λcS hK2=>?_)⟩
   ·unfold eR
    show W.if_ (bN (bg 0 _ _ (aI N) N (by decide) N) N N) (λhc=>?_) λhc=>W.nil (W.nil ⟨N,?_,hK2⟩)
    ·have hs:=rR (Á:=aG PP d) (elt:=.idx (.var 8) (.cst (.int 1))) (t:=.one 8) (it:=.ex (.idx (.var 6) (.cst (.int 1)))) (ifs:=.cons (.cmp .Eq (.idx (.var 8) (.cst (.int 0))) (.var 2)) .nil) (U:=cP (Wg ds bs O H.length j z) 6 x.v) (H:=cS) (cH (bg 1 _ _ (aI N) N (by decide) N)) (bw _) (z' (hd x hx).2.2 (by decide)) λp hp=>⟨_,N,nK (bN (bg 0 _ _ (aI N) N (by decide) N) N N),λu=>bg 1 _ _ (aI N) N (by decide) N⟩
     show W.set (v:=.int (z+gx x.ns O)) (aP N hs N) (W.nil (W.nil ⟨N,?_,hK2.trans (aB.app _ _)⟩));rw[if_pos (by show jT (y2 0x1c1010b1a180 N hc))];show ay ⟨N,N,N,N,N,N,trivial⟩
    ·rw[if_neg (by show λq0=>zI (y2 0x1c080814b1a18011b10 N hc (iT q0))),ů]
     show ay ⟨N,N,N,N,N,N,trivial⟩
   ·generalize hy0:0+be (ds.map (eR O j))=y0
    show W.acc (Wg ds bs O H.length j) (λb=>- zp O j b) N y0 (Le.refl _) (λb hb z fg Q1=>?_) λfg Q1=>?_
    ·unfold zp
     show W.ifB (b:=pk O j b) (io (bN (bg 0 _ _ (aI N) N (by decide) N) N N) (bN (bg 2 _ _ (aI N) N (by decide) N) N N)) (λhc=>?_) λhc=>W.nil (W.nil ⟨N,?_,Q1⟩)
     ·show W.set (aP N (bg 1 _ _ (aI N) N (by decide) N) N) (W.nil (W.nil ⟨N,?_,Q1⟩))
      rw[if_pos hc];show ay ⟨N,N,N,N,N,N,trivial⟩
     ·rw[if_neg (λq=>Ķ (hc.symm.trans q)),Int.neg_zero,ů]
      show ay ⟨N,N,N,N,N,N,trivial⟩
    ·have Xe:=Q1 _ _ (hK2 _ _ hU)
     show W.append0 H.length _ (.int (max 0 (y0+be (bs.map λb=>- zp O j b)))) N Xe (aQ N N) (by rw[H',H',Ś];show z' (ī hj) (by decide)) (W.nil ⟨N,bG [À (.tup (ds.map ax.v)),À (.tup (bs.map aU.v)),À (.str O),À (.ref H.length)],ay ⟨N,N,N,N,trivial⟩,N,(hK.trans (hK2.trans Q1)).set (Đ _),?_⟩);rw[eG Xe,acA,Ŗ,Ŗ,<-hy0];rfl
  ·show gH q1 λq1 hK hU=>?_;apply aW q1
   rw[xp]at hU;show W.retE N ⟨_,N,N,hU,hK⟩)
 show⟨ae,h,h1⟩
end lacks11H
theorem Bt{ds:List ax}:mX d H ds bs O:=hk (P:=U5 mX) lacks11H.kt (d,H,ds,bs,O)
section
variable{Á:az}{aD body y:ff}{U L:aL}{H Î Ý:ag}{Q:cm->aL->ag->Prop}{t:jS}{it:jo}{ws:List (Nat×bp)}{e:CE}{as:gb}{vs:List V}{c f i:Nat}{w:Str}{v:V}
def EQ(L:aL)(I:Nat->ag->Prop)(ď:cm->ag->Prop)(j:Nat)(fl:cm)(U:aL)(H:ag):Prop:=(fl=.next/\Le L U/\I (j+1) H)\/(fl≠.next/\ď fl H)
theorem W.each{α:Type}{xs:List α}{g:α->V}(L:aL)(I:Nat->ag->Prop)(ď:cm->ag->Prop)(hs:cB Á it U H=À (xs.map g,ws,Î))(hl:Le L U)(h0:I 0 Î)(hw:∀j H,I j H->cA H ws)
  (step:∀j x H,xs[j]?=À x->I j H->∃aR,t.put (g x) L=À aR/\W Á body aR H (EQ L I ď j)) (k:∀ae,I xs.length ae->W Á aD L ae Q) (kj:∀fl aR ae,ď fl ae->Q fl aR ae):W Á (.cons (.for_ t it body) aD) U H Q:=by
 show W.loopE hs (λj U H=>U=L/\I j H) ď hl ⟨N,h0⟩ (λj z H h=>hw j H h.2) (λj y IG bj hy q=>?_) (λIG bj q=>?_) kj
 ·show aO q λq hI=>?_;apply aW q
  show aF (l5 hy) λx hx q3=>?_;apply aW q3;show aF (step j x bj hx hI) λaR h1 h2=>⟨aR,h1,h2.mono λfl aR ae q=>q.imp (λq=>⟨q.1,L,q.2.1,N,q.2.2⟩) id⟩
 ·show aO q λq hI=>?_;apply aW q
  rw[H']at hI;show k bj hI
theorem W.forX(h:bO Á as U H=À (vs,Î))(hc:Á f vs Î=À (.exc c w,Ý))(k:Q (.exc c w) U Ý):W Á (.cons (.for_ t (.ex (.call f as)) body) aD) U H Q:=
 W.out (fl:=.exc c w) (λq=>nomatch q) (λr hl=>by have X:=mO (db as hl h) hc;rw[yZ];show pL (by rw[kO,X.1];rfl) X.2) k
theorem W.setX(h:bO Á as U H=À (vs,Î))(hc:Á f vs Î=À (.exc c w,Ý))(k:Q (.exc c w) U Ý):W Á (.cons (.assign t (.call f as)) aD) U H Q:=
 W.out (fl:=.exc c w) (λq=>nomatch q) (λr hl=>by have X:=mO (db as hl h) hc;rw[gI];show pL (by rw[X.1];rfl) X.2) k
theorem W.tryO(h:ab Á e U H=À (v,Ý))(k:Q (.ret v) U Ý):W Á (.cons (.try_ (.cons (.ret e) .nil) i y) aD) U H Q:=
 W.out (fl:=.ret v) (λq=>nomatch q) (λr hl=>by
  have e1:aN Á (.cons (.ret e) .nil) r H=À (.ret v,r,Ý):=by show ig (bD Á (.ret e) r H) _=_;rw[lR,lL (r:=(.ret v,r,Ý)) (by rw[aJ e hl h];rfl)];rfl
  rw[y9,e1];rfl) k
theorem W.tryE(h:bO Á as U H=À (vs,Î))(hc:Á f vs Î=À (.exc c w,Ý))(hy:W Á y (cP U i (.ref (Ý.length+1))) (Ý++[.wd w,.exn c Ý.length]) λfl aR ae=>fl=.ret v/\Q (.ret v) aR ae):W Á (.cons (.try_ (.cons (.ret (.list (.cons (.call f as) (.cons e .nil)))) .nil) i y) aD) U H Q:=λr hl=>by
 obtain ⟨fl,b,aR,ae,h1,h2,rfl,h3⟩:=hy _ (hl.upd i _);show⟨.ret v,b,aR,ae,h1,?_,h3⟩;have X:=mO (db as hl h) hc
 have e1:aN Á (.cons (.ret (.list (.cons (.call f as) (.cons e .nil)))) .nil) r H=À (.exc c w,r,Ý):=by
  show ig (bD Á (.ret (.list (.cons (.call f as) (.cons e .nil)))) r H) _=_;rw[lR,pL (c:=c) (w:=w) (H:=Ý)];rfl
  ·show bT (bT (bT (ab Á (.call f as) r H) _) _) _=_
   rw[X.1];rfl
  ·show R7 (dD Á (.call f as) r H) _=_
   rw[X.2];rfl
 show ig (bD Á (.try_ (.cons (.ret (.list (.cons (.call f as) (.cons e .nil)))) .nil) i y) r H) (aN Á aD)=_;rw[y9,e1];show ig (handled (aN Á y _ _)) _=_;rw[h2];rfl
end
def yw(d k:Nat)(as:List V)(H:ag)(R:V->ag->Prop):Prop:=∃v ae,aG PP d k as H=À (.ok v,ae)/\aB H ae/\R v ae
def Qk(d k:Nat)(as:List V)(H:ag)(R:vH->ag->Prop):Prop:=∃v ae,aG PP d k as H=À (v,ae)/\aB H ae/\R v ae
theorem iB{f:bo}{as:List V}{d k:Nat}(hk:PP[k]?=À f)(ha:as.length=f.arity)(h:W (aG PP d) f.body (bI as) H (RQ λv ae=>aB H ae/\R v ae)):yw (d+1) k as H R:=eI hk ha h
theorem HF{f:bo}{as:List V}{d k:Nat}(hk:PP[k]?=À f)(ha:as.length=f.arity)(h:W (aG PP d) f.body (bI as) H (RX λv ae=>aB H ae/\R v ae)):Qk (d+1) k as H R:=yO hk ha h
structure pI(H:ag)(q:Nat)(l:List V)(ae:ag):Prop where
 hq:H.length<=q
 hk:aB H ae
 hl:ae[q]?=À (.lst l)
theorem pI.set(ø:pI H q l ae)(m:List V):pI H q m (ae.set q (.lst m)):=⟨ø.hq,ø.hk.set ø.hq,eG ø.hl⟩
theorem pI.keep(ø:pI H q l ae)(K:aB ae ij):pI H q l ij:=⟨ø.hq,ø.hk.trans K,K _ _ ø.hl⟩
theorem pI.new(H:ag)(l:List V):pI H H.length l (H++[.lst l]):=⟨Đ _,aB.app _ _,aE _ _⟩
theorem nS{Á:az}{U:aL}{H:ag}{e:CE}{n:Nat}(he:∀ae,ab Á e U ae=À (.int n,ae))(hn:n<=100000):
  ∃q ae,ab Á (.bin .Mult (.list (.cons (.cst (.int 0)) .nil)) e) U H=À (.ref q,ae)/\pI H q ((Ő n (0:Int)).map .int) ae:=by
 have hr:BL [V.int 0] n=(Ő n (0:Int)).map V.int:=by
  clear he hn
  induction n with
  |zero=>rfl
  |succ n ih=>show V.int 0::BL [V.int 0] n=_;rw[ih];rfl
 show⟨_,_,aP (cg (vs:=[.int 0]) N (show 1<=al by decide)) (he _) ?_,z' (aB.app H [.lst [.int 0]]).len (Đ _),(aB.app _ _).trans (aB.app _ _),aE _ _⟩;show ((lst (H++[.lst [.int 0]]) H.length).bind λx=>if 0<=(n:Int)/\(n:Int)<=100000/\x.length<=100 then rV (H++[.lst [.int 0]]) (BL x (n:Int).toNat) else Ã)=_;rw[cy (aE _ _)];show (if 0<=(n:Int)/\(n:Int)<=100000/\1<=100 then rV (H++[bp.lst [.int 0]]) (BL [.int 0] (n:Int).toNat) else Ã)=_;rw[if_pos ⟨Ě n,Ţ.mpr hn,by decide⟩,ĵ,hr];show if_pos (by rw[H',Ϻ];show z' hn (by decide))
theorem vi:∀{l:List Int} {i:Nat} (t:Nat),i<l.length->be ((l.set i (cq l i+a)).drop t)=be (l.drop t)+if t<=i then a else 0
 |x::l,0,0,_=>by show be ((x+a)::l)=be (x::l)+a;rw[aY,aY];show ņ (y3 0xca1a20a2a10 N) (y3 0xca1a20a2a10 N)
 |x::l,0,t+1,_=>by show be (l.drop t)=be (l.drop t)+if t+1<=0 then a else 0;rw[if_neg (adT t),ů]
 |x::l,i+1,0,h=>by have:=vi (a:=a) 0 (ab6 h);rw[if_pos (Ĥ _)]at this;show be (x::l.set i (cq l i+a))=be (x::l)+if 0<=i+1 then a else 0;rw[aY,aY,if_pos (Ĥ _)];change be (l.set i (cq l i+a))=be l+a at this;rw[this,ϩ]
 |x::l,i+1,t+1,h=>by
  have:=vi (a:=a) t (ab6 h);show be ((l.set i (cq l i+a)).drop t)=be (l.drop t)+if t+1<=i+1 then a else 0;rw[this];by_cases q:t<=i
  ·rw[if_pos q,if_pos (š q)]
  ·rw[if_neg q,if_neg λz=>q (adE z)]
theorem E4(l:List (Str×Int))(p:Str×Int)(n:Str):gx (l++[p]) n=gx l n+if p.1==n then p.2 else 0:=by
 unfold gx;rw[adp,Ŗ,ada,List.filter_nil];cases p.1==n with
 |true=>rw[if_pos N];show tE _ _
 |false=>rw[if_neg Ķ];show(congrArg be (Ĵ _)).trans (ů _).symm
theorem jk:∀l m:List Int,be (l++m)=be l+be m
 |[],m=>(Ű _).symm
 |x::l,m=>by rw[aek,aY,aY,jk l m,ϩ]
theorem yc(f:α->Int):∀l:List α,be (l.map λx=>- f x) =-be (l.map f)
 |[]=>rfl
 |x::l=>by rw[ř,ř,aY,aY,yc f l,Int.neg_add]
theorem jy(bs:List aU)(n:Str)(t:Nat):fT bs n t=be (bs.map (zp n t)):=nI bs
theorem uM(ds:List ax)(bs:List aU)(n:Str)(t:Nat):fc ds bs n t=max 0 (be (ds.map (eR n t))-fT bs n t):=by unfold fc;rw[yc,<-jy,Ű];rfl
theorem nj(x:Int):∀n:Nat,be (Ő n x)=x*n
 |0=>(aeT x).symm
 |n+1=>by rw[adV,aY,nj x n,Int.natCast_add,aex,adZ];show congrArg _ (϶ x).symm
def lG(ds:List ax):List Str:=jQ ((As (pv ds)).map (·.1))
def Bq(ds:List ax)(bs:List aU)(n:Str):List Int:=(ċ 7).map (fc ds bs n)
theorem g7{n j x:Nat}(h:(ċ n)[j]?=À x):x=j/\j<n:=by have hj:j<n:=Ś (n:=n)▸(Ġ.mp h).1;rw[Ϭ hj]at h;show⟨(sm h).symm,hj⟩
section
variable{Á:az}{U:aL}{H Î:ag}{ws:List (Nat×bp)}
theorem nM{α:Type}{elt:CE}{t:jS}{it:jo}{ifs:gb}{g f:α->V}{p:α->Bool}{xs:List α}(hs:cB Á it U H=À (xs.map g,ws,Î))(hw:cA Î ws)(hz:xs.length<=al)
  (h:∀x∈xs,∃aR,t.put (g x) U=À aR/\dp Á ifs aR Î=À (p x,Î)/\(p x=Æ->ab Á elt aR Î=À (f x,Î))) :
  ab Á (.prim .tuple (.cons (.comp elt t it ifs) .nil)) U H=À (.tup ((xs.filter p).map f),Î++[.lst ((xs.filter p).map f)]):=by
 have s8:((xs.filter p).map f).length<=al:=by rw[H'];show z' (ϻ p xs) hz
 show aQ (ak (fK hs (ez hw h) s8)) (bv (aE _ _) s8)
theorem B5(l:List Int):gk .sum [.tup (l.map .int)] H=À (.int (be l),H):=by show (cC (l.map .int)).bind (λns=>À (V.int (ns.foldl (·+·) 0),H))=_;rw[lX];rfl
theorem Pj:cB Á (.rng1 (.cst (.int 7))) U H=À ((ċ 7).map λj:Nat=>V.int j,[],H):=by rw[<-l8];rfl
theorem gA{l:List Int}{t:Nat}(h:t<l.length):(l.map V.int)[((t:Nat):Int).toNat]?=À (.int (cq l t)):=A6 h
end
section
variable{d:Nat}{H:ag}{aw:Int}{ds:List ax}{bs:List aU}
theorem Eb(hd:∀x∈ds,x.okA aw):yw (d+1) 0 [.tup (ds.map ax.v)] H λv z=>v=.tup ((lG ds).map .str):=by have uq:∀x∈ds,x.okN aw:=λx hx=>⟨(hd x hx).1,λp hp=>((hd x hx).2 p hp).1⟩;have hs:=kQ (mD uq);show iB N N (W.set (Î:=H++[.ds []]) N (wG uq N N (aE _ _) (λp U uC=>⟨_,N,uC,λz=>rfl⟩) λbj hK hD=>W.retE (aQ (ak (aQ (ak (aI N)) (pe hD hs))) (bv (aE _ _) (by rw[H',oJ,H'];show z' hs (by decide)))) ⟨_,N,(uI hK).trans (aB.app _ _),N⟩))
abbrev neL(ds:List ax)(O:Str)(q:Nat):aL:=bG [Ã,À (.str O),À (.ref q)]
def WD(H:ag)(q:Nat)(S:Nat->Int)(ae:ag):Prop:=∃l:List Int,pI H q (l.map .int) ae/\l.length=7/\∀t,be (l.drop t)=S t
theorem o7(hd:∀x∈ds,x.ok)(O:Str):yw (d+1) 1 [.tup (ds.map ax.v),.str O] H λv k=>∃l:List Int,v=.tup (l.map .int)/\l.length=7/\∀t,be (l.drop t)=be (ds.map (eR O t)):=by
 show iB N N (gq (nS (Á:=aG PP d) (U:=bI [.tup (ds.map ax.v),.str O]) (H:=H) (n:=7) (e:=xn 7) (λk=>rfl) (by decide)) λq bj e1 ø=>W.set e1 (W.each (neL ds O q) (λj=>WD H q λt=>be ((ds.take j).map (eR O t))) (λk k=>False) (cH N) (ay ⟨N,N,trivial⟩) ⟨_,ø,N,λt=>by rw[List.drop_replicate,nj,Ϲ];rfl⟩ (λk k k=>bw _) (λj x cS hx I=>⟨_,N,?_⟩) (λcS I=>?_) λk k k q=>q.elim))
 ·have MJ:=hd x (ĥ hx)
  obtain ⟨dy,ns⟩:=x;cases dy with
  |zero=>show absurd MJ.1 (adT 0)
  |succ i=>
   have hi:i<7:=MJ.2.1;show W.each (bG [Ã,À (.str O),À (.ref q),À (.int ((i+1:Nat):Int))]) (λm=>WD H q λt=>be ((ds.take j).map (eR O t))+if t<=i then gx (ns.take m) O else 0) (λk k=>False) (cH N) (ay ⟨N,N,N,trivial⟩) ?_ (λk k k=>bw _) (λm p fg hp ď=>⟨_,N,?_⟩) (λfg ď=>?_) λk k k q=>q.elim
   ·show dN I λl ø h1 h2=>⟨l,ø,h1,λt=>(h2 t).trans (by show _=_+ite _ (0:Int) 0;rw[ite_self,ů])⟩
   ·have hS:∀t,(be ((ds.take j).map (eR O t))+if t<=i then gx (ns.take (m+1)) O else 0)=(be ((ds.take j).map (eR O t))+if t<=i then gx (ns.take m) O else 0)+if t<=i then (if p.1==O then p.2 else 0) else 0:=λt=>by
     rw[bC hp,E4];split
     ·rw[ϩ]
     ·show(ů _).symm
    show W.ifB (b:=p.1==O) N (λhb=>?_) λhb=>W.nil (W.nil (.inl ⟨N,ay ⟨N,N,N,trivial⟩,?_⟩))
    ·show dN ď λl ø h1 h2=>?_
     have ei:∀U ae,U 3=À (.int ((i+1:Nat):Int))->ab (aG PP d) (xS (xv 3) (xn 1)) U ae=À (.int i,ae):=λU ae h=>(aP (y:=.int 1) (Ý:=ae) (aI h) N N).trans (congrArg (λz:Int=>À (V.int z,ae)) (ad1 (i:Int) 1));show W.setItem0 q i (l.map .int) (.int (cq l i+p.2)) (aP (bx q i _ _ N (ei _ _ N) ø.hl (Ě _) (gA (h1▸hi))) N N) N (ei _ _ N) ø.hl (Ě _) (by rw[ĵ,H',h1];show hi) (W.nil (W.nil (.inl ⟨N,ay ⟨N,N,N,trivial⟩,l.set i (cq l i+p.2),?_,(acl ..).trans h1,λt=>?_⟩)))
     ·rw[ĵ,eM];show ø.set _
     ·show(vi t (h1▸hi)).trans ((congrArg (·+_) (h2 t)).trans (by show _=_+ite _ (gx (ns.take (m+1)) O) 0;rw[hS,if_pos hb]))
    ·show dN ď λl ø h1 h2=>⟨l,ø,h1,λt=>(h2 t).trans (by show _=_+ite _ (gx (ns.take (m+1)) O) 0;rw[hS,if_neg (λq=>Ķ (hb.symm.trans q)),ite_self,ů])⟩
   ·show W.nil (.inl ⟨N,ay ⟨N,N,trivial⟩,dN ď λl ø h1 h2=>⟨l,ø,h1,λt=>(h2 t).trans ?_⟩⟩)
    show _+ite _ (gx (ns.take ns.length) O) 0=be ((ds.take (j+1)).map (eR O t));rw[bC hx,Ŗ,jk,ŋ];show _=_+(0+eR O t ⟨i+1,ns⟩);rw[Ű];unfold eR;by_cases h:t<=i
    ·rw[if_pos h,if_pos (Ϩ h)]
    ·rw[if_neg h,if_neg λq=>h (ϋ q)]
 ·show dN I λl ø h1 h2=>W.retE (aQ N (bv ø.hl (by rw[H',h1];decide))) ⟨_,N,ø.hk,l,N,h1,λt=>(h2 t).trans (by rw[ŋ])⟩
theorem CZ(l:List Int)(hl:l.length=7):yw (d+1) 2 [.tup (l.map .int)] H λv z=>v=.tup (((ċ 7).map λt=>be (l.drop t)).map .int):=by
 show iB N N (W.retE (nM (p:=λz=>Æ) (f:=λt=>.int (be (l.drop t))) Pj (bw _) (by decide) λt ht=>⟨_,N,N,λz=>aQ (ak (lQ N N N (vc (by rw[H',hl];show ī (Ũ.mp ht)) (by rw[H',hl];decide)))) ?_⟩) ⟨_,N,aB.app _ _,?_⟩)
 ·rw[<-afz];show B5 _
 ·rw[fx,Ū];rfl
theorem Od(j:Nat)(x:Int):decide (1+(j:Int)*1<=x)=decide ((j:Int)<x):=by rw[϶,adZ];rfl
theorem Dl(hb:bs.length<=120)(O:Str):yw (d+1) 7 [.tup (bs.map aU.v),.str O] H λv z=>v=.tup (((ċ 7).map (fT bs O)).map .int):=by
 show iB N N (W.set (Î:=H++[.lst []]) N (W.each (xs:=ċ 7) (g:=λj:Nat=>V.int (1+(j:Int)*1)) (bG [À (.tup (bs.map aU.v)),À (.str O),À (.ref H.length)]) (λj=>pI H H.length (((ċ j).map (fT bs O)).map .int)) (λz z=>False) N (ay ⟨N,N,N,trivial⟩) (pI.new _ _) (λz z z=>bw _) (λj x cS hx I=>⟨_,N,?_⟩) (λcS I=>?_) λz z z q=>q.elim))
 ·show aO (g7 hx) λq hj=>?_;apply aW q
  have hs:=rR (Á:=aG PP d) (elt:=xu 4 1) (t:=.one 4) (it:=.ex (xv 0)) (ifs:=a1 (.and (xE (xu 4 0) (xv 1)) (P7 (xu 4 2) (xv 3)))) (U:=cP (bG [À (.tup (bs.map aU.v)),À (.str O),À (.ref H.length)]) 3 (.int (1+(j:Int)*1))) (H:=cS) (p:=λb=>b.n==O&&decide ((j:Int)<b.l)) (f:=aU.a) (cH N) (bw _) (z' hb (by decide)) λb z=>⟨_,N,nK (Od j b.l▸io N N),λz=>rfl⟩;show W.append H.length _ _ _ N I.hl hs ((I.keep (aB.app _ _)).hl) (by rw[H',H',Ś];show z' (ī hj) (by decide)) (W.nil (.inl ⟨N,ay ⟨N,N,N,trivial⟩,?_⟩));show pI H H.length (((ċ (j+1)).map (fT bs O)).map .int) _;rw[acA,Ŗ,Ŗ];show(I.keep (aB.app _ _)).set _
 ·show W.retE (aQ N (bv I.hl (by rw[H',H',Ś];decide))) ⟨_,N,I.hk,N⟩
theorem uN(hd:∀x∈ds,x.ok)(hb:bs.length<=120)(O:Str):yw (d+2) 8 [.tup (ds.map ax.v),.tup (bs.map aU.v),.str O] H λv z=>v=.tup ((Bq ds bs O).map .int):=by
 show iB N N (fu (o7 (d:=d) (H:=H) hd O) λv1 bj e1 k1 q=>dN q λl q1 h1 h2=>?_);rw[q1]at e1;show fu (CZ (d:=d) (H:=bj) l h1) λv2 cS e2 k2 q2=>?_;rw[q2]at e2;show fu (Dl (d:=d) (H:=cS) hb O) λv3 fg e3 k3 q3=>?_;rw[q3]at e3;show W.set (af (ak (af N e1)) e2) (W.set (af N e3) (W.retE (nM (p:=λz=>Æ) (f:=λt=>.int (fc ds bs O t)) Pj (bw _) (by decide) λt ht=>⟨_,N,N,λz=>aQ (aA N (ak (aP (bg t _ _ N N (Ě _) (gA (by rw[H'];show Ũ.mp ht |> λh=>by rw[Ś];show h))) (bg t _ _ N N (Ě _) (gA (by rw[H',Ś];show Ũ.mp ht))) N))) ?_⟩) ⟨_,N,(k1.trans k2).trans (k3.trans (aB.app _ _)),?_⟩))
 ·have ht:=Ũ.mp ht
  rw[uM,<-h2];unfold cq;rw[į,į,Ϭ ht];rfl
 ·rw[fx,Bq,Ū];rfl
end
noncomputable abbrev r1:=List (Option Int)
noncomputable def rA(r:r1)(i:Nat):Option Int:=(r[i]?).getD Ã
noncomputable def nA(l:List Nat)(i:Nat):Nat:=(l[i]?).getD 0
noncomputable def o8(D:Nat)(o:cV):Bool:=min o.l 7==(D:Int)
def jU(ln:List Nat)(nx:r1)(D a:Nat):Option Int:=if D=7 then (if a=0 then À 0 else Ã) else rA nx (max a (nA ln D))
def qa(r:r1)(a:Nat)(o:cV):Option Int:=(rA r (a-o.a.toNat)).map (·+o.p)
noncomputable def c8(os:List cV)(ln:List Nat)(nx:r1)(D:Nat):Nat->r1
 |0=>[jU ln nx D 0]
 |n+1=>c8 os ln nx D n++[gs ((jU ln nx D (n+1)::(os.filter (o8 D)).map (qa (c8 os ln nx D n) (n+1))).filterMap id)]
noncomputable def jn(os:List cV)(ln:List Nat)(M:Nat):Nat->r1
 |0=>[]
 |k+1=>c8 os ln (jn os ln M k) (7-k) M
section
variable{os:List cV}{ln:List Nat}{nx r:r1}{D a n M:Nat}
theorem eE:∀n,(c8 os ln nx D n).length=n+1
 |0=>rfl
 |n+1=>by unfold c8;rw[û,eE n];rfl
theorem KV{s:r1}(h:a<r.length):rA (r++s) a=rA r a:=by unfold rA;rw[ϓ h]
theorem kN(h:a<=n):rA (c8 os ln nx D n) a=rA (c8 os ln nx D a) a:=by
 induction n with
 |zero=>rw[afK.mp h]
 |succ n ih=>
  by_cases q:a=n+1
  ·rw[q]
  ·have h:=ϋ (Ŧ h q)
   show(KV (by rw[eE];show Ϩ h)).trans (ih h)
theorem BN(n:Nat):rA (c8 os ln nx D (n+1)) (n+1)=gs ((jU ln nx D (n+1)::(os.filter (o8 D)).map (qa (c8 os ln nx D n) (n+1))).filterMap id):=by unfold rA;rw[show c8 os ln nx D (n+1)=c8 os ln nx D n++[_] from N,ϙ (by rw[eE];show Đ _),eE,Ϸ];rfl
theorem F6(l:List Int):∀x:Int,l.foldl (λa b=>min a b) x=x\/l.foldl (λa b=>min a b) x∈l:=by
 induction l with
 |nil=>show λx=>.inl N
 |cons y l ih=>intro x;rw[ϑ];show(ih (min x y)).elim (λh=>?_) λh=>.inr (J' _ h);rw[h];show(acP x y).elim (λq=>.inl (acy q)) λq=>.inr (by rw[acp q];show G')
theorem KC{l:List Int}{m:Int}(h:gs l=À m):m∈l:=by
 cases l with
 |nil=>show no h
 |cons x l=>show sm h▸(F6 l x).elim (λq=>Ĉ.mpr (.inl q)) λq=>J' _ q
theorem He{l:List Int}(h:(gs l).isSome=Ê):l=[]:=by
 cases l with
 |nil=>rfl
 |cons x l=>show nomatch h
def Mo(os:List cV)(D:Nat):Prop:=∃o∈os,(D:Int)<=o.l
theorem R0{a b:Nat}(h:max a b=0):a=0/\b=0:=⟨aeu (h▸afn a b),aeu (h▸adP a b)⟩
theorem vh{x:Int}(h:1<=x)(n:Nat):n+1-x.toNat<=n:=adW (ae7.mpr h) (n+1)
def Qd(os:List cV)(ln:List Nat)(D a:Nat):Prop:=(a=0\/Mo os D)/\∀u,D<u->u<=7->nA ln (u-1)=0\/Mo os u
theorem Hn{o:cV}(h:o∈os)(q:o8 D o=Æ):Mo os D:=⟨o,h,(beq_iff_eq.mp q)▸acz _ _⟩
theorem Ok(h:Mo os D)(hD:D<=7):(D<7/\Mo os (D+1))\/∃o∈os,o8 D o=Æ:=by
 show aF h λo ho hl=>?_;by_cases q:o8 D o=Æ
 ·show .inr ⟨o,ho,q⟩
 ·have q:min o.l 7≠D:=λz=>q (beq_iff_eq.mpr z)
  have a:(D:Int)<min o.l 7:=aey.mpr ⟨Int.le_min.mpr ⟨hl,Ţ.mpr hD⟩,Ne.symm q⟩;show .inl ⟨Ů.mp (acu a (acq _ _)),o,ho,acu a (acz _ _)⟩
structure LU(os:List cV)(ln:List Nat)(nx r:r1)(D M:Nat):Prop where
 len:r.length=M+1
 can:∀a,a<=M->((rA r a).isSome=Æ↔Qd os ln D a)
 zero:rA r 0=jU ln nx D 0
 pick:∀a,a<=M->(rA r a).isSome=Æ->rA r a≠jU ln nx D a->∃o∈os,o8 D o=Æ/\qa r a o=rA r a
end
def p5(os:List cV)(ln:List Nat)(nx:r1)(D:Nat)(M:Nat):Prop:=∀(uB:∀o∈os,1<=o.a) (hD:D<=7) (hn:D<7->∀a,a<=M->((jU ln nx D a).isSome=Æ↔Qd os ln (D+1) (max a (nA ln D)))),LU os ln nx (c8 os ln nx D M) D M
namespace row_okH
def kc:=hc (U5 p5) ([],[],[],0,0)
def os:=kc.1
def ln:=kc.2.1
def nx:=kc.2.2.1
def D:=kc.2.2.2.1
def M:=kc.2.2.2.2
theorem kt:p5 os ln nx D M:=by
 intro uB hD hn
 have go:∀a,a<=M->(jU ln nx D a).isSome=Æ->Qd os ln D a:=λa ha h=>by
  by_cases q:D=7
  ·rw[jU,if_pos q]at h
   by_cases z:a=0
   ·show⟨.inl z,λu h1 h2=>by show .inl (ť ((zI (y2 0x1c080813b78011b1010b781 N (iE q) (iT h1) (iL h2))).elim) ((zI (y2 0x1c080813b78011b1010b781 N (iE q) (iT h1) (iL h2))).elim))⟩
   ·rw[if_neg z]at h;show nomatch h
  ·have q:=Ŧ hD q
   show aO ((hn q a ha).mp h) λh1 h2=>⟨h1.imp (λz=>(R0 z).1) λz=>aF z λo ho hl=>⟨o,ho,by show y3 0xc1210b1013ba1820 N hl (iA _ _)⟩,λu h3 h4=>?_⟩;by_cases z:u=D+1
   ·rw[z];show h1.imp (λz=>(R0 z).2) id
   ·show h2 u (Ŧ h3 (Ne.symm z)) h4
 have wo:∀n o,n+1<=M->o∈os->qa (c8 os ln nx D n) (n+1) o=qa (c8 os ln nx D M) (n+1) o:=λn o h ho=>by have:=uB o ho;unfold qa;rw[kN (a:=n+1-o.a.toNat) (n:=n) (vh this n),kN (a:=n+1-o.a.toNat) (n:=M) (z' (ŏ _ _) h)]
 have X4:∀a o,(qa (c8 os ln nx D M) a o).isSome=(rA (c8 os ln nx D M) (a-o.a.toNat)).isSome:=λa o=>ae8 ..
 have pk:∀a,a<=M->(rA (c8 os ln nx D M) a).isSome=Æ->rA (c8 os ln nx D M) a≠jU ln nx D a->∃o∈os,o8 D o=Æ/\qa (c8 os ln nx D M) a o=rA (c8 os ln nx D M) a:=λa ha h eJ=>by
  rw[kN ha]at h eJ ⊢;cases a with
  |zero=>show absurd N eJ
  |succ n=>
   rw[BN]at h eJ ⊢;cases hm:gs ((jU ln nx D (n+1)::(os.filter (o8 D)).map (qa (c8 os ln nx D n) (n+1))).filterMap id) with
   |none=>rw[hm]at h;show nomatch h
   |some m=>rw[hm]at eJ;show aF (acT.mp (KC hm)) λx hx e=>(Ĉ.mp hx).elim (λq=>absurd (e.symm.trans q) eJ) λq=>aF (ś.mp q) λo ho e2=>?_;have ho:=ŝ.mp ho;show⟨o,ho.1,ho.2,by rw[<-wo n o ha ho.1,e2];show e⟩
 show⟨eE M,λa ha=>⟨λh=>?_,λh=>?_⟩,kN (Ĥ M),pk⟩
 ·induction a using afo with
  |_ a ih=>
   by_cases q:rA (c8 os ln nx D M) a=jU ln nx D a
   ·show go a ha (q▸h)
   ·show dN (pk a ha h q) λo ho h1 h2=>?_
    have h3:(rA (c8 os ln nx D M) (a-o.a.toNat)).isSome=Æ:=by rw[<-X4,h2];show h
    have h4:=uB o ho;by_cases z:a=0
    ·subst z;show absurd (kN (Ĥ M)) q
    ·show⟨.inr (Hn ho h1),(ih _ (Ϡ (abT z) (ae7.mpr h4)) (z' (ŏ _ _) ha) h3).2⟩
 ·induction a using afo with
  |_ a ih=>
   rw[kN ha];cases a with
   |zero=>
    show (jU ln nx D 0).isSome=Æ;by_cases q:D=7
    ·rw[jU,if_pos q];rfl
    ·have q:=Ŧ hD q
     show(hn q 0 ha).mpr ⟨(h.2 (D+1) (Ż D) q).imp (λz=>(Nat.zero_max _).trans z) id,λu h1 h2=>h.2 u (by show jT (y3 0x1c1211b1013ba1820 N (iT h1) (iA _ _))) h2⟩
   |succ n=>
    rw[BN];cases hm:(gs ((jU ln nx D (n+1)::(os.filter (o8 D)).map (qa (c8 os ln nx D n) (n+1))).filterMap id)).isSome with
    |true=>rfl
    |false=>
     have hm:=List.filterMap_eq_nil_iff.mp (He hm);show(Ok (h.1.resolve_left (acM n)) hD).elim (λq=>?_) λq=>aF q λo ho h1=>?_
     ·have:=(hn q.1 (n+1) ha).mpr ⟨.inr q.2,λu h1 h2=>h.2 u (by show jT (y3 0x1c1211b1013ba1820 N (iT h1) (iA _ _))) h2⟩
      rw[show jU ln nx D (n+1)=Ã from hm _ G']at this;show nomatch this
     ·have h2:=hm _ (J' _ (ś.mpr ⟨o,ŝ.mpr ⟨ho,h1⟩,N⟩))
      have h3:=uB o ho;have h4:=ih (n+1-o.a.toNat) (Ϩ (vh h3 n)) (z' (ŏ _ _) ha) ⟨.inr (Hn ho h1),h.2⟩;rw[<-X4,<-wo n o ha ho,show qa (c8 os ln nx D n) (n+1) o=Ã from h2]at h4;show nomatch h4
end row_okH
theorem HH{os:List cV}:p5 os ln nx D M:=hk (P:=U5 p5) row_okH.kt (os,ln,nx,D,M)
section
variable{os:List cV}{ln:List Nat}{nx r:r1}{D a n M:Nat}
theorem u6(uB:∀o∈os,1<=o.a)(hM:∀i,nA ln i<=M):∀k,k<7->LU os ln (jn os ln M k) (jn os ln M (k+1)) (7-k) M
 |0,_=>HH uB (Đ 7) λh=>absurd h (ţ 7)
 |k+1,h=>by have ih:=u6 uB hM k (Ş h);show HH uB (ŏ _ _) λh1 a ha=>?_;have e:7-(k+1)+1=7-k:=aen (ϳ (Ş h));rw[e,<-ih.can _ (ad'.mpr ⟨ha,hM _⟩),jU,if_neg (ŉ h1)]
end
abbrev jX(r:r1):List V:=r.map dA
theorem pZ{r:r1}{i:Nat}(h:i<r.length):(jX r)[((i:Nat):Int).toNat]?=À (dA (rA r i)):=by rw[ĵ,į,ē h,rA,ē h];rfl
theorem uT{l:List Nat}{i:Nat}(h:i<l.length):(bZ l)[((i:Nat):Int).toNat]?=À (.int (nA l i:Nat)):=by rw[ĵ,į,ē h,nA,ē h];rfl
theorem B3{a:Nat}{x:Int}(h:1<=x):max 0 ((a:Int)-x)=((a-x.toNat:Nat):Int):=by show(adr (Ŀ (by decide) h)).elim λn e=>?_;rw[e,ĵ,<-aef,Int.ofNat_toNat,Int.max_comm]
theorem Bx(a b:Nat):max (a:Int) b=((max a b:Nat):Int):=(Lean.Omega.Int.ofNat_max ..).symm
section
variable{d q D a M:Nat}{H Î:ag}{os:List cV}{ln:List Nat}{nx r:r1}{o:cV}{rv:V}{Á:az}{U:aL}{x y:CE}
theorem GJ{l:List (Int×V)}{k:Int}{v:V}(ha:ab Á x U H=À (.ref q,H))(hi:ab Á y U H=À (.int k,H))(hr:H[q]?=À (.di l))(hv:i5 l k=À v):ab Á (.idx x y) U H=À (v,H):=n9 ha hi (dw hr hv)
theorem rl:aG PP (d+1) 9 [o.v,.int D] H=À (.ok (.bool (o8 D o)),H):=gQ N N (W.retE N ⟨_,N,N,N⟩)
theorem qK(h7:ln.length=7)(hq:D<7->∃l,H[q]?=À (.di l)/\i5 l ((D:Int)+1)=À (.tup (jX nx)))(hl:D<7->max a (nA ln D)<nx.length)(hD:D<=7):aG PP (d+1) 10 [.ref q,.tup (bZ ln),.int D,.int a] H=À (.ok (dA (jU ln nx D a)),H):=by
 show gQ N N (W.if_ (fw N N) (λh=>?_) λh=>W.nil ?_)
 ·have h:D=7:=aei.inj h
  rw[jU,if_pos h];have e:ab (aG PP d) (xE (xv 3) (xn 0)) (bI [.ref q,.tup (bZ ln),.int D,.int a]) H=À (.bool (decide (a=0)),H):=(fw N N).trans (congrArg (λb=>À (V.bool b,H)) (decide_eq_decide.mpr Int.natCast_eq_zero));by_cases z:a=0
  ·rw[if_pos z]
   show W.retE (v:=.int 0) (Î:=H) ?_ ⟨_,N,N,N⟩;show lO (ab (aG PP d) (xE (xv 3) (xn 0)) _ H) _=_;rw[e,decide_eq_true z];rfl
  ·rw[if_neg z]
   show W.retE (v:=.none) (Î:=H) ?_ ⟨_,N,N,N⟩;show lO (ab (aG PP d) (xE (xv 3) (xn 0)) _ H) _=_;rw[e,decide_eq_false z];rfl
 ·have h:D<7:=Ŧ hD λz=>h (congrArg aei z)
  show aF (hq h) λl hl1 hg=>?_;rw[jU,if_neg (ŉ h)];show W.retE (bg ((max a (nA ln D):Nat):Int) _ _ (GJ N N hl1 hg) (aQ (aA N (ak (bg D _ _ N N (Ě _) (uT (h7▸h))))) (congrArg (λz=>À (V.int z,H)) (Bx ..))) (Ě _) (pZ (hl h))) ⟨_,N,N,N⟩
theorem rn(ho:1<=o.a)(hr:lE rv (.int ((a-o.a.toNat:Nat):Int)) H=À (dA (rA r (a-o.a.toNat)))):aG PP (d+1) 11 [rv,o.v,.int a] H=À (.ok (dA (qa r a o)),H):=by
 show gQ N N (W.set (n9 N (aQ N (congrArg (λz=>À (V.int z,H)) (B3 ho))) hr) ?_);unfold qa;cases rA r (a-o.a.toNat) with
 |none=>show W.iteT H N (W.retE N ⟨_,N,N,N⟩)
 |some z=>show W.iteF H N (W.nil (W.retE N ⟨_,N,N,N⟩))
end
theorem qS:∀l:List (Option Int),cC ((l.filter aeN).map dA)=À (l.filterMap id)
 |[]=>rfl
 |none::l=>qS l
 |some x::l=>by show (cC ((l.filter aeN).map dA)).bind (λl=>À (x::l))=_;rw[qS l];rfl
theorem FU(x y:Option Int)(H:ag):AU .Eq (dA x) (dA y) H=À (decide (x=y)):=by
 cases x with
 |none=>cases y with
  |none=>rfl
  |some y=>rfl
 |some x=>cases y with
  |none=>rfl
  |some y=>show congrArg À ((RG x y).trans (decide_eq_decide.mpr ⟨congrArg À,Option.some.inj⟩))
theorem NR{H:ag}{i j:Nat}{x y:List V}(hi:H[i]?=À (.lst x))(hj:H[j]?=À (.lst y))(hz:(x++y).length<=al):oN .Add (.ref i) (.ref j) H=À (.ref H.length,H++[.lst (x++y)]):=(show Ϝ (lst H i) _=_ from dw (cy hi) (dw (cy hj) (if_pos hz)))
def BK(os:List cV)(ln:List Nat)(M k:Nat):List (Int×V):=(ċ k).map λb=>(((7-b:Nat):Int),V.tup (jX (jn os ln M (b+1))))
theorem KY(os:List cV)(ln:List Nat)(M k:Nat):BK os ln M (k+1)=BK os ln M k++[(((7-k:Nat):Int),V.tup (jX (jn os ln M (k+1))))]:=by unfold BK;rw[acA,Ŗ];rfl
theorem FN{l:List (Int×V)}{k:Int}{v:V}:(∀p∈l,p.1≠k)->eT l k v=l++[(k,v)]:=by
 induction l with
 |nil=>show λz=>rfl
 |cons p l ih=>intro h;show (if p.1=k then _ else p::eT l k v)=_;rw[if_neg (h p G'),ih λq hq=>h q (J' _ hq)];rfl
theorem FF{l m:List (Int×V)}{k:Int}{v:V}:(∀p∈l,p.1≠k)->i5 (l++(k,v)::m) k=À v:=by
 induction l with
 |nil=>show λz=>if_pos N
 |cons p l ih=>intro h;show (if p.1=k then _ else i5 (l++(k,v)::m) k)=_;rw[if_neg (h p G')];show ih λq hq=>h q (J' _ hq)
theorem Ni{os:List cV}{ln:List Nat}{M k:Nat}(hk:k<7):∀p∈BK os ln M k,p.1≠((7-k:Nat):Int):=λp hp=>by show aF (ś.mp hp) λb hb e=>?_;have hb:=Ũ.mp hb;rw[<-e];show ((7-b:Nat):Int)≠_;show λq0=>zI (y4 0x1c080811b1010ba027812be178312b32 N (iT hb) (iS _ _) (ϵ (jL (y1 0xc78011b780 N (iT hk)))) q0)
theorem Ag{os:List cV}{ln:List Nat}{M b:Nat}:∀{k:Nat},b<k->b<7->i5 (BK os ln M k) ((7-b:Nat):Int)=À (.tup (jX (jn os ln M (b+1)))):=by
 have:∀m,BK os ln M (b+1+m)=BK os ln M b++(((7-b:Nat):Int),V.tup (jX (jn os ln M (b+1))))::(ċ m).map λi=>(((7-(b+1+i):Nat):Int),V.tup (jX (jn os ln M (b+1+i+1)))):=λm=>by unfold BK;rw[afu,Ŗ,acA,Ŗ,ÿ,Ū];rfl
 intro k h1 h2;show(ads h1).elim λm e=>?_;rw[e,this];show FF (Ni h2)
theorem HE(M:Nat):((ċ M).map λj:Nat=>V.int ((j+1:Nat):Int))=cp 1 ((M+1:Nat):Int) 1:=by unfold cp;rw[show iV 1 ((M+1:Nat):Int) 1=M from pX 1 (M+1)];show ϔ λj z=>congrArg V.int (by rw[϶];show adZ (j:Int) 1)
theorem xV{Á:az}{U:aL}{H Î Ý:ag}{a b:CE}{n m:Int}(ha:ab Á a U H=À (.int m,Î))(hb:ab Á b U Î=À (.int n,Ý))(hs:(jC m&&jC n)=Æ)(e:cp m n 1=l):cB Á (.rng2 a b) U H=À (l,[],Ý):=(show qj _ _=_ from tS ha (tS hb ((if_pos hs).trans (by rw[e]))))
theorem Dv{H:ag}{r:Nat}{l:List V}{ns:List Int}(hr:H[r]?=À (.lst l))(hi:cC l=À ns):gk .minD [.ref r] H=À (dA (gs ns),H):=(show Ϝ (Ϝ _ _) _=_ from dw (dw (cy hr) N) (dw hi N))
section
variable{d q D a M:Nat}{H Î:ag}{os:List cV}{ln:List Nat}{nx r:r1}{o:cV}{rv:V}{Á:az}{U:aL}{x y:CE}
structure qe(os:List cV)(ln:List Nat)(M:Nat):Prop where
 h7:ln.length=7
 oa:∀o∈os,1<=o.a
 ol:os.length<=30
 mx:m7 (ln.map λi:Nat=>(i:Int))=À (M:Int)
 le:∀i,nA ln i<=M
 M2:M<=200
end
def kM(d:Nat)(q:Nat)(D:Nat)(M:Nat)(H:ag)(os:List cV)(ln:List Nat)(nx:r1):Prop:=∀(T:qe os ln M) (hq:D<7->∃l,H[q]?=À (.di l)/\i5 l ((D:Int)+1)=À (.tup (jX nx))) (hl:D<7->nx.length=M+1) (hD:D<=7),yw (d+2) 12 [.tup (os.map cV.v),.tup (bZ ln),.ref q,.int D] H λv z=>v=.tup (jX (c8 os ln nx D M))
namespace row_callH
def kc:=hc (U8 kM) (0,0,0,0,[],[],[],[])
def d:=kc.1
def q:=kc.2.1
def D:=kc.2.2.1
def M:=kc.2.2.2.1
def H:=kc.2.2.2.2.1
def os:=kc.2.2.2.2.2.1
def ln:=kc.2.2.2.2.2.2.1
def nx:=kc.2.2.2.2.2.2.2
theorem kt:kM d q D M H os ln nx:=by
 intro T hq hl hD
 have go:∀a ae,a<=M->aB H ae->aG PP (d+1) 10 [.ref q,.tup (bZ ln),.int D,.int a] ae=À (.ok (dA (jU ln nx D a)),ae):=λa ae ha K=>
  qK T.h7 (λh=>aF (hq h) λl h1 h2=>⟨l,K _ _ h1,h2⟩) (λh=>hl h▸Ϩ (ad'.mpr ⟨ha,T.le D⟩)) hD
 have hz:((os.filter (o8 D)).map cV.v).length<=30:=by rw[H'];show z' (ϻ _ _) T.ol
 show iB N N (W.set (fK (cH N) (ez (p:=o8 D) (f:=cV.v) (bw _) λo z=>⟨_,N,nK (af N rl),λz=>rfl⟩) (z' hz (by decide))) ?_);have K1:=aB.app H [.lst ((os.filter (o8 D)).map cV.v)];have h4:=aE H (.lst ((os.filter (o8 D)).map cV.v));generalize H++[.lst ((os.filter (o8 D)).map cV.v)]=bj at K1 h4;show W.set (cg (vs:=[dA (jU ln nx D 0)]) (ak (af N (go 0 bj (Ĥ _) K1))) (show 1<=al by decide)) (W.each (xs:=ċ M) (g:=λj:Nat=>V.int ((j+1:Nat):Int)) (bG [À (.tup (os.map cV.v)),À (.tup (bZ ln)),À (.ref q),À (.int D),À (.ref H.length),À (.ref bj.length)]) (λj=>pI bj bj.length (jX (c8 os ln nx D j))) (λz z=>False) ?_ (ay ⟨N,N,N,N,N,N,trivial⟩) (pI.new _ _) (λz z z=>bw _) (λj x cS hx I=>⟨_,N,?_⟩) (λcS I=>?_) λz z z q=>q.elim)
 ·show xV (n:=((M+1:Nat):Int)) N (aP (aQ N (?_:gk .max1 [.tup (bZ ln)] _=À (.int M,_))) N N) (Ľ.mpr ⟨N,Ľ.mpr ⟨decide_eq_true (Ŀ (by decide) (Ě _)),decide_eq_true (Ţ.mpr (z' (š T.M2) (by decide)))⟩⟩) (HE M).symm
  show (cC (bZ ln)).bind (λns=>((m7 ns).bind λm=>À (V.int m)).bind λv=>À (v,_))=_;rw[s9];show ((m7 (ln.map λi:Nat=>(i:Int))).bind λm=>À (V.int m)).bind _=_;rw[T.mx];rfl
 ·show aO (g7 hx) λqx hj=>?_;apply aW qx
  have I1:=I.keep (aB.app cS [.lst [dA (jU ln nx D (j+1))]])
  have ec:=ez (elt:=ab (aG PP (d+1)) (.call 11 (a3 (xv 5) (xv 8) (xv 6)))) (cond:=dp (aG PP (d+1)) .nil) (t:=.one 8) (w:=[(H.length,.lst ((os.filter (o8 D)).map cV.v))]) (U:=cP (bG [À (.tup (os.map cV.v)),À (.tup (bZ ln)),À (.ref q),À (.int D),À (.ref H.length),À (.ref bj.length)]) 6 (.int ((j+1:Nat):Int))) (H:=cS++[.lst [dA (jU ln nx D (j+1))]]) (g:=cV.v) (p:=λz=>Æ) (f:=λo=>dA (qa (c8 os ln nx D j) (j+1) o)) (iY (I1.hk _ _ h4)) (xs:=os.filter (o8 D)) λo ho=>
   ⟨_,N,N,λz=>af N (rn (T.oa o (ŝ.mp ho).1) (by
    have:=T.oa o (ŝ.mp ho).1;show ((cS++[bp.lst [dA (jU ln nx D (j+1))]])[bj.length]?).bind (OR (.int _))=_;rw[I1.hl];show kK (Ě _) (pZ (by rw[eE];show Ϩ (vh this j)))))⟩
  rw[fx]at ec;have Tn:((os.filter (o8 D)).map λo=>dA (qa (c8 os ln nx D j) (j+1) o)).length<=30:=by rw[H']at hz ⊢;show hz
  have I2:=I1.keep (aB.app _ [.lst ((os.filter (o8 D)).map λo=>dA (qa (c8 os ln nx D j) (j+1) o))]);have g1:=aB.app _ [.lst ((os.filter (o8 D)).map λo=>dA (qa (c8 os ln nx D j) (j+1) o))] _ _ (aE cS (.lst [dA (jU ln nx D (j+1))]));show W.set (aP (cg (vs:=[dA (jU ln nx D (j+1))]) (ak (af N (go (j+1) cS hj (K1.trans I.hk)))) (show 1<=al by decide)) (fK (iW N (I1.hk _ _ h4)) ec (z' Tn (by decide))) (NR g1 (aE _ _) (by rw[û];show z' (ϴ Tn 1) (by decide)))) ?_;rw[show [dA (jU ln nx D (j+1))]++((os.filter (o8 D)).map λo=>dA (qa (c8 os ln nx D j) (j+1) o))=(jU ln nx D (j+1)::(os.filter (o8 D)).map (qa (c8 os ln nx D j) (j+1))).map dA by rw[ř,Ū];rfl];have XQ:(jU ln nx D (j+1)::(os.filter (o8 D)).map (qa (c8 os ln nx D j) (j+1))).length<=31:=by rw[ϧ,H'];rw[H']at hz;show š hz
  generalize hp:jU ln nx D (j+1)::(os.filter (o8 D)).map (qa (c8 os ln nx D j) (j+1))=pl at XQ;have I3:=I2.keep (aB.app _ [.lst (pl.map dA)]);generalize (cS++[.lst [dA (jU ln nx D (j+1))]])++[.lst ((os.filter (o8 D)).map λo=>dA (qa (c8 os ln nx D j) (j+1) o))]=sr at I2 I3;show W.append bj.length (jX (c8 os ln nx D j)) (dA (gs (pl.filterMap id))) _ N I3.hl (aQ (ak (fK (iW N (aE _ _)) (ez (p:=aeN) (f:=dA) (iY (aE _ _)) λx z=>⟨_,N,nK (b:=x.isSome) (by cases x<;>rfl),λz=>rfl⟩) (by rw[H'];show z' (ϻ _ _) (z' XQ (by decide))))) (Dv (aE _ _) (qS pl))) ((I3.keep (aB.app _ _)).hl) (by rw[H',eE];show z' (z' hj T.M2) (by decide)) (W.nil (.inl ⟨N,ay ⟨N,N,N,N,N,N,trivial⟩,?_⟩));rw[show jX (c8 os ln nx D j)++[dA (gs (pl.filterMap id))]=jX (c8 os ln nx D (j+1)) by unfold jX;rw[<-hp];show(Ŗ (l₂:=[_])).symm];show(I3.keep (aB.app _ _)).set _
 ·rw[Ś]at I
  show W.retE (aQ N (bv I.hl (by rw[H',eE];show z' (š T.M2) (by decide)))) ⟨_,N,K1.trans I.hk,N⟩
end row_callH
theorem HG{os:List cV}:kM d q D M H os ln nx:=hk (P:=U8 kM) row_callH.kt (d,q,D,M,H,os,ln,nx)
section
variable{d q D a M:Nat}{H Î:ag}{os:List cV}{ln:List Nat}{nx r:r1}{o:cV}{rv:V}{Á:az}{U:aL}{x y:CE}
def dO(os:List cV)(ln:List Nat)(M:Nat):Nat->bp
 |0=>.ds []
 |k+1=>.di (BK os ln M (k+1))
end
def jA(d:Nat)(M:Nat)(H:ag)(os:List cV)(ln:List Nat):Prop:=∀(T:qe os ln M),yw (d+3) 13 [.tup (os.map cV.v),.tup (bZ ln)] H λv ae=>∃q,v=.ref q/\ae[q]?=À (.di (BK os ln M 7))
namespace rows_callH
def kc:=hc (U5 jA) (0,0,[],[],[])
def d:=kc.1
def M:=kc.2.1
def H:=kc.2.2.1
def os:=kc.2.2.2.1
def ln:=kc.2.2.2.2
theorem kt:jA d M H os ln:=by
 intro T;show iB N N (W.set (v:=.ref H.length) (Î:=H++[.ds []]) N (W.each (xs:=ċ 7) (bG [À (.tup (os.map cV.v)),À (.tup (bZ ln)),À (.ref H.length)]) (λj ae=>aB H ae/\ae[H.length]?=À (dO os ln M j)) (λy y=>False) Pj (ay ⟨N,N,N,trivial⟩) ⟨aB.app _ _,aE _ _⟩ (λy y y=>bw _) (λj x bj hx I=>⟨_,N,?_⟩) (λbj I=>W.retE N ⟨_,N,I.1,_,N,I.2⟩) λy y y q=>q.elim));show aO (g7 hx) λqx hj=>?_;apply aW qx;show W.set (v:=.int ((7-j:Nat):Int)) (Î:=bj) (congrArg (λz=>À (V.int z,bj)) (by show ņ (y2 0xc0e17810ba1078 N (iS _ _)) (y2 0xce178012be1780 N (ϵ (jL (y1 0xc78011b780 N (iT hj))))))) (fu (HG (d:=d) (H:=bj) (q:=H.length) (D:=7-j) (nx:=jn os ln M j) T (λh=>?_) (λh=>?_) (ŏ _ _)) λv cS e2 k2 q2=>?_)
 ·cases j with
  |zero=>show absurd h (ţ 7)
  |succ k=>show⟨_,I.2,by rw[show (((7-(k+1):Nat):Int)+1)=((7-k:Nat):Int) by show ņ (y4 0xc2a18313ba181010ba127812be0783 N (iA _ _) (iS _ _) (ϵ (jL (y1 0xc78011b780 N (iT hj))))) (y4 0xca182312ba181010ba027812be1783 N (iA _ _) (iS _ _) (ϵ (jL (y2 0xc78111b78013ba1810 N (iT hj) (iA _ _)))))];show Ag (Ż k) (Ş hj)⟩
 ·cases j with
  |zero=>show absurd h (ţ 7)
  |succ k=>show eE M
 ·rw[q2]at e2
  have h2:=k2 _ _ I.2;show W.setV (Ý:=cS.set H.length (dO os ln M (j+1))) (af N e2) N N ?_ (W.nil (.inl ⟨N,ay ⟨N,N,N,trivial⟩,(I.1.trans k2).set (Đ _),eG h2⟩));show (cS[H.length]?).bind (Se cS H.length _ _)=_;rw[h2];cases j with
  |zero=>rfl
  |succ k=>show (if (BK os ln M (k+1)).length<=al then À (cS.set H.length (.di (eT (BK os ln M (k+1)) _ _))) else Ã)=_;rw[if_pos (by unfold BK;rw[H',Ś];show z' (ī hj) (by decide)),FN (Ni hj)];show congrArg (λz=>À (cS.set H.length (.di z))) (KY os ln M (k+1)).symm
end rows_callH
theorem DB{os:List cV}:jA d M H os ln:=hk (P:=U5 jA) rows_callH.kt (d,M,H,os,ln)
section
variable{d q D a M:Nat}{H Î:ag}{os:List cV}{ln:List Nat}{nx r:r1}{o:cV}{rv:V}{Á:az}{U:aL}{x y:CE}
def rW(r:r1)(D a:Nat)(o:cV):Bool:=o8 D o&&decide (qa r a o=rA r a)
noncomputable def gF(os:List cV)(i:Nat):cV:=(os[i]?).getD ⟨0,0,0⟩
theorem rm{i:Nat}(h:i<os.length):gF os i∈os:=by unfold gF;rw[ē h];show ź h
end
def ip(d:Nat)(D:Nat)(a:Nat)(H:ag)(os:List cV)(r:r1):Prop:=∀(uB:∀o∈os,1<=o.a) (hr:a<r.length) (hp:∃o∈os,rW r D a o=Æ),os.findIdx (rW r D a)<os.length/\rW r D a (gF os (os.findIdx (rW r D a)))=Æ/\aG PP (d+2) 14 [.tup (os.map cV.v),.tup (jX r),.int D,.int a] H=À (.ok (.int (os.findIdx (rW r D a):Nat)),H)
namespace first_callH
def kc:=hc (U6 ip) (0,0,0,[],[],[])
def d:=kc.1
def D:=kc.2.1
def a:=kc.2.2.1
def H:=kc.2.2.2.1
def os:=kc.2.2.2.2.1
def r:=kc.2.2.2.2.2
theorem kt:ip d D a H os r:=by
 intro uB hr hp;have cE:os.findIdx (rW r D a)<os.length:=adF hp
 have Xh:rW r D a (gF os (os.findIdx (rW r D a)))=Æ:=by unfold gF;rw[ē cE];show aeE (w:=cE)
 show⟨cE,Xh,gQ N N (W.each (xs:=ċ os.length) (bG [Ã,À (.tup (jX r)),À (.int D),À (.int a)]) (λj ae=>ae=H/\j<=os.findIdx (rW r D a)) (λfl ae=>fl=.ret (.int (os.findIdx (rW r D a):Nat))/\ae=H) ((fW (⟨0,0,0⟩:cV) os 0)▸nC N) (ay ⟨N,N,N,trivial⟩) ⟨N,Ĥ _⟩ (λy y y=>bw _) (λj x bj hx I=>⟨_,N,?_⟩) (λbj I=>?_) λfl aR ae q=>⟨_,q.1,N,q.2⟩)⟩
 ·show aO (g7 hx) λqx hj=>?_;apply aW qx
  show aO I λq1 S4=>?_;apply aW q1;have ho:=rm hj;have hi:∀i,i<=a->lE (.tup (jX r)) (.int ((i:Nat):Int)) H=À (dA (rA r i)):=λi hi=>kK (Ě _) (pZ (ŷ hi hr));show W.ifB (b:=rW r D a (gF os j)) (io (af N rl) (bN (af N (rn (r:=r) (uB _ ho) (hi _ (ŏ _ _)))) (n9 N N (hi a (Đ a))) (FU ..))) (λhb=>?_) λhb=>W.nil (W.nil (.inl ⟨N,ay ⟨N,N,N,trivial⟩,N,?_⟩))
  ·have e:os.findIdx (rW r D a)=j:=ť (ľ.mp λz=>by
    have:=List.not_of_lt_findIdx z;unfold gF at hb;rw[ē hj]at hb;show Ķ (this.symm.trans hb)) S4
   rw[e];show W.retE (congrArg (λz:Nat=>À (V.int z,H)) (ż j)) (.inr ⟨(λq=>nomatch q),N,N⟩)
  ·show Ŧ S4 λz=>?_
   rw[z]at hb;show Ķ (hb.symm.trans Xh)
 ·rw[Ś]at I
  show absurd cE (ľ.mpr I.2)
end first_callH
theorem zf{os:List cV}:ip d D a H os r:=hk (P:=U6 ip) first_callH.kt (d,D,a,H,os,r)
section
variable{Á:az}{aD body:ff}{Q:cm->aL->ag->Prop}{c:CE}
theorem Ca{I:Nat->aL->ag->Prop}(step:∀n a H,I n a H->∃b,ab Á c a H=À (.bool b,H)/\(b=Ê->W Á aD a H Q)/\(b=Æ->∃m,n=m+1/\W Á body a H λfl aR ae=>fl=.next/\∃a',Le a' aR/\I m a' ae)):
  ∀F n,n<F->∀(a U:aL) (H:ag),Le a U->I n a H->∃qb σe b,oL (bU Á c) (aN Á body) F U H=À (.next,qb,σe)/\Le b qb/\W Á aD b σe Q
 |0,_,h=>absurd h (aci _)
 |F+1,n,h=>λa U H hl hI=>by
  show dN (step n a H hI) λb h1 h2 h3=>?_;show ∃qb σe b,bT (bU Á c U H) (λb ae=>if b then ig (aN Á body U ae) (λii ij=>oL (bU Á c) (aN Á body) F ii ij) else À (.next,U,ae))=À (.next,qb,σe)/\Le b qb/\W Á aD b σe Q;rw[bR (aJ c hl h1)];cases b with
  |false=>show⟨U,H,a,N,hl,h2 N⟩
  |true=>show aF (h3 rfl) λm e hb=>?_;obtain ⟨fl,b,aR,ae,g1,g2,rfl,a',g3,g4⟩:=hb U hl;show t5 (Ca step F m (by rw[e]at h;show ab6 h) a' aR ae (g3.trans g1) g4) λqb σe b k1 k2 k3=>⟨qb,σe,b,?_,k2,k3⟩;show ig (aN Á body U H) _=_;rw[g2];show k1
theorem W.whl(I:Nat->aL->ag->Prop)(hn:n<100000)(h:I n a H)(step:∀n a H,I n a H->∃b,ab Á c a H=À (.bool b,H)/\(b=Ê->W Á aD a H Q)/\(b=Æ->∃m,n=m+1/\W Á body a H λfl aR ae=>fl=.next/\∃a',Le a' aR/\I m a' ae)):W Á (.cons (.while_ c body) aD) a H Q:=λr hl=>by show t5 (Ca step kT n hn a r H hl h) λqb σe b k1 k2 k3=>ED (k3 qb k2) λfl b Sv fg g1 g2 g3=>⟨fl,b,Sv,fg,g1,?_,g3⟩;show ig (oL (bU Á c) (aN Á body) kT r H) (aN Á aD)=_;rw[k1];show g2
end
def lA(os:List cV)(cs:List Int)(t:Nat):Int:=be ((ċ os.length).map λi=>if (t:Int)<(gF os i).l then (gF os i).a*cq cs i else 0)
theorem Ib(f:Nat->Int)(x:Int)(k:Nat):∀n,be ((ċ n).map λi=>f i+if i=k then x else 0)=be ((ċ n).map f)+if k<n then x else 0
 |0=>rfl
 |n+1=>by
  rw[acA,Ŗ,Ŗ,jk,jk,Ib f x k n];show _+(0+(f n+if n=k then x else 0))=_+(0+f n)+_;rcases aeV k n with h|h|h
  ·rw[if_pos h,if_neg (ū h),if_pos (ace h)];show ņ (y3 0xca1aa2080aaa08208a10 N) (y3 0xcaaa08108a20a2aa1080 N)
  ·rw[if_neg (by show λq0=>zI (y2 0x1c080813b1011b10 N (iE h) (iT q0))),if_pos h.symm,if_pos (by show jT (y3 0x1c2012b1013ba1812 N (iE h) (iA _ _)))];show ņ (y3 0xca2aa1080aaa2108a080 N) (y3 0xcaaa2108a080a2aa1080 N)
  ·rw[if_neg (by show λq0=>zI (y2 0x1c080811b1011b01 N (iT h) (iT q0))),if_neg (by show λq0=>zI (y2 0x1c080811b1013b10 N (iT h) (iE q0))),if_neg (by show λq0=>zI (y3 0x1c080811b1012ba180211b21 N (iT h) (iA _ _) (iT q0)))];show ņ (y2 0xca08aa1080aaa08108a080 N) (y2 0xcaaa08108a080a08aa1080 N)
section
variable{os:List cV}{ln:List Nat}{M n c a t k:Nat}{cs:List Int}
theorem Go(hk:k<os.length)(hl:cs.length=os.length):lA os (cs.set k (cq cs k+1)) t=lA os cs t+if (t:Int)<(gF os k).l then (gF os k).a else 0:=by
 unfold lA;rw[<-if_pos (c:=k<os.length) (t:=if (t:Int)<(gF os k).l then (gF os k).a else 0) (e:=0) hk,<-Ib];show congrArg be (ϔ λi z=>?_);rw[pR (hl▸hk)];by_cases h:k=i
 ·rw[if_pos h,if_pos h.symm,h]
  split
  ·rw[aex,϶]
  ·rfl
 ·rw[if_neg h,if_neg (Ne.symm h),ů]
noncomputable def I0(os:List cV)(ln:List Nat)(M:Nat):Nat->Nat->Nat->List Int->List Int
 |0,_,_,cs=>cs
 |n+1,c,a,cs=>match c with
  |0=>cs
  |c+1=>if rA (jn os ln M (c+1)) a=jU ln (jn os ln M c) (7-c) a then I0 os ln M n c (max a (nA ln (7-c))) cs
   else I0 os ln M n (c+1) (a-(gF os (os.findIdx (rW (jn os ln M (c+1)) (7-c) a))).a.toNat) (cs.set (os.findIdx (rW (jn os ln M (c+1)) (7-c) a)) (cq cs (os.findIdx (rW (jn os ln M (c+1)) (7-c) a))+1))
def L4(os:List cV)(ln:List Nat)(M:Nat):Nat->Nat->Prop
 |0,a=>a=0
 |c+1,a=>c<7/\a<=M/\(rA (jn os ln M (c+1)) a).isSome=Æ
theorem s7(h:c<7):8-c=7-c+1:=Nat.succ_sub (ī h)
theorem Cc(h:(c+1)*(M+1)+a<=0):False:=adT M (z' (z' (adz (M+1) (ϒ c)) (Ň _ a)) h)
theorem Nw(hn:(c+1)*(M+1)+a<=n+1)(h:k<=M):c*(M+1)+k<=n:=adE (z' (š (ϴ h _)) (z' (ŕ (Nat.succ_mul c (M+1)).symm) (z' (Ň _ a) hn)))
theorem Nx{x:Int}(hn:k+a<=n+1)(ha:0<a)(h:1<=x):k+(a-x.toNat)<=n:=adE (z' (aeH (Ϡ ha (ae7.mpr h)) k) hn)
theorem LC:I0 os ln M n 0 a cs=cs:=by cases n<;>rfl
theorem n7(T:qe os ln M):nA ln 7=0:=by unfold nA;rw[ϭ (ŕ T.h7)];rfl
theorem Nv(T:qe os ln M)(h:L4 os ln M (c+1) a)(e:rA (jn os ln M (c+1)) a=jU ln (jn os ln M c) (7-c) a):L4 os ln M c (max a (nA ln (7-c))):=by
 show gH h λh1 h2 h3=>?_;rw[e,jU]at h3;cases c with
 |zero=>
  rw[if_pos N]at h3;have:a=0:=abE λz=>by rw[if_neg z]at h3;show nomatch h3
  show max a (nA ln 7)=0;rw[this,n7 T];rfl
 |succ c=>rw[if_neg (by show λq0=>zI (y3 0x1c080810b00813ba180112be178213b782 N (iP _) (iA _ _) (ϵ (jL (y1 0xc78011b780 N (iT h1)))) (iE q0)))]at h3;show⟨Ş h1,ad'.mpr ⟨h2,T.le _⟩,h3⟩
theorem Cd(T:qe os ln M)(h:L4 os ln M (c+1) a)(e:rA (jn os ln M (c+1)) a≠jU ln (jn os ln M c) (7-c) a):0<a/\∃o∈os,rW (jn os ln M (c+1)) (7-c) a o=Æ:=by show gH h λh1 h2 h3=>?_;have R:=u6 T.oa T.le c h1;show⟨abT λz=>e (z▸R.zero),dN (R.pick a h2 h3 e) λo ho p1 p2=>⟨o,ho,Ľ.mpr ⟨p1,decide_eq_true p2⟩⟩⟩
theorem Cb(T:qe os ln M)(h:L4 os ln M (c+1) a){o:cV}(hp:rW (jn os ln M (c+1)) (7-c) a o=Æ):L4 os ln M (c+1) (a-o.a.toNat):=by show gH h λh1 h2 h3=>⟨h1,z' (ŏ _ _) h2,?_⟩;have:=of_decide_eq_true (Ľ.mp hp).2;rw[<-this,qa,ae8]at h3;show h3
structure NQ(os:List cV)(ln:List Nat)(B:Int)(c a:Nat)(cs IM:List Int):Prop where
 len:IM.length=os.length
 bd:∀x∈IM,0<=x/\x<=B
 held:∀t,t<7->lA os cs t+(if t<8-c then (a:Int) else nA ln t)<=lA os IM t
end
def vt(os:List cV)(ln:List Nat)(M:Nat)(B:Int):Prop:=∀(T:qe os ln M),∀n {c a:Nat} {cs:List Int},L4 os ln M c a->c*(M+1)+a<=n->cs.length=os.length->(∀x∈cs,0<=x/\x+n<=B)->NQ os ln B c a cs (I0 os ln M n c a cs)
namespace wk_okH
def kc:=hc (U4 vt) ([],[],0,0)
def os:=kc.1
def ln:=kc.2.1
def M:=kc.2.2.1
def B:=kc.2.2.2
theorem kt:vt os ln M B:=by
 intro T;have z:∀(n:Nat) {a:Nat} {cs:List Int},L4 os ln M 0 a->cs.length=os.length->(∀x∈cs,0<=x/\x+n<=B)->NQ os ln B 0 a cs cs:=λn a cs h hl hb=>⟨hl,λx hx=>⟨(hb x hx).1,by have:=hb x hx;show y3 0xc2010b2a1010b108 N this.2 (iP _)⟩,λt ht=>by rw[if_pos (ace ht),show a=0 from h];show acO (ů _)⟩;intro n
 induction n with
 |zero=>
  intro c a cs h hn hl hb;cases c with
  |zero=>show z 0 h hl hb
  |succ c=>show(Cc hn).elim
 |succ n ih=>
  intro c a cs h hn hl hb;cases c with
  |zero=>show z (n+1) h hl hb
  |succ c=>
   have h2:=h.2.1;show NQ os ln B (c+1) a cs (if rA (jn os ln M (c+1)) a=jU ln (jn os ln M c) (7-c) a then _ else _);by_cases e:rA (jn os ln M (c+1)) a=jU ln (jn os ln M c) (7-c) a
   ·rw[if_pos e]
    have:=ih (Nv T h e) (Nw hn (ad'.mpr ⟨h2,T.le _⟩)) hl λx hx=>⟨(hb x hx).1,by have:=(hb x hx).2;show y4 0xc2a3010b2a1013ba1831 N this (iA _ _)⟩;show⟨this.len,this.bd,λt ht=>Ŀ (adY ?_ _) (this.held t ht)⟩;have hc:=h.1;by_cases q:t<8-(c+1)
    ·rw[if_pos q,if_pos (ĳ q (adW (ϝ c) 8))];show Ţ.mpr (afn ..)
    ·rw[if_neg q]
     by_cases q2:t<8-c
     ·rw[if_pos q2,show t=7-c from ť (ϋ (ĳ q2 (ŕ (s7 hc)))) (ľ.mp (acX 7 1 c▸q))];show Ţ.mpr (adP ..)
     ·rw[if_neg q2];show y1 0xc00 N
   ·rw[if_neg e]
    show aO (Cd T h e) λha hp=>?_;have hk:os.findIdx (rW (jn os ln M (c+1)) (7-c) a)<os.length:=adF hp
    have IY:rW (jn os ln M (c+1)) (7-c) a (gF os (os.findIdx (rW (jn os ln M (c+1)) (7-c) a)))=Æ:=by unfold gF;rw[ē hk];show aeE (w:=hk)
    generalize os.findIdx (rW (jn os ln M (c+1)) (7-c) a)=k at hk IY;have PU:=T.oa _ (rm hk)
    have OQ:∀x∈cs.set k (cq cs k+1),0<=x/\x+n<=B:=λx hx=>(adc hx).elim (λq=>by have:=hb x q;show⟨y1 0xc00810b008 N this.1,y4 0xc2a3010b2a1013ba1831 N this.2 (iA _ _)⟩) λq=>by have:=hb (cq cs k) (by unfold cq;rw[ē (hl▸hk)];show ź _);show⟨y2 0xc00813ba181010b108 N q this.1,y5 0xc3a4012ba181010b3a2113ba1842 N q this.2 (iA _ _)⟩
    have:=ih (Cb T h IY) (Nx hn ha PU) ((acl ..).trans hl) OQ;show⟨this.len,this.bd,λt ht=>Ŀ ?_ (this.held t ht)⟩;rw[Go hk hl,ϩ];show adY ?_ _;have hd:=beq_iff_eq.mp (Ľ.mp IY).1;have hc:=h.1;by_cases q:t<8-(c+1)
    ·rw[if_pos q,if_pos q,if_pos (acu (Ů.mpr (acX 7 1 c▸q)) (hd▸acz _ _))];show y4 0xca13010ba21012b32 N (iS _ _) (ϡ (y1 0xc00810b018 N PU))
    ·rw[if_neg q,if_neg q]
     show Int.le_add_of_nonneg_left ?_;split
     ·show Ŀ (by decide) PU
     ·show Ř 0
end wk_okH
theorem Ss{os:List cV}:vt os ln M B:=hk (P:=U4 vt) wk_okH.kt (os,ln,M,B)
def Jp(os:List cV)(ln:List Nat)(M:Nat):Option (List Int):=if (rA (jn os ln M 7) (nA ln 0)).isSome then À (I0 os ln M 1700 7 (nA ln 0) (Ő os.length 0)) else Ã
noncomputable def WK:Option (List Int)->V
 |none=>.none
 |some cs=>.tup (cs.map .int)
section
variable{os:List cV}{ln:List Nat}{M d c a n:Nat}{H:ag}
set_option tactic.hygienic true in
theorem Jq(T:qe os ln M):Jp os ln M=Ã↔¬ ∀t,t<7->nA ln t=0\/Mo os (t+1):=by
 have R:=(u6 T.oa T.le 6 (by decide)).can (nA ln 0) (T.le 0)
 have e:Qd os ln 1 (nA ln 0)↔∀t,t<7->nA ln t=0\/Mo os (t+1):=⟨λh t ht=>by
  cases t with
  |zero=>show h.1
  |succ t=>show h.2 (t+2) (acK (ϒ t)) ht,λh=>⟨h 0 (by decide),λu h1 h2=>by
  cases u with
  |zero=>show nomatch h1
  |succ u=>show h u h2⟩⟩
 rw[<-e,<-show _↔Qd os ln 1 (nA ln 0) from R];unfold Jp;split
 ·rename_i h;show⟨(λq=>nomatch q),λq=>absurd h q⟩
 ·rename_i h;show⟨λ_=>h,λ_=>rfl⟩
theorem Sr(h0:a<=M)(h1:M<=200):7*(M+1)+a<=1700:=z' (Ϗ (acI 7 (š h1)) (z' h0 h1)) (by decide)
theorem AO(T:qe os ln M){cs:List Int}(h:Jp os ln M=À cs):cs.length=os.length/\(∀x∈cs,0<=x/\x<=1700)/\∀t,t<7->(nA ln t:Int)<=lA os cs t:=by
 unfold Jp at h;by_cases q:(rA (jn os ln M 7) (nA ln 0)).isSome=Æ
 ·rw[if_pos q]at h
  have h0:=T.le 0;have h1:=T.M2;have W:=Ss T (B:=1700) 1700 (c:=7) (a:=nA ln 0) (cs:=Ő os.length 0) ⟨by decide,h0,q⟩ (Sr h0 h1) Ϻ λx hx=>by rw[(adq.mp hx).2];decide
  rw[sm h]at W;show⟨W.len,W.bd,λt ht=>?_⟩;have:=W.held t ht
  have e:lA os (Ő os.length 0) t=0:=by unfold lA;rw[show ((ċ os.length).map λi=>if (t:Int)<(gF os i).l then (gF os i).a*cq (Ő os.length 0) i else 0)=(ċ os.length).map λy=>(0:Int) from ϔ λi hi=>by rw[show cq (Ő os.length 0) i=0 by unfold cq;rw[List.getElem?_replicate,if_pos (Ũ.mp hi)];rfl,aeT,ite_self]];rw[afp,nj,Ϲ]
  rw[e]at this;by_cases z:t<1
  ·rw[if_pos z,Ű]at this;show(congrArg (nA ln) (Nat.lt_one_iff.mp z))▸this
  ·rw[if_neg z,Ű]at this;show this
 ·rw[if_neg q]at h;show nomatch h
abbrev N6(os:List cV)(ln:List Nat)(q r D a:Nat):aL:=bG [À (.tup (os.map cV.v)),À (.tup (bZ ln)),À (.ref q),À (.int (D:Nat)),À (.int (a:Nat)),À (.ref r)]
structure WB(os:List cV)(ln:List Nat)(M q r:Nat)(H:ag)(mu:List Int)(n:Nat)(U:aL)(ae:ag)(c a:Nat)(cs:List Int):Prop where
 e:U=N6 os ln q r (8-c) a
 o:pI H r (cs.map .int) ae
 s:L4 os ln M c a
 hn:c*(M+1)+a<=n
 l:cs.length=os.length
 w:I0 os ln M n c a cs=mu
end
def gy(os:List cV)(ln:List Nat)(M:Nat)(d:Nat)(H:ag):Prop:=∀(T:qe os ln M),yw (d+4) 15 [.tup (os.map cV.v),.tup (bZ ln)] H λv z=>v=WK (Jp os ln M)
namespace bought_callH
def kc:=hc (U5 gy) ([],[],0,0,[])
def os:=kc.1
def ln:=kc.2.1
def M:=kc.2.2.1
def d:=kc.2.2.2.1
def H:=kc.2.2.2.2
theorem kt:gy os ln M d H:=by
 intro T;show iB N N (fu (DB (d:=d) (H:=H) T) λv bj e1 K1 q1=>aF q1 λq q1 hq=>?_);rw[q1]at e1;have h0:=T.le 0
 have X1:∀(ae:ag) (U:aL) (c a:Nat),c<7->a<=M->ae[q]?=À (.di (BK os ln M 7))->U 2=À (.ref q)->U 3=À (.int ((7-c:Nat):Int))->U 4=À (.int a)->ab (aG PP (d+3)) (.idx (xv 2) (xv 3)) U ae=À (.tup (jX (jn os ln M (c+1))),ae)/\ab (aG PP (d+3)) (.idx (.idx (xv 2) (xv 3)) (xv 4)) U ae=À (dA (rA (jn os ln M (c+1)) a),ae):=λae U c a hc ha hq g2 g3 g4=>by have e:=GJ (Á:=aG PP (d+3)) (aI g2) (aI g3) hq (Ag hc hc);show⟨e,bg a _ _ e (aI g4) (Ě _) (pZ (ŷ ha (by rw[show (jn os ln M (c+1)).length=M+1 from eE M];show Ż M)))⟩
 show W.set (af N e1) (W.set (v:=.int ((7-6:Nat):Int)) N (W.set (bg 0 _ (.int (nA ln 0:Nat)) N N (by decide) (uT (i:=0) (by rw[T.h7];decide))) ?_));have e6:=(X1 bj (cP (cP (cP (bI [.tup (os.map cV.v),.tup (bZ ln)]) 2 (.ref q)) 3 (.int ((7-6:Nat):Int))) 4 (.int (nA ln 0:Nat))) 6 (nA ln 0) (by decide) h0 hq N N N).2;unfold Jp;have en:∀x:Option Int,Ki (dA x) .none=À (!x.isSome):=λx=>by cases x<;>rfl
 show W.ifB (bN e6 N (en _)) (λhb=>?_) λhb=>W.nil ?_
 ·rw[if_neg (by rw[ώ]at hb;rw[hb];show Ķ)]
  show W.retE N ⟨_,N,K1,N⟩
 have hs:(rA (jn os ln M 7) (nA ln 0)).isSome=Æ:=by rw[adn]at hb;show hb
 rw[if_pos hs];show gq (nS (Á:=aG PP (d+3)) (U:=cP (cP (cP (bI [.tup (os.map cV.v),.tup (bZ ln)]) 2 (.ref q)) 3 (.int ((7-6:Nat):Int))) 4 (.int (nA ln 0:Nat))) (H:=bj) (n:=os.length) (e:=.prim .len (a1 (xv 0))) (λae=>aQ N ((jz _).trans (by rw[H']))) (z' T.ol (by decide))) λr cS e2 ø=>W.set e2 ?_;have YQ:=T.M2;show W.le (a:=N6 os ln q r 1 (nA ln 0)) (ay ⟨N,N,N,N,N,N,trivial⟩) (W.whl (n:=1700) (λn U ae=>∃c a cs,WB os ln M q r bj (I0 os ln M 1700 7 (nA ln 0) (Ő os.length 0)) n U ae c a cs) (by decide) ⟨7,_,_,rfl,ø,⟨by decide,h0,hs⟩,Sr h0 YQ,Ϻ,rfl⟩ λn U fg I=>wi I λc a cs I=>?_);apply aW I.e;have Xx:=I.o.hk _ _ hq;cases c with
 |zero=>show⟨Ê,N,λj=>W.retE (aQ N (bv I.o.hl (by rw[H',I.l];show z' T.ol (by decide)))) ⟨_,N,K1.trans I.o.hk,?_⟩,λq=>nomatch q⟩;rw[<-I.w,LC];rfl
 |succ c=>
  have S:=I.s;show gH (id S) λhc ha h3=>?_;rw[show 8-(c+1)=7-c from acX 7 1 c];show⟨Æ,congrArg (λb=>À (V.bool b,fg)) (decide_eq_true (Ţ.mpr (ŏ _ _))),(λq=>nomatch q),λj=>?_⟩;have hn:=I.hn;have hw:=I.w;cases n with
  |zero=>show(Cc hn).elim
  |succ n=>
   show⟨n,N,(aO (X1 fg (N6 os ln q r (7-c) a) c a hc ha Xx N N N) λer ea=>?_)⟩
   have eg:=qK (d:=d+2) (H:=fg) (q:=q) (D:=7-c) (a:=a) (nx:=jn os ln M c) T.h7 (λh=>⟨_,Xx,by
    cases c with
    |zero=>show absurd h (ţ 7)
    |succ b=>rw[show (((7-(b+1):Nat):Int)+1)=((7-b:Nat):Int) from congrArg aei (aen (ϳ (Ş hc)))];show Ag (Ş hc) (Ş hc)⟩) (λh=>by
    cases c with
    |zero=>show absurd h (ţ 7)
    |succ b=>rw[show (jn os ln M (b+1)).length=M+1 from eE M];show Ϩ (ad'.mpr ⟨ha,T.le _⟩)) (ŏ _ _)
   show W.if_ (bN ea (af N eg) (FU ..)) (λe=>?_) λe=>?_
   ·rw[I0,if_pos e]at hw
    have G:=Nv T S e
    have hW:∀x:Nat,x=max a (nA ln (7-c))->W (aG PP (d+3)) (dx (sa 3 (xA (xv 3) (xn 1)))) (N6 os ln q r (7-c) x) fg (TQ (aG PP (d+3)) .nil λfl aR ae=>fl=.next/\∃a',Le a' aR/\∃c a cs,WB os ln M q r bj (I0 os ln M 1700 7 (nA ln 0) (Ő os.length 0)) n a' ae c a cs):=λx hx=>by show W.set (v:=.int ((8-c:Nat):Int)) (congrArg (λz=>À (V.int z,fg)) (congrArg aei (s7 hc).symm)) (W.nil (W.nil ⟨N,N6 os ln q r (8-c) x,ay ⟨N,N,N,N,N,N,trivial⟩,c,x,cs,N,I.o,hx▸G,?_,I.l,hx▸hw⟩));show hx▸Nw hn (ad'.mpr ⟨ha,T.le _⟩)
    show W.if_ (p:=((7-c:Nat):Int)<7) N (λh=>?_) λh=>W.nil (hW a ?_)
    ·show W.set (aQ (aA N (ak (bg ((7-c:Nat):Int) _ _ N N (Ě _) (uT (by rw[T.h7];show Ů.mp h))))) (congrArg (λz=>À (V.int z,fg)) (Bx ..))) (W.nil (W.le (a:=N6 os ln q r (7-c) (max a (nA ln (7-c)))) (ay ⟨N,N,N,N,N,N,trivial⟩) (hW _ N)))
    ·rw[show 7-c=7 from ť (ŏ _ _) (Ţ.mp (Ŕ.mp h)),n7 T];show(Nat.max_zero a).symm
   ·rw[I0,if_neg e]at hw
    show aO (Cd T S e) λGh hp=>gH (zf (d:=d+1) (H:=fg) T.oa (r:=jn os ln M (c+1)) (ŷ ha (by rw[show (jn os ln M (c+1)).length=M+1 from eE M];show Ż M)) hp) λhk IY ef=>?_;generalize os.findIdx (rW (jn os ln M (c+1)) (7-c) a)=k at hk IY ef hw;have PU:=T.oa _ (rm hk);show W.set (af (aA N (aA er (aA N (ak N)))) ef) (W.setItem0 r k (cs.map .int) (.int (cq cs k+1)) (aP (bx r k _ _ N N I.o.hl (Ě _) (gA (I.l▸hk))) N N) N N I.o.hl (Ě _) (by rw[ĵ,H',I.l];show hk) ?_);rw[ĵ,eM];show W.set (v:=.int ((a-(gF os k).a.toNat:Nat):Int)) (aQ (aA N (ak (aP (y:=.int (gF os k).a) N (bg 0 _ _ (bg k _ (gF os k).v N N (Ě _) (by rw[ĵ,į,ē hk];unfold gF;rw[ē hk];rfl)) N (by decide) N) N))) (congrArg (λz=>À (V.int z,_)) (B3 PU))) (W.nil (W.nil ⟨N,N6 os ln q r (8-(c+1)) (a-(gF os k).a.toNat),?_,c+1,_,_,N,I.o.set _,Cb T S IY,?_,(acl ..).trans I.l,hw⟩))
    ·rw[show 8-(c+1)=7-c from acX 7 1 c];show ay ⟨N,N,N,N,N,N,trivial⟩
    ·show Nx hn Gh PU
end bought_callH
theorem oP{os:List cV}:gy os ln M d H:=hk (P:=U5 gy) bought_callH.kt (os,ln,M,d,H)
noncomputable def pU(ps:List Pk)(i:Nat):Pk:=(ps[i]?).getD ⟨aem,0,0,0⟩
noncomputable def Pk.off(p:Pk):cV:=⟨p.a,p.p,p.l⟩
def pC(ps:List Pk)(O:Str):List Nat:=(ċ ps.length).filter λi=>(pU ps i).n==O
def lg(ps:List Pk)(O:Str):List cV:=(pC ps O).map λi=>(pU ps i).off
theorem KS{ps:List Pk}{i:Nat}(h:i<ps.length):pU ps i∈ps:=by unfold pU;rw[ē h];show ź h
theorem Nf{ps:List Pk}{i:Nat}(h:i<ps.length):(ps.map Pk.v)[((i:Nat):Int).toNat]?=À (pU ps i).v:=by rw[ĵ,į,ē h];unfold pU;rw[ē h];rfl
theorem BD{ps:List Pk}{O:Str}{i:Nat}(h:i∈pC ps O):i<ps.length:=Ũ.mp (ŝ.mp h).1
theorem uX(ps:List Pk)(O:Str):(pC ps O).length<=ps.length:=z' (ϻ _ _) (by rw[Ś];show Đ _)
structure Wd(ds:List ax)(bs:List aU)(ps:List Pk)(aw:Int):Prop where
 dl:ds.length<=26
 dk:∀x∈ds,x.okA aw
 bl:bs.length<=120
 bk:∀b∈bs,0<=b.a
 pl:ps.length<=30
 pk:∀p∈ps,1<=p.a
def mh(ds:List ax)(O:Str):Int:=be (ds.map (eR O 0))
def ir(ds:List ax)(bs:List aU)(O:Str):List Nat:=(ċ 7).map λt=>(fc ds bs O t).toNat
def KI(l:List Nat):Nat:=((m7 (l.map λi:Nat=>(i:Int))).getD 0).toNat
def gf(ds:List ax)(bs:List aU)(ps:List Pk)(O:Str):Option (List Int):=Jp (lg ps O) (ir ds bs O) (KI (ir ds bs O))
def fj(ds:List ax)(bs:List aU)(ps:List Pk)(O:Str):Option Nat:=if 200<mh ds O then À 1 else if (gf ds bs ps O).isNone then À 2 else Ã
theorem qA{ds:List ax}(h:200<mh ds O):fj ds bs ps O=À 1:=if_pos h
theorem ue{ds:List ax}(h:¬ 200<mh ds O)(h2:(gf ds bs ps O).isNone=Æ):fj ds bs ps O=À 2:=(if_neg h).trans (if_pos h2)
theorem FZ{ds:List ax}(h:¬ 200<mh ds O)(h2:gf ds bs ps O=À cs):fj ds bs ps O=Ã:=(if_neg h).trans (by rw[h2];rfl)
theorem Br(ds:List ax)(bs:List aU)(O:Str)(t:Nat):((fc ds bs O t).toNat:Int)=fc ds bs O t:=ϡ (adj _ _)
theorem GY(ds:List ax)(bs:List aU)(O:Str):(Bq ds bs O).map V.int=bZ (ir ds bs O):=by unfold Bq ir bZ;rw[Ū,Ū];show ϔ λt z=>congrArg V.int (Br ds bs O t).symm
theorem F5(l:List Int):∀x:Int,(l.foldl (λa b=>max a b) x=x\/l.foldl (λa b=>max a b) x∈l)/\x<=l.foldl (λa b=>max a b) x/\∀y∈l,y<=l.foldl (λa b=>max a b) x:=by
 induction l with
 |nil=>show λx=>⟨.inl N,Ř x,λk h=>nomatch h⟩
 |cons y l ih=>intro x;rw[ϑ];show gH (ih (max x y)) λh1 h2 h3=>⟨(h1.elim (λh=>?_) λh=>.inr (J' _ h)),Ŀ (adj _ _) h2,λz hz=>(Ĉ.mp hz).elim (λq=>by rw[q];show Ŀ (adM _ _) h2) (h3 z)⟩;rw[h];show(acP x y).elim (λq=>.inr (by rw[acJ q];show G')) λq=>.inl (adi q)
theorem O3{l:List Nat}(h:l≠[]):m7 (l.map λi:Nat=>(i:Int))=À (KI l:Int)/\KI l∈l/\∀i,nA l i<=KI l:=by
 cases l with
 |nil=>show absurd N h
 |cons x l=>
  have F:=F5 (l.map λi:Nat=>(i:Int)) (x:Int);have e:m7 ((x::l).map λi:Nat=>(i:Int))=À ((l.map λi:Nat=>(i:Int)).foldl (λa b=>max a b) (x:Int)):=rfl;have m:∃y∈x::l,(y:Int)=(l.map λi:Nat=>(i:Int)).foldl (λa b=>max a b) (x:Int):=F.1.elim (λq=>⟨x,G',q.symm⟩) λq=>aF (ś.mp q) λy hy q=>⟨y,J' _ hy,q⟩;show aF m λy hy q=>?_;have mx:KI (x::l)=y:=by unfold KI;rw[e,<-q];rfl
  show⟨by rw[mx,e,q],mx▸hy,λi=>?_⟩;rw[mx];show Ţ.mp (q▸?_);unfold nA;cases hi:(x::l)[i]? with
  |none=>show Ŀ (Ě x) F.2.1
  |some z=>show(Ĉ.mp (ĥ hi)).elim (λq=>q▸F.2.1) λq=>F.2.2 _ (ś.mpr ⟨z,q,N⟩)
theorem An{f g:α->Int}:∀{l:List α},(∀x∈l,f x<=g x)->be (l.map f)<=be (l.map g)
 |[],_=>Ř _
 |x::l,h=>by rw[ř,ř,aY,aY];show ad4 (h x G') (An λy hy=>h y (J' _ hy))
section
variable{ds:List ax}{bs:List aU}{ps:List Pk}{aw:Int}{O:Str}{d:Nat}{H:ag}
theorem Kn(h:∀b∈bs,0<=b.a)(t:Nat):0<=fT bs O t:=by
 rw[jy];show Ŀ (acO ?_) (An (f:=λz=>0) λb hb=>?_)
 ·rw[afp,nj,Ϲ]
 ·unfold zp
  split
  ·show h b hb
  ·show Ř _
theorem GX(w:Wd ds bs ps aw)(t:Nat):fc ds bs O t<=max 0 (mh ds O):=by
 rw[uM];have h1:=Kn (O:=O) w.bk t
 have h2:be (ds.map (eR O t))<=mh ds O:=An λx hx=>by
  have h:=qf (n:=O) (w.dk x hx).nn;have h0:=(w.dk x hx).1.1;unfold eR;rw[if_pos (show 0<x.d from h0)];split
  ·show Ř _
  ·show h
 show(acP _ _).elim (λd0=>y5 0xc3410b00810b2110b3212be014 N h1 h2 (adM _ _) (acJ d0)) λd0=>y2 0xc0110b00812b081 N (adj _ _) (adi d0)
theorem tF(w:Wd ds bs ps aw)(h:¬ 200<mh ds O):qe (lg ps O) (ir ds bs O) (KI (ir ds bs O)):=by
 have eJ:ir ds bs O≠[]:=λq=>nomatch (congrArg aea q:(7:Nat)=0);show gH (O3 eJ) λh1 h2 h3=>⟨N,λo ho=>?_,z' (by unfold lg;rw[H'];show uX ps O) w.pl,h1,h3,?_⟩
 ·show aF (ś.mp ho) λi hi e=>?_;apply fv e
  show w.pk _ (KS (BD hi))
 ·show aF (ś.mp h2) λt z e=>?_
  have:=GX (O:=O) w t;rw[<-e];show aeq.mpr (Ŀ this (Int.max_le.mpr ⟨by decide,Ŕ.mp h⟩))
theorem HP(p:Pk):xw p.v (.int 1) .none H=À (p.off.v,H):=vc (l:=[.str p.n,.int p.a,.int p.p,.int p.l]) (a:=1) (show 1<=4 by decide) (show 4<=1000 by decide)
theorem Kg(x:Option (List Int)):Ki (WK x) .none=À x.isNone:=by cases x<;>rfl
theorem BC:∀(l:List Nat) (cs:List Int),bz (bZ l) (cs.map .int)=(l.zip cs).map pV
 |[],_=>rfl
 |_::_,[]=>rfl
 |p::ps,c::cs=>congrArg (V.tup [.int p,.int c]::·) (BC ps cs)
structure Yc(ds:List ax)(bs:List aU)(ps:List Pk)(O:Str)(L:Nat)(r:vH)(ae:ag):Prop where
 bad:∀c,fj ds bs ps O=À c->r=.exc c O
 ok:fj ds bs ps O=Ã->∃q cs,r=.ok (.ref q)/\L<=q/\gf ds bs ps O=À cs/\ae[q]?=À (.lst (((pC ps O).zip cs).map pV))
end
def jv(ds:List ax)(bs:List aU)(ps:List Pk)(aw:Int)(d:Nat)(H:ag)(O:Str):Prop:=∀(w:Wd ds bs ps aw),Qk (d+5) 16 [.tup (ds.map ax.v),.tup (bs.map aU.v),.tup (ps.map Pk.v),.str O] H (Yc ds bs ps O H.length)
namespace counts_ofH
def kc:=hc (U7 jv) ([],[],[],0,0,[],default)
def ds:=kc.1
def bs:=kc.2.1
def ps:=kc.2.2.1
def aw:=kc.2.2.2.1
def d:=kc.2.2.2.2.1
def H:=kc.2.2.2.2.2.1
def O:=kc.2.2.2.2.2.2
theorem kt:jv ds bs ps aw d H O:=by
 intro w;have ou:∀x∈ds,x.ok:=λx hx=>(w.dk x hx).1;show HF N N (fu (o7 (d:=d+3) (H:=H) ou O) λv bj e1 k1 q=>dN q λl q1 h1 h2=>?_);rw[q1]at e1;have hs:be l=mh ds O:=h2 0;show W.if_ (p:=200<mh ds O) (bN (aQ (ak (af N e1)) (B5 l)) N (by rw[hs];rfl)) (λhc=>W.raise N (.inr ⟨1,O,N,k1,λc h=>by rw[<-sm ((qA hc).symm.trans h)],λh=>no (h.symm.trans (qA hc))⟩)) λhc=>W.nil ?_;have ec:=ez (elt:=ab (aG PP (d+4)) (xv 6)) (cond:=dp (aG PP (d+4)) (a1 (xE (xu 7 0) (xv 3)))) (t:=.two 6 7) (w:=[]) (U:=bI [.tup (ds.map ax.v),.tup (bs.map aU.v),.tup (ps.map Pk.v),.str O]) (H:=bj) (g:=λi=>V.tup [.int ((0+i:Nat):Int),(pU ps i).v]) (p:=λi=>(pU ps i).n==O) (f:=λi:Nat=>V.int i) (bw _) (xs:=ċ ps.length) λi y=>⟨_,N,nK N,λy=>congrArg (λz:Nat=>À (V.int z,bj)) (ż i)⟩;show W.set (fK ((fW (⟨aem,0,0,0⟩:Pk) ps 0)▸nC N) ec (by rw[H'];show z' (uX ps O) (z' w.pl (by decide)))) ?_;have k2:=aB.app bj [.lst (bZ (pC ps O))];have g2:=aE bj (.lst (bZ (pC ps O)));change W _ _ _ (bj++[.lst (bZ (pC ps O))]) _;generalize bj++[.lst (bZ (pC ps O))]=cS at k2 g2;have et:=nM (Á:=aG PP (d+4)) (elt:=.slc (.idx (xv 2) (xv 6)) (xn 1) (.cst .none)) (t:=.one 6) (it:=.ex (xv 4)) (ifs:=.nil) (U:=cP (bI [.tup (ds.map ax.v),.tup (bs.map aU.v),.tup (ps.map Pk.v),.str O]) 4 (.ref bj.length)) (H:=cS) (f:=λi=>(pU ps i).off.v) (p:=λy=>Æ) (iW N g2) (iY g2) (z' (uX ps O) (z' w.pl (by decide))) λi hi=>⟨_,N,N,λy=>lQ (bg i _ _ N N (Ě _) (Nf (BD hi))) N N (HP _)⟩;rw[fx,show ((pC ps O).map λi=>(pU ps i).off.v)=(lg ps O).map cV.v by unfold lg;rw[Ū];rfl]at et;have k3:=aB.app cS [.lst ((lg ps O).map cV.v)];generalize cS++[.lst ((lg ps O).map cV.v)]=fg at et k3;show fu (uN (d:=d+2) (H:=fg) ou w.bl O) λv4 sr e4 k4 q4=>?_;rw[q4,GY]at e4;show fu (oP (d:=d) (H:=sr) (tF w hc)) λv5 li e5 k5 q5=>?_;rw[q5,show Jp (lg ps O) (ir ds bs O) (KI (ir ds bs O))=gf ds bs ps O from N]at e5;have K5:=k2.trans (k3.trans (k4.trans k5));show W.set (af (aA et (ak (af N e4))) e5) (W.ifB (bN N N (Kg _)) (λhb=>W.raise N (.inr ⟨2,O,N,k1.trans K5,λc h=>by rw[<-sm ((ue hc hb).symm.trans h)],λh=>no (h.symm.trans (ue hc hb))⟩)) λhb=>W.nil ?_);cases hf:gf ds bs ps O with
 |none=>rw[hf]at hb;show nomatch hb
 |some cs=>show W.retE (v:=.ref (li++[bp.own]).length) (Î:=li++[.own]++[.lst (((pC ps O).zip cs).map pV)]) ?_ (.inl ⟨_,N,(k1.trans K5).trans ((aB.app _ _).trans (aB.app _ _)),λc h=>no ((FZ hc hf).symm.trans h),λy=>⟨_,cs,N,((k1.trans K5).trans (aB.app _ _)).len,hf,aE _ _⟩⟩);show (lst li bj.length).bind (λx=>rV (li++[.own]) (bz x (cs.map .int)))=_;rw[cy ((k3.trans (k4.trans k5)) _ _ g2)];show rV (li++[.own]) (bz (bZ (pC ps O)) (cs.map .int))=_;rw[BC];show if_pos (by rw[H',adl];show z' (acj _ _) (z' (uX ps O) (z' w.pl (by decide))))
end counts_ofH
theorem CL{ds:List ax}:jv ds bs ps aw d H O:=hk (P:=U7 jv) counts_ofH.kt (ds,bs,ps,aw,d,H,O)
noncomputable def pD(cs:List Int)(z:List (Nat×Int)):List Int:=z.foldl (λcs p=>cs.set p.1 p.2) cs
theorem xm(cs:List Int)(z:List (Nat×Int))(p:Nat×Int):pD cs (z++[p])=(pD cs z).set p.1 p.2:=by unfold pD;rw[acY];rfl
theorem pW:∀(z:List (Nat×Int)) (cs:List Int),(pD cs z).length=cs.length
 |[],_=>rfl
 |p::z,cs=>(pW z (cs.set p.1 p.2)).trans acl
def Sf(ds:List ax)(bs:List aU)(ps:List Pk)(cs:List Int)(O:Str):List Int:=pD cs ((pC ps O).zip ((gf ds bs ps O).getD []))
def BO(ds:List ax)(bs:List aU)(ps:List Pk)(l:List Str):List Int:=l.foldl (Sf ds bs ps) (Ő ps.length 0)
def JM(ds:List ax)(bs:List aU)(ps:List Pk)(l:List Str):Option (Nat×Str):=l.findSome? λO=>(fj ds bs ps O).map λc=>(c,O)
def dY(ds:List ax)(bs:List aU)(ps:List Pk):Option (Nat×Str):=JM ds bs ps (lG ds)
def Ai(ds:List ax)(bs:List aU)(ps:List Pk):List Int:=BO ds bs ps (lG ds)
section
variable{ds:List ax}{bs:List aU}{ps:List Pk}{aw:Int}{O:Str}{d c j:Nat}{H:ag}{l:List Str}
theorem p6(l:List Str)(O:Str):BO ds bs ps (l++[O])=Sf ds bs ps (BO ds bs ps l) O:=by unfold BO;rw[acY];rfl
theorem ma:∀l:List Str,(BO ds bs ps l).length=ps.length:=λl=>by
 unfold BO;generalize hc:Ő ps.length (0:Int)=cs;rw[show ps.length=cs.length by rw[<-hc,Ϻ]];clear hc
 induction l generalizing cs with
 |nil=>rfl
 |cons n l ih=>rw[ϑ,ih];show pW _ _
theorem yX(h:JM ds bs ps (l.take j)=Ã)(hx:l[j]?=À O)(hf:fj ds bs ps O=À c):JM ds bs ps l=À (c,O):=by rw[<-Ť j l,List.drop_eq_getElem?_toList_append,hx];unfold JM at h ⊢;rw[aew,h,afv];show List.findSome? _ (O::l.drop (j+1))=_;rw[aeL,hf];rfl
theorem A0(h:JM ds bs ps (l.take j)=Ã)(hx:l[j]?=À O)(hf:fj ds bs ps O=Ã):JM ds bs ps (l.take (j+1))=Ã:=by rw[bC hx];unfold JM at h ⊢;rw[aew,h,afv,aeL,hf];rfl
def Yi(ds:List ax)(bs:List aU)(ps:List Pk)(r:vH)(_:ag):Prop:=(∀c O,dY ds bs ps=À (c,O)->r=.exc c O)/\(dY ds bs ps=Ã->r=.ok (.tup ((Ai ds bs ps).map .int)))
abbrev Pp(ds:List ax)(bs:List aU)(ps:List Pk)(q:Nat):List (Option V):=[À (.tup (ds.map ax.v)),À (.tup (bs.map aU.v)),À (.tup (ps.map Pk.v)),À (.ref q)]
theorem yo{Á:az}{U:aL}(h2:U 2=À (.tup (ps.map Pk.v)))(hp:ps.length<=30):∃q ae,ab Á (xM (.list (a1 (xn 0))) (.prim .len (a1 (xv 2)))) U H=À (.ref q,ae)/\pI H q ((BO ds bs ps []).map .int) ae:=
 nS (λae=>aQ (ak (aI h2)) ((jz _).trans (by rw[H']))) (z' hp (by decide))
end
def fM(ds:List ax)(bs:List aU)(ps:List Pk)(aw:Int)(d:Nat)(H:ag):Prop:=∀(w:Wd ds bs ps aw),Qk (d+6) 17 [.tup (ds.map ax.v),.tup (bs.map aU.v),.tup (ps.map Pk.v)] H (Yi ds bs ps)
namespace shopped_callH
def kc:=hc (U6 fM) ([],[],[],0,0,[])
def ds:=kc.1
def bs:=kc.2.1
def ps:=kc.2.2.1
def aw:=kc.2.2.2.1
def d:=kc.2.2.2.2.1
def H:=kc.2.2.2.2.2
theorem kt:fM ds bs ps aw d H:=by
 intro w;show HF N N (gq (yo (ds:=ds) (bs:=bs) (H:=H) (Á:=aG PP (d+5)) (U:=bI [.tup (ds.map ax.v),.tup (bs.map aU.v),.tup (ps.map Pk.v)]) N w.pl) λq bj e1 ø=>W.set e1 (fu (Eb (d:=d+4) (H:=bj) w.dk) λv cS e2 k2 q2=>?_));rw[q2]at e2;show W.each (bG (Pp ds bs ps q)) (λj ae=>pI H q ((BO ds bs ps ((lG ds).take j)).map .int) ae/\JM ds bs ps ((lG ds).take j)=Ã) (λfl ae=>∃c O,fl=.exc c O/\dY ds bs ps=À (c,O)/\aB H ae) (cH (af N e2)) (ay ⟨N,N,N,N,trivial⟩) ⟨ø.keep k2,N⟩ (λz z z=>bw _) (λj O fg hx I=>⟨_,N,?_⟩) (λfg I=>?_) λfl aR ae h=>fu h λc O h1 h2 h3=>.inr ⟨c,O,h1,h3,λc' XX e=>?_,λe=>no (e.symm.trans h2)⟩
 ·show fu (CL (d:=d) (H:=fg) (O:=O) w) λr sr e4 k4 R=>?_
  have O4:=I.1.keep k4;cases hf:fj ds bs ps O with
  |some c=>rw[R.bad c hf]at e4;show W.forX N e4 (.inr ⟨(λq=>nomatch q),c,O,N,yX I.2 hx hf,O4.hk⟩)
  |none=>
   show JG (R.ok hf) λp cs h1 hp h2 h3=>?_;rw[h1]at e4;have Ta:p≠q:=ū (ĳ (Ġ.mp I.1.hl).1 hp);have ca:=ma (ds:=ds) (bs:=bs) (ps:=ps) ((lG ds).take j);show W.each (bG (Pp ds bs ps q)) (λi ae=>pI H q ((pD (BO ds bs ps ((lG ds).take j)) (((pC ps O).zip cs).take i)).map .int) ae/\ae[p]?=À (.lst (((pC ps O).zip cs).map pV))) (λz z=>False) (iW (af N e4) h3) (ay ⟨N,N,N,N,trivial⟩) ⟨O4,h3⟩ (λz z h=>iY h.2) (λi x li hy ď=>⟨_,N,?_⟩) (λli ď=>?_) λz z z q=>q.elim
   ·have RB:x.1<ps.length:=BD (ϗ (ĥ hy)).1
    show W.setItem0 q x.1 _ (.int x.2) N N N ď.1.hl (Ě _) (by rw[ĵ,H',pW,ca];show RB) (W.nil (.inl ⟨N,ay ⟨N,N,N,N,trivial⟩,?_,(dL (Ne.symm Ta)).trans ď.2⟩));rw[ĵ,eM,bC hy,xm];show ď.1.set _
   ·show W.nil (.inl ⟨N,ay ⟨N,N,N,N,trivial⟩,?_,A0 I.2 hx hf⟩)
    have:=ď.1;rw[ŋ]at this;rw[bC hx,p6,Sf,h2];show this
 ·show W.retE (aQ N (bv I.1.hl (by rw[H',ma];show z' w.pl (by decide)))) (.inl ⟨_,N,I.1.hk,λc O e=>?_,λz=>?_⟩)
  ·have:=I.2;rw[ŋ]at this;show no (this.symm.trans e)
  ·rw[ŋ];rfl
 ·show aO (nT (h2.symm.trans e)) λa b=>by rw[<-a,<-b]
end shopped_callH
theorem nu{ds:List ax}:fM ds bs ps aw d H:=hk (P:=U6 fM) shopped_callH.kt (ds,bs,ps,aw,d,H)
section
variable{ds:List ax}{bs:List aU}{ps:List Pk}{aw:Int}{O:Str}{d c j:Nat}{H:ag}{l:List Str}
theorem ku(hd:∀x∈ds,x.okA aw):yw (d+1) 36 [.tup (ds.map ax.v)] H λv ae=>∃r,v=.ref r/\H.length<=r/\ae[r]?=À (.lst ((lG ds).map .str)):=by have uq:∀x∈ds,x.okN aw:=λx hx=>⟨(hd x hx).1,λp hp=>((hd x hx).2 p hp).1⟩;show iB N N (W.set (Î:=H++[.ds []]) N (wG uq N N (aE _ _) (λp U uC=>⟨_,N,uC,λz=>bg 0 _ _ (aI N) N (by decide) N⟩) λbj hK hD=>W.retE (aQ (ak (aI N)) (pe hD (kQ (mD uq)))) ⟨_,N,(uI hK).trans (aB.app _ _),_,N,(uI hK).len,aE _ _⟩))
theorem t6(h:dY ds bs ps=Ã)(hn:O∈lG ds):fj ds bs ps O=Ã:=by have:=List.findSome?_eq_none_iff.mp h O hn;show Option.map_eq_none_iff.mp this
theorem qD(h:fj ds bs ps O=Ã):¬ 200<mh ds O/\∃cs,gf ds bs ps O=À cs:=by
 have h1:¬ 200<mh ds O:=λq=>no (h.symm.trans (qA q));show⟨h1,?_⟩;cases e:gf ds bs ps O with
 |none=>show no (h.symm.trans (ue h1 (by rw[e];rfl)))
 |some cs=>show⟨cs,N⟩
theorem oC(x0:α)(l:List α):(ċ l.length).map (λi=>(l[i]?).getD x0)=l:=by
 show aed λi=>?_;rw[į];by_cases h:i<l.length
 ·rw[Ϭ h,ē h];show À ((l[i]?).getD x0)=_;rw[ē h];rfl
 ·rw[ϭ (by rw[Ś];show ľ.mp h),ϭ (ľ.mp h)];rfl
theorem Ho(ps:List Pk)(O:Str):lg ps O=(ps.filter λp=>p.n==O).map Pk.off:=by
 conv=>rhs;rw[<-oC (⟨aem,0,0,0⟩:Pk) ps]
 rw[List.filter_map,Ū];rfl
theorem yr(x:Nat):∀{l:List Nat} {m:List Int},l.length<m.length->(l++[x]).zip m=l.zip m++[(x,cq m l.length)]
 |[],y::m,_=>by cases m<;>rfl
 |a::l,y::m,h=>congrArg ((a,y)::·) (yr x (ab6 h))
theorem Af{p:Nat->Bool}{k n:Nat}(h:k<n)(hp:p k=Æ):(ċ (k+1)).filter p=(ċ k).filter p++[k]/\((ċ k).filter p).length<((ċ n).filter p).length:=by
 have e:(ċ (k+1)).filter p=(ċ k).filter p++[k]:=by rw[acA,adp,ada,if_pos hp];rfl
 show⟨e,((ads h).elim λm q=>?_)⟩;rw[q,afu,adp,e,û,û];show ĳ (Ż _) (Ň _ _)
abbrev SL(ds:List ax)(bs:List aU)(ps:List Pk)(q:Nat)(O:Str)(cs:List Int)(a:Nat):aL:=bG [À (.tup (ds.map ax.v)),À (.tup (bs.map aU.v)),À (.tup (ps.map Pk.v)),À (.ref q),À (.str O),Ã,À (.tup (cs.map .int)),À (.int a)]
end
def im(ds:List ax)(bs:List aU)(ps:List Pk)(aw:Int)(d:Nat)(H:ag):Prop:=∀(w:Wd ds bs ps aw) (he:dY ds bs ps=Ã),yw (d+5) 43 [.tup (ds.map ax.v),.tup (bs.map aU.v),.tup (ps.map Pk.v)] H λv ae=>∃q,v=.ref q/\ae[q]?=À (.lst ((Ai ds bs ps).map .int))
namespace counts_dueH
def kc:=hc (U6 im) ([],[],[],0,0,[])
def ds:=kc.1
def bs:=kc.2.1
def ps:=kc.2.2.1
def aw:=kc.2.2.2.1
def d:=kc.2.2.2.2.1
def H:=kc.2.2.2.2.2
theorem kt:im ds bs ps aw d H:=by
 intro w he;show iB N N (gq (yo (ds:=ds) (bs:=bs) (H:=H) (Á:=aG PP (d+4)) (U:=bI [.tup (ds.map ax.v),.tup (bs.map aU.v),.tup (ps.map Pk.v)]) N w.pl) λq bj e1 ø=>W.set e1 ?_);show fu (ku (d:=d+3) (H:=bj) w.dk) λv cS e2 k2 q2=>dN q2 λr q2 hr RA=>?_;rw[q2]at e2;have Xw:q<bj.length:=(Ġ.mp ø.hl).1;have VQ:q≠r:=ŉ (ĳ Xw hr);show W.each (bG (Pp ds bs ps q)) (λj ae=>pI H q ((BO ds bs ps ((lG ds).take j)).map .int) ae/\ae[r]?=À (.lst ((lG ds).map .str))) (λz z=>False) (iW (af N e2) RA) (ay ⟨N,N,N,N,trivial⟩) ⟨ø.keep k2,RA⟩ (λz z h=>iY h.2) (λj O fg hx I=>⟨_,N,?_⟩) (λfg I=>?_) λz z z q=>q.elim
 ·show aO (qD (t6 he (ĥ hx))) λhc hf=>hf.elim λcs hf=>?_
  have T:=tF w hc;have zw:cs.length=(pC ps O).length:=(AO T hf).1.trans (H' _);show W.set (nM (p:=λp:Pk=>p.n==O) (f:=λp=>p.off.v) (cH N) (bw _) (z' w.pl (by decide)) λp hp=>⟨_,N,nK N,λz=>lQ N N N (HP p)⟩) ?_;rw[show (ps.filter λp=>p.n==O).map (λp=>p.off.v)=(lg ps O).map cV.v by rw[Ho,Ū];rfl];have k3:=aB.app fg [.lst ((lg ps O).map cV.v)];generalize fg++[.lst ((lg ps O).map cV.v)]=sr at k3;show dN (Bt (d:=d+3) (H:=sr) (bs:=bs) (O:=O) (λx hx=>(w.dk x hx).1)) λli e5 h5 k5=>?_;rw[show ((ċ 7).map (fc ds bs O)).map V.int=bZ (ir ds bs O) from GY ds bs O]at h5;show fu (oP (d:=d) (H:=li) T) λv Ci e6 k6 q6=>?_;rw[q6,show Jp (lg ps O) (ir ds bs O) (KI (ir ds bs O))=À cs from hf]at e6;have K6:=k3.trans (k5.trans k6);show W.set (af (aA N (ak (aQ (ak (af N e5)) (bv h5 (by rw[H'];show(by decide:7<=al)))))) e6) (W.set (v:=.int ((0:Nat):Int)) N ?_)
  show W.loop (xs:=cp 0 ps.length 1) (eD (aQ N ((jz _).trans (by rw[H']))) (z' w.pl (by decide)))
   (λk U ae=>U=SL ds bs ps q O cs ((ċ k).filter λi=>(pU ps i).n==O).length/\pI H q ((pD (BO ds bs ps ((lG ds).take j)) (((ċ k).filter λi=>(pU ps i).n==O).zip cs)).map .int) ae/\ae[r]?=À (.lst ((lG ds).map .str)))
   (a:=SL ds bs ps q O cs 0) (ay ⟨N,N,N,N,N,N,N,trivial⟩) ⟨N,I.1.keep K6,K6 _ _ I.2⟩ (λz z z z=>bw _) (λk x WA P8 hy ď=>?_) λWA P8 ď=>?_
  ·show gH ď λq7 O7 h7=>?_;apply aW q7
   show aO (gW hy) λhk qy=>?_;apply aW qy;show⟨_,N,W.ifB (b:=(pU ps k).n==O) (bN (bg 0 _ _ (bg k _ _ N N (Ě _) (Nf hk)) N (by decide) N) N N) (λhb=>?_) λhb=>W.nil (W.nil ?_)⟩
   ·show aO (Af (p:=λi=>(pU ps i).n==O) hk hb) λem hm=>?_
    have hm:_<cs.length:=zw▸hm;show W.setItem0 q k _ (.int (cq cs _)) (bg _ _ _ N N (Ě _) (gA hm)) N N O7.hl (Ě _) (by rw[ĵ,H',pW,ma];show hk) (W.set (v:=.int ((((ċ k).filter λi=>(pU ps i).n==O).length+1:Nat):Int)) N (W.nil (W.nil ⟨N,SL ds bs ps q O cs (((ċ k).filter λi=>(pU ps i).n==O).length+1),ay ⟨N,N,N,N,N,N,N,trivial⟩,?_,?_,(dL VQ).trans h7⟩)))
    ·rw[em,û];rfl
    ·rw[em,yr k hm,xm,ĵ,eM];show O7.set _
   ·have em:(ċ (k+1)).filter (λi=>(pU ps i).n==O)=(ċ k).filter λi=>(pU ps i).n==O:=by rw[acA,adp,ada,if_neg (by rw[hb];show Ķ)];show Ĵ _
    show⟨N,SL ds bs ps q O cs _,ay ⟨N,N,N,N,N,N,N,trivial⟩,by rw[em],by rw[em];show O7,h7⟩
  ·show gH ď λq7 O7 h7=>?_;apply aW q7
   rw[gZ]at O7;show W.nil (.inl ⟨N,ay ⟨N,N,N,N,trivial⟩,?_,h7⟩);rw[bC hx,p6,Sf,hf];show O7
 ·show W.retE N ⟨_,N,I.1.hk,q,N,?_⟩
  have:=I.1.hl;rw[ŋ]at this;show this
end counts_dueH
theorem qo{ds:List ax}:im ds bs ps aw d H:=hk (P:=U6 im) counts_dueH.kt (ds,bs,ps,aw,d,H)
noncomputable def hO:Option (Nat×Str)->List V
 |none=>[]
 |some p=>[.bool (p.1==1),.bool (p.1==2),.bool Ê,.bool Æ,.str p.2]
section
variable{ds:List ax}{bs:List aU}{ps:List Pk}{aw:Int}{O:Str}{d c j t r:Nat}{H:ag}{l:List Int}
noncomputable def IQ(ps:List Pk)(O:Str)(t:Nat):List Pk:=ps.filter λp=>p.n==O&&decide ((t:Int)<p.l)
theorem Gb:Mo (lg ps O) (t+1)↔IQ ps O t≠[]:=by
 rw[Ho];show⟨λh q=>aF h λo ho hl=>aF (ś.mp ho) λp hp e=>?_,λh=>(List.exists_mem_of_ne_nil _ h).elim λp hp=>?_⟩
 ·have hp:=ŝ.mp hp
  have:p∈IQ ps O t:=ŝ.mpr ⟨hp.1,Ľ.mpr ⟨hp.2,decide_eq_true (by rw[<-e]at hl;show hl)⟩⟩;rw[q]at this;show nomatch this
 ·have hp:=ŝ.mp hp
  have h2:=Ľ.mp hp.2;show⟨_,ś.mpr ⟨p,ŝ.mpr ⟨hp.1,h2.1⟩,N⟩,of_decide_eq_true h2.2⟩
theorem uS(ht:t<7):nA (ir ds bs O) t=(fc ds bs O t).toNat:=by unfold nA ir;rw[į,Ϭ ht];rfl
theorem qC(w:Wd ds bs ps aw)(hc:¬ 200<mh ds O):fj ds bs ps O=À 2↔∃t,t<7/\0<fc ds bs O t/\IQ ps O t=[]:=by
 have B:=Jq (tF w hc)
 have e:fj ds bs ps O=À 2↔gf ds bs ps O=Ã:=by
  cases h:gf ds bs ps O with
  |none=>show⟨λx=>rfl,λx=>ue hc (by rw[h];rfl)⟩
  |some cs=>show⟨λq=>no ((FZ hc h).symm.trans q),λq=>nomatch q⟩
 show e.trans (B.trans ⟨λh=>abE λq=>h λt ht=>?_,λh q=>dN h λt ht h1 h2=>?_⟩)
 ·rw[uS ht]
  by_cases z:0<fc ds bs O t
  ·show .inr (Gb.mpr λy=>q ⟨t,ht,z,y⟩)
  ·show .inl (Int.toNat_of_nonpos (Ŕ.mp z))
 ·show(q t ht).elim (λy=>?_) λy=>Gb.mp y h2
  rw[uS ht]at y;show zI (y2 0x1c080811b00812b08110b10 N h1 (iE y) (adD _))
end
def kH(ds:List ax)(bs:List aU)(ps:List Pk)(aw:Int)(d:Nat)(H:ag):Prop:=∀(w:Wd ds bs ps aw),yw (d+2) 37 [.tup (ds.map ax.v),.tup (bs.map aU.v),.tup (ps.map Pk.v)] H λv ae=>∃q,v=.ref q/\ae[q]?=À (.lst (hO (dY ds bs ps)))
namespace due_callH
def kc:=hc (U6 kH) ([],[],[],0,0,[])
def ds:=kc.1
def bs:=kc.2.1
def ps:=kc.2.2.1
def aw:=kc.2.2.2.1
def d:=kc.2.2.2.2.1
def H:=kc.2.2.2.2.2
set_option tactic.hygienic true in
theorem kt:kH ds bs ps aw d H:=by
 intro w;show iB N N (fu (ku (d:=d) (H:=H) w.dk) λv bj e1 k1 q1=>dN q1 λr q1 hr RA=>?_);rw[q1]at e1;show W.each (bG [À (.tup (ds.map ax.v)),À (.tup (bs.map aU.v)),À (.tup (ps.map Pk.v))]) (λj ae=>aB bj ae/\JM ds bs ps ((lG ds).take j)=Ã) (λfl ae=>∃q,fl=.ret (.ref q)/\aB bj ae/\ae[q]?=À (.lst (hO (dY ds bs ps)))) (iW (af N e1) RA) (ay ⟨N,N,N,trivial⟩) ⟨aB.refl _,N⟩ (λ_ _ h=>iY (h.1 _ _ RA)) (λj O cS hx I=>⟨_,N,?_⟩) (λcS I=>?_) λfl aR ae h=>dN h λq h1 h2 h3=>⟨_,h1,k1.trans h2,q,N,h3⟩
 ·show aF (xh (d:=d) (H:=cS) w.dk O) λfg e3 k3=>?_
  have K3:=I.1.trans k3;show W.if_ (p:=200<mh ds O) (bN (af N e3) N N) (λhc=>?_) λhc=>W.nil ?_
  ·show W.retE (cg (vs:=hO (À (1,O))) N (show 5<=al by decide)) (.inr ⟨(λq=>nomatch q),_,N,K3.trans (aB.app _ _),?_⟩)
   rw[show dY ds bs ps=À (1,O) from yX I.2 hx (qA hc)];show aE _ _
  show dN (Bt (d:=d) (H:=fg) (bs:=bs) (λx hx=>(w.dk x hx).1)) λsr e4 h4 k4=>W.set (af N e4) ?_;have K4:=K3.trans k4;show W.each (xs:=ċ 7) (g:=λj:Nat=>V.int ((j+1:Nat):Int)) (bG [À (.tup (ds.map ax.v)),À (.tup (bs.map aU.v)),À (.tup (ps.map Pk.v)),À (.str O),À (.ref fg.length)]) (λt ae=>aB sr ae/\∀u,u<t->¬ (0<fc ds bs O u/\IQ ps O u=[])) (λfl ae=>∃q,fl=.ret (.ref q)/\aB bj ae/\ae[q]?=À (.lst (hO (dY ds bs ps)))) (xV (n:=((7+1:Nat):Int)) N N N (HE 7).symm) (ay ⟨N,N,N,N,N,trivial⟩) ⟨aB.refl _,λu hu=>absurd hu (aci u)⟩ (λ_ _ _=>bw _) (λt x li ht ď=>⟨_,N,?_⟩) (λli ď=>?_) λfl aR ae h=>dN h λq h1 h2 h3=>.inr ⟨(by rw[h1];show λq=>nomatch q),q,h1,h2,h3⟩
  ·show aO (g7 ht) λqx ht=>?_;apply aW qx
   have hz:(IQ ps O t).length<=al:=z' (ϻ _ _) (z' w.pl (by decide));show W.set (fK (cH N) (ez (p:=λp:Pk=>p.n==O&&decide ((t:Int)<p.l)) (f:=Pk.v) (bw _) λp _=>⟨_,N,nK (io N N),λ_=>rfl⟩) (by rw[H'];show hz)) ?_;change W _ _ _ (li++[.lst ((IQ ps O t).map Pk.v)]) _;have g6:=aE li (.lst ((IQ ps O t).map Pk.v));have k6:=aB.app li [.lst ((IQ ps O t).map Pk.v)];generalize li++[.lst ((IQ ps O t).map Pk.v)]=Ci at g6 k6;have K6:=ď.1.trans k6;have el:ab (aG PP (d+1)) (xG (.idx (xv 4) (xS (xv 5) (xn 1))) (xn 0)) (cP (cP (bG [À (.tup (ds.map ax.v)),À (.tup (bs.map aU.v)),À (.tup (ps.map Pk.v)),À (.str O),À (.ref fg.length)]) 5 (.int ((t+1:Nat):Int))) 6 (.ref li.length)) Ci=À (.bool (decide (0<fc ds bs O t)),Ci):=bN (bx fg.length t _ _ N (congrArg (λz=>À (V.int z,Ci)) (ad1 t 1)) (K6 _ _ h4) (Ě _) (by rw[ĵ,į,į,Ϭ ht];rfl)) N N;by_cases h0:0<fc ds bs O t
   ·rw[decide_eq_true h0]at el
    show W.if_ (t7 el (bN N (cg (vs:=[]) N (Ĥ _)) (yW (cy (aB.app _ _ _ _ g6)) (cy (aE _ _))))) (λhb=>?_) λhb=>W.nil (W.nil (.inl ⟨N,ay ⟨N,N,N,N,N,trivial⟩,K6.trans (aB.app _ _),λu hu=>?_⟩))
    ·rw[H']at hb
     show W.retE (cg (vs:=hO (À (2,O))) N (show 5<=al by decide)) (.inr ⟨(λq=>nomatch q),_,N,(K4.trans K6).trans ((aB.app _ _).trans (aB.app _ _)),?_⟩);rw[show dY ds bs ps=À (2,O) from yX I.2 hx ((qC w hc).mpr ⟨t,ht,h0,ϰ.mp hb⟩)];show aE _ _
    ·show(aeh.mp hu).elim (ď.2 u) λq=>?_
     rw[q];show λy=>hb (by rw[H',y.2];rfl)
   ·rw[decide_eq_false h0]at el
    show W.iteF Ci (bR (t8 el)) (W.nil (W.nil (.inl ⟨N,ay ⟨N,N,N,N,N,trivial⟩,K6,λu hu=>(aeh.mp hu).elim (ď.2 u) λq=>by rw[q];show λy=>h0 y.1⟩)))
  ·show W.nil (.inl ⟨N,ay ⟨N,N,N,trivial⟩,K4.trans ď.1,A0 I.2 hx ?_⟩)
   cases hf:fj ds bs ps O with
   |none=>rfl
   |some c=>
    have h2:fj ds bs ps O=À 2:=by
     unfold fj at hf ⊢;rw[if_neg hc]at hf ⊢;split at hf
     ·rename_i q;rw[if_pos q]
     ·show nomatch hf
    show dN ((qC w hc).mp h2) λt ht h1 h3=>absurd ⟨h1,h3⟩ (ď.2 t (by rw[Ś];show ht))
 ·show W.retE (cg (vs:=[]) N (Ĥ _)) ⟨_,N,k1.trans (I.1.trans (aB.app _ _)),_,N,?_⟩
  have:=I.2;rw[ŋ]at this;rw[show dY ds bs ps=Ã from this];show aE _ _
end due_callH
theorem wf{ds:List ax}:kH ds bs ps aw d H:=hk (P:=U6 kH) due_callH.kt (ds,bs,ps,aw,d,H)
section
variable{ds:List ax}{bs:List aU}{ps:List Pk}{aw:Int}{O:Str}{d c j t r e:Nat}{H:ag}{l:List Int}
theorem zO(hr:H[r]?=À (.exn c e))(he:H[e]?=À (.wd O))(hc:c=1\/c=2):aG PP (d+1) 38 [.ref r] H=À (.ok (.ref H.length),H++[.lst (hO (À (c,O)))]):=by
 have h:(c==1||c==2)=Æ:=by rcases hc with rfl|rfl<;>rfl
 rw[show hO (À (c,O))=[.bool (nH c 1),.bool (nH c 2),.bool Ê,.bool (nH c 3),.str O] by rcases hc with rfl|rfl<;>rfl];show(pN rfl rfl).trans (Wp (cg (aA (yY rfl hr h) (aA (yY rfl hr h) (aA rfl (aA (yY rfl hr h) (ak (JO rfl hr he h)))))) (show 5<=al by decide)))
theorem Ml(h:dY ds bs ps=À (c,O)):c=1\/c=2:=by
 show aF (adG h) λn z h=>?_;show aF (Ϫ.mp h) λc' h1 h2=>?_;rw[show c=c' from (congrArg afI h2).symm];unfold fj at h1;split at h1
 ·show .inl (sm h1).symm
 ·split at h1
  ·show .inr (sm h1).symm
  ·show nomatch h1
structure TW(ds:List ax)(bs:List aU)(ps:List Pk)(P:V->Prop)(v:V)(ae:ag)(q p:Nat)(x:V):Prop where
 v:v=.ref q
 q:ae[q]?=À (.lst [x,.ref p])
 p:ae[p]?=À (.lst (hO (dY ds bs ps)))
 x:dY ds bs ps=Ã->P x
theorem yg{f k:Nat}{a b u:V}{P:V->Prop}(hk:PP[k]?=À ⟨3,dx (.try_ (dx (.ret (.list (a2 (.call f (a3 (xv 0) (xv 1) (xv 2))) (.list .nil))))) 3 (dx (.ret (.list (a2 (.cst .none) (.call 38 (a1 (xv 3))))))))⟩)
  (X:Qk (d+1) f [a,b,u] H λr z=>(∀c O,dY ds bs ps=À (c,O)->r=.exc c O)/\(dY ds bs ps=Ã->∃v,r=.ok v/\P v)):yw (d+2) k [a,b,u] H λv ae=>∃q p x,TW ds bs ps P v ae q p x:=by
 show iB hk N (fu X λr bj e1 k1 h=>?_);cases he:dY ds bs ps with
 |none=>show aF (h.2 he) λv q hP=>?_;rw[q]at e1;show W.tryO (cg (vs:=[v,.ref bj.length]) (aA (af N e1) (ak (cg (vs:=[]) N (Ĥ _)))) (show 2<=al by decide)) ⟨_,N,k1.trans ((aB.app _ _).trans (aB.app _ _)),_,_,v,N,aE _ _,aB.app _ _ _ _ ?_,λz=>hP⟩;rw[he];show aE _ _
 |some p=>
  obtain ⟨c,w⟩:=p;rw[h.1 c w he]at e1;have h1:(bj++[.wd w,.exn c bj.length])[bj.length]?=À (.wd w):=by rw[ϙ (Đ _),Ϸ];rfl
  have h2:(bj++[.wd w,.exn c bj.length])[bj.length+1]?=À (.exn c bj.length):=by rw[ϙ (ϝ _)];show [bp.wd w,.exn c bj.length][bj.length+1-bj.length]?=_;rw[ϯ];rfl
  have h3:aB H (bj++[.wd w,.exn c bj.length]):=k1.trans (aB.app _ _);show W.tryE N e1 (v:=.ref ((bj++[bp.wd w,.exn c bj.length])++[bp.lst (hO (À (c,w)))]).length) ?_;generalize bj++[.wd w,.exn c bj.length]=cS at h1 h2 h3;show W.retE (cg (vs:=[.none,.ref cS.length]) (aA N (ak (af N (zO h2 h1 (Ml he))))) (show 2<=al by decide)) ⟨N,_,N,h3.trans ((aB.app _ _).trans (aB.app _ _)),_,_,.none,N,aE _ _,aB.app _ _ _ _ ?_,λq=>no (q.symm.trans he)⟩;rw[he];show aE _ _
theorem rG(w:Wd ds bs ps aw):yw (d+7) 42 [.tup (ds.map ax.v),.tup (bs.map aU.v),.tup (ps.map Pk.v)] H λv ae=>∃q p x,TW ds bs ps (λx=>x=.tup ((Ai ds bs ps).map .int)) v ae q p x:=
 yg (d:=d+5) (f:=17) N (fu (nu (d:=d) (H:=H) w) λr bj e1 k1 h=>⟨r,bj,e1,k1,h.1,λq=>⟨_,h.2 q,N⟩⟩)
theorem Av(x:Int):aG PP (d+1) 23 [.int x] H=À (.ok (.bool Æ),H):=gQ N N (W.retE N ⟨_,N,N,N⟩)
theorem ng(hr:H[r]?=À (.lst (l.map .int)))(hl:l.length<=100):aG PP (d+2) 24 [.tup (l.map .int),.ref r] H=À (.ok (.bool Æ),H):=by show gQ N N (W.iteF H (bR (A2 N (bN N (aQ N (uO hr)) (by show À (!_)=_;rw[beq_self_eq_true];rfl)))) (W.nil (W.each (xs:=ċ l.length) (bG [À (.tup (l.map .int)),À (.ref r)]) (λz ae=>ae=H) (λz z=>False) ((l8 l.length)▸eD (aQ N ((uO hr).trans (by rw[H']))) (z' hl (by decide))) (ay ⟨N,N,trivial⟩) N (λz z z=>bw _) (λj x bj hx I=>⟨_,N,?_⟩) (λbj I=>by rw[I];show W.retE N ⟨_,N,N,N⟩) λz z z q=>q.elim)));show aO (g7 hx) λqx hj=>?_;apply aW qx;apply aW I;have e1:=bg (Á:=aG PP (d+1)) (U:=cP (bG [À (.tup (l.map .int)),À (.ref r)]) 2 (.int j)) (H:=H) (a:=xv 0) (i:=xv 2) j _ _ N N (Ě _) (gA hj);show W.iteF H (bR (A2 (Oj (b:=Æ) (af (ak e1) (Av _))) (bN e1 (bx r j _ _ N N hr (Ě _) (gA hj)) (by show À (!_)=_;rw[beq_self_eq_true];rfl)))) (W.nil (W.nil (.inl ⟨N,ay ⟨N,N,trivial⟩,N⟩)))
end
noncomputable def Pk.bat(p:Pk):aU:=⟨p.n,p.a,p.l⟩
def jj(z:List (Pk×Int)):List aU:=z.flatMap λx=>Ő x.2.toNat x.1.bat
theorem xZ{z:List (Pk×Int)}:(∀x∈z,0<=x.2/\x.2<=1700)->(jj z).length<=1700*z.length:=by
 induction z with
 |nil=>show λk=>Đ _
 |cons x z ih=>intro h;unfold jj at ih ⊢;rw[ae9,û,Ϻ,ϧ,Nat.mul_succ,ϟ];show Ϗ (ih λy hy=>h y (J' _ hy)) (aeq.mpr (h x G').2)
abbrev Wu(q:Nat):aL:=bG [Ã,Ã,Ã,À (.ref q)]
def jF(d:Nat)(H:ag)(bs:List aU)(ps:List Pk)(cs:List Int):Prop:=∀(hb:bs.length<=120) (hp:ps.length<=30) (hc:∀x∈cs,0<=x/\x<=1700),∃ae,aG PP (d+1) 18 [.tup (bs.map aU.v),.tup (ps.map Pk.v),.tup (cs.map .int)] H=À (.ok (.tup ((bs++jj (ps.zip cs)).map aU.v)),ae)/\aB H ae
namespace stocked11H
def kc:=hc (U5 jF) (0,[],[],[],[])
def d:=kc.1
def H:=kc.2.1
def bs:=kc.2.2.1
def ps:=kc.2.2.2.1
def cs:=kc.2.2.2.2
theorem kt:jF d H bs ps cs:=by
 intro hb hp hc
 have hz:∀j,(bs++jj ((ps.zip cs).take j)).length<=60000:=λj=>by
  have h1:=xZ (z:=(ps.zip cs).take j) λx hx=>hc _ (ϗ (ŭ hx)).2;have h2:=aeD j (ps.zip cs);have h3:(ps.zip cs).length<=ps.length:=by rw[adl];show acj _ _
  rw[û];show z' (Ϗ hb (z' h1 (acI _ (z' h2 (z' h3 hp))))) (by decide)
 obtain ⟨v,ae,h,rfl,h1⟩:=eI (R:=λv ae=>v=.tup ((bs++jj (ps.zip cs)).map aU.v)/\aB H ae) (P:=PP) (k:=18) (d:=d) rfl (as:=[.tup (bs.map aU.v),.tup (ps.map Pk.v),.tup (cs.map .int)]) rfl (by
  show W.set (v:=.ref H.length) (Î:=H++[.lst (bs.map aU.v)]) (aQ N (Dr (by rw[H'];show z' hb (by decide)))) ?_;have Da:H.length≠(H++[bp.lst (bs.map aU.v)]).length:=by rw[û];show ŉ (Ż _)
  show W.loop (Pt (aI N) (aI N))
   (λj U ae=>U=Wu H.length/\aB H ae/\ae[H.length]?=À (.lst ((bs++jj ((ps.zip cs).take j)).map aU.v))/\ae[(H++[bp.lst (bs.map aU.v)]).length]?=À .own)
   (a:=Wu H.length) (ay ⟨N,trivial⟩) ⟨N,(aB.app _ _).trans (aB.app _ _),?_,aE _ _⟩ (λq q q h=>iY h.2.2.2) (λj y IG bj hy q1=>?_) λIG bj q1=>?_
  ·rw[ad6,show bs++jj []=bs from Ĵ _];show aB.app _ _ _ _ (aE _ _)
  ·show EC q1 λq1 hK hb ho=>?_;apply aW q1
   show aF (l5 hy) λx hx q3=>?_;apply aW q3;have PZ:=hc _ (ϗ (ĥ hx)).2;obtain ⟨p,m⟩:=x;obtain ⟨n,rfl⟩:=adr PZ.1;have hn:n<=1700:=Ţ.mp PZ.2
   have hs:jj ((ps.zip cs).take (j+1))=jj ((ps.zip cs).take j)++Ő n p.bat:=by rw[bC hx];unfold jj;rw[aeK];show congrArg _ (Ĵ _)
   have vz:=hz (j+1);rw[hs,<-ÿ]at vz;have lV:bs++jj ((ps.zip cs).take (j+1))=bs++jj ((ps.zip cs).take j)++Ő n p.bat:=by rw[hs,<-ÿ]
   generalize bs++jj ((ps.zip cs).take j)=B at hb vz lV;rw[û,Ϻ]at vz
   show⟨_,N,W.loop (eD (aI N) (z' hn (by decide)))
    (λi U ae=>U=bG [Ã,Ã,Ã,À (.ref H.length),À p.v]/\i<=n/\aB H ae/\ae[H.length]?=À (.lst ((B++Ő i p.bat).map aU.v))/\ae[(H++[bp.lst (bs.map aU.v)]).length]?=À .own)
    (a:=bG [Ã,Ã,Ã,À (.ref H.length),À p.v]) (ay ⟨N,N,trivial⟩) ⟨N,Ĥ _,hK,by rw[hb,List.replicate_zero,Ĵ],ho⟩ (λq q q q=>bw _) (λi y Su cS hy q2=>?_) λSu cS q2=>?_⟩
   ·show Uw q2 λq2 hi hK hb ho=>?_;apply aW q2
    show aO (gW hy) λcE q2=>?_;apply aW q2;show⟨_,N,W.append0 H.length _ p.bat.v N hb (bY (aA (bg 0 _ _ (aI N) N (by decide) N) (aA (bg 1 _ _ (aI N) N (by decide) N) (ak (bg 3 _ _ (aI N) N (by decide) N)))) (show 3<=al by decide)) (by rw[H',û,Ϻ];show z' (by show jL (y5 0xcea609310bea609011b2112ba14313ba240 N (iL vz) (iT cE) (iA _ _) (iA _ _)):_<=60000) (by decide)) (W.nil ⟨N,bG [Ã,Ã,Ã,À (.ref H.length),À p.v],ay ⟨N,N,trivial⟩,N,cE,hK.set (Đ _),?_,?_⟩)⟩
    ·rw[eG hb,List.replicate_succ',<-ÿ,Ŗ (l₁:=B++_)];rfl
    ·rw[dL Da];show ho
   ·show Uw q2 λq2 hi hK hb ho=>?_;apply aW q2
    rw[gZ,<-lV]at hb;show W.nil ⟨N,Wu H.length,ay ⟨N,trivial⟩,N,hK,hb,ho⟩
  ·show EC q1 λq1 hK hb ho=>?_;apply aW q1
   have hz:=hz (ps.zip cs).length;rw[H',ŋ]at hb;rw[ŋ]at hz;show W.retE (aQ N (bv hb (by rw[H'];show z' hz (by decide)))) ⟨_,N,N,hK⟩)
 show⟨ae,h,h1⟩
end stocked11H
theorem D4:jF d H bs ps cs:=hk (P:=U5 jF) stocked11H.kt (d,H,bs,ps,cs)
def wN(ps:List Pk)(cs:List Int)(O:Str)(t:Nat):Int:=be ((pC ps O).map λk=>if (t:Int)<(pU ps k).l then (pU ps k).a*cq cs k else 0)
def zF(n:Str)(t:Nat)(x:Pk×Int):Int:=if pk n t x.1.bat then x.1.a*x.2 else 0
theorem wY:∀{z:List (Pk×Int)},(∀x∈z,0<=x.2)->fT (jj z) n t=be (z.map (zF n t))
 |[],_=>rfl
 |x::z,h=>by
  have h0:=h x G';rw[ř,aY,<-wY λy hy=>h y (J' _ hy),jy,jy];unfold jj;rw[ae9,Ŗ,jk,List.map_replicate,nj,ϡ h0];unfold zp zF;split
  ·rfl
  ·rw[Ϲ]
theorem Gp(hl:cs.length=ps.length)(n:Str)(t:Nat):wN ps cs n t=be ((ps.zip cs).map (zF n t)):=by
 unfold wN pC
 conv=>rhs;rw[<-oC ((⟨aem,0,0,0⟩,0):Pk×Int) (ps.zip cs)]
 rw[nI,Ū,adl,hl,aeX];show congrArg be (ϔ λi hi=>?_);show _=zF n t (((ps.zip cs)[i]?).getD (⟨aem,0,0,0⟩,0));unfold cq;have hi:=Ũ.mp hi;have hc:i<cs.length:=hl▸hi;have e:(ps.zip cs)[i]?=À (ps[i],cs[i]):=by rw[adb];show⟨ē hi,ē hc⟩
 have e2:pU ps i=ps[i]:=by unfold pU;rw[ē hi];rfl
 rw[e,e2,ē hc];show (if ps[i].n==n then if (t:Int)<ps[i].l then ps[i].a*cs[i] else 0 else 0)=if ps[i].n==n&&decide ((t:Int)<ps[i].l) then ps[i].a*cs[i] else 0;cases ps[i].n==n with
 |false=>rfl
 |true=>
  by_cases h:(t:Int)<ps[i].l
  ·rw[if_pos N,if_pos h,adh,decide_eq_true h];rfl
  ·rw[if_pos N,if_neg h,adh,decide_eq_false h];rfl
theorem qq:∀{l:List (Str×V)},k∈(eT l k v).map (·.1)/\∀x∈l.map (·.1),x∈(eT l k v).map (·.1)
 |[]=>⟨G',λx h=>nomatch h⟩
 |(a,b)::r=>by
  show k∈(if a=k then (a,v)::r else (a,b)::eT r k v).map (·.1)/\∀x∈a::r.map (·.1),x∈(if a=k then (a,v)::r else (a,b)::eT r k v).map (·.1);by_cases h:a=k
  ·rw[if_pos h];show⟨h▸G',λx hx=>hx⟩
  ·rw[if_neg h]
   have ih:=qq (v:=v) (k:=k) (l:=r);show⟨J' _ ih.1,λx hx=>(Ĉ.mp hx).elim (λe=>e▸G') λq=>J' _ (ih.2 x q)⟩
theorem B7:∀{l:List Str} {acc:List (Str×V)},n∈acc.map (·.1)\/n∈l->n∈(l.foldl (λacc n=>eT acc n (.bool Æ)) acc).map (·.1)
 |[],_,h=>h.resolve_right λq=>nomatch q
 |x::l,acc,h=>B7 (l:=l) (h.elim (λq=>.inl (qq.2 n q)) λq=>(Ĉ.mp q).elim (λe=>.inl (by rw[e];show qq.1)) .inr)
theorem Lx{ds:List ax}(hx:x∈ds)(h:(n,a)∈x.ns):n∈lG ds:=by
 have p:(lG ds).Perm ((As (pv ds)).map (·.1)):=by
  unfold lG jQ;by_cases h:∃m:List Str,m.Perm ((As (pv ds)).map (·.1))/\nY m
  ·rw[dif_pos h];show(adI h).1
  ·rw[dif_neg h]
 show p.mem_iff.mpr (B7 (.inr (adQ.mpr ⟨x,hx,ś.mpr ⟨_,h,N⟩⟩)))
section
variable{ds:List ax}{bs:List aU}{ps:List Pk}{aw:Int}{O:Str}{d t:Nat}{H:ag}{l:List Str}
theorem u0{k:Nat}:∀{z:List (Nat×Int)} {cs:List Int},(∀p∈z,p.1≠k)->cq (pD cs z) k=cq cs k
 |[],_,_=>rfl
 |p::z,cs,h=>by show(u0 (cs:=cs.set p.1 p.2) λq hq=>h q (J' _ hq)).trans ?_;unfold cq;rw[acd (h p G')]
theorem BG:∀{l:List Nat} {cs c0:List Int},l.Nodup->l.length=cs.length->(∀k∈l,k<c0.length)->l.map (cq (pD c0 (l.zip cs)))=cs
 |[],[],_,_,_,_=>rfl
 |k::l,c::cs,c0,hn,hl,hk=>by
  have hn:=Ϥ.mp hn;have ih:=BG (c0:=c0.set k c) hn.2 (ad2.inj hl) λi hi=>by rw[acl];show hk i (J' _ hi)
  show cq (pD (c0.set k c) (l.zip cs)) k::l.map (cq (pD (c0.set k c) (l.zip cs)))=_;rw[ih,u0 (k:=k) λp hp q=>hn.1 (q▸(ϗ hp).1),pR (hk k G'),if_pos N]
theorem BH{x:Int}:∀{z:List (Nat×Int)} {cs:List Int},x∈pD cs z->x∈cs\/∃p∈z,x=p.2
 |[],_,h=>.inl h
 |p::z,cs,h=>(BH (z:=z) h).elim (λh=>(adc h).imp id λq=>⟨p,G',q⟩) λh=>aF h λq hq e=>.inr ⟨q,J' _ hq,e⟩
theorem HO(w:Wd ds bs ps aw)(hn:∀n∈l,fj ds bs ps n=Ã){cs:List Int}(hf:gf ds bs ps O=À cs)(hc:¬ 200<mh ds O):O∈l->(pC ps O).map (cq (BO ds bs ps l))=cs:=by
 have zw:(pC ps O).length=cs.length:=((AO (tF w hc) hf).1.trans (H' _)).symm
 suffices KE:∀k,k<=l.length->O∈l.take k->(pC ps O).map (cq (BO ds bs ps (l.take k)))=cs from λh=>by have:=KE l.length (Đ _) (by rw[ŋ];show h);rwa [ŋ]at this
 intro k
 induction k with
 |zero=>show λy h=>nomatch h
 |succ k ih=>
  intro hk h;have hx:l[k]?=À l[k]:=ē hk;rw[bC hx]at h ⊢;rw[p6,Sf];by_cases q:O=l[k]
  ·rw[<-q,hf]
   show BG (adR.filter _) zw λi hi=>by rw[ma];show BD hi
  ·show Eq.trans (ϔ λi hi=>u0 λp hp e=>q ?_) (ih (ī hk) ((Ģ.mp h).resolve_right λz=>q (O'.mp z)))
   have h1:=beq_iff_eq.mp (ŝ.mp hi).2;have h2:=beq_iff_eq.mp (ŝ.mp (ϗ hp).1).2;rw[e]at h2;show h1.symm.trans h2
theorem J5(ps:List Pk)(cs:List Int)(O:Str)(t:Nat):lA (lg ps O) ((pC ps O).map (cq cs)) t=wN ps cs O t:=by
 unfold lA wN lg;rw[H']
 conv=>rhs;rw[<-oC 0 (pC ps O)]
 rw[Ū];show congrArg be (ϔ λi hi=>?_);have hi:=Ũ.mp hi;unfold gF cq;rw[į,į,ē hi];show _=if (t:Int)<(pU ps (((pC ps O)[i]?).getD 0)).l then (pU ps (((pC ps O)[i]?).getD 0)).a*(cs[((pC ps O)[i]?).getD 0]?).getD 0 else 0;rw[ē hi];rfl
theorem HN(w:Wd ds bs ps aw)(h:dY ds bs ps=Ã):∀x∈Ai ds bs ps,0<=x/\x<=1700:=by
 suffices KE:∀k,k<=(lG ds).length->∀x∈BO ds bs ps ((lG ds).take k),0<=x/\x<=1700 from λx hx=>KE (lG ds).length (Đ _) x (by rw[ŋ];show hx)
 intro k
 induction k with
 |zero=>show λz x hx=>by rw[(adq.mp hx).2];decide
 |succ k ih=>intro hk x hx;rw[bC (ē hk),p6]at hx;show(BH hx).elim (ih (ī hk) x) λq=>aF q λp hp e=>aO (qD (t6 h (ź hk))) λhc hf=>hf.elim λcs hf=>?_;rw[hf]at hp;rw[e];show(AO (tF w hc) hf).2.1 _ (ϗ hp).2
theorem DF(w:Wd ds bs ps aw)(h:dY ds bs ps=Ã)(hn:O∈lG ds)(ht:t<7):fc ds bs O t<=wN ps (Ai ds bs ps) O t:=by show aO (qD (t6 h hn)) λhc hf=>hf.elim λcs hf=>?_;have:=(AO (tF w hc) hf).2.2 t ht;rw[uS ht,Br,<-HO w (λn hn=>t6 h hn) hf hc hn,J5]at this;show this
theorem JD(w:Wd ds bs ps aw)(h:dY ds bs ps=Ã):∃st,lq (bs++jj (ps.zip (Ai ds bs ps))) ds=.ok st:=by
 have hl:(Ai ds bs ps).length=ps.length:=ma _;have hz:∀x∈ps.zip (Ai ds bs ps),x.1∈ps/\0<=x.2:=λx hx=>⟨(ϗ hx).1,(HN w h _ (ϗ hx).2).1⟩
 have C:=JC (bs:=bs++jj (ps.zip (Ai ds bs ps))) (λb hb=>(Ģ.mp hb).elim (w.bk b) λh=>by show aF (adQ.mp h) λx hx hb=>?_;rw[(adq.mp hb).2];show Ŀ (by decide) (w.pk _ (hz x hx).1)) λx hx=>⟨(w.dk x hx).1,(w.dk x hx).nn⟩
 cases e:lq (bs++jj (ps.zip (Ai ds bs ps))) ds with
 |ok st=>show⟨st,N⟩
 |error O=>show aO (C.2 O e) λq1 q2=>aF q1 λt ht q=>?_;have hn:O∈lG ds:=aF q2 λx hx h=>h.elim λa h=>Lx hx h;have h1:=DF w h hn ht;rw[jy,Ŗ,jk,<-jy,<-jy,wY λx hx=>(hz x hx).2,<-Gp hl,A5]at q;rw[uM]at h1;show absurd q (Ŕ.mpr (Int.le_add_of_sub_left_le (Ŀ (adM _ _) h1)))
end
theorem BZ{n:Nat}:∀{l:List Nat} {t:Tk},(∀i∈l,i<n)->(∀p∈t.ps,p.1<n)->∀p∈(l.foldl rP t).ps,p.1<n
 |[],_,_,h=>h
 |i::l,t,hl,h=>by
  rw[ϑ];show BZ (λj hj=>hl j (J' _ hj)) ?_;unfold rP;split
  ·show λp hp=>(Ģ.mp hp).elim (h p) λq=>by rw[O'.mp q];show hl i G'
  ·show h
theorem oh{P:α->Prop}{f:α->β->Except Str α}(hf:∀a x b,P a->f a x=.ok b->P b):∀{l:List β} {a b:α},P a->cu f a l=.ok b->P b
 |[],_,_,h,e=>by injection e with e;show e▸h
 |x::l,a,b,h,e=>by
  unfold cu at e;cases hx:f a x with
  |error _=>rw[hx]at e;show nomatch e
  |ok c=>rw[hx]at e;show oh hf (hf a x c h hx) e
theorem JE{bs:List aU}{ds:List ax}{st:EP}(h:lq bs ds=.ok st):∀u∈st.2,∀p∈u,p.1<bs.length:=by
 show oh (P:=λst:EP=>∀u∈st.2,∀p∈u,p.1<bs.length) (λa k b ha e=>?_) (λu hu p hp=>?_) h
 ·unfold lu at e
  cases hk:ds[k]? with
  |none=>rw[hk]at e;injection e with e;show e▸ha
  |some x=>
   rw[hk]at e;dsimp only at e;cases hx:cu (vA bs x.d) (a.1,[]) x.ns with
   |error _=>rw[hx]at e;show nomatch e
   |ok c=>
    rw[hx]at e;injection e with e
    have hc:=oh (P:=λst:List Int×List (Nat×Int)=>∀p∈st.2,p.1<bs.length) (λa y b ha e=>by
     unfold vA at e;split at e
     ·show nomatch e
     ·injection e with e
      rw[<-e];show λp hp=>(Ģ.mp hp).elim (ha p) (BZ (λi hi=>qr (j5.mp hi)) (λz q=>absurd q ac') p)) (λz q=>absurd q ac') hx
    rw[<-e];show λu hu=>(adc hu).elim (ha u) λq=>q▸hc
 ·rw[(adq.mp hu).2]at hp;show nomatch hp
section
variable{ds:List ax}{bs fs:List aU}{ps:List Pk}{aw:Int}{O:Str}{d t p q:Nat}{H:ag}{us:List (List (Nat×Int))}
theorem CP(hf:fs.length<=60000)(hu:∀u∈us,∀p∈u,p.1<fs.length):yw (d+1) 6 [.tup (fs.map aU.v),.tup (us.map sj)] H λz z=>True:=by
 show iB N N (gq (nS (Á:=aG PP d) (U:=bI [.tup (fs.map aU.v),.tup (us.map sj)]) (H:=H) (n:=fs.length) (e:=.prim .len (a1 (xv 0))) (λae=>aQ N ((jz _).trans (by rw[H']))) (z' hf (by decide))) λq bj e1 ø=>W.set e1 (W.each (bG [À (.tup (fs.map aU.v)),Ã,À (.ref q)]) (λz ae=>∃l:List Int,pI H q (l.map .int) ae/\l.length=fs.length) (λz z=>False) (cH N) (ay ⟨N,N,trivial⟩) ⟨_,ø,Ϻ⟩ (λz z z=>bw _) (λj u cS hx I=>⟨_,N,?_⟩) (λcS I=>aF I λl O2 hl=>?_) λz z z q=>q.elim))
 ·have hu:=hu u (ĥ hx)
  show W.each (bG [À (.tup (fs.map aU.v)),Ã,À (.ref q)]) (λz ae=>∃l:List Int,pI H q (l.map .int) ae/\l.length=fs.length) (λz z=>False) (cH N) (ay ⟨N,N,trivial⟩) I (λz z z=>bw _) (λi p fg hp ď=>⟨_,N,?_⟩) (λfg ď=>W.nil (.inl ⟨N,Le.refl _,ď⟩)) λz z z q=>q.elim;have hp:=hu p (ĥ hp);show aF ď λl ø hl=>W.setItem0 q p.1 _ (.int (cq l p.1+p.2)) (aP (bx q p.1 _ _ N N ø.hl (Ě _) (gA (hl▸hp))) N N) N N ø.hl (Ě _) (by rw[ĵ,H',hl];show hp) (W.nil (.inl ⟨N,ay ⟨N,N,trivial⟩,l.set p.1 (cq l p.1+p.2),?_,(acl ..).trans hl⟩));rw[ĵ,eM];show ø.set _
 ·have Tb:q≠cS.length:=ŉ (Ġ.mp O2.hl).1
  show W.set (v:=.ref cS.length) (Î:=cS++[.lst []]) N (W.each (xs:=ċ fs.length) (bG [À (.tup (fs.map aU.v)),Ã,À (.ref q),Ã,Ã,Ã,À (.ref cS.length)]) (λj ae=>pI H q (l.map .int) ae/\∃m,ae[cS.length]?=À (.lst m)/\m.length=j) (λz z=>False) ((fW Fd fs 0)▸nC N) (ay ⟨N,N,N,trivial⟩) ⟨O2.keep (aB.app _ _),[],aE _ _,N⟩ (λz z z=>bw _) (λj x fg hx ď=>⟨_,N,?_⟩) (λfg ď=>aF ď.2 λm h1 h2=>W.retE (aQ N (bv h1 (by rw[h2,Ś];show z' hf (by decide)))) ⟨_,N,ď.1.hk,trivial⟩) λz z z q=>q.elim);show aO (g7 hx) λqx hj=>(aF ď.2 λm h1 h2=>?_);apply aW qx;have eu:∀U:aL,U 2=À (.ref q)->U 4=À (.int ((0+j:Nat):Int))->ab (aG PP d) (.idx (xv 2) (xv 4)) U fg=À (.int (cq l j),fg):=λU g2 g4=>bx q _ _ _ (aI g2) (aI g4) ď.1.hl (Ě _) (by rw[ż];show gA (hl▸hj));have hm:m.length<=al:=by rw[h2];show z' (ī hj) (z' hf (by decide))
  show W.set (aP (x:=.int ((fs[j]?).getD Fd).a) N (eu _ N N) N) (W.ifB (b:=decide (((fs[j]?).getD Fd).l<7)) N (λz=>?_) λz=>?_)
  ·show W.append0 cS.length m _ N h1 (bY (aA (eu _ N N) (aA N (ak N))) (show 3<=al by decide)) hm (W.nil (W.nil (.inl ⟨N,ay ⟨N,N,N,trivial⟩,⟨ď.1.hq,ď.1.hk.set (z' O2.hk.len (Đ _)),(dL Tb.symm).trans ď.1.hl⟩,_,eG h1,by rw[û,h2];rfl⟩)))
  ·show W.append0 cS.length m _ N h1 (bY (aA (eu _ N N) (aA N (ak N))) (show 3<=al by decide)) hm (W.nil (W.nil (.inl ⟨N,ay ⟨N,N,N,trivial⟩,⟨ď.1.hq,ď.1.hk.set (z' O2.hk.len (Đ _)),(dL Tb.symm).trans ď.1.hl⟩,_,eG h1,by rw[û,h2];rfl⟩)))
theorem Ls(w:Wd ds bs ps aw)(h:dY ds bs ps=Ã):(bs++jj (ps.zip (Ai ds bs ps))).length<=60000:=by have h1:=xZ (z:=ps.zip (Ai ds bs ps)) λx hx=>HN w h _ (ϗ hx).2;rw[adl]at h1;rw[û];show z' (Ϗ w.bl (z' h1 (acI _ (z' (acj _ _) w.pl)))) (by decide)
end
def jK(ds:List ax)(bs:List aU)(ps:List Pk)(aw:Int)(d:Nat)(H:ag):Prop:=∀(w:Wd ds bs ps aw),Qk (d+7) 19 [.tup (ds.map ax.v),.tup (bs.map aU.v),.tup (ps.map Pk.v)] H λr z=>(∀c O,dY ds bs ps=À (c,O)->r=.exc c O)/\(dY ds bs ps=Ã->∃v,r=.ok v/\True)
namespace week_callH
def kc:=hc (U6 jK) ([],[],[],0,0,[])
def ds:=kc.1
def bs:=kc.2.1
def ps:=kc.2.2.1
def aw:=kc.2.2.2.1
def d:=kc.2.2.2.2.1
def H:=kc.2.2.2.2.2
theorem kt:jK ds bs ps aw d H:=by
 intro w;show HF N N (fu (nu (d:=d) (H:=H) w) λr bj e1 k1 R=>?_);cases he:dY ds bs ps with
 |some p=>obtain ⟨c,O⟩:=p;rw[R.1 c O he]at e1;show W.setX rfl e1 (.inr ⟨c,O,rfl,k1,λc' XX e=>aO (nT e) λa b=>by rw[a,b],λe=>nomatch e⟩)
 |none=>rw[R.2 he]at e1;show W.set (af N e1) (aF (D4 (d:=d+5) (H:=bj) w.bl w.pl (HN w he)) λcS e2 k2=>W.set (af N e2) ?_);have hl:=Ls w he;show(JD w he).elim λst hc=>?_;generalize bs++jj (ps.zip (Ai ds bs ps))=fs at hl hc e2 ⊢;show gq (v7 (d:=d+3) (H:=cS) (ds:=ds) (bs:=fs) (z' w.dl (by decide)) (z' hl (by decide)) (λx hx=>(w.dk x hx).1) λx hx p hp=>⟨(w.dk x hx).nn p hp,((w.dk x hx).2 p hp).2.2⟩) λr3 fg e3 X=>?_;rw[X.ok st hc]at e3;show W.set (af N e3) (fu (CP (d:=d+5) (H:=fg) hl (JE hc)) λv sr e4 k4 z=>W.retE (bY (aA N (aA N (aA N (ak (af N e4))))) (show 4<=al by decide)) (.inl ⟨_,N,k1.trans (k2.trans (X.keep.trans k4)),(λc O e=>nomatch e),λz=>⟨_,N,trivial⟩⟩))
end week_callH
theorem Ef{ds:List ax}:jK ds bs ps aw d H:=hk (P:=U6 jK) week_callH.kt (ds,bs,ps,aw,d,H)
section
variable{ds:List ax}{bs fs:List aU}{ps:List Pk}{aw:Int}{O:Str}{d t p q:Nat}{H:ag}{us:List (List (Nat×Int))}
theorem At(w:Wd ds bs ps aw):yw (d+8) 39 [.tup (ds.map ax.v),.tup (bs.map aU.v),.tup (ps.map Pk.v)] H λv ae=>∃q p x,TW ds bs ps (λz=>True) v ae q p x:=yg (d:=d+6) (f:=19) N (Ef (d:=d) w)
theorem yV{e:Option (Nat×Str)}(h1:H[p]?=À (.lst (hO e)))(h2:H[q]?=À (.lst (hO e))):u1 H (.ref p) (.ref q)=À Æ:=by
 show (lst H p).bind (λx=>FR H x (.ref q))=_;rw[cy h1];show (lst H q).bind (λy=>if (hO e).length=y.length then (if (hO e).length=0 then À Æ else JL (hO e) y) else À Ê)=_;rw[cy h2];show (if (hO e).length=(hO e).length then (if (hO e).length=0 then À Æ else JL (hO e) (hO e)) else À Ê)=_;rw[if_pos N];cases e with
 |none=>rfl
 |some e=>show ((À ((e.1==1)==(e.1==1))).bind λa=>((À ((e.1==2)==(e.1==2))).bind λa=>((À Æ).bind λa=>((À Æ).bind λa=>((À (e.2==e.2)).bind λa=>(À Æ).bind λb=>À (a&&b)).bind λb=>À (a&&b)).bind λb=>À (a&&b)).bind λb=>À (a&&b)).bind λb=>À (a&&b))=_;rw[beq_self_eq_true,beq_self_eq_true,beq_self_eq_true];rfl
end
theorem tH{ds:List ax}(hd:∀x∈ds,x.okA aw):(lG ds).length<=12:=by unfold lG;rw[oJ,H'];show kQ (mD λx hx=>⟨(hd x hx).1,λp hp=>((hd x hx).2 p hp).1⟩)
def iv(ds:List ax)(ps:List Pk)(j:Nat):List Pk:=ps++((lG ds).take j).map λn=>⟨n,9,5,7⟩
section
variable{ds:List ax}{bs:List aU}{ps:List Pk}{aw:Int}{O:Str}{d c q p w u:Nat}{H:ag}{Á:az}{U:aL}
theorem KF(w:Wd ds bs ps aw)(h9:ps.length<=9):Wd ds bs (iv ds ps (lG ds).length) aw:=by show⟨w.dl,w.dk,w.bl,w.bk,?_,λp hp=>(Ģ.mp hp).elim (w.pk p) λh=>aF (ś.mp h) λn z e=>by rw[<-e];show(by decide:(1:Int)<=9)⟩;have:=tH w.dk;unfold iv;rw[û,H',ŋ];show jL (y3 0xc001e9210b98010bc8112ba102 N (iL h9) (iL this) (iA _ _))
theorem Hh(w:Wd ds bs (iv ds ps (lG ds).length) aw)(h:dY ds bs (iv ds ps (lG ds).length)=À (c,O)):c=1:=by show(Ml h).resolve_right λh2=>aF (adG h) λn hn h=>aF (Ϫ.mp h) λc' h1 h3=>?_;have hc:c'=2:=(congrArg afI h3).trans h2;rw[hc]at h1;have h0:¬ 200<mh ds n:=λq=>nomatch (sm ((qA q).symm.trans h1):(1:Nat)=2);show dN ((qC w h0).mp h1) λt ht z h5=>?_;have:(⟨n,9,5,7⟩:Pk)∈IQ (iv ds ps (lG ds).length) n t:=ŝ.mpr ⟨ŧ _ (ś.mpr ⟨n,by rw[ŋ];show hn,N⟩),Ľ.mpr ⟨beq_self_eq_true n,decide_eq_true (Ů.mpr ht)⟩⟩;rw[h5]at this;show nomatch this
abbrev wV(ds:List ax)(bs:List aU)(ps:List Pk):List V:=[.tup (ds.map ax.v),.tup (bs.map aU.v),.tup (ps.map Pk.v)]
theorem i7{k:Nat}{x:V}(hw:H[w]?=À (.lst (wV ds bs ps)))(g:U u=À (.ref w))(hx:(wV ds bs ps)[((k:Nat):Int).toNat]?=À x):ab Á (xu u k) U H=À (x,H):=bx w k _ _ (aI g) N hw (Ě _) hx
theorem wk{x y v:V}{k:Nat}(hq:H[q]?=À (.lst [x,y]))(g:U u=À (.ref q))(hk:([x,y]:List V)[((k:Nat):Int).toNat]?=À v):ab Á (xu u k) U H=À (v,H):=bx q k _ _ (aI g) N hq (Ě _) hk
theorem Mm{x:V}{e:Option (Nat×Str)}{a b:CE}(ha:ab Á a U H=À (.ref p,H))(hb:ab Á b U H=À (.ref q,H))(h1:H[p]?=À (.lst (hO e)))(h2:H[q]?=À (.lst (hO e))):ab Á (xN a b) U H=À (.bool Ê,H):=bN ha hb (by
 show (u1 H (.ref p) (.ref q)).bind _=_;rw[yV h1 h2];rfl)
end
theorem law13(ns:List Int)(hn:ns.length<=63):∀H,∃ae,aG PP 20 44 [.ro ns] H=À (.ok (.bool Æ),ae):=λH=>by
 show fu (iB (H:=H) (R:=λv z=>v=.bool Æ) (d:=19) (k:=44) rfl (as:=[.ro ns]) rfl ?_) λv ae h z q=>⟨ae,q▸h⟩;have e0:=z0 (P:=PP) (k:=20) (d:=18) (H:=H) rfl hn;have g0:=aE H (.lst ((iU 1 ns).map .int));have k0:=aB.app H [.lst ((iU 1 ns).map .int)];generalize H++[.lst ((iU 1 ns).map .int)]=EO at e0 g0 k0;obtain ⟨w,ds,bs,ps,aw,bj,e1,hw,k1,W0⟩:=LF (d:=15) g0;have PF:Wd ds bs ps aw:=⟨W0.dl,W0.dk,W0.bl,W0.bk,z' W0.pl (by decide),λp hp=>Ŀ (by decide) (W0.pk p hp).1⟩;show W.set (af (ak (af rfl e0)) e1) ?_;show fu (rG (d:=12) (H:=bj) PF) λv2 cS e2 k2 h2=>wi h2 λq2 p2 x2 T2=>?_;rw[T2.v]at e2;show W.set (af (aA (i7 hw rfl rfl) (aA (i7 hw rfl rfl) (ak (i7 hw rfl rfl)))) e2) ?_;have Tg:=k2 _ _ hw;show fu (wf (d:=17) (H:=cS) PF) λv3 fg e3 k3 h3=>aF h3 λq3 h3 U1=>?_;rw[h3]at e3;show W.set (af (aA (i7 Tg rfl rfl) (aA (i7 Tg rfl rfl) (ak (i7 Tg rfl rfl)))) e3) ?_;have Th:=k3 _ _ Tg;show fu (At (d:=11) (H:=fg) PF) λv4 sr e4 k4 h4=>wi h4 λq4 p4 x4 T4=>?_;rw[T4.v]at e4;show W.iteF sr (bR (A2 (Mm (x:=.none) (wk (k3 _ _ T2.q) rfl rfl) rfl (k3 _ _ T2.p) U1) ?_)) (W.nil ?_)
 ·show bN (bx q4 1 _ _ (af (aA (i7 Th N N) (aA (i7 Th N N) (ak (i7 Th N N)))) e4) N T4.q (by decide) N) N ?_
  show (u1 sr (.ref p4) (.ref q3)).bind _=_;rw[yV T4.p (k4 _ _ U1)];rfl
 have XJ:=k4 _ _ Th;have K4:=k0.trans (k1.trans (k2.trans (k3.trans k4)));have Xl:=k4 _ _ U1;show W.if_ (bN N (cg (vs:=[]) N (Ĥ _)) (yW (cy (aB.app _ _ _ _ Xl)) (cy (aE _ _)))) (λhb=>?_) λhb=>W.nil ?_
 ·have he:dY ds bs ps=Ã:=by
   cases h:dY ds bs ps with
   |none=>rfl
   |some p=>rw[h]at hb;show nomatch hb
  have k5:=aB.app sr [.lst []];generalize sr++[.lst []]=li at k5;have OP:=k5 _ _ XJ;show fu (qo (d:=14) (H:=li) PF he) λv6 Ci e6 k6 h6=>aF h6 λq6 h6 Y8=>?_;rw[h6]at e6;have K6:=K4.trans (k5.trans k6);show W.retE (af (aA (wk (k5 _ _ (k4 _ _ (k3 _ _ T2.q))) N N) (ak (af (aA (i7 OP N N) (aA (i7 OP N N) (ak (i7 OP N N)))) e6))) ?_) ⟨_,N,K6,N⟩;rw[T2.x he];show ng (d:=17) Y8 (by rw[show (Ai ds bs ps).length=ps.length from ma _];show z' PF.pl (by decide))
 have k5:=aB.app sr [.lst []];generalize sr++[.lst []]=li at k5;have OP:=k5 _ _ XJ;have Xm:=k5 _ _ Xl;have K5:=K4.trans k5;cases he:dY ds bs ps with
 |none=>rw[he]at hb;show absurd N hb
 |some p=>
  rw[he]at Xm;show W.ifB (b:=p.1==1) (bx q3 0 _ _ N N Xm (by decide) N) (λz=>W.retE N ⟨_,N,K5,N⟩) λz=>W.nil (W.set (i7 OP N N) (fu (ku (d:=18) (H:=li) W0.dk) λv6 Ci e6 k6 h6=>dN h6 λr6 h6 z XG=>?_));rw[h6]at e6;have K6:=K5.trans k6;have VZ:=k6 _ _ OP;show W.loop (iW (af (ak (i7 OP N N)) e6) XG) (λj U ae=>U=bG [Ã,À (.ref w),Ã,Ã,À (.tup ((iv ds ps j).map Pk.v))]/\ae=Ci) (a:=bG [Ã,À (.ref w),Ã,Ã,À (.tup ((iv ds ps 0).map Pk.v))]) (ay ⟨N,by rw[show iv ds ps 0=ps from Ĵ _];rfl,trivial⟩) ⟨N,N⟩ (λz z z h=>iY (h.2▸XG)) (λj y WA P8 hy h=>?_) λWA P8 h=>?_
  ·show aO h λq7 s7=>?_;apply aW q7;apply aW s7
   show aF (l5 hy) λn hn qy=>?_;apply aW qy;show⟨_,N,W.set (v:=.tup ((iv ds ps (j+1)).map Pk.v)) (aP (aI N) (bY (vs:=[Pk.v ⟨n,9,5,7⟩]) (ak (bY (vs:=[.str n,.int 9,.int 5,.int 7]) N (show 4<=al by decide))) (show 1<=al by decide)) ((E2 ?_).trans ?_)) (W.nil ⟨N,bG [Ã,À (.ref w),Ã,Ã,À (.tup ((iv ds ps (j+1)).map Pk.v))],ay ⟨N,N,trivial⟩,N,N⟩)⟩
   ·have:=tH W0.dk
    have hl:=W0.pl;have hj:=(Ġ.mp hn).1;unfold iv;rw[H',û,H',Ŭ];show z' (Ϗ (Ϗ hl (z' (acL _ _) this)) (Đ 1)) (by decide)
   ·unfold iv
    rw[bC hn,Ŗ (l₁:=(lG ds).take j),<-ÿ,Ŗ (l₁:=ps++_)];rfl
  show aO h λq7 s7=>?_;apply aW q7;apply aW s7;rw[H'];have PG:=KF PF W0.pl;have ME:∀c O,dY ds bs (iv ds ps (lG ds).length)=À (c,O)->c=1:=λc O h=>Hh PG h;generalize iv ds ps (lG ds).length=pt at PG ME;show fu (rG (d:=12) (H:=Ci) PG) λv8 σ8 e8 k8 h8=>wi h8 λq8 p8 x8 T8=>?_;rw[T8.v]at e8;show W.set (af (aA (i7 VZ N N) (aA (i7 VZ N N) (ak N))) e8) ?_;have V0:=k8 _ _ VZ;show fu (wf (d:=17) (H:=σ8) PG) λv9 P9 e9 k9 h9=>aF h9 λq9 h9 Va=>?_;rw[h9]at e9;show W.set (af (aA (i7 V0 N N) (aA (i7 V0 N N) (ak N))) e9) ?_;have Z7:=k9 _ _ V0;have K9:=K6.trans (k8.trans k9);have g9:=k9 _ _ T8.p;have kA:=aB.app P9 [.lst []]
  have eA:∀U:aL,U 3=À (.ref q9)->ab (aG PP 19) (xN (xv 3) (.list .nil)) U P9=À (.bool (!decide ((hO (dY ds bs pt)).length=0)),P9++[.lst []]):=λU g=>bN (aI g) (cg (vs:=[]) N (Ĥ _)) (by
   show (u1 _ (.ref q9) (.ref P9.length)).bind _=_;rw[yW (cy (kA _ _ Va)) (cy (aE _ _))];rfl)
  have eO:=A2 (Mm (Á:=aG PP 19) (U:=cP (cP (bG [Ã,À (.ref w),Ã,Ã,À (.tup (pt.map Pk.v))]) 6 (.ref q8)) 3 (.ref q9)) (H:=P9) (a:=xu 6 1) (b:=xv 3) (x:=.none) (wk (k9 _ _ T8.q) N N) N g9 Va) (eA _ N);generalize P9++[.lst []]=σA at kA eO;have XK:=kA _ _ Z7;have Vb:=kA _ _ Va;show W.ifB eO (λhb=>?_) λhb=>W.nil ?_
  ·cases he:dY ds bs pt with
   |none=>rw[he]at hb;show nomatch hb
   |some p=>have hp:p.1=1:=ME p.1 p.2 he;show W.retE (v:=.bool Æ) (t7 (bN (wk (kA _ _ (k9 _ _ T8.q)) N N) N (yV (kA _ _ g9) Vb)) ?_) ⟨_,N,K9.trans kA,N⟩;rw[he]at Vb;show(bx q9 0 _ _ N N Vb (by decide) N).trans ?_;rw[hp];rfl
  ·have he:dY ds bs pt=Ã:=by
    cases h:dY ds bs pt with
    |none=>rfl
    |some p=>rw[h]at hb;show nomatch hb
   show fu (qo (d:=14) (H:=σA) PG he) λvB σB eB kB hB=>aF hB λqB hB wJ=>?_;rw[hB]at eB;show W.retE (af (aA (wk (kA _ _ (k9 _ _ T8.q)) N N) (ak (af (aA (i7 XK N N) (aA (i7 XK N N) (ak N))) eB))) ?_) ⟨_,N,K9.trans (kA.trans kB),N⟩;rw[T8.x he];show ng (d:=17) wJ (by rw[show (Ai ds bs pt).length=pt.length from ma _];show z' PG.pl (by decide))
end Lar
namespace Lar
open PySem PySem.W PyProof.Rows
noncomputable def qv:õ:=view PySem.Challenge.pw_uf060007_13 [1,2,3,5,6,7,8,9,11,12,13,14,16,17,19,20,21,22,23,24,25,27,28,29,30,32,33,34,35,36,37,38,39,40,41,42,43,44,45,46,47,48,49,50,51,52,53,54,55,56]
theorem q_said:PySem.Challenge.rw_uf060007_13.wellSaid=Æ:=(congrFun PySem.W.Fast.te9446332074065402090 _).trans (by decide +kernel)
theorem q_open:opening PySem.Challenge.pw_uf060007_13=plainProg PySem.Challenge.pw_uf060007_13.main.scope.names:=by kernel_rfl
theorem q_fence:∀s,fenceModules? PySem.Challenge.pw_uf060007_13 s=À s:=λs=>by kernel_rfl
theorem q_left:LeftO PySem.Challenge.pw_uf060007_13 qv [] (λs=>xlAt qv [] s&&recOk (RowW.records (OpenRow.toRowW PySem.Challenge.rw_uf060007_13.row)) s&&X5 qv s) (Hook.obs Hook.none) (Hook.val Hook.none) 6000:=
 Kw q_open N q_fence λw os=>PA.trans (by kernel_rfl)
end Lar
end
open PySem PySem.W PyProof.Rows
set_option tactic.hygienic true in
set_option maxRecDepth 100000 in
set_option maxHeartbeats 8000000 in
theorem PySem.Challenge.cw_uf060007_13_holds : PySem.Challenge.rw_uf060007_13.Holds := by
 w_on
 refine holds_law Lar.q_said fun Wr=>?_
 refine holds_open (q:=Lar.qv) (loose:=[]) (Xt:=fun s=>xlAt Lar.qv [] s&&recOk (RowW.records (OpenRow.toRowW PySem.Challenge.rw_uf060007_13.row)) s&&Lar.X5 Lar.qv s) (XP:=Lar.XE Lar.qv) (Yf:=Hook.obs Hook.none) (Ya:=Hook.val Hook.none) (YP:=Hook.says Hook.none) (N:=6000) Lar.q_left (Hook.of Hook.none) (Hook.keeps Hook.none) (fun s e=>Lar.X6 (Bool.and_eq_true_iff.mp e).2) (fun mg h h' x hk=>Lar.XE.keeps x hk) (d:=?d) (kwd:=?kwd) ?h1 ?h2 ?h3 (fun s e=>recFacts_of (Bool.and_eq_true_iff.mp (Bool.and_eq_true_iff.mp e).1).2) (by rfl) Wr (by decide +kernel) ⟨rfl,rfl,rfl,rfl,rfl,by decide +kernel⟩ ?hw ?hc
 case h1=>rfl
 case h2=>rfl
 case h3=>rfl
 (case hw=>w_witness2)
 intro w Þ Ì mg mb G Y fa o pm cd doc dV kV ho hd om hD VF hg E6 cb as VM VC ZQ Z8 Zw
 wrow_args VM VC ZQ Z8 Zw
 rename_i ns _ _ _ _ _ _ _ a vs _ _ _ _ _ hI _ ca _
 have OH:=Lar.law13 ns (by omega)
 have hq:((recsOf Lar.qv)[38]?).bind (fun d=>Lar.dX (Lar.Js (Lar.wa Lar.qv Lar.constsP [38]) d.scope (Lar.dW d.scope) 200) d.body)=some Lar.wn.body:=by kernel_rfl
 refine Lar.law_run G.T G.X (by decide +kernel) Lar.constsP [38] (by decide +kernel) (by decide +kernel) (P:=Lar.PP) ?_ (fun k hk=>(Lar.ob hq).elim fun d h=>⟨d,_,List.mem_singleton.mp hk ▸ h.1,List.mem_singleton.mp hk ▸ rfl,h.2⟩) (k:=44) (name := "law") (by kernel_rfl) VF (by assumption) (by have:Lar.al=16777216:=rfl;omega) hI (d:=20) (by omega) OH ?_
 ·kernel_rfl
 ·intro s' hk Vl uB
  exact ⟨.inl ⟨.bool true,.bool true,[],rfl,fun _=>rfl,.bool true,by wrow_post,fun _=>⟨List.nodup_nil,fun _ h=>nomatch h⟩⟩,hk,uB,.of_eq (Vl.trans hg)⟩
