import PyProof.Rows.All
import PySem.Value
import PyProof.StrCalls2
import PySem.Eval
import KE.KDictList
import PyProof.Rows.SortStr
import PyProof.Rows.SortRunsK
import KE.KSortTup
import KE.KLam
import Wide.All
import Open.Line
import Open.Pieces
import OpenK.KCall
import PyProof.FitsInt
import PyProof.Rows.StrWeight2
import PyProof.Rows.FinIter
import PySem.Challenge.RW_uf060007_11
set_option Elab.async false
set_option tactic.hygienic false
set_option bootstrap.genMatcherCode false
set_option linter.unusedSimpArgs false
set_option linter.unusedVariables false
set_option linter.all false
set_option genInjectivity false
set_option genSizeOf false
set_option autoImplicit false
set_option maxRecDepth 100000
open List renaming mem_cons_self->z',length_map->A',mem_cons_of_mem->H',getElem?_eq_some_iff->J',mem_singleton->O',length_append->Ud,getElem?_eq_getElem->Ue,append_assoc->Uf,mem_cons->Uh,mem_of_getElem?->Ui,mem_append->Uk,getElem?_map->Um,pairwise_cons->Ur,getElem?_append_left->Ut,append_nil->Uu,getElem?_append_right->Ux,take_append_drop->Uy,mem_append_right->Uz,mem_of_mem_take->UB,range->UC,mem_append_left->UE,getElem_mem->UF,replicate->UL,size_toArray->UM,length_range->UN,isEmpty_iff->UQ,length_take->UT,mem_of_mem_drop->UW,take_length->UZ,getElem?_toArray->U1,map_cons->U2,pairwise_append->U7,lookup_cons->U9,map_append->Va,contains_cons->Vb,mem_range->Vc,mem_map->Ve,drop_eq_getElem_cons->Vm,mem_filter->Vp,all_eq_true->Vs,mem_reverse->Vt,length_eq_zero_iff->Vy,length_drop->VE,map_congr_left->VH,getElem?_range->VI,reverse_append->VK,getElem?_eq_none->VL,length_filter_le->VN,nodup_cons->VP,mem_iff_getElem->VT,reverse_reverse->VU,length_cons->VV,length_reverse->V0,extract_eq_take_drop->V1,length_replicate->V4,not_mem_nil->V6,reverse_perm->Wb,pairwise_singleton->Wc,foldl_cons->Wd,of_mem_zip->We,pairwise_iff_getElem->Wm,getElem?_set_ne->Wr,take_sublist->Wy,map_map->Wz,forall_mem_cons->WA,pairwise_lt_range->WH,set_append_right->WJ,getElem?_zip_eq_some->W3,mem_or_eq_of_mem_set->W5,filterMap_cons->W6,length_set->Xc,zip_cons_cons->Xd,mem_filterMap->Xe,toArray->Xg,getElem?_set_self->Xh,drop_eq_nil_of_le->Xi,take_of_length_le->Xl,drop_drop->Xn,take_zero->Xo,perm_append_comm->Xw,zipIdx_cons->Xz,drop_length->XA,mem_flatMap->XB,forIn_cons->XH,length_zip->XI,length_nil->XJ,replicate_succ->XM,map_set->XT,forIn_nil->XX,take_take->XZ,map->X1,perm_ext_iff_of_nodup->X2,nodup_append->X3,take_add_one->X4,foldl_append->X5,getElem_take->X6,ext_getElem?->X7,pairwise_map->Yb,contains->Yc,getElem?_cons_succ->Yg,cons_append->Yh,isEmpty_nil->Yj,nodup_range->Yk,length_eq_one_iff->Yn,pairwise_reverse->Ys,nodup_nil->Yx,getElem?_of_mem->Yy,length_take_le'->Yz,mem_map_of_mem->YC,flatMap_append->YE,drop_nil->YF,any_cons->YG,zip_nil_right->YL,map_singleton->YN,mem_replicate->YO,getElem_drop->YY,flatMap_cons->Y3,perm_middle->Y7,filter_cons->Y8,not_lt->Zb,length->Zc,nil_append->Zi,range_succ->Zk,drop_take->Zl,drop_zero->Zm,take_nil->Zr,map_id->ZB
open Nat renaming le_trans->B',lt_of_lt_of_le->Ul,le_refl->Un,le_add_right->UA,le_of_lt->UD,zero_le->UJ,not_lt->UK,ne_of_lt->UP,lt_of_le_of_lt->UR,le_of_eq->UV,le_succ_of_le->UX,lt_of_succ_lt->UY,add_sub_cancel_left->U0,le_antisymm->U3,min_eq_left->U4,lt_of_le_of_ne->U5,add_le_add_right->U6,succ_le_succ->U8,add_assoc->Vg,lt_irrefl->Vq,le_of_lt_succ->Vx,one_pos->VA,lt_succ_self->VC,max_eq_right->VD,sub_le->VG,add_le_add_left->VJ,le_of_ble_eq_true->VM,pos_of_ne_zero->VQ,sub_pos_of_lt->VX,add_le_add->VY,add_sub_cancel'->VZ,ne_of_gt->V7,zero_add->V8,add_comm->V9,sub_self->Wg,eq_zero_of_not_pos->Wh,not_le->Wj,add_right_comm->Wl,le_of_add_le_add_left->Wn,min_le_left->Wp,le_succ->Wu,add_lt_add_right->Wv,lt_trans->Ww,sub_add_cancel->WF,add_sub_cancel->WG,add_lt_of_lt_sub'->WI,lt_succ_of_lt->WK,add_sub_assoc->WL,sub_lt->WP,min_eq_right->WU,succ_lt_succ->WY,min_le_right->WZ,succ_ne_zero->W1,mul_le_mul_left->W7,not_lt_zero->Xa,lt_succ_of_le->Xj,succ_pos->Xq,sub_eq_zero_of_le->Xu,le_of_sub_eq_zero->Xx,lt_or_ge->XQ,succ->Yd,lt_add_of_pos_right->Yi,le_mul_of_pos_left->Ym,add_sub_add_left->Yv,add_right_cancel->Yw,add_left_cancel->YA,sub_lt_sub_left->YB,lt_of_lt_of_eq->YJ,lt_or_eq_of_le->YK,beq->YR,min_comm->YT,succ_sub_succ->YV,sub_zero->YW,le_max_right->Y6,two_pos->Zd,le_add_left->Zh,zero_ne_one->Zj,le_min->Zo,le_total->Zu,zero_min->Zv,add_zero->Zx,min_self->Zy,sub_sub->ZA
open PySem.Heap renaming get?_push_of_some->G',get?_push_size->Uo,lt_size->UU,get?_none_of_le->Vl,size_push->Vo,get?_update_self->V3,get?_update_other->Xs,get?_update_ne->YD,get?_push_at->Y1
open Exists renaming elim->N'
open Or renaming elim->Ug
open Int renaming natCast_nonneg->Uj,toNat_natCast->Us,le_trans->Uw,le_antisymm->UG,toNat_of_nonneg->Vf,not_lt->Vj,le_refl->Vk,ofNat_le->Vv,ofNat_lt->Vw,sub_nonneg_of_le->Vz,zero_add->VB,add_zero->VO,lt_of_le_of_lt->V5,add_nonneg->Wa,add_pos_of_nonneg_of_pos->Wf,add_assoc->Wi,one_mul->Wq,le_of_lt->Wt,mul_one->WB,mul_le_mul_of_nonneg_left->WC,zero_mul->WD,le_of_eq->WE,le_of_lt_add_one->WR,lt_trans->WT,min_eq_right->WV,max_eq_right->WX,min_le_right->W2,lt_irrefl->W8,ofNat_sub->W9,min_eq_left->Xb,lt_of_lt_of_le->Xf,add_le_add->Xk,add_le_add_right->XF,max_eq_left->XG,add_lt_add_left->XN,le_total->XS,not_le->XU,sub_add_cancel->XV,add_sub_cancel->XW,lt_trichotomy->X8,self_le_toNat->X9,eq_ofNat_of_zero_le->Ye,neg_eq_neg_one_mul->Yl,add_comm->Yo,min_le_left->Yp,le_max_left->Yq,natCast_add->Yr,mul_add->Yt,sub_le_sub_right->Yu,toNat_sub->YH,lt_or_eq_of_le->YM,mul_zero->YQ,toNat_le->YS,ediv_one->YU,add_sub_assoc->YX,ne_of_gt->YZ,add_mul->Y9,ediv_nonneg->Zf,sub_le_sub->Zn,mul_nonneg->Zp,mul_assoc->Zq,toNat_lt->Zt,sub_zero->Zw,ne_of_lt->Zz,neg->ZD
open Bool renaming and_eq_true_iff->Up,false_ne_true->Uq,and_eq_true->Uv,not_eq_true'->Vh,or_eq_true->Vn,or_eq_true_iff->Vu,false_eq_true->Wk,or_eq_false_iff->Ws,true_and->W',and_false->Xp,eq_false_iff->Xr,and_eq_false_iff->Xy,or_false->XD,not_eq_false'->XY,false_or->YI,or_true->Y0,not_eq_true->Y4,noConfusion->Y5
open Array renaming toList_append->UH,length_toList->UO,getElem?_toList->Vd,getElem?_eq_getElem->Wo,toList_extract->Wx,getElem?_eq_some_iff->WN,toArray_toList->WO,toList_reverse->WQ,toList_push->Xm,getElem?_setIfInBounds->XK,toList->XO,toList_setIfInBounds->X0
open Option renaming map_eq_some_iff->Vi,isSome_iff_exists->Vr,isNone_iff_eq_none->VF,bind_some->VW,getD->Za,bind->Ze,map_some->Zg
open PySem.Str renaming length_append->WM,ofString->WW,empty->Zs
open Classical renaming byContradiction->W4,choose_spec->Xv
namespace Lar
inductive ZT where
 | v (i:Nat)
 | n (k:Nat)
 | a (x y:ZT)
 | s (x y:ZT)
noncomputable def Q7:Nat->List Int->Int:=Nat.rec (λc=>c.headD 0) λz f c=>f c.tail
noncomputable def ZT.ev (c:List Int):ZT->Int
 | .v i=>Q7 i c
 | .n k=>(k:Int)
 | .a x y=>x.ev c+y.ev c
 | .s x y=>x.ev c - y.ev c
noncomputable def nc (f:Int->Int):List Int->List Int->List Int
 | [],m=>m.map f
 | x::l,m=>(x+f (m.headD 0))::nc f l m.tail
noncomputable def eO:List Int->List Int->Int
 | [],_=>0
 | x::l,c=>x * c.headD 0+eO l c.tail
noncomputable def ul:Nat->List Int
 | 0=>[1]
 | i+1=>0::ul i
noncomputable def ZT.nf:ZT->List Int
 | .v i=>0::ul i
 | .n k=>[(k:Int)]
 | .a x y=>nc id x.nf y.nf
 | .s x y=>nc ZD x.nf y.nf
theorem Dv (k:Int) (f:Int->Int) (hf:∀ x,f x=k * x) (m:List Int):∀ c,eO (m.map f) c=k * eO m c:=by
 induction m with
 | nil=>intro c;exact (YQ k).symm
 | cons x m ih =>
  intro c
  show f x * c.headD 0+eO (m.map f) c.tail=k * (x * c.headD 0+eO m c.tail)
  rw[ih,hf,Yt,Zq]
theorem lz (k:Int) (f:Int->Int) (hf:∀ x,f x=k * x) (l:List Int):∀ m c,eO (nc f l m) c=eO l c+k * eO m c:=by
 induction l with
 | nil=>intro m c;exact (Dv k f hf m c).trans (VB _).symm
 | cons x l ih =>
  intro m c
  have e:eO m c=m.headD 0 * c.headD 0+eO m.tail c.tail:=by
   cases m with
   | nil=>show (0:Int)=0 * _+0;rw[WD];rfl
   | cons y m=>rfl
  show (x+f (m.headD 0)) * c.headD 0+eO (nc f l m.tail) c.tail=(x * c.headD 0+eO l c.tail)+k * eO m c
  rw[ih,hf,e,Y9,Yt,Zq,Wi,Wi,Int.add_left_comm (k * _)]
theorem zT (i:Nat):∀ c,eO (ul i) c=Q7 i c:=by
 induction i with
 | zero =>
  intro c
  show 1 * c.headD 0+0=_
  rw[Wq,VO];rfl
 | succ i ih =>
  intro c
  show 0 * c.headD 0+eO (ul i) c.tail=_
  rw[ih,WD,VB];rfl
theorem ZT.nf_ev (c:List Int) (e:ZT):eO e.nf (1::c)=e.ev c:=by
 induction e with
 | v i =>
  show 0 * 1+eO (ul i) c=_
  rw[zT,WD,VB];rfl
 | n k=>show (k:Int) * 1+0=_;rw[WB,VO];rfl
 | a x y hx hy =>
  show eO (nc id x.nf y.nf) _=_
  rw[lz 1 id (λx=>(Wq x).symm),hx,hy,Wq];rfl
 | s x y hx hy =>
  show eO (nc ZD x.nf y.nf) _=_
  rw[lz (-1) ZD (λx=>Yl x),hx,hy,<-Yl];rfl
structure ZC where
 o:Nat
 l:ZT
 r:ZT
noncomputable def ZC.den (c:List Int) (q:ZC):Prop:=[q.l.ev c<=q.r.ev c,q.l.ev c<q.r.ev c,q.l.ev c=q.r.ev c,q.l.ev c=q.r.ev c,¬ q.l.ev c<=q.r.ev c,¬ q.l.ev c<q.r.ev c].getD q.o False
noncomputable def ZC.t (q:ZC):ZT:=[.s q.r q.l,.s q.r (.a q.l (.n 1)),.s q.r q.l,.s q.l q.r,.s q.l (.a q.r (.n 1)),.s q.l q.r].getD q.o (.n 0)
theorem ZC.t_of (c:List Int) (q:ZC) (h:q.den c):0<=q.t.ev c:=by
 cases q with | mk o l r =>
 cases o with
 | zero=>exact Vz h
 | succ o=>cases o with
  | zero=>exact Vz h
  | succ o=>cases o with
   | zero=>exact Vz (WE h)
   | succ o=>cases o with
    | zero=>exact Vz (WE (Eq.symm h))
    | succ o=>cases o with
     | zero=>exact Vz (XU.mp h)
     | succ o=>cases o with
      | zero=>exact Vz (Vj.mp h)
      | succ o=>exact False.elim h
noncomputable def ZC.gd (c:List Int) (q:ZC):Prop:=Nat.rec (q.l.ev c<=q.r.ev c) (λz z=>q.l.ev c<q.r.ev c) q.o
noncomputable def ZC.gt (q:ZC):ZT:=.s q.l (Nat.rec (.a q.r (.n 1)) (λz z=>q.r) q.o)
theorem ZC.of_neg (c:List Int) (q:ZC) (h:0<=q.gt.ev c->False):q.gd c:=by
 cases q with | mk o l r =>
 cases o with
 | zero=>exact Vj.mp λk=>h (Vz k)
 | succ n=>exact XU.mp λk=>h (Vz k)
noncomputable def Hy (l:List Int):Bool:=l.all λx=>x==0
theorem zS (l:List Int):∀ c:List Int,Hy l=true->eO l c=0:=by
 induction l with
 | nil=>exact λz z=>rfl
 | cons x l ih =>
  intro c h
  have h:=Up.mp h
  show x * _+eO l c.tail=0
  rw[eq_of_beq h.1,ih _ h.2,WD];rfl
noncomputable def Dw (l:List Int):Nat->List Int->List Int:=Nat.rec id λz f acc=>f (nc id acc l)
theorem wj {l c:List Int} (h:0<=eO l c) (k:Nat):∀ acc:List Int,0<=eO acc c->0<=eO (Dw l k acc) c:=by
 induction k with
 | zero=>exact λz h0=>h0
 | succ k ih =>
  intro acc h0
  refine ih _ ?_
  rw[lz 1 id (λx=>(Wq x).symm),Wq]
  exact Wa h0 h
noncomputable def ZC.fin (g:ZC) (acc:List Int):Bool:=decide (acc.headD 0<0)&&Hy acc.tail
noncomputable def ZC.chk (g:ZC):List (Nat×ZC)->List Int->Bool:=List.rec (λacc=>g.fin (nc id acc g.gt.nf)) λp z f acc=>f (Dw p.2.t.nf p.1 acc)
noncomputable def ZC.all (c:List Int) (g:ZC):List (Nat×ZC)->Prop:=List.rec (g.gd c) λp z f=>p.2.den c->f
theorem ZC.all_of (c:List Int) (g:ZC) (t:List (Nat×ZC)):∀ acc:List Int,ZC.chk g t acc=true->0<=eO acc (1::c)->ZC.all c g t:=by
 induction t with
 | nil =>
  intro acc h h0
  refine ZC.of_neg c g λh3=>?_
  rw[<-ZT.nf_ev] at h3
  have h5:0<=eO (nc id acc g.gt.nf) (1::c):=by
   rw[lz 1 id (λx=>(Wq x).symm),Wq];exact Wa h0 h3
  have h2:g.fin (nc id acc g.gt.nf)=true:=h
  generalize nc id acc g.gt.nf=z at h2 h5
  have h2:=Up.mp h2
  cases z with
  | nil=>exact absurd (of_decide_eq_true h2.1) (W8 0)
  | cons x z =>
   have h6:0<=x * 1+eO z c:=h5
   rw[zS z c h2.2,WB,VO] at h6
   exact absurd (of_decide_eq_true h2.1) (Vj.mpr h6)
 | cons p t ih=>exact λacc h h0 hp=>ih _ h (wj (by rw[ZT.nf_ev];exact ZC.t_of c p.2 hp) p.1 acc h0)
noncomputable def PZ (f:Nat):Nat->List ZT->List (Nat×ZC)->List (Nat×ZC)×ZC :=
 Nat.rec (λy y cs=>(cs,⟨0,.n 1,.n 0⟩)) (λy f z st cs =>
  bif Nat.blt (z % 16) 8 then f (z / 16) (.v (z % 16)::st) cs
  else bif YR (z % 16) 8 then f (z / 256) (.n (z / 16 % 16)::st) cs
  else bif YR (z % 16) 9 then f (z / 1048576) (.n (z / 16 % 65536)::st) cs
  else bif YR (z % 16) 10 then f (z / 16) (.a (st.tail.headD (.n 0)) (st.headD (.n 0))::st.tail.tail) cs
  else bif YR (z % 16) 14 then f (z / 16) (.s (st.tail.headD (.n 0)) (st.headD (.n 0))::st.tail.tail) cs
  else bif YR (z % 16) 11 then f (z / 4096) st.tail.tail ((z / 256 % 16,⟨z / 16 % 16,st.tail.headD (.n 0),st.headD (.n 0)⟩)::cs)
  else bif YR (z % 16) 12 then (cs,⟨z / 16 % 16,st.tail.headD (.n 0),st.headD (.n 0)⟩)
  else f (z / 19342813113834066795298816) (.n (z / 16 % 1208925819614629174706176)::st) cs) f
noncomputable def zq (z:Nat):List (Nat×ZC)×ZC:=PZ 100 z [] []
noncomputable def Fb (z:Nat):Bool:=ZC.chk (zq z).2 (zq z).1 []
noncomputable def qR (c:List Int) (z:Nat):Prop:=ZC.all c (zq z).2 (zq z).1
theorem G7 (c:List Int) (z:Nat) (h:Fb z=true):qR c z:=ZC.all_of c _ _ _ h (Vk _)
theorem y1 {a:Int} (z:Nat) (h:Fb z=true):qR [a] z:=G7 _ z h
theorem y2 {a b:Int} (z:Nat) (h:Fb z=true):qR [a,b] z:=G7 _ z h
theorem y3 {a b c:Int} (z:Nat) (h:Fb z=true):qR [a,b,c] z:=G7 _ z h
theorem y4 {a b c d:Int} (z:Nat) (h:Fb z=true):qR [a,b,c,d] z:=G7 _ z h
theorem y5 {a b c d e:Int} (z:Nat) (h:Fb z=true):qR [a,b,c,d,e] z:=G7 _ z h
theorem y6 {a b c d e f:Int} (z:Nat) (h:Fb z=true):qR [a,b,c,d,e,f] z:=G7 _ z h
theorem y7 {a b c d e f g:Int} (z:Nat) (h:Fb z=true):qR [a,b,c,d,e,f,g] z:=G7 _ z h
theorem y8 {a b c d e f g k:Int} (z:Nat) (h:Fb z=true):qR [a,b,c,d,e,f,g,k] z:=G7 _ z h
theorem iL {a b:Nat} (h:a<=b):(a:Int)<=b:=Vv.mpr h
theorem iT {a b:Nat} (h:a<b):(a:Int)<b:=Vw.mpr h
theorem iE {a b:Nat} (h:a=b):(a:Int)=b:=congrArg Int.ofNat h
theorem zI (h:(0:Int)<0):False:=W8 0 h
theorem jL {a b:Nat} (h:(a:Int)<=b):a<=b:=Vv.mp h
theorem jT {a b:Nat} (h:(a:Int)<b):a<b:=Vw.mp h
theorem iP (a:Nat):(0:Int)<=a:=Uj a
theorem iA (a b:Nat):((a+b:Nat):Int)=a+b:=rfl
theorem iS (a b:Nat):(a:Int)<=((a - b:Nat):Int)+b:=Vv.mpr (Nat.le_add_of_sub_le (Un (a - b)))
theorem aR {P Q:Prop} {C:Prop} (h:P/\Q) (k:P->Q->C):C:=k h.1 h.2
theorem iK {P Q R:Prop} {C:Prop} (h:P/\Q/\R) (k:P->Q->R->C):C:=k h.1 h.2.1 h.2.2
theorem yo {P Q R S:Prop} {C:Prop} (h:P/\Q/\R/\S) (k:P->Q->R->S->C):C:=k h.1 h.2.1 h.2.2.1 h.2.2.2
theorem NR {P Q R S T:Prop} {C:Prop} (h:P/\Q/\R/\S/\T) (k:P->Q->R->S->T->C):C:=k h.1 h.2.1 h.2.2.1 h.2.2.2.1 h.2.2.2.2
theorem aB {α:Sort _} {P Q:α->Prop} {C:Prop} (h:∃ a,P a/\Q a) (k:∀ a,P a->Q a->C):C:=h.elim λa q=>k a q.1 q.2
theorem ew {α:Sort _} {P Q R:α->Prop} {C:Prop} (h:∃ a,P a/\Q a/\R a) (k:∀ a,P a->Q a->R a->C):C:=h.elim λa q=>k a q.1 q.2.1 q.2.2
theorem qT {α:Sort _} {P Q R S:α->Prop} {C:Prop} (h:∃ a,P a/\Q a/\R a/\S a) (k:∀ a,P a->Q a->R a->S a->C):C:=h.elim λa q=>k a q.1 q.2.1 q.2.2.1 q.2.2.2
theorem Rp {α:Sort _} {P Q R S T:α->Prop} {C:Prop} (h:∃ a,P a/\Q a/\R a/\S a/\T a) (k:∀ a,P a->Q a->R a->S a->T a->C):C:=h.elim λa q=>k a q.1 q.2.1 q.2.2.1 q.2.2.2.1 q.2.2.2.2
theorem nW {α:Sort _} {β:Sort _} {P:α->β->Prop} {C:Prop} (h:∃ a b,P a b) (k:∀ a b,P a b->C):C:=h.elim λa q=>q.elim λb q=>k a b q
theorem gA {α:Sort _} {β:Sort _} {P Q:α->β->Prop} {C:Prop} (h:∃ a b,P a b/\Q a b) (k:∀ a b,P a b->Q a b->C):C:=h.elim λa q=>q.elim λb q=>k a b q.1 q.2
theorem kF {α:Sort _} {β:Sort _} {P Q R:α->β->Prop} {C:Prop} (h:∃ a b,P a b/\Q a b/\R a b) (k:∀ a b,P a b->Q a b->R a b->C):C:=h.elim λa q=>q.elim λb q=>k a b q.1 q.2.1 q.2.2
theorem DD {α:Sort _} {β:Sort _} {P Q R S:α->β->Prop} {C:Prop} (h:∃ a b,P a b/\Q a b/\R a b/\S a b) (k:∀ a b,P a b->Q a b->R a b->S a b->C):C:=h.elim λa q=>q.elim λb q=>k a b q.1 q.2.1 q.2.2.1 q.2.2.2
theorem H3 {α:Sort _} {β:Sort _} {P Q R S T:α->β->Prop} {C:Prop} (h:∃ a b,P a b/\Q a b/\R a b/\S a b/\T a b) (k:∀ a b,P a b->Q a b->R a b->S a b->T a b->C):C:=h.elim λa q=>q.elim λb q=>k a b q.1 q.2.1 q.2.2.1 q.2.2.2.1 q.2.2.2.2
theorem Rq {α:Sort _} {β:Sort _} {P Q R S T U:α->β->Prop} {C:Prop} (h:∃ a b,P a b/\Q a b/\R a b/\S a b/\T a b/\U a b) (k:∀ a b,P a b->Q a b->R a b->S a b->T a b->U a b->C):C:=h.elim λa q=>q.elim λb q=>k a b q.1 q.2.1 q.2.2.1 q.2.2.2.1 q.2.2.2.2.1 q.2.2.2.2.2
theorem NS {α:Sort _} {β:Sort _} {P Q R S T U X:α->β->Prop} {C:Prop} (h:∃ a b,P a b/\Q a b/\R a b/\S a b/\T a b/\U a b/\X a b) (k:∀ a b,P a b->Q a b->R a b->S a b->T a b->U a b->X a b->C):C:=h.elim λa q=>q.elim λb q=>k a b q.1 q.2.1 q.2.2.1 q.2.2.2.1 q.2.2.2.2.1 q.2.2.2.2.2.1 q.2.2.2.2.2.2
theorem AT {α:Sort _} {β:Sort _} {γ:Sort _} {P:α->β->γ->Prop} {C:Prop} (h:∃ a b c,P a b c) (k:∀ a b c,P a b c->C):C:=h.elim λa q=>q.elim λb q=>q.elim λc q=>k a b c q
theorem mQ {α:Sort _} {β:Sort _} {γ:Sort _} {P Q:α->β->γ->Prop} {C:Prop} (h:∃ a b c,P a b c/\Q a b c) (k:∀ a b c,P a b c->Q a b c->C):C:=h.elim λa q=>q.elim λb q=>q.elim λc q=>k a b c q.1 q.2
theorem qU {α:Sort _} {β:Sort _} {γ:Sort _} {P Q R:α->β->γ->Prop} {C:Prop} (h:∃ a b c,P a b c/\Q a b c/\R a b c) (k:∀ a b c,P a b c->Q a b c->R a b c->C):C:=h.elim λa q=>q.elim λb q=>q.elim λc q=>k a b c q.1 q.2.1 q.2.2
theorem Eo {α:Sort _} {β:Sort _} {γ:Sort _} {P Q R S:α->β->γ->Prop} {C:Prop} (h:∃ a b c,P a b c/\Q a b c/\R a b c/\S a b c) (k:∀ a b c,P a b c->Q a b c->R a b c->S a b c->C):C:=h.elim λa q=>q.elim λb q=>q.elim λc q=>k a b c q.1 q.2.1 q.2.2.1 q.2.2.2
theorem Qe {α:Sort _} {β:Sort _} {γ:Sort _} {P Q R S T:α->β->γ->Prop} {C:Prop} (h:∃ a b c,P a b c/\Q a b c/\R a b c/\S a b c/\T a b c) (k:∀ a b c,P a b c->Q a b c->R a b c->S a b c->T a b c->C):C:=h.elim λa q=>q.elim λb q=>q.elim λc q=>k a b c q.1 q.2.1 q.2.2.1 q.2.2.2.1 q.2.2.2.2
theorem NU {α:Sort _} {β:Sort _} {γ:Sort _} {P Q R S T U:α->β->γ->Prop} {C:Prop} (h:∃ a b c,P a b c/\Q a b c/\R a b c/\S a b c/\T a b c/\U a b c) (k:∀ a b c,P a b c->Q a b c->R a b c->S a b c->T a b c->U a b c->C):C:=h.elim λa q=>q.elim λb q=>q.elim λc q=>k a b c q.1 q.2.1 q.2.2.1 q.2.2.2.1 q.2.2.2.2.1 q.2.2.2.2.2
theorem JB {α:Sort _} {β:Sort _} {γ:Sort _} {δ:Sort _} {P:α->β->γ->δ->Prop} {C:Prop} (h:∃ a b c d,P a b c d) (k:∀ a b c d,P a b c d->C):C:=h.elim λa q=>q.elim λb q=>q.elim λc q=>q.elim λd q=>k a b c d q
theorem NV {α:Sort _} {β:Sort _} {γ:Sort _} {δ:Sort _} {P Q:α->β->γ->δ->Prop} {C:Prop} (h:∃ a b c d,P a b c d/\Q a b c d) (k:∀ a b c d,P a b c d->Q a b c d->C):C:=h.elim λa q=>q.elim λb q=>q.elim λc q=>q.elim λd q=>k a b c d q.1 q.2
theorem AU {α:Sort _} {β:Sort _} {γ:Sort _} {δ:Sort _} {P Q R:α->β->γ->δ->Prop} {C:Prop} (h:∃ a b c d,P a b c d/\Q a b c d/\R a b c d) (k:∀ a b c d,P a b c d->Q a b c d->R a b c d->C):C:=h.elim λa q=>q.elim λb q=>q.elim λc q=>q.elim λd q=>k a b c d q.1 q.2.1 q.2.2
theorem NW {α:Sort _} {β:Sort _} {γ:Sort _} {δ:Sort _} {P Q R S:α->β->γ->δ->Prop} {C:Prop} (h:∃ a b c d,P a b c d/\Q a b c d/\R a b c d/\S a b c d) (k:∀ a b c d,P a b c d->Q a b c d->R a b c d->S a b c d->C):C:=h.elim λa q=>q.elim λb q=>q.elim λc q=>q.elim λd q=>k a b c d q.1 q.2.1 q.2.2.1 q.2.2.2
theorem Qf {α:Sort _} {β:Sort _} {γ:Sort _} {δ:Sort _} {P Q R S T:α->β->γ->δ->Prop} {C:Prop} (h:∃ a b c d,P a b c d/\Q a b c d/\R a b c d/\S a b c d/\T a b c d) (k:∀ a b c d,P a b c d->Q a b c d->R a b c d->S a b c d->T a b c d->C):C:=h.elim λa q=>q.elim λb q=>q.elim λc q=>q.elim λd q=>k a b c d q.1 q.2.1 q.2.2.1 q.2.2.2.1 q.2.2.2.2
theorem NX {α:Sort _} {β:Sort _} {γ:Sort _} {δ:Sort _} {P Q R S T U:α->β->γ->δ->Prop} {C:Prop} (h:∃ a b c d,P a b c d/\Q a b c d/\R a b c d/\S a b c d/\T a b c d/\U a b c d) (k:∀ a b c d,P a b c d->Q a b c d->R a b c d->S a b c d->T a b c d->U a b c d->C):C:=h.elim λa q=>q.elim λb q=>q.elim λc q=>q.elim λd q=>k a b c d q.1 q.2.1 q.2.2.1 q.2.2.2.1 q.2.2.2.2.1 q.2.2.2.2.2
theorem lB {α:Sort _} {β:Sort _} {γ:Sort _} {δ:Sort _} {ε:Sort _} {P:α->β->γ->δ->ε->Prop} {C:Prop} (h:∃ a b c d f,P a b c d f) (k:∀ a b c d f,P a b c d f->C):C:=h.elim λa q=>q.elim λb q=>q.elim λc q=>q.elim λd q=>q.elim λf q=>k a b c d f q
theorem qV {α:Sort _} {β:Sort _} {γ:Sort _} {δ:Sort _} {ε:Sort _} {P Q:α->β->γ->δ->ε->Prop} {C:Prop} (h:∃ a b c d f,P a b c d f/\Q a b c d f) (k:∀ a b c d f,P a b c d f->Q a b c d f->C):C:=h.elim λa q=>q.elim λb q=>q.elim λc q=>q.elim λd q=>q.elim λf q=>k a b c d f q.1 q.2
theorem Rr {α:Sort _} {β:Sort _} {γ:Sort _} {δ:Sort _} {ε:Sort _} {P Q R S:α->β->γ->δ->ε->Prop} {C:Prop} (h:∃ a b c d f,P a b c d f/\Q a b c d f/\R a b c d f/\S a b c d f) (k:∀ a b c d f,P a b c d f->Q a b c d f->R a b c d f->S a b c d f->C):C:=h.elim λa q=>q.elim λb q=>q.elim λc q=>q.elim λd q=>q.elim λf q=>k a b c d f q.1 q.2.1 q.2.2.1 q.2.2.2
theorem Rs {α:Sort _} {β:Sort _} {γ:Sort _} {δ:Sort _} {ε:Sort _} {P Q R S T:α->β->γ->δ->ε->Prop} {C:Prop} (h:∃ a b c d f,P a b c d f/\Q a b c d f/\R a b c d f/\S a b c d f/\T a b c d f) (k:∀ a b c d f,P a b c d f->Q a b c d f->R a b c d f->S a b c d f->T a b c d f->C):C:=h.elim λa q=>q.elim λb q=>q.elim λc q=>q.elim λd q=>q.elim λf q=>k a b c d f q.1 q.2.1 q.2.2.1 q.2.2.2.1 q.2.2.2.2
theorem MH {α:Sort _} {β:Sort _} {γ:Sort _} {δ:Sort _} {ε:Sort _} {P Q R S T U X:α->β->γ->δ->ε->Prop} {C:Prop} (h:∃ a b c d f,P a b c d f/\Q a b c d f/\R a b c d f/\S a b c d f/\T a b c d f/\U a b c d f/\X a b c d f) (k:∀ a b c d f,P a b c d f->Q a b c d f->R a b c d f->S a b c d f->T a b c d f->U a b c d f->X a b c d f->C):C:=h.elim λa q=>q.elim λb q=>q.elim λc q=>q.elim λd q=>q.elim λf q=>k a b c d f q.1 q.2.1 q.2.2.1 q.2.2.2.1 q.2.2.2.2.1 q.2.2.2.2.2.1 q.2.2.2.2.2.2
theorem ez {α:Sort _} {a b:α} {C:α->Prop} (h:a=b) (k:C a):C b:=h ▸ k
theorem aV {α:Sort _} {a b:α} {C:α->Prop} (h:b=a) (k:C a):C b:=h ▸ k
end Lar
set_option backward.match.sparseCases false
set_option genInjectivity false
set_option genSizeOf false
namespace Lar
open PySem
set_option genInjectivity true in
inductive V where
 | none
 | bool (b:Bool)
 | int (i:Int)
 | str (s:Str)
 | tup (l:List V)
 | ref (n:Nat)
 | ro (l:List Int)
set_option genInjectivity true in
inductive aZ where
 | lst (l:List V)
 | ds (l:List (Str×V))
 | own
 | wd (w:Str)
 | exn (c d:Nat)
 | tab (q:Str)
noncomputable abbrev ag:=List aZ
noncomputable abbrev aN:=Nat->Option V
noncomputable def cn (K:aN) (i:Nat) (v:V):aN:=λj=>if j=i then some v else K j
inductive iO where
 | len | sum | min2 | max2 | min1 | max1 | minD | tuple | list | str | int
 | isInt | isBool | isTuple | isStr | isList
 | sorted
inductive fN where
 | append | extend | find | get | join
inductive gE where
 | one (i:Nat)
 | two (i j:Nat)
inductive KX where
 | var (i:Nat)
 | num (i:Int)
 | idx (a i:KX)
 | pair (a b:KX)
mutual
inductive CE where
 | cst (v:V)
 | var (i:Nat)
 | bin (op:Operator) (a b:CE)
 | cmp (op:CmpOp) (a b:CE)
 | not (a:CE)
 | neg (a:CE)
 | and (a b:CE)
 | or (a b:CE)
 | ite (t a b:CE)
 | list (es:fh)
 | tuple (es:fh)
 | dict0
 | idx (a i:CE)
 | slc (a lo hi:CE)
 | call (f:Nat) (as:fh)
 | prim (p:iO) (as:fh)
 | meth (m:fN) (o:CE) (as:fh)
 | comp (elt:CE) (t:gE) (it:gb) (ifs:fh)
 | sortK (it:gb) (i:Nat) (k:KX)
 | word (e:CE)
 | isC (c:Nat) (e:CE)
inductive fh where
 | nil
 | cons (e:CE) (r:fh)
inductive gb where
 | ex (e:CE)
 | rng1 (a:CE)
 | rng2 (a b:CE)
 | rng3 (a b c:CE)
 | zip (a b:CE)
 | enm (a:CE)
end
mutual
inductive CS where
 | assign (t:gE) (e:CE)
 | setItem (o i v:CE)
 | expr (e:CE)
 | ite (c:CE) (t e:fJ)
 | for_ (t:gE) (it:gb) (body:fJ)
 | ret (e:CE)
 | raise_ (c:Nat) (e:CE)
 | try_ (body:fJ) (x:Nat) (h:fJ)
inductive fJ where
 | nil
 | cons (s:CS) (r:fJ)
end
set_option genInjectivity true in
inductive bT where
 | next
 | ret (v:V)
 | exc (c:Nat) (w:Str)
set_option genInjectivity true in
inductive uo where
 | ok (v:V)
 | exc (c:Nat) (w:Str)
noncomputable def ar:Nat:=16777216
noncomputable def mx (a b:Int):Bool:=decide (a.natAbs<18446744073709551616)||decide (b.natAbs<18446744073709551616)
noncomputable def pg:V->Option Int
 | .int i=>some i
 | _=>none
noncomputable def HN:V->Option Bool
 | .bool b=>some b
 | _=>none
noncomputable def zY:V->Option Str
 | .str x=>some x
 | _=>none
noncomputable def uJ:V->Option (List V)
 | .tup l=>some l
 | _=>none
noncomputable def r9:V->Option Nat
 | .ref r=>some r
 | _=>none
noncomputable def P7:aZ->Option (List V)
 | .lst l=>some l
 | _=>none
noncomputable def HO:aZ->Option (List (Str×V))
 | .ds l=>some l
 | _=>none
noncomputable def M5:V->Bool
 | .none=>true
 | _=>false
noncomputable def bn {α β:Type} (m:Option (α×ag)) (k:α->ag->Option β):Option β:=match m with
 | none=>none
 | some p=>k p.1 p.2
noncomputable def jZ {α β γ:Type} (m:Option (α×β×ag)) (k:α->β->ag->Option γ):Option γ:=match m with
 | none=>none
 | some p=>k p.1 p.2.1 p.2.2
noncomputable def iW {β:Type} (m:Option (V×ag)) (k:Bool->ag->Option β):Option β:=bn m λx H=>(HN x).bind λb=>k b H
noncomputable def lN {β:Type} (m:Option (V×ag)) (k:Int->ag->Option β):Option β:=bn m λx H=>(pg x).bind λb=>k b H
noncomputable def lst (H:ag) (r:Nat):Option (List V):=(H[r]?).bind P7
noncomputable def ds (H:ag) (r:Nat):Option (List (Str×V)):=(H[r]?).bind HO
noncomputable def gc {κ:Type} [DecidableEq κ]:List (κ×V)->κ->V->List (κ×V)
 | [],k,v=>[(k,v)]
 | (a,b)::r,k,v=>if a=k then (a,v)::r else (a,b)::gc r k v
noncomputable def qk (H:ag) (l:List V):Option (V×ag):=if l.length<=ar then some (.ref H.length,H++[.lst l]) else none
noncomputable def m7 (H:ag) (l:List V):Option (V×ag):=if l.length<=ar then some (.tup l,H) else none
noncomputable def Ja (H:ag) (x:Str):Option (V×ag):=if x.length<=ar then some (.str x,H) else none
noncomputable def xx {α:Type} (l:List α):Nat->List α
 | 0=>[]
 | n+1=>l++xx l n
noncomputable def Gc (a b:V) (H:ag):Option (V×ag):=match a with
 | .int x=>(pg b).bind λy=>some (.int (x+y),H)
 | .str x=>(zY b).bind λy=>if x.length+y.length<=ar then some (.str (x++y),H) else none
 | .tup x=>(uJ b).bind λy=>m7 H (x++y)
 | _=>none
noncomputable def Hc (a b:V) (H:ag):Option (V×ag):=(pg b).bind λn=>match a with
 | .int x=>if mx x n then some (.int (x * n),H) else none
 | .ref i=>(lst H i).bind λx=>if 0<=n/\n<=100000/\x.length<=100 then qk H (xx x n.toNat) else none
 | _=>none
noncomputable def w7 (f:Int->Int->Option Int) (a b:V) (H:ag):Option (V×ag):=(pg a).bind λx=>(pg b).bind λy=>(f x y).bind λz=>some (.int z,H)
noncomputable def PV (x y:Int):Option Int:=some (x - y)
noncomputable def NP (x y:Int):Option Int:=if y=0\/1073741824<=y.natAbs then none else some (x.fdiv y)
noncomputable def PI (x y:Int):Option Int:=if y=0 then none else some (x.fmod y)
noncomputable def ku (op:Operator) (a b:V) (H:ag):Option (V×ag):=match op with
 | .Add=>Gc a b H
 | .Mult=>Hc a b H
 | .Sub=>w7 PV a b H
 | .FloorDiv=>w7 NP a b H
 | .Mod=>w7 PI a b H
 | _=>none
noncomputable def H6:V->Option Bool
 | .none=>some true
 | .int _=>some false
 | .tup _=>some false
 | _=>none
noncomputable def Ku (x:Int):V->Option Bool
 | .int y=>some (x==y)
 | .none=>some false
 | _=>none
noncomputable def Qi:Nat->V->V->Option Bool
 | 0,_,_=>none
 | n+1,a,b=>match a with
  | .none=>H6 b
  | .bool p=>(HN b).bind λq=>some (p==q)
  | .int x=>Ku x b
  | .str x=>(zY b).bind λy=>some (x==y)
  | _=>none
noncomputable def DE (a b:V):Option Bool:=Qi 6 a b
noncomputable def Gp (H:ag) (x:List V):V->Option Bool
 | .ref j=>(lst H j).bind λy=>if x.length=y.length then (if x.length=0 then some true else none) else some false
 | .tup _=>some false
 | .none=>some false
 | _=>none
noncomputable def Gq (H:ag) (a b:V):Option Bool:=match r9 b with
 | some j=>(lst H j).bind λz=>some false
 | none=>DE a b
noncomputable def Cy (H:ag) (a b:V):Option Bool:=match a with
 | .ref i=>(lst H i).bind λx=>Gp H x b
 | .tup l=>Gq H (.tup l) b
 | .none=>Gq H .none b
 | a=>DE a b
theorem AW {H:ag} {r q:Nat} {l:List V} (h1:lst H r=some l) (h2:lst H q=some []):Cy H (.ref r) (.ref q)=some (decide (l.length=0)):=by
 show (lst H r).bind (λx=>Gp H x (.ref q))=_
 rw[h1]
 show (lst H q).bind _=_
 rw[h2]
 cases l <;> rfl
noncomputable def gx (x:V):List V->Option Bool
 | []=>some false
 | y::r=>(DE y x).bind λa=>(gx x r).bind λb=>some (a||b)
noncomputable def ot (f:Int->Int->Bool) (a b:V):Option Bool:=(pg a).bind λx=>(pg b).bind λy=>some (f x y)
noncomputable def LL (a b:V):Option Bool:=match b with
 | .none=>some (M5 a)
 | _=>none
noncomputable def G4 (a b:V):Option Bool:=match b with
 | .none=>some (!M5 a)
 | .bool q=>(HN a).bind λp=>some (p != q)
 | _=>none
noncomputable def LJ (a b:V) (H:ag):Option Bool:=(zY a).bind λx=>(r9 b).bind λr=>(lst H r).bind λl=>gx (.str x) l
noncomputable def pU (op:CmpOp) (a b:V) (H:ag):Option Bool:=match op with
 | .Eq=>Cy H a b
 | .NotEq=>(Cy H a b).bind λc=>some (!c)
 | .Lt=>ot (λx y=>decide (x<y)) a b
 | .LtE=>ot (λx y=>decide (x<=y)) a b
 | .Gt=>ot (λx y=>decide (y<x)) a b
 | .GtE=>ot (λx y=>decide (y<=x)) a b
 | .Is=>LL a b
 | .IsNot=>G4 a b
 | .In=>LJ a b H
 | .NotIn=>none
noncomputable def BB (l:List V) (i:V):Option V:=(pg i).bind λk=>if 0<=k then l[k.toNat]? else none
noncomputable def IM (i:V):aZ->Option V
 | .lst l=>BB l i
 | .ds _=>none
 | .own=>none
 | .wd _=>none
 | .exn _ _=>none
 | .tab _=>none
noncomputable def i8 (a i:V) (H:ag):Option V:=match a with
 | .tup l=>BB l i
 | .str x=>(pg i).bind λk=>if 0<=k/\k<4611686018427387904 then (x.cps[k.toNat]?).bind (λc=>some (.str ⟨#[c]⟩)) else none
 | .ref r=>(H[r]?).bind (IM i)
 | _=>none
noncomputable def kW:V->Option Nat
 | .none=>some 0
 | .int k=>if 0<=k/\k<4611686018427387904 then some k.toNat else none
 | _=>none
noncomputable def jv (n:Nat):V->Option Nat
 | .none=>some n
 | .int k=>if 0<=k/\k<4611686018427387904 then some (min n k.toNat) else none
 | _=>none
noncomputable def mh {α:Type} (l:List α) (lo hi:Nat):List α:=(l.take hi).drop lo
noncomputable def o0 (a lo hi:V) (H:ag):Option (V×ag):=match a with
 | .tup l=>(kW lo).bind λi=>(jv l.length hi).bind λj=>m7 H (mh l i j)
 | .str x=>(kW lo).bind λi=>(jv x.length hi).bind λj=>Ja H ⟨(mh x.cps.toList i j).toArray⟩
 | _=>none
noncomputable def jf (H:ag):V->Option (List V×List (Nat×aZ))
 | .tup l=>some (l,[])
 | .ro l=>some (l.map .int,[])
 | .ref r=>(lst H r).bind λl=>some (l,[(r,.lst l)])
 | _=>none
noncomputable def dA:List V->Option (List Int)
 | []=>some []
 | v::r=>(pg v).bind λi=>(dA r).bind λl=>some (i::l)
noncomputable def lK (l:List Str):Prop:=l.Pairwise λa b=>¬ (b.cps.toList<a.cps.toList)
open Classical in
noncomputable def iw (l:List Str):List Str:=if h:∃ m:List Str,m.Perm l/\lK m then choose h else l
noncomputable def jV (f:V->Option (V×ag)):List V->Option (V×ag)
 | []=>none
 | a::r=>if r.isEmpty then f a else none
noncomputable def D5 (f:V->V->Option (V×ag)):List V->Option (V×ag)
 | []=>none
 | a::r=>jV (f a) r
noncomputable def Ci (H:ag) (f:List Int->Option V) (a:V):Option (V×ag):=(jf H a).bind λp=>(dA p.1).bind λns=>(f ns).bind λv=>some (v,H)
noncomputable def Cj (H:ag) (f:Int->Int->Int) (a b:V):Option (V×ag):=(pg a).bind λx=>(pg b).bind λy=>some (.int (f x y),H)
noncomputable def Ma (H:ag):V->Option (V×ag)
 | .str x=>if x.length<=ar then some (.int x.length,H) else none
 | a=>(jf H a).bind λp=>some (.int p.1.length,H)
inductive wo where
 | none | bool | int | str | tup | lst
noncomputable def G5 (H:ag):V->Option wo
 | .none=>some .none
 | .bool _=>some .bool
 | .int _=>some .int
 | .str _=>some .str
 | .tup _=>some .tup
 | .ref r=>(lst H r).bind λz=>some .lst
 | .ro _=>none
noncomputable def wo.isTup:wo->Bool
 | .tup=>true
 | _=>false
noncomputable def wo.isLst:wo->Bool
 | .lst=>true
 | _=>false
noncomputable def pa (c d:Nat):Bool:=c==d||d==0||d==3
noncomputable def Ki:aZ->Option (Nat×Nat)
 | .exn c d=>if c==1||c==2 then some (c,d) else none
 | _=>none
noncomputable def xb (H:ag) (d:Nat) (a:V):Option V:=(r9 a).bind λr=>(H[r]?).bind λm=>(Ki m).bind λp=>some (.bool (pa p.1 d))
noncomputable def PN (H:ag) (f:wo->Bool) (a:V):Option (V×ag):=(G5 H a).bind λk=>some (.bool (f k),H)
noncomputable def fY (p:iO) (as:List V) (H:ag):Option (V×ag):=match p with
 | .len=>jV (Ma H) as
 | .sum=>jV (Ci H λns=>some (.int (ns.foldl (· + ·) 0))) as
 | .min2=>D5 (Cj H min) as
 | .max2=>D5 (Cj H max) as
 | .max1=>none
 | .min1=>none
 | .minD=>none
 | .tuple=>jV (λa=>(r9 a).bind λr=>(lst H r).bind λl=>m7 H l) as
 | .list=>jV (λa=>(uJ a).bind λl=>qk H l) as
 | .str=>none
 | .int=>jV (λa=>(HN a).bind λb=>some (.int (if b then 1 else 0),H)) as
 | .isInt=>none
 | .isBool=>none
 | .isTuple=>jV (PN H wo.isTup) as
 | .isStr=>none
 | .isList=>jV (PN H wo.isLst) as
 | .sorted=>jV (λa=>(r9 a).bind λr=>(ds H r).bind λl=>if l.length<64 then qk H ((iw (l.map (·.1))).map .str) else none) as
noncomputable def xm (H:ag) (o x:V):Option (V×ag):=(r9 o).bind λr=>(lst H r).bind λl=>if l.length<=ar then some (.none,H.set r (.lst (l++[x]))) else none
noncomputable def nA (H:ag) (o x:V):Option (V×ag):=(r9 o).bind λr=>(r9 x).bind λq=>(lst H r).bind λl=>(lst H q).bind λk=>if l.length+k.length<=ar/\r≠q then some (.none,H.set r (.lst (l++k))) else none
noncomputable def Ha (H:ag) (o x:V):Option (V×ag):=(zY o).bind λa=>(zY x).bind λb=>some (.int (Txt.find a b),H)
noncomputable def ik (m:fN) (o:V) (as:List V) (H:ag):Option (V×ag):=match m with
 | .append=>jV (xm H o) as
 | .extend=>jV (nA H o) as
 | .find=>jV (Ha H o) as
 | .get=>none
 | .join=>none
noncomputable def m8 (m:fN) (o:V) (H:ag):Bool:=match m with
 | .append=>((r9 o).bind (lst H)).isSome
 | .extend=>((r9 o).bind (lst H)).isSome
 | .find=>(zY o).isSome
 | .join=>(zY o).isSome
 | .get=>false
noncomputable def Hs (H:ag) (r:Nat) (l:List (Str×V)) (v:V):V->Option ag
 | .str k=>if l.length<=ar then some (H.set r (.ds (gc l k v))) else none
 | _=>none
noncomputable def Ji (H:ag) (r:Nat) (i v:V):aZ->Option ag
 | .lst l=>(pg i).bind λk=>if 0<=k/\k.toNat<l.length then some (H.set r (.lst (l.set k.toNat v))) else none
 | .ds l=>Hs H r l v i
 | .own=>none
 | .wd _=>none
 | .exn _ _=>none
 | .tab _=>none
noncomputable def oZ (o i v:V) (H:ag):Option ag:=(r9 o).bind λr=>(H[r]?).bind (Ji H r i v)
noncomputable def uI:V->Option (V×V)
 | .tup l=>match l with
  | [a,b]=>some (a,b)
  | _=>none
 | _=>none
noncomputable def gE.put (t:gE) (x:V) (K:aN):Option aN:=match t with
 | .one i=>some (cn K i x)
 | .two i j=>(uI x).bind λp=>some (cn (cn K i p.1) j p.2)
noncomputable def ci (H:ag) (w:List (Nat×aZ)):Prop:=∀ p∈w,H[p.1]? = some p.2
noncomputable def im (a b c:Int):Nat:=(if c > 0 then (if a<b then (b - a - 1) / c+1 else 0) else (if a > b then (a - b - 1) / (-c)+1 else 0)).toNat
noncomputable def bQ (a b c:Int):List V:=(UC (im a b c)).map λ(i:Nat)=>.int (a+(i:Int) * c)
noncomputable def fx (a:Int):Bool:=decide (-1000000000<=a)&&decide (a<=1000000000)
noncomputable def dI:List V->List V->List V
 | [],_=>[]
 | x::xs,m=>match m with
  | []=>[]
  | y::ys=>.tup [x,y]::dI xs ys
noncomputable def cJ (i:Nat):List V->List V
 | []=>[]
 | x::xs=>.tup [.int i,x]::cJ (i+1) xs
noncomputable def pB:V->Option (List Int)
 | .int k=>some [k]
 | .tup l=>match l with
  | [a,b]=>(pg a).bind λx=>(pg b).bind λy=>some [x,y]
  | _=>none
 | _=>none
noncomputable def bK:List Int->List Int->Bool
 | [],m=>!m.isEmpty
 | a::x,m=>match m with
  | []=>false
  | b::y=>decide (a<b)||(a==b&&bK x y)
noncomputable abbrev KP:=List Int×Int
noncomputable def jx (p q:KP):Bool:=bK p.1 q.1||(!bK q.1 p.1&&decide (p.2<q.2))
noncomputable def yE (p:KP):List KP->List KP
 | []=>[p]
 | q::r=>if jx q p then q::yE p r else p::q::r
noncomputable def ej:List KP->List KP
 | []=>[]
 | p::r=>yE p (ej r)
noncomputable def fw:Int->List Int->Bool
 | _,[]=>true
 | a,b::r=>decide (a<b)&&fw b r
noncomputable def cH:KX->aN->ag->Option V
 | .var i,K,_=>K i
 | .num i,_,_=>some (.int i)
 | .idx a i,K,H=>(cH a K H).bind λx=>(cH i K H).bind λy=>i8 x y H
 | .pair a b,K,H=>(cH a K H).bind λx=>(cH b K H).bind λy=>some (.tup [x,y])
noncomputable def mu (k:KX) (i:Nat) (K:aN) (H:ag):List Int->Option (List KP)
 | []=>some []
 | n::r=>(cH k (cn K i (.int n)) H).bind λv=>(pB v).bind λl=>(mu k i K H r).bind λps=>some ((l,n)::ps)
noncomputable def fH (ps:List KP):Bool:=ps.all λp=>ps.all λq=>p.1.length==q.1.length
noncomputable def io (k:KX) (i:Nat) (K:aN) (H:ag) (xs:List V):Option (V×ag):=(dA xs).bind λns=>if fw (-1) ns/\ns.length<=10000000 then (mu k i K H ns).bind λps=>if fH ps then qk H ((ej ps).map λp=>.int p.2) else none else none
noncomputable def KX.ce:KX->CE
 | .var i=>.var i
 | .num i=>.cst (.int i)
 | .idx a i=>.idx a.ce i.ce
 | .pair a b=>.tuple (.cons a.ce (.cons b.ce .nil))
noncomputable def qy (it:gb) (w:List (Nat×aZ)):Bool:=match it with
 | .rng1 _=>true
 | _=>!w.isEmpty
noncomputable def NC:aZ->Option Str
 | .wd w=>some w
 | _=>none
noncomputable def rX (H:ag) (a:V):Option V:=(r9 a).bind λr=>(H[r]?).bind λm=>(Ki m).bind λp=>(H[p.2]?).bind λm'=>(NC m').bind λw=>some (.str w)
noncomputable abbrev aw:=Nat->List V->ag->Option (uo×ag)
noncomputable abbrev Ex:=Option (bT×aN×ag)
noncomputable def iI (m:Ex) (k:aN->ag->Ex):Ex:=jZ m λf K H=>match f with
 | .next=>k K H
 | .ret v=>some (.ret v,K,H)
 | .exc c w=>some (.exc c w,K,H)
noncomputable def L8:uo->Option V
 | .ok v=>some v
 | .exc _ _=>none
noncomputable abbrev XR:=Option (Nat×Str×ag)
noncomputable def A1 (H:ag):uo->XR
 | .ok _=>none
 | .exc c w=>some (c,w,H)
noncomputable def M9 (a b:XR):XR:=match a with
 | some x=>some x
 | none=>b
noncomputable def Am (m:Ex) (x:XR) (K:aN):Ex:=match m with
 | some r=>some r
 | none=>x.bind λp=>some (.exc p.1 p.2.1,K,p.2.2)
open Classical in
noncomputable def ft {β:Type} (H:ag) (w:List (Nat×aZ)) (x:Option β):Option β:=if ci H w then x else none
noncomputable def jK (body:aN->ag->Ex) (t:gE) (w:List (Nat×aZ)):List V->aN->ag->Ex
 | [],K,H=>ft H w (some (.next,K,H))
 | x::xs,K,H=>ft H w ((t.put x K).bind λaS=>iI (body aS H) λiJ jz=>jK body t w xs iJ jz)
noncomputable def dT (elt:aN->ag->Option (V×ag)) (cond:aN->ag->Option (Bool×ag)) (t:gE) (w:List (Nat×aZ)):List V->aN->ag->Option (List V×ag)
 | [],_,H=>ft H w (some ([],H))
 | x::xs,K,H=>ft H w ((t.put x K).bind λaS=>bn (cond aS H) λb σ1=>if b then bn (elt aS σ1) λv ae=>bn (dT elt cond t w xs K ae) λl bg=>some (v::l,bg) else dT elt cond t w xs K σ1)
mutual
noncomputable def ab (call:aw):CE->aN->ag->Option (V×ag)
 | .cst v,_,H=>some (v,H)
 | .var i,K,H=>(K i).bind λv=>some (v,H)
 | .bin op a b,K,H=>bn (ab call a K H) λx σ1=>bn (ab call b K σ1) λy ae=>ku op x y ae
 | .cmp op a b,K,H=>bn (ab call a K H) λx σ1=>bn (ab call b K σ1) λy ae=>(pU op x y ae).bind λr=>some (.bool r,ae)
 | .not a,K,H=>iW (ab call a K H) λb σ1=>some (.bool (!b),σ1)
 | .neg a,K,H=>lN (ab call a K H) λi σ1=>some (.int (-i),σ1)
 | .and a b,K,H=>iW (ab call a K H) λp σ1=>if p then ab call b K σ1 else some (.bool false,σ1)
 | .or a b,K,H=>iW (ab call a K H) λp σ1=>if p then some (.bool true,σ1) else ab call b K σ1
 | .ite t a b,K,H=>iW (ab call t K H) λp σ1=>if p then ab call a K σ1 else ab call b K σ1
 | .list es,K,H=>bn (a8 call es K H) λvs σ1=>qk σ1 vs
 | .tuple es,K,H=>bn (a8 call es K H) λvs σ1=>m7 σ1 vs
 | .dict0,_,H=>some (.ref H.length,H++[.ds []])
 | .idx a i,K,H=>bn (ab call a K H) λx σ1=>bn (ab call i K σ1) λy ae=>(i8 x y ae).bind λr=>some (r,ae)
 | .slc a lo hi,K,H=>bn (ab call a K H) λx σ1=>bn (ab call lo K σ1) λy ae=>bn (ab call hi K ae) λz bg=>o0 x y z bg
 | .call f as,K,H=>bn (a8 call as K H) λvs σ1=>bn (call f vs σ1) λr ae=>(L8 r).bind λv=>some (v,ae)
 | .prim p as,K,H=>bn (a8 call as K H) λvs σ1=>fY p vs σ1
 | .meth m o as,K,H=>bn (ab call o K H) λx σ1=>if m8 m x σ1 then bn (a8 call as K σ1) λvs ae=>ik m x vs ae else none
 | .comp elt t it ifs,K,H=>jZ (bS call it K H) λxs w σ1=>bn (dT (ab call elt) (bX call ifs) t w xs K σ1) λl ae=>qk ae l
 | .sortK it i k,K,H=>jZ (bS call it K H) λxs w σ1=>if qy it w then io k i K σ1 xs else none
 | .word e,K,H=>bn (ab call e K H) λx σ1=>(rX σ1 x).bind λv=>some (v,σ1)
 | .isC c e,K,H=>bn (ab call e K H) λx σ1=>(xb σ1 c x).bind λv=>some (v,σ1)
noncomputable def bX (call:aw):fh->aN->ag->Option (Bool×ag)
 | .nil,_,H=>some (true,H)
 | .cons e r,K,H=>iW (ab call e K H) λb σ1=>if b then bX call r K σ1 else some (false,σ1)
noncomputable def a8 (call:aw):fh->aN->ag->Option (List V×ag)
 | .nil,_,H=>some ([],H)
 | .cons e r,K,H=>bn (ab call e K H) λv σ1=>bn (a8 call r K σ1) λvs ae=>some (v::vs,ae)
noncomputable def bS (call:aw):gb->aN->ag->Option (List V×List (Nat×aZ)×ag)
 | .ex e,K,H=>bn (ab call e K H) λx σ1=>(jf σ1 x).bind λp=>some (p.1,p.2,σ1)
 | .rng1 a,K,H=>lN (ab call a K H) λn σ1=>if fx n then some (bQ 0 n 1,[],σ1) else none
 | .rng2 a b,K,H=>lN (ab call a K H) λm σ1=>lN (ab call b K σ1) λn ae=>if fx m&&fx n then some (bQ m n 1,[],ae) else none
 | .rng3 a b c,K,H=>lN (ab call a K H) λm σ1=>lN (ab call b K σ1) λn ae=>lN (ab call c K ae) λk bg=>if fx m&&fx n&&fx k&&k != 0 then some (bQ m n k,[],bg) else none
 | .zip a b,K,H=>bn (ab call a K H) λx σ1=>bn (ab call b K σ1) λy ae=>(uJ x).bind λxs=>(uJ y).bind λys=>some (dI xs ys,[(ae.length,.own)],ae++[.own])
 | .enm a,K,H=>bn (ab call a K H) λx σ1=>(uJ x).bind λxs=>some (cJ 0 xs,[],σ1)
end
mutual
noncomputable def di (call:aw):CE->aN->ag->XR
 | .call f as,K,H=>bn (a8 call as K H) λvs σ1=>bn (call f vs σ1) λr ae=>A1 ae r
 | .meth m o as,K,H=>bn (ab call o K H) λx σ1=>if m8 m x σ1 then jC call as K σ1 else none
 | .list es,K,H=>jC call es K H
 | _,_,_=>none
noncomputable def jC (call:aw):fh->aN->ag->XR
 | .nil,_,_=>none
 | .cons e r,K,H=>M9 (di call e K H) (bn (ab call e K H) λz σ1=>jC call r K σ1)
end
noncomputable def Ev (call:aw):gb->aN->ag->XR
 | .ex e,K,H=>di call e K H
 | _,_,_=>none
noncomputable def handled (m:Ex):Ex:=jZ m λf K H=>match f with
 | .ret v=>some (.ret v,K,H)
 | _=>none
noncomputable def AH (k:aN->ag->Ex) (x:Nat) (m:Ex):Ex:=jZ m λf K H=>match f with
 | .exc c w=>handled (k (cn K x (.ref (H.length+1))) (H++[.wd w,.exn c H.length]))
 | .next=>some (.next,K,H)
 | .ret v=>some (.ret v,K,H)
noncomputable def cb (call:aw) (e:CE) (K:aN) (H:ag):Option (Bool×ag):=iW (ab call e K H) λb σ1=>some (b,σ1)
mutual
noncomputable def bu (call:aw):CS->aN->ag->Ex
 | .assign t e,K,H=>Am (bn (ab call e K H) λv σ1=>(t.put v K).bind λaS=>some (.next,aS,σ1)) (di call e K H) K
 | .setItem o i v,K,H=>bn (ab call v K H) λx σ1=>bn (ab call o K σ1) λy ae=>bn (ab call i K ae) λz bg=>(oZ y z x bg).bind λjM=>some (.next,K,jM)
 | .expr e,K,H=>Am (bn (ab call e K H) λk σ1=>some (.next,K,σ1)) (di call e K H) K
 | .ite c t e,K,H=>iW (ab call c K H) λb σ1=>if b then aQ call t K σ1 else aQ call e K σ1
 | .for_ t it body,K,H=>Am (jZ (bS call it K H) λxs w σ1=>jK (aQ call body) t w xs K σ1) (Ev call it K H) K
 | .ret e,K,H=>Am (bn (ab call e K H) λv σ1=>some (.ret v,K,σ1)) (di call e K H) K
 | .raise_ c e,K,H=>bn (ab call e K H) λv σ1=>(zY v).bind λw=>some (.exc c w,K,σ1)
 | .try_ body x h,K,H=>AH (aQ call h) x (aQ call body K H)
noncomputable def aQ (call:aw):fJ->aN->ag->Ex
 | .nil,K,H=>some (.next,K,H)
 | .cons s r,K,H=>iI (bu call s K H) (aQ call r)
end
section
variable {call:aw} {K:aN} {H:ag} {t:gE} {e o i v c a b:CE} {it:gb} {x y:fJ}
theorem gI:bu call (.assign t e) K H=Am (bn (ab call e K H) λv σ1=>(t.put v K).bind λaS=>some (.next,aS,σ1)) (di call e K H) K:=rfl
theorem nZ:bu call (.setItem o i v) K H=bn (ab call v K H) λx σ1=>bn (ab call o K σ1) λy ae=>bn (ab call i K ae) λz bg=>(oZ y z x bg).bind λjM=>some (.next,K,jM):=rfl
theorem qY:bu call (.expr e) K H=Am (bn (ab call e K H) λz σ1=>some (.next,K,σ1)) (di call e K H) K:=rfl
theorem A0:bu call (.ite c x y) K H=iW (ab call c K H) λb σ1=>if b then aQ call x K σ1 else aQ call y K σ1:=rfl
theorem AZ:bu call (.for_ t it x) K H=Am (jZ (bS call it K H) λxs w σ1=>jK (aQ call x) t w xs K σ1) (Ev call it K H) K:=rfl
theorem j5:bu call (.ret e) K H=Am (bn (ab call e K H) λv σ1=>some (.ret v,K,σ1)) (di call e K H) K:=rfl
theorem sK {k:Nat}:bu call (.raise_ k e) K H=bn (ab call e K H) λv σ1=>(zY v).bind λw=>some (.exc k w,K,σ1):=rfl
theorem u2 {k:Nat}:bu call (.try_ x k y) K H=AH (aQ call y) k (aQ call x K H):=rfl
theorem xE:bS call (.ex e) K H=bn (ab call e K H) λx σ1=>(jf σ1 x).bind λp=>some (p.1,p.2,σ1):=rfl
theorem tZ:bS call (.zip a b) K H=bn (ab call a K H) λx σ1=>bn (ab call b K σ1) λy ae=>(uJ x).bind λxs=>(uJ y).bind λys=>some (dI xs ys,[(ae.length,.own)],ae++[.own]):=rfl
theorem tY:bS call (.enm a) K H=bn (ab call a K H) λx σ1=>(uJ x).bind λxs=>some (cJ 0 xs,[],σ1):=rfl
end
structure bj where
 arity:Nat
 body:fJ
noncomputable def b8 (as:List V):aN:=λi=>as[i]?
noncomputable def gJ (m:Ex):Option (uo×ag):=jZ m λf z H=>match f with
 | .next=>some (.ok .none,H)
 | .ret v=>some (.ok v,H)
 | .exc c w=>some (.exc c w,H)
noncomputable def az (P:List bj):Nat->aw
 | 0=>λz z z=>none
 | d+1=>λf as H=>(P[f]?).bind λfn=>if as.length=fn.arity then gJ (aQ (az P d) fn.body (b8 as) H) else none
theorem gF {α β:Type} {m:Option (α×ag)} {k:α->ag->Option β} {r:β} (h:bn m k=some r):∃ a H,m=some (a,H)/\k a H=some r:=by
 cases m with
 | none=>cases h
 | some p=>exact⟨p.1,p.2,rfl,h⟩
theorem pO {α β γ:Type} {m:Option (α×β×ag)} {k:α->β->ag->Option γ} {r:γ} (h:jZ m k=some r):∃ a b H,m=some (a,b,H)/\k a b H=some r:=by
 cases m with
 | none=>cases h
 | some p=>exact⟨p.1,p.2.1,p.2.2,rfl,h⟩
theorem ob {α β:Type} {m:Option α} {k:α->Option β} {r:β} (h:m.bind k=some r):∃ a,m=some a/\k a=some r:=by
 cases m with
 | none=>cases h
 | some p=>exact⟨p,rfl,h⟩
theorem no {α:Type} {r:α} {p:Prop} (h:(none:Option α)=some r):p:=nomatch h
theorem sm {α:Type} {a b:α} (h:some a=some b):a=b:=Option.some.inj h
theorem nE {α β:Type} {a a':α} {b b':β} (h:some (a,b)=some (a',b')):a=a'/\b=b':=⟨congrArg Prod.fst (sm h),congrArg Prod.snd (sm h)⟩
theorem Ht {α β γ:Type} {a a':α} {b b':β} {c c':γ} (h:some (a,b,c)=some (a',b',c')):a=a'/\b=b'/\c=c':=⟨congrArg (λp=>p.1) (sm h),congrArg (λp=>p.2.1) (sm h),congrArg (λp=>p.2.2) (sm h)⟩
theorem Ao:∀ {v:V} {i:Int},pg v=some i->v=.int i
 | .none,_,h=>no h
 | .bool _,_,h=>no h
 | .int _,_,h=>congrArg _ (sm h)
 | .str _,_,h=>no h
 | .tup _,_,h=>no h
 | .ref _,_,h=>no h
 | .ro _,_,h=>no h
theorem An:∀ {v:V} {i:Bool},HN v=some i->v=.bool i
 | .none,_,h=>no h
 | .bool _,_,h=>congrArg _ (sm h)
 | .int _,_,h=>no h
 | .str _,_,h=>no h
 | .tup _,_,h=>no h
 | .ref _,_,h=>no h
 | .ro _,_,h=>no h
theorem nM:∀ {v:V} {i:List V},uJ v=some i->v=.tup i
 | .none,_,h=>no h
 | .bool _,_,h=>no h
 | .int _,_,h=>no h
 | .str _,_,h=>no h
 | .tup _,_,h=>congrArg _ (sm h)
 | .ref _,_,h=>no h
 | .ro _,_,h=>no h
theorem Ap:∀ {v:aZ} {i:List V},P7 v=some i->v=.lst i
 | .lst _,_,h=>congrArg _ (sm h)
 | .ds _,_,h=>no h
 | .own,_,h=>no h
 | .wd _,_,h=>no h
 | .exn _ _,_,h=>no h
 | .tab _,_,h=>no h
theorem yb:∀ {v:aZ} {i:List (Str×V)},HO v=some i->v=.ds i
 | .lst _,_,h=>no h
 | .ds _,_,h=>congrArg _ (sm h)
 | .own,_,h=>no h
 | .wd _,_,h=>no h
 | .exn _ _,_,h=>no h
 | .tab _,_,h=>no h
theorem pP {β:Type} {m:Option (V×ag)} {k:Bool->ag->Option β} {r:β} (h:iW m k=some r):∃ b H,m=some (.bool b,H)/\k b H=some r:=by
 refine gA (gF h) λv H h1 h2=>?_
 refine aB (ob h2) λb h3 h4=>?_
 exact⟨b,H,An h3 ▸ h1,h4⟩
theorem ye {β:Type} {m:Option (V×ag)} {k:Int->ag->Option β} {r:β} (h:lN m k=some r):∃ b H,m=some (.int b,H)/\k b H=some r:=by
 refine gA (gF h) λv H h1 h2=>?_
 refine aB (ob h2) λb h3 h4=>?_
 exact⟨b,H,Ao h3 ▸ h1,h4⟩
theorem oC {H:ag} {r:Nat} {l:List V} (h:lst H r=some l):H[r]? = some (.lst l):=by
 refine aB (ob h) λm h1 h2=>?_
 exact Ap h2 ▸ h1
theorem En {H:ag} {r:Nat} {l:List (Str×V)} (h:ds H r=some l):H[r]? = some (.ds l):=by
 refine aB (ob h) λm h1 h2=>?_
 exact yb h2 ▸ h1
theorem cT {H:ag} {r:Nat} {l:List V} (h:H[r]? = some (.lst l)):lst H r=some l:=by
 unfold lst
 rw[h];rfl
theorem eu {f:V->Option (V×ag)} {as:List V} {r:V×ag} (h:jV f as=some r):∃ a,as=[a]/\f a=some r:=by
 cases as with
 | nil=>cases h
 | cons a t =>
  cases t with
  | nil=>exact⟨a,rfl,h⟩
  | cons b t=>cases h
theorem xY {f:V->V->Option (V×ag)} {as:List V} {r:V×ag} (h:D5 f as=some r):∃ a b,as=[a,b]/\f a b=some r:=by
 cases as with
 | nil=>cases h
 | cons a t =>
  refine aB (eu (f:=f a) h) λb h1 h2=>?_
  exact⟨a,b,by rw[h1],h2⟩
theorem cy {α:Type} {c:Prop} [Decidable c] {x:Option α} {r:α} (h:(if c then x else none)=some r):c/\x=some r:=by
 by_cases hc:c
 ·rw[if_pos hc] at h;exact⟨hc,h⟩
 ·rw[if_neg hc] at h;cases h
theorem ml {β:Type} {H:ag} {w:List (Nat×aZ)} {x:Option β} {r:β} (h:ft H w x=some r):ci H w/\x=some r:=by
 unfold ft at h
 exact @cy _ _ (_) _ _ h
theorem gP {β:Type} {H:ag} {w:List (Nat×aZ)} {x:Option β} (h:ci H w):ft H w x=x:=by
 unfold ft
 rw[if_pos h]
theorem jp {m:Ex} {k:aN->ag->Ex} {fl:bT} {aS:aN} {af:ag} (h:iI m k=some (fl,aS,af)):(∃ dQ σ1,m=some (.next,dQ,σ1)/\k dQ σ1=some (fl,aS,af))\/(m=some (fl,aS,af)/\fl≠.next):=by
 refine mQ (pO h) λf K H h1 h2=>?_
 cases f with
 | next=>exact .inl ⟨K,H,h1,h2⟩
 | ret v =>
  refine iK (Ht h2) λe1 e2 e3=>?_
  exact .inr ⟨by rw[h1,e1,e2,e3],λe=>nomatch (e1.trans e)⟩
 | exc c w =>
  refine iK (Ht h2) λe1 e2 e3=>?_
  exact .inr ⟨by rw[h1,e1,e2,e3],λe=>nomatch (e1.trans e)⟩
theorem sd {m:aZ} {p:Nat×Nat} (h:Ki m=some p):m=.exn p.1 p.2/\(p.1=1\/p.1=2):=by
 cases m with
 | exn c d =>
  refine aR (cy h) λh1 h2=>?_
  have h2:=Option.some.inj h2
  apply ez h2
  exact⟨rfl,by simpa using h1⟩
 | _=>exact no h
theorem Aq {m:aZ} {w:Str} (h:NC m=some w):m=.wd w:=by
 cases m with
 | wd u=>exact congrArg _ (Option.some.inj h)
 | _=>exact no h
theorem eT {m:Ex} {x:XR} {K aS:aN} {fl:bT} {af:ag} (h:Am m x K=some (fl,aS,af)):m=some (fl,aS,af)\/∃ c w,fl=.exc c w/\aS=K/\x=some (c,w,af):=by
 cases m with
 | some r=>exact .inl h
 | none =>
  refine aB (ob (m:=x) h) λk1 h1 h2=>?_;obtain ⟨c,w,σ1⟩:=k1
  refine iK (Ht h2) λq1 q2 q3=>?_;apply ez q1;apply ez q2;apply ez q3
  exact .inr ⟨c,w,rfl,rfl,h1⟩
theorem jS {m:Ex} {x:XR} {K:aN} {r:bT×aN×ag} (h:m=some r):Am m x K=some r:=by rw[h];rfl
theorem wu {m:Ex} {x:XR} {K:aN} {c:Nat} {w:Str} {H:ag} (h:m=none) (hx:x=some (c,w,H)):Am m x K=some (.exc c w,K,H):=by rw[h,hx];rfl
theorem Ck {a b:XR} {r:Nat×Str×ag} (h:M9 a b=some r):a=some r\/(a=none/\b=some r):=by
 cases a with
 | some x=>exact .inl h
 | none=>exact .inr ⟨rfl,h⟩
theorem yq {H af:ag} {r:uo} {c:Nat} {w:Str} (h:A1 H r=some (c,w,af)):r=.exc c w/\af=H:=by
 cases r with
 | ok v=>exact no h
 | exc c' w' =>
  refine iK (Ht h) λq1 q2 q3=>?_;apply aV q1;apply aV q2;apply aV q3
  exact⟨rfl,rfl⟩
theorem iY {call:aw} {K:aN} {H:ag}:∀ {k:KX} {v:V},cH k K H=some v->ab call k.ce K H=some (v,H)
 | .var i,v,h=>by
  show (K i).bind (λv=>some (v,H))=_
  rw[show K i=some v from h];rfl
 | .num i,v,h=>by rw[<-sm h];rfl
 | .idx a i,v,h=>by
  refine aB (ob h) λx h1 h=>?_
  refine aB (ob h) λy h2 h=>?_
  show bn (ab call a.ce K H) (λx σ1=>bn (ab call i.ce K σ1) λy ae=>(i8 x y ae).bind λr=>some (r,ae))=_
  rw[iY h1]
  show bn (ab call i.ce K H) (λy ae=>(i8 x y ae).bind λr=>some (r,ae))=_
  rw[iY h2]
  show (i8 x y H).bind (λr=>some (r,H))=_
  rw[h];rfl
 | .pair a b,v,h=>by
  refine aB (ob h) λx h1 h=>?_
  refine aB (ob h) λy h2 h=>?_
  rw[<-sm h]
  show bn (bn (ab call a.ce K H) (λv σ1=>bn (bn (ab call b.ce K σ1) λw ae=>bn (some ([],ae)) λvs bg=>some (w::vs,bg)) λvs ae=>some (v::vs,ae))) (λvs σ1=>m7 σ1 vs)=_
  rw[iY h1]
  show bn (bn (bn (ab call b.ce K H) λw ae=>bn (some ([],ae)) λvs bg=>some (w::vs,bg)) λvs ae=>some (x::vs,ae)) (λvs σ1=>m7 σ1 vs)=_
  rw[iY h2]
  rfl
theorem dg {call:aw} {e:CE} {K:aN} {H af:ag} {b:Bool} (h:cb call e K H=some (b,af)):ab call e K H=some (.bool b,af):=by
 refine gA (pP h) λc σ1 h1 h2=>?_
 refine aR (nE h2) λe1 e2=>?_
 rw[h1,e1,e2]
theorem br {call:aw} {e:CE} {K:aN} {H af:ag} {b:Bool} (h:ab call e K H=some (.bool b,af)):cb call e K H=some (b,af):=by
 unfold cb
 rw[h];rfl
theorem aT {α β:Type} {m:Option α} {k:α->Option β} {r:β} {C:Prop} (h:m.bind k=some r) (c:∀ a,m=some a->k a=some r->C):C:=(ob h).elim λa q=>c a q.1 q.2
theorem xq {α γ β:Type} {m:Option (α×γ)} {k:α×γ->Option β} {r:β} {C:Prop} (h:m.bind k=some r) (c:∀ a b,m=some (a,b)->k (a,b)=some r->C):C:=(ob h).elim λa q=>c a.1 a.2 q.1 q.2
theorem bU {α β:Type} {m:Option (α×ag)} {k:α->ag->Option β} {r:β} {C:Prop} (h:bn m k=some r) (c:∀ a H,m=some (a,H)->k a H=some r->C):C:=(gF h).elim λa q=>q.elim λH q=>c a H q.1 q.2
theorem me {α β γ:Type} {m:Option (α×β×ag)} {k:α->β->ag->Option γ} {r:γ} {C:Prop} (h:jZ m k=some r) (c:∀ a b H,m=some (a,b,H)->k a b H=some r->C):C:=(pO h).elim λa q=>q.elim λb q=>q.elim λH q=>c a b H q.1 q.2
theorem iX {β:Type} {m:Option (V×ag)} {k:Bool->ag->Option β} {r:β} {C:Prop} (h:iW m k=some r) (c:∀ b H,m=some (.bool b,H)->k b H=some r->C):C:=(pP h).elim λa q=>q.elim λH q=>c a H q.1 q.2
theorem mf {β:Type} {m:Option (V×ag)} {k:Int->ag->Option β} {r:β} {C:Prop} (h:lN m k=some r) (c:∀ b H,m=some (.int b,H)->k b H=some r->C):C:=(ye h).elim λa q=>q.elim λH q=>c a H q.1 q.2
theorem dL {α:Type} {c:Prop} [Decidable c] {x:Option α} {r:α} {C:Prop} (h:(if c then x else none)=some r) (k:c->x=some r->C):C:=k (cy h).1 (cy h).2
theorem dE {α:Type} {a b:α} {C:α->Prop} (h:some a=some b) (k:C a):C b:=sm h ▸ k
theorem cU {α β:Type} {a a':α} {b b':β} {C:α->β->Prop} (h:some (a,b)=some (a',b')) (k:C a b):C a' b':=dE (C:=λp=>C p.1 p.2) h k
theorem gW {α β γ:Type} {a a':α} {b b':β} {c c':γ} {C:α->β->γ->Prop} (h:some (a,b,c)=some (a',b',c')) (k:C a b c):C a' b' c':=dE (C:=λp=>C p.1 p.2.1 p.2.2) h k
theorem og {β:Type} {H:ag} {w:List (Nat×aZ)} {x:Option β} {r:β} {C:Prop} (h:ft H w x=some r) (c:ci H w->x=some r->C):C:=c (ml h).1 (ml h).2
structure cp where
 funs:List Str
 consts:List (Str×Int)
 classes:List (Str×Nat)
 calm:List Nat
noncomputable def gU (scope bw:Scope):Scope :=
 {scope with names:=scope.names.map λ(n,k)=>if (k==.free&&bw.kind==.function&&bw.names.lookup n==some .cell) then (n,.cell) else (n,k)}
noncomputable def eW (sc:Scope):Bool:=sc.names.all λx=>x.2 != .free&&x.1 != (".0" : Str)
noncomputable def BD:NameKind->Bool
 | .local=>true
 | .cell=>true
 | .free=>true
 | _=>false
noncomputable def sr (cx:cp) (sc:Scope) (O:List (Str×Nat)) (x:Str):Option CE :=
 if x==("__debug__" : Str)||x==("__classdict__" : Str) then none else
 (sc.names.lookup x).bind λk=>if BD k then (O.lookup x).bind λi=>some (.var i) else if k==.globalImplicit then (cx.consts.lookup x).bind λi=>some (.cst (.int i)) else none
noncomputable def lh {α:Type}:List α->Option α
 | []=>none
 | a::r=>if r.isEmpty then some a else none
noncomputable def two {α:Type}:List α->Option (α×α)
 | []=>none
 | a::r=>(lh r).bind λb=>some (a,b)
theorem bZ {α:Type} {l:List α} {a:α} (h:lh l=some a):l=[a]:=by
 cases l with
 | nil=>exact no h
 | cons b t =>
  cases t with
  | nil=>exact congrArg (λx=>[x]) (sm h)
  | cons c t=>exact no h
theorem g8 {α:Type} {l:List α} {p:α×α} (h:two l=some p):l=[p.1,p.2]:=by
 cases l with
 | nil=>exact no h
 | cons b t=>exact aT (α:=α) h λc h1 h2=>dE (C:=λp=>b::t=[p.1,p.2]) h2 (congrArg (b :: ·) (bZ h1))
noncomputable def Gs {α:Type} (d:α) (O:Str->α) (tp:List Expr->α) (cl:Expr->List Expr->List Keyword->α) (lm:Arguments->Expr->Scope->α):Expr->α
 | .Name x _=>O x
 | .Tuple l _ _=>tp l
 | .Call f as ks _=>cl f as ks
 | .Lambda ps b sc _=>lm ps b sc
 | _=>d
theorem Kv {α:Type} {r:α} {O:Str->Option α} {tp:List Expr->Option α} {cl:Expr->List Expr->List Keyword->Option α} {lm:Arguments->Expr->Scope->Option α} {e:Expr} {C:Expr->Prop} (h:Gs none O tp cl lm e=some r)
  (h1:∀ x p,O x=some r->C (.Name x p)) (h2:∀ l k p,tp l=some r->C (.Tuple l k p)) (h3:∀ f as ks p,cl f as ks=some r->C (.Call f as ks p)) (h4:∀ ps b sc p,lm ps b sc=some r->C (.Lambda ps b sc p)):C e:=by
 cases e with
 | Name x p=>exact h1 x p h
 | Tuple l k p=>exact h2 l k p h
 | Call f as ks p=>exact h3 f as ks p h
 | Lambda ps b sc p=>exact h4 ps b sc p h
 | _=>exact no h
noncomputable def n1 {α β:Type} (_:α):Option β:=none
noncomputable def n3 {α β γ δ:Type} (_:α) (_:β) (_:γ):Option δ:=none
noncomputable def cS:Expr->Option Str:=Gs none some n1 n3 n3
theorem bq {e:Expr} {x:Str} (h:cS e=some x):∃ p,e=.Name x p :=
 Kv (C:=λe=>∃ p,e=.Name x p) h (λy p h=>⟨p,congrArg (Expr.Name · p) (sm h)⟩) (λz z z h=>no h) (λz z z z h=>no h) λz z z z h=>no h
noncomputable def bY (f:Expr->Option CE):List Expr->Option fh
 | []=>some .nil
 | e::r=>(f e).bind λc=>(bY f r).bind λcs=>some (.cons c cs)
noncomputable def NH (op:BoolOp) (a b:CE):CE:=match op with
 | .And=>.and a b
 | .Or=>.or a b
noncomputable def sh (f:Expr->Option CE) (op:BoolOp):List Expr->Option CE
 | []=>none
 | e::r=>if r.isEmpty then f e else (f e).bind λa=>(sh f op r).bind λb=>some (NH op a b)
noncomputable def uN:Const->Option V
 | .none=>some .none
 | .bool b=>some (.bool b)
 | .int i=>some (.int i)
 | .str s=>some (.str s)
 | _=>none
noncomputable def Az (f:Expr->Option CE):Option Expr->Option CE
 | none=>some (.cst .none)
 | some e=>f e
noncomputable def bh (sc:Scope) (x:Str):Bool:=sc.names.lookup x==some .globalImplicit && !(x==("__debug__" : Str))
noncomputable def dO:List Str:=["len", "sum", "min", "max", "tuple", "list", "str", "int", "isinstance", "sorted", "range", "zip", "enumerate", "bool", "ValueError"]
noncomputable def xJ {α:Type} (t:List (Str×Nat×α)) (x:Str) (n:Nat):Option α:=(t.find? λq=>q.1==x&&q.2.1==n).bind λq=>some q.2.2
theorem kg {α:Type} {t:List (Str×Nat×α)} {x:Str} {n:Nat} {a:α} (h:xJ t x n=some a):(x,n,a)∈t:=by
 refine aT h λq h1 h2=>?_
 apply dE h2
 have h3:=List.find?_some h1
 simp only[Uv,beq_iff_eq] at h3
 refine aR h3 λq1 q2=>?_;apply ez q1;apply ez q2
 exact List.mem_of_find?_eq_some h1
noncomputable def xu:List (Str×Nat×iO):=[("len", 1,.len),("sum", 1,.sum),("min", 2,.min2),("max", 2,.max2),("min", 1,.min1),("max", 1,.max1),("tuple", 1,.tuple),("list", 1,.list),("str", 1,.str),("int", 1,.int),("sorted", 1,.sorted)]
noncomputable def AA (x:Str) (n:Nat):Option iO:=xJ xu x n
noncomputable def BE:List (Str×Nat×iO):=[("int", 0,.isInt),("bool", 0,.isBool),("tuple", 0,.isTuple),("str", 0,.isStr),("list", 0,.isList)]
noncomputable def HX (x:Str):Option iO:=xJ BE x 0
noncomputable def xn:List (Str×Nat×fN):=[("append", 1,.append),("extend", 1,.extend),("find", 1,.find),("get", 2,.get),("join", 1,.join)]
noncomputable def wA (x:Str) (n:Nat):Option fN:=xJ xn x n
noncomputable def gw (cx:cp) (x:Str):Option Nat:=cx.funs.findIdx? (· == x)
noncomputable def pd (sc:Scope) (O:List (Str×Nat)) (x:Str):Option Nat:=if sc.names.lookup x==some .local||sc.names.lookup x==some .cell then O.lookup x else none
noncomputable def Ge:Expr->Option (List Expr):=Gs none n1 some n3 n3
theorem nN {e:Expr} {l:List Expr} (h:Ge e=some l):∃ k p,e=.Tuple l k p :=
 Kv (C:=λe=>∃ k p,e=.Tuple l k p) h (λz z h=>no h) (λm k p h=>⟨k,p,congrArg (Expr.Tuple · k p) (sm h)⟩) (λz z z z h=>no h) λz z z z h=>no h
noncomputable def eU (sc:Scope) (O:List (Str×Nat)) (e:Expr):Option gE:=match cS e with
 | some x=>(pd sc O x).bind λi=>some (.one i)
 | none=>(Ge e).bind λl=>(two l).bind λp=>(cS p.1).bind λx=>(cS p.2).bind λy=>if x==y then none else (pd sc O x).bind λi=>(pd sc O y).bind λj=>some (.two i j)
noncomputable def a9:Expr->List Str:=Gs [] (λx=>[x]) (λl=>l.filterMap cS) (λz z z=>[]) (λz z z=>[])
noncomputable def vY:Expr->Bool
 | .Name _ _=>true
 | .Constant _ _ _=>true
 | .Subscript _ _ _=>true
 | _=>false
noncomputable def mq:gb->Bool
 | .zip _ _=>true
 | .enm _=>true
 | _=>false
noncomputable def gE.isTwo:gE->Bool
 | .one _=>false
 | .two _ _=>true
noncomputable def kP (it:gb) (t:gE):Bool:=!mq it||t.isTwo
noncomputable def bN (scope:Scope) (O:List (Str×Nat)) (nx:Nat) (ts:List Str):List (Str×Nat) :=
 ts.zipIdx nx++(scope.names.filterMap λ(n,k)=>if k==.free then (O.lookup n).map λi=>(n,i) else none)
noncomputable def qN (scope bw:Scope) (O:List (Str×Nat)) (nx:Nat) (ts:List Str):Bool :=
 scope.kind==.function &&
 scope.names.all (λ(_,k)=>k==.local||k==.cell||k==.free||k==.globalImplicit) &&
 scope.names.all (λ(n,k)=>scope.names.lookup n==some k) &&
 scope.names.all (λ(n,k)=>k != .free||((bw.names.lookup n==some .cell||bw.names.lookup n==some .free)&&(O.lookup n).isSome)) &&
 scope.names.all (λ(n,k)=>!(k==.local||k==.cell)||n==(".0" : Str)||ts.contains n) &&
 ts.all (λt=>scope.names.lookup t==some .local||scope.names.lookup t==some .cell) &&
 O.all (λ(_,i)=>decide (i<nx)) &&
 !eW (gU scope bw)
noncomputable def Qa (op:UnaryOp) (a:CE):Option CE:=match op with
 | .Not=>some (.not a)
 | .USub=>some (.neg a)
 | _=>none
noncomputable def Km (f:Expr->Option CE) (l:Expr) (ops:List CmpOp) (rs:List Expr):Option CE:=(lh ops).bind λop=>(lh rs).bind λr=>if behindInMarks op r then none else (f l).bind λa=>(f r).bind λb=>some (.cmp op a b)
noncomputable def Kp (f:Expr->Option CE) (v i:Expr):Option CE:=(f v).bind λa=>match i with
 | .Slice lo hi st _=>if st.isNone then (Az f lo).bind λx=>(Az f hi).bind λy=>some (.slc a x y) else none
 | i=>(f i).bind λx=>some (.idx a x)
noncomputable def Gh (f:Expr->Option CE) (sc:Scope) (as:List Expr):Option CE:=(two as).bind λp=>(cS p.2).bind λt=>if bh sc t then (HX t).bind λq=>(f p.1).bind λa=>some (.prim q (.cons a .nil)) else none
noncomputable def fQ:List (Str×Nat):=[("LarderError", 0),("TooMuch", 1),("Short", 2),("ValueError", 3)]
noncomputable def Gk (as:List Expr):Option Nat:=(two as).bind λp=>(cS p.2).bind λt=>fQ.lookup t
noncomputable def HW (f:Expr->Option CE) (sc:Scope) (as:List Expr):Option CE:=(two as).bind λp=>(cS p.2).bind λt=>if bh sc t then (fQ.lookup t).bind λc=>(f p.1).bind λa=>some (.isC c a) else none
noncomputable def nP (f:Expr->Option CE) (cx:cp) (sc:Scope) (g:Str) (as:List Expr):Option CE:=match gw cx g with
 | some k=>if as.isEmpty then none else (bY f as).bind λcs=>some (.call k cs)
 | none=>if g==("isinstance" : Str) then (if (Gk as).isSome then HW f sc as else Gh f sc as) else (AA g as.length).bind λp=>(bY f as).bind λcs=>some (.prim p cs)
noncomputable def cO (p:Arguments):Bool:=p.posonlyargs.isEmpty&&p.vararg.isNone&&p.kwonlyargs.isEmpty&&p.kw_defaults.isEmpty&&p.kwarg.isNone&&p.defaults.isEmpty
noncomputable def G6:Expr->Option (Arg×Expr×Scope):=Gs none n1 n1 n3 λps body scope=>if cO ps then (lh ps.args).bind λa=>some (a,body,scope) else none
theorem vE {e:Expr} {a:Arg} {body:Expr} {scope:Scope} (h:G6 e=some (a,body,scope)):∃ ps pos,e=.Lambda ps body scope pos/\cO ps=true/\ps.args=[a] :=
 Kv (C:=λe=>∃ ps pos,e=.Lambda ps body scope pos/\cO ps=true/\ps.args=[a]) h (λz z h=>no h) (λz z z h=>no h) (λz z z z h=>no h) λps b sc p h =>
  dL h λh1 h2=>aT h2 λc h3 h4=>gW (C:=λa body scope=>∃ Hn pos,Expr.Lambda ps b sc p=.Lambda Hn body scope pos/\cO Hn=true/\Hn.args=[a]) h4 ⟨ps,p,rfl,h1,bZ h3⟩
noncomputable def BP (scope bw:Scope) (O:List (Str×Nat)) (nx:Nat) (x:Str):Bool :=
 scope.kind==.function && !scope.isGenerator && !scope.isCoroutine &&
 scope.names.all (λ(_,k)=>k==.local||k==.free||k==.globalImplicit) &&
 scope.names.all (λ(n,k)=>scope.names.lookup n==some k) &&
 scope.names.all (λ(n,k)=>k != .free||((bw.names.lookup n==some .cell||bw.names.lookup n==some .free)&&(O.lookup n).isSome)) &&
 scope.names.lookup x==some .local &&
 O.all (λ(_,i)=>decide (i<nx)) &&
 !eW scope
noncomputable def Kg:Const->Option Int
 | .int i=>some i
 | _=>none
noncomputable def Kh:CE->Option Nat
 | .var i=>some i
 | _=>none
noncomputable def z0 (cx:cp) (sc:Scope) (O:List (Str×Nat)):Nat->Expr->Option KX
 | 0,_=>none
 | n+1,e=>match e with
  | .Name x _=>(sr cx sc O x).bind λc=>(Kh c).bind λi=>some (.var i)
  | .Constant c _ _=>(Kg c).bind λi=>some (.num i)
  | .Subscript v i _=>(z0 cx sc O n v).bind λa=>(z0 cx sc O n i).bind λb=>some (.idx a b)
  | .Tuple es _ _=>(two es).bind λp=>(z0 cx sc O n p.1).bind λa=>(z0 cx sc O n p.2).bind λb=>some (.pair a b)
  | _=>none
noncomputable def LM:gb->Bool
 | .ex _=>true
 | .rng1 _=>true
 | _=>false
noncomputable def MB (fI:Expr->Option gb) (cx:cp) (sc:Scope) (O:List (Str×Nat)) (nx:Nat) (as:List Expr) (k:Keyword):Option CE :=
 (lh as).bind λx=>(G6 k.value).bind λq=>if k.arg==some ("key" : Str)&&eW sc&&BP q.2.2 sc O nx q.1.arg then
  (fI x).bind λit=>if LM it then (z0 cx q.2.2 (bN q.2.2 O nx [q.1.arg]) 50 q.2.1).bind λkx=>some (.sortK it nx kx) else none else none
noncomputable def Ax (f:Expr->Option CE) (sk:List Expr->Keyword->Option CE) (cx:cp) (sc:Scope) (fn:Expr) (as:List Expr) (ks:List Keyword) (pos:Pos):Option CE:=match fn with
 | .Name g _=>if bh sc g then (match ks with
  | []=>nP f cx sc g as
  | k::ks=>if ks.isEmpty then (if g==("sorted" : Str) then sk as k else none) else none) else none
 | .Attribute o m ap=>if ks.isEmpty&&vY o&&ap.endLine==pos.line then (wA m as.length).bind λp=>(f o).bind λa=>(bY f as).bind λcs=>some (.meth p a cs) else none
 | _=>none
noncomputable def P8 (F:Scope->List (Str×Nat)->Nat->Expr->Option CE) (fI:Expr->Option gb) (sc:Scope) (O:List (Str×Nat)) (nx:Nat) (elt:Expr) (px:List Comprehension) (scope:Scope):Option CE :=
 (lh px).bind λgn=>if gn.is_async==0&&qN scope sc O nx (a9 gn.target) then
  (fI gn.iter).bind λit=>(eU (gU scope sc) (bN scope O nx (a9 gn.target)) gn.target).bind λt =>
  (bY (F (gU scope sc) (bN scope O nx (a9 gn.target)) (nx+2)) gn.ifs).bind λcs=>(F (gU scope sc) (bN scope O nx (a9 gn.target)) (nx+2) elt).bind λc =>
  if kP it t then some (.comp c t it cs) else none
 else none
noncomputable def kC:Expr->Option (Str×List Expr):=Gs none n1 n1 (λfn as ks=>if ks.isEmpty then (cS fn).bind λg=>some (g,as) else none) n3
theorem jA {e:Expr} {g:Str} {as:List Expr} (h:kC e=some (g,as)):∃ p q,e=.Call (.Name g p) as [] q :=
 Kv (C:=λe=>∃ p q,e=.Call (.Name g p) as [] q) h (λz z h=>no h) (λz z z h=>no h) (λfn P6 ks q h=>dL h λh1 h2=>aT h2 λx h3 h4 =>
  cU (C:=λg as=>∃ p q',Expr.Call fn P6 ks q=.Call (.Name g p) as [] q') h4 ((bq h3).elim λp e=>⟨p,q,by rw[e,UQ.mp h1]⟩)) λz z z z h=>no h
noncomputable def AC (f:Expr->Option CE):List Expr->Option gb
 | []=>none
 | a::r=>(f a).bind λx=>match r with
  | []=>some (.rng1 x)
  | b::r=>(f b).bind λy=>match r with
   | []=>some (.rng2 x y)
   | c::r=>(f c).bind λz=>if r.isEmpty then some (.rng3 x y z) else none
noncomputable def yg (f:Expr->Option CE) (e:Expr):Option gb:=(f e).bind λc=>some (.ex c)
noncomputable def HY (f:Expr->Option CE) (g:Str) (as:List Expr) (e:Expr):Option gb :=
 if g==("range" : Str) then AC f as
 else if g==("zip" : Str) then (two as).bind λp=>(f p.1).bind λx=>(f p.2).bind λy=>some (.zip x y)
 else if g==("enumerate" : Str) then (lh as).bind λa=>(f a).bind λx=>some (.enm x)
 else yg f e
noncomputable def zZ (f:Expr->Option CE) (cx:cp) (sc:Scope) (e:Expr):Option gb:=match kC e with
 | some p=>if bh sc p.1&&(gw cx p.1).isNone then HY f p.1 p.2 e else yg f e
 | none=>yg f e
noncomputable def uO (F:Scope->List (Str×Nat)->Nat->Expr->Option CE) (fI:Expr->Option gb) (cx:cp) (sc:Scope) (O:List (Str×Nat)) (nx:Nat):Expr->Option CE
 | .Constant c _ _=>(uN c).bind λv=>some (.cst v)
 | .Name x _=>sr cx sc O x
 | .BinOp l op r _=>(F sc O nx l).bind λa=>(F sc O nx r).bind λb=>some (.bin op a b)
 | .UnaryOp op x _=>(F sc O nx x).bind (Qa op)
 | .BoolOp op vs _=>sh (F sc O nx) op vs
 | .IfExp t a b _=>(F sc O nx t).bind λx=>(F sc O nx a).bind λy=>(F sc O nx b).bind λz=>some (.ite x y z)
 | .Compare l ops rs _=>Km (F sc O nx) l ops rs
 | .List es _=>(bY (F sc O nx) es).bind λcs=>some (.list cs)
 | .Tuple es _ _=>(bY (F sc O nx) es).bind λcs=>some (.tuple cs)
 | .Dict ks vs _=>if ks.isEmpty&&vs.isEmpty then some .dict0 else none
 | .Subscript v i _=>Kp (F sc O nx) v i
 | .Call fn as ks pos=>Ax (F sc O nx) (MB fI cx sc O nx) cx sc fn as ks pos
 | .ListComp elt px scope _=>P8 F fI sc O nx elt px scope
 | .Attribute o a _=>if a==("word" : Str)&&(cS o).isSome then (F sc O nx o).bind λc=>some (.word c) else none
 | _=>none
noncomputable def bR (cx:cp):Nat->Scope->List (Str×Nat)->Nat->Expr->Option CE
 | 0,_,_,_,_=>none
 | n+1,sc,O,nx,e=>uO (bR cx n) (λi=>zZ (bR cx n sc O nx) cx sc i) cx sc O nx e
noncomputable def si (cx:cp) (n:Nat) (sc:Scope) (O:List (Str×Nat)) (nx:Nat) (e:Expr):Option gb:=zZ (bR cx n sc O nx) cx sc e
noncomputable def P9 (Q:Expr->Option CE) (cx:cp) (sc:Scope) (O:List (Str×Nat)):Expr->Option CE
 | .Constant c _ _=>(uN c).bind λv=>some (.cst v)
 | .Name x _=>sr cx sc O x
 | .UnaryOp op x _=>(Q x).bind (Qa op)
 | .BoolOp op vs _=>sh Q op vs
 | .List es _=>(bY Q es).bind λcs=>some (.list cs)
 | .Attribute o a _=>if a==("word" : Str)&&(cS o).isSome then (Q o).bind λc=>some (.word c) else none
 | .Call fn as ks _=>(cS fn).bind λg=>if ks.isEmpty&&bh sc g then (match gw cx g with
  | some k=>if as.isEmpty || !cx.calm.contains k then none else (bY Q as).bind λcs=>some (.call k cs)
  | none=>if g==("isinstance" : Str) then HW Q sc as else none) else none
 | _=>none
noncomputable def cQ (cx:cp) (sc:Scope) (O:List (Str×Nat)):Nat->Expr->Option CE
 | 0,_=>none
 | n+1,e=>P9 (cQ cx sc O n) cx sc O e
noncomputable def Ko (f:Expr->Option CE) (B:List Stmt->Option fJ):Stmt->Option CS
 | .If t a b _=>(f t).bind λx=>(B a).bind λy=>(B b).bind λz=>some (.ite x y z)
 | .Return v _=>v.bind λe=>(f e).bind λc=>some (.ret c)
 | _=>none
noncomputable def cX (S:Stmt->Option CS):List Stmt->Option fJ
 | []=>some .nil
 | s::r=>(S s).bind λa=>(cX S r).bind λb=>some (.cons a b)
noncomputable def DC (cx:cp) (sc:Scope) (O:List (Str×Nat)):Nat->Stmt->Option CS
 | 0,_=>none
 | n+1,s=>Ko (cQ cx sc O n) (cX (DC cx sc O n)) s
noncomputable def xw (o:Option Expr):Option (Str×Expr):=o.bind (Gs none n1 n1 (λfn as ks=>if ks.isEmpty then (cS fn).bind λx=>(lh as).bind λe=>some (x,e) else none) n3)
theorem rE {o:Option Expr} {x:Str} {e:Expr} (h:xw o=some (x,e)):∃ p q,o=some (.Call (.Name x p) [e] [] q) :=
 aT h λc h0 h=>Kv (C:=λc=>o=some c->∃ p q,o=some (.Call (.Name x p) [e] [] q)) h (λk k h=>no h) (λk k k h=>no h) (λfn as ks q h h0=>dL h λh1 h2=>aT h2 λy h3 h4=>aT h4 λz h5 h6 =>
  cU (C:=λx e=>∃ p q,o=some (.Call (.Name x p) [e] [] q)) h6 ((bq h3).elim λp e=>⟨p,q,by rw[h0,e,UQ.mp h1,bZ h5]⟩)) (λk k k k h=>no h) h0
noncomputable def PQ:(st:Stmt)->Option {e:Expr // ∃ p,st=.Return (some e) p}
 | .Return v p=>match v with
  | some e=>some ⟨e,p,rfl⟩
  | none=>none
 | _=>none
noncomputable def Bn (x:Str) (n:Str) (b:List Stmt) (l:List ExceptHandler):Prop:=∃ p q,l=[.ExceptHandler (some (.Name x p)) (some n) b q]
noncomputable def Bg (l:List ExceptHandler):Option (Str×Str×List Stmt):=(lh l).bind λh=>match h with
 | .ExceptHandler t n b _=>t.bind λt=>(cS t).bind λx=>n.bind λn=>some (x,n,b)
theorem sQ {l:List ExceptHandler} {x n:Str} {b:List Stmt} (h:Bg l=some (x,n,b)):∃ p q,l=[.ExceptHandler (some (.Name x p)) (some n) b q]:=by
 refine aT h λa h1 h2=>?_
 cases a with | ExceptHandler t m c q =>
 refine aT h2 λt' h3 h4=>aT h4 λy h5 h6=>aT h6 λm' h7 h8=>?_
 exact gW (C:=λx n b=>Bn x n b l) h8 ((bq h5).elim λp e=>⟨p,q,by rw[bZ h1,h3,h7,e]⟩)
noncomputable def vv:Expr->Bool:=Gs false (λz=>false) (λz=>true) (λz z z=>false) (λz z z=>false)
noncomputable def NG (f:Expr->Option CE) (sc:Scope) (O:List (Str×Nat)) (t v:Expr):Option CS:=match t with
 | .Name x p=>(eU sc O (.Name x p)).bind λt=>(f v).bind λa=>some (.assign t a)
 | .Tuple ts k p=>if vv v then none else (eU sc O (.Tuple ts k p)).bind λt=>(f v).bind λa=>some (.assign t a)
 | .Subscript o i _=>(f o).bind λa=>(f i).bind λb=>(f v).bind λc=>some (.setItem a b c)
 | _=>none
noncomputable def fN.isStep:fN->Bool
 | .append=>true
 | .extend=>true
 | _=>false
noncomputable def Gi (c:CE):Option CS:=match c with
 | .meth m o as=>if m.isStep then some (.expr (.meth m o as)) else none
 | _=>none
noncomputable def NI (f:Expr->Option CE) (e:Expr):Option CS:=match e with
 | .Call fn as ks p=>(f (.Call fn as ks p)).bind Gi
 | _=>none
noncomputable def AE (f:Expr->Option CE) (fI:Expr->Option gb) (B KE:List Stmt->Option fJ) (sc:Scope) (O:List (Str×Nat)):Stmt->Option CS
 | .Assign ts v _=>(lh ts).bind λt=>NG f sc O t v
 | .Expr e _=>NI f e
 | .If t a b _=>(f t).bind λx=>(B a).bind λy=>(B b).bind λz=>some (.ite x y z)
 | .For t it body oS _=>if oS.isEmpty then (eU sc O t).bind λx=>(fI it).bind λy=>(B body).bind λz=>if kP y x then some (.for_ x y z) else none else none
 | .Return v _=>v.bind λe=>(f e).bind λc=>some (.ret c)
 | .Raise exc Gj _=>if Gj.isNone then (xw exc).bind λp=>if bh sc p.1 then (fQ.lookup p.1).bind λc=>if c==1||c==2 then (f p.2).bind λa=>some (.raise_ c a) else none else none else none
 | .Try body hs oS gJ _=>if oS.isEmpty&&gJ.isEmpty then (Bg hs).bind λq=>if bh sc q.1&&q.1==("LarderError" : Str) && !q.2.2.isEmpty&&(sc.names.lookup q.2.1==some .local) then (pd sc O q.2.1).bind λi=>(lh body).bind λst=>(PQ st).bind λe=>(f e.1).bind λa=>(KE q.2.2).bind λy=>some (.try_ (.cons (.ret a) .nil) i y) else none else none
 | _=>none
noncomputable def pQ (cx:cp) (sc:Scope) (O:List (Str×Nat)) (nx:Nat):Nat->Stmt->Option CS
 | 0,_=>none
 | n+1,s=>AE (bR cx n sc O nx) (si cx n sc O nx) (cX (pQ cx sc O nx n)) (cX (DC cx sc O n)) sc O s
noncomputable def cZ (sc:Scope):List (Str×Nat):=((sc.names.filter λ(_,k)=>k==.local||k==.cell).map (·.1)).zipIdx
noncomputable def uQ (cx:cp) (params:Arguments) (sc:Scope) (body:List Stmt):Option bj :=
  let O:=cZ sc
  let as:=params.args
  if cO params&&sc.kind==.function && !sc.isGenerator && !sc.isCoroutine &&
   sc.names.all (λ(n,k)=>sc.names.lookup n==some k&&(k==.local||k==.cell||k==.globalImplicit)) &&
   decide (as.map (·.arg)=(O.map (·.1)).take as.length)&&decide ((O.map (·.1)).Nodup) then
   (cX (pQ cx sc O O.length 200) body).bind λb=>some ⟨as.length,b⟩
  else none
end Lar
set_option backward.match.sparseCases true
namespace Lar
open PySem PyProof.Rows
structure G where
 prog:Program
 w:World
 B:Heap
 fr:List Env
 tabs:List (Str×Addr)
 cls:Nat->Addr
noncomputable def iM (o:Obj):Prop:=(o.cls=.type "tuple" /\ ∃ ca n,o.data=.seq ca n)\/(o.cls=.type "code" /\ ∃ vs,o.data=.fields vs)
structure DP (o:Obj):Prop where
 seq:∀ ca n,o.data≠.seq ca n
 dict:∀ es ep,o.data≠.dict es ep
 code:o.cls=.type "code" -> ∀ vs,o.data≠.fields vs
noncomputable def fj (h:Heap) (b:Addr) (o:Obj):Prop:=h.get? b=some o\/((∃ es ep,o.data=.dict es ep)/\∃ sl,h.get? b=some {o with slots:=sl})
theorem fj.of {h:Heap} {b:Addr} {o:Obj} (x:fj h b o) (hd:∀ es ep,o.data≠.dict es ep):h.get? b=some o:=by
 rcases x with x | ⟨⟨es,ep,x⟩,_⟩
 ·exact x
 ·exact absurd x (hd es ep)
theorem fj.seq {h:Heap} {b:Addr} {o:Obj} {ca:Array Value} {n:Nat} (x:fj h b o) (hd:o.data=.seq ca n):h.get? b=some o:=x.of (λes ep q=>nomatch hd.symm.trans q)
theorem fj.hard {h:Heap} {b:Addr} {o:Obj} (x:fj h b o) (hd:iM o):h.get? b=some o:=by
 rcases hd with ⟨_,ca,n,hd⟩ | ⟨_,vs,hd⟩
 ·exact x.seq hd
 ·exact x.of (λes ep q=>nomatch hd.symm.trans q)
theorem fj.live {h:Heap} {b:Addr} {o:Obj} (x:fj h b o):∃ o',h.get? b=some o':=by
 rcases x with x | ⟨_,sl,x⟩
 ·exact⟨o,x⟩
 ·exact⟨_,x⟩
theorem fj.then {h' uq:Heap} {b:Addr} {o:Obj} (x:fj h' b o) (y:∀ o',h'.get? b=some o'->fj uq b o'):fj uq b o:=by
 rcases x with x | ⟨hd,sl,x⟩
 ·exact y o x
 ·rcases y _ x with y | ⟨_,PS,y⟩
  ·exact .inr ⟨hd,sl,y⟩
  ·exact .inr ⟨hd,PS,y⟩
theorem fj.ns {h h':Heap} {a:Addr} {m:Str->Option Value} (hn:h.Ns a m) (x:∀ o,h.get? a=some o->fj h' a o):h'.Ns a m:=by
 refine qU hn λo es ep ho hd r=>?_
 rcases x o ho with y | ⟨_,sl,y⟩
 ·exact⟨o,es,ep,y,hd,r⟩
 ·exact⟨_,es,ep,y,hd,r⟩
mutual
inductive VR (g:G) (J:List Addr) (h:Heap):V->Value->Prop
 | none:VR g J h .none .none
 | bool (b:Bool):VR g J h (.bool b) (.bool b)
 | int (i:Int) (t:Tok):VR g J h (.int i) (.int i t)
 | str (x:Str) (t:Tok):VR g J h (.str x) (.str x t)
 | tup {l:List V} {a:Addr} {vs:List Value}:h.IsTuple a vs.toArray->l.length<=ar+1->bi g J h l vs->a∉J->VR g J h (.tup l) (.ref a)
 | ref {n:Nat} {a:Addr}:J[n]? = some a->VR g J h (.ref n) (.ref a)
 | ro {ns:List Int} {a:Addr} {vs:List Value}:g.B.IsList a vs.toArray->ns.length<=ar+1->IntsAre vs ns->VR g J h (.ro ns) (.ref a)
inductive bi (g:G) (J:List Addr) (h:Heap):List V->List Value->Prop
 | nil:bi g J h [] []
 | cons {v:V} {a:Value} {l:List V} {vs:List Value}:VR g J h v a->bi g J h l vs->bi g J h (v::l) (a::vs)
end
theorem VR.el {g:G} {J:List Addr} {h:Heap} {C:V->Value->Prop} {v:V} {a:Value} (x:VR g J h v a) (none:C .none .none) (bool:∀ b,C (.bool b) (.bool b)) (int:∀ i t,C (.int i) (.int i t)) (str:∀ x t,C (.str x) (.str x t))
  (tup:∀ l a vs,h.IsTuple a (Xg vs)->l.length<=ar+1->bi g J h l vs->a∉J->C (.tup l) (.ref a)) (ref:∀ n a,J[n]? = some a->C (.ref n) (.ref a)) (ro:∀ ns a vs,g.B.IsList a (Xg vs)->ns.length<=ar+1->IntsAre vs ns->C (.ro ns) (.ref a)):C v a :=
 VR.casesOn (motive_1:=λv a z=>C v a) x none bool int str (λh1 h2 h3 h4=>tup _ _ _ h1 h2 h3 h4) (λh1=>ref _ _ h1) λh1 h2 h3=>ro _ _ _ h1 h2 h3
inductive MR (g:G) (J:List Addr) (h:Heap):aZ->Addr->Prop
 | lst {l:List V} {a:Addr} {vs:List Value}:h.PlainList a vs.toArray->l.length<=ar+1->bi g J h l vs->MR g J h (.lst l) a
 | ds {l:List (Str×V)} {a:Addr} {kvs:List (Str×Value)}:h.DictOf (strKind g.prog g.w) a kvs->kvs.map (·.1)=l.map (·.1)->bi g J h (l.map (·.2)) (kvs.map (·.2))->MR g J h (.ds l) a
 | own {a:Addr} {x y:Value}:h.get? a=some {cls:=.type "tuple", data:=.seq #[x,y]}->MR g J h .own a
 | wd {w:Str} {a:Addr} {m:Str->Option Value} {t:Tok}:h.Ns a m->m ("word" : Str)=some (.str w t)->MR g J h (.wd w) a
 | exn {c d:Nat} {a D:Addr} {o:Obj} {vs:Array Value}:h.get? a=some o->o.cls=.ref (g.cls c)->o.data=.fields vs->o.dict=some D->J[d]? = some D->MR g J h (.exn c d) a
 | tab {q:Str} {a:Addr} {ps:Array Value}:h.get? a=some {cls:=.none,data:=.fields ps}->TriplesOk ps.toList->(∀ pos cv,codeAmong pos ps.toList=some cv->∃ c' o vs t,cv=.ref c'/\c'∉J/\h.get? c'=some o/\o.cls=.type "code" /\ o.data=.fields vs/\vs[1]? = some (.str (q ++ "<lambda>") t))->MR g J h (.tab q) a
theorem MR.el {g:G} {J:List Addr} {h:Heap} {C:aZ->Prop} {m:aZ} {a:Addr} (x:MR g J h m a) (lst:∀ l vs,h.PlainList a (Xg vs)->l.length<=ar+1->bi g J h l vs->C (.lst l))
  (ds:∀ l kvs,h.DictOf (strKind g.prog g.w) a kvs->kvs.map (·.1)=l.map (·.1)->bi g J h (l.map (·.2)) (kvs.map (·.2))->C (.ds l))
  (own:∀ x y,h.get? a=some {cls:=.type "tuple", data:=.seq #[x,y]}->C .own) (wd:∀ w m t,h.Ns a m->m ("word" : Str)=some (.str w t)->C (.wd w)) (exn:∀ c d D o vs,h.get? a=some o->o.cls=.ref (g.cls c)->o.data=.fields vs->o.dict=some D->J[d]? = some D->C (.exn c d))
  (tab:∀ q ps,h.get? a=some {cls:=.none,data:=.fields ps}->TriplesOk ps.toList->(∀ pos cv,codeAmong pos ps.toList=some cv->∃ c' o vs t,cv=.ref c'/\c'∉J/\h.get? c'=some o/\o.cls=.type "code" /\ o.data=.fields vs/\vs[1]? = some (.str (q ++ "<lambda>") t))->C (.tab q)):C m:=by
 cases x with
 | lst h1 h2 h3=>exact lst _ _ h1 h2 h3
 | ds h1 h2 h3=>exact ds _ _ h1 h2 h3
 | own h1=>exact own _ _ h1
 | wd h1 h2=>exact wd _ _ _ h1 h2
 | exn h1 h2 h3 h4 h5=>exact exn _ _ _ _ _ h1 h2 h3 h4 h5
 | tab h1 h2 h3=>exact tab _ _ h1 h2 h3
structure ak (g:G) (J:List Addr) (H:ag) (h:Heap):Prop where
 base:∀ b o,g.B.get? b=some o->h.get? b=some o
 fresh:∀ a∈J,g.B.get? a=none
 len:J.length=H.length
 nodup:J.Nodup
 objs:∀ (i:Nat) (a:Addr) (m:aZ),J[i]? = some a->H[i]? = some m->MR g J h m a
 tabs:∀ (j:Nat) (q:Str) (P:Addr),g.tabs[j]? = some (q,P)->J[j]? = some P/\H[j]? = some (.tab q)
structure cD (ms:Addr->Prop) (J:List Addr) (h:Heap) (aO:List Addr) (h':Heap):Prop where
 pres:∀ b o,h.get? b=some o->¬ ms b->fj h' b o
 dom:∀ b o,h.get? b=some o->∃ o',h'.get? b=some o'
 ext:∃ t,aO=J++t/\∀ a∈t,h.get? a=none
theorem cD.refl (ms:Addr->Prop) (J:List Addr) (h:Heap):cD ms J h J h :=
 ⟨λz z e z=>.inl e,λz o e=>⟨o,e⟩,[],(Uu _).symm,λz ha=>(nomatch ha)⟩
theorem cD.pre {ms:Addr->Prop} {J aO:List Addr} {h h':Heap} (x:cD ms J h aO h') {n:Nat} {a:Addr} (e:J[n]? = some a):aO[n]? = some a:=by
 refine aB x.ext λt q2 z=>?_;apply aV q2
 have hn:n<J.length:=(J'.mp e).1
 rw[Ut hn];exact e
theorem cD.notin {ms:Addr->Prop} {J aO:List Addr} {h h':Heap} (x:cD ms J h aO h') {b:Addr} {o:Obj} (e:h.get? b=some o) (hb:b∉J):b∉aO:=by
 refine aB x.ext λt q2 ht=>?_;apply aV q2
 intro hm
 refine Ug (Uk.mp hm) (λhm=>?_) (λhm=>?_)
 ·exact hb hm
 ·rw[ht b hm] at e;exact no e
theorem cD.trans {ms L5 IZ:Addr->Prop} {J aO um:List Addr} {h h' uq:Heap} (x:cD ms J h aO h') (y:cD L5 aO h' um uq)
  (h1:∀ b o,h.get? b=some o->¬ IZ b->¬ ms b) (h2:∀ b o,h.get? b=some o->¬ IZ b->¬ L5 b):cD IZ J h um uq:=by
 refine⟨λb o e hb=>(x.pres b o e (h1 b o e hb)).then λo' e'=>y.pres b o' e' (h2 b o e hb),λb o e=>?_,?_⟩
 ·refine N' (x.dom b o e) λo' e'=>?_
  exact y.dom b o' e'
 ·refine aB x.ext λt q2 ht=>?_;subst q2
  refine aB y.ext λu q2 hu=>?_;apply aV q2
  refine⟨t++u,by simp,λa ha=>?_⟩
  refine Ug (Uk.mp ha) (λha=>?_) (λha=>?_)
  ·exact ht a ha
  ·cases e:h.get? a with
   | none=>rfl
   | some o =>
    refine N' (x.dom a o e) λo' e'=>?_
    rw[hu a ha] at e';exact no e'
noncomputable abbrev SE (J:List Addr) (h:Heap) (aO:List Addr) (h':Heap):Prop:=cD (λb=>b∈J) J h aO h'
theorem SE.trans {J aO um:List Addr} {h h' uq:Heap} (x:SE J h aO h') (y:SE aO h' um uq):SE J h um uq :=
 cD.trans x y (λz z z hb=>hb) λz z e hb=>x.notin e hb
theorem SE.refl (J:List Addr) (h:Heap):SE J h J h:=cD.refl _ _ _
theorem oO {α:Type} {l:List α} (hn:l.Nodup) {i j:Nat} {a:α} (hi:l[i]? = some a) (hj:l[j]? = some a):i=j:=by
 refine N' (J'.mp hi) λh1 e1=>?_
 refine N' (J'.mp hj) λh2 e2=>?_
 have hp:=Wm.mp hn
 rcases Nat.lt_trichotomy i j with h | h | h
 ·exact absurd (e1.trans e2.symm) (hp i j h1 h2 h)
 ·exact h
 ·exact absurd (e2.trans e1.symm) (hp j i h2 h1 h)
theorem pC:(Value.type "list" : Value)≠.type "tuple" := by decide
theorem lZ {o:Obj} (hc:o.cls=.type "list"):¬ iM o:=by
 rintro (⟨h,_⟩ | ⟨h,_⟩) <;> rw[hc] at h <;> exact absurd h (by decide)
theorem pZ {o:Obj} {es:Array DictEntry} {ep:Nat} (hd:o.data=.dict es ep):¬ iM o:=by
 rintro (⟨_,_,_,h⟩ | ⟨_,_,h⟩) <;> exact nomatch hd.symm.trans h
theorem pY {prog:Program} {w:World} {ZF:Type} [DecidableEq ZF] {knd:KeyKind prog w ZF} {h h':Heap} {a:Addr} {kvs:List (ZF×Value)} (x:h.DictOf knd a kvs) (hk:∀ o,h.get? a=some o->h'.get? a=some o):h'.DictOf knd a kvs :=
 AT x λo es ep r=>⟨o,es,ep,hk o r.1,r.2⟩
theorem MR.live {g:G} {J:List Addr} {h:Heap} {m:aZ} {a:Addr} (x:MR g J h m a):∃ o,h.get? a=some o:=by
 apply MR.el x
 case lst =>
  intro _ _ hl _ _
  refine N' hl λn ho=>?_
  exact⟨_,ho⟩
 case ds =>
  intro _ _ hd _ _
  refine qU hd λo z z ho hc z=>?_
  exact⟨o,ho⟩
 case own=>intro _ _ ho;exact⟨_,ho⟩
 case wd =>
  intro _ _ _ hn _
  refine mQ hn λo z z ho z=>?_
  exact⟨o,ho⟩
 case exn=>intro _ _ _ _ _ ho _ _ _ _;exact⟨_,ho⟩
 case tab=>intro _ _ ho _ _;exact⟨_,ho⟩
theorem ak.live {g:G} {J:List Addr} {H:ag} {h:Heap} (R:ak g J H h) {a:Addr} (ha:a∈J):∃ o,h.get? a=some o:=by
 obtain ⟨i,hi,rfl⟩:=VT.mp ha
 have h1:J[i]? = some J[i]:=Ue hi
 have gf:i<H.length:=R.len ▸ hi
 have h2:H[i]? = some H[i]:=Ue gf
 exact (R.objs i _ _ h1 h2).live
theorem VR.stepT {g:G} {J aO:List Addr} {h h':Heap} (hp:∀ (n:Nat) (a:Addr),J[n]? = some a->aO[n]? = some a) (S:∀ b o,h.get? b=some o->iM o->b∉J->h'.get? b=some o/\b∉aO) {v:V} {a:Value} (x:VR g J h v a):VR g aO h' v a :=
 VR.rec (motive_1:=λv a z=>VR g aO h' v a) (motive_2:=λl vs z=>bi g aO h' l vs) .none .bool .int .str (λht hz z hn ih=>by
  refine ew ht λo ho hc r=>?_
  have k:=S _ _ ho (.inl ⟨hc,_,r⟩) hn
  exact .tup ⟨o,k.1,hc,r⟩ hz ih k.2) (λe=>.ref (hp _ _ e)) .ro .nil (λz z h1 h2=>.cons h1 h2) x
theorem bi.stepT {g:G} {J aO:List Addr} {h h':Heap} (hp:∀ (n:Nat) (a:Addr),J[n]? = some a->aO[n]? = some a) (S:∀ b o,h.get? b=some o->iM o->b∉J->h'.get? b=some o/\b∉aO) {l:List V} {vs:List Value} (x:bi g J h l vs):bi g aO h' l vs:=by
 induction l generalizing vs with
 | nil=>cases x;exact .nil
 | cons v l ih=>cases x with | cons hv hr=>exact .cons (hv.stepT hp S) (ih hr)
theorem VR.step {g:G} {J aO:List Addr} {H:ag} {h h':Heap} (R:ak g J H h) (S:SE J h aO h') {v:V} {a:Value} (x:VR g J h v a):VR g aO h' v a:=x.stepT (λz z e=>S.pre e) λz z e hh hn=>⟨(S.pres _ _ e hn).hard hh,S.notin e hn⟩
theorem bi.step {g:G} {J aO:List Addr} {H:ag} {h h':Heap} (R:ak g J H h) (S:SE J h aO h') {l:List V} {vs:List Value} (x:bi g J h l vs):bi g aO h' l vs:=x.stepT (λz z e=>S.pre e) λz z e hh hn=>⟨(S.pres _ _ e hn).hard hh,S.notin e hn⟩
theorem bi.nilE {g:G} {J:List Addr} {h:Heap} {vs:List Value} (x:bi g J h [] vs):vs=[]:=by cases x;rfl
theorem bi.consE {g:G} {J:List Addr} {h:Heap} {v:V} {l:List V} {vs:List Value} {C:Prop} (x:bi g J h (v::l) vs) (k:∀ a us,vs=a::us->VR g J h v a->bi g J h l us->C):C:=by
 cases x with
 | cons h1 h2=>exact k _ _ rfl h1 h2
theorem bi.length {g:G} {J:List Addr} {h:Heap} {l:List V} {vs:List Value} (x:bi g J h l vs):l.length=vs.length:=by
 induction l generalizing vs with
 | nil=>cases x;rfl
 | cons v l ih=>cases x with | cons hv hr=>exact congrArg (· + 1) (ih hr)
theorem bi.append {g:G} {J:List Addr} {h:Heap} {l:List V} {vs:List Value} {m:List V} {ws:List Value} (x:bi g J h l vs) (y:bi g J h m ws):bi g J h (l++m) (vs++ws):=by
 induction l generalizing vs with
 | nil=>cases x;exact y
 | cons v l ih=>cases x with | cons hv hr=>exact .cons hv (ih hr)
theorem bi.get {g:G} {J:List Addr} {h:Heap} {v:V} {l:List V}:∀ {vs:List Value} {i:Nat},bi g J h l vs->l[i]? = some v->∃ a,vs[i]? = some a/\VR g J h v a:=by
 induction l with
 | nil=>exact λz e=>no (e)
 | cons w l ih =>
  intro vs i x e
  refine x.consE λa us q hv hr=>?_
  rw[q]
  cases i with
  | zero=>exact⟨a,rfl,Option.some.inj e ▸ hv⟩
  | succ i=>exact (ih (i:=i) hr e:∃ b,us[i]? = some b/\VR g J h v b)
theorem bi.set {g:G} {J:List Addr} {h:Heap} {v:V} {a:Value} (x:VR g J h v a) {l:List V}:∀ {vs:List Value} (i:Nat),bi g J h l vs->bi g J h (l.set i v) (vs.set i a):=by
 induction l with
 | nil=>intro vs i y;rw[y.nilE];exact .nil
 | cons w l ih =>
  intro vs i y
  refine y.consE λb us q hv hr=>?_
  rw[q]
  cases i with
  | zero=>exact .cons x hr
  | succ i=>exact .cons hv (ih i hr)
theorem bi.one {g:G} {J:List Addr} {h:Heap} {v:V} {a:Value} (x:VR g J h v a):bi g J h [v] [a]:=.cons x .nil
theorem bi.take {g:G} {J:List Addr} {h:Heap} {l:List V}:∀ {vs:List Value} (i:Nat),bi g J h l vs->bi g J h (l.take i) (vs.take i):=by
 induction l with
 | nil=>intro vs i y;rw[y.nilE,Zr,Zr];exact .nil
 | cons w l ih =>
  intro vs i y
  refine y.consE λb us q hv hr=>?_
  rw[q]
  cases i with
  | zero=>exact .nil
  | succ i=>exact .cons hv (ih i hr)
theorem bi.drop {g:G} {J:List Addr} {h:Heap} {l:List V}:∀ {vs:List Value} (i:Nat),bi g J h l vs->bi g J h (l.drop i) (vs.drop i):=by
 induction l with
 | nil=>intro vs i y;rw[y.nilE,YF,YF];exact .nil
 | cons w l ih =>
  intro vs i y
  cases i with
  | zero=>exact y
  | succ i=>exact y.consE λb us q hv hr=>q ▸ ih i hr
theorem MR.step {g:G} {J aO:List Addr} {H:ag} {h h':Heap} (R:ak g J H h) (S:SE J h aO h') {m:aZ} {a:Addr} (x:MR g J h m a) (ha:∀ o,h.get? a=some o->h'.get? a=some o):MR g aO h' m a:=by
 apply MR.el x
 case lst=>intro _ _ hl hz hv;exact .lst (hl.at ha) hz (hv.step R S)
 case ds=>intro _ _ hd he hv;exact .ds (pY hd ha) he (hv.step R S)
 case own=>intro _ _ ho;exact .own (ha _ ho)
 case wd=>intro _ _ _ hn hw;exact .wd (let ⟨o,es,ep,ho,r⟩:=hn;⟨o,es,ep,ha _ ho,r⟩) hw
 case exn=>intro _ _ _ _ _ ho h1 h2 h3 h4;exact .exn (ha _ ho) h1 h2 h3 (S.pre h4)
 case tab =>
  intro _ _ ho ht hc
  exact .tab (ha _ ho) ht λpos cv e=>by
   refine NX (hc pos cv e) λc' o vs t e1 e2 e3 e4 e5 e6=>?_
   exact⟨c',o,vs,t,e1,S.notin e3 e2,(S.pres _ _ e3 e2).hard (.inr ⟨e4,vs,e5⟩),e4,e5,e6⟩
theorem MR.stepT {g:G} {J aO:List Addr} {h h':Heap} (hp:∀ (n:Nat) (a:Addr),J[n]? = some a->aO[n]? = some a) (S:∀ b o,h.get? b=some o->iM o->b∉J->h'.get? b=some o/\b∉aO) {m:aZ} {a:Addr} (x:MR g J h m a) (ha:∀ o,h.get? a=some o->h'.get? a=some o):MR g aO h' m a:=by
 apply MR.el x
 case lst=>intro _ _ hl hz hv;exact .lst (hl.at ha) hz (hv.stepT hp S)
 case ds=>intro _ _ hd he hv;exact .ds (pY hd ha) he (hv.stepT hp S)
 case own=>intro _ _ ho;exact .own (ha _ ho)
 case wd=>intro _ _ _ hn hw;exact .wd (let ⟨o,es,ep,ho,r⟩:=hn;⟨o,es,ep,ha _ ho,r⟩) hw
 case exn=>intro _ _ _ _ _ ho h1 h2 h3 h4;exact .exn (ha _ ho) h1 h2 h3 (hp _ _ h4)
 case tab =>
  intro _ _ ho ht hc
  exact .tab (ha _ ho) ht λpos cv e=>by
   refine NX (hc pos cv e) λc' o vs t e1 e2 e3 e4 e5 e6=>?_
   have k:=S _ _ e3 (.inr ⟨e4,vs,e5⟩) e2
   exact⟨c',o,vs,t,e1,k.2,k.1,e4,e5,e6⟩
theorem ak.keeps {g:G} {J:List Addr} {H:ag} {h h':Heap} (R:ak g J H h) (hk:∀ b o,h.get? b=some o->h'.get? b=some o):ak g J H h':=by
 have S:SE J h J h':=⟨λb o e z=>.inl (hk b o e),λb o e=>⟨o,hk b o e⟩,[],(Uu _).symm,λz ha=>(nomatch ha)⟩
 exact⟨λb o e=>hk b o (R.base b o e),R.fresh,R.len,R.nodup,λi a m h1 h2=>(R.objs i a m h1 h2).step R S λo e=>hk _ o e,R.tabs⟩
theorem SE.keeps (J:List Addr) {h h':Heap} (hk:∀ b o,h.get? b=some o->h'.get? b=some o):SE J h J h' :=
 ⟨λb o e z=>.inl (hk b o e),λb o e=>⟨o,hk b o e⟩,[],(Uu _).symm,λz ha=>(nomatch ha)⟩
theorem ak.other {g:G} {J:List Addr} {H:ag} {h h':Heap} {L:Addr} (R:ak g J H h) (hL:L∉J) (hB:g.B.get? L=none)
  (hk:∀ b o,b≠L->h.get? b=some o->h'.get? b=some o) (ht:∀ o,h.get? L=some o->¬ iM o):ak g J H h':=by
 refine⟨λb o e=>hk b o (by rintro rfl;rw[hB] at e;exact no e) (R.base b o e),R.fresh,R.len,R.nodup,λi a m h1 h2=>?_,R.tabs⟩
 have Sb:a≠L:=by rintro rfl;exact hL (Ui h1)
 refine (R.objs i a m h1 h2).stepT (λz z e=>e) (λb o e hs hn=>⟨hk b o ?_ e,hn⟩) λo e=>hk _ o Sb e
 rintro rfl
 exact ht o e hs
theorem ak.tabsOn {g:G} {J t:List Addr} {H u:ag} {h:Heap} (R:ak g J H h) {j:Nat} {q:Str} {P:Addr} (hj:g.tabs[j]? = some (q,P)):(J++t)[j]? = some P/\(H++u)[j]? = some (.tab q):=by
 refine aR (R.tabs j q P hj) λh1 h2=>?_
 exact⟨by rw[Ut (J'.mp h1).1];exact h1,by rw[Ut (J'.mp h2).1];exact h2⟩
theorem ak.more {g:G} {J:List Addr} {H:ag} {h:Heap} {a:Addr} {m:aZ} (R:ak g J H h) (ha:a∉J) (hB:g.B.get? a=none) (hm:MR g J h m a) (hT:∀ o,h.get? a=some o->¬ iM o):ak g (J++[a]) (H++[m]) h:=by
 have up:∀ {m:aZ} {b:Addr},MR g J h m b->MR g (J++[a]) h m b:=λx =>
  x.stepT (λn b e=>by rw[Ut (J'.mp e).1];exact e) (λb o e hc hn=>⟨e,λhm=>by
   refine Ug (Uk.mp hm) (λhm=>?_) (λhm=>?_)
   ·exact hn hm
   ·simp at hm;subst hm;exact hT o e hc⟩) λz e=>e
 refine⟨R.base,λb hb=>?_,by simp [R.len],?_,λi b m' h1 h2=>?_,λj q P hj=>R.tabsOn hj⟩
 ·refine Ug (Uk.mp hb) (λhb=>?_) (λhb=>?_)
  ·exact R.fresh b hb
  ·apply aV (O'.mp hb);exact hB
 ·rw[X3]
  refine⟨R.nodup,by simp,λx hx y hy=>?_⟩
  apply aV (O'.mp hy)
  rintro rfl;exact ha hx
 ·by_cases hi:i<J.length
  ·rw[Ut hi] at h1
   rw[Ut (R.len ▸ hi)] at h2
   exact up (R.objs i b m' h1 h2)
  ·have gf:i=J.length:=by
    have:=(J'.mp h1).1
    simp at this;exact U3 (Vx this) (UK.mp hi)
   subst gf
   simp at h1
   rw[R.len] at h2;simp at h2
   apply ez h1;subst h2
   exact up hm
theorem ak.moreOwn {g:G} {J:List Addr} {H:ag} {a6 h:Heap} {a:Addr} {x y:Value} (R:ak g J H a6) (hk:∀ b o,a6.get? b=some o->h.get? b=some o) (h0:a6.get? a=none) (hB:g.B.get? a=none) (ho:h.get? a=some {cls:=.type "tuple", data:=.seq #[x,y]}) :
  ak g (J++[a]) (H++[.own]) h/\SE J a6 (J++[a]) h:=by
 have vn:a∉J:=λhm=>by refine N' (R.live hm) λo' e=>?_;rw[h0] at e;exact no e
 have S:SE J a6 (J++[a]) h:=⟨λb o e z=>.inl (hk b o e),λb o e=>⟨o,hk b o e⟩,[a],rfl,λb hb=>by apply aV (O'.mp hb);exact h0⟩
 refine⟨⟨λb o e=>hk b o (R.base b o e),λb hb=>?_,by simp [R.len],?_,λi b m' h1 h2=>?_,λj q P hj=>R.tabsOn hj⟩,S⟩
 ·refine Ug (Uk.mp hb) (λhb=>?_) (λhb=>?_)
  ·exact R.fresh b hb
  ·simp at hb;apply aV hb;exact hB
 ·rw[X3]
  refine⟨R.nodup,by simp,λx hx y hy=>?_⟩
  apply aV (O'.mp hy)
  rintro rfl;exact vn hx
 ·by_cases hi:i<J.length
  ·rw[Ut hi] at h1
   rw[Ut (R.len ▸ hi)] at h2
   exact (R.objs i b m' h1 h2).step R S λo e=>hk _ o e
  ·have gf:i=J.length:=by
    have:=(J'.mp h1).1
    simp at this;exact U3 (Vx this) (UK.mp hi)
   subst gf
   simp at h1
   rw[R.len] at h2;simp at h2
   apply ez h1;subst h2
   exact .own ho
theorem ak.put {g:G} {J:List Addr} {H:ag} {h h':Heap} {a:Addr} {r:Nat} {m B9:aZ} (R:ak g J H h) (hr:J[r]? = some a) (a6:H[r]? = some B9)
  (hs:∀ b o,b≠a->h.get? b=some o->h'.get? b=some o) (hm:MR g J h' m a) (Iw:∀ q,B9=.tab q->m=.tab q):ak g J (H.set r m) h':=by
 have mZ:a∈J:=Ui hr
 refine⟨λb o e=>hs b o (by rintro rfl;rw[R.fresh _ mZ] at e;exact no e) (R.base b o e),R.fresh,by simp [R.len],R.nodup,λi b m' h1 h2=>?_,λj q P hj=>?_⟩
 rotate_left
 ·refine aR (R.tabs j q P hj) λh1 h2=>?_
  refine⟨h1,?_⟩
  by_cases hjr:r=j
  ·subst hjr
   rw[Xh (J'.mp a6).1,Iw q (sm (a6.symm.trans h2))]
  ·rw[Wr hjr];exact h2
 by_cases hi:i=r
 ·subst hi
  apply ez (sm ((hr).symm.trans h1))
  rw[Xh (J'.mp a6).1] at h2
  cases h2
  exact hm
 ·rw[Wr (Ne.symm hi)] at h2
  have hb:b≠a:=by
   rintro rfl
   exact hi (oO R.nodup h1 hr)
  refine (R.objs i b m' h1 h2).stepT (λz z e=>e) (λc o e hc hn=>⟨hs c o ?_ e,hn⟩) λo e=>hs _ o hb e
  rintro rfl
  exact hn mZ
theorem SE.put {J:List Addr} {h h':Heap} {a:Addr} (ha:a∈J) (hs:Heap.SameBut a h h') (hd:∃ o,h'.get? a=some o):SE J h J h' :=
 ⟨λb o e hb=>.inl (hs.extBut b o (by rintro rfl;exact hb ha) e),λb o e=>by
  by_cases hb:b=a
  ·apply aV hb;exact hd
  ·exact⟨o,hs.extBut b o hb e⟩,[],(Uu _).symm,λz hm=>(nomatch hm)⟩
noncomputable def bz (s s':Shared):Prop:=s'.gens=s.gens/\s'.drawn=s.drawn/\s'.os=s.os
theorem bz.refl (s:Shared):bz s s:=⟨rfl,rfl,rfl⟩
theorem bz.trans {s s' mD:Shared} (x:bz s s') (y:bz s' mD):bz s mD:=⟨y.1.trans x.1,y.2.1.trans x.2.1,y.2.2.trans x.2.2⟩
noncomputable def bB (g:G) (J:List Addr) (s:Shared) (v:V) (af:ag) (a:Value) (s':Shared):Prop :=
 ∃ aO,SE J s.heap aO s'.heap/\ak g aO af s'.heap/\VR g aO s'.heap v a/\bz s s'
noncomputable def Nj (g:G) (J:List Addr) (s:Shared) (l:List V) (af:ag) (vs:List Value) (s':Shared):Prop :=
 ∃ aO,SE J s.heap aO s'.heap/\ak g aO af s'.heap/\bi g aO s'.heap l vs/\bz s s'
noncomputable def DX (g:G) (J:List Addr) (s:Shared) (b:Bool) (af:ag) (b':Bool) (s':Shared):Prop :=
 b'=b/\∃ aO,SE J s.heap aO s'.heap/\ak g aO af s'.heap/\bz s s'
end Lar
namespace Lar
open PySem PyProof.Rows PySem.Calls
noncomputable def HI (g:G) (q:Str) (cd:Value):Prop:=∃ (j:Nat) (c P:Addr) (KE:Heap),g.tabs[j]? = some (q,P)/\cd=.ref c/\KE.IsCode c P #[]/\KE.TableAt c P #[]/\∀ o,KE.get? c=some o->g.B.get? c=some o
noncomputable def J7 (g:G) (Z:Env):Prop:=HI g Z.qual Z.code
noncomputable def pj (g:G) (J:List Addr) (h:Heap):Prop:=∀ e∈g.fr,e.scope.kind≠.module/\∃ L o es ep,e.frame=some L/\h.get? L=some o/\o.data=.dict es ep/\L∉J/\g.B.get? L=none
theorem pj.to {g:G} {J aO:List Addr} {h h':Heap} (x:pj g J h) (hd:∀ L o es ep,h.get? L=some o->o.data=.dict es ep->L∉J->(∃ o' H7 H5,h'.get? L=some o'/\o'.data=.dict H7 H5)/\L∉aO):pj g aO h':=λe he=>by
 obtain ⟨h1,L,o,es,ep,h2,h3,h4,h5,h6⟩:=x e he
 refine aR (hd L o es ep h3 h4 h5) λk8 k3=>?_;refine mQ k8 λo' H7 H5 k1 k2=>?_
 exact⟨h1,L,o',H7,H5,h2,k1,k2,k3,h6⟩
theorem fj.isD {h:Heap} {b:Addr} {o:Obj} {es:Array DictEntry} {ep:Nat} (x:fj h b o) (hd:o.data=.dict es ep):∃ o' H7 H5,h.get? b=some o'/\o'.data=.dict H7 H5:=by
 rcases x with x | ⟨_,sl,x⟩
 ·exact⟨o,es,ep,x,hd⟩
 ·exact⟨_,es,ep,x,hd⟩
structure dR (g:G) (J:List Addr) (Z:Env) (O:List (Str×Nat)) (K:aN) (h:Heap):Prop where
 kind:Z.scope.kind=.function
 glob:Z.globals=mainGlobals
 blt:Z.builtins=builtinsNs
 ns:∃ m,h.Ns Z.locals m/\∀ x i v,O.lookup x=some i->Z.kindOf x=some .local->K i=some v->∃ a,m x=some a/\VR g J h v a
 cells:∀ x i,O.lookup x=some i->(Z.kindOf x=some .cell\/Z.kindOf x=some .free)->∃ c u,Z.cells.lookup x=some c/\h.IsCell c u/\∀ v,K i=some v->∃ a,u=some a/\VR g J h v a
 locN:Z.locals∉J
 locB:g.B.get? Z.locals=none
 cellF:∀ x c,Z.cells.lookup x=some c->(∃ u,h.IsCell c u)/\c∉J/\c≠Z.locals/\g.B.get? c=none
 cellI:∀ x y c,Z.cells.lookup x=some c->Z.cells.lookup y=some c->x=y
 slots:∀ x y i,O.lookup x=some i->O.lookup y=some i->x=y
 tab:eW Z.scope=true->J7 g Z
 stk:pj g J h
noncomputable def FM (J:List Addr) (Z:Env) (b:Addr):Prop:=b∈J\/b=Z.locals\/∃ x,Z.cells.lookup x=some b
noncomputable def NM (Z:Env) (x:Str) (b:Addr):Prop:=b=Z.locals\/Z.cells.lookup x=some b
theorem Ns.noSeq {h:Heap} {L:Addr} {m:Str->Option Value} (hn:h.Ns L m):∀ o,h.get? L=some o->¬ iM o:=by
 refine qU hn λo' es ep ho hd z=>?_
 rintro o e (⟨_,_,_,q⟩ | ⟨_,_,q⟩)
 ·rw[ho] at e;cases e;exact nomatch hd.symm.trans q
 ·rw[ho] at e;cases e;exact nomatch hd.symm.trans q
theorem Ad.noSeq {h:Heap} {c:Addr} {u:Option Value} (hc:h.IsCell c u):∀ o,h.get? c=some o->¬ iM o:=by
 refine aB hc λo' ho hd=>?_
 rintro o e (⟨_,_,_,q⟩ | ⟨_,_,q⟩)
 ·rw[ho] at e;cases e;exact nomatch hd.symm.trans q
 ·rw[ho] at e;cases e;exact nomatch hd.symm.trans q
section
variable {g:G} {J aO:List Addr} {H af:ag} {Z:Env} {O:List (Str×Nat)} {K:aN} {h h':Heap}
theorem dR.step (F:dR g J Z O K h) (R:ak g J H h) (S:SE J h aO h'):dR g aO Z O K h':=by
 refine aB F.ns λm hn hm=>?_
 have s8:∀ c,c∉J->∀ u,h.IsCell c u->h'.IsCell c u:=λc hc u x=>by
  refine aB x λo ho hd=>?_
  exact⟨o,(S.pres _ _ ho hc).of (λes ep q=>nomatch hd.symm.trans q),hd⟩
 refine⟨F.kind,F.glob,F.blt,⟨m,?_,λx i v a b c=>?_⟩,λx i a b=>?_,?_,F.locB,λx c e=>?_,F.cellI,F.slots,F.tab,F.stk.to λL o es ep h1 h2 h3=>⟨(S.pres _ _ h1 h3).isD h2,S.notin h1 h3⟩⟩
 ·exact fj.ns hn λo e=>S.pres _ _ e F.locN
 ·refine aB (hm x i v a b c) λy h1 h2=>?_
  exact⟨y,h1,h2.step R S⟩
 ·refine kF (F.cells x i a b) λc u h1 h2 h3=>?_
  refine⟨c,u,h1,s8 c (F.cellF x c h1).2.1 u h2,λv hv=>?_⟩
  refine aB (h3 v hv) λy h4 h5=>?_
  exact⟨y,h4,h5.step R S⟩
 ·refine mQ hn λo es ep ho r=>?_
  exact S.notin ho F.locN
 ·refine yo (F.cellF x c e) λk9 h1 h2 h3=>?_;refine N' k9 λu hu=>?_
  refine⟨⟨u,s8 c h1 u hu⟩,?_,h2,h3⟩
  refine aB hu λo ho hd=>?_
  exact S.notin ho h1
noncomputable def Ra (g:G) (J:List Addr) (Z:Env) (O:List (Str×Nat)) (s:Shared) (aS:aN) (af:ag) (s':Shared):Prop :=
 ∃ aO,cD (FM J Z) J s.heap aO s'.heap/\ak g aO af s'.heap/\dR g aO Z O aS s'.heap/\bz s s'
theorem cD.ofSE (S:SE J h aO h') (Z:Env):cD (FM J Z) J h aO h':=⟨λb o e hb=>S.pres b o e λx=>hb (.inl x),S.dom,S.ext⟩
theorem FM.trans {J aO um:List Addr} {h h' uq:Heap} {Z:Env} (x:cD (FM J Z) J h aO h') (y:cD (FM aO Z) aO h' um uq):cD (FM J Z) J h um uq :=
 cD.trans x y (λk k k hb=>hb) λb o e hb q=>by
  refine Ug q (λq=>?_) (λq=>?_)
  ·exact x.notin e (λz=>hb (.inl z)) q
  ·exact hb (.inr q)
end
section
variable {g:G} {A:Around} {E:Value->Shared->Prop} {J:List Addr} {H:ag} {Z:Env} {O:List (Str×Nat)} {K:aN} {s:Shared}
theorem eM {x:Str} {i:Nat} {v:V} {a:Value} {Q:Unit->Shared->Prop} (F:dR g J Z O K s.heap) (R:ak g J H s.heap) (hx:O.lookup x=some i)
  (hk:Z.kindOf x=some .local\/Z.kindOf x=some .cell) (hv:VR g J s.heap v a)
  (h:∀ h' tk,cD (NM Z x) J s.heap J h'->ak g J H h'->dR g J Z O (cn K i v) h'->(∀ {v:V} {a:Value},VR g J s.heap v a->VR g J h' v a)->Q () {s with heap:=h',toks:=tk}) :
  wpAny (model g.prog g.w) A (storeName Z x a) Q E s:=by
 refine aB F.ns λm hn hm=>?_
 refine Ug hk (λhk=>?_) (λhk=>?_)
 ·refine wpAny_storeName_local hk hn (λh' j7 lE=>?_) (by rw[F.kind];rfl)
  have noSeq:=Ns.noSeq hn
  have kp:∀ b o,b≠Z.locals->s.heap.get? b=some o->h'.get? b=some o:=λb o hb e=>lE.extBut b o hb e
  have up:∀ {v:V} {a:Value},VR g J s.heap v a->VR g J h' v a:=λx=>x.stepT (λk k e=>e) λb o e Bu hn=>⟨kp b o (by rintro rfl;exact noSeq o e Bu) e,hn⟩
  refine h h' _ ⟨λb o e hb=>.inl (kp b o (λx=>hb (.inl x)) e),λb o e=>?_,[],(Uu _).symm,λk hm=>(nomatch hm)⟩ (R.other F.locN F.locB kp noSeq) ?_ up
  ·by_cases hb:b=Z.locals
   ·apply aV hb
    refine mQ j7 λo' k k kM k=>?_
    exact⟨o',kM⟩
   ·exact⟨o,kp b o hb e⟩
  ·refine⟨F.kind,F.glob,F.blt,⟨_,j7,λy j w' hy rl hj=>?_⟩,λy j hy rl=>?_,F.locN,F.locB,λy c e=>?_,F.cellI,F.slots,F.tab,F.stk.to λL o es ep h1 h2 h3=>⟨?_,h3⟩⟩
   rotate_right
   ·by_cases hb:L=Z.locals
    ·refine qU j7 λo' H7 H5 kM i7 k=>?_
     exact⟨o',H7,H5,hb ▸ kM,i7⟩
    ·exact⟨o,es,ep,kp L o hb h1,h2⟩
   ·by_cases By:y=x
    ·subst By
     rw[hx] at hy;cases hy
     simp only[cn,if_true] at hj;cases hj
     exact⟨a,by simp,up hv⟩
    ·have sU:j≠i:=λe=>By (F.slots y x i (e ▸ hy) hx)
     simp only[cn,if_neg sU] at hj
     refine aB (hm y j w' hy rl hj) λz h1 h2=>?_
     exact⟨z,by simp [By,h1],up h2⟩
   ·have By:y≠x:=by rintro rfl;rw[hk] at rl;rcases rl with q | q <;> cases q
    have sU:j≠i:=λe=>By (F.slots y x i (e ▸ hy) hx)
    refine kF (F.cells y j hy rl) λc u h1 h2 h3=>?_
    refine⟨c,u,h1,?_,λw' hw=>?_⟩
    ·refine aB h2 λo ho hd=>?_
     exact⟨o,kp c o (F.cellF y c h1).2.2.1 ho,hd⟩
    ·simp only[cn,if_neg sU] at hw
     refine aB (h3 w' hw) λz h4 h5=>?_
     exact⟨z,h4,up h5⟩
   ·refine yo (F.cellF y c e) λER h1 h2 h3=>?_;refine gA ER λu o ho hd=>?_
    exact⟨⟨u,o,kp c o h2 ho,hd⟩,h1,h2,h3⟩
 ·refine kF (F.cells x i hx (.inl hk)) λc u hc Ie k=>?_
  refine yo (F.cellF x c hc) λk On Sk vd=>?_
  refine wpAny_storeName_cell F.kind hk hc Ie λh' dK lE=>?_
  have noSeq:=Ad.noSeq Ie
  have kp:∀ b o,b≠c->s.heap.get? b=some o->h'.get? b=some o:=λb o hb e=>lE.extBut b o hb e
  have up:∀ {v:V} {a:Value},VR g J s.heap v a->VR g J h' v a:=λx=>x.stepT (λk k e=>e) λb o e Bu hn=>⟨kp b o (by rintro rfl;exact noSeq o e Bu) e,hn⟩
  refine h h' _ ⟨λb o e hb=>.inl (kp b o (λy=>hb (.inr (y ▸ hc))) e),λb o e=>?_,[],(Uu _).symm,λk hm=>(nomatch hm)⟩ (R.other On vd kp noSeq) ?_ up
  ·by_cases hb:b=c
   ·apply aV hb
    refine aB dK λo' kM k=>?_
    exact⟨o',kM⟩
   ·exact⟨o,kp b o hb e⟩
  ·refine⟨F.kind,F.glob,F.blt,⟨m,?_,λy j w' hy rl hj=>?_⟩,λy j hy rl=>?_,F.locN,F.locB,λy d e=>?_,F.cellI,F.slots,F.tab,F.stk.to λL o es ep h1 h2 h3=>⟨⟨o,es,ep,kp L o ?_ h1,h2⟩,h3⟩⟩
   rotate_right
   ·rintro rfl
    refine aB Ie λo' kM i7=>?_
    rw[h1] at kM;cases kM
    exact nomatch h2.symm.trans i7
   ·refine mQ hn λo es ep ho r=>?_
    exact⟨o,es,ep,kp _ o (Ne.symm Sk) ho,r⟩
   ·have By:y≠x:=by rintro rfl;rw[hk] at rl;cases rl
    have sU:j≠i:=λe=>By (F.slots y x i (e ▸ hy) hx)
    simp only[cn,if_neg sU] at hj
    refine aB (hm y j w' hy rl hj) λz h1 h2=>?_
    exact⟨z,h1,up h2⟩
   ·by_cases By:y=x
    ·subst By
     apply ez (sm ((hx).symm.trans hy))
     refine⟨c,some a,hc,dK,λw' hw=>?_⟩
     simp only[cn,if_true] at hw;cases hw
     exact⟨a,rfl,up hv⟩
    ·have sU:j≠i:=λe=>By (F.slots y x i (e ▸ hy) hx)
     refine kF (F.cells y j hy rl) λd u' h1 h2 h3=>?_
     have ML:d≠c:=λe=>By (F.cellI y x c (e ▸ h1) hc)
     refine⟨d,u',h1,?_,λw' hw=>?_⟩
     ·refine aB h2 λo ho hd=>?_
      exact⟨o,kp d o ML ho,hd⟩
     ·simp only[cn,if_neg sU] at hw
      refine aB (h3 w' hw) λz h4 h5=>?_
      exact⟨z,h4,up h5⟩
   ·refine yo (F.cellF y d e) λES h1 h2 h3=>?_;refine gA ES λu' o ho hd=>?_
    by_cases ML:d=c
    ·subst ML
     exact⟨⟨_,dK⟩,h1,h2,h3⟩
    ·exact⟨⟨u',o,kp d o ML ho,hd⟩,h1,h2,h3⟩
end
structure Fn where
 name:Str
 addr:Addr
 params:Arguments
 body:List Stmt
 scope:Scope
noncomputable def iV:List Value:=[.type "ValueError", .type "Exception", .type "BaseException", .type "object"]
noncomputable def ge:List Str:=["__module__", "__firstlineno__", "__init__", "__static_attributes__", "__weakref__", "__doc__"]
structure fy (h:Heap) (C:Addr) (tl:List Value) (mN:Str->Option Value):Prop where
 obj:∃ N O q bs sub k0 k1 k2 k3 k5,h.get? C=some (excClassObj O q C N bs tl true [] sub false none none k0 k1 k2 k3 k5 "ValueError.__new__")/\h.Ns N mN
 quiet:∀ n,n∉ge->mN n=none
noncomputable def IP (fd:FuncData):Prop:=∃ p1 p2 p3 p4,fd.body=.stmts [.Assign [.Attribute (.Name ("self" : Str) p1) ("word" : Str) p2] (.Name ("word" : Str) p3) p4]
structure J3 (o:Obj) (fd:FuncData) (a1 a2:Arg):Prop where
 cls:o.cls=.type "function"
 data:o.data=.func fd
 init:IP fd
 params:fd.params=⟨[],[a1,a2],none,[],[],none,[]⟩
 n1:a1.arg=("self" : Str)
 n2:a2.arg=("word" : Str)
 names:fd.scope.names=[(("self" : Str),NameKind.local),(("word" : Str),NameKind.local)]
 kind:fd.scope.kind=.function
 gen:fd.scope.isGenerator=false
 co:fd.scope.isCoroutine=false
 gl:fd.globals=mainGlobals
 clo:fd.closure=[]
 df:fd.defaults=.none
 bl:fd.builtins=builtinsNs
structure gm (h:Heap) (f:Addr):Prop where
 ex:∃ o fd a1 a2,h.get? f=some o/\J3 o fd a1 a2/\h.CodeRec fd.code fd.qualname
structure Nk (g:G) (mg:Str->Option Value):Prop where
 n0:mg ("LarderError" : Str)=some (.ref (g.cls 0))
 n1:mg ("TooMuch" : Str)=some (.ref (g.cls 1))
 n2:mg ("Short" : Str)=some (.ref (g.cls 2))
 c0:∃ mN f,fy g.B (g.cls 0) iV mN/\mN ("__init__" : Str)=some (.ref f)/\gm g.B f
 c1:∃ mN,fy g.B (g.cls 1) (.ref (g.cls 0)::iV) mN/\mN ("__init__" : Str)=none
 c2:∃ mN,fy g.B (g.cls 2) (.ref (g.cls 0)::iV) mN/\mN ("__init__" : Str)=none
 ap:g.cls 1≠g.cls 2/\g.cls 1≠g.cls 0/\g.cls 2≠g.cls 0
structure er (g:G) (cx:cp) (fs:List Fn) (mg mb:Str->Option Value):Prop where
 gns:g.B.Ns mainGlobals mg
 bns:g.B.Ns builtinsNs mb
 nolimit:g.B.NoLimit
 sys:∃ o,g.B.get? sysModules=some o
 prims:∀ x∈dO,mg x=none/\mb x=bootBuiltins x
 consts:∀ x i,cx.consts.lookup x=some i->∃ t,mg x=some (.int i t)
 names:fs.map (·.name)=cx.funs
 made:∀ f∈fs,mg f.name=some (.ref f.addr)/\∃ o pm cd doc,g.B.get? f.addr=some o/\o.data=.func (docDef f.name f.params f.body f.scope pm cd doc)/\g.B.CodeRec cd f.name
 bmain:∃ bm ob,mg ("__builtins__" : Str)=some (.ref bm)/\bm≠builtinsNs/\g.B.get? bm=some ob/\ob.cls=.type "module" /\ ob.dict=some builtinsNs/\ob.data=.plain
 exc:Nk g mg
 tab:∀ f∈fs,∀ o fd,g.B.get? f.addr=some o->o.data=.func fd->HI g (fd.qualname ++ ".<locals>.") fd.code
section
variable {g:G} {cx:cp} {fs:List Fn} {mg mb:Str->Option Value} {A:Around} {E:Value->Shared->Prop} {J:List Addr} {H:ag} {Z:Env} {O:List (Str×Nat)} {K:aN} {s:Shared}
theorem gO {x:Str} {pos:Pos} {v:Value} {Q:Value->Shared->Prop} (G:er g cx fs mg mb) (F:dR g J Z O K s.heap) (R:ak g J H s.heap) (hx:Z.kindOf x=some .globalImplicit) (hd:(x==("__debug__" : Str))=false)
  (hv:mg x=some v) (h:Q v s):wpAny (model g.prog g.w) A (eval (.Name x pos) Z) Q E s :=
 Name_function_global F.kind hx (loadGlobal_global (by rw[F.glob];exact G.gns.keeps R.base) hv h) hd
theorem cF {x:Str} {pos:Pos} {v:Value} {Q:Value->Shared->Prop} (G:er g cx fs mg mb) (F:dR g J Z O K s.heap) (R:ak g J H s.heap) (hx:Z.kindOf x=some .globalImplicit) (hd:(x==("__debug__" : Str))=false)
  (hp:x∈dO) (hv:bootBuiltins x=some v) (h:Q v s):wpAny (model g.prog g.w) A (eval (.Name x pos) Z) Q E s :=
 Name_function_global F.kind hx (loadGlobal_builtin (by rw[F.glob];exact G.gns.keeps R.base) (G.prims x hp).1 (by rw[F.blt];exact G.bns.keeps R.base) ((G.prims x hp).2.trans hv) h) hd
noncomputable def aM (g:G) (A:Around) (Z:Env) (O:List (Str×Nat)) (e:Expr) (m:aN->ag->Option (V×ag)):Prop :=
 ∀ K H v af,m K H=some (v,af)->∀ J s,ak g J H s.heap->dR g J Z O K s.heap->∀ E,wpAny (model g.prog g.w) A (eval e Z) (bB g J s v af) E s
noncomputable def eR (g:G) (A:Around) (Z:Env) (O:List (Str×Nat)) (e:Expr) (m:aN->ag->Option (Bool×ag)):Prop :=
 ∀ K H b af,m K H=some (b,af)->∀ J s,ak g J H s.heap->dR g J Z O K s.heap->∀ E,wpAny (model g.prog g.w) A (isTrue e Z (eval e Z)) (DX g J s b af) E s
theorem bB.here {v:V} {a:Value} {tk:Nat} (R:ak g J H s.heap) (hv:VR g J s.heap v a):bB g J s v H a {s with toks:=tk} :=
 ⟨J,SE.refl _ _,R,hv,rfl,rfl,rfl⟩
theorem vu:∀ {k:NameKind},BD k=true->k=.local\/k=.cell\/k=.free:=λ{k} h=>by
 cases k <;> first | exact .inl rfl | exact .inr (.inl rfl) | exact .inr (.inr rfl) | cases h
set_option tactic.hygienic true in
theorem o5 {x:Str} {pos:Pos} {c:CE} {call:aw} (G:er g cx fs mg mb) (hc:sr cx Z.scope O x=some c):aM g A Z O (.Name x pos) (ab call c):=by
 intro K H v af he J s R F E
 unfold sr at hc
 split at hc
 ·exact no hc
 ·rename_i hd
  simp only[Vn,not_or,Y4] at hd
  refine aT hc λk hk hc=>?_
  by_cases hl:BD k=true
  ·rw[if_pos hl] at hc
   refine aT hc λi hi hc=>?_
   obtain rfl:=sm hc
   refine aB (ob he) λv' lF he=>?_
   apply cU he
   rcases vu hl with rfl | rfl | rfl
   ·refine aB F.ns λm hn hm=>?_
    refine aB (hm x i _ hi hk lF) λa h1 h2=>?_
    exact wpAny_Name (wpAny_loadName_local F.kind hk hn h1 (bB.here R h2)) hd.1
   ·refine kF (F.cells x i hi (.inl hk)) λcl u h1 h2 h3=>?_
    refine aB (h3 _ lF) λa q2 h4=>?_;subst q2
    exact wpAny_Name (wpAny_loadName_cell F.kind hk h1 h2 (bB.here R h4)) hd.1
   ·refine kF (F.cells x i hi (.inr hk)) λcl u h1 h2 h3=>?_
    refine aB (h3 _ lF) λa q2 h4=>?_;subst q2
    exact wpAny_Name (wpAny_loadName_free F.kind hk h1 h2 (bB.here R h4) hd.2) hd.1
  ·rw[if_neg hl] at hc
   refine dL hc λhg hc=>?_
   refine aT hc λi hi hc=>?_
   obtain rfl:=sm hc
   refine aR (nE he) λET LN=>?_;apply ez ET;apply ez LN
   refine N' (G.consts x i hi) λt ht=>?_
   rw[beq_iff_eq.mp hg] at hk
   exact gO G F R hk hd.1 ht (bB.here R (.int i t))
end
section
variable {g:G} {A:Around} {E:Value->Shared->Prop} {J:List Addr} {H:ag} {s:Shared}
theorem oP {α:Type} {x:Option α} (h:∀ o,x=some o->False):x=none:=by
 cases x with
 | none=>rfl
 | some o=>exact (h o rfl).elim
theorem gM {h:Heap} {T:Addr} (hs:h.objs.size<=T):h.get? T=none:=oP λo e=>UK.mpr hs (UU e)
theorem aD (h:Heap):h.get? h.objs.size=none:=gM (Un _)
theorem bB.newL {l:List V} {vs:List Value} {h':Heap} {D:Addr} {tk:Nat} (R:ak g J H s.heap) (hz:l.length<=ar+1) (hv:bi g J s.heap l vs) (hk:∀ b o,s.heap.get? b=some o->h'.get? b=some o)
  (hD:s.heap.get? D=none) (hl:h'.PlainList D vs.toArray):bB g J s (.ref H.length) (H++[.lst l]) (.ref D) {s with heap:=h',toks:=tk}:=by
 have R':ak g J H h':=R.keeps hk
 have S:SE J s.heap J h':=SE.keeps J hk
 have Bb:D∉J:=λx=>(R.live x).elim λo ho=>no (hD.symm.trans ho)
 have KF:g.B.get? D=none:=oP λo e=>no (hD.symm.trans (R.base D o e))
 refine⟨J++[D],⟨S.pres,S.dom,[D],rfl,λa ha=>?_⟩,R'.more Bb KF (.lst hl hz (hv.step R S)) (λo e=>by refine N' hl λn ho=>?_;rw[ho] at e;cases e;exact lZ rfl),.ref ?_,rfl,rfl,rfl⟩
 ·simp at ha;apply aV ha;exact hD
 ·rw[<-R.len];simp
theorem bB.newT {l:List V} {vs:List Value} {h':Heap} {D:Addr} {tk:Nat} (R:ak g J H s.heap) (hz:l.length<=ar+1) (hv:bi g J s.heap l vs) (hk:∀ b o,s.heap.get? b=some o->h'.get? b=some o)
  (hD:s.heap.get? D=none) (hl:h'.IsTuple D vs.toArray):bB g J s (.tup l) H (.ref D) {s with heap:=h',toks:=tk} :=
 have S:SE J s.heap J h':=SE.keeps J hk
 ⟨J,S,R.keeps hk,.tup hl hz (hv.step R S) (λx=>(R.live x).elim λo ho=>no (hD.symm.trans ho)),rfl,rfl,rfl⟩
theorem eV {h h':Heap} {D:Addr} (hk:∀ b o,h.get? b=some o->h'.get? b=some o) (hD:h'.get? D=none):h.get? D=none:=oP λo e=>no (hD.symm.trans (hk D o e))
theorem ak.list {r:Nat} {a:Addr} {l:List V} {h:Heap} (R:ak g J H h) (hr:J[r]? = some a) (hl:lst H r=some l):∃ vs,h.PlainList a vs.toArray/\bi g J h l vs/\l.length<=ar+1:=by
 have:=R.objs r a _ hr (oC hl)
 cases this with
 | lst h1 hz h2=>exact⟨_,h1,h2,hz⟩
theorem Jg {α:Type} (l:List α) (n:Nat):xx l n=(UL n l).flatten:=by
 induction n with
 | zero=>rfl
 | succ n ih=>simp [xx,XM,ih]
theorem bi.rep {h:Heap} {l:List V} {vs:List Value} (x:bi g J h l vs) (n:Nat):bi g J h (xx l n) (Lar.xx vs n):=by
 induction n with
 | zero=>exact .nil
 | succ n ih=>exact x.append ih
set_option tactic.hygienic true in
theorem wy {x:Int} (h:x.natAbs<18446744073709551616):Builtin.Int.intBits x<=64:=by
 unfold Builtin.Int.intBits
 split
 ·exact UJ _
 ·rename_i hx
  have h0:x.natAbs≠0:=by
   intro h'
   exact hx (by simpa using h')
  have:x.natAbs.log2<64:=(Nat.log2_lt h0).mpr h
  exact this
set_option tactic.hygienic true in
theorem vI {h:Heap} {x:V} {a:Value} {i:Int} (hi:pg x=some i) (hx:VR g J h x a):∃ t,a=.int i t:=by
 revert hi;apply VR.el hx
 case int=>intro j t hi;exact⟨t,by rw[sm hi]⟩
 all_goals (intros;rename_i hi;exact no hi)
set_option tactic.hygienic true in
theorem vB {h:Heap} {x:V} {a:Value} {i:Bool} (hi:HN x=some i) (hx:VR g J h x a):a=.bool i:=by
 revert hi;apply VR.el hx
 case bool=>intro j hi;rw[sm hi]
 all_goals (intros;rename_i hi;exact no hi)
set_option tactic.hygienic true in
theorem vS {h:Heap} {x:V} {a:Value} {i:Str} (hi:zY x=some i) (hx:VR g J h x a):∃ t,a=.str i t:=by
 revert hi;apply VR.el hx
 case str=>intro j t hi;exact⟨t,by rw[sm hi]⟩
 all_goals (intros;rename_i hi;exact no hi)
set_option tactic.hygienic true in
theorem vR {h:Heap} {x:V} {a:Value} {i:Nat} (hi:r9 x=some i) (hx:VR g J h x a):∃ c,a=.ref c/\J[i]? = some c:=by
 revert hi;apply VR.el hx
 case ref=>intro n c hr hi;exact⟨c,rfl,sm hi ▸ hr⟩
 all_goals (intros;rename_i hi;exact no hi)
theorem we {h:Heap} {x:V} {a:Value} {i:Int} {C:Value->Prop} (hi:pg x=some i) (hx:VR g J h x a) (k:∀ t,C (.int i t)):C a:=(vI hi hx).elim λt e=>aV e (k t)
theorem PX {h:Heap} {x:V} {a:Value} {i:Str} {C:Value->Prop} (hi:zY x=some i) (hx:VR g J h x a) (k:∀ t,C (.str i t)):C a:=(vS hi hx).elim λt e=>aV e (k t)
theorem Na {h:Heap} {x:V} {a:Value} {i:Nat} {C:Value->Prop} (hi:r9 x=some i) (hx:VR g J h x a) (k:∀ c,J[i]? = some c->C (.ref c)):C a:=(vR hi hx).elim λt e=>aV e.1 (k t e.2)
set_option tactic.hygienic true in
theorem vT {h:Heap} {x:V} {a:Value} {i:List V} (hi:uJ x=some i) (hx:VR g J h x a):∃ c vs,a=.ref c/\h.IsTuple c vs.toArray/\i.length<=ar+1/\bi g J h i vs/\c∉J:=by
 revert hi;apply VR.el hx
 case tup=>intro l c vs h1 h2 h3 h4 hi;rw[<-sm hi];exact⟨c,vs,rfl,h1,h2,h3,h4⟩
 all_goals (intros;rename_i hi;exact no hi)
theorem mK {h:Heap} {a:Addr} {vs:Array Value} (x:h.IsTuple a vs):∃ n d sl,h.get? a=some {cls:=.type "tuple", dict:=d,data:=.seq vs n,slots:=sl}:=by
 obtain ⟨⟨cls,d,data,sl⟩,ho,hc,n,hd⟩:=x
 simp only at hc hd
 subst hc hd
 exact⟨n,d,sl,ho⟩
theorem vG {h:Heap} {a:Addr} {vs:Array Value} (x:h.IsList a vs):∃ n d sl,h.get? a=some {cls:=.type "list", dict:=d,data:=.seq vs n,slots:=sl}:=by
 obtain ⟨⟨cls,d,data,sl⟩,ho,hc,n,hd⟩:=x
 simp only at hc hd
 subst hc hd
 exact⟨n,d,sl,ho⟩
theorem fG (h:Heap) (vs:Array Value):(h.push {cls:=.type "tuple", data:=.seq vs}).IsTuple h.objs.size vs:=⟨_,Uo _ rfl,rfl,_,rfl⟩
theorem s7 (h:Heap) (vs:Array Value):(h.push {cls:=.type "list", data:=.seq vs}).PlainList h.objs.size vs:=⟨_,Uo _ rfl⟩
theorem bi.nil_iff {h:Heap} {l:List V} {vs:List Value} (x:bi g J h l vs):vs=[]↔l=[]:=by
 cases x <;> simp
theorem jo {l:List V} {v:V} {af:ag} (h:m7 H l=some (v,af)):l.length<=sizeLine/\v=.tup l/\af=H:=by
 refine dL h λhz h=>?_
 apply cU h
 exact⟨hz,rfl,rfl⟩
theorem fX {l:List V} {v:V} {af:ag} (h:qk H l=some (v,af)):l.length<=sizeLine/\v=.ref H.length/\af=H++[.lst l]:=by
 refine dL h λhz h=>?_
 apply cU h
 exact⟨hz,rfl,rfl⟩
theorem D3 {l m:List V} {ta tb:Addr} {vs ws:List Value} (hz:(l++m).length<=sizeLine) (R:ak g J H s.heap) (ht:s.heap.IsTuple ta vs.toArray) (M4:l.length<=ar+1) (hv:bi g J s.heap l vs) (Iv:ta∉J) (hu:s.heap.IsTuple tb ws.toArray) (Ph:m.length<=ar+1) (hw:bi g J s.heap m ws) (GH:tb∉J) :
  wpAny (model g.prog g.w) A (binaryOp .Add (.ref ta) (.ref tb)) (bB g J s (.tup (l++m)) H) E s:=by
 have Pg:=UX hz
 refine AT (mK ht) λn1 d1 s1 o1=>?_
 refine AT (mK hu) λn2 d2 s2 o2=>?_
 rw[Ud,hv.length,hw.length] at hz
 by_cases e1:vs=[]
 ·refine PySem.concat_meets ⟨_,o1,rfl⟩ ⟨_,o2,rfl⟩ noFill_tuple_add seq_tuple_add PySem.F.slot_tuple_add PySem.F.entry_tuple_add (PySem.F.args_tuple_add_2 _ _)
   (tuple_addW0 _ _ vs.toArray ws.toArray n1 n2 d1 d2 s1 s2 (by simp [e1])) ⟨o1,o2,?_⟩
  have:l=[]:=hv.nil_iff.mp e1
  apply aV this
  exact bB.here (tk:=s.toks) R (.tup hu Ph hw GH)
 ·by_cases e2:ws=[]
  ·refine PySem.concat_meets ⟨_,o1,rfl⟩ ⟨_,o2,rfl⟩ noFill_tuple_add seq_tuple_add PySem.F.slot_tuple_add PySem.F.entry_tuple_add (PySem.F.args_tuple_add_2 _ _)
    (tuple_addW1 _ _ vs.toArray ws.toArray n1 n2 d1 d2 s1 s2 (by simpa using e1) (by simp [e2])) ⟨o1,o2,?_⟩
   have:m=[]:=hw.nil_iff.mp e2
   apply aV this
   rw[Uu]
   exact bB.here (tk:=s.toks) R (.tup ht M4 hv Iv)
  ·refine PySem.concat_meets ⟨_,o1,rfl⟩ ⟨_,o2,rfl⟩ noFill_tuple_add seq_tuple_add PySem.F.slot_tuple_add PySem.F.entry_tuple_add (PySem.F.args_tuple_add_2 _ _)
    (tuple_addW2 _ _ vs.toArray ws.toArray n1 n2 d1 d2 s1 s2 (by simpa using e1) (by simpa using e2) (by rw[UM,UM];exact hz)) ⟨o1,o2,?_⟩
   rw[show vs.toArray++ws.toArray=(vs++ws).toArray from by simp]
   exact bB.newT R Pg (hv.append hw) (λb o e=>G' _ e) (aD _) (fG _ _)
theorem E7 {i:Nat} {l:List V} {ta:Addr} {n:Int} {u:Tok} (hz:(xx l n.toNat).length<=sizeLine) (yz:0<=n) (yA:n<=100000) (Ll:l.length<=100) (R:ak g J H s.heap) (hi:J[i]? = some ta) (h1:lst H i=some l) :
  wpAny (model g.prog g.w) A (binaryOp .Mult (.ref ta) (.int n u)) (bB g J s (.ref H.length) (H++[.lst (xx l n.toNat)])) E s:=by
 have Pg:=UX hz
 refine ew (R.list hi h1) λvs hl hv z=>?_
 refine AT (vG hl.isList) λn1 d1 s1 o1=>?_
 have Tn:=hv.length
 have hs:vs.toArray.size * n.toNat<=10000000:=Nat.mul_le_mul (show vs.length<=100 from Tn ▸ Ll) (YS.mpr yA)
 have hf:Builtin.List.listFitsIndex n=true:=Up.mpr ⟨decide_eq_true (Uw (by decide) yz),decide_eq_true (V5 yA (by decide))⟩
 refine wpAny_binaryOp_repeat_ref (T := "list") (U := "int") (by decide) ⟨_,o1,rfl⟩ (λs'=>typeIs_int s' n u) noFill_list_mul PySem.F.fills_int_mul PySem.F.slot_int_rmul repeat_list PySem.F.slot_int_index.lookup
  (call_meets PySem.F.slot_int_rmul (typeIs_int s n u) PySem.F.entry_int_rmul (PySem.F.args_int_rmul_2 _ _) (lm_int_rmul_list_any n u _ vs.toArray n1 d1 s1)
   ⟨o1,rfl,⟨_,o1,rfl⟩,call_meets PySem.F.slot_list_mul ⟨_,o1,rfl⟩ PySem.F.entry_list_mul (PySem.F.args_list_mul_2 _ _)
    (lm_list_mul_any _ vs.toArray n1 d1 s1 n u (by rw[hf];exact Uq) (UK.mpr (B' hs (by decide))) (λh=>absurd (of_decide_eq_true h) (UK.mpr (B' hs (by decide)))))
    ⟨o1,?_⟩⟩)
 rw[listMul_foldl_if,show (vs.toArray.toList)=vs from rfl,<-Jg]
 exact bB.newL R Pg (hv.rep _) (λb o e=>G' _ e) (aD _) (s7 _ _)
theorem D2 {x y:V} {a b:Value} {v:V} {af:ag} (he:Gc x y H=some (v,af)) (R:ak g J H s.heap) (hx:VR g J s.heap x a) (hy:VR g J s.heap y b) :
  wpAny (model g.prog g.w) A (binaryOp .Add a b) (bB g J s v af) E s:=by
 revert he;apply VR.el hx
 case int =>
  intro i t he
  refine aT he λj hj he=>?_
  apply we hj hy;intro u
  apply cU he
  exact PyProof.Rows.add_int (bB.here R (.int _ _))
 case str =>
  intro p t he
  refine aT he λq hq he=>?_
  apply PX hq hy;intro u
  refine dL he λhz he=>?_
  apply cU he
  exact PyProof.Rows.add_str (λt' tk=>bB.here R (.str _ _)) hz
 case tup =>
  intro _ _ _ ht M4 hv Iv he
  refine aT he λm hm he=>?_
  refine H3 (vT hm hy) λtb ws q3 hu Ph hw GH=>?_;apply aV q3
  refine iK (jo he) λhz q2 q3=>?_;apply aV q2;apply aV q3
  exact D3 hz R ht M4 hv Iv hu Ph hw GH
 case ref=>intro _ _ _ he;exact no he
 case none=>intro he;exact no he
 case bool=>intro _ he;exact no he
 case ro=>intro _ _ _ _ _ _ he;exact no he
theorem E8 {x y:V} {a b:Value} {v:V} {af:ag} (he:Hc x y H=some (v,af)) (R:ak g J H s.heap) (hx:VR g J s.heap x a) (hy:VR g J s.heap y b) :
  wpAny (model g.prog g.w) A (binaryOp .Mult a b) (bB g J s v af) E s:=by
 refine aT he λn hn he=>?_
 apply we hn hy;intro u
 revert he;apply VR.el hx
 case int =>
  intro i t he
  refine dL he λhm he=>?_
  apply cU he
  refine PyProof.Rows.mul_int (bB.here R (.int _ _)) ?_
  simp only[mx,Vn,decide_eq_true_eq] at hm
  refine Ug hm (λhm=>?_) (λhm=>?_)
  ·exact IntMulOk.of_left (wy hm)
  ·exact IntMulOk.of_right (wy hm)
 case tup=>intro _ _ _ _ _ _ _ he;exact no he
 case ref =>
  intro _ _ hi he
  refine aT he λl hl he=>?_
  obtain ⟨⟨h1,h2,h3⟩,he⟩:=cy he
  refine iK (fX he) λhz q2 q3=>?_;apply aV q2;apply aV q3
  exact E7 hz h1 h2 h3 R hi hl
 case none=>intro he;exact no he
 case bool=>intro _ he;exact no he
 case str=>intro _ _ he;exact no he
 case ro=>intro _ _ _ _ _ _ he;exact no he
theorem rq {f:Int->Int->Option Int} {op:Operator} {x y:V} {a b:Value} {v:V} {af:ag} (he:w7 f x y H=some (v,af)) (hx:VR g J s.heap x a) (hy:VR g J s.heap y b)
  (k:∀ i j z t u,f i j=some z->wpAny (model g.prog g.w) A (binaryOp op (.int i t) (.int j u)) (bB g J s (.int z) H) E s):wpAny (model g.prog g.w) A (binaryOp op a b) (bB g J s v af) E s:=by
 refine aT he λi hi he=>?_
 refine aT he λj hj he=>?_
 refine aT he λz hz he=>?_
 apply we hi hx;intro t
 apply we hj hy;intro u
 apply cU he
 exact k i j z t u hz
theorem vw {α:Type} {c:Prop} [Decidable c] {x:Option α} {r:α} (h:(if c then none else x)=some r):¬ c/\x=some r:=by
 by_cases hc:c
 ·rw[if_pos hc] at h;exact no h
 ·rw[if_neg hc] at h;exact⟨hc,h⟩
theorem Eb {op:Operator} {x y:V} {a b:Value} {v:V} {af:ag} (he:ku op x y H=some (v,af)) (R:ak g J H s.heap) (hx:VR g J s.heap x a) (hy:VR g J s.heap y b) :
  wpAny (model g.prog g.w) A (binaryOp op a b) (bB g J s v af) E s:=by
 cases op with
 | Add=>exact D2 he R hx hy
 | Mult=>exact E8 he R hx hy
 | Sub=>exact rq he hx hy λi j z t u h=>by apply dE h;exact PyProof.Rows.sub_int (bB.here R (.int _ _))
 | FloorDiv =>
  refine rq he hx hy λi j z t u h=>?_
  ·refine aR (vw h) λhm h=>?_
   apply dE h
   simp only[not_or,Wj] at hm
   exact PyProof.Rows.floordiv_int hm.1 (bB.here R (.int _ _)) (.inl (PyProof.noPylong_small hm.2))
 | Mod =>
  refine rq he hx hy λi j z t u h=>?_
  ·refine aR (vw h) λhm h=>?_
   apply dE h
   exact PyProof.Rows.mod_int' hm (bB.here R (.int _ _))
 | _=>exact no he
end
end Lar
namespace Lar
open PySem PyProof.Rows PySem.Calls PySem.SeqAt
structure hW (A:Around) (d:Nat):Prop where
 handled:A.handled=none
 depth:A.depth+d<=600
 units:A.units+3 * d<=9000
section
variable {g:G} {A:Around} {E:Value->Shared->Prop} {J:List Addr} {H:ag} {s:Shared}
theorem BC {vs:List Value} {ns ms:List Int} (x:IntsAre vs ns) (y:IntsAre vs ms):ns=ms:=by
 induction x generalizing ms with
 | nil=>cases y;rfl
 | cons n t h ih=>cases y with | cons _ _ h'=>exact congrArg _ (ih h')
inductive wt (g:G) (J:List Addr) (h:Heap) (a:Addr):V->Prop
 | tup {l:List V} {vs:List Value}:h.IsTuple a vs.toArray->bi g J h l vs->a∉J->wt g J h a (.tup l)
 | ref {n:Nat}:J[n]? = some a->wt g J h a (.ref n)
 | ro {ns:List Int} {vs:List Value}:g.B.IsList a vs.toArray->IntsAre vs ns->wt g J h a (.ro ns)
theorem VR.ofRef {h:Heap} {v:V} {a:Addr} (x:VR g J h v (.ref a)):wt g J h a v:=by
 cases x with
 | tup h1 _ h2 h3=>exact .tup h1 h2 h3
 | ref h1=>exact .ref h1
 | ro h1 _ h2=>exact .ro h1 h2
theorem zA {h:Heap} {a:Addr} {vs ws:List Value} (x:h.IsTuple a vs.toArray) (y:h.IsTuple a ws.toArray):vs=ws:=by
 obtain ⟨o,ho,_,n,hd⟩:=x
 obtain ⟨o',kM,_,n',i7⟩:=y
 obtain rfl:=Option.some.inj (ho.symm.trans kM)
 injection hd.symm.trans i7 with e _
 exact congrArg XO e
theorem yS {h:Heap} {a:Addr} {vs ws:List Value} (x:h.IsList a vs.toArray) (y:h.IsList a ws.toArray):vs=ws:=by
 obtain ⟨o,ho,_,n,hd⟩:=x
 obtain ⟨o',kM,_,n',i7⟩:=y
 obtain rfl:=Option.some.inj (ho.symm.trans kM)
 injection hd.symm.trans i7 with e _
 exact congrArg XO e
theorem Di {h:Heap} {a:Addr} {vs ws:List Value} {C:Prop} (R:ak g J H h) (x:h.IsTuple a vs.toArray) (y:g.B.IsList a ws.toArray):C:=by
 refine ew x λo ho hc z=>?_
 refine ew y λo' kM dK z=>?_
 obtain rfl:=Option.some.inj (ho.symm.trans (R.base _ _ kM))
 rw[hc] at dK;exact absurd dK.symm pC
theorem Cz {h:Heap} {a:Addr} {n:Nat} {ws:List Value} {C:Prop} (R:ak g J H h) (x:J[n]? = some a) (y:g.B.IsList a ws.toArray):C:=by
 refine aB y λo' kM z=>?_
 rw[R.fresh _ (Ui x)] at kM;cases kM
theorem bi.inj {h:Heap} (R:ak g J H h) {l l':List V} {vs:List Value} (x:bi g J h l vs) (y:bi g J h l' vs):l=l':=by
 refine bi.rec (motive_1:=λv a z=>∀ v',VR g J h v' a->v=v') (motive_2:=λl vs z=>∀ l',bi g J h l' vs->l=l') ?_ ?_ ?_ ?_ ?_ ?_ ?_ ?_ ?_ x l' y
 ·intro v' x;cases x;rfl
 ·intro b v' x;cases x;rfl
 ·intro i t v' x;cases x;rfl
 ·intro i t v' x;cases x;rfl
 ·intro l a vs h1 _ h2 hn ih v' x
  cases x.ofRef with
  | tup Rx RA _ =>
   obtain rfl:=zA h1 Rx
   rw[ih _ RA]
  | ref e=>exact absurd (Ui e) hn
  | ro hl _=>exact Di R h1 hl
 ·intro n a e v' x
  cases x.ofRef with
  | tup _ _ hn=>exact absurd (Ui e) hn
  | ref e'=>rw[oO R.nodup e e']
  | ro hl _=>exact Cz R e hl
 ·intro ns a vs hl _ hi v' x
  cases x.ofRef with
  | tup h1 _ _=>exact Di R h1 hl
  | ref e=>exact Cz R e hl
  | ro fT gf =>
   obtain rfl:=yS hl fT
   rw[BC hi gf]
 ·intro l' y;cases y;rfl
 ·intro v a l vs _ _ cq DN l' y
  cases y with
  | cons hv hr=>rw[cq _ hv,DN _ hr]
theorem VR.inj {h:Heap} (R:ak g J H h) {v v':V} {a:Value} (x:VR g J h v a) (y:VR g J h v' a):v=v' :=
 (List.cons.inj (bi.inj R (.cons x .nil) (.cons y .nil))).1
theorem Mo {a n c:Nat} (h:a+n<c):a<c:=UR (UA _ _) h
set_option tactic.hygienic true in
theorem wM {n:Nat} (R:ak g J H s.heap):∀ {A:Around} {x y:V} {a b:Value} {c:Bool},A.units+n<cLine->Qi n x y=some c->VR g J s.heap x a->VR g J s.heap y b->EqAt A s a b c/\RcAt A s a b c/\RcNeAt A s a b (!c):=by
 induction n with
 | zero=>intro A x y a b c _ h;exact no h
 | succ n ih =>
  intro A x y a b c hu h hx hy
  revert h;apply VR.el hx
  case none =>
   intro h
   revert h;apply VR.el hy
   case none=>intro h;apply dE h;exact⟨EqAt.same _,RcAt.none_none,RcNeAt.none_none⟩
   case int=>intro i t h;apply dE h;exact⟨EqAt.none_int _ _,RcAt.none_int _ _,RcNeAt.none_int _ _⟩
   case tup=>intro _ _ _ ht _ _ _ h;apply dE h;exact⟨EqAt.none_tuple ht (Mo hu),RcAt.none_tuple ht (Mo hu),RcNeAt.none_tuple ht (Mo hu)⟩
   all_goals (intros;rename_i h;exact no h)
  case bool =>
   intro p h
   revert h;apply VR.el hy
   case bool=>intro q h;apply dE h;exact⟨EqAt.bool_bool _ _,RcAt.bool_bool _ _,RcNeAt.bool_bool _ _⟩
   all_goals (intros;rename_i h;exact no h)
  case int =>
   intro i t h
   revert h;apply VR.el hy
   case none=>intro h;apply dE h;exact⟨EqAt.int_none _ _,RcAt.int_none _ _,RcNeAt.int_none _ _⟩
   case int=>intro j u h;apply dE h;exact⟨EqAt.int_int _ _ _ _,RcAt.int_int _ _ _ _,RcNeAt.int_int _ _ _ _⟩
   all_goals (intros;rename_i h;exact no h)
  case str =>
   intro p t h
   revert h;apply VR.el hy
   case str=>intro q u h;apply dE h;exact⟨EqAt.str_str _ _ _ _,RcAt.str_str _ _ _ _,RcNeAt.str_str _ _ _ _⟩
   all_goals (intros;rename_i h;exact no h)
  case tup =>
   intro l ta vs ht M4 hv Iv h
   revert h;apply VR.el hy
   all_goals (intros;rename_i h;exact no h)
  case ref=>intro _ _ _ h;exact no h
  case ro=>intro _ _ _ _ _ _ h;exact no h
end
section
variable {g:G} {A:Around} {E:Value->Shared->Prop} {J:List Addr} {H:ag} {s:Shared}
theorem bi.mem {h:Heap} {y:Value} {l:List V}:∀ {vs:List Value},bi g J h l vs->y∈vs->∃ v∈l,VR g J h v y:=by
 induction l with
 | nil=>intro vs x hm;rw[x.nilE] at hm;exact nomatch hm
 | cons v l ih =>
  intro vs x hm
  refine x.consE λa us q hv hr=>?_
  rw[q] at hm
  refine (Uh.mp hm).elim (λe=>⟨v,z',e ▸ hv⟩) λhm=>?_
  exact aB (ih hr hm) λv h1 h2=>⟨v,H' _ h1,h2⟩
theorem vp {h:Heap} {x:V} {e:Value->Bool} {l:List V}:∀ {vs:List Value} {c:Bool},gx x l=some c->bi g J h l vs ->
  (∀ y∈vs,∀ v∈l,VR g J h v y->∀ b,DE v x=some b->e y=b)->vs.any e=c:=by
 induction l with
 | nil=>intro vs c hc hv _;rw[hv.nilE];exact sm hc
 | cons v l ih =>
  intro vs c hc hx he
  refine hx.consE λa us q hv hr=>?_
  subst q
  refine aT hc λp h1 hc=>?_
  refine aT hc λq h2 hc=>?_
  apply dE hc
  rw[YG,he a z' v z' hv p h1,
     ih h2 hr λy hy v' oq=>he y (H' _ hy) v' (H' _ oq)]
theorem vo {x:V} {l:List V}:∀ {c:Bool},gx x l=some c->∀ v∈l,∃ b,DE v x=some b:=by
 induction l with
 | nil=>exact λz z hm=>absurd hm V6
 | cons v l ih =>
  exact λhc u hm=>aT hc λp h1 hc=>aT hc λq h2 z=>(Uh.mp hm).elim (λe=>⟨p,e ▸ h1⟩) (ih h2 u)
theorem B5 {i j:Nat} {ta tb:Addr} {l m:List V} {c:Bool} (he:(if l.length=m.length then (if l.length=0 then some true else none) else some false)=some c) (hA:A.units+8<cLine) (R:ak g J H s.heap) (hi:J[i]? = some ta) (hj:J[j]? = some tb) (h1:lst H i=some l) (h2:lst H j=some m) :
  RcAt A s (.ref ta) (.ref tb) c/\RcNeAt A s (.ref ta) (.ref tb) (!c):=by
 have hu:A.units<cLine:=Mo hA
 refine ew (R.list hi h1) λvs hl QO z=>?_
 refine ew (R.list hj h2) λws hm Tq z=>?_
 have hv:=QO.length
 have hw:=Tq.length
 by_cases cm:l.length=m.length
 ·rw[if_pos cm] at he
  have sW:vs.length=ws.length:=hv.symm.trans (cm.trans hw)
  by_cases h0:l.length=0
  ·rw[if_pos h0] at he
   apply dE he
   have DG:vs.toArray.size=0:=hv.symm.trans h0
   exact⟨RcAt.lists (A:=A) (e:=λz=>true) hl.isList hm.isList sW hu (λj h1 h2=>absurd h1 (by rw[DG];exact Xa _)) |> λk=>by simpa [DG] using k,RcNeAt.lists (A:=A) (e:=λz=>true) hl.isList hm.isList sW hu (λj h1 h2=>absurd h1 (by rw[DG];exact Xa _)) |> λk=>by simpa [DG] using k⟩
  ·rw[if_neg h0] at he
   exact no he
 ·rw[if_neg cm] at he
  apply dE he
  have sW:¬ vs.length=ws.length:=λq=>cm (hv.trans (q.trans hw.symm))
  exact⟨RcAt.lists_lengths hl.isList hm.isList (by simpa using sW) hu,RcNeAt.lists_lengths hl.isList hm.isList (by simpa using sW) hu⟩
set_option tactic.hygienic true in
theorem AX {x y:V} {a b:Value} {c:Bool} (he:Cy H x y=some c) (hA:A.units+8<cLine) (R:ak g J H s.heap) (hx:VR g J s.heap x a) (hy:VR g J s.heap y b) :
  RcAt A s a b c/\RcNeAt A s a b (!c):=by
 have ba:DE x y=some c->RcAt A s a b c/\RcNeAt A s a b (!c):=λh=>(wM R (n:=6) (UY (UY hA)) h hx hy).2
 have hu:A.units<cLine:=Mo hA
 revert he ba;apply VR.el hx
 case ref =>
  intro _ _ hi he ba
  refine aT he λl hl he=>?_
  refine aB (R.list hi hl) λvs fT _=>?_
  revert ba he;apply VR.el hy
  case ref =>
   intro _ _ hj ba he
   refine aT he λm hm he=>?_
   exact B5 he hA R hi hj hl hm
  case none=>intro ba he;apply dE he;exact⟨RcAt.list_none fT.isList hu,RcNeAt.list_none fT.isList hu⟩
  case tup=>intro _ _ _ ht _ _ _ ba he;apply dE he;exact⟨RcAt.list_tuple fT.isList ht hu,RcNeAt.list_tuple fT.isList ht hu⟩
  all_goals (intros;rename_i ba he;exact no he)
 case none =>
  intro he ba
  revert he ba;apply VR.el hy
  case ref =>
   intro _ _ hj he ba
   refine aT he λm hm he=>?_
   apply dE he
   refine aB (R.list hj hm) λvs fT _=>?_
   exact⟨RcAt.none_list fT.isList hu,RcNeAt.none_list fT.isList hu⟩
  all_goals (intros;rename_i he ba;exact ba he)
 case tup =>
  intro _ _ _ ht hz hv _ he ba
  revert he ba;apply VR.el hy
  case ref =>
   intro _ _ hj he ba
   refine aT he λm hm he=>?_
   apply dE he
   refine aB (R.list hj hm) λvs fT _=>?_
   exact⟨RcAt.tuple_list ht fT.isList hu,RcNeAt.tuple_list ht fT.isList hu⟩
  all_goals (intros;rename_i he ba;exact ba he)
 all_goals (intros;rename_i he ba;exact ba he)
theorem I6 {x y:V} {a b:Value} {c:Bool} (he:((Cy H x y).bind λc=>some (!c))=some c) (hA:A.units+8<cLine) (R:ak g J H s.heap) (hx:VR g J s.heap x a) (hy:VR g J s.heap y b):RcNeAt A s a b c:=by
 refine aT he λd hd he=>?_
 apply dE he
 exact (AX hd hA R hx hy).2
theorem nz {f:Int->Int->Bool} {op:CmpOp} {x y:V} {a b:Value} {c:Bool} {Q:Value->Shared->Prop} (he:ot f x y=some c) (hx:VR g J s.heap x a) (hy:VR g J s.heap y b) (h:Q (.bool c) s)
  (k:∀ i j t u,Q (.bool (f i j)) s->wpAny (model g.prog g.w) A (compareOp op (.int i t) (.int j u)) Q E s):wpAny (model g.prog g.w) A (compareOp op a b) Q E s:=by
 refine aT he λi hi he=>?_
 refine aT he λj hj he=>?_
 obtain rfl:=sm he
 refine N' (vI hi hx) λt q2=>?_;subst q2
 refine N' (vI hj hy) λu q2=>?_;subst q2
 exact k i j t u h
theorem xc {h:Heap} {x:V} {a:Value} (hx:VR g J h x a):(M5 x=true/\a=.none)\/(M5 x=false/\a≠.none):=by
 apply VR.el hx
 case none=>skip;exact .inl ⟨rfl,rfl⟩
 all_goals (intros;exact .inr ⟨rfl,λe=>nomatch e⟩)
set_option tactic.hygienic true in
theorem IQ {x y:V} {a b:Value} {c:Bool} {Q:Value->Shared->Prop} (he:LL x y=some c) (hx:VR g J s.heap x a) (hy:VR g J s.heap y b) (h:Q (.bool c) s):wpAny (model g.prog g.w) A (compareOp .Is a b) Q E s:=by
 revert he;apply VR.el hy
 case none =>
  intro he
  obtain rfl:=sm he
  rcases xc hx with ⟨h1,rfl⟩ | ⟨h1,h2⟩
  ·rw[h1] at h;exact is_none_none h
  ·rw[h1] at h;exact is_none_ne h2 h
 all_goals (intros;rename_i he;exact no he)
set_option tactic.hygienic true in
theorem yK {x y:V} {a b:Value} {c:Bool} {Q:Value->Shared->Prop} (he:G4 x y=some c) (hx:VR g J s.heap x a) (hy:VR g J s.heap y b) (h:Q (.bool c) s):wpAny (model g.prog g.w) A (compareOp .IsNot a b) Q E s:=by
 revert he;apply VR.el hy
 case none =>
  intro he
  obtain rfl:=sm he
  rcases xc hx with ⟨h1,rfl⟩ | ⟨h1,h2⟩
  ·rw[h1] at h;exact isnot_none_none h
  ·rw[h1] at h;exact isnot_none_ne h2 h
 case bool =>
  intro q he
  refine aT he λp hp he=>?_
  obtain rfl:=sm he
  obtain rfl:=vB hp hx
  refine wpAny_isNot_plain (by cases p <;> cases q <;> rfl) ?_
  have:(!(Value.bool p==Value.bool q))=(p != q):=by cases p <;> cases q <;> rfl
  rw[this];exact h
 all_goals (intros;rename_i he;exact no he)
open Classical in
theorem IN {x y:V} {a b:Value} {c:Bool} {Q:Value->Shared->Prop} (he:LJ x y H=some c) (hA:A.units+8<cLine) (R:ak g J H s.heap) (hx:VR g J s.heap x a) (hy:VR g J s.heap y b)
  (h:Q (.bool c) s):wpAny (model g.prog g.w) A (compareOp .In a b) Q E s:=by
 refine aT he λp hp he=>?_
 refine aT he λr hr he=>?_
 refine aT he λl Lg he=>?_
 apply PX hp hx;intro t
 apply Na hr hy;intro ta hr
 refine ew (R.list hr Lg) λvs hl hv hz=>?_
 have uniq:∀ y∈vs,∀ v∈l,VR g J s.heap v y->∀ b,DE v (.str p)=some b->(λy=>decide (∃ v,VR g J s.heap v y/\DE v (.str p)=some true)) y=b:=by
  intro y EL v oq QP b hb
  cases b with
  | true=>exact decide_eq_true ⟨v,QP,hb⟩
  | false =>
   refine decide_eq_false ?_
   rintro ⟨v',h1,h2⟩
   rw[VR.inj R h1 QP,hb] at h2;cases h2
 refine in_listAt (λy=>decide (∃ v,VR g J s.heap v y/\DE v (.str p)=some true)) hl.isList (λy EL=>?_) ?_
 ·refine aB (hv.mem (by simpa using EL)) λv h1 h2=>?_
  refine N' (vo he v h1) λb hb=>?_
  have:=uniq y (by simpa using EL) v h1 h2 b hb
  simp only at this
  rw[this]
  exact (wM R (n:=6) (A:=A.in1) (UY hA) hb h2 (.str p t)).1
 ·rw[List.any_toArray,vp he hv uniq]
  exact h
theorem wG {op:CmpOp} {x y:V} {a b:Value} {c:Bool} {Q:Value->Shared->Prop} (he:pU op x y H=some c) (hA:A.units+8<cLine) (R:ak g J H s.heap) (hx:VR g J s.heap x a) (hy:VR g J s.heap y b)
  (h:Q (.bool c) s):wpAny (model g.prog g.w) A (compareOp op a b) Q E s:=by
 cases op with
 | Eq=>exact (AX he hA R hx hy).1 g.prog g.w E Q h
 | NotEq=>exact (I6 he hA R hx hy) g.prog g.w E Q h
 | Lt=>exact nz he hx hy h λi j t u q=>PyProof.Rows.lt_int q
 | LtE=>exact nz he hx hy h λi j t u q=>PyProof.Rows.le_int q
 | Gt=>exact nz he hx hy h λi j t u q=>PyProof.Rows.gt_int q
 | GtE=>exact nz he hx hy h λi j t u q=>PyProof.Rows.ge_int q
 | Is=>exact IQ he hx hy h
 | IsNot=>exact yK he hx hy h
 | In=>exact IN he hA R hx hy h
 | NotIn=>exact no he
theorem w6 {l:List V} {y:V} {v:V} {b:Value} (he:BB l y=some v) (hy:VR g J s.heap y b):∃ k u,b=.int k u/\0<=k/\l[k.toNat]? = some v:=by
 refine aT he λk hk he=>?_
 apply we hk hy;intro u
 refine dL he λh0 he=>?_
 exact⟨k,u,rfl,h0,he⟩
theorem Gf {k:Int} {n:Nat} (h0:0<=k) (h1:k.toNat<n):seqIndex? k n=some k.toNat:=by
 show (if (decide (0<=(if k<0 then k+n else k))&&decide ((if k<0 then k+n else k)<(n:Int)))=true then some (if k<0 then k+n else k).toNat else none)=_
 rw[if_neg (Vj.mpr h0)]
 exact if_pos (Up.mpr ⟨decide_eq_true h0,decide_eq_true ((Zt h0).mp h1)⟩)
theorem Ar {k:Int} (h0:0<=k):-(2 ^ 63)<=k:=Uw (by decide) h0
theorem uK {k:Int} {n:Nat} (h0:0<=k) (h1:k.toNat<n) (hz:n<=ar+1):k<2 ^ 63:=(Zt h0).mp (Ul h1 (B' hz (by decide)))
theorem s5 {l:List V} {y:V} {ta:Addr} {vs:List Value} {b:Value} {v:V} (he:BB l y=some v) (R:ak g J H s.heap) (ht:s.heap.IsTuple ta vs.toArray) (hz:l.length<=ar+1) (hv:bi g J s.heap l vs) (hy:VR g J s.heap y b) :
  wpAny (model g.prog g.w) A (getItem (.ref ta) b) (bB g J s v H) E s:=by
 refine kF (w6 he hy) λk u q3 hk he=>?_;apply aV q3
 refine aB (hv.get he) λa h1 h2=>?_
 have cE:k.toNat<l.length:=(J'.mp he).1
 exact getItem_tuple (j:=k.toNat) ht (Ar hk) (uK hk cE hz) (Gf hk (YJ cE hv.length)) (U1.trans h1) (bB.here (tk:=s.toks) R h2)
theorem s4 {p:Str} {t:Tok} {y:V} {b:Value} {v:V} (he:((pg y).bind λk=>if 0<=k/\k<4611686018427387904 then (p.cps[k.toNat]?).bind (λc=>some (.str ⟨#[c]⟩)) else none)=some v) (R:ak g J H s.heap) (hy:VR g J s.heap y b) :
  wpAny (model g.prog g.w) A (getItem (.str p t) b) (bB g J s v H) E s:=by
 refine aT he λk hk he=>?_
 apply we hk hy;intro u
 refine dL he λhk he=>?_
 refine aT he λc hc he=>?_
 apply dE he
 refine PySem.P.getItem_str (c:=c) (Ws.mpr ⟨decide_eq_false (Vj.mpr (Ar hk.1)),decide_eq_false (XU.mpr (WT hk.2 (by decide)))⟩) ?_ (bB.here R (.str _ _))
 rw[Gf hk.1 (n:=p.length) (WN.mp hc).1]
 exact hc
theorem s3 {r:Nat} {ta:Addr} {m:aZ} {y:V} {b:Value} {v:V} (he:IM y m=some v) (R:ak g J H s.heap) (hr:J[r]? = some ta) (hm:H[r]? = some m) (hy:VR g J s.heap y b) :
  (∃ T id,s.TypeIs (.ref ta) T/\typeLookup (.type T) "__getitem__" = pure (some (.builtin id)))/\wpAny (model g.prog g.w) A (getItem (.ref ta) b) (bB g J s v H) E s:=by
 revert he;apply MR.el (R.objs _ _ _ hr hm)
 case lst =>
  intro _ _ hl hz hv he
  refine kF (w6 he hy) λk u q3 hk he=>?_;apply aV q3
  refine aB (hv.get he) λa h3 h4=>?_
  have cE:=(J'.mp he).1
  exact⟨⟨"list", _,hl.isList.typeIs,slot_list_getitem.lookup⟩,wpAny_getItem_list hl.isList hk (uK hk cE hz) (U1.trans h3) (bB.here (tk:=s.toks) R h4)⟩
 case ds=>intro _ _ _ _ _ he;exact no he
 case own=>intro _ _ _ he;exact no he
 case wd=>intro _ _ _ _ _ he;exact no he
 case exn=>intro _ _ _ _ _ _ _ _ _ _ he;exact no he
 case tab=>intro _ _ _ _ _ he;exact no he
set_option tactic.hygienic true in
theorem EP {x y:V} {a b:Value} {v:V} (he:i8 x y H=some v) (R:ak g J H s.heap) (hx:VR g J s.heap x a) (hy:VR g J s.heap y b) :
  (∃ T id,s.TypeIs a T/\typeLookup (.type T) "__getitem__" = pure (some (.builtin id)))/\wpAny (model g.prog g.w) A (getItem a b) (bB g J s v H) E s:=by
 revert he;apply VR.el hx
 case tup=>intro _ _ _ ht hz hv _ he;exact⟨⟨"tuple", _,ht.typeIs,PySem.F.slot_tuple_getitem.lookup⟩,s5 he R ht hz hv hy⟩
 case str=>intro p t he;exact⟨⟨"str", _,typeIs_str s p t,PySem.F.slot_str_getitem.lookup⟩,s4 he R hy⟩
 case ref =>
  intro _ _ hr he
  refine aT he λm hm he=>?_
  exact s3 he R hr hm hy
 all_goals (intros;rename_i he;exact no he)
end
inductive iu:Value->V->Prop
 | none:iu .none .none
 | int (k:Int) (t:Tok):iu (.int k t) (.int k)
noncomputable def fA:V->Option Int
 | .int k=>some k
 | _=>none
section
variable {g:G} {A:Around} {E:Value->Shared->Prop} {J:List Addr} {H:ag} {s:Shared}
theorem IY (k:Int) (n:Nat) (hk:0<=k):min k (n:Int)=((min k.toNat n:Nat):Int) :=
 (Zu k.toNat n).elim (λh=>by rw[U4 h,Vf hk,Xb (YS.mp h)]) (λh=>by rw[WU h,WV ((Int.le_toNat hk).mp h)])
theorem t9 {j m n:Nat} (h:j - m=n) (hj:j<=n):j=n:=U3 hj (h ▸ VG j m)
theorem HM {lo:V} {i n:Nat} {stop:Option Int} (h:kW lo=some i):(Builtin.Slice.sliceAdjust (fA lo) stop 1 (n:Int)).1=((min i n:Nat):Int):=by
 cases lo with
 | none=>rw[<-sm h,Zv];rfl
 | int k=>have z:=cy h;rw[<-sm z.2];exact (if_neg (Vj.mpr z.1.1)).trans (IY k n z.1.1)
 | _=>exact nomatch h
theorem HL {hi:V} {j n:Nat} {start:Option Int} (h:jv n hi=some j):(Builtin.Slice.sliceAdjust start (fA hi) 1 (n:Int)).2=(j:Int):=by
 cases hi with
 | none=>rw[<-sm h];rfl
 | int k=>have z:=cy h;rw[<-sm z.2,YT];exact (if_neg (Vj.mpr z.1.1)).trans (IY k n z.1.1)
 | _=>exact nomatch h
theorem Fe (a b:Nat):Builtin.Slice.slicePlaces (a:Int) (b:Int) 1=b - a:=by
 show (if (a:Int)<b then ((b:Int) - a - 1) / 1+1 else 0).toNat=b - a
 by_cases h:(a:Int)<b
 ·rw[if_pos h,YU,XV];exact YH b a
 ·rw[if_neg h];exact (Xu (Vv.mp (Vj.mp h))).symm
theorem oV {a:Value} {v:V} {Q:Option Int->Shared->Prop} (ha:iu a v) (h:Q (fA v) s):wpAny (model g.prog g.w) A (Builtin.Slice.slicePartIndex a) Q E s:=by
 cases ha with
 | none=>exact slicePart_none h
 | int k t=>exact slicePart_int h
theorem D4 {sl:Addr} {a b:Value} {lo hi:V} {i j n:Nat} {Q:Int×Int×Nat->Shared->Prop} (hs:s.heap.IsSliceOf sl a b .none) (ha:iu a lo) (hb:iu b hi) (gf:kW lo=some i) (hj:jv n hi=some j)
  (h:Q (((min i n:Nat):Int),1,j - min i n) s):wpAny (model g.prog g.w) A (Builtin.Slice.sliceApplied (.ref sl) (pure (n:Int))) Q E s:=by
 refine ew (id hs) λos yB fS ur=>?_
 unfold Builtin.Slice.sliceApplied Builtin.Slice.sliceFields
 refine wpAny_bind (wpAny_bind (wpAny_field yB ur (x:=a) rfl (wpAny_bind (wpAny_field yB ur (x:=b) rfl (wpAny_bind (wpAny_field yB ur (x:=.none) rfl (wpAny_pure ?_)))))))
 refine wpAny_bind (slicePart_none ?_)
 show wpAny _ _ (if ((1:Int)==0)=true then _ else _) _ _ s
 rw[if_neg (by decide)]
 refine wpAny_bind (oV ha (wpAny_bind (oV hb (wpAny_bind (wpAny_pure ?_)))))
 have e1:=HM (n:=n) (stop:=fA hi) gf
 have e2:=HL (start:=fA lo) hj
 refine wpAny_pure ?_
 have fL:∀ p:Int×Int,p.1=((min i n:Nat):Int)->p.2=(j:Int)->Q (p.1,(Za none (1:Int)),Builtin.Slice.slicePlaces p.1 p.2 (Za none (1:Int))) s:=by
  intro p h1 h2
  rw[h1,h2,Option.getD_none,Fe]
  exact h
 exact fL _ e1 e2
theorem Cn (vs:List Value) (a k:Nat):((UC k).filterMap λ(x:Nat)=>vs.toArray[((a:Int)+(x:Int) * 1).toNat]?)=(vs.drop a).take k:=by
 have e:(λ(x:Nat)=>vs.toArray[((a:Int)+(x:Int) * 1).toNat]?)=λx=>vs.toArray[a+x]?:=by
  funext x
  have:((a:Int)+(x:Int) * 1).toNat=a+x:=by rw[WB];exact Us (a+x)
  rw[this]
 have:=pick_run vs.toArray a k
 rw[List.filterMap_map] at this
 rw[e]
 exact this
theorem qP {α:Type} (l:List α) (i j:Nat):mh l i j=(l.drop (min i l.length)).take (j - min i l.length):=by
 unfold mh
 rw[Zl]
 by_cases h:i<=l.length
 ·rw[U4 h]
 ·rw[WU (UD (Wj.mp h)),Xi (UD (Wj.mp h)),Xi (Un _)]
  simp
theorem wW {n j:Nat} {hi:V} (h:jv n hi=some j):j<=n:=by
 unfold jv at h
 split at h
 ·cases h;exact Un _
 ·split at h
  ·cases h;exact Wp _ _
  ·cases h
 ·cases h
theorem zB {t sl:Addr} {l:List V} {vs:List Value} {a b:Value} {lo hi:V} {i j:Nat} (R:ak g J H s.heap) (ht:s.heap.IsTuple t vs.toArray) (hz:l.length<=ar+1) (hv:bi g J s.heap l vs) (Iw:t∉J) (hs:s.heap.IsSliceOf sl a b .none) (ha:iu a lo) (hb:iu b hi)
  (gf:kW lo=some i) (hj:jv l.length hi=some j) (vm:(mh l i j).length<=ar) :
  wpAny (model g.prog g.w) A (getItem (.ref t) (.ref sl)) (bB g J s (.tup (mh l i j)) H) E s:=by
 refine ew (id hs) λos yB fS ur=>?_
 have R8:s.TypeIs (.ref sl) "slice" := ⟨os,yB,fS⟩
 have cm:l.length=vs.length:=hv.length
 unfold getItem
 try with_reducible refine wpAny_holding ?_
 first | refine wpAny_bind (wpAny_pure ?_) | skip
 refine wpAny_bind (wpAny_sequenceKey ht.typeIs (by decide) ?_)
 refine wpAny_bind (wpAny_callSpecial?_slot (name:=WW "__getitem__") ht.typeIs PyProof.Rows.slot_tuple_getitem
  (wpAny_call_entry PyProof.Rows.slot_tuple_getitem ht.typeIs PyProof.Rows.entry_tuple_getitem ?_ (PyProof.Rows.args_tuple_getitem _ _)))
 show wpAny _ _ (Builtin.Tuple.tupleItemsOf (.ref t)>>=_) _ _ s
 refine wpAny_bind (tupleItemsOf_ ht ?_)
 refine wpAny_bind (wpAny_typeOf R8 ?_)
 rw[if_pos (by decide)]
 have Ly:vs.toArray.size=l.length:=by simp [cm]
 rw[Ly]
 refine wpAny_bind (D4 hs ha hb gf hj ?_)
 have GA:bi g J s.heap (mh l i j) ((vs.drop (min i l.length)).take (j - min i l.length)):=by
  rw[qP];exact (hv.drop _).take _
 have qk:wpAny (model g.prog g.w) A.in1 (Builtin.Tuple.tupleExact (((UC (j - min i l.length)).filterMap λ(k:Nat)=>vs.toArray[((min i l.length:Nat):Int)+(k:Int) * 1 |>.toNat]?).toArray)>>=λx=>ret x)
   (λgJ s'=>∃ v,gJ=.done (.ret v)/\bB g J s (.tup (mh l i j)) H v s') (λz z=>False) s:=by
  rw[Cn]
  unfold Builtin.Tuple.tupleExact
  refine wpAny_bind (wpAny_newObj_type (wpAny_pure ⟨_,rfl,?_⟩) ?_)
  ·exact bB.newT R (UX vm) GA (λb o e=>G' _ e) (aD _) (fG _ _)
  ·show Array.size _<=sizeLine
   rw[UM,<-GA.length]
   exact vm
 have PJ:=wpAny_mono qk (Q':=λgJ s'=>∃ v,gJ=.done (.ret v)/\wpAny (model g.prog g.w) A (pure v) (bB g J s (.tup (mh l i j)) H) E s') (E':=E) (λgJ s' ⟨v,h1,h2⟩=>⟨v,h1,wpAny_pure h2⟩) (λz z f=>f.elim)
 show wpAny _ _ (if ((((min i l.length:Nat):Int)==0)&&((1:Int)==1)&&((j - min i l.length)==l.length))=true then _ else _) _ _ s
 by_cases hc:((((min i l.length:Nat):Int)==0)&&((1:Int)==1)&&((j - min i l.length)==l.length))=true
 ·rw[if_pos hc]
  simp only[Uv,beq_iff_eq] at hc
  have e0:min i l.length=0:=Int.ofNat.inj hc.1.1
  have e1:j=l.length:=t9 hc.2 (wW hj)
  have e2:mh l i j=l:=by rw[qP,e0,e1];simp
  rw[e2]
  unfold Builtin.Tuple.tupleIsExact
  refine wpAny_bind (wpAny_bind (wpAny_typeOf ht.typeIs (wpAny_pure ?_)))
  rw[if_pos (by decide)]
  exact wpAny_bind (wpAny_rule (wpAny_bind (wpAny_pure (wpAny_pure ⟨_,rfl,wpAny_pure (bB.here (tk:=s.toks) R (.tup ht hz hv Iw))⟩))))
 ·rw[if_neg hc]
  exact PJ
theorem tF {a:Value} {v:V} (h:iu a v):∃ p:Option (Int×Tok),a=partValue p/\p.map (·.1)=fA v:=by
 cases h with
 | none=>exact⟨none,rfl,rfl⟩
 | int k t=>exact⟨some (k,t),rfl,rfl⟩
theorem sw (k:Int) (n:Nat) (hk:0<=k):max 0 (min (if k<0 then k+(n:Int) else k) (n:Int))=((min k.toNat n:Nat):Int):=by
 rw[if_neg (Vj.mpr hk),WX (Int.le_min.mpr ⟨hk,Uj n⟩)]
 exact IY k n hk
noncomputable def wD (v:Option Int) (d n:Int):Int:=match v with | none=>d | some i=>max 0 (min (if i<0 then i+n else i) n)
theorem Eg {lo:V} {i:Nat} (n:Nat) (h:kW lo=some i):wD (fA lo) 0 n=((min i n:Nat):Int):=by
 cases lo with
 | none=>rw[<-sm h,Zv];rfl
 | int k=>have z:=cy h;rw[<-sm z.2];exact sw k n z.1.1
 | _=>exact nomatch h
theorem Ef {hi:V} {j n:Nat} (h:jv n hi=some j):wD (fA hi) n n=(j:Int):=by
 cases hi with
 | none=>rw[<-sm h];rfl
 | int k=>have z:=cy h;rw[<-sm z.2,YT];exact sw k n z.1.1
 | _=>exact nomatch h
theorem yX (i j:Nat):sliceRange (i:Int) (j:Int) 1=(UC (j - i)).map λk=>i+k:=by
 unfold sliceRange
 have h2:(1:Int) > 0:=by decide
 simp only[h2,if_true,YU,Wq]
 have hc:(if (i:Int)<(j:Int) then (j:Int) - (i:Int)+1 - 1 else 0).toNat=j - i:=by
  rw[XW]
  split
  ·exact YH j i
  ·exact (Xu (Nat.le_of_not_lt λx=>‹¬_› (Vw.mpr x))).symm
 rw[hc]
 exact VH λk z=>Us (i+k)
theorem t7 {lo hi:V} {i j n:Nat} (gf:kW lo=some i) (hj:jv n hi=some j):Builtin.Str.strSliceIndices (fA lo) (fA hi) 1 n=(UC (j - min i n)).map λk=>min i n+k:=by
 have e:Builtin.Str.strSliceIndices (fA lo) (fA hi) 1 n=sliceRange (wD (fA lo) 0 n) (wD (fA hi) n n) 1:=by
  cases fA lo <;> cases fA hi <;> rfl
 rw[e,Eg n gf,Ef hj]
 exact yX _ _
theorem zv {m:Nat}:∀ {n:Nat},n - m=n->m=0\/n=0:=by
 intro n h
 cases m with
 | zero=>exact .inl rfl
 | succ m =>
  cases n with
  | zero=>exact .inr rfl
  | succ n=>exact absurd (Xj (YV n m ▸ VG n m)) (h.symm ▸ Vq _)
set_option tactic.hygienic true in
theorem zu {x:Str} {t:Tok} {sl:Addr} {a b:Value} {lo hi:V} {i j:Nat} (R:ak g J H s.heap) (hs:s.heap.IsSliceOf sl a b .none) (ha:iu a lo) (hb:iu b hi)
  (gf:kW lo=some i) (hj:jv x.length hi=some j) (vm:(⟨(mh x.cps.toList i j).toArray⟩:Str).length<=ar) :
  wpAny (model g.prog g.w) A (getItem (.str x t) (.ref sl)) (bB g J s (.str ⟨(mh x.cps.toList i j).toArray⟩) H) E s:=by
 refine aB (tF ha) λp q2 hp=>?_;subst q2
 refine aB (tF hb) λq q2 hq=>?_;subst q2
 refine wpAny_getItem_str_slice (l:=p) (u:=q) (st:=none) hs rfl ?_
 have GJ:slicePicked x p q none=(UC (j - min i x.length)).map λk=>min i x.length+k:=by
  unfold slicePicked
  rw[hp,hq]
  exact t7 gf hj
 have O6:((slicePicked x p q none).filterMap (x.cps[·]?))=mh x.cps.toList i j:=by
  rw[GJ,pick_run,qP]
  rfl
 have cm:(slicePicked x p q none).length=j - min i x.length:=by rw[GJ];simp
 unfold sliceMade
 rw[cm,O6]
 split
 ·rename_i hc
  simp only[Uv,beq_iff_eq] at hc
  have JF:j - min i x.length=x.length:=by first | exact hc | exact hc.1 | exact hc.2 | exact hc.1.2 | exact hc.2.1
  have e1:j=x.length:=t9 JF (wW hj)
  have e0:min i x.length=0\/x.length=0:=zv (e1 ▸ JF)
  have e2:mh x.cps.toList i j=x.cps.toList:=by
   rw[qP]
   have hl:x.cps.toList.length=x.length:=rfl
   rw[hl]
   refine Ug e0 (λe0=>?_) (λe0=>?_)
   ·rw[e0,e1,Zm,YW,<-hl,UZ]
   ·have:x.cps.toList=[]:=Vy.mp (hl.trans e0)
    rw[this];simp
  rw[e2]
  exact bB.here (tk:=s.toks) R (.str _ _)
 ·exact⟨vm,bB.here R (.str _ _)⟩
end
noncomputable def kY:iO->List Value->Sem Value
 | .len,as=>call (.builtin "len") as
 | .sum,as=>call (.builtin "sum") as
 | .min2,as=>call (.builtin "min") as
 | .max2,as=>call (.builtin "max") as
 | .min1,as=>call (.builtin "min") as
 | .max1,as=>call (.builtin "max") as
 | .minD,as=>call (.builtin "min") as [("default", .none)]
 | .tuple,as=>call (.type "tuple") as
 | .list,as=>call (.type "list") as
 | .str,as=>call (.type "str") as
 | .int,as=>call (.type "int") as
 | .isInt,as=>call (.builtin "isinstance") (as++[.type "int"])
 | .isBool,as=>call (.builtin "isinstance") (as++[.type "bool"])
 | .isTuple,as=>call (.builtin "isinstance") (as++[.type "tuple"])
 | .isStr,as=>call (.builtin "isinstance") (as++[.type "str"])
 | .isList,as=>call (.builtin "isinstance") (as++[.type "list"])
 | .sorted,as=>call (.builtin "sorted") as
section
variable {g:G} {A:Around} {E:Value->Shared->Prop} {J:List Addr} {H:ag} {s:Shared}
theorem bB.grown {v:V} {a:Value} {h':Heap} {tk:Nat} (R:ak g J H s.heap) (hk:∀ b o,s.heap.get? b=some o->h'.get? b=some o) (hv:VR g J h' v a):bB g J s v H a {s with heap:=h',toks:=tk} :=
 ⟨J,SE.keeps J hk,R.keeps hk,hv,rfl,rfl,rfl⟩
theorem w9 {h:Heap} {ns:List Int} {vs:List Value} (x:IntsAre vs ns):bi g J h (ns.map .int) vs:=by
 induction x with
 | nil=>exact .nil
 | cons n t r ih=>exact .cons (.int n t) ih
theorem xN {h:Heap} {l:List V} {ns:List Int} {vs:List Value} (he:dA l=some ns) (x:bi g J h l vs):IntsAre vs ns:=by
 induction l generalizing vs ns with
 | nil=>cases x;rw[<-sm he];exact .nil
 | cons v l ih =>
  cases x with
  | cons hv hr =>
   refine aT he λi hi he=>?_
   refine aT he λms hn he=>?_
   refine N' (vI hi hv) λt ht=>?_
   rw[<-sm he,ht]
   exact .cons i t (ih hn hr)
inductive iQ (g:G) (J:List Addr) (h:Heap) (a:Addr) (l:List V) (vs:List Value):Prop
 | lst:h.IsList a vs.toArray->bi g J h l vs->l.length<=ar+1->iQ g J h a l vs
 | tup:h.IsTuple a vs.toArray->bi g J h l vs->l.length<=ar+1->iQ g J h a l vs
theorem iQ.vrs {h:Heap} {a:Addr} {l:List V} {vs:List Value} (x:iQ g J h a l vs):bi g J h l vs:=by cases x <;> assumption
theorem iQ.len {h:Heap} {a:Addr} {l:List V} {vs:List Value} (x:iQ g J h a l vs):l.length<=ar+1:=by cases x <;> assumption
set_option tactic.hygienic true in
theorem CB {x:V} {a:Value} {l:List V} {w:List (Nat×aZ)} {h:Heap} (he:jf H x=some (l,w)) (R:ak g J H h) (hx:VR g J h x a):∃ c vs,a=.ref c/\iQ g J h c l vs:=by
 revert he;apply VR.el hx
 case tup=>intro _ _ _ ht hz hv _ he;refine aR (nE he) λq1 _=>?_;apply ez q1;exact⟨_,_,rfl,.tup ht hv hz⟩
 case ro =>
  intro _ _ _ hl hz hi he
  refine aR (nE he) λq1 _=>?_;apply ez q1
  exact⟨_,_,rfl,.lst (hl.at λo e=>R.base _ o e) (w9 hi) (by simpa using hz)⟩
 case ref =>
  intro _ _ hr he
  refine aT he λl' fT he=>?_
  refine aR (nE he) λq1 _=>?_;apply ez q1
  refine ew (R.list hr fT) λvs hl hv hz=>?_
  exact⟨_,vs,rfl,.lst hl.isList hv hz⟩
 all_goals (intros;rename_i he;exact no he)
theorem CC {c:Addr} {l:List V} {vs:List Value} {Q:Value->Shared->Prop} (hh:A.handled=none) (hs:iQ g J s.heap c l vs)
  (h:∀ I fp St h',Walks g.prog g.w A I fp [I] vs.length (λi v=>vs[i]? = some v) St->St 0 h'->(∀ b∈fp,b<h'.objs.size)->s.heap.get? I=none->(∀ b o,s.heap.get? b=some o->h'.get? b=some o)->Q (.ref I) {s with heap:=h'}) :
  wpAny (model g.prog g.w) A (pyIter (.ref c)) Q E s:=by
 cases hs with
 | lst hl hv hz =>
  have cE:c<s.heap.objs.size:=by refine aB hl λz e z=>?_;exact UU e
  have W:=Walks.list (prog:=g.prog) (w:=g.w) hh s.heap.objs.size c (UP cE) vs.toArray
  simp only[UM,U1] at W
  have hb:∀ b∈[s.heap.objs.size,c],b<(s.heap.push {cls:=.type "list_iterator", data:=.fields #[.ref c,.int 0 0]}).objs.size:=λb hb=>by
   rw[Vo]
   refine Ug (Uh.mp hb) (λhb=>?_) (λhb=>?_)
   ·exact hb ▸ VC _
   ·exact (O'.mp hb) ▸ WK cE
  exact wpAny_pyIter_list hl (h _ [s.heap.objs.size,c] _ _ W ⟨⟨_,Uo _ rfl,rfl,rfl⟩,hl.push _⟩ hb (aD _) λb o e=>G' _ e)
 | tup ht hv hz =>
  have cE:c<s.heap.objs.size:=by refine aB ht λz e z=>?_;exact UU e
  have W:=Walks.tuple (prog:=g.prog) (w:=g.w) hh s.heap.objs.size c (UP cE) vs.toArray
  simp only[UM,U1] at W
  have hb:∀ b∈[s.heap.objs.size,c],b<(s.heap.push {cls:=.type "tuple_iterator", data:=.fields #[.ref c,.int 0 0]}).objs.size:=λb hb=>by
   rw[Vo]
   refine Ug (Uh.mp hb) (λhb=>?_) (λhb=>?_)
   ·exact hb ▸ VC _
   ·exact (O'.mp hb) ▸ WK cE
  exact wpAny_pyIter_tuple ht (h _ [s.heap.objs.size,c] _ _ W ⟨⟨_,Uo _ rfl,rfl,rfl⟩,ht.push _⟩ hb (aD _) λb o e=>G' _ e)
theorem ou {vs:List Value} {ns:List Int} (x:IntsAre vs ns):∀ {i:Nat} {v:Value},vs[i]? = some v->∃ t,v=.int (ns[i]?.getD 0) t:=by
 induction x with
 | nil=>exact λh=>no h
 | cons n t r ih =>
  intro i v h
  cases i with
  | zero=>exact⟨t,(sm h).symm⟩
  | succ i=>exact ih (i:=i) h
theorem yV (ns:List Int) (k:Nat):k<=ns.length->preSum (λi=>ns[i]?.getD 0) k=(ns.take k).foldl (· + ·) 0:=by
 induction k with
 | zero=>exact λz=>rfl
 | succ k ih =>
  intro h
  show preSum (λi=>ns[i]?.getD 0) k+ns[k]?.getD 0=_
  rw[ih (Nat.le_of_succ_le h),X4,Ue h,X5]
  rfl
theorem Ch {h gT h':Heap} {I:Addr} (hI:h.get? I=none) (h1:∀ b o,h.get? b=some o->gT.get? b=some o) (h2:∀ b o,b∉[I]->gT.get? b=some o->h'.get? b=some o):∀ b o,h.get? b=some o->h'.get? b=some o:=λb o e=>by
 refine h2 b o (λhm=>?_) (h1 b o e)
 simp at hm
 subst hm
 rw[hI] at e;cases e
theorem E4 {c:Addr} {l:List V} {vs:List Value} (R:ak g J H s.heap) (hs:iQ g J s.heap c l vs):wpAny (model g.prog g.w) A (call (.builtin "len") [.ref c]) (bB g J s (.int l.length) H) E s:=by
 have hl:l.length=vs.toArray.size:=hs.vrs.length
 have hz:(vs.toArray.size:Int)<2 ^ 63:=Vw.mpr (UR (hl ▸ hs.len) (by decide))
 have he:∀ t tk,bB g J s (.int l.length) H (.int vs.toArray.size t) {s with toks:=tk}:=λt tk=>hl ▸ bB.here R (.int _ _)
 cases hs with
 | lst h1 h2 h3=>exact Calls.call_len_list h1 hz (he _ _)
 | tup h1 h2 h3=>exact PyProof.Rows.len_tuple h1 hz (he _ _)
theorem FF {c:Addr} {l:List V} {vs:List Value} {ns:List Int} (hh:A.handled=none) (R:ak g J H s.heap) (hs:iQ g J s.heap c l vs) (hn:dA l=some ns) :
  wpAny (model g.prog g.w) A (call (.builtin "sum") [.ref c]) (bB g J s (.int (ns.foldl (· + ·) 0)) H) E s:=by
 have hi:=xN hn hs.vrs
 refine call_sum_walkAnyS (CC (A:=A.in1) hh hs λI fp St h' W gR Oz hI hk=>?_)
 refine⟨I,fp,[I],_,vs.length,_,_,λi=>ns[i]?.getD 0,rfl,W.toS,gR,Oz,λi v hv=>ou hi hv,λs' t' hm=>?_⟩
 rw[hi.length,yV ns _ (Un _),UZ]
 have sV:=Ch hI hk hm.heap
 exact⟨J,SE.keeps J sV,R.keeps sV,.int _ _,hm.gens,hm.drawn,hm.os⟩
end
section
variable {g:G} {A:Around} {E:Value->Shared->Prop} {J:List Addr} {H:ag} {s:Shared}
theorem yU {x:Str} {v:V} {af:ag} (h:Ja H x=some (v,af)):x.length<=sizeLine/\v=.str x/\af=H:=by
 refine dL h λhz h=>?_
 apply cU h
 exact⟨hz,rfl,rfl⟩
end
section
variable {prog:Program} {w:World} {A:Around} {E:Value->Shared->Prop} {s:Shared}
theorem sB {T:String} {r d:Addr} {n:Nat} {P:Nat->Value->Prop} {OK:Heap->Prop} {Q:List Value->Shared->Prop} (ZF:PySem.W.KdlSrc prog w T r d n P OK) (hh:A.handled=none) (nu:OK s.heap) (hn:n<=sizeLine)
  (hQ:∀ h' tk mM,(∀ b o,s.heap.get? b=some o->h'.get? b=some o)->ItemsOf P mM n->Q mM.toList {s with heap:=h',toks:=tk}):wpAny (model prog w) A (collect (.ref r)) Q E s:=by
 have cE:=ZF.there _ nu
 unfold collect
 refine wpAny_bind (wpAny_runValue (codeAny_builtin F.entry_proto_collect ?_))
 rw[Around.under_plainId F.plain_proto_collect _]
 show wpAny _ A.in1 (newList []>>=λl=>again (.builtin "list.__iadd__" ⟨[l,.ref r],[]⟩)) _ _ s
 refine wpAny_bind (wpAny_newObj_type ?_)
 refine wpAny_pure ⟨plainId_quiet F.plain_list_iadd _,codeAny_builtin F.entry_list_iadd ?_⟩
 rw[Around.under_plainId F.plain_list_iadd _]
 show wpAny _ A.in1 (Builtin.List.listExtendWith (.ref s.heap.objs.size) (.ref r) (.ref s.heap.objs.size)) _ _ _
 refine PySem.W.kdl_extend (A:=A) (R:=λr' s'=>match r' with
  | .ok (.ret v)=>wpAny (model prog w) A (match v with
   | .ref a=>do match (<-load a).data with
    | .seq xs _=>pure xs.toList
    | _=>unsupported "internal:collect"
   | _=>unsupported "internal:collect") Q E s'
  | .ok _=>False
  | .error e=>E e s') ZF hh ?_ s.heap.objs.size (V7 cE.1) (V7 cE.2) _ 0 ?_ (λh' tk mM c' hk Oa re=>?_) hn
 ·exact ZF.keep _ _ nu λb z o e=>G' _ e
 ·exact Uo _ rfl
 show wpAny _ A (load s.heap.objs.size>>=_) _ _ _
 refine wpAny_bind (wpAny_load Oa ?_)
 exact wpAny_pure (hQ h' tk mM (λb o e=>hk b o (UP (UU e)) (G' _ e)) re)
theorem xI:∀ (vs:List Value) (kvs:List (Str×Value)),vs.length=kvs.length->(∀ (j:Nat) v,vs[j]? = some v->∃ k x,kvs[j]? = some (k,x)/\Value.isStrOf k v=true)->StrsAre vs (kvs.map (·.1))
 | [],[],_,_=>.nil
 | [],_::_,h,_=>nomatch h
 | _::_,[],h,_=>nomatch h
 | v::vs,kv::kvs,h,hj=>by
  refine gA (hj 0 v rfl) λk x e hk=>?_
  refine N' (Value.isStrOf_shape hk) λt q2=>?_;apply aV q2
  have e:kv=(k,x):=Option.some.inj e
  rw[e]
  exact .cons k t (xI vs kvs (Yd.inj h) λj v e=>hj (j+1) v e)
theorem tU {d:Addr} {kvs:List (Str×Value)} {Q:Value->Shared->Prop} (hh:A.handled=none) (hd:s.heap.DictOf (PySem.strKind prog w) d kvs) (lo:(d==sysModules)=false) (MI:kvs.length<64)
  (hQ:∀ (h':Heap) (tk n:Nat) (D:Addr) (PY:List Value) (Hu:List Str),(∀ b o,s.heap.get? b=some o->h'.get? b=some o)->s.heap.get? D=none->h'.get? D=some (seqObj "list" PY.toArray n)->StrsAre PY Hu->Hu.Perm (kvs.map (·.1))->sortedS Hu=true->Q (.ref D) {s with heap:=h',toks:=tk}) :
  wpAny (model prog w) A (call (.builtin "sorted") [.ref d]) Q E s:=by
 refine N' hd.dictAt λep hm=>?_
 refine Calls.call_function_entry kind_sorted plain_sorted entry_sorted (args_sorted1 _) ?_
 unfold Builtin.«sorted»
 refine wpAny_bind (m:=checkCount "sorted" 1 1 _) (wpAny_pure ?_)
 refine wpAny_bind (sB (PySem.W.kdl_dict (knd:=PySem.strKind prog w) (kvs:=kvs) (ep:=ep) lo) hh hm (B' (UD MI) (by decide)) λh' tk mM hk re=>?_)
 have hS:StrsAre mM.toList (kvs.map (·.1)):=xI _ _ (by rw[UO];exact re.1) λj v e=>re.2 j v (by rw[<-Vd];exact e)
 have N6:mM.toList.length<64:=by rw[UO,re.1];exact MI
 refine wpAny_bind (wpAny_newList ?_)
 have JL:(h'.push (seqObj "list" mM.toList.toArray 0)).get? h'.objs.size=some (seqObj "list" mM.toList.toArray 0):=Uo _ rfl
 refine wpAny_bind (wpAny_holding (wpAny_call_entry slot_list_sort ⟨_,JL,rfl⟩ entry_list_sort (list_sort_treeK strKind_oneLt JL hS.keysOf (λv₁ v₂ aG e=>keyKind_strs (by rw[<-e];exact hS)) N6 λst' hp hs=>⟨_,rfl,?_⟩) (args_list_sort _)))
 refine ew (sorted_out_str hS hp hs) λHu h1 h2 h3=>?_
 refine N' (sortedHeap_at (out:=(arrOf st').map (·.2)) JL) λe he=>?_
 refine wpAny_pure ⟨_,rfl,hQ _ tk e h'.objs.size ((arrOf st').map (·.2)).toList Hu (λb o e1=>?_) ?_ (by rw[WO];exact he) h1 h2 h3⟩
 ·have cE:=UU (hk b o e1)
  rw[sortedHeap_old (UP cE) (by rw[size_push'];exact WK cE)]
  exact G' _ (hk b o e1)
 ·cases hq:s.heap.get? h'.objs.size with
  | none=>rfl
  | some o=>exact absurd (UU (hk _ _ hq)) (Vq _)
end
section
variable {g:G} {A:Around} {E:Value->Shared->Prop} {J:List Addr} {H:ag} {s:Shared}
theorem yP {a b c:Str} (h1:¬ (b.cps.toList<a.cps.toList)) (h2:¬ (c.cps.toList<b.cps.toList)):¬ (c.cps.toList<a.cps.toList):=λh=>h1 (List.lt_of_le_of_lt (Zb.mp h2) h)
theorem qt:∀ (l:List Str) (p:Str),risingS p l=true->lK (p::l)
 | [],p,_=>.cons (λz h=>nomatch h) .nil
 | x::l,p,h=>by
  refine aR (Up.mp (show (!PySem.Spec.ltCps x.cps.toList p.cps.toList&&risingS x l)=true from h)) λh1 h2=>?_
  rw[ltCps_eq] at h1
  have h1:¬ (x.cps.toList<p.cps.toList):=by simpa using h1
  have ih:=qt l x h2
  refine .cons (λy hy=>?_) ih
  rcases Uh.mp hy with rfl | hy
  ·exact h1
  ·exact yP h1 ((Ur.mp ih).1 y hy)
theorem C4 {m l:List Str} (h:m.Perm l) (hr:lK m):iw l=m:=by
 have QB:∃ m:List Str,m.Perm l/\lK m:=⟨m,h,hr⟩
 unfold iw
 rw[dif_pos QB]
 refine aR (Xv QB) λh1 h2=>?_
 refine List.Perm.eq_of_pairwise (le:=λa b:Str=>¬ (b.cps.toList<a.cps.toList)) (λa b z z g1 g2=>?_) h2 hr (h1.trans h.symm)
 have:=List.le_antisymm (Zb.mp g1) (Zb.mp g2)
 cases a;cases b
 exact congrArg Str.mk (Array.toList_inj.mp this)
theorem Dj {h:Heap} {vs:List Value} {ss:List Str} (x:StrsAre vs ss):bi g J h (ss.map .str) vs:=by
 induction x with
 | nil=>exact .nil
 | cons y t r ih=>exact .cons (.str y t) ih
set_option tactic.hygienic true in
theorem v3 {r:Nat} {c:Addr} {l:List (Str×V)} {v:V} {af:ag} (hh:A.handled=none) (EJ:∃ o,g.B.get? sysModules=some o) (R:ak g J H s.heap) (hr:J[r]? = some c) (hl:ds H r=some l) (he:(if l.length<64 then qk H ((iw (l.map (·.1))).map .str) else none)=some (v,af)) :
  wpAny (model g.prog g.w) A (call (.builtin "sorted") [.ref c]) (bB g J s v af) E s:=by
 refine dL he λMI he=>?_
 refine iK (fX he) λhz q2 q3=>?_;apply aV q2;apply aV q3
 have Jc:(c==sysModules)=false:=by
  refine N' EJ λo ho=>?_
  have:=R.fresh _ (Ui hr)
  simp only[beq_eq_false_iff_ne,ne_eq]
  rintro rfl
  rw[ho] at this;exact nomatch this
 cases R.objs _ _ _ hr (En hl) with
 | ds hd hk QO =>
  rename_i kvs
  have cm:kvs.length=l.length:=by have:=congrArg Zc hk;rwa [A',A'] at this
  refine tU hh hd Jc (UR (UV cm) MI) λh' tk n D PY Hu Ld hD fT hS hp hs=>?_
  rw[hk] at hp
  have e:iw (l.map (·.1))=Hu:=C4 hp (by
   cases Hu with
   | nil=>exact .nil
   | cons p r=>exact qt r p hs)
  rw[e]
  rw[e] at hz
  exact bB.newL R (UX hz) (Dj hS) Ld hD ⟨n,fT⟩
theorem oR {h:Heap} {a:V} {as:List Value} (hv:bi g J h [a] as):∃ b,as=[b]/\VR g J h a b:=by
 cases hv with
 | cons h1 h2=>cases h2;exact⟨_,rfl,h1⟩
theorem wa {h:Heap} {a b:V} {as:List Value} (hv:bi g J h [a,b] as):∃ c d,as=[c,d]/\VR g J h a c/\VR g J h b d:=by
 cases hv with
 | cons h1 h2 =>
  refine aB (oR h2) λd q2 h3=>?_;apply aV q2
  exact⟨_,d,rfl,h1,h3⟩
theorem mz {f:V->Option (V×ag)} {c:List Value->Sem Value} {l:List V} {as:List Value} {v:V} {af:ag} (he:jV f l=some (v,af)) (hv:bi g J s.heap l as)
  (k:∀ x a,f x=some (v,af)->VR g J s.heap x a->wpAny (model g.prog g.w) A (c [a]) (bB g J s v af) E s):wpAny (model g.prog g.w) A (c as) (bB g J s v af) E s:=by
 refine aB (eu he) λx q2 he=>?_;subst q2
 refine aB (oR hv) λa k1 hx=>?_;subst k1
 exact k x a he hx
theorem Md {f:List Int->Option V} {c:List Value->Sem Value} {l:List V} {as:List Value} {v:V} {af:ag} (he:jV (Ci H f) l=some (v,af)) (R:ak g J H s.heap) (hv:bi g J s.heap l as)
  (k:∀ a l vs ns,iQ g J s.heap a l vs->dA l=some ns->f ns=some v->wpAny (model g.prog g.w) A (c [.ref a]) (bB g J s v H) E s):wpAny (model g.prog g.w) A (c as) (bB g J s v af) E s:=by
 refine mz he hv λx a he hx=>?_
 refine xq he λl' w hl he=>?_
 refine aT he λns hn he=>?_
 refine aT he λu hu he=>?_
 refine aR (nE he) λq1 q2=>?_;subst q1 q2
 refine gA (CB hl R hx) λc' vs q3 Bu=>?_;apply aV q3
 exact k c' l' vs ns Bu hn hu
theorem Hm {f:Int->Int->Int} {c:List Value->Sem Value} {l:List V} {as:List Value} {v:V} {af:ag} (he:D5 (Cj H f) l=some (v,af)) (hv:bi g J s.heap l as)
  (k:∀ i j t u,wpAny (model g.prog g.w) A (c [.int i t,.int j u]) (bB g J s (.int (f i j)) H) E s):wpAny (model g.prog g.w) A (c as) (bB g J s v af) E s:=by
 refine gA (xY he) λx y q3 he=>?_;subst q3
 refine kF (wa hv) λa b k2 hx hy=>?_;subst k2
 refine aT he λi hi he=>?_
 refine aT he λj hj he=>?_
 apply cU he
 apply we hi hx;intro t
 apply we hj hy;intro u
 exact k i j t u
set_option tactic.hygienic true in
theorem B3 {x:V} {a:Value} {v:V} {af:ag} (he:Ma H x=some (v,af)) (R:ak g J H s.heap) (hx:VR g J s.heap x a):wpAny (model g.prog g.w) A (call (.builtin "len") [a]) (bB g J s v af) E s:=by
 have sq:∀ {x:V},VR g J s.heap x a->((jf H x).bind λp=>some (V.int p.1.length,H))=some (v,af)->wpAny (model g.prog g.w) A (call (.builtin "len") [a]) (bB g J s v af) E s:=λhx he=>by
  refine xq he λl' w hl he=>?_
  apply cU he
  refine gA (CB hl R hx) λc' vs q3 Bu=>?_;apply aV q3
  exact E4 R Bu
 revert he sq;apply VR.el hx
 case str =>
  intro y t he sq
  refine dL he λhz he=>?_
  apply cU he
  exact PyProof.Rows.len_str (XU.mpr (Vw.mpr (UR hz (by decide)))) (bB.here R (.int _ _))
 case ref=>intro _ _ hr he sq;exact sq (.ref hr) he
 case tup=>intro _ _ _ h1 h2 h3 h4 he sq;exact sq (.tup h1 h2 h3 h4) he
 case ro=>intro _ _ _ h1 h2 h3 he sq;exact sq (.ro h1 h2 h3) he
 all_goals (intros;rename_i he sq;exact no he)
theorem pf {x:V} {a:Value} {v:V} {af:ag} (he:((r9 x).bind λr=>(lst H r).bind λl=>m7 H l)=some (v,af)) (R:ak g J H s.heap) (hx:VR g J s.heap x a):wpAny (model g.prog g.w) A (call (.type "tuple") [a]) (bB g J s v af) E s:=by
 refine aT he λr hr he=>?_
 refine aT he λl hl he=>?_
 refine iK (jo he) λhz q2 q3=>?_;apply aV q2;apply aV q3
 apply Na hr hx;intro c hr
 refine ew (R.list hr hl) λvs hl hv z=>?_
 refine call_tuple_list hl.isList (λh' hk=>?_) (by rw[UM,<-hv.length];exact hz)
 exact bB.newT (tk:=s.toks) R (UX hz) hv (λb o e=>G' _ (hk b o e)) (eV hk (aD _)) (fG _ _)
theorem pD {x:V} {a:Value} {v:V} {af:ag} (he:((uJ x).bind λl=>qk H l)=some (v,af)) (R:ak g J H s.heap) (hx:VR g J s.heap x a):wpAny (model g.prog g.w) A (call (.type "list") [a]) (bB g J s v af) E s:=by
 refine aT he λl hl he=>?_
 refine iK (fX he) λhz q2 q3=>?_;apply aV q2;apply aV q3
 refine H3 (vT hl hx) λc vs q3 ht z hv z=>?_;apply aV q3
 obtain ⟨o,ho,hc,n,hd⟩:=id ht
 refine call_list_seq c (.inr rfl) ho hc hd (λh' c' hk hS=>?_) (by rw[UM,<-hv.length];exact hz)
 exact bB.newL (tk:=s.toks) R (UX hz) hv hk (aD _) ⟨_,hS⟩
theorem rn {x:V} {a:Value} {v:V} {af:ag} (he:((HN x).bind λb=>some (V.int (if b then 1 else 0),H))=some (v,af)) (R:ak g J H s.heap) (hx:VR g J s.heap x a):wpAny (model g.prog g.w) A (call (.type "int") [a]) (bB g J s v af) E s:=by
 refine aT he λb hb he=>?_
 apply cU he
 apply aV (vB hb hx)
 exact call_int_bool (bB.here R (.int _ _))
inductive KR (h:Heap):wo->Value->Prop
 | none:KR h .none .none
 | bool (b:Bool):KR h .bool (.bool b)
 | int (i:Int) (t:Tok):KR h .int (.int i t)
 | str (x:Str) (t:Tok):KR h .str (.str x t)
 | tup {c:Addr} {o:Obj}:h.get? c=some o->o.cls=.type "tuple" -> KR h .tup (.ref c)
 | lst {c:Addr} {o:Obj}:h.get? c=some o->o.cls=.type "list" -> KR h .lst (.ref c)
theorem LW {x:V} {a:Value} {k:wo} (hk:G5 H x=some k) (R:ak g J H s.heap) (hx:VR g J s.heap x a):KR s.heap k a:=by
 cases hx with
 | none=>apply dE hk;exact .none
 | bool b=>apply dE hk;exact .bool b
 | int i t=>apply dE hk;exact .int i t
 | str i t=>apply dE hk;exact .str i t
 | tup ht _ _ _=>apply dE hk;refine ew ht λo ho hc z=>?_;exact .tup ho hc
 | ref hr =>
  refine aT hk λl hl hk=>?_
  apply dE hk
  refine aB (R.list hr hl) λvs k3 z=>?_;refine N' k3 λn ho=>?_
  exact .lst ho rfl
 | ro _ _ _=>exact no hk
theorem xd {f:wo->Bool} {x:V} {a:Value} {v:V} {af:ag} {T:String} (he:PN H f x=some (v,af)) (R:ak g J H s.heap) (hx:VR g J s.heap x a)
  (h:∀ k,KR s.heap k a->(∀ tk,bB g J s (.bool (f k)) H (.bool (f k)) {s with toks:=tk})->wpAny (model g.prog g.w) A (call (.builtin "isinstance") [a,.type T]) (bB g J s (.bool (f k)) H) E s) :
  wpAny (model g.prog g.w) A (call (.builtin "isinstance") [a,.type T]) (bB g J s v af) E s:=by
 refine aT he λk hk he=>?_
 apply cU he
 exact h k (LW hk R hx) λtk=>bB.here R (.bool _)
theorem yI {k:wo} {a:Value} {Q:Value->Shared->Prop} (hk:KR s.heap k a) (h:∀ tk,Q (.bool k.isTup) {s with toks:=tk}):wpAny (model g.prog g.w) A (call (.builtin "isinstance") [a,.type "tuple"]) Q E s:=by
 cases hk with
 | none=>exact IsiPair.NoneType_tuple (h _)
 | bool _=>exact IsiPair.bool_tuple (h _)
 | int _ _=>exact IsiPair.int_tuple (h _)
 | str _ _=>exact IsiPair.str_tuple (h _)
 | tup ho hc=>exact IsiPair.tuple_tuple ho hc (h s.toks)
 | lst ho hc=>exact IsiPair.list_tuple ho hc (h _)
theorem yH {k:wo} {a:Value} {Q:Value->Shared->Prop} (hk:KR s.heap k a) (h:∀ tk,Q (.bool k.isLst) {s with toks:=tk}):wpAny (model g.prog g.w) A (call (.builtin "isinstance") [a,.type "list"]) Q E s:=by
 cases hk with
 | none=>exact IsiPair.NoneType_list (h _)
 | bool _=>exact IsiPair.bool_list (h _)
 | int _ _=>exact IsiPair.int_list (h _)
 | str _ _=>exact IsiPair.str_list (h _)
 | tup ho hc=>exact IsiPair.tuple_list ho hc (h _)
 | lst ho hc=>exact IsiPair.list_list ho hc (h s.toks)
theorem tH {p:iO} {l:List V} {as:List Value} {v:V} {af:ag} (he:fY p l H=some (v,af)) (hh:A.handled=none) (EJ:∃ o,g.B.get? sysModules=some o) (R:ak g J H s.heap) (hv:bi g J s.heap l as) :
  wpAny (model g.prog g.w) A (kY p as) (bB g J s v af) E s:=by
 cases p with
 | len=>exact mz he hv λx a he hx=>B3 he R hx
 | sum=>exact Md he R hv λa l vs ns Bu hn hu=>sm hu ▸ FF hh R Bu hn
 | max1=>exact no he
 | min1=>exact no he
 | minD=>exact no he
 | min2 =>
  refine Hm he hv λi j t u=>?_
  ·refine min_two_ints hh λh' tk hk=>?_
   by_cases hc:j<i
   ·rw[if_pos hc,WV (Wt hc)];exact bB.grown R hk (.int _ _)
   ·rw[if_neg hc,Xb (Vj.mp hc)];exact bB.grown R hk (.int _ _)
 | max2 =>
  refine Hm he hv λi j t u=>?_
  ·refine max_two_ints hh λh' tk hk=>?_
   by_cases hc:j > i
   ·rw[if_pos hc,WX (Wt hc)];exact bB.grown R hk (.int _ _)
   ·rw[if_neg hc,XG (Vj.mp hc)];exact bB.grown R hk (.int _ _)
 | tuple=>exact mz he hv λx a he hx=>pf he R hx
 | list=>exact mz he hv λx a he hx=>pD he R hx
 | str=>exact no he
 | int=>exact mz he hv λx a he hx=>rn he R hx
 | isInt=>exact no he
 | isBool=>exact no he
 | isTuple=>exact mz (c:=λas=>call (.builtin "isinstance") (as++[.type "tuple"])) he hv λx a he hx=>xd he R hx λk hk q=>yI hk q
 | isStr=>exact no he
 | isList=>exact mz (c:=λas=>call (.builtin "isinstance") (as++[.type "list"])) he hv λx a he hx=>xd he R hx λk hk q=>yH hk q
 | sorted =>
  refine mz he hv λx a he hx=>?_
  ·refine aT he λr hr he=>?_
   refine aT he λl hl he=>?_
   apply Na hr hx;intro c hr
   exact v3 hh EJ R hr hl he
end
noncomputable def oK:fN->Str
 | .append => "append" | .extend => "extend" | .find => "find" | .get => "get" | .join => "join"
noncomputable def oJ:fN->String
 | .append => "list.append" | .extend => "list.extend" | .find => "str.find" | .get => "dict.get" | .join => "str.join"
noncomputable def oL:fN->String
 | .append => "list" | .extend => "list" | .find => "str" | .get => "dict" | .join => "str"
theorem oM (m:fN):PlainAttrs (oL m):=by
 cases m
 ·exact PySem.F.plainAttrs_list
 ·exact PySem.F.plainAttrs_list
 ·exact PySem.F.plainAttrs_str
 ·exact PySem.F.plainAttrs_dict
 ·exact PySem.F.plainAttrs_str
theorem qh (m:fN):Slot (oL m) (oK m) (oJ m):=by
 cases m
 ·exact PySem.F.slot_list_append
 ·exact PySem.F.slot_list_extend
 ·exact PySem.F.slot_str_find
 ·exact PySem.F.slot_dict_get
 ·exact PySem.F.slot_str_join
theorem qi (m:fN):typeOf (.builtin (oJ m))=pure (.type "method_descriptor"):=by
 cases m
 ·exact PySem.F.type_list_append
 ·exact PySem.F.type_list_extend
 ·exact PySem.F.type_str_find
 ·exact PySem.F.type_dict_get
 ·exact PySem.F.type_str_join
section
variable {g:G} {A:Around} {E:Value->Shared->Prop} {J:List Addr} {H:ag} {s:Shared}
theorem tI {m:fN} {x:V} {a:Value} (hr:m8 m x H=true) (R:ak g J H s.heap) (hx:VR g J s.heap x a) :
  s.TypeIs a (oL m)/\∀ c,a=.ref c->∃ ob,s.heap.get? c=some ob/\ob.dict=none:=by
 have L:((r9 x).bind (lst H)).isSome=true->s.TypeIs a "list" /\ ∀ d,a=.ref d->∃ ob,s.heap.get? d=some ob/\ob.dict=none:=λh=>by
  refine N' (Vr.mp h) λl h=>?_
  refine aB (ob h) λr h1 hl=>?_
  refine aB (vR h1 hx) λc k1 h1=>?_;apply aV k1
  refine aB (R.list h1 hl) λvs k2 z=>?_;refine N' k2 λn ho=>?_
  exact⟨⟨_,ho,rfl⟩,λd e=>⟨_,Value.ref.inj e ▸ ho,rfl⟩⟩
 have S:(zY x).isSome=true->s.TypeIs a "str" /\ ∀ d,a=.ref d->∃ ob,s.heap.get? d=some ob/\ob.dict=none:=λh=>by
  refine N' (Vr.mp h) λy h=>?_
  refine N' (vS h hx) λt k3=>?_;apply aV k3
  exact⟨typeIs_str s y t,λc e=>nomatch e⟩
 cases m with
 | append=>exact L hr
 | extend=>exact L hr
 | find=>exact S hr
 | join=>exact S hr
 | get=>exact nomatch hr
theorem bB.putL {r:Nat} {a:Addr} {l PF:List V} {ws:List Value} {h':Heap} (R:ak g J H s.heap) (hr:J[r]? = some a) (a6:H[r]? = some (.lst PF)) (hs:Heap.SameBut a s.heap h')
  (hl:h'.PlainList a ws.toArray) (hz:l.length<=ar+1) (hv:bi g J s.heap l ws):SE J s.heap J h'/\ak g J (H.set r (.lst l)) h':=by
 have ha:a∈J:=Ui hr
 have S:SE J s.heap J h':=SE.put ha hs (by refine N' hl λn e=>?_;exact⟨_,e⟩)
 exact⟨S,R.put hr a6 (λb o hb e=>hs.extBut b o hb e) (.lst hl hz (hv.step R S)) λq e=>nomatch e⟩
theorem uH {x y:V} {a b:Value} {v:V} {af:ag} (he:xm H x y=some (v,af)) (R:ak g J H s.heap) (hx:VR g J s.heap x a) (hy:VR g J s.heap y b) :
  v=.none/\wpAny (model g.prog g.w) A (call (.builtin "list.append") [a,b]) (bB g J s .none af) E s:=by
 refine aB (ob he) λr hr he=>?_
 refine aB (ob he) λl Lg he=>?_
 refine aR (cy he) λhz he=>?_
 refine aR (nE he) λk8 k9=>?_;apply ez k8;subst k9
 refine aB (vR hr hx) λc ER hr=>?_;apply aV ER
 refine ew (R.list hr Lg) λvs hl hv z=>?_
 refine⟨rfl,wpAny_list_append_plain hl (λh' hl2 hs=>?_) (by rw[UM,<-hv.length];exact hz)⟩
 have OH:h'.PlainList c (vs++[b]).toArray:=by simpa using hl2
 refine aR (bB.putL (l:=l++[y]) R hr (oC Lg) hs OH (by simp;exact hz) (hv.append (bi.one hy))) λS R'=>?_
 exact⟨J,S,R',.none,rfl,rfl,rfl⟩
theorem u3 {x y:V} {a b:Value} {v:V} {af:ag} (he:nA H x y=some (v,af)) (R:ak g J H s.heap) (hx:VR g J s.heap x a) (hy:VR g J s.heap y b) :
  v=.none/\wpAny (model g.prog g.w) A (call (.builtin "list.extend") [a,b]) (bB g J s .none af) E s:=by
 refine aB (ob he) λr hr he=>?_
 refine aB (ob he) λq hq he=>?_
 refine aB (ob he) λl1 h1 he=>?_
 refine aB (ob he) λl2 h2 he=>?_
 refine aR (cy he) λhz he=>?_
 refine aR (nE he) λES ET=>?_;apply ez ES;subst ET
 refine aB (vR hr hx) λc LN hr=>?_;apply aV LN
 refine aB (vR hq hy) λd LO hq=>?_;apply aV LO
 refine ew (R.list hr h1) λvs vz MX z=>?_;refine N' vz λn1 o1=>?_
 refine ew (R.list hq h2) λws Pp LB z=>?_;refine N' Pp λn2 o2=>?_
 have Br:vs.toArray.size+ws.toArray.size<=sizeLine:=by rw[UM,UM,<-MX.length,<-LB.length];exact hz.1
 refine⟨rfl,call_meets PySem.F.slot_list_extend ⟨_,o1,rfl⟩ PySem.F.entry_list_extend (PySem.F.args_list_extend_2 _ _)
  (AutoSeq1.list_extend_list_list_0 c vs.toArray n1 d ws.toArray n2 (extend_door Br) (by exact jL (y4 0xc1310b1010b20813ba230 rfl (iL Br) (iP _) (iA _ _))) (by exact jL (y3 0xc2010b1013ba1812 rfl (iL Br) (iA _ _)))) ⟨o1,o2,?_⟩⟩
 have rm:(s.heap.update c (Obj.mapSeq λx=>x++ws.toArray)).PlainList c (vs++ws).toArray:=by
  have e:=V3 (Obj.mapSeq λx=>x++ws.toArray) o1 rfl
  simp only[Obj.mapSeq,List.append_toArray] at e
  exact⟨_,e⟩
 refine aR (bB.putL (l:=l1++l2) R hr (oC h1) (Heap.SameBut.update ..) rm (by simp;exact UX hz.1) (MX.append LB)) λS R'=>?_
 exact⟨J,S,R',.none,rfl,rfl,rfl⟩
theorem A4 {x y:V} {a b:Value} {v:V} {af:ag} (he:Ha H x y=some (v,af)) (R:ak g J H s.heap) (hx:VR g J s.heap x a) (hy:VR g J s.heap y b) :
  wpAny (model g.prog g.w) A (call (.builtin "str.find") [a,b]) (bB g J s v af) E s:=by
 refine aB (ob he) λp hp he=>?_
 refine aB (ob he) λq hq he=>?_
 refine aR (nE he) λTx Pq=>?_;apply ez Tx;subst Pq
 refine N' (vS hp hx) λt Tz=>?_;apply aV Tz
 refine N' (vS hq hy) λu Pt=>?_;apply aV Pt
 exact SC.find (bB.here R (.int _ _))
theorem B8 {m:fN} {x:V} {a:Value} {l:List V} {as:List Value} {v:V} {af:ag} (he:ik m x l H=some (v,af)) (EJ:∃ o,g.B.get? sysModules=some o) (R:ak g J H s.heap) (hx:VR g J s.heap x a) (hv:bi g J s.heap l as) :
  wpAny (model g.prog g.w) A (call (.builtin (oJ m)) (a::as)) (bB g J s v af) E s:=by
 cases m with
 | append =>
  refine aB (eu he) λy TD he=>?_;subst TD
  refine aB (oR hv) λb TE hy=>?_;subst TE
  refine aR (uH (A:=A) (E:=E) he R hx hy) λPx h=>?_;apply aV Px
  exact h
 | extend =>
  refine aB (eu he) λy TF he=>?_;subst TF
  refine aB (oR hv) λb TG hy=>?_;subst TG
  refine aR (u3 (A:=A) (E:=E) he R hx hy) λLP h=>?_;apply aV LP
  exact h
 | find =>
  refine aB (eu he) λy TH he=>?_;subst TH
  refine aB (oR hv) λb TJ hy=>?_;subst TJ
  exact A4 he R hx hy
 | join=>exact no he
 | get=>exact no he
theorem zs {m:fN} {x:V} {l:List V} {v:V} {af:ag} (hm:m.isStep=true) (he:ik m x l H=some (v,af)):v=.none:=by
 cases m with
 | append =>
  refine aB (eu he) λy TN he=>?_;apply aV TN
  refine aB (ob he) λr hr he=>?_
  refine aB (ob he) λl Lg he=>?_
  exact (nE (cy he).2).1.symm
 | extend =>
  refine aB (eu he) λy TP he=>?_;apply aV TP
  refine aB (ob he) λr hr he=>?_
  refine aB (ob he) λq hq he=>?_
  refine aB (ob he) λl1 h1 he=>?_
  refine aB (ob he) λl2 h2 he=>?_
  exact (nE (cy he).2).1.symm
 | _=>cases hm
end
section
variable {g:G} {A:Around} {E:Value->Shared->Prop} {J:List Addr} {H:ag} {s:Shared}
theorem Cx {c:Addr} {vs:List Value} {k:Int} {t:Tok} {v:Value} {Q:Unit->Shared->Prop} (hl:s.heap.PlainList c vs.toArray) (h0:0<=k) (hj:k.toNat<vs.length) (vg:Builtin.List.listFitsIndex k=true)
  (hQ:∀ h',h'.PlainList c (vs.set k.toNat v).toArray->Heap.SameBut c s.heap h'->Q () {s with heap:=h'}) :
  wpAny (model g.prog g.w) A (setItem (.ref c) (.int k t) v) Q E s:=by
 refine N' (id hl) λn ho=>?_
 obtain ⟨j,GF⟩:∃ j,j=k.toNat:=⟨_,rfl⟩
 rw[<-GF] at hj hQ
 have rm:(s.heap.update c (Obj.mapSeq (·.setIfInBounds j v))).PlainList c (vs.set j v).toArray:=by
  have e:=V3 (Obj.mapSeq (·.setIfInBounds j v)) ho rfl
  simp only[Obj.mapSeq,List.setIfInBounds_toArray] at e
  exact⟨_,e⟩
 unfold setItem
 try with_reducible refine wpAny_holding ?_
 refine wpAny_bind (wpAny_sequenceKey hl.isList.typeIs (by decide) ?_)
 refine wpAny_bind (wpAny_callSpecial?_slot (name:=WW "__setitem__") hl.isList.typeIs PySem.slot_list_setitem
  (wpAny_call_entry PySem.slot_list_setitem hl.isList.typeIs PySem.entry_list_setitem ?_ (PySem.args_list_setitem _ _ _)))
 show wpAny _ _ (Builtin.List.listSubscript? (.int k t)>>=_) _ _ s
 refine wpAny_bind (wpAny_listSubscript_int vg ?_)
 refine N' (Ye h0) λj' q2=>?_;subst q2
 have SJ:j=j':=by simpa using GF
 clear vg h0 GF
 apply ez SJ
 show wpAny _ _ ((seqItemAt c j>>=λr=>pure (r.map (j,·)))>>=_) _ _ s
 refine wpAny_bind (wpAny_bind (wpAny_seqItemAt ho rfl (wpAny_pure ?_)))
 rw[show vs.toArray[j]? = some vs[j] by simp [hj]]
 show wpAny _ _ (setSeqItemAt c j v>>=_) _ _ s
 refine wpAny_bind (wpAny_setSeqItemAt ho rfl ?_)
 first
  | exact wpAny_bind (wpAny_pure (wpAny_pure ⟨.none,rfl,wpAny_pure (hQ _ rm (Heap.SameBut.update ..))⟩))
  | exact wpAny_pure ⟨.none,rfl,wpAny_pure (hQ _ rm (Heap.SameBut.update ..))⟩
theorem sG {κ:Type} [DecidableEq κ] {h:Heap} {k:κ} {v:V} {a:Value} (MY:VR g J h v a) {l:List (κ×V)}:∀ {kvs:List (κ×Value)},kvs.map (·.1)=l.map (·.1)->(kvs.map (·.1)).Nodup->bi g J h (l.map (·.2)) (kvs.map (·.2)) ->
  (stored kvs k a).map (·.1)=(gc l k v).map (·.1)/\bi g J h ((gc l k v).map (·.2)) ((stored kvs k a).map (·.2)):=by
 induction l with
 | nil=>intro kvs hk _ _;rw[List.map_eq_nil_iff.mp hk];exact⟨rfl,.cons MY .nil⟩
 | cons p l ih =>
  intro kvs hk hn hv
  cases kvs with
  | nil=>exact nomatch hk
  | cons p' kvs =>
  cases p with | mk p q =>
  cases p' with | mk p' q' =>
  refine aR (List.cons.inj hk) λz8 ut=>?_
  apply ez (show p'=p from z8)
  have hn:=VP.mp hn
  cases hv with
  | cons MX LB =>
   by_cases GK:p'=k
   ·apply ez GK
    have e1:stored ((p',q')::kvs) p' a=(p',a)::kvs:=by
     unfold stored
     simp only[YG,decide_true,Bool.true_or,if_true,U2]
     rw[map_store_of_not_mem kvs p' a hn.1]
    have e2:gc ((p',q)::l) p' v=(p',v)::l:=by simp only[gc,if_true]
    rw[e1,e2]
    exact⟨congrArg (p' :: ·) ut,.cons MY LB⟩
   ·obtain ⟨i1,i2⟩:=ih ut hn.2 LB
    have e1:stored ((p',q')::kvs) k a=(p',q')::stored kvs k a:=by
     unfold stored
     simp only[YG,decide_eq_false GK,YI]
     split
     ·simp [GK]
     ·rfl
    have e2:gc ((p',q)::l) k v=(p',q)::gc l k v:=by simp only[gc,if_neg GK]
    rw[e1,e2]
    exact⟨congrArg (p' :: ·) i1,.cons MX i2⟩
theorem qS {prog:Program} {w:World} {ZF:Type} [DecidableEq ZF] {knd:KeyKind prog w ZF} {h:Heap} {a:Addr} {kvs:List (ZF×Value)} (x:h.DictOf knd a kvs):(kvs.map (·.1)).Nodup:=AT x λz z z r=>r.2.2.2.2.2
theorem ak.putM {r:Nat} {c:Addr} {m B9:aZ} {h':Heap} (R:ak g J H s.heap) (hr:J[r]? = some c) (a6:H[r]? = some B9) (hs:Heap.SameBut c s.heap h') (hd:∃ o,h'.get? c=some o)
  (hm:SE J s.heap J h'->MR g J h' m c) (Iw:∀ q,B9=.tab q->m=.tab q):SE J s.heap J h'/\ak g J (H.set r m) h':=by
 have S:SE J s.heap J h':=SE.put (Ui hr) hs hd
 exact⟨S,R.put hr a6 (λb o hb e=>hs.extBut b o hb e) (hm S) Iw⟩
theorem Fj {l:List V} {r:Nat} {c:Addr} {i v:V} {ai av:Value} {af:ag} {Q:Unit->Shared->Prop} (he:((pg i).bind λk=>if 0<=k/\k.toNat<l.length then some (H.set r (.lst (l.set k.toNat v))) else none)=some af) (R:ak g J H s.heap) (hr:J[r]? = some c) (h1:H[r]? = some (.lst l)) (hi:VR g J s.heap i ai) (hv:VR g J s.heap v av)
  (h:∀ h' tk,SE J s.heap J h'->ak g J af h'->Q () {s with heap:=h',toks:=tk}):wpAny (model g.prog g.w) A (setItem (.ref c) ai av) Q E s:=by
 have sz:ar+1=16777217:=rfl
 refine ew (R.list hr (cT h1)) λvs hl Ab hz=>?_
 refine aT he λk hk he=>?_
 refine aR (cy he) λk1 he=>?_;refine aR k1 λjH z8=>?_
 obtain rfl:=sm he
 refine N' (vI hk hi) λt q2=>?_;subst q2
 refine Cx hl jH (by rw[<-Ab.length];exact z8) (fitsIndex_of (by exact y1 0xc00810b008 rfl jH) (uK jH z8 hz)) λh' fT lE=>?_
 refine aR (bB.putL (l:=l.set k.toNat v) R hr h1 lE fT (by simpa using hz) (bi.set hv k.toNat Ab)) λS R'=>?_
 exact h h' _ S R'
theorem Jj {l:List (Str×V)} {r:Nat} {c:Addr} {i v:V} {ai av:Value} {af:ag} {Q:Unit->Shared->Prop} (he:Hs H r l v i=some af) (R:ak g J H s.heap) (hr:J[r]? = some c) (h1:H[r]? = some (.ds l)) (hi:VR g J s.heap i ai) (hv:VR g J s.heap v av)
  (h:∀ h' tk,SE J s.heap J h'->ak g J af h'->Q () {s with heap:=h',toks:=tk}):wpAny (model g.prog g.w) A (setItem (.ref c) ai av) Q E s:=by
 cases R.objs _ _ _ hr h1 with
 | @ds _ _ kvs hd hk Ab =>
  have cm:kvs.length=l.length:=by have:=congrArg Zc hk;simpa using this
  cases hi with
  | str k t =>
   refine dL he λhz he=>?_
   obtain rfl:=sm he
   refine wpAny_setItem_pairs (strKind_is g.prog g.w k t) hd (λh' i7 lE=>?_) (by rw[cm];exact hz)
   refine aR (sG hv hk (qS hd) Ab (k:=k)) λi1 i2=>?_
   refine aR (R.putM (m:=.ds (gc l k v)) hr h1 lE (by refine mQ i7 λo z z ho z=>?_;exact⟨o,ho⟩) (λS=>.ds i7 i1 (i2.step R S)) λq e=>nomatch e) λS R'=>?_
   exact h h' _ S R'
  | _=>exact no he
theorem Fk {o i v:V} {ao ai av:Value} {af:ag} {Q:Unit->Shared->Prop} (he:oZ o i v H=some af) (R:ak g J H s.heap) (ho:VR g J s.heap o ao) (hi:VR g J s.heap i ai) (hv:VR g J s.heap v av)
  (h:∀ h' tk,SE J s.heap J h'->ak g J af h'->Q () {s with heap:=h',toks:=tk}) :
  wpAny (model g.prog g.w) A (setItem ao ai av) Q E s:=by
 refine aT he λr hr he=>?_
 refine aT he λm hm he=>?_
 apply Na hr ho;intro c hr
 cases m with
 | lst l=>exact Fj he R hr hm hi hv h
 | ds l=>exact Jj he R hr hm hi hv h
 | own=>exact no he
 | wd _=>exact no he
 | exn _ _=>exact no he
 | tab _=>exact no he
end
theorem kX {α:Type} {P:α->Prop} {a:α} (h:P a):∀ b∈[a],P b:=λz hb=>O'.mp hb ▸ h
theorem tq {α:Type} {P:α->Prop} {a c:α} (h:P a) (k:P c):∀ b∈[a,c],P b:=λb hb=>(Uh.mp hb).elim (λe=>e ▸ h) (kX k b)
theorem E5 {α:Type} {P:α->Prop}:∀ b∈([]:List α),P b:=λz hb=>absurd hb V6
theorem L9 {α:Type} {P:α->Prop} {l m:List α} (h:∀ b∈l,P b) (k:∀ b∈m,P b):∀ b,b∈l\/b∈m->P b:=λb hb=>hb.elim (h b) (k b)
theorem QX {α:Type} {a b:α} (h:b∉[a]):b≠a:=λe=>h (O'.mpr e)
noncomputable def Mv (wr J:List Addr) (h h':Heap):Prop:=∀ b o,b∉wr->b∉J->h.get? b=some o->h'.get? b=some o
noncomputable def eh (h:Heap) (b:Addr):Prop:=∃ o,h.get? b=some o/\DP o
theorem jq {o:Obj} {vs:Array Value} {n:String} (hc:o.cls=.type n) (hd:o.data=.fields vs) (hn:n ≠ "code"):DP o :=
 ⟨(λz z q=>nomatch hd.symm.trans q),(λz z q=>nomatch hd.symm.trans q),λq=>absurd (hc.symm.trans q) λq=>hn (by injection q)⟩
theorem DP.not {o:Obj} (x:DP o):¬ iM o:=by
 rintro (⟨_,_,_,h⟩ | ⟨h1,_,h2⟩)
 ·exact x.seq _ _ h
 ·exact x.code h1 _ h2
noncomputable def wm (h:Heap) (b:Addr):Prop:=∃ o ca n,h.get? b=some o/\o.data=.seq ca n
noncomputable def rR (two:Bool) (t:Expr):Prop:=(∃ es k p,t=.Tuple es k p)\/(two=false/\∃ x p,t=.Name x p)
structure pn (g:G) (A:Around) (I:Addr) (xs:List V) (w:List (Nat×aZ)) (two:Bool) (ys:List V) (vs:List Value) (wr kp:List Addr) (St:Nat->Heap->Prop) (r8:Nat->Value->Heap->Prop):Prop where
 frame:∀ i h h',St i h->(∀ b,b∈wr\/b∈kp->∀ o,h.get? b=some o->h'.get? b=some o)->St i h'
 wrN:∀ i h,St i h->∀ b∈wr,eh h b
 wrM:∀ i a h,r8 i a h->∀ b∈wr,eh h b
 kpN:∀ i h,St i h->∀ b∈kp,wm h b
 item:∀ i J H (s:Shared) (Q:Option Value->Shared->Prop) (E:Value->Shared->Prop) x,St i s.heap->ak g J H s.heap->bi g J s.heap ys vs->ci H w->(∀ b,b∈wr\/b∈kp->b∉J)->(∀ b∈wr,g.B.get? b=none)->xs[i]? = some x ->
  (∀ a h' tk,Mv wr J s.heap h'->ak g J H h'->VR g J h' x a->r8 i a h'->Q (some a) {s with heap:=h',toks:=tk})->wpAny (model g.prog g.w) A (pyNext (.ref I)) Q E s
 go:∀ t,rR two t->∀ i J H a (s:Shared) (Q:Unit->Shared->Prop) (E:Value->Shared->Prop),r8 i a s.heap->ak g J H s.heap->(∀ b,b∈wr\/b∈kp->b∉J)->(∀ b∈wr,g.B.get? b=none) ->
  (∀ h',Mv wr J s.heap h'->ak g J H h'->St (i+1) h'->Q () {s with heap:=h'})->wpAny (model g.prog g.w) A (letOwnedTupleGo t (.ref I) a) Q E s
 done:∀ J H (s:Shared) (Q:Option Value->Shared->Prop) (E:Value->Shared->Prop),St xs.length s.heap->ak g J H s.heap->bi g J s.heap ys vs->ci H w->(∀ b,b∈wr\/b∈kp->b∉J)->(∀ b∈wr,g.B.get? b=none) ->
  (∀ h' tk,Mv wr J s.heap h'->ak g J H h'->Q none {s with heap:=h',toks:=tk})->wpAny (model g.prog g.w) A (pyNext (.ref I)) Q E s
 self:∀ i (s:Shared) (Q:Value->Shared->Prop) (E:Value->Shared->Prop),St i s.heap->Q (.ref I) s->wpAny (model g.prog g.w) A (pyIter (.ref I)) Q E s
section
variable {g:G} {A:Around} {E:Value->Shared->Prop} {J:List Addr} {H:ag} {s:Shared} {wr:List Addr}
theorem Mv.tup {h h':Heap} (M:Mv wr J h h') (hw:∀ b∈wr,eh h b):∀ b o,h.get? b=some o->iM o->b∉J->h'.get? b=some o/\b∉J :=
 λb o e hs hn=>⟨M b o (λhb=>(hw b hb).elim λo' k=>k.2.not (sm (e.symm.trans k.1) ▸ hs)) hn e,hn⟩
theorem Mv.vr {h h':Heap} (M:Mv wr J h h') (hw:∀ b∈wr,eh h b) {v:V} {a:Value} (x:VR g J h v a):VR g J h' v a:=x.stepT (λz z e=>e) (M.tup hw)
theorem Mv.vrs {h h':Heap} (M:Mv wr J h h') (hw:∀ b∈wr,eh h b) {l:List V} {vs:List Value} (x:bi g J h l vs):bi g J h' l vs:=x.stepT (λz z e=>e) (M.tup hw)
theorem ak.mv {h h':Heap} (R:ak g J H h) (M:∀ b o,b∉wr->h.get? b=some o->h'.get? b=some o) (hw:∀ b∈wr,eh h b) (hn:∀ b∈wr,b∉J) (hB:∀ b∈wr,g.B.get? b=none):ak g J H h':=by
 have M':Mv wr J h h':=λb o h1 z e=>M b o h1 e
 refine⟨λb o e=>M b o (λhb=>by rw[hB b hb] at e;cases e) (R.base b o e),R.fresh,R.len,R.nodup,λi a m h1 h2=>?_,R.tabs⟩
 exact (R.objs i a m h1 h2).stepT (λz z e=>e) (M'.tup hw) λo e=>M _ o (λhb=>hn _ hb (Ui h1)) e
theorem Mv.all {h h':Heap} (M:∀ b o,b∉wr->h.get? b=some o->h'.get? b=some o):Mv wr J h h':=λb o h1 z e=>M b o h1 e
noncomputable def IR (n:String):Prop:=["enumerate", "zip", "dict_itemiterator", "dict_reverseitemiterator", "odict_iterator", "itertools.zip_longest", "itertools.pairwise"].contains n=false
theorem kR {t:Expr} {I:Addr} {a:Value} {o:Obj} {n:String} {Q:Unit->Shared->Prop} (ht:rR false t) (ho:s.heap.get? I=some o) (hc:o.cls=.type n) (hn:IR n) (h:Q () s) :
  wpAny (model g.prog g.w) A (letOwnedTupleGo t (.ref I) a) Q E s:=by
 refine ht.elim (λq=>AT q λes k p q=>?_) λq=>nW q.2 λx p q=>?_
 ·rw[q]
  cases a with
  | ref c =>
   unfold letOwnedTupleGo
   refine wpAny_bind (wpAny_load ho ?_)
   rw[hc]
   cases hd:o.data with
   | fields vs =>
    show wpAny _ _ (if (["enumerate", "zip", "dict_itemiterator", "dict_reverseitemiterator", "odict_iterator", "itertools.zip_longest", "itertools.pairwise"].contains n&&vs[0]? == some (rawInt c))=true then _ else _) Q E s
    rw[show ["enumerate", "zip", "dict_itemiterator", "dict_reverseitemiterator", "odict_iterator", "itertools.zip_longest", "itertools.pairwise"].contains n=false from hn]
    exact wpAny_pure h
   | _=>exact wpAny_pure h
  | _=>exact wpAny_pure h
 ·rw[q];exact wpAny_pure h
theorem qB {r:Nat} {m:aZ} {w:List (Nat×aZ)} (h:ci H ((r,m)::w)):H[r]? = some m:=h _ z'
theorem pn.list (hh:A.handled=none) (I c:Addr) (r:Nat) (l:List V) (fK:c≠I) :
  pn g A I l [(r,.lst l)] false [.ref r] [.ref c] [I] [] (λi h=>h.IsListIter I c i) (λi z h=>h.IsListIter I c (i+1)):=by
 have ns:∀ i h,h.IsListIter I c i->∀ b∈[I],eh h b:=λi h st b hb=>by
  apply aV (O'.mp hb)
  refine ew st λo ho hc hd=>?_
  exact⟨o,ho,jq hc hd (by decide)⟩
 have D8:∀ {J:List Addr} {H:ag} {h:Heap},ak g J H h->bi g J h [.ref r] [.ref c]->ci H [(r,.lst l)]->∃ vs,h.IsList c vs.toArray/\bi g J h l vs:=λ{J H h} R hv hw=>by
  cases hv with
  | cons hv _ =>
   cases hv with
   | ref hr =>
    refine ew (R.list hr (cT (qB hw))) λvs hl Ab z=>?_
    exact⟨vs,hl.isList,Ab⟩
 refine⟨λi h h' st hk=>st.at λo e=>hk I (.inl z') o e,ns,λi a h m=>ns _ h m,λz z z=>E5,?_,?_,?_,λi s Q E st h=>wpAny_pyIter_listiter st h⟩
 ·intro i J H s Q E x st R hv hw hn hB hx hQ
  refine aB (D8 R hv hw) λvs hl Ab=>?_
  refine aB (Ab.get hx) λa ha Tr=>?_
  refine wpAny_pyNext_list_item st hl (x:=a) (U1.trans ha) λh' Im lE=>?_
  have M:∀ b o,b∉[I]->s.heap.get? b=some o->h'.get? b=some o:=λb o hb e=>lE.extBut b o (QX hb) e
  have M':Mv [I] J s.heap h':=Mv.all M
  exact hQ a h' s.toks M' (R.mv M (ns _ _ st) (λb hb=>hn b (.inl hb)) hB) (M'.vr (ns _ _ st) Tr) Im
 ·intro t ht i J H a s Q E m R hn hB hQ
  refine ew (id m) λo ho hc hd=>?_
  exact kR ht ho hc rfl (hQ s.heap (λz z z z e=>e) R m)
 ·intro J H s Q E st R hv hw hn hB hQ
  refine aB (D8 R hv hw) λvs hl Ab=>?_
  refine wpAny_pyNext_list_end hh st hl (by simp [Ab.length]) λh' lE=>?_
  have M:∀ b o,b∉[I]->s.heap.get? b=some o->h'.get? b=some o:=λb o hb e=>lE b o (QX hb) e
  exact hQ h' s.toks (Mv.all M) (R.mv M (ns _ _ st) (λb hb=>hn b (.inl hb)) hB)
theorem pn.walks {I:Addr} {fp kp:List Addr} {xs ys:List V} {vs:List Value} {P:Nat->Value->Prop} {St:Nat->Heap->Prop} {n:String} (W:Walks g.prog g.w A I fp [I] xs.length P St) (Oz:∀ b∈fp,b=I\/b∈kp)
  (hn:IR n) (OP:n ≠ "code")
  (hI:∀ i h,St i h->∃ o vs,h.get? I=some o/\o.cls=.type n/\o.data=.fields vs) (OE:∀ i h,St i h->∀ b∈kp,wm h b)
  (hP:∀ J h i v x,bi g J h ys vs->P i v->xs[i]? = some x->VR g J h x v) :
  pn g A I xs [] false ys vs [I] kp St (λi z h=>St (i+1) h):=by
 have ns:∀ i h,St i h->∀ b∈[I],eh h b:=λi h st b hb=>by
  apply aV (O'.mp hb)
  exact kF (hI i h st) λo vs ho hc hd=>⟨o,ho,jq hc hd OP⟩
 refine⟨λi h h' st hk=>W.frame i h h' st λb hb o e=>hk b ((Oz b hb).imp (λe=>O'.mpr e) id) o e,ns,λi a h m=>ns _ h m,OE,?_,?_,?_,W.self⟩
 ·intro i J H s Q E x st R hv hw j7 hB hx hQ
  refine W.item i s Q E (J'.mp hx).1 st λv h' tk hp st' M=>?_
  have M':Mv [I] J s.heap h':=Mv.all M
  exact hQ v h' tk M' (R.mv M (ns _ _ st) (λb hb=>j7 b (.inl hb)) hB) (hP J h' i v x (M'.vrs (ns _ _ st) hv) hp hx) st'
 ·intro t ht i J H a s Q E m R j7 hB hQ
  refine kF (hI _ _ m) λo vs ho hc hd=>?_
  exact kR ht ho hc hn (hQ s.heap (λz z z z e=>e) R m)
 ·intro J H s Q E st R hv hw j7 hB hQ
  refine W.done s Q E st λh' tk M=>?_
  exact hQ h' tk (Mv.all M) (R.mv M (ns _ _ st) (λb hb=>j7 b (.inl hb)) hB)
noncomputable def xX (g:G) (A:Around) (J:List Addr) (s:Shared) (xs:List V) (w:List (Nat×aZ)) (two:Bool) (af:ag) (a:Value) (s₁:Shared):Prop :=
 ∃ aO,SE J s.heap aO s₁.heap/\ak g aO af s₁.heap/\bz s s₁/\∀ (E:Value->Shared->Prop) (Q:Value->Shared->Prop),
  (∀ I ys vs wr kp St r8 h',pn g A I xs w two ys vs wr kp St r8->St 0 h'->(∀ b o,s₁.heap.get? b=some o->h'.get? b=some o)->bi g aO h' ys vs->(∀ b∈wr,s.heap.get? b=none)->(∀ b,b∈wr\/b∈kp->b∉aO) ->
   (∀ b∈wr,g.B.get? b=none)->Q (.ref I) {s₁ with heap:=h'})->wpAny (model g.prog g.w) A (pyIter a) Q E s₁
theorem aW {h:Heap} {b:Addr} (R:ak g J H h) (hb:h.get? b=none):g.B.get? b=none:=oP λo e=>no (hb.symm.trans (R.base b o e))
theorem aY {h:Heap} {b:Addr} (R:ak g J H h) (hb:h.get? b=none):b∉J:=λx=>(R.live x).elim λo ho=>no (hb.symm.trans ho)
theorem SE.back {J aO:List Addr} {h h':Heap} (S:SE J h aO h') {b:Addr} (hb:h'.get? b=none):h.get? b=none:=oP λo e=>(S.dom b o e).elim λo' e'=>no (hb.symm.trans e')
theorem t0 {c:Addr} {l:List V} {vs:List Value} {n:String} {St:Nat->Heap->Prop} {s₁:Shared} {aO:List Addr} {Q:Value->Shared->Prop} (S:SE J s.heap aO s₁.heap) (R:ak g aO H s₁.heap) (hv:bi g aO s₁.heap l vs) (hn:c∉aO)
  (W:Walks g.prog g.w A s₁.heap.objs.size [s₁.heap.objs.size,c] [s₁.heap.objs.size] vs.toArray.size (λi v=>vs.toArray[i]? = some v) St) (SU:IR n) (OP:n ≠ "code") (hI:∀ i h,St i h->∃ o vs,h.get? s₁.heap.objs.size=some o/\o.cls=.type n/\o.data=.fields vs) (OE:∀ i h,St i h->wm h c)
  (h0:St 0 (s₁.heap.push {cls:=.type n,data:=.fields #[.ref c,.int 0 0]}))
  (h:∀ I ys vs wr kp St r8 h',pn g A I l [] false ys vs wr kp St r8->St 0 h'->(∀ b o,s₁.heap.get? b=some o->h'.get? b=some o)->bi g aO h' ys vs->(∀ b∈wr,s.heap.get? b=none)->(∀ b,b∈wr\/b∈kp->b∉aO) ->
   (∀ b∈wr,g.B.get? b=none)->Q (.ref I) {s₁ with heap:=h'}):Q (.ref s₁.heap.objs.size) {s₁ with heap:=s₁.heap.push {cls:=.type n,data:=.fields #[.ref c,.int 0 0]}}:=by
 rw[show vs.toArray.size=l.length from hv.length.symm] at W
 refine h _ l vs [_] [c] _ _ _ (pn.walks W (λb hb=>(Uh.mp hb).imp id id) SU OP hI (λi h st=>kX (OE i h st)) λJ h i v x hv hp hx=>?_) h0 (λb o e=>G' _ e) (hv.stepT (λz z e=>e) λb o e z hn=>⟨G' _ e,hn⟩)
  (kX (S.back (aD _))) (L9 (kX (aY R (aD _))) (kX hn)) (kX (aW R (aD _)))
 exact aB (hv.get hx) λa ha hr=>sm (ha.symm.trans (U1.symm.trans hp)) ▸ hr
set_option tactic.hygienic true in
theorem FD {x:V} {a:Value} {xs:List V} {w:List (Nat×aZ)} {s₁:Shared} (hh:A.handled=none) (he:jf H x=some (xs,w)) (hp:bB g J s x H a s₁):xX g A J s xs w false H a s₁:=by
 refine qT hp λaO S R hx hS=>?_
 refine⟨aO,S,R,hS,λE Q h=>?_⟩
 revert he h;apply VR.el hx
 case tup =>
  intro l c vs ht hz hv hn he h
  have cE:c<s₁.heap.objs.size:=aB ht λ_ e _=>UU e
  revert h;apply cU he;intro h
  exact wpAny_pyIter_tuple ht (t0 S R hv hn (Walks.tuple (prog:=g.prog) (w:=g.w) hh _ c (UP cE) vs.toArray) rfl (by decide) (λi h st=>ew st.1 λo ho hc hd=>⟨o,_,ho,hc,hd⟩) (λi h st=>ew st.2 λo ho hc hd=>hd.elim λn hd=>⟨o,_,n,ho,hd⟩) ⟨⟨_,Uo _ rfl,rfl,rfl⟩,ht.push _⟩ h)
 case ro =>
  intro ns c vs hl hz hi he h
  have fT:s₁.heap.IsList c vs.toArray:=hl.at λo e=>R.base _ o e
  have cE:c<s₁.heap.objs.size:=aB fT λ_ e _=>UU e
  revert h;apply cU he;intro h
  exact wpAny_pyIter_list fT (t0 S R (w9 hi) (λhm=>aB hl λo ho _=>no ((R.fresh _ hm).symm.trans ho)) (Walks.list (prog:=g.prog) (w:=g.w) hh _ c (UP cE) vs.toArray) rfl (by decide) (λi h st=>ew st.1 λo ho hc hd=>⟨o,_,ho,hc,hd⟩) (λi h st=>ew st.2 λo ho hc hd=>hd.elim λn hd=>⟨o,_,n,ho,hd⟩) ⟨⟨_,Uo _ rfl,rfl,rfl⟩,fT.push _⟩ h)
 case ref =>
  intro r c hr he h
  refine aT he λl' fT he=>?_
  refine ew (R.list hr fT) λvs hl hv hz=>?_
  have cE:c<s₁.heap.objs.size:=hl.elim λ_ e=>UU e
  revert h;apply cU he;intro h
  exact wpAny_pyIter_list hl.isList (h _ [.ref r] [.ref c] [_] [] _ _ _ (pn.list hh s₁.heap.objs.size c r l' (UP cE)) ⟨_,Uo _ rfl,rfl,rfl⟩ (λb o e=>G' _ e) (.one (.ref hr)) (kX (S.back (aD _))) (L9 (kX (aY R (aD _))) E5) (kX (aW R (aD _))))
 all_goals (intros;rename_i he h;exact no he)
theorem yW (a b c:Int):im a b c=(Builtin.Range.rangeSize a b c).toNat:=rfl
theorem HK {k:Int} {n:Nat} (h1:-(n:Int)<=k) (h2:k<=n):k.natAbs<=n:=by
 cases k with
 | ofNat m=>exact Vv.mp h2
 | negSucc m=>exact Vv.mp (Int.le_of_neg_le_neg (a:=((m+1:Nat):Int)) h1)
theorem Hq {x y c:Int} (hc:0<c):0<=(if y<x then (x - y - 1) / c+1 else 0):=by
 by_cases h:y<x
 ·rw[if_pos h];exact Wa (Zf (by exact y2 0xce18e010811b10 rfl h) (Wt hc)) (by decide)
 ·rw[if_neg h];exact Vk 0
theorem Hp {x y c M:Int} (hc:0<c) (hM:x - y<=M) (h0:0<=M):(if y<x then (x - y - 1) / c+1 else 0)<=M:=by
 by_cases h:y<x
 ·rw[if_pos h];exact Uw (XF (Int.ediv_le_self c (by exact y2 0xce18e010811b10 rfl h)) 1) (Uw (WE (XV _ _)) hM)
 ·rw[if_neg h];exact h0
theorem Hd {c:Int} (hc:c≠0) (hp:¬ c > 0):0 < -c:=Int.neg_pos_of_neg (Int.lt_iff_le_and_ne.mpr ⟨Vj.mp hp,hc⟩)
theorem eJ (a b c:Int) (hc:c≠0):0<=Builtin.Range.rangeSize a b c:=by
 unfold Builtin.Range.rangeSize
 by_cases hp:c > 0
 ·rw[if_pos hp];exact Hq hp
 ·rw[if_neg hp];exact Hq (Hd hc hp)
theorem rG (a b c:Int) (hc:c≠0) (ha:-1000000000<=a/\a<=1000000000) (hb:-1000000000<=b/\b<=1000000000):Builtin.Range.rangeSize a b c<=2000000000:=by
 unfold Builtin.Range.rangeSize
 by_cases hp:c > 0
 ·rw[if_pos hp];exact Hp hp (Zn hb.2 ha.1) (by decide)
 ·rw[if_neg hp];exact Hp (Hd hc hp) (Zn ha.2 hb.1) (by decide)
theorem Ez {x:Int} (h1:-3000000000<=x) (h2:x<=3000000000):Builtin.Range.rangeFitsLong x=true:=Up.mpr ⟨decide_eq_true (Uw (by decide) h1),decide_eq_true (V5 h2 (by decide))⟩
theorem A5 {x:Int} (h:-1000000000<=x/\x<=1000000000):Builtin.Range.rangeFitsLong x=true:=Ez (Uw (by decide) h.1) (Uw h.2 (by decide))
theorem lc {a b c:Int} (hc:c≠0) (ha:-1000000000<=a/\a<=1000000000) (hb:-1000000000<=b/\b<=1000000000) (dK:-1000000000<=c/\c<=1000000000):Builtin.Range.small a b c=true:=by
 refine Up.mpr ⟨Up.mpr ⟨Up.mpr ⟨Up.mpr ⟨A5 ha,A5 hb⟩,A5 dK⟩,Ez (Uw (by decide) (eJ a b c hc)) (Uw (rG a b c hc ha hb) (by decide))⟩,Vu.mpr (.inr ?_)⟩
 have hl:=Xk hb.1 dK.1
 have hu:=Xk hb.2 dK.2
 by_cases hp:c > 0
 ·rw[if_pos hp];exact Ez (Uw (by decide) (YX b c 1 ▸ Yu hl 1)) (Uw (YX b c 1 ▸ Yu hu 1) (by decide))
 ·rw[if_neg hp];exact Ez (Uw (by decide) (Wi b c 1 ▸ XF hl 1)) (Uw (Wi b c 1 ▸ XF hu 1) (by decide))
theorem zr {a b c:Int} {r:Addr} {t u v:Tok} {s₁:Shared} (hh:A.handled=none) (hr:IsRange s₁.heap r a b c t u v) (hc:c≠0) (r3:Builtin.Range.small a b c=true) {aO:List Addr} (S:SE J s.heap aO s₁.heap) (R:ak g aO H s₁.heap) (hS:bz s s₁) :
  xX g A J s (bQ a b c) [] false H (.ref r) s₁:=by
 refine⟨aO,S,R,hS,λE Q h=>?_⟩
 have fb:s.heap.get? s₁.heap.objs.size=none:=S.back (aD _)
 have Rv:s₁.heap.objs.size∉aO:=aY R (aD _)
 have fB:g.B.get? s₁.heap.objs.size=none:=aW R (aD _)
 have cm:(bQ a b c).length=(Builtin.Range.rangeSize a b c).toNat:=(A' _).trans UN
 have W:=Walks.range (prog:=g.prog) (w:=g.w) hh s₁.heap.objs.size a c (bQ a b c).length
 refine wpAny_pyIter_range hr r3 (h _ [] [] [_] [] _ _ _ (pn.walks (n := "range_iterator") W (λb hb=>.inl (O'.mp hb)) rfl (by decide) ?_ (λi h st=>E5) ?_) ?_ (λb o e=>G' _ e) .nil (kX fb) (L9 (kX Rv) E5) (kX fB))
 ·intro i h st
  exact⟨_,_,st,rfl,rfl⟩
 ·intro J h i v x hv hp hx
  refine N' hp λt q2=>?_;apply aV q2
  have hi:i<im a b c:=YJ (J'.mp hx).1 cm
  unfold bQ at hx
  rw[Um,VI hi] at hx
  apply dE hx
  exact .int _ _
 ·show IsRangeIter _ _ _ _ _
  have e:(((Builtin.Range.rangeSize a b c).toNat:Int) - (0:Nat))=Builtin.Range.rangeSize a b c:=(Zw _).trans (Vf (eJ a b c hc))
  have e2:a+((0:Nat):Int) * c=a:=(congrArg (a + ·) (WD c)).trans (VO a)
  rw[cm,e,e2]
  exact Uo _ rfl
end
section
variable {prog:Program} {w:World} {A:Around} {E:Value->Shared->Prop} {s:Shared}
theorem dY {it t:Addr} {i:Nat} {ca} {x:Value} {Q:Value->Shared->Prop} (qb:s.heap.IsTupleIter it t i)
  (ht:s.heap.IsTuple t ca) (hx:ca[i]? = some x)
  (hQ:∀ h',h'.IsTupleIter it t (i+1)->Heap.SameBut it s.heap h'->Q x {s with heap:=h'}) :
  wpAny (model prog w) A (Builtin.SmallTypes.nextOf (.ref it)) Q E s:=by
 refine ew (id qb) λo ho hc hd=>?_
 obtain ⟨ol,vj,_,nl,GB⟩:=ht
 unfold Builtin.SmallTypes.nextOf
 refine wpAny_bind (wpAny_callSpecial?_slot (name:=WW "__next__") qb.typeIs F.slot_tuple_iterator_next
  (wpAny_call_entry F.slot_tuple_iterator_next qb.typeIs F.entry_tuple_iterator_next ?_ (F.args_tuple_iterator_next_1 _)))
 show wpAny _ _ (field (.ref it) 0>>=_) _ _ s
 refine wpAny_bind (wpAny_field ho hd (x:=.ref t) rfl ?_)
 show wpAny _ _ (if (Value.ref t==Value.none)=true then _ else _) _ _ s
 rw[if_neg (show ¬ ((Value.ref t==Value.none)=true) from Uq)]
 show wpAny _ _ (field (.ref it) 1>>=_) _ _ s
 refine wpAny_bind (wpAny_field ho hd (x:=.int i 0) rfl ?_)
 show wpAny _ _ (seqItems? (.ref t)>>=_) _ _ s
 refine wpAny_bind (wpAny_seqItems vj GB ?_)
 simp only[Us,hx]
 refine wpAny_bind (wpAny_setField ho hd (by simp) (wpAny_pure ⟨x,rfl,wpAny_pure (hQ _ ?_ (Heap.SameBut.update ..))⟩))
 exact⟨_,V3 _ ho (Obj.isFreed_of_fields (Obj.data_mapFields hd _)),(Obj.cls_mapFields ..).trans hc,by
  rw[Obj.data_mapFields hd];simp [rawInt]⟩
theorem eH {it t:Addr} {i:Nat} {ca} {Q:Value->Shared->Prop} (hh:A.handled=none)
  (qb:s.heap.IsTupleIter it t i) (ht:s.heap.IsTuple t ca) (hx:ca[i]? = none)
  (hE:∀ h' e,Heap.ExtBut it s.heap h'->(∃ o,h'.get? e=some o/\o.cls=.type "StopIteration")->E (.ref e) {s with heap:=h'}) :
  wpAny (model prog w) A (Builtin.SmallTypes.nextOf (.ref it)) Q E s:=by
 refine ew (id qb) λo ho hc hd=>?_
 obtain ⟨ol,vj,_,nl,GB⟩:=ht
 unfold Builtin.SmallTypes.nextOf
 refine wpAny_bind (wpAny_callSpecial?_slot (name:=WW "__next__") qb.typeIs F.slot_tuple_iterator_next
  (wpAny_call_entry F.slot_tuple_iterator_next qb.typeIs F.entry_tuple_iterator_next ?_ (F.args_tuple_iterator_next_1 _)))
 show wpAny _ _ (field (.ref it) 0>>=_) _ _ s
 refine wpAny_bind (wpAny_field ho hd (x:=.ref t) rfl ?_)
 show wpAny _ _ (if (Value.ref t==Value.none)=true then _ else _) _ _ s
 rw[if_neg (show ¬ ((Value.ref t==Value.none)=true) from Uq)]
 show wpAny _ _ (field (.ref it) 1>>=_) _ _ s
 refine wpAny_bind (wpAny_field ho hd (x:=.int i 0) rfl ?_)
 show wpAny _ _ (seqItems? (.ref t)>>=_) _ _ s
 refine wpAny_bind (wpAny_seqItems vj GB ?_)
 simp only[Us,hx]
 refine wpAny_bind (wpAny_rule (wpAny_bind (wpAny_setField ho hd (by simp) ?_)))
 show wpAny _ _ (newExc (.type "StopIteration") []>>=_) _ _ _
 refine wpAny_bind ?_
 simp only[newExc,newTuple]
 refine wpAny_bind (wpAny_newObj_type ?_ (by size_fits))
 refine wpAny_bind (m:=firstArgMember _ _) (wpAny_of_eq (a:=Value.none) (by first | rfl | (simp only[firstArgMember];rfl)) ?_)
 refine wpAny_newObj_type ?_ (by size_fits)
 simp only[raiseNew]
 refine wpAny_bind (wpAny_handled ?_)
 first | rw[show A.in1.handled=none from hh] | rw[hh]
 refine wpAny_bind (wpAny_pure (wpAny_throw ?_))
 exact hE _ _ (((Heap.SameBut.update ..).extBut.push _).push _) ⟨_,Uo _ rfl,rfl⟩
end
theorem uX {prog:Program} {w:World} {A:Around} (hh:A.handled=none) (it l:Addr) (fK:l≠it) (ca:Array Value) :
  Draws prog w A it [it,l] ca.size (λi v=>ca[i]? = some v) (λi h=>h.IsTupleIter it l i/\h.IsTuple l ca) where
 live:=λz z st=>let ⟨o,ho,_⟩:=st.1;⟨o,ho⟩
 frame:=λz z z st hk=>⟨st.1.at λo e=>hk it (by simp) o e,st.2.at λo e=>hk l (by simp) o e⟩
 item:=λi s Q E hi st hQ=>by
  refine dY st.1 st.2 (x:=ca[i]) (by simp [hi]) λh' Im lE=>?_
  exact hQ _ h' s.toks (by simp [hi]) ⟨Im,st.2.extBut lE.extBut fK⟩ lE
 done:=λs Q E st hE=>eH hh st.1 st.2 (by simp) hE
theorem rz {xs:List V}:∀ {k i:Nat} {x:V},(cJ k xs)[i]? = some x->∃ y,xs[i]? = some y/\x=.tup [.int ((k+i:Nat):Int),y]:=by
 induction xs with
 | nil=>exact λh=>no h
 | cons y xs ih =>
  intro k i x h
  cases i with
  | zero=>exact⟨y,rfl,(sm h).symm⟩
  | succ i=>exact (show k+1+i=k+(i+1) from Nat.succ_add_eq_add_succ k i) ▸ ih (i:=i) h
theorem rB (xs:List V):∀ k:Nat,(cJ k xs).length=xs.length:=by
 induction xs with
 | nil=>exact λz=>rfl
 | cons y xs ih=>exact λk=>congrArg (· + 1) (ih (k+1))
noncomputable def HB (e it c:Addr) (vs:List Value) (i:Nat) (h:Heap):Prop:=(∃ old,IsEnum h e it i old)/\h.IsTupleIter it c i/\h.IsTuple c vs.toArray
noncomputable def J0 (e it c:Addr) (vs:List Value) (i:Nat) (a:Value) (h:Heap):Prop:=∃ T,a=.ref T/\(∃ x,IsEnumOut h e it ((i:Int)+1) x T)/\(h.IsTupleIter it c (i+1)/\h.IsTuple c vs.toArray)/\T≠e/\T≠it
theorem ir {h:Heap} {a t:Addr} {i:Nat} (x:h.IsTupleIter a t i):eh h a:=ew x λo ho hc hd=>⟨o,ho,jq hc hd (by decide)⟩
theorem HB.ns {e it c:Addr} {vs:List Value} {i:Nat} {h:Heap} (st:HB e it c vs i h):∀ b∈[e,it],eh h b:=tq (st.1.elim λz he=>⟨_,he,jq rfl rfl (by decide)⟩) (ir st.2.1)
theorem J0.ns {e it c:Addr} {vs:List Value} {i:Nat} {a:Value} {h:Heap} (m:J0 e it c vs i a h):∀ b∈[e,it],eh h b:=qT m λz z k3 k4 z=>tq (k3.elim λz he=>⟨_,he,jq rfl rfl (by decide)⟩) (ir k4.1)
section
variable {g:G} {A:Around} {E:Value->Shared->Prop} {J:List Addr} {H:ag} {s:Shared}
theorem pn.enum (hh:A.handled=none) (e it c:Addr) (xs:List V) (vs:List Value) (IJ:xs.length=vs.length) (QA:e≠it) (Sv:e≠c) (Sn:c≠it) :
  pn g A e (cJ 0 xs) [] true xs vs [e,it] [c] (HB e it c vs) (J0 e it c vs):=by
 have D:=uX (prog:=g.prog) (w:=g.w) (A:=A.in1) hh it c Sn vs.toArray
 have W:=WalksT.enumerateD D e QA (λq=>(Uh.mp q).elim QA λq=>Sv (O'.mp q)) z'
 have hz:(cJ 0 xs).length=vs.toArray.size:=(rB xs 0).trans IJ
 refine⟨λi h h' st hk=>W.frame i h h' st λb hb o x=>hk b ((Uh.mp hb).elim (λq=>.inl (Uh.mpr (.inl q))) λhb=>(Uh.mp hb).imp (λq=>H' _ (O'.mpr q)) id) o x,λi h st=>HB.ns st,λi a h m=>J0.ns m,λi h st=>kX (ew st.2.2 λo ho j hd=>hd.elim λn hd=>⟨o,_,n,ho,hd⟩),?_,?_,?_,W.self⟩
 ·intro i J H s Q E x st R hv hw hn hB hx hQ
  refine W.item i s Q E (hz ▸ (J'.mp hx).1) st λT cC h' tk hP dZ hT hm M=>?_
  refine gA hP λt y hy q4=>aB (rz hx) λz EM q3=>aB (hv.get EM) λa ha hr=>?_
  have M':Mv [e,it] J s.heap h':=Mv.all M
  rw[q4] at hT
  exact hQ _ h' tk M' (R.mv M (HB.ns st) (λb hb=>hn b (.inl hb)) hB) (aV (C:=λx=>VR g J h' x (.ref T)) q3 (.tup (l:=[.int ((0+i:Nat):Int),z]) (vs:=[.int i t,y]) hT (show 2<=ar+1 by decide) (.cons (show VR g J h' (.int ((0+i:Nat):Int)) (.int i t) by rw[V8];exact .int _ _) (.one (sm (ha.symm.trans (U1.symm.trans hy)) ▸ M'.vr (HB.ns st) hr))) (aY R (gM dZ)))) ⟨T,rfl,hm.1,hm.2.1,hm.2.2.1,hm.2.2.2⟩
 ·intro t ht i J H a s Q E m R hn hB hQ
  refine Rp (id m) λT q2 m1 m2 m3 m4=>?_
  have O:=J0.ns m
  rw[q2]
  refine ht.elim (λq=>AT q λes k p q=>?_) λq=>absurd q.1 Y5
  rw[q]
  exact W.go es k p i T s Q E ⟨m1,m2,m3,m4⟩ λh' st' M=>hQ h' (Mv.all M) (R.mv M O (λb hb=>hn b (.inl hb)) hB) st'
 ·intro J H s Q E st R hv hw hn hB hQ
  rw[hz] at st
  exact W.done s Q E st λh' tk M=>hQ h' tk (Mv.all M) (R.mv M (HB.ns st) (λb hb=>hn b (.inl hb)) hB)
end
section
variable {prog:Program} {w:World} {A:Around} {E:Value->Shared->Prop} {s:Shared}
structure ZP where
 z:Addr
 TI:Addr
 TO:Addr
 i1:Addr
 i2:Addr
 l1:Addr
 l2:Addr
 vs:List Value
 ws:List Value
structure ZS (c:ZP) (f:Value) (k:Nat) (h:Heap):Prop where
 z:IsZip h c.z c.TI c.TO f
 p:IsPair h c.TI (.ref c.i1) (.ref c.i2)
 i1:h.IsTupleIter c.i1 c.l1 k
 i2:h.IsTupleIter c.i2 c.l2 k
 t1:h.IsTuple c.l1 c.vs.toArray
 t2:h.IsTuple c.l2 c.ws.toArray
noncomputable def ZK (c:ZP) (h h':Heap):Prop:=∀ b o,b≠c.z->b≠c.TO->b≠c.i1->b≠c.i2->h.get? b=some o->h'.get? b=some o
theorem zU {c:ZP} {k:Nat} {a b:Value} {Q:Value->Shared->Prop} (hh:A.handled=none) (D:ZipApart c.z c.TI c.TO c.i1 c.i2 c.l1 c.l2) (ZG:ZS c .none k s.heap) (DH:IsPair s.heap c.TO a b)
  (hQ:∀ x y,c.vs[k]? = some x->c.ws[k]? = some y->∀ h',ZS c (rawInt s.heap.objs.size) (k+1) h'->IsPair h' c.TO x y->IsPair h' s.heap.objs.size x y->ZK c s.heap h'->Q (.ref s.heap.objs.size) {s with heap:=h'})
  (hE:(c.vs[k]? = none\/c.ws[k]? = none)->∀ h' e a' b',ZK c s.heap h'->IsPair h' c.TO a' b'->(∃ o,h'.get? e=some o/\o.cls=.type "StopIteration")->E (.ref e) {s with heap:=h'}) :
  wpAny (model prog w) A (Builtin.«zip.__next__» ⟨[.ref c.z],[]⟩) (λgJ s'=>∃ v,gJ=.done (.ret v)/\Q v s') E s:=by
 have stop:∀ {h:Heap} {e:Addr} {o:Obj} {f:Value},IsZip h c.z c.TI c.TO f->h.get? e=some o->o.cls=.type "StopIteration" -> e≠c.z:=λh1 h2 h3 q=>absurd (show Value.type "zip" = .type "StopIteration" from (congrArg Obj.cls (sm (h1.symm.trans (q ▸ h2)))).trans h3) (by decide)
 show wpAny _ _ (field (.ref c.z) 2>>=_) _ _ _
 refine wpAny_bind (wpAny_field ZG.z rfl (x:=.bool false) rfl ?_)
 show wpAny _ _ (field (.ref c.z) 3>>=_) _ _ _
 refine wpAny_bind (wpAny_field ZG.z rfl (x:=.ref c.TI) rfl ?_)
 refine wpAny_bind (wpAny_seqItems ZG.p rfl ?_)
 show wpAny _ _ (Builtin.SmallTypes.ownedTupleIsFree (.ref c.z)>>=_) _ _ _
 refine wpAny_bind ?_
 unfold Builtin.SmallTypes.ownedTupleIsFree
 refine wpAny_bind (wpAny_field ZG.z rfl (x:=.none) rfl (wpAny_pure ?_))
 simp only[if_true]
 refine wpAny_bind (wpAny_rule ?_)
 refine wpAny_bind (wpAny_field ZG.z rfl (x:=.ref c.TO) rfl ?_)
 refine wpAny_bind (wpAny_setField_rec ZG.z (by simp) λbA wZ gS=>?_)
 replace wZ:IsZip bA c.z c.TI c.TO .ellipsis:=wZ
 refine wpAny_bind ?_
 simp only[Xz,List.zipIdx_nil,XH,XX]
 refine wpAny_bind (wpAny_bind (wpAny_onRaise ?_))
 show wpAny _ _ (Builtin.SmallTypes.nextOf (.ref c.i1)>>=_) _ _ _
 cases hx:c.vs[k]? with
 | none =>
  refine wpAny_bind (eH hh (ZG.i1.extBut gS.extBut D.i1z) (ZG.t1.extBut gS.extBut D.l1z) (U1.trans hx) λgT e jJ he=>aB he λoe Ls DJ=>?_)
  have GV:IsZip gT c.z c.TI c.TO .ellipsis:=jJ _ _ D.i1z.symm wZ
  exact wpAny_setField_rec GV (by simp) λdz j fU=>hE (.inl hx) dz e a b (λc o c1 j c3 j x=>fU.extBut _ _ c1 (jJ _ _ c3 (gS.extBut _ _ c1 x))) (fU.extBut _ _ D.TOz (jJ _ _ D.TOi1 (gS.extBut _ _ D.TOz DH))) ⟨oe,fU.extBut _ _ (stop GV Ls DJ) Ls,DJ⟩
 | some x =>
  refine wpAny_bind (dY (ZG.i1.extBut gS.extBut D.i1z) (ZG.t1.extBut gS.extBut D.l1z) (U1.trans hx) λgT Kz jJ=>wpAny_pure ?_)
  have Bc:IsPair gT c.TO a b:=jJ.extBut _ _ D.TOi1 (gS.extBut _ _ D.TOz DH)
  refine wpAny_bind (wpAny_seqItems Bc rfl ?_)
  refine wpAny_bind (wpAny_updateSeq_pair Bc λdz rc fU=>?_)
  replace rc:IsPair dz c.TO x b:=rc
  refine wpAny_bind (wpAny_letGo (wpAny_pure ?_))
  refine wpAny_bind (wpAny_bind (wpAny_onRaise ?_))
  show wpAny _ _ (Builtin.SmallTypes.nextOf (.ref c.i2)>>=_) _ _ _
  have Gu:=((ZG.i2.extBut gS.extBut D.i2z).extBut jJ.extBut D.i12.symm).extBut fU.extBut D.TOi2.symm
  have GG:=((ZG.t2.extBut gS.extBut D.l2z).extBut jJ.extBut D.l2i1).extBut fU.extBut D.l2TO
  have GW:IsZip dz c.z c.TI c.TO .ellipsis:=fU.extBut _ _ D.TOz.symm (jJ.extBut _ _ D.i1z.symm wZ)
  have mL:∀ b o,b≠c.z->b≠c.TO->b≠c.i1->s.heap.get? b=some o->dz.get? b=some o:=λb o c1 c2 c3 e=>fU.extBut _ _ c2 (jJ.extBut _ _ c3 (gS.extBut _ _ c1 e))
  cases hy:c.ws[k]? with
  | none =>
   refine wpAny_bind (eH hh Gu GG (U1.trans hy) λjw e kN he=>aB he λoe Ls DJ=>?_)
   have GX:IsZip jw c.z c.TI c.TO .ellipsis:=kN _ _ D.i2z.symm GW
   exact wpAny_setField_rec GX (by simp) λiG j kO=>hE (.inr hy) iG e x b (λb o c1 c2 c3 c4 x=>kO.extBut _ _ c1 (kN _ _ c4 (mL b o c1 c2 c3 x))) (kO.extBut _ _ D.TOz (kN _ _ D.TOi2 rc)) ⟨oe,kO.extBut _ _ (stop GX Ls DJ) Ls,DJ⟩
  | some y =>
   refine wpAny_bind (dY Gu GG (U1.trans hy) λjw KA kN=>wpAny_pure ?_)
   have Bd:IsPair jw c.TO x b:=kN.extBut _ _ D.TOi2 rc
   refine wpAny_bind (wpAny_seqItems Bd rfl ?_)
   refine wpAny_bind (wpAny_updateSeq_pair Bd λiG rd kO=>?_)
   replace rd:IsPair iG c.TO x y:=rd
   refine wpAny_bind (wpAny_letGo (wpAny_pure (wpAny_pure ?_)))
   refine wpAny_bind (wpAny_seqItems rd rfl ?_)
   refine wpAny_bind (wpAny_newTuple ?_)
   have dZ:iG.objs.size=s.heap.objs.size:=by rw[kO.1,kN.1,fU.1,jJ.1,gS.1]
   have GY:IsZip iG c.z c.TI c.TO .ellipsis:=kO.extBut _ _ D.TOz.symm (kN.extBut _ _ D.i2z.symm GW)
   have Lf:ZK c s.heap iG:=λb o c1 c2 c3 c4 e=>kO.extBut _ _ c2 (kN.extBut _ _ c4 (mL b o c1 c2 c3 e))
   have fK:=V7 (UU GY)
   show wpAny _ _ (Builtin.SmallTypes.ownedTupleHandOut (.ref c.z) (.ref iG.objs.size)>>=_) _ _ _
   refine wpAny_bind ?_
   unfold Builtin.SmallTypes.ownedTupleHandOut
   have LG:IsZip (iG.push {cls:=.type "tuple", data:=.seq #[x,y]}) c.z c.TI c.TO .ellipsis:=G' _ GY
   refine wpAny_bind (wpAny_setField_rec LG (by simp) λEN Bz wY=>?_)
   replace Bz:IsZip EN c.z c.TI c.TO (rawInt iG.objs.size):=Bz
   refine wpAny_setField_rec Bz (by simp) λBA w5 GP=>?_
   replace w5:IsZip BA c.z c.TI c.TO (rawInt iG.objs.size):=w5
   have up:∀ b o,b≠c.z->iG.get? b=some o->BA.get? b=some o:=λb o c1 e=>GP.extBut _ _ c1 (wY.extBut _ _ c1 (G' _ e))
   have Gv:IsPair BA iG.objs.size x y:=GP.extBut _ _ fK (wY.extBut _ _ fK (Uo _ rfl))
   have ZF:ZK c s.heap BA:=λb o c1 c2 c3 c4 e=>up b o c1 (Lf b o c1 c2 c3 c4 e)
   rw[dZ] at w5 Gv
   refine wpAny_pure ⟨_,rfl,?_⟩
   show Q (.ref iG.objs.size) _
   rw[dZ]
   exact hQ x y hx hy BA ⟨w5,ZF _ _ D.TIz D.TITO D.TIi1 D.TIi2 ZG.p,(((Kz.extBut fU.extBut D.TOi1.symm).extBut kN.extBut D.i12).extBut kO.extBut D.TOi1.symm).at λo e=>up _ o D.i1z e,(KA.extBut kO.extBut D.TOi2.symm).at λo e=>up _ o D.i2z e,ZG.t1.at λo e=>ZF _ o D.l1z D.l1TO D.l1i1 D.l1i2 e,ZG.t2.at λo e=>ZF _ o D.l2z D.l2TO D.l2i1 D.l2i2 e⟩ (up _ _ D.TOz rd) Gv ZF
theorem ql {c:ZP} {k:Nat} {a b:Value} {Q:Option Value->Shared->Prop} (hh:A.handled=none) (D:ZipApart c.z c.TI c.TO c.i1 c.i2 c.l1 c.l2) (ZG:ZS c .none k s.heap) (DH:IsPair s.heap c.TO a b)
  (hQ:∀ x y,c.vs[k]? = some x->c.ws[k]? = some y->∀ h',ZS c (rawInt s.heap.objs.size) (k+1) h'->IsPair h' c.TO x y->IsPair h' s.heap.objs.size x y->ZK c s.heap h'->Q (some (.ref s.heap.objs.size)) {s with heap:=h'})
  (hE:(c.vs[k]? = none\/c.ws[k]? = none)->∀ h' a' b',ZK c s.heap h'->IsPair h' c.TO a' b'->Q none {s with heap:=h'}):wpAny (model prog w) A (pyNext (.ref c.z)) Q E s:=by
 have hT:s.TypeIs (.ref c.z) "zip" := ⟨_,ZG.z,rfl⟩
 unfold pyNext
 refine wpAny_bind (wpAny_attempt (wpAny_callSpecial?_slot (name:=WW "__next__") hT F.slot_zip_next
  (wpAny_call_entry F.slot_zip_next hT F.entry_zip_next (zU hh D ZG DH (λx y hx hy h' a1 a2 a3 a4=>wpAny_pure (hQ x y hx hy h' a1 a2 a3 a4)) λyx h' e a' b' hk hp he=>?_) (F.args_zip_next_1 _))))
 refine aB he λo ho hc=>?_
 exact wpAny_bind (wpAny_isInstance (T := "StopIteration") (b:=true) ⟨o,ho,hc⟩ isSubtype_stop (wpAny_pure (hE yx _ a' b' hk hp)))
noncomputable abbrev Nb (h:Heap) (l1:Addr):Heap:=h.push {cls:=.type "tuple_iterator", data:=.fields #[.ref l1,.int 0 0]}
noncomputable abbrev Nc (h:Heap) (l1 l2:Addr):Heap:=(Nb h l1).push {cls:=.type "tuple_iterator", data:=.fields #[.ref l2,.int 0 0]}
noncomputable abbrev Nd (h:Heap) (l1 l2:Addr):Heap:=(Nc h l1 l2).push {cls:=.type "tuple", data:=.seq #[.ref h.objs.size,.ref (Nb h l1).objs.size]}
noncomputable abbrev Nf (h:Heap) (l1 l2:Addr):Heap:=(Nd h l1 l2).push {cls:=.type "tuple", data:=.seq #[.none,.none]}
noncomputable abbrev Jx (h:Heap) (l1 l2:Addr):Heap:=(Nf h l1 l2).push {cls:=.type "zip", data:=.fields #[.none,.bool false,.bool false,.ref (Nc h l1 l2).objs.size,.ref (Nd h l1 l2).objs.size]}
theorem vH (l1 l2:Addr) (xs ys:Array Value) :
  Meets (Builtin.«zip.__new__» ⟨[.type "zip", .ref l1,.ref l2],[]⟩) (λz R s=>s.heap.IsTuple l1 xs/\s.heap.IsTuple l2 ys /\
   R (.ok (.ret (.ref (Nf s.heap l1 l2).objs.size))) {s with heap:=Jx s.heap l1 l2}) :=
 .of_wp λprog w A R s h=>by
  obtain ⟨hp,g,d,tk,os⟩:=s;obtain ⟨hl1,hl2,h⟩:=h
  have IH:=sub_zip
  have RS:Heap.IsTuple (Shared.heap ⟨hp,g,d,tk,os⟩) l1 xs:=hl1
  have RT:Heap.IsTuple (Shared.heap ⟨hp.push {cls:=.type "tuple_iterator", data:=.fields #[.ref l1,.int 0 0]},g,d,tk,os⟩) l2 ys:=Heap.IsTuple.push hl2 _
  wp_walk using wpAny_pyIter_tuple RS,wpAny_pyIter_tuple RT
  exact⟨_,rfl,h⟩
theorem yh {l1 l2:Addr} {xs ys:Array Value} {Q:Value->Shared->Prop} (hl1:s.heap.IsTuple l1 xs) (hl2:s.heap.IsTuple l2 ys)
  (h:∀ h',IsZip h' (s.heap.objs.size+4) (s.heap.objs.size+2) (s.heap.objs.size+3) .none->IsPair h' (s.heap.objs.size+2) (.ref s.heap.objs.size) (.ref (s.heap.objs.size+1)) ->
   IsPair h' (s.heap.objs.size+3) .none .none->h'.IsTupleIter s.heap.objs.size l1 0->h'.IsTupleIter (s.heap.objs.size+1) l2 0->h'.objs.size=s.heap.objs.size+5 ->
   (∀ c o,s.heap.get? c=some o->h'.get? c=some o)->Q (.ref (s.heap.objs.size+4)) {s with heap:=h'}) :
  wpAny (model prog w) A (call (.type "zip") [.ref l1,.ref l2]) Q E s:=by
 refine callType_new F.called_zip (by decide) (F.typeCall_zip_2 _ _) (F.newCall_zip_2 _ _) (λobj=>F.args_object_init_3 obj _ _) F.entry_zip_new
  (vH l1 l2 xs ys) ⟨hl1,hl2,?_⟩
 have z1:(Nb s.heap l1).objs.size=s.heap.objs.size+1:=Vo ..
 have z2:(Nc s.heap l1 l2).objs.size=s.heap.objs.size+2:=by rw[Vo,z1]
 have z3:(Nd s.heap l1 l2).objs.size=s.heap.objs.size+3:=by rw[Vo,z2]
 have z4:(Nf s.heap l1 l2).objs.size=s.heap.objs.size+4:=by rw[Vo,z3]
 have z5:(Jx s.heap l1 l2).objs.size=s.heap.objs.size+5:=by rw[Vo,z4]
 have g5:(Jx s.heap l1 l2).get? (Nf s.heap l1 l2).objs.size=some _:=Uo _ rfl
 have g4:(Jx s.heap l1 l2).get? (Nd s.heap l1 l2).objs.size=some _:=G' _ (Uo _ rfl)
 have g3:(Jx s.heap l1 l2).get? (Nc s.heap l1 l2).objs.size=some _:=G' _ (G' _ (Uo _ rfl))
 have g2:(Jx s.heap l1 l2).get? (Nb s.heap l1).objs.size=some _:=G' _ (G' _ (G' _ (Uo _ rfl)))
 have g1:(Jx s.heap l1 l2).get? s.heap.objs.size=some _:=G' _ (G' _ (G' _ (G' _ (Uo _ rfl))))
 show _/\_
 rw[z2,z3,z4] at g5
 rw[z1,z2] at g3
 rw[z3] at g4
 rw[z1] at g2
 rw[z4]
 exact⟨⟨_,g5,rfl⟩,h _ g5 g3 g4 ⟨_,g1,rfl,rfl⟩ ⟨_,g2,rfl,rfl⟩ z5 λc o x =>
  G' _ (G' _ (G' _ (G' _ (G' _ x))))⟩
end
theorem tE {xs:List V}:∀ {ys:List V} {i:Nat} {p:V},(dI xs ys)[i]? = some p->∃ x y,xs[i]? = some x/\ys[i]? = some y/\p=.tup [x,y]:=by
 induction xs with
 | nil=>exact λh=>no h
 | cons x xs ih =>
  intro ys i p h
  cases ys with
  | nil=>exact no h
  | cons y ys =>
   cases i with
   | zero=>exact⟨x,y,rfl,rfl,(sm h).symm⟩
   | succ i=>exact ih (ys:=ys) (i:=i) h
theorem tD (xs:List V):∀ ys:List V,xs.length<=(dI xs ys).length\/ys.length<=(dI xs ys).length:=by
 induction xs with
 | nil=>exact λz=>.inl (Un _)
 | cons x xs ih =>
  intro ys
  cases ys with
  | nil=>exact .inr (Un _)
  | cons y ys=>exact (ih ys).imp U8 U8
section
variable {g:G} {A:Around} {E:Value->Shared->Prop} {J:List Addr} {H:ag} {s:Shared}
theorem bi.split {h:Heap} {m:List V} {ws:List Value} {l:List V}:∀ {vs:List Value},l.length=vs.length->bi g J h (l++m) (vs++ws)->bi g J h l vs/\bi g J h m ws:=by
 induction l with
 | nil=>intro vs e x;rw[Vy.mp e.symm] at x ⊢;exact⟨.nil,x⟩
 | cons v l ih =>
  intro vs e x
  cases vs with
  | nil=>exact nomatch e
  | cons a vs =>
   refine x.consE λa' us q hv hr=>?_
   rw[<-(List.cons.inj q).1] at hv;rw[<-(List.cons.inj q).2] at hr
   exact aR (ih (Yd.inj e) hr) λh1 h2=>⟨.cons hv h1,h2⟩
theorem ak.mvOwn {wr:List Addr} {TO:Addr} {r:Nat} {x y:Value} {h h':Heap} (R:ak g J H h) (hr:J[r]? = some TO) (ho:H[r]? = some .own) (M:∀ b o,b∉wr->b≠TO->h.get? b=some o->h'.get? b=some o) (hw:∀ b∈wr,eh h b) (hn:∀ b∈wr,b∉J) (hB:∀ b∈wr,g.B.get? b=none)
  (hp:IsPair h' TO x y):ak g J H h'/\Mv wr J h h':=by
 have KL:TO∈J:=Ui hr
 have M':Mv wr J h h':=λb o h1 h2 e=>M b o h1 (λq=>h2 (q ▸ KL)) e
 refine⟨⟨λb o e=>M b o (λhb=>no ((hB b hb).symm.trans e)) (λq=>no ((R.fresh _ KL).symm.trans (q ▸ e))) (R.base b o e),R.fresh,R.len,R.nodup,λi a m h1 h2=>?_,R.tabs⟩,M'⟩
 by_cases hi:i=r
 ·rw[hi] at h1 h2
  apply ez (sm (hr.symm.trans h1))
  apply ez (sm (ho.symm.trans h2))
  exact .own hp
 ·have ha:a≠TO:=λq=>hi (oO R.nodup h1 (q ▸ hr))
  exact (R.objs i a m h1 h2).stepT (λz z e=>e) (M'.tup hw) λo e=>M _ o (λhb=>hn _ hb (Ui h1)) ha e
theorem ZS.ns {c:ZP} {f:Value} {k:Nat} {h:Heap} (ZG:ZS c f k h):∀ b∈[c.z,c.i1,c.i2],eh h b:=λb hb=>(Uh.mp hb).elim (λe=>e ▸ ⟨_,ZG.z,jq rfl rfl (by decide)⟩) (tq (ir ZG.i1) (ir ZG.i2) b)
noncomputable def ZM (c:ZP) (k:Nat) (a:Value) (h:Heap):Prop:=∃ T,a=.ref T/\ZS c (rawInt T) (k+1) h
theorem xL {h:Heap} {t:Addr} {xs:Array Value} (x:h.IsTuple t xs):wm h t:=ew x λo ho z hd=>hd.elim λn hd=>⟨o,_,n,ho,hd⟩
theorem ZK.mv {c:ZP} {h h':Heap} (ZF:ZK c h h'):∀ b o,b∉[c.z,c.i1,c.i2]->b≠c.TO->h.get? b=some o->h'.get? b=some o:=λb o hb hT e =>
 ZF b o (λq=>hb (Uh.mpr (.inl q))) hT (λq=>hb (H' _ (Uh.mpr (.inl q)))) (λq=>hb (H' _ (H' _ (O'.mpr q)))) e
structure ZI (g:G) (c:ZP) (r:Nat) (xs ys:List V) (J:List Addr) (H:ag) (h:Heap):Prop where
 hr:J[r]? = some c.TO
 ho:H[r]? = some .own
 p:∃ x y,IsPair h c.TO x y
 x:bi g J h xs c.vs
 y:bi g J h ys c.ws
theorem pn.zip (hh:A.handled=none) (c:ZP) (r:Nat) (xs ys:List V) (IJ:xs.length=c.vs.length) (To:ys.length=c.ws.length) (D:ZipApart c.z c.TI c.TO c.i1 c.i2 c.l1 c.l2) :
  pn g A c.z (dI xs ys) [(r,.own)] true (.ref r::(xs++ys)) (.ref c.TO::(c.vs++c.ws)) [c.z,c.i1,c.i2] [c.TI,c.l1,c.l2] (ZS c .none) (ZM c):=by
 have D8:∀ {J:List Addr} {H:ag} {h:Heap},ak g J H h->bi g J h (.ref r::(xs++ys)) (.ref c.TO::(c.vs++c.ws))->ci H [(r,.own)]->ZI g c r xs ys J H h:=λ{J H h} R hv hw=>by
  refine hv.consE λa us q hv Lx=>?_
  have hr:J[r]? = some c.TO:=by
   refine aB (vR rfl hv) λd q1 q2=>?_
   have:=(List.cons.inj q).1.trans q1
   exact Value.ref.inj this ▸ q2
  refine aR (bi.split IJ ((List.cons.inj q).2 ▸ Lx)) λhx hy=>?_
  have h1:=qB hw
  refine⟨hr,h1,?_,hx,hy⟩
  have:=R.objs _ _ _ hr h1
  cases this with
  | own ho=>exact⟨_,_,ho⟩
 refine⟨λi h h' st hk=>⟨hk _ (.inl z') _ st.z,hk _ (.inr z') _ st.p,st.i1.at λo e=>hk _ (.inl (H' _ z')) o e,st.i2.at λo e=>hk _ (.inl (H' _ (H' _ z'))) o e,
   st.t1.at λo e=>hk _ (.inr (H' _ z')) o e,st.t2.at λo e=>hk _ (.inr (H' _ (H' _ z'))) o e⟩,
  λi h st=>ZS.ns st,λi a h m=>m.elim λT m=>ZS.ns m.2,λi h st b hb=>(Uh.mp hb).elim (λe=>e ▸ ⟨_,_,_,st.p,rfl⟩) (tq (xL st.t1) (xL st.t2) b),?_,?_,?_,λi s Q E st hQ=>wpAny_pyIter_zip st.z hQ⟩
 ·intro i J H s Q E x st R hv hw hn hB hx hQ
  have I:=D8 R hv hw
  refine kF (tE hx) λp q hp hq q5=>aB (I.x.get hp) λap JE Te=>aB (I.y.get hq) λaq Qx Tf=>nW I.p λa b DH=>?_
  refine ql hh D st DH (λx' y' Bx EL h' a1 a2 a5 hk=>?_) λyx=>yx.elim (λq=>no (q.symm.trans JE)) λq=>no (q.symm.trans Qx)
  refine aR (R.mvOwn I.hr I.ho hk.mv (ZS.ns st) (λb hb=>hn b (.inl hb)) hB a2) λR' M=>?_
  exact hQ _ h' s.toks M R' (aV (C:=λx=>VR g J h' x _) q5 (.tup (l:=[p,q]) (vs:=[x',y']) ⟨_,a5,rfl,_,rfl⟩ (show 2<=ar+1 by decide) (.cons (sm (JE.symm.trans Bx) ▸ M.vr (ZS.ns st) Te) (.one (sm (Qx.symm.trans EL) ▸ M.vr (ZS.ns st) Tf))) (aY R (aD _)))) ⟨_,rfl,a1⟩
 ·intro t ht i J H a s Q E m R hn hB hQ
  refine aB m λT q2 ZG=>?_
  rw[q2]
  refine ht.elim (λq=>AT q λes k p q=>?_) λq=>absurd q.1 Y5
  rw[q]
  refine wpAny_letOwnedTupleGo_zip ZG.z λh' vm lE=>?_
  have M:∀ b o,b∉[c.z,c.i1,c.i2]->s.heap.get? b=some o->h'.get? b=some o:=λb o hb e=>lE.extBut b o (λq=>hb (Uh.mpr (.inl q))) e
  exact hQ h' (Mv.all M) (R.mv M (ZS.ns ZG) (λb hb=>hn b (.inl hb)) hB) ⟨vm,lE.extBut _ _ D.TIz ZG.p,ZG.i1.extBut lE.extBut D.i1z,ZG.i2.extBut lE.extBut D.i2z,ZG.t1.extBut lE.extBut D.l1z,ZG.t2.extBut lE.extBut D.l2z⟩
 ·intro J H s Q E st R hv hw hn hB hQ
  have I:=D8 R hv hw
  refine nW I.p λa b DH=>?_
  have yx:=tD xs ys
  rw[IJ,To] at yx
  refine ql hh D st DH (λx y hx hy=>yx.elim (λq=>no ((VL q).symm.trans hx)) λq=>no ((VL q).symm.trans hy)) λj h' a' b' hk hp=>?_
  exact aR (R.mvOwn I.hr I.ho hk.mv (ZS.ns st) (λb hb=>hn b (.inl hb)) hB hp) λR' M=>hQ h' s.toks M R'
end
open AutoSeq1 (wpAny_loadPart')
theorem Cv {prog:Program} {w:World} {A:Around} {E:Value->Shared->Prop} {s:Shared} {α:Type} {Q:α->Shared->Prop} {a:α} (h:∀ b,Q b s):wpAny (model prog w) A (pure a) Q E s:=wpAny_pure (h a)
theorem tm (l:Addr) (ca:Array Value) (n:Nat) (NN:Option Addr) (sl:Array (Option Value)) :
  Meets (Builtin.«enumerate.__new__» ⟨[.type "enumerate", .ref l],[]⟩) (λz R s=>s.heap.get? l=some {cls:=.type "tuple", dict:=NN,data:=.seq ca n,slots:=sl} /\
   R (.ok (.ret (.ref (s.heap.push {cls:=.type "tuple_iterator", data:=.fields #[.ref l,.int 0 0]}).objs.size)))
    {s with heap:=(s.heap.push {cls:=.type "tuple_iterator", data:=.fields #[.ref l,.int 0 0]}).push {cls:=.type "enumerate", data:=.fields #[.none,.bool false,.ref s.heap.objs.size,rawInt 0,.none,.none]}}) :=
 .of_wp λprog w A R s h=>by
  obtain ⟨hp,g,d,tk,os⟩:=s;refine aR h λhl h=>?_
  have IH:=sub_enumerate
  have hL:Heap.IsTuple (Shared.heap ⟨hp,g,d,tk,os⟩) l ca:=⟨_,hl,rfl,n,rfl⟩
  wp_walk using wpAny_loadPart' hl
  refine wpAny_stack_any λst=>Cv λbb=>?_
  cases bb
  ·wp_walk using wpAny_loadPart' hl,wpAny_pyIter_tuple hL
   exact⟨_,rfl,h⟩
  ·wp_walk using wpAny_loadPart' hl,wpAny_pyIter_tuple hL
   exact⟨_,rfl,h⟩
section
variable {prog:Program} {w:World} {A:Around} {E:Value->Shared->Prop} {s:Shared}
theorem uT {l:Addr} {ca:Array Value} {Q:Value->Shared->Prop} (hL:s.heap.IsTuple l ca)
  (h:∀ h',IsEnum h' (s.heap.objs.size+1) s.heap.objs.size 0 .none->h'.IsTupleIter s.heap.objs.size l 0->h'.objs.size=s.heap.objs.size+2 ->
   (∀ b o,s.heap.get? b=some o->h'.get? b=some o)->Q (.ref (s.heap.objs.size+1)) {s with heap:=h'}) :
  wpAny (model prog w) A (call (.type "enumerate") [.ref l]) Q E s:=by
 obtain ⟨⟨c,NN,dt,sl⟩,hl,hc,n,hd⟩:=hL
 replace hc:c=.type "tuple" := hc
 replace hd:dt=.seq ca n:=hd
 subst hc hd
 refine callType_new F.called_enumerate (by decide) (F.typeCall_enumerate_1 _) (F.newCall_enumerate_1 _) (λobj=>F.args_object_init_2 obj _) F.entry_enumerate_new
  (tm l ca n NN sl) ⟨hl,?_⟩
 have hz:(s.heap.push {cls:=.type "tuple_iterator", data:=.fields #[.ref l,.int 0 0]}).objs.size=s.heap.objs.size+1:=Vo ..
 show _/\_
 rw[hz]
 have he:IsEnum ((s.heap.push {cls:=.type "tuple_iterator", data:=.fields #[.ref l,.int 0 0]}).push
   {cls:=.type "enumerate", data:=.fields #[.none,.bool false,.ref s.heap.objs.size,rawInt 0,.none,.none]}) (s.heap.objs.size+1) s.heap.objs.size 0 .none:=by
  have:=Uo (s.heap.push {cls:=.type "tuple_iterator", data:=.fields #[.ref l,.int 0 0]})
   (o:={cls:=.type "enumerate", data:=.fields #[.none,.bool false,.ref s.heap.objs.size,rawInt 0,.none,.none]}) rfl
  rw[hz] at this;exact this
 refine⟨⟨_,he,rfl⟩,h _ he ⟨_,G' _ (Uo _ rfl),rfl,rfl⟩ (by rw[Vo,hz]) λb o x=>G' _ (G' _ x)⟩
end
section
variable {g:G} {A:Around} {E:Value->Shared->Prop} {J:List Addr} {H:ag} {s:Shared}
theorem C6 {xs:List V} {a:Value} {s₁:Shared} (hh:A.handled=none) {aO:List Addr} (S:SE J s.heap aO s₁.heap) (R:ak g aO H s₁.heap) (hx:VR g aO s₁.heap (.tup xs) a) (hS:bz s s₁) :
  wpAny (model g.prog g.w) A (call (.type "enumerate") [a]) (xX g A J s (cJ 0 xs) [] true H) E s₁:=by
 cases hx with
 | @tup _ c vs ht hz hv hn =>
  have cE:c<s₁.heap.objs.size:=by refine aB ht λz e z=>?_;exact UU e
  refine uT ht λh' he qb dZ hk=>?_
  have fr:∀ b∈[s₁.heap.objs.size+1,s₁.heap.objs.size],s₁.heap.get? b=none:=tq (gM (Wu _)) (aD _)
  refine⟨aO,S.trans (SE.keeps _ hk),R.keeps hk,hS,λE Q h=>?_⟩
  refine wpAny_pyIter_enum he (h _ xs vs _ _ _ _ h' (pn.enum hh (s₁.heap.objs.size+1) s₁.heap.objs.size c xs vs hv.length (V7 (VC _)) (V7 (WK cE)) (UP cE)) ⟨⟨_,he⟩,qb,ht.at λo e=>hk _ o e⟩ (λz z e=>e) (hv.step R (SE.keeps _ hk)) (λb hb=>S.back (fr b hb)) (L9 (λb hb=>aY R (fr b hb)) (kX hn)) λb hb=>aW R (fr b hb))
theorem FE {xs ys:List V} {a b:Value} {s₁:Shared} (hh:A.handled=none) {aO:List Addr} (S:SE J s.heap aO s₁.heap) (R:ak g aO H s₁.heap) (hx:VR g aO s₁.heap (.tup xs) a) (hy:VR g aO s₁.heap (.tup ys) b) (hS:bz s s₁) :
  wpAny (model g.prog g.w) A (call (.type "zip") [a,b]) (xX g A J s (dI xs ys) [(H.length,.own)] true (H++[.own])) E s₁:=by
 cases hx with
 | @tup _ l1 vs ht hz hv hn =>
  cases hy with
  | @tup _ l2 ws hu vm hw hm =>
   have Lh:l1<s₁.heap.objs.size:=by refine aB ht λz e z=>?_;exact UU e
   have Li:l2<s₁.heap.objs.size:=by refine aB hu λz e z=>?_;exact UU e
   refine yh ht hu λh' EM R7 DH SD SG dZ hk=>?_
   have fr:∀ k,s₁.heap.get? (s₁.heap.objs.size+k)=none:=λk=>gM (UA _ _)
   refine aR (R.moreOwn hk (fr 3) (aW R (fr 3)) DH) λR' S'=>?_
   have D:=zipApart_new Lh Li
   have rm:∀ k,k≠3->s₁.heap.objs.size+k∉aO++[s₁.heap.objs.size+3]:=λk EF py=>(Uk.mp py).elim (aY R (fr k)) λq=>EF (YA (O'.mp q))
   have Lu:∀ c,c<s₁.heap.objs.size->c∉aO->c∉aO++[s₁.heap.objs.size+3]:=λc hc KT py=>(Uk.mp py).elim KT λq=>absurd hc (O'.mp q ▸ UK.mpr (UA _ _))
   have w3:∀ b∈[s₁.heap.objs.size+4,s₁.heap.objs.size,s₁.heap.objs.size+1],s₁.heap.get? b=none:=λb hb=>(Uh.mp hb).elim (λe=>e ▸ fr 4) (tq (P:=λb=>s₁.heap.get? b=none) (aD _) (fr 1) b)
   refine⟨aO++[s₁.heap.objs.size+3],S.trans S',R',hS,λE Q h=>?_⟩
   have vn:(aO++[s₁.heap.objs.size+3])[H.length]? = some (s₁.heap.objs.size+3):=by rw[<-R.len];simp
   exact wpAny_pyIter_zip EM (h _ _ _ _ _ _ _ h' (pn.zip hh ⟨s₁.heap.objs.size+4,s₁.heap.objs.size+2,s₁.heap.objs.size+3,s₁.heap.objs.size,s₁.heap.objs.size+1,l1,l2,vs,ws⟩ H.length xs ys hv.length hw.length D)
    ⟨EM,R7,SD,SG,ht.at λo e=>hk _ o e,hu.at λo e=>hk _ o e⟩ (λz z e=>e) (.cons (.ref vn) ((hv.step R S').append (hw.step R S'))) (λb hb=>S.back (w3 b hb))
    (L9 (λb hb=>(Uh.mp hb).elim (λe=>e ▸ rm 4 (by decide)) (tq (P:=λb=>b∉aO++[s₁.heap.objs.size+3]) (rm 0 (by decide)) (rm 1 (by decide)) b)) λb hb=>(Uh.mp hb).elim (λe=>e ▸ rm 2 (by decide)) (tq (P:=λb=>b∉aO++[s₁.heap.objs.size+3]) (Lu _ Lh hn) (Lu _ Li hm) b)) λb hb=>aW R (w3 b hb))
end
noncomputable abbrev Gd {α:Type} (P:α->Prop) (o:Option α):Prop:=∀ c,o=some c->P c
theorem ah {α β:Type} {m:Option α} {k:α->Option β} {P:β->Prop} (h:∀ a,m=some a->Gd P (k a)):Gd P (m.bind k):=λc e=>by
 refine aT e λa h1 h2=>?_
 exact h a h1 c h2
theorem aL {α:Type} {P:α->Prop} {a:α} (h:P a):Gd P (some a):=λc e=>sm e ▸ h
theorem dn {α:Type} {P:α->Prop}:Gd P none:=λc e=>no e
theorem cI {α:Type} {P:α->Prop} {x:Option α} {b:Prop} [Decidable b] (h:b->Gd P x):Gd P (if b then x else none):=λc e=>h (cy e).1 c (cy e).2
theorem od {α:Type} {P:α->Prop} {x:Option α} {b:Prop} [Decidable b] (h:¬ b->Gd P x):Gd P (if b then none else x):=λc e=>h (vw e).1 c (vw e).2
theorem i6 {α:Type} {P:α->Prop} {x y:Option α} {b:Prop} [Decidable b] (h:b->Gd P x) (h':¬ b->Gd P y):Gd P (if b then x else y):=λc e=>by
 by_cases hb:b
 ·exact h hb c ((if_pos hb).symm.trans e)
 ·exact h' hb c ((if_neg hb).symm.trans e)
noncomputable def M6:gb->Nat
 | .ex _=>0
 | .rng1 _=>1
 | _=>2
noncomputable def Pm:gb->Option CE
 | .ex c=>some c
 | .rng1 c=>some c
 | _=>none
noncomputable def P3 (f:Expr->Option CE) (sc:Scope) (e:Expr) (it:gb):Prop:=(∃ c,it=.ex c/\f e=some c)\/(∃ y p q c,it=.rng1 c/\e=.Call (.Name ("range" : Str) p) [y] [] q/\bh sc ("range" : Str)=true/\f y=some c)\/M6 it=2
theorem qL {f:Expr->Option CE} {cx:cp} {sc:Scope} {e:Expr}:Gd (P3 f sc e) (zZ f cx sc e):=by
 have ex:Gd (P3 f sc e) (yg f e):=ah λc hc=>aL (.inl ⟨c,rfl,hc⟩)
 unfold zZ
 cases hp:kC e with
 | none=>exact ex
 | some p =>
  refine i6 (λhg=>i6 (λh1=>?_) λk =>
   i6 (λk=>ah λk k=>ah λk k=>ah λk k=>aL (.inr (.inr rfl))) λk =>
   i6 (λk=>ah λk k=>ah λk k=>aL (.inr (.inr rfl))) λk =>
   ex) λk=>ex
  obtain ⟨gn,as⟩:=p
  cases as with
  | nil=>exact dn
  | cons a r =>
   refine ah λx hx=>?_
   cases r with
   | nil=>exact aL (.inr (.inl (nW (jA hp) λp q z=>⟨a,p,q,x,rfl,beq_iff_eq.mp h1 ▸ z,beq_iff_eq.mp h1 ▸ (Up.mp hg).1,hx⟩)))
   | cons b r =>
    refine ah λy k=>?_
    cases r with
    | nil=>exact aL (.inr (.inr rfl))
    | cons c r=>exact ah λk k=>cI λk=>aL (.inr (.inr rfl))
section
variable {g:G} {A:Around} {E:Value->Shared->Prop} {J aj:List Addr} {H σ1 af:ag} {s s₁:Shared} {Z:Env} {O:List (Str×Nat)} {K:aN}
theorem bB.after {v:V} {a:Value} {cA:Shared} (S:SE J s.heap aj s₁.heap) (T:bz s s₁) (h:bB g aj s₁ v af a cA):bB g J s v af a cA:=by
 refine qT h λaO S' R' V' T'=>?_
 exact⟨aO,S.trans S',R',V',T.trans T'⟩
theorem DX.after {b c:Bool} {cA:Shared} (S:SE J s.heap aj s₁.heap) (T:bz s s₁) (h:DX g aj s₁ b af c cA):DX g J s b af c cA:=by
 obtain ⟨e,aO,S',R',T'⟩:=h
 exact⟨e,aO,S.trans S',R',T.trans T'⟩
theorem aM.bind {e:Expr} {m:aN->ag->Option (V×ag)} (hA:aM g A Z O e m) {x:V} (h:m K H=some (x,σ1)) (R:ak g J H s.heap) (F:dR g J Z O K s.heap) {Q:Value->Shared->Prop}
  (k:∀ a s₁ aj,SE J s.heap aj s₁.heap->bz s s₁->ak g aj σ1 s₁.heap->dR g aj Z O K s₁.heap->VR g aj s₁.heap x a->Q a s₁):wpAny (model g.prog g.w) A (eval e Z) Q E s :=
 wpAny_mono (hA K H x σ1 h J s R F E) (λa s₁ ⟨aj,S,au,a7,T⟩=>k a s₁ aj S T au (F.step R S) a7) λz z x=>x
theorem eR.bind {e:Expr} {m:aN->ag->Option (Bool×ag)} (hA:eR g A Z O e m) {x:Bool} (h:m K H=some (x,σ1)) (R:ak g J H s.heap) (F:dR g J Z O K s.heap) {Q:Bool->Shared->Prop}
  (k:∀ s₁ aj,SE J s.heap aj s₁.heap->bz s s₁->ak g aj σ1 s₁.heap->dR g aj Z O K s₁.heap->Q x s₁):wpAny (model g.prog g.w) A (isTrue e Z (eval e Z)) Q E s :=
 wpAny_mono (hA K H x σ1 h J s R F E) (λa s₁ ⟨e,aj,S,au,T⟩=>by apply aV e;exact k s₁ aj S T au (F.step R S)) λz z x=>x
noncomputable def pI (g:G) (A:Around) (fs:List Fn) (call:aw) (k:Nat):Prop :=
 ∀ as H v af,call k as H=some (.ok v,af)->∀ fn,fs[k]? = some fn->∀ J s cC,ak g J H s.heap->pj g J s.heap->bi g J s.heap as cC->∀ E,wpAny (model g.prog g.w) A (PySem.call (.ref fn.addr) cC) (bB g J s v af) E s
noncomputable def qF (g:G) (A:Around) (fs:List Fn) (call:aw):Prop:=∀ k,pI g A fs call k
noncomputable def jP (g:G) (A:Around) (Z:Env) (O:List (Str×Nat)) (e:Expr) (two:Bool) (m:aN->ag->Option (List V×List (Nat×aZ)×ag)):Prop :=
 ∀ K H xs w af,m K H=some (xs,w,af)->∀ J s,ak g J H s.heap->dR g J Z O K s.heap->∀ E,wpAny (model g.prog g.w) A (eval e Z) (xX g A J s xs w two af) E s
theorem zk {e:Expr} {c:CE} {call:aw} (h:aM g A Z O e (ab call c)) (he:isTrue e Z (eval e Z)=(do let v <-eval e Z;standAt e.pos;holding [v] (truthy v))):eR g A Z O e (cb call c):=by
 intro K H b af ht J s R F E
 refine isTrue_plain (h.bind (dg ht) R F λa s₁ aj S T au aU a7=>?_) he
 apply aV (vB rfl a7)
 exact wpAny_truthy_bool ⟨rfl,aj,S,au,T⟩
theorem l8 {v:V} {k:Const} {n:Nat} {pos:Pos} {call:aw} (hk:uN k=some v):aM g A Z O (.Constant k n pos) (ab call (.cst v)):=by
 intro K H v' af he J s R F E
 apply cU he
 cases k with
 | none=>apply dE hk;exact wpAny_Constant_none (bB.here (tk:=s.toks) R .none)
 | bool _=>apply dE hk;exact wpAny_Constant_bool (bB.here (tk:=s.toks) R (.bool _))
 | int _=>apply dE hk;exact wpAny_Constant_int (bB.here R (.int _ _))
 | str _=>apply dE hk;exact wpAny_Constant_str (bB.here R (.str _ _))
 | _=>exact no hk
theorem Fl {l r:Expr} {op:Operator} {pos:Pos} {a b:CE} {call:aw} (hl:aM g A Z O l (ab call a)) (hr:aM g A Z O r (ab call b)):aM g A Z O (.BinOp l op r pos) (ab call (.bin op a b)):=by
 intro K H v af he J s R F E
 refine bU he λx σ1 h1 he=>?_
 refine bU he λy ae h2 he=>?_
 refine wpAny_BinOp (hl.bind h1 R F λa s₁ aj S T au aU a7=>hr.bind h2 au aU λb cA cM S' T' bo ed cW=>?_)
 exact wpAny_mono (Eb he bo (a7.step au S') cW) (λz z x=>(bB.after (S.trans S') (T.trans T') x)) λz z x=>x
theorem pL {d:Nat} (hA:hW A d):A.units+8<cLine:=UR (U6 (B' (UA _ _) hA.units) 8) (by decide)
theorem Fm {d:Nat} (hA:hW A d) {l r:Expr} {op:CmpOp} {pos:Pos} {a b:CE} {call:aw} (hm:behindInMarks op r=false) (hl:aM g A Z O l (ab call a)) (hr:aM g A Z O r (ab call b)) :
  aM g A Z O (.Compare l [op] [r] pos) (ab call (.cmp op a b))/\eR g A Z O (.Compare l [op] [r] pos) (cb call (.cmp op a b)):=by
 constructor
 ·intro K H v af he J s R F E
  refine bU he λx σ1 h1 he=>?_
  refine bU he λy ae h2 he=>?_
  refine aT he λc hc he=>?_
  apply cU he
  refine wpAny_Compare1 (hl.bind h1 R F λa s₁ aj S T au aU a7=>hr.bind h2 au aU λb cA cM S' T' bo ed cW=>?_) hm
  exact wG hc (pL hA) bo (a7.step au S') cW ⟨cM,S.trans S',bo,.bool _,T.trans T'⟩
 ·intro K H v af he J s R F E
  refine bU (dg he) λx σ1 h1 he=>?_
  refine bU he λy ae h2 he=>?_
  refine aT he λc hc he=>?_
  refine aR (nE he) λe1 q2=>?_;apply ez q2
  apply ez (V.bool.inj e1)
  refine wpAny_isTrue_Compare1 (hl.bind h1 R F λa s₁ aj S T au aU a7=>hr.bind h2 au aU λb cA cM S' T' bo ed cW=>?_) hm
  exact wG hc (pL hA) bo (a7.step au S') cW (wpAny_truthy_bool ⟨rfl,cM,S.trans S',bo,T.trans T'⟩)
theorem xD {x:Expr} {pos:Pos} {a:CE} {call:aw} (hx:aM g A Z O x (ab call a)) (Bx:eR g A Z O x (cb call a)) :
  aM g A Z O (.UnaryOp .Not x pos) (ab call (.not a))/\eR g A Z O (.UnaryOp .Not x pos) (cb call (.not a)):=by
 constructor
 ·intro K H v af he J s R F E
  refine iX he λb σ1 h1 he=>?_
  apply cU he
  refine UnaryOp_ (hx.bind h1 R F λa s₁ aj S T au aU a7=>?_)
  apply aV (vB rfl a7)
  exact not_of (wpAny_truthy_bool ⟨aj,S,au,.bool _,T⟩)
 ·intro K H v af he J s R F E
  refine iX (dg he) λb σ1 h1 he=>?_
  refine aR (nE he) λe1 q2=>?_;apply ez q2
  apply ez (V.bool.inj e1)
  exact isTrue_not (Bx.bind (br h1) R F λs₁ aj S T au aU=>⟨rfl,aj,S,au,T⟩)
theorem xC {x:Expr} {pos:Pos} {a:CE} {call:aw} (hx:aM g A Z O x (ab call a)):aM g A Z O (.UnaryOp .USub x pos) (ab call (.neg a)):=by
 intro K H v af he J s R F E
 refine mf he λi σ1 h1 he=>?_
 apply cU he
 refine UnaryOp_ (hx.bind h1 R F λa s₁ aj S T au aU a7=>?_)
 apply we rfl a7;intro t
 exact PyProof.Rows.neg_int (bB.after S T (bB.here au (.int _ _)))
theorem Ft {t x y:Expr} {pos:Pos} {a b c:CE} {call:aw} (ht:eR g A Z O t (cb call a)) (hx:aM g A Z O x (ab call b)) (Bx:eR g A Z O x (cb call b)) (hy:aM g A Z O y (ab call c)) (EL:eR g A Z O y (cb call c)) :
  aM g A Z O (.IfExp t x y pos) (ab call (.ite a b c))/\eR g A Z O (.IfExp t x y pos) (cb call (.ite a b c)):=by
 constructor
 ·intro K H v af he J s R F E
  refine iX he λp σ1 h1 he=>?_
  cases p with
  | true=>exact IfExp_ (ht.bind (br h1) R F λs₁ aj S T au aU=>hx.bind he au aU λb cA cM S' T' bo ed cW=>⟨cM,S.trans S',bo,cW,T.trans T'⟩)
  | false=>exact IfExp_ (ht.bind (br h1) R F λs₁ aj S T au aU=>hy.bind he au aU λb cA cM S' T' bo ed cW=>⟨cM,S.trans S',bo,cW,T.trans T'⟩)
 ·intro K H v af he J s R F E
  refine iX (dg he) λp σ1 h1 he=>?_
  cases p with
  | true=>exact isTrue_IfExp (ht.bind (br h1) R F λs₁ aj S T au aU=>Bx.bind (br he) au aU λcA cM S' T' bo ed=>⟨rfl,cM,S.trans S',bo,T.trans T'⟩)
  | false=>exact isTrue_IfExp (ht.bind (br h1) R F λs₁ aj S T au aU=>EL.bind (br he) au aU λcA cM S' T' bo ed=>⟨rfl,cM,S.trans S',bo,T.trans T'⟩)
theorem l6 {f:Expr->Option CE} {call:aw} (ih:∀ e c,f e=some c->aM g A Z O e (ab call c)) (op:BoolOp) (pos:Pos):∀ (vs:List Expr) (c:CE),sh f op vs=some c->aM g A Z O (.BoolOp op vs pos) (ab call c)
 | [],_,h=>no h
 | [e],c,h=>λK H v af he J s R F E=>BoolOp_one (ih e c h K H v af he J s R F E)
 | e::e'::r,c,h=>by
  refine aT h λa ha h=>?_
  refine aT h λb hb h=>?_
  apply dE h
  have h1:=ih e a ha
  have h2:=l6 ih op pos (e'::r) b hb
  intro K H v af he J s R F E
  cases op with
  | And =>
   refine iX he λp σ1 hx he=>?_
   refine BoolOp_and (h1.bind hx R F λa s₁ aj S T au aU a7=>?_)
   apply aV (vB rfl a7)
   cases p with
   | true=>exact wpAny_truthy_bool (h2.bind he au aU λb cA cM S' T' bo ed cW=>⟨cM,S.trans S',bo,cW,T.trans T'⟩)
   | false =>
    apply cU he
    exact wpAny_truthy_bool ⟨aj,S,au,.bool _,T⟩
  | Or =>
   refine iX he λp σ1 hx he=>?_
   refine BoolOp_or (h1.bind hx R F λa s₁ aj S T au aU a7=>?_)
   apply aV (vB rfl a7)
   cases p with
   | false=>exact wpAny_truthy_bool (h2.bind he au aU λb cA cM S' T' bo ed cW=>⟨cM,S.trans S',bo,cW,T.trans T'⟩)
   | true =>
    apply cU he
    exact wpAny_truthy_bool ⟨aj,S,au,.bool _,T⟩
theorem l7 {f:Expr->Option CE} {call:aw} (ih:∀ e c,f e=some c->eR g A Z O e (cb call c)) (op:BoolOp) (pos:Pos) (wh:Sem Value):∀ (vs:List Expr) (c:CE),sh f op vs=some c ->
  ∀ K H b af,cb call c K H=some (b,af)->∀ J s,ak g J H s.heap->dR g J Z O K s.heap->∀ E,wpAny (model g.prog g.w) A (isTrue (.BoolOp op vs pos) Z wh) (DX g J s b af) E s
 | [],_,h=>no h
 | [e],c,h=>λK H v af he J s R F E=>by
  cases op with
  | And =>
   refine isTrue_and ((ih e c h).bind he R F λs₁ aj S T au aU=>?_)
   cases v
   ·exact⟨rfl,aj,S,au,T⟩
   ·exact isTrue_and_nil ⟨rfl,aj,S,au,T⟩
  | Or =>
   refine isTrue_or ((ih e c h).bind he R F λs₁ aj S T au aU=>?_)
   cases v
   ·exact isTrue_or_nil ⟨rfl,aj,S,au,T⟩
   ·exact⟨rfl,aj,S,au,T⟩
 | e::e'::r,c,h=>by
  refine aT h λa ha h=>?_
  refine aT h λb hb h=>?_
  apply dE h
  have h1:=ih e a ha
  have h2:=l7 ih op pos wh (e'::r) b hb
  intro K H v af he J s R F E
  cases op with
  | And =>
   refine iX (dg he) λp σ1 hx he=>?_
   refine isTrue_and (h1.bind (br hx) R F λs₁ aj S T au aU=>?_)
   cases p with
   | true=>exact wpAny_mono (h2 K σ1 v af (br he) aj s₁ au aU E) (λz z x=>DX.after S T x) λz z x=>x
   | false =>
    refine aR (nE he) λe1 q2=>?_;apply ez q2
    apply ez (V.bool.inj e1)
    exact⟨rfl,aj,S,au,T⟩
  | Or =>
   refine iX (dg he) λp σ1 hx he=>?_
   refine isTrue_or (h1.bind (br hx) R F λs₁ aj S T au aU=>?_)
   cases p with
   | false=>exact wpAny_mono (h2 K σ1 v af (br he) aj s₁ au aU E) (λz z x=>DX.after S T x) λz z x=>x
   | true =>
    refine aR (nE he) λe1 q2=>?_;apply ez q2
    apply ez (V.bool.inj e1)
    exact⟨rfl,aj,S,au,T⟩
theorem cz {f:Expr->Option CE} (hs:∀ e p,f (.Starred e p)=none) {e:Expr} {c:CE} (h:f e=some c) (aG:List Expr):starEach (e::aG) Z=(false,eval e Z)::starEach aG Z:=by
 cases e with
 | Starred e p=>rw[hs] at h;cases h
 | _=>rfl
theorem jh {f:Expr->Option CE} (hs:∀ e p,f (.Starred e p)=none) (pos:Pos):∀ {es:List Expr} {cs:fh},bY f es=some cs->(backTo pos (starEach es Z)).any (·.1)=false
 | [],_,_=>rfl
 | e::r,cs,h=>by
  refine aT h λc h1 h=>?_
  refine aT h λGl h2 h=>?_
  rw[cz hs h1]
  have:=jh hs pos h2 (es:=r)
  simpa [backTo] using this
theorem f0 {f:Expr->Option CE} {call:aw} (hs:∀ e p,f (.Starred e p)=none) (ih:∀ e c,f e=some c->aM g A Z O e (ab call c)) (pos:Pos):∀ {es:List Expr} {cs:fh},bY f es=some cs ->
  ∀ ⦃K H vs af⦄,a8 call cs K H=some (vs,af)->∀ ⦃J s⦄,ak g J H s.heap->dR g J Z O K s.heap->∀ E,wpAny (model g.prog g.w) A (spliced (backTo pos (starEach es Z))) (Nj g J s vs af) E s
 | [],cs,h=>by
  intro K H vs af he J s R F E
  obtain rfl:=sm h
  refine aR (nE he) λk1 k2=>?_;subst k1;subst k2
  exact args_nil ⟨J,SE.refl _ _,R,.nil,bz.refl _⟩
 | e::r,cs,h=>by
  refine aT h λc h1 h=>?_
  refine aT h λGl h2 h=>?_
  apply dE h
  intro K H vs af he J s R F E
  refine bU he λx σ1 hx he=>?_
  refine bU he λxs ae M1 he=>?_
  apply cU he
  refine args_cons ((ih e c h1).bind hx R F λa s₁ aj S T au aU a7=>wpAny_mono (f0 hs ih pos h2 M1 au aU E) (λvs cA ⟨cM,S',bo,cW,T'⟩=>?_) λz z x=>x) (cz hs h1 r)
  exact⟨cM,S.trans S',bo,.cons (a7.step au S') cW,T.trans T'⟩
theorem tQ {f:Expr->Option CE} {call:aw} (hs:∀ e p,f (.Starred e p)=none) (ih:∀ e c,f e=some c->aM g A Z O e (ab call c)) {pos:Pos} {es:List Expr} {cs:fh} (h:bY f es=some cs):aM g A Z O (.List es pos) (ab call (.list cs)):=by
 intro K H v af he J s R F E
 refine bU he λvs σ1 h1 he=>?_
 refine iK (fX he) λhz q2 q3=>?_;apply aV q2;apply aV q3
 refine wpAny_List_spliced (wpAny_mono (f0 hs ih pos h h1 R F E) (λas s₁ ⟨aj,S,au,a7,T⟩=>⟨by rw[<-a7.length];exact hz,?_⟩) λz z x=>x)
 exact bB.after S T (bB.newL (tk:=s₁.toks) au (UX hz) a7 (λb o e=>G' _ e) (aD _) ⟨_,Uo _ rfl⟩)
theorem qw {f:Expr->Option CE} {call:aw} (hs:∀ e p,f (.Starred e p)=none) (ih:∀ e c,f e=some c->aM g A Z O e (ab call c)) {pos:Pos} {k:Nat} {es:List Expr} {cs:fh} (h:bY f es=some cs):aM g A Z O (.Tuple es k pos) (ab call (.tuple cs)):=by
 intro K H v af he J s R F E
 refine bU he λvs σ1 h1 he=>?_
 refine iK (jo he) λhz q2 q3=>?_;apply aV q2;apply aV q3
 refine wpAny_Tuple_spliced (wpAny_mono (f0 hs ih pos h h1 R F E) (λas s₁ ⟨aj,S,au,a7,T⟩=>⟨by rw[<-a7.length];exact hz,?_⟩) λz z x=>x)
 exact bB.after S T (bB.newT (tk:=s₁.toks) au (UX hz) a7 (λb o e=>G' _ e) (aD _) (fG _ _))
theorem zg {pos:Pos} {call:aw}:aM g A Z O (.Dict [] [] pos) (ab call .dict0):=by
 intro K H v af he J s R F E
 apply cU he
 refine wpAny_Dict_empty ?_
 have hk:∀ b o,s.heap.get? b=some o->(s.heap.push {cls:=.type "dict", data:=.dict #[]}).get? b=some o:=λb o e=>G' _ e
 have R':ak g J H (s.heap.push {cls:=.type "dict", data:=.dict #[]}):=R.keeps hk
 have Bb:=aY R (aD _)
 have KF:=aW R (aD _)
 have S:SE J s.heap J (s.heap.push {cls:=.type "dict", data:=.dict #[]}):=SE.keeps J hk
 have hd:(s.heap.push {cls:=.type "dict", data:=.dict #[]}).DictOf (strKind g.prog g.w) s.heap.objs.size []:=Heap.DictOf.new ..
 refine⟨J++[s.heap.objs.size],⟨S.pres,S.dom,[_],rfl,λa ha=>?_⟩,R'.more Bb KF (.ds hd rfl .nil) (λo e=>?_),.ref ?_,bz.refl _⟩
 ·simp at ha;apply aV ha;exact aD _
 ·rw[Uo _ rfl] at e;cases e;exact pZ rfl
 ·rw[<-R.len];simp
end
section
variable {g:G} {cx:cp} {fs:List Fn} {mg mb:Str->Option Value} {A:Around} {E:Value->Shared->Prop} {J aj:List Addr} {H σ1 af:ag} {s s₁:Shared} {Z:Env} {O:List (Str×Nat)} {K:aN}
theorem xA {v i:Expr} {pos:Pos} {a b:CE} {call:aw} (gh:∀ l u st p,i≠.Slice l u st p) (hv:aM g A Z O v (ab call a)) (hi:aM g A Z O i (ab call b)):aM g A Z O (.Subscript v i pos) (ab call (.idx a b)):=by
 intro K H r af he J s R F E
 refine bU he λx σ1 h1 he=>?_
 refine bU he λy ae h2 he=>?_
 refine aT he λc hc he=>?_
 apply cU he
 refine Subscript_ (hv.bind h1 R F λa s₁ aj S T au aU a7=>hi.bind h2 au aU λb cA cM S' T' bo ed cW=>?_)
 refine aR (EP (A:=A) (E:=E) hc bo (a7.step au S') cW) λk1 hg=>?_;refine gA k1 λT id hT hl=>?_
 refine tail_any (ops:=[a,b]) hT hl (wpAny_mono hg (λz z x=>bB.after (S.trans S') (bz.trans ‹_› T') x) λz z x=>x) ?_
 cases i with
 | Slice l u st p=>exact absurd rfl (gh l u st p)
 | _=>rfl
theorem tX {h:Heap} {v:V} {a:Value} {i:Nat} (hv:VR g J h v a) (hl:kW v=some i):iu a v:=by
 cases hv with
 | none=>exact .none
 | int k t=>exact .int k t
 | _=>exact no hl
theorem tW {h:Heap} {v:V} {a:Value} {n i:Nat} (hv:VR g J h v a) (hl:jv n v=some i):iu a v:=by
 cases hv with
 | none=>exact .none
 | int k t=>exact .int k t
 | _=>exact no hl
theorem aM.part {f:Expr->Option CE} {call:aw} (ih:∀ e c,f e=some c->aM g A Z O e (ab call c)) {o:Option Expr} {c:CE} (hc:Az f o=some c) {x:V} (h:ab call c K H=some (x,σ1)) (R:ak g J H s.heap) (F:dR g J Z O K s.heap) {Q:Value->Shared->Prop}
  (k:∀ a s₁ aj,SE J s.heap aj s₁.heap->bz s s₁->ak g aj σ1 s₁.heap->dR g aj Z O K s₁.heap->VR g aj s₁.heap x a->Q a s₁):wpAny (model g.prog g.w) A (evalPart o Z) Q E s:=by
 cases o with
 | none =>
  obtain rfl:=sm hc
  refine aR (nE h) λk2 k3=>?_;subst k2;subst k3
  exact evalPart_none_step (k .none s J (SE.refl _ _) (bz.refl _) R F .none)
 | some e=>exact evalPart_some_step ((ih e c hc).bind h R F k)
set_option tactic.hygienic true in
theorem Fx {f:Expr->Option CE} {v:Expr} {lo hi:Option Expr} {p pos:Pos} {a b c:CE} {call:aw} (ih:∀ e c,f e=some c->aM g A Z O e (ab call c)) (hv:aM g A Z O v (ab call a)) (hl:Az f lo=some b) (hu:Az f hi=some c) :
  aM g A Z O (.Subscript v (.Slice lo hi none p) pos) (ab call (.slc a b c)):=by
 intro K H r af he J s R F E
 refine bU he λx σ1 h1 he=>?_
 refine bU he λy ae h2 he=>?_
 refine bU he λz bg h3 he=>?_
 refine Subscript_ (hv.bind h1 R F λa s₁ aj S T au aU a7=>wpAny_Slice (aM.part ih hl h2 au aU λb cA cM cR fO bo ed cW=>aM.part ih hu h3 bo ed λc g6 qD gq qG gp nH Ak=>evalPart_none_step ?_))
 have hk:∀ b' o,g6.heap.get? b'=some o->(g6.heap.push {cls:=.type "slice", data:=.fields #[b,c,.none]}).get? b'=some o:=λb o e=>G' _ e
 have jR:SE qD g6.heap qD (g6.heap.push {cls:=.type "slice", data:=.fields #[b,c,.none]}):=SE.keeps _ hk
 have pq:=gp.keeps hk
 have J9:=((a7.step au cR).step bo gq).step gp jR
 have F9:=(cW.step bo gq).step gp jR
 have Ga:=Ak.step gp jR
 have hs:=Heap.IsSliceOf.new g6.heap b c .none
 have gJ:∀ {r af a' s'},bB g qD {g6 with heap:=g6.heap.push {cls:=.type "slice", data:=.fields #[b,c,.none]}} r af a' s'->bB g J s r af a' s':=λx =>
  bB.after (s₁:={g6 with heap:=g6.heap.push {cls:=.type "slice", data:=.fields #[b,c,.none]}}) (S.trans (cR.trans (gq.trans jR))) (T.trans (fO.trans qG)) x
 revert he;apply VR.el J9
 case tup =>
  intro _ _ _ ht hz oq hn he
  ·refine aT he λi hi he=>?_
   refine aT he λj hj he=>?_
   refine iK (jo he) λvm q2 q3=>?_;apply aV q2;apply aV q3
   exact tail_any (ops:=[.ref g6.heap.objs.size,.ref _]) ht.typeIs slot_tuple_getitem.lookup (wpAny_mono (zB pq ht hz oq hn hs (tX F9 hi) (tW Ga hj) hi hj vm) (λ_ _ x=>gJ x) λ_ _ x=>x) rfl
 case str =>
  intro x t he
  ·refine aT he λi hi he=>?_
   refine aT he λj hj he=>?_
   refine iK (yU he) λvm q2 q3=>?_;apply aV q2;apply aV q3
   exact tail_any (ops:=[.ref g6.heap.objs.size,.str x t]) (typeIs_str _ _ _) PySem.F.slot_str_getitem.lookup (wpAny_mono (zu pq hs (tX F9 hi) (tW Ga hj) hi hj vm) (λ_ _ x=>gJ x) λ_ _ x=>x) rfl
 all_goals (intros;rename_i he;exact no he)
theorem bG {x:Str} (h:bh Z.scope x=true):Z.kindOf x=some .globalImplicit/\(x==("__debug__" : Str))=false:=by
 simp only[bh,Uv,beq_iff_eq,Vh] at h
 exact⟨h.1,h.2⟩
set_option tactic.hygienic true in
theorem mj {α:Type} {p:α->Bool}:∀ {l:List α} {k:Nat},l.findIdx? p=some k->∃ x,l[k]? = some x/\p x=true
 | [],_,h=>by simp at h
 | a::l,k,h=>by
  rw[List.findIdx?_cons] at h
  split at h
  ·rename_i hp
   cases h
   exact⟨a,rfl,hp⟩
  ·simp only[Vi] at h
   refine aB h λj hj q3=>?_;apply ez q3
   refine aB (mj hj) λx h1 h2=>?_
   exact⟨x,by simpa using h1,h2⟩
theorem A8 (G:er g cx fs mg mb) {f:Str} {k:Nat} (h:gw cx f=some k):∃ fn,fs[k]? = some fn/\fn.name=f:=by
 refine aB (mj h) λx h1 h2=>?_
 rw[<-G.names] at h1
 simp only[Um,Vi] at h1
 refine aB h1 λfn h3 q3=>?_;subst q3
 exact⟨fn,h3,by simpa using h2⟩
theorem tN {call:aw} {k:Nat} (G:er g cx fs mg mb) (hC:pI g A fs call k) {F':Expr->Option CE} (hs:∀ e p,F' (.Starred e p)=none) (ih:∀ e c,F' e=some c->aM g A Z O e (ab call c)) {f:Str} {p pos:Pos} {as:List Expr} {cs:fh}
  (hg:bh Z.scope f=true) (hk:gw cx f=some k) (fK:as.isEmpty=false) (h:bY F' as=some cs):aM g A Z O (.Call (.Name f p) as [] pos) (ab call (.call k cs)):=by
 intro K H v af he J s R F E
 refine bU he λvs σ1 h1 he=>?_
 refine bU he λr ae h2 he=>?_
 refine aT he λu hu he=>?_
 apply cU he
 have hr:r=.ok u:=by
  cases r with
  | ok w=>exact congrArg uo.ok (sm hu)
  | exc _ _=>exact no hu
 subst hr
 refine aB (A8 G hk) λfn kK q3=>?_;subst q3
 obtain ⟨hm,o,pm,cd,doc,ho,hd,lU⟩:=G.made fn (Ui kK)
 refine aR (bG hg) λlC lD=>?_
 cases as with
 | nil=>cases fK
 | cons e aG =>
  refine aT (k:=λc=>(bY F' aG).bind λcs=>some (fh.cons c cs)) h λc hc z=>?_
  refine Call_Name rfl (gO G F R lC lD hm (callWith_def (o:=o) hd (wpAny_mono (f0 hs ih pos h h1 R F E) (λcC s₁ ⟨aj,S,au,a7,T⟩=>⟨au.base _ _ ho,?_⟩) λz z x=>x) (cz hs hc aG)))
  exact wpAny_mono (hC vs σ1 u ae h2 fn kK aj s₁ cC au (F.step R S).stk a7 E) (λz z x=>bB.after S T x) λz z x=>x
noncomputable def fc:iO->Value
 | .len=>.builtin "len" | .sum=>.builtin "sum" | .min2=>.builtin "min" | .max2=>.builtin "max" | .min1=>.builtin "min" | .max1=>.builtin "max"
 | .tuple=>.type "tuple" | .list=>.type "list" | .str=>.type "str" | .int=>.type "int" | .sorted=>.builtin "sorted" | _=>.none
noncomputable def Cs:iO->Bool
 | .len | .sum | .min2 | .max2 | .min1 | .max1 | .tuple | .list | .str | .int | .sorted=>true
 | _=>false
theorem vV:∀ q∈xu,1<=q.2.1/\q.1∈dO/\bootBuiltins q.1=some (fc q.2.2)/\Cs q.2.2=true:=by decide +kernel
theorem tG {p:iO} (h:Cs p=true):(∀ as,kY p as=PySem.call (fc p) as)/\((∃ id,fc p=.builtin id)\/∃ T,fc p=.type T):=by
 cases p <;> first | exact⟨λz=>rfl,.inl ⟨_,rfl⟩⟩ | exact⟨λz=>rfl,.inr ⟨_,rfl⟩⟩ | exact nomatch h
theorem AB {f:Str} {n:Nat} {p:iO} (h:AA f n=some p):1<=n/\f∈dO/\bootBuiltins f=some (fc p)/\(∀ as,kY p as=PySem.call (fc p) as)/\((∃ id,fc p=.builtin id)\/∃ T,fc p=.type T):=by
 refine yo (vV _ (kg h)) λh1 h2 h3 h4=>?_
 exact⟨h1,h2,h3,tG h4⟩
theorem bH {v:Value} {pos:Pos} {e:Expr} {aG:List Expr} {Q:Value->Shared->Prop} (hv:(∃ id,v=.builtin id)\/∃ T,v=.type T)
  (h:wpAny (model g.prog g.w) A (spliced (backTo pos (starEach (e::aG) Z))) (λvs s₁=>wpAny (model g.prog g.w) A (PySem.call v vs) Q E s₁) E s)
  (he:starEach (e::aG) Z=(false,eval e Z)::starEach aG Z) (Bp:(backTo pos (starEach aG Z)).any (·.1)=false) :
  wpAny (model g.prog g.w) A (callWith pos v [] (backTo pos (starEach (e::aG) Z)) []) Q E s:=by
 rcases hv with ⟨id,rfl⟩ | ⟨T,rfl⟩
 ·exact callWith_builtin1 h he Bp
 ·exact callWith_type1 h he Bp
theorem CU {call:aw} {d:Nat} (hA:hW A d) (G:er g cx fs mg mb) {F':Expr->Option CE} (hs:∀ e p,F' (.Starred e p)=none) (ih:∀ e c,F' e=some c->aM g A Z O e (ab call c)) {f:Str} {p' pos:Pos} {p:iO} {as:List Expr} {cs:fh}
  (hg:bh Z.scope f=true) (hp:AA f as.length=some p) (h:bY F' as=some cs):aM g A Z O (.Call (.Name f p') as [] pos) (ab call (.prim p cs)):=by
 intro K H v af he J s R F E
 refine bU he λvs σ1 h1 he=>?_
 refine NR (AB hp) λhn hm hb hc hh=>?_
 refine aR (bG hg) λlC lD=>?_
 cases as with
 | nil=>cases hn
 | cons e aG =>
  refine aT (k:=λc=>(bY F' aG).bind λcs=>some (fh.cons c cs)) h λc dK h'=>?_
  refine aT h' λGl hr z=>?_
  refine Call_Name rfl (cF G F R lC lD hm hb (bH hh (wpAny_mono (f0 hs ih pos h h1 R F E) (λcC s₁ ⟨aj,S,au,a7,T⟩=>?_) λz z x=>x) (cz hs dK aG) (jh hs pos hr)))
  rw[<-hc]
  exact wpAny_mono (tH he hA.handled G.sys au a7) (λz z x=>bB.after S T x) λz z x=>x
noncomputable def G3:iO->String
 | .isInt => "int" | .isBool => "bool" | .isTuple => "tuple" | .isStr => "str" | .isList => "list" | _ => ""
theorem yJ:∀ q∈BE,q.1∈dO/\bootBuiltins q.1=some (.type (G3 q.2.2))/\G3 q.2.2 ≠ "" := by decide +kernel
theorem Ec {t:Str} {p:iO} (h:HX t=some p):∃ T,t∈dO/\bootBuiltins t=some (.type T)/\∀ a,kY p [a]=PySem.call (.builtin "isinstance") [a,.type T]:=by
 refine iK (yJ _ (kg h)) λh1 h2 h3=>?_
 refine⟨_,h1,h2,λa=>?_⟩
 cases p <;> first | rfl | exact absurd rfl h3
theorem Fs {call:aw} {d:Nat} (hA:hW A d) (G:er g cx fs mg mb) {x:Expr} {t:Str} {p' Je pos:Pos} {p:iO} {a:CE} (gh:∀ e q,x≠.Starred e q) (hx:aM g A Z O x (ab call a)) (hg:bh Z.scope ("isinstance" : Str)=true) (GD:bh Z.scope t=true)
  (hp:HX t=some p):aM g A Z O (.Call (.Name ("isinstance" : Str) p') [x,.Name t Je] [] pos) (ab call (.prim p (.cons a .nil))):=by
 intro K H v af he J s R F E
 refine bU he λvs σ1 h1 he=>?_
 refine bU h1 λy ae h2 h1=>?_
 refine aR (nE h1) λq1 q2=>?_;subst q1 q2
 refine ew (Ec hp) λT hm hb hc=>?_
 refine aR (bG hg) λlC lD=>?_
 refine aR (bG GD) λSy Sz=>?_
 have gR:starEach [x,.Name t Je] Z=(false,eval x Z)::starEach [.Name t Je] Z:=by
  cases x with
  | Starred e q=>exact absurd rfl (gh e q)
  | _=>rfl
 refine Call_Name rfl (cF G F R lC lD (by decide) (v:=.builtin "isinstance") (by decide +kernel) (bH (.inl ⟨_,rfl⟩) (args_cons (hx.bind h2 R F λb s₁ aj S T' au aU a7=>args_cons (cF G aU au Sy Sz hm hb (args_nil ?_))) gR) gR rfl))
 rw[<-hc]
 exact wpAny_mono (tH he hA.handled G.sys au (.one a7)) (λz z x=>bB.after S T' x) λz z x=>x
theorem vK:∀ q∈xn,1<=q.2.1/\q.2.1<=2/\q.1=oK q.2.2:=by decide +kernel
theorem sn {m:Str} {n:Nat} {p:fN} (h:wA m n=some p):1<=n/\n<=2/\m=oK p:=vK _ (kg h)
theorem t5 {f:Expr->Option CE} (hs:∀ e p,f (.Starred e p)=none) (pos:Pos) {es:List Expr} {cs:fh} (h:bY f es=some cs):(backTo pos (starEach es Z)).all (λx=>!x.1)=true:=by
 have:=jh (Z:=Z) hs pos h
 rw[List.any_eq_false] at this
 rw[Vs]
 intro x hx
 have:=this x hx
 simpa using this
theorem CR {call:aw} (G:er g cx fs mg mb) {F':Expr->Option CE} (hs:∀ e p,F' (.Starred e p)=none) (ih:∀ e c,F' e=some c->aM g A Z O e (ab call c)) {o:Expr} {m:Str} {ap pos:Pos} {p:fN} {as:List Expr} {a:CE} {cs:fh}
  (ho:aM g A Z O o (ab call a)) (IB:vY o=true) (oi:(ap.endLine==pos.line)=true) (hp:wA m as.length=some p) (h:bY F' as=some cs):aM g A Z O (.Call (.Attribute o m ap) as [] pos) (ab call (.meth p a cs)):=by
 intro K H v af he J s R F E
 refine bU he λx σ1 h1 he=>?_
 refine dL he λhr he=>?_
 refine bU he λvs ae h2 he=>?_
 refine iK (sn hp) λyz yA q3=>?_;apply aV q3
 cases as with
 | nil=>cases yz
 | cons e aG =>
  refine aT (k:=λc=>(bY F' aG).bind λcs=>some (fh.cons c cs)) h λc dK h'=>?_
  refine aT h' λGl Lx z=>?_
  refine wpAny_Call_method_lateS ?_ ?_ oi (ho.bind h1 R F λav s₁ aj S T au aU a7=>?_)
  ·cases o with
   | Name x p=>rfl
   | Constant k n p=>rfl
   | Subscript x y p=>rfl
   | _=>cases IB
  ·rw[t5 hs pos h]
   have:(e::aG).length+0+0<30:=by have:=yA;exact jT (y3 0x1c001e9210b28012ba080112ba0812 rfl (iL yA) (iA _ _) (iA _ _))
   exact decide_eq_true (p:=(e::aG).length+0+0<30) this
  ·refine aR (tI (s:=s₁) hr au a7) λhT hd=>?_
   refine⟨oL p,oJ p,oM p,qh p,qi p,hT,hd,callWith_method1 (wpAny_mono (f0 hs ih pos h h2 au aU E) (λcC cA ⟨cM,cR,bo,cW,fO⟩=>?_) λz z x=>x) (cz hs dK aG) (jh hs pos Lx)⟩
   exact wpAny_mono (B8 he G.sys bo (a7.step au cR) cW) (λz z x=>bB.after (S.trans cR) (T.trans fO) x) λz z x=>x
end
section
variable {g:G} {cx:cp} {fs:List Fn} {mg mb:Str->Option Value} {A:Around} {E:Value->Shared->Prop} {J aj:List Addr} {H σ1 af:ag} {s s₁:Shared} {Z:Env} {O:List (Str×Nat)} {K:aN} {call:aw} {d:Nat}
theorem CO {e:Expr} {c:CE} (hA:hW A d) (he:aM g A Z O e (ab call c)):jP g A Z O e false (bS call (.ex c)):=by
 intro K H xs w af h J s R F E
 rw[xE] at h
 refine bU h λx σ1 h1 h=>?_
 refine xq h λl w' h2 h=>?_
 apply gW h
 exact wpAny_mono (he K H x σ1 h1 J s R F E) (λa s₁ hp=>FD hA.handled h2 hp) λz z x=>x
theorem ff {a:Int} (h:fx a=true):-1000000000<=a/\a<=1000000000:=by
 simpa [fx] using h
theorem iz {x:Expr} {aG:List Expr} (gh:∀ e q,x≠.Starred e q):starEach (x::aG) Z=(false,eval x Z)::starEach aG Z:=by
 cases x with
 | Starred e q=>exact absurd rfl (gh e q)
 | _=>rfl
theorem o7 {a b c:Int} {t u v:Tok} {tk:Nat} (hA:A.handled=none) (hc:c≠0) (r3:Builtin.Range.small a b c=true) (S:SE J s.heap aj s₁.heap) (R:ak g aj H s₁.heap) (T:bz s s₁) :
  xX g A J s (bQ a b c) [] false H (.ref s₁.heap.objs.size) {s₁ with heap:=s₁.heap.push {cls:=.type "range", data:=.fields #[.int a t,.int b u,.int c v]},toks:=tk} :=
 have hk:∀ b' o,s₁.heap.get? b'=some o->(s₁.heap.push {cls:=.type "range", data:=.fields #[.int a t,.int b u,.int c v]}).get? b'=some o:=λb o e=>G' _ e
 zr (s₁:={s₁ with heap:=s₁.heap.push {cls:=.type "range", data:=.fields #[.int a t,.int b u,.int c v]},toks:=tk}) hA (IsRange.new ..) hc r3 (S.trans (SE.keeps _ hk)) (R.keeps hk) T
theorem CW {x:Expr} {a:CE} {p pos:Pos} (hA:hW A d) (G:er g cx fs mg mb) (hg:bh Z.scope ("range" : Str)=true) (gh:∀ e q,x≠.Starred e q) (hx:aM g A Z O x (ab call a)):jP g A Z O (.Call (.Name ("range" : Str) p) [x] [] pos) false (bS call (.rng1 a)):=by
 intro K H xs w af h J s R F E
 refine mf h λn σ1 h1 h=>?_
 refine dL h λr3 h=>?_
 apply gW h
 refine aR (bG hg) λlC lD=>?_
 have gR:starEach [x] Z=(false,eval x Z)::starEach [] Z:=iz gh
 refine Call_Name rfl (cF G F R lC lD (by decide) (v:=.type "range") (by decide +kernel) (bH (.inr ⟨_,rfl⟩) (args_cons (hx.bind h1 R F λb s₁ aj S T au aU a7=>args_nil ?_) gR) gR rfl))
 apply we rfl a7;intro t1
 exact call_range_1 (o7 hA.handled (by decide) (lc (by decide) (by decide) (ff r3) (by decide)) S au T)
theorem CX {x y:Expr} {a b:CE} {p pos:Pos} (hA:hW A d) (G:er g cx fs mg mb) (hg:bh Z.scope ("range" : Str)=true) (gh:∀ e q,x≠.Starred e q) (Bo:∀ e q,y≠.Starred e q) (hx:aM g A Z O x (ab call a)) (hy:aM g A Z O y (ab call b)):jP g A Z O (.Call (.Name ("range" : Str) p) [x,y] [] pos) false (bS call (.rng2 a b)):=by
 intro K H xs w af h J s R F E
 refine mf h λm σ1 h1 h=>?_
 refine mf h λn ae h2 h=>?_
 refine dL h λr3 h=>?_
 apply gW h
 simp only[Uv] at r3
 refine aR (bG hg) λlC lD=>?_
 have gR:starEach [x,y] Z=(false,eval x Z)::starEach [y] Z:=iz gh
 have s0:starEach [y] Z=(false,eval y Z)::starEach [] Z:=iz Bo
 refine Call_Name rfl (cF G F R lC lD (by decide) (v:=.type "range") (by decide +kernel) (bH (.inr ⟨_,rfl⟩) (args_cons (hx.bind h1 R F λb s₁ aj S T au aU a7=>args_cons (hy.bind h2 au aU λb' cA cM cR fO bo ed cW=>args_nil ?_) s0) gR) gR (by rw[s0];rfl)))
 apply we rfl a7;intro t1;apply we rfl cW;intro t2
 exact call_range_2 (o7 hA.handled (by decide) (lc (by decide) (ff r3.1) (ff r3.2) (by decide)) (S.trans cR) bo (T.trans fO))
theorem CY {x y z:Expr} {a b c:CE} {p pos:Pos} (hA:hW A d) (G:er g cx fs mg mb) (hg:bh Z.scope ("range" : Str)=true) (gh:∀ e q,x≠.Starred e q) (Bo:∀ e q,y≠.Starred e q) (Lo:∀ e q,z≠.Starred e q) (hx:aM g A Z O x (ab call a)) (hy:aM g A Z O y (ab call b)) (hz:aM g A Z O z (ab call c)) :
  jP g A Z O (.Call (.Name ("range" : Str) p) [x,y,z] [] pos) false (bS call (.rng3 a b c)):=by
 intro K H xs w af h J s R F E
 refine mf h λm σ1 h1 h=>?_
 refine mf h λn ae h2 h=>?_
 refine mf h λk bg h3 h=>?_
 refine dL h λr3 h=>?_
 apply gW h
 simp only[Uv,bne_iff_ne,ne_eq] at r3
 refine aR r3 λk1 jH=>?_;refine aR k1 λk2 GM=>?_;refine aR k2 λBr hs2=>?_
 refine aR (bG hg) λlC lD=>?_
 have gR:starEach [x,y,z] Z=(false,eval x Z)::starEach [y,z] Z:=iz gh
 have s0:starEach [y,z] Z=(false,eval y Z)::starEach [z] Z:=iz Bo
 have GN:starEach [z] Z=(false,eval z Z)::starEach [] Z:=iz Lo
 refine Call_Name rfl (cF G F R lC lD (by decide) (v:=.type "range") (by decide +kernel) (bH (.inr ⟨_,rfl⟩) (args_cons (hx.bind h1 R F λb s₁ aj S T au aU a7=>args_cons (hy.bind h2 au aU λb' cA cM cR fO bo ed cW=>args_cons (hz.bind h3 bo ed λb'' g6 qD gq qG gp nH Ak=>args_nil ?_) GN) s0) gR) gR (by rw[s0,GN];rfl)))
 apply we rfl a7;intro t1;apply we rfl cW;intro t2;apply we rfl Ak;intro t3
 have l3:=ff GM
 exact call_range_3 jH (o7 hA.handled jH (lc jH (ff Br) (ff hs2) (ff GM)) (S.trans (cR.trans gq)) gp (T.trans (fO.trans qG))) (.inl (PyProof.noPylong_small (UR (HK (n:=1000000000) l3.1 l3.2) (by decide))))
theorem FA {x y:Expr} {a b:CE} {p pos:Pos} (hA:hW A d) (G:er g cx fs mg mb) (hg:bh Z.scope ("zip" : Str)=true) (gh:∀ e q,x≠.Starred e q) (Bo:∀ e q,y≠.Starred e q) (hx:aM g A Z O x (ab call a)) (hy:aM g A Z O y (ab call b)):jP g A Z O (.Call (.Name ("zip" : Str) p) [x,y] [] pos) true (bS call (.zip a b)):=by
 intro K H xs w af h J s R F E
 rw[tZ] at h
 refine bU h λm σ1 h1 h=>?_
 refine bU h λn ae h2 h=>?_
 refine aT h λQ6 Bx h=>?_
 refine aT h λys' EL h=>?_
 apply gW h
 obtain rfl:=nM Bx
 obtain rfl:=nM EL
 refine aR (bG hg) λlC lD=>?_
 have gR:starEach [x,y] Z=(false,eval x Z)::starEach [y] Z:=iz gh
 have s0:starEach [y] Z=(false,eval y Z)::starEach [] Z:=iz Bo
 refine Call_Name rfl (cF G F R lC lD (by decide) (v:=.type "zip") (by decide +kernel) (bH (.inr ⟨_,rfl⟩) (args_cons (hx.bind h1 R F λb s₁ aj S T au aU a7=>args_cons (hy.bind h2 au aU λb' cA cM cR fO bo ed cW=>args_nil ?_) s0) gR) gR (by rw[s0];rfl)))
 exact FE hA.handled (S.trans cR) bo (a7.step au cR) cW (T.trans fO)
theorem Fo {x:Expr} {a:CE} {p pos:Pos} (hA:hW A d) (G:er g cx fs mg mb) (hg:bh Z.scope ("enumerate" : Str)=true) (gh:∀ e q,x≠.Starred e q) (hx:aM g A Z O x (ab call a)):jP g A Z O (.Call (.Name ("enumerate" : Str) p) [x] [] pos) true (bS call (.enm a)):=by
 intro K H xs w af h J s R F E
 rw[tY] at h
 refine bU h λl σ1 h1 h=>?_
 refine aT h λQ6 Bx h=>?_
 apply gW h
 obtain rfl:=nM Bx
 refine aR (bG hg) λlC lD=>?_
 have gR:starEach [x] Z=(false,eval x Z)::starEach [] Z:=iz gh
 refine Call_Name rfl (cF G F R lC lD (by decide) (v:=.type "enumerate") (by decide +kernel) (bH (.inr ⟨_,rfl⟩) (args_cons (hx.bind h1 R F λb s₁ aj S T au aU a7=>args_nil ?_) gR) gR rfl))
 exact C6 hA.handled S au a7 T
end
section
variable {g:G} {cx:cp} {fs:List Fn} {mg mb:Str->Option Value} {A:Around} {E:Value->Shared->Prop} {J aj:List Addr} {H σ1 af:ag} {s s₁:Shared} {Z:Env} {O:List (Str×Nat)} {K aS:aN} {call:aw} {d:Nat}
theorem dR.on {h:Heap} (F:dR g J Z O K h) (hr:∀ y i v,O.lookup y=some i->aS i=some v->K i=some v):dR g J Z O aS h:=by
 refine⟨F.kind,F.glob,F.blt,?_,?_,F.locN,F.locB,F.cellF,F.cellI,F.slots,F.tab,F.stk⟩
 ·refine aB F.ns λm hn hm=>?_
  exact⟨m,hn,λx i v a b c=>hm x i v a b (hr x i v a c)⟩
 ·intro x i a b
  refine kF (F.cells x i a b) λc u h1 h2 h3=>?_
  exact⟨c,u,h1,h2,λv hv=>h3 v (hr x i v a hv)⟩
noncomputable def TM (Z:Env) (ts:List Str) (b:Addr):Prop:=b=Z.locals\/∃ x∈ts,Z.cells.lookup x=some b
theorem TM.fm {ts:List Str} {b:Addr} (h:TM Z ts b):FM J Z b:=by
 refine Ug h (λh=>?_) (λq=>aB q λx z h=>?_)
 ·exact .inr (.inl h)
 ·exact .inr (.inr ⟨x,h⟩)
theorem cD.mono {ms L5:Addr->Prop} {h h':Heap} (S:cD ms J h aj h') (hm:∀ b,ms b->L5 b):cD L5 J h aj h':=⟨λb o e hb=>S.pres b o e λx=>hb (hm b x),S.dom,S.ext⟩
theorem dP {x:Str} {i:Nat} (h:pd Z.scope O x=some i):O.lookup x=some i/\(Z.kindOf x=some .local\/Z.kindOf x=some .cell):=by
 refine dL h λhk h=>?_
 simp only[Vn,beq_iff_eq] at hk
 exact⟨h,hk⟩
theorem pR {x:Str} {p:Pos} {t:gE} (h:eU Z.scope O (.Name x p)=some t):∃ i,t=.one i/\O.lookup x=some i/\(Z.kindOf x=some .local\/Z.kindOf x=some .cell):=by
 refine aT h λi h1 h=>?_
 apply dE h
 exact⟨i,rfl,dP h1⟩
theorem nQ {t:Expr} {r:gE} (h:eU Z.scope O t=some r):(∃ x p i,t=.Name x p/\r=.one i/\O.lookup x=some i/\(Z.kindOf x=some .local\/Z.kindOf x=some .cell)) \/
  (∃ x y p q k pp i j,t=.Tuple [.Name x p,.Name y q] k pp/\r=.two i j/\O.lookup x=some i/\O.lookup y=some j/\(Z.kindOf x=some .local\/Z.kindOf x=some .cell)/\(Z.kindOf y=some .local\/Z.kindOf y=some .cell)):=by
 unfold eU at h
 cases hn:cS t with
 | some x =>
  rw[hn] at h
  refine N' (bq hn) λp ht=>?_
  refine aT h λi h1 h=>?_
  exact .inl ⟨x,p,i,ht,(sm h).symm,dP h1⟩
 | none =>
  rw[hn] at h
  refine aT h λl fT h=>?_
  refine nW (nN fT) λk pp ht=>?_
  refine xq h λa b hl h=>?_
  refine aT h λx hx h=>?_
  refine aT h λy hy h=>?_
  refine aR (vw h) λz h=>?_
  refine aT h λi h1 h=>?_
  refine aT h λj h2 h=>?_
  refine N' (bq hx) λp hp=>?_
  refine N' (bq hy) λq hq=>?_
  have hl2:=g8 hl
  change a=_ at hp
  change b=_ at hq
  rw[hp,hq] at hl2
  exact .inr ⟨x,y,p,q,k,pp,i,j,by rw[ht,hl2],(sm h).symm,(dP h1).1,(dP h2).1,(dP h1).2,(dP h2).2⟩
theorem md {x:V} {p:V×V} (h:uI x=some p):x=.tup [p.1,p.2]:=by
 cases x with
 | tup l =>
  match l,h with
  | [a,b],h=>rw[<-sm h]
 | _=>exact no h
theorem rT {t:Expr} {r:gE} {x:V} {a:Value} (hh:A.handled=none) (hc:eU Z.scope O t=some r) (hp:r.put x K=some aS) (R:ak g J H s.heap) (F:dR g J Z O K s.heap) (hv:VR g J s.heap x a) {Q:Unit->Shared->Prop}
  (h:∀ h' tk,cD (TM Z (a9 t)) J s.heap J h'->ak g J H h'->dR g J Z O aS h'->(∀ {v:V} {a:Value},VR g J s.heap v a->VR g J h' v a)->Q () {s with heap:=h',toks:=tk}) :
  wpAny (model g.prog g.w) A (assign t Z a) Q E s:=by
 rcases nQ hc with ⟨n,p,i,rfl,rfl,h1,h2⟩ | ⟨n,m,p,q,k,pp,i,j,rfl,rfl,h1,h2,h3,h4⟩
 ·obtain rfl:=sm hp
  refine wpAny_assign_Name (eM F R h1 h2 hv λh' tk S R' F' up=>h h' tk (S.mono λb hb=>?_) R' F' up)
  refine Ug hb (λhb=>?_) (λhb=>?_)
  ·exact .inl hb
  ·exact .inr ⟨n,z' (l:=[]),hb⟩
 ·refine xq hp λa' b' hx hp=>?_
  obtain rfl:=sm hp
  obtain rfl:=md hx
  obtain ⟨c,vs,rfl,ht,hz,Ab,hn⟩:=vT rfl hv
  refine kF (wa Ab) λva vb q3 MY Tm=>?_;subst q3
  refine wpAny_assign_Tuple hh ht rfl rfl λbA hx=>?_
  have hk:∀ b o,s.heap.get? b=some o->bA.get? b=some o:=λb o e=>hx b o (UP (UU e)) e
  have ie:SE J s.heap J bA:=SE.keeps _ hk
  have au:=R.keeps hk
  have aU:dR g J Z O K bA:=F.step R ie
  refine wpAny_bind (wpAny_holding (wpAny_assign_Name (eM (s:={s with heap:=bA}) aU au h1 h3 (MY.step R ie) λgT Ml cR bo ed Hx=>?_)))
  refine wpAny_bind (wpAny_holding (wpAny_assign_Name (eM (s:={s with heap:=gT,toks:=Ml}) ed bo h2 h4 (Hx (Tm.step R ie)) λdz pe gq gp nH mL=>wpAny_pure ?_)))
  refine h dz pe ?_ gp nH λx=>mL (Hx (x.step R ie))
  have aB:cD (TM Z (a9 (.Tuple [.Name n p,.Name m q] k pp))) J s.heap J gT:=⟨λb o e hb=>cR.pres b o (hk b o e) λy=>hb (by rcases y with y | y;exact .inl y;exact .inr ⟨n,z' (l:=[m]),y⟩),λb o e=>cR.dom b o (hk b o e),[],by simp,λz hm=>(nomatch hm)⟩
  exact⟨λb o e hb=>(aB.pres b o e hb).then λo' e'=>gq.pres b o' e' λy=>hb (by rcases y with y | y;exact .inl y;exact .inr ⟨m,H' n (z' (l:=[])),y⟩),λb o e=>by refine N' (aB.dom b o e) λo' e'=>?_;exact gq.dom b o' e',[],by simp,λz hm=>(nomatch hm)⟩
end
noncomputable def B7 (nx:Nat) (K:aN):aN:=λi=>if i<nx then K i else none
theorem ck:∀ (names:List (Str×NameKind)) (n:Nat) (acc:List (Str×Addr)),cellsFrom n names acc=cellsFrom n names []++acc
 | [],_,_=>rfl
 | (x,k)::r,n,acc=>by
  unfold cellsFrom
  split
  ·rw[ck r (n+1) ((x,n)::acc),ck r (n+1) [(x,n)]];simp
  ·exact ck r n acc
set_option tactic.hygienic true in
theorem gu:∀ (names:List (Str×NameKind)) (n:Nat) {x:Str} {c:Addr},(x,c)∈cellsFrom n names []->(x,.cell)∈names
 | [],_,_,_,h=>by simp [cellsFrom] at h
 | (y,k)::r,n,x,c,h=>by
  unfold cellsFrom at h
  split at h
  ·rename_i hk
   rw[ck] at h
   refine Ug (Uk.mp h) (λh=>?_) (λh=>?_)
   ·exact H' _ (gu r _ h)
   ·simp at h
    rw[h.1,beq_iff_eq.mp hk];exact z'
  ·exact H' _ (gu r _ h)
theorem cN {α:Type} {x:Str} {c:α} {l:List (Str×α)} (h:(x,c)∈l):∃ c',l.lookup x=some c':=by
 induction l with
 | nil=>exact nomatch h
 | cons p r ih =>
  cases p with | mk y b =>
  rw[U9]
  cases hb:x==y with
  | true=>exact⟨b,rfl⟩
  | false =>
   refine Ug (Uh.mp h) (λh=>?_) (λh=>?_)
   ·cases h;simp at hb
   ·exact ih h
theorem dF:∀ (names:List (Str×NameKind)) (n:Nat) {x:Str},(x,.cell)∈names->∃ c,(x,c)∈cellsFrom n names []
 | (y,k)::r,n,x,h=>by
  unfold cellsFrom
  refine Ug (Uh.mp h) (λh=>?_) (λh=>?_)
  ·cases h
   rw[if_pos (show (NameKind.cell==NameKind.cell)=true from rfl),ck]
   exact⟨n,by simp⟩
  ·split
   ·refine N' (dF r (n+1) h) λc hc=>?_
    rw[ck]
    exact⟨c,UE _ hc⟩
   ·exact dF r n h
noncomputable def cY (Z:Env):List (Str×NameKind)->List (Str×Addr)->List (Str×Addr)
 | [],acc=>acc
 | (n,k)::r,acc=>if k==.free then (match Z.cells.lookup n with | some c=>cY Z r ((n,c)::acc) | none=>acc) else cY Z r acc
theorem jB {Z:Env} (scope:Scope) (h:∀ n,(n,NameKind.free)∈scope.names->∃ c,Z.cells.lookup n=some c):closureFor scope Z=pure (cY Z scope.names []):=by
 unfold closureFor
 have fL:∀ (l:List (Str×NameKind)) (acc:List (Str×Addr)),(∀ n,(n,NameKind.free)∈l->∃ c,Z.cells.lookup n=some c) ->
   (forIn l acc λ(x:Str×NameKind) (cs:List (Str×Addr))=>(match x with | (name,kind)=>if (kind==.free)=true then (do let c <-cellOf Z name;pure (ForInStep.yield ((name,c)::cs))) else pure (ForInStep.yield cs):Sem (ForInStep (List (Str×Addr)))))=(pure (cY Z l acc):Sem (List (Str×Addr))):=by
  intro l
  induction l with
  | nil=>intro acc _;rfl
  | cons x r ih =>
   intro acc h
   obtain ⟨n,k⟩:=x
   rw[XH]
   by_cases hk:(k==NameKind.free)=true
   ·refine N' (h n (by rw[beq_iff_eq.mp hk];exact z')) λc hc=>?_
    have e1:cellOf Z n=pure c:=by unfold cellOf;rw[hc]
    simp only[hk,if_true,e1,pure_bind]
    rw[ih _ λn hn=>h n (H' _ hn)]
    simp only[cY,hk,if_true,hc]
   ·simp only[hk,Wk,if_false,pure_bind]
    rw[ih _ λn hn=>h n (H' _ hn)]
    simp only[cY,hk,Wk,if_false]
 rw[show (do
   let mut cs:=[]
   for (name,kind) in scope.names do
    if kind==.free then cs:=(name,<-cellOf Z name)::cs
   return cs:Sem (List (Str×Addr)))=(forIn scope.names [] λ(x:Str×NameKind) (cs:List (Str×Addr))=>(match x with | (name,kind)=>if (kind==.free)=true then (do let c <-cellOf Z name;pure (ForInStep.yield ((name,c)::cs))) else pure (ForInStep.yield cs):Sem (ForInStep (List (Str×Addr)))))>>=λcs=>pure cs from rfl,fL _ _ h]
 rfl
set_option tactic.hygienic true in
theorem jk {Z:Env}:∀ {l:List (Str×NameKind)} {acc:List (Str×Addr)} {n:Str} {c:Addr},(n,c)∈cY Z l acc->((n,.free)∈l/\Z.cells.lookup n=some c)\/(n,c)∈acc
 | [],_,_,_,h=>.inr h
 | (x,k)::r,acc,n,c,h=>by
  unfold cY at h
  split at h
  ·rename_i hk
   split at h
   ·rename_i c' hc
    refine Ug (jk h) (λq=>aR q λh1 h2=>?_) (λh1=>?_)
    ·exact .inl ⟨H' _ h1,h2⟩
    ·refine Ug (Uh.mp h1) (λh1=>?_) (λh1=>?_)
     ·cases h1;exact .inl ⟨by rw[beq_iff_eq.mp hk];exact z',hc⟩
     ·exact .inr h1
   ·exact .inr h
  ·refine Ug (jk h) (λq=>aR q λh1 h2=>?_) (λh1=>?_)
   ·exact .inl ⟨H' _ h1,h2⟩
   ·exact .inr h1
set_option tactic.hygienic true in
theorem pT {Z:Env} {l:List (Str×NameKind)}:∀ (acc:List (Str×Addr)),(∀ n,(n,NameKind.free)∈l->∃ c,Z.cells.lookup n=some c)->(∀ n c,(n,c)∈acc->(n,c)∈cY Z l acc)/\∀ {n c},(n,NameKind.free)∈l->Z.cells.lookup n=some c->(n,c)∈cY Z l acc:=by
 induction l with
 | nil=>exact λacc _=>⟨λ_ _ h=>h,λh=>nomatch h⟩
 | cons p r ih =>
  intro acc hf
  cases p with | mk x k =>
  unfold cY
  have Bk:∀ n,(n,NameKind.free)∈r->∃ c,Z.cells.lookup n=some c:=λn hn=>hf n (H' _ hn)
  split
  ·rename_i hk
   refine N' (hf x (by rw[beq_iff_eq.mp hk];exact z')) λc' dK=>?_
   rw[dK]
   refine aR (ih ((x,c')::acc) Bk) λi1 i2=>?_
   refine⟨λn c h=>i1 n c (H' _ h),λ{n c} h e=>?_⟩
   refine Ug (Uh.mp h) (λh=>?_) (λh=>?_)
   ·cases h
    rw[dK] at e;cases e
    exact i1 _ _ z'
   ·exact i2 h e
  ·rename_i hk
   refine aR (ih acc Bk) λi1 i2=>?_
   refine⟨i1,λ{n c} h e=>?_⟩
   refine Ug (Uh.mp h) (λh=>?_) (λh=>?_)
   ·cases h;simp at hk
   ·exact i2 h e
theorem kh {i:Nat} {x:Str} {ts:List Str}:∀ {n:Nat},(ts.zipIdx n).lookup x=some i->n<=i/\ts[i - n]? = some x:=by
 induction ts with
 | nil=>exact λh=>no h
 | cons t ts ih =>
  intro n h
  rw[Xz,U9] at h
  cases hb:x==t with
  | true =>
   rw[hb] at h;cases h
   exact⟨Un _,by rw[beq_iff_eq.mp hb];simp⟩
  | false =>
   rw[hb] at h
   refine aR (ih h) λh1 h2=>?_
   refine⟨(by exact jL (y3 0xc1210b1013ba1820 rfl (iL h1) (iA _ _))),?_⟩
   have:i - n=(i - (n+1))+1:=U3 (by exact jL (y6 0xc4512ba181010ba03213ba183412be125 rfl (iA _ _) (iS _ _) (iA _ _) (W9 (jL (y3 0xc1210b1013ba1820 rfl (iL h1) (iA _ _)))))) (by exact jL (y6 0xc5213ba181012ba183210ba15412be043 rfl (iA _ _) (iA _ _) (iS _ _) (W9 (jL (y2 0xc1010b10 rfl (iL h1))))))
   rw[this,Yg];exact h2
structure jO (scope bw:Scope) (O:List (Str×Nat)) (nx:Nat) (ts:List Str):Prop where
 kind:scope.kind=.function
 kinds:∀ n k,(n,k)∈scope.names->k=.local\/k=.cell\/k=.free\/k=.globalImplicit
 uniq:∀ n k,(n,k)∈scope.names->scope.names.lookup n=some k
 free:∀ n,(n,NameKind.free)∈scope.names->(bw.names.lookup n=some .cell\/bw.names.lookup n=some .free)/\∃ i,O.lookup n=some i
 tgts:∀ t∈ts,scope.names.lookup t=some .local\/scope.names.lookup t=some .cell
 below:∀ n i,(n,i)∈O->i<nx
 lev:eW (gU scope bw)=false
theorem pW {scope bw:Scope} {O:List (Str×Nat)} {nx:Nat} {ts:List Str} (h:qN scope bw O nx ts=true):jO scope bw O nx ts:=by
 simp only[qN,Uv,Vs,Vn,beq_iff_eq,decide_eq_true_eq,bne_iff_ne,ne_eq,Vr,Vh] at h
 refine aR h λk1 h8=>?_;refine aR k1 λk5 h7=>?_;refine aR k5 λk6 h6=>?_;obtain ⟨⟨⟨⟨h1,h2⟩,h3⟩,h4⟩,_⟩:=k6
 refine⟨h1,λn k hm=>?_,λn k hm=>h3 (n,k) hm,λn hm=>?_,h6,λn i hm=>h7 (n,i) hm,h8⟩
 ·have:=h2 (n,k) hm
  rcases this with ((h | h) | h) | h
  ·exact .inl h
  ·exact .inr (.inl h)
  ·exact .inr (.inr (.inl h))
  ·exact .inr (.inr (.inr h))
 ·refine Ug (h4 (n,.free) hm) (λh=>?_) (λh=>?_)
  ·exact absurd rfl h
  ·exact h
theorem db (scope:Scope) (Z:Env):relabel scope Z=gU scope Z.scope:=by
 unfold relabel gU Env.kindOf
 rfl
theorem tJ {bw:Scope} {x:Str} {k:NameKind} {names:List (Str×NameKind)} (h:names.lookup x=some k) :
  (names.map λ(n,k)=>if (k==NameKind.free&&bw.kind==.function&&bw.names.lookup n==some .cell) then (n,NameKind.cell) else (n,k)).lookup x=some (if (k==NameKind.free&&bw.kind==.function&&bw.names.lookup x==some .cell) then .cell else k):=by
 induction names with
 | nil=>exact no h
 | cons p r ih =>
  cases p with | mk n k' =>
  show List.lookup x ((if (k'==NameKind.free&&bw.kind==.function&&bw.names.lookup n==some .cell)=true then (n,NameKind.cell) else (n,k'))::_)=_
  cases hx:x==n with
  | true =>
   simp only[U9,hx] at h
   cases h
   have:x=n:=by simpa using hx
   apply aV this
   split <;> simp
  | false =>
   simp only[U9,hx] at h
   split <;> (simp only[U9,hx];exact ih h)
theorem qq {scope bw:Scope} {x:Str} {k:NameKind} (h:scope.names.lookup x=some k):(gU scope bw).names.lookup x=some (if (k==NameKind.free&&bw.kind==.function&&bw.names.lookup x==some .cell) then .cell else k):=tJ h
theorem eE {α:Type} (x:Str):∀ (a b:List (Str×α)),(a++b).lookup x=match a.lookup x with | some v=>some v | none=>b.lookup x
 | [],b=>rfl
 | (y,v)::a,b=>by
  rw[Yh,U9,U9]
  cases x==y with
  | true=>rfl
  | false=>exact eE x a b
theorem pv {O:List (Str×Nat)} {x:Str} {i:Nat} {names:List (Str×NameKind)} (h:(names.filterMap λ(n,k)=>if k==.free then (O.lookup n).map λi=>(n,i) else none).lookup x=some i):(x,.free)∈names/\O.lookup x=some i:=by
 induction names with
 | nil=>exact no h
 | cons p r ih =>
  cases p with | mk n k =>
  rw[W6] at h
  by_cases hk:(k==NameKind.free)=true
  ·simp only[hk,if_true] at h
   cases hn:O.lookup n with
   | none =>
    rw[hn] at h
    refine aR (ih (by simpa using h)) λh1 h2=>?_
    exact⟨H' _ h1,h2⟩
   | some j =>
    rw[hn] at h
    simp only[Zg,U9] at h
    cases hb:x==n with
    | true =>
     rw[hb] at h;cases h
     have:x=n:=by simpa using hb
     apply aV this
     exact⟨by rw[beq_iff_eq.mp hk];exact z',hn⟩
    | false =>
     rw[hb] at h
     refine aR (ih (by simpa using h)) λh1 h2=>?_
     exact⟨H' _ h1,h2⟩
  ·simp only[hk,Wk,if_false] at h
   refine aR (ih (by simpa using h)) λh1 h2=>?_
   exact⟨H' _ h1,h2⟩
set_option tactic.hygienic true in
theorem bI {scope:Scope} {O:List (Str×Nat)} {nx:Nat} {ts:List Str} {x:Str} {i:Nat} (h:(bN scope O nx ts).lookup x=some i):(nx<=i/\ts[i - nx]? = some x)\/((x,.free)∈scope.names/\O.lookup x=some i):=by
 unfold bN at h
 rw[eE] at h
 split at h
 ·rename_i v hv
  cases h
  exact .inl (kh hv)
 ·exact .inr (pv h)
section
variable {g:G} {A:Around} {E:Value->Shared->Prop} {J aj:List Addr} {H:ag} {s:Shared} {Z:Env} {O:List (Str×Nat)} {K:aN}
theorem wE {scope:Scope} {nx:Nat} {ts:List Str} {h:Heap} (F:dR g J Z O K h) (ZF:jO scope Z.scope O nx ts):∀ n,(n,NameKind.free)∈scope.names->∃ c,Z.cells.lookup n=some c:=λn hn=>by
 obtain ⟨h1,i,hi⟩:=ZF.free n hn
 refine gA (F.cells n i hi h1) λc u hc z=>?_
 exact⟨c,hc⟩
set_option tactic.hygienic true in
theorem AM {scope:Scope} {nx:Nat} {ts:List Str} (ZF:jO scope Z.scope O nx ts) (R:ak g J H s.heap) (F:dR g J Z O K s.heap) {Q:Env->Shared->Prop}
  (h:∀ cenv h',(∀ b o,s.heap.get? b=some o->h'.get? b=some o)->cenv.scope=scope->dR g J {cenv with scope:=relabel scope Z} (bN scope O nx ts) (B7 nx K) h'->s.heap.get? cenv.locals=none ->
   (∀ x∈ts,∀ c,cenv.cells.lookup x=some c->s.heap.get? c=none)->(∀ x c,cenv.cells.lookup x=some c->s.heap.get? c=none\/∃ y,Z.cells.lookup y=some c)->Q cenv {s with heap:=h'}) :
  wpAny (model g.prog g.w) A (newFunctionEnv scope Z.globals (cY Z scope.names []) [] Z.qual none .none (some Z)) Q E s:=by
 have hf:=wE F ZF
 simp only[newFunctionEnv,Option.isSome_some,if_true]
 refine wpAny_bind (wpAny_alloc ?_)
 refine wpAny_bind (wpAny_layCells _ (λname kind cells=>by cases z9:kind==NameKind.cell <;> simp [z9]) _ _ _ _ ?_)
 have ok:=cellsFrom_ok scope.names (s.heap.push {cls:=.type "dict", data:=.dict #[]}) (s.heap.objs.size+1) [] ⟨λ_ _ hm=>(nomatch hm),List.Pairwise.nil⟩ (by rw[Vo];exact Un _)
 rw[Vo] at ok
 rw[show ({s with heap:=s.heap.push {cls:=.type "dict", data:=.dict #[]}}:Shared).heap.objs.size=s.heap.objs.size+1 from Vo ..]
 rw[ck]
 rw[XX]
 refine wpAny_bind (wpAny_pure (wpAny_pure ?_))
 have hk:∀ b o,s.heap.get? b=some o->(pushCells (s.heap.push {cls:=.type "dict", data:=.dict #[]}) scope.names).get? b=some o:=λb o e=>pushCells_keeps _ _ b o (G' _ e)
 have gh:=(Heap.Ns.new s.heap (.type "dict")).keeps (pushCells_keeps scope.names (s.heap.push {cls:=.type "dict", data:=.dict #[]}))
 generalize pushCells (s.heap.push {cls:=.type "dict", data:=.dict #[]}) scope.names=h' at ok hk gh
 have S:SE J s.heap J h':=SE.keeps _ hk
 -- the cells
 have oU:∀ {x c},(cellsFrom (s.heap.objs.size+1) scope.names []).lookup x=some c->h'.IsCell c none/\s.heap.objs.size+1<=c/\scope.names.lookup x=some .cell:=λ{x c} e=>by
  have hm:=mem_of_lookup e
  exact⟨(ok.empty x c hm).1,(ok.empty x c hm).2,ZF.uniq _ _ (gu _ _ hm)⟩
 have lO:∀ {x c},(cY Z scope.names []).lookup x=some c->Z.cells.lookup x=some c/\scope.names.lookup x=some .free:=λ{x c} e=>by
  refine Ug (jk (mem_of_lookup e)) (λq=>aR q λh1 h2=>?_) (λh1=>?_)
  ·exact⟨h2,ZF.uniq _ _ h1⟩
  ·cases h1
 have B6:∀ {x c},(cellsFrom (s.heap.objs.size+1) scope.names []++cY Z scope.names []).lookup x=some c->(cellsFrom (s.heap.objs.size+1) scope.names []).lookup x=some c\/(cY Z scope.names []).lookup x=some c:=λ{x c} e=>by
  rw[eE] at e
  split at e
  ·rename_i v hv;cases e;exact .inl hv
  ·exact .inr e
 have q8:∀ {c},s.heap.objs.size+1<=c->s.heap.get? c=none:=λhc=>gM (B' (Wu _) hc)
 refine h {scope,locals:=s.heap.objs.size,globals:=Z.globals,cells:=cellsFrom (s.heap.objs.size+1) scope.names []++cY Z scope.names [],qual:=Z.qual,func:=none,code:=Z.code,frame:=Z.frame,builtins:=Z.builtins} h' hk rfl ?_ (aD _) ?_ ?_
 ·refine⟨?_,F.glob,F.blt,⟨_,gh,?_⟩,?_,aY R (aD _),aW R (aD _),?_,?_,?_,λq=>?_,F.stk.to λL o es ep h1 h2 h3=>⟨⟨o,es,ep,hk L o h1,h2⟩,h3⟩⟩
  rotate_right
  ·have q':eW (relabel scope Z)=true:=q
   rw[db,ZF.lev] at q'
   exact absurd q' Uq
  ·show (relabel scope Z).kind=_
   exact ZF.kind
  ·intro x i v hx Aa lF
   exfalso
   refine Ug (bI hx) (λq=>aR q λh1 h2=>?_) (λq=>aR q λh1 h2=>?_)
   ·simp [B7,UK.mpr h1] at lF
   ·have e1:(relabel scope Z).names.lookup x=some .local:=Aa
    rw[db,qq (ZF.uniq _ _ h1)] at e1
    split at e1 <;> cases e1
  ·intro x i hx Aa
   refine Ug (bI hx) (λq=>aR q λh1 h2=>?_) (λq=>aR q λh1 h2=>?_)
   ·have ht:=ZF.tgts x (Ui h2)
    have hc:scope.names.lookup x=some .cell:=by
     refine Ug ht (λht=>?_) (λht=>?_)
     ·have e1:(relabel scope Z).names.lookup x=some .local:=by
       rw[db,qq ht];rfl
      refine Ug Aa (λq=>?_) (λq=>?_)
      ·have q':(relabel scope Z).names.lookup x=some .cell:=q
       rw[e1] at q';cases q'
      ·have q':(relabel scope Z).names.lookup x=some .free:=q
       rw[e1] at q';cases q'
     ·exact ht
    refine N' (dF scope.names (s.heap.objs.size+1) (mem_of_lookup hc)) λc So=>?_
    refine N' (cN So) λc' dK=>?_
    refine⟨c',none,?_,(oU dK).1,λv hv=>?_⟩
    ·show (cellsFrom (s.heap.objs.size+1) scope.names []++cY Z scope.names []).lookup x=some c'
     rw[eE,dK]
    ·simp [B7,UK.mpr h1] at hv
   ·obtain ⟨h3,j,hj⟩:=ZF.free x h1
    refine kF (F.cells x i h2 h3) λc u hc Ie hv=>?_
    refine N' (cN ((pT [] hf).2 h1 hc)) λc' dK=>?_
    have Gz:c'=c:=by have:=(lO dK).1;rw[hc] at this;exact (Option.some.inj this).symm
    subst Gz
    refine⟨c',u,?_,Ie.keeps hk,λv oq=>?_⟩
    ·show (cellsFrom (s.heap.objs.size+1) scope.names []++cY Z scope.names []).lookup x=some c'
     rw[eE]
     cases q:(cellsFrom (s.heap.objs.size+1) scope.names []).lookup x with
     | none=>exact dK
     | some z =>
      have:=(oU q).2.2
      rw[ZF.uniq _ _ h1] at this;cases this
    ·have:K i=some v:=by
      unfold B7 at oq
      split at oq
      ·exact oq
      ·cases oq
     refine aB (hv v this) λa h4 h5=>?_
     exact⟨a,h4,h5.step R S⟩
  ·intro x c e
   refine Ug (B6 e) (λe=>?_) (λe=>?_)
   ·refine iK (oU e) λh1 h2 _=>?_
    exact⟨⟨_,h1⟩,aY R (q8 h2),V7 h2,aW R (q8 h2)⟩
   ·refine aR (lO e) λh1 _=>?_
    refine yo (F.cellF x c h1) λk2 h2 h3 h4=>?_;refine N' k2 λu hu=>?_
    exact⟨⟨u,hu.keeps hk⟩,h2,UP hu.lt,h4⟩
  ·intro x y c e1 e2
   rcases B6 e1 with e1 | e1 <;> refine Ug (B6 e2) (λe2=>?_) (λe2=>?_)
   ·exact name_of_addr ok.apart (mem_of_lookup e1) (mem_of_lookup e2)
   ·exfalso
    refine iK (oU e1) λ_ h2 _=>?_
    refine aR (F.cellF y c (lO e2).1) λk3 _=>?_;refine N' k3 λu hu=>?_
    exact absurd hu.lt (UK.mpr (B' (Wu _) h2))
   ·exfalso
    refine iK (oU e2) λ_ h2 _=>?_
    refine aR (F.cellF x c (lO e1).1) λk4 _=>?_;refine N' k4 λu hu=>?_
    exact absurd hu.lt (UK.mpr (B' (Wu _) h2))
   ·exact F.cellI x y c (lO e1).1 (lO e2).1
  ·intro x y i e1 e2
   rcases bI e1 with ⟨h1,h2⟩ | ⟨h1,h2⟩ <;> refine Ug (bI e2) (λq=>aR q λh3 h4=>?_) (λq=>aR q λh3 h4=>?_)
   ·rw[h2] at h4;exact Option.some.inj h4
   ·have:=ZF.below _ _ (mem_of_lookup h4);lia
   ·have:=ZF.below _ _ (mem_of_lookup h2);lia
   ·exact F.slots x y i h2 h4
 ·intro x hx c e
  refine Ug (B6 e) (λe=>?_) (λe=>?_)
  ·exact q8 (oU e).2.1
  ·exfalso
   have:=(lO e).2
   rcases ZF.tgts x hx with q | q <;> (rw[q] at this;cases this)
 ·intro x c e
  refine Ug (B6 e) (λe=>?_) (λe=>?_)
  ·exact .inl (q8 (oU e).2.1)
  ·exact .inr ⟨x,(lO e).1⟩
end
noncomputable def NT (h:Heap) (b:Addr):Prop:=∀ o,h.get? b=some o->¬ iM o
theorem eh.nt {h:Heap} {b:Addr} (x:eh h b):NT h b:=λo e=>by
 refine aB x λo' e' hn=>?_
 rw[e] at e';cases e'
 exact hn.not
section
variable {g:G} {A:Around} {E:Value->Shared->Prop} {J aj φ0:List Addr} {H:ag} {s s₀:Shared} {Z:Env} {O:List (Str×Nat)} {K:aN} {wr:List Addr}
theorem Mv.tupT {h h':Heap} (M:Mv wr J h h') (hw:∀ b∈wr,NT h b):∀ b o,h.get? b=some o->iM o->b∉J->h'.get? b=some o/\b∉J :=
 λb o e hs hn=>⟨M b o (λhb=>hw b hb o e hs) hn e,hn⟩
theorem Mv.vrT {h h':Heap} (M:Mv wr J h h') (hw:∀ b∈wr,NT h b) {v:V} {a:Value} (x:VR g J h v a):VR g J h' v a:=x.stepT (λz z e=>e) (M.tupT hw)
theorem Mv.vrsT {h h':Heap} (M:Mv wr J h h') (hw:∀ b∈wr,NT h b) {l:List V} {vs:List Value} (x:bi g J h l vs):bi g J h' l vs:=x.stepT (λz z e=>e) (M.tupT hw)
theorem ak.mvT {h h':Heap} (R:ak g J H h) (M:∀ b o,b∉wr->h.get? b=some o->h'.get? b=some o) (hw:∀ b∈wr,NT h b) (hn:∀ b∈wr,b∉J) (hB:∀ b∈wr,g.B.get? b=none):ak g J H h':=by
 have M':Mv wr J h h':=λb o h1 z e=>M b o h1 e
 refine⟨λb o e=>M b o (λhb=>by rw[hB b hb] at e;cases e) (R.base b o e),R.fresh,R.len,R.nodup,λi a m h1 h2=>?_,R.tabs⟩
 exact (R.objs i a m h1 h2).stepT (λz z e=>e) (M'.tupT hw) λo e=>M _ o (λhb=>hn _ hb (Ui h1)) e
theorem dR.mv {h h':Heap} (F:dR g J Z O K h) (M:Mv wr J h h') (hw:∀ b∈wr,NT h b) (hL:Z.locals∉wr) (hC:∀ x c,Z.cells.lookup x=some c->c∉wr) (hS:∀ e∈g.fr,∀ L,e.frame=some L->L∉wr):dR g J Z O K h':=by
 refine aB F.ns λm hn hm=>?_
 have s8:∀ x c u,Z.cells.lookup x=some c->h.IsCell c u->h'.IsCell c u:=λx c u e y=>by
  refine aB y λo ho hd=>?_
  exact⟨o,M _ _ (hC x c e) (F.cellF x c e).2.1 ho,hd⟩
 refine⟨F.kind,F.glob,F.blt,⟨m,?_,λx i v a b c=>?_⟩,λx i a b=>?_,F.locN,F.locB,λx c e=>?_,F.cellI,F.slots,F.tab,λe he=>?_⟩
 rotate_right
 ·obtain ⟨k1,L,o,es,ep,k2,k3,k4,k5,k6⟩:=F.stk e he
  exact⟨k1,L,o,es,ep,k2,M L o (hS e he L k2) k5 k3,k4,k5,k6⟩
 ·refine mQ hn λo es ep ho r=>?_
  exact⟨o,es,ep,M _ _ hL F.locN ho,r⟩
 ·refine aB (hm x i v a b c) λy h1 h2=>?_
  exact⟨y,h1,M.vrT hw h2⟩
 ·refine kF (F.cells x i a b) λc u h1 h2 h3=>?_
  refine⟨c,u,h1,s8 x c u h1 h2,λv hv=>?_⟩
  refine aB (h3 v hv) λy h4 h5=>?_
  exact⟨y,h4,M.vrT hw h5⟩
 ·refine yo (F.cellF x c e) λk8 h1 h2 h3=>?_;refine N' k8 λu hu=>?_
  exact⟨⟨u,s8 x c u e hu⟩,h1,h2,h3⟩
theorem dR.mvN {h h':Heap} (F:dR g J Z O K h) (M:Mv wr J h h') (hw:∀ b∈wr,eh h b) (hL:Z.locals∉wr) (hC:∀ x c,Z.cells.lookup x=some c->c∉wr):dR g J Z O K h' :=
 F.mv M (λb hb=>(hw b hb).nt) hL hC λe he L hf hb=>by
  obtain ⟨_,L',o,es,ep,k2,k3,k4,_⟩:=F.stk e he
  refine aB (hw L hb) λo' e' ho=>?_
  rw[hf] at k2;cases k2
  rw[k3] at e';cases e'
  exact ho.dict _ _ k4
theorem cD.mv {ms:Addr->Prop} {a6 h h':Heap} (S:cD ms φ0 a6 J h) (R':ak g J H h') (M:Mv wr J h h') (SS:∀ b,b∈φ0->ms b) (hf:∀ b∈wr,a6.get? b=none):cD ms φ0 a6 J h':=by
 have nw:∀ b o,a6.get? b=some o->b∉wr:=λb o e hb=>by rw[hf b hb] at e;cases e
 refine⟨λb o e hb=>(S.pres b o e hb).then λo' e'=>.inl (M b o' (nw b o e) (S.notin e λq=>hb (SS b q)) e'),λb o e=>?_,S.ext⟩
 by_cases hb:b∈J
 ·exact R'.live hb
 ·refine N' (S.dom b o e) λo' e'=>?_
  exact⟨o',M b o' (nw b o e) hb e'⟩
theorem mH (f:Expr->Bool->Sem (ForInStep Bool)) (hf:∀ c,f c false=pure (.yield false)):∀ (ifs:List Expr) {Q:Bool->Shared->Prop},Q false s->wpAny (model g.prog g.w) A (forIn ifs false f) Q E s
 | [],Q,h=>by rw[XX];exact wpAny_pure h
 | c::r,Q,h=>by
  rw[XH,hf]
  exact wpAny_bind (wpAny_pure (mH f hf r h))
theorem qu {F':Expr->Option CE} {call:aw} (ih:∀ e c,F' e=some c->eR g A Z O e (cb call c)):∀ {ifs:List Expr} {cs:fh},bY F' ifs=some cs->∀ ⦃K H b af⦄,bX call cs K H=some (b,af)->∀ ⦃J s⦄,ak g J H s.heap->dR g J Z O K s.heap ->
  ∀ E,wpAny (model g.prog g.w) A (forIn ifs true λc r=>if r=true then do let ok <-isTrue c Z (eval c Z);pure (ForInStep.yield ok) else pure (ForInStep.yield r)) (DX g J s b af) E s
 | [],cs,h=>by
  intro K H b af he J s R F E
  obtain rfl:=sm h
  refine aR (nE he) λLO vz=>?_;subst LO;subst vz
  rw[XX]
  exact wpAny_pure ⟨rfl,J,SE.refl _ _,R,bz.refl _⟩
 | e::r,cs,h=>by
  refine aT h λc h1 h=>?_
  refine aT h λGl h2 h=>?_
  apply dE h
  intro K H b af he J s R F E
  rw[XH]
  simp only[if_true]
  refine iX he λp σ1 hx he=>?_
  refine wpAny_bind (wpAny_bind ((ih e c h1).bind (br hx) R F λs₁ aj S T au aU=>wpAny_pure ?_))
  cases p with
  | true=>exact wpAny_mono (qu ih h2 he au aU E) (λz z x=>DX.after S T x) λz z x=>x
  | false =>
   apply cU he
   exact mH _ (λz=>by simp) r ⟨rfl,aj,S,au,T⟩
end
section
variable {prog:Program} {w:World} {A:Around} {R:Result->Shared->Prop} {s:Shared}
theorem qM {elt aK c8:Expr} {ifs:List Expr} {scope:Scope} {pos:Pos} {it acc:Value} {Z:Env} (I:Nat->Shared->Prop)
  (v9:∀ n s,I n s->∀ E,wpAny (model prog w) A (pyNext it) (λr s₁=>match r with
   | none=>R (.ok .next) s₁
   | some v=>wpAny (model prog w) A (letOwnedTupleGo aK it v) (λz Hv=>wpAny (model prog w) A (assign aK Z v) (λz cA =>
     wpAny (model prog w) A (forIn ifs true λc r=>if r=true then do let ok <-isTrue c Z (eval c Z);pure (ForInStep.yield ok) else pure (ForInStep.yield r)) (λok g6 =>
      if ok=true then wpAny (model prog w) A (eval elt Z) (λx v5 =>
       wpAny (model prog w) A (call (.builtin "list.append") [acc,x]) (λz Da=>∃ m,m<n/\I m Da) E v5) E g6
      else ∃ m,m<n/\I m g6) E cA) E Hv) E s₁) E s)
  (n:Nat) (h:I n s):codeAny (model prog w) A (.compLoop (.ListComp elt [⟨aK,c8,ifs,0⟩] scope pos) 0 it acc Z) R s:=by
 refine codeAny_loop rfl I (λn s hI=>?_) n h
 show wpAny _ A ((compTurn (.ListComp elt [⟨aK,c8,ifs,0⟩] scope pos) 0 it acc Z).onRaise (λx=>do noteFrame x Z;theTreesLotGoes x)) _ _ s
 refine wpAny_noted ?_
 rw[compTurn_list]
 refine wpAny_bind (wpAny_standAt (wpAny_bind (wpAny_mono (v9 n s hI _) (λr s₁ bA=>?_) λz z h'=>h')))
 cases r with
 | none=>exact wpAny_pure bA
 | some v =>
  refine wpAny_bind (wpAny_mono bA (λz Hv LH=>?_) λz z h'=>h')
  refine wpAny_bind (wpAny_mono LH (λz cA gT=>wpAny_bind (wpAny_mono gT (λok g6 dz=>?_) λz z h'=>h')) λz z h'=>h')
  cases ok with
  | false=>exact wpAny_pure ⟨rfl,dz⟩
  | true =>
   exact wpAny_bind (wpAny_bind (wpAny_mono dz (λx v5 jw=>wpAny_bind (wpAny_mono jw (λz Da iG=>wpAny_pure (wpAny_pure ⟨rfl,iG⟩)) λz z h'=>h')) λz z h'=>h'))
end
noncomputable def zx:gE->Nat->Prop
 | .one a,i=>i=a
 | .two a b,i=>i=a\/i=b
set_option tactic.hygienic true in
theorem Ff {t:gE} {x:V} {K aS:aN} {nx:Nat} (h:t.put x K=some aS) (hs:∀ i,zx t i->nx<=i) :
  ∃ iJ,t.put x (B7 nx K)=some iJ/\(∀ i v,(i<nx\/zx t i)->aS i=some v->iJ i=some v)/\∀ i v,B7 nx K i=some v->aS i=some v:=by
 cases t with
 | one a =>
  obtain rfl:=sm h
  refine⟨_,rfl,λi v hi hv=>?_,λi v hv=>?_⟩
  ·simp only[cn] at hv ⊢
   split at hv
   ·rename_i e;simp [e];simpa using hv
   ·rename_i e
    rw[if_neg e]
    rcases hi with hi | hi
    ·simpa [B7,hi] using hv
    ·exact absurd hi e
  ·obtain ⟨hi,hv⟩:=cy hv
   have:i≠a:=λe=>by have:=hs a rfl;exact zI (y3 0x1c080811b1013b2010b21 rfl (iT hi) (iE e) (iL this))
   simpa [cn,this] using hv
 | two a b =>
  obtain ⟨⟨p,q⟩,hx,h⟩:=ob h
  obtain rfl:=sm h
  obtain rfl:=md hx
  refine⟨_,rfl,λi v hi hv=>?_,λi v hv=>?_⟩
  ·simp only[cn] at hv ⊢
   split at hv
   ·rename_i e;simp [e];simpa using hv
   ·rename_i e
    rw[if_neg e]
    split at hv
    ·rename_i e';rw[if_pos e'];exact hv
    ·rename_i e'
     rw[if_neg e']
     rcases hi with hi | hi | hi
     ·simpa [B7,hi] using hv
     ·exact absurd hi e'
     ·exact absurd hi e
  ·obtain ⟨hi,hv⟩:=cy hv
   have h1:i≠a:=λe=>by have:=hs a (.inl rfl);exact zI (y3 0x1c080811b1013b2010b21 rfl (iT hi) (iE e) (iL this))
   have h2:i≠b:=λe=>by have:=hs b (.inr rfl);exact zI (y3 0x1c080811b1013b2010b21 rfl (iT hi) (iE e) (iL this))
   simpa [cn,h1,h2] using hv
section
variable {g:G} {A:Around} {E:Value->Shared->Prop} {φ0:List Addr} {s₀:Shared} {cenv:Env} {O:List (Str×Nat)} {K:aN} {call:aw} {d:Nat}
theorem pn.kp {I:Addr} {xs:List V} {w:List (Nat×aZ)} {two:Bool} {ys:List V} {vs:List Value} {wr kp:List Addr} {St:Nat->Heap->Prop} {r8:Nat->Value->Heap->Prop} (Ti:pn g A I xs w two ys vs wr kp St r8) {k:Nat} {h h':Heap} (st:St k h) {b:Addr} (hb:b∈wr\/b∈kp) {o:Obj} (e:h.get? b=some o) (x:fj h' b o):h'.get? b=some o:=by
 rcases hb with hb | hb
 ·obtain ⟨o',e',hs⟩:=Ti.wrN _ _ st b hb
  rw[e] at e';cases e'
  exact x.of hs.dict
 ·obtain ⟨o',ca,n,e',hd⟩:=Ti.kpN _ _ st b hb
  rw[e] at e';cases e'
  exact x.seq hd
theorem B4 {h h':Heap} {D:Addr} {va:Array Value} (p:h.PlainList D va) {o:Obj} (e:h.get? D=some o) (x:fj h' D o):h'.get? D=some o:=by
 obtain ⟨n,ho⟩:=p
 rw[ho] at e;cases e
 exact x.seq rfl
structure Af (wr kp:List Addr) (Z:Env) (D:Addr):Prop where
 loc:∀ b,b∈wr\/b∈kp->b≠Z.locals
 cel:∀ b,b∈wr\/b∈kp->∀ x,Z.cells.lookup x≠some b
 acc:∀ b,b∈wr\/b∈kp->b≠D
structure JX where
 g:G
 φ0:List Addr
 s₀:Shared
 Z:Env
 O:List (Str×Nat)
 ys:List V
 vs:List Value
 wr:List Addr
 kp:List Addr
 D:Addr
structure JY (c:JX):Prop where
 L:Af c.wr c.kp c.Z c.D
 dl:c.D≠c.Z.locals
 dc:∀ x,c.Z.cells.lookup x≠some c.D
 w0:∀ b∈c.wr,c.s₀.heap.get? b=none
 d0:c.s₀.heap.get? c.D=none
 wB:∀ b∈c.wr,c.g.B.get? b=none
 dB:c.g.B.get? c.D=none
structure CI (c:JX) (K:aN) (J:List Addr) (la:List V) (va:List Value) (h:Heap):Prop where
 S:SE c.φ0 c.s₀.heap J h
 F:dR c.g J c.Z c.O K h
 ys:bi c.g J h c.ys c.vs
 hn:∀ b,b∈c.wr\/b∈c.kp->b∉J
 hD:h.PlainList c.D va.toArray
 dφ:c.D∉J
 la:bi c.g J h la va
section
variable {c:JX} {J aO:List Addr} {H:ag} {la:List V} {va:List Value} {h h':Heap} {aS:aN}
theorem CI.mv (X:JY c) (I:CI c K J la va h) (M:Mv c.wr J h h') (R':ak c.g J H h') (w:∀ b∈c.wr,eh h b):CI c K J la va h' :=
 ⟨cD.mv I.S R' M (λz q=>q) X.w0,I.F.mvN M w (λq=>X.L.loc _ (.inl q) rfl) λx b e q=>X.L.cel b (.inl q) x e,M.vrsT (λb hb=>(w b hb).nt) I.ys,I.hn,I.hD.at λo e=>M c.D o (λq=>X.L.acc c.D (.inl q) rfl) I.dφ e,I.dφ,M.vrsT (λb hb=>(w b hb).nt) I.la⟩
theorem CI.on (I:CI c K J la va h) (hr:∀ y i v,c.O.lookup y=some i->aS i=some v->K i=some v):CI c aS J la va h:=⟨I.S,I.F.on hr,I.ys,I.hn,I.hD,I.dφ,I.la⟩
theorem bi.upG (up:∀ {v:V} {a:Value},VR g J h v a->VR g J h' v a):∀ {l:List V} {vs:List Value},bi g J h l vs->bi g J h' l vs
 | [],_,x=>by cases x;exact .nil
 | v::l,_,x=>by cases x with | cons h1 h2=>exact .cons (up h1) (bi.upG up h2)
theorem CI.tgt {ns:List Str} (X:JY c) (I:CI c K J la va h) (S':cD (TM c.Z ns) J h J h') (F':dR c.g J c.Z c.O aS h') (up:∀ {v:V} {a:Value},VR c.g J h v a->VR c.g J h' v a) (z6:c.s₀.heap.get? c.Z.locals=none) (ve:∀ x∈ns,∀ b,c.Z.cells.lookup x=some b->c.s₀.heap.get? b=none):CI c aS J la va h' :=
 ⟨cD.trans I.S S' (λz z z hb=>hb) λb o e z q=>Ug q (λq=>by rw[q,z6] at e;exact (nomatch e)) λq=>aB q λx hx q=>by rw[ve x hx b q] at e;exact (nomatch e),
  F',I.ys.upG up,I.hn,I.hD.at λo e=>B4 I.hD e (S'.pres c.D o e λq=>Ug q X.dl λq=>aB q λx z q=>X.dc x q),I.dφ,I.la.upG up⟩
theorem CI.step (I:CI c K J la va h) (R:ak c.g J H h) (S':SE J h aO h') (lv:∀ b,b∈c.wr\/b∈c.kp->∃ o,h.get? b=some o):CI c K aO la va h' :=
 ⟨I.S.trans S',I.F.step R S',I.ys.step R S',λb hb=>(lv b hb).elim λo e=>S'.notin e (I.hn b hb),I.hD.at λo e=>B4 I.hD e (S'.pres c.D o e I.dφ),I.hD.elim λn e=>S'.notin e I.dφ,I.la.step R S'⟩
theorem QY {D:Addr} {va:Array Value} (hp:h.PlainList D va):∀ b∈[D],NT h b:=λb hb o e=>by
 rw[O'.mp hb] at e
 exact hp.elim λn ho=>by rw[<-Option.some.inj (ho.symm.trans e)];exact lZ rfl
theorem CI.app {v:V} {av:Value} (X:JY c) (I:CI c K J la va h) (R:ak c.g J H h) (V:VR c.g J h v av) (D':h'.PlainList c.D (va.toArray.push av)) (hs:Heap.SameBut c.D h h'):ak c.g J H h'/\CI c K J (la++[v]) (va++[av]) h':=by
 have M:∀ b o,b∉[c.D]->h.get? b=some o->h'.get? b=some o:=λb o hb e=>hs.extBut b o (λq=>hb (O'.mpr q)) e
 have M':Mv [c.D] J h h':=Mv.all M
 have nt:=QY I.hD
 have one:∀ {P:Addr->Prop},P c.D->∀ b∈[c.D],P b:=λp b hb=>by rw[O'.mp hb];exact p
 have R':=R.mvT M nt (one I.dφ) (one X.dB)
 refine⟨R',cD.mv I.S R' M' (λz q=>q) (one X.d0),I.F.mv M' nt (λq=>X.dl (O'.mp q).symm) (λx b e q=>X.dc x (O'.mp q ▸ e)) (λe he L hf q=>?_),M'.vrsT nt I.ys,I.hn,?_,I.dφ,M'.vrsT nt (I.la.append (.one V))⟩
 ·obtain ⟨_,L',o,es,ep,k2,k3,k4,_⟩:=I.F.stk e he
  rw[hf] at k2;cases k2
  rw[O'.mp q] at k3
  exact I.hD.elim λn ho=>by rw[<-Option.some.inj (ho.symm.trans k3)] at k4;exact nomatch k4
 ·rw[List.push_toArray] at D';exact D'
end
noncomputable def ki (g:G) (φ0:List Addr) (s₀:Shared) (C D:Addr) (l:List V) (σe:ag) (s':Shared):Prop :=
 ∃ aO,SE φ0 s₀.heap aO s'.heap/\ak g aO (σe++[.lst l]) s'.heap/\VR g aO s'.heap (.ref σe.length) (.ref D)/\bz s₀ s'/\C∉aO/\∃ m,s'.heap.Ns C m
theorem CI.fin {c:JX} {J:List Addr} {l:List V} {va:List Value} {σe:ag} {s':Shared} (X:JY c) (I:CI c K J l va s'.heap) (R:ak c.g J σe s'.heap) (T:bz c.s₀ s') (hl:l.length<=ar):ki c.g c.φ0 c.s₀ c.Z.locals c.D l σe s':=by
 refine aB I.F.ns λm gh z=>aB I.S.ext λt ht hf=>?_
 refine⟨J++[c.D],⟨I.S.pres,I.S.dom,t++[c.D],by rw[ht,Uf],λa ha=>Ug (Uk.mp ha) (hf a) λha=>by rw[O'.mp ha];exact X.d0⟩,R.more I.dφ X.dB (.lst I.hD (UX hl) I.la) (QY I.hD c.D z'),.ref ?_,T,λq=>?_,m,gh⟩
 ·rw[<-R.len,Ux (Un _),Wg];rfl
 ·exact Ug (Uk.mp q) I.F.locN λq=>X.dl (O'.mp q).symm
structure CT (c:JX) (K Mr:aN) (cl:CE) (cs:fh) (call:aw) (t:gE) (w:List (Nat×aZ)) (xs l:List V) (σe:ag) (St:Nat->Heap->Prop) (n k:Nat) (J:List Addr) (H:ag) (la:List V) (va:List Value) (lr:List V) (s:Shared):Prop where
 I:CI c K J la va s.heap
 T:bz c.s₀ s
 R:ak c.g J H s.heap
 st:St k s.heap
 hk:k<=xs.length
 n:n=xs.length - k
 hc:dT (ab call cl) (bX call cs) t w (xs.drop k) Mr H=some (lr,σe)
 hl:la++lr=l
theorem pn.live {I:Addr} {xs:List V} {w:List (Nat×aZ)} {two:Bool} {ys:List V} {vs:List Value} {wr kp:List Addr} {St:Nat->Heap->Prop} {r8:Nat->Value->Heap->Prop} (Ti:pn g A I xs w two ys vs wr kp St r8) {k:Nat} {h:Heap} (st:St k h) (b:Addr) (hb:b∈wr\/b∈kp):∃ o,h.get? b=some o :=
 Ug hb (λhb=>aB (Ti.wrN _ _ st b hb) λo e z=>⟨o,e⟩) λhb=>mQ (Ti.kpN _ _ st b hb) λo z z e z=>⟨o,e⟩
theorem AN {elt aK c8:Expr} {ifs:List Expr} {scope:Scope} {pos:Pos} {nx:Nat} {t:gE} {I D:Addr} {xs ys l:List V} {vs:List Value} {w:List (Nat×aZ)} {two:Bool} {wr kp:List Addr} {St:Nat->Heap->Prop} {r8:Nat->Value->Heap->Prop} {c:CE} {cs:fh} {F':Expr->Option CE} {H σe:ag}
  {Q:Result->Shared->Prop} {s:Shared} {J:List Addr}
  (hA:hW A d) (Ti:pn g A I xs w two ys vs wr kp St r8) (Bw:rR two aK) (z7:eU cenv.scope O aK=some t) (sZ:∀ i,zx t i->nx<=i) (O2:∀ y i,O.lookup y=some i->i<nx\/zx t i)
  (hE:aM g A cenv O elt (ab call c)) (fS:bY F' ifs=some cs) (hT:∀ e c,F' e=some c->eR g A cenv O e (cb call c))
  (L:Af wr kp cenv D) (RL:D≠cenv.locals) (RK:∀ x,cenv.cells.lookup x≠some D)
  (z6:s₀.heap.get? cenv.locals=none) (ve:∀ x∈a9 aK,∀ c,cenv.cells.lookup x=some c->s₀.heap.get? c=none) (pA:∀ b∈wr,s₀.heap.get? b=none) (RJ:s₀.heap.get? D=none) (hB:∀ b∈wr,g.B.get? b=none) (KF:g.B.get? D=none)
  (hl:l.length<=ar) (hc:dT (ab call c) (bX call cs) t w xs K H=some (l,σe))
  (S:SE φ0 s₀.heap J s.heap) (T:bz s₀ s) (R:ak g J H s.heap) (F:dR g J cenv O (B7 nx K) s.heap) (h0:St 0 s.heap) (IL:bi g J s.heap ys vs) (hn:∀ b,b∈wr\/b∈kp->b∉J) (hD:s.heap.PlainList D #[]) (Bb:D∉J)
  (hQ:∀ s',ki g φ0 s₀ cenv.locals D l σe s'->Q (.ok .next) s') :
  codeAny (model g.prog g.w) A (.compLoop (.ListComp elt [⟨aK,c8,ifs,0⟩] scope pos) 0 (.ref I) (.ref D) cenv) Q s:=by
 have X:JY ⟨g,φ0,s₀,cenv,O,ys,vs,wr,kp,D⟩:=⟨L,RL,RK,pA,RJ,hB,KF⟩
 refine qM (λn s=>∃ k J H la va,∃ lr,CT ⟨g,φ0,s₀,cenv,O,ys,vs,wr,kp,D⟩ (B7 nx K) K c cs call t w xs l σe St n k J H la va lr s) ?_ xs.length ⟨0,J,H,[],[],l,⟨S,F,IL,hn,hD,Bb,.nil⟩,T,R,h0,UJ _,rfl,hc,rfl⟩
 intro n s q E
 refine lB q λk J H la va q=>N' q λlr ZG=>?_
 rcases XQ k xs.length with cE | jG
 ·have hc:=ZG.hc
  rw[Vm cE] at hc
  refine og hc λhw hc=>aT hc λaS Bq hc=>?_
  refine Ti.item k J H s _ E xs[k] ZG.st ZG.R ZG.I.ys hw ZG.I.hn hB (Ue cE) λa bA mJ uE au a7 oN=>?_
  have qE:=ZG.I.mv X uE au (Ti.wrN k _ ZG.st)
  refine Ti.go aK Bw k J H a _ _ E oN au ZG.I.hn hB λgT Ag bo t8=>?_
  have Du:=Ti.wrM k a _ oN
  have Ae:=qE.mv X Ag bo Du
  refine ew (Ff Bq sZ) λiJ IA OL KN=>?_
  refine rT (s:={s with heap:=gT,toks:=mJ}) hA.handled z7 IA bo Ae.F (Ag.vrT (λb hb=>(Du b hb).nt) a7) λdz pe gq gp nH mL=>?_
  have xV:=Ae.tgt X gq (nH.on λy i v hy hv=>OL i v (O2 y i hy) hv) mL z6 ve
  have o9:St (k+1) dz:=Ti.frame _ _ _ t8 λb hb o e=>Ti.kp t8 hb e (gq.pres b o e λq=>Ug q (L.loc b hb) λq=>aB q λx z q=>L.cel b hb x q)
  have lt:xs.length - (k+1)<n:=by rw[ZG.n];exact YB cE (VC k)
  have back:∀ y i v,O.lookup y=some i->B7 nx K i=some v->aS i=some v:=λy i v z hv=>KN i v hv
  have fr:∀ {aO h'},SE J dz aO h'->St (k+1) h':=λS'=>Ti.frame _ _ _ o9 λb hb o e=>Ti.kp o9 hb e (S'.pres b o e (ZG.I.hn b hb))
  refine bU hc λbt σ1 LA hc=>wpAny_mono (qu hT fS LA (s:={s with heap:=dz,toks:=pe}) gp xV.F E) (λok v5 jw=>?_) λz z x=>x
  rw[jw.1]
  refine ew jw.2 λDx jR pq HJ=>?_
  have T':=ZG.T.trans (bz.trans ⟨rfl,rfl,rfl⟩ HJ)
  have HG:=xV.step gp jR (Ti.live o9)
  cases bt with
  | false=>exact⟨xs.length - (k+1),lt,k+1,Dx,σ1,la,va,lr,HG.on back,T',pq,fr jR,cE,rfl,hc,ZG.hl⟩
  | true =>
   rw[if_pos rfl] at hc
   refine bU hc λv ae Ov hc=>bU hc λTY bg jI hc=>?_
   have q:=nE hc
   refine hE.bind Ov pq HG.F λav Da Mu DW Nw DO HE Ny=>?_
   have J4:=HG.step pq DW (Ti.live (fr jR))
   refine wpAny_list_append_plain J4.hD (λh₆ Ni GO=>?_) ?_
   ·have Y:=J4.app X DO Ny Ni GO
    refine⟨xs.length - (k+1),lt,k+1,Mu,ae,la++[v],va++[av],TY,Y.2.on back,(T'.trans Nw).trans ⟨rfl,rfl,rfl⟩,Y.1,Ti.frame _ _ _ (fr (jR.trans DW)) λb hb o e=>GO.extBut b o (L.acc b hb) e,cE,rfl,by rw[jI,q.2],?_⟩
    rw[Uf,<-ZG.hl,<-q.1];rfl
   ·rw[UM,<-ZG.I.la.length]
    refine B' ?_ hl
    rw[<-ZG.hl,Ud]
    exact UA _ _
 ·have sV:k=xs.length:=U3 ZG.hk jG
  have hc:=ZG.hc
  have st:=ZG.st
  rw[sV,XA] at hc
  rw[sV] at st
  refine og hc λhw hc=>?_
  have q:=nE hc
  refine Ti.done J _ s _ E st ZG.R ZG.I.ys hw ZG.I.hn hB λbA mJ uE au=>?_
  have qE:=ZG.I.mv X uE au (Ti.wrN _ _ st)
  have e:la=l:=by rw[<-ZG.hl,<-q.1,Uu]
  rw[e] at qE
  rw[q.2] at au
  exact hQ _ (CI.fin (s':={s with heap:=bA,toks:=mJ}) X qE au (ZG.T.trans ⟨rfl,rfl,rfl⟩) hl)
end
theorem xR:∀ {ts:List Str} {n:Nat} {x:Str},x∈ts->∃ i,(ts.zipIdx n).lookup x=some i
 | t::ts,n,x,h=>by
  rw[Xz,U9]
  cases hb:x==t with
  | true=>exact⟨n,rfl⟩
  | false =>
   refine Ug (Uh.mp h) (λh=>?_) (λh=>?_)
   ·subst h;simp at hb
   ·exact xR h
theorem j4 {scope:Scope} {O:List (Str×Nat)} {nx i:Nat} {ts:List Str} {x:Str} (hx:x∈ts) (h:(bN scope O nx ts).lookup x=some i):nx<=i:=by
 unfold bN at h
 rw[eE] at h
 refine N' (xR (n:=nx) hx) λj hj=>?_
 rw[hj] at h;cases h
 exact (kh hj).1
section
variable {g:G} {A:Around} {E:Value->Shared->Prop} {J:List Addr} {s:Shared} {Z:Env} {O:List (Str×Nat)} {K:aN} {call:aw} {d:Nat}
theorem zy {scope:Scope} {env':Env} {nx:Nat} {aK:Expr} {t:gE} (ZF:jO scope Z.scope O nx (a9 aK)) (h:eU env'.scope (bN scope O nx (a9 aK)) aK=some t) :
  (∀ i,zx t i->nx<=i)/\∀ y i,(bN scope O nx (a9 aK)).lookup y=some i->i<nx\/zx t i:=by
 rcases nQ h with ⟨x,p,i,rfl,rfl,h1,_⟩ | ⟨x,y,p,q,k,pp,i,j,rfl,rfl,h1,h2,_,_⟩
 ·refine⟨λa ha=>?_,λy a hy=>?_⟩
  ·have:a=i:=ha
   apply aV this
   exact j4 (z' (l:=[])) h1
  ·refine Ug (bI hy) (λq=>aR q λh3 h4=>?_) (λq=>aR q λh3 h4=>?_)
   ·have hm:=Ui h4
    have hm:=O'.mp (show y∈[x] from hm)
    subst hm
    rw[h1] at hy;cases hy
    exact .inr rfl
   ·exact .inl (ZF.below _ _ (mem_of_lookup h4))
 ·refine⟨λa ha=>?_,λz a hz=>?_⟩
  ·have:a=i\/a=j:=ha
   rcases this with rfl | rfl
   ·exact j4 (z' (l:=[y])) h1
   ·exact j4 (H' x (z' (l:=[]))) h2
  ·refine Ug (bI hz) (λq=>aR q λh3 h4=>?_) (λq=>aR q λh3 h4=>?_)
   ·have hm:=Ui h4
    rcases (Uh.mp (show z∈[x,y] from hm)).imp id O'.mp with rfl | rfl
    ·rw[h1] at hz;cases hz
     exact .inr (.inl rfl)
    ·rw[h2] at hz;cases hz
     exact .inr (.inr rfl)
   ·exact .inl (ZF.below _ _ (mem_of_lookup h4))
theorem pX {elt aK c8:Expr} {ifs:List Expr} {scope:Scope} {pos Jf:Pos} {nx:Nat} {t:gE} {it:gb} {c:CE} {cs:fh} {F':Expr->Option CE} {two:Bool} {xs l:List V} {w:List (Nat×aZ)} {H σ1 ae:ag} {use:Option (Value->Sem Unit)} {Q:Value->Shared->Prop}
  (hA:hW A d) (ZF:jO scope Z.scope O nx (a9 aK)) (hs:∀ x,foldedSetIterable c8 Z x=pure x) (Bw:rR two aK)
  (hi:jP g A Z O c8 two (bS call it)) (z7:eU (gU scope Z.scope) (bN scope O nx (a9 aK)) aK=some t)
  (hE:∀ e',e'.scope=gU scope Z.scope->aM g A e' (bN scope O nx (a9 aK)) elt (ab call c)) (fS:bY F' ifs=some cs) (hT:∀ e',e'.scope=gU scope Z.scope->∀ e c,F' e=some c->eR g A e' (bN scope O nx (a9 aK)) e (cb call c))
  (h1:bS call it K H=some (xs,w,σ1)) (h2:dT (ab call c) (bX call cs) t w xs K σ1=some (l,ae)) (hl:l.length<=ar) (R:ak g J H s.heap) (F:dR g J Z O K s.heap)
  (hQ:∀ D C s',ki g J s C D l ae s'->s.heap.get? C=none->compPost (model g.prog g.w) A E use Q (.ref D) C (.ok .next) s') :
  wpAny (model g.prog g.w) A (comprehension (.ListComp elt [⟨aK,c8,ifs,0⟩] scope pos) scope Z Jf (newList []) false (eval c8 Z) use) Q E s:=by
 refine wpAny_comprehension_free (use:=use) rfl hs (jB scope (wE F ZF)) ZF.kind (λx hx hl=>ZF.uniq _ _ (by rw[<-hl];exact hx)) (wpAny_mono (hi K H xs w σ1 h1 J s R F E) (λxv s₁ bA=>?_) λz z e=>e)
 refine qT bA λaO ie au Aj mk=>?_
 refine mk E _ λI ys vs wr kp St r8 h' Ti lk hk IL pA hn hB=>?_
 have lv:∀ b,b∈wr\/b∈kp->∃ o,h'.get? b=some o:=λb hb=>by
  refine Ug hb (λhb=>?_) (λhb=>?_)
  ·refine aB (Ti.wrN _ _ lk b hb) λo e z=>?_;exact⟨o,e⟩
  ·refine mQ (Ti.kpN _ _ lk b hb) λo z z e z=>?_;exact⟨o,e⟩
 have bo:ak g aO σ1 h':=au.keeps hk
 have aU:=F.step R ie
 refine wpAny_newObj_type ?_
 have EF:∀ b o,h'.get? b=some o->(h'.push {cls:=.type "list", data:=.seq ([]:List Value).toArray}).get? b=some o:=λb o e=>G' _ e
 have MJ:(h'.push {cls:=.type "list", data:=.seq ([]:List Value).toArray}).PlainList h'.objs.size #[]:=⟨_,Uo _ rfl⟩
 show wpAny _ _ _ _ _ {s₁ with heap:=h'.push {cls:=.type "list", data:=.seq ([]:List Value).toArray}}
 generalize h'.push {cls:=.type "list", data:=.seq ([]:List Value).toArray}=dz at EF MJ
 have EE:∀ b o,s₁.heap.get? b=some o->dz.get? b=some o:=λb o e=>EF b o (hk b o e)
 have DR:SE aO s₁.heap aO dz:=SE.keeps _ EE
 have gp:ak g aO σ1 dz:=au.keeps EE
 refine AM (s:={s₁ with heap:=dz}) ZF gp (aU.step au DR) λcenv jw JI O3 Ac H9 yC vf=>?_
 dsimp only at JI H9 yC vf
 have Lb:∀ b o,s₁.heap.get? b=some o->jw.get? b=some o:=λb o e=>JI b o (EE b o e)
 have DU:SE aO s₁.heap aO jw:=SE.keeps _ Lb
 have fr:∀ b,dz.get? b=none->s.heap.get? b=none:=λb hb=>ie.back (eV EE hb)
 refine aR (zy (env':={cenv with scope:=relabel scope Z}) ZF (by show eU (relabel scope Z) _ _=_;rw[db];exact z7)) λsZ O2=>?_
 have KG:h'.get? h'.objs.size=none:=aD _
 have KS:∀ x b,cenv.cells.lookup x=some b->(∃ o,h'.get? b=some o)->∃ y,Z.cells.lookup y=some b:=λx b e ⟨o,ho⟩=>by
  refine Ug (vf x b e) (λq=>?_) (λq=>?_)
  ·rw[EF b o ho] at q;cases q
  ·exact q
 have wK:∀ y b,Z.cells.lookup y=some b->∃ u,s.heap.IsCell b u:=λy b e=>(F.cellF y b e).1
 have L0:codeAny (model g.prog g.w) A (.compLoop (.ListComp elt [⟨aK,c8,ifs,0⟩] scope pos) 0 (.ref I) (.ref h'.objs.size) {cenv with scope:=relabel scope Z}) (compPost (model g.prog g.w) A E use Q (.ref h'.objs.size) cenv.locals) {s₁ with heap:=jw}:=by
  refine AN (s₀:=s) (φ0:=J) (cenv:={cenv with scope:=relabel scope Z}) (J:=aO) (l:=l) (σe:=ae) (K:=K) (t:=t) (nx:=nx) (c:=c) (cs:=cs) (F':=F') (call:=call) hA Ti Bw (by show eU (relabel scope Z) _ _=_;rw[db];exact z7) sZ O2
   (hE _ (db _ _)) fS (hT _ (db _ _)) ⟨?_,?_,?_⟩ ?_ ?_ (fr _ H9) (λx hx c e=>fr _ (yC x hx c e)) pA ?_ hB ?_ hl h2 (ie.trans DU) (Aj.trans ⟨rfl,rfl,rfl⟩) (au.keeps Lb) Ac (Ti.frame _ _ _ lk λb z o e=>JI b o (EF b o e)) (IL.step bo (SE.keeps _ λb o e=>JI b o (EF b o e))) hn (MJ.at λo e=>JI _ o e) ?_ λs' lE=>hQ _ _ s' lE (fr _ H9)
  ·rintro b hb rfl
   refine N' (lv _ hb) λo e=>?_
   rw[EF _ o e] at H9;cases H9
  ·intro b hb x e
   refine N' (KS x b e (lv b hb)) λy hy=>?_
   refine gA (wK y b hy) λu o ho hd=>?_
   refine Ug hb (λhb=>?_) (λhb=>?_)
   ·rw[pA b hb] at ho;cases ho
   ·refine mQ (Ti.kpN _ _ lk b hb) λo' ca n' e' i7=>?_
    have Bi:h'.get? b=some o:=hk b o ((ie.pres b o ho (F.cellF y b hy).2.1).of λes ep q=>nomatch hd.symm.trans q)
    rw[Bi] at e';cases e'
    rw[hd] at i7;cases i7
  ·rintro b hb rfl
   refine N' (lv _ hb) λo e=>?_
   rw[KG] at e;cases e
  ·rintro e
   refine N' MJ λn' ho=>?_
   rw[show cenv.locals=h'.objs.size from e.symm,ho] at H9;cases H9
  ·intro x e
   refine Ug (vf x _ e) (λq=>?_) (λq=>N' q λy hy=>?_)
   ·refine N' MJ λn' ho=>?_
    rw[ho] at q;cases q
   ·refine gA (wK y _ hy) λu o ho hd=>?_
    have:h'.get? h'.objs.size=some o:=hk _ o ((ie.pres _ o ho (F.cellF y _ hy).2.1).of λes ep q=>nomatch hd.symm.trans q)
    rw[KG] at this;cases this
  ·exact ie.back (eV hk KG)
  ·exact aW bo KG
  ·exact aY bo KG
 exact codeAny_compStart_list L0 (Ti.self 0 _ _ _ (Ti.frame _ _ _ lk λb z o e=>JI b o (EF b o e)) L0)
theorem ki.evp {C D:Addr} {l:List V} {σe:ag} {s':Shared} {h':Heap} {H:ag} (R:ak g J H s.heap) (x:ki g J s C D l σe s') (hC:s.heap.get? C=none) (hs:Heap.SameBut C s'.heap h'):bB g J s (.ref σe.length) (σe++[.lst l]) (.ref D) {s' with heap:=h'}:=by
 obtain ⟨aO,S,R',V',T,Ba,m,hn⟩:=x
 have M:∀ b o,b≠C->s'.heap.get? b=some o->h'.get? b=some o:=λb o hb e=>hs.extBut b o hb e
 have bo:ak g aO (σe++[.lst l]) h':=R'.other Ba (aW R hC) M (Ns.noSeq hn)
 refine⟨aO,cD.mv (wr:=[C]) S bo (λb o hb z e=>M b o (by simpa using hb) e) (λz q=>q) (by simpa using hC),bo,?_,T.trans ⟨rfl,rfl,rfl⟩⟩
 cases V' with
 | ref h=>exact .ref h
theorem CM {elt aK c8:Expr} {ifs:List Expr} {scope:Scope} {pos:Pos} {nx:Nat} {t:gE} {it:gb} {c:CE} {cs:fh} {F':Expr->Option CE} {two:Bool}
  (hA:hW A d) (ZF:jO scope Z.scope O nx (a9 aK)) (hs:∀ x,foldedSetIterable c8 Z x=pure x) (Bw:rR two aK)
  (hi:jP g A Z O c8 two (bS call it)) (z7:eU (gU scope Z.scope) (bN scope O nx (a9 aK)) aK=some t)
  (hE:∀ e',e'.scope=gU scope Z.scope->aM g A e' (bN scope O nx (a9 aK)) elt (ab call c)) (fS:bY F' ifs=some cs) (hT:∀ e',e'.scope=gU scope Z.scope->∀ e c,F' e=some c->eR g A e' (bN scope O nx (a9 aK)) e (cb call c)) :
  aM g A Z O (.ListComp elt [⟨aK,c8,ifs,0⟩] scope pos) (ab call (.comp c t it cs)):=by
 intro K H v af he J s R F E
 refine me he λxs w σ1 h1 he=>?_
 ··refine bU he λl ae h2 he=>?_
   refine iK (fX he) λhz q2 q3=>?_;apply aV q2;apply aV q3
   rw[eval_ListComp]
   refine pX hA ZF hs Bw hi z7 hE fS hT h1 h2 hz R F λD C s' DJ hC=>?_
   obtain ⟨aO,S,R',V',T,Ba,m,hn⟩:=id DJ
   exact⟨m,hn,λh' lE=>DJ.evp R hC lE⟩
end
end Lar
namespace Lar
open PySem PyProof.Rows
theorem cj {M:Model} {A:Around} {E:Value->Shared->Prop} {s:Shared} {H α:Type} {c:Prop} [Decidable c] {m n:StateT H Sem α} {Q:α->H->Prop} {st:H} (hc:c) (h:wpS M A E s m Q st):wpS M A E s (if c then m else n) Q st:=by rw[if_pos hc];exact h
theorem bM {M:Model} {A:Around} {E:Value->Shared->Prop} {s:Shared} {H α:Type} {c:Prop} [Decidable c] {m n:StateT H Sem α} {Q:α->H->Prop} {st:H} (hc:¬ c) (h:wpS M A E s n Q st):wpS M A E s (if c then m else n) Q st:=by rw[if_neg hc];exact h
noncomputable def dW:Bool->Keyed->Array Keyed->Nat->Nat->Nat->StateT SortSt Sem (Option Nat):=sortPriv% PySem.Builtin.gallop
noncomputable def As (left:Bool) (fL:Keyed) (arr:Array Keyed) (base i:Nat):StateT SortSt Sem (Option Bool) :=
 elem' arr (base+i)>>=λx=>if left=true then lt' x fL else lt' fL x>>=λz=>pure (z.map λb=>!b)
noncomputable abbrev GS:Type:=Option (Option Nat)×Nat×Nat
noncomputable def Be (left:Bool) (fL:Keyed) (arr:Array Keyed) (base:Nat) (_:Nat) (c:GS):StateT SortSt Sem (ForInStep GS) :=
 if c.2.1 >= c.2.2 then pure (.done (none,c.2.1,c.2.2))
 else As left fL arr base (c.2.1+(c.2.2 - c.2.1) / 2)>>=λz=>match z with
  | some b=>if b=true then pure (.yield (none,c.2.1+(c.2.2 - c.2.1) / 2+1,c.2.2)) else pure (.yield (none,c.2.1,c.2.1+(c.2.2 - c.2.1) / 2))
  | _=>pure (.done (some none,c.2.1,c.2.2))
noncomputable def Q3 (left:Bool) (fL:Keyed) (arr:Array Keyed) (base top hint:Nat) (_:Nat) (c:GS):StateT SortSt Sem (ForInStep GS) :=
 if c.2.2 >= top then pure (.done (none,c.2.1,c.2.2))
 else As left fL arr base (hint+c.2.2)>>=λz=>match z with
  | some b=>if (!b)=true then pure (.done (none,c.2.1,c.2.2)) else pure (.yield (none,c.2.2,2 * c.2.2+1))
  | _=>pure (.done (some none,c.2.1,c.2.2))
noncomputable def Gn (left:Bool) (fL:Keyed) (arr:Array Keyed) (base top hint:Nat) (_:Nat) (c:GS):StateT SortSt Sem (ForInStep GS) :=
 if c.2.2 >= top then pure (.done (none,c.2.1,c.2.2))
 else As left fL arr base (hint - c.2.2)>>=λz=>match z with
  | some b=>if b=true then pure (.done (none,c.2.1,c.2.2)) else pure (.yield (none,c.2.2,2 * c.2.2+1))
  | _=>pure (.done (some none,c.2.1,c.2.2))
noncomputable def mI (c:GS) (k:Nat->Nat->StateT SortSt Sem (Option Nat)):StateT SortSt Sem (Option Nat):=match c.1 with
 | some r=>pure r
 | none=>k c.2.1 c.2.2
noncomputable def Av (left:Bool) (fL:Keyed) (arr:Array Keyed) (base n lo hi:Nat):StateT SortSt Sem (Option Nat) :=
 forIn [0:n] ((none,lo,hi):GS) (Be left fL arr base)>>=λc=>mI c λz h=>pure (some h)
theorem u8 (left:Bool) (fL:Keyed) (arr:Array Keyed) (base n hint:Nat):dW left fL arr base n hint =
  (As left fL arr base hint>>=λz=>match z with
   | some b=>if b=true then forIn [0:n] ((none,0,1):GS) (Q3 left fL arr base (n - hint) hint)>>=λc=>mI c λl o=>Av left fL arr base n (hint+l+1) (hint+min o (n - hint))
    else forIn [0:n] ((none,0,1):GS) (Gn left fL arr base (hint+1) hint)>>=λc=>mI c λl o=>Av left fL arr base n (hint+1 - min o (hint+1)) (hint - l)
   | _=>pure none):=by kernel_rfl
section
variable {prog:Program} {w:World} {A:Around} {E:Value->Shared->Prop} {s:Shared}
noncomputable def JW (prog:Program) (w:World) (A:Around) (E:Value->Shared->Prop) (s:Shared) (left:Bool) (fL:Keyed) (arr:Array Keyed) (base n:Nat) (st:SortSt) (bey:Nat->Bool):Prop :=
 ∀ i,i<n->∀ Q:Option Bool->SortSt->Prop,Q (some (bey i)) st->wpS (model prog w) A E s (As left fL arr base i) Q st
theorem kq {i n:Nat} {bey:Nat->Bool} (fv:∀ i j,i<=j->j<n->bey j=true->bey i=true) {k:Nat} (hk:bey k=false) (h1:k<=i) (h2:i<n):bey i=false:=by
 cases hb:bey i with
 | false=>rfl
 | true=>rw[fv k i h1 h2 hb] at hk;exact nomatch hk
structure BI {β:Type} (bey:Nat->Bool) (n x:Nat) (c:Option β×Nat×Nat):Prop where
 no:c.1=none
 le:c.2.1<=c.2.2
 hi:c.2.2<=n
 lo:∀ i,i<c.2.1->bey i=true
 up:∀ i,c.2.2<=i->i<n->bey i=false
 t:c.2.2+x<=n+c.2.1
structure BQ {β:Type} (bey:Nat->Bool) (n:Nat) (c:Option β×Nat×Nat):Prop where
 no:c.1=none
 eq:c.2.2<=c.2.1
 hi:c.2.2<=n
 lo:∀ i,i<c.2.1->bey i=true
 up:∀ i,c.2.2<=i->i<n->bey i=false
theorem EC {lo hi:Nat} (h:¬ lo >= hi):lo+(hi - lo) / 2<hi:=WI (Nat.div_lt_self (VX (Wj.mp h)) (Un 2))
theorem iq {c:GS} {k:Nat->Nat->StateT SortSt Sem (Option Nat)} (h:c.1=none):mI c k=k c.2.1 c.2.2:=by
 unfold mI;rw[h]
section
variable {left:Bool} {fL:Keyed} {arr:Array Keyed} {base n hint:Nat} {st:SortSt} {bey:Nat->Bool} {Q:Option Nat->SortSt->Prop}
theorem Ds (hB:JW prog w A E s left fL arr base n st bey) (fv:∀ i j,i<=j->j<n->bey j=true->bey i=true) {x:Nat} {c:GS} (I:BI bey n x c) {P:ForInStep GS->SortSt->Prop} (hd:∀ c,BQ bey n c->P (.done c) st) (hy:∀ c,BI bey n (x+1) c->P (.yield c) st) :
  wpS (model prog w) A E s (Be left fL arr base x c) P st:=by
 unfold Be
 by_cases jG:c.2.1 >= c.2.2
 ·exact cj jG (wpS_pure (hd _ ⟨rfl,jG,I.hi,I.lo,I.up⟩))
 ·have hm:=EC jG
  have hn:=Ul hm I.hi
  refine bM jG (wpS_bind (hB _ hn _ ?_))
  have MO:c.2.1<=c.2.1+(c.2.2 - c.2.1) / 2:=UA _ _
  cases hb:bey (c.2.1+(c.2.2 - c.2.1) / 2) with
  | true=>exact cj rfl (wpS_pure (hy _ ⟨rfl,hm,I.hi,λi hi=>fv i _ (Vx hi) hn hb,I.up,U8 (B' I.t (VJ MO n))⟩))
  | false=>exact bM Uq (wpS_pure (hy _ ⟨rfl,MO,UD hn,I.lo,λi h6 h7=>kq fv hb h6 h7,B' (Wv hm x) I.t⟩))
theorem xO (hB:JW prog w A E s left fL arr base n st bey) (fv:∀ i j,i<=j->j<n->bey j=true->bey i=true) (h:∀ k,k<=n->(∀ i,i<k->bey i=true)->(∀ i,k<=i->i<n->bey i=false)->Q (some k) st) {lo hi:Nat} (h1:lo<=hi) (h2:hi<=n) (h3:∀ i,i<lo->bey i=true) (h4:∀ i,hi<=i->i<n->bey i=false) :
  wpS (model prog w) A E s (Av left fL arr base n lo hi) Q st:=by
 refine wpS_bind (wpS_forRange (I:=λx c st'=>st'=st/\BI bey n x c) (λx c st' z z q=>?_) (λc st' q=>?_) ⟨rfl,rfl,h1,h2,h3,h4,B' h2 (UA _ _)⟩)
 ·rw[q.1]
  exact Ds hB fv q.2 (λc I=>by
   show wpS _ _ _ _ (mI c λz h=>pure (some h)) Q st
   rw[iq I.no]
   exact wpS_pure (h _ I.hi (λi hi=>I.lo i (Ul hi I.eq)) I.up)) λc I=>⟨rfl,I⟩
 ·have I:=q.2
  rw[iq I.no,q.1]
  have t:=I.t
  have e:max 0 n=n:=VD (UJ _)
  rw[e,V9] at t
  exact wpS_pure (h _ I.hi (λi hi=>I.lo i (Ul hi (Wn t))) I.up)
structure UI (bey:Nat->Bool) (n hint x:Nat) (c:GS):Prop where
 no:c.1=none
 lt:c.2.1<c.2.2
 t:x<c.2.2
 ln:hint+c.2.1<n
 b:bey (hint+c.2.1)=true
structure DI (bey:Nat->Bool) (hint x:Nat) (c:GS):Prop where
 no:c.1=none
 lt:c.2.1<c.2.2
 t:x<c.2.2
 ln:c.2.1<=hint
 b:bey (hint - c.2.1)=false
theorem Qb (n:Nat):n<2 * n+1:=Xj (Ym n Zd)
theorem Kr {x n:Nat} (h:x<n):x+1<2 * n+1:=WY (Ul h (Ym n Zd))
theorem qn {n hint o:Nat} (hh:hint<n) (h:n - hint<=o):hint+min o (n - hint)=n:=by rw[WU h,VZ (UD hh)]
theorem wb {n hint o i:Nat} (hh:hint<n) (h6:hint+min o (n - hint)<=i) (h7:i<n):hint+o<=i:=by
 refine Ug (Zu o (n - hint)) (λq=>?_) λq=>?_
 ·rw[U4 q] at h6;exact h6
 ·rw[qn hh q] at h6;exact absurd h7 (UK.mpr h6)
theorem rZ (hB:JW prog w A E s left fL arr base n st bey) (hh:hint<n) (fv:∀ i j,i<=j->j<n->bey j=true->bey i=true) (h:∀ k,k<=n->(∀ i,i<k->bey i=true)->(∀ i,k<=i->i<n->bey i=false)->Q (some k) st) {x:Nat} {c:GS} (I:UI bey n hint x c) (h5:c.2.2 >= n - hint\/bey (hint+c.2.2)=false) :
  wpS (model prog w) A E s (mI c λl o=>Av left fL arr base n (hint+l+1) (hint+min o (n - hint))) Q st:=by
 rw[iq I.no]
 refine xO hB fv h (VJ (Zo.mpr ⟨I.lt,Nat.le_sub_of_add_le' I.ln⟩) hint) (B' (VJ (WZ _ _) _) (UV (VZ (UD hh)))) (λi hi=>fv i _ (Vx hi) I.ln I.b) λi h6 h7=>?_
 refine Ug h5 (λh5=>?_) λh5=>kq fv h5 (wb hh h6 h7) h7
 rw[qn hh h5] at h6
 exact absurd h7 (UK.mpr h6)
theorem ma (hB:JW prog w A E s left fL arr base n st bey) (hh:hint<n) (fv:∀ i j,i<=j->j<n->bey j=true->bey i=true) (h:∀ k,k<=n->(∀ i,i<k->bey i=true)->(∀ i,k<=i->i<n->bey i=false)->Q (some k) st) {x:Nat} {c:GS} (I:DI bey hint x c) (h5:c.2.2 >= hint+1\/bey (hint - c.2.2)=true) :
  wpS (model prog w) A E s (mI c λl o=>Av left fL arr base n (hint+1 - min o (hint+1)) (hint - l)) Q st:=by
 rw[iq I.no]
 have MP:=UR (VG hint c.2.1) hh
 refine xO hB fv h ?_ (UD MP) (λi hi=>?_) λi h6 h7=>kq fv I.b h6 h7
 ·rw[<-YV hint c.2.1]
  exact Nat.sub_le_sub_left (Zo.mpr ⟨I.lt,U8 I.ln⟩) _
 ·refine Ug h5 (λh5=>?_) λh5=>fv i _ ?_ (UR (VG _ _) hh) h5
  ·rw[WU h5,Wg] at hi
   exact absurd hi (Xa _)
  ·rw[YT,<-Nat.sub_eq_sub_min] at hi
   exact Nat.le_sub_of_add_le (Vx (Nat.add_lt_of_lt_sub hi))
theorem wg (hB:JW prog w A E s left fL arr base n st bey) (hh:hint<n)
  (fv:∀ i j,i<=j->j<n->bey j=true->bey i=true)
  (h:∀ k,k<=n->(∀ i,i<k->bey i=true)->(∀ i,k<=i->i<n->bey i=false)->Q (some k) st) :
  wpS (model prog w) A E s (dW left fL arr base n hint) Q st:=by
 rw[u8]
 refine wpS_bind (hB hint hh _ ?_)
 have e:max 0 n=n:=VD (UJ _)
 cases u9:bey hint with
 | true =>
  refine cj rfl (wpS_bind (wpS_forRange (I:=λx c st'=>st'=st/\UI bey n hint x c) (λx c st' z hx q=>?_) (λc st' q=>?_) ⟨rfl,rfl,VA,VA,hh,u9⟩))
  ·rw[q.1]
   have I:=q.2
   unfold Q3
   by_cases jG:c.2.2 >= n - hint
   ·exact cj jG (wpS_pure (rZ hB hh fv h (c:=(none,c.2.1,c.2.2)) ⟨rfl,I.lt,I.t,I.ln,I.b⟩ (.inl jG)))
   ·have cE:hint+c.2.2<n:=WI (Wj.mp jG)
    refine bM jG (wpS_bind (hB _ cE _ ?_))
    cases hb:bey (hint+c.2.2) with
    | true=>exact bM Uq (wpS_pure ⟨rfl,rfl,Qb _,Kr I.t,cE,hb⟩)
    | false=>exact cj rfl (wpS_pure (rZ hB hh fv h (c:=(none,c.2.1,c.2.2)) ⟨rfl,I.lt,I.t,I.ln,I.b⟩ (.inr hb)))
  ·rw[q.1]
   have t:=q.2.t
   rw[e] at t
   exact rZ hB hh fv h q.2 (.inl (B' (VG _ _) (UD t)))
 | false =>
  refine bM Uq (wpS_bind (wpS_forRange (I:=λx c st'=>st'=st/\DI bey hint x c) (λx c st' z hx q=>?_) (λc st' q=>?_) ⟨rfl,rfl,VA,VA,UJ _,u9⟩))
  ·rw[q.1]
   have I:=q.2
   unfold Gn
   by_cases jG:c.2.2 >= hint+1
   ·exact cj jG (wpS_pure (ma hB hh fv h (c:=(none,c.2.1,c.2.2)) ⟨rfl,I.lt,I.t,I.ln,I.b⟩ (.inl jG)))
   ·refine bM jG (wpS_bind (hB _ (UR (VG _ _) hh) _ ?_))
    cases hb:bey (hint - c.2.2) with
    | true=>exact cj rfl (wpS_pure (ma hB hh fv h (c:=(none,c.2.1,c.2.2)) ⟨rfl,I.lt,I.t,I.ln,I.b⟩ (.inr hb)))
    | false=>exact bM Uq (wpS_pure ⟨rfl,rfl,Qb _,Kr I.t,Vx (Wj.mp jG),hb⟩)
  ·rw[q.1]
   have t:=q.2.t
   rw[e] at t
   exact ma hB hh fv h q.2 (.inl (Ww hh t))
end
end
section
variable {α:Type} {r:α->α->Bool} {la lb o ra rb p:List α}
noncomputable def jt (r:α->α->Bool) (l:List α):Prop:=l.Pairwise λx y=>r x y=true
noncomputable def un (r:α->α->Bool) (l m:List α):Prop:=∀ x∈l,∀ y∈m,r x y=true
theorem bW {l m:List α}:jt r (l++m)↔jt r l/\jt r m/\un r l m:=U7
structure Mg (r:α->α->Bool) (la lb o ra rb:List α):Prop where
 sa:jt r (o++ra)
 sb:jt r (o++rb)
 pm:(o++(ra++rb)).Perm (la++lb)
structure eg (r:α->α->Bool) (la lb o:List α):Prop where
 so:jt r o
 pm:o.Perm (la++lb)
theorem Mg.swap (h:Mg r la lb o ra rb):Mg r lb la o rb ra:=⟨h.sb,h.sa,(Xw.append_left o).trans (h.pm.trans Xw)⟩
theorem eg.swap (h:eg r la lb o):eg r lb la o:=⟨h.so,h.pm.trans Xw⟩
theorem Mg.addA (h:Mg r la lb o (p++ra) rb) (hk:un r p rb):Mg r la lb (o++p) ra rb:=by
 have q:=bW.mp h.sa
 have q':=bW.mp h.sb
 refine⟨by rw[Uf];exact h.sa,bW.mpr ⟨bW.mpr ⟨q.1,(bW.mp q.2.1).1,λx hx y hy=>q.2.2 x hx y (UE _ hy)⟩,q'.2.1,λx hx y hy=>?_⟩,?_⟩
 ·exact Ug (Uk.mp hx) (λhx=>q'.2.2 x hx y hy) λhx=>hk x hx y hy
 ·have:=h.pm
  rw[Uf] at this ⊢
  exact this
theorem Mg.addB (h:Mg r la lb o ra (p++rb)) (hk:un r p ra):Mg r la lb (o++p) ra rb:=(h.swap.addA hk).swap
theorem Mg.endA (h:Mg r la lb o ra []):eg r la lb (o++ra):=⟨h.sa,by have:=h.pm;rw[Uu] at this;exact this⟩
theorem Mg.endB (h:Mg r la lb o [] rb):eg r la lb (o++rb):=h.swap.endA.swap
theorem Mg.endBA (h:Mg r la lb o ra rb) (hk:un r rb ra):eg r la lb (o++(rb++ra)):=by
 have:=h
 rw[<-Uu rb] at this
 rw[<-Uf]
 exact (this.addB hk).endA
theorem Mg.srtA (h:Mg r la lb o ra rb):jt r ra:=(bW.mp h.sa).2.1
theorem Mg.srtB (h:Mg r la lb o ra rb):jt r rb:=(bW.mp h.sb).2.1
noncomputable def DF (r:α->α->Bool):α->α->Bool:=λx y=>r y x
theorem xG {l:List α} (h:jt r l):jt (DF r) l.reverse:=Ys.mpr h
theorem eg.rev (h:eg (DF r) la.reverse lb.reverse o):eg r la lb o.reverse :=
 ⟨Ys.mpr h.so,(Wb o).trans (h.pm.trans ((Wb la).append (Wb lb)))⟩
theorem Jp {x:α} {l:List α} (h:jt r (x::l)):∀ y∈l,r x y=true:=(Ur.mp h).1
theorem At (tr:∀ x y z,r x y=true->r y z=true->r x z=true) {y:α} {l:List α} (s:jt r (y::l)) (h:∀ x∈p,r x y=true):un r p (y::l):=λx hx z hz =>
 Ug (Uh.mp hz) (λe=>e ▸ h x hx) λhz=>tr _ _ _ (h x hx) (Jp s z hz)
end
section
variable {prog:Program} {w:World} {A:Around} {E:Value->Shared->Prop} {s:Shared} {r:Keyed->Keyed->Bool} {kd:SortKind} {st:SortSt}
theorem hG {arr:Array Keyed} {j:Nat} {x:Keyed} {Q:Keyed->SortSt->Prop} (he:arr.toList[j]? = some x) (h:Q x st):wpS (model prog w) A E s (elem' arr j) Q st:=by
 rw[elem'_eq,<-Vd,he]
 exact wpS_pure h
theorem xP {left:Bool} {fL:Keyed} {arr:Array Keyed} {base hint:Nat} {X:List Keyed} {f:Keyed->Bool} {Q:Option Nat->SortSt->Prop} (ha:∀ i (hi:i<X.length),arr.toList[base+i]? = some X[i])
  (hc:∀ x∈X,∀ P:Option Bool->SortSt->Prop,P (some (f x)) st->wpS (model prog w) A E s (if left=true then lt' x fL else lt' fL x>>=λz=>pure (z.map λb=>!b)) P st)
  (fv:X.Pairwise λx y=>f y=true->f x=true) (hh:hint<X.length) (h:∀ k,k<=X.length->(∀ x∈X.take k,f x=true)->(∀ x∈X.drop k,f x=false)->Q (some k) st) :
  wpS (model prog w) A E s (dW left fL arr base X.length hint) Q st:=by
 have e:∀ i (hi:i<X.length),(X[i]?).elim false f=f X[i]:=λi hi=>by rw[Ue hi];rfl
 refine wg (bey:=λi=>(X[i]?).elim false f) (λi hi P hP=>?_) hh (λi j sU hj hb=>?_) λk hk h1 h2=>h k hk (λx hx=>?_) λx hx=>?_
 ·exact wpS_bind (hG (ha i hi) (hc _ (UF hi) _ (by rw[<-e i hi];exact hP)))
 ·refine Ug (YK sU) (λcE=>?_) λq=>q ▸ hb
  have hi:=Ww cE hj
  rw[e j hj] at hb
  rw[e i hi]
  exact Wm.mp fv i j hi hj cE hb
 ·refine N' (VT.mp hx) λi q=>N' q λhi q=>?_
  have gf:=Ul hi (B' (UV (UT ..)) (Wp _ _))
  rw[<-q,X6,<-e i (Ul gf hk)]
  exact h1 i gf
 ·refine N' (VT.mp hx) λi q=>N' q λhi q=>?_
  have gf:k+i<X.length:=WI (Ul hi (UV (VE ..)))
  rw[<-q,YY,<-e _ gf]
  exact h2 _ (UA _ _) gf
structure MC (prog:Program) (w:World) (A:Around) (E:Value->Shared->Prop) (s:Shared) (r:Keyed->Keyed->Bool) (kd:SortKind) (X Y:List Keyed):Prop where
 cmp:∀ x∈X,∀ y∈Y,∀ (st:SortSt) (Q:Option Bool->SortSt->Prop),kindOf st=kd->Q (some (r y x)) st->wpS (model prog w) A E s (lt' y x) Q st
 trans:∀ x y z,r x y=true->r y z=true->r x z=true
 asym:∀ x y,r x y=true->r y x=false
 tot:∀ x∈X,∀ y∈Y,r y x=false->r x y=true
 sX:jt r X
 sY:jt r Y
theorem MC.gX {X Y X':List Keyed} (M:MC prog w A E s r kd X Y) (hX:∀ x∈X',x∈X) (sX:jt r X') {arr:Array Keyed} {base hint:Nat} {n:Nat} (hn:X'.length=n) (ha:∀ i (hi:i<X'.length),arr.toList[base+i]? = some X'[i]) {y:Keyed} (hy:y∈Y) (hh:hint<n) (hk:kindOf st=kd) {Q:Option Nat->SortSt->Prop}
  (h:∀ k,k<=n->(∀ x∈X'.take k,r x y=true)->(∀ x∈X'.drop k,r y x=true)->Q (some k) st):wpS (model prog w) A E s (dW false y arr base n hint) Q st:=by
 subst hn
 refine xP (f:=λx=>!(r y x)) ha (λx hx P hP=>bM Uq (wpS_bind (M.cmp x (hX x hx) y hy _ _ hk (wpS_pure hP)))) (List.Pairwise.imp_of_mem (λ{x x'} hx Bx hr hb=>?_) sX) hh λk hk h1 h2=>h k hk (λx hx=>?_) λx hx=>?_
 ·have hb':r y x'=false:=(Vh _).mp hb
  rw[M.asym _ _ (M.trans _ _ _ hr (M.tot x' (hX x' Bx) y hy hb'))];rfl
 ·exact M.tot x (hX x (UB hx)) y hy ((Vh _).mp (h1 x hx))
 ·exact (XY _).mp (h2 x hx)
theorem MC.gY {X Y Y':List Keyed} (M:MC prog w A E s r kd X Y) (hY:∀ y∈Y',y∈Y) (sY:jt r Y') {arr:Array Keyed} {base hint:Nat} {n:Nat} (hn:Y'.length=n) (ha:∀ i (hi:i<Y'.length),arr.toList[base+i]? = some Y'[i]) {x:Keyed} (hx:x∈X) (hh:hint<n) (hk:kindOf st=kd) {Q:Option Nat->SortSt->Prop}
  (h:∀ k,k<=n->(∀ y∈Y'.take k,r y x=true)->(∀ y∈Y'.drop k,r x y=true)->Q (some k) st):wpS (model prog w) A E s (dW true x arr base n hint) Q st:=by
 subst hn
 exact xP (f:=λy=>r y x) ha (λy hy P hP=>cj rfl (M.cmp x hx y (hY y hy) _ _ hk hP)) (List.Pairwise.imp (λ{y y'} hr hb=>M.trans _ _ _ hr hb) sY) hh λk hk h1 h2=>h k hk h1 λy hy=>M.tot x hx y (hY y (UW hy)) (h2 y hy)
end
noncomputable def dG:Nat->StateT SortSt Sem Unit:=sortPriv% PySem.Builtin.setMinGallop
noncomputable def oH:Array Keyed->Array Keyed->StateT SortSt Sem (Array Keyed):=sortPriv% PySem.Builtin.mergeLo
theorem du (g:Nat):dG g=modify (λs=>SortSt.mk' (kindOf s) (arrOf s) (pendingOf s) g (failedOf s)):=rfl
noncomputable def fq (a b out:Array Keyed) (ia ib:Nat):Array Keyed:=out++a.extract ia a.size++b.extract ib b.size
noncomputable def lX (a b out:Array Keyed) (ia ib:Nat):Array Keyed:=out++b.extract ib b.size++a.extract ia a.size
noncomputable abbrev LS:Type:=Option (Array Keyed)×Array Keyed×Nat×Nat×Nat×Nat×Nat
noncomputable def gD (a b out:Array Keyed) (ia ib mg ac bc:Nat):StateT SortSt Sem (ForInStep LS) :=
 elem' a ia>>=λx =>
  if (ia+1+1==a.size)=true then pure (.done (some (lX a b (out.push x) (ia+1) ib),out.push x,ia+1,ib,mg,ac,bc))
  else if (decide (ac<7)&&decide (bc<7))=true then pure (.done (none,out.push x,ia+1,ib,mg,ac,bc))
  else pure (.yield (none,out.push x,ia+1,ib,mg,ac,bc))
noncomputable def gC (a b out:Array Keyed) (ia ib mg ac bc:Nat):StateT SortSt Sem (ForInStep LS) :=
 elem' b ib>>=λx =>
  if (ib+1==b.size)=true then pure (.done (some (fq a b (out.push x) ia (ib+1)),out.push x,ia,ib+1,mg,ac,bc))
  else elem' a ia>>=λy=>dW true y b (ib+1) (b.size - (ib+1)) 0>>=λz=>match z with
   | some k=>if k > 0 then (if (ib+1+k==b.size)=true then pure (.done (some (fq a b (out.push x++b.extract (ib+1) (ib+1+k)) ia (ib+1+k)),out.push x++b.extract (ib+1) (ib+1+k),ia,ib+1+k,mg,ac,k))
     else gD a b (out.push x++b.extract (ib+1) (ib+1+k)) ia (ib+1+k) mg ac k)
    else gD a b (out.push x) ia (ib+1) mg ac k
   | _=>pure (.done (some (fq a b (out.push x) ia (ib+1)),out.push x,ia,ib+1,mg,ac,bc))
noncomputable def gB (a b out:Array Keyed) (ia ib mg ac bc:Nat):StateT SortSt Sem (ForInStep LS) :=
 dG mg>>=λy=>elem' b ib>>=λx=>dW false x a ia (a.size - ia) 0>>=λz=>match z with
 | some k=>if k > 0 then (if (ia+k+1==a.size)=true then pure (.done (some (lX a b (out++a.extract ia (ia+k)) (ia+k) ib),out++a.extract ia (ia+k),ia+k,ib,mg,k,bc))
   else if (ia+k==a.size)=true then pure (.done (some (fq a b (out++a.extract ia (ia+k)) (ia+k) ib),out++a.extract ia (ia+k),ia+k,ib,mg,k,bc))
   else gC a b (out++a.extract ia (ia+k)) (ia+k) ib mg k bc)
  else gC a b out ia ib mg k bc
 | _=>pure (.done (some (fq a b out ia ib),out,ia,ib,mg,ac,bc))
noncomputable abbrev IS:Type:=Option (Array Keyed)×Array Keyed×Nat×Nat×Nat×Nat
noncomputable def Hh (a b:Array Keyed) (mg:Nat) (_:Nat) (c:IS):StateT SortSt Sem (ForInStep IS) :=
 elem' b c.2.2.2.1>>=λy=>elem' a c.2.2.1>>=λx=>lt' y x>>=λz=>match z with
 | some t=>if t=true then elem' b c.2.2.2.1>>=λv =>
    if (c.2.2.2.1+1==b.size)=true then pure (.done (some (fq a b (c.2.1.push v) c.2.2.1 (c.2.2.2.1+1)),c.2.1.push v,c.2.2.1,c.2.2.2.1+1,0,c.2.2.2.2.2+1))
    else if c.2.2.2.2.2+1 >= mg then pure (.done (none,c.2.1.push v,c.2.2.1,c.2.2.2.1+1,0,c.2.2.2.2.2+1)) else pure (.yield (none,c.2.1.push v,c.2.2.1,c.2.2.2.1+1,0,c.2.2.2.2.2+1))
   else elem' a c.2.2.1>>=λv =>
    if (c.2.2.1+1+1==a.size)=true then pure (.done (some (lX a b (c.2.1.push v) (c.2.2.1+1) c.2.2.2.1),c.2.1.push v,c.2.2.1+1,c.2.2.2.1,c.2.2.2.2.1+1,0))
    else if c.2.2.2.2.1+1 >= mg then pure (.done (none,c.2.1.push v,c.2.2.1+1,c.2.2.2.1,c.2.2.2.2.1+1,0)) else pure (.yield (none,c.2.1.push v,c.2.2.1+1,c.2.2.2.1,c.2.2.2.2.1+1,0))
 | _=>pure (.done (some (fq a b c.2.1 c.2.2.1 c.2.2.2.1),c.2.1,c.2.2.1,c.2.2.2.1,c.2.2.2.2.1,c.2.2.2.2.2))
noncomputable def Ky (a b:Array Keyed) (_:Nat) (c:LS):StateT SortSt Sem (ForInStep LS) :=
 if c.2.2.2.2.1 > 1 then gB a b c.2.1 c.2.2.1 c.2.2.2.1 (c.2.2.2.2.1 - 1) c.2.2.2.2.2.1 c.2.2.2.2.2.2 else gB a b c.2.1 c.2.2.1 c.2.2.2.1 c.2.2.2.2.1 c.2.2.2.2.2.1 c.2.2.2.2.2.2
noncomputable abbrev OS:Type:=Option (Array Keyed)×Array Keyed×Nat×Nat×Nat
noncomputable def Hj (a b:Array Keyed) (_:Nat) (c:OS):StateT SortSt Sem (ForInStep OS) :=
 forIn [0:a.size+b.size] ((none,c.2.1,c.2.2.1,c.2.2.2.1,0,0):IS) (Hh a b c.2.2.2.2)>>=λd=>match d.1 with
 | some q=>pure (.done (some q,d.2.1,d.2.2.1,d.2.2.2.1,c.2.2.2.2))
 | none=>(liftM (rule "list.sort.gallop"):StateT SortSt Sem Unit)>>=λz=>forIn [0:a.size+b.size] ((none,d.2.1,d.2.2.1,d.2.2.2.1,c.2.2.2.2+1,d.2.2.2.2.1,d.2.2.2.2.2):LS) (Ky a b)>>=λf=>match f.1 with
  | some q=>pure (.done (some q,f.2.1,f.2.2.1,f.2.2.2.1,f.2.2.2.2.1))
  | none=>dG (f.2.2.2.2.1+1)>>=λz=>pure (.yield (none,f.2.1,f.2.2.1,f.2.2.2.1,f.2.2.2.2.1+1))
theorem tx (a b:Array Keyed):oH a b =
  ((liftM (rule "list.sort.merge-lo"):StateT SortSt Sem Unit)>>=λz=>elem' b 0>>=λx =>
   if (1==b.size)=true then pure (fq a b #[x] 0 1) else if (0+1==a.size)=true then pure (lX a b #[x] 0 1)
   else get>>=λs=>forIn [0:a.size+b.size] ((none,#[x],0,1,gallopOf s):OS) (Hj a b)>>=λc=>match c.1 with
    | some q=>pure q
    | none=>unsupported "internal:list.sort.merge-bound"):=by kernel_rfl
structure bC (st st':SortSt):Prop where
 k:kindOf st'=kindOf st
 a:arrOf st'=arrOf st
 p:pendingOf st'=pendingOf st
 f:failedOf st'=failedOf st
theorem bC.refl (st:SortSt):bC st st:=⟨rfl,rfl,rfl,rfl⟩
theorem bC.trans {a b c:SortSt} (x:bC a b) (y:bC b c):bC a c:=⟨y.k.trans x.k,y.a.trans x.a,y.p.trans x.p,y.f.trans x.f⟩
section
variable {M:Model} {A:Around} {E:Value->Shared->Prop} {s:Shared} {H α:Type} {m n:StateT H Sem α} {Q:α->H->Prop} {st:H}
theorem cg {c:Prop} [Decidable c] (hT:c->wpS M A E s m Q st) (hF:¬ c->wpS M A E s n Q st):wpS M A E s (if c then m else n) Q st:=by
 by_cases h:c
 ·exact cj h (hT h)
 ·exact bM h (hF h)
theorem bL {i j:Nat} (hT:i=j->wpS M A E s m Q st) (hF:i≠j->wpS M A E s n Q st):wpS M A E s (if (i==j)=true then m else n) Q st :=
 cg (λh=>hT (beq_iff_eq.mp h)) λh=>hF λe=>h (beq_iff_eq.mpr e)
end
section
variable {r:Keyed->Keyed->Bool} {la lb rb:List Keyed} {a b out:Array Keyed} {ia ib k:Nat}
theorem wJ (hi:ia<a.size):a.toList.drop ia=a[ia]::a.toList.drop (ia+1):=Vm hi
theorem m6 (hi:ia<a.size):a[ia]∈a.toList:=Array.getElem_mem_toList hi
theorem IV (a:Array Keyed) (i:Nat):(a.toList.drop i).length=a.size - i:=VE ..
theorem wv (a:Array Keyed) (j i:Nat) (hi:i<(a.toList.drop j).length):a.toList[j+i]? = some (a.toList.drop j)[i]:=by
 rw[<-List.getElem?_drop,Ue hi]
theorem sH {l:List Keyed} {n:Nat} (h:n=l.length):l.drop n=[]:=Xi (UV h.symm)
theorem js (a:Array Keyed) (i:Nat):(a.extract i a.size).toList=a.toList.drop i:=by
 rw[Wx,V1]
 exact Xl (UV (IV a i))
theorem Mg.pushA (hi:ia<a.size) (h:Mg r la lb out.toList (a.toList.drop ia) rb) (hk:∀ y∈rb,r a[ia] y=true):Mg r la lb (out.push a[ia]).toList (a.toList.drop (ia+1)) rb:=by
 rw[wJ hi] at h
 rw[Xm]
 exact h.addA (p:=[a[ia]]) λx hx y hy=>by rw[O'.mp hx];exact hk y hy
theorem Mg.extA (k:Nat) (h:Mg r la lb out.toList (a.toList.drop ia) rb) (hk:un r ((a.toList.drop ia).take k) rb):Mg r la lb (out++a.extract ia (ia+k)).toList (a.toList.drop (ia+k)) rb:=by
 rw[<-Uy k (a.toList.drop ia),Xn] at h
 rw[UH,Wx,V1,U0]
 exact h.addA hk
theorem Mg.pushB (hi:ib<b.size) (h:Mg r la lb out.toList rb (b.toList.drop ib)) (hk:∀ y∈rb,r b[ib] y=true):Mg r la lb (out.push b[ib]).toList rb (b.toList.drop (ib+1)):=(h.swap.pushA hi hk).swap
theorem Mg.extB (k:Nat) (h:Mg r la lb out.toList rb (b.toList.drop ib)) (hk:un r ((b.toList.drop ib).take k) rb):Mg r la lb (out++b.extract ib (ib+k)).toList rb (b.toList.drop (ib+k)):=(h.swap.extA k hk).swap
theorem qJ (tr:∀ x y z,r x y=true->r y z=true->r x z=true) (hi:ia<a.size) (s:jt r (a.toList.drop ia)) {p:List Keyed} (h:∀ x∈p,r x a[ia]=true):un r p (a.toList.drop ia):=by
 rw[wJ hi] at s ⊢
 exact At tr s h
theorem tC (tr:∀ x y z,r x y=true->r y z=true->r x z=true) (hi:ia<a.size) (s:jt r (a.toList.drop ia)) {x:Keyed} (h:r x a[ia]=true):∀ y∈a.toList.drop ia,r x y=true:=λy hy =>
 qJ (p:=[x]) tr hi s (λz hz=>by rw[O'.mp hz];exact h) x z' y hy
theorem BY (hk:k<=a.size - ia) (hi:ia<=a.size):ia+k<=a.size:=Nat.add_le_of_le_sub' hi hk
theorem T7 {m i j k:Nat} (h:m<=i+j):m<=i+1+(j+1+k):=B' h (VY (Wu i) (B' (Wu j) (UA _ _)))
theorem T6 {m i j k:Nat} (h:m<=i+j):m<=i+k+j:=B' h (U6 (UA i k) j)
structure DA (r:Keyed->Keyed->Bool) (a b out:Array Keyed) (ia ib:Nat):Prop where
 mi:Mg r a.toList b.toList out.toList (a.toList.drop ia) (b.toList.drop ib)
 ha:ia+1<a.size
 hb:ib<b.size
noncomputable def xW (r:Keyed->Keyed->Bool) (a b:Array Keyed) (m:Nat) (q:Option (Array Keyed)) (out:Array Keyed) (ia ib:Nat):Prop:=match q with
 | some lG=>eg r a.toList b.toList lG.toList
 | none=>DA r a b out ia ib/\m<=ia+ib
noncomputable def F5 (r:Keyed->Keyed->Bool) (a b:Array Keyed):Prop:=∀ y∈b.toList,∀ x∈a.toList.drop (a.size - 1),r y x=true
theorem nF (fu:F5 r a b) (h:Mg r a.toList b.toList out.toList (a.toList.drop ia) (b.toList.drop ib)) (ha:ia+1=a.size):eg r a.toList b.toList (lX a b out ia ib).toList:=by
 unfold lX
 rw[UH,UH,js,js,Uf]
 exact h.endBA λy hy x hx=>fu y (UW hy) x (by rw[<-ha];exact hx)
theorem rV (h:Mg r a.toList b.toList out.toList (a.toList.drop ia) (b.toList.drop ib)) (hb:ib=b.size):eg r a.toList b.toList (fq a b out ia ib).toList:=by
 have e:b.toList.drop ib=[]:=sH hb
 unfold fq
 rw[UH,UH,js,js,e,Uu]
 rw[e] at h
 exact h.endA
theorem Ju (h:Mg r a.toList b.toList out.toList (a.toList.drop ia) (b.toList.drop ib)) (ha:ia=a.size):eg r a.toList b.toList (fq a b out ia ib).toList:=by
 have e:a.toList.drop ia=[]:=sH ha
 unfold fq
 rw[UH,UH,js,js,e,Uu]
 rw[e] at h
 exact h.endB
end
section
variable {prog:Program} {w:World} {A:Around} {E:Value->Shared->Prop} {s:Shared} {r:Keyed->Keyed->Bool} {kd:SortKind} {a b out:Array Keyed} {ia ib mg ac bc m:Nat} {st:SortSt} {P:ForInStep LS->SortSt->Prop}
theorem bD {i:Nat} {Q:Keyed->SortSt->Prop} (hi:i<a.size) (h:Q a[i] st):wpS (model prog w) A E s (elem' a i) Q st:=by
 rw[elem'_eq,Wo hi]
 exact wpS_pure h
theorem Do (fu:F5 r a b) (I:DA r a b out ia ib) (hc:∀ y∈b.toList.drop ib,r (a[ia]'(UY I.ha)) y=true) (hm:m<=ia+1+ib) (hd:∀ c:LS,xW r a b m c.1 c.2.1 c.2.2.1 c.2.2.2.1->P (.done c) st) (hy:∀ c:LS,c.1=none->xW r a b m c.1 c.2.1 c.2.2.1 c.2.2.2.1->P (.yield c) st) :
  wpS (model prog w) A E s (gD a b out ia ib mg ac bc) P st:=by
 have m5:ia<a.size:=UY I.ha
 have h1:=I.mi.pushA m5 hc
 refine wpS_bind (bD m5 (bL (λh2=>wpS_pure (hd _ (nF fu h1 h2))) λh2=>?_))
 have I':DA r a b (out.push a[ia]) (ia+1) ib:=⟨h1,U5 I.ha h2,I.hb⟩
 exact cg (λz=>wpS_pure (hd _ ⟨I',hm⟩)) λz=>wpS_pure (hy _ rfl ⟨I',hm⟩)
theorem Dm (M:MC prog w A E s r kd a.toList b.toList) (fu:F5 r a b) (lV:kindOf st=kd) (I:DA r a b out ia ib) (hc:∀ y∈a.toList.drop ia,r (b[ib]'I.hb) y=true) (hm:m<=ia+ib) (hd:∀ c:LS,xW r a b m c.1 c.2.1 c.2.2.1 c.2.2.2.1->P (.done c) st) (hy:∀ c:LS,c.1=none->xW r a b m c.1 c.2.1 c.2.2.1 c.2.2.2.1->P (.yield c) st) :
  wpS (model prog w) A E s (gC a b out ia ib mg ac bc) P st:=by
 have m5:ia<a.size:=UY I.ha
 have h1:=I.mi.pushB I.hb hc
 refine wpS_bind (bD I.hb (bL (λh2=>wpS_pure (hd _ (rV h1 h2))) λh2=>wpS_bind (bD m5 ?_)))
 have vc:ib+1<b.size:=U5 I.hb h2
 refine wpS_bind (M.gY (λy hy=>UW hy) h1.srtB (IV b (ib+1)) (wv b (ib+1)) (m6 m5) (VX vc) lV λk hk g1 g2=>?_)
 refine cg (λz=>?_) λjH=>?_
 ·have h3:=h1.extB k (qJ M.trans m5 h1.srtA g1)
  rw[Xn] at g2
  refine bL (λh4=>wpS_pure (hd _ (rV h3 h4))) λh4=>Do fu ⟨h3,I.ha,U5 (BY hk (UD vc)) h4⟩ g2 (T7 hm) hd hy
 ·have e:k=0:=Wh jH
  rw[e] at g2
  exact Do fu ⟨h1,I.ha,vc⟩ g2 (by exact jL (y7 0xc6010b1013ba183213ba185413ba42612ba531 rfl (iL hm) (iA _ _) (iA _ _) (iA _ _) (iA _ _))) hd hy
theorem Dl (M:MC prog w A E s r kd a.toList b.toList) (fu:F5 r a b) (lV:kindOf st=kd) (I:DA r a b out ia ib) (hm:m<=ia+ib) (hd:∀ (c:LS) st',bC st st'->xW r a b m c.1 c.2.1 c.2.2.1 c.2.2.2.1->P (.done c) st') (hy:∀ (c:LS) st',bC st st'->c.1=none->xW r a b m c.1 c.2.1 c.2.2.1 c.2.2.2.1->P (.yield c) st') :
  wpS (model prog w) A E s (gB a b out ia ib mg ac bc) P st:=by
 have m5:ia<a.size:=UY I.ha
 have hs:bC st (SortSt.mk' (kindOf st) (arrOf st) (pendingOf st) mg (failedOf st)):=⟨rfl,rfl,rfl,rfl⟩
 refine wpS_bind ?_
 rw[du]
 refine wpS_modify (wpS_bind (bD I.hb ?_))
 refine wpS_bind (M.gX (st:=SortSt.mk' (kindOf st) (arrOf st) (pendingOf st) mg (failedOf st)) (λy hy=>UW hy) I.mi.srtA (IV a ia) (wv a ia) (m6 I.hb) (VX m5) lV λk hk g1 g2=>?_)
 refine cg (λz=>?_) λjH=>?_
 ·have h3:=I.mi.extA k (qJ M.trans I.hb I.mi.srtB g1)
  rw[Xn] at g2
  refine bL (λh4=>wpS_pure (hd _ _ hs (nF fu h3 h4))) λh4=>bL (λh5=>wpS_pure (hd _ _ hs (Ju h3 h5))) λh5=>?_
  exact Dm M fu lV ⟨h3,U5 (U5 (BY hk (UD m5)) h5) h4,I.hb⟩ g2 (T6 hm) (λc=>hd c _ hs) λc=>hy c _ hs
 ·have e:k=0:=Wh jH
  rw[e] at g2
  exact Dm M fu lV I g2 hm (λc=>hd c _ hs) λc=>hy c _ hs
theorem zN (M:MC prog w A E s r kd a.toList b.toList) (fu:F5 r a b) (lV:kindOf st=kd) {y:Nat} {c:IS} (I:DA r a b c.2.1 c.2.2.1 c.2.2.2.1) (hm:m<=c.2.2.1+c.2.2.2.1) {P:ForInStep IS->SortSt->Prop} (hd:∀ c:IS,xW r a b (m+1) c.1 c.2.1 c.2.2.1 c.2.2.2.1->P (.done c) st) (hy:∀ c:IS,c.1=none->xW r a b (m+1) c.1 c.2.1 c.2.2.1 c.2.2.2.1->P (.yield c) st) :
  wpS (model prog w) A E s (Hh a b mg y c) P st:=by
 have m5:c.2.2.1<a.size:=UY I.ha
 have rk:=I.hb
 refine wpS_bind (bD rk (wpS_bind (bD m5 (wpS_bind (M.cmp _ (m6 m5) _ (m6 rk) _ _ lV ?_)))))
 cases hr:r b[c.2.2.2.1] a[c.2.2.1] with
 | true =>
  have h2:=I.mi.pushB rk (tC M.trans m5 I.mi.srtA hr)
  refine cj rfl (wpS_bind (bD rk (bL (λh3=>wpS_pure (hd _ (rV h2 h3))) λh3=>?_)))
  have I':DA r a b (c.2.1.push b[c.2.2.2.1]) c.2.2.1 (c.2.2.2.1+1):=⟨h2,I.ha,U5 rk h3⟩
  exact cg (λz=>wpS_pure (hd _ ⟨I',U8 hm⟩)) λz=>wpS_pure (hy _ rfl ⟨I',U8 hm⟩)
 | false =>
  have h2:=I.mi.pushA m5 (tC M.trans rk I.mi.srtB (M.tot _ (m6 m5) _ (m6 rk) hr))
  refine bM Uq (wpS_bind (bD m5 (bL (λh3=>wpS_pure (hd _ (nF fu h2 h3))) λh3=>?_)))
  have I':DA r a b (c.2.1.push a[c.2.2.1]) (c.2.2.1+1) c.2.2.2.1:=⟨h2,U5 I.ha h3,rk⟩
  have MS:m+1<=c.2.2.1+1+c.2.2.2.1:=(by exact jL (y7 0xc5210b1012ba180213ba184313ba63512ba641 rfl (iL hm) (iA _ _) (iA _ _) (iA _ _) (iA _ _)))
  exact cg (λz=>wpS_pure (hd _ ⟨I',MS⟩)) λz=>wpS_pure (hy _ rfl ⟨I',MS⟩)
theorem zP (M:MC prog w A E s r kd a.toList b.toList) (fu:F5 r a b) (lV:kindOf st=kd) {x:Nat} {c:OS} (I:DA r a b c.2.1 c.2.2.1 c.2.2.2.1) (hm:m<=c.2.2.1+c.2.2.2.1) {P:ForInStep OS->SortSt->Prop} (hd:∀ q out ia ib mg st',bC st st'->eg r a.toList b.toList (XO q)->P (.done (some q,out,ia,ib,mg)) st')
  (hy:∀ out ia ib mg st',bC st st'->DA r a b out ia ib->m+1<=ia+ib->P (.yield (none,out,ia,ib,mg)) st'):wpS (model prog w) A E s (Hj a b x c) P st:=by
 refine wpS_bind (wpS_mono (wpS_forRange (I:=λy (d:IS) st'=>st'=st/\d.1=none/\xW r a b (m+y) d.1 d.2.1 d.2.2.1 d.2.2.2.1) (Q:=λ(d:IS) st'=>st'=st/\xW r a b (m+1) d.1 d.2.1 d.2.2.1 d.2.2.2.1) (λy d st' z hy q=>?_) (λd st' q=>?_) ⟨rfl,rfl,I,hm⟩) λd st' q=>?_)
 ·rw[q.1]
  have q2:=q.2.2
  rw[q.2.1] at q2
  refine zN M fu lV q2.1 q2.2 (λc o=>⟨rfl,?_⟩) λc e o=>⟨rfl,e,o⟩
  rcases c with ⟨_ | lG,c⟩
  ·exact⟨o.1,B' (U8 (UA _ _)) o.2⟩
  ·exact o
 ·have q2:=q.2.2
  rw[q.2.1] at q2
  have ha:=q2.1.ha
  have hb:=q2.1.hb
  have hz:=q2.2
  exact absurd (Y6 0 (a.size+b.size)) (by lia)
 ·rw[q.1]
  have q2:=q.2
  rcases d with ⟨_ | lG,d⟩
  ·refine wpS_bind (wpS_lift (wpAny_rule ⟨rfl,?_⟩))
   refine wpS_bind (wpS_mono (wpS_forRange (I:=λy (f:LS) st'=>bC st st'/\f.1=none/\xW r a b (m+1) f.1 f.2.1 f.2.2.1 f.2.2.2.1) (Q:=λ(f:LS) st'=>bC st st'/\xW r a b (m+1) f.1 f.2.1 f.2.2.1 f.2.2.2.1) (λy f st' z hy q=>?_) (λf st' q=>⟨q.1,q.2.2⟩) ⟨bC.refl _,rfl,q2⟩) λf st' q=>?_)
   ·have q2:=q.2.2
    rw[q.2.1] at q2
    have hk:=q.1.k.trans lV
    exact cg (λz=>Dl M fu hk q2.1 q2.2 (λc cK hs o=>⟨q.1.trans hs,o⟩) λc cK hs e o=>⟨q.1.trans hs,e,o⟩) λz=>Dl M fu hk q2.1 q2.2 (λc cK hs o=>⟨q.1.trans hs,o⟩) λc cK hs e o=>⟨q.1.trans hs,e,o⟩
   ·have q2:=q.2
    rcases f with ⟨_ | lG,f⟩
    ·refine wpS_bind ?_
     rw[du]
     exact wpS_modify (wpS_pure (hy _ _ _ _ _ (q.1.trans ⟨rfl,rfl,rfl,rfl⟩) q2.1 q2.2))
    ·exact wpS_pure (hd _ _ _ _ _ _ q.1 q2)
  ·exact wpS_pure (hd _ _ _ _ _ _ (bC.refl _) q2)
theorem uj {Q:Array Keyed->SortSt->Prop} (M:MC prog w A E s r kd a.toList b.toList) (fu:F5 r a b) (JK:0<a.size) (Ln:0<b.size) (first:∀ x∈a.toList,r b[0] x=true) (lV:kindOf st=kd)
  (h:∀ lG st',bC st st'->eg r a.toList b.toList lG.toList->Q lG st'):wpS (model prog w) A E s (oH a b) Q st:=by
 rw[tx]
 refine wpS_bind (wpS_lift (wpAny_rule ⟨rfl,wpS_bind (bD Ln ?_)⟩))
 have h0:Mg r a.toList b.toList (#[]:Array Keyed).toList (a.toList.drop 0) (b.toList.drop 0):=⟨M.sX,M.sY,List.Perm.refl _⟩
 have h1:=h0.pushB Ln first
 refine bL (λvc=>wpS_pure (h _ _ (bC.refl _) (rV h1 vc))) λvc=>bL (λIb=>wpS_pure (h _ _ (bC.refl _) (nF fu h1 Ib))) λIb=>wpS_bind (wpS_get ?_)
 refine wpS_bind (wpS_mono (wpS_forRange (I:=λx (c:OS) st'=>bC st st'/\c.1=none/\xW r a b (x+1) c.1 c.2.1 c.2.2.1 c.2.2.2.1) (Q:=λ(c:OS) st'=>bC st st'/\∃ q,c.1=some q/\eg r a.toList b.toList q.toList) (λx c st' z hx q=>?_) (λc st' q=>?_) ⟨bC.refl _,rfl,⟨h1,U5 JK Ib,U5 Ln vc⟩,Un _⟩) λc st' q=>?_)
 ·have q2:=q.2.2
  rw[q.2.1] at q2
  exact zP M fu (q.1.k.trans lV) q2.1 q2.2 (λlG out ia ib mg cK hs e=>⟨q.1.trans hs,_,rfl,e⟩) λout ia ib mg cK hs I hm=>⟨q.1.trans hs,rfl,I,hm⟩
 ·have q2:=q.2.2
  rw[q.2.1] at q2
  have ha:=q2.1.ha
  have hb:=q2.1.hb
  have hz:=q2.2
  exact absurd (Y6 0 (a.size+b.size)) (by lia)
 ·refine N' q.2 λlG e=>?_
  rw[e.1]
  exact wpS_pure (h _ _ q.1 e.2)
end
noncomputable def oG:Array Keyed->Array Keyed->StateT SortSt Sem (Array Keyed):=sortPriv% PySem.Builtin.mergeHi
noncomputable def fo (a b out:Array Keyed) (na nb:Nat):Array Keyed:=a.extract 0 na++b.extract 0 nb++out.reverse
noncomputable def jm (a b out:Array Keyed) (na nb:Nat):Array Keyed:=b.extract 0 nb++a.extract 0 na++out.reverse
noncomputable abbrev HS:Type:=Option (Array Keyed)×Nat×Nat×Array Keyed×Nat×Nat×Nat
noncomputable def hD (a b out:Array Keyed) (na nb mg ac bc:Nat):StateT SortSt Sem (ForInStep HS) :=
 elem' a (na - 1)>>=λx =>
  if (na - 1==0)=true then pure (.done (some (fo a b (out.push x) (na - 1) nb),na - 1,nb,out.push x,mg,ac,bc))
  else if (decide (ac<7)&&decide (bc<7))=true then pure (.done (none,na - 1,nb,out.push x,mg,ac,bc))
  else pure (.yield (none,na - 1,nb,out.push x,mg,ac,bc))
noncomputable def hC (a b out:Array Keyed) (na nb mg ac bc:Nat):StateT SortSt Sem (ForInStep HS) :=
 elem' b (nb - 1)>>=λx =>
  if (nb - 1==1)=true then pure (.done (some (jm a b (out.push x) na (nb - 1)),na,nb - 1,out.push x,mg,ac,bc))
  else elem' a (na - 1)>>=λy=>dW true y b 0 (nb - 1) (nb - 1 - 1)>>=λz=>match z with
   | some k=>if nb - 1 - k > 0 then (if (k==1)=true then pure (.done (some (jm a b (out.push x++(b.extract k (nb - 1)).reverse) na k),na,k,out.push x++(b.extract k (nb - 1)).reverse,mg,ac,nb - 1 - k))
     else if (k==0)=true then pure (.done (some (fo a b (out.push x++(b.extract k (nb - 1)).reverse) na k),na,k,out.push x++(b.extract k (nb - 1)).reverse,mg,ac,nb - 1 - k))
     else hD a b (out.push x++(b.extract k (nb - 1)).reverse) na k mg ac (nb - 1 - k))
    else hD a b (out.push x) na (nb - 1) mg ac (nb - 1 - k)
   | _=>pure (.done (some (fo a b (out.push x) na (nb - 1)),na,nb - 1,out.push x,mg,ac,bc))
noncomputable def hB (a b out:Array Keyed) (na nb mg ac bc:Nat):StateT SortSt Sem (ForInStep HS) :=
 dG mg>>=λy=>elem' b (nb - 1)>>=λx=>dW false x a 0 na (na - 1)>>=λz=>match z with
 | some k=>if na - k > 0 then (if (k==0)=true then pure (.done (some (fo a b (out++(a.extract k na).reverse) k nb),k,nb,out++(a.extract k na).reverse,mg,na - k,bc))
   else hC a b (out++(a.extract k na).reverse) k nb mg (na - k) bc)
  else hC a b out na nb mg (na - k) bc
 | _=>pure (.done (some (fo a b out na nb),na,nb,out,mg,ac,bc))
noncomputable abbrev JS:Type:=Option (Array Keyed)×Nat×Nat×Array Keyed×Nat×Nat
noncomputable def Hg (a b:Array Keyed) (mg:Nat) (_:Nat) (c:JS):StateT SortSt Sem (ForInStep JS) :=
 elem' b (c.2.2.1 - 1)>>=λy=>elem' a (c.2.1 - 1)>>=λx=>lt' y x>>=λz=>match z with
 | some t=>if t=true then elem' a (c.2.1 - 1)>>=λv =>
    if (c.2.1 - 1==0)=true then pure (.done (some (fo a b (c.2.2.2.1.push v) (c.2.1 - 1) c.2.2.1),c.2.1 - 1,c.2.2.1,c.2.2.2.1.push v,c.2.2.2.2.1+1,0))
    else if c.2.2.2.2.1+1 >= mg then pure (.done (none,c.2.1 - 1,c.2.2.1,c.2.2.2.1.push v,c.2.2.2.2.1+1,0)) else pure (.yield (none,c.2.1 - 1,c.2.2.1,c.2.2.2.1.push v,c.2.2.2.2.1+1,0))
   else elem' b (c.2.2.1 - 1)>>=λv =>
    if (c.2.2.1 - 1==1)=true then pure (.done (some (jm a b (c.2.2.2.1.push v) c.2.1 (c.2.2.1 - 1)),c.2.1,c.2.2.1 - 1,c.2.2.2.1.push v,0,c.2.2.2.2.2+1))
    else if c.2.2.2.2.2+1 >= mg then pure (.done (none,c.2.1,c.2.2.1 - 1,c.2.2.2.1.push v,0,c.2.2.2.2.2+1)) else pure (.yield (none,c.2.1,c.2.2.1 - 1,c.2.2.2.1.push v,0,c.2.2.2.2.2+1))
 | _=>pure (.done (some (fo a b c.2.2.2.1 c.2.1 c.2.2.1),c.2.1,c.2.2.1,c.2.2.2.1,c.2.2.2.2.1,c.2.2.2.2.2))
noncomputable def Kx (a b:Array Keyed) (_:Nat) (c:HS):StateT SortSt Sem (ForInStep HS) :=
 if c.2.2.2.2.1 > 1 then hB a b c.2.2.2.1 c.2.1 c.2.2.1 (c.2.2.2.2.1 - 1) c.2.2.2.2.2.1 c.2.2.2.2.2.2 else hB a b c.2.2.2.1 c.2.1 c.2.2.1 c.2.2.2.2.1 c.2.2.2.2.2.1 c.2.2.2.2.2.2
noncomputable abbrev QS:Type:=Option (Array Keyed)×Nat×Nat×Array Keyed×Nat
noncomputable def Hi (a b:Array Keyed) (_:Nat) (c:QS):StateT SortSt Sem (ForInStep QS) :=
 forIn [0:a.size+b.size] ((none,c.2.1,c.2.2.1,c.2.2.2.1,0,0):JS) (Hg a b c.2.2.2.2)>>=λd=>match d.1 with
 | some q=>pure (.done (some q,d.2.1,d.2.2.1,d.2.2.2.1,c.2.2.2.2))
 | none=>(liftM (rule "list.sort.gallop"):StateT SortSt Sem Unit)>>=λz=>forIn [0:a.size+b.size] ((none,d.2.1,d.2.2.1,d.2.2.2.1,c.2.2.2.2+1,d.2.2.2.2.1,d.2.2.2.2.2):HS) (Kx a b)>>=λf=>match f.1 with
  | some q=>pure (.done (some q,f.2.1,f.2.2.1,f.2.2.2.1,f.2.2.2.2.1))
  | none=>dG (f.2.2.2.2.1+1)>>=λz=>pure (.yield (none,f.2.1,f.2.2.1,f.2.2.2.1,f.2.2.2.2.1+1))
theorem tw (a b:Array Keyed):oG a b =
  ((liftM (rule "list.sort.merge-hi"):StateT SortSt Sem Unit)>>=λz=>elem' a (a.size - 1)>>=λx =>
   if (a.size - 1==0)=true then pure (fo a b #[x] (a.size - 1) b.size) else if (b.size==1)=true then pure (jm a b #[x] (a.size - 1) b.size)
   else get>>=λs=>forIn [0:a.size+b.size] ((none,a.size - 1,b.size,#[x],gallopOf s):QS) (Hi a b)>>=λc=>match c.1 with
    | some q=>pure q
    | none=>unsupported "internal:list.sort.merge-bound"):=by kernel_rfl
section
variable {r:Keyed->Keyed->Bool} {la lb rb:List Keyed} {a b out:Array Keyed} {na nb k n:Nat}
theorem r4 {n m:Nat} (h0:0<n) (hn:n<=m):n - 1<m:=Ul (WP h0 VA) hn
theorem LY (hn:n<=a.size):(a.toList.take n).length=n:=(UT ..).trans (U4 hn)
theorem ww (a:Array Keyed) (n i:Nat) (hi:i<(a.toList.take n).length):a.toList[0+i]? = some (a.toList.take n)[i]:=by
 rw[V8,X6]
 exact Ue _
theorem Hw (h0:0<n) (hn:n<=a.size):(a.toList.take n).reverse=(a[n - 1]'(r4 h0 hn))::(a.toList.take (n - 1)).reverse:=by
 cases n with
 | zero=>exact absurd h0 (Vq _)
 | succ n =>
  rw[List.take_succ_eq_append_getElem hn,VK]
  rfl
theorem g7 (a:Array Keyed) (n:Nat):(a.extract 0 n).toList=a.toList.take n:=by
 rw[Wx,V1];rfl
theorem Mg.pushHA (h0:0<na) (hn:na<=a.size) (h:Mg r la lb out.toList (a.toList.take na).reverse rb) (hk:∀ y∈rb,r (a[na - 1]'(r4 h0 hn)) y=true):Mg r la lb (out.push (a[na - 1]'(r4 h0 hn))).toList (a.toList.take (na - 1)).reverse rb:=by
 rw[Hw h0 hn] at h
 rw[Xm]
 exact h.addA (p:=[a[na - 1]'(r4 h0 hn)]) λx hx y hy=>by rw[O'.mp hx];exact hk y hy
theorem Mg.extHA (hk:k<=na) (h:Mg r la lb out.toList (a.toList.take na).reverse rb) (hb:∀ x∈(a.toList.take na).drop k,∀ y∈rb,r x y=true):Mg r la lb (out++(a.extract k na).reverse).toList (a.toList.take k).reverse rb:=by
 rw[<-Uy k (a.toList.take na),VK,XZ,U4 hk] at h
 rw[UH,WQ,Wx,V1,<-Zl]
 exact h.addA λx hx=>hb x (Vt.mp hx)
theorem kt (tr:∀ x y z,r x y=true->r y z=true->r x z=true) (h0:0<n) (hn:n<=a.size) (s:jt r (a.toList.take n).reverse) {p:List Keyed} (h:∀ x∈p,r x (a[n - 1]'(r4 h0 hn))=true):un r p (a.toList.take n).reverse:=by
 rw[Hw h0 hn] at s ⊢
 exact At tr s h
structure Dz (r:Keyed->Keyed->Bool) (a b out:Array Keyed) (na nb:Nat):Prop where
 mi:Mg (DF r) a.toList.reverse b.toList.reverse out.toList (a.toList.take na).reverse (b.toList.take nb).reverse
 ha:0<na
 ha':na<=a.size
 hb:1<nb
 hb':nb<=b.size
noncomputable def lJ (r:Keyed->Keyed->Bool) (a b:Array Keyed) (m:Nat) (q:Option (Array Keyed)) (na nb:Nat) (out:Array Keyed):Prop:=match q with
 | some lG=>eg r a.toList b.toList lG.toList
 | none=>Dz r a b out na nb/\m+na+nb<=a.size+b.size
noncomputable def HD (r:Keyed->Keyed->Bool) (a b:Array Keyed):Prop:=∀ y∈b.toList.take 1,∀ x∈a.toList,r y x=true
theorem ri (h:Mg (DF r) a.toList.reverse b.toList.reverse out.toList (a.toList.take na).reverse (b.toList.take nb).reverse) (hn:na=0):eg r a.toList b.toList (fo a b out na nb).toList:=by
 unfold fo
 rw[hn] at h ⊢
 have q:=h.endB.rev
 rw[VK,VU] at q
 rw[UH,UH,g7,g7,WQ]
 exact q
theorem Ik (h:Mg (DF r) a.toList.reverse b.toList.reverse out.toList (a.toList.take na).reverse (b.toList.take nb).reverse) (hn:nb=0):eg r a.toList b.toList (fo a b out na nb).toList:=by
 unfold fo
 rw[hn] at h ⊢
 have q:=h.endA.rev
 rw[VK,VU] at q
 rw[UH,UH,g7,g7,WQ,Xo,Uu]
 exact q
theorem rj (first:HD r a b) (h:Mg (DF r) a.toList.reverse b.toList.reverse out.toList (a.toList.take na).reverse (b.toList.take nb).reverse) (hn:nb=1):eg r a.toList b.toList (jm a b out na nb).toList:=by
 unfold jm
 have q:=(h.swap.endBA λx hx y hy=>first y (by rw[hn] at hy;exact Vt.mp hy) x (UB (Vt.mp hx))).swap.rev
 rw[VK,VK,VU,VU] at q
 rw[UH,UH,g7,g7,WQ]
 exact q
theorem Qc {m n p q:Nat} (h0:0<n) (h:m+n+p<=q):m+1+(n - 1)+p<=q:=by
 rw[Vg m,V9 1,WF h0];exact h
theorem Qd {m n p q:Nat} (h0:0<p) (h:m+n+p<=q):m+1+n+(p - 1)<=q:=by
 rw[Wl m,Vg (m+n),V9 1,WF h0];exact h
theorem NQ {m n n' p p' q:Nat} (hn:n'<=n) (hp:p'<=p) (h:m+n+p<=q):m+n'+p'<=q:=B' (VY (VJ hn m) hp) h
theorem tz {m i j x:Nat} {C:Prop} (ha:0<i) (hz:m+max 0 x+i+j<=x):C:=by
 rw[VD (UJ _)] at hz
 exact absurd (Ul (Ul (Yi ha) (U6 (Zh x m) i)) (B' (UA _ j) hz)) (Vq _)
end
section
variable {prog:Program} {w:World} {A:Around} {E:Value->Shared->Prop} {s:Shared} {r:Keyed->Keyed->Bool} {kd:SortKind} {a b out:Array Keyed} {na nb mg ac bc m:Nat} {st:SortSt} {P:ForInStep HS->SortSt->Prop}
theorem MC.trF {X Y:List Keyed} (M:MC prog w A E s r kd X Y) (x y z:Keyed) (h:DF r x y=true) (h':DF r y z=true):DF r x z=true:=M.trans z y x h' h
theorem Dr (I:Dz r a b out na nb) (hc:∀ x∈b.toList.take nb,r x (a[na - 1]'(r4 I.ha I.ha'))=true) (hm:m+(na - 1)+nb<=a.size+b.size) (hd:∀ c:HS,lJ r a b m c.1 c.2.1 c.2.2.1 c.2.2.2.1->P (.done c) st) (hy:∀ c:HS,c.1=none->lJ r a b m c.1 c.2.1 c.2.2.1 c.2.2.2.1->P (.yield c) st) :
  wpS (model prog w) A E s (hD a b out na nb mg ac bc) P st:=by
 have h1:=I.mi.pushHA I.ha I.ha' λy hy=>hc y (Vt.mp hy)
 refine wpS_bind (bD (r4 I.ha I.ha') (bL (λh2=>wpS_pure (hd _ (ri h1 h2))) λh2=>?_))
 have I':Dz r a b (out.push (a[na - 1]'(r4 I.ha I.ha'))) (na - 1) nb:=⟨h1,VQ h2,UD (r4 I.ha I.ha'),I.hb,I.hb'⟩
 exact cg (λz=>wpS_pure (hd _ ⟨I',hm⟩)) λz=>wpS_pure (hy _ rfl ⟨I',hm⟩)
theorem Dq (M:MC prog w A E s r kd a.toList b.toList) (first:HD r a b) (lV:kindOf st=kd) (I:Dz r a b out na nb) (hc:∀ x∈a.toList.take na,r x (b[nb - 1]'(r4 (UY I.hb) I.hb'))=true) (hm:m+na+nb<=a.size+b.size) (hd:∀ c:HS,lJ r a b m c.1 c.2.1 c.2.2.1 c.2.2.2.1->P (.done c) st) (hy:∀ c:HS,c.1=none->lJ r a b m c.1 c.2.1 c.2.2.1 c.2.2.2.1->P (.yield c) st) :
  wpS (model prog w) A E s (hC a b out na nb mg ac bc) P st:=by
 have u9:0<nb:=UY I.hb
 have m5:=r4 I.ha I.ha'
 have vc:nb - 1<=b.size:=UD (r4 u9 I.hb')
 have h1:=(I.mi.swap.pushHA u9 I.hb' λy hy=>hc y (Vt.mp hy)).swap
 refine wpS_bind (bD (r4 u9 I.hb') (bL (λh2=>wpS_pure (hd _ (rj first h1 h2))) λh2=>wpS_bind (bD m5 ?_)))
 have hp:0<nb - 1:=VX I.hb
 refine wpS_bind (M.gY (λy hy=>UB hy) (M.sY.sublist (Wy _ _)) (LY vc) (ww b _) (m6 m5) (WP hp VA) lV λk hk g1 g2=>?_)
 rw[XZ,U4 hk] at g1
 refine cg (λj=>?_) λjH=>?_
 ·have h3:=(h1.swap.extHA hk λx hx=>kt M.trF I.ha I.ha' h1.srtA (p:=[x]) (λz hz=>by rw[O'.mp hz];exact g2 x hx) x z').swap
  refine bL (λh4=>wpS_pure (hd _ (rj first h3 h4))) λh4=>bL (λh5=>wpS_pure (hd _ (Ik h3 h5))) λh5=>?_
  exact Dr ⟨h3,I.ha,I.ha',U5 (VQ h5) (Ne.symm h4),B' hk vc⟩ g1 (NQ (VG _ _) (B' hk (VG _ _)) hm) hd hy
 ·have e:k=nb - 1:=U3 hk (Xx (Wh jH))
  rw[e] at g1
  exact Dr ⟨h1,I.ha,I.ha',U5 hp (Ne.symm h2),vc⟩ g1 (NQ (VG _ _) (VG _ _) hm) hd hy
theorem Dp (M:MC prog w A E s r kd a.toList b.toList) (first:HD r a b) (lV:kindOf st=kd) (I:Dz r a b out na nb) (hm:m+na+nb<=a.size+b.size) (hd:∀ (c:HS) st',bC st st'->lJ r a b m c.1 c.2.1 c.2.2.1 c.2.2.2.1->P (.done c) st') (hy:∀ (c:HS) st',bC st st'->c.1=none->lJ r a b m c.1 c.2.1 c.2.2.1 c.2.2.2.1->P (.yield c) st') :
  wpS (model prog w) A E s (hB a b out na nb mg ac bc) P st:=by
 have u9:0<nb:=UY I.hb
 have rk:=r4 u9 I.hb'
 have hs:bC st (SortSt.mk' (kindOf st) (arrOf st) (pendingOf st) mg (failedOf st)):=⟨rfl,rfl,rfl,rfl⟩
 refine wpS_bind ?_
 rw[du]
 refine wpS_modify (wpS_bind (bD rk ?_))
 refine wpS_bind (M.gX (st:=SortSt.mk' (kindOf st) (arrOf st) (pendingOf st) mg (failedOf st)) (λy hy=>UB hy) (M.sX.sublist (Wy _ _)) (LY I.ha') (ww a _) (m6 rk) (WP I.ha VA) lV λk hk g1 g2=>?_)
 rw[XZ,U4 hk] at g1
 refine cg (λj=>?_) λjH=>?_
 ·have h3:=I.mi.extHA hk λx hx=>kt M.trF u9 I.hb' I.mi.srtB (p:=[x]) (λz hz=>by rw[O'.mp hz];exact g2 x hx) x z'
  exact bL (λh4=>wpS_pure (hd _ _ hs (ri h3 h4))) λh4=>Dq M first lV ⟨h3,VQ h4,B' hk I.ha',I.hb,I.hb'⟩ g1 (NQ hk (Un _) hm) (λc=>hd c _ hs) λc=>hy c _ hs
 ·have e:k=na:=U3 hk (Xx (Wh jH))
  rw[e] at g1
  exact Dq M first lV I g1 hm (λc=>hd c _ hs) λc=>hy c _ hs
theorem zM (M:MC prog w A E s r kd a.toList b.toList) (first:HD r a b) (lV:kindOf st=kd) {y:Nat} {c:JS} (I:Dz r a b c.2.2.2.1 c.2.1 c.2.2.1) (hm:m+c.2.1+c.2.2.1<=a.size+b.size) {P:ForInStep JS->SortSt->Prop} (hd:∀ c:JS,lJ r a b (m+1) c.1 c.2.1 c.2.2.1 c.2.2.2.1->P (.done c) st) (hy:∀ c:JS,c.1=none->lJ r a b (m+1) c.1 c.2.1 c.2.2.1 c.2.2.2.1->P (.yield c) st) :
  wpS (model prog w) A E s (Hg a b mg y c) P st:=by
 have u9:0<c.2.2.1:=UY I.hb
 have m5:=r4 I.ha I.ha'
 have rk:=r4 u9 I.hb'
 refine wpS_bind (bD rk (wpS_bind (bD m5 (wpS_bind (M.cmp _ (m6 m5) _ (m6 rk) _ _ lV ?_)))))
 cases hr:r b[c.2.2.1 - 1] a[c.2.1 - 1] with
 | true =>
  have h2:=I.mi.pushHA I.ha I.ha' λx hx=>kt M.trF u9 I.hb' I.mi.srtB (p:=[a[c.2.1 - 1]]) (λz hz=>by rw[O'.mp hz];exact hr) _ z' x hx
  refine cj rfl (wpS_bind (bD m5 (bL (λh3=>wpS_pure (hd _ (ri h2 h3))) λh3=>?_)))
  have I':Dz r a b (c.2.2.2.1.push a[c.2.1 - 1]) (c.2.1 - 1) c.2.2.1:=⟨h2,VQ h3,UD m5,I.hb,I.hb'⟩
  exact cg (λk=>wpS_pure (hd _ ⟨I',Qc I.ha hm⟩)) λk=>wpS_pure (hy _ rfl ⟨I',Qc I.ha hm⟩)
 | false =>
  have hr:=M.tot _ (m6 m5) _ (m6 rk) hr
  have h2:=(I.mi.swap.pushHA u9 I.hb' λx hx=>kt M.trF I.ha I.ha' I.mi.srtA (p:=[b[c.2.2.1 - 1]]) (λz hz=>by rw[O'.mp hz];exact hr) _ z' x hx).swap
  refine bM Uq (wpS_bind (bD rk (bL (λh3=>wpS_pure (hd _ (rj first h2 h3))) λh3=>?_)))
  have I':Dz r a b (c.2.2.2.1.push b[c.2.2.1 - 1]) c.2.1 (c.2.2.1 - 1):=⟨h2,I.ha,I.ha',U5 (VX I.hb) (Ne.symm h3),UD rk⟩
  exact cg (λk=>wpS_pure (hd _ ⟨I',Qd u9 hm⟩)) λk=>wpS_pure (hy _ rfl ⟨I',Qd u9 hm⟩)
theorem zO (M:MC prog w A E s r kd a.toList b.toList) (first:HD r a b) (lV:kindOf st=kd) {x:Nat} {c:QS} (I:Dz r a b c.2.2.2.1 c.2.1 c.2.2.1) (hm:m+c.2.1+c.2.2.1<=a.size+b.size) {P:ForInStep QS->SortSt->Prop} (hd:∀ q na nb out mg st',bC st st'->eg r a.toList b.toList (XO q)->P (.done (some q,na,nb,out,mg)) st')
  (hy:∀ na nb out mg st',bC st st'->Dz r a b out na nb->m+1+na+nb<=a.size+b.size->P (.yield (none,na,nb,out,mg)) st'):wpS (model prog w) A E s (Hi a b x c) P st:=by
 refine wpS_bind (wpS_mono (wpS_forRange (I:=λy (d:JS) st'=>st'=st/\d.1=none/\lJ r a b (m+y) d.1 d.2.1 d.2.2.1 d.2.2.2.1) (Q:=λ(d:JS) st'=>st'=st/\lJ r a b (m+1) d.1 d.2.1 d.2.2.1 d.2.2.2.1) (λy d st' z hy q=>?_) (λd st' q=>?_) ⟨rfl,rfl,I,hm⟩) λd st' q=>?_)
 ·rw[q.1]
  have q2:=q.2.2
  rw[q.2.1] at q2
  refine zM M first lV q2.1 q2.2 (λc o=>⟨rfl,?_⟩) λc e o=>⟨rfl,e,o⟩
  rcases c with ⟨_ | lG,c⟩
  ·exact⟨o.1,B' (U6 (U6 (U8 (UA m y)) _) _) o.2⟩
  ·exact o
 ·have q2:=q.2.2
  rw[q.2.1] at q2
  exact tz q2.1.ha q2.2
 ·rw[q.1]
  have q2:=q.2
  rcases d with ⟨_ | lG,d⟩
  ·refine wpS_bind (wpS_lift (wpAny_rule ⟨rfl,?_⟩))
   refine wpS_bind (wpS_mono (wpS_forRange (I:=λy (f:HS) st'=>bC st st'/\f.1=none/\lJ r a b (m+1) f.1 f.2.1 f.2.2.1 f.2.2.2.1) (Q:=λ(f:HS) st'=>bC st st'/\lJ r a b (m+1) f.1 f.2.1 f.2.2.1 f.2.2.2.1) (λy f st' z hy q=>?_) (λf st' q=>⟨q.1,q.2.2⟩) ⟨bC.refl _,rfl,q2⟩) λf st' q=>?_)
   ·have q2:=q.2.2
    rw[q.2.1] at q2
    have hk:=q.1.k.trans lV
    exact cg (λz=>Dp M first hk q2.1 q2.2 (λc cK hs o=>⟨q.1.trans hs,o⟩) λc cK hs e o=>⟨q.1.trans hs,e,o⟩) λz=>Dp M first hk q2.1 q2.2 (λc cK hs o=>⟨q.1.trans hs,o⟩) λc cK hs e o=>⟨q.1.trans hs,e,o⟩
   ·have q2:=q.2
    rcases f with ⟨_ | lG,f⟩
    ·refine wpS_bind ?_
     rw[du]
     exact wpS_modify (wpS_pure (hy _ _ _ _ _ (q.1.trans ⟨rfl,rfl,rfl,rfl⟩) q2.1 q2.2))
    ·exact wpS_pure (hd _ _ _ _ _ _ q.1 q2)
  ·exact wpS_pure (hd _ _ _ _ _ _ (bC.refl _) q2)
theorem ui {Q:Array Keyed->SortSt->Prop} (M:MC prog w A E s r kd a.toList b.toList) (first:HD r a b) (JK:0<a.size) (Ln:0<b.size) (fu:∀ y∈b.toList,r y (a[a.size - 1]'(r4 JK (Un _)))=true) (lV:kindOf st=kd)
  (h:∀ lG st',bC st st'->eg r a.toList b.toList lG.toList->Q lG st'):wpS (model prog w) A E s (oG a b) Q st:=by
 rw[tw]
 refine wpS_bind (wpS_lift (wpAny_rule ⟨rfl,wpS_bind (bD (r4 JK (Un _)) ?_)⟩))
 have ta:∀ a:Array Keyed,a.toList.take a.size=a.toList:=λa=>Xl (Un _)
 have h0:Mg (DF r) a.toList.reverse b.toList.reverse (#[]:Array Keyed).toList (a.toList.take a.size).reverse (b.toList.take b.size).reverse:=by
  rw[ta,ta]
  exact⟨xG M.sX,xG M.sY,List.Perm.refl _⟩
 have h1:=h0.pushHA JK (Un _) λy hy=>fu y (UB (Vt.mp hy))
 refine bL (λIb=>wpS_pure (h _ _ (bC.refl _) (ri h1 Ib))) λIb=>bL (λvc=>wpS_pure (h _ _ (bC.refl _) (rj first h1 vc))) λvc=>wpS_bind (wpS_get ?_)
 refine wpS_bind (wpS_mono (wpS_forRange (I:=λx (c:QS) st'=>bC st st'/\c.1=none/\lJ r a b (1+x) c.1 c.2.1 c.2.2.1 c.2.2.2.1) (Q:=λ(c:QS) st'=>bC st st'/\∃ q,c.1=some q/\eg r a.toList b.toList q.toList) (λx c st' z hx q=>?_) (λc st' q=>?_) ⟨bC.refl _,rfl,⟨h1,VQ Ib,VG _ _,U5 Ln (Ne.symm vc),Un _⟩,?_⟩) λc st' q=>?_)
 ·have q2:=q.2.2
  rw[q.2.1] at q2
  exact zO M first (q.1.k.trans lV) q2.1 q2.2 (λlG na nb out mg cK hs e=>⟨q.1.trans hs,_,rfl,e⟩) λna nb out mg cK hs I hm=>⟨q.1.trans hs,rfl,I,hm⟩
 ·have q2:=q.2.2
  rw[q.2.1] at q2
  exact tz q2.1.ha q2.2
 ·show 1+0+(a.size - 1)+b.size<=a.size+b.size
  rw[V9 (1+0),WF JK]
  exact Un _
 ·refine N' q.2 λlG e=>?_
  rw[e.1]
  exact wpS_pure (h _ _ q.1 e.2)
end
noncomputable def wx (p:Nat) (q:Array Keyed):StateT SortSt Sem Bool :=
 (modify λs=>setArr s (List.foldl (λa (x:Keyed×Nat)=>a.setIfInBounds (p+x.snd) x.fst) (arrOf s) q.toList.zipIdx))>>=λz=>get>>=λs=>pure (failedOf s).isNone
noncomputable def Hr (s:SortSt) (sa na sb nb:Nat):StateT SortSt Sem Bool :=
 elem' (arrOf s) sb>>=λy=>dW false y (arrOf s) sa na 0>>=λz=>match z with
 | some k=>if (na - k==0)=true then pure true
  else elem' (arrOf s) (sa+k+(na - k) - 1)>>=λx=>dW true x (arrOf s) sb nb (nb - 1)>>=λz=>match z with
   | some n=>if (n==0)=true then pure true
    else if na - k<=n then oH ((arrOf s).extract (sa+k) sb) ((arrOf s).extract sb (sb+n))>>=wx (sa+k)
    else oG ((arrOf s).extract (sa+k) sb) ((arrOf s).extract sb (sb+n))>>=wx (sa+k)
   | _=>pure false
 | _=>pure false
theorem tv {i sa na pw sb nb pw2:Nat} {st:SortSt} (hi:(pendingOf st)[i]? = some (sa,na,pw)) (hj:(pendingOf st)[i+1]? = some (sb,nb,pw2)) {prog:Program} {w:World} {A:Around} {E:Value->Shared->Prop} {s:Shared} {Q:Bool->SortSt->Prop}
  (h:wpS (model prog w) A E s (Hr st sa na sb nb) Q (setPending st (((pendingOf st).setIfInBounds i (sa,na+nb,pw)).eraseIdxIfInBounds (i+1)))):wpS (model prog w) A E s (mergeAt' i) Q st:=by
 have e:mergeAt' i=(get>>=λs=>match (pendingOf s)[i]?,(pendingOf s)[i+1]? with
  | some (sa,na,pw),some (sb,nb,_)=>set (setPending s (((pendingOf s).setIfInBounds i (sa,na+nb,pw)).eraseIdxIfInBounds (i+1)))>>=λz=>Hr s sa na sb nb
  | _,_=>unsupported "internal:list.sort.pending"):=by kernel_rfl
 rw[e]
 refine wpS_bind (wpS_get ?_)
 rw[hi,hj]
 refine wpS_bind ?_
 unfold wpS
 rw[StateT.run_set]
 exact wpAny_pure ⟨rfl,h⟩
theorem wi (q:Nat) (l:List Keyed) {T l' P:List Keyed} {n:Nat} {arr:Array Keyed} (e:arr.toList=P++(l'++T)) (hP:P.length=q+n) (hl:l.length=l'.length):((l.zipIdx n).foldl (λa (x:Keyed×Nat)=>a.setIfInBounds (q+x.2) x.1) arr).toList=P++(l++T):=by
 induction l generalizing l' P n arr with
 | nil =>
  rw[Vy.mp hl.symm] at e
  exact e
 | cons x l ih =>
  cases l' with
  | nil=>exact nomatch hl
  | cons y l' =>
   rw[Xz,Wd,ih (P:=P++[x]) (l':=l') ?_ ?_ (Yd.inj hl),Uf];rfl
   ·rw[X0,e,<-hP,WJ _ _ (Un _),Wg,Uf];rfl
   ·rw[Ud,hP];rfl
section
variable {r:Keyed->Keyed->Bool} {X Y T P PH:List Keyed} {k n:Nat}
theorem vJ (sX:jt r X) (sY:jt r Y) (h1:un r (X.take k) Y) (h2:un r X (Y.drop n)) (hm:eg r (X.drop k) (Y.take n) PH):eg r X Y (X.take k++(PH++Y.drop n)):=by
 have eX:=Uy k X
 have eY:=Uy n Y
 have a:=bW.mp (show jt r (X.take k++X.drop k) by rw[eX];exact sX)
 have b:=bW.mp (show jt r (Y.take n++Y.drop n) by rw[eY];exact sY)
 have py:∀ z∈PH,z∈X.drop k\/z∈Y.take n:=λz hz=>Uk.mp (hm.pm.mem_iff.mp hz)
 refine⟨bW.mpr ⟨a.1,bW.mpr ⟨hm.so,b.2.1,λx hx y hy=>?_⟩,λx hx z hz=>?_⟩,?_⟩
 ·exact Ug (py x hx) (λh=>h2 x (UW h) y hy) λh=>b.2.2 x h y hy
 ·refine Ug (Uk.mp hz) (λhz=>?_) λhz=>h1 x hx z (UW hz)
  exact Ug (py z hz) (λh=>a.2.2 x hx z h) λh=>h1 x hx z (UB h)
 ·refine ((hm.pm.append_right _).append_left _).trans ?_
  rw[Uf,eY,<-Uf,eX]
theorem fP {l:List Keyed} (e:l=P++(X++T)) (hP:P.length=n) (i:Nat) (hi:i<X.length):l[n+i]? = some X[i]:=by
 rw[e,<-hP,Ux (UA _ _),U0,Ut hi,Ue hi]
theorem Ea (tr:∀ x y z,r x y=true->r y z=true->r x z=true) (s:jt r Y) (h0:0<Y.length) (h:∀ x∈P,r x Y[0]=true):un r P Y:=by
 cases Y with
 | nil=>exact nomatch h0
 | cons y Y=>exact At tr s h
theorem yT (h0:0<Y.length) {y:Keyed} (h:y∈Y.take (min 1 n)):y=Y[0]:=by
 cases Y with
 | nil=>exact nomatch h0
 | cons z Y=>exact O'.mp ((List.take_sublist_take_left (Wp 1 n)).subset h)
theorem p6 {l:List Keyed} (h:l.length - 1<l.length):l.drop (l.length - 1)=[l[l.length - 1]]:=by
 rw[Vm h,WF (UR (UJ _) h),XA]
theorem t4 (tr:∀ x y z,r x y=true->r y z=true->r x z=true) (s:jt r X) (h:X.length - 1<X.length) {l:List Keyed} (g:∀ y∈l,r X[X.length - 1] y=true):un r X l:=λx hx y hy=>by
 have q:=bW.mp (show jt r (X.take (X.length - 1)++X.drop (X.length - 1)) by rw[Uy];exact s)
 have hx:x∈X.take (X.length - 1)++X.drop (X.length - 1):=by rw[Uy];exact hx
 rw[p6 h] at q hx
 refine Ug (Uk.mp hx) (λhx=>tr _ _ _ (q.2.2 x hx _ z') (g y hy)) λhx=>?_
 rw[O'.mp hx];exact g y hy
theorem wO {arr:Array Keyed} {i j:Nat} (e:arr.toList=P++(X++T)) (hi:i=P.length) (hj:j=P.length+X.length):(arr.extract i j).toList=X:=by
 rw[Wx,V1,e,hi,hj,List.drop_left,U0,List.take_left]
end
section
variable {prog:Program} {w:World} {A:Around} {E:Value->Shared->Prop} {s:Shared} {r:Keyed->Keyed->Bool} {st:SortSt}
theorem Dk {k n sa:Nat} {P X Y T:List Keyed} {lG:Array Keyed} {Q:Bool->SortSt->Prop} (e:(arrOf st).toList=P++(X++(Y++T))) (hP:P.length=sa) (hk:k<=X.length) (hE:eg r (X.drop k) (Y.take n) lG.toList) (hf:failedOf st=none)
  (h:∀ arr,arr.toList=P++((X.take k++(lG.toList++Y.drop n))++T)->Q true (setArr st arr)):wpS (model prog w) A E s (wx (sa+k) lG) Q st:=by
 have hw:=wi (sa+k) lG.toList (T:=Y.drop n++T) (l':=X.drop k++Y.take n) (P:=P++X.take k) (n:=0) (arr:=arrOf st) (by
  rw[e,Uf P,Uf (X.drop k),<-Uf (X.take k),Uy,<-Uf (Y.take n),Uy]) (by rw[Ud,hP,UT,U4 hk];rfl) hE.pm.length_eq
 refine wpS_bind (wpS_modify (wpS_bind (wpS_get (wpS_pure ?_))))
 show Q (failedOf st).isNone _
 rw[hf]
 refine h _ (hw.trans ?_)
 rw[Uf,Uf,Uf]
theorem uh {i sa pw pw2:Nat} {P X Y T:List Keyed} {Q:Bool->SortSt->Prop} (hi:(pendingOf st)[i]? = some (sa,X.length,pw)) (hj:(pendingOf st)[i+1]? = some (sa+X.length,Y.length,pw2))
  (e:(arrOf st).toList=P++(X++(Y++T))) (hP:P.length=sa) (hX:0<X.length) (hY:0<Y.length) (M:MC prog w A E s r (kindOf st) X Y) (hf:failedOf st=none)
  (h:∀ ZG st',eg r X Y ZG->kindOf st'=kindOf st->(arrOf st').toList=P++(ZG++T)->pendingOf st'=((pendingOf st).setIfInBounds i (sa,X.length+Y.length,pw)).eraseIdxIfInBounds (i+1)->failedOf st'=none->Q true st') :
  wpS (model prog w) A E s (mergeAt' i) Q st:=by
 refine tv hi hj ?_
 have MQ:X.length - 1<X.length:=WP hX VA
 have e2:(arrOf st).toList=(P++X)++(Y++T):=by rw[e,Uf]
 have N9:(P++X).length=sa+X.length:=by rw[Ud,hP]
 have eX:=fP e hP
 have eY:=fP e2 N9
 refine wpS_bind (hG (eY 0 hY) ?_)
 have same:un r X Y->Q true (setPending st (((pendingOf st).setIfInBounds i (sa,X.length+Y.length,pw)).eraseIdxIfInBounds (i+1))):=λM3=>h (X++Y) _ ⟨bW.mpr ⟨M.sX,M.sY,M3⟩,List.Perm.refl _⟩ rfl (by rw[Uf];exact e) rfl hf
 refine wpS_bind (M.gX (st:=setPending st (((pendingOf st).setIfInBounds i (sa,X.length+Y.length,pw)).eraseIdxIfInBounds (i+1))) (λx hx=>hx) M.sX rfl eX (UF hY) hX rfl λk hk g1 g2=>?_)
 have Oc:un r (X.take k) Y:=Ea M.trans M.sY hY g1
 refine bL (λhz=>wpS_pure (same ?_)) λhz=>?_
 ·rw[Xl (Xx hz)] at Oc;exact Oc
 have Aa:k<X.length:=Nat.lt_of_sub_pos (VQ hz)
 have ei:sa+k+(X.length - k) - 1=sa+(X.length - 1):=by rw[Vg,VZ hk,WL hX]
 refine wpS_bind (hG (x:=X[X.length - 1]) (by rw[ei];exact eX _ MQ) ?_)
 refine wpS_bind (M.gY (st:=setPending st (((pendingOf st).setIfInBounds i (sa,X.length+Y.length,pw)).eraseIdxIfInBounds (i+1))) (λy hy=>hy) M.sY rfl eY (UF MQ) (WP hY VA) rfl λn hn g3 g4=>?_)
 have Od:un r X (Y.drop n):=t4 M.trans M.sX MQ g4
 refine bL (λDM=>wpS_pure (same ?_)) λDM=>?_
 ·rw[DM] at Od;exact Od
 have ex:((arrOf st).extract (sa+k) (sa+X.length)).toList=X.drop k:=wO (P:=P++X.take k) (T:=Y++T) (by rw[e,Uf,<-Uf (X.take k),Uy]) (by rw[Ud,hP,UT,U4 hk]) (by rw[Ud,hP,UT,U4 hk,VE,Vg,VZ hk])
 have ey:((arrOf st).extract (sa+X.length) (sa+X.length+n)).toList=Y.take n:=wO (P:=P++X) (T:=Y.drop n++T) (by rw[e2,<-Uf (Y.take n),Uy]) N9.symm (by rw[N9,UT,U4 hn])
 generalize (arrOf st).extract (sa+k) (sa+X.length)=xa at ex
 generalize (arrOf st).extract (sa+X.length) (sa+X.length+n)=ya at ey
 have sx:xa.size=X.length - k:=by rw[<-UO,ex,VE]
 have sy:ya.size=n:=by rw[<-UO,ey,UT,U4 hn]
 have M2:MC prog w A E s r (kindOf st) xa.toList ya.toList:=by
  rw[ex,ey]
  exact⟨λx hx y hy=>M.cmp x (UW hx) y (UB hy),M.trans,M.asym,λx hx y hy=>M.tot x (UW hx) y (UB hy),M.sX.sublist (List.drop_sublist _ _),M.sY.sublist (Wy _ _)⟩
 have fu:F5 r xa ya:=λy hy x hx=>by
  rw[ey] at hy
  rw[ex,sx,Xn,<-WL (VX Aa),VZ hk,p6 MQ] at hx
  rw[O'.mp hx];exact g3 y hy
 have first:HD r xa ya:=λy hy x hx=>by
  rw[ex] at hx
  rw[ey,XZ] at hy
  rw[yT hY hy];exact g2 x hx
 have Pe:0<xa.size:=by rw[sx];exact VX Aa
 have Pf:0<ya.size:=by rw[sy];exact VQ DM
 have Dc:∀ (lG:Array Keyed) (cK:SortSt),bC (setPending st (((pendingOf st).setIfInBounds i (sa,X.length+Y.length,pw)).eraseIdxIfInBounds (i+1))) cK->eg r xa.toList ya.toList lG.toList->wpS (model prog w) A E s (wx (sa+k) lG) Q cK:=λlG cK hs hE=>by
  rw[ex,ey] at hE
  exact Dk ((congrArg XO hs.a).trans e) hP hk hE (hs.f.trans hf) λarr ea=>h _ _ (vJ M.sX M.sY Oc Od hE) hs.k ea hs.p (hs.f.trans hf)
 exact cg (λz=>wpS_bind (uj M2 fu Pe Pf (λx hx=>first _ (by rw[<-Zm (l:=ya.toList),wJ Pf];exact z') x hx) rfl Dc)) λz=>wpS_bind (ui M2 first Pe Pf (λy hy=>fu y hy _ (by rw[wJ (WP Pe VA)];exact z')) rfl Dc)
end
noncomputable def rr (blt:Keyed->Keyed->Bool) (ord:Keyed->Nat) (x y:Keyed):Bool:=blt x y||(!blt y x&&decide (ord x<ord y))
structure SO (prog:Program) (w:World) (A:Around) (E:Value->Shared->Prop) (s:Shared) (blt:Keyed->Keyed->Bool) (kd:SortKind) (U:Keyed->Prop):Prop where
 cmp:∀ x y,U x->U y->∀ (st:SortSt) (Q:Option Bool->SortSt->Prop),kindOf st=kd->Q (some (blt x y)) st->wpS (model prog w) A E s (lt' x y) Q st
 asym:∀ x y,blt x y=true->blt y x=false
 trans:∀ x y z,blt x y=true->blt y z=true->blt x z=true
 neg:∀ x y z,blt x z=true->blt x y=true\/blt y z=true
section
variable {prog:Program} {w:World} {A:Around} {E:Value->Shared->Prop} {s:Shared} {blt:Keyed->Keyed->Bool} {ord:Keyed->Nat} {kd:SortKind} {U:Keyed->Prop} {st:SortSt}
theorem de {x y:Keyed}:rr blt ord x y=true↔blt x y=true\/(blt y x=false/\ord x<ord y):=by
 unfold rr
 rw[Vn,Uv,Vh,decide_eq_true_eq]
theorem fe {u v:Keyed} (h:ord v<ord u):rr blt ord u v=blt u v:=by
 unfold rr
 rw[decide_eq_false (by exact λq0=>zI (y2 0x1c080811b1011b01 rfl (iT h) (iT q0))),Xp,XD]
theorem rI {u v:Keyed} (h:ord v<ord u) (hf:rr blt ord u v=false):rr blt ord v u=true:=by
 rw[fe h] at hf
 exact de.mpr (.inr ⟨hf,h⟩)
theorem SO.rasym (S:SO prog w A E s blt kd U) (x y:Keyed) (h:rr blt ord x y=true):rr blt ord y x=false:=by
 cases h2:rr blt ord y x with
 | false=>rfl
 | true =>
  refine Ug (de.mp h) (λh=>?_) (λq=>aR q λh h'=>?_)
  ·refine Ug (de.mp h2) (λg=>?_) (λq=>aR q λg g'=>?_)
   ·rw[S.asym _ _ h] at g;exact nomatch g
   ·rw[h] at g;exact nomatch g
  ·refine Ug (de.mp h2) (λg=>?_) (λq=>aR q λg g'=>?_)
   ·rw[h] at g;exact nomatch g
   ·exact absurd g' (Nat.lt_asymm h')
theorem SO.rtrans (S:SO prog w A E s blt kd U) (x y z:Keyed) (h:rr blt ord x y=true) (h2:rr blt ord y z=true):rr blt ord x z=true:=by
 refine Ug (de.mp h) (λh=>?_) (λq=>aR q λh h'=>?_)
 ·refine Ug (de.mp h2) (λg=>?_) (λq=>aR q λg g'=>?_)
  ·exact de.mpr (.inl (S.trans _ _ _ h g))
  ·refine Ug (S.neg x z y h) (λq=>?_) (λq=>?_)
   ·exact de.mpr (.inl q)
   ·rw[g] at q;exact nomatch q
 ·refine Ug (de.mp h2) (λg=>?_) (λq=>aR q λg g'=>?_)
  ·refine Ug (S.neg y x z g) (λq=>?_) (λq=>?_)
   ·rw[h] at q;exact nomatch q
   ·exact de.mpr (.inl q)
  ·refine de.mpr (.inr ⟨?_,Ww h' g'⟩)
   cases q:blt z x with
   | false=>rfl
   | true =>
    refine Ug (S.neg z y x q) (λq=>?_) (λq=>?_)
    ·rw[g] at q;exact nomatch q
    ·rw[h] at q;exact nomatch q
theorem zw {B T:List Keyed} {u v:Keyed} {arr:Array Keyed} {i j:Nat} (e:arr.toList=B++(u::v::T)) (hj:j=B.length) (hi:i=j+1):(arr.swapIfInBounds i j).toList=B++(v::u::T):=by
 have dZ:arr.size=B.length+(T.length+1+1):=by rw[<-UO,e,Ud];rfl
 have h1:i<arr.size:=by rw[dZ,hi,hj];exact Nat.add_lt_add_left (WY (Xq _)) _
 have h2:j<arr.size:=by rw[dZ,hj];exact Yi (Xq _)
 have g1:arr[i]=v:=by
  have:arr.toList[i]? = some v:=by rw[e,hi,hj,Ux (UA _ 1),U0];rfl
  rw[Vd,Wo h1] at this
  exact Option.some.inj this
 have g2:arr[j]=u:=by
  have:arr.toList[j]? = some u:=by rw[e,hj,Ux (Un _),Wg];rfl
  rw[Vd,Wo h2] at this
  exact Option.some.inj this
 unfold Array.swapIfInBounds
 rw[dif_pos h1,dif_pos h2,Array.toList_swap,g1,g2,e,hi,hj,WJ _ _ (UA _ 1),U0,WJ _ _ (Un _),Wg]
 rfl
theorem sf {R T:List Keyed} {x:Keyed} {arr:Array Keyed}:∀ {B:List Keyed},arr.toList=B++(R++(x::T))->(bubble arr (B.length+R.length) R.length).toList=B++(x::(R++T)):=by
 induction R with
 | nil=>exact λe=>e
 | cons z R ih =>
  intro B e
  have h:=ih (B:=B++[z]) (by rw[e,Uf];rfl)
  rw[Ud,Vg,V9 [z].length,Uf] at h
  rw[show (z::R).length=R.length+1 from rfl,bubble_succ]
  refine zw h ?_ ?_
  ·rw[<-Vg,Wl,WG,WG]
  ·rw[<-Vg,Wl,WG,WG]
structure cw (st st':SortSt):Prop where
 k:kindOf st'=kindOf st
 p:pendingOf st'=pendingOf st
 f:failedOf st'=failedOf st
theorem cw.refl (st:SortSt):cw st st:=⟨rfl,rfl,rfl⟩
structure fi (blt:Keyed->Keyed->Bool) (ord:Keyed->Nat) (P R T ZG R':List Keyed) (n:Nat) (arr:List Keyed):Prop where
 arr:arr=P++(ZG++(R'++T))
 len:ZG.length=n
 so:jt (rr blt ord) ZG
 pm:(ZG++R').Perm R
 bf:∀ x∈ZG,∀ y∈R',ord x<ord y
 asc:R'.Pairwise λx y=>ord x<ord y
noncomputable abbrev BS:Type:=Option Bool×Nat×Nat
noncomputable def Kl (lo k:Nat) (_:Nat) (c:BS):StateT SortSt Sem (ForInStep BS) :=
 if c.2.1 >= c.2.2 then pure (.done (none,c.2.1,c.2.2)) else ltAt' (lo+k) (lo+(c.2.1+c.2.2) / 2)>>=λz=>match z with
 | some less=>if less=true then pure (.yield (none,c.2.1,(c.2.1+c.2.2) / 2)) else pure (.yield (none,(c.2.1+c.2.2) / 2+1,c.2.2))
 | _=>pure (.done (some false,c.2.1,c.2.2))
noncomputable abbrev US:Type:=Option Bool×Unit
noncomputable def LK (lo:Nat) (k:Nat) (_:US):StateT SortSt Sem (ForInStep US) :=
 forIn [0:k] ((none,0,k):BS) (Kl lo k)>>=λc=>match c.1 with
 | some r=>pure (.done (some r,()))
 | none=>moveDown' (lo+k) (lo+c.2.1)>>=λz=>pure (.yield (none,()))
theorem uM (lo n ok:Nat):binarySort' lo n ok=(forIn [max ok 1:n] ((none,()):US) (LK lo)>>=λc=>match c.1 with
 | some r=>pure r
 | none=>pure true):=by kernel_rfl
theorem IX {l r:Nat} (h:¬ l >= r):(l+r) / 2<r:=Nat.div_lt_of_lt_mul (by rw[Nat.two_mul];exact Wv (Wj.mp h) r)
theorem BZ {l r:Nat} (h:¬ l >= r):l<=(l+r) / 2:=(Nat.le_div_iff_mul_le Zd).mpr (by rw[Nat.mul_two];exact VJ (UD (Wj.mp h)) l)
theorem SO.ltAt (S:SO prog w A E s blt kd U) {i j:Nat} {x y:Keyed} (hx:(arrOf st).toList[i]? = some x) (hy:(arrOf st).toList[j]? = some y) (ux:U x) (uy:U y) (hk:kindOf st=kd) {Q:Option Bool->SortSt->Prop} (h:Q (some (blt x y)) st):wpS (model prog w) A E s (ltAt' i j) Q st:=by
 rw[ltAt'_eq]
 exact wpS_bind (wpS_get (wpS_bind (hG hx (wpS_bind (hG hy (S.cmp _ _ ux uy _ _ hk h))))))
theorem FQ {lo k:Nat} {X:List Keyed} {f:Keyed->Bool} {Q:BS->SortSt->Prop} (hc:∀ m (hm:m<X.length) (P:Option Bool->SortSt->Prop),P (some (!f X[m])) st->wpS (model prog w) A E s (ltAt' (lo+k) (lo+m)) P st) (hk:X.length=k) (fv:X.Pairwise λx y=>f y=true->f x=true)
  (h:∀ c:BS,c.1=none->c.2.1<=k->(∀ x∈X.take c.2.1,f x=true)->(∀ x∈X.drop c.2.1,f x=false)->Q c st):wpS (model prog w) A E s (forIn [0:k] ((none,0,k):BS) (Kl lo k)) Q st:=by
 subst hk
 have e:∀ i (hi:i<X.length),(X[i]?).elim false f=f X[i]:=λi hi=>by rw[Ue hi];rfl
 have Hb:∀ i j,i<=j->j<X.length->(X[j]?).elim false f=true->(X[i]?).elim false f=true:=λi j sU hj hb=>by
  refine Ug (YK sU) (λcE=>?_) λq=>q ▸ hb
  have hi:=Ww cE hj
  rw[e j hj] at hb
  rw[e i hi]
  exact Wm.mp fv i j hi hj cE hb
 have gJ:∀ c:BS,BQ (λi=>(X[i]?).elim false f) X.length c->c.2.1<=c.2.2->Q c st:=λc I SN=>by
  have eq:=U3 SN I.eq
  refine h c I.no (eq ▸ I.hi) (λx hx=>?_) λx hx=>?_
  ·refine N' (VT.mp hx) λi q=>N' q λhi q=>?_
   have gf:=Ul hi (B' (UV (UT ..)) (Wp _ _))
   rw[<-q,X6,<-e i (Ul gf (eq ▸ I.hi))]
   exact I.lo i gf
  ·refine N' (VT.mp hx) λi q=>N' q λhi q=>?_
   have gf:c.2.1+i<X.length:=WI (Ul hi (UV (VE ..)))
   rw[<-q,YY,<-e _ gf]
   exact I.up _ (B' I.eq (UA _ _)) gf
 refine wpS_forRange (I:=λx (c:BS) st'=>st'=st/\BI (λi=>(X[i]?).elim false f) X.length x c) (λx c st' z z q=>?_) (λc st' q=>?_) ⟨rfl,rfl,UJ _,Un _,(λi hi=>absurd hi (Xa _)),(λi h1 h2=>absurd h2 (UK.mpr h1)),Un _⟩
 ·rw[q.1]
  have I:=q.2
  refine cg (λjG=>wpS_pure (gJ (none,c.2.1,c.2.2) ⟨rfl,jG,I.hi,I.lo,I.up⟩ I.le)) λjG=>?_
  have hm:=IX jG
  have hn:=Ul hm I.hi
  refine wpS_bind (hc _ hn _ ?_)
  cases hb:f (X[(c.2.1+c.2.2) / 2]'hn) with
  | true=>exact bM Uq (wpS_pure ⟨rfl,rfl,hm,I.hi,λi hi=>Hb i _ (Vx hi) hn ((e _ hn).trans hb),I.up,U8 (B' I.t (VJ (BZ jG) _))⟩)
  | false=>exact cj rfl (wpS_pure ⟨rfl,rfl,BZ jG,UD hn,I.lo,λi h6 h7=>kq Hb ((e _ hn).trans hb) h6 h7,B' (Wv hm x) I.t⟩)
 ·have I:=q.2
  have t:=I.t
  rw[VD (UJ _),V9] at t
  rw[q.1]
  exact gJ c ⟨I.no,Wn t,I.hi,I.lo,I.up⟩ I.le
theorem E6 {ZG:List Keyed} {x u:Keyed} {l:Nat} (h:u∈ZG.take l++x::ZG.drop l):u=x\/u∈ZG :=
 Ug (Uk.mp h) (λh=>.inr (UB h)) λh=>Ug (Uh.mp h) .inl λh=>.inr (UW h)
theorem fi.ins {P R T ZG R' arr:List Keyed} {x:Keyed} {k l:Nat} (L:fi blt ord P R T ZG (x::R') k arr) (h1:∀ y∈ZG.take l,rr blt ord y x=true) (h2:∀ y∈ZG.drop l,rr blt ord x y=true) :
  fi blt ord P R T (ZG.take l++x::ZG.drop l) R' (k+1) (P++((ZG.take l++x::ZG.drop l)++(R'++T))):=by
 have a:=bW.mp (show jt (rr blt ord) (ZG.take l++ZG.drop l) by rw[Uy];exact L.so)
 have o:=Ur.mp L.asc
 refine⟨rfl,?_,bW.mpr ⟨a.1,Ur.mpr ⟨h2,a.2.1⟩,λu hu v hv=>?_⟩,?_,λu hu v hv=>?_,o.2⟩
 ·rw[<-L.len,<-Uy l ZG,Ud,Ud,Uy];rfl
 ·exact Ug (Uh.mp hv) (λe=>by rw[e];exact h1 u hu) λhv=>a.2.2 u hu v hv
 ·refine List.Perm.trans ?_ L.pm
  rw[Uf,Yh]
  refine Y7.trans ?_
  rw[<-Uf,Uy]
  exact Y7.symm
 ·exact Ug (E6 hu) (λe=>by rw[e];exact o.1 v hv) λh=>L.bf u h v (H' _ hv)
theorem FR (S:SO prog w A E s blt kd U) {lo k:Nat} {P R T ZG R':List Keyed} {x:Keyed} {c:US} {Q:ForInStep US->SortSt->Prop} (hk:kindOf st=kd) (hP:P.length=lo) (hU:∀ x∈R,U x) (L:fi blt ord P R T ZG (x::R') k (arrOf st).toList)
  (h:∀ Z' st',cw st st'->fi blt ord P R T Z' R' (k+1) (arrOf st').toList->Q (.yield (none,())) st'):wpS (model prog w) A E s (LK lo k c) Q st:=by
 have hx:∀ y∈ZG,ord y<ord x:=λy hy=>L.bf y hy x z'
 have uZ:∀ y∈ZG,U y:=λy hy=>hU y (L.pm.mem_iff.mp (UE _ hy))
 have ux:U x:=hU x (L.pm.mem_iff.mp (Uz _ z'))
 have ex:(arrOf st).toList[lo+k]? = some x:=fP (n:=lo+k) (P:=P++ZG) (X:=[x]) (T:=R'++T) (i:=0) (by rw[L.arr,Uf];rfl) (by rw[Ud,hP,L.len]) VA
 refine wpS_bind (FQ (X:=ZG) (f:=λy=>!(blt x y)) (λm hm P JD=>S.ltAt ex (fP L.arr hP m hm) ux (uZ _ (UF hm)) hk (by rw[Bool.not_not] at JD;exact JD)) L.len (L.so.imp_of_mem λ{y z} hy hz hr hb=>?_) λc e hl g1 g2=>?_)
 ·have hb':rr blt ord x z=false:=(fe (hx z hz)).trans ((Vh _).mp hb)
  have:=S.rasym _ _ (S.rtrans _ _ _ hr (rI (hx z hz) hb'))
  rw[fe (hx y hy)] at this
  rw[this];rfl
 rw[e]
 refine wpS_bind ?_
 rw[moveDown'_eq]
 have L':=L.ins (l:=c.2.1) (λy hy=>rI (hx y (UB hy)) ((fe (hx y (UB hy))).trans ((Vh _).mp (g1 y hy)))) λy hy=>(fe (hx y (UW hy))).trans ((XY _).mp (g2 y hy))
 refine wpS_modify (wpS_pure (h (ZG.take c.2.1++x::ZG.drop c.2.1) _ ⟨rfl,rfl,rfl⟩ ?_))
 have eb:=sf (arr:=arrOf st) (B:=P++ZG.take c.2.1) (R:=ZG.drop c.2.1) (x:=x) (T:=R'++T) (by rw[L.arr,Uf,<-Uf (ZG.take c.2.1),Uy];rfl)
 have QH:c.2.1<=ZG.length:=by rw[L.len];exact hl
 rw[Ud,hP,UT,U4 QH,VE,Vg,VZ QH,L.len,Uf] at eb
 show fi blt ord P R T _ R' (k+1) (bubble (arrOf st) (lo+k) (lo+k - (lo+c.2.1))).toList
 rw[Yv,eb]
 have:=L'
 rw[Uf] at this
 exact this
theorem ug (S:SO prog w A E s blt kd U) {lo n:Nat} {P R T ZG R':List Keyed} {Q:Bool->SortSt->Prop} (hk:kindOf st=kd) (hP:P.length=lo) (hU:∀ x∈R,U x) (hZ:0<ZG.length) (hn:n=ZG.length+R'.length) (L:fi blt ord P R T ZG R' ZG.length (arrOf st).toList)
  (h:∀ Z' st',cw st st'->fi blt ord P R T Z' [] n (arrOf st').toList->Q true st'):wpS (model prog w) A E s (binarySort' lo n ZG.length) Q st:=by
 rw[uM,Nat.max_eq_left hZ]
 have hR:=L.pm.length_eq
 refine wpS_bind (wpS_mono (wpS_forRange (I:=λk (c:US) st'=>c.1=none/\cw st st'/\∃ ZG R',fi blt ord P R T ZG R' k (arrOf st').toList) (Q:=λ(c:US) st'=>c.1=none/\cw st st'/\∃ ZG,fi blt ord P R T ZG [] n (arrOf st').toList) (λk c st' z Iq q=>?_) (λc st' q=>?_) ⟨rfl,cw.refl st,ZG,R',L⟩) λc st' q=>?_)
 ·refine nW q.2.2 λZ1 R1 L1=>?_
  have hl:=L1.pm.length_eq.trans hR.symm
  rw[Ud,Ud,<-hn,L1.len] at hl
  cases R1 with
  | nil=>exact absurd Iq (by rw[<-hl];exact Vq _)
  | cons x R1=>exact FR S (q.2.1.k.trans hk) hP hU L1 λZ' cK hs L2=>⟨rfl,⟨hs.k.trans q.2.1.k,hs.p.trans q.2.1.p,hs.f.trans q.2.1.f⟩,Z',R1,L2⟩
 ·refine nW q.2.2 λZ1 R1 L1=>⟨q.1,q.2.1,Z1,?_⟩
  rw[VD (by rw[hn];exact UA _ _)] at L1
  have hl:=L1.pm.length_eq.trans hR.symm
  rw[Ud,Ud,<-hn,L1.len] at hl
  rw[Vy.mp (YA hl)] at L1
  exact L1
 ·rw[q.1]
  exact N' q.2.2 λZ' L'=>wpS_pure (h Z' st' q.2.1 L')
end
noncomputable def HQ (lo:Nat) (_:Nat) (c:Option (Option Nat)×Nat):StateT SortSt Sem (ForInStep (Option (Option Nat)×Nat)):=do
 let z <-ltAt' (lo+c.2) (lo+c.2 - 1)
 match z with
 | some rL=>if rL=true then pure (ForInStep.done (none,c.2)) else pure (ForInStep.yield (none,c.2+1))
 | _=>pure (ForInStep.done (some none,c.2))
noncomputable def Df (lo n dq:Nat):StateT SortSt Sem (Option Nat) :=
 reverseSlice' lo (lo+n)>>=λz=>forIn [n:dq] ((none,n):Option (Option Nat)×Nat) (HQ lo)>>=λc=>match c.1 with
 | some r=>pure r
 | none=>pure (some c.2)
noncomputable abbrev DS:Type:=Option (Option Nat)×Nat×Nat
noncomputable def Gm (lo:Nat) (_:Nat) (c:DS):StateT SortSt Sem (ForInStep DS) :=
 ltAt' (lo+c.2.1) (lo+c.2.1 - 1)>>=λz=>match z with
 | some rL=>if rL=true then (if c.2.2 > 0 then reverseSlice' (lo+c.2.1 - (c.2.2+1)) (lo+c.2.1)>>=λy=>pure (ForInStep.yield (none,c.2.1+1,0)) else pure (ForInStep.yield (none,c.2.1+1,0)))
  else ltAt' (lo+c.2.1 - 1) (lo+c.2.1)>>=λz=>match z with
   | some IU=>if IU=true then pure (ForInStep.done (none,c.2.1,c.2.2)) else pure (ForInStep.yield (none,c.2.1+1,c.2.2+1))
   | _=>pure (ForInStep.done (some none,c.2.1,c.2.2))
 | _=>pure (ForInStep.done (some none,c.2.1,c.2.2))
noncomputable def wH (lo n dq:Nat):StateT SortSt Sem (Option Nat) :=
 (liftM (rule "list.sort.descending-run"):StateT SortSt Sem Unit)>>=λz=>forIn [n+1:dq] ((none,n+1,0):DS) (Gm lo)>>=λc=>match c.1 with
 | some r=>pure r
 | none=>if c.2.2 > 0 then reverseSlice' (lo+c.2.1 - (c.2.2+1)) (lo+c.2.1)>>=λz=>Df lo c.2.1 dq else Df lo c.2.1 dq
theorem yl (lo dq:Nat):countRun' lo dq=(forIn [1:dq] ((none,1):Option (Option Nat)×Nat) (HQ lo)>>=λc=>match c.1 with
 | some q=>pure q
 | none=>if (c.2==dq)=true then pure (some c.2) else if c.2 > 1 then ltAt' lo (lo+c.2 - 1)>>=λz=>(match z with
   | some t=>if t=true then pure (some c.2) else reverseSlice' lo (lo+c.2)>>=λy=>wH lo c.2 dq
   | _=>pure none)
  else wH lo c.2 dq):=by kernel_rfl
theorem jc {L B C:List Keyed} {arr:Array Keyed} {i j:Nat} (e:arr.toList=L++(B++C)) (hi:L.length=i) (hj:i+B.length=j):(mirror arr i j ((j - i) / 2)).toList=L++(B.reverse++C):=by
 have dZ:j<=arr.size:=by
  rw[<-UO,e,Ud,Ud,hi,<-Vg,hj]
  exact UA _ _
 apply X7
 intro k
 rw[Vd,getElem?_mirror_all dZ]
 by_cases h1:i<=k/\k<j
 ·refine N' (Nat.exists_eq_add_of_le h1.1) λt et=>?_
  have ht:t<B.length:=by rw[et,<-hj] at h1;exact Nat.lt_of_add_lt_add_left h1.2
  have hp:B.length - 1 - t<B.length:=UR (VG _ _) (WP (UR (UJ _) ht) VA)
  have hr:t<B.reverse.length:=by rw[V0];exact ht
  rw[if_pos h1,et,<-hj,ZA,Nat.add_left_comm 1,Yv,V9 1,WL (show t+1<=B.length from ht),V9 t,<-ZA,<-Vd,fP e hi _ hp,fP (l:=L++(B.reverse++C)) rfl hi t hr,List.getElem_reverse]
 ·rw[if_neg h1,<-Vd,e]
  refine Ug (XQ k i) (λh2=>?_) λh2=>?_
  ·rw[<-hi] at h2
   rw[Ut h2,Ut h2]
  ·have h3:(L++B).length<=k:=by
    rw[Ud,hi,hj]
    exact UK.mp λq=>h1 ⟨h2,q⟩
   have h4:(L++B.reverse).length<=k:=by rw[Ud,V0,<-Ud];exact h3
   rw[<-Uf,<-Uf,Ux h3,Ux h4,Ud,Ud,V0]
section
variable {prog:Program} {w:World} {A:Around} {E:Value->Shared->Prop} {s:Shared} {blt:Keyed->Keyed->Bool} {ord:Keyed->Nat} {kd:SortKind} {U:Keyed->Prop} {st st':SortSt} {P R T:List Keyed} {lo dq n:Nat}
theorem cw.trans {a b c:SortSt} (x:cw a b) (y:cw b c):cw a c:=⟨y.k.trans x.k,y.p.trans x.p,y.f.trans x.f⟩
theorem cw.arr {a b:SortSt} (x:cw a b) (v:Array Keyed):cw a (setArr b v):=⟨x.k,x.p,x.f⟩
theorem SO.irr (S:SO prog w A E s blt kd U) (x:Keyed):blt x x=false:=by
 cases q:blt x x with
 | false=>rfl
 | true=>exact (S.asym _ _ q).symm.trans q |> λe=>nomatch e
noncomputable def F1 (blt:Keyed->Keyed->Bool) (ord:Keyed->Nat) (P R T:List Keyed) (st:SortSt) (n:Nat) (st':SortSt):Prop:=cw st st'/\∃ ZG R',fi blt ord P R T ZG R' n (arrOf st').toList
theorem fi.next {ZG R' arr:List Keyed} {x:Keyed} (L:fi blt ord P R T ZG (x::R') n arr) (hP:P.length=lo):arr[lo+n]? = some x :=
 fP (n:=lo+n) (P:=P++ZG) (X:=[x]) (T:=R'++T) (i:=0) (by rw[L.arr,Uf];rfl) (by rw[Ud,hP,L.len]) VA
theorem fi.last {ZG R' arr:List Keyed} (L:fi blt ord P R T ZG R' n arr) (hP:P.length=lo) (h1:1<=n) (hl:ZG.length - 1<ZG.length):arr[lo+n - 1]? = some ZG[ZG.length - 1]:=by
 rw[WL h1,<-L.len]
 exact fP L.arr hP _ hl
theorem fi.snoc {ZG R' arr:List Keyed} {x:Keyed} (L:fi blt ord P R T ZG (x::R') n arr) (hz:∀ z∈ZG,rr blt ord z x=true):fi blt ord P R T (ZG++[x]) R' (n+1) arr:=by
 have o:=Ur.mp L.asc
 refine⟨by rw[L.arr,Uf ZG];rfl,by rw[Ud,L.len];rfl,bW.mpr ⟨L.so,Wc _ _,λz h y hy=>by rw[O'.mp hy];exact hz z h⟩,by rw[Uf];exact L.pm,λu hu v hv=>?_,o.2⟩
 exact Ug (Uk.mp hu) (λh=>L.bf u h v (H' _ hv)) λh=>by rw[O'.mp h];exact o.1 v hv
theorem fi.rest {ZG R' arr:List Keyed} (L:fi blt ord P R T ZG R' n arr):n+R'.length=R.length:=by
 have h:=L.pm.length_eq
 rw[Ud,L.len] at h
 exact h
theorem se (S:SO prog w A E s blt kd U) (hk:kindOf st=kd) (hP:P.length=lo) (hU:∀ x∈R,U x) (hR:R.length=dq) {n0:Nat} (h1:1<=n0) (hn:n0<=dq) (I:F1 blt ord P R T st n0 st') {Q:Option (Option Nat)×Nat->SortSt->Prop}
  (hE:∀ cK,F1 blt ord P R T st dq cK->Q (none,dq) cK) (hB:∀ n cK ZG x R',1<=n->n<dq->cw st cK->fi blt ord P R T ZG (x::R') n (arrOf cK).toList->(∀ hl:ZG.length - 1<ZG.length,blt x ZG[ZG.length - 1]=true)->Q (none,n) cK) :
  wpS (model prog w) A E s (forIn [n0:dq] ((none,n0):Option (Option Nat)×Nat) (HQ lo)) Q st':=by
 refine wpS_forRange (I:=λx c cK=>c=(none,x)/\F1 blt ord P R T st x cK) (λx c cK hx M0 q=>?_) (λc cK q=>?_) ⟨rfl,I⟩
 ·rw[q.1]
  refine nW q.2.2 λZG R' L=>?_
  have LF:=B' h1 hx
  cases R' with
  | nil=>exact absurd M0 (by rw[<-hR,<-L.rest];exact Vq _)
  | cons y R' =>
   have hl:ZG.length - 1<ZG.length:=by rw[L.len];exact WP LF VA
   have hm:=UF hl
   have ho:=L.bf _ hm y z'
   refine wpS_bind (S.ltAt (L.next hP) (L.last hP LF hl) (hU _ (L.pm.mem_iff.mp (Uz _ z'))) (hU _ (L.pm.mem_iff.mp (UE _ hm))) (q.2.1.k.trans hk) ?_)
   cases hb:blt y ZG[ZG.length - 1] with
   | true=>exact cj rfl (wpS_pure (hB x cK ZG y R' LF M0 q.2.1 L λj=>hb))
   | false =>
    refine bM Uq (wpS_pure ⟨rfl,q.2.1,ZG++[y],R',L.snoc λz hz=>?_⟩)
    exact t4 (l:=[y]) S.rtrans L.so hl (λu hu=>by rw[O'.mp hu];exact rI ho ((fe ho).trans hb)) z hz y z'
 ·rw[q.1,VD hn]
  have I:=q.2
  rw[VD hn] at I
  exact hE cK I
structure fM (blt:Keyed->Keyed->Bool) (ord:Keyed->Nat) (P R T D V R':List Keyed) (n neq:Nat) (arr:List Keyed):Prop where
 arr:arr=P++(D++(V++(R'++T)))
 len:D.length+V.length=n
 neq:V.length=neq+1
 so:jt (rr blt ord) (V++D.reverse)
 eqk:∀ x∈V,∀ y∈V,blt x y=false
 uv:∀ x∈D,∀ y∈V,ord x<ord y
 pm:(D++(V++R')).Perm R
 bf:∀ x∈D++V,∀ y∈R',ord x<ord y
 asc:R'.Pairwise λx y=>ord x<ord y
theorem oF {D V:List Keyed} {y:Keyed} (h:y∈D++V.reverse):y∈D++V :=
 Ug (Uk.mp h) (UE _) λh=>Uz _ (Vt.mp h)
theorem fM.down {D V R' arr:List Keyed} {x:Keyed} {neq:Nat} (S:SO prog w A E s blt kd U) (L:fM blt ord P R T D V (x::R') n neq arr) {vl:Keyed} (hv:vl∈V) (hb:blt x vl=true):fM blt ord P R T (D++V.reverse) [x] R' (n+1) 0 (P++(D++(V.reverse++((x::R')++T)))):=by
 have o:=Ur.mp L.asc
 have hV:∀ v∈V,rr blt ord x v=true:=λv oq=>de.mpr (.inl (Ug (S.neg x v vl hb) (λq=>q) λq=>by rw[L.eqk v oq vl hv] at q;exact nomatch q))
 have hx:∀ y∈V++D.reverse,rr blt ord x y=true:=λy hy =>
  Ug (Uk.mp hy) (hV y) λh=>S.rtrans _ _ _ (hV vl hv) ((bW.mp L.so).2.2 vl hv y h)
 refine⟨by rw[Uf];rfl,by rw[Ud,V0,L.len];rfl,rfl,by rw[VK,VU];exact Ur.mpr ⟨hx,L.so⟩,λy hy z hz=>?_,λy hy z hz=>?_,?_,λy hy z hz=>?_,o.2⟩
 ·rw[O'.mp hy,O'.mp hz];exact S.irr x
 ·rw[O'.mp hz];exact L.bf y (oF hy) x z'
 ·refine List.Perm.trans ?_ L.pm
  rw[Uf]
  exact ((Wb V).append_right _).append_left _
 ·exact Ug (Uk.mp hy) (λh=>L.bf y (oF h) z (H' _ hz)) λh=>by rw[O'.mp h];exact o.1 z hz
theorem SO.eqv (S:SO prog w A E s blt kd U) {x y z:Keyed} (h1:blt x y=false) (h2:blt y z=false):blt x z=false:=by
 cases q:blt x z with
 | false=>rfl
 | true=>exact Ug (S.neg x y z q) (λq=>nomatch h1.symm.trans q) λq=>nomatch h2.symm.trans q
theorem fM.same {D V R' arr:List Keyed} {x:Keyed} {neq:Nat} (S:SO prog w A E s blt kd U) (L:fM blt ord P R T D V (x::R') n neq arr) {vl:Keyed} (hv:vl∈V) (h1:blt x vl=false) (h2:blt vl x=false):fM blt ord P R T D (V++[x]) R' (n+1) (neq+1) arr:=by
 have o:=Ur.mp L.asc
 have xv:∀ v∈V,blt x v=false:=λv oq=>S.eqv h1 (L.eqk vl hv v oq)
 have vx:∀ v∈V,blt v x=false:=λv oq=>S.eqv (L.eqk v oq vl hv) h2
 have TZ:∀ v∈V,ord v<ord x:=λv oq=>L.bf v (Uz _ oq) x z'
 have q:=bW.mp L.so
 refine⟨by rw[L.arr,Uf V];rfl,by rw[Ud,<-Vg,L.len];rfl,by rw[Ud,L.neq];rfl,?_,λy hy z hz=>?_,λy hy z hz=>?_,by rw[Uf];exact L.pm,λy hy z hz=>?_,o.2⟩
 ·rw[Uf]
  refine bW.mpr ⟨q.1,Ur.mpr ⟨λu hu=>?_,q.2.1⟩,λv oq y hy=>?_⟩
  ·have g:=q.2.2 vl hv u hu
   rw[fe (L.uv u (Vt.mp hu) vl hv)] at g
   exact de.mpr (.inl (Ug (S.neg vl x u g) (λq=>nomatch h2.symm.trans q) λq=>q))
  ·exact Ug (Uh.mp hy) (λe=>by rw[e];exact de.mpr (.inr ⟨xv v oq,TZ v oq⟩)) λhy=>q.2.2 v oq y hy
 ·refine Ug (Uk.mp hy) (λhy=>Ug (Uk.mp hz) (λhz=>L.eqk y hy z hz) λhz=>?_) λhy=>Ug (Uk.mp hz) (λhz=>?_) λhz=>?_
  ·rw[O'.mp hz];exact vx y hy
  ·rw[O'.mp hy];exact xv z hz
  ·rw[O'.mp hy,O'.mp hz];exact S.irr x
 ·exact Ug (Uk.mp hz) (λhz=>L.uv y hy z hz) λhz=>by rw[O'.mp hz];exact L.bf y (UE _ hy) x z'
 ·rw[<-Uf] at hy
  exact Ug (Uk.mp hy) (λh=>L.bf y h z (H' _ hz)) λh=>by rw[O'.mp h];exact o.1 z hz
theorem fM.rest {D V R' arr:List Keyed} {neq:Nat} (L:fM blt ord P R T D V R' n neq arr):n+R'.length=R.length:=by
 have h:=L.pm.length_eq
 rw[Ud,Ud,<-Vg,L.len] at h
 exact h
theorem rH {V:List Keyed} {neq:Nat} (h:V.length=neq+1) (h0:¬ neq > 0):V.reverse=V:=by
 rw[Wh h0] at h
 exact N' (Yn.mp h) λv e=>by rw[e];rfl
theorem fM.turn {D V R':List Keyed} {arr:Array Keyed} {neq:Nat} (L:fM blt ord P R T D V R' n neq arr.toList) (hP:P.length=lo):(mirror arr (lo+n - (neq+1)) (lo+n) ((lo+n - (lo+n - (neq+1))) / 2)).toList=P++(D++(V.reverse++(R'++T))):=by
 have hn:lo+n - (neq+1)=lo+D.length:=by rw[<-L.len,<-L.neq,<-Vg,WG]
 rw[<-Uf]
 refine jc (by rw[L.arr,Uf]) (by rw[Ud,hP,hn]) ?_
 rw[hn,Vg,L.len]
variable {Q:Option Nat->SortSt->Prop}
theorem qC (S:SO prog w A E s blt kd U) (hk:kindOf st=kd) (hP:P.length=lo) (hU:∀ x∈R,U x) (hR:R.length=dq) (h1:1<=n) (hs:cw st st') {D V R':List Keyed} {neq:Nat} {arr:List Keyed} (L:fM blt ord P R T D V R' n neq arr) (e:(arrOf st').toList=P++(D++(V.reverse++(R'++T))))
  (h:∀ n cK,1<=n->n<=dq->F1 blt ord P R T st n cK->Q (some n) cK):wpS (model prog w) A E s (Df lo n dq) Q st':=by
 have hl:(D++V.reverse).length=n:=by rw[Ud,V0];exact L.len
 refine wpS_bind ?_
 rw[reverseSlice'_eq]
 have e2:(arrOf st').toList=P++((D++V.reverse)++(R'++T)):=by rw[e,Uf]
 have I:F1 blt ord P R T st n (setArr st' (mirror (arrOf st') lo (lo+n) ((lo+n - lo) / 2))):=by
  refine⟨hs.arr _,(D++V.reverse).reverse,R',jc e2 hP (by rw[hl]),by rw[V0];exact hl,by rw[VK,VU];exact L.so,?_,λx hx=>L.bf x (oF (Vt.mp hx)),L.asc⟩
  refine ((Wb _).append_right _).trans (List.Perm.trans ?_ L.pm)
  rw[Uf]
  exact ((Wb V).append_right _).append_left _
 have hn:n<=dq:=by rw[<-hR,<-L.rest];exact UA _ _
 exact wpS_modify (wpS_bind (se S hk hP hU hR h1 hn I (λcK I2=>wpS_pure (h dq cK (B' h1 hn) (Un _) I2)) λm cK ZG x R2 g1 g2 hs2 L2 z=>wpS_pure (h m cK g1 (UD g2) ⟨hs2,ZG,_,L2⟩)))
noncomputable def HA (blt:Keyed->Keyed->Bool) (ord:Keyed->Nat) (P R T:List Keyed) (st:SortSt) (c:DS) (st':SortSt):Prop:=c.1=none/\cw st st'/\∃ D V R',fM blt ord P R T D V R' c.2.1 c.2.2 (arrOf st').toList
theorem zJ (S:SO prog w A E s blt kd U) (hk:kindOf st=kd) (hP:P.length=lo) (hU:∀ x∈R,U x) (hs:cw st st') {x:Nat} {c:DS} {D V R':List Keyed} {z:Keyed} (L:fM blt ord P R T D V (z::R') c.2.1 c.2.2 (arrOf st').toList) {Q:ForInStep DS->SortSt->Prop}
  (hd:∀ cK,cw st cK->fM blt ord P R T D V (z::R') c.2.1 c.2.2 (arrOf cK).toList->Q (.done (none,c.2.1,c.2.2)) cK) (hy:∀ m cK,HA blt ord P R T st (none,c.2.1+1,m) cK->Q (.yield (none,c.2.1+1,m)) cK):wpS (model prog w) A E s (Gm lo x c) Q st':=by
 have hl:V.length - 1<V.length:=by rw[L.neq];exact VC _
 have hm:=UF hl
 have cm:D.length+V.length=c.2.1:=L.len
 have e1:(arrOf st').toList[lo+c.2.1]? = some z:=fP (n:=lo+c.2.1) (P:=P++(D++V)) (X:=[z]) (T:=R'++T) (i:=0) (by rw[L.arr,Uf,Uf];rfl) (by rw[Ud,Ud,hP,cm]) VA
 have e2:(arrOf st').toList[lo+c.2.1 - 1]? = some V[V.length - 1]:=by
  rw[<-cm,<-Vg,WL (by rw[L.neq];exact Xq _)]
  exact fP (P:=P++D) (T:=(z::R')++T) (by rw[L.arr,Uf]) (by rw[Ud,hP]) _ hl
 have uz:U z:=hU _ (L.pm.mem_iff.mp (Uz _ (Uz _ z')))
 have uv:U V[V.length - 1]:=hU _ (L.pm.mem_iff.mp (Uz _ (UE _ hm)))
 refine wpS_bind (S.ltAt e1 e2 uz uv (hs.k.trans hk) ?_)
 cases hb:blt z V[V.length - 1] with
 | true =>
  have L2:=L.down S hm hb
  refine cj rfl (cg (λh0=>wpS_bind ?_) λh0=>wpS_pure (hy 0 _ ⟨rfl,hs,D++V.reverse,[z],R',?_⟩))
  ·rw[reverseSlice'_eq]
   refine wpS_modify (wpS_pure (hy 0 _ ⟨rfl,hs.arr _,D++V.reverse,[z],R',?_⟩))
   have:=L2
   rw[<-L.turn hP] at this
   exact this
  ·have:=L2
   have e3:P++(D++(V.reverse++((z::R')++T)))=(arrOf st').toList:=by rw[rH L.neq h0,L.arr]
   rw[e3] at this
   exact this
 | false =>
  refine bM Uq (wpS_bind (S.ltAt e2 e1 uv uz (hs.k.trans hk) ?_))
  cases hc:blt V[V.length - 1] z with
  | true=>exact cj rfl (wpS_pure (hd _ hs L))
  | false=>exact bM Uq (wpS_pure (hy _ _ ⟨rfl,hs,D,V++[z],R',L.same S hm hb hc⟩))
theorem zK (S:SO prog w A E s blt kd U) (hk:kindOf st=kd) (hP:P.length=lo) (hU:∀ x∈R,U x) (hR:R.length=dq) (hn:n+1<=dq) (hs:cw st st') {D V R':List Keyed} (L:fM blt ord P R T D V R' (n+1) 0 (arrOf st').toList)
  (h:∀ n cK,1<=n->n<=dq->F1 blt ord P R T st n cK->Q (some n) cK):wpS (model prog w) A E s (wH lo n dq) Q st':=by
 refine wpS_bind (wpS_lift (wpAny_rule ⟨rfl,?_⟩))
 refine wpS_bind (wpS_mono (wpS_forRange (I:=λx (c:DS) cK=>c.2.1=x/\HA blt ord P R T st c cK) (Q:=λ(c:DS) cK=>1<=c.2.1/\HA blt ord P R T st c cK) (λx c cK hx M0 q=>?_) (λc cK q=>⟨?_,q.2⟩) ⟨rfl,rfl,hs,D,V,R',L⟩) λc cK q=>?_)
 ·refine AT q.2.2.2 λD V R' L=>?_
  cases R' with
  | nil=>exact absurd M0 (by rw[<-hR,<-L.rest,q.1];exact Vq _)
  | cons z R'=>exact zJ S hk hP hU q.2.2.1 L (λr5 GM L3=>⟨by rw[q.1];exact B' (Xq n) hx,rfl,GM,D,V,z::R',L3⟩) λm r5 I3=>⟨by rw[q.1],I3⟩
 ·rw[q.1,VD hn];exact B' (Xq n) hn
 ·rw[q.2.1]
  refine AT q.2.2.2 λD V R' L=>cg (λh0=>wpS_bind ?_) λh0=>?_
  ·rw[reverseSlice'_eq]
   exact wpS_modify (qC S hk hP hU hR q.1 (q.2.2.1.arr _) L (L.turn hP) h)
  ·exact qC S hk hP hU hR q.1 q.2.2.1 L (by rw[rH L.neq h0];exact L.arr) h
theorem zH (S:SO prog w A E s blt kd U) (hk:kindOf st=kd) (hP:P.length=lo) (hU:∀ x∈R,U x) (hn:1<=dq) (e:(arrOf st).toList=P++(R++T)) (hR:R.length=dq) (asc:R.Pairwise λx y=>ord x<ord y)
  (h:∀ n cK,1<=n->n<=dq->F1 blt ord P R T st n cK->Q (some n) cK):wpS (model prog w) A E s (countRun' lo dq) Q st:=by
 rw[yl]
 have I:F1 blt ord P R T st 1 st:=by
  cases R with
  | nil=>rw[<-hR] at hn;exact nomatch hn
  | cons x R=>exact⟨cw.refl _,[x],R,e,rfl,Wc _ _,.refl _,λu hu v hv=>by rw[O'.mp hu];exact (Ur.mp asc).1 v hv,(Ur.mp asc).2⟩
 refine wpS_bind (se S hk hP hU hR (Un 1) hn I (λcK I2=>cj (beq_self_eq_true dq) (wpS_pure (h dq cK hn (Un _) I2))) λn cK ZG x R' g1 g2 hs L Sg=>?_)
 refine bM (λq=>UP g2 (beq_iff_eq.mp q)) ?_
 have hl:ZG.length - 1<ZG.length:=by rw[L.len];exact WP g1 VA
 have h0:0<ZG.length:=UR (UJ _) hl
 have hx:=Sg hl
 have uZ:∀ z∈ZG,U z:=λz hz=>hU _ (L.pm.mem_iff.mp (UE _ hz))
 have o:=Ur.mp L.asc
 have Ks:∀ r5,cw st r5->(arrOf r5).toList=P++(ZG.reverse++((x::R')++T))->(∀ z∈ZG,blt z ZG[ZG.length - 1]=false)->wpS (model prog w) A E s (wH lo n dq) Q r5:=λr5 GM e4 hq=>by
  have Tt:∀ z∈ZG,rr blt ord x z=true:=λz hz=>de.mpr (.inl (Ug (S.neg x z _ hx) (λq=>q) λq=>nomatch (hq z hz).symm.trans q))
  refine zK S hk hP hU hR g2 GM (D:=ZG.reverse) (V:=[x]) (R':=R') ⟨e4,by rw[V0,L.len];rfl,rfl,by rw[VU];exact Ur.mpr ⟨Tt,L.so⟩,λy hy z hz=>?_,λy hy z hz=>?_,((Wb ZG).append_right _).trans L.pm,λy hy z hz=>?_,o.2⟩ h
  ·rw[O'.mp hy,O'.mp hz];exact S.irr x
  ·rw[O'.mp hz];exact L.bf y (Vt.mp hy) x z'
  ·exact Ug (Uk.mp hy) (λhy=>L.bf y (Vt.mp hy) z (H' _ hz)) λhy=>by rw[O'.mp hy];exact o.1 z hz
 refine cg (λQm=>?_) λQm=>?_
 ·refine wpS_bind (S.ltAt (x:=ZG[0]) (by rw[<-Zx lo];exact fP L.arr hP 0 h0) (L.last hP g1 hl) (uZ _ (UF h0)) (uZ _ (UF hl)) (hs.k.trans hk) ?_)
  cases hr:blt ZG[0] ZG[ZG.length - 1] with
  | true=>exact cj rfl (wpS_pure (h n cK g1 (UD g2) ⟨hs,ZG,_,L⟩))
  | false =>
   refine bM Uq (wpS_bind ?_)
   rw[reverseSlice'_eq]
   refine wpS_modify (Ks _ (hs.arr _) (jc L.arr hP (by rw[L.len])) λz hz=>S.eqv (y:=ZG[0]) ?_ hr)
   refine N' (VT.mp hz) λi q=>N' q λhi q=>?_
   refine Ug (Nat.eq_zero_or_pos i) (λe=>?_) λhp=>?_
   ·rw[<-q]
    have:ZG[i]=ZG[0]:=by congr 1
    rw[this];exact S.irr _
   ·have g:=S.rasym _ _ (Wm.mp L.so 0 i h0 hi hp)
    rw[q] at g
    cases q2:blt z ZG[0] with
    | false=>rfl
    | true=>rw[de.mpr (.inl q2)] at g;exact nomatch g
 ·have e1:n=1:=U3 (UK.mp Qm) g1
  have hZ:ZG.length=0+1:=L.len.trans e1
  refine Ks cK hs (by rw[rH hZ (Vq _)];exact L.arr) λz hz=>?_
  refine N' (Yn.mp hZ) λv ev=>?_
  have h1:z=v:=by rw[ev] at hz;exact O'.mp hz
  have h2:ZG[ZG.length - 1]=v:=O'.mp (ev ▸ UF hl)
  rw[h1,h2];exact S.irr v
end
noncomputable abbrev wk:=List Keyed×Nat
noncomputable def dM:Nat->List wk->List (Nat×Nat×Nat)
 | _,[]=>[]
 | n,b::t=>(n,b.1.length,b.2)::dM (n+b.1.length) t
noncomputable def ba:List wk->List Keyed
 | []=>[]
 | b::t=>b.1++ba t
theorem gK:∀ (L M:List wk),ba (L++M)=ba L++ba M
 | [],_=>rfl
 | b::L,M=>by
  show b.1++ba (L++M)=(b.1++ba L)++ba M
  rw[gK L M,Uf]
theorem gV:∀ (n:Nat) (L M:List wk),dM n (L++M)=dM n L++dM (n+(ba L).length) M
 | _,[],_=>rfl
 | n,b::L,M=>by
  show _::dM (n+b.1.length) (L++M)=_::(dM (n+b.1.length) L++dM (n+(b.1++ba L).length) M)
  rw[gV,Ud,Vg]
theorem kZ:∀ (n:Nat) (L:List wk),(dM n L).length=L.length
 | _,[]=>rfl
 | n,b::L=>congrArg (· + 1) (kZ _ L)
theorem sO {x:Keyed} {b:wk}:∀ {L:List wk},b∈L->x∈b.1->x∈ba L
 | c::L,h,hx=>Ug (Uh.mp h) (λe=>UE _ (e ▸ hx)) λh=>Uz _ (sO h hx)
theorem sN:∀ {L:List wk},(∀ b∈L,0<b.1.length)->L.length<=(ba L).length
 | [],_=>Un _
 | b::L,h=>by
  show L.length+1<=(b.1++ba L).length
  rw[Ud,V9]
  exact VY (h b z') (sN λc hc=>h c (H' _ hc))
theorem Mf:∀ {n:Nat},1<n->n - 2+1<n
 | n+2,_=>VC (n+1)
 | 0,h=>nomatch h
 | 1,h=>absurd h (Vq 1)
theorem mw {α:Type} (x:α) (f:α->α):∀ l:List α,(l++[x]).modify l.length f=l++[f x]
 | []=>rfl
 | a::l=>congrArg (a :: ·) (mw x f l)
section
variable {blt:Keyed->Keyed->Bool} {ord:Keyed->Nat} {kd:SortKind} {st:SortSt} {a₀ R ZG:List Keyed} {L Bs T:List wk}
noncomputable def Ng (ord:Keyed->Nat) (b c:wk):Prop:=∀ x∈b.1,∀ y∈c.1,ord x<ord y
structure Q8 (blt:Keyed->Keyed->Bool) (ord:Keyed->Nat) (b:wk):Prop where
 pos:0<b.1.length
 so:jt (rr blt ord) b.1
structure km (blt:Keyed->Keyed->Bool) (ord:Keyed->Nat) (kd:SortKind) (a₀:List Keyed) (Bs:List wk) (R:List Keyed) (st:SortSt):Prop where
 kind:kindOf st=kd
 failed:failedOf st=none
 pend:(pendingOf st).toList=dM 0 Bs
 arr:(arrOf st).toList=ba Bs++R
 ok:∀ b∈Bs,Q8 blt ord b
 bf:(Bs++[(R,0)]).Pairwise (Ng ord)
 pm:(ba Bs++R).Perm a₀
theorem km.size (I:km blt ord kd a₀ Bs R st):(pendingOf st).size=Bs.length:=by
 rw[<-UO,I.pend,kZ]
theorem km.len (I:km blt ord kd a₀ Bs R st):(ba Bs).length+R.length=a₀.length:=by rw[<-Ud];exact I.pm.length_eq
theorem km.none (I:km blt ord kd a₀ Bs R st) (h:a₀.length<=(ba Bs).length):R=[]:=by
 rw[<-I.len] at h
 exact Vy.mp (Nat.le_zero.mp (Wn (B' h (UV (Zx _).symm))))
theorem y9 {α:Type} (L:List α) (x y z:α) (T:List α):((L++x::y::T).set L.length z).eraseIdx (L.length+1)=L++z::T:=by
 rw[WJ _ _ (Un _),Wg,List.eraseIdx_append_of_length_le (UA _ 1),U0]
 rfl
theorem HR {α:Type} (L:List α) (x:α) (T:List α):(L++x::T)[L.length]? = some x:=by
 rw[Ux (Un _),Wg];rfl
theorem D9 {α:Type} (L:List α) (x y:α) (T:List α):(L++x::y::T)[L.length+1]? = some y:=by
 rw[Ux (UA _ 1),U0];rfl
theorem Au {X Y ZG:List Keyed} {p q:Nat} (h:(L++(X,p)::(Y,q)::T).Pairwise (Ng ord)) (hZ:∀ x∈ZG,x∈X\/x∈Y):(L++(ZG,p)::T).Pairwise (Ng ord):=by
 have a:=U7.mp h
 have b:=Ur.mp a.2.1
 have c:=Ur.mp b.2
 refine U7.mpr ⟨a.1,Ur.mpr ⟨λd hd x hx y hy=>?_,c.2⟩,λe he d hd x hx y hy=>?_⟩
 ·exact Ug (hZ x hx) (λhx=>b.1 d (H' _ hd) x hx y hy) λhx=>c.1 d hd x hx y hy
 ·refine Ug (Uh.mp hd) (λq=>?_) λhd=>a.2.2 e he d (H' _ (H' _ hd)) x hx y hy
  rw[q] at hy
  exact Ug (hZ y hy) (λhy=>a.2.2 e he _ z' x hx y hy) λhy=>a.2.2 e he _ (H' _ z') x hx y hy
theorem tu {b c d:wk} (h:b∈L++c::T):b=c\/b∈L++d::T :=
 Ug (Uk.mp h) (λh=>.inr (UE _ h)) λh=>Ug (Uh.mp h) .inl λh=>.inr (Uz _ (H' _ h))
theorem km.repower {X:List Keyed} {p:Nat} (I:km blt ord kd a₀ (L++[(X,p)]) R st) (pw:Nat):km blt ord kd a₀ (L++[(X,pw)]) R (setPending st ((pendingOf st).modify ((pendingOf st).size - 1) λx=>(x.1,x.2.1,pw))):=by
 have eF:ba (L++[(X,pw)])=ba (L++[(X,p)]):=by rw[gK,gK];rfl
 refine⟨I.kind,I.failed,?_,eF ▸ I.arr,λb hb=>?_,?_,eF ▸ I.pm⟩
 ·show ((pendingOf st).modify _ _).toList=_
  rw[Array.toList_modify,I.size,I.pend,gV,gV,Ud]
  show List.modify (dM 0 L++[_]) L.length _=_
  rw[<-kZ 0 L]
  exact mw ..
 ·refine Ug (tu (d:=(X,p)) hb) (λe=>?_) λh=>I.ok b h
  have o:=I.ok (X,p) (Uz _ z')
  rw[e];exact⟨o.pos,o.so⟩
 ·have h:=I.bf
  rw[Uf] at h ⊢
  have a:=U7.mp h
  have b:=Ur.mp a.2.1
  exact U7.mpr ⟨a.1,Ur.mpr ⟨b.1,b.2⟩,λe he d hd=>Ug (Uh.mp hd) (λq=>by rw[q];exact a.2.2 e he (X,p) z') λhd=>a.2.2 e he d (H' _ hd)⟩
theorem km.push {n:Nat} (I:km blt ord kd a₀ Bs (ZG++R) st) (hn:ZG.length=n) (hZ:0<n) (hs:jt (rr blt ord) ZG) (zR:∀ x∈ZG,∀ y∈R,ord x<ord y) :
  km blt ord kd a₀ (Bs++[(ZG,0)]) R (setPending st ((pendingOf st).push ((ba Bs).length,n,0))):=by
 have eF:ba (Bs++[(ZG,0)])++R=ba Bs++(ZG++R):=by
  rw[gK]
  show (ba Bs++(ZG++[]))++R=_
  rw[Uu,Uf]
 refine⟨I.kind,I.failed,?_,eF ▸ I.arr,λb hb=>?_,?_,eF ▸ I.pm⟩
 ·show ((pendingOf st).push _).toList=_
  rw[Xm,I.pend,gV,V8,<-hn];rfl
 ·exact Ug (Uk.mp hb) (I.ok b) λh=>by rw[O'.mp h];exact⟨hn ▸ hZ,hs⟩
 ·have a:=U7.mp I.bf
  rw[Uf]
  refine U7.mpr ⟨a.1,Ur.mpr ⟨λc hc=>by rw[O'.mp hc];exact zR,Wc _ _⟩,λb hb c hc x hx y hy=>a.2.2 b hb _ z' x hx y ?_⟩
  refine Ug (Uh.mp hc) (λe=>?_) λh=>?_
  ·rw[e] at hy;exact UE _ hy
  ·rw[O'.mp h] at hy;exact Uz _ hy
end
section
variable {prog:Program} {w:World} {A:Around} {E:Value->Shared->Prop} {s:Shared} {blt:Keyed->Keyed->Bool} {ord:Keyed->Nat} {kd:SortKind} {U:Keyed->Prop} {st:SortSt} {a₀ R:List Keyed} {L Bs T:List wk}
theorem rY (S:SO prog w A E s blt kd U) {X Y:List Keyed} {p q i:Nat} {Q:Bool->SortSt->Prop} (hU:∀ x∈a₀,U x) (I:km blt ord kd a₀ (L++(X,p)::(Y,q)::T) R st) (hi:L.length=i)
  (h:∀ ZG st',km blt ord kd a₀ (L++(ZG,p)::T) R st'->Q true st'):wpS (model prog w) A E s (mergeAt' i) Q st:=by
 have hX:(X,p)∈L++(X,p)::(Y,q)::T:=Uz _ z'
 have hY:(Y,q)∈L++(X,p)::(Y,q)::T:=Uz _ (H' _ z')
 have eF:ba (L++(X,p)::(Y,q)::T)=ba L++(X++(Y++ba T)):=by rw[gK];rfl
 have eP:(pendingOf st).toList=dM 0 L++((ba L).length,X.length,p)::((ba L).length+X.length,Y.length,q)::dM ((ba L).length+X.length+Y.length) T:=by
  rw[I.pend,gV,V8];rfl
 have hl:i=(dM 0 L).length:=hi.symm.trans (kZ 0 L).symm
 have bf:=I.bf
 rw[Uf] at bf
 have M3:∀ x∈X,∀ y∈Y,ord x<ord y:=(Ur.mp (U7.mp bf).2.1).1 (Y,q) z'
 have uF:∀ b∈L++(X,p)::(Y,q)::T,∀ x∈b.1,U x:=λb hb x hx=>hU x (I.pm.mem_iff.mp (UE _ (sO hb hx)))
 have M:MC prog w A E s (rr blt ord) (kindOf st) X Y:=⟨λx hx y hy T3 Q hk hq=>S.cmp y x (uF _ hY y hy) (uF _ hX x hx) T3 Q (hk.trans I.kind) (by rw[<-fe (blt:=blt) (M3 x hx y hy)];exact hq),S.rtrans,S.rasym,λx hx y hy hr=>rI (M3 x hx y hy) hr,(I.ok _ hX).so,(I.ok _ hY).so⟩
 refine uh (P:=ba L) (X:=X) (Y:=Y) (T:=ba T++R) (sa:=(ba L).length) (pw:=p) (pw2:=q) ?_ ?_ ?_ rfl (I.ok _ hX).pos (I.ok _ hY).pos M I.failed λZG st' hE hk ha hp hf=>?_
 ·rw[<-Vd,eP,hl];exact HR _ _ _
 ·rw[<-Vd,eP,hl];exact D9 _ _ _ _
 ·rw[I.arr,eF,Uf,Uf,Uf]
 ·have hZ:∀ x∈ZG,x∈X\/x∈Y:=λx hx=>Uk.mp (hE.pm.mem_iff.mp hx)
  have Qw:ZG.length=X.length+Y.length:=by rw[hE.pm.length_eq,Ud]
  have Qg:ba (L++(ZG,p)::T)=ba L++(ZG++ba T):=by rw[gK];rfl
  have pF:(ba (L++(ZG,p)::T)).Perm (ba (L++(X,p)::(Y,q)::T)):=by
   rw[eF,Qg,<-Uf X]
   exact (hE.pm.append_right _).append_left _
  refine h ZG st' ⟨hk.trans I.kind,hf,?_,?_,λb hb=>?_,?_,(pF.append_right R).trans I.pm⟩
  ·rw[hp,Array.toList_eraseIdxIfInBounds,X0,eP,hl,y9,gV,V8]
   show _=dM 0 L++(_,ZG.length,p)::dM ((ba L).length+ZG.length) T
   rw[Qw,Vg]
  ·rw[ha,Qg,Uf,Uf]
  ·refine Ug (tu (d:=(X,p)) hb) (λe=>?_) λh=>?_
   ·rw[e]
    exact⟨by rw[Qw];exact Ul (I.ok _ hX).pos (UA _ _),hE.so⟩
   ·exact I.ok b (Ug (Uk.mp h) (UE _) λh=>Uz _ (Ug (Uh.mp h) (λe=>e ▸ z') λh=>H' _ (H' _ h)))
  ·rw[Uf]
   exact Au bf hZ
theorem Mb {α:Type} {l:List α} {i:Nat} (h:i+1<l.length):∃ L x y T,l=L++x::y::T/\L.length=i :=
 ⟨l.take i,l[i]'(UY h),l[i+1],l.drop (i+2),by rw[<-Vm,<-Vm,Uy],by rw[UT,U4 (UD (UY h))]⟩
theorem lw (S:SO prog w A E s blt kd U) {i:Nat} {Q:Bool->SortSt->Prop} (hU:∀ x∈a₀,U x) (I:km blt ord kd a₀ Bs R st) (hi:i+1<Bs.length)
  (h:∀ nh st',km blt ord kd a₀ nh R st'->nh.length+1=Bs.length->Q true st'):wpS (model prog w) A E s (mergeAt' i) Q st:=by
 refine NV (Mb hi) λL x y T e hL=>?_
 rw[e] at I
 refine rY (X:=x.1) (p:=x.2) (Y:=y.1) (q:=y.2) S hU I hL λZG st' I'=>h _ st' I' ?_
 rw[e,Ud,Ud];rfl
noncomputable abbrev VS:Type:=Option Unit×Unit
noncomputable abbrev WS:Type:=Option Unit×Nat
noncomputable def Go (pw:Nat) (_:Nat) (_:VS):StateT SortSt Sem (ForInStep VS) :=
 get>>=λst=>match (if (pendingOf st).size > 1 then (pendingOf st)[(pendingOf st).size - 2]? else none) with
 | some (_,_,older)=>if older<=pw then pure (.done (none,())) else mergeAt' ((pendingOf st).size - 2)>>=λb=>if (!b)=true then pure (.done (some (),())) else pure (.yield (none,()))
 | _=>pure (.done (none,()))
noncomputable def Cw (lo n:Nat):StateT SortSt Sem (ForInStep WS):=(modify λs=>setPending s ((pendingOf s).push (lo,n,0)))>>=λz=>pure (.yield (none,lo+n))
noncomputable def xM (jy lo n:Nat):StateT SortSt Sem (ForInStep WS) :=
 get>>=λst=>match (pendingOf st).back? with
 | some (s1,n1,_)=>forIn [0:jy] ((none,()):VS) (Go (power' jy (2 * s1+n1) (2 * s1+n1+n1+n) jy))>>=λr=>match r.1 with
  | some a=>pure (.done (some a,lo))
  | none=>(modify λs=>setPending s ((pendingOf s).modify ((pendingOf s).size - 1) λx=>(x.1,x.2.1,power' jy (2 * s1+n1) (2 * s1+n1+n1+n) jy)))>>=λz=>Cw lo n
 | _=>Cw lo n
noncomputable def Me (jy mr:Nat) (_:Nat) (c:WS):StateT SortSt Sem (ForInStep WS) :=
 if c.2 >= jy then pure (.done (none,c.2)) else countRun' c.2 (jy - c.2)>>=λz=>match z with
 | some n=>if n<mr then (liftM (rule "list.sort.binary-insertion"):StateT SortSt Sem Unit)>>=λy=>binarySort' c.2 (min (jy - c.2) mr) n>>=λb=>if (!b)=true then pure (.done (some (),c.2)) else xM jy c.2 (min (jy - c.2) mr)
  else xM jy c.2 n
 | _=>pure (.done (some (),c.2))
noncomputable def Hk (p:Array (Nat×Nat×Nat)):Nat:=if (if p.size - 2 > 0 then p[p.size - 2 - 1]?.map (·.2.1) else none).any (· < (p[p.size - 2+1]?.elim 0 (·.2.1))) then p.size - 2 - 1 else p.size - 2
noncomputable def N5 (_:Nat) (_:VS):StateT SortSt Sem (ForInStep VS) :=
 get>>=λst=>if (pendingOf st).size<=1 then pure (.done (none,())) else mergeAt' (Hk (pendingOf st))>>=λb=>if (!b)=true then pure (.done (some (),())) else pure (.yield (none,()))
theorem Fi:sortRuns'=(get>>=λs=>forIn [0:(arrOf s).size] ((none,0):WS) (Me (arrOf s).size (minRun' (arrOf s).size (arrOf s).size 0))>>=λc=>match c.1 with
 | some r=>pure r
 | none=>forIn [0:(arrOf s).size] ((none,()):VS) N5>>=λd=>match d.1 with
  | some r=>pure r
  | none=>pure ()):=by kernel_rfl
theorem zL (S:SO prog w A E s blt kd U) (hU:∀ x∈a₀,U x) (I:km blt ord kd a₀ Bs R st) (h0:Bs≠[]) {pw x:Nat} {c:VS} {Q:ForInStep VS->SortSt->Prop} (hd:Q (.done (none,())) st) (hy:∀ nh st',km blt ord kd a₀ nh R st'->nh≠[]->Q (.yield (none,())) st') :
  wpS (model prog w) A E s (Go pw x c) Q st:=by
 refine wpS_bind (wpS_get ?_)
 by_cases h2:(pendingOf st).size > 1
 ·rw[if_pos h2]
  split
  ·refine cg (λz=>wpS_pure hd) λz=>?_
   rw[I.size] at h2 ⊢
   refine wpS_bind (lw S hU I (Mf h2) λnh st' I' hl=>bM Uq (wpS_pure (hy nh st' I' λe=>?_)))
   rw[e] at hl
   exact Vq _ (hl ▸ h2)
  ·exact wpS_pure hd
 ·rw[if_neg h2]
  exact wpS_pure hd
theorem E0 {α:Type} {l:List α} (h:l≠[]):∃ L x,l=L++[x]:=⟨l.dropLast,l.getLast h,(List.dropLast_concat_getLast h).symm⟩
set_option tactic.hygienic true in
theorem zQ (S:SO prog w A E s blt kd U) (hU:∀ x∈a₀,U x) {ZG:List Keyed} {jy n:Nat} (I:km blt ord kd a₀ Bs (ZG++R) st) (hn:ZG.length=n) (hZ:0<n) (hs:jt (rr blt ord) ZG) (zR:∀ x∈ZG,∀ y∈R,ord x<ord y) {Q:ForInStep WS->SortSt->Prop}
  (h:∀ nh st',km blt ord kd a₀ nh R st'->Q (.yield (none,(ba Bs).length+n)) st'):wpS (model prog w) A E s (xM jy (ba Bs).length n) Q st:=by
 have Dc:∀ nh st',km blt ord kd a₀ nh (ZG++R) st'->wpS (model prog w) A E s (Cw (ba Bs).length n) Q st':=λnh st' I'=>by
  refine wpS_bind (wpS_modify (wpS_pure (h (nh++[(ZG,0)]) _ ?_)))
  have e:(ba nh).length=(ba Bs).length:=Yw (I'.len.trans I.len.symm)
  have:=I'.push hn hZ hs zR
  rw[e] at this
  exact this
 refine wpS_bind (wpS_get ?_)
 split
 ·rename_i s1 n1 p1 hb
  have fK:Bs≠[]:=λe=>by
   have h1:(pendingOf st).toList=[]:=by rw[I.pend,e];rfl
   rw[Array.toList_eq_nil_iff.mp h1] at hb
   exact nomatch hb
  generalize power' jy (2 * s1+n1) (2 * s1+n1+n1+n) jy=pw
  refine wpS_bind (wpS_mono (wpS_forRange (I:=λ_ (c:VS) st'=>c.1=none/\∃ nh,km blt ord kd a₀ nh (ZG++R) st'/\nh≠[]) (λx c st' _ _ q=>?_) (λ_ _ q=>q) ⟨rfl,Bs,I,fK⟩) λc st' q=>?_)
  ·exact aB q.2 λnh I' h'=>zL S hU I' h' ⟨rfl,nh,I',h'⟩ λB2 cK I2 h2=>⟨rfl,B2,I2,h2⟩
  ·rw[q.1]
   refine aB q.2 λnh I' h'=>nW (E0 h') λL x e=>?_
   rw[e] at I'
   exact wpS_bind (wpS_modify (Dc _ _ (km.repower (X:=x.1) (p:=x.2) I' pw)))
 ·exact Dc Bs st I
theorem Dt (S:SO prog w A E s blt kd U) {Q:Unit->SortSt->Prop} (hU:∀ x∈a₀,U x) (hk:kindOf st=kd) (hf:failedOf st=none) (hp:pendingOf st=#[]) (e:(arrOf st).toList=a₀) (asc:a₀.Pairwise λx y=>ord x<ord y)
  (h:∀ ZG st',jt (rr blt ord) ZG->ZG.Perm a₀->(arrOf st').toList=ZG->failedOf st'=none->Q () st'):wpS (model prog w) A E s sortRuns' Q st:=by
 rw[Fi]
 refine wpS_bind (wpS_get ?_)
 rw[show (arrOf st).size=a₀.length by rw[<-UO,e]]
 generalize minRun' a₀.length a₀.length 0=mr
 refine wpS_bind (wpS_mono (wpS_forRange (I:=λx (c:WS) st'=>c.1=none/\∃ Bs R,km blt ord kd a₀ Bs R st'/\(ba Bs).length=c.2/\R.Pairwise (λx y=>ord x<ord y)/\(x<=c.2\/a₀.length<=c.2)) (Q:=λ(c:WS) st'=>c.1=none/\∃ Bs,km blt ord kd a₀ Bs [] st') (λx c st' j hx q=>?_) (λc st' q=>⟨q.1,?_⟩) ⟨rfl,[],a₀,⟨hk,hf,by rw[hp];rfl,e,(λj h=>nomatch h),Wc _ _,.refl _⟩,rfl,asc,.inl (Un _)⟩) λc st' q=>?_)
 ·refine DD q.2 λBs R I hl ha Pd=>?_
  have cm:=I.len
  unfold Me
  rw[<-hl]
  refine cg (λjG=>wpS_pure ⟨rfl,Bs,?_⟩) λjG=>?_
  ·rw[I.none jG] at I;exact I
  have cE:(ba Bs).length<a₀.length:=Wj.mp jG
  have hR:R.length=a₀.length - (ba Bs).length:=by rw[<-cm,U0]
  have Pd:x<=(ba Bs).length:=Ug Pd (λh=>hl ▸ h) λh=>absurd (hl ▸ h) jG
  have uR:∀ y∈R,U y:=λy hy=>hU y (I.pm.mem_iff.mp (Uz _ hy))
  -- the state behind a run found
  have aG:∀ {n r5 Z' R'},cw st' r5->fi blt ord (ba Bs) R [] Z' R' n (arrOf r5).toList->km blt ord kd a₀ Bs (Z'++R') r5:=λ{n r5 Z' R'} hs L=>by
   have a:=U7.mp I.bf
   refine⟨hs.k.trans I.kind,hs.f.trans I.failed,by rw[hs.p];exact I.pend,by rw[L.arr,Uu],I.ok,U7.mpr ⟨a.1,Wc _ _,λb hb c hc=>?_⟩,(L.pm.append_left _).trans I.pm⟩
   rw[O'.mp hc]
   exact λx hx y hy=>a.2.2 b hb _ z' x hx y (L.pm.mem_iff.mp hy)
  have step:∀ {P:ForInStep WS->SortSt->Prop},(∀ c' PT,(c'.1=none/\∃ Bs R,km blt ord kd a₀ Bs R PT/\(ba Bs).length=c'.2/\R.Pairwise (λx y=>ord x<ord y)/\(x+1<=c'.2\/a₀.length<=c'.2))->P (.yield c') PT)->∀ {n r5 Z' R'},1<=n->cw st' r5->fi blt ord (ba Bs) R [] Z' R' n (arrOf r5).toList->wpS (model prog w) A E s (xM a₀.length (ba Bs).length n) P r5:=λ{P} hP {n r5 Z' R'} h1 hs L =>
   zQ S hU (aG hs L) L.len h1 L.so L.bf λnh PT I4=>hP _ _ ⟨rfl,nh,R',I4,Yw ((I4.len.trans cm.symm).trans (by rw[Vg,L.rest])),L.asc,.inl (VY Pd h1)⟩
  refine wpS_bind (zH S I.kind (P:=ba Bs) (R:=R) (T:=[]) rfl uR (VX cE) (by rw[Uu];exact I.arr) hR ha λn cK yz yA hA=>gA (show ∃ ZG R',cw st' cK/\fi blt ord (ba Bs) R [] ZG R' n (arrOf cK).toList from N' hA.2 λZG q=>N' q λR' L=>⟨ZG,R',hA.1,L⟩) λZG R' hs L=>?_)
  refine cg (λSR=>wpS_bind (wpS_lift (wpAny_rule ⟨rfl,?_⟩))) λj=>step (λj j q=>q) yz hs L
  have oj:min (a₀.length - (ba Bs).length) mr<=R.length:=by rw[hR];exact Wp _ _
  have Lj:n<=min (a₀.length - (ba Bs).length) mr:=Zo.mpr ⟨yA,UD SR⟩
  generalize min (a₀.length - (ba Bs).length) mr=force at oj Lj
  have jI:=L.rest
  have ht:force - n<=R'.length:=by
   rw[<-jI] at oj
   exact Nat.sub_le_iff_le_add'.mpr oj
  have JE:=Uy (force - n) R'
  have Kj:=L.asc
  rw[<-JE] at Kj
  have sp:=U7.mp Kj
  have L1:fi blt ord (ba Bs) (ZG++R'.take (force - n)) (R'.drop (force - n)) ZG (R'.take (force - n)) ZG.length (arrOf cK).toList:=⟨by rw[L.arr,Uu,JE],rfl,L.so,.refl _,λy hy z hz=>L.bf y hy z (UB hz),sp.1⟩
  rw[<-L.len]
  refine wpS_bind (ug S (hs.k.trans I.kind) rfl (λy hy=>uR y (L.pm.mem_iff.mp (Ug (Uk.mp hy) (UE _) λhy=>Uz _ (UB hy)))) (by rw[L.len];exact yz) (by rw[L.len,UT,U4 ht,VZ Lj]) L1 λZ' r5 GM L3=>bM Uq (step (λj j q=>q) (Z':=Z') (R':=R'.drop (force - n)) (B' yz Lj) (hs.trans GM) ?_))
  have pm:=L3.pm
  rw[Uu] at pm
  refine⟨by rw[L3.arr,Uu,Zi],L3.len,L3.so,?_,λy hy z hz=>?_,sp.2.1⟩
  ·refine (pm.append_right _).trans ?_
   rw[Uf,JE];exact L.pm
  ·exact Ug (Uk.mp (pm.mem_iff.mp hy)) (λhy=>L.bf y hy z (UW hz)) λhy=>sp.2.2 y hy z hz
 ·refine DD q.2 λBs R I hl ha hx=>⟨Bs,?_⟩
  have h2:a₀.length<=(ba Bs).length:=Ug hx (λh=>by rw[VD (UJ _)] at h;exact hl ▸ h) λh=>hl ▸ h
  rw[I.none h2] at I;exact I
 ·rw[q.1]
  refine N' q.2 λBs I=>?_
  have cm:=I.len
  refine wpS_bind (wpS_mono (wpS_forRange (I:=λx (d:VS) cK=>d.1=none/\∃ Bs,km blt ord kd a₀ Bs [] cK/\(Bs.length+x<=a₀.length+1\/Bs.length<=1)) (Q:=λ(d:VS) cK=>d.1=none/\∃ Bs,km blt ord kd a₀ Bs [] cK/\Bs.length<=1) (λx d cK j hx q=>?_) (λd cK q=>⟨q.1,?_⟩) ⟨rfl,Bs,I,.inl (UX (cm ▸ sN λb hb=>(I.ok b hb).pos))⟩) λd cK q=>?_)
  ·refine aB q.2 λBs I hl=>wpS_bind (wpS_get ?_)
   unfold Hk
   rw[I.size]
   refine cg (λh1=>wpS_pure ⟨rfl,Bs,I,h1⟩) λh1=>?_
   have hl2:=Wj.mp h1
   have p2:=Mf hl2
   have PO:∀ (c:Prop) [Decidable c],(if c then Bs.length - 2 - 1 else Bs.length - 2)+1<Bs.length:=λc j=>by
    split
    ·exact UR (U8 (VG _ _)) p2
    ·exact p2
   refine wpS_bind (lw S hU I (PO _) λnh r5 I' h2=>bM Uq (wpS_pure ⟨rfl,nh,I',.inl ?_⟩))
   have fT:Bs.length+x<=a₀.length+1:=Ug hl (λh=>h) λh=>absurd h h1
   rw[<-h2,Wl] at fT
   exact fT
  ·refine aB q.2 λBs I hl=>⟨Bs,I,Ug hl (λh=>?_) λh=>h⟩
   rw[VD (UJ _),V9] at h
   exact Wn h
  ·rw[q.1]
   refine aB q.2 λBs I hl=>wpS_pure ?_
   match Bs,I,hl with
   | [],I,_=>exact h [] cK .nil I.pm I.arr I.failed
   | [b],I,_ =>
    have eF:ba [b]++[]=b.1:=by show (b.1++[])++[]=b.1;rw[Uu,Uu]
    exact h b.1 cK (I.ok b z').so (eF ▸ I.pm) (eF ▸ I.arr) I.failed
   | _::_::_,_,hl=>exact absurd hl (Wj.mpr (WY (Xq _)))
end
end Lar
namespace Lar
open PySem PyProof.Rows PySem.W
theorem kT:∀ (x y:List Int),bK x y=true->bK y x=false
 | [],[],h=>nomatch h
 | [],_::_,_=>rfl
 | _::_,[],h=>nomatch h
 | a::x,b::y,h=>by
  replace h:(decide (a<b)||(a==b&&bK x y))=true:=h
  show (decide (b<a)||(b==a&&bK y x))=false
  simp only[Vn,decide_eq_true_eq,Uv,beq_iff_eq] at h
  rw[Ws,decide_eq_false_iff_not,Xy,beq_eq_false_iff_ne]
  rcases h with h | ⟨rfl,h⟩
  ·exact⟨Vj.mpr (Wt h),.inl (YZ h)⟩
  ·exact⟨W8 _,.inr (kT x y h)⟩
theorem qe:∀ (x y z:List Int),bK x y=true->bK y z=true->bK x z=true
 | [],[],_,h,_=>nomatch h
 | [],_::_,[],_,h=>nomatch h
 | [],_::_,_::_,_,_=>rfl
 | _::_,[],_,h,_=>nomatch h
 | _::_,_::_,[],_,h=>nomatch h
 | a::x,b::y,c::z,h,h'=>by
  replace h:(decide (a<b)||(a==b&&bK x y))=true:=h
  replace h':(decide (b<c)||(b==c&&bK y z))=true:=h'
  show (decide (a<c)||(a==c&&bK x z))=true
  simp only[Vn,decide_eq_true_eq,Uv,beq_iff_eq] at h h' ⊢
  rcases h with h | ⟨rfl,h⟩
  ·rcases h' with h' | ⟨rfl,_⟩
   ·exact .inl (WT h h')
   ·exact .inl h
  ·rcases h' with h' | ⟨rfl,h'⟩
   ·exact .inl h'
   ·exact .inr ⟨rfl,qe x y z h h'⟩
theorem kU:∀ (x y z:List Int),bK x z=true->bK x y=true\/bK y z=true
 | [],_,[],h=>nomatch h
 | [],[],_::_,_=>.inr rfl
 | [],_::_,_::_,_=>.inl rfl
 | _::_,_,[],h=>nomatch h
 | _::_,[],_::_,_=>.inr rfl
 | a::x,b::y,c::z,h=>by
  replace h:(decide (a<c)||(a==c&&bK x z))=true:=h
  show (decide (a<b)||(a==b&&bK x y))=true\/(decide (b<c)||(b==c&&bK y z))=true
  simp only[Vn,decide_eq_true_eq,Uv,beq_iff_eq] at h ⊢
  rcases X8 a b with Gy | rfl | Gy
  ·exact .inl (.inl Gy)
  ·rcases h with h | ⟨rfl,h⟩
   ·exact .inr (.inl h)
   ·refine Ug (kU x y z h) (λq=>?_) (λq=>?_)
    ·exact .inl (.inr ⟨rfl,q⟩)
    ·exact .inr (.inr ⟨rfl,q⟩)
  ·rcases h with h | ⟨rfl,_⟩
   ·exact .inr (.inl (WT Gy h))
   ·exact .inr (.inl Gy)
theorem xi:∀ (x y:List Int),bK x y=false->bK y x=false->x=y
 | [],[],_,_=>rfl
 | [],_::_,h,_=>nomatch h
 | _::_,[],_,h=>nomatch h
 | a::x,b::y,h,h'=>by
  replace h:(decide (a<b)||(a==b&&bK x y))=false:=h
  replace h':(decide (b<a)||(b==a&&bK y x))=false:=h'
  rw[Ws,decide_eq_false_iff_not,Xy,beq_eq_false_iff_ne] at h h'
  have e:a=b:=UG (Vj.mp h'.1) (Vj.mp h.1)
  subst e
  rw[xi x y (h.2.resolve_left λq=>q rfl) (h'.2.resolve_left λq=>q rfl)]
inductive uD (h:Heap):Value->List Int->Prop
 | one (k:Int) (t:Tok):uD h (.int k t) [k]
 | two {a:Addr} (x y:Int) (t u:Tok):h.IsTuple a #[.int x t,.int y u]->uD h (.ref a) [x,y]
noncomputable def JP (h:Heap):Value->List Int
 | .int k _=>[k]
 | .ref a=>match h.get? a with
  | some o=>match o.data with
   | .seq xs _=>xs.toList.map numOf
   | _=>[]
  | none=>[]
 | _=>[]
theorem uD.eq {h:Heap} {v:Value} {l:List Int} (x:uD h v l):JP h v=l:=by
 cases x with
 | one=>rfl
 | two x y t u ht =>
  obtain ⟨o,ho,_,n,hd⟩:=ht
  show (match h.get? _ with
   | some o=>match o.data with
    | .seq xs _=>xs.toList.map numOf
    | _=>[]
   | none=>[])=_
  rw[ho]
  dsimp only
  rw[hd]
  rfl
section
variable {prog:Program} {w:World} {A:Around} {E:Value->Shared->Prop} {s:Shared}
theorem IW {x y:Addr} {a b c d:Int} {t u v z:Tok} {Q:Bool->Shared->Prop} (hx:s.heap.IsTuple x #[.int a t,.int b u]) (hy:s.heap.IsTuple y #[.int c v,.int d z]) (h:Q (bK [a,b] [c,d]) s) :
  wpAny (model prog w) A (keyLt' (tuples' true) (.ref x) (.ref y)) Q E s:=by
 obtain ⟨ox,S0,_,nx,Sr⟩:=hx
 obtain ⟨oy,S3,_,ny,Ss⟩:=hy
 refine kat_lt S0 Sr S3 Ss (kat_cons (wpAny_eqBool_int ?_))
 have e:bK [a,b] [c,d]=(decide (a<c)||(a==c&&(decide (b<d)||(b==d&&false)))):=rfl
 rw[e] at h
 cases hac:a==c with
 | true =>
  have Oe:a=c:=beq_iff_eq.mp hac
  refine kat_yes (kat_cons (wpAny_eqBool_int ?_))
  rw[hac,Oe,decide_eq_false (W8 c),YI,W'] at h
  cases hbd:b==d with
  | true =>
   have Of:b=d:=beq_iff_eq.mp hbd
   rw[Of,decide_eq_false (W8 d),Xp,YI] at h
   exact kat_yes (kat_nil h)
  | false =>
   rw[Xp,XD] at h
   refine kat_no (kat_one _ _ (lt_int ?_))
   exact h
 | false =>
  rw[hac,Bool.false_and,XD] at h
  exact kat_no (oneLt_int h)
theorem FC {kd:SortKind} {n:Nat} (hk:(n=1/\kd=oneType')\/(n=2/\kd=tuples' true)) :
  SO prog w A E s (λx y=>bK (JP s.heap x.1) (JP s.heap y.1)) kd (λx=>∃ l,uD s.heap x.1 l/\l.length=n):=by
 refine⟨λx y hx hy st Q gR hq=>?_,λx y=>kT _ _,λx y z=>qe _ _ _,λx y z=>kU _ _ _⟩
 obtain ⟨lx,kx,nx⟩:=hx
 obtain ⟨ly,ky,ny⟩:=hy
 rw[kx.eq,ky.eq] at hq
 rw[lt'_eq]
 refine wpS_bind (wpS_get ?_)
 rw[gR]
 obtain ⟨vx,ix⟩:=x
 obtain ⟨vy,iy⟩:=y
 rcases hk with ⟨rfl,rfl⟩ | ⟨rfl,rfl⟩
 ·cases kx with
  | two _ _ _ _ _=>exact nomatch nx
  | one k t =>
   cases ky with
   | two _ _ _ _ _=>exact nomatch ny
   | one k' t' =>
    rw[keyLt'_oneType]
    refine wpS_bind (wpS_lift (wpAny_attempt (oneLt_int ⟨rfl,?_⟩)))
    refine wpS_pure ?_
    have e:bK [k] [k']=(decide (k<k')||(k==k'&&false)):=rfl
    rw[e,Xp,XD] at hq
    exact hq
 ·cases kx with
  | one _ _=>exact nomatch nx
  | two a b t u hx =>
   cases ky with
   | one _ _=>exact nomatch ny
   | two c d v z hy=>exact wpS_bind (wpS_lift (wpAny_attempt (IW hx hy ⟨rfl,wpS_pure hq⟩)))
end
theorem xf {p q:KP} (h:jx p q=true):jx q p=false:=by
 unfold jx at h ⊢
 cases h1:bK p.1 q.1 with
 | true=>rw[kT _ _ h1];rfl
 | false =>
  rw[h1] at h
  cases h2:bK q.1 p.1 with
  | true=>rw[h2] at h;exact nomatch h
  | false =>
   rw[h2] at h
   have h:decide (p.2<q.2)=true:=h
   show (false||(!false&&decide (q.2<p.2)))=false
   rw[decide_eq_false (Vj.mpr (Wt (of_decide_eq_true h)))];rfl
theorem BL {p q:KP} (h:jx p q=false):p=q\/jx q p=true:=by
 unfold jx at h ⊢
 rw[Ws] at h
 cases h2:bK q.1 p.1 with
 | true=>exact .inr rfl
 | false =>
  rw[h2] at h
  have h3:decide (p.2<q.2)=false:=h.2
  have e:=xi _ _ h.1 h2
  rcases X8 q.2 p.2 with g | g | g
  ·refine .inr ?_
   rw[h.1,decide_eq_true g];rfl
  ·exact .inl (Prod.ext e g.symm)
  ·exact absurd g (of_decide_eq_false h3)
theorem BM {p q r:KP} (h:jx p q=true) (h':jx q r=true):jx p r=true:=by
 unfold jx at h h' ⊢
 cases h1:bK p.1 r.1 with
 | true=>rfl
 | false =>
  refine Ug (Vu.mp h) (λa=>?_) (λa=>?_)
  ·refine Ug (kU _ r.1 _ a) (λb=>?_) (λb=>?_)
   ·rw[h1] at b;exact nomatch b
   ·refine Ug (Vu.mp h') (λc=>?_) (λc=>?_)
    ·rw[kT _ _ b] at c;exact nomatch c
    ·rw[b] at c;exact nomatch c
  ·refine aR (Up.mp a) λa1 a2=>?_
   refine Ug (Vu.mp h') (λc=>?_) (λc=>?_)
   ·refine Ug (kU _ p.1 _ c) (λb=>?_) (λb=>?_)
    ·rw[b] at a1;exact nomatch a1
    ·rw[h1] at b;exact nomatch b
   ·refine aR (Up.mp c) λc1 c2=>?_
    cases h2:bK r.1 p.1 with
    | true =>
     refine Ug (kU _ q.1 _ h2) (λb=>?_) (λb=>?_)
     ·rw[b] at c1;exact nomatch c1
     ·rw[b] at a1;exact nomatch a1
    | false =>
     show (false||(!false&&decide (p.2<r.2)))=true
     rw[decide_eq_true (WT (of_decide_eq_true a2) (of_decide_eq_true c2))];rfl
theorem lW (p:KP):∀ l:List KP,(yE p l).Perm (p::l)
 | []=>.refl _
 | q::r=>by
  unfold yE
  split
  ·exact ((lW p r).cons q).trans (.swap ..)
  ·exact .refl _
theorem eK:∀ l:List KP,(ej l).Perm l
 | []=>.refl _
 | p::r=>(lW p _).trans ((eK r).cons p)
noncomputable def lI (p q:KP):Prop:=jx q p=false
theorem vD {p q r:KP} (h:lI p q) (h':lI q r):lI p r:=by
 unfold lI at *
 cases h2:jx r p with
 | false=>rfl
 | true =>
  refine Ug (BL h) (λe=>?_) (λe=>?_)
  ·subst e;rw[h2] at h';exact nomatch h'
  ·rw[BM h2 e] at h';exact nomatch h'
set_option tactic.hygienic true in
theorem mo (p:KP):∀ {l:List KP},l.Pairwise lI->(yE p l).Pairwise lI
 | [],_=>Ur.mpr ⟨(λ_ h=>nomatch h),.nil⟩
 | q::r,h=>by
  refine aR (Ur.mp h) λh1 h2=>?_
  unfold yE
  split
  ·rename_i hq
   refine Ur.mpr ⟨λz hz=>?_,mo p h2⟩
   rcases Uh.mp ((lW p r).mem_iff.mp hz) with rfl | hz
   ·exact xf hq
   ·exact h1 z hz
  ·rename_i hq
   have QJ:lI p q:=Xr.mpr hq
   refine Ur.mpr ⟨λz hz=>?_,h⟩
   rcases Uh.mp hz with rfl | hz
   ·exact QJ
   ·exact vD QJ (h1 z hz)
theorem ip:∀ l:List KP,(ej l).Pairwise lI
 | []=>.nil
 | p::r=>mo p (ip r)
theorem tT {l m:List KP} (hp:m.Perm l) (hs:m.Pairwise lI):m=ej l :=
 List.Perm.eq_of_pairwise (le:=lI) (λa b z z g1 g2=>by
  refine Ug (BL g1) (λe=>?_) (λe=>?_)
  ·exact e.symm
  ·rw[g2] at e;exact nomatch e) hs (ip l) (hp.trans (eK l).symm)
end Lar
namespace Lar
open PySem PyProof.Rows PySem.Calls PySem.SeqAt
theorem rt {g:G} {J:List Addr} {h:Heap} {v:V} {a:Value} {l:List Int} (hk:pB v=some l) (x:VR g J h v a):uD h a l/\((l.length=1/\∃ k t,a=.int k t)\/(l.length=2/\∃ c o xs n k t,a=.ref c/\h.get? c=some o/\o.cls=.type "tuple" /\ o.data=.seq xs n/\xs[0]? = some (.int k t))):=by
 revert hk;apply VR.el x
 case int =>
  intro i t hk
  apply dE hk
  exact⟨.one i t,.inl ⟨rfl,i,t,rfl⟩⟩
 case tup =>
  intro m c vs ht hz hv hn hk
  match m,hk,hv with
  | [],hk,_=>exact no hk
  | [_],hk,_=>exact no hk
  | _::_::_::_,hk,_=>exact no hk
  | [p,q],hk,hv =>
   refine aT (m:=pg p) hk λi hi hk=>?_
   refine aT hk λj hj hk=>?_
   apply dE hk
   refine kF (wa hv) λap aq q3 hp hq=>?_;subst q3
   refine N' (vI hi hp) λt q2=>?_;subst q2
   refine N' (vI hj hq) λu q2=>?_;subst q2
   refine⟨.two i j t u ht,.inr ⟨rfl,?_⟩⟩
   obtain ⟨o,ho,hc,n,hd⟩:=ht
   exact⟨c,o,_,n,i,t,rfl,ho,hc,hd,rfl⟩
 case none=>intro hk;exact no hk
 case bool=>intro _ hk;exact no hk
 case str=>intro _ _ hk;exact no hk
 case ref=>intro _ _ _ hk;exact no hk
 case ro=>intro _ _ _ _ _ _ hk;exact no hk
inductive cV:List V->List KP->Prop
 | nil:cV [] []
 | cons {v:V} {p:KP} {vs:List V} {ps:List KP}:pB v=some p.1->cV vs ps->cV (v::vs) (p::ps)
section
variable {g:G} {A:Around} {E:Value->Shared->Prop} {J:List Addr} {H:ag} {s:Shared}
structure Mz (g:G) (J:List Addr) (H:ag) (s₀:Shared) (a kS:Addr) (e1:Nat) (kvs:List V) (i:Nat) (s':Shared):Prop where
 S:SE J s₀.heap J s'.heap
 R:ak g J H s'.heap
 T:bz s₀ s'
 ha:s'.heap.get? a=some (seqObj "list" #[] e1)
 hk:∃ kA e,s'.heap.get? kS=some (seqObj "list" kA e)/\bi g J s'.heap (kvs.take i) kA.toList
noncomputable def J5 (g:G) (J:List Addr) (H:ag) (v:V) (s':Shared) (k:Value) (mD:Shared):Prop:=SE J s'.heap J mD.heap/\ak g J H mD.heap/\bz s' mD/\VR g J mD.heap v k
theorem oQ {c:String} {xs:Array Value} {n:Nat} (hc:c = "list"):¬ iM (seqObj c xs n):=by apply aV hc;exact lZ rfl
theorem SE.mvOne {a6 h h':Heap} {a:Addr} (S:SE J a6 J h) (R':ak g J H h') (hs:Heap.SameBut a h h') (h0:a6.get? a=none):SE J a6 J h' :=
 cD.mv (wr:=[a]) S R' (λb o hb z e=>hs.extBut b o (by simpa using hb) e) (λz q=>q) (by simpa using h0)
theorem nC {h h':Heap} {a:Addr} {xs:Array Value} {n:Nat} (R:ak g J H h) (hs:Heap.SameBut a h h') (ho:h.get? a=some (seqObj "list" xs n)) (ha:a∉J) (hB:g.B.get? a=none):ak g J H h' :=
 R.other ha hB (λb o hb e=>hs.extBut b o hb e) λo e=>by rw[ho] at e;cases e;exact oQ rfl
theorem FN {h h':Heap} {a:Addr} {xs:Array Value} {n:Nat} (hs:Heap.SameBut a h h') (ho:h.get? a=some (seqObj "list" xs n)) {l:List V} {vs:List Value} (x:bi g J h l vs):bi g J h' l vs :=
 x.stepT (λz z e=>e) λb o e hh hn=>⟨hs.extBut b o (by rintro rfl;rw[ho] at e;cases e;exact oQ rfl hh) e,hn⟩
set_option maxHeartbeats 1000000 in
theorem BH {s₀:Shared} {a kS:Addr} {e1:Nat} {kvs:List V} {st:SortSt} {out:List V} {P:PySem.Fin->Shared->Prop} (ZF:Mz g J H s₀ a kS e1 kvs kvs.length s) (Bm:kS≠a) (mZ:a∉J) (vh:kS∉J) (Gw:s₀.heap.get? a=none) (jH:s₀.heap.get? kS=none) (Gx:g.B.get? a=none) (JJ:g.B.get? kS=none)
  (hz:kvs.length<=10000000) (gR:(arrOf st).size=kvs.length) (hf:failedOf st=none) (Iy:∀ h,bi g J h out ((arrOf st).map (·.2)).toList)
  (h:∀ h' tk c,SE J s₀.heap J h'->ak g J H h'->bz s₀ {s with heap:=h',toks:=tk}->h'.get? a=some (seqObj "list" ((arrOf st).map (·.2)) c)->P (.done (.ret .none)) {s with heap:=h',toks:=tk}) :
  wpAny (model g.prog g.w) A (ksk_tail a false e1 (.ref kS) st) P E s:=by
 refine gA ZF.hk λkA e hk r1=>?_
 have cm:kA.size<=kvs.length:=by
  have h1:=r1.length
  rw[UZ] at h1
  rw[h1,UO];exact Un _
 have sl:(10000000:Nat)<=sizeLine:=VM rfl
 have s1:=Heap.SameBut.update s.heap kS (Obj.mapSeq λz=>(#[]:Array Value))
 have R1:=nC ZF.R s1 hk vh JJ
 have S1:=SE.mvOne ZF.S R1 s1 jH
 have M8:(s.heap.update kS (Obj.mapSeq λz=>(#[]:Array Value))).get? a=some (seqObj "list" #[] e1):=(s1.2 a Bm.symm).trans ZF.ha
 have s2:=Heap.SameBut.update (s.heap.update kS (Obj.mapSeq λz=>(#[]:Array Value))) a (Obj.mapSeq λz=>(arrOf st).map (·.2))
 have R2:=nC R1 s2 M8 mZ Gx
 have S2:=SE.mvOne S1 R2 s2 Gw
 obtain ⟨c2,JF⟩:∃ c2,((s.heap.update kS (Obj.mapSeq λz=>(#[]:Array Value))).update a (Obj.mapSeq λz=>(arrOf st).map (·.2))).get? a=some (seqObj "list" ((arrOf st).map (·.2)) c2):=⟨_,get?_update_seq M8 λz=>(arrOf st).map (·.2)⟩
 unfold ksk_tail
 try dsimp only
 refine wpAny_bind (listUpdate_at hk rfl ?_ (B' cm (B' hz sl)) (UJ _))
 refine wpAny_bind (wpAny_letGo ?_)
 refine wpAny_bind (seqEpoch_at M8 rfl ?_)
 refine wpAny_bind (listUpdate_at M8 rfl ?_ (UJ _) (B' (UV (Array.size_map ..)) (UX (B' (UV gR) (B' hz sl)))))
 rw[hf]
 simp only[bne_self_eq_false,Wk,if_false]
 exact wpAny_pure (h _ _ c2 S2 R2 (ZF.T.trans ⟨rfl,rfl,rfl⟩) JF)
end
end Lar
namespace Lar
open PySem PyProof.Rows PySem.Calls PySem.SeqAt PySem.W
noncomputable def i9 (ps:List KP):List V:=ps.map λp=>.int p.2
noncomputable def Fc (x:Keyed):Nat:=(numOf x.2).toNat
noncomputable def vC (h:Heap) (x:Keyed):KP:=(JP h x.1,numOf x.2)
theorem tK:∀ {ns:List Int} {a:Int},fw a ns=true->∀ n∈ns,a<n
 | m::r,a,h,n,hn=>by
  refine aR (Up.mp (show (decide (a<m)&&fw m r)=true from h)) λh1 h2=>?_
  have h1:=of_decide_eq_true h1
  rcases Uh.mp hn with rfl | hn
  ·exact h1
  ·exact WT h1 (tK h2 n hn)
theorem Dh {a b:Int} (h:-1<a) (Gy:a<b):a.toNat<b.toNat:=by exact jT (y4 0x1c2311b1010b2112b03 rfl Gy (X9 _) (Vf (y1 0xc00811b0e1808 rfl h)))
theorem th {a b:Int} (h:a.toNat<b.toNat):a<b:=XU.mp λq=>absurd h (UK.mpr (Int.toNat_le_toNat q))
theorem s6 {v:Value} {vs:List Value} {ns:List Int} (x:IntsAre vs ns) (h:v∈vs):∃ m∈ns,∃ u,v=.int m u:=by
 induction x with
 | nil=>exact nomatch h
 | cons n t hr ih=>exact (Uh.mp h).elim (λe=>⟨n,z',t,e⟩) λh=>aB (ih h) λm hm e=>⟨m,H' _ hm,e⟩
theorem yd {vs:List Value} {ns:List Int} (x:IntsAre vs ns):∀ {ks:List Value} {a:Int},ks.length=vs.length->fw a ns=true->-1<=a->(ks.zip vs).Pairwise λx y=>Fc x<Fc y:=by
 induction x with
 | nil=>intro ks a hl _ _;rw[Vy.mp hl];exact .nil
 | @cons n t vs ns hr ih =>
  intro ks a hl h ha
  cases ks with
  | nil=>exact nomatch hl
  | cons k ks =>
   refine aR (Up.mp (show (decide (a<n)&&fw n _)=true from h)) λh1 h2=>?_
   have h1:=of_decide_eq_true h1
   have hn:-1<n:=V5 ha h1
   refine Ur.mpr ⟨λy hy=>?_,ih (Yd.inj hl) h2 (Wt hn)⟩
   refine aB (s6 hr (We hy).2) λm hm q=>N' q λu hu=>?_
   show n.toNat<(numOf y.2).toNat
   rw[hu]
   exact Dh hn (tK h2 m hm)
section
variable {g:G} {A:Around} {E:Value->Shared->Prop} {J:List Addr} {H:ag} {s:Shared}
theorem yF {vs:List Value} {n:Int} {ns:List Int} (h:IntsAre vs (n::ns)):∃ t us,vs=.int n t::us/\IntsAre us ns:=by
 cases h with
 | cons _ t h=>exact⟨t,_,rfl,h⟩
theorem BK {h:Heap} {kvs:List V} {ps:List KP} (x:cV kvs ps):∀ {ks vs:List Value},bi g J h kvs ks->IntsAre vs (ps.map (·.2))->(ks.zip vs).map (vC h)=ps:=by
 induction x with
 | nil=>intro ks vs y _;rw[y.nilE];rfl
 | cons hk hr ih =>
  intro ks vs y hI
  refine y.consE λa us q hv IK=>?_
  refine gA (yF hI) λt us q3 RN=>?_
  rw[q,q3,Xd,U2,ih IK RN]
  exact congrArg (· :: _) (Prod.ext (rt hk hv).1.eq rfl)
theorem EX {h:Heap} {n:Nat} {kvs:List V} {ps:List KP} (x:cV kvs ps):∀ {ks vs:List Value},bi g J h kvs ks->(∀ p∈ps,p.1.length=n)->∀ x∈ks.zip vs,∃ l,uD h x.1 l/\l.length=n:=by
 induction x with
 | nil=>intro ks vs y _ x hx;rw[y.nilE] at hx;exact nomatch hx
 | @cons v p vs ps hk hr ih =>
  intro ks ws y hn x hx
  refine y.consE λa us q hv IK=>?_
  rw[q] at hx
  cases ws with
  | nil=>exact nomatch hx
  | cons w ws =>
   refine (Uh.mp hx).elim (λe=>⟨p.1,?_,hn p z'⟩) (ih IK (λq hq=>hn q (H' _ hq)) x)
   rw[e];exact (rt hk hv).1
theorem yL {h:Heap} {kvs:List V} {ps:List KP} (x:cV kvs ps):∀ {ks:List Value},bi g J h kvs ks->(∀ p∈ps,p.1.length=1)->∃ kz,IntsAre ks kz:=by
 induction x with
 | nil=>intro ks y _;rw[y.nilE];exact⟨[],.nil⟩
 | @cons v p vs ps hk hr ih =>
  intro ks y hn
  refine y.consE λa us q hv IK=>?_
  rw[q]
  refine N' (ih IK λq hq=>hn q (H' _ hq)) λkz h1=>?_
  rcases (rt hk hv).2 with ⟨_,k,t,rfl⟩ | ⟨h2,_⟩
  ·exact⟨k::kz,.cons k t h1⟩
  ·exact nomatch h2.symm.trans (hn p z')
theorem yM {h:Heap} {kvs:List V} {ps:List KP} (x:cV kvs ps):∀ {ks:List Value},bi g J h kvs ks->(∀ p∈ps,p.1.length=2)->∃ fs,KatTups h ks fs/\fs.length=ks.length/\∀ v∈fs,∃ k t,v=Value.int k t:=by
 induction x with
 | nil=>intro ks y _;rw[y.nilE];exact⟨[],trivial,rfl,λz h=>nomatch h⟩
 | @cons v p vs ps hk hr ih =>
  intro ks y hn
  refine y.consE λa us q hv IK=>?_
  rw[q]
  refine ew (ih IK λq hq=>hn q (H' _ hq)) λfs h1 h2 h3=>?_
  rcases (rt hk hv).2 with ⟨h2,_⟩ | ⟨_,c,o,xs,n,k,t,rfl,ho,hc,hd,h0⟩
  ·exact nomatch h2.symm.trans (hn p z')
  ·exact⟨.int k t::fs,KatTups.cons ho hc hd h0 h1,congrArg (· + 1) h2,λv hv=>(Uh.mp hv).elim (λe=>⟨k,t,e⟩) (h3 v)⟩
theorem EW {v:V} {l:List Int} (h:pB v=some l):l.length=1\/l.length=2:=by
 cases v with
 | int i=>apply dE h;exact .inl rfl
 | tup m =>
  match m,h with
  | [],h=>exact no h
  | [_],h=>exact no h
  | _::_::_::_,h=>exact no h
  | [p,q],h =>
   refine aT (m:=pg p) h λi hi h=>?_
   refine aT h λj hj h=>?_
   apply dE h
   exact .inr rfl
 | none=>exact no h
 | bool _=>exact no h
 | str _=>exact no h
 | ref _=>exact no h
 | ro _=>exact no h
theorem ru {kvs:List V} {ps:List KP} (h:cV kvs ps) (hs:fH ps=true) (fK:0<ps.length):∃ n,(n=1\/n=2)/\∀ p∈ps,p.1.length=n:=by
 cases h with
 | nil=>exact absurd fK (Vq _)
 | @cons v p vs ps hk hr =>
  refine⟨p.1.length,EW hk,λq hq=>?_⟩
  have h1:=Vs.mp hs p z'
  have h2:=Vs.mp h1 q hq
  exact (beq_iff_eq.mp h2).symm
theorem ch {kvs:List V} {ps:List KP} (x:cV kvs ps):kvs.length=ps.length:=by
 induction x with
 | nil=>rfl
 | cons _ _ ih=>exact congrArg (· + 1) ih
theorem xt {h h':Heap}:∀ {ZG:List Keyed},(∀ x∈ZG,∃ n t,x.2=.int n t)->bi g J h' (i9 (ZG.map (vC h))) (ZG.map (·.2))
 | [],_=>.nil
 | x::ZG,hx=>by
  refine nW (hx x z') λn t e=>?_
  refine .cons ?_ (xt λy hy=>hx y (H' _ hy))
  show VR g J h' (.int (numOf x.2)) x.2
  rw[e];exact .int n t
theorem Fh {h:Heap} {x y:Keyed} (hr:rr (λx y=>bK (JP h x.1) (JP h y.1)) Fc x y=true):lI (vC h x) (vC h y):=by
 refine xf ?_
 unfold jx vC
 refine Ug (de.mp hr) (λhr=>?_) (λq=>aR q λh1 h2=>?_)
 ·rw[hr];rfl
 ·rw[h1,decide_eq_true (th h2)]
  exact Y0 _
theorem uk (IT:Array Value) (vs:List Value):(IT.zip vs.toArray).toList=IT.toList.zip vs:=ksk_zip IT vs
set_option maxHeartbeats 1000000 in
theorem EV {s₀:Shared} {a kS:Addr} {e1 e:Nat} {kvs:List V} {ps:List KP} {kA:Array Value} {vs:List Value} {P:PySem.Fin->Shared->Prop} (ZF:Mz g J H s₀ a kS e1 kvs kvs.length s) (Lc:s.heap.get? kS=some (seqObj "list" kA e)) (r1:bi g J s.heap kvs kA.toList) (om:cV kvs ps) (hI:IntsAre vs (ps.map (·.2))) (hr:fw (-1) (ps.map (·.2))=true) (sZ:fH ps=true)
  (Bm:kS≠a) (mZ:a∉J) (vh:kS∉J) (Gw:s₀.heap.get? a=none) (jH:s₀.heap.get? kS=none) (Gx:g.B.get? a=none) (JJ:g.B.get? kS=none) (hz:kvs.length<=10000000)
  (h:∀ h' tk c ws,SE J s₀.heap J h'->ak g J H h'->bz s₀ {s with heap:=h',toks:=tk}->h'.get? a=some (seqObj "list" (Xg ws) c)->bi g J h' (i9 (ej ps)) ws->P (.done (.ret .none)) {s with heap:=h',toks:=tk}) :
  wpAny (model g.prog g.w) A (ksk_end a false vs.toArray e1 (.ref kS) kA) P E s:=by
 have hl1:kA.toList.length=vs.length:=by rw[<-r1.length,ch om,hI.length,A']
 have DK:vs.length=kvs.length:=by rw[<-hl1,<-r1.length]
 have yy:=BK om r1 hI
 have hint:∀ x∈kA.toList.zip vs,∃ n t,x.2=.int n t:=λx hx=>by
  obtain ⟨m,_,u,e⟩:=s6 hI (We hx).2
  exact⟨m,u,e⟩
 have gJ:∀ (st:SortSt) (ZG:List Keyed),(arrOf st).toList=ZG->ZG.Perm (kA.toList.zip vs)->ZG.map (vC s.heap)=ej ps->failedOf st=none->wpAny (model g.prog g.w) A (ksk_tail a false e1 (.ref kS) st) P E s:=λst ZG hZ hp hm hf=>by
  have R9:∀ x∈ZG,∃ n t,x.2=.int n t:=λx hx=>hint x (hp.mem_iff.mp hx)
  have Iy:∀ h',bi g J h' (i9 (ej ps)) ((arrOf st).map (·.2)).toList:=λh'=>by
   rw[Array.toList_map,hZ,<-hm]
   exact xt R9
  refine BH ZF Bm mZ vh Gw jH Gx JJ hz ?_ hf Iy λh' tk c S' R' T' ho=>h h' tk c ((arrOf st).map (·.2)).toList S' R' T' (by rw[WO];exact ho) (Iy h')
  rw[<-UO,hZ,hp.length_eq,XI,hl1,Zy,DK]
 unfold ksk_end
 try dsimp only
 rw[if_neg Uq]
 by_cases h2:vs.toArray.size<2
 ·rw[if_pos h2,if_pos h2]
  refine wpAny_bind (wpAny_pure ?_)
  rw[StateT.run_pure]
  refine wpAny_bind (wpAny_pure ?_)
  try dsimp only
  rw[UM] at h2
  refine gJ (SortSt.mk' general' (kA.zip vs.toArray) #[] 7 none) (kA.toList.zip vs) (uk kA vs) (.refl _) ?_ rfl
  rw[yy]
  have OY:ps.length<2:=by rw[<-ch om,<-DK];exact h2
  match ps,OY with
  | [],_=>rfl
  | [p],_=>rfl
  | _::_::_,h=>exact absurd h (by simp only[VV];exact λq0=>zI (y3 0x1c080810b00813ba180113ba181211b282 rfl (iP _) (iA _ _) (iA _ _) (iT q0)))
 ·rw[if_neg h2,if_neg h2]
  rw[UM] at h2
  have fK:0<ps.length:=by rw[<-ch om,<-DK];exact jT (y1 0x1c00810b028 rfl (iL (UK.mp h2)))
  refine aB (ru om sZ fK) λn hn ED=>?_
  have run:∀ kd:SortKind,((n=1/\kd=oneType')\/(n=2/\kd=tuples' true))->wpAny (model g.prog g.w) A (do
    let ((),st) <-sortRuns'.run (SortSt.mk' kd (kA.zip vs.toArray) #[] 7 none)
    ksk_tail a false e1 (.ref kS) st) P E s:=λkd lV=>by
   refine wpAny_bind (wpAny_mono (Dt (E:=E) (ord:=Fc) (FC lV) (a₀:=kA.toList.zip vs) (st:=SortSt.mk' kd (kA.zip vs.toArray) #[] 7 none)
    (Q:=λz st'=>∃ ZG:List Keyed,(arrOf st').toList=ZG/\ZG.Perm (kA.toList.zip vs)/\ZG.map (vC s.heap)=ej ps/\failedOf st'=none) (EX om r1 ED) rfl rfl rfl (uk kA vs) (yd hI hl1 hr (Vk _)) λZG st' hs hp ha hf=>⟨ZG,ha,hp,?_,hf⟩) ?_ λz z x=>x)
   ·refine tT ?_ ?_
    ·rw[<-yy];exact hp.map _
    ·rw[Yb]
     exact hs.imp Fh
   ·rintro ⟨⟨⟩,st'⟩ s' ⟨rfl,ZG,hZ,hp,hm,hf⟩
    exact gJ st' ZG hZ hp hm hf
  rcases hn with rfl | rfl
  ·refine N' (yL om r1 ED) λkz SL=>?_
   rw[ksk_kind SL (by rw[<-UO,hl1];exact UK.mp h2)]
   exact wpAny_bind (wpAny_pure (run _ (.inl ⟨rfl,rfl⟩)))
  ·refine ew (yM om r1 ED) λfs ht GC Sw=>?_
   rw[show kA=kA.toList.toArray from (WO (xs:=kA)).symm]
   refine wpAny_bind (kat_kind (T:=.type "int") ht (by rw[GC,hl1];exact jT (y1 0x1c00810b028 rfl (iL (UK.mp h2)))) (λv hv=>?_) (by decide) ?_)
   ·refine nW (Sw v hv) λk t q3=>?_;apply aV q3
    exact Looks.of_pure rfl
   ·have:=run (tuples' true) (.inr ⟨rfl,rfl⟩)
    rw[show kA=kA.toList.toArray from (WO (xs:=kA)).symm] at this
    exact this
end
section
variable {g:G} {A:Around} {E:Value->Shared->Prop} {J:List Addr} {H:ag} {s:Shared}
theorem bi.snoc {h:Heap} {l:List V} {vs:List Value} {v:V} {a:Value} (x:bi g J h l vs) (y:VR g J h v a):bi g J h (l++[v]) (vs++[a]):=x.append (.one y)
noncomputable def wn (g:G) (A:Around) (J:List Addr) (H:ag) (s₀:Shared) (f:Value) (ps:List KP) (kvs:List V):Prop :=
 ∀ (j:Nat) (p:KP) (kv:V) (t:Tok),ps[j]? = some p->kvs[j]? = some kv->∀ s':Shared,SE J s₀.heap J s'.heap->ak g J H s'.heap->bz s₀ s'->∀ E,wpAny (model g.prog g.w) A (call f [.int p.2 t]) (J5 g J H kv s') E s'
set_option maxHeartbeats 1000000 in
theorem BG {s₀:Shared} {a kS:Addr} {e1:Nat} {kvs:List V} {ps:List KP} {vs:List Value} {f:Value} {P:PySem.Fin->Shared->Prop} (ZF:Mz g J H s₀ a kS e1 kvs 0 s) (om:cV kvs ps) (hI:IntsAre vs (ps.map (·.2))) (hr:fw (-1) (ps.map (·.2))=true) (sZ:fH ps=true)
  (Bm:kS≠a) (mZ:a∉J) (vh:kS∉J) (Gw:s₀.heap.get? a=none) (jH:s₀.heap.get? kS=none) (Gx:g.B.get? a=none) (JJ:g.B.get? kS=none) (hz:kvs.length<=10000000)
  (v9:wn g A J H s₀ f ps kvs)
  (h:∀ s' c ws,SE J s₀.heap J s'.heap->ak g J H s'.heap->bz s₀ s'->s'.heap.get? a=some (seqObj "list" (Xg ws) c)->bi g J s'.heap (i9 (ej ps)) ws->P (.done (.ret .none)) s') :
  wpAny (model g.prog g.w) A (ksk_rest a f false vs.toArray e1 (.ref kS)) P E s:=by
 have hl:vs.length=kvs.length:=by rw[hI.length,A',ch om]
 have sl:(10000000:Nat)<=sizeLine:=VM rfl
 unfold ksk_rest
 refine wpAny_bind (wpAny_rule ?_)
 rw[List.forIn_toArray]
 refine wpAny_bind (ksk_fold (λi s'=>Mz g J H s₀ a kS e1 kvs i s') vs 0 s ZF ?step ?done)
 case step =>
  intro j x s' hx K'
  rw[V8] at K' ⊢
  have hj:j<kvs.length:=by rw[<-hl];exact (J'.mp hx).1
  have GF:kvs[j]? = some kvs[j]:=Ue hj
  have QD:j<ps.length:=by rw[<-ch om];exact hj
  obtain ⟨t,rfl⟩:∃ t,x=.int ps[j].2 t:=by
   refine N' (ou hI hx) λt e=>?_
   rw[Um,Ue QD] at e
   exact⟨t,e⟩
  refine wpAny_bind (wpAny_attempt (wpAny_mono (v9 j ps[j] kvs[j] t (Ue QD) GF s' K'.S K'.R K'.T _) (λk mD hk=>?_) λz z x=>x))
  refine yo hk λS2 R2 T2 V2=>?_
  dsimp only
  refine gA K'.hk λkA e Lc r1=>?_
  have EG:mD.heap.get? kS=some (seqObj "list" kA e):=(S2.pres _ _ Lc vh).seq rfl
  have Sa:mD.heap.get? a=some (seqObj "list" #[] e1):=(S2.pres _ _ K'.ha mZ).seq rfl
  have OG:=r1.step K'.R S2
  have s1:=Heap.SameBut.update mD.heap kS (Obj.mapSeq (·.push k))
  obtain ⟨c2,JF⟩:∃ c2,(mD.heap.update kS (Obj.mapSeq (·.push k))).get? kS=some (seqObj "list" (kA.push k) c2):=⟨_,get?_update_seq EG (·.push k)⟩
  have dZ:kA.size<=10000000:=by
   have h1:=r1.length
   have h2:kA.toList.length=kA.size:=UO
   rw[UT] at h1
   exact B' (UV (h2.symm.trans h1.symm)) (B' (WZ _ _) hz)
  have R3:=nC R2 s1 EG vh JJ
  refine wpAny_bind (listUpdate_at EG rfl ?_ (B' dZ sl) (B' (UV (Array.size_push ..)) (U8 (B' dZ sl))))
  refine wpAny_pure ⟨rfl,SE.mvOne (K'.S.trans S2) R3 s1 jH,R3,(K'.T.trans T2).trans ⟨rfl,rfl,rfl⟩,(s1.2 a Bm.symm).trans Sa,kA.push k,c2,JF,?_⟩
  rw[X4,GF,Xm]
  exact FN s1 EG (OG.snoc V2)
 case done =>
  intro s' K'
  rw[V8,hl] at K'
  refine gA K'.hk λkA e Lc r1=>?_
  rw[UZ] at r1
  refine wpAny_bind (listItems_at Lc rfl ?_)
  exact EV K' Lc r1 om hI hr sZ Bm mZ vh Gw jH Gx JJ hz λh' tk c ws a1 a2 a3 a4 a5=>h _ c ws a1 a2 a3 a4 a5
theorem Jh {s₀:Shared} {h h':Heap} (S:SE J s₀.heap J h) (hk:∀ b o,h.get? b=some o->h'.get? b=some o):SE J s₀.heap J h':=SE.trans S (SE.keeps _ hk)
set_option maxHeartbeats 1000000 in
theorem BJ {s₀:Shared} {a:Addr} {n:Nat} {kvs:List V} {ps:List KP} {vs:List Value} {f:Value} {P:PySem.Fin->Shared->Prop} (S:SE J s₀.heap J s.heap) (R:ak g J H s.heap) (T:bz s₀ s) (ho:s.heap.get? a=some (seqObj "list" vs.toArray n)) (om:cV kvs ps) (hI:IntsAre vs (ps.map (·.2))) (hr:fw (-1) (ps.map (·.2))=true) (sZ:fH ps=true)
  (mZ:a∉J) (Gw:s₀.heap.get? a=none) (Gx:g.B.get? a=none) (hz:kvs.length<=10000000)
  (v9:wn g A J H s₀ f ps kvs)
  (h:∀ s' c ws,SE J s₀.heap J s'.heap->ak g J H s'.heap->bz s₀ s'->s'.heap.get? a=some (seqObj "list" (Xg ws) c)->bi g J s'.heap (i9 (ej ps)) ws->P (.done (.ret .none)) s') :
  wpAny (model g.prog g.w) A (ksk_tree a f false) P E s:=by
 have hl:vs.length=kvs.length:=by rw[hI.length,A',ch om]
 have sl:(10000000:Nat)<=sizeLine:=VM rfl
 have MZ:vs.length<=sizeLine:=by rw[hl];exact B' hz sl
 have s1:=Heap.SameBut.update s.heap a (Obj.mapSeq λz=>(#[]:Array Value))
 obtain ⟨e1,EH⟩:∃ e1,(s.heap.update a (Obj.mapSeq λz=>(#[]:Array Value))).get? a=some (seqObj "list" #[] e1):=⟨_,get?_update_seq ho λz=>#[]⟩
 have R1:=nC R s1 ho mZ Gx
 have S1:=SE.mvOne S R1 s1 Gw
 generalize hh1:s.heap.update a (Obj.mapSeq λz=>(#[]:Array Value))=h1 at s1 EH R1 S1
 have ut:∀ b o,h1.get? b=some o->((h1.push (seqObj "tuple" vs.toArray 0)).push (seqObj "list" #[] 0)).get? b=some o:=λb o e=>G' _ (G' _ e)
 have SK:(h1.push (seqObj "tuple" vs.toArray 0)).objs.size=h1.objs.size+1:=size_push' ..
 have Bl:h1.get? (h1.push (seqObj "tuple" vs.toArray 0)).objs.size=none:=Vl (by rw[SK];exact Wu _)
 unfold ksk_tree
 refine wpAny_bind (listItems_at ho rfl ?_)
 refine wpAny_bind (listUpdate_at ho rfl ?_ (by rw[UM];exact MZ) (UJ _))
 rw[hh1]
 refine wpAny_bind (seqEpoch_at EH rfl ?_)
 refine wpAny_bind (wpAny_newTuple ?_ MZ)
 refine wpAny_bind (wpAny_newList ?_ (UJ _))
 refine wpAny_holding ?_
 have R3:ak g J H ((h1.push (seqObj "tuple" vs.toArray 0)).push (seqObj "list" #[] 0)):=R1.keeps ut
 refine BG (s:={s with heap:=(h1.push (seqObj "tuple" vs.toArray 0)).push (seqObj "list" #[] 0)}) (s₀:=s₀) (kS:=(h1.push (seqObj "tuple" vs.toArray 0)).objs.size) ⟨Jh S1 ut,R3,T.trans ⟨rfl,rfl,rfl⟩,ut _ _ EH,#[],0,Uo _ rfl,.nil⟩ om hI hr sZ ?_ mZ ?_ Gw ?_ Gx ?_ hz v9 h
 ·intro q
  rw[q,EH] at Bl;cases Bl
 ·exact aY R1 Bl
 ·exact S1.back Bl
 ·exact aW R1 Bl
set_option maxHeartbeats 1000000 in
theorem v1 {Q2:Value} {q:Addr} {kvs:List V} {ps:List KP} (R:ak g J H s.heap)
  (Ol:∀ (Q:List Value->Shared->Prop),(∀ h' tk vs,(∀ b o,s.heap.get? b=some o->h'.get? b=some o)->IntsAre vs (ps.map (·.2))->Q vs {s with heap:=h',toks:=tk})->wpAny (model g.prog g.w) A.in1 (collect Q2) Q E s)
  (om:cV kvs ps) (hr:fw (-1) (ps.map (·.2))=true) (sZ:fH ps=true) (hz:kvs.length<=10000000) (v9:wn g A.in1.in1 J H s (.ref q) ps kvs) :
  wpAny (model g.prog g.w) A (call (.builtin "sorted") [Q2] [(WW "key", .ref q)]) (bB g J s (.ref H.length) (H++[.lst (i9 (ej ps))])) E s:=by
 have sl:(10000000:Nat)<=sizeLine:=VM rfl
 refine call_function_entry_kw kind_sorted plain_sorted entry_sorted (ksk_s1 _ _) ?_
 unfold Builtin.«sorted»
 refine wpAny_bind (m:=checkCount "sorted" 1 1 _) (wpAny_pure ?_)
 refine wpAny_bind (Ol _ λh1 T4 vs z8 hI=>?_)
 have hl:vs.length=kvs.length:=by rw[hI.length,A',ch om]
 have MZ:vs.length<=sizeLine:=by rw[hl];exact B' hz sl
 refine wpAny_bind (wpAny_newList ?_ MZ)
 have ut:∀ b o,s.heap.get? b=some o->(h1.push (seqObj "list" vs.toArray 0)).get? b=some o:=λb o e=>G' _ (z8 b o e)
 have JL:(h1.push (seqObj "list" vs.toArray 0)).get? h1.objs.size=some (seqObj "list" vs.toArray 0):=Uo _ rfl
 have R1:=R.keeps z8
 have K0:h1.get? h1.objs.size=none:=aD _
 have QC:s.heap.get? h1.objs.size=none:=eV z8 K0
 refine wpAny_bind (wpAny_holding (wpAny_call_entry_kw slot_list_sort ⟨_,JL,rfl⟩ entry_list_sort ?body (ksk_l1 _ _)))
 case body =>
  show wpAny (model g.prog g.w) A.in1.in1 (Builtin.«list.sort» ⟨[.ref h1.objs.size],[(WW "key", .ref q)]⟩) _ _ _
  rw[ksk_t1]
  refine BJ (s:={s with heap:=h1.push (seqObj "list" vs.toArray 0),toks:=T4}) (s₀:=s) (SE.keeps _ ut) (R.keeps ut) ⟨rfl,rfl,rfl⟩ JL om hI hr sZ (aY R1 K0) QC (aW R1 K0) hz v9 λs' c ws S' R' T' kM V'=>⟨_,rfl,wpAny_pure ⟨_,rfl,?_⟩⟩
  refine⟨J++[h1.objs.size],⟨S'.pres,S'.dom,[_],rfl,λb hb=>by rw[O'.mp hb];exact QC⟩,R'.more (aY R1 K0) (aW R1 K0) (.lst ⟨c,kM⟩ ?_ V') (λo e=>by rw[kM] at e;cases e;exact oQ rfl),.ref ?_,T'⟩
  ·have:(i9 (ej ps)).length=kvs.length:=by rw[i9,A',(eK ps).length_eq,ch om]
   rw[this]
   exact UX (B' hz sl)
  ·rw[<-R.len];simp
theorem AL {l:Addr} {vs:List Value} {ns:List Int} {Q:List Value->Shared->Prop} (hl:s.heap.IsList l vs.toArray) (hI:IntsAre vs ns) (hz:vs.length<=sizeLine)
  (hQ:∀ h' tk ws,(∀ b o,s.heap.get? b=some o->h'.get? b=some o)->IntsAre ws ns->Q ws {s with heap:=h',toks:=tk}):wpAny (model g.prog g.w) A (collect (.ref l)) Q E s:=by
 obtain ⟨o,ho,hc,n,hd⟩:=hl
 exact wpAny_collect_seq l (.inl rfl) ho hc hd (λh' hk=>hQ h' s.toks vs hk hI) hz
theorem w8:∀ (vs:List Value) (ns:List Int),vs.length=ns.length->(∀ (j:Nat) v,vs[j]? = some v->∃ k t,ns[j]? = some k/\v=.int k t)->IntsAre vs ns
 | [],[],_,_=>.nil
 | [],_::_,h,_=>nomatch h
 | _::_,[],h,_=>nomatch h
 | v::vs,n::ns,h,hj=>by
  refine gA (hj 0 v rfl) λk t e q4=>?_;apply aV q4
  rw[Option.some.inj e]
  exact .cons k t (w8 vs ns (Yd.inj h) λj v e=>hj (j+1) v e)
theorem yk {r:Addr} {a b c:Int} {t u v:Tok} {n:Nat} {Q:List Value->Shared->Prop} (hh:A.handled=none) (hr:IsRange s.heap r a b c t u v) (vk:Builtin.Range.small a b c=true) (hn:Builtin.Range.rangeSize a b c=n) (hz:n<=2 ^ 24)
  (hQ:∀ h' tk ws,(∀ b o,s.heap.get? b=some o->h'.get? b=some o)->IntsAre ws ((UC n).map λ(i:Nat)=>a+(i:Int) * c)->Q ws {s with heap:=h',toks:=tk}):wpAny (model g.prog g.w) A (collect (.ref r)) Q E s:=by
 unfold collect
 refine wpAny_bind (wpAny_runValue (codeAny_builtin F.entry_proto_collect ?_))
 rw[Around.under_plainId F.plain_proto_collect _]
 show wpAny _ A.in1 (newList []>>=λl=>again (.builtin "list.__iadd__" ⟨[l,.ref r],[]⟩)) _ _ s
 refine wpAny_bind (wpAny_newObj_type ?_)
 refine wpAny_pure ⟨plainId_quiet F.plain_list_iadd _,codeAny_builtin F.entry_list_iadd ?_⟩
 rw[Around.under_plainId F.plain_list_iadd _]
 show wpAny _ A.in1 (Builtin.List.listExtendWith (.ref s.heap.objs.size) (.ref r) (.ref s.heap.objs.size)) _ _ _
 refine wpAny_extend_range (A:=A) (R:=λr' s'=>match r' with
  | .ok (.ret v)=>wpAny (model g.prog g.w) A (match v with
   | .ref a=>do match (<-load a).data with
    | .seq xs _=>pure xs.toList
    | _=>unsupported "internal:collect"
   | _=>unsupported "internal:collect") Q E s'
  | .ok _=>False
  | .error e=>E e s') hh (G' _ hr) vk hn hz s.heap.objs.size _ 0 (Uo _ rfl) λh' tk mM c' hk Oa re=>?_
 show wpAny _ A (load s.heap.objs.size>>=_) _ _ _
 refine wpAny_bind (wpAny_load Oa ?_)
 refine wpAny_pure (hQ h' tk mM.toList (λb o e=>hk b o (UP (UU e)) (G' _ e)) ?_)
 refine w8 _ _ (by rw[UO,A',UN];exact re.1) λj v hv=>?_
 have hj:j<mM.size:=by rw[<-UO];exact (J'.mp hv).1
 refine N' (re.2 j v (by rw[<-Vd];exact hv)) λt e=>?_
 exact⟨a+(j:Int) * c,t,by rw[Um,VI (by rw[<-re.1];exact hj)];rfl,e⟩
end
set_option tactic.hygienic true in
theorem uG {pos:Pos} {a b:Nat} {c cv:Value}:∀ (l:List Value),TriplesOk l->codeAmong pos (l++[rawInt a,rawInt b,c])=some cv->codeAmong pos l=some cv\/cv=c:=by
 intro l
 fun_induction TriplesOk l with
 | case1 =>
  intro _ h
  have h:(if ((a:Int)==pos.line&&(b:Int)==pos.col)=true then some c else codeAmong pos [])=some cv:=h
  split at h
  ·exact .inr (Option.some.inj h).symm
  ·exact .inl h
 | case2 i t j u x aG ih =>
  intro ht h
  have h:(if (i==pos.line&&j==pos.col)=true then some x else codeAmong pos (aG++[rawInt a,rawInt b,c]))=some cv:=h
  show (if (i==pos.line&&j==pos.col)=true then some x else codeAmong pos aG)=some cv\/_
  split at h
  ·rename_i hc
   rw[if_pos hc];exact .inl h
  ·rename_i hc
   rw[if_neg hc]
   exact ih ht h
 | case3 l h1 h2=>intro ht;exact ht.elim
theorem rW {a b:Nat} {c:Value}:∀ (l:List Value),TriplesOk l->TriplesOk (l++[rawInt a,rawInt b,c]):=by
 intro l
 fun_induction TriplesOk l with
 | case1=>exact λz=>trivial
 | case2 i t j u x aG ih=>exact λh=>ih h
 | case3 l h1 h2=>exact λh=>h.elim
noncomputable def jN (h:Heap) (c:Addr) (q:Str):Prop:=∃ o vs t,h.get? c=some o/\o.cls=.type "code" /\ o.data=.fields vs/\vs[1]? = some (.str q t)
theorem jN.rec {h:Heap} {c:Addr} {q:Str} (x:jN h c q):h.CodeRec (.ref c) q:=let ⟨o,vs,t,h1,_,h2,h3⟩:=x;⟨c,o,vs,t,rfl,h1,h2,h3⟩
section
variable {prog:Program} {w:World} {A:Around} {E:Value->Shared->Prop} {s:Shared} {name qual:Str} {params:Arguments} {body:Expr} {scope:Scope} {Z:Env} {c P:Addr} {ps:Array Value} {pos:Pos} {p8:Nat} {mg:Str->Option Value} {Eh:List (Str×Addr)} {Q:Value->Shared->Prop}
theorem BW (rh:closureFor scope Z=pure Eh) (K5:Z.globals=mainGlobals) (Og:Z.builtins=builtinsNs) (hg:s.heap.Ns mainGlobals mg) (wU:Z.code=.ref c) (C:CodeHd s.heap c P) (hP:s.heap.get? P=some (tabObj ps)) (ht:TriplesOk ps.toList) (fS:∀ pos cv,codeAmong pos ps.toList=some cv->∃ c',cv=.ref c'/\jN s.heap c' qual)
  (OA:mainGlobals≠P) (hb:s.heap.BuiltinsAt mg P)
  (h:∀ c' ym h' tk Hn f pm,(∀ b o,b≠P->s.heap.get? b=some o->h'.get? b=some o)->h'.get? P=some (tabObj Hn)->TriplesOk Hn.toList->(∀ pos cv,codeAmong pos Hn.toList=some cv->∃ d,cv=.ref d/\(jN s.heap d qual\/(s.heap.get? d=none/\jN h' d qual))) ->
   (jN s.heap c' qual\/(s.heap.get? c'=none/\jN h' c' qual))->c'≠P->s.heap.get? f=none->h'.get? f=some (kla_obj name qual params body scope Eh pm c' ym)->Q (.ref f) {s with heap:=h',toks:=tk}) :
  wpAny (model prog w) A (makeFunction name qual params (.expr body) scope Z [] [] [] pos p8) Q E s:=by
 rw[makeFunction_eq]
 simp only[YL,List.filterMap_nil,Yj,if_true,pure_bind]
 have PM:∀ {d:Addr},jN s.heap d qual->d≠P:=λ⟨o,vs,t,h1,h2,_⟩ e=>by
  rw[e,hP] at h1;cases h1;cases h2
 cases hf:codeAmong pos ps.toList with
 | some cv =>
  refine aB (fS pos cv hf) λc' q2 dK=>?_;subst q2
  refine kla_makeTailHit (mg:=mg) rh K5 hg wU C hP ht hf hb λym h' tk hk dZ=>?_
  exact h c' ym _ tk ps _ _ (λb o z e=>G' _ (hk b o e)) (G' _ (hk _ _ hP)) ht (λpos cv e=>by
   refine aB (fS pos cv e) λd h1 h2=>?_
   exact⟨d,h1,.inl h2⟩) (.inl dK) (PM dK) (Vl dZ) (Uo _ rfl)
 | none =>
  refine NS hb λbm ob Sf OQ Qy OR Oh Bj k5=>?_;refine aR k5 λkJ KV=>?_
  unfold makeTail
  rw[rh,K5,Og]
  refine wpAny_bind (wpAny_pure ?_)
  have gJ:∀ (bA:Heap) (ym:Value),(∀ b o,s.heap.get? b=some o->bA.get? b=some o)->wpAny (model prog w) A (do
    let code <-functionCode Z pos p8 name qual params scope (.expr body)
    let bs <-builtinsFor mainGlobals builtinsNs
    let O <-nsGet mainGlobals "__name__"
    let doc <-(pure .none:Sem Value)
    newObj (.type "function") (.func {name:=name,qualname:=qual,params,body:=.expr body,scope,globals:=mainGlobals,closure:=Eh,closureTuple:=ym,code,builtins:=bs,defaults:=.none,kwdefaults:=.none,annotations:=none,pyModule:=O.getD .none,doc})) Q E {s with heap:=bA}:=λbA ym gQ=>by
   refine wpAny_bind (wpAny_functionCodeX (s:={s with heap:=bA}) wU ((C.keeps gQ).code (gQ _ _ hP) ht) ((C.keeps gQ).tab (gQ _ _ hP)) hf λc' h' tk hx jG cE La O1 Tg yC=>?_)
   have GD:h'.Ns mainGlobals mg:=(hg.keeps gQ).extBut hx OA
   refine wpAny_bind (wpAny_builtinsFor GD Sf OQ (hx _ _ OR (gQ _ _ Oh)) Bj kJ KV ?_)
   refine wpAny_bind (wpAny_nsGet GD ?_)
   refine qT yC λP' JD z k8 z=>?_;refine DD k8 λo vs ho SY hod z=>?_
   refine NW O1 λc2 o2 T8 t2 e1 e2 e3 e4=>?_
   cases e1
   have eo:o=o2:=Option.some.inj (ho.symm.trans e2)
   subst eo
   have fresh:s.heap.get? c'=none:=eV gQ (Vl jG)
   have lU:∀ oo,jN (h'.push oo) c' qual:=λoo=>⟨o,T8,t2,G' _ ho,SY,e3,e4⟩
   refine wpAny_bind (wpAny_pure (wpAny_newObj_type ?_ (by size_fits)))
   refine h c' ym _ tk _ h'.objs.size _ (λb o hb e=>G' _ (hx b o hb (gQ b o e))) (G' _ Tg.2) ?_ (λJf cv e=>?_) (.inr ⟨fresh,lU _⟩) ?_ ?_ (Uo _ rfl)
   ·rw[UH];exact rW _ ht
   ·rw[UH] at e
    rcases uG _ ht e with e | rfl
    ·refine aB (fS Jf cv e) λd h1 h2=>?_
     exact⟨d,h1,.inl h2⟩
    ·exact⟨c',rfl,.inr ⟨fresh,lU _⟩⟩
   ·rintro rfl
    rw[fresh] at hP;cases hP
   ·have:bA.objs.size<=h'.objs.size:=B' jG (UD cE)
    exact eV gQ (Vl this)
  cases Eh with
  | nil =>
   simp only[Yj,if_true]
   exact wpAny_bind (wpAny_pure (gJ s.heap .none λz z e=>e))
  | cons q r =>
   simp only[List.isEmpty_cons,Wk,if_false]
   exact wpAny_bind (wpAny_newTextTuple (gJ _ _ λb o e=>G' _ e))
end
theorem iD {α:Type}:∀ {l:List Str} {vs:List α} {n:Str},l.length=vs.length->n∈l->((l.zip vs).lookup n).isNone=false
 | [],_,_,_,h=>nomatch h
 | a::l,[],_,e,_=>by simp at e
 | a::l,v::vs,n,e,h=>by
  rw[Xd,U9]
  cases hb:n==a with
  | true=>rfl
  | false =>
   refine Ug (Uh.mp h) (λh=>?_) (λh=>?_)
   ·subst h;simp at hb
   ·exact iD (by simpa using e) h
theorem pH {α:Type} {l:List Str} {vs:List α} (hl:l.length=vs.length) (hn:l.Nodup):l.filterMap (λn=>((l.zip vs).lookup n).map (n,·))=l.zip vs:=by
 induction l generalizing vs with
 | nil=>simp
 | cons a l ih =>
  cases vs with
  | nil=>simp at hl
  | cons v vs =>
   rw[W6]
   simp only[Xd,U9,beq_self_eq_true,Zg]
   have j7:=VP.mp hn
   have fL:∀ (m:List Str),(∀ n∈m,n≠a)->m.filterMap (λn=>((match n==a with | true=>some v | false=>(l.zip vs).lookup n):Option α).map (n,·))=m.filterMap (λn=>((l.zip vs).lookup n).map (n,·)):=by
    intro m hm
    induction m with
    | nil=>rfl
    | cons b m Tv =>
     have hb:(b==a)=false:=by simpa using hm b z'
     rw[W6,W6,hb,Tv λn hn=>hm n (H' _ hn)]
   exact congrArg (List.cons (a,v)) ((fL l (λn hn e=>j7.1 (e ▸ hn))).trans (ih (by simpa using hl) j7.2))
theorem jY {fd:FuncData} {as:List Arg} (hp:fd.params=⟨[],as,none,[],[],none,[]⟩) (hd:fd.defaults=.none) (cC:List Value) (hl:cC.length=as.length) (hn:(as.map (·.arg)).Nodup):bindArgs fd ⟨cC,[]⟩=pure ((as.map (·.arg)).zip cC):=by
 have hm:(X1 (λx:Arg=>x.arg) as).filter (λn=>(((X1 (λx:Arg=>x.arg) as).zip cC).lookup n).isNone)=[]:=by
  rw[List.filter_eq_nil_iff]
  intro n hn
  rw[iD (by simp [hl]) hn];simp
 have hz:=pH (l:=as.map (·.arg)) (vs:=cC) (by simp [hl]) hn
 obtain ⟨name,qual,params,body,scope,globals,closure,defaults,kwd,doc,pm,code,bl⟩:=fd
 simp only at hp hd
 subst hp hd
 have h1:¬ ((decide (cC.length > (X1 (λx:Arg=>x.arg) as).length)&&true)=true):=by simp [hl]
 have h2:¬ ((!((List.take ((X1 (λx:Arg=>x.arg) as).length - 0) (X1 (λx:Arg=>x.arg) as)).filter (λn=>(((X1 (λx:Arg=>x.arg) as).zip cC).lookup n).isNone)).isEmpty)=true):=by
  rw[YW,UZ,hm];decide
 have vm:((X1 (λx:Arg=>x.arg) as)++[]).filterMap (λn=>(((X1 (λx:Arg=>x.arg) as).zip cC).lookup n).map (n,·))=(as.map (·.arg)).zip cC:=by rw[Uu];exact hz
 refine (if_neg h1).trans ?_
 rw[show ∀ i,List.drop i (Za (none:Option (Array Value)) #[]).toList=[] from λi=>YF]
 refine (if_neg h2).trans ?_
 rw[YL]
 exact congrArg (λb=>(pure b:Sem (List (Str×Value)))) vm
theorem jj {k:Str->Option NameKind} {x:Str} (hk:k x=some .local):∀ (b:List (Str×Value)) (m:Str->Option Value),(b.map (·.1)).Nodup->bindL k b m x=match b.lookup x with | some v=>some v | none=>m x
 | [],m,_=>rfl
 | (n,v)::r,m,hn=>by
  have j7:=VP.mp hn
  unfold bindL
  rw[jj hk r _ j7.2,U9]
  cases hb:x==n with
  | true =>
   have:x=n:=by simpa using hb
   subst this
   have hr:r.lookup x=none:=by
    cases q:r.lookup x with
    | none=>rfl
    | some y=>exact absurd (YC (f:=(·.1)) (mem_of_lookup q)) j7.1
   rw[hr,if_pos hk];simp
  | false =>
   have fK:x≠n:=by simpa using hb
   cases q:r.lookup x with
   | some y=>rfl
   | none =>
    by_cases Iq:k n=some .local
    ·rw[if_pos Iq];simp [fK]
    ·rw[if_neg Iq]
structure wq (scope bw:Scope) (O:List (Str×Nat)) (nx:Nat) (x:Str):Prop where
 kind:scope.kind=.function
 gen:scope.isGenerator=false
 cor:scope.isCoroutine=false
 kinds:∀ n k,(n,k)∈scope.names->k=.local\/k=.free\/k=.globalImplicit
 uniq:∀ n k,(n,k)∈scope.names->scope.names.lookup n=some k
 free:∀ n,(n,NameKind.free)∈scope.names->(bw.names.lookup n=some .cell\/bw.names.lookup n=some .free)/\∃ i,O.lookup n=some i
 par:scope.names.lookup x=some .local
 below:∀ n i,(n,i)∈O->i<nx
 lev:eW scope=false
theorem BR {scope bw:Scope} {O:List (Str×Nat)} {nx:Nat} {x:Str} (h:BP scope bw O nx x=true):wq scope bw O nx x:=by
 simp only[BP,Uv,Vs,Vn,beq_iff_eq,decide_eq_true_eq,bne_iff_ne,ne_eq,Vr,Vh] at h
 refine aR h λPp h9=>?_;refine aR Pp λTR h8=>?_;refine aR TR λTS h7=>?_;obtain ⟨⟨⟨⟨⟨h1,h2⟩,h3⟩,h4⟩,h5⟩,h6⟩:=TS
 refine⟨h1,h2,h3,λn k hm=>?_,λn k hm=>h5 (n,k) hm,λn hm=>?_,h7,λn i hm=>h8 (n,i) hm,h9⟩
 ·rcases h4 (n,k) hm with (h | h) | h
  ·exact .inl h
  ·exact .inr (.inl h)
  ·exact .inr (.inr h)
 ·refine Ug (h6 (n,.free) hm) (λh=>?_) (λh=>?_)
  ·exact absurd rfl h
  ·exact h
theorem rD {ps:Arguments} {a:Arg} (h:cO ps=true) (ha:ps.args=[a]):ps=⟨[],[a],none,[],[],none,[]⟩:=by
 obtain ⟨po,as,va,ko,kd,kw,df⟩:=ps
 simp only[cO,Uv,UQ,VF] at h
 refine aR h λPq h6=>?_;refine aR Pq λPA h5=>?_;refine aR PA λTU h4=>?_;obtain ⟨⟨h1,h2⟩,h3⟩:=TU
 simp only at ha h1 h2 h3 h4 h5 h6
 subst ha h1 h2 h3 h4 h5 h6
 rfl
section
variable {g:G} {cx:cp} {fs:List Fn} {mg mb:Str->Option Value} {A:Around} {E:Value->Shared->Prop} {J:List Addr} {H:ag} {s:Shared} {Z:Env} {O:List (Str×Nat)} {K:aN}
theorem ak.notCode {h:Heap} {d:Addr} {q:Str} (R:ak g J H h) (x:jN h d q):d∉J:=λhm=>by
 obtain ⟨i,hi,rfl⟩:=VT.mp hm
 have h1:J[i]? = some J[i]:=Ue hi
 have gf:i<H.length:=R.len ▸ hi
 obtain ⟨m,h2⟩:∃ m,H[i]? = some m:=⟨_,Ue gf⟩
 refine Eo x λo vs t ho hc hd z=>?_
 generalize J[i]=a at h1 ho
 have mr:=R.objs i a m h1 h2
 apply MR.el mr
 case lst=>intro _ _ hl _ _;refine N' hl λn e=>?_;rw[e] at ho;cases ho;cases hd
 case ds=>intro _ _ hx _ _;refine Eo hx λo' es ep e z i7 z=>?_;rw[e] at ho;cases ho;exact nomatch hd.symm.trans i7
 case own=>intro _ _ e;rw[e] at ho;cases ho;cases hd
 case wd=>intro _ _ _ hn _;refine qU hn λo' es ep e i7 z=>?_;rw[e] at ho;cases ho;exact nomatch hd.symm.trans i7
 case exn=>intro _ _ _ _ _ e dK _ _ _;rw[e] at ho;cases ho;exact nomatch hc.symm.trans dK
 case tab=>intro _ _ e _ _;rw[e] at ho;cases ho;cases hc
structure F4 (g:G) (J:List Addr) (H:ag) (Z:Env) (params:Arguments) (body:Expr) (scope:Scope) (s:Shared) (f:Addr) (s':Shared):Prop where
 S:SE J s.heap J s'.heap
 R:ak g J H s'.heap
 T:bz s s'
 fn:f∉J
 ob:∃ pm c' ym,s'.heap.get? f=some (kla_obj "<lambda>" (Z.qual ++ "<lambda>") params body scope (cY Z scope.names []) pm c' ym)/\jN s'.heap c' (Z.qual ++ "<lambda>")
theorem BV {params:Arguments} {body:Expr} {scope:Scope} {lp:Pos} {a:Arg} {nx:Nat} (G:er g cx fs mg mb) (R:ak g J H s.heap) (F:dR g J Z O K s.heap) (Ir:eW Z.scope=true) (ZF:wq scope Z.scope O nx a.arg) (hp:params=⟨[],[a],none,[],[],none,[]⟩) {Q:Value->Shared->Prop}
  (h:∀ f s',F4 g J H Z params body scope s f s'->Q (.ref f) s'):wpAny (model g.prog g.w) A (eval (.Lambda params body scope lp) Z) Q E s:=by
 refine Qf (F.tab Ir) λj c P KE hj wU RP Ob vd=>?_
 refine aR (R.tabs j _ P hj) λvn Pj=>?_
 have KI:P∈J:=Ui vn
 have Qt:g.B.get? P=none:=R.fresh P KI
 have C:CodeHd s.heap c P:=by
  refine lB (CodeHd.of RP Ob) λo vs N4 tf Kw Pu=>?_;refine NV Pu λtg Tw PW tt ho r=>?_
  exact⟨o,vs,N4,tf,Kw,tg,Tw,PW,tt,R.base _ _ (vd o ho),r⟩
 have SB:s.heap.Ns mainGlobals mg:=G.gns.keeps R.base
 have OA:mainGlobals≠P:=λq=>by
  refine mQ G.gns λo z z e z=>?_
  rw[q,Qt] at e;cases e
 refine Rq G.bmain λbm ob b1 b2 b3 b4 b5 b6=>?_
 have Qy:bm≠mainGlobals:=λq=>by
  refine qU G.gns λo es ep e hd z=>?_
  rw[q,e] at b3;cases b3;exact nomatch hd.symm.trans b6
 have Sc:bm≠P:=λq=>by rw[q,Qt] at b3;cases b3
 have cl:=jB (Z:=Z) scope λn hn=>by
  obtain ⟨h1,i,hi⟩:=ZF.free n hn
  refine gA (F.cells n i hi h1) λc u hc z=>?_
  exact⟨c,hc⟩
 have Op:defaultsOf params Z=([],[]):=by rw[hp];rfl
 have mr:=R.objs j P _ vn Pj
 cases mr with
 | @tab _ _ ps hP ht fS =>
  refine kla_eval Op (BW (prog:=g.prog) (w:=g.w) (mg:=mg) cl F.glob F.blt SB wU C hP ht (λpos cv e=>?_) OA ⟨bm,ob,b1,b2,Qy,Sc,R.base _ _ b3,b4,b5,b6⟩ λc' ym h' tk Hn f pm hk JD MV Om lU hcP hf Sx=>?_)
  ·refine NX (fS pos cv e) λc' o vs t e1 z e3 e4 e5 e6=>?_
   exact⟨c',e1,o,vs,t,e3,e4,e5,e6⟩
  ·have hd:∃ o,h'.get? P=some o:=⟨_,JD⟩
   have S:SE J s.heap J h':=⟨λb o e hb=>.inl (hk b o (by rintro rfl;exact hb KI) e),λb o e=>by
    by_cases hb:b=P
    ·apply aV hb;exact hd
    ·exact⟨o,hk b o hb e⟩,[],by simp,λz hm=>(nomatch hm)⟩
   have up:∀ {d:Addr},(jN s.heap d (Z.qual ++ "<lambda>")\/(s.heap.get? d=none/\jN h' d (Z.qual ++ "<lambda>")))->d∉J/\jN h' d (Z.qual ++ "<lambda>"):=λ{d} x=>by
    refine Ug x (λx=>?_) (λq=>aR q λx y=>?_)
    ·have hn:=R.notCode x
     refine Eo x λo vs t e1 e2 e3 e4=>?_
     exact⟨hn,o,vs,t,(S.pres _ _ e1 hn).hard (.inr ⟨e2,vs,e3⟩),e2,e3,e4⟩
    ·exact⟨aY R x,y⟩
   have R':ak g J (H.set j (.tab Z.qual)) h':=R.put vn Pj hk (.tab JD MV λpos cv e=>by
    refine aB (Om pos cv e) λd h1 h2=>?_
    obtain ⟨h3,o,vs,t,h4,h5,h6,h7⟩:=up h2
    exact⟨d,o,vs,t,h1,h3,h4,h5,h6,h7⟩) λq e=>by injection e with e;rw[e]
   have Rt:H.set j (.tab Z.qual)=H:=by
    refine N' (J'.mp Pj) λcE e=>?_
    rw[<-e];exact List.set_getElem_self cE
   rw[Rt] at R'
   exact h f _ ⟨S,R',⟨rfl,rfl,rfl⟩,aY R hf,pm,c',ym,Sx,(up lU).2⟩
end
section
variable {g:G} {cx:cp} {fs:List Fn} {mg mb:Str->Option Value} {A:Around} {E:Value->Shared->Prop} {J:List Addr} {H:ag} {s:Shared} {Z:Env} {O:List (Str×Nat)} {K:aN}
theorem yO {scope:Scope} {nx:Nat} {x:Str} {v:V} {av:Value} {bA:Heap} {L f:Addr} {q:Str} {cd:Value} (ZF:wq scope Z.scope O nx x) (R:ak g J H s.heap) (F:dR g J Z O K s.heap) (hv:VR g J s.heap v av) (hk:∀ b o,s.heap.get? b=some o->bA.get? b=some o) (hL:s.heap.get? L=none) (gh:bA.Ns L (λy=>[(x,av)].reverse.lookup y)) :
  dR g J (newEnv scope L mainGlobals (cY Z scope.names []) q (some f) cd none builtinsNs) (bN scope O nx [x]) (cn K nx v) bA:=by
 have hf:∀ n,(n,NameKind.free)∈scope.names->∃ c,Z.cells.lookup n=some c:=λn hn=>by
  obtain ⟨h1,i,hi⟩:=ZF.free n hn
  refine gA (F.cells n i hi h1) λc u hc k=>?_
  exact⟨c,hc⟩
 have S:SE J s.heap J bA:=SE.keeps _ hk
 have lO:∀ {x c},(cY Z scope.names []).lookup x=some c->Z.cells.lookup x=some c/\scope.names.lookup x=some .free:=λ{x c} e=>by
  refine Ug (jk (mem_of_lookup e)) (λq=>aR q λh1 h2=>?_) (λh1=>?_)
  ·exact⟨h2,ZF.uniq _ _ h1⟩
  ·cases h1
 have JV:∀ {y i},nx<=i->[x][i - nx]? = some y->y=x/\i=nx:=λ{y i} h1 h2=>by
  have cE:=(J'.mp h2).1
  simp only[VV,XJ] at cE
  have e:i - nx=0:=U3 (Vx cE) (UJ _)
  rw[e] at h2
  exact⟨(Option.some.inj h2).symm,U3 (by exact jL (y4 0xc3211b1010ba30212ba18081 rfl (iT cE) (iS _ _) (iA _ _))) (h1)⟩
 refine⟨ZF.kind,rfl,rfl,⟨_,gh,?_⟩,?_,aY R hL,aW R hL,?_,?_,?_,λq=>?_,F.stk.to λL o es ep h1 h2 h3=>⟨⟨o,es,ep,hk L o h1,h2⟩,h3⟩⟩
 ·intro y i w hy rl lF
  refine Ug (bI hy) (λq=>aR q λh1 h2=>?_) (λq=>aR q λh1 h2=>?_)
  ·refine aR (JV h1 h2) λq1 q2=>?_;subst q1 q2
   simp only[cn,if_true] at lF
   cases lF
   exact⟨av,by simp,hv.step R S⟩
  ·have e1:scope.names.lookup y=some .local:=rl
   rw[ZF.uniq _ _ h1] at e1;cases e1
 ·intro y i hy rl
  refine Ug (bI hy) (λq=>aR q λh1 h2=>?_) (λq=>aR q λh1 h2=>?_)
  ·refine aR (JV h1 h2) λq1 q2=>?_;subst q1 q2
   exfalso
   refine Ug rl (λr=>?_) (λr=>?_)
   ·have e1:scope.names.lookup y=some .cell:=r
    rw[ZF.par] at e1;cases e1
   ·have e1:scope.names.lookup y=some .free:=r
    rw[ZF.par] at e1;cases e1
  ·obtain ⟨h3,j,hj⟩:=ZF.free y h1
   refine kF (F.cells y i h2 h3) λc u hc Ie oq=>?_
   refine N' (cN ((pT [] hf).2 h1 hc)) λc' dK=>?_
   have Gz:c'=c:=by have:=(lO dK).1;rw[hc] at this;exact (Option.some.inj this).symm
   subst Gz
   refine⟨c',u,dK,Ie.keeps hk,λw hw=>?_⟩
   have cE:=ZF.below _ _ (mem_of_lookup h2)
   simp only[cn,if_neg (UP cE)] at hw
   refine aB (oq w hw) λa h4 h5=>?_
   exact⟨a,h4,h5.step R S⟩
 ·intro y c e
  refine aR (lO e) λh1 k=>?_
  refine yo (F.cellF y c h1) λLP h2 h3 h4=>?_;refine N' LP λu hu=>?_
  refine⟨⟨u,hu.keeps hk⟩,h2,λq=>?_,h4⟩
  refine aB hu λo ho k=>?_
  rw[show c=L from q,hL] at ho;cases ho
 ·intro y z c e1 e2
  exact F.cellI y z c (lO e1).1 (lO e2).1
 ·intro y z i e1 e2
  rcases bI e1 with ⟨h1,h2⟩ | ⟨h1,h2⟩ <;> refine Ug (bI e2) (λq=>aR q λh3 h4=>?_) (λq=>aR q λh3 h4=>?_)
  ·exact (JV h1 h2).1.trans (JV h3 h4).1.symm
  ·exact absurd (ZF.below _ _ (mem_of_lookup h4)) (UK.mpr (UV (JV h1 h2).2.symm))
  ·exact absurd (ZF.below _ _ (mem_of_lookup h2)) (UK.mpr (UV (JV h3 h4).2.symm))
  ·exact F.slots y z i h2 h4
 ·rw[show (newEnv scope L mainGlobals (cY Z scope.names []) _ (some f) cd none builtinsNs).scope=scope from rfl,ZF.lev] at q
  exact absurd q Uq
noncomputable def Ce:aw:=λz z z=>none
theorem rM (G:er g cx fs mg mb) {Z:Env}:∀ (n:Nat) (e:Expr) (k:KX),z0 cx Z.scope O n e=some k->aM g A Z O e (ab Ce k.ce)
 | 0,_,_,h=>no h
 | n+1,e,k,h=>by
  cases e with
  | Name x p =>
   refine aT h λc h1 h=>?_
   refine aT h λi h2 h=>?_
   apply dE h
   have hc:c=.var i:=by
    cases c <;> first | exact no h2 | skip
    exact congrArg _ (sm h2)
   subst hc
   exact o5 G h1
  | Constant c m p =>
   refine aT h λi h1 h=>?_
   apply dE h
   have hc:c=.int i:=by
    cases c <;> first | exact no h1 | skip
    exact congrArg _ (sm h1)
   apply aV hc
   exact l8 rfl
  | Subscript v i p =>
   refine aT h λa h1 h=>?_
   refine aT h λb h2 h=>?_
   apply dE h
   refine xA (λl u st q e=>?_) (rM G n v a h1) (rM G n i b h2)
   subst e
   cases n <;> exact no h2
  | Tuple es m p =>
   refine xq h λx y h0 h=>?_
   refine aT h λa h1 h=>?_
   refine aT h λb h2 h=>?_
   apply dE h
   apply aV (g8 h0)
   refine qw (f:=λe=>(z0 cx Z.scope O n e).bind λk=>some k.ce) (λe q=>by cases n <;> rfl) (λe c hc=>?_) ?_
   ·refine aT hc λk h3 hc=>?_
    apply dE hc
    exact rM G n e k h3
   ·show ((z0 cx Z.scope O n x).bind λk=>some k.ce).bind _=_
    rw[show z0 cx Z.scope O n x=some a from h1]
    show ((((z0 cx Z.scope O n y).bind λk=>some k.ce).bind _)).bind _=_
    rw[show z0 cx Z.scope O n y=some b from h2]
    rfl
  | _=>exact no h
theorem ow {k:KX} {i:Nat}:∀ {ns:List Int} {ps:List KP},mu k i K H ns=some ps->∃ kvs,cV kvs ps/\ps.map (·.2)=ns/\∀ (j:Nat) (p:KP) (kv:V),ps[j]? = some p->kvs[j]? = some kv->cH k (cn K i (.int p.2)) H=some kv
 | [],ps,h=>by
  apply dE h
  exact⟨[],.nil,rfl,λj p kv h=>by simp at h⟩
 | n::ns,ps,h=>by
  refine aT h λv h1 h=>?_
  refine aT h λl h2 h=>?_
  refine aT h λqs h3 h=>?_
  apply dE h
  refine ew (ow h3) λkvs a1 a2 a3=>?_
  refine⟨v::kvs,.cons h2 a1,by rw[U2,a2],λj p kv hp hk=>?_⟩
  cases j with
  | zero =>
   cases hp;cases hk
   exact h1
  | succ j=>exact a3 j p kv hp hk
theorem BU {params:Arguments} {body:Expr} {scope:Scope} {a:Arg} {nx n:Nat} {kx:KX} {f:Addr} {s₀:Shared} {ps:List KP} {kvs:List V} (G:er g cx fs mg mb) (sS:A.depth<recursionLimit) (hp:params=⟨[],[a],none,[],[],none,[]⟩) (ZF:wq scope Z.scope O nx a.arg) (Aa:z0 cx scope (bN scope O nx [a.arg]) n body=some kx)
  (L:F4 g J H Z params body scope s₀ f s) (F:dR g J Z O K s.heap) (r1:∀ (j:Nat) (p:KP) (kv:V),ps[j]? = some p->kvs[j]? = some kv->cH kx (cn K nx (.int p.2)) H=some kv):wn g A J H s (.ref f) ps kvs:=by
 intro j p kv t hj GF s' S' R' T' E
 refine mQ L.ob λpm c' ym ho lU=>?_
 have F':=F.step L.R S'
 have kM:s'.heap.get? f=some (kla_obj "<lambda>" (Z.qual ++ "<lambda>") params body scope (cY Z scope.names []) pm c' ym):=(S'.pres _ _ ho L.fn).of λes ep q=>nomatch q
 have KT:=L.R.notCode lU
 have Oj:jN s'.heap c' (Z.qual ++ "<lambda>"):=by
  refine Eo lU λo vs u e1 e2 e3 e4=>?_
  exact⟨o,vs,u,(S'.pres _ _ e1 KT).hard (.inr ⟨e2,vs,e3⟩),e2,e3,e4⟩
 have vi:s'.heap.NoLimit:=G.nolimit.keeps R'.base
 refine wpAny_call (kla_callFunE (body:=body) sS kM rfl ZF.cor ZF.gen rfl Oj.rec ?_)
 rw[jY (as:=[a]) hp rfl [.int p.2 t] rfl (VP.mpr ⟨(λh=>nomatch h),Yx⟩)]
 refine wpAny_pure (wpAny_newFunctionEnv (λx hx e=>?_) (λx hx=>?_) (λbA gh QM=>⟨vi.fresh _ QM,kla_codeExpr ?_⟩) ZF.kind)
 ·rcases ZF.kinds x.1 x.2 hx with q | q | q <;> (rw[e] at q;cases q)
 ·rcases Uh.mp hx with rfl | hx
  ·exact ZF.par
  ·exact nomatch hx
 have gQ:∀ b o,s'.heap.get? b=some o->bA.get? b=some o:=λb o e=>QM.extBut b o (UP (UU e)) (G' _ e)
 have FL:=yO (f:=f) (q:=Z.qual ++ "<lambda>" ++ ".<locals>.") (cd:=.ref c') (v:=.int p.2) (av:=.int p.2 t) ZF R' F' (.int _ _) gQ (aD _) gh
 have au:ak g J H bA:=R'.keeps gQ
 have he:=iY (call:=Ce) (r1 j p kv hj GF)
 refine wpAny_mono (rM (A:=A.deeper _) G n body kx Aa _ _ _ _ he J {s' with heap:=bA,toks:=_} au FL _) (λv cA hq=>?_) λz z x=>x
 refine qT hq λaO cR bo cW fO=>?_
 refine aB cR.ext λu q2 z=>?_;subst q2
 have hu:u=[]:=by
  have h1:=bo.len
  have h2:=R'.len
  rw[Ud] at h1
  exact Vy.mp (U3 (by exact jL (y4 0xc08312b1013b1213ba320 rfl (iE h1) (iE h2) (iA _ _))) (UJ _))
 subst hu
 rw[Uu] at cR bo cW
 exact⟨SE.trans (SE.keeps _ gQ) cR,bo,bz.trans ⟨rfl,rfl,rfl⟩ fO,cW⟩
end
section
variable {g:G} {cx:cp} {fs:List Fn} {mg mb:Str->Option Value} {A:Around} {E:Value->Shared->Prop} {J:List Addr} {H:ag} {s:Shared} {Z:Env} {O:List (Str×Nat)} {K:aN} {call:aw} {d:Nat}
noncomputable def Nt (g:G) (A:Around) (J:List Addr) (H:ag) (xs:List V) (a:Value) (s₁:Shared):Prop :=
 ∀ (s':Shared),SE J s₁.heap J s'.heap->ak g J H s'.heap->∀ ns,dA xs=some ns->ns.length<=10000000->∀ (E:Value->Shared->Prop) (Q:List Value->Shared->Prop),
  (∀ h' tk vs,(∀ b o,s'.heap.get? b=some o->h'.get? b=some o)->IntsAre vs ns->Q vs {s' with heap:=h',toks:=tk})->wpAny (model g.prog g.w) A.in1 (collect a) Q E s'
theorem oX {a c:Int}:∀ (l:List Nat),dA (l.map λ(i:Nat)=>V.int (a+(i:Int) * c))=some (l.map λ(i:Nat)=>a+(i:Int) * c)
 | []=>rfl
 | i::l=>by
  show (dA (l.map λ(i:Nat)=>V.int (a+(i:Int) * c))).bind _=_
  rw[oX l];rfl
theorem Fy {f:Expr->Option CE} (hA:hW A d) (G:er g cx fs mg mb) (hs:∀ e p,f (.Starred e p)=none) (cq:∀ e c,f e=some c->aM g A Z O e (ab call c)) {x:Expr} {it:gb} (h:zZ f cx Z.scope x=some it) (ho:LM it=true) {xs:List V} {w:List (Nat×aZ)} {σ1:ag}
  (pz:bS call it K H=some (xs,w,σ1)) (hw:qy it w=true) (R:ak g J H s.heap) (F:dR g J Z O K s.heap) {Q:Value->Shared->Prop}
  (k:∀ a s₁ aj,SE J s.heap aj s₁.heap->bz s s₁->ak g aj σ1 s₁.heap->dR g aj Z O K s₁.heap->Nt g A aj σ1 xs a s₁->Q a s₁):wpAny (model g.prog g.w) A (eval x Z) Q E s:=by
 cases it with
 | ex c =>
  have hx:aM g A Z O x (ab call c):=(qL _ h).elim (λq=>aB q λc' e hc=>cq _ _ (hc.trans (congrArg Pm e).symm)) λq=>q.elim (λq=>JB q λz z z z q=>absurd (congrArg M6 q.1) Zj) λq=>absurd q.symm (W1 1)
  refine bU (show bn (ab call c K H) (λx σ1=>(jf σ1 x).bind λp=>some (p.1,p.2,σ1))=_ from pz) λv ae h1 pz=>?_
  refine xq pz λQ6 w' h2 pz=>?_
  refine iK (Ht pz) λq1 q2 q3=>?_;subst q1 q2 q3
  refine hx.bind h1 R F λa s₁ aj S T au aU a7=>k a s₁ aj S T au aU ?_
  intro s' S' R' ns gh hz E Q hQ
  have V':=a7.step au S'
  cases V' with
  | ref hr =>
   refine aT (m:=lst ae _) h2 λl' fT h2=>?_
   refine aR (nE h2) λq1 z=>?_;subst q1
   refine ew (R'.list hr fT) λvs hl hv z=>?_
   have hI:=xN gh hv
   exact AL hl.isList hI (by rw[hI.length];exact B' hz (VM rfl)) hQ
  | tup _ _ _ _=>refine aR (nE h2) λz q2=>?_;subst q2;exact absurd hw Uq
  | ro _ _ _=>refine aR (nE h2) λz q2=>?_;subst q2;exact absurd hw Uq
  | none=>exact no h2
  | bool _=>exact no h2
  | int _ _=>exact no h2
  | str _ _=>exact no h2
 | rng1 c =>
  have hx:∃ y p q,x=.Call (.Name ("range" : Str) p) [y] [] q/\bh Z.scope ("range" : Str)=true/\f y=some c:=(qL _ h).elim (λq=>aB q λz e z=>absurd (congrArg M6 e) Nat.one_ne_zero) λq=>q.elim (λq=>NW q λy p q c' e e1 e2 e3=>⟨y,p,q,e1,e2,e3.trans (congrArg Pm e).symm⟩) λq=>absurd (Yd.inj q.symm) (W1 0)
  refine qU hx λy p q q4 hg hy=>?_;apply aV q4
  have gh:∀ e q,y≠.Starred e q:=λe q e'=>by rw[e',hs] at hy;exact no hy
  refine mf (show lN (ab call c K H) (λn σ1=>if fx n then some (bQ 0 n 1,[],σ1) else none)=_ from pz) λn ae h1 pz=>?_
  refine dL pz λr3 pz=>?_
  refine iK (Ht pz) λq1 q2 q3=>?_;subst q1 q2 q3
  refine aR (bG hg) λlC lD=>?_
  have gR:starEach [y] Z=(false,eval y Z)::starEach [] Z:=iz gh
  refine Call_Name rfl (cF G F R lC lD (by decide) (v:=.type "range") (by decide +kernel) (bH (.inr ⟨_,rfl⟩) (args_cons ((cq _ _ hy).bind h1 R F λb s₁ aj S T au aU a7=>args_nil ?_) gR) gR rfl))
  refine N' (vI rfl a7) λt1 q2=>?_;apply aV q2
  have vk:Builtin.Range.small 0 n 1=true:=lc (by decide) (by decide) (ff r3) (by decide)
  refine call_range_1 ?_
  have hk:∀ b o,s₁.heap.get? b=some o->(s₁.heap.push {cls:=.type "range", data:=.fields #[.int 0 (s₁.toks+1),.int n t1,.int 1 (s₁.toks+2)]}).get? b=some o:=λb o e=>G' _ e
  have hr:=IsRange.new s₁.heap 0 n 1 (s₁.toks+1) t1 (s₁.toks+2)
  refine k _ _ aj (S.trans (SE.keeps _ λb o e=>G' _ e)) (T.trans ⟨rfl,rfl,rfl⟩) (au.keeps λb o e=>G' _ e) (aU.step au (SE.keeps _ λb o e=>G' _ e)) ?_
  intro s' S' R' ns gh hz E Q hQ
  have DM:=eJ 0 n 1 (by decide)
  have QL:im 0 n 1=(Builtin.Range.rangeSize 0 n 1).toNat:=yW 0 n 1
  have Lp:ns=(UC (im 0 n 1)).map λ(i:Nat)=>(0:Int)+(i:Int) * 1:=(sm ((oX _).symm.trans gh)).symm
  have cm:im 0 n 1<=10000000:=by rw[Lp,A',UN] at hz;exact hz
  refine yk (n:=im 0 n 1) (a:=0) (b:=n) (c:=1) hA.handled ((S'.pres _ _ (Uo _ rfl) (aY au (aD _))).of λes ep q=>nomatch q) vk (by exact UG (y3 0xc0213b1010b12 rfl (iE QL) (X9 _)) (y3 0xc2012b1012b21 rfl (iE QL) (Vf (y1 0xc00810b008 rfl DM)))) (by lia) (by rw[<-Lp];exact hQ)
 | _=>exact absurd ho Uq
theorem zn {f:Expr->Option CE} (hA:hW A d) (G:er g cx fs mg mb) (hs:∀ e p,f (.Starred e p)=none) (cq:∀ e c,f e=some c->aM g A Z O e (ab call c)) {as:List Expr} {k:Keyword} {p pos:Pos} {nx:Nat} {c:CE} (hg:bh Z.scope ("sorted" : Str)=true) (h:MB (λi=>zZ f cx Z.scope i) cx Z.scope O nx as k=some c) :
  aM g A Z O (.Call (.Name ("sorted" : Str) p) as [k] pos) (ab call c):=by
 refine aT h λx hx h=>?_
 refine aB (ob h) λk1 hl h=>?_;obtain ⟨a,body,scope⟩:=k1
 refine dL h λhc h=>?_
 refine aT h λit qb h=>?_
 refine dL h λnu h=>?_
 refine aT h λkx Aa h=>?_
 apply dE h
 apply aV (bZ hx)
 simp only[Uv,beq_iff_eq] at hc
 refine aR hc λk2 OI=>?_;refine aR k2 λBm Ir=>?_
 obtain ⟨ka,kv,kp⟩:=k
 obtain rfl:ka=some ("key" : Str):=Bm
 refine kF (vE hl) λps lp q3 r2 wS=>?_;subst q3
 have ZF:=BR OI
 have QI:=rD r2 wS
 intro K H v af he J s R F E
 refine me (show jZ (bS call it K H) (λxs w σ1=>if qy it w then io kx nx K σ1 xs else none)=_ from he) λxs w σ1 h1 he=>?_
 refine dL he λhw he=>?_
 refine aT he λns gh he=>?_
 refine aR (cy he) λk3 he=>?_;refine aR k3 λhr hz=>?_
 refine aT he λTW OF he=>?_
 refine dL he λsZ he=>?_
 refine iK (fX he) λhzz q2 q3=>?_;apply aV q2;apply aV q3
 refine ew (ow OF) λkvs Bm yy r1=>?_
 refine aR (bG hg) λlC lD=>?_
 have gR:starEach [x] Z=(false,eval x Z)::starEach [] Z:=by
  cases x with
  | Starred e q =>
   exfalso
   have:yg f (.Starred e q)=some it:=qb
   refine aT this λc' dK z=>?_
   rw[hs] at dK;exact no dK
  | _=>rfl
 have sS:A.in1.in1.depth<recursionLimit:=by
  have h1:=hA.depth
  have h2:600<recursionLimit:=by decide
  show A.depth<_
  exact jT (y4 0x1c1310b02589011b10258910b20813ba230 rfl (iL h1) (iT h2) (iP _) (iA _ _))
 refine wpAny_Call_Name_kw (cF G F R lC lD (by decide) (v:=.builtin "sorted") (by decide +kernel) (callWith_kw (args_cons (Fy hA G hs cq qb nu h1 hw R F λb s₁ aj S T au aU NA=>args_nil ?_) gR) (by rw[gR];rfl) (by rw[gR];rfl)))
 refine wpAny_bind (wpAny_bind (BV (a:=a) G au aU Ir ZF QI λq cA L=>wpAny_bind (wpAny_standAt (wpAny_pure ?_))))
 refine wpAny_bind (wpAny_holding (wpAny_pure (wpAny_pure ?_)))
 have ed:=aU.step au L.S
 refine wpAny_mono (v1 (kvs:=kvs) (ps:=TW) L.R (λQ hQ=>NA cA L.S L.R ns gh hz E Q (by rw[<-yy];exact hQ)) Bm (by rw[yy];exact hr) sZ (by rw[ch Bm,<-A' (f:=(·.2)),yy];exact hz) (BU G sS QI ZF Aa L ed r1)) (λz z x=>bB.after (S.trans L.S) (T.trans L.T) x) λz z x=>x
end
end Lar
namespace Lar
open PySem PyProof.Rows PySem.Calls PySem.SeqAt
open Builtin Builtin.ObjectAttr
structure dS (h:Heap) (C C0:Addr) (mN mN0:Str->Option Value):Prop where
 c:fy h C (.ref C0::iV) mN
 c0:fy h C0 iV mN0
section
variable {prog:Program} {w:World} {A:Around} {E:Value->Shared->Prop} {h:Heap} {g:Array GenState} {d:Drawn} {t:Nat} {os:OsState}
 {C C0 x:Addr} {mN mN0 mA:Str->Option Value} {name:Str} {v:Value}
theorem te {n:Str} {y:Option Value} {Q:Option Value->Shared->Prop} (S:dS h C C0 mN mN0) (hB:typeLookup (.type "ValueError") n=pure y)
  (hq:Q (match mN n with | some v=>some v | none=>match mN0 n with | some v=>some v | none=>y) ⟨h,g,d,t,os⟩):wpAny (model prog w) A (typeLookup (.ref C) n) Q E ⟨h,g,d,t,os⟩:=by
 refine lB S.c.obj λN O q bs sub k3=>?_;refine qV k3 λk0 k1 k2 k3 k5 hC hn=>?_
 refine lB S.c0.obj λN0 JR q' NF Jr vz=>?_;refine qV vz λPn Po Pr Pw Pz z6 DM=>?_
 have jI:lookupAlong iV n=pure y:=by
  rw[typeLookup_eq,PySem.F.excBase_ValueError.mroIs] at hB;exact hB
 rw[typeLookup_eq]
 refine wpAny_bind (wpAny_mroOf_exc hC ?_)
 rw[lookupAlong_cons]
 refine wpAny_bind (wpAny_classOwn_exc hC hn ?_)
 cases hv:mN n with
 | some v=>rw[hv] at hq;exact wpAny_pure hq
 | none =>
  rw[hv] at hq
  show wpAny _ _ (lookupAlong (.ref C0::iV) n) _ _ _
  rw[lookupAlong_cons]
  refine wpAny_bind (wpAny_classOwn_cls z6 DM ?_)
  cases IJ:mN0 n with
  | some v=>rw[IJ] at hq;exact wpAny_pure hq
  | none=>rw[IJ] at hq;show wpAny _ _ (lookupAlong iV n) _ _ _;rw[jI];exact wpAny_pure hq
theorem c9 {n:Str} {y:Option Value} {Q:Option Value->Shared->Prop} (S:dS h C C0 mN mN0) (hk:n∉ge) (hB:typeLookup (.type "ValueError") n=pure y) (hq:Q y ⟨h,g,d,t,os⟩):wpAny (model prog w) A (typeLookup (.ref C) n) Q E ⟨h,g,d,t,os⟩:=by
 refine te S hB ?_
 rw[S.c.quiet n hk,S.c0.quiet n hk];exact hq
theorem dX {X:String} {b:Bool} (hb:iV.contains (.type X)=b):(Value.ref C::.ref C0::iV).contains (.type X)=b:=by
 rw[Vb,Vb,hb];rfl
theorem yi {aG:List Value} {Q:Unit->Shared->Prop} (S:dS h C C0 mN mN0) (hq:Q () ⟨h,g,d,t,os⟩):wpAny (model prog w) A (checkBuiltinCall "ValueError.__new__" ⟨.ref C::aG,[]⟩) Q E ⟨h,g,d,t,os⟩:=by
 refine lB S.c.obj λN O q bs sub Pv=>?_;refine qV Pv λk0 k1 k2 k3 k5 hC hn=>?_
 have Fn:=PySem.F.excBase_ValueError
 have KU:(Value.ref C::.ref C0::iV).contains (.type "ValueError")=true:=dX Fn.hasB
 have hstar:=Fn.noStar
 simp only[checkBuiltinCall,Fn.newKind,Fn.newSplit,Fn.newRow]
 repeat (first | refine wpAny_loadPart_at hC ?_ | (refine wpAny_isSubtype_exc hC ?_;rw[KU]) | refine wpAny_staticBase_exc hC ?_ | refine wpAny_madeBy_exc hC ?_ | simp only[bne_self_eq_false,Wk,if_false] | wp_step)
 exact hq
theorem Ew {aG:List Value} {R:Result->Shared->Prop} (S:dS h C C0 mN mN0) (jI:aG.length<=sizeLine)
  (hq:R (.ok (.ret (.ref (h.objs.size+1)))) ⟨(h.push {cls:=.type "tuple", data:=.seq aG.toArray}).push {cls:=.ref C,data:=.fields #[.ref h.objs.size,.none,.none,.none,.bool false,.none]},g,d,t,os⟩) :
  codeAny (model prog w) A (.builtin "ValueError.__new__" ⟨.ref C::aG,[]⟩) R ⟨h,g,d,t,os⟩:=by
 refine lB S.c.obj λN O q bs sub Py=>?_;refine qV Py λk0 k1 k2 k3 k5 hC hn=>?_
 have Fn:=PySem.F.excBase_ValueError
 have hends:=Fn.ends
 have vd:(Value.ref C::.ref C0::iV).contains (.type "ValueError")=true:=dX Fn.hasB
 have Si:(Value.ref C::.ref C0::iV).contains (.type "AttributeError")=false:=dX Fn.noAttr
 have Sl:(Value.ref C::.ref C0::iV).contains (.type "NameError")=false:=dX Fn.noName
 refine codeAny_builtinAt Fn.entry ?_
 unfold Builtin.«BaseException.__new__»
 refine PySem.wpAt_bind ?_
 show PySem.wpAt _ _ _ (stack>>=_) _ _ _
 refine PySem.wpAt_bind (PySem.wpAt_stack λp below=>PySem.wpAt_of_wpAny ?_)
 wp_walk
 refine PySem.wpAt_of_wpAny ?_
 rw[Fn.owner]
 repeat (first | with_reducible refine wpAny_madeHere_exc Fn.canon hC ?_ | with_reducible refine wpAny_loadPart_at hC ?_ | (with_reducible refine wpAny_isSubtype_exc hC ?_;first | rw[vd] | rw[Si] | rw[Sl]) | wp_step)
 show R _ _
 rw[Vo]
 exact hq
theorem dS.keeps {h':Heap} (S:dS h C C0 mN mN0) (hk:∀ b o,h.get? b=some o->h'.get? b=some o):dS h' C C0 mN mN0:=by
 obtain ⟨⟨N,O,q,bs,sub,k0,k1,k2,k3,k5,hC,hn⟩,q1⟩:=S.c
 obtain ⟨⟨N0,JR,q',NF,Jr,Pn,Po,Pr,Pw,Pz,z6,DM⟩,q2⟩:=S.c0
 exact⟨⟨⟨N,O,q,bs,sub,k0,k1,k2,k3,k5,hk _ _ hC,hn.keeps hk⟩,q1⟩,⟨⟨N0,JR,q',NF,Jr,Pn,Po,Pr,Pw,Pz,hk _ _ z6,DM.keeps hk⟩,q2⟩⟩
theorem zC {aG:List Value} {fI:Addr} {oI:Obj} {Q:PySem.Fin->Shared->Prop} (S:dS h C C0 mN mN0) (h1:mN ("__init__" : Str)=none) (h2:mN0 ("__init__" : Str)=some (.ref fI)) (Ox:h.get? fI=some oI) (Oy:oI.cls=.type "function") (jI:aG.length<=sizeLine)
  (hq:∀ h' e,Heap.MadeExcOf h h' e (.ref C) aG->wpAny (model prog w) A (call (.ref fI) (.ref e::aG)) (λr s'=>r=.none/\Q (.done (.ret (.ref e))) s') E ⟨h',g,d,t,os⟩) :
  wpAny (model prog w) A (Builtin.«type.__call__» ⟨.ref C::aG,[]⟩) Q E ⟨h,g,d,t,os⟩:=by
 refine lB (id S.c.obj) λN O q bs sub PA=>?_;refine qV PA λk0 k1 k2 k3 k5 hC hn=>?_
 have Fn:=PySem.F.excBase_ValueError
 repeat (first | with_reducible refine wpAny_loadPart_at hC ?_ | with_reducible refine wpAny_madeBy_exc hC ?_ | wp_step)
 refine codeAny_call_builtin_code (Code.quiet_builtin _ Fn.quiet) (yi S ?_)
 refine Ew S jI ?_
 show wpAny _ _ _ _ _ _
 have kp:∀ b o,h.get? b=some o->((h.push {cls:=.type "tuple", data:=.seq aG.toArray}).push {cls:=.ref C,data:=.fields #[.ref h.objs.size,.none,.none,.none,.bool false,.none]}).get? b=some o:=λb o e=>G' _ (G' _ e)
 have ie:=S.keeps kp
 have KC:=kp _ _ hC
 have Ii:=kp _ _ Ox
 have K6:((h.push {cls:=.type "tuple", data:=.seq aG.toArray}).push
   {cls:=.ref C,data:=.fields #[.ref h.objs.size,.none,.none,.none,.bool false,.none]}).get? (h.objs.size+1)=some
   {cls:=.ref C,data:=.fields #[.ref h.objs.size,.none,.none,.none,.bool false,.none]}:=by heap_get
 have Oi:(Value.ref C::.ref C0::iV).contains (.ref C)=true:=by simp
 unfold isInstance
 repeat (first | with_reducible refine wpAny_loadPart_at K6 ?_ | (with_reducible refine wpAny_isSubtype_exc KC ?_;rw[Oi]) | wp_step)
 show wpAny _ _ (typeLookup (.ref C) _) _ _ _
 refine te ie Fn.init.lookup ?_
 rw[h1,h2]
 refine wpAny_holding (wpAny_bind ?_)
 unfold bindSpecial
 refine wpAny_bind (wpAny_typeOf (T := "function") ⟨_,Ii,Oy⟩ ?_)
 rw[if_pos (by decide)]
 refine wpAny_pure (wpAny_bind (wpAny_mono (hq _ (h.objs.size+1) ⟨kp,Vl (Wu _),h.objs.size,K6,Vl (Un _),?_⟩) (λr s' hr=>?_) λz z x=>x))
 ·exact G' _ (Y1 rfl rfl)
 ·refine aR hr λq1 hQ=>?_;apply aV q1
  wp_walk
  exact hQ
theorem AG {aG:List Value} {fI:Addr} {oI:Obj} {Q:Value->Shared->Prop} (S:dS h C C0 mN mN0) (h1:mN ("__init__" : Str)=none) (h2:mN0 ("__init__" : Str)=some (.ref fI)) (Ox:h.get? fI=some oI) (Oy:oI.cls=.type "function") (jI:aG.length<=sizeLine)
  (hq:∀ h' e,Heap.MadeExcOf h h' e (.ref C) aG->wpAny (model prog w) (A.under (.builtin "type.__call__" ⟨.ref C::aG,[]⟩)) (call (.ref fI) (.ref e::aG)) (λr s'=>r=.none/\Q (.ref e) s') E ⟨h',g,d,t,os⟩) :
  wpAny (model prog w) A (call (.ref C) aG) Q E ⟨h,g,d,t,os⟩:=by
 refine lB (id S.c.obj) λN O q bs sub PB=>?_;refine qV PB λk0 k1 k2 k3 k5 hC hn=>?_
 have f1:=tc_lookup
 have f2:=tc_bind (.ref C)
 have hT:(⟨h,g,d,t,os⟩:Shared).TypeIs (.ref C) "type" := ⟨_,hC,rfl⟩
 refine wpAny_call (codeAny_of_tree ?_)
 show wpAny _ _ (callAny (.ref C) _) _ _ _
 repeat (any_goals (first | assumption | with_reducible refine wpAny_loadPart_at hC ?_ | wp_step))
 refine⟨rfl,?_⟩
 refine codeAny_call_builtin_at (Code.quiet_builtin _ (by decide +kernel)) entry_typeCall (wpAny_check_type_call_sub hC (zC S h1 h2 Ox Oy jI λh' e hm=>?_))
 exact hq h' e hm
end
open Builtin Builtin.ObjectAttr
theorem xl:typeLookup (.type "ValueError") ("word" : Str)=pure none:=by rw[typeLookup_type,builtinLookup_eq_fast];kernel_rfl
theorem xp:("word" : Str)∉ge:=by decide +kernel
theorem Jb:("__setattr__" : Str)∉ge:=by decide +kernel
section
variable {prog:Program} {w:World} {A:Around} {E:Value->Shared->Prop} {h:Heap} {g:Array GenState} {d:Drawn} {t:Nat} {os:OsState}
 {C C0 x:Addr} {mN mN0:Str->Option Value} {v:Value} {vs:Array Value} {sl:Array (Option Value)}
noncomputable def Al (h:Heap) (x C:Addr) (vs:Array Value) (sl:Array (Option Value)) (v:Value) (h':Heap):Prop :=
 ∃ D,h'.get? x=some {cls:=.ref C,dict:=some D,data:=.fields vs,slots:=sl}/\h'.Ns1 D (λy=>if y=("word" : Str) then some v else none)/\h.get? D=none/\∀ b ob,b≠x->h.get? b=some ob->h'.get? b=some ob
set_option tactic.hygienic true in
theorem yZ {tk:Tok} {o:Obj} {Q:PySem.Fin->Shared->Prop} (S:dS h C C0 mN mN0) (hx:h.get? x=some o) (hc:o.cls=.ref C) (MN:o.dict=none) (Ot:o.data=.fields vs) (sZ:o.slots=sl)
  (hq:∀ h' FJ,Al h x C vs sl v h'->Q (.done (.ret .none)) ⟨h',g,d,FJ,os⟩):wpAny (model prog w) A (Builtin.«object.__setattr__» ⟨[.ref x,.str "word" tk,v],[]⟩) Q E ⟨h,g,d,t,os⟩:=by
 refine lB (id S.c.obj) λN O q bs sub k3=>?_;refine qV k3 λk0 k1 k2 k3 k5 hC hn=>?_
 have SF:=PySem.F.store_ValueError
 have Lw:refuseLoop (.ref x) "__setattr__" iV=pure ():=SF.passes (.ref x)
 unfold Builtin.«object.__setattr__»
 repeat (first | rw[refuse_eq] | (rw[refuseLoop_ref,refuseLoop_ref,Lw]) | (with_reducible refine wpAny_loadPart_at hx ?_;rw[hc]) | with_reducible refine wpAny_mroOf_exc hC ?_ | with_reducible refine c9 S xp xl ?_ | wp_step)
 rw[MN,if_neg (by simp [typeHasDict])]
 split
 ·rename_i lU
  cases lU
 split
 ·rename_i c lU
  exact nomatch Ot.symm.trans lU
 have GU:(h.push {cls:=.type "dict", data:=.dict #[]}).get? x=some o:=G' _ hx
 have M1:x≠h.objs.size:=UP (UU hx)
 refine wpAny_bind (wpAny_alloc' ?_)
 refine wpAny_bind (wpAny_update' GU ?_)
 refine wpAny_pure ?_
 have SA:((h.push {cls:=.type "dict", data:=.dict #[]}).update x λo=>{cls:=o.cls,dict:=some h.objs.size,data:=o.data,slots:=o.slots}).get? h.objs.size
   = some {cls:=.type "dict", data:=.dict #[]}:=(YD _ _ _ _ M1.symm).trans (Y1 rfl rfl)
 have Bn:((h.push {cls:=.type "dict", data:=.dict #[]}).update x λo=>{cls:=o.cls,dict:=some h.objs.size,data:=o.data,slots:=o.slots}).Ns h.objs.size (λ_=>none) :=
  ⟨_,#[],_,SA,rfl,λe he=>absurd he (by simp),λ_=>rfl⟩
 show wpAny _ _ (storeInDict h.objs.size (.str "word" tk) "word" v) _ _ _
 unfold storeInDict newKeyGuard
 refine wpAny_bind (wpAny_pure (wpAny_bind (wpAny_nsSet1 (Heap.Ns1.of_empty Bn) λh' j7 hs=>?_)))
 refine qU (j7.count (Within.cons ("word" : Str) v Within.nil)) λoD esD epD SW Sq Sj=>?_
 refine wpAny_bind (wpAny_lookBehind SW (by rw[Sq];exact pastItsLine_dict (B' Sj (by rw[VV,XJ,sizeLine_eq];exact jL (y2 0xc1012ba1808013ba1800000000000001000000d1 rfl (iA _ _) (iA _ _))))) ?_)
 wp_walk
 refine hq h' _ ⟨h.objs.size,?_,j7,Vl (Un _),λb ob Sh hb=>?_⟩
 ·refine (hs.2 x M1).trans ((V3 _ GU ?_).trans ?_)
  ·exact Obj.isFreed_of_fields Ot
  ·rw[hc,Ot,sZ]
 ·exact (hs.2 b (UP (UU hb))).trans ((YD _ _ _ _ Sh).trans (G' _ hb))
theorem AI {ty:Value} {o:Obj} {Q:Unit->Shared->Prop} (S:dS h C C0 mN mN0) (hx:h.get? x=some o) (hc:o.cls=.ref C) (hq:Q () ⟨h,g,d,t,os⟩):wpAny (model prog w) A (checkBuiltinCall "object.__setattr__" ⟨[.ref x,ty,v],[]⟩) Q E ⟨h,g,d,t,os⟩:=by
 refine lB (id S.c.obj) λN O q bs sub vz=>?_;refine qV vz λk0 k1 k2 k3 k5 hC hn=>?_
 have SF:=PySem.F.store_ValueError
 have vd:(Value.ref C::.ref C0::iV).contains (.type "object")=true:=dX SF.hasOwner
 have ha:=SF.args (.ref x) ty v
 simp only[checkBuiltinCall,SF.kind,SF.split]
 refine wpAny_bind ?_
 ·unfold isInstance
  repeat (first | (with_reducible refine wpAny_loadPart_at hx ?_;rw[hc]) | (with_reducible refine wpAny_isSubtype_exc hC ?_;rw[vd]) | wp_step)
  exact hq
theorem CG {Q:Unit->Shared->Prop} (S:dS h C C0 mN mN0) (hx:h.get? x=some {cls:=.ref C,data:=.fields vs,slots:=sl})
  (hq:∀ h' FJ,Al h x C vs sl v h'->Q () ⟨h',g,d,FJ,os⟩):wpAny (model prog w) A (setAttr (.ref x) "word" v) Q E ⟨h,g,d,t,os⟩:=by
 have SF:=PySem.F.store_ValueError
 have f3:=SF.slot.bind (.ref x)
 unfold setAttr callSpecial? specialOf
 repeat (any_goals (first | assumption | with_reducible refine wpAny_loadPart_at hx ?_ | with_reducible refine c9 S Jb SF.slot.lookup ?_ | wp_step))
 refine codeAny_call_builtin SF.slot.plain SF.entry (AI S hx rfl (yZ (sl:=sl) S hx rfl rfl rfl rfl λh' FJ W=>?_))
 repeat (any_goals (first | assumption | wp_step))
 exact hq h' FJ W
end
section
variable {prog:Program} {w:World} {A:Around} {E:Value->Shared->Prop} {s:Shared} {C C0 e f:Addr} {mN mN0:Str->Option Value} {v:Value} {vs:Array Value}
theorem yD {Q:Value->Shared->Prop} (I:gm s.heap f) (sS:A.depth<recursionLimit) (vi:s.heap.NoLimit) (S:dS s.heap C C0 mN mN0) (hx:s.heap.get? e=some {cls:=.ref C,data:=.fields vs})
  (hq:∀ h' FJ,(∃ D,h'.get? e=some {cls:=.ref C,dict:=some D,data:=.fields vs}/\h'.Ns1 D (λy=>if y=("word" : Str) then some v else none)/\s.heap.get? D=none/\∀ b ob,b≠e->s.heap.get? b=some ob->h'.get? b=some ob)->Q .none {s with heap:=h',toks:=FJ}) :
  wpAny (model prog w) A (call (.ref f) [.ref e,v]) Q E s:=by
 refine AU I.ex λo fd a1 a2 ho IO lU=>JB IO.init λp1 p2 p3 p4 hb=>?_
 have KO:bindArgs fd ⟨[.ref e,v],[]⟩=pure ((([a1,a2].map (·.arg))).zip [.ref e,v]):=jY IO.params IO.df [.ref e,v] rfl (by rw[U2,U2,IO.n1,IO.n2];decide)
 have Ic:bindArgs fd ⟨[.ref e,v],[]⟩=pure [(("self" : Str),.ref e),(("word" : Str),v)]:=by rw[KO,U2,U2,IO.n1,IO.n2];rfl
 have G8:fd.scope.names.lookup ("self" : Str)=some .local:=by rw[IO.names];decide
 have G9:fd.scope.names.lookup ("word" : Str)=some .local:=by rw[IO.names];decide
 refine wpAny_call (codeAny_call_cells sS ho IO.data vi lU hb Ic IO.clo (λx hx=>?_) (λs₁ x=>?_) IO.co IO.gen IO.kind)
 ·rcases Uh.mp hx with rfl | hx
  ·exact .inl G8
  ·rw[O'.mp hx];exact .inl G9
 ·have keep:=x.toInCall.keep
  refine nW x.toInCall.same λbA mJ Bt=>?_
  have k1:(callEnvC fd s.heap.objs.size f).kindOf ("self" : Str)=some .local:=G8
  have k2:(callEnvC fd s.heap.objs.size f).kindOf ("word" : Str)=some .local:=G9
  have nd:([(("self" : Str),Value.ref e),(("word" : Str),v)].map (·.1)).Nodup:=by show (["self", "word"]:List Str).Nodup;decide
  refine wpAny_execs_cons (plainObj_wpAny_Assign_Attribute ?_)
  refine NameLC x IO.kind k2 (v:=v) (by rw[jj k2 _ _ nd];rfl) ?_ (by decide)
  refine NameLC x IO.kind k1 (v:=.ref e) (by rw[jj k1 _ _ nd];rfl) ?_ (by decide)
  subst Bt
  refine CG (h:=bA) (S.keeps keep) (keep _ _ hx) λh' FJ W=>?_
  refine qT W λD w1 w2 w3 w4=>?_
  refine wpAny_execs_nil (hq h' FJ ⟨D,w1,w2,?_,λb ob hb Oh=>w4 b ob hb (keep b ob Oh)⟩)
  exact eV keep w3
end
noncomputable def P0 (f:Value):Prop:=f=.none
noncomputable def PL (L:Addr) (f:Value):Prop:=f=.none\/f=rawInt L
noncomputable def Nv (J:List Addr) (a6 h:Heap) (U:Prop) (P:Value->Prop) (e:Addr) (vs:Array Value):Prop :=
 (U/\vs[1]? = some .none)\/∃ T oT ts f,vs[1]? = some (.ref T)/\T≠e/\h.get? T=some oT/\oT.cls=.type "traceback" /\ oT.data=.fields ts/\ts[3]? = some f/\P f/\a6.get? T=none/\T∉J
structure Ka (g:G) (J:List Addr) (a6 h:Heap) (U:Prop) (P:Value->Prop) (e:Addr) (c:Nat) (w:Str):Prop where
 ex:∃ vs D m t sl,h.get? e=some {cls:=.ref (g.cls c),dict:=some D,data:=.fields vs,slots:=sl}/\1<vs.size/\h.Ns D m/\m ("word" : Str)=some (.str w t)/\a6.get? D=none/\D∉J/\Nv J a6 h U P e vs
 e0:a6.get? e=none
 eφ:e∉J
 eB:g.B.get? e=none
section
variable {g:G} {A:Around} {E:Value->Shared->Prop} {J:List Addr} {H:ag} {s:Shared} {a6:Heap} {P:Value->Prop} {e L:Addr} {c:Nat} {w:Str} {Z:Env}
theorem ak.same {h h':Heap} (R:ak g J H h) (hB:∀ b o,g.B.get? b=some o->h.get? b=some o->h'.get? b=some o) (vn:∀ a o,a∈J->h.get? a=some o->h'.get? a=some o) (hH:∀ b o,h.get? b=some o->iM o->b∉J->h'.get? b=some o):ak g J H h' :=
 ⟨λb o e=>hB b o e (R.base b o e),R.fresh,R.len,R.nodup,λi a m h1 h2=>(R.objs i a m h1 h2).stepT (λz z e=>e) (λb o e hh hn=>⟨hH b o e hh hn,hn⟩) λo e=>vn a o (Ui h1) e,R.tabs⟩
structure zW (g:G) (a6 h h':Heap) (e:Addr):Prop where
 old:∀ b o,h.get? b=some o->a6.get? b≠none->fj h' b o
 dom:∀ b o,h.get? b=some o->∃ o',h'.get? b=some o'
theorem zW.trans {h h' uq:Heap} (x:zW g a6 h h' e) (y:zW g a6 h' uq e):zW g a6 h uq e :=
 ⟨λb o e h0=>(x.old b o e h0).then λo' e'=>y.old b o' e' h0,λb o e=>by refine N' (x.dom b o e) λo' e'=>?_;exact y.dom b o' e'⟩
noncomputable def My (g:G) (a6:Heap):Prop:=∀ f∈g.fr,∀ L,f.frame=some L->a6.get? L≠none
noncomputable def wP (g:G):List Addr:=g.fr.filterMap (·.frame)
theorem q7 {L:Addr} (h:L∈wP g):∃ f∈g.fr,f.frame=some L:=by
 refine aB (Xe.mp h) λf hf hl=>?_
 exact⟨f,hf,hl⟩
theorem pj.at {h:Heap} (F:pj g J h) {L:Addr} (hL:L∈wP g):∃ o es ep,h.get? L=some o/\o.data=.dict es ep/\L∉J/\g.B.get? L=none:=by
 refine aB (q7 hL) λf hf hl=>?_
 obtain ⟨_,L',o,es,ep,k2,k3,k4,k5,k6⟩:=F f hf
 rw[hl] at k2;cases k2
 exact⟨o,es,ep,k3,k4,k5,k6⟩
theorem u7 {h base:Heap} (F:pj g J h) (hb:∀ L∈wP g,base.get? L=none):h.FunFrames base g.fr:=by
 unfold pj wP at *
 generalize g.fr=l at F hb
 induction l with
 | nil=>trivial
 | cons f r ih =>
  obtain ⟨k1,L,o,es,ep,k2,k3,k4,_,_⟩:=F f z'
  refine⟨k1,⟨L,o,k2,hb L (Xe.mpr ⟨f,z',k2⟩),k3,λvs q=>nomatch k4.symm.trans q⟩,ih (λf hf=>F f (H' _ hf)) λL hL=>hb L ?_⟩
  refine aB (Xe.mp hL) λf' Bk fT=>?_
  exact Xe.mpr ⟨f',H' _ Bk,fT⟩
theorem Cf (b:Addr):(({}:Heap)).get? b=none:=Vl (UJ _)
theorem Es {h bA:Heap} {oT:Obj} {ts vs:Array Value} {D:Addr} {m:Str->Option Value} {t:Tok} {sl:Array (Option Value)} {f:Value} (R:ak g J H h) (FS:pj g J h) (F0:My g a6) (e0:a6.get? e=none) (eφ:e∉J) (eB:g.B.get? e=none) (h0:∀ b o,a6.get? b=some o->∃ o',h.get? b=some o')
  (he:h.get? e=some {cls:=.ref (g.cls c),dict:=some D,data:=.fields vs,slots:=sl}) (dZ:1<vs.size) (hD:h.Ns D m) (hm:m ("word" : Str)=some (.str w t)) (D0:a6.get? D=none) (r7:D∉J) (hs:Heap.SlotsOnly (wP g) h bA) (hc:oT.cls=.type "traceback") (hd:oT.data=.fields ts) (h3:ts[3]? = some f) (hP:P f) :
  let h':=(bA.push oT).update e (Obj.mapFields (·.setIfInBounds 1 (.ref bA.objs.size)))
  ak g J H h'/\pj g J h'/\Ka g J a6 h' False P e c w/\zW g a6 h h' e:=by
 intro h'
 have eL:∀ L∈wP g,L≠e/\L≠D:=λL hL=>by
  refine aB (q7 hL) λf' hf hl=>?_
  exact⟨λq=>F0 f' hf L hl (q ▸ e0),λq=>F0 f' hf L hl (q ▸ D0)⟩
 have e1:bA.get? e=some {cls:=.ref (g.cls c),dict:=some D,data:=.fields vs,slots:=sl}:=(hs.2.1 e λq=>(eL e q).1 rfl).trans he
 have fr:oT.isFreed=false:=Obj.isFreed_of_fields hd
 have KJ:bA.objs.size≠e:=V7 (UU e1)
 have xr:∀ b,b≠e->h'.get? b=(bA.push oT).get? b:=λb hb=>Xs _ _ (Ne.symm hb)
 have keep:∀ b o,b≠e->bA.get? b=some o->h'.get? b=some o:=λb o hb e2=>(xr b hb).trans (G' _ e2)
 have ex:∀ b o,b≠e->b∉wP g->h.get? b=some o->h'.get? b=some o:=λb o hb hf e2=>keep b o hb ((hs.2.1 b hf).trans e2)
 have T':h'.get? bA.objs.size=some oT:=(xr _ KJ).trans (Uo _ fr)
 have ee:h'.get? e=some {cls:=.ref (g.cls c),dict:=some D,data:=.fields (vs.setIfInBounds 1 (.ref bA.objs.size)),slots:=sl}:=V3 _ (G' _ e1) rfl
 have DL:D∉wP g:=λq=>(eL D q).2 rfl
 have De:D≠e:=λq=>by
  refine qU hD λo es ep ho i7 z=>?_
  rw[q,he] at ho;cases ho;cases i7
 have QV:∀ b o,b≠e->h.get? b=some o->(∃ es ep,o.data=.dict es ep)\/b∉wP g->fj h' b o:=λb o hb e2 Ix=>by
  by_cases hf:b∈wP g
  ·refine N' (hs.2.2 b o e2) λPS e3=>?_
   refine Ug Ix (λIx=>?_) (λIx=>?_)
   ·exact .inr ⟨Ix,PS,keep b _ hb e3⟩
   ·exact absurd hf Ix
  ·exact .inl (ex b o hb hf e2)
 have Qj:∀ b o,b∈wP g->h.get? b=some o->∃ es ep,o.data=.dict es ep:=λb o hb e2=>by
  refine qU (FS.at hb) λo' es ep k1 k2 z=>?_
  rw[e2] at k1;cases k1
  exact⟨es,ep,k2⟩
 have kp:∀ b o,b≠e->h.get? b=some o->fj h' b o:=λb o hb e2=>by
  by_cases hf:b∈wP g
  ·exact QV b o hb e2 (.inl (Qj b o hf e2))
  ·exact QV b o hb e2 (.inr hf)
 refine⟨R.same (λb o hb e2=>?_) (λa o ha e2=>?_) (λb o e2 hh hn=>?_),FS.to λL o es ep k1 k2 k3=>?_,⟨⟨_,D,m,t,sl,ee,by rw[Array.size_setIfInBounds];exact dZ,fj.ns hD λo e2=>kp D o De e2,hm,D0,r7,.inr ⟨bA.objs.size,oT,ts,f,?_,KJ,T',hc,hd,h3,hP,?_,?_⟩⟩,e0,eφ,eB⟩,⟨λb o e2 hb=>kp b o (λq=>hb (q ▸ e0)) e2,λb o e2=>?_⟩⟩
 ·refine ex b o (λq=>by rw[q,eB] at hb;cases hb) (λhf=>?_) e2
  refine Eo (FS.at hf) λo' es ep z z z k4=>?_
  rw[k4] at hb;cases hb
 ·refine ex a o (λq=>eφ (q ▸ ha)) (λhf=>?_) e2
  refine Eo (FS.at hf) λo' es ep z z k3 z=>?_
  exact k3 ha
 ·refine ex b o (λq=>?_) (λhf=>?_) e2
  ·rw[q,he] at e2;cases e2
   rcases hh with ⟨h1,_⟩ | ⟨h1,_⟩ <;> exact nomatch h1
  ·refine nW (Qj b o hf e2) λes ep k2=>?_
   exact pZ k2 hh
 ·have RU:L≠e:=λq=>by rw[q,he] at k1;cases k1;cases k2
  exact⟨(kp L o RU k1).isD k2,k3⟩
 ·rw[XK];simp [dZ]
 ·cases q:a6.get? bA.objs.size with
  | none=>rfl
  | some o =>
   refine N' (h0 _ o q) λo' e3=>?_
   have:=UU e3
   rw[hs.1] at this
   exact absurd this (Vq _)
 ·refine aY R (Vl ?_)
  rw[hs.1];exact Un _
 ·by_cases hb:b=e
  ·exact⟨_,hb ▸ ee⟩
  ·exact (kp b o hb e2).live
end
section
variable {g:G} {A:Around} {E:Value->Shared->Prop} {J:List Addr} {H:ag} {s:Shared} {a6:Heap} {U:Prop} {P P':Value->Prop} {e L:Addr} {c:Nat} {w:Str} {Z:Env}
structure lL (g:G) (J:List Addr) (H:ag) (a6 h:Heap) (U:Prop) (P:Value->Prop) (e:Addr) (c:Nat) (w:Str):Prop where
 R:ak g J H h
 FS:pj g J h
 F0:My g a6
 dom:∀ b o,a6.get? b=some o->∃ o',h.get? b=some o'
 B0:∀ b o,g.B.get? b=some o->a6.get? b=some o
 X:Ka g J a6 h U P e c w
theorem Ka.mono {h:Heap} {U':Prop} (X:Ka g J a6 h U P e c w) (hU:U->U') (hP:∀ f,P f->P' f):Ka g J a6 h U' P' e c w:=by
 obtain ⟨⟨vs,D,m,t,sl,he,dZ,hD,hm,D0,r7,ht⟩,e0,eφ,eB⟩:=X
 refine⟨⟨vs,D,m,t,sl,he,dZ,hD,hm,D0,r7,?_⟩,e0,eφ,eB⟩
 rcases ht with ⟨u,h1⟩ | ⟨T,oT,ts,f,h1,h2,h3,h4,h5,h6,h7,h8⟩
 ·exact .inl ⟨hU u,h1⟩
 ·exact .inr ⟨T,oT,ts,f,h1,h2,h3,h4,h5,h6,hP f h7,h8⟩
theorem sP {h:Heap} {T:Addr} {oT:Obj} {vs ts:Array Value} {D:Addr} {m:Str->Option Value} {t:Tok} {sl:Array (Option Value)} {v:Value} (Y:lL g J H a6 h U P e c w)
  (he:h.get? e=some {cls:=.ref (g.cls c),dict:=some D,data:=.fields vs,slots:=sl}) (dZ:1<vs.size) (hD:h.Ns D m) (hm:m ("word" : Str)=some (.str w t)) (D0:a6.get? D=none) (r7:D∉J) (h1:vs[1]? = some (.ref T)) (KJ:T≠e) (hT:h.get? T=some oT) (hc:oT.cls=.type "traceback") (hd:oT.data=.fields ts) (h3:3<ts.size) (T0:a6.get? T=none) (P5:T∉J) (hP:P' v) :
  let h':=h.update T (Obj.mapFields (·.setIfInBounds 3 v))
  lL g J H a6 h' False P' e c w/\zW g a6 h h' e:=by
 intro h'
 obtain ⟨R,FS,F0,dom,B0,X⟩:=Y
 have xr:∀ b,b≠T->h'.get? b=h.get? b:=λb hb=>Xs _ _ (Ne.symm hb)
 have i7:=Obj.data_mapFields hd (·.setIfInBounds 3 v)
 have TT:h'.get? T=some (Obj.mapFields (·.setIfInBounds 3 v) oT):=V3 _ hT (Obj.isFreed_of_fields i7)
 have dm:∀ b o,h.get? b=some o->∃ o',h'.get? b=some o':=λb o e2=>by
  by_cases hb:b=T
  ·exact⟨_,hb ▸ TT⟩
  ·exact⟨o,(xr b hb).trans e2⟩
 have DT:D≠T:=λq=>by
  refine qU hD λo es ep ho Ig z=>?_
  rw[q,hT] at ho;cases ho
  exact nomatch hd.symm.trans Ig
 refine⟨⟨R.same (λb o hb e2=>(xr b λq=>?_).trans e2) (λa o ha e2=>(xr a λq=>P5 (q ▸ ha)).trans e2) (λb o e2 hh hn=>(xr b λq=>?_).trans e2),FS.to λL o es ep k1 k2 k3=>⟨⟨o,es,ep,(xr L λq=>?_).trans k1,k2⟩,k3⟩,F0,λb o e2=>?_,B0,
  ⟨⟨vs,D,m,t,sl,(xr e KJ.symm).trans he,dZ,?_,hm,D0,r7,.inr ⟨T,_,_,v,h1,KJ,TT,(Obj.cls_mapFields _ _).trans hc,i7,?_,hP,T0,P5⟩⟩,X.e0,X.eφ,X.eB⟩⟩,⟨λb o e2 hb=>.inl ((xr b λq=>hb (q ▸ T0)).trans e2),dm⟩⟩
 ·have:=B0 b o hb
  rw[q,T0] at this;cases this
 ·rw[q,hT] at e2;cases e2
  rcases hh with ⟨k,_⟩ | ⟨k,_⟩ <;> (rw[hc] at k;exact absurd k (by decide))
 ·rw[q,hT] at k1;cases k1
  exact nomatch hd.symm.trans k2
 ·refine N' (dom b o e2) λo' e3=>?_
  exact dm b o' e3
 ·refine mQ hD λo es ep ho r=>?_
  exact⟨o,es,ep,(xr D DT).trans ho,r⟩
 ·rw[XK];simp [h3]
theorem gk {fr:Option Addr} {Q:Unit->Shared->Prop} (Y:lL g J H a6 s.heap U P e c w) (hP:P' (fr.elim .none λf=>rawInt f))
  (hQ:∀ h',lL g J H a6 h' U P' e c w->zW g a6 s.heap h' e->Q () {s with heap:=h'}):wpAny (model g.prog g.w) A (setFlight (.ref e) fr) Q E s:=by
 refine MH Y.X.ex λvs D m t sl he dZ hD hm D0 r7 ht=>?_
 unfold setFlight
 rcases ht with ⟨u,h1⟩ | ⟨T,oT,ts,f,h1,h2,h3,h4,h5,h6,h7,h8,h9⟩
 ·refine wpAny_bind (wpAny_field he rfl h1 ?_)
  rw[if_neg (by decide)]
  exact wpAny_pure (hQ s.heap ⟨Y.R,Y.FS,Y.F0,Y.dom,Y.B0,⟨vs,D,m,t,sl,he,dZ,hD,hm,D0,r7,.inl ⟨u,h1⟩⟩,Y.X.e0,Y.X.eφ,Y.X.eB⟩ ⟨λb o e z=>.inl e,λb o e=>⟨o,e⟩⟩)
 ·refine wpAny_bind (wpAny_field he rfl h1 ?_)
  rw[if_pos (show (Value.ref T != Value.none)=true from by simp)]
  have KB:3<ts.size:=(WN.mp h6).1
  refine aR (sP (P':=P') Y he dZ hD hm D0 r7 h1 h2 h3 h4 h5 KB h8 h9 hP) λY' K'=>?_
  exact wpAny_setField h3 h5 KB (hQ _ ⟨Y'.R,Y'.FS,Y'.F0,Y'.dom,Y'.B0,Y'.X.mono (λq=>q.elim) λz q=>q⟩ K')
theorem vP {Q:Unit->Shared->Prop} (Ij:A.frames=some g.fr) {bw:List Env} (hg:g.fr=Z::bw) (hf:Z.frame=some L) (Y:lL g J H a6 s.heap U (PL L) e c w)
  (hQ:∀ h',lL g J H a6 h' False (PL L) e c w->zW g a6 s.heap h' e->Q () {s with heap:=h'}):wpAny (model g.prog g.w) A (noteFrame (.ref e) Z) Q E s:=by
 refine MH Y.X.ex λvs D m t sl he dZ hD hm D0 r7 ht=>?_
 have Qh:∀ (s':Shared) (Ih:Value) (b:Bool) (vs:Array Value),lL g J H a6 s'.heap U (PL L) e c w->s'.heap.get? e=some {cls:=.ref (g.cls c),dict:=some D,data:=.fields vs,slots:=sl}->1<vs.size->s'.heap.Ns D m->(∀ h',lL g J H a6 h' False (PL L) e c w->zW g a6 s'.heap h' e->Q () {s' with heap:=h'}) ->
   wpAny (model g.prog g.w) A (do let a <-frameOf Z;let pl <-entryPlaceOf L b;let x <-EntryCells.newEntry Ih a .none (rawInt L) .none pl;setField (.ref e) 1 x) Q E s':=by
  intro s' Ih b vs Y' yw Lz RI RY
  refine wpAny_bind (wpAny_frameOf_fun (base:={}) (Ij.trans (congrArg some hg)) (hg ▸ u7 Y'.FS λL z=>Cf L) hf λbA gS=>?_)
  refine wpAny_bind (wpAny_entryPlaceOf λpl r2=>?_)
  unfold EntryCells.newEntry newFields
  refine wpAny_bind (wpAny_newObj_type ?_ (r2.sizeOk5 _ _ _ _ _))
  have Bv:Heap.SlotsOnly (wP g) s'.heap bA:=by unfold wP;rw[hg];exact gS
  have KZ:bA.get? e=some {cls:=.ref (g.cls c),dict:=some D,data:=.fields vs,slots:=sl}:=(Bv.2.1 e λq=>by
   refine aB (q7 q) λf' Bk fT=>?_
   exact Y'.F0 f' Bk e fT Y'.X.e0).trans yw
  refine wpAny_setField (G' _ KZ) rfl Lz ?_
  refine yo (Es (P:=PL L) (f:=rawInt L) (oT:={cls:=.type "traceback", dict:=none,data:=.fields ([Ih,.ref L,.none,rawInt L,.none]++(if pl.isEmpty then UL 6 Value.none else pl)).toArray}) Y'.R Y'.FS Y'.F0 Y'.X.e0 Y'.X.eφ Y'.X.eB Y'.dom yw Lz RI hm D0 r7 Bv rfl rfl (by first | rfl | simp) (.inr rfl)) λa1 a2 a3 a4=>?_
  refine RY _ ⟨a1,a2,Y'.F0,λb o e2=>?_,Y'.B0,a3⟩ a4
  refine N' (Y'.dom b o e2) λo' e3=>?_
  exact a4.dom b o' e3
 unfold noteFrame
 simp only[hf]
 rcases ht with ⟨u,h1⟩ | ⟨T,oT,ts,f,h1,h2,h3,h4,h5,h6,h7,h8,h9⟩
 ·refine wpAny_bind (wpAny_field he rfl h1 ?_)
  rw[if_neg (by decide)]
  exact Qh s .none _ vs Y he dZ hD hQ
 ·refine wpAny_bind (wpAny_field he rfl h1 ?_)
  rw[if_pos (show (Value.ref T != Value.none)=true from by simp)]
  refine wpAny_bind (wpAny_field h3 h5 h6 ?_)
  have KB:3<ts.size:=(WN.mp h6).1
  by_cases GC:(f==rawInt L)=true
  ·rw[if_pos GC]
   exact wpAny_pure (hQ s.heap ⟨Y.R,Y.FS,Y.F0,Y.dom,Y.B0,⟨vs,D,m,t,sl,he,dZ,hD,hm,D0,r7,.inr ⟨T,oT,ts,f,h1,h2,h3,h4,h5,h6,h7,h8,h9⟩⟩,Y.X.e0,Y.X.eφ,Y.X.eB⟩ ⟨λb o e z=>.inl e,λb o e=>⟨o,e⟩⟩)
  ·rw[if_neg GC]
   refine aR (sP (P':=PL L) Y he dZ hD hm D0 r7 h1 h2 h3 h4 h5 KB h8 h9 (.inl rfl)) λY' K'=>?_
   refine wpAny_bind (wpAny_setField h3 h5 KB ?_)
   have xr:∀ b,b≠T->(s.heap.update T (Obj.mapFields (·.setIfInBounds 3 Value.none))).get? b=s.heap.get? b:=λb hb=>Xs _ _ (Ne.symm hb)
   have DT:D≠T:=λq=>by
    refine qU hD λo es ep ho Ig z=>?_
    rw[q,h3] at ho;cases ho
    exact nomatch h5.symm.trans Ig
   refine Qh {s with heap:=s.heap.update T (Obj.mapFields (·.setIfInBounds 3 Value.none))} (.ref T) _ vs ⟨Y'.R,Y'.FS,Y'.F0,Y'.dom,Y'.B0,Y'.X.mono (λq=>q.elim) λz q=>q⟩ ((xr e h2.symm).trans he) dZ ?_ λh' Y2 K2=>hQ h' Y2 (K'.trans K2)
   refine mQ hD λo es ep ho r=>?_
   exact⟨o,es,ep,(xr D DT).trans ho,r⟩
theorem E1 {Q:Unit->Shared->Prop} (Ij:A.frames=some g.fr) {bw:List Env} (hg:g.fr=Z::bw) (hf:Z.frame=some L) (Y:lL g J H a6 s.heap U (PL L) e c w)
  (hQ:∀ h',lL g J H a6 h' False P0 e c w->zW g a6 s.heap h' e->Q () {s with heap:=h'}):wpAny (model g.prog g.w) A (leaving Z (.ref e)) Q E s:=by
 unfold leaving
 refine wpAny_bind (vP Ij hg hf Y λh' Y' K'=>?_)
 exact gk (s:={s with heap:=h'}) (P':=P0) Y' rfl λuq Y2 K2=>hQ uq Y2 (K'.trans K2)
theorem HU {Q:Prop} {E':Value->Shared->Prop} (hf:Z.frame=some L) (Y:lL g J H a6 s.heap False (PL L) e c w)
  (hQ:∀ h',lL g J H a6 h' False (PL L) e c w->zW g a6 s.heap h' e->E' (.ref e) {s with heap:=h'}):cameBackBy (model g.prog g.w) A Z E' (.ref e) s:=by
 refine MH Y.X.ex λvs D m t sl he dZ hD hm D0 r7 ht=>?_
 unfold cameBackBy
 refine Ug ht (λq=>aR q λu h1=>?_) (λq=>NV q λT oT ts f h1 r=>?_)
 ·exact u.elim
 ·refine wpAny_bind (wpAny_field he rfl h1 ?_)
  rw[if_neg (by simp)]
  exact gk (P':=PL L) Y (by rw[hf];exact .inr rfl) hQ
end
theorem uf (C:Addr) (v:Value):(Code.builtin "type.__call__" ⟨[.ref C,v],[]⟩).weight=1:=by kernel_rfl
theorem j9 {x:Str} {c:Nat} (h:fQ.lookup x=some c):(c=0/\x=("LarderError" : Str))\/(c=1/\x=("TooMuch" : Str))\/(c=2/\x=("Short" : Str))\/(c=3/\x=("ValueError" : Str)):=by
 have hm:=mem_of_lookup h
 simp only[fQ,Uh,Prod.mk.injEq,V6,or_false] at hm
 rcases hm with ⟨h1,h2⟩ | ⟨h1,h2⟩ | ⟨h1,h2⟩ | ⟨h1,h2⟩
 ·exact .inl ⟨h2,h1⟩
 ·exact .inr (.inl ⟨h2,h1⟩)
 ·exact .inr (.inr (.inl ⟨h2,h1⟩))
 ·exact .inr (.inr (.inr ⟨h2,h1⟩))
section
variable {prog:Program} {w:World} {A:Around} {E:Value->Shared->Prop} {s:Shared} {Z:Env} {C C0:Addr} {mN mN0:Str->Option Value}
theorem vX {x:Sem Value} {Q:PySem.Flow->Shared->Prop} (hh:A.handled=none)
  (h:wpAny (model prog w) A x (λv s₁=>∃ e t D,v=.ref e/\dS s₁.heap C C0 mN mN0/\s₁.heap.get? e=some {cls:=.ref C,dict:=some D,data:=.fields #[.ref t,.none,.none,.none,.bool false,.none]}/\E (.ref e) s₁) E s) :
  wpAny (model prog w) A (raiseStmt Z (some x) none) Q E s:=by
 have vd:(Value.ref C::.ref C0::iV).contains (.type "BaseException")=true:=dX PySem.F.excBase_ValueError.hasBase
 unfold raiseStmt
 refine wpAny_bind (wpAny_mono h (λv s₁ bA=>?_) λz z x=>x)
 refine Eo bA λe t D q4 S he hE=>?_;apply aV q4
 refine lB (id S.c.obj) λN O q bs sub k3=>?_;refine qV k3 λk0 k1 k2 k3 k5 hC hn=>?_
 obtain ⟨hp,g,d,tk,os⟩:=s₁
 repeat (first | with_reducible refine wpAny_loadPart_at he ?_ | with_reducible refine wpAny_loadPart_at hC ?_ | (with_reducible refine wpAny_isSubtype_exc hC ?_;rw[vd]) | wp_step)
 exact wpAny_raiseNew_none hh hE
end
section
variable {g:G} {cx:cp} {fs:List Fn} {mg mb:Str->Option Value} {A:Around} {E:Value->Shared->Prop} {J:List Addr} {H:ag} {s:Shared} {Z:Env} {O:List (Str×Nat)} {K:aN} {call:aw} {d:Nat}
theorem gm.keeps {h h':Heap} {f:Addr} (I:gm h f) (hk:∀ b o,h.get? b=some o->h'.get? b=some o):gm h' f:=by
 exact AU I.ex λo fd a1 a2 ho IO lU=>⟨o,fd,a1,a2,hk _ _ ho,IO,lU.keeps hk⟩
theorem fy.keeps {h h':Heap} {C:Addr} {tl:List Value} {mN:Str->Option Value} (X:fy h C tl mN) (hk:∀ b o,h.get? b=some o->h'.get? b=some o):fy h' C tl mN:=by
 obtain ⟨⟨N,O,q,bs,sub,k0,k1,k2,k3,k5,hC,hn⟩,q1⟩:=X
 exact⟨⟨N,O,q,bs,sub,k0,k1,k2,k3,k5,hk _ _ hC,hn.keeps hk⟩,q1⟩
theorem rO (G:er g cx fs mg mb) {c:Nat} (hc:c=1\/c=2):∃ mN mN0 f,dS g.B (g.cls c) (g.cls 0) mN mN0/\mN ("__init__" : Str)=none/\mN0 ("__init__" : Str)=some (.ref f)/\gm g.B f:=by
 refine kF G.exc.c0 λm0 f a1 a2 a3=>?_
 rcases hc with rfl | rfl
 ·refine aB G.exc.c1 λm1 b1 b2=>?_
  exact⟨m1,m0,f,⟨b1,a1⟩,b2,a2,a3⟩
 ·refine aB G.exc.c2 λm1 b1 b2=>?_
  exact⟨m1,m0,f,⟨b1,a1⟩,b2,a2,a3⟩
theorem sA (G:er g cx fs mg mb) {x:Str} {c:Nat} (h:fQ.lookup x=some c) (hc:c=1\/c=2\/c=0):mg x=some (.ref (g.cls c)):=by
 rcases j9 h with ⟨rfl,rfl⟩ | ⟨rfl,rfl⟩ | ⟨rfl,rfl⟩ | ⟨rfl,rfl⟩
 ·exact G.exc.n0
 ·exact G.exc.n1
 ·exact G.exc.n2
 ·rcases hc with q | q | q <;> cases q
theorem Fg {x:Str} {e:Expr} {np kD pos:Pos} {a:CE} {c:Nat} {wd:Str} {σ1:ag} {Q:PySem.Flow->Shared->Prop} (hA:hW A d) (G:er g cx fs mg mb) (hg:bh Z.scope x=true) (rh:fQ.lookup x=some c) (hc:c=1\/c=2) (gh:∀ y q,e≠.Starred y q) (hx:aM g A Z O e (ab call a)) (he:ab call a K H=some (.str wd,σ1)) (R:ak g J H s.heap) (F:dR g J Z O K s.heap)
  (hE:∀ ea aj s',SE J s.heap aj s'.heap->bz s s'->lL g aj σ1 s.heap s'.heap True P0 ea c wd->E (.ref ea) s') :
  wpAny (model g.prog g.w) A (exec (.Raise (some (.Call (.Name x np) [e] [] kD)) none pos) Z) Q E s:=by
 refine Eo (rO G hc) λmN mN0 f S2 i1 i2 i3=>?_
 refine aR (bG hg) λlC lD=>?_
 have gR:starEach [e] Z=(false,eval e Z)::starEach [] Z:=iz gh
 have sS:A.depth<recursionLimit:=by
  have h1:=hA.depth
  have h2:600<recursionLimit:=by decide
  exact jT (y4 0x1c1310b02589011b10258910b20813ba230 rfl (iL h1) (iT h2) (iP _) (iA _ _))
 have KW:∀ v:Value,(A.under (.builtin "type.__call__" ⟨[.ref (g.cls c),v],[]⟩)).depth<recursionLimit:=λv=>by
  have h1:=hA.depth
  have h2:700<recursionLimit:=by decide
  have h3:=uf (g.cls c) v
  show A.depth+(Code.builtin "type.__call__" ⟨[.ref (g.cls c),v],[]⟩).weight<_
  exact jT (y6 0x1c1310b02589011b102bc912b18212ba24310b50813ba540 rfl (iL h1) (iT h2) (iE h3) (iA _ _) (iP _) (iA _ _))
 rw[arm_exec_Raise]
 refine wpAny_bind (wpAny_standAt (vX (C:=g.cls c) (C0:=g.cls 0) (mN:=mN) (mN0:=mN0) hA.handled ?_))
 refine wpAny_bind (wpAny_mono (wpAny_Call_ofName (gO G F R lC lD (sA G rh (by rcases hc with q | q;exact .inl q;exact .inr (.inl q))) ?_)) (λv g6 dz=>wpAny_bind (wpAny_standAt (wpAny_pure dz))) λz z x=>x)
 show wpAny _ _ (callWith kD (.ref (g.cls c)) [] (backTo kD (starEach [e] Z)) []) _ _ _
 rw[gR]
 unfold callWith
 refine wpAny_bind (wpAny_holding (evalArgs_plain ?_))
 show wpAny _ _ (spliced (backTo kD ((false,eval e Z)::starEach [] Z))) _ _ _
 have T1:∀ {Q':List Value->Shared->Prop},wpAny (model g.prog g.w) A (spliced (backTo kD (starEach [e] Z))) Q' E s->wpAny (model g.prog g.w) A (spliced (backTo kD ((false,eval e Z)::starEach [] Z))) Q' E s:=λh=>by rw[gR] at h;exact h
 refine T1 (args_cons (hx.bind he R F λb s₁ aj S T au aU a7=>args_nil ?_) gR)
 apply PX rfl a7;intro t
 refine wpAny_bind (wpAny_standAt ?_)
 have F6:=S2.keeps au.base
 refine lB (id F6.c.obj) λN JR q bs sub PB=>?_;refine qV PB λk0 k1 k2 k3 k5 hC hn=>?_
 have wT:∃ o,g.B.get? f=some o/\o.cls=.type "function" := by
  refine AU i3.ex λo fd a1 a2 ho IO z=>?_
  exact⟨o,ho,IO.cls⟩
 refine aB wT λoI SX OU=>?_
 have vi:s₁.heap.NoLimit:=G.nolimit.keeps au.base
 have J2:My g s.heap:=λf' Bk L hl=>by
  obtain ⟨_,L',o,es,ep,k2,k3,_⟩:=F.stk f' Bk
  rw[hl] at k2;cases k2
  rw[k3];exact λq=>nomatch q
 obtain ⟨hp,gg,dd,tk,os⟩:=s₁
 refine wpAny_bind (wpAny_keeperOf_exc hC ?_)
 refine wpAny_bind (AG F6 i1 i2 (au.base _ _ SX) OU (VM rfl) λh' ea hm=>?_)
 refine ew hm.there λtt Su htn GR=>?_
 refine wpAny_mono (yD (s:=⟨h',gg,dd,tk,os⟩) ((i3.keeps au.base).keeps hm.keeps) (KW _) (vi.keeps hm.keeps) (F6.keeps hm.keeps) Su λh2 T5 W=>?_) (λv s' q=>q) λz z x=>x
 refine qT W λD w1 w2 w3 w4=>?_
 have ut:∀ b o,hp.get? b=some o->h2.get? b=some o:=λb o e2=>w4 b o (λq=>by rw[q,hm.new] at e2;cases e2) (hm.keeps b o e2)
 refine⟨rfl,wpAny_bind (wpAny_holding (wpAny_point (wpAny_pure ⟨ea,tt,D,rfl,F6.keeps ut,w1,?_⟩)))⟩
 have S':SE J s.heap aj h2:=S.trans (SE.keeps _ ut)
 have e0:hp.get? ea=none:=hm.new
 have D0:hp.get? D=none:=eV hm.keeps w3
 refine hE ea aj ⟨h2,gg,dd,T5,os⟩ S' (T.trans ⟨rfl,rfl,rfl⟩) ⟨au.keeps ut,(aU.step au (SE.keeps _ ut)).stk,J2,S'.dom,R.base,⟨⟨_,D,_,t,_,w1,VM rfl,w2.ns,if_pos rfl,S.back D0,aY au D0,.inl ⟨trivial,rfl⟩⟩,S.back e0,aY au e0,aW au e0⟩⟩
end
open Builtin Builtin.ObjectAttr
theorem He:("__getattribute__" : Str)∉ge:=by decide +kernel
theorem Hf:("__getattr__" : Str)∉ge:=by decide +kernel
theorem L6:("__class__" : Str)∉ge:=by decide +kernel
theorem LZ:typeLookup (.type "ValueError") ("__class__" : Str)=pure (some (.builtin "object.__class__")):=by rw[typeLookup_type,builtinLookup_eq_fast];kernel_rfl
section
variable {prog:Program} {w:World} {A:Around} {E:Value->Shared->Prop} {h:Heap} {g:Array GenState} {d:Drawn} {t:Nat} {os:OsState}
 {C C0 a D:Addr} {mN mN0 m:Str->Option Value} {v:Value} {o:Obj} {vs:Array Value} {FB:ExcAttrBase "ValueError" iV}
theorem su {ty:Value} {Q:Unit->Shared->Prop} (S:dS h C C0 mN mN0) (hx:h.get? a=some o) (hc:o.cls=.ref C) (hq:Q () ⟨h,g,d,t,os⟩):wpAny (model prog w) A (checkBuiltinCall "BaseException.__getattribute__" ⟨[.ref a,ty],[]⟩) Q E ⟨h,g,d,t,os⟩:=by
 refine lB (id S.c.obj) λN O q bs sub k3=>?_;refine qV k3 λk0 k1 k2 k3 k5 hC hn=>?_
 have hk:builtinKind "BaseException.__getattribute__" = some .slot:=by decide +kernel
 have IF:splitId "BaseException.__getattribute__" = some ("BaseException", "__getattribute__"):=by decide +kernel
 have vd:(Value.ref C::.ref C0::iV).contains (.type "BaseException")=true:=dX PySem.F.excBase_ValueError.hasBase
 have ha:=PySem.F.args_bexc_ga (.ref a) ty
 simp only[checkBuiltinCall,hk,IF]
 refine wpAny_bind ?_
 ·unfold isInstance
  repeat (first | (with_reducible refine wpAny_loadPart_at hx ?_;rw[hc]) | (with_reducible refine wpAny_isSubtype_exc hC ?_;rw[vd]) | wp_step)
  exact hq
set_option tactic.hygienic true in
theorem wf {tk:Tok} {Q:PySem.Fin->Shared->Prop} (S:dS h C C0 mN mN0) (hx:h.get? a=some o) (hc:o.cls=.ref C) (hd:o.data=.fields vs) (kJ:o.dict=some D) (hD:h.Ns D m) (hw:m ("word" : Str)=some v) (hq:Q (.done (.ret v)) ⟨h,g,d,t,os⟩) :
  wpAny (model prog w) A (Builtin.«object.__getattribute__» ⟨[.ref a,.str "word" tk],[]⟩) Q E ⟨h,g,d,t,os⟩:=by
 refine lB (id S.c.obj) λN O q bs sub vz=>?_;refine qV vz λk0 k1 k2 k3 k5 hC hn=>?_
 repeat (any_goals (first | assumption | (with_reducible refine wpAny_loadPart_at hx ?_;rw[hc]) | with_reducible refine c9 S xp xl ?_ | wp_step))
 split
 ·rename_i c lU
  rw[hd] at lU;cases lU
 unfold instanceDict
 repeat (first | (with_reducible refine wpAny_loadPart_at hx ?_;rw[hc]) | with_reducible refine wpAny_loadPart_at hC ?_ | wp_step)
 rw[kJ]
 repeat (first | (with_reducible refine wpAny_nsGet hD ?_;rw[hw]) | wp_step)
 exact hq
theorem zG {tk:Tok} {R:Result->Shared->Prop} (S:dS h C C0 mN mN0) (hx:h.get? a=some o) (hc:o.cls=.ref C) (hd:o.data=.fields vs) (kJ:o.dict=some D) (hD:h.Ns D m) (hw:m ("word" : Str)=some v) (hq:R (.ok (.ret v)) ⟨h,g,d,t,os⟩) :
  codeAny (model prog w) A (.call (.builtin "BaseException.__getattribute__") ⟨[.ref a,.str "word" tk],[]⟩) R ⟨h,g,d,t,os⟩ :=
 codeAny_call_builtin PySem.F.attrBase_ValueError.ga.plain PySem.F.entry_bexc_ga (su S hx hc (wf S hx hc hd kJ hD hw hq))
theorem FO {tk:Tok} {fill expr:Bool} {Q:Value->Shared->Prop} (S:dS h C C0 mN mN0) (hx:h.get? a=some o) (hc:o.cls=.ref C) (hd:o.data=.fields vs) (kJ:o.dict=some D) (hD:h.Ns D m) (hw:m ("word" : Str)=some v) (hh:handedOut v=pure v) (hq:Q v ⟨h,g,d,t,os⟩) :
  wpAny (model prog w) A (getAttrBy (.ref a) (.str "word" tk) fill expr) Q E ⟨h,g,d,t,os⟩:=by
 have f3:=PySem.F.attrBase_ValueError.ga.bind (.ref a)
 have LD:(expr&&onTheHeap (Value.builtin "BaseException.__getattribute__"))=false:=by cases expr <;> rfl
 have JO:(Value.builtin "BaseException.__getattribute__" == Value.builtin "object.__getattribute__")=false:=by decide +kernel
 have LF:(onTheHeap (Value.ref C)&&Value.builtin "BaseException.__getattribute__" == Value.builtin "object.__getattribute__")=false:=by rw[JO];rfl
 repeat (any_goals (first | assumption | (with_reducible refine wpAny_loadPart_at hx ?_;rw[hc]) | with_reducible refine c9 S He PySem.F.attrBase_ValueError.ga.lookup ?_ | with_reducible refine c9 S Hf PySem.F.attrBase_ValueError.noGetattr ?_ | wp_step))
 refine zG S hx hc hd kJ hD hw ?_
 show wpAny _ _ (handedOut v) _ _ _
 rw[hh]
 exact wpAny_pure hq
theorem zE {expr:Bool} {Q:Value->Shared->Prop} (S:dS h C C0 mN mN0) (hx:h.get? a=some o) (hc:o.cls=.ref C) (hd:o.data=.fields vs) (kJ:o.dict=some D) (hD:h.Ns D m) (hw:m ("word" : Str)=some v) (hh:handedOut v=pure v) (hq:Q v ⟨h,g,d,t+1,os⟩) :
  wpAny (model prog w) A (getAttr (.ref a) "word" expr) Q E ⟨h,g,d,t,os⟩:=by
 unfold getAttr
 repeat (any_goals (first | assumption | with_reducible apply FO S hx hc hd kJ hD hw hh | wp_step))
end
open Builtin Builtin.ObjectAttr
section
variable {prog:Program} {w:World} {A:Around} {E:Value->Shared->Prop} {h:Heap} {g:Array GenState} {d:Drawn} {t:Nat} {os:OsState}
 {C C0 a D:Addr} {mN mN0 m:Str->Option Value} {v cv:Value} {o:Obj} {vs:Array Value} {b:Bool}
theorem yj {R:Result->Shared->Prop} (S:dS h C C0 mN mN0) (hx:h.get? a=some o) (hc:o.cls=.ref C) (hq:R (.ok (.ret (.ref C))) ⟨h,g,d,t,os⟩) :
  codeAny (model prog w) A (.call (.builtin "getset_descriptor.__get__") ⟨[.builtin "object.__class__", .ref a,.ref C],[]⟩) R ⟨h,g,d,t,os⟩:=by
 refine lB (id S.c.obj) λN O q bs sub k3=>?_;refine qV k3 λk0 k1 k2 k3 k5 hC hn=>?_
 have Qu:(⟨h,g,d,t,os⟩:Shared).TypeIs (.builtin "object.__class__") "getset_descriptor" := PySem.F.typeOf_object_class
 have vd:(Value.ref C::.ref C0::iV).contains (.type (".".intercalate ("object.__class__".cutAt '.').dropLast))=true:=by
  rw[PySem.F.owner_object_class];exact dX (by decide +kernel)
 refine codeAny_call_builtin PySem.F.slot_gs_get.plain PySem.F.entry_gs_get (PySem.F.slot_gs_get.check _ _ _ _ _ _ _ _ Qu (PySem.F.args_gs_get _ _ _) ?_)
 repeat (any_goals (first | assumption | (with_reducible refine wpAny_loadPart_at hx ?_;rw[hc]) | (with_reducible refine wpAny_isSubtype_exc hC ?_;rw[vd]) | wp_step))
 refine⟨Code.quiet_builtin _ (by decide +kernel),codeAny_builtin PySem.F.entry_object_class ?_⟩
 repeat (any_goals (first | assumption | (with_reducible refine wpAny_loadPart_at hx ?_;rw[hc]) | wp_step))
theorem sv {tk:Tok} {Q:PySem.Fin->Shared->Prop} (S:dS h C C0 mN mN0) (hx:h.get? a=some o) (hc:o.cls=.ref C) (hq:Q (.done (.ret (.ref C))) ⟨h,g,d,t,os⟩) :
  wpAny (model prog w) A (Builtin.«object.__getattribute__» ⟨[.ref a,.str "__class__" tk],[]⟩) Q E ⟨h,g,d,t,os⟩:=by
 have Qu:(⟨h,g,d,t,os⟩:Shared).TypeIs (.builtin "object.__class__") "getset_descriptor" := PySem.F.typeOf_object_class
 have f5:=PySem.F.typeOf_object_class
 have f6:=PySem.F.slot_gs_get.lookup
 have f7:=PySem.F.slot_gs_set.lookup
 repeat (any_goals (first | assumption | (with_reducible refine wpAny_loadPart_at hx ?_;rw[hc]) | with_reducible refine c9 S L6 LZ ?_ | wp_step))
 refine yj S hx hc ?_
 repeat (any_goals (first | assumption | wp_step))
theorem uV {tk:Tok} {R:Result->Shared->Prop} (S:dS h C C0 mN mN0) (hx:h.get? a=some o) (hc:o.cls=.ref C) (hq:R (.ok (.ret (.ref C))) ⟨h,g,d,t,os⟩) :
  codeAny (model prog w) A (.call (.builtin "BaseException.__getattribute__") ⟨[.ref a,.str "__class__" tk],[]⟩) R ⟨h,g,d,t,os⟩ :=
 codeAny_call_builtin PySem.F.attrBase_ValueError.ga.plain PySem.F.entry_bexc_ga (su S hx hc (sv S hx hc hq))
theorem AJ {tk:Tok} {fill expr:Bool} {Q:Value->Shared->Prop} (S:dS h C C0 mN mN0) (hx:h.get? a=some o) (hc:o.cls=.ref C) (hq:Q (.ref C) ⟨h,g,d,t,os⟩) :
  wpAny (model prog w) A (getAttrBy (.ref a) (.str "__class__" tk) fill expr) Q E ⟨h,g,d,t,os⟩:=by
 have f3:=PySem.F.attrBase_ValueError.ga.bind (.ref a)
 have LD:(expr&&onTheHeap (Value.builtin "BaseException.__getattribute__"))=false:=by cases expr <;> rfl
 have JO:(Value.builtin "BaseException.__getattribute__" == Value.builtin "object.__getattribute__")=false:=by decide +kernel
 have LF:(onTheHeap (Value.ref C)&&Value.builtin "BaseException.__getattribute__" == Value.builtin "object.__getattribute__")=false:=by rw[JO];rfl
 repeat (any_goals (first | assumption | (with_reducible refine wpAny_loadPart_at hx ?_;rw[hc]) | with_reducible refine c9 S He PySem.F.attrBase_ValueError.ga.lookup ?_ | with_reducible refine c9 S Hf PySem.F.attrBase_ValueError.noGetattr ?_ | wp_step))
 refine uV S hx hc ?_
 repeat (any_goals (first | assumption | wp_step))
theorem uU {Q:Option Value->Shared->Prop} (S:dS h C C0 mN mN0) (hx:h.get? a=some o) (hc:o.cls=.ref C) (hq:Q (some (.ref C)) ⟨h,g,d,t+1,os⟩):wpAny (model prog w) A (getAttr? (.ref a) "__class__") Q E ⟨h,g,d,t,os⟩:=by
 unfold getAttr? getAttrBy?
 repeat (any_goals (first | assumption | with_reducible apply AJ S hx hc | wp_step))
noncomputable def kj (h:Heap) (cv:Value):Prop:=(∃ T,cv=.type T/\typeOf (.type T)=pure (.type "type"))\/∃ C O q N bs tl sub k0 k1 k2 k3 k5,cv=.ref C/\h.get? C=some (excClassObj O q C N bs tl true [] sub false none none k0 k1 k2 k3 k5 "ValueError.__new__")
theorem kj.type {s:Shared} (x:kj s.heap cv):s.TypeIs cv "type" := by
 rcases x with ⟨T,rfl,h⟩ | ⟨C,O,q,N,bs,tl,sub,k0,k1,k2,k3,k5,rfl,h⟩
 ·exact h
 ·exact⟨_,h,rfl⟩
theorem j8 {Q:Bool->Shared->Prop} (x:kj h cv) (hq:Q true ⟨h,g,d,t,os⟩):wpAny (model prog w) A (isType cv) Q E ⟨h,g,d,t,os⟩:=by
 unfold isType
 rcases x with ⟨T,rfl,h⟩ | ⟨C,O,q,N,bs,tl,sub,k0,k1,k2,k3,k5,rfl,h⟩
 ·exact wpAny_pure hq
 ·repeat (any_goals (first | assumption | with_reducible refine wpAny_loadPart_at h ?_ | wp_step))
theorem vO {Rn:Int} {tk:Tok} {Q:PySem.Fin->Shared->Prop} (S:dS h C C0 mN mN0) (hx:h.get? a=some o) (hc:o.cls=.ref C) (hI:kj h cv) (hb:(Value.ref C::.ref C0::iV).contains cv=b)
  (hq:∀ t',Q (.done (.ret (.bool b))) ⟨h,g,d,t',os⟩) :
  wpAny (model prog w) A (Builtin.«isinstance.nested» ⟨[.ref a,cv,.int Rn tk],[]⟩) Q E ⟨h,g,d,t,os⟩:=by
 refine lB (id S.c.obj) λN O q bs sub vz=>?_;refine qV vz λk0 k1 k2 k3 k5 hC hn=>?_
 have ht:(⟨h,g,d,t,os⟩:Shared).TypeIs cv "type" := kj.type hI
 have R6:∀ t',(⟨h,g,d,t',os⟩:Shared).TypeIs (.ref C) "type" := λt'=>⟨_,hC,rfl⟩
 have hT1:=R6 (t+1)
 have RO:kj h (.ref C):=.inr ⟨_,_,_,_,_,_,_,_,_,_,_,_,rfl,hC⟩
 by_cases he:(Value.ref C==cv)=true
 ·have hb':b=true:=by rw[<-hb,Vb];simp only[beq_iff_eq] at he;rw[he];simp
  subst hb'
  have EI:=hq t
  repeat (any_goals (first | assumption | (with_reducible refine wpAny_loadPart_at hx ?_;rw[hc]) | wp_step))
 ·have yw:(Value.ref C==cv)=false:=by simpa using he
  cases b with
  | true =>
   have EI:=hq t
   repeat (any_goals (first | assumption | (with_reducible refine wpAny_loadPart_at hx ?_;rw[hc]) | with_reducible refine j8 hI ?_ | (with_reducible refine wpAny_isSubtype_exc hC ?_;rw[hb]) | wp_step))
  | false =>
   have MT:=hq (t+1)
   repeat (any_goals (first | assumption | (with_reducible refine wpAny_loadPart_at hx ?_;rw[hc]) | with_reducible refine j8 hI ?_ | with_reducible refine j8 RO ?_ | (with_reducible refine wpAny_isSubtype_exc hC ?_;rw[hb]) | with_reducible apply uU S hx hc | wp_step))
theorem EQ {Q:Value->Shared->Prop} (S:dS h C C0 mN mN0) (hx:h.get? a=some o) (hc:o.cls=.ref C) (ht:kj h cv) (hb:(Value.ref C::.ref C0::iV).contains cv=b)
  (hq:∀ t',Q (.bool b) ⟨h,g,d,t',os⟩):wpAny (model prog w) A (call (.builtin "isinstance") [.ref a,cv]) Q E ⟨h,g,d,t,os⟩ :=
 call_isinstance_of (vO S hx hc ht hb λt'=>hq t') λe=>nomatch e
end
section
variable {g:G} {cx:cp} {fs:List Fn} {mg mb:Str->Option Value} {A:Around} {E:Value->Shared->Prop} {J:List Addr} {H:ag} {s:Shared} {Z:Env} {O:List (Str×Nat)} {K:aN} {call:aw} {d:Nat}
noncomputable def Ek (g:G) (d:Nat):Value:=if d=3 then .type "ValueError" else .ref (g.cls d)
theorem Aw {C:Addr}:iV.contains (.ref C)=false:=by
 simp [iV]
theorem El (G:er g cx fs mg mb) {c d:Nat} (hc:c=1\/c=2) (hd:d=0\/d=1\/d=2\/d=3):(Value.ref (g.cls c)::.ref (g.cls 0)::iV).contains (Ek g d)=pa c d:=by
 refine iK G.exc.ap λa1 a2 a3=>?_
 rcases hd with rfl | rfl | rfl | rfl
 ·show Yc _ (Value.ref (g.cls 0))=_
  rw[Vb,Vb,beq_self_eq_true];simp [pa]
 ·show Yc _ (Value.ref (g.cls 1))=_
  rw[Vb,Vb,Aw]
  rcases hc with rfl | rfl
  ·simp [pa]
  ·simp [pa,a1,a2]
 ·show Yc _ (Value.ref (g.cls 2))=_
  rw[Vb,Vb,Aw]
  rcases hc with rfl | rfl
  ·simp [pa,a1.symm,a3]
  ·simp [pa]
 ·show Yc _ (Value.type "ValueError")=_
  rw[dX PySem.F.excBase_ValueError.hasB];simp [pa]
theorem l0 {x:Str} {c:Nat} (h:fQ.lookup x=some c):c=0\/c=1\/c=2\/c=3:=by
 rcases j9 h with ⟨h,_⟩ | ⟨h,_⟩ | ⟨h,_⟩ | ⟨h,_⟩
 ·exact .inl h
 ·exact .inr (.inl h)
 ·exact .inr (.inr (.inl h))
 ·exact .inr (.inr (.inr h))
theorem wF (G:er g cx fs mg mb) (F:dR g J Z O K s.heap) (R:ak g J H s.heap) {x:Str} {c:Nat} {p:Pos} (hg:bh Z.scope x=true) (h:fQ.lookup x=some c) {Q:Value->Shared->Prop} (hq:Q (Ek g c) s):wpAny (model g.prog g.w) A (eval (.Name x p) Z) Q E s:=by
 refine aR (bG hg) λlC lD=>?_
 by_cases h3:c=3
 ·subst h3
  have hx:x=("ValueError" : Str):=by
   rcases j9 h with ⟨q,_⟩ | ⟨q,_⟩ | ⟨q,_⟩ | ⟨_,q⟩
   ·cases q
   ·cases q
   ·cases q
   ·exact q
  subst hx
  exact cF G F R lC lD (by decide) (v:=.type "ValueError") (by decide +kernel) hq
 ·refine gO G F R lC lD (sA G h ?_) ?_
  ·rcases l0 h with q | q | q | q
   ·exact .inr (.inr q)
   ·exact .inl q
   ·exact .inr (.inl q)
   ·exact absurd q h3
  ·unfold Ek at hq;rw[if_neg h3] at hq;exact hq
theorem AK (G:er g cx fs mg mb) (R:ak g J H s.heap) {c:Nat} (h:c=0\/c=1\/c=2\/c=3):kj s.heap (Ek g c):=by
 have own:∀ {C tl mN},fy g.B C tl mN->kj s.heap (.ref C):=λX=>by
  refine lB X.obj λN O q bs sub k3=>?_;refine qV k3 λk0 k1 k2 k3 k5 hC hn=>?_
  exact .inr ⟨_,_,_,_,_,_,_,_,_,_,_,_,rfl,R.base _ _ hC⟩
 rcases h with rfl | rfl | rfl | rfl
 ·refine gA G.exc.c0 λm0 f a1 z=>?_;exact own a1
 ·refine aB G.exc.c1 λm0 a1 z=>?_;exact own a1
 ·refine aB G.exc.c2 λm0 a1 z=>?_;exact own a1
 ·exact .inl ⟨_,rfl,by kernel_rfl⟩
theorem MR.exnE {h:Heap} {c d:Nat} {a:Addr} (x:MR g J h (.exn c d) a):∃ o vs D,h.get? a=some o/\o.cls=.ref (g.cls c)/\o.data=.fields vs/\o.dict=some D/\J[d]? = some D:=by
 cases x with
 | exn h1 h2 h3 h4 h5=>exact⟨_,_,_,h1,h2,h3,h4,h5⟩
theorem MR.wdE {h:Heap} {w:Str} {a:Addr} (x:MR g J h (.wd w) a):∃ m t,h.Ns a m/\m ("word" : Str)=some (.str w t):=by
 cases x with
 | wd h1 h2=>exact⟨_,_,h1,h2⟩
set_option tactic.hygienic true in
theorem Mq {x:V} {r:Nat} {h:Heap} {b:Value} (hr:r9 x=some r) (V:VR g J h x b):∃ a,b=.ref a/\J[r]? = some a:=by
 cases V <;> first | exact no hr | skip
 rename_i n a h1
 apply dE hr
 exact⟨a,rfl,h1⟩
theorem Fq {x:Expr} {tn:Str} {p' Je pos:Pos} {c:Nat} {a:CE} (G:er g cx fs mg mb) (gh:∀ e q,x≠.Starred e q) (hx:aM g A Z O x (ab call a)) (hg:bh Z.scope ("isinstance" : Str)=true) (GD:bh Z.scope tn=true) (hc:fQ.lookup tn=some c) :
  aM g A Z O (.Call (.Name ("isinstance" : Str) p') [x,.Name tn Je] [] pos) (ab call (.isC c a)):=by
 intro K H v af he J s R F E
 refine bU he λy σ1 h1 he=>?_
 refine aT he λv' h2 he=>?_
 apply cU he
 refine aT h2 λr h3 h2=>?_
 refine aT h2 λm h4 h2=>?_
 refine xq h2 λc' D' h5 h2=>?_
 apply dE h2
 refine aR (sd h5) λq1 Gz=>?_;subst q1
 refine aR (bG hg) λlC lD=>?_
 have gR:starEach [x,.Name tn Je] Z=(false,eval x Z)::starEach [.Name tn Je] Z:=iz gh
 refine Call_Name rfl (cF G F R lC lD (by decide) (v:=.builtin "isinstance") (by decide +kernel) (bH (.inl ⟨_,rfl⟩) (args_cons (hx.bind h1 R F λb s₁ aj S T' au aU a7=>args_cons (wF G aU au GD hc (args_nil ?_))) gR) gR rfl))
 refine aB (Mq h3 a7) λaa q2 vn=>?_;subst q2
 refine Qe ((au.objs _ _ _ vn h4).exnE) λo vs D e1 e2 e3 e4 e5=>?_
 refine mQ (rO G Gz) λmN mN0 f S2 z=>?_
 have ct:=AK (s:=s₁) G au (l0 hc)
 have F6:=S2.keeps au.base
 obtain ⟨hp,gg,dd,tk,os⟩:=s₁
 exact EQ F6 e1 e2 ct (El G Gz (l0 hc)) λt'=>bB.after S T' ⟨aj,cD.refl _ _ _,au,.bool _,rfl,rfl,rfl⟩
theorem tS {x:Str} {p pos:Pos} {a:CE} (G:er g cx fs mg mb) (hx:aM g A Z O (.Name x p) (ab call a)):aM g A Z O (.Attribute (.Name x p) ("word" : Str) pos) (ab call (.word a)):=by
 intro K H v af he J s R F E
 refine bU he λy σ1 h1 he=>?_
 refine aT he λv' h2 he=>?_
 apply cU he
 refine aT h2 λr h3 h2=>?_
 refine aT h2 λm h4 h2=>?_
 refine xq h2 λc' d' h5 h2=>?_
 refine aT h2 λm' h6 h2=>?_
 refine aT h2 λw h7 h2=>?_
 apply dE h2
 refine aR (sd h5) λq1 Gz=>?_;subst q1
 obtain rfl:=Aq h7
 refine Attribute_name (hx.bind h1 R F λb s₁ aj S T' au aU a7=>?_)
 refine aB (Mq h3 a7) λaa q2 vn=>?_;subst q2
 refine Qe ((au.objs _ _ _ vn h4).exnE) λo vs D e1 e2 e3 e4 e5=>?_
 refine gA ((au.objs _ _ _ e5 h6).wdE) λmm t w1 w2=>?_
 refine mQ (rO G Gz) λmN mN0 f S2 z=>?_
 have F6:=S2.keeps au.base
 obtain ⟨hp,gg,dd,tk,os⟩:=s₁
 exact zE F6 e1 e2 e3 e4 w1 w2 rfl (bB.after S T' ⟨aj,cD.refl _ _ _,au,.str _ _,rfl,rfl,rfl⟩)
end
theorem FU {call:aw} {k:Nat} {as:fh} {K:aN} {H:ag}:di call (.call k as) K H=bn (a8 call as K H) λvs σ1=>bn (call k vs σ1) λr ae=>A1 ae r:=rfl
theorem FY {call:aw} {m:fN} {o:CE} {as:fh} {K:aN} {H:ag}:di call (.meth m o as) K H=bn (ab call o K H) λx σ1=>if m8 m x σ1 then jC call as K σ1 else none:=rfl
theorem FW {call:aw} {as:fh} {K:aN} {H:ag}:di call (.list as) K H=jC call as K H:=rfl
theorem FV {call:aw} {e:CE} {r:fh} {K:aN} {H:ag}:jC call (.cons e r) K H=M9 (di call e K H) (bn (ab call e K H) λz σ1=>jC call r K σ1):=rfl
structure DY (g:G) (J:List Addr) (s:Shared) (c:Nat) (w:Str) (af:ag) (ea:Addr) (aO:List Addr) (s':Shared):Prop where
 hc:c=1\/c=2
 S:SE J s.heap aO s'.heap
 T:bz s s'
 X:lL g aO af s.heap s'.heap True P0 ea c w
noncomputable def ic (g:G) (A:Around) (Z:Env) (O:List (Str×Nat)) (e:Expr) (x:aN->ag->XR):Prop :=
 ∀ K H c w af,x K H=some (c,w,af)->∀ J s,ak g J H s.heap->dR g J Z O K s.heap->∀ (Q:Value->Shared->Prop) E,(∀ ea aO s',DY g J s c w af ea aO s'->E (.ref ea) s')->wpAny (model g.prog g.w) A (eval e Z) Q E s
noncomputable def nI (g:G) (A:Around) (fs:List Fn) (call:aw):Prop :=
 ∀ k as H c w af,call k as H=some (.exc c w,af)->∀ fn,fs[k]? = some fn->∀ J s cC,ak g J H s.heap->pj g J s.heap->bi g J s.heap as cC->∀ (Q:Value->Shared->Prop) E,(∀ ea aO s',DY g J s c w af ea aO s'->E (.ref ea) s')->wpAny (model g.prog g.w) A (PySem.call (.ref fn.addr) cC) Q E s
section
variable {g:G} {cx:cp} {fs:List Fn} {mg mb:Str->Option Value} {A:Around} {E:Value->Shared->Prop} {J aj aO:List Addr} {H σ1 af:ag} {s s₁ s':Shared} {Z:Env} {O:List (Str×Nat)} {K:aN} {call:aw} {d:Nat} {c:Nat} {w:Str} {ea:Addr}
theorem H8 {h:Heap} (F:pj g J h):My g h:=λf hf L hl=>by
 obtain ⟨_,L',o,es,ep,k2,k3,_⟩:=F f hf
 rw[hl] at k2;cases k2
 rw[k3];exact λq=>nomatch q
theorem lL.before {ms:Addr->Prop} {h bA h':Heap} {U:Prop} {P:Value->Prop} (S:cD ms J h aj bA) (R:ak g J H h) (F:pj g J h) (Y:lL g aO af bA h' U P ea c w):lL g aO af h h' U P ea c w:=by
 have bk:∀ {b},bA.get? b=none->h.get? b=none:=λ{b} e=>by
  cases q:h.get? b with
  | none=>rfl
  | some o=>refine N' (S.dom b o q) λo' e'=>?_;rw[e] at e';cases e'
 refine⟨Y.R,Y.FS,H8 F,λb o e=>?_,R.base,?_⟩
 ·refine N' (S.dom b o e) λo' e'=>?_
  exact Y.dom b o' e'
 ·obtain ⟨⟨vs,D,m,t,sl,he,dZ,hD,hm,D0,r7,ht⟩,e0,eφ,eB⟩:=Y.X
  refine⟨⟨vs,D,m,t,sl,he,dZ,hD,hm,bk D0,r7,?_⟩,bk e0,eφ,eB⟩
  rcases ht with h1 | ⟨T,oT,ts,f,h1,h2,h3,h4,h5,h6,h7,h8,h9⟩
  ·exact .inl h1
  ·exact .inr ⟨T,oT,ts,f,h1,h2,h3,h4,h5,h6,h7,bk h8,h9⟩
theorem DY.after (S:SE J s.heap aj s₁.heap) (T:bz s s₁) (R:ak g J H s.heap) (F:pj g J s.heap) (x:DY g aj s₁ c w af ea aO s'):DY g J s c w af ea aO s' :=
 ⟨x.hc,S.trans x.S,T.trans x.T,x.X.before S R F⟩
theorem zd {k:Nat} (G:er g cx fs mg mb) (hC:nI g A fs call) {F':Expr->Option CE} (hs:∀ e p,F' (.Starred e p)=none) (ih:∀ e c,F' e=some c->aM g A Z O e (ab call c)) {f:Str} {p pos:Pos} {as:List Expr} {cs:fh}
  (hg:bh Z.scope f=true) (hk:gw cx f=some k) (fK:as.isEmpty=false) (h:bY F' as=some cs):ic g A Z O (.Call (.Name f p) as [] pos) (di call (.call k cs)):=by
 intro K H c w af he J s R F Q E hE
 rw[FU] at he
 refine bU he λvs σ1 h1 he=>?_
 refine bU he λr ae h2 he=>?_
 refine aR (yq he) λq1 q2=>?_;subst q1 q2
 refine aB (A8 G hk) λfn kK q3=>?_;subst q3
 obtain ⟨hm,o,pm,cd,doc,ho,hd,lU⟩:=G.made fn (Ui kK)
 refine aR (bG hg) λlC lD=>?_
 cases as with
 | nil=>cases fK
 | cons e aG =>
  refine aT (k:=λc=>(bY F' aG).bind λcs=>some (fh.cons c cs)) h λc hc z=>?_
  refine Call_Name rfl (gO G F R lC lD hm (callWith_def (o:=o) hd (wpAny_mono (f0 hs ih pos h h1 R F E) (λcC s₁ ⟨aj,S,au,a7,T⟩=>⟨au.base _ _ ho,?_⟩) λz z x=>x) (cz hs hc aG)))
  exact hC k vs σ1 _ _ _ h2 fn kK aj s₁ cC au (F.step R S).stk a7 _ E λea aO s' X=>hE ea aO s' (X.after S T R F.stk)
theorem l5 {f:Expr->Option CE} (hs:∀ e p,f (.Starred e p)=none) (ih:∀ e c,f e=some c->aM g A Z O e (ab call c)) (uu:∀ e c,f e=some c->ic g A Z O e (di call c)) (pos:Pos):∀ {es:List Expr} {cs:fh},bY f es=some cs ->
  ∀ ⦃K H c w af⦄,jC call cs K H=some (c,w,af)->∀ ⦃J s⦄,ak g J H s.heap->dR g J Z O K s.heap->∀ (Q:List Value->Shared->Prop) E,(∀ ea aO s',DY g J s c w af ea aO s'->E (.ref ea) s')->wpAny (model g.prog g.w) A (spliced (backTo pos (starEach es Z))) Q E s
 | [],cs,h=>by
  intro K H c w af he J s R F Q E hE
  obtain rfl:=sm h
  exact no he
 | e::r,cs,h=>by
  refine aT h λc h1 h=>?_
  refine aT h λGl h2 h=>?_
  apply dE h
  intro K H c w af he J s R F Q E hE
  rw[FV] at he
  refine Ug (Ck he) (λhe=>?_) (λq=>aR q λz he=>?_)
  ·exact args_cons (uu e _ h1 K H c w af he J s R F _ E hE) (cz hs h1 r)
  ·refine bU he λx σ1 hx he=>?_
   exact args_cons ((ih e _ h1).bind hx R F λa s₁ aj S T au aU a7=>l5 hs ih uu pos h2 he au aU _ E λea aO s' X=>hE ea aO s' (X.after S T R F.stk)) (cz hs h1 r)
theorem zi {f:Expr->Option CE} (hs:∀ e p,f (.Starred e p)=none) (ih:∀ e c,f e=some c->aM g A Z O e (ab call c)) (uu:∀ e c,f e=some c->ic g A Z O e (di call c)) {pos:Pos} {es:List Expr} {cs:fh} (h:bY f es=some cs):ic g A Z O (.List es pos) (di call (.list cs)):=by
 intro K H c w af he J s R F Q E hE
 rw[FW] at he
 exact wpAny_List_spliced (l5 hs ih uu pos h he R F _ E hE)
theorem zj (G:er g cx fs mg mb) {F':Expr->Option CE} (hs:∀ e p,F' (.Starred e p)=none) (ih:∀ e c,F' e=some c->aM g A Z O e (ab call c)) (uu:∀ e c,F' e=some c->ic g A Z O e (di call c)) {o:Expr} {m:Str} {ap pos:Pos} {p:fN} {as:List Expr} {a:CE} {cs:fh}
  (ho:aM g A Z O o (ab call a)) (IB:vY o=true) (oi:(ap.endLine==pos.line)=true) (hp:wA m as.length=some p) (h:bY F' as=some cs):ic g A Z O (.Call (.Attribute o m ap) as [] pos) (di call (.meth p a cs)):=by
 intro K H c w af he J s R F Q E hE
 rw[FY] at he
 refine bU he λx σ1 h1 he=>?_
 refine dL he λhr he=>?_
 refine iK (sn hp) λyz yA q3=>?_;apply aV q3
 cases as with
 | nil=>cases yz
 | cons e aG =>
  refine aT (k:=λc=>(bY F' aG).bind λcs=>some (fh.cons c cs)) h λc' dK h'=>?_
  refine aT h' λGl Lx z=>?_
  refine wpAny_Call_method_lateS ?_ ?_ oi (ho.bind h1 R F λav s₁ aj S T au aU a7=>?_)
  ·cases o with
   | Name x p=>rfl
   | Constant k n p=>rfl
   | Subscript x y p=>rfl
   | _=>cases IB
  ·rw[t5 hs pos h]
   have:(e::aG).length+0+0<30:=by have:=yA;exact jT (y3 0x1c001e9210b28012ba080112ba0812 rfl (iL yA) (iA _ _) (iA _ _))
   exact decide_eq_true (p:=(e::aG).length+0+0<30) this
  ·refine aR (tI (s:=s₁) hr au a7) λhT hd=>?_
   exact⟨oL p,oJ p,oM p,qh p,qi p,hT,hd,callWith_method1 (l5 hs ih uu pos h he au aU _ E λea aO s' X=>hE ea aO s' (X.after S T R F.stk)) (cz hs dK aG) (jh hs pos Lx)⟩
end
theorem ii (cx:cp) (n:Nat) (sc:Scope) (O:List (Str×Nat)) (nx:Nat) (e:Expr) (p:Pos):bR cx n sc O nx (.Starred e p)=none:=by
 cases n <;> rfl
theorem Ay {cx:cp} {n:Nat} {sc:Scope} {O:List (Str×Nat)} {nx:Nat} {x:Expr} {c:CE} (h:bR cx n sc O nx x=some c):∀ e q,x≠.Starred e q:=by
 rintro e q rfl
 exact no ((ii cx n sc O nx e q).symm.trans h)
theorem uP {cx:cp} {n:Nat} {sc:Scope} {O:List (Str×Nat)} {nx:Nat} {x:Expr} {c:CE} (h:bR cx n sc O nx x=some c):∀ l u st p,x≠.Slice l u st p:=by
 rintro l u st p rfl
 cases n <;> exact no h
section
variable {g:G} {cx:cp} {fs:List Fn} {mg mb:Str->Option Value} {A:Around} {call:aw} {d:Nat}
theorem lT {n:Nat} {cx:cp} {sc:Scope} {O:List (Str×Nat)} {nx:Nat} {e:Expr} {it:gb} {Z:Env} (h:si cx n sc O nx e=some it):∀ x,foldedSetIterable e Z x=pure x:=by
 intro x
 cases e with
 | Set a b c =>
  refine aB (ob (m:=bR cx n sc O nx (.Set a b c)) (k:=λc=>some (gb.ex c)) h) λc' h z=>?_
  cases n <;> exact no h
 | _=>rfl
theorem rS {it:gb} {t:gE} {e:Expr} {sc:Scope} {O:List (Str×Nat)} (h:kP it t=true) (hc:eU sc O e=some t):rR (mq it) e:=by
 unfold eU at hc
 cases hn:cS e with
 | some x =>
  rw[hn] at hc
  refine N' (bq hn) λp ht=>?_
  refine aB (ob hc) λi z hc=>?_
  refine .inr ⟨?_,x,p,ht⟩
  rw[<-sm hc,kP] at h
  cases hq:mq it with
  | false=>rfl
  | true =>
   rw[hq] at h
   exact absurd h Uq
 | none =>
  rw[hn] at hc
  refine aB (ob hc) λl hl z=>?_
  refine nW (nN hl) λk p ht=>?_
  exact .inl ⟨_,_,_,ht⟩
theorem iF {Z:Env} {O:List (Str×Nat)} {e:Expr} {c:CE} (h:aM g A Z O e (ab call c)) (he:isTrue e Z (eval e Z)=(do let v <-eval e Z;standAt e.pos;holding [v] (truthy v))) :
  aM g A Z O e (ab call c)/\eR g A Z O e (cb call c):=⟨h,zk h he⟩
noncomputable def Rb (g:G) (A:Around) (call:aw) (F:Scope->List (Str×Nat)->Nat->Expr->Option CE):Prop:=∀ (Z:Env) O nx e c,F Z.scope O nx e=some c->aM g A Z O e (ab call c)/\eR g A Z O e (cb call c)
theorem CL {Z:Env} {O:List (Str×Nat)} {f:Expr->Option CE} (hA:hW A d) (cq:∀ e c,f e=some c->aM g A Z O e (ab call c)) {l:Expr} {ops:List CmpOp} {rs:List Expr} {p:Pos} {c:CE} (h:Km f l ops rs=some c) :
  aM g A Z O (.Compare l ops rs p) (ab call c)/\eR g A Z O (.Compare l ops rs p) (cb call c):=by
 refine aB (ob h) λop h1 h=>?_
 refine aB (ob h) λr h2 h=>?_
 refine aR (vw h) λhm h=>?_
 refine aB (ob h) λa ha h=>?_
 refine aB (ob h) λb hb h=>?_
 obtain rfl:=sm h
 obtain rfl:=bZ h1
 obtain rfl:=bZ h2
 exact Fm hA (Xr.mpr hm) (cq _ _ ha) (cq _ _ hb)
theorem C3 {Z:Env} {O:List (Str×Nat)} {f:Expr->Option CE} (cq:∀ e c,f e=some c->aM g A Z O e (ab call c)) (gh:∀ e c,f e=some c->∀ l u st p,e≠.Slice l u st p) {v i:Expr} {p:Pos} {c:CE} (h:Kp f v i=some c) :
  aM g A Z O (.Subscript v i p) (ab call c):=by
 refine aB (ob h) λa ha h=>?_
 by_cases hs:∃ lo hi st p,i=.Slice lo hi st p
 ·refine JB hs λlo hi st q k1=>?_;subst k1
  refine aR (cy h) λgR h=>?_
  refine aB (ob h) λx hx h=>?_
  refine aB (ob h) λy hy h=>?_
  obtain rfl:=sm h
  cases st with
  | none=>exact Fx cq (cq _ _ ha) hx hy
  | some _=>exact nomatch gR
 ·have h':((f i).bind λx=>some (CE.idx a x))=some c:=by
   cases i with
   | Slice lo hi st p=>exact absurd ⟨lo,hi,st,p,rfl⟩ hs
   | _=>exact h
  refine aB (ob h') λx hx h=>?_
  obtain rfl:=sm h
  exact xA (gh _ _ hx) (cq _ _ ha) (cq _ _ hx)
theorem da {f:Expr->Option CE} (hs:∀ e p,f (.Starred e p)=none) {x:Expr} {a:CE} (hx:f x=some a):∀ e q,x≠.Starred e q:=λe q eq=>by
 rw[eq,hs] at hx;exact no hx
theorem CQ {Z:Env} {O:List (Str×Nat)} {f:Expr->Option CE} (hA:hW A d) (G:er g cx fs mg mb) (hs:∀ e p,f (.Starred e p)=none) (cq:∀ e c,f e=some c->aM g A Z O e (ab call c)) {as:List Expr} {p pos:Pos} {c:CE} (hg:bh Z.scope ("isinstance" : Str)=true)
  (h:Gh f Z.scope as=some c):aM g A Z O (.Call (.Name ("isinstance" : Str) p) as [] pos) (ab call c):=by
 refine aB (ob h) λk2 hl h=>?_;obtain ⟨x,t⟩:=k2
 refine aB (ob h) λtn ht h=>?_
 refine aR (cy h) λOC h=>?_
 refine aB (ob h) λq hq h=>?_
 refine aB (ob h) λa ha h=>?_
 obtain rfl:=sm h
 obtain rfl:=g8 hl
 refine N' (bq ht) λp' k3=>?_;subst k3
 exact Fs hA G (da hs ha) (cq _ _ ha) hg OC hq
theorem tO {Z:Env} {O:List (Str×Nat)} {f:Expr->Option CE} (G:er g cx fs mg mb) (hs:∀ e p,f (.Starred e p)=none) (cq:∀ e c,f e=some c->aM g A Z O e (ab call c)) {as:List Expr} {p pos:Pos} {c:CE} (hg:bh Z.scope ("isinstance" : Str)=true)
  (h:HW f Z.scope as=some c):aM g A Z O (.Call (.Name ("isinstance" : Str) p) as [] pos) (ab call c):=by
 refine aB (ob h) λk4 hl h=>?_;obtain ⟨x,t⟩:=k4
 refine aB (ob h) λtn ht h=>?_
 refine aR (cy h) λOC h=>?_
 refine aB (ob h) λq hq h=>?_
 refine aB (ob h) λa ha h=>?_
 obtain rfl:=sm h
 obtain rfl:=g8 hl
 refine N' (bq ht) λp' k5=>?_;subst k5
 exact Fq G (da hs ha) (cq _ _ ha) hg OC hq
theorem zc {Z:Env} {O:List (Str×Nat)} {f:Expr->Option CE} (hA:hW A d) (G:er g cx fs mg mb) (hC:qF g A fs call) (hs:∀ e p,f (.Starred e p)=none) (cq:∀ e c,f e=some c->aM g A Z O e (ab call c)) {gn:Str} {as:List Expr} {p pos:Pos} {c:CE} (hg:bh Z.scope gn=true)
  (h:nP f cx Z.scope gn as=some c):aM g A Z O (.Call (.Name gn p) as [] pos) (ab call c):=by
 unfold nP at h
 cases hk:gw cx gn with
 | some k =>
  rw[hk] at h
  refine aR (vw h) λfK h=>?_
  refine aB (ob h) λcs fS h=>?_
  obtain rfl:=sm h
  exact tN G (hC k) hs cq hg hk (Xr.mpr fK) fS
 | none =>
  rw[hk] at h
  by_cases hi:(gn==("isinstance" : Str))=true
  ·replace h:=(if_pos hi).symm.trans h
   obtain rfl:=beq_iff_eq.mp hi
   by_cases rh:(Gk as).isSome=true
   ·exact tO G hs cq hg ((if_pos rh).symm.trans h)
   ·exact CQ hA G hs cq hg ((if_neg rh).symm.trans h)
  ·replace h:=(if_neg hi).symm.trans h
   refine aB (ob h) λq hq h=>?_
   refine aB (ob h) λcs fS h=>?_
   obtain rfl:=sm h
   exact CU hA G hs cq hg hq fS
theorem zb {Z:Env} {O:List (Str×Nat)} {f:Expr->Option CE} (hA:hW A d) (G:er g cx fs mg mb) (hC:qF g A fs call) (hs:∀ e p,f (.Starred e p)=none) (cq:∀ e c,f e=some c->aM g A Z O e (ab call c)) {fn:Expr} {as:List Expr} {ks:List Keyword} {pos:Pos} {c:CE}
  {sk:List Expr->Keyword->Option CE} (O4:∀ as k c p,bh Z.scope ("sorted" : Str)=true->sk as k=some c->aM g A Z O (.Call (.Name ("sorted" : Str) p) as [k] pos) (ab call c))
  (h:Ax f sk cx Z.scope fn as ks pos=some c):aM g A Z O (.Call fn as ks pos) (ab call c):=by
 cases fn with
 | Name wR p =>
  cases ks with
  | nil=>exact zc hA G hC hs cq (cy h).1 (cy h).2
  | cons k ks =>
   have hk:=cy (cy h).2
   obtain rfl:=UQ.mp hk.1
   by_cases hso:(wR==("sorted" : Str))=true
   ·have h2:=(if_pos hso).symm.trans hk.2
    obtain rfl:=beq_iff_eq.mp hso
    exact O4 as k c p (cy h).1 h2
   ·have h2:=(if_neg hso).symm.trans hk.2
    exact no h2
 | Attribute o m ap =>
  refine aR (cy h) λhc h=>?_
  refine aB (ob h) λq hq h=>?_
  refine aB (ob h) λa ha h=>?_
  refine aB (ob h) λcs fS h=>?_
  obtain rfl:=sm h
  simp only[Uv] at hc
  refine aR hc λk8 oi=>?_;refine aR k8 λhk IB=>?_
  obtain rfl:=UQ.mp hk
  exact CR G hs cq (cq _ _ ha) IB oi hq fS
 | _=>exact no h
theorem v0 {Z:Env} {O:List (Str×Nat)} {f:Expr->Option CE} (hA:hW A d) (G:er g cx fs mg mb) (hs:∀ e p,f (.Starred e p)=none) (cq:∀ e c,f e=some c->aM g A Z O e (ab call c)) {as:List Expr} {p q:Pos} {it:gb} (hg:bh Z.scope ("range" : Str)=true) (h:AC f as=some it):jP g A Z O (.Call (.Name ("range" : Str) p) as [] q) (mq it) (bS call it):=by
 match as,h with
 | [],h=>exact no h
 | [a],h =>
  refine aB (ob h) λx hx h=>?_
  obtain rfl:=sm h
  exact CW hA G hg (da hs hx) (cq _ _ hx)
 | [a,b],h =>
  refine aB (ob h) λx hx h=>?_
  refine aB (ob h) λy hy h=>?_
  obtain rfl:=sm h
  exact CX hA G hg (da hs hx) (da hs hy) (cq _ _ hx) (cq _ _ hy)
 | a::b::c::r,h =>
  refine aB (ob h) λx hx h=>?_
  refine aB (ob h) λy hy h=>?_
  refine aB (ob h) λz hz h=>?_
  refine aR (cy h) λhr h=>?_
  obtain rfl:=sm h
  obtain rfl:=UQ.mp hr
  exact CY hA G hg (da hs hx) (da hs hy) (da hs hz) (cq _ _ hx) (cq _ _ hy) (cq _ _ hz)
theorem CZ {Z:Env} {O:List (Str×Nat)} {f:Expr->Option CE} (hA:hW A d) (G:er g cx fs mg mb) (hs:∀ e p,f (.Starred e p)=none) (cq:∀ e c,f e=some c->aM g A Z O e (ab call c)) {gn:Str} {as:List Expr} {p q:Pos} {it:gb} (hg:bh Z.scope gn=true)
  (h:HY f gn as (.Call (.Name gn p) as [] q)=some it):jP g A Z O (.Call (.Name gn p) as [] q) (mq it) (bS call it):=by
 unfold HY at h
 by_cases h1:(gn==("range" : Str))=true
 ·replace h:=(if_pos h1).symm.trans h
  obtain rfl:=beq_iff_eq.mp h1
  exact v0 hA G hs cq hg h
 ·replace h:=(if_neg h1).symm.trans h
  by_cases h2:(gn==("zip" : Str))=true
  ·replace h:=(if_pos h2).symm.trans h
   refine aB (ob h) λk9 hl h=>?_;obtain ⟨a,b⟩:=k9
   refine aB (ob h) λx hx h=>?_
   refine aB (ob h) λy hy h=>?_
   obtain rfl:=sm h
   obtain rfl:=g8 hl
   obtain rfl:=beq_iff_eq.mp h2
   exact FA hA G hg (da hs hx) (da hs hy) (cq _ _ hx) (cq _ _ hy)
  ·replace h:=(if_neg h2).symm.trans h
   by_cases h3:(gn==("enumerate" : Str))=true
   ·replace h:=(if_pos h3).symm.trans h
    refine aB (ob h) λa hl h=>?_
    refine aB (ob h) λx hx h=>?_
    obtain rfl:=sm h
    obtain rfl:=bZ hl
    obtain rfl:=beq_iff_eq.mp h3
    exact Fo hA G hg (da hs hx) (cq _ _ hx)
   ·replace h:=(if_neg h3).symm.trans h
    refine aB (ob h) λc hc h=>?_
    obtain rfl:=sm h
    exact CO hA (cq _ _ hc)
theorem xB {Z:Env} {O:List (Str×Nat)} {f:Expr->Option CE} (hA:hW A d) (G:er g cx fs mg mb) (hs:∀ e p,f (.Starred e p)=none) (cq:∀ e c,f e=some c->aM g A Z O e (ab call c)) {e:Expr} {it:gb} (h:zZ f cx Z.scope e=some it):jP g A Z O e (mq it) (bS call it):=by
 have ex:yg f e=some it->jP g A Z O e (mq it) (bS call it):=λh=>by
  refine aB (ob h) λc hc h=>?_
  obtain rfl:=sm h
  exact CO hA (cq _ _ hc)
 unfold zZ at h
 cases hp:kC e with
 | none=>rw[hp] at h;exact ex h
 | some p =>
  rw[hp] at h
  obtain ⟨gn,as⟩:=p
  by_cases hg:(bh Z.scope gn&&(gw cx gn).isNone)=true
  ·replace h:=(if_pos hg).symm.trans h
   have GD:bh Z.scope gn=true:=(Up.mp hg).1
   refine nW (jA hp) λp q ER=>?_;subst ER
   exact CZ hA G hs cq GD h
  ·exact ex ((if_neg hg).symm.trans h)
theorem sj {F:Scope->List (Str×Nat)->Nat->Expr->Option CE} {fI:Expr->Option gb} {sc:Scope} {O:List (Str×Nat)} {nx:Nat} {elt:Expr} {px:List Comprehension} {scope:Scope} {a:CE} (h:P8 F fI sc O nx elt px scope=some a) :
  ∃ aK c8 ifs it t cs c,px=[⟨aK,c8,ifs,0⟩]/\qN scope sc O nx (a9 aK)=true/\fI c8=some it/\eU (gU scope sc) (bN scope O nx (a9 aK)) aK=some t /\
   bY (F (gU scope sc) (bN scope O nx (a9 aK)) (nx+2)) ifs=some cs/\F (gU scope sc) (bN scope O nx (a9 aK)) (nx+2) elt=some c/\kP it t=true/\a=.comp c t it cs:=by
 refine aB (ob h) λES h1 h=>?_;obtain ⟨aK,c8,ifs,as⟩:=ES
 refine aR (cy h) λnu h=>?_
 refine aR (Up.mp nu) λha nu=>?_
 refine aB (ob h) λit qb h=>?_
 refine aB (ob h) λt ht h=>?_
 refine aB (ob h) λcs fS h=>?_
 refine aB (ob h) λc hc h=>?_
 refine aR (cy h) λGR h=>?_
 have dK:=(sm h).symm
 obtain rfl:=bZ h1
 obtain rfl:as=0:=beq_iff_eq.mp ha
 exact⟨aK,c8,ifs,it,t,cs,c,rfl,nu,qb,ht,fS,hc,GR,dK⟩
theorem lg (hA:hW A d) (G:er g cx fs mg mb) (hC:qF g A fs call):∀ n,Rb g A call (bR cx n):=by
 intro n
 induction n with
 | zero=>exact λZ O nx e c h=>no h
 | succ n ih =>
  intro Z O nx e
  have hs:∀ e p,bR cx n Z.scope O nx (.Starred e p)=none:=λe p=>ii ..
  have cq:∀ e c,bR cx n Z.scope O nx e=some c->aM g A Z O e (ab call c):=λe c h=>(ih Z O nx e c h).1
  have DN:∀ e c,bR cx n Z.scope O nx e=some c->eR g A Z O e (cb call c):=λe c h=>(ih Z O nx e c h).2
  show Gd (λc=>aM g A Z O e (ab call c)/\eR g A Z O e (cb call c)) (uO (bR cx n) (λi=>zZ (bR cx n Z.scope O nx) cx Z.scope i) cx Z.scope O nx e)
  cases e with
  | Constant k _ _=>exact ah λv hv=>aL (iF (l8 hv) rfl)
  | Name x p=>exact λc h=>iF (o5 G h) rfl
  | BinOp l op r p=>exact ah λa ha=>ah λb hb=>aL (iF (Fl (cq _ _ ha) (cq _ _ hb)) rfl)
  | UnaryOp op x p =>
   refine ah λa ha=>?_
   cases op with
   | Not=>exact aL (xD (cq _ _ ha) (DN _ _ ha))
   | USub=>exact aL (iF (xC (cq _ _ ha)) rfl)
   | _=>exact dn
  | BoolOp op vs p=>exact λc h=>⟨l6 cq _ _ _ _ h,λK H b af he J s R F E=>l7 DN _ _ _ _ _ h K H b af he J s R F E⟩
  | IfExp t a b p=>exact ah λx hx=>ah λy hy=>ah λz hz=>aL (Ft (DN _ _ hx) (cq _ _ hy) (DN _ _ hy) (cq _ _ hz) (DN _ _ hz))
  | Compare l ops rs p=>exact λc h=>CL hA cq h
  | List es p=>exact ah λcs fS=>aL (iF (tQ hs cq fS) rfl)
  | Tuple es k p=>exact ah λcs fS=>aL (iF (qw hs cq fS) rfl)
  | Dict ks vs p =>
   refine cI λhk=>aL ?_
   refine aR (Up.mp hk) λh1 h2=>?_
   obtain rfl:=UQ.mp h1
   obtain rfl:=UQ.mp h2
   exact iF zg rfl
  | Subscript v i p=>exact λc h=>iF (C3 cq (λe c h=>uP h) h) rfl
  | Call fn as ks p=>exact λc h=>iF (zb hA G hC hs cq (λas k c q hg hk=>zn hA G hs cq hg hk) h) rfl
  | Attribute o a p =>
   refine cI λhw=>ah λc' dK=>aL ?_
   simp only[Uv,beq_iff_eq] at hw
   refine aR hw λET hn=>?_;subst ET
   refine N' (Vr.mp hn) λx hx=>?_
   refine N' (bq hx) λq LN=>?_;subst LN
   exact iF (tS G (cq _ _ dK)) rfl
  | ListComp elt px scope pos =>
   intro c h
   refine lB (sj h) λaK c8 ifs it t Pv=>?_;refine NS Pv λcs c' LO nu qb ht fS dK TC=>?_;refine aR TC λGR vz=>?_;subst LO;subst vz
   refine iF (CM hA (pW nu) (lT qb) (rS GR ht) (xB hA G hs cq qb) ht (λe' yw=>?_) fS λe' yw e c h=>?_) rfl
   ·rw[<-yw] at dK;exact (ih _ _ _ _ _ dK).1
   ·rw[<-yw] at h;exact (ih _ _ _ _ _ h).2
  | _=>exact dn
theorem tP (hA:hW A d) (G:er g cx fs mg mb) (hC:qF g A fs call) (n:Nat) (Z:Env) (O:List (Str×Nat)) (nx:Nat) (e:Expr) (it:gb) (h:si cx n Z.scope O nx e=some it):jP g A Z O e (mq it) (bS call it) :=
 xB hA G (λe p=>ii ..) (λe c h=>(lg hA G hC n Z O nx e c h).1) h
theorem bV {Z:Env} {O:List (Str×Nat)} {e:Expr} {c:CE} (h:∀ K H,di call c K H=none):ic g A Z O e (di call c):=λK H c w af he=>no ((h K H).symm.trans he)
theorem vZ {Z:Env} {O:List (Str×Nat)} {f:Expr->Option CE} (G:er g cx fs mg mb) (hC:nI g A fs call) (hs:∀ e p,f (.Starred e p)=none) (cq:∀ e c,f e=some c->aM g A Z O e (ab call c)) (uu:∀ e c,f e=some c->ic g A Z O e (di call c)) {fn:Expr} {as:List Expr} {ks:List Keyword} {pos:Pos}
  {sk:List Expr->Keyword->Option CE} (O4:∀ as k c,sk as k=some c->∃ a b d,c=.sortK a b d):Gd (λc=>ic g A Z O (.Call fn as ks pos) (di call c)) (Ax f sk cx Z.scope fn as ks pos):=by
 cases fn with
 | Name wR p =>
  cases ks with
  | nil =>
   refine cI λhg=>?_
   show Gd _ (nP f cx Z.scope wR as)
   unfold nP
   cases hk:gw cx wR with
   | some k=>exact od λfK=>ah λcs fS=>aL (zd G hC hs cq hg hk (Xr.mpr fK) fS)
   | none=>exact i6 (λz=>i6 (λz=>ah λz z=>ah λz z=>cI λz=>ah λz z=>ah λz z=>aL (bV λz z=>rfl)) λz=>ah λz z=>ah λz z=>cI λz=>ah λz z=>ah λz z=>aL (bV λz z=>rfl)) λz=>ah λz z=>ah λz z=>aL (bV λz z=>rfl)
  | cons k ks =>
   refine cI λhg=>cI λhk=>i6 (λz c h=>?_) λz=>?_
   ·refine AT (O4 _ _ _ h) λz z z Py=>?_;subst Py
    exact bV λz z=>rfl
   ·exact dn
 | Attribute o m ap =>
  refine cI λhc=>ah λq hq=>ah λa ha=>ah λcs fS=>aL ?_
  simp only[Uv] at hc
  refine aR hc λTL oi=>?_;refine aR TL λhk IB=>?_
  obtain rfl:=UQ.mp hk
  exact zj G hs cq uu (cq _ _ ha) IB oi hq fS
 | _=>exact dn
theorem AD {fI:Expr->Option gb} {sc:Scope} {O:List (Str×Nat)} {nx:Nat} {as:List Expr} {k:Keyword} {c:CE} (h:MB fI cx sc O nx as k=some c):∃ a b d,c=.sortK a b d:=by
 refine aB (ob h) λz z h=>?_
 refine aB (ob h) λz z h=>?_
 refine aB (ob (cy h).2) λz z h=>?_
 refine aB (ob (cy h).2) λz z h=>?_
 exact⟨_,_,_,(sm h).symm⟩
theorem o3 (hA:hW A d) (G:er g cx fs mg mb) (hC:qF g A fs call) (hX:nI g A fs call):∀ n (Z:Env) O nx e c,bR cx n Z.scope O nx e=some c->ic g A Z O e (di call c):=by
 intro n
 induction n with
 | zero=>exact λZ O nx e c h=>no h
 | succ n ih =>
  intro Z O nx e
  have hs:∀ e p,bR cx n Z.scope O nx (.Starred e p)=none:=λe p=>ii ..
  have cq:∀ e c,bR cx n Z.scope O nx e=some c->aM g A Z O e (ab call c):=λe c h=>(lg hA G hC n Z O nx e c h).1
  show Gd (λc=>ic g A Z O e (di call c)) (uO (bR cx n) (λi=>zZ (bR cx n Z.scope O nx) cx Z.scope i) cx Z.scope O nx e)
  cases e with
  | Constant k _ _=>exact ah λv hv=>aL (bV λj j=>rfl)
  | Name x p=>exact od λj=>ah λk j=>i6 (λj=>ah λi j=>aL (bV λj j=>rfl)) λj=>cI λj=>ah λi j=>aL (bV λj j=>rfl)
  | BinOp l op r p=>exact ah λa ha=>ah λb hb=>aL (bV λj j=>rfl)
  | UnaryOp op x p =>
   refine ah λa ha=>?_
   cases op with
   | Not=>exact aL (bV λj j=>rfl)
   | USub=>exact aL (bV λj j=>rfl)
   | _=>exact dn
  | BoolOp op vs p =>
   cases vs with
   | nil=>exact dn
   | cons e r =>
    cases r with
    | nil=>exact λc h K H c w af he J s R F Q E hE=>BoolOp_one (ih _ _ _ _ _ h K H c w af he J s R F _ E hE)
    | cons e' r=>exact ah λa ha=>ah λb hb=>aL (by cases op <;> exact bV λj j=>rfl)
  | IfExp t a b p=>exact ah λx hx=>ah λy hy=>ah λz hz=>aL (bV λj j=>rfl)
  | Compare l ops rs p=>exact ah λj j=>ah λj j=>od λj=>ah λj j=>ah λj j=>aL (bV λj j=>rfl)
  | List es p=>exact ah λcs fS=>aL (zi hs cq (λe c h=>ih _ _ _ _ _ h) fS)
  | Tuple es k p=>exact ah λcs fS=>aL (bV λj j=>rfl)
  | Dict ks vs p=>exact cI λhk=>aL (bV λj j=>rfl)
  | Subscript v i p =>
   refine ah λa ha=>?_
   cases i with
   | Slice lo hi st p=>exact cI λj=>ah λj j=>ah λj j=>aL (bV λj j=>rfl)
   | _=>exact ah λj j=>aL (bV λj j=>rfl)
  | Call fn as ks p=>exact vZ G hX hs cq (λe c h=>ih _ _ _ _ _ h) (sk:=MB (λi=>zZ (bR cx n Z.scope O nx) cx Z.scope i) cx Z.scope O nx) (λas k c h=>AD h)
  | Attribute o a p=>exact cI λj=>ah λj j=>aL (bV λj j=>rfl)
  | ListComp elt px scope pos=>exact ah λj j=>cI λj=>ah λj j=>ah λj j=>ah λj j=>ah λj j=>cI λj=>aL (bV λj j=>rfl)
  | _=>exact dn
theorem zh (hA:hW A d) (G:er g cx fs mg mb) (hC:qF g A fs call) (hX:nI g A fs call) (n:Nat) (Z:Env) (O:List (Str×Nat)) (nx:Nat) (e:Expr) (it:gb) (h:si cx n Z.scope O nx e=some it):ic g A Z O e (Ev call it):=by
 cases it with
 | ex c =>
  have fL:bR cx n Z.scope O nx e=some c:=(qL _ (show zZ (bR cx n Z.scope O nx) cx Z.scope e=some (.ex c) from h)).elim (λq=>aB q λc' e hc=>hc.trans (congrArg Pm e).symm) λq=>q.elim (λq=>JB q λz z z z q=>absurd (congrArg M6 q.1) Zj) λq=>absurd q.symm (W1 1)
  exact o3 hA G hC hX n Z O nx e c fL
 | _=>exact λK H c w af he=>no he
end
section
variable {g:G} {cx:cp} {fs:List Fn} {mg mb:Str->Option Value} {A:Around} {call:aw} {d:Nat}
theorem Ed (cx:cp) (n:Nat) (sc:Scope) (O:List (Str×Nat)) (e:Expr) (p:Pos):cQ cx sc O n (.Starred e p)=none:=by
 cases n <;> rfl
theorem CK (G:er g cx fs mg mb) (hQ:∀ k∈cx.calm,pI g A fs call k) (Z:Env) (O:List (Str×Nat)):∀ n e c,cQ cx Z.scope O n e=some c->aM g A Z O e (ab call c)/\eR g A Z O e (cb call c):=by
 intro n
 induction n with
 | zero=>exact λe c h=>no h
 | succ n ih =>
  intro e
  have hs:∀ e p,cQ cx Z.scope O n (.Starred e p)=none:=λe p=>Ed ..
  have cq:∀ e c,cQ cx Z.scope O n e=some c->aM g A Z O e (ab call c):=λe c h=>(ih e c h).1
  have DN:∀ e c,cQ cx Z.scope O n e=some c->eR g A Z O e (cb call c):=λe c h=>(ih e c h).2
  show Gd (λc=>aM g A Z O e (ab call c)/\eR g A Z O e (cb call c)) (P9 (cQ cx Z.scope O n) cx Z.scope O e)
  cases e with
  | Constant k _ _=>exact ah λv hv=>aL (iF (l8 hv) rfl)
  | Name x p=>exact λc h=>iF (o5 G h) rfl
  | UnaryOp op x p =>
   refine ah λa ha=>?_
   cases op with
   | Not=>exact aL (xD (cq _ _ ha) (DN _ _ ha))
   | USub=>exact aL (iF (xC (cq _ _ ha)) rfl)
   | _=>exact dn
  | BoolOp op vs p=>exact λc h=>⟨l6 cq _ _ _ _ h,λK H b af he J s R F E=>l7 DN _ _ _ _ _ h K H b af he J s R F E⟩
  | List es p=>exact ah λcs fS=>aL (iF (tQ hs cq fS) rfl)
  | Attribute o a p =>
   refine cI λhw=>ah λc' dK=>aL ?_
   simp only[Uv,beq_iff_eq] at hw
   refine aR hw λq1 hn=>?_;apply aV q1
   refine N' (Vr.mp hn) λx hx=>?_
   refine N' (bq hx) λq q2=>?_;subst q2
   exact iF (tS G (cq _ _ dK)) rfl
  | Call fn as ks p =>
   refine ah λgn hn=>cI λhc=>?_
   refine N' (bq hn) λp' q2=>?_;apply aV q2
   simp only[Uv] at hc
   refine aR hc λhk hg=>?_
   apply aV (UQ.mp hk)
   cases hk:gw cx gn with
   | some k =>
    refine od λfK=>ah λcs fS=>aL ?_
    simp only[Vn,not_or,Y4,Vh,Bool.not_eq_false] at fK
    exact iF (tN G (hQ k (by simpa using fK.2)) hs cq hg hk fK.1 fS) rfl
   | none =>
    refine cI λhi c h=>?_
    obtain rfl:=beq_iff_eq.mp hi
    exact iF (tO G hs cq hg h) rfl
  | _=>exact dn
end
noncomputable def zV (g:G) (J:List Addr) (Z:Env) (O:List (Str×Nat)) (s:Shared):bT->aN->ag->PySem.Flow->Shared->Prop
 | .next,aS,af,f,s'=>f=.next/\Ra g J Z O s aS af s'
 | .ret v,_,af,f,s'=>∃ a aO,f=.ret a/\cD (FM J Z) J s.heap aO s'.heap/\ak g aO af s'.heap/\VR g aO s'.heap v a/\bz s s'
 | .exc _ _,_,_,_,_=>False
noncomputable def zX (U:Prop) (g:G) (J:List Addr) (Z:Env) (s:Shared):bT->ag->Value->Shared->Prop
 | .exc c w,af,e,s'=>∃ aO ea L,e=.ref ea/\Z.frame=some L/\(c=1\/c=2)/\cD (FM J Z) J s.heap aO s'.heap/\bz s s'/\lL g aO af s.heap s'.heap U (PL L) ea c w
 | _,_,_,_=>False
noncomputable abbrev MA (g:G) (J:List Addr) (Z:Env) (s:Shared) (fl:bT) (af:ag) (e:Value) (s':Shared):Prop:=zX True g J Z s fl af e s'
structure FX (g:G) (A:Around) (Z:Env):Prop where
 fr:A.frames=some g.fr
 top:∃ bw,g.fr=Z::bw
 own:∃ L,Z.frame=some L
noncomputable def jQ (g:G) (A:Around) (Z:Env) (O:List (Str×Nat)) (st:Stmt) (m:aN->ag->Option (bT×aN×ag)):Prop :=
 ∀ K H fl aS af,m K H=some (fl,aS,af)->∀ J s,ak g J H s.heap->dR g J Z O K s.heap->∀ E,(∀ e s',MA g J Z s fl af e s'->E e s')->wpAny (model g.prog g.w) A (exec st Z) (zV g J Z O s fl aS af) E s
noncomputable def kl (g:G) (A:Around) (Z:Env) (O:List (Str×Nat)) (st:List Stmt) (m:aN->ag->Option (bT×aN×ag)):Prop :=
 ∀ K H fl aS af,m K H=some (fl,aS,af)->∀ J s,ak g J H s.heap->dR g J Z O K s.heap->∀ E,(∀ e s',MA g J Z s fl af e s'->E e s')->wpAny (model g.prog g.w) A (execs st Z) (zV g J Z O s fl aS af) E s
section
variable {g:G} {cx:cp} {fs:List Fn} {mg mb:Str->Option Value} {A:Around} {E:Value->Shared->Prop} {J aj:List Addr} {H σ1 af:ag} {s s₁:Shared} {Z:Env} {O:List (Str×Nat)} {K aS:aN} {call:aw} {d:Nat}
theorem zV.after {fl:bT} {f:PySem.Flow} {cA:Shared} (S:cD (FM J Z) J s.heap aj s₁.heap) (T:bz s s₁) (h:zV g aj Z O s₁ fl aS af f cA):zV g J Z O s fl aS af f cA:=by
 cases fl with
 | next =>
  obtain ⟨e,aO,S',R',F',T'⟩:=h
  exact⟨e,aO,FM.trans S S',R',F',T.trans T'⟩
 | ret v =>
  refine H3 h λa aO e S' R' V' T'=>?_
  exact⟨a,aO,e,FM.trans S S',R',V',T.trans T'⟩
 | exc c w=>exact h.elim
theorem zX.after {U:Prop} {fl:bT} {e:Value} {cA:Shared} (S:cD (FM J Z) J s.heap aj s₁.heap) (T:bz s s₁) (R:ak g J H s.heap) (F:pj g J s.heap) (h:zX U g aj Z s₁ fl af e cA):zX U g J Z s fl af e cA:=by
 cases fl with
 | next=>exact h
 | ret v=>exact h
 | exc c w =>
  refine NU h λaO ea L h1 h2 h3 S' T' X=>?_
  exact⟨aO,ea,L,h1,h2,h3,FM.trans S S',T.trans T',X.before S R F⟩
theorem lL.mono {U U':Prop} {P P':Value->Prop} {a6 h:Heap} {ea:Addr} {c:Nat} {w:Str} (X:lL g J H a6 h U P ea c w) (hU:U->U') (hP:∀ f,P f->P' f):lL g J H a6 h U' P' ea c w :=
 ⟨X.R,X.FS,X.F0,X.dom,X.B0,X.X.mono hU hP⟩
theorem DY.stm {c:Nat} {w:Str} {ea:Addr} {aO:List Addr} {s':Shared} (ZF:FX g A Z) (x:DY g J s c w af ea aO s'):MA g J Z s (.exc c w) af (.ref ea) s':=by
 refine N' ZF.own λL hL=>?_
 exact⟨aO,ea,L,rfl,hL,x.hc,cD.ofSE x.S Z,x.T,x.X.mono (λq=>q) λf q=>.inl q⟩
theorem cD.xkp {ms:Addr->Prop} {a6 h h':Heap} {aO:List Addr} {e:Addr} (S:cD ms J a6 aO h) (ZF:zW g a6 h h' e):cD ms J a6 aO h' :=
 ⟨λb o e hb=>(S.pres b o e hb).then λo' e'=>ZF.old b o' e' (by rw[e];exact λq=>nomatch q),λb o e=>by refine N' (S.dom b o e) λo' e'=>?_;exact ZF.dom b o' e',S.ext⟩
theorem zX.note {U:Prop} {fl:bT} {e:Value} {s':Shared} {Q:Unit->Shared->Prop} (ZF:FX g A Z) (x:zX U g J Z s fl af e s') (hQ:∀ mD,zX False g J Z s fl af e mD->Q () mD):wpAny (model g.prog g.w) A (noteFrame e Z) Q E s':=by
 cases fl with
 | next=>exact x.elim
 | ret v=>exact x.elim
 | exc c w =>
  refine NU x λaO ea L q4 h2 h3 S' T' X=>?_;subst q4
  refine N' ZF.top λbw ho=>?_
  exact vP ZF.fr ho h2 X λh' X' K'=>hQ _ ⟨aO,ea,L,rfl,h2,h3,S'.xkp K',T'.trans ⟨rfl,rfl,rfl⟩,X'⟩
theorem zX.back {fl:bT} {e:Value} {s':Shared} {E':Value->Shared->Prop} (x:zX False g J Z s fl af e s') (hE:∀ mD,MA g J Z s fl af e mD->E' e mD):cameBackBy (model g.prog g.w) A Z E' e s':=by
 cases fl with
 | next=>exact x.elim
 | ret v=>exact x.elim
 | exc c w =>
  refine NU x λaO ea L q4 h2 h3 S' T' X=>?_;subst q4
  exact HU (Q:=True) h2 X λh' X' K'=>hE _ ⟨aO,ea,L,rfl,h2,h3,S'.xkp K',T'.trans ⟨rfl,rfl,rfl⟩,X'.mono (λq=>q.elim) λz q=>q⟩
theorem v4 {v:Expr} {t:Expr} {ln:Nat} (hv:∀ a b c d,v≠.ListComp a b c d) {n:Nat} {sc:Scope} {nx:Nat} {c:CE} (hc:bR cx n sc O nx v=some c):swapsWith v (some t) ln Z=pure false:=by
 cases v with
 | ListComp a b c d=>exact absurd rfl (hv a b c d)
 | SetComp a b c d=>cases n <;> exact no hc
 | DictComp a b c d e=>cases n <;> exact no hc
 | _=>rfl
theorem o4 {x:Str} {p pos:Pos} {v:Expr} {t:gE} {a:CE} (hA:hW A d) (ht:eU Z.scope O (.Name x p)=some t) (hs:swapsWith v (some (.Name x p)) pos.line Z=pure false) (ZF:FX g A Z) (Pa:ic g A Z O v (di call a)) (hv:aM g A Z O v (ab call a)) :
  jQ g A Z O (.Assign [.Name x p] v pos) (bu call (.assign t a)):=by
 intro K H fl aS af he J s R F E hE
 rw[gI] at he
 rcases eT he with he | ⟨c,w,rfl,rfl,hx⟩
 rotate_left
 ·exact wpAny_Assign_Name (Pa _ H c w af hx J s R F _ E λea aO s' X=>hE _ _ (X.stm ZF)) hs
 refine bU he λx' σ1 h1 he=>?_
 refine aT he λdQ hp he=>?_
 apply gW he
 refine wpAny_Assign_Name (hv.bind h1 R F λav s₁ aj S T au aU a7=>?_) hs
 refine ew (pR ht) λi q2 hx hk=>?_;subst q2
 obtain rfl:=sm hp
 refine eM aU au hx hk a7 λh' tk S' R' F' z=>⟨rfl,aj,FM.trans (cD.ofSE S Z) (S'.mono λb hb=>?_),R',F',T.trans ⟨rfl,rfl,rfl⟩⟩
 refine Ug hb (λhb=>?_) (λhb=>?_)
 ·exact .inr (.inl hb)
 ·exact .inr (.inr ⟨x,hb⟩)
theorem tM {ts:List Expr} {k:Nat} {p pos:Pos} {v:Expr} {t:gE} {a:CE} (hA:hW A d) (ht:eU Z.scope O (.Tuple ts k p)=some t) (hs:swapsWithSole [.Tuple ts k p] v pos.line Z=pure false) (hw:swappedStores [.Tuple ts k p] v Z=pure none) (ZF:FX g A Z) (Pa:ic g A Z O v (di call a)) (hv:aM g A Z O v (ab call a)) :
  jQ g A Z O (.Assign [.Tuple ts k p] v pos) (bu call (.assign t a)):=by
 intro K H fl aS af he J s R F E hE
 rw[gI] at he
 rcases eT he with he | ⟨c,w,rfl,rfl,hx⟩
 rotate_left
 ·exact Assign_Tuple (Pa _ H c w af hx J s R F _ E λea aO s' X=>hE _ _ (X.stm ZF)) hs hw
 refine bU he λx' σ1 h1 he=>?_
 refine aT he λdQ hp he=>?_
 apply gW he
 refine Assign_Tuple (hv.bind h1 R F λav s₁ aj S T au aU a7=>?_) hs hw
 exact rT hA.handled ht hp au aU a7 λh' tk S' R' F' z=>⟨rfl,aj,FM.trans (cD.ofSE S Z) (S'.mono λb hb=>hb.fm),R',F',T.trans ⟨rfl,rfl,rfl⟩⟩
theorem tL {x:Str} {p pos:Pos} {elt aK c8:Expr} {ifs:List Expr} {scope:Scope} {kD:Pos} {nx:Nat} {t t':gE} {it:gb} {c:CE} {cs:fh} {F':Expr->Option CE} {two:Bool}
  (hA:hW A d) (ht:eU Z.scope O (.Name x p)=some t') (JN:swapsWith (.ListComp elt [⟨aK,c8,ifs,0⟩] scope kD) (some (.Name x p)) pos.line Z=pure true)
  (ZF:jO scope Z.scope O nx (a9 aK)) (hs:∀ x,foldedSetIterable c8 Z x=pure x) (Bw:rR two aK)
  (hi:jP g A Z O c8 two (bS call it)) (z7:eU (gU scope Z.scope) (bN scope O nx (a9 aK)) aK=some t)
  (hE:∀ e',e'.scope=gU scope Z.scope->aM g A e' (bN scope O nx (a9 aK)) elt (ab call c)) (fS:bY F' ifs=some cs) (hT:∀ e',e'.scope=gU scope Z.scope->∀ e c,F' e=some c->eR g A e' (bN scope O nx (a9 aK)) e (cb call c)) :
  jQ g A Z O (.Assign [.Name x p] (.ListComp elt [⟨aK,c8,ifs,0⟩] scope kD) pos) (bu call (.assign t' (.comp c t it cs))):=by
 intro K H fl aS af he J s R F E hE0
 rw[gI] at he
 rcases eT he with he | ⟨c,w,rfl,rfl,hx⟩
 rotate_left
 ·exact no hx
 refine bU he λx' bg DG he=>?_
 refine me DG λxs w σ1 h1 DG=>?_
 refine bU DG λl ae h2 DG=>?_
 refine aT he λdQ hp he=>?_
 apply gW he
 refine iK (fX DG) λhz q2 q3=>?_;subst q2 q3
 ····refine ew (pR ht) λi q2 hx hk=>?_;subst q2
     obtain rfl:=sm hp
     rw[exec_Assign_Name_used _ _ _ _ JN]
     refine wpAny_bind (wpAny_standAt (wpAny_bind ?_))
     show wpAny _ A (do let _ <-comprehension (.ListComp elt [⟨aK,c8,ifs,0⟩] scope kD) scope Z _ (newList []) false (eval c8 Z) (some (assign (.Name x p) Z))) _ _ s
     refine wpAny_bind (wpAny_mono (pX (use:=some (assign (.Name x p) Z)) (Q:=λz s'=>zV g J Z O s .next (cn K i (.ref ae.length)) (ae++[.lst l]) .next s') hA ZF hs Bw hi z7 hE fS hT h1 h2 hz R F λD C s' DJ hC=>?_) (λz s' hq=>wpAny_pure (wpAny_pure hq)) λz z e=>e)
     obtain ⟨aO,S,R',V',T,Ba,m,hn⟩:=id DJ
     have aU:=F.step R S
     have Qo:C≠Z.locals:=by
      rintro rfl
      refine aB F.ns λm' k5 z=>?_;refine mQ k5 λo z z ho z=>?_
      rw[hC] at ho;cases ho
     have Qp:∀ y,Z.cells.lookup y≠some C:=λy e=>by
      refine aR (F.cellF y C e) λk6 z=>?_;refine gA k6 λu o ho z=>?_
      rw[hC] at ho;cases ho
     show wpAny _ A (assign (.Name x p) Z (.ref D)) _ _ _
     refine wpAny_assign_Name (eM aU R' hx hk V' λgT tk cR bo ed up=>?_)
     have wX:gT.Ns C m:=fj.ns hn λo ho=>cR.pres _ _ ho (λq=>by rcases q with q | q;exact Qo q;exact Qp x q)
     refine⟨m,wX,λdz fU=>⟨rfl,aO,?_,?_,?_,T.trans ⟨rfl,rfl,rfl⟩⟩⟩
     ·have DQ:cD (FM J Z) J s.heap aO gT:=FM.trans (cD.ofSE S Z) (cR.mono λb hb=>by rcases hb with hb | hb;exact .inr (.inl hb);exact .inr (.inr ⟨x,hb⟩))
      have gp:ak g aO (ae++[.lst l]) dz:=bo.other Ba (aW R hC) (λb o hb e=>fU.extBut b o hb e) (Ns.noSeq wX)
      exact cD.mv (wr:=[C]) DQ gp (λb o hb z e=>fU.extBut b o (by simpa using hb) e) (λz q=>.inl q) (by simpa using hC)
     ·exact bo.other Ba (aW R hC) (λb o hb e=>fU.extBut b o hb e) (Ns.noSeq wX)
     ·refine ed.mv (wr:=[C]) (λb o hb z e=>fU.extBut b o (by simpa using hb) e) (λb hb o e=>?_) (by simpa using λq=>Qo q.symm) (λy c e=>by simp;rintro rfl;exact Qp y e) λe he L hf=>?_
      ·simp at hb;subst hb
       exact Ns.noSeq wX o e
      ·obtain ⟨_,L',o,es,ep,k2,k3,_⟩:=F.stk e he
       rw[hf] at k2;cases k2
       simp only[O'];rintro rfl
       rw[hC] at k3;cases k3
theorem tR {o i v:Expr} {p pos:Pos} {a b c:CE} (hs:swapsWith v (some (.Subscript o i p)) pos.line Z=pure false) (ho:aM g A Z O o (ab call a)) (hi:aM g A Z O i (ab call b)) (hv:aM g A Z O v (ab call c)) :
  jQ g A Z O (.Assign [.Subscript o i p] v pos) (bu call (.setItem a b c)):=by
 intro K H fl aS af he J s R F E hE
 rw[nZ] at he
 refine bU he λx σ1 h1 he=>?_
 refine bU he λy ae h2 he=>?_
 refine bU he λz bg h3 he=>?_
 refine aT he λjM h4 he=>?_
 apply gW he
 refine wpAny_Assign_Subscript (hv.bind h1 R F λa s₁ aj S T au aU a7=>ho.bind h2 au aU λb cA cM cR fO bo ed cW=>hi.bind h3 bo ed λc g6 qD gq qG gp nH Ak=>?_) hs
 refine Fk h4 gp (cW.step bo gq) Ak ((a7.step au cR).step bo gq) λh' tk S' R'=>?_
 exact⟨rfl,qD,cD.ofSE (S.trans (cR.trans (gq.trans S'))) Z,R',nH.step gp S',T.trans (fO.trans (qG.trans ⟨rfl,rfl,rfl⟩))⟩
theorem CP {e:Expr} {pos:Pos} {m:fN} {o:CE} {as:fh} (hm:m.isStep=true) (hk:Z.scope.kind=.function) (hs:swapsWith e none pos.line Z=pure false) (ZF:FX g A Z) (hX:ic g A Z O e (di call (.meth m o as))) (he:aM g A Z O e (ab call (.meth m o as))) :
  jQ g A Z O (.Expr e pos) (bu call (.expr (.meth m o as))):=by
 intro K H fl aS af h J s R F E hE
 rw[qY] at h
 rcases eT h with h | ⟨c,w,rfl,rfl,hx⟩
 rotate_left
 ·exact wpAny_Expr (hX _ H c w af hx J s R F _ E λea aO s' X=>hE _ _ (X.stm ZF)) (by unfold interactive;rw[hk];rfl) hs
 refine gA (gF h) λv σ1 q h=>?_
 refine iK (Ht h) λER ES ET=>?_;subst ER;subst ES;subst ET
 have hv:v=.none:=by
  refine gA (gF q) λx ae z q=>?_
  refine aR (cy q) λz q=>?_
  refine gA (gF q) λvs bg z q=>?_
  exact zs hm q
 subst hv
 refine wpAny_Expr (he.bind q R F λa s₁ aj S T au aU a7=>?_) (by unfold interactive;rw[hk];rfl) hs
 cases a7
 exact⟨rfl,aj,cD.ofSE S Z,au,aU,T⟩
theorem Jm {t:Expr} {a b:List Stmt} {pos:Pos} {c:CE} {x y:fJ} (ht:eR g A Z O t (cb call c)) (ha:kl g A Z O a (aQ call x)) (hb:kl g A Z O b (aQ call y)):jQ g A Z O (.If t a b pos) (bu call (.ite c x y)):=by
 intro K H fl aS af h J s R F E hE
 refine iX h λp σ1 h1 h=>?_
 refine wpAny_If (ht.bind (br h1) R F λs₁ aj S T au aU=>?_)
 cases p with
 | true=>exact wpAny_mono (ha K σ1 fl aS af h aj s₁ au aU E λe s' X=>hE e s' (X.after (cD.ofSE S Z) T R F.stk)) (λz z x=>zV.after (cD.ofSE S Z) T x) λz z x=>x
 | false=>exact wpAny_mono (hb K σ1 fl aS af h aj s₁ au aU E λe s' X=>hE e s' (X.after (cD.ofSE S Z) T R F.stk)) (λz z x=>zV.after (cD.ofSE S Z) T x) λz z x=>x
theorem Fw {e:Expr} {pos:Pos} {c:CE} (ZF:FX g A Z) (hX:ic g A Z O e (di call c)) (he:aM g A Z O e (ab call c)):jQ g A Z O (.Return (some e) pos) (bu call (.ret c)):=by
 intro K H fl aS af h J s R F E hE
 rw[j5] at h
 rcases eT h with h | ⟨c',w,rfl,rfl,hx⟩
 rotate_left
 ·exact wpAny_Return_some (hX _ H c' w af hx J s R F _ E λea aO s' X=>hE _ _ (X.stm ZF))
 refine bU h λv σ1 q h=>?_
 apply gW h
 exact wpAny_Return_some (he.bind q R F λa s₁ aj S T au aU a7=>⟨a,aj,rfl,cD.ofSE S Z,au,a7,T⟩)
theorem zm {x:Str} {e:Expr} {np kD pos:Pos} {a:CE} {c:Nat} (hA:hW A d) (G:er g cx fs mg mb) (ZF:FX g A Z) (hg:bh Z.scope x=true) (rh:fQ.lookup x=some c) (hc:c=1\/c=2) (gh:∀ y q,e≠.Starred y q) (hx:aM g A Z O e (ab call a)) :
  jQ g A Z O (.Raise (some (.Call (.Name x np) [e] [] kD)) none pos) (bu call (.raise_ c a)):=by
 intro K H fl aS af h J s R F E hE
 rw[sK] at h
 refine bU h λv σ1 h1 h=>?_
 refine aT h λw h2 h=>?_
 refine iK (Ht h) λq1 q2 q3=>?_;subst q1 q2 q3
 have hv:v=.str w:=by
  cases v <;> first | exact no h2 | skip
  exact congrArg _ (sm h2)
 subst hv
 exact Fg hA G hg rh hc gh hx h1 R F λea aj s' S T X=>hE _ _ (DY.stm ZF ⟨hc,S,T,X⟩)
theorem Fu:kl g A Z O [] (aQ call .nil):=by
 intro K H fl aS af h J s R F E hE
 apply gW h
 exact wpAny_execs_nil ⟨rfl,J,cD.refl _ _ _,R,F,bz.refl _⟩
theorem CN {st:Stmt} {aG:List Stmt} {c:CS} {cs:fJ} (h1:jQ g A Z O st (bu call c)) (h2:kl g A Z O aG (aQ call cs)):kl g A Z O (st::aG) (aQ call (.cons c cs)):=by
 intro K H fl aS af h J s R F E hE
 refine Ug (jp h) (λq=>gA q λdQ σ1 hx h=>?_) (λq=>aR q λhx fK=>?_)
 ·refine wpAny_execs_cons (wpAny_mono (h1 K H .next dQ σ1 hx J s R F E λe s' X=>X.elim) (λf s₁ hf=>?_) λz z x=>x)
  obtain ⟨rfl,aj,S,au,aU,T⟩:=hf
  exact wpAny_mono (h2 dQ σ1 fl aS af h aj s₁ au aU E λe s' X=>hE e s' (X.after S T R F.stk)) (λz z x=>zV.after S T x) λz z x=>x
 ·refine wpAny_execs_cons (wpAny_mono (h1 K H fl aS af hx J s R F E hE) (λf s₁ hf=>?_) λz z x=>x)
  cases fl with
  | next=>exact absurd rfl fK
  | ret v =>
   refine gA hf λa aO q3 r=>?_;apply aV q3
   exact⟨a,aO,rfl,r⟩
  | exc c w=>exact hf.elim
end
section
variable {prog:Program} {w:World} {A:Around} {E:Value->Shared->Prop} {s:Shared} {Z:Env}
theorem tj {h:Heap} {g:Array GenState} {d:Drawn} {t:Nat} {os:OsState} {C C0 e:Addr} {mN mN0:Str->Option Value} {oe:Obj} {Q:Bool->Shared->Prop} (S:dS h C C0 mN mN0) (he:h.get? e=some oe) (Bj:oe.cls=.ref C)
  (hq:Q true ⟨h,g,d,t,os⟩):wpAny (model prog w) A (excMatches (.ref e) (.ref C0)) Q E ⟨h,g,d,t,os⟩:=by
 refine lB (id S.c.obj) λN O q bs sub k3=>?_;refine qV k3 λk0 k1 k2 k3 k5 hC hn=>?_
 refine lB (id S.c0.obj) λN0 JR q' NF Jr vz=>?_;refine qV vz λPn Po Pr Pw Pz z6 DM=>?_
 have vd:(Value.ref C0::iV).contains (.type "BaseException")=true:=by rw[Vb,show iV.contains (.type "BaseException")=true from PySem.F.excBase_ValueError.hasBase,Y0]
 have Oi:(Value.ref C::.ref C0::iV).contains (.ref C0)=true:=by rw[Vb,Vb,beq_self_eq_true];simp
 have f:=tc_notTuple
 unfold excMatches
 repeat (first | (with_reducible refine wpAny_loadPart_at he ?_;rw[Bj]) | with_reducible refine wpAny_loadPart_at z6 ?_ | (with_reducible refine wpAny_isSubtype_exc z6 ?_;rw[vd]) | (with_reducible refine wpAny_isSubtype_exc hC ?_;rw[Oi]) | wp_step)
 exact hq
theorem rf {e:Addr} {t:Expr} {n:Str} {yf:Stmt} {mF:List Stmt} {pos:Pos} {aG:List ExceptHandler} {Q:PySem.Flow->Shared->Prop}
  (h:wpAny (model prog w) (A.mark (some (.ref e))) (eval t Z) (λc s₁=>∃ C C0 mN mN0,c=.ref C0/\dS s₁.heap C C0 mN mN0/\(∃ oe,s₁.heap.get? e=some oe/\oe.cls=.ref C) /\
   wpAny (model prog w) (A.mark (some (.ref e))) (setFlight (.ref e) none) (λz cA =>
     wpAny (model prog w) (A.mark (some (.ref e))) (storeName Z n (.ref e)) (λz g6 =>
      wpAny (model prog w) (A.mark (some (.ref e))) (execs (yf::mF) Z)
       (λf v5=>wpAny (model prog w) A (do bindName Z n .none;unbindBehindTheSuite Z n pos) (λz Da=>Q f Da) E v5)
       (AsSuiteRaised (model prog w) (A.mark (some (.ref e))) Z n pos (notedBy (model prog w) (A.mark (some (.ref e))) Z (cameBackBy (model prog w) A Z E))) g6) (notedBy (model prog w) (A.mark (some (.ref e))) Z (cameBackBy (model prog w) A Z E)) cA) (notedBy (model prog w) (A.mark (some (.ref e))) Z (cameBackBy (model prog w) A Z E)) s₁) (notedBy (model prog w) (A.mark (some (.ref e))) Z (cameBackBy (model prog w) A Z E)) s) :
  wpAny (model prog w) A (handleBy (.ref e) Z (.ExceptHandler (some t) (some n) (yf::mF) pos::aG)) Q E s:=by
 refine wpAny_handleBy_cons (codeAny_handlers_test (wpAny_mono h (λc s₁ bA=>?_) λz z y=>y)) (by intro q;cases q)
 refine NW bA λC C0 mN mN0 TA S TB hk=>?_;refine aB TB λoe he Bj=>?_;apply aV TA
 obtain ⟨hh,g,d,tk,os⟩:=s₁
 exact tj S he Bj (codeAny_handlers_suite_as hk)
end
noncomputable def Q0:bT->Prop
 | .exc _ _=>False
 | _=>True
noncomputable def F3 (g:G) (J:List Addr) (s:Shared) (K:aN):bT->aN->ag->PySem.Flow->Shared->Prop
 | .next,aS,af,f,s'=>f=.next/\aS=K/\∃ aO,SE J s.heap aO s'.heap/\ak g aO af s'.heap/\bz s s'
 | .ret v,_,af,f,s'=>∃ a aO,f=.ret a/\SE J s.heap aO s'.heap/\ak g aO af s'.heap/\VR g aO s'.heap v a/\bz s s'
 | .exc _ _,_,_,_,_=>False
noncomputable def Ah (g:G) (A:Around) (Z:Env) (O:List (Str×Nat)) (st:Stmt) (m:aN->ag->Option (bT×aN×ag)):Prop :=
 ∀ K H fl aS af,m K H=some (fl,aS,af)->Q0 fl->∀ J s,ak g J H s.heap->dR g J Z O K s.heap->∀ E,wpAny (model g.prog g.w) A (exec st Z) (F3 g J s K fl aS af) E s
noncomputable def pJ (g:G) (A:Around) (Z:Env) (O:List (Str×Nat)) (st:List Stmt) (m:aN->ag->Option (bT×aN×ag)):Prop :=
 ∀ K H fl aS af,m K H=some (fl,aS,af)->Q0 fl->∀ J s,ak g J H s.heap->dR g J Z O K s.heap->∀ E,wpAny (model g.prog g.w) A (execs st Z) (F3 g J s K fl aS af) E s
section
variable {g:G} {cx:cp} {fs:List Fn} {mg mb:Str->Option Value} {A:Around} {E:Value->Shared->Prop} {J aj:List Addr} {H σ1 af:ag} {s s₁:Shared} {Z:Env} {O:List (Str×Nat)} {K aS:aN} {call:aw} {d:Nat}
theorem F3.after {fl:bT} {f:PySem.Flow} {cA:Shared} (S:SE J s.heap aj s₁.heap) (T:bz s s₁) (h:F3 g aj s₁ K fl aS af f cA):F3 g J s K fl aS af f cA:=by
 cases fl with
 | next =>
  obtain ⟨e,e',aO,S',R',T'⟩:=h
  exact⟨e,e',aO,S.trans S',R',T.trans T'⟩
 | ret v =>
  refine H3 h λa aO e S' R' V' T'=>?_
  exact⟨a,aO,e,S.trans S',R',V',T.trans T'⟩
 | exc c w=>exact h.elim
theorem Fv {t:Expr} {a b:List Stmt} {pos:Pos} {c:CE} {x y:fJ} (ht:eR g A Z O t (cb call c)) (ha:pJ g A Z O a (aQ call x)) (hb:pJ g A Z O b (aQ call y)):Ah g A Z O (.If t a b pos) (bu call (.ite c x y)):=by
 intro K H fl aS af h nu J s R F E
 refine iX h λp σ1 h1 h=>?_
 refine wpAny_If (ht.bind (br h1) R F λs₁ aj S T au aU=>?_)
 cases p with
 | true=>exact wpAny_mono (ha K σ1 fl aS af h nu aj s₁ au aU E) (λz z x=>F3.after S T x) λz z x=>x
 | false=>exact wpAny_mono (hb K σ1 fl aS af h nu aj s₁ au aU E) (λz z x=>F3.after S T x) λz z x=>x
theorem CV {e:Expr} {pos:Pos} {c:CE} (he:aM g A Z O e (ab call c)):Ah g A Z O (.Return (some e) pos) (bu call (.ret c)):=by
 intro K H fl aS af h nu J s R F E
 rw[j5] at h
 rcases eT h with h | ⟨c',w,rfl,rfl,hx⟩
 ·refine bU h λv σ1 q h=>?_
  apply gW h
  exact wpAny_Return_some (he.bind q R F λa s₁ aj S T au aU a7=>⟨a,aj,rfl,S,au,a7,T⟩)
 ·exact nu.elim
theorem zl {st:Stmt} {aG:List Stmt} {c:CS} {cs:fJ} (h1:Ah g A Z O st (bu call c)) (h2:pJ g A Z O aG (aQ call cs)):pJ g A Z O (st::aG) (aQ call (.cons c cs)):=by
 intro K H fl aS af h nu J s R F E
 refine Ug (jp h) (λq=>gA q λdQ σ1 hx h'=>?_) (λq=>aR q λhx fK=>?_)
 ·refine wpAny_execs_cons (wpAny_mono (h1 K H .next dQ σ1 hx trivial J s R F E) (λf s₁ hf=>?_) λz z x=>x)
  obtain ⟨rfl,rfl,aj,S,au,T⟩:=hf
  exact wpAny_mono (h2 _ σ1 fl aS af h' nu aj s₁ au (F.step R S) E) (λz z x=>F3.after S T x) λz z x=>x
 ·refine wpAny_execs_cons (wpAny_mono (h1 K H fl aS af hx nu J s R F E) (λf s₁ hf=>?_) λz z x=>x)
  cases fl with
  | next=>exact absurd rfl fK
  | ret v =>
   refine gA hf λa aO q3 r=>?_;apply aV q3
   exact⟨a,aO,rfl,r⟩
  | exc c w=>exact hf.elim
theorem f8 {S:Stmt->Option CS} (ih:∀ st c,S st=some c->Ah g A Z O st (bu call c)):∀ {ss:List Stmt} {c:fJ},cX S ss=some c->pJ g A Z O ss (aQ call c)
 | [],c,h=>by
  apply dE h
  intro K H fl aS af h nu J s R F E
  apply gW h
  exact wpAny_execs_nil ⟨rfl,rfl,J,SE.refl _ _,R,bz.refl _⟩
 | st::r,c,h=>by
  refine aT h λa ha h=>?_
  refine aT h λb hb h=>?_
  apply dE h
  exact zl (ih _ _ ha) (f8 ih hb)
theorem o6 (G:er g cx fs mg mb) (hQ:∀ k∈cx.calm,pI g A fs call k) (Z:Env) (O:List (Str×Nat)):∀ n st c,DC cx Z.scope O n st=some c->Ah g A Z O st (bu call c):=by
 intro n
 induction n with
 | zero=>exact λst c h=>no h
 | succ n ih =>
  have LI:=CK (cx:=cx) G hQ Z O n
  intro st c h
  replace h:Ko (cQ cx Z.scope O n) (cX (DC cx Z.scope O n)) st=some c:=h
  cases st with
  | If t a b pos =>
   refine aT h λx hx h=>?_
   refine aT h λy hy h=>?_
   refine aT h λz hz h=>?_
   apply dE h
   exact Fv (LI _ _ hx).2 (f8 ih hy) (f8 ih hz)
  | Return v pos =>
   refine aT h λe he h=>?_
   refine aT h λc' dK h=>?_
   apply dE h
   apply aV he
   exact CV (LI _ _ dK).1
  | _=>exact no h
theorem lL.rep {a6 h:Heap} {U:Prop} {P:Value->Prop} {ea:Addr} {c:Nat} {w:Str} (X:lL g J H a6 h U P ea c w):∃ D,ak g (J++[D,ea]) (H++[.wd w,.exn c H.length]) h/\a6.get? D=none/\∃ o,h.get? ea=some o/\o.cls=.ref (g.cls c):=by
 refine MH X.X.ex λvs D m t sl he dZ hD hm D0 r7 ht=>?_
 have Dn:=Ns.noSeq hD
 have en:∀ o,h.get? ea=some o->¬ iM o:=λo e hh=>by
  rw[he] at e;cases e
  rcases hh with ⟨k,_⟩ | ⟨k,_⟩ <;> exact nomatch k
 have De:D≠ea:=λq=>by
  refine qU hD λo es ep ho i7 z=>?_
  rw[q,he] at ho;cases ho;cases i7
 have DB:g.B.get? D=none:=by
  cases q:g.B.get? D with
  | none=>rfl
  | some o=>have:=X.B0 _ _ q;rw[D0] at this;cases this
 have len:=X.R.len
 have up:∀ {m a},MR g J h m a->MR g (J++[D,ea]) h m a:=λx=>x.stepT (λn a e=>by rw[Ut (J'.mp e).1];exact e) (λb o e hh hn=>⟨e,λq=>by
  refine Ug (Uk.mp q) (λq=>?_) (λq=>?_)
  ·exact hn q
  ·simp only[Uh,V6,or_false] at q
   refine Ug q (λq=>?_) (λq=>?_)
   ·exact Dn o (q ▸ e) hh
   ·exact en o (q ▸ e) hh⟩) λo e=>e
 refine⟨D,⟨X.R.base,λa ha=>?_,by simp [len],?_,λi a mm h1 h2=>?_,λj q P hj=>?_⟩,D0,_,he,rfl⟩
 ·refine Ug (Uk.mp ha) (λha=>?_) (λha=>?_)
  ·exact X.R.fresh a ha
  ·simp only[Uh,V6,or_false] at ha
   rcases ha with rfl | rfl
   ·exact DB
   ·exact X.X.eB
 ·rw[X3]
  refine⟨X.R.nodup,by simp [De],λa ha b hb=>?_⟩
  simp only[Uh,V6,or_false] at hb
  rintro rfl
  rcases hb with rfl | rfl
  ·exact r7 ha
  ·exact X.X.eφ ha
 ·refine Ug (XQ i J.length) (λhi=>?_) (λhi=>?_)
  ·rw[Ut hi] at h1
   rw[Ut (len ▸ hi)] at h2
   exact up (X.R.objs i a mm h1 h2)
  ·rw[Ux hi] at h1
   rw[Ux (len ▸ hi),<-len] at h2
   match hj:i - J.length,h1,h2 with
   | 0,h1,h2 =>
    apply ez (Option.some.inj h1)
    apply ez (Option.some.inj h2)
    exact .wd hD hm
   | 1,h1,h2 =>
    apply ez (Option.some.inj h1)
    apply ez (Option.some.inj h2)
    exact .exn he rfl rfl rfl (by first | rw[<-len,Ux (Un _),Wg];rfl | rw[Ux (Un _),Wg];rfl)
   | n+2,h1,h2=>cases h1
 ·refine aR (X.R.tabs j q P hj) λh1 h2=>?_
  exact⟨by rw[Ut (J'.mp h1).1];exact h1,by rw[Ut (J'.mp h2).1];exact h2⟩
theorem yr {a:CE} {f:bT} {dQ:aN} (h:aQ call (.cons (.ret a) .nil) K H=some (f,dQ,σ1)):(∃ v,f=.ret v/\dQ=K/\ab call a K H=some (v,σ1))\/∃ c w,f=.exc c w/\dQ=K/\di call a K H=some (c,w,σ1):=by
 have fL:∀ {f dQ σ1},bu call (.ret a) K H=some (f,dQ,σ1)->(∃ v,f=.ret v/\dQ=K/\ab call a K H=some (v,σ1))\/∃ c w,f=.exc c w/\dQ=K/\di call a K H=some (c,w,σ1):=λ{f dQ σ1} h=>by
  rw[j5] at h
  rcases eT h with h | ⟨c,w,rfl,rfl,hx⟩
  ·refine bU h λv ae q h=>?_
   apply gW h
   exact .inl ⟨v,rfl,rfl,q⟩
  ·exact .inr ⟨c,w,rfl,rfl,hx⟩
 refine Ug (jp h) (λq=>gA q λMs ae hx h=>?_) (λq=>aR q λhx fK=>?_)
 ·rcases fL hx with ⟨v,e,_⟩ | ⟨c,w,e,_⟩ <;> cases e
 ·exact fL hx
theorem Fz {e:Expr} {rp tp pos Iz:Pos} {n:Str} {yf:Stmt} {mF:List Stmt} {i:Nat} {a:CE} {y:fJ} (G:er g cx fs mg mb) (ZF:FX g A Z) (hg:bh Z.scope ("LarderError" : Str)=true) (hl:Z.kindOf n=some .local) (hi:O.lookup n=some i)
  (hX:ic g A Z O e (di call a)) (he:aM g A Z O e (ab call a)) (hH:∀ ea,pJ g (A.mark (some (.ref ea))) Z O (yf::mF) (aQ call y)) :
  jQ g A Z O (.Try [.Return (some e) rp] [.ExceptHandler (some (.Name ("LarderError" : Str) tp)) (some n) (yf::mF) Iz] [] [] pos) (bu call (.try_ (.cons (.ret a) .nil) i y)):=by
 intro K H fl aS af h0 J s R F E hE
 rw[u2] at h0
 refine me h0 λf dQ σ1 h1 h=>?_
 clear h0
 rcases yr h1 with ⟨v,rfl,rfl,q⟩ | ⟨c,w,rfl,rfl,hx⟩
 ·apply gW h
  exact wpAny_Try_except (wpAny_execs_cons (wpAny_Return_some (he.bind q R F λa s₁ aj S T au aU a7=>⟨a,aj,rfl,cD.ofSE S Z,au,a7,T⟩)))
 ·refine me h λf2 Ms ae h2 h=>?_
  cases f2 with
  | next=>exact no h
  | exc c' w'=>exact no h
  | ret v2 =>
  apply gW h
  refine wpAny_Try_except (wpAny_execs_cons (wpAny_Return_some (hX _ H c w σ1 hx J s R F _ _ λea aj s₁ X=>?_)))
  refine N' ZF.top λbw ho=>?_
  refine N' ZF.own λL hL=>?_
  refine mQ (rO G X.hc) λmN mN0 fI S2 z=>?_
  refine vP ZF.fr ho hL (X.X.mono (λq=>q) λf q=>.inl q) λgT NB Nn=>?_
  refine gk (s:={s₁ with heap:=gT}) (P':=P0) NB rfl λdz DZ No=>?_
  have gq:SE J s.heap aj dz:=cD.xkp (cD.xkp X.S Nn) No
  refine rf (wF (s:={s₁ with heap:=dz}) (c:=0) G (F.step R gq) DZ.R hg rfl ?_)
  refine⟨g.cls c,g.cls 0,mN,mN0,rfl,S2.keeps DZ.R.base,?_,?_⟩
  ·refine qV DZ.X.ex λz z z z z yw z=>?_
   exact⟨_,yw,rfl⟩
  refine gk (s:={s₁ with heap:=dz}) (P':=P0) DZ rfl λjw Kb Np=>?_
  obtain ⟨D,pq,D0,o,_⟩:=Kb.rep
  have Ai:SE J s.heap aj jw:=cD.xkp gq Np
  have jR:SE J s.heap (aj++[D,ea]) jw:=by
   refine aB Ai.ext λt ht hf=>?_
   refine⟨Ai.pres,Ai.dom,t++[D,ea],by rw[ht,Uf],λb hb=>?_⟩
   refine Ug (Uk.mp hb) (λhb=>?_) (λhb=>?_)
   ·exact hf b hb
   ·simp only[Uh,V6,or_false] at hb
    rcases hb with rfl | rfl
    ·exact D0
    ·exact X.X.X.e0
  have Ac:=F.step R jR
  have vn:(aj++[D,ea])[σ1.length+1]? = some ea:=by
   have len:aj.length=σ1.length:=Kb.R.len
   rw[<-len,Ux (Wu _),show aj.length.succ - aj.length=1 from (U0 aj.length 1)];rfl
  refine eM (s:={s₁ with heap:=jw}) Ac pq hi (.inl hl) (.ref vn) λiG Mm DW DO HE up5=>?_
  refine wpAny_mono (hH ea _ _ (.ret v2) _ _ h2 trivial _ {s₁ with heap:=iG,toks:=Mm} DO HE _) (λf Mk hf=>?_) λz z x=>x
  refine H3 hf λav xT q3 J6 Nr Nz Nx=>?_;apply aV q3
  have HF:=HE.step DO J6
  refine aB HF.ns λm₆ GI z=>?_
  have ns:=Ns.noSeq GI
  refine wpAny_nameGoes hl GI (by rw[F.kind];rfl) λEN m₇ Lq wY=>?_
  have kp:∀ b o,b≠Z.locals->Mk.heap.get? b=some o->EN.get? b=some o:=λb o hb e=>wY.extBut b o hb e
  have Nu:cD (FM xT Z) xT Mk.heap xT EN:=by
   refine⟨λb o e hb=>.inl (kp b o (λq=>hb (.inr (.inl q))) e),λb o e=>?_,[],by simp,λz hm=>nomatch hm⟩
   by_cases hb:b=Z.locals
   ·refine mQ Lq λo' z z kM z=>?_
    exact⟨o',hb ▸ kM⟩
   ·exact⟨o,kp b o hb e⟩
  have DV:cD (FM J Z) J s.heap (aj++[D,ea]) iG:=FM.trans (cD.ofSE jR Z) (DW.mono λb hb=>by
   refine Ug hb (λhb=>?_) (λhb=>?_)
   ·exact .inr (.inl hb)
   ·exact .inr (.inr ⟨n,hb⟩))
  refine⟨av,xT,rfl,FM.trans DV (FM.trans (cD.ofSE J6 Z) Nu),Nr.other HF.locN HF.locB kp ns,Nz.stepT (λz z e=>e) λb o e Bu hn=>⟨kp b o (by rintro rfl;exact ns o e Bu) e,hn⟩,(X.T.trans ⟨rfl,rfl,rfl⟩).trans (Nx.trans ⟨rfl,rfl,rfl⟩)⟩
end
section
variable {g:G} {cx:cp} {fs:List Fn} {mg mb:Str->Option Value} {A:Around} {E:Value->Shared->Prop} {J aj φ0:List Addr} {H σ1 af:ag} {s s₁ s₀:Shared} {Z:Env} {O:List (Str×Nat)} {K aS:aN} {call:aw} {d:Nat}
theorem VR.stepF {h h':Heap} {v:V} {a:Value} (F:dR g J Z O K h) (S:cD (FM J Z) J h aj h') (x:VR g J h v a):VR g aj h' v a:=by
 refine x.stepT (λn a e=>S.pre e) λb o e hs hn=>⟨(S.pres b o e λq=>?_).hard hs,S.notin e hn⟩
 rcases q with q | q | ⟨y,q⟩
 ·exact hn q
 ·subst q
  refine aB F.ns λm gh z=>?_
  exact Ns.noSeq gh o e hs
 ·refine aR (F.cellF y b q) λk1 z=>?_;refine N' k1 λu hu=>?_
  exact Ad.noSeq hu o e hs
theorem bi.stepF {h h':Heap} (F:dR g J Z O K h) (S:cD (FM J Z) J h aj h') {l:List V} {vs:List Value} (x:bi g J h l vs):bi g aj h' l vs:=by
 induction vs generalizing l with
 | nil=>cases x;exact .nil
 | cons v vs ih=>cases x with | cons h1 h2=>exact .cons (h1.stepF F S) (ih h2)
structure Mw where
 g:G
 φ0:List Addr
 s₀:Shared
 Z:Env
 O:List (Str×Nat)
 ys:List V
 vs:List Value
 wr:List Addr
 kp:List Addr
structure Mx (c:Mw):Prop where
 wL:∀ b,b∈c.wr\/b∈c.kp->b≠c.Z.locals
 wC:∀ b,b∈c.wr\/b∈c.kp->∀ x,c.Z.cells.lookup x≠some b
 w0:∀ b∈c.wr,c.s₀.heap.get? b=none
structure FI (c:Mw) (K:aN) (J:List Addr) (h:Heap):Prop where
 S:cD (FM c.φ0 c.Z) c.φ0 c.s₀.heap J h
 F:dR c.g J c.Z c.O K h
 ys:bi c.g J h c.ys c.vs
 hn:∀ b,b∈c.wr\/b∈c.kp->b∉J
section
variable {c:Mw} {J aO:List Addr} {h h':Heap}
theorem FI.mv (X:Mx c) (I:FI c K J h) (M:Mv c.wr J h h') (R':ak c.g J H h') (w:∀ b∈c.wr,eh h b):FI c K J h' :=
 ⟨cD.mv I.S R' M (λz q=>.inl q) X.w0,I.F.mvN M w (λq=>X.wL _ (.inl q) rfl) λx b e q=>X.wC b (.inl q) x e,M.vrsT (λb hb=>(w b hb).nt) I.ys,I.hn⟩
theorem FI.tgt {ns:List Str} (I:FI c K J h) (S':cD (TM c.Z ns) J h J h') (F':dR c.g J c.Z c.O aS h') (up:∀ {v:V} {a:Value},VR c.g J h v a->VR c.g J h' v a):FI c aS J h' :=
 ⟨FM.trans I.S (S'.mono λb hb=>hb.fm),F',I.ys.upG up,I.hn⟩
theorem Mx.nFM (X:Mx c) (hn:∀ b,b∈c.wr\/b∈c.kp->b∉J) (b:Addr) (hb:b∈c.wr\/b∈c.kp):¬ FM J c.Z b:=λq=>by
 rcases q with q | q | ⟨x,q⟩
 ·exact hn b hb q
 ·exact X.wL b hb q
 ·exact X.wC b hb x q
theorem FI.body (I:FI c K J h) (S':cD (FM J c.Z) J h aO h') (F':dR c.g aO c.Z c.O aS h') (lv:∀ b,b∈c.wr\/b∈c.kp->∃ o,h.get? b=some o):FI c aS aO h' :=
 ⟨FM.trans I.S S',F',bi.stepF I.F S' I.ys,λb hb=>(lv b hb).elim λo e=>S'.notin e (I.hn b hb)⟩
end
structure FT (c:Mw) (m:aN->ag->Option (bT×aN×ag)) (t:gE) (w:List (Nat×aZ)) (xs:List V) (r:bT×aN×ag) (St:Nat->Heap->Prop) (n k:Nat) (J:List Addr) (H:ag) (K:aN) (s:Shared):Prop where
 I:FI c K J s.heap
 T:bz c.s₀ s
 R:ak c.g J H s.heap
 st:St k s.heap
 hk:k<=xs.length
 n:n=xs.length - k
 hc:jK m t w (xs.drop k) K H=some r
theorem EA {aK:Expr} {body:List Stmt} {t:gE} {I:Addr} {xs ys:List V} {vs:List Value} {w:List (Nat×aZ)} {two:Bool} {wr kp:List Addr} {St:Nat->Heap->Prop} {r8:Nat->Value->Heap->Prop} {m:aN->ag->Option (bT×aN×ag)} {fl:bT} {xS:aN} {σe f9:ag} {Q:Result->Shared->Prop}
  (hA:hW A d) (ZF:FX g A Z) (Nq:ak g φ0 f9 s₀.heap) (Nl:pj g φ0 s₀.heap) (Ti:pn g A I xs w two ys vs wr kp St r8) (Bw:rR two aK) (z7:eU Z.scope O aK=some t)
  (hb:kl g A Z O body m)
  (QT:∀ b,b∈wr\/b∈kp->b≠Z.locals) (QR:∀ b,b∈wr\/b∈kp->∀ x,Z.cells.lookup x≠some b) (pA:∀ b∈wr,s₀.heap.get? b=none) (hB:∀ b∈wr,g.B.get? b=none)
  (hc:jK m t w xs K H=some (fl,xS,σe)) (R0:∀ e s',zX False g φ0 Z s₀ fl σe e s'->Q (.error e) s')
  (S:cD (FM φ0 Z) φ0 s₀.heap J s.heap) (T:bz s₀ s) (R:ak g J H s.heap) (F:dR g J Z O K s.heap) (h0:St 0 s.heap) (IL:bi g J s.heap ys vs) (hn:∀ b,b∈wr\/b∈kp->b∉J)
  (hQ:∀ f s',zV g φ0 Z O s₀ fl xS σe f s'->Q (.ok f) s') :
  codeAny (model g.prog g.w) A (.forLoop aK (.ref I) body [] Z) Q s:=by
 have X:Mx ⟨g,φ0,s₀,Z,O,ys,vs,wr,kp⟩:=⟨QT,QR,pA⟩
 refine codeAny_forLoop_any (λn s=>∃ k J H K,FT ⟨g,φ0,s₀,Z,O,ys,vs,wr,kp⟩ m t w xs (fl,xS,σe) St n k J H K s) ?_ xs.length ⟨0,J,H,K,⟨S,F,IL,hn⟩,T,R,h0,UJ _,rfl,hc⟩
 intro n s q
 refine JB q λk J H K ZG=>Ug (XQ k xs.length) (λcE=>?_) (λjG=>?_)
 ·have hc:=ZG.hc
  rw[Vm cE] at hc
  refine og hc λhw hc=>aT hc λaS Bq hc=>?_
  refine Ti.item k J H s _ _ xs[k] ZG.st ZG.R ZG.I.ys hw ZG.I.hn hB (Ue cE) λa bA mJ uE au a7 oN=>?_
  have qE:=ZG.I.mv X uE au (Ti.wrN k _ ZG.st)
  refine Ti.go aK Bw k J H a _ _ _ oN au ZG.I.hn hB λgT Ag bo t8=>?_
  have Du:=Ti.wrM k a _ oN
  have Ae:=qE.mv X Ag bo Du
  refine rT (s:={s with heap:=gT,toks:=mJ}) hA.handled z7 Bq bo Ae.F (Ag.vrT (λb hb=>(Du b hb).nt) a7) λdz pe gq gp nH mL=>?_
  have xV:=Ae.tgt gq nH mL
  have o9:St (k+1) dz:=Ti.frame _ _ _ t8 λb hb o e=>Ti.kp t8 hb e (gq.pres b o e λq=>Ug q (QT b hb) λq=>aB q λx z q=>QR b hb x q)
  have qG:bz s₀ {s with heap:=dz,toks:=pe}:=ZG.T.trans ⟨rfl,rfl,rfl⟩
  refine Ug (jp hc) (λq=>gA q λiJ jz KQ hc=>?_) (λq=>aR q λhc fK=>?_)
  ·refine wpAny_mono (hb aS H .next iJ jz KQ J {s with heap:=dz,toks:=pe} gp nH _ λe s' X=>X.elim) (λf v5 hf=>?_) λz z x=>x
   refine aR hf λq hf=>?_
   rw[q]
   refine qT hf λDx jR pq Ac HJ=>?_
   exact⟨xs.length - (k+1),by rw[ZG.n];exact YB cE (VC k),k+1,Dx,jz,iJ,xV.body jR Ac (Ti.live o9),qG.trans HJ,pq,Ti.frame _ _ _ o9 λb hb o e=>Ti.kp o9 hb e (jR.pres b o e (X.nFM ZG.I.hn b hb)),cE,rfl,hc⟩
  ·refine wpAny_mono (hb aS H fl xS σe hc J {s with heap:=dz,toks:=pe} gp nH _ λe s' X=>zX.note ZF (zX.after xV.S qG Nq Nl X) λmD X'=>R0 e mD X') (λf v5 hf=>?_) λz z x=>x
   cases fl with
   | next=>exact absurd rfl fK
   | ret v =>
    have Bk:=zV.after xV.S qG hf
    refine gA hf λa' aO q3 r=>?_
    rw[q3] at Bk ⊢
    exact hQ _ _ Bk
   | exc c w=>exact hf.elim
 ·have sV:k=xs.length:=U3 ZG.hk jG
  have hc:=ZG.hc
  have st:=ZG.st
  rw[sV,XA] at hc
  rw[sV] at st
  refine og hc λhw hc=>?_
  refine Ti.done J _ s _ _ st ZG.R ZG.I.ys hw ZG.I.hn hB λbA mJ uE au=>?_
  have qE:=ZG.I.mv X uE au (Ti.wrN _ _ st)
  refine wpAny_execs_nil (hQ _ _ ?_)
  apply gW hc
  exact⟨rfl,J,qE.S,au,qE.F,ZG.T.trans ⟨rfl,rfl,rfl⟩⟩
theorem Fp {aK c8:Expr} {body:List Stmt} {pos:Pos} {t:gE} {it:gb} {b:fJ} {two:Bool} (hA:hW A d) (ZF:FX g A Z) (hs:∀ x,foldedSetIterable c8 Z x=pure x) (Bw:rR two aK) (z7:eU Z.scope O aK=some t) (SI:ic g A Z O c8 (Ev call it))
  (hi:jP g A Z O c8 two (bS call it)) (hb:kl g A Z O body (aQ call b)):jQ g A Z O (.For aK c8 body [] pos) (bu call (.for_ t it b)):=by
 intro K H fl aS af h J s R F E hE
 have PG:∀ xs w σ1,bS call it K H=some (xs,w,σ1)->jK (aQ call b) t w xs K σ1=some (fl,aS,af)->wpAny (model g.prog g.w) A (exec (.For aK c8 body [] pos) Z) (zV g J Z O s fl aS af) E s:=λxs w σ1 h1 h2=>by
  refine wpAny_For (wpAny_mono (hi K H xs w σ1 h1 J s R F E) (λxv s₁ hp=>?_) λz z x=>x) hs
  refine qT hp λaO ie au Aj mk=>?_
  refine mk E _ λI ys vs wr kp St r8 h' Ti lk hk IL pA hn hB=>?_
  have aU:=F.step R ie
  have F7:SE aO s₁.heap aO h':=SE.keeps _ hk
  have ed:=aU.step au F7
  refine EA (s₀:=s) (φ0:=J) (s:={s₁ with heap:=h'}) hA ZF R F.stk Ti Bw z7 hb ?_ ?_ pA hB h2 (λe s' X=>X.back λmD X'=>hE e mD X') (cD.ofSE (ie.trans F7) Z) (Aj.trans ⟨rfl,rfl,rfl⟩) (au.keeps hk) ed lk IL hn λf s' hf=>hf
  ·rintro b hb rfl
   refine Ug hb (λhb=>?_) (λhb=>?_)
   ·refine aB F.ns λm' k3 z=>?_;refine mQ k3 λo z z ho z=>?_
    rw[pA _ hb] at ho;cases ho
   ·refine mQ (Ti.kpN _ _ lk _ hb) λo' ca n' e' i7=>?_
    refine aB ed.ns λm' gh z=>?_
    refine qU gh λo2 es2 ep2 Lr Ig z=>?_
    rw[e'] at Lr;cases Lr
    exact nomatch i7.symm.trans Ig
  ·intro b hb x e
   refine Ug hb (λhb=>?_) (λhb=>?_)
   ·refine aR (F.cellF x b e) λk4 z=>?_;refine gA k4 λu o ho z=>?_
    rw[pA _ hb] at ho;cases ho
   ·refine mQ (Ti.kpN _ _ lk _ hb) λo' ca n' e' i7=>?_
    refine aR (ed.cellF x b e) λk5 z=>?_;refine N' k5 λu hu=>?_
    refine aB hu λo2 Lr Ig=>?_
    rw[e'] at Lr;cases Lr
    exact nomatch i7.symm.trans Ig
 rw[AZ] at h
 rcases eT h with h | ⟨c,w,rfl,rfl,hx⟩
 rotate_left
 ·exact wpAny_For (SI _ H c w af hx J s R F _ E λea aO s' X=>hE _ _ (X.stm ZF)) hs
 refine me h λxs w σ1 h1 h2=>?_
 exact PG xs w σ1 h1 h2
theorem Mi {ts:List Expr} {k:Nat} {p:Pos} {v:Expr} {ln:Nat} {n:Nat} {sc:Scope} {nx:Nat} {c:CE} (hc:bR cx n sc O nx v=some c):swapsWithSole [.Tuple ts k p] v ln Z=pure false:=by
 cases v with
 | SetComp a b c d=>cases n <;> exact no hc
 | DictComp a b c d e=>cases n <;> exact no hc
 | _=>rfl
theorem Mh {o i:Expr} {p:Pos} {v:Expr} {ln:Nat}:swapsWith v (some (.Subscript o i p)) ln Z=pure false:=by
 cases v <;> rfl
theorem Mj {ts:List Expr} {k:Nat} {p:Pos} {v:Expr} (h:¬ vv v=true):swappedStores [.Tuple ts k p] v Z=pure none:=by
 cases v with
 | Tuple a b c=>exact (h rfl).elim
 | _=>rfl
theorem CJ (hA:hW A d) (G:er g cx fs mg mb) (hC:qF g A fs call) (hX:nI g A fs call) {Z:Env} (ZF:FX g A Z) {O:List (Str×Nat)} {nx n:Nat} {x:Str} {p pos:Pos} {v:Expr} {t:gE} {a:CE} (ht:eU Z.scope O (.Name x p)=some t) (ha:bR cx n Z.scope O nx v=some a) :
  jQ g A Z O (.Assign [.Name x p] v pos) (bu call (.assign t a)):=by
 have ih:=(lg (cx:=cx) hA G hC n Z O nx v a ha).1
 have uu:=o3 (cx:=cx) hA G hC hX n Z O nx v a ha
 by_cases hv:∃ a b c d,v=.ListComp a b c d
 ·refine JB hv λelt px scope kD q5=>?_;subst q5
  cases n with
  | zero=>exact no ha
  | succ n =>
   have JN:∃ b,swapsWith (.ListComp elt px scope kD) (some (.Name x p)) pos.line Z=pure b:=⟨_,rfl⟩
   refine N' JN λb JN=>?_
   cases b with
   | false=>exact o4 hA ht JN ZF uu ih
   | true =>
    refine lB (sj ha) λaK c8 ifs it t' Pt=>?_;refine NS Pt λcs c' k7 nu qb MV fS dK Pu=>?_;refine aR Pu λGR k8=>?_;apply aV k7;apply aV k8
    have jE:=lg (cx:=cx) hA G hC n
    refine tL hA ht JN (pW nu) (lT qb) (rS GR MV) (tP hA G hC n Z O nx c8 it qb) MV (λe' yw=>?_) fS λe' yw e c h=>?_
    ·rw[<-yw] at dK;exact (jE _ _ _ _ _ dK).1
    ·rw[<-yw] at h;exact (jE _ _ _ _ _ h).2
 ·exact o4 hA ht (v4 (λa b c d e=>hv ⟨a,b,c,d,e⟩) ha) ZF uu ih
theorem uS {c:CE} {r:CS} (h:Gi c=some r):∃ m o as,c=.meth m o as/\m.isStep=true/\r=.expr (.meth m o as):=by
 cases c with
 | meth m o as=>exact⟨m,o,as,rfl,(cy h).1,(sm (cy h).2).symm⟩
 | _=>exact no h
theorem gZ {S:Stmt->Option CS} (ih:∀ st c,S st=some c->jQ g A Z O st (bu call c)):∀ {ss:List Stmt} {c:fJ},cX S ss=some c->kl g A Z O ss (aQ call c)
 | [],c,h=>by apply dE h;exact Fu
 | st::r,c,h=>by
  refine aT h λa ha h=>?_
  refine aT h λb hb h=>?_
  apply dE h
  exact CN (ih _ _ ha) (gZ ih hb)
theorem zo (hA:hW A d) (G:er g cx fs mg mb) (hC:qF g A fs call) (hX:nI g A fs call) (hQ:∀ ea,∀ k∈cx.calm,pI g (A.mark (some (.ref ea))) fs call k) (Z:Env) (ZF:FX g A Z) (O:List (Str×Nat)) (nx:Nat) (hk:Z.scope.kind=.function):∀ n st c,pQ cx Z.scope O nx n st=some c->jQ g A Z O st (bu call c):=by
 intro n
 induction n with
 | zero=>exact λst c h=>no h
 | succ n ih =>
  have LI:=lg (cx:=cx) hA G hC n Z O nx
  have cq:∀ {e c},bR cx n Z.scope O nx e=some c->aM g A Z O e (ab call c):=λh=>(LI _ _ h).1
  have uu:∀ {e c},bR cx n Z.scope O nx e=some c->ic g A Z O e (di call c):=λh=>o3 (cx:=cx) hA G hC hX n Z O nx _ _ h
  intro st
  show Gd (λc=>jQ g A Z O st (bu call c)) (AE (bR cx n Z.scope O nx) (si cx n Z.scope O nx) (cX (pQ cx Z.scope O nx n)) (cX (DC cx Z.scope O n)) Z.scope O st)
  cases st with
  | Assign ts v pos =>
   refine ah λt ht=>?_
   apply aV (bZ ht)
   cases t with
   | Name x p=>exact ah (m:=eU Z.scope O (.Name x p)) (k:=λt=>(bR cx n Z.scope O nx v).bind λa=>some (CS.assign t a)) λt ht=>ah λa ha=>aL (CJ hA G hC hX ZF ht ha)
   | Tuple ts k p=>exact od (b:=vv v=true) (x:=(eU Z.scope O (.Tuple ts k p)).bind λt=>(bR cx n Z.scope O nx v).bind λa=>some (CS.assign t a)) λIw=>ah λt ht=>ah λa ha=>aL (tM hA ht (Mi ha) (Mj Iw) ZF (uu ha) (cq ha))
   | Subscript o i p=>exact ah (m:=bR cx n Z.scope O nx o) (k:=λa=>(bR cx n Z.scope O nx i).bind λb=>(bR cx n Z.scope O nx v).bind λc=>some (CS.setItem a b c)) λa ha=>ah λb hb=>ah λc' dK=>aL (tR Mh (cq ha) (cq hb) (cq dK))
   | _=>exact dn
  | Expr e pos =>
   cases e with
   | Call fn as ks p =>
    refine ah λa ha c h=>?_
    refine qU (uS h) λm o P6 q4 hm q6=>?_;subst q4 q6
    exact CP hm hk rfl ZF (uu ha) (cq ha)
   | _=>exact dn
  | If t a b pos=>exact ah λx hx=>ah λy hy=>ah λz hz=>aL (Jm (LI _ _ hx).2 (gZ ih hy) (gZ ih hz))
  | For t it body oS pos =>
   refine cI λho=>ah λx hx=>ah λy hy=>ah λz hz=>cI λGR=>aL ?_
   apply aV (UQ.mp ho)
   exact Fp hA ZF (lT hy) (rS GR hx) hx (zh hA G hC hX n Z O nx _ _ hy) (tP hA G hC n Z O nx _ _ hy) (gZ ih hz)
  | Return v pos =>
   refine ah λe he=>ah λc' dK=>aL ?_
   apply aV he
   exact Fw ZF (uu dK) (cq dK)
  | Raise exc Gj pos =>
   refine cI λKT=>ah λp hr=>cI λhg=>ah λk sV=>cI λIp=>ah λa ha=>aL ?_
   obtain ⟨x,e⟩:=p
   refine nW (rE hr) λp q q3=>?_;apply aV q3
   apply aV (VF.mp KT)
   exact zm hA G ZF hg sV (by simpa using Ip) (Ay ha) (cq ha)
  | Try body hs oS gJ pos =>
   refine cI λho=>ah λq hh=>cI λhc=>ah λi hi=>ah λst gR=>ah λe j=>ah λa ha=>ah λy hy=>aL ?_
   obtain ⟨x,nn,mF⟩:=q
   simp only[Uv,beq_iff_eq,Vh] at hc ho
   refine aR hc λPx hl=>?_;refine aR Px λLP fK=>?_;refine aR LP λhg TK=>?_;subst TK
   apply aV (UQ.mp ho.1)
   apply aV (UQ.mp ho.2)
   apply aV (bZ gR)
   refine N' e.2 λrp q2=>?_;apply aV q2
   refine nW (sQ hh) λtp hp q3=>?_;apply aV q3
   cases mF with
   | nil=>cases fK
   | cons yf mF=>exact Fz G ZF hg hl (cy hi).2 (uu ha) (cq ha) λea=>f8 (o6 G (hQ ea) Z O n) hy
  | _=>exact dn
end
theorem pN {k:Str->Option NameKind} {x:Str} (hk:k x=some .cell):∀ (b:List (Str×Value)) (m:Str->Option Value),(b.map (·.1)).Nodup->bindC k b m x=match b.lookup x with | some v=>some v | none=>m x
 | [],m,_=>rfl
 | (n,v)::r,m,hn=>by
  have j7:=VP.mp hn
  unfold bindC
  rw[pN hk r _ j7.2,U9]
  cases hb:x==n with
  | true =>
   have:x=n:=by simpa using hb
   subst this
   have hr:r.lookup x=none:=by
    cases q:r.lookup x with
    | none=>rfl
    | some y=>exact absurd (YC (f:=(·.1)) (mem_of_lookup q)) j7.1
   rw[hr,if_neg (by rw[hk];decide)];simp
  | false =>
   have fK:x≠n:=by simpa using hb
   cases q:r.lookup x with
   | some y=>rfl
   | none =>
    by_cases Iq:k n=some .local
    ·rw[if_pos Iq]
    ·rw[if_neg Iq];simp [fK]
theorem xQ {α:Type}:∀ {l:List Str} {vs:List α} {i:Nat} {x:Str} {v:α},l.Nodup->l[i]? = some x->vs[i]? = some v->(l.zip vs).lookup x=some v
 | [],_,_,_,_,_,h,_=>by simp at h
 | a::l,[],_,_,_,_,_,h=>by simp at h
 | a::l,b::vs,0,x,v,_,h1,h2=>by
  simp at h1 h2;apply aV h1;apply aV h2
  simp
 | a::l,b::vs,i+1,x,v,hn,h1,h2=>by
  have j7:=VP.mp hn
  simp only[Yg] at h1 h2
  rw[Xd,U9]
  have:(x==a)=false:=by
   simp only[beq_eq_false_iff_ne,ne_eq];rintro rfl;exact j7.1 (Ui h1)
  rw[this]
  exact xQ j7.2 h1 h2
structure wl (cx:cp) (fn:Fn) (cf:bj) (as:List Arg) (b:fJ):Prop where
 params:fn.params=⟨[],as,none,[],[],none,[]⟩
 kind:fn.scope.kind=.function
 gen:fn.scope.isGenerator=false
 cor:fn.scope.isCoroutine=false
 uniq:∀ n k,(n,k)∈fn.scope.names->fn.scope.names.lookup n=some k
 kinds:∀ n k,(n,k)∈fn.scope.names->k=.local\/k=.cell\/k=.globalImplicit
 nodup:((cZ fn.scope).map (·.1)).Nodup
 pre:as.map (·.arg)=((cZ fn.scope).map (·.1)).take as.length
 body:cX (pQ cx fn.scope (cZ fn.scope) (cZ fn.scope).length 200) fn.body=some b
 cf:cf=⟨as.length,b⟩
theorem je {p:Arguments} (h:cO p=true):p=⟨[],p.args,none,[],[],none,[]⟩:=by
 obtain ⟨a,b,c,d,e,f,g⟩:=p
 simp only[cO,Uv,UQ,VF] at h
 refine aR h λk2 k3=>?_;refine aR k2 λk6 k7=>?_;refine aR k6 λER ES=>?_;obtain ⟨⟨rfl,rfl⟩,rfl⟩:=ER;apply aV ES;apply aV k7;apply aV k3
 rfl
theorem n9 {cx:cp} {fn:Fn} {cf:bj} (h:uQ cx fn.params fn.scope fn.body=some cf):∃ as b,wl cx fn cf as b:=by
 refine dL h λhc h=>?_
 refine aT h λb hb h=>?_
 apply dE h
 simp only[Uv,beq_iff_eq,Vh,Vs,Vn,decide_eq_true_eq] at hc
 refine aR hc λk4 h6=>?_;refine aR k4 λk8 h5=>?_;refine aR k8 λET h4=>?_;obtain ⟨⟨⟨h0,h1⟩,h2⟩,h3⟩:=ET
 refine⟨fn.params.args,b,je h0,h1,h2,h3,λn k hm=>(h4 (n,k) hm).1,λn k hm=>?_,h6,h5,hb,rfl⟩
 rcases (h4 (n,k) hm).2 with (h | h) | h
 ·exact .inl h
 ·exact .inr (.inl h)
 ·exact .inr (.inr h)
theorem gN {sc:Scope} {x:Str} {i:Nat} (h:(cZ sc).lookup x=some i):((cZ sc).map (·.1))[i]? = some x/\∃ k,(x,k)∈sc.names/\(k=.local\/k=.cell):=by
 unfold cZ at h ⊢
 have h1:=kh h
 simp only[UJ,YW,true_and] at h1
 refine⟨by simpa using h1,?_⟩
 have hm:=Ui h1
 rw[Ve] at hm
 refine aB hm λk1 py k2=>?_;obtain ⟨n,k⟩:=k1;subst k2
 refine aR (Vp.mp py) λh2 h3=>?_
 simp only[Vn,beq_iff_eq] at h3
 exact⟨k,h2,h3⟩
noncomputable abbrev G.on (g:G) (l:List Env):G:={g with fr:=l}
section
variable {g:G} {l l':List Env} {J:List Addr} {h:Heap} {H:ag} {cx:cp} {fs:List Fn} {mg mb:Str->Option Value}
theorem bi.on {vs:List V} {as:List Value} (x:bi (g.on l') J h vs as):bi (g.on l) J h vs as :=
 bi.rec (g:=g.on l') (motive_1:=λv a z=>VR (g.on l) J h v a) (motive_2:=λvs as z=>bi (g.on l) J h vs as) .none .bool .int .str (λh1 h2 z h4 ih=>.tup h1 h2 ih h4) .ref (λh1 h2 h3=>VR.ro (g:=g.on l) h1 h2 h3) .nil (λz z i1 i2=>.cons i1 i2) x
theorem VR.on {v:V} {a:Value} (x:VR (g.on l') J h v a):VR (g.on l) J h v a:=by
 cases bi.on (l:=l) (.cons x .nil) with
 | cons h _=>exact h
theorem MR.on {m:aZ} {a:Addr} (x:MR (g.on l') J h m a):MR (g.on l) J h m a:=by
 apply MR.el x
 case lst=>intro _ _ hl hz hv;exact .lst hl hz hv.on
 case ds=>intro _ _ hd he hv;exact .ds hd he hv.on
 case own=>intro _ _ ho;exact .own ho
 case wd=>intro _ _ _ hn hw;exact .wd hn hw
 case exn=>intro _ _ _ _ _ ho h1 h2 h3 h4;exact .exn ho h1 h2 h3 h4
 case tab=>intro _ _ ho ht hc;exact .tab ho ht hc
theorem ak.on (R:ak (g.on l') J H h):ak (g.on l) J H h:=⟨R.base,R.fresh,R.len,R.nodup,λi a m h1 h2=>(R.objs i a m h1 h2).on,R.tabs⟩
theorem er.on (G:er g cx fs mg mb):er (g.on l) cx fs mg mb:=⟨G.gns,G.bns,G.nolimit,G.sys,G.prims,G.consts,G.names,G.made,G.bmain,⟨G.exc.n0,G.exc.n1,G.exc.n2,G.exc.c0,G.exc.c1,G.exc.c2,G.exc.ap⟩,G.tab⟩
theorem lL.on {a6:Heap} {U:Prop} {P:Value->Prop} {e:Addr} {c:Nat} {w:Str} (X:lL (g.on l') J H a6 h U P e c w) (hs:∀ f∈l,f∈l'):lL (g.on l) J H a6 h U P e c w :=
 ⟨ak.on (l:=l) X.R,λf hf=>X.FS f (hs f hf),λf hf=>X.F0 f (hs f hf),X.dom,X.B0,⟨X.X.ex,X.X.e0,X.X.eφ,X.X.eB⟩⟩
end
section
variable {g:G} {cx:cp} {fs:List Fn} {mg mb:Str->Option Value} {P:List bj}
structure JA (A:Around) (d:Nat):Prop where
 depth:A.depth+d<=600
 units:A.units+3 * d<=9000
theorem JA.deeper {A:Around} {d:Nat} (h:JA A (d+1)) (Z:Env):JA (A.deeper Z) d:=by
 refine⟨?_,?_⟩
 ·have:=h.depth
  show A.depth+1+d<=600
  exact jL (y6 0xc02589310b02589012ba182112ba41313ba184513ba520 rfl (iL this) (iA _ _) (iA _ _) (iA _ _) (iA _ _))
 ·have:=h.units
  show A.units+3+3 * d<=9000
  lia
theorem hW.room {A:Around} {d:Nat} (h:hW A d):JA A d:=⟨h.depth,h.units⟩
theorem yv {fn:Fn} {cf:bj} {as:List Arg} {b:fJ} (ZH:wl cx fn cf as b) {a:Addr} {pm cd doc:Value} {J:List Addr} {H:ag} {s s₁:Shared} {vs:List V} {cC:List Value} (R:ak g J H s.heap) (hv:bi g J s.heap vs cC) (hl:vs.length=as.length) (O7:J7 g (callEnvC (docDef fn.name fn.params fn.body fn.scope pm cd doc) s.heap.objs.size a)) (IG:pj g J s₁.heap)
  (x:InCallC s (callEnvC (docDef fn.name fn.params fn.body fn.scope pm cd doc) s.heap.objs.size a).locals (bindL (callEnvC (docDef fn.name fn.params fn.body fn.scope pm cd doc) s.heap.objs.size a).kindOf ((as.map (·.arg)).zip cC) λj=>none)
   (callEnvC (docDef fn.name fn.params fn.body fn.scope pm cd doc) s.heap.objs.size a).cells (bindC (callEnvC (docDef fn.name fn.params fn.body fn.scope pm cd doc) s.heap.objs.size a).kindOf ((as.map (·.arg)).zip cC) λj=>none) s₁) :
  dR g J (callEnvC (docDef fn.name fn.params fn.body fn.scope pm cd doc) s.heap.objs.size a) (cZ fn.scope) (b8 vs) s₁.heap:=by
 have hk:=x.toInCall.keep
 have S:SE J s.heap J s₁.heap:=SE.keeps _ hk
 have DK:vs.length=cC.length:=hv.length
 have Bn:(((as.map (·.arg)).zip cC).map (·.1)).Nodup:=by
  rw[List.map_fst_zip (by simp;exact B' (UV hl.symm) (UV DK)),ZH.pre]
  exact ZH.nodup.sublist (Wy _ _)
 have Iu:(as.map (·.arg)).Nodup:=by rw[ZH.pre];exact ZH.nodup.sublist (Wy _ _)
 have bound:∀ {x i v},(cZ fn.scope).lookup x=some i->b8 vs i=some v->∃ av,((as.map (·.arg)).zip cC).lookup x=some av/\VR g J s₁.heap v av:=λ{x i v} hx hi=>by
  refine aR (gN hx) λh1 j=>?_
  refine aB (hv.get hi) λav h2 h3=>?_
  have gf:i<vs.length:=(J'.mp hi).1
  refine⟨av,xQ Iu ?_ h2,h3.step R S⟩
  rw[ZH.pre,List.getElem?_take,if_pos (Ul gf (UV hl))]
  exact h1
 have H0:∀ {y c},(cellsFrom (s.heap.objs.size+1) fn.scope.names []).lookup y=some c->s.heap.objs.size<c:=λ{y c} e=>x.above y c (mem_of_lookup e)
 refine⟨ZH.kind,rfl,rfl,⟨_,x.toInCall.ns,?_⟩,?_,aY R (aD _),aW R (aD _),?_,?_,?_,λj=>O7,IG⟩
 ·intro y i v hy rl lF
  refine aB (bound hy lF) λav h1 h2=>?_
  refine⟨av,?_,h2⟩
  rw[jj rl _ _ Bn,h1]
 ·intro y i hy rl
  obtain ⟨_,k,hm,ut⟩:=gN hy
  have Ip:=ZH.uniq y k hm
  have Bi:k=.cell:=by
   refine Ug ut (λq=>?_) (λq=>?_)
   ·subst q
    refine Ug rl (λr=>?_) (λr=>?_)
    ·have r':fn.scope.names.lookup y=some .cell:=r
     rw[Ip] at r';cases r'
    ·have r':fn.scope.names.lookup y=some .free:=r
     rw[Ip] at r';cases r'
   ·exact q
  subst Bi
  refine N' (dF fn.scope.names (s.heap.objs.size+1) hm) λc hc=>?_
  refine N' (cN hc) λc' dK=>?_
  refine⟨c',_,dK,x.cell y c' dK,λv lF=>?_⟩
  refine aB (bound hy lF) λav h1 h2=>?_
  refine⟨av,?_,h2⟩
  rw[pN (by exact Ip) _ _ Bn,h1]
 ·intro y c e
  have:=H0 e
  have hf:s.heap.get? c=none:=gM (UD this)
  exact⟨⟨_,x.cell y c e⟩,aY R hf,V7 this,aW R hf⟩
 ·intro y z c e1 e2
  exact name_of_addr x.apart (mem_of_lookup e1) (mem_of_lookup e2)
 ·intro y z i e1 e2
  refine aR (gN e1) λh1 j=>?_
  refine aR (gN e2) λh2 j=>?_
  rw[h1] at h2;exact Option.some.inj h2
structure Rc (g:G) (l:List Env) (fn:Fn) (J:List Addr) (H:ag) (vs:List V) (s:Shared) (Z:Env) (s₁:Shared):Prop where
 F:dR (g.on (Z::l)) J Z (cZ fn.scope) (b8 vs) s₁.heap
 R:ak (g.on (Z::l)) J H s₁.heap
 S:SE J s.heap J s₁.heap
 T:bz s s₁
 back:∀ {aO:List Addr} {h':Heap},cD (FM J Z) J s₁.heap aO h'->SE J s.heap aO h'
 scope:Z.scope=fn.scope
 frame:Z.frame=some Z.locals
theorem oa {fn:Fn} {cf:bj} {as:List Arg} {b:fJ} {l:List Env} {A:Around} {d k:Nat} {vs:List V} {J:List Addr} {H:ag} {s:Shared} {cC:List Value} {Q:Value->Shared->Prop} {E:Value->Shared->Prop} (G:er g cx fs mg mb) (ZH:wl cx fn cf as b) (kK:fs[k]? = some fn) (hA:JA A (d+1)) (cm:vs.length=as.length)
  (R:ak (g.on l) J H s.heap) (FS:pj (g.on l) J s.heap) (hv:bi (g.on l) J s.heap vs cC)
  (h:∀ Z s₁,Rc g l fn J H vs s Z s₁->wpAny (model g.prog g.w) (A.deeper Z) (execs fn.body Z) (λf s'=>Q (match f with | .ret v=>v | _=>.none) s') (λe s'=>wpAny (model g.prog g.w) (A.deeper Z) (leaving Z e) (λz mD=>E e mD) (λe' mD=>E e' mD) s') s₁) :
  wpAny (model g.prog g.w) A (PySem.call (.ref fn.addr) cC) Q E s:=by
 obtain ⟨hm,o,pm,cd,doc,ho,hd,lU⟩:=G.made fn (Ui kK)
 have vi:s.heap.NoLimit:=G.nolimit.keeps R.base
 have DK:cC.length=as.length:=by rw[<-hv.length];exact cm
 have Iu:(as.map (·.arg)).Nodup:=by rw[ZH.pre];exact ZH.nodup.sublist (Wy _ _)
 have sS:A.depth<recursionLimit:=by
  have h1:=hA.depth
  have:600<recursionLimit:=by decide
  exact jT (y5 0x1c1410b02589011b10258910b20813ba182313ba340 rfl (iL h1) (iT this) (iP _) (iA _ _) (iA _ _))
 refine wpAny_call (codeAny_call_cells (body:=fn.body) (binds:=(as.map (·.arg)).zip cC) sS (R.base _ _ ho) hd vi (lU.keeps R.base) rfl (jY ZH.params rfl cC DK Iu) rfl ?_ (λs₁ x=>?_) ZH.cor ZH.gen ZH.kind)
 ·intro y hy
  have oj:y.1∈as.map (·.arg):=(We hy).1
  rw[ZH.pre] at oj
  have Lj:y.1∈(cZ fn.scope).map (·.1):=UB oj
  refine aB (Ve.mp Lj) λk6 py e=>?_;obtain ⟨n,i⟩:=k6
  refine N' (cN py) λi' gf=>?_
  have e':n=y.1:=e
  rw[e'] at gf
  obtain ⟨_,kk,OD,Ip⟩:=gN gf
  refine Ug Ip (λq=>?_) (λq=>?_)
  ·subst q;exact .inl (ZH.uniq _ _ OD)
  ·subst q
   refine .inr ⟨ZH.uniq _ _ OD,?_⟩
   refine N' (dF fn.scope.names (s.heap.objs.size+1) OD) λc hc=>?_
   refine N' (cN hc) λc' dK=>?_
   show ((cellsFrom (s.heap.objs.size+1) fn.scope.names []).lookup y.1).isSome=true
   rw[dK];rfl
 ·have hk:=x.toInCall.keep
  have ie:SE J s.heap J s₁.heap:=SE.keeps _ hk
  refine nW x.toInCall.same λbA mJ Bt=>?_
  have Aj:bz s s₁:=by rw[Bt];exact⟨rfl,rfl,rfl⟩
  have IG:pj (g.on ((callEnvC (docDef fn.name fn.params fn.body fn.scope pm cd doc) s.heap.objs.size fn.addr)::l)) J s₁.heap:=λf hf=>by
   rcases Uh.mp hf with rfl | hf
   ·refine qU x.toInCall.ns λo' es ep kM i7 z=>?_
    refine⟨?_,_,o',es,ep,rfl,kM,i7,aY R (aD _),aW (g:=g.on l) R (aD _)⟩
    show fn.scope.kind≠.module
    rw[ZH.kind];decide
   ·obtain ⟨k1,L,o',es,ep,k2,k3,k4,k5,k6⟩:=FS f hf
    exact⟨k1,L,o',es,ep,k2,hk _ _ k3,k4,k5,k6⟩
  refine h _ s₁ ⟨yv ZH (ak.on (l:=_) R) (bi.on hv) cm (G.tab fn (Ui kK) o _ ho hd) IG x,ak.on (l:=_) (R.keeps hk),ie,Aj,λcR=>?_,rfl,rfl⟩
  refine cD.trans ie cR (λz z z hb=>hb) λb o e hb q=>?_
  rcases q with q | q | ⟨y,q⟩
  ·exact hb q
  ·have q':b=s.heap.objs.size:=q
   exact absurd (UU e) (by rw[q'];exact Vq _)
  ·have:=x.above y b (mem_of_lookup q)
   exact absurd (UU e) (UK.mpr (UD this))
theorem j0 {d k:Nat} {vs:List V} {H:ag} {r:uo×ag} {cf:bj} (wT:P[k]? = some cf) (h:az P (d+1) k vs H=some r):vs.length=cf.arity/\gJ (aQ (az P d) cf.body (b8 vs) H)=some r:=by
 refine aT (m:=P[k]?) (k:=λfn=>if vs.length=fn.arity then gJ (aQ (az P d) fn.body (b8 vs) H) else none) h λRh Ok h=>?_
 apply aV (sm (wT.symm.trans Ok))
 exact cy h
theorem n8 {m:Ex} {r:uo} {af:ag} (h:gJ m=some (r,af)):∃ fl aS,m=some (fl,aS,af)/\(fl=.next/\r=.ok .none\/(∃ v,fl=.ret v/\r=.ok v)\/∃ c w,fl=.exc c w/\r=.exc c w):=by
 refine me h λfl aS ae hb h=>?_
 cases fl with
 | ret v' =>
  apply cU h
  exact⟨_,_,hb,.inr (.inl ⟨_,rfl,rfl⟩)⟩
 | next =>
  apply cU h
  exact⟨_,_,hb,.inl ⟨rfl,rfl⟩⟩
 | exc c w =>
  apply cU h
  exact⟨_,_,hb,.inr (.inr ⟨_,_,rfl,rfl⟩)⟩
theorem zf (G:er g cx fs mg mb) (hP:∀ (k:Nat) (fn:Fn),fs[k]? = some fn->∃ cf,P[k]? = some cf/\uQ cx fn.params fn.scope fn.body=some cf) (hQ:∀ k∈cx.calm,∀ fn cf,fs[k]? = some fn->P[k]? = some cf->cX (DC cx fn.scope (cZ fn.scope) 200) fn.body=some cf.body) :
  ∀ d l (A:Around),JA A d->∀ k∈cx.calm,pI (g.on l) A fs (az P d) k:=by
 intro d
 induction d with
 | zero=>intro l A hA k hk as H v af h;exact no h
 | succ d ih =>
  intro l A hA k hk vs H v af h fn kK J s cC R FS hv E
  refine aB (hP k fn kK) λcf wT sR=>?_
  refine nW (n9 sR) λas b ZH=>?_
  refine aR (j0 wT h) λcm h=>?_
  have hq:=hQ k hk fn cf kK wT
  rw[ZH.cf] at cm h hq
  refine oa (g:=g) G ZH kK hA cm R FS hv λZ s₁ I=>?_
  have JC:=hA.deeper Z
  have q':cX (DC cx Z.scope (cZ fn.scope) 200) fn.body=some b:=by rw[I.scope];exact hq
  have B:=f8 (o6 (cx:=cx) (call:=az P d) (er.on (l:=Z::l) G) (ih (Z::l) _ JC) Z (cZ fn.scope) 200) q'
  refine gA (n8 h) λfl aS hb hr=>?_
  rcases hr with ⟨rfl,hr⟩ | ⟨v',rfl,hr⟩ | ⟨_,_,_,hr⟩
  ·apply aV (uo.ok.inj hr)
   refine wpAny_mono (B _ H _ aS af hb trivial J s₁ I.R I.F _) (λf s' hf=>?_) λz z y=>y
   obtain ⟨rfl,_,aO,cR,bo,fO⟩:=hf
   exact⟨aO,I.S.trans cR,ak.on (l:=l) bo,.none,I.T.trans fO⟩
  ·apply aV (uo.ok.inj hr)
   refine wpAny_mono (B _ H _ aS af hb trivial J s₁ I.R I.F _) (λf s' hf=>?_) λz z y=>y
   refine H3 hf λav aO q3 cR bo cW fO=>?_;apply aV q3
   exact⟨aO,I.S.trans cR,ak.on (l:=l) bo,VR.on (l:=l) cW,I.T.trans fO⟩
  ·cases hr
theorem ze (G:er g cx fs mg mb) (hP:∀ (k:Nat) (fn:Fn),fs[k]? = some fn->∃ cf,P[k]? = some cf/\uQ cx fn.params fn.scope fn.body=some cf) (hQ:∀ k∈cx.calm,∀ fn cf,fs[k]? = some fn->P[k]? = some cf->cX (DC cx fn.scope (cZ fn.scope) 200) fn.body=some cf.body) :
  ∀ d l (A:Around),hW A d->A.frames=some l->qF (g.on l) A fs (az P d)/\nI (g.on l) A fs (az P d):=by
 intro d
 induction d with
 | zero=>intro l A hA hl;exact⟨λk as H v af h=>no h,λk as H c w af h=>no h⟩
 | succ d ih =>
  intro l A hA hl
  have fL:∀ (Z:Env) (fn:Fn) (cf:bj) (as:List Arg) (b:fJ),wl cx fn cf as b->Z.scope=fn.scope->Z.frame=some Z.locals->kl (g.on (Z::l)) (A.deeper Z) Z (cZ fn.scope) fn.body (aQ (az P d) b):=λZ fn cf as b ZH O3 Ij=>by
   have JC:hW (A.deeper Z) d:=⟨hA.handled,(hA.room.deeper Z).depth,(hA.room.deeper Z).units⟩
   have fT:(A.deeper Z).frames=some (Z::l):=by
    show A.frames.map (Z :: ·)=_
    rw[hl];rfl
   refine aR (ih (Z::l) _ JC fT) λh1 h2=>?_
   have q':cX (pQ cx Z.scope (cZ fn.scope) (cZ fn.scope).length 200) fn.body=some b:=by rw[O3];exact ZH.body
   exact gZ (zo (cx:=cx) JC (er.on (l:=Z::l) G) h1 h2 (λea=>zf G hP hQ d (Z::l) _ ⟨JC.depth,JC.units⟩) Z ⟨fT,⟨l,rfl⟩,_,Ij⟩ (cZ fn.scope) (cZ fn.scope).length (by rw[O3];exact ZH.kind) 200) q'
  refine⟨λk vs H v af h fn kK J s cC R FS hv E=>?_,λk vs H c w af h fn kK J s cC R FS hv Q E hE=>?_⟩
  ·refine aB (hP k fn kK) λcf wT sR=>?_
   refine nW (n9 sR) λas b ZH=>?_
   refine aR (j0 wT h) λcm h=>?_
   rw[ZH.cf] at cm h
   refine oa (g:=g) G ZH kK hA.room cm R FS hv λZ s₁ I=>?_
   have B:=fL Z fn cf as b ZH I.scope I.frame
   refine gA (n8 h) λfl aS hb hr=>?_
   rcases hr with ⟨rfl,hr⟩ | ⟨v',rfl,hr⟩ | ⟨_,_,_,hr⟩
   ·obtain rfl:=uo.ok.inj hr
    refine wpAny_mono (B _ H _ aS af hb J s₁ I.R I.F _ λe s' X=>X.elim) (λf s' hf=>?_) λz z y=>y
    obtain ⟨rfl,aO,cR,bo,ed,fO⟩:=hf
    exact⟨aO,I.back cR,ak.on (l:=l) bo,.none,I.T.trans fO⟩
   ·obtain rfl:=uo.ok.inj hr
    refine wpAny_mono (B _ H _ aS af hb J s₁ I.R I.F _ λe s' X=>X.elim) (λf s' hf=>?_) λz z y=>y
    refine H3 hf λav aO q3 cR bo cW fO=>?_;subst q3
    exact⟨aO,I.back cR,ak.on (l:=l) bo,VR.on (l:=l) cW,I.T.trans fO⟩
   ·cases hr
  ·refine aB (hP k fn kK) λcf wT sR=>?_
   refine nW (n9 sR) λas b ZH=>?_
   refine aR (j0 wT h) λcm h=>?_
   rw[ZH.cf] at cm h
   refine oa (g:=g) G ZH kK hA.room cm R FS hv λZ s₁ I=>?_
   have B:=fL Z fn cf as b ZH I.scope I.frame
   refine gA (n8 h) λfl aS hb hr=>?_
   rcases hr with ⟨rfl,hr⟩ | ⟨v',rfl,hr⟩ | ⟨c',w',rfl,hr⟩
   ·cases hr
   ·cases hr
   ·injection hr with e1 e2
    subst e1;subst e2
    refine wpAny_mono (B _ H _ aS af hb J s₁ I.R I.F _ λe s' X=>?_) (λf s' hf=>hf.elim) λz z y=>y
    obtain ⟨aO,ea,L,rfl,hL,hc,cR,fO,X⟩:=X
    have fT:(A.deeper Z).frames=some (Z::l):=by
     show A.frames.map (Z :: ·)=_
     rw[hl];rfl
    refine E1 (g:=g.on (Z::l)) fT rfl hL X λh' X' K'=>?_
    refine hE ea aO _ ⟨hc,I.back (cD.xkp cR K'),I.T.trans (fO.trans ⟨rfl,rfl,rfl⟩),?_⟩
    exact ((lL.on (l:=l) X' λf hf=>H' _ hf).before I.S R FS).mono (λq=>q.elim) λz q=>q
end
end Lar
namespace Lar
open PySem PySem.W PyProof.Rows PySem.Calls PySem.SeqAt
noncomputable def sE (p:Program) (consts:List (Str×Int)) (calm:List Nat):cp:=⟨(recsOf p).map (·.name),consts,[],calm⟩
noncomputable def u6 (p:Program) (loose:List Str):Bool:=dO.all λx=>!(startupNames.contains x) && !(loose.contains x) && !(((recsOf p).map (·.name)).contains x) && !(((litsOf p).map (·.1)).contains x) && !(((clssOf p loose).map (·.name)).contains x)&&x != ("__name__" : Str)
noncomputable def constsOk (p:Program) (consts:List (Str×Int)):Bool:=consts.all λ(x,i)=>match valOf p x with | some (.int j)=>i==j | _=>false
theorem A6 {mg:Str->Option Value} {h:Heap}:∀ (l:List DefRec),(∀ d∈l,∃ a o pm code doc,mg d.name=some (.ref a)/\h.get? a=some o/\o.data=.func (docDef d.name d.params d.body d.scope pm code doc)/\h.CodeRec code d.name) ->
  ∃ fs:List Fn,fs.map (·.name)=l.map (·.name)/\fs.map (λf=>(f.params,f.scope,f.body))=l.map (λd=>(d.params,d.scope,d.body)) /\
   ∀ f∈fs,mg f.name=some (.ref f.addr)/\∃ o pm cd doc,h.get? f.addr=some o/\o.data=.func (docDef f.name f.params f.body f.scope pm cd doc)/\h.CodeRec cd f.name
 | [],_=>⟨[],rfl,rfl,λz hf=>nomatch hf⟩
 | d::l,hl=>by
  refine Rr (hl d z') λa o pm code doc h1 h2 h3 h4=>?_
  refine ew (A6 l λd hd=>hl d (H' _ hd)) λfs e1 e2 e3=>?_
  refine⟨⟨d.name,a,d.params,d.body,d.scope⟩::fs,by simp [e1],by simp [e2],λf hf=>?_⟩
  rcases Uh.mp hf with rfl | hf
  ·exact⟨h1,o,pm,code,doc,h2,h3,h4⟩
  ·exact e3 f hf
noncomputable def nK:Value->Option Addr
 | .ref a=>some a
 | _=>none
theorem pM {v:Value} {a:Addr} (h:nK v=some a):v=.ref a:=by
 cases v <;> first | exact no h | exact congrArg _ (sm h)
noncomputable def D6:Data->Option FuncData
 | .func fd=>some fd
 | _=>none
theorem yc {v:Data} {a:FuncData} (h:D6 v=some a):v=.func a:=by
 cases v <;> first | exact no h | exact congrArg _ (sm h)
noncomputable def Kf:Data->Option ClassData
 | .cls c=>some c
 | _=>none
theorem x9 {v:Data} {a:ClassData} (h:Kf v=some a):v=.cls a:=by
 cases v <;> first | exact no h | exact congrArg _ (sm h)
noncomputable def HP:Data->Option (Array Value)
 | .fields vs=>some vs
 | _=>none
noncomputable def Ke:FuncBody->Option (List Stmt)
 | .stmts b=>some b
 | _=>none
theorem x8 {v:FuncBody} {a:List Stmt} (h:Ke v=some a):v=.stmts a:=by
 cases v <;> first | exact no h | exact congrArg _ (sm h)
noncomputable def Kc:Stmt->Option (Expr×Expr)
 | .Assign ts v _=>(lh ts).bind λt=>some (t,v)
 | _=>none
set_option tactic.hygienic true in
theorem xZ {st:Stmt} {t v:Expr} (h:Kc st=some (t,v)):∃ p,st=.Assign [t] v p:=by
 cases st <;> first | exact no h | skip
 rename_i ts v' p
 refine aT h λt' h1 h2=>?_
 apply cU h2
 apply aV (bZ h1)
 exact⟨p,rfl⟩
noncomputable def Kd:Expr->Option (Expr×Str)
 | .Attribute o a _=>some (o,a)
 | _=>none
theorem x7 {e o:Expr} {a:Str} (h:Kd e=some (o,a)):∃ p,e=.Attribute o a p:=by
 cases e <;> first | exact no h | skip
 apply cU h
 exact⟨_,rfl⟩
noncomputable def v6 (h:Heap) (mv:Option Value):Option Addr:=mv.bind λv=>(nK v).bind λa=>(h.get? a).bind λo=>(D6 o.data).bind λfd=>(nK fd.code).bind λc=>(h.get? c).bind λoc=>(HP oc.data).bind λvs=>(vs[11]?).bind nK
theorem v7 {h h':Heap} {mv:Option Value} {P:Addr} (x:v6 h mv=some P) (hk:∀ b o,h.get? b=some o->h'.get? b=some o):v6 h' mv=some P:=by
 refine aT x λv h1 x=>?_
 refine aT x λa h2 x=>?_
 refine aT x λo h3 x=>?_
 refine aT x λfd h4 x=>?_
 refine aT x λc h5 x=>?_
 refine aT x λoc h6 x=>?_
 unfold v6
 rw[h1];simp only[VW]
 rw[h2];simp only[VW]
 rw[hk _ _ h3];simp only[VW]
 rw[h4];simp only[VW]
 rw[h5];simp only[VW]
 rw[hk _ _ h6];exact x
noncomputable def lq (h:Heap) (mg:Str->Option Value):List DefRec->Option (List Addr)
 | []=>some []
 | d::r=>(v6 h (mg d.name)).bind λP=>(lq h mg r).bind λPs=>some (P::Ps)
theorem mG {h h':Heap} {mg:Str->Option Value} (hk:∀ b o,h.get? b=some o->h'.get? b=some o):∀ {l:List DefRec} {Ps:List Addr},lq h mg l=some Ps->lq h' mg l=some Ps
 | [],Ps,x=>x
 | d::r,Ps,x=>by
  refine aT x λP h1 x=>?_
  refine aT x λQs h2 x=>?_
  show (v6 h' (mg d.name)).bind _=_
  rw[v7 h1 hk]
  show (lq h' mg r).bind _=_
  rw[mG hk h2]
  exact x
theorem jr {h:Heap} {mg:Str->Option Value}:∀ {l:List DefRec} {Ps:List Addr},lq h mg l=some Ps->Ps.length=l.length/\∀ (i:Nat) (d:DefRec),l[i]? = some d->∃ P,Ps[i]? = some P/\v6 h (mg d.name)=some P
 | [],Ps,x=>by
  apply dE x
  exact⟨rfl,λi d e=>by simp at e⟩
 | d::r,Ps,x=>by
  refine aT x λP h1 x=>?_
  refine aT x λQs h2 x=>?_
  apply dE x
  refine aR (jr h2) λk1 k2=>?_
  refine⟨by simp [k1],λi d' e=>?_⟩
  cases i with
  | zero =>
   apply ez (Option.some.inj e)
   exact⟨P,rfl,h1⟩
  | succ i=>exact k2 i d' e
theorem b1 {a b:Bool} (h:(a&&b)=true):a=true:=(Up.mp h).1
theorem b2 {a b:Bool} (h:(a&&b)=true):b=true:=(Up.mp h).2
theorem nb {a:Bool} (h:(!a)=true):a=false:=by cases a;rfl;cases h
theorem Fa {o:Obj} {c:Value} {dt:Data} {sl:Array (Option Value)} (h1:o.cls=c) (h2:o.dict=none) (h3:o.data=dt) (h4:o.slots=sl):o={cls:=c,dict:=none,data:=dt,slots:=sl}:=by
 cases o;cases h1;cases h2;cases h3;cases h4;rfl
theorem HZ {cd:ClassData} {mro:List Value} (h1:cd.mro=mro) (h2:cd.hasDict=true) (h3:cd.slotNames=[]) (h4:cd.abstract=false) (h5:cd.collection=none) (h6:cd.hasDel=false):cd={name:=cd.name,bases:=cd.bases,mro:=mro,ns:=cd.ns,qualname:=cd.qualname,hasDict:=true,slotNames:=[],subclasses:=cd.subclasses,abstract:=false,collection:=none,hasDel:=false}:=by
 cases cd;cases h1;cases h2;cases h3;cases h4;cases h5;cases h6;rfl
theorem za {sl:Array (Option Value)} {v:Option Value} (h1:sl.size=6) (h2:sl[4]? = some v):∃ k0 k1 k2 k3 k5,sl=#[k0,k1,k2,k3,v,k5]:=by
 obtain ⟨l⟩:=sl
 refine lB (six_places (l:=l) (by simpa using h1) (by simpa using h2)) λk0 k1 k2 k3 k5 q6=>?_;apply aV q6
 exact⟨k0,k1,k2,k3,k5,rfl⟩
theorem ND {a b c d:Bool} {C:Prop} (h:(a&&(b&&(c&&d)))=true) (k:a=true->b=true->c=true->d=true->C):C:=k (b1 h) (b1 (b2 h)) (b1 (b2 (b2 h))) (b2 (b2 (b2 h)))
theorem Kk {a b c d e:Bool} {C:Prop} (h:(a&&(b&&(c&&(d&&e))))=true) (k:a=true->b=true->c=true->d=true->e=true->C):C:=ND h λx y z w=>k x y z (b1 w) (b2 w)
noncomputable def H1 (h:Heap) (tl:List Value) (C:Addr) (o:Obj) (cd:ClassData):Bool:=o.cls==.type "type" && (o.dict.isNone&&(o.slots.size==6&&(o.slots[4]? == some (some (.builtin "ValueError.__new__"))&&(cd.mro==.ref C::tl&&(cd.hasDict&&(cd.slotNames.isEmpty&&(!cd.abstract&&(cd.collection.isNone&&(!cd.hasDel&&(h.isNs cd.ns&&(h.nsKeys cd.ns).all ge.contains))))))))))
noncomputable def Ej (h:Heap) (mv:Option Value) (tl:List Value):Option (Addr×Addr):=mv.bind λv=>(nK v).bind λC=>(h.get? C).bind λo=>(Kf o.data).bind λcd=>if H1 h tl C o cd then some (C,cd.ns) else none
theorem Ei {h:Heap} {tl:List Value} {C:Addr} {o:Obj} {cd:ClassData} (c1:H1 h tl C o cd=true) (ho:h.get? C=some o) (hd:o.data=.cls cd):fy h C tl (h.nsMap cd.ns)/\h.isNs cd.ns=true:=by
 unfold H1 at c1
 refine Kk c1 λd1 d2 d3 d4 r=>Kk r λd5 d6 d7 d8 r=>ND r λd9 NJ MG NK=>?_
 refine lB (za (beq_iff_eq.mp (d3)) (beq_iff_eq.mp (d4))) λk0 k1 k2 k3 k5 sZ=>?_
 have lU:=HZ (beq_iff_eq.mp (d5)) (d6) (UQ.mp (d7)) (nb (d8)) (VF.mp (d9)) (nb (NJ))
 have SZ:=Fa (beq_iff_eq.mp (d1)) (VF.mp (d2)) (hd.trans (congrArg _ lU)) sZ
 refine⟨⟨⟨cd.ns,cd.name,cd.qualname,cd.bases,cd.subclasses,k0,k1,k2,k3,k5,ho.trans (congrArg some SZ),.of_isNs (MG)⟩,λn hn=>Heap.nsMap_none λhm=>hn ?_⟩,MG⟩
 simpa using Vs.mp (NK) n hm
theorem lP {h:Heap} {mv:Option Value} {tl:List Value} {C N:Addr} (x:Ej h mv tl=some (C,N)):mv=some (.ref C)/\fy h C tl (h.nsMap N)/\h.isNs N=true:=by
 refine aT x λv h1 x=>?_
 refine aT x λC' h2 x=>?_
 refine aT x λo h3 x=>?_
 refine aT x λcd h4 x=>?_
 refine dL x λhc x=>?_
 apply cU x
 exact⟨h1.trans (congrArg some (pM h2)),Ei hc h3 (x9 h4)⟩
noncomputable abbrev Nm:=Addr×Obj×FuncData×Str×Str×Str×Arg×Arg
noncomputable def G1 (h:Heap) (mv:Option Value):Option Nm:=mv.bind λv=>(nK v).bind λf=>(h.get? f).bind λo=>(D6 o.data).bind λfd=>(Ke fd.body).bind λb=>(lh b).bind λst=>(Kc st).bind λq=>(Kd q.1).bind λr=>(cS r.1).bind λx=>(cS q.2).bind λy=>(two fd.params.args).bind λa=>some (f,o,fd,x,r.2,y,a)
theorem vq {h:Heap} {mv:Option Value} {p:Nm} {C:Prop} (z:G1 h mv=some p) (k:mv=some (.ref p.1)->h.get? p.1=some p.2.1->p.2.1.data=.func p.2.2.1->(∃ p1 p2 p3 p4,p.2.2.1.body=.stmts [.Assign [.Attribute (.Name p.2.2.2.1 p1) p.2.2.2.2.1 p2] (.Name p.2.2.2.2.2.1 p3) p4])->p.2.2.1.params.args=[p.2.2.2.2.2.2.1,p.2.2.2.2.2.2.2]->C):C:=by
 refine aT z λv h1 z=>?_
 refine aT z λf h2 z=>?_
 refine aT z λo h3 z=>?_
 refine aT z λfd h4 z=>?_
 refine aT z λb h5 z=>?_
 refine aT z λst h6 z=>?_
 refine xq z λt v' h7 z=>?_
 refine xq z λQZ O h8 z=>?_
 refine aT z λx h9 z=>?_
 refine aT z λy Ql z=>?_
 refine aT z λa Ry z=>?_
 rw[<-sm z] at k
 dsimp only at h8 h9 Ql
 refine N' (xZ h7) λp1 e7=>?_
 refine N' (x7 h8) λp2 e8=>?_
 refine N' (bq h9) λp3 e9=>?_
 refine N' (bq Ql) λp4 Ro=>?_
 exact k (h1.trans (congrArg some (pM h2))) h3 (yc h4) ⟨p3,p2,p4,p1,(x8 h5).trans (by rw[bZ h6,e7,e8,e9,Ro])⟩ (g8 Ry)
noncomputable def G0 (h:Heap) (p:Nm):Bool:=p.2.1.cls==.type "function" && (p.2.2.2.1==("self" : Str)&&(p.2.2.2.2.1==("word" : Str)&&(p.2.2.2.2.2.1==("word" : Str)&&(cO p.2.2.1.params&&(p.2.2.2.2.2.2.1.arg==("self" : Str)&&(p.2.2.2.2.2.2.2.arg==("word" : Str)&&(decide (p.2.2.1.scope.names=[(("self" : Str),NameKind.local),(("word" : Str),NameKind.local)]) &&
  (p.2.2.1.scope.kind==.function&&(!p.2.2.1.scope.isGenerator&&(!p.2.2.1.scope.isCoroutine&&(p.2.2.1.globals==mainGlobals&&(p.2.2.1.closure.isEmpty&&(p.2.2.1.defaults==.none&&(p.2.2.1.builtins==builtinsNs&&h.codeRecOk p.2.2.1.code p.2.2.1.qualname))))))))))))))
noncomputable def G2 (h:Heap) (mv:Option Value):Option Unit:=(G1 h mv).bind λp=>if G0 h p then some () else none
theorem vt {h:Heap} {mv:Option Value} (z:G2 h mv=some ()):∃ f,mv=some (.ref f)/\gm h f:=by
 refine aT z λp h0 z=>?_
 have c1:=(cy z).1
 clear z
 refine vq h0 λh1 h2 h3 h4 h5=>⟨p.1,h1,?_⟩
 obtain ⟨f,o,fd,x,n,y,a1,a2⟩:=p
 dsimp only at h2 h3 h4 h5 c1
 unfold G0 at c1
 refine Kk c1 λd1 d2 d3 d4 r=>Kk r λd5 d6 d7 d8 r=>Kk r λd9 NJ MG NK r=>ND r λRj Rk Rl Rm=>?_
 have hp:=je d5
 rw[h5] at hp
 have e1:x=("self" : Str):=beq_iff_eq.mp d2
 have e2:n=("word" : Str):=beq_iff_eq.mp d3
 have e3:y=("word" : Str):=beq_iff_eq.mp d4
 rw[e1,e2,e3] at h4
 exact⟨o,fd,a1,a2,h2,⟨beq_iff_eq.mp d1,h3,h4,hp,beq_iff_eq.mp d6,beq_iff_eq.mp d7,of_decide_eq_true d8,beq_iff_eq.mp d9,nb NJ,nb MG,beq_iff_eq.mp NK,UQ.mp Rj,beq_iff_eq.mp Rk,beq_iff_eq.mp Rl⟩,.of_ok Rm⟩
structure XC (mg:Str->Option Value) (h:Heap) (C0 C1 C2:Addr) (m0 m1 m2:Str->Option Value) (f:Addr):Prop where
 n0:mg ("LarderError" : Str)=some (.ref C0)
 n1:mg ("TooMuch" : Str)=some (.ref C1)
 n2:mg ("Short" : Str)=some (.ref C2)
 c0:fy h C0 iV m0
 c1:fy h C1 (.ref C0::iV) m1
 c2:fy h C2 (.ref C0::iV) m2
 i0:m0 ("__init__" : Str)=some (.ref f)
 i:gm h f
 j1:m1 ("__init__" : Str)=none
 j2:m2 ("__init__" : Str)=none
 q:C1≠C2/\C1≠C0/\C2≠C0
structure XE (q:Program) (mg:Str->Option Value) (h:Heap):Prop where
 tabs:∃ Ps,lq h mg (recsOf q)=some Ps/\Ps.Nodup
 exc:∃ C0 C1 C2 m0 m1,∃ m2 f,XC mg h C0 C1 C2 m0 m1 m2 f
theorem XE.keeps {q:Program} {mg:Str->Option Value} {h h':Heap} (X:XE q mg h) (hk:∀ b o,h.get? b=some o->h'.get? b=some o):XE q mg h' :=
 ⟨aB X.tabs λPs h1 h2=>⟨Ps,mG hk h1,h2⟩,lB X.exc λC0 C1 C2 m0 m1 k=>nW k λm2 f x=>⟨C0,C1,C2,m0,m1,m2,f,x.n0,x.n1,x.n2,x.c0.keeps hk,x.c1.keeps hk,x.c2.keeps hk,x.i0,x.i.keeps hk,x.j1,x.j2,x.q⟩⟩
noncomputable def T9 (q:Program) (h:Heap):Option Unit:=(Ej h (h.nsMap mainGlobals ("LarderError" : Str)) iV).bind λp0=>(Ej h (h.nsMap mainGlobals ("TooMuch" : Str)) (.ref p0.1::iV)).bind λp1=>(Ej h (h.nsMap mainGlobals ("Short" : Str)) (.ref p0.1::iV)).bind λp2 =>
 (G2 h (h.nsMap p0.2 ("__init__" : Str))).bind λz=>(lq h (h.nsMap mainGlobals) (recsOf q)).bind λPs=>if (h.nsMap p1.2 ("__init__" : Str)).isNone&&(h.nsMap p2.2 ("__init__" : Str)).isNone&&p1.1 != p2.1&&p1.1 != p0.1&&p2.1 != p0.1&&decide Ps.Nodup then some () else none
noncomputable def Q4 (q:Program) (s:Shared):Bool:=(T9 q s.heap).isSome
theorem Q5 {q:Program} {s:Shared} (x:Q4 q s=true):XE q (s.heap.nsMap mainGlobals) s.heap:=by
 refine N' (Vr.mp x) λu x=>?_
 refine xq x λC0 N0 h0 x=>?_
 refine xq x λC1 N1 h1 x=>?_
 refine xq x λC2 N2 h2 x=>?_
 refine aT x λz h3 x=>?_
 refine aT x λPs h4 x=>?_
 refine dL x λhc z=>?_
 simp only[Uv,VF,bne_iff_ne,ne_eq,decide_eq_true_eq] at hc
 obtain ⟨⟨⟨⟨⟨c1,c2⟩,c3⟩,c4⟩,c5⟩,c6⟩:=hc
 refine iK (lP h0) λa1 a2 z=>?_
 refine iK (lP h1) λb1 b2 z=>?_
 refine iK (lP h2) λd1 d2 z=>?_
 refine aB (vt h3) λf e1 e2=>?_
 exact⟨⟨Ps,h4,c6⟩,C0,C1,C2,_,_,_,f,a1,b1,d1,a2,b2,d2,e1,e2,c1,c2,c3,c4,c5⟩
theorem FG {h:Heap} {mv:Option Value} {a c P:Addr} {o:Obj} {fd:FuncData} (x1:mv=some (.ref a)) (x2:h.get? a=some o) (x3:o.data=.func fd) (x4:fd.code=.ref c) (x6:h.TableAt c P #[]):v6 h mv=some P:=by
 obtain ⟨⟨oo,ws,z1,z2,z3,z4⟩,z5⟩:=x6
 have e1:(HP oo.data).bind (λvs=>(vs[11]?).bind nK)=some P:=by
  rw[z3]
  show (ws[11]?).bind nK=_
  rw[z4];rfl
 have e2:(D6 o.data).bind (λfd=>(nK fd.code).bind λc=>(h.get? c).bind λoc=>(HP oc.data).bind λvs=>(vs[11]?).bind nK)=some P:=by
  rw[x3]
  show (nK fd.code).bind _=_
  rw[x4]
  show (h.get? c).bind _=_
  rw[z1];exact e1
 rw[x1]
 show (h.get? a).bind _=_
 rw[x2];exact e2
noncomputable def Kq (C0 C1 C2:Addr) (n:Nat):Addr:=if n=0 then C0 else if n=1 then C1 else C2
noncomputable def eN (l:List DefRec) (Ps:List Addr):List (Str×Addr):=(l.map (λd=>(d.name ++ ".<locals>." : Str))).zip Ps
structure xU (h:Heap) (Ps:List Addr):Prop where
 at_:∀ P∈Ps,h.get? P=some {cls:=.none,data:=.fields #[]}/\isCodeTable h P
theorem xU.up {h:Heap} {Ps:List Addr} (KE:xU h Ps) (b:Addr) (o:Obj) (e:h.get? b=some o) (hd:o.data≠.fields #[]):(hideAll h Ps).get? b=some o :=
 hideAll_get Ps e λhm=>hd (by rw[Option.some.inj (e.symm.trans (KE.at_ b hm).1)])
theorem xU.ns {h:Heap} {Ps:List Addr} (KE:xU h Ps) {a:Addr} {m:Str->Option Value} (x:h.Ns a m):(hideAll h Ps).Ns a m :=
 qU x λo es ep e hd r=>⟨o,es,ep,KE.up _ _ e (by rw[hd];exact λq=>nomatch q),hd,r⟩
theorem xU.cdr {h:Heap} {Ps:List Addr} (KE:xU h Ps) {cd:Value} {q:Str} (x:h.CodeRec cd q):(hideAll h Ps).CodeRec cd q:=by
 obtain ⟨c,o,vs,t,y1,y2,y3,y4⟩:=x
 refine⟨c,o,vs,t,y1,KE.up _ _ y2 ?_,y3,y4⟩
 rw[y3];intro q';injection q' with q';subst q';simp at y4
theorem xU.cls {h:Heap} {Ps:List Addr} (KE:xU h Ps) {C:Addr} {tl:List Value} {mN:Str->Option Value} (x:fy h C tl mN):fy (hideAll h Ps) C tl mN :=
 ⟨lB x.obj λN O q bs sub k=>qV k λk0 k1 k2 k3 k5 hC hn=>⟨N,O,q,bs,sub,k0,k1,k2,k3,k5,KE.up _ _ hC (λq=>nomatch q),KE.ns hn⟩,x.quiet⟩
theorem xU.init {h:Heap} {Ps:List Addr} (KE:xU h Ps) {f:Addr} (x:gm h f):gm (hideAll h Ps) f :=
 ⟨AU x.ex λo fd a1 a2 ho IO lU=>⟨o,fd,a1,a2,KE.up _ _ ho (by rw[IO.data];exact λq=>nomatch q),IO,KE.cdr lU⟩⟩
structure F8 (mg:Str->Option Value) (h:Heap) (Ps:List Addr) (n:Str) (k:Nat) (a:Addr) (o:Obj) (fd:FuncData) (c P:Addr):Prop where
 O:mg n=some (.ref a)
 ho:h.get? a=some o
 hd:o.data=.func fd
 hc:fd.code=.ref c
 is:h.IsCode c P #[]
 ta:h.TableAt c P #[]
 pk:Ps[k]? = some P
theorem Db {p:Program} {loose:List Str} {oE:ExcName->Option Value} {mg mb:Str->Option Value} {h:Heap} (T:Top p loose oE mg mb h) {Ps:List Addr} (t1:lq h mg (recsOf p)=some Ps) (k:Nat) (d:DefRec) (hd:(recsOf p)[k]? = some d):∃ a o fd c P,F8 mg h Ps d.name k a o fd c P:=by
 obtain ⟨a,o,fd,c,P,x1,x2,x3,x4,x5,x6⟩:=T.tab d (Ui hd)
 refine aB ((jr t1).2 k d hd) λP' y1 y2=>?_
 rw[Option.some.inj (y2.symm.trans (FG x1 x2 x3 x4 x6))] at y1
 exact⟨a,o,fd,c,P,x1,x2,x3,x4,x5,x6,y1⟩
theorem Il {p:Program} {loose:List Str} {oE:ExcName->Option Value} {mg mb:Str->Option Value} {h:Heap} (T:Top p loose oE mg mb h) {Ps:List Addr} (t1:lq h mg (recsOf p)=some Ps):xU h Ps:=⟨λP hP=>by
 refine N' (List.getElem_of_mem hP) λk q=>N' q λhk e=>?_
 have sV:k<(recsOf p).length:=(jr t1).1 ▸ hk
 refine lB (Db T t1 k _ (Ue sV)) λa o fd c P' x=>?_
 have q:P'=P:=by
  have:=x.pk
  rw[Ue hk,e] at this
  exact (Option.some.inj this).symm
 rw[<-q]
 exact⟨x.ta.2,x.ta.isCodeTable⟩⟩
theorem Ct {p:Program} {loose:List Str} {oE:ExcName->Option Value} {mg mb:Str->Option Value} {h:Heap} (T:Top p loose oE mg mb h) (hf:u6 p loose=true) (x:Str) (hx:x∈dO):mg x=none/\mb x=bootBuiltins x:=by
 have:=Vs.mp hf x hx
 simp only[Uv,Vh,List.contains_eq_mem,decide_eq_false_iff_not,bne_iff_ne,ne_eq] at this
 obtain ⟨⟨⟨⟨⟨h1,h2⟩,h3⟩,h4⟩,h5⟩,h6⟩:=this
 exact⟨T.free x h1 h2 h3 h4 h5,T.builtins x h6⟩
set_option tactic.hygienic true in
theorem consts_of {p:Program} {loose:List Str} {oE:ExcName->Option Value} {mg mb:Str->Option Value} {h:Heap} (T:Top p loose oE mg mb h) {consts:List (Str×Int)} (hc:constsOk p consts=true) (x:Str) (i:Int) (hx:consts.lookup x=some i):∃ t,mg x=some (.int i t):=by
 have:=Vs.mp hc _ (mem_of_lookup hx)
 dsimp only at this
 split at this
 ·rename_i j hj
  have sU:i=j:=by simpa using this
  apply aV sU
  refine aB (T.const x _ hj) λv h1 h2=>?_
  have:=h2 h
  cases this
  exact⟨_,h1⟩
 ·cases this
theorem xU.tabC {mg:Str->Option Value} {h:Heap} {Ps:List Addr} (KE:xU h Ps) {l:List DefRec} {d:DefRec} {k:Nat} (hd:l[k]? = some d) {a:Addr} {o:Obj} {fd:FuncData} {c P:Addr} (x:F8 mg h Ps d.name k a o fd c P) (hq:fd.qualname=d.name) {prog:Program} {w:World} {cl:Nat->Addr}:HI ⟨prog,w,hideAll h Ps,[],eN l Ps,cl⟩ (fd.qualname ++ ".<locals>.") fd.code:=by
 refine⟨k,c,P,h,?_,x.hc,x.is,x.ta,λo ho=>KE.up _ _ ho ?_⟩
 ·show (eN l Ps)[k]? = _
  unfold eN
  rw[W3]
  refine⟨?_,x.pk⟩
  rw[Um,hd,hq];rfl
 ·obtain ⟨⟨oo,ws,z1,z2,z3,z4⟩,z5⟩:=x.ta
  rw[<-Option.some.inj (z1.symm.trans ho),z3];intro q';injection q' with q';subst q';simp at z4
theorem FK {p prog:Program} {w:World} {loose:List Str} {oE:ExcName->Option Value} {mg mb:Str->Option Value} {h:Heap} (T:Top p loose oE mg mb h) (X:XE p mg h) (hi:importsNone p=true) (consts:List (Str×Int)) (calm:List Nat) (hc:constsOk p consts=true) (hf:u6 p loose=true) :
  ∃ fs Ps C0 C1 C2,er ⟨prog,w,hideAll h Ps,[],eN (recsOf p) Ps,Kq C0 C1 C2⟩ (sE p consts calm) fs mg mb/\fs.map (λf=>(f.params,f.scope,f.body))=(recsOf p).map (λd=>(d.params,d.scope,d.body))/\Ps.Nodup/\Ps.length=(recsOf p).length /\
   ∀ P∈Ps,h.get? P=some {cls:=.none,data:=.fields #[]}/\isCodeTable h P:=by
 refine ew (A6 (recsOf p) T.fn) λfs e1 e2 e3=>aB X.tabs λPs t1 t2=>lB X.exc λC0 C1 C2 m0 m1 k=>nW k λm2 f x=>?_
 have KE:=Il T t1
 refine⟨fs,Ps,C0,C1,C2,⟨KE.ns T.g,KE.ns T.b,aB T.nolimit λmc h1 h2=>⟨mc,KE.ns h1,h2⟩,aB ((T.seer hi).mods) λmm hm z=>mQ (KE.ns hm) λo z z ho z=>⟨o,ho⟩,Ct T hf,consts_of T hc,e1,λf hf=>?_,?_,⟨x.n0,x.n1,x.n2,⟨m0,f,KE.cls x.c0,x.i0,KE.init x.i⟩,⟨m1,KE.cls x.c1,x.j1⟩,⟨m2,KE.cls x.c2,x.j2⟩,x.q⟩,λf hf o fd ho hd=>?_⟩,e2,t2,(jr t1).1,KE.at_⟩
 ·obtain ⟨h1,o,pm,cd,doc,h2,h3,h4⟩:=e3 f hf
  exact⟨h1,o,pm,cd,doc,KE.up _ _ h2 (by rw[h3];exact λq=>nomatch q),h3,KE.cdr h4⟩
 ·obtain ⟨bm,QZ,b1,b2,b3,b4,b5,b6⟩:=T.bmain
  exact⟨bm,QZ,b1,b2,KE.up _ _ b3 (by rw[b6];exact λq=>nomatch q),b4,b5,b6⟩
 ·refine N' (Yy hf) λk hk=>?_
  have GH:(fs.map (·.name))[k]? = some f.name:=by rw[Um,hk];rfl
  rw[e1,Um,Vi] at GH
  refine aB GH λd i7 MN=>lB (Db T t1 k d i7) λa o' Ru c P y=>?_
  obtain ⟨y1,o2,pm,cd,doc,y2,y3,y4⟩:=e3 f hf
  have ha:f.addr=a:=by
   have:=y.O
   rw[MN,y1] at this
   exact Value.ref.inj (Option.some.inj this)
  have kM:=of_hideAll Ps ho
  have eo:o'=o:=Option.some.inj (y.ho.symm.trans (ha ▸ kM))
  have ef:Ru=fd:=Data.func.inj (y.hd.symm.trans (eo ▸ hd))
  rw[ef] at y
  refine KE.tabC i7 y ?_
  have:=(hd.symm.trans (congrArg Obj.data (Option.some.inj (kM.symm.trans y2)))).trans y3
  rw[Data.func.inj this]
  exact MN.symm
theorem Jd {h h':Heap} {Ps:List Addr} (hk:∀ b o,h.get? b=some o->b∉Ps->h'.get? b=some o) (hP:∀ P∈Ps,h.get? P=some {cls:=.none,data:=.fields #[]}/\isCodeTable h P) (hQ:∀ P∈Ps,∃ vs,h'.get? P=some {cls:=.none,data:=.fields vs}):OldK h h':=by
 refine⟨λb o e=>?_,λb o e=>?_⟩
 ·by_cases hb:b∈Ps
  ·refine aR (hP b hb) λh1 h2=>?_
   refine N' (hQ b hb) λvs h3=>?_
   apply ez (Option.some.inj (h1.symm.trans e))
   exact .inr (.inl ⟨h2,rfl,#[],vs,rfl,by rw[h3];simp⟩)
  ·exact .inl (hk b o e hb)
 ·by_cases hb:b∈Ps
  ·refine N' (hQ b hb) λvs h3=>?_
   exact⟨_,h3⟩
  ·exact⟨o,hk b o e hb⟩
theorem law_run {p prog:Program} {w:World} {loose:List Str} {oE:ExcName->Option Value} {mg mb:Str->Option Value} {s:Shared} (T:Top p loose oE mg mb s.heap) (X:XE p mg s.heap) (hi:importsNone p=true) (consts:List (Str×Int)) (calm:List Nat) (hc:constsOk p consts=true) (hf:u6 p loose=true)
  {P:List bj} (hP:(recsOf p).map (λd=>uQ (sE p consts calm) d.params d.scope d.body)=P.map some) (R4:∀ k∈calm,∃ d cf,(recsOf p)[k]? = some d/\P[k]? = some cf/\cX (DC (sE p consts calm) d.scope (cZ d.scope) 200) d.body=some cf.body) {k:Nat} {name:Str} (hk:((recsOf p).map (·.name))[k]? = some name) {fa:Addr} (OO:mg name=some (.ref fa)) {a:Addr} {vs:List Value} {ns:List Int} (hl:s.heap.IsList a vs.toArray) (hz:ns.length<=ar+1) (hv:IntsAre vs ns)
  {d:Nat} (hd:d<=100) (h:∀ H,∃ af,az P d k [.ro ns] H=some (.ok (.bool true),af)) {E:Value->Shared->Prop} {Q:Value->Shared->Prop} (hQ:∀ s',OldK s.heap s'.heap->s'.gens=s.gens->s'.os=s.os->Q (.bool true) s') :
  wpAny (model prog w) callerA (PySem.call (.ref fa) [.ref a]) Q E s:=by
 refine Rs (FK (prog:=prog) (w:=w) T X hi consts calm hc hf) λfs Ps C0 C1 C2 G K4 Bn cm hT=>?_
 have Ho:∀ (k:Nat) (fn:Fn),fs[k]? = some fn->∃ dr,(recsOf p)[k]? = some dr/\dr.params=fn.params/\dr.scope=fn.scope/\dr.body=fn.body:=λk fn kK=>by
  have h1:(fs.map (λf=>(f.params,f.scope,f.body)))[k]? = some (fn.params,fn.scope,fn.body):=by simp [kK]
  rw[K4,Um,Vi] at h1
  refine aB h1 λdr KY e=>?_
  injection e with e1 e
  injection e with e2 e3
  exact⟨dr,KY,e1,e2,e3⟩
 have RW:∀ (k:Nat) (fn:Fn),fs[k]? = some fn->∃ cf,P[k]? = some cf/\uQ (sE p consts calm) fn.params fn.scope fn.body=some cf:=λk fn kK=>by
  refine qT (Ho k fn kK) λdr KY e1 e2 e3=>?_
  have h2:((recsOf p).map (λd=>uQ (sE p consts calm) d.params d.scope d.body))[k]? = some (uQ (sE p consts calm) dr.params dr.scope dr.body):=by simp [KY]
  rw[hP,Um,Vi] at h2
  refine aB h2 λcf wT e4=>?_
  exact⟨cf,wT,by rw[<-e1,<-e2,<-e3];exact e4.symm⟩
 have RZ:∀ k∈(sE p consts calm).calm,∀ fn cf,fs[k]? = some fn->P[k]? = some cf->cX (DC (sE p consts calm) fn.scope (cZ fn.scope) 200) fn.body=some cf.body:=λk z9 fn cf kK wT=>by
  refine kF (R4 k z9) λd' Rh h1 h2 h3=>?_
  refine qT (Ho k fn kK) λdr KY e1 e2 e3=>?_
  obtain rfl:=Option.some.inj (h1.symm.trans KY)
  obtain rfl:=Option.some.inj (h2.symm.trans wT)
  rw[<-e2,<-e3];exact h3
 have c1:callerA.depth<=500:=by decide
 have c2:callerA.units<=500:=by decide
 have hA:hW callerA d:=⟨rfl,(by exact jL (y3 0xc02589210b00649010b01f49112ba012 rfl (iL hd) (iL c1) (iA _ _))),by lia⟩
 have kK:∃ fn,fs[k]? = some fn/\fn.name=name:=by
  rw[show (recsOf p).map (·.name)=fs.map (·.name) from G.names.symm,Um,Vi] at hk
  exact hk
 refine aB kK λfn kK Lm=>?_
 have KM:fn.addr=fa:=by
  have:=(G.made fn (Ui kK)).1
  rw[Lm,OO] at this
  injection this with this;injection this with this;exact this.symm
 have Mn:(eN (recsOf p) Ps).length=Ps.length:=by unfold eN;simp [cm]
 have Js:∀ (j:Nat) (q:Str) (P:Addr),(eN (recsOf p) Ps)[j]? = some (q,P)->Ps[j]? = some P:=λj q P hj=>by
  unfold eN at hj
  rw[W3] at hj
  exact hj.2
 have R:ak ⟨prog,w,hideAll s.heap Ps,[],eN (recsOf p) Ps,Kq C0 C1 C2⟩ Ps ((eN (recsOf p) Ps).map λt=>.tab t.1) s.heap:=by
  refine⟨λb o e=>of_hideAll Ps e,λa ha=>hideAll_none Ps ha,by rw[A',Mn],Bn,λi a m h1 h2=>?_,λj q P hj=>⟨Js j q P hj,by rw[Um,hj];rfl⟩⟩
  rw[Um,Vi] at h2
  obtain ⟨⟨q,P⟩,h2,rfl⟩:=h2
  apply aV (Option.some.inj ((Js i q P h2).symm.trans h1))
  exact .tab (hT _ (Ui h1)).1 trivial λpos cv e=>nomatch e
 have fT:(hideAll s.heap Ps).IsList a vs.toArray:=by
  refine ew hl λo e dK i7=>?_
  refine⟨o,hideAll_get Ps e λhm=>?_,dK,i7⟩
  have:=(hT a hm).1
  rw[e] at this;cases this;cases dK
 refine N' (h ((eN (recsOf p) Ps).map λt=>.tab t.1)) λaf IC=>?_
 have:=(ze G RW RZ d [] callerA hA rfl).1 k [.ro ns] _ (.bool true) af IC fn kK Ps s [.ref a] R (λz hf=>nomatch hf) (.one (.ro fT hz hv)) E
 rw[KM] at this
 refine wpAny_mono this (λv s' hp=>?_) λz z x=>x
 obtain ⟨aO,S,R',V',T'⟩:=hp
 cases V'
 refine hQ s' (Jd (λb o e hb=>R'.base b o (hideAll_get Ps e hb)) hT λP hP=>?_) T'.1 T'.2.2
 refine N' (Yy hP) λj hj=>?_
 have Io:j<(eN (recsOf p) Ps).length:=by rw[Mn];exact (J'.mp hj).1
 obtain ⟨⟨q,P'⟩,hq⟩:∃ t,(eN (recsOf p) Ps)[j]? = some t:=⟨_,Ue Io⟩
 apply ez (Option.some.inj ((Js j q P' hq).symm.trans hj))
 refine aR (R'.tabs j q P' hq) λk1 k2=>?_
 cases R'.objs j P' _ k1 k2 with
 | tab h1 _ _=>exact⟨_,h1⟩
theorem E3 {p q:Program} {loose:List Str} {Xt:Shared->Bool} {α:Type} {Yf:Shared->α} {Ya:World->α} {N:Nat} {g0:Bool}
  (e:opening p=plainProg p.main.scope.names) (hN:Nat.ble 600 N=true) (f:∀ s,fenceModules? p s=some s)
  (run:∀ w os,(topFrom treeTable p w N ⟨boot_heap w.params,Array.mk [],boot_drawn,boot_toks,os⟩).map (λs=>(openSeen q loose (importedModules p.main.body) Xt g0 s,Yf s))=some (openGood q loose,Ya w)) :
  LeftO p q loose Xt Yf Ya N g0:=λw=>by
 obtain ⟨⟨h,gs,d,k,os⟩,e,e'⟩:=Vi.mp (boot_open e hN f w)
 obtain ⟨rfl,rfl,rfl,rfl⟩:h=boot_heap w.params/\gs=Array.mk []/\d=boot_drawn/\k=boot_toks:=by
  injection e' with e1 e';injection e' with e2 e';injection e' with e3 e4;exact⟨e1,e2,e3,e4⟩
 unfold openEnds
 rw[e]
 exact run w os
theorem Jv {p q:Program} {loose L4:List Str} {w:World} {N:Nat} {s:Shared} {Xt:Shared->Bool} {g0:Bool} {α:Type} {Yf:Shared->α} :
  (topFrom treeTable p w N s).map (λs=>(openSeen q loose L4 Xt g0 s,Yf s)) =
  (match s.heap.isNs mainGlobals&&s.gens.size==0 with
  | true=>(PySem.W.Fast.tw14082659384304107361 PySem.W.Fast.tw14364793385576792824 p w s.heap.objs.size (s.heap.nsMap mainGlobals "__annotations__") N s (topStub p)).bind λs₁=>match staticsOk (importedModules p.main.body) s.heap s₁.heap&&namesBound p s₁.heap&&gensDone s₁&&laidKept s.heap s₁.heap with
   | true=>some s₁
   | false=>none
  | false=>none).map (λs=>(PySem.W.Fast.tw4187177175401517315 q loose L4 Xt g0 s,Yf s)):=by
 rw[<-PySem.W.Fast.te14082659384304107361,<-PySem.W.Fast.te14364793385576792824,<-PySem.W.Fast.te4187177175401517315]
 rfl
end Lar
namespace Lar
open PySem
noncomputable def i4:bj:=⟨1,(.cons (.assign (.one 1) (.list .nil))
 (.cons (.assign (.one 2) (.cst (.int 1)))
 (.cons (.for_ (.one 3) (.ex (.var 0)) (.cons (.assign (.one 2) (.bin .Mod (.bin .Add (.bin .Add (.bin .Mult (.var 2) (.cst (.int 6364136223846793005))) (.var 3)) (.cst (.int 1442695040888963407))) (.cst (.int 1000000000000000003))))
 (.cons (.expr (.meth .append (.var 1) (.cons (.var 2) .nil)))
 .nil)))
 (.cons (.ret (.var 1))
 .nil))))⟩
noncomputable def dj:bj:=⟨2,(.cons (.ite (.cmp .Lt (.var 1) (.prim .len (.cons (.var 0) .nil))) (.cons (.ret (.idx (.var 0) (.var 1)))
 .nil) .nil)
 (.cons (.ret (.bin .Mult (.bin .Mult (.bin .Add (.var 1) (.cst (.int 3))) (.bin .Add (.var 1) (.cst (.int 7)))) (.cst (.int 7919))))
 .nil))⟩
noncomputable def kG:bj:=⟨2,(.cons (.assign (.one 2) (.bin .Mod (.bin .Add (.bin .Add (.var 0) (.bin .Mult (.cst (.int 104729)) (.var 1))) (.bin .Mult (.bin .Mult (.cst (.int 7919)) (.var 1)) (.var 1))) (.cst (.int 998244353))))
 (.cons (.ret (.bin .Mod (.bin .Mult (.bin .Mod (.bin .Mult (.var 2) (.var 2)) (.cst (.int 998244353))) (.cst (.int 1000003))) (.cst (.int 998244353))))
 .nil))⟩
noncomputable def iv:bj:=⟨2,(.cons (.assign (.one 2) (.bin .Mod (.var 0) (.cst (.int 8))))
 (.cons (.ite (.cmp .Eq (.var 2) (.cst (.int 0))) (.cons (.ret (.bin .Add (.cst (.int 1)) (.bin .Mod (.bin .FloorDiv (.var 0) (.cst (.int 8))) (.var 1))))
 .nil) .nil)
 (.cons (.ite (.cmp .Eq (.var 2) (.cst (.int 1))) (.cons (.ret (.bin .Add (.cst (.int 1)) (.bin .Mod (.bin .FloorDiv (.var 0) (.cst (.int 8))) (.cst (.int 60)))))
 .nil) .nil)
 (.cons (.ret (.bin .Add (.cst (.int 1)) (.bin .Mod (.bin .FloorDiv (.var 0) (.cst (.int 8))) (.cst (.int 12)))))
 .nil))))⟩
noncomputable def jD:bj:=⟨1,(.cons (.ite (.cmp .Eq (.bin .Mod (.var 0) (.cst (.int 6))) (.cst (.int 0))) (.cons (.ret (.bin .Add (.cst (.int 1)) (.bin .Mod (.bin .FloorDiv (.var 0) (.cst (.int 6))) (.cst (.int 99)))))
 .nil) .nil)
 (.cons (.ite (.cmp .Lt (.bin .Mod (.var 0) (.cst (.int 6))) (.cst (.int 3))) (.cons (.ret (.bin .Add (.cst (.int 7)) (.bin .Mod (.bin .FloorDiv (.var 0) (.cst (.int 6))) (.cst (.int 2)))))
 .nil) .nil)
 (.cons (.ret (.bin .Add (.cst (.int 1)) (.bin .Mod (.bin .FloorDiv (.var 0) (.cst (.int 6))) (.cst (.int 9)))))
 .nil)))⟩
noncomputable def eC:bj:=⟨2,(.cons (.assign (.one 2) (.cst (.str ("abcdefghijklmnopqrstuvwxyz" : Str))))
 (.cons (.assign (.one 3) (.list (.cons (.cst (.str ("total" : Str))) (.cons (.cst (.str ("day" : Str))) (.cons (.cst (.str ("flour" : Str))) (.cons (.cst (.str ("salt" : Str))) (.cons (.cst (.str ("left" : Str))) (.cons (.cst (.str ("used" : Str))) (.cons (.cst (.str ("short" : Str))) (.cons (.cst (.str ("salts" : Str))) (.cons (.cst (.str ("a" : Str))) (.cons (.cst (.str ("z" : Str))) (.cons (.cst (.str ("oil" : Str))) .nil)))))))))))))
 (.cons (.assign (.one 4) (.bin .FloorDiv (.var 0) (.cst (.int 6))))
 (.cons (.ite (.and (.cmp .Eq (.bin .Mod (.var 0) (.cst (.int 6))) (.cst (.int 0))) (.cmp .Lt (.var 1) (.cst (.int 4)))) (.cons (.ret (.idx (.var 3) (.bin .Mod (.bin .Add (.var 4) (.var 1)) (.cst (.int 11)))))
 .nil) .nil)
 (.cons (.assign (.one 5) (.cst (.str ("" : Str))))
 (.cons (.assign (.one 6) (.bin .FloorDiv (.var 4) (.cst (.int 7))))
 (.cons (.for_ (.one 7) (.rng1 (.bin .Add (.cst (.int 1)) (.bin .Mod (.var 4) (.cst (.int 7))))) (.cons (.assign (.one 6) (.bin .Add (.bin .Add (.var 6) (.cst (.int 1))) (.bin .Mod (.bin .FloorDiv (.var 4) (.cst (.int 182))) (.cst (.int 25)))))
 (.cons (.assign (.one 5) (.bin .Add (.var 5) (.idx (.var 2) (.bin .Mod (.var 6) (.cst (.int 26))))))
 .nil)))
 (.cons (.assign (.one 8) (.bin .Mod (.bin .FloorDiv (.var 4) (.cst (.int 4550))) (.prim .len (.cons (.var 5) .nil))))
 (.cons (.ite (.cmp .Gt (.var 1) (.cst (.int 3))) (.cons (.assign (.one 9) (.bin .Add (.idx (.var 2) (.bin .Mod (.bin .Add (.var 6) (.bin .FloorDiv (.var 1) (.cst (.int 26)))) (.cst (.int 26)))) (.idx (.var 2) (.bin .Mod (.var 1) (.cst (.int 26))))))
 (.cons (.ret (.bin .Add (.bin .Add (.slc (.var 5) (.cst .none) (.prim .min2 (.cons (.var 8) (.cons (.cst (.int 6)) .nil)))) (.var 9)) (.slc (.var 5) (.prim .min2 (.cons (.var 8) (.cons (.cst (.int 6)) .nil))) (.cst (.int 6)))))
 .nil)) .nil)
 (.cons (.ite (.cmp .Gt (.bin .Mod (.var 0) (.cst (.int 6))) (.cst (.int 3))) (.cons (.ret (.bin .Add (.idx (.var 2) (.bin .Mod (.bin .Add (.bin .FloorDiv (.var 4) (.cst (.int 7))) (.var 1)) (.cst (.int 26)))) (.var 5)))
 .nil) .nil)
 (.cons (.ite (.cmp .Eq (.var 1) (.cst (.int 1))) (.cons (.assign (.one 10) (.idx (.var 2) (.bin .Mod (.bin .Add (.meth .find (.var 2) (.cons (.idx (.var 5) (.var 8)) .nil)) (.cst (.int 1))) (.cst (.int 26)))))
 (.cons (.ret (.bin .Add (.bin .Add (.slc (.var 5) (.cst .none) (.var 8)) (.var 10)) (.slc (.var 5) (.bin .Add (.var 8) (.cst (.int 1))) (.cst .none))))
 .nil)) .nil)
 (.cons (.ret (.bin .Add (.var 5) (.idx (.list (.cons (.cst (.str ("" : Str))) (.cons (.cst (.str ("" : Str))) (.cons (.idx (.var 2) (.bin .Mod (.var 6) (.cst (.int 26)))) (.cons (.idx (.var 2) (.bin .Mod (.bin .Add (.var 6) (.cst (.int 1))) (.cst (.int 26)))) .nil))))) (.var 1))))
 .nil))))))))))))⟩
noncomputable def jF:bj:=⟨3,(.cons (.ite (.cmp .Eq (.bin .Mod (.var 0) (.cst (.int 24))) (.cst (.int 0))) (.cons (.ret (.bin .Mod (.bin .FloorDiv (.var 0) (.cst (.int 24))) (.bin .Add (.var 2) (.cst (.int 1)))))
 .nil) .nil)
 (.cons (.ret (.bin .Mod (.bin .FloorDiv (.var 0) (.cst (.int 24))) (.bin .Add (.var 1) (.cst (.int 1)))))
 .nil))⟩
noncomputable def i5:bj:=⟨1,(.cons (.ite (.cmp .Eq (.bin .Mod (.var 0) (.cst (.int 9))) (.cst (.int 0))) (.cons (.ret (.bin .Mod (.bin .FloorDiv (.var 0) (.cst (.int 9))) (.cst (.int 1000001))))
 .nil) .nil)
 (.cons (.ite (.cmp .Eq (.bin .Mod (.var 0) (.cst (.int 9))) (.cst (.int 1))) (.cons (.ret (.cst (.int 0)))
 .nil) .nil)
 (.cons (.ret (.bin .Mod (.bin .FloorDiv (.var 0) (.cst (.int 9))) (.cst (.int 30))))
 .nil)))⟩
noncomputable def bP:bj:=⟨4,(.cons (.assign (.one 4) (.comp (.var 5) (.two 5 6) (.enm (.var 0)) (.cons (.and (.cmp .Eq (.idx (.var 6) (.cst (.int 0))) (.var 2)) (.and (.cmp .GtE (.idx (.var 6) (.cst (.int 2))) (.var 3)) (.cmp .Gt (.idx (.var 1) (.var 5)) (.cst (.int 0))))) .nil)))
 (.cons (.ret (.sortK (.ex (.var 4)) 5 (.pair (.idx (.idx (.var 0) (.var 5)) (.num 2)) (.var 5))))
 .nil))⟩
noncomputable def sM:bj:=⟨3,(.cons (.assign (.one 3) (.prim .list (.cons (.var 0) .nil)))
 (.cons (.for_ (.two 4 5) (.zip (.var 1) (.var 2)) (.cons (.for_ (.one 6) (.rng1 (.var 5)) (.cons (.expr (.meth .append (.var 3) (.cons (.tuple (.cons (.idx (.var 4) (.cst (.int 0))) (.cons (.idx (.var 4) (.cst (.int 1))) (.cons (.idx (.var 4) (.cst (.int 3))) .nil)))) .nil)))
 .nil))
 .nil))
 (.cons (.ret (.prim .tuple (.cons (.var 3) .nil)))
 .nil)))⟩
noncomputable def n6:bj:=⟨1,(.cons (.ret (.and (.prim .isInt (.cons (.var 0) .nil)) (.not (.prim .isBool (.cons (.var 0) .nil)))))
 .nil)⟩
noncomputable def lR:bj:=⟨2,(.cons (.ite (.or (.not (.prim .isTuple (.cons (.var 0) .nil))) (.cmp .NotEq (.prim .len (.cons (.var 0) .nil)) (.prim .len (.cons (.var 1) .nil)))) (.cons (.ret (.cst (.bool false)))
 .nil) .nil)
 (.cons (.for_ (.one 2) (.rng1 (.prim .len (.cons (.var 1) .nil))) (.cons (.ite (.or (.not (.call 7 (.cons (.idx (.var 0) (.var 2)) .nil))) (.cmp .NotEq (.idx (.var 0) (.var 2)) (.idx (.var 1) (.var 2)))) (.cons (.ret (.cst (.bool false)))
 .nil) .nil)
 .nil))
 (.cons (.ret (.cst (.bool true)))
 .nil)))⟩
noncomputable def mS:bj:=⟨3,(.cons (.assign (.one 3) (.list .nil))
 (.cons (.for_ (.one 4) (.rng1 (.var 2)) (.cons (.assign (.one 5) (.call 6 (.cons (.call 5 (.cons (.var 0) (.cons (.bin .Add (.cst (.int 3)) (.bin .Mod (.var 4) (.cst (.int 20)))) .nil))) (.cons (.var 4) .nil))))
 (.cons (.assign (.one 6) (.list .nil))
 (.cons (.assign (.one 7) (.idx (.list (.cons (.bin .Mod (.bin .FloorDiv (.var 5) (.cst (.int 7))) (.cst (.int 4))) (.cons (.bin .Mod (.bin .FloorDiv (.var 5) (.cst (.int 7))) (.cst (.int 21))) .nil))) (.prim .int (.cons (.and (.cmp .Eq (.bin .Mod (.bin .FloorDiv (.var 5) (.cst (.int 147))) (.cst (.int 40))) (.cst (.int 0))) (.cmp .Lt (.var 4) (.cst (.int 2)))) .nil))))
 (.cons (.for_ (.one 8) (.rng1 (.var 7)) (.cons (.assign (.one 9) (.call 6 (.cons (.bin .FloorDiv (.var 5) (.cst (.int 28))) (.cons (.bin .Add (.var 8) (.cst (.int 1))) .nil))))
 (.cons (.assign (.one 10) (.bin .Add (.cst (.int 1)) (.bin .Mod (.bin .FloorDiv (.var 9) (.cst (.int 60))) (.cst (.int 12)))))
 (.cons (.ite (.cmp .Eq (.bin .Mod (.bin .FloorDiv (.var 9) (.cst (.int 720))) (.cst (.int 40))) (.cst (.int 0))) (.cons (.assign (.one 10) (.call 10 (.cons (.bin .FloorDiv (.var 9) (.cst (.int 28800))) (.cons (.cst (.int 200)) .nil))))
 .nil) .nil)
 (.cons (.expr (.meth .append (.var 6) (.cons (.tuple (.cons (.call 9 (.cons (.idx (.var 1) (.cst (.int 0))) (.cons (.bin .Mod (.bin .Mod (.var 9) (.cst (.int 60))) (.idx (.var 1) (.cst (.int 1)))) .nil))) (.cons (.var 10) .nil))) .nil)))
 .nil)))))
 (.cons (.expr (.meth .append (.var 3) (.cons (.tuple (.cons (.bin .Add (.cst (.int 1)) (.bin .Mod (.var 5) (.cst (.int 7)))) (.cons (.prim .tuple (.cons (.var 6) .nil)) .nil))) .nil)))
 .nil))))))
 (.cons (.ret (.prim .tuple (.cons (.var 3) .nil)))
 .nil)))⟩
noncomputable def mU:bj:=⟨3,(.cons (.assign (.one 3) (.list .nil))
 (.cons (.for_ (.one 4) (.rng1 (.var 2)) (.cons (.assign (.one 5) (.call 6 (.cons (.call 5 (.cons (.var 0) (.cons (.bin .Add (.cst (.int 23)) (.bin .Mod (.var 4) (.cst (.int 10)))) .nil))) (.cons (.bin .Add (.cst (.int 40)) (.var 4)) .nil))))
 (.cons (.assign (.one 6) (.call 6 (.cons (.var 5) (.cons (.var 4) .nil))))
 (.cons (.expr (.meth .append (.var 3) (.cons (.tuple (.cons (.call 9 (.cons (.idx (.var 1) (.cst (.int 0))) (.cons (.bin .Mod (.bin .Mod (.var 5) (.cst (.int 60))) (.idx (.var 1) (.cst (.int 1)))) .nil))) (.cons (.call 10 (.cons (.bin .FloorDiv (.var 5) (.cst (.int 60))) (.cons (.cst (.int 200)) .nil))) (.cons (.call 11 (.cons (.var 6) .nil)) .nil)))) .nil)))
 .nil))))
 (.cons (.ret (.prim .tuple (.cons (.var 3) .nil)))
 .nil)))⟩
noncomputable def n5:bj:=⟨3,(.cons (.assign (.one 3) (.list .nil))
 (.cons (.for_ (.one 4) (.rng1 (.var 2)) (.cons (.assign (.one 5) (.call 6 (.cons (.call 5 (.cons (.var 0) (.cons (.bin .Add (.cst (.int 33)) (.bin .Mod (.var 4) (.cst (.int 10)))) .nil))) (.cons (.bin .Add (.cst (.int 80)) (.var 4)) .nil))))
 (.cons (.assign (.one 6) (.call 6 (.cons (.var 5) (.cons (.bin .Add (.var 4) (.cst (.int 1))) .nil))))
 (.cons (.assign (.one 7) (.call 9 (.cons (.idx (.var 1) (.cst (.int 0))) (.cons (.bin .Mod (.bin .Mod (.var 5) (.cst (.int 60))) (.idx (.var 1) (.cst (.int 1)))) .nil))))
 (.cons (.expr (.meth .append (.var 3) (.cons (.tuple (.cons (.var 7) (.cons (.call 10 (.cons (.bin .FloorDiv (.var 5) (.cst (.int 60))) (.cons (.cst (.int 200)) .nil))) (.cons (.call 14 (.cons (.var 6) .nil)) (.cons (.call 11 (.cons (.bin .FloorDiv (.var 6) (.cst (.int 997))) .nil)) .nil))))) .nil)))
 .nil)))))
 (.cons (.ret (.prim .tuple (.cons (.var 3) .nil)))
 .nil)))⟩
noncomputable def n4:bj:=⟨3,(.cons (.assign (.one 3) (.list .nil))
 (.cons (.for_ (.one 4) (.rng2 (.cst (.int 1)) (.cst (.int 8))) (.cons (.assign (.one 5) (.cst (.int 0)))
 (.cons (.for_ (.one 6) (.ex (.var 0)) (.cons (.ite (.cmp .GtE (.idx (.var 6) (.cst (.int 0))) (.var 4)) (.cons (.assign (.one 5) (.bin .Add (.var 5) (.prim .sum (.cons (.comp (.idx (.var 8) (.cst (.int 1))) (.one 8) (.ex (.idx (.var 6) (.cst (.int 1)))) (.cons (.cmp .Eq (.idx (.var 8) (.cst (.int 0))) (.var 2)) .nil)) .nil))))
 .nil) .nil)
 .nil))
 (.cons (.for_ (.one 7) (.ex (.var 1)) (.cons (.ite (.and (.cmp .Eq (.idx (.var 7) (.cst (.int 0))) (.var 2)) (.cmp .GtE (.idx (.var 7) (.cst (.int 2))) (.var 4))) (.cons (.assign (.one 5) (.bin .Sub (.var 5) (.idx (.var 7) (.cst (.int 1)))))
 .nil) .nil)
 .nil))
 (.cons (.expr (.meth .append (.var 3) (.cons (.prim .max2 (.cons (.cst (.int 0)) (.cons (.var 5) .nil))) .nil)))
 .nil)))))
 (.cons (.ret (.var 3))
 .nil)))⟩
noncomputable def mV:bj:=⟨2,(.cons (.assign (.one 2) (.cst (.int 0)))
 (.cons (.for_ (.one 3) (.ex (.var 0)) (.cons (.assign (.one 2) (.bin .Add (.var 2) (.prim .sum (.cons (.comp (.idx (.var 4) (.cst (.int 1))) (.one 4) (.ex (.idx (.var 3) (.cst (.int 1)))) (.cons (.cmp .Eq (.idx (.var 4) (.cst (.int 0))) (.var 1)) .nil)) .nil))))
 .nil))
 (.cons (.ret (.var 2))
 .nil)))⟩
noncomputable def mY:bj:=⟨1,(.cons (.assign (.one 1) .dict0)
 (.cons (.for_ (.one 2) (.ex (.var 0)) (.cons (.for_ (.one 3) (.ex (.idx (.var 2) (.cst (.int 1)))) (.cons (.setItem (.var 1) (.idx (.var 3) (.cst (.int 0))) (.cst (.bool true)))
 .nil))
 .nil))
 (.cons (.ret (.prim .sorted (.cons (.var 1) .nil)))
 .nil)))⟩
noncomputable def pu:bj:=⟨1,(.cons (.ite (.cmp .Eq (.bin .Mod (.bin .FloorDiv (.var 0) (.cst (.int 28))) (.cst (.int 20))) (.cst (.int 0))) (.cons (.ret (.bin .Mod (.bin .FloorDiv (.var 0) (.cst (.int 560))) (.cst (.int 61))))
 .nil) .nil)
 (.cons (.ret (.bin .Mod (.var 0) (.cst (.int 7))))
 .nil))⟩
noncomputable def mW:bj:=⟨2,(.cons (.assign (.one 2) (.list .nil))
 (.cons (.for_ (.one 3) (.rng1 (.var 1)) (.cons (.assign (.one 4) (.call 6 (.cons (.call 5 (.cons (.var 0) (.cons (.bin .Add (.cst (.int 12)) (.var 3)) .nil))) (.cons (.var 3) .nil))))
 (.cons (.assign (.one 5) (.call 6 (.cons (.var 4) (.cons (.bin .Add (.var 3) (.cst (.int 1))) .nil))))
 (.cons (.assign (.one 6) (.bin .Mod (.bin .FloorDiv (.var 4) (.cst (.int 100))) (.cst (.int 30))))
 (.cons (.ite (.cmp .Eq (.bin .Mod (.var 4) (.cst (.int 9))) (.cst (.int 0))) (.cons (.assign (.one 6) (.bin .Mod (.bin .FloorDiv (.var 4) (.cst (.int 9))) (.cst (.int 1000001))))
 .nil) .nil)
 (.cons (.ite (.cmp .Eq (.bin .Mod (.var 4) (.cst (.int 9))) (.cst (.int 1))) (.cons (.assign (.one 6) (.cst (.int 0)))
 .nil) .nil)
 (.cons (.expr (.meth .append (.var 2) (.cons (.tuple (.cons (.call 10 (.cons (.var 5) (.cons (.cst (.int 200)) .nil))) (.cons (.var 6) (.cons (.call 11 (.cons (.bin .FloorDiv (.var 5) (.cst (.int 997))) .nil)) .nil)))) .nil)))
 (.cons (.ite (.and (.cmp .Gt (.var 3) (.cst (.int 0))) (.cmp .Eq (.bin .Mod (.bin .FloorDiv (.var 4) (.cst (.int 3000))) (.cst (.int 6))) (.cst (.int 0)))) (.cons (.setItem (.var 2) (.var 3) (.idx (.var 2) (.bin .Mod (.bin .FloorDiv (.var 4) (.cst (.int 18000))) (.var 3))))
 .nil) .nil)
 .nil))))))))
 (.cons (.ret (.prim .tuple (.cons (.var 2) .nil)))
 .nil)))⟩
noncomputable def kH:bj:=⟨1,(.cons (.assign (.one 1) (.list .nil))
 (.cons (.for_ (.one 2) (.rng1 (.cst (.int 7))) (.cons (.assign (.one 3) (.call 5 (.cons (.var 0) (.cons (.bin .Add (.cst (.int 3)) (.var 2)) .nil))))
 (.cons (.ite (.cmp .Eq (.bin .Mod (.var 3) (.cst (.int 3))) (.cst (.int 0))) (.cons (.expr (.meth .append (.var 1) (.cons (.cst (.int 0)) .nil)))
 .nil) (.cons (.expr (.meth .append (.var 1) (.cons (.bin .Mod (.bin .FloorDiv (.var 3) (.cst (.int 3))) (.cst (.int 25))) .nil)))
 .nil))
 .nil)))
 (.cons (.assign (.one 3) (.call 5 (.cons (.var 0) (.cons (.cst (.int 10)) .nil))))
 (.cons (.ite (.cmp .Eq (.bin .Mod (.var 3) (.cst (.int 30))) (.cst (.int 0))) (.cons (.setItem (.var 1) (.bin .Mod (.bin .FloorDiv (.var 3) (.cst (.int 30))) (.cst (.int 7))) (.idx (.list (.cons (.cst (.int 200)) (.cons (.cst (.int 199)) (.cons (.bin .Mod (.bin .FloorDiv (.var 3) (.cst (.int 210))) (.cst (.int 201))) .nil)))) (.bin .Mod (.bin .FloorDiv (.var 3) (.cst (.int 3600))) (.cst (.int 3)))))
 .nil) .nil)
 (.cons (.ite (.cmp .Eq (.bin .Mod (.var 3) (.cst (.int 30))) (.cst (.int 1))) (.cons (.ret (.bin .Mult (.tuple (.cons (.cst (.int 0)) .nil)) (.cst (.int 7))))
 .nil) .nil)
 (.cons (.ret (.prim .tuple (.cons (.var 1) .nil)))
 .nil))))))⟩
noncomputable def mX:bj:=⟨3,(.cons (.for_ (.one 3) (.rng2 (.cst (.int 1)) (.cst (.int 8))) (.cons (.assign (.one 4) (.cst (.int 0)))
 (.cons (.for_ (.one 5) (.rng1 (.prim .len (.cons (.var 0) .nil))) (.cons (.ite (.cmp .GtE (.idx (.idx (.var 0) (.var 5)) (.cst (.int 2))) (.var 3)) (.cons (.assign (.one 4) (.bin .Add (.var 4) (.bin .Mult (.idx (.idx (.var 0) (.var 5)) (.cst (.int 0))) (.idx (.var 1) (.var 5)))))
 .nil) .nil)
 .nil))
 (.cons (.ite (.cmp .Lt (.var 4) (.idx (.var 2) (.bin .Sub (.var 3) (.cst (.int 1))))) (.cons (.ret (.cst (.bool false)))
 .nil) .nil)
 .nil))))
 (.cons (.ret (.cst (.bool true)))
 .nil))⟩
noncomputable def pr:bj:=⟨2,(.cons (.ret (.prim .sum (.cons (.comp (.bin .Mult (.idx (.idx (.var 0) (.var 2)) (.cst (.int 1))) (.idx (.var 1) (.var 2))) (.one 2) (.rng1 (.prim .len (.cons (.var 0) .nil))) .nil) .nil)))
 .nil)⟩
noncomputable def mR:bj:=⟨2,(.cons (.assign (.one 2) (.list .nil))
 (.cons (.for_ (.one 3) (.rng1 (.prim .len (.cons (.var 0) .nil))) (.cons (.assign (.one 4) (.call 6 (.cons (.var 1) (.cons (.bin .Add (.var 3) (.cst (.int 50))) .nil))))
 (.cons (.expr (.meth .append (.var 2) (.cons (.idx (.list (.cons (.cst (.int 0)) (.cons (.bin .Mod (.bin .FloorDiv (.var 4) (.cst (.int 5))) (.cst (.int 3))) (.cons (.bin .Mod (.bin .FloorDiv (.var 4) (.cst (.int 5))) (.cst (.int 3))) (.cons (.bin .Mod (.bin .FloorDiv (.var 4) (.cst (.int 5))) (.cst (.int 7))) (.cons (.cst (.int 0)) .nil)))))) (.bin .Mod (.var 4) (.cst (.int 5)))) .nil)))
 .nil)))
 (.cons (.ret (.var 2))
 .nil)))⟩
noncomputable def mT:bj:=⟨4,(.cons (.for_ (.one 4) (.rng3 (.cst (.int 7)) (.cst (.int 0)) (.neg (.cst (.int 1)))) (.cons (.assign (.one 6) (.comp (.var 9) (.one 9) (.rng1 (.prim .len (.cons (.var 0) .nil))) (.cons (.cmp .GtE (.idx (.idx (.var 0) (.var 9)) (.cst (.int 2))) (.var 4)) .nil)))
 (.cons (.assign (.one 7) (.prim .sum (.cons (.comp (.bin .Mult (.idx (.idx (.var 0) (.var 9)) (.cst (.int 0))) (.idx (.var 1) (.var 9))) (.one 9) (.ex (.var 6)) .nil) .nil)))
 (.cons (.ite (.and (.cmp .Lt (.var 7) (.idx (.var 2) (.bin .Sub (.var 4) (.cst (.int 1))))) (.cmp .Eq (.var 6) (.list .nil))) (.cons (.ret (.cst .none))
 .nil) .nil)
 (.cons (.ite (.cmp .Lt (.var 7) (.idx (.var 2) (.bin .Sub (.var 4) (.cst (.int 1))))) (.cons (.assign (.one 5) (.idx (.var 6) (.bin .Mod (.call 6 (.cons (.var 3) (.cons (.var 4) .nil))) (.prim .len (.cons (.var 6) .nil)))))
 (.cons (.assign (.one 8) (.bin .Sub (.bin .Add (.bin .Sub (.idx (.var 2) (.bin .Sub (.var 4) (.cst (.int 1)))) (.var 7)) (.idx (.idx (.var 0) (.var 5)) (.cst (.int 0)))) (.cst (.int 1))))
 (.cons (.setItem (.var 1) (.var 5) (.bin .Add (.idx (.var 1) (.var 5)) (.bin .FloorDiv (.var 8) (.idx (.idx (.var 0) (.var 5)) (.cst (.int 0))))))
 .nil))) .nil)
 .nil)))))
 (.cons (.ret (.var 1))
 .nil))⟩
noncomputable def sL:bj:=⟨2,(.cons (.ret (.comp (.var 2) (.one 2) (.rng1 (.prim .len (.cons (.var 0) .nil))) (.cons (.cmp .Eq (.idx (.idx (.var 0) (.var 2)) (.cst (.int 0))) (.var 1)) .nil)))
 .nil)⟩
noncomputable def ju:bj:=⟨4,(.cons (.assign (.one 4) (.bin .Mult (.list (.cons (.cst (.int 0)) .nil)) (.prim .len (.cons (.var 2) .nil))))
 (.cons (.for_ (.one 5) (.ex (.call 20 (.cons (.var 0) .nil))) (.cons (.assign (.one 6) (.call 28 (.cons (.var 2) (.cons (.var 5) .nil))))
 (.cons (.assign (.one 8) (.comp (.slc (.idx (.var 2) (.var 10)) (.cst (.int 1)) (.cst .none)) (.one 10) (.ex (.var 6)) .nil))
 (.cons (.assign (.one 9) (.call 27 (.cons (.var 8) (.cons (.call 26 (.cons (.var 8) (.cons (.var 3) .nil))) (.cons (.call 18 (.cons (.var 0) (.cons (.var 1) (.cons (.var 5) .nil)))) (.cons (.bin .FloorDiv (.var 3) (.cst (.int 7))) .nil))))))
 (.cons (.ite (.cmp .Is (.var 9) (.cst .none)) (.cons (.ret (.cst .none))
 .nil) .nil)
 (.cons (.for_ (.one 7) (.rng1 (.prim .len (.cons (.var 6) .nil))) (.cons (.setItem (.var 4) (.idx (.var 6) (.var 7)) (.idx (.var 9) (.var 7)))
 .nil))
 .nil))))))
 (.cons (.ret (.var 4))
 .nil)))⟩
noncomputable def pt:bj:=⟨3,(.cons (.assign (.one 3) (.bin .Sub (.bin .Add (.cst (.int 199)) (.bin .Mod (.var 2) (.cst (.int 3)))) (.call 19 (.cons (.var 0) (.cons (.var 1) .nil)))))
 (.cons (.ite (.cmp .Lt (.var 3) (.cst (.int 2))) (.cons (.ret (.var 0))
 .nil) .nil)
 (.cons (.assign (.one 4) (.bin .Add (.cst (.int 1)) (.bin .Mod (.bin .FloorDiv (.var 2) (.cst (.int 3))) (.bin .Sub (.var 3) (.cst (.int 1))))))
 (.cons (.assign (.one 5) (.tuple (.cons (.tuple (.cons (.bin .Add (.cst (.int 1)) (.bin .Mod (.bin .FloorDiv (.var 2) (.cst (.int 600))) (.cst (.int 7)))) (.cons (.tuple (.cons (.tuple (.cons (.var 1) (.cons (.var 4) .nil))) .nil)) .nil))) (.cons (.tuple (.cons (.bin .Add (.cst (.int 1)) (.bin .Mod (.bin .FloorDiv (.var 2) (.cst (.int 4200))) (.cst (.int 7)))) (.cons (.tuple (.cons (.tuple (.cons (.var 1) (.cons (.bin .Sub (.var 3) (.var 4)) .nil))) .nil)) .nil))) .nil))))
 (.cons (.assign (.one 6) (.bin .Mod (.bin .FloorDiv (.var 2) (.cst (.int 30000))) (.bin .Add (.prim .len (.cons (.var 0) .nil)) (.cst (.int 1)))))
 (.cons (.ret (.bin .Add (.bin .Add (.slc (.var 0) (.cst .none) (.var 6)) (.var 5)) (.slc (.var 0) (.var 6) (.cst .none))))
 .nil))))))⟩
noncomputable def n7:bj:=⟨1,(.cons (.assign (.one 1) (.call 16 (.cons (.var 0) .nil)))
 (.cons (.assign (.one 2) (.call 5 (.cons (.var 0) (.cons (.cst (.int 2)) .nil))))
 (.cons (.assign (.one 3) (.call 12 (.cons (.var 0) (.cons (.var 1) (.cons (.call 17 (.cons (.var 2) (.cons (.cst (.int 5)) (.cons (.cst (.int 24)) .nil)))) .nil)))))
 (.cons (.assign (.one 4) (.call 13 (.cons (.var 0) (.cons (.var 1) (.cons (.call 17 (.cons (.bin .FloorDiv (.var 2) (.cst (.int 1500))) (.cons (.cst (.int 5)) (.cons (.cst (.int 120)) .nil)))) .nil)))))
 (.cons (.assign (.one 5) (.call 15 (.cons (.var 0) (.cons (.var 1) (.cons (.bin .Mod (.bin .FloorDiv (.var 2) (.cst (.int 60000))) (.cst (.int 6))) .nil)))))
 (.cons (.assign (.one 5) (.prim .tuple (.cons (.comp (.bin .Add (.tuple (.cons (.idx (.var 9) (.cst (.int 0))) (.cons (.prim .max2 (.cons (.cst (.int 4)) (.cons (.idx (.var 9) (.cst (.int 1))) .nil))) .nil))) (.slc (.var 9) (.cst (.int 2)) (.cst .none))) (.one 9) (.ex (.var 5)) .nil) .nil)))
 (.cons (.assign (.one 6) (.bin .FloorDiv (.var 2) (.cst (.int 700000))))
 (.cons (.ite (.and (.cmp .Gt (.bin .Mod (.var 6) (.cst (.int 3))) (.cst (.int 0))) (.cmp .Lt (.idx (.var 1) (.cst (.int 1))) (.cst (.int 5)))) (.cons (.for_ (.one 7) (.rng1 (.idx (.var 1) (.cst (.int 1)))) (.cons (.assign (.one 8) (.call 9 (.cons (.idx (.var 1) (.cst (.int 0))) (.cons (.var 7) .nil))))
 (.cons (.assign (.one 5) (.bin .Add (.var 5) (.tuple (.cons (.tuple (.cons (.var 8) (.cons (.bin .Add (.cst (.int 4)) (.bin .Mod (.bin .Add (.bin .FloorDiv (.var 6) (.cst (.int 3))) (.var 7)) (.cst (.int 17)))) (.cons (.bin .Add (.bin .Mod (.bin .FloorDiv (.var 6) (.cst (.int 60))) (.cst (.int 50))) (.var 7)) (.cons (.bin .Add (.cst (.int 7)) (.bin .Mod (.var 7) (.cst (.int 3)))) .nil))))) .nil))))
 .nil)))
 .nil) .nil)
 (.cons (.ite (.cmp .Eq (.bin .Mod (.bin .FloorDiv (.var 6) (.cst (.int 9000))) (.cst (.int 9))) (.cst (.int 0))) (.cons (.assign (.one 3) (.call 30 (.cons (.var 3) (.cons (.call 9 (.cons (.idx (.var 1) (.cst (.int 0))) (.cons (.bin .Mod (.bin .FloorDiv (.var 6) (.cst (.int 81000))) (.idx (.var 1) (.cst (.int 1)))) .nil))) (.cons (.bin .FloorDiv (.var 6) (.cst (.int 1000000))) .nil)))))
 .nil) .nil)
 (.cons (.ret (.list (.cons (.var 3) (.cons (.var 4) (.cons (.var 5) .nil)))))
 .nil))))))))))⟩
noncomputable def kI:bj:=⟨4,(.cons (.assign (.one 4) (.list .nil))
 (.cons (.for_ (.one 5) (.ex (.call 20 (.cons (.var 0) .nil))) (.cons (.assign (.one 6) (.call 28 (.cons (.var 2) (.cons (.var 5) .nil))))
 (.cons (.assign (.one 7) (.comp (.slc (.idx (.var 2) (.var 8)) (.cst (.int 1)) (.cst .none)) (.one 8) (.ex (.var 6)) .nil))
 (.cons (.ite (.not (.call 24 (.cons (.var 7) (.cons (.comp (.idx (.var 3) (.var 8)) (.one 8) (.ex (.var 6)) .nil) (.cons (.call 18 (.cons (.var 0) (.cons (.var 1) (.cons (.var 5) .nil)))) .nil))))) (.cons (.expr (.meth .append (.var 4) (.cons (.var 5) .nil)))
 .nil) .nil)
 .nil))))
 (.cons (.ret (.var 4))
 .nil)))⟩
noncomputable def Ey:bj:=⟨1,(.cons (.assign (.one 1) (.call 4 (.cons (.var 0) .nil)))
 (.cons (.assign (.one 2) (.call 31 (.cons (.var 1) .nil)))
 (.cons (.assign (.one 3) (.call 6 (.cons (.call 5 (.cons (.var 1) (.cons (.cst (.int 1)) .nil))) (.cons (.cst (.int 5)) .nil))))
 (.cons (.assign (.one 4) (.call 26 (.cons (.comp (.slc (.var 10) (.cst (.int 1)) (.cst .none)) (.one 10) (.ex (.idx (.var 2) (.cst (.int 2)))) .nil) (.cons (.bin .FloorDiv (.var 3) (.cst (.int 2))) .nil))))
 (.cons (.ite (.cmp .Eq (.bin .Mod (.var 3) (.cst (.int 2))) (.cst (.int 1))) (.cons (.assign (.one 5) (.call 29 (.cons (.idx (.var 2) (.cst (.int 0))) (.cons (.idx (.var 2) (.cst (.int 1))) (.cons (.idx (.var 2) (.cst (.int 2))) (.cons (.bin .FloorDiv (.var 3) (.cst (.int 2))) .nil))))))
 (.cons (.ite (.cmp .IsNot (.var 5) (.cst .none)) (.cons (.assign (.one 4) (.var 5))
 .nil) .nil)
 (.cons (.ite (.and (.cmp .Gt (.prim .len (.cons (.var 4) .nil)) (.cst (.int 0))) (.cmp .Eq (.bin .Mod (.bin .FloorDiv (.var 3) (.cst (.int 2))) (.cst (.int 3))) (.cst (.int 0)))) (.cons (.assign (.one 6) (.bin .Mod (.bin .FloorDiv (.var 3) (.cst (.int 6))) (.prim .len (.cons (.var 4) .nil))))
 (.cons (.setItem (.var 4) (.var 6) (.prim .max2 (.cons (.cst (.int 0)) (.cons (.bin .Sub (.idx (.var 4) (.var 6)) (.cst (.int 1))) .nil))))
 .nil)) .nil)
 .nil))) .nil)
 (.cons (.assign (.one 7) (.call 3 (.cons (.idx (.var 2) (.cst (.int 1))) (.cons (.idx (.var 2) (.cst (.int 2))) (.cons (.prim .tuple (.cons (.var 4) .nil)) .nil)))))
 (.cons (.assign (.one 8) (.call 32 (.cons (.idx (.var 2) (.cst (.int 0))) (.cons (.var 7) .nil))))
 (.cons (.assign (.one 9) (.call 33 (.cons (.idx (.var 2) (.cst (.int 0))) (.cons (.idx (.var 2) (.cst (.int 1))) (.cons (.idx (.var 2) (.cst (.int 2))) (.cons (.var 4) .nil))))))
 (.cons (.ite (.prim .isList (.cons (.var 8) .nil)) (.cons (.ret (.and (.cmp .Eq (.prim .len (.cons (.var 8) .nil)) (.cst (.int 1))) (.cmp .In (.idx (.var 8) (.cst (.int 0))) (.var 9))))
 .nil) .nil)
 (.cons (.ret (.and (.prim .isTuple (.cons (.var 8) .nil)) (.cmp .Eq (.var 9) (.list .nil))))
 .nil))))))))))⟩
noncomputable def ax (H af:ag):Prop:=∀ (i:Nat) (o:aZ),H[i]? = some o->af[i]? = some o
theorem ax.refl (H:ag):ax H H:=λz z h=>h
theorem ax.trans {a b c:ag} (x:ax a b) (y:ax b c):ax a c:=λi o h=>y i o (x i o h)
theorem ax.app (H τ:ag):ax H (H++τ):=λi o h=>by
 rw[Ut (J'.mp h).1];exact h
theorem ax.set {H af:ag} {r:Nat} {m:aZ} (h:ax H af) (hr:H.length<=r):ax H (af.set r m):=λi o e=>by
 have hi:i<H.length:=(J'.mp e).1
 rw[Wr (by exact λq0=>(by exact zI (y3 0x1c080810b1011b0212b21 rfl (iL hr) (iT hi) (iE q0))))]
 exact h i o e
theorem ax.len {H af:ag} (h:ax H af):H.length<=af.length:=by
 refine Ug (XQ af.length H.length) (λhl=>?_) (λhl=>?_)
 ·have e:H[af.length]? = some H[af.length]:=Ue hl
  have:=h _ _ e
  simp at this
 ·exact hl
theorem nj {P:List bj} {d k:Nat} {f:bj} {as:List V} {H:ag} (hk:P[k]? = some f) (ha:as.length=f.arity):az P (d+1) k as H=gJ (aQ (az P d) f.body (b8 as) H):=by
 simp only[az,hk,VW,ha,if_true]
theorem Pl (a b:Int):(a==b)=decide (a=b):=by
 by_cases h:a=b <;> simp [h]
theorem bF {a b:Int} (h:0<b):0<=a.fmod b/\a.fmod b<b:=⟨Int.fmod_nonneg_of_pos a h,Int.fmod_lt_of_pos a h⟩
theorem xo {a b:Int} (h:a.natAbs<18446744073709551616):mx a b=true:=Vu.mpr (.inl (decide_eq_true h))
theorem gj {a b:Int} (h:b.natAbs<18446744073709551616):mx a b=true:=Vu.mpr (.inr (decide_eq_true h))
theorem nJ {x:Int} {k:Nat} (h0:0<=x) (h1:x<k):x.natAbs<k:=Vw.mp ((Int.natAbs_of_nonneg h0).symm ▸ h1)
noncomputable def ry (x y:Int):Int:=((((((x+104729 * y)+(7919 * y) * y).fmod 998244353) * (((x+104729 * y)+(7919 * y) * y).fmod 998244353)).fmod 998244353) * 1000003).fmod 998244353
noncomputable def cellF (cs:List Int) (k:Nat):Int:=match cs[k]? with | some x=>x | none=>((k:Int)+3) * ((k:Int)+7) * 7919
noncomputable def fD (x m:Int):Int:=if x.fmod 8=0 then 1+(x.fdiv 8).fmod m else if x.fmod 8=1 then 1+(x.fdiv 8).fmod 60 else 1+(x.fdiv 8).fmod 12
theorem Mc {x b:Int} (a:0<=x/\x<b) (hb:b<=200):1<=1+x/\1+x<=200:=⟨y1 0xca0181810b008 rfl a.1,Uw (Yo 1 x ▸ a.2) hb⟩
theorem gr (x:Int):1<=fD x 200/\fD x 200<=200:=by
 have h {b:Int} (hb:0<b) (hb':b<=200):=Mc (bF (a:=x.fdiv 8) hb) hb'
 unfold fD
 by_cases h1:x.fmod 8=0
 ·rw[if_pos h1];exact h (by decide) (by decide)
 ·rw[if_neg h1]
  by_cases h2:x.fmod 8=1
  ·rw[if_pos h2];exact h (by decide) (by decide)
  ·rw[if_neg h2];exact h (by decide) (by decide)
noncomputable def qc (x:Int):Int:=if x.fmod 6=0 then 1+(x.fdiv 6).fmod 99 else if x.fmod 6<3 then 7+(x.fdiv 6).fmod 2 else 1+(x.fdiv 6).fmod 9
theorem b0 (H:ag):ci H []:=λz h=>nomatch h
theorem ji {H:ag} {r:Nat} {m:aZ} (h:H[r]? = some m):ci H [(r,m)]:=λp hp=>by rw[O'.mp hp];exact h
theorem aH (H:ag) (m:aZ):(H++[m])[H.length]? = some m:=by simp
theorem uY {call:aw} {K:aN} {H σ1 ae:ag} {a i:CE} {x y r:V} (ha:ab call a K H=some (x,σ1)) (hi:ab call i K σ1=some (y,ae)) (h:i8 x y ae=some r):ab call (.idx a i) K H=some (r,ae):=by
 show bn (ab call a K H) (λx σ1=>bn (ab call i K σ1) λy ae=>(i8 x y ae).bind λr=>some (r,ae))=_
 rw[ha]
 show bn (ab call i K σ1) (λy ae=>(i8 x y ae).bind λr=>some (r,ae))=_
 rw[hi]
 show (i8 x y ae).bind (λr=>some (r,ae))=_
 rw[h];rfl
theorem nv {l:List V} {k:Int} {x:V} (jH:0<=k) (hx:l[k.toNat]? = some x):BB l (.int k)=some x:=by
 show (if 0<=k then l[k.toNat]? else none)=_
 rw[if_pos jH,hx]
theorem aP {call:aw} {K:aN} {H σ1 ae:ag} {a i:CE} (r:Nat) (k:Int) (l:List V) (x:V) (ha:ab call a K H=some (.ref r,σ1)) (hi:ab call i K σ1=some (.int k,ae)) (hr:ae[r]? = some (.lst l)) (jH:0<=k) (hx:l[k.toNat]? = some x):ab call (.idx a i) K H=some (x,ae) :=
 uY ha hi (by
  show (ae[r]?).bind (IM (.int k))=_
  rw[hr]
  exact nv jH hx)
theorem be {call:aw} {K:aN} {H σ1 ae:ag} {a i:CE} (k:Int) (l:List V) (x:V) (ha:ab call a K H=some (.tup l,σ1)) (hi:ab call i K σ1=some (.int k,ae)) (jH:0<=k) (hx:l[k.toNat]? = some x):ab call (.idx a i) K H=some (x,ae) :=
 uY ha hi (nv jH hx)
theorem al {call:aw} {f:Nat} {as:fh} {K:aN} {H σ1 ae:ag} {vs:List V} {v:V} (h:a8 call as K H=some (vs,σ1)) (hc:call f vs σ1=some (.ok v,ae)):ab call (.call f as) K H=some (v,ae):=by
 show bn (a8 call as K H) (λvs σ1=>bn (call f vs σ1) λr ae=>(L8 r).bind λv=>some (v,ae))=_
 rw[h]
 show bn (call f vs σ1) (λr ae=>(L8 r).bind λv=>some (v,ae))=_
 rw[hc];rfl
theorem aJ {call:aw} {op:Operator} {a b:CE} {K:aN} {H σ1 ae:ag} {x y:V} {r:Option (V×ag)} (ha:ab call a K H=some (x,σ1)) (hb:ab call b K σ1=some (y,ae)) (h:ku op x y ae=r):ab call (.bin op a b) K H=r:=by
 show bn (ab call a K H) (λx σ1=>bn (ab call b K σ1) λy ae=>ku op x y ae)=_
 rw[ha]
 show bn (ab call b K σ1) (λy ae=>ku op x y ae)=_
 rw[hb];exact h
theorem gy {x y:Int} {H:ag} (m:mx x y=true):ku .Mult (.int x) (.int y) H=some (.int (x * y),H):=by
 show (if mx x y=true then some (V.int (x * y),H) else none)=_
 rw[if_pos m]
theorem cr {x y:Int} {H:ag} (m:y≠0):ku .Mod (.int x) (.int y) H=some (.int (x.fmod y),H):=by
 show (if y=0 then none else some (x.fmod y)).bind (λz=>some (V.int z,H))=_
 rw[if_neg m];rfl
theorem nU {x y:Int} {H:ag} (m:y≠0) (m':y.natAbs<1073741824):ku .FloorDiv (.int x) (.int y) H=some (.int (x.fdiv y),H):=by
 show (if y=0\/1073741824<=y.natAbs then none else some (x.fdiv y)).bind (λz=>some (V.int z,H))=_
 rw[if_neg (not_or.mpr ⟨m,Wj.mpr m'⟩)];rfl
theorem bO {call:aw} {op:CmpOp} {a b:CE} {K:aN} {H σ1 ae:ag} {x y:V} {c:Bool} (ha:ab call a K H=some (x,σ1)) (hb:ab call b K σ1=some (y,ae)) (h:pU op x y ae=some c):ab call (.cmp op a b) K H=some (.bool c,ae):=by
 show bn (ab call a K H) (λx σ1=>bn (ab call b K σ1) λy ae=>(pU op x y ae).bind λr=>some (V.bool r,ae))=_
 rw[ha]
 show bn (ab call b K σ1) (λy ae=>(pU op x y ae).bind λr=>some (V.bool r,ae))=_
 rw[hb]
 show (pU op x y ae).bind (λr=>some (V.bool r,ae))=_
 rw[h];rfl
theorem u1 {call:aw} {a:CE} {K:aN} {H σ1:ag} {b:Bool} (ha:ab call a K H=some (.bool b,σ1)):ab call (.not a) K H=some (.bool (!b),σ1):=by
 show iW (ab call a K H) (λb σ1=>some (V.bool (!b),σ1))=_
 rw[ha];rfl
theorem nX {call:aw} {a b:CE} {K:aN} {H σ1:ag} {r:Option (V×ag)} (ha:ab call a K H=some (.bool true,σ1)) (hb:ab call b K σ1=r):ab call (.and a b) K H=r:=by
 show iW (ab call a K H) (λp σ1=>if p then ab call b K σ1 else some (.bool false,σ1))=_
 rw[ha];exact hb
theorem qX {call:aw} {a b:CE} {K:aN} {H σ1:ag} (ha:ab call a K H=some (.bool false,σ1)):ab call (.and a b) K H=some (.bool false,σ1):=by
 show iW (ab call a K H) (λp σ1=>if p then ab call b K σ1 else some (.bool false,σ1))=_
 rw[ha];rfl
theorem Gr {call:aw} {a b:CE} {K:aN} {H σ1:ag} {r:Option (V×ag)} (ha:ab call a K H=some (.bool false,σ1)) (hb:ab call b K σ1=r):ab call (.or a b) K H=r:=by
 show iW (ab call a K H) (λp σ1=>if p then some (.bool true,σ1) else ab call b K σ1)=_
 rw[ha];exact hb
theorem aX {call:aw} {p:iO} {as:fh} {K:aN} {H σ1:ag} {vs:List V} {r:Option (V×ag)} (h:a8 call as K H=some (vs,σ1)) (hp:fY p vs σ1=r):ab call (.prim p as) K H=r:=by
 show bn (a8 call as K H) (λvs σ1=>fY p vs σ1)=_
 rw[h];exact hp
theorem aC {call:aw} {e:CE} {K:aN} {H σ1:ag} {v:V} (h:ab call e K H=some (v,σ1)):a8 call (.cons e .nil) K H=some ([v],σ1):=by
 show bn (ab call e K H) (λv σ1=>bn (a8 call .nil K σ1) λvs ae=>some (v::vs,ae))=_
 rw[h];rfl
theorem aI {call:aw} {e:CE} {r:fh} {K:aN} {H σ1 ae:ag} {v:V} {vs:List V} (h:ab call e K H=some (v,σ1)) (hr:a8 call r K σ1=some (vs,ae)):a8 call (.cons e r) K H=some (v::vs,ae):=by
 show bn (ab call e K H) (λv σ1=>bn (a8 call r K σ1) λvs ae=>some (v::vs,ae))=_
 rw[h]
 show bn (a8 call r K σ1) (λvs ae=>some (v::vs,ae))=_
 rw[hr];rfl
theorem an {call:aw} {i:Nat} {K:aN} {H:ag} {v:V} (h:K i=some v):ab call (.var i) K H=some (v,H):=by
 show (K i).bind (λv=>some (v,H))=_
 rw[h];rfl
theorem fE {call:aw} {elt:CE} {t:gE} {it:gb} {ifs:fh} {K:aN} {H σ1 ae:ag} {xs l:List V} {w:List (Nat×aZ)} (hs:bS call it K H=some (xs,w,σ1)) (hc:dT (ab call elt) (bX call ifs) t w xs K σ1=some (l,ae)) (hz:l.length<=ar):ab call (.comp elt t it ifs) K H=some (.ref ae.length,ae++[.lst l]):=by
 show jZ (bS call it K H) (λxs w σ1=>bn (dT (ab call elt) (bX call ifs) t w xs K σ1) λl ae=>qk ae l)=_
 rw[hs]
 show bn (dT (ab call elt) (bX call ifs) t w xs K σ1) (λl ae=>qk ae l)=_
 rw[hc]
 exact if_pos hz
theorem C9 {H:ag} {r:Nat} {ns:List Int} {l:List V} (hr:H[r]? = some (.lst l)) (hi:dA l=some ns):fY .sum [.ref r] H=some (.int (ns.foldl (· + ·) 0),H):=by
 show ((lst H r).bind λl=>some (l,[(r,aZ.lst l)])).bind (λp=>(dA p.1).bind λns=>some (V.int (ns.foldl (· + ·) 0),H))=_
 rw[cT hr]
 show (dA l).bind (λns=>some (V.int (ns.foldl (· + ·) 0),H))=_
 rw[hi];rfl
theorem kQ {H:ag} (l:List V):fY .len [.tup l] H=some (.int l.length,H):=rfl
theorem cB {H:ag} {r:Nat} {l:List V} (hr:H[r]? = some (.lst l)) (hz:l.length<=ar):fY .tuple [.ref r] H=some (.tup l,H):=by
 show (lst H r).bind (λl=>m7 H l)=_
 rw[cT hr]
 exact if_pos hz
noncomputable def Le (a b:aN):Prop:=∀ i v,a i=some v->b i=some v
theorem Le.refl (a:aN):Le a a:=λz z h=>h
theorem Le.trans {a b c:aN} (x:Le a b) (y:Le b c):Le a c:=λi v h=>y i v (x i v h)
theorem Le.upd {a b:aN} (x:Le a b) (i:Nat) (v:V):Le (cn a i v) (cn b i v):=λj w h=>by
 unfold Lar.cn at h ⊢
 by_cases hj:j=i
 ·rw[if_pos hj] at h ⊢;exact h
 ·rw[if_neg hj] at h ⊢;exact x j w h
noncomputable def bp (l:List (Option V)):aN:=λi=>(l[i]?).join
noncomputable def nG (K:aN):Nat->List (Option V)->Prop
 | _,[]=>True
 | i,none::r=>nG K (i+1) r
 | i,some v::r=>K i=some v/\nG K (i+1) r
theorem nG.get {K:aN}:∀ {l:List (Option V)} {k i:Nat} {v:V},nG K k l->(l[i]?).join=some v->K (k+i)=some v
 | [],_,_,_,_,h=>by simp at h
 | none::r,k,0,_,_,h=>by simp at h
 | none::r,k,i+1,v,ha,h=>by
  have:=nG.get (l:=r) (k:=k+1) (i:=i) ha (by simpa using h)
  rwa [Wl] at this
 | some w::r,k,0,v,ha,h=>by
  obtain rfl:w=v:=by simpa using h
  exact ha.1
 | some w::r,k,i+1,v,ha,h=>by
  have:=nG.get (l:=r) (k:=k+1) (i:=i) ha.2 (by simpa using h)
  rwa [Wl] at this
theorem ay {K:aN} {l:List (Option V)} (h:nG K 0 l):Le (bp l) K:=λi v e=>by
 have:=h.get e
 rwa [V8] at this
theorem vW {t:gE} {x:V} {a b a':aN} (hl:Le a b) (h:t.put x a=some a'):∃ b',t.put x b=some b'/\Le a' b':=by
 cases t with
 | one i=>apply dE h;exact⟨_,rfl,hl.upd _ _⟩
 | two i j =>
  refine aT h λp hp h=>?_
  apply dE h
  refine⟨_,?_,(hl.upd i p.1).upd j p.2⟩
  show (uI x).bind _=_
  rw[hp];rfl
theorem bx {α β:Type} {m m':Option (α×ag)} {k k':α->ag->Option β} {r:β} (h:bn m k=some r) (hm:∀ p,m=some p->m'=some p) (hk:∀ a H,k a H=some r->k' a H=some r):bn m' k'=some r:=by
 refine bU h λa H h1 h2=>?_
 rw[hm _ h1]
 exact hk a H h2
theorem wz {α β γ:Type} {m m':Option (α×β×ag)} {k k':α->β->ag->Option γ} {r:γ} (h:jZ m k=some r) (hm:∀ p,m=some p->m'=some p) (hk:∀ a b H,k a b H=some r->k' a b H=some r):jZ m' k'=some r:=by
 refine me h λa b H h1 h2=>?_
 rw[hm _ h1]
 exact hk a b H h2
theorem kB {β:Type} {m m':Option (V×ag)} {k k':Bool->ag->Option β} {r:β} (h:iW m k=some r) (hm:∀ p,m=some p->m'=some p) (hk:∀ a H,k a H=some r->k' a H=some r):iW m' k'=some r :=
 bx h hm λa H e=>by
  refine aT e λb h1 h2=>?_
  rw[h1];exact hk b H h2
theorem ig {β:Type} {m m':Option (V×ag)} {k k':Int->ag->Option β} {r:β} (h:lN m k=some r) (hm:∀ p,m=some p->m'=some p) (hk:∀ a H,k a H=some r->k' a H=some r):lN m' k'=some r :=
 bx h hm λa H e=>by
  refine aT e λb h1 h2=>?_
  rw[h1];exact hk b H h2
theorem nS {elt elt':aN->ag->Option (V×ag)} {cond cond':aN->ag->Option (Bool×ag)} {t:gE} {w:List (Nat×aZ)} (he:∀ a b H r,Le a b->elt a H=some r->elt' b H=some r) (hc:∀ a b H r,Le a b->cond a H=some r->cond' b H=some r) :
  ∀ {xs:List V} {a b:aN} {H:ag} {r:List V×ag},Le a b->dT elt cond t w xs a H=some r->dT elt' cond' t w xs b H=some r
 | [],a,b,H,r,hl,h=>h
 | x::xs,a,b,H,r,hl,h=>by
  refine og h λhw h=>?_
  refine aT h λa' hp h=>?_
  refine aB (vW hl hp) λb' OV fT=>?_
  show ft H w ((t.put x b).bind λaS=>_)=_
  rw[gP hw,OV,VW]
  refine bx h (λp e=>hc _ _ _ _ fT e) λc σ1 h=>?_
  cases c with
  | false=>exact nS he hc hl h
  | true =>
   rw[if_pos rfl] at h ⊢
   exact bx (m:=elt a' σ1) h (λp e=>he _ _ _ _ fT e) λv ae h=>bx h (λp e=>nS he hc hl e) λl bg h=>h
theorem iZ:∀ {k:KX} {a b:aN} {H:ag} {v:V},Le a b->cH k a H=some v->cH k b H=some v
 | .var i,a,b,H,v,hl,h=>hl i v h
 | .num i,a,b,H,v,hl,h=>h
 | .idx x y,a,b,H,v,hl,h=>by
  refine aT h λu h1 h=>?_
  refine aT h λz h2 h=>?_
  show (cH x b H).bind _=_
  rw[iZ hl h1]
  show (cH y b H).bind _=_
  rw[iZ hl h2];exact h
 | .pair x y,a,b,H,v,hl,h=>by
  refine aT h λu h1 h=>?_
  refine aT h λz h2 h=>?_
  show (cH x b H).bind _=_
  rw[iZ hl h1]
  show (cH y b H).bind _=_
  rw[iZ hl h2];exact h
theorem td {k:KX} {i:Nat} {H:ag} {a b:aN} (hl:Le a b):∀ {ns:List Int} {ps:List KP},mu k i a H ns=some ps->mu k i b H ns=some ps
 | [],ps,h=>h
 | n::r,ps,h=>by
  refine aT h λv h1 h=>?_
  refine aT h λl h2 h=>?_
  refine aT h λqs h3 h=>?_
  show (cH k (cn b i (.int n)) H).bind _=_
  rw[iZ (hl.upd i (.int n)) h1]
  show (pB v).bind _=_
  rw[h2]
  show (mu k i b H r).bind _=_
  rw[td hl h3];exact h
theorem zp {k:KX} {i:Nat} {H:ag} {a b:aN} {xs:List V} {r:V×ag} (hl:Le a b) (h:io k i a H xs=some r):io k i b H xs=some r:=by
 refine aT h λns h1 h=>?_
 refine dL h λh2 h=>?_
 refine aT h λps h3 h=>?_
 show (dA xs).bind _=_
 rw[h1]
 show (if _ then _ else _)=_
 rw[if_pos h2,td hl h3];exact h
mutual
theorem aE {call:aw}:∀ (e:CE) {a b:aN} {H:ag} {r:V×ag},Le a b->ab call e a H=some r->ab call e b H=some r
 | .cst v,_,_,_,_,_,h=>h
 | .var i,a,b,H,r,hl,h=>by
  refine aT h λv h1 h2=>?_
  show (b i).bind _=_
  rw[hl i v h1];exact h2
 | .bin op x y,a,b,H,r,hl,h=>bx (m:=ab call x a H) h (λp e=>aE x hl e) λj j h=>bx h (λp e=>aE y hl e) λj j h=>h
 | .cmp op x y,a,b,H,r,hl,h=>bx (m:=ab call x a H) h (λp e=>aE x hl e) λj j h=>bx h (λp e=>aE y hl e) λj j h=>h
 | .not x,a,b,H,r,hl,h=>kB (m:=ab call x a H) h (λp e=>aE x hl e) λj j h=>h
 | .neg x,a,b,H,r,hl,h=>ig (m:=ab call x a H) h (λp e=>aE x hl e) λj j h=>h
 | .and x y,a,b,H,r,hl,h=>kB (m:=ab call x a H) h (λp e=>aE x hl e) λc j h=>by
  cases c with
  | true=>exact aE y hl h
  | false=>exact h
 | .or x y,a,b,H,r,hl,h=>kB (m:=ab call x a H) h (λp e=>aE x hl e) λc j h=>by
  cases c with
  | true=>exact h
  | false=>exact aE y hl h
 | .ite t x y,a,b,H,r,hl,h=>kB (m:=ab call t a H) h (λp e=>aE t hl e) λc j h=>by
  cases c with
  | true=>exact aE x hl h
  | false=>exact aE y hl h
 | .list es,a,b,H,r,hl,h=>bx (m:=a8 call es a H) h (λp e=>dh es hl e) λj j h=>h
 | .tuple es,a,b,H,r,hl,h=>bx (m:=a8 call es a H) h (λp e=>dh es hl e) λj j h=>h
 | .dict0,_,_,_,_,_,h=>h
 | .idx x y,a,b,H,r,hl,h=>bx (m:=ab call x a H) h (λp e=>aE x hl e) λj j h=>bx h (λp e=>aE y hl e) λj j h=>h
 | .slc x y z,a,b,H,r,hl,h=>bx (m:=ab call x a H) h (λp e=>aE x hl e) λj j h=>bx h (λp e=>aE y hl e) λj j h=>bx h (λp e=>aE z hl e) λj j h=>h
 | .call f as,a,b,H,r,hl,h=>bx (m:=a8 call as a H) h (λp e=>dh as hl e) λj j h=>h
 | .prim p as,a,b,H,r,hl,h=>bx (m:=a8 call as a H) h (λp e=>dh as hl e) λj j h=>h
 | .meth m o as,a,b,H,r,hl,h=>bx (m:=ab call o a H) h (λp e=>aE o hl e) λx σ1 h=>by
  refine dL h λhr h=>?_
  rw[if_pos hr]
  exact bx h (λp e=>dh as hl e) λj j h=>h
 | .sortK it i k,a,b,H,r,hl,h=>wz (m:=bS call it a H) h (λp e=>rN it hl e) λxs w σ1 h=>by
  refine dL h λh1 h=>?_
  rw[if_pos h1]
  exact zp hl h
 | .word x,a,b,H,r,hl,h=>bx (m:=ab call x a H) h (λp e=>aE x hl e) λj j h=>h
 | .isC c x,a,b,H,r,hl,h=>bx (m:=ab call x a H) h (λp e=>aE x hl e) λj j h=>h
 | .comp elt t it ifs,a,b,H,r,hl,h=>wz (m:=bS call it a H) h (λp e=>rN it hl e) λxs w σ1 h=>bx h (λp e=>nS (elt:=ab call elt) (elt':=ab call elt) (cond:=bX call ifs) (cond':=bX call ifs) (λa b H r hl e=>aE elt (H:=H) hl e) (λa b H r hl e=>qA ifs (H:=H) hl e) hl e) λj j h=>h
theorem qA {call:aw}:∀ (e:fh) {a b:aN} {H:ag} {r:Bool×ag},Le a b->bX call e a H=some r->bX call e b H=some r
 | .nil,_,_,_,_,_,h=>h
 | .cons x y,a,b,H,r,hl,h=>kB (m:=ab call x a H) h (λp e=>aE x hl e) λc z h=>by
  cases c with
  | true=>exact qA y hl h
  | false=>exact h
theorem dh {call:aw}:∀ (e:fh) {a b:aN} {H:ag} {r:List V×ag},Le a b->a8 call e a H=some r->a8 call e b H=some r
 | .nil,_,_,_,_,_,h=>h
 | .cons x y,a,b,H,r,hl,h=>bx (m:=ab call x a H) h (λp e=>aE x hl e) λz z h=>bx h (λp e=>dh y hl e) λz z h=>h
theorem rN {call:aw}:∀ (e:gb) {a b:aN} {H:ag} {r:List V×List (Nat×aZ)×ag},Le a b->bS call e a H=some r->bS call e b H=some r
 | .ex x,a,b,H,r,hl,h=>by
  rw[xE] at h ⊢
  exact bx (m:=ab call x a H) h (λp e=>aE x hl e) λk k h=>h
 | .rng1 x,a,b,H,r,hl,h=>ig (m:=ab call x a H) h (λp e=>aE x hl e) λk k h=>h
 | .rng2 x y,a,b,H,r,hl,h=>ig (m:=ab call x a H) h (λp e=>aE x hl e) λk k h=>ig h (λp e=>aE y hl e) λk k h=>h
 | .rng3 x y z,a,b,H,r,hl,h=>ig (m:=ab call x a H) h (λp e=>aE x hl e) λk k h=>ig h (λp e=>aE y hl e) λk k h=>ig h (λp e=>aE z hl e) λk k h=>h
 | .zip x y,a,b,H,r,hl,h=>by
  rw[tZ] at h ⊢
  exact bx (m:=ab call x a H) h (λp e=>aE x hl e) λk k h=>bx h (λp e=>aE y hl e) λk k h=>h
 | .enm x,a,b,H,r,hl,h=>by
  rw[tY] at h ⊢
  exact bx (m:=ab call x a H) h (λp e=>aE x hl e) λk k h=>h
end
noncomputable def W (call:aw) (ss:fJ) (a:aN) (H:ag) (Q:bT->aN->ag->Prop):Prop:=∀ K,Le a K->∃ fl b aS af,Le b aS/\aQ call ss K H=some (fl,aS,af)/\Q fl b af
noncomputable def TQ (call:aw) (aG:fJ) (Q:bT->aN->ag->Prop) (fl:bT) (K:aN) (H:ag):Prop:=match fl with
 | .next=>W call aG K H Q
 | fl=>Q fl K H
noncomputable def RQ (R:V->ag->Prop) (fl:bT) (_:aN) (H:ag):Prop:=∃ v,fl=.ret v/\R v H
noncomputable def LQ (I:Nat->aN->ag->Prop) (k:Nat) (fl:bT) (K:aN) (H:ag):Prop:=fl=.next/\∃ a,Le a K/\I (k+1) a H
noncomputable def LX (I:Nat->aN->ag->Prop) (ZE:bT->ag->Prop) (k:Nat) (fl:bT) (K:aN) (H:ag):Prop:=(fl=.next/\∃ a,Le a K/\I (k+1) a H)\/(fl≠.next/\ZE fl H)
noncomputable def LR (I:Nat->aN->ag->Prop) (ZE:V->ag->Prop) (k:Nat) (fl:bT) (K:aN) (H:ag):Prop:=(fl=.next/\∃ a,Le a K/\I (k+1) a H)\/∃ v,fl=.ret v/\ZE v H
theorem rJ {fl:bT} {K:aN} {H:ag} {k:aN->ag->Ex} (h:fl≠.next):iI (some (fl,K,H)) k=some (fl,K,H):=by
 cases fl with
 | next=>exact absurd rfl h
 | ret v=>rfl
 | exc c w=>rfl
section
variable {call:aw} {aG:fJ} {K a:aN} {H σ1 ae bg:ag} {Q:bT->aN->ag->Prop}
theorem W.nil (h:Q .next a H):W call .nil a H Q:=λK hl=>⟨_,a,K,H,hl,rfl,h⟩
theorem W.le {ss:fJ} (hl:Le a K) (h:W call ss a H Q):W call ss K H Q:=λr h2=>h r (hl.trans h2)
theorem W.mono {ss:fJ} {Q':bT->aN->ag->Prop} (h:W call ss a H Q) (hq:∀ fl aS af,Q fl aS af->Q' fl aS af):W call ss a H Q':=λK hl=>AU (h K hl) λfl b aS af h1 h2 h3=>⟨fl,b,aS,af,h1,h2,hq _ _ _ h3⟩
theorem W.step {s:CS} {b:aN} (h:∀ K,Le a K->∃ aS,Le b aS/\bu call s K H=some (.next,aS,σ1)) (k:W call aG b σ1 Q):W call (.cons s aG) a H Q:=λK hl=>by
 refine aB (h K hl) λaS fT e=>AU (k aS fT) λfl b iJ jz h1 h2 h3=>⟨fl,b,iJ,jz,h1,?_,h3⟩
 show iI (bu call s K H) (aQ call aG)=_
 rw[e];exact h2
theorem W.out {s:CS} {fl:bT} (fK:fl≠.next) (h:∀ K,Le a K->bu call s K H=some (fl,K,σ1)) (k:Q fl a σ1):W call (.cons s aG) a H Q:=λK hl=>by
 refine⟨fl,a,K,σ1,hl,?_,k⟩
 show iI (bu call s K H) (aQ call aG)=_
 rw[h K hl];exact rJ fK
theorem W.block {s:CS} {t:fJ} (e:∀ K,Le a K->bu call s K H=aQ call t K σ1) (k:W call t a σ1 (TQ call aG Q)):W call (.cons s aG) a H Q:=λK hl=>by
 refine AU (k K hl) λfl b aS af h1 h2 h3=>?_
 have h4:aQ call (.cons s aG) K H=iI (some (fl,aS,af)) (aQ call aG):=by
  show iI (bu call s K H) (aQ call aG)=_
  rw[e K hl,h2]
 cases fl with
 | next=>exact AU (h3 aS h1) λfl b P1 dv g1 g2 g3=>⟨fl,b,P1,dv,g1,h4.trans g2,g3⟩
 | ret v=>exact⟨_,b,aS,af,h1,h4,h3⟩
 | exc c w=>exact⟨_,b,aS,af,h1,h4,h3⟩
theorem W.set {i:Nat} {e:CE} {v:V} {σ1:ag} (h:ab call e a H=some (v,σ1)) (k:W call aG (cn a i v) σ1 Q):W call (.cons (.assign (.one i) e) aG) a H Q :=
 W.step (λK hl=>⟨_,hl.upd i v,by rw[gI];exact jS (by rw[aE e hl h];rfl)⟩) k
theorem W.put {t:gE} {e:CE} {v:V} {b:aN} (h:ab call e a H=some (v,σ1)) (hp:t.put v a=some b) (k:W call aG b σ1 Q):W call (.cons (.assign t e) aG) a H Q :=
 W.step (λK hl=>aB (vW hl hp) λaS h1 h2=>⟨aS,h2,by
  rw[gI]
  refine jS ?_
  rw[aE e hl h]
  show (t.put v K).bind _=_
  rw[h1];rfl⟩) k
theorem W.expr {e:CE} {v:V} (h:ab call e a H=some (v,σ1)) (k:W call aG a σ1 Q):W call (.cons (.expr e) aG) a H Q :=
 W.step (λK hl=>⟨K,hl,by rw[qY];exact jS (by rw[aE e hl h];rfl)⟩) k
theorem W.retE {e:CE} {v:V} {σ1:ag} (h:ab call e a H=some (v,σ1)) (k:Q (.ret v) a σ1):W call (.cons (.ret e) aG) a H Q :=
 W.out (fl:=.ret v) (λq=>nomatch q) (λK hl=>by rw[j5];exact jS (by rw[aE e hl h];rfl)) k
theorem W.ifB {c:CE} {t e:fJ} {b:Bool} {σ1:ag} (h:ab call c a H=some (.bool b,σ1)) (hT:b=true->W call t a σ1 (TQ call aG Q)) (hF:b=false->W call e a σ1 (TQ call aG Q)):W call (.cons (.ite c t e) aG) a H Q:=by
 cases b with
 | true=>exact W.block (λK hl=>by rw[A0,aE c hl h];rfl) (hT rfl)
 | false=>exact W.block (λK hl=>by rw[A0,aE c hl h];rfl) (hF rfl)
theorem W.iteT {c:CE} {t e:fJ} (σ1:ag) (h:cb call c a H=some (true,σ1)) (k:W call t a σ1 (TQ call aG Q)):W call (.cons (.ite c t e) aG) a H Q:=W.ifB (dg h) (λz=>k) λq=>nomatch q
theorem W.iteF {c:CE} {t e:fJ} (σ1:ag) (h:cb call c a H=some (false,σ1)) (k:W call e a σ1 (TQ call aG Q)):W call (.cons (.ite c t e) aG) a H Q:=W.ifB (dg h) (λq=>nomatch q) λz=>k
theorem W.if_ {c:CE} {t e:fJ} {p:Prop} [Decidable p] {σ1:ag} (h:ab call c a H=some (.bool (decide p),σ1)) (hT:p->W call t a σ1 (TQ call aG Q)) (hF:¬ p->W call e a σ1 (TQ call aG Q)):W call (.cons (.ite c t e) aG) a H Q :=
 W.ifB h (λq=>hT (of_decide_eq_true q)) λq=>hF (of_decide_eq_false q)
theorem oY {m:fN} (hm:m=.append\/m=.extend) {r:Nat} {l:List V} (hr:H[r]? = some (.lst l)):m8 m (.ref r) H=true:=by
 have:(lst H r).isSome=true:=by rw[cT hr];rfl
 rcases hm with rfl | rfl <;> exact this
theorem wN {m:fN} (hm:m=.append\/m=.extend) {o e:CE} {r:Nat} {l:List V} {v x:V} (ho:ab call o a H=some (.ref r,H)) (hr:H[r]? = some (.lst l)) (he:ab call e a H=some (v,σ1)) (Lv:ik m (.ref r) [v] σ1=some (x,ae)):ab call (.meth m o (.cons e .nil)) a H=some (x,ae):=by
 show bn (ab call o a H) (λx σ1=>if m8 m x σ1 then bn (a8 call (.cons e .nil) a σ1) λvs ae=>ik m x vs ae else none)=_
 rw[ho]
 show (if m8 m (.ref r) H then bn (a8 call (.cons e .nil) a H) λvs ae=>ik m (.ref r) vs ae else none)=_
 rw[if_pos (oY hm hr),aC he];exact Lv
theorem W.append {o e:CE} (r:Nat) (l:List V) (v:V) (σ1:ag) (ho:ab call o a H=some (.ref r,H)) (hr:H[r]? = some (.lst l)) (he:ab call e a H=some (v,σ1)) (Ta:σ1[r]? = some (.lst l)) (hz:l.length<=ar)
  (k:W call aG a (σ1.set r (.lst (l++[v]))) Q):W call (.cons (.expr (.meth .append o (.cons e .nil))) aG) a H Q :=
 W.expr (wN (.inl rfl) ho hr he (by
  show (lst σ1 r).bind (λl=>if l.length<=ar then some (V.none,σ1.set r (.lst (l++[v]))) else none)=_
  rw[cT Ta]
  exact if_pos hz)) k
theorem W.append0 {o e:CE} (r:Nat) (l:List V) (v:V) (ho:ab call o a H=some (.ref r,H)) (hr:H[r]? = some (.lst l)) (he:ab call e a H=some (v,H)) (hz:l.length<=ar)
  (k:W call aG a (H.set r (.lst (l++[v]))) Q):W call (.cons (.expr (.meth .append o (.cons e .nil))) aG) a H Q:=W.append r l v H ho hr he hr hz k
theorem W.setV {o i v:CE} {x y z:V} (hv:ab call v a H=some (x,σ1)) (ho:ab call o a σ1=some (y,σ1)) (hi:ab call i a σ1=some (z,σ1)) (hs:oZ y z x σ1=some ae) (c:W call aG a ae Q):W call (.cons (.setItem o i v) aG) a H Q :=
 W.step (λK hl=>⟨K,hl,by
  rw[nZ,aE v hl hv]
  show bn (ab call o K σ1) (λy ae=>bn (ab call i K ae) λz bg=>(oZ y z x bg).bind λjM=>some (bT.next,K,jM))=_
  rw[aE o hl ho]
  show bn (ab call i K σ1) (λz bg=>(oZ y z x bg).bind λjM=>some (bT.next,K,jM))=_
  rw[aE i hl hi]
  show (oZ y z x σ1).bind (λjM=>some (bT.next,K,jM))=_
  rw[hs];rfl⟩) c
theorem W.setItem {o i v:CE} (r:Nat) (k:Int) (l:List V) (x:V) (σ1:ag) (hv:ab call v a H=some (x,σ1)) (ho:ab call o a σ1=some (.ref r,σ1)) (hi:ab call i a σ1=some (.int k,σ1)) (hr:σ1[r]? = some (.lst l)) (jH:0<=k) (z8:k.toNat<l.length)
  (c:W call aG a (σ1.set r (.lst (l.set k.toNat x))) Q):W call (.cons (.setItem o i v) aG) a H Q :=
 W.setV hv ho hi (by
  show (σ1[r]?).bind (Ji σ1 r (.int k) x)=_
  rw[hr]
  exact if_pos ⟨jH,z8⟩) c
theorem W.setItem0 {o i v:CE} (r:Nat) (k:Int) (l:List V) (x:V) (hv:ab call v a H=some (x,H)) (ho:ab call o a H=some (.ref r,H)) (hi:ab call i a H=some (.int k,H)) (hr:H[r]? = some (.lst l)) (jH:0<=k) (z8:k.toNat<l.length)
  (c:W call aG a (H.set r (.lst (l.set k.toNat x))) Q):W call (.cons (.setItem o i v) aG) a H Q:=W.setItem r k l x H hv ho hi hr jH z8 c
theorem yR {body:fJ} {t:gE} {w:List (Nat×aZ)} {xs:List V} (I:Nat->aN->ag->Prop) (ZE:bT->ag->Prop) (hw:∀ k K H,I k K H->ci H w)
  (step:∀ k x K H,xs[k]? = some x->I k K H->∃ aS,t.put x K=some aS/\W call body aS H (LX I ZE k)) :
  ∀ (ys:List V) (k:Nat) (a K:aN) (H:ag),xs.drop k=ys->k<=xs.length->Le a K->I k a H->∃ fl xS σe,jK (aQ call body) t w ys K H=some (fl,xS,σe)/\((fl=.next/\∃ b,Le b xS/\I xs.length b σe)\/(fl≠.next/\ZE fl σe)):=by
 intro ys
 induction ys with
 | nil =>
  intro k a K H hd hk hl hI
  have sV:k=xs.length:=U3 hk (List.drop_eq_nil_iff.mp hd)
  subst sV
  exact⟨.next,K,H,gP (hw _ _ _ hI),.inl ⟨rfl,a,hl,hI⟩⟩
 | cons y ys ih =>
  intro k a K H hd hk hl hI
  have hx:xs[k]? = some y:=by
   have:=congrArg (·[0]?) hd
   simpa using this
  have cE:k<xs.length:=(J'.mp hx).1
  refine aB (step k y a H hx hI) λa' h1 h2=>aB (vW hl h1) λaS g1 g2=>AU (h2 aS g2) λfl b iJ jz h4 h5 h3=>?_
  have e:jK (aQ call body) t w (y::ys) K H=iI (some (fl,iJ,jz)) λiJ jz=>jK (aQ call body) t w ys iJ jz:=by
   show ft H w ((t.put y K).bind λaS=>iI (aQ call body aS H) λiJ jz=>jK (aQ call body) t w ys iJ jz)=_
   rw[gP (hw _ _ _ hI),g1]
   show iI (aQ call body aS H) _=_
   rw[h5]
  rw[e]
  rcases h3 with ⟨rfl,c,h6,h7⟩ | ⟨fK,h3⟩
  ·exact ih (k+1) c iJ jz (by rw[<-Xn,hd];rfl) cE (h6.trans h4) h7
  ·exact⟨fl,iJ,jz,rJ fK,.inr ⟨fK,h3⟩⟩
theorem W.loopE {t:gE} {it:gb} {body:fJ} {xs:List V} {w:List (Nat×aZ)} (h:bS call it K H=some (xs,w,σ1)) (I:Nat->aN->ag->Prop) (ZE:bT->ag->Prop) {a:aN} (ha:Le a K) (h0:I 0 a σ1) (hw:∀ k K H,I k K H->ci H w)
  (step:∀ k x K H,xs[k]? = some x->I k K H->∃ aS,t.put x K=some aS/\W call body aS H (LX I ZE k))
  (k:∀ aS af,I xs.length aS af->W call aG aS af Q) (kr:∀ fl aS af,ZE fl af->Q fl aS af):W call (.cons (.for_ t it body) aG) K H Q:=λr hr=>by
 refine mQ (yR I ZE hw step xs 0 a r σ1 rfl (UJ _) (ha.trans hr) h0) λfl xS σe h1 h2=>?_
 have ex:bu call (.for_ t it body) r H=some (fl,xS,σe):=by
  rw[AZ]
  exact jS (by rw[rN it hr h];exact h1)
 have eq:aQ call (.cons (.for_ t it body) aG) r H=iI (some (fl,xS,σe)) (aQ call aG):=by
  show iI (bu call (.for_ t it body) r H) (aQ call aG)=_
  rw[ex]
 rcases h2 with ⟨rfl,b,hl,hI⟩ | ⟨fK,hJ⟩
 ·exact AU (k b σe hI xS hl) λfl b P1 dv g1 g2 g3=>⟨fl,b,P1,dv,g1,eq.trans g2,g3⟩
 ·exact⟨fl,xS,xS,σe,Le.refl _,eq.trans (rJ fK),kr fl xS σe hJ⟩
theorem W.loop {t:gE} {it:gb} {body:fJ} {xs:List V} {w:List (Nat×aZ)} {σ1:ag} (h:bS call it K H=some (xs,w,σ1)) (I:Nat->aN->ag->Prop) {a:aN} (ha:Le a K) (h0:I 0 a σ1) (hw:∀ k K H,I k K H->ci H w)
  (step:∀ k x K H,xs[k]? = some x->I k K H->∃ aS,t.put x K=some aS/\W call body aS H (LQ I k))
  (k:∀ aS af,I xs.length aS af->W call aG aS af Q):W call (.cons (.for_ t it body) aG) K H Q :=
 W.loopE h I (λz z=>False) ha h0 hw (λk x K H hx hI=>aB (step k x K H hx hI) λaS h1 h2=>⟨aS,h1,h2.mono λz z z=>.inl⟩) k λz z z q=>q.elim
theorem W.loopR {t:gE} {it:gb} {body:fJ} {xs:List V} {w:List (Nat×aZ)} {σ1:ag} (h:bS call it K H=some (xs,w,σ1)) (I:Nat->aN->ag->Prop) (ZE:V->ag->Prop) {a:aN} (ha:Le a K) (h0:I 0 a σ1) (hw:∀ k K H,I k K H->ci H w)
  (step:∀ k x K H,xs[k]? = some x->I k K H->∃ aS,t.put x K=some aS/\W call body aS H (LR I ZE k))
  (k:∀ aS af,I xs.length aS af->W call aG aS af Q) (kr:∀ v aS af,ZE v af->Q (.ret v) aS af):W call (.cons (.for_ t it body) aG) K H Q :=
 W.loopE h I (λfl H=>∃ v,fl=.ret v/\ZE v H) ha h0 hw (λk x K H hx hI=>aB (step k x K H hx hI) λaS h1 h2=>⟨aS,h1,h2.mono λz z z q=>q.imp id λq=>q.elim λv q=>⟨q.1 ▸ (λe=>nomatch e),v,q⟩⟩) k λfl aS af q=>q.elim λv q=>q.1 ▸ kr v aS af q.2
end
theorem cc {P:List bj} {d k:Nat} {f:bj} {as:List V} {H:ag} (hk:P[k]? = some f) (ha:as.length=f.arity) {R:V->ag->Prop} (h:W (az P d) f.body (b8 as) H (RQ R)):∃ v af,az P (d+1) k as H=some (.ok v,af)/\R v af:=by
 obtain ⟨fl,b,aS,af,_,h1,v,rfl,h2⟩:=h _ (Le.refl _)
 exact⟨v,af,by rw[nj hk ha,h1];rfl,h2⟩
section
variable {call:aw} {K:aN} {H σ1 ae:ag}
theorem eA {a b:CE} {x y:Int} (ha:ab call a K H=some (.int x,σ1)) (hb:ab call b K σ1=some (.int y,ae)):ab call (.cmp .Eq a b) K H=some (.bool (decide (x=y)),ae):=by
 rw[<-Pl];exact bO ha hb rfl
theorem gi {r:Nat} {l:List V} (hr:H[r]? = some (.lst l)):fY .len [.ref r] H=some (.int l.length,H):=by
 show ((lst H r).bind _).bind _=_
 rw[cT hr];rfl
end
theorem nR {P:List bj} {d k:Nat} {f:bj} {as:List V} {H:ag} {v:V} (hk:P[k]? = some f) (ha:as.length=f.arity) (h:W (az P d) f.body (b8 as) H (RQ λu af=>u=v/\af=H)):az P (d+1) k as H=some (.ok v,H):=by
 refine kF (cc (R:=λu af=>u=v/\af=H) hk ha h) λv' af h1 q4 q5=>?_;subst q4 q5
 exact h1
theorem fW {P:List bj} {k d:Nat} {H:ag} (hk:P[k]? = some kG) (x y:Int) (hy:y.natAbs<18446744073709551616):az P (d+1) k [.int x,.int y] H=some (.ok (.int (ry x y)),H):=by
 have b1:=bF (a:=(x+104729 * y)+(7919 * y) * y) (b:=998244353) (by decide)
 refine nR hk rfl ?_
 refine W.set (v:=.int (((x+104729 * y)+(7919 * y) * y).fmod 998244353)) (σ1:=H) (aJ (aJ (aJ (x:=.int x) rfl (aJ (x:=.int 104729) (y:=.int y) rfl rfl (gy (gj hy))) rfl) (aJ (aJ (x:=.int 7919) (y:=.int y) rfl rfl (gy (gj hy))) (y:=.int y) rfl (gy (gj hy))) rfl) rfl (cr (by decide))) ?_
 have m4:mx (((x+104729 * y)+(7919 * y) * y).fmod 998244353) (((x+104729 * y)+(7919 * y) * y).fmod 998244353)=true:=gj (nJ b1.1 (WT b1.2 (by decide)))
 have em:ry x y=(((((x+104729 * y)+(7919 * y) * y).fmod 998244353) * (((x+104729 * y)+(7919 * y) * y).fmod 998244353)).fmod 998244353 * 1000003).fmod 998244353:=rfl
 rw[em]
 generalize ((x+104729 * y)+(7919 * y) * y).fmod 998244353=z at m4
 exact W.retE (aJ (aJ (aJ (aJ (x:=.int z) (y:=.int z) rfl rfl (gy m4)) rfl (cr (by decide))) rfl (gy (gj (by decide)))) rfl (cr (by decide))) ⟨_,rfl,rfl,rfl⟩
theorem pS {P:List bj} {k d:Nat} {H:ag} {r:Nat} {cs:List Int} (hk:P[k]? = some dj) (hr:H[r]? = some (.lst (cs.map .int))) (j:Nat) (hj:j<1000000):az P (d+1) k [.ref r,.int j] H=some (.ok (.int (cellF cs j)),H):=by
 have m1:mx ((j:Int)+3) ((j:Int)+7)=true:=gj (show j+7<18446744073709551616 from Ul (Wv hj 7) (by decide))
 refine nR hk rfl ?_
 refine W.if_ (p:=(j:Int)<cs.length) (bO (x:=.int j) rfl (aX (vs:=[.ref r]) rfl ((gi hr).trans (by rw[A']))) rfl) (λhc=>?_) λhc=>W.nil ?_
 ·have cE:j<cs.length:=by (exact Vw.mp ‹_›)
  have e:cs[j]? = some cs[j]:=Ue cE
  refine W.retE (aP r j _ (.int cs[j]) rfl rfl hr (Uj _) (by rw[Us,Um,e];rfl)) ⟨_,rfl,?_,rfl⟩
  rw[cellF,e]
 ·have e:cs[j]? = none:=VL (by exact jL (y2 0xc0115b10 rfl hc))
  refine W.retE (aJ (aJ (x:=.int (j+3)) (y:=.int (j+7)) rfl rfl (gy m1)) rfl (gy (gj (by decide)))) ⟨_,rfl,?_,rfl⟩
  rw[cellF,e]
theorem iR {P:List bj} {k d:Nat} {H:ag} (hk:P[k]? = some iv) (x m:Int) (hm:m≠0):az P (d+1) k [.int x,.int m] H=some (.ok (.int (fD x m)),H):=by
 refine nR hk rfl ?_
 refine W.set (v:=.int (x.fmod 8)) (σ1:=H) rfl ?_
 refine W.if_ (p:=x.fmod 8=0) (eA rfl rfl) (λhc=>?_) λhc=>W.nil ?_
 ·exact W.retE (aJ (x:=.int 1) rfl (aJ (x:=.int (x.fdiv 8)) (y:=.int m) rfl rfl (cr hm)) rfl) ⟨_,rfl,by rw[fD,if_pos hc],rfl⟩
 ·refine W.if_ (p:=x.fmod 8=1) (eA rfl rfl) (λBh=>?_) λBh=>W.nil ?_
  ·exact W.retE rfl ⟨_,rfl,by rw[fD,if_neg hc,if_pos Bh],rfl⟩
  ·exact W.retE rfl ⟨_,rfl,by rw[fD,if_neg hc,if_neg Bh],rfl⟩
theorem qd {P:List bj} {k d:Nat} {H:ag} (hk:P[k]? = some jD) (x:Int):az P (d+1) k [.int x] H=some (.ok (.int (qc x)),H):=by
 refine nR hk rfl ?_
 refine W.if_ (p:=x.fmod 6=0) (eA rfl rfl) (λhc=>?_) λhc=>W.nil ?_
 ·exact W.retE rfl ⟨_,rfl,by rw[qc,if_pos hc],rfl⟩
 ·refine W.if_ (p:=x.fmod 6<3) (bO rfl rfl rfl) (λBh=>?_) λBh=>W.nil ?_
  ·exact W.retE rfl ⟨_,rfl,by rw[qc,if_neg hc,if_pos Bh],rfl⟩
  ·exact W.retE rfl ⟨_,rfl,by rw[qc,if_neg hc,if_neg Bh],rfl⟩
noncomputable def jd:Int->List Int->List Int
 | _,[]=>[]
 | m,c::cs=>(m * 6364136223846793005+c+1442695040888963407).fmod 1000000000000000003::jd ((m * 6364136223846793005+c+1442695040888963407).fmod 1000000000000000003) cs
theorem CF (H:ag) (a b:aZ):(H++[a]).set H.length b=H++[b]:=by simp
theorem Jo {call:aw} {K:aN} {H σ1:ag} {e:CE} {l:List Int} (h:ab call e K H=some (.ro l,σ1)):bS call (.ex e) K H=some (l.map .int,[],σ1):=by
 show bn (ab call e K H) (λx σ1=>(jf σ1 x).bind λp=>some (p.1,p.2,σ1))=_
 rw[h];rfl
theorem vL {P:List bj} {k d:Nat} {H:ag} (hk:P[k]? = some i4) (ns:List Int) (hn:ns.length<=63):az P (d+1) k [.ro ns] H=some (.ok (.ref H.length),H++[.lst ((jd 1 ns).map .int)]):=by
 have dZ:ar=16777216:=rfl
 obtain ⟨v,af,h,rfl,rfl⟩:=cc (R:=λv af=>v=.ref H.length/\af=H++[.lst ((jd 1 ns).map .int)]) (H:=H) (d:=d) hk (as:=[.ro ns]) rfl (by
  refine W.set (v:=.ref H.length) (σ1:=H++[.lst []]) rfl ?_
  refine W.set (v:=.int 1) (σ1:=H++[.lst []]) rfl ?_
  refine W.loop (Jo (l:=ns) rfl)
   (λj K af=>∃ m acc,K=bp [none,some (.ref H.length),some (.int m)]/\af=H++[.lst (acc.map .int)]/\acc++jd m (ns.drop j)=jd 1 ns/\acc.length<=j/\j<=ns.length)
   (a:=bp [none,some (.ref H.length),some (.int 1)]) (ay ⟨rfl,rfl,trivial⟩) ⟨1,[],rfl,rfl,rfl,Un _,UJ _⟩ (λy y y y=>b0 _) ?_ ?_
  ·rintro j x _ _ hx ⟨m,acc,rfl,rfl,h3,h4,hj⟩
   have cE:j<ns.length:=by have:=(J'.mp hx).1;rwa [A'] at this
   have Ts:x=.int ns[j]:=by rw[Um,Ue cE] at hx;exact (sm hx).symm
   apply aV Ts
   rw[Vm cE] at h3
   refine⟨_,rfl,?_⟩
   generalize hz:(m * 6364136223846793005+ns[j]+1442695040888963407).fmod 1000000000000000003=z
   refine W.set (v:=.int z) (σ1:=H++[.lst (acc.map .int)]) (by rw[<-hz];exact aJ (aJ (aJ (aJ (x:=.int m) rfl rfl (gy (gj (by decide)))) rfl rfl) rfl rfl) rfl (cr (by decide))) ?_
   refine W.append0 H.length (acc.map .int) (.int z) rfl (aH _ _) rfl (by rw[A'];exact jL (y4 0xc1210b003f9013b00000000000001000000d110b3211b03 rfl (iL hn) (iE dZ) (iL h4) (iT cE))) ?_
   rw[CF]
   refine W.nil ⟨rfl,bp [none,some (.ref H.length),some (.int z)],ay ⟨rfl,rfl,trivial⟩,z,acc++[z],rfl,by simp,?_,by simp;exact h4,cE⟩
   rw[<-h3,jd,hz];simp
  ·rintro _ _ ⟨m,acc,rfl,rfl,h3,_⟩
   rw[A',XA,jd,Uu] at h3
   apply aV h3
   exact W.retE rfl ⟨_,rfl,rfl,rfl⟩)
 exact h
structure lA where
 a:Int
 p:Int
 l:Int
noncomputable def lA.v (o:lA):V:=.tup [.int o.a,.int o.p,.int o.l]
theorem rF (a b:Nat):im a b 1=b - a:=by
 show (if (a:Int)<b then ((b:Int) - a - 1) / 1+1 else 0).toNat=b - a
 by_cases h:(a:Int)<b
 ·rw[if_pos h,YU,XV];exact YH b a
 ·rw[if_neg h];exact (Xu (Vv.mp (Vj.mp h))).symm
theorem kf (a b:Nat):(bQ a b 1).length=b - a:=(A' _).trans (UN.trans (rF a b))
theorem oW {a b j:Nat} {x:V} (h:(bQ a b 1)[j]? = some x):j<b - a/\x=.int ((a:Int)+j):=by
 have hj:j<b - a:=kf a b ▸ (J'.mp h).1
 unfold bQ at h
 rw[Um,VI (rF a b ▸ hj)] at h
 exact⟨hj,(sm h).symm.trans (congrArg (λz=>V.int ((a:Int)+z)) (WB j))⟩
theorem eI {n:Nat} {j:Nat} {x:V} (h:(bQ 0 n 1)[j]? = some x):j<n/\x=.int j:=VB j ▸ oW (a:=0) h
theorem fZ (n:Nat):(bQ 0 n 1).length=n:=kf 0 n
theorem ov (l:List Int):dA (l.map .int)=some l:=by
 induction l with
 | nil=>rfl
 | cons x l ih =>
  show (dA (l.map .int)).bind (λl=>some (x::l))=_
  rw[ih];rfl
theorem dU {α:Type} {elt:aN->ag->Option (V×ag)} {cond:aN->ag->Option (Bool×ag)} {t:gE} {w:List (Nat×aZ)} {K:aN} {H:ag} {g:α->V} {p:α->Bool} {f:α->V} (hw:ci H w) {xs:List α} :
  (∀ x∈xs,∃ aS,t.put (g x) K=some aS/\cond aS H=some (p x,H)/\(p x=true->elt aS H=some (f x,H)))->dT elt cond t w (xs.map g) K H=some ((xs.filter p).map f,H):=by
 induction xs with
 | nil=>exact λz=>gP hw
 | cons x xs ih =>
  intro h
  refine ew (h x z') λaS h1 h2 h3=>?_
  have ih:=ih λy hy=>h y (H' _ hy)
  show ft H w ((t.put (g x) K).bind λaS=>bn (cond aS H) λb σ1=>if b then bn (elt aS σ1) λv ae=>bn (dT elt cond t w (xs.map g) K ae) λl bg=>some (v::l,bg) else dT elt cond t w (xs.map g) K σ1)=_
  rw[gP hw,h1]
  show (bn (cond aS H) λb σ1=>if b then bn (elt aS σ1) λv ae=>bn (dT elt cond t w (xs.map g) K ae) λl bg=>some (v::l,bg) else dT elt cond t w (xs.map g) K σ1)=_
  rw[h2,Y8]
  show (if p x=true then bn (elt aS H) λv ae=>bn (dT elt cond t w (xs.map g) K ae) λl bg=>some (v::l,bg) else dT elt cond t w (xs.map g) K H)=_
  by_cases hp:p x=true
  ·rw[if_pos hp,if_pos hp,h3 hp]
   show (bn (dT elt cond t w (xs.map g) K H) λl bg=>some (f x::l,bg))=_
   rw[ih];rfl
  ·rw[if_neg hp,if_neg hp];exact ih
noncomputable def bJ (l:List Int):Int:=l.foldl (· + ·) 0
theorem qz (l:List Int) (x:Int):bJ (l++[x])=bJ l+x:=by simp [bJ]
theorem pc {α:Type} {call:aw} {elt:CE} {t:gE} {it:gb} {ifs:fh} {K:aN} {H σ1:ag} {w:List (Nat×aZ)} {g:α->V} {p:α->Bool} {f:α->Int} {xs:List α} (hs:bS call it K H=some (xs.map g,w,σ1)) (hw:ci σ1 w) (hz:xs.length<=ar)
  (h:∀ x∈xs,∃ aS,t.put (g x) K=some aS/\bX call ifs aS σ1=some (p x,σ1)/\(p x=true->ab call elt aS σ1=some (.int (f x),σ1))) :
  ab call (.prim .sum (.cons (.comp elt t it ifs) .nil)) K H=some (.int (bJ ((xs.filter p).map f)),σ1++[.lst (((xs.filter p).map f).map .int)]):=by
 have hc:=dU (f:=λx=>V.int (f x)) hw h
 rw[show (xs.filter p).map (λx=>V.int (f x))=((xs.filter p).map f).map .int from by simp] at hc
 have vm:(((xs.filter p).map f).map V.int).length<=ar:=by
  have:=VN p xs
  simp;exact B' this hz
 exact aX (aC (fE hs hc vm)) (C9 (aH _ _) (ov _))
theorem ub {call:aw} {e:CE} {K:aN} {H σ1:ag} {b:Bool} (h:ab call e K H=some (.bool b,σ1)):bX call (.cons e .nil) K H=some (b,σ1):=by
 show iW (ab call e K H) (λb σ1=>if b then bX call .nil K σ1 else some (false,σ1))=_
 rw[h]
 cases b <;> rfl
theorem C7 {call:aw} {a b:CE} {K:aN} {H:ag} {xs ys:List V} (ha:ab call a K H=some (.tup xs,H)) (hb:ab call b K H=some (.tup ys,H)):bS call (.zip a b) K H=some (dI xs ys,[(H.length,.own)],H++[.own]):=by
 show bn (ab call a K H) (λx σ1=>bn (ab call b K σ1) λy ae=>(uJ x).bind λxs=>(uJ y).bind λys=>some (dI xs ys,[(ae.length,aZ.own)],ae++[.own]))=_
 rw[ha]
 show bn (ab call b K H) (λy ae=>(uJ y).bind λys=>some (dI xs ys,[(ae.length,aZ.own)],ae++[.own]))=_
 rw[hb];rfl
theorem cu {call:aw} {a:CE} {K:aN} {H σ1:ag} {n:Nat} (ha:ab call a K H=some (.int n,σ1)) (hn:n<=1000000000):bS call (.rng1 a) K H=some (bQ 0 n 1,[],σ1):=by
 have r3:fx (n:Int)=true:=by simp [fx];(exact Vv.mpr ‹_›)
 show lN (ab call a K H) (λn σ1=>if fx n then some (bQ 0 n 1,[],σ1) else none)=_
 rw[ha]
 exact if_pos r3
theorem eD {α:Type} (l:List α):l.filter (λz=>true)=l:=List.filter_eq_self.mpr λz z=>rfl
theorem PP {call:aw} {e:CE} {K:aN} {H σ1:ag} {v:V} (h:ab call e K H=some (v,σ1)):gJ (aQ call (.cons (.ret e) .nil) K H)=some (.ok v,σ1):=by
 show gJ (iI (bu call (.ret e) K H) _)=_
 rw[j5,jS (r:=(.ret v,K,σ1)) (by rw[h];rfl)];rfl
theorem ke (n:Nat):bQ 0 n 1=(UC n).map λj:Nat=>V.int j:=by
 unfold bQ
 rw[show im 0 n 1=n from rF 0 n]
 exact VH λj z=>by rw[WB,VB]
theorem nr {os:List lA} {j:Nat} (hj:j<os.length):(os.map lA.v)[((j:Nat):Int).toNat]? = some (((os[j]?).getD ⟨0,0,0⟩).v):=by
 rw[Us,Um,Ue hj];rfl
theorem fF {cs:List Int} {j:Nat} (hj:j<cs.length):(cs.map V.int)[((j:Nat):Int).toNat]? = some (.int ((cs[j]?).getD 0)):=by
 rw[Us,Um,Ue hj];rfl
theorem mB {n:Nat} {j:Nat} {x:V} (h:(bQ 1 (n+1:Nat) 1)[j]? = some x):j<n/\x=.int ((j:Int)+1):=Yo 1 j ▸ oW (a:=1) h
theorem mC (n:Nat):(bQ 1 (n+1:Nat) 1).length=n:=kf 1 (n+1)
section
variable {call:aw} {K:aN} {H σ1 ae bg:ag}
theorem dH {es:fh} {vs:List V} (h:a8 call es K H=some (vs,σ1)) (hz:vs.length<=ar):ab call (.list es) K H=some (.ref σ1.length,σ1++[.lst vs]):=by
 show bn _ _=_
 rw[h]
 exact if_pos hz
theorem cG {es:fh} {vs:List V} (h:a8 call es K H=some (vs,σ1)) (hz:vs.length<=ar):ab call (.tuple es) K H=some (.tup vs,σ1):=by
 show bn _ _=_
 rw[h]
 exact if_pos hz
theorem dN {a b:CE} {x y:Str} (ha:ab call a K H=some (.str x,σ1)) (hb:ab call b K σ1=some (.str y,ae)) (hz:x.length+y.length<=ar):ab call (.bin .Add a b) K H=some (.str (x++y),ae) :=
 aJ ha hb (if_pos hz)
theorem lQ {a lo hi:CE} {x y z:V} {r:Option (V×ag)} (ha:ab call a K H=some (x,σ1)) (hl:ab call lo K σ1=some (y,ae)) (hh:ab call hi K ae=some (z,bg)) (h:o0 x y z bg=r):ab call (.slc a lo hi) K H=r:=by
 show bn (ab call a K H) (λx σ1=>bn (ab call lo K σ1) λy ae=>bn (ab call hi K ae) λz bg=>o0 x y z bg)=_
 rw[ha]
 show bn (ab call lo K σ1) (λy ae=>bn (ab call hi K ae) λz bg=>o0 x y z bg)=_
 rw[hl]
 show bn (ab call hi K ae) (λz bg=>o0 x y z bg)=_
 rw[hh];exact h
theorem Et {o e:CE} {x y:Str} (ho:ab call o K H=some (.str x,σ1)) (he:ab call e K σ1=some (.str y,ae)):ab call (.meth .find o (.cons e .nil)) K H=some (.int (Txt.find x y),ae):=by
 show bn (ab call o K H) (λx σ1=>if m8 .find x σ1 then bn (a8 call (.cons e .nil) K σ1) λvs ae=>ik .find x vs ae else none)=_
 rw[ho]
 show bn (a8 call (.cons e .nil) K σ1) (λvs ae=>ik .find (.str x) vs ae)=_
 rw[aC he];rfl
theorem oB {k:Int} (h:0<=k/\k<4611686018427387904):kW (.int k)=some k.toNat:=by
 show (if 0<=k/\k<4611686018427387904 then some k.toNat else none)=_
 rw[if_pos h]
theorem kL {k:Int} {n:Nat} (h:0<=k/\k<4611686018427387904):jv n (.int k)=some (min n k.toNat):=by
 show (if 0<=k/\k<4611686018427387904 then some (min n k.toNat) else none)=_
 rw[if_pos h]
theorem QU {k:Nat} (h:k<=1000):0<=(k:Int)/\(k:Int)<4611686018427387904:=⟨Uj k,V5 (Vv.mpr h) (by decide)⟩
theorem qQ {α:Type} (l:List α) (i j:Nat):(mh l i j).length<=l.length:=by
 unfold mh
 rw[VE,UT]
 exact B' (VG _ _) (WZ _ _)
theorem yp {e:CE} {x:Str} (h:ab call e K H=some (.str x,σ1)) (hx:x.length<=ar):ab call (.prim .len (.cons e .nil)) K H=some (.int x.length,σ1) :=
 aX (aC h) (if_pos hx)
theorem AY {a b:CE} {p q:Prop} [Decidable p] [Decidable q] (ha:ab call a K H=some (.bool (decide p),H)) (hb:ab call b K H=some (.bool (decide q),H)):ab call (.and a b) K H=some (.bool (decide (p/\q)),H):=by
 by_cases hp:p
 ·rw[decide_eq_true hp] at ha
  rw[nX ha hb]
  simp [hp]
 ·rw[decide_eq_false hp] at ha
  rw[qX ha]
  simp [hp]
theorem fm {a b:Int} (h:0<b):∃ n:Nat,a.fmod b=n/\(n:Int)<b:=by
 refine aR (bF (a:=a) h) λh1 h2=>?_
 exact⟨(a.fmod b).toNat,(Vf h1).symm,by rw[Vf h1];exact h2⟩
end
noncomputable def sg:Str := "abcdefghijklmnopqrstuvwxyz"
theorem Jk:sg.length=26:=by decide +kernel
noncomputable def lu:List Str:=["total", "day", "flour", "salt", "left", "used", "short", "salts", "a", "z", "oil"]
structure a0 where
 n:Str
 a:Int
 l:Int
noncomputable def a0.v (b:a0):V:=.tup [.str b.n,.int b.a,.int b.l]
theorem dJ {H:ag} {r:Nat} {m m':aZ} (e:H[r]? = some m):(H.set r m')[r]? = some m':=Xh (J'.mp e).1
theorem j3 {P:List bj} {k d:Nat} {H:ag} {r:Nat} {cs:List Int} (hk:P[k]? = some dj) (hr:H[r]? = some (.lst (cs.map .int))) (j:Nat) (hj:j<1000) {z:Int} (hz:z=j):az P (d+1) k [.ref r,.int z] H=some (.ok (.int (cellF cs j)),H):=by
 apply aV hz;exact pS hk hr j (by exact jT (y1 0x1c000000000000000f4240d011b03e890 rfl (iT hj)))
noncomputable def A2 (iC:Nat):bj:=⟨1,(.cons (.assign (.one 1) (.call iC (.cons (.var 0) (.cons (.cst (.int 0)) .nil))))
 (.cons (.assign (.one 2) (.idx (.list (.cons (.cst (.int 1)) (.cons (.cst (.int 2)) (.cons (.cst (.int 3)) (.cons (.cst (.int 4)) .nil))))) (.bin .Mod (.call iC (.cons (.var 0) (.cons (.cst (.int 1)) .nil))) (.cst (.int 4)))))
 (.cons (.ite (.cmp .Eq (.bin .Mod (.bin .FloorDiv (.call iC (.cons (.var 0) (.cons (.cst (.int 1)) .nil))) (.cst (.int 4))) (.cst (.int 16))) (.cst (.int 0))) (.cons (.assign (.one 2) (.cst (.int 12)))
 .nil) .nil)
 (.cons (.ret (.list (.cons (.var 1) (.cons (.var 2) .nil))))
 .nil))))⟩
theorem EB {n:Nat} (h:n<4):([V.int 1,.int 2,.int 3,.int 4]:List V)[n]? = some (.int (n+1:Nat)):=by
 match n,h with
 | 0,_=>rfl
 | 1,_=>rfl
 | 2,_=>rfl
 | 3,_=>rfl
theorem vN {P:List bj} {k d iC:Nat} {H:ag} {r:Nat} {cs:List Int} (hk:P[k]? = some (A2 iC)) (hC:P[iC]? = some dj) (hr:H[r]? = some (.lst (cs.map .int))) :
  ∃ (q:Nat) (aF:Int) (m:Nat) (af:ag),az P (d+2) k [.ref r] H=some (.ok (.ref q),af)/\af[q]? = some (.lst [.int aF,.int m])/\ax H af/\1<=m/\m<=12:=by
 have ec:∀ (j:Nat),j<1000->∀ af,ax H af->az P (d+1) iC [.ref r,.int j] af=some (.ok (.int (cellF cs j)),af):=λj hj af hK=>pS hC (hK _ _ hr) j (Ul ‹_<_› (by decide))
 obtain ⟨v,af,h,q,aF,m,rfl,h1,h2,h3,h4⟩:=cc hk (as:=[.ref r]) rfl (by
  refine W.set (al rfl (ec 0 (by decide) H (ax.refl _))) ?_
  generalize cellF cs 0=aF
  have NY:=ec 1 (by decide)
  generalize cellF cs 1=c at NY
  refine aB (fm (a:=c) (b:=4) (by decide)) λn hn j7=>?_
  have K1:ax H (H++[.lst [V.int 1,.int 2,.int 3,.int 4]]):=ax.app _ _
  refine W.set (v:=.int (n+1:Nat)) (aP H.length n _ _ (dH (vs:=[V.int 1,.int 2,.int 3,.int 4]) rfl (by decide)) (by rw[<-hn];exact aJ (al rfl (NY _ K1)) rfl (cr (by decide))) (aH _ _) (Uj _) (EB (Vw.mp ‹_›))) ?_
  generalize H++[.lst [V.int 1,.int 2,.int 3,.int 4]]=bv at K1
  have gJ:∀ (m:Nat) (K:aN),K 1=some (.int aF)->K 2=some (.int m)->1<=m->m<=12->W (az P (d+1)) (.cons (.ret (.list (.cons (.var 1) (.cons (.var 2) .nil)))) .nil) K bv (λfl z af=>∃ v,fl=.ret v/\∃ (q:Nat) (aF:Int) (m:Nat),v=.ref q/\af[q]? = some (.lst [.int aF,.int m])/\ax H af/\1<=m/\m<=12):=by
   intro m K g1 g2 h1 h2
   exact W.retE (dH (aI (an g1) (aC (an g2))) (by simp only[VV,XJ];decide)) ⟨_,rfl,_,aF,m,rfl,aH _ _,K1.trans (ax.app _ _),h1,h2⟩
  refine W.if_ (eA (aJ (aJ (al rfl (NY _ K1)) rfl (nU (by decide) (by decide))) rfl (cr (by decide))) rfl) (λhc=>?_) λhc=>W.nil ?_
  ·refine W.set rfl (W.nil ?_)
   exact gJ 12 _ rfl rfl (by decide) (by decide)
  ·exact gJ (n+1) _ rfl rfl (by exact jL (y2 0xc11810b00813ba1801 rfl (iP _) (iA _ _))) (by (exact Ul (Vw.mp ‹_<_›) (by decide))))
 exact⟨q,aF,m,af,h,h1,h2,h3,h4⟩
theorem qg {P:List bj} {k d:Nat} {H:ag} (hk:P[k]? = some jF) (c:Int) (few yY:Nat) (Ij:few<=yY):∃ n:Nat,az P (d+1) k [.int c,.int few,.int yY] H=some (.ok (.int n),H)/\n<=yY:=by
 obtain ⟨v,af,h,rfl,n,rfl,h2⟩:=cc (R:=λv af=>af=H/\∃ n:Nat,v=.int n/\n<=yY) (H:=H) hk (as:=[.int c,.int few,.int yY]) rfl (by
  refine aB (fm (a:=c.fdiv 24) (b:=(yY:Int)+1) (by (exact Wf (Uj _) (by decide)))) λn hn j7=>?_
  refine aB (fm (a:=c.fdiv 24) (b:=(few:Int)+1) (by (exact Wf (Uj _) (by decide)))) λm hm MS=>?_
  refine W.if_ (eA rfl rfl) (λhc=>?_) λhc=>W.nil ?_
  ·exact W.retE (aJ rfl rfl (cr (by (exact YZ (Wf (Uj _) (by decide)))))) ⟨_,rfl,rfl,n,by rw[hn],Vv.mp (WR j7)⟩
  ·exact W.retE (aJ rfl rfl (cr (by (exact YZ (Wf (Uj _) (by decide)))))) ⟨_,rfl,rfl,m,by rw[hm],B' (Vv.mp (WR MS)) Ij⟩)
 exact⟨n,h,h2⟩
section
variable {call:aw} {K:aN} {H σ1 ae bg:ag}
theorem eQ {e:CE} {l:List V} (h:ab call e K H=some (.tup l,σ1)):bS call (.ex e) K H=some (l,[],σ1):=by
 show bn (ab call e K H) (λx σ1=>(jf σ1 x).bind λp=>some (p.1,p.2,σ1))=_
 rw[h];rfl
theorem C5 {e:CE} {l:List V} (h:ab call e K H=some (.tup l,σ1)):bS call (.enm e) K H=some (cJ 0 l,[],σ1):=by
 show bn (ab call e K H) (λx σ1=>(uJ x).bind λxs=>some (cJ 0 xs,[],σ1))=_
 rw[h];rfl
end
noncomputable def pV (p:Nat×Int):V:=.tup [.int p.1,.int p.2]
noncomputable def pG (ps:List (Nat×Int)):V:=.tup (ps.map pV)
noncomputable def NE:a0:=⟨Zs,0,0⟩
theorem cP {α:Type} {l:List α} {k:Nat} {x:α} (h:l[k]? = some x):l.take (k+1)=l.take k++[x]:=by
 rw[X4,h];rfl
theorem jb {α:Type} {f:α->V} {l:List α} {k:Nat} {x:V} (h:(l.map f)[k]? = some x):∃ y,l[k]? = some y/\x=f y:=by
 rw[Um] at h
 cases hy:l[k]? with
 | none=>rw[hy] at h;exact no h
 | some y=>rw[hy] at h;exact⟨y,rfl,(sm h).symm⟩
noncomputable def EO (x:Str) (n:Nat):Str:=⟨#[(x.cps[n]?).getD 0]⟩
noncomputable def JT (x:Str) (i j:Nat):Str:=⟨(mh x.cps.toList i j).toArray⟩
noncomputable def CH (z:Int):Str:=EO sg (z.fmod 26).toNat
theorem nD (x:Str) (i j:Nat):(JT x i j).length<=x.length:=by
 show (mh x.cps.toList i j).toArray.size<=_
 rw[UM];exact qQ _ _ _
section
variable {call:aw} {K:aN} {H σ1 ae bg:ag}
theorem nY {a i:CE} {x:Str} {k:Int} (ha:ab call a K H=some (.str x,σ1)) (hi:ab call i K σ1=some (.int k,ae)) (h0:0<=k) (h1:k<x.length) (hx:x.length<=1000):ab call (.idx a i) K H=some (.str (EO x k.toNat),ae):=by
 have cE:k.toNat<x.cps.size:=by have:x.length=x.cps.size:=rfl;exact jT (y4 0x1c2311b1012b2112b03 rfl h1 (iE this) (Vf (y1 0xc00810b008 rfl h0)))
 have e:x.cps[k.toNat]? = some x.cps[k.toNat]:=Wo cE
 have hk:0<=k/\k<4611686018427387904:=by exact⟨y1 0xc00810b008 rfl h0,y2 0x1c00004000000000000000d011b1010b03e891 rfl h1 (iL hx)⟩
 refine uY ha hi ?_
 show (Ze (some k) λk=>if 0<=k/\k<4611686018427387904 then (x.cps[k.toNat]?).bind (λc=>some (V.str ⟨#[c]⟩)) else none)=_
 unfold EO
 rw[VW,if_pos hk,e]
 rfl
theorem ij {a lo hi:CE} {x:Str} {u v:V} {i j:Nat} (ha:ab call a K H=some (.str x,σ1)) (hl:ab call lo K σ1=some (u,ae)) (hh:ab call hi K ae=some (v,bg)) (h0:kW u=some i) (h1:jv x.length v=some j) (hx:x.length<=1000) :
  ab call (.slc a lo hi) K H=some (.str (JT x i j),bg):=by
 have hc:(mh x.cps.toList i j).length<=x.length:=qQ _ _ _
 have hz:(mh x.cps.toList i j).toArray.size<=ar:=by rw[UM];unfold ar;exact jL (y2 0xc00000000000001000000d110b03e89010b01 rfl (iL hx) (iL hc))
 refine lQ ha hl hh ?_
 show ((kW u).bind λi=>(jv x.length v).bind λj=>Ja bg ⟨(mh x.cps.toList i j).toArray⟩)=_
 rw[h0,h1]
 exact if_pos hz
theorem fR {i:CE} {z:Int} (hv:K 2=some (.str sg)) (hi:ab call i K H=some (.int (z.fmod 26),σ1)):ab call (.idx (.var 2) i) K H=some (.str (CH z),σ1):=by
 have b:=bF (a:=z) (b:=26) (by decide)
 have:=Jk
 exact nY (an hv) hi b.1 (by exact y2 0x1c1011b001a9013b001a91 rfl b.2 (iE this)) (by exact jL (y1 0xc03e89012b001a90 rfl (iE this)))
end
noncomputable def qf (eG:Int):Nat->Str×Int
 | 0=>(("" : Str),eG.fdiv 7)
 | j+1=>((qf eG j).1++CH ((qf eG j).2+1+(eG.fdiv 182).fmod 25),(qf eG j).2+1+(eG.fdiv 182).fmod 25)
theorem rx (eG:Int):∀ j,(qf eG j).1.length=j
 | 0=>by show ("" : Str).length=0;decide +kernel
 | j+1=>by
  show ((qf eG j).1++CH _).length=_
  rw[WM,rx eG j];rfl
noncomputable def Dd (D8:Int) (i:Nat):Str:=([("" : Str),("" : Str),CH D8,CH (D8+1)]:List Str)[i]?.getD ("" : Str)
noncomputable def fC (aF:Int) (i:Nat):Str :=
 if aF.fmod 6=0/\(i:Int)<4 then (lu[((aF.fdiv 6+i).fmod 11).toNat]?).getD ("" : Str)
 else if (3:Int)<i then JT (qf (aF.fdiv 6) (1+((aF.fdiv 6).fmod 7).toNat)).1 0 (min (1+((aF.fdiv 6).fmod 7).toNat) (min (((aF.fdiv 6).fdiv 4550).fmod (1+((aF.fdiv 6).fmod 7).toNat:Nat)) 6).toNat)++(CH ((qf (aF.fdiv 6) (1+((aF.fdiv 6).fmod 7).toNat)).2+(i:Int).fdiv 26)++CH i)++JT (qf (aF.fdiv 6) (1+((aF.fdiv 6).fmod 7).toNat)).1 (min (((aF.fdiv 6).fdiv 4550).fmod (1+((aF.fdiv 6).fmod 7).toNat:Nat)) 6).toNat (min (1+((aF.fdiv 6).fmod 7).toNat) 6)
 else if (3:Int)<aF.fmod 6 then CH ((aF.fdiv 6).fdiv 7+(i:Int))++(qf (aF.fdiv 6) (1+((aF.fdiv 6).fmod 7).toNat)).1
 else if (i:Int)=1 then JT (qf (aF.fdiv 6) (1+((aF.fdiv 6).fmod 7).toNat)).1 0 (min (1+((aF.fdiv 6).fmod 7).toNat) (((aF.fdiv 6).fdiv 4550).fmod (1+((aF.fdiv 6).fmod 7).toNat:Nat)).toNat)++CH (Txt.find sg (EO (qf (aF.fdiv 6) (1+((aF.fdiv 6).fmod 7).toNat)).1 (((aF.fdiv 6).fdiv 4550).fmod (1+((aF.fdiv 6).fmod 7).toNat:Nat)).toNat)+1)++JT (qf (aF.fdiv 6) (1+((aF.fdiv 6).fmod 7).toNat)).1 ((((aF.fdiv 6).fdiv 4550).fmod (1+((aF.fdiv 6).fmod 7).toNat:Nat))+1).toNat (1+((aF.fdiv 6).fmod 7).toNat)
 else (qf (aF.fdiv 6) (1+((aF.fdiv 6).fmod 7).toNat)).1++Dd (qf (aF.fdiv 6) (1+((aF.fdiv 6).fmod 7).toNat)).2 i
theorem Dg {a:Int} {i:Nat} (h:i<4):([V.str ("" : Str),V.str ("" : Str),V.str (CH a),V.str (CH (a+1))]:List V)[(i:Int).toNat]? = some (.str (Dd a i))/\(Dd a i).length<=1:=by
 have h0:("" : Str).length<=1:=by decide +kernel
 cases i with
 | zero=>exact⟨rfl,h0⟩
 | succ i=>cases i with
  | zero=>exact⟨rfl,h0⟩
  | succ i=>cases i with
   | zero=>exact⟨rfl,Un _⟩
   | succ i=>cases i with
    | zero=>exact⟨rfl,Un _⟩
    | succ i=>exact absurd h (UK.mpr (Zh 4 i))
theorem kb {P:List bj} {k d:Nat} {H:ag} (hk:P[k]? = some eC) (aF:Int) (i:Nat) (hi:i<100):∃ af,az P (d+1) k [.int aF,.int i] H=some (.ok (.str (fC aF i)),af)/\ax H af:=by
 have dZ:ar=16777216:=rfl
 obtain ⟨v,af,h,rfl,h1⟩:=cc (R:=λv af=>v=.str (fC aF i)/\ax H af) hk (as:=[.int aF,.int i]) rfl (by
  refine W.set (v:=.str sg) (σ1:=H) rfl ?_
  refine W.set (σ1:=H++[.lst (lu.map .str)]) (dH rfl (by decide)) ?_
  have hw:(H++[.lst (lu.map .str)])[H.length]? = some (.lst (lu.map .str)):=aH _ _
  have kw:ax H (H++[.lst (lu.map .str)]):=ax.app _ _
  generalize H++[.lst (lu.map .str)]=bv at hw kw
  refine W.set (σ1:=bv) rfl ?_
  unfold fC
  generalize hm:aF.fdiv 6=eG
  refine W.if_ (AY (eA rfl rfl) (bO rfl rfl rfl)) (λhc=>?_) λhc=>W.nil ?_
  ·rw[if_pos hc]
   obtain ⟨n,hn,j7⟩:=fm (b:=11) (by decide)
   have cE:n<lu.length:=by show n<11;exact jT (y1 0x1cb8011bb80 rfl j7)
   have hx:(lu.map V.str)[(n:Int).toNat]? = some (.str lu[n]):=by rw[Us,Um,Ue cE];rfl
   have he:ab (az P d) (.bin .Mod (.bin .Add (.var 4) (.var 1)) (.cst (.int 11))) (cn (cn (cn (b8 [.int aF,.int i]) 2 (.str sg)) 3 (.ref H.length)) 4 (.int eG)) bv=some (.int n,bv):=by rw[<-hn];rfl
   exact W.retE (aP H.length n _ _ rfl he hw (by exact y1 0xc00810b008 rfl (iP _)) hx) ⟨_,rfl,by rw[hn,Us,Ue cE];rfl,kw⟩
  ·rw[if_neg hc]
   refine W.set rfl ?_
   refine W.set (σ1:=bv) rfl ?_
   obtain ⟨n,hn,j7⟩:=fm (b:=7) (by decide)
   refine W.loop (xs:=bQ 0 (1+n:Nat) 1) (cu (by show some (V.int (1+eG.fmod 7),bv)=_;rw[hn];rfl) (by exact jL (y2 0xc0000000000003b9aca00d111b78012ba0181 rfl j7 (iA _ _))))
    (λj K af=>K=bp [some (.int aF),some (.int i),some (.str sg),none,some (.int eG),some (.str (qf eG j).1),some (.int (qf eG j).2)]/\af=bv/\j<=7)
    (a:=bp [some (.int aF),some (.int i),some (.str sg),none,some (.int eG),some (.str ("" : Str)),some (.int (eG.fdiv 7))]) (ay ⟨rfl,rfl,rfl,rfl,rfl,rfl,trivial⟩) ⟨rfl,rfl,UJ _⟩ (λz z z z=>b0 _) ?_ ?_
   ·rintro j x _ af hx ⟨rfl,e0,hj⟩
    subst e0
    obtain ⟨cE,rfl⟩:=eI hx
    refine⟨_,rfl,?_⟩
    have hl:=rx eG j
    refine W.set (σ1:=af) rfl ?_
    refine W.set (σ1:=af) (dN (an rfl) (fR rfl rfl) (by show _+1<=_;exact jL (y4 0xc0313b00000000000001000000d010b78112b1212ba1823 rfl (iE dZ) (iL hj) (iE hl) (iA _ _)))) ?_
    exact W.nil ⟨rfl,bp [some (.int aF),some (.int i),some (.str sg),none,some (.int eG),some (.str (qf eG (j+1)).1),some (.int (qf eG (j+1)).2)],ay ⟨rfl,rfl,rfl,rfl,rfl,rfl,trivial⟩,rfl,rfl,by exact jL (y4 0xc78311b78011b2112ba181312ba0182 rfl j7 (iT cE) (iA _ _) (iA _ _))⟩
   ·rintro _ af ⟨rfl,e0,hj⟩
    subst e0
    rw[fZ] at hj ⊢
    rw[show (eG.fmod 7).toNat=n by rw[hn];rfl]
    have hx:=rx eG (1+n)
    generalize (qf eG (1+n)).1=x at hx
    generalize (qf eG (1+n)).2=D8
    have Pb:0<1+n:=by exact jT (y2 0x1c10810b00813ba0181 rfl (iP _) (iA _ _))
    generalize 1+n=w at hx hj Pb
    subst hx
    have hx7:x.length<=7:=hj
    have LD:0<(x.length:Int):=by exact y1 0x1c00811b008 rfl (iT Pb)
    obtain ⟨sp,QN,ID⟩:=fm LD
    rw[QN]
    refine W.set (v:=.int sp) (by rw[<-QN];exact aJ (aJ rfl rfl (nU (by decide) (by decide))) (yp (an rfl) (by exact jL (y2 0xc0113b00000000000001000000d010b781 rfl (iE dZ) (iL hj)))) (cr (by exact λq0=>zI (y1 0x1c080811b00812b080 rfl (iT Pb) q0)))) ?_
    -- the names of eG than four
    refine W.if_ (bO rfl rfl rfl) (λhc=>?_) λh3=>W.nil ?_
    ·rw[if_pos hc]
     have Lk:0<=min (sp:Int) 6/\min (sp:Int) 6<4611686018427387904:=by exact (XS _ _).elim (λd0=>⟨y2 0xc10810b00813b01 rfl (iP _) (Xb d0),y1 0x1c00004000000000000000d010b680 rfl (W2 _ _)⟩) λd0=>⟨y1 0xc00813b680 rfl (WV d0),y1 0x1c00004000000000000000d010b680 rfl (W2 _ _)⟩
     refine W.set (σ1:=af) (dN (fR rfl rfl) (fR rfl rfl) (by show 1+1<=_;exact jL (y2 0xc0113b00000000000001000000d012ba18181 rfl (iE dZ) (iA _ _)))) ?_
     have l3:=nD x 0 (min x.length (min (sp:Int) 6).toNat)
     have l4:=nD x (min (sp:Int) 6).toNat (min x.length 6)
     refine W.retE (dN (dN (ij (an rfl) rfl rfl rfl (kL Lk) (by exact jL (y1 0xc03e89010b780 rfl (iL hj)))) (an rfl) ?_) (ij (an rfl) rfl rfl (oB Lk) (kL (by decide)) (by exact jL (y1 0xc03e89010b780 rfl (iL hj)))) ?_) ⟨_,rfl,rfl,kw⟩
     ·rw[WM];show _+(1+1)<=_;exact jL (y5 0xc0413b00000000000001000000d010b78110b1212ba1818312ba324 rfl (iE dZ) (iL hj) (iL l3) (iA _ _) (iA _ _))
     ·rw[WM,WM];show _+(1+1)+_<=_;exact B' (VY (U6 l3 _) l4) (by exact jL (y5 0xc0413b00000000000001000000d020b78112ba1818212ba21312ba134 rfl (iE dZ) (iL hj) (iA _ _) (iA _ _) (iA _ _)))
    ·rw[if_neg h3]
     refine W.if_ (bO rfl rfl rfl) (λhc=>?_) λhc=>W.nil ?_
     ·rw[if_pos hc]
      exact W.retE (dN (fR rfl rfl) (an rfl) (by show 1+_<=_;exact jL (y3 0xc0213b00000000000001000000d010b78112ba1182 rfl (iE dZ) (iL hj) (iA _ _)))) ⟨_,rfl,rfl,kw⟩
     ·rw[if_neg hc]
      refine W.if_ (eA rfl rfl) (λhc=>?_) λhc=>W.nil ?_
      ·rw[if_pos hc]
       have IE:0<=(sp:Int)/\(sp:Int)<4611686018427387904:=by exact⟨y1 0xc00810b008 rfl (iP _),y2 0x1c00004000000000000000d110b78011b01 rfl (iL hj) ID⟩
       have O5:0<=(sp:Int)+1/\(sp:Int)+1<4611686018427387904:=by exact⟨y1 0xca1800810b008 rfl IE.1,y2 0x1c00004000000000000000da18110b78011b01 rfl (iL hj) ID⟩
       refine W.set (σ1:=af) (fR rfl (aJ (aJ (Et (an rfl) (nY (an rfl) (an rfl) (by exact y1 0xc00810b008 rfl IE.1) (by exact y2 0x1c1011b10 rfl ID) (by exact jL (y1 0xc03e89010b780 rfl (iL hj))))) rfl rfl) rfl (cr (by decide)))) ?_
       have l3:=nD x 0 (min x.length (sp:Int).toNat)
       have l4:=nD x ((sp:Int)+1).toNat x.length
       refine W.retE (dN (dN (ij (an rfl) rfl rfl rfl (kL IE) (by exact jL (y1 0xc03e89010b780 rfl (iL hj)))) (an rfl) ?_) (ij (an rfl) rfl rfl (oB O5) rfl (by exact jL (y1 0xc03e89010b780 rfl (iL hj)))) ?_) ⟨_,rfl,rfl,kw⟩
       ·show _+1<=_;exact jL (y4 0xc0313b00000000000001000000d010b78110b1212ba1823 rfl (iE dZ) (iL hj) (iL l3) (iA _ _))
       ·rw[WM];show _+1+_<=_;exact B' (VY (U6 l3 _) l4) (by exact jL (y4 0xc0313b00000000000001000000d020b78112ba181212ba123 rfl (iE dZ) (iL hj) (iA _ _) (iA _ _)))
      ·rw[if_neg hc]
       have SH:i<4:=Xj (Vv.mp (Vj.mp h3))
       obtain ⟨hs,Br⟩:=Dg SH
       exact W.retE (dN (an rfl) (aP af.length i _ _ (dH (aI rfl (aI rfl (aI (fR rfl rfl) (aC (fR rfl rfl))))) (by show 4<=ar;exact jL (y1 0xc04813b00000000000001000000d0 rfl (iE dZ)))) (an rfl) (aH _ _) (Uj i) hs) (by exact jL (y4 0xc0313b00000000000001000000d010b78110b18212ba213 rfl (iE dZ) (iL hj) (iL Br) (iA _ _)))) ⟨_,rfl,rfl,kw.trans (ax.app _ _)⟩)
 exact⟨af,h,h1⟩
structure aA where
 d:Nat
 ns:List (Str×Int)
noncomputable def qj (p:Str×Int):V:=.tup [.str p.1,.int p.2]
noncomputable def aA.v (x:aA):V:=.tup [.int x.d,.tup (x.ns.map qj)]
noncomputable def aA.ok (x:aA):Prop:=1<=x.d/\x.d<=7/\x.ns.length<=20
theorem yu (l:List Int):∀ a:Int,l.foldl (· + ·) a=a+l.foldl (· + ·) 0:=by
 induction l with
 | nil=>intro a;simp
 | cons x l ih=>intro a;rw[Wd,Wd,ih (a+x),ih (0+x)];exact UG (y3 0xcaa2a1080a2a10 rfl) (y3 0xca2a10aa2a1080 rfl)
theorem bd (x:Int) (l:List Int):bJ (x::l)=x+bJ l:=by
 unfold bJ
 rw[Wd,yu];exact UG (y2 0xca10a1a008 rfl) (y2 0xca1a008a10 rfl)
section
variable {call:aw} {aG:fJ} {K:aN} {H σ1 ae bg:ag} {Q:bT->aN->ag->Prop}
theorem jl {a b:CE} {p q:Bool} (ha:ab call a K H=some (.bool p,H)) (hb:ab call b K H=some (.bool q,H)):ab call (.and a b) K H=some (.bool (p&&q),H):=by
 cases p with
 | true=>exact nX ha hb
 | false=>exact qX ha
end
noncomputable def jU (ns:List (Str×Int)) (O:Str):Int:=bJ ((ns.filter λp=>p.1==O).map (·.2))
noncomputable def qa (ds:List aA) (O:Str) (t:Nat):Int:=bJ ((ds.filter λx=>decide (t<x.d)).map λx=>jU x.ns O)
noncomputable def fV (bs:List a0) (O:Str) (t:Nat):Int:=bJ ((bs.filter λb=>b.n==O&&decide ((t:Int)<b.l)).map a0.a)
noncomputable def Rd (aF:Int) (ns:List (Str×Int)):Prop:=∀ p∈ns,∃ k,k<12/\p.1=fC aF k
noncomputable def aA.okN (aF:Int) (x:aA):Prop:=x.ok/\Rd aF x.ns
theorem Ca {P:List bj} {d iN:Nat} {H:ag} {K:aN} {q m:Nat} {aF c:Int} {i0 i1:Nat} (hN:P[iN]? = some eC) (oj:1<=m) (hm:m<=12) (hq:H[q]? = some (.lst [.int aF,.int m])) (g1:K i1=some (.ref q)) (g5:K i0=some (.int c)) :
  ∃ O af,ab (az P (d+1)) (.call iN (.cons (.idx (.var i1) (.cst (.int 0))) (.cons (.bin .Mod (.bin .Mod (.var i0) (.cst (.int 60))) (.idx (.var i1) (.cst (.int 1)))) .nil))) K H=some (.str O,af)/\ax H af/\∃ k,k<12/\O=fC aF k:=by
 obtain ⟨k,hk,sV⟩:=fm (b:=m) (by exact y1 0x1c00810b018 rfl (iL oj))
 obtain ⟨af,h,h1⟩:=kb hN aF k (by exact jT (y2 0x1c00649110bc8011b01 rfl (iL hm) sV))
 refine⟨_,af,al (aI (aP q 0 _ _ (an g1) rfl hq (by decide) rfl) (aC ?_)) h,h1,k,by exact jT (y2 0x1cc8110bc8011b01 rfl (iL hm) sV),rfl⟩
 rw[<-hk]
 exact aJ (aJ (an g5) rfl (cr (by decide))) (aP q 1 _ _ (an g1) rfl hq (by decide) rfl) (cr (by exact λq0=>zI (y1 0x1c080810b01812b080 rfl (iL oj) q0)))
section
variable {call:aw} {aG:fJ} {K:aN} {H σ1:ag} {Q:bT->aN->ag->Prop}
theorem W.setStr {o i v:CE} (r:Nat) (k:Str) (l:List (Str×V)) (x:V) (hv:ab call v K H=some (x,H)) (ho:ab call o K H=some (.ref r,H)) (hi:ab call i K H=some (.str k,H)) (hr:H[r]? = some (.ds l)) (hz:l.length<=ar)
  (c:W call aG K (H.set r (.ds (gc l k x))) Q):W call (.cons (.setItem o i v) aG) K H Q :=
 W.setV hv ho hi (by
  show (H[r]?).bind (Ji H r (.str k) x)=_
  rw[hr]
  exact if_pos hz) c
end
noncomputable def v8 (l:List Str):List (Str×V):=l.foldl (λacc n=>gc acc n (.bool true)) []
theorem ud (l:List Str) (n:Str):v8 (l++[n])=gc (v8 l) n (.bool true):=by
 unfold v8
 rw[X5];rfl
theorem p5 {v:V} {k:Str}:∀ (l:List (Str×V)),(l.map (·.1)).Nodup->((gc l k v).map (·.1)).Nodup/\∀ x∈(gc l k v).map (·.1),x=k\/x∈l.map (·.1)
 | [],_=>by
  show ([k]:List Str).Nodup/\∀ x∈([k]:List Str),_
  exact⟨VP.mpr ⟨(λh=>nomatch h),Yx⟩,λx hx=>.inl (O'.mp hx)⟩
 | (a,b)::r,h=>by
  obtain ⟨h1,h2⟩:=VP.mp (show (a::r.map (·.1)).Nodup from h)
  obtain ⟨h3,h4⟩:=p5 r h2
  show ((if a=k then (a,v)::r else (a,b)::gc r k v).map (·.1)).Nodup/\∀ x∈(if a=k then (a,v)::r else (a,b)::gc r k v).map (·.1),_
  by_cases hk:a=k
  ·rw[if_pos hk]
   exact⟨h,λx hx=>.inr hx⟩
  ·rw[if_neg hk]
   refine⟨VP.mpr ⟨λhm=>?_,h3⟩,λx hx=>?_⟩
   ·rcases h4 a hm with e | e
    ·exact hk e
    ·exact h1 e
   ·rcases Uh.mp hx with e | e
    ·exact .inr (Uh.mpr (.inl e))
    ·rcases h4 x e with e | e
     ·exact .inl e
     ·exact .inr (H' _ e)
theorem uc:∀ (l acc:List Str),((v8 acc).map (·.1)).Nodup/\(∀ x∈(v8 acc).map (·.1),x∈acc)->((v8 (acc++l)).map (·.1)).Nodup/\∀ x∈(v8 (acc++l)).map (·.1),x∈acc++l
 | [],acc,h=>by rw[Uu];exact h
 | n::l,acc,h=>by
  have:=uc l (acc++[n]) (by
   obtain ⟨h1,h2⟩:=p5 (v8 acc) h.1
   rw[ud]
   refine⟨h1,λx hx=>?_⟩
   rcases h2 x hx with e | e
   ·rw[e];exact Uz _ z'
   ·exact UE _ (h.2 x e))
  rwa [Uf] at this
theorem tA {α:Type} [DecidableEq α]:∀ (l m:List α),l.Nodup->(∀ x∈l,x∈m)->l.length<=m.length
 | [],_,_,_=>UJ _
 | x::l,m,h,hm=>by
  obtain ⟨h1,h2⟩:=VP.mp h
  have hx:=hm x z'
  have ih:=tA l (m.erase x) h2 λy hy=>(List.mem_erase_of_ne (λe=>h1 (by rw[<-e];exact hy))).mpr (hm y (H' _ hy))
  have Iz:=List.length_pos_of_mem hx
  rw[List.length_erase_of_mem hx] at ih
  rw[VV]
  exact jL (y4 0xc3210b1012ba180212be1831 rfl (iL ih) (iA _ _) (W9 (jL (y1 0xc01811b008 rfl (iT Iz)))))
noncomputable def NL (aF:Int) (l:List Str):Prop:=∀ n∈l,∃ k,k<12/\n=fC aF k
theorem l9 {aF:Int} {l:List Str} (h:NL aF l):(v8 l).length<=12:=by
 obtain ⟨h1,h2⟩:=uc l [] ⟨Yx,λx hx=>nomatch hx⟩
 rw[Zi] at h1 h2
 have:=tA _ ((UC 12).map (fC aF)) h1 λx hx=>by
  obtain ⟨k,hk,e⟩:=h x (h2 x hx)
  exact Ve.mpr ⟨k,Vc.mpr hk,e.symm⟩
 rwa [A',A',UN] at this
noncomputable def mO (ds:List aA):List Str:=ds.flatMap λx=>x.ns.map (·.1)
theorem pK (l:List aA) (x:aA):mO (l++[x])=mO l++x.ns.map (·.1):=by
 unfold mO
 rw[YE];simp
theorem ni {aF:Int} {ds:List aA} (h:∀ x∈ds,x.okN aF):NL aF (mO ds):=λn hn=>by
 obtain ⟨x,hx,hp⟩:=XB.mp hn
 obtain ⟨p,OV,rfl⟩:=Ve.mp hp
 exact (h x hx).2 p OV
theorem qx (l:List Str):(iw l).length=l.length:=by
 unfold iw
 by_cases h:∃ m:List Str,m.Perm l/\lK m
 ·rw[dif_pos h];exact (Xv h).1.length_eq
 ·rw[dif_neg h]
theorem tV {H:ag} {r:Nat} {l:List (Str×V)} (hr:H[r]? = some (.ds l)) (hz:l.length<=12):fY .sorted [.ref r] H=some (.ref H.length,H++[.lst ((iw (l.map (·.1))).map .str)]):=by
 show (Ze (Ze H[r]? HO) λl=>if l.length<64 then qk H ((iw (l.map (·.1))).map .str) else none)=_
 rw[hr]
 show (if l.length<64 then qk H ((iw (l.map (·.1))).map .str) else none)=_
 rw[if_pos (by exact jT (y1 0x1c00409010bc80 rfl (iL hz)))]
 exact if_pos (by rw[A',qx,A'];unfold ar;exact jL (y1 0xc00000000000001000000d010bc80 rfl (iL hz)))
theorem A9 {call:aw} {aG:fJ} {H:ag} {Q:bT->aN->ag->Prop} {K:aN} {t:gE} {kx:CE} {aF:Int} {r:Nat} {ds:List aA} (ur:∀ x∈ds,x.okN aF) (g0:K 0=some (.tup (ds.map aA.v))) (g1:K 1=some (.ref r)) (hr:H[r]? = some (.ds []))
  (ht:∀ (p:Str×Int) (K:aN),K 1=some (.ref r)->∃ aS,t.put (qj p) K=some aS/\aS 1=some (.ref r)/\∀ H,ab call kx aS H=some (.str p.1,H))
  (k:∀ af,(∀ i m,i≠r->H[i]? = some m->af[i]? = some m)->af[r]? = some (.ds (v8 (mO ds)))->W call aG (bp [none,some (.ref r)]) af Q) :
  W call (.cons (.for_ (.one 2) (.ex (.var 0)) (.cons (.for_ t (.ex (.idx (.var 2) (.cst (.int 1)))) (.cons (.setItem (.var 1) kx (.cst (.bool true))) .nil)) .nil)) aG) K H Q:=by
 have dZ:ar=16777216:=rfl
 have ED:=ni ur
 refine W.loop (eQ (an g0))
  (λj K af=>K=bp [none,some (.ref r)]/\(∀ i m,i≠r->H[i]? = some m->af[i]? = some m)/\af[r]? = some (.ds (v8 (mO (ds.take j)))))
  (a:=bp [none,some (.ref r)]) (ay ⟨g1,trivial⟩) ⟨rfl,λz z z h=>h,by rw[Xo];exact hr⟩ (λz z z z=>b0 _) ?_ ?_
 ·rintro j x _ bv LD ⟨rfl,hK,hD⟩
  obtain ⟨x,hx,rfl⟩:=jb LD
  refine⟨_,rfl,?_⟩
  have Iv:NL aF (mO (ds.take j)++x.ns.map (·.1)):=by
   rw[<-pK,<-cP hx]
   exact ni λy hy=>ur y (UB hy)
  refine W.loop (eQ (be 1 _ _ (an rfl) rfl (by decide) rfl))
   (λi K af=>K=bp [none,some (.ref r)]/\(∀ i m,i≠r->H[i]? = some m->af[i]? = some m)/\af[r]? = some (.ds (v8 (mO (ds.take j)++(x.ns.take i).map (·.1)))))
   (a:=bp [none,some (.ref r)]) (ay ⟨rfl,trivial⟩) ⟨rfl,hK,by rw[Xo,List.map_nil,Uu];exact hD⟩ (λz z z z=>b0 _) ?_ ?_
  ·rintro i y _ fg hy ⟨rfl,hK2,KD⟩
   obtain ⟨p,hp,rfl⟩:=jb hy
   obtain ⟨aS,Bq,Qk,Aa⟩:=ht p (bp [none,some (.ref r)]) rfl
   refine⟨aS,Bq,?_⟩
   have IH:NL aF (mO (ds.take j)++(x.ns.take i).map (·.1)):=λn hn=>by
    rcases Uk.mp hn with h | h
    ·exact Iv n (UE _ h)
    ·obtain ⟨p,hp,rfl⟩:=Ve.mp h
     exact Iv _ (Uz _ (Ve.mpr ⟨p,UB hp,rfl⟩))
   have r3:=l9 IH
   refine W.setStr r p.1 _ (.bool true) rfl (an Qk) (Aa _) KD (by exact jL (y2 0xc0113b00000000000001000000d010bc81 rfl (iE dZ) (iL r3))) ?_
   refine W.nil ⟨rfl,bp [none,some (.ref r)],ay ⟨Qk,trivial⟩,rfl,λi m hi e=>?_,?_⟩
   ·rw[Wr (Ne.symm hi)];exact hK2 i m hi e
   ·rw[dJ KD,cP hp,Va,<-Uf,<-ud];rfl
  ·rintro _ fg ⟨rfl,hK2,KD⟩
   rw[A',UZ] at KD
   exact W.nil ⟨rfl,bp [none,some (.ref r)],ay ⟨rfl,trivial⟩,rfl,hK2,by rw[KD,cP hx,pK]⟩
 ·rintro _ bv ⟨rfl,hK,hD⟩
  rw[A',UZ] at hD
  exact k bv hK hD
theorem xe {H af:ag} {m:aZ} (h:∀ i m',i≠H.length->(H++[m])[i]? = some m'->af[i]? = some m'):ax H af:=λi o e=>h i o (UP (J'.mp e).1) (ax.app _ _ _ _ e)
structure Pk where
 n:Str
 a:Int
 p:Int
 l:Int
noncomputable def Pk.v (b:Pk):V:=.tup [.str b.n,.int b.a,.int b.p,.int b.l]
noncomputable def Cq (x:Int):Int:=if x.fmod 9=0 then (x.fdiv 9).fmod 1000001 else if x.fmod 9=1 then 0 else (x.fdiv 9).fmod 30
theorem Cr {P:List bj} {k d:Nat} {H:ag} (hk:P[k]? = some i5) (x:Int):az P (d+1) k [.int x] H=some (.ok (.int (Cq x)),H):=by
 refine nR hk rfl ?_
 refine W.if_ (eA rfl rfl) (λhc=>?_) λhc=>W.nil ?_
 ·exact W.retE rfl ⟨_,rfl,by rw[Cq,if_pos hc],rfl⟩
 ·refine W.if_ (eA rfl rfl) (λBh=>?_) λBh=>W.nil ?_
  ·exact W.retE rfl ⟨_,rfl,by rw[Cq,if_neg hc,if_pos Bh],rfl⟩
  ·exact W.retE rfl ⟨_,rfl,by rw[Cq,if_neg hc,if_neg Bh],rfl⟩
noncomputable def Q1 (x:Pk×Int):V:=.tup [x.1.v,.int x.2]
theorem Cp:∀ (ps:List Pk) (cs:List Int),dI (ps.map Pk.v) (cs.map .int)=(ps.zip cs).map Q1
 | [],_=>rfl
 | _::_,[]=>rfl
 | p::ps,c::cs=>congrArg (V.tup [p.v,.int c] :: ·) (Cp ps cs)
theorem Jn {call:aw} {a b:CE} {K:aN} {H:ag} {ps:List Pk} {cs:List Int} (ha:ab call a K H=some (.tup (ps.map Pk.v),H)) (hb:ab call b K H=some (.tup (cs.map .int),H)):bS call (.zip a b) K H=some ((ps.zip cs).map Q1,[(H.length,.own)],H++[.own]):=by
 rw[<-Cp];exact C7 ha hb
theorem yQ {H:ag} {l:List V} (hz:l.length<=ar):fY .list [.tup l] H=some (.ref H.length,H++[.lst l]):=by
 show (if l.length<=ar then _ else _)=_
 exact if_pos hz
noncomputable def BO (bs:List a0) (i:Nat):Int:=((bs[i]?).map a0.l).getD 0
noncomputable def dp (lf:List Int) (i:Nat):Int:=(lf[i]?).getD 0
noncomputable def Ep (bs:List a0) (lf:List Int) (O:Str) (dy:Int) (i:Nat):Bool:=match bs[i]? with
 | some b=>b.n==O&&(decide (dy<=b.l)&&decide (0<dp lf i))
 | none=>false
noncomputable def Bf (bs:List a0) (i j:Nat):Prop:=BO bs i<BO bs j\/(BO bs i=BO bs j/\i<j)
theorem Bf.asym {bs:List a0} {i j:Nat} (h:Bf bs i j):¬ Bf bs j i:=λk=>h.elim (λa=>k.elim (λb=>W8 _ (WT a b)) λb=>Zz a b.1.symm) λa=>k.elim (λb=>Zz b a.1.symm) λb=>Vq _ (Ww a.2 b.2)
noncomputable def yN (bs:List a0) (i:Nat):KP:=([BO bs i,(i:Int)],(i:Int))
noncomputable def JU (bs:List a0) (l:List Nat):List Nat:=(ej (l.map (yN bs))).map λp=>p.2.toNat
theorem xF (bs:List a0) (l:List Nat):ej (l.map (yN bs))=(JU bs l).map (yN bs):=by
 unfold JU
 rw[Wz]
 conv=>lhs;rw[<-ZB (ej (l.map (yN bs)))]
 refine VH λp hp=>?_
 refine aB (Ve.mp ((eK _).mem_iff.mp hp)) λi z q3=>?_;apply ez q3
 rfl
theorem o8 (bs:List a0) (l:List Nat):(JU bs l).Perm l:=by
 have h:=(eK (l.map (yN bs))).map λp=>p.2.toNat
 rw[Wz] at h
 have e:((λp:KP=>p.2.toNat) ∘ yN bs)=id:=by
  funext i;exact Us i
 rw[e,ZB] at h
 exact h
theorem LV {bs:List a0} {i j:Nat} (h:Bf bs i j):jx (yN bs i) (yN bs j)=true:=by
 refine Vu.mpr (.inl (Vu.mpr (h.imp (λa=>decide_eq_true a) λa=>Up.mpr ⟨beq_iff_eq.mpr a.1,Vu.mpr (.inl (decide_eq_true (Vw.mpr a.2)))⟩)))
theorem LU {bs:List a0} {i j:Nat} (h:lI (yN bs i) (yN bs j)) (fK:i≠j):Bf bs i j:=by
 have n:¬ Bf bs j i:=λk=>Uq (h.symm.trans (LV k))
 rcases X8 (BO bs i) (BO bs j) with q | q | q
 ·exact .inl q
 ·exact .inr ⟨q,(Nat.lt_or_gt_of_ne fK).elim id λz=>absurd (.inr ⟨q.symm,z⟩) n⟩
 ·exact absurd (.inl q) n
theorem Jq {bs:List a0} {l:List Nat} (hn:l.Nodup):(JU bs l).Pairwise (Bf bs):=by
 have h1:=ip (l.map (yN bs))
 rw[xF,Yb] at h1
 have h2:(JU bs l).Pairwise (·≠·):=(o8 bs l).nodup_iff.mpr hn
 exact (h1.and h2).imp λ⟨a,b⟩=>LU a b
noncomputable def Er (bs:List a0) (lf:List Int) (O:Str) (dy:Int):List Nat:=(UC bs.length).filter (Ep bs lf O dy)
noncomputable def bE (bs:List a0) (lf:List Int) (O:Str) (dy:Int):List Nat:=JU bs (Er bs lf O dy)
theorem qW {bs:List a0} {lf:List Int} {O:Str} {dy:Int} {i:Nat} (h:Ep bs lf O dy i=true):i<bs.length:=by
 unfold Ep at h
 cases e:bs[i]? with
 | none=>rw[e] at h;cases h
 | some b=>exact (J'.mp e).1
theorem jX {bs:List a0} {lf:List Int} {O:Str} {dy:Int} {i:Nat}:i∈bE bs lf O dy↔Ep bs lf O dy i=true:=by
 rw[bE,(o8 _ _).mem_iff,Er,Vp,Vc]
 exact⟨λh=>h.2,λh=>⟨qW h,h⟩⟩
theorem Gg (bs:List a0) (lf:List Int) (O:Str) (dy:Int):(bE bs lf O dy).Pairwise (Bf bs):=Jq (Yk.filter _)
theorem HT (bs:List a0) (lf:List Int) (O:Str) (dy:Int):(bE bs lf O dy).length<=bs.length:=by
 rw[bE,(o8 _ _).length_eq,Er]
 exact B' (VN _ _) (by rw[UN];exact Un _)
theorem xj {lf:List Int} {i j:Nat} {x:Int} (h:i<lf.length):dp (lf.set i x) j=if i=j then x else dp lf j:=by
 unfold dp
 rw[List.getElem?_set]
 by_cases sU:i=j
 ·apply ez sU;rw[if_pos rfl,if_pos h,if_pos rfl];rfl
 ·rw[if_neg sU,if_neg sU]
structure Tk where
 ps:List (Nat×Int)
 lf:List Int
 am:Int
noncomputable def lH (t:Tk) (i:Nat):Int:=min t.am (dp t.lf i)
noncomputable def pE (t:Tk) (i:Nat):Tk:=if 0<t.am then ⟨t.ps++[(i,lH t i)],t.lf.set i (dp t.lf i - lH t i),t.am - lH t i⟩ else t
theorem li:∀ (l:List Nat) (t:Tk),¬ 0<t.am->l.foldl pE t=t
 | [],t,_=>rfl
 | i::l,t,h=>by
  rw[Wd,show pE t i=t from if_neg h]
  exact li l t h
theorem xH (t:Tk) (i:Nat):(pE t i).lf.length=t.lf.length:=by
 unfold pE
 split
 ·exact Xc
 ·rfl
theorem lj:∀ (l:List Nat) (t:Tk),(l.foldl pE t).lf.length=t.lf.length
 | [],t=>rfl
 | i::l,t=>by rw[Wd,lj l,xH]
noncomputable def m9 (bs:List a0) (lf:List Int) (O:Str) (am dy:Int):Tk:=(bE bs lf O dy).foldl pE ⟨[],lf,am⟩
noncomputable def b9 {α β:Type} (f:α->β->Except Str α):α->List β->Except Str α
 | a,[]=>.ok a
 | a,x::r=>match f a x with
  | .ok b=>b9 f b r
  | .error e=>.error e
theorem lS {α β:Type} {f:α->β->Except Str α}:∀ (l m:List β) (a:α),b9 f a (l++m)=match b9 f a l with | .ok b=>b9 f b m | .error e=>.error e
 | [],m,a=>rfl
 | x::l,m,a=>by
  show (match f a x with | .ok b=>b9 f b (l++m) | .error e=>.error e)=match (match f a x with | .ok b=>b9 f b l | .error e=>.error e) with | .ok b=>b9 f b m | .error e=>.error e
  cases f a x with
  | error e=>rfl
  | ok b=>exact lS l m b
theorem j6 {α β:Type} {f:α->β->Except Str α} {l:List β} {a b:α} {x:β} (h:b9 f a l=.ok b):b9 f a (l++[x])=f b x:=by
 rw[lS,h]
 show (match f b x with | .ok b=>Except.ok b | .error e=>.error e)=f b x
 cases f b x <;> rfl
theorem p9 {α β:Type} {f:α->β->Except Str α} {l:List β} {k:Nat} {a b:α} {x:β} {e:Str} (h:b9 f a (l.take k)=.ok b) (hx:l[k]? = some x) (he:f b x=.error e):b9 f a l=.error e:=by
 have h1:b9 f a (l.take (k+1))=.error e:=by rw[cP hx,j6 h,he]
 rw[<-Uy (k+1) l,lS,h1]
noncomputable def uw (bs:List a0) (dy:Int) (st:List Int×List (Nat×Int)) (p:Str×Int):Except Str (List Int×List (Nat×Int)) :=
 if 0<(m9 bs st.1 p.1 p.2 dy).am then .error p.1 else .ok ((m9 bs st.1 p.1 p.2 dy).lf,st.2++(m9 bs st.1 p.1 p.2 dy).ps)
noncomputable abbrev Dy:=List Int×List (List (Nat×Int))
noncomputable def kE (bs:List a0) (ds:List aA) (st:Dy) (k:Nat):Except Str Dy:=match ds[k]? with
 | none=>.ok st
 | some x=>match b9 (uw bs x.d) (st.1,[]) x.ns with
  | .ok p=>.ok (p.1,st.2.set k p.2)
  | .error e=>.error e
noncomputable def nT (ds:List aA) (k:Nat):Nat:=((ds[k]?).map aA.d).getD 0
noncomputable def iH (ds:List aA):List Nat:=(UC 7).flatMap λt=>(UC ds.length).filter λk=>nT ds k==t+1
noncomputable def MD (bs:List a0) (ds:List aA):Dy:=(bs.map a0.a,UL ds.length [])
noncomputable def gG (bs:List a0) (ds:List aA):Except Str Dy:=b9 (kE bs ds) (MD bs ds) (iH ds)
noncomputable def JQ (ds:List aA) (i:Nat):KP:=([(nT ds i:Int)],(i:Int))
theorem rC {ds:List aA} (hd:∀ x∈ds,x.ok) {k:Nat}:k∈iH ds↔k<ds.length:=by
 unfold iH
 rw[XB]
 refine⟨λ⟨t,_,h⟩=>Vc.mp (Vp.mp h).1,λh=>?_⟩
 have hx:=hd _ (UF h)
 have e:nT ds k=ds[k].d:=by unfold nT;rw[Ue h];rfl
 refine iK hx λh1 h2 z=>?_
 refine⟨ds[k].d - 1,Vc.mpr (by exact jT (y2 0x1c78110b78012be1801 rfl (iL h2) (W9 (jL (y1 0xc01810b018 rfl (iL h1)))))),Vp.mpr ⟨Vc.mpr h,?_⟩⟩
 rw[e,beq_iff_eq];exact (WF h1).symm
theorem vQ (ds:List aA):(iH ds).Pairwise λi j=>nT ds i<nT ds j\/(nT ds i=nT ds j/\i<j):=by
 unfold iH
 rw[List.pairwise_flatMap]
 refine⟨λt z=>?_,?_⟩
 ·refine ((WH).filter _).imp_of_mem λ{i j} hi hj h=>.inr ⟨?_,h⟩
  have h1:=beq_iff_eq.mp (Vp.mp hi).2
  have h2:=beq_iff_eq.mp (Vp.mp hj).2
  exact U3 (B' (UV h1) (UV h2.symm)) (B' (UV h2) (UV h1.symm))
 ·refine (WH).imp λ{t u} Th i hi j hj=>.inl ?_
  have h1:=beq_iff_eq.mp (Vp.mp hi).2
  have h2:=beq_iff_eq.mp (Vp.mp hj).2
  exact jT (y6 0x1c4211b1012b3213b5412ba180313ba1815 rfl (iT Th) (iE h1) (iE h2) (iA _ _) (iA _ _))
theorem Cm {ds:List aA} (hd:∀ x∈ds,x.ok):ej ((UC ds.length).map (JQ ds))=(iH ds).map (JQ ds):=by
 refine (tT ?_ ?_).symm
 ·refine List.Perm.map _ ((X2 ?_ Yk).mpr λk=>(rC hd).trans Vc.symm)
  exact (vQ ds).imp λh q=>by subst q;exact h.elim (λd0=>zI (y1 0x1c080811b00 rfl (iT d0))) λd0=>zI (y1 0x1c080811b00 rfl (iT d0.2))
 ·rw[Yb]
  refine (vQ ds).imp λ{i j} h=>?_
  unfold lI jx JQ
  simp only[bK,Yj,Bool.not_true,Xp,XD,Ws,decide_eq_false_iff_not,Xy,XY,decide_eq_true_eq]
  exact h.elim (λd0=>⟨Vj.mpr (y2 0xc1011b10 rfl (iT d0)),.inl (y2 0x1c1011b10 rfl (iT d0))⟩) λd0=>⟨Vj.mpr (y2 0xc1012b10 rfl (iE d0.1)),.inr (Vj.mpr (y2 0xc1011b10 rfl (iT d0.2)))⟩
section
variable {call:aw} {aG:fJ} {K aS:aN} {H σ1 ae bg:ag} {Q:bT->aN->ag->Prop}
theorem sI {f:Nat} {as:fh} {vs:List V} {c:Nat} {w:Str} (h:a8 call as K H=some (vs,σ1)) (hc:call f vs σ1=some (.exc c w,ae)):ab call (.call f as) K H=none/\di call (.call f as) K H=some (c,w,ae):=by
 show bn (a8 call as K H) (λvs σ1=>bn (call f vs σ1) λr ae=>(L8 r).bind λv=>some (v,ae))=none/\bn (a8 call as K H) (λvs σ1=>bn (call f vs σ1) λr ae=>A1 ae r)=_
 rw[h]
 show bn (call f vs σ1) (λr ae=>(L8 r).bind λv=>some (v,ae))=none/\bn (call f vs σ1) (λr ae=>A1 ae r)=_
 rw[hc];exact⟨rfl,rfl⟩
theorem W.raise {e:CE} {c:Nat} {w:Str} (h:ab call e K H=some (.str w,σ1)) (k:Q (.exc c w) K σ1):W call (.cons (.raise_ c e) aG) K H Q :=
 W.out (fl:=.exc c w) (λq=>nomatch q) (λr hl=>by rw[sK,aE e hl h];rfl) k
theorem W.extend {o e:CE} (r q:Nat) (l m:List V) (ho:ab call o K H=some (.ref r,H)) (hr:H[r]? = some (.lst l)) (he:ab call e K H=some (.ref q,σ1)) (Lv:nA σ1 (.ref r) (.ref q)=some (.none,σ1.set r (.lst (l++m))))
  (k:W call aG K (σ1.set r (.lst (l++m))) Q):W call (.cons (.expr (.meth .extend o (.cons e .nil))) aG) K H Q:=W.expr (wN (.inr rfl) ho hr he Lv) k
theorem W.extX {o:CE} {f:Nat} {as:fh} {vs:List V} {r:Nat} {l:List V} {c:Nat} {w:Str} (ho:ab call o K H=some (.ref r,H)) (hr:H[r]? = some (.lst l)) (h:a8 call as K H=some (vs,σ1)) (hc:call f vs σ1=some (.exc c w,ae)) (k:Q (.exc c w) K ae) :
  W call (.cons (.expr (.meth .extend o (.cons (.call f as) .nil))) aG) K H Q :=
 W.out (fl:=.exc c w) (λq=>nomatch q) (λaS hl=>by
  have X:=sI (dh as hl h) hc
  have e1:ab call (.meth .extend o (.cons (.call f as) .nil)) aS H=none:=by
   show bn (ab call o aS H) (λx σ1=>if m8 .extend x σ1 then bn (bn (ab call (.call f as) aS σ1) λv σ1=>bn (a8 call .nil aS σ1) λvs ae=>some (v::vs,ae)) λvs ae=>ik .extend x vs ae else none)=_
   rw[aE o hl ho]
   show (if m8 .extend (.ref r) H then bn (bn (ab call (.call f as) aS H) _) _ else none)=_
   rw[if_pos (oY (.inr rfl) hr),X.1];rfl
  rw[qY]
  refine wu (by rw[e1];rfl) ?_
  show bn (ab call o aS H) (λx σ1=>if m8 .extend x σ1 then jC call (.cons (.call f as) .nil) aS σ1 else none)=_
  rw[aE o hl ho]
  show (if m8 .extend (.ref r) H then jC call (.cons (.call f as) .nil) aS H else none)=_
  rw[if_pos (oY (.inr rfl) hr)]
  show M9 (di call (.call f as) aS H) _=_
  rw[X.2];rfl) k
noncomputable def RX (R:uo->ag->Prop) (fl:bT) (_:aN) (H:ag):Prop:=(∃ v,fl=.ret v/\R (.ok v) H)\/∃ c w,fl=.exc c w/\R (.exc c w) H
theorem AF {P:List bj} {d k:Nat} {f:bj} {as:List V} (hk:P[k]? = some f) (ha:as.length=f.arity) {R:uo->ag->Prop} (h:W (az P d) f.body (b8 as) H (RX R)):∃ r af,az P (d+1) k as H=some (r,af)/\R r af:=by
 refine AU (h _ (Le.refl _)) λfl b aS af z h1 h2=>?_
 rcases h2 with ⟨v,rfl,h2⟩ | ⟨c,w,rfl,h2⟩
 ·exact⟨_,af,by rw[nj hk ha,h1];rfl,h2⟩
 ·exact⟨_,af,by rw[nj hk ha,h1];rfl,h2⟩
theorem W.tryR {i f:Nat} {as:fh} {y:fJ} {vs:List V} {v:V} (h:a8 call as K H=some (vs,σ1)) (hc:call f vs σ1=some (.ok v,ae)) (k:Q (.ret v) K ae):W call (.cons (.try_ (.cons (.ret (.call f as)) .nil) i y) aG) K H Q :=
 W.out (fl:=.ret v) (λq=>nomatch q) (λr hl=>by
  have e1:aQ call (.cons (.ret (.call f as)) .nil) r H=some (.ret v,r,ae):=by
   show iI (bu call (.ret (.call f as)) r H) _=_
   rw[j5,jS (r:=(.ret v,r,ae)) (by rw[al (dh as hl h) hc];rfl)];rfl
  rw[u2,e1];rfl) k
theorem W.tryX {i f:Nat} {as:fh} {y:fJ} {vs:List V} {c:Nat} {w:Str} {v:V} (h:a8 call as K H=some (vs,σ1)) (hc:call f vs σ1=some (.exc c w,ae)) (hy:W call y (cn K i (.ref (ae.length+1))) (ae++[.wd w,.exn c ae.length]) λfl aS af=>fl=.ret v/\Q (.ret v) aS af):W call (.cons (.try_ (.cons (.ret (.call f as)) .nil) i y) aG) K H Q:=λr hl=>by
 obtain ⟨fl,b,aS,af,h1,h2,rfl,h3⟩:=hy _ (hl.upd i _)
 refine⟨.ret v,b,aS,af,h1,?_,h3⟩
 have X:=sI (dh as hl h) hc
 have e1:aQ call (.cons (.ret (.call f as)) .nil) r H=some (.exc c w,r,ae):=by
  show iI (bu call (.ret (.call f as)) r H) _=_
  rw[j5,wu (by rw[X.1];rfl) X.2];rfl
 show iI (bu call (.try_ (.cons (.ret (.call f as)) .nil) i y) r H) (aQ call aG)=_
 rw[u2,e1]
 show iI (handled (aQ call y _ _)) _=_
 rw[h2];rfl
theorem sJ {it:gb} {i:Nat} {k:KX} {xs:List V} {w:List (Nat×aZ)} {r:Option (V×ag)} (h:bS call it K H=some (xs,w,σ1)) (hs:qy it w=true) (hk:io k i K σ1 xs=r):ab call (.sortK it i k) K H=r:=by
 show jZ (bS call it K H) (λxs w σ1=>if qy it w then io k i K σ1 xs else none)=_
 rw[h]
 show (if qy it w then io k i K σ1 xs else none)=_
 rw[if_pos hs,hk]
end
theorem qr:∀ {l:List Nat} {a:Int},(∀ i∈l,a<(i:Int))->l.Pairwise (· < ·)->fw a (l.map λi:Nat=>(i:Int))=true
 | [],_,_,_=>rfl
 | i::l,a,h1,h2=>by
  have h3:=Ur.mp h2
  show (decide (a<(i:Int))&&fw (i:Int) (l.map λi:Nat=>(i:Int)))=true
  rw[decide_eq_true (h1 i z'),W']
  exact qr (λj hj=>by have:=h3.1 j hj;(exact Vw.mpr ‹_›)) h3.2
theorem BN {k:KX} {i:Nat} {K:aN} {H:ag} {f:Nat->KP}:∀ {l:List Nat},(∀ n∈l,∃ v,cH k (cn K i (.int n)) H=some v/\pB v=some (f n).1/\(f n).2=n)->mu k i K H (l.map λi:Nat=>(i:Int))=some (l.map f)
 | [],_=>rfl
 | n::l,h=>by
  refine ew (h n z') λv h1 h2 h3=>?_
  show (cH k (cn K i (.int n)) H).bind _=_
  rw[h1]
  show (pB v).bind _=_
  rw[h2]
  show (mu k i K H (l.map λi:Nat=>(i:Int))).bind _=_
  rw[BN λm hm=>h m (H' _ hm)]
  show some (((f n).1,(n:Int))::l.map f)=_
  rw[<-h3];rfl
theorem CA {f:Nat->KP} {c:Nat} (h:∀ n,(f n).1.length=c) (l:List Nat):fH (l.map f)=true:=by
 unfold fH
 rw[Vs]
 intro p hp
 rw[Vs]
 intro q hq
 refine aB (Ve.mp hp) λi z q3=>?_;apply ez q3
 refine aB (Ve.mp hq) λj z q3=>?_;apply ez q3
 rw[h,h];exact beq_self_eq_true _
theorem yG (l:List Nat):dA (l.map λi:Nat=>V.int i)=some (l.map λi:Nat=>(i:Int)):=by
 have e:(l.map λi:Nat=>V.int i)=(l.map λi:Nat=>(i:Int)).map V.int:=by rw[Wz];rfl
 rw[e]
 exact ov _
theorem mE {k:KX} {i:Nat} {K:aN} {H:ag} {f:Nat->KP} {l:List Nat} {c:Nat} (hp:l.Pairwise (· < ·)) (hl:l.length<=10000000) (hc:∀ n,(f n).1.length=c) (h:∀ n∈l,∃ v,cH k (cn K i (.int n)) H=some v/\pB v=some (f n).1/\(f n).2=n) {m:List Nat} (hm:ej (l.map f)=m.map f) (hf:∀ n∈m,(f n).2=n) :
  io k i K H (l.map λi:Nat=>V.int i)=some (.ref H.length,H++[.lst (m.map λi:Nat=>V.int i)]):=by
 have MO:m.length=l.length:=by
  have:=congrArg Zc hm
  rw[(eK _).length_eq,A',A'] at this
  exact this.symm
 unfold io
 rw[yG]
 show (if _ then _ else _)=_
 rw[if_pos ⟨qr (λi z=>by (exact Uj _)) hp,by rw[A'];exact hl⟩,BN h]
 show (if fH (l.map f) then _ else _)=_
 rw[if_pos (CA hc l),hm,Wz]
 have e:(m.map ((λp:KP=>V.int p.2) ∘ f))=m.map λi:Nat=>V.int i:=VH λn hn=>by
  show V.int (f n).2=_
  rw[hf n hn]
 rw[e]
 unfold qk
 exact if_pos (by rw[A',MO];exact B' hl (by decide))
noncomputable def dw (L:Nat) (H af:ag):Prop:=∀ (i:Nat) (o:aZ),i≠L->H[i]? = some o->af[i]? = some o
theorem dw.trans {L:Nat} {a b c:ag} (x:dw L a b) (y:dw L b c):dw L a c:=λi o hi h=>y i o hi (x i o hi h)
theorem ax.b {L:Nat} {a b:ag} (x:ax a b):dw L a b:=λi o z h=>x i o h
theorem dw.refl (L:Nat) (H:ag):dw L H H:=λz z z h=>h
theorem dD {H:ag} {i j:Nat} {m:aZ} (h:i≠j):(H.set i m)[j]? = H[j]?:=Wr h
noncomputable def mP (bs:List a0) (i:Nat):a0:=(bs[i]?).getD NE
theorem nO {bs:List a0} {i:Nat} (h:i<bs.length):bs[i]? = some (mP bs i):=by
 unfold mP;rw[Ue h];rfl
theorem HV {bs:List a0} {i:Nat} (h:i<bs.length):(bs.map a0.v)[((i:Nat):Int).toNat]? = some (mP bs i).v:=by
 rw[Us,Um,nO h];rfl
theorem EY {bs:List a0} {i:Nat} (h:i<bs.length):BO bs i=(mP bs i).l:=by
 unfold BO;rw[nO h];rfl
theorem H4 {bs:List a0} {lf:List Int} {O:Str} {dy:Int} {i:Nat} (h:i<bs.length):Ep bs lf O dy i=((mP bs i).n==O&&(decide (dy<=(mP bs i).l)&&decide (0<dp lf i))):=by
 unfold Ep;rw[nO h]
theorem vF {lf:List Int} {i:Nat} (h:i<lf.length):(lf.map V.int)[((i:Nat):Int).toNat]? = some (.int (dp lf i)):=fF h
theorem my {f:a0->V}:∀ (l:List a0) (j:Nat),cJ j (l.map f)=(UC l.length).map λi=>.tup [.int ((j+i:Nat):Int),f (mP l i)]
 | [],j=>rfl
 | b::l,j=>by
  show V.tup [.int j,f b]::cJ (j+1) (l.map f)=_
  rw[my l (j+1),VV,List.range_succ_eq_map,U2,Wz]
  refine congr (congrArg _ rfl) (VH λi z=>?_)
  show V.tup [.int ((j+1+i:Nat):Int),f (mP l i)]=V.tup [.int ((j+(i+1):Nat):Int),f (mP (b::l) (i+1))]
  rw[show j+1+i=j+(i+1) from (U3 (by exact jL (y6 0xc5212ba181012ba30213ba183413ba415 rfl (iA _ _) (iA _ _) (iA _ _) (iA _ _))) (by exact jL (y6 0xc5212ba181012ba03213ba183413ba145 rfl (iA _ _) (iA _ _) (iA _ _) (iA _ _))))];rfl
theorem jg {call:aw} {K:aN} {H σ1:ag} {e:CE} {r:Nat} {l:List V} (h:ab call e K H=some (.ref r,σ1)) (hr:σ1[r]? = some (.lst l)):bS call (.ex e) K H=some (l,[(r,.lst l)],σ1):=by
 show bn (ab call e K H) (λx σ1=>(jf σ1 x).bind λp=>some (p.1,p.2,σ1))=_
 rw[h]
 show ((lst σ1 r).bind λl=>some (l,[(r,aZ.lst l)])).bind (λp=>some (p.1,p.2,σ1))=_
 rw[cT hr];rfl
theorem EU {K:aN} {H:ag} {bs:List a0} {n:Nat} (h0:K 0=some (.tup (bs.map a0.v))) (hn:n<bs.length):∃ v,cH (.pair (.idx (.idx (.var 0) (.var 5)) (.num 2)) (.var 5)) (cn K 5 (.int n)) H=some v/\pB v=some (yN bs n).1/\(yN bs n).2=n:=by
 refine⟨.tup [.int (BO bs n),.int n],?_,rfl,rfl⟩
 rw[EY hn]
 have e1:cH (.idx (.var 0) (.var 5)) (cn K 5 (.int n)) H=some (mP bs n).v:=by
  show ((cn K 5 (.int n)) 0).bind _=_
  rw[show (cn K 5 (.int n)) 0=K 0 from rfl,h0]
  exact nv (Uj _) (HV hn)
 show ((cH (.idx (.var 0) (.var 5)) (cn K 5 (.int n)) H).bind λx=>(cH (.num 2) (cn K 5 (.int n)) H).bind λy=>i8 x y H).bind _=_
 rw[e1];rfl
noncomputable abbrev dx (l:List Nat):List V:=l.map λi:Nat=>V.int i
theorem qI {P:List bj} {k d:Nat} {H:ag} {L:Nat} (hk:P[k]? = some bP) (bs:List a0) (lf:List Int) (O:Str) (dy:Int) (hl:lf.length=bs.length) (hb:bs.length<=10000000) (hL:H[L]? = some (.lst (lf.map .int))) :
  ∃ q af,az P (d+1) k [.tup (bs.map a0.v),.ref L,.str O,.int dy] H=some (.ok (.ref q),af)/\ax H af/\H.length<=q/\af[q]? = some (.lst (dx (bE bs lf O dy))):=by
 have dZ:ar=16777216:=rfl
 obtain ⟨v,af,h,q,rfl,h1,h2,h3⟩:=cc (R:=λv af=>∃ q,v=.ref q/\ax H af/\H.length<=q/\af[q]? = some (.lst (dx (bE bs lf O dy)))) hk rfl (by
  unfold bP
  have hs:bS (az P d) (.enm (.var 0)) (b8 [.tup (bs.map a0.v),.ref L,.str O,.int dy]) H=some ((UC bs.length).map λi=>V.tup [.int ((0+i:Nat):Int),(mP bs i).v],[],H):=by
   rw[<-my];exact C5 rfl
  have hc:=dU (elt:=ab (az P d) (.var 5)) (cond:=bX (az P d) (.cons (.and (.cmp .Eq (.idx (.var 6) (.cst (.int 0))) (.var 2)) (.and (.cmp .GtE (.idx (.var 6) (.cst (.int 2))) (.var 3)) (.cmp .Gt (.idx (.var 1) (.var 5)) (.cst (.int 0))))) .nil)) (t:=.two 5 6) (K:=b8 [.tup (bs.map a0.v),.ref L,.str O,.int dy]) (g:=λi=>V.tup [.int ((0+i:Nat):Int),(mP bs i).v]) (p:=Ep bs lf O dy) (b0 _) (xs:=UC bs.length) λi hi=>by
   have gf:=Vc.mp hi
   refine⟨_,rfl,?_,λz=>?_⟩
   ·rw[H4 gf]
    refine ub (jl (bO (be 0 _ _ (an rfl) rfl (by decide) rfl) rfl rfl) (jl (bO (be 2 _ _ (an rfl) rfl (by decide) rfl) rfl rfl) (bO (aP L ((0+i:Nat):Int) _ (.int (dp lf i)) rfl rfl hL (Uj _) ?_) rfl rfl)))
    rw[V8];exact vF (hl ▸ gf)
   ·show some (V.int ((0+i:Nat):Int),H)=_
    rw[V8]
  refine W.set (fE hs hc ?_) ?_
  ·rw[A']
   exact B' (VN _ _) (by rw[UN];exact B' hb (by decide))
  have hD:=aH H (.lst (dx (Er bs lf O dy)))
  refine W.retE (sJ (jg (an rfl) hD) rfl (mE (c:=2) ((WH).filter _) (B' (VN _ _) (by rw[UN];exact hb)) (λz=>rfl) (λn hn=>?_) (xF bs _) λz z=>rfl)) ⟨_,rfl,_,rfl,(ax.app _ _).trans (ax.app _ _),by rw[Ud];exact jL (y3 0xc1210b00813ba021 rfl (iP _) (iA _ _)),aH _ _⟩
  exact EU rfl (Vc.mp (Vp.mp hn).1))
 exact⟨q,af,h,h1,h2,h3⟩
noncomputable def p7 (iB:Nat):bj:=⟨4,(.cons (.assign (.one 4) (.list .nil))
 (.cons (.assign (.two 5 6) (.var 2))
 (.cons (.for_ (.one 7) (.ex (.call iB (.cons (.var 0) (.cons (.var 1) (.cons (.var 5) (.cons (.var 3) .nil)))))) (.cons (.ite (.cmp .Gt (.var 6) (.cst (.int 0))) (.cons (.assign (.one 8) (.prim .min2 (.cons (.var 6) (.cons (.idx (.var 1) (.var 7)) .nil))))
 (.cons (.setItem (.var 1) (.var 7) (.bin .Sub (.idx (.var 1) (.var 7)) (.var 8)))
 (.cons (.assign (.one 6) (.bin .Sub (.var 6) (.var 8)))
 (.cons (.expr (.meth .append (.var 4) (.cons (.tuple (.cons (.var 7) (.cons (.var 8) .nil))) .nil)))
 .nil)))) .nil)
 .nil))
 (.cons (.ite (.cmp .Gt (.var 6) (.cst (.int 0))) (.cons (.raise_ 2 (.var 5))
 .nil) .nil)
 (.cons (.ret (.var 4))
 .nil)))))⟩
structure J8 (L:Nat) (H:ag) (t:Tk) (O:Str) (r:uo) (af:ag):Prop where
 keep:dw L H af
 lf:af[L]? = some (.lst (t.lf.map .int))
 bad:0<t.am->r=.exc 2 O
 ok:¬ 0<t.am->∃ q,r=.ok (.ref q)/\H.length<=q/\af[q]? = some (.lst (t.ps.map pV))
theorem u5 {t:Tk} {l:List Nat} {k i:Nat} (h:l[k]? = some i):(l.take (k+1)).foldl pE t=pE ((l.take k).foldl pE t) i:=by
 rw[cP h,X5];rfl
theorem Cb {l:List Nat} {k:Nat} {x:V} (h:(dx l)[k]? = some x):∃ i:Nat,l[k]? = some i/\x=.int i:=by
 rw[dx,Um,Vi] at h
 obtain ⟨i,h1,h2⟩:=h
 exact⟨i,h1,h2.symm⟩
theorem ti (l:List Int) (i:Nat) (x:Int):(l.map V.int).set i (.int x)=(l.set i x).map V.int:=by rw[XT]
theorem Cu:∀ (l:List Nat) (t:Tk),(l.foldl pE t).ps.length<=t.ps.length+l.length
 | [],t=>by simp
 | i::l,t=>by
  rw[Wd]
  have h1:=Cu l (pE t i)
  have h2:(pE t i).ps.length<=t.ps.length+1:=by
   unfold pE
   split
   ·simp
   ·exact jL (y2 0xc0113ba1810 rfl (iA _ _))
  rw[VV];exact jL (y8 0xc6010b1010b3213ba185413ba47612ba52112ba1873 rfl (iL h1) (iL h2) (iA _ _) (iA _ _) (iA _ _) (iA _ _))
noncomputable abbrev uL (bs:List a0) (L:Nat) (dy:Int) (p:Nat) (O:Str) (a:Int):List (Option V):=[some (.tup (bs.map a0.v)),some (.ref L),none,some (.int dy),some (.ref p),some (.str O),some (.int a)]
structure Rg (l:List Nat) (lf:List Int) (am:Int) (L q:Nat) (H:ag) (k:Nat) (af:ag) (t:Tk):Prop where
 ht:(l.take k).foldl pE ⟨[],lf,am⟩=t
 h1:af[L]? = some (.lst (t.lf.map .int))
 h2:af[H.length]? = some (.lst (t.ps.map pV))
 h3:af[q]? = some (.lst (dx l))
 hK:dw L H af
theorem zD {P:List bj} {k d iB:Nat} {H:ag} {L:Nat} (hk:P[k]? = some (p7 iB)) (hB:P[iB]? = some bP) (bs:List a0) (lf:List Int) (O:Str) (am dy:Int) (hl:lf.length=bs.length) (hb:bs.length<=10000000) (hL:H[L]? = some (.lst (lf.map .int))) :
  ∃ r af,az P (d+2) k [.tup (bs.map a0.v),.ref L,.tup [.str O,.int am],.int dy] H=some (r,af)/\J8 L H (m9 bs lf O am dy) O r af:=by
 have dZ:ar=16777216:=rfl
 have N8:L<H.length:=(J'.mp hL).1
 refine AF hk rfl ?_
 unfold p7
 refine W.set (v:=.ref H.length) (σ1:=H++[.lst []]) rfl ?_
 refine W.put rfl rfl ?_
 refine DD (qI (d:=d) (H:=H++[.lst []]) hB bs lf O dy hl hb (ax.app _ _ _ _ hL)) λq bv e1 k1 hq OZ=>?_
 rw[Ud] at hq
 have EI:H.length<q:=hq
 generalize hE:bE bs lf O dy=l at OZ
 have cm:l.length<=10000000:=by rw[<-hE];exact B' (HT _ _ _ _) hb
 have cE:∀ i∈l,i<bs.length:=λi hi=>qW (jX.mp (hE ▸ hi))
 have MW:m9 bs lf O am dy=l.foldl pE ⟨[],lf,am⟩:=by unfold m9;rw[hE]
 rw[MW]
 refine W.loop (jg (al rfl e1) OZ)
  (λk K af=>∃ t,K=bp (uL bs L dy H.length O t.am)/\Rg l lf am L q H k af t)
  (a:=bp (uL bs L dy H.length O am)) (ay ⟨rfl,rfl,rfl,rfl,rfl,rfl,trivial⟩) ⟨⟨[],lf,am⟩,rfl,rfl,k1 _ _ (ax.app _ _ _ _ hL),k1 _ _ (aH _ _),OZ,((ax.app _ _).trans k1).b⟩ (λ_ _ _ ⟨_,_,I⟩=>ji I.h3) ?_ ?_
 ·intro j x Jy fg hx q1
  refine aB q1 λt q1 I=>?_;apply aV q1
  refine aB (Cb hx) λi hi q3=>?_;apply aV q3
  have rk:=cE i (Ui hi)
  have r2:=Cu (l.take j) ⟨[],lf,am⟩
  have QF:=lj (l.take j) ⟨[],lf,am⟩
  have K4:=u5 (t:=⟨[],lf,am⟩) hi
  rw[I.ht] at r2 QF K4
  have JH:i<t.lf.length:=by rw[QF];exact hl ▸ rk
  have S6:(t.ps.map pV).length<=ar:=by
   rw[A']
   exact B' r2 (B' (by rw[XJ,V8];exact B' (Yz j l) cm) (by decide:10000000<=ar))
  refine⟨_,rfl,W.if_ (σ1:=fg) rfl (λh0=>?_) λh0=>?_⟩
  ·refine W.set (v:=.int (lH t i)) (aX (aI rfl (aC (aP L (i:Int) _ _ rfl rfl I.h1 (Uj _) (vF JH)))) rfl) ?_
   refine W.setItem0 L (i:Int) (t.lf.map .int) (.int (dp t.lf i - lH t i)) (aJ (aP L (i:Int) _ _ rfl rfl I.h1 (Uj _) (vF JH)) rfl rfl) rfl rfl I.h1 (Uj _) (by rw[Us,A'];exact JH) ?_
   rw[Us,ti]
   refine W.set rfl ?_
   have g1:=dJ (m':=.lst ((t.lf.set i (dp t.lf i - lH t i)).map .int)) I.h1
   have g2:=(dD (m:=.lst ((t.lf.set i (dp t.lf i - lH t i)).map .int)) (UP N8)).trans I.h2
   have g3:=(dD (m:=.lst ((t.lf.set i (dp t.lf i - lH t i)).map .int)) (UP (Ww N8 EI))).trans I.h3
   have K3:dw L H (fg.set L (.lst ((t.lf.set i (dp t.lf i - lH t i)).map .int))):=λb o hb e=>(dD (Ne.symm hb)).trans (I.hK b o hb e)
   generalize fg.set L (.lst ((t.lf.set i (dp t.lf i - lH t i)).map .int))=dv at g1 g2 g3 K3
   exact W.append0 H.length (t.ps.map pV) (pV (i,lH t i)) rfl g2 rfl S6 (W.nil (W.nil ⟨rfl,bp (uL bs L dy H.length O (t.am - lH t i)),ay ⟨rfl,rfl,rfl,rfl,rfl,rfl,trivial⟩,⟨t.ps++[(i,lH t i)],t.lf.set i (dp t.lf i - lH t i),t.am - lH t i⟩,rfl,K4.trans (if_pos h0),(dD (V7 N8)).trans g1,
    (dJ g2).trans (congrArg (λz=>some (aZ.lst z)) (Va (l₂:=[(i,lH t i)])).symm),(dD (UP EI)).trans g3,λb o hb e=>(dD (V7 (J'.mp e).1)).trans (K3 b o hb e)⟩))
  ·exact W.nil (W.nil ⟨rfl,bp (uL bs L dy H.length O t.am),ay ⟨rfl,rfl,rfl,rfl,rfl,rfl,trivial⟩,t,rfl,K4.trans (if_neg h0),I.h1,I.h2,I.h3,I.hK⟩)
 ·intro Jy fg q1
  refine aB q1 λt q1 I=>?_;apply aV q1
  have ht:=I.ht
  rw[show (dx l).length=l.length from A' _,UZ] at ht
  rw[ht]
  refine W.if_ (σ1:=fg) rfl (λh0=>?_) λh0=>?_
  ·exact W.raise rfl (.inr ⟨2,O,rfl,I.hK,I.h1,λy=>rfl,λh=>absurd h0 h⟩)
  ·exact W.nil (W.retE rfl (.inl ⟨_,rfl,I.hK,I.h1,λh=>absurd h h0,λy=>⟨_,rfl,Un _,I.h2⟩⟩))
noncomputable def ph (p:a0->Bool):List a0->List Int->Int
 | [],_=>0
 | b::bs,lf=>(if p b then dp lf 0 else 0)+ph p bs lf.tail
theorem eZ (lf:List Int) (i:Nat):dp lf.tail i=dp lf (i+1):=by
 cases lf <;> rfl
set_option tactic.hygienic true in
theorem ja {p:a0->Bool}:∀ {bs:List a0} {lf lf':List Int},(∀ i b,bs[i]? = some b->p b=true->dp lf i<=dp lf' i)->ph p bs lf<=ph p bs lf'
 | [],_,_,_=>Vk _
 | b::bs,lf,lf',h=>by
  refine Xk ?_ (ja λi c hc hp=>?_)
  ·split
   ·rename_i hb;exact h 0 b rfl hb
   ·exact Vk _
  ·rw[eZ,eZ];exact h (i+1) c hc hp
theorem lY {p:a0->Bool} {bs:List a0} {lf lf':List Int} (h:∀ i b,bs[i]? = some b->p b=true->dp lf i=dp lf' i):ph p bs lf=ph p bs lf' :=
 UG (ja λi b e q=>WE (h i b e q)) (ja λi b e q=>WE (h i b e q).symm)
theorem rv (p:a0->Bool):∀ bs:List a0,ph p bs []=0
 | []=>rfl
 | b::bs=>by
  show (if p b then (0:Int) else 0)+ph p bs []=0
  rw[rv p bs,ite_self];rfl
theorem xk {p:a0->Bool}:∀ {bs:List a0} {lf lf':List Int} {i:Nat} {b:a0},bs[i]? = some b->p b=true->(∀ j,j≠i->dp lf' j=dp lf j)->ph p bs lf'=ph p bs lf+(dp lf' i - dp lf i)
 | c::bs,lf,lf',0,b,hb,hp,h=>by
  cases hb
  have e:=lY (p:=p) (bs:=bs) (lf:=lf'.tail) (lf':=lf.tail) λi b z z=>by rw[eZ,eZ];exact h _ (W1 i)
  show (if p c then dp lf' 0 else 0)+ph p bs lf'.tail=(if p c then dp lf 0 else 0)+ph p bs lf.tail+_
  rw[if_pos hp,if_pos hp,e];exact UG (y3 0xcae20a12a10 rfl) (y3 0xca12ae02a10 rfl)
 | c::bs,lf,lf',i+1,b,hb,hp,h=>by
  have e:=xk (p:=p) (bs:=bs) (lf:=lf.tail) (lf':=lf'.tail) (i:=i) hb hp λj hj=>by rw[eZ,eZ];exact h _ λq=>hj (Yd.inj q)
  rw[eZ,eZ] at e
  show (if p c then dp lf' 0 else 0)+ph p bs lf'.tail=(if p c then dp lf 0 else 0)+ph p bs lf.tail+_
  rw[e,h 0 (W1 i).symm];exact UG (y4 0xcae32a10aae3210 rfl) (y4 0xcaae3210ae32a10 rfl)
structure P4 (R:Nat->Nat->Prop) (l:List Nat) (t t':Tk):Prop where
 out:∀ i,i∉l->dp t'.lf i=dp t.lf i
 inn:∀ i∈l,0<=dp t'.lf i/\dp t'.lf i<=dp t.lf i
 bad:0<t'.am->∀ i∈l,dp t'.lf i=0
 ord:∀ i∈l,∀ j∈l,R i j->dp t'.lf j≠dp t.lf j->dp t'.lf i=0
 nn:0<=t.am->0<=t'.am
 few:(∀ i∈l,0<dp t.lf i)->(t'.ps.length:Int)+t'.am<=t.ps.length+t.am
 sum:∀ bs p,(∀ i∈l,∃ b,bs[i]? = some b/\p b=true)->ph p bs t.lf+t'.am=ph p bs t'.lf+t.am
theorem rU {R:Nat->Nat->Prop} (as:∀ i j,R i j->¬ R j i):∀ {l:List Nat} {t:Tk},l.Pairwise R->(∀ i∈l,i<t.lf.length/\0<=dp t.lf i)->P4 R l t (l.foldl pE t)
 | [],t,_,_=>⟨λy y=>rfl,(λy h=>nomatch h),(λy y h=>nomatch h),(λy h=>nomatch h),id,λy=>Vk _,λy y y=>rfl⟩
 | i::l,t,hp,h=>by
  by_cases h0:0<t.am
  ·have hp:=Ur.mp hp
   have hi:=h i z'
   have JH:i∉l:=λq=>as i i (hp.1 i q) (hp.1 i q)
   have e1:pE t i=⟨t.ps++[(i,lH t i)],t.lf.set i (dp t.lf i - lH t i),t.am - lH t i⟩:=if_pos h0
   have f1:∀ j,j≠i->dp (pE t i).lf j=dp t.lf j:=λj hj=>by rw[e1];exact (xj hi.1).trans (if_neg (Ne.symm hj))
   have f2:dp (pE t i).lf i=dp t.lf i - lH t i:=by rw[e1];exact (xj hi.1).trans (if_pos rfl)
   have f3:(pE t i).am=t.am - lH t i:=by rw[e1]
   have f4:lH t i<=t.am/\lH t i<=dp t.lf i/\0<=lH t i/\(lH t i=t.am\/lH t i=dp t.lf i):=by unfold lH;exact (XS _ _).elim (λd0=>⟨y2 0xc1010b10 rfl (Yp _ _),⟨y2 0xc1010b10 rfl (W2 _ _),⟨y2 0xc10811b00813b01 rfl h0 (Xb d0),.inl (UG (y2 0xc1010b10 rfl (Yp _ _)) (y2 0xc0113b10 rfl (Xb d0)))⟩⟩⟩) λd0=>⟨y2 0xc1010b10 rfl (Yp _ _),⟨y2 0xc1010b10 rfl (W2 _ _),⟨y2 0xc10810b00813b01 rfl hi.2 (WV d0),.inr (UG (y2 0xc1010b10 rfl (W2 _ _)) (y2 0xc0113b10 rfl (WV d0)))⟩⟩⟩
   generalize lH t i=x at f2 f3 f4
   generalize e2:pE t i=t1 at f1 f2 f3
   have hl1:t1.lf.length=t.lf.length:=by rw[<-e2,xH]
   have ne:∀ j∈l,j≠i:=λj hj q=>JH (q ▸ hj)
   have ih:=rU as (t:=t1) hp.2 λj hj=>by rw[hl1,f1 j (ne j hj)];exact h j (H' _ hj)
   rw[Wd,e2]
   have o1:=ih.out i JH
   refine⟨λj hj=>?_,λj hj=>?_,λhb j hj=>?_,λa ha b hb hr hc=>?_,λy=>ih.nn (by exact y3 0xc20810b1013be012 rfl f4.1 f3),λhp=>?_,λbs p hs=>?_⟩
   ·rw[ih.out j λq=>hj (H' _ q),f1 j λq=>hj (q ▸ z')]
   ·refine Ug (Uh.mp hj) (λq=>?_) λq=>?_
    ·rw[q,o1];exact⟨y3 0xc20810b1013be012 rfl f4.2.1 f2,y3 0xc2110b00812be021 rfl f4.2.2.1 f2⟩
    ·rw[<-f1 j (ne j q)];exact ih.inn j q
   ·refine Ug (Uh.mp hj) (λq=>?_) λq=>ih.bad hb j q
    rw[q,o1]
    by_cases h1:0<t1.am
    ·exact f4.2.2.2.elim (λd0=>UG ((zI (y3 0x1c080812be21011b00813b12 rfl f3 h1 d0)).elim) (y3 0xc20810b1013be012 rfl f4.2.1 f2)) λd0=>UG (y3 0xc08012be21013b12 rfl f2 d0) (y3 0xc20810b1013be012 rfl f4.2.1 f2)
    ·rw[li l t1 h1] at hb;exact absurd hb h1
   ·refine Ug (Uh.mp hb) (λq=>?_) λq=>?_
    ·subst q
     exact Ug (Uh.mp ha) (λq=>absurd (q ▸ hr) (as _ _ (q ▸ hr))) λq=>absurd hr (as _ _ (hp.1 a q))
    ·refine Ug (Uh.mp ha) (λz=>?_) λz=>ih.ord a z b q hr (f1 b (ne b q) ▸ hc)
     rw[z,o1]
     by_cases h1:0<t1.am
     ·exact f4.2.2.2.elim (λd0=>UG ((zI (y3 0x1c080812be21011b00813b12 rfl f3 h1 d0)).elim) (y3 0xc20810b1013be012 rfl f4.2.1 f2)) λd0=>UG (y3 0xc08012be21013b12 rfl f2 d0) (y3 0xc20810b1013be012 rfl f4.2.1 f2)
     ·rw[li l t1 h1,f1 b (ne b q)] at hc;exact absurd rfl hc
   ·have h1:=ih.few λj hj=>by rw[f1 j (ne j hj)];exact hp j (H' _ hj)
    have h2:=hp i z'
    have h3:t1.ps.length=t.ps.length+1:=by rw[<-e2,e1,Ud];rfl
    rw[f3,h3] at h1
    exact f4.2.2.2.elim (λd0=>y6 0xca05a2111b00810bae403a2112ba185313b04 rfl h0 h1 (iA _ _) d0) λd0=>y7 0xca36a1010bae432a1011b50812ba186213b54 rfl h1 h2 (iA _ _) d0
   ·have s1:=ih.sum bs p λj hj=>hs j (H' _ hj)
    refine aB (hs i z') λb hb S4=>?_
    have s2:=xk hb S4 f1
    rw[f3] at s1
    rw[f2] at s2
    exact UG (y7 0xca32a1512bae432a1013bae6e4650 rfl s1 s2) (y7 0xca15a3213bae432a1012bae6e4650 rfl s1 s2)
  ·rw[li _ t h0]
   exact⟨λy y=>rfl,λj hj=>⟨(h j hj).2,Vk _⟩,λq=>absurd q h0,λy y y y y q=>absurd rfl q,id,λy=>Vk _,λy y y=>rfl⟩
noncomputable def pk (O:Str) (t:Nat) (b:a0):Bool:=b.n==O&&decide ((t:Int)<b.l)
structure HC (bs:List a0) (lf:List Int) (D:Str->Nat->Int):Prop where
 len:lf.length=bs.length
 nn:∀ i,0<=dp lf i
 le:∀ (O:Str) (t:Nat),D O t+ph (pk O t) bs lf<=fV bs O t
 ex:∀ (O:Str) (t:Nat),D O t+ph (pk O t) bs lf=fV bs O t\/(1<=t/\∀ i b,bs[i]? = some b->b.n=O->b.l=(t:Int)->dp lf i=0)
theorem nk {bs:List a0} {lf:List Int} {O:Str} {dy:Int} {i:Nat}:Ep bs lf O dy i=true↔∃ b,bs[i]? = some b/\b.n=O/\dy<=b.l/\0<dp lf i:=by
 unfold Ep
 cases bs[i]? with
 | none=>exact⟨(λq=>nomatch q),λq=>q.elim λb q=>nomatch q.1⟩
 | some c =>
  dsimp only
  rw[Uv,Uv,beq_iff_eq,decide_eq_true_iff,decide_eq_true_iff]
  exact⟨λq=>⟨c,rfl,q⟩,λq=>aB q λb q1 q2=>Option.some.inj q1 ▸ q2⟩
theorem Jt {bs:List a0} {lf:List Int} {O:Str} {am dy:Int} (hl:lf.length=bs.length) (ha:0<=am):((m9 bs lf O am dy).ps.length:Int)<=am:=by
 have hp:∀ i∈bE bs lf O dy,0<dp lf i:=λi hi=>qT (nk.mp (jX.mp hi)) λz z z z q=>q
 have T:=rU (λz z=>Bf.asym) (t:=⟨[],lf,am⟩) (Gg bs lf O dy) λi hi=>⟨hl ▸ qW (jX.mp hi),Wt (hp i hi)⟩
 have h1:=T.few hp
 have h2:=T.nn ha
 change _<=((0:Nat):Int)+am at h1
 unfold m9;exact y3 0xc2110b00810ba208a01 rfl h2 h1
theorem HC.take {bs:List a0} {lf:List Int} {D:Str->Nat->Int} {O:Str} {am:Int} {dy:Nat} (I:HC bs lf D) (hd:1<=dy):HC bs (m9 bs lf O am dy).lf (λn t=>D n t+if n=O/\t<dy then am - (m9 bs lf O am dy).am else 0) /\
  (0<=am->0<=(m9 bs lf O am dy).am)/\(0<(m9 bs lf O am dy).am->∀ i b,bs[i]? = some b->b.n=O->(dy:Int)<=b.l->dp (m9 bs lf O am dy).lf i=0):=by
 have T:=rU (λy y=>Bf.asym) (t:=⟨[],lf,am⟩) (Gg bs lf O dy) λi hi=>⟨I.len ▸ qW (jX.mp hi),I.nn i⟩
 have hl:=lj (bE bs lf O dy) ⟨[],lf,am⟩
 change P4 _ _ _ (m9 bs lf O am dy) at T
 change (m9 bs lf O am dy).lf.length=lf.length at hl
 generalize m9 bs lf O am dy=u at T hl
 have M7:∀ {i},i∈bE bs lf O dy->∃ b,bs[i]? = some b/\b.n=O/\(dy:Int)<=b.l/\0<dp lf i:=λhi=>nk.mp (jX.mp hi)
 have PK:∀ i,dp lf i=0->dp u.lf i=0:=λi h=>(T.out i λq=>qT (M7 q) λy y y y q=>by exact zI (y1 0x1c080812b08011b008 rfl h q)).trans h
 have gJ:∀ i b,bs[i]? = some b->b.n=O->(dy:Int)<=b.l->(0<dp lf i->dp u.lf i=0)->dp u.lf i=0:=λi b e1 e2 e3 k=>Ug (YM (I.nn i)) k λq=>PK i q.symm
 have NO:∀ i,dp u.lf i<=dp lf i:=λi=>by
  by_cases hi:i∈bE bs lf O dy
  ·exact (T.inn i hi).2
  ·exact WE (T.out i hi)
 have same:∀ (n:Str) (t:Nat),ph (pk n t) bs u.lf=ph (pk n t) bs lf->D n t+ph (pk n t) bs u.lf=fV bs n t\/(1<=t/\∀ i b,bs[i]? = some b->b.n=n->b.l=(t:Int)->dp u.lf i=0):=λn t e=>by
  rw[e];exact (I.ex n t).imp id λq=>⟨q.1,λi b h1 h2 h3=>PK i (q.2 i b h1 h2 h3)⟩
 refine⟨⟨hl.trans I.len,λi=>?_,λn t=>?_,λn t=>?_⟩,T.nn,λh0 i b e1 e2 e3=>gJ i b e1 e2 e3 λhp=>T.bad h0 i (jX.mpr (nk.mpr ⟨b,e1,e2,e3,hp⟩))⟩
 ·by_cases hi:i∈bE bs lf O dy
  ·exact (T.inn i hi).1
  ·rw[T.out i hi];exact I.nn i
 ·have h1:=I.le n t
  by_cases hc:n=O/\t<dy
  ·rw[if_pos hc]
   have h2:=T.sum bs (pk n t) λi hi=>qT (M7 hi) λb e1 e2 e3 y=>⟨b,e1,by unfold pk;rw[e2,hc.1,beq_self_eq_true,W'];exact decide_eq_true (by exact y3 0x1c2011b1010b21 rfl (iT hc.2) e3)⟩
   dsimp only at h2
   exact y6 0xc2a4ae35010b2a1013ba54a31 rfl h1 h2
  ·rw[if_neg hc]
   have h2:=ja (p:=pk n t) (bs:=bs) λi b y y=>NO i
   exact y4 0xc2a3a08010b2a1010b13 rfl h1 h2
 ·by_cases hc:n=O/\t<dy
  ·have h2:=T.sum bs (pk n t) λi hi=>qT (M7 hi) λb e1 e2 e3 y=>⟨b,e1,by unfold pk;rw[e2,hc.1,beq_self_eq_true,W'];exact decide_eq_true (by exact y3 0x1c2011b1010b21 rfl (iT hc.2) e3)⟩
   dsimp only at h2
   rw[if_pos hc]
   exact (I.ex n t).imp (λq=>by exact UG (y6 0xc5a2ae13413ba32a1012b5a04 rfl h2 q) (y6 0xca2ae134512ba32a1013b5a04 rfl h2 q)) λq=>⟨q.1,λi b h1 h2 h3=>PK i (q.2 i b h1 h2 h3)⟩
  ·rw[if_neg hc,VO]
   by_cases he:∀ i b,bs[i]? = some b->pk n t b=true->dp u.lf i=dp lf i
   ·exact same n t (lY he)
   ·refine .inr ?_
    obtain ⟨i,b,e1,hp,fK⟩:∃ i b,bs[i]? = some b/\pk n t b=true/\dp u.lf i≠dp lf i:=W4 λq=>he λi b e1 e2=>W4 λz=>q ⟨i,b,e1,e2,z⟩
    have hi:i∈bE bs lf O dy:=W4 λq=>fK (T.out i q)
    have hp:=Up.mp hp
    have hn:n=O:=qT (M7 hi) λc q1 q2 y y=>(beq_iff_eq.mp hp.1).symm.trans ((Option.some.inj (e1.symm.trans q1)) ▸ q2)
    have ht:¬ t<dy:=λq=>hc ⟨hn,q⟩
    refine⟨B' hd (UK.mp ht),λj c f1 f2 f3=>gJ j c f1 (f2.trans hn) (by exact y3 0xc2010b1013b12 rfl (iL (UK.mp ht)) f3) λh0=>T.ord j (jX.mpr (nk.mpr ⟨c,f1,f2.trans hn,by exact y3 0xc2010b1013b12 rfl (iL (UK.mp ht)) f3,h0⟩)) i hi (.inl ?_) fK⟩
    unfold BO
    rw[f1,e1]
    show c.l<b.l
    rw[f3];exact of_decide_eq_true hp.2
theorem HC.fail {bs:List a0} {lf:List Int} {D:Str->Nat->Int} (I:HC bs lf D) {O:Str}:∀ {dy:Nat},1<=dy->(∀ i b,bs[i]? = some b->b.n=O->(dy:Int)<=b.l->dp lf i=0)->∃ t,t<dy/\fV bs O t=D O t
 | t+1,_,hz=>by
  have e:ph (pk O t) bs lf=0:=(lY (lf':=[]) λi b h1 h2=>hz i b h1 (beq_iff_eq.mp (Up.mp h2).1) (of_decide_eq_true (Up.mp h2).2)).trans (rv _ _)
  refine Ug (I.ex O t) (λq=>⟨t,VC t,by exact UG (y3 0xc1212b08013b2a01 rfl e q) (y3 0xc2113b08012b2a01 rfl e q)⟩) λq=>?_
  refine aB (I.fail q.1 λi b h1 h2 h3=>?_) λu h1 h2=>⟨u,WK h1,h2⟩
  exact Ug (YM h3) (λz=>hz i b h1 h2 z) λz=>q.2 i b h1 h2 z.symm
theorem kn (p:Str×Int) (l:List (Str×Int)) (n:Str):jU (p::l) n=(if n=p.1 then p.2 else 0)+jU l n:=by
 unfold jU
 by_cases h:n=p.1
 ·rw[if_pos h,List.filter_cons_of_pos (by rw[h];exact beq_self_eq_true _),U2,bd]
 ·rw[if_neg h,List.filter_cons_of_neg (by intro q;exact h (beq_iff_eq.mp q).symm),VB]
theorem qH {n:Str}:∀ {l:List (Str×Int)},(∀ p∈l,0<=p.2)->0<=jU l n
 | [],_=>Vk _
 | p::l,h=>by
  have h1:=h p z'
  have h2:=qH (n:=n) λq hq=>h q (H' _ hq)
  rw[kn];split <;> lia
theorem Cc {bs:List a0} {dy:Nat} (hd:1<=dy):∀ {ns:List (Str×Int)} {st:List Int×List (Nat×Int)} {D:Str->Nat->Int},HC bs st.1 D->(∀ p∈ns,0<=p.2) ->
  (∀ st',b9 (uw bs dy) st ns=.ok st'->HC bs st'.1 λn t=>D n t+if t<dy then jU ns n else 0)/\∀ e,b9 (uw bs dy) st ns=.error e->(∃ t,t<dy/\fV bs e t<D e t+jU ns e)/\∃ a,(e,a)∈ns
 | [],st,D,I,_=>⟨λst' h=>by
   injection h with h;subst h
   have:(λn t=>D n t+if t<dy then jU [] n else 0)=D:=by funext n t;show D n t+(if t<dy then (0:Int) else 0)=_;rw[ite_self,VO]
   rw[this];exact I,λe h=>nomatch h⟩
 | p::ns,st,D,I,hp=>by
  have h0:=hp p z'
  have hn:=λq hq=>hp q (H' _ hq)
  refine iK (I.take (O:=p.1) (am:=p.2) hd) λI1 h1 h2=>?_
  have h1:=h1 h0
  unfold b9 uw
  by_cases hb:0<(m9 bs st.1 p.1 p.2 dy).am
  ·rw[if_pos hb]
   refine⟨(λy h=>nomatch h),λe h=>?_⟩
   injection h with h;subst h
   refine⟨aB (I1.fail hd (h2 hb)) λt ht e=>⟨t,ht,?_⟩,p.2,z'⟩
   rw[if_pos ⟨rfl,ht⟩] at e
   have:=qH (n:=p.1) hn
   rw[e,kn,if_pos rfl];exact y4 0x1caa132ae03211b00810b108 rfl hb this
  ·rw[if_neg hb]
   dsimp only
   rw[show (m9 bs st.1 p.1 p.2 dy).am=0 by exact UG (y1 0xc08015b008 rfl hb) (y1 0xc00810b008 rfl h1),Zw] at I1
   have ih:=Cc hd (st:=((m9 bs st.1 p.1 p.2 dy).lf,st.2++(m9 bs st.1 p.1 p.2 dy).ps)) I1 hn
   refine⟨λst' h=>?_,λe h=>?_⟩
   ·have:=ih.1 st' h
    have q:(λn t=>D n t+if t<dy then jU (p::ns) n else 0)=λn t=>D n t+(if n=p.1/\t<dy then p.2 else 0)+if t<dy then jU ns n else 0:=by
     funext n t
     rw[kn]
     by_cases a:n=p.1 <;> by_cases b:t<dy <;> simp [a,b] <;> exact UG (y3 0xca2a10aa210 rfl) (y3 0xcaa210a2a10 rfl)
    rw[q];exact this
   ·refine aR (ih.2 e h) λq1 q2=>⟨aB q1 λt ht q=>⟨t,ht,?_⟩,q2.elim λa ha=>⟨a,H' _ ha⟩⟩
    rw[kn]
    by_cases a:e=p.1
    ·rw[if_pos ⟨a,ht⟩] at q;rw[if_pos a];exact y4 0x1caa321011ba3a210 rfl q
    ·rw[if_neg λz=>a z.1] at q;rw[if_neg a];exact y3 0x1caa2081011ba2a0810 rfl q
noncomputable def aA.nn (x:aA):Prop:=∀ p∈x.ns,0<=p.2
noncomputable def lM (n:Str) (t:Nat) (x:aA):Int:=if t<x.d then jU x.ns n else 0
noncomputable def jW (ds:List aA) (n:Str) (t k:Nat):Int:=((ds[k]?).map (lM n t)).getD 0
theorem qO {bs:List a0} {ds:List aA} (hd:∀ x∈ds,x.ok/\x.nn):∀ {o:List Nat} {st:Dy} {D:Str->Nat->Int},HC bs st.1 D ->
  (∀ st',b9 (kE bs ds) st o=.ok st'->HC bs st'.1 λn t=>D n t+bJ (o.map (jW ds n t)))/\∀ e,b9 (kE bs ds) st o=.error e->(∃ t,t<7/\fV bs e t<D e t+bJ (o.map (jW ds e t)))/\∃ x∈ds,∃ a,(e,a)∈x.ns
 | [],st,D,I=>⟨λst' h=>by
   injection h with h;subst h
   have:(λn t=>D n t+bJ (([]:List Nat).map (jW ds n t)))=D:=by funext n t;exact VO _
   rw[this];exact I,λe h=>nomatch h⟩
 | k::o,st,D,I=>by
  have pos:∀ n t,0<=bJ (o.map (jW ds n t)):=λn t=>by
   induction o with
   | nil=>exact Vk _
   | cons j o ih =>
    rw[U2,bd]
    refine Wa ?_ ih
    unfold jW lM
    cases e:ds[j]? with
    | none=>exact Vk _
    | some x =>
     show 0<=if t<x.d then jU x.ns n else 0
     split
     ·exact qH (hd x (Ui e)).2
     ·exact Vk _
  unfold b9 kE
  cases ek:ds[k]? with
  | none =>
   dsimp only
   have ih:=qO hd (o:=o) I
   have q:∀ n t,bJ ((k::o).map (jW ds n t))=bJ (o.map (jW ds n t)):=λn t=>by
    rw[U2,bd];unfold jW;rw[ek];exact VB _
   refine⟨λst' h=>?_,λe h=>?_⟩
   ·simp only[q];exact ih.1 st' h
   ·simp only[q];exact ih.2 e h
  | some x =>
   have hx:=hd x (Ui ek)
   have q:∀ n t,bJ ((k::o).map (jW ds n t))=lM n t x+bJ (o.map (jW ds n t)):=λn t=>by
    rw[U2,bd]
    congr 1
    unfold jW;rw[ek];rfl
   dsimp only
   have N:=Cc (bs:=bs) hx.1.1 (ns:=x.ns) (st:=(st.1,[])) I hx.2
   cases hf:b9 (uw bs x.d) (st.1,[]) x.ns with
   | error e' =>
    refine⟨(λy h=>nomatch h),λe h=>?_⟩
    injection h with h;subst h
    refine aR (N.2 e' hf) λq1 q2=>⟨aB q1 λt ht z=>⟨t,Ul ht hx.1.2.1,?_⟩,x,Ui ek,q2⟩
    have:=pos e' t
    rw[q];unfold lM;rw[if_pos ht];exact y4 0x1caa321011ba21010b308 rfl z this
   | ok p =>
    dsimp only
    have ih:=qO hd (o:=o) (st:=(p.1,st.2.set k p.2)) (N.1 p hf)
    refine⟨λst' h=>?_,λe h=>?_⟩
    ·simp only[q,<-Wi];exact ih.1 st' h
    ·simp only[q,<-Wi];exact ih.2 e h
theorem C8 {l m:List Int} (h:l.Perm m):bJ l=bJ m:=by
 induction h with
 | nil=>rfl
 | cons x _ ih=>rw[bd,bd,ih]
 | swap x y l=>rw[bd,bd,bd,bd];exact UG (y3 0xcaa201aa210 rfl) (y3 0xcaa201aa210 rfl)
 | trans _ _ h1 h2=>exact h1.trans h2
theorem ll {α:Type} {p:α->Bool} {f:α->Int}:∀ l:List α,bJ ((l.filter p).map f)=bJ (l.map λx=>if p x then f x else 0)
 | []=>rfl
 | x::l=>by
  rw[U2,bd,Y8,<-ll l]
  cases p x with
  | true=>exact bd _ _
  | false=>exact (VB _).symm
theorem wQ (ds:List aA) (n:Str) (t:Nat):qa ds n t=bJ (ds.map (lM n t)):=by
 unfold qa
 rw[ll]
 refine congrArg bJ (VH λx z=>?_)
 unfold lM
 by_cases h:t<x.d
 ·rw[if_pos h,if_pos (decide_eq_true h)]
 ·rw[if_neg h,if_neg (by rw[decide_eq_true_iff];exact h)]
theorem D7 {ds:List aA} (hd:∀ x∈ds,x.ok) (n:Str) (t:Nat):bJ ((iH ds).map (jW ds n t))=qa ds n t:=by
 have e:(UC ds.length).map (jW ds n t)=ds.map (lM n t):=by
  refine X7 λi=>?_
  rw[Um,Um]
  by_cases h:i<ds.length
  ·rw[VI h,Ue h]
   show some (jW ds n t i)=_
   unfold jW;rw[Ue h];rfl
  ·rw[VL (by rw[UN];exact UK.mp h),VL (UK.mp h)];rfl
 have nd:(iH ds).Nodup:=(vQ ds).imp λh q=>by subst q;exact h.elim (λd0=>zI (y1 0x1c080811b00 rfl (iT d0))) λd0=>zI (y1 0x1c080811b00 rfl (iT d0.2))
 rw[C8 (((X2 nd Yk).mpr λk=>(rC hd).trans Vc.symm).map _),e,wQ]
theorem Ri {bs:List a0} (hb:∀ b∈bs,0<=b.a):HC bs (bs.map a0.a) λz z=>0:=by
 have e:∀ (bs:List a0) O t,ph (pk O t) bs (bs.map a0.a)=fV bs O t:=λbs O t=>by
  unfold fV
  rw[ll]
  induction bs with
  | nil=>rfl
  | cons b bs ih=>rw[U2,U2,bd,<-ih];rfl
 refine⟨A' _,λi=>?_,λO t=>?_,λO t=>.inl ?_⟩
 ·unfold dp
  rw[Um]
  cases h:bs[i]? with
  | none=>exact Vk _
  | some b=>exact hb b (Ui h)
 ·rw[e,VB];exact Vk _
 ·rw[e,VB]
theorem Em {bs:List a0} {ds:List aA} (hb:∀ b∈bs,0<=b.a) (hd:∀ x∈ds,x.ok/\x.nn) :
  (∀ st,gG bs ds=.ok st->∀ O t,qa ds O t<=fV bs O t)/\∀ e,gG bs ds=.error e->(∃ t,t<7/\fV bs e t<qa ds e t)/\∃ x∈ds,∃ a,(e,a)∈x.ns:=by
 have C:=qO (bs:=bs) hd (o:=iH ds) (st:=MD bs ds) (Ri hb)
 have a:=D7 λx hx=>(hd x hx).1
 simp only[a,VB] at C
 refine⟨λst h O t=>?_,C.2⟩
 have I:=C.1 st h
 have h1:=I.le O t
 have h2:=ja (p:=pk O t) (bs:=bs) (lf:=[]) (lf':=st.1) λi b z z=>I.nn i
 rw[rv] at h2
 exact y3 0xc2010b2a1010b108 rfl h1 h2
theorem xy (n:Nat):xx [V.tup []] n=(UL n ([]:List (Nat×Int))).map pG:=by
 induction n with
 | zero=>rfl
 | succ n ih=>rw[XM,U2,<-ih];rfl
section
variable {call:aw} {K:aN} {H:ag} {bs:List a0} {ds:List aA}
theorem E2 {i:Nat} (h:K 1=some (.tup (bs.map a0.v))) (hb:bs.length<=10000000):ab call (.comp (.idx (.var i) (.cst (.int 1))) (.one i) (.ex (.var 1)) .nil) K H=some (.ref H.length,H++[.lst ((bs.map a0.a).map .int)]):=by
 have dZ:ar=16777216:=rfl
 have hc:=dU (elt:=ab call (.idx (.var i) (.cst (.int 1)))) (cond:=bX call .nil) (t:=.one i) (w:=[]) (K:=K) (H:=H) (g:=a0.v) (p:=λz=>true) (f:=λb=>V.int b.a) (b0 _) (xs:=bs) λb hb=>⟨_,rfl,rfl,λz=>be 1 _ _ (an (v:=b.v) (by show (if i=i then some b.v else K i)=_;rw[if_pos rfl])) rfl (by decide) rfl⟩
 rw[eD] at hc
 have e:(bs.map λb=>V.int b.a)=(bs.map a0.a).map .int:=by rw[Wz];rfl
 rw[e] at hc
 exact fE (eQ (an h)) hc (by rw[A',A'];exact B' hb (by decide))
theorem A7 (h:K 0=some (.tup (ds.map aA.v))) (hd:ds.length<=200):ab call (.bin .Mult (.list (.cons (.tuple .nil) .nil)) (.prim .len (.cons (.var 0) .nil))) K H=some (.ref (H.length+1),H++[.lst [.tup []]]++[.lst ((UL ds.length ([]:List (Nat×Int))).map pG)]):=by
 have dZ:ar=16777216:=rfl
 have hz:0<=(ds.length:Int)/\(ds.length:Int)<=100000/\[V.tup []].length<=100:=⟨by (exact Uj _),by exact y1 0xc000000000000000186a0d010b00c890 rfl (iL hd),by decide⟩
 have Tu:(xx [V.tup []] (ds.length:Int).toNat).length<=ar:=by rw[xy];simp;exact jL (y2 0xc1010b00c89013b00000000000001000000d1 rfl (iL hd) (iE dZ))
 refine aJ (dH (vs:=[.tup []]) rfl (by decide)) (aX (vs:=[.tup (ds.map aA.v)]) (aC (an h)) ((kQ _).trans (by rw[A']))) ?_
 show ((lst (H++[.lst [.tup []]]) H.length).bind λx=>if 0<=(ds.length:Int)/\(ds.length:Int)<=100000/\x.length<=100 then qk (H++[.lst [.tup []]]) (xx x (ds.length:Int).toNat) else none)=_
 rw[cT (aH _ _),VW,if_pos hz]
 unfold qk
 rw[if_pos Tu,xy,Us,Ud];rfl
end
noncomputable def fz (ds:List aA) (i:Nat):aA:=(ds[i]?).getD ⟨0,[]⟩
theorem gH {ds:List aA} {i:Nat} (h:i<ds.length):ds[i]? = some (fz ds i):=by
 unfold fz;rw[Ue h];rfl
theorem wI {ds:List aA} {i:Nat} (h:i<ds.length):(ds.map aA.v)[((i:Nat):Int).toNat]? = some (fz ds i).v:=by
 rw[Us,Um,gH h];rfl
theorem yn {ds:List aA} {i:Nat} (h:i<ds.length):nT ds i=(fz ds i).d:=by
 unfold nT;rw[gH h];rfl
theorem sF {bs:List a0} {ds:List aA} {st:Dy} {k:Nat} (h:k<ds.length):kE bs ds st k=match b9 (uw bs (fz ds k).d) (st.1,[]) (fz ds k).ns with | .ok p=>.ok (p.1,st.2.set k p.2) | .error e=>.error e:=by
 unfold kE
 rw[gH h]
 all_goals (dsimp only;try (cases b9 (uw bs (fz ds k).d) (st.1,[]) (fz ds k).ns <;> rfl))
theorem BF {K:aN} {H:ag} {ds:List aA} {n:Nat} (h0:K 0=some (.tup (ds.map aA.v))) (hn:n<ds.length):∃ v,cH (.idx (.idx (.var 0) (.var 9)) (.num 0)) (cn K 9 (.int n)) H=some v/\pB v=some (JQ ds n).1/\(JQ ds n).2=n:=by
 refine⟨.int (nT ds n),?_,rfl,rfl⟩
 rw[yn hn]
 have e1:cH (.idx (.var 0) (.var 9)) (cn K 9 (.int n)) H=some (fz ds n).v:=by
  show ((cn K 9 (.int n)) 0).bind _=_
  rw[show (cn K 9 (.int n)) 0=K 0 from rfl,h0]
  exact nv (l:=ds.map aA.v) (Uj _) (wI hn)
 show (cH (.idx (.var 0) (.var 9)) (cn K 9 (.int n)) H).bind _=_
 rw[e1];rfl
noncomputable def nq (iU:Nat):bj:=⟨2,(.cons (.assign (.one 2) (.comp (.idx (.var 9) (.cst (.int 1))) (.one 9) (.ex (.var 1)) .nil))
 (.cons (.assign (.one 3) (.bin .Mult (.list (.cons (.tuple .nil) .nil)) (.prim .len (.cons (.var 0) .nil))))
 (.cons (.for_ (.one 4) (.ex (.sortK (.rng1 (.prim .len (.cons (.var 0) .nil))) 9 (.idx (.idx (.var 0) (.var 9)) (.num 0)))) (.cons (.assign (.two 5 6) (.idx (.var 0) (.var 4)))
 (.cons (.assign (.one 7) (.list .nil))
 (.cons (.for_ (.one 8) (.ex (.var 6)) (.cons (.expr (.meth .extend (.var 7) (.cons (.call iU (.cons (.var 1) (.cons (.var 2) (.cons (.var 8) (.cons (.var 5) .nil))))) .nil)))
 .nil))
 (.cons (.setItem (.var 3) (.var 4) (.prim .tuple (.cons (.var 7) .nil)))
 .nil)))))
 (.cons (.ret (.prim .tuple (.cons (.var 3) .nil)))
 .nil))))⟩
theorem vA {H bv fg:ag} {A:Nat} (h:ax H bv) (hA:H.length<=A) (hB:dw A bv fg):ax H fg:=λi o e=>by
 have:i<H.length:=(J'.mp e).1
 exact hB i o (λq0=>(by exact zI (y3 0x1c080810b1011b0213b12 rfl (iL hA) (iT this) (iE q0)))) (h i o e)
theorem s9 {H bv:ag} {A:Nat} {m:aZ} (h:ax H bv) (hA:H.length<=A):ax H (bv.set A m):=λi o e=>by
 have:i<H.length:=(J'.mp e).1
 rw[dD (by exact λq0=>(by exact zI (y3 0x1c080810b1011b0212b21 rfl (iL hA) (iT this) (iE q0))))];exact h i o e
theorem I5 {bs:List a0} {dy:Int} {st st':List Int×List (Nat×Int)} {p:Str×Int} (h:uw bs dy st p=.ok st') (hl:st.1.length=bs.length) (hp:0<=p.2/\p.2<=201):st'.1.length=bs.length/\st'.2.length<=st.2.length+201:=by
 unfold uw at h
 split at h
 ·cases h
 ·injection h with h;apply ez h
  refine⟨(lj (bE bs st.1 p.1 dy) ⟨[],st.1,p.2⟩).trans hl,?_⟩
  have:=Jt (bs:=bs) (O:=p.1) (dy:=dy) hl hp.1
  show (st.2++(m9 bs st.1 p.1 p.2 dy).ps).length<=_
  rw[Ud];exact jL (y5 0xc4210b00c99010b0112ba13213ba00c9934 rfl hp.2 this (iA _ _) (iA _ _))
noncomputable abbrev cL (ds:List aA) (bs:List a0) (A B:Nat):List (Option V):=[some (.tup (ds.map aA.v)),some (.tup (bs.map a0.v)),some (.ref A),some (.ref B)]
noncomputable abbrev Kn (ds:List aA) (bs:List a0) (A B k d C:Nat):List (Option V):=[some (.tup (ds.map aA.v)),some (.tup (bs.map a0.v)),some (.ref A),some (.ref B),some (.int k),some (.int d),none,some (.ref C)]
structure F2 (H:ag) (c:Except Str Dy) (r:uo) (af:ag):Prop where
 keep:ax H af
 bad:∀ O,c=.error O->r=.exc 2 O
 ok:∀ st,c=.ok st->r=.ok (.tup (st.2.map pG))
structure Re (bs:List a0) (x:aA) (us:List (List (Nat×Int))) (lf:List Int) (ZH:List V) (A B C q:Nat) (H:ag) (j:Nat) (af:ag) (st:List Int×List (Nat×Int)):Prop where
 hf:b9 (uw bs x.d) (lf,[]) (x.ns.take j)=.ok st
 hl2:st.1.length=bs.length
 hs2:st.2.length<=201 * j
 e1:af[A]? = some (.lst (st.1.map .int))
 e2:af[B]? = some (.lst (us.map pG))
 e3:af[C]? = some (.lst (st.2.map pV))
 e4:af[q]? = some (.lst ZH)
 hK2:ax H af
theorem E9 {P:List bj} {d iU iB:Nat} {H bv:ag} {ds:List aA} {bs:List a0} {A B C q k:Nat} {aG:fJ} {Q:bT->aN->ag->Prop} {us:List (List (Nat×Int))} {lf:List Int} {ZH:List V} {x:aA} {K:aN} (hU:P[iU]? = some (p7 iB)) (hB:P[iB]? = some bP) (hb:bs.length<=10000000) (hx:x.ok) (hA:∀ p∈x.ns,0<=p.2/\p.2<=201)
  (lF:Le (bp (Kn ds bs A B k x.d C)) K) (h6:K 6=some (.tup (x.ns.map qj))) (RB:H.length<=A) (z6:H.length<=C) (RC:A≠B) (Qn:A≠C) (RD:A≠q) (RF:C≠B) (RG:C≠q)
  (hl:lf.length=bs.length) (g1:bv[A]? = some (.lst (lf.map .int))) (g2:bv[B]? = some (.lst (us.map pG))) (g3:bv[C]? = some (.lst [])) (g4:bv[q]? = some (.lst ZH)) (hK:ax H bv)
  (TV:∀ st fg,b9 (uw bs x.d) (lf,[]) x.ns=.ok st->st.1.length=bs.length->st.2.length<=201 * 20->fg[A]? = some (.lst (st.1.map .int))->fg[B]? = some (.lst (us.map pG))->fg[C]? = some (.lst (st.2.map pV))->fg[q]? = some (.lst ZH)->ax H fg->W (az P (d+2)) aG (bp (Kn ds bs A B k x.d C)) fg Q)
  (PC:∀ O aS fg,b9 (uw bs x.d) (lf,[]) x.ns=.error O->ax H fg->Q (.exc 2 O) aS fg) :
  W (az P (d+2)) (.cons (.for_ (.one 8) (.ex (.var 6)) (.cons (.expr (.meth .extend (.var 7) (.cons (.call iU (.cons (.var 1) (.cons (.var 2) (.cons (.var 8) (.cons (.var 5) .nil))))) .nil))) .nil)) aG) K bv Q:=by
 have dZ:ar=16777216:=rfl
 refine W.loopE (eQ (an h6))
  (λj K af=>∃ st,K=bp (Kn ds bs A B k x.d C)/\Re bs x us lf ZH A B C q H j af st)
  (λfl af=>∃ O,fl=.exc 2 O/\b9 (uw bs x.d) (lf,[]) x.ns=.error O/\ax H af) lF
  ⟨(lf,[]),rfl,rfl,hl,UJ _,g1,g2,g3,g4,hK⟩ (λt t t t=>b0 _) ?_ ?_ λfl aS af ⟨O,h1,h2,h3⟩=>h1 ▸ PC O aS af h2 h3
 ·intro j y Jy fg hy q1
  refine aB q1 λst q1 I=>?_;apply aV q1
  refine aB (jb hy) λp hp q3=>?_;apply aV q3
  have Io:j<x.ns.length:=(J'.mp hp).1
  have It:=hx.2.2
  refine gA (zD (d:=d) (H:=fg) (L:=A) hU hB bs st.1 p.1 p.2 x.d I.hl2 hb I.e1) λr dv ec U=>?_
  have wS:a8 (az P (d+2)) (.cons (.var 1) (.cons (.var 2) (.cons (.var 8) (.cons (.var 5) .nil)))) (cn (bp (Kn ds bs A B k x.d C)) 8 (qj p)) fg=some ([.tup (bs.map a0.v),.ref A,.tup [.str p.1,.int p.2],.int x.d],fg):=rfl
  have K3:ax H dv:=vA I.hK2 RB U.keep
  refine⟨_,rfl,?_⟩
  by_cases h0:0<(m9 bs st.1 p.1 p.2 x.d).am
  ·rw[U.bad h0] at ec
   exact W.extX rfl I.e3 wS ec (.inr ⟨(λq=>nomatch q),p.1,rfl,p9 I.hf hp (if_pos h0),K3⟩)
  ·refine ew (U.ok h0) λu hu Tj Tl=>?_
   rw[hu] at ec
   have Bn:uw bs x.d st p=.ok ((m9 bs st.1 p.1 p.2 x.d).lf,st.2++(m9 bs st.1 p.1 p.2 x.d).ps):=if_neg h0
   refine aR (I5 Bn I.hl2 (hA p (Ui hp))) λl1 l2=>?_
   have RE:C<fg.length:=(J'.mp I.e3).1
   have f3:dv[C]? = some (.lst (st.2.map pV)):=U.keep _ _ Qn.symm I.e3
   have RH:C≠u:=λq0=>(by exact zI (y3 0x1c080810b1011b0213b12 rfl (iL Tj) (iT RE) (iE q0)))
   have Lv:nA dv (.ref C) (.ref u)=some (.none,dv.set C (.lst (st.2.map pV++(m9 bs st.1 p.1 p.2 x.d).ps.map pV))):=by
    show (lst dv C).bind (λl=>(lst dv u).bind λk=>if l.length+k.length<=ar/\C≠u then some (V.none,dv.set C (.lst (l++k))) else none)=_
    rw[cT f3]
    show (lst dv u).bind _=_
    rw[cT Tl]
    refine if_pos ⟨?_,RH⟩
    dsimp only at l2
    rw[Ud] at l2
    rw[A',A']
    exact B' l2 (B' (U6 (B' I.hs2 (W7 201 (UD (Ul Io It)))) 201) (by decide))
   refine W.extend C u _ _ rfl I.e3 (al wS ec) Lv (W.nil (.inl ⟨rfl,bp (Kn ds bs A B k x.d C),ay ⟨rfl,rfl,rfl,rfl,rfl,rfl,rfl,trivial⟩,_,rfl,?_,l1,?_,?_,?_,?_,?_,?_⟩))
   ·rw[cP hp,j6 I.hf,Bn]
   ·exact B' l2 (U6 I.hs2 201)
   ·rw[dD Qn.symm];exact U.lf
   ·rw[dD RF];exact U.keep _ _ RC.symm I.e2
   ·rw[dJ f3]
    exact congrArg (λz=>some (aZ.lst z)) (Va ..).symm
   ·rw[dD RG];exact U.keep _ _ RD.symm I.e4
   ·exact s9 K3 z6
 ·intro Jy fg q1
  refine aB q1 λst q1 I=>?_;apply aV q1
  rw[A'] at I
  have hf:=I.hf
  rw[UZ] at hf
  have It:=hx.2.2
  exact TV st fg hf I.hl2 (B' I.hs2 (W7 201 It)) I.e1 I.e2 I.e3 I.e4 I.hK2
theorem AQ {bs:List a0} {ds:List aA} {st st':Dy} {k:Nat} {lf:List Int} {ps:List (Nat×Int)} (h:k<ds.length) (hf:b9 (uw bs (fz ds k).d) (st.1,[]) (fz ds k).ns=.ok (lf,ps)):kE bs ds st k=.ok (lf,st.2.set k ps):=by
 rw[sF h,hf]
theorem AP {bs:List a0} {ds:List aA} {st:Dy} {k:Nat} {e:Str} (h:k<ds.length) (hf:b9 (uw bs (fz ds k).d) (st.1,[]) (fz ds k).ns=.error e):kE bs ds st k=.error e:=by
 rw[sF h,hf]
theorem Jw (us:List (List (Nat×Int))) (k:Nat) (ps:List (Nat×Int)):(us.map pG).set k (pG ps)=(us.set k ps).map pG:=by rw[XT]
theorem AO (H:ag) (bs:List a0) (ds:List aA):(H++[aZ.lst ((bs.map a0.a).map .int)]).length+1=H.length+2/\(H++[.lst ((bs.map a0.a).map .int)]++[.lst [.tup []]]++[.lst ((UL ds.length ([]:List (Nat×Int))).map pG)])[H.length]? = some (aZ.lst ((bs.map a0.a).map .int)) /\
  (H++[.lst ((bs.map a0.a).map .int)]++[.lst [.tup []]]++[.lst ((UL ds.length ([]:List (Nat×Int))).map pG)])[H.length+2]? = some (aZ.lst ((UL ds.length ([]:List (Nat×Int))).map pG))/\ax H (H++[.lst ((bs.map a0.a).map .int)]++[.lst [.tup []]]++[.lst ((UL ds.length ([]:List (Nat×Int))).map pG)]):=by
 refine⟨by rw[Ud];rfl,ax.app _ _ _ _ (ax.app _ _ _ _ (aH _ _)),?_,(ax.app _ _).trans ((ax.app _ _).trans (ax.app _ _))⟩
 have:=aH (H++[.lst ((bs.map a0.a).map .int)]++[.lst [.tup []]]) (.lst ((UL ds.length ([]:List (Nat×Int))).map pG))
 rw[Ud,Ud] at this;exact this
structure Q9 (bs:List a0) (ds:List aA) (H uC:ag) (j:Nat) (af:ag) (st:List Int×List (List (Nat×Int))):Prop where
 hj:j<=(iH ds).length
 hf:b9 (kE bs ds) (MD bs ds) ((iH ds).take j)=.ok st
 hl1:st.1.length=bs.length
 hl2:st.2.length=ds.length
 e1:af[H.length]? = some (.lst (st.1.map .int))
 e2:af[H.length+2]? = some (.lst (st.2.map pG))
 e3:af[uC.length]? = some (.lst (dx (iH ds)))
 hK:ax H af
theorem sC {P:List bj} {k d iU iB:Nat} {H:ag} (hk:P[k]? = some (nq iU)) (hU:P[iU]? = some (p7 iB)) (hB:P[iB]? = some bP) (ds:List aA) (bs:List a0) (hd:ds.length<=200) (hb:bs.length<=10000000) (ur:∀ x∈ds,x.ok) (hA:∀ x∈ds,∀ p∈x.ns,0<=p.2/\p.2<=201) :
  ∃ r af,az P (d+3) k [.tup (ds.map aA.v),.tup (bs.map a0.v)] H=some (r,af)/\F2 H (gG bs ds) r af:=by
 have dZ:ar=16777216:=rfl
 refine AF (d:=d+2) hk (as:=[.tup (ds.map aA.v),.tup (bs.map a0.v)]) rfl (R:=F2 H (gG bs ds)) ?_
 unfold nq
 refine W.set (E2 rfl hb) ?_
 refine W.set (A7 rfl hd) ?_
 refine yo (AO H bs ds) λa4 a1 a2 a3=>?_
 rw[a4]
 generalize H++[.lst ((bs.map a0.a).map .int)]++[.lst [.tup []]]++[.lst ((UL ds.length ([]:List (Nat×Int))).map pG)]=uC at a1 a2 a3 ⊢
 have EI:H.length+2<uC.length:=(J'.mp a2).1
 have eS:∀ {K:aN},K 0=some (.tup (ds.map aA.v))->ab (az P (d+2)) (.sortK (.rng1 (.prim .len (.cons (.var 0) .nil))) 9 (.idx (.idx (.var 0) (.var 9)) (.num 0))) K uC=some (.ref uC.length,uC++[.lst (dx (iH ds))]):=λ{K} h0=>by
  have hs:bS (az P (d+2)) (.rng1 (.prim .len (.cons (.var 0) .nil))) K uC=some ((UC ds.length).map λj:Nat=>V.int j,[],uC):=by
   rw[<-ke]
   exact cu (n:=ds.length) (aX (vs:=[.tup (ds.map aA.v)]) (aC (an h0)) ((kQ _).trans (by rw[A']))) (by exact jL (y1 0xc0000000000003b9aca00d010b00c890 rfl (iL hd)))
  exact sJ hs rfl (mE (f:=JQ ds) (c:=1) (m:=iH ds) (l:=UC ds.length) WH (by rw[UN];exact B' hd (by decide)) (λz=>rfl) (λn hn=>BF h0 (Vc.mp hn)) (Cm ur) λz z=>rfl)
 refine W.loopE (jg (eS rfl) (aH _ _))
  (λj K af=>∃ st,K=bp (cL ds bs H.length (H.length+2))/\Q9 bs ds H uC j af st)
  (λfl af=>∃ O,fl=.exc 2 O/\gG bs ds=.error O/\ax H af) (a:=bp (cL ds bs H.length (H.length+2))) (ay ⟨rfl,rfl,rfl,rfl,trivial⟩)
  ⟨MD bs ds,rfl,UJ _,rfl,A' _,V4,ax.app _ _ _ _ a1,ax.app _ _ _ _ a2,aH _ _,a3.trans (ax.app _ _)⟩ (λ_ _ _ ⟨_,_,I⟩=>ji I.e3) ?_ ?_ λfl aS af ⟨O,h1,h2,h3⟩=>.inr ⟨2,O,h1,h3,λJR e=>(by rw[h2] at e;injection e with e;rw[e]),λst e=>(by rw[h2] at e;cases e)⟩
 ·intro j y pi bv hy q1
  refine aB q1 λst q1 I=>?_;apply aV q1
  refine aB (Cb hy) λi hi q3=>?_;apply aV q3
  have Io:j<(iH ds).length:=(J'.mp hi).1
  have JG:i<ds.length:=(rC ur).mp (Ui hi)
  have hx:(fz ds i).ok:=ur _ (Ui (gH JG))
  have Br:uC.length<bv.length:=(J'.mp I.e3).1
  refine⟨_,rfl,W.put (v:=(fz ds i).v) (σ1:=bv) (be (i:Int) _ _ rfl rfl (Uj _) (wI JG)) rfl ?_⟩
  refine W.set (v:=.ref bv.length) (σ1:=bv++[.lst []]) rfl ?_
  refine E9 (H:=H) (ds:=ds) (A:=H.length) (B:=H.length+2) (C:=bv.length) (q:=uC.length) (k:=i) (us:=st.2) (lf:=st.1) (ZH:=dx (iH ds)) (x:=fz ds i) hU hB hb hx (hA _ (Ui (gH JG))) (ay ⟨rfl,rfl,rfl,rfl,rfl,rfl,rfl,trivial⟩) rfl (Un _) (by exact jL (y4 0xc2311b1011b2113ba2830 rfl (iT EI) (iT Br) (iA _ _))) (λq0=>(by exact zI (y2 0x1c080813b1013ba2801 rfl (iE q0) (iA _ _)))) (λq0=>(by lia)) (λq0=>(by exact zI (y3 0x1c080811b1013b1213ba2820 rfl (iT EI) (iE q0) (iA _ _)))) (λq0=>(by exact zI (y3 0x1c080811b1011b2112b02 rfl (iT EI) (iT Br) (iE q0)))) (λq0=>(by exact zI (y2 0x1c080811b1012b01 rfl (iT Br) (iE q0)))) I.hl1 (ax.app _ _ _ _ I.e1) (ax.app _ _ _ _ I.e2) (aH _ _) (ax.app _ _ _ _ I.e3) (I.hK.trans (ax.app _ _)) ?_ ?_
  ·intro cK fg Ow m1 m2 g1 g2 g3 g4 hK2
   obtain ⟨TX,ps⟩:=cK
   have hz:(ps.map pV).length<=ar:=by rw[A'];dsimp only at m2;(exact B' ‹_<=_› (by decide))
   refine W.setItem0 (H.length+2) (i:Int) (st.2.map pG) (pG ps) (aX (vs:=[.ref bv.length]) rfl (cB g3 hz)) rfl rfl g2 (Uj _) (by rw[Us,A',I.hl2];exact JG) ?_
   rw[Us,Jw]
   refine W.nil (.inl ⟨rfl,bp (cL ds bs H.length (H.length+2)),ay ⟨rfl,rfl,rfl,rfl,trivial⟩,(TX,st.2.set i ps),rfl,Io,?_,m1,?_,?_,dJ g2,?_,s9 hK2 (by exact jL (y2 0xc0113ba2810 rfl (iA _ _)))⟩)
   ·rw[cP hi,j6 I.hf,AQ (st':=st) JG Ow]
   ·rw[Xc];exact I.hl2
   ·rw[dD (by exact λq0=>(by exact zI (y2 0x1c080812b1013ba2810 rfl (iE q0) (iA _ _))))];exact g1
   ·rw[dD (by exact λq0=>(by exact zI (y2 0x1c080811b1013b10 rfl (iT EI) (iE q0))))];exact g4
  ·intro O aS fg Ow hK2
   exact .inr ⟨(λq=>nomatch q),O,rfl,p9 I.hf hi (AP JG Ow),hK2⟩
 ·intro pi bv q1
  refine aB q1 λst q1 I=>?_;apply aV q1
  have hf:=I.hf
  rw[show (dx (iH ds)).length=(iH ds).length from A' _,UZ] at hf
  have hz:(st.2.map pG).length<=ar:=by have hl2:=I.hl2;rw[A'];exact jL (y3 0xc1210b00c89013b00000000000001000000d112b02 rfl (iL hd) (iE dZ) (iE hl2))
  refine W.retE (aX (vs:=[.ref (H.length+2)]) rfl (cB I.e2 hz)) (.inl ⟨_,rfl,I.hK,λO e=>?_,λst' e=>?_⟩)
  ·rw[show gG bs ds=.ok st from hf] at e;cases e
  ·rw[show gG bs ds=.ok st from hf] at e;injection e with e;rw[e]
noncomputable def u4 (iC:Nat):bj:=⟨2,(.cons (.try_ (.cons (.ret (.call iC (.cons (.var 0) (.cons (.var 1) .nil))))
 .nil) 2 (.cons (.ite (.or (.isC 1 (.var 2)) (.or (.not (.isC 2 (.var 2))) (.not (.isC 3 (.var 2))))) (.cons (.ret (.cst .none))
 .nil) .nil)
 (.cons (.ret (.list (.cons (.word (.var 2)) .nil)))
 .nil)))
 .nil)⟩
structure JZ (H:ag) (c:Except Str Dy) (v:V) (af:ag):Prop where
 keep:ax H af
 bad:∀ O,c=.error O->∃ q,v=.ref q/\af[q]? = some (.lst [.str O])
 ok:∀ st,c=.ok st->v=.tup (st.2.map pG)
theorem u0 {call:aw} {K:aN} {H:ag} {i r c d e:Nat} (h:K i=some (.ref r)) (hr:H[r]? = some (.exn c e)) (hc:(c==1||c==2)=true):ab call (.isC d (.var i)) K H=some (.bool (pa c d),H):=by
 show bn (ab call (.var i) K H) (λx σ1=>(xb σ1 d x).bind λv=>some (v,σ1))=_
 rw[an h]
 show (xb H d (.ref r)).bind _=_
 have e1:xb H d (.ref r)=some (.bool (pa c d)):=by
  show (H[r]?).bind (λm=>(Ki m).bind λp=>some (V.bool (pa p.1 d)))=_
  rw[hr]
  show (if (c==1||c==2)=true then some (c,e) else none).bind _=_
  rw[if_pos hc];rfl
 rw[e1];rfl
theorem Eu {call:aw} {K:aN} {H:ag} {i r c e:Nat} {w:Str} (h:K i=some (.ref r)) (hr:H[r]? = some (.exn c e)) (he:H[e]? = some (.wd w)) (hc:(c==1||c==2)=true):ab call (.word (.var i)) K H=some (.str w,H):=by
 show bn (ab call (.var i) K H) (λx σ1=>(rX σ1 x).bind λv=>some (v,σ1))=_
 rw[an h]
 show (rX H (.ref r)).bind _=_
 have e1:rX H (.ref r)=some (.str w):=by
  show (H[r]?).bind (λm=>(Ki m).bind λp=>(H[p.2]?).bind λm'=>(NC m').bind λw=>some (V.str w))=_
  rw[hr]
  show (if (c==1||c==2)=true then some (c,e) else none).bind _=_
  rw[if_pos hc]
  show (H[e]?).bind _=_
  rw[he];rfl
 rw[e1];rfl
theorem uW {P:List bj} {k d iC iU iB:Nat} {H:ag} (hk:P[k]? = some (u4 iC)) (hC:P[iC]? = some (nq iU)) (hU:P[iU]? = some (p7 iB)) (hB:P[iB]? = some bP) (ds:List aA) (bs:List a0) (hd:ds.length<=200) (hb:bs.length<=10000000) (ur:∀ x∈ds,x.ok) (hA:∀ x∈ds,∀ p∈x.ns,0<=p.2/\p.2<=201) :
  ∃ v af,az P (d+4) k [.tup (ds.map aA.v),.tup (bs.map a0.v)] H=some (.ok v,af)/\JZ H (gG bs ds) v af:=by
 refine cc (d:=d+3) hk (as:=[.tup (ds.map aA.v),.tup (bs.map a0.v)]) rfl (R:=JZ H (gG bs ds)) ?_
 unfold u4
 refine gA (sC (d:=d) (H:=H) hC hU hB ds bs hd hb ur hA) λr bv ec X=>?_
 cases hc:gG bs ds with
 | ok st =>
  rw[hc] at X
  rw[X.ok st rfl] at ec
  exact W.tryR (vs:=[.tup (ds.map aA.v),.tup (bs.map a0.v)]) rfl ec ⟨_,rfl,X.keep,(λO e=>nomatch e),λst' e=>(by injection e with e;rw[e])⟩
 | error O =>
  rw[hc] at X
  rw[X.bad O rfl] at ec
  have h1:(bv++[.wd O,.exn 2 bv.length])[bv.length]? = some (.wd O):=by rw[Ux (Un _),Wg];rfl
  have h2:(bv++[.wd O,.exn 2 bv.length])[bv.length+1]? = some (.exn 2 bv.length):=by rw[Ux (Wu _)];show [aZ.wd O,.exn 2 bv.length][bv.length+1 - bv.length]? = _;rw[U0];rfl
  have h3:ax H (bv++[.wd O,.exn 2 bv.length]):=X.keep.trans (ax.app _ _)
  refine W.tryX (v:=.ref (bv++[aZ.wd O,.exn 2 bv.length]).length) (vs:=[.tup (ds.map aA.v),.tup (bs.map a0.v)]) rfl ec ?_
  generalize bv++[.wd O,.exn 2 bv.length]=fg at h1 h2 h3
  refine W.iteF fg (br (Gr (u0 (c:=2) rfl h2 rfl) (Gr (u1 (b:=true) (u0 (c:=2) rfl h2 rfl)) (u1 (b:=true) (u0 (c:=2) rfl h2 rfl))))) (W.nil ?_)
  refine W.retE (dH (vs:=[.str O]) (aC (Eu (c:=2) rfl h2 h1 rfl)) (show 1<=ar from by decide)) ⟨rfl,_,rfl,h3.trans (ax.app _ _),λJR e=>?_,λst e=>nomatch e⟩
  injection e with e;apply aV e
  exact⟨_,rfl,aH _ _⟩
noncomputable def P11:List bj:=[bP,p7 0,nq 1,sM,i4,dj,kG,n6,lR,eC,iv,jD,mS,mU,i5,n5,A2 5,jF,n4,mV,mY,pu,mW,kH,mX,pr,mR,mT,sL,ju,pt,n7,u4 2,kI,Ey]
noncomputable def consts11:List (Str×Int):=[]
structure Hz {α:Type} (f:α->V) (P:α->Prop) (f9:ag) (q n:Nat) (xs:List α) (H:ag):Prop where
 k:ax f9 H
 b:H[q]? = some (.lst (xs.map f))
 l:xs.length=n
 ok:∀ x∈xs,P x
noncomputable def Nh {α:Type} (f:α->V) (P:α->Prop) (f9:ag) (q n:Nat) (L:aN) (fl:bT) (K:aN) (H:ag):Prop:=fl=.next/\Le L K/\∃ xs,Hz f P f9 q n xs H
section
variable {α:Type} {call:aw} {aG:fJ} {K L:aN} {H f9 σ1:ag} {Q:bT->aN->ag->Prop} {f:α->V} {P:α->Prop} {q n j:Nat} {xs:List α}
theorem W.build {it:gb} {body:fJ} {i:Nat} (f:α->V) (P:α->Prop) (q:Nat) (hs:bS call it K H=some (bQ 0 n 1,[],σ1)) (hl:Le L K) (hk:ax f9 σ1) (h0:σ1[q]? = some (.lst []))
  (step:∀ j xs af,j<n->Hz f P f9 q j xs af->W call body (cn L i (.int j)) af (Nh f P f9 q (j+1) L))
  (k:∀ xs af,Hz f P f9 q n xs af->W call aG L af Q):W call (.cons (.for_ (.one i) it body) aG) K H Q:=by
 refine W.loop hs (λj K af=>K=L/\∃ xs,Hz f P f9 q j xs af) hl ⟨rfl,[],hk,h0,rfl,λz h=>nomatch h⟩ (λz z z z=>b0 _) (λj x pi bv hx h=>?_) λpi bv h=>?_
 ·refine aR (eI hx) λhj e=>?_;apply aV e
  refine aR h λe h=>?_;apply aV e
  exact⟨_,rfl,h.elim λxs I=>W.mono (step j xs bv hj I) λfl aS af q=>⟨q.1,L,q.2.1,rfl,q.2.2⟩⟩
 ·rw[fZ] at h
  refine aR h λe h=>?_;apply aV e
  exact h.elim λxs I=>k xs bv I
theorem W.lay {o e:CE} (x:α) (I:Hz f P f9 q j xs H) (hq:f9.length<=q) (ho:ab call o K H=some (.ref q,H)) (he:ab call e K H=some (f x,σ1)) (ZF:ax H σ1) (hP:P x) (hz:j<=1000) (hl:Le L K) :
  W call (.cons (.expr (.meth .append o (.cons e .nil))) .nil) K H (Nh f P f9 q (j+1) L):=by
 have hb:=ZF _ _ I.b
 refine W.append q (xs.map f) (f x) σ1 ho I.b he hb (by rw[A',I.l];exact B' hz (by decide)) (W.nil ⟨rfl,hl,xs++[x],(I.k.trans ZF).set hq,?_,by rw[Ud,I.l];rfl,λy hy=>?_⟩)
 ·rw[dJ hb,Va];rfl
 ·exact Ug (Uk.mp hy) (I.ok y) λh=>O'.mp h ▸ hP
end
section
variable {d r q m j:Nat} {H:ag} {K:aN} {cs:List Int} {aF:Int}
theorem H2 {a b y:Int} {e:CE} (hr:H[r]? = some (.lst (cs.map .int))) (g0:K 0=some (.ref r)) (g4:K 4=some (.int j)) (hb:0<b) (ha:0<=a) (Gy:a+b<=100) (hy:y.natAbs<1000000) (he:ab (az P11 (d+1)) e K H=some (.int y,H)) :
  ∃ c:Int,ab (az P11 (d+1)) (.call 6 (.cons (.call 5 (.cons (.var 0) (.cons (.bin .Add (.cst (.int a)) (.bin .Mod (.var 4) (.cst (.int b)))) .nil))) (.cons e .nil))) K H=some (.int c,H):=by
 have hm:=bF (a:=(j:Int)) hb
 exact⟨_,al (aI (al (aI (an g0) (aC (aJ rfl (aJ (an g4) rfl (cr (by exact λq0=>zI (y1 0x1c080811b00812b080 rfl hb q0)))) rfl))) (j3 rfl hr _ ((Int.toNat_lt' (by decide)).mpr (Xf (XN hm.2 a) (Uw Gy (by decide)))) (by exact UG (y3 0xc2a1010b2a10 rfl (X9 _)) (y3 0xca21012ba210 rfl (Vf (y2 0xca100810b00810b108 rfl ha hm.1)))))) (aC he)) (fW rfl _ _ (by exact jT (y1 0x1c00010000000000000000d011b000000000000000f4240d0 rfl (iT hy))))⟩
theorem vM {i0:Nat} {c:Int} (oj:1<=m) (hm:m<=12) (hq:H[q]? = some (.lst [.int aF,.int m])) (g1:K 1=some (.ref q)) (g5:K i0=some (.int c)) :
  ∃ O af,ab (az P11 (d+1)) (.call 9 (.cons (.idx (.var 1) (.cst (.int 0))) (.cons (.bin .Mod (.bin .Mod (.var i0) (.cst (.int 60))) (.idx (.var 1) (.cst (.int 1)))) .nil))) K H=some (.str O,af)/\ax H af/\∃ k,k<12/\O=fC aF k:=Ca rfl oj hm hq g1 g5
noncomputable abbrev gL (r q p:Nat):aN:=bp [some (.ref r),some (.ref q),none,some (.ref p)]
theorem BX (hr:H[r]? = some (.lst (cs.map .int))) (hq:H[q]? = some (.lst [.int aF,.int m])) (oj:1<=m) (hm:m<=12) (n:Nat) (hn:n<=200) :
  ∃ (bs:List a0) (af:ag),az P11 (d+2) 13 [.ref r,.ref q,.int n] H=some (.ok (.tup (bs.map a0.v)),af)/\ax H af/\bs.length=n/\∀ b∈bs,0<=b.a:=by
 obtain ⟨v,af,h,bs,rfl,h1⟩:=cc (R:=λv af=>∃ bs:List a0,v=.tup (bs.map a0.v)/\ax H af/\bs.length=n/\∀ b∈bs,0<=b.a) (P:=P11) (k:=13) rfl (as:=[.ref r,.ref q,.int n]) rfl (by
  refine W.set (v:=.ref H.length) (σ1:=H++[.lst []]) rfl ?_
  refine W.build (L:=gL r q H.length) a0.v (λb=>0<=b.a) H.length (cu rfl (by exact jL (y1 0xc0000000000003b9aca00d010b00c890 rfl (iL hn)))) (ay ⟨rfl,rfl,rfl,trivial⟩) (ax.app _ _) (aH _ _) (λj bs bv hj I=>?_) λbs bv I=>?_
  ·refine N' (H2 (d:=d) (a:=23) (b:=10) (K:=cn (gL r q H.length) 4 (.int j)) (e:=.bin .Add (.cst (.int 40)) (.var 4)) (I.k _ _ hr) rfl rfl (by decide) (by decide) (by decide) (nJ (Wa (by decide) (Uj j)) (Xf (XN (Vw.mpr (Ul hj hn)) 40) (by decide))) rfl) λc e1=>?_
   refine W.set e1 ?_
   refine W.set (al rfl (fW rfl _ _ (by exact jT (y2 0x1c00010000000000000000d110b00c89011b01 rfl (iL hn) (iT hj))))) ?_
   generalize ry c j=sm
   refine kF (vM (d:=d) (K:=cn (cn (cn (gL r q H.length) 4 (.int j)) 5 (.int c)) 6 (.int sm)) (i0:=5) oj hm (I.k _ _ hq) rfl rfl) λO fg e2 k2 z=>?_
   refine W.lay (⟨O,fD (c.fdiv 60) 200,qc sm⟩:a0) I (Un _) rfl (cG (aI e2 (aI (al rfl (iR rfl _ _ (by decide))) (aC (al rfl (qd rfl _))))) (show 3<=ar by decide)) k2 ?_ (UD (Ul hj (B' hn (by decide)))) (ay ⟨rfl,rfl,rfl,trivial⟩)
   have:=gr (c.fdiv 60)
   exact Uw (by decide) this.1
  ·exact W.retE (aX rfl (cB I.b (by rw[A',I.l];exact B' hn (by decide)))) ⟨_,rfl,bs,rfl,I.k,I.l,I.ok⟩)
 exact⟨bs,af,h,h1⟩
noncomputable def Pk.okP (p:Pk):Prop:=1<=p.a/\p.a<=200
theorem Fd (hr:H[r]? = some (.lst (cs.map .int))) (hq:H[q]? = some (.lst [.int aF,.int m])) (oj:1<=m) (hm:m<=12) (n:Nat) (hn:n<=200) :
  ∃ (bs:List Pk) (af:ag),az P11 (d+2) 15 [.ref r,.ref q,.int n] H=some (.ok (.tup (bs.map Pk.v)),af)/\ax H af/\bs.length=n/\∀ b∈bs,b.okP:=by
 obtain ⟨v,af,h,bs,rfl,h1⟩:=cc (R:=λv af=>∃ bs:List Pk,v=.tup (bs.map Pk.v)/\ax H af/\bs.length=n/\∀ b∈bs,b.okP) (P:=P11) (k:=15) rfl (as:=[.ref r,.ref q,.int n]) rfl (by
  refine W.set (v:=.ref H.length) (σ1:=H++[.lst []]) rfl ?_
  refine W.build (L:=gL r q H.length) Pk.v Pk.okP H.length (cu rfl (by exact jL (y1 0xc0000000000003b9aca00d010b00c890 rfl (iL hn)))) (ay ⟨rfl,rfl,rfl,trivial⟩) (ax.app _ _) (aH _ _) (λj bs bv hj I=>?_) λbs bv I=>?_
  ·refine N' (H2 (d:=d) (a:=33) (b:=10) (K:=cn (gL r q H.length) 4 (.int j)) (e:=.bin .Add (.cst (.int 80)) (.var 4)) (I.k _ _ hr) rfl rfl (by decide) (by decide) (by decide) (nJ (Wa (by decide) (Uj j)) (Xf (XN (Vw.mpr (Ul hj hn)) 80) (by decide))) rfl) λc e1=>?_
   refine W.set e1 ?_
   refine W.set (al rfl (fW rfl _ _ (show j+1<18446744073709551616 from Ul (WY (Ul hj hn)) (by decide)))) ?_
   generalize ry c (j+1)=sm
   refine kF (vM (d:=d) (K:=cn (cn (cn (gL r q H.length) 4 (.int j)) 5 (.int c)) 6 (.int sm)) (i0:=5) oj hm (I.k _ _ hq) rfl rfl) λO fg e2 k2 z=>?_
   refine W.set e2 ?_
   refine W.lay (⟨O,fD (c.fdiv 60) 200,Cq sm,qc (sm.fdiv 997)⟩:Pk) ⟨I.k.trans k2,k2 _ _ I.b,I.l,I.ok⟩ (Un _) rfl (cG (aI rfl (aI (al rfl (iR rfl _ _ (by decide))) (aI (al rfl (Cr rfl _)) (aC (al rfl (qd rfl _)))))) (show 4<=ar by decide)) (ax.refl _) (gr (c.fdiv 60)) (UD (Ul hj (B' hn (by decide)))) (ay ⟨rfl,rfl,rfl,trivial⟩)
  ·exact W.retE (aX rfl (cB I.b (by rw[A',I.l];exact B' hn (by decide)))) ⟨_,rfl,bs,rfl,I.k,I.l,I.ok⟩)
 exact⟨bs,af,h,h1⟩
noncomputable def Cd (aF:Int) (p:Str×Int):Prop:=(∃ k,k<12/\p.1=fC aF k)/\1<=p.2/\p.2<=201
noncomputable def aA.okA (aF:Int) (x:aA):Prop:=x.ok/\∀ p∈x.ns,Cd aF p
noncomputable abbrev nL (r q p:Nat) (c:Int) (u:Nat):aN:=bp [some (.ref r),some (.ref q),none,some (.ref p),none,some (.int c),some (.ref u)]
theorem AR (hr:H[r]? = some (.lst (cs.map .int))) (hq:H[q]? = some (.lst [.int aF,.int m])) (oj:1<=m) (hm:m<=12) (n:Nat) (hn:n<=200) :
  ∃ (ds:List aA) (af:ag),az P11 (d+2) 12 [.ref r,.ref q,.int n] H=some (.ok (.tup (ds.map aA.v)),af)/\ax H af/\ds.length=n/\∀ x∈ds,x.okA aF:=by
 obtain ⟨v,af,h,bs,rfl,h1⟩:=cc (R:=λv af=>∃ ds:List aA,v=.tup (ds.map aA.v)/\ax H af/\ds.length=n/\∀ x∈ds,x.okA aF) (P:=P11) (k:=12) rfl (as:=[.ref r,.ref q,.int n]) rfl (by
  refine W.set (v:=.ref H.length) (σ1:=H++[.lst []]) rfl ?_
  refine W.build (L:=gL r q H.length) aA.v (aA.okA aF) H.length (cu rfl (by exact jL (y1 0xc0000000000003b9aca00d010b00c890 rfl (iL hn)))) (ay ⟨rfl,rfl,rfl,trivial⟩) (ax.app _ _) (aH _ _) (λj ds bv hj I=>?_) λbs bv I=>?_
  ·refine N' (H2 (d:=d) (a:=3) (b:=20) (K:=cn (gL r q H.length) 4 (.int j)) (e:=.var 4) (I.k _ _ hr) rfl rfl (by decide) (by decide) (by decide) (by exact jT (y2 0x1c000000000000000f4240d110b00c89011b01 rfl (iL hn) (iT hj))) rfl) λc e1=>?_
   refine W.set e1 (W.set (v:=.ref bv.length) (σ1:=bv++[.lst []]) rfl ?_)
   refine aB (fm (a:=c.fdiv 7) (b:=4) (by decide)) λt1 f1 l1=>?_
   refine aB (fm (a:=c.fdiv 7) (b:=21) (by decide)) λt2 f2 l2=>?_
   have hc:∃ t:Nat,t<=20/\ab (az P11 (d+1)) (.idx (.list (.cons (.bin .Mod (.bin .FloorDiv (.var 5) (.cst (.int 7))) (.cst (.int 4))) (.cons (.bin .Mod (.bin .FloorDiv (.var 5) (.cst (.int 7))) (.cst (.int 21))) .nil))) (.prim .int (.cons (.and (.cmp .Eq (.bin .Mod (.bin .FloorDiv (.var 5) (.cst (.int 147))) (.cst (.int 40))) (.cst (.int 0))) (.cmp .Lt (.var 4) (.cst (.int 2)))) .nil))) (cn (cn (cn (gL r q H.length) 4 (.int j)) 5 (.int c)) 6 (.ref bv.length)) (bv++[.lst []])=some (.int t,bv++[.lst []]++[.lst [.int ((c.fdiv 7).fmod 4),.int ((c.fdiv 7).fmod 21)]]):=by
    have el:=dH (call:=az P11 (d+1)) (K:=cn (cn (cn (gL r q H.length) 4 (.int j)) 5 (.int c)) 6 (.ref bv.length)) (H:=bv++[.lst []]) (es:=.cons (.bin .Mod (.bin .FloorDiv (.var 5) (.cst (.int 7))) (.cst (.int 4))) (.cons (.bin .Mod (.bin .FloorDiv (.var 5) (.cst (.int 7))) (.cst (.int 21))) .nil)) (vs:=[.int ((c.fdiv 7).fmod 4),.int ((c.fdiv 7).fmod 21)]) rfl (show 2<=ar by decide)
    obtain ⟨b,hb⟩:∃ b,ab (az P11 (d+1)) (.and (.cmp .Eq (.bin .Mod (.bin .FloorDiv (.var 5) (.cst (.int 147))) (.cst (.int 40))) (.cst (.int 0))) (.cmp .Lt (.var 4) (.cst (.int 2)))) (cn (cn (cn (gL r q H.length) 4 (.int j)) 5 (.int c)) 6 (.ref bv.length)) (bv++[.lst []]++[.lst [.int ((c.fdiv 7).fmod 4),.int ((c.fdiv 7).fmod 21)]])=some (.bool b,_):=⟨_,jl rfl rfl⟩
    cases b with
    | true=>exact⟨t2,by exact jL (y1 0xc00149011b001590 rfl l2),aP _ 1 _ _ el (aX (aC hb) rfl) (aH _ _) (by decide) (by rw[<-f2];rfl)⟩
    | false=>exact⟨t1,by exact jL (y1 0xc00149011b480 rfl l1),aP _ 0 _ _ el (aX (aC hb) rfl) (aH _ _) (by decide) (by rw[<-f1];rfl)⟩
   refine aB hc λt ht e2=>W.set e2 ?_
   have hK:ax bv (bv++[.lst []]++[.lst [.int ((c.fdiv 7).fmod 4),.int ((c.fdiv 7).fmod 21)]]):=(ax.app _ _).trans (ax.app _ _)
   have hN:=ax.app (bv++[.lst []]) [.lst [.int ((c.fdiv 7).fmod 4),.int ((c.fdiv 7).fmod 21)]] _ _ (aH bv (.lst []))
   generalize bv++[.lst []]++[.lst [.int ((c.fdiv 7).fmod 4),.int ((c.fdiv 7).fmod 21)]]=fg at hK hN
   refine W.build (L:=nL r q H.length c bv.length) qj (Cd aF) bv.length (cu rfl (by exact jL (y1 0xc0000000000003b9aca00d010b001490 rfl (iL ht)))) (ay ⟨rfl,rfl,rfl,rfl,rfl,trivial⟩) hK hN (λi ns dv hi ZE=>?_) λns dv ZE=>?_
   ·refine W.set (al rfl (fW rfl _ _ (show i+1<18446744073709551616 from Ul (WY (Ul hi ht)) (by decide)))) ?_
    generalize ry (c.fdiv 28) (i+1)=sm
    refine W.set rfl ?_
    have QW:∀ (am:Int) (K:aN),1<=am/\am<=201->Le (nL r q H.length c bv.length) K->K 9=some (.int sm)->K 10=some (.int am)->W (az P11 (d+1)) (.cons (.expr (.meth .append (.var 6) (.cons (.tuple (.cons (.call 9 (.cons (.idx (.var 1) (.cst (.int 0))) (.cons (.bin .Mod (.bin .Mod (.var 9) (.cst (.int 60))) (.idx (.var 1) (.cst (.int 1)))) .nil))) (.cons (.var 10) .nil))) .nil))) .nil) K dv (Nh qj (Cd aF) bv bv.length (i+1) (nL r q H.length c bv.length)):=λam K ha hl g9 Rw=>by
     refine kF (vM (d:=d) oj hm (ZE.k _ _ (I.k _ _ hq)) (hl 1 _ rfl) g9) λO ng e3 k4 GH=>?_
     exact W.lay (O,am) ZE (Un _) (an (hl 6 _ rfl)) (cG (aI e3 (aC (an Rw))) (show 2<=ar by decide)) k4 ⟨GH,ha⟩ (by exact jL (y2 0xc03e89110b00149011b01 rfl (iL ht) (iT hi))) hl
    refine W.if_ (eA rfl rfl) (λz=>?_) λz=>W.nil ?_
    ·refine W.set (al rfl (iR rfl _ _ (by decide))) (W.nil (QW _ _ ?_ (ay ⟨rfl,rfl,rfl,rfl,rfl,trivial⟩) rfl rfl))
     have:=gr (sm.fdiv 28800);exact⟨y1 0xc01810b018 rfl this.1,y1 0xc00c99010b00c890 rfl this.2⟩
    ·refine QW _ _ ?_ (ay ⟨rfl,rfl,rfl,rfl,rfl,trivial⟩) rfl rfl
     have:=bF (a:=sm.fdiv 60) (b:=12) (by decide);exact⟨y1 0xca0181810b008 rfl this.1,y1 0xc00c99a01811bc80 rfl this.2⟩
   ·refine aB (fm (a:=c) (b:=7) (by decide)) λdy f3 l3=>?_
    refine W.lay (⟨1+dy,ns⟩:aA) ⟨I.k.trans ZE.k,ZE.k _ _ I.b,I.l,I.ok⟩ (Un _) rfl (cG (aI (by show some (V.int (1+c.fmod 7),dv)=_;rw[f3];rfl) (aC (aX rfl (cB ZE.b (by rw[A',ZE.l];exact B' ht (by decide)))))) (show 2<=ar by decide)) (ax.refl _) ⟨⟨?_,?_,?_⟩,ZE.ok⟩ (by exact jL (y2 0xc03e89110b00c89011b01 rfl (iL hn) (iT hj))) (ay ⟨rfl,rfl,rfl,trivial⟩)
    ·show 1<=1+dy;exact jL (y2 0xc11810b00813ba0181 rfl (iP _) (iA _ _))
    ·show 1+dy<=7;exact jL (y2 0xc78111b78012ba0181 rfl l3 (iA _ _))
    ·show ns.length<=20;rw[ZE.l];exact ht
  ·exact W.retE (aX rfl (cB I.b (by rw[A',I.l];exact B' hn (by decide)))) ⟨_,rfl,bs,rfl,I.k,I.l,I.ok⟩)
 exact⟨bs,af,h,h1⟩
end
section
variable {d r q m j:Nat} {H:ag} {K:aN} {cs:List Int} {aF:Int} {ds:List aA}
theorem aA.okA.nn {x:aA} (h:x.okA aF):x.nn:=λp hp=>Uw (by decide) (h.2 p hp).2.1
theorem Cg (hd:∀ x∈ds,x.okA aF) (O:Str):∃ z af,az P11 (d+1) 19 [.tup (ds.map aA.v),.str O] H=some (.ok (.int z),af)/\ax H af/\0<=z:=by
 obtain ⟨v,af,h,z,rfl,h1⟩:=cc (R:=λv af=>∃ z,v=.int z/\ax H af/\0<=z) (P:=P11) (k:=19) (H:=H) (d:=d) rfl (as:=[.tup (ds.map aA.v),.str O]) rfl (by
  refine W.set rfl ?_
  refine W.loop (eQ rfl) (λj K af=>∃ z,K=bp [some (.tup (ds.map aA.v)),some (.str O),some (.int z)]/\ax H af/\0<=z)
   (a:=bp [some (.tup (ds.map aA.v)),some (.str O),some (.int 0)]) (ay ⟨rfl,rfl,rfl,trivial⟩) ⟨0,rfl,ax.refl _,Vk _⟩ (λq q q q=>b0 _) (λj y pi bv hy q1=>?_) λpi bv q1=>?_
  ·refine ew q1 λz q1 hK hz=>?_;apply aV q1
   refine aB (jb hy) λx hx q3=>?_;apply aV q3
   have nu:=hd x (Ui hx)
   have hs:=pc (call:=az P11 d) (elt:=.idx (.var 4) (.cst (.int 1))) (t:=.one 4) (it:=.ex (.idx (.var 3) (.cst (.int 1)))) (ifs:=.cons (.cmp .Eq (.idx (.var 4) (.cst (.int 0))) (.var 1)) .nil) (K:=cn (bp [some (.tup (ds.map aA.v)),some (.str O),some (.int z)]) 3 x.v) (H:=bv) (eQ (be 1 _ _ (an rfl) rfl (by decide) rfl)) (b0 _) (B' nu.1.2.2 (by decide)) λp hp=>⟨_,rfl,ub (bO (be 0 _ _ (an rfl) rfl (by decide) rfl) rfl rfl),λq=>be 1 _ _ (an rfl) rfl (by decide) rfl⟩
   exact⟨_,rfl,W.set (aJ rfl hs rfl) (W.nil ⟨rfl,bp [some (.tup (ds.map aA.v)),some (.str O),some (.int (z+jU x.ns O))],ay ⟨rfl,rfl,rfl,trivial⟩,_,rfl,hK.trans (ax.app _ _),Wa hz (qH nu.nn)⟩)⟩
  ·refine ew q1 λz q1 hK hz=>?_;apply aV q1
   exact W.retE rfl ⟨_,rfl,z,rfl,hK,hz⟩)
 exact⟨z,af,h,h1⟩
theorem Jl {l:List V} {a:Nat} (h:a<=l.length) (hl:l.length<=1000):o0 (.tup l) .none (.int a) H=some (.tup (l.take a),H):=by
 show ((kW V.none).bind λi=>(jv l.length (.int a)).bind λj=>m7 H (mh l i j))=_
 rw[kL (QU (B' h hl)),Us,WU h]
 exact if_pos (B' (qQ l 0 a) (B' hl (by decide)))
theorem rK {l:List V} {a:Nat} (h:a<=l.length) (hl:l.length<=1000):o0 (.tup l) (.int a) .none H=some (.tup (l.drop a),H):=by
 show ((kW (.int a)).bind λi=>(jv l.length .none).bind λj=>m7 H (mh l i j))=_
 rw[oB (QU (B' h hl)),Us]
 have:mh l a l.length=l.drop a:=by unfold mh;rw[UZ]
 show m7 H (mh l a l.length)=_
 rw[this]
 exact if_pos (B' (by rw[VE];exact VG _ _) (B' hl (by decide)))
theorem D1 {a b:List V} (h:a.length+b.length<=1000):ku .Add (.tup a) (.tup b) H=some (.tup (a++b),H):=if_pos (by rw[Ud];exact B' h (by decide))
theorem I7 (hd:∀ x∈ds,x.okA aF) (hl:ds.length<=24) {k:Nat} (hk:k<12) (c:Int):∃ (AS:List aA) (af:ag),az P11 (d+2) 30 [.tup (ds.map aA.v),.str (fC aF k),.int c] H=some (.ok (.tup (AS.map aA.v)),af)/\ax H af/\AS.length<=26/\∀ x∈AS,x.okA aF:=by
 generalize hn:fC aF k=O
 obtain ⟨v,af,h,AS,rfl,h1⟩:=cc (R:=λv af=>∃ AS:List aA,v=.tup (AS.map aA.v)/\ax H af/\AS.length<=26/\∀ x∈AS,x.okA aF) (P:=P11) (k:=30) rfl (as:=[.tup (ds.map aA.v),.str O,.int c]) rfl (by
  refine kF (Cg (d:=d) (H:=H) hd O) λz bv e1 k1 hz=>?_
  refine W.set (aJ rfl (al rfl e1) rfl) ?_
  have h3:=bF (a:=c) (b:=3) (by decide)
  generalize hw:199+c.fmod 3 - z=w
  have LC:w<=201:=by exact y3 0xc00c99210b00811b38113b2e0a100c79 rfl hz h3.2 hw
  refine W.if_ rfl (λj=>W.retE rfl ⟨_,rfl,ds,rfl,k1,by exact jL (y1 0xc001a9010b001890 rfl (iL hl)),hd⟩) λh2=>W.nil ?_
  have hm:=bF (a:=c.fdiv 3) (b:=w - 1) (by exact y1 0x1ce1800815b280 rfl h2)
  refine W.set (aJ rfl (aJ rfl rfl (cr (by exact λq0=>zI (y1 0x1c080815b28012b08e180 rfl h2 q0)))) rfl) ?_
  generalize (c.fdiv 3).fmod (w - 1)=t at hm
  refine aB (fm (a:=c.fdiv 600) (b:=7) (by decide)) λd1 f1 g1=>?_
  refine aB (fm (a:=c.fdiv 4200) (b:=7) (by decide)) λd2 f2 g2=>?_
  have nd:∀ (H:ag) (K:aN) (e b:CE) (i:Nat) (y:Int),ab (az P11 (d+1)) e K H=some (.int ((1+i:Nat):Int),H)->ab (az P11 (d+1)) b K H=some (.int y,H)->K 1=some (.str O)->ab (az P11 (d+1)) (.tuple (.cons e (.cons (.tuple (.cons (.tuple (.cons (.var 1) (.cons b .nil))) .nil)) .nil))) K H=some (aA.v ⟨1+i,[(O,y)]⟩,H):=λH K e b i y h1 h2 h3 =>
   cG (aI h1 (aC (cG (aC (cG (aI (an h3) (aC h2)) (show 2<=ar by decide))) (show 1<=ar by decide)))) (show 2<=ar by decide)
  refine W.set (v:=.tup ([⟨1+d1,[(O,1+t)]⟩,⟨1+d2,[(O,w - (1+t))]⟩].map aA.v)) (σ1:=bv) (cG (aI (nd _ _ _ _ d1 _ (by show some (V.int (1+(c.fdiv 600).fmod 7),bv)=_;rw[f1];rfl) rfl rfl) (aC (nd _ _ _ _ d2 _ (by show some (V.int (1+(c.fdiv 4200).fmod 7),bv)=_;rw[f2];rfl) rfl rfl))) (show 2<=ar by decide)) ?_
  refine aB (fm (a:=c.fdiv 30000) (b:=(ds.map aA.v).length+1) (by exact y1 0x1ca1800810b008 rfl (iP _))) λa f3 g3=>?_
  have MP:(ds.map aA.v).length<=1000:=by rw[A'];exact jL (y1 0xc03e89010b001890 rfl (iL hl))
  refine W.set (σ1:=bv) (f3 ▸ aJ rfl (aJ (aX rfl (kQ _)) rfl rfl) (cr (by exact λq0=>zI (y1 0x1c080810b00812b08a180 rfl (iP _) q0)))) ?_
  have ha:a<=(ds.map aA.v).length:=by exact jL (y2 0xc1011ba1810 rfl g3)
  refine W.retE (v:=.tup ((ds.take a++[(⟨1+d1,[(O,1+t)]⟩:aA),⟨1+d2,[(O,w - (1+t))]⟩]++ds.drop a).map aA.v)) (aJ (aJ (lQ (an rfl) rfl rfl (Jl ha MP)) (an rfl) (D1 ?_)) (lQ (an rfl) rfl rfl (rK ha MP)) ((D1 ?_).trans ?_)) ⟨_,rfl,_,rfl,k1,?_,λx hx=>?_⟩
  ·rw[UT,A'];exact B' (U6 (B' (WZ _ _) hl) 2) (by decide)
  ·rw[Ud,UT,VE,A',A'];exact B' (VY (U6 (B' (WZ _ _) hl) 2) (B' (VG _ _) hl)) (by decide)
  ·rw[Va,Va,List.map_take,List.map_drop]
  ·rw[A'] at ha
   rw[Ud,Ud,UT,VE,U4 ha];show a+2+_<=_;exact jL (y5 0xc001a9310b00189012ba282112ba41312be204 rfl (iL hl) (iA _ _) (iA _ _) (W9 (jL (y2 0xc1010b10 rfl (iL ha)))))
  ·have nw:∀ (i:Nat) (b:Int),(i:Int)<7->1<=b->b<=201->aA.okA aF ⟨1+i,[(O,b)]⟩:=λi b h1 h2 h3=>⟨⟨UA 1 i,(by exact jL (y2 0xc78111b78012ba0181 rfl h1 (iA _ _)):1+i<=7),(by decide:1<=20)⟩,λp hp=>O'.mp hp ▸ ⟨⟨k,hk,hn.symm⟩,h2,h3⟩⟩
   rcases Uk.mp hx with hx | hx
   ·rcases Uk.mp hx with hx | hx
    ·exact hd x (UB hx)
    ·rcases Uh.mp hx with hx | hx
     ·exact hx ▸ nw d1 _ g1 (by exact y1 0xca0181810b008 rfl hm.1) (by exact y2 0xc00c99a11810b00c99011be1801 rfl LC hm.2)
     ·exact O'.mp hx ▸ nw d2 _ g2 (by exact y2 0xcea01811811be1810 rfl hm.2) (by exact y2 0xc00c99ea118010b00c99010b108 rfl LC hm.1)
   ·exact hd x (UW hx))
 exact⟨AS,af,h,h1⟩
end
noncomputable def Pk.okQ (p:Pk):Prop:=4<=p.a/\p.a<=200
structure Gb (ds:List aA) (bs:List a0) (ps:List Pk) (aF:Int):Prop where
 dl:ds.length<=26
 dk:∀ x∈ds,x.okA aF
 bl:bs.length<=120
 bk:∀ b∈bs,0<=b.a
 pl:ps.length<=9
 pk:∀ p∈ps,p.okQ
noncomputable abbrev wL (q:Nat) (ds:List aA) (bs:List a0) (ps:List Pk) (z:Int):aN:=bp [none,some (.ref q),none,some (.tup (ds.map aA.v)),some (.tup (bs.map a0.v)),some (.tup (ps.map Pk.v)),some (.int z)]
theorem FP {d r:Nat} {H:ag} {cs:List Int} (hr:H[r]? = some (.lst (cs.map .int))):∃ (w:Nat) (ds:List aA) (bs:List a0) (ps:List Pk) (aF:Int) (af:ag),az P11 (d+4) 31 [.ref r] H=some (.ok (.ref w),af)/\af[w]? = some (.lst [.tup (ds.map aA.v),.tup (bs.map a0.v),.tup (ps.map Pk.v)])/\ax H af/\Gb ds bs ps aF:=by
 obtain ⟨v,af,h,w,ds,bs,ps,aF,rfl,h1⟩:=cc (R:=λv af=>∃ (w:Nat) (ds:List aA) (bs:List a0) (ps:List Pk) (aF:Int),v=.ref w/\af[w]? = some (.lst [.tup (ds.map aA.v),.tup (bs.map a0.v),.tup (ps.map Pk.v)])/\ax H af/\Gb ds bs ps aF) (P:=P11) (k:=31) (H:=H) (d:=d+3) rfl (as:=[.ref r]) rfl (by
  refine Qf (vN (P:=P11) (k:=16) (iC:=5) (d:=d+1) rfl rfl hr) λq aF m bv e1 hq k1 oj hm=>?_
  refine W.set (al (vs:=[.ref r]) rfl e1) ?_
  have h1:=k1 _ _ hr
  refine W.set (al (vs:=[.ref r,.int 2]) rfl (j3 (P:=P11) (k:=5) (d:=d+2) rfl h1 2 (by decide) rfl)) ?_
  generalize cellF cs 2=c
  refine aB (qg (P:=P11) (k:=17) (d:=d+2) (H:=bv) rfl c 5 24 (by decide)) λn1 f1 yz=>?_
  refine DD (AR (d:=d+1) h1 hq oj hm n1 (by exact jL (y1 0xc00c89010b001890 rfl (iL yz)))) λds fg e2 k2 GB MM=>?_
  refine W.set (al (vs:=[.ref r,.ref q,.int n1]) (aI rfl (aI rfl (aC (al (vs:=[.int c,.int 5,.int 24]) rfl f1)))) e2) ?_
  refine aB (qg (P:=P11) (k:=17) (d:=d+2) (H:=fg) rfl (c.fdiv 1500) 5 120 (by decide)) λn2 f2 yA=>?_
  refine DD (BX (d:=d+1) (k2 _ _ h1) (k2 _ _ hq) oj hm n2 (by exact jL (y1 0xc00c89010b007890 rfl (iL yA)))) λbs dv e3 k3 Se Sd=>?_
  refine W.set (al (vs:=[.ref r,.ref q,.int n2]) (aI rfl (aI rfl (aC (al (vs:=[.int (c.fdiv 1500),.int 5,.int 120]) rfl f2)))) e3) ?_
  have k3:=k2.trans k3
  refine aB (fm (a:=c.fdiv 60000) (b:=6) (by decide)) λn3 f3 Ll=>?_
  refine DD (Fd (d:=d+1) (k3 _ _ h1) (k3 _ _ hq) oj hm n3 (by exact jL (y1 0xc00c89011b680 rfl Ll))) λps ng e4 k4 r2 GK=>?_
  refine W.set (al (vs:=[.ref r,.ref q,.int n3]) (aI rfl (aI rfl (aC (by show some (V.int ((c.fdiv 60000).fmod 6),dv)=_;rw[f3])))) e4) ?_
  have k4:=k3.trans k4
  have S8:=k4 _ _ hq
  have RR:=k1.trans k4
  have hz:(ps.map λp:Pk=>Pk.v ⟨p.n,max 4 p.a,p.p,p.l⟩).length<=ar:=by rw[A',r2];exact B' (by exact jL (y1 0xc68011b680 rfl Ll):n3<=6) (by decide)
  have ec:=dU (elt:=ab (az P11 (d+3)) (.bin .Add (.tuple (.cons (.idx (.var 9) (.cst (.int 0))) (.cons (.prim .max2 (.cons (.cst (.int 4)) (.cons (.idx (.var 9) (.cst (.int 1))) .nil))) .nil))) (.slc (.var 9) (.cst (.int 2)) (.cst .none)))) (cond:=bX (az P11 (d+3)) .nil) (t:=.one 9) (w:=[]) (K:=cn (cn (cn (cn (cn (b8 [.ref r]) 1 (.ref q)) 2 (.int c)) 3 (.tup (ds.map aA.v))) 4 (.tup (bs.map a0.v))) 5 (.tup (ps.map Pk.v))) (H:=ng) (g:=Pk.v) (p:=λu=>true) (f:=λp:Pk=>Pk.v ⟨p.n,max 4 p.a,p.p,p.l⟩) (b0 _) (xs:=ps) λp hp =>
   ⟨_,rfl,rfl,λu=>aJ (x:=.tup [.str p.n,.int (max 4 p.a)]) (cG (aI (be 0 _ _ (an (v:=p.v) rfl) rfl (by decide) rfl) (aC (aX (vs:=[.int 4,.int p.a]) (aI rfl (aC (be 1 _ _ (an (v:=p.v) rfl) rfl (by decide) rfl))) rfl))) (show 2<=ar by decide)) (lQ (an (v:=p.v) rfl) rfl rfl (rK (a:=2) (l:=[.str p.n,.int p.a,.int p.p,.int p.l]) (show 2<=4 by decide) (show 4<=1000 by decide))) (D1 (show 4<=1000 by decide))⟩
  rw[eD] at ec
  refine W.set (aX (aC (fE (eQ rfl) ec hz)) (cB (aH _ _) hz)) ?_
  have om:∀ p∈ps.map λp:Pk=>(⟨p.n,max 4 p.a,p.p,p.l⟩:Pk),p.okQ:=λp hp=>by
   refine aB (Ve.mp hp) λx hx e=>?_;apply ez e
   have:=GK x hx
   unfold Pk.okP at this
   exact⟨(by exact y1 0xc04810b048 rfl (Yq _ _):4<=max 4 x.a),(by exact (XS _ _).elim (λd0=>y2 0xc00c89110b00c89012b01 rfl this.2 (WX d0)) λd0=>y1 0xc00c89012b480 rfl (XG d0):max 4 x.a<=200)⟩
  rw[show (ps.map λp:Pk=>Pk.v ⟨p.n,max 4 p.a,p.p,p.l⟩)=(ps.map λp:Pk=>(⟨p.n,max 4 p.a,p.p,p.l⟩:Pk)).map Pk.v by rw[Wz];rfl]
  have N7:ax H (ng++[.lst ((ps.map λp:Pk=>(⟨p.n,max 4 p.a,p.p,p.l⟩:Pk)).map Pk.v)]):=RR.trans (ax.app _ _)
  have JM:=ax.app ng [.lst ((ps.map λp:Pk=>(⟨p.n,max 4 p.a,p.p,p.l⟩:Pk)).map Pk.v)] _ _ S8
  have r2:(ps.map λp:Pk=>(⟨p.n,max 4 p.a,p.p,p.l⟩:Pk)).length<=5:=by rw[A'];exact jL (y2 0xc58111b68012b01 rfl Ll (iE r2))
  generalize ng++[.lst ((ps.map λp:Pk=>(⟨p.n,max 4 p.a,p.p,p.l⟩:Pk)).map Pk.v)]=r6 at N7 JM
  generalize (ps.map λp:Pk=>(⟨p.n,max 4 p.a,p.p,p.l⟩:Pk))=ps1 at om r2
  refine W.set (v:=.int (c.fdiv 700000)) rfl ?_
  generalize c.fdiv 700000=z
  -- the fu part,from any packs
  have gJ:∀ (ps:List Pk) (K:aN) (r6:ag),ps.length<=9->(∀ p∈ps,p.okQ)->ax H r6->r6[q]? = some (.lst [.int aF,.int m])->Le (wL q ds bs ps z) K ->
    W (az P11 (d+3)) (.cons (.ite (.cmp .Eq (.bin .Mod (.bin .FloorDiv (.var 6) (.cst (.int 9000))) (.cst (.int 9))) (.cst (.int 0))) (.cons (.assign (.one 3) (.call 30 (.cons (.var 3) (.cons (.call 9 (.cons (.idx (.var 1) (.cst (.int 0))) (.cons (.bin .Mod (.bin .FloorDiv (.var 6) (.cst (.int 81000))) (.idx (.var 1) (.cst (.int 1)))) .nil))) (.cons (.bin .FloorDiv (.var 6) (.cst (.int 1000000))) .nil))))) .nil) .nil)
     (.cons (.ret (.list (.cons (.var 3) (.cons (.var 4) (.cons (.var 5) .nil))))) .nil)) K r6 λfl u af=>∃ v,fl=.ret v/\∃ (w:Nat) (ds:List aA) (bs:List a0) (ps:List Pk) (aF:Int),v=.ref w/\af[w]? = some (.lst [.tup (ds.map aA.v),.tup (bs.map a0.v),.tup (ps.map Pk.v)])/\ax H af/\Gb ds bs ps aF:=λps K r6 r2 GK hK hq hl=>by
   refine W.le hl ?_
   have ret:∀ (ds:List aA) (K:aN) (r6:ag),ds.length<=26->(∀ x∈ds,x.okA aF)->ax H r6->K 3=some (.tup (ds.map aA.v))->K 4=some (.tup (bs.map a0.v))->K 5=some (.tup (ps.map Pk.v))->W (az P11 (d+3)) (.cons (.ret (.list (.cons (.var 3) (.cons (.var 4) (.cons (.var 5) .nil))))) .nil) K r6 λfl u af=>∃ v,fl=.ret v/\∃ (w:Nat) (ds:List aA) (bs:List a0) (ps:List Pk) (aF:Int),v=.ref w/\af[w]? = some (.lst [.tup (ds.map aA.v),.tup (bs.map a0.v),.tup (ps.map Pk.v)])/\ax H af/\Gb ds bs ps aF:=λds K r6 GB MM hK g3 g4 g5 =>
    W.retE (dH (aI (an g3) (aI (an g4) (aC (an g5)))) (show 3<=ar by decide)) ⟨_,rfl,_,ds,bs,ps,aF,rfl,aH _ _,hK.trans (ax.app _ _),GB,MM,by exact jL (y2 0xc00789110b00789012b01 rfl (iL yA) (iE Se)),Sd,r2,GK⟩
   refine W.if_ (p:=(z.fdiv 9000).fmod 9=0) (eA rfl rfl) (λu=>?_) λu=>W.nil (ret ds _ _ (by exact jL (y2 0xc001a9110b00189012b01 rfl (iL yz) (iE GB))) MM hK rfl rfl rfl)
   refine aB (fm (a:=z.fdiv 81000) (b:=m) (by exact y1 0x1c00810b018 rfl (iL oj))) λk fk hk=>?_
   refine aB (kb (P:=P11) (k:=9) (d:=d+2) (H:=r6) rfl aF k (by exact jT (y2 0x1c00649110bc8011b01 rfl (iL hm) hk))) λFZ e6 k6=>?_
   refine DD (I7 (d:=d+1) (H:=FZ) (k:=k) MM (by exact jL (y2 0xc00189110b00189012b01 rfl (iL yz) (iE GB))) (by exact jT (y2 0x1cc8110bc8011b01 rfl (iL hm) hk)) (z.fdiv 1000000)) λAS Jz e7 k7 Os Oq=>?_
   refine W.set (al (vs:=[.tup (ds.map aA.v),.str (fC aF k),.int (z.fdiv 1000000)]) (aI rfl (aI (al (vs:=[.int aF,.int k]) (aI (aP q 0 _ _ rfl rfl hq (by decide) rfl) (aC (fk ▸ aJ (x:=.int (z.fdiv 81000)) (y:=.int m) rfl (aP q 1 _ _ rfl rfl hq (by decide) rfl) (cr (by exact λq0=>zI (y1 0x1c080810b01812b080 rfl (iL oj) q0)))))) e6) (aC rfl))) e7) (W.nil (ret AS _ _ Os Oq ((hK.trans k6).trans k7) rfl rfl rfl))
  have Sm:=jl (call:=az P11 (d+3)) (K:=wL q ds bs ps1 z) (H:=r6) (a:=.cmp .Gt (.bin .Mod (.var 6) (.cst (.int 3))) (.cst (.int 0))) (b:=.cmp .Lt (.idx (.var 1) (.cst (.int 1))) (.cst (.int 5))) rfl (bO (aP q 1 _ _ rfl rfl JM (by decide) rfl) rfl rfl)
  refine W.le (a:=wL q ds bs ps1 z) (ay ⟨rfl,rfl,rfl,rfl,rfl,trivial⟩) (W.ifB Sm (λhb=>?_) λu=>W.nil (gJ ps1 _ _ (by exact jL (y1 0xc98010b580 rfl (iL r2))) om N7 JM (Le.refl _)))
  have ON:m<5:=by have:=of_decide_eq_true (Up.mp hb).2;exact jT (y1 0x1c58011b580 rfl this)
  refine W.loop (cu (n:=m) (aP q 1 _ _ rfl rfl JM (by decide) rfl) (by exact jL (y1 0xc0000000000003b9aca00d010bc80 rfl (iL hm))))
   (λj K af=>∃ ps:List Pk,K=wL q ds bs ps z/\ps.length<=5+j/\(∀ p∈ps,p.okQ)/\ax r6 af) (a:=wL q ds bs ps1 z) (Le.refl _) ⟨ps1,rfl,r2,om,ax.refl _⟩ (λu u u u=>b0 _) (λj y Ua FZ hy q1=>?_) λUa FZ q1=>?_
  ·refine qT q1 λps q1 hl hk hK=>?_;apply aV q1
   refine aR (eI hy) λhj q2=>?_;apply aV q2
   refine aB (kb (P:=P11) (k:=9) (d:=d+2) (H:=FZ) rfl aF j (Ww hj (Ww ON (by decide)))) λJz e7 k7=>?_
   have b1:=bF (a:=z.fdiv 3+j) (b:=17) (by decide)
   refine⟨_,rfl,W.set (al (vs:=[.int aF,.int j]) (aI (aP q 0 _ _ rfl rfl (hK _ _ JM) (by decide) rfl) (aC rfl)) e7) ?_⟩
   refine W.set (v:=.tup ((ps++[(⟨fC aF j,4+(z.fdiv 3+j).fmod 17,(z.fdiv 60).fmod 50+j,7+(j:Int).fmod 3⟩:Pk)]).map Pk.v)) (σ1:=Jz) (aJ (an rfl) (cG (vs:=[Pk.v ⟨fC aF j,4+(z.fdiv 3+j).fmod 17,(z.fdiv 60).fmod 50+j,7+(j:Int).fmod 3⟩]) (aC (cG (vs:=[.str (fC aF j),.int (4+(z.fdiv 3+j).fmod 17),.int ((z.fdiv 60).fmod 50+j),.int (7+(j:Int).fmod 3)]) rfl (show 4<=ar by decide))) (show 1<=ar by decide)) ((D1 (by rw[A'];exact B' (U8 (B' hl (VJ (UD (Ww hj ON)) 5))) (by decide))).trans (by rw[Va];rfl))) ?_
   refine W.nil ⟨rfl,wL q ds bs (ps++[(⟨fC aF j,4+(z.fdiv 3+j).fmod 17,(z.fdiv 60).fmod 50+j,7+(j:Int).fmod 3⟩:Pk)]) z,ay ⟨rfl,rfl,rfl,rfl,rfl,trivial⟩,_,rfl,by rw[Ud];exact U8 hl,λp hp=>?_,hK.trans k7⟩
   exact Ug (Uk.mp hp) (hk p) λh=>O'.mp h ▸ ⟨Int.le_add_of_nonneg_right b1.1,Uw (Int.add_le_add_left (Wt b1.2) 4) (by decide)⟩
  ·refine qT q1 λps q1 hl hk hK=>?_;apply aV q1
   rw[fZ] at hl
   exact W.nil (gJ ps _ _ (B' hl (VJ (Vx ON) 5)) hk (N7.trans hK) (hK _ _ JM) (Le.refl _)))
 exact⟨w,ds,bs,ps,aF,af,h,h1⟩
theorem dw.set {L:Nat} {H af:ag} (h:dw L H af) (m:aZ):dw L H (af.set L m):=λb o hb e=>(dD (Ne.symm hb)).trans (h b o hb e)
theorem dw.keep {uC H af:ag} {L:Nat} (h:dw L H af) (k:ax uC H) (hL:uC.length<=L):ax uC af:=λb o e=>h b o (UP (Ul (J'.mp e).1 hL)) (k b o e)
noncomputable def gv (B:Int) (x:Int):Prop:=0<=x/\x<=B
section
variable {d o l r j n:Nat} {H f9:ag} {K:aN} {c:Int}
theorem sD {os:List V} (ho:H[o]? = some (.lst os)) (hn:os.length<=100) (c:Int) :
  ∃ (cs:List Int) (q:Nat) (af:ag),az P11 (d+2) 26 [.ref o,.int c] H=some (.ok (.ref q),af)/\H.length<=q/\Hz V.int (gv 6) H q os.length cs af:=by
 obtain ⟨v,af,h,cs,q,rfl,h1⟩:=cc (R:=λv af=>∃ cs q,v=.ref q/\H.length<=q/\Hz V.int (gv 6) H q os.length cs af) (P:=P11) (k:=26) (d:=d+1) rfl (as:=[.ref o,.int c]) rfl (by
  refine W.set (σ1:=H++[.lst []]) rfl ?_
  refine W.build (L:=bp [some (.ref o),some (.int c),some (.ref H.length)]) V.int (gv 6) H.length (cu (aX rfl (gi (ax.app _ _ _ _ ho))) (by exact jL (y1 0xc0000000000003b9aca00d010b006490 rfl (iL hn)))) (ay ⟨rfl,rfl,rfl,trivial⟩) (ax.app _ _) (aH _ _) (λj bs bv hj I=>?_) λcs bv I=>?_
  ·refine W.set (al rfl (fW rfl _ _ (show j+50<18446744073709551616 from Ul (Wv (Ul hj hn) 50) (by decide)))) ?_
   generalize ry c (j+50)=s
   have b:=bF (a:=s) (b:=5) (by decide)
   have b3:=bF (a:=s.fdiv 5) (b:=3) (by decide)
   have b7:=bF (a:=s.fdiv 5) (b:=7) (by decide)
   have hl:∀ y∈([0,(s.fdiv 5).fmod 3,(s.fdiv 5).fmod 3,(s.fdiv 5).fmod 7,0]:List Int),gv 6 y:=by
    have c0:gv 6 0:=⟨by decide,by decide⟩
    have c3:gv 6 ((s.fdiv 5).fmod 3):=⟨b3.1,Uw (Wt b3.2) (by decide)⟩
    have c7:gv 6 ((s.fdiv 5).fmod 7):=⟨b7.1,WR b7.2⟩
    exact WA.mpr ⟨c0,WA.mpr ⟨c3,WA.mpr ⟨c3,WA.mpr ⟨c7,WA.mpr ⟨c0,λz h=>absurd h V6⟩⟩⟩⟩⟩
   have e:a8 (az P11 (d+1)) (.cons (.cst (.int 0)) (.cons (.bin .Mod (.bin .FloorDiv (.var 4) (.cst (.int 5))) (.cst (.int 3))) (.cons (.bin .Mod (.bin .FloorDiv (.var 4) (.cst (.int 5))) (.cst (.int 3))) (.cons (.bin .Mod (.bin .FloorDiv (.var 4) (.cst (.int 5))) (.cst (.int 7))) (.cons (.cst (.int 0)) .nil))))) (cn (cn (bp [some (.ref o),some (.int c),some (.ref H.length)]) 3 (.int j)) 4 (.int s)) bv=some (([0,(s.fdiv 5).fmod 3,(s.fdiv 5).fmod 3,(s.fdiv 5).fmod 7,0]:List Int).map V.int,bv):=rfl
   have h5:([0,(s.fdiv 5).fmod 3,(s.fdiv 5).fmod 3,(s.fdiv 5).fmod 7,0]:List Int).length=5:=rfl
   generalize ([0,(s.fdiv 5).fmod 3,(s.fdiv 5).fmod 3,(s.fdiv 5).fmod 7,0]:List Int)=il at hl e h5
   have hk:(s.fmod 5).toNat<il.length:=by exact jT (y3 0x1c1211b58013b58112b02 rfl b.2 (iE h5) (Vf (y1 0xc00810b008 rfl b.1)))
   exact W.lay il[(s.fmod 5).toNat] I (Un _) rfl (aP bv.length (s.fmod 5) _ _ (dH e (by rw[A',h5];decide)) rfl (aH _ _) b.1 (by rw[Um,Ue hk];rfl)) (ax.app _ _) (hl _ (UF hk)) (by exact jL (y2 0xc03e89110b00649011b01 rfl (iL hn) (iT hj))) (ay ⟨rfl,rfl,rfl,trivial⟩)
  ·exact W.retE rfl ⟨_,rfl,cs,_,rfl,Un _,I⟩)
 exact⟨cs,q,af,h,h1⟩
theorem rQ:∀ {l:List Int},(∀ x∈l,0<=x)->0<=bJ l
 | [],_=>Vk _
 | x::l,h=>by rw[bd];exact Wa (h x z') (rQ λy hy=>h y (H' _ hy))
noncomputable def dC (os:List lA) (i:Nat):lA:=(os[i]?).getD ⟨0,0,0⟩
noncomputable def lA.okO (o:lA):Prop:=1<=o.a/\o.a<=200
theorem nB {os:List lA} (h:∀ o∈os,o.okO) {i:Nat} (hi:i<os.length):(dC os i).okO:=by
 unfold dC;rw[Ue hi];exact h _ (UF hi)
structure P2 (os:List lA) (ls:List Int) (o l r:Nat) (B:Int) (H:ag) (cs:List Int) (af:ag):Prop where
 k:dw r H af
 u:af[r]? = some (.lst (cs.map .int))
 l:cs.length=os.length
 p:∀ x∈cs,gv B x
theorem Ee {x s:Int} (hs:1<=s) (hx:1<=x):0<=(x+s - 1).fdiv s/\(x+s - 1).fdiv s<=x:=by
 rw[Int.fdiv_eq_ediv_of_nonneg _ (by exact y1 0xc00810b018 rfl hs)]
 refine⟨Zf (by exact y2 0xce18a010810b01810b118 rfl hs hx) (by exact y1 0xc00810b018 rfl hs),WR (Int.ediv_lt_of_lt_mul (by exact y1 0x1c00810b018 rfl hs) ?_)⟩
 have:x * 1<=x * s:=WC hs (by exact y1 0xc00810b018 rfl hx)
 rw[WB] at this
 rw[Y9,Wq];exact y3 0x1ca21e18a2010b10 rfl this
theorem A3 {os:List lA} {cs ls:List Int} {B T:Int} (ho:H[o]? = some (.lst (os.map lA.v))) (hl:H[l]? = some (.lst (ls.map .int))) (hr:H[r]? = some (.lst (cs.map .int))) (Ix:o≠r) (SQ:l≠r) (yB:∀ o∈os,o.okO) (vj:os.length<=60) (rh:cs.length=os.length) (fS:∀ x∈cs,gv B x) (OM:ls.length=7) (SM:∀ x∈ls,x<=T) (hT:0<=T) (c:Int) :
  ∃ v af,az P11 (d+2) 27 [.ref o,.ref r,.ref l,.int c] H=some (.ok v,af)/\dw r H af/\(v=.none\/v=.ref r/\∃ cs,P2 os ls o l r (B+7 * T) H cs af):=by
 refine cc rfl rfl ?_
 have e7:bQ 7 0 (-1)=[.int 7,.int 6,.int 5,.int 4,.int 3,.int 2,.int 1]:=rfl
 refine W.loopR (xs:=[.int 7,.int 6,.int 5,.int 4,.int 3,.int 2,.int 1]) (σ1:=H) rfl (λj K af=>K=bp [some (.ref o),some (.ref r),some (.ref l),some (.int c)]/\∃ cs,P2 os ls o l r (B+j * T) H cs af) (λv af=>v=.none/\dw r H af) (a:=bp [some (.ref o),some (.ref r),some (.ref l),some (.int c)]) (ay ⟨rfl,rfl,rfl,rfl,trivial⟩)
  ⟨rfl,cs,dw.refl _ _,hr,rh,by rw[show B+((0:Nat):Int) * T=B by rw[Int.natCast_zero,WD,VO]];exact fS⟩ (λz z z z=>b0 _) (λj x pi bv hx q1=>?_) (λpi bv q1=>?_) λv pi bv q=>⟨_,rfl,q.2,.inl q.1⟩
 ·refine aR q1 λq1 q2=>?_;apply aV q1
  refine N' q2 λcs I=>?_
  have Oo:∃ t:Nat,t<7/\x=.int ((t:Int)+1):=by
   have hj:j<7:=(J'.mp hx).1
   have e:x=.int (7+(j:Int) * -1):=by
    have h7:[V.int 7,V.int 6,V.int 5,V.int 4,V.int 3,V.int 2,V.int 1]=(UC 7).map λ(i:Nat)=>V.int (7+(i:Int) * -1):=rfl
    rw[h7,Um,VI hj] at hx
    exact (sm hx).symm
   refine⟨6 - j,Xj (VG 6 j),?_⟩
   rw[e,W9 (Vx hj),Int.mul_neg,WB,<-Int.sub_eq_add_neg]
   have:(7:Int) - j=6 - j+1:=by exact UG (y1 0xca18e068e078 rfl) (y1 0xce078a18e068 rfl)
   exact congrArg V.int this
  refine aB Oo λt ht q=>?_;apply aV q
  refine⟨_,rfl,?_⟩
  have hB:B+((j:Nat):Int) * T+T=B+((j+1:Nat):Int) * T:=by rw[Yr,Y9,Wi];exact congrArg _ (congrArg _ (Wq T).symm)
  generalize B+((j:Nat):Int) * T=B1 at I hB
  have EH:=I.k _ _ Ix ho
  have hs:bS (az P11 (d+1)) (.rng1 (.prim .len (.cons (.var 0) .nil))) (cn (bp [some (.ref o),some (.ref r),some (.ref l),some (.int c)]) 4 (.int ((t:Int)+1))) bv=some ((UC os.length).map λj:Nat=>V.int j,[],bv):=by
   rw[<-ke]
   exact cu (aX rfl ((gi EH).trans (by rw[A']))) (by exact jL (y1 0xc0000000000003b9aca00d010b003c90 rfl (iL vj)))
  have e1:=dU (elt:=ab (az P11 (d+1)) (.var 9)) (cond:=bX (az P11 (d+1)) (.cons (.cmp .GtE (.idx (.idx (.var 0) (.var 9)) (.cst (.int 2))) (.var 4)) .nil)) (t:=.one 9) (K:=cn (bp [some (.ref o),some (.ref r),some (.ref l),some (.int c)]) 4 (.int ((t:Int)+1))) (b0 _) (xs:=UC os.length) λi hi =>
   ⟨_,rfl,ub (bO (be 2 _ _ (aP o i _ (dC os i).v rfl rfl EH (Uj i) (nr (Vc.mp hi))) rfl (by decide) rfl) rfl rfl),λz=>rfl⟩
  have vg:∀ i∈(UC os.length).filter (λi=>decide ((t:Int)+1<=(dC os i).l)),i<os.length:=λi hi=>Vc.mp (Vp.mp hi).1
  have GC:((UC os.length).filter (λi=>decide ((t:Int)+1<=(dC os i).l))).length<=60:=B' (VN _ _) (by rw[UN];exact vj)
  generalize (UC os.length).filter (λi=>decide ((t:Int)+1<=(dC os i).l))=fit at e1 vg GC
  refine W.set (fE hs e1 (by rw[A'];exact B' GC (by decide))) ?_
  have k2:=ax.app bv [.lst (dx fit)]
  have hF:=aH bv (.lst (dx fit))
  generalize bv++[.lst (dx fit)]=fg at k2 hF
  generalize bv.length=N at hF
  have e2:=pc (call:=az P11 (d+1)) (elt:=.bin .Mult (.idx (.idx (.var 0) (.var 9)) (.cst (.int 0))) (.idx (.var 1) (.var 9))) (t:=.one 9) (it:=.ex (.var 6)) (ifs:=.nil) (K:=cn (cn (bp [some (.ref o),some (.ref r),some (.ref l),some (.int c)]) 4 (.int ((t:Int)+1))) 6 (.ref N)) (jg rfl hF) (ji hF) (B' GC (by decide)) λi hi=>by
   have gf:=vg i hi
   have hk:=nB yB gf
   exact⟨_,rfl,rfl,λz=>aJ (be 0 _ _ (aP o i _ (dC os i).v rfl rfl (k2 _ _ EH) (Uj i) (nr gf)) rfl (by decide) rfl) (aP r i _ _ rfl rfl (k2 _ _ I.u) (Uj i) (fF (I.l ▸ gf))) (gy (xo (nJ (Uw (by decide) hk.1) (V5 hk.2 (by decide)))))⟩
  rw[eD] at e2
  refine W.set e2 ?_
  have hh:0<=bJ (fit.map λi:Nat=>(dC os i).a * (cs[i]?).getD 0):=rQ λy hy=>by
   refine aB (Ve.mp hy) λi hi e=>?_;apply ez e
   have gf:=vg i hi
   refine Zp (Uw (by decide) (nB yB gf).1) ?_
   rw[Ue (I.l ▸ gf)];exact (I.p _ (UF _)).1
  have k3:=k2.trans (ax.app fg [.lst ((fit.map λi:Nat=>(dC os i).a * (cs[i]?).getD 0).map .int)])
  have Qq:=ax.app fg [.lst ((fit.map λi:Nat=>(dC os i).a * (cs[i]?).getD 0).map .int)] _ _ hF
  generalize fg++[.lst ((fit.map λi:Nat=>(dC os i).a * (cs[i]?).getD 0).map .int)]=dv at k3 Qq
  generalize bJ (fit.map λi:Nat=>(dC os i).a * (cs[i]?).getD 0)=held at hh
  have GQ:t<ls.length:=by exact jT (y2 0x1c0113b78011b781 rfl (iE OM) (iT ht))
  have Ou:∀ (af:ag) (K:aN),K 2=some (.ref l)->K 4=some (.int ((t:Int)+1))->ax bv af->ab (az P11 (d+1)) (.idx (.var 2) (.bin .Sub (.var 4) (.cst (.int 1)))) K af=some (.int ((ls[t]?).getD 0),af):=λaf K g2 g4 hk=>aP l (t:Int) _ _ (an g2) (aJ (an g4) rfl (show some (V.int ((t:Int)+1 - 1),af)=_ by rw[XW])) (hk _ _ (I.k _ _ SQ hl)) (Uj t) (fF GQ)
  have DK:(ls[t]?).getD 0<=T:=by rw[Ue GQ];exact SM _ (UF GQ)
  generalize (ls[t]?).getD 0=lv at Ou DK
  have c1:∀ af,ax bv af->ab (az P11 (d+1)) (.cmp .Lt (.var 7) (.idx (.var 2) (.bin .Sub (.var 4) (.cst (.int 1))))) (cn (cn (cn (bp [some (.ref o),some (.ref r),some (.ref l),some (.int c)]) 4 (.int ((t:Int)+1))) 6 (.ref N)) 7 (.int held)) af=some (.bool (decide (held<lv)),af):=λaf hk=>bO (an rfl) (Ou af _ rfl rfl hk) rfl
  by_cases hq:held<lv
  ·rw[decide_eq_true hq] at c1
   have k4:=k3.trans (ax.app dv [.lst []])
   have MK:=ax.app dv [.lst []] _ _ Qq
   refine W.if_ (nX (c1 dv k3) (bO (an rfl) (dH rfl (by decide)) ((AW (cT MK) (cT (aH dv (.lst [])))).trans (by rw[A'])))) (λz=>W.retE rfl (.inr ⟨_,rfl,rfl,I.k.trans k4.b⟩)) λhz=>W.nil ?_
   generalize dv++[.lst []]=ng at k4 MK
   refine W.iteT ng (br (c1 ng k4)) ?_
   have bm:=bF (a:=ry c (t+1)) (Vw.mpr (VQ hz))
   have em:=fW (P:=P11) (k:=6) (d:=d) (H:=ng) rfl c (t+1) (nJ (Wa (Uj t) (by decide)) (Xf (Int.add_lt_add_right (Vw.mpr ht) 1) (by decide)))
   generalize ry c (t+1)=mv at bm em
   have QE:(mv.fmod fit.length).toNat<fit.length:=by exact jT (y3 0x1c1211b1012b02 rfl bm.2 (Vf (y1 0xc00810b008 rfl bm.1)))
   have hi:=vg _ (UF QE)
   refine W.set (aP N (mv.fmod fit.length) _ _ rfl (aJ (al rfl em) (aX rfl ((gi MK).trans (by rw[A']))) (cr (by exact λq0=>zI (y2 0x1c080810b00811b1012b081 rfl bm.1 bm.2 q0)))) MK bm.1 (by rw[Um,Ue QE];rfl)) ?_
   generalize fit[(mv.fmod fit.length).toNat]=i at hi
   have hk:=nB yB hi
   have SV:=k4 _ _ EH
   have O9:=k4 _ _ I.u
   have ea:∀ (K:aN),K 0=some (.ref o)->K 5=some (.int (i:Nat))->ab (az P11 (d+1)) (.idx (.idx (.var 0) (.var 5)) (.cst (.int 0))) K ng=some (.int (dC os i).a,ng):=λK q0 q5=>be 0 _ _ (aP o i _ (dC os i).v (an q0) (an q5) SV (Uj i) (nr hi)) rfl (by decide) rfl
   refine W.set (aJ (aJ (aJ (Ou ng _ rfl rfl k4) (an rfl) rfl) (ea _ rfl rfl) rfl) rfl rfl) ?_
   have cl:=Ee (x:=lv - held) hk.1 (by exact y2 0xce011811b10 rfl hq)
   have La:i<cs.length:=I.l ▸ hi
   refine W.setItem r i (cs.map .int) (.int ((cs[i]?).getD 0+(lv - held+(dC os i).a - 1).fdiv (dC os i).a)) ng (aJ (aP r i _ _ rfl rfl O9 (Uj i) (fF La)) (aJ rfl (ea _ rfl rfl) (nU (by have:=hk.1;exact λq0=>zI (y1 0x1c080810b01812b080 rfl this q0)) (nJ (Uw (by decide) hk.1) (V5 hk.2 (by decide))))) rfl) rfl rfl O9 (Uj i) (by rw[A',Us];exact La) ?_
   rw[Us,<-XT]
   refine W.nil (W.nil (.inl ⟨rfl,bp [some (.ref o),some (.ref r),some (.ref l),some (.int c)],ay ⟨rfl,rfl,rfl,rfl,trivial⟩,rfl,cs.set i _,(I.k.trans k4.b).set _,dJ O9,by rw[Xc];exact I.l,λy hy=>?_⟩))
   rw[<-hB]
   refine Ug (W5 hy) (λh=>?_) λh=>?_
   ·have:=I.p y h;unfold gv at *;exact⟨y1 0xc00810b008 rfl this.1,y3 0xca02110b00810b21 rfl hT this.2⟩
   ·rw[h,Ue La]
    have:=I.p _ (UF La)
    show 0<=cs[i]+_/\cs[i]+_<=_
    unfold gv at this;exact⟨y2 0xca010810b00810b108 rfl cl.1 this.1,y6 0xca25a3410b00810b2110be01310b54 rfl hh DK cl.2 this.2⟩
  ·rw[decide_eq_false hq] at c1
   refine W.iteF dv (br (qX (c1 dv k3))) (W.nil (W.iteF dv (br (c1 dv k3)) (W.nil (W.nil (.inl ⟨rfl,bp [some (.ref o),some (.ref r),some (.ref l),some (.int c)],ay ⟨rfl,rfl,rfl,rfl,trivial⟩,rfl,cs,I.k.trans k3.b,k3 _ _ I.u,I.l,λy hy=>?_⟩)))))
   rw[<-hB]
   have:=I.p y hy;unfold gv at *;exact⟨y1 0xc00810b008 rfl this.1,y3 0xca02110b00810b21 rfl hT this.2⟩
 ·refine aR q1 λq1 q2=>?_;apply aV q1
  exact q2.elim λcs I=>W.retE rfl ⟨_,rfl,I.k,.inr ⟨rfl,cs,I⟩⟩
end
section
variable {call:aw} {aG:fJ} {K:aN} {H σ1:ag} {Q:bT->aN->ag->Prop}
theorem W.acc {α:Type} {xs:List α} {v:α->V} {e:CE} {body:fJ} {i:Nat} (B:Int->aN) (g:α->Int) (hs:ab call e K H=some (.tup (xs.map v),H)) (z:Int) (hl:Le (B z) K)
  (step:∀ x∈xs,∀ z af,ax H af->W call body (cn (B z) i (v x)) af λfl aS jz=>fl=.next/\Le (B (z+g x)) aS/\ax H jz) (k:∀ af,ax H af->W call aG (B (z+bJ (xs.map g))) af Q):W call (.cons (.for_ (.one i) (.ex e) body) aG) K H Q:=by
 refine W.loop (eQ hs) (λj K af=>K=B (z+bJ ((xs.take j).map g))/\ax H af) hl ⟨congrArg B (VO z).symm,ax.refl _⟩ (λt t t t=>b0 _) (λj y pi bv hy q1=>?_) λpi bv q1=>?_
 ·refine aR q1 λq1 hK=>?_;apply aV q1
  refine aB (jb hy) λx hx q3=>?_;apply aV q3
  refine⟨_,rfl,W.mono (step x (Ui hx) _ bv hK) λfl aS af q=>⟨q.1,_,q.2.1,?_,q.2.2⟩⟩
  rw[cP hx,Va,YN,qz,Wi]
 ·refine aR q1 λq1 hK=>?_;apply aV q1
  rw[A',UZ];exact k bv hK
end
noncomputable def rg (n:Str) (t:Nat) (b:a0):Int:=if pk n t b then b.a else 0
noncomputable def oz (ds:List aA) (bs:List a0) (n:Str) (t:Nat):Int:=max 0 (0+bJ (ds.map (lM n t))+bJ (bs.map λb=>- rg n t b))
noncomputable abbrev PE (ds:List aA) (bs:List a0) (n:Str) (p:Nat) (t:Nat) (z:Int):aN:=bp [some (.tup (ds.map aA.v)),some (.tup (bs.map a0.v)),some (.str n),some (.ref p),some (.int ((t:Int)+1)),some (.int z)]
section
variable {d r j n:Nat} {H:ag} {K:aN} {c aF:Int} {ds:List aA} {bs:List a0} {ps:List Pk} {O:Str}
theorem xh (hd:∀ x∈ds,x.ok) (O:Str):∃ af,az P11 (d+1) 18 [.tup (ds.map aA.v),.tup (bs.map a0.v),.str O] H=some (.ok (.ref H.length),af)/\af[H.length]? = some (.lst (((UC 7).map (oz ds bs O)).map .int))/\ax H af:=by
 obtain ⟨v,af,h,rfl,h1⟩:=cc (R:=λv af=>v=.ref H.length/\af[H.length]? = some (.lst (((UC 7).map (oz ds bs O)).map .int))/\ax H af) (P:=P11) (k:=18) (d:=d) rfl (as:=[.tup (ds.map aA.v),.tup (bs.map a0.v),.str O]) rfl (by
  refine W.set (σ1:=H++[.lst []]) rfl ?_
  refine W.loop (xs:=bQ 1 (7+1:Nat) 1) rfl
   (λj K af=>K=bp [some (.tup (ds.map aA.v)),some (.tup (bs.map a0.v)),some (.str O),some (.ref H.length)]/\ax H af/\af[H.length]? = some (.lst (((UC j).map (oz ds bs O)).map .int)))
   (a:=bp [some (.tup (ds.map aA.v)),some (.tup (bs.map a0.v)),some (.str O),some (.ref H.length)]) (ay ⟨rfl,rfl,rfl,rfl,trivial⟩) ⟨rfl,ax.app _ _,aH _ _⟩ (λu u u u=>b0 _) (λj y pi bv hy q1=>?_) λpi bv q1=>?_
  ·refine iK q1 λq1 hK hU=>?_;apply aV q1
   refine aR (mB hy) λhj q2=>?_;apply aV q2
   refine⟨_,rfl,W.set rfl ?_⟩
   refine W.acc (PE ds bs O H.length j) (lM O j) rfl 0 (ay ⟨rfl,rfl,rfl,rfl,rfl,rfl,trivial⟩) (λx hx z fg hK2=>?_) λfg hK2=>?_
   ·unfold lM
    refine W.if_ (bO (be 0 _ _ (an rfl) rfl (by decide) rfl) rfl rfl) (λhc=>?_) λhc=>W.nil (W.nil ⟨rfl,?_,hK2⟩)
    ·have hs:=pc (call:=az P11 d) (elt:=.idx (.var 8) (.cst (.int 1))) (t:=.one 8) (it:=.ex (.idx (.var 6) (.cst (.int 1)))) (ifs:=.cons (.cmp .Eq (.idx (.var 8) (.cst (.int 0))) (.var 2)) .nil) (K:=cn (PE ds bs O H.length j z) 6 x.v) (H:=fg) (eQ (be 1 _ _ (an rfl) rfl (by decide) rfl)) (b0 _) (B' (hd x hx).2.2 (by decide)) λp hp=>⟨_,rfl,ub (bO (be 0 _ _ (an rfl) rfl (by decide) rfl) rfl rfl),λu=>be 1 _ _ (an rfl) rfl (by decide) rfl⟩
     refine W.set (v:=.int (z+jU x.ns O)) (aJ rfl hs rfl) (W.nil (W.nil ⟨rfl,?_,hK2.trans (ax.app _ _)⟩))
     rw[if_pos (by exact jT (y2 0x1c1010b1a180 rfl hc))]
     exact ay ⟨rfl,rfl,rfl,rfl,rfl,rfl,trivial⟩
    ·rw[if_neg (by exact λq0=>zI (y2 0x1c080814b1a18011b10 rfl hc (iT q0))),VO]
     exact ay ⟨rfl,rfl,rfl,rfl,rfl,rfl,trivial⟩
   ·generalize hy0:0+bJ (ds.map (lM O j))=y0
    refine W.acc (PE ds bs O H.length j) (λb=>- rg O j b) rfl y0 (Le.refl _) (λb hb z dv KH=>?_) λdv KH=>?_
    ·unfold rg
     refine W.ifB (b:=pk O j b) (jl (bO (be 0 _ _ (an rfl) rfl (by decide) rfl) rfl rfl) (bO (be 2 _ _ (an rfl) rfl (by decide) rfl) rfl rfl)) (λhc=>?_) λhc=>W.nil (W.nil ⟨rfl,?_,KH⟩)
     ·refine W.set (aJ rfl (be 1 _ _ (an rfl) rfl (by decide) rfl) rfl) (W.nil (W.nil ⟨rfl,?_,KH⟩))
      rw[if_pos hc]
      exact ay ⟨rfl,rfl,rfl,rfl,rfl,rfl,trivial⟩
     ·rw[if_neg (λq=>Uq (hc.symm.trans q)),Int.neg_zero,VO]
      exact ay ⟨rfl,rfl,rfl,rfl,rfl,rfl,trivial⟩
    ·have Qv:=KH _ _ (hK2 _ _ hU)
     refine W.append0 H.length _ (.int (max 0 (y0+bJ (bs.map λb=>- rg O j b)))) rfl Qv (aX rfl rfl) (by rw[A',A',UN];exact B' (UD hj) (by decide)) ?_
     refine W.nil ⟨rfl,bp [some (.tup (ds.map aA.v)),some (.tup (bs.map a0.v)),some (.str O),some (.ref H.length)],ay ⟨rfl,rfl,rfl,rfl,trivial⟩,rfl,(hK.trans (hK2.trans KH)).set (Un _),?_⟩
     rw[dJ Qv,Zk,Va,Va,<-hy0];rfl
  ·refine iK q1 λq1 hK hU=>?_;apply aV q1
   rw[mC] at hU
   exact W.retE rfl ⟨_,rfl,rfl,hU,hK⟩)
 exact⟨af,h,h1⟩
end
noncomputable def uB (ds:List aA):List Str:=iw ((v8 (mO ds)).map (·.1))
noncomputable def uA (ps:List Pk) (i:Nat):Pk:=(ps[i]?).getD ⟨Zs,0,0,0⟩
noncomputable def Pk.off (p:Pk):lA:=⟨p.a,p.p,p.l⟩
noncomputable def kc (ps:List Pk) (O:Str):List Nat:=(UC ps.length).filter λi=>(uA ps i).n==O
noncomputable def qm (ps:List Pk) (l:List Nat):List lA:=l.map λi=>(uA ps i).off
theorem Hl {ps:List Pk} {i:Nat} (h:i<ps.length):(ps.map Pk.v)[((i:Nat):Int).toNat]? = some (uA ps i).v:=by
 rw[Us,Um,Ue h]
 unfold uA;rw[Ue h];rfl
theorem qo {ps:List Pk} {O:Str} {i:Nat} (h:i∈kc ps O):i<ps.length:=Vc.mp (Vp.mp h).1
theorem vU (ps:List Pk) (O:Str):(kc ps O).length<=ps.length:=B' (VN _ _) (by rw[UN];exact Un _)
theorem Co {ps:List Pk} (h:∀ p∈ps,p.okQ) {i:Nat} (hi:i<ps.length):(uA ps i).okQ:=by
 unfold uA;rw[Ue hi];exact h _ (UF hi)
section
variable {d r j n:Nat} {H σ1:ag} {K:aN} {c aF:Int} {ds:List aA} {bs:List a0} {ps:List Pk} {O:Str}
theorem ue (hd:∀ x∈ds,x.okA aF):∃ r af,az P11 (d+1) 20 [.tup (ds.map aA.v)] H=some (.ok (.ref r),af)/\ax H af/\H.length<=r/\af[r]? = some (.lst ((uB ds).map .str)):=by
 have ur:∀ x∈ds,x.okN aF:=λx hx=>⟨(hd x hx).1,λp hp=>((hd x hx).2 p hp).1⟩
 obtain ⟨v,af,h,r,rfl,h1⟩:=cc (R:=λv af=>∃ r,v=.ref r/\ax H af/\H.length<=r/\af[r]? = some (.lst ((uB ds).map .str))) (P:=P11) (k:=20) rfl (as:=[.tup (ds.map aA.v)]) rfl (by
  refine W.set (σ1:=H++[.ds []]) rfl ?_
  refine A9 ur rfl rfl (aH _ _) (λp K lF=>⟨_,rfl,lF,λz=>be 0 _ _ (an rfl) rfl (by decide) rfl⟩) λbv hK hD=>?_
  exact W.retE (aX (aC (an rfl)) (tV hD (l9 (ni ur)))) ⟨_,rfl,_,rfl,(xe hK).trans (ax.app _ _),(xe hK).len,aH _ _⟩)
 exact⟨r,af,h,h1⟩
theorem L7 (hp:ps.length<=9) (O:Str):az P11 (d+1) 28 [.tup (ps.map Pk.v),.str O] H=some (.ok (.ref H.length),H++[.lst (dx (kc ps O))]):=by
 have hs:bS (az P11 d) (.rng1 (.prim .len (.cons (.var 0) .nil))) (b8 [.tup (ps.map Pk.v),.str O]) H=some ((UC ps.length).map λj:Nat=>V.int j,[],H):=by
  rw[<-ke]
  exact cu (aX rfl ((kQ _).trans (by rw[A']))) (by exact jL (y1 0xc0000000000003b9aca00d010b980 rfl (iL hp)))
 have e:=dU (elt:=ab (az P11 d) (.var 2)) (cond:=bX (az P11 d) (.cons (.cmp .Eq (.idx (.idx (.var 0) (.var 2)) (.cst (.int 0))) (.var 1)) .nil)) (t:=.one 2) (K:=b8 [.tup (ps.map Pk.v),.str O]) (H:=H) (b0 _) (xs:=UC ps.length) λi hi =>
  ⟨_,rfl,ub (bO (be 0 _ _ (be i _ (uA ps i).v rfl rfl (Uj i) (Hl (Vc.mp hi))) rfl (by decide) rfl) rfl rfl),λz=>rfl⟩
 exact (nj rfl rfl).trans (PP (fE hs e (by rw[A'];exact B' (vU ps O) (B' hp (by decide)))))
theorem tB {call:aw} {i p:Nat} {l:List Nat} (h2:K 2=some (.tup (ps.map Pk.v))) (h6:K 6=some (.ref p)) (hi:6<i) (hp:H[p]? = some (.lst (dx l))) (hl:∀ k∈l,k<ps.length) (hn:l.length<=100) :
  ab call (.comp (.slc (.idx (.var 2) (.var i)) (.cst (.int 1)) (.cst .none)) (.one i) (.ex (.var 6)) .nil) K H=some (.ref H.length,H++[.lst ((qm ps l).map lA.v)]):=by
 have e:=dU (elt:=ab call (.slc (.idx (.var 2) (.var i)) (.cst (.int 1)) (.cst .none))) (cond:=bX call .nil) (t:=.one i) (f:=λk:Nat=>(uA ps k).off.v) (ji hp) λk hk =>
  ⟨_,rfl,rfl,λz=>lQ (be k _ (uA ps k).v (an ((if_neg (by exact λq0=>zI (y1 0x1c080811b06813b028 rfl (iT hi) (iE q0)))).trans h2)) (an (if_pos rfl)) (Uj k) (Hl (hl k hk))) rfl rfl (rK (show 1<=4 by decide) (show 4<=1000 by decide))⟩
 rw[eD,show (l.map λk:Nat=>(uA ps k).off.v)=(qm ps l).map lA.v by unfold qm;rw[Wz];rfl] at e
 exact fE (jg (an h6) hp) e (by rw[A'];unfold qm;rw[A'];exact B' hn (by decide))
theorem rP {M:Int} {l:List Int}:(∀ x∈l,x<=M)->bJ l<=M * l.length:=by
 induction l with
 | nil=>exact λz=>WE (YQ M).symm
 | cons x l ih =>
  intro h
  rw[bd,VV,Yr,Yt,Yo x]
  exact Xk (ih λy hy=>h y (H' _ hy)) (Uw (h x z') (WE (WB M).symm))
theorem EZ (hd:∀ x∈ds,x.okA aF) (hl:ds.length<=26) (hb:∀ b∈bs,0<=b.a) (t:Nat):oz ds bs O t<=104520:=by
 have h1:bJ (ds.map (lM O t))<=4020 * ds.length:=by
  refine Uw (rP λy hy=>?_) (by rw[A'];exact Vk _)
  refine aB (Ve.mp hy) λx hx e=>?_;apply ez e
  have hx:=hd x hx
  unfold lM
  split
  ·unfold jU
   refine Uw (rP (M:=201) λy hy=>?_) ?_
   ·refine aB (Ve.mp hy) λp hp e=>?_;apply ez e
    exact (hx.2 p (Vp.mp hp).1).2.2
   ·have h2:=VN (λp:Str×Int=>p.1==O) x.ns
    have h3:=hx.1.2.2
    rw[A'];exact Uw (WC (Vv.mpr (B' h2 h3)) (by decide)) (by decide)
  ·decide
 have h2:bJ (bs.map λb=>- rg O t b)<=0 * (bs.map λb=>- rg O t b).length:=rP λy hy=>by
  refine aB (Ve.mp hy) λb hb' e=>?_;apply ez e
  have:=hb b hb'
  unfold rg
  split
  ·exact Int.neg_nonpos_of_nonneg this
  ·decide
 rw[WD] at h2
 exact Int.max_le.mpr ⟨by decide,by rw[VB];exact Uw (Xk h1 h2) (by rw[VO];exact Uw (WC (Vv.mpr hl) (by decide)) (by decide))⟩
noncomputable def qK:Int:=740000
structure J1 (ps:List Pk) (H:ag) (q:Nat) (cs:List Int) (af:ag):Prop where
 k:ax H af
 u:af[q]? = some (.lst (cs.map .int))
 l:cs.length=ps.length
 p:∀ x∈cs,gv qK x
theorem yt {call:aw} (h2:K 2=some (.tup (ps.map Pk.v))) (hp:ps.length<=9):∃ af,ab call (.bin .Mult (.list (.cons (.cst (.int 0)) .nil)) (.prim .len (.cons (.var 2) .nil))) K H=some (.ref (H.length+1),af)/\J1 ps H (H.length+1) (UL ps.length 0) af:=by
 have hr:xx [V.int 0] ps.length=(UL ps.length (0:Int)).map V.int:=by
  generalize ps.length=n
  induction n with
  | zero=>rfl
  | succ n ih=>show V.int 0::xx [V.int 0] n=_;rw[ih];rfl
 refine⟨H++[.lst [.int 0]]++[.lst ((UL ps.length (0:Int)).map V.int)],aJ (dH (vs:=[.int 0]) rfl (show 1<=ar by decide)) (aX (aC (an h2)) ((kQ _).trans (by rw[A']))) ?_,(ax.app _ _).trans (ax.app _ _),?_,V4,λx hx=>(YO.mp hx).2 ▸ (by unfold gv qK;decide)⟩
 ·show ((lst (H++[.lst [.int 0]]) H.length).bind λx=>if 0<=(ps.length:Int)/\(ps.length:Int)<=100000/\x.length<=100 then qk (H++[.lst [.int 0]]) (xx x (ps.length:Int).toNat) else none)=_
  rw[cT (aH _ _)]
  show (if 0<=(ps.length:Int)/\(ps.length:Int)<=100000/\1<=100 then qk (H++[aZ.lst [.int 0]]) (xx [.int 0] (ps.length:Int).toNat) else none)=_
  rw[if_pos ⟨by exact y1 0xc00810b008 rfl (iP _),by exact y1 0xc000000000000000186a0d010b980 rfl (iL hp),by decide⟩,Us,hr]
  show (if _ then some (V.ref (H++[aZ.lst [.int 0]]).length,_) else none)=_
  rw[if_pos (by rw[A',V4];exact B' hp (by decide)),Ud];rfl
 ·have:=aH (H++[.lst [.int 0]]) (.lst ((UL ps.length (0:Int)).map V.int))
  rw[Ud] at this;exact this
noncomputable abbrev NZ (ds:List aA) (bs:List a0) (ps:List Pk) (c:Int) (q:Nat):List (Option V):=[some (.tup (ds.map aA.v)),some (.tup (bs.map a0.v)),some (.tup (ps.map Pk.v)),some (.int c),some (.ref q)]
noncomputable abbrev N3 (ds:List aA) (bs:List a0) (ps:List Pk) (c:Int) (q p r:Nat):List (Option V):=[some (.tup (ds.map aA.v)),some (.tup (bs.map a0.v)),some (.tup (ps.map Pk.v)),some (.int c),some (.ref q),none,some (.ref p),none,none,some (.ref r)]
theorem qZ (w:Gb ds bs ps aF) (c:Int):∃ v af,az P11 (d+3) 29 [.tup (ds.map aA.v),.tup (bs.map a0.v),.tup (ps.map Pk.v),.int c] H=some (.ok v,af)/\ax H af/\(v=.none\/∃ (q:Nat) (cs:List Int),v=.ref q/\H.length<=q/\J1 ps H q cs af):=by
 refine cc rfl rfl ?_
 refine aB (yt (call:=az P11 (d+2)) (K:=b8 [.tup (ds.map aA.v),.tup (bs.map a0.v),.tup (ps.map Pk.v),.int c]) (H:=H) rfl w.pl) λbv e1 I0=>?_
 refine W.set e1 ?_
 have MT:H.length<H.length+1:=VC _
 generalize H.length+1=q at I0 MT
 refine DD (ue (d:=d+1) (H:=bv) w.dk) λtr fg e2 k2 GQ ht=>?_
 have O8:tr≠q:=V7 (Ul (J'.mp I0.u).1 GQ)
 refine W.loopR (jg (al rfl e2) ht) (λj K af=>∃ cs,K=bp (NZ ds bs ps c q)/\J1 ps H q cs af/\af[tr]? = some (.lst ((uB ds).map .str))) (λv af=>v=.none/\ax H af) (a:=bp (NZ ds bs ps c q)) (ay ⟨rfl,rfl,rfl,rfl,rfl,trivial⟩) ⟨_,rfl,⟨I0.k.trans k2,k2 _ _ I0.u,I0.l,I0.p⟩,ht⟩ (λz z z h=>h.elim λz h=>ji h.2.2) (λj y pi dv hy q1=>?_) (λpi dv q1=>?_) λv pi dv h=>⟨_,rfl,h.2,.inl h.1⟩
 ·refine ew q1 λcs q1 I hT=>?_;apply aV q1
  refine aB (jb hy) λO hn q3=>?_;apply aV q3
  refine⟨_,rfl,W.set (al rfl (L7 w.pl O)) ?_⟩
  have k4:=ax.app dv [.lst (dx (kc ps O))]
  have hP:=aH dv (.lst (dx (kc ps O)))
  have GL:=B' (vU ps O) w.pl
  have QK:q<dv.length:=(J'.mp I.u).1
  generalize dv++[.lst (dx (kc ps O))]=ng at k4 hP
  refine W.set (tB rfl rfl (by decide) hP (λk hk=>qo hk) (by exact jL (y1 0xc00649010b980 rfl (iL GL)))) ?_
  have k5:=k4.trans (ax.app ng [.lst ((qm ps (kc ps O)).map lA.v)])
  have Ia:=ax.app ng [.lst ((qm ps (kc ps O)).map lA.v)] _ _ hP
  have hO:=aH ng (.lst ((qm ps (kc ps O)).map lA.v))
  generalize ng++[.lst ((qm ps (kc ps O)).map lA.v)]=r6 at k5 Ia hO
  generalize hoA:ng.length=oA at hO
  have vj:((qm ps (kc ps O)).map lA.v).length=(kc ps O).length:=by rw[A'];exact A' _
  refine qU (sD (d:=d) hO (by rw[vj];exact jL (y1 0xc00649010b980 rfl (iL GL))) c) λcs0 rA FZ e6 MU ZE=>?_
  refine ew (xh (d:=d+1) (H:=FZ) (bs:=bs) (λx hx=>(w.dk x hx).1) O) λJz e7 hL k7=>?_
  rw[vj] at ZE
  have RV:=k7 _ _ (ZE.k _ _ hO)
  have Tc:=k7 _ _ ZE.b
  have OT:oA<r6.length:=(J'.mp hO).1
  have O0:rA<FZ.length:=(J'.mp ZE.b).1
  refine kF (A3 (d:=d) RV hL Tc (by exact λq0=>zI (y3 0x1c080810b1011b0213b12 rfl (iL MU) (iT OT) (iE q0))) (by exact λq0=>zI (y2 0x1c080811b1012b01 rfl (iT O0) (iE q0))) (λo ho=>?_) (by unfold qm;rw[A'];exact jL (y1 0xc003c9010b980 rfl (iL GL))) (by unfold qm;rw[A',ZE.l]) ZE.ok (by rw[A',UN]) (λx hx=>(Ve.mp hx).elim λt h=>h.2 ▸ EZ w.dk w.dl w.bk t) (by decide) (c.fdiv 7)) λv Mt e8 k8 h8=>?_
  ·refine aB (Ve.mp ho) λk hk e=>?_;apply ez e
   have:=Co w.pk (qo hk)
   exact⟨Uw (by decide) this.1,this.2⟩
  have K8:ax dv Mt:=k8.keep (k5.trans (ZE.k.trans k7)) (B' k5.len MU)
  refine W.set (al (aI rfl (aI (al rfl e6) (aI (al rfl e7) (aC rfl)))) e8) ?_
  have I8:J1 ps H q cs Mt:=⟨I.k.trans K8,K8 _ _ I.u,I.l,I.p⟩
  have R5:=K8 _ _ hT
  refine Ug h8 (λe=>?_) λh=>aR h λe h=>?_
  ·apply aV e
   exact W.iteT Mt rfl (W.retE rfl (.inr ⟨_,rfl,rfl,I8.k⟩))
  ·apply aV e
   refine W.iteF Mt rfl (W.nil ?_)
   refine h.elim λME F=>?_
   have S5:dv.length≠rA:=by have:=k4.len;have:=(J'.mp hP).1;have:=(J'.mp Ia).1;exact λq0=>zI (y3 0x1c080810b1011b0213b12 rfl (iL MU) (iT this) (iE q0))
   have Qr:=k8 _ _ S5 (k7 _ _ (ZE.k _ _ Ia))
   have S9:q≠rA:=by have:=k5.len;exact λq0=>zI (y4 0x1c080811b1010b3210b2113b30 rfl (iT QK) (iL MU) (iL this) (iE q0))
   have RM:=F.u
   have rh:=F.l
   unfold qm at rh
   rw[A'] at rh
   have Sp:=F.p
   refine W.loop (cu (aX rfl ((gi Qr).trans (by rw[A']))) (by exact jL (y1 0xc0000000000003b9aca00d010b980 rfl (iL GL)))) (λj K af=>∃ cs,K=bp (N3 ds bs ps c q dv.length rA)/\J1 ps H q cs af/\dw q Mt af) (a:=bp (N3 ds bs ps c q dv.length rA)) (ay ⟨rfl,rfl,rfl,rfl,rfl,rfl,rfl,trivial⟩) ⟨cs,rfl,I8,dw.refl _ _⟩ (λz z z z=>b0 _) (λk y Ub Uc hy q9=>?_) λUb Uc q9=>?_
   ·refine ew q9 λMF q9 I9 K9=>?_;apply aV q9
    refine aR (eI hy) λhk q2=>?_;apply aV q2
    have z9:k<ME.length:=rh.symm ▸ hk
    have hi:=qo (UF hk)
    refine⟨_,rfl,W.setItem0 q ((kc ps O)[k]:Nat) (MF.map .int) (.int ((ME[k]?).getD 0)) (aP rA k _ _ rfl rfl (K9 _ _ (Ne.symm S9) RM) (Uj k) (fF z9)) rfl (aP dv.length k _ _ rfl rfl (K9 _ _ (by exact λq0=>zI (y2 0x1c080811b1012b01 rfl (iT QK) (iE q0))) Qr) (Uj k) (by rw[Us,Um,Ue hk];rfl)) I9.u (Uj _) (by rw[Us,A',I9.l];exact hi) ?_⟩
    rw[Us,<-XT]
    refine W.nil ⟨rfl,bp (N3 ds bs ps c q dv.length rA),ay ⟨rfl,rfl,rfl,rfl,rfl,rfl,rfl,trivial⟩,MF.set _ _,rfl,⟨I9.k.set (UD MT),dJ I9.u,by rw[Xc];exact I9.l,λy hy=>?_⟩,K9.set _⟩
    refine Ug (W5 hy) (I9.p y) λe=>?_
    rw[e,Ue z9]
    have:=Sp _ (UF z9)
    show 0<=ME[k]/\ME[k]<=740000
    exact⟨this.1,Uw this.2 (by decide)⟩
   ·refine ew q9 λMF q9 I9 K9=>?_;apply aV q9
    exact W.nil (.inl ⟨rfl,bp (NZ ds bs ps c q),ay ⟨rfl,rfl,rfl,rfl,rfl,trivial⟩,MF,rfl,I9,K9 _ _ O8 R5⟩)
 ·refine ew q1 λcs q1 I hT=>?_;apply aV q1
  exact W.retE rfl ⟨_,rfl,I.k,.inr ⟨q,cs,rfl,UD MT,I⟩⟩
end
noncomputable def Pk.bat (p:Pk):a0:=⟨p.n,p.a,p.l⟩
noncomputable def gz (z:List (Pk×Int)):List a0:=z.flatMap λx=>UL x.2.toNat x.1.bat
theorem t6 {z:List (Pk×Int)}:(∀ x∈z,gv qK x.2)->(gz z).length<=740000 * z.length:=by
 induction z with
 | nil=>exact λk=>Un _
 | cons x z ih =>
  intro h
  unfold gz at ih ⊢
  rw[Y3,Ud,V4,VV,Nat.mul_succ,V9]
  exact VY (ih λy hy=>h y (H' _ hy)) (YS.mpr (h x z').2)
noncomputable abbrev PU (q:Nat):aN:=bp [none,none,none,some (.ref q)]
section
variable {d r j n o l:Nat} {H σ1:ag} {K:aN} {c aF:Int} {ds:List aA} {bs:List a0} {ps:List Pk} {O:Str} {cs ls:List Int}
theorem zt (hb:bs.length<=120) (hp:ps.length<=9) (hc:∀ x∈cs,gv qK x):∃ af,az P11 (d+1) 3 [.tup (bs.map a0.v),.tup (ps.map Pk.v),.tup (cs.map .int)] H=some (.ok (.tup ((bs++gz (ps.zip cs)).map a0.v)),af)/\ax H af:=by
 have hz:∀ j,(bs++gz ((ps.zip cs).take j)).length<=7000000:=λj=>by
  have h1:=t6 (z:=(ps.zip cs).take j) λx hx=>hc _ (We (UB hx)).2
  have h2:=Yz j (ps.zip cs)
  have h3:(ps.zip cs).length<=ps.length:=by rw[XI];exact Wp _ _
  rw[Ud];exact B' (VY hb (B' h1 (W7 _ (B' h2 (B' h3 hp))))) (by decide)
 obtain ⟨v,af,h,rfl,h1⟩:=cc (R:=λv af=>v=.tup ((bs++gz (ps.zip cs)).map a0.v)/\ax H af) (P:=P11) (k:=3) (d:=d) rfl (as:=[.tup (bs.map a0.v),.tup (ps.map Pk.v),.tup (cs.map .int)]) rfl (by
  refine W.set (v:=.ref H.length) (σ1:=H++[.lst (bs.map a0.v)]) (aX rfl (yQ (by rw[A'];exact B' hb (by decide)))) ?_
  have yC:H.length≠(H++[aZ.lst (bs.map a0.v)]).length:=by rw[Ud];exact UP (VC _)
  refine W.loop (Jn (an rfl) (an rfl))
   (λj K af=>K=PU H.length/\ax H af/\af[H.length]? = some (.lst ((bs++gz ((ps.zip cs).take j)).map a0.v))/\af[(H++[aZ.lst (bs.map a0.v)]).length]? = some .own)
   (a:=PU H.length) (ay ⟨rfl,trivial⟩) ⟨rfl,(ax.app _ _).trans (ax.app _ _),?_,aH _ _⟩ (λq q q h=>ji h.2.2.2) (λj y pi bv hy q1=>?_) λpi bv q1=>?_
  ·rw[Xo,show bs++gz []=bs from Uu _];exact ax.app _ _ _ _ (aH _ _)
  ·refine yo q1 λq1 hK hb ho=>?_;apply aV q1
   refine aB (jb hy) λx hx q3=>?_;apply aV q3
   have JO:=hc _ (We (Ui hx)).2
   obtain ⟨p,m⟩:=x
   obtain ⟨n,rfl⟩:=Ye JO.1
   have hn:n<=740000:=Vv.mp JO.2
   have hs:gz ((ps.zip cs).take (j+1))=gz ((ps.zip cs).take j)++UL n p.bat:=by
    rw[cP hx];unfold gz;rw[YE];exact congrArg _ (Uu _)
   have EM:=hz (j+1)
   rw[hs,<-Uf] at EM
   have lE:bs++gz ((ps.zip cs).take (j+1))=bs++gz ((ps.zip cs).take j)++UL n p.bat:=by rw[hs,<-Uf]
   generalize bs++gz ((ps.zip cs).take j)=B at hb EM lE
   rw[Ud,V4] at EM
   refine⟨_,rfl,W.loop (cu (an rfl) (by exact jL (y1 0xc0000000000003b9aca00d010b000000000000000b4aa0d0 rfl (iL hn))))
    (λi K af=>K=bp [none,none,none,some (.ref H.length),some p.v]/\i<=n/\ax H af/\af[H.length]? = some (.lst ((B++UL i p.bat).map a0.v))/\af[(H++[aZ.lst (bs.map a0.v)]).length]? = some .own)
    (a:=bp [none,none,none,some (.ref H.length),some p.v]) (ay ⟨rfl,rfl,trivial⟩) ⟨rfl,UJ _,hK,by rw[hb,List.replicate_zero,Uu],ho⟩ (λq q q q=>b0 _) (λi y Jy fg hy q2=>?_) λJy fg q2=>?_⟩
   ·refine NR q2 λq2 hi hK hb ho=>?_;apply aV q2
    refine aR (eI hy) λcE q2=>?_;apply aV q2
    refine⟨_,rfl,W.append0 H.length _ p.bat.v rfl hb (cG (aI (be 0 _ _ (an rfl) rfl (by decide) rfl) (aI (be 1 _ _ (an rfl) rfl (by decide) rfl) (aC (be 3 _ _ (an rfl) rfl (by decide) rfl)))) (show 3<=ar by decide)) (by rw[A',Ud,V4];exact B' (by exact jL (y5 0xc000000000000006acfc0d310b000000000000006acfc0d011b2112ba14313ba240 rfl (iL EM) (iT cE) (iA _ _) (iA _ _)):_<=7000000) (by decide)) (W.nil ⟨rfl,bp [none,none,none,some (.ref H.length),some p.v],ay ⟨rfl,rfl,trivial⟩,rfl,cE,hK.set (Un _),?_,?_⟩)⟩
    ·rw[dJ hb,List.replicate_succ',<-Uf,Va (l₁:=B++_)];rfl
    ·rw[dD yC];exact ho
   ·refine NR q2 λq2 hi hK hb ho=>?_;apply aV q2
    rw[fZ,<-lE] at hb
    exact W.nil ⟨rfl,PU H.length,ay ⟨rfl,trivial⟩,rfl,hK,hb,ho⟩
  ·refine yo q1 λq1 hK hb ho=>?_;apply aV q1
   have hz:=hz (ps.zip cs).length
   rw[A',UZ] at hb
   rw[UZ] at hz
   exact W.retE (aX rfl (cB hb (by rw[A'];exact B' hz (by decide)))) ⟨_,rfl,rfl,hK⟩)
 exact⟨af,h,h1⟩
noncomputable def mn (os:List lA) (cs:List Int) (t:Nat):Int:=bJ ((UC os.length).map λi=>if (t:Int)<(dC os i).l then (dC os i).a * (cs[i]?).getD 0 else 0)
theorem CD {os:List lA} (ho:H[o]? = some (.lst (os.map lA.v))) (hr:H[r]? = some (.lst (cs.map .int))) (hl:H[l]? = some (.lst (ls.map .int))) (yB:∀ o∈os,o.okO) (vj:os.length<=60) (rh:cs.length=os.length) (OM:ls.length=7) :
  ∃ b,az P11 (d+1) 24 [.ref o,.ref r,.ref l] H=some (.ok (.bool b),H)/\(b=true↔∀ t,t<7->(ls[t]?).getD 0<=mn os cs t):=by
 obtain ⟨v,af,h,rfl,b,rfl,h2⟩:=cc (R:=λv af=>H=af/\∃ b,v=.bool b/\(b=true↔∀ t,t<7->(ls[t]?).getD 0<=mn os cs t)) (P:=P11) (k:=24) (d:=d) rfl (as:=[.ref o,.ref r,.ref l]) rfl (by
  refine W.loopR (xs:=bQ 1 (7+1:Nat) 1) rfl (λj K af=>K=bp [some (.ref o),some (.ref r),some (.ref l)]/\H=af/\∀ t,t<j->(ls[t]?).getD 0<=mn os cs t) (λv af=>v=.bool false/\H=af/\¬ ∀ t,t<7->(ls[t]?).getD 0<=mn os cs t)
   (a:=bp [some (.ref o),some (.ref r),some (.ref l)]) (ay ⟨rfl,rfl,rfl,trivial⟩) ⟨rfl,rfl,λt ht=>absurd ht (Xa _)⟩ (λx x x x=>b0 _) (λj y pi bv hy q1=>?_) (λpi bv q1=>?_) λv pi bv q=>⟨_,rfl,q.2.1,false,q.1,(λe=>nomatch e),λe=>absurd e q.2.2⟩
  ·refine iK q1 λq1 e hI=>?_;apply aV q1;apply ez e
   refine aR (mB hy) λhj q2=>?_;apply aV q2
   refine⟨_,rfl,W.set rfl ?_⟩
   refine W.loop (cu (aX (vs:=[.ref o]) rfl ((gi ho).trans (by rw[A']))) (by exact jL (y1 0xc0000000000003b9aca00d010b003c90 rfl (iL vj))))
    (λi K af=>K=bp [some (.ref o),some (.ref r),some (.ref l),some (.int ((j:Int)+1)),some (.int (bJ ((UC i).map λi=>if (j:Int)<(dC os i).l then (dC os i).a * (cs[i]?).getD 0 else 0)))]/\H=af)
    (a:=bp [some (.ref o),some (.ref r),some (.ref l),some (.int ((j:Int)+1)),some (.int 0)]) (ay ⟨rfl,rfl,rfl,rfl,rfl,trivial⟩) ⟨rfl,rfl⟩ (λx x x x=>b0 _) (λi y Jy fg hy q2=>?_) λJy fg q2=>?_
   ·refine aR q2 λq2 e=>?_;apply aV q2;apply ez e
    refine aR (eI hy) λhi q2=>?_;apply aV q2
    have eo:∀ {K:aN},K 0=some (.ref o)->K 5=some (.int i)->ab (az P11 d) (.idx (.var 0) (.var 5)) K H=some ((dC os i).v,H):=λh0 h5=>aP o i _ (dC os i).v (an h0) (an h5) ho (Uj i) (nr hi)
    have hk:=nB yB hi
    have II:bJ ((UC (i+1)).map λi=>if (j:Int)<(dC os i).l then (dC os i).a * (cs[i]?).getD 0 else 0)=bJ ((UC i).map λi=>if (j:Int)<(dC os i).l then (dC os i).a * (cs[i]?).getD 0 else 0)+if (j:Int)<(dC os i).l then (dC os i).a * (cs[i]?).getD 0 else 0:=by rw[Zk,Va,YN,qz]
    generalize bJ ((UC i).map λi=>if (j:Int)<(dC os i).l then (dC os i).a * (cs[i]?).getD 0 else 0)=z at II
    refine⟨_,rfl,W.if_ (p:=(j:Int)<(dC os i).l) (bO (be 2 _ _ (eo rfl rfl) rfl (by decide) rfl) rfl rfl) (λhc=>?_) λhc=>W.nil (W.nil ⟨rfl,bp [some (.ref o),some (.ref r),some (.ref l),some (.int ((j:Int)+1)),some (.int z)],ay ⟨rfl,rfl,rfl,rfl,rfl,trivial⟩,by rw[II,if_neg hc,VO],rfl⟩)⟩
    refine W.set (aJ rfl (aJ (be 0 _ _ (eo rfl rfl) rfl (by decide) rfl) (aP r i _ _ rfl rfl hr (Uj i) (fF (rh ▸ hi))) (gy (xo (nJ (Uw (by decide) hk.1) (V5 hk.2 (by decide)))))) rfl) (W.nil (W.nil ⟨rfl,_,ay (l:=[some (.ref o),some (.ref r),some (.ref l),some (.int ((j:Int)+1)),some (.int (z+(dC os i).a * (cs[i]?).getD 0))]) ⟨rfl,rfl,rfl,rfl,rfl,trivial⟩,by rw[II,if_pos hc],rfl⟩))
   ·refine aR q2 λq2 e=>?_;apply aV q2;apply ez e
    rw[fZ]
    have Io:j<ls.length:=OM ▸ hj
    have ec:ab (az P11 d) (.cmp .Lt (.var 4) (.idx (.var 2) (.bin .Sub (.var 3) (.cst (.int 1))))) (bp [some (.ref o),some (.ref r),some (.ref l),some (.int ((j:Int)+1)),some (.int (mn os cs j))]) H=some (.bool (decide (mn os cs j<(ls[j]?).getD 0)),H) :=
     bO (an rfl) (aP l (j:Int) _ _ rfl (aJ rfl rfl (show some (V.int ((j:Int)+1 - 1),H)=_ by rw[XW])) hl (Uj j) (fF Io)) rfl
    refine W.if_ ec (λhc=>W.retE rfl (.inr ⟨_,rfl,rfl,rfl,λq=>absurd (q j hj) (XU.mpr hc)⟩)) λhc=>W.nil (W.nil (.inl ⟨rfl,_,ay (l:=[some (.ref o),some (.ref r),some (.ref l)]) ⟨rfl,rfl,rfl,trivial⟩,rfl,rfl,λt ht=>?_⟩))
    exact Ug (Nat.lt_succ_iff_lt_or_eq.mp ht) (hI t) λe=>e ▸ Vj.mp hc
  ·refine iK q1 λq1 e hI=>?_;apply aV q1
   rw[mC] at hI
   exact W.retE rfl ⟨_,rfl,e,true,rfl,λx=>hI,λx=>rfl⟩)
 exact⟨b,h,h2⟩
end
noncomputable def oh (ps:List Pk) (cs:List Int) (O:Str) (t:Nat):Int:=bJ ((kc ps O).map λk=>if (t:Int)<(uA ps k).l then (uA ps k).a * (cs[k]?).getD 0 else 0)
noncomputable def HH (ds:List aA) (bs:List a0) (ps:List Pk) (cs:List Int) (O:Str):Prop:=∀ t,t<7->oz ds bs O t<=oh ps cs O t
theorem qp {α β:Type} (f:α->β) (x0:α) (l:List α):(UC l.length).map (λi=>f ((l[i]?).getD x0))=l.map f:=by
 refine X7 λi=>?_
 rw[Um,Um]
 by_cases h:i<l.length
 ·rw[VI h,Ue h]
  show some (f ((l[i]?).getD x0))=_
  rw[Ue h];rfl
 ·rw[VL (by rw[UN];exact jL (y2 0xc1010b10 rfl (iL (UK.mp h)))),VL (by exact jL (y2 0xc1010b10 rfl (iL (UK.mp h))))];rfl
theorem wV (ps:List Pk) (cs:List Int) (O:Str) (t:Nat):mn (qm ps (kc ps O)) ((kc ps O).map λk=>(cs[k]?).getD 0) t=oh ps cs O t:=by
 unfold mn oh qm
 generalize kc ps O=l
 rw[A']
 refine congrArg bJ (Eq.trans (VH λi hi=>?_) (qp (λk=>if (t:Int)<(uA ps k).l then (uA ps k).a * (cs[k]?).getD 0 else 0) 0 l))
 have hi:=Vc.mp hi
 unfold dC
 rw[Um,Um,Ue hi];rfl
section
variable {d r j n o l:Nat} {H σ1:ag} {K:aN} {c aF:Int} {ds:List aA} {bs:List a0} {ps:List Pk} {O:Str} {cs ls:List Int}
noncomputable abbrev Mp (ds:List aA) (bs:List a0) (ps:List Pk) (r q:Nat):aN:=bp [some (.tup (ds.map aA.v)),some (.tup (bs.map a0.v)),some (.tup (ps.map Pk.v)),some (.ref r),some (.ref q)]
structure Rf (ds:List aA) (bs:List a0) (ps:List Pk) (cs:List Int) (H:ag) (tr q j:Nat) (us:List Str) (af:ag):Prop where
 k:ax H af
 t:af[tr]? = some (.lst ((uB ds).map .str))
 u:af[q]? = some (.lst (us.map .str))
 l:us.length<=j
 m:∀ O,O∈us↔O∈(uB ds).take j/\¬ HH ds bs ps cs O
theorem zz (hd:∀ x∈ds,x.okA aF):(uB ds).length<=12:=by
 unfold uB
 rw[qx,A']
 exact l9 (ni λx hx=>⟨(hd x hx).1,λp hp=>((hd x hx).2 p hp).1⟩)
theorem wc (w:Gb ds bs ps aF) (hr:H[r]? = some (.lst (cs.map .int))) (rh:cs.length=ps.length):∃ (q:Nat) (us:List Str) (af:ag),az P11 (d+2) 33 [.tup (ds.map aA.v),.tup (bs.map a0.v),.tup (ps.map Pk.v),.ref r] H=some (.ok (.ref q),af)/\ax H af/\af[q]? = some (.lst (us.map .str))/\∀ O,O∈us↔O∈uB ds/\¬ HH ds bs ps cs O:=by
 obtain ⟨v,af,h,q,us,rfl,h1⟩:=cc (R:=λv af=>∃ (q:Nat) (us:List Str),v=.ref q/\ax H af/\af[q]? = some (.lst (us.map .str))/\∀ O,O∈us↔O∈uB ds/\¬ HH ds bs ps cs O) (P:=P11) (k:=33) rfl (as:=[.tup (ds.map aA.v),.tup (bs.map a0.v),.tup (ps.map Pk.v),.ref r]) rfl (by
  refine W.set (σ1:=H++[.lst []]) rfl ?_
  refine DD (ue (d:=d) (H:=H++[.lst []]) w.dk) λtr fg e2 k2 GQ ht=>?_
  have O8:H.length≠tr:=by rw[Ud] at GQ;exact UP GQ
  refine W.loop (jg (al rfl e2) ht) (λj K af=>∃ us,K=Mp ds bs ps r H.length/\Rf ds bs ps cs H tr H.length j us af) (a:=Mp ds bs ps r H.length) (ay ⟨rfl,rfl,rfl,rfl,rfl,trivial⟩) ⟨[],rfl,(ax.app _ _).trans k2,ht,k2 _ _ (aH _ _),UJ _,λO=>⟨(λh=>nomatch h),λh=>by rw[Xo] at h;exact nomatch h.1⟩⟩ (λz z z h=>h.elim λz h=>ji h.2.t) (λj y pi dv hy q1=>?_) λpi dv q1=>?_
  ·refine aB q1 λus q1 I=>?_;apply aV q1
   refine aB (jb hy) λO hn q3=>?_;apply aV q3
   refine⟨_,rfl,W.set (al rfl (L7 w.pl O)) ?_⟩
   have GL:=B' (vU ps O) w.pl
   have k4:=ax.app dv [.lst (dx (kc ps O))]
   have hP:=aH dv (.lst (dx (kc ps O)))
   generalize dv++[.lst (dx (kc ps O))]=ng at k4 hP
   generalize dv.length=p at hP
   refine W.set (tB rfl rfl (by decide) hP (λk hk=>qo hk) (by exact jL (y1 0xc00649010b980 rfl (iL GL)))) ?_
   have k5:=k4.trans (ax.app ng [.lst ((qm ps (kc ps O)).map lA.v)])
   have Ia:=ax.app ng [.lst ((qm ps (kc ps O)).map lA.v)] _ _ hP
   have hO:=aH ng (.lst ((qm ps (kc ps O)).map lA.v))
   generalize ng++[.lst ((qm ps (kc ps O)).map lA.v)]=r6 at k5 Ia hO
   generalize ng.length=o at hO
   have Tb:=k5 _ _ (I.k _ _ hr)
   have ec:=dU (elt:=ab (az P11 (d+1)) (.idx (.var 3) (.var 8))) (cond:=bX (az P11 (d+1)) .nil) (t:=.one 8) (K:=cn (cn (cn (Mp ds bs ps r H.length) 5 (.str O)) 6 (.ref p)) 7 (.ref o)) (ji Ia) (xs:=kc ps O) λk hk =>
    ⟨_,rfl,rfl,λz=>aP r k _ _ rfl rfl Tb (Uj k) (fF (rh ▸ qo hk))⟩
   rw[eD,show ((kc ps O).map λk:Nat=>V.int ((cs[k]?).getD 0))=((kc ps O).map λk:Nat=>(cs[k]?).getD 0).map V.int by rw[Wz];rfl] at ec
   have e6:=fE (it:=.ex (.var 6)) (jg rfl Ia) ec (by rw[A',A'];exact B' GL (by decide))
   have k6:=ax.app r6 [.lst (((kc ps O).map λk:Nat=>(cs[k]?).getD 0).map V.int)]
   have hC:=aH r6 (.lst (((kc ps O).map λk:Nat=>(cs[k]?).getD 0).map V.int))
   generalize r6++[.lst (((kc ps O).map λk:Nat=>(cs[k]?).getD 0).map V.int)]=FZ at e6 k6 hC
   refine ew (xh (d:=d) (H:=FZ) (bs:=bs) (λx hx=>(w.dk x hx).1) O) λJz e7 hL k7=>?_
   have K7:ax dv Jz:=k5.trans (k6.trans k7)
   refine aB (CD (d:=d) (k7 _ _ (k6 _ _ hO)) (k7 _ _ hC) hL (λo ho=>?_) (by unfold qm;rw[A'];exact jL (y1 0xc003c9010b980 rfl (iL GL))) (by unfold qm;rw[A',A']) (by rw[A',UN])) λb e8 hb=>?_
   ·refine aB (Ve.mp ho) λk hk e=>?_;apply ez e
    have:=Co w.pk (qo hk)
    exact⟨Uw (by decide) this.1,this.2⟩
   have hS:b=true↔HH ds bs ps cs O:=hb.trans ⟨λh t ht=>by
    have:=h t ht
    rw[wV,Um,VI ht] at this;exact this,λh t ht=>by
    rw[wV,Um,VI ht];exact h t ht⟩
   have ev:=u1 (al (aI (an (i:=7) rfl) (aI e6 (aC (al (as:=.cons (.var 0) (.cons (.var 1) (.cons (.var 5) .nil))) rfl e7)))) e8)
   have hu:=K7 _ _ I.u
   have MW:∀ x,x∈(uB ds).take (j+1)↔x∈(uB ds).take j\/x=O:=λx=>by rw[cP hn,Uk,O']
   cases b with
   | true =>
    have hs:=hS.mp rfl
    refine W.iteF Jz (br ev) (W.nil (W.nil ⟨rfl,Mp ds bs ps r H.length,ay ⟨rfl,rfl,rfl,rfl,rfl,trivial⟩,us,rfl,I.k.trans K7,K7 _ _ I.t,hu,UX I.l,λx=>?_⟩))
    rw[I.m,MW]
    exact⟨λh=>⟨.inl h.1,h.2⟩,λh=>⟨h.1.resolve_right λe=>h.2 (e ▸ hs),h.2⟩⟩
   | false =>
    have hs:¬ HH ds bs ps cs O:=λh=>Uq (hS.mpr h)
    have hj:j<(uB ds).length:=(J'.mp hn).1
    have Rz:=zz w.dk
    refine W.iteT Jz (br ev) (W.append0 H.length _ (.str O) rfl hu rfl (by rw[A'];exact B' (B' I.l (by exact jL (y2 0xcc8011b1010bc81 rfl (iT hj) (iL Rz)):j<=12)) (by decide)) (W.nil (W.nil ⟨rfl,Mp ds bs ps r H.length,ay ⟨rfl,rfl,rfl,rfl,rfl,trivial⟩,us++[O],rfl,(I.k.trans K7).set (Un _),(dD O8).trans (K7 _ _ I.t),?_,by rw[Ud];exact U8 I.l,λx=>?_⟩)))
    ·rw[dJ hu,Va];rfl
    ·rw[Uk,I.m,MW,O']
     exact⟨λh=>h.elim (λh=>⟨.inl h.1,h.2⟩) λe=>⟨.inr e,e ▸ hs⟩,λh=>h.1.imp (λq=>⟨q,h.2⟩) id⟩
  ·refine aB q1 λus q1 I=>?_;apply aV q1
   have hm:=I.m
   rw[A',UZ] at hm
   exact W.retE rfl ⟨_,rfl,_,us,rfl,I.k,I.u,hm⟩)
 exact⟨q,us,af,h,h1⟩
end
theorem pb:∀ l m:List Int,bJ (l++m)=bJ l+bJ m
 | [],m=>(VB _).symm
 | x::l,m=>by rw[Yh,bd,bd,pb l m,Wi]
theorem ua {α:Type} (f:α->Int):∀ l:List α,bJ (l.map λx=>- f x) = - bJ (l.map f)
 | []=>rfl
 | x::l=>by rw[U2,U2,bd,bd,ua f l,Int.neg_add]
theorem jn (bs:List a0) (n:Str) (t:Nat):fV bs n t=bJ (bs.map (rg n t)):=ll bs
theorem xg (ds:List aA) (bs:List a0) (n:Str) (t:Nat):oz ds bs n t=max 0 (qa ds n t - fV bs n t):=by
 unfold oz
 rw[ua,<-wQ,<-jn,VB];rfl
noncomputable def zF (n:Str) (t:Nat) (x:Pk×Int):Int:=if pk n t x.1.bat then x.1.a * x.2 else 0
theorem xz (x:Int):∀ n:Nat,bJ (UL n x)=x * n
 | 0=>(YQ x).symm
 | n+1=>by rw[XM,bd,xz x n,Yr,Yt,Yo];exact congrArg _ (WB x).symm
theorem tc {n:Str} {t:Nat}:∀ {z:List (Pk×Int)},(∀ x∈z,0<=x.2)->fV (gz z) n t=bJ (z.map (zF n t))
 | [],_=>rfl
 | x::z,h=>by
  have h0:=h x z'
  rw[U2,bd,<-tc λy hy=>h y (H' _ hy),jn,jn]
  unfold gz
  rw[Y3,Va,pb,List.map_replicate,xz,Vf h0]
  unfold rg zF
  split
  ·rfl
  ·rw[WD]
theorem sT {ps:List Pk} {cs:List Int} (hl:cs.length=ps.length) (n:Str) (t:Nat):oh ps cs n t=bJ ((ps.zip cs).map (zF n t)):=by
 unfold oh kc
 rw[ll,<-qp (zF n t) (⟨Zs,0,0,0⟩,0) (ps.zip cs),XI,hl,Zy]
 refine congrArg bJ (VH λi hi=>?_)
 have hi:=Vc.mp hi
 have hc:i<cs.length:=hl ▸ hi
 have e:(ps.zip cs)[i]? = some (ps[i],cs[i]):=by rw[W3];exact⟨Ue hi,Ue hc⟩
 have e2:uA ps i=ps[i]:=by unfold uA;rw[Ue hi];rfl
 rw[e,e2,Ue hc]
 show (if ps[i].n==n then if (t:Int)<ps[i].l then ps[i].a * cs[i] else 0 else 0)=if ps[i].n==n&&decide ((t:Int)<ps[i].l) then ps[i].a * cs[i] else 0
 cases ps[i].n==n with
 | false=>rfl
 | true =>
  by_cases h:(t:Int)<ps[i].l
  ·rw[if_pos rfl,if_pos h,W',decide_eq_true h];rfl
  ·rw[if_pos rfl,if_neg h,W',decide_eq_false h];rfl
theorem nV {v:V} {k:Str}:∀ {l:List (Str×V)},k∈(gc l k v).map (·.1)/\∀ x∈l.map (·.1),x∈(gc l k v).map (·.1)
 | []=>⟨z',λx h=>nomatch h⟩
 | (a,b)::r=>by
  show k∈(if a=k then (a,v)::r else (a,b)::gc r k v).map (·.1)/\∀ x∈a::r.map (·.1),x∈(if a=k then (a,v)::r else (a,b)::gc r k v).map (·.1)
  by_cases h:a=k
  ·rw[if_pos h];exact⟨h ▸ z',λx hx=>hx⟩
  ·rw[if_neg h]
   have ih:=nV (v:=v) (k:=k) (l:=r)
   exact⟨H' _ ih.1,λx hx=>(Uh.mp hx).elim (λe=>e ▸ z') λq=>H' _ (ih.2 x q)⟩
theorem xK {n:Str}:∀ {l:List Str} {acc:List (Str×V)},n∈acc.map (·.1)\/n∈l->n∈(l.foldl (λacc n=>gc acc n (.bool true)) acc).map (·.1)
 | [],_,h=>h.resolve_right λq=>nomatch q
 | x::l,acc,h=>xK (l:=l) (h.elim (λq=>.inl (nV.2 n q)) λq=>(Uh.mp q).elim (λe=>.inl (by rw[e];exact nV.1)) .inr)
theorem FH {ds:List aA} {n:Str} {x:aA} {a:Int} (hx:x∈ds) (h:(n,a)∈x.ns):n∈uB ds:=by
 have p:(uB ds).Perm ((v8 (mO ds)).map (·.1)):=by
  unfold uB iw
  by_cases h:∃ m:List Str,m.Perm ((v8 (mO ds)).map (·.1))/\lK m
  ·rw[dif_pos h];exact (Xv h).1
  ·rw[dif_neg h]
 exact p.mem_iff.mpr (xK (.inr (XB.mpr ⟨x,hx,Ve.mpr ⟨_,h,rfl⟩⟩)))
theorem PD {ds:List aA} {bs:List a0} {ps:List Pk} {aF:Int} {cs:List Int} (w:Gb ds bs ps aF) (hl:cs.length=ps.length) (hc:∀ x∈cs,gv qK x) :
  (∀ st,gG (bs++gz (ps.zip cs)) ds=.ok st->∀ O,HH ds bs ps cs O)/\∀ e,gG (bs++gz (ps.zip cs)) ds=.error e->e∈uB ds/\¬ HH ds bs ps cs e:=by
 have hz:∀ x∈ps.zip cs,x.1∈ps/\0<=x.2:=λx hx=>⟨(We hx).1,(hc _ (We hx).2).1⟩
 have C:=Em (bs:=bs++gz (ps.zip cs)) (λb hb=>(Uk.mp hb).elim (w.bk b) λh=>by
  refine aB (XB.mp h) λx hx hb=>?_
  rw[(YO.mp hb).2]
  exact Uw (by decide) (w.pk _ (hz x hx).1).1) λx hx=>⟨(w.dk x hx).1,(w.dk x hx).nn⟩
 have hk:∀ n t,fV (bs++gz (ps.zip cs)) n t=fV bs n t+oh ps cs n t:=λn t=>by
  rw[jn,Va,pb,<-jn,<-jn,tc λx hx=>(hz x hx).2,sT hl]
 have h0:∀ n t,0<=oh ps cs n t:=λn t=>by
  rw[sT hl]
  refine rQ λy hy=>?_
  refine aB (Ve.mp hy) λx hx e=>?_;apply ez e
  unfold zF
  split
  ·exact Zp (Uw (by decide) (w.pk _ (hz x hx).1).1) (hz x hx).2
  ·exact Vk _
 refine⟨λst h O t ht=>?_,λe h=>aR (C.2 e h) λq1 q2=>⟨aB q2 λx hx h=>h.elim λa h=>FH hx h,λhs=>aB q1 λt ht q=>?_⟩⟩
 ·have h1:=C.1 st h O t
  have h2:=h0 O t
  rw[hk] at h1
  rw[xg];exact (XS _ _).elim (λd0=>y4 0xc2310ba21012be103 rfl h1 (WX d0)) λd0=>y2 0xc0110b00812b081 rfl h2 (XG d0)
 ·have h1:=hs t ht
  rw[hk] at q
  rw[xg] at h1;exact zI (y4 0x1c080811b2a1010b1310b3e02 rfl q h1 (Int.le_max_right _ _))
section
variable {d r w:Nat} {H:ag} {ds:List aA} {bs:List a0} {ps:List Pk} {aF:Int} {cs:List Int}
theorem GZ {O:Str}:∀ {us:List Str},O∈us->gx (.str O) (us.map .str)=some true
 | u::us,h=>by
  show (DE (.str u) (.str O)).bind (λa=>(gx (.str O) (us.map .str)).bind λb=>some (a||b))=_
  show (some (u==O)).bind (λa=>(gx (.str O) (us.map .str)).bind λb=>some (a||b))=_
  have NO:∀ {l:List Str},∃ b,gx (.str O) (l.map .str)=some b:=λ{l}=>by
   induction l with
   | nil=>exact⟨_,rfl⟩
   | cons a l ih =>
    refine ih.elim λb hb=>⟨(a==O)||b,?_⟩
    show (some (a==O)).bind (λa=>(gx (.str O) (l.map .str)).bind λb=>some (a||b))=_
    rw[hb];rfl
  refine (Uh.mp h).elim (λe=>?_) λq=>?_
  ·refine (NO (l:=us)).elim λb hb=>?_
   rw[hb,<-e,beq_self_eq_true];rfl
  ·rw[GZ q]
   show some ((u==O)||true)=_
   rw[Y0]
noncomputable abbrev eL (w r:Nat):aN:=bp [none,none,some (.ref w),none,some (.ref r)]
theorem AV (W0:Gb ds bs ps aF) {K:aN} (hw:H[w]? = some (.lst [.tup (ds.map aA.v),.tup (bs.map a0.v),.tup (ps.map Pk.v)])) (hr:H[r]? = some (.lst (cs.map .int))) (hl:cs.length=ps.length) (hc:∀ x∈cs,gv qK x) (lF:Le (eL w r) K) :
  W (az P11 (d+6)) (.cons (.assign (.one 7) (.call 3 (.cons (.idx (.var 2) (.cst (.int 1))) (.cons (.idx (.var 2) (.cst (.int 2))) (.cons (.prim .tuple (.cons (.var 4) .nil)) .nil)))))
   (.cons (.assign (.one 8) (.call 32 (.cons (.idx (.var 2) (.cst (.int 0))) (.cons (.var 7) .nil))))
   (.cons (.assign (.one 9) (.call 33 (.cons (.idx (.var 2) (.cst (.int 0))) (.cons (.idx (.var 2) (.cst (.int 1))) (.cons (.idx (.var 2) (.cst (.int 2))) (.cons (.var 4) .nil))))))
   (.cons (.ite (.prim .isList (.cons (.var 8) .nil)) (.cons (.ret (.and (.cmp .Eq (.prim .len (.cons (.var 8) .nil)) (.cst (.int 1))) (.cmp .In (.idx (.var 8) (.cst (.int 0))) (.var 9)))) .nil) .nil)
   (.cons (.ret (.and (.prim .isTuple (.cons (.var 8) .nil)) (.cmp .Eq (.var 9) (.list .nil)))) .nil))))) K H λfl j af=>∃ v,fl=.ret v/\v=.bool true:=by
 refine W.le lF ?_
 have hz:(cs.map V.int).length<=ar:=by rw[A',hl];exact B' W0.pl (by decide)
 refine aB (zt (d:=d+5) (H:=H) (bs:=bs) (ps:=ps) (cs:=cs) W0.bl W0.pl hc) λbv e1 k1=>?_
 refine W.set (al (vs:=[.tup (bs.map a0.v),.tup (ps.map Pk.v),.tup (cs.map .int)]) (aI (aP w 1 _ _ rfl rfl hw (by decide) rfl) (aI (aP w 2 _ _ rfl rfl hw (by decide) rfl) (aC (aX (vs:=[.ref r]) rfl (cB hr hz))))) e1) ?_
 have hB:(bs++gz (ps.zip cs)).length<=10000000:=by
  have h1:=t6 (z:=ps.zip cs) λx hx=>hc _ (We hx).2
  have h2:(ps.zip cs).length<=ps.length:=by rw[XI];exact Wp _ _
  have h3:=W0.bl
  have h4:=W0.pl
  rw[Ud];exact B' (VY h3 (B' h1 (W7 _ (B' h2 h4)))) (by decide)
 have L:=PD W0 hl hc
 generalize bs++gz (ps.zip cs)=B at e1 hB L
 refine gA (uW (P:=P11) (k:=32) (iC:=2) (iU:=1) (iB:=0) (d:=d+2) (H:=bv) rfl rfl rfl rfl ds B (B' W0.dl (by decide)) hB (λx hx=>(W0.dk x hx).1) λx hx p hp=>⟨Uw (by decide) ((W0.dk x hx).2 p hp).2.1,((W0.dk x hx).2 p hp).2.2⟩) λu fg e2 Y=>?_
 have LC:=k1 _ _ hw
 refine W.set (al (vs:=[.tup (ds.map aA.v),.tup (B.map a0.v)]) (aI (aP w 0 _ _ rfl rfl LC (by decide) rfl) (aC rfl)) e2) ?_
 have EK:=Y.keep _ _ LC
 refine Eo (wc (d:=d+4) (H:=fg) W0 (Y.keep _ _ (k1 _ _ hr)) hl) λq us dv e3 k3 hq hm=>?_
 refine W.set (al (vs:=[.tup (ds.map aA.v),.tup (bs.map a0.v),.tup (ps.map Pk.v),.ref r]) (aI (aP w 0 _ _ rfl rfl EK (by decide) rfl) (aI (aP w 1 _ _ rfl rfl EK (by decide) rfl) (aI (aP w 2 _ _ rfl rfl EK (by decide) rfl) (aC rfl)))) e3) ?_
 cases h:gG B ds with
 | ok st =>
  rw[h] at Y
  apply aV (Y.ok st rfl)
  refine W.iteF dv rfl (W.nil (W.retE (nX (aX (vs:=[.tup (st.2.map pG)]) rfl rfl) (bO (x:=.ref q) rfl (dH (es:=.nil) (vs:=[]) rfl (by decide)) (AW (cT (ax.app dv [.lst []] _ _ hq)) (cT (aH dv (.lst [])))))) ⟨_,rfl,?_⟩))
  have:us=[]:=by
   cases us with
   | nil=>rfl
   | cons x us=>exact absurd (L.1 st h x) ((hm x).mp z').2
  rw[this];rfl
 | error e =>
  rw[h] at Y
  refine aB (Y.bad e rfl) λp q2 hp=>?_;apply aV q2
  have OW:=k3 _ _ hp
  have ek:fY .isList [.ref p] dv=some (.bool true,dv):=by
   show ((lst dv p).bind λj=>some wo.lst).bind (λk=>some (V.bool k.isLst,dv))=_
   rw[cT OW];rfl
  refine W.iteT dv (br (aX (vs:=[.ref p]) rfl ek)) (W.retE (nX (eA (x:=1) (y:=1) (aX (vs:=[.ref p]) rfl (gi OW)) rfl) (bO (c:=true) (aP p 0 _ (.str e) rfl rfl OW (by decide) rfl) (an (v:=.ref q) rfl) ?_)) ⟨_,rfl,rfl⟩)
  show (lst dv q).bind (λl=>gx (.str e) l)=_
  rw[cT hq]
  exact GZ ((hm e).mpr (L.2 e h))
end
theorem law11 (ns:List Int) (hn:ns.length<=63):∀ H,∃ af,az P11 20 34 [.ro ns] H=some (.ok (.bool true),af):=λH=>by
 obtain ⟨v,af,h,rfl⟩:=cc (R:=λv af=>v=.bool true) (P:=P11) (k:=34) (H:=H) (d:=19) rfl (as:=[.ro ns]) rfl (by
  generalize fS:jd 1 ns=cs
  have e1:=vL (P:=P11) (k:=4) (d:=18) (H:=H) rfl ns hn
  rw[fS] at e1
  refine W.set (v:=.ref H.length) (al (vs:=[.ro ns]) rfl e1) ?_
  have h0:=aH H (.lst (cs.map .int))
  generalize H++[.lst (cs.map .int)]=uC at h0
  generalize H.length=r0 at h0
  obtain ⟨w,ds,bs,ps,aF,bv,e2,hw,k1,W0⟩:=FP (d:=15) h0
  refine W.set (al (vs:=[.ref r0]) rfl e2) ?_
  refine W.set (al (vs:=[.int (cellF cs 1),.int 5]) (aI (al (vs:=[.ref r0,.int 1]) rfl (j3 (P:=P11) (k:=5) (d:=18) rfl (k1 _ _ h0) 1 (by decide) rfl)) (aC rfl)) (fW rfl _ _ (by decide))) ?_
  generalize ry (cellF cs 1) 5=c
  have ec:=dU (elt:=ab (az P11 19) (.slc (.var 10) (.cst (.int 1)) (.cst .none))) (cond:=bX (az P11 19) .nil) (t:=.one 10) (w:=[]) (K:=cn (cn (cn (b8 [.ro ns]) 1 (.ref r0)) 2 (.ref w)) 3 (.int c)) (H:=bv) (g:=Pk.v) (p:=λz=>true) (f:=λp:Pk=>p.off.v) (b0 _) (xs:=ps) λp hp =>
   ⟨_,rfl,rfl,λz=>lQ (an (v:=p.v) rfl) rfl rfl (rK (a:=1) (l:=[.str p.n,.int p.a,.int p.p,.int p.l]) (show 1<=4 by decide) (show 4<=1000 by decide))⟩
  rw[eD] at ec
  have r2:=W0.pl
  have vj:(ps.map λp:Pk=>p.off.v).length=ps.length:=A' _
  refine qU (sD (d:=17) (aH bv (.lst (ps.map λp:Pk=>p.off.v))) (by exact jL (y2 0xc00649110b98012b01 rfl (iL r2) (iE vj))) (c.fdiv 2)) λc0 r fg e3 hr ZE=>?_
  rw[vj] at ZE
  have k2:=(ax.app bv [.lst (ps.map λp:Pk=>p.off.v)]).trans ZE.k
  have QG:w<bv.length:=(J'.mp hw).1
  refine W.set (al (vs:=[.ref bv.length,.int (c.fdiv 2)]) (aI (fE (eQ (aP w 2 _ _ rfl rfl hw (by decide) rfl)) ec (by exact jL (y2 0xc00000000000001000000d110b98012b01 rfl (iL r2) (iE vj)):_<=16777216)) (aC rfl)) e3) ?_
  have EK:=k2 _ _ hw
  have Pc:w≠r:=by rw[Ud] at hr;exact λq0=>zI (y5 0x1c080810b1011b3210b40813ba43013b12 rfl (iL hr) (iT QG) (iP _) (iA _ _) (iE q0))
  have Qz:∀ x∈c0,gv qK x:=λx hx=>⟨(ZE.ok x hx).1,Uw (ZE.ok x hx).2 (by decide)⟩
  refine W.if_ (p:=c.fmod 2=1) (eA rfl rfl) (λz=>?_) λz=>W.nil (AV (d:=13) W0 EK ZE.b ZE.l Qz (ay ⟨rfl,rfl,trivial⟩))
  refine kF (qZ (d:=16) (H:=fg) W0 (c.fdiv 2)) λv dv e4 k3 hv=>?_
  refine W.set (al (vs:=[.tup (ds.map aA.v),.tup (bs.map a0.v),.tup (ps.map Pk.v),.int (c.fdiv 2)]) (aI (aP w 0 _ _ rfl rfl EK (by decide) rfl) (aI (aP w 1 _ _ rfl rfl EK (by decide) rfl) (aI (aP w 2 _ _ rfl rfl EK (by decide) rfl) (aC rfl)))) e4) ?_
  have QQ:=k3 _ _ EK
  -- from the counts that were taken on
  have gJ:∀ (r:Nat) (cs:List Int) (K:aN),w≠r->dv[r]? = some (.lst (cs.map .int))->cs.length=ps.length->(∀ x∈cs,gv qK x)->Le (bp [none,none,some (.ref w),some (.int c),some (.ref r)]) K ->
    W (az P11 19) (.cons (.ite (.and (.cmp .Gt (.prim .len (.cons (.var 4) .nil)) (.cst (.int 0))) (.cmp .Eq (.bin .Mod (.bin .FloorDiv (.var 3) (.cst (.int 2))) (.cst (.int 3))) (.cst (.int 0)))) (.cons (.assign (.one 6) (.bin .Mod (.bin .FloorDiv (.var 3) (.cst (.int 6))) (.prim .len (.cons (.var 4) .nil)))) (.cons (.setItem (.var 4) (.var 6) (.prim .max2 (.cons (.cst (.int 0)) (.cons (.bin .Sub (.idx (.var 4) (.var 6)) (.cst (.int 1))) .nil)))) .nil)) .nil) .nil) K dv
     λfl aS af=>match fl with
      | .next=>W (az P11 19) (.cons (.assign (.one 7) (.call 3 (.cons (.idx (.var 2) (.cst (.int 1))) (.cons (.idx (.var 2) (.cst (.int 2))) (.cons (.prim .tuple (.cons (.var 4) .nil)) .nil)))))
       (.cons (.assign (.one 8) (.call 32 (.cons (.idx (.var 2) (.cst (.int 0))) (.cons (.var 7) .nil))))
       (.cons (.assign (.one 9) (.call 33 (.cons (.idx (.var 2) (.cst (.int 0))) (.cons (.idx (.var 2) (.cst (.int 1))) (.cons (.idx (.var 2) (.cst (.int 2))) (.cons (.var 4) .nil))))))
       (.cons (.ite (.prim .isList (.cons (.var 8) .nil)) (.cons (.ret (.and (.cmp .Eq (.prim .len (.cons (.var 8) .nil)) (.cst (.int 1))) (.cmp .In (.idx (.var 8) (.cst (.int 0))) (.var 9)))) .nil) .nil)
       (.cons (.ret (.and (.prim .isTuple (.cons (.var 8) .nil)) (.cmp .Eq (.var 9) (.list .nil)))) .nil))))) aS af λfl z af=>∃ v,fl=.ret v/\v=.bool true
      | fl=>∃ v,fl=.ret v/\v=.bool true:=λr cs K Pc hr hl hc lF=>by
   have Kt:∀ {K:aN},K 4=some (.ref r)->ab (az P11 19) (.prim .len (.cons (.var 4) .nil)) K dv=some (.int ps.length,dv):=λh=>aX (vs:=[.ref r]) (aC (an h)) ((gi hr).trans (by rw[A',hl]))
   refine W.ifB (jl (p:=decide (0<(ps.length:Int))) (q:=(c.fdiv 2).fmod 3==0) (bO (Kt (lF 4 _ rfl)) rfl rfl) (bO (aJ (aJ (an (lF 3 _ rfl)) rfl (nU (by decide) (by decide))) rfl (cr (by decide))) rfl rfl)) (λhb=>?_) λz=>W.nil (W.nil (AV (d:=13) W0 QQ hr hl hc ((ay ⟨rfl,rfl,trivial⟩:Le (eL w r) _).trans lF)))
   have hp:=of_decide_eq_true (Up.mp hb).1
   refine aB (fm (a:=c.fdiv 6) (b:=ps.length) hp) λk fk hk=>?_
   have z9:k<cs.length:=by exact jT (y3 0x1c0213b1011b12 rfl (iE hl) hk)
   refine W.set (v:=.int k) (σ1:=dv) (fk ▸ aJ (aJ (an (lF 3 _ rfl)) rfl (nU (by decide) (by decide))) (Kt (lF 4 _ rfl)) (cr (by exact λq0=>zI (y1 0x1c080811b00812b080 rfl hp q0)))) ?_
   refine W.setItem0 r (k:Int) (cs.map .int) (.int (max 0 ((cs[k]?).getD 0 - 1))) (aX (vs:=[.int 0,.int ((cs[k]?).getD 0 - 1)]) (aI rfl (aC (aJ (aP r k _ _ (an (lF 4 _ rfl)) rfl hr (Uj k) (fF z9)) rfl rfl))) rfl) (an (lF 4 _ rfl)) rfl hr (Uj k) (by rw[Us,A'];exact z9) ?_
   rw[Us,<-XT]
   refine W.nil (W.nil (AV (d:=13) W0 ((dD Pc.symm).trans QQ) (dJ hr) (by rw[Xc];exact hl) (λy hy=>?_) ?_))
   ·refine Ug (W5 hy) (hc y) λe=>?_
    rw[e,Ue z9]
    have:=hc _ (UF z9)
    show 0<=max 0 (cs[k] - 1)/\max 0 (cs[k] - 1)<=740000
    unfold gv qK at this;exact (XS _ _).elim (λd0=>⟨y1 0xc00810b008 rfl (Yq _ _),y2 0xc000000000000000b4aa0d110b000000000000000b4aa0d012be1801 rfl this.2 (WX d0)⟩) λd0=>⟨y1 0xc00810b008 rfl (Yq _ _),y1 0xc000000000000000b4aa0d012b080 rfl (XG d0)⟩
   ·exact ay ⟨lF 2 _ rfl,lF 4 _ rfl,trivial⟩
  refine Ug hv (λe=>?_) λq=>?_
  ·apply aV e
   exact W.iteF dv rfl (W.nil (gJ r c0 _ Pc (k3 _ _ ZE.b) ZE.l Qz (ay ⟨rfl,rfl,rfl,trivial⟩)))
  ·refine kF q λq' Gl e S7 F=>?_;apply aV e
   exact W.iteT dv rfl (W.set (v:=.ref q') rfl (W.nil (gJ q' Gl _ (by have:=k2.len;exact λq0=>zI (y4 0x1c080811b1010b3210b2113b30 rfl (iT QG) (iL S7) (iL this) (iE q0))) F.u F.l F.p (ay ⟨rfl,rfl,rfl,trivial⟩)))))
 exact⟨af,h⟩
end Lar
namespace Lar
open PySem PySem.W PyProof.Rows
noncomputable def qv:Program:=view PySem.Challenge.pw_uf060007_11 [1,2,3,5,6,7,9,11,12,13,14,15,16,17,18,19,20,21,22,23,24,25,26,27,28,29,30,31,32,33,34,35,36,37,38,39,40,41]
set_option maxRecDepth 100000 in
theorem q_said:PySem.Challenge.rw_uf060007_11.wellSaid=true:=(congrFun PySem.W.Fast.te9446332074065402090 _).trans (by decide +kernel)
set_option maxRecDepth 100000 in
theorem q_open:opening PySem.Challenge.pw_uf060007_11=plainProg PySem.Challenge.pw_uf060007_11.main.scope.names:=by kernel_rfl
theorem q_fence:∀ s,fenceModules? PySem.Challenge.pw_uf060007_11 s=some s:=λs=>by kernel_rfl
set_option maxRecDepth 100000 in
theorem q_left:LeftO PySem.Challenge.pw_uf060007_11 qv [] (λs=>xlAt qv [] s&&recOk (RowW.records (OpenRow.toRowW PySem.Challenge.rw_uf060007_11.row)) s&&Q4 qv s) (Hook.obs Hook.none) (Hook.val Hook.none) 6000 :=
 E3 q_open rfl q_fence λw os=>Jv.trans (by kernel_rfl)
end Lar
open PySem PySem.W PyProof.Rows
set_option tactic.hygienic true in
set_option maxRecDepth 100000 in
set_option maxHeartbeats 8000000 in
theorem PySem.Challenge.cw_uf060007_11_holds : PySem.Challenge.rw_uf060007_11.Holds := by
 w_on
 refine holds_law Lar.q_said fun PR=>?_
 refine holds_open (q:=Lar.qv) (loose:=[]) (Xt:=fun s=>xlAt Lar.qv [] s&&recOk (RowW.records (OpenRow.toRowW PySem.Challenge.rw_uf060007_11.row)) s&&Lar.Q4 Lar.qv s) (XP:=Lar.XE Lar.qv) (Yf:=Hook.obs Hook.none) (Ya:=Hook.val Hook.none) (YP:=Hook.says Hook.none) (N:=6000) Lar.q_left (Hook.of Hook.none) (Hook.keeps Hook.none) (fun s e=>Lar.Q5 (Bool.and_eq_true_iff.mp e).2) (fun mg h h' x hk=>Lar.XE.keeps x hk) (d:=?d) (kwd:=?kwd) ?h1 ?h2 ?h3 (fun s e=>recFacts_of (Bool.and_eq_true_iff.mp (Bool.and_eq_true_iff.mp e).1).2) (by rfl) PR (by decide +kernel) ⟨rfl,rfl,rfl,rfl,rfl,by decide +kernel⟩ ?hw ?hc
 case h1=>rfl
 case h2=>rfl
 case h3=>rfl
 (case hw=>w_witness2)
 intro w s₀ s₁ mg mb G Y fa o pm cd doc dV kV ho hd lU hD OO hg args cC as OX OJ Td Tp SP
 wrow_args OX OJ Td Tp SP
 rename_i ns _ _ _ _ _ _ _ a vs _ _ _ _ _ hI _ cm _
 have IC:=Lar.law11 ns (by omega)
 refine Lar.law_run G.T G.X (by decide +kernel) Lar.consts11 [] (by decide +kernel) (by decide +kernel) (P:=Lar.P11) ?_ (fun _ hk=>nomatch hk) (k:=34) (name := "law") (by kernel_rfl) OO (by assumption) (by have:Lar.ar=16777216:=rfl;omega) hI (d:=20) (by omega) IC ?_
 ·kernel_rfl
 ·intro s' hk OB yB
  exact ⟨.inl ⟨.bool true,.bool true,[],rfl,fun _=>rfl,.bool true,by wrow_post,fun _=>⟨List.nodup_nil,fun _ h=>nomatch h⟩⟩,hk,yB,.of_eq (OB.trans hg)⟩
