import PyProof.Rows.All
import PySem.Value
import PyProof.StrCalls2
import PySem.Eval
import PyProof.Rows.SortStr
import PyProof.Rows.SortRunsK
import KE.KSortTup
import KE.KLam
import Wide.All
import Open.Line
import Open.Pieces
import OpenK.KCall
import PySem.Challenge.RW_uf060007_08
set_option Elab.async false
set_option tactic.hygienic false
set_option linter.unusedSimpArgs false
set_option linter.unusedVariables false
set_option linter.all false
set_option autoImplicit false
set_option maxRecDepth 100000
namespace Lar
theorem aJ {P Q:Prop} {C:Prop} (h:P∧Q) (k:P→Q→C):C:=k h.1 h.2
theorem iY {P Q R:Prop} {C:Prop} (h:P∧Q∧R) (k:P→Q→R→C):C:=k h.1 h.2.1 h.2.2
theorem yl {P Q R S:Prop} {C:Prop} (h:P∧Q∧R∧S) (k:P→Q→R→S→C):C:=k h.1 h.2.1 h.2.2.1 h.2.2.2
theorem NN {P Q R S T:Prop} {C:Prop} (h:P∧Q∧R∧S∧T) (k:P→Q→R→S→T→C):C:=k h.1 h.2.1 h.2.2.1 h.2.2.2.1 h.2.2.2.2
theorem au {α:Sort _} {P Q:α→Prop} {C:Prop} (h:∃ a,P a∧Q a) (k:∀ a,P a→Q a→C):C:=h.elim fun a q=>k a q.1 q.2
theorem fL {α:Sort _} {P Q R:α→Prop} {C:Prop} (h:∃ a,P a∧Q a∧R a) (k:∀ a,P a→Q a→R a→C):C:=h.elim fun a q=>k a q.1 q.2.1 q.2.2
theorem ym {α:Sort _} {P Q R S:α→Prop} {C:Prop} (h:∃ a,P a∧Q a∧R a∧S a) (k:∀ a,P a→Q a→R a→S a→C):C:=h.elim fun a q=>k a q.1 q.2.1 q.2.2.1 q.2.2.2
theorem NO {α:Sort _} {P Q R S T:α→Prop} {C:Prop} (h:∃ a,P a∧Q a∧R a∧S a∧T a) (k:∀ a,P a→Q a→R a→S a→T a→C):C:=h.elim fun a q=>k a q.1 q.2.1 q.2.2.1 q.2.2.2.1 q.2.2.2.2
theorem oZ {α:Sort _} {β:Sort _} {P:α→β→Prop} {C:Prop} (h:∃ a b,P a b) (k:∀ a b,P a b→C):C:=h.elim fun a q=>q.elim fun b q=>k a b q
theorem fv {α:Sort _} {β:Sort _} {P Q:α→β→Prop} {C:Prop} (h:∃ a b,P a b∧Q a b) (k:∀ a b,P a b→Q a b→C):C:=h.elim fun a q=>q.elim fun b q=>k a b q.1 q.2
theorem kF {α:Sort _} {β:Sort _} {P Q R:α→β→Prop} {C:Prop} (h:∃ a b,P a b∧Q a b∧R a b) (k:∀ a b,P a b→Q a b→R a b→C):C:=h.elim fun a q=>q.elim fun b q=>k a b q.1 q.2.1 q.2.2
theorem Gx {α:Sort _} {β:Sort _} {P Q R S:α→β→Prop} {C:Prop} (h:∃ a b,P a b∧Q a b∧R a b∧S a b) (k:∀ a b,P a b→Q a b→R a b→S a b→C):C:=h.elim fun a q=>q.elim fun b q=>k a b q.1 q.2.1 q.2.2.1 q.2.2.2
theorem E0 {α:Sort _} {β:Sort _} {P Q R S T:α→β→Prop} {C:Prop} (h:∃ a b,P a b∧Q a b∧R a b∧S a b∧T a b) (k:∀ a b,P a b→Q a b→R a b→S a b→T a b→C):C:=h.elim fun a q=>q.elim fun b q=>k a b q.1 q.2.1 q.2.2.1 q.2.2.2.1 q.2.2.2.2
theorem NP {α:Sort _} {β:Sort _} {P Q R S T U:α→β→Prop} {C:Prop} (h:∃ a b,P a b∧Q a b∧R a b∧S a b∧T a b∧U a b) (k:∀ a b,P a b→Q a b→R a b→S a b→T a b→U a b→C):C:=h.elim fun a q=>q.elim fun b q=>k a b q.1 q.2.1 q.2.2.1 q.2.2.2.1 q.2.2.2.2.1 q.2.2.2.2.2
theorem J9 {α:Sort _} {β:Sort _} {P Q R S T U X:α→β→Prop} {C:Prop} (h:∃ a b,P a b∧Q a b∧R a b∧S a b∧T a b∧U a b∧X a b) (k:∀ a b,P a b→Q a b→R a b→S a b→T a b→U a b→X a b→C):C:=h.elim fun a q=>q.elim fun b q=>k a b q.1 q.2.1 q.2.2.1 q.2.2.2.1 q.2.2.2.2.1 q.2.2.2.2.2.1 q.2.2.2.2.2.2
theorem B6 {α:Sort _} {β:Sort _} {γ:Sort _} {P:α→β→γ→Prop} {C:Prop} (h:∃ a b c,P a b c) (k:∀ a b c,P a b c→C):C:=h.elim fun a q=>q.elim fun b q=>q.elim fun c q=>k a b c q
theorem jH {α:Sort _} {β:Sort _} {γ:Sort _} {P Q:α→β→γ→Prop} {C:Prop} (h:∃ a b c,P a b c∧Q a b c) (k:∀ a b c,P a b c→Q a b c→C):C:=h.elim fun a q=>q.elim fun b q=>q.elim fun c q=>k a b c q.1 q.2
theorem qL {α:Sort _} {β:Sort _} {γ:Sort _} {P Q R:α→β→γ→Prop} {C:Prop} (h:∃ a b c,P a b c∧Q a b c∧R a b c) (k:∀ a b c,P a b c→Q a b c→R a b c→C):C:=h.elim fun a q=>q.elim fun b q=>q.elim fun c q=>k a b c q.1 q.2.1 q.2.2
theorem E1 {α:Sort _} {β:Sort _} {γ:Sort _} {P Q R S:α→β→γ→Prop} {C:Prop} (h:∃ a b c,P a b c∧Q a b c∧R a b c∧S a b c) (k:∀ a b c,P a b c→Q a b c→R a b c→S a b c→C):C:=h.elim fun a q=>q.elim fun b q=>q.elim fun c q=>k a b c q.1 q.2.1 q.2.2.1 q.2.2.2
theorem MF {α:Sort _} {β:Sort _} {γ:Sort _} {P Q R S T:α→β→γ→Prop} {C:Prop} (h:∃ a b c,P a b c∧Q a b c∧R a b c∧S a b c∧T a b c) (k:∀ a b c,P a b c→Q a b c→R a b c→S a b c→T a b c→C):C:=h.elim fun a q=>q.elim fun b q=>q.elim fun c q=>k a b c q.1 q.2.1 q.2.2.1 q.2.2.2.1 q.2.2.2.2
theorem Ka {α:Sort _} {β:Sort _} {γ:Sort _} {P Q R S T U:α→β→γ→Prop} {C:Prop} (h:∃ a b c,P a b c∧Q a b c∧R a b c∧S a b c∧T a b c∧U a b c) (k:∀ a b c,P a b c→Q a b c→R a b c→S a b c→T a b c→U a b c→C):C:=h.elim fun a q=>q.elim fun b q=>q.elim fun c q=>k a b c q.1 q.2.1 q.2.2.1 q.2.2.2.1 q.2.2.2.2.1 q.2.2.2.2.2
theorem Ja {α:Sort _} {β:Sort _} {γ:Sort _} {δ:Sort _} {P:α→β→γ→δ→Prop} {C:Prop} (h:∃ a b c d,P a b c d) (k:∀ a b c d,P a b c d→C):C:=h.elim fun a q=>q.elim fun b q=>q.elim fun c q=>q.elim fun d q=>k a b c d q
theorem Kb {α:Sort _} {β:Sort _} {γ:Sort _} {δ:Sort _} {P Q:α→β→γ→δ→Prop} {C:Prop} (h:∃ a b c d,P a b c d∧Q a b c d) (k:∀ a b c d,P a b c d→Q a b c d→C):C:=h.elim fun a q=>q.elim fun b q=>q.elim fun c q=>q.elim fun d q=>k a b c d q.1 q.2
theorem Hq {α:Sort _} {β:Sort _} {γ:Sort _} {δ:Sort _} {P Q R:α→β→γ→δ→Prop} {C:Prop} (h:∃ a b c d,P a b c d∧Q a b c d∧R a b c d) (k:∀ a b c d,P a b c d→Q a b c d→R a b c d→C):C:=h.elim fun a q=>q.elim fun b q=>q.elim fun c q=>q.elim fun d q=>k a b c d q.1 q.2.1 q.2.2
theorem MG {α:Sort _} {β:Sort _} {γ:Sort _} {δ:Sort _} {P Q R S:α→β→γ→δ→Prop} {C:Prop} (h:∃ a b c d,P a b c d∧Q a b c d∧R a b c d∧S a b c d) (k:∀ a b c d,P a b c d→Q a b c d→R a b c d→S a b c d→C):C:=h.elim fun a q=>q.elim fun b q=>q.elim fun c q=>q.elim fun d q=>k a b c d q.1 q.2.1 q.2.2.1 q.2.2.2
theorem MH {α:Sort _} {β:Sort _} {γ:Sort _} {δ:Sort _} {P Q R S T:α→β→γ→δ→Prop} {C:Prop} (h:∃ a b c d,P a b c d∧Q a b c d∧R a b c d∧S a b c d∧T a b c d) (k:∀ a b c d,P a b c d→Q a b c d→R a b c d→S a b c d→T a b c d→C):C:=h.elim fun a q=>q.elim fun b q=>q.elim fun c q=>q.elim fun d q=>k a b c d q.1 q.2.1 q.2.2.1 q.2.2.2.1 q.2.2.2.2
theorem Kc {α:Sort _} {β:Sort _} {γ:Sort _} {δ:Sort _} {P Q R S T U:α→β→γ→δ→Prop} {C:Prop} (h:∃ a b c d,P a b c d∧Q a b c d∧R a b c d∧S a b c d∧T a b c d∧U a b c d) (k:∀ a b c d,P a b c d→Q a b c d→R a b c d→S a b c d→T a b c d→U a b c d→C):C:=h.elim fun a q=>q.elim fun b q=>q.elim fun c q=>q.elim fun d q=>k a b c d q.1 q.2.1 q.2.2.1 q.2.2.2.1 q.2.2.2.2.1 q.2.2.2.2.2
theorem kj {α:Sort _} {β:Sort _} {γ:Sort _} {δ:Sort _} {ε:Sort _} {P:α→β→γ→δ→ε→Prop} {C:Prop} (h:∃ a b c d f,P a b c d f) (k:∀ a b c d f,P a b c d f→C):C:=h.elim fun a q=>q.elim fun b q=>q.elim fun c q=>q.elim fun d q=>q.elim fun f q=>k a b c d f q
theorem pM {α:Sort _} {β:Sort _} {γ:Sort _} {δ:Sort _} {ε:Sort _} {P Q:α→β→γ→δ→ε→Prop} {C:Prop} (h:∃ a b c d f,P a b c d f∧Q a b c d f) (k:∀ a b c d f,P a b c d f→Q a b c d f→C):C:=h.elim fun a q=>q.elim fun b q=>q.elim fun c q=>q.elim fun d q=>q.elim fun f q=>k a b c d f q.1 q.2
theorem NQ {α:Sort _} {β:Sort _} {γ:Sort _} {δ:Sort _} {ε:Sort _} {P Q R S:α→β→γ→δ→ε→Prop} {C:Prop} (h:∃ a b c d f,P a b c d f∧Q a b c d f∧R a b c d f∧S a b c d f) (k:∀ a b c d f,P a b c d f→Q a b c d f→R a b c d f→S a b c d f→C):C:=h.elim fun a q=>q.elim fun b q=>q.elim fun c q=>q.elim fun d q=>q.elim fun f q=>k a b c d f q.1 q.2.1 q.2.2.1 q.2.2.2
theorem NR {α:Sort _} {β:Sort _} {γ:Sort _} {δ:Sort _} {ε:Sort _} {P Q R S T:α→β→γ→δ→ε→Prop} {C:Prop} (h:∃ a b c d f,P a b c d f∧Q a b c d f∧R a b c d f∧S a b c d f∧T a b c d f) (k:∀ a b c d f,P a b c d f→Q a b c d f→R a b c d f→S a b c d f→T a b c d f→C):C:=h.elim fun a q=>q.elim fun b q=>q.elim fun c q=>q.elim fun d q=>q.elim fun f q=>k a b c d f q.1 q.2.1 q.2.2.1 q.2.2.2.1 q.2.2.2.2
theorem Jb {α:Sort _} {β:Sort _} {γ:Sort _} {δ:Sort _} {ε:Sort _} {P Q R S T U X:α→β→γ→δ→ε→Prop} {C:Prop} (h:∃ a b c d f,P a b c d f∧Q a b c d f∧R a b c d f∧S a b c d f∧T a b c d f∧U a b c d f∧X a b c d f) (k:∀ a b c d f,P a b c d f→Q a b c d f→R a b c d f→S a b c d f→T a b c d f→U a b c d f→X a b c d f→C):C:=h.elim fun a q=>q.elim fun b q=>q.elim fun c q=>q.elim fun d q=>q.elim fun f q=>k a b c d f q.1 q.2.1 q.2.2.1 q.2.2.2.1 q.2.2.2.2.1 q.2.2.2.2.2.1 q.2.2.2.2.2.2
theorem fQ {α:Sort _} {a b:α} {C:α→Prop} (h:a=b) (k:C a):C b:=h ▸ k
theorem aO {α:Sort _} {a b:α} {C:α→Prop} (h:b=a) (k:C a):C b:=h ▸ k
end Lar
set_option genInjectivity false
set_option genSizeOf false
namespace Lar
inductive LT where
 | v (i:Nat)
 | n (k:Nat)
 | a (x y:LT)
noncomputable def LT.ev (c:List Nat):LT→Nat
 | .v i=>c.getD i 0
 | .n k=>k
 | .a x y=>x.ev c+y.ev c
noncomputable def kO:List Nat→List Nat→List Nat
 | [],m=>m
 | x::l,m=>match m with
  | []=>x::l
  | y::m=>(x+y)::kO l m
noncomputable def fq:List Nat→List Nat→Nat
 | [],_=>0
 | x::l,c=>x * c.headD 0+fq l c.tail
noncomputable def xW:Nat→List Nat
 | 0=>[1]
 | i+1=>0::xW i
noncomputable def LT.nf:LT→List Nat
 | .v i=>0::xW i
 | .n k=>[k]
 | .a x y=>kO x.nf y.nf
theorem dO:∀ (l m c:List Nat),fq (kO l m) c=fq l c+fq m c
 | [],m,c=>(Nat.zero_add _).symm
 | x::l,[],c=>rfl
 | x::l,y::m,c=>by
  show (x+y) * c.headD 0+fq (kO l m) c.tail=(x * c.headD 0+fq l c.tail)+(y * c.headD 0+fq m c.tail)
  rw [dO l m,Nat.add_mul,Nat.add_add_add_comm]
theorem kQ:∀ (i:Nat) (c:List Nat),fq (xW i) c=c.getD i 0
 | 0,[]=>rfl
 | 0,x::c=>Nat.one_mul x
 | i+1,[]=>by
  show 0 * 0+fq (xW i) []=0
  rw [kQ i,Nat.mul_zero];rfl
 | i+1,x::c=>by
  show 0 * x+fq (xW i) c=_
  rw [kQ i,Nat.zero_mul,Nat.zero_add];rfl
theorem LT.nf_ev (c:List Nat):∀ e:LT,fq e.nf (1::c)=e.ev c
 | .v i=>by
  show 0 * 1+fq (xW i) c=_
  rw [kQ,Nat.zero_mul,Nat.zero_add];rfl
 | .n k=>Nat.mul_one k
 | .a x y=>by
  show fq (kO x.nf y.nf) _=x.ev c+y.ev c
  rw [dO,x.nf_ev c,y.nf_ev c]
noncomputable def Md:List Nat→List Nat→Bool
 | l,[]=>true
 | l,y::m=>Nat.ble y (l.headD 0)&&Md l.tail m
theorem ql:∀ {l m:List Nat} (c:List Nat),Md l m=true→fq m c≤fq l c
 | l,[],c,_=>Nat.zero_le _
 | [],y::m,c,h=>by
  have h:=Bool.and_eq_true_iff.mp h
  have e:y=0:=Nat.le_zero.mp (Nat.le_of_ble_eq_true h.1)
  show y * _+fq m c.tail≤0
  rw [e,Nat.zero_mul,Nat.zero_add]
  exact ql (l:=[]) c.tail h.2
 | x::l,y::m,c,h=>by
  have h:=Bool.and_eq_true_iff.mp h
  exact Nat.add_le_add (Nat.mul_le_mul_right _ (Nat.le_of_ble_eq_true h.1)) (ql c.tail h.2)
structure LC where
 o:Nat
 l:LT
 r:LT
noncomputable def LC.den (c:List Nat) (q:LC):Prop:=match q.o with
 | 0=>q.l.ev c≤q.r.ev c
 | 1=>q.l.ev c<q.r.ev c
 | 2=>q.l.ev c ≥ q.r.ev c
 | 3=>q.l.ev c > q.r.ev c
 | 4=>q.l.ev c=q.r.ev c
 | 5=>q.l.ev c=q.r.ev c
 | 6=>¬ q.l.ev c≤q.r.ev c
 | 7=>¬ q.l.ev c<q.r.ev c
 | 8=>¬ q.l.ev c ≥ q.r.ev c
 | 9=>¬ q.l.ev c > q.r.ev c
 | _=>False
noncomputable def LC.le (q:LC):LT×LT:=match q.o with
 | 0=>(q.l,q.r)
 | 1=>(.a q.l (.n 1),q.r)
 | 2=>(q.r,q.l)
 | 3=>(.a q.r (.n 1),q.l)
 | 4=>(q.l,q.r)
 | 5=>(q.r,q.l)
 | 6=>(.a q.r (.n 1),q.l)
 | 7=>(q.r,q.l)
 | 8=>(.a q.l (.n 1),q.r)
 | 9=>(q.l,q.r)
 | _=>(.n 1,.n 0)
theorem LC.le_of (c:List Nat):∀ {q:LC},q.den c→q.le.1.ev c≤q.le.2.ev c
 | ⟨0,_,_⟩,h=>h
 | ⟨1,_,_⟩,h=>h
 | ⟨2,_,_⟩,h=>h
 | ⟨3,_,_⟩,h=>h
 | ⟨4,_,_⟩,h=>Nat.le_of_eq h
 | ⟨5,_,_⟩,h=>Nat.le_of_eq h.symm
 | ⟨6,_,_⟩,h=>Nat.not_le.mp h
 | ⟨7,_,_⟩,h=>Nat.not_lt.mp h
 | ⟨8,_,_⟩,h=>Nat.not_le.mp h
 | ⟨9,_,_⟩,h=>Nat.not_lt.mp h
 | ⟨_+10,_,_⟩,h=>False.elim h
noncomputable def LC.neg (q:LC):LT×LT:=(.a q.le.2 (.n 1),q.le.1)
theorem LC.of_neg (c:List Nat):∀ {q:LC},(q.o==4||q.o==5)=false→(q.neg.1.ev c≤q.neg.2.ev c→False)→q.den c
 | ⟨0,_,_⟩,_,h=>Nat.not_lt.mp h
 | ⟨1,_,_⟩,_,h=>Nat.not_le.mp fun g=>h (Nat.succ_le_succ g)
 | ⟨2,_,_⟩,_,h=>Nat.not_lt.mp h
 | ⟨3,_,_⟩,_,h=>Nat.not_le.mp fun g=>h (Nat.succ_le_succ g)
 | ⟨4,_,_⟩,e,_=>nomatch e
 | ⟨5,_,_⟩,e,_=>nomatch e
 | ⟨6,_,_⟩,_,h=>fun g=>h (Nat.succ_le_succ g)
 | ⟨7,_,_⟩,_,h=>h
 | ⟨8,_,_⟩,_,h=>fun g=>h (Nat.succ_le_succ g)
 | ⟨9,_,_⟩,_,h=>h
 | ⟨_+10,_,_⟩,_,h=>h (by show (0+1:Nat)≤1;exact Nat.le_refl _)
noncomputable def sP:Nat→List Nat→List Nat
 | 0,_=>[]
 | k+1,l=>kO l (sP k l)
theorem sQ {l m c:List Nat} (h:fq l c≤fq m c):∀ k,fq (sP k l) c≤fq (sP k m) c
 | 0=>Nat.le_refl _
 | k+1=>by
  show fq (kO l _) c≤fq (kO m _) c
  rw [dO,dO]
  exact Nat.add_le_add h (sQ h k)
noncomputable def LC.chk:List (Nat×LC)→LC→List Nat→List Nat→Bool
 | [],g,L,R=>!(g.o==4||g.o==5)&&Md (kO L g.neg.1.nf) (kO [1] (kO R g.neg.2.nf))
 | p::t,g,L,R=>LC.chk t g (kO L (sP p.1 p.2.le.1.nf)) (kO R (sP p.1 p.2.le.2.nf))
noncomputable def LC.all (c:List Nat):List (Nat×LC)→LC→Prop
 | [],g=>g.den c
 | p::t,g=>p.2.den c→LC.all c t g
theorem LC.all_of (c:List Nat):∀ (t:List (Nat×LC)) (g:LC) (L R:List Nat),LC.chk t g L R=true→fq L (1::c)≤fq R (1::c)→LC.all c t g
 | [],g,L,R,h,hl=>by
  have h:=Bool.and_eq_true_iff.mp h
  have e:(g.o==4||g.o==5)=false:=by
   cases q:(g.o==4||g.o==5) with
   | false=>rfl
   | true=>rw [q] at h;exact nomatch h.1
  refine LC.of_neg c e fun hn=>?_
  rw [←LT.nf_ev,←LT.nf_ev] at hn
  have h2:=ql (1::c) h.2
  rw [dO,dO,dO] at h2
  have h3:=Nat.add_le_add hl hn
  exact Nat.not_succ_le_self _ (Nat.le_trans (Nat.le_trans (Nat.le_of_eq (Nat.add_comm (_+_) 1)) h2) h3)
 | p::t,g,L,R,h,hl=>fun hp=>LC.all_of c t g _ _ h (by
  rw [dO,dO]
  refine Nat.add_le_add hl (sQ ?_ _)
  rw [LT.nf_ev,LT.nf_ev]
  exact LC.le_of c hp)
noncomputable def EZ:Nat→Nat→List LT→List (Nat×LC)→List (Nat×LC)×LC
 | 0,_,_,cs=>(cs,⟨10,.n 0,.n 0⟩)
 | f+1,z,st,cs =>
  match z % 16 with
  | 8=>EZ f (z / 256) (.n (z / 16 % 16)::st) cs
  | 9=>EZ f (z / 1048576) (.n (z / 16 % 65536)::st) cs
  | 10=>match st with
   | y::x::st=>EZ f (z / 16) (.a x y::st) cs
   | _=>(cs,⟨10,.n 0,.n 0⟩)
  | 11=>match st with
   | y::x::st=>EZ f (z / 4096) st ((z / 256 % 16,⟨z / 16 % 16,x,y⟩)::cs)
   | _=>(cs,⟨10,.n 0,.n 0⟩)
  | 12=>match st with
   | y::x::_=>(cs,⟨z / 16 % 16,x,y⟩)
   | _=>(cs,⟨10,.n 0,.n 0⟩)
  | 13=>EZ f (z / 19342813113834066795298816) (.n (z / 16 % 1208925819614629174706176)::st) cs
  | i=>EZ f (z / 16) (.v i::st) cs
noncomputable def lq (z:Nat):List (Nat×LC)×LC:=EZ 100 z [] []
noncomputable def Ga (z:Nat):Bool:=LC.chk (lq z).1 (lq z).2 [] []
noncomputable def tG (c:List Nat) (z:Nat):Prop:=LC.all c (lq z).1 (lq z).2
theorem GO (c:List Nat) (z:Nat) (h:Ga z=true):tG c z:=LC.all_of c _ _ _ _ h (Nat.le_refl _)
theorem l1 {a:Nat} (z:Nat) (h:Ga z=true):tG [a] z:=GO _ z h
theorem l2 {a b:Nat} (z:Nat) (h:Ga z=true):tG [a,b] z:=GO _ z h
theorem l3 {a b c:Nat} (z:Nat) (h:Ga z=true):tG [a,b,c] z:=GO _ z h
theorem l4 {a b c d:Nat} (z:Nat) (h:Ga z=true):tG [a,b,c,d] z:=GO _ z h
theorem l5 {a b c d e:Nat} (z:Nat) (h:Ga z=true):tG [a,b,c,d,e] z:=GO _ z h
theorem l6 {a b c d e f:Nat} (z:Nat) (h:Ga z=true):tG [a,b,c,d,e,f] z:=GO _ z h
theorem sA (n m:Nat):n≤n - m+m:=by lia
theorem sC {n m:Nat} (h:m≤n):n - m+m=n:=Nat.sub_add_cancel h
end Lar
set_option backward.match.sparseCases false
namespace Lar
open PySem
set_option genInjectivity true in
inductive V where
 | none
 | bool (b:Bool)
 | int (i:Int)
 | str (s:Str)
 | tup (l:List V)
 | ref (n:Nat)
 | ro (l:List Int)
set_option genInjectivity true in
inductive aZ where
 | lst (l:List V)
 | own
 | wd (w:Str)
 | exn (c d:Nat)
 | tab (q:Str)
noncomputable abbrev ag:=List aZ
noncomputable abbrev aF:=Nat→Option V
noncomputable def cE (ρ:aF) (i:Nat) (v:V):aF:=fun j=>if j=i then some v else ρ j
inductive ie where
 | len | sum | min2 | max2 | min1 | max1 | minD | tuple | list | str | int
 | isInt | isBool | isTuple | isStr | isList
 | sorted
inductive fW where
 | append | extend | find | get | join
inductive ge where
 | one (i:Nat)
 | two (i j:Nat)
inductive KX where
 | var (i:Nat)
 | num (i:Int)
 | idx (a i:KX)
 | pair (a b:KX)
mutual
inductive CE where
 | cst (v:V)
 | var (i:Nat)
 | bin (op:Operator) (a b:CE)
 | cmp (op:CmpOp) (a b:CE)
 | not (a:CE)
 | neg (a:CE)
 | and (a b:CE)
 | or (a b:CE)
 | ite (t a b:CE)
 | list (es:eG)
 | tuple (es:eG)
 | dict0
 | idx (a i:CE)
 | slc (a lo hi:CE)
 | call (f:Nat) (as:eG)
 | prim (p:ie) (as:eG)
 | meth (m:fW) (o:CE) (as:eG)
 | comp (elt:CE) (t:ge) (it:gd) (gc:eG)
 | sortK (it:gd) (i:Nat) (k:KX)
 | word (e:CE)
 | isC (c:Nat) (e:CE)
inductive eG where
 | nil
 | cons (e:CE) (r:eG)
inductive gd where
 | ex (e:CE)
 | rng1 (a:CE)
 | rng2 (a b:CE)
 | enm (a:CE)
end
mutual
inductive CS where
 | assign (t:ge) (e:CE)
 | setItem (o i v:CE)
 | expr (e:CE)
 | ite (c:CE) (t e:fu)
 | for_ (t:ge) (it:gd) (body:fu)
 | while_ (c:CE) (body:fu)
 | ret (e:CE)
 | raise_ (c:Nat) (e:CE)
 | try_ (body:fu) (x:Nat) (h:fu)
inductive fu where
 | nil
 | cons (s:CS) (r:fu)
end
set_option genInjectivity true in
inductive b8 where
 | next
 | ret (v:V)
 | exc (c:Nat) (w:Str)
set_option genInjectivity true in
inductive s8 where
 | ok (v:V)
 | exc (c:Nat) (w:Str)
noncomputable def an:Nat:=16777216
noncomputable def lJ (a b:Int):Bool:=decide (a.natAbs<18446744073709551616)||decide (b.natAbs<18446744073709551616)
noncomputable def mE:V→Option Int
 | .int i=>some i
 | _=>none
noncomputable def EO:V→Option Bool
 | .bool b=>some b
 | _=>none
noncomputable def yj:V→Option Str
 | .str x=>some x
 | _=>none
noncomputable def DM:V→Option (List V)
 | .tup l=>some l
 | _=>none
noncomputable def qT:V→Option Nat
 | .ref r=>some r
 | _=>none
noncomputable def Mx:aZ→Option (List V)
 | .lst l=>some l
 | _=>none
noncomputable def Ju:V→Bool
 | .none=>true
 | _=>false
noncomputable def a9 {α β:Type} (m:Option (α×ag)) (k:α→ag→Option β):Option β:=match m with
 | none=>none
 | some p=>k p.1 p.2
noncomputable def g7 {α β γ:Type} (m:Option (α×β×ag)) (k:α→β→ag→Option γ):Option γ:=match m with
 | none=>none
 | some p=>k p.1 p.2.1 p.2.2
noncomputable def gf {β:Type} (m:Option (V×ag)) (k:Bool→ag→Option β):Option β:=a9 m fun x σ=>(EO x).bind fun b=>k b σ
noncomputable def kB {β:Type} (m:Option (V×ag)) (k:Int→ag→Option β):Option β:=a9 m fun x σ=>(mE x).bind fun b=>k b σ
noncomputable def lst (σ:ag) (r:Nat):Option (List V):=(σ[r]?).bind Mx
noncomputable def xi (σ:ag) (l:List V):Option (V×ag):=if l.length≤an then some (.ref σ.length,σ++[.lst l]) else none
noncomputable def oF (σ:ag) (l:List V):Option (V×ag):=if l.length≤an then some (.tup l,σ) else none
noncomputable def F6 (σ:ag) (x:Str):Option (V×ag):=if x.length≤an then some (.str x,σ) else none
noncomputable def pj {α:Type} (l:List α):Nat→List α
 | 0=>[]
 | n+1=>l++pj l n
noncomputable def DK (a b:V) (σ:ag):Option (V×ag):=match a with
 | .int x=>(mE b).bind fun y=>some (.int (x+y),σ)
 | .str x=>(yj b).bind fun y=>if x.length+y.length≤an then some (.str (x++y),σ) else none
 | .tup x=>(DM b).bind fun y=>oF σ (x++y)
 | .ref i=>(qT b).bind fun j=>(lst σ i).bind fun x=>(lst σ j).bind fun y=>xi σ (x++y)
 | _=>none
noncomputable def Em (a b:V) (σ:ag):Option (V×ag):=(mE b).bind fun n=>match a with
 | .int x=>if lJ x n then some (.int (x * n),σ) else none
 | .tup x=>if 2≤n∧n≤100000∧x≠[]∧x.length≤100 then oF σ (pj x n.toNat) else none
 | .ref i=>(lst σ i).bind fun x=>if 0≤n∧n≤100000∧x.length≤100 then xi σ (pj x n.toNat) else none
 | _=>none
noncomputable def vw (f:Int→Int→Option Int) (a b:V) (σ:ag):Option (V×ag):=(mE a).bind fun x=>(mE b).bind fun y=>(f x y).bind fun z=>some (.int z,σ)
noncomputable def Mo (x y:Int):Option Int:=some (x - y)
noncomputable def J6 (x y:Int):Option Int:=if y=0∨1073741824≤y.natAbs then none else some (x.fdiv y)
noncomputable def Mi (x y:Int):Option Int:=if y=0 then none else some (x.fmod y)
noncomputable def jP (op:Operator) (a b:V) (σ:ag):Option (V×ag):=match op with
 | .Add=>DK a b σ
 | .Mult=>Em a b σ
 | .Sub=>vw Mo a b σ
 | .FloorDiv=>vw J6 a b σ
 | .Mod=>vw Mi a b σ
 | _=>none
noncomputable def ji (f:V→V→Option Bool):List V→List V→Option Bool
 | [],m=>some m.isEmpty
 | x::xs,m=>match m with
  | []=>some false
  | y::ys=>(f x y).bind fun a=>(ji f xs ys).bind fun b=>some (a&&b)
noncomputable def E4:V→Option Bool
 | .none=>some true
 | .int _=>some false
 | .tup _=>some false
 | _=>none
noncomputable def Hr (x:Int):V→Option Bool
 | .int y=>some (x==y)
 | .none=>some false
 | _=>none
noncomputable def Hs (f:V→V→Option Bool) (l:List V):V→Option Bool
 | .tup m=>ji f l m
 | .none=>some false
 | _=>none
noncomputable def E3:Nat→V→V→Option Bool
 | 0,_,_=>none
 | n+1,a,b=>match a with
  | .none=>E4 b
  | .bool p=>(EO b).bind fun q=>some (p==q)
  | .int x=>Hr x b
  | .str x=>(yj b).bind fun y=>some (x==y)
  | .tup l=>Hs (E3 n) l b
  | _=>none
noncomputable def Jc (a b:V):Option Bool:=E3 6 a b
noncomputable def E5 (a b:List V):Option Bool:=ji Jc a b
noncomputable def DX (σ:ag) (x:List V):V→Option Bool
 | .ref j=>(lst σ j).bind fun y=>if x.length=y.length then (if x.length=0 then some true else E5 x y) else some false
 | .tup _=>some false
 | .none=>some false
 | _=>none
noncomputable def DY (σ:ag) (a b:V):Option Bool:=match qT b with
 | some j=>(lst σ j).bind fun _=>some false
 | none=>Jc a b
noncomputable def CR (σ:ag) (a b:V):Option Bool:=match a with
 | .ref i=>(lst σ i).bind fun x=>DX σ x b
 | .tup l=>DY σ (.tup l) b
 | .none=>DY σ .none b
 | a=>Jc a b
noncomputable def nr (f:Int→Int→Bool) (a b:V):Option Bool:=(mE a).bind fun x=>(mE b).bind fun y=>some (f x y)
noncomputable def Ij (a b:V):Option Bool:=match b with
 | .none=>some (Ju a)
 | _=>none
noncomputable def Eg (a b:V):Option Bool:=match b with
 | .none=>some (!Ju a)
 | .bool q=>(EO a).bind fun p=>some (p != q)
 | _=>none
noncomputable def mK (op:CmpOp) (a b:V) (σ:ag):Option Bool:=match op with
 | .Eq=>CR σ a b
 | .NotEq=>(CR σ a b).bind fun c=>some (!c)
 | .Lt=>nr (fun x y=>decide (x<y)) a b
 | .LtE=>nr (fun x y=>decide (x≤y)) a b
 | .Gt=>nr (fun x y=>decide (y<x)) a b
 | .GtE=>nr (fun x y=>decide (y≤x)) a b
 | .Is=>Ij a b
 | .IsNot=>Eg a b
 | .In=>none
 | .NotIn=>none
noncomputable def zK (l:List V) (i:V):Option V:=(mE i).bind fun k=>if 0≤k then l[k.toNat]? else none
noncomputable def FR (i:V):aZ→Option V
 | .lst l=>zK l i
 | .own=>none
 | .wd _=>none
 | .exn _ _=>none
 | .tab _=>none
noncomputable def iz (a i:V) (σ:ag):Option V:=match a with
 | .tup l=>zK l i
 | .str x=>(mE i).bind fun k=>if 0≤k∧k<4611686018427387904 then (x.cps[k.toNat]?).bind (fun c=>some (.str ⟨#[c]⟩)) else none
 | .ref r=>(σ[r]?).bind (FR i)
 | _=>none
noncomputable def rQ:V→Option Nat
 | .none=>some 0
 | .int k=>if 0≤k∧k<4611686018427387904 then some k.toNat else none
 | _=>none
noncomputable def ot (n:Nat):V→Option Nat
 | .none=>some n
 | .int k=>if 0≤k∧k<4611686018427387904 then some (min n k.toNat) else none
 | _=>none
noncomputable def u8 {α:Type} (l:List α) (lo hi:Nat):List α:=(l.take hi).drop lo
noncomputable def sn (a lo hi:V) (σ:ag):Option (V×ag):=match a with
 | .str x=>(rQ lo).bind fun i=>(ot x.length hi).bind fun j=>F6 σ ⟨(u8 x.cps.toList i j).toArray⟩
 | _=>none
noncomputable def iP (σ:ag):V→Option (List V×List (Nat×aZ))
 | .tup l=>some (l,[])
 | .ro l=>some (l.map .int,[])
 | .ref r=>(lst σ r).bind fun l=>some (l,[(r,.lst l)])
 | _=>none
noncomputable def eh:List V→Option (List Int)
 | []=>some []
 | v::r=>(mE v).bind fun i=>(eh r).bind fun l=>some (i::l)
noncomputable def ii (f:V→Option (V×ag)):List V→Option (V×ag)
 | []=>none
 | a::r=>if r.isEmpty then f a else none
noncomputable def BG (f:V→V→Option (V×ag)):List V→Option (V×ag)
 | []=>none
 | a::r=>ii (f a) r
noncomputable def Al (σ:ag) (f:List Int→Option V) (a:V):Option (V×ag):=(iP σ a).bind fun p=>(eh p.1).bind fun ns=>(f ns).bind fun v=>some (v,σ)
noncomputable def Am (σ:ag) (f:Int→Int→Int) (a b:V):Option (V×ag):=(mE a).bind fun x=>(mE b).bind fun y=>some (.int (f x y),σ)
noncomputable def IB (σ:ag):V→Option (V×ag)
 | .str x=>if x.length≤an then some (.int x.length,σ) else none
 | a=>(iP σ a).bind fun p=>some (.int p.1.length,σ)
inductive ls where
 | none | bool | int | str | tup | lst
noncomputable def vF (σ:ag):V→Option ls
 | .none=>some .none
 | .bool _=>some .bool
 | .int _=>some .int
 | .str _=>some .str
 | .tup _=>some .tup
 | .ref r=>(lst σ r).bind fun _=>some .lst
 | .ro _=>none
noncomputable def ls.isInt:ls→Bool
 | .int=>true
 | .bool=>true
 | _=>false
noncomputable def ls.isBool:ls→Bool
 | .bool=>true
 | _=>false
noncomputable def ls.isTup:ls→Bool
 | .tup=>true
 | _=>false
noncomputable def ls.isStr:ls→Bool
 | .str=>true
 | _=>false
noncomputable def ls.isLst:ls→Bool
 | .lst=>true
 | _=>false
noncomputable def n3 (c d:Nat):Bool:=c==d||d==0||d==3
noncomputable def Hf:aZ→Option (Nat×Nat)
 | .exn c d=>if c==1||c==2 then some (c,d) else none
 | _=>none
noncomputable def vC (σ:ag) (d:Nat) (a:V):Option V:=(qT a).bind fun r=>(σ[r]?).bind fun m=>(Hf m).bind fun p=>some (.bool (n3 p.1 d))
noncomputable def GP (σ:ag) (f:ls→Bool) (a:V):Option (V×ag):=(vF σ a).bind fun k=>some (.bool (f k),σ)
noncomputable def gM (p:ie) (as:List V) (σ:ag):Option (V×ag):=match p with
 | .len=>ii (IB σ) as
 | .sum=>ii (Al σ fun ns=>some (.int (ns.foldl (· + ·) 0))) as
 | .min2=>BG (Am σ min) as
 | .max2=>BG (Am σ max) as
 | .max1=>none
 | .min1=>none
 | .minD=>none
 | .tuple=>ii (fun a=>(qT a).bind fun r=>(lst σ r).bind fun l=>oF σ l) as
 | .list=>ii (fun a=>(DM a).bind fun l=>xi σ l) as
 | .str=>none
 | .int=>ii (fun a=>(EO a).bind fun b=>some (.int (if b then 1 else 0),σ)) as
 | .isInt=>ii (GP σ ls.isInt) as
 | .isBool=>ii (GP σ ls.isBool) as
 | .isTuple=>ii (GP σ ls.isTup) as
 | .isStr=>ii (GP σ ls.isStr) as
 | .isList=>ii (GP σ ls.isLst) as
 | .sorted=>none
noncomputable def vM (σ:ag) (o x:V):Option (V×ag):=(qT o).bind fun r=>(lst σ r).bind fun l=>if l.length≤an then some (.none,σ.set r (.lst (l++[x]))) else none
noncomputable def my (σ:ag) (o x:V):Option (V×ag):=(qT o).bind fun r=>(qT x).bind fun q=>(lst σ r).bind fun l=>(lst σ q).bind fun k=>if l.length+k.length≤an∧r≠q then some (.none,σ.set r (.lst (l++k))) else none
noncomputable def Ek (σ:ag) (o x:V):Option (V×ag):=(yj o).bind fun a=>(yj x).bind fun b=>some (.int (Txt.find a b),σ)
noncomputable def f9 (m:fW) (o:V) (as:List V) (σ:ag):Option (V×ag):=match m with
 | .append=>ii (vM σ o) as
 | .extend=>ii (my σ o) as
 | .find=>ii (Ek σ o) as
 | .get=>none
 | .join=>none
noncomputable def iO (m:fW) (o:V) (σ:ag):Bool:=match m with
 | .append=>((qT o).bind (lst σ)).isSome
 | .extend=>((qT o).bind (lst σ)).isSome
 | .find=>(yj o).isSome
 | .join=>(yj o).isSome
 | .get=>false
noncomputable def IG (σ:ag) (r:Nat) (i v:V):aZ→Option ag
 | .lst l=>(mE i).bind fun k=>if 0≤k∧k.toNat<l.length then some (σ.set r (.lst (l.set k.toNat v))) else none
 | .own=>none
 | .wd _=>none
 | .exn _ _=>none
 | .tab _=>none
noncomputable def lO (o i v:V) (σ:ag):Option ag:=(qT o).bind fun r=>(σ[r]?).bind (IG σ r i v)
noncomputable def tu:V→Option (V×V)
 | .tup l=>match l with
  | [a,b]=>some (a,b)
  | _=>none
 | _=>none
noncomputable def ge.put (t:ge) (x:V) (ρ:aF):Option aF:=match t with
 | .one i=>some (cE ρ i x)
 | .two i j=>(tu x).bind fun p=>some (cE (cE ρ i p.1) j p.2)
noncomputable def cn (σ:ag) (w:List (Nat×aZ)):Prop:=∀ p∈w,σ[p.1]? = some p.2
noncomputable def eZ (a b c:Int):Nat:=(if c > 0 then (if a<b then (b - a - 1) / c+1 else 0) else (if a > b then (a - b - 1) / (-c)+1 else 0)).toNat
noncomputable def bp (a b c:Int):List V:=(List.range (eZ a b c)).map fun (i:Nat)=>.int (a+(i:Int) * c)
noncomputable def dz (a:Int):Bool:=decide (-1000000000≤a)&&decide (a≤1000000000)
noncomputable def bP (i:Nat):List V→List V
 | []=>[]
 | x::xs=>.tup [.int i,x]::bP (i+1) xs
noncomputable def oA:V→Option (List Int)
 | .int k=>some [k]
 | .tup l=>match l with
  | [a,b]=>(mE a).bind fun x=>(mE b).bind fun y=>some [x,y]
  | _=>none
 | _=>none
noncomputable def bJ:List Int→List Int→Bool
 | [],m=>!m.isEmpty
 | a::x,m=>match m with
  | []=>false
  | b::y=>decide (a<b)||(a==b&&bJ x y)
noncomputable abbrev KP:=List Int×Int
noncomputable def jd (p q:KP):Bool:=bJ p.1 q.1||(!bJ q.1 p.1&&decide (p.2<q.2))
noncomputable def wX (p:KP):List KP→List KP
 | []=>[p]
 | q::r=>if jd q p then q::wX p r else p::q::r
noncomputable def dT:List KP→List KP
 | []=>[]
 | p::r=>wX p (dT r)
noncomputable def fc:Int→List Int→Bool
 | _,[]=>true
 | a,b::r=>decide (a<b)&&fc b r
noncomputable def cH:KX→aF→ag→Option V
 | .var i,ρ,_=>ρ i
 | .num i,_,_=>some (.int i)
 | .idx a i,ρ,σ=>(cH a ρ σ).bind fun x=>(cH i ρ σ).bind fun y=>iz x y σ
 | .pair a b,ρ,σ=>(cH a ρ σ).bind fun x=>(cH b ρ σ).bind fun y=>some (.tup [x,y])
noncomputable def lG (k:KX) (i:Nat) (ρ:aF) (σ:ag):List Int→Option (List KP)
 | []=>some []
 | n::r=>(cH k (cE ρ i (.int n)) σ).bind fun v=>(oA v).bind fun l=>(lG k i ρ σ r).bind fun ps=>some ((l,n)::ps)
noncomputable def ft (ps:List KP):Bool:=ps.all fun p=>ps.all fun q=>p.1.length==q.1.length
noncomputable def gN (k:KX) (i:Nat) (ρ:aF) (σ:ag) (xs:List V):Option (V×ag):=(eh xs).bind fun ns=>if fc (-1) ns∧ns.length≤100000 then (lG k i ρ σ ns).bind fun ps=>if ft ps then xi σ ((dT ps).map fun p=>.int p.2) else none else none
noncomputable def KX.ce:KX→CE
 | .var i=>.var i
 | .num i=>.cst (.int i)
 | .idx a i=>.idx a.ce i.ce
 | .pair a b=>.tuple (.cons a.ce (.cons b.ce .nil))
noncomputable def pt (it:gd) (w:List (Nat×aZ)):Bool:=match it with
 | .rng1 _=>true
 | _=>!w.isEmpty
noncomputable def JW:aZ→Option Str
 | .wd w=>some w
 | _=>none
noncomputable def qG (σ:ag) (a:V):Option V:=(qT a).bind fun r=>(σ[r]?).bind fun m=>(Hf m).bind fun p=>(σ[p.2]?).bind fun m'=>(JW m').bind fun w=>some (.str w)
noncomputable abbrev ar:=Nat→List V→ag→Option (s8×ag)
noncomputable abbrev Ex:=Option (b8×aF×ag)
noncomputable def gv (m:Ex) (k:aF→ag→Ex):Ex:=g7 m fun f ρ σ=>match f with
 | .next=>k ρ σ
 | .ret v=>some (.ret v,ρ,σ)
 | .exc c w=>some (.exc c w,ρ,σ)
noncomputable def Jy:s8→Option V
 | .ok v=>some v
 | .exc _ _=>none
noncomputable abbrev XR:=Option (Nat×Str×ag)
noncomputable def rx (σ:ag):s8→XR
 | .ok _=>none
 | .exc c w=>some (c,w,σ)
noncomputable def IA (a b:XR):XR:=match a with
 | some x=>some x
 | none=>b
noncomputable def wn (m:Ex) (x:XR) (ρ:aF):Ex:=match m with
 | some r=>some r
 | none=>x.bind fun p=>some (.exc p.1 p.2.1,ρ,p.2.2)
open Classical in
noncomputable def eV {β:Type} (σ:ag) (w:List (Nat×aZ)) (x:Option β):Option β:=if cn σ w then x else none
noncomputable def dP (body:aF→ag→Ex) (t:ge) (w:List (Nat×aZ)):List V→aF→ag→Ex
 | [],ρ,σ=>eV σ w (some (.next,ρ,σ))
 | x::xs,ρ,σ=>eV σ w ((t.put x ρ).bind fun ρ'=>gv (body ρ' σ) fun bA bB=>dP body t w xs bA bB)
noncomputable def fK (test:aF→ag→Option (Bool×ag)) (body:aF→ag→Ex):Nat→aF→ag→Ex
 | 0,_,_=>none
 | n+1,ρ,σ=>a9 (test ρ σ) fun b af=>if b then gv (body ρ af) (fun bA bB=>fK test body n bA bB) else some (.next,ρ,af)
noncomputable def fP (elt:aF→ag→Option (V×ag)) (cond:aF→ag→Option (Bool×ag)) (t:ge) (w:List (Nat×aZ)):List V→aF→ag→Option (List V×ag)
 | [],_,σ=>eV σ w (some ([],σ))
 | x::xs,ρ,σ=>eV σ w ((t.put x ρ).bind fun ρ'=>a9 (cond ρ' σ) fun b σ₁=>if b then a9 (elt ρ' σ₁) fun v ae=>a9 (fP elt cond t w xs ρ ae) fun l bb=>some (v::l,bb) else fP elt cond t w xs ρ σ₁)
mutual
noncomputable def ab (call:ar):CE→aF→ag→Option (V×ag)
 | .cst v,_,σ=>some (v,σ)
 | .var i,ρ,σ=>(ρ i).bind fun v=>some (v,σ)
 | .bin op a b,ρ,σ=>a9 (ab call a ρ σ) fun x σ₁=>a9 (ab call b ρ σ₁) fun y ae=>jP op x y ae
 | .cmp op a b,ρ,σ=>a9 (ab call a ρ σ) fun x σ₁=>a9 (ab call b ρ σ₁) fun y ae=>(mK op x y ae).bind fun r=>some (.bool r,ae)
 | .not a,ρ,σ=>gf (ab call a ρ σ) fun b σ₁=>some (.bool (!b),σ₁)
 | .neg a,ρ,σ=>kB (ab call a ρ σ) fun i σ₁=>some (.int (-i),σ₁)
 | .and a b,ρ,σ=>gf (ab call a ρ σ) fun p σ₁=>if p then ab call b ρ σ₁ else some (.bool false,σ₁)
 | .or a b,ρ,σ=>gf (ab call a ρ σ) fun p σ₁=>if p then some (.bool true,σ₁) else ab call b ρ σ₁
 | .ite t a b,ρ,σ=>gf (ab call t ρ σ) fun p σ₁=>if p then ab call a ρ σ₁ else ab call b ρ σ₁
 | .list es,ρ,σ=>a9 (aL call es ρ σ) fun vs σ₁=>xi σ₁ vs
 | .tuple es,ρ,σ=>a9 (aL call es ρ σ) fun vs σ₁=>oF σ₁ vs
 | .dict0,_,_=>none
 | .idx a i,ρ,σ=>a9 (ab call a ρ σ) fun x σ₁=>a9 (ab call i ρ σ₁) fun y ae=>(iz x y ae).bind fun r=>some (r,ae)
 | .slc a lo hi,ρ,σ=>a9 (ab call a ρ σ) fun x σ₁=>a9 (ab call lo ρ σ₁) fun y ae=>a9 (ab call hi ρ ae) fun z bb=>sn x y z bb
 | .call f as,ρ,σ=>a9 (aL call as ρ σ) fun vs σ₁=>a9 (call f vs σ₁) fun r ae=>(Jy r).bind fun v=>some (v,ae)
 | .prim p as,ρ,σ=>a9 (aL call as ρ σ) fun vs σ₁=>gM p vs σ₁
 | .meth m o as,ρ,σ=>a9 (ab call o ρ σ) fun x σ₁=>if iO m x σ₁ then a9 (aL call as ρ σ₁) fun vs ae=>f9 m x vs ae else none
 | .comp elt t it gc,ρ,σ=>g7 (cm call it ρ σ) fun xs w σ₁=>a9 (fP (ab call elt) (cY call gc) t w xs ρ σ₁) fun l ae=>xi ae l
 | .sortK it i k,ρ,σ=>g7 (cm call it ρ σ) fun xs w σ₁=>if pt it w then gN k i ρ σ₁ xs else none
 | .word e,ρ,σ=>a9 (ab call e ρ σ) fun x σ₁=>(qG σ₁ x).bind fun v=>some (v,σ₁)
 | .isC c e,ρ,σ=>a9 (ab call e ρ σ) fun x σ₁=>(vC σ₁ c x).bind fun v=>some (v,σ₁)
noncomputable def cY (call:ar):eG→aF→ag→Option (Bool×ag)
 | .nil,_,σ=>some (true,σ)
 | .cons e r,ρ,σ=>gf (ab call e ρ σ) fun b σ₁=>if b then cY call r ρ σ₁ else some (false,σ₁)
noncomputable def aL (call:ar):eG→aF→ag→Option (List V×ag)
 | .nil,_,σ=>some ([],σ)
 | .cons e r,ρ,σ=>a9 (ab call e ρ σ) fun v σ₁=>a9 (aL call r ρ σ₁) fun vs ae=>some (v::vs,ae)
noncomputable def cm (call:ar):gd→aF→ag→Option (List V×List (Nat×aZ)×ag)
 | .ex e,ρ,σ=>a9 (ab call e ρ σ) fun x σ₁=>(iP σ₁ x).bind fun p=>some (p.1,p.2,σ₁)
 | .rng1 a,ρ,σ=>kB (ab call a ρ σ) fun n σ₁=>if dz n then some (bp 0 n 1,[],σ₁) else none
 | .rng2 a b,ρ,σ=>kB (ab call a ρ σ) fun m σ₁=>kB (ab call b ρ σ₁) fun n ae=>if dz m&&dz n then some (bp m n 1,[],ae) else none
 | .enm a,ρ,σ=>a9 (ab call a ρ σ) fun x σ₁=>(DM x).bind fun xs=>some (bP 0 xs,[],σ₁)
end
mutual
noncomputable def b9 (call:ar):CE→aF→ag→XR
 | .call f as,ρ,σ=>a9 (aL call as ρ σ) fun vs σ₁=>a9 (call f vs σ₁) fun r ae=>rx ae r
 | .meth m o as,ρ,σ=>a9 (ab call o ρ σ) fun x σ₁=>if iO m x σ₁ then dn call as ρ σ₁ else none
 | .list es,ρ,σ=>dn call es ρ σ
 | _,_,_=>none
noncomputable def dn (call:ar):eG→aF→ag→XR
 | .nil,_,_=>none
 | .cons e r,ρ,σ=>IA (b9 call e ρ σ) (a9 (ab call e ρ σ) fun _ σ₁=>dn call r ρ σ₁)
end
noncomputable def Cb (call:ar):gd→aF→ag→XR
 | .ex e,ρ,σ=>b9 call e ρ σ
 | _,_,_=>none
noncomputable def handled (m:Ex):Ex:=g7 m fun f ρ σ=>match f with
 | .ret v=>some (.ret v,ρ,σ)
 | _=>none
noncomputable def pJ (k:aF→ag→Ex) (x:Nat) (m:Ex):Ex:=g7 m fun f ρ σ=>match f with
 | .exc c w=>handled (k (cE ρ x (.ref (σ.length+1))) (σ++[.wd w,.exn c σ.length]))
 | .next=>some (.next,ρ,σ)
 | .ret v=>some (.ret v,ρ,σ)
noncomputable def bu (call:ar) (e:CE) (ρ:aF) (σ:ag):Option (Bool×ag):=gf (ab call e ρ σ) fun b σ₁=>some (b,σ₁)
noncomputable def gz:Nat:=100000
mutual
noncomputable def be (call:ar):CS→aF→ag→Ex
 | .assign t e,ρ,σ=>wn (a9 (ab call e ρ σ) fun v σ₁=>(t.put v ρ).bind fun ρ'=>some (.next,ρ',σ₁)) (b9 call e ρ σ) ρ
 | .setItem o i v,ρ,σ=>a9 (ab call v ρ σ) fun x σ₁=>a9 (ab call o ρ σ₁) fun y ae=>a9 (ab call i ρ ae) fun z bb=>(lO y z x bb).bind fun gE=>some (.next,ρ,gE)
 | .expr e,ρ,σ=>wn (a9 (ab call e ρ σ) fun _ σ₁=>some (.next,ρ,σ₁)) (b9 call e ρ σ) ρ
 | .ite c t e,ρ,σ=>gf (ab call c ρ σ) fun b σ₁=>if b then aB call t ρ σ₁ else aB call e ρ σ₁
 | .for_ t it body,ρ,σ=>wn (g7 (cm call it ρ σ) fun xs w σ₁=>dP (aB call body) t w xs ρ σ₁) (Cb call it ρ σ) ρ
 | .while_ c body,ρ,σ=>fK (bu call c) (aB call body) gz ρ σ
 | .ret e,ρ,σ=>wn (a9 (ab call e ρ σ) fun v σ₁=>some (.ret v,ρ,σ₁)) (b9 call e ρ σ) ρ
 | .raise_ c e,ρ,σ=>a9 (ab call e ρ σ) fun v σ₁=>(yj v).bind fun w=>some (.exc c w,ρ,σ₁)
 | .try_ body x h,ρ,σ=>pJ (aB call h) x (aB call body ρ σ)
noncomputable def aB (call:ar):fu→aF→ag→Ex
 | .nil,ρ,σ=>some (.next,ρ,σ)
 | .cons s r,ρ,σ=>gv (be call s ρ σ) (aB call r)
end
section
variable {call:ar} {ρ:aF} {σ:ag} {t:ge} {e o i v c a b:CE} {it:gd} {x y:fu}
theorem dY:be call (.assign t e) ρ σ=wn (a9 (ab call e ρ σ) fun v σ₁=>(t.put v ρ).bind fun ρ'=>some (.next,ρ',σ₁)) (b9 call e ρ σ) ρ:=rfl
theorem mU:be call (.setItem o i v) ρ σ=a9 (ab call v ρ σ) fun x σ₁=>a9 (ab call o ρ σ₁) fun y ae=>a9 (ab call i ρ ae) fun z bb=>(lO y z x bb).bind fun gE=>some (.next,ρ,gE):=rfl
theorem i4:be call (.expr e) ρ σ=wn (a9 (ab call e ρ σ) fun _ σ₁=>some (.next,ρ,σ₁)) (b9 call e ρ σ) ρ:=rfl
theorem Fa:be call (.ite c x y) ρ σ=gf (ab call c ρ σ) fun b σ₁=>if b then aB call x ρ σ₁ else aB call y ρ σ₁:=rfl
theorem mS:be call (.for_ t it x) ρ σ=wn (g7 (cm call it ρ σ) fun xs w σ₁=>dP (aB call x) t w xs ρ σ₁) (Cb call it ρ σ) ρ:=rfl
theorem iu:be call (.ret e) ρ σ=wn (a9 (ab call e ρ σ) fun v σ₁=>some (.ret v,ρ,σ₁)) (b9 call e ρ σ) ρ:=rfl
theorem mT {k:Nat}:be call (.raise_ k e) ρ σ=a9 (ab call e ρ σ) fun v σ₁=>(yj v).bind fun w=>some (.exc k w,ρ,σ₁):=rfl
theorem mV {k:Nat}:be call (.try_ x k y) ρ σ=pJ (aB call y) k (aB call x ρ σ):=rfl
theorem qx:cm call (.ex e) ρ σ=a9 (ab call e ρ σ) fun x σ₁=>(iP σ₁ x).bind fun p=>some (p.1,p.2,σ₁):=rfl
theorem sH:cm call (.enm a) ρ σ=a9 (ab call a ρ σ) fun x σ₁=>(DM x).bind fun xs=>some (bP 0 xs,[],σ₁):=rfl
end
structure aS where
 arity:Nat
 body:fu
noncomputable def cz (as:List V):aF:=fun i=>as[i]?
noncomputable def l7 (m:Ex):Option (s8×ag):=g7 m fun f _ σ=>match f with
 | .next=>some (.ok .none,σ)
 | .ret v=>some (.ok v,σ)
 | .exc c w=>some (.exc c w,σ)
noncomputable def ax (P:List aS):Nat→ar
 | 0=>fun _ _ _=>none
 | d+1=>fun f as σ=>(P[f]?).bind fun fn=>if as.length=fn.arity then l7 (aB (ax P d) fn.body (cz as) σ) else none
theorem gh {α β:Type} {m:Option (α×ag)} {k:α→ag→Option β} {r:β} (h:a9 m k=some r):∃ a σ,m=some (a,σ)∧k a σ=some r:=by
 cases m with
 | none=>cases h
 | some p=>exact ⟨p.1,p.2,rfl,h⟩
theorem oO {α β γ:Type} {m:Option (α×β×ag)} {k:α→β→ag→Option γ} {r:γ} (h:g7 m k=some r):∃ a b σ,m=some (a,b,σ)∧k a b σ=some r:=by
 cases m with
 | none=>cases h
 | some p=>exact ⟨p.1,p.2.1,p.2.2,rfl,h⟩
theorem ob {α β:Type} {m:Option α} {k:α→Option β} {r:β} (h:m.bind k=some r):∃ a,m=some a∧k a=some r:=by
 cases m with
 | none=>cases h
 | some p=>exact ⟨p,rfl,h⟩
theorem no {α:Type} {r:α} {p:Prop} (h:(none:Option α)=some r):p:=nomatch h
theorem sm {α:Type} {a b:α} (h:some a=some b):a=b:=Option.some.inj h
theorem kZ {α β:Type} {a a':α} {b b':β} (h:some (a,b)=some (a',b')):a=a'∧b=b':=⟨congrArg Prod.fst (sm h),congrArg Prod.snd (sm h)⟩
theorem Ez {α β γ:Type} {a a':α} {b b':β} {c c':γ} (h:some (a,b,c)=some (a',b',c')):a=a'∧b=b'∧c=c':=⟨congrArg (fun p=>p.1) (sm h),congrArg (fun p=>p.2.1) (sm h),congrArg (fun p=>p.2.2) (sm h)⟩
theorem yH:∀ {v:V} {i:Int},mE v=some i→v=.int i
 | .none,_,h=>no h
 | .bool _,_,h=>no h
 | .int _,_,h=>congrArg _ (sm h)
 | .str _,_,h=>no h
 | .tup _,_,h=>no h
 | .ref _,_,h=>no h
 | .ro _,_,h=>no h
theorem yG:∀ {v:V} {i:Bool},EO v=some i→v=.bool i
 | .none,_,h=>no h
 | .bool _,_,h=>congrArg _ (sm h)
 | .int _,_,h=>no h
 | .str _,_,h=>no h
 | .tup _,_,h=>no h
 | .ref _,_,h=>no h
 | .ro _,_,h=>no h
theorem yJ:∀ {v:V} {i:List V},DM v=some i→v=.tup i
 | .none,_,h=>no h
 | .bool _,_,h=>no h
 | .int _,_,h=>no h
 | .str _,_,h=>no h
 | .tup _,_,h=>congrArg _ (sm h)
 | .ref _,_,h=>no h
 | .ro _,_,h=>no h
theorem yI:∀ {v:aZ} {i:List V},Mx v=some i→v=.lst i
 | .lst _,_,h=>congrArg _ (sm h)
 | .own,_,h=>no h
 | .wd _,_,h=>no h
 | .exn _ _,_,h=>no h
 | .tab _,_,h=>no h
theorem oP {β:Type} {m:Option (V×ag)} {k:Bool→ag→Option β} {r:β} (h:gf m k=some r):∃ b σ,m=some (.bool b,σ)∧k b σ=some r:=by
 refine fv (gh h) fun v σ h1 h2=>?_
 refine au (ob h2) fun b h3 h4=>?_
 exact ⟨b,σ,yG h3 ▸ h1,h4⟩
theorem wx {β:Type} {m:Option (V×ag)} {k:Int→ag→Option β} {r:β} (h:kB m k=some r):∃ b σ,m=some (.int b,σ)∧k b σ=some r:=by
 refine fv (gh h) fun v σ h1 h2=>?_
 refine au (ob h2) fun b h3 h4=>?_
 exact ⟨b,σ,yH h3 ▸ h1,h4⟩
theorem nB {σ:ag} {r:Nat} {l:List V} (h:lst σ r=some l):σ[r]? = some (.lst l):=by
 refine au (ob h) fun m h1 h2=>?_
 exact yI h2 ▸ h1
theorem dQ {σ:ag} {r:Nat} {l:List V} (h:σ[r]? = some (.lst l)):lst σ r=some l:=by
 unfold lst
 rw [h];rfl
theorem dW {f:V→Option (V×ag)} {as:List V} {r:V×ag} (h:ii f as=some r):∃ a,as=[a]∧f a=some r:=by
 cases as with
 | nil=>cases h
 | cons a t =>
  cases t with
  | nil=>exact ⟨a,rfl,h⟩
  | cons b t=>cases h
theorem wo {f:V→V→Option (V×ag)} {as:List V} {r:V×ag} (h:BG f as=some r):∃ a b,as=[a,b]∧f a b=some r:=by
 cases as with
 | nil=>cases h
 | cons a t =>
  refine au (dW (f:=f a) h) fun b h1 h2=>?_
  exact ⟨a,b,by rw [h1],h2⟩
theorem cJ {α:Type} {c:Prop} [Decidable c] {x:Option α} {r:α} (h:(if c then x else none)=some r):c∧x=some r:=by
 by_cases hc:c
 ·rw [if_pos hc] at h;exact ⟨hc,h⟩
 ·rw [if_neg hc] at h;cases h
theorem lA {β:Type} {σ:ag} {w:List (Nat×aZ)} {x:Option β} {r:β} (h:eV σ w x=some r):cn σ w∧x=some r:=by
 unfold eV at h
 exact @cJ _ _ (_) _ _ h
theorem c8 {β:Type} {σ:ag} {w:List (Nat×aZ)} {x:Option β} (h:cn σ w):eV σ w x=x:=by
 unfold eV
 rw [if_pos h]
theorem fw {m:Ex} {k:aF→ag→Ex} {fl:b8} {ρ':aF} {af:ag} (h:gv m k=some (fl,ρ',af)):(∃ cb σ₁,m=some (.next,cb,σ₁)∧k cb σ₁=some (fl,ρ',af))∨(m=some (fl,ρ',af)∧fl≠.next):=by
 refine jH (oO h) fun f ρ σ h1 h2=>?_
 cases f with
 | next=>exact .inl ⟨ρ,σ,h1,h2⟩
 | ret v =>
  refine iY (Ez h2) fun e1 e2 e3=>?_
  exact .inr ⟨by rw [h1,e1,e2,e3],fun e=>nomatch (e1.trans e)⟩
 | exc c w =>
  refine iY (Ez h2) fun e1 e2 e3=>?_
  exact .inr ⟨by rw [h1,e1,e2,e3],fun e=>nomatch (e1.trans e)⟩
theorem qU {m:aZ} {p:Nat×Nat} (h:Hf m=some p):m=.exn p.1 p.2∧(p.1=1∨p.1=2):=by
 cases m with
 | exn c d =>
  refine aJ (cJ h) fun h1 h2=>?_
  have h2:=Option.some.inj h2
  apply fQ h2
  exact ⟨rfl,by simpa using h1⟩
 | _=>exact no h
theorem yK {m:aZ} {w:Str} (h:JW m=some w):m=.wd w:=by
 cases m with
 | wd u=>exact congrArg _ (Option.some.inj h)
 | _=>exact no h
theorem dJ {m:Ex} {x:XR} {ρ ρ':aF} {fl:b8} {af:ag} (h:wn m x ρ=some (fl,ρ',af)):m=some (fl,ρ',af)∨∃ c w,fl=.exc c w∧ρ'=ρ∧x=some (c,w,af):=by
 cases m with
 | some r=>exact .inl h
 | none =>
  refine au (ob (m:=x) h) fun k1 h1 h2=>?_;obtain ⟨c,w,σ₁⟩:=k1
  refine iY (Ez h2) fun q1 q2 q3=>?_;apply fQ q1;apply fQ q2;apply fQ q3
  exact .inr ⟨c,w,rfl,rfl,h1⟩
theorem gH {m:Ex} {x:XR} {ρ:aF} {r:b8×aF×ag} (h:m=some r):wn m x ρ=some r:=by rw [h];rfl
theorem pD {m:Ex} {x:XR} {ρ:aF} {c:Nat} {w:Str} {σ:ag} (h:m=none) (hx:x=some (c,w,σ)):wn m x ρ=some (.exc c w,ρ,σ):=by rw [h,hx];rfl
theorem nO {a b:XR} {r:Nat×Str×ag} (h:IA a b=some r):a=some r∨(a=none∧b=some r):=by
 cases a with
 | some x=>exact .inl h
 | none=>exact .inr ⟨rfl,h⟩
theorem o3 {σ af:ag} {r:s8} {c:Nat} {w:Str} (h:rx σ r=some (c,w,af)):r=.exc c w∧af=σ:=by
 cases r with
 | ok v=>exact no h
 | exc c' w' =>
  refine iY (Ez h) fun q1 q2 q3=>?_;apply aO q1;apply aO q2;apply aO q3
  exact ⟨rfl,rfl⟩
theorem ip {call:ar} {ρ:aF} {σ:ag}:∀ {k:KX} {v:V},cH k ρ σ=some v→ab call k.ce ρ σ=some (v,σ)
 | .var i,v,h=>by
  show (ρ i).bind (fun v=>some (v,σ))=_
  rw [show ρ i=some v from h];rfl
 | .num i,v,h=>by rw [←sm h];rfl
 | .idx a i,v,h=>by
  refine au (ob h) fun x h1 h=>?_
  refine au (ob h) fun y h2 h=>?_
  show a9 (ab call a.ce ρ σ) (fun x σ₁=>a9 (ab call i.ce ρ σ₁) fun y ae=>(iz x y ae).bind fun r=>some (r,ae))=_
  rw [ip h1]
  show a9 (ab call i.ce ρ σ) (fun y ae=>(iz x y ae).bind fun r=>some (r,ae))=_
  rw [ip h2]
  show (iz x y σ).bind (fun r=>some (r,σ))=_
  rw [h];rfl
 | .pair a b,v,h=>by
  refine au (ob h) fun x h1 h=>?_
  refine au (ob h) fun y h2 h=>?_
  rw [←sm h]
  show a9 (a9 (ab call a.ce ρ σ) (fun v σ₁=>a9 (a9 (ab call b.ce ρ σ₁) fun w ae=>a9 (some ([],ae)) fun vs bb=>some (w::vs,bb)) fun vs ae=>some (v::vs,ae))) (fun vs σ₁=>oF σ₁ vs)=_
  rw [ip h1]
  show a9 (a9 (a9 (ab call b.ce ρ σ) fun w ae=>a9 (some ([],ae)) fun vs bb=>some (w::vs,bb)) fun vs ae=>some (x::vs,ae)) (fun vs σ₁=>oF σ₁ vs)=_
  rw [ip h2]
  rfl
theorem cD {call:ar} {e:CE} {ρ:aF} {σ af:ag} {b:Bool} (h:bu call e ρ σ=some (b,af)):ab call e ρ σ=some (.bool b,af):=by
 refine fv (oP h) fun c σ₁ h1 h2=>?_
 refine aJ (kZ h2) fun e1 e2=>?_
 rw [h1,e1,e2]
theorem aR {call:ar} {e:CE} {ρ:aF} {σ af:ag} {b:Bool} (h:ab call e ρ σ=some (.bool b,af)):bu call e ρ σ=some (b,af):=by
 unfold bu
 rw [h];rfl
theorem aK {α β:Type} {m:Option α} {k:α→Option β} {r:β} {C:Prop} (h:m.bind k=some r) (c:∀ a,m=some a→k a=some r→C):C:=(ob h).elim fun a q=>c a q.1 q.2
theorem vU {α γ β:Type} {m:Option (α×γ)} {k:α×γ→Option β} {r:β} {C:Prop} (h:m.bind k=some r) (c:∀ a b,m=some (a,b)→k (a,b)=some r→C):C:=(ob h).elim fun a q=>c a.1 a.2 q.1 q.2
theorem bo {α β:Type} {m:Option (α×ag)} {k:α→ag→Option β} {r:β} {C:Prop} (h:a9 m k=some r) (c:∀ a σ,m=some (a,σ)→k a σ=some r→C):C:=(gh h).elim fun a q=>q.elim fun σ q=>c a σ q.1 q.2
theorem il {α β γ:Type} {m:Option (α×β×ag)} {k:α→β→ag→Option γ} {r:γ} {C:Prop} (h:g7 m k=some r) (c:∀ a b σ,m=some (a,b,σ)→k a b σ=some r→C):C:=(oO h).elim fun a q=>q.elim fun b q=>q.elim fun σ q=>c a b σ q.1 q.2
theorem gT {β:Type} {m:Option (V×ag)} {k:Bool→ag→Option β} {r:β} {C:Prop} (h:gf m k=some r) (c:∀ b σ,m=some (.bool b,σ)→k b σ=some r→C):C:=(oP h).elim fun a q=>q.elim fun σ q=>c a σ q.1 q.2
theorem qW {β:Type} {m:Option (V×ag)} {k:Int→ag→Option β} {r:β} {C:Prop} (h:kB m k=some r) (c:∀ b σ,m=some (.int b,σ)→k b σ=some r→C):C:=(wx h).elim fun a q=>q.elim fun σ q=>c a σ q.1 q.2
theorem dv {α:Type} {c:Prop} [Decidable c] {x:Option α} {r:α} {C:Prop} (h:(if c then x else none)=some r) (k:c→x=some r→C):C:=k (cJ h).1 (cJ h).2
theorem db {α:Type} {a b:α} {C:α→Prop} (h:some a=some b) (k:C a):C b:=sm h ▸ k
theorem dx {α β:Type} {a a':α} {b b':β} {C:α→β→Prop} (h:some (a,b)=some (a',b')) (k:C a b):C a' b':=db (C:=fun p=>C p.1 p.2) h k
theorem dS {α β γ:Type} {a a':α} {b b':β} {c c':γ} {C:α→β→γ→Prop} (h:some (a,b,c)=some (a',b',c')) (k:C a b c):C a' b' c':=db (C:=fun p=>C p.1 p.2.1 p.2.2) h k
theorem jz {β:Type} {σ:ag} {w:List (Nat×aZ)} {x:Option β} {r:β} {C:Prop} (h:eV σ w x=some r) (c:cn σ w→x=some r→C):C:=c (lA h).1 (lA h).2
structure cp where
 funs:List Str
 consts:List (Str×Int)
 classes:List (Str×Nat)
 calm:List Nat
noncomputable def gt (scope bi:Scope):Scope :=
 {scope with names:=scope.names.map fun (n,k)=>if (k==.free&&bi.kind==.function&&bi.names.lookup n==some .cell) then (n,.cell) else (n,k)}
noncomputable def eK (sc:Scope):Bool:=sc.names.all fun x=>x.2 != .free&&x.1 != (".0" : Str)
noncomputable def zL:NameKind→Bool
 | .local=>true
 | .cell=>true
 | .free=>true
 | _=>false
noncomputable def rc (cx:cp) (sc:Scope) (nm:List (Str×Nat)) (x:Str):Option CE :=
 if x==("__debug__" : Str)||x==("__classdict__" : Str) then none else
 (sc.names.lookup x).bind fun k=>if zL k then (nm.lookup x).bind fun i=>some (.var i) else if k==.globalImplicit then (cx.consts.lookup x).bind fun i=>some (.cst (.int i)) else none
noncomputable def lj {α:Type}:List α→Option α
 | []=>none
 | a::r=>if r.isEmpty then some a else none
noncomputable def two {α:Type}:List α→Option (α×α)
 | []=>none
 | a::r=>(lj r).bind fun b=>some (a,b)
theorem b7 {α:Type} {l:List α} {a:α} (h:lj l=some a):l=[a]:=by
 cases l with
 | nil=>cases h
 | cons b t =>
  cases t with
  | nil=>cases h;rfl
  | cons c t=>cases h
theorem iS {α:Type} {l:List α} {p:α×α} (h:two l=some p):l=[p.1,p.2]:=by
 cases l with
 | nil=>cases h
 | cons b t =>
  refine aK (α:=α) h fun c h1 h2=>?_
  cases h2
  rw [b7 h1]
noncomputable def bN:Expr→Option Str
 | .Name x _=>some x
 | _=>none
theorem bd {e:Expr} {x:Str} (h:bN e=some x):∃ p,e=.Name x p:=by
 cases e <;> first | exact no h | skip
 cases h
 exact ⟨_,rfl⟩
noncomputable def bV (f:Expr→Option CE):List Expr→Option eG
 | []=>some .nil
 | e::r=>(f e).bind fun c=>(bV f r).bind fun cs=>some (.cons c cs)
noncomputable def J1 (op:BoolOp) (a b:CE):CE:=match op with
 | .And=>.and a b
 | .Or=>.or a b
noncomputable def qY (f:Expr→Option CE) (op:BoolOp):List Expr→Option CE
 | []=>none
 | e::r=>if r.isEmpty then f e else (f e).bind fun a=>(qY f op r).bind fun b=>some (J1 op a b)
noncomputable def ty:Const→Option V
 | .none=>some .none
 | .bool b=>some (.bool b)
 | .int i=>some (.int i)
 | .str s=>some (.str s)
 | _=>none
noncomputable def yT (f:Expr→Option CE):Option Expr→Option CE
 | none=>some (.cst .none)
 | some e=>f e
noncomputable def aX (sc:Scope) (x:Str):Bool:=sc.names.lookup x==some .globalImplicit && !(x==("__debug__" : Str))
noncomputable def dE:List Str:=["len", "sum", "min", "max", "tuple", "list", "str", "int", "isinstance", "sorted", "range", "zip", "enumerate", "bool", "ValueError"]
noncomputable def v8 {α:Type} (t:List (Str×Nat×α)) (x:Str) (n:Nat):Option α:=(t.find? fun q=>q.1==x&&q.2.1==n).bind fun q=>some q.2.2
theorem jG {α:Type} {t:List (Str×Nat×α)} {x:Str} {n:Nat} {a:α} (h:v8 t x n=some a):(x,n,a)∈t:=by
 refine aK h fun q h1 h2=>?_
 apply db h2
 have h3:=List.find?_some h1
 simp only [Bool.and_eq_true,beq_iff_eq] at h3
 refine aJ h3 fun q1 q2=>?_;apply fQ q1;apply fQ q2
 exact List.mem_of_find?_eq_some h1
noncomputable def vY:List (Str×Nat×ie):=[("len", 1,.len),("sum", 1,.sum),("min", 2,.min2),("max", 2,.max2),("min", 1,.min1),("max", 1,.max1),("tuple", 1,.tuple),("list", 1,.list),("str", 1,.str),("int", 1,.int),("sorted", 1,.sorted)]
noncomputable def yU (x:Str) (n:Nat):Option ie:=v8 vY x n
noncomputable def zM:List (Str×Nat×ie):=[("int", 0,.isInt),("bool", 0,.isBool),("tuple", 0,.isTuple),("str", 0,.isStr),("list", 0,.isList)]
noncomputable def EV (x:Str):Option ie:=v8 zM x 0
noncomputable def vN:List (Str×Nat×fW):=[("append", 1,.append),("extend", 1,.extend),("find", 1,.find),("get", 2,.get),("join", 1,.join)]
noncomputable def u3 (x:Str) (n:Nat):Option fW:=v8 vN x n
noncomputable def dZ (cx:cp) (x:Str):Option Nat:=cx.funs.findIdx? (· == x)
noncomputable def n4 (sc:Scope) (nm:List (Str×Nat)) (x:Str):Option Nat:=if sc.names.lookup x==some .local||sc.names.lookup x==some .cell then nm.lookup x else none
noncomputable def DN:Expr→Option (List Expr)
 | .Tuple l _ _=>some l
 | _=>none
theorem mG {e:Expr} {l:List Expr} (h:DN e=some l):∃ k p,e=.Tuple l k p:=by
 cases e <;> first | exact no h | skip
 cases h
 exact ⟨_,_,rfl⟩
noncomputable def eI (sc:Scope) (nm:List (Str×Nat)) (e:Expr):Option ge:=match bN e with
 | some x=>(n4 sc nm x).bind fun i=>some (.one i)
 | none=>(DN e).bind fun l=>(two l).bind fun p=>(bN p.1).bind fun x=>(bN p.2).bind fun y=>if x==y then none else (n4 sc nm x).bind fun i=>(n4 sc nm y).bind fun j=>some (.two i j)
noncomputable def aH:Expr→List Str
 | .Name x _=>[x]
 | .Tuple l _ _=>l.filterMap bN
 | _=>[]
noncomputable def un:Expr→Bool
 | .Name _ _=>true
 | .Constant _ _ _=>true
 | .Subscript _ _ _=>true
 | _=>false
noncomputable def lF:gd→Bool
 | .enm _=>true
 | _=>false
noncomputable def ge.isTwo:ge→Bool
 | .one _=>false
 | .two _ _=>true
noncomputable def jW (it:gd) (t:ge):Bool:=!lF it||t.isTwo
noncomputable def bO (scope:Scope) (nm:List (Str×Nat)) (nx:Nat) (ts:List Str):List (Str×Nat) :=
 ts.zipIdx nx++(scope.names.filterMap fun (n,k)=>if k==.free then (nm.lookup n).map fun i=>(n,i) else none)
noncomputable def pL (scope bi:Scope) (nm:List (Str×Nat)) (nx:Nat) (ts:List Str):Bool :=
 scope.kind==.function &&
 scope.names.all (fun (_,k)=>k==.local||k==.cell||k==.free||k==.globalImplicit) &&
 scope.names.all (fun (n,k)=>scope.names.lookup n==some k) &&
 scope.names.all (fun (n,k)=>k != .free||((bi.names.lookup n==some .cell||bi.names.lookup n==some .free)&&(nm.lookup n).isSome)) &&
 scope.names.all (fun (n,k)=>!(k==.local||k==.cell)||n==(".0" : Str)||ts.contains n) &&
 ts.all (fun t=>scope.names.lookup t==some .local||scope.names.lookup t==some .cell) &&
 nm.all (fun (_,i)=>decide (i<nx)) &&
 !eK (gt scope bi)
noncomputable def MA (op:UnaryOp) (a:CE):Option CE:=match op with
 | .Not=>some (.not a)
 | .USub=>some (.neg a)
 | _=>none
noncomputable def Hj (f:Expr→Option CE) (l:Expr) (ops:List CmpOp) (rs:List Expr):Option CE:=(lj ops).bind fun op=>(lj rs).bind fun r=>if behindInMarks op r then none else (f l).bind fun a=>(f r).bind fun b=>some (.cmp op a b)
noncomputable def Hm (f:Expr→Option CE) (v i:Expr):Option CE:=(f v).bind fun a=>match i with
 | .Slice lo hi st _=>if st.isNone then (yT f lo).bind fun x=>(yT f hi).bind fun y=>some (.slc a x y) else none
 | i=>(f i).bind fun x=>some (.idx a x)
noncomputable def DO (f:Expr→Option CE) (sc:Scope) (as:List Expr):Option CE:=(two as).bind fun p=>(bN p.2).bind fun t=>if aX sc t then (EV t).bind fun q=>(f p.1).bind fun a=>some (.prim q (.cons a .nil)) else none
noncomputable def fC:List (Str×Nat):=[("LarderError", 0),("TooMuch", 1),("Short", 2),("ValueError", 3)]
noncomputable def DR (as:List Expr):Option Nat:=(two as).bind fun p=>(bN p.2).bind fun t=>fC.lookup t
noncomputable def EU (f:Expr→Option CE) (sc:Scope) (as:List Expr):Option CE:=(two as).bind fun p=>(bN p.2).bind fun t=>if aX sc t then (fC.lookup t).bind fun c=>(f p.1).bind fun a=>some (.isC c a) else none
noncomputable def mI (f:Expr→Option CE) (cx:cp) (sc:Scope) (g:Str) (as:List Expr):Option CE:=match dZ cx g with
 | some k=>if as.isEmpty then none else (bV f as).bind fun cs=>some (.call k cs)
 | none=>if g==("isinstance" : Str) then (if (DR as).isSome then EU f sc as else DO f sc as) else (yU g as.length).bind fun p=>(bV f as).bind fun cs=>some (.prim p cs)
noncomputable def dD (p:Arguments):Bool:=p.posonlyargs.isEmpty&&p.vararg.isNone&&p.kwonlyargs.isEmpty&&p.kw_defaults.isEmpty&&p.kwarg.isNone&&p.defaults.isEmpty
noncomputable def Eh:Expr→Option (Arg×Expr×Scope)
 | .Lambda ps body scope _=>if dD ps then (lj ps.args).bind fun a=>some (a,body,scope) else none
 | _=>none
theorem ub {e:Expr} {a:Arg} {body:Expr} {scope:Scope} (h:Eh e=some (a,body,scope)):∃ ps pos,e=.Lambda ps body scope pos∧dD ps=true∧ps.args=[a]:=by
 cases e <;> first | exact no h | skip
 refine dv h fun h1 h2=>?_
 refine aK h2 fun b h3 h4=>?_
 cases h4
 exact ⟨_,_,rfl,h1,b7 h3⟩
noncomputable def zV (scope bi:Scope) (nm:List (Str×Nat)) (nx:Nat) (x:Str):Bool :=
 scope.kind==.function && !scope.isGenerator && !scope.isCoroutine &&
 scope.names.all (fun (_,k)=>k==.local||k==.free||k==.globalImplicit) &&
 scope.names.all (fun (n,k)=>scope.names.lookup n==some k) &&
 scope.names.all (fun (n,k)=>k != .free||((bi.names.lookup n==some .cell||bi.names.lookup n==some .free)&&(nm.lookup n).isSome)) &&
 scope.names.lookup x==some .local &&
 nm.all (fun (_,i)=>decide (i<nx)) &&
 !eK scope
noncomputable def Hd:Const→Option Int
 | .int i=>some i
 | _=>none
noncomputable def He:CE→Option Nat
 | .var i=>some i
 | _=>none
noncomputable def yk (cx:cp) (sc:Scope) (nm:List (Str×Nat)):Nat→Expr→Option KX
 | 0,_=>none
 | n+1,e=>match e with
  | .Name x _=>(rc cx sc nm x).bind fun c=>(He c).bind fun i=>some (.var i)
  | .Constant c _ _=>(Hd c).bind fun i=>some (.num i)
  | .Subscript v i _=>(yk cx sc nm n v).bind fun a=>(yk cx sc nm n i).bind fun b=>some (.idx a b)
  | .Tuple es _ _=>(two es).bind fun p=>(yk cx sc nm n p.1).bind fun a=>(yk cx sc nm n p.2).bind fun b=>some (.pair a b)
  | _=>none
noncomputable def Ik:gd→Bool
 | .ex _=>true
 | .rng1 _=>true
 | _=>false
noncomputable def I8 (fI:Expr→Option gd) (cx:cp) (sc:Scope) (nm:List (Str×Nat)) (nx:Nat) (as:List Expr) (k:Keyword):Option CE :=
 (lj as).bind fun x=>(Eh k.value).bind fun q=>if k.arg==some ("key" : Str)&&eK sc&&zV q.2.2 sc nm nx q.1.arg then
  (fI x).bind fun it=>if Ik it then (yk cx q.2.2 (bO q.2.2 nm nx [q.1.arg]) 50 q.2.1).bind fun kx=>some (.sortK it nx kx) else none else none
noncomputable def yR (f:Expr→Option CE) (sk:List Expr→Keyword→Option CE) (cx:cp) (sc:Scope) (fn:Expr) (as:List Expr) (ks:List Keyword) (pos:Pos):Option CE:=match fn with
 | .Name g _=>if aX sc g then (match ks with
  | []=>mI f cx sc g as
  | k::ks=>if ks.isEmpty then (if g==("sorted" : Str) then sk as k else none) else none) else none
 | .Attribute o m ap=>if ks.isEmpty&&un o&&ap.endLine==pos.line then (u3 m as.length).bind fun p=>(f o).bind fun a=>(bV f as).bind fun cs=>some (.meth p a cs) else none
 | _=>none
noncomputable def My (F:Scope→List (Str×Nat)→Nat→Expr→Option CE) (fI:Expr→Option gd) (sc:Scope) (nm:List (Str×Nat)) (nx:Nat) (elt:Expr) (oq:List Comprehension) (scope:Scope):Option CE :=
 (lj oq).bind fun gn=>if gn.is_async==0&&pL scope sc nm nx (aH gn.target) then
  (fI gn.iter).bind fun it=>(eI (gt scope sc) (bO scope nm nx (aH gn.target)) gn.target).bind fun t =>
  (bV (F (gt scope sc) (bO scope nm nx (aH gn.target)) (nx+2)) gn.ifs).bind fun cs=>(F (gt scope sc) (bO scope nm nx (aH gn.target)) (nx+2) elt).bind fun c =>
  if jW it t then some (.comp c t it cs) else none
 else none
noncomputable def gi:Expr→Option (Str×List Expr)
 | .Call fn as ks _=>if ks.isEmpty then (bN fn).bind fun g=>some (g,as) else none
 | _=>none
theorem jg {e:Expr} {g:Str} {as:List Expr} (h:gi e=some (g,as)):∃ p q,e=.Call (.Name g p) as [] q:=by
 cases e <;> first | exact no h | skip
 refine dv h fun h1 h2=>?_
 refine aK h2 fun x h3 h4=>?_
 cases h4
 refine Exists.elim (bd h3) fun p q2=>?_;apply aO q2
 rw [List.isEmpty_iff.mp h1]
 exact ⟨_,_,rfl⟩
noncomputable def yW (f:Expr→Option CE):List Expr→Option gd
 | []=>none
 | a::r=>(f a).bind fun x=>match r with
  | []=>some (.rng1 x)
  | b::r=>(f b).bind fun y=>match r with
   | []=>some (.rng2 x y)
   | _::_=>none
noncomputable def qZ (f:Expr→Option CE) (e:Expr):Option gd:=(f e).bind fun c=>some (.ex c)
noncomputable def wA (f:Expr→Option CE) (g:Str) (as:List Expr) (e:Expr):Option gd :=
 if g==("range" : Str) then yW f as
 else if g==("enumerate" : Str) then (lj as).bind fun a=>(f a).bind fun x=>some (.enm x)
 else qZ f e
noncomputable def wz (f:Expr→Option CE) (cx:cp) (sc:Scope) (e:Expr):Option gd:=match gi e with
 | some p=>if aX sc p.1&&(dZ cx p.1).isNone then wA f p.1 p.2 e else qZ f e
 | none=>qZ f e
noncomputable def tz (F:Scope→List (Str×Nat)→Nat→Expr→Option CE) (fI:Expr→Option gd) (cx:cp) (sc:Scope) (nm:List (Str×Nat)) (nx:Nat):Expr→Option CE
 | .Constant c _ _=>(ty c).bind fun v=>some (.cst v)
 | .Name x _=>rc cx sc nm x
 | .BinOp l op r _=>(F sc nm nx l).bind fun a=>(F sc nm nx r).bind fun b=>some (.bin op a b)
 | .UnaryOp op x _=>(F sc nm nx x).bind (MA op)
 | .BoolOp op vs _=>qY (F sc nm nx) op vs
 | .IfExp t a b _=>(F sc nm nx t).bind fun x=>(F sc nm nx a).bind fun y=>(F sc nm nx b).bind fun z=>some (.ite x y z)
 | .Compare l ops rs _=>Hj (F sc nm nx) l ops rs
 | .List es _=>(bV (F sc nm nx) es).bind fun cs=>some (.list cs)
 | .Tuple es _ _=>(bV (F sc nm nx) es).bind fun cs=>some (.tuple cs)
 | .Dict ks vs _=>if ks.isEmpty&&vs.isEmpty then some .dict0 else none
 | .Subscript v i _=>Hm (F sc nm nx) v i
 | .Call fn as ks pos=>yR (F sc nm nx) (I8 fI cx sc nm nx) cx sc fn as ks pos
 | .ListComp elt oq scope _=>My F fI sc nm nx elt oq scope
 | .Attribute o a _=>if a==("word" : Str)&&(bN o).isSome then (F sc nm nx o).bind fun c=>some (.word c) else none
 | _=>none
noncomputable def bI (cx:cp):Nat→Scope→List (Str×Nat)→Nat→Expr→Option CE
 | 0,_,_,_,_=>none
 | n+1,sc,nm,nx,e=>tz (bI cx n) (fun i=>wz (bI cx n sc nm nx) cx sc i) cx sc nm nx e
noncomputable def q7 (cx:cp) (n:Nat) (sc:Scope) (nm:List (Str×Nat)) (nx:Nat) (e:Expr):Option gd:=wz (bI cx n sc nm nx) cx sc e
noncomputable def Mz (Q:Expr→Option CE) (cx:cp) (sc:Scope) (nm:List (Str×Nat)):Expr→Option CE
 | .Constant c _ _=>(ty c).bind fun v=>some (.cst v)
 | .Name x _=>rc cx sc nm x
 | .UnaryOp op x _=>(Q x).bind (MA op)
 | .BoolOp op vs _=>qY Q op vs
 | .List es _=>(bV Q es).bind fun cs=>some (.list cs)
 | .Attribute o a _=>if a==("word" : Str)&&(bN o).isSome then (Q o).bind fun c=>some (.word c) else none
 | .Call fn as ks _=>(bN fn).bind fun g=>if ks.isEmpty&&aX sc g then (match dZ cx g with
  | some k=>if as.isEmpty || !cx.calm.contains k then none else (bV Q as).bind fun cs=>some (.call k cs)
  | none=>if g==("isinstance" : Str) then EU Q sc as else none) else none
 | _=>none
noncomputable def cQ (cx:cp) (sc:Scope) (nm:List (Str×Nat)):Nat→Expr→Option CE
 | 0,_=>none
 | n+1,e=>Mz (cQ cx sc nm n) cx sc nm e
noncomputable def Hl (f:Expr→Option CE) (B:List Stmt→Option fu):Stmt→Option CS
 | .If t a b _=>(f t).bind fun x=>(B a).bind fun y=>(B b).bind fun z=>some (.ite x y z)
 | .Return v _=>v.bind fun e=>(f e).bind fun c=>some (.ret c)
 | _=>none
noncomputable def cN (S:Stmt→Option CS):List Stmt→Option fu
 | []=>some .nil
 | s::r=>(S s).bind fun a=>(cN S r).bind fun b=>some (.cons a b)
noncomputable def Bj (cx:cp) (sc:Scope) (nm:List (Str×Nat)):Nat→Stmt→Option CS
 | 0,_=>none
 | n+1,s=>Hl (cQ cx sc nm n) (cN (Bj cx sc nm n)) s
noncomputable def vZ:Option Expr→Option (Str×Expr)
 | some (.Call fn as ks _)=>if ks.isEmpty then (bN fn).bind fun x=>(lj as).bind fun e=>some (x,e) else none
 | _=>none
theorem qo {o:Option Expr} {x:Str} {e:Expr} (h:vZ o=some (x,e)):∃ p q,o=some (.Call (.Name x p) [e] [] q):=by
 cases o with
 | none=>exact no h
 | some c =>
  cases c <;> first | exact no h | skip
  refine dv h fun h1 h2=>?_
  refine aK h2 fun y h3 h4=>?_
  refine aK h4 fun z h5 h6=>?_
  cases h6
  refine Exists.elim (bd h3) fun p q2=>?_;apply aO q2
  rw [List.isEmpty_iff.mp h1,b7 h5]
  exact ⟨_,_,rfl⟩
noncomputable def IE:Stmt→Option Expr
 | .Return v _=>v
 | _=>none
theorem xp {st:Stmt} {e:Expr} (h:IE st=some e):∃ p,st=.Return (some e) p:=by
 cases st with
 | Return v p=>exact ⟨p,congrArg (Stmt.Return · p) h⟩
 | _=>exact no h
noncomputable def zq:List ExceptHandler→Option (Str×Str×List Stmt)
 | []=>none
 | h::r=>if r.isEmpty then (match h with
  | .ExceptHandler t n b _=>t.bind fun t=>(bN t).bind fun x=>n.bind fun n=>some (x,n,b)) else none
theorem rD {l:List ExceptHandler} {x n:Str} {b:List Stmt} (h:zq l=some (x,n,b)):∃ p q,l=[.ExceptHandler (some (.Name x p)) (some n) b q]:=by
 cases l with
 | nil=>exact no h
 | cons a r =>
  refine dv h fun h1 h2=>?_
  obtain ⟨t,m,c,q⟩:=a
  refine aK h2 fun t' h3 h4=>?_
  refine aK h4 fun y h5 h6=>?_
  refine aK h6 fun m' h7 h8=>?_
  cases h8
  refine Exists.elim (bd h5) fun p q2=>?_;subst q2
  obtain rfl:=h3
  obtain rfl:=h7
  rw [List.isEmpty_iff.mp h1]
  exact ⟨_,_,rfl⟩
noncomputable def t6:Expr→Bool
 | .Tuple _ _ _=>true
 | _=>false
noncomputable def J0 (f:Expr→Option CE) (sc:Scope) (nm:List (Str×Nat)) (t v:Expr):Option CS:=match t with
 | .Name x p=>(eI sc nm (.Name x p)).bind fun t=>(f v).bind fun a=>some (.assign t a)
 | .Tuple ts k p=>if t6 v then none else (eI sc nm (.Tuple ts k p)).bind fun t=>(f v).bind fun a=>some (.assign t a)
 | .Subscript o i _=>(f o).bind fun a=>(f i).bind fun b=>(f v).bind fun c=>some (.setItem a b c)
 | _=>none
noncomputable def fW.isStep:fW→Bool
 | .append=>true
 | .extend=>true
 | _=>false
noncomputable def DP (c:CE):Option CS:=match c with
 | .meth m o as=>if m.isStep then some (.expr (.meth m o as)) else none
 | _=>none
noncomputable def J2 (f:Expr→Option CE) (e:Expr):Option CS:=match e with
 | .Call fn as ks p=>(f (.Call fn as ks p)).bind DP
 | _=>none
noncomputable def yY (f:Expr→Option CE) (fI:Expr→Option gd) (B H:List Stmt→Option fu) (sc:Scope) (nm:List (Str×Nat)):Stmt→Option CS
 | .Assign ts v _=>(lj ts).bind fun t=>J0 f sc nm t v
 | .Expr e _=>J2 f e
 | .If t a b _=>(f t).bind fun x=>(B a).bind fun y=>(B b).bind fun z=>some (.ite x y z)
 | .For t it body iJ _=>if iJ.isEmpty then (eI sc nm t).bind fun x=>(fI it).bind fun y=>(B body).bind fun z=>if jW y x then some (.for_ x y z) else none else none
 | .While t body iJ _=>if iJ.isEmpty then (f t).bind fun x=>(B body).bind fun z=>some (.while_ x z) else none
 | .Return v _=>v.bind fun e=>(f e).bind fun c=>some (.ret c)
 | .Raise exc DQ _=>if DQ.isNone then (vZ exc).bind fun p=>if aX sc p.1 then (fC.lookup p.1).bind fun c=>if c==1||c==2 then (f p.2).bind fun a=>some (.raise_ c a) else none else none else none
 | .Try body hs iJ l7 _=>if iJ.isEmpty&&l7.isEmpty then (zq hs).bind fun q=>if aX sc q.1&&q.1==("LarderError" : Str) && !q.2.2.isEmpty&&(sc.names.lookup q.2.1==some .local) then (n4 sc nm q.2.1).bind fun i=>(lj body).bind fun st=>(IE st).bind fun e=>(f e).bind fun a=>(H q.2.2).bind fun y=>some (.try_ (.cons (.ret a) .nil) i y) else none else none
 | _=>none
noncomputable def oQ (cx:cp) (sc:Scope) (nm:List (Str×Nat)) (nx:Nat):Nat→Stmt→Option CS
 | 0,_=>none
 | n+1,s=>yY (bI cx n sc nm nx) (q7 cx n sc nm nx) (cN (oQ cx sc nm nx n)) (cN (Bj cx sc nm n)) sc nm s
noncomputable def cP (sc:Scope):List (Str×Nat):=((sc.names.filter fun (_,k)=>k==.local||k==.cell).map (·.1)).zipIdx
noncomputable def tB (cx:cp) (params:Arguments) (sc:Scope) (body:List Stmt):Option aS :=
  let nm:=cP sc
  let as:=params.args
  if dD params&&sc.kind==.function && !sc.isGenerator && !sc.isCoroutine &&
   sc.names.all (fun (n,k)=>sc.names.lookup n==some k&&(k==.local||k==.cell||k==.globalImplicit)) &&
   decide (as.map (·.arg)=(nm.map (·.1)).take as.length)&&decide ((nm.map (·.1)).Nodup) then
   (cN (oQ cx sc nm nm.length 200) body).bind fun b=>some ⟨as.length,b⟩
  else none
end Lar
set_option backward.match.sparseCases true
namespace Lar
open PySem PyProof.Rows
structure G where
 prog:Program
 w:World
 B:Heap
 fr:List Env
 tabs:List (Str×Addr)
 cls:Nat→Addr
noncomputable def ic (o:Obj):Prop:=(o.cls=.type "tuple" ∧ ∃ bn n,o.data=.seq bn n)∨(o.cls=.type "code" ∧ ∃ vs,o.data=.fields vs)
structure Bu (o:Obj):Prop where
 seq:∀ bn n,o.data≠.seq bn n
 dict:∀ es ep,o.data≠.dict es ep
 code:o.cls=.type "code" → ∀ vs,o.data≠.fields vs
noncomputable def eR (h:Heap) (b:Addr) (o:Obj):Prop:=h.get? b=some o∨((∃ es ep,o.data=.dict es ep)∧∃ sl,h.get? b=some {o with slots:=sl})
theorem eR.of {h:Heap} {b:Addr} {o:Obj} (x:eR h b o) (hd:∀ es ep,o.data≠.dict es ep):h.get? b=some o:=by
 rcases x with x | ⟨⟨es,ep,x⟩,_⟩
 ·exact x
 ·exact absurd x (hd es ep)
theorem eR.seq {h:Heap} {b:Addr} {o:Obj} {bn:Array Value} {n:Nat} (x:eR h b o) (hd:o.data=.seq bn n):h.get? b=some o:=x.of (fun es ep q=>nomatch hd.symm.trans q)
theorem eR.hard {h:Heap} {b:Addr} {o:Obj} (x:eR h b o) (hd:ic o):h.get? b=some o:=by
 rcases hd with ⟨_,bn,n,hd⟩ | ⟨_,vs,hd⟩
 ·exact x.seq hd
 ·exact x.of (fun es ep q=>nomatch hd.symm.trans q)
theorem eR.live {h:Heap} {b:Addr} {o:Obj} (x:eR h b o):∃ o',h.get? b=some o':=by
 rcases x with x | ⟨_,sl,x⟩
 ·exact ⟨o,x⟩
 ·exact ⟨_,x⟩
theorem eR.then {h' s9:Heap} {b:Addr} {o:Obj} (x:eR h' b o) (y:∀ o',h'.get? b=some o'→eR s9 b o'):eR s9 b o:=by
 rcases x with x | ⟨hd,sl,x⟩
 ·exact y o x
 ·rcases y _ x with y | ⟨_,Mm,y⟩
  ·exact .inr ⟨hd,sl,y⟩
  ·exact .inr ⟨hd,Mm,y⟩
theorem eR.ns {h h':Heap} {a:Addr} {m:Str→Option Value} (hn:h.Ns a m) (x:∀ o,h.get? a=some o→eR h' a o):h'.Ns a m:=by
 refine qL hn fun o es ep ho hd r=>?_
 rcases x o ho with y | ⟨_,sl,y⟩
 ·exact ⟨o,es,ep,y,hd,r⟩
 ·exact ⟨_,es,ep,y,hd,r⟩
mutual
inductive VR (g:G) (φ:List Addr) (h:Heap):V→Value→Prop
 | none:VR g φ h .none .none
 | bool (b:Bool):VR g φ h (.bool b) (.bool b)
 | int (i:Int) (t:Tok):VR g φ h (.int i) (.int i t)
 | str (x:Str) (t:Tok):VR g φ h (.str x) (.str x t)
 | tup {l:List V} {a:Addr} {vs:List Value}:h.IsTuple a vs.toArray→l.length≤an+1→bq g φ h l vs→a∉φ→VR g φ h (.tup l) (.ref a)
 | ref {n:Nat} {a:Addr}:φ[n]? = some a→VR g φ h (.ref n) (.ref a)
 | ro {ns:List Int} {a:Addr} {vs:List Value}:g.B.IsList a vs.toArray→ns.length≤an+1→IntsAre vs ns→VR g φ h (.ro ns) (.ref a)
inductive bq (g:G) (φ:List Addr) (h:Heap):List V→List Value→Prop
 | nil:bq g φ h [] []
 | cons {v:V} {a:Value} {l:List V} {vs:List Value}:VR g φ h v a→bq g φ h l vs→bq g φ h (v::l) (a::vs)
end
theorem VR.el {g:G} {φ:List Addr} {h:Heap} {C:V→Value→Prop} {v:V} {a:Value} (x:VR g φ h v a) (none:C .none .none) (bool:∀ b,C (.bool b) (.bool b)) (int:∀ i t,C (.int i) (.int i t)) (str:∀ x t,C (.str x) (.str x t))
  (tup:∀ l a vs,h.IsTuple a (List.toArray vs)→l.length≤an+1→bq g φ h l vs→a∉φ→C (.tup l) (.ref a)) (ref:∀ n a,φ[n]? = some a→C (.ref n) (.ref a)) (ro:∀ ns a vs,g.B.IsList a (List.toArray vs)→ns.length≤an+1→IntsAre vs ns→C (.ro ns) (.ref a)):C v a :=
 VR.casesOn (motive_1:=fun v a _=>C v a) x none bool int str (fun h1 h2 h3 h4=>tup _ _ _ h1 h2 h3 h4) (fun h1=>ref _ _ h1) fun h1 h2 h3=>ro _ _ _ h1 h2 h3
inductive MR (g:G) (φ:List Addr) (h:Heap):aZ→Addr→Prop
 | lst {l:List V} {a:Addr} {vs:List Value}:h.PlainList a vs.toArray→l.length≤an+1→bq g φ h l vs→MR g φ h (.lst l) a
 | own {a:Addr} {x y:Value}:h.get? a=some {cls:=.type "tuple", data:=.seq #[x,y]}→MR g φ h .own a
 | wd {w:Str} {a:Addr} {m:Str→Option Value} {t:Tok}:h.Ns a m→m ("word" : Str)=some (.str w t)→MR g φ h (.wd w) a
 | exn {c d:Nat} {a D:Addr} {o:Obj} {vs:Array Value}:h.get? a=some o→o.cls=.ref (g.cls c)→o.data=.fields vs→o.dict=some D→φ[d]? = some D→MR g φ h (.exn c d) a
 | tab {q:Str} {a:Addr} {ps:Array Value}:h.get? a=some {cls:=.none,data:=.fields ps}→TriplesOk ps.toList→(∀ pos cv,codeAmong pos ps.toList=some cv→∃ c' o vs t,cv=.ref c'∧c'∉φ∧h.get? c'=some o∧o.cls=.type "code" ∧ o.data=.fields vs∧vs[1]? = some (.str (q ++ "<lambda>") t))→MR g φ h (.tab q) a
theorem MR.el {g:G} {φ:List Addr} {h:Heap} {C:aZ→Prop} {m:aZ} {a:Addr} (x:MR g φ h m a) (lst:∀ l vs,h.PlainList a (List.toArray vs)→l.length≤an+1→bq g φ h l vs→C (.lst l))
  (own:∀ x y,h.get? a=some {cls:=.type "tuple", data:=.seq #[x,y]}→C .own) (wd:∀ w m t,h.Ns a m→m ("word" : Str)=some (.str w t)→C (.wd w)) (exn:∀ c d D o vs,h.get? a=some o→o.cls=.ref (g.cls c)→o.data=.fields vs→o.dict=some D→φ[d]? = some D→C (.exn c d))
  (tab:∀ q ps,h.get? a=some {cls:=.none,data:=.fields ps}→TriplesOk ps.toList→(∀ pos cv,codeAmong pos ps.toList=some cv→∃ c' o vs t,cv=.ref c'∧c'∉φ∧h.get? c'=some o∧o.cls=.type "code" ∧ o.data=.fields vs∧vs[1]? = some (.str (q ++ "<lambda>") t))→C (.tab q)):C m:=by
 cases x with
 | lst h1 h2 h3=>exact lst _ _ h1 h2 h3
 | own h1=>exact own _ _ h1
 | wd h1 h2=>exact wd _ _ _ h1 h2
 | exn h1 h2 h3 h4 h5=>exact exn _ _ _ _ _ h1 h2 h3 h4 h5
 | tab h1 h2 h3=>exact tab _ _ h1 h2 h3
structure ak (g:G) (φ:List Addr) (σ:ag) (h:Heap):Prop where
 base:∀ b o,g.B.get? b=some o→h.get? b=some o
 fresh:∀ a∈φ,g.B.get? a=none
 len:φ.length=σ.length
 nodup:φ.Nodup
 objs:∀ (i:Nat) (a:Addr) (m:aZ),φ[i]? = some a→σ[i]? = some m→MR g φ h m a
 tabs:∀ (j:Nat) (q:Str) (P:Addr),g.tabs[j]? = some (q,P)→φ[j]? = some P∧σ[j]? = some (.tab q)
structure cu (ms:Addr→Prop) (φ:List Addr) (h:Heap) (aI:List Addr) (h':Heap):Prop where
 pres:∀ b o,h.get? b=some o→¬ ms b→eR h' b o
 dom:∀ b o,h.get? b=some o→∃ o',h'.get? b=some o'
 ext:∃ t,aI=φ++t∧∀ a∈t,h.get? a=none
theorem cu.refl (ms:Addr→Prop) (φ:List Addr) (h:Heap):cu ms φ h φ h :=
 ⟨fun _ _ e _=>.inl e,fun _ o e=>⟨o,e⟩,[],by simp,fun _ ha=>(nomatch ha)⟩
theorem cu.pre {ms:Addr→Prop} {φ aI:List Addr} {h h':Heap} (x:cu ms φ h aI h') {n:Nat} {a:Addr} (e:φ[n]? = some a):aI[n]? = some a:=by
 refine au x.ext fun t q2 _=>?_;apply aO q2
 have hn:n<φ.length:=(List.getElem?_eq_some_iff.mp e).1
 rw [List.getElem?_append_left hn];exact e
theorem cu.notin {ms:Addr→Prop} {φ aI:List Addr} {h h':Heap} (x:cu ms φ h aI h') {b:Addr} {o:Obj} (e:h.get? b=some o) (hb:b∉φ):b∉aI:=by
 refine au x.ext fun t q2 ht=>?_;apply aO q2
 intro hm
 refine Or.elim (List.mem_append.mp hm) (fun hm=>?_) (fun hm=>?_)
 ·exact hb hm
 ·rw [ht b hm] at e;cases e
theorem cu.trans {ms Ix F4:Addr→Prop} {φ aI s6:List Addr} {h h' s9:Heap} (x:cu ms φ h aI h') (y:cu Ix aI h' s6 s9)
  (h1:∀ b o,h.get? b=some o→¬ F4 b→¬ ms b) (h2:∀ b o,h.get? b=some o→¬ F4 b→¬ Ix b):cu F4 φ h s6 s9:=by
 refine ⟨fun b o e hb=>(x.pres b o e (h1 b o e hb)).then fun o' e'=>y.pres b o' e' (h2 b o e hb),fun b o e=>?_,?_⟩
 ·refine Exists.elim (x.dom b o e) fun o' e'=>?_
  exact y.dom b o' e'
 ·refine au x.ext fun t q2 ht=>?_;subst q2
  refine au y.ext fun u q2 hu=>?_;subst q2
  refine ⟨t++u,by simp,fun a ha=>?_⟩
  refine Or.elim (List.mem_append.mp ha) (fun ha=>?_) (fun ha=>?_)
  ·exact ht a ha
  ·cases e:h.get? a with
   | none=>rfl
   | some o =>
    refine Exists.elim (x.dom a o e) fun o' e'=>?_
    rw [hu a ha] at e';cases e'
noncomputable abbrev SE (φ:List Addr) (h:Heap) (aI:List Addr) (h':Heap):Prop:=cu (fun b=>b∈φ) φ h aI h'
theorem SE.trans {φ aI s6:List Addr} {h h' s9:Heap} (x:SE φ h aI h') (y:SE aI h' s6 s9):SE φ h s6 s9 :=
 cu.trans x y (fun _ _ _ hb=>hb) fun _ _ e hb=>x.notin e hb
theorem SE.refl (φ:List Addr) (h:Heap):SE φ h φ h:=cu.refl _ _ _
theorem r6 {α:Type} {l:List α} (hn:l.Nodup) {i j:Nat} {a:α} (hi:l[i]? = some a) (hj:l[j]? = some a):i=j:=by
 refine Exists.elim (List.getElem?_eq_some_iff.mp hi) fun h1 e1=>?_
 refine Exists.elim (List.getElem?_eq_some_iff.mp hj) fun h2 e2=>?_
 have hp:=List.pairwise_iff_getElem.mp hn
 rcases Nat.lt_trichotomy i j with h | h | h
 ·exact absurd (e1.trans e2.symm) (hp i j h1 h2 h)
 ·exact h
 ·exact absurd (e2.trans e1.symm) (hp j i h2 h1 h)
theorem oB:(Value.type "list" : Value)≠.type "tuple" := by decide
theorem kT {o:Obj} (hc:o.cls=.type "list"):¬ ic o:=by
 rintro (⟨h,_⟩ | ⟨h,_⟩) <;> rw [hc] at h <;> exact absurd h (by decide)
theorem wJ {o:Obj} {es:Array DictEntry} {ep:Nat} (hd:o.data=.dict es ep):¬ ic o:=by
 rintro (⟨_,_,_,h⟩ | ⟨_,_,h⟩) <;> exact nomatch hd.symm.trans h
theorem MR.live {g:G} {φ:List Addr} {h:Heap} {m:aZ} {a:Addr} (x:MR g φ h m a):∃ o,h.get? a=some o:=by
 apply MR.el x
 case lst =>
  intro _ _ hl _ _
  refine Exists.elim hl fun n ho=>?_
  exact ⟨_,ho⟩
 case own=>intro _ _ ho;exact ⟨_,ho⟩
 case wd =>
  intro _ _ _ hn _
  refine jH hn fun o _ _ ho _=>?_
  exact ⟨o,ho⟩
 case exn=>intro _ _ _ _ _ ho _ _ _ _;exact ⟨_,ho⟩
 case tab=>intro _ _ ho _ _;exact ⟨_,ho⟩
theorem ak.live {g:G} {φ:List Addr} {σ:ag} {h:Heap} (R:ak g φ σ h) {a:Addr} (ha:a∈φ):∃ o,h.get? a=some o:=by
 obtain ⟨i,hi,rfl⟩:=List.mem_iff_getElem.mp ha
 have h1:φ[i]? = some φ[i]:=List.getElem?_eq_getElem hi
 have jA:i<σ.length:=R.len ▸ hi
 have h2:σ[i]? = some σ[i]:=List.getElem?_eq_getElem jA
 exact (R.objs i _ _ h1 h2).live
theorem VR.stepT {g:G} {φ aI:List Addr} {h h':Heap} (hp:∀ (n:Nat) (a:Addr),φ[n]? = some a→aI[n]? = some a) (S:∀ b o,h.get? b=some o→ic o→b∉φ→h'.get? b=some o∧b∉aI) {v:V} {a:Value} (x:VR g φ h v a):VR g aI h' v a :=
 VR.rec (motive_1:=fun v a _=>VR g aI h' v a) (motive_2:=fun l vs _=>bq g aI h' l vs) .none .bool .int .str (fun ht hz _ hn ih=>by
  refine fL ht fun o ho hc r=>?_
  have k:=S _ _ ho (.inl ⟨hc,_,r⟩) hn
  exact .tup ⟨o,k.1,hc,r⟩ hz ih k.2) (fun e=>.ref (hp _ _ e)) .ro .nil (fun _ _ h1 h2=>.cons h1 h2) x
theorem bq.stepT {g:G} {φ aI:List Addr} {h h':Heap} (hp:∀ (n:Nat) (a:Addr),φ[n]? = some a→aI[n]? = some a) (S:∀ b o,h.get? b=some o→ic o→b∉φ→h'.get? b=some o∧b∉aI) {l:List V} {vs:List Value} (x:bq g φ h l vs):bq g aI h' l vs:=by
 induction l generalizing vs with
 | nil=>cases x;exact .nil
 | cons v l ih=>cases x with | cons hv hr=>exact .cons (hv.stepT hp S) (ih hr)
theorem VR.step {g:G} {φ aI:List Addr} {σ:ag} {h h':Heap} (R:ak g φ σ h) (S:SE φ h aI h') {v:V} {a:Value} (x:VR g φ h v a):VR g aI h' v a:=x.stepT (fun _ _ e=>S.pre e) fun _ _ e hh hn=>⟨(S.pres _ _ e hn).hard hh,S.notin e hn⟩
theorem bq.step {g:G} {φ aI:List Addr} {σ:ag} {h h':Heap} (R:ak g φ σ h) (S:SE φ h aI h') {l:List V} {vs:List Value} (x:bq g φ h l vs):bq g aI h' l vs:=x.stepT (fun _ _ e=>S.pre e) fun _ _ e hh hn=>⟨(S.pres _ _ e hn).hard hh,S.notin e hn⟩
theorem bq.length {g:G} {φ:List Addr} {h:Heap} {l:List V} {vs:List Value} (x:bq g φ h l vs):l.length=vs.length:=by
 induction l generalizing vs with
 | nil=>cases x;rfl
 | cons v l ih=>cases x with | cons hv hr=>exact congrArg (· + 1) (ih hr)
theorem bq.append {g:G} {φ:List Addr} {h:Heap} {l:List V} {vs:List Value} {m:List V} {ws:List Value} (x:bq g φ h l vs) (y:bq g φ h m ws):bq g φ h (l++m) (vs++ws):=by
 induction l generalizing vs with
 | nil=>cases x;exact y
 | cons v l ih=>cases x with | cons hv hr=>exact .cons hv (ih hr)
theorem bq.get {g:G} {φ:List Addr} {h:Heap}:∀ {l:List V} {vs:List Value} {i:Nat} {v:V},bq g φ h l vs→l[i]? = some v→∃ a,vs[i]? = some a∧VR g φ h v a
 | _,_,_,_,.nil,e=>by simp at e
 | _,_,0,_,.cons hv _,e=>by simp at e;apply fQ e;exact ⟨_,by simp,hv⟩
 | _,_,i+1,_,.cons _ hr,e=>by
  simp at e
  refine au (bq.get hr e) fun a h1 h2=>?_
  exact ⟨a,by simpa using h1,h2⟩
theorem bq.set {g:G} {φ:List Addr} {h:Heap} {v:V} {a:Value} (x:VR g φ h v a):∀ {l:List V} {vs:List Value} (i:Nat),bq g φ h l vs→bq g φ h (l.set i v) (vs.set i a)
 | _,_,_,.nil=>by simpa using bq.nil
 | _,_,0,.cons _ hr=>by simpa using bq.cons x hr
 | _,_,i+1,.cons hv hr=>by simpa using bq.cons hv (bq.set x i hr)
theorem bq.one {g:G} {φ:List Addr} {h:Heap} {v:V} {a:Value} (x:VR g φ h v a):bq g φ h [v] [a]:=.cons x .nil
theorem MR.step {g:G} {φ aI:List Addr} {σ:ag} {h h':Heap} (R:ak g φ σ h) (S:SE φ h aI h') {m:aZ} {a:Addr} (x:MR g φ h m a) (ha:∀ o,h.get? a=some o→h'.get? a=some o):MR g aI h' m a:=by
 apply MR.el x
 case lst=>intro _ _ hl hz hv;exact .lst (hl.at ha) hz (hv.step R S)
 case own=>intro _ _ ho;exact .own (ha _ ho)
 case wd=>intro _ _ _ hn hw;exact .wd (let ⟨o,es,ep,ho,r⟩:=hn;⟨o,es,ep,ha _ ho,r⟩) hw
 case exn=>intro _ _ _ _ _ ho h1 h2 h3 h4;exact .exn (ha _ ho) h1 h2 h3 (S.pre h4)
 case tab =>
  intro _ _ ho ht hc
  exact .tab (ha _ ho) ht fun pos cv e=>by
   refine Kc (hc pos cv e) fun c' o vs t e1 e2 e3 e4 e5 e6=>?_
   exact ⟨c',o,vs,t,e1,S.notin e3 e2,(S.pres _ _ e3 e2).hard (.inr ⟨e4,vs,e5⟩),e4,e5,e6⟩
theorem MR.stepT {g:G} {φ aI:List Addr} {h h':Heap} (hp:∀ (n:Nat) (a:Addr),φ[n]? = some a→aI[n]? = some a) (S:∀ b o,h.get? b=some o→ic o→b∉φ→h'.get? b=some o∧b∉aI) {m:aZ} {a:Addr} (x:MR g φ h m a) (ha:∀ o,h.get? a=some o→h'.get? a=some o):MR g aI h' m a:=by
 apply MR.el x
 case lst=>intro _ _ hl hz hv;exact .lst (hl.at ha) hz (hv.stepT hp S)
 case own=>intro _ _ ho;exact .own (ha _ ho)
 case wd=>intro _ _ _ hn hw;exact .wd (let ⟨o,es,ep,ho,r⟩:=hn;⟨o,es,ep,ha _ ho,r⟩) hw
 case exn=>intro _ _ _ _ _ ho h1 h2 h3 h4;exact .exn (ha _ ho) h1 h2 h3 (hp _ _ h4)
 case tab =>
  intro _ _ ho ht hc
  exact .tab (ha _ ho) ht fun pos cv e=>by
   refine Kc (hc pos cv e) fun c' o vs t e1 e2 e3 e4 e5 e6=>?_
   have k:=S _ _ e3 (.inr ⟨e4,vs,e5⟩) e2
   exact ⟨c',o,vs,t,e1,k.2,k.1,e4,e5,e6⟩
theorem ak.keeps {g:G} {φ:List Addr} {σ:ag} {h h':Heap} (R:ak g φ σ h) (hk:∀ b o,h.get? b=some o→h'.get? b=some o):ak g φ σ h':=by
 have S:SE φ h φ h':=⟨fun b o e _=>.inl (hk b o e),fun b o e=>⟨o,hk b o e⟩,[],by simp,fun _ ha=>(nomatch ha)⟩
 exact ⟨fun b o e=>hk b o (R.base b o e),R.fresh,R.len,R.nodup,fun i a m h1 h2=>(R.objs i a m h1 h2).step R S fun o e=>hk _ o e,R.tabs⟩
theorem SE.keeps (φ:List Addr) {h h':Heap} (hk:∀ b o,h.get? b=some o→h'.get? b=some o):SE φ h φ h' :=
 ⟨fun b o e _=>.inl (hk b o e),fun b o e=>⟨o,hk b o e⟩,[],by simp,fun _ ha=>(nomatch ha)⟩
theorem ak.other {g:G} {φ:List Addr} {σ:ag} {h h':Heap} {L:Addr} (R:ak g φ σ h) (hL:L∉φ) (hB:g.B.get? L=none)
  (hk:∀ b o,b≠L→h.get? b=some o→h'.get? b=some o) (ht:∀ o,h.get? L=some o→¬ ic o):ak g φ σ h':=by
 refine ⟨fun b o e=>hk b o (by rintro rfl;rw [hB] at e;cases e) (R.base b o e),R.fresh,R.len,R.nodup,fun i a m h1 h2=>?_,R.tabs⟩
 have Op:a≠L:=by rintro rfl;exact hL (List.mem_of_getElem? h1)
 refine (R.objs i a m h1 h2).stepT (fun _ _ e=>e) (fun b o e hs hn=>⟨hk b o ?_ e,hn⟩) fun o e=>hk _ o Op e
 rintro rfl
 exact ht o e hs
theorem ak.tabsOn {g:G} {φ t:List Addr} {σ u:ag} {h:Heap} (R:ak g φ σ h) {j:Nat} {q:Str} {P:Addr} (hj:g.tabs[j]? = some (q,P)):(φ++t)[j]? = some P∧(σ++u)[j]? = some (.tab q):=by
 refine aJ (R.tabs j q P hj) fun h1 h2=>?_
 exact ⟨by rw [List.getElem?_append_left (List.getElem?_eq_some_iff.mp h1).1];exact h1,by rw [List.getElem?_append_left (List.getElem?_eq_some_iff.mp h2).1];exact h2⟩
theorem ak.more {g:G} {φ:List Addr} {σ:ag} {h:Heap} {a:Addr} {m:aZ} (R:ak g φ σ h) (ha:a∉φ) (hB:g.B.get? a=none) (hm:MR g φ h m a) (hT:∀ o,h.get? a=some o→¬ ic o):ak g (φ++[a]) (σ++[m]) h:=by
 have up:∀ {m:aZ} {b:Addr},MR g φ h m b→MR g (φ++[a]) h m b:=fun x =>
  x.stepT (fun n b e=>by rw [List.getElem?_append_left (List.getElem?_eq_some_iff.mp e).1];exact e) (fun b o e hc hn=>⟨e,fun hm=>by
   refine Or.elim (List.mem_append.mp hm) (fun hm=>?_) (fun hm=>?_)
   ·exact hn hm
   ·simp at hm;subst hm;exact hT o e hc⟩) fun _ e=>e
 refine ⟨R.base,fun b hb=>?_,by simp [R.len],?_,fun i b m' h1 h2=>?_,fun j q P hj=>R.tabsOn hj⟩
 ·refine Or.elim (List.mem_append.mp hb) (fun hb=>?_) (fun hb=>?_)
  ·exact R.fresh b hb
  ·simp at hb;apply aO hb;exact hB
 ·rw [List.nodup_append]
  refine ⟨R.nodup,by simp,fun x hx y hy=>?_⟩
  simp at hy;apply aO hy
  rintro rfl;exact ha hx
 ·by_cases hi:i<φ.length
  ·rw [List.getElem?_append_left hi] at h1
   rw [List.getElem?_append_left (R.len ▸ hi)] at h2
   exact up (R.objs i b m' h1 h2)
  ·have jA:i=φ.length:=by
    have:=(List.getElem?_eq_some_iff.mp h1).1
    simp at this;exact Nat.le_antisymm (Nat.le_of_lt_succ this) (Nat.not_lt.mp hi)
   subst jA
   simp at h1
   rw [R.len] at h2;simp at h2
   apply fQ h1;subst h2
   exact up hm
theorem ak.put {g:G} {φ:List Addr} {σ:ag} {h h':Heap} {a:Addr} {r:Nat} {m Iy:aZ} (R:ak g φ σ h) (hr:φ[r]? = some a) (aW:σ[r]? = some Iy)
  (hs:∀ b o,b≠a→h.get? b=some o→h'.get? b=some o) (hm:MR g φ h' m a) (Lh:∀ q,Iy=.tab q→m=.tab q:=by intro q e;exact nomatch e):ak g φ (σ.set r m) h':=by
 have l8:a∈φ:=List.mem_of_getElem? hr
 refine ⟨fun b o e=>hs b o (by rintro rfl;rw [R.fresh _ l8] at e;cases e) (R.base b o e),R.fresh,by simp [R.len],R.nodup,fun i b m' h1 h2=>?_,fun j q P hj=>?_⟩
 rotate_left
 ·refine aJ (R.tabs j q P hj) fun h1 h2=>?_
  refine ⟨h1,?_⟩
  by_cases hjr:r=j
  ·subst hjr
   rw [List.getElem?_set_self (List.getElem?_eq_some_iff.mp aW).1,Lh q (sm (aW.symm.trans h2))]
  ·rw [List.getElem?_set_ne hjr];exact h2
 by_cases hi:i=r
 ·subst hi
  rw [hr] at h1;cases h1
  rw [List.getElem?_set_self (List.getElem?_eq_some_iff.mp aW).1] at h2
  cases h2
  exact hm
 ·rw [List.getElem?_set_ne (Ne.symm hi)] at h2
  have hb:b≠a:=by
   rintro rfl
   exact hi (r6 R.nodup h1 hr)
  refine (R.objs i b m' h1 h2).stepT (fun _ _ e=>e) (fun c o e hc hn=>⟨hs c o ?_ e,hn⟩) fun o e=>hs _ o hb e
  rintro rfl
  exact hn l8
theorem SE.put {φ:List Addr} {h h':Heap} {a:Addr} (ha:a∈φ) (hs:Heap.SameBut a h h') (hd:∃ o,h'.get? a=some o):SE φ h φ h' :=
 ⟨fun b o e hb=>.inl (hs.extBut b o (by rintro rfl;exact hb ha) e),fun b o e=>by
  by_cases hb:b=a
  ·apply aO hb;exact hd
  ·exact ⟨o,hs.extBut b o hb e⟩,[],by simp,fun _ hm=>(nomatch hm)⟩
noncomputable def bx (s s':Shared):Prop:=s'.gens=s.gens∧s'.drawn=s.drawn∧s'.os=s.os
theorem bx.refl (s:Shared):bx s s:=⟨rfl,rfl,rfl⟩
theorem bx.trans {s s' kY:Shared} (x:bx s s') (y:bx s' kY):bx s kY:=⟨y.1.trans x.1,y.2.1.trans x.2.1,y.2.2.trans x.2.2⟩
noncomputable def bG (g:G) (φ:List Addr) (s:Shared) (v:V) (af:ag) (a:Value) (s':Shared):Prop :=
 ∃ aI,SE φ s.heap aI s'.heap∧ak g aI af s'.heap∧VR g aI s'.heap v a∧bx s s'
noncomputable def JD (g:G) (φ:List Addr) (s:Shared) (l:List V) (af:ag) (vs:List Value) (s':Shared):Prop :=
 ∃ aI,SE φ s.heap aI s'.heap∧ak g aI af s'.heap∧bq g aI s'.heap l vs∧bx s s'
noncomputable def BA (g:G) (φ:List Addr) (s:Shared) (b:Bool) (af:ag) (b':Bool) (s':Shared):Prop :=
 b'=b∧∃ aI,SE φ s.heap aI s'.heap∧ak g aI af s'.heap∧bx s s'
end Lar
namespace Lar
open PySem PyProof.Rows PySem.Calls
noncomputable def EL (g:G) (q:Str) (cd:Value):Prop:=∃ (j:Nat) (c P:Addr) (H:Heap),g.tabs[j]? = some (q,P)∧cd=.ref c∧H.IsCode c P #[]∧H.TableAt c P #[]∧∀ o,H.get? c=some o→g.B.get? c=some o
noncomputable def G2 (g:G) (env:Env):Prop:=EL g env.qual env.code
noncomputable def oa (g:G) (φ:List Addr) (h:Heap):Prop:=∀ e∈g.fr,e.scope.kind≠.module∧∃ L o es ep,e.frame=some L∧h.get? L=some o∧o.data=.dict es ep∧L∉φ∧g.B.get? L=none
theorem oa.to {g:G} {φ aI:List Addr} {h h':Heap} (x:oa g φ h) (hd:∀ L o es ep,h.get? L=some o→o.data=.dict es ep→L∉φ→(∃ o' E7 E2,h'.get? L=some o'∧o'.data=.dict E7 E2)∧L∉aI):oa g aI h':=fun e he=>by
 obtain ⟨h1,L,o,es,ep,h2,h3,h4,h5,h6⟩:=x e he
 refine aJ (hd L o es ep h3 h4 h5) fun k8 k3=>?_;refine jH k8 fun o' E7 E2 k1 k2=>?_
 exact ⟨h1,L,o',E7,E2,h2,k1,k2,k3,h6⟩
theorem eR.isD {h:Heap} {b:Addr} {o:Obj} {es:Array DictEntry} {ep:Nat} (x:eR h b o) (hd:o.data=.dict es ep):∃ o' E7 E2,h.get? b=some o'∧o'.data=.dict E7 E2:=by
 rcases x with x | ⟨_,sl,x⟩
 ·exact ⟨o,es,ep,x,hd⟩
 ·exact ⟨_,es,ep,x,hd⟩
structure dA (g:G) (φ:List Addr) (env:Env) (nm:List (Str×Nat)) (ρ:aF) (h:Heap):Prop where
 kind:env.scope.kind=.function
 glob:env.globals=mainGlobals
 blt:env.builtins=builtinsNs
 ns:∃ m,h.Ns env.locals m∧∀ x i v,nm.lookup x=some i→env.kindOf x=some .local→ρ i=some v→∃ a,m x=some a∧VR g φ h v a
 cells:∀ x i,nm.lookup x=some i→(env.kindOf x=some .cell∨env.kindOf x=some .free)→∃ c u,env.cells.lookup x=some c∧h.IsCell c u∧∀ v,ρ i=some v→∃ a,u=some a∧VR g φ h v a
 locN:env.locals∉φ
 locB:g.B.get? env.locals=none
 cellF:∀ x c,env.cells.lookup x=some c→(∃ u,h.IsCell c u)∧c∉φ∧c≠env.locals∧g.B.get? c=none
 cellI:∀ x y c,env.cells.lookup x=some c→env.cells.lookup y=some c→x=y
 slots:∀ x y i,nm.lookup x=some i→nm.lookup y=some i→x=y
 tab:eK env.scope=true→G2 g env
 stk:oa g φ h
noncomputable def FM (φ:List Addr) (env:Env) (b:Addr):Prop:=b∈φ∨b=env.locals∨∃ x,env.cells.lookup x=some b
noncomputable def NM (env:Env) (x:Str) (b:Addr):Prop:=b=env.locals∨env.cells.lookup x=some b
theorem Ns.noSeq {h:Heap} {L:Addr} {m:Str→Option Value} (hn:h.Ns L m):∀ o,h.get? L=some o→¬ ic o:=by
 refine qL hn fun o' es ep ho hd _=>?_
 rintro o e (⟨_,_,_,q⟩ | ⟨_,_,q⟩)
 ·rw [ho] at e;cases e;exact nomatch hd.symm.trans q
 ·rw [ho] at e;cases e;exact nomatch hd.symm.trans q
theorem yy.noSeq {h:Heap} {c:Addr} {u:Option Value} (hc:h.IsCell c u):∀ o,h.get? c=some o→¬ ic o:=by
 refine au hc fun o' ho hd=>?_
 rintro o e (⟨_,_,_,q⟩ | ⟨_,_,q⟩)
 ·rw [ho] at e;cases e;exact nomatch hd.symm.trans q
 ·rw [ho] at e;cases e;exact nomatch hd.symm.trans q
section
variable {g:G} {φ aI:List Addr} {σ af:ag} {env:Env} {nm:List (Str×Nat)} {ρ:aF} {h h':Heap}
theorem dA.step (F:dA g φ env nm ρ h) (R:ak g φ σ h) (S:SE φ h aI h'):dA g aI env nm ρ h':=by
 refine au F.ns fun m hn hm=>?_
 have rL:∀ c,c∉φ→∀ u,h.IsCell c u→h'.IsCell c u:=fun c hc u x=>by
  refine au x fun o ho hd=>?_
  exact ⟨o,(S.pres _ _ ho hc).of (fun es ep q=>nomatch hd.symm.trans q),hd⟩
 refine ⟨F.kind,F.glob,F.blt,⟨m,?_,fun x i v a b c=>?_⟩,fun x i a b=>?_,?_,F.locB,fun x c e=>?_,F.cellI,F.slots,F.tab,F.stk.to fun L o es ep h1 h2 h3=>⟨(S.pres _ _ h1 h3).isD h2,S.notin h1 h3⟩⟩
 ·exact eR.ns hn fun o e=>S.pres _ _ e F.locN
 ·refine au (hm x i v a b c) fun y h1 h2=>?_
  exact ⟨y,h1,h2.step R S⟩
 ·refine kF (F.cells x i a b) fun c u h1 h2 h3=>?_
  refine ⟨c,u,h1,rL c (F.cellF x c h1).2.1 u h2,fun v hv=>?_⟩
  refine au (h3 v hv) fun y h4 h5=>?_
  exact ⟨y,h4,h5.step R S⟩
 ·refine jH hn fun o es ep ho r=>?_
  exact S.notin ho F.locN
 ·refine yl (F.cellF x c e) fun k9 h1 h2 h3=>?_;refine Exists.elim k9 fun u hu=>?_
  refine ⟨⟨u,rL c h1 u hu⟩,?_,h2,h3⟩
  refine au hu fun o ho hd=>?_
  exact S.notin ho h1
noncomputable def Ny (g:G) (φ:List Addr) (env:Env) (nm:List (Str×Nat)) (s:Shared) (ρ':aF) (af:ag) (s':Shared):Prop :=
 ∃ aI,cu (FM φ env) φ s.heap aI s'.heap∧ak g aI af s'.heap∧dA g aI env nm ρ' s'.heap∧bx s s'
theorem cu.ofSE (S:SE φ h aI h') (env:Env):cu (FM φ env) φ h aI h':=⟨fun b o e hb=>S.pres b o e fun x=>hb (.inl x),S.dom,S.ext⟩
theorem FM.trans {φ aI s6:List Addr} {h h' s9:Heap} {env:Env} (x:cu (FM φ env) φ h aI h') (y:cu (FM aI env) aI h' s6 s9):cu (FM φ env) φ h s6 s9 :=
 cu.trans x y (fun _ _ _ hb=>hb) fun b o e hb q=>by
  refine Or.elim q (fun q=>?_) (fun q=>?_)
  ·exact x.notin e (fun z=>hb (.inl z)) q
  ·exact hb (.inr q)
end
section
variable {g:G} {A:Around} {E:Value→Shared→Prop} {φ:List Addr} {σ:ag} {env:Env} {nm:List (Str×Nat)} {ρ:aF} {s:Shared}
theorem ew {x:Str} {i:Nat} {v:V} {a:Value} {Q:Unit→Shared→Prop} (F:dA g φ env nm ρ s.heap) (R:ak g φ σ s.heap) (hx:nm.lookup x=some i)
  (hk:env.kindOf x=some .local∨env.kindOf x=some .cell) (hv:VR g φ s.heap v a)
  (h:∀ h' tk,cu (NM env x) φ s.heap φ h'→ak g φ σ h'→dA g φ env nm (cE ρ i v) h'→(∀ {v:V} {a:Value},VR g φ s.heap v a→VR g φ h' v a)→Q () {s with heap:=h',toks:=tk}) :
  wpAny (model g.prog g.w) A (storeName env x a) Q E s:=by
 refine au F.ns fun m hn hm=>?_
 refine Or.elim hk (fun hk=>?_) (fun hk=>?_)
 ·refine wpAny_storeName_local hk hn (fun h' jl td=>?_) (by rw [F.kind];rfl)
  have noSeq:=Ns.noSeq hn
  have kp:∀ b o,b≠env.locals→s.heap.get? b=some o→h'.get? b=some o:=fun b o hb e=>td.extBut b o hb e
  have up:∀ {v:V} {a:Value},VR g φ s.heap v a→VR g φ h' v a:=fun x=>x.stepT (fun _ _ e=>e) fun b o e zB hn=>⟨kp b o (by rintro rfl;exact noSeq o e zB) e,hn⟩
  refine h h' _ ⟨fun b o e hb=>.inl (kp b o (fun x=>hb (.inl x)) e),fun b o e=>?_,[],by simp,fun _ hm=>(nomatch hm)⟩ (R.other F.locN F.locB kp noSeq) ?_ up
  ·by_cases hb:b=env.locals
   ·apply aO hb
    refine jH jl fun o' _ _ jU _=>?_
    exact ⟨o',jU⟩
   ·exact ⟨o,kp b o hb e⟩
  ·refine ⟨F.kind,F.glob,F.blt,⟨_,jl,fun y j w' hy qe hj=>?_⟩,fun y j hy qe=>?_,F.locN,F.locB,fun y c e=>?_,F.cellI,F.slots,F.tab,F.stk.to fun L o es ep h1 h2 h3=>⟨?_,h3⟩⟩
   rotate_right
   ·by_cases hb:L=env.locals
    ·refine qL jl fun o' E7 E2 jU jI _=>?_
     exact ⟨o',E7,E2,hb ▸ jU,jI⟩
    ·exact ⟨o,es,ep,kp L o hb h1,h2⟩
   ·by_cases zI:y=x
    ·subst zI
     rw [hx] at hy;cases hy
     simp only [cE,if_true] at hj;cases hj
     exact ⟨a,by simp,up hv⟩
    ·have ov:j≠i:=fun e=>zI (F.slots y x i (e ▸ hy) hx)
     simp only [cE,if_neg ov] at hj
     refine au (hm y j w' hy qe hj) fun z h1 h2=>?_
     exact ⟨z,by simp [zI,h1],up h2⟩
   ·have zI:y≠x:=by rintro rfl;rw [hk] at qe;rcases qe with q | q <;> cases q
    have ov:j≠i:=fun e=>zI (F.slots y x i (e ▸ hy) hx)
    refine kF (F.cells y j hy qe) fun c u h1 h2 h3=>?_
    refine ⟨c,u,h1,?_,fun w' hw=>?_⟩
    ·refine au h2 fun o ho hd=>?_
     exact ⟨o,kp c o (F.cellF y c h1).2.2.1 ho,hd⟩
    ·simp only [cE,if_neg ov] at hw
     refine au (h3 w' hw) fun z h4 h5=>?_
     exact ⟨z,h4,up h5⟩
   ·refine yl (F.cellF y c e) fun Cv h1 h2 h3=>?_;refine fv Cv fun u o ho hd=>?_
    exact ⟨⟨u,o,kp c o h2 ho,hd⟩,h1,h2,h3⟩
 ·refine kF (F.cells x i hx (.inl hk)) fun c u hc Fj _=>?_
  refine yl (F.cellF x c hc) fun _ KG Oz tS=>?_
  refine wpAny_storeName_cell F.kind hk hc Fj fun h' dG td=>?_
  have noSeq:=yy.noSeq Fj
  have kp:∀ b o,b≠c→s.heap.get? b=some o→h'.get? b=some o:=fun b o hb e=>td.extBut b o hb e
  have up:∀ {v:V} {a:Value},VR g φ s.heap v a→VR g φ h' v a:=fun x=>x.stepT (fun _ _ e=>e) fun b o e zB hn=>⟨kp b o (by rintro rfl;exact noSeq o e zB) e,hn⟩
  refine h h' _ ⟨fun b o e hb=>.inl (kp b o (fun y=>hb (.inr (y ▸ hc))) e),fun b o e=>?_,[],by simp,fun _ hm=>(nomatch hm)⟩ (R.other KG tS kp noSeq) ?_ up
  ·by_cases hb:b=c
   ·apply aO hb
    refine au dG fun o' jU _=>?_
    exact ⟨o',jU⟩
   ·exact ⟨o,kp b o hb e⟩
  ·refine ⟨F.kind,F.glob,F.blt,⟨m,?_,fun y j w' hy qe hj=>?_⟩,fun y j hy qe=>?_,F.locN,F.locB,fun y d e=>?_,F.cellI,F.slots,F.tab,F.stk.to fun L o es ep h1 h2 h3=>⟨⟨o,es,ep,kp L o ?_ h1,h2⟩,h3⟩⟩
   rotate_right
   ·rintro rfl
    refine au Fj fun o' jU jI=>?_
    rw [h1] at jU;cases jU
    exact nomatch h2.symm.trans jI
   ·refine jH hn fun o es ep ho r=>?_
    exact ⟨o,es,ep,kp _ o (Ne.symm Oz) ho,r⟩
   ·have zI:y≠x:=by rintro rfl;rw [hk] at qe;cases qe
    have ov:j≠i:=fun e=>zI (F.slots y x i (e ▸ hy) hx)
    simp only [cE,if_neg ov] at hj
    refine au (hm y j w' hy qe hj) fun z h1 h2=>?_
    exact ⟨z,h1,up h2⟩
   ·by_cases zI:y=x
    ·subst zI
     rw [hx] at hy;cases hy
     refine ⟨c,some a,hc,dG,fun w' hw=>?_⟩
     simp only [cE,if_true] at hw;cases hw
     exact ⟨a,rfl,up hv⟩
    ·have ov:j≠i:=fun e=>zI (F.slots y x i (e ▸ hy) hx)
     refine kF (F.cells y j hy qe) fun d u' h1 h2 h3=>?_
     have Jh:d≠c:=fun e=>zI (F.cellI y x c (e ▸ h1) hc)
     refine ⟨d,u',h1,?_,fun w' hw=>?_⟩
     ·refine au h2 fun o ho hd=>?_
      exact ⟨o,kp d o Jh ho,hd⟩
     ·simp only [cE,if_neg ov] at hw
      refine au (h3 w' hw) fun z h4 h5=>?_
      exact ⟨z,h4,up h5⟩
   ·refine yl (F.cellF y d e) fun Cw h1 h2 h3=>?_;refine fv Cw fun u' o ho hd=>?_
    by_cases Jh:d=c
    ·subst Jh
     exact ⟨⟨_,dG⟩,h1,h2,h3⟩
    ·exact ⟨⟨u',o,kp d o Jh ho,hd⟩,h1,h2,h3⟩
end
structure Fn where
 name:Str
 addr:Addr
 params:Arguments
 body:List Stmt
 scope:Scope
noncomputable def ik:List Value:=[.type "ValueError", .type "Exception", .type "BaseException", .type "object"]
noncomputable def fO:List Str:=["__module__", "__firstlineno__", "__init__", "__static_attributes__", "__weakref__", "__doc__"]
structure fe (h:Heap) (C:Addr) (tl:List Value) (mN:Str→Option Value):Prop where
 obj:∃ N nm q bs sub k0 k1 k2 k3 k5,h.get? C=some (excClassObj nm q C N bs tl true [] sub false none none k0 k1 k2 k3 k5 "ValueError.__new__")∧h.Ns N mN
 quiet:∀ n,n∉fO→mN n=none
noncomputable def FU (fd:FuncData):Prop:=∃ p1 p2 p3 p4,fd.body=.stmts [.Assign [.Attribute (.Name ("self" : Str) p1) ("word" : Str) p2] (.Name ("word" : Str) p3) p4]
structure GY (o:Obj) (fd:FuncData) (a1 a2:Arg):Prop where
 cls:o.cls=.type "function"
 data:o.data=.func fd
 init:FU fd
 params:fd.params=⟨[],[a1,a2],none,[],[],none,[]⟩
 n1:a1.arg=("self" : Str)
 n2:a2.arg=("word" : Str)
 names:fd.scope.names=[(("self" : Str),NameKind.local),(("word" : Str),NameKind.local)]
 kind:fd.scope.kind=.function
 gen:fd.scope.isGenerator=false
 co:fd.scope.isCoroutine=false
 gl:fd.globals=mainGlobals
 clo:fd.closure=[]
 df:fd.defaults=.none
 bl:fd.builtins=builtinsNs
structure fV (h:Heap) (f:Addr):Prop where
 ex:∃ o fd a1 a2,h.get? f=some o∧GY o fd a1 a2∧h.CodeRec fd.code fd.qualname
structure JE (g:G) (mg:Str→Option Value):Prop where
 n0:mg ("LarderError" : Str)=some (.ref (g.cls 0))
 n1:mg ("TooMuch" : Str)=some (.ref (g.cls 1))
 n2:mg ("Short" : Str)=some (.ref (g.cls 2))
 c0:∃ mN f,fe g.B (g.cls 0) ik mN∧mN ("__init__" : Str)=some (.ref f)∧fV g.B f
 c1:∃ mN,fe g.B (g.cls 1) (.ref (g.cls 0)::ik) mN∧mN ("__init__" : Str)=none
 c2:∃ mN,fe g.B (g.cls 2) (.ref (g.cls 0)::ik) mN∧mN ("__init__" : Str)=none
 ap:g.cls 1≠g.cls 2∧g.cls 1≠g.cls 0∧g.cls 2≠g.cls 0
structure eH (g:G) (cx:cp) (fs:List Fn) (mg mb:Str→Option Value):Prop where
 gns:g.B.Ns mainGlobals mg
 bns:g.B.Ns builtinsNs mb
 nolimit:g.B.NoLimit
 sys:∃ o,g.B.get? sysModules=some o
 prims:∀ x∈dE,mg x=none∧mb x=bootBuiltins x
 consts:∀ x i,cx.consts.lookup x=some i→∃ t,mg x=some (.int i t)
 names:fs.map (·.name)=cx.funs
 made:∀ f∈fs,mg f.name=some (.ref f.addr)∧∃ o pm cd doc,g.B.get? f.addr=some o∧o.data=.func (docDef f.name f.params f.body f.scope pm cd doc)∧g.B.CodeRec cd f.name
 bmain:∃ bm ob,mg ("__builtins__" : Str)=some (.ref bm)∧bm≠builtinsNs∧g.B.get? bm=some ob∧ob.cls=.type "module" ∧ ob.dict=some builtinsNs∧ob.data=.plain
 exc:JE g mg
 tab:∀ f∈fs,∀ o fd,g.B.get? f.addr=some o→o.data=.func fd→EL g (fd.qualname ++ ".<locals>.") fd.code
section
variable {g:G} {cx:cp} {fs:List Fn} {mg mb:Str→Option Value} {A:Around} {E:Value→Shared→Prop} {φ:List Addr} {σ:ag} {env:Env} {nm:List (Str×Nat)} {ρ:aF} {s:Shared}
theorem gp {x:Str} {pos:Pos} {v:Value} {Q:Value→Shared→Prop} (G:eH g cx fs mg mb) (F:dA g φ env nm ρ s.heap) (R:ak g φ σ s.heap) (hx:env.kindOf x=some .globalImplicit) (hd:(x==("__debug__" : Str))=false)
  (hv:mg x=some v) (h:Q v s):wpAny (model g.prog g.w) A (eval (.Name x pos) env) Q E s :=
 Name_function_global F.kind hx (loadGlobal_global (by rw [F.glob];exact G.gns.keeps R.base) hv h) hd
theorem dj {x:Str} {pos:Pos} {v:Value} {Q:Value→Shared→Prop} (G:eH g cx fs mg mb) (F:dA g φ env nm ρ s.heap) (R:ak g φ σ s.heap) (hx:env.kindOf x=some .globalImplicit) (hd:(x==("__debug__" : Str))=false)
  (hp:x∈dE) (hv:bootBuiltins x=some v) (h:Q v s):wpAny (model g.prog g.w) A (eval (.Name x pos) env) Q E s :=
 Name_function_global F.kind hx (loadGlobal_builtin (by rw [F.glob];exact G.gns.keeps R.base) (G.prims x hp).1 (by rw [F.blt];exact G.bns.keeps R.base) ((G.prims x hp).2.trans hv) h) hd
noncomputable def aE (g:G) (A:Around) (env:Env) (nm:List (Str×Nat)) (e:Expr) (m:aF→ag→Option (V×ag)):Prop :=
 ∀ ρ σ v af,m ρ σ=some (v,af)→∀ φ s,ak g φ σ s.heap→dA g φ env nm ρ s.heap→∀ E,wpAny (model g.prog g.w) A (eval e env) (bG g φ s v af) E s
noncomputable def dU (g:G) (A:Around) (env:Env) (nm:List (Str×Nat)) (e:Expr) (m:aF→ag→Option (Bool×ag)):Prop :=
 ∀ ρ σ b af,m ρ σ=some (b,af)→∀ φ s,ak g φ σ s.heap→dA g φ env nm ρ s.heap→∀ E,wpAny (model g.prog g.w) A (isTrue e env (eval e env)) (BA g φ s b af) E s
theorem bG.here {v:V} {a:Value} {tk:Nat} (R:ak g φ σ s.heap) (hv:VR g φ s.heap v a):bG g φ s v σ a {s with toks:=tk} :=
 ⟨φ,SE.refl _ _,R,hv,rfl,rfl,rfl⟩
theorem t5:∀ {k:NameKind},zL k=true→k=.local∨k=.cell∨k=.free:=fun {k} h=>by
 cases k <;> first | exact .inl rfl | exact .inr (.inl rfl) | exact .inr (.inr rfl) | cases h
set_option tactic.hygienic true in
theorem nV {x:Str} {pos:Pos} {c:CE} {call:ar} (G:eH g cx fs mg mb) (hc:rc cx env.scope nm x=some c):aE g A env nm (.Name x pos) (ab call c):=by
 intro ρ σ v af he φ s R F E
 unfold rc at hc
 split at hc
 ·exact no hc
 ·rename_i hd
  simp only [Bool.or_eq_true,not_or,Bool.not_eq_true] at hd
  refine aK hc fun k hk hc=>?_
  by_cases hl:zL k=true
  ·rw [if_pos hl] at hc
   refine aK hc fun i hi hc=>?_
   obtain rfl:=sm hc
   refine au (ob he) fun v' rG he=>?_
   apply dx he
   rcases t5 hl with rfl | rfl | rfl
   ·refine au F.ns fun m hn hm=>?_
    refine au (hm x i _ hi hk rG) fun a h1 h2=>?_
    exact wpAny_Name (wpAny_loadName_local F.kind hk hn h1 (bG.here R h2)) hd.1
   ·refine kF (F.cells x i hi (.inl hk)) fun cl u h1 h2 h3=>?_
    refine au (h3 _ rG) fun a q2 h4=>?_;subst q2
    exact wpAny_Name (wpAny_loadName_cell F.kind hk h1 h2 (bG.here R h4)) hd.1
   ·refine kF (F.cells x i hi (.inr hk)) fun cl u h1 h2 h3=>?_
    refine au (h3 _ rG) fun a q2 h4=>?_;subst q2
    exact wpAny_Name (wpAny_loadName_free F.kind hk h1 h2 (bG.here R h4) hd.2) hd.1
  ·rw [if_neg hl] at hc
   refine dv hc fun hg hc=>?_
   refine aK hc fun i hi hc=>?_
   obtain rfl:=sm hc
   refine aJ (kZ he) fun Cx Il=>?_;subst Cx;subst Il
   refine Exists.elim (G.consts x i hi) fun t ht=>?_
   rw [beq_iff_eq.mp hg] at hk
   exact gp G F R hk hd.1 ht (bG.here R (.int i t))
end
section
variable {g:G} {A:Around} {E:Value→Shared→Prop} {φ:List Addr} {σ:ag} {s:Shared}
theorem aC (h:Heap):h.get? h.objs.size=none:=by
 cases e:h.get? h.objs.size with
 | none=>rfl
 | some o=>exact absurd (Heap.lt_size e) (Nat.lt_irrefl _)
theorem bG.newL {l:List V} {vs:List Value} {h':Heap} {D:Addr} {tk:Nat} (R:ak g φ σ s.heap) (hz:l.length≤an+1) (hv:bq g φ s.heap l vs) (hk:∀ b o,s.heap.get? b=some o→h'.get? b=some o)
  (hD:s.heap.get? D=none) (hl:h'.PlainList D vs.toArray):bG g φ s (.ref σ.length) (σ++[.lst l]) (.ref D) {s with heap:=h',toks:=tk}:=by
 have R':ak g φ σ h':=R.keeps hk
 have S:SE φ s.heap φ h':=SE.keeps φ hk
 have Fd:D∉φ:=fun x=>by
  refine Exists.elim (R.live x) fun o ho=>?_
  rw [hD] at ho;cases ho
 have Kl:g.B.get? D=none:=by
  cases e:g.B.get? D with
  | none=>rfl
  | some o=>have:=R.base D o e;rw [hD] at this;cases this
 refine ⟨φ++[D],⟨S.pres,S.dom,[D],rfl,fun a ha=>?_⟩,R'.more Fd Kl (.lst hl hz (hv.step R S)) (fun o e=>by refine Exists.elim hl fun n ho=>?_;rw [ho] at e;cases e;exact kT rfl),.ref ?_,rfl,rfl,rfl⟩
 ·simp at ha;apply aO ha;exact hD
 ·rw [←R.len];simp
theorem bG.newT {l:List V} {vs:List Value} {h':Heap} {D:Addr} {tk:Nat} (R:ak g φ σ s.heap) (hz:l.length≤an+1) (hv:bq g φ s.heap l vs) (hk:∀ b o,s.heap.get? b=some o→h'.get? b=some o)
  (hD:s.heap.get? D=none) (hl:h'.IsTuple D vs.toArray):bG g φ s (.tup l) σ (.ref D) {s with heap:=h',toks:=tk} :=
 have S:SE φ s.heap φ h':=SE.keeps φ hk
 ⟨φ,S,R.keeps hk,.tup hl hz (hv.step R S) (fun x=>by refine Exists.elim (R.live x) fun o ho=>?_;rw [hD] at ho;cases ho),rfl,rfl,rfl⟩
theorem eJ {h h':Heap} {D:Addr} (hk:∀ b o,h.get? b=some o→h'.get? b=some o) (hD:h'.get? D=none):h.get? D=none:=by
 cases e:h.get? D with
 | none=>rfl
 | some o=>have:=hk D o e;rw [hD] at this;cases this
theorem ak.list {r:Nat} {a:Addr} {l:List V} {h:Heap} (R:ak g φ σ h) (hr:φ[r]? = some a) (hl:lst σ r=some l):∃ vs,h.PlainList a vs.toArray∧bq g φ h l vs∧l.length≤an+1:=by
 have:=R.objs r a _ hr (nB hl)
 cases this with
 | lst h1 hz h2=>exact ⟨_,h1,h2,hz⟩
theorem Gf {α:Type} (l:List α) (n:Nat):pj l n=(List.replicate n l).flatten:=by
 induction n with
 | zero=>rfl
 | succ n ih=>simp [pj,List.replicate_succ,ih]
theorem bq.rep {h:Heap} {l:List V} {vs:List Value} (x:bq g φ h l vs) (n:Nat):bq g φ h (pj l n) (Lar.pj vs n):=by
 induction n with
 | zero=>exact .nil
 | succ n ih=>exact x.append ih
theorem uo {α:Type} (l:List α) (n:Nat):(pj l n).length=l.length * n:=by
 induction n with
 | zero=>rfl
 | succ n ih=>simp only [pj,List.length_append,ih];rw [Nat.mul_succ,Nat.add_comm]
theorem gU (vs:List Value) (n:Nat):∀ acc:Array Value,(List.foldl (fun x1 x2:Array Value=>x1++x2) acc (List.replicate n vs.toArray))=acc++(pj vs n).toArray:=by
 induction n with
 | zero=>intro acc;simp [pj]
 | succ n ih=>intro acc;rw [List.replicate_succ,List.foldl_cons,ih];simp [pj]
set_option tactic.hygienic true in
theorem u0 {x:Int} (h:x.natAbs<18446744073709551616):Builtin.Int.intBits x≤64:=by
 unfold Builtin.Int.intBits
 split
 ·exact Nat.zero_le _
 ·rename_i hx
  have h0:x.natAbs≠0:=by
   intro h'
   exact hx (by simpa using h')
  have:x.natAbs.log2<64:=(Nat.log2_lt h0).mpr h
  exact this
set_option tactic.hygienic true in
theorem vI {h:Heap} {x:V} {a:Value} {i:Int} (hi:mE x=some i) (hx:VR g φ h x a):∃ t,a=.int i t:=by
 revert hi;apply VR.el hx
 case int=>intro j t hi;exact ⟨t,by rw [sm hi]⟩
 all_goals (intros;rename_i hi;exact no hi)
set_option tactic.hygienic true in
theorem vB {h:Heap} {x:V} {a:Value} {i:Bool} (hi:EO x=some i) (hx:VR g φ h x a):a=.bool i:=by
 revert hi;apply VR.el hx
 case bool=>intro j hi;rw [sm hi]
 all_goals (intros;rename_i hi;exact no hi)
set_option tactic.hygienic true in
theorem vS {h:Heap} {x:V} {a:Value} {i:Str} (hi:yj x=some i) (hx:VR g φ h x a):∃ t,a=.str i t:=by
 revert hi;apply VR.el hx
 case str=>intro j t hi;exact ⟨t,by rw [sm hi]⟩
 all_goals (intros;rename_i hi;exact no hi)
set_option tactic.hygienic true in
theorem vR {h:Heap} {x:V} {a:Value} {i:Nat} (hi:qT x=some i) (hx:VR g φ h x a):∃ c,a=.ref c∧φ[i]? = some c:=by
 revert hi;apply VR.el hx
 case ref=>intro n c hr hi;exact ⟨c,rfl,sm hi ▸ hr⟩
 all_goals (intros;rename_i hi;exact no hi)
theorem yw {h:Heap} {x:V} {a:Value} {i:Int} {C:Value→Prop} (hi:mE x=some i) (hx:VR g φ h x a) (k:∀ t,C (.int i t)):C a:=(vI hi hx).elim fun t e=>aO e (k t)
theorem Nr {h:Heap} {x:V} {a:Value} {i:Str} {C:Value→Prop} (hi:yj x=some i) (hx:VR g φ h x a) (k:∀ t,C (.str i t)):C a:=(vS hi hx).elim fun t e=>aO e (k t)
theorem Mq {h:Heap} {x:V} {a:Value} {i:Nat} {C:Value→Prop} (hi:qT x=some i) (hx:VR g φ h x a) (k:∀ c,φ[i]? = some c→C (.ref c)):C a:=(vR hi hx).elim fun t e=>aO e.1 (k t e.2)
set_option tactic.hygienic true in
theorem vT {h:Heap} {x:V} {a:Value} {i:List V} (hi:DM x=some i) (hx:VR g φ h x a):∃ c vs,a=.ref c∧h.IsTuple c vs.toArray∧i.length≤an+1∧bq g φ h i vs∧c∉φ:=by
 revert hi;apply VR.el hx
 case tup=>intro l c vs h1 h2 h3 h4 hi;rw [←sm hi];exact ⟨c,vs,rfl,h1,h2,h3,h4⟩
 all_goals (intros;rename_i hi;exact no hi)
theorem kX:fillsNumberSlot (.type "tuple") "mul" = pure false :=
 PySem.fillsNumberSlot_seq (id := "tuple.__mul__") (r:=some (.builtin "tuple.__rmul__")) PySem.F.slot_tuple_mul.lookup (by decide +kernel) PySem.F.slot_tuple_rmul.lookup (by decide +kernel)
theorem qq:seqRepeat? (.type "tuple")=pure (some (.builtin "tuple.__mul__")):=by
 unfold seqRepeat?
 rw [PySem.seqSlot_of (T := "tuple") (name := "__mul__") (id := "tuple.__mul__") PySem.F.slot_tuple_mul.lookup (by decide +kernel),PySem.seqSlot_of (T := "tuple") (name := "__rmul__") (id := "tuple.__rmul__") PySem.F.slot_tuple_rmul.lookup (by decide +kernel)]
 rfl
theorem nq (a:Int) (t:Tok) (l:Addr) (bn:Array Value) (n:Nat) (d:Option Addr) (sl:Array (Option Value)) :
  Meets (Builtin.«int.__rmul__» ⟨[.int a t,.ref l],[]⟩) (fun _ R s=>s.heap.get? l=some {cls:=.type "tuple", dict:=d,data:=.seq bn n,slots:=sl}∧R (.ok (.ret Value.notImplemented)) s) :=
 .of_wp fun prog w A R s h=>by obtain ⟨hp,g,d,tk,os⟩:=s;obtain ⟨hl,h⟩:=h;wp_walk;exact ⟨_,rfl,h⟩
theorem xU (l:Addr) (bn:Array Value) (n:Nat) (d:Option Addr) (sl:Array (Option Value)) (x:Int) (u:Tok) (h0:¬ (decide (x < -(2 ^ 63))||decide (x ≥ 2 ^ 63))=true) (h1:¬ (bn.isEmpty||x==1)=true) (h2:¬ (decide (x≤0)||bn.isEmpty)=true)
  (h3:¬ bn.size * x > (2 ^ 63 - 1) / 8) (h4:¬ Builtin.Tuple.tupleTooMany (bn.size * x)=true) :
  Meets (Builtin.«tuple.__mul__» ⟨[.ref l,.int x u],[]⟩) (fun _ R s=>s.heap.get? l=some {cls:=.type "tuple", dict:=d,data:=.seq bn n,slots:=sl} ∧
   R (.ok (.ret (Value.ref s.heap.objs.size))) {s with heap:=s.heap.push {cls:=Value.type "tuple", data:=Data.seq (List.foldl (fun x1 x2=>x1++x2) #[] (List.replicate x.toNat bn))},toks:=s.toks}) :=
 .of_wp fun prog w A R s h=>by
  obtain ⟨hp,g,d,tk,os⟩:=s;obtain ⟨hl,h⟩:=h
  wp_walk
  refine wpAny_ite ?_
  rw [if_neg h0]
  wp_walk
  refine wpAny_ite ?_
  rw [if_neg h3]
  wp_walk
  have cZ:(List.foldl (fun x1 x2:Array Value=>x1++x2) #[] (List.replicate x.toNat bn)).size≤sizeLine:=by
   obtain ⟨vs⟩:=bn
   rw [show (⟨vs⟩:Array Value)=vs.toArray from rfl,gU]
   simp only [Builtin.Tuple.tupleTooMany,decide_eq_true_eq,Int.not_lt] at h4
   simp only [Array.size_append,List.size_toArray,uo,List.length_nil]
   rw [show (⟨vs⟩:Array Value).size=vs.length from rfl] at h4
   simp only [Bool.or_eq_true,decide_eq_true_eq,not_or,Int.not_le] at h2
   have h5:((vs.length * x.toNat:Nat):Int)≤sizeLine:=by
    rw [Int.natCast_mul,Int.toNat_of_nonneg (by lia)]
    exact h4
   lia
  refine wpAny_ite_false (decide_eq_false (Nat.not_lt.mpr cZ)) ?_
  wp_walk
  exact ⟨_,rfl,h⟩
theorem iR {h:Heap} {a:Addr} {vs:Array Value} (x:h.IsTuple a vs):∃ n d sl,h.get? a=some {cls:=.type "tuple", dict:=d,data:=.seq vs n,slots:=sl}:=by
 obtain ⟨⟨cls,d,data,sl⟩,ho,hc,n,hd⟩:=x
 simp only at hc hd
 subst hc hd
 exact ⟨n,d,sl,ho⟩
theorem jD {h:Heap} {a:Addr} {vs:Array Value} (x:h.IsList a vs):∃ n d sl,h.get? a=some {cls:=.type "list", dict:=d,data:=.seq vs n,slots:=sl}:=by
 obtain ⟨⟨cls,d,data,sl⟩,ho,hc,n,hd⟩:=x
 simp only at hc hd
 subst hc hd
 exact ⟨n,d,sl,ho⟩
theorem fk (h:Heap) (vs:Array Value):(h.push {cls:=.type "tuple", data:=.seq vs}).IsTuple h.objs.size vs:=⟨_,Heap.get?_push_size _ rfl,rfl,_,rfl⟩
theorem lE (h:Heap) (vs:Array Value):(h.push {cls:=.type "list", data:=.seq vs}).PlainList h.objs.size vs:=⟨_,Heap.get?_push_size _ rfl⟩
theorem bq.nil_iff {h:Heap} {l:List V} {vs:List Value} (x:bq g φ h l vs):vs=[]↔l=[]:=by
 cases x <;> simp
theorem i7 {l:List V} {v:V} {af:ag} (h:oF σ l=some (v,af)):l.length≤sizeLine∧v=.tup l∧af=σ:=by
 refine dv h fun hz h=>?_
 apply dx h
 exact ⟨hz,rfl,rfl⟩
theorem fG {l:List V} {v:V} {af:ag} (h:xi σ l=some (v,af)):l.length≤sizeLine∧v=.ref σ.length∧af=σ++[.lst l]:=by
 refine dv h fun hz h=>?_
 apply dx h
 exact ⟨hz,rfl,rfl⟩
theorem BF {l m:List V} {ta tb:Addr} {vs ws:List Value} (hz:(l++m).length≤sizeLine) (R:ak g φ σ s.heap) (ht:s.heap.IsTuple ta vs.toArray) (GK:l.length≤an+1) (hv:bq g φ s.heap l vs) (hnl:ta∉φ) (hu:s.heap.IsTuple tb ws.toArray) (Ic:m.length≤an+1) (hw:bq g φ s.heap m ws) (yq:tb∉φ) :
  wpAny (model g.prog g.w) A (binaryOp .Add (.ref ta) (.ref tb)) (bG g φ s (.tup (l++m)) σ) E s:=by
 have FQ:=Nat.le_succ_of_le hz
 refine B6 (iR ht) fun n1 d1 s1 o1=>?_
 refine B6 (iR hu) fun n2 d2 s2 o2=>?_
 rw [List.length_append,hv.length,hw.length] at hz
 by_cases e1:vs=[]
 ·refine PySem.concat_meets ⟨_,o1,rfl⟩ ⟨_,o2,rfl⟩ noFill_tuple_add seq_tuple_add PySem.F.slot_tuple_add PySem.F.entry_tuple_add (PySem.F.args_tuple_add_2 _ _)
   (tuple_addW0 _ _ vs.toArray ws.toArray n1 n2 d1 d2 s1 s2 (by simp [e1])) ⟨o1,o2,?_⟩
  have:l=[]:=hv.nil_iff.mp e1
  apply aO this
  exact bG.here (tk:=s.toks) R (.tup hu Ic hw yq)
 ·by_cases e2:ws=[]
  ·refine PySem.concat_meets ⟨_,o1,rfl⟩ ⟨_,o2,rfl⟩ noFill_tuple_add seq_tuple_add PySem.F.slot_tuple_add PySem.F.entry_tuple_add (PySem.F.args_tuple_add_2 _ _)
    (tuple_addW1 _ _ vs.toArray ws.toArray n1 n2 d1 d2 s1 s2 (by simpa using e1) (by simp [e2])) ⟨o1,o2,?_⟩
   have:m=[]:=hw.nil_iff.mp e2
   apply aO this
   rw [List.append_nil]
   exact bG.here (tk:=s.toks) R (.tup ht GK hv hnl)
  ·refine PySem.concat_meets ⟨_,o1,rfl⟩ ⟨_,o2,rfl⟩ noFill_tuple_add seq_tuple_add PySem.F.slot_tuple_add PySem.F.entry_tuple_add (PySem.F.args_tuple_add_2 _ _)
    (tuple_addW2 _ _ vs.toArray ws.toArray n1 n2 d1 d2 s1 s2 (by simpa using e1) (by simpa using e2) (by rw [List.size_toArray,List.size_toArray];exact hz)) ⟨o1,o2,?_⟩
   rw [show vs.toArray++ws.toArray=(vs++ws).toArray from by simp]
   exact bG.newT R FQ (hv.append hw) (fun b o e=>Heap.get?_push_of_some _ e) (aC _) (fk _ _)
theorem CL {l:List V} {ta:Addr} {vs:List Value} {n:Int} {u:Tok} (hz:(pj l n.toNat).length≤sizeLine) (qN:2≤n) (vq:n≤100000) (Lc:l≠[]) (hn4:l.length≤100) (R:ak g φ σ s.heap) (ht:s.heap.IsTuple ta vs.toArray) (hv:bq g φ s.heap l vs) :
  wpAny (model g.prog g.w) A (binaryOp .Mult (.ref ta) (.int n u)) (bG g φ s (.tup (pj l n.toNat)) σ) E s:=by
 have FQ:=Nat.le_succ_of_le hz
 refine B6 (iR ht) fun n1 d1 s1 o1=>?_
 have Nd:=hv.length
 have eM:vs≠[]:=fun e=>Lc (hv.nil_iff.mp e)
 have cZ:(vs.toArray.size:Int) * n≤10000000:=by
  have h1:(vs.toArray.size:Int)≤100:=by simp;lia
  have h2:(0:Int)≤vs.toArray.size:=by lia
  calc (vs.toArray.size:Int) * n≤100 * n:=Int.mul_le_mul_of_nonneg_right h1 (by lia)
   _≤10000000:=by lia
 have h5:¬ ((sizeLine:Int)<(vs.toArray.size:Int) * n):=by rw [sizeLine_eq];lia
 refine wpAny_binaryOp_repeat_ref (T := "tuple") (U := "int") (by decide) ⟨_,o1,rfl⟩ (fun s'=>typeIs_int s' n u) kX PySem.F.fills_int_mul PySem.F.slot_int_rmul qq PySem.F.slot_int_index.lookup
  (call_meets PySem.F.slot_int_rmul (typeIs_int s n u) PySem.F.entry_int_rmul (PySem.F.args_int_rmul_2 _ _) (nq n u _ vs.toArray n1 d1 s1)
   ⟨o1,rfl,⟨_,o1,rfl⟩,call_meets PySem.F.slot_tuple_mul ⟨_,o1,rfl⟩ PySem.F.entry_tuple_mul (PySem.F.args_tuple_mul_2 _ _)
    (xU _ vs.toArray n1 d1 s1 n u (by simp;lia) (by simp;exact ⟨eM,by lia⟩) (by simp;exact ⟨by lia,eM⟩) (by lia) (by simpa [Builtin.Tuple.tupleTooMany] using h5))
    ⟨o1,?_⟩⟩)
 rw [gU,show (#[]:Array Value)++(pj vs n.toNat).toArray=(pj vs n.toNat).toArray from by simp]
 exact bG.newT R FQ (hv.rep _) (fun b o e=>Heap.get?_push_of_some _ e) (aC _) (fk _ _)
theorem BD {i j:Nat} {l m:List V} {ta tb:Addr} (hz:(l++m).length≤sizeLine) (R:ak g φ σ s.heap) (hi:φ[i]? = some ta) (hj:φ[j]? = some tb) (h1:lst σ i=some l) (h2:lst σ j=some m) :
  wpAny (model g.prog g.w) A (binaryOp .Add (.ref ta) (.ref tb)) (bG g φ s (.ref σ.length) (σ++[.lst (l++m)])) E s:=by
 have FQ:=Nat.le_succ_of_le hz
 refine fL (R.list hi h1) fun vs hl hv _=>?_
 refine fL (R.list hj h2) fun ws hm hw _=>?_
 refine B6 (jD hl.isList) fun n1 d1 s1 o1=>?_
 refine B6 (jD hm.isList) fun n2 d2 s2 o2=>?_
 rw [List.length_append,hv.length,hw.length] at hz
 refine PySem.concat_meets ⟨_,o1,rfl⟩ ⟨_,o2,rfl⟩ noFill_list_add seq_list_add PySem.F.slot_list_add PySem.F.entry_list_add (PySem.F.args_list_add_2 _ _)
  (list_addW _ _ vs.toArray ws.toArray n1 n2 d1 d2 s1 s2 (by simpa using hz)) ⟨o1,o2,?_⟩
 rw [show vs.toArray++ws.toArray=(vs++ws).toArray from by simp]
 exact bG.newL R FQ (hv.append hw) (fun b o e=>Heap.get?_push_of_some _ e) (aC _) (lE _ _)
theorem CJ {i:Nat} {l:List V} {ta:Addr} {n:Int} {u:Tok} (hz:(pj l n.toNat).length≤sizeLine) (qN:0≤n) (vq:n≤100000) (Lc:l.length≤100) (R:ak g φ σ s.heap) (hi:φ[i]? = some ta) (h1:lst σ i=some l) :
  wpAny (model g.prog g.w) A (binaryOp .Mult (.ref ta) (.int n u)) (bG g φ s (.ref σ.length) (σ++[.lst (pj l n.toNat)])) E s:=by
 have FQ:=Nat.le_succ_of_le hz
 refine fL (R.list hi h1) fun vs hl hv _=>?_
 refine B6 (jD hl.isList) fun n1 d1 s1 o1=>?_
 have Nd:=hv.length
 have zC:vs.toArray.size * n.toNat≤10000000:=by
  have h1:vs.toArray.size≤100:=by simp;exact Nat.le_trans (Nat.le_of_eq Nd.symm) Lc
  calc vs.toArray.size * n.toNat≤100 * n.toNat:=Nat.mul_le_mul_right _ h1
   _≤10000000:=by lia
 refine wpAny_binaryOp_repeat_ref (T := "list") (U := "int") (by decide) ⟨_,o1,rfl⟩ (fun s'=>typeIs_int s' n u) noFill_list_mul PySem.F.fills_int_mul PySem.F.slot_int_rmul repeat_list PySem.F.slot_int_index.lookup
  (call_meets PySem.F.slot_int_rmul (typeIs_int s n u) PySem.F.entry_int_rmul (PySem.F.args_int_rmul_2 _ _) (lm_int_rmul_list_any n u _ vs.toArray n1 d1 s1)
   ⟨o1,rfl,⟨_,o1,rfl⟩,call_meets PySem.F.slot_list_mul ⟨_,o1,rfl⟩ PySem.F.entry_list_mul (PySem.F.args_list_mul_2 _ _)
    (lm_list_mul_any _ vs.toArray n1 d1 s1 n u (by simp [Builtin.List.listFitsIndex];lia) (by lia) (by simp [Builtin.List.listTooLong,sizeLine];simp at zC;exact l1 0xc00000000000001000000d010b00000000000000989680d0 rfl zC))
    ⟨o1,?_⟩⟩)
 rw [listMul_foldl_if,show (vs.toArray.toList)=vs from rfl,←Gf]
 exact bG.newL R FQ (hv.rep _) (fun b o e=>Heap.get?_push_of_some _ e) (aC _) (lE _ _)
theorem BE {x y:V} {a b:Value} {v:V} {af:ag} (he:DK x y σ=some (v,af)) (R:ak g φ σ s.heap) (hx:VR g φ s.heap x a) (hy:VR g φ s.heap y b) :
  wpAny (model g.prog g.w) A (binaryOp .Add a b) (bG g φ s v af) E s:=by
 revert he;apply VR.el hx
 case int =>
  intro i t he
  refine aK he fun j hj he=>?_
  apply yw hj hy;intro u
  apply dx he
  exact PyProof.Rows.add_int (bG.here R (.int _ _))
 case str =>
  intro p t he
  refine aK he fun q hq he=>?_
  apply Nr hq hy;intro u
  refine dv he fun hz he=>?_
  apply dx he
  exact PyProof.Rows.add_str (fun t' tk=>bG.here R (.str _ _)) hz
 case tup =>
  intro _ _ _ ht GK hv hnl he
  refine aK he fun m hm he=>?_
  refine E0 (vT hm hy) fun tb ws q3 hu Ic hw yq=>?_;apply aO q3
  refine iY (i7 he) fun hz q2 q3=>?_;apply aO q2;apply aO q3
  exact BF hz R ht GK hv hnl hu Ic hw yq
 case ref =>
  intro _ _ hi he
  refine aK he fun j hj he=>?_
  apply Mq hj hy;intro tb hj
  refine aK he fun l h1 he=>?_
  refine aK he fun m h2 he=>?_
  refine iY (fG he) fun hz q2 q3=>?_;apply aO q2;apply aO q3
  exact BD hz R hi hj h1 h2
 case none=>intro he;exact no he
 case bool=>intro _ he;exact no he
 case ro=>intro _ _ _ _ _ _ he;exact no he
theorem CK {x y:V} {a b:Value} {v:V} {af:ag} (he:Em x y σ=some (v,af)) (R:ak g φ σ s.heap) (hx:VR g φ s.heap x a) (hy:VR g φ s.heap y b) :
  wpAny (model g.prog g.w) A (binaryOp .Mult a b) (bG g φ s v af) E s:=by
 refine aK he fun n hn he=>?_
 apply yw hn hy;intro u
 revert he;apply VR.el hx
 case int =>
  intro i t he
  refine dv he fun hm he=>?_
  apply dx he
  refine PyProof.Rows.mul_int (bG.here R (.int _ _)) ?_
  simp only [lJ,Bool.or_eq_true,decide_eq_true_eq] at hm
  refine Or.elim hm (fun hm=>?_) (fun hm=>?_)
  ·exact IntMulOk.of_left (u0 hm)
  ·exact IntMulOk.of_right (u0 hm)
 case tup =>
  intro _ _ _ ht GK hv hnl he
  obtain ⟨⟨h1,h2,h3,h4⟩,he⟩:=cJ he
  refine iY (i7 he) fun hz q2 q3=>?_;apply aO q2;apply aO q3
  exact CL hz h1 h2 h3 h4 R ht hv
 case ref =>
  intro _ _ hi he
  refine aK he fun l hl he=>?_
  obtain ⟨⟨h1,h2,h3⟩,he⟩:=cJ he
  refine iY (fG he) fun hz q2 q3=>?_;apply aO q2;apply aO q3
  exact CJ hz h1 h2 h3 R hi hl
 case none=>intro he;exact no he
 case bool=>intro _ he;exact no he
 case str=>intro _ _ he;exact no he
 case ro=>intro _ _ _ _ _ _ he;exact no he
theorem qh {f:Int→Int→Option Int} {op:Operator} {x y:V} {a b:Value} {v:V} {af:ag} (he:vw f x y σ=some (v,af)) (hx:VR g φ s.heap x a) (hy:VR g φ s.heap y b)
  (k:∀ i j z t u,f i j=some z→wpAny (model g.prog g.w) A (binaryOp op (.int i t) (.int j u)) (bG g φ s (.int z) σ) E s):wpAny (model g.prog g.w) A (binaryOp op a b) (bG g φ s v af) E s:=by
 refine aK he fun i hi he=>?_
 refine aK he fun j hj he=>?_
 refine aK he fun z hz he=>?_
 apply yw hi hx;intro t
 apply yw hj hy;intro u
 apply dx he
 exact k i j z t u hz
theorem t7 {α:Type} {c:Prop} [Decidable c] {x:Option α} {r:α} (h:(if c then none else x)=some r):¬ c∧x=some r:=by
 by_cases hc:c
 ·rw [if_pos hc] at h;exact no h
 ·rw [if_neg hc] at h;exact ⟨hc,h⟩
theorem BO {op:Operator} {x y:V} {a b:Value} {v:V} {af:ag} (he:jP op x y σ=some (v,af)) (R:ak g φ σ s.heap) (hx:VR g φ s.heap x a) (hy:VR g φ s.heap y b) :
  wpAny (model g.prog g.w) A (binaryOp op a b) (bG g φ s v af) E s:=by
 cases op with
 | Add=>exact BE he R hx hy
 | Mult=>exact CK he R hx hy
 | Sub=>exact qh he hx hy fun i j z t u h=>by apply db h;exact PyProof.Rows.sub_int (bG.here R (.int _ _))
 | FloorDiv =>
  refine qh he hx hy fun i j z t u h=>?_
  ·refine aJ (t7 h) fun hm h=>?_
   apply db h
   simp only [not_or,Nat.not_le] at hm
   exact PyProof.Rows.floordiv_int hm.1 (bG.here R (.int _ _)) (.inl (PyProof.noPylong_small hm.2))
 | Mod =>
  refine qh he hx hy fun i j z t u h=>?_
  ·refine aJ (t7 h) fun hm h=>?_
   apply db h
   exact PyProof.Rows.mod_int' hm (bG.here R (.int _ _))
 | _=>exact no he
end
end Lar
namespace Lar
open PySem PyProof.Rows PySem.Calls PySem.SeqAt
structure gS (A:Around) (d:Nat):Prop where
 handled:A.handled=none
 depth:A.depth+d≤600
 units:A.units+3 * d≤9000
section
variable {g:G} {A:Around} {E:Value→Shared→Prop} {φ:List Addr} {σ:ag} {s:Shared}
theorem rK:∀ {vs:List Value} {ns ms:List Int},IntsAre vs ns→IntsAre vs ms→ns=ms
 | _,_,_,.nil,.nil=>rfl
 | _,_,_,.cons n t h,.cons _ _ h'=>by rw [rK h h']
inductive uU (g:G) (φ:List Addr) (h:Heap) (a:Addr):V→Prop
 | tup {l:List V} {vs:List Value}:h.IsTuple a vs.toArray→bq g φ h l vs→a∉φ→uU g φ h a (.tup l)
 | ref {n:Nat}:φ[n]? = some a→uU g φ h a (.ref n)
 | ro {ns:List Int} {vs:List Value}:g.B.IsList a vs.toArray→IntsAre vs ns→uU g φ h a (.ro ns)
theorem VR.ofRef {h:Heap} {v:V} {a:Addr} (x:VR g φ h v (.ref a)):uU g φ h a v:=by
 cases x with
 | tup h1 _ h2 h3=>exact .tup h1 h2 h3
 | ref h1=>exact .ref h1
 | ro h1 _ h2=>exact .ro h1 h2
theorem xT {h:Heap} {a:Addr} {vs ws:List Value} (x:h.IsTuple a vs.toArray) (y:h.IsTuple a ws.toArray):vs=ws:=by
 obtain ⟨o,ho,_,n,hd⟩:=x
 obtain ⟨o',jU,_,n',jI⟩:=y
 obtain rfl:=Option.some.inj (ho.symm.trans jU)
 injection hd.symm.trans jI with e _
 exact congrArg Array.toList e
theorem xf {h:Heap} {a:Addr} {vs ws:List Value} (x:h.IsList a vs.toArray) (y:h.IsList a ws.toArray):vs=ws:=by
 obtain ⟨o,ho,_,n,hd⟩:=x
 obtain ⟨o',jU,_,n',jI⟩:=y
 obtain rfl:=Option.some.inj (ho.symm.trans jU)
 injection hd.symm.trans jI with e _
 exact congrArg Array.toList e
theorem A1 {h:Heap} {a:Addr} {vs ws:List Value} {C:Prop} (R:ak g φ σ h) (x:h.IsTuple a vs.toArray) (y:g.B.IsList a ws.toArray):C:=by
 refine fL x fun o ho hc _=>?_
 refine fL y fun o' jU dG _=>?_
 obtain rfl:=Option.some.inj (ho.symm.trans (R.base _ _ jU))
 rw [hc] at dG;exact absurd dG.symm oB
theorem Av {h:Heap} {a:Addr} {n:Nat} {ws:List Value} {C:Prop} (R:ak g φ σ h) (x:φ[n]? = some a) (y:g.B.IsList a ws.toArray):C:=by
 refine au y fun o' jU _=>?_
 rw [R.fresh _ (List.mem_of_getElem? x)] at jU;cases jU
theorem bq.inj {h:Heap} (R:ak g φ σ h) {l l':List V} {vs:List Value} (x:bq g φ h l vs) (y:bq g φ h l' vs):l=l':=by
 refine bq.rec (motive_1:=fun v a _=>∀ v',VR g φ h v' a→v=v') (motive_2:=fun l vs _=>∀ l',bq g φ h l' vs→l=l') ?_ ?_ ?_ ?_ ?_ ?_ ?_ ?_ ?_ x l' y
 ·intro v' x;cases x;rfl
 ·intro b v' x;cases x;rfl
 ·intro i t v' x;cases x;rfl
 ·intro i t v' x;cases x;rfl
 ·intro l a vs h1 _ h2 hn ih v' x
  cases x.ofRef with
  | tup Gy Ki _ =>
   obtain rfl:=xT h1 Gy
   rw [ih _ Ki]
  | ref e=>exact absurd (List.mem_of_getElem? e) hn
  | ro hl _=>exact A1 R h1 hl
 ·intro n a e v' x
  cases x.ofRef with
  | tup _ _ hn=>exact absurd (List.mem_of_getElem? e) hn
  | ref e'=>rw [r6 R.nodup e e']
  | ro hl _=>exact Av R e hl
 ·intro ns a vs hl _ hi v' x
  cases x.ofRef with
  | tup h1 _ _=>exact A1 R h1 hl
  | ref e=>exact Av R e hl
  | ro ed jA =>
   obtain rfl:=xf hl ed
   rw [rK hi jA]
 ·intro l' y;cases y;rfl
 ·intro v a l vs _ _ cG Br l' y
  cases y with
  | cons hv hr=>rw [cG _ hv,Br _ hr]
theorem VR.inj {h:Heap} (R:ak g φ σ h) {v v':V} {a:Value} (x:VR g φ h v a) (y:VR g φ h v' a):v=v' :=
 (List.cons.inj (bq.inj R (.cons x .nil) (.cons y .nil))).1
theorem jx {f:V→V→Option Bool} (hf:∀ x b,f x x=some b→b=true):∀ (l:List V) (b:Bool),ji f l l=some b→b=true
 | [],b,h=>(sm h).symm
 | x::xs,b,h=>by
  refine aK h fun c h1 h=>?_
  refine aK h fun d h2 h=>?_
  apply db h
  rw [hf x c h1,jx hf xs d h2];rfl
theorem rt:∀ (n:Nat) (x:V) (b:Bool),E3 n x x=some b→b=true
 | 0,_,_,h=>no h
 | n+1,x,b,h=>by
  cases x with
  | none=>exact (sm h).symm
  | bool p=>exact (sm h).symm.trans (beq_self_eq_true p)
  | int p=>exact (sm h).symm.trans (beq_self_eq_true p)
  | str p=>exact (sm h).symm.trans (beq_self_eq_true p)
  | tup l=>exact jx (rt n) l b h
  | ref _=>exact no h
  | ro _=>exact no h
theorem im {f:V→V→Option Bool} {P:Value→Value→Bool→Prop} {h:Heap}
  (hf:∀ x y a b c,f x y=some c→VR g φ h x a→VR g φ h y b→P a b c):∀ {l m:List V} {vs ws:List Value} {c:Bool},ji f l m=some c→bq g φ h l vs→bq g φ h m ws →
  ∃ e:Nat→Bool,(∀ (j:Nat) (h1:j<vs.length) (h2:j<ws.length),P vs[j] ws[j] (e j))∧c=((List.range (min vs.length ws.length)).all e&&vs.length==ws.length)
 | [],m,_,_,c,hc,hv,hw=>by
  cases hv
  refine ⟨fun _=>true,fun j h1=>absurd h1 (Nat.not_lt_zero _),?_⟩
  have hl:=hw.length
  cases m with
  | nil =>
   apply db hc
   rw [List.length_eq_zero_iff.mp (hl.symm.trans rfl)];rfl
  | cons y ys =>
   apply db hc
   rw [←hl];rfl
 | x::xs,[],_,_,c,hc,hv,hw=>by
  apply db hc
  have hl:=hv.length
  have Jp:=List.length_eq_zero_iff.mp hw.length.symm
  apply aO Jp
  refine ⟨fun _=>true,fun j _ h2=>absurd h2 (Nat.not_lt_zero _),?_⟩
  rw [←hl];rfl
 | x::xs,y::ys,_,_,c,hc,GJ,hw0=>by
  cases GJ with
  | @cons _ a _ vs hv hr =>
   cases hw0 with
   | @cons _ b _ ws hw hs =>
    refine aK hc fun p h1 hc=>?_
    refine aK hc fun q h2 hc=>?_
    apply db hc
    refine au (im hf h2 hr hs) fun e he q3=>?_;apply aO q3
    refine ⟨fun j=>match j with | 0=>p | j+1=>e j,fun j Gy Ki=>?_,?_⟩
    ·cases j with
     | zero=>exact hf x y a b p h1 hv hw
     | succ j=>exact he j (by simpa using Gy) (by simpa using Ki)
    ·rw [List.length_cons,List.length_cons,Nat.succ_min_succ,List.range_succ_eq_map,List.all_cons,List.all_map]
     simp [Bool.and_assoc,Function.comp_def]
set_option tactic.hygienic true in
theorem ve {n:Nat} (R:ak g φ σ s.heap):∀ {A:Around} {x y:V} {a b:Value} {c:Bool},A.units+n<cLine→E3 n x y=some c→VR g φ s.heap x a→VR g φ s.heap y b→EqAt A s a b c∧RcAt A s a b c∧RcNeAt A s a b (!c):=by
 induction n with
 | zero=>intro A x y a b c _ h;exact no h
 | succ n ih =>
  intro A x y a b c hu h hx hy
  revert h;apply VR.el hx
  case none =>
   intro h
   revert h;apply VR.el hy
   case none=>intro h;apply db h;exact ⟨EqAt.same _,RcAt.none_none,RcNeAt.none_none⟩
   case int=>intro i t h;apply db h;exact ⟨EqAt.none_int _ _,RcAt.none_int _ _,RcNeAt.none_int _ _⟩
   case tup=>intro _ _ _ ht _ _ _ h;apply db h;exact ⟨EqAt.none_tuple ht (l3 0x1c2011b2aa1810 rfl hu),RcAt.none_tuple ht (l3 0x1c2011b2aa1810 rfl hu),RcNeAt.none_tuple ht (l3 0x1c2011b2aa1810 rfl hu)⟩
   all_goals (intros;rename_i h;exact no h)
  case bool =>
   intro p h
   revert h;apply VR.el hy
   case bool=>intro q h;apply db h;exact ⟨EqAt.bool_bool _ _,RcAt.bool_bool _ _,RcNeAt.bool_bool _ _⟩
   all_goals (intros;rename_i h;exact no h)
  case int =>
   intro i t h
   revert h;apply VR.el hy
   case none=>intro h;apply db h;exact ⟨EqAt.int_none _ _,RcAt.int_none _ _,RcNeAt.int_none _ _⟩
   case int=>intro j u h;apply db h;exact ⟨EqAt.int_int _ _ _ _,RcAt.int_int _ _ _ _,RcNeAt.int_int _ _ _ _⟩
   all_goals (intros;rename_i h;exact no h)
  case str =>
   intro p t h
   revert h;apply VR.el hy
   case str=>intro q u h;apply db h;exact ⟨EqAt.str_str _ _ _ _,RcAt.str_str _ _ _ _,RcNeAt.str_str _ _ _ _⟩
   all_goals (intros;rename_i h;exact no h)
  case tup =>
   intro l ta vs ht GK hv hnl h
   revert h;apply VR.el hy
   case none=>intro h;apply db h;exact ⟨EqAt.tuple_none ht (l3 0x1c2011b2aa1810 rfl hu),RcAt.tuple_none ht (l3 0x1c2011b2aa1810 rfl hu),RcNeAt.tuple_none ht (l3 0x1c2011b2aa1810 rfl hu)⟩
   case tup =>
    intro m tb ws LF Ic hw yq h
    refine au (im (P:=fun a b c=>EqAt A.in1 s a b c) (fun x y a b c h1 h2 h3=>(ih (A:=A.in1) (by simp;exact l3 0x1c2a1a18011b2aa1810 rfl hu) h1 h2 h3).1) h hv hw) fun e he q3=>?_;subst q3
    have fg:=RcAt.tuples (A:=A) (e:=e) ht LF (l3 0x1c2011b2aa1810 rfl hu) (fun j h1 h2=>he j (by simpa using h1) (by simpa using h2))
    have Ip:=RcNeAt.tuples (A:=A) (e:=e) ht LF (l3 0x1c2011b2aa1810 rfl hu) (fun j h1 h2=>he j (by simpa using h1) (by simpa using h2))
    simp only [List.size_toArray] at fg Ip
    refine ⟨?_,fg,Ip⟩
    by_cases Bm:ta=tb
    ·subst Bm
     have GG:l=m:=by
      have:=VR.inj R (.tup ht GK hv hnl) (.tup LF Ic hw yq)
      injection this
     subst GG
     have:=jx (rt n) l _ h
     rw [this]
     exact EqAt.same _
    ·exact EqAt.of_refs Bm fg
   all_goals (intros;rename_i h;exact no h)
  case ref=>intro _ _ _ h;exact no h
  case ro=>intro _ _ _ _ _ _ h;exact no h
end
section
variable {g:G} {A:Around} {E:Value→Shared→Prop} {φ:List Addr} {σ:ag} {s:Shared}
theorem z9 {i j:Nat} {ta tb:Addr} {l m:List V} {c:Bool} (he:(if l.length=m.length then (if l.length=0 then some true else E5 l m) else some false)=some c) (hA:A.units+8<cLine) (R:ak g φ σ s.heap) (hi:φ[i]? = some ta) (hj:φ[j]? = some tb) (h1:lst σ i=some l) (h2:lst σ j=some m) :
  RcAt A s (.ref ta) (.ref tb) c∧RcNeAt A s (.ref ta) (.ref tb) (!c):=by
 have hu:A.units<cLine:=l2 0x1c1011b1a880 rfl hA
 refine fL (R.list hi h1) fun vs hl Nf _=>?_
 refine fL (R.list hj h2) fun ws hm Ni _=>?_
 have hv:=Nf.length
 have hw:=Ni.length
 by_cases hlen:l.length=m.length
 ·rw [if_pos hlen] at he
  have lC:vs.length=ws.length:=hv.symm.trans (hlen.trans hw)
  by_cases h0:l.length=0
  ·rw [if_pos h0] at he
   apply db he
   have Bl:vs.toArray.size=0:=hv.symm.trans h0
   exact ⟨RcAt.lists (A:=A) (e:=fun _=>true) hl.isList hm.isList lC hu (fun j h1 h2=>absurd h1 (by rw [Bl];exact Nat.not_lt_zero _)) |> fun k=>by simpa [Bl] using k,RcNeAt.lists (A:=A) (e:=fun _=>true) hl.isList hm.isList lC hu (fun j h1 h2=>absurd h1 (by rw [Bl];exact Nat.not_lt_zero _)) |> fun k=>by simpa [Bl] using k⟩
  ·rw [if_neg h0] at he
   refine au (im (P:=fun a b c=>EqAt A.in1 s a b c) (fun x y a b c h1 h2 h3=>(ve R (n:=6) (A:=A.in1) (by simp;exact l2 0x1c1a68a18011b1a880 rfl hA) h1 h2 h3).1) he Nf Ni) fun e MX q3=>?_;apply aO q3
   have k1:=RcAt.lists (A:=A) (e:=e) hl.isList hm.isList (by simpa using lC) hu (fun j h1 h2=>MX j (by simpa using h1) (by simpa using h2))
   have k2:=RcNeAt.lists (A:=A) (e:=e) hl.isList hm.isList (by simpa using lC) hu (fun j h1 h2=>MX j (by simpa using h1) (by simpa using h2))
   simp only [List.size_toArray] at k1 k2
   simp only [lC,Nat.min_self,beq_self_eq_true,Bool.and_true] at k1 k2 ⊢
   exact ⟨k1,k2⟩
 ·rw [if_neg hlen] at he
  apply db he
  have lC:¬ vs.length=ws.length:=fun q=>hlen (hv.trans (q.trans hw.symm))
  exact ⟨RcAt.lists_lengths hl.isList hm.isList (by simpa using lC) hu,RcNeAt.lists_lengths hl.isList hm.isList (by simpa using lC) hu⟩
set_option tactic.hygienic true in
theorem zf {x y:V} {a b:Value} {c:Bool} (he:CR σ x y=some c) (hA:A.units+8<cLine) (R:ak g φ σ s.heap) (hx:VR g φ s.heap x a) (hy:VR g φ s.heap y b) :
  RcAt A s a b c∧RcNeAt A s a b (!c):=by
 have aU:Jc x y=some c→RcAt A s a b c∧RcNeAt A s a b (!c):=fun h=>(ve R (n:=6) (l2 0x1c1a68011b1a880 rfl hA) h hx hy).2
 have hu:A.units<cLine:=l2 0x1c1011b1a880 rfl hA
 revert he aU;apply VR.el hx
 case ref =>
  intro _ _ hi he aU
  refine aK he fun l hl he=>?_
  refine au (R.list hi hl) fun vs ed _=>?_
  revert aU he;apply VR.el hy
  case ref =>
   intro _ _ hj aU he
   refine aK he fun m hm he=>?_
   exact z9 he hA R hi hj hl hm
  case none=>intro aU he;apply db he;exact ⟨RcAt.list_none ed.isList hu,RcNeAt.list_none ed.isList hu⟩
  case tup=>intro _ _ _ ht _ _ _ aU he;apply db he;exact ⟨RcAt.list_tuple ed.isList ht hu,RcNeAt.list_tuple ed.isList ht hu⟩
  all_goals (intros;rename_i aU he;exact no he)
 case none =>
  intro he aU
  revert he aU;apply VR.el hy
  case ref =>
   intro _ _ hj he aU
   refine aK he fun m hm he=>?_
   apply db he
   refine au (R.list hj hm) fun vs ed _=>?_
   exact ⟨RcAt.none_list ed.isList hu,RcNeAt.none_list ed.isList hu⟩
  all_goals (intros;rename_i he aU;exact aU he)
 case tup =>
  intro _ _ _ ht hz hv _ he aU
  revert he aU;apply VR.el hy
  case ref =>
   intro _ _ hj he aU
   refine aK he fun m hm he=>?_
   apply db he
   refine au (R.list hj hm) fun vs ed _=>?_
   exact ⟨RcAt.tuple_list ht ed.isList hu,RcNeAt.tuple_list ht ed.isList hu⟩
  all_goals (intros;rename_i he aU;exact aU he)
 all_goals (intros;rename_i he aU;exact aU he)
theorem F5 {x y:V} {a b:Value} {c:Bool} (he:((CR σ x y).bind fun c=>some (!c))=some c) (hA:A.units+8<cLine) (R:ak g φ σ s.heap) (hx:VR g φ s.heap x a) (hy:VR g φ s.heap y b):RcNeAt A s a b c:=by
 refine aK he fun d hd he=>?_
 apply db he
 exact (zf hd hA R hx hy).2
theorem mx {f:Int→Int→Bool} {op:CmpOp} {x y:V} {a b:Value} {c:Bool} {Q:Value→Shared→Prop} (he:nr f x y=some c) (hx:VR g φ s.heap x a) (hy:VR g φ s.heap y b) (h:Q (.bool c) s)
  (k:∀ i j t u,Q (.bool (f i j)) s→wpAny (model g.prog g.w) A (compareOp op (.int i t) (.int j u)) Q E s):wpAny (model g.prog g.w) A (compareOp op a b) Q E s:=by
 refine aK he fun i hi he=>?_
 refine aK he fun j hj he=>?_
 obtain rfl:=sm he
 refine Exists.elim (vI hi hx) fun t q2=>?_;subst q2
 refine Exists.elim (vI hj hy) fun u q2=>?_;subst q2
 exact k i j t u h
theorem vD {h:Heap} {x:V} {a:Value} (hx:VR g φ h x a):(Ju x=true∧a=.none)∨(Ju x=false∧a≠.none):=by
 apply VR.el hx
 case none=>skip;exact .inl ⟨rfl,rfl⟩
 all_goals (intros;exact .inr ⟨rfl,fun e=>nomatch e⟩)
set_option tactic.hygienic true in
theorem FV {x y:V} {a b:Value} {c:Bool} {Q:Value→Shared→Prop} (he:Ij x y=some c) (hx:VR g φ s.heap x a) (hy:VR g φ s.heap y b) (h:Q (.bool c) s):wpAny (model g.prog g.w) A (compareOp .Is a b) Q E s:=by
 revert he;apply VR.el hy
 case none =>
  intro he
  obtain rfl:=sm he
  rcases vD hx with ⟨h1,rfl⟩ | ⟨h1,h2⟩
  ·rw [h1] at h;exact is_none_none h
  ·rw [h1] at h;exact is_none_ne h2 h
 all_goals (intros;rename_i he;exact no he)
set_option tactic.hygienic true in
theorem xb {x y:V} {a b:Value} {c:Bool} {Q:Value→Shared→Prop} (he:Eg x y=some c) (hx:VR g φ s.heap x a) (hy:VR g φ s.heap y b) (h:Q (.bool c) s):wpAny (model g.prog g.w) A (compareOp .IsNot a b) Q E s:=by
 revert he;apply VR.el hy
 case none =>
  intro he
  obtain rfl:=sm he
  rcases vD hx with ⟨h1,rfl⟩ | ⟨h1,h2⟩
  ·rw [h1] at h;exact isnot_none_none h
  ·rw [h1] at h;exact isnot_none_ne h2 h
 case bool =>
  intro q he
  refine aK he fun p hp he=>?_
  obtain rfl:=sm he
  obtain rfl:=vB hp hx
  refine wpAny_isNot_plain (by cases p <;> cases q <;> rfl) ?_
  have:(!(Value.bool p==Value.bool q))=(p != q):=by cases p <;> cases q <;> rfl
  rw [this];exact h
 all_goals (intros;rename_i he;exact no he)
theorem u7 {op:CmpOp} {x y:V} {a b:Value} {c:Bool} {Q:Value→Shared→Prop} (he:mK op x y σ=some c) (hA:A.units+8<cLine) (R:ak g φ σ s.heap) (hx:VR g φ s.heap x a) (hy:VR g φ s.heap y b)
  (h:Q (.bool c) s):wpAny (model g.prog g.w) A (compareOp op a b) Q E s:=by
 cases op with
 | Eq=>exact (zf he hA R hx hy).1 g.prog g.w E Q h
 | NotEq=>exact (F5 he hA R hx hy) g.prog g.w E Q h
 | Lt=>exact mx he hx hy h fun i j t u q=>PyProof.Rows.lt_int q
 | LtE=>exact mx he hx hy h fun i j t u q=>PyProof.Rows.le_int q
 | Gt=>exact mx he hx hy h fun i j t u q=>PyProof.Rows.gt_int q
 | GtE=>exact mx he hx hy h fun i j t u q=>PyProof.Rows.ge_int q
 | Is=>exact FV he hx hy h
 | IsNot=>exact xb he hx hy h
 | In=>exact no he
 | NotIn=>exact no he
theorem vv {l:List V} {y:V} {v:V} {b:Value} (he:zK l y=some v) (hy:VR g φ s.heap y b):∃ k u,b=.int k u∧0≤k∧l[k.toNat]? = some v:=by
 refine aK he fun k hk he=>?_
 apply yw hk hy;intro u
 refine dv he fun h0 he=>?_
 exact ⟨k,u,rfl,h0,he⟩
theorem rJ {l:List V} {y:V} {ta:Addr} {vs:List Value} {b:Value} {v:V} (he:zK l y=some v) (R:ak g φ σ s.heap) (ht:s.heap.IsTuple ta vs.toArray) (hz:l.length≤an+1) (hv:bq g φ s.heap l vs) (hy:VR g φ s.heap y b) :
  wpAny (model g.prog g.w) A (getItem (.ref ta) b) (bG g φ s v σ) E s:=by
 refine kF (vv he hy) fun k u q3 hk he=>?_;apply aO q3
 refine au (hv.get he) fun a h1 h2=>?_
 have bQ:k.toNat<l.length:=(List.getElem?_eq_some_iff.mp he).1
 have wS:k.toNat<vs.length:=by rw [←hv.length];exact bQ
 have cZ:an+1=16777217:=rfl
 refine getItem_tuple (j:=k.toNat) ht (by lia) (by lia) ?_ (by simpa using h1) (bG.here (tk:=s.toks) R h2)
 unfold seqIndex?
 simp only [List.size_toArray]
 have h3:¬ k<0:=by lia
 have h4:¬ (k<0∨k ≥ vs.length):=by lia
 simp [h3]
 lia
theorem rI {p:Str} {t:Tok} {y:V} {b:Value} {v:V} (he:((mE y).bind fun k=>if 0≤k∧k<4611686018427387904 then (p.cps[k.toNat]?).bind (fun c=>some (.str ⟨#[c]⟩)) else none)=some v) (R:ak g φ σ s.heap) (hy:VR g φ s.heap y b) :
  wpAny (model g.prog g.w) A (getItem (.str p t) b) (bG g φ s v σ) E s:=by
 refine aK he fun k hk he=>?_
 apply yw hk hy;intro u
 refine dv he fun hk he=>?_
 refine aK he fun c hc he=>?_
 apply db he
 have bQ:k.toNat<p.cps.size:=(Array.getElem?_eq_some_iff.mp hc).1
 refine PySem.P.getItem_str (c:=c) ?_ ?_ (bG.here R (.str _ _))
 ·simp;lia
 ·have h3:¬ k<0:=by lia
  have h4:(decide (0≤k)&&decide (k<(p.cps.size:Int)))=true:=by simp;lia
  unfold seqIndex?
  simp only [Str.length,h3,if_false,h4,if_true,Option.bind_some]
  exact hc
theorem rH {r:Nat} {ta:Addr} {m:aZ} {y:V} {b:Value} {v:V} (he:FR y m=some v) (R:ak g φ σ s.heap) (hr:φ[r]? = some ta) (hm:σ[r]? = some m) (hy:VR g φ s.heap y b) :
  (∃ T id,s.TypeIs (.ref ta) T∧typeLookup (.type T) "__getitem__" = pure (some (.builtin id)))∧wpAny (model g.prog g.w) A (getItem (.ref ta) b) (bG g φ s v σ) E s:=by
 revert he;apply MR.el (R.objs _ _ _ hr hm)
 case lst =>
  intro _ _ hl hz hv he
  refine kF (vv he hy) fun k u q3 hk he=>?_;apply aO q3
  refine au (hv.get he) fun a h3 h4=>?_
  have bQ:=(List.getElem?_eq_some_iff.mp he).1
  have cZ:an+1=16777217:=rfl
  exact ⟨⟨"list", _,hl.isList.typeIs,slot_list_getitem.lookup⟩,wpAny_getItem_list hl.isList hk (by lia) (by simpa using h3) (bG.here (tk:=s.toks) R h4)⟩
 case own=>intro _ _ _ he;exact no he
 case wd=>intro _ _ _ _ _ he;exact no he
 case exn=>intro _ _ _ _ _ _ _ _ _ _ he;exact no he
 case tab=>intro _ _ _ _ _ he;exact no he
set_option tactic.hygienic true in
theorem Ct {x y:V} {a b:Value} {v:V} (he:iz x y σ=some v) (R:ak g φ σ s.heap) (hx:VR g φ s.heap x a) (hy:VR g φ s.heap y b) :
  (∃ T id,s.TypeIs a T∧typeLookup (.type T) "__getitem__" = pure (some (.builtin id)))∧wpAny (model g.prog g.w) A (getItem a b) (bG g φ s v σ) E s:=by
 revert he;apply VR.el hx
 case tup=>intro _ _ _ ht hz hv _ he;exact ⟨⟨"tuple", _,ht.typeIs,PySem.F.slot_tuple_getitem.lookup⟩,rJ he R ht hz hv hy⟩
 case str=>intro p t he;exact ⟨⟨"str", _,typeIs_str s p t,PySem.F.slot_str_getitem.lookup⟩,rI he R hy⟩
 case ref =>
  intro _ _ hr he
  refine aK he fun m hm he=>?_
  exact rH he R hr hm hy
 all_goals (intros;rename_i he;exact no he)
end
inductive mC:Value→V→Prop
 | none:mC .none .none
 | int (k:Int) (t:Tok):mC (.int k t) (.int k)
noncomputable def iD:V→Option Int
 | .int k=>some k
 | _=>none
section
variable {g:G} {A:Around} {E:Value→Shared→Prop} {φ:List Addr} {σ:ag} {s:Shared}
theorem zb {α:Type} (l:List α) (i j:Nat):u8 l i j=(l.drop (min i l.length)).take (j - min i l.length):=by
 unfold u8
 rw [List.drop_take]
 by_cases h:i≤l.length
 ·rw [Nat.min_eq_left h]
 ·rw [Nat.min_eq_right (Nat.le_of_lt (Nat.not_le.mp h)),List.drop_eq_nil_of_le (Nat.le_of_lt (Nat.not_le.mp h)),List.drop_eq_nil_of_le (Nat.le_refl _)]
  simp
theorem Ci {n j:Nat} {hi:V} (h:ot n hi=some j):j≤n:=by
 unfold ot at h
 split at h
 ·cases h;exact Nat.le_refl _
 ·split at h
  ·cases h;exact Nat.min_le_left _ _
  ·cases h
 ·cases h
theorem r8 {a:Value} {v:V} (h:mC a v):∃ p:Option (Int×Tok),a=partValue p∧p.map (·.1)=iD v:=by
 cases h with
 | none=>exact ⟨none,rfl,rfl⟩
 | int k t=>exact ⟨some (k,t),rfl,rfl⟩
theorem rf (k:Int) (n:Nat) (hk:0≤k):max 0 (min (if k<0 then k+(n:Int) else k) (n:Int))=((min k.toNat n:Nat):Int):=by
 rw [if_neg (Int.not_lt.mpr hk),Int.max_eq_right (Int.le_min.mpr ⟨hk,Int.natCast_nonneg n⟩)]
 exact (Nat.le_total k.toNat n).elim (fun h=>by rw [Nat.min_eq_left h,Int.toNat_of_nonneg hk,Int.min_eq_left (Int.toNat_le.mp h)]) (fun h=>by rw [Nat.min_eq_right h,Int.min_eq_right ((Int.le_toNat hk).mp h)])
noncomputable def u4 (v:Option Int) (d n:Int):Int:=match v with | none=>d | some i=>max 0 (min (if i<0 then i+n else i) n)
theorem BX {lo:V} {i:Nat} (n:Nat) (h:rQ lo=some i):u4 (iD lo) 0 n=((min i n:Nat):Int):=by
 cases lo with
 | none=>rw [←sm h,Nat.zero_min];rfl
 | int k=>have z:=cJ h;rw [←sm z.2];exact rf k n z.1.1
 | _=>exact nomatch h
theorem BW {hi:V} {j n:Nat} (h:ot n hi=some j):u4 (iD hi) n n=(j:Int):=by
 cases hi with
 | none=>rw [←sm h];rfl
 | int k=>have z:=cJ h;rw [←sm z.2,Nat.min_comm];exact rf k n z.1.1
 | _=>exact nomatch h
theorem xo (i j:Nat):sliceRange (i:Int) (j:Int) 1=(List.range (j - i)).map fun k=>i+k:=by
 unfold sliceRange
 have h2:(1:Int) > 0:=by decide
 simp only [h2,if_true,Int.ediv_one,Int.one_mul]
 have hc:(if (i:Int)<(j:Int) then (j:Int) - (i:Int)+1 - 1 else 0).toNat=j - i:=by
  rw [Int.add_sub_cancel]
  split
  ·exact Int.toNat_sub j i
  ·exact (Nat.sub_eq_zero_of_le (Nat.le_of_not_lt fun x=>‹¬_› (Int.ofNat_lt.mpr x))).symm
 rw [hc]
 exact List.map_congr_left fun k _=>Int.toNat_natCast (i+k)
theorem sM {lo hi:V} {i j n:Nat} (jA:rQ lo=some i) (hj:ot n hi=some j):Builtin.Str.strSliceIndices (iD lo) (iD hi) 1 n=(List.range (j - min i n)).map fun k=>min i n+k:=by
 have e:Builtin.Str.strSliceIndices (iD lo) (iD hi) 1 n=sliceRange (u4 (iD lo) 0 n) (u4 (iD hi) n n) 1:=by
  cases iD lo <;> cases iD hi <;> rfl
 rw [e,BX n jA,BW hj]
 exact xo _ _
theorem AV {j m n:Nat} (h:j - m=n) (hj:j≤n):j=n:=Nat.le_antisymm hj (h ▸ Nat.sub_le j m)
theorem xP {m:Nat}:∀ {n:Nat},n - m=n→m=0∨n=0:=by
 intro n h
 cases m with
 | zero=>exact .inl rfl
 | succ m =>
  cases n with
  | zero=>exact .inr rfl
  | succ n=>exact absurd (Nat.lt_succ_of_le (Nat.succ_sub_succ n m ▸ Nat.sub_le n m)) (h.symm ▸ Nat.lt_irrefl _)
set_option tactic.hygienic true in
theorem xO {x:Str} {t:Tok} {sl:Addr} {a b:Value} {lo hi:V} {i j:Nat} (R:ak g φ σ s.heap) (hs:s.heap.IsSliceOf sl a b .none) (ha:mC a lo) (hb:mC b hi)
  (jA:rQ lo=some i) (hj:ot x.length hi=some j) (Ib:(⟨(u8 x.cps.toList i j).toArray⟩:Str).length≤an) :
  wpAny (model g.prog g.w) A (getItem (.str x t) (.ref sl)) (bG g φ s (.str ⟨(u8 x.cps.toList i j).toArray⟩) σ) E s:=by
 refine au (r8 ha) fun p q2 hp=>?_;subst q2
 refine au (r8 hb) fun q q2 hq=>?_;subst q2
 refine wpAny_getItem_str_slice (l:=p) (u:=q) (st:=none) hs rfl ?_
 have D8:slicePicked x p q none=(List.range (j - min i x.length)).map fun k=>min i x.length+k:=by
  unfold slicePicked
  rw [hp,hq]
  exact sM jA hj
 have Lx:((slicePicked x p q none).filterMap (x.cps[·]?))=u8 x.cps.toList i j:=by
  rw [D8,pick_run,zb]
  rfl
 have hlen:(slicePicked x p q none).length=j - min i x.length:=by rw [D8];simp
 unfold sliceMade
 rw [hlen,Lx]
 split
 ·rename_i hc
  simp only [Bool.and_eq_true,beq_iff_eq] at hc
  have GC:j - min i x.length=x.length:=by first | exact hc | exact hc.1 | exact hc.2 | exact hc.1.2 | exact hc.2.1
  have e1:j=x.length:=AV GC (Ci hj)
  have e0:min i x.length=0∨x.length=0:=xP (e1 ▸ GC)
  have e2:u8 x.cps.toList i j=x.cps.toList:=by
   rw [zb]
   have hl:x.cps.toList.length=x.length:=rfl
   rw [hl]
   refine Or.elim e0 (fun e0=>?_) (fun e0=>?_)
   ·rw [e0,e1,List.drop_zero,Nat.sub_zero,←hl,List.take_length]
   ·have:x.cps.toList=[]:=List.length_eq_zero_iff.mp (hl.trans e0)
    rw [this];simp
  rw [e2]
  exact bG.here (tk:=s.toks) R (.str _ _)
 ·exact ⟨Ib,bG.here R (.str _ _)⟩
end
noncomputable def j8:ie→List Value→Sem Value
 | .len,as=>call (.builtin "len") as
 | .sum,as=>call (.builtin "sum") as
 | .min2,as=>call (.builtin "min") as
 | .max2,as=>call (.builtin "max") as
 | .min1,as=>call (.builtin "min") as
 | .max1,as=>call (.builtin "max") as
 | .minD,as=>call (.builtin "min") as [("default", .none)]
 | .tuple,as=>call (.type "tuple") as
 | .list,as=>call (.type "list") as
 | .str,as=>call (.type "str") as
 | .int,as=>call (.type "int") as
 | .isInt,as=>call (.builtin "isinstance") (as++[.type "int"])
 | .isBool,as=>call (.builtin "isinstance") (as++[.type "bool"])
 | .isTuple,as=>call (.builtin "isinstance") (as++[.type "tuple"])
 | .isStr,as=>call (.builtin "isinstance") (as++[.type "str"])
 | .isList,as=>call (.builtin "isinstance") (as++[.type "list"])
 | .sorted,as=>call (.builtin "sorted") as
section
variable {g:G} {A:Around} {E:Value→Shared→Prop} {φ:List Addr} {σ:ag} {s:Shared}
theorem bG.grown {v:V} {a:Value} {h':Heap} {tk:Nat} (R:ak g φ σ s.heap) (hk:∀ b o,s.heap.get? b=some o→h'.get? b=some o) (hv:VR g φ h' v a):bG g φ s v σ a {s with heap:=h',toks:=tk} :=
 ⟨φ,SE.keeps φ hk,R.keeps hk,hv,rfl,rfl,rfl⟩
theorem vA {h:Heap} {ns:List Int} {vs:List Value} (x:IntsAre vs ns):bq g φ h (ns.map .int) vs:=by
 induction x with
 | nil=>exact .nil
 | cons n t r ih=>exact .cons (.int n t) ih
theorem wb {h:Heap} {l:List V} {ns:List Int} {vs:List Value} (he:eh l=some ns) (x:bq g φ h l vs):IntsAre vs ns:=by
 induction l generalizing vs ns with
 | nil=>cases x;rw [←sm he];exact .nil
 | cons v l ih =>
  cases x with
  | cons hv hr =>
   refine aK he fun i hi he=>?_
   refine aK he fun ms hn he=>?_
   refine Exists.elim (vI hi hv) fun t ht=>?_
   rw [←sm he,ht]
   exact .cons i t (ih hn hr)
inductive ig (g:G) (φ:List Addr) (h:Heap) (a:Addr) (l:List V) (vs:List Value):Prop
 | lst:h.IsList a vs.toArray→bq g φ h l vs→l.length≤an+1→ig g φ h a l vs
 | tup:h.IsTuple a vs.toArray→bq g φ h l vs→l.length≤an+1→ig g φ h a l vs
theorem ig.vrs {h:Heap} {a:Addr} {l:List V} {vs:List Value} (x:ig g φ h a l vs):bq g φ h l vs:=by cases x <;> assumption
theorem ig.len {h:Heap} {a:Addr} {l:List V} {vs:List Value} (x:ig g φ h a l vs):l.length≤an+1:=by cases x <;> assumption
set_option tactic.hygienic true in
theorem Ax {x:V} {a:Value} {l:List V} {w:List (Nat×aZ)} {h:Heap} (he:iP σ x=some (l,w)) (R:ak g φ σ h) (hx:VR g φ h x a):∃ c vs,a=.ref c∧ig g φ h c l vs:=by
 revert he;apply VR.el hx
 case tup=>intro _ _ _ ht hz hv _ he;refine aJ (kZ he) fun q1 _=>?_;apply fQ q1;exact ⟨_,_,rfl,.tup ht hv hz⟩
 case ro =>
  intro _ _ _ hl hz hi he
  refine aJ (kZ he) fun q1 _=>?_;apply fQ q1
  exact ⟨_,_,rfl,.lst (hl.at fun o e=>R.base _ o e) (vA hi) (by simpa using hz)⟩
 case ref =>
  intro _ _ hr he
  refine aK he fun l' ed he=>?_
  refine aJ (kZ he) fun q1 _=>?_;apply fQ q1
  refine fL (R.list hr ed) fun vs hl hv hz=>?_
  exact ⟨_,vs,rfl,.lst hl.isList hv hz⟩
 all_goals (intros;rename_i he;exact no he)
theorem Ay {c:Addr} {l:List V} {vs:List Value} {Q:Value→Shared→Prop} (hh:A.handled=none) (hs:ig g φ s.heap c l vs)
  (h:∀ I fp St h',Walks g.prog g.w A I fp [I] vs.length (fun i v=>vs[i]? = some v) St→St 0 h'→(∀ b∈fp,b<h'.objs.size)→s.heap.get? I=none→(∀ b o,s.heap.get? b=some o→h'.get? b=some o)→Q (.ref I) {s with heap:=h'}) :
  wpAny (model g.prog g.w) A (pyIter (.ref c)) Q E s:=by
 cases hs with
 | lst hl hv hz =>
  have bQ:c<s.heap.objs.size:=by refine au hl fun _ e _=>?_;exact Heap.lt_size e
  have W:=Walks.list (prog:=g.prog) (w:=g.w) hh s.heap.objs.size c (Nat.ne_of_lt bQ) vs.toArray
  simp only [List.size_toArray,List.getElem?_toArray] at W
  have hb:∀ b∈[s.heap.objs.size,c],b<(s.heap.push {cls:=.type "list_iterator", data:=.fields #[.ref c,.int 0 0]}).objs.size:=fun b hb=>by
   rw [Heap.size_push]
   refine Or.elim (List.mem_cons.mp hb) (fun hb=>?_) (fun hb=>?_)
   ·exact hb ▸ Nat.lt_succ_self _
   ·exact (List.mem_singleton.mp hb) ▸ Nat.lt_succ_of_lt bQ
  exact wpAny_pyIter_list hl (h _ [s.heap.objs.size,c] _ _ W ⟨⟨_,Heap.get?_push_size _ rfl,rfl,rfl⟩,hl.push _⟩ hb (aC _) fun b o e=>Heap.get?_push_of_some _ e)
 | tup ht hv hz =>
  have bQ:c<s.heap.objs.size:=by refine au ht fun _ e _=>?_;exact Heap.lt_size e
  have W:=Walks.tuple (prog:=g.prog) (w:=g.w) hh s.heap.objs.size c (Nat.ne_of_lt bQ) vs.toArray
  simp only [List.size_toArray,List.getElem?_toArray] at W
  have hb:∀ b∈[s.heap.objs.size,c],b<(s.heap.push {cls:=.type "tuple_iterator", data:=.fields #[.ref c,.int 0 0]}).objs.size:=fun b hb=>by
   rw [Heap.size_push]
   refine Or.elim (List.mem_cons.mp hb) (fun hb=>?_) (fun hb=>?_)
   ·exact hb ▸ Nat.lt_succ_self _
   ·exact (List.mem_singleton.mp hb) ▸ Nat.lt_succ_of_lt bQ
  exact wpAny_pyIter_tuple ht (h _ [s.heap.objs.size,c] _ _ W ⟨⟨_,Heap.get?_push_size _ rfl,rfl,rfl⟩,ht.push _⟩ hb (aC _) fun b o e=>Heap.get?_push_of_some _ e)
theorem jB:∀ {vs:List Value} {ns:List Int} {i:Nat} {v:Value},IntsAre vs ns→vs[i]? = some v→∃ t,v=.int (ns[i]?.getD 0) t
 | _,_,_,_,.nil,h=>by simp at h
 | _,_,0,_,.cons n t r,h=>by simp at h;apply fQ h;exact ⟨t,by simp⟩
 | _,_,i+1,_,.cons n t r,h=>by
  simp at h
  refine Exists.elim (jB r h) fun t' e=>?_
  exact ⟨t',by simpa using e⟩
theorem pf (ns:List Int):∀ k,k≤ns.length→preSum (fun i=>ns[i]?.getD 0) k=(ns.take k).foldl (· + ·) 0
 | 0,_=>by simp [preSum]
 | k+1,h=>by
  have:ns[k]? = some ns[k]:=List.getElem?_eq_getElem (h)
  rw [preSum,pf ns k (l2 0xc1010b1a180 rfl h),List.take_add_one,this,List.foldl_append]
  rfl
theorem Ak {h jc h':Heap} {I:Addr} (hI:h.get? I=none) (h1:∀ b o,h.get? b=some o→jc.get? b=some o) (h2:∀ b o,b∉[I]→jc.get? b=some o→h'.get? b=some o):∀ b o,h.get? b=some o→h'.get? b=some o:=fun b o e=>by
 refine h2 b o (fun hm=>?_) (h1 b o e)
 simp at hm
 subst hm
 rw [hI] at e;cases e
theorem CF {c:Addr} {l:List V} {vs:List Value} (R:ak g φ σ s.heap) (hs:ig g φ s.heap c l vs):wpAny (model g.prog g.w) A (call (.builtin "len") [.ref c]) (bG g φ s (.int l.length) σ) E s:=by
 have cZ:an+1=16777217:=rfl
 have hl:=hs.vrs.length
 have hz:=hs.len
 cases hs with
 | lst h1 h2 h3 =>
  refine Calls.call_len_list h1 (by simp;lia) ?_
  have:(vs.toArray.size:Int)=l.length:=by simp [hl]
  rw [this]
  exact bG.here R (.int _ _)
 | tup h1 h2 h3 =>
  refine PyProof.Rows.len_tuple h1 (by simp;lia) ?_
  have:(vs.toArray.size:Int)=l.length:=by simp [hl]
  rw [this]
  exact bG.here R (.int _ _)
theorem Dj {c:Addr} {l:List V} {vs:List Value} {ns:List Int} (hh:A.handled=none) (R:ak g φ σ s.heap) (hs:ig g φ s.heap c l vs) (hn:eh l=some ns) :
  wpAny (model g.prog g.w) A (call (.builtin "sum") [.ref c]) (bG g φ s (.int (ns.foldl (· + ·) 0)) σ) E s:=by
 have hi:=wb hn hs.vrs
 refine call_sum_walkAnyS (Ay (A:=A.in1) hh hs fun I fp St h' W gV KQ hI hk=>?_)
 refine ⟨I,fp,[I],_,vs.length,_,_,fun i=>ns[i]?.getD 0,rfl,W.toS,gV,KQ,fun i v hv=>jB hi hv,fun s' t' hm=>?_⟩
 rw [hi.length,pf ns _ (Nat.le_refl _),List.take_length]
 have tc:=Ak hI hk hm.heap
 exact ⟨φ,SE.keeps φ tc,R.keeps tc,.int _ _,hm.gens,hm.drawn,hm.os⟩
end
section
variable {g:G} {A:Around} {E:Value→Shared→Prop} {φ:List Addr} {σ:ag} {s:Shared}
theorem xj {x:Str} {v:V} {af:ag} (h:F6 σ x=some (v,af)):x.length≤sizeLine∧v=.str x∧af=σ:=by
 refine dv h fun hz h=>?_
 apply dx h
 exact ⟨hz,rfl,rfl⟩
theorem nN {h:Heap} {a:V} {as:List Value} (hv:bq g φ h [a] as):∃ b,as=[b]∧VR g φ h a b:=by
 cases hv with
 | cons h1 h2=>cases h2;exact ⟨_,rfl,h1⟩
theorem uG {h:Heap} {a b:V} {as:List Value} (hv:bq g φ h [a,b] as):∃ c d,as=[c,d]∧VR g φ h a c∧VR g φ h b d:=by
 cases hv with
 | cons h1 h2 =>
  refine au (nN h2) fun d q2 h3=>?_;apply aO q2
  exact ⟨_,d,rfl,h1,h3⟩
theorem jn {f:V→Option (V×ag)} {c:List Value→Sem Value} {l:List V} {as:List Value} {v:V} {af:ag} (he:ii f l=some (v,af)) (hv:bq g φ s.heap l as)
  (k:∀ x a,f x=some (v,af)→VR g φ s.heap x a→wpAny (model g.prog g.w) A (c [a]) (bG g φ s v af) E s):wpAny (model g.prog g.w) A (c as) (bG g φ s v af) E s:=by
 refine au (dW he) fun x q2 he=>?_;subst q2
 refine au (nN hv) fun a k1 hx=>?_;subst k1
 exact k x a he hx
theorem ID {f:List Int→Option V} {c:List Value→Sem Value} {l:List V} {as:List Value} {v:V} {af:ag} (he:ii (Al σ f) l=some (v,af)) (R:ak g φ σ s.heap) (hv:bq g φ s.heap l as)
  (k:∀ a l vs ns,ig g φ s.heap a l vs→eh l=some ns→f ns=some v→wpAny (model g.prog g.w) A (c [.ref a]) (bG g φ s v σ) E s):wpAny (model g.prog g.w) A (c as) (bG g φ s v af) E s:=by
 refine jn he hv fun x a he hx=>?_
 refine vU he fun l' w hl he=>?_
 refine aK he fun ns hn he=>?_
 refine aK he fun u hu he=>?_
 refine aJ (kZ he) fun q1 q2=>?_;subst q1 q2
 refine fv (Ax hl R hx) fun c' vs q3 zB=>?_;apply aO q3
 exact k c' l' vs ns zB hn hu
theorem Ev {f:Int→Int→Int} {c:List Value→Sem Value} {l:List V} {as:List Value} {v:V} {af:ag} (he:BG (Am σ f) l=some (v,af)) (hv:bq g φ s.heap l as)
  (k:∀ i j t u,wpAny (model g.prog g.w) A (c [.int i t,.int j u]) (bG g φ s (.int (f i j)) σ) E s):wpAny (model g.prog g.w) A (c as) (bG g φ s v af) E s:=by
 refine fv (wo he) fun x y q3 he=>?_;subst q3
 refine kF (uG hv) fun a b k2 hx hy=>?_;subst k2
 refine aK he fun i hi he=>?_
 refine aK he fun j hj he=>?_
 apply dx he
 apply yw hi hx;intro t
 apply yw hj hy;intro u
 exact k i j t u
set_option tactic.hygienic true in
theorem z7 {x:V} {a:Value} {v:V} {af:ag} (he:IB σ x=some (v,af)) (R:ak g φ σ s.heap) (hx:VR g φ s.heap x a):wpAny (model g.prog g.w) A (call (.builtin "len") [a]) (bG g φ s v af) E s:=by
 have sq:∀ {x:V},VR g φ s.heap x a→((iP σ x).bind fun p=>some (V.int p.1.length,σ))=some (v,af)→wpAny (model g.prog g.w) A (call (.builtin "len") [a]) (bG g φ s v af) E s:=fun hx he=>by
  refine vU he fun l' w hl he=>?_
  apply dx he
  refine fv (Ax hl R hx) fun c' vs q3 zB=>?_;apply aO q3
  exact CF R zB
 revert he sq;apply VR.el hx
 case str =>
  intro y t he sq
  refine dv he fun hz he=>?_
  apply dx he
  exact PyProof.Rows.len_str (by have:an=16777216:=rfl;lia) (bG.here R (.int _ _))
 case ref=>intro _ _ hr he sq;exact sq (.ref hr) he
 case tup=>intro _ _ _ h1 h2 h3 h4 he sq;exact sq (.tup h1 h2 h3 h4) he
 case ro=>intro _ _ _ h1 h2 h3 he sq;exact sq (.ro h1 h2 h3) he
 all_goals (intros;rename_i he sq;exact no he)
theorem n7 {x:V} {a:Value} {v:V} {af:ag} (he:((qT x).bind fun r=>(lst σ r).bind fun l=>oF σ l)=some (v,af)) (R:ak g φ σ s.heap) (hx:VR g φ s.heap x a):wpAny (model g.prog g.w) A (call (.type "tuple") [a]) (bG g φ s v af) E s:=by
 refine aK he fun r hr he=>?_
 refine aK he fun l hl he=>?_
 refine iY (i7 he) fun hz q2 q3=>?_;apply aO q2;apply aO q3
 apply Mq hr hx;intro c hr
 refine fL (R.list hr hl) fun vs hl hv _=>?_
 refine call_tuple_list hl.isList (fun h' hk=>?_) (by rw [List.size_toArray,←hv.length];exact hz)
 exact bG.newT (tk:=s.toks) R (Nat.le_succ_of_le hz) hv (fun b o e=>Heap.get?_push_of_some _ (hk b o e)) (eJ hk (aC _)) (fk _ _)
theorem oC {x:V} {a:Value} {v:V} {af:ag} (he:((DM x).bind fun l=>xi σ l)=some (v,af)) (R:ak g φ σ s.heap) (hx:VR g φ s.heap x a):wpAny (model g.prog g.w) A (call (.type "list") [a]) (bG g φ s v af) E s:=by
 refine aK he fun l hl he=>?_
 refine iY (fG he) fun hz q2 q3=>?_;apply aO q2;apply aO q3
 refine E0 (vT hl hx) fun c vs q3 ht _ hv _=>?_;apply aO q3
 obtain ⟨o,ho,hc,n,hd⟩:=id ht
 refine call_list_seq c (.inr rfl) ho hc hd (fun h' c' hk hS=>?_) (by rw [List.size_toArray,←hv.length];exact hz)
 exact bG.newL (tk:=s.toks) R (Nat.le_succ_of_le hz) hv hk (aC _) ⟨_,hS⟩
theorem qg {x:V} {a:Value} {v:V} {af:ag} (he:((EO x).bind fun b=>some (V.int (if b then 1 else 0),σ))=some (v,af)) (R:ak g φ σ s.heap) (hx:VR g φ s.heap x a):wpAny (model g.prog g.w) A (call (.type "int") [a]) (bG g φ s v af) E s:=by
 refine aK he fun b hb he=>?_
 apply dx he
 apply aO (vB hb hx)
 exact call_int_bool (bG.here R (.int _ _))
inductive KR (h:Heap):ls→Value→Prop
 | none:KR h .none .none
 | bool (b:Bool):KR h .bool (.bool b)
 | int (i:Int) (t:Tok):KR h .int (.int i t)
 | str (x:Str) (t:Tok):KR h .str (.str x t)
 | tup {c:Addr} {o:Obj}:h.get? c=some o→o.cls=.type "tuple" → KR h .tup (.ref c)
 | lst {c:Addr} {o:Obj}:h.get? c=some o→o.cls=.type "list" → KR h .lst (.ref c)
theorem Ir {x:V} {a:Value} {k:ls} (hk:vF σ x=some k) (R:ak g φ σ s.heap) (hx:VR g φ s.heap x a):KR s.heap k a:=by
 cases hx with
 | none=>apply db hk;exact .none
 | bool b=>apply db hk;exact .bool b
 | int i t=>apply db hk;exact .int i t
 | str i t=>apply db hk;exact .str i t
 | tup ht _ _ _=>apply db hk;refine fL ht fun o ho hc _=>?_;exact .tup ho hc
 | ref hr =>
  refine aK hk fun l hl hk=>?_
  apply db hk
  refine au (R.list hr hl) fun vs k3 _=>?_;refine Exists.elim k3 fun n ho=>?_
  exact .lst ho rfl
 | ro _ _ _=>exact no hk
theorem jV {f:ls→Bool} {x:V} {a:Value} {v:V} {af:ag} {T:String} (he:GP σ f x=some (v,af)) (R:ak g φ σ s.heap) (hx:VR g φ s.heap x a)
  (h:∀ k,KR s.heap k a→(∀ tk,bG g φ s (.bool (f k)) σ (.bool (f k)) {s with toks:=tk})→wpAny (model g.prog g.w) A (call (.builtin "isinstance") [a,.type T]) (bG g φ s (.bool (f k)) σ) E s) :
  wpAny (model g.prog g.w) A (call (.builtin "isinstance") [a,.type T]) (bG g φ s v af) E s:=by
 refine aK he fun k hk he=>?_
 apply dx he
 exact h k (Ir hk R hx) fun tk=>bG.here R (.bool _)
theorem w5 {k:ls} {a:Value} {Q:Value→Shared→Prop} (hk:KR s.heap k a) (h:∀ tk,Q (.bool k.isInt) {s with toks:=tk}):wpAny (model g.prog g.w) A (call (.builtin "isinstance") [a,.type "int"]) Q E s:=by
 cases hk with
 | none=>exact IsiPair.NoneType_int (h _)
 | bool _=>exact IsiPair.bool_int (h s.toks)
 | int _ _=>exact IsiPair.int_int (h s.toks)
 | str _ _=>exact IsiPair.str_int (h _)
 | tup ho hc=>exact IsiPair.tuple_int ho hc (h _)
 | lst ho hc=>exact IsiPair.list_int ho hc (h _)
theorem t4 {k:ls} {a:Value} {Q:Value→Shared→Prop} (hk:KR s.heap k a) (h:∀ tk,Q (.bool k.isBool) {s with toks:=tk}):wpAny (model g.prog g.w) A (call (.builtin "isinstance") [a,.type "bool"]) Q E s:=by
 cases hk with
 | none=>exact IsiPair.NoneType_bool (h _)
 | bool _=>exact IsiPair.bool_bool (h s.toks)
 | int _ _=>exact IsiPair.int_bool (h _)
 | str _ _=>exact IsiPair.str_bool (h _)
 | tup ho hc=>exact IsiPair.tuple_bool ho hc (h _)
 | lst ho hc=>exact IsiPair.list_bool ho hc (h _)
theorem w8 {k:ls} {a:Value} {Q:Value→Shared→Prop} (hk:KR s.heap k a) (h:∀ tk,Q (.bool k.isTup) {s with toks:=tk}):wpAny (model g.prog g.w) A (call (.builtin "isinstance") [a,.type "tuple"]) Q E s:=by
 cases hk with
 | none=>exact IsiPair.NoneType_tuple (h _)
 | bool _=>exact IsiPair.bool_tuple (h _)
 | int _ _=>exact IsiPair.int_tuple (h _)
 | str _ _=>exact IsiPair.str_tuple (h _)
 | tup ho hc=>exact IsiPair.tuple_tuple ho hc (h s.toks)
 | lst ho hc=>exact IsiPair.list_tuple ho hc (h _)
theorem w7 {k:ls} {a:Value} {Q:Value→Shared→Prop} (hk:KR s.heap k a) (h:∀ tk,Q (.bool k.isStr) {s with toks:=tk}):wpAny (model g.prog g.w) A (call (.builtin "isinstance") [a,.type "str"]) Q E s:=by
 cases hk with
 | none=>exact IsiPair.NoneType_str (h _)
 | bool _=>exact IsiPair.bool_str (h _)
 | int _ _=>exact IsiPair.int_str (h _)
 | str _ _=>exact IsiPair.str_str (h s.toks)
 | tup ho hc=>exact IsiPair.tuple_str ho hc (h _)
 | lst ho hc=>exact IsiPair.list_str ho hc (h _)
theorem w6 {k:ls} {a:Value} {Q:Value→Shared→Prop} (hk:KR s.heap k a) (h:∀ tk,Q (.bool k.isLst) {s with toks:=tk}):wpAny (model g.prog g.w) A (call (.builtin "isinstance") [a,.type "list"]) Q E s:=by
 cases hk with
 | none=>exact IsiPair.NoneType_list (h _)
 | bool _=>exact IsiPair.bool_list (h _)
 | int _ _=>exact IsiPair.int_list (h _)
 | str _ _=>exact IsiPair.str_list (h _)
 | tup ho hc=>exact IsiPair.tuple_list ho hc (h _)
 | lst ho hc=>exact IsiPair.list_list ho hc (h s.toks)
theorem sd {p:ie} {l:List V} {as:List Value} {v:V} {af:ag} (he:gM p l σ=some (v,af)) (hh:A.handled=none) (Ly:∃ o,g.B.get? sysModules=some o) (R:ak g φ σ s.heap) (hv:bq g φ s.heap l as) :
  wpAny (model g.prog g.w) A (j8 p as) (bG g φ s v af) E s:=by
 cases p with
 | len=>exact jn he hv fun x a he hx=>z7 he R hx
 | sum=>exact ID he R hv fun a l vs ns zB hn hu=>sm hu ▸ Dj hh R zB hn
 | max1=>exact no he
 | min1=>exact no he
 | minD=>exact no he
 | min2 =>
  refine Ev he hv fun i j t u=>?_
  ·refine min_two_ints hh fun h' tk hk=>?_
   by_cases hc:j<i
   ·rw [if_pos hc,show min i j=j by lia];exact bG.grown R hk (.int _ _)
   ·rw [if_neg hc,show min i j=i by lia];exact bG.grown R hk (.int _ _)
 | max2 =>
  refine Ev he hv fun i j t u=>?_
  ·refine max_two_ints hh fun h' tk hk=>?_
   by_cases hc:j > i
   ·rw [if_pos hc,show max i j=j by lia];exact bG.grown R hk (.int _ _)
   ·rw [if_neg hc,show max i j=i by lia];exact bG.grown R hk (.int _ _)
 | tuple=>exact jn he hv fun x a he hx=>n7 he R hx
 | list=>exact jn he hv fun x a he hx=>oC he R hx
 | str=>exact no he
 | int=>exact jn he hv fun x a he hx=>qg he R hx
 | isInt=>exact jn (c:=fun as=>call (.builtin "isinstance") (as++[.type "int"])) he hv fun x a he hx=>jV he R hx fun k hk q=>w5 hk q
 | isBool=>exact jn (c:=fun as=>call (.builtin "isinstance") (as++[.type "bool"])) he hv fun x a he hx=>jV he R hx fun k hk q=>t4 hk q
 | isTuple=>exact jn (c:=fun as=>call (.builtin "isinstance") (as++[.type "tuple"])) he hv fun x a he hx=>jV he R hx fun k hk q=>w8 hk q
 | isStr=>exact jn (c:=fun as=>call (.builtin "isinstance") (as++[.type "str"])) he hv fun x a he hx=>jV he R hx fun k hk q=>w7 hk q
 | isList=>exact jn (c:=fun as=>call (.builtin "isinstance") (as++[.type "list"])) he hv fun x a he hx=>jV he R hx fun k hk q=>w6 hk q
 | sorted=>exact no he
end
noncomputable def nH:fW→Str
 | .append => "append" | .extend => "extend" | .find => "find" | .get => "get" | .join => "join"
noncomputable def nG:fW→String
 | .append => "list.append" | .extend => "list.extend" | .find => "str.find" | .get => "dict.get" | .join => "str.join"
noncomputable def nI:fW→String
 | .append => "list" | .extend => "list" | .find => "str" | .get => "dict" | .join => "str"
theorem nJ (m:fW):PlainAttrs (nI m):=by
 cases m
 ·exact PySem.F.plainAttrs_list
 ·exact PySem.F.plainAttrs_list
 ·exact PySem.F.plainAttrs_str
 ·exact PySem.F.plainAttrs_dict
 ·exact PySem.F.plainAttrs_str
theorem pb (m:fW):Slot (nI m) (nH m) (nG m):=by
 cases m
 ·exact PySem.F.slot_list_append
 ·exact PySem.F.slot_list_extend
 ·exact PySem.F.slot_str_find
 ·exact PySem.F.slot_dict_get
 ·exact PySem.F.slot_str_join
theorem pc (m:fW):typeOf (.builtin (nG m))=pure (.type "method_descriptor"):=by
 cases m
 ·exact PySem.F.type_list_append
 ·exact PySem.F.type_list_extend
 ·exact PySem.F.type_str_find
 ·exact PySem.F.type_dict_get
 ·exact PySem.F.type_str_join
section
variable {g:G} {A:Around} {E:Value→Shared→Prop} {φ:List Addr} {σ:ag} {s:Shared}
theorem si {m:fW} {x:V} {a:Value} (hr:iO m x σ=true) (R:ak g φ σ s.heap) (hx:VR g φ s.heap x a) :
  s.TypeIs a (nI m)∧∀ c,a=.ref c→∃ ob,s.heap.get? c=some ob∧ob.dict=none:=by
 have L:((qT x).bind (lst σ)).isSome=true→s.TypeIs a "list" ∧ ∀ d,a=.ref d→∃ ob,s.heap.get? d=some ob∧ob.dict=none:=fun h=>by
  refine Exists.elim (Option.isSome_iff_exists.mp h) fun l h=>?_
  refine au (ob h) fun r h1 hl=>?_
  refine au (vR h1 hx) fun c k1 h1=>?_;apply aO k1
  refine au (R.list h1 hl) fun vs k2 _=>?_;refine Exists.elim k2 fun n ho=>?_
  exact ⟨⟨_,ho,rfl⟩,fun d e=>⟨_,Value.ref.inj e ▸ ho,rfl⟩⟩
 have S:(yj x).isSome=true→s.TypeIs a "str" ∧ ∀ d,a=.ref d→∃ ob,s.heap.get? d=some ob∧ob.dict=none:=fun h=>by
  refine Exists.elim (Option.isSome_iff_exists.mp h) fun y h=>?_
  refine Exists.elim (vS h hx) fun t k3=>?_;apply aO k3
  exact ⟨typeIs_str s y t,fun c e=>nomatch e⟩
 cases m with
 | append=>exact L hr
 | extend=>exact L hr
 | find=>exact S hr
 | join=>exact S hr
 | get=>exact nomatch hr
theorem bG.putL {r:Nat} {a:Addr} {l Me:List V} {ws:List Value} {h':Heap} (R:ak g φ σ s.heap) (hr:φ[r]? = some a) (aW:σ[r]? = some (.lst Me)) (hs:Heap.SameBut a s.heap h')
  (hl:h'.PlainList a ws.toArray) (hz:l.length≤an+1) (hv:bq g φ s.heap l ws):SE φ s.heap φ h'∧ak g φ (σ.set r (.lst l)) h':=by
 have ha:a∈φ:=List.mem_of_getElem? hr
 have S:SE φ s.heap φ h':=SE.put ha hs (by refine Exists.elim hl fun n e=>?_;exact ⟨_,e⟩)
 exact ⟨S,R.put hr aW (fun b o hb e=>hs.extBut b o hb e) (.lst hl hz (hv.step R S))⟩
theorem tq {x y:V} {a b:Value} {v:V} {af:ag} (he:vM σ x y=some (v,af)) (R:ak g φ σ s.heap) (hx:VR g φ s.heap x a) (hy:VR g φ s.heap y b) :
  v=.none∧wpAny (model g.prog g.w) A (call (.builtin "list.append") [a,b]) (bG g φ s .none af) E s:=by
 refine au (ob he) fun r hr he=>?_
 refine au (ob he) fun l K6 he=>?_
 refine aJ (cJ he) fun hz he=>?_
 refine aJ (kZ he) fun k8 k9=>?_;apply fQ k8;subst k9
 refine au (vR hr hx) fun c Cv hr=>?_;apply aO Cv
 refine fL (R.list hr K6) fun vs hl hv _=>?_
 refine ⟨rfl,wpAny_list_append_plain hl (fun h' hl2 hs=>?_) (by rw [List.size_toArray,←hv.length];exact hz)⟩
 have K7:h'.PlainList c (vs++[b]).toArray:=by simpa using hl2
 refine aJ (bG.putL (l:=l++[y]) R hr (nB K6) hs K7 (by simp;exact hz) (hv.append (bq.one hy))) fun S R'=>?_
 exact ⟨φ,S,R',.none,rfl,rfl,rfl⟩
theorem tK {x y:V} {a b:Value} {v:V} {af:ag} (he:my σ x y=some (v,af)) (R:ak g φ σ s.heap) (hx:VR g φ s.heap x a) (hy:VR g φ s.heap y b) :
  v=.none∧wpAny (model g.prog g.w) A (call (.builtin "list.extend") [a,b]) (bG g φ s .none af) E s:=by
 refine au (ob he) fun r hr he=>?_
 refine au (ob he) fun q hq he=>?_
 refine au (ob he) fun l1 h1 he=>?_
 refine au (ob he) fun l2 h2 he=>?_
 refine aJ (cJ he) fun hz he=>?_
 refine aJ (kZ he) fun Cw Cx=>?_;apply fQ Cw;subst Cx
 refine au (vR hr hx) fun c Il hr=>?_;apply aO Il
 refine au (vR hq hy) fun d Im hq=>?_;apply aO Im
 refine fL (R.list hr h1) fun vs t8 Nb _=>?_;refine Exists.elim t8 fun n1 o1=>?_
 refine fL (R.list hq h2) fun ws LV Nc _=>?_;refine Exists.elim LV fun n2 o2=>?_
 have yr:vs.toArray.size+ws.toArray.size≤sizeLine:=by rw [List.size_toArray,List.size_toArray,←Nb.length,←Nc.length];exact hz.1
 refine ⟨rfl,call_meets PySem.F.slot_list_extend ⟨_,o1,rfl⟩ PySem.F.entry_list_extend (PySem.F.args_list_extend_2 _ _)
  (AutoSeq1.list_extend_list_list_0 c vs.toArray n1 d ws.toArray n2 (extend_door yr) (by lia) (by lia)) ⟨o1,o2,?_⟩⟩
 have Cq:(s.heap.update c (Obj.mapSeq fun x=>x++ws.toArray)).PlainList c (vs++ws).toArray:=by
  have e:=Heap.get?_update_self (Obj.mapSeq fun x=>x++ws.toArray) o1 rfl
  simp only [Obj.mapSeq,List.append_toArray] at e
  exact ⟨_,e⟩
 refine aJ (bG.putL (l:=l1++l2) R hr (nB h1) (Heap.SameBut.update ..) Cq (by simp;exact Nat.le_succ_of_le hz.1) (Nb.append Nc)) fun S R'=>?_
 exact ⟨φ,S,R',.none,rfl,rfl,rfl⟩
theorem zl {x y:V} {a b:Value} {v:V} {af:ag} (he:Ek σ x y=some (v,af)) (R:ak g φ σ s.heap) (hx:VR g φ s.heap x a) (hy:VR g φ s.heap y b) :
  wpAny (model g.prog g.w) A (call (.builtin "str.find") [a,b]) (bG g φ s v af) E s:=by
 refine au (ob he) fun p hp he=>?_
 refine au (ob he) fun q hq he=>?_
 refine aJ (kZ he) fun Pp LW=>?_;apply fQ Pp;subst LW
 refine Exists.elim (vS hp hx) fun t Pq=>?_;apply aO Pq
 refine Exists.elim (vS hq hy) fun u LY=>?_;apply aO LY
 exact SC.find (bG.here R (.int _ _))
theorem Ag {m:fW} {x:V} {a:Value} {l:List V} {as:List Value} {v:V} {af:ag} (he:f9 m x l σ=some (v,af)) (Ly:∃ o,g.B.get? sysModules=some o) (R:ak g φ σ s.heap) (hx:VR g φ s.heap x a) (hv:bq g φ s.heap l as) :
  wpAny (model g.prog g.w) A (call (.builtin (nG m)) (a::as)) (bG g φ s v af) E s:=by
 cases m with
 | append =>
  refine au (dW he) fun y Pv he=>?_;subst Pv
  refine au (nN hv) fun b Pw hy=>?_;subst Pw
  refine aJ (tq (A:=A) (E:=E) he R hx hy) fun L5 h=>?_;apply aO L5
  exact h
 | extend =>
  refine au (dW he) fun y Px he=>?_;subst Px
  refine au (nN hv) fun b Py hy=>?_;subst Py
  refine aJ (tK (A:=A) (E:=E) he R hx hy) fun Io h=>?_;apply aO Io
  exact h
 | find =>
  refine au (dW he) fun y Pz he=>?_;subst Pz
  refine au (nN hv) fun b PA hy=>?_;subst PA
  exact zl he R hx hy
 | join=>exact no he
 | get=>exact no he
theorem xN {m:fW} {x:V} {l:List V} {v:V} {af:ag} (hm:m.isStep=true) (he:f9 m x l σ=some (v,af)):v=.none:=by
 cases m with
 | append =>
  refine au (dW he) fun y PD he=>?_;apply aO PD
  refine au (ob he) fun r hr he=>?_
  refine au (ob he) fun l K6 he=>?_
  exact (kZ (cJ he).2).1.symm
 | extend =>
  refine au (dW he) fun y PE he=>?_;apply aO PE
  refine au (ob he) fun r hr he=>?_
  refine au (ob he) fun q hq he=>?_
  refine au (ob he) fun l1 h1 he=>?_
  refine au (ob he) fun l2 h2 he=>?_
  exact (kZ (cJ he).2).1.symm
 | _=>cases hm
end
section
variable {g:G} {A:Around} {E:Value→Shared→Prop} {φ:List Addr} {σ:ag} {s:Shared}
theorem Au {c:Addr} {vs:List Value} {k:Int} {t:Tok} {v:Value} {Q:Unit→Shared→Prop} (hl:s.heap.PlainList c vs.toArray) (h0:0≤k) (hj:k.toNat<vs.length) (HM:Builtin.List.listFitsIndex k=true)
  (hQ:∀ h',h'.PlainList c (vs.set k.toNat v).toArray→Heap.SameBut c s.heap h'→Q () {s with heap:=h'}) :
  wpAny (model g.prog g.w) A (setItem (.ref c) (.int k t) v) Q E s:=by
 refine Exists.elim (id hl) fun n ho=>?_
 obtain ⟨j,D5⟩:∃ j,j=k.toNat:=⟨_,rfl⟩
 rw [←D5] at hj hQ
 have Cq:(s.heap.update c (Obj.mapSeq (·.setIfInBounds j v))).PlainList c (vs.set j v).toArray:=by
  have e:=Heap.get?_update_self (Obj.mapSeq (·.setIfInBounds j v)) ho rfl
  simp only [Obj.mapSeq,List.setIfInBounds_toArray] at e
  exact ⟨_,e⟩
 unfold setItem
 try with_reducible refine wpAny_holding ?_
 refine wpAny_bind (wpAny_sequenceKey hl.isList.typeIs (by decide) ?_)
 refine wpAny_bind (wpAny_callSpecial?_slot (name:=Str.ofString "__setitem__") hl.isList.typeIs PySem.slot_list_setitem
  (wpAny_call_entry PySem.slot_list_setitem hl.isList.typeIs PySem.entry_list_setitem ?_ (PySem.args_list_setitem _ _ _)))
 show wpAny _ _ (Builtin.List.listSubscript? (.int k t)>>=_) _ _ s
 refine wpAny_bind (wpAny_listSubscript_int HM ?_)
 refine Exists.elim (Int.eq_ofNat_of_zero_le h0) fun j' q2=>?_;subst q2
 have OQ:j=j':=by simpa using D5
 clear HM h0 D5
 apply fQ OQ
 show wpAny _ _ ((seqItemAt c j>>=fun r=>pure (r.map (j,·)))>>=_) _ _ s
 refine wpAny_bind (wpAny_bind (wpAny_seqItemAt ho rfl (wpAny_pure ?_)))
 rw [show vs.toArray[j]? = some vs[j] by simp [hj]]
 show wpAny _ _ (setSeqItemAt c j v>>=_) _ _ s
 refine wpAny_bind (wpAny_setSeqItemAt ho rfl ?_)
 first
  | exact wpAny_bind (wpAny_pure (wpAny_pure ⟨.none,rfl,wpAny_pure (hQ _ Cq (Heap.SameBut.update ..))⟩))
  | exact wpAny_pure ⟨.none,rfl,wpAny_pure (hQ _ Cq (Heap.SameBut.update ..))⟩
theorem CX {l:List V} {r:Nat} {c:Addr} {i v:V} {ai av:Value} {af:ag} {Q:Unit→Shared→Prop} (he:((mE i).bind fun k=>if 0≤k∧k.toNat<l.length then some (σ.set r (.lst (l.set k.toNat v))) else none)=some af) (R:ak g φ σ s.heap) (hr:φ[r]? = some c) (h1:σ[r]? = some (.lst l)) (hi:VR g φ s.heap i ai) (hv:VR g φ s.heap v av)
  (h:∀ h' tk,SE φ s.heap φ h'→ak g φ af h'→Q () {s with heap:=h',toks:=tk}):wpAny (model g.prog g.w) A (setItem (.ref c) ai av) Q E s:=by
 have sz:an+1=16777217:=rfl
 refine fL (R.list hr (dQ h1)) fun vs hl Bq hz=>?_
 refine aK he fun k hk he=>?_
 refine aJ (cJ he) fun k1 he=>?_;refine aJ k1 fun lB Cm=>?_
 obtain rfl:=sm he
 refine Exists.elim (vI hk hi) fun t q2=>?_;subst q2
 refine Au hl lB (by rw [←Bq.length];exact Cm) (fitsIndex_of (by lia) (by lia)) fun h' ed td=>?_
 refine aJ (bG.putL (l:=l.set k.toNat v) R hr h1 td ed (by simpa using hz) (bq.set hv k.toNat Bq)) fun S R'=>?_
 exact h h' _ S R'
theorem CY {o i v:V} {ao ai av:Value} {af:ag} {Q:Unit→Shared→Prop} (he:lO o i v σ=some af) (R:ak g φ σ s.heap) (ho:VR g φ s.heap o ao) (hi:VR g φ s.heap i ai) (hv:VR g φ s.heap v av)
  (h:∀ h' tk,SE φ s.heap φ h'→ak g φ af h'→Q () {s with heap:=h',toks:=tk}) :
  wpAny (model g.prog g.w) A (setItem ao ai av) Q E s:=by
 refine aK he fun r hr he=>?_
 refine aK he fun m hm he=>?_
 apply Mq hr ho;intro c hr
 cases m with
 | lst l=>exact CX he R hr hm hi hv h
 | own=>exact no he
 | wd _=>exact no he
 | exn _ _=>exact no he
 | tab _=>exact no he
end
noncomputable def Mv (wr φ:List Addr) (h h':Heap):Prop:=∀ b o,b∉wr→b∉φ→h.get? b=some o→h'.get? b=some o
noncomputable def fz (h:Heap) (b:Addr):Prop:=∃ o,h.get? b=some o∧Bu o
theorem fU {o:Obj} {vs:Array Value} {n:String} (hc:o.cls=.type n) (hd:o.data=.fields vs) (hn:n ≠ "code"):Bu o :=
 ⟨(fun _ _ q=>nomatch hd.symm.trans q),(fun _ _ q=>nomatch hd.symm.trans q),fun q=>absurd (hc.symm.trans q) fun q=>hn (by injection q)⟩
theorem Bu.not {o:Obj} (x:Bu o):¬ ic o:=by
 rintro (⟨_,_,_,h⟩ | ⟨h1,_,h2⟩)
 ·exact x.seq _ _ h
 ·exact x.code h1 _ h2
noncomputable def DC (h:Heap) (b:Addr):Prop:=∃ o bn n,h.get? b=some o∧o.data=.seq bn n
noncomputable def qB (two:Bool) (t:Expr):Prop:=(∃ es k p,t=.Tuple es k p)∨(two=false∧∃ x p,t=.Name x p)
structure qK (g:G) (A:Around) (I:Addr) (xs:List V) (w:List (Nat×aZ)) (two:Bool) (ys:List V) (vs:List Value) (wr kp:List Addr) (St:Nat→Heap→Prop) (ti:Nat→Value→Heap→Prop):Prop where
 frame:∀ i h h',St i h→(∀ b,b∈wr∨b∈kp→∀ o,h.get? b=some o→h'.get? b=some o)→St i h'
 wrN:∀ i h,St i h→∀ b∈wr,fz h b
 wrM:∀ i a h,ti i a h→∀ b∈wr,fz h b
 kpN:∀ i h,St i h→∀ b∈kp,DC h b
 item:∀ i φ σ (s:Shared) (Q:Option Value→Shared→Prop) (E:Value→Shared→Prop) x,St i s.heap→ak g φ σ s.heap→bq g φ s.heap ys vs→cn σ w→(∀ b,b∈wr∨b∈kp→b∉φ)→(∀ b∈wr,g.B.get? b=none)→xs[i]? = some x →
  (∀ a h' tk,Mv wr φ s.heap h'→ak g φ σ h'→VR g φ h' x a→ti i a h'→Q (some a) {s with heap:=h',toks:=tk})→wpAny (model g.prog g.w) A (pyNext (.ref I)) Q E s
 go:∀ t,qB two t→∀ i φ σ a (s:Shared) (Q:Unit→Shared→Prop) (E:Value→Shared→Prop),ti i a s.heap→ak g φ σ s.heap→(∀ b,b∈wr∨b∈kp→b∉φ)→(∀ b∈wr,g.B.get? b=none) →
  (∀ h',Mv wr φ s.heap h'→ak g φ σ h'→St (i+1) h'→Q () {s with heap:=h'})→wpAny (model g.prog g.w) A (letOwnedTupleGo t (.ref I) a) Q E s
 done:∀ φ σ (s:Shared) (Q:Option Value→Shared→Prop) (E:Value→Shared→Prop),St xs.length s.heap→ak g φ σ s.heap→bq g φ s.heap ys vs→cn σ w→(∀ b,b∈wr∨b∈kp→b∉φ)→(∀ b∈wr,g.B.get? b=none) →
  (∀ h' tk,Mv wr φ s.heap h'→ak g φ σ h'→Q none {s with heap:=h',toks:=tk})→wpAny (model g.prog g.w) A (pyNext (.ref I)) Q E s
 self:∀ i (s:Shared) (Q:Value→Shared→Prop) (E:Value→Shared→Prop),St i s.heap→Q (.ref I) s→wpAny (model g.prog g.w) A (pyIter (.ref I)) Q E s
section
variable {g:G} {A:Around} {E:Value→Shared→Prop} {φ:List Addr} {σ:ag} {s:Shared} {wr:List Addr}
theorem Mv.tup {h h':Heap} (M:Mv wr φ h h') (hw:∀ b∈wr,fz h b):∀ b o,h.get? b=some o→ic o→b∉φ→h'.get? b=some o∧b∉φ:=by
 intro b o e hs hn
 refine ⟨M b o (fun hb=>?_) hn e,hn⟩
 refine au (hw b hb) fun o' e' hd=>?_
 rw [e] at e';cases e'
 exact hd.not hs
theorem Mv.vr {h h':Heap} (M:Mv wr φ h h') (hw:∀ b∈wr,fz h b) {v:V} {a:Value} (x:VR g φ h v a):VR g φ h' v a:=x.stepT (fun _ _ e=>e) (M.tup hw)
theorem Mv.vrs {h h':Heap} (M:Mv wr φ h h') (hw:∀ b∈wr,fz h b) {l:List V} {vs:List Value} (x:bq g φ h l vs):bq g φ h' l vs:=x.stepT (fun _ _ e=>e) (M.tup hw)
theorem ak.mv {h h':Heap} (R:ak g φ σ h) (M:∀ b o,b∉wr→h.get? b=some o→h'.get? b=some o) (hw:∀ b∈wr,fz h b) (hn:∀ b∈wr,b∉φ) (hB:∀ b∈wr,g.B.get? b=none):ak g φ σ h':=by
 have M':Mv wr φ h h':=fun b o h1 _ e=>M b o h1 e
 refine ⟨fun b o e=>M b o (fun hb=>by rw [hB b hb] at e;cases e) (R.base b o e),R.fresh,R.len,R.nodup,fun i a m h1 h2=>?_,R.tabs⟩
 exact (R.objs i a m h1 h2).stepT (fun _ _ e=>e) (M'.tup hw) fun o e=>M _ o (fun hb=>hn _ hb (List.mem_of_getElem? h1)) e
theorem Mv.all {h h':Heap} (M:∀ b o,b∉wr→h.get? b=some o→h'.get? b=some o):Mv wr φ h h':=fun b o h1 _ e=>M b o h1 e
theorem jZ {t:Expr} {I:Addr} {a:Value} {o:Obj} {n:String} {Q:Unit→Shared→Prop} (ht:qB false t) (ho:s.heap.get? I=some o) (hc:o.cls=.type n) (hn:n = "list_iterator" ∨ n = "tuple_iterator" ∨ n = "range_iterator") (h:Q () s) :
  wpAny (model g.prog g.w) A (letOwnedTupleGo t (.ref I) a) Q E s:=by
 rcases ht with ⟨es,k,p,rfl⟩ | ⟨_,x,p,rfl⟩
 ·cases a with
  | ref c =>
   unfold letOwnedTupleGo
   refine wpAny_bind (wpAny_load ho ?_)
   rw [hc]
   cases hd:o.data with
   | fields vs =>
    show wpAny _ _ (if (["enumerate", "zip", "dict_itemiterator", "dict_reverseitemiterator", "odict_iterator", "itertools.zip_longest", "itertools.pairwise"].contains n&&vs[0]? == some (rawInt c))=true then _ else _) Q E s
    rw [if_neg (by rcases hn with rfl | rfl | rfl <;> simp)]
    exact wpAny_pure h
   | _=>exact wpAny_pure h
  | _=>exact wpAny_pure h
 ·exact wpAny_pure h
theorem xY {r:Nat} {m:aZ} {w:List (Nat×aZ)} (h:cn σ ((r,m)::w)):σ[r]? = some m:=h _ List.mem_cons_self
theorem qK.list (hh:A.handled=none) (I c:Addr) (r:Nat) (l:List V) (eM:c≠I) :
  qK g A I l [(r,.lst l)] false [.ref r] [.ref c] [I] [] (fun i h=>h.IsListIter I c i) (fun i _ h=>h.IsListIter I c (i+1)):=by
 have ns:∀ i h,h.IsListIter I c i→∀ b∈[I],fz h b:=fun i h st b hb=>by
  simp at hb;apply aO hb
  refine fL st fun o ho hc hd=>?_
  exact ⟨o,ho,fU hc hd (by decide)⟩
 have mh:∀ {φ:List Addr} {σ:ag} {h:Heap},ak g φ σ h→bq g φ h [.ref r] [.ref c]→cn σ [(r,.lst l)]→∃ vs,h.IsList c vs.toArray∧bq g φ h l vs:=fun {φ σ h} R hv hw=>by
  cases hv with
  | cons hv _ =>
   cases hv with
   | ref hr =>
    refine fL (R.list hr (dQ (xY hw))) fun vs hl Bq _=>?_
    exact ⟨vs,hl.isList,Bq⟩
 refine ⟨fun i h h' st hk=>st.at fun o e=>hk I (.inl (by simp)) o e,ns,fun i a h m=>ns _ h m,fun _ _ _ b hb=>(nomatch hb),?_,?_,?_,fun i s Q E st h=>wpAny_pyIter_listiter st h⟩
 ·intro i φ σ s Q E x st R hv hw hn hB hx hQ
  refine au (mh R hv hw) fun vs hl Bq=>?_
  refine au (Bq.get hx) fun a ha Ph=>?_
  refine wpAny_pyNext_list_item st hl (x:=a) (by simpa using ha) fun h' Fu td=>?_
  have M:∀ b o,b∉[I]→s.heap.get? b=some o→h'.get? b=some o:=fun b o hb e=>td.extBut b o (by simpa using hb) e
  have M':Mv [I] φ s.heap h':=Mv.all M
  exact hQ a h' s.toks M' (R.mv M (ns _ _ st) (fun b hb=>hn b (.inl hb)) hB) (M'.vr (ns _ _ st) Ph) Fu
 ·intro t ht i φ σ a s Q E m R hn hB hQ
  refine fL (id m) fun o ho hc hd=>?_
  exact jZ ht ho hc (.inl rfl) (hQ s.heap (fun _ _ _ _ e=>e) R m)
 ·intro φ σ s Q E st R hv hw hn hB hQ
  refine au (mh R hv hw) fun vs hl Bq=>?_
  refine wpAny_pyNext_list_end hh st hl (by simp [Bq.length]) fun h' td=>?_
  have M:∀ b o,b∉[I]→s.heap.get? b=some o→h'.get? b=some o:=fun b o hb e=>td b o (by simpa using hb) e
  exact hQ h' s.toks (Mv.all M) (R.mv M (ns _ _ st) (fun b hb=>hn b (.inl hb)) hB)
theorem qK.walks {I:Addr} {fp kp:List Addr} {xs ys:List V} {vs:List Value} {P:Nat→Value→Prop} {St:Nat→Heap→Prop} {n:String} (W:Walks g.prog g.w A I fp [I] xs.length P St) (KQ:∀ b∈fp,b=I∨b∈kp)
  (hn:n = "list_iterator" ∨ n = "tuple_iterator" ∨ n = "range_iterator")
  (hI:∀ i h,St i h→∃ o vs,h.get? I=some o∧o.cls=.type n∧o.data=.fields vs) (OT:∀ i h,St i h→∀ b∈kp,DC h b)
  (hP:∀ φ h i v x,bq g φ h ys vs→P i v→xs[i]? = some x→VR g φ h x v) :
  qK g A I xs [] false ys vs [I] kp St (fun i _ h=>St (i+1) h):=by
 have ns:∀ i h,St i h→∀ b∈[I],fz h b:=fun i h st b hb=>by
  simp at hb;apply aO hb
  refine kF (hI i h st) fun o vs ho hc hd=>?_
  exact ⟨o,ho,fU hc hd (by rcases hn with rfl | rfl | rfl <;> decide)⟩
 refine ⟨fun i h h' st hk=>W.frame i h h' st fun b hb o e=>hk b (by rcases KQ b hb with rfl | q;exact .inl (by simp);exact .inr q) o e,ns,fun i a h m=>ns _ h m,OT,?_,?_,?_,W.self⟩
 ·intro i φ σ s Q E x st R hv hw jl hB hx hQ
  refine W.item i s Q E (List.getElem?_eq_some_iff.mp hx).1 st fun v h' tk hp st' M=>?_
  have M':Mv [I] φ s.heap h':=Mv.all M
  exact hQ v h' tk M' (R.mv M (ns _ _ st) (fun b hb=>jl b (.inl hb)) hB) (hP φ h' i v x (M'.vrs (ns _ _ st) hv) hp hx) st'
 ·intro t ht i φ σ a s Q E m R jl hB hQ
  refine kF (hI _ _ m) fun o vs ho hc hd=>?_
  exact jZ ht ho hc hn (hQ s.heap (fun _ _ _ _ e=>e) R m)
 ·intro φ σ s Q E st R hv hw jl hB hQ
  refine W.done s Q E st fun h' tk M=>?_
  exact hQ h' tk (Mv.all M) (R.mv M (ns _ _ st) (fun b hb=>jl b (.inl hb)) hB)
noncomputable def yD (g:G) (A:Around) (φ:List Addr) (s:Shared) (xs:List V) (w:List (Nat×aZ)) (two:Bool) (af:ag) (a:Value) (s₁:Shared):Prop :=
 ∃ aI,SE φ s.heap aI s₁.heap∧ak g aI af s₁.heap∧bx s s₁∧∀ (E:Value→Shared→Prop) (Q:Value→Shared→Prop),
  (∀ I ys vs wr kp St ti h',qK g A I xs w two ys vs wr kp St ti→St 0 h'→(∀ b o,s₁.heap.get? b=some o→h'.get? b=some o)→bq g aI h' ys vs→(∀ b∈wr,s.heap.get? b=none)→(∀ b,b∈wr∨b∈kp→b∉aI) →
   (∀ b∈wr,g.B.get? b=none)→Q (.ref I) {s₁ with heap:=h'})→wpAny (model g.prog g.w) A (pyIter a) Q E s₁
theorem a7 {h:Heap} {b:Addr} (R:ak g φ σ h) (hb:h.get? b=none):g.B.get? b=none:=by
 cases e:g.B.get? b with
 | none=>rfl
 | some o=>have:=R.base b o e;rw [hb] at this;cases this
theorem a0 {h:Heap} {b:Addr} (R:ak g φ σ h) (hb:h.get? b=none):b∉φ:=fun x=>by
 refine Exists.elim (R.live x) fun o ho=>?_
 rw [hb] at ho;cases ho
theorem SE.back {φ aI:List Addr} {h h':Heap} (S:SE φ h aI h') {b:Addr} (hb:h'.get? b=none):h.get? b=none:=by
 cases e:h.get? b with
 | none=>rfl
 | some o=>refine Exists.elim (S.dom b o e) fun o' e'=>?_;rw [hb] at e';cases e'
set_option tactic.hygienic true in
theorem Dh {x:V} {a:Value} {xs:List V} {w:List (Nat×aZ)} {s₁:Shared} (hh:A.handled=none) (he:iP σ x=some (xs,w)) (hp:bG g φ s x σ a s₁):yD g A φ s xs w false σ a s₁:=by
 refine ym hp fun aI S R hx hS=>?_
 refine ⟨aI,S,R,hS,fun E Q h=>?_⟩
 have fb:s.heap.get? s₁.heap.objs.size=none:=S.back (aC _)
 have Hv:s₁.heap.objs.size∉aI:=a0 R (aC _)
 have fB:g.B.get? s₁.heap.objs.size=none:=a7 R (aC _)
 revert he;apply VR.el hx
 case tup =>
  intro l c vs ht hz hv hn he
  refine aJ (kZ he) fun q1 q2=>?_;subst q1 q2
  have bQ:c<s₁.heap.objs.size:=by refine au ht fun _ e _=>?_;exact Heap.lt_size e
  have W:=Walks.tuple (prog:=g.prog) (w:=g.w) hh s₁.heap.objs.size c (Nat.ne_of_lt bQ) vs.toArray
  simp only [List.size_toArray,List.getElem?_toArray,←hv.length] at W
  refine wpAny_pyIter_tuple ht (h _ l vs [_] [c] _ _ _ (qK.walks W (fun b hb=>by simpa using hb) (.inr (.inl rfl)) ?_ ?_ ?_) ⟨⟨_,Heap.get?_push_size _ rfl,rfl,rfl⟩,ht.push _⟩ (fun b o e=>Heap.get?_push_of_some _ e) (hv.stepT (fun _ _ e=>e) fun b o e _ hn=>⟨Heap.get?_push_of_some _ e,hn⟩) (by simpa using fb) ?_ (by simpa using fB))
  ·intro i h st
   refine aJ st fun k1 _=>?_;refine fL k1 fun o ho hc hd=>?_
   exact ⟨o,_,ho,hc,hd⟩
  ·intro i h st b hb
   simp at hb;apply aO hb
   obtain ⟨_,o,ho,hc,n,hd⟩:=st
   exact ⟨o,_,n,ho,hd⟩
  ·intro φ h i v x hv hp hx
   refine au (hv.get hx) fun a ha hr=>?_
   rw [hp] at ha;cases ha;exact hr
  ·intro b hb
   refine Or.elim hb (fun hb=>?_) (fun hb=>?_)
   ·simp at hb;apply aO hb;exact Hv
   ·simp at hb;apply aO hb;exact hn
 case ro =>
  intro ns c vs hl hz hi he
  refine aJ (kZ he) fun q1 q2=>?_;subst q1 q2
  have ed:s₁.heap.IsList c vs.toArray:=hl.at fun o e=>R.base _ o e
  have bQ:c<s₁.heap.objs.size:=by refine au ed fun _ e _=>?_;exact Heap.lt_size e
  have W:=Walks.list (prog:=g.prog) (w:=g.w) hh s₁.heap.objs.size c (Nat.ne_of_lt bQ) vs.toArray
  have hv:bq g aI s₁.heap (ns.map .int) vs:=vA hi
  simp only [List.size_toArray,List.getElem?_toArray,←hv.length] at W
  refine wpAny_pyIter_list ed (h _ (ns.map .int) vs [_] [c] _ _ _ (qK.walks W (fun b hb=>by simpa using hb) (.inl rfl) ?_ ?_ ?_) ⟨⟨_,Heap.get?_push_size _ rfl,rfl,rfl⟩,ed.push _⟩ (fun b o e=>Heap.get?_push_of_some _ e) (hv.stepT (fun _ _ e=>e) fun b o e _ hn=>⟨Heap.get?_push_of_some _ e,hn⟩) (by simpa using fb) ?_ (by simpa using fB))
  ·intro i h st
   refine aJ st fun k2 _=>?_;refine fL k2 fun o ho hc hd=>?_
   exact ⟨o,_,ho,hc,hd⟩
  ·intro i h st b hb
   simp at hb;apply aO hb
   obtain ⟨_,o,ho,hc,n,hd⟩:=st
   exact ⟨o,_,n,ho,hd⟩
  ·intro φ h i v x hv hp hx
   refine au (hv.get hx) fun a ha hr=>?_
   rw [hp] at ha;cases ha;exact hr
  ·intro b hb
   refine Or.elim hb (fun hb=>?_) (fun hb=>?_)
   ·simp at hb;apply aO hb;exact Hv
   ·simp at hb;apply aO hb
    intro hm
    refine au hl fun o ho _=>?_
    rw [R.fresh _ hm] at ho;cases ho
 case ref =>
  intro r c hr he
  ·refine aK he fun l' ed he=>?_
   refine aJ (kZ he) fun q1 q2=>?_;subst q1 q2
   refine fL (R.list hr ed) fun vs hl hv hz=>?_
   have bQ:c<s₁.heap.objs.size:=by refine Exists.elim hl fun _ e=>?_;exact Heap.lt_size e
   refine wpAny_pyIter_list hl.isList (h _ [.ref r] [.ref c] [_] [] _ _ _ (qK.list hh s₁.heap.objs.size c r l' (Nat.ne_of_lt bQ)) ⟨_,Heap.get?_push_size _ rfl,rfl,rfl⟩ (fun b o e=>Heap.get?_push_of_some _ e) (.one (.ref hr)) (by simpa using fb) ?_ (by simpa using fB))
   intro b hb
   refine Or.elim hb (fun hb=>?_) (fun hb=>?_)
   ·simp at hb;apply aO hb;exact Hv
   ·cases hb
 all_goals (intros;rename_i he;exact no he)
theorem ph (a b c:Int):eZ a b c=(Builtin.Range.rangeSize a b c).toNat:=rfl
theorem er (a b c:Int) (hc:c≠0):0≤Builtin.Range.rangeSize a b c:=by
 unfold Builtin.Range.rangeSize
 split
 ·split
  ·have:=Int.ediv_nonneg (a:=b - a - 1) (b:=c) (by lia) (by lia);lia
  ·lia
 ·split
  ·have:=Int.ediv_nonneg (a:=a - b - 1) (b:=-c) (by lia) (by lia);lia
  ·lia
theorem qp (a b c:Int) (hc:c≠0) (ha:-1000000000≤a∧a≤1000000000) (hb:-1000000000≤b∧b≤1000000000):Builtin.Range.rangeSize a b c≤2000000000:=by
 unfold Builtin.Range.rangeSize
 split
 ·split
  ·have:=Int.ediv_le_self (a:=b - a - 1) c (by lia);lia
  ·lia
 ·split
  ·have:=Int.ediv_le_self (a:=a - b - 1) (-c) (by lia);lia
  ·lia
theorem nS {a b c:Int} (hc:c≠0) (ha:-1000000000≤a∧a≤1000000000) (hb:-1000000000≤b∧b≤1000000000) (dG:-1000000000≤c∧c≤1000000000):Builtin.Range.small a b c=true:=by
 have h0:=er a b c hc
 have h1:=qp a b c hc ha hb
 unfold Builtin.Range.small
 simp only [Builtin.Range.rangeFitsLong,Bool.and_eq_true,Bool.or_eq_true,decide_eq_true_eq,beq_iff_eq]
 refine ⟨⟨⟨⟨by lia,by lia⟩,by lia⟩,by lia⟩,.inr ?_⟩
 split <;> simp only [Bool.and_eq_true,decide_eq_true_eq] <;> lia
theorem xM {a b c:Int} {r:Addr} {t u v:Tok} {s₁:Shared} (hh:A.handled=none) (hr:IsRange s₁.heap r a b c t u v) (hc:c≠0) (wV:Builtin.Range.small a b c=true) {aI:List Addr} (S:SE φ s.heap aI s₁.heap) (R:ak g aI σ s₁.heap) (hS:bx s s₁) :
  yD g A φ s (bp a b c) [] false σ (.ref r) s₁:=by
 refine ⟨aI,S,R,hS,fun E Q h=>?_⟩
 have fb:s.heap.get? s₁.heap.objs.size=none:=S.back (aC _)
 have Hv:s₁.heap.objs.size∉aI:=a0 R (aC _)
 have fB:g.B.get? s₁.heap.objs.size=none:=a7 R (aC _)
 have hlen:(bp a b c).length=(Builtin.Range.rangeSize a b c).toNat:=by simp [bp,ph]
 have W:=Walks.range (prog:=g.prog) (w:=g.w) hh s₁.heap.objs.size a c (bp a b c).length
 refine wpAny_pyIter_range hr wV (h _ [] [] [_] [] _ _ _ (qK.walks W (fun b hb=>.inl (by simpa using hb)) (.inr (.inr rfl)) ?_ ?_ ?_) ?_ (fun b o e=>Heap.get?_push_of_some _ e) .nil (by simpa using fb) ?_ (by simpa using fB))
 ·intro i h st
  exact ⟨_,_,st,rfl,rfl⟩
 ·intro i h st b hb;cases hb
 ·intro φ h i v x hv hp hx
  refine Exists.elim hp fun t q2=>?_;apply aO q2
  have:x=.int (a+(i:Int) * c):=by
   simp only [bp,List.getElem?_map] at hx
   have hi:i<eZ a b c:=by
    have:=(List.getElem?_eq_some_iff.mp (show (bp a b c)[i]? = some x by simpa [bp] using hx)).1
    simpa [bp] using this
   rw [List.getElem?_range hi] at hx
   simpa using hx.symm
  apply aO this
  exact .int _ _
 ·show IsRangeIter _ _ _ _ _
  rw [hlen]
  have:=er a b c hc
  have e:(((Builtin.Range.rangeSize a b c).toNat:Int) - (0:Nat))=Builtin.Range.rangeSize a b c:=by lia
  rw [e]
  have e2:a+((0:Nat):Int) * c=a:=by simp
  rw [e2]
  exact Heap.get?_push_size _ rfl
 ·intro b hb
  refine Or.elim hb (fun hb=>?_) (fun hb=>?_)
  ·simp at hb;apply aO hb;exact Hv
  ·cases hb
end
section
variable {prog:Program} {w:World} {A:Around} {E:Value→Shared→Prop} {s:Shared}
theorem j5 {it t:Addr} {i:Nat} {bn} {x:Value} {Q:Value→Shared→Prop} (hit:s.heap.IsTupleIter it t i)
  (ht:s.heap.IsTuple t bn) (hx:bn[i]? = some x)
  (hQ:∀ h',h'.IsTupleIter it t (i+1)→Heap.SameBut it s.heap h'→Q x {s with heap:=h'}) :
  wpAny (model prog w) A (Builtin.SmallTypes.nextOf (.ref it)) Q E s:=by
 refine fL (id hit) fun o ho hc hd=>?_
 obtain ⟨ol,Lj,_,nl,D3⟩:=ht
 unfold Builtin.SmallTypes.nextOf
 refine wpAny_bind (wpAny_callSpecial?_slot (name:=Str.ofString "__next__") hit.typeIs F.slot_tuple_iterator_next
  (wpAny_call_entry F.slot_tuple_iterator_next hit.typeIs F.entry_tuple_iterator_next ?_ (F.args_tuple_iterator_next_1 _)))
 show wpAny _ _ (field (.ref it) 0>>=_) _ _ s
 refine wpAny_bind (wpAny_field ho hd (x:=.ref t) rfl ?_)
 show wpAny _ _ (if (Value.ref t==Value.none)=true then _ else _) _ _ s
 rw [if_neg (show ¬ ((Value.ref t==Value.none)=true) from Bool.false_ne_true)]
 show wpAny _ _ (field (.ref it) 1>>=_) _ _ s
 refine wpAny_bind (wpAny_field ho hd (x:=.int i 0) rfl ?_)
 show wpAny _ _ (seqItems? (.ref t)>>=_) _ _ s
 refine wpAny_bind (wpAny_seqItems Lj D3 ?_)
 simp only [Int.toNat_natCast,hx]
 refine wpAny_bind (wpAny_setField ho hd (by simp) (wpAny_pure ⟨x,rfl,wpAny_pure (hQ _ ?_ (Heap.SameBut.update ..))⟩))
 exact ⟨_,Heap.get?_update_self _ ho (Obj.isFreed_of_fields (Obj.data_mapFields hd _)),(Obj.cls_mapFields ..).trans hc,by
  rw [Obj.data_mapFields hd];simp [rawInt]⟩
theorem kW {it t:Addr} {i:Nat} {bn} {Q:Value→Shared→Prop} (hh:A.handled=none)
  (hit:s.heap.IsTupleIter it t i) (ht:s.heap.IsTuple t bn) (hx:bn[i]? = none)
  (hE:∀ h' e,Heap.ExtBut it s.heap h'→(∃ o,h'.get? e=some o∧o.cls=.type "StopIteration")→E (.ref e) {s with heap:=h'}) :
  wpAny (model prog w) A (Builtin.SmallTypes.nextOf (.ref it)) Q E s:=by
 refine fL (id hit) fun o ho hc hd=>?_
 obtain ⟨ol,Lj,_,nl,D3⟩:=ht
 unfold Builtin.SmallTypes.nextOf
 refine wpAny_bind (wpAny_callSpecial?_slot (name:=Str.ofString "__next__") hit.typeIs F.slot_tuple_iterator_next
  (wpAny_call_entry F.slot_tuple_iterator_next hit.typeIs F.entry_tuple_iterator_next ?_ (F.args_tuple_iterator_next_1 _)))
 show wpAny _ _ (field (.ref it) 0>>=_) _ _ s
 refine wpAny_bind (wpAny_field ho hd (x:=.ref t) rfl ?_)
 show wpAny _ _ (if (Value.ref t==Value.none)=true then _ else _) _ _ s
 rw [if_neg (show ¬ ((Value.ref t==Value.none)=true) from Bool.false_ne_true)]
 show wpAny _ _ (field (.ref it) 1>>=_) _ _ s
 refine wpAny_bind (wpAny_field ho hd (x:=.int i 0) rfl ?_)
 show wpAny _ _ (seqItems? (.ref t)>>=_) _ _ s
 refine wpAny_bind (wpAny_seqItems Lj D3 ?_)
 simp only [Int.toNat_natCast,hx]
 refine wpAny_bind (wpAny_rule (wpAny_bind (wpAny_setField ho hd (by simp) ?_)))
 show wpAny _ _ (newExc (.type "StopIteration") []>>=_) _ _ _
 refine wpAny_bind ?_
 simp only [newExc,newTuple]
 refine wpAny_bind (wpAny_newObj_type ?_ (by size_fits))
 refine wpAny_bind (m:=firstArgMember _ _) (wpAny_of_eq (a:=Value.none) (by first | rfl | (simp only [firstArgMember];rfl)) ?_)
 refine wpAny_newObj_type ?_ (by size_fits)
 simp only [raiseNew]
 refine wpAny_bind (wpAny_handled ?_)
 first | rw [show A.in1.handled=none from hh] | rw [hh]
 refine wpAny_bind (wpAny_pure (wpAny_throw ?_))
 exact hE _ _ (((Heap.SameBut.update ..).extBut.push _).push _) ⟨_,Heap.get?_push_size _ rfl,rfl⟩
end
theorem tH {prog:Program} {w:World} {A:Around} (hh:A.handled=none) (it l:Addr) (eM:l≠it) (bn:Array Value) :
  Draws prog w A it [it,l] bn.size (fun i v=>bn[i]? = some v) (fun i h=>h.IsTupleIter it l i∧h.IsTuple l bn) where
 live:=fun _ _ st=>let ⟨o,ho,_⟩:=st.1;⟨o,ho⟩
 frame:=fun _ _ _ st hk=>⟨st.1.at fun o e=>hk it (by simp) o e,st.2.at fun o e=>hk l (by simp) o e⟩
 item:=fun i s Q E hi st hQ=>by
  refine j5 st.1 st.2 (x:=bn[i]) (by simp [hi]) fun h' Fu td=>?_
  exact hQ _ h' s.toks (by simp [hi]) ⟨Fu,st.2.extBut td.extBut eM⟩ td
 done:=fun s Q E st hE=>kW hh st.1 st.2 (by simp) hE
theorem j6:∀ {xs:List V} {k i:Nat} {x:V},(bP k xs)[i]? = some x→∃ y,xs[i]? = some y∧x=.tup [.int ((k+i:Nat):Int),y]
 | [],_,_,_,h=>by simp [bP] at h
 | y::xs,k,0,x,h=>by simp [bP] at h;exact ⟨y,by simp,by simp [h]⟩
 | y::xs,k,i+1,x,h=>by
  simp only [bP,List.getElem?_cons_succ] at h
  refine au (j6 h) fun z h1 h2=>?_
  exact ⟨z,by simpa using h1,by rw [h2];simp;lia⟩
theorem j7:∀ (xs:List V) (k:Nat),(bP k xs).length=xs.length
 | [],_=>rfl
 | _::xs,k=>by simp [bP,j7 xs]
section
variable {g:G} {A:Around} {E:Value→Shared→Prop} {φ:List Addr} {σ:ag} {s:Shared}
theorem qK.enum (hh:A.handled=none) (e it c:Addr) (xs:List V) (vs:List Value) (GJ:xs.length=vs.length) (wP:e≠it) (OG:e≠c) (OB:c≠it) :
  qK g A e (bP 0 xs) [] true xs vs [e,it] [c]
   (fun i h=>(∃ old,IsEnum h e it i old)∧h.IsTupleIter it c i∧h.IsTuple c vs.toArray)
   (fun i a h=>∃ T,a=.ref T∧(∃ x,IsEnumOut h e it ((i:Int)+1) x T)∧(h.IsTupleIter it c (i+1)∧h.IsTuple c vs.toArray)∧T≠e∧T≠it):=by
 have D:=tH (prog:=g.prog) (w:=g.w) (A:=A.in1) hh it c OB vs.toArray
 have W:=WalksT.enumerateD D e wP (by simp [wP,OG]) (by simp)
 have ns:∀ (i:Nat) h,((∃ old,IsEnum h e it i old)∧h.IsTupleIter it c i∧h.IsTuple c vs.toArray)→∀ b∈[e,it],fz h b:=fun i h st b hb=>by
  refine iY st fun k1 k2 _=>?_;refine Exists.elim k1 fun old he=>?_;refine fL k2 fun o ho hc hd=>?_
  simp at hb
  rcases hb with rfl | rfl
  ·exact ⟨_,he,fU rfl rfl (by decide)⟩
  ·exact ⟨o,ho,fU hc hd (by decide)⟩
 have hz:(bP 0 xs).length=vs.toArray.size:=by rw [j7,GJ];simp
 refine ⟨?_,ns,?_,?_,?_,?_,?_,W.self⟩
 ·intro i h h' st hk
  exact W.frame i h h' st fun b hb o x=>hk b (by simp at hb ⊢;rcases hb with rfl | rfl | rfl <;> simp) o x
 ·intro i a h m b hb
  refine ym m fun T _ k3 k4 _=>?_;refine Exists.elim k3 fun x he=>?_;refine aJ k4 fun k7 _=>?_;refine fL k7 fun o ho hc hd=>?_
  simp at hb
  rcases hb with rfl | rfl
  ·exact ⟨_,he,fU rfl rfl (by decide)⟩
  ·exact ⟨o,ho,fU hc hd (by decide)⟩
 ·intro i h st b hb
  simp at hb;apply aO hb
  obtain ⟨_,_,o,ho,hc,n,hd⟩:=st
  exact ⟨o,_,n,ho,hd⟩
 ·intro i φ σ s Q E x st R hv hw hn hB hx hQ
  have hi:i<vs.toArray.size:=by rw [←hz];exact (List.getElem?_eq_some_iff.mp hx).1
  refine W.item i s Q E hi st fun T cF h' tk hP cZ hT hm M=>?_
  refine fv hP fun t y hy q4=>?_;subst q4
  refine au (j6 hx) fun z LL q3=>?_;subst q3
  refine au (hv.get LL) fun a ha hr=>?_
  have Pm:y=a:=by simp at hy;rw [hy] at ha;exact Option.some.inj ha
  subst Pm
  have M':Mv [e,it] φ s.heap h':=Mv.all M
  have Om:s.heap.get? T=none:=by
   cases q:s.heap.get? T with
   | none=>rfl
   | some o=>exact absurd (Heap.lt_size q) (Nat.not_lt.mpr cZ)
  have Kp:T∉φ:=a0 R Om
  refine hQ _ h' tk M' (R.mv M (ns _ _ st) (fun b hb=>hn b (.inl hb)) hB) (.tup (vs:=[.int i t,y]) (by simpa using hT) (by simp [an]) (.cons (by simpa using VR.int (i:Int) t) (.one (M'.vr (ns _ _ st) hr))) Kp) ?_
  exact ⟨T,rfl,hm.1,hm.2.1,hm.2.2.1,hm.2.2.2⟩
 ·intro t ht i φ σ a s Q E m R hn hB hQ
  refine NO (id m) fun T q2 m1 m2 m3 m4=>?_;apply aO q2
  rcases ht with ⟨es,k,p,rfl⟩ | ⟨q,_⟩
  ·refine W.go es k p i T s Q E ⟨m1,m2,m3,m4⟩ fun h' st' M=>?_
   have PK:∀ b∈[e,it],fz s.heap b:=fun b hb=>by
    refine Exists.elim m1 fun x he=>?_
    refine aJ m2 fun k6 _=>?_;refine fL k6 fun o ho hc hd=>?_
    simp at hb
    rcases hb with rfl | rfl
    ·exact ⟨_,he,fU rfl rfl (by decide)⟩
    ·exact ⟨o,ho,fU hc hd (by decide)⟩
   exact hQ h' (Mv.all M) (R.mv M PK (fun b hb=>hn b (.inl hb)) hB) st'
  ·cases q
 ·intro φ σ s Q E st R hv hw hn hB hQ
  rw [hz] at st
  refine W.done s Q E st fun h' tk M=>?_
  exact hQ h' tk (Mv.all M) (R.mv M (ns _ _ st) (fun b hb=>hn b (.inl hb)) hB)
end
section
variable {prog:Program} {w:World} {A:Around} {E:Value→Shared→Prop} {s:Shared}
end
open AutoSeq1 (wpAny_loadPart')
set_option tactic.hygienic true in
theorem rW (l:Addr) (bn:Array Value) (n:Nat) (J5:Option Addr) (sl:Array (Option Value)) :
  Meets (Builtin.«enumerate.__new__» ⟨[.type "enumerate", .ref l],[]⟩) (fun _ R s=>s.heap.get? l=some {cls:=.type "tuple", dict:=J5,data:=.seq bn n,slots:=sl} ∧
   R (.ok (.ret (.ref (s.heap.push {cls:=.type "tuple_iterator", data:=.fields #[.ref l,.int 0 0]}).objs.size)))
    {s with heap:=(s.heap.push {cls:=.type "tuple_iterator", data:=.fields #[.ref l,.int 0 0]}).push {cls:=.type "enumerate", data:=.fields #[.none,.bool false,.ref s.heap.objs.size,rawInt 0,.none,.none]}}) :=
 .of_wp fun prog w A R s h=>by
  obtain ⟨hp,g,d,tk,os⟩:=s;refine aJ h fun hl h=>?_
  have hsub:=sub_enumerate
  have hL:Heap.IsTuple (Shared.heap ⟨hp,g,d,tk,os⟩) l bn:=⟨_,hl,rfl,n,rfl⟩
  wp_walk using wpAny_loadPart' hl
  refine wpAny_stack_any fun st=>wpAny_pure ?_
  split
  ·rename_i c _ _ _ _ _
   cases (c==Value.type "enumerate")
   ·wp_walk using wpAny_loadPart' hl,wpAny_pyIter_tuple hL
    exact ⟨_,rfl,h⟩
   ·wp_walk using wpAny_loadPart' hl,wpAny_pyIter_tuple hL
    exact ⟨_,rfl,h⟩
  ·wp_walk using wpAny_loadPart' hl,wpAny_pyIter_tuple hL
   exact ⟨_,rfl,h⟩
section
variable {prog:Program} {w:World} {A:Around} {E:Value→Shared→Prop} {s:Shared}
theorem tD {l:Addr} {bn:Array Value} {Q:Value→Shared→Prop} (hL:s.heap.IsTuple l bn)
  (h:∀ h',IsEnum h' (s.heap.objs.size+1) s.heap.objs.size 0 .none→h'.IsTupleIter s.heap.objs.size l 0→h'.objs.size=s.heap.objs.size+2 →
   (∀ b o,s.heap.get? b=some o→h'.get? b=some o)→Q (.ref (s.heap.objs.size+1)) {s with heap:=h'}) :
  wpAny (model prog w) A (call (.type "enumerate") [.ref l]) Q E s:=by
 obtain ⟨⟨c,J5,dt,sl⟩,hl,hc,n,hd⟩:=hL
 replace hc:c=.type "tuple" := hc
 replace hd:dt=.seq bn n:=hd
 subst hc hd
 refine callType_new F.called_enumerate (by decide) (F.typeCall_enumerate_1 _) (F.newCall_enumerate_1 _) (fun obj=>F.args_object_init_2 obj _) F.entry_enumerate_new
  (rW l bn n J5 sl) ⟨hl,?_⟩
 have hz:(s.heap.push {cls:=.type "tuple_iterator", data:=.fields #[.ref l,.int 0 0]}).objs.size=s.heap.objs.size+1:=Heap.size_push ..
 show _∧_
 rw [hz]
 have he:IsEnum ((s.heap.push {cls:=.type "tuple_iterator", data:=.fields #[.ref l,.int 0 0]}).push
   {cls:=.type "enumerate", data:=.fields #[.none,.bool false,.ref s.heap.objs.size,rawInt 0,.none,.none]}) (s.heap.objs.size+1) s.heap.objs.size 0 .none:=by
  have:=Heap.get?_push_size (s.heap.push {cls:=.type "tuple_iterator", data:=.fields #[.ref l,.int 0 0]})
   (o:={cls:=.type "enumerate", data:=.fields #[.none,.bool false,.ref s.heap.objs.size,rawInt 0,.none,.none]}) rfl
  rw [hz] at this;exact this
 refine ⟨⟨_,he,rfl⟩,h _ he ⟨_,Heap.get?_push_of_some _ (Heap.get?_push_size _ rfl),rfl,rfl⟩ (by rw [Heap.size_push,hz]) fun b o x=>Heap.get?_push_of_some _ (Heap.get?_push_of_some _ x)⟩
end
theorem ne {h:Heap} {b:Addr} (hb:h.objs.size≤b):h.get? b=none:=by
 cases e:h.get? b with
 | none=>rfl
 | some o=>exact absurd (Heap.lt_size e) (Nat.not_lt.mpr hb)
section
variable {g:G} {A:Around} {E:Value→Shared→Prop} {φ:List Addr} {σ:ag} {s:Shared}
theorem AT {xs:List V} {a:Value} {s₁:Shared} (hh:A.handled=none) {aI:List Addr} (S:SE φ s.heap aI s₁.heap) (R:ak g aI σ s₁.heap) (hx:VR g aI s₁.heap (.tup xs) a) (hS:bx s s₁) :
  wpAny (model g.prog g.w) A (call (.type "enumerate") [a]) (yD g A φ s (bP 0 xs) [] true σ) E s₁:=by
 cases hx with
 | @tup _ c vs ht hz hv hn =>
  have bQ:c<s₁.heap.objs.size:=by refine au ht fun _ e _=>?_;exact Heap.lt_size e
  refine tD ht fun h' he hit cZ hk=>?_
  have fr:∀ b∈[s₁.heap.objs.size+1,s₁.heap.objs.size],s₁.heap.get? b=none:=fun b hb=>by
   simp at hb
   rcases hb with rfl | rfl
   ·exact ne (Nat.le_succ _)
   ·exact aC _
  refine ⟨aI,S.trans (SE.keeps _ hk),R.keeps hk,hS,fun E Q h=>?_⟩
  refine wpAny_pyIter_enum he (h _ xs vs _ _ _ _ h' (qK.enum hh (s₁.heap.objs.size+1) s₁.heap.objs.size c xs vs hv.length (Nat.ne_of_gt (Nat.lt_succ_self _)) (Nat.ne_of_gt (Nat.lt_succ_of_lt bQ)) (Nat.ne_of_lt bQ)) ⟨⟨_,he⟩,hit,ht.at fun o e=>hk _ o e⟩ (fun _ _ e=>e) (hv.step R (SE.keeps _ hk)) (fun b hb=>S.back (fr b hb)) ?_ fun b hb=>a7 R (fr b hb))
  intro b hb
  refine Or.elim hb (fun hb=>?_) (fun hb=>?_)
  ·exact a0 R (fr b hb)
  ·simp at hb;apply aO hb;exact hn
end
section
variable {g:G} {A:Around} {E:Value→Shared→Prop} {φ ah:List Addr} {σ σ₁ af:ag} {s s₁:Shared} {env:Env} {nm:List (Str×Nat)} {ρ:aF}
theorem bG.after {v:V} {a:Value} {cw:Shared} (S:SE φ s.heap ah s₁.heap) (T:bx s s₁) (h:bG g ah s₁ v af a cw):bG g φ s v af a cw:=by
 refine ym h fun aI S' R' V' T'=>?_
 exact ⟨aI,S.trans S',R',V',T.trans T'⟩
theorem BA.after {b c:Bool} {cw:Shared} (S:SE φ s.heap ah s₁.heap) (T:bx s s₁) (h:BA g ah s₁ b af c cw):BA g φ s b af c cw:=by
 obtain ⟨e,aI,S',R',T'⟩:=h
 exact ⟨e,aI,S.trans S',R',T.trans T'⟩
theorem aE.bind {e:Expr} {m:aF→ag→Option (V×ag)} (hA:aE g A env nm e m) {x:V} (h:m ρ σ=some (x,σ₁)) (R:ak g φ σ s.heap) (F:dA g φ env nm ρ s.heap) {Q:Value→Shared→Prop}
  (k:∀ a s₁ ah,SE φ s.heap ah s₁.heap→bx s s₁→ak g ah σ₁ s₁.heap→dA g ah env nm ρ s₁.heap→VR g ah s₁.heap x a→Q a s₁):wpAny (model g.prog g.w) A (eval e env) Q E s :=
 wpAny_mono (hA ρ σ x σ₁ h φ s R F E) (fun a s₁ ⟨ah,S,al,aV,T⟩=>k a s₁ ah S T al (F.step R S) aV) fun _ _ x=>x
theorem dU.bind {e:Expr} {m:aF→ag→Option (Bool×ag)} (hA:dU g A env nm e m) {x:Bool} (h:m ρ σ=some (x,σ₁)) (R:ak g φ σ s.heap) (F:dA g φ env nm ρ s.heap) {Q:Bool→Shared→Prop}
  (k:∀ s₁ ah,SE φ s.heap ah s₁.heap→bx s s₁→ak g ah σ₁ s₁.heap→dA g ah env nm ρ s₁.heap→Q x s₁):wpAny (model g.prog g.w) A (isTrue e env (eval e env)) Q E s :=
 wpAny_mono (hA ρ σ x σ₁ h φ s R F E) (fun a s₁ ⟨e,ah,S,al,T⟩=>by apply aO e;exact k s₁ ah S T al (F.step R S)) fun _ _ x=>x
noncomputable def oJ (g:G) (A:Around) (fs:List Fn) (call:ar) (k:Nat):Prop :=
 ∀ as σ v af,call k as σ=some (.ok v,af)→∀ fn,fs[k]? = some fn→∀ φ s cF,ak g φ σ s.heap→oa g φ s.heap→bq g φ s.heap as cF→∀ E,wpAny (model g.prog g.w) A (PySem.call (.ref fn.addr) cF) (bG g φ s v af) E s
noncomputable def pA (g:G) (A:Around) (fs:List Fn) (call:ar):Prop:=∀ k,oJ g A fs call k
noncomputable def kq (g:G) (A:Around) (env:Env) (nm:List (Str×Nat)) (e:Expr) (two:Bool) (m:aF→ag→Option (List V×List (Nat×aZ)×ag)):Prop :=
 ∀ ρ σ xs w af,m ρ σ=some (xs,w,af)→∀ φ s,ak g φ σ s.heap→dA g φ env nm ρ s.heap→∀ E,wpAny (model g.prog g.w) A (eval e env) (yD g A φ s xs w two af) E s
theorem xF {e:Expr} {c:CE} {call:ar} (h:aE g A env nm e (ab call c)) (he:isTrue e env (eval e env)=(do let v ←eval e env;standAt e.pos;holding [v] (truthy v))):dU g A env nm e (bu call c):=by
 intro ρ σ b af ht φ s R F E
 refine isTrue_plain (h.bind (cD ht) R F fun a s₁ ah S T al aP aV=>?_) he
 apply aO (vB rfl aV)
 exact wpAny_truthy_bool ⟨rfl,ah,S,al,T⟩
theorem li {v:V} {k:Const} {n:Nat} {pos:Pos} {call:ar} (hk:ty k=some v):aE g A env nm (.Constant k n pos) (ab call (.cst v)):=by
 intro ρ σ v' af he φ s R F E
 apply dx he
 cases k with
 | none=>apply db hk;exact wpAny_Constant_none (bG.here (tk:=s.toks) R .none)
 | bool _=>apply db hk;exact wpAny_Constant_bool (bG.here (tk:=s.toks) R (.bool _))
 | int _=>apply db hk;exact wpAny_Constant_int (bG.here R (.int _ _))
 | str _=>apply db hk;exact wpAny_Constant_str (bG.here R (.str _ _))
 | _=>exact no hk
theorem CZ {l r:Expr} {op:Operator} {pos:Pos} {a b:CE} {call:ar} (hl:aE g A env nm l (ab call a)) (hr:aE g A env nm r (ab call b)):aE g A env nm (.BinOp l op r pos) (ab call (.bin op a b)):=by
 intro ρ σ v af he φ s R F E
 refine bo he fun x σ₁ h1 he=>?_
 refine bo he fun y ae h2 he=>?_
 refine wpAny_BinOp (hl.bind h1 R F fun a s₁ ah S T al aP aV=>hr.bind h2 al aP fun b cw cr S' T' ba dH di=>?_)
 exact wpAny_mono (BO he ba (aV.step al S') di) (fun _ _ x=>(bG.after (S.trans S') (T.trans T') x)) fun _ _ x=>x
theorem oL {d:Nat} (hA:gS A d):A.units+8<cLine:=by
 have:=hA.units
 have:cLine=9960∨9009≤cLine:=by decide
 rcases this with h | h <;> lia
theorem C3 {d:Nat} (hA:gS A d) {l r:Expr} {op:CmpOp} {pos:Pos} {a b:CE} {call:ar} (hm:behindInMarks op r=false) (hl:aE g A env nm l (ab call a)) (hr:aE g A env nm r (ab call b)) :
  aE g A env nm (.Compare l [op] [r] pos) (ab call (.cmp op a b))∧dU g A env nm (.Compare l [op] [r] pos) (bu call (.cmp op a b)):=by
 constructor
 ·intro ρ σ v af he φ s R F E
  refine bo he fun x σ₁ h1 he=>?_
  refine bo he fun y ae h2 he=>?_
  refine aK he fun c hc he=>?_
  apply dx he
  refine wpAny_Compare1 (hl.bind h1 R F fun a s₁ ah S T al aP aV=>hr.bind h2 al aP fun b cw cr S' T' ba dH di=>?_) hm
  exact u7 hc (oL hA) ba (aV.step al S') di ⟨cr,S.trans S',ba,.bool _,T.trans T'⟩
 ·intro ρ σ v af he φ s R F E
  refine bo (cD he) fun x σ₁ h1 he=>?_
  refine bo he fun y ae h2 he=>?_
  refine aK he fun c hc he=>?_
  refine aJ (kZ he) fun e1 q2=>?_;apply fQ q2
  apply fQ (V.bool.inj e1)
  refine wpAny_isTrue_Compare1 (hl.bind h1 R F fun a s₁ ah S T al aP aV=>hr.bind h2 al aP fun b cw cr S' T' ba dH di=>?_) hm
  exact u7 hc (oL hA) ba (aV.step al S') di (wpAny_truthy_bool ⟨rfl,cr,S.trans S',ba,T.trans T'⟩)
theorem v5 {x:Expr} {pos:Pos} {a:CE} {call:ar} (hx:aE g A env nm x (ab call a)) (FO:dU g A env nm x (bu call a)) :
  aE g A env nm (.UnaryOp .Not x pos) (ab call (.not a))∧dU g A env nm (.UnaryOp .Not x pos) (bu call (.not a)):=by
 constructor
 ·intro ρ σ v af he φ s R F E
  refine gT he fun b σ₁ h1 he=>?_
  apply dx he
  refine UnaryOp_ (hx.bind h1 R F fun a s₁ ah S T al aP aV=>?_)
  apply aO (vB rfl aV)
  exact not_of (wpAny_truthy_bool ⟨ah,S,al,.bool _,T⟩)
 ·intro ρ σ v af he φ s R F E
  refine gT (cD he) fun b σ₁ h1 he=>?_
  refine aJ (kZ he) fun e1 q2=>?_;apply fQ q2
  apply fQ (V.bool.inj e1)
  exact isTrue_not (FO.bind (aR h1) R F fun s₁ ah S T al aP=>⟨rfl,ah,S,al,T⟩)
theorem v4 {x:Expr} {pos:Pos} {a:CE} {call:ar} (hx:aE g A env nm x (ab call a)):aE g A env nm (.UnaryOp .USub x pos) (ab call (.neg a)):=by
 intro ρ σ v af he φ s R F E
 refine qW he fun i σ₁ h1 he=>?_
 apply dx he
 refine UnaryOp_ (hx.bind h1 R F fun a s₁ ah S T al aP aV=>?_)
 apply yw rfl aV;intro t
 exact PyProof.Rows.neg_int (bG.after S T (bG.here al (.int _ _)))
theorem C8 {t x y:Expr} {pos:Pos} {a b c:CE} {call:ar} (ht:dU g A env nm t (bu call a)) (hx:aE g A env nm x (ab call b)) (FO:dU g A env nm x (bu call b)) (hy:aE g A env nm y (ab call c)) (Pl:dU g A env nm y (bu call c)) :
  aE g A env nm (.IfExp t x y pos) (ab call (.ite a b c))∧dU g A env nm (.IfExp t x y pos) (bu call (.ite a b c)):=by
 constructor
 ·intro ρ σ v af he φ s R F E
  refine gT he fun p σ₁ h1 he=>?_
  cases p with
  | true=>exact IfExp_ (ht.bind (aR h1) R F fun s₁ ah S T al aP=>hx.bind he al aP fun b cw cr S' T' ba dH di=>⟨cr,S.trans S',ba,di,T.trans T'⟩)
  | false=>exact IfExp_ (ht.bind (aR h1) R F fun s₁ ah S T al aP=>hy.bind he al aP fun b cw cr S' T' ba dH di=>⟨cr,S.trans S',ba,di,T.trans T'⟩)
 ·intro ρ σ v af he φ s R F E
  refine gT (cD he) fun p σ₁ h1 he=>?_
  cases p with
  | true=>exact isTrue_IfExp (ht.bind (aR h1) R F fun s₁ ah S T al aP=>FO.bind (aR he) al aP fun cw cr S' T' ba dH=>⟨rfl,cr,S.trans S',ba,T.trans T'⟩)
  | false=>exact isTrue_IfExp (ht.bind (aR h1) R F fun s₁ ah S T al aP=>Pl.bind (aR he) al aP fun cw cr S' T' ba dH=>⟨rfl,cr,S.trans S',ba,T.trans T'⟩)
theorem lg {f:Expr→Option CE} {call:ar} (ih:∀ e c,f e=some c→aE g A env nm e (ab call c)) (op:BoolOp) (pos:Pos):∀ (vs:List Expr) (c:CE),qY f op vs=some c→aE g A env nm (.BoolOp op vs pos) (ab call c)
 | [],_,h=>no h
 | [e],c,h=>fun ρ σ v af he φ s R F E=>BoolOp_one (ih e c h ρ σ v af he φ s R F E)
 | e::e'::r,c,h=>by
  refine aK h fun a ha h=>?_
  refine aK h fun b hb h=>?_
  apply db h
  have h1:=ih e a ha
  have h2:=lg ih op pos (e'::r) b hb
  intro ρ σ v af he φ s R F E
  cases op with
  | And =>
   refine gT he fun p σ₁ hx he=>?_
   refine BoolOp_and (h1.bind hx R F fun a s₁ ah S T al aP aV=>?_)
   apply aO (vB rfl aV)
   cases p with
   | true=>exact wpAny_truthy_bool (h2.bind he al aP fun b cw cr S' T' ba dH di=>⟨cr,S.trans S',ba,di,T.trans T'⟩)
   | false =>
    apply dx he
    exact wpAny_truthy_bool ⟨ah,S,al,.bool _,T⟩
  | Or =>
   refine gT he fun p σ₁ hx he=>?_
   refine BoolOp_or (h1.bind hx R F fun a s₁ ah S T al aP aV=>?_)
   apply aO (vB rfl aV)
   cases p with
   | false=>exact wpAny_truthy_bool (h2.bind he al aP fun b cw cr S' T' ba dH di=>⟨cr,S.trans S',ba,di,T.trans T'⟩)
   | true =>
    apply dx he
    exact wpAny_truthy_bool ⟨ah,S,al,.bool _,T⟩
theorem lh {f:Expr→Option CE} {call:ar} (ih:∀ e c,f e=some c→dU g A env nm e (bu call c)) (op:BoolOp) (pos:Pos) (wh:Sem Value):∀ (vs:List Expr) (c:CE),qY f op vs=some c →
  ∀ ρ σ b af,bu call c ρ σ=some (b,af)→∀ φ s,ak g φ σ s.heap→dA g φ env nm ρ s.heap→∀ E,wpAny (model g.prog g.w) A (isTrue (.BoolOp op vs pos) env wh) (BA g φ s b af) E s
 | [],_,h=>no h
 | [e],c,h=>fun ρ σ v af he φ s R F E=>by
  cases op with
  | And =>
   refine isTrue_and ((ih e c h).bind he R F fun s₁ ah S T al aP=>?_)
   cases v
   ·exact ⟨rfl,ah,S,al,T⟩
   ·exact isTrue_and_nil ⟨rfl,ah,S,al,T⟩
  | Or =>
   refine isTrue_or ((ih e c h).bind he R F fun s₁ ah S T al aP=>?_)
   cases v
   ·exact isTrue_or_nil ⟨rfl,ah,S,al,T⟩
   ·exact ⟨rfl,ah,S,al,T⟩
 | e::e'::r,c,h=>by
  refine aK h fun a ha h=>?_
  refine aK h fun b hb h=>?_
  apply db h
  have h1:=ih e a ha
  have h2:=lh ih op pos wh (e'::r) b hb
  intro ρ σ v af he φ s R F E
  cases op with
  | And =>
   refine gT (cD he) fun p σ₁ hx he=>?_
   refine isTrue_and (h1.bind (aR hx) R F fun s₁ ah S T al aP=>?_)
   cases p with
   | true=>exact wpAny_mono (h2 ρ σ₁ v af (aR he) ah s₁ al aP E) (fun _ _ x=>BA.after S T x) fun _ _ x=>x
   | false =>
    refine aJ (kZ he) fun e1 q2=>?_;apply fQ q2
    apply fQ (V.bool.inj e1)
    exact ⟨rfl,ah,S,al,T⟩
  | Or =>
   refine gT (cD he) fun p σ₁ hx he=>?_
   refine isTrue_or (h1.bind (aR hx) R F fun s₁ ah S T al aP=>?_)
   cases p with
   | false=>exact wpAny_mono (h2 ρ σ₁ v af (aR he) ah s₁ al aP E) (fun _ _ x=>BA.after S T x) fun _ _ x=>x
   | true =>
    refine aJ (kZ he) fun e1 q2=>?_;apply fQ q2
    apply fQ (V.bool.inj e1)
    exact ⟨rfl,ah,S,al,T⟩
theorem cC {f:Expr→Option CE} (hs:∀ e p,f (.Starred e p)=none) {e:Expr} {c:CE} (h:f e=some c) (az:List Expr):starEach (e::az) env=(false,eval e env)::starEach az env:=by
 cases e with
 | Starred e p=>rw [hs] at h;cases h
 | _=>rfl
theorem iQ {f:Expr→Option CE} (hs:∀ e p,f (.Starred e p)=none) (pos:Pos):∀ {es:List Expr} {cs:eG},bV f es=some cs→(backTo pos (starEach es env)).any (·.1)=false
 | [],_,_=>rfl
 | e::r,cs,h=>by
  refine aK h fun c h1 h=>?_
  refine aK h fun Gw h2 h=>?_
  rw [cC hs h1]
  have:=iQ hs pos h2 (es:=r)
  simpa [backTo] using this
theorem fH {f:Expr→Option CE} {call:ar} (hs:∀ e p,f (.Starred e p)=none) (ih:∀ e c,f e=some c→aE g A env nm e (ab call c)) (pos:Pos):∀ {es:List Expr} {cs:eG},bV f es=some cs →
  ∀ ⦃ρ σ vs af⦄,aL call cs ρ σ=some (vs,af)→∀ ⦃φ s⦄,ak g φ σ s.heap→dA g φ env nm ρ s.heap→∀ E,wpAny (model g.prog g.w) A (spliced (backTo pos (starEach es env))) (JD g φ s vs af) E s
 | [],cs,h=>by
  intro ρ σ vs af he φ s R F E
  obtain rfl:=sm h
  refine aJ (kZ he) fun k1 k2=>?_;subst k1;subst k2
  exact args_nil ⟨φ,SE.refl _ _,R,.nil,bx.refl _⟩
 | e::r,cs,h=>by
  refine aK h fun c h1 h=>?_
  refine aK h fun Gw h2 h=>?_
  apply db h
  intro ρ σ vs af he φ s R F E
  refine bo he fun x σ₁ hx he=>?_
  refine bo he fun xs ae Js he=>?_
  apply dx he
  refine args_cons ((ih e c h1).bind hx R F fun a s₁ ah S T al aP aV=>wpAny_mono (fH hs ih pos h2 Js al aP E) (fun vs cw ⟨cr,S',ba,di,T'⟩=>?_) fun _ _ x=>x) (cC hs h1 r)
  exact ⟨cr,S.trans S',ba,.cons (aV.step al S') di,T.trans T'⟩
theorem sD {f:Expr→Option CE} {call:ar} (hs:∀ e p,f (.Starred e p)=none) (ih:∀ e c,f e=some c→aE g A env nm e (ab call c)) {pos:Pos} {es:List Expr} {cs:eG} (h:bV f es=some cs):aE g A env nm (.List es pos) (ab call (.list cs)):=by
 intro ρ σ v af he φ s R F E
 refine bo he fun vs σ₁ h1 he=>?_
 refine iY (fG he) fun hz q2 q3=>?_;apply aO q2;apply aO q3
 refine wpAny_List_spliced (wpAny_mono (fH hs ih pos h h1 R F E) (fun as s₁ ⟨ah,S,al,aV,T⟩=>⟨by rw [←aV.length];exact hz,?_⟩) fun _ _ x=>x)
 exact bG.after S T (bG.newL (tk:=s₁.toks) al (Nat.le_succ_of_le hz) aV (fun b o e=>Heap.get?_push_of_some _ e) (aC _) ⟨_,Heap.get?_push_size _ rfl⟩)
theorem pr {f:Expr→Option CE} {call:ar} (hs:∀ e p,f (.Starred e p)=none) (ih:∀ e c,f e=some c→aE g A env nm e (ab call c)) {pos:Pos} {k:Nat} {es:List Expr} {cs:eG} (h:bV f es=some cs):aE g A env nm (.Tuple es k pos) (ab call (.tuple cs)):=by
 intro ρ σ v af he φ s R F E
 refine bo he fun vs σ₁ h1 he=>?_
 refine iY (i7 he) fun hz q2 q3=>?_;apply aO q2;apply aO q3
 refine wpAny_Tuple_spliced (wpAny_mono (fH hs ih pos h h1 R F E) (fun as s₁ ⟨ah,S,al,aV,T⟩=>⟨by rw [←aV.length];exact hz,?_⟩) fun _ _ x=>x)
 exact bG.after S T (bG.newT (tk:=s₁.toks) al (Nat.le_succ_of_le hz) aV (fun b o e=>Heap.get?_push_of_some _ e) (aC _) (fk _ _))
theorem xB {pos:Pos} {call:ar}:aE g A env nm (.Dict [] [] pos) (ab call .dict0):=fun ρ σ v af he φ s R F E=>no he
end
section
variable {g:G} {cx:cp} {fs:List Fn} {mg mb:Str→Option Value} {A:Around} {E:Value→Shared→Prop} {φ ah:List Addr} {σ σ₁ af:ag} {s s₁:Shared} {env:Env} {nm:List (Str×Nat)} {ρ:aF}
theorem v1 {v i:Expr} {pos:Pos} {a b:CE} {call:ar} (gF:∀ l u st p,i≠.Slice l u st p) (hv:aE g A env nm v (ab call a)) (hi:aE g A env nm i (ab call b)):aE g A env nm (.Subscript v i pos) (ab call (.idx a b)):=by
 intro ρ σ r af he φ s R F E
 refine bo he fun x σ₁ h1 he=>?_
 refine bo he fun y ae h2 he=>?_
 refine aK he fun c hc he=>?_
 apply dx he
 refine Subscript_ (hv.bind h1 R F fun a s₁ ah S T al aP aV=>hi.bind h2 al aP fun b cw cr S' T' ba dH di=>?_)
 refine aJ (Ct (A:=A) (E:=E) hc ba (aV.step al S') di) fun k1 hg=>?_;refine fv k1 fun T id hT hl=>?_
 refine tail_any (ops:=[a,b]) hT hl (wpAny_mono hg (fun _ _ x=>bG.after (S.trans S') (bx.trans ‹_› T') x) fun _ _ x=>x) ?_
 cases i with
 | Slice l u st p=>exact absurd rfl (gF l u st p)
 | _=>rfl
theorem AR {h:Heap} {v:V} {a:Value} {i:Nat} (hv:VR g φ h v a) (hl:rQ v=some i):mC a v:=by
 cases hv with
 | none=>exact .none
 | int k t=>exact .int k t
 | _=>exact no hl
theorem AQ {h:Heap} {v:V} {a:Value} {n i:Nat} (hv:VR g φ h v a) (hl:ot n v=some i):mC a v:=by
 cases hv with
 | none=>exact .none
 | int k t=>exact .int k t
 | _=>exact no hl
theorem aE.part {f:Expr→Option CE} {call:ar} (ih:∀ e c,f e=some c→aE g A env nm e (ab call c)) {o:Option Expr} {c:CE} (hc:yT f o=some c) {x:V} (h:ab call c ρ σ=some (x,σ₁)) (R:ak g φ σ s.heap) (F:dA g φ env nm ρ s.heap) {Q:Value→Shared→Prop}
  (k:∀ a s₁ ah,SE φ s.heap ah s₁.heap→bx s s₁→ak g ah σ₁ s₁.heap→dA g ah env nm ρ s₁.heap→VR g ah s₁.heap x a→Q a s₁):wpAny (model g.prog g.w) A (evalPart o env) Q E s:=by
 cases o with
 | none =>
  obtain rfl:=sm hc
  refine aJ (kZ h) fun k2 k3=>?_;subst k2;subst k3
  exact evalPart_none_step (k .none s φ (SE.refl _ _) (bx.refl _) R F .none)
 | some e=>exact evalPart_some_step ((ih e c hc).bind h R F k)
set_option tactic.hygienic true in
theorem Dc {f:Expr→Option CE} {v:Expr} {lo hi:Option Expr} {p pos:Pos} {a b c:CE} {call:ar} (ih:∀ e c,f e=some c→aE g A env nm e (ab call c)) (hv:aE g A env nm v (ab call a)) (hl:yT f lo=some b) (hu:yT f hi=some c) :
  aE g A env nm (.Subscript v (.Slice lo hi none p) pos) (ab call (.slc a b c)):=by
 intro ρ σ r af he φ s R F E
 refine bo he fun x σ₁ h1 he=>?_
 refine bo he fun y ae h2 he=>?_
 refine bo he fun z bb h3 he=>?_
 refine Subscript_ (hv.bind h1 R F fun a s₁ ah S T al aP aV=>wpAny_Slice (aE.part ih hl h2 al aP fun b cw cr cM fh ba dH di=>aE.part ih hu h3 ba dH fun c gw n8 fY pC fX lV EN=>evalPart_none_step ?_))
 have hk:∀ b' o,gw.heap.get? b'=some o→(gw.heap.push {cls:=.type "slice", data:=.fields #[b,c,.none]}).get? b'=some o:=fun b o e=>Heap.get?_push_of_some _ e
 have jr:SE n8 gw.heap n8 (gw.heap.push {cls:=.type "slice", data:=.fields #[b,c,.none]}):=SE.keeps _ hk
 have pz:=fX.keeps hk
 have G3:=((aV.step al cM).step ba fY).step fX jr
 have G4:=(di.step ba fY).step fX jr
 have G5:=EN.step fX jr
 have hs:=Heap.IsSliceOf.new gw.heap b c .none
 have l7:∀ {r af a' s'},bG g n8 {gw with heap:=gw.heap.push {cls:=.type "slice", data:=.fields #[b,c,.none]}} r af a' s'→bG g φ s r af a' s':=fun x =>
  bG.after (s₁:={gw with heap:=gw.heap.push {cls:=.type "slice", data:=.fields #[b,c,.none]}}) (S.trans (cM.trans (fY.trans jr))) (T.trans (fh.trans pC)) x
 revert he;apply VR.el G3
 case str =>
  intro x t he
  ·refine aK he fun i hi he=>?_
   refine aK he fun j hj he=>?_
   refine iY (xj he) fun Ib q2 q3=>?_;apply aO q2;apply aO q3
   exact tail_any (ops:=[.ref gw.heap.objs.size,.str x t]) (typeIs_str _ _ _) PySem.F.slot_str_getitem.lookup (wpAny_mono (xO pz hs (AR G4 hi) (AQ G5 hj) hi hj Ib) (fun _ _ x=>l7 x) fun _ _ x=>x) rfl
 all_goals (intros;rename_i he;exact no he)
theorem bY {x:Str} (h:aX env.scope x=true):env.kindOf x=some .globalImplicit∧(x==("__debug__" : Str))=false:=by
 simp only [aX,Bool.and_eq_true,beq_iff_eq,Bool.not_eq_true'] at h
 exact ⟨h.1,h.2⟩
set_option tactic.hygienic true in
theorem lz {α:Type} {p:α→Bool}:∀ {l:List α} {k:Nat},l.findIdx? p=some k→∃ x,l[k]? = some x∧p x=true
 | [],_,h=>by simp at h
 | a::l,k,h=>by
  rw [List.findIdx?_cons] at h
  split at h
  ·rename_i hp
   cases h
   exact ⟨a,rfl,hp⟩
  ·simp only [Option.map_eq_some_iff] at h
   refine au h fun j hj q3=>?_;apply fQ q3
   refine au (lz hj) fun x h1 h2=>?_
   exact ⟨x,by simpa using h1,h2⟩
theorem zn (G:eH g cx fs mg mb) {f:Str} {k:Nat} (h:dZ cx f=some k):∃ fn,fs[k]? = some fn∧fn.name=f:=by
 refine au (lz h) fun x h1 h2=>?_
 rw [←G.names] at h1
 simp only [List.getElem?_map,Option.map_eq_some_iff] at h1
 refine au h1 fun fn h3 q3=>?_;subst q3
 exact ⟨fn,h3,by simpa using h2⟩
theorem sv {call:ar} {k:Nat} (G:eH g cx fs mg mb) (hC:oJ g A fs call k) {F':Expr→Option CE} (hs:∀ e p,F' (.Starred e p)=none) (ih:∀ e c,F' e=some c→aE g A env nm e (ab call c)) {f:Str} {p pos:Pos} {as:List Expr} {cs:eG}
  (hg:aX env.scope f=true) (hk:dZ cx f=some k) (eM:as.isEmpty=false) (h:bV F' as=some cs):aE g A env nm (.Call (.Name f p) as [] pos) (ab call (.call k cs)):=by
 intro ρ σ v af he φ s R F E
 refine bo he fun vs σ₁ h1 he=>?_
 refine bo he fun r ae h2 he=>?_
 refine aK he fun u hu he=>?_
 apply dx he
 have hr:r=.ok u:=by
  cases r with
  | ok w=>exact congrArg s8.ok (sm hu)
  | exc _ _=>exact no hu
 subst hr
 refine au (zn G hk) fun fn jT q3=>?_;subst q3
 obtain ⟨hm,o,pm,cd,doc,ho,hd,kL⟩:=G.made fn (List.mem_of_getElem? jT)
 refine aJ (bY hg) fun mq mu=>?_
 cases as with
 | nil=>cases eM
 | cons e az =>
  refine aK (k:=fun c=>(bV F' az).bind fun cs=>some (eG.cons c cs)) h fun c hc _=>?_
  refine Call_Name rfl (gp G F R mq mu hm (callWith_def (o:=o) hd (wpAny_mono (fH hs ih pos h h1 R F E) (fun cF s₁ ⟨ah,S,al,aV,T⟩=>⟨al.base _ _ ho,?_⟩) fun _ _ x=>x) (cC hs hc az)))
  exact wpAny_mono (hC vs σ₁ u ae h2 fn jT ah s₁ cF al (F.step R S).stk aV E) (fun _ _ x=>bG.after S T x) fun _ _ x=>x
noncomputable def eN:ie→Value
 | .len=>.builtin "len" | .sum=>.builtin "sum" | .min2=>.builtin "min" | .max2=>.builtin "max" | .min1=>.builtin "min" | .max1=>.builtin "max"
 | .tuple=>.type "tuple" | .list=>.type "list" | .str=>.type "str" | .int=>.type "int" | .sorted=>.builtin "sorted" | _=>.none
noncomputable def Ar:ie→Bool
 | .len | .sum | .min2 | .max2 | .min1 | .max1 | .tuple | .list | .str | .int | .sorted=>true
 | _=>false
theorem uk:∀ q∈vY,1≤q.2.1∧q.1∈dE∧bootBuiltins q.1=some (eN q.2.2)∧Ar q.2.2=true:=by decide +kernel
theorem r9 {p:ie} (h:Ar p=true):(∀ as,j8 p as=PySem.call (eN p) as)∧((∃ id,eN p=.builtin id)∨∃ T,eN p=.type T):=by
 cases p <;> first | exact ⟨fun _=>rfl,.inl ⟨_,rfl⟩⟩ | exact ⟨fun _=>rfl,.inr ⟨_,rfl⟩⟩ | exact nomatch h
theorem yV {f:Str} {n:Nat} {p:ie} (h:yU f n=some p):1≤n∧f∈dE∧bootBuiltins f=some (eN p)∧(∀ as,j8 p as=PySem.call (eN p) as)∧((∃ id,eN p=.builtin id)∨∃ T,eN p=.type T):=by
 refine yl (uk _ (jG h)) fun h1 h2 h3 h4=>?_
 exact ⟨h1,h2,h3,r9 h4⟩
theorem cc {v:Value} {pos:Pos} {e:Expr} {az:List Expr} {Q:Value→Shared→Prop} (hv:(∃ id,v=.builtin id)∨∃ T,v=.type T)
  (h:wpAny (model g.prog g.w) A (spliced (backTo pos (starEach (e::az) env))) (fun vs s₁=>wpAny (model g.prog g.w) A (PySem.call v vs) Q E s₁) E s)
  (he:starEach (e::az) env=(false,eval e env)::starEach az env) (zz:(backTo pos (starEach az env)).any (·.1)=false) :
  wpAny (model g.prog g.w) A (callWith pos v [] (backTo pos (starEach (e::az) env)) []) Q E s:=by
 rcases hv with ⟨id,rfl⟩ | ⟨T,rfl⟩
 ·exact callWith_builtin1 h he zz
 ·exact callWith_type1 h he zz
theorem AK {call:ar} {d:Nat} (hA:gS A d) (G:eH g cx fs mg mb) {F':Expr→Option CE} (hs:∀ e p,F' (.Starred e p)=none) (ih:∀ e c,F' e=some c→aE g A env nm e (ab call c)) {f:Str} {p' pos:Pos} {p:ie} {as:List Expr} {cs:eG}
  (hg:aX env.scope f=true) (hp:yU f as.length=some p) (h:bV F' as=some cs):aE g A env nm (.Call (.Name f p') as [] pos) (ab call (.prim p cs)):=by
 intro ρ σ v af he φ s R F E
 refine bo he fun vs σ₁ h1 he=>?_
 refine NN (yV hp) fun hn hm hb hc hh=>?_
 refine aJ (bY hg) fun mq mu=>?_
 cases as with
 | nil=>cases hn
 | cons e az =>
  refine aK (k:=fun c=>(bV F' az).bind fun cs=>some (eG.cons c cs)) h fun c dG h'=>?_
  refine aK h' fun Gw hr _=>?_
  refine Call_Name rfl (dj G F R mq mu hm hb (cc hh (wpAny_mono (fH hs ih pos h h1 R F E) (fun cF s₁ ⟨ah,S,al,aV,T⟩=>?_) fun _ _ x=>x) (cC hs dG az) (iQ hs pos hr)))
  rw [←hc]
  exact wpAny_mono (sd he hA.handled G.sys al aV) (fun _ _ x=>bG.after S T x) fun _ _ x=>x
noncomputable def Ef:ie→String
 | .isInt => "int" | .isBool => "bool" | .isTuple => "tuple" | .isStr => "str" | .isList => "list" | _ => ""
theorem w9:∀ q∈zM,q.1∈dE∧bootBuiltins q.1=some (.type (Ef q.2.2))∧Ef q.2.2 ≠ "" := by decide +kernel
theorem BU {t:Str} {p:ie} (h:EV t=some p):∃ T,t∈dE∧bootBuiltins t=some (.type T)∧∀ a,j8 p [a]=PySem.call (.builtin "isinstance") [a,.type T]:=by
 refine iY (w9 _ (jG h)) fun h1 h2 h3=>?_
 refine ⟨_,h1,h2,fun a=>?_⟩
 cases p <;> first | rfl | exact absurd rfl h3
theorem C7 {call:ar} {d:Nat} (hA:gS A d) (G:eH g cx fs mg mb) {x:Expr} {t:Str} {p' Gc pos:Pos} {p:ie} {a:CE} (gF:∀ e q,x≠.Starred e q) (hx:aE g A env nm x (ab call a)) (hg:aX env.scope ("isinstance" : Str)=true) (Bn:aX env.scope t=true)
  (hp:EV t=some p):aE g A env nm (.Call (.Name ("isinstance" : Str) p') [x,.Name t Gc] [] pos) (ab call (.prim p (.cons a .nil))):=by
 intro ρ σ v af he φ s R F E
 refine bo he fun vs σ₁ h1 he=>?_
 refine bo h1 fun y ae h2 h1=>?_
 refine aJ (kZ h1) fun q1 q2=>?_;subst q1 q2
 refine fL (BU hp) fun T hm hb hc=>?_
 refine aJ (bY hg) fun mq mu=>?_
 refine aJ (bY Bn) fun OJ OK=>?_
 have gV:starEach [x,.Name t Gc] env=(false,eval x env)::starEach [.Name t Gc] env:=by
  cases x with
  | Starred e q=>exact absurd rfl (gF e q)
  | _=>rfl
 refine Call_Name rfl (dj G F R mq mu (by decide) (v:=.builtin "isinstance") (by decide +kernel) (cc (.inl ⟨_,rfl⟩) (args_cons (hx.bind h2 R F fun b s₁ ah S T' al aP aV=>args_cons (dj G aP al OJ OK hm hb (args_nil ?_))) gV) gV rfl))
 rw [←hc]
 exact wpAny_mono (sd he hA.handled G.sys al (.one aV)) (fun _ _ x=>bG.after S T' x) fun _ _ x=>x
theorem ud:∀ q∈vN,1≤q.2.1∧q.2.1≤2∧q.1=nH q.2.2:=by decide +kernel
theorem q9 {m:Str} {n:Nat} {p:fW} (h:u3 m n=some p):1≤n∧n≤2∧m=nH p:=ud _ (jG h)
theorem sK {f:Expr→Option CE} (hs:∀ e p,f (.Starred e p)=none) (pos:Pos) {es:List Expr} {cs:eG} (h:bV f es=some cs):(backTo pos (starEach es env)).all (fun x=>!x.1)=true:=by
 have:=iQ (env:=env) hs pos h
 rw [List.any_eq_false] at this
 rw [List.all_eq_true]
 intro x hx
 have:=this x hx
 simpa using this
theorem AJ {call:ar} (G:eH g cx fs mg mb) {F':Expr→Option CE} (hs:∀ e p,F' (.Starred e p)=none) (ih:∀ e c,F' e=some c→aE g A env nm e (ab call c)) {o:Expr} {m:Str} {ap pos:Pos} {p:fW} {as:List Expr} {a:CE} {cs:eG}
  (ho:aE g A env nm o (ab call a)) (FG:un o=true) (nk:(ap.endLine==pos.line)=true) (hp:u3 m as.length=some p) (h:bV F' as=some cs):aE g A env nm (.Call (.Attribute o m ap) as [] pos) (ab call (.meth p a cs)):=by
 intro ρ σ v af he φ s R F E
 refine bo he fun x σ₁ h1 he=>?_
 refine dv he fun hr he=>?_
 refine bo he fun vs ae h2 he=>?_
 refine iY (q9 hp) fun qN vq q3=>?_;apply aO q3
 cases as with
 | nil=>cases qN
 | cons e az =>
  refine aK (k:=fun c=>(bV F' az).bind fun cs=>some (eG.cons c cs)) h fun c dG h'=>?_
  refine aK h' fun Gw Lp _=>?_
  refine wpAny_Call_method_lateS ?_ ?_ nk (ho.bind h1 R F fun av s₁ ah S T al aP aV=>?_)
  ·cases o with
   | Name x p=>rfl
   | Constant k n p=>rfl
   | Subscript x y p=>rfl
   | _=>cases FG
  ·rw [sK hs pos h]
   have:(e::az).length+0+0<30:=by have:=vq;exact l1 0x1c001e9a08a08010b280 rfl vq
   exact decide_eq_true (p:=(e::az).length+0+0<30) this
  ·refine aJ (si (s:=s₁) hr al aV) fun hT hd=>?_
   refine ⟨nI p,nG p,nJ p,pb p,pc p,hT,hd,callWith_method1 (wpAny_mono (fH hs ih pos h h2 al aP E) (fun cF cw ⟨cr,cM,ba,di,fh⟩=>?_) fun _ _ x=>x) (cC hs dG az) (iQ hs pos Lp)⟩
   exact wpAny_mono (Ag he G.sys ba (aV.step al cM) di) (fun _ _ x=>bG.after (S.trans cM) (T.trans fh) x) fun _ _ x=>x
end
section
variable {g:G} {cx:cp} {fs:List Fn} {mg mb:Str→Option Value} {A:Around} {E:Value→Shared→Prop} {φ ah:List Addr} {σ σ₁ af:ag} {s s₁:Shared} {env:Env} {nm:List (Str×Nat)} {ρ:aF} {call:ar} {d:Nat}
theorem AG {e:Expr} {c:CE} (hA:gS A d) (he:aE g A env nm e (ab call c)):kq g A env nm e false (cm call (.ex c)):=by
 intro ρ σ xs w af h φ s R F E
 rw [qx] at h
 refine bo h fun x σ₁ h1 h=>?_
 refine vU h fun l w' h2 h=>?_
 apply dS h
 exact wpAny_mono (he ρ σ x σ₁ h1 φ s R F E) (fun a s₁ hp=>Dh hA.handled h2 hp) fun _ _ x=>x
theorem kb {a:Int} (h:dz a=true):-1000000000≤a∧a≤1000000000:=by
 simpa [dz] using h
theorem nY {x:Expr} {az:List Expr} (gF:∀ e q,x≠.Starred e q):starEach (x::az) env=(false,eval x env)::starEach az env:=by
 cases x with
 | Starred e q=>exact absurd rfl (gF e q)
 | _=>rfl
theorem sI {a b c:Int} {t u v:Tok} {tk:Nat} (hA:A.handled=none) (hc:c≠0) (wV:Builtin.Range.small a b c=true) (S:SE φ s.heap ah s₁.heap) (R:ak g ah σ s₁.heap) (T:bx s s₁) :
  yD g A φ s (bp a b c) [] false σ (.ref s₁.heap.objs.size) {s₁ with heap:=s₁.heap.push {cls:=.type "range", data:=.fields #[.int a t,.int b u,.int c v]},toks:=tk} :=
 have hk:∀ b' o,s₁.heap.get? b'=some o→(s₁.heap.push {cls:=.type "range", data:=.fields #[.int a t,.int b u,.int c v]}).get? b'=some o:=fun b o e=>Heap.get?_push_of_some _ e
 xM (s₁:={s₁ with heap:=s₁.heap.push {cls:=.type "range", data:=.fields #[.int a t,.int b u,.int c v]},toks:=tk}) hA (IsRange.new ..) hc wV (S.trans (SE.keeps _ hk)) (R.keeps hk) T
theorem AM {x:Expr} {a:CE} {p pos:Pos} (hA:gS A d) (G:eH g cx fs mg mb) (hg:aX env.scope ("range" : Str)=true) (gF:∀ e q,x≠.Starred e q) (hx:aE g A env nm x (ab call a)):kq g A env nm (.Call (.Name ("range" : Str) p) [x] [] pos) false (cm call (.rng1 a)):=by
 intro ρ σ xs w af h φ s R F E
 refine qW h fun n σ₁ h1 h=>?_
 refine dv h fun wV h=>?_
 apply dS h
 refine aJ (bY hg) fun mq mu=>?_
 have gV:starEach [x] env=(false,eval x env)::starEach [] env:=nY gF
 refine Call_Name rfl (dj G F R mq mu (by decide) (v:=.type "range") (by decide +kernel) (cc (.inr ⟨_,rfl⟩) (args_cons (hx.bind h1 R F fun b s₁ ah S T al aP aV=>args_nil ?_) gV) gV rfl))
 apply yw rfl aV;intro t1
 exact call_range_1 (sI hA.handled (by decide) (nS (by decide) (by decide) (kb wV) (by decide)) S al T)
theorem AN {x y:Expr} {a b:CE} {p pos:Pos} (hA:gS A d) (G:eH g cx fs mg mb) (hg:aX env.scope ("range" : Str)=true) (gF:∀ e q,x≠.Starred e q) (Lg:∀ e q,y≠.Starred e q) (hx:aE g A env nm x (ab call a)) (hy:aE g A env nm y (ab call b)):kq g A env nm (.Call (.Name ("range" : Str) p) [x,y] [] pos) false (cm call (.rng2 a b)):=by
 intro ρ σ xs w af h φ s R F E
 refine qW h fun m σ₁ h1 h=>?_
 refine qW h fun n ae h2 h=>?_
 refine dv h fun wV h=>?_
 apply dS h
 simp only [Bool.and_eq_true] at wV
 refine aJ (bY hg) fun mq mu=>?_
 have gV:starEach [x,y] env=(false,eval x env)::starEach [y] env:=nY gF
 have H8:starEach [y] env=(false,eval y env)::starEach [] env:=nY Lg
 refine Call_Name rfl (dj G F R mq mu (by decide) (v:=.type "range") (by decide +kernel) (cc (.inr ⟨_,rfl⟩) (args_cons (hx.bind h1 R F fun b s₁ ah S T al aP aV=>args_cons (hy.bind h2 al aP fun b' cw cr cM fh ba dH di=>args_nil ?_) H8) gV) gV (by rw [H8];rfl)))
 apply yw rfl aV;intro t1;apply yw rfl di;intro t2
 exact call_range_2 (sI hA.handled (by decide) (nS (by decide) (kb wV.1) (kb wV.2) (by decide)) (S.trans cM) ba (T.trans fh))
theorem C4 {x:Expr} {a:CE} {p pos:Pos} (hA:gS A d) (G:eH g cx fs mg mb) (hg:aX env.scope ("enumerate" : Str)=true) (gF:∀ e q,x≠.Starred e q) (hx:aE g A env nm x (ab call a)):kq g A env nm (.Call (.Name ("enumerate" : Str) p) [x] [] pos) true (cm call (.enm a)):=by
 intro ρ σ xs w af h φ s R F E
 rw [sH] at h
 refine bo h fun l σ₁ h1 h=>?_
 refine aK h fun P5 FO h=>?_
 apply dS h
 obtain rfl:=yJ FO
 refine aJ (bY hg) fun mq mu=>?_
 have gV:starEach [x] env=(false,eval x env)::starEach [] env:=nY gF
 refine Call_Name rfl (dj G F R mq mu (by decide) (v:=.type "enumerate") (by decide +kernel) (cc (.inr ⟨_,rfl⟩) (args_cons (hx.bind h1 R F fun b s₁ ah S T al aP aV=>args_nil ?_) gV) gV rfl))
 exact AT hA.handled S al aV T
end
section
variable {g:G} {cx:cp} {fs:List Fn} {mg mb:Str→Option Value} {A:Around} {E:Value→Shared→Prop} {φ ah:List Addr} {σ σ₁ af:ag} {s s₁:Shared} {env:Env} {nm:List (Str×Nat)} {ρ ρ':aF} {call:ar} {d:Nat}
theorem dA.on {h:Heap} (F:dA g φ env nm ρ h) (hr:∀ y i v,nm.lookup y=some i→ρ' i=some v→ρ i=some v):dA g φ env nm ρ' h:=by
 refine ⟨F.kind,F.glob,F.blt,?_,?_,F.locN,F.locB,F.cellF,F.cellI,F.slots,F.tab,F.stk⟩
 ·refine au F.ns fun m hn hm=>?_
  exact ⟨m,hn,fun x i v a b c=>hm x i v a b (hr x i v a c)⟩
 ·intro x i a b
  refine kF (F.cells x i a b) fun c u h1 h2 h3=>?_
  exact ⟨c,u,h1,h2,fun v hv=>h3 v (hr x i v a hv)⟩
noncomputable def TM (env:Env) (ts:List Str) (b:Addr):Prop:=b=env.locals∨∃ x∈ts,env.cells.lookup x=some b
theorem TM.fm {ts:List Str} {b:Addr} (h:TM env ts b):FM φ env b:=by
 refine Or.elim h (fun h=>?_) (fun q=>au q fun x _ h=>?_)
 ·exact .inr (.inl h)
 ·exact .inr (.inr ⟨x,h⟩)
theorem cu.mono {ms Ix:Addr→Prop} {h h':Heap} (S:cu ms φ h ah h') (hm:∀ b,ms b→Ix b):cu Ix φ h ah h':=⟨fun b o e hb=>S.pres b o e fun x=>hb (hm b x),S.dom,S.ext⟩
theorem dF {x:Str} {i:Nat} (h:n4 env.scope nm x=some i):nm.lookup x=some i∧(env.kindOf x=some .local∨env.kindOf x=some .cell):=by
 refine dv h fun hk h=>?_
 simp only [Bool.or_eq_true,beq_iff_eq] at hk
 exact ⟨h,hk⟩
theorem oR {x:Str} {p:Pos} {t:ge} (h:eI env.scope nm (.Name x p)=some t):∃ i,t=.one i∧nm.lookup x=some i∧(env.kindOf x=some .local∨env.kindOf x=some .cell):=by
 refine aK h fun i h1 h=>?_
 apply db h
 exact ⟨i,rfl,dF h1⟩
theorem mJ {t:Expr} {r:ge} (h:eI env.scope nm t=some r):(∃ x p i,t=.Name x p∧r=.one i∧nm.lookup x=some i∧(env.kindOf x=some .local∨env.kindOf x=some .cell)) ∨
  (∃ x y p q k pp i j,t=.Tuple [.Name x p,.Name y q] k pp∧r=.two i j∧nm.lookup x=some i∧nm.lookup y=some j∧(env.kindOf x=some .local∨env.kindOf x=some .cell)∧(env.kindOf y=some .local∨env.kindOf y=some .cell)):=by
 unfold eI at h
 cases hn:bN t with
 | some x =>
  rw [hn] at h
  refine Exists.elim (bd hn) fun p ht=>?_
  refine aK h fun i h1 h=>?_
  exact .inl ⟨x,p,i,ht,(sm h).symm,dF h1⟩
 | none =>
  rw [hn] at h
  refine aK h fun l ed h=>?_
  refine oZ (mG ed) fun k pp ht=>?_
  refine vU h fun a b hl h=>?_
  refine aK h fun x hx h=>?_
  refine aK h fun y hy h=>?_
  refine aJ (t7 h) fun _ h=>?_
  refine aK h fun i h1 h=>?_
  refine aK h fun j h2 h=>?_
  refine Exists.elim (bd hx) fun p hp=>?_
  refine Exists.elim (bd hy) fun q hq=>?_
  have hl2:=iS hl
  change a=_ at hp
  change b=_ at hq
  rw [hp,hq] at hl2
  exact .inr ⟨x,y,p,q,k,pp,i,j,by rw [ht,hl2],(sm h).symm,(dF h1).1,(dF h2).1,(dF h1).2,(dF h2).2⟩
theorem lw {x:V} {p:V×V} (h:tu x=some p):x=.tup [p.1,p.2]:=by
 cases x with
 | tup l =>
  match l,h with
  | [a,b],h=>rw [←sm h]
 | _=>exact no h
theorem qD {t:Expr} {r:ge} {x:V} {a:Value} (hh:A.handled=none) (hc:eI env.scope nm t=some r) (hp:r.put x ρ=some ρ') (R:ak g φ σ s.heap) (F:dA g φ env nm ρ s.heap) (hv:VR g φ s.heap x a) {Q:Unit→Shared→Prop}
  (h:∀ h' tk,cu (TM env (aH t)) φ s.heap φ h'→ak g φ σ h'→dA g φ env nm ρ' h'→(∀ {v:V} {a:Value},VR g φ s.heap v a→VR g φ h' v a)→Q () {s with heap:=h',toks:=tk}) :
  wpAny (model g.prog g.w) A (assign t env a) Q E s:=by
 rcases mJ hc with ⟨n,p,i,rfl,rfl,h1,h2⟩ | ⟨n,m,p,q,k,pp,i,j,rfl,rfl,h1,h2,h3,h4⟩
 ·obtain rfl:=sm hp
  refine wpAny_assign_Name (ew F R h1 h2 hv fun h' tk S R' F' up=>h h' tk (S.mono fun b hb=>?_) R' F' up)
  refine Or.elim hb (fun hb=>?_) (fun hb=>?_)
  ·exact .inl hb
  ·exact .inr ⟨n,by simp [aH],hb⟩
 ·refine vU hp fun a' b' hx hp=>?_
  obtain rfl:=sm hp
  obtain rfl:=lw hx
  obtain ⟨c,vs,rfl,ht,hz,Bq,hn⟩:=vT rfl hv
  refine kF (uG Bq) fun va vb q3 Pe Pf=>?_;subst q3
  refine wpAny_assign_Tuple hh ht rfl rfl fun bg hx=>?_
  have hk:∀ b o,s.heap.get? b=some o→bg.get? b=some o:=fun b o e=>hx b o (Nat.ne_of_lt (Heap.lt_size e)) e
  have fM:SE φ s.heap φ bg:=SE.keeps _ hk
  have al:=R.keeps hk
  have aP:dA g φ env nm ρ bg:=F.step R fM
  refine wpAny_bind (wpAny_holding (wpAny_assign_Name (ew (s:={s with heap:=bg}) aP al h1 h3 (Pe.step R fM) fun jc IN cM ba dH ED=>?_)))
  refine wpAny_bind (wpAny_holding (wpAny_assign_Name (ew (s:={s with heap:=jc,toks:=IN}) dH ba h2 h4 (ED (Pf.step R fM)) fun eg n6 fY fX lV sR=>wpAny_pure ?_)))
  refine h eg n6 ?_ fX lV fun x=>sR (ED (x.step R fM))
  have au:cu (TM env (aH (.Tuple [.Name n p,.Name m q] k pp))) φ s.heap φ jc:=⟨fun b o e hb=>cM.pres b o (hk b o e) fun y=>hb (by rcases y with y | y;exact .inl y;exact .inr ⟨n,by simp [aH,bN],y⟩),fun b o e=>cM.dom b o (hk b o e),[],by simp,fun _ hm=>(nomatch hm)⟩
  exact ⟨fun b o e hb=>(au.pres b o e hb).then fun o' e'=>fY.pres b o' e' fun y=>hb (by rcases y with y | y;exact .inl y;exact .inr ⟨m,by simp [aH,bN],y⟩),fun b o e=>by refine Exists.elim (au.dom b o e) fun o' e'=>?_;exact fY.dom b o' e',[],by simp,fun _ hm=>(nomatch hm)⟩
end
noncomputable def Ad (nx:Nat) (ρ:aF):aF:=fun i=>if i<nx then ρ i else none
theorem cg:∀ (names:List (Str×NameKind)) (n:Nat) (acc:List (Str×Addr)),cellsFrom n names acc=cellsFrom n names []++acc
 | [],_,_=>rfl
 | (x,k)::r,n,acc=>by
  unfold cellsFrom
  split
  ·rw [cg r (n+1) ((x,n)::acc),cg r (n+1) [(x,n)]];simp
  ·exact cg r n acc
set_option tactic.hygienic true in
theorem fZ:∀ (names:List (Str×NameKind)) (n:Nat) {x:Str} {c:Addr},(x,c)∈cellsFrom n names []→(x,.cell)∈names
 | [],_,_,_,h=>by simp [cellsFrom] at h
 | (y,k)::r,n,x,c,h=>by
  unfold cellsFrom at h
  split at h
  ·rename_i hk
   rw [cg] at h
   refine Or.elim (List.mem_append.mp h) (fun h=>?_) (fun h=>?_)
   ·exact List.mem_cons_of_mem _ (fZ r _ h)
   ·simp at h
    rw [h.1,beq_iff_eq.mp hk];exact List.mem_cons_self
  ·exact List.mem_cons_of_mem _ (fZ r _ h)
theorem ci {α:Type}:∀ {l:List (Str×α)} {x:Str} {c:α},(x,c)∈l→∃ c',l.lookup x=some c'
 | (y,b)::r,x,c,h=>by
  rw [List.lookup_cons]
  cases hb:x==y with
  | true=>exact ⟨b,rfl⟩
  | false =>
   refine Or.elim (List.mem_cons.mp h) (fun h=>?_) (fun h=>?_)
   ·cases h;simp at hb
   ·exact ci h
theorem dk:∀ (names:List (Str×NameKind)) (n:Nat) {x:Str},(x,.cell)∈names→∃ c,(x,c)∈cellsFrom n names []
 | (y,k)::r,n,x,h=>by
  unfold cellsFrom
  refine Or.elim (List.mem_cons.mp h) (fun h=>?_) (fun h=>?_)
  ·cases h
   rw [if_pos (show (NameKind.cell==NameKind.cell)=true from rfl),cg]
   exact ⟨n,by simp⟩
  ·split
   ·refine Exists.elim (dk r (n+1) h) fun c hc=>?_
    rw [cg]
    exact ⟨c,List.mem_append_left _ hc⟩
   ·exact dk r n h
noncomputable def cO (env:Env):List (Str×NameKind)→List (Str×Addr)→List (Str×Addr)
 | [],acc=>acc
 | (n,k)::r,acc=>if k==.free then (match env.cells.lookup n with | some c=>cO env r ((n,c)::acc) | none=>acc) else cO env r acc
theorem jh {env:Env} (scope:Scope) (h:∀ n,(n,NameKind.free)∈scope.names→∃ c,env.cells.lookup n=some c):closureFor scope env=pure (cO env scope.names []):=by
 unfold closureFor
 have fg:∀ (l:List (Str×NameKind)) (acc:List (Str×Addr)),(∀ n,(n,NameKind.free)∈l→∃ c,env.cells.lookup n=some c) →
   (forIn l acc fun (x:Str×NameKind) (cs:List (Str×Addr))=>(match x with | (name,kind)=>if (kind==.free)=true then (do let c ←cellOf env name;pure (ForInStep.yield ((name,c)::cs))) else pure (ForInStep.yield cs):Sem (ForInStep (List (Str×Addr)))))=(pure (cO env l acc):Sem (List (Str×Addr))):=by
  intro l
  induction l with
  | nil=>intro acc _;rfl
  | cons x r ih =>
   intro acc h
   obtain ⟨n,k⟩:=x
   rw [List.forIn_cons]
   by_cases hk:(k==NameKind.free)=true
   ·refine Exists.elim (h n (by rw [beq_iff_eq.mp hk];exact List.mem_cons_self)) fun c hc=>?_
    have e1:cellOf env n=pure c:=by unfold cellOf;rw [hc]
    simp only [hk,if_true,e1,pure_bind]
    rw [ih _ fun n hn=>h n (List.mem_cons_of_mem _ hn)]
    simp only [cO,hk,if_true,hc]
   ·simp only [hk,Bool.false_eq_true,if_false,pure_bind]
    rw [ih _ fun n hn=>h n (List.mem_cons_of_mem _ hn)]
    simp only [cO,hk,Bool.false_eq_true,if_false]
 rw [show (do
   let mut cs:=[]
   for (name,kind) in scope.names do
    if kind==.free then cs:=(name,←cellOf env name)::cs
   return cs:Sem (List (Str×Addr)))=(forIn scope.names [] fun (x:Str×NameKind) (cs:List (Str×Addr))=>(match x with | (name,kind)=>if (kind==.free)=true then (do let c ←cellOf env name;pure (ForInStep.yield ((name,c)::cs))) else pure (ForInStep.yield cs):Sem (ForInStep (List (Str×Addr)))))>>=fun cs=>pure cs from rfl,fg _ _ h]
 rfl
set_option tactic.hygienic true in
theorem iX {env:Env}:∀ {l:List (Str×NameKind)} {acc:List (Str×Addr)} {n:Str} {c:Addr},(n,c)∈cO env l acc→((n,.free)∈l∧env.cells.lookup n=some c)∨(n,c)∈acc
 | [],_,_,_,h=>.inr h
 | (x,k)::r,acc,n,c,h=>by
  unfold cO at h
  split at h
  ·rename_i hk
   split at h
   ·rename_i c' hc
    refine Or.elim (iX h) (fun q=>aJ q fun h1 h2=>?_) (fun h1=>?_)
    ·exact .inl ⟨List.mem_cons_of_mem _ h1,h2⟩
    ·refine Or.elim (List.mem_cons.mp h1) (fun h1=>?_) (fun h1=>?_)
     ·cases h1;exact .inl ⟨by rw [beq_iff_eq.mp hk];exact List.mem_cons_self,hc⟩
     ·exact .inr h1
   ·exact .inr h
  ·refine Or.elim (iX h) (fun q=>aJ q fun h1 h2=>?_) (fun h1=>?_)
   ·exact .inl ⟨List.mem_cons_of_mem _ h1,h2⟩
   ·exact .inr h1
set_option tactic.hygienic true in
theorem iV {env:Env}:∀ {l:List (Str×NameKind)} (acc:List (Str×Addr)),(∀ n,(n,NameKind.free)∈l→∃ c,env.cells.lookup n=some c)→(∀ n c,(n,c)∈acc→(n,c)∈cO env l acc)∧∀ {n c},(n,NameKind.free)∈l→env.cells.lookup n=some c→(n,c)∈cO env l acc
 | [],acc,_=>⟨fun _ _ h=>h,fun h=>nomatch h⟩
 | (x,k)::r,acc,hf=>by
  unfold cO
  have wQ:∀ n,(n,NameKind.free)∈r→∃ c,env.cells.lookup n=some c:=fun n hn=>hf n (List.mem_cons_of_mem _ hn)
  split
  ·rename_i hk
   refine Exists.elim (hf x (by rw [beq_iff_eq.mp hk];exact List.mem_cons_self)) fun c' dG=>?_
   rw [dG]
   refine aJ (iV ((x,c')::acc) wQ) fun i1 i2=>?_
   refine ⟨fun n c h=>i1 n c (List.mem_cons_of_mem _ h),fun {n c} h e=>?_⟩
   refine Or.elim (List.mem_cons.mp h) (fun h=>?_) (fun h=>?_)
   ·cases h
    rw [dG] at e;cases e
    exact i1 _ _ List.mem_cons_self
   ·exact i2 h e
  ·rename_i hk
   refine aJ (iV acc wQ) fun i1 i2=>?_
   refine ⟨i1,fun {n c} h e=>?_⟩
   refine Or.elim (List.mem_cons.mp h) (fun h=>?_) (fun h=>?_)
   ·cases h;simp at hk
   ·exact i2 h e
theorem gR:∀ {ts:List Str} {n i:Nat} {x:Str},(ts.zipIdx n).lookup x=some i→n≤i∧ts[i - n]? = some x
 | [],_,_,_,h=>by simp at h
 | t::ts,n,i,x,h=>by
  rw [List.zipIdx_cons,List.lookup_cons] at h
  cases hb:x==t with
  | true =>
   rw [hb] at h;cases h
   exact ⟨Nat.le_refl _,by rw [beq_iff_eq.mp hb];simp⟩
  | false =>
   rw [hb] at h
   refine aJ (gR h) fun h1 h2=>?_
   refine ⟨l2 0xc1010b1a180 rfl h1,?_⟩
   have:i - n=(i - (n+1))+1:=Nat.le_antisymm (l4 0xca181310baa1821014b0a23 rfl (sA _ _) (sC (l2 0xc1010b1a180 rfl h1))) (l4 0xc1a18310ba21014b0aa1823 rfl (sA _ _) (sC (h1)))
   rw [this,List.getElem?_cons_succ];exact h2
structure jq (scope bi:Scope) (nm:List (Str×Nat)) (nx:Nat) (ts:List Str):Prop where
 kind:scope.kind=.function
 kinds:∀ n k,(n,k)∈scope.names→k=.local∨k=.cell∨k=.free∨k=.globalImplicit
 uniq:∀ n k,(n,k)∈scope.names→scope.names.lookup n=some k
 free:∀ n,(n,NameKind.free)∈scope.names→(bi.names.lookup n=some .cell∨bi.names.lookup n=some .free)∧∃ i,nm.lookup n=some i
 tgts:∀ t∈ts,scope.names.lookup t=some .local∨scope.names.lookup t=some .cell
 below:∀ n i,(n,i)∈nm→i<nx
 lev:eK (gt scope bi)=false
theorem oU {scope bi:Scope} {nm:List (Str×Nat)} {nx:Nat} {ts:List Str} (h:pL scope bi nm nx ts=true):jq scope bi nm nx ts:=by
 simp only [pL,Bool.and_eq_true,List.all_eq_true,Bool.or_eq_true,beq_iff_eq,decide_eq_true_eq,bne_iff_ne,ne_eq,Option.isSome_iff_exists,Bool.not_eq_true'] at h
 refine aJ h fun k1 h8=>?_;refine aJ k1 fun k5 h7=>?_;refine aJ k5 fun k6 h6=>?_;obtain ⟨⟨⟨⟨h1,h2⟩,h3⟩,h4⟩,_⟩:=k6
 refine ⟨h1,fun n k hm=>?_,fun n k hm=>h3 (n,k) hm,fun n hm=>?_,h6,fun n i hm=>h7 (n,i) hm,h8⟩
 ·have:=h2 (n,k) hm
  rcases this with ((h | h) | h) | h
  ·exact .inl h
  ·exact .inr (.inl h)
  ·exact .inr (.inr (.inl h))
  ·exact .inr (.inr (.inr h))
 ·refine Or.elim (h4 (n,.free) hm) (fun h=>?_) (fun h=>?_)
  ·exact absurd rfl h
  ·exact h
theorem cU (scope:Scope) (env:Env):relabel scope env=gt scope env.scope:=by
 unfold relabel gt Env.kindOf
 rfl
theorem lN {bi:Scope}:∀ {names:List (Str×NameKind)} {x:Str} {k:NameKind},names.lookup x=some k →
  (names.map fun (n,k)=>if (k==NameKind.free&&bi.kind==.function&&bi.names.lookup n==some .cell) then (n,NameKind.cell) else (n,k)).lookup x=some (if (k==NameKind.free&&bi.kind==.function&&bi.names.lookup x==some .cell) then .cell else k)
 | [],_,_,h=>by simp at h
 | (n,k')::r,x,k,h=>by
  have ih:=@lN bi r x k
  show List.lookup x ((if (k'==NameKind.free&&bi.kind==.function&&bi.names.lookup n==some .cell)=true then (n,NameKind.cell) else (n,k'))::_)=_
  cases hx:x==n with
  | true =>
   simp only [List.lookup_cons,hx] at h
   cases h
   have:x=n:=by simpa using hx
   apply aO this
   split <;> simp
  | false =>
   simp only [List.lookup_cons,hx] at h
   split <;> (simp only [List.lookup_cons,hx];exact ih h)
theorem pi {scope bi:Scope} {x:Str} {k:NameKind} (h:scope.names.lookup x=some k):(gt scope bi).names.lookup x=some (if (k==NameKind.free&&bi.kind==.function&&bi.names.lookup x==some .cell) then .cell else k):=lN h
theorem ej {α:Type} (x:Str):∀ (a b:List (Str×α)),(a++b).lookup x=match a.lookup x with | some v=>some v | none=>b.lookup x
 | [],b=>rfl
 | (y,v)::a,b=>by
  rw [List.cons_append,List.lookup_cons,List.lookup_cons]
  cases x==y with
  | true=>rfl
  | false=>exact ej x a b
theorem eD {nm:List (Str×Nat)}:∀ {names:List (Str×NameKind)} {x:Str} {i:Nat},(names.filterMap fun (n,k)=>if k==.free then (nm.lookup n).map fun i=>(n,i) else none).lookup x=some i→(x,.free)∈names∧nm.lookup x=some i
 | [],_,_,h=>by simp at h
 | (n,k)::r,x,i,h=>by
  rw [List.filterMap_cons] at h
  by_cases hk:(k==NameKind.free)=true
  ·simp only [hk,if_true] at h
   cases hn:nm.lookup n with
   | none =>
    rw [hn] at h
    refine aJ (eD (names:=r) (by simpa using h)) fun h1 h2=>?_
    exact ⟨List.mem_cons_of_mem _ h1,h2⟩
   | some j =>
    rw [hn] at h
    simp only [Option.map_some,List.lookup_cons] at h
    cases hb:x==n with
    | true =>
     rw [hb] at h;cases h
     have:x=n:=by simpa using hb
     apply aO this
     exact ⟨by rw [beq_iff_eq.mp hk];exact List.mem_cons_self,hn⟩
    | false =>
     rw [hb] at h
     refine aJ (eD (names:=r) (by simpa using h)) fun h1 h2=>?_
     exact ⟨List.mem_cons_of_mem _ h1,h2⟩
  ·simp only [hk,Bool.false_eq_true,if_false] at h
   refine aJ (eD (names:=r) (by simpa using h)) fun h1 h2=>?_
   exact ⟨List.mem_cons_of_mem _ h1,h2⟩
set_option tactic.hygienic true in
theorem bH {scope:Scope} {nm:List (Str×Nat)} {nx:Nat} {ts:List Str} {x:Str} {i:Nat} (h:(bO scope nm nx ts).lookup x=some i):(nx≤i∧ts[i - nx]? = some x)∨((x,.free)∈scope.names∧nm.lookup x=some i):=by
 unfold bO at h
 rw [ej] at h
 split at h
 ·rename_i v hv
  cases h
  exact .inl (gR hv)
 ·exact .inr (eD h)
section
variable {g:G} {A:Around} {E:Value→Shared→Prop} {φ ah:List Addr} {σ:ag} {s:Shared} {env:Env} {nm:List (Str×Nat)} {ρ:aF}
theorem u5 {scope:Scope} {nx:Nat} {ts:List Str} {h:Heap} (F:dA g φ env nm ρ h) (K:jq scope env.scope nm nx ts):∀ n,(n,NameKind.free)∈scope.names→∃ c,env.cells.lookup n=some c:=fun n hn=>by
 obtain ⟨h1,i,hi⟩:=K.free n hn
 refine fv (F.cells n i hi h1) fun c u hc _=>?_
 exact ⟨c,hc⟩
set_option tactic.hygienic true in
theorem y9 {scope:Scope} {nx:Nat} {ts:List Str} (K:jq scope env.scope nm nx ts) (R:ak g φ σ s.heap) (F:dA g φ env nm ρ s.heap) {Q:Env→Shared→Prop}
  (h:∀ cenv h',(∀ b o,s.heap.get? b=some o→h'.get? b=some o)→cenv.scope=scope→dA g φ {cenv with scope:=relabel scope env} (bO scope nm nx ts) (Ad nx ρ) h'→s.heap.get? cenv.locals=none →
   (∀ x∈ts,∀ c,cenv.cells.lookup x=some c→s.heap.get? c=none)→(∀ x c,cenv.cells.lookup x=some c→s.heap.get? c=none∨∃ y,env.cells.lookup y=some c)→Q cenv {s with heap:=h'}) :
  wpAny (model g.prog g.w) A (newFunctionEnv scope env.globals (cO env scope.names []) [] env.qual none .none (some env)) Q E s:=by
 have hf:=u5 F K
 simp only [newFunctionEnv,Option.isSome_some,if_true]
 refine wpAny_bind (wpAny_alloc ?_)
 refine wpAny_bind (wpAny_layCells _ (fun name kind cells=>by cases KY:kind==NameKind.cell <;> simp [KY]) _ _ _ _ ?_)
 have ok:=cellsFrom_ok scope.names (s.heap.push {cls:=.type "dict", data:=.dict #[]}) (s.heap.objs.size+1) [] ⟨fun _ _ hm=>(nomatch hm),List.Pairwise.nil⟩ (by rw [Heap.size_push];exact Nat.le_refl _)
 rw [Heap.size_push] at ok
 rw [show ({s with heap:=s.heap.push {cls:=.type "dict", data:=.dict #[]}}:Shared).heap.objs.size=s.heap.objs.size+1 from Heap.size_push ..]
 rw [cg]
 rw [List.forIn_nil]
 refine wpAny_bind (wpAny_pure (wpAny_pure ?_))
 have hk:∀ b o,s.heap.get? b=some o→(pushCells (s.heap.push {cls:=.type "dict", data:=.dict #[]}) scope.names).get? b=some o:=fun b o e=>pushCells_keeps _ _ b o (Heap.get?_push_of_some _ e)
 have gF:=(Heap.Ns.new s.heap (.type "dict")).keeps (pushCells_keeps scope.names (s.heap.push {cls:=.type "dict", data:=.dict #[]}))
 generalize pushCells (s.heap.push {cls:=.type "dict", data:=.dict #[]}) scope.names=h' at ok hk gF
 have S:SE φ s.heap φ h':=SE.keeps _ hk
 -- the cells
 have nP:∀ {x c},(cellsFrom (s.heap.objs.size+1) scope.names []).lookup x=some c→h'.IsCell c none∧s.heap.objs.size+1≤c∧scope.names.lookup x=some .cell:=fun {x c} e=>by
  have hm:=mem_of_lookup e
  exact ⟨(ok.empty x c hm).1,(ok.empty x c hm).2,K.uniq _ _ (fZ _ _ hm)⟩
 have kD:∀ {x c},(cO env scope.names []).lookup x=some c→env.cells.lookup x=some c∧scope.names.lookup x=some .free:=fun {x c} e=>by
  refine Or.elim (iX (mem_of_lookup e)) (fun q=>aJ q fun h1 h2=>?_) (fun h1=>?_)
  ·exact ⟨h2,K.uniq _ _ h1⟩
  ·cases h1
 have Ab:∀ {x c},(cellsFrom (s.heap.objs.size+1) scope.names []++cO env scope.names []).lookup x=some c→(cellsFrom (s.heap.objs.size+1) scope.names []).lookup x=some c∨(cO env scope.names []).lookup x=some c:=fun {x c} e=>by
  rw [ej] at e
  split at e
  ·rename_i v hv;cases e;exact .inl hv
  ·exact .inr e
 have pX:∀ {c},s.heap.objs.size+1≤c→s.heap.get? c=none:=fun hc=>ne (Nat.le_trans (Nat.le_succ _) hc)
 refine h {scope,locals:=s.heap.objs.size,globals:=env.globals,cells:=cellsFrom (s.heap.objs.size+1) scope.names []++cO env scope.names [],qual:=env.qual,func:=none,code:=env.code,frame:=env.frame,builtins:=env.builtins} h' hk rfl ?_ (aC _) ?_ ?_
 ·refine ⟨?_,F.glob,F.blt,⟨_,gF,?_⟩,?_,a0 R (aC _),a7 R (aC _),?_,?_,?_,fun q=>?_,F.stk.to fun L o es ep h1 h2 h3=>⟨⟨o,es,ep,hk L o h1,h2⟩,h3⟩⟩
  rotate_right
  ·have q':eK (relabel scope env)=true:=q
   rw [cU,K.lev] at q'
   exact absurd q' Bool.false_ne_true
  ·show (relabel scope env).kind=_
   exact K.kind
  ·intro x i v hx Bo rG
   exfalso
   refine Or.elim (bH hx) (fun q=>aJ q fun h1 h2=>?_) (fun q=>aJ q fun h1 h2=>?_)
   ·simp [Ad,Nat.not_lt.mpr h1] at rG
   ·have e1:(relabel scope env).names.lookup x=some .local:=Bo
    rw [cU,pi (K.uniq _ _ h1)] at e1
    split at e1 <;> cases e1
  ·intro x i hx Bo
   refine Or.elim (bH hx) (fun q=>aJ q fun h1 h2=>?_) (fun q=>aJ q fun h1 h2=>?_)
   ·have ht:=K.tgts x (List.mem_of_getElem? h2)
    have hc:scope.names.lookup x=some .cell:=by
     refine Or.elim ht (fun ht=>?_) (fun ht=>?_)
     ·have e1:(relabel scope env).names.lookup x=some .local:=by
       rw [cU,pi ht];rfl
      refine Or.elim Bo (fun q=>?_) (fun q=>?_)
      ·have q':(relabel scope env).names.lookup x=some .cell:=q
       rw [e1] at q';cases q'
      ·have q':(relabel scope env).names.lookup x=some .free:=q
       rw [e1] at q';cases q'
     ·exact ht
    refine Exists.elim (dk scope.names (s.heap.objs.size+1) (mem_of_lookup hc)) fun c OC=>?_
    refine Exists.elim (ci OC) fun c' dG=>?_
    refine ⟨c',none,?_,(nP dG).1,fun v hv=>?_⟩
    ·show (cellsFrom (s.heap.objs.size+1) scope.names []++cO env scope.names []).lookup x=some c'
     rw [ej,dG]
    ·simp [Ad,Nat.not_lt.mpr h1] at hv
   ·obtain ⟨h3,j,hj⟩:=K.free x h1
    refine kF (F.cells x i h2 h3) fun c u hc Fj hv=>?_
    refine Exists.elim (ci ((iV [] hf).2 h1 hc)) fun c' dG=>?_
    have D2:c'=c:=by have:=(kD dG).1;rw [hc] at this;exact (Option.some.inj this).symm
    subst D2
    refine ⟨c',u,?_,Fj.keeps hk,fun v qO=>?_⟩
    ·show (cellsFrom (s.heap.objs.size+1) scope.names []++cO env scope.names []).lookup x=some c'
     rw [ej]
     cases q:(cellsFrom (s.heap.objs.size+1) scope.names []).lookup x with
     | none=>exact dG
     | some z =>
      have:=(nP q).2.2
      rw [K.uniq _ _ h1] at this;cases this
    ·have:ρ i=some v:=by
      unfold Ad at qO
      split at qO
      ·exact qO
      ·cases qO
     refine au (hv v this) fun a h4 h5=>?_
     exact ⟨a,h4,h5.step R S⟩
  ·intro x c e
   refine Or.elim (Ab e) (fun e=>?_) (fun e=>?_)
   ·refine iY (nP e) fun h1 h2 _=>?_
    exact ⟨⟨_,h1⟩,a0 R (pX h2),Nat.ne_of_gt h2,a7 R (pX h2)⟩
   ·refine aJ (kD e) fun h1 _=>?_
    refine yl (F.cellF x c h1) fun k2 h2 h3 h4=>?_;refine Exists.elim k2 fun u hu=>?_
    exact ⟨⟨u,hu.keeps hk⟩,h2,Nat.ne_of_lt hu.lt,h4⟩
  ·intro x y c e1 e2
   rcases Ab e1 with e1 | e1 <;> refine Or.elim (Ab e2) (fun e2=>?_) (fun e2=>?_)
   ·exact name_of_addr ok.apart (mem_of_lookup e1) (mem_of_lookup e2)
   ·exfalso
    refine iY (nP e1) fun _ h2 _=>?_
    refine aJ (F.cellF y c (kD e2).1) fun k3 _=>?_;refine Exists.elim k3 fun u hu=>?_
    exact absurd hu.lt (Nat.not_lt.mpr (Nat.le_trans (Nat.le_succ _) h2))
   ·exfalso
    refine iY (nP e2) fun _ h2 _=>?_
    refine aJ (F.cellF x c (kD e1).1) fun k4 _=>?_;refine Exists.elim k4 fun u hu=>?_
    exact absurd hu.lt (Nat.not_lt.mpr (Nat.le_trans (Nat.le_succ _) h2))
   ·exact F.cellI x y c (kD e1).1 (kD e2).1
  ·intro x y i e1 e2
   rcases bH e1 with ⟨h1,h2⟩ | ⟨h1,h2⟩ <;> refine Or.elim (bH e2) (fun q=>aJ q fun h3 h4=>?_) (fun q=>aJ q fun h3 h4=>?_)
   ·rw [h2] at h4;exact Option.some.inj h4
   ·have:=K.below _ _ (mem_of_lookup h4);lia
   ·have:=K.below _ _ (mem_of_lookup h2);lia
   ·exact F.slots x y i h2 h4
 ·intro x hx c e
  refine Or.elim (Ab e) (fun e=>?_) (fun e=>?_)
  ·exact pX (nP e).2.1
  ·exfalso
   have:=(kD e).2
   rcases K.tgts x hx with q | q <;> (rw [q] at this;cases this)
 ·intro x c e
  refine Or.elim (Ab e) (fun e=>?_) (fun e=>?_)
  ·exact .inl (pX (nP e).2.1)
  ·exact .inr ⟨x,(kD e).1⟩
end
noncomputable def NT (h:Heap) (b:Addr):Prop:=∀ o,h.get? b=some o→¬ ic o
theorem fz.nt {h:Heap} {b:Addr} (x:fz h b):NT h b:=fun o e=>by
 refine au x fun o' e' hn=>?_
 rw [e] at e';cases e'
 exact hn.not
section
variable {g:G} {A:Around} {E:Value→Shared→Prop} {φ ah φ₀:List Addr} {σ:ag} {s s₀:Shared} {env:Env} {nm:List (Str×Nat)} {ρ:aF} {wr:List Addr}
theorem Mv.tupT {h h':Heap} (M:Mv wr φ h h') (hw:∀ b∈wr,NT h b):∀ b o,h.get? b=some o→ic o→b∉φ→h'.get? b=some o∧b∉φ :=
 fun b o e hs hn=>⟨M b o (fun hb=>hw b hb o e hs) hn e,hn⟩
theorem Mv.vrT {h h':Heap} (M:Mv wr φ h h') (hw:∀ b∈wr,NT h b) {v:V} {a:Value} (x:VR g φ h v a):VR g φ h' v a:=x.stepT (fun _ _ e=>e) (M.tupT hw)
theorem Mv.vrsT {h h':Heap} (M:Mv wr φ h h') (hw:∀ b∈wr,NT h b) {l:List V} {vs:List Value} (x:bq g φ h l vs):bq g φ h' l vs:=x.stepT (fun _ _ e=>e) (M.tupT hw)
theorem ak.mvT {h h':Heap} (R:ak g φ σ h) (M:∀ b o,b∉wr→h.get? b=some o→h'.get? b=some o) (hw:∀ b∈wr,NT h b) (hn:∀ b∈wr,b∉φ) (hB:∀ b∈wr,g.B.get? b=none):ak g φ σ h':=by
 have M':Mv wr φ h h':=fun b o h1 _ e=>M b o h1 e
 refine ⟨fun b o e=>M b o (fun hb=>by rw [hB b hb] at e;cases e) (R.base b o e),R.fresh,R.len,R.nodup,fun i a m h1 h2=>?_,R.tabs⟩
 exact (R.objs i a m h1 h2).stepT (fun _ _ e=>e) (M'.tupT hw) fun o e=>M _ o (fun hb=>hn _ hb (List.mem_of_getElem? h1)) e
theorem dA.mv {h h':Heap} (F:dA g φ env nm ρ h) (M:Mv wr φ h h') (hw:∀ b∈wr,NT h b) (hL:env.locals∉wr) (hC:∀ x c,env.cells.lookup x=some c→c∉wr) (hS:∀ e∈g.fr,∀ L,e.frame=some L→L∉wr):dA g φ env nm ρ h':=by
 refine au F.ns fun m hn hm=>?_
 have rL:∀ x c u,env.cells.lookup x=some c→h.IsCell c u→h'.IsCell c u:=fun x c u e y=>by
  refine au y fun o ho hd=>?_
  exact ⟨o,M _ _ (hC x c e) (F.cellF x c e).2.1 ho,hd⟩
 refine ⟨F.kind,F.glob,F.blt,⟨m,?_,fun x i v a b c=>?_⟩,fun x i a b=>?_,F.locN,F.locB,fun x c e=>?_,F.cellI,F.slots,F.tab,fun e he=>?_⟩
 rotate_right
 ·obtain ⟨k1,L,o,es,ep,k2,k3,k4,k5,k6⟩:=F.stk e he
  exact ⟨k1,L,o,es,ep,k2,M L o (hS e he L k2) k5 k3,k4,k5,k6⟩
 ·refine jH hn fun o es ep ho r=>?_
  exact ⟨o,es,ep,M _ _ hL F.locN ho,r⟩
 ·refine au (hm x i v a b c) fun y h1 h2=>?_
  exact ⟨y,h1,M.vrT hw h2⟩
 ·refine kF (F.cells x i a b) fun c u h1 h2 h3=>?_
  refine ⟨c,u,h1,rL x c u h1 h2,fun v hv=>?_⟩
  refine au (h3 v hv) fun y h4 h5=>?_
  exact ⟨y,h4,M.vrT hw h5⟩
 ·refine yl (F.cellF x c e) fun k8 h1 h2 h3=>?_;refine Exists.elim k8 fun u hu=>?_
  exact ⟨⟨u,rL x c u e hu⟩,h1,h2,h3⟩
theorem dA.mvN {h h':Heap} (F:dA g φ env nm ρ h) (M:Mv wr φ h h') (hw:∀ b∈wr,fz h b) (hL:env.locals∉wr) (hC:∀ x c,env.cells.lookup x=some c→c∉wr):dA g φ env nm ρ h' :=
 F.mv M (fun b hb=>(hw b hb).nt) hL hC fun e he L hf hb=>by
  obtain ⟨_,L',o,es,ep,k2,k3,k4,_⟩:=F.stk e he
  refine au (hw L hb) fun o' e' ho=>?_
  rw [hf] at k2;cases k2
  rw [k3] at e';cases e'
  exact ho.dict _ _ k4
theorem cu.mv {ms:Addr→Prop} {aW h h':Heap} (S:cu ms φ₀ aW φ h) (R':ak g φ σ h') (M:Mv wr φ h h') (OZ:∀ b,b∈φ₀→ms b) (hf:∀ b∈wr,aW.get? b=none):cu ms φ₀ aW φ h':=by
 have nw:∀ b o,aW.get? b=some o→b∉wr:=fun b o e hb=>by rw [hf b hb] at e;cases e
 refine ⟨fun b o e hb=>(S.pres b o e hb).then fun o' e'=>.inl (M b o' (nw b o e) (S.notin e fun q=>hb (OZ b q)) e'),fun b o e=>?_,S.ext⟩
 by_cases hb:b∈φ
 ·exact R'.live hb
 ·refine Exists.elim (S.dom b o e) fun o' e'=>?_
  exact ⟨o',M b o' (nw b o e) hb e'⟩
theorem lS (f:Expr→Bool→Sem (ForInStep Bool)) (hf:∀ c,f c false=pure (.yield false)):∀ (gc:List Expr) {Q:Bool→Shared→Prop},Q false s→wpAny (model g.prog g.w) A (forIn gc false f) Q E s
 | [],Q,h=>by rw [List.forIn_nil];exact wpAny_pure h
 | c::r,Q,h=>by
  rw [List.forIn_cons,hf]
  exact wpAny_bind (wpAny_pure (lS f hf r h))
theorem pq {F':Expr→Option CE} {call:ar} (ih:∀ e c,F' e=some c→dU g A env nm e (bu call c)):∀ {gc:List Expr} {cs:eG},bV F' gc=some cs→∀ ⦃ρ σ b af⦄,cY call cs ρ σ=some (b,af)→∀ ⦃φ s⦄,ak g φ σ s.heap→dA g φ env nm ρ s.heap →
  ∀ E,wpAny (model g.prog g.w) A (forIn gc true fun c r=>if r=true then do let ok ←isTrue c env (eval c env);pure (ForInStep.yield ok) else pure (ForInStep.yield r)) (BA g φ s b af) E s
 | [],cs,h=>by
  intro ρ σ b af he φ s R F E
  obtain rfl:=sm h
  refine aJ (kZ he) fun Im t8=>?_;subst Im;subst t8
  rw [List.forIn_nil]
  exact wpAny_pure ⟨rfl,φ,SE.refl _ _,R,bx.refl _⟩
 | e::r,cs,h=>by
  refine aK h fun c h1 h=>?_
  refine aK h fun Gw h2 h=>?_
  apply db h
  intro ρ σ b af he φ s R F E
  rw [List.forIn_cons]
  simp only [if_true]
  refine gT he fun p σ₁ hx he=>?_
  refine wpAny_bind (wpAny_bind ((ih e c h1).bind (aR hx) R F fun s₁ ah S T al aP=>wpAny_pure ?_))
  cases p with
  | true=>exact wpAny_mono (pq ih h2 he al aP E) (fun _ _ x=>BA.after S T x) fun _ _ x=>x
  | false =>
   apply dx he
   exact lS _ (fun _=>by simp) r ⟨rfl,ah,S,al,T⟩
end
section
variable {prog:Program} {w:World} {A:Around} {R:Result→Shared→Prop} {s:Shared}
theorem pK {elt aA cR:Expr} {gc:List Expr} {scope:Scope} {pos:Pos} {it acc:Value} {env:Env} (I:Nat→Shared→Prop)
  (uE:∀ n s,I n s→∀ E,wpAny (model prog w) A (pyNext it) (fun r s₁=>match r with
   | none=>R (.ok .next) s₁
   | some v=>wpAny (model prog w) A (letOwnedTupleGo aA it v) (fun _ EB=>wpAny (model prog w) A (assign aA env v) (fun _ cw =>
     wpAny (model prog w) A (forIn gc true fun c r=>if r=true then do let ok ←isTrue c env (eval c env);pure (ForInStep.yield ok) else pure (ForInStep.yield r)) (fun ok gw =>
      if ok=true then wpAny (model prog w) A (eval elt env) (fun x uB =>
       wpAny (model prog w) A (call (.builtin "list.append") [acc,x]) (fun _ AW=>∃ m,m<n∧I m AW) E uB) E gw
      else ∃ m,m<n∧I m gw) E cw) E EB) E s₁) E s)
  (n:Nat) (h:I n s):codeAny (model prog w) A (.compLoop (.ListComp elt [⟨aA,cR,gc,0⟩] scope pos) 0 it acc env) R s:=by
 refine codeAny_loop rfl I (fun n s hI=>?_) n h
 show wpAny _ A ((compTurn (.ListComp elt [⟨aA,cR,gc,0⟩] scope pos) 0 it acc env).onRaise (fun x=>do noteFrame x env;theTreesLotGoes x)) _ _ s
 refine wpAny_noted ?_
 rw [compTurn_list]
 refine wpAny_bind (wpAny_standAt (wpAny_bind (wpAny_mono (uE n s hI _) (fun r s₁ bg=>?_) fun _ _ h'=>h')))
 cases r with
 | none=>exact wpAny_pure bg
 | some v =>
  refine wpAny_bind (wpAny_mono bg (fun _ EB Ie=>?_) fun _ _ h'=>h')
  refine wpAny_bind (wpAny_mono Ie (fun _ cw jc=>wpAny_bind (wpAny_mono jc (fun ok gw eg=>?_) fun _ _ h'=>h')) fun _ _ h'=>h')
  cases ok with
  | false=>exact wpAny_pure ⟨rfl,eg⟩
  | true =>
   exact wpAny_bind (wpAny_bind (wpAny_mono eg (fun x uB ma=>wpAny_bind (wpAny_mono ma (fun _ AW Cs=>wpAny_pure (wpAny_pure ⟨rfl,Cs⟩)) fun _ _ h'=>h')) fun _ _ h'=>h'))
end
noncomputable def xR:ge→Nat→Prop
 | .one a,i=>i=a
 | .two a b,i=>i=a∨i=b
set_option tactic.hygienic true in
theorem CQ {t:ge} {x:V} {ρ ρ':aF} {nx:Nat} (h:t.put x ρ=some ρ') (hs:∀ i,xR t i→nx≤i) :
  ∃ bA,t.put x (Ad nx ρ)=some bA∧(∀ i v,(i<nx∨xR t i)→ρ' i=some v→bA i=some v)∧∀ i v,Ad nx ρ i=some v→ρ' i=some v:=by
 cases t with
 | one a =>
  obtain rfl:=sm h
  refine ⟨_,rfl,fun i v hi hv=>?_,fun i v hv=>?_⟩
  ·simp only [cE] at hv ⊢
   split at hv
   ·rename_i e;simp [e];simpa using hv
   ·rename_i e
    rw [if_neg e]
    rcases hi with hi | hi
    ·simpa [Ad,hi] using hv
    ·exact absurd hi e
  ·obtain ⟨hi,hv⟩:=cJ hv
   have:i≠a:=fun e=>by have:=hs a rfl;lia
   simpa [cE,this] using hv
 | two a b =>
  obtain ⟨⟨p,q⟩,hx,h⟩:=ob h
  obtain rfl:=sm h
  obtain rfl:=lw hx
  refine ⟨_,rfl,fun i v hi hv=>?_,fun i v hv=>?_⟩
  ·simp only [cE] at hv ⊢
   split at hv
   ·rename_i e;simp [e];simpa using hv
   ·rename_i e
    rw [if_neg e]
    split at hv
    ·rename_i e';rw [if_pos e'];exact hv
    ·rename_i e'
     rw [if_neg e']
     rcases hi with hi | hi | hi
     ·simpa [Ad,hi] using hv
     ·exact absurd hi e'
     ·exact absurd hi e
  ·obtain ⟨hi,hv⟩:=cJ hv
   have h1:i≠a:=fun e=>by have:=hs a (.inl rfl);lia
   have h2:i≠b:=fun e=>by have:=hs b (.inr rfl);lia
   simpa [cE,h1,h2] using hv
section
variable {g:G} {A:Around} {E:Value→Shared→Prop} {φ₀:List Addr} {s₀:Shared} {cenv:Env} {nm:List (Str×Nat)} {ρ:aF} {call:ar} {d:Nat}
theorem qK.kp {I:Addr} {xs:List V} {w:List (Nat×aZ)} {two:Bool} {ys:List V} {vs:List Value} {wr kp:List Addr} {St:Nat→Heap→Prop} {ti:Nat→Value→Heap→Prop} (Ti:qK g A I xs w two ys vs wr kp St ti) {k:Nat} {h h':Heap} (st:St k h) {b:Addr} (hb:b∈wr∨b∈kp) {o:Obj} (e:h.get? b=some o) (x:eR h' b o):h'.get? b=some o:=by
 rcases hb with hb | hb
 ·obtain ⟨o',e',hs⟩:=Ti.wrN _ _ st b hb
  rw [e] at e';cases e'
  exact x.of hs.dict
 ·obtain ⟨o',bn,n,e',hd⟩:=Ti.kpN _ _ st b hb
  rw [e] at e';cases e'
  exact x.seq hd
theorem z8 {h h':Heap} {D:Addr} {va:Array Value} (p:h.PlainList D va) {o:Obj} (e:h.get? D=some o) (x:eR h' D o):h'.get? D=some o:=by
 obtain ⟨n,ho⟩:=p
 rw [ho] at e;cases e
 exact x.seq rfl
structure yA (wr kp:List Addr) (env:Env) (D:Addr):Prop where
 loc:∀ b,b∈wr∨b∈kp→b≠env.locals
 cel:∀ b,b∈wr∨b∈kp→∀ x,env.cells.lookup x≠some b
 acc:∀ b,b∈wr∨b∈kp→b≠D
structure GU where
 g:G
 φ₀:List Addr
 s₀:Shared
 env:Env
 nm:List (Str×Nat)
 ys:List V
 vs:List Value
 wr:List Addr
 kp:List Addr
 D:Addr
structure GV (c:GU):Prop where
 L:yA c.wr c.kp c.env c.D
 dl:c.D≠c.env.locals
 dc:∀ x,c.env.cells.lookup x≠some c.D
 w0:∀ b∈c.wr,c.s₀.heap.get? b=none
 d0:c.s₀.heap.get? c.D=none
 wB:∀ b∈c.wr,c.g.B.get? b=none
 dB:c.g.B.get? c.D=none
structure CI (c:GU) (ρ:aF) (φ:List Addr) (la:List V) (va:List Value) (h:Heap):Prop where
 S:SE c.φ₀ c.s₀.heap φ h
 F:dA c.g φ c.env c.nm ρ h
 ys:bq c.g φ h c.ys c.vs
 hn:∀ b,b∈c.wr∨b∈c.kp→b∉φ
 hD:h.PlainList c.D va.toArray
 dφ:c.D∉φ
 la:bq c.g φ h la va
section
variable {c:GU} {φ aI:List Addr} {σ:ag} {la:List V} {va:List Value} {h h':Heap} {ρ':aF}
theorem CI.mv (X:GV c) (I:CI c ρ φ la va h) (M:Mv c.wr φ h h') (R':ak c.g φ σ h') (w:∀ b∈c.wr,fz h b):CI c ρ φ la va h' :=
 ⟨cu.mv I.S R' M (fun _ q=>q) X.w0,I.F.mvN M w (fun q=>X.L.loc _ (.inl q) rfl) fun x b e q=>X.L.cel b (.inl q) x e,M.vrsT (fun b hb=>(w b hb).nt) I.ys,I.hn,I.hD.at fun o e=>M c.D o (fun q=>X.L.acc c.D (.inl q) rfl) I.dφ e,I.dφ,M.vrsT (fun b hb=>(w b hb).nt) I.la⟩
theorem CI.on (I:CI c ρ φ la va h) (hr:∀ y i v,c.nm.lookup y=some i→ρ' i=some v→ρ i=some v):CI c ρ' φ la va h:=⟨I.S,I.F.on hr,I.ys,I.hn,I.hD,I.dφ,I.la⟩
theorem bq.upG (up:∀ {v:V} {a:Value},VR g φ h v a→VR g φ h' v a):∀ {l:List V} {vs:List Value},bq g φ h l vs→bq g φ h' l vs
 | [],_,x=>by cases x;exact .nil
 | v::l,_,x=>by cases x with | cons h1 h2=>exact .cons (up h1) (bq.upG up h2)
theorem CI.tgt {ns:List Str} (X:GV c) (I:CI c ρ φ la va h) (S':cu (TM c.env ns) φ h φ h') (F':dA c.g φ c.env c.nm ρ' h') (up:∀ {v:V} {a:Value},VR c.g φ h v a→VR c.g φ h' v a) (yn:c.s₀.heap.get? c.env.locals=none) (tT:∀ x∈ns,∀ b,c.env.cells.lookup x=some b→c.s₀.heap.get? b=none):CI c ρ' φ la va h' :=
 ⟨cu.trans I.S S' (fun _ _ _ hb=>hb) fun b o e _ q=>Or.elim q (fun q=>by rw [q,yn] at e;exact (nomatch e)) fun q=>au q fun x hx q=>by rw [tT x hx b q] at e;exact (nomatch e),
  F',I.ys.upG up,I.hn,I.hD.at fun o e=>z8 I.hD e (S'.pres c.D o e fun q=>Or.elim q X.dl fun q=>au q fun x _ q=>X.dc x q),I.dφ,I.la.upG up⟩
theorem CI.step (I:CI c ρ φ la va h) (R:ak c.g φ σ h) (S':SE φ h aI h') (lv:∀ b,b∈c.wr∨b∈c.kp→∃ o,h.get? b=some o):CI c ρ aI la va h' :=
 ⟨I.S.trans S',I.F.step R S',I.ys.step R S',fun b hb=>(lv b hb).elim fun o e=>S'.notin e (I.hn b hb),I.hD.at fun o e=>z8 I.hD e (S'.pres c.D o e I.dφ),I.hD.elim fun n e=>S'.notin e I.dφ,I.la.step R S'⟩
theorem Nk {D:Addr} {va:Array Value} (hp:h.PlainList D va):∀ b∈[D],NT h b:=fun b hb o e=>by
 rw [List.mem_singleton.mp hb] at e
 exact hp.elim fun n ho=>by rw [←Option.some.inj (ho.symm.trans e)];exact kT rfl
theorem CI.app {v:V} {av:Value} (X:GV c) (I:CI c ρ φ la va h) (R:ak c.g φ σ h) (V:VR c.g φ h v av) (D':h'.PlainList c.D (va.toArray.push av)) (hs:Heap.SameBut c.D h h'):ak c.g φ σ h'∧CI c ρ φ (la++[v]) (va++[av]) h':=by
 have M:∀ b o,b∉[c.D]→h.get? b=some o→h'.get? b=some o:=fun b o hb e=>hs.extBut b o (fun q=>hb (List.mem_singleton.mpr q)) e
 have M':Mv [c.D] φ h h':=Mv.all M
 have nt:=Nk I.hD
 have one:∀ {P:Addr→Prop},P c.D→∀ b∈[c.D],P b:=fun p b hb=>by rw [List.mem_singleton.mp hb];exact p
 have R':=R.mvT M nt (one I.dφ) (one X.dB)
 refine ⟨R',cu.mv I.S R' M' (fun _ q=>q) (one X.d0),I.F.mv M' nt (fun q=>X.dl (List.mem_singleton.mp q).symm) (fun x b e q=>X.dc x (List.mem_singleton.mp q ▸ e)) (fun e he L hf q=>?_),M'.vrsT nt I.ys,I.hn,?_,I.dφ,M'.vrsT nt (I.la.append (.one V))⟩
 ·obtain ⟨_,L',o,es,ep,k2,k3,k4,_⟩:=I.F.stk e he
  rw [hf] at k2;cases k2
  rw [List.mem_singleton.mp q] at k3
  exact I.hD.elim fun n ho=>by rw [←Option.some.inj (ho.symm.trans k3)] at k4;exact nomatch k4
 ·rw [List.push_toArray] at D';exact D'
end
noncomputable def jJ (g:G) (φ₀:List Addr) (s₀:Shared) (C D:Addr) (l:List V) (σe:ag) (s':Shared):Prop :=
 ∃ aI,SE φ₀ s₀.heap aI s'.heap∧ak g aI (σe++[.lst l]) s'.heap∧VR g aI s'.heap (.ref σe.length) (.ref D)∧bx s₀ s'∧C∉aI∧∃ m,s'.heap.Ns C m
theorem CI.fin {c:GU} {φ:List Addr} {l:List V} {va:List Value} {σe:ag} {s':Shared} (X:GV c) (I:CI c ρ φ l va s'.heap) (R:ak c.g φ σe s'.heap) (T:bx c.s₀ s') (hl:l.length≤an):jJ c.g c.φ₀ c.s₀ c.env.locals c.D l σe s':=by
 refine au I.F.ns fun m gF _=>au I.S.ext fun t ht hf=>?_
 refine ⟨φ++[c.D],⟨I.S.pres,I.S.dom,t++[c.D],by rw [ht,List.append_assoc],fun a ha=>Or.elim (List.mem_append.mp ha) (hf a) fun ha=>by rw [List.mem_singleton.mp ha];exact X.d0⟩,R.more I.dφ X.dB (.lst I.hD (Nat.le_succ_of_le hl) I.la) (Nk I.hD c.D List.mem_cons_self),.ref ?_,T,fun q=>?_,m,gF⟩
 ·rw [←R.len,List.getElem?_append_right (Nat.le_refl _),Nat.sub_self];rfl
 ·exact Or.elim (List.mem_append.mp q) I.F.locN fun q=>X.dl (List.mem_singleton.mp q).symm
structure CT (c:GU) (ρ IW:aF) (cl:CE) (cs:eG) (call:ar) (t:ge) (w:List (Nat×aZ)) (xs l:List V) (σe:ag) (St:Nat→Heap→Prop) (n k:Nat) (φ:List Addr) (σ:ag) (la:List V) (va:List Value) (lr:List V) (s:Shared):Prop where
 I:CI c ρ φ la va s.heap
 T:bx c.s₀ s
 R:ak c.g φ σ s.heap
 st:St k s.heap
 hk:k≤xs.length
 n:n=xs.length - k
 hc:fP (ab call cl) (cY call cs) t w (xs.drop k) IW σ=some (lr,σe)
 hl:la++lr=l
theorem qK.live {I:Addr} {xs:List V} {w:List (Nat×aZ)} {two:Bool} {ys:List V} {vs:List Value} {wr kp:List Addr} {St:Nat→Heap→Prop} {ti:Nat→Value→Heap→Prop} (Ti:qK g A I xs w two ys vs wr kp St ti) {k:Nat} {h:Heap} (st:St k h) (b:Addr) (hb:b∈wr∨b∈kp):∃ o,h.get? b=some o :=
 Or.elim hb (fun hb=>au (Ti.wrN _ _ st b hb) fun o e _=>⟨o,e⟩) fun hb=>jH (Ti.kpN _ _ st b hb) fun o _ _ e _=>⟨o,e⟩
theorem za {elt aA cR:Expr} {gc:List Expr} {scope:Scope} {pos:Pos} {nx:Nat} {t:ge} {I D:Addr} {xs ys l:List V} {vs:List Value} {w:List (Nat×aZ)} {two:Bool} {wr kp:List Addr} {St:Nat→Heap→Prop} {ti:Nat→Value→Heap→Prop} {c:CE} {cs:eG} {F':Expr→Option CE} {σ σe:ag}
  {Q:Result→Shared→Prop} {s:Shared} {φ:List Addr}
  (hA:gS A d) (Ti:qK g A I xs w two ys vs wr kp St ti) (zF:qB two aA) (yo:eI cenv.scope nm aA=some t) (qf:∀ i,xR t i→nx≤i) (Lr:∀ y i,nm.lookup y=some i→i<nx∨xR t i)
  (hE:aE g A cenv nm elt (ab call c)) (gb:bV F' gc=some cs) (hT:∀ e c,F' e=some c→dU g A cenv nm e (bu call c))
  (L:yA wr kp cenv D) (Oa:D≠cenv.locals) (N9:∀ x,cenv.cells.lookup x≠some D)
  (yn:s₀.heap.get? cenv.locals=none) (tT:∀ x∈aH aA,∀ c,cenv.cells.lookup x=some c→s₀.heap.get? c=none) (oz:∀ b∈wr,s₀.heap.get? b=none) (N8:s₀.heap.get? D=none) (hB:∀ b∈wr,g.B.get? b=none) (Kl:g.B.get? D=none)
  (hl:l.length≤an) (hc:fP (ab call c) (cY call cs) t w xs ρ σ=some (l,σe))
  (S:SE φ₀ s₀.heap φ s.heap) (T:bx s₀ s) (R:ak g φ σ s.heap) (F:dA g φ cenv nm (Ad nx ρ) s.heap) (h0:St 0 s.heap) (FP:bq g φ s.heap ys vs) (hn:∀ b,b∈wr∨b∈kp→b∉φ) (hD:s.heap.PlainList D #[]) (Fd:D∉φ)
  (hQ:∀ s',jJ g φ₀ s₀ cenv.locals D l σe s'→Q (.ok .next) s') :
  codeAny (model g.prog g.w) A (.compLoop (.ListComp elt [⟨aA,cR,gc,0⟩] scope pos) 0 (.ref I) (.ref D) cenv) Q s:=by
 have X:GV ⟨g,φ₀,s₀,cenv,nm,ys,vs,wr,kp,D⟩:=⟨L,Oa,N9,oz,N8,hB,Kl⟩
 refine pK (fun n s=>∃ k φ σ la va,∃ lr,CT ⟨g,φ₀,s₀,cenv,nm,ys,vs,wr,kp,D⟩ (Ad nx ρ) ρ c cs call t w xs l σe St n k φ σ la va lr s) ?_ xs.length ⟨0,φ,σ,[],[],l,⟨S,F,FP,hn,hD,Fd,.nil⟩,T,R,h0,Nat.zero_le _,rfl,hc,rfl⟩
 intro n s q E
 refine kj q fun k φ σ la va q=>Exists.elim q fun lr Z=>?_
 rcases Nat.lt_or_ge k xs.length with bQ | jk
 ·have hc:=Z.hc
  rw [List.drop_eq_getElem_cons bQ] at hc
  refine jz hc fun hw hc=>aK hc fun ρ' FE hc=>?_
  refine Ti.item k φ σ s _ E xs[k] Z.st Z.R Z.I.ys hw Z.I.hn hB (List.getElem?_eq_getElem bQ) fun a bg lU tj al aV nK=>?_
  have py:=Z.I.mv X tj al (Ti.wrN k _ Z.st)
  refine Ti.go aA zF k φ σ a _ _ E nK al Z.I.hn hB fun jc yB ba sN=>?_
  have Be:=Ti.wrM k a _ nK
  have yz:=py.mv X yB ba Be
  refine fL (CQ FE qf) fun bA FF La HE=>?_
  refine qD (s:={s with heap:=jc,toks:=lU}) hA.handled yo FF ba yz.F (yB.vrT (fun b hb=>(Be b hb).nt) aV) fun eg n6 fY fX lV sR=>?_
  have wl:=yz.tgt X fY (lV.on fun y i v hy hv=>La i v (Lr y i hy) hv) sR yn tT
  have nZ:St (k+1) eg:=Ti.frame _ _ _ sN fun b hb o e=>Ti.kp sN hb e (fY.pres b o e fun q=>Or.elim q (L.loc b hb) fun q=>au q fun x _ q=>L.cel b hb x q)
  have lt:xs.length - (k+1)<n:=by rw [Z.n];exact Nat.sub_lt_sub_left bQ (Nat.lt_succ_self k)
  have back:∀ y i v,nm.lookup y=some i→Ad nx ρ i=some v→ρ' i=some v:=fun y i v _ hv=>HE i v hv
  have fr:∀ {aI h'},SE φ eg aI h'→St (k+1) h':=fun S'=>Ti.frame _ _ _ nZ fun b hb o e=>Ti.kp nZ hb e (S'.pres b o e (Z.I.hn b hb))
  refine bo hc fun bt σ₁ zE hc=>wpAny_mono (pq hT gb zE (s:={s with heap:=eg,toks:=n6}) fX wl.F E) (fun ok uB ma=>?_) fun _ _ x=>x
  rw [ma.1]
  refine fL ma.2 fun Bg jr pz EM=>?_
  have T':=Z.T.trans (bx.trans ⟨rfl,rfl,rfl⟩ EM)
  have EJ:=wl.step fX jr (Ti.live nZ)
  cases bt with
  | false=>exact ⟨xs.length - (k+1),lt,k+1,Bg,σ₁,la,va,lr,EJ.on back,T',pz,fr jr,bQ,rfl,hc,Z.hl⟩
  | true =>
   rw [if_pos rfl] at hc
   refine bo hc fun v ae KM hc=>bo hc fun PJ bb jm hc=>?_
   have q:=kZ hc
   refine hE.bind KM pz EJ.F fun av AW IZ Bz JP Bt EH JR=>?_
   have GZ:=EJ.step pz Bz (Ti.live (fr jr))
   refine wpAny_list_append_plain GZ.hD (fun h₆ JC D9=>?_) ?_
   ·have Y:=GZ.app X Bt JR JC D9
    refine ⟨xs.length - (k+1),lt,k+1,IZ,ae,la++[v],va++[av],PJ,Y.2.on back,(T'.trans JP).trans ⟨rfl,rfl,rfl⟩,Y.1,Ti.frame _ _ _ (fr (jr.trans Bz)) fun b hb o e=>D9.extBut b o (L.acc b hb) e,bQ,rfl,by rw [jm,q.2],?_⟩
    rw [List.append_assoc,←Z.hl,←q.1];rfl
   ·rw [List.size_toArray,←Z.I.la.length]
    refine Nat.le_trans ?_ hl
    rw [←Z.hl,List.length_append]
    exact Nat.le_add_right _ _
 ·have tc:k=xs.length:=Nat.le_antisymm Z.hk jk
  have hc:=Z.hc
  have st:=Z.st
  rw [tc,List.drop_length] at hc
  rw [tc] at st
  refine jz hc fun hw hc=>?_
  have q:=kZ hc
  refine Ti.done φ _ s _ E st Z.R Z.I.ys hw Z.I.hn hB fun bg lU tj al=>?_
  have py:=Z.I.mv X tj al (Ti.wrN _ _ st)
  have e:la=l:=by rw [←Z.hl,←q.1,List.append_nil]
  rw [e] at py
  rw [q.2] at al
  exact hQ _ (CI.fin (s':={s with heap:=bg,toks:=lU}) X py al (Z.T.trans ⟨rfl,rfl,rfl⟩) hl)
end
theorem wg:∀ {ts:List Str} {n:Nat} {x:Str},x∈ts→∃ i,(ts.zipIdx n).lookup x=some i
 | t::ts,n,x,h=>by
  rw [List.zipIdx_cons,List.lookup_cons]
  cases hb:x==t with
  | true=>exact ⟨n,rfl⟩
  | false =>
   refine Or.elim (List.mem_cons.mp h) (fun h=>?_) (fun h=>?_)
   ·subst h;simp at hb
   ·exact wg h
theorem jv {scope:Scope} {nm:List (Str×Nat)} {nx i:Nat} {ts:List Str} {x:Str} (hx:x∈ts) (h:(bO scope nm nx ts).lookup x=some i):nx≤i:=by
 unfold bO at h
 rw [ej] at h
 refine Exists.elim (wg (n:=nx) hx) fun j hj=>?_
 rw [hj] at h;cases h
 exact (gR hj).1
section
variable {g:G} {A:Around} {E:Value→Shared→Prop} {φ:List Addr} {s:Shared} {env:Env} {nm:List (Str×Nat)} {ρ:aF} {call:ar} {d:Nat}
theorem xS {scope:Scope} {env':Env} {nx:Nat} {aA:Expr} {t:ge} (K:jq scope env.scope nm nx (aH aA)) (h:eI env'.scope (bO scope nm nx (aH aA)) aA=some t) :
  (∀ i,xR t i→nx≤i)∧∀ y i,(bO scope nm nx (aH aA)).lookup y=some i→i<nx∨xR t i:=by
 rcases mJ h with ⟨x,p,i,rfl,rfl,h1,_⟩ | ⟨x,y,p,q,k,pp,i,j,rfl,rfl,h1,h2,_,_⟩
 ·refine ⟨fun a ha=>?_,fun y a hy=>?_⟩
  ·have:a=i:=ha
   apply aO this
   exact jv (by simp [aH,bN]) h1
  ·refine Or.elim (bH hy) (fun q=>aJ q fun h3 h4=>?_) (fun q=>aJ q fun h3 h4=>?_)
   ·have hm:=List.mem_of_getElem? h4
    simp [aH,bN] at hm
    subst hm
    rw [h1] at hy;cases hy
    exact .inr rfl
   ·exact .inl (K.below _ _ (mem_of_lookup h4))
 ·refine ⟨fun a ha=>?_,fun z a hz=>?_⟩
  ·have:a=i∨a=j:=ha
   rcases this with rfl | rfl
   ·exact jv (by simp [aH,bN]) h1
   ·exact jv (by simp [aH,bN]) h2
  ·refine Or.elim (bH hz) (fun q=>aJ q fun h3 h4=>?_) (fun q=>aJ q fun h3 h4=>?_)
   ·have hm:=List.mem_of_getElem? h4
    simp [aH,bN] at hm
    rcases hm with rfl | rfl
    ·rw [h1] at hz;cases hz
     exact .inr (.inl rfl)
    ·rw [h2] at hz;cases hz
     exact .inr (.inr rfl)
   ·exact .inl (K.below _ _ (mem_of_lookup h4))
theorem oV {elt aA cR:Expr} {gc:List Expr} {scope:Scope} {pos Ge:Pos} {nx:Nat} {t:ge} {it:gd} {c:CE} {cs:eG} {F':Expr→Option CE} {two:Bool} {xs l:List V} {w:List (Nat×aZ)} {σ σ₁ ae:ag} {use:Option (Value→Sem Unit)} {Q:Value→Shared→Prop}
  (hA:gS A d) (K:jq scope env.scope nm nx (aH aA)) (hs:∀ x,foldedSetIterable cR env x=pure x) (zF:qB two aA)
  (hi:kq g A env nm cR two (cm call it)) (yo:eI (gt scope env.scope) (bO scope nm nx (aH aA)) aA=some t)
  (hE:∀ e',e'.scope=gt scope env.scope→aE g A e' (bO scope nm nx (aH aA)) elt (ab call c)) (gb:bV F' gc=some cs) (hT:∀ e',e'.scope=gt scope env.scope→∀ e c,F' e=some c→dU g A e' (bO scope nm nx (aH aA)) e (bu call c))
  (h1:cm call it ρ σ=some (xs,w,σ₁)) (h2:fP (ab call c) (cY call cs) t w xs ρ σ₁=some (l,ae)) (hl:l.length≤an) (R:ak g φ σ s.heap) (F:dA g φ env nm ρ s.heap)
  (hQ:∀ D C s',jJ g φ s C D l ae s'→s.heap.get? C=none→compPost (model g.prog g.w) A E use Q (.ref D) C (.ok .next) s') :
  wpAny (model g.prog g.w) A (comprehension (.ListComp elt [⟨aA,cR,gc,0⟩] scope pos) scope env Ge (newList []) false (eval cR env) use) Q E s:=by
 refine wpAny_comprehension_free (use:=use) rfl hs (jh scope (u5 F K)) K.kind (fun x hx hl=>K.uniq _ _ (by rw [←hl];exact hx)) (wpAny_mono (hi ρ σ xs w σ₁ h1 φ s R F E) (fun xv s₁ bg=>?_) fun _ _ e=>e)
 refine ym bg fun aI fM al od mk=>?_
 refine mk E _ fun I ys vs wr kp St ti h' Ti kf hk FP oz hn hB=>?_
 have lv:∀ b,b∈wr∨b∈kp→∃ o,h'.get? b=some o:=fun b hb=>by
  refine Or.elim hb (fun hb=>?_) (fun hb=>?_)
  ·refine au (Ti.wrN _ _ kf b hb) fun o e _=>?_;exact ⟨o,e⟩
  ·refine jH (Ti.kpN _ _ kf b hb) fun o _ _ e _=>?_;exact ⟨o,e⟩
 have ba:ak g aI σ₁ h':=al.keeps hk
 have aP:=F.step R fM
 refine wpAny_newObj_type ?_
 have Fv:∀ b o,h'.get? b=some o→(h'.push {cls:=.type "list", data:=.seq ([]:List Value).toArray}).get? b=some o:=fun b o e=>Heap.get?_push_of_some _ e
 have Je:(h'.push {cls:=.type "list", data:=.seq ([]:List Value).toArray}).PlainList h'.objs.size #[]:=⟨_,Heap.get?_push_size _ rfl⟩
 show wpAny _ _ _ _ _ {s₁ with heap:=h'.push {cls:=.type "list", data:=.seq ([]:List Value).toArray}}
 generalize h'.push {cls:=.type "list", data:=.seq ([]:List Value).toArray}=eg at Fv Je
 have Cn:∀ b o,s₁.heap.get? b=some o→eg.get? b=some o:=fun b o e=>Fv b o (hk b o e)
 have Bw:SE aI s₁.heap aI eg:=SE.keeps _ Cn
 have fX:ak g aI σ₁ eg:=al.keeps Cn
 refine y9 (s:={s₁ with heap:=eg}) K fX (aP.step al Bw) fun cenv ma GD Ls yx Fc Cr tU=>?_
 dsimp only at GD Fc Cr tU
 have HT:∀ b o,s₁.heap.get? b=some o→ma.get? b=some o:=fun b o e=>GD b o (Cn b o e)
 have Bx:SE aI s₁.heap aI ma:=SE.keeps _ HT
 have fr:∀ b,eg.get? b=none→s.heap.get? b=none:=fun b hb=>fM.back (eJ Cn hb)
 refine aJ (xS (env':={cenv with scope:=relabel scope env}) K (by show eI (relabel scope env) _ _=_;rw [cU];exact yo)) fun qf Lr=>?_
 have HA:h'.get? h'.objs.size=none:=aC _
 have HG:∀ x b,cenv.cells.lookup x=some b→(∃ o,h'.get? b=some o)→∃ y,env.cells.lookup y=some b:=fun x b e ⟨o,ho⟩=>by
  refine Or.elim (tU x b e) (fun q=>?_) (fun q=>?_)
  ·rw [Fv b o ho] at q;cases q
  ·exact q
 have vd:∀ y b,env.cells.lookup y=some b→∃ u,s.heap.IsCell b u:=fun y b e=>(F.cellF y b e).1
 have Iv:codeAny (model g.prog g.w) A (.compLoop (.ListComp elt [⟨aA,cR,gc,0⟩] scope pos) 0 (.ref I) (.ref h'.objs.size) {cenv with scope:=relabel scope env}) (compPost (model g.prog g.w) A E use Q (.ref h'.objs.size) cenv.locals) {s₁ with heap:=ma}:=by
  refine za (s₀:=s) (φ₀:=φ) (cenv:={cenv with scope:=relabel scope env}) (φ:=aI) (l:=l) (σe:=ae) (ρ:=ρ) (t:=t) (nx:=nx) (c:=c) (cs:=cs) (F':=F') (call:=call) hA Ti zF (by show eI (relabel scope env) _ _=_;rw [cU];exact yo) qf Lr
   (hE _ (cU _ _)) gb (hT _ (cU _ _)) ⟨?_,?_,?_⟩ ?_ ?_ (fr _ Fc) (fun x hx c e=>fr _ (Cr x hx c e)) oz ?_ hB ?_ hl h2 (fM.trans Bx) (od.trans ⟨rfl,rfl,rfl⟩) (al.keeps HT) yx (Ti.frame _ _ _ kf fun b _ o e=>GD b o (Fv b o e)) (FP.step ba (SE.keeps _ fun b o e=>GD b o (Fv b o e))) hn (Je.at fun o e=>GD _ o e) ?_ fun s' td=>hQ _ _ s' td (fr _ Fc)
  ·rintro b hb rfl
   refine Exists.elim (lv _ hb) fun o e=>?_
   rw [Fv _ o e] at Fc;cases Fc
  ·intro b hb x e
   refine Exists.elim (HG x b e (lv b hb)) fun y hy=>?_
   refine fv (vd y b hy) fun u o ho hd=>?_
   refine Or.elim hb (fun hb=>?_) (fun hb=>?_)
   ·rw [oz b hb] at ho;cases ho
   ·refine jH (Ti.kpN _ _ kf b hb) fun o' bn n' e' jI=>?_
    have zs:h'.get? b=some o:=hk b o ((fM.pres b o ho (F.cellF y b hy).2.1).of fun es ep q=>nomatch hd.symm.trans q)
    rw [zs] at e';cases e'
    rw [hd] at jI;cases jI
  ·rintro b hb rfl
   refine Exists.elim (lv _ hb) fun o e=>?_
   rw [HA] at e;cases e
  ·rintro e
   refine Exists.elim Je fun n' ho=>?_
   rw [show cenv.locals=h'.objs.size from e.symm,ho] at Fc;cases Fc
  ·intro x e
   refine Or.elim (tU x _ e) (fun q=>?_) (fun q=>Exists.elim q fun y hy=>?_)
   ·refine Exists.elim Je fun n' ho=>?_
    rw [ho] at q;cases q
   ·refine fv (vd y _ hy) fun u o ho hd=>?_
    have:h'.get? h'.objs.size=some o:=hk _ o ((fM.pres _ o ho (F.cellF y _ hy).2.1).of fun es ep q=>nomatch hd.symm.trans q)
    rw [HA] at this;cases this
  ·exact fM.back (eJ hk HA)
  ·exact a7 ba HA
  ·exact a0 ba HA
 exact codeAny_compStart_list Iv (Ti.self 0 _ _ _ (Ti.frame _ _ _ kf fun b _ o e=>GD b o (Fv b o e)) Iv)
theorem jJ.evp {C D:Addr} {l:List V} {σe:ag} {s':Shared} {h':Heap} {σ:ag} (R:ak g φ σ s.heap) (x:jJ g φ s C D l σe s') (hC:s.heap.get? C=none) (hs:Heap.SameBut C s'.heap h'):bG g φ s (.ref σe.length) (σe++[.lst l]) (.ref D) {s' with heap:=h'}:=by
 obtain ⟨aI,S,R',V',T,zo,m,hn⟩:=x
 have M:∀ b o,b≠C→s'.heap.get? b=some o→h'.get? b=some o:=fun b o hb e=>hs.extBut b o hb e
 have ba:ak g aI (σe++[.lst l]) h':=R'.other zo (a7 R hC) M (Ns.noSeq hn)
 refine ⟨aI,cu.mv (wr:=[C]) S ba (fun b o hb _ e=>M b o (by simpa using hb) e) (fun _ q=>q) (by simpa using hC),ba,?_,T.trans ⟨rfl,rfl,rfl⟩⟩
 cases V' with
 | ref h=>exact .ref h
theorem AE {elt aA cR:Expr} {gc:List Expr} {scope:Scope} {pos:Pos} {nx:Nat} {t:ge} {it:gd} {c:CE} {cs:eG} {F':Expr→Option CE} {two:Bool}
  (hA:gS A d) (K:jq scope env.scope nm nx (aH aA)) (hs:∀ x,foldedSetIterable cR env x=pure x) (zF:qB two aA)
  (hi:kq g A env nm cR two (cm call it)) (yo:eI (gt scope env.scope) (bO scope nm nx (aH aA)) aA=some t)
  (hE:∀ e',e'.scope=gt scope env.scope→aE g A e' (bO scope nm nx (aH aA)) elt (ab call c)) (gb:bV F' gc=some cs) (hT:∀ e',e'.scope=gt scope env.scope→∀ e c,F' e=some c→dU g A e' (bO scope nm nx (aH aA)) e (bu call c)) :
  aE g A env nm (.ListComp elt [⟨aA,cR,gc,0⟩] scope pos) (ab call (.comp c t it cs)):=by
 intro ρ σ v af he φ s R F E
 refine il he fun xs w σ₁ h1 he=>?_
 ··refine bo he fun l ae h2 he=>?_
   refine iY (fG he) fun hz q2 q3=>?_;apply aO q2;apply aO q3
   rw [eval_ListComp]
   refine oV hA K hs zF hi yo hE gb hT h1 h2 hz R F fun D C s' Jg hC=>?_
   obtain ⟨aI,S,R',V',T,zo,m,hn⟩:=id Jg
   exact ⟨m,hn,fun h' td=>Jg.evp R hC td⟩
end
end Lar
namespace Lar
open PySem PyProof.Rows
theorem ca {M:Model} {A:Around} {E:Value→Shared→Prop} {s:Shared} {σ α:Type} {c:Prop} [Decidable c] {m n:StateT σ Sem α} {Q:α→σ→Prop} {st:σ} (hc:c) (h:wpS M A E s m Q st):wpS M A E s (if c then m else n) Q st:=by rw [if_pos hc];exact h
theorem bM {M:Model} {A:Around} {E:Value→Shared→Prop} {s:Shared} {σ α:Type} {c:Prop} [Decidable c] {m n:StateT σ Sem α} {Q:α→σ→Prop} {st:σ} (hc:¬ c) (h:wpS M A E s n Q st):wpS M A E s (if c then m else n) Q st:=by rw [if_neg hc];exact h
noncomputable def dM:Bool→Keyed→Array Keyed→Nat→Nat→Nat→StateT SortSt Sem (Option Nat):=sortPriv% PySem.Builtin.gallop
noncomputable def yM (left:Bool) (fg:Keyed) (arr:Array Keyed) (base i:Nat):StateT SortSt Sem (Option Bool) :=
 elem' arr (base+i)>>=fun x=>if left=true then lt' x fg else lt' fg x>>=fun z=>pure (z.map fun b=>!b)
noncomputable abbrev GS:Type:=Option (Option Nat)×Nat×Nat
noncomputable def zp (left:Bool) (fg:Keyed) (arr:Array Keyed) (base:Nat) (_:Nat) (c:GS):StateT SortSt Sem (ForInStep GS) :=
 if c.2.1 ≥ c.2.2 then pure (.done (none,c.2.1,c.2.2))
 else yM left fg arr base (c.2.1+(c.2.2 - c.2.1) / 2)>>=fun z=>match z with
  | some b=>if b=true then pure (.yield (none,c.2.1+(c.2.2 - c.2.1) / 2+1,c.2.2)) else pure (.yield (none,c.2.1,c.2.1+(c.2.2 - c.2.1) / 2))
  | _=>pure (.done (some none,c.2.1,c.2.2))
noncomputable def Nq (left:Bool) (fg:Keyed) (arr:Array Keyed) (base top hint:Nat) (_:Nat) (c:GS):StateT SortSt Sem (ForInStep GS) :=
 if c.2.2 ≥ top then pure (.done (none,c.2.1,c.2.2))
 else yM left fg arr base (hint+c.2.2)>>=fun z=>match z with
  | some b=>if (!b)=true then pure (.done (none,c.2.1,c.2.2)) else pure (.yield (none,c.2.2,2 * c.2.2+1))
  | _=>pure (.done (some none,c.2.1,c.2.2))
noncomputable def DV (left:Bool) (fg:Keyed) (arr:Array Keyed) (base top hint:Nat) (_:Nat) (c:GS):StateT SortSt Sem (ForInStep GS) :=
 if c.2.2 ≥ top then pure (.done (none,c.2.1,c.2.2))
 else yM left fg arr base (hint - c.2.2)>>=fun z=>match z with
  | some b=>if b=true then pure (.done (none,c.2.1,c.2.2)) else pure (.yield (none,c.2.2,2 * c.2.2+1))
  | _=>pure (.done (some none,c.2.1,c.2.2))
noncomputable def lT (c:GS) (k:Nat→Nat→StateT SortSt Sem (Option Nat)):StateT SortSt Sem (Option Nat):=match c.1 with
 | some r=>pure r
 | none=>k c.2.1 c.2.2
noncomputable def yP (left:Bool) (fg:Keyed) (arr:Array Keyed) (base n lo hi:Nat):StateT SortSt Sem (Option Nat) :=
 forIn [0:n] ((none,lo,hi):GS) (zp left fg arr base)>>=fun c=>lT c fun _ h=>pure (some h)
theorem tQ (left:Bool) (fg:Keyed) (arr:Array Keyed) (base n hint:Nat):dM left fg arr base n hint =
  (yM left fg arr base hint>>=fun z=>match z with
   | some b=>if b=true then forIn [0:n] ((none,0,1):GS) (Nq left fg arr base (n - hint) hint)>>=fun c=>lT c fun l o=>yP left fg arr base n (hint+l+1) (hint+min o (n - hint))
    else forIn [0:n] ((none,0,1):GS) (DV left fg arr base (hint+1) hint)>>=fun c=>lT c fun l o=>yP left fg arr base n (hint+1 - min o (hint+1)) (hint - l)
   | _=>pure none):=by kernel_rfl
section
variable {prog:Program} {w:World} {A:Around} {E:Value→Shared→Prop} {s:Shared}
noncomputable def GR (prog:Program) (w:World) (A:Around) (E:Value→Shared→Prop) (s:Shared) (left:Bool) (fg:Keyed) (arr:Array Keyed) (base n:Nat) (st:SortSt) (bey:Nat→Bool):Prop :=
 ∀ i,i<n→∀ Q:Option Bool→SortSt→Prop,Q (some (bey i)) st→wpS (model prog w) A E s (yM left fg arr base i) Q st
theorem jN {i n:Nat} {bey:Nat→Bool} (eW:∀ i j,i≤j→j<n→bey j=true→bey i=true) {k:Nat} (hk:bey k=false) (h1:k≤i) (h2:i<n):bey i=false:=by
 cases hb:bey i with
 | false=>rfl
 | true=>rw [eW k i h1 h2 hb] at hk;exact nomatch hk
structure BI {β:Type} (bey:Nat→Bool) (n x:Nat) (c:Option β×Nat×Nat):Prop where
 no:c.1=none
 le:c.2.1≤c.2.2
 hi:c.2.2≤n
 lo:∀ i,i<c.2.1→bey i=true
 up:∀ i,c.2.2≤i→i<n→bey i=false
 t:c.2.2+x≤n+c.2.1
structure BQ {β:Type} (bey:Nat→Bool) (n:Nat) (c:Option β×Nat×Nat):Prop where
 no:c.1=none
 eq:c.2.2≤c.2.1
 hi:c.2.2≤n
 lo:∀ i,i<c.2.1→bey i=true
 up:∀ i,c.2.2≤i→i<n→bey i=false
theorem Cf {lo hi:Nat} (h:¬ lo ≥ hi):lo+(hi - lo) / 2<hi:=Nat.add_lt_of_lt_sub' (Nat.div_lt_self (Nat.sub_pos_of_lt (Nat.not_le.mp h)) (Nat.le_refl 2))
theorem gP {c:GS} {k:Nat→Nat→StateT SortSt Sem (Option Nat)} (h:c.1=none):lT c k=k c.2.1 c.2.2:=by
 unfold lT;rw [h]
section
variable {left:Bool} {fg:Keyed} {arr:Array Keyed} {base n hint:Nat} {st:SortSt} {bey:Nat→Bool} {Q:Option Nat→SortSt→Prop}
theorem Bc (hB:GR prog w A E s left fg arr base n st bey) (eW:∀ i j,i≤j→j<n→bey j=true→bey i=true) {x:Nat} {c:GS} (I:BI bey n x c) {P:ForInStep GS→SortSt→Prop} (hd:∀ c,BQ bey n c→P (.done c) st) (hy:∀ c,BI bey n (x+1) c→P (.yield c) st) :
  wpS (model prog w) A E s (zp left fg arr base x c) P st:=by
 unfold zp
 by_cases jk:c.2.1 ≥ c.2.2
 ·exact ca jk (wpS_pure (hd _ ⟨rfl,jk,I.hi,I.lo,I.up⟩))
 ·have hm:=Cf jk
  have hn:=Nat.lt_of_lt_of_le hm I.hi
  refine bM jk (wpS_bind (hB _ hn _ ?_))
  have GG:c.2.1≤c.2.1+(c.2.2 - c.2.1) / 2:=Nat.le_add_right _ _
  cases hb:bey (c.2.1+(c.2.2 - c.2.1) / 2) with
  | true=>exact ca rfl (wpS_pure (hy _ ⟨rfl,hm,I.hi,fun i hi=>eW i _ (Nat.le_of_lt_succ hi) hn hb,I.up,Nat.succ_le_succ (Nat.le_trans I.t (Nat.add_le_add_left GG n))⟩))
  | false=>exact bM Bool.false_ne_true (wpS_pure (hy _ ⟨rfl,GG,Nat.le_of_lt hn,I.lo,fun i h6 h7=>jN eW hb h6 h7,Nat.le_trans (Nat.add_lt_add_right hm x) I.t⟩))
theorem wc (hB:GR prog w A E s left fg arr base n st bey) (eW:∀ i j,i≤j→j<n→bey j=true→bey i=true) (h:∀ k,k≤n→(∀ i,i<k→bey i=true)→(∀ i,k≤i→i<n→bey i=false)→Q (some k) st) {lo hi:Nat} (h1:lo≤hi) (h2:hi≤n) (h3:∀ i,i<lo→bey i=true) (h4:∀ i,hi≤i→i<n→bey i=false) :
  wpS (model prog w) A E s (yP left fg arr base n lo hi) Q st:=by
 refine wpS_bind (wpS_forRange (I:=fun x c st'=>st'=st∧BI bey n x c) (fun x c st' _ _ q=>?_) (fun c st' q=>?_) ⟨rfl,rfl,h1,h2,h3,h4,Nat.le_trans h2 (Nat.le_add_right _ _)⟩)
 ·rw [q.1]
  exact Bc hB eW q.2 (fun c I=>by
   show wpS _ _ _ _ (lT c fun _ h=>pure (some h)) Q st
   rw [gP I.no]
   exact wpS_pure (h _ I.hi (fun i hi=>I.lo i (Nat.lt_of_lt_of_le hi I.eq)) I.up)) fun c I=>⟨rfl,I⟩
 ·have I:=q.2
  rw [gP I.no,q.1]
  have t:=I.t
  have e:max 0 n=n:=Nat.max_eq_right (Nat.zero_le _)
  rw [e,Nat.add_comm] at t
  exact wpS_pure (h _ I.hi (fun i hi=>I.lo i (Nat.lt_of_lt_of_le hi (Nat.le_of_add_le_add_left t))) I.up)
structure UI (bey:Nat→Bool) (n hint x:Nat) (c:GS):Prop where
 no:c.1=none
 lt:c.2.1<c.2.2
 t:x<c.2.2
 ln:hint+c.2.1<n
 b:bey (hint+c.2.1)=true
structure DI (bey:Nat→Bool) (hint x:Nat) (c:GS):Prop where
 no:c.1=none
 lt:c.2.1<c.2.2
 t:x<c.2.2
 ln:c.2.1≤hint
 b:bey (hint - c.2.1)=false
theorem MB (n:Nat):n<2 * n+1:=Nat.lt_succ_of_le (Nat.le_mul_of_pos_left n Nat.two_pos)
theorem Ho {x n:Nat} (h:x<n):x+1<2 * n+1:=Nat.succ_lt_succ (Nat.lt_of_lt_of_le h (Nat.le_mul_of_pos_left n Nat.two_pos))
theorem pe {n hint o:Nat} (hh:hint<n) (h:n - hint≤o):hint+min o (n - hint)=n:=by rw [Nat.min_eq_right h,Nat.add_sub_cancel' (Nat.le_of_lt hh)]
theorem uH {n hint o i:Nat} (hh:hint<n) (h6:hint+min o (n - hint)≤i) (h7:i<n):hint+o≤i:=by
 refine Or.elim (Nat.le_total o (n - hint)) (fun q=>?_) fun q=>?_
 ·rw [Nat.min_eq_left q] at h6;exact h6
 ·rw [pe hh q] at h6;exact absurd h7 (Nat.not_lt.mpr h6)
theorem qI (hB:GR prog w A E s left fg arr base n st bey) (hh:hint<n) (eW:∀ i j,i≤j→j<n→bey j=true→bey i=true) (h:∀ k,k≤n→(∀ i,i<k→bey i=true)→(∀ i,k≤i→i<n→bey i=false)→Q (some k) st) {x:Nat} {c:GS} (I:UI bey n hint x c) (h5:c.2.2 ≥ n - hint∨bey (hint+c.2.2)=false) :
  wpS (model prog w) A E s (lT c fun l o=>yP left fg arr base n (hint+l+1) (hint+min o (n - hint))) Q st:=by
 rw [gP I.no]
 refine wc hB eW h (Nat.add_le_add_left (Nat.le_min.mpr ⟨I.lt,Nat.le_sub_of_add_le' I.ln⟩) hint) (Nat.le_trans (Nat.add_le_add_left (Nat.min_le_right _ _) _) (Nat.le_of_eq (Nat.add_sub_cancel' (Nat.le_of_lt hh)))) (fun i hi=>eW i _ (Nat.le_of_lt_succ hi) I.ln I.b) fun i h6 h7=>?_
 refine Or.elim h5 (fun h5=>?_) fun h5=>jN eW h5 (uH hh h6 h7) h7
 rw [pe hh h5] at h6
 exact absurd h7 (Nat.not_lt.mpr h6)
theorem lk (hB:GR prog w A E s left fg arr base n st bey) (hh:hint<n) (eW:∀ i j,i≤j→j<n→bey j=true→bey i=true) (h:∀ k,k≤n→(∀ i,i<k→bey i=true)→(∀ i,k≤i→i<n→bey i=false)→Q (some k) st) {x:Nat} {c:GS} (I:DI bey hint x c) (h5:c.2.2 ≥ hint+1∨bey (hint - c.2.2)=true) :
  wpS (model prog w) A E s (lT c fun l o=>yP left fg arr base n (hint+1 - min o (hint+1)) (hint - l)) Q st:=by
 rw [gP I.no]
 have OW:=Nat.lt_of_le_of_lt (Nat.sub_le hint c.2.1) hh
 refine wc hB eW h ?_ (Nat.le_of_lt OW) (fun i hi=>?_) fun i h6 h7=>jN eW I.b h6 h7
 ·rw [←Nat.succ_sub_succ hint c.2.1]
  exact Nat.sub_le_sub_left (Nat.le_min.mpr ⟨I.lt,Nat.succ_le_succ I.ln⟩) _
 ·refine Or.elim h5 (fun h5=>?_) fun h5=>eW i _ ?_ (Nat.lt_of_le_of_lt (Nat.sub_le _ _) hh) h5
  ·rw [Nat.min_eq_right h5,Nat.sub_self] at hi
   exact absurd hi (Nat.not_lt_zero _)
  ·rw [Nat.min_comm,←Nat.sub_eq_sub_min] at hi
   exact Nat.le_sub_of_add_le (Nat.le_of_lt_succ (Nat.add_lt_of_lt_sub hi))
theorem uM (hB:GR prog w A E s left fg arr base n st bey) (hh:hint<n)
  (eW:∀ i j,i≤j→j<n→bey j=true→bey i=true)
  (h:∀ k,k≤n→(∀ i,i<k→bey i=true)→(∀ i,k≤i→i<n→bey i=false)→Q (some k) st) :
  wpS (model prog w) A E s (dM left fg arr base n hint) Q st:=by
 rw [tQ]
 refine wpS_bind (hB hint hh _ ?_)
 have e:max 0 n=n:=Nat.max_eq_right (Nat.zero_le _)
 cases qb:bey hint with
 | true =>
  refine ca rfl (wpS_bind (wpS_forRange (I:=fun x c st'=>st'=st∧UI bey n hint x c) (fun x c st' _ hx q=>?_) (fun c st' q=>?_) ⟨rfl,rfl,Nat.one_pos,Nat.one_pos,hh,qb⟩))
  ·rw [q.1]
   have I:=q.2
   unfold Nq
   by_cases jk:c.2.2 ≥ n - hint
   ·exact ca jk (wpS_pure (qI hB hh eW h (c:=(none,c.2.1,c.2.2)) ⟨rfl,I.lt,I.t,I.ln,I.b⟩ (.inl jk)))
   ·have bQ:hint+c.2.2<n:=Nat.add_lt_of_lt_sub' (Nat.not_le.mp jk)
    refine bM jk (wpS_bind (hB _ bQ _ ?_))
    cases hb:bey (hint+c.2.2) with
    | true=>exact bM Bool.false_ne_true (wpS_pure ⟨rfl,rfl,MB _,Ho I.t,bQ,hb⟩)
    | false=>exact ca rfl (wpS_pure (qI hB hh eW h (c:=(none,c.2.1,c.2.2)) ⟨rfl,I.lt,I.t,I.ln,I.b⟩ (.inr hb)))
  ·rw [q.1]
   have t:=q.2.t
   rw [e] at t
   exact qI hB hh eW h q.2 (.inl (Nat.le_trans (Nat.sub_le _ _) (Nat.le_of_lt t)))
 | false =>
  refine bM Bool.false_ne_true (wpS_bind (wpS_forRange (I:=fun x c st'=>st'=st∧DI bey hint x c) (fun x c st' _ hx q=>?_) (fun c st' q=>?_) ⟨rfl,rfl,Nat.one_pos,Nat.one_pos,Nat.zero_le _,qb⟩))
  ·rw [q.1]
   have I:=q.2
   unfold DV
   by_cases jk:c.2.2 ≥ hint+1
   ·exact ca jk (wpS_pure (lk hB hh eW h (c:=(none,c.2.1,c.2.2)) ⟨rfl,I.lt,I.t,I.ln,I.b⟩ (.inl jk)))
   ·refine bM jk (wpS_bind (hB _ (Nat.lt_of_le_of_lt (Nat.sub_le _ _) hh) _ ?_))
    cases hb:bey (hint - c.2.2) with
    | true=>exact ca rfl (wpS_pure (lk hB hh eW h (c:=(none,c.2.1,c.2.2)) ⟨rfl,I.lt,I.t,I.ln,I.b⟩ (.inr hb)))
    | false=>exact bM Bool.false_ne_true (wpS_pure ⟨rfl,rfl,MB _,Ho I.t,Nat.le_of_lt_succ (Nat.not_le.mp jk),hb⟩)
  ·rw [q.1]
   have t:=q.2.t
   rw [e] at t
   exact lk hB hh eW h q.2 (.inl (Nat.lt_trans hh t))
end
end
section
variable {α:Type} {r:α→α→Bool} {la lb o ra rb p:List α}
noncomputable def jb (r:α→α→Bool) (l:List α):Prop:=l.Pairwise fun x y=>r x y=true
noncomputable def s7 (r:α→α→Bool) (l m:List α):Prop:=∀ x∈l,∀ y∈m,r x y=true
theorem bU {l m:List α}:jb r (l++m)↔jb r l∧jb r m∧s7 r l m:=List.pairwise_append
structure Mg (r:α→α→Bool) (la lb o ra rb:List α):Prop where
 sa:jb r (o++ra)
 sb:jb r (o++rb)
 pm:(o++(ra++rb)).Perm (la++lb)
structure dR (r:α→α→Bool) (la lb o:List α):Prop where
 so:jb r o
 pm:o.Perm (la++lb)
theorem Mg.swap (h:Mg r la lb o ra rb):Mg r lb la o rb ra:=⟨h.sb,h.sa,(List.perm_append_comm.append_left o).trans (h.pm.trans List.perm_append_comm)⟩
theorem dR.swap (h:dR r la lb o):dR r lb la o:=⟨h.so,h.pm.trans List.perm_append_comm⟩
theorem Mg.addA (h:Mg r la lb o (p++ra) rb) (hk:s7 r p rb):Mg r la lb (o++p) ra rb:=by
 have q:=bU.mp h.sa
 have q':=bU.mp h.sb
 refine ⟨by rw [List.append_assoc];exact h.sa,bU.mpr ⟨bU.mpr ⟨q.1,(bU.mp q.2.1).1,fun x hx y hy=>q.2.2 x hx y (List.mem_append_left _ hy)⟩,q'.2.1,fun x hx y hy=>?_⟩,?_⟩
 ·exact Or.elim (List.mem_append.mp hx) (fun hx=>q'.2.2 x hx y hy) fun hx=>hk x hx y hy
 ·have:=h.pm
  rw [List.append_assoc] at this ⊢
  exact this
theorem Mg.addB (h:Mg r la lb o ra (p++rb)) (hk:s7 r p ra):Mg r la lb (o++p) ra rb:=(h.swap.addA hk).swap
theorem Mg.endA (h:Mg r la lb o ra []):dR r la lb (o++ra):=⟨h.sa,by have:=h.pm;rw [List.append_nil] at this;exact this⟩
theorem Mg.endB (h:Mg r la lb o [] rb):dR r la lb (o++rb):=h.swap.endA.swap
theorem Mg.endBA (h:Mg r la lb o ra rb) (hk:s7 r rb ra):dR r la lb (o++(rb++ra)):=by
 have:=h
 rw [←List.append_nil rb] at this
 rw [←List.append_assoc]
 exact (this.addB hk).endA
theorem Mg.srtA (h:Mg r la lb o ra rb):jb r ra:=(bU.mp h.sa).2.1
theorem Mg.srtB (h:Mg r la lb o ra rb):jb r rb:=(bU.mp h.sb).2.1
noncomputable def Bk (r:α→α→Bool):α→α→Bool:=fun x y=>r y x
theorem v7 {l:List α} (h:jb r l):jb (Bk r) l.reverse:=List.pairwise_reverse.mpr h
theorem dR.rev (h:dR (Bk r) la.reverse lb.reverse o):dR r la lb o.reverse :=
 ⟨List.pairwise_reverse.mpr h.so,(List.reverse_perm o).trans (h.pm.trans ((List.reverse_perm la).append (List.reverse_perm lb)))⟩
theorem Gk {x:α} {l:List α} (h:jb r (x::l)):∀ y∈l,r x y=true:=(List.pairwise_cons.mp h).1
theorem yN (tr:∀ x y z,r x y=true→r y z=true→r x z=true) {y:α} {l:List α} (s:jb r (y::l)) (h:∀ x∈p,r x y=true):s7 r p (y::l):=fun x hx z hz =>
 Or.elim (List.mem_cons.mp hz) (fun e=>e ▸ h x hx) fun hz=>tr _ _ _ (h x hx) (Gk s z hz)
end
section
variable {prog:Program} {w:World} {A:Around} {E:Value→Shared→Prop} {s:Shared} {r:Keyed→Keyed→Bool} {kd:SortKind} {st:SortSt}
theorem gA {arr:Array Keyed} {j:Nat} {x:Keyed} {Q:Keyed→SortSt→Prop} (he:arr.toList[j]? = some x) (h:Q x st):wpS (model prog w) A E s (elem' arr j) Q st:=by
 rw [elem'_eq,←Array.getElem?_toList,he]
 exact wpS_pure h
theorem we {left:Bool} {fg:Keyed} {arr:Array Keyed} {base hint:Nat} {X:List Keyed} {f:Keyed→Bool} {Q:Option Nat→SortSt→Prop} (ha:∀ i (hi:i<X.length),arr.toList[base+i]? = some X[i])
  (hc:∀ x∈X,∀ P:Option Bool→SortSt→Prop,P (some (f x)) st→wpS (model prog w) A E s (if left=true then lt' x fg else lt' fg x>>=fun z=>pure (z.map fun b=>!b)) P st)
  (eW:X.Pairwise fun x y=>f y=true→f x=true) (hh:hint<X.length) (h:∀ k,k≤X.length→(∀ x∈X.take k,f x=true)→(∀ x∈X.drop k,f x=false)→Q (some k) st) :
  wpS (model prog w) A E s (dM left fg arr base X.length hint) Q st:=by
 have e:∀ i (hi:i<X.length),(X[i]?).elim false f=f X[i]:=fun i hi=>by rw [List.getElem?_eq_getElem hi];rfl
 refine uM (bey:=fun i=>(X[i]?).elim false f) (fun i hi P hP=>?_) hh (fun i j ov hj hb=>?_) fun k hk h1 h2=>h k hk (fun x hx=>?_) fun x hx=>?_
 ·exact wpS_bind (gA (ha i hi) (hc _ (List.getElem_mem hi) _ (by rw [←e i hi];exact hP)))
 ·refine Or.elim (Nat.lt_or_eq_of_le ov) (fun bQ=>?_) fun q=>q ▸ hb
  have hi:=Nat.lt_trans bQ hj
  rw [e j hj] at hb
  rw [e i hi]
  exact List.pairwise_iff_getElem.mp eW i j hi hj bQ hb
 ·refine Exists.elim (List.mem_iff_getElem.mp hx) fun i q=>Exists.elim q fun hi q=>?_
  have jA:=Nat.lt_of_lt_of_le hi (Nat.le_trans (Nat.le_of_eq (List.length_take ..)) (Nat.min_le_left _ _))
  rw [←q,List.getElem_take,←e i (Nat.lt_of_lt_of_le jA hk)]
  exact h1 i jA
 ·refine Exists.elim (List.mem_iff_getElem.mp hx) fun i q=>Exists.elim q fun hi q=>?_
  have jA:k+i<X.length:=Nat.add_lt_of_lt_sub' (Nat.lt_of_lt_of_le hi (Nat.le_of_eq (List.length_drop ..)))
  rw [←q,List.getElem_drop,←e _ jA]
  exact h2 _ (Nat.le_add_right _ _) jA
structure MC (prog:Program) (w:World) (A:Around) (E:Value→Shared→Prop) (s:Shared) (r:Keyed→Keyed→Bool) (kd:SortKind) (X Y:List Keyed):Prop where
 cmp:∀ x∈X,∀ y∈Y,∀ (st:SortSt) (Q:Option Bool→SortSt→Prop),kindOf st=kd→Q (some (r y x)) st→wpS (model prog w) A E s (lt' y x) Q st
 trans:∀ x y z,r x y=true→r y z=true→r x z=true
 asym:∀ x y,r x y=true→r y x=false
 tot:∀ x∈X,∀ y∈Y,r y x=false→r x y=true
 sX:jb r X
 sY:jb r Y
theorem MC.gX {X Y X':List Keyed} (M:MC prog w A E s r kd X Y) (hX:∀ x∈X',x∈X) (sX:jb r X') {arr:Array Keyed} {base hint:Nat} {n:Nat} (hn:X'.length=n) (ha:∀ i (hi:i<X'.length),arr.toList[base+i]? = some X'[i]) {y:Keyed} (hy:y∈Y) (hh:hint<n) (hk:kindOf st=kd) {Q:Option Nat→SortSt→Prop}
  (h:∀ k,k≤n→(∀ x∈X'.take k,r x y=true)→(∀ x∈X'.drop k,r y x=true)→Q (some k) st):wpS (model prog w) A E s (dM false y arr base n hint) Q st:=by
 subst hn
 refine we (f:=fun x=>!(r y x)) ha (fun x hx P hP=>bM Bool.false_ne_true (wpS_bind (M.cmp x (hX x hx) y hy _ _ hk (wpS_pure hP)))) (List.Pairwise.imp_of_mem (fun {x x'} hx FO hr hb=>?_) sX) hh fun k hk h1 h2=>h k hk (fun x hx=>?_) fun x hx=>?_
 ·have hb':r y x'=false:=(Bool.not_eq_true' _).mp hb
  rw [M.asym _ _ (M.trans _ _ _ hr (M.tot x' (hX x' FO) y hy hb'))];rfl
 ·exact M.tot x (hX x (List.mem_of_mem_take hx)) y hy ((Bool.not_eq_true' _).mp (h1 x hx))
 ·exact (Bool.not_eq_false' _).mp (h2 x hx)
theorem MC.gY {X Y Y':List Keyed} (M:MC prog w A E s r kd X Y) (hY:∀ y∈Y',y∈Y) (sY:jb r Y') {arr:Array Keyed} {base hint:Nat} {n:Nat} (hn:Y'.length=n) (ha:∀ i (hi:i<Y'.length),arr.toList[base+i]? = some Y'[i]) {x:Keyed} (hx:x∈X) (hh:hint<n) (hk:kindOf st=kd) {Q:Option Nat→SortSt→Prop}
  (h:∀ k,k≤n→(∀ y∈Y'.take k,r y x=true)→(∀ y∈Y'.drop k,r x y=true)→Q (some k) st):wpS (model prog w) A E s (dM true x arr base n hint) Q st:=by
 subst hn
 exact we (f:=fun y=>r y x) ha (fun y hy P hP=>ca rfl (M.cmp x hx y (hY y hy) _ _ hk hP)) (List.Pairwise.imp (fun {y y'} hr hb=>M.trans _ _ _ hr hb) sY) hh fun k hk h1 h2=>h k hk h1 fun y hy=>M.tot x hx y (hY y (List.mem_of_mem_drop hy)) (h2 y hy)
end
noncomputable def dp:Nat→StateT SortSt Sem Unit:=sortPriv% PySem.Builtin.setMinGallop
noncomputable def nF:Array Keyed→Array Keyed→StateT SortSt Sem (Array Keyed):=sortPriv% PySem.Builtin.mergeLo
theorem da (g:Nat):dp g=modify (fun s=>SortSt.mk' (kindOf s) (arrOf s) (pendingOf s) g (failedOf s)):=rfl
noncomputable def eU (a b bw:Array Keyed) (ia ib:Nat):Array Keyed:=bw++a.extract ia a.size++b.extract ib b.size
noncomputable def kP (a b bw:Array Keyed) (ia ib:Nat):Array Keyed:=bw++b.extract ib b.size++a.extract ia a.size
noncomputable abbrev LS:Type:=Option (Array Keyed)×Array Keyed×Nat×Nat×Nat×Nat×Nat
noncomputable def gD (a b bw:Array Keyed) (ia ib mg ac bc:Nat):StateT SortSt Sem (ForInStep LS) :=
 elem' a ia>>=fun x =>
  if (ia+1+1==a.size)=true then pure (.done (some (kP a b (bw.push x) (ia+1) ib),bw.push x,ia+1,ib,mg,ac,bc))
  else if (decide (ac<7)&&decide (bc<7))=true then pure (.done (none,bw.push x,ia+1,ib,mg,ac,bc))
  else pure (.yield (none,bw.push x,ia+1,ib,mg,ac,bc))
noncomputable def gC (a b bw:Array Keyed) (ia ib mg ac bc:Nat):StateT SortSt Sem (ForInStep LS) :=
 elem' b ib>>=fun x =>
  if (ib+1==b.size)=true then pure (.done (some (eU a b (bw.push x) ia (ib+1)),bw.push x,ia,ib+1,mg,ac,bc))
  else elem' a ia>>=fun y=>dM true y b (ib+1) (b.size - (ib+1)) 0>>=fun z=>match z with
   | some k=>if k > 0 then (if (ib+1+k==b.size)=true then pure (.done (some (eU a b (bw.push x++b.extract (ib+1) (ib+1+k)) ia (ib+1+k)),bw.push x++b.extract (ib+1) (ib+1+k),ia,ib+1+k,mg,ac,k))
     else gD a b (bw.push x++b.extract (ib+1) (ib+1+k)) ia (ib+1+k) mg ac k)
    else gD a b (bw.push x) ia (ib+1) mg ac k
   | _=>pure (.done (some (eU a b (bw.push x) ia (ib+1)),bw.push x,ia,ib+1,mg,ac,bc))
noncomputable def gB (a b bw:Array Keyed) (ia ib mg ac bc:Nat):StateT SortSt Sem (ForInStep LS) :=
 dp mg>>=fun _=>elem' b ib>>=fun x=>dM false x a ia (a.size - ia) 0>>=fun z=>match z with
 | some k=>if k > 0 then (if (ia+k+1==a.size)=true then pure (.done (some (kP a b (bw++a.extract ia (ia+k)) (ia+k) ib),bw++a.extract ia (ia+k),ia+k,ib,mg,k,bc))
   else if (ia+k==a.size)=true then pure (.done (some (eU a b (bw++a.extract ia (ia+k)) (ia+k) ib),bw++a.extract ia (ia+k),ia+k,ib,mg,k,bc))
   else gC a b (bw++a.extract ia (ia+k)) (ia+k) ib mg k bc)
  else gC a b bw ia ib mg k bc
 | _=>pure (.done (some (eU a b bw ia ib),bw,ia,ib,mg,ac,bc))
noncomputable abbrev IS:Type:=Option (Array Keyed)×Array Keyed×Nat×Nat×Nat×Nat
noncomputable def Er (a b:Array Keyed) (mg:Nat) (_:Nat) (c:IS):StateT SortSt Sem (ForInStep IS) :=
 elem' b c.2.2.2.1>>=fun y=>elem' a c.2.2.1>>=fun x=>lt' y x>>=fun z=>match z with
 | some t=>if t=true then elem' b c.2.2.2.1>>=fun v =>
    if (c.2.2.2.1+1==b.size)=true then pure (.done (some (eU a b (c.2.1.push v) c.2.2.1 (c.2.2.2.1+1)),c.2.1.push v,c.2.2.1,c.2.2.2.1+1,0,c.2.2.2.2.2+1))
    else if c.2.2.2.2.2+1 ≥ mg then pure (.done (none,c.2.1.push v,c.2.2.1,c.2.2.2.1+1,0,c.2.2.2.2.2+1)) else pure (.yield (none,c.2.1.push v,c.2.2.1,c.2.2.2.1+1,0,c.2.2.2.2.2+1))
   else elem' a c.2.2.1>>=fun v =>
    if (c.2.2.1+1+1==a.size)=true then pure (.done (some (kP a b (c.2.1.push v) (c.2.2.1+1) c.2.2.2.1),c.2.1.push v,c.2.2.1+1,c.2.2.2.1,c.2.2.2.2.1+1,0))
    else if c.2.2.2.2.1+1 ≥ mg then pure (.done (none,c.2.1.push v,c.2.2.1+1,c.2.2.2.1,c.2.2.2.2.1+1,0)) else pure (.yield (none,c.2.1.push v,c.2.2.1+1,c.2.2.2.1,c.2.2.2.2.1+1,0))
 | _=>pure (.done (some (eU a b c.2.1 c.2.2.1 c.2.2.2.1),c.2.1,c.2.2.1,c.2.2.2.1,c.2.2.2.2.1,c.2.2.2.2.2))
noncomputable def Hx (a b:Array Keyed) (_:Nat) (c:LS):StateT SortSt Sem (ForInStep LS) :=
 if c.2.2.2.2.1 > 1 then gB a b c.2.1 c.2.2.1 c.2.2.2.1 (c.2.2.2.2.1 - 1) c.2.2.2.2.2.1 c.2.2.2.2.2.2 else gB a b c.2.1 c.2.2.1 c.2.2.2.1 c.2.2.2.2.1 c.2.2.2.2.2.1 c.2.2.2.2.2.2
noncomputable abbrev OS:Type:=Option (Array Keyed)×Array Keyed×Nat×Nat×Nat
noncomputable def Et (a b:Array Keyed) (_:Nat) (c:OS):StateT SortSt Sem (ForInStep OS) :=
 forIn [0:a.size+b.size] ((none,c.2.1,c.2.2.1,c.2.2.2.1,0,0):IS) (Er a b c.2.2.2.2)>>=fun d=>match d.1 with
 | some q=>pure (.done (some q,d.2.1,d.2.2.1,d.2.2.2.1,c.2.2.2.2))
 | none=>(liftM (rule "list.sort.gallop"):StateT SortSt Sem Unit)>>=fun _=>forIn [0:a.size+b.size] ((none,d.2.1,d.2.2.1,d.2.2.2.1,c.2.2.2.2+1,d.2.2.2.2.1,d.2.2.2.2.2):LS) (Hx a b)>>=fun f=>match f.1 with
  | some q=>pure (.done (some q,f.2.1,f.2.2.1,f.2.2.2.1,f.2.2.2.2.1))
  | none=>dp (f.2.2.2.2.1+1)>>=fun _=>pure (.yield (none,f.2.1,f.2.2.1,f.2.2.2.1,f.2.2.2.2.1+1))
theorem r3 (a b:Array Keyed):nF a b =
  ((liftM (rule "list.sort.merge-lo"):StateT SortSt Sem Unit)>>=fun _=>elem' b 0>>=fun x =>
   if (1==b.size)=true then pure (eU a b #[x] 0 1) else if (0+1==a.size)=true then pure (kP a b #[x] 0 1)
   else get>>=fun s=>forIn [0:a.size+b.size] ((none,#[x],0,1,gallopOf s):OS) (Et a b)>>=fun c=>match c.1 with
    | some q=>pure q
    | none=>unsupported "internal:list.sort.merge-bound"):=by kernel_rfl
structure bC (st st':SortSt):Prop where
 k:kindOf st'=kindOf st
 a:arrOf st'=arrOf st
 p:pendingOf st'=pendingOf st
 f:failedOf st'=failedOf st
theorem bC.refl (st:SortSt):bC st st:=⟨rfl,rfl,rfl,rfl⟩
theorem bC.trans {a b c:SortSt} (x:bC a b) (y:bC b c):bC a c:=⟨y.k.trans x.k,y.a.trans x.a,y.p.trans x.p,y.f.trans x.f⟩
section
variable {M:Model} {A:Around} {E:Value→Shared→Prop} {s:Shared} {σ α:Type} {m n:StateT σ Sem α} {Q:α→σ→Prop} {st:σ}
theorem b0 {c:Prop} [Decidable c] (hT:c→wpS M A E s m Q st) (hF:¬ c→wpS M A E s n Q st):wpS M A E s (if c then m else n) Q st:=by
 by_cases h:c
 ·exact ca h (hT h)
 ·exact bM h (hF h)
theorem bL {i j:Nat} (hT:i=j→wpS M A E s m Q st) (hF:i≠j→wpS M A E s n Q st):wpS M A E s (if (i==j)=true then m else n) Q st :=
 b0 (fun h=>hT (beq_iff_eq.mp h)) fun h=>hF fun e=>h (beq_iff_eq.mpr e)
end
section
variable {r:Keyed→Keyed→Bool} {la lb rb:List Keyed} {a b bw:Array Keyed} {ia ib k:Nat}
theorem vc (hi:ia<a.size):a.toList.drop ia=a[ia]::a.toList.drop (ia+1):=List.drop_eq_getElem_cons hi
theorem md (hi:ia<a.size):a[ia]∈a.toList:=Array.getElem_mem_toList hi
theorem F1 (a:Array Keyed) (i:Nat):(a.toList.drop i).length=a.size - i:=List.length_drop ..
theorem uW (a:Array Keyed) (j i:Nat) (hi:i<(a.toList.drop j).length):a.toList[j+i]? = some (a.toList.drop j)[i]:=by
 rw [←List.getElem?_drop,List.getElem?_eq_getElem hi]
theorem rq {l:List Keyed} {n:Nat} (h:n=l.length):l.drop n=[]:=List.drop_eq_nil_of_le (Nat.le_of_eq h.symm)
theorem i9 (a:Array Keyed) (i:Nat):(a.extract i a.size).toList=a.toList.drop i:=by
 rw [Array.toList_extract,List.extract_eq_take_drop]
 exact List.take_of_length_le (Nat.le_of_eq (F1 a i))
theorem Mg.pushA (hi:ia<a.size) (h:Mg r la lb bw.toList (a.toList.drop ia) rb) (hk:∀ y∈rb,r a[ia] y=true):Mg r la lb (bw.push a[ia]).toList (a.toList.drop (ia+1)) rb:=by
 rw [vc hi] at h
 rw [Array.toList_push]
 exact h.addA (p:=[a[ia]]) fun x hx y hy=>by rw [List.mem_singleton.mp hx];exact hk y hy
theorem Mg.extA (k:Nat) (h:Mg r la lb bw.toList (a.toList.drop ia) rb) (hk:s7 r ((a.toList.drop ia).take k) rb):Mg r la lb (bw++a.extract ia (ia+k)).toList (a.toList.drop (ia+k)) rb:=by
 rw [←List.take_append_drop k (a.toList.drop ia),List.drop_drop] at h
 rw [Array.toList_append,Array.toList_extract,List.extract_eq_take_drop,Nat.add_sub_cancel_left]
 exact h.addA hk
theorem Mg.pushB (hi:ib<b.size) (h:Mg r la lb bw.toList rb (b.toList.drop ib)) (hk:∀ y∈rb,r b[ib] y=true):Mg r la lb (bw.push b[ib]).toList rb (b.toList.drop (ib+1)):=(h.swap.pushA hi hk).swap
theorem Mg.extB (k:Nat) (h:Mg r la lb bw.toList rb (b.toList.drop ib)) (hk:s7 r ((b.toList.drop ib).take k) rb):Mg r la lb (bw++b.extract ib (ib+k)).toList rb (b.toList.drop (ib+k)):=(h.swap.extA k hk).swap
theorem pH (tr:∀ x y z,r x y=true→r y z=true→r x z=true) (hi:ia<a.size) (s:jb r (a.toList.drop ia)) {p:List Keyed} (h:∀ x∈p,r x a[ia]=true):s7 r p (a.toList.drop ia):=by
 rw [vc hi] at s ⊢
 exact yN tr s h
theorem r7 (tr:∀ x y z,r x y=true→r y z=true→r x z=true) (hi:ia<a.size) (s:jb r (a.toList.drop ia)) {x:Keyed} (h:r x a[ia]=true):∀ y∈a.toList.drop ia,r x y=true:=fun y hy =>
 pH (p:=[x]) tr hi s (fun z hz=>by rw [List.mem_singleton.mp hz];exact h) x List.mem_cons_self y hy
theorem z0 (hk:k≤a.size - ia) (hi:ia≤a.size):ia+k≤a.size:=Nat.add_le_of_le_sub' hi hk
theorem P2 {m i j k:Nat} (h:m≤i+j):m≤i+1+(j+1+k):=Nat.le_trans h (Nat.add_le_add (Nat.le_succ i) (Nat.le_trans (Nat.le_succ j) (Nat.le_add_right _ _)))
theorem P1 {m i j k:Nat} (h:m≤i+j):m≤i+k+j:=Nat.le_trans h (Nat.add_le_add_right (Nat.le_add_right i k) j)
structure Bi (r:Keyed→Keyed→Bool) (a b bw:Array Keyed) (ia ib:Nat):Prop where
 mi:Mg r a.toList b.toList bw.toList (a.toList.drop ia) (b.toList.drop ib)
 ha:ia+1<a.size
 hb:ib<b.size
noncomputable def wm (r:Keyed→Keyed→Bool) (a b:Array Keyed) (m:Nat) (q:Option (Array Keyed)) (bw:Array Keyed) (ia ib:Nat):Prop:=match q with
 | some km=>dR r a.toList b.toList km.toList
 | none=>Bi r a b bw ia ib∧m≤ia+ib
noncomputable def DE (r:Keyed→Keyed→Bool) (a b:Array Keyed):Prop:=∀ y∈b.toList,∀ x∈a.toList.drop (a.size - 1),r y x=true
theorem mB (fo:DE r a b) (h:Mg r a.toList b.toList bw.toList (a.toList.drop ia) (b.toList.drop ib)) (ha:ia+1=a.size):dR r a.toList b.toList (kP a b bw ia ib).toList:=by
 unfold kP
 rw [Array.toList_append,Array.toList_append,i9,i9,List.append_assoc]
 exact h.endBA fun y hy x hx=>fo y (List.mem_of_mem_drop hy) x (by rw [←ha];exact hx)
theorem qE (h:Mg r a.toList b.toList bw.toList (a.toList.drop ia) (b.toList.drop ib)) (hb:ib=b.size):dR r a.toList b.toList (eU a b bw ia ib).toList:=by
 have e:b.toList.drop ib=[]:=rq hb
 unfold eU
 rw [Array.toList_append,Array.toList_append,i9,i9,e,List.append_nil]
 rw [e] at h
 exact h.endA
theorem Go (h:Mg r a.toList b.toList bw.toList (a.toList.drop ia) (b.toList.drop ib)) (ha:ia=a.size):dR r a.toList b.toList (eU a b bw ia ib).toList:=by
 have e:a.toList.drop ia=[]:=rq ha
 unfold eU
 rw [Array.toList_append,Array.toList_append,i9,i9,e,List.append_nil]
 rw [e] at h
 exact h.endB
end
section
variable {prog:Program} {w:World} {A:Around} {E:Value→Shared→Prop} {s:Shared} {r:Keyed→Keyed→Bool} {kd:SortKind} {a b bw:Array Keyed} {ia ib mg ac bc m:Nat} {st:SortSt} {P:ForInStep LS→SortSt→Prop}
theorem bF {i:Nat} {Q:Keyed→SortSt→Prop} (hi:i<a.size) (h:Q a[i] st):wpS (model prog w) A E s (elem' a i) Q st:=by
 rw [elem'_eq,Array.getElem?_eq_getElem hi]
 exact wpS_pure h
theorem A8 (fo:DE r a b) (I:Bi r a b bw ia ib) (hc:∀ y∈b.toList.drop ib,r (a[ia]'(Nat.lt_of_succ_lt I.ha)) y=true) (hm:m≤ia+1+ib) (hd:∀ c:LS,wm r a b m c.1 c.2.1 c.2.2.1 c.2.2.2.1→P (.done c) st) (hy:∀ c:LS,c.1=none→wm r a b m c.1 c.2.1 c.2.2.1 c.2.2.2.1→P (.yield c) st) :
  wpS (model prog w) A E s (gD a b bw ia ib mg ac bc) P st:=by
 have l9:ia<a.size:=Nat.lt_of_succ_lt I.ha
 have h1:=I.mi.pushA l9 hc
 refine wpS_bind (bF l9 (bL (fun h2=>wpS_pure (hd _ (mB fo h1 h2))) fun h2=>?_))
 have I':Bi r a b (bw.push a[ia]) (ia+1) ib:=⟨h1,Nat.lt_of_le_of_ne I.ha h2,I.hb⟩
 exact b0 (fun _=>wpS_pure (hd _ ⟨I',hm⟩)) fun _=>wpS_pure (hy _ rfl ⟨I',hm⟩)
theorem A7 (M:MC prog w A E s r kd a.toList b.toList) (fo:DE r a b) (kM:kindOf st=kd) (I:Bi r a b bw ia ib) (hc:∀ y∈a.toList.drop ia,r (b[ib]'I.hb) y=true) (hm:m≤ia+ib) (hd:∀ c:LS,wm r a b m c.1 c.2.1 c.2.2.1 c.2.2.2.1→P (.done c) st) (hy:∀ c:LS,c.1=none→wm r a b m c.1 c.2.1 c.2.2.1 c.2.2.2.1→P (.yield c) st) :
  wpS (model prog w) A E s (gC a b bw ia ib mg ac bc) P st:=by
 have l9:ia<a.size:=Nat.lt_of_succ_lt I.ha
 have h1:=I.mi.pushB I.hb hc
 refine wpS_bind (bF I.hb (bL (fun h2=>wpS_pure (hd _ (qE h1 h2))) fun h2=>wpS_bind (bF l9 ?_)))
 have tR:ib+1<b.size:=Nat.lt_of_le_of_ne I.hb h2
 refine wpS_bind (M.gY (fun y hy=>List.mem_of_mem_drop hy) h1.srtB (F1 b (ib+1)) (uW b (ib+1)) (md l9) (Nat.sub_pos_of_lt tR) kM fun k hk g1 g2=>?_)
 refine b0 (fun _=>?_) fun lB=>?_
 ·have h3:=h1.extB k (pH M.trans l9 h1.srtA g1)
  rw [List.drop_drop] at g2
  refine bL (fun h4=>wpS_pure (hd _ (qE h3 h4))) fun h4=>A8 fo ⟨h3,I.ha,Nat.lt_of_le_of_ne (z0 hk (Nat.le_of_lt tR)) h4⟩ g2 (P2 hm) hd hy
 ·have e:k=0:=Nat.eq_zero_of_not_pos lB
  rw [e] at g2
  exact A8 fo ⟨h1,I.ha,tR⟩ g2 (l3 0xcaa182a181010ba210 rfl hm) hd hy
theorem A6 (M:MC prog w A E s r kd a.toList b.toList) (fo:DE r a b) (kM:kindOf st=kd) (I:Bi r a b bw ia ib) (hm:m≤ia+ib) (hd:∀ (c:LS) st',bC st st'→wm r a b m c.1 c.2.1 c.2.2.1 c.2.2.2.1→P (.done c) st') (hy:∀ (c:LS) st',bC st st'→c.1=none→wm r a b m c.1 c.2.1 c.2.2.1 c.2.2.2.1→P (.yield c) st') :
  wpS (model prog w) A E s (gB a b bw ia ib mg ac bc) P st:=by
 have l9:ia<a.size:=Nat.lt_of_succ_lt I.ha
 have hs:bC st (SortSt.mk' (kindOf st) (arrOf st) (pendingOf st) mg (failedOf st)):=⟨rfl,rfl,rfl,rfl⟩
 refine wpS_bind ?_
 rw [da]
 refine wpS_modify (wpS_bind (bF I.hb ?_))
 refine wpS_bind (M.gX (st:=SortSt.mk' (kindOf st) (arrOf st) (pendingOf st) mg (failedOf st)) (fun y hy=>List.mem_of_mem_drop hy) I.mi.srtA (F1 a ia) (uW a ia) (md I.hb) (Nat.sub_pos_of_lt l9) kM fun k hk g1 g2=>?_)
 refine b0 (fun _=>?_) fun lB=>?_
 ·have h3:=I.mi.extA k (pH M.trans I.hb I.mi.srtB g1)
  rw [List.drop_drop] at g2
  refine bL (fun h4=>wpS_pure (hd _ _ hs (mB fo h3 h4))) fun h4=>bL (fun h5=>wpS_pure (hd _ _ hs (Go h3 h5))) fun h5=>?_
  exact A7 M fo kM ⟨h3,Nat.lt_of_le_of_ne (Nat.lt_of_le_of_ne (z0 hk (Nat.le_of_lt l9)) h5) h4,I.hb⟩ g2 (P1 hm) (fun c=>hd c _ hs) fun c=>hy c _ hs
 ·have e:k=0:=Nat.eq_zero_of_not_pos lB
  rw [e] at g2
  exact A7 M fo kM I g2 hm (fun c=>hd c _ hs) fun c=>hy c _ hs
theorem yd (M:MC prog w A E s r kd a.toList b.toList) (fo:DE r a b) (kM:kindOf st=kd) {y:Nat} {c:IS} (I:Bi r a b c.2.1 c.2.2.1 c.2.2.2.1) (hm:m≤c.2.2.1+c.2.2.2.1) {P:ForInStep IS→SortSt→Prop} (hd:∀ c:IS,wm r a b (m+1) c.1 c.2.1 c.2.2.1 c.2.2.2.1→P (.done c) st) (hy:∀ c:IS,c.1=none→wm r a b (m+1) c.1 c.2.1 c.2.2.1 c.2.2.2.1→P (.yield c) st) :
  wpS (model prog w) A E s (Er a b mg y c) P st:=by
 have l9:c.2.2.1<a.size:=Nat.lt_of_succ_lt I.ha
 have ou:=I.hb
 refine wpS_bind (bF ou (wpS_bind (bF l9 (wpS_bind (M.cmp _ (md l9) _ (md ou) _ _ kM ?_)))))
 cases hr:r b[c.2.2.2.1] a[c.2.2.1] with
 | true =>
  have h2:=I.mi.pushB ou (r7 M.trans l9 I.mi.srtA hr)
  refine ca rfl (wpS_bind (bF ou (bL (fun h3=>wpS_pure (hd _ (qE h2 h3))) fun h3=>?_)))
  have I':Bi r a b (c.2.1.push b[c.2.2.2.1]) c.2.2.1 (c.2.2.2.1+1):=⟨h2,I.ha,Nat.lt_of_le_of_ne ou h3⟩
  exact b0 (fun _=>wpS_pure (hd _ ⟨I',Nat.succ_le_succ hm⟩)) fun _=>wpS_pure (hy _ rfl ⟨I',Nat.succ_le_succ hm⟩)
 | false =>
  have h2:=I.mi.pushA l9 (r7 M.trans ou I.mi.srtB (M.tot _ (md l9) _ (md ou) hr))
  refine bM Bool.false_ne_true (wpS_bind (bF l9 (bL (fun h3=>wpS_pure (hd _ (mB fo h2 h3))) fun h3=>?_)))
  have I':Bi r a b (c.2.1.push a[c.2.2.1]) (c.2.2.1+1) c.2.2.2.1:=⟨h2,Nat.lt_of_le_of_ne I.ha h3,ou⟩
  have D6:m+1≤c.2.2.1+1+c.2.2.2.1:=l3 0xca2a181a18010ba210 rfl hm
  exact b0 (fun _=>wpS_pure (hd _ ⟨I',D6⟩)) fun _=>wpS_pure (hy _ rfl ⟨I',D6⟩)
theorem yf (M:MC prog w A E s r kd a.toList b.toList) (fo:DE r a b) (kM:kindOf st=kd) {x:Nat} {c:OS} (I:Bi r a b c.2.1 c.2.2.1 c.2.2.2.1) (hm:m≤c.2.2.1+c.2.2.2.1) {P:ForInStep OS→SortSt→Prop} (hd:∀ q bw ia ib mg st',bC st st'→dR r a.toList b.toList (Array.toList q)→P (.done (some q,bw,ia,ib,mg)) st')
  (hy:∀ bw ia ib mg st',bC st st'→Bi r a b bw ia ib→m+1≤ia+ib→P (.yield (none,bw,ia,ib,mg)) st'):wpS (model prog w) A E s (Et a b x c) P st:=by
 refine wpS_bind (wpS_mono (wpS_forRange (I:=fun y (d:IS) st'=>st'=st∧d.1=none∧wm r a b (m+y) d.1 d.2.1 d.2.2.1 d.2.2.2.1) (Q:=fun (d:IS) st'=>st'=st∧wm r a b (m+1) d.1 d.2.1 d.2.2.1 d.2.2.2.1) (fun y d st' _ hy q=>?_) (fun d st' q=>?_) ⟨rfl,rfl,I,hm⟩) fun d st' q=>?_)
 ·rw [q.1]
  have q2:=q.2.2
  rw [q.2.1] at q2
  refine yd M fo kM q2.1 q2.2 (fun c o=>⟨rfl,?_⟩) fun c e o=>⟨rfl,e,o⟩
  rcases c with ⟨_ | km,c⟩
  ·exact ⟨o.1,Nat.le_trans (Nat.succ_le_succ (Nat.le_add_right _ _)) o.2⟩
  ·exact o
 ·have q2:=q.2.2
  rw [q.2.1] at q2
  have ha:=q2.1.ha
  have hb:=q2.1.hb
  have hz:=q2.2
  exact absurd (Nat.le_max_right 0 (a.size+b.size)) (l6 0x6c5a3111b1a18011b3210ba20a54 rfl ha hb hz)
 ·rw [q.1]
  have q2:=q.2
  rcases d with ⟨_ | km,d⟩
  ·refine wpS_bind (wpS_lift (wpAny_rule ⟨rfl,?_⟩))
   refine wpS_bind (wpS_mono (wpS_forRange (I:=fun y (f:LS) st'=>bC st st'∧f.1=none∧wm r a b (m+1) f.1 f.2.1 f.2.2.1 f.2.2.2.1) (Q:=fun (f:LS) st'=>bC st st'∧wm r a b (m+1) f.1 f.2.1 f.2.2.1 f.2.2.2.1) (fun y f st' _ hy q=>?_) (fun f st' q=>⟨q.1,q.2.2⟩) ⟨bC.refl _,rfl,q2⟩) fun f st' q=>?_)
   ·have q2:=q.2.2
    rw [q.2.1] at q2
    have hk:=q.1.k.trans kM
    exact b0 (fun _=>A6 M fo hk q2.1 q2.2 (fun c cB hs o=>⟨q.1.trans hs,o⟩) fun c cB hs e o=>⟨q.1.trans hs,e,o⟩) fun _=>A6 M fo hk q2.1 q2.2 (fun c cB hs o=>⟨q.1.trans hs,o⟩) fun c cB hs e o=>⟨q.1.trans hs,e,o⟩
   ·have q2:=q.2
    rcases f with ⟨_ | km,f⟩
    ·refine wpS_bind ?_
     rw [da]
     exact wpS_modify (wpS_pure (hy _ _ _ _ _ (q.1.trans ⟨rfl,rfl,rfl,rfl⟩) q2.1 q2.2))
    ·exact wpS_pure (hd _ _ _ _ _ _ q.1 q2)
  ·exact wpS_pure (hd _ _ _ _ _ _ (bC.refl _) q2)
theorem sZ {Q:Array Keyed→SortSt→Prop} (M:MC prog w A E s r kd a.toList b.toList) (fo:DE r a b) (GH:0<a.size) (HZ:0<b.size) (first:∀ x∈a.toList,r b[0] x=true) (kM:kindOf st=kd)
  (h:∀ km st',bC st st'→dR r a.toList b.toList km.toList→Q km st'):wpS (model prog w) A E s (nF a b) Q st:=by
 rw [r3]
 refine wpS_bind (wpS_lift (wpAny_rule ⟨rfl,wpS_bind (bF HZ ?_)⟩))
 have h0:Mg r a.toList b.toList (#[]:Array Keyed).toList (a.toList.drop 0) (b.toList.drop 0):=⟨M.sX,M.sY,List.Perm.refl _⟩
 have h1:=h0.pushB HZ first
 refine bL (fun tR=>wpS_pure (h _ _ (bC.refl _) (qE h1 tR))) fun tR=>bL (fun Fe=>wpS_pure (h _ _ (bC.refl _) (mB fo h1 Fe))) fun Fe=>wpS_bind (wpS_get ?_)
 refine wpS_bind (wpS_mono (wpS_forRange (I:=fun x (c:OS) st'=>bC st st'∧c.1=none∧wm r a b (x+1) c.1 c.2.1 c.2.2.1 c.2.2.2.1) (Q:=fun (c:OS) st'=>bC st st'∧∃ q,c.1=some q∧dR r a.toList b.toList q.toList) (fun x c st' _ hx q=>?_) (fun c st' q=>?_) ⟨bC.refl _,rfl,⟨h1,Nat.lt_of_le_of_ne GH Fe,Nat.lt_of_le_of_ne HZ tR⟩,Nat.le_refl _⟩) fun c st' q=>?_)
 ·have q2:=q.2.2
  rw [q.2.1] at q2
  exact yf M fo (q.1.k.trans kM) q2.1 q2.2 (fun km bw ia ib mg cB hs e=>⟨q.1.trans hs,_,rfl,e⟩) fun bw ia ib mg cB hs I hm=>⟨q.1.trans hs,rfl,I,hm⟩
 ·have q2:=q.2.2
  rw [q.2.1] at q2
  have ha:=q2.1.ha
  have hb:=q2.1.hb
  have hz:=q2.2
  exact absurd (Nat.le_max_right 0 (a.size+b.size)) (l5 0x6c4a3111b1a18011b3210ba20a184 rfl ha hb hz)
 ·refine Exists.elim q.2 fun km e=>?_
  rw [e.1]
  exact wpS_pure (h _ _ q.1 e.2)
end
noncomputable def nE:Array Keyed→Array Keyed→StateT SortSt Sem (Array Keyed):=sortPriv% PySem.Builtin.mergeHi
noncomputable def eT (a b bw:Array Keyed) (na nb:Nat):Array Keyed:=a.extract 0 na++b.extract 0 nb++bw.reverse
noncomputable def i5 (a b bw:Array Keyed) (na nb:Nat):Array Keyed:=b.extract 0 nb++a.extract 0 na++bw.reverse
noncomputable abbrev HS:Type:=Option (Array Keyed)×Nat×Nat×Array Keyed×Nat×Nat×Nat
noncomputable def hD (a b bw:Array Keyed) (na nb mg ac bc:Nat):StateT SortSt Sem (ForInStep HS) :=
 elem' a (na - 1)>>=fun x =>
  if (na - 1==0)=true then pure (.done (some (eT a b (bw.push x) (na - 1) nb),na - 1,nb,bw.push x,mg,ac,bc))
  else if (decide (ac<7)&&decide (bc<7))=true then pure (.done (none,na - 1,nb,bw.push x,mg,ac,bc))
  else pure (.yield (none,na - 1,nb,bw.push x,mg,ac,bc))
noncomputable def hC (a b bw:Array Keyed) (na nb mg ac bc:Nat):StateT SortSt Sem (ForInStep HS) :=
 elem' b (nb - 1)>>=fun x =>
  if (nb - 1==1)=true then pure (.done (some (i5 a b (bw.push x) na (nb - 1)),na,nb - 1,bw.push x,mg,ac,bc))
  else elem' a (na - 1)>>=fun y=>dM true y b 0 (nb - 1) (nb - 1 - 1)>>=fun z=>match z with
   | some k=>if nb - 1 - k > 0 then (if (k==1)=true then pure (.done (some (i5 a b (bw.push x++(b.extract k (nb - 1)).reverse) na k),na,k,bw.push x++(b.extract k (nb - 1)).reverse,mg,ac,nb - 1 - k))
     else if (k==0)=true then pure (.done (some (eT a b (bw.push x++(b.extract k (nb - 1)).reverse) na k),na,k,bw.push x++(b.extract k (nb - 1)).reverse,mg,ac,nb - 1 - k))
     else hD a b (bw.push x++(b.extract k (nb - 1)).reverse) na k mg ac (nb - 1 - k))
    else hD a b (bw.push x) na (nb - 1) mg ac (nb - 1 - k)
   | _=>pure (.done (some (eT a b (bw.push x) na (nb - 1)),na,nb - 1,bw.push x,mg,ac,bc))
noncomputable def hB (a b bw:Array Keyed) (na nb mg ac bc:Nat):StateT SortSt Sem (ForInStep HS) :=
 dp mg>>=fun _=>elem' b (nb - 1)>>=fun x=>dM false x a 0 na (na - 1)>>=fun z=>match z with
 | some k=>if na - k > 0 then (if (k==0)=true then pure (.done (some (eT a b (bw++(a.extract k na).reverse) k nb),k,nb,bw++(a.extract k na).reverse,mg,na - k,bc))
   else hC a b (bw++(a.extract k na).reverse) k nb mg (na - k) bc)
  else hC a b bw na nb mg (na - k) bc
 | _=>pure (.done (some (eT a b bw na nb),na,nb,bw,mg,ac,bc))
noncomputable abbrev JS:Type:=Option (Array Keyed)×Nat×Nat×Array Keyed×Nat×Nat
noncomputable def Ep (a b:Array Keyed) (mg:Nat) (_:Nat) (c:JS):StateT SortSt Sem (ForInStep JS) :=
 elem' b (c.2.2.1 - 1)>>=fun y=>elem' a (c.2.1 - 1)>>=fun x=>lt' y x>>=fun z=>match z with
 | some t=>if t=true then elem' a (c.2.1 - 1)>>=fun v =>
    if (c.2.1 - 1==0)=true then pure (.done (some (eT a b (c.2.2.2.1.push v) (c.2.1 - 1) c.2.2.1),c.2.1 - 1,c.2.2.1,c.2.2.2.1.push v,c.2.2.2.2.1+1,0))
    else if c.2.2.2.2.1+1 ≥ mg then pure (.done (none,c.2.1 - 1,c.2.2.1,c.2.2.2.1.push v,c.2.2.2.2.1+1,0)) else pure (.yield (none,c.2.1 - 1,c.2.2.1,c.2.2.2.1.push v,c.2.2.2.2.1+1,0))
   else elem' b (c.2.2.1 - 1)>>=fun v =>
    if (c.2.2.1 - 1==1)=true then pure (.done (some (i5 a b (c.2.2.2.1.push v) c.2.1 (c.2.2.1 - 1)),c.2.1,c.2.2.1 - 1,c.2.2.2.1.push v,0,c.2.2.2.2.2+1))
    else if c.2.2.2.2.2+1 ≥ mg then pure (.done (none,c.2.1,c.2.2.1 - 1,c.2.2.2.1.push v,0,c.2.2.2.2.2+1)) else pure (.yield (none,c.2.1,c.2.2.1 - 1,c.2.2.2.1.push v,0,c.2.2.2.2.2+1))
 | _=>pure (.done (some (eT a b c.2.2.2.1 c.2.1 c.2.2.1),c.2.1,c.2.2.1,c.2.2.2.1,c.2.2.2.2.1,c.2.2.2.2.2))
noncomputable def Hw (a b:Array Keyed) (_:Nat) (c:HS):StateT SortSt Sem (ForInStep HS) :=
 if c.2.2.2.2.1 > 1 then hB a b c.2.2.2.1 c.2.1 c.2.2.1 (c.2.2.2.2.1 - 1) c.2.2.2.2.2.1 c.2.2.2.2.2.2 else hB a b c.2.2.2.1 c.2.1 c.2.2.1 c.2.2.2.2.1 c.2.2.2.2.2.1 c.2.2.2.2.2.2
noncomputable abbrev QS:Type:=Option (Array Keyed)×Nat×Nat×Array Keyed×Nat
noncomputable def Es (a b:Array Keyed) (_:Nat) (c:QS):StateT SortSt Sem (ForInStep QS) :=
 forIn [0:a.size+b.size] ((none,c.2.1,c.2.2.1,c.2.2.2.1,0,0):JS) (Ep a b c.2.2.2.2)>>=fun d=>match d.1 with
 | some q=>pure (.done (some q,d.2.1,d.2.2.1,d.2.2.2.1,c.2.2.2.2))
 | none=>(liftM (rule "list.sort.gallop"):StateT SortSt Sem Unit)>>=fun _=>forIn [0:a.size+b.size] ((none,d.2.1,d.2.2.1,d.2.2.2.1,c.2.2.2.2+1,d.2.2.2.2.1,d.2.2.2.2.2):HS) (Hw a b)>>=fun f=>match f.1 with
  | some q=>pure (.done (some q,f.2.1,f.2.2.1,f.2.2.2.1,f.2.2.2.2.1))
  | none=>dp (f.2.2.2.2.1+1)>>=fun _=>pure (.yield (none,f.2.1,f.2.2.1,f.2.2.2.1,f.2.2.2.2.1+1))
theorem rZ (a b:Array Keyed):nE a b =
  ((liftM (rule "list.sort.merge-hi"):StateT SortSt Sem Unit)>>=fun _=>elem' a (a.size - 1)>>=fun x =>
   if (a.size - 1==0)=true then pure (eT a b #[x] (a.size - 1) b.size) else if (b.size==1)=true then pure (i5 a b #[x] (a.size - 1) b.size)
   else get>>=fun s=>forIn [0:a.size+b.size] ((none,a.size - 1,b.size,#[x],gallopOf s):QS) (Es a b)>>=fun c=>match c.1 with
    | some q=>pure q
    | none=>unsupported "internal:list.sort.merge-bound"):=by kernel_rfl
section
variable {r:Keyed→Keyed→Bool} {la lb rb:List Keyed} {a b bw:Array Keyed} {na nb k n:Nat}
theorem qP {n m:Nat} (h0:0<n) (hn:n≤m):n - 1<m:=Nat.lt_of_lt_of_le (Nat.sub_lt h0 Nat.one_pos) hn
theorem It (hn:n≤a.size):(a.toList.take n).length=n:=(List.length_take ..).trans (Nat.min_eq_left hn)
theorem uX (a:Array Keyed) (n i:Nat) (hi:i<(a.toList.take n).length):a.toList[0+i]? = some (a.toList.take n)[i]:=by
 rw [Nat.zero_add,List.getElem_take]
 exact List.getElem?_eq_getElem _
theorem EC (h0:0<n) (hn:n≤a.size):(a.toList.take n).reverse=(a[n - 1]'(qP h0 hn))::(a.toList.take (n - 1)).reverse:=by
 cases n with
 | zero=>exact absurd h0 (Nat.lt_irrefl _)
 | succ n =>
  rw [List.take_succ_eq_append_getElem hn,List.reverse_append]
  rfl
theorem gy (a:Array Keyed) (n:Nat):(a.extract 0 n).toList=a.toList.take n:=by
 rw [Array.toList_extract,List.extract_eq_take_drop];rfl
theorem Mg.pushHA (h0:0<na) (hn:na≤a.size) (h:Mg r la lb bw.toList (a.toList.take na).reverse rb) (hk:∀ y∈rb,r (a[na - 1]'(qP h0 hn)) y=true):Mg r la lb (bw.push (a[na - 1]'(qP h0 hn))).toList (a.toList.take (na - 1)).reverse rb:=by
 rw [EC h0 hn] at h
 rw [Array.toList_push]
 exact h.addA (p:=[a[na - 1]'(qP h0 hn)]) fun x hx y hy=>by rw [List.mem_singleton.mp hx];exact hk y hy
theorem Mg.extHA (hk:k≤na) (h:Mg r la lb bw.toList (a.toList.take na).reverse rb) (hb:∀ x∈(a.toList.take na).drop k,∀ y∈rb,r x y=true):Mg r la lb (bw++(a.extract k na).reverse).toList (a.toList.take k).reverse rb:=by
 rw [←List.take_append_drop k (a.toList.take na),List.reverse_append,List.take_take,Nat.min_eq_left hk] at h
 rw [Array.toList_append,Array.toList_reverse,Array.toList_extract,List.extract_eq_take_drop,←List.drop_take]
 exact h.addA fun x hx=>hb x (List.mem_reverse.mp hx)
theorem jO (tr:∀ x y z,r x y=true→r y z=true→r x z=true) (h0:0<n) (hn:n≤a.size) (s:jb r (a.toList.take n).reverse) {p:List Keyed} (h:∀ x∈p,r x (a[n - 1]'(qP h0 hn))=true):s7 r p (a.toList.take n).reverse:=by
 rw [EC h0 hn] at s ⊢
 exact yN tr s h
structure Bh (r:Keyed→Keyed→Bool) (a b bw:Array Keyed) (na nb:Nat):Prop where
 mi:Mg (Bk r) a.toList.reverse b.toList.reverse bw.toList (a.toList.take na).reverse (b.toList.take nb).reverse
 ha:0<na
 ha':na≤a.size
 hb:1<nb
 hb':nb≤b.size
noncomputable def kn (r:Keyed→Keyed→Bool) (a b:Array Keyed) (m:Nat) (q:Option (Array Keyed)) (na nb:Nat) (bw:Array Keyed):Prop:=match q with
 | some km=>dR r a.toList b.toList km.toList
 | none=>Bh r a b bw na nb∧m+na+nb≤a.size+b.size
noncomputable def EG (r:Keyed→Keyed→Bool) (a b:Array Keyed):Prop:=∀ y∈b.toList.take 1,∀ x∈a.toList,r y x=true
theorem qc (h:Mg (Bk r) a.toList.reverse b.toList.reverse bw.toList (a.toList.take na).reverse (b.toList.take nb).reverse) (hn:na=0):dR r a.toList b.toList (eT a b bw na nb).toList:=by
 unfold eT
 rw [hn] at h ⊢
 have q:=h.endB.rev
 rw [List.reverse_append,List.reverse_reverse] at q
 rw [Array.toList_append,Array.toList_append,gy,gy,Array.toList_reverse]
 exact q
theorem Fs (h:Mg (Bk r) a.toList.reverse b.toList.reverse bw.toList (a.toList.take na).reverse (b.toList.take nb).reverse) (hn:nb=0):dR r a.toList b.toList (eT a b bw na nb).toList:=by
 unfold eT
 rw [hn] at h ⊢
 have q:=h.endA.rev
 rw [List.reverse_append,List.reverse_reverse] at q
 rw [Array.toList_append,Array.toList_append,gy,gy,Array.toList_reverse,List.take_zero,List.append_nil]
 exact q
theorem qd (first:EG r a b) (h:Mg (Bk r) a.toList.reverse b.toList.reverse bw.toList (a.toList.take na).reverse (b.toList.take nb).reverse) (hn:nb=1):dR r a.toList b.toList (i5 a b bw na nb).toList:=by
 unfold i5
 have q:=(h.swap.endBA fun x hx y hy=>first y (by rw [hn] at hy;exact List.mem_reverse.mp hy) x (List.mem_of_mem_take (List.mem_reverse.mp hx))).swap.rev
 rw [List.reverse_append,List.reverse_append,List.reverse_reverse,List.reverse_reverse] at q
 rw [Array.toList_append,Array.toList_append,gy,gy,Array.toList_reverse]
 exact q
theorem MD {m n p q:Nat} (h0:0<n) (h:m+n+p≤q):m+1+(n - 1)+p≤q:=by
 rw [Nat.add_assoc m,Nat.add_comm 1,Nat.sub_add_cancel h0];exact h
theorem ME {m n p q:Nat} (h0:0<p) (h:m+n+p≤q):m+1+n+(p - 1)≤q:=by
 rw [Nat.add_right_comm m,Nat.add_assoc (m+n),Nat.add_comm 1,Nat.sub_add_cancel h0];exact h
theorem J7 {m n n' p p' q:Nat} (hn:n'≤n) (hp:p'≤p) (h:m+n+p≤q):m+n'+p'≤q:=Nat.le_trans (Nat.add_le_add (Nat.add_le_add_left hn m) hp) h
theorem r5 {m i j x:Nat} {C:Prop} (ha:0<i) (hz:m+max 0 x+i+j≤x):C:=by
 rw [Nat.max_eq_right (Nat.zero_le _)] at hz
 exact absurd (Nat.lt_of_lt_of_le (Nat.lt_of_lt_of_le (Nat.lt_add_of_pos_right ha) (Nat.add_le_add_right (Nat.le_add_left x m) i)) (Nat.le_trans (Nat.le_add_right _ j) hz)) (Nat.lt_irrefl _)
end
section
variable {prog:Program} {w:World} {A:Around} {E:Value→Shared→Prop} {s:Shared} {r:Keyed→Keyed→Bool} {kd:SortKind} {a b bw:Array Keyed} {na nb mg ac bc m:Nat} {st:SortSt} {P:ForInStep HS→SortSt→Prop}
theorem MC.trF {X Y:List Keyed} (M:MC prog w A E s r kd X Y) (x y z:Keyed) (h:Bk r x y=true) (h':Bk r y z=true):Bk r x z=true:=M.trans z y x h' h
theorem Bb (I:Bh r a b bw na nb) (hc:∀ x∈b.toList.take nb,r x (a[na - 1]'(qP I.ha I.ha'))=true) (hm:m+(na - 1)+nb≤a.size+b.size) (hd:∀ c:HS,kn r a b m c.1 c.2.1 c.2.2.1 c.2.2.2.1→P (.done c) st) (hy:∀ c:HS,c.1=none→kn r a b m c.1 c.2.1 c.2.2.1 c.2.2.2.1→P (.yield c) st) :
  wpS (model prog w) A E s (hD a b bw na nb mg ac bc) P st:=by
 have h1:=I.mi.pushHA I.ha I.ha' fun y hy=>hc y (List.mem_reverse.mp hy)
 refine wpS_bind (bF (qP I.ha I.ha') (bL (fun h2=>wpS_pure (hd _ (qc h1 h2))) fun h2=>?_))
 have I':Bh r a b (bw.push (a[na - 1]'(qP I.ha I.ha'))) (na - 1) nb:=⟨h1,Nat.pos_of_ne_zero h2,Nat.le_of_lt (qP I.ha I.ha'),I.hb,I.hb'⟩
 exact b0 (fun _=>wpS_pure (hd _ ⟨I',hm⟩)) fun _=>wpS_pure (hy _ rfl ⟨I',hm⟩)
theorem Ba (M:MC prog w A E s r kd a.toList b.toList) (first:EG r a b) (kM:kindOf st=kd) (I:Bh r a b bw na nb) (hc:∀ x∈a.toList.take na,r x (b[nb - 1]'(qP (Nat.lt_of_succ_lt I.hb) I.hb'))=true) (hm:m+na+nb≤a.size+b.size) (hd:∀ c:HS,kn r a b m c.1 c.2.1 c.2.2.1 c.2.2.2.1→P (.done c) st) (hy:∀ c:HS,c.1=none→kn r a b m c.1 c.2.1 c.2.2.1 c.2.2.2.1→P (.yield c) st) :
  wpS (model prog w) A E s (hC a b bw na nb mg ac bc) P st:=by
 have qb:0<nb:=Nat.lt_of_succ_lt I.hb
 have l9:=qP I.ha I.ha'
 have tR:nb - 1≤b.size:=Nat.le_of_lt (qP qb I.hb')
 have h1:=(I.mi.swap.pushHA qb I.hb' fun y hy=>hc y (List.mem_reverse.mp hy)).swap
 refine wpS_bind (bF (qP qb I.hb') (bL (fun h2=>wpS_pure (hd _ (qd first h1 h2))) fun h2=>wpS_bind (bF l9 ?_)))
 have hp:0<nb - 1:=Nat.sub_pos_of_lt I.hb
 refine wpS_bind (M.gY (fun y hy=>List.mem_of_mem_take hy) (M.sY.sublist (List.take_sublist _ _)) (It tR) (uX b _) (md l9) (Nat.sub_lt hp Nat.one_pos) kM fun k hk g1 g2=>?_)
 rw [List.take_take,Nat.min_eq_left hk] at g1
 refine b0 (fun _=>?_) fun lB=>?_
 ·have h3:=(h1.swap.extHA hk fun x hx=>jO M.trF I.ha I.ha' h1.srtA (p:=[x]) (fun z hz=>by rw [List.mem_singleton.mp hz];exact g2 x hx) x List.mem_cons_self).swap
  refine bL (fun h4=>wpS_pure (hd _ (qd first h3 h4))) fun h4=>bL (fun h5=>wpS_pure (hd _ (Fs h3 h5))) fun h5=>?_
  exact Bb ⟨h3,I.ha,I.ha',Nat.lt_of_le_of_ne (Nat.pos_of_ne_zero h5) (Ne.symm h4),Nat.le_trans hk tR⟩ g1 (J7 (Nat.sub_le _ _) (Nat.le_trans hk (Nat.sub_le _ _)) hm) hd hy
 ·have e:k=nb - 1:=Nat.le_antisymm hk (Nat.le_of_sub_eq_zero (Nat.eq_zero_of_not_pos lB))
  rw [e] at g1
  exact Bb ⟨h1,I.ha,I.ha',Nat.lt_of_le_of_ne hp (Ne.symm h2),tR⟩ g1 (J7 (Nat.sub_le _ _) (Nat.sub_le _ _) hm) hd hy
theorem A9 (M:MC prog w A E s r kd a.toList b.toList) (first:EG r a b) (kM:kindOf st=kd) (I:Bh r a b bw na nb) (hm:m+na+nb≤a.size+b.size) (hd:∀ (c:HS) st',bC st st'→kn r a b m c.1 c.2.1 c.2.2.1 c.2.2.2.1→P (.done c) st') (hy:∀ (c:HS) st',bC st st'→c.1=none→kn r a b m c.1 c.2.1 c.2.2.1 c.2.2.2.1→P (.yield c) st') :
  wpS (model prog w) A E s (hB a b bw na nb mg ac bc) P st:=by
 have qb:0<nb:=Nat.lt_of_succ_lt I.hb
 have ou:=qP qb I.hb'
 have hs:bC st (SortSt.mk' (kindOf st) (arrOf st) (pendingOf st) mg (failedOf st)):=⟨rfl,rfl,rfl,rfl⟩
 refine wpS_bind ?_
 rw [da]
 refine wpS_modify (wpS_bind (bF ou ?_))
 refine wpS_bind (M.gX (st:=SortSt.mk' (kindOf st) (arrOf st) (pendingOf st) mg (failedOf st)) (fun y hy=>List.mem_of_mem_take hy) (M.sX.sublist (List.take_sublist _ _)) (It I.ha') (uX a _) (md ou) (Nat.sub_lt I.ha Nat.one_pos) kM fun k hk g1 g2=>?_)
 rw [List.take_take,Nat.min_eq_left hk] at g1
 refine b0 (fun _=>?_) fun lB=>?_
 ·have h3:=I.mi.extHA hk fun x hx=>jO M.trF qb I.hb' I.mi.srtB (p:=[x]) (fun z hz=>by rw [List.mem_singleton.mp hz];exact g2 x hx) x List.mem_cons_self
  exact bL (fun h4=>wpS_pure (hd _ _ hs (qc h3 h4))) fun h4=>Ba M first kM ⟨h3,Nat.pos_of_ne_zero h4,Nat.le_trans hk I.ha',I.hb,I.hb'⟩ g1 (J7 hk (Nat.le_refl _) hm) (fun c=>hd c _ hs) fun c=>hy c _ hs
 ·have e:k=na:=Nat.le_antisymm hk (Nat.le_of_sub_eq_zero (Nat.eq_zero_of_not_pos lB))
  rw [e] at g1
  exact Ba M first kM I g1 hm (fun c=>hd c _ hs) fun c=>hy c _ hs
theorem yc (M:MC prog w A E s r kd a.toList b.toList) (first:EG r a b) (kM:kindOf st=kd) {y:Nat} {c:JS} (I:Bh r a b c.2.2.2.1 c.2.1 c.2.2.1) (hm:m+c.2.1+c.2.2.1≤a.size+b.size) {P:ForInStep JS→SortSt→Prop} (hd:∀ c:JS,kn r a b (m+1) c.1 c.2.1 c.2.2.1 c.2.2.2.1→P (.done c) st) (hy:∀ c:JS,c.1=none→kn r a b (m+1) c.1 c.2.1 c.2.2.1 c.2.2.2.1→P (.yield c) st) :
  wpS (model prog w) A E s (Ep a b mg y c) P st:=by
 have qb:0<c.2.2.1:=Nat.lt_of_succ_lt I.hb
 have l9:=qP I.ha I.ha'
 have ou:=qP qb I.hb'
 refine wpS_bind (bF ou (wpS_bind (bF l9 (wpS_bind (M.cmp _ (md l9) _ (md ou) _ _ kM ?_)))))
 cases hr:r b[c.2.2.1 - 1] a[c.2.1 - 1] with
 | true =>
  have h2:=I.mi.pushHA I.ha I.ha' fun x hx=>jO M.trF qb I.hb' I.mi.srtB (p:=[a[c.2.1 - 1]]) (fun z hz=>by rw [List.mem_singleton.mp hz];exact hr) _ List.mem_cons_self x hx
  refine ca rfl (wpS_bind (bF l9 (bL (fun h3=>wpS_pure (hd _ (qc h2 h3))) fun h3=>?_)))
  have I':Bh r a b (c.2.2.2.1.push a[c.2.1 - 1]) (c.2.1 - 1) c.2.2.1:=⟨h2,Nat.pos_of_ne_zero h3,Nat.le_of_lt l9,I.hb,I.hb'⟩
  exact b0 (fun _=>wpS_pure (hd _ ⟨I',MD I.ha hm⟩)) fun _=>wpS_pure (hy _ rfl ⟨I',MD I.ha hm⟩)
 | false =>
  have hr:=M.tot _ (md l9) _ (md ou) hr
  have h2:=(I.mi.swap.pushHA qb I.hb' fun x hx=>jO M.trF I.ha I.ha' I.mi.srtA (p:=[b[c.2.2.1 - 1]]) (fun z hz=>by rw [List.mem_singleton.mp hz];exact hr) _ List.mem_cons_self x hx).swap
  refine bM Bool.false_ne_true (wpS_bind (bF ou (bL (fun h3=>wpS_pure (hd _ (qd first h2 h3))) fun h3=>?_)))
  have I':Bh r a b (c.2.2.2.1.push b[c.2.2.1 - 1]) c.2.1 (c.2.2.1 - 1):=⟨h2,I.ha,I.ha',Nat.lt_of_le_of_ne (Nat.sub_pos_of_lt I.hb) (Ne.symm h3),Nat.le_of_lt ou⟩
  exact b0 (fun _=>wpS_pure (hd _ ⟨I',ME qb hm⟩)) fun _=>wpS_pure (hy _ rfl ⟨I',ME qb hm⟩)
theorem ye (M:MC prog w A E s r kd a.toList b.toList) (first:EG r a b) (kM:kindOf st=kd) {x:Nat} {c:QS} (I:Bh r a b c.2.2.2.1 c.2.1 c.2.2.1) (hm:m+c.2.1+c.2.2.1≤a.size+b.size) {P:ForInStep QS→SortSt→Prop} (hd:∀ q na nb bw mg st',bC st st'→dR r a.toList b.toList (Array.toList q)→P (.done (some q,na,nb,bw,mg)) st')
  (hy:∀ na nb bw mg st',bC st st'→Bh r a b bw na nb→m+1+na+nb≤a.size+b.size→P (.yield (none,na,nb,bw,mg)) st'):wpS (model prog w) A E s (Es a b x c) P st:=by
 refine wpS_bind (wpS_mono (wpS_forRange (I:=fun y (d:JS) st'=>st'=st∧d.1=none∧kn r a b (m+y) d.1 d.2.1 d.2.2.1 d.2.2.2.1) (Q:=fun (d:JS) st'=>st'=st∧kn r a b (m+1) d.1 d.2.1 d.2.2.1 d.2.2.2.1) (fun y d st' _ hy q=>?_) (fun d st' q=>?_) ⟨rfl,rfl,I,hm⟩) fun d st' q=>?_)
 ·rw [q.1]
  have q2:=q.2.2
  rw [q.2.1] at q2
  refine yc M first kM q2.1 q2.2 (fun c o=>⟨rfl,?_⟩) fun c e o=>⟨rfl,e,o⟩
  rcases c with ⟨_ | km,c⟩
  ·exact ⟨o.1,Nat.le_trans (Nat.add_le_add_right (Nat.add_le_add_right (Nat.succ_le_succ (Nat.le_add_right m y)) _) _) o.2⟩
  ·exact o
 ·have q2:=q.2.2
  rw [q.2.1] at q2
  exact r5 q2.1.ha q2.2
 ·rw [q.1]
  have q2:=q.2
  rcases d with ⟨_ | km,d⟩
  ·refine wpS_bind (wpS_lift (wpAny_rule ⟨rfl,?_⟩))
   refine wpS_bind (wpS_mono (wpS_forRange (I:=fun y (f:HS) st'=>bC st st'∧f.1=none∧kn r a b (m+1) f.1 f.2.1 f.2.2.1 f.2.2.2.1) (Q:=fun (f:HS) st'=>bC st st'∧kn r a b (m+1) f.1 f.2.1 f.2.2.1 f.2.2.2.1) (fun y f st' _ hy q=>?_) (fun f st' q=>⟨q.1,q.2.2⟩) ⟨bC.refl _,rfl,q2⟩) fun f st' q=>?_)
   ·have q2:=q.2.2
    rw [q.2.1] at q2
    have hk:=q.1.k.trans kM
    exact b0 (fun _=>A9 M first hk q2.1 q2.2 (fun c cB hs o=>⟨q.1.trans hs,o⟩) fun c cB hs e o=>⟨q.1.trans hs,e,o⟩) fun _=>A9 M first hk q2.1 q2.2 (fun c cB hs o=>⟨q.1.trans hs,o⟩) fun c cB hs e o=>⟨q.1.trans hs,e,o⟩
   ·have q2:=q.2
    rcases f with ⟨_ | km,f⟩
    ·refine wpS_bind ?_
     rw [da]
     exact wpS_modify (wpS_pure (hy _ _ _ _ _ (q.1.trans ⟨rfl,rfl,rfl,rfl⟩) q2.1 q2.2))
    ·exact wpS_pure (hd _ _ _ _ _ _ q.1 q2)
  ·exact wpS_pure (hd _ _ _ _ _ _ (bC.refl _) q2)
theorem sW {Q:Array Keyed→SortSt→Prop} (M:MC prog w A E s r kd a.toList b.toList) (first:EG r a b) (GH:0<a.size) (HZ:0<b.size) (fo:∀ y∈b.toList,r y (a[a.size - 1]'(qP GH (Nat.le_refl _)))=true) (kM:kindOf st=kd)
  (h:∀ km st',bC st st'→dR r a.toList b.toList km.toList→Q km st'):wpS (model prog w) A E s (nE a b) Q st:=by
 rw [rZ]
 refine wpS_bind (wpS_lift (wpAny_rule ⟨rfl,wpS_bind (bF (qP GH (Nat.le_refl _)) ?_)⟩))
 have ta:∀ a:Array Keyed,a.toList.take a.size=a.toList:=fun a=>List.take_of_length_le (Nat.le_refl _)
 have h0:Mg (Bk r) a.toList.reverse b.toList.reverse (#[]:Array Keyed).toList (a.toList.take a.size).reverse (b.toList.take b.size).reverse:=by
  rw [ta,ta]
  exact ⟨v7 M.sX,v7 M.sY,List.Perm.refl _⟩
 have h1:=h0.pushHA GH (Nat.le_refl _) fun y hy=>fo y (List.mem_of_mem_take (List.mem_reverse.mp hy))
 refine bL (fun Fe=>wpS_pure (h _ _ (bC.refl _) (qc h1 Fe))) fun Fe=>bL (fun tR=>wpS_pure (h _ _ (bC.refl _) (qd first h1 tR))) fun tR=>wpS_bind (wpS_get ?_)
 refine wpS_bind (wpS_mono (wpS_forRange (I:=fun x (c:QS) st'=>bC st st'∧c.1=none∧kn r a b (1+x) c.1 c.2.1 c.2.2.1 c.2.2.2.1) (Q:=fun (c:QS) st'=>bC st st'∧∃ q,c.1=some q∧dR r a.toList b.toList q.toList) (fun x c st' _ hx q=>?_) (fun c st' q=>?_) ⟨bC.refl _,rfl,⟨h1,Nat.pos_of_ne_zero Fe,Nat.sub_le _ _,Nat.lt_of_le_of_ne HZ (Ne.symm tR),Nat.le_refl _⟩,?_⟩) fun c st' q=>?_)
 ·have q2:=q.2.2
  rw [q.2.1] at q2
  exact ye M first (q.1.k.trans kM) q2.1 q2.2 (fun km na nb bw mg cB hs e=>⟨q.1.trans hs,_,rfl,e⟩) fun na nb bw mg cB hs I hm=>⟨q.1.trans hs,rfl,I,hm⟩
 ·have q2:=q.2.2
  rw [q.2.1] at q2
  exact r5 q2.1.ha q2.2
 ·show 1+0+(a.size - 1)+b.size≤a.size+b.size
  rw [Nat.add_comm (1+0),Nat.sub_add_cancel GH]
  exact Nat.le_refl _
 ·refine Exists.elim q.2 fun km e=>?_
  rw [e.1]
  exact wpS_pure (h _ _ q.1 e.2)
end
noncomputable def uY (p:Nat) (q:Array Keyed):StateT SortSt Sem Bool :=
 (modify fun s=>setArr s (List.foldl (fun a (x:Keyed×Nat)=>a.setIfInBounds (p+x.snd) x.fst) (arrOf s) q.toList.zipIdx))>>=fun _=>get>>=fun s=>pure (failedOf s).isNone
noncomputable def Ey (s:SortSt) (sa na sb nb:Nat):StateT SortSt Sem Bool :=
 elem' (arrOf s) sb>>=fun y=>dM false y (arrOf s) sa na 0>>=fun z=>match z with
 | some k=>if (na - k==0)=true then pure true
  else elem' (arrOf s) (sa+k+(na - k) - 1)>>=fun x=>dM true x (arrOf s) sb nb (nb - 1)>>=fun z=>match z with
   | some n=>if (n==0)=true then pure true
    else if na - k≤n then nF ((arrOf s).extract (sa+k) sb) ((arrOf s).extract sb (sb+n))>>=uY (sa+k)
    else nE ((arrOf s).extract (sa+k) sb) ((arrOf s).extract sb (sb+n))>>=uY (sa+k)
   | _=>pure false
 | _=>pure false
theorem rY {i sa na pw sb nb pw2:Nat} {st:SortSt} (hi:(pendingOf st)[i]? = some (sa,na,pw)) (hj:(pendingOf st)[i+1]? = some (sb,nb,pw2)) {prog:Program} {w:World} {A:Around} {E:Value→Shared→Prop} {s:Shared} {Q:Bool→SortSt→Prop}
  (h:wpS (model prog w) A E s (Ey st sa na sb nb) Q (setPending st (((pendingOf st).setIfInBounds i (sa,na+nb,pw)).eraseIdxIfInBounds (i+1)))):wpS (model prog w) A E s (mergeAt' i) Q st:=by
 have e:mergeAt' i=(get>>=fun s=>match (pendingOf s)[i]?,(pendingOf s)[i+1]? with
  | some (sa,na,pw),some (sb,nb,_)=>set (setPending s (((pendingOf s).setIfInBounds i (sa,na+nb,pw)).eraseIdxIfInBounds (i+1)))>>=fun _=>Ey s sa na sb nb
  | _,_=>unsupported "internal:list.sort.pending"):=by kernel_rfl
 rw [e]
 refine wpS_bind (wpS_get ?_)
 rw [hi,hj]
 refine wpS_bind ?_
 unfold wpS
 rw [StateT.run_set]
 exact wpAny_pure ⟨rfl,h⟩
theorem uN (q:Nat) (l:List Keyed) {T l' P:List Keyed} {n:Nat} {arr:Array Keyed} (e:arr.toList=P++(l'++T)) (hP:P.length=q+n) (hl:l.length=l'.length):((l.zipIdx n).foldl (fun a (x:Keyed×Nat)=>a.setIfInBounds (q+x.2) x.1) arr).toList=P++(l++T):=by
 induction l generalizing l' P n arr with
 | nil =>
  rw [List.length_eq_zero_iff.mp hl.symm] at e
  exact e
 | cons x l ih =>
  cases l' with
  | nil=>exact nomatch hl
  | cons y l' =>
   rw [List.zipIdx_cons,List.foldl_cons,ih (P:=P++[x]) (l':=l') ?_ ?_ (Nat.succ.inj hl),List.append_assoc];rfl
   ·rw [Array.toList_setIfInBounds,e,←hP,List.set_append_right _ _ (Nat.le_refl _),Nat.sub_self,List.append_assoc];rfl
   ·rw [List.length_append,hP];rfl
section
variable {r:Keyed→Keyed→Bool} {X Y T P Mh:List Keyed} {k n:Nat}
theorem uc (sX:jb r X) (sY:jb r Y) (h1:s7 r (X.take k) Y) (h2:s7 r X (Y.drop n)) (hm:dR r (X.drop k) (Y.take n) Mh):dR r X Y (X.take k++(Mh++Y.drop n)):=by
 have eX:=List.take_append_drop k X
 have eY:=List.take_append_drop n Y
 have a:=bU.mp (show jb r (X.take k++X.drop k) by rw [eX];exact sX)
 have b:=bU.mp (show jb r (Y.take n++Y.drop n) by rw [eY];exact sY)
 have wU:∀ z∈Mh,z∈X.drop k∨z∈Y.take n:=fun z hz=>List.mem_append.mp (hm.pm.mem_iff.mp hz)
 refine ⟨bU.mpr ⟨a.1,bU.mpr ⟨hm.so,b.2.1,fun x hx y hy=>?_⟩,fun x hx z hz=>?_⟩,?_⟩
 ·exact Or.elim (wU x hx) (fun h=>h2 x (List.mem_of_mem_drop h) y hy) fun h=>b.2.2 x h y hy
 ·refine Or.elim (List.mem_append.mp hz) (fun hz=>?_) fun hz=>h1 x hx z (List.mem_of_mem_drop hz)
  exact Or.elim (wU z hz) (fun h=>a.2.2 x hx z h) fun h=>h1 x hx z (List.mem_of_mem_take h)
 ·refine ((hm.pm.append_right _).append_left _).trans ?_
  rw [List.append_assoc,eY,←List.append_assoc,eX]
theorem fA {l:List Keyed} (e:l=P++(X++T)) (hP:P.length=n) (i:Nat) (hi:i<X.length):l[n+i]? = some X[i]:=by
 rw [e,←hP,List.getElem?_append_right (Nat.le_add_right _ _),Nat.add_sub_cancel_left,List.getElem?_append_left hi,List.getElem?_eq_getElem hi]
theorem BN (tr:∀ x y z,r x y=true→r y z=true→r x z=true) (s:jb r Y) (h0:0<Y.length) (h:∀ x∈P,r x Y[0]=true):s7 r P Y:=by
 cases Y with
 | nil=>exact nomatch h0
 | cons y Y=>exact yN tr s h
theorem xg (h0:0<Y.length) {y:Keyed} (h:y∈Y.take (min 1 n)):y=Y[0]:=by
 cases Y with
 | nil=>exact nomatch h0
 | cons z Y=>exact List.mem_singleton.mp ((List.take_sublist_take_left (Nat.min_le_left 1 n)).subset h)
theorem oY {l:List Keyed} (h:l.length - 1<l.length):l.drop (l.length - 1)=[l[l.length - 1]]:=by
 rw [List.drop_eq_getElem_cons h,Nat.sub_add_cancel (Nat.lt_of_le_of_lt (Nat.zero_le _) h),List.drop_length]
theorem sJ (tr:∀ x y z,r x y=true→r y z=true→r x z=true) (s:jb r X) (h:X.length - 1<X.length) {l:List Keyed} (g:∀ y∈l,r X[X.length - 1] y=true):s7 r X l:=fun x hx y hy=>by
 have q:=bU.mp (show jb r (X.take (X.length - 1)++X.drop (X.length - 1)) by rw [List.take_append_drop];exact s)
 have hx:x∈X.take (X.length - 1)++X.drop (X.length - 1):=by rw [List.take_append_drop];exact hx
 rw [oY h] at q hx
 refine Or.elim (List.mem_append.mp hx) (fun hx=>tr _ _ _ (q.2.2 x hx _ List.mem_cons_self) (g y hy)) fun hx=>?_
 rw [List.mem_singleton.mp hx];exact g y hy
theorem vh {arr:Array Keyed} {i j:Nat} (e:arr.toList=P++(X++T)) (hi:i=P.length) (hj:j=P.length+X.length):(arr.extract i j).toList=X:=by
 rw [Array.toList_extract,List.extract_eq_take_drop,e,hi,hj,List.drop_left,Nat.add_sub_cancel_left,List.take_left]
end
section
variable {prog:Program} {w:World} {A:Around} {E:Value→Shared→Prop} {s:Shared} {r:Keyed→Keyed→Bool} {st:SortSt}
theorem A5 {k n sa:Nat} {P X Y T:List Keyed} {km:Array Keyed} {Q:Bool→SortSt→Prop} (e:(arrOf st).toList=P++(X++(Y++T))) (hP:P.length=sa) (hk:k≤X.length) (hE:dR r (X.drop k) (Y.take n) km.toList) (hf:failedOf st=none)
  (h:∀ arr,arr.toList=P++((X.take k++(km.toList++Y.drop n))++T)→Q true (setArr st arr)):wpS (model prog w) A E s (uY (sa+k) km) Q st:=by
 have hw:=uN (sa+k) km.toList (T:=Y.drop n++T) (l':=X.drop k++Y.take n) (P:=P++X.take k) (n:=0) (arr:=arrOf st) (by
  rw [e,List.append_assoc P,List.append_assoc (X.drop k),←List.append_assoc (X.take k),List.take_append_drop,←List.append_assoc (Y.take n),List.take_append_drop]) (by rw [List.length_append,hP,List.length_take,Nat.min_eq_left hk];rfl) hE.pm.length_eq
 refine wpS_bind (wpS_modify (wpS_bind (wpS_get (wpS_pure ?_))))
 show Q (failedOf st).isNone _
 rw [hf]
 refine h _ (hw.trans ?_)
 rw [List.append_assoc,List.append_assoc,List.append_assoc]
theorem sV {i sa pw pw2:Nat} {P X Y T:List Keyed} {Q:Bool→SortSt→Prop} (hi:(pendingOf st)[i]? = some (sa,X.length,pw)) (hj:(pendingOf st)[i+1]? = some (sa+X.length,Y.length,pw2))
  (e:(arrOf st).toList=P++(X++(Y++T))) (hP:P.length=sa) (hX:0<X.length) (hY:0<Y.length) (M:MC prog w A E s r (kindOf st) X Y) (hf:failedOf st=none)
  (h:∀ Z st',dR r X Y Z→kindOf st'=kindOf st→(arrOf st').toList=P++(Z++T)→pendingOf st'=((pendingOf st).setIfInBounds i (sa,X.length+Y.length,pw)).eraseIdxIfInBounds (i+1)→failedOf st'=none→Q true st') :
  wpS (model prog w) A E s (mergeAt' i) Q st:=by
 refine rY hi hj ?_
 have Jk:X.length - 1<X.length:=Nat.sub_lt hX Nat.one_pos
 have e2:(arrOf st).toList=(P++X)++(Y++T):=by rw [e,List.append_assoc]
 have Kn:(P++X).length=sa+X.length:=by rw [List.length_append,hP]
 have eX:=fA e hP
 have eY:=fA e2 Kn
 refine wpS_bind (gA (eY 0 hY) ?_)
 have same:s7 r X Y→Q true (setPending st (((pendingOf st).setIfInBounds i (sa,X.length+Y.length,pw)).eraseIdxIfInBounds (i+1))):=fun Jt=>h (X++Y) _ ⟨bU.mpr ⟨M.sX,M.sY,Jt⟩,List.Perm.refl _⟩ rfl (by rw [List.append_assoc];exact e) rfl hf
 refine wpS_bind (M.gX (st:=setPending st (((pendingOf st).setIfInBounds i (sa,X.length+Y.length,pw)).eraseIdxIfInBounds (i+1))) (fun x hx=>hx) M.sX rfl eX (List.getElem_mem hY) hX rfl fun k hk g1 g2=>?_)
 have Kq:s7 r (X.take k) Y:=BN M.trans M.sY hY g1
 refine bL (fun hz=>wpS_pure (same ?_)) fun hz=>?_
 ·rw [List.take_of_length_le (Nat.le_of_sub_eq_zero hz)] at Kq;exact Kq
 have Bo:k<X.length:=Nat.lt_of_sub_pos (Nat.pos_of_ne_zero hz)
 have ei:sa+k+(X.length - k) - 1=sa+(X.length - 1):=by rw [Nat.add_assoc,Nat.add_sub_cancel' hk,Nat.add_sub_assoc hX]
 refine wpS_bind (gA (x:=X[X.length - 1]) (by rw [ei];exact eX _ Jk) ?_)
 refine wpS_bind (M.gY (st:=setPending st (((pendingOf st).setIfInBounds i (sa,X.length+Y.length,pw)).eraseIdxIfInBounds (i+1))) (fun y hy=>hy) M.sY rfl eY (List.getElem_mem Jk) (Nat.sub_lt hY Nat.one_pos) rfl fun n hn g3 g4=>?_)
 have Kr:s7 r X (Y.drop n):=sJ M.trans M.sX Jk g4
 refine bL (fun Cp=>wpS_pure (same ?_)) fun Cp=>?_
 ·rw [Cp] at Kr;exact Kr
 have ex:((arrOf st).extract (sa+k) (sa+X.length)).toList=X.drop k:=vh (P:=P++X.take k) (T:=Y++T) (by rw [e,List.append_assoc,←List.append_assoc (X.take k),List.take_append_drop]) (by rw [List.length_append,hP,List.length_take,Nat.min_eq_left hk]) (by rw [List.length_append,hP,List.length_take,Nat.min_eq_left hk,List.length_drop,Nat.add_assoc,Nat.add_sub_cancel' hk])
 have ey:((arrOf st).extract (sa+X.length) (sa+X.length+n)).toList=Y.take n:=vh (P:=P++X) (T:=Y.drop n++T) (by rw [e2,←List.append_assoc (Y.take n),List.take_append_drop]) Kn.symm (by rw [Kn,List.length_take,Nat.min_eq_left hn])
 generalize (arrOf st).extract (sa+k) (sa+X.length)=xa at ex
 generalize (arrOf st).extract (sa+X.length) (sa+X.length+n)=ya at ey
 have sx:xa.size=X.length - k:=by rw [←Array.length_toList,ex,List.length_drop]
 have sy:ya.size=n:=by rw [←Array.length_toList,ey,List.length_take,Nat.min_eq_left hn]
 have M2:MC prog w A E s r (kindOf st) xa.toList ya.toList:=by
  rw [ex,ey]
  exact ⟨fun x hx y hy=>M.cmp x (List.mem_of_mem_drop hx) y (List.mem_of_mem_take hy),M.trans,M.asym,fun x hx y hy=>M.tot x (List.mem_of_mem_drop hx) y (List.mem_of_mem_take hy),M.sX.sublist (List.drop_sublist _ _),M.sY.sublist (List.take_sublist _ _)⟩
 have fo:DE r xa ya:=fun y hy x hx=>by
  rw [ey] at hy
  rw [ex,sx,List.drop_drop,←Nat.add_sub_assoc (Nat.sub_pos_of_lt Bo),Nat.add_sub_cancel' hk,oY Jk] at hx
  rw [List.mem_singleton.mp hx];exact g3 y hy
 have first:EG r xa ya:=fun y hy x hx=>by
  rw [ex] at hx
  rw [ey,List.take_take] at hy
  rw [xg hY hy];exact g2 x hx
 have LJ:0<xa.size:=by rw [sx];exact Nat.sub_pos_of_lt Bo
 have LK:0<ya.size:=by rw [sy];exact Nat.pos_of_ne_zero Cp
 have sO:∀ (km:Array Keyed) (cB:SortSt),bC (setPending st (((pendingOf st).setIfInBounds i (sa,X.length+Y.length,pw)).eraseIdxIfInBounds (i+1))) cB→dR r xa.toList ya.toList km.toList→wpS (model prog w) A E s (uY (sa+k) km) Q cB:=fun km cB hs hE=>by
  rw [ex,ey] at hE
  exact A5 ((congrArg Array.toList hs.a).trans e) hP hk hE (hs.f.trans hf) fun arr ea=>h _ _ (uc M.sX M.sY Kq Kr hE) hs.k ea hs.p (hs.f.trans hf)
 exact b0 (fun _=>wpS_bind (sZ M2 fo LJ LK (fun x hx=>first _ (by rw [←List.drop_zero (l:=ya.toList),vc LK];exact List.mem_cons_self) x hx) rfl sO)) fun _=>wpS_bind (sW M2 first LJ LK (fun y hy=>fo y hy _ (by rw [vc (Nat.sub_lt LJ Nat.one_pos)];exact List.mem_cons_self)) rfl sO)
end
noncomputable def rr (blt:Keyed→Keyed→Bool) (ord:Keyed→Nat) (x y:Keyed):Bool:=blt x y||(!blt y x&&decide (ord x<ord y))
structure SO (prog:Program) (w:World) (A:Around) (E:Value→Shared→Prop) (s:Shared) (blt:Keyed→Keyed→Bool) (kd:SortKind) (U:Keyed→Prop):Prop where
 cmp:∀ x y,U x→U y→∀ (st:SortSt) (Q:Option Bool→SortSt→Prop),kindOf st=kd→Q (some (blt x y)) st→wpS (model prog w) A E s (lt' x y) Q st
 asym:∀ x y,blt x y=true→blt y x=false
 trans:∀ x y z,blt x y=true→blt y z=true→blt x z=true
 neg:∀ x y z,blt x z=true→blt x y=true∨blt y z=true
section
variable {prog:Program} {w:World} {A:Around} {E:Value→Shared→Prop} {s:Shared} {blt:Keyed→Keyed→Bool} {ord:Keyed→Nat} {kd:SortKind} {U:Keyed→Prop} {st:SortSt}
theorem cV {x y:Keyed}:rr blt ord x y=true↔blt x y=true∨(blt y x=false∧ord x<ord y):=by
 unfold rr
 rw [Bool.or_eq_true,Bool.and_eq_true,Bool.not_eq_true',decide_eq_true_eq]
theorem eO {u v:Keyed} (h:ord v<ord u):rr blt ord u v=blt u v:=by
 unfold rr
 rw [decide_eq_false (by exact l2 0x7c0111b10 rfl h),Bool.and_false,Bool.or_false]
theorem qt {u v:Keyed} (h:ord v<ord u) (hf:rr blt ord u v=false):rr blt ord v u=true:=by
 rw [eO h] at hf
 exact cV.mpr (.inr ⟨hf,h⟩)
theorem SO.rasym (S:SO prog w A E s blt kd U) (x y:Keyed) (h:rr blt ord x y=true):rr blt ord y x=false:=by
 cases h2:rr blt ord y x with
 | false=>rfl
 | true =>
  refine Or.elim (cV.mp h) (fun h=>?_) (fun q=>aJ q fun h h'=>?_)
  ·refine Or.elim (cV.mp h2) (fun g=>?_) (fun q=>aJ q fun g g'=>?_)
   ·rw [S.asym _ _ h] at g;exact nomatch g
   ·rw [h] at g;exact nomatch g
  ·refine Or.elim (cV.mp h2) (fun g=>?_) (fun q=>aJ q fun g g'=>?_)
   ·rw [h] at g;exact nomatch g
   ·exact absurd g' (Nat.lt_asymm h')
theorem SO.rtrans (S:SO prog w A E s blt kd U) (x y z:Keyed) (h:rr blt ord x y=true) (h2:rr blt ord y z=true):rr blt ord x z=true:=by
 refine Or.elim (cV.mp h) (fun h=>?_) (fun q=>aJ q fun h h'=>?_)
 ·refine Or.elim (cV.mp h2) (fun g=>?_) (fun q=>aJ q fun g g'=>?_)
  ·exact cV.mpr (.inl (S.trans _ _ _ h g))
  ·refine Or.elim (S.neg x z y h) (fun q=>?_) (fun q=>?_)
   ·exact cV.mpr (.inl q)
   ·rw [g] at q;exact nomatch q
 ·refine Or.elim (cV.mp h2) (fun g=>?_) (fun q=>aJ q fun g g'=>?_)
  ·refine Or.elim (S.neg y x z g) (fun q=>?_) (fun q=>?_)
   ·rw [h] at q;exact nomatch q
   ·exact cV.mpr (.inl q)
  ·refine cV.mpr (.inr ⟨?_,Nat.lt_trans h' g'⟩)
   cases q:blt z x with
   | false=>rfl
   | true =>
    refine Or.elim (S.neg z y x q) (fun q=>?_) (fun q=>?_)
    ·rw [g] at q;exact nomatch q
    ·rw [h] at q;exact nomatch q
theorem xQ {B T:List Keyed} {u v:Keyed} {arr:Array Keyed} {i j:Nat} (e:arr.toList=B++(u::v::T)) (hj:j=B.length) (hi:i=j+1):(arr.swapIfInBounds i j).toList=B++(v::u::T):=by
 have cZ:arr.size=B.length+(T.length+1+1):=by rw [←Array.length_toList,e,List.length_append];rfl
 have h1:i<arr.size:=by rw [cZ,hi,hj];exact Nat.add_lt_add_left (Nat.succ_lt_succ (Nat.succ_pos _)) _
 have h2:j<arr.size:=by rw [cZ,hj];exact Nat.lt_add_of_pos_right (Nat.succ_pos _)
 have g1:arr[i]=v:=by
  have:arr.toList[i]? = some v:=by rw [e,hi,hj,List.getElem?_append_right (Nat.le_add_right _ 1),Nat.add_sub_cancel_left];rfl
  rw [Array.getElem?_toList,Array.getElem?_eq_getElem h1] at this
  exact Option.some.inj this
 have g2:arr[j]=u:=by
  have:arr.toList[j]? = some u:=by rw [e,hj,List.getElem?_append_right (Nat.le_refl _),Nat.sub_self];rfl
  rw [Array.getElem?_toList,Array.getElem?_eq_getElem h2] at this
  exact Option.some.inj this
 unfold Array.swapIfInBounds
 rw [dif_pos h1,dif_pos h2,Array.toList_swap,g1,g2,e,hi,hj,List.set_append_right _ _ (Nat.le_add_right _ 1),Nat.add_sub_cancel_left,List.set_append_right _ _ (Nat.le_refl _),Nat.sub_self]
 rfl
theorem qX {R T:List Keyed} {x:Keyed} {arr:Array Keyed}:∀ {B:List Keyed},arr.toList=B++(R++(x::T))→(bubble arr (B.length+R.length) R.length).toList=B++(x::(R++T)):=by
 induction R with
 | nil=>exact fun e=>e
 | cons z R ih =>
  intro B e
  have h:=ih (B:=B++[z]) (by rw [e,List.append_assoc];rfl)
  rw [List.length_append,Nat.add_assoc,Nat.add_comm [z].length,List.append_assoc] at h
  rw [show (z::R).length=R.length+1 from rfl,bubble_succ]
  refine xQ h ?_ ?_
  ·rw [←Nat.add_assoc,Nat.add_right_comm,Nat.add_sub_cancel,Nat.add_sub_cancel]
  ·rw [←Nat.add_assoc,Nat.add_right_comm,Nat.add_sub_cancel,Nat.add_sub_cancel]
structure cy (st st':SortSt):Prop where
 k:kindOf st'=kindOf st
 p:pendingOf st'=pendingOf st
 f:failedOf st'=failedOf st
theorem cy.refl (st:SortSt):cy st st:=⟨rfl,rfl,rfl⟩
structure eQ (blt:Keyed→Keyed→Bool) (ord:Keyed→Nat) (P R T Z R':List Keyed) (n:Nat) (arr:List Keyed):Prop where
 arr:arr=P++(Z++(R'++T))
 len:Z.length=n
 so:jb (rr blt ord) Z
 pm:(Z++R').Perm R
 bf:∀ x∈Z,∀ y∈R',ord x<ord y
 asc:R'.Pairwise fun x y=>ord x<ord y
noncomputable abbrev BS:Type:=Option Bool×Nat×Nat
noncomputable def Hi (lo k:Nat) (_:Nat) (c:BS):StateT SortSt Sem (ForInStep BS) :=
 if c.2.1 ≥ c.2.2 then pure (.done (none,c.2.1,c.2.2)) else ltAt' (lo+k) (lo+(c.2.1+c.2.2) / 2)>>=fun z=>match z with
 | some less=>if less=true then pure (.yield (none,c.2.1,(c.2.1+c.2.2) / 2)) else pure (.yield (none,(c.2.1+c.2.2) / 2+1,c.2.2))
 | _=>pure (.done (some false,c.2.1,c.2.2))
noncomputable abbrev US:Type:=Option Bool×Unit
noncomputable def Ii (lo:Nat) (k:Nat) (_:US):StateT SortSt Sem (ForInStep US) :=
 forIn [0:k] ((none,0,k):BS) (Hi lo k)>>=fun c=>match c.1 with
 | some r=>pure (.done (some r,()))
 | none=>moveDown' (lo+k) (lo+c.2.1)>>=fun _=>pure (.yield (none,()))
theorem tx (lo n ok:Nat):binarySort' lo n ok=(forIn [max ok 1:n] ((none,()):US) (Ii lo)>>=fun c=>match c.1 with
 | some r=>pure r
 | none=>pure true):=by kernel_rfl
theorem F3 {l r:Nat} (h:¬ l ≥ r):(l+r) / 2<r:=Nat.div_lt_of_lt_mul (by rw [Nat.two_mul];exact Nat.add_lt_add_right (Nat.not_le.mp h) r)
theorem z6 {l r:Nat} (h:¬ l ≥ r):l≤(l+r) / 2:=(Nat.le_div_iff_mul_le Nat.two_pos).mpr (by rw [Nat.mul_two];exact Nat.add_le_add_left (Nat.le_of_lt (Nat.not_le.mp h)) l)
theorem SO.ltAt (S:SO prog w A E s blt kd U) {i j:Nat} {x y:Keyed} (hx:(arrOf st).toList[i]? = some x) (hy:(arrOf st).toList[j]? = some y) (ux:U x) (uy:U y) (hk:kindOf st=kd) {Q:Option Bool→SortSt→Prop} (h:Q (some (blt x y)) st):wpS (model prog w) A E s (ltAt' i j) Q st:=by
 rw [ltAt'_eq]
 exact wpS_bind (wpS_get (wpS_bind (gA hx (wpS_bind (gA hy (S.cmp _ _ ux uy _ _ hk h))))))
theorem Dr {lo k:Nat} {X:List Keyed} {f:Keyed→Bool} {Q:BS→SortSt→Prop} (hc:∀ m (hm:m<X.length) (P:Option Bool→SortSt→Prop),P (some (!f X[m])) st→wpS (model prog w) A E s (ltAt' (lo+k) (lo+m)) P st) (hk:X.length=k) (eW:X.Pairwise fun x y=>f y=true→f x=true)
  (h:∀ c:BS,c.1=none→c.2.1≤k→(∀ x∈X.take c.2.1,f x=true)→(∀ x∈X.drop c.2.1,f x=false)→Q c st):wpS (model prog w) A E s (forIn [0:k] ((none,0,k):BS) (Hi lo k)) Q st:=by
 subst hk
 have e:∀ i (hi:i<X.length),(X[i]?).elim false f=f X[i]:=fun i hi=>by rw [List.getElem?_eq_getElem hi];rfl
 have El:∀ i j,i≤j→j<X.length→(X[j]?).elim false f=true→(X[i]?).elim false f=true:=fun i j ov hj hb=>by
  refine Or.elim (Nat.lt_or_eq_of_le ov) (fun bQ=>?_) fun q=>q ▸ hb
  have hi:=Nat.lt_trans bQ hj
  rw [e j hj] at hb
  rw [e i hi]
  exact List.pairwise_iff_getElem.mp eW i j hi hj bQ hb
 have l7:∀ c:BS,BQ (fun i=>(X[i]?).elim false f) X.length c→c.2.1≤c.2.2→Q c st:=fun c I OV=>by
  have eq:=Nat.le_antisymm OV I.eq
  refine h c I.no (eq ▸ I.hi) (fun x hx=>?_) fun x hx=>?_
  ·refine Exists.elim (List.mem_iff_getElem.mp hx) fun i q=>Exists.elim q fun hi q=>?_
   have jA:=Nat.lt_of_lt_of_le hi (Nat.le_trans (Nat.le_of_eq (List.length_take ..)) (Nat.min_le_left _ _))
   rw [←q,List.getElem_take,←e i (Nat.lt_of_lt_of_le jA (eq ▸ I.hi))]
   exact I.lo i jA
  ·refine Exists.elim (List.mem_iff_getElem.mp hx) fun i q=>Exists.elim q fun hi q=>?_
   have jA:c.2.1+i<X.length:=Nat.add_lt_of_lt_sub' (Nat.lt_of_lt_of_le hi (Nat.le_of_eq (List.length_drop ..)))
   rw [←q,List.getElem_drop,←e _ jA]
   exact I.up _ (Nat.le_trans I.eq (Nat.le_add_right _ _)) jA
 refine wpS_forRange (I:=fun x (c:BS) st'=>st'=st∧BI (fun i=>(X[i]?).elim false f) X.length x c) (fun x c st' _ _ q=>?_) (fun c st' q=>?_) ⟨rfl,rfl,Nat.zero_le _,Nat.le_refl _,(fun i hi=>absurd hi (Nat.not_lt_zero _)),(fun i h1 h2=>absurd h2 (Nat.not_lt.mpr h1)),Nat.le_refl _⟩
 ·rw [q.1]
  have I:=q.2
  refine b0 (fun jk=>wpS_pure (l7 (none,c.2.1,c.2.2) ⟨rfl,jk,I.hi,I.lo,I.up⟩ I.le)) fun jk=>?_
  have hm:=F3 jk
  have hn:=Nat.lt_of_lt_of_le hm I.hi
  refine wpS_bind (hc _ hn _ ?_)
  cases hb:f (X[(c.2.1+c.2.2) / 2]'hn) with
  | true=>exact bM Bool.false_ne_true (wpS_pure ⟨rfl,rfl,hm,I.hi,fun i hi=>El i _ (Nat.le_of_lt_succ hi) hn ((e _ hn).trans hb),I.up,Nat.succ_le_succ (Nat.le_trans I.t (Nat.add_le_add_left (z6 jk) _))⟩)
  | false=>exact ca rfl (wpS_pure ⟨rfl,rfl,z6 jk,Nat.le_of_lt hn,I.lo,fun i h6 h7=>jN El ((e _ hn).trans hb) h6 h7,Nat.le_trans (Nat.add_lt_add_right hm x) I.t⟩)
 ·have I:=q.2
  have t:=I.t
  rw [Nat.max_eq_right (Nat.zero_le _),Nat.add_comm] at t
  rw [q.1]
  exact l7 c ⟨I.no,Nat.le_of_add_le_add_left t,I.hi,I.lo,I.up⟩ I.le
theorem CH {Z:List Keyed} {x u:Keyed} {l:Nat} (h:u∈Z.take l++x::Z.drop l):u=x∨u∈Z :=
 Or.elim (List.mem_append.mp h) (fun h=>.inr (List.mem_of_mem_take h)) fun h=>Or.elim (List.mem_cons.mp h) .inl fun h=>.inr (List.mem_of_mem_drop h)
theorem eQ.ins {P R T Z R' arr:List Keyed} {x:Keyed} {k l:Nat} (L:eQ blt ord P R T Z (x::R') k arr) (h1:∀ y∈Z.take l,rr blt ord y x=true) (h2:∀ y∈Z.drop l,rr blt ord x y=true) :
  eQ blt ord P R T (Z.take l++x::Z.drop l) R' (k+1) (P++((Z.take l++x::Z.drop l)++(R'++T))):=by
 have a:=bU.mp (show jb (rr blt ord) (Z.take l++Z.drop l) by rw [List.take_append_drop];exact L.so)
 have o:=List.pairwise_cons.mp L.asc
 refine ⟨rfl,?_,bU.mpr ⟨a.1,List.pairwise_cons.mpr ⟨h2,a.2.1⟩,fun u hu v hv=>?_⟩,?_,fun u hu v hv=>?_,o.2⟩
 ·rw [←L.len,←List.take_append_drop l Z,List.length_append,List.length_append,List.take_append_drop];rfl
 ·exact Or.elim (List.mem_cons.mp hv) (fun e=>by rw [e];exact h1 u hu) fun hv=>a.2.2 u hu v hv
 ·refine List.Perm.trans ?_ L.pm
  rw [List.append_assoc,List.cons_append]
  refine List.perm_middle.trans ?_
  rw [←List.append_assoc,List.take_append_drop]
  exact List.perm_middle.symm
 ·exact Or.elim (CH hu) (fun e=>by rw [e];exact o.1 v hv) fun h=>L.bf u h v (List.mem_cons_of_mem _ hv)
theorem Ds (S:SO prog w A E s blt kd U) {lo k:Nat} {P R T Z R':List Keyed} {x:Keyed} {c:US} {Q:ForInStep US→SortSt→Prop} (hk:kindOf st=kd) (hP:P.length=lo) (hU:∀ x∈R,U x) (L:eQ blt ord P R T Z (x::R') k (arrOf st).toList)
  (h:∀ Z' st',cy st st'→eQ blt ord P R T Z' R' (k+1) (arrOf st').toList→Q (.yield (none,())) st'):wpS (model prog w) A E s (Ii lo k c) Q st:=by
 have hx:∀ y∈Z,ord y<ord x:=fun y hy=>L.bf y hy x List.mem_cons_self
 have uZ:∀ y∈Z,U y:=fun y hy=>hU y (L.pm.mem_iff.mp (List.mem_append_left _ hy))
 have ux:U x:=hU x (L.pm.mem_iff.mp (List.mem_append_right _ List.mem_cons_self))
 have ex:(arrOf st).toList[lo+k]? = some x:=fA (n:=lo+k) (P:=P++Z) (X:=[x]) (T:=R'++T) (i:=0) (by rw [L.arr,List.append_assoc];rfl) (by rw [List.length_append,hP,L.len]) Nat.one_pos
 refine wpS_bind (Dr (X:=Z) (f:=fun y=>!(blt x y)) (fun m hm P GB=>S.ltAt ex (fA L.arr hP m hm) ux (uZ _ (List.getElem_mem hm)) hk (by rw [Bool.not_not] at GB;exact GB)) L.len (L.so.imp_of_mem fun {y z} hy hz hr hb=>?_) fun c e hl g1 g2=>?_)
 ·have hb':rr blt ord x z=false:=(eO (hx z hz)).trans ((Bool.not_eq_true' _).mp hb)
  have:=S.rasym _ _ (S.rtrans _ _ _ hr (qt (hx z hz) hb'))
  rw [eO (hx y hy)] at this
  rw [this];rfl
 rw [e]
 refine wpS_bind ?_
 rw [moveDown'_eq]
 have L':=L.ins (l:=c.2.1) (fun y hy=>qt (hx y (List.mem_of_mem_take hy)) ((eO (hx y (List.mem_of_mem_take hy))).trans ((Bool.not_eq_true' _).mp (g1 y hy)))) fun y hy=>(eO (hx y (List.mem_of_mem_drop hy))).trans ((Bool.not_eq_false' _).mp (g2 y hy))
 refine wpS_modify (wpS_pure (h (Z.take c.2.1++x::Z.drop c.2.1) _ ⟨rfl,rfl,rfl⟩ ?_))
 have eb:=qX (arr:=arrOf st) (B:=P++Z.take c.2.1) (R:=Z.drop c.2.1) (x:=x) (T:=R'++T) (by rw [L.arr,List.append_assoc,←List.append_assoc (Z.take c.2.1),List.take_append_drop];rfl)
 have M1:c.2.1≤Z.length:=by rw [L.len];exact hl
 rw [List.length_append,hP,List.length_take,Nat.min_eq_left M1,List.length_drop,Nat.add_assoc,Nat.add_sub_cancel' M1,L.len,List.append_assoc] at eb
 show eQ blt ord P R T _ R' (k+1) (bubble (arrOf st) (lo+k) (lo+k - (lo+c.2.1))).toList
 rw [Nat.add_sub_add_left,eb]
 have:=L'
 rw [List.append_assoc] at this
 exact this
theorem sU (S:SO prog w A E s blt kd U) {lo n:Nat} {P R T Z R':List Keyed} {Q:Bool→SortSt→Prop} (hk:kindOf st=kd) (hP:P.length=lo) (hU:∀ x∈R,U x) (hZ:0<Z.length) (hn:n=Z.length+R'.length) (L:eQ blt ord P R T Z R' Z.length (arrOf st).toList)
  (h:∀ Z' st',cy st st'→eQ blt ord P R T Z' [] n (arrOf st').toList→Q true st'):wpS (model prog w) A E s (binarySort' lo n Z.length) Q st:=by
 rw [tx,Nat.max_eq_left hZ]
 have hR:=L.pm.length_eq
 refine wpS_bind (wpS_mono (wpS_forRange (I:=fun k (c:US) st'=>c.1=none∧cy st st'∧∃ Z R',eQ blt ord P R T Z R' k (arrOf st').toList) (Q:=fun (c:US) st'=>c.1=none∧cy st st'∧∃ Z,eQ blt ord P R T Z [] n (arrOf st').toList) (fun k c st' _ Fx q=>?_) (fun c st' q=>?_) ⟨rfl,cy.refl st,Z,R',L⟩) fun c st' q=>?_)
 ·refine oZ q.2.2 fun Z1 R1 L1=>?_
  have hl:=L1.pm.length_eq.trans hR.symm
  rw [List.length_append,List.length_append,←hn,L1.len] at hl
  cases R1 with
  | nil=>exact absurd Fx (by rw [←hl];exact Nat.lt_irrefl _)
  | cons x R1=>exact Ds S (q.2.1.k.trans hk) hP hU L1 fun Z' cB hs L2=>⟨rfl,⟨hs.k.trans q.2.1.k,hs.p.trans q.2.1.p,hs.f.trans q.2.1.f⟩,Z',R1,L2⟩
 ·refine oZ q.2.2 fun Z1 R1 L1=>⟨q.1,q.2.1,Z1,?_⟩
  rw [Nat.max_eq_right (by rw [hn];exact Nat.le_add_right _ _)] at L1
  have hl:=L1.pm.length_eq.trans hR.symm
  rw [List.length_append,List.length_append,←hn,L1.len] at hl
  rw [List.length_eq_zero_iff.mp (Nat.add_left_cancel hl)] at L1
  exact L1
 ·rw [q.1]
  exact Exists.elim q.2.2 fun Z' L'=>wpS_pure (h Z' st' q.2.1 L')
end
noncomputable def EQ (lo:Nat) (_:Nat) (c:Option (Option Nat)×Nat):StateT SortSt Sem (ForInStep (Option (Option Nat)×Nat)):=do
 let z ←ltAt' (lo+c.2) (lo+c.2 - 1)
 match z with
 | some qu=>if qu=true then pure (ForInStep.done (none,c.2)) else pure (ForInStep.yield (none,c.2+1))
 | _=>pure (ForInStep.done (some none,c.2))
noncomputable def AY (lo n c9:Nat):StateT SortSt Sem (Option Nat) :=
 reverseSlice' lo (lo+n)>>=fun _=>forIn [n:c9] ((none,n):Option (Option Nat)×Nat) (EQ lo)>>=fun c=>match c.1 with
 | some r=>pure r
 | none=>pure (some c.2)
noncomputable abbrev DS:Type:=Option (Option Nat)×Nat×Nat
noncomputable def DU (lo:Nat) (_:Nat) (c:DS):StateT SortSt Sem (ForInStep DS) :=
 ltAt' (lo+c.2.1) (lo+c.2.1 - 1)>>=fun z=>match z with
 | some qu=>if qu=true then (if c.2.2 > 0 then reverseSlice' (lo+c.2.1 - (c.2.2+1)) (lo+c.2.1)>>=fun _=>pure (ForInStep.yield (none,c.2.1+1,0)) else pure (ForInStep.yield (none,c.2.1+1,0)))
  else ltAt' (lo+c.2.1 - 1) (lo+c.2.1)>>=fun z=>match z with
   | some FZ=>if FZ=true then pure (ForInStep.done (none,c.2.1,c.2.2)) else pure (ForInStep.yield (none,c.2.1+1,c.2.2+1))
   | _=>pure (ForInStep.done (some none,c.2.1,c.2.2))
 | _=>pure (ForInStep.done (some none,c.2.1,c.2.2))
noncomputable def u9 (lo n c9:Nat):StateT SortSt Sem (Option Nat) :=
 (liftM (rule "list.sort.descending-run"):StateT SortSt Sem Unit)>>=fun _=>forIn [n+1:c9] ((none,n+1,0):DS) (DU lo)>>=fun c=>match c.1 with
 | some r=>pure r
 | none=>if c.2.2 > 0 then reverseSlice' (lo+c.2.1 - (c.2.2+1)) (lo+c.2.1)>>=fun _=>AY lo c.2.1 c9 else AY lo c.2.1 c9
theorem wH (lo c9:Nat):countRun' lo c9=(forIn [1:c9] ((none,1):Option (Option Nat)×Nat) (EQ lo)>>=fun c=>match c.1 with
 | some q=>pure q
 | none=>if (c.2==c9)=true then pure (some c.2) else if c.2 > 1 then ltAt' lo (lo+c.2 - 1)>>=fun z=>(match z with
   | some t=>if t=true then pure (some c.2) else reverseSlice' lo (lo+c.2)>>=fun _=>u9 lo c.2 c9
   | _=>pure none)
  else u9 lo c.2 c9):=by kernel_rfl
theorem iF {L B C:List Keyed} {arr:Array Keyed} {i j:Nat} (e:arr.toList=L++(B++C)) (hi:L.length=i) (hj:i+B.length=j):(mirror arr i j ((j - i) / 2)).toList=L++(B.reverse++C):=by
 have cZ:j≤arr.size:=by
  rw [←Array.length_toList,e,List.length_append,List.length_append,hi,←Nat.add_assoc,hj]
  exact Nat.le_add_right _ _
 apply List.ext_getElem?
 intro k
 rw [Array.getElem?_toList,getElem?_mirror_all cZ]
 by_cases h1:i≤k∧k<j
 ·refine Exists.elim (Nat.exists_eq_add_of_le h1.1) fun t et=>?_
  have ht:t<B.length:=by rw [et,←hj] at h1;exact Nat.lt_of_add_lt_add_left h1.2
  have hp:B.length - 1 - t<B.length:=Nat.lt_of_le_of_lt (Nat.sub_le _ _) (Nat.sub_lt (Nat.lt_of_le_of_lt (Nat.zero_le _) ht) Nat.one_pos)
  have hr:t<B.reverse.length:=by rw [List.length_reverse];exact ht
  rw [if_pos h1,et,←hj,Nat.sub_sub,Nat.add_left_comm 1,Nat.add_sub_add_left,Nat.add_comm 1,Nat.add_sub_assoc (show t+1≤B.length from ht),Nat.add_comm t,←Nat.sub_sub,←Array.getElem?_toList,fA e hi _ hp,fA (l:=L++(B.reverse++C)) rfl hi t hr,List.getElem_reverse]
 ·rw [if_neg h1,←Array.getElem?_toList,e]
  refine Or.elim (Nat.lt_or_ge k i) (fun h2=>?_) fun h2=>?_
  ·rw [←hi] at h2
   rw [List.getElem?_append_left h2,List.getElem?_append_left h2]
  ·have h3:(L++B).length≤k:=by
    rw [List.length_append,hi,hj]
    exact Nat.not_lt.mp fun q=>h1 ⟨h2,q⟩
   have h4:(L++B.reverse).length≤k:=by rw [List.length_append,List.length_reverse,←List.length_append];exact h3
   rw [←List.append_assoc,←List.append_assoc,List.getElem?_append_right h3,List.getElem?_append_right h4,List.length_append,List.length_append,List.length_reverse]
section
variable {prog:Program} {w:World} {A:Around} {E:Value→Shared→Prop} {s:Shared} {blt:Keyed→Keyed→Bool} {ord:Keyed→Nat} {kd:SortKind} {U:Keyed→Prop} {st st':SortSt} {P R T:List Keyed} {lo c9 n:Nat}
theorem cy.trans {a b c:SortSt} (x:cy a b) (y:cy b c):cy a c:=⟨y.k.trans x.k,y.p.trans x.p,y.f.trans x.f⟩
theorem cy.arr {a b:SortSt} (x:cy a b) (v:Array Keyed):cy a (setArr b v):=⟨x.k,x.p,x.f⟩
theorem SO.irr (S:SO prog w A E s blt kd U) (x:Keyed):blt x x=false:=by
 cases q:blt x x with
 | false=>rfl
 | true=>exact (S.asym _ _ q).symm.trans q |> fun e=>nomatch e
noncomputable def Dy (blt:Keyed→Keyed→Bool) (ord:Keyed→Nat) (P R T:List Keyed) (st:SortSt) (n:Nat) (st':SortSt):Prop:=cy st st'∧∃ Z R',eQ blt ord P R T Z R' n (arrOf st').toList
theorem eQ.next {Z R' arr:List Keyed} {x:Keyed} (L:eQ blt ord P R T Z (x::R') n arr) (hP:P.length=lo):arr[lo+n]? = some x :=
 fA (n:=lo+n) (P:=P++Z) (X:=[x]) (T:=R'++T) (i:=0) (by rw [L.arr,List.append_assoc];rfl) (by rw [List.length_append,hP,L.len]) Nat.one_pos
theorem eQ.last {Z R' arr:List Keyed} (L:eQ blt ord P R T Z R' n arr) (hP:P.length=lo) (h1:1≤n) (hl:Z.length - 1<Z.length):arr[lo+n - 1]? = some Z[Z.length - 1]:=by
 rw [Nat.add_sub_assoc h1,←L.len]
 exact fA L.arr hP _ hl
theorem eQ.snoc {Z R' arr:List Keyed} {x:Keyed} (L:eQ blt ord P R T Z (x::R') n arr) (hz:∀ z∈Z,rr blt ord z x=true):eQ blt ord P R T (Z++[x]) R' (n+1) arr:=by
 have o:=List.pairwise_cons.mp L.asc
 refine ⟨by rw [L.arr,List.append_assoc Z];rfl,by rw [List.length_append,L.len];rfl,bU.mpr ⟨L.so,List.pairwise_singleton _ _,fun z h y hy=>by rw [List.mem_singleton.mp hy];exact hz z h⟩,by rw [List.append_assoc];exact L.pm,fun u hu v hv=>?_,o.2⟩
 exact Or.elim (List.mem_append.mp hu) (fun h=>L.bf u h v (List.mem_cons_of_mem _ hv)) fun h=>by rw [List.mem_singleton.mp h];exact o.1 v hv
theorem eQ.rest {Z R' arr:List Keyed} (L:eQ blt ord P R T Z R' n arr):n+R'.length=R.length:=by
 have h:=L.pm.length_eq
 rw [List.length_append,L.len] at h
 exact h
theorem qV (S:SO prog w A E s blt kd U) (hk:kindOf st=kd) (hP:P.length=lo) (hU:∀ x∈R,U x) (hR:R.length=c9) {n0:Nat} (h1:1≤n0) (hn:n0≤c9) (I:Dy blt ord P R T st n0 st') {Q:Option (Option Nat)×Nat→SortSt→Prop}
  (hE:∀ cB,Dy blt ord P R T st c9 cB→Q (none,c9) cB) (hB:∀ n cB Z x R',1≤n→n<c9→cy st cB→eQ blt ord P R T Z (x::R') n (arrOf cB).toList→(∀ hl:Z.length - 1<Z.length,blt x Z[Z.length - 1]=true)→Q (none,n) cB) :
  wpS (model prog w) A E s (forIn [n0:c9] ((none,n0):Option (Option Nat)×Nat) (EQ lo)) Q st':=by
 refine wpS_forRange (I:=fun x c cB=>c=(none,x)∧Dy blt ord P R T st x cB) (fun x c cB hx Jr q=>?_) (fun c cB q=>?_) ⟨rfl,I⟩
 ·rw [q.1]
  refine oZ q.2.2 fun Z R' L=>?_
  have zG:=Nat.le_trans h1 hx
  cases R' with
  | nil=>exact absurd Jr (by rw [←hR,←L.rest];exact Nat.lt_irrefl _)
  | cons y R' =>
   have hl:Z.length - 1<Z.length:=by rw [L.len];exact Nat.sub_lt zG Nat.one_pos
   have hm:=List.getElem_mem hl
   have ho:=L.bf _ hm y List.mem_cons_self
   refine wpS_bind (S.ltAt (L.next hP) (L.last hP zG hl) (hU _ (L.pm.mem_iff.mp (List.mem_append_right _ List.mem_cons_self))) (hU _ (L.pm.mem_iff.mp (List.mem_append_left _ hm))) (q.2.1.k.trans hk) ?_)
   cases hb:blt y Z[Z.length - 1] with
   | true=>exact ca rfl (wpS_pure (hB x cB Z y R' zG Jr q.2.1 L fun _=>hb))
   | false =>
    refine bM Bool.false_ne_true (wpS_pure ⟨rfl,q.2.1,Z++[y],R',L.snoc fun z hz=>?_⟩)
    exact sJ (l:=[y]) S.rtrans L.so hl (fun u hu=>by rw [List.mem_singleton.mp hu];exact qt ho ((eO ho).trans hb)) z hz y List.mem_cons_self
 ·rw [q.1,Nat.max_eq_right hn]
  have I:=q.2
  rw [Nat.max_eq_right hn] at I
  exact hE cB I
structure fy (blt:Keyed→Keyed→Bool) (ord:Keyed→Nat) (P R T D V R':List Keyed) (n neq:Nat) (arr:List Keyed):Prop where
 arr:arr=P++(D++(V++(R'++T)))
 len:D.length+V.length=n
 neq:V.length=neq+1
 so:jb (rr blt ord) (V++D.reverse)
 eqk:∀ x∈V,∀ y∈V,blt x y=false
 uv:∀ x∈D,∀ y∈V,ord x<ord y
 pm:(D++(V++R')).Perm R
 bf:∀ x∈D++V,∀ y∈R',ord x<ord y
 asc:R'.Pairwise fun x y=>ord x<ord y
theorem nD {D V:List Keyed} {y:Keyed} (h:y∈D++V.reverse):y∈D++V :=
 Or.elim (List.mem_append.mp h) (List.mem_append_left _) fun h=>List.mem_append_right _ (List.mem_reverse.mp h)
theorem fy.down {D V R' arr:List Keyed} {x:Keyed} {neq:Nat} (S:SO prog w A E s blt kd U) (L:fy blt ord P R T D V (x::R') n neq arr) {vl:Keyed} (hv:vl∈V) (hb:blt x vl=true):fy blt ord P R T (D++V.reverse) [x] R' (n+1) 0 (P++(D++(V.reverse++((x::R')++T)))):=by
 have o:=List.pairwise_cons.mp L.asc
 have hV:∀ v∈V,rr blt ord x v=true:=fun v qO=>cV.mpr (.inl (Or.elim (S.neg x v vl hb) (fun q=>q) fun q=>by rw [L.eqk v qO vl hv] at q;exact nomatch q))
 have hx:∀ y∈V++D.reverse,rr blt ord x y=true:=fun y hy =>
  Or.elim (List.mem_append.mp hy) (hV y) fun h=>S.rtrans _ _ _ (hV vl hv) ((bU.mp L.so).2.2 vl hv y h)
 refine ⟨by rw [List.append_assoc];rfl,by rw [List.length_append,List.length_reverse,L.len];rfl,rfl,by rw [List.reverse_append,List.reverse_reverse];exact List.pairwise_cons.mpr ⟨hx,L.so⟩,fun y hy z hz=>?_,fun y hy z hz=>?_,?_,fun y hy z hz=>?_,o.2⟩
 ·rw [List.mem_singleton.mp hy,List.mem_singleton.mp hz];exact S.irr x
 ·rw [List.mem_singleton.mp hz];exact L.bf y (nD hy) x List.mem_cons_self
 ·refine List.Perm.trans ?_ L.pm
  rw [List.append_assoc]
  exact ((List.reverse_perm V).append_right _).append_left _
 ·exact Or.elim (List.mem_append.mp hy) (fun h=>L.bf y (nD h) z (List.mem_cons_of_mem _ hz)) fun h=>by rw [List.mem_singleton.mp h];exact o.1 z hz
theorem SO.eqv (S:SO prog w A E s blt kd U) {x y z:Keyed} (h1:blt x y=false) (h2:blt y z=false):blt x z=false:=by
 cases q:blt x z with
 | false=>rfl
 | true=>exact Or.elim (S.neg x y z q) (fun q=>nomatch h1.symm.trans q) fun q=>nomatch h2.symm.trans q
theorem fy.same {D V R' arr:List Keyed} {x:Keyed} {neq:Nat} (S:SO prog w A E s blt kd U) (L:fy blt ord P R T D V (x::R') n neq arr) {vl:Keyed} (hv:vl∈V) (h1:blt x vl=false) (h2:blt vl x=false):fy blt ord P R T D (V++[x]) R' (n+1) (neq+1) arr:=by
 have o:=List.pairwise_cons.mp L.asc
 have xv:∀ v∈V,blt x v=false:=fun v qO=>S.eqv h1 (L.eqk vl hv v qO)
 have vx:∀ v∈V,blt v x=false:=fun v qO=>S.eqv (L.eqk v qO vl hv) h2
 have PM:∀ v∈V,ord v<ord x:=fun v qO=>L.bf v (List.mem_append_right _ qO) x List.mem_cons_self
 have q:=bU.mp L.so
 refine ⟨by rw [L.arr,List.append_assoc V];rfl,by rw [List.length_append,←Nat.add_assoc,L.len];rfl,by rw [List.length_append,L.neq];rfl,?_,fun y hy z hz=>?_,fun y hy z hz=>?_,by rw [List.append_assoc];exact L.pm,fun y hy z hz=>?_,o.2⟩
 ·rw [List.append_assoc]
  refine bU.mpr ⟨q.1,List.pairwise_cons.mpr ⟨fun u hu=>?_,q.2.1⟩,fun v qO y hy=>?_⟩
  ·have g:=q.2.2 vl hv u hu
   rw [eO (L.uv u (List.mem_reverse.mp hu) vl hv)] at g
   exact cV.mpr (.inl (Or.elim (S.neg vl x u g) (fun q=>nomatch h2.symm.trans q) fun q=>q))
  ·exact Or.elim (List.mem_cons.mp hy) (fun e=>by rw [e];exact cV.mpr (.inr ⟨xv v qO,PM v qO⟩)) fun hy=>q.2.2 v qO y hy
 ·refine Or.elim (List.mem_append.mp hy) (fun hy=>Or.elim (List.mem_append.mp hz) (fun hz=>L.eqk y hy z hz) fun hz=>?_) fun hy=>Or.elim (List.mem_append.mp hz) (fun hz=>?_) fun hz=>?_
  ·rw [List.mem_singleton.mp hz];exact vx y hy
  ·rw [List.mem_singleton.mp hy];exact xv z hz
  ·rw [List.mem_singleton.mp hy,List.mem_singleton.mp hz];exact S.irr x
 ·exact Or.elim (List.mem_append.mp hz) (fun hz=>L.uv y hy z hz) fun hz=>by rw [List.mem_singleton.mp hz];exact L.bf y (List.mem_append_left _ hy) x List.mem_cons_self
 ·rw [←List.append_assoc] at hy
  exact Or.elim (List.mem_append.mp hy) (fun h=>L.bf y h z (List.mem_cons_of_mem _ hz)) fun h=>by rw [List.mem_singleton.mp h];exact o.1 z hz
theorem fy.rest {D V R' arr:List Keyed} {neq:Nat} (L:fy blt ord P R T D V R' n neq arr):n+R'.length=R.length:=by
 have h:=L.pm.length_eq
 rw [List.length_append,List.length_append,←Nat.add_assoc,L.len] at h
 exact h
theorem qr {V:List Keyed} {neq:Nat} (h:V.length=neq+1) (h0:¬ neq > 0):V.reverse=V:=by
 rw [Nat.eq_zero_of_not_pos h0] at h
 exact Exists.elim (List.length_eq_one_iff.mp h) fun v e=>by rw [e];rfl
theorem fy.turn {D V R':List Keyed} {arr:Array Keyed} {neq:Nat} (L:fy blt ord P R T D V R' n neq arr.toList) (hP:P.length=lo):(mirror arr (lo+n - (neq+1)) (lo+n) ((lo+n - (lo+n - (neq+1))) / 2)).toList=P++(D++(V.reverse++(R'++T))):=by
 have hn:lo+n - (neq+1)=lo+D.length:=by rw [←L.len,←L.neq,←Nat.add_assoc,Nat.add_sub_cancel]
 rw [←List.append_assoc]
 refine iF (by rw [L.arr,List.append_assoc]) (by rw [List.length_append,hP,hn]) ?_
 rw [hn,Nat.add_assoc,L.len]
variable {Q:Option Nat→SortSt→Prop}
theorem px (S:SO prog w A E s blt kd U) (hk:kindOf st=kd) (hP:P.length=lo) (hU:∀ x∈R,U x) (hR:R.length=c9) (h1:1≤n) (hs:cy st st') {D V R':List Keyed} {neq:Nat} {arr:List Keyed} (L:fy blt ord P R T D V R' n neq arr) (e:(arrOf st').toList=P++(D++(V.reverse++(R'++T))))
  (h:∀ n cB,1≤n→n≤c9→Dy blt ord P R T st n cB→Q (some n) cB):wpS (model prog w) A E s (AY lo n c9) Q st':=by
 have hl:(D++V.reverse).length=n:=by rw [List.length_append,List.length_reverse];exact L.len
 refine wpS_bind ?_
 rw [reverseSlice'_eq]
 have e2:(arrOf st').toList=P++((D++V.reverse)++(R'++T)):=by rw [e,List.append_assoc]
 have I:Dy blt ord P R T st n (setArr st' (mirror (arrOf st') lo (lo+n) ((lo+n - lo) / 2))):=by
  refine ⟨hs.arr _,(D++V.reverse).reverse,R',iF e2 hP (by rw [hl]),by rw [List.length_reverse];exact hl,by rw [List.reverse_append,List.reverse_reverse];exact L.so,?_,fun x hx=>L.bf x (nD (List.mem_reverse.mp hx)),L.asc⟩
  refine ((List.reverse_perm _).append_right _).trans (List.Perm.trans ?_ L.pm)
  rw [List.append_assoc]
  exact ((List.reverse_perm V).append_right _).append_left _
 have hn:n≤c9:=by rw [←hR,←L.rest];exact Nat.le_add_right _ _
 exact wpS_modify (wpS_bind (qV S hk hP hU hR h1 hn I (fun cB I2=>wpS_pure (h c9 cB (Nat.le_trans h1 hn) (Nat.le_refl _) I2)) fun m cB Z x R2 g1 g2 hs2 L2 _=>wpS_pure (h m cB g1 (Nat.le_of_lt g2) ⟨hs2,Z,_,L2⟩)))
noncomputable def EF (blt:Keyed→Keyed→Bool) (ord:Keyed→Nat) (P R T:List Keyed) (st:SortSt) (c:DS) (st':SortSt):Prop:=c.1=none∧cy st st'∧∃ D V R',fy blt ord P R T D V R' c.2.1 c.2.2 (arrOf st').toList
theorem x8 (S:SO prog w A E s blt kd U) (hk:kindOf st=kd) (hP:P.length=lo) (hU:∀ x∈R,U x) (hs:cy st st') {x:Nat} {c:DS} {D V R':List Keyed} {z:Keyed} (L:fy blt ord P R T D V (z::R') c.2.1 c.2.2 (arrOf st').toList) {Q:ForInStep DS→SortSt→Prop}
  (hd:∀ cB,cy st cB→fy blt ord P R T D V (z::R') c.2.1 c.2.2 (arrOf cB).toList→Q (.done (none,c.2.1,c.2.2)) cB) (hy:∀ m cB,EF blt ord P R T st (none,c.2.1+1,m) cB→Q (.yield (none,c.2.1+1,m)) cB):wpS (model prog w) A E s (DU lo x c) Q st':=by
 have hl:V.length - 1<V.length:=by rw [L.neq];exact Nat.lt_succ_self _
 have hm:=List.getElem_mem hl
 have hlen:D.length+V.length=c.2.1:=L.len
 have e1:(arrOf st').toList[lo+c.2.1]? = some z:=fA (n:=lo+c.2.1) (P:=P++(D++V)) (X:=[z]) (T:=R'++T) (i:=0) (by rw [L.arr,List.append_assoc,List.append_assoc];rfl) (by rw [List.length_append,List.length_append,hP,hlen]) Nat.one_pos
 have e2:(arrOf st').toList[lo+c.2.1 - 1]? = some V[V.length - 1]:=by
  rw [←hlen,←Nat.add_assoc,Nat.add_sub_assoc (by rw [L.neq];exact Nat.succ_pos _)]
  exact fA (P:=P++D) (T:=(z::R')++T) (by rw [L.arr,List.append_assoc]) (by rw [List.length_append,hP]) _ hl
 have uz:U z:=hU _ (L.pm.mem_iff.mp (List.mem_append_right _ (List.mem_append_right _ List.mem_cons_self)))
 have uv:U V[V.length - 1]:=hU _ (L.pm.mem_iff.mp (List.mem_append_right _ (List.mem_append_left _ hm)))
 refine wpS_bind (S.ltAt e1 e2 uz uv (hs.k.trans hk) ?_)
 cases hb:blt z V[V.length - 1] with
 | true =>
  have L2:=L.down S hm hb
  refine ca rfl (b0 (fun h0=>wpS_bind ?_) fun h0=>wpS_pure (hy 0 _ ⟨rfl,hs,D++V.reverse,[z],R',?_⟩))
  ·rw [reverseSlice'_eq]
   refine wpS_modify (wpS_pure (hy 0 _ ⟨rfl,hs.arr _,D++V.reverse,[z],R',?_⟩))
   have:=L2
   rw [←L.turn hP] at this
   exact this
  ·have:=L2
   have e3:P++(D++(V.reverse++((z::R')++T)))=(arrOf st').toList:=by rw [qr L.neq h0,L.arr]
   rw [e3] at this
   exact this
 | false =>
  refine bM Bool.false_ne_true (wpS_bind (S.ltAt e2 e1 uv uz (hs.k.trans hk) ?_))
  cases hc:blt V[V.length - 1] z with
  | true=>exact ca rfl (wpS_pure (hd _ hs L))
  | false=>exact bM Bool.false_ne_true (wpS_pure (hy _ _ ⟨rfl,hs,D,V++[z],R',L.same S hm hb hc⟩))
theorem x9 (S:SO prog w A E s blt kd U) (hk:kindOf st=kd) (hP:P.length=lo) (hU:∀ x∈R,U x) (hR:R.length=c9) (hn:n+1≤c9) (hs:cy st st') {D V R':List Keyed} (L:fy blt ord P R T D V R' (n+1) 0 (arrOf st').toList)
  (h:∀ n cB,1≤n→n≤c9→Dy blt ord P R T st n cB→Q (some n) cB):wpS (model prog w) A E s (u9 lo n c9) Q st':=by
 refine wpS_bind (wpS_lift (wpAny_rule ⟨rfl,?_⟩))
 refine wpS_bind (wpS_mono (wpS_forRange (I:=fun x (c:DS) cB=>c.2.1=x∧EF blt ord P R T st c cB) (Q:=fun (c:DS) cB=>1≤c.2.1∧EF blt ord P R T st c cB) (fun x c cB hx Jr q=>?_) (fun c cB q=>⟨?_,q.2⟩) ⟨rfl,rfl,hs,D,V,R',L⟩) fun c cB q=>?_)
 ·refine B6 q.2.2.2 fun D V R' L=>?_
  cases R' with
  | nil=>exact absurd Jr (by rw [←hR,←L.rest,q.1];exact Nat.lt_irrefl _)
  | cons z R'=>exact x8 S hk hP hU q.2.2.1 L (fun qQ H6 L3=>⟨by rw [q.1];exact Nat.le_trans (Nat.succ_pos n) hx,rfl,H6,D,V,z::R',L3⟩) fun m qQ I3=>⟨by rw [q.1],I3⟩
 ·rw [q.1,Nat.max_eq_right hn];exact Nat.le_trans (Nat.succ_pos n) hn
 ·rw [q.2.1]
  refine B6 q.2.2.2 fun D V R' L=>b0 (fun h0=>wpS_bind ?_) fun h0=>?_
  ·rw [reverseSlice'_eq]
   exact wpS_modify (px S hk hP hU hR q.1 (q.2.2.1.arr _) L (L.turn hP) h)
  ·exact px S hk hP hU hR q.1 q.2.2.1 L (by rw [qr L.neq h0];exact L.arr) h
theorem x7 (S:SO prog w A E s blt kd U) (hk:kindOf st=kd) (hP:P.length=lo) (hU:∀ x∈R,U x) (hn:1≤c9) (e:(arrOf st).toList=P++(R++T)) (hR:R.length=c9) (asc:R.Pairwise fun x y=>ord x<ord y)
  (h:∀ n cB,1≤n→n≤c9→Dy blt ord P R T st n cB→Q (some n) cB):wpS (model prog w) A E s (countRun' lo c9) Q st:=by
 rw [wH]
 have I:Dy blt ord P R T st 1 st:=by
  cases R with
  | nil=>rw [←hR] at hn;exact nomatch hn
  | cons x R=>exact ⟨cy.refl _,[x],R,e,rfl,List.pairwise_singleton _ _,.refl _,fun u hu v hv=>by rw [List.mem_singleton.mp hu];exact (List.pairwise_cons.mp asc).1 v hv,(List.pairwise_cons.mp asc).2⟩
 refine wpS_bind (qV S hk hP hU hR (Nat.le_refl 1) hn I (fun cB I2=>ca (beq_self_eq_true c9) (wpS_pure (h c9 cB hn (Nat.le_refl _) I2))) fun n cB Z x R' g1 g2 hs L Ou=>?_)
 refine bM (fun q=>Nat.ne_of_lt g2 (beq_iff_eq.mp q)) ?_
 have hl:Z.length - 1<Z.length:=by rw [L.len];exact Nat.sub_lt g1 Nat.one_pos
 have h0:0<Z.length:=Nat.lt_of_le_of_lt (Nat.zero_le _) hl
 have hx:=Ou hl
 have uZ:∀ z∈Z,U z:=fun z hz=>hU _ (L.pm.mem_iff.mp (List.mem_append_left _ hz))
 have o:=List.pairwise_cons.mp L.asc
 have Hp:∀ qQ,cy st qQ→(arrOf qQ).toList=P++(Z.reverse++((x::R')++T))→(∀ z∈Z,blt z Z[Z.length - 1]=false)→wpS (model prog w) A E s (u9 lo n c9) Q qQ:=fun qQ H6 e4 hq=>by
  have Pk:∀ z∈Z,rr blt ord x z=true:=fun z hz=>cV.mpr (.inl (Or.elim (S.neg x z _ hx) (fun q=>q) fun q=>nomatch (hq z hz).symm.trans q))
  refine x9 S hk hP hU hR g2 H6 (D:=Z.reverse) (V:=[x]) (R':=R') ⟨e4,by rw [List.length_reverse,L.len];rfl,rfl,by rw [List.reverse_reverse];exact List.pairwise_cons.mpr ⟨Pk,L.so⟩,fun y hy z hz=>?_,fun y hy z hz=>?_,((List.reverse_perm Z).append_right _).trans L.pm,fun y hy z hz=>?_,o.2⟩ h
  ·rw [List.mem_singleton.mp hy,List.mem_singleton.mp hz];exact S.irr x
  ·rw [List.mem_singleton.mp hz];exact L.bf y (List.mem_reverse.mp hy) x List.mem_cons_self
  ·exact Or.elim (List.mem_append.mp hy) (fun hy=>L.bf y (List.mem_reverse.mp hy) z (List.mem_cons_of_mem _ hz)) fun hy=>by rw [List.mem_singleton.mp hy];exact o.1 z hz
 refine b0 (fun MM=>?_) fun MM=>?_
 ·refine wpS_bind (S.ltAt (x:=Z[0]) (by rw [←Nat.add_zero lo];exact fA L.arr hP 0 h0) (L.last hP g1 hl) (uZ _ (List.getElem_mem h0)) (uZ _ (List.getElem_mem hl)) (hs.k.trans hk) ?_)
  cases hr:blt Z[0] Z[Z.length - 1] with
  | true=>exact ca rfl (wpS_pure (h n cB g1 (Nat.le_of_lt g2) ⟨hs,Z,_,L⟩))
  | false =>
   refine bM Bool.false_ne_true (wpS_bind ?_)
   rw [reverseSlice'_eq]
   refine wpS_modify (Hp _ (hs.arr _) (iF L.arr hP (by rw [L.len])) fun z hz=>S.eqv (y:=Z[0]) ?_ hr)
   refine Exists.elim (List.mem_iff_getElem.mp hz) fun i q=>Exists.elim q fun hi q=>?_
   refine Or.elim (Nat.eq_zero_or_pos i) (fun e=>?_) fun hp=>?_
   ·rw [←q]
    have:Z[i]=Z[0]:=by congr 1
    rw [this];exact S.irr _
   ·have g:=S.rasym _ _ (List.pairwise_iff_getElem.mp L.so 0 i h0 hi hp)
    rw [q] at g
    cases q2:blt z Z[0] with
    | false=>rfl
    | true=>rw [cV.mpr (.inl q2)] at g;exact nomatch g
 ·have e1:n=1:=Nat.le_antisymm (Nat.not_lt.mp MM) g1
  have hZ:Z.length=0+1:=L.len.trans e1
  refine Hp cB hs (by rw [qr hZ (Nat.lt_irrefl _)];exact L.arr) fun z hz=>?_
  refine Exists.elim (List.length_eq_one_iff.mp hZ) fun v ev=>?_
  have h1:z=v:=by rw [ev] at hz;exact List.mem_singleton.mp hz
  have h2:Z[Z.length - 1]=v:=List.mem_singleton.mp (ev ▸ List.getElem_mem hl)
  rw [h1,h2];exact S.irr v
end
noncomputable abbrev uO:=List Keyed×Nat
noncomputable def dw:Nat→List uO→List (Nat×Nat×Nat)
 | _,[]=>[]
 | n,b::t=>(n,b.1.length,b.2)::dw (n+b.1.length) t
noncomputable def aU:List uO→List Keyed
 | []=>[]
 | b::t=>b.1++aU t
theorem gk:∀ (L M:List uO),aU (L++M)=aU L++aU M
 | [],_=>rfl
 | b::L,M=>by
  show b.1++aU (L++M)=(b.1++aU L)++aU M
  rw [gk L M,List.append_assoc]
theorem gu:∀ (n:Nat) (L M:List uO),dw n (L++M)=dw n L++dw (n+(aU L).length) M
 | _,[],_=>rfl
 | n,b::L,M=>by
  show _::dw (n+b.1.length) (L++M)=_::(dw (n+b.1.length) L++dw (n+(b.1++aU L).length) M)
  rw [gu,List.length_append,Nat.add_assoc]
theorem j9:∀ (n:Nat) (L:List uO),(dw n L).length=L.length
 | _,[]=>rfl
 | n,b::L=>congrArg (· + 1) (j9 _ L)
theorem rz {x:Keyed} {b:uO}:∀ {L:List uO},b∈L→x∈b.1→x∈aU L
 | c::L,h,hx=>Or.elim (List.mem_cons.mp h) (fun e=>List.mem_append_left _ (e ▸ hx)) fun h=>List.mem_append_right _ (rz h hx)
theorem ry:∀ {L:List uO},(∀ b∈L,0<b.1.length)→L.length≤(aU L).length
 | [],_=>Nat.le_refl _
 | b::L,h=>by
  show L.length+1≤(b.1++aU L).length
  rw [List.length_append,Nat.add_comm]
  exact Nat.add_le_add (h b List.mem_cons_self) (ry fun c hc=>h c (List.mem_cons_of_mem _ hc))
theorem IH:∀ {n:Nat},1<n→n - 2+1<n
 | n+2,_=>Nat.lt_succ_self (n+1)
 | 0,h=>nomatch h
 | 1,h=>absurd h (Nat.lt_irrefl 1)
theorem lI {α:Type} (x:α) (f:α→α):∀ l:List α,(l++[x]).modify l.length f=l++[f x]
 | []=>rfl
 | a::l=>congrArg (a :: ·) (lI x f l)
section
variable {blt:Keyed→Keyed→Bool} {ord:Keyed→Nat} {kd:SortKind} {st:SortSt} {a₀ R Z:List Keyed} {L Bs T:List uO}
noncomputable def JB (ord:Keyed→Nat) (b c:uO):Prop:=∀ x∈b.1,∀ y∈c.1,ord x<ord y
structure Nv (blt:Keyed→Keyed→Bool) (ord:Keyed→Nat) (b:uO):Prop where
 pos:0<b.1.length
 so:jb (rr blt ord) b.1
structure jM (blt:Keyed→Keyed→Bool) (ord:Keyed→Nat) (kd:SortKind) (a₀:List Keyed) (Bs:List uO) (R:List Keyed) (st:SortSt):Prop where
 kind:kindOf st=kd
 failed:failedOf st=none
 pend:(pendingOf st).toList=dw 0 Bs
 arr:(arrOf st).toList=aU Bs++R
 ok:∀ b∈Bs,Nv blt ord b
 bf:(Bs++[(R,0)]).Pairwise (JB ord)
 pm:(aU Bs++R).Perm a₀
theorem jM.size (I:jM blt ord kd a₀ Bs R st):(pendingOf st).size=Bs.length:=by
 rw [←Array.length_toList,I.pend,j9]
theorem jM.len (I:jM blt ord kd a₀ Bs R st):(aU Bs).length+R.length=a₀.length:=by rw [←List.length_append];exact I.pm.length_eq
theorem jM.none (I:jM blt ord kd a₀ Bs R st) (h:a₀.length≤(aU Bs).length):R=[]:=by
 rw [←I.len] at h
 exact List.length_eq_zero_iff.mp (Nat.le_zero.mp (Nat.le_of_add_le_add_left (Nat.le_trans h (Nat.le_of_eq (Nat.add_zero _).symm))))
theorem xt {α:Type} (L:List α) (x y z:α) (T:List α):((L++x::y::T).set L.length z).eraseIdx (L.length+1)=L++z::T:=by
 rw [List.set_append_right _ _ (Nat.le_refl _),Nat.sub_self,List.eraseIdx_append_of_length_le (Nat.le_add_right _ 1),Nat.add_sub_cancel_left]
 rfl
theorem ER {α:Type} (L:List α) (x:α) (T:List α):(L++x::T)[L.length]? = some x:=by
 rw [List.getElem?_append_right (Nat.le_refl _),Nat.sub_self];rfl
theorem BJ {α:Type} (L:List α) (x y:α) (T:List α):(L++x::y::T)[L.length+1]? = some y:=by
 rw [List.getElem?_append_right (Nat.le_add_right _ 1),Nat.add_sub_cancel_left];rfl
theorem yO {X Y Z:List Keyed} {p q:Nat} (h:(L++(X,p)::(Y,q)::T).Pairwise (JB ord)) (hZ:∀ x∈Z,x∈X∨x∈Y):(L++(Z,p)::T).Pairwise (JB ord):=by
 have a:=List.pairwise_append.mp h
 have b:=List.pairwise_cons.mp a.2.1
 have c:=List.pairwise_cons.mp b.2
 refine List.pairwise_append.mpr ⟨a.1,List.pairwise_cons.mpr ⟨fun d hd x hx y hy=>?_,c.2⟩,fun e he d hd x hx y hy=>?_⟩
 ·exact Or.elim (hZ x hx) (fun hx=>b.1 d (List.mem_cons_of_mem _ hd) x hx y hy) fun hx=>c.1 d hd x hx y hy
 ·refine Or.elim (List.mem_cons.mp hd) (fun q=>?_) fun hd=>a.2.2 e he d (List.mem_cons_of_mem _ (List.mem_cons_of_mem _ hd)) x hx y hy
  rw [q] at hy
  exact Or.elim (hZ y hy) (fun hy=>a.2.2 e he _ List.mem_cons_self x hx y hy) fun hy=>a.2.2 e he _ (List.mem_cons_of_mem _ List.mem_cons_self) x hx y hy
theorem rX {b c d:uO} (h:b∈L++c::T):b=c∨b∈L++d::T :=
 Or.elim (List.mem_append.mp h) (fun h=>.inr (List.mem_append_left _ h)) fun h=>Or.elim (List.mem_cons.mp h) .inl fun h=>.inr (List.mem_append_right _ (List.mem_cons_of_mem _ h))
theorem jM.repower {X:List Keyed} {p:Nat} (I:jM blt ord kd a₀ (L++[(X,p)]) R st) (pw:Nat):jM blt ord kd a₀ (L++[(X,pw)]) R (setPending st ((pendingOf st).modify ((pendingOf st).size - 1) fun x=>(x.1,x.2.1,pw))):=by
 have eF:aU (L++[(X,pw)])=aU (L++[(X,p)]):=by rw [gk,gk];rfl
 refine ⟨I.kind,I.failed,?_,eF ▸ I.arr,fun b hb=>?_,?_,eF ▸ I.pm⟩
 ·show ((pendingOf st).modify _ _).toList=_
  rw [Array.toList_modify,I.size,I.pend,gu,gu,List.length_append]
  show List.modify (dw 0 L++[_]) L.length _=_
  rw [←j9 0 L]
  exact lI ..
 ·refine Or.elim (rX (d:=(X,p)) hb) (fun e=>?_) fun h=>I.ok b h
  have o:=I.ok (X,p) (List.mem_append_right _ List.mem_cons_self)
  rw [e];exact ⟨o.pos,o.so⟩
 ·have h:=I.bf
  rw [List.append_assoc] at h ⊢
  have a:=List.pairwise_append.mp h
  have b:=List.pairwise_cons.mp a.2.1
  exact List.pairwise_append.mpr ⟨a.1,List.pairwise_cons.mpr ⟨b.1,b.2⟩,fun e he d hd=>Or.elim (List.mem_cons.mp hd) (fun q=>by rw [q];exact a.2.2 e he (X,p) List.mem_cons_self) fun hd=>a.2.2 e he d (List.mem_cons_of_mem _ hd)⟩
theorem jM.push {n:Nat} (I:jM blt ord kd a₀ Bs (Z++R) st) (hn:Z.length=n) (hZ:0<n) (hs:jb (rr blt ord) Z) (zR:∀ x∈Z,∀ y∈R,ord x<ord y) :
  jM blt ord kd a₀ (Bs++[(Z,0)]) R (setPending st ((pendingOf st).push ((aU Bs).length,n,0))):=by
 have eF:aU (Bs++[(Z,0)])++R=aU Bs++(Z++R):=by
  rw [gk]
  show (aU Bs++(Z++[]))++R=_
  rw [List.append_nil,List.append_assoc]
 refine ⟨I.kind,I.failed,?_,eF ▸ I.arr,fun b hb=>?_,?_,eF ▸ I.pm⟩
 ·show ((pendingOf st).push _).toList=_
  rw [Array.toList_push,I.pend,gu,Nat.zero_add,←hn];rfl
 ·exact Or.elim (List.mem_append.mp hb) (I.ok b) fun h=>by rw [List.mem_singleton.mp h];exact ⟨hn ▸ hZ,hs⟩
 ·have a:=List.pairwise_append.mp I.bf
  rw [List.append_assoc]
  refine List.pairwise_append.mpr ⟨a.1,List.pairwise_cons.mpr ⟨fun c hc=>by rw [List.mem_singleton.mp hc];exact zR,List.pairwise_singleton _ _⟩,fun b hb c hc x hx y hy=>a.2.2 b hb _ List.mem_cons_self x hx y ?_⟩
  refine Or.elim (List.mem_cons.mp hc) (fun e=>?_) fun h=>?_
  ·rw [e] at hy;exact List.mem_append_left _ hy
  ·rw [List.mem_singleton.mp h] at hy;exact List.mem_append_right _ hy
end
section
variable {prog:Program} {w:World} {A:Around} {E:Value→Shared→Prop} {s:Shared} {blt:Keyed→Keyed→Bool} {ord:Keyed→Nat} {kd:SortKind} {U:Keyed→Prop} {st:SortSt} {a₀ R:List Keyed} {L Bs T:List uO}
theorem qH (S:SO prog w A E s blt kd U) {X Y:List Keyed} {p q i:Nat} {Q:Bool→SortSt→Prop} (hU:∀ x∈a₀,U x) (I:jM blt ord kd a₀ (L++(X,p)::(Y,q)::T) R st) (hi:L.length=i)
  (h:∀ Z st',jM blt ord kd a₀ (L++(Z,p)::T) R st'→Q true st'):wpS (model prog w) A E s (mergeAt' i) Q st:=by
 have hX:(X,p)∈L++(X,p)::(Y,q)::T:=List.mem_append_right _ List.mem_cons_self
 have hY:(Y,q)∈L++(X,p)::(Y,q)::T:=List.mem_append_right _ (List.mem_cons_of_mem _ List.mem_cons_self)
 have eF:aU (L++(X,p)::(Y,q)::T)=aU L++(X++(Y++aU T)):=by rw [gk];rfl
 have eP:(pendingOf st).toList=dw 0 L++((aU L).length,X.length,p)::((aU L).length+X.length,Y.length,q)::dw ((aU L).length+X.length+Y.length) T:=by
  rw [I.pend,gu,Nat.zero_add];rfl
 have hl:i=(dw 0 L).length:=hi.symm.trans (j9 0 L).symm
 have bf:=I.bf
 rw [List.append_assoc] at bf
 have Jt:∀ x∈X,∀ y∈Y,ord x<ord y:=(List.pairwise_cons.mp (List.pairwise_append.mp bf).2.1).1 (Y,q) List.mem_cons_self
 have uF:∀ b∈L++(X,p)::(Y,q)::T,∀ x∈b.1,U x:=fun b hb x hx=>hU x (I.pm.mem_iff.mp (List.mem_append_left _ (rz hb hx)))
 have M:MC prog w A E s (rr blt ord) (kindOf st) X Y:=⟨fun x hx y hy PX Q hk hq=>S.cmp y x (uF _ hY y hy) (uF _ hX x hx) PX Q (hk.trans I.kind) (by rw [←eO (blt:=blt) (Jt x hx y hy)];exact hq),S.rtrans,S.rasym,fun x hx y hy hr=>qt (Jt x hx y hy) hr,(I.ok _ hX).so,(I.ok _ hY).so⟩
 refine sV (P:=aU L) (X:=X) (Y:=Y) (T:=aU T++R) (sa:=(aU L).length) (pw:=p) (pw2:=q) ?_ ?_ ?_ rfl (I.ok _ hX).pos (I.ok _ hY).pos M I.failed fun Z st' hE hk ha hp hf=>?_
 ·rw [←Array.getElem?_toList,eP,hl];exact ER _ _ _
 ·rw [←Array.getElem?_toList,eP,hl];exact BJ _ _ _ _
 ·rw [I.arr,eF,List.append_assoc,List.append_assoc,List.append_assoc]
 ·have hZ:∀ x∈Z,x∈X∨x∈Y:=fun x hx=>List.mem_append.mp (hE.pm.mem_iff.mp hx)
  have MT:Z.length=X.length+Y.length:=by rw [hE.pm.length_eq,List.length_append]
  have MI:aU (L++(Z,p)::T)=aU L++(Z++aU T):=by rw [gk];rfl
  have pF:(aU (L++(Z,p)::T)).Perm (aU (L++(X,p)::(Y,q)::T)):=by
   rw [eF,MI,←List.append_assoc X]
   exact (hE.pm.append_right _).append_left _
  refine h Z st' ⟨hk.trans I.kind,hf,?_,?_,fun b hb=>?_,?_,(pF.append_right R).trans I.pm⟩
  ·rw [hp,Array.toList_eraseIdxIfInBounds,Array.toList_setIfInBounds,eP,hl,xt,gu,Nat.zero_add]
   show _=dw 0 L++(_,Z.length,p)::dw ((aU L).length+Z.length) T
   rw [MT,Nat.add_assoc]
  ·rw [ha,MI,List.append_assoc,List.append_assoc]
  ·refine Or.elim (rX (d:=(X,p)) hb) (fun e=>?_) fun h=>?_
   ·rw [e]
    exact ⟨by rw [MT];exact Nat.lt_of_lt_of_le (I.ok _ hX).pos (Nat.le_add_right _ _),hE.so⟩
   ·exact I.ok b (Or.elim (List.mem_append.mp h) (List.mem_append_left _) fun h=>List.mem_append_right _ (Or.elim (List.mem_cons.mp h) (fun e=>e ▸ List.mem_cons_self) fun h=>List.mem_cons_of_mem _ (List.mem_cons_of_mem _ h)))
  ·rw [List.append_assoc]
   exact yO bf hZ
theorem IC {α:Type} {l:List α} {i:Nat} (h:i+1<l.length):∃ L x y T,l=L++x::y::T∧L.length=i :=
 ⟨l.take i,l[i]'(Nat.lt_of_succ_lt h),l[i+1],l.drop (i+2),by rw [←List.drop_eq_getElem_cons,←List.drop_eq_getElem_cons,List.take_append_drop],by rw [List.length_take,Nat.min_eq_left (Nat.le_of_lt (Nat.lt_of_succ_lt h))]⟩
theorem kh (S:SO prog w A E s blt kd U) {i:Nat} {Q:Bool→SortSt→Prop} (hU:∀ x∈a₀,U x) (I:jM blt ord kd a₀ Bs R st) (hi:i+1<Bs.length)
  (h:∀ mf st',jM blt ord kd a₀ mf R st'→mf.length+1=Bs.length→Q true st'):wpS (model prog w) A E s (mergeAt' i) Q st:=by
 refine Kb (IC hi) fun L x y T e hL=>?_
 rw [e] at I
 refine qH (X:=x.1) (p:=x.2) (Y:=y.1) (q:=y.2) S hU I hL fun Z st' I'=>h _ st' I' ?_
 rw [e,List.length_append,List.length_append];rfl
noncomputable abbrev VS:Type:=Option Unit×Unit
noncomputable abbrev WS:Type:=Option Unit×Nat
noncomputable def DW (pw:Nat) (_:Nat) (_:VS):StateT SortSt Sem (ForInStep VS) :=
 get>>=fun st=>match (if (pendingOf st).size > 1 then (pendingOf st)[(pendingOf st).size - 2]? else none) with
 | some (_,_,older)=>if older≤pw then pure (.done (none,())) else mergeAt' ((pendingOf st).size - 2)>>=fun b=>if (!b)=true then pure (.done (some (),())) else pure (.yield (none,()))
 | _=>pure (.done (none,()))
noncomputable def At (lo n:Nat):StateT SortSt Sem (ForInStep WS):=(modify fun s=>setPending s ((pendingOf s).push (lo,n,0)))>>=fun _=>pure (.yield (none,lo+n))
noncomputable def v9 (je lo n:Nat):StateT SortSt Sem (ForInStep WS) :=
 get>>=fun st=>match (pendingOf st).back? with
 | some (s1,n1,_)=>forIn [0:je] ((none,()):VS) (DW (power' je (2 * s1+n1) (2 * s1+n1+n1+n) je))>>=fun r=>match r.1 with
  | some a=>pure (.done (some a,lo))
  | none=>(modify fun s=>setPending s ((pendingOf s).modify ((pendingOf s).size - 1) fun x=>(x.1,x.2.1,power' je (2 * s1+n1) (2 * s1+n1+n1+n) je)))>>=fun _=>At lo n
 | _=>At lo n
noncomputable def IF (je mr:Nat) (_:Nat) (c:WS):StateT SortSt Sem (ForInStep WS) :=
 if c.2 ≥ je then pure (.done (none,c.2)) else countRun' c.2 (je - c.2)>>=fun z=>match z with
 | some n=>if n<mr then (liftM (rule "list.sort.binary-insertion"):StateT SortSt Sem Unit)>>=fun _=>binarySort' c.2 (min (je - c.2) mr) n>>=fun b=>if (!b)=true then pure (.done (some (),c.2)) else v9 je c.2 (min (je - c.2) mr)
  else v9 je c.2 n
 | _=>pure (.done (some (),c.2))
noncomputable def Eu (p:Array (Nat×Nat×Nat)):Nat:=if (if p.size - 2 > 0 then p[p.size - 2 - 1]?.map (·.2.1) else none).any (· < (p[p.size - 2+1]?.elim 0 (·.2.1))) then p.size - 2 - 1 else p.size - 2
noncomputable def Kh (_:Nat) (_:VS):StateT SortSt Sem (ForInStep VS) :=
 get>>=fun st=>if (pendingOf st).size≤1 then pure (.done (none,())) else mergeAt' (Eu (pendingOf st))>>=fun b=>if (!b)=true then pure (.done (some (),())) else pure (.yield (none,()))
theorem CW:sortRuns'=(get>>=fun s=>forIn [0:(arrOf s).size] ((none,0):WS) (IF (arrOf s).size (minRun' (arrOf s).size (arrOf s).size 0))>>=fun c=>match c.1 with
 | some r=>pure r
 | none=>forIn [0:(arrOf s).size] ((none,()):VS) Kh>>=fun d=>match d.1 with
  | some r=>pure r
  | none=>pure ()):=by kernel_rfl
theorem yb (S:SO prog w A E s blt kd U) (hU:∀ x∈a₀,U x) (I:jM blt ord kd a₀ Bs R st) (h0:Bs≠[]) {pw x:Nat} {c:VS} {Q:ForInStep VS→SortSt→Prop} (hd:Q (.done (none,())) st) (hy:∀ mf st',jM blt ord kd a₀ mf R st'→mf≠[]→Q (.yield (none,())) st') :
  wpS (model prog w) A E s (DW pw x c) Q st:=by
 refine wpS_bind (wpS_get ?_)
 by_cases h2:(pendingOf st).size > 1
 ·rw [if_pos h2]
  split
  ·refine b0 (fun _=>wpS_pure hd) fun _=>?_
   rw [I.size] at h2 ⊢
   refine wpS_bind (kh S hU I (IH h2) fun mf st' I' hl=>bM Bool.false_ne_true (wpS_pure (hy mf st' I' fun e=>?_)))
   rw [e] at hl
   exact Nat.lt_irrefl _ (hl ▸ h2)
  ·exact wpS_pure hd
 ·rw [if_neg h2]
  exact wpS_pure hd
theorem CB {α:Type} {l:List α} (h:l≠[]):∃ L x,l=L++[x]:=⟨l.dropLast,l.getLast h,(List.dropLast_concat_getLast h).symm⟩
set_option tactic.hygienic true in
theorem yg (S:SO prog w A E s blt kd U) (hU:∀ x∈a₀,U x) {Z:List Keyed} {je n:Nat} (I:jM blt ord kd a₀ Bs (Z++R) st) (hn:Z.length=n) (hZ:0<n) (hs:jb (rr blt ord) Z) (zR:∀ x∈Z,∀ y∈R,ord x<ord y) {Q:ForInStep WS→SortSt→Prop}
  (h:∀ mf st',jM blt ord kd a₀ mf R st'→Q (.yield (none,(aU Bs).length+n)) st'):wpS (model prog w) A E s (v9 je (aU Bs).length n) Q st:=by
 have sO:∀ mf st',jM blt ord kd a₀ mf (Z++R) st'→wpS (model prog w) A E s (At (aU Bs).length n) Q st':=fun mf st' I'=>by
  refine wpS_bind (wpS_modify (wpS_pure (h (mf++[(Z,0)]) _ ?_)))
  have e:(aU mf).length=(aU Bs).length:=Nat.add_right_cancel (I'.len.trans I.len.symm)
  have:=I'.push hn hZ hs zR
  rw [e] at this
  exact this
 refine wpS_bind (wpS_get ?_)
 split
 ·rename_i s1 n1 p1 hb
  have eM:Bs≠[]:=fun e=>by
   have h1:(pendingOf st).toList=[]:=by rw [I.pend,e];rfl
   rw [Array.toList_eq_nil_iff.mp h1] at hb
   exact nomatch hb
  generalize power' je (2 * s1+n1) (2 * s1+n1+n1+n) je=pw
  refine wpS_bind (wpS_mono (wpS_forRange (I:=fun _ (c:VS) st'=>c.1=none∧∃ mf,jM blt ord kd a₀ mf (Z++R) st'∧mf≠[]) (fun x c st' _ _ q=>?_) (fun _ _ q=>q) ⟨rfl,Bs,I,eM⟩) fun c st' q=>?_)
  ·exact au q.2 fun mf I' h'=>yb S hU I' h' ⟨rfl,mf,I',h'⟩ fun B2 cB I2 h2=>⟨rfl,B2,I2,h2⟩
  ·rw [q.1]
   refine au q.2 fun mf I' h'=>oZ (CB h') fun L x e=>?_
   rw [e] at I'
   exact wpS_bind (wpS_modify (sO _ _ (jM.repower (X:=x.1) (p:=x.2) I' pw)))
 ·exact sO Bs st I
theorem Bd (S:SO prog w A E s blt kd U) {Q:Unit→SortSt→Prop} (hU:∀ x∈a₀,U x) (hk:kindOf st=kd) (hf:failedOf st=none) (hp:pendingOf st=#[]) (e:(arrOf st).toList=a₀) (asc:a₀.Pairwise fun x y=>ord x<ord y)
  (h:∀ Z st',jb (rr blt ord) Z→Z.Perm a₀→(arrOf st').toList=Z→failedOf st'=none→Q () st'):wpS (model prog w) A E s sortRuns' Q st:=by
 rw [CW]
 refine wpS_bind (wpS_get ?_)
 rw [show (arrOf st).size=a₀.length by rw [←Array.length_toList,e]]
 generalize minRun' a₀.length a₀.length 0=mr
 refine wpS_bind (wpS_mono (wpS_forRange (I:=fun x (c:WS) st'=>c.1=none∧∃ Bs R,jM blt ord kd a₀ Bs R st'∧(aU Bs).length=c.2∧R.Pairwise (fun x y=>ord x<ord y)∧(x≤c.2∨a₀.length≤c.2)) (Q:=fun (c:WS) st'=>c.1=none∧∃ Bs,jM blt ord kd a₀ Bs [] st') (fun x c st' _ hx q=>?_) (fun c st' q=>⟨q.1,?_⟩) ⟨rfl,[],a₀,⟨hk,hf,by rw [hp];rfl,e,(fun _ h=>nomatch h),List.pairwise_singleton _ _,.refl _⟩,rfl,asc,.inl (Nat.le_refl _)⟩) fun c st' q=>?_)
 ·refine Gx q.2 fun Bs R I hl ha LI=>?_
  have hlen:=I.len
  unfold IF
  rw [←hl]
  refine b0 (fun jk=>wpS_pure ⟨rfl,Bs,?_⟩) fun jk=>?_
  ·rw [I.none jk] at I;exact I
  have bQ:(aU Bs).length<a₀.length:=Nat.not_le.mp jk
  have hR:R.length=a₀.length - (aU Bs).length:=by rw [←hlen,Nat.add_sub_cancel_left]
  have LI:x≤(aU Bs).length:=Or.elim LI (fun h=>hl ▸ h) fun h=>absurd (hl ▸ h) jk
  have uR:∀ y∈R,U y:=fun y hy=>hU y (I.pm.mem_iff.mp (List.mem_append_right _ hy))
  -- the state behind a run found
  have az:∀ {n qQ Z' R'},cy st' qQ→eQ blt ord (aU Bs) R [] Z' R' n (arrOf qQ).toList→jM blt ord kd a₀ Bs (Z'++R') qQ:=fun {n qQ Z' R'} hs L=>by
   have a:=List.pairwise_append.mp I.bf
   refine ⟨hs.k.trans I.kind,hs.f.trans I.failed,by rw [hs.p];exact I.pend,by rw [L.arr,List.append_nil],I.ok,List.pairwise_append.mpr ⟨a.1,List.pairwise_singleton _ _,fun b hb c hc=>?_⟩,(L.pm.append_left _).trans I.pm⟩
   rw [List.mem_singleton.mp hc]
   exact fun x hx y hy=>a.2.2 b hb _ List.mem_cons_self x hx y (L.pm.mem_iff.mp hy)
  have step:∀ {P:ForInStep WS→SortSt→Prop},(∀ c' Mn,(c'.1=none∧∃ Bs R,jM blt ord kd a₀ Bs R Mn∧(aU Bs).length=c'.2∧R.Pairwise (fun x y=>ord x<ord y)∧(x+1≤c'.2∨a₀.length≤c'.2))→P (.yield c') Mn)→∀ {n qQ Z' R'},1≤n→cy st' qQ→eQ blt ord (aU Bs) R [] Z' R' n (arrOf qQ).toList→wpS (model prog w) A E s (v9 a₀.length (aU Bs).length n) P qQ:=fun {P} hP {n qQ Z' R'} h1 hs L =>
   yg S hU (az hs L) L.len h1 L.so L.bf fun mf Mn I4=>hP _ _ ⟨rfl,mf,R',I4,Nat.add_right_cancel ((I4.len.trans hlen.symm).trans (by rw [Nat.add_assoc,L.rest])),L.asc,.inl (Nat.add_le_add LI h1)⟩
  refine wpS_bind (x7 S I.kind (P:=aU Bs) (R:=R) (T:=[]) rfl uR (Nat.sub_pos_of_lt bQ) (by rw [List.append_nil];exact I.arr) hR ha fun n cB qN vq hA=>fv (show ∃ Z R',cy st' cB∧eQ blt ord (aU Bs) R [] Z R' n (arrOf cB).toList from Exists.elim hA.2 fun Z q=>Exists.elim q fun R' L=>⟨Z,R',hA.1,L⟩) fun Z R' hs L=>?_)
  refine b0 (fun OY=>wpS_bind (wpS_lift (wpAny_rule ⟨rfl,?_⟩))) fun _=>step (fun _ _ q=>q) qN hs L
  have tX:min (a₀.length - (aU Bs).length) mr≤R.length:=by rw [hR];exact Nat.min_le_left _ _
  have HW:n≤min (a₀.length - (aU Bs).length) mr:=Nat.le_min.mpr ⟨vq,Nat.le_of_lt OY⟩
  generalize min (a₀.length - (aU Bs).length) mr=force at tX HW
  have jm:=L.rest
  have ht:force - n≤R'.length:=by
   rw [←jm] at tX
   exact Nat.sub_le_iff_le_add'.mpr tX
  have Kt:=List.take_append_drop (force - n) R'
  have Hg:=L.asc
  rw [←Kt] at Hg
  have sp:=List.pairwise_append.mp Hg
  have L1:eQ blt ord (aU Bs) (Z++R'.take (force - n)) (R'.drop (force - n)) Z (R'.take (force - n)) Z.length (arrOf cB).toList:=⟨by rw [L.arr,List.append_nil,Kt],rfl,L.so,.refl _,fun y hy z hz=>L.bf y hy z (List.mem_of_mem_take hz),sp.1⟩
  rw [←L.len]
  refine wpS_bind (sU S (hs.k.trans I.kind) rfl (fun y hy=>uR y (L.pm.mem_iff.mp (Or.elim (List.mem_append.mp hy) (List.mem_append_left _) fun hy=>List.mem_append_right _ (List.mem_of_mem_take hy)))) (by rw [L.len];exact qN) (by rw [L.len,List.length_take,Nat.min_eq_left ht,Nat.add_sub_cancel' HW]) L1 fun Z' qQ H6 L3=>bM Bool.false_ne_true (step (fun _ _ q=>q) (Z':=Z') (R':=R'.drop (force - n)) (Nat.le_trans qN HW) (hs.trans H6) ?_))
  have pm:=L3.pm
  rw [List.append_nil] at pm
  refine ⟨by rw [L3.arr,List.append_nil,List.nil_append],L3.len,L3.so,?_,fun y hy z hz=>?_,sp.2.1⟩
  ·refine (pm.append_right _).trans ?_
   rw [List.append_assoc,Kt];exact L.pm
  ·exact Or.elim (List.mem_append.mp (pm.mem_iff.mp hy)) (fun hy=>L.bf y hy z (List.mem_of_mem_drop hz)) fun hy=>sp.2.2 y hy z hz
 ·refine Gx q.2 fun Bs R I hl ha hx=>⟨Bs,?_⟩
  have h2:a₀.length≤(aU Bs).length:=Or.elim hx (fun h=>by rw [Nat.max_eq_right (Nat.zero_le _)] at h;exact hl ▸ h) fun h=>hl ▸ h
  rw [I.none h2] at I;exact I
 ·rw [q.1]
  refine Exists.elim q.2 fun Bs I=>?_
  have hlen:=I.len
  refine wpS_bind (wpS_mono (wpS_forRange (I:=fun x (d:VS) cB=>d.1=none∧∃ Bs,jM blt ord kd a₀ Bs [] cB∧(Bs.length+x≤a₀.length+1∨Bs.length≤1)) (Q:=fun (d:VS) cB=>d.1=none∧∃ Bs,jM blt ord kd a₀ Bs [] cB∧Bs.length≤1) (fun x d cB _ hx q=>?_) (fun d cB q=>⟨q.1,?_⟩) ⟨rfl,Bs,I,.inl (Nat.le_succ_of_le (hlen ▸ ry fun b hb=>(I.ok b hb).pos))⟩) fun d cB q=>?_)
  ·refine au q.2 fun Bs I hl=>wpS_bind (wpS_get ?_)
   unfold Eu
   rw [I.size]
   refine b0 (fun h1=>wpS_pure ⟨rfl,Bs,I,h1⟩) fun h1=>?_
   have hl2:=Nat.not_le.mp h1
   have p2:=IH hl2
   have Mk:∀ (c:Prop) [Decidable c],(if c then Bs.length - 2 - 1 else Bs.length - 2)+1<Bs.length:=fun c _=>by
    split
    ·exact Nat.lt_of_le_of_lt (Nat.succ_le_succ (Nat.sub_le _ _)) p2
    ·exact p2
   refine wpS_bind (kh S hU I (Mk _) fun mf qQ I' h2=>bM Bool.false_ne_true (wpS_pure ⟨rfl,mf,I',.inl ?_⟩))
   have ed:Bs.length+x≤a₀.length+1:=Or.elim hl (fun h=>h) fun h=>absurd h h1
   rw [←h2,Nat.add_right_comm] at ed
   exact ed
  ·refine au q.2 fun Bs I hl=>⟨Bs,I,Or.elim hl (fun h=>?_) fun h=>h⟩
   rw [Nat.max_eq_right (Nat.zero_le _),Nat.add_comm] at h
   exact Nat.le_of_add_le_add_left h
  ·rw [q.1]
   refine au q.2 fun Bs I hl=>wpS_pure ?_
   match Bs,I,hl with
   | [],I,_=>exact h [] cB .nil I.pm I.arr I.failed
   | [b],I,_ =>
    have eF:aU [b]++[]=b.1:=by show (b.1++[])++[]=b.1;rw [List.append_nil,List.append_nil]
    exact h b.1 cB (I.ok b List.mem_cons_self).so (eF ▸ I.pm) (eF ▸ I.arr) I.failed
   | _::_::_,_,hl=>exact absurd hl (Nat.not_le.mpr (Nat.succ_lt_succ (Nat.succ_pos _)))
end
end Lar
namespace Lar
open PySem PyProof.Rows PySem.W
theorem j0:∀ (x y:List Int),bJ x y=true→bJ y x=false
 | [],[],h=>nomatch h
 | [],_::_,_=>rfl
 | _::_,[],h=>nomatch h
 | a::x,b::y,h=>by
  replace h:(decide (a<b)||(a==b&&bJ x y))=true:=h
  show (decide (b<a)||(b==a&&bJ y x))=false
  simp only [Bool.or_eq_true,decide_eq_true_eq,Bool.and_eq_true,beq_iff_eq] at h
  rw [Bool.or_eq_false_iff,decide_eq_false_iff_not,Bool.and_eq_false_iff,beq_eq_false_iff_ne]
  rcases h with h | ⟨rfl,h⟩
  ·exact ⟨Int.not_lt.mpr (Int.le_of_lt h),.inl (Int.ne_of_gt h)⟩
  ·exact ⟨Int.lt_irrefl _,.inr (j0 x y h)⟩
theorem o8:∀ (x y z:List Int),bJ x y=true→bJ y z=true→bJ x z=true
 | [],[],_,h,_=>nomatch h
 | [],_::_,[],_,h=>nomatch h
 | [],_::_,_::_,_,_=>rfl
 | _::_,[],_,h,_=>nomatch h
 | _::_,_::_,[],_,h=>nomatch h
 | a::x,b::y,c::z,h,h'=>by
  replace h:(decide (a<b)||(a==b&&bJ x y))=true:=h
  replace h':(decide (b<c)||(b==c&&bJ y z))=true:=h'
  show (decide (a<c)||(a==c&&bJ x z))=true
  simp only [Bool.or_eq_true,decide_eq_true_eq,Bool.and_eq_true,beq_iff_eq] at h h' ⊢
  rcases h with h | ⟨rfl,h⟩
  ·rcases h' with h' | ⟨rfl,_⟩
   ·exact .inl (Int.lt_trans h h')
   ·exact .inl h
  ·rcases h' with h' | ⟨rfl,h'⟩
   ·exact .inl h'
   ·exact .inr ⟨rfl,o8 x y z h h'⟩
theorem j3:∀ (x y z:List Int),bJ x z=true→bJ x y=true∨bJ y z=true
 | [],_,[],h=>nomatch h
 | [],[],_::_,_=>.inr rfl
 | [],_::_,_::_,_=>.inl rfl
 | _::_,_,[],h=>nomatch h
 | _::_,[],_::_,_=>.inr rfl
 | a::x,b::y,c::z,h=>by
  replace h:(decide (a<c)||(a==c&&bJ x z))=true:=h
  show (decide (a<b)||(a==b&&bJ x y))=true∨(decide (b<c)||(b==c&&bJ y z))=true
  simp only [Bool.or_eq_true,decide_eq_true_eq,Bool.and_eq_true,beq_iff_eq] at h ⊢
  rcases Int.lt_trichotomy a b with Bm | rfl | Bm
  ·exact .inl (.inl Bm)
  ·rcases h with h | ⟨rfl,h⟩
   ·exact .inr (.inl h)
   ·refine Or.elim (j3 x y z h) (fun q=>?_) (fun q=>?_)
    ·exact .inl (.inr ⟨rfl,q⟩)
    ·exact .inr (.inr ⟨rfl,q⟩)
  ·rcases h with h | ⟨rfl,_⟩
   ·exact .inr (.inl (Int.lt_trans Bm h))
   ·exact .inr (.inl Bm)
theorem vK:∀ (x y:List Int),bJ x y=false→bJ y x=false→x=y
 | [],[],_,_=>rfl
 | [],_::_,h,_=>nomatch h
 | _::_,[],_,h=>nomatch h
 | a::x,b::y,h,h'=>by
  replace h:(decide (a<b)||(a==b&&bJ x y))=false:=h
  replace h':(decide (b<a)||(b==a&&bJ y x))=false:=h'
  rw [Bool.or_eq_false_iff,decide_eq_false_iff_not,Bool.and_eq_false_iff,beq_eq_false_iff_ne] at h h'
  have e:a=b:=Int.le_antisymm (Int.not_lt.mp h'.1) (Int.not_lt.mp h.1)
  subst e
  rw [vK x y (h.2.resolve_left fun q=>q rfl) (h'.2.resolve_left fun q=>q rfl)]
inductive th (h:Heap):Value→List Int→Prop
 | one (k:Int) (t:Tok):th h (.int k t) [k]
 | two {a:Addr} (x y:Int) (t u:Tok):h.IsTuple a #[.int x t,.int y u]→th h (.ref a) [x,y]
noncomputable def GM (h:Heap):Value→List Int
 | .int k _=>[k]
 | .ref a=>match h.get? a with
  | some o=>match o.data with
   | .seq xs _=>xs.toList.map numOf
   | _=>[]
  | none=>[]
 | _=>[]
theorem th.eq {h:Heap} {v:Value} {l:List Int} (x:th h v l):GM h v=l:=by
 cases x with
 | one=>rfl
 | two x y t u ht =>
  obtain ⟨o,ho,_,n,hd⟩:=ht
  show (match h.get? _ with
   | some o=>match o.data with
    | .seq xs _=>xs.toList.map numOf
    | _=>[]
   | none=>[])=_
  rw [ho]
  dsimp only
  rw [hd]
  rfl
section
variable {prog:Program} {w:World} {A:Around} {E:Value→Shared→Prop} {s:Shared}
theorem F2 {x y:Addr} {a b c d:Int} {t u v z:Tok} {Q:Bool→Shared→Prop} (hx:s.heap.IsTuple x #[.int a t,.int b u]) (hy:s.heap.IsTuple y #[.int c v,.int d z]) (h:Q (bJ [a,b] [c,d]) s) :
  wpAny (model prog w) A (keyLt' (tuples' true) (.ref x) (.ref y)) Q E s:=by
 obtain ⟨ox,O5,_,nx,OE⟩:=hx
 obtain ⟨oy,O6,_,ny,KJ⟩:=hy
 refine kat_lt O5 OE O6 KJ (kat_cons (wpAny_eqBool_int ?_))
 have e:bJ [a,b] [c,d]=(decide (a<c)||(a==c&&(decide (b<d)||(b==d&&false)))):=rfl
 rw [e] at h
 cases hac:a==c with
 | true =>
  have Ks:a=c:=beq_iff_eq.mp hac
  refine kat_yes (kat_cons (wpAny_eqBool_int ?_))
  rw [hac,Ks,decide_eq_false (Int.lt_irrefl c),Bool.false_or,Bool.true_and] at h
  cases hbd:b==d with
  | true =>
   have Ku:b=d:=beq_iff_eq.mp hbd
   rw [Ku,decide_eq_false (Int.lt_irrefl d),Bool.and_false,Bool.false_or] at h
   exact kat_yes (kat_nil h)
  | false =>
   rw [Bool.and_false,Bool.or_false] at h
   refine kat_no (kat_one _ _ (lt_int ?_))
   exact h
 | false =>
  rw [hac,Bool.false_and,Bool.or_false] at h
  exact kat_no (oneLt_int h)
theorem Dg {kd:SortKind} {n:Nat} (hk:(n=1∧kd=oneType')∨(n=2∧kd=tuples' true)) :
  SO prog w A E s (fun x y=>bJ (GM s.heap x.1) (GM s.heap y.1)) kd (fun x=>∃ l,th s.heap x.1 l∧l.length=n):=by
 refine ⟨fun x y hx hy st Q gV hq=>?_,fun x y=>j0 _ _,fun x y z=>o8 _ _ _,fun x y z=>j3 _ _ _⟩
 obtain ⟨lx,kx,nx⟩:=hx
 obtain ⟨ly,ky,ny⟩:=hy
 rw [kx.eq,ky.eq] at hq
 rw [lt'_eq]
 refine wpS_bind (wpS_get ?_)
 rw [gV]
 obtain ⟨vx,ix⟩:=x
 obtain ⟨vy,iy⟩:=y
 rcases hk with ⟨rfl,rfl⟩ | ⟨rfl,rfl⟩
 ·cases kx with
  | two _ _ _ _ _=>exact nomatch nx
  | one k t =>
   cases ky with
   | two _ _ _ _ _=>exact nomatch ny
   | one k' t' =>
    rw [keyLt'_oneType]
    refine wpS_bind (wpS_lift (wpAny_attempt (oneLt_int ⟨rfl,?_⟩)))
    refine wpS_pure ?_
    have e:bJ [k] [k']=(decide (k<k')||(k==k'&&false)):=rfl
    rw [e,Bool.and_false,Bool.or_false] at hq
    exact hq
 ·cases kx with
  | one _ _=>exact nomatch nx
  | two a b t u hx =>
   cases ky with
   | one _ _=>exact nomatch ny
   | two c d v z hy=>exact wpS_bind (wpS_lift (wpAny_attempt (F2 hx hy ⟨rfl,wpS_pure hq⟩)))
end
theorem vG {p q:KP} (h:jd p q=true):jd q p=false:=by
 unfold jd at h ⊢
 cases h1:bJ p.1 q.1 with
 | true=>rw [j0 _ _ h1];rfl
 | false =>
  rw [h1] at h
  cases h2:bJ q.1 p.1 with
  | true=>rw [h2] at h;exact nomatch h
  | false =>
   rw [h2] at h
   have h:decide (p.2<q.2)=true:=h
   show (false||(!false&&decide (q.2<p.2)))=false
   rw [decide_eq_false (Int.not_lt.mpr (Int.le_of_lt (of_decide_eq_true h)))];rfl
theorem zS {p q:KP} (h:jd p q=false):p=q∨jd q p=true:=by
 unfold jd at h ⊢
 rw [Bool.or_eq_false_iff] at h
 cases h2:bJ q.1 p.1 with
 | true=>exact .inr rfl
 | false =>
  rw [h2] at h
  have h3:decide (p.2<q.2)=false:=h.2
  have e:=vK _ _ h.1 h2
  rcases Int.lt_trichotomy q.2 p.2 with g | g | g
  ·refine .inr ?_
   rw [h.1,decide_eq_true g];rfl
  ·exact .inl (Prod.ext e g.symm)
  ·exact absurd g (of_decide_eq_false h3)
theorem zT {p q r:KP} (h:jd p q=true) (h':jd q r=true):jd p r=true:=by
 unfold jd at h h' ⊢
 cases h1:bJ p.1 r.1 with
 | true=>rfl
 | false =>
  refine Or.elim (Bool.or_eq_true_iff.mp h) (fun a=>?_) (fun a=>?_)
  ·refine Or.elim (j3 _ r.1 _ a) (fun b=>?_) (fun b=>?_)
   ·rw [h1] at b;exact nomatch b
   ·refine Or.elim (Bool.or_eq_true_iff.mp h') (fun c=>?_) (fun c=>?_)
    ·rw [j0 _ _ b] at c;exact nomatch c
    ·rw [b] at c;exact nomatch c
  ·refine aJ (Bool.and_eq_true_iff.mp a) fun a1 a2=>?_
   refine Or.elim (Bool.or_eq_true_iff.mp h') (fun c=>?_) (fun c=>?_)
   ·refine Or.elim (j3 _ p.1 _ c) (fun b=>?_) (fun b=>?_)
    ·rw [b] at a1;exact nomatch a1
    ·rw [h1] at b;exact nomatch b
   ·refine aJ (Bool.and_eq_true_iff.mp c) fun c1 c2=>?_
    cases h2:bJ r.1 p.1 with
    | true =>
     refine Or.elim (j3 _ q.1 _ h2) (fun b=>?_) (fun b=>?_)
     ·rw [b] at c1;exact nomatch c1
     ·rw [b] at a1;exact nomatch a1
    | false =>
     show (false||(!false&&decide (p.2<r.2)))=true
     rw [decide_eq_true (Int.lt_trans (of_decide_eq_true a2) (of_decide_eq_true c2))];rfl
theorem kN (p:KP):∀ l:List KP,(wX p l).Perm (p::l)
 | []=>.refl _
 | q::r=>by
  unfold wX
  split
  ·exact ((kN p r).cons q).trans (.swap ..)
  ·exact .refl _
theorem eu:∀ l:List KP,(dT l).Perm l
 | []=>.refl _
 | p::r=>(kN p _).trans ((eu r).cons p)
noncomputable def jL (p q:KP):Prop:=jd q p=false
theorem ua {p q r:KP} (h:jL p q) (h':jL q r):jL p r:=by
 unfold jL at *
 cases h2:jd r p with
 | false=>rfl
 | true =>
  refine Or.elim (zS h) (fun e=>?_) (fun e=>?_)
  ·subst e;rw [h2] at h';exact nomatch h'
  ·rw [zT h2 e] at h';exact nomatch h'
set_option tactic.hygienic true in
theorem lD (p:KP):∀ {l:List KP},l.Pairwise jL→(wX p l).Pairwise jL
 | [],_=>List.pairwise_cons.mpr ⟨(fun _ h=>nomatch h),.nil⟩
 | q::r,h=>by
  refine aJ (List.pairwise_cons.mp h) fun h1 h2=>?_
  unfold wX
  split
  ·rename_i hq
   refine List.pairwise_cons.mpr ⟨fun z hz=>?_,lD p h2⟩
   rcases List.mem_cons.mp ((kN p r).mem_iff.mp hz) with rfl | hz
   ·exact vG hq
   ·exact h1 z hz
  ·rename_i hq
   have M5:jL p q:=Bool.eq_false_iff.mpr hq
   refine List.pairwise_cons.mpr ⟨fun z hz=>?_,h⟩
   rcases List.mem_cons.mp hz with rfl | hz
   ·exact M5
   ·exact ua M5 (h1 z hz)
theorem gO:∀ l:List KP,(dT l).Pairwise jL
 | []=>.nil
 | p::r=>lD p (gO r)
theorem sG {l m:List KP} (hp:m.Perm l) (hs:m.Pairwise jL):m=dT l :=
 List.Perm.eq_of_pairwise (le:=jL) (fun a b _ _ g1 g2=>by
  refine Or.elim (zS g1) (fun e=>?_) (fun e=>?_)
  ·exact e.symm
  ·rw [g2] at e;exact nomatch e) hs (gO l) (hp.trans (eu l).symm)
end Lar
namespace Lar
open PySem PyProof.Rows PySem.Calls PySem.SeqAt
theorem qi {g:G} {φ:List Addr} {h:Heap} {v:V} {a:Value} {l:List Int} (hk:oA v=some l) (x:VR g φ h v a):th h a l∧((l.length=1∧∃ k t,a=.int k t)∨(l.length=2∧∃ c o xs n k t,a=.ref c∧h.get? c=some o∧o.cls=.type "tuple" ∧ o.data=.seq xs n∧xs[0]? = some (.int k t))):=by
 revert hk;apply VR.el x
 case int =>
  intro i t hk
  apply db hk
  exact ⟨.one i t,.inl ⟨rfl,i,t,rfl⟩⟩
 case tup =>
  intro m c vs ht hz hv hn hk
  match m,hk,hv with
  | [],hk,_=>exact no hk
  | [_],hk,_=>exact no hk
  | _::_::_::_,hk,_=>exact no hk
  | [p,q],hk,hv =>
   refine aK (m:=mE p) hk fun i hi hk=>?_
   refine aK hk fun j hj hk=>?_
   apply db hk
   refine kF (uG hv) fun ap aq q3 hp hq=>?_;subst q3
   refine Exists.elim (vI hi hp) fun t q2=>?_;subst q2
   refine Exists.elim (vI hj hq) fun u q2=>?_;subst q2
   refine ⟨.two i j t u ht,.inr ⟨rfl,?_⟩⟩
   obtain ⟨o,ho,hc,n,hd⟩:=ht
   exact ⟨c,o,_,n,i,t,rfl,ho,hc,hd,rfl⟩
 case none=>intro hk;exact no hk
 case bool=>intro _ hk;exact no hk
 case str=>intro _ _ hk;exact no hk
 case ref=>intro _ _ _ hk;exact no hk
 case ro=>intro _ _ _ _ _ _ hk;exact no hk
inductive cK:List V→List KP→Prop
 | nil:cK [] []
 | cons {v:V} {p:KP} {vs:List V} {ps:List KP}:oA v=some p.1→cK vs ps→cK (v::vs) (p::ps)
section
variable {g:G} {A:Around} {E:Value→Shared→Prop} {φ:List Addr} {σ:ag} {s:Shared}
structure I6 (g:G) (φ:List Addr) (σ:ag) (s₀:Shared) (a kS:Addr) (e1:Nat) (kvs:List V) (i:Nat) (s':Shared):Prop where
 S:SE φ s₀.heap φ s'.heap
 R:ak g φ σ s'.heap
 T:bx s₀ s'
 ha:s'.heap.get? a=some (seqObj "list" #[] e1)
 hk:∃ kA e,s'.heap.get? kS=some (seqObj "list" kA e)∧bq g φ s'.heap (kvs.take i) kA.toList
noncomputable def G0 (g:G) (φ:List Addr) (σ:ag) (v:V) (s':Shared) (k:Value) (kY:Shared):Prop:=SE φ s'.heap φ kY.heap∧ak g φ σ kY.heap∧bx s' kY∧VR g φ kY.heap v k
theorem nM {c:String} {xs:Array Value} {n:Nat} (hc:c = "list"):¬ ic (seqObj c xs n):=by apply aO hc;exact kT rfl
theorem SE.mvOne {aW h h':Heap} {a:Addr} (S:SE φ aW φ h) (R':ak g φ σ h') (hs:Heap.SameBut a h h') (h0:aW.get? a=none):SE φ aW φ h' :=
 cu.mv (wr:=[a]) S R' (fun b o hb _ e=>hs.extBut b o (by simpa using hb) e) (fun _ q=>q) (by simpa using h0)
theorem mz {h h':Heap} {a:Addr} {xs:Array Value} {n:Nat} (R:ak g φ σ h) (hs:Heap.SameBut a h h') (ho:h.get? a=some (seqObj "list" xs n)) (ha:a∉φ) (hB:g.B.get? a=none):ak g φ σ h' :=
 R.other ha hB (fun b o hb e=>hs.extBut b o hb e) fun o e=>by rw [ho] at e;cases e;exact nM rfl
theorem Dp {h h':Heap} {a:Addr} {xs:Array Value} {n:Nat} (hs:Heap.SameBut a h h') (ho:h.get? a=some (seqObj "list" xs n)) {l:List V} {vs:List Value} (x:bq g φ h l vs):bq g φ h' l vs :=
 x.stepT (fun _ _ e=>e) fun b o e hh hn=>⟨hs.extBut b o (by rintro rfl;rw [ho] at e;cases e;exact nM rfl hh) e,hn⟩
set_option maxHeartbeats 1000000 in
theorem zP {s₀:Shared} {a kS:Addr} {e1:Nat} {kvs:List V} {st:SortSt} {bw:List V} {P:PySem.Fin→Shared→Prop} (K:I6 g φ σ s₀ a kS e1 kvs kvs.length s) (zw:kS≠a) (l8:a∉φ) (tV:kS∉φ) (DZ:s₀.heap.get? a=none) (lB:s₀.heap.get? kS=none) (D1:g.B.get? a=none) (GF:g.B.get? kS=none)
  (hz:kvs.length≤100000) (gV:(arrOf st).size=kvs.length) (hf:failedOf st=none) (FD:∀ h,bq g φ h bw ((arrOf st).map (·.2)).toList)
  (h:∀ h' tk c,SE φ s₀.heap φ h'→ak g φ σ h'→bx s₀ {s with heap:=h',toks:=tk}→h'.get? a=some (seqObj "list" ((arrOf st).map (·.2)) c)→P (.done (.ret .none)) {s with heap:=h',toks:=tk}) :
  wpAny (model g.prog g.w) A (ksk_tail a false e1 (.ref kS) st) P E s:=by
 refine fv K.hk fun kA e hk qM=>?_
 have hlen:kA.size≤kvs.length:=by
  have h1:=qM.length
  rw [List.take_length] at h1
  rw [h1,Array.length_toList];exact Nat.le_refl _
 have sl:(100000:Nat)≤sizeLine:=Nat.le_of_ble_eq_true rfl
 have s1:=Heap.SameBut.update s.heap kS (Obj.mapSeq fun _=>(#[]:Array Value))
 have R1:=mz K.R s1 hk tV GF
 have S1:=SE.mvOne K.S R1 s1 lB
 have Jx:(s.heap.update kS (Obj.mapSeq fun _=>(#[]:Array Value))).get? a=some (seqObj "list" #[] e1):=(s1.2 a zw.symm).trans K.ha
 have s2:=Heap.SameBut.update (s.heap.update kS (Obj.mapSeq fun _=>(#[]:Array Value))) a (Obj.mapSeq fun _=>(arrOf st).map (·.2))
 have R2:=mz R1 s2 Jx l8 D1
 have S2:=SE.mvOne S1 R2 s2 DZ
 obtain ⟨c2,GC⟩:∃ c2,((s.heap.update kS (Obj.mapSeq fun _=>(#[]:Array Value))).update a (Obj.mapSeq fun _=>(arrOf st).map (·.2))).get? a=some (seqObj "list" ((arrOf st).map (·.2)) c2):=⟨_,get?_update_seq Jx fun _=>(arrOf st).map (·.2)⟩
 unfold ksk_tail
 try dsimp only
 refine wpAny_bind (listUpdate_at hk rfl ?_ (Nat.le_trans hlen (Nat.le_trans hz sl)) (Nat.zero_le _))
 refine wpAny_bind (wpAny_letGo ?_)
 refine wpAny_bind (seqEpoch_at Jx rfl ?_)
 refine wpAny_bind (listUpdate_at Jx rfl ?_ (Nat.zero_le _) (Nat.le_trans (Nat.le_of_eq (Array.size_map ..)) (Nat.le_succ_of_le (Nat.le_trans (Nat.le_of_eq gV) (Nat.le_trans hz sl)))))
 rw [hf]
 simp only [bne_self_eq_false,Bool.false_eq_true,if_false]
 exact wpAny_pure (h _ _ c2 S2 R2 (K.T.trans ⟨rfl,rfl,rfl⟩) GC)
end
end Lar
namespace Lar
open PySem PyProof.Rows PySem.Calls PySem.SeqAt PySem.W
noncomputable def iE (ps:List KP):List V:=ps.map fun p=>.int p.2
noncomputable def CP (x:Keyed):Nat:=(numOf x.2).toNat
noncomputable def t9 (h:Heap) (x:Keyed):KP:=(GM h x.1,numOf x.2)
theorem sj:∀ {ns:List Int} {a:Int},fc a ns=true→∀ n∈ns,a<n
 | m::r,a,h,n,hn=>by
  refine aJ (Bool.and_eq_true_iff.mp (show (decide (a<m)&&fc m r)=true from h)) fun h1 h2=>?_
  have h1:=of_decide_eq_true h1
  rcases List.mem_cons.mp hn with rfl | hn
  ·exact h1
  ·exact Int.lt_trans h1 (sj h2 n hn)
theorem A0 {a b:Int} (h:-1<a) (Bm:a<b):a.toNat<b.toNat:=by lia
theorem rU {a b:Int} (h:a.toNat<b.toNat):a<b:=by lia
theorem ku:∀ {ks vs:List Value} {ns:List Int} {a:Int},IntsAre vs ns→ks.length=vs.length→fc a ns=true→-1≤a→(ks.zip vs).Pairwise fun x y=>CP x<CP y
 | [],_,_,_,_,_,_,_=>.nil
 | _::_,[],_,_,_,h,_,_=>nomatch h
 | k::ks,_::vs,_,a,.cons n t hr,hl,h,ha=>by
  refine aJ (Bool.and_eq_true_iff.mp (show (decide (a<n)&&fc n _)=true from h)) fun h1 h2=>?_
  have h1:=of_decide_eq_true h1
  have hn:-1<n:=Int.lt_of_le_of_lt ha h1
  refine List.pairwise_cons.mpr ⟨fun y hy=>?_,ku hr (Nat.succ.inj hl) h2 (Int.le_of_lt hn)⟩
  obtain ⟨m,hm,u,hu⟩:=ints_mem hr (List.of_mem_zip hy).2
  show n.toNat<(numOf y.2).toNat
  rw [hu]
  exact A0 hn (sj h2 m hm)
where
 ints_mem:∀ {vs:List Value} {ns:List Int} {v:Value},IntsAre vs ns→v∈vs→∃ m∈ns,∃ u,v=.int m u
  | _,_,_,.cons n t hr,h=>by
   rcases List.mem_cons.mp h with rfl | h
   ·exact ⟨n,List.mem_cons_self,t,rfl⟩
   ·obtain ⟨m,hm,u,e⟩:=ints_mem hr h
    exact ⟨m,List.mem_cons_of_mem _ hm,u,e⟩
section
variable {g:G} {A:Around} {E:Value→Shared→Prop} {φ:List Addr} {σ:ag} {s:Shared}
theorem wY {vs:List Value} {n:Int} {ns:List Int} (h:IntsAre vs (n::ns)):∃ t us,vs=.int n t::us∧IntsAre us ns:=by
 cases h with
 | cons _ t h=>exact ⟨t,_,rfl,h⟩
theorem rN {h:Heap}:∀ {kvs:List V} {ps:List KP} {ks vs:List Value},cK kvs ps→bq g φ h kvs ks→IntsAre vs (ps.map (·.2))→(ks.zip vs).map (t9 h)=ps
 | _,_,_,_,.nil,.nil,_=>rfl
 | _,_,_,_,.cons (p:=p) hk hr,.cons hv hvr,hI=>by
  refine fv (wY hI) fun t us q3 Km=>?_;apply aO q3
  rw [List.zip_cons_cons,List.map_cons,rN hr hvr Km]
  refine congrArg (· :: _) (Prod.ext ?_ rfl)
  exact (qi hk hv).1.eq
theorem vE {h:Heap} {n:Nat}:∀ {kvs:List V} {ps:List KP} {ks vs:List Value},cK kvs ps→bq g φ h kvs ks→(∀ p∈ps,p.1.length=n)→∀ x∈ks.zip vs,∃ l,th h x.1 l∧l.length=n
 | _,_,_,_,.nil,.nil,_,_,hx=>by simp at hx
 | _,_,_,[],.cons _ _,.cons _ _,_,_,hx=>by simp at hx
 | _,_,_,v::vs,.cons (p:=p) hk hr,.cons hv hvr,hn,x,hx=>by
  rw [List.zip_cons_cons] at hx
  rcases List.mem_cons.mp hx with rfl | hx
  ·exact ⟨p.1,(qi hk hv).1,hn p List.mem_cons_self⟩
  ·exact vE hr hvr (fun q hq=>hn q (List.mem_cons_of_mem _ hq)) x hx
theorem o6 {h:Heap}:∀ {kvs:List V} {ps:List KP} {ks:List Value},cK kvs ps→bq g φ h kvs ks→(∀ p∈ps,p.1.length=1)→∃ kz,IntsAre ks kz
 | _,_,_,.nil,.nil,_=>⟨[],.nil⟩
 | _,_,_,.cons (p:=p) hk hr,.cons hv hvr,hn=>by
  refine Exists.elim (o6 hr hvr fun q hq=>hn q (List.mem_cons_of_mem _ hq)) fun kz h1=>?_
  rcases (qi hk hv).2 with ⟨_,k,t,rfl⟩ | ⟨h2,_⟩
  ·exact ⟨k::kz,.cons k t h1⟩
  ·have:=hn p List.mem_cons_self
   lia
theorem o7 {h:Heap}:∀ {kvs:List V} {ps:List KP} {ks:List Value},cK kvs ps→bq g φ h kvs ks→(∀ p∈ps,p.1.length=2)→∃ fs,KatTups h ks fs∧fs.length=ks.length∧∀ v∈fs,∃ k t,v=Value.int k t
 | _,_,_,.nil,.nil,_=>⟨[],trivial,rfl,fun _ h=>nomatch h⟩
 | _,_,_,.cons (p:=p) hk hr,.cons hv hvr,hn=>by
  refine fL (o7 hr hvr fun q hq=>hn q (List.mem_cons_of_mem _ hq)) fun fs h1 h2 h3=>?_
  rcases (qi hk hv).2 with ⟨h2,_⟩ | ⟨_,c,o,xs,n,k,t,rfl,ho,hc,hd,h0⟩
  ·have:=hn p List.mem_cons_self
   lia
  ·refine ⟨.int k t::fs,KatTups.cons ho hc hd h0 h1,congrArg (· + 1) h2,fun v hv=>?_⟩
   rcases List.mem_cons.mp hv with rfl | hv
   ·exact ⟨k,t,rfl⟩
   ·exact h3 v hv
theorem CA {v:V} {l:List Int} (h:oA v=some l):l.length=1∨l.length=2:=by
 cases v with
 | int i=>apply db h;exact .inl rfl
 | tup m =>
  match m,h with
  | [],h=>exact no h
  | [_],h=>exact no h
  | _::_::_::_,h=>exact no h
  | [p,q],h =>
   refine aK (m:=mE p) h fun i hi h=>?_
   refine aK h fun j hj h=>?_
   apply db h
   exact .inr rfl
 | none=>exact no h
 | bool _=>exact no h
 | str _=>exact no h
 | ref _=>exact no h
 | ro _=>exact no h
theorem qj {kvs:List V} {ps:List KP} (h:cK kvs ps) (hs:ft ps=true) (eM:0<ps.length):∃ n,(n=1∨n=2)∧∀ p∈ps,p.1.length=n:=by
 cases h with
 | nil=>exact absurd eM (Nat.lt_irrefl _)
 | @cons v p vs ps hk hr =>
  refine ⟨p.1.length,CA hk,fun q hq=>?_⟩
  have h1:=List.all_eq_true.mp hs p List.mem_cons_self
  have h2:=List.all_eq_true.mp h1 q hq
  exact (beq_iff_eq.mp h2).symm
theorem bW:∀ {kvs:List V} {ps:List KP},cK kvs ps→kvs.length=ps.length
 | _,_,.nil=>rfl
 | _,_,.cons _ h=>congrArg (· + 1) (bW h)
theorem vX {h h':Heap}:∀ {Z:List Keyed},(∀ x∈Z,∃ n t,x.2=.int n t)→bq g φ h' (iE (Z.map (t9 h))) (Z.map (·.2))
 | [],_=>.nil
 | x::Z,hx=>by
  refine oZ (hx x List.mem_cons_self) fun n t e=>?_
  refine .cons ?_ (vX fun y hy=>hx y (List.mem_cons_of_mem _ hy))
  show VR g φ h' (.int (numOf x.2)) x.2
  rw [e];exact .int n t
theorem CV {h:Heap} {x y:Keyed} (hr:rr (fun x y=>bJ (GM h x.1) (GM h y.1)) CP x y=true):jL (t9 h x) (t9 h y):=by
 refine vG ?_
 unfold jd t9
 refine Or.elim (cV.mp hr) (fun hr=>?_) (fun q=>aJ q fun h1 h2=>?_)
 ·rw [hr];rfl
 ·rw [h1,decide_eq_true (rU h2)]
  exact Bool.or_true _
theorem s5 (FY:Array Value) (vs:List Value):(FY.zip vs.toArray).toList=FY.toList.zip vs:=ksk_zip FY vs
set_option maxHeartbeats 1000000 in
theorem Cz {s₀:Shared} {a kS:Addr} {e1 e:Nat} {kvs:List V} {ps:List KP} {kA:Array Value} {vs:List Value} {P:PySem.Fin→Shared→Prop} (K:I6 g φ σ s₀ a kS e1 kvs kvs.length s) (HU:s.heap.get? kS=some (seqObj "list" kA e)) (qM:bq g φ s.heap kvs kA.toList) (kl:cK kvs ps) (hI:IntsAre vs (ps.map (·.2))) (hr:fc (-1) (ps.map (·.2))=true) (qf:ft ps=true)
  (zw:kS≠a) (l8:a∉φ) (tV:kS∉φ) (DZ:s₀.heap.get? a=none) (lB:s₀.heap.get? kS=none) (D1:g.B.get? a=none) (GF:g.B.get? kS=none) (hz:kvs.length≤100000)
  (h:∀ h' tk c ws,SE φ s₀.heap φ h'→ak g φ σ h'→bx s₀ {s with heap:=h',toks:=tk}→h'.get? a=some (seqObj "list" (List.toArray ws) c)→bq g φ h' (iE (dT ps)) ws→P (.done (.ret .none)) {s with heap:=h',toks:=tk}) :
  wpAny (model g.prog g.w) A (ksk_end a false vs.toArray e1 (.ref kS) kA) P E s:=by
 have hl1:kA.toList.length=vs.length:=by rw [←qM.length,bW kl,hI.length,List.length_map]
 have FA:vs.length=kvs.length:=by rw [←hl1,←qM.length]
 have wT:=rN kl qM hI
 have hint:∀ x∈kA.toList.zip vs,∃ n t,x.2=.int n t:=fun x hx=>by
  obtain ⟨m,_,u,e⟩:=ku.ints_mem hI (List.of_mem_zip hx).2
  exact ⟨m,u,e⟩
 have l7:∀ (st:SortSt) (Z:List Keyed),(arrOf st).toList=Z→Z.Perm (kA.toList.zip vs)→Z.map (t9 s.heap)=dT ps→failedOf st=none→wpAny (model g.prog g.w) A (ksk_tail a false e1 (.ref kS) st) P E s:=fun st Z hZ hp hm hf=>by
  have On:∀ x∈Z,∃ n t,x.2=.int n t:=fun x hx=>hint x (hp.mem_iff.mp hx)
  have FD:∀ h',bq g φ h' (iE (dT ps)) ((arrOf st).map (·.2)).toList:=fun h'=>by
   rw [Array.toList_map,hZ,←hm]
   exact vX On
  refine zP K zw l8 tV DZ lB D1 GF hz ?_ hf FD fun h' tk c S' R' T' ho=>h h' tk c ((arrOf st).map (·.2)).toList S' R' T' (by rw [Array.toArray_toList];exact ho) (FD h')
  rw [←Array.length_toList,hZ,hp.length_eq,List.length_zip,hl1,Nat.min_self,FA]
 unfold ksk_end
 try dsimp only
 rw [if_neg Bool.false_ne_true]
 by_cases h2:vs.toArray.size<2
 ·rw [if_pos h2,if_pos h2]
  refine wpAny_bind (wpAny_pure ?_)
  rw [StateT.run_pure]
  refine wpAny_bind (wpAny_pure ?_)
  try dsimp only
  rw [List.size_toArray] at h2
  refine l7 (SortSt.mk' general' (kA.zip vs.toArray) #[] 7 none) (kA.toList.zip vs) (s5 kA vs) (.refl _) ?_ rfl
  rw [wT]
  have Lm:ps.length<2:=by rw [←bW kl,←FA];exact h2
  match ps,Lm with
  | [],_=>rfl
  | [p],_=>rfl
  | _::_::_,h=>exact absurd h (by simp only [List.length_cons];exact l1 0x7c28a18a180 rfl)
 ·rw [if_neg h2,if_neg h2]
  rw [List.size_toArray] at h2
  have eM:0<ps.length:=by rw [←bW kl,←FA];exact l1 0x1c00817b280 rfl h2
  refine au (qj kl qf eM) fun n hn Fg=>?_
  have run:∀ kd:SortKind,((n=1∧kd=oneType')∨(n=2∧kd=tuples' true))→wpAny (model g.prog g.w) A (do
    let ((),st) ←sortRuns'.run (SortSt.mk' kd (kA.zip vs.toArray) #[] 7 none)
    ksk_tail a false e1 (.ref kS) st) P E s:=fun kd kM=>by
   refine wpAny_bind (wpAny_mono (Bd (E:=E) (ord:=CP) (Dg kM) (a₀:=kA.toList.zip vs) (st:=SortSt.mk' kd (kA.zip vs.toArray) #[] 7 none)
    (Q:=fun _ st'=>∃ Z:List Keyed,(arrOf st').toList=Z∧Z.Perm (kA.toList.zip vs)∧Z.map (t9 s.heap)=dT ps∧failedOf st'=none) (vE kl qM Fg) rfl rfl rfl (s5 kA vs) (ku hI hl1 hr (Int.le_refl _)) fun Z st' hs hp ha hf=>⟨Z,ha,hp,?_,hf⟩) ?_ fun _ _ x=>x)
   ·refine sG ?_ ?_
    ·rw [←wT];exact hp.map _
    ·rw [List.pairwise_map]
     exact hs.imp CV
   ·rintro ⟨⟨⟩,st'⟩ s' ⟨rfl,Z,hZ,hp,hm,hf⟩
    exact l7 st' Z hZ hp hm hf
  rcases hn with rfl | rfl
  ·refine Exists.elim (o6 kl qM Fg) fun kz OU=>?_
   rw [ksk_kind OU (by rw [←Array.length_toList,hl1];exact Nat.not_lt.mp h2)]
   exact wpAny_bind (wpAny_pure (run _ (.inl ⟨rfl,rfl⟩)))
  ·refine fL (o7 kl qM Fg) fun fs ht Jj OH=>?_
   rw [show kA=kA.toList.toArray from (Array.toArray_toList (xs:=kA)).symm]
   refine wpAny_bind (kat_kind (T:=.type "int") ht (by rw [Jj,hl1];exact l1 0x1c00817b280 rfl h2) (fun v hv=>?_) (by decide) ?_)
   ·refine oZ (OH v hv) fun k t q3=>?_;apply aO q3
    exact Looks.of_pure rfl
   ·have:=run (tuples' true) (.inr ⟨rfl,rfl⟩)
    rw [show kA=kA.toList.toArray from (Array.toArray_toList (xs:=kA)).symm] at this
    exact this
end
section
variable {g:G} {A:Around} {E:Value→Shared→Prop} {φ:List Addr} {σ:ag} {s:Shared}
theorem bq.snoc {h:Heap} {l:List V} {vs:List Value} {v:V} {a:Value} (x:bq g φ h l vs) (y:VR g φ h v a):bq g φ h (l++[v]) (vs++[a]):=x.append (.one y)
noncomputable def uS (g:G) (A:Around) (φ:List Addr) (σ:ag) (s₀:Shared) (f:Value) (ps:List KP) (kvs:List V):Prop :=
 ∀ (j:Nat) (p:KP) (kv:V) (t:Tok),ps[j]? = some p→kvs[j]? = some kv→∀ s':Shared,SE φ s₀.heap φ s'.heap→ak g φ σ s'.heap→bx s₀ s'→∀ E,wpAny (model g.prog g.w) A (call f [.int p.2 t]) (G0 g φ σ kv s') E s'
set_option maxHeartbeats 1000000 in
theorem zO {s₀:Shared} {a kS:Addr} {e1:Nat} {kvs:List V} {ps:List KP} {vs:List Value} {f:Value} {P:PySem.Fin→Shared→Prop} (K:I6 g φ σ s₀ a kS e1 kvs 0 s) (kl:cK kvs ps) (hI:IntsAre vs (ps.map (·.2))) (hr:fc (-1) (ps.map (·.2))=true) (qf:ft ps=true)
  (zw:kS≠a) (l8:a∉φ) (tV:kS∉φ) (DZ:s₀.heap.get? a=none) (lB:s₀.heap.get? kS=none) (D1:g.B.get? a=none) (GF:g.B.get? kS=none) (hz:kvs.length≤100000)
  (uE:uS g A φ σ s₀ f ps kvs)
  (h:∀ s' c ws,SE φ s₀.heap φ s'.heap→ak g φ σ s'.heap→bx s₀ s'→s'.heap.get? a=some (seqObj "list" (List.toArray ws) c)→bq g φ s'.heap (iE (dT ps)) ws→P (.done (.ret .none)) s') :
  wpAny (model g.prog g.w) A (ksk_rest a f false vs.toArray e1 (.ref kS)) P E s:=by
 have hl:vs.length=kvs.length:=by rw [hI.length,List.length_map,bW kl]
 have sl:(100000:Nat)≤sizeLine:=Nat.le_of_ble_eq_true rfl
 unfold ksk_rest
 refine wpAny_bind (wpAny_rule ?_)
 rw [List.forIn_toArray]
 refine wpAny_bind (ksk_fold (fun i s'=>I6 g φ σ s₀ a kS e1 kvs i s') vs 0 s K ?step ?done)
 case step =>
  intro j x s' hx K'
  rw [Nat.zero_add] at K' ⊢
  have hj:j<kvs.length:=by rw [←hl];exact (List.getElem?_eq_some_iff.mp hx).1
  have D5:kvs[j]? = some kvs[j]:=List.getElem?_eq_getElem hj
  have M0:j<ps.length:=by rw [←bW kl];exact hj
  obtain ⟨t,rfl⟩:∃ t,x=.int ps[j].2 t:=by
   refine Exists.elim (jB hI hx) fun t e=>?_
   rw [List.getElem?_map,List.getElem?_eq_getElem M0] at e
   exact ⟨t,e⟩
  refine wpAny_bind (wpAny_attempt (wpAny_mono (uE j ps[j] kvs[j] t (List.getElem?_eq_getElem M0) D5 s' K'.S K'.R K'.T _) (fun k kY hk=>?_) fun _ _ x=>x))
  refine yl hk fun S2 R2 T2 V2=>?_
  dsimp only
  refine fv K'.hk fun kA e HU qM=>?_
  have Co:kY.heap.get? kS=some (seqObj "list" kA e):=(S2.pres _ _ HU tV).seq rfl
  have Oo:kY.heap.get? a=some (seqObj "list" #[] e1):=(S2.pres _ _ K'.ha l8).seq rfl
  have K5:=qM.step K'.R S2
  have s1:=Heap.SameBut.update kY.heap kS (Obj.mapSeq (·.push k))
  obtain ⟨c2,GC⟩:∃ c2,(kY.heap.update kS (Obj.mapSeq (·.push k))).get? kS=some (seqObj "list" (kA.push k) c2):=⟨_,get?_update_seq Co (·.push k)⟩
  have cZ:kA.size≤100000:=by
   have h1:=qM.length
   have h2:kA.toList.length=kA.size:=Array.length_toList
   rw [List.length_take] at h1
   exact l4 0xc000000000000000186a0d310b000000000000000186a0d015b2115b3210b01 rfl hz h1 h2 (Nat.min_le_right _ _)
  have R3:=mz R2 s1 Co tV GF
  refine wpAny_bind (listUpdate_at Co rfl ?_ (Nat.le_trans cZ sl) (Nat.le_trans (Nat.le_of_eq (Array.size_push ..)) (Nat.succ_le_succ (Nat.le_trans cZ sl))))
  refine wpAny_pure ⟨rfl,SE.mvOne (K'.S.trans S2) R3 s1 lB,R3,(K'.T.trans T2).trans ⟨rfl,rfl,rfl⟩,(s1.2 a zw.symm).trans Oo,kA.push k,c2,GC,?_⟩
  rw [List.take_add_one,D5,Array.toList_push]
  exact Dp s1 Co (K5.snoc V2)
 case done =>
  intro s' K'
  rw [Nat.zero_add,hl] at K'
  refine fv K'.hk fun kA e HU qM=>?_
  rw [List.take_length] at qM
  refine wpAny_bind (listItems_at HU rfl ?_)
  exact Cz K' HU qM kl hI hr qf zw l8 tV DZ lB D1 GF hz fun h' tk c ws a1 a2 a3 a4 a5=>h _ c ws a1 a2 a3 a4 a5
theorem Gg {s₀:Shared} {h h':Heap} (S:SE φ s₀.heap φ h) (hk:∀ b o,h.get? b=some o→h'.get? b=some o):SE φ s₀.heap φ h':=SE.trans S (SE.keeps _ hk)
set_option maxHeartbeats 1000000 in
theorem zQ {s₀:Shared} {a:Addr} {n:Nat} {kvs:List V} {ps:List KP} {vs:List Value} {f:Value} {P:PySem.Fin→Shared→Prop} (S:SE φ s₀.heap φ s.heap) (R:ak g φ σ s.heap) (T:bx s₀ s) (ho:s.heap.get? a=some (seqObj "list" vs.toArray n)) (kl:cK kvs ps) (hI:IntsAre vs (ps.map (·.2))) (hr:fc (-1) (ps.map (·.2))=true) (qf:ft ps=true)
  (l8:a∉φ) (DZ:s₀.heap.get? a=none) (D1:g.B.get? a=none) (hz:kvs.length≤100000)
  (uE:uS g A φ σ s₀ f ps kvs)
  (h:∀ s' c ws,SE φ s₀.heap φ s'.heap→ak g φ σ s'.heap→bx s₀ s'→s'.heap.get? a=some (seqObj "list" (List.toArray ws) c)→bq g φ s'.heap (iE (dT ps)) ws→P (.done (.ret .none)) s') :
  wpAny (model g.prog g.w) A (ksk_tree a f false) P E s:=by
 have hl:vs.length=kvs.length:=by rw [hI.length,List.length_map,bW kl]
 have sl:(100000:Nat)≤sizeLine:=Nat.le_of_ble_eq_true rfl
 have Jo:vs.length≤sizeLine:=by rw [hl];exact Nat.le_trans hz sl
 have s1:=Heap.SameBut.update s.heap a (Obj.mapSeq fun _=>(#[]:Array Value))
 obtain ⟨e1,Jl⟩:∃ e1,(s.heap.update a (Obj.mapSeq fun _=>(#[]:Array Value))).get? a=some (seqObj "list" #[] e1):=⟨_,get?_update_seq ho fun _=>#[]⟩
 have R1:=mz R s1 ho l8 D1
 have S1:=SE.mvOne S R1 s1 DZ
 generalize hh1:s.heap.update a (Obj.mapSeq fun _=>(#[]:Array Value))=h1 at s1 Jl R1 S1
 have wR:∀ b o,h1.get? b=some o→((h1.push (seqObj "tuple" vs.toArray 0)).push (seqObj "list" #[] 0)).get? b=some o:=fun b o e=>Heap.get?_push_of_some _ (Heap.get?_push_of_some _ e)
 have OR:(h1.push (seqObj "tuple" vs.toArray 0)).objs.size=h1.objs.size+1:=size_push' ..
 have zv:h1.get? (h1.push (seqObj "tuple" vs.toArray 0)).objs.size=none:=Heap.get?_none_of_le (by rw [OR];exact Nat.le_succ _)
 unfold ksk_tree
 refine wpAny_bind (listItems_at ho rfl ?_)
 refine wpAny_bind (listUpdate_at ho rfl ?_ (by rw [List.size_toArray];exact Jo) (Nat.zero_le _))
 rw [hh1]
 refine wpAny_bind (seqEpoch_at Jl rfl ?_)
 refine wpAny_bind (wpAny_newTuple ?_ Jo)
 refine wpAny_bind (wpAny_newList ?_ (Nat.zero_le _))
 refine wpAny_holding ?_
 have R3:ak g φ σ ((h1.push (seqObj "tuple" vs.toArray 0)).push (seqObj "list" #[] 0)):=R1.keeps wR
 refine zO (s:={s with heap:=(h1.push (seqObj "tuple" vs.toArray 0)).push (seqObj "list" #[] 0)}) (s₀:=s₀) (kS:=(h1.push (seqObj "tuple" vs.toArray 0)).objs.size) ⟨Gg S1 wR,R3,T.trans ⟨rfl,rfl,rfl⟩,wR _ _ Jl,#[],0,Heap.get?_push_size _ rfl,.nil⟩ kl hI hr qf ?_ l8 ?_ DZ ?_ D1 ?_ hz uE h
 ·intro q
  rw [q,Jl] at zv;cases zv
 ·exact a0 R1 zv
 ·exact S1.back zv
 ·exact a7 R1 zv
set_option maxHeartbeats 1000000 in
theorem uu {Np:Value} {q:Addr} {kvs:List V} {ps:List KP} (R:ak g φ σ s.heap)
  (KD:∀ (Q:List Value→Shared→Prop),(∀ h' tk vs,(∀ b o,s.heap.get? b=some o→h'.get? b=some o)→IntsAre vs (ps.map (·.2))→Q vs {s with heap:=h',toks:=tk})→wpAny (model g.prog g.w) A.in1 (collect Np) Q E s)
  (kl:cK kvs ps) (hr:fc (-1) (ps.map (·.2))=true) (qf:ft ps=true) (hz:kvs.length≤100000) (uE:uS g A.in1.in1 φ σ s (.ref q) ps kvs) :
  wpAny (model g.prog g.w) A (call (.builtin "sorted") [Np] [(Str.ofString "key", .ref q)]) (bG g φ s (.ref σ.length) (σ++[.lst (iE (dT ps))])) E s:=by
 have sl:(100000:Nat)≤sizeLine:=Nat.le_of_ble_eq_true rfl
 refine call_function_entry_kw kind_sorted plain_sorted entry_sorted (ksk_s1 _ _) ?_
 unfold Builtin.«sorted»
 refine wpAny_bind (m:=checkCount "sorted" 1 1 _) (wpAny_pure ?_)
 refine wpAny_bind (KD _ fun h1 PY vs Cm hI=>?_)
 have hl:vs.length=kvs.length:=by rw [hI.length,List.length_map,bW kl]
 have Jo:vs.length≤sizeLine:=by rw [hl];exact Nat.le_trans hz sl
 refine wpAny_bind (wpAny_newList ?_ Jo)
 have wR:∀ b o,s.heap.get? b=some o→(h1.push (seqObj "list" vs.toArray 0)).get? b=some o:=fun b o e=>Heap.get?_push_of_some _ (Cm b o e)
 have M3:(h1.push (seqObj "list" vs.toArray 0)).get? h1.objs.size=some (seqObj "list" vs.toArray 0):=Heap.get?_push_size _ rfl
 have R1:=R.keeps Cm
 have HL:h1.get? h1.objs.size=none:=aC _
 have MY:s.heap.get? h1.objs.size=none:=eJ Cm HL
 refine wpAny_bind (wpAny_holding (wpAny_call_entry_kw slot_list_sort ⟨_,M3,rfl⟩ entry_list_sort ?body (ksk_l1 _ _)))
 case body =>
  show wpAny (model g.prog g.w) A.in1.in1 (Builtin.«list.sort» ⟨[.ref h1.objs.size],[(Str.ofString "key", .ref q)]⟩) _ _ _
  rw [ksk_t1]
  refine zQ (s:={s with heap:=h1.push (seqObj "list" vs.toArray 0),toks:=PY}) (s₀:=s) (SE.keeps _ wR) (R.keeps wR) ⟨rfl,rfl,rfl⟩ M3 kl hI hr qf (a0 R1 HL) MY (a7 R1 HL) hz uE fun s' c ws S' R' T' jU V'=>⟨_,rfl,wpAny_pure ⟨_,rfl,?_⟩⟩
  refine ⟨φ++[h1.objs.size],⟨S'.pres,S'.dom,[_],rfl,fun b hb=>by rw [List.mem_singleton.mp hb];exact MY⟩,R'.more (a0 R1 HL) (a7 R1 HL) (.lst ⟨c,jU⟩ ?_ V') (fun o e=>by rw [jU] at e;cases e;exact nM rfl),.ref ?_,T'⟩
  ·have:(iE (dT ps)).length=kvs.length:=by rw [iE,List.length_map,(eu ps).length_eq,bW kl]
   rw [this]
   exact Nat.le_succ_of_le (Nat.le_trans hz sl)
  ·rw [←R.len];simp
theorem y8 {l:Addr} {vs:List Value} {ns:List Int} {Q:List Value→Shared→Prop} (hl:s.heap.IsList l vs.toArray) (hI:IntsAre vs ns) (hz:vs.length≤sizeLine)
  (hQ:∀ h' tk ws,(∀ b o,s.heap.get? b=some o→h'.get? b=some o)→IntsAre ws ns→Q ws {s with heap:=h',toks:=tk}):wpAny (model g.prog g.w) A (collect (.ref l)) Q E s:=by
 obtain ⟨o,ho,hc,n,hd⟩:=hl
 exact wpAny_collect_seq l (.inl rfl) ho hc hd (fun h' hk=>hQ h' s.toks vs hk hI) hz
theorem vz:∀ (vs:List Value) (ns:List Int),vs.length=ns.length→(∀ (j:Nat) v,vs[j]? = some v→∃ k t,ns[j]? = some k∧v=.int k t)→IntsAre vs ns
 | [],[],_,_=>.nil
 | [],_::_,h,_=>nomatch h
 | _::_,[],h,_=>nomatch h
 | v::vs,n::ns,h,hj=>by
  refine fv (hj 0 v rfl) fun k t e q4=>?_;apply aO q4
  rw [Option.some.inj e]
  exact .cons k t (vz vs ns (Nat.succ.inj h) fun j v e=>hj (j+1) v e)
theorem wG {r:Addr} {a b c:Int} {t u v:Tok} {n:Nat} {Q:List Value→Shared→Prop} (hh:A.handled=none) (hr:IsRange s.heap r a b c t u v) (tZ:Builtin.Range.small a b c=true) (hn:Builtin.Range.rangeSize a b c=n) (hz:n≤2 ^ 24)
  (hQ:∀ h' tk ws,(∀ b o,s.heap.get? b=some o→h'.get? b=some o)→IntsAre ws ((List.range n).map fun (i:Nat)=>a+(i:Int) * c)→Q ws {s with heap:=h',toks:=tk}):wpAny (model g.prog g.w) A (collect (.ref r)) Q E s:=by
 unfold collect
 refine wpAny_bind (wpAny_runValue (codeAny_builtin F.entry_proto_collect ?_))
 rw [Around.under_plainId F.plain_proto_collect _]
 show wpAny _ A.in1 (newList []>>=fun l=>again (.builtin "list.__iadd__" ⟨[l,.ref r],[]⟩)) _ _ s
 refine wpAny_bind (wpAny_newObj_type ?_)
 refine wpAny_pure ⟨plainId_quiet F.plain_list_iadd _,codeAny_builtin F.entry_list_iadd ?_⟩
 rw [Around.under_plainId F.plain_list_iadd _]
 show wpAny _ A.in1 (Builtin.List.listExtendWith (.ref s.heap.objs.size) (.ref r) (.ref s.heap.objs.size)) _ _ _
 refine wpAny_extend_range (A:=A) (R:=fun r' s'=>match r' with
  | .ok (.ret v)=>wpAny (model g.prog g.w) A (match v with
   | .ref a=>do match (←load a).data with
    | .seq xs _=>pure xs.toList
    | _=>unsupported "internal:collect"
   | _=>unsupported "internal:collect") Q E s'
  | .ok _=>False
  | .error e=>E e s') hh (Heap.get?_push_of_some _ hr) tZ hn hz s.heap.objs.size _ 0 (Heap.get?_push_size _ rfl) fun h' tk G8 c' hk Ok Ff=>?_
 show wpAny _ A (load s.heap.objs.size>>=_) _ _ _
 refine wpAny_bind (wpAny_load Ok ?_)
 refine wpAny_pure (hQ h' tk G8.toList (fun b o e=>hk b o (Nat.ne_of_lt (Heap.lt_size e)) (Heap.get?_push_of_some _ e)) ?_)
 refine vz _ _ (by rw [Array.length_toList,List.length_map,List.length_range];exact Ff.1) fun j v hv=>?_
 have hj:j<G8.size:=by rw [←Array.length_toList];exact (List.getElem?_eq_some_iff.mp hv).1
 refine Exists.elim (Ff.2 j v (by rw [←Array.getElem?_toList];exact hv)) fun t e=>?_
 exact ⟨a+(j:Int) * c,t,by rw [List.getElem?_map,List.getElem?_range (by rw [←Ff.1];exact hj)];rfl,e⟩
end
set_option tactic.hygienic true in
theorem tm {pos:Pos} {a b:Nat} {c cv:Value}:∀ (l:List Value),TriplesOk l→codeAmong pos (l++[rawInt a,rawInt b,c])=some cv→codeAmong pos l=some cv∨cv=c:=by
 intro l
 fun_induction TriplesOk l with
 | case1 =>
  intro _ h
  have h:(if ((a:Int)==pos.line&&(b:Int)==pos.col)=true then some c else codeAmong pos [])=some cv:=h
  split at h
  ·exact .inr (Option.some.inj h).symm
  ·exact .inl h
 | case2 i t j u x az ih =>
  intro ht h
  have h:(if (i==pos.line&&j==pos.col)=true then some x else codeAmong pos (az++[rawInt a,rawInt b,c]))=some cv:=h
  show (if (i==pos.line&&j==pos.col)=true then some x else codeAmong pos az)=some cv∨_
  split at h
  ·rename_i hc
   rw [if_pos hc];exact .inl h
  ·rename_i hc
   rw [if_neg hc]
   exact ih ht h
 | case3 l h1 h2=>intro ht;exact ht.elim
theorem qF {a b:Nat} {c:Value}:∀ (l:List Value),TriplesOk l→TriplesOk (l++[rawInt a,rawInt b,c]):=by
 intro l
 fun_induction TriplesOk l with
 | case1=>exact fun _=>trivial
 | case2 i t j u x az ih=>exact fun h=>ih h
 | case3 l h1 h2=>exact fun h=>h.elim
noncomputable def jp (h:Heap) (c:Addr) (q:Str):Prop:=∃ o vs t,h.get? c=some o∧o.cls=.type "code" ∧ o.data=.fields vs∧vs[1]? = some (.str q t)
theorem jp.rec {h:Heap} {c:Addr} {q:Str} (x:jp h c q):h.CodeRec (.ref c) q:=let ⟨o,vs,t,h1,_,h2,h3⟩:=x;⟨c,o,vs,t,rfl,h1,h2,h3⟩
section
variable {prog:Program} {w:World} {A:Around} {E:Value→Shared→Prop} {s:Shared} {name qual:Str} {params:Arguments} {body:Expr} {scope:Scope} {env:Env} {c P:Addr} {ps:Array Value} {pos:Pos} {o5:Nat} {mg:Str→Option Value} {BY:List (Str×Addr)} {Q:Value→Shared→Prop}
theorem zZ (Cg:closureFor scope env=pure BY) (HN:env.globals=mainGlobals) (Kw:env.builtins=builtinsNs) (hg:s.heap.Ns mainGlobals mg) (vp:env.code=.ref c) (C:CodeHd s.heap c P) (hP:s.heap.get? P=some (tabObj ps)) (ht:TriplesOk ps.toList) (gb:∀ pos cv,codeAmong pos ps.toList=some cv→∃ c',cv=.ref c'∧jp s.heap c' qual)
  (KS:mainGlobals≠P) (hb:s.heap.BuiltinsAt mg P)
  (h:∀ c' wI h' tk Jz f pm,(∀ b o,b≠P→s.heap.get? b=some o→h'.get? b=some o)→h'.get? P=some (tabObj Jz)→TriplesOk Jz.toList→(∀ pos cv,codeAmong pos Jz.toList=some cv→∃ d,cv=.ref d∧(jp s.heap d qual∨(s.heap.get? d=none∧jp h' d qual))) →
   (jp s.heap c' qual∨(s.heap.get? c'=none∧jp h' c' qual))→c'≠P→s.heap.get? f=none→h'.get? f=some (kla_obj name qual params body scope BY pm c' wI)→Q (.ref f) {s with heap:=h',toks:=tk}) :
  wpAny (model prog w) A (makeFunction name qual params (.expr body) scope env [] [] [] pos o5) Q E s:=by
 rw [makeFunction_eq]
 simp only [List.zip_nil_right,List.filterMap_nil,List.isEmpty_nil,if_true,pure_bind]
 have Mj:∀ {d:Addr},jp s.heap d qual→d≠P:=fun ⟨o,vs,t,h1,h2,_⟩ e=>by
  rw [e,hP] at h1;cases h1;cases h2
 cases hf:codeAmong pos ps.toList with
 | some cv =>
  refine au (gb pos cv hf) fun c' q2 dG=>?_;subst q2
  refine kla_makeTailHit (mg:=mg) Cg HN hg vp C hP ht hf hb fun wI h' tk hk cZ=>?_
  exact h c' wI _ tk ps _ _ (fun b o _ e=>Heap.get?_push_of_some _ (hk b o e)) (Heap.get?_push_of_some _ (hk _ _ hP)) ht (fun pos cv e=>by
   refine au (gb pos cv e) fun d h1 h2=>?_
   exact ⟨d,h1,.inl h2⟩) (.inl dG) (Mj dG) (Heap.get?_none_of_le cZ) (Heap.get?_push_size _ rfl)
 | none =>
  refine J9 hb fun bm ob Ot Ld MV Lf Kx zt k5=>?_;refine aJ k5 fun jS HI=>?_
  unfold makeTail
  rw [Cg,HN,Kw]
  refine wpAny_bind (wpAny_pure ?_)
  have l7:∀ (bg:Heap) (wI:Value),(∀ b o,s.heap.get? b=some o→bg.get? b=some o)→wpAny (model prog w) A (do
    let code ←functionCode env pos o5 name qual params scope (.expr body)
    let bs ←builtinsFor mainGlobals builtinsNs
    let nm ←nsGet mainGlobals "__name__"
    let doc ←(pure .none:Sem Value)
    newObj (.type "function") (.func {name:=name,qualname:=qual,params,body:=.expr body,scope,globals:=mainGlobals,closure:=BY,closureTuple:=wI,code,builtins:=bs,defaults:=.none,kwdefaults:=.none,annotations:=none,pyModule:=nm.getD .none,doc})) Q E {s with heap:=bg}:=fun bg wI gq=>by
   refine wpAny_bind (wpAny_functionCodeX (s:={s with heap:=bg}) vp ((C.keeps gq).code (gq _ _ hP) ht) ((C.keeps gq).tab (gq _ _ hP)) hf fun c' h' tk hx jk bQ hic Lq Pc Cr=>?_)
   have Bn:h'.Ns mainGlobals mg:=(hg.keeps gq).extBut hx KS
   refine wpAny_bind (wpAny_builtinsFor Bn Ot Ld (hx _ _ Lf (gq _ _ Kx)) zt jS HI ?_)
   refine wpAny_bind (wpAny_nsGet Bn ?_)
   refine ym Cr fun P' GB _ k8 _=>?_;refine Gx k8 fun o vs ho O2 hod _=>?_
   refine MG Lq fun c2 o2 P3 t2 e1 e2 e3 e4=>?_
   cases e1
   have eo:o=o2:=Option.some.inj (ho.symm.trans e2)
   subst eo
   have fresh:s.heap.get? c'=none:=eJ gq (Heap.get?_none_of_le jk)
   have kL:∀ oo,jp (h'.push oo) c' qual:=fun oo=>⟨o,P3,t2,Heap.get?_push_of_some _ ho,O2,e3,e4⟩
   refine wpAny_bind (wpAny_pure (wpAny_newObj_type ?_ (by size_fits)))
   refine h c' wI _ tk _ h'.objs.size _ (fun b o hb e=>Heap.get?_push_of_some _ (hx b o hb (gq b o e))) (Heap.get?_push_of_some _ Pc.2) ?_ (fun Ge cv e=>?_) (.inr ⟨fresh,kL _⟩) ?_ ?_ (Heap.get?_push_size _ rfl)
   ·rw [Array.toList_append];exact qF _ ht
   ·rw [Array.toList_append] at e
    rcases tm _ ht e with e | rfl
    ·refine au (gb Ge cv e) fun d h1 h2=>?_
     exact ⟨d,h1,.inl h2⟩
    ·exact ⟨c',rfl,.inr ⟨fresh,kL _⟩⟩
   ·rintro rfl
    rw [fresh] at hP;cases hP
   ·have:bg.objs.size≤h'.objs.size:=Nat.le_trans jk (Nat.le_of_lt bQ)
    exact eJ gq (Heap.get?_none_of_le this)
  cases BY with
  | nil =>
   simp only [List.isEmpty_nil,if_true]
   exact wpAny_bind (wpAny_pure (l7 s.heap .none fun _ _ e=>e))
  | cons q r =>
   simp only [List.isEmpty_cons,Bool.false_eq_true,if_false]
   exact wpAny_bind (wpAny_newTextTuple (l7 _ _ fun b o e=>Heap.get?_push_of_some _ e))
end
theorem gW {α:Type}:∀ {l:List Str} {vs:List α} {n:Str},l.length=vs.length→n∈l→((l.zip vs).lookup n).isNone=false
 | [],_,_,_,h=>nomatch h
 | a::l,[],_,e,_=>by simp at e
 | a::l,v::vs,n,e,h=>by
  rw [List.zip_cons_cons,List.lookup_cons]
  cases hb:n==a with
  | true=>rfl
  | false =>
   refine Or.elim (List.mem_cons.mp h) (fun h=>?_) (fun h=>?_)
   ·subst h;simp at hb
   ·exact gW (by simpa using e) h
theorem oG {α:Type} {l:List Str} {vs:List α} (hl:l.length=vs.length) (hn:l.Nodup):l.filterMap (fun n=>((l.zip vs).lookup n).map (n,·))=l.zip vs:=by
 induction l generalizing vs with
 | nil=>simp
 | cons a l ih =>
  cases vs with
  | nil=>simp at hl
  | cons v vs =>
   rw [List.filterMap_cons]
   simp only [List.zip_cons_cons,List.lookup_cons,beq_self_eq_true,Option.map_some]
   have jl:=List.nodup_cons.mp hn
   have fg:∀ (m:List Str),(∀ n∈m,n≠a)→m.filterMap (fun n=>((match n==a with | true=>some v | false=>(l.zip vs).lookup n):Option α).map (n,·))=m.filterMap (fun n=>((l.zip vs).lookup n).map (n,·)):=by
    intro m hm
    induction m with
    | nil=>rfl
    | cons b m Pn =>
     have hb:(b==a)=false:=by simpa using hm b List.mem_cons_self
     rw [List.filterMap_cons,List.filterMap_cons,hb,Pn fun n hn=>hm n (List.mem_cons_of_mem _ hn)]
   exact congrArg (List.cons (a,v)) ((fg l (fun n hn e=>jl.1 (e ▸ hn))).trans (ih (by simpa using hl) jl.2))
theorem js {fd:FuncData} {as:List Arg} (hp:fd.params=⟨[],as,none,[],[],none,[]⟩) (hd:fd.defaults=.none) (cF:List Value) (hl:cF.length=as.length) (hn:(as.map (·.arg)).Nodup):bindArgs fd ⟨cF,[]⟩=pure ((as.map (·.arg)).zip cF):=by
 have hm:(List.map (fun x:Arg=>x.arg) as).filter (fun n=>(((List.map (fun x:Arg=>x.arg) as).zip cF).lookup n).isNone)=[]:=by
  rw [List.filter_eq_nil_iff]
  intro n hn
  rw [gW (by simp [hl]) hn];simp
 have hz:=oG (l:=as.map (·.arg)) (vs:=cF) (by simp [hl]) hn
 obtain ⟨name,qual,params,body,scope,globals,closure,defaults,kwd,doc,pm,code,bl⟩:=fd
 simp only at hp hd
 subst hp hd
 have h1:¬ ((decide (cF.length > (List.map (fun x:Arg=>x.arg) as).length)&&true)=true):=by simp [hl]
 have h2:¬ ((!((List.take ((List.map (fun x:Arg=>x.arg) as).length - 0) (List.map (fun x:Arg=>x.arg) as)).filter (fun n=>(((List.map (fun x:Arg=>x.arg) as).zip cF).lookup n).isNone)).isEmpty)=true):=by
  rw [Nat.sub_zero,List.take_length,hm];decide
 have Ib:((List.map (fun x:Arg=>x.arg) as)++[]).filterMap (fun n=>(((List.map (fun x:Arg=>x.arg) as).zip cF).lookup n).map (n,·))=(as.map (·.arg)).zip cF:=by rw [List.append_nil];exact hz
 refine (if_neg h1).trans ?_
 rw [show ∀ i,List.drop i (Option.getD (none:Option (Array Value)) #[]).toList=[] from fun i=>List.drop_nil]
 refine (if_neg h2).trans ?_
 rw [List.zip_nil_right]
 exact congrArg (fun b=>(pure b:Sem (List (Str×Value)))) Ib
theorem iT {k:Str→Option NameKind} {x:Str} (hk:k x=some .local):∀ (b:List (Str×Value)) (m:Str→Option Value),(b.map (·.1)).Nodup→bindL k b m x=match b.lookup x with | some v=>some v | none=>m x
 | [],m,_=>rfl
 | (n,v)::r,m,hn=>by
  have jl:=List.nodup_cons.mp hn
  unfold bindL
  rw [iT hk r _ jl.2,List.lookup_cons]
  cases hb:x==n with
  | true =>
   have:x=n:=by simpa using hb
   subst this
   have hr:r.lookup x=none:=by
    cases q:r.lookup x with
    | none=>rfl
    | some y=>exact absurd (List.mem_map_of_mem (f:=(·.1)) (mem_of_lookup q)) jl.1
   rw [hr,if_pos hk];simp
  | false =>
   have eM:x≠n:=by simpa using hb
   cases q:r.lookup x with
   | some y=>rfl
   | none =>
    by_cases Fx:k n=some .local
    ·rw [if_pos Fx];simp [eM]
    ·rw [if_neg Fx]
structure uT (scope bi:Scope) (nm:List (Str×Nat)) (nx:Nat) (x:Str):Prop where
 kind:scope.kind=.function
 gen:scope.isGenerator=false
 cor:scope.isCoroutine=false
 kinds:∀ n k,(n,k)∈scope.names→k=.local∨k=.free∨k=.globalImplicit
 uniq:∀ n k,(n,k)∈scope.names→scope.names.lookup n=some k
 free:∀ n,(n,NameKind.free)∈scope.names→(bi.names.lookup n=some .cell∨bi.names.lookup n=some .free)∧∃ i,nm.lookup n=some i
 par:scope.names.lookup x=some .local
 below:∀ n i,(n,i)∈nm→i<nx
 lev:eK scope=false
theorem zW {scope bi:Scope} {nm:List (Str×Nat)} {nx:Nat} {x:Str} (h:zV scope bi nm nx x=true):uT scope bi nm nx x:=by
 simp only [zV,Bool.and_eq_true,List.all_eq_true,Bool.or_eq_true,beq_iff_eq,decide_eq_true_eq,bne_iff_ne,ne_eq,Option.isSome_iff_exists,Bool.not_eq_true'] at h
 refine aJ h fun LV h9=>?_;refine aJ LV fun PF h8=>?_;refine aJ PF fun PG h7=>?_;obtain ⟨⟨⟨⟨⟨h1,h2⟩,h3⟩,h4⟩,h5⟩,h6⟩:=PG
 refine ⟨h1,h2,h3,fun n k hm=>?_,fun n k hm=>h5 (n,k) hm,fun n hm=>?_,h7,fun n i hm=>h8 (n,i) hm,h9⟩
 ·rcases h4 (n,k) hm with (h | h) | h
  ·exact .inl h
  ·exact .inr (.inl h)
  ·exact .inr (.inr h)
 ·refine Or.elim (h6 (n,.free) hm) (fun h=>?_) (fun h=>?_)
  ·exact absurd rfl h
  ·exact h
theorem qm {ps:Arguments} {a:Arg} (h:dD ps=true) (ha:ps.args=[a]):ps=⟨[],[a],none,[],[],none,[]⟩:=by
 obtain ⟨po,as,va,ko,kd,kw,df⟩:=ps
 simp only [dD,Bool.and_eq_true,List.isEmpty_iff,Option.isNone_iff_eq_none] at h
 refine aJ h fun LW h6=>?_;refine aJ LW fun L8 h5=>?_;refine aJ L8 fun PH h4=>?_;obtain ⟨⟨h1,h2⟩,h3⟩:=PH
 simp only at ha h1 h2 h3 h4 h5 h6
 subst ha h1 h2 h3 h4 h5 h6
 rfl
section
variable {g:G} {cx:cp} {fs:List Fn} {mg mb:Str→Option Value} {A:Around} {E:Value→Shared→Prop} {φ:List Addr} {σ:ag} {s:Shared} {env:Env} {nm:List (Str×Nat)} {ρ:aF}
theorem ak.notCode {h:Heap} {d:Addr} {q:Str} (R:ak g φ σ h) (x:jp h d q):d∉φ:=fun hm=>by
 obtain ⟨i,hi,rfl⟩:=List.mem_iff_getElem.mp hm
 have h1:φ[i]? = some φ[i]:=List.getElem?_eq_getElem hi
 have jA:i<σ.length:=R.len ▸ hi
 obtain ⟨m,h2⟩:∃ m,σ[i]? = some m:=⟨_,List.getElem?_eq_getElem jA⟩
 refine E1 x fun o vs t ho hc hd _=>?_
 generalize φ[i]=a at h1 ho
 have mr:=R.objs i a m h1 h2
 apply MR.el mr
 case lst=>intro _ _ hl _ _;refine Exists.elim hl fun n e=>?_;rw [e] at ho;cases ho;cases hd
 case own=>intro _ _ e;rw [e] at ho;cases ho;cases hd
 case wd=>intro _ _ _ hn _;refine qL hn fun o' es ep e jI _=>?_;rw [e] at ho;cases ho;exact nomatch hd.symm.trans jI
 case exn=>intro _ _ _ _ _ e dG _ _ _;rw [e] at ho;cases ho;exact nomatch hc.symm.trans dG
 case tab=>intro _ _ e _ _;rw [e] at ho;cases ho;cases hc
structure DD (g:G) (φ:List Addr) (σ:ag) (env:Env) (params:Arguments) (body:Expr) (scope:Scope) (s:Shared) (f:Addr) (s':Shared):Prop where
 S:SE φ s.heap φ s'.heap
 R:ak g φ σ s'.heap
 T:bx s s'
 fn:f∉φ
 ob:∃ pm c' wI,s'.heap.get? f=some (kla_obj "<lambda>" (env.qual ++ "<lambda>") params body scope (cO env scope.names []) pm c' wI)∧jp s'.heap c' (env.qual ++ "<lambda>")
theorem zY {params:Arguments} {body:Expr} {scope:Scope} {lp:Pos} {a:Arg} {nx:Nat} (G:eH g cx fs mg mb) (R:ak g φ σ s.heap) (F:dA g φ env nm ρ s.heap) (Fy:eK env.scope=true) (K:uT scope env.scope nm nx a.arg) (hp:params=⟨[],[a],none,[],[],none,[]⟩) {Q:Value→Shared→Prop}
  (h:∀ f s',DD g φ σ env params body scope s f s'→Q (.ref f) s'):wpAny (model g.prog g.w) A (eval (.Lambda params body scope lp) env) Q E s:=by
 refine MH (F.tab Fy) fun j c P H hj vp Oc Ko tS=>?_
 refine aJ (R.tabs j _ P hj) fun zJ LN=>?_
 have HB:P∈φ:=List.mem_of_getElem? zJ
 have MQ:g.B.get? P=none:=R.fresh P HB
 have C:CodeHd s.heap c P:=by
  refine kj (CodeHd.of Oc Ko) fun o vs Kg tf Hu LZ=>?_;refine Kb LZ fun tg Po Mp tt ho r=>?_
  exact ⟨o,vs,Kg,tf,Hu,tg,Po,Mp,tt,R.base _ _ (tS o ho),r⟩
 have OM:s.heap.Ns mainGlobals mg:=G.gns.keeps R.base
 have KS:mainGlobals≠P:=fun q=>by
  refine jH G.gns fun o _ _ e _=>?_
  rw [q,MQ] at e;cases e
 refine NP G.bmain fun bm ob b1 b2 b3 b4 b5 b6=>?_
 have MV:bm≠mainGlobals:=fun q=>by
  refine qL G.gns fun o es ep e hd _=>?_
  rw [q,e] at b3;cases b3;exact nomatch hd.symm.trans b6
 have Oq:bm≠P:=fun q=>by rw [q,MQ] at b3;cases b3
 have cl:=jh (env:=env) scope fun n hn=>by
  obtain ⟨h1,i,hi⟩:=K.free n hn
  refine fv (F.cells n i hi h1) fun c u hc _=>?_
  exact ⟨c,hc⟩
 have KH:defaultsOf params env=([],[]):=by rw [hp];rfl
 have mr:=R.objs j P _ zJ LN
 cases mr with
 | @tab _ _ ps hP ht gb =>
  refine kla_eval KH (zZ (prog:=g.prog) (w:=g.w) (mg:=mg) cl F.glob F.blt OM vp C hP ht (fun pos cv e=>?_) KS ⟨bm,ob,b1,b2,MV,Oq,R.base _ _ b3,b4,b5,b6⟩ fun c' wI h' tk Jz f pm hk GB Jm KF kL hcP hf OI=>?_)
  ·refine Kc (gb pos cv e) fun c' o vs t e1 _ e3 e4 e5 e6=>?_
   exact ⟨c',e1,o,vs,t,e3,e4,e5,e6⟩
  ·have hd:∃ o,h'.get? P=some o:=⟨_,GB⟩
   have S:SE φ s.heap φ h':=⟨fun b o e hb=>.inl (hk b o (by rintro rfl;exact hb HB) e),fun b o e=>by
    by_cases hb:b=P
    ·apply aO hb;exact hd
    ·exact ⟨o,hk b o hb e⟩,[],by simp,fun _ hm=>(nomatch hm)⟩
   have up:∀ {d:Addr},(jp s.heap d (env.qual ++ "<lambda>")∨(s.heap.get? d=none∧jp h' d (env.qual ++ "<lambda>")))→d∉φ∧jp h' d (env.qual ++ "<lambda>"):=fun {d} x=>by
    refine Or.elim x (fun x=>?_) (fun q=>aJ q fun x y=>?_)
    ·have hn:=R.notCode x
     refine E1 x fun o vs t e1 e2 e3 e4=>?_
     exact ⟨hn,o,vs,t,(S.pres _ _ e1 hn).hard (.inr ⟨e2,vs,e3⟩),e2,e3,e4⟩
    ·exact ⟨a0 R x,y⟩
   have R':ak g φ (σ.set j (.tab env.qual)) h':=R.put zJ LN hk (.tab GB Jm fun pos cv e=>by
    refine au (KF pos cv e) fun d h1 h2=>?_
    obtain ⟨h3,o,vs,t,h4,h5,h6,h7⟩:=up h2
    exact ⟨d,o,vs,t,h1,h3,h4,h5,h6,h7⟩) fun q e=>by injection e with e;rw [e]
   have NU:σ.set j (.tab env.qual)=σ:=by
    refine Exists.elim (List.getElem?_eq_some_iff.mp LN) fun bQ e=>?_
    rw [←e];exact List.set_getElem_self bQ
   rw [NU] at R'
   exact h f _ ⟨S,R',⟨rfl,rfl,rfl⟩,a0 R hf,pm,c',wI,OI,(up kL).2⟩
end
section
variable {g:G} {cx:cp} {fs:List Fn} {mg mb:Str→Option Value} {A:Around} {E:Value→Shared→Prop} {φ:List Addr} {σ:ag} {s:Shared} {env:Env} {nm:List (Str×Nat)} {ρ:aF}
theorem xd {scope:Scope} {nx:Nat} {x:Str} {v:V} {av:Value} {bg:Heap} {L f:Addr} {q:Str} {cd:Value} (K:uT scope env.scope nm nx x) (R:ak g φ σ s.heap) (F:dA g φ env nm ρ s.heap) (hv:VR g φ s.heap v av) (hk:∀ b o,s.heap.get? b=some o→bg.get? b=some o) (hL:s.heap.get? L=none) (gF:bg.Ns L (fun y=>[(x,av)].reverse.lookup y)) :
  dA g φ (newEnv scope L mainGlobals (cO env scope.names []) q (some f) cd none builtinsNs) (bO scope nm nx [x]) (cE ρ nx v) bg:=by
 have hf:∀ n,(n,NameKind.free)∈scope.names→∃ c,env.cells.lookup n=some c:=fun n hn=>by
  obtain ⟨h1,i,hi⟩:=K.free n hn
  refine fv (F.cells n i hi h1) fun c u hc _=>?_
  exact ⟨c,hc⟩
 have S:SE φ s.heap φ bg:=SE.keeps _ hk
 have kD:∀ {x c},(cO env scope.names []).lookup x=some c→env.cells.lookup x=some c∧scope.names.lookup x=some .free:=fun {x c} e=>by
  refine Or.elim (iX (mem_of_lookup e)) (fun q=>aJ q fun h1 h2=>?_) (fun h1=>?_)
  ·exact ⟨h2,K.uniq _ _ h1⟩
  ·cases h1
 have JA:∀ {y i},nx≤i→[x][i - nx]? = some y→y=x∧i=nx:=fun {y i} h1 h2=>by
  have bQ:=(List.getElem?_eq_some_iff.mp h2).1
  simp only [List.length_cons,List.length_nil] at bQ
  have e:i - nx=0:=Nat.le_antisymm (Nat.le_of_lt_succ bQ) (Nat.zero_le _)
  rw [e] at h2
  exact ⟨(Option.some.inj h2).symm,Nat.le_antisymm (l3 0xc2111ba1808010ba201 rfl bQ (sA _ _)) (h1)⟩
 refine ⟨K.kind,rfl,rfl,⟨_,gF,?_⟩,?_,a0 R hL,a7 R hL,?_,?_,?_,fun q=>?_,F.stk.to fun L o es ep h1 h2 h3=>⟨⟨o,es,ep,hk L o h1,h2⟩,h3⟩⟩
 ·intro y i w hy qe rG
  refine Or.elim (bH hy) (fun q=>aJ q fun h1 h2=>?_) (fun q=>aJ q fun h1 h2=>?_)
  ·refine aJ (JA h1 h2) fun q1 q2=>?_;subst q1 q2
   simp only [cE,if_true] at rG
   cases rG
   exact ⟨av,by simp,hv.step R S⟩
  ·have e1:scope.names.lookup y=some .local:=qe
   rw [K.uniq _ _ h1] at e1;cases e1
 ·intro y i hy qe
  refine Or.elim (bH hy) (fun q=>aJ q fun h1 h2=>?_) (fun q=>aJ q fun h1 h2=>?_)
  ·refine aJ (JA h1 h2) fun q1 q2=>?_;subst q1 q2
   exfalso
   refine Or.elim qe (fun r=>?_) (fun r=>?_)
   ·have e1:scope.names.lookup y=some .cell:=r
    rw [K.par] at e1;cases e1
   ·have e1:scope.names.lookup y=some .free:=r
    rw [K.par] at e1;cases e1
  ·obtain ⟨h3,j,hj⟩:=K.free y h1
   refine kF (F.cells y i h2 h3) fun c u hc Fj qO=>?_
   refine Exists.elim (ci ((iV [] hf).2 h1 hc)) fun c' dG=>?_
   have D2:c'=c:=by have:=(kD dG).1;rw [hc] at this;exact (Option.some.inj this).symm
   subst D2
   refine ⟨c',u,dG,Fj.keeps hk,fun w hw=>?_⟩
   have bQ:=K.below _ _ (mem_of_lookup h2)
   simp only [cE,if_neg (Nat.ne_of_lt bQ)] at hw
   refine au (qO w hw) fun a h4 h5=>?_
   exact ⟨a,h4,h5.step R S⟩
 ·intro y c e
  refine aJ (kD e) fun h1 _=>?_
  refine yl (F.cellF y c h1) fun Io h2 h3 h4=>?_;refine Exists.elim Io fun u hu=>?_
  refine ⟨⟨u,hu.keeps hk⟩,h2,fun q=>?_,h4⟩
  refine au hu fun o ho _=>?_
  rw [show c=L from q,hL] at ho;cases ho
 ·intro y z c e1 e2
  exact F.cellI y z c (kD e1).1 (kD e2).1
 ·intro y z i e1 e2
  rcases bH e1 with ⟨h1,h2⟩ | ⟨h1,h2⟩ <;> refine Or.elim (bH e2) (fun q=>aJ q fun h3 h4=>?_) (fun q=>aJ q fun h3 h4=>?_)
  ·exact (JA h1 h2).1.trans (JA h3 h4).1.symm
  ·have:=K.below _ _ (mem_of_lookup h4);lia
  ·have:=K.below _ _ (mem_of_lookup h2);lia
  ·exact F.slots y z i h2 h4
 ·rw [show (newEnv scope L mainGlobals (cO env scope.names []) _ (some f) cd none builtinsNs).scope=scope from rfl,K.lev] at q
  exact absurd q Bool.false_ne_true
noncomputable def Ai:ar:=fun _ _ _=>none
theorem qw (G:eH g cx fs mg mb) {env:Env}:∀ (n:Nat) (e:Expr) (k:KX),yk cx env.scope nm n e=some k→aE g A env nm e (ab Ai k.ce)
 | 0,_,_,h=>no h
 | n+1,e,k,h=>by
  cases e with
  | Name x p =>
   refine aK h fun c h1 h=>?_
   refine aK h fun i h2 h=>?_
   apply db h
   have hc:c=.var i:=by
    cases c <;> first | exact no h2 | skip
    exact congrArg _ (sm h2)
   subst hc
   exact nV G h1
  | Constant c m p =>
   refine aK h fun i h1 h=>?_
   apply db h
   have hc:c=.int i:=by
    cases c <;> first | exact no h1 | skip
    exact congrArg _ (sm h1)
   apply aO hc
   exact li rfl
  | Subscript v i p =>
   refine aK h fun a h1 h=>?_
   refine aK h fun b h2 h=>?_
   apply db h
   refine v1 (fun l u st q e=>?_) (qw G n v a h1) (qw G n i b h2)
   subst e
   cases n <;> exact no h2
  | Tuple es m p =>
   refine vU h fun x y h0 h=>?_
   refine aK h fun a h1 h=>?_
   refine aK h fun b h2 h=>?_
   apply db h
   apply aO (iS h0)
   refine pr (f:=fun e=>(yk cx env.scope nm n e).bind fun k=>some k.ce) (fun e q=>by cases n <;> rfl) (fun e c hc=>?_) ?_
   ·refine aK hc fun k h3 hc=>?_
    apply db hc
    exact qw G n e k h3
   ·show ((yk cx env.scope nm n x).bind fun k=>some k.ce).bind _=_
    rw [show yk cx env.scope nm n x=some a from h1]
    show ((((yk cx env.scope nm n y).bind fun k=>some k.ce).bind _)).bind _=_
    rw [show yk cx env.scope nm n y=some b from h2]
    rfl
  | _=>exact no h
theorem nA {k:KX} {i:Nat}:∀ {ns:List Int} {ps:List KP},lG k i ρ σ ns=some ps→∃ kvs,cK kvs ps∧ps.map (·.2)=ns∧∀ (j:Nat) (p:KP) (kv:V),ps[j]? = some p→kvs[j]? = some kv→cH k (cE ρ i (.int p.2)) σ=some kv
 | [],ps,h=>by
  apply db h
  exact ⟨[],.nil,rfl,fun j p kv h=>by simp at h⟩
 | n::ns,ps,h=>by
  refine aK h fun v h1 h=>?_
  refine aK h fun l h2 h=>?_
  refine aK h fun qs h3 h=>?_
  apply db h
  refine fL (nA h3) fun kvs a1 a2 a3=>?_
  refine ⟨v::kvs,.cons h2 a1,by rw [List.map_cons,a2],fun j p kv hp hk=>?_⟩
  cases j with
  | zero =>
   cases hp;cases hk
   exact h1
  | succ j=>exact a3 j p kv hp hk
theorem zX {params:Arguments} {body:Expr} {scope:Scope} {a:Arg} {nx n:Nat} {kx:KX} {f:Addr} {s₀:Shared} {ps:List KP} {kvs:List V} (G:eH g cx fs mg mb) (rF:A.depth<recursionLimit) (hp:params=⟨[],[a],none,[],[],none,[]⟩) (K:uT scope env.scope nm nx a.arg) (Bo:yk cx scope (bO scope nm nx [a.arg]) n body=some kx)
  (L:DD g φ σ env params body scope s₀ f s) (F:dA g φ env nm ρ s.heap) (qM:∀ (j:Nat) (p:KP) (kv:V),ps[j]? = some p→kvs[j]? = some kv→cH kx (cE ρ nx (.int p.2)) σ=some kv):uS g A φ σ s (.ref f) ps kvs:=by
 intro j p kv t hj D5 s' S' R' T' E
 refine jH L.ob fun pm c' wI ho kL=>?_
 have F':=F.step L.R S'
 have jU:s'.heap.get? f=some (kla_obj "<lambda>" (env.qual ++ "<lambda>") params body scope (cO env scope.names []) pm c' wI):=(S'.pres _ _ ho L.fn).of fun es ep q=>nomatch q
 have KB:=L.R.notCode kL
 have Kz:jp s'.heap c' (env.qual ++ "<lambda>"):=by
  refine E1 kL fun o vs u e1 e2 e3 e4=>?_
  exact ⟨o,vs,u,(S'.pres _ _ e1 KB).hard (.inr ⟨e2,vs,e3⟩),e2,e3,e4⟩
 have tW:s'.heap.NoLimit:=G.nolimit.keeps R'.base
 refine wpAny_call (kla_callFunE (body:=body) rF jU rfl K.cor K.gen rfl Kz.rec ?_)
 rw [js (as:=[a]) hp rfl [.int p.2 t] rfl (List.nodup_cons.mpr ⟨(fun h=>nomatch h),List.nodup_nil⟩)]
 refine wpAny_pure (wpAny_newFunctionEnv (fun x hx e=>?_) (fun x hx=>?_) (fun bg gF M9=>⟨tW.fresh _ M9,kla_codeExpr ?_⟩) K.kind)
 ·rcases K.kinds x.1 x.2 hx with q | q | q <;> (rw [e] at q;cases q)
 ·rcases List.mem_cons.mp hx with rfl | hx
  ·exact K.par
  ·exact nomatch hx
 have gq:∀ b o,s'.heap.get? b=some o→bg.get? b=some o:=fun b o e=>M9.extBut b o (Nat.ne_of_lt (Heap.lt_size e)) (Heap.get?_push_of_some _ e)
 have FL:=xd (f:=f) (q:=env.qual ++ "<lambda>" ++ ".<locals>.") (cd:=.ref c') (v:=.int p.2) (av:=.int p.2 t) K R' F' (.int _ _) gq (aC _) gF
 have al:ak g φ σ bg:=R'.keeps gq
 have he:=ip (call:=Ai) (qM j p kv hj D5)
 refine wpAny_mono (qw (A:=A.deeper _) G n body kx Bo _ _ _ _ he φ {s' with heap:=bg,toks:=_} al FL _) (fun v cw hq=>?_) fun _ _ x=>x
 refine ym hq fun aI cM ba di fh=>?_
 refine au cM.ext fun u q2 _=>?_;subst q2
 have hu:u=[]:=by
  have h1:=ba.len
  have h2:=R'.len
  rw [List.length_append] at h1
  exact List.length_eq_zero_iff.mp (Nat.le_antisymm (l3 0xc08114b2a1015b20 rfl h1 h2) (Nat.zero_le _))
 subst hu
 rw [List.append_nil] at cM ba di
 exact ⟨SE.trans (SE.keeps _ gq) cM,ba,bx.trans ⟨rfl,rfl,rfl⟩ fh,di⟩
end
section
variable {g:G} {cx:cp} {fs:List Fn} {mg mb:Str→Option Value} {A:Around} {E:Value→Shared→Prop} {φ:List Addr} {σ:ag} {s:Shared} {env:Env} {nm:List (Str×Nat)} {ρ:aF} {call:ar} {d:Nat}
noncomputable def JM (g:G) (A:Around) (φ:List Addr) (σ:ag) (xs:List V) (a:Value) (s₁:Shared):Prop :=
 ∀ (s':Shared),SE φ s₁.heap φ s'.heap→ak g φ σ s'.heap→∀ ns,eh xs=some ns→ns.length≤100000→∀ (E:Value→Shared→Prop) (Q:List Value→Shared→Prop),
  (∀ h' tk vs,(∀ b o,s'.heap.get? b=some o→h'.get? b=some o)→IntsAre vs ns→Q vs {s' with heap:=h',toks:=tk})→wpAny (model g.prog g.w) A.in1 (collect a) Q E s'
theorem nR {a c:Int}:∀ (l:List Nat),eh (l.map fun (i:Nat)=>V.int (a+(i:Int) * c))=some (l.map fun (i:Nat)=>a+(i:Int) * c)
 | []=>rfl
 | i::l=>by
  show (eh (l.map fun (i:Nat)=>V.int (a+(i:Int) * c))).bind _=_
  rw [nR l];rfl
theorem Dd {f:Expr→Option CE} (hA:gS A d) (G:eH g cx fs mg mb) (hs:∀ e p,f (.Starred e p)=none) (cG:∀ e c,f e=some c→aE g A env nm e (ab call c)) {x:Expr} {it:gd} (h:wz f cx env.scope x=some it) (ho:Ik it=true) {xs:List V} {w:List (Nat×aZ)} {σ₁:ag}
  (ow:cm call it ρ σ=some (xs,w,σ₁)) (hw:pt it w=true) (R:ak g φ σ s.heap) (F:dA g φ env nm ρ s.heap) {Q:Value→Shared→Prop}
  (k:∀ a s₁ ah,SE φ s.heap ah s₁.heap→bx s s₁→ak g ah σ₁ s₁.heap→dA g ah env nm ρ s₁.heap→JM g A ah σ₁ xs a s₁→Q a s₁):wpAny (model g.prog g.w) A (eval x env) Q E s:=by
 cases it with
 | ex c =>
  have hx:aE g A env nm x (ab call c):=by
   have ex:qZ f x=some (.ex c)→aE g A env nm x (ab call c):=fun h=>by
    refine aK h fun c' hc h=>?_
    injection sm h with h
    exact h ▸ cG _ _ hc
   unfold wz at h
   cases hp:gi x with
   | none=>rw [hp] at h;exact ex h
   | some p =>
    rw [hp] at h
    obtain ⟨gn,as⟩:=p
    by_cases hg:(aX env.scope gn&&(dZ cx gn).isNone)=true
    ·replace h:=(if_pos hg).symm.trans h
     unfold wA at h
     by_cases h1:(gn==("range" : Str))=true
     ·replace h:=(if_pos h1).symm.trans h
      match as,h with
      | [],h=>exact no h
      | [a],h =>
       refine aK h fun y _ h=>?_
       exact nomatch sm h
      | [a,b],h =>
       refine aK h fun y _ h=>?_
       refine aK h fun z _ h=>?_
       exact nomatch sm h
      | a::b::c::r,h =>
       refine aK h fun y _ h=>?_
       refine aK h fun z _ h=>?_
       exact no h
     ·replace h:=(if_neg h1).symm.trans h
      by_cases h3:(gn==("enumerate" : Str))=true
      ·replace h:=(if_pos h3).symm.trans h
       refine aK h fun _ _ h=>?_
       refine aK h fun _ _ h=>?_
       exact nomatch sm h
      replace h:=(if_neg h3).symm.trans h
      exact ex h
    ·exact ex ((if_neg hg).symm.trans h)
  refine bo (show a9 (ab call c ρ σ) (fun x σ₁=>(iP σ₁ x).bind fun p=>some (p.1,p.2,σ₁))=_ from ow) fun v ae h1 ow=>?_
  refine vU ow fun P5 w' h2 ow=>?_
  refine iY (Ez ow) fun q1 q2 q3=>?_;subst q1 q2 q3
  refine hx.bind h1 R F fun a s₁ ah S T al aP aV=>k a s₁ ah S T al aP ?_
  intro s' S' R' ns gF hz E Q hQ
  have V':=aV.step al S'
  cases V' with
  | ref hr =>
   refine aK (m:=lst ae _) h2 fun l' ed h2=>?_
   refine aJ (kZ h2) fun q1 _=>?_;subst q1
   refine fL (R'.list hr ed) fun vs hl hv _=>?_
   have hI:=wb gF hv
   exact y8 hl.isList hI (by rw [hI.length];exact Nat.le_trans hz (Nat.le_of_ble_eq_true rfl)) hQ
  | tup _ _ _ _=>refine aJ (kZ h2) fun _ q2=>?_;subst q2;exact nomatch hw
  | ro _ _ _=>refine aJ (kZ h2) fun _ q2=>?_;subst q2;exact nomatch hw
  | none=>exact no h2
  | bool _=>exact no h2
  | int _ _=>exact no h2
  | str _ _=>exact no h2
 | rng1 c =>
  have hx:∃ y p q,x=.Call (.Name ("range" : Str) p) [y] [] q∧aX env.scope ("range" : Str)=true∧f y=some c:=by
   have ex:qZ f x=some (.rng1 c)→False:=fun h=>by
    refine aK h fun c' hc h=>?_
    exact nomatch sm h
   unfold wz at h
   cases hp:gi x with
   | none=>rw [hp] at h;exact (ex h).elim
   | some p =>
    rw [hp] at h
    obtain ⟨gn,as⟩:=p
    refine oZ (jg hp) fun p q q3=>?_;apply aO q3
    by_cases hg:(aX env.scope gn&&(dZ cx gn).isNone)=true
    ·replace h:=(if_pos hg).symm.trans h
     have Bn:aX env.scope gn=true:=(Bool.and_eq_true_iff.mp hg).1
     unfold wA at h
     by_cases h1:(gn==("range" : Str))=true
     ·replace h:=(if_pos h1).symm.trans h
      obtain rfl:=beq_iff_eq.mp h1
      match as,h with
      | [],h=>exact no h
      | [a],h =>
       refine aK h fun y hy h=>?_
       injection sm h with h
       exact ⟨a,p,q,rfl,Bn,h ▸ hy⟩
      | [a,b],h =>
       refine aK h fun y _ h=>?_
       refine aK h fun z _ h=>?_
       exact nomatch sm h
      | a::b::c::r,h =>
       refine aK h fun y _ h=>?_
       refine aK h fun z _ h=>?_
       exact no h
     ·replace h:=(if_neg h1).symm.trans h
      by_cases h3:(gn==("enumerate" : Str))=true
      ·replace h:=(if_pos h3).symm.trans h
       refine aK h fun _ _ h=>?_
       refine aK h fun _ _ h=>?_
       exact nomatch sm h
      replace h:=(if_neg h3).symm.trans h
      exact (ex h).elim
    ·exact (ex ((if_neg hg).symm.trans h)).elim
  refine qL hx fun y p q q4 hg hy=>?_;apply aO q4
  have gF:∀ e q,y≠.Starred e q:=fun e q e'=>by rw [e',hs] at hy;exact no hy
  refine qW (show kB (ab call c ρ σ) (fun n σ₁=>if dz n then some (bp 0 n 1,[],σ₁) else none)=_ from ow) fun n ae h1 ow=>?_
  refine dv ow fun wV ow=>?_
  refine iY (Ez ow) fun q1 q2 q3=>?_;subst q1 q2 q3
  refine aJ (bY hg) fun mq mu=>?_
  have gV:starEach [y] env=(false,eval y env)::starEach [] env:=nY gF
  refine Call_Name rfl (dj G F R mq mu (by decide) (v:=.type "range") (by decide +kernel) (cc (.inr ⟨_,rfl⟩) (args_cons ((cG _ _ hy).bind h1 R F fun b s₁ ah S T al aP aV=>args_nil ?_) gV) gV rfl))
  refine Exists.elim (vI rfl aV) fun t1 q2=>?_;apply aO q2
  have tZ:Builtin.Range.small 0 n 1=true:=nS (by decide) (by decide) (kb wV) (by decide)
  refine call_range_1 ?_
  have hk:∀ b o,s₁.heap.get? b=some o→(s₁.heap.push {cls:=.type "range", data:=.fields #[.int 0 (s₁.toks+1),.int n t1,.int 1 (s₁.toks+2)]}).get? b=some o:=fun b o e=>Heap.get?_push_of_some _ e
  have hr:=IsRange.new s₁.heap 0 n 1 (s₁.toks+1) t1 (s₁.toks+2)
  refine k _ _ ah (S.trans (SE.keeps _ fun b o e=>Heap.get?_push_of_some _ e)) (T.trans ⟨rfl,rfl,rfl⟩) (al.keeps fun b o e=>Heap.get?_push_of_some _ e) (aP.step al (SE.keeps _ fun b o e=>Heap.get?_push_of_some _ e)) ?_
  intro s' S' R' ns gF hz E Q hQ
  have Cp:=er 0 n 1 (by decide)
  have hrN:eZ 0 n 1=(Builtin.Range.rangeSize 0 n 1).toNat:=ph 0 n 1
  have H0:ns=(List.range (eZ 0 n 1)).map fun (i:Nat)=>(0:Int)+(i:Int) * 1:=(sm ((nR _).symm.trans gF)).symm
  have hlen:eZ 0 n 1≤100000:=by rw [H0,List.length_map,List.length_range] at hz;exact hz
  refine wG (n:=eZ 0 n 1) (a:=0) (b:=n) (c:=1) hA.handled ((S'.pres _ _ (Heap.get?_push_size _ rfl) (a0 al (aC _))).of fun es ep q=>nomatch q) tZ (by lia) (by lia) (by rw [←H0];exact hQ)
 | _=>exact nomatch ho
theorem xI {f:Expr→Option CE} (hA:gS A d) (G:eH g cx fs mg mb) (hs:∀ e p,f (.Starred e p)=none) (cG:∀ e c,f e=some c→aE g A env nm e (ab call c)) {as:List Expr} {k:Keyword} {p pos:Pos} {nx:Nat} {c:CE} (hg:aX env.scope ("sorted" : Str)=true) (h:I8 (fun i=>wz f cx env.scope i) cx env.scope nm nx as k=some c) :
  aE g A env nm (.Call (.Name ("sorted" : Str) p) as [k] pos) (ab call c):=by
 refine aK h fun x hx h=>?_
 refine au (ob h) fun k1 hl h=>?_;obtain ⟨a,body,scope⟩:=k1
 refine dv h fun hc h=>?_
 refine aK h fun it hit h=>?_
 refine dv h fun hok h=>?_
 refine aK h fun kx Bo h=>?_
 apply db h
 apply aO (b7 hx)
 simp only [Bool.and_eq_true,beq_iff_eq] at hc
 refine aJ hc fun k2 K8=>?_;refine aJ k2 fun zw Fy=>?_
 obtain ⟨ka,kv,kp⟩:=k
 obtain rfl:ka=some ("key" : Str):=zw
 refine kF (ub hl) fun ps lp q3 zy vn=>?_;subst q3
 have K:=zW K8
 have M4:=qm zy vn
 intro ρ σ v af he φ s R F E
 refine il (show g7 (cm call it ρ σ) (fun xs w σ₁=>if pt it w then gN kx nx ρ σ₁ xs else none)=_ from he) fun xs w σ₁ h1 he=>?_
 refine dv he fun hw he=>?_
 refine aK he fun ns gF he=>?_
 refine aJ (cJ he) fun k3 he=>?_;refine aJ k3 fun hr hz=>?_
 refine aK he fun PI K4 he=>?_
 refine dv he fun qf he=>?_
 refine iY (fG he) fun hzz q2 q3=>?_;apply aO q2;apply aO q3
 refine fL (nA K4) fun kvs zw wT qM=>?_
 refine aJ (bY hg) fun mq mu=>?_
 have gV:starEach [x] env=(false,eval x env)::starEach [] env:=by
  cases x with
  | Starred e q =>
   exfalso
   have:qZ f (.Starred e q)=some it:=hit
   refine aK this fun c' dG _=>?_
   rw [hs] at dG;exact no dG
  | _=>rfl
 have rF:A.in1.in1.depth<recursionLimit:=by
  have h1:=hA.depth
  have h2:600<recursionLimit:=by decide
  show A.depth<_
  exact l3 0x1c2010b02589a1011b202589 rfl h1 h2
 refine wpAny_Call_Name_kw (dj G F R mq mu (by decide) (v:=.builtin "sorted") (by decide +kernel) (callWith_kw (args_cons (Dd hA G hs cG hit hok h1 hw R F fun b s₁ ah S T al aP JU=>args_nil ?_) gV) (by rw [gV];rfl) (by rw [gV];rfl)))
 refine wpAny_bind (wpAny_bind (zY (a:=a) G al aP Fy K M4 fun q cw L=>wpAny_bind (wpAny_standAt (wpAny_pure ?_))))
 refine wpAny_bind (wpAny_holding (wpAny_pure (wpAny_pure ?_)))
 have dH:=aP.step al L.S
 refine wpAny_mono (uu (kvs:=kvs) (ps:=PI) L.R (fun Q hQ=>JU cw L.S L.R ns gF hz E Q (by rw [←wT];exact hQ)) zw (by rw [wT];exact hr) qf (by rw [bW zw,←List.length_map (f:=(·.2)),wT];exact hz) (zX G rF M4 K Bo L dH qM)) (fun _ _ x=>bG.after (S.trans L.S) (T.trans L.T) x) fun _ _ x=>x
end
end Lar
namespace Lar
open PySem PyProof.Rows PySem.Calls PySem.SeqAt
open Builtin Builtin.ObjectAttr
structure dI (h:Heap) (C C0:Addr) (mN mN0:Str→Option Value):Prop where
 c:fe h C (.ref C0::ik) mN
 c0:fe h C0 ik mN0
section
variable {prog:Program} {w:World} {A:Around} {E:Value→Shared→Prop} {h:Heap} {g:Array GenState} {d:Drawn} {t:Nat} {os:OsState}
 {C C0 x:Addr} {mN mN0 mA:Str→Option Value} {name:Str} {v:Value}
theorem rS {n:Str} {y:Option Value} {Q:Option Value→Shared→Prop} (S:dI h C C0 mN mN0) (hB:typeLookup (.type "ValueError") n=pure y)
  (hq:Q (match mN n with | some v=>some v | none=>match mN0 n with | some v=>some v | none=>y) ⟨h,g,d,t,os⟩):wpAny (model prog w) A (typeLookup (.ref C) n) Q E ⟨h,g,d,t,os⟩:=by
 refine kj S.c.obj fun N nm q bs sub k3=>?_;refine pM k3 fun k0 k1 k2 k3 k5 hC hn=>?_
 refine kj S.c0.obj fun N0 F8 q' u2 Gm t8=>?_;refine pM t8 fun LR LU LX L4 L7 yn Cp=>?_
 have jm:lookupAlong ik n=pure y:=by
  rw [typeLookup_eq,PySem.F.excBase_ValueError.mroIs] at hB;exact hB
 rw [typeLookup_eq]
 refine wpAny_bind (wpAny_mroOf_exc hC ?_)
 rw [lookupAlong_cons]
 refine wpAny_bind (wpAny_classOwn_exc hC hn ?_)
 cases hv:mN n with
 | some v=>rw [hv] at hq;exact wpAny_pure hq
 | none =>
  rw [hv] at hq
  show wpAny _ _ (lookupAlong (.ref C0::ik) n) _ _ _
  rw [lookupAlong_cons]
  refine wpAny_bind (wpAny_classOwn_cls yn Cp ?_)
  cases GJ:mN0 n with
  | some v=>rw [GJ] at hq;exact wpAny_pure hq
  | none=>rw [GJ] at hq;show wpAny _ _ (lookupAlong ik n) _ _ _;rw [jm];exact wpAny_pure hq
theorem cS {n:Str} {y:Option Value} {Q:Option Value→Shared→Prop} (S:dI h C C0 mN mN0) (hk:n∉fO) (hB:typeLookup (.type "ValueError") n=pure y) (hq:Q y ⟨h,g,d,t,os⟩):wpAny (model prog w) A (typeLookup (.ref C) n) Q E ⟨h,g,d,t,os⟩:=by
 refine rS S hB ?_
 rw [S.c.quiet n hk,S.c0.quiet n hk];exact hq
theorem dN {X:String} {b:Bool} (hb:ik.contains (.type X)=b):(Value.ref C::.ref C0::ik).contains (.type X)=b:=by
 rw [List.contains_cons,List.contains_cons,hb];rfl
theorem wE {az:List Value} {Q:Unit→Shared→Prop} (S:dI h C C0 mN mN0) (hq:Q () ⟨h,g,d,t,os⟩):wpAny (model prog w) A (checkBuiltinCall "ValueError.__new__" ⟨.ref C::az,[]⟩) Q E ⟨h,g,d,t,os⟩:=by
 refine kj S.c.obj fun N nm q bs sub L0=>?_;refine pM L0 fun k0 k1 k2 k3 k5 hC hn=>?_
 have Fn:=PySem.F.excBase_ValueError
 have HH:(Value.ref C::.ref C0::ik).contains (.type "ValueError")=true:=dN Fn.hasB
 have hstar:=Fn.noStar
 simp only [checkBuiltinCall,Fn.newKind,Fn.newSplit,Fn.newRow]
 repeat (first | refine wpAny_loadPart_at hC ?_ | (refine wpAny_isSubtype_exc hC ?_;rw [HH]) | refine wpAny_staticBase_exc hC ?_ | refine wpAny_madeBy_exc hC ?_ | simp only [bne_self_eq_false,Bool.false_eq_true,if_false] | wp_step)
 exact hq
theorem Cc {az:List Value} {R:Result→Shared→Prop} (S:dI h C C0 mN mN0) (jm:az.length≤sizeLine)
  (hq:R (.ok (.ret (.ref (h.objs.size+1)))) ⟨(h.push {cls:=.type "tuple", data:=.seq az.toArray}).push {cls:=.ref C,data:=.fields #[.ref h.objs.size,.none,.none,.none,.bool false,.none]},g,d,t,os⟩) :
  codeAny (model prog w) A (.builtin "ValueError.__new__" ⟨.ref C::az,[]⟩) R ⟨h,g,d,t,os⟩:=by
 refine kj S.c.obj fun N nm q bs sub L6=>?_;refine pM L6 fun k0 k1 k2 k3 k5 hC hn=>?_
 have Fn:=PySem.F.excBase_ValueError
 have hends:=Fn.ends
 have tS:(Value.ref C::.ref C0::ik).contains (.type "ValueError")=true:=dN Fn.hasB
 have Ox:(Value.ref C::.ref C0::ik).contains (.type "AttributeError")=false:=dN Fn.noAttr
 have OA:(Value.ref C::.ref C0::ik).contains (.type "NameError")=false:=dN Fn.noName
 refine codeAny_builtinAt Fn.entry ?_
 unfold Builtin.«BaseException.__new__»
 refine PySem.wpAt_bind ?_
 show PySem.wpAt _ _ _ (stack>>=_) _ _ _
 refine PySem.wpAt_bind (PySem.wpAt_stack fun p below=>PySem.wpAt_of_wpAny ?_)
 wp_walk
 refine PySem.wpAt_of_wpAny ?_
 rw [Fn.owner]
 repeat (first | with_reducible refine wpAny_madeHere_exc Fn.canon hC ?_ | with_reducible refine wpAny_loadPart_at hC ?_ | (with_reducible refine wpAny_isSubtype_exc hC ?_;first | rw [tS] | rw [Ox] | rw [OA]) | wp_step)
 show R _ _
 rw [Heap.size_push]
 exact hq
theorem dI.keeps {h':Heap} (S:dI h C C0 mN mN0) (hk:∀ b o,h.get? b=some o→h'.get? b=some o):dI h' C C0 mN mN0:=by
 obtain ⟨⟨N,nm,q,bs,sub,k0,k1,k2,k3,k5,hC,hn⟩,q1⟩:=S.c
 obtain ⟨⟨N0,F8,q',u2,Gm,LR,LU,LX,L4,L7,yn,Cp⟩,q2⟩:=S.c0
 exact ⟨⟨⟨N,nm,q,bs,sub,k0,k1,k2,k3,k5,hk _ _ hC,hn.keeps hk⟩,q1⟩,⟨⟨N0,F8,q',u2,Gm,LR,LU,LX,L4,L7,hk _ _ yn,Cp.keeps hk⟩,q2⟩⟩
theorem xV {az:List Value} {fI:Addr} {oI:Obj} {Q:PySem.Fin→Shared→Prop} (S:dI h C C0 mN mN0) (h1:mN ("__init__" : Str)=none) (h2:mN0 ("__init__" : Str)=some (.ref fI)) (KN:h.get? fI=some oI) (KO:oI.cls=.type "function") (jm:az.length≤sizeLine)
  (hq:∀ h' e,Heap.MadeExcOf h h' e (.ref C) az→wpAny (model prog w) A (call (.ref fI) (.ref e::az)) (fun r s'=>r=.none∧Q (.done (.ret (.ref e))) s') E ⟨h',g,d,t,os⟩) :
  wpAny (model prog w) A (Builtin.«type.__call__» ⟨.ref C::az,[]⟩) Q E ⟨h,g,d,t,os⟩:=by
 refine kj (id S.c.obj) fun N nm q bs sub L8=>?_;refine pM L8 fun k0 k1 k2 k3 k5 hC hn=>?_
 have Fn:=PySem.F.excBase_ValueError
 repeat (first | with_reducible refine wpAny_loadPart_at hC ?_ | with_reducible refine wpAny_madeBy_exc hC ?_ | wp_step)
 refine codeAny_call_builtin_code (Code.quiet_builtin _ Fn.quiet) (wE S ?_)
 refine Cc S jm ?_
 show wpAny _ _ _ _ _ _
 have kp:∀ b o,h.get? b=some o→((h.push {cls:=.type "tuple", data:=.seq az.toArray}).push {cls:=.ref C,data:=.fields #[.ref h.objs.size,.none,.none,.none,.bool false,.none]}).get? b=some o:=fun b o e=>Heap.get?_push_of_some _ (Heap.get?_push_of_some _ e)
 have fM:=S.keeps kp
 have Hz:=kp _ _ hC
 have Fp:=kp _ _ KN
 have HO:((h.push {cls:=.type "tuple", data:=.seq az.toArray}).push
   {cls:=.ref C,data:=.fields #[.ref h.objs.size,.none,.none,.none,.bool false,.none]}).get? (h.objs.size+1)=some
   {cls:=.ref C,data:=.fields #[.ref h.objs.size,.none,.none,.none,.bool false,.none]}:=by heap_get
 have Ky:(Value.ref C::.ref C0::ik).contains (.ref C)=true:=by simp
 unfold isInstance
 repeat (first | with_reducible refine wpAny_loadPart_at HO ?_ | (with_reducible refine wpAny_isSubtype_exc Hz ?_;rw [Ky]) | wp_step)
 show wpAny _ _ (typeLookup (.ref C) _) _ _ _
 refine rS fM Fn.init.lookup ?_
 rw [h1,h2]
 refine wpAny_holding (wpAny_bind ?_)
 unfold bindSpecial
 refine wpAny_bind (wpAny_typeOf (T := "function") ⟨_,Fp,KO⟩ ?_)
 rw [if_pos (by decide)]
 refine wpAny_pure (wpAny_bind (wpAny_mono (hq _ (h.objs.size+1) ⟨kp,Heap.get?_none_of_le (Nat.le_succ _),h.objs.size,HO,Heap.get?_none_of_le (Nat.le_refl _),?_⟩) (fun r s' hr=>?_) fun _ _ x=>x))
 ·exact Heap.get?_push_of_some _ (Heap.get?_push_at rfl rfl)
 ·refine aJ hr fun q1 hQ=>?_;apply aO q1
  wp_walk
  exact hQ
theorem y0 {az:List Value} {fI:Addr} {oI:Obj} {Q:Value→Shared→Prop} (S:dI h C C0 mN mN0) (h1:mN ("__init__" : Str)=none) (h2:mN0 ("__init__" : Str)=some (.ref fI)) (KN:h.get? fI=some oI) (KO:oI.cls=.type "function") (jm:az.length≤sizeLine)
  (hq:∀ h' e,Heap.MadeExcOf h h' e (.ref C) az→wpAny (model prog w) (A.under (.builtin "type.__call__" ⟨.ref C::az,[]⟩)) (call (.ref fI) (.ref e::az)) (fun r s'=>r=.none∧Q (.ref e) s') E ⟨h',g,d,t,os⟩) :
  wpAny (model prog w) A (call (.ref C) az) Q E ⟨h,g,d,t,os⟩:=by
 refine kj (id S.c.obj) fun N nm q bs sub L9=>?_;refine pM L9 fun k0 k1 k2 k3 k5 hC hn=>?_
 have f1:=tc_lookup
 have f2:=tc_bind (.ref C)
 have hT:(⟨h,g,d,t,os⟩:Shared).TypeIs (.ref C) "type" := ⟨_,hC,rfl⟩
 refine wpAny_call (codeAny_of_tree ?_)
 show wpAny _ _ (callAny (.ref C) _) _ _ _
 repeat (any_goals (first | assumption | with_reducible refine wpAny_loadPart_at hC ?_ | wp_step))
 refine ⟨rfl,?_⟩
 refine codeAny_call_builtin_at (Code.quiet_builtin _ (by decide +kernel)) entry_typeCall (wpAny_check_type_call_sub hC (xV S h1 h2 KN KO jm fun h' e hm=>?_))
 exact hq h' e hm
end
open Builtin Builtin.ObjectAttr
theorem vL:typeLookup (.type "ValueError") ("word" : Str)=pure none:=by rw [typeLookup_type,builtinLookup_eq_fast];kernel_rfl
theorem vQ:("word" : Str)∉fO:=by decide +kernel
theorem F7:("__setattr__" : Str)∉fO:=by decide +kernel
section
variable {prog:Program} {w:World} {A:Around} {E:Value→Shared→Prop} {h:Heap} {g:Array GenState} {d:Drawn} {t:Nat} {os:OsState}
 {C C0 x:Addr} {mN mN0:Str→Option Value} {v:Value} {vs:Array Value} {sl:Array (Option Value)}
noncomputable def yF (h:Heap) (x C:Addr) (vs:Array Value) (sl:Array (Option Value)) (v:Value) (h':Heap):Prop :=
 ∃ D,h'.get? x=some {cls:=.ref C,dict:=some D,data:=.fields vs,slots:=sl}∧h'.Ns1 D (fun y=>if y=("word" : Str) then some v else none)∧h.get? D=none∧∀ b ob,b≠x→h.get? b=some ob→h'.get? b=some ob
set_option tactic.hygienic true in
theorem xr {tk:Tok} {o:Obj} {Q:PySem.Fin→Shared→Prop} (S:dI h C C0 mN mN0) (hx:h.get? x=some o) (hc:o.cls=.ref C) (Ji:o.dict=none) (KI:o.data=.fields vs) (qf:o.slots=sl)
  (hq:∀ h' Dl,yF h x C vs sl v h'→Q (.done (.ret .none)) ⟨h',g,d,Dl,os⟩):wpAny (model prog w) A (Builtin.«object.__setattr__» ⟨[.ref x,.str "word" tk,v],[]⟩) Q E ⟨h,g,d,t,os⟩:=by
 refine kj (id S.c.obj) fun N nm q bs sub k3=>?_;refine pM k3 fun k0 k1 k2 k3 k5 hC hn=>?_
 have SF:=PySem.F.store_ValueError
 have H4:refuseLoop (.ref x) "__setattr__" ik=pure ():=SF.passes (.ref x)
 unfold Builtin.«object.__setattr__»
 repeat (first | rw [refuse_eq] | (rw [refuseLoop_ref,refuseLoop_ref,H4]) | (with_reducible refine wpAny_loadPart_at hx ?_;rw [hc]) | with_reducible refine wpAny_mroOf_exc hC ?_ | with_reducible refine cS S vQ vL ?_ | wp_step)
 rw [Ji,if_neg (by simp [typeHasDict])]
 split
 ·rename_i kL
  cases kL
 split
 ·rename_i c kL
  exact nomatch KI.symm.trans kL
 have Eb:(h.push {cls:=.type "dict", data:=.dict #[]}).get? x=some o:=Heap.get?_push_of_some _ hx
 have Js:x≠h.objs.size:=Nat.ne_of_lt (Heap.lt_size hx)
 refine wpAny_bind (wpAny_alloc' ?_)
 refine wpAny_bind (wpAny_update' Eb ?_)
 refine wpAny_pure ?_
 have OL:((h.push {cls:=.type "dict", data:=.dict #[]}).update x fun o=>{cls:=o.cls,dict:=some h.objs.size,data:=o.data,slots:=o.slots}).get? h.objs.size
   = some {cls:=.type "dict", data:=.dict #[]}:=(Heap.get?_update_ne _ _ _ _ Js.symm).trans (Heap.get?_push_at rfl rfl)
 have yp:((h.push {cls:=.type "dict", data:=.dict #[]}).update x fun o=>{cls:=o.cls,dict:=some h.objs.size,data:=o.data,slots:=o.slots}).Ns h.objs.size (fun _=>none) :=
  ⟨_,#[],_,OL,rfl,fun e he=>absurd he (by simp),fun _=>rfl⟩
 show wpAny _ _ (storeInDict h.objs.size (.str "word" tk) "word" v) _ _ _
 unfold storeInDict newKeyGuard
 refine wpAny_bind (wpAny_pure (wpAny_bind (wpAny_nsSet1 (Heap.Ns1.of_empty yp) fun h' jl hs=>?_)))
 refine qL (jl.count (Within.cons ("word" : Str) v Within.nil)) fun oD esD epD O0 OD Oy=>?_
 refine wpAny_bind (wpAny_lookBehind O0 (by rw [OD];exact pastItsLine_dict (Nat.le_trans Oy (by rw [List.length_cons,List.length_nil,sizeLine_eq];lia))) ?_)
 wp_walk
 refine hq h' _ ⟨h.objs.size,?_,jl,Heap.get?_none_of_le (Nat.le_refl _),fun b ob Ov hb=>?_⟩
 ·refine (hs.2 x Js).trans ((Heap.get?_update_self _ Eb ?_).trans ?_)
  ·exact Obj.isFreed_of_fields KI
  ·rw [hc,KI,qf]
 ·exact (hs.2 b (Nat.ne_of_lt (Heap.lt_size hb))).trans ((Heap.get?_update_ne _ _ _ _ Ov).trans (Heap.get?_push_of_some _ hb))
theorem y5 {r4:Value} {o:Obj} {Q:Unit→Shared→Prop} (S:dI h C C0 mN mN0) (hx:h.get? x=some o) (hc:o.cls=.ref C) (hq:Q () ⟨h,g,d,t,os⟩):wpAny (model prog w) A (checkBuiltinCall "object.__setattr__" ⟨[.ref x,r4,v],[]⟩) Q E ⟨h,g,d,t,os⟩:=by
 refine kj (id S.c.obj) fun N nm q bs sub t8=>?_;refine pM t8 fun k0 k1 k2 k3 k5 hC hn=>?_
 have SF:=PySem.F.store_ValueError
 have tS:(Value.ref C::.ref C0::ik).contains (.type "object")=true:=dN SF.hasOwner
 have ha:=SF.args (.ref x) r4 v
 simp only [checkBuiltinCall,SF.kind,SF.split]
 refine wpAny_bind ?_
 ·unfold isInstance
  repeat (first | (with_reducible refine wpAny_loadPart_at hx ?_;rw [hc]) | (with_reducible refine wpAny_isSubtype_exc hC ?_;rw [tS]) | wp_step)
  exact hq
theorem AA {Q:Unit→Shared→Prop} (S:dI h C C0 mN mN0) (hx:h.get? x=some {cls:=.ref C,data:=.fields vs,slots:=sl})
  (hq:∀ h' Dl,yF h x C vs sl v h'→Q () ⟨h',g,d,Dl,os⟩):wpAny (model prog w) A (setAttr (.ref x) "word" v) Q E ⟨h,g,d,t,os⟩:=by
 have SF:=PySem.F.store_ValueError
 have f3:=SF.slot.bind (.ref x)
 unfold setAttr callSpecial? specialOf
 repeat (any_goals (first | assumption | with_reducible refine wpAny_loadPart_at hx ?_ | with_reducible refine cS S F7 SF.slot.lookup ?_ | wp_step))
 refine codeAny_call_builtin SF.slot.plain SF.entry (y5 S hx rfl (xr (sl:=sl) S hx rfl rfl rfl rfl fun h' Dl W=>?_))
 repeat (any_goals (first | assumption | wp_step))
 exact hq h' Dl W
end
section
variable {prog:Program} {w:World} {A:Around} {E:Value→Shared→Prop} {s:Shared} {C C0 e f:Addr} {mN mN0:Str→Option Value} {v:Value} {vs:Array Value}
theorem wW {Q:Value→Shared→Prop} (I:fV s.heap f) (rF:A.depth<recursionLimit) (tW:s.heap.NoLimit) (S:dI s.heap C C0 mN mN0) (hx:s.heap.get? e=some {cls:=.ref C,data:=.fields vs})
  (hq:∀ h' Dl,(∃ D,h'.get? e=some {cls:=.ref C,dict:=some D,data:=.fields vs}∧h'.Ns1 D (fun y=>if y=("word" : Str) then some v else none)∧s.heap.get? D=none∧∀ b ob,b≠e→s.heap.get? b=some ob→h'.get? b=some ob)→Q .none {s with heap:=h',toks:=Dl}) :
  wpAny (model prog w) A (call (.ref f) [.ref e,v]) Q E s:=by
 refine Hq I.ex fun o fd a1 a2 ho IO kL=>Ja IO.init fun p1 p2 p3 p4 hb=>?_
 have HF:bindArgs fd ⟨[.ref e,v],[]⟩=pure ((([a1,a2].map (·.arg))).zip [.ref e,v]):=js IO.params IO.df [.ref e,v] rfl (by rw [List.map_cons,List.map_cons,IO.n1,IO.n2];decide)
 have Fh:bindArgs fd ⟨[.ref e,v],[]⟩=pure [(("self" : Str),.ref e),(("word" : Str),v)]:=by rw [HF,List.map_cons,List.map_cons,IO.n1,IO.n2];rfl
 have Ei:fd.scope.names.lookup ("self" : Str)=some .local:=by rw [IO.names];decide
 have Ej:fd.scope.names.lookup ("word" : Str)=some .local:=by rw [IO.names];decide
 refine wpAny_call (codeAny_call_cells rF ho IO.data tW kL hb Fh IO.clo (fun x hx=>?_) (fun s₁ x=>?_) IO.co IO.gen IO.kind)
 ·rcases List.mem_cons.mp hx with rfl | hx
  ·exact .inl Ei
  ·rw [List.mem_singleton.mp hx];exact .inl Ej
 ·have keep:=x.toInCall.keep
  refine oZ x.toInCall.same fun bg lU zA=>?_
  have k1:(callEnvC fd s.heap.objs.size f).kindOf ("self" : Str)=some .local:=Ei
  have k2:(callEnvC fd s.heap.objs.size f).kindOf ("word" : Str)=some .local:=Ej
  have nd:([(("self" : Str),Value.ref e),(("word" : Str),v)].map (·.1)).Nodup:=by show (["self", "word"]:List Str).Nodup;decide
  refine wpAny_execs_cons (plainObj_wpAny_Assign_Attribute ?_)
  refine NameLC x IO.kind k2 (v:=v) (by rw [iT k2 _ _ nd];rfl) ?_ (by decide)
  refine NameLC x IO.kind k1 (v:=.ref e) (by rw [iT k1 _ _ nd];rfl) ?_ (by decide)
  subst zA
  refine AA (h:=bg) (S.keeps keep) (keep _ _ hx) fun h' Dl W=>?_
  refine ym W fun D w1 w2 w3 w4=>?_
  refine wpAny_execs_nil (hq h' Dl ⟨D,w1,w2,?_,fun b ob hb Kx=>w4 b ob hb (keep b ob Kx)⟩)
  exact eJ keep w3
end
noncomputable def P0 (f:Value):Prop:=f=.none
noncomputable def PL (L:Addr) (f:Value):Prop:=f=.none∨f=rawInt L
noncomputable def JO (φ:List Addr) (aW h:Heap) (U:Prop) (P:Value→Prop) (e:Addr) (vs:Array Value):Prop :=
 (U∧vs[1]? = some .none)∨∃ T oT ts f,vs[1]? = some (.ref T)∧T≠e∧h.get? T=some oT∧oT.cls=.type "traceback" ∧ oT.data=.fields ts∧ts[3]? = some f∧P f∧aW.get? T=none∧T∉φ
structure G6 (g:G) (φ:List Addr) (aW h:Heap) (U:Prop) (P:Value→Prop) (e:Addr) (c:Nat) (w:Str):Prop where
 ex:∃ vs D m t sl,h.get? e=some {cls:=.ref (g.cls c),dict:=some D,data:=.fields vs,slots:=sl}∧1<vs.size∧h.Ns D m∧m ("word" : Str)=some (.str w t)∧aW.get? D=none∧D∉φ∧JO φ aW h U P e vs
 e0:aW.get? e=none
 eφ:e∉φ
 eB:g.B.get? e=none
section
variable {g:G} {A:Around} {E:Value→Shared→Prop} {φ:List Addr} {σ:ag} {s:Shared} {aW:Heap} {P:Value→Prop} {e L:Addr} {c:Nat} {w:Str} {env:Env}
theorem ak.same {h h':Heap} (R:ak g φ σ h) (hB:∀ b o,g.B.get? b=some o→h.get? b=some o→h'.get? b=some o) (zJ:∀ a o,a∈φ→h.get? a=some o→h'.get? a=some o) (hH:∀ b o,h.get? b=some o→ic o→b∉φ→h'.get? b=some o):ak g φ σ h' :=
 ⟨fun b o e=>hB b o e (R.base b o e),R.fresh,R.len,R.nodup,fun i a m h1 h2=>(R.objs i a m h1 h2).stepT (fun _ _ e=>e) (fun b o e hh hn=>⟨hH b o e hh hn,hn⟩) fun o e=>zJ a o (List.mem_of_getElem? h1) e,R.tabs⟩
structure yi (g:G) (aW h h':Heap) (e:Addr):Prop where
 old:∀ b o,h.get? b=some o→aW.get? b≠none→eR h' b o
 dom:∀ b o,h.get? b=some o→∃ o',h'.get? b=some o'
theorem yi.trans {h h' s9:Heap} (x:yi g aW h h' e) (y:yi g aW h' s9 e):yi g aW h s9 e :=
 ⟨fun b o e h0=>(x.old b o e h0).then fun o' e'=>y.old b o' e' h0,fun b o e=>by refine Exists.elim (x.dom b o e) fun o' e'=>?_;exact y.dom b o' e'⟩
noncomputable def I5 (g:G) (aW:Heap):Prop:=∀ f∈g.fr,∀ L,f.frame=some L→aW.get? L≠none
noncomputable def vk (g:G):List Addr:=g.fr.filterMap (·.frame)
theorem pW {L:Addr} (h:L∈vk g):∃ f∈g.fr,f.frame=some L:=by
 refine au (List.mem_filterMap.mp h) fun f hf hl=>?_
 exact ⟨f,hf,hl⟩
theorem oa.at {h:Heap} (F:oa g φ h) {L:Addr} (hL:L∈vk g):∃ o es ep,h.get? L=some o∧o.data=.dict es ep∧L∉φ∧g.B.get? L=none:=by
 refine au (pW hL) fun f hf hl=>?_
 obtain ⟨_,L',o,es,ep,k2,k3,k4,k5,k6⟩:=F f hf
 rw [hl] at k2;cases k2
 exact ⟨o,es,ep,k3,k4,k5,k6⟩
theorem tP {h base:Heap} (F:oa g φ h) (hb:∀ L∈vk g,base.get? L=none):h.FunFrames base g.fr:=by
 unfold oa vk at *
 generalize g.fr=l at F hb
 induction l with
 | nil=>trivial
 | cons f r ih =>
  obtain ⟨k1,L,o,es,ep,k2,k3,k4,_,_⟩:=F f List.mem_cons_self
  refine ⟨k1,⟨L,o,k2,hb L (List.mem_filterMap.mpr ⟨f,List.mem_cons_self,k2⟩),k3,fun vs q=>nomatch k4.symm.trans q⟩,ih (fun f hf=>F f (List.mem_cons_of_mem _ hf)) fun L hL=>hb L ?_⟩
  refine au (List.mem_filterMap.mp hL) fun f' wQ ed=>?_
  exact List.mem_filterMap.mpr ⟨f',List.mem_cons_of_mem _ wQ,ed⟩
theorem Aj (b:Addr):(({}:Heap)).get? b=none:=Heap.get?_none_of_le (Nat.zero_le _)
theorem B7 {h bg:Heap} {oT:Obj} {ts vs:Array Value} {D:Addr} {m:Str→Option Value} {t:Tok} {sl:Array (Option Value)} {f:Value} (R:ak g φ σ h) (FS:oa g φ h) (F0:I5 g aW) (e0:aW.get? e=none) (eφ:e∉φ) (eB:g.B.get? e=none) (h0:∀ b o,aW.get? b=some o→∃ o',h.get? b=some o')
  (he:h.get? e=some {cls:=.ref (g.cls c),dict:=some D,data:=.fields vs,slots:=sl}) (cZ:1<vs.size) (hD:h.Ns D m) (hm:m ("word" : Str)=some (.str w t)) (D0:aW.get? D=none) (qR:D∉φ) (hs:Heap.SlotsOnly (vk g) h bg) (hc:oT.cls=.type "traceback") (hd:oT.data=.fields ts) (h3:ts[3]? = some f) (hP:P f) :
  let h':=(bg.push oT).update e (Obj.mapFields (·.setIfInBounds 1 (.ref bg.objs.size)))
  ak g φ σ h'∧oa g φ h'∧G6 g φ aW h' False P e c w∧yi g aW h h' e:=by
 intro h'
 have eL:∀ L∈vk g,L≠e∧L≠D:=fun L hL=>by
  refine au (pW hL) fun f' hf hl=>?_
  exact ⟨fun q=>F0 f' hf L hl (q ▸ e0),fun q=>F0 f' hf L hl (q ▸ D0)⟩
 have e1:bg.get? e=some {cls:=.ref (g.cls c),dict:=some D,data:=.fields vs,slots:=sl}:=(hs.2.1 e fun q=>(eL e q).1 rfl).trans he
 have fr:oT.isFreed=false:=Obj.isFreed_of_fields hd
 have HC:bg.objs.size≠e:=Nat.ne_of_gt (Heap.lt_size e1)
 have vW:∀ b,b≠e→h'.get? b=(bg.push oT).get? b:=fun b hb=>Heap.get?_update_other _ _ (Ne.symm hb)
 have keep:∀ b o,b≠e→bg.get? b=some o→h'.get? b=some o:=fun b o hb e2=>(vW b hb).trans (Heap.get?_push_of_some _ e2)
 have ex:∀ b o,b≠e→b∉vk g→h.get? b=some o→h'.get? b=some o:=fun b o hb hf e2=>keep b o hb ((hs.2.1 b hf).trans e2)
 have T':h'.get? bg.objs.size=some oT:=(vW _ HC).trans (Heap.get?_push_size _ fr)
 have ee:h'.get? e=some {cls:=.ref (g.cls c),dict:=some D,data:=.fields (vs.setIfInBounds 1 (.ref bg.objs.size)),slots:=sl}:=Heap.get?_update_self _ (Heap.get?_push_of_some _ e1) rfl
 have DL:D∉vk g:=fun q=>(eL D q).2 rfl
 have De:D≠e:=fun q=>by
  refine qL hD fun o es ep ho jI _=>?_
  rw [q,he] at ho;cases ho;cases jI
 have Nj:∀ b o,b≠e→h.get? b=some o→(∃ es ep,o.data=.dict es ep)∨b∉vk g→eR h' b o:=fun b o hb e2 H3=>by
  by_cases hf:b∈vk g
  ·refine Exists.elim (hs.2.2 b o e2) fun Mm e3=>?_
   refine Or.elim H3 (fun H3=>?_) (fun H3=>?_)
   ·exact .inr ⟨H3,Mm,keep b _ hb e3⟩
   ·exact absurd hf H3
  ·exact .inl (ex b o hb hf e2)
 have MK:∀ b o,b∈vk g→h.get? b=some o→∃ es ep,o.data=.dict es ep:=fun b o hb e2=>by
  refine qL (FS.at hb) fun o' es ep k1 k2 _=>?_
  rw [e2] at k1;cases k1
  exact ⟨es,ep,k2⟩
 have kp:∀ b o,b≠e→h.get? b=some o→eR h' b o:=fun b o hb e2=>by
  by_cases hf:b∈vk g
  ·exact Nj b o hb e2 (.inl (MK b o hf e2))
  ·exact Nj b o hb e2 (.inr hf)
 refine ⟨R.same (fun b o hb e2=>?_) (fun a o ha e2=>?_) (fun b o e2 hh hn=>?_),FS.to fun L o es ep k1 k2 k3=>?_,⟨⟨_,D,m,t,sl,ee,by rw [Array.size_setIfInBounds];exact cZ,eR.ns hD fun o e2=>kp D o De e2,hm,D0,qR,.inr ⟨bg.objs.size,oT,ts,f,?_,HC,T',hc,hd,h3,hP,?_,?_⟩⟩,e0,eφ,eB⟩,⟨fun b o e2 hb=>kp b o (fun q=>hb (q ▸ e0)) e2,fun b o e2=>?_⟩⟩
 ·refine ex b o (fun q=>by rw [q,eB] at hb;cases hb) (fun hf=>?_) e2
  refine E1 (FS.at hf) fun o' es ep _ _ _ k4=>?_
  rw [k4] at hb;cases hb
 ·refine ex a o (fun q=>eφ (q ▸ ha)) (fun hf=>?_) e2
  refine E1 (FS.at hf) fun o' es ep _ _ k3 _=>?_
  exact k3 ha
 ·refine ex b o (fun q=>?_) (fun hf=>?_) e2
  ·rw [q,he] at e2;cases e2
   rcases hh with ⟨h1,_⟩ | ⟨h1,_⟩ <;> exact nomatch h1
  ·refine oZ (MK b o hf e2) fun es ep k2=>?_
   exact wJ k2 hh
 ·have Od:L≠e:=fun q=>by rw [q,he] at k1;cases k1;cases k2
  exact ⟨(kp L o Od k1).isD k2,k3⟩
 ·rw [Array.getElem?_setIfInBounds];simp [cZ]
 ·cases q:aW.get? bg.objs.size with
  | none=>rfl
  | some o =>
   refine Exists.elim (h0 _ o q) fun o' e3=>?_
   have:=Heap.lt_size e3
   rw [hs.1] at this
   exact absurd this (Nat.lt_irrefl _)
 ·refine a0 R (Heap.get?_none_of_le ?_)
  rw [hs.1];exact Nat.le_refl _
 ·by_cases hb:b=e
  ·exact ⟨_,hb ▸ ee⟩
  ·exact (kp b o hb e2).live
end
section
variable {g:G} {A:Around} {E:Value→Shared→Prop} {φ:List Addr} {σ:ag} {s:Shared} {aW:Heap} {U:Prop} {P P':Value→Prop} {e L:Addr} {c:Nat} {w:Str} {env:Env}
structure kt (g:G) (φ:List Addr) (σ:ag) (aW h:Heap) (U:Prop) (P:Value→Prop) (e:Addr) (c:Nat) (w:Str):Prop where
 R:ak g φ σ h
 FS:oa g φ h
 F0:I5 g aW
 dom:∀ b o,aW.get? b=some o→∃ o',h.get? b=some o'
 B0:∀ b o,g.B.get? b=some o→aW.get? b=some o
 X:G6 g φ aW h U P e c w
theorem G6.mono {h:Heap} {U':Prop} (X:G6 g φ aW h U P e c w) (hU:U→U') (hP:∀ f,P f→P' f):G6 g φ aW h U' P' e c w:=by
 obtain ⟨⟨vs,D,m,t,sl,he,cZ,hD,hm,D0,qR,ht⟩,e0,eφ,eB⟩:=X
 refine ⟨⟨vs,D,m,t,sl,he,cZ,hD,hm,D0,qR,?_⟩,e0,eφ,eB⟩
 rcases ht with ⟨u,h1⟩ | ⟨T,oT,ts,f,h1,h2,h3,h4,h5,h6,h7,h8⟩
 ·exact .inl ⟨hU u,h1⟩
 ·exact .inr ⟨T,oT,ts,f,h1,h2,h3,h4,h5,h6,hP f h7,h8⟩
theorem rA {h:Heap} {T:Addr} {oT:Obj} {vs ts:Array Value} {D:Addr} {m:Str→Option Value} {t:Tok} {sl:Array (Option Value)} {v:Value} (Y:kt g φ σ aW h U P e c w)
  (he:h.get? e=some {cls:=.ref (g.cls c),dict:=some D,data:=.fields vs,slots:=sl}) (cZ:1<vs.size) (hD:h.Ns D m) (hm:m ("word" : Str)=some (.str w t)) (D0:aW.get? D=none) (qR:D∉φ) (h1:vs[1]? = some (.ref T)) (HC:T≠e) (hT:h.get? T=some oT) (hc:oT.cls=.type "traceback") (hd:oT.data=.fields ts) (h3:3<ts.size) (T0:aW.get? T=none) (Mw:T∉φ) (hP:P' v) :
  let h':=h.update T (Obj.mapFields (·.setIfInBounds 3 v))
  kt g φ σ aW h' False P' e c w∧yi g aW h h' e:=by
 intro h'
 obtain ⟨R,FS,F0,dom,B0,X⟩:=Y
 have vW:∀ b,b≠T→h'.get? b=h.get? b:=fun b hb=>Heap.get?_update_other _ _ (Ne.symm hb)
 have jI:=Obj.data_mapFields hd (·.setIfInBounds 3 v)
 have TT:h'.get? T=some (Obj.mapFields (·.setIfInBounds 3 v) oT):=Heap.get?_update_self _ hT (Obj.isFreed_of_fields jI)
 have dm:∀ b o,h.get? b=some o→∃ o',h'.get? b=some o':=fun b o e2=>by
  by_cases hb:b=T
  ·exact ⟨_,hb ▸ TT⟩
  ·exact ⟨o,(vW b hb).trans e2⟩
 have DT:D≠T:=fun q=>by
  refine qL hD fun o es ep ho Fk _=>?_
  rw [q,hT] at ho;cases ho
  exact nomatch hd.symm.trans Fk
 refine ⟨⟨R.same (fun b o hb e2=>(vW b fun q=>?_).trans e2) (fun a o ha e2=>(vW a fun q=>Mw (q ▸ ha)).trans e2) (fun b o e2 hh hn=>(vW b fun q=>?_).trans e2),FS.to fun L o es ep k1 k2 k3=>⟨⟨o,es,ep,(vW L fun q=>?_).trans k1,k2⟩,k3⟩,F0,fun b o e2=>?_,B0,
  ⟨⟨vs,D,m,t,sl,(vW e HC.symm).trans he,cZ,?_,hm,D0,qR,.inr ⟨T,_,_,v,h1,HC,TT,(Obj.cls_mapFields _ _).trans hc,jI,?_,hP,T0,Mw⟩⟩,X.e0,X.eφ,X.eB⟩⟩,⟨fun b o e2 hb=>.inl ((vW b fun q=>hb (q ▸ T0)).trans e2),dm⟩⟩
 ·have:=B0 b o hb
  rw [q,T0] at this;cases this
 ·rw [q,hT] at e2;cases e2
  rcases hh with ⟨k,_⟩ | ⟨k,_⟩ <;> (rw [hc] at k;exact absurd k (by decide))
 ·rw [q,hT] at k1;cases k1
  exact nomatch hd.symm.trans k2
 ·refine Exists.elim (dom b o e2) fun o' e3=>?_
  exact dm b o' e3
 ·refine jH hD fun o es ep ho r=>?_
  exact ⟨o,es,ep,(vW D DT).trans ho,r⟩
 ·rw [Array.getElem?_setIfInBounds];simp [h3]
theorem fT {fr:Option Addr} {Q:Unit→Shared→Prop} (Y:kt g φ σ aW s.heap U P e c w) (hP:P' (fr.elim .none fun f=>rawInt f))
  (hQ:∀ h',kt g φ σ aW h' U P' e c w→yi g aW s.heap h' e→Q () {s with heap:=h'}):wpAny (model g.prog g.w) A (setFlight (.ref e) fr) Q E s:=by
 refine Jb Y.X.ex fun vs D m t sl he cZ hD hm D0 qR ht=>?_
 unfold setFlight
 rcases ht with ⟨u,h1⟩ | ⟨T,oT,ts,f,h1,h2,h3,h4,h5,h6,h7,h8,h9⟩
 ·refine wpAny_bind (wpAny_field he rfl h1 ?_)
  rw [if_neg (by decide)]
  exact wpAny_pure (hQ s.heap ⟨Y.R,Y.FS,Y.F0,Y.dom,Y.B0,⟨vs,D,m,t,sl,he,cZ,hD,hm,D0,qR,.inl ⟨u,h1⟩⟩,Y.X.e0,Y.X.eφ,Y.X.eB⟩ ⟨fun b o e _=>.inl e,fun b o e=>⟨o,e⟩⟩)
 ·refine wpAny_bind (wpAny_field he rfl h1 ?_)
  rw [if_pos (show (Value.ref T != Value.none)=true from by simp)]
  have Hy:3<ts.size:=(Array.getElem?_eq_some_iff.mp h6).1
  refine aJ (rA (P':=P') Y he cZ hD hm D0 qR h1 h2 h3 h4 h5 Hy h8 h9 hP) fun Y' K'=>?_
  exact wpAny_setField h3 h5 Hy (hQ _ ⟨Y'.R,Y'.FS,Y'.F0,Y'.dom,Y'.B0,Y'.X.mono (fun q=>q.elim) fun _ q=>q⟩ K')
theorem ui {Q:Unit→Shared→Prop} (Fq:A.frames=some g.fr) {bi:List Env} (hg:g.fr=env::bi) (hf:env.frame=some L) (Y:kt g φ σ aW s.heap U (PL L) e c w)
  (hQ:∀ h',kt g φ σ aW h' False (PL L) e c w→yi g aW s.heap h' e→Q () {s with heap:=h'}):wpAny (model g.prog g.w) A (noteFrame (.ref e) env) Q E s:=by
 refine Jb Y.X.ex fun vs D m t sl he cZ hD hm D0 qR ht=>?_
 have MJ:∀ (s':Shared) (Fm:Value) (b:Bool) (vs:Array Value),kt g φ σ aW s'.heap U (PL L) e c w→s'.heap.get? e=some {cls:=.ref (g.cls c),dict:=some D,data:=.fields vs,slots:=sl}→1<vs.size→s'.heap.Ns D m→(∀ h',kt g φ σ aW h' False (PL L) e c w→yi g aW s'.heap h' e→Q () {s' with heap:=h'}) →
   wpAny (model g.prog g.w) A (do let a ←frameOf env;let pl ←entryPlaceOf L b;let x ←EntryCells.newEntry Fm a .none (rawInt L) .none pl;setField (.ref e) 1 x) Q E s':=by
  intro s' Fm b vs Y' wO zC N7 Og
  refine wpAny_bind (wpAny_frameOf_fun (base:={}) (Fq.trans (congrArg some hg)) (hg ▸ tP Y'.FS fun L _=>Aj L) hf fun bg H9=>?_)
  refine wpAny_bind (wpAny_entryPlaceOf fun pl zy=>?_)
  unfold EntryCells.newEntry newFields
  refine wpAny_bind (wpAny_newObj_type ?_ (zy.sizeOk5 _ _ _ _ _))
  have zD:Heap.SlotsOnly (vk g) s'.heap bg:=by unfold vk;rw [hg];exact H9
  have HK:bg.get? e=some {cls:=.ref (g.cls c),dict:=some D,data:=.fields vs,slots:=sl}:=(zD.2.1 e fun q=>by
   refine au (pW q) fun f' wQ ed=>?_
   exact Y'.F0 f' wQ e ed Y'.X.e0).trans wO
  refine wpAny_setField (Heap.get?_push_of_some _ HK) rfl zC ?_
  refine yl (B7 (P:=PL L) (f:=rawInt L) (oT:={cls:=.type "traceback", dict:=none,data:=.fields ([Fm,.ref L,.none,rawInt L,.none]++(if pl.isEmpty then List.replicate 6 Value.none else pl)).toArray}) Y'.R Y'.FS Y'.F0 Y'.X.e0 Y'.X.eφ Y'.X.eB Y'.dom wO zC N7 hm D0 qR zD rfl rfl (by first | rfl | simp) (.inr rfl)) fun a1 a2 a3 a4=>?_
  refine Og _ ⟨a1,a2,Y'.F0,fun b o e2=>?_,Y'.B0,a3⟩ a4
  refine Exists.elim (Y'.dom b o e2) fun o' e3=>?_
  exact a4.dom b o' e3
 unfold noteFrame
 simp only [hf]
 rcases ht with ⟨u,h1⟩ | ⟨T,oT,ts,f,h1,h2,h3,h4,h5,h6,h7,h8,h9⟩
 ·refine wpAny_bind (wpAny_field he rfl h1 ?_)
  rw [if_neg (by decide)]
  exact MJ s .none _ vs Y he cZ hD hQ
 ·refine wpAny_bind (wpAny_field he rfl h1 ?_)
  rw [if_pos (show (Value.ref T != Value.none)=true from by simp)]
  refine wpAny_bind (wpAny_field h3 h5 h6 ?_)
  have Hy:3<ts.size:=(Array.getElem?_eq_some_iff.mp h6).1
  by_cases Jj:(f==rawInt L)=true
  ·rw [if_pos Jj]
   exact wpAny_pure (hQ s.heap ⟨Y.R,Y.FS,Y.F0,Y.dom,Y.B0,⟨vs,D,m,t,sl,he,cZ,hD,hm,D0,qR,.inr ⟨T,oT,ts,f,h1,h2,h3,h4,h5,h6,h7,h8,h9⟩⟩,Y.X.e0,Y.X.eφ,Y.X.eB⟩ ⟨fun b o e _=>.inl e,fun b o e=>⟨o,e⟩⟩)
  ·rw [if_neg Jj]
   refine aJ (rA (P':=PL L) Y he cZ hD hm D0 qR h1 h2 h3 h4 h5 Hy h8 h9 (.inl rfl)) fun Y' K'=>?_
   refine wpAny_bind (wpAny_setField h3 h5 Hy ?_)
   have vW:∀ b,b≠T→(s.heap.update T (Obj.mapFields (·.setIfInBounds 3 Value.none))).get? b=s.heap.get? b:=fun b hb=>Heap.get?_update_other _ _ (Ne.symm hb)
   have DT:D≠T:=fun q=>by
    refine qL hD fun o es ep ho Fk _=>?_
    rw [q,h3] at ho;cases ho
    exact nomatch h5.symm.trans Fk
   refine MJ {s with heap:=s.heap.update T (Obj.mapFields (·.setIfInBounds 3 Value.none))} (.ref T) _ vs ⟨Y'.R,Y'.FS,Y'.F0,Y'.dom,Y'.B0,Y'.X.mono (fun q=>q.elim) fun _ q=>q⟩ ((vW e h2.symm).trans he) cZ ?_ fun h' Y2 K2=>hQ h' Y2 (K'.trans K2)
   refine jH hD fun o es ep ho r=>?_
   exact ⟨o,es,ep,(vW D DT).trans ho,r⟩
theorem CC {Q:Unit→Shared→Prop} (Fq:A.frames=some g.fr) {bi:List Env} (hg:g.fr=env::bi) (hf:env.frame=some L) (Y:kt g φ σ aW s.heap U (PL L) e c w)
  (hQ:∀ h',kt g φ σ aW h' False P0 e c w→yi g aW s.heap h' e→Q () {s with heap:=h'}):wpAny (model g.prog g.w) A (leaving env (.ref e)) Q E s:=by
 unfold leaving
 refine wpAny_bind (ui Fq hg hf Y fun h' Y' K'=>?_)
 exact fT (s:={s with heap:=h'}) (P':=P0) Y' rfl fun s9 Y2 K2=>hQ s9 Y2 (K'.trans K2)
theorem ET {Q:Prop} {E':Value→Shared→Prop} (hf:env.frame=some L) (Y:kt g φ σ aW s.heap False (PL L) e c w)
  (hQ:∀ h',kt g φ σ aW h' False (PL L) e c w→yi g aW s.heap h' e→E' (.ref e) {s with heap:=h'}):cameBackBy (model g.prog g.w) A env E' (.ref e) s:=by
 refine Jb Y.X.ex fun vs D m t sl he cZ hD hm D0 qR ht=>?_
 unfold cameBackBy
 refine Or.elim ht (fun q=>aJ q fun u h1=>?_) (fun q=>Kb q fun T oT ts f h1 r=>?_)
 ·exact u.elim
 ·refine wpAny_bind (wpAny_field he rfl h1 ?_)
  rw [if_neg (by simp)]
  exact fT (P':=PL L) Y (by rw [hf];exact .inr rfl) hQ
end
theorem sS (C:Addr) (v:Value):(Code.builtin "type.__call__" ⟨[.ref C,v],[]⟩).weight=1:=by kernel_rfl
theorem jF {x:Str} {c:Nat} (h:fC.lookup x=some c):(c=0∧x=("LarderError" : Str))∨(c=1∧x=("TooMuch" : Str))∨(c=2∧x=("Short" : Str))∨(c=3∧x=("ValueError" : Str)):=by
 have hm:=mem_of_lookup h
 simp only [fC,List.mem_cons,Prod.mk.injEq,List.not_mem_nil,or_false] at hm
 rcases hm with ⟨h1,h2⟩ | ⟨h1,h2⟩ | ⟨h1,h2⟩ | ⟨h1,h2⟩
 ·exact .inl ⟨h2,h1⟩
 ·exact .inr (.inl ⟨h2,h1⟩)
 ·exact .inr (.inr (.inl ⟨h2,h1⟩))
 ·exact .inr (.inr (.inr ⟨h2,h1⟩))
section
variable {prog:Program} {w:World} {A:Around} {E:Value→Shared→Prop} {s:Shared} {env:Env} {C C0:Addr} {mN mN0:Str→Option Value}
theorem ul {x:Sem Value} {Q:PySem.Flow→Shared→Prop} (hh:A.handled=none)
  (h:wpAny (model prog w) A x (fun v s₁=>∃ e t D,v=.ref e∧dI s₁.heap C C0 mN mN0∧s₁.heap.get? e=some {cls:=.ref C,dict:=some D,data:=.fields #[.ref t,.none,.none,.none,.bool false,.none]}∧E (.ref e) s₁) E s) :
  wpAny (model prog w) A (raiseStmt env (some x) none) Q E s:=by
 have tS:(Value.ref C::.ref C0::ik).contains (.type "BaseException")=true:=dN PySem.F.excBase_ValueError.hasBase
 unfold raiseStmt
 refine wpAny_bind (wpAny_mono h (fun v s₁ bg=>?_) fun _ _ x=>x)
 refine E1 bg fun e t D q4 S he hE=>?_;apply aO q4
 refine kj (id S.c.obj) fun N nm q bs sub k3=>?_;refine pM k3 fun k0 k1 k2 k3 k5 hC hn=>?_
 obtain ⟨hp,g,d,tk,os⟩:=s₁
 repeat (first | with_reducible refine wpAny_loadPart_at he ?_ | with_reducible refine wpAny_loadPart_at hC ?_ | (with_reducible refine wpAny_isSubtype_exc hC ?_;rw [tS]) | wp_step)
 exact wpAny_raiseNew_none hh hE
end
section
variable {g:G} {cx:cp} {fs:List Fn} {mg mb:Str→Option Value} {A:Around} {E:Value→Shared→Prop} {φ:List Addr} {σ:ag} {s:Shared} {env:Env} {nm:List (Str×Nat)} {ρ:aF} {call:ar} {d:Nat}
theorem fV.keeps {h h':Heap} {f:Addr} (I:fV h f) (hk:∀ b o,h.get? b=some o→h'.get? b=some o):fV h' f:=by
 exact Hq I.ex fun o fd a1 a2 ho IO kL=>⟨o,fd,a1,a2,hk _ _ ho,IO,kL.keeps hk⟩
theorem fe.keeps {h h':Heap} {C:Addr} {tl:List Value} {mN:Str→Option Value} (X:fe h C tl mN) (hk:∀ b o,h.get? b=some o→h'.get? b=some o):fe h' C tl mN:=by
 obtain ⟨⟨N,nm,q,bs,sub,k0,k1,k2,k3,k5,hC,hn⟩,q1⟩:=X
 exact ⟨⟨N,nm,q,bs,sub,k0,k1,k2,k3,k5,hk _ _ hC,hn.keeps hk⟩,q1⟩
theorem qA (G:eH g cx fs mg mb) {c:Nat} (hc:c=1∨c=2):∃ mN mN0 f,dI g.B (g.cls c) (g.cls 0) mN mN0∧mN ("__init__" : Str)=none∧mN0 ("__init__" : Str)=some (.ref f)∧fV g.B f:=by
 refine kF G.exc.c0 fun m0 f a1 a2 a3=>?_
 rcases hc with rfl | rfl
 ·refine au G.exc.c1 fun m1 b1 b2=>?_
  exact ⟨m1,m0,f,⟨b1,a1⟩,b2,a2,a3⟩
 ·refine au G.exc.c2 fun m1 b1 b2=>?_
  exact ⟨m1,m0,f,⟨b1,a1⟩,b2,a2,a3⟩
theorem rg (G:eH g cx fs mg mb) {x:Str} {c:Nat} (h:fC.lookup x=some c) (hc:c=1∨c=2∨c=0):mg x=some (.ref (g.cls c)):=by
 rcases jF h with ⟨rfl,rfl⟩ | ⟨rfl,rfl⟩ | ⟨rfl,rfl⟩ | ⟨rfl,rfl⟩
 ·exact G.exc.n0
 ·exact G.exc.n1
 ·exact G.exc.n2
 ·rcases hc with q | q | q <;> cases q
theorem CU {x:Str} {e:Expr} {np jR pos:Pos} {a:CE} {c:Nat} {wd:Str} {σ₁:ag} {Q:PySem.Flow→Shared→Prop} (hA:gS A d) (G:eH g cx fs mg mb) (hg:aX env.scope x=true) (Cg:fC.lookup x=some c) (hc:c=1∨c=2) (gF:∀ y q,e≠.Starred y q) (hx:aE g A env nm e (ab call a)) (he:ab call a ρ σ=some (.str wd,σ₁)) (R:ak g φ σ s.heap) (F:dA g φ env nm ρ s.heap)
  (hE:∀ ea ah s',SE φ s.heap ah s'.heap→bx s s'→kt g ah σ₁ s.heap s'.heap True P0 ea c wd→E (.ref ea) s') :
  wpAny (model g.prog g.w) A (exec (.Raise (some (.Call (.Name x np) [e] [] jR)) none pos) env) Q E s:=by
 refine E1 (qA G hc) fun mN mN0 f S2 i1 i2 i3=>?_
 refine aJ (bY hg) fun mq mu=>?_
 have gV:starEach [e] env=(false,eval e env)::starEach [] env:=nY gF
 have rF:A.depth<recursionLimit:=by
  have h1:=hA.depth
  have h2:600<recursionLimit:=by decide
  exact l3 0x1c2010b02589a1011b202589 rfl h1 h2
 have HJ:∀ v:Value,(A.under (.builtin "type.__call__" ⟨[.ref (g.cls c),v],[]⟩)).depth<recursionLimit:=fun v=>by
  have h1:=hA.depth
  have h2:700<recursionLimit:=by decide
  have h3:=sS (g.cls c) v
  show A.depth+(Code.builtin "type.__call__" ⟨[.ref (g.cls c),v],[]⟩).weight<_
  exact l4 0x1c2a3010b02589a1011b202bc914b183 rfl h1 h2 h3
 rw [arm_exec_Raise]
 refine wpAny_bind (wpAny_standAt (ul (C:=g.cls c) (C0:=g.cls 0) (mN:=mN) (mN0:=mN0) hA.handled ?_))
 refine wpAny_bind (wpAny_mono (wpAny_Call_ofName (gp G F R mq mu (rg G Cg (by rcases hc with q | q;exact .inl q;exact .inr (.inl q))) ?_)) (fun v gw eg=>wpAny_bind (wpAny_standAt (wpAny_pure eg))) fun _ _ x=>x)
 show wpAny _ _ (callWith jR (.ref (g.cls c)) [] (backTo jR (starEach [e] env)) []) _ _ _
 rw [gV]
 unfold callWith
 refine wpAny_bind (wpAny_holding (evalArgs_plain ?_))
 show wpAny _ _ (spliced (backTo jR ((false,eval e env)::starEach [] env))) _ _ _
 have PW:∀ {Q':List Value→Shared→Prop},wpAny (model g.prog g.w) A (spliced (backTo jR (starEach [e] env))) Q' E s→wpAny (model g.prog g.w) A (spliced (backTo jR ((false,eval e env)::starEach [] env))) Q' E s:=fun h=>by rw [gV] at h;exact h
 refine PW (args_cons (hx.bind he R F fun b s₁ ah S T al aP aV=>args_nil ?_) gV)
 apply Nr rfl aV;intro t
 refine wpAny_bind (wpAny_standAt ?_)
 have DF:=S2.keeps al.base
 refine kj (id DF.c.obj) fun N F8 q bs sub L9=>?_;refine pM L9 fun k0 k1 k2 k3 k5 hC hn=>?_
 have vo:∃ o,g.B.get? f=some o∧o.cls=.type "function" := by
  refine Hq i3.ex fun o fd a1 a2 ho IO _=>?_
  exact ⟨o,ho,IO.cls⟩
 refine au vo fun oI O1 Li=>?_
 have tW:s₁.heap.NoLimit:=G.nolimit.keeps al.base
 have GX:I5 g s.heap:=fun f' wQ L hl=>by
  obtain ⟨_,L',o,es,ep,k2,k3,_⟩:=F.stk f' wQ
  rw [hl] at k2;cases k2
  rw [k3];exact fun q=>nomatch q
 obtain ⟨hp,gg,dd,tk,os⟩:=s₁
 refine wpAny_bind (wpAny_keeperOf_exc hC ?_)
 refine wpAny_bind (y0 DF i1 i2 (al.base _ _ O1) Li (Nat.le_of_ble_eq_true rfl) fun h' ea hm=>?_)
 refine fL hm.there fun tt OF htn Ea=>?_
 refine wpAny_mono (wW (s:=⟨h',gg,dd,tk,os⟩) ((i3.keeps al.base).keeps hm.keeps) (HJ _) (tW.keeps hm.keeps) (DF.keeps hm.keeps) OF fun h2 PZ W=>?_) (fun v s' q=>q) fun _ _ x=>x
 refine ym W fun D w1 w2 w3 w4=>?_
 have wR:∀ b o,hp.get? b=some o→h2.get? b=some o:=fun b o e2=>w4 b o (fun q=>by rw [q,hm.new] at e2;cases e2) (hm.keeps b o e2)
 refine ⟨rfl,wpAny_bind (wpAny_holding (wpAny_point (wpAny_pure ⟨ea,tt,D,rfl,DF.keeps wR,w1,?_⟩)))⟩
 have S':SE φ s.heap ah h2:=S.trans (SE.keeps _ wR)
 have e0:hp.get? ea=none:=hm.new
 have D0:hp.get? D=none:=eJ hm.keeps w3
 refine hE ea ah ⟨h2,gg,dd,PZ,os⟩ S' (T.trans ⟨rfl,rfl,rfl⟩) ⟨al.keeps wR,(aP.step al (SE.keeps _ wR)).stk,GX,S'.dom,R.base,⟨⟨_,D,_,t,_,w1,Nat.le_of_ble_eq_true rfl,w2.ns,if_pos rfl,S.back D0,a0 al D0,.inl ⟨trivial,rfl⟩⟩,S.back e0,a0 al e0,a7 al e0⟩⟩
end
open Builtin Builtin.ObjectAttr
theorem En:("__getattribute__" : Str)∉fO:=by decide +kernel
theorem Eo:("__getattr__" : Str)∉fO:=by decide +kernel
theorem Iz:("__class__" : Str)∉fO:=by decide +kernel
theorem Iu:typeLookup (.type "ValueError") ("__class__" : Str)=pure (some (.builtin "object.__class__")):=by rw [typeLookup_type,builtinLookup_eq_fast];kernel_rfl
section
variable {prog:Program} {w:World} {A:Around} {E:Value→Shared→Prop} {h:Heap} {g:Array GenState} {d:Drawn} {t:Nat} {os:OsState}
 {C C0 a D:Addr} {mN mN0 m:Str→Option Value} {v:Value} {o:Obj} {vs:Array Value} {FB:ExcAttrBase "ValueError" ik}
theorem rd {r4:Value} {Q:Unit→Shared→Prop} (S:dI h C C0 mN mN0) (hx:h.get? a=some o) (hc:o.cls=.ref C) (hq:Q () ⟨h,g,d,t,os⟩):wpAny (model prog w) A (checkBuiltinCall "BaseException.__getattribute__" ⟨[.ref a,r4],[]⟩) Q E ⟨h,g,d,t,os⟩:=by
 refine kj (id S.c.obj) fun N nm q bs sub k3=>?_;refine pM k3 fun k0 k1 k2 k3 k5 hC hn=>?_
 have hk:builtinKind "BaseException.__getattribute__" = some .slot:=by decide +kernel
 have FK:splitId "BaseException.__getattribute__" = some ("BaseException", "__getattribute__"):=by decide +kernel
 have tS:(Value.ref C::.ref C0::ik).contains (.type "BaseException")=true:=dN PySem.F.excBase_ValueError.hasBase
 have ha:=PySem.F.args_bexc_ga (.ref a) r4
 simp only [checkBuiltinCall,hk,FK]
 refine wpAny_bind ?_
 ·unfold isInstance
  repeat (first | (with_reducible refine wpAny_loadPart_at hx ?_;rw [hc]) | (with_reducible refine wpAny_isSubtype_exc hC ?_;rw [tS]) | wp_step)
  exact hq
set_option tactic.hygienic true in
theorem uK {tk:Tok} {Q:PySem.Fin→Shared→Prop} (S:dI h C C0 mN mN0) (hx:h.get? a=some o) (hc:o.cls=.ref C) (hd:o.data=.fields vs) (jS:o.dict=some D) (hD:h.Ns D m) (hw:m ("word" : Str)=some v) (hq:Q (.done (.ret v)) ⟨h,g,d,t,os⟩) :
  wpAny (model prog w) A (Builtin.«object.__getattribute__» ⟨[.ref a,.str "word" tk],[]⟩) Q E ⟨h,g,d,t,os⟩:=by
 refine kj (id S.c.obj) fun N nm q bs sub t8=>?_;refine pM t8 fun k0 k1 k2 k3 k5 hC hn=>?_
 repeat (any_goals (first | assumption | (with_reducible refine wpAny_loadPart_at hx ?_;rw [hc]) | with_reducible refine cS S vQ vL ?_ | wp_step))
 split
 ·rename_i c kL
  rw [hd] at kL;cases kL
 unfold instanceDict
 repeat (first | (with_reducible refine wpAny_loadPart_at hx ?_;rw [hc]) | with_reducible refine wpAny_loadPart_at hC ?_ | wp_step)
 rw [jS]
 repeat (first | (with_reducible refine wpAny_nsGet hD ?_;rw [hw]) | wp_step)
 exact hq
theorem x0 {tk:Tok} {R:Result→Shared→Prop} (S:dI h C C0 mN mN0) (hx:h.get? a=some o) (hc:o.cls=.ref C) (hd:o.data=.fields vs) (jS:o.dict=some D) (hD:h.Ns D m) (hw:m ("word" : Str)=some v) (hq:R (.ok (.ret v)) ⟨h,g,d,t,os⟩) :
  codeAny (model prog w) A (.call (.builtin "BaseException.__getattribute__") ⟨[.ref a,.str "word" tk],[]⟩) R ⟨h,g,d,t,os⟩ :=
 codeAny_call_builtin PySem.F.attrBase_ValueError.ga.plain PySem.F.entry_bexc_ga (rd S hx hc (uK S hx hc hd jS hD hw hq))
theorem Dq {tk:Tok} {fill expr:Bool} {Q:Value→Shared→Prop} (S:dI h C C0 mN mN0) (hx:h.get? a=some o) (hc:o.cls=.ref C) (hd:o.data=.fields vs) (jS:o.dict=some D) (hD:h.Ns D m) (hw:m ("word" : Str)=some v) (hh:handedOut v=pure v) (hq:Q v ⟨h,g,d,t,os⟩) :
  wpAny (model prog w) A (getAttrBy (.ref a) (.str "word" tk) fill expr) Q E ⟨h,g,d,t,os⟩:=by
 have f3:=PySem.F.attrBase_ValueError.ga.bind (.ref a)
 have Jq:(expr&&onTheHeap (Value.builtin "BaseException.__getattribute__"))=false:=by cases expr <;> rfl
 have LH:(Value.builtin "BaseException.__getattribute__" == Value.builtin "object.__getattribute__")=false:=by decide +kernel
 have zG:(onTheHeap (Value.ref C)&&Value.builtin "BaseException.__getattribute__" == Value.builtin "object.__getattribute__")=false:=by rw [LH];rfl
 repeat (any_goals (first | assumption | (with_reducible refine wpAny_loadPart_at hx ?_;rw [hc]) | with_reducible refine cS S En PySem.F.attrBase_ValueError.ga.lookup ?_ | with_reducible refine cS S Eo PySem.F.attrBase_ValueError.noGetattr ?_ | wp_step))
 refine x0 S hx hc hd jS hD hw ?_
 show wpAny _ _ (handedOut v) _ _ _
 rw [hh]
 exact wpAny_pure hq
theorem xZ {expr:Bool} {Q:Value→Shared→Prop} (S:dI h C C0 mN mN0) (hx:h.get? a=some o) (hc:o.cls=.ref C) (hd:o.data=.fields vs) (jS:o.dict=some D) (hD:h.Ns D m) (hw:m ("word" : Str)=some v) (hh:handedOut v=pure v) (hq:Q v ⟨h,g,d,t+1,os⟩) :
  wpAny (model prog w) A (getAttr (.ref a) "word" expr) Q E ⟨h,g,d,t,os⟩:=by
 unfold getAttr
 repeat (any_goals (first | assumption | with_reducible apply Dq S hx hc hd jS hD hw hh | wp_step))
end
open Builtin Builtin.ObjectAttr
section
variable {prog:Program} {w:World} {A:Around} {E:Value→Shared→Prop} {h:Heap} {g:Array GenState} {d:Drawn} {t:Nat} {os:OsState}
 {C C0 a D:Addr} {mN mN0 m:Str→Option Value} {v cv:Value} {o:Obj} {vs:Array Value} {b:Bool}
theorem wF {R:Result→Shared→Prop} (S:dI h C C0 mN mN0) (hx:h.get? a=some o) (hc:o.cls=.ref C) (hq:R (.ok (.ret (.ref C))) ⟨h,g,d,t,os⟩) :
  codeAny (model prog w) A (.call (.builtin "getset_descriptor.__get__") ⟨[.builtin "object.__class__", .ref a,.ref C],[]⟩) R ⟨h,g,d,t,os⟩:=by
 refine kj (id S.c.obj) fun N nm q bs sub k3=>?_;refine pM k3 fun k0 k1 k2 k3 k5 hC hn=>?_
 have MS:(⟨h,g,d,t,os⟩:Shared).TypeIs (.builtin "object.__class__") "getset_descriptor" := PySem.F.typeOf_object_class
 have tS:(Value.ref C::.ref C0::ik).contains (.type (".".intercalate ("object.__class__".cutAt '.').dropLast))=true:=by
  rw [PySem.F.owner_object_class];exact dN (by decide +kernel)
 refine codeAny_call_builtin PySem.F.slot_gs_get.plain PySem.F.entry_gs_get (PySem.F.slot_gs_get.check _ _ _ _ _ _ _ _ MS (PySem.F.args_gs_get _ _ _) ?_)
 repeat (any_goals (first | assumption | (with_reducible refine wpAny_loadPart_at hx ?_;rw [hc]) | (with_reducible refine wpAny_isSubtype_exc hC ?_;rw [tS]) | wp_step))
 refine ⟨Code.quiet_builtin _ (by decide +kernel),codeAny_builtin PySem.F.entry_object_class ?_⟩
 repeat (any_goals (first | assumption | (with_reducible refine wpAny_loadPart_at hx ?_;rw [hc]) | wp_step))
theorem re {tk:Tok} {Q:PySem.Fin→Shared→Prop} (S:dI h C C0 mN mN0) (hx:h.get? a=some o) (hc:o.cls=.ref C) (hq:Q (.done (.ret (.ref C))) ⟨h,g,d,t,os⟩) :
  wpAny (model prog w) A (Builtin.«object.__getattribute__» ⟨[.ref a,.str "__class__" tk],[]⟩) Q E ⟨h,g,d,t,os⟩:=by
 have MS:(⟨h,g,d,t,os⟩:Shared).TypeIs (.builtin "object.__class__") "getset_descriptor" := PySem.F.typeOf_object_class
 have f5:=PySem.F.typeOf_object_class
 have f6:=PySem.F.slot_gs_get.lookup
 have f7:=PySem.F.slot_gs_set.lookup
 repeat (any_goals (first | assumption | (with_reducible refine wpAny_loadPart_at hx ?_;rw [hc]) | with_reducible refine cS S Iz Iu ?_ | wp_step))
 refine wF S hx hc ?_
 repeat (any_goals (first | assumption | wp_step))
theorem tF {tk:Tok} {R:Result→Shared→Prop} (S:dI h C C0 mN mN0) (hx:h.get? a=some o) (hc:o.cls=.ref C) (hq:R (.ok (.ret (.ref C))) ⟨h,g,d,t,os⟩) :
  codeAny (model prog w) A (.call (.builtin "BaseException.__getattribute__") ⟨[.ref a,.str "__class__" tk],[]⟩) R ⟨h,g,d,t,os⟩ :=
 codeAny_call_builtin PySem.F.attrBase_ValueError.ga.plain PySem.F.entry_bexc_ga (rd S hx hc (re S hx hc hq))
theorem y6 {tk:Tok} {fill expr:Bool} {Q:Value→Shared→Prop} (S:dI h C C0 mN mN0) (hx:h.get? a=some o) (hc:o.cls=.ref C) (hq:Q (.ref C) ⟨h,g,d,t,os⟩) :
  wpAny (model prog w) A (getAttrBy (.ref a) (.str "__class__" tk) fill expr) Q E ⟨h,g,d,t,os⟩:=by
 have f3:=PySem.F.attrBase_ValueError.ga.bind (.ref a)
 have Jq:(expr&&onTheHeap (Value.builtin "BaseException.__getattribute__"))=false:=by cases expr <;> rfl
 have LH:(Value.builtin "BaseException.__getattribute__" == Value.builtin "object.__getattribute__")=false:=by decide +kernel
 have zG:(onTheHeap (Value.ref C)&&Value.builtin "BaseException.__getattribute__" == Value.builtin "object.__getattribute__")=false:=by rw [LH];rfl
 repeat (any_goals (first | assumption | (with_reducible refine wpAny_loadPart_at hx ?_;rw [hc]) | with_reducible refine cS S En PySem.F.attrBase_ValueError.ga.lookup ?_ | with_reducible refine cS S Eo PySem.F.attrBase_ValueError.noGetattr ?_ | wp_step))
 refine tF S hx hc ?_
 repeat (any_goals (first | assumption | wp_step))
theorem tE {Q:Option Value→Shared→Prop} (S:dI h C C0 mN mN0) (hx:h.get? a=some o) (hc:o.cls=.ref C) (hq:Q (some (.ref C)) ⟨h,g,d,t+1,os⟩):wpAny (model prog w) A (getAttr? (.ref a) "__class__") Q E ⟨h,g,d,t,os⟩:=by
 unfold getAttr? getAttrBy?
 repeat (any_goals (first | assumption | with_reducible apply y6 S hx hc | wp_step))
noncomputable def jK (h:Heap) (cv:Value):Prop:=(∃ T,cv=.type T∧typeOf (.type T)=pure (.type "type"))∨∃ C nm q N bs tl sub k0 k1 k2 k3 k5,cv=.ref C∧h.get? C=some (excClassObj nm q C N bs tl true [] sub false none none k0 k1 k2 k3 k5 "ValueError.__new__")
theorem jK.type {s:Shared} (x:jK s.heap cv):s.TypeIs cv "type" := by
 rcases x with ⟨T,rfl,h⟩ | ⟨C,nm,q,N,bs,tl,sub,k0,k1,k2,k3,k5,rfl,h⟩
 ·exact h
 ·exact ⟨_,h,rfl⟩
theorem jC {Q:Bool→Shared→Prop} (x:jK h cv) (hq:Q true ⟨h,g,d,t,os⟩):wpAny (model prog w) A (isType cv) Q E ⟨h,g,d,t,os⟩:=by
 unfold isType
 rcases x with ⟨T,rfl,h⟩ | ⟨C,nm,q,N,bs,tl,sub,k0,k1,k2,k3,k5,rfl,h⟩
 ·exact wpAny_pure hq
 ·repeat (any_goals (first | assumption | with_reducible refine wpAny_loadPart_at h ?_ | wp_step))
theorem uh {NL:Int} {tk:Tok} {Q:PySem.Fin→Shared→Prop} (S:dI h C C0 mN mN0) (hx:h.get? a=some o) (hc:o.cls=.ref C) (hI:jK h cv) (hb:(Value.ref C::.ref C0::ik).contains cv=b)
  (hq:∀ t',Q (.done (.ret (.bool b))) ⟨h,g,d,t',os⟩) :
  wpAny (model prog w) A (Builtin.«isinstance.nested» ⟨[.ref a,cv,.int NL tk],[]⟩) Q E ⟨h,g,d,t,os⟩:=by
 refine kj (id S.c.obj) fun N nm q bs sub t8=>?_;refine pM t8 fun k0 k1 k2 k3 k5 hC hn=>?_
 have ht:(⟨h,g,d,t,os⟩:Shared).TypeIs cv "type" := jK.type hI
 have Ol:∀ t',(⟨h,g,d,t',os⟩:Shared).TypeIs (.ref C) "type" := fun t'=>⟨_,hC,rfl⟩
 have hT1:=Ol (t+1)
 have Ob:jK h (.ref C):=.inr ⟨_,_,_,_,_,_,_,_,_,_,_,_,rfl,hC⟩
 by_cases he:(Value.ref C==cv)=true
 ·have hb':b=true:=by rw [←hb,List.contains_cons];simp only [beq_iff_eq] at he;rw [he];simp
  subst hb'
  have Bp:=hq t
  repeat (any_goals (first | assumption | (with_reducible refine wpAny_loadPart_at hx ?_;rw [hc]) | wp_step))
 ·have wO:(Value.ref C==cv)=false:=by simpa using he
  cases b with
  | true =>
   have Bp:=hq t
   repeat (any_goals (first | assumption | (with_reducible refine wpAny_loadPart_at hx ?_;rw [hc]) | with_reducible refine jC hI ?_ | (with_reducible refine wpAny_isSubtype_exc hC ?_;rw [hb]) | wp_step))
  | false =>
   have hq1:=hq (t+1)
   repeat (any_goals (first | assumption | (with_reducible refine wpAny_loadPart_at hx ?_;rw [hc]) | with_reducible refine jC hI ?_ | with_reducible refine jC Ob ?_ | (with_reducible refine wpAny_isSubtype_exc hC ?_;rw [hb]) | with_reducible apply tE S hx hc | wp_step))
theorem Cu {Q:Value→Shared→Prop} (S:dI h C C0 mN mN0) (hx:h.get? a=some o) (hc:o.cls=.ref C) (ht:jK h cv) (hb:(Value.ref C::.ref C0::ik).contains cv=b)
  (hq:∀ t',Q (.bool b) ⟨h,g,d,t',os⟩):wpAny (model prog w) A (call (.builtin "isinstance") [.ref a,cv]) Q E ⟨h,g,d,t,os⟩ :=
 call_isinstance_of (uh S hx hc ht hb fun t'=>hq t') fun e=>nomatch e
end
section
variable {g:G} {cx:cp} {fs:List Fn} {mg mb:Str→Option Value} {A:Around} {E:Value→Shared→Prop} {φ:List Addr} {σ:ag} {s:Shared} {env:Env} {nm:List (Str×Nat)} {ρ:aF} {call:ar} {d:Nat}
noncomputable def B3 (g:G) (d:Nat):Value:=if d=3 then .type "ValueError" else .ref (g.cls d)
theorem yQ {C:Addr}:ik.contains (.ref C)=false:=by
 simp [ik]
theorem B4 (G:eH g cx fs mg mb) {c d:Nat} (hc:c=1∨c=2) (hd:d=0∨d=1∨d=2∨d=3):(Value.ref (g.cls c)::.ref (g.cls 0)::ik).contains (B3 g d)=n3 c d:=by
 refine iY G.exc.ap fun a1 a2 a3=>?_
 rcases hd with rfl | rfl | rfl | rfl
 ·show List.contains _ (Value.ref (g.cls 0))=_
  rw [List.contains_cons,List.contains_cons,beq_self_eq_true];simp [n3]
 ·show List.contains _ (Value.ref (g.cls 1))=_
  rw [List.contains_cons,List.contains_cons,yQ]
  rcases hc with rfl | rfl
  ·simp [n3]
  ·simp [n3,a1,a2]
 ·show List.contains _ (Value.ref (g.cls 2))=_
  rw [List.contains_cons,List.contains_cons,yQ]
  rcases hc with rfl | rfl
  ·simp [n3,a1.symm,a3]
  ·simp [n3]
 ·show List.contains _ (Value.type "ValueError")=_
  rw [dN PySem.F.excBase_ValueError.hasB];simp [n3]
theorem kU {x:Str} {c:Nat} (h:fC.lookup x=some c):c=0∨c=1∨c=2∨c=3:=by
 rcases jF h with ⟨h,_⟩ | ⟨h,_⟩ | ⟨h,_⟩ | ⟨h,_⟩
 ·exact .inl h
 ·exact .inr (.inl h)
 ·exact .inr (.inr (.inl h))
 ·exact .inr (.inr (.inr h))
theorem u6 (G:eH g cx fs mg mb) (F:dA g φ env nm ρ s.heap) (R:ak g φ σ s.heap) {x:Str} {c:Nat} {p:Pos} (hg:aX env.scope x=true) (h:fC.lookup x=some c) {Q:Value→Shared→Prop} (hq:Q (B3 g c) s):wpAny (model g.prog g.w) A (eval (.Name x p) env) Q E s:=by
 refine aJ (bY hg) fun mq mu=>?_
 by_cases h3:c=3
 ·subst h3
  have hx:x=("ValueError" : Str):=by
   rcases jF h with ⟨q,_⟩ | ⟨q,_⟩ | ⟨q,_⟩ | ⟨_,q⟩
   ·cases q
   ·cases q
   ·cases q
   ·exact q
  subst hx
  exact dj G F R mq mu (by decide) (v:=.type "ValueError") (by decide +kernel) hq
 ·refine gp G F R mq mu (rg G h ?_) ?_
  ·rcases kU h with q | q | q | q
   ·exact .inr (.inr q)
   ·exact .inl q
   ·exact .inr (.inl q)
   ·exact absurd q h3
  ·unfold B3 at hq;rw [if_neg h3] at hq;exact hq
theorem y7 (G:eH g cx fs mg mb) (R:ak g φ σ s.heap) {c:Nat} (h:c=0∨c=1∨c=2∨c=3):jK s.heap (B3 g c):=by
 have own:∀ {C tl mN},fe g.B C tl mN→jK s.heap (.ref C):=fun X=>by
  refine kj X.obj fun N nm q bs sub k3=>?_;refine pM k3 fun k0 k1 k2 k3 k5 hC hn=>?_
  exact .inr ⟨_,_,_,_,_,_,_,_,_,_,_,_,rfl,R.base _ _ hC⟩
 rcases h with rfl | rfl | rfl | rfl
 ·refine fv G.exc.c0 fun m0 f a1 _=>?_;exact own a1
 ·refine au G.exc.c1 fun m0 a1 _=>?_;exact own a1
 ·refine au G.exc.c2 fun m0 a1 _=>?_;exact own a1
 ·exact .inl ⟨_,rfl,by kernel_rfl⟩
theorem MR.exnE {h:Heap} {c d:Nat} {a:Addr} (x:MR g φ h (.exn c d) a):∃ o vs D,h.get? a=some o∧o.cls=.ref (g.cls c)∧o.data=.fields vs∧o.dict=some D∧φ[d]? = some D:=by
 cases x with
 | exn h1 h2 h3 h4 h5=>exact ⟨_,_,_,h1,h2,h3,h4,h5⟩
theorem MR.wdE {h:Heap} {w:Str} {a:Addr} (x:MR g φ h (.wd w) a):∃ m t,h.Ns a m∧m ("word" : Str)=some (.str w t):=by
 cases x with
 | wd h1 h2=>exact ⟨_,_,h1,h2⟩
set_option tactic.hygienic true in
theorem IV {x:V} {r:Nat} {h:Heap} {b:Value} (hr:qT x=some r) (V:VR g φ h x b):∃ a,b=.ref a∧φ[r]? = some a:=by
 cases V <;> first | exact no hr | skip
 rename_i n a h1
 apply db hr
 exact ⟨a,rfl,h1⟩
theorem C6 {x:Expr} {tn:Str} {p' Gc pos:Pos} {c:Nat} {a:CE} (G:eH g cx fs mg mb) (gF:∀ e q,x≠.Starred e q) (hx:aE g A env nm x (ab call a)) (hg:aX env.scope ("isinstance" : Str)=true) (Bn:aX env.scope tn=true) (hc:fC.lookup tn=some c) :
  aE g A env nm (.Call (.Name ("isinstance" : Str) p') [x,.Name tn Gc] [] pos) (ab call (.isC c a)):=by
 intro ρ σ v af he φ s R F E
 refine bo he fun y σ₁ h1 he=>?_
 refine aK he fun v' h2 he=>?_
 apply dx he
 refine aK h2 fun r h3 h2=>?_
 refine aK h2 fun m h4 h2=>?_
 refine vU h2 fun c' D' h5 h2=>?_
 apply db h2
 refine aJ (qU h5) fun q1 D2=>?_;subst q1
 refine aJ (bY hg) fun mq mu=>?_
 have gV:starEach [x,.Name tn Gc] env=(false,eval x env)::starEach [.Name tn Gc] env:=nY gF
 refine Call_Name rfl (dj G F R mq mu (by decide) (v:=.builtin "isinstance") (by decide +kernel) (cc (.inl ⟨_,rfl⟩) (args_cons (hx.bind h1 R F fun b s₁ ah S T' al aP aV=>args_cons (u6 G aP al Bn hc (args_nil ?_))) gV) gV rfl))
 refine au (IV h3 aV) fun aa q2 zJ=>?_;subst q2
 refine MF ((al.objs _ _ _ zJ h4).exnE) fun o vs D e1 e2 e3 e4 e5=>?_
 refine jH (qA G D2) fun mN mN0 f S2 _=>?_
 have ct:=y7 (s:=s₁) G al (kU hc)
 have DF:=S2.keeps al.base
 obtain ⟨hp,gg,dd,tk,os⟩:=s₁
 exact Cu DF e1 e2 ct (B4 G D2 (kU hc)) fun t'=>bG.after S T' ⟨ah,cu.refl _ _ _,al,.bool _,rfl,rfl,rfl⟩
theorem sF {x:Str} {p pos:Pos} {a:CE} (G:eH g cx fs mg mb) (hx:aE g A env nm (.Name x p) (ab call a)):aE g A env nm (.Attribute (.Name x p) ("word" : Str) pos) (ab call (.word a)):=by
 intro ρ σ v af he φ s R F E
 refine bo he fun y σ₁ h1 he=>?_
 refine aK he fun v' h2 he=>?_
 apply dx he
 refine aK h2 fun r h3 h2=>?_
 refine aK h2 fun m h4 h2=>?_
 refine vU h2 fun c' d' h5 h2=>?_
 refine aK h2 fun m' h6 h2=>?_
 refine aK h2 fun w h7 h2=>?_
 apply db h2
 refine aJ (qU h5) fun q1 D2=>?_;subst q1
 obtain rfl:=yK h7
 refine Attribute_name (hx.bind h1 R F fun b s₁ ah S T' al aP aV=>?_)
 refine au (IV h3 aV) fun aa q2 zJ=>?_;subst q2
 refine MF ((al.objs _ _ _ zJ h4).exnE) fun o vs D e1 e2 e3 e4 e5=>?_
 refine fv ((al.objs _ _ _ e5 h6).wdE) fun mm t w1 w2=>?_
 refine jH (qA G D2) fun mN mN0 f S2 _=>?_
 have DF:=S2.keeps al.base
 obtain ⟨hp,gg,dd,tk,os⟩:=s₁
 exact xZ DF e1 e2 e3 e4 w1 w2 rfl (bG.after S T' ⟨ah,cu.refl _ _ _,al,.str _ _,rfl,rfl,rfl⟩)
end
noncomputable abbrev Gd {α:Type} (P:α→Prop) (o:Option α):Prop:=∀ c,o=some c→P c
theorem aj {α β:Type} {m:Option α} {k:α→Option β} {P:β→Prop} (h:∀ a,m=some a→Gd P (k a)):Gd P (m.bind k):=fun c e=>by
 refine aK e fun a h1 h2=>?_
 exact h a h1 c h2
theorem aD {α:Type} {P:α→Prop} {a:α} (h:P a):Gd P (some a):=fun c e=>sm e ▸ h
theorem du {α:Type} {P:α→Prop}:Gd P none:=fun c e=>no e
theorem cI {α:Type} {P:α→Prop} {x:Option α} {b:Prop} [Decidable b] (h:b→Gd P x):Gd P (if b then x else none):=fun c e=>h (cJ e).1 c (cJ e).2
theorem ni {α:Type} {P:α→Prop} {x:Option α} {b:Prop} [Decidable b] (h:¬ b→Gd P x):Gd P (if b then none else x):=fun c e=>h (t7 e).1 c (t7 e).2
theorem pY {α:Type} {P:α→Prop} {x y:Option α} {b:Prop} [Decidable b] (h:b→Gd P x) (h':¬ b→Gd P y):Gd P (if b then x else y):=fun c e=>by
 by_cases hb:b
 ·exact h hb c ((if_pos hb).symm.trans e)
 ·exact h' hb c ((if_neg hb).symm.trans e)
theorem Dt {call:ar} {k:Nat} {as:eG} {ρ:aF} {σ:ag}:b9 call (.call k as) ρ σ=a9 (aL call as ρ σ) fun vs σ₁=>a9 (call k vs σ₁) fun r ae=>rx ae r:=rfl
theorem Dw {call:ar} {m:fW} {o:CE} {as:eG} {ρ:aF} {σ:ag}:b9 call (.meth m o as) ρ σ=a9 (ab call o ρ σ) fun x σ₁=>if iO m x σ₁ then dn call as ρ σ₁ else none:=rfl
theorem Dv {call:ar} {as:eG} {ρ:aF} {σ:ag}:b9 call (.list as) ρ σ=dn call as ρ σ:=rfl
theorem Du {call:ar} {e:CE} {r:eG} {ρ:aF} {σ:ag}:dn call (.cons e r) ρ σ=IA (b9 call e ρ σ) (a9 (ab call e ρ σ) fun _ σ₁=>dn call r ρ σ₁):=rfl
structure BB (g:G) (φ:List Addr) (s:Shared) (c:Nat) (w:Str) (af:ag) (ea:Addr) (aI:List Addr) (s':Shared):Prop where
 hc:c=1∨c=2
 S:SE φ s.heap aI s'.heap
 T:bx s s'
 X:kt g aI af s.heap s'.heap True P0 ea c w
noncomputable def gG (g:G) (A:Around) (env:Env) (nm:List (Str×Nat)) (e:Expr) (x:aF→ag→XR):Prop :=
 ∀ ρ σ c w af,x ρ σ=some (c,w,af)→∀ φ s,ak g φ σ s.heap→dA g φ env nm ρ s.heap→∀ (Q:Value→Shared→Prop) E,(∀ ea aI s',BB g φ s c w af ea aI s'→E (.ref ea) s')→wpAny (model g.prog g.w) A (eval e env) Q E s
noncomputable def mD (g:G) (A:Around) (fs:List Fn) (call:ar):Prop :=
 ∀ k as σ c w af,call k as σ=some (.exc c w,af)→∀ fn,fs[k]? = some fn→∀ φ s cF,ak g φ σ s.heap→oa g φ s.heap→bq g φ s.heap as cF→∀ (Q:Value→Shared→Prop) E,(∀ ea aI s',BB g φ s c w af ea aI s'→E (.ref ea) s')→wpAny (model g.prog g.w) A (PySem.call (.ref fn.addr) cF) Q E s
section
variable {g:G} {cx:cp} {fs:List Fn} {mg mb:Str→Option Value} {A:Around} {E:Value→Shared→Prop} {φ ah aI:List Addr} {σ σ₁ af:ag} {s s₁ s':Shared} {env:Env} {nm:List (Str×Nat)} {ρ:aF} {call:ar} {d:Nat} {c:Nat} {w:Str} {ea:Addr}
theorem Fb {h:Heap} (F:oa g φ h):I5 g h:=fun f hf L hl=>by
 obtain ⟨_,L',o,es,ep,k2,k3,_⟩:=F f hf
 rw [hl] at k2;cases k2
 rw [k3];exact fun q=>nomatch q
theorem kt.before {ms:Addr→Prop} {h bg h':Heap} {U:Prop} {P:Value→Prop} (S:cu ms φ h ah bg) (R:ak g φ σ h) (F:oa g φ h) (Y:kt g aI af bg h' U P ea c w):kt g aI af h h' U P ea c w:=by
 have bk:∀ {b},bg.get? b=none→h.get? b=none:=fun {b} e=>by
  cases q:h.get? b with
  | none=>rfl
  | some o=>refine Exists.elim (S.dom b o q) fun o' e'=>?_;rw [e] at e';cases e'
 refine ⟨Y.R,Y.FS,Fb F,fun b o e=>?_,R.base,?_⟩
 ·refine Exists.elim (S.dom b o e) fun o' e'=>?_
  exact Y.dom b o' e'
 ·obtain ⟨⟨vs,D,m,t,sl,he,cZ,hD,hm,D0,qR,ht⟩,e0,eφ,eB⟩:=Y.X
  refine ⟨⟨vs,D,m,t,sl,he,cZ,hD,hm,bk D0,qR,?_⟩,bk e0,eφ,eB⟩
  rcases ht with h1 | ⟨T,oT,ts,f,h1,h2,h3,h4,h5,h6,h7,h8,h9⟩
  ·exact .inl h1
  ·exact .inr ⟨T,oT,ts,f,h1,h2,h3,h4,h5,h6,h7,bk h8,h9⟩
theorem BB.after (S:SE φ s.heap ah s₁.heap) (T:bx s s₁) (R:ak g φ σ s.heap) (F:oa g φ s.heap) (x:BB g ah s₁ c w af ea aI s'):BB g φ s c w af ea aI s' :=
 ⟨x.hc,S.trans x.S,T.trans x.T,x.X.before S R F⟩
theorem xy {k:Nat} (G:eH g cx fs mg mb) (hC:mD g A fs call) {F':Expr→Option CE} (hs:∀ e p,F' (.Starred e p)=none) (ih:∀ e c,F' e=some c→aE g A env nm e (ab call c)) {f:Str} {p pos:Pos} {as:List Expr} {cs:eG}
  (hg:aX env.scope f=true) (hk:dZ cx f=some k) (eM:as.isEmpty=false) (h:bV F' as=some cs):gG g A env nm (.Call (.Name f p) as [] pos) (b9 call (.call k cs)):=by
 intro ρ σ c w af he φ s R F Q E hE
 rw [Dt] at he
 refine bo he fun vs σ₁ h1 he=>?_
 refine bo he fun r ae h2 he=>?_
 refine aJ (o3 he) fun q1 q2=>?_;subst q1 q2
 refine au (zn G hk) fun fn jT q3=>?_;subst q3
 obtain ⟨hm,o,pm,cd,doc,ho,hd,kL⟩:=G.made fn (List.mem_of_getElem? jT)
 refine aJ (bY hg) fun mq mu=>?_
 cases as with
 | nil=>cases eM
 | cons e az =>
  refine aK (k:=fun c=>(bV F' az).bind fun cs=>some (eG.cons c cs)) h fun c hc _=>?_
  refine Call_Name rfl (gp G F R mq mu hm (callWith_def (o:=o) hd (wpAny_mono (fH hs ih pos h h1 R F E) (fun cF s₁ ⟨ah,S,al,aV,T⟩=>⟨al.base _ _ ho,?_⟩) fun _ _ x=>x) (cC hs hc az)))
  exact hC k vs σ₁ _ _ _ h2 fn jT ah s₁ cF al (F.step R S).stk aV _ E fun ea aI s' X=>hE ea aI s' (X.after S T R F.stk)
theorem lc {f:Expr→Option CE} (hs:∀ e p,f (.Starred e p)=none) (ih:∀ e c,f e=some c→aE g A env nm e (ab call c)) (te:∀ e c,f e=some c→gG g A env nm e (b9 call c)) (pos:Pos):∀ {es:List Expr} {cs:eG},bV f es=some cs →
  ∀ ⦃ρ σ c w af⦄,dn call cs ρ σ=some (c,w,af)→∀ ⦃φ s⦄,ak g φ σ s.heap→dA g φ env nm ρ s.heap→∀ (Q:List Value→Shared→Prop) E,(∀ ea aI s',BB g φ s c w af ea aI s'→E (.ref ea) s')→wpAny (model g.prog g.w) A (spliced (backTo pos (starEach es env))) Q E s
 | [],cs,h=>by
  intro ρ σ c w af he φ s R F Q E hE
  obtain rfl:=sm h
  exact no he
 | e::r,cs,h=>by
  refine aK h fun c h1 h=>?_
  refine aK h fun Gw h2 h=>?_
  apply db h
  intro ρ σ c w af he φ s R F Q E hE
  rw [Du] at he
  refine Or.elim (nO he) (fun he=>?_) (fun q=>aJ q fun _ he=>?_)
  ·exact args_cons (te e _ h1 ρ σ c w af he φ s R F _ E hE) (cC hs h1 r)
  ·refine bo he fun x σ₁ hx he=>?_
   exact args_cons ((ih e _ h1).bind hx R F fun a s₁ ah S T al aP aV=>lc hs ih te pos h2 he al aP _ E fun ea aI s' X=>hE ea aI s' (X.after S T R F.stk)) (cC hs h1 r)
theorem xD {f:Expr→Option CE} (hs:∀ e p,f (.Starred e p)=none) (ih:∀ e c,f e=some c→aE g A env nm e (ab call c)) (te:∀ e c,f e=some c→gG g A env nm e (b9 call c)) {pos:Pos} {es:List Expr} {cs:eG} (h:bV f es=some cs):gG g A env nm (.List es pos) (b9 call (.list cs)):=by
 intro ρ σ c w af he φ s R F Q E hE
 rw [Dv] at he
 exact wpAny_List_spliced (lc hs ih te pos h he R F _ E hE)
theorem xE (G:eH g cx fs mg mb) {F':Expr→Option CE} (hs:∀ e p,F' (.Starred e p)=none) (ih:∀ e c,F' e=some c→aE g A env nm e (ab call c)) (te:∀ e c,F' e=some c→gG g A env nm e (b9 call c)) {o:Expr} {m:Str} {ap pos:Pos} {p:fW} {as:List Expr} {a:CE} {cs:eG}
  (ho:aE g A env nm o (ab call a)) (FG:un o=true) (nk:(ap.endLine==pos.line)=true) (hp:u3 m as.length=some p) (h:bV F' as=some cs):gG g A env nm (.Call (.Attribute o m ap) as [] pos) (b9 call (.meth p a cs)):=by
 intro ρ σ c w af he φ s R F Q E hE
 rw [Dw] at he
 refine bo he fun x σ₁ h1 he=>?_
 refine dv he fun hr he=>?_
 refine iY (q9 hp) fun qN vq q3=>?_;apply aO q3
 cases as with
 | nil=>cases qN
 | cons e az =>
  refine aK (k:=fun c=>(bV F' az).bind fun cs=>some (eG.cons c cs)) h fun c' dG h'=>?_
  refine aK h' fun Gw Lp _=>?_
  refine wpAny_Call_method_lateS ?_ ?_ nk (ho.bind h1 R F fun av s₁ ah S T al aP aV=>?_)
  ·cases o with
   | Name x p=>rfl
   | Constant k n p=>rfl
   | Subscript x y p=>rfl
   | _=>cases FG
  ·rw [sK hs pos h]
   have:(e::az).length+0+0<30:=by have:=vq;exact l1 0x1c001e9a08a08010b280 rfl vq
   exact decide_eq_true (p:=(e::az).length+0+0<30) this
  ·refine aJ (si (s:=s₁) hr al aV) fun hT hd=>?_
   exact ⟨nI p,nG p,nJ p,pb p,pc p,hT,hd,callWith_method1 (lc hs ih te pos h he al aP _ E fun ea aI s' X=>hE ea aI s' (X.after S T R F.stk)) (cC hs dG az) (iQ hs pos Lp)⟩
end
theorem gI (cx:cp) (n:Nat) (sc:Scope) (nm:List (Str×Nat)) (nx:Nat) (e:Expr) (p:Pos):bI cx n sc nm nx (.Starred e p)=none:=by
 cases n <;> rfl
theorem yS {cx:cp} {n:Nat} {sc:Scope} {nm:List (Str×Nat)} {nx:Nat} {x:Expr} {c:CE} (h:bI cx n sc nm nx x=some c):∀ e q,x≠.Starred e q:=by
 rintro e q rfl
 exact no ((gI cx n sc nm nx e q).symm.trans h)
theorem tA {cx:cp} {n:Nat} {sc:Scope} {nm:List (Str×Nat)} {nx:Nat} {x:Expr} {c:CE} (h:bI cx n sc nm nx x=some c):∀ l u st p,x≠.Slice l u st p:=by
 rintro l u st p rfl
 cases n <;> exact no h
section
variable {g:G} {cx:cp} {fs:List Fn} {mg mb:Str→Option Value} {A:Around} {call:ar} {d:Nat}
theorem kK {n:Nat} {cx:cp} {sc:Scope} {nm:List (Str×Nat)} {nx:Nat} {e:Expr} {it:gd} {env:Env} (h:q7 cx n sc nm nx e=some it):∀ x,foldedSetIterable e env x=pure x:=by
 intro x
 cases e with
 | Set a b c =>
  refine au (ob (m:=bI cx n sc nm nx (.Set a b c)) (k:=fun c=>some (gd.ex c)) h) fun c' h _=>?_
  cases n <;> exact no h
 | _=>rfl
theorem qC {it:gd} {t:ge} {e:Expr} {sc:Scope} {nm:List (Str×Nat)} (h:jW it t=true) (hc:eI sc nm e=some t):qB (lF it) e:=by
 unfold eI at hc
 cases hn:bN e with
 | some x =>
  rw [hn] at hc
  refine Exists.elim (bd hn) fun p ht=>?_
  refine au (ob hc) fun i _ hc=>?_
  refine .inr ⟨?_,x,p,ht⟩
  rw [←sm hc,jW] at h
  cases hq:lF it with
  | false=>rfl
  | true =>
   rw [hq] at h
   exact absurd h Bool.false_ne_true
 | none =>
  rw [hn] at hc
  refine au (ob hc) fun l hl _=>?_
  refine oZ (mG hl) fun k p ht=>?_
  exact .inl ⟨_,_,_,ht⟩
theorem g8 {env:Env} {nm:List (Str×Nat)} {e:Expr} {c:CE} (h:aE g A env nm e (ab call c)) (he:isTrue e env (eval e env)=(do let v ←eval e env;standAt e.pos;holding [v] (truthy v))) :
  aE g A env nm e (ab call c)∧dU g A env nm e (bu call c):=⟨h,xF h he⟩
noncomputable def Nz (g:G) (A:Around) (call:ar) (F:Scope→List (Str×Nat)→Nat→Expr→Option CE):Prop:=∀ (env:Env) nm nx e c,F env.scope nm nx e=some c→aE g A env nm e (ab call c)∧dU g A env nm e (bu call c)
theorem AD {env:Env} {nm:List (Str×Nat)} {f:Expr→Option CE} (hA:gS A d) (cG:∀ e c,f e=some c→aE g A env nm e (ab call c)) {l:Expr} {ops:List CmpOp} {rs:List Expr} {p:Pos} {c:CE} (h:Hj f l ops rs=some c) :
  aE g A env nm (.Compare l ops rs p) (ab call c)∧dU g A env nm (.Compare l ops rs p) (bu call c):=by
 refine au (ob h) fun op h1 h=>?_
 refine au (ob h) fun r h2 h=>?_
 refine aJ (t7 h) fun hm h=>?_
 refine au (ob h) fun a ha h=>?_
 refine au (ob h) fun b hb h=>?_
 obtain rfl:=sm h
 obtain rfl:=b7 h1
 obtain rfl:=b7 h2
 exact C3 hA (Bool.eq_false_iff.mpr hm) (cG _ _ ha) (cG _ _ hb)
theorem AP {env:Env} {nm:List (Str×Nat)} {f:Expr→Option CE} (cG:∀ e c,f e=some c→aE g A env nm e (ab call c)) (gF:∀ e c,f e=some c→∀ l u st p,e≠.Slice l u st p) {v i:Expr} {p:Pos} {c:CE} (h:Hm f v i=some c) :
  aE g A env nm (.Subscript v i p) (ab call c):=by
 refine au (ob h) fun a ha h=>?_
 by_cases hs:∃ lo hi st p,i=.Slice lo hi st p
 ·refine Ja hs fun lo hi st q k1=>?_;subst k1
  refine aJ (cJ h) fun gV h=>?_
  refine au (ob h) fun x hx h=>?_
  refine au (ob h) fun y hy h=>?_
  obtain rfl:=sm h
  cases st with
  | none=>exact Dc cG (cG _ _ ha) hx hy
  | some _=>exact nomatch gV
 ·have h':((f i).bind fun x=>some (CE.idx a x))=some c:=by
   cases i with
   | Slice lo hi st p=>exact absurd ⟨lo,hi,st,p,rfl⟩ hs
   | _=>exact h
  refine au (ob h') fun x hx h=>?_
  obtain rfl:=sm h
  exact v1 (gF _ _ hx) (cG _ _ ha) (cG _ _ hx)
theorem gr {f:Expr→Option CE} (hs:∀ e p,f (.Starred e p)=none) {x:Expr} {a:CE} (hx:f x=some a):∀ e q,x≠.Starred e q:=fun e q eq=>by
 rw [eq,hs] at hx;exact no hx
theorem AI {env:Env} {nm:List (Str×Nat)} {f:Expr→Option CE} (hA:gS A d) (G:eH g cx fs mg mb) (hs:∀ e p,f (.Starred e p)=none) (cG:∀ e c,f e=some c→aE g A env nm e (ab call c)) {as:List Expr} {p pos:Pos} {c:CE} (hg:aX env.scope ("isinstance" : Str)=true)
  (h:DO f env.scope as=some c):aE g A env nm (.Call (.Name ("isinstance" : Str) p) as [] pos) (ab call c):=by
 refine au (ob h) fun k2 hl h=>?_;obtain ⟨x,t⟩:=k2
 refine au (ob h) fun tn ht h=>?_
 refine aJ (cJ h) fun KU h=>?_
 refine au (ob h) fun q hq h=>?_
 refine au (ob h) fun a ha h=>?_
 obtain rfl:=sm h
 obtain rfl:=iS hl
 refine Exists.elim (bd ht) fun p' k3=>?_;subst k3
 exact C7 hA G (gr hs ha) (cG _ _ ha) hg KU hq
theorem sw {env:Env} {nm:List (Str×Nat)} {f:Expr→Option CE} (G:eH g cx fs mg mb) (hs:∀ e p,f (.Starred e p)=none) (cG:∀ e c,f e=some c→aE g A env nm e (ab call c)) {as:List Expr} {p pos:Pos} {c:CE} (hg:aX env.scope ("isinstance" : Str)=true)
  (h:EU f env.scope as=some c):aE g A env nm (.Call (.Name ("isinstance" : Str) p) as [] pos) (ab call c):=by
 refine au (ob h) fun k4 hl h=>?_;obtain ⟨x,t⟩:=k4
 refine au (ob h) fun tn ht h=>?_
 refine aJ (cJ h) fun KU h=>?_
 refine au (ob h) fun q hq h=>?_
 refine au (ob h) fun a ha h=>?_
 obtain rfl:=sm h
 obtain rfl:=iS hl
 refine Exists.elim (bd ht) fun p' k5=>?_;subst k5
 exact C6 G (gr hs ha) (cG _ _ ha) hg KU hq
theorem xx {env:Env} {nm:List (Str×Nat)} {f:Expr→Option CE} (hA:gS A d) (G:eH g cx fs mg mb) (hC:pA g A fs call) (hs:∀ e p,f (.Starred e p)=none) (cG:∀ e c,f e=some c→aE g A env nm e (ab call c)) {gn:Str} {as:List Expr} {p pos:Pos} {c:CE} (hg:aX env.scope gn=true)
  (h:mI f cx env.scope gn as=some c):aE g A env nm (.Call (.Name gn p) as [] pos) (ab call c):=by
 unfold mI at h
 cases hk:dZ cx gn with
 | some k =>
  rw [hk] at h
  refine aJ (t7 h) fun eM h=>?_
  refine au (ob h) fun cs gb h=>?_
  obtain rfl:=sm h
  exact sv G (hC k) hs cG hg hk (Bool.eq_false_iff.mpr eM) gb
 | none =>
  rw [hk] at h
  by_cases hi:(gn==("isinstance" : Str))=true
  ·replace h:=(if_pos hi).symm.trans h
   obtain rfl:=beq_iff_eq.mp hi
   by_cases Cg:(DR as).isSome=true
   ·exact sw G hs cG hg ((if_pos Cg).symm.trans h)
   ·exact AI hA G hs cG hg ((if_neg Cg).symm.trans h)
  ·replace h:=(if_neg hi).symm.trans h
   refine au (ob h) fun q hq h=>?_
   refine au (ob h) fun cs gb h=>?_
   obtain rfl:=sm h
   exact AK hA G hs cG hg hq gb
theorem xw {env:Env} {nm:List (Str×Nat)} {f:Expr→Option CE} (hA:gS A d) (G:eH g cx fs mg mb) (hC:pA g A fs call) (hs:∀ e p,f (.Starred e p)=none) (cG:∀ e c,f e=some c→aE g A env nm e (ab call c)) {fn:Expr} {as:List Expr} {ks:List Keyword} {pos:Pos} {c:CE}
  {sk:List Expr→Keyword→Option CE} (Lu:∀ as k c p,aX env.scope ("sorted" : Str)=true→sk as k=some c→aE g A env nm (.Call (.Name ("sorted" : Str) p) as [k] pos) (ab call c))
  (h:yR f sk cx env.scope fn as ks pos=some c):aE g A env nm (.Call fn as ks pos) (ab call c):=by
 cases fn with
 | Name vm p =>
  cases ks with
  | nil=>exact xx hA G hC hs cG (cJ h).1 (cJ h).2
  | cons k ks =>
   have hk:=cJ (cJ h).2
   obtain rfl:=List.isEmpty_iff.mp hk.1
   by_cases hso:(vm==("sorted" : Str))=true
   ·have h2:=(if_pos hso).symm.trans hk.2
    obtain rfl:=beq_iff_eq.mp hso
    exact Lu as k c p (cJ h).1 h2
   ·have h2:=(if_neg hso).symm.trans hk.2
    exact no h2
 | Attribute o m ap =>
  refine aJ (cJ h) fun hc h=>?_
  refine au (ob h) fun q hq h=>?_
  refine au (ob h) fun a ha h=>?_
  refine au (ob h) fun cs gb h=>?_
  obtain rfl:=sm h
  simp only [Bool.and_eq_true] at hc
  refine aJ hc fun k8 nk=>?_;refine aJ k8 fun hk FG=>?_
  obtain rfl:=List.isEmpty_iff.mp hk
  exact AJ G hs cG (cG _ _ ha) FG nk hq gb
 | _=>exact no h
theorem ut {env:Env} {nm:List (Str×Nat)} {f:Expr→Option CE} (hA:gS A d) (G:eH g cx fs mg mb) (hs:∀ e p,f (.Starred e p)=none) (cG:∀ e c,f e=some c→aE g A env nm e (ab call c)) {as:List Expr} {p q:Pos} {it:gd} (hg:aX env.scope ("range" : Str)=true) (h:yW f as=some it):kq g A env nm (.Call (.Name ("range" : Str) p) as [] q) (lF it) (cm call it):=by
 match as,h with
 | [],h=>exact no h
 | [a],h =>
  refine au (ob h) fun x hx h=>?_
  obtain rfl:=sm h
  exact AM hA G hg (gr hs hx) (cG _ _ hx)
 | [a,b],h =>
  refine au (ob h) fun x hx h=>?_
  refine au (ob h) fun y hy h=>?_
  obtain rfl:=sm h
  exact AN hA G hg (gr hs hx) (gr hs hy) (cG _ _ hx) (cG _ _ hy)
 | a::b::c::r,h =>
  refine au (ob h) fun x hx h=>?_
  refine au (ob h) fun y hy h=>?_
  exact no h
theorem AO {env:Env} {nm:List (Str×Nat)} {f:Expr→Option CE} (hA:gS A d) (G:eH g cx fs mg mb) (hs:∀ e p,f (.Starred e p)=none) (cG:∀ e c,f e=some c→aE g A env nm e (ab call c)) {gn:Str} {as:List Expr} {p q:Pos} {it:gd} (hg:aX env.scope gn=true)
  (h:wA f gn as (.Call (.Name gn p) as [] q)=some it):kq g A env nm (.Call (.Name gn p) as [] q) (lF it) (cm call it):=by
 unfold wA at h
 by_cases h1:(gn==("range" : Str))=true
 ·replace h:=(if_pos h1).symm.trans h
  obtain rfl:=beq_iff_eq.mp h1
  exact ut hA G hs cG hg h
 ·replace h:=(if_neg h1).symm.trans h
  ·
   by_cases h3:(gn==("enumerate" : Str))=true
   ·replace h:=(if_pos h3).symm.trans h
    refine au (ob h) fun a hl h=>?_
    refine au (ob h) fun x hx h=>?_
    obtain rfl:=sm h
    obtain rfl:=b7 hl
    obtain rfl:=beq_iff_eq.mp h3
    exact C4 hA G hg (gr hs hx) (cG _ _ hx)
   ·replace h:=(if_neg h3).symm.trans h
    refine au (ob h) fun c hc h=>?_
    obtain rfl:=sm h
    exact AG hA (cG _ _ hc)
theorem v3 {env:Env} {nm:List (Str×Nat)} {f:Expr→Option CE} (hA:gS A d) (G:eH g cx fs mg mb) (hs:∀ e p,f (.Starred e p)=none) (cG:∀ e c,f e=some c→aE g A env nm e (ab call c)) {e:Expr} {it:gd} (h:wz f cx env.scope e=some it):kq g A env nm e (lF it) (cm call it):=by
 have ex:qZ f e=some it→kq g A env nm e (lF it) (cm call it):=fun h=>by
  refine au (ob h) fun c hc h=>?_
  obtain rfl:=sm h
  exact AG hA (cG _ _ hc)
 unfold wz at h
 cases hp:gi e with
 | none=>rw [hp] at h;exact ex h
 | some p =>
  rw [hp] at h
  obtain ⟨gn,as⟩:=p
  by_cases hg:(aX env.scope gn&&(dZ cx gn).isNone)=true
  ·replace h:=(if_pos hg).symm.trans h
   have Bn:aX env.scope gn=true:=(Bool.and_eq_true_iff.mp hg).1
   refine oZ (jg hp) fun p q Cv=>?_;subst Cv
   exact AO hA G hs cG Bn h
  ·exact ex ((if_neg hg).symm.trans h)
theorem q8 {F:Scope→List (Str×Nat)→Nat→Expr→Option CE} {fI:Expr→Option gd} {sc:Scope} {nm:List (Str×Nat)} {nx:Nat} {elt:Expr} {oq:List Comprehension} {scope:Scope} {a:CE} (h:My F fI sc nm nx elt oq scope=some a) :
  ∃ aA cR gc it t cs c,oq=[⟨aA,cR,gc,0⟩]∧pL scope sc nm nx (aH aA)=true∧fI cR=some it∧eI (gt scope sc) (bO scope nm nx (aH aA)) aA=some t ∧
   bV (F (gt scope sc) (bO scope nm nx (aH aA)) (nx+2)) gc=some cs∧F (gt scope sc) (bO scope nm nx (aH aA)) (nx+2) elt=some c∧jW it t=true∧a=.comp c t it cs:=by
 refine au (ob h) fun Cw h1 h=>?_;obtain ⟨aA,cR,gc,as⟩:=Cw
 refine aJ (cJ h) fun hok h=>?_
 refine aJ (Bool.and_eq_true_iff.mp hok) fun ha hok=>?_
 refine au (ob h) fun it hit h=>?_
 refine au (ob h) fun t ht h=>?_
 refine au (ob h) fun cs gb h=>?_
 refine au (ob h) fun c hc h=>?_
 refine aJ (cJ h) fun Ea h=>?_
 have dG:=(sm h).symm
 obtain rfl:=b7 h1
 obtain rfl:as=0:=beq_iff_eq.mp ha
 exact ⟨aA,cR,gc,it,t,cs,c,rfl,hok,hit,ht,gb,hc,Ea,dG⟩
theorem kc (hA:gS A d) (G:eH g cx fs mg mb) (hC:pA g A fs call):∀ n,Nz g A call (bI cx n):=by
 intro n
 induction n with
 | zero=>exact fun env nm nx e c h=>no h
 | succ n ih =>
  intro env nm nx e
  have hs:∀ e p,bI cx n env.scope nm nx (.Starred e p)=none:=fun e p=>gI ..
  have cG:∀ e c,bI cx n env.scope nm nx e=some c→aE g A env nm e (ab call c):=fun e c h=>(ih env nm nx e c h).1
  have Br:∀ e c,bI cx n env.scope nm nx e=some c→dU g A env nm e (bu call c):=fun e c h=>(ih env nm nx e c h).2
  show Gd (fun c=>aE g A env nm e (ab call c)∧dU g A env nm e (bu call c)) (tz (bI cx n) (fun i=>wz (bI cx n env.scope nm nx) cx env.scope i) cx env.scope nm nx e)
  cases e with
  | Constant k _ _=>exact aj fun v hv=>aD (g8 (li hv) rfl)
  | Name x p=>exact fun c h=>g8 (nV G h) rfl
  | BinOp l op r p=>exact aj fun a ha=>aj fun b hb=>aD (g8 (CZ (cG _ _ ha) (cG _ _ hb)) rfl)
  | UnaryOp op x p =>
   refine aj fun a ha=>?_
   cases op with
   | Not=>exact aD (v5 (cG _ _ ha) (Br _ _ ha))
   | USub=>exact aD (g8 (v4 (cG _ _ ha)) rfl)
   | _=>exact du
  | BoolOp op vs p=>exact fun c h=>⟨lg cG _ _ _ _ h,fun ρ σ b af he φ s R F E=>lh Br _ _ _ _ _ h ρ σ b af he φ s R F E⟩
  | IfExp t a b p=>exact aj fun x hx=>aj fun y hy=>aj fun z hz=>aD (C8 (Br _ _ hx) (cG _ _ hy) (Br _ _ hy) (cG _ _ hz) (Br _ _ hz))
  | Compare l ops rs p=>exact fun c h=>AD hA cG h
  | List es p=>exact aj fun cs gb=>aD (g8 (sD hs cG gb) rfl)
  | Tuple es k p=>exact aj fun cs gb=>aD (g8 (pr hs cG gb) rfl)
  | Dict ks vs p =>
   refine cI fun hk=>aD ?_
   refine aJ (Bool.and_eq_true_iff.mp hk) fun h1 h2=>?_
   obtain rfl:=List.isEmpty_iff.mp h1
   obtain rfl:=List.isEmpty_iff.mp h2
   exact g8 xB rfl
  | Subscript v i p=>exact fun c h=>g8 (AP cG (fun e c h=>tA h) h) rfl
  | Call fn as ks p=>exact fun c h=>g8 (xw hA G hC hs cG (fun as k c q hg hk=>xI hA G hs cG hg hk) h) rfl
  | Attribute o a p =>
   refine cI fun hw=>aj fun c' dG=>aD ?_
   simp only [Bool.and_eq_true,beq_iff_eq] at hw
   refine aJ hw fun Cx hn=>?_;subst Cx
   refine Exists.elim (Option.isSome_iff_exists.mp hn) fun x hx=>?_
   refine Exists.elim (bd hx) fun q Il=>?_;subst Il
   exact g8 (sF G (cG _ _ dG)) rfl
  | ListComp elt oq scope pos =>
   intro c h
   refine kj (q8 h) fun aA cR gc it t L0=>?_;refine J9 L0 fun cs c' Im hok hit ht gb dG Pu=>?_;refine aJ Pu fun Ea t8=>?_;subst Im;subst t8
   refine g8 (AE hA (oU hok) (kK hit) (qC Ea ht) (v3 hA G hs cG hit) ht (fun e' wO=>?_) gb fun e' wO e c h=>?_) rfl
   ·rw [←wO] at dG;exact (ih _ _ _ _ _ dG).1
   ·rw [←wO] at h;exact (ih _ _ _ _ _ h).2
  | _=>exact du
theorem sB (hA:gS A d) (G:eH g cx fs mg mb) (hC:pA g A fs call) (n:Nat) (env:Env) (nm:List (Str×Nat)) (nx:Nat) (e:Expr) (it:gd) (h:q7 cx n env.scope nm nx e=some it):kq g A env nm e (lF it) (cm call it) :=
 v3 hA G (fun e p=>gI ..) (fun e c h=>(kc hA G hC n env nm nx e c h).1) h
theorem bT {env:Env} {nm:List (Str×Nat)} {e:Expr} {c:CE} (h:∀ ρ σ,b9 call c ρ σ=none):gG g A env nm e (b9 call c):=fun ρ σ c w af he=>no ((h ρ σ).symm.trans he)
theorem ur {env:Env} {nm:List (Str×Nat)} {f:Expr→Option CE} (G:eH g cx fs mg mb) (hC:mD g A fs call) (hs:∀ e p,f (.Starred e p)=none) (cG:∀ e c,f e=some c→aE g A env nm e (ab call c)) (te:∀ e c,f e=some c→gG g A env nm e (b9 call c)) {fn:Expr} {as:List Expr} {ks:List Keyword} {pos:Pos}
  {sk:List Expr→Keyword→Option CE} (Lu:∀ as k c,sk as k=some c→∃ a b d,c=.sortK a b d):Gd (fun c=>gG g A env nm (.Call fn as ks pos) (b9 call c)) (yR f sk cx env.scope fn as ks pos):=by
 cases fn with
 | Name vm p =>
  cases ks with
  | nil =>
   refine cI fun hg=>?_
   show Gd _ (mI f cx env.scope vm as)
   unfold mI
   cases hk:dZ cx vm with
   | some k=>exact ni fun eM=>aj fun cs gb=>aD (xy G hC hs cG hg hk (Bool.eq_false_iff.mpr eM) gb)
   | none=>exact pY (fun _=>pY (fun _=>aj fun _ _=>aj fun _ _=>cI fun _=>aj fun _ _=>aj fun _ _=>aD (bT fun _ _=>rfl)) fun _=>aj fun _ _=>aj fun _ _=>cI fun _=>aj fun _ _=>aj fun _ _=>aD (bT fun _ _=>rfl)) fun _=>aj fun _ _=>aj fun _ _=>aD (bT fun _ _=>rfl)
  | cons k ks =>
   refine cI fun hg=>cI fun hk=>pY (fun _ c h=>?_) fun _=>?_
   ·refine B6 (Lu _ _ _ h) fun _ _ _ L6=>?_;subst L6
    exact bT fun _ _=>rfl
   ·exact du
 | Attribute o m ap =>
  refine cI fun hc=>aj fun q hq=>aj fun a ha=>aj fun cs gb=>aD ?_
  simp only [Bool.and_eq_true] at hc
  refine aJ hc fun PC nk=>?_;refine aJ PC fun hk FG=>?_
  obtain rfl:=List.isEmpty_iff.mp hk
  exact xE G hs cG te (cG _ _ ha) FG nk hq gb
 | _=>exact du
theorem yX {fI:Expr→Option gd} {sc:Scope} {nm:List (Str×Nat)} {nx:Nat} {as:List Expr} {k:Keyword} {c:CE} (h:I8 fI cx sc nm nx as k=some c):∃ a b d,c=.sortK a b d:=by
 refine au (ob h) fun _ _ h=>?_
 refine au (ob h) fun _ _ h=>?_
 refine au (ob (cJ h).2) fun _ _ h=>?_
 refine au (ob (cJ h).2) fun _ _ h=>?_
 exact ⟨_,_,_,(sm h).symm⟩
theorem nT (hA:gS A d) (G:eH g cx fs mg mb) (hC:pA g A fs call) (hX:mD g A fs call):∀ n (env:Env) nm nx e c,bI cx n env.scope nm nx e=some c→gG g A env nm e (b9 call c):=by
 intro n
 induction n with
 | zero=>exact fun env nm nx e c h=>no h
 | succ n ih =>
  intro env nm nx e
  have hs:∀ e p,bI cx n env.scope nm nx (.Starred e p)=none:=fun e p=>gI ..
  have cG:∀ e c,bI cx n env.scope nm nx e=some c→aE g A env nm e (ab call c):=fun e c h=>(kc hA G hC n env nm nx e c h).1
  show Gd (fun c=>gG g A env nm e (b9 call c)) (tz (bI cx n) (fun i=>wz (bI cx n env.scope nm nx) cx env.scope i) cx env.scope nm nx e)
  cases e with
  | Constant k _ _=>exact aj fun v hv=>aD (bT fun _ _=>rfl)
  | Name x p=>exact ni fun _=>aj fun k _=>pY (fun _=>aj fun i _=>aD (bT fun _ _=>rfl)) fun _=>cI fun _=>aj fun i _=>aD (bT fun _ _=>rfl)
  | BinOp l op r p=>exact aj fun a ha=>aj fun b hb=>aD (bT fun _ _=>rfl)
  | UnaryOp op x p =>
   refine aj fun a ha=>?_
   cases op with
   | Not=>exact aD (bT fun _ _=>rfl)
   | USub=>exact aD (bT fun _ _=>rfl)
   | _=>exact du
  | BoolOp op vs p =>
   cases vs with
   | nil=>exact du
   | cons e r =>
    cases r with
    | nil=>exact fun c h ρ σ c w af he φ s R F Q E hE=>BoolOp_one (ih _ _ _ _ _ h ρ σ c w af he φ s R F _ E hE)
    | cons e' r=>exact aj fun a ha=>aj fun b hb=>aD (by cases op <;> exact bT fun _ _=>rfl)
  | IfExp t a b p=>exact aj fun x hx=>aj fun y hy=>aj fun z hz=>aD (bT fun _ _=>rfl)
  | Compare l ops rs p=>exact aj fun _ _=>aj fun _ _=>ni fun _=>aj fun _ _=>aj fun _ _=>aD (bT fun _ _=>rfl)
  | List es p=>exact aj fun cs gb=>aD (xD hs cG (fun e c h=>ih _ _ _ _ _ h) gb)
  | Tuple es k p=>exact aj fun cs gb=>aD (bT fun _ _=>rfl)
  | Dict ks vs p=>exact cI fun hk=>aD (bT fun _ _=>rfl)
  | Subscript v i p =>
   refine aj fun a ha=>?_
   cases i with
   | Slice lo hi st p=>exact cI fun _=>aj fun _ _=>aj fun _ _=>aD (bT fun _ _=>rfl)
   | _=>exact aj fun _ _=>aD (bT fun _ _=>rfl)
  | Call fn as ks p=>exact ur G hX hs cG (fun e c h=>ih _ _ _ _ _ h) (sk:=I8 (fun i=>wz (bI cx n env.scope nm nx) cx env.scope i) cx env.scope nm nx) (fun as k c h=>yX h)
  | Attribute o a p=>exact cI fun _=>aj fun _ _=>aD (bT fun _ _=>rfl)
  | ListComp elt oq scope pos=>exact aj fun _ _=>cI fun _=>aj fun _ _=>aj fun _ _=>aj fun _ _=>aj fun _ _=>cI fun _=>aD (bT fun _ _=>rfl)
  | _=>exact du
noncomputable def Ke:gd→Option CE
 | .ex c=>some c
 | _=>none
theorem xC (hA:gS A d) (G:eH g cx fs mg mb) (hC:pA g A fs call) (hX:mD g A fs call) (n:Nat) (env:Env) (nm:List (Str×Nat)) (nx:Nat) (e:Expr) (it:gd) (h:q7 cx n env.scope nm nx e=some it):gG g A env nm e (Cb call it):=by
 cases it with
 | ex c =>
  have fg:bI cx n env.scope nm nx e=some c:=by
   have ex:qZ (bI cx n env.scope nm nx) e=some (.ex c)→bI cx n env.scope nm nx e=some c:=fun h=>by
    refine au (ob h) fun c' hc h=>?_
    have e2:some c'=some c:=congrArg Ke (sm h)
    rw [hc,e2]
   replace h:wz (bI cx n env.scope nm nx) cx env.scope e=some (.ex c):=h
   unfold wz at h
   cases hp:gi e with
   | none=>rw [hp] at h;exact ex h
   | some p =>
    rw [hp] at h
    obtain ⟨gn,as⟩:=p
    by_cases hg:(aX env.scope gn&&(dZ cx gn).isNone)=true
    ·replace h:=(if_pos hg).symm.trans h
     unfold wA at h
     by_cases h1:(gn==("range" : Str))=true
     ·replace h:=(if_pos h1).symm.trans h
      match as,h with
      | [],h=>exact no h
      | [a],h=>refine au (ob h) fun x hx h=>?_;exact nomatch sm h
      | [a,b],h=>refine au (ob h) fun x hx h=>?_;refine au (ob h) fun y hy h=>?_;exact nomatch sm h
      | a::b::c::r,h =>
       refine au (ob h) fun x hx h=>?_
       refine au (ob h) fun y hy h=>?_
       exact no h
     ·replace h:=(if_neg h1).symm.trans h
      ·
       by_cases h3:(gn==("enumerate" : Str))=true
       ·replace h:=(if_pos h3).symm.trans h
        refine au (ob h) fun a hl h=>?_
        refine au (ob h) fun x hx h=>?_
        exact nomatch sm h
       ·replace h:=(if_neg h3).symm.trans h
        exact ex h
    ·exact ex ((if_neg hg).symm.trans h)
  exact nT hA G hC hX n env nm nx e c fg
 | _=>exact fun ρ σ c w af he=>no he
end
section
variable {g:G} {cx:cp} {fs:List Fn} {mg mb:Str→Option Value} {A:Around} {call:ar} {d:Nat}
theorem BV (cx:cp) (n:Nat) (sc:Scope) (nm:List (Str×Nat)) (e:Expr) (p:Pos):cQ cx sc nm n (.Starred e p)=none:=by
 cases n <;> rfl
theorem AC (G:eH g cx fs mg mb) (hQ:∀ k∈cx.calm,oJ g A fs call k) (env:Env) (nm:List (Str×Nat)):∀ n e c,cQ cx env.scope nm n e=some c→aE g A env nm e (ab call c)∧dU g A env nm e (bu call c):=by
 intro n
 induction n with
 | zero=>exact fun e c h=>no h
 | succ n ih =>
  intro e
  have hs:∀ e p,cQ cx env.scope nm n (.Starred e p)=none:=fun e p=>BV ..
  have cG:∀ e c,cQ cx env.scope nm n e=some c→aE g A env nm e (ab call c):=fun e c h=>(ih e c h).1
  have Br:∀ e c,cQ cx env.scope nm n e=some c→dU g A env nm e (bu call c):=fun e c h=>(ih e c h).2
  show Gd (fun c=>aE g A env nm e (ab call c)∧dU g A env nm e (bu call c)) (Mz (cQ cx env.scope nm n) cx env.scope nm e)
  cases e with
  | Constant k _ _=>exact aj fun v hv=>aD (g8 (li hv) rfl)
  | Name x p=>exact fun c h=>g8 (nV G h) rfl
  | UnaryOp op x p =>
   refine aj fun a ha=>?_
   cases op with
   | Not=>exact aD (v5 (cG _ _ ha) (Br _ _ ha))
   | USub=>exact aD (g8 (v4 (cG _ _ ha)) rfl)
   | _=>exact du
  | BoolOp op vs p=>exact fun c h=>⟨lg cG _ _ _ _ h,fun ρ σ b af he φ s R F E=>lh Br _ _ _ _ _ h ρ σ b af he φ s R F E⟩
  | List es p=>exact aj fun cs gb=>aD (g8 (sD hs cG gb) rfl)
  | Attribute o a p =>
   refine cI fun hw=>aj fun c' dG=>aD ?_
   simp only [Bool.and_eq_true,beq_iff_eq] at hw
   refine aJ hw fun q1 hn=>?_;apply aO q1
   refine Exists.elim (Option.isSome_iff_exists.mp hn) fun x hx=>?_
   refine Exists.elim (bd hx) fun q q2=>?_;subst q2
   exact g8 (sF G (cG _ _ dG)) rfl
  | Call fn as ks p =>
   refine aj fun gn hn=>cI fun hc=>?_
   refine Exists.elim (bd hn) fun p' q2=>?_;apply aO q2
   simp only [Bool.and_eq_true] at hc
   refine aJ hc fun hk hg=>?_
   apply aO (List.isEmpty_iff.mp hk)
   cases hk:dZ cx gn with
   | some k =>
    refine ni fun eM=>aj fun cs gb=>aD ?_
    simp only [Bool.or_eq_true,not_or,Bool.not_eq_true,Bool.not_eq_true',Bool.not_eq_false] at eM
    exact g8 (sv G (hQ k (by simpa using eM.2)) hs cG hg hk eM.1 gb) rfl
   | none =>
    refine cI fun hi c h=>?_
    obtain rfl:=beq_iff_eq.mp hi
    exact g8 (sw G hs cG hg h) rfl
  | _=>exact du
end
noncomputable def wj (g:G) (φ:List Addr) (env:Env) (nm:List (Str×Nat)) (s:Shared):b8→aF→ag→PySem.Flow→Shared→Prop
 | .next,ρ',af,f,s'=>f=.next∧Ny g φ env nm s ρ' af s'
 | .ret v,_,af,f,s'=>∃ a aI,f=.ret a∧cu (FM φ env) φ s.heap aI s'.heap∧ak g aI af s'.heap∧VR g aI s'.heap v a∧bx s s'
 | .exc _ _,_,_,_,_=>False
noncomputable def uV (U:Prop) (g:G) (φ:List Addr) (env:Env) (s:Shared):b8→ag→Value→Shared→Prop
 | .exc c w,af,e,s'=>∃ aI ea L,e=.ref ea∧env.frame=some L∧(c=1∨c=2)∧cu (FM φ env) φ s.heap aI s'.heap∧bx s s'∧kt g aI af s.heap s'.heap U (PL L) ea c w
 | _,_,_,_=>False
noncomputable abbrev I7 (g:G) (φ:List Addr) (env:Env) (s:Shared) (fl:b8) (af:ag) (e:Value) (s':Shared):Prop:=uV True g φ env s fl af e s'
structure FX (g:G) (A:Around) (env:Env):Prop where
 fr:A.frames=some g.fr
 top:∃ bi,g.fr=env::bi
 own:∃ L,env.frame=some L
noncomputable def ja (g:G) (A:Around) (env:Env) (nm:List (Str×Nat)) (st:Stmt) (m:aF→ag→Option (b8×aF×ag)):Prop :=
 ∀ ρ σ fl ρ' af,m ρ σ=some (fl,ρ',af)→∀ φ s,ak g φ σ s.heap→dA g φ env nm ρ s.heap→∀ E,(∀ e s',I7 g φ env s fl af e s'→E e s')→wpAny (model g.prog g.w) A (exec st env) (wj g φ env nm s fl ρ' af) E s
noncomputable def jf (g:G) (A:Around) (env:Env) (nm:List (Str×Nat)) (st:List Stmt) (m:aF→ag→Option (b8×aF×ag)):Prop :=
 ∀ ρ σ fl ρ' af,m ρ σ=some (fl,ρ',af)→∀ φ s,ak g φ σ s.heap→dA g φ env nm ρ s.heap→∀ E,(∀ e s',I7 g φ env s fl af e s'→E e s')→wpAny (model g.prog g.w) A (execs st env) (wj g φ env nm s fl ρ' af) E s
section
variable {g:G} {cx:cp} {fs:List Fn} {mg mb:Str→Option Value} {A:Around} {E:Value→Shared→Prop} {φ ah:List Addr} {σ σ₁ af:ag} {s s₁:Shared} {env:Env} {nm:List (Str×Nat)} {ρ ρ':aF} {call:ar} {d:Nat}
theorem wj.after {fl:b8} {f:PySem.Flow} {cw:Shared} (S:cu (FM φ env) φ s.heap ah s₁.heap) (T:bx s s₁) (h:wj g ah env nm s₁ fl ρ' af f cw):wj g φ env nm s fl ρ' af f cw:=by
 cases fl with
 | next =>
  obtain ⟨e,aI,S',R',F',T'⟩:=h
  exact ⟨e,aI,FM.trans S S',R',F',T.trans T'⟩
 | ret v =>
  refine E0 h fun a aI e S' R' V' T'=>?_
  exact ⟨a,aI,e,FM.trans S S',R',V',T.trans T'⟩
 | exc c w=>exact h.elim
theorem uV.after {U:Prop} {fl:b8} {e:Value} {cw:Shared} (S:cu (FM φ env) φ s.heap ah s₁.heap) (T:bx s s₁) (R:ak g φ σ s.heap) (F:oa g φ s.heap) (h:uV U g ah env s₁ fl af e cw):uV U g φ env s fl af e cw:=by
 cases fl with
 | next=>exact h
 | ret v=>exact h
 | exc c w =>
  refine Ka h fun aI ea L h1 h2 h3 S' T' X=>?_
  exact ⟨aI,ea,L,h1,h2,h3,FM.trans S S',T.trans T',X.before S R F⟩
theorem kt.mono {U U':Prop} {P P':Value→Prop} {aW h:Heap} {ea:Addr} {c:Nat} {w:Str} (X:kt g φ σ aW h U P ea c w) (hU:U→U') (hP:∀ f,P f→P' f):kt g φ σ aW h U' P' ea c w :=
 ⟨X.R,X.FS,X.F0,X.dom,X.B0,X.X.mono hU hP⟩
theorem BB.stm {c:Nat} {w:Str} {ea:Addr} {aI:List Addr} {s':Shared} (K:FX g A env) (x:BB g φ s c w af ea aI s'):I7 g φ env s (.exc c w) af (.ref ea) s':=by
 refine Exists.elim K.own fun L hL=>?_
 exact ⟨aI,ea,L,rfl,hL,x.hc,cu.ofSE x.S env,x.T,x.X.mono (fun q=>q) fun f q=>.inl q⟩
theorem cu.xkp {ms:Addr→Prop} {aW h h':Heap} {aI:List Addr} {e:Addr} (S:cu ms φ aW aI h) (K:yi g aW h h' e):cu ms φ aW aI h' :=
 ⟨fun b o e hb=>(S.pres b o e hb).then fun o' e'=>K.old b o' e' (by rw [e];exact fun q=>nomatch q),fun b o e=>by refine Exists.elim (S.dom b o e) fun o' e'=>?_;exact K.dom b o' e',S.ext⟩
theorem uV.note {U:Prop} {fl:b8} {e:Value} {s':Shared} {Q:Unit→Shared→Prop} (K:FX g A env) (x:uV U g φ env s fl af e s') (hQ:∀ kY,uV False g φ env s fl af e kY→Q () kY):wpAny (model g.prog g.w) A (noteFrame e env) Q E s':=by
 cases fl with
 | next=>exact x.elim
 | ret v=>exact x.elim
 | exc c w =>
  refine Ka x fun aI ea L q4 h2 h3 S' T' X=>?_;subst q4
  refine Exists.elim K.top fun bi ho=>?_
  exact ui K.fr ho h2 X fun h' X' K'=>hQ _ ⟨aI,ea,L,rfl,h2,h3,S'.xkp K',T'.trans ⟨rfl,rfl,rfl⟩,X'⟩
theorem uV.back {fl:b8} {e:Value} {s':Shared} {E':Value→Shared→Prop} (x:uV False g φ env s fl af e s') (hE:∀ kY,I7 g φ env s fl af e kY→E' e kY):cameBackBy (model g.prog g.w) A env E' e s':=by
 cases fl with
 | next=>exact x.elim
 | ret v=>exact x.elim
 | exc c w =>
  refine Ka x fun aI ea L q4 h2 h3 S' T' X=>?_;subst q4
  exact ET (Q:=True) h2 X fun h' X' K'=>hE _ ⟨aI,ea,L,rfl,h2,h3,S'.xkp K',T'.trans ⟨rfl,rfl,rfl⟩,X'.mono (fun q=>q.elim) fun _ q=>q⟩
theorem uA {v:Expr} {t:Expr} {ln:Nat} (hv:∀ a b c d,v≠.ListComp a b c d) {n:Nat} {sc:Scope} {nx:Nat} {c:CE} (hc:bI cx n sc nm nx v=some c):swapsWith v (some t) ln env=pure false:=by
 cases v with
 | ListComp a b c d=>exact absurd rfl (hv a b c d)
 | SetComp a b c d=>cases n <;> exact no hc
 | DictComp a b c d e=>cases n <;> exact no hc
 | _=>rfl
theorem nU {x:Str} {p pos:Pos} {v:Expr} {t:ge} {a:CE} (hA:gS A d) (ht:eI env.scope nm (.Name x p)=some t) (hs:swapsWith v (some (.Name x p)) pos.line env=pure false) (K:FX g A env) (LG:gG g A env nm v (b9 call a)) (hv:aE g A env nm v (ab call a)) :
  ja g A env nm (.Assign [.Name x p] v pos) (be call (.assign t a)):=by
 intro ρ σ fl ρ' af he φ s R F E hE
 rw [dY] at he
 rcases dJ he with he | ⟨c,w,rfl,rfl,hx⟩
 rotate_left
 ·exact wpAny_Assign_Name (LG _ σ c w af hx φ s R F _ E fun ea aI s' X=>hE _ _ (X.stm K)) hs
 refine bo he fun x' σ₁ h1 he=>?_
 refine aK he fun cb hp he=>?_
 apply dS he
 refine wpAny_Assign_Name (hv.bind h1 R F fun av s₁ ah S T al aP aV=>?_) hs
 refine fL (oR ht) fun i q2 hx hk=>?_;subst q2
 obtain rfl:=sm hp
 refine ew aP al hx hk aV fun h' tk S' R' F' _=>⟨rfl,ah,FM.trans (cu.ofSE S env) (S'.mono fun b hb=>?_),R',F',T.trans ⟨rfl,rfl,rfl⟩⟩
 refine Or.elim hb (fun hb=>?_) (fun hb=>?_)
 ·exact .inr (.inl hb)
 ·exact .inr (.inr ⟨x,hb⟩)
theorem su {ts:List Expr} {k:Nat} {p pos:Pos} {v:Expr} {t:ge} {a:CE} (hA:gS A d) (ht:eI env.scope nm (.Tuple ts k p)=some t) (hs:swapsWithSole [.Tuple ts k p] v pos.line env=pure false) (hw:swappedStores [.Tuple ts k p] v env=pure none) (K:FX g A env) (LG:gG g A env nm v (b9 call a)) (hv:aE g A env nm v (ab call a)) :
  ja g A env nm (.Assign [.Tuple ts k p] v pos) (be call (.assign t a)):=by
 intro ρ σ fl ρ' af he φ s R F E hE
 rw [dY] at he
 rcases dJ he with he | ⟨c,w,rfl,rfl,hx⟩
 rotate_left
 ·exact Assign_Tuple (LG _ σ c w af hx φ s R F _ E fun ea aI s' X=>hE _ _ (X.stm K)) hs hw
 refine bo he fun x' σ₁ h1 he=>?_
 refine aK he fun cb hp he=>?_
 apply dS he
 refine Assign_Tuple (hv.bind h1 R F fun av s₁ ah S T al aP aV=>?_) hs hw
 exact qD hA.handled ht hp al aP aV fun h' tk S' R' F' _=>⟨rfl,ah,FM.trans (cu.ofSE S env) (S'.mono fun b hb=>hb.fm),R',F',T.trans ⟨rfl,rfl,rfl⟩⟩
theorem sr {x:Str} {p pos:Pos} {elt aA cR:Expr} {gc:List Expr} {scope:Scope} {jR:Pos} {nx:Nat} {t t':ge} {it:gd} {c:CE} {cs:eG} {F':Expr→Option CE} {two:Bool}
  (hA:gS A d) (ht:eI env.scope nm (.Name x p)=some t') (GI:swapsWith (.ListComp elt [⟨aA,cR,gc,0⟩] scope jR) (some (.Name x p)) pos.line env=pure true)
  (K:jq scope env.scope nm nx (aH aA)) (hs:∀ x,foldedSetIterable cR env x=pure x) (zF:qB two aA)
  (hi:kq g A env nm cR two (cm call it)) (yo:eI (gt scope env.scope) (bO scope nm nx (aH aA)) aA=some t)
  (hE:∀ e',e'.scope=gt scope env.scope→aE g A e' (bO scope nm nx (aH aA)) elt (ab call c)) (gb:bV F' gc=some cs) (hT:∀ e',e'.scope=gt scope env.scope→∀ e c,F' e=some c→dU g A e' (bO scope nm nx (aH aA)) e (bu call c)) :
  ja g A env nm (.Assign [.Name x p] (.ListComp elt [⟨aA,cR,gc,0⟩] scope jR) pos) (be call (.assign t' (.comp c t it cs))):=by
 intro ρ σ fl ρ' af he φ s R F E hE0
 rw [dY] at he
 rcases dJ he with he | ⟨c,w,rfl,rfl,hx⟩
 rotate_left
 ·exact no hx
 refine bo he fun x' bb Bl he=>?_
 refine il Bl fun xs w σ₁ h1 Bl=>?_
 refine bo Bl fun l ae h2 Bl=>?_
 refine aK he fun cb hp he=>?_
 apply dS he
 refine iY (fG Bl) fun hz q2 q3=>?_;subst q2 q3
 ····refine fL (oR ht) fun i q2 hx hk=>?_;subst q2
     obtain rfl:=sm hp
     rw [exec_Assign_Name_used _ _ _ _ GI]
     refine wpAny_bind (wpAny_standAt (wpAny_bind ?_))
     show wpAny _ A (do let _ ←comprehension (.ListComp elt [⟨aA,cR,gc,0⟩] scope jR) scope env _ (newList []) false (eval cR env) (some (assign (.Name x p) env))) _ _ s
     refine wpAny_bind (wpAny_mono (oV (use:=some (assign (.Name x p) env)) (Q:=fun _ s'=>wj g φ env nm s .next (cE ρ i (.ref ae.length)) (ae++[.lst l]) .next s') hA K hs zF hi yo hE gb hT h1 h2 hz R F fun D C s' Jg hC=>?_) (fun _ s' hq=>wpAny_pure (wpAny_pure hq)) fun _ _ e=>e)
     obtain ⟨aI,S,R',V',T,zo,m,hn⟩:=id Jg
     have aP:=F.step R S
     have MO:C≠env.locals:=by
      rintro rfl
      refine au F.ns fun m' k5 _=>?_;refine jH k5 fun o _ _ ho _=>?_
      rw [hC] at ho;cases ho
     have MP:∀ y,env.cells.lookup y≠some C:=fun y e=>by
      refine aJ (F.cellF y C e) fun k6 _=>?_;refine fv k6 fun u o ho _=>?_
      rw [hC] at ho;cases ho
     show wpAny _ A (assign (.Name x p) env (.ref D)) _ _ _
     refine wpAny_assign_Name (ew aP R' hx hk V' fun jc tk cM ba dH up=>?_)
     have vt:jc.Ns C m:=eR.ns hn fun o ho=>cM.pres _ _ ho (fun q=>by rcases q with q | q;exact MO q;exact MP x q)
     refine ⟨m,vt,fun eg vu=>⟨rfl,aI,?_,?_,?_,T.trans ⟨rfl,rfl,rfl⟩⟩⟩
     ·have Bv:cu (FM φ env) φ s.heap aI jc:=FM.trans (cu.ofSE S env) (cM.mono fun b hb=>by rcases hb with hb | hb;exact .inr (.inl hb);exact .inr (.inr ⟨x,hb⟩))
      have fX:ak g aI (ae++[.lst l]) eg:=ba.other zo (a7 R hC) (fun b o hb e=>vu.extBut b o hb e) (Ns.noSeq vt)
      exact cu.mv (wr:=[C]) Bv fX (fun b o hb _ e=>vu.extBut b o (by simpa using hb) e) (fun _ q=>.inl q) (by simpa using hC)
     ·exact ba.other zo (a7 R hC) (fun b o hb e=>vu.extBut b o hb e) (Ns.noSeq vt)
     ·refine dH.mv (wr:=[C]) (fun b o hb _ e=>vu.extBut b o (by simpa using hb) e) (fun b hb o e=>?_) (by simpa using fun q=>MO q.symm) (fun y c e=>by simp;rintro rfl;exact MP y e) fun e he L hf=>?_
      ·simp at hb;subst hb
       exact Ns.noSeq vt o e
      ·obtain ⟨_,L',o,es,ep,k2,k3,_⟩:=F.stk e he
       rw [hf] at k2;cases k2
       simp only [List.mem_singleton];rintro rfl
       rw [hC] at k3;cases k3
theorem sE {o i v:Expr} {p pos:Pos} {a b c:CE} (hs:swapsWith v (some (.Subscript o i p)) pos.line env=pure false) (ho:aE g A env nm o (ab call a)) (hi:aE g A env nm i (ab call b)) (hv:aE g A env nm v (ab call c)) :
  ja g A env nm (.Assign [.Subscript o i p] v pos) (be call (.setItem a b c)):=by
 intro ρ σ fl ρ' af he φ s R F E hE
 rw [mU] at he
 refine bo he fun x σ₁ h1 he=>?_
 refine bo he fun y ae h2 he=>?_
 refine bo he fun z bb h3 he=>?_
 refine aK he fun gE h4 he=>?_
 apply dS he
 refine wpAny_Assign_Subscript (hv.bind h1 R F fun a s₁ ah S T al aP aV=>ho.bind h2 al aP fun b cw cr cM fh ba dH di=>hi.bind h3 ba dH fun c gw n8 fY pC fX lV EN=>?_) hs
 refine CY h4 fX (di.step ba fY) EN ((aV.step al cM).step ba fY) fun h' tk S' R'=>?_
 exact ⟨rfl,n8,cu.ofSE (S.trans (cM.trans (fY.trans S'))) env,R',lV.step fX S',T.trans (fh.trans (pC.trans ⟨rfl,rfl,rfl⟩))⟩
theorem AH {e:Expr} {pos:Pos} {m:fW} {o:CE} {as:eG} (hm:m.isStep=true) (hk:env.scope.kind=.function) (hs:swapsWith e none pos.line env=pure false) (K:FX g A env) (hX:gG g A env nm e (b9 call (.meth m o as))) (he:aE g A env nm e (ab call (.meth m o as))) :
  ja g A env nm (.Expr e pos) (be call (.expr (.meth m o as))):=by
 intro ρ σ fl ρ' af h φ s R F E hE
 rw [i4] at h
 rcases dJ h with h | ⟨c,w,rfl,rfl,hx⟩
 rotate_left
 ·exact wpAny_Expr (hX _ σ c w af hx φ s R F _ E fun ea aI s' X=>hE _ _ (X.stm K)) (by unfold interactive;rw [hk];rfl) hs
 refine fv (gh h) fun v σ₁ q h=>?_
 refine iY (Ez h) fun Cv Cw Cx=>?_;subst Cv;subst Cw;subst Cx
 have hv:v=.none:=by
  refine fv (gh q) fun x ae _ q=>?_
  refine aJ (cJ q) fun _ q=>?_
  refine fv (gh q) fun vs bb _ q=>?_
  exact xN hm q
 subst hv
 refine wpAny_Expr (he.bind q R F fun a s₁ ah S T al aP aV=>?_) (by unfold interactive;rw [hk];rfl) hs
 cases aV
 exact ⟨rfl,ah,cu.ofSE S env,al,aP,T⟩
theorem Gi {t:Expr} {a b:List Stmt} {pos:Pos} {c:CE} {x y:fu} (ht:dU g A env nm t (bu call c)) (ha:jf g A env nm a (aB call x)) (hb:jf g A env nm b (aB call y)):ja g A env nm (.If t a b pos) (be call (.ite c x y)):=by
 intro ρ σ fl ρ' af h φ s R F E hE
 refine gT h fun p σ₁ h1 h=>?_
 refine wpAny_If (ht.bind (aR h1) R F fun s₁ ah S T al aP=>?_)
 cases p with
 | true=>exact wpAny_mono (ha ρ σ₁ fl ρ' af h ah s₁ al aP E fun e s' X=>hE e s' (X.after (cu.ofSE S env) T R F.stk)) (fun _ _ x=>wj.after (cu.ofSE S env) T x) fun _ _ x=>x
 | false=>exact wpAny_mono (hb ρ σ₁ fl ρ' af h ah s₁ al aP E fun e s' X=>hE e s' (X.after (cu.ofSE S env) T R F.stk)) (fun _ _ x=>wj.after (cu.ofSE S env) T x) fun _ _ x=>x
theorem Db {e:Expr} {pos:Pos} {c:CE} (K:FX g A env) (hX:gG g A env nm e (b9 call c)) (he:aE g A env nm e (ab call c)):ja g A env nm (.Return (some e) pos) (be call (.ret c)):=by
 intro ρ σ fl ρ' af h φ s R F E hE
 rw [iu] at h
 rcases dJ h with h | ⟨c',w,rfl,rfl,hx⟩
 rotate_left
 ·exact wpAny_Return_some (hX _ σ c' w af hx φ s R F _ E fun ea aI s' X=>hE _ _ (X.stm K))
 refine bo h fun v σ₁ q h=>?_
 apply dS h
 exact wpAny_Return_some (he.bind q R F fun a s₁ ah S T al aP aV=>⟨a,ah,rfl,cu.ofSE S env,al,aV,T⟩)
theorem xH {x:Str} {e:Expr} {np jR pos:Pos} {a:CE} {c:Nat} (hA:gS A d) (G:eH g cx fs mg mb) (K:FX g A env) (hg:aX env.scope x=true) (Cg:fC.lookup x=some c) (hc:c=1∨c=2) (gF:∀ y q,e≠.Starred y q) (hx:aE g A env nm e (ab call a)) :
  ja g A env nm (.Raise (some (.Call (.Name x np) [e] [] jR)) none pos) (be call (.raise_ c a)):=by
 intro ρ σ fl ρ' af h φ s R F E hE
 rw [mT] at h
 refine bo h fun v σ₁ h1 h=>?_
 refine aK h fun w h2 h=>?_
 refine iY (Ez h) fun q1 q2 q3=>?_;subst q1 q2 q3
 have hv:v=.str w:=by
  cases v <;> first | exact no h2 | skip
  exact congrArg _ (sm h2)
 subst hv
 exact CU hA G hg Cg hc gF hx h1 R F fun ea ah s' S T X=>hE _ _ (BB.stm K ⟨hc,S,T,X⟩)
theorem C9:jf g A env nm [] (aB call .nil):=by
 intro ρ σ fl ρ' af h φ s R F E hE
 apply dS h
 exact wpAny_execs_nil ⟨rfl,φ,cu.refl _ _ _,R,F,bx.refl _⟩
theorem AF {st:Stmt} {az:List Stmt} {c:CS} {cs:fu} (h1:ja g A env nm st (be call c)) (h2:jf g A env nm az (aB call cs)):jf g A env nm (st::az) (aB call (.cons c cs)):=by
 intro ρ σ fl ρ' af h φ s R F E hE
 refine Or.elim (fw h) (fun q=>fv q fun cb σ₁ hx h=>?_) (fun q=>aJ q fun hx eM=>?_)
 ·refine wpAny_execs_cons (wpAny_mono (h1 ρ σ .next cb σ₁ hx φ s R F E fun e s' X=>X.elim) (fun f s₁ hf=>?_) fun _ _ x=>x)
  obtain ⟨rfl,ah,S,al,aP,T⟩:=hf
  exact wpAny_mono (h2 cb σ₁ fl ρ' af h ah s₁ al aP E fun e s' X=>hE e s' (X.after S T R F.stk)) (fun _ _ x=>wj.after S T x) fun _ _ x=>x
 ·refine wpAny_execs_cons (wpAny_mono (h1 ρ σ fl ρ' af hx φ s R F E hE) (fun f s₁ hf=>?_) fun _ _ x=>x)
  cases fl with
  | next=>exact absurd rfl eM
  | ret v =>
   refine fv hf fun a aI q3 r=>?_;apply aO q3
   exact ⟨a,aI,rfl,r⟩
  | exc c w=>exact hf.elim
end
section
variable {prog:Program} {w:World} {A:Around} {E:Value→Shared→Prop} {s:Shared} {env:Env}
theorem rV {h:Heap} {g:Array GenState} {d:Drawn} {t:Nat} {os:OsState} {C C0 e:Addr} {mN mN0:Str→Option Value} {oe:Obj} {Q:Bool→Shared→Prop} (S:dI h C C0 mN mN0) (he:h.get? e=some oe) (zt:oe.cls=.ref C)
  (hq:Q true ⟨h,g,d,t,os⟩):wpAny (model prog w) A (excMatches (.ref e) (.ref C0)) Q E ⟨h,g,d,t,os⟩:=by
 refine kj (id S.c.obj) fun N nm q bs sub k3=>?_;refine pM k3 fun k0 k1 k2 k3 k5 hC hn=>?_
 refine kj (id S.c0.obj) fun N0 F8 q' u2 Gm t8=>?_;refine pM t8 fun LR LU LX L4 L7 yn Cp=>?_
 have tS:(Value.ref C0::ik).contains (.type "BaseException")=true:=by rw [List.contains_cons,show ik.contains (.type "BaseException")=true from PySem.F.excBase_ValueError.hasBase,Bool.or_true]
 have Ky:(Value.ref C::.ref C0::ik).contains (.ref C0)=true:=by rw [List.contains_cons,List.contains_cons,beq_self_eq_true];simp
 have f:=tc_notTuple
 unfold excMatches
 repeat (first | (with_reducible refine wpAny_loadPart_at he ?_;rw [zt]) | with_reducible refine wpAny_loadPart_at yn ?_ | (with_reducible refine wpAny_isSubtype_exc yn ?_;rw [tS]) | (with_reducible refine wpAny_isSubtype_exc hC ?_;rw [Ky]) | wp_step)
 exact hq
theorem qa {e:Addr} {t:Expr} {n:Str} {wy:Stmt} {lQ:List Stmt} {pos:Pos} {az:List ExceptHandler} {Q:PySem.Flow→Shared→Prop}
  (h:wpAny (model prog w) (A.mark (some (.ref e))) (eval t env) (fun c s₁=>∃ C C0 mN mN0,c=.ref C0∧dI s₁.heap C C0 mN mN0∧(∃ oe,s₁.heap.get? e=some oe∧oe.cls=.ref C) ∧
   wpAny (model prog w) (A.mark (some (.ref e))) (setFlight (.ref e) none) (fun _ cw =>
     wpAny (model prog w) (A.mark (some (.ref e))) (storeName env n (.ref e)) (fun _ gw =>
      wpAny (model prog w) (A.mark (some (.ref e))) (execs (wy::lQ) env)
       (fun f uB=>wpAny (model prog w) A (do bindName env n .none;unbindBehindTheSuite env n pos) (fun _ AW=>Q f AW) E uB)
       (AsSuiteRaised (model prog w) (A.mark (some (.ref e))) env n pos (notedBy (model prog w) (A.mark (some (.ref e))) env (cameBackBy (model prog w) A env E))) gw) (notedBy (model prog w) (A.mark (some (.ref e))) env (cameBackBy (model prog w) A env E)) cw) (notedBy (model prog w) (A.mark (some (.ref e))) env (cameBackBy (model prog w) A env E)) s₁) (notedBy (model prog w) (A.mark (some (.ref e))) env (cameBackBy (model prog w) A env E)) s) :
  wpAny (model prog w) A (handleBy (.ref e) env (.ExceptHandler (some t) (some n) (wy::lQ) pos::az)) Q E s:=by
 refine wpAny_handleBy_cons (codeAny_handlers_test (wpAny_mono h (fun c s₁ bg=>?_) fun _ _ y=>y)) (by intro q;cases q)
 refine MG bg fun C C0 mN mN0 Pr S Pt hk=>?_;refine au Pt fun oe he zt=>?_;apply aO Pr
 obtain ⟨hh,g,d,tk,os⟩:=s₁
 exact rV S he zt (codeAny_handlers_suite_as hk)
end
noncomputable def Nm:b8→Prop
 | .exc _ _=>False
 | _=>True
noncomputable def DA (g:G) (φ:List Addr) (s:Shared) (ρ:aF):b8→aF→ag→PySem.Flow→Shared→Prop
 | .next,ρ',af,f,s'=>f=.next∧ρ'=ρ∧∃ aI,SE φ s.heap aI s'.heap∧ak g aI af s'.heap∧bx s s'
 | .ret v,_,af,f,s'=>∃ a aI,f=.ret a∧SE φ s.heap aI s'.heap∧ak g aI af s'.heap∧VR g aI s'.heap v a∧bx s s'
 | .exc _ _,_,_,_,_=>False
noncomputable def yC (g:G) (A:Around) (env:Env) (nm:List (Str×Nat)) (st:Stmt) (m:aF→ag→Option (b8×aF×ag)):Prop :=
 ∀ ρ σ fl ρ' af,m ρ σ=some (fl,ρ',af)→Nm fl→∀ φ s,ak g φ σ s.heap→dA g φ env nm ρ s.heap→∀ E,wpAny (model g.prog g.w) A (exec st env) (DA g φ s ρ fl ρ' af) E s
noncomputable def oK (g:G) (A:Around) (env:Env) (nm:List (Str×Nat)) (st:List Stmt) (m:aF→ag→Option (b8×aF×ag)):Prop :=
 ∀ ρ σ fl ρ' af,m ρ σ=some (fl,ρ',af)→Nm fl→∀ φ s,ak g φ σ s.heap→dA g φ env nm ρ s.heap→∀ E,wpAny (model g.prog g.w) A (execs st env) (DA g φ s ρ fl ρ' af) E s
section
variable {g:G} {cx:cp} {fs:List Fn} {mg mb:Str→Option Value} {A:Around} {E:Value→Shared→Prop} {φ ah:List Addr} {σ σ₁ af:ag} {s s₁:Shared} {env:Env} {nm:List (Str×Nat)} {ρ ρ':aF} {call:ar} {d:Nat}
theorem DA.after {fl:b8} {f:PySem.Flow} {cw:Shared} (S:SE φ s.heap ah s₁.heap) (T:bx s s₁) (h:DA g ah s₁ ρ fl ρ' af f cw):DA g φ s ρ fl ρ' af f cw:=by
 cases fl with
 | next =>
  obtain ⟨e,e',aI,S',R',T'⟩:=h
  exact ⟨e,e',aI,S.trans S',R',T.trans T'⟩
 | ret v =>
  refine E0 h fun a aI e S' R' V' T'=>?_
  exact ⟨a,aI,e,S.trans S',R',V',T.trans T'⟩
 | exc c w=>exact h.elim
theorem Da {t:Expr} {a b:List Stmt} {pos:Pos} {c:CE} {x y:fu} (ht:dU g A env nm t (bu call c)) (ha:oK g A env nm a (aB call x)) (hb:oK g A env nm b (aB call y)):yC g A env nm (.If t a b pos) (be call (.ite c x y)):=by
 intro ρ σ fl ρ' af h hok φ s R F E
 refine gT h fun p σ₁ h1 h=>?_
 refine wpAny_If (ht.bind (aR h1) R F fun s₁ ah S T al aP=>?_)
 cases p with
 | true=>exact wpAny_mono (ha ρ σ₁ fl ρ' af h hok ah s₁ al aP E) (fun _ _ x=>DA.after S T x) fun _ _ x=>x
 | false=>exact wpAny_mono (hb ρ σ₁ fl ρ' af h hok ah s₁ al aP E) (fun _ _ x=>DA.after S T x) fun _ _ x=>x
theorem AL {e:Expr} {pos:Pos} {c:CE} (he:aE g A env nm e (ab call c)):yC g A env nm (.Return (some e) pos) (be call (.ret c)):=by
 intro ρ σ fl ρ' af h hok φ s R F E
 rw [iu] at h
 rcases dJ h with h | ⟨c',w,rfl,rfl,hx⟩
 ·refine bo h fun v σ₁ q h=>?_
  apply dS h
  exact wpAny_Return_some (he.bind q R F fun a s₁ ah S T al aP aV=>⟨a,ah,rfl,S,al,aV,T⟩)
 ·exact hok.elim
theorem xG {st:Stmt} {az:List Stmt} {c:CS} {cs:fu} (h1:yC g A env nm st (be call c)) (h2:oK g A env nm az (aB call cs)):oK g A env nm (st::az) (aB call (.cons c cs)):=by
 intro ρ σ fl ρ' af h hok φ s R F E
 refine Or.elim (fw h) (fun q=>fv q fun cb σ₁ hx h'=>?_) (fun q=>aJ q fun hx eM=>?_)
 ·refine wpAny_execs_cons (wpAny_mono (h1 ρ σ .next cb σ₁ hx trivial φ s R F E) (fun f s₁ hf=>?_) fun _ _ x=>x)
  obtain ⟨rfl,rfl,ah,S,al,T⟩:=hf
  exact wpAny_mono (h2 _ σ₁ fl ρ' af h' hok ah s₁ al (F.step R S) E) (fun _ _ x=>DA.after S T x) fun _ _ x=>x
 ·refine wpAny_execs_cons (wpAny_mono (h1 ρ σ fl ρ' af hx hok φ s R F E) (fun f s₁ hf=>?_) fun _ _ x=>x)
  cases fl with
  | next=>exact absurd rfl eM
  | ret v =>
   refine fv hf fun a aI q3 r=>?_;apply aO q3
   exact ⟨a,aI,rfl,r⟩
  | exc c w=>exact hf.elim
theorem fJ {S:Stmt→Option CS} (ih:∀ st c,S st=some c→yC g A env nm st (be call c)):∀ {ss:List Stmt} {c:fu},cN S ss=some c→oK g A env nm ss (aB call c)
 | [],c,h=>by
  apply db h
  intro ρ σ fl ρ' af h hok φ s R F E
  apply dS h
  exact wpAny_execs_nil ⟨rfl,rfl,φ,SE.refl _ _,R,bx.refl _⟩
 | st::r,c,h=>by
  refine aK h fun a ha h=>?_
  refine aK h fun b hb h=>?_
  apply db h
  exact xG (ih _ _ ha) (fJ ih hb)
theorem nW (G:eH g cx fs mg mb) (hQ:∀ k∈cx.calm,oJ g A fs call k) (env:Env) (nm:List (Str×Nat)):∀ n st c,Bj cx env.scope nm n st=some c→yC g A env nm st (be call c):=by
 intro n
 induction n with
 | zero=>exact fun st c h=>no h
 | succ n ih =>
  have GL:=AC (cx:=cx) G hQ env nm n
  intro st c h
  replace h:Hl (cQ cx env.scope nm n) (cN (Bj cx env.scope nm n)) st=some c:=h
  cases st with
  | If t a b pos =>
   refine aK h fun x hx h=>?_
   refine aK h fun y hy h=>?_
   refine aK h fun z hz h=>?_
   apply db h
   exact Da (GL _ _ hx).2 (fJ ih hy) (fJ ih hz)
  | Return v pos =>
   refine aK h fun e he h=>?_
   refine aK h fun c' dG h=>?_
   apply db h
   apply aO he
   exact AL (GL _ _ dG).1
  | _=>exact no h
theorem kt.rep {aW h:Heap} {U:Prop} {P:Value→Prop} {ea:Addr} {c:Nat} {w:Str} (X:kt g φ σ aW h U P ea c w):∃ D,ak g (φ++[D,ea]) (σ++[.wd w,.exn c σ.length]) h∧aW.get? D=none∧∃ o,h.get? ea=some o∧o.cls=.ref (g.cls c):=by
 refine Jb X.X.ex fun vs D m t sl he cZ hD hm D0 qR ht=>?_
 have Dn:=Ns.noSeq hD
 have en:∀ o,h.get? ea=some o→¬ ic o:=fun o e hh=>by
  rw [he] at e;cases e
  rcases hh with ⟨k,_⟩ | ⟨k,_⟩ <;> exact nomatch k
 have De:D≠ea:=fun q=>by
  refine qL hD fun o es ep ho jI _=>?_
  rw [q,he] at ho;cases ho;cases jI
 have DB:g.B.get? D=none:=by
  cases q:g.B.get? D with
  | none=>rfl
  | some o=>have:=X.B0 _ _ q;rw [D0] at this;cases this
 have len:=X.R.len
 have up:∀ {m a},MR g φ h m a→MR g (φ++[D,ea]) h m a:=fun x=>x.stepT (fun n a e=>by rw [List.getElem?_append_left (List.getElem?_eq_some_iff.mp e).1];exact e) (fun b o e hh hn=>⟨e,fun q=>by
  refine Or.elim (List.mem_append.mp q) (fun q=>?_) (fun q=>?_)
  ·exact hn q
  ·simp only [List.mem_cons,List.not_mem_nil,or_false] at q
   refine Or.elim q (fun q=>?_) (fun q=>?_)
   ·exact Dn o (q ▸ e) hh
   ·exact en o (q ▸ e) hh⟩) fun o e=>e
 refine ⟨D,⟨X.R.base,fun a ha=>?_,by simp [len],?_,fun i a mm h1 h2=>?_,fun j q P hj=>?_⟩,D0,_,he,rfl⟩
 ·refine Or.elim (List.mem_append.mp ha) (fun ha=>?_) (fun ha=>?_)
  ·exact X.R.fresh a ha
  ·simp only [List.mem_cons,List.not_mem_nil,or_false] at ha
   rcases ha with rfl | rfl
   ·exact DB
   ·exact X.X.eB
 ·rw [List.nodup_append]
  refine ⟨X.R.nodup,by simp [De],fun a ha b hb=>?_⟩
  simp only [List.mem_cons,List.not_mem_nil,or_false] at hb
  rintro rfl
  rcases hb with rfl | rfl
  ·exact qR ha
  ·exact X.X.eφ ha
 ·refine Or.elim (Nat.lt_or_ge i φ.length) (fun hi=>?_) (fun hi=>?_)
  ·rw [List.getElem?_append_left hi] at h1
   rw [List.getElem?_append_left (len ▸ hi)] at h2
   exact up (X.R.objs i a mm h1 h2)
  ·rw [List.getElem?_append_right hi] at h1
   rw [List.getElem?_append_right (len ▸ hi),←len] at h2
   match hj:i - φ.length,h1,h2 with
   | 0,h1,h2 =>
    apply fQ (Option.some.inj h1)
    apply fQ (Option.some.inj h2)
    exact .wd hD hm
   | 1,h1,h2 =>
    apply fQ (Option.some.inj h1)
    apply fQ (Option.some.inj h2)
    exact .exn he rfl rfl rfl (by first | rw [←len,List.getElem?_append_right (Nat.le_refl _),Nat.sub_self];rfl | rw [List.getElem?_append_right (Nat.le_refl _),Nat.sub_self];rfl)
   | n+2,h1,h2=>cases h1
 ·refine aJ (X.R.tabs j q P hj) fun h1 h2=>?_
  exact ⟨by rw [List.getElem?_append_left (List.getElem?_eq_some_iff.mp h1).1];exact h1,by rw [List.getElem?_append_left (List.getElem?_eq_some_iff.mp h2).1];exact h2⟩
theorem wM {a:CE} {f:b8} {cb:aF} (h:aB call (.cons (.ret a) .nil) ρ σ=some (f,cb,σ₁)):(∃ v,f=.ret v∧cb=ρ∧ab call a ρ σ=some (v,σ₁))∨∃ c w,f=.exc c w∧cb=ρ∧b9 call a ρ σ=some (c,w,σ₁):=by
 have fg:∀ {f cb σ₁},be call (.ret a) ρ σ=some (f,cb,σ₁)→(∃ v,f=.ret v∧cb=ρ∧ab call a ρ σ=some (v,σ₁))∨∃ c w,f=.exc c w∧cb=ρ∧b9 call a ρ σ=some (c,w,σ₁):=fun {f cb σ₁} h=>by
  rw [iu] at h
  rcases dJ h with h | ⟨c,w,rfl,rfl,hx⟩
  ·refine bo h fun v ae q h=>?_
   apply dS h
   exact .inl ⟨v,rfl,rfl,q⟩
  ·exact .inr ⟨c,w,rfl,rfl,hx⟩
 refine Or.elim (fw h) (fun q=>fv q fun IX ae hx h=>?_) (fun q=>aJ q fun hx eM=>?_)
 ·rcases fg hx with ⟨v,e,_⟩ | ⟨c,w,e,_⟩ <;> cases e
 ·exact fg hx
theorem Df {e:Expr} {rp tp pos H5:Pos} {n:Str} {wy:Stmt} {lQ:List Stmt} {i:Nat} {a:CE} {y:fu} (G:eH g cx fs mg mb) (K:FX g A env) (hg:aX env.scope ("LarderError" : Str)=true) (hl:env.kindOf n=some .local) (hi:nm.lookup n=some i)
  (hX:gG g A env nm e (b9 call a)) (he:aE g A env nm e (ab call a)) (hH:∀ ea,oK g (A.mark (some (.ref ea))) env nm (wy::lQ) (aB call y)) :
  ja g A env nm (.Try [.Return (some e) rp] [.ExceptHandler (some (.Name ("LarderError" : Str) tp)) (some n) (wy::lQ) H5] [] [] pos) (be call (.try_ (.cons (.ret a) .nil) i y)):=by
 intro ρ σ fl ρ' af h0 φ s R F E hE
 rw [mV] at h0
 refine il h0 fun f cb σ₁ h1 h=>?_
 clear h0
 rcases wM h1 with ⟨v,rfl,rfl,q⟩ | ⟨c,w,rfl,rfl,hx⟩
 ·apply dS h
  exact wpAny_Try_except (wpAny_execs_cons (wpAny_Return_some (he.bind q R F fun a s₁ ah S T al aP aV=>⟨a,ah,rfl,cu.ofSE S env,al,aV,T⟩)))
 ·refine il h fun f2 IX ae h2 h=>?_
  cases f2 with
  | next=>exact no h
  | exc c' w'=>exact no h
  | ret v2 =>
  apply dS h
  refine wpAny_Try_except (wpAny_execs_cons (wpAny_Return_some (hX _ σ c w σ₁ hx φ s R F _ _ fun ea ah s₁ X=>?_)))
  refine Exists.elim K.top fun bi ho=>?_
  refine Exists.elim K.own fun L hL=>?_
  refine jH (qA G X.hc) fun mN mN0 fI S2 _=>?_
  refine ui K.fr ho hL (X.X.mono (fun q=>q) fun f q=>.inl q) fun jc JV JH=>?_
  refine fT (s:={s₁ with heap:=jc}) (P':=P0) JV rfl fun eg BC JI=>?_
  have fY:SE φ s.heap ah eg:=cu.xkp (cu.xkp X.S JH) JI
  refine qa (u6 (s:={s₁ with heap:=eg}) (c:=0) G (F.step R fY) BC.R hg rfl ?_)
  refine ⟨g.cls c,g.cls 0,mN,mN0,rfl,S2.keeps BC.R.base,?_,?_⟩
  ·refine pM BC.X.ex fun _ _ _ _ _ wO _=>?_
   exact ⟨_,wO,rfl⟩
  refine fT (s:={s₁ with heap:=eg}) (P':=P0) BC rfl fun ma G7 JJ=>?_
  obtain ⟨D,pz,D0,o,_⟩:=G7.rep
  have yE:SE φ s.heap ah ma:=cu.xkp fY JJ
  have jr:SE φ s.heap (ah++[D,ea]) ma:=by
   refine au yE.ext fun t ht hf=>?_
   refine ⟨yE.pres,yE.dom,t++[D,ea],by rw [ht,List.append_assoc],fun b hb=>?_⟩
   refine Or.elim (List.mem_append.mp hb) (fun hb=>?_) (fun hb=>?_)
   ·exact hf b hb
   ·simp only [List.mem_cons,List.not_mem_nil,or_false] at hb
    rcases hb with rfl | rfl
    ·exact D0
    ·exact X.X.X.e0
  have yx:=F.step R jr
  have zJ:(ah++[D,ea])[σ₁.length+1]? = some ea:=by
   have len:ah.length=σ₁.length:=G7.R.len
   rw [←len,List.getElem?_append_right (Nat.le_succ _),show ah.length.succ - ah.length=1 from (Nat.le_antisymm (l2 0xc18014ba181a10 rfl (sC (l1 0xca1800 rfl))) (l2 0xc11810ba01a180 rfl (sA _ _)))];rfl
  refine ew (s:={s₁ with heap:=ma}) yx pz hi (.inl hl) (.ref zJ) fun Cs IP Bz Bt EH up₅=>?_
  refine wpAny_mono (hH ea _ _ (.ret v2) _ _ h2 trivial _ {s₁ with heap:=Cs,toks:=IP} Bt EH _) (fun f IL hf=>?_) fun _ _ x=>x
  refine E0 hf fun av wi q3 G1 JL JT JQ=>?_;apply aO q3
  have EI:=EH.step Bt G1
  refine au EI.ns fun m₆ D7 _=>?_
  have ns:=Ns.noSeq D7
  refine wpAny_nameGoes hl D7 (by rw [F.kind];rfl) fun Ig m₇ H1 Ia=>?_
  have kp:∀ b o,b≠env.locals→IL.heap.get? b=some o→Ig.get? b=some o:=fun b o hb e=>Ia.extBut b o hb e
  have JN:cu (FM wi env) wi IL.heap wi Ig:=by
   refine ⟨fun b o e hb=>.inl (kp b o (fun q=>hb (.inr (.inl q))) e),fun b o e=>?_,[],by simp,fun _ hm=>nomatch hm⟩
   by_cases hb:b=env.locals
   ·refine jH H1 fun o' _ _ jU _=>?_
    exact ⟨o',hb ▸ jU⟩
   ·exact ⟨o,kp b o hb e⟩
  have By:cu (FM φ env) φ s.heap (ah++[D,ea]) Cs:=FM.trans (cu.ofSE jr env) (Bz.mono fun b hb=>by
   refine Or.elim hb (fun hb=>?_) (fun hb=>?_)
   ·exact .inr (.inl hb)
   ·exact .inr (.inr ⟨n,hb⟩))
  refine ⟨av,wi,rfl,FM.trans By (FM.trans (cu.ofSE G1 env) JN),JL.other EI.locN EI.locB kp ns,JT.stepT (fun _ _ e=>e) fun b o e zB hn=>⟨kp b o (by rintro rfl;exact ns o e zB) e,hn⟩,(X.T.trans ⟨rfl,rfl,rfl⟩).trans (JQ.trans ⟨rfl,rfl,rfl⟩)⟩
end
section
variable {g:G} {cx:cp} {fs:List Fn} {mg mb:Str→Option Value} {A:Around} {E:Value→Shared→Prop} {φ ah φ₀:List Addr} {σ σ₁ af:ag} {s s₁ s₀:Shared} {env:Env} {nm:List (Str×Nat)} {ρ ρ':aF} {call:ar} {d:Nat}
theorem VR.stepF {h h':Heap} {v:V} {a:Value} (F:dA g φ env nm ρ h) (S:cu (FM φ env) φ h ah h') (x:VR g φ h v a):VR g ah h' v a:=by
 refine x.stepT (fun n a e=>S.pre e) fun b o e hs hn=>⟨(S.pres b o e fun q=>?_).hard hs,S.notin e hn⟩
 rcases q with q | q | ⟨y,q⟩
 ·exact hn q
 ·subst q
  refine au F.ns fun m gF _=>?_
  exact Ns.noSeq gF o e hs
 ·refine aJ (F.cellF y b q) fun k1 _=>?_;refine Exists.elim k1 fun u hu=>?_
  exact yy.noSeq hu o e hs
theorem bq.stepF {h h':Heap} (F:dA g φ env nm ρ h) (S:cu (FM φ env) φ h ah h') {l:List V} {vs:List Value} (x:bq g φ h l vs):bq g ah h' l vs:=by
 induction vs generalizing l with
 | nil=>cases x;exact .nil
 | cons v vs ih=>cases x with | cons h1 h2=>exact .cons (h1.stepF F S) (ih h2)
structure I0 where
 g:G
 φ₀:List Addr
 s₀:Shared
 env:Env
 nm:List (Str×Nat)
 ys:List V
 vs:List Value
 wr:List Addr
 kp:List Addr
structure I1 (c:I0):Prop where
 wL:∀ b,b∈c.wr∨b∈c.kp→b≠c.env.locals
 wC:∀ b,b∈c.wr∨b∈c.kp→∀ x,c.env.cells.lookup x≠some b
 w0:∀ b∈c.wr,c.s₀.heap.get? b=none
structure FI (c:I0) (ρ:aF) (φ:List Addr) (h:Heap):Prop where
 S:cu (FM c.φ₀ c.env) c.φ₀ c.s₀.heap φ h
 F:dA c.g φ c.env c.nm ρ h
 ys:bq c.g φ h c.ys c.vs
 hn:∀ b,b∈c.wr∨b∈c.kp→b∉φ
section
variable {c:I0} {φ aI:List Addr} {h h':Heap}
theorem FI.mv (X:I1 c) (I:FI c ρ φ h) (M:Mv c.wr φ h h') (R':ak c.g φ σ h') (w:∀ b∈c.wr,fz h b):FI c ρ φ h' :=
 ⟨cu.mv I.S R' M (fun _ q=>.inl q) X.w0,I.F.mvN M w (fun q=>X.wL _ (.inl q) rfl) fun x b e q=>X.wC b (.inl q) x e,M.vrsT (fun b hb=>(w b hb).nt) I.ys,I.hn⟩
theorem FI.tgt {ns:List Str} (I:FI c ρ φ h) (S':cu (TM c.env ns) φ h φ h') (F':dA c.g φ c.env c.nm ρ' h') (up:∀ {v:V} {a:Value},VR c.g φ h v a→VR c.g φ h' v a):FI c ρ' φ h' :=
 ⟨FM.trans I.S (S'.mono fun b hb=>hb.fm),F',I.ys.upG up,I.hn⟩
theorem I1.nFM (X:I1 c) (hn:∀ b,b∈c.wr∨b∈c.kp→b∉φ) (b:Addr) (hb:b∈c.wr∨b∈c.kp):¬ FM φ c.env b:=fun q=>by
 rcases q with q | q | ⟨x,q⟩
 ·exact hn b hb q
 ·exact X.wL b hb q
 ·exact X.wC b hb x q
theorem FI.body (I:FI c ρ φ h) (S':cu (FM φ c.env) φ h aI h') (F':dA c.g aI c.env c.nm ρ' h') (lv:∀ b,b∈c.wr∨b∈c.kp→∃ o,h.get? b=some o):FI c ρ' aI h' :=
 ⟨FM.trans I.S S',F',bq.stepF I.F S' I.ys,fun b hb=>(lv b hb).elim fun o e=>S'.notin e (I.hn b hb)⟩
end
structure FT (c:I0) (m:aF→ag→Option (b8×aF×ag)) (t:ge) (w:List (Nat×aZ)) (xs:List V) (r:b8×aF×ag) (St:Nat→Heap→Prop) (n k:Nat) (φ:List Addr) (σ:ag) (ρ:aF) (s:Shared):Prop where
 I:FI c ρ φ s.heap
 T:bx c.s₀ s
 R:ak c.g φ σ s.heap
 st:St k s.heap
 hk:k≤xs.length
 n:n=xs.length - k
 hc:dP m t w (xs.drop k) ρ σ=some r
theorem Cd {aA:Expr} {body:List Stmt} {t:ge} {I:Addr} {xs ys:List V} {vs:List Value} {w:List (Nat×aZ)} {two:Bool} {wr kp:List Addr} {St:Nat→Heap→Prop} {ti:Nat→Value→Heap→Prop} {m:aF→ag→Option (b8×aF×ag)} {fl:b8} {oH:aF} {σe IY:ag} {Q:Result→Shared→Prop}
  (hA:gS A d) (K:FX g A env) (JK:ak g φ₀ IY s₀.heap) (JF:oa g φ₀ s₀.heap) (Ti:qK g A I xs w two ys vs wr kp St ti) (zF:qB two aA) (yo:eI env.scope nm aA=some t)
  (hb:jf g A env nm body m)
  (Nh:∀ b,b∈wr∨b∈kp→b≠env.locals) (Ng:∀ b,b∈wr∨b∈kp→∀ x,env.cells.lookup x≠some b) (oz:∀ b∈wr,s₀.heap.get? b=none) (hB:∀ b∈wr,g.B.get? b=none)
  (hc:dP m t w xs ρ σ=some (fl,oH,σe)) (Oi:∀ e s',uV False g φ₀ env s₀ fl σe e s'→Q (.error e) s')
  (S:cu (FM φ₀ env) φ₀ s₀.heap φ s.heap) (T:bx s₀ s) (R:ak g φ σ s.heap) (F:dA g φ env nm ρ s.heap) (h0:St 0 s.heap) (FP:bq g φ s.heap ys vs) (hn:∀ b,b∈wr∨b∈kp→b∉φ)
  (hQ:∀ f s',wj g φ₀ env nm s₀ fl oH σe f s'→Q (.ok f) s') :
  codeAny (model g.prog g.w) A (.forLoop aA (.ref I) body [] env) Q s:=by
 have X:I1 ⟨g,φ₀,s₀,env,nm,ys,vs,wr,kp⟩:=⟨Nh,Ng,oz⟩
 refine codeAny_forLoop_any (fun n s=>∃ k φ σ ρ,FT ⟨g,φ₀,s₀,env,nm,ys,vs,wr,kp⟩ m t w xs (fl,oH,σe) St n k φ σ ρ s) ?_ xs.length ⟨0,φ,σ,ρ,⟨S,F,FP,hn⟩,T,R,h0,Nat.zero_le _,rfl,hc⟩
 intro n s q
 refine Ja q fun k φ σ ρ Z=>Or.elim (Nat.lt_or_ge k xs.length) (fun bQ=>?_) (fun jk=>?_)
 ·have hc:=Z.hc
  rw [List.drop_eq_getElem_cons bQ] at hc
  refine jz hc fun hw hc=>aK hc fun ρ' FE hc=>?_
  refine Ti.item k φ σ s _ _ xs[k] Z.st Z.R Z.I.ys hw Z.I.hn hB (List.getElem?_eq_getElem bQ) fun a bg lU tj al aV nK=>?_
  have py:=Z.I.mv X tj al (Ti.wrN k _ Z.st)
  refine Ti.go aA zF k φ σ a _ _ _ nK al Z.I.hn hB fun jc yB ba sN=>?_
  have Be:=Ti.wrM k a _ nK
  have yz:=py.mv X yB ba Be
  refine qD (s:={s with heap:=jc,toks:=lU}) hA.handled yo FE ba yz.F (yB.vrT (fun b hb=>(Be b hb).nt) aV) fun eg n6 fY fX lV sR=>?_
  have wl:=yz.tgt fY lV sR
  have nZ:St (k+1) eg:=Ti.frame _ _ _ sN fun b hb o e=>Ti.kp sN hb e (fY.pres b o e fun q=>Or.elim q (Nh b hb) fun q=>au q fun x _ q=>Ng b hb x q)
  have pC:bx s₀ {s with heap:=eg,toks:=n6}:=Z.T.trans ⟨rfl,rfl,rfl⟩
  refine Or.elim (fw hc) (fun q=>fv q fun bA bB zr hc=>?_) (fun q=>aJ q fun hc eM=>?_)
  ·refine wpAny_mono (hb ρ' σ .next bA bB zr φ {s with heap:=eg,toks:=n6} fX lV _ fun e s' X=>X.elim) (fun f uB hf=>?_) fun _ _ x=>x
   refine aJ hf fun q hf=>?_
   rw [q]
   refine ym hf fun Bg jr pz yx EM=>?_
   exact ⟨xs.length - (k+1),by rw [Z.n];exact Nat.sub_lt_sub_left bQ (Nat.lt_succ_self k),k+1,Bg,bB,bA,wl.body jr yx (Ti.live nZ),pC.trans EM,pz,Ti.frame _ _ _ nZ fun b hb o e=>Ti.kp nZ hb e (jr.pres b o e (X.nFM Z.I.hn b hb)),bQ,rfl,hc⟩
  ·refine wpAny_mono (hb ρ' σ fl oH σe hc φ {s with heap:=eg,toks:=n6} fX lV _ fun e s' X=>uV.note K (uV.after wl.S pC JK JF X) fun kY X'=>Oi e kY X') (fun f uB hf=>?_) fun _ _ x=>x
   cases fl with
   | next=>exact absurd rfl eM
   | ret v =>
    have wQ:=wj.after wl.S pC hf
    refine fv hf fun a' aI q3 r=>?_
    rw [q3] at wQ ⊢
    exact hQ _ _ wQ
   | exc c w=>exact hf.elim
 ·have tc:k=xs.length:=Nat.le_antisymm Z.hk jk
  have hc:=Z.hc
  have st:=Z.st
  rw [tc,List.drop_length] at hc
  rw [tc] at st
  refine jz hc fun hw hc=>?_
  refine Ti.done φ _ s _ _ st Z.R Z.I.ys hw Z.I.hn hB fun bg lU tj al=>?_
  have py:=Z.I.mv X tj al (Ti.wrN _ _ st)
  refine wpAny_execs_nil (hQ _ _ ?_)
  apply dS hc
  exact ⟨rfl,φ,py.S,al,py.F,Z.T.trans ⟨rfl,rfl,rfl⟩⟩
theorem C5 {aA cR:Expr} {body:List Stmt} {pos:Pos} {t:ge} {it:gd} {b:fu} {two:Bool} (hA:gS A d) (K:FX g A env) (hs:∀ x,foldedSetIterable cR env x=pure x) (zF:qB two aA) (yo:eI env.scope nm aA=some t) (OO:gG g A env nm cR (Cb call it))
  (hi:kq g A env nm cR two (cm call it)) (hb:jf g A env nm body (aB call b)):ja g A env nm (.For aA cR body [] pos) (be call (.for_ t it b)):=by
 intro ρ σ fl ρ' af h φ s R F E hE
 have Mf:∀ xs w σ₁,cm call it ρ σ=some (xs,w,σ₁)→dP (aB call b) t w xs ρ σ₁=some (fl,ρ',af)→wpAny (model g.prog g.w) A (exec (.For aA cR body [] pos) env) (wj g φ env nm s fl ρ' af) E s:=fun xs w σ₁ h1 h2=>by
  refine wpAny_For (wpAny_mono (hi ρ σ xs w σ₁ h1 φ s R F E) (fun xv s₁ hp=>?_) fun _ _ x=>x) hs
  refine ym hp fun aI fM al od mk=>?_
  refine mk E _ fun I ys vs wr kp St ti h' Ti kf hk FP oz hn hB=>?_
  have aP:=F.step R fM
  have DG:SE aI s₁.heap aI h':=SE.keeps _ hk
  have dH:=aP.step al DG
  refine Cd (s₀:=s) (φ₀:=φ) (s:={s₁ with heap:=h'}) hA K R F.stk Ti zF yo hb ?_ ?_ oz hB h2 (fun e s' X=>X.back fun kY X'=>hE e kY X') (cu.ofSE (fM.trans DG) env) (od.trans ⟨rfl,rfl,rfl⟩) (al.keeps hk) dH kf FP hn fun f s' hf=>hf
  ·rintro b hb rfl
   refine Or.elim hb (fun hb=>?_) (fun hb=>?_)
   ·refine au F.ns fun m' k3 _=>?_;refine jH k3 fun o _ _ ho _=>?_
    rw [oz _ hb] at ho;cases ho
   ·refine jH (Ti.kpN _ _ kf _ hb) fun o' bn n' e' jI=>?_
    refine au dH.ns fun m' gF _=>?_
    refine qL gF fun o2 es2 ep2 H2 Fk _=>?_
    rw [e'] at H2;cases H2
    exact nomatch jI.symm.trans Fk
  ·intro b hb x e
   refine Or.elim hb (fun hb=>?_) (fun hb=>?_)
   ·refine aJ (F.cellF x b e) fun k4 _=>?_;refine fv k4 fun u o ho _=>?_
    rw [oz _ hb] at ho;cases ho
   ·refine jH (Ti.kpN _ _ kf _ hb) fun o' bn n' e' jI=>?_
    refine aJ (dH.cellF x b e) fun k5 _=>?_;refine Exists.elim k5 fun u hu=>?_
    refine au hu fun o2 H2 Fk=>?_
    rw [e'] at H2;cases H2
    exact nomatch jI.symm.trans Fk
 rw [mS] at h
 rcases dJ h with h | ⟨c,w,rfl,rfl,hx⟩
 rotate_left
 ·exact wpAny_For (OO _ σ c w af hx φ s R F _ E fun ea aI s' X=>hE _ _ (X.stm K)) hs
 refine il h fun xs w σ₁ h1 h2=>?_
 exact Mf xs w σ₁ h1 h2
theorem xK {t:Expr} {body:List Stmt} {pos:Pos} {c:CE} {b:fu} (K:FX g A env) (ht:dU g A env nm t (bu call c)) (hb:jf g A env nm body (aB call b)):ja g A env nm (.While t body [] pos) (be call (.while_ c b)):=by
 intro ρ σ fl ρ' af h φ s R F E hE
 replace h:fK (bu call c) (aB call b) gz ρ σ=some (fl,ρ',af):=h
 generalize gz=n at h
 refine wpAny_While (codeAny_whileLoop (fun n s'=>∃ aI cb σ₁,cu (FM φ env) φ s.heap aI s'.heap∧bx s s'∧ak g aI σ₁ s'.heap∧dA g aI env nm cb s'.heap∧fK (bu call c) (aB call b) n cb σ₁=some (fl,ρ',af)) ?_ n ⟨φ,ρ,σ,cu.refl _ _ _,bx.refl _,R,F,h⟩)
 rintro n s₁ ⟨ah,cb,σ₁,fM,od,al,aP,bg⟩
 cases n with
 | zero=>exact no bg
 | succ n =>
  refine bo bg fun p ae zE bg=>?_
  refine ht.bind zE al aP fun cw cr cM fh ba dH=>?_
  cases p with
  | false =>
   apply dS bg
   exact wpAny_execs_nil ⟨rfl,cr,FM.trans fM (cu.ofSE cM env),ba,dH,od.trans fh⟩
  | true =>
   have pB:=FM.trans fM (cu.ofSE cM env)
   refine Or.elim (fw bg) (fun q=>fv q fun EE bb zr bg=>?_) (fun q=>aJ q fun bg eM=>?_)
   ·refine wpAny_mono (hb cb ae .next EE bb zr cr cw ba dH _ fun e s' X=>X.elim) (fun f gw hf=>?_) fun _ _ x=>x
    obtain ⟨rfl,n8,fY,fX,lV,pC⟩:=hf
    exact ⟨n,Nat.lt_succ_self _,n8,EE,bb,FM.trans pB fY,(od.trans fh).trans pC,fX,lV,bg⟩
   ·refine wpAny_mono (hb cb ae fl ρ' af bg cr cw ba dH _ fun e s' X=>uV.note K (uV.after pB (od.trans fh) R F.stk X) fun kY X'=>X'.back fun s3 X2=>hE e s3 X2) (fun f gw hf=>?_) fun _ _ x=>x
    cases fl with
    | next=>exact absurd rfl eM
    | ret v =>
     have wQ:=wj.after pB (od.trans fh) hf
     refine fv hf fun a' aI q3 r=>?_;subst q3
     exact wQ
    | exc c w=>exact hf.elim
theorem IJ {ts:List Expr} {k:Nat} {p:Pos} {v:Expr} {ln:Nat} {n:Nat} {sc:Scope} {nx:Nat} {c:CE} (hc:bI cx n sc nm nx v=some c):swapsWithSole [.Tuple ts k p] v ln env=pure false:=by
 cases v with
 | SetComp a b c d=>cases n <;> exact no hc
 | DictComp a b c d e=>cases n <;> exact no hc
 | _=>rfl
theorem II {o i:Expr} {p:Pos} {v:Expr} {ln:Nat}:swapsWith v (some (.Subscript o i p)) ln env=pure false:=by
 cases v <;> rfl
theorem IK {ts:List Expr} {k:Nat} {p:Pos} {v:Expr} (h:¬ t6 v=true):swappedStores [.Tuple ts k p] v env=pure none:=by
 cases v with
 | Tuple a b c=>exact (h rfl).elim
 | _=>rfl
theorem AB (hA:gS A d) (G:eH g cx fs mg mb) (hC:pA g A fs call) (hX:mD g A fs call) {env:Env} (K:FX g A env) {nm:List (Str×Nat)} {nx n:Nat} {x:Str} {p pos:Pos} {v:Expr} {t:ge} {a:CE} (ht:eI env.scope nm (.Name x p)=some t) (ha:bI cx n env.scope nm nx v=some a) :
  ja g A env nm (.Assign [.Name x p] v pos) (be call (.assign t a)):=by
 have ih:=(kc (cx:=cx) hA G hC n env nm nx v a ha).1
 have te:=nT (cx:=cx) hA G hC hX n env nm nx v a ha
 by_cases hv:∃ a b c d,v=.ListComp a b c d
 ·refine Ja hv fun elt oq scope jR q5=>?_;subst q5
  cases n with
  | zero=>exact no ha
  | succ n =>
   have GI:∃ b,swapsWith (.ListComp elt oq scope jR) (some (.Name x p)) pos.line env=pure b:=⟨_,rfl⟩
   refine Exists.elim GI fun b GI=>?_
   cases b with
   | false=>exact nU hA ht GI K te ih
   | true =>
    refine kj (q8 ha) fun aA cR gc it t' LY=>?_;refine J9 LY fun cs c' k7 hok hit Jm gb dG LZ=>?_;refine aJ LZ fun Ea k8=>?_;apply aO k7;apply aO k8
    have jE:=kc (cx:=cx) hA G hC n
    refine sr hA ht GI (oU hok) (kK hit) (qC Ea Jm) (sB hA G hC n env nm nx cR it hit) Jm (fun e' wO=>?_) gb fun e' wO e c h=>?_
    ·rw [←wO] at dG;exact (jE _ _ _ _ _ dG).1
    ·rw [←wO] at h;exact (jE _ _ _ _ _ h).2
 ·exact nU hA ht (uA (fun a b c d e=>hv ⟨a,b,c,d,e⟩) ha) K te ih
theorem tC {c:CE} {r:CS} (h:DP c=some r):∃ m o as,c=.meth m o as∧m.isStep=true∧r=.expr (.meth m o as):=by
 cases c with
 | meth m o as=>exact ⟨m,o,as,rfl,(cJ h).1,(sm (cJ h).2).symm⟩
 | _=>exact no h
theorem fx {S:Stmt→Option CS} (ih:∀ st c,S st=some c→ja g A env nm st (be call c)):∀ {ss:List Stmt} {c:fu},cN S ss=some c→jf g A env nm ss (aB call c)
 | [],c,h=>by apply db h;exact C9
 | st::r,c,h=>by
  refine aK h fun a ha h=>?_
  refine aK h fun b hb h=>?_
  apply db h
  exact AF (ih _ _ ha) (fx ih hb)
theorem xJ (hA:gS A d) (G:eH g cx fs mg mb) (hC:pA g A fs call) (hX:mD g A fs call) (hQ:∀ ea,∀ k∈cx.calm,oJ g (A.mark (some (.ref ea))) fs call k) (env:Env) (K:FX g A env) (nm:List (Str×Nat)) (nx:Nat) (hk:env.scope.kind=.function):∀ n st c,oQ cx env.scope nm nx n st=some c→ja g A env nm st (be call c):=by
 intro n
 induction n with
 | zero=>exact fun st c h=>no h
 | succ n ih =>
  have GL:=kc (cx:=cx) hA G hC n env nm nx
  have cG:∀ {e c},bI cx n env.scope nm nx e=some c→aE g A env nm e (ab call c):=fun h=>(GL _ _ h).1
  have te:∀ {e c},bI cx n env.scope nm nx e=some c→gG g A env nm e (b9 call c):=fun h=>nT (cx:=cx) hA G hC hX n env nm nx _ _ h
  intro st
  show Gd (fun c=>ja g A env nm st (be call c)) (yY (bI cx n env.scope nm nx) (q7 cx n env.scope nm nx) (cN (oQ cx env.scope nm nx n)) (cN (Bj cx env.scope nm n)) env.scope nm st)
  cases st with
  | Assign ts v pos =>
   refine aj fun t ht=>?_
   apply aO (b7 ht)
   cases t with
   | Name x p=>exact aj (m:=eI env.scope nm (.Name x p)) (k:=fun t=>(bI cx n env.scope nm nx v).bind fun a=>some (CS.assign t a)) fun t ht=>aj fun a ha=>aD (AB hA G hC hX K ht ha)
   | Tuple ts k p=>exact ni (b:=t6 v=true) (x:=(eI env.scope nm (.Tuple ts k p)).bind fun t=>(bI cx n env.scope nm nx v).bind fun a=>some (CS.assign t a)) fun Lh=>aj fun t ht=>aj fun a ha=>aD (su hA ht (IJ ha) (IK Lh) K (te ha) (cG ha))
   | Subscript o i p=>exact aj (m:=bI cx n env.scope nm nx o) (k:=fun a=>(bI cx n env.scope nm nx i).bind fun b=>(bI cx n env.scope nm nx v).bind fun c=>some (CS.setItem a b c)) fun a ha=>aj fun b hb=>aj fun c' dG=>aD (sE II (cG ha) (cG hb) (cG dG))
   | _=>exact du
  | Expr e pos =>
   cases e with
   | Call fn as ks p =>
    refine aj fun a ha c h=>?_
    refine qL (tC h) fun m o as' q4 hm q6=>?_;subst q4 q6
    exact AH hm hk rfl K (te ha) (cG ha)
   | _=>exact du
  | If t a b pos=>exact aj fun x hx=>aj fun y hy=>aj fun z hz=>aD (Gi (GL _ _ hx).2 (fx ih hy) (fx ih hz))
  | For t it body iJ pos =>
   refine cI fun ho=>aj fun x hx=>aj fun y hy=>aj fun z hz=>cI fun Ea=>aD ?_
   apply aO (List.isEmpty_iff.mp ho)
   exact C5 hA K (kK hy) (qC Ea hx) hx (xC hA G hC hX n env nm nx _ _ hy) (sB hA G hC n env nm nx _ _ hy) (fx ih hz)
  | While t body iJ pos =>
   refine cI fun ho=>aj fun x hx=>aj fun z hz=>aD ?_
   apply aO (List.isEmpty_iff.mp ho)
   exact xK K (GL _ _ hx).2 (fx ih hz)
  | Return v pos =>
   refine aj fun e he=>aj fun c' dG=>aD ?_
   apply aO he
   exact Db K (te dG) (cG dG)
  | Raise exc DQ pos =>
   refine cI fun KB=>aj fun p hr=>cI fun hg=>aj fun k tc=>cI fun Fw=>aj fun a ha=>aD ?_
   obtain ⟨x,e⟩:=p
   refine oZ (qo hr) fun p q q3=>?_;apply aO q3
   apply aO (Option.isNone_iff_eq_none.mp KB)
   exact xH hA G K hg tc (by simpa using Fw) (yS ha) (cG ha)
  | Try body hs iJ l7 pos =>
   refine cI fun ho=>aj fun q hh=>cI fun hc=>aj fun i hi=>aj fun st gV=>aj fun e he=>aj fun a ha=>aj fun y hy=>aD ?_
   obtain ⟨x,nn,lQ⟩:=q
   simp only [Bool.and_eq_true,beq_iff_eq,Bool.not_eq_true'] at hc ho
   refine aJ hc fun L5 hl=>?_;refine aJ L5 fun Io eM=>?_;refine aJ Io fun hg PB=>?_;subst PB
   apply aO (List.isEmpty_iff.mp ho.1)
   apply aO (List.isEmpty_iff.mp ho.2)
   apply aO (b7 gV)
   refine Exists.elim (xp he) fun rp q2=>?_;apply aO q2
   refine oZ (rD hh) fun tp hp q3=>?_;apply aO q3
   cases lQ with
   | nil=>cases eM
   | cons wy lQ=>exact Df G K hg hl (cJ hi).2 (te ha) (cG ha) fun ea=>fJ (nW G (hQ ea) env nm n) hy
  | _=>exact du
end
theorem oN {k:Str→Option NameKind} {x:Str} (hk:k x=some .cell):∀ (b:List (Str×Value)) (m:Str→Option Value),(b.map (·.1)).Nodup→bindC k b m x=match b.lookup x with | some v=>some v | none=>m x
 | [],m,_=>rfl
 | (n,v)::r,m,hn=>by
  have jl:=List.nodup_cons.mp hn
  unfold bindC
  rw [oN hk r _ jl.2,List.lookup_cons]
  cases hb:x==n with
  | true =>
   have:x=n:=by simpa using hb
   subst this
   have hr:r.lookup x=none:=by
    cases q:r.lookup x with
    | none=>rfl
    | some y=>exact absurd (List.mem_map_of_mem (f:=(·.1)) (mem_of_lookup q)) jl.1
   rw [hr,if_neg (by rw [hk];decide)];simp
  | false =>
   have eM:x≠n:=by simpa using hb
   cases q:r.lookup x with
   | some y=>rfl
   | none =>
    by_cases Fx:k n=some .local
    ·rw [if_pos Fx]
    ·rw [if_neg Fx];simp [eM]
theorem wf {α:Type}:∀ {l:List Str} {vs:List α} {i:Nat} {x:Str} {v:α},l.Nodup→l[i]? = some x→vs[i]? = some v→(l.zip vs).lookup x=some v
 | [],_,_,_,_,_,h,_=>by simp at h
 | a::l,[],_,_,_,_,_,h=>by simp at h
 | a::l,b::vs,0,x,v,_,h1,h2=>by
  simp at h1 h2;apply aO h1;apply aO h2
  simp
 | a::l,b::vs,i+1,x,v,hn,h1,h2=>by
  have jl:=List.nodup_cons.mp hn
  simp only [List.getElem?_cons_succ] at h1 h2
  rw [List.zip_cons_cons,List.lookup_cons]
  have:(x==a)=false:=by
   simp only [beq_eq_false_iff_ne,ne_eq];rintro rfl;exact jl.1 (List.mem_of_getElem? h1)
  rw [this]
  exact wf jl.2 h1 h2
structure uQ (cx:cp) (fn:Fn) (cf:aS) (as:List Arg) (b:fu):Prop where
 params:fn.params=⟨[],as,none,[],[],none,[]⟩
 kind:fn.scope.kind=.function
 gen:fn.scope.isGenerator=false
 cor:fn.scope.isCoroutine=false
 uniq:∀ n k,(n,k)∈fn.scope.names→fn.scope.names.lookup n=some k
 kinds:∀ n k,(n,k)∈fn.scope.names→k=.local∨k=.cell∨k=.globalImplicit
 nodup:((cP fn.scope).map (·.1)).Nodup
 pre:as.map (·.arg)=((cP fn.scope).map (·.1)).take as.length
 body:cN (oQ cx fn.scope (cP fn.scope) (cP fn.scope).length 200) fn.body=some b
 cf:cf=⟨as.length,b⟩
theorem iK {p:Arguments} (h:dD p=true):p=⟨[],p.args,none,[],[],none,[]⟩:=by
 obtain ⟨a,b,c,d,e,f,g⟩:=p
 simp only [dD,Bool.and_eq_true,List.isEmpty_iff,Option.isNone_iff_eq_none] at h
 refine aJ h fun k2 k3=>?_;refine aJ k2 fun k6 k7=>?_;refine aJ k6 fun Cv Cw=>?_;obtain ⟨⟨rfl,rfl⟩,rfl⟩:=Cv;apply aO Cw;apply aO k7;apply aO k3
 rfl
theorem ng {cx:cp} {fn:Fn} {cf:aS} (h:tB cx fn.params fn.scope fn.body=some cf):∃ as b,uQ cx fn cf as b:=by
 refine dv h fun hc h=>?_
 refine aK h fun b hb h=>?_
 apply db h
 simp only [Bool.and_eq_true,beq_iff_eq,Bool.not_eq_true',List.all_eq_true,Bool.or_eq_true,decide_eq_true_eq] at hc
 refine aJ hc fun k4 h6=>?_;refine aJ k4 fun k8 h5=>?_;refine aJ k8 fun Cx h4=>?_;obtain ⟨⟨⟨h0,h1⟩,h2⟩,h3⟩:=Cx
 refine ⟨fn.params.args,b,iK h0,h1,h2,h3,fun n k hm=>(h4 (n,k) hm).1,fun n k hm=>?_,h6,h5,hb,rfl⟩
 rcases (h4 (n,k) hm).2 with (h | h) | h
 ·exact .inl h
 ·exact .inr (.inl h)
 ·exact .inr (.inr h)
theorem gm {sc:Scope} {x:Str} {i:Nat} (h:(cP sc).lookup x=some i):((cP sc).map (·.1))[i]? = some x∧∃ k,(x,k)∈sc.names∧(k=.local∨k=.cell):=by
 unfold cP at h ⊢
 have h1:=gR h
 simp only [Nat.zero_le,Nat.sub_zero,true_and] at h1
 refine ⟨by simpa using h1,?_⟩
 have hm:=List.mem_of_getElem? h1
 rw [List.mem_map] at hm
 refine au hm fun k1 wU k2=>?_;obtain ⟨n,k⟩:=k1;subst k2
 refine aJ (List.mem_filter.mp wU) fun h2 h3=>?_
 simp only [Bool.or_eq_true,beq_iff_eq] at h3
 exact ⟨k,h2,h3⟩
noncomputable abbrev G.on (g:G) (l:List Env):G:={g with fr:=l}
section
variable {g:G} {l l':List Env} {φ:List Addr} {h:Heap} {σ:ag} {cx:cp} {fs:List Fn} {mg mb:Str→Option Value}
theorem bq.on {vs:List V} {as:List Value} (x:bq (g.on l') φ h vs as):bq (g.on l) φ h vs as :=
 bq.rec (g:=g.on l') (motive_1:=fun v a _=>VR (g.on l) φ h v a) (motive_2:=fun vs as _=>bq (g.on l) φ h vs as) .none .bool .int .str (fun h1 h2 _ h4 ih=>.tup h1 h2 ih h4) .ref (fun h1 h2 h3=>VR.ro (g:=g.on l) h1 h2 h3) .nil (fun _ _ i1 i2=>.cons i1 i2) x
theorem VR.on {v:V} {a:Value} (x:VR (g.on l') φ h v a):VR (g.on l) φ h v a:=by
 cases bq.on (l:=l) (.cons x .nil) with
 | cons h _=>exact h
theorem MR.on {m:aZ} {a:Addr} (x:MR (g.on l') φ h m a):MR (g.on l) φ h m a:=by
 apply MR.el x
 case lst=>intro _ _ hl hz hv;exact .lst hl hz hv.on
 case own=>intro _ _ ho;exact .own ho
 case wd=>intro _ _ _ hn hw;exact .wd hn hw
 case exn=>intro _ _ _ _ _ ho h1 h2 h3 h4;exact .exn ho h1 h2 h3 h4
 case tab=>intro _ _ ho ht hc;exact .tab ho ht hc
theorem ak.on (R:ak (g.on l') φ σ h):ak (g.on l) φ σ h:=⟨R.base,R.fresh,R.len,R.nodup,fun i a m h1 h2=>(R.objs i a m h1 h2).on,R.tabs⟩
theorem eH.on (G:eH g cx fs mg mb):eH (g.on l) cx fs mg mb:=⟨G.gns,G.bns,G.nolimit,G.sys,G.prims,G.consts,G.names,G.made,G.bmain,⟨G.exc.n0,G.exc.n1,G.exc.n2,G.exc.c0,G.exc.c1,G.exc.c2,G.exc.ap⟩,G.tab⟩
theorem kt.on {aW:Heap} {U:Prop} {P:Value→Prop} {e:Addr} {c:Nat} {w:Str} (X:kt (g.on l') φ σ aW h U P e c w) (hs:∀ f∈l,f∈l'):kt (g.on l) φ σ aW h U P e c w :=
 ⟨ak.on (l:=l) X.R,fun f hf=>X.FS f (hs f hf),fun f hf=>X.F0 f (hs f hf),X.dom,X.B0,⟨X.X.ex,X.X.e0,X.X.eφ,X.X.eB⟩⟩
end
section
variable {g:G} {cx:cp} {fs:List Fn} {mg mb:Str→Option Value} {P:List aS}
structure Gu (A:Around) (d:Nat):Prop where
 depth:A.depth+d≤600
 units:A.units+3 * d≤9000
theorem Gu.deeper {A:Around} {d:Nat} (h:Gu A (d+1)) (env:Env):Gu (A.deeper env) d:=by
 refine ⟨?_,?_⟩
 ·have:=h.depth
  show A.depth+1+d≤600
  exact l2 0xc02589a1a18010b02589aa1810 rfl this
 ·have:=h.units
  show A.units+3+3 * d≤9000
  lia
theorem gS.room {A:Around} {d:Nat} (h:gS A d):Gu A d:=⟨h.depth,h.units⟩
theorem wN {fn:Fn} {cf:aS} {as:List Arg} {b:fu} (O:uQ cx fn cf as b) {a:Addr} {pm cd doc:Value} {φ:List Addr} {σ:ag} {s s₁:Shared} {vs:List V} {cF:List Value} (R:ak g φ σ s.heap) (hv:bq g φ s.heap vs cF) (hl:vs.length=as.length) (LB:G2 g (callEnvC (docDef fn.name fn.params fn.body fn.scope pm cd doc) s.heap.objs.size a)) (FN:oa g φ s₁.heap)
  (x:InCallC s (callEnvC (docDef fn.name fn.params fn.body fn.scope pm cd doc) s.heap.objs.size a).locals (bindL (callEnvC (docDef fn.name fn.params fn.body fn.scope pm cd doc) s.heap.objs.size a).kindOf ((as.map (·.arg)).zip cF) fun _=>none)
   (callEnvC (docDef fn.name fn.params fn.body fn.scope pm cd doc) s.heap.objs.size a).cells (bindC (callEnvC (docDef fn.name fn.params fn.body fn.scope pm cd doc) s.heap.objs.size a).kindOf ((as.map (·.arg)).zip cF) fun _=>none) s₁) :
  dA g φ (callEnvC (docDef fn.name fn.params fn.body fn.scope pm cd doc) s.heap.objs.size a) (cP fn.scope) (cz vs) s₁.heap:=by
 have hk:=x.toInCall.keep
 have S:SE φ s.heap φ s₁.heap:=SE.keeps _ hk
 have FA:vs.length=cF.length:=hv.length
 have yp:(((as.map (·.arg)).zip cF).map (·.1)).Nodup:=by
  rw [List.map_fst_zip (by simp;exact Nat.le_trans (Nat.le_of_eq hl.symm) (Nat.le_of_eq FA)),O.pre]
  exact O.nodup.sublist (List.take_sublist _ _)
 have FC:(as.map (·.arg)).Nodup:=by rw [O.pre];exact O.nodup.sublist (List.take_sublist _ _)
 have bound:∀ {x i v},(cP fn.scope).lookup x=some i→cz vs i=some v→∃ av,((as.map (·.arg)).zip cF).lookup x=some av∧VR g φ s₁.heap v av:=fun {x i v} hx hi=>by
  refine aJ (gm hx) fun h1 _=>?_
  refine au (hv.get hi) fun av h2 h3=>?_
  have jA:i<vs.length:=(List.getElem?_eq_some_iff.mp hi).1
  refine ⟨av,wf FC ?_ h2,h3.step R S⟩
  rw [O.pre,List.getElem?_take,if_pos (Nat.lt_of_lt_of_le jA (Nat.le_of_eq hl))]
  exact h1
 have EX:∀ {y c},(cellsFrom (s.heap.objs.size+1) fn.scope.names []).lookup y=some c→s.heap.objs.size<c:=fun {y c} e=>x.above y c (mem_of_lookup e)
 refine ⟨O.kind,rfl,rfl,⟨_,x.toInCall.ns,?_⟩,?_,a0 R (aC _),a7 R (aC _),?_,?_,?_,fun _=>LB,FN⟩
 ·intro y i v hy qe rG
  refine au (bound hy rG) fun av h1 h2=>?_
  refine ⟨av,?_,h2⟩
  rw [iT qe _ _ yp,h1]
 ·intro y i hy qe
  obtain ⟨_,k,hm,wR⟩:=gm hy
  have Fw:=O.uniq y k hm
  have zs:k=.cell:=by
   refine Or.elim wR (fun q=>?_) (fun q=>?_)
   ·subst q
    refine Or.elim qe (fun r=>?_) (fun r=>?_)
    ·have r':fn.scope.names.lookup y=some .cell:=r
     rw [Fw] at r';cases r'
    ·have r':fn.scope.names.lookup y=some .free:=r
     rw [Fw] at r';cases r'
   ·exact q
  subst zs
  refine Exists.elim (dk fn.scope.names (s.heap.objs.size+1) hm) fun c hc=>?_
  refine Exists.elim (ci hc) fun c' dG=>?_
  refine ⟨c',_,dG,x.cell y c' dG,fun v rG=>?_⟩
  refine au (bound hy rG) fun av h1 h2=>?_
  refine ⟨av,?_,h2⟩
  rw [oN (by exact Fw) _ _ yp,h1]
 ·intro y c e
  have:=EX e
  have hf:s.heap.get? c=none:=ne (Nat.le_of_lt this)
  exact ⟨⟨_,x.cell y c e⟩,a0 R hf,Nat.ne_of_gt this,a7 R hf⟩
 ·intro y z c e1 e2
  exact name_of_addr x.apart (mem_of_lookup e1) (mem_of_lookup e2)
 ·intro y z i e1 e2
  refine aJ (gm e1) fun h1 _=>?_
  refine aJ (gm e2) fun h2 _=>?_
  rw [h1] at h2;exact Option.some.inj h2
structure NA (g:G) (l:List Env) (fn:Fn) (φ:List Addr) (σ:ag) (vs:List V) (s:Shared) (env:Env) (s₁:Shared):Prop where
 F:dA (g.on (env::l)) φ env (cP fn.scope) (cz vs) s₁.heap
 R:ak (g.on (env::l)) φ σ s₁.heap
 S:SE φ s.heap φ s₁.heap
 T:bx s s₁
 back:∀ {aI:List Addr} {h':Heap},cu (FM φ env) φ s₁.heap aI h'→SE φ s.heap aI h'
 scope:env.scope=fn.scope
 frame:env.frame=some env.locals
theorem nh {fn:Fn} {cf:aS} {as:List Arg} {b:fu} {l:List Env} {A:Around} {d k:Nat} {vs:List V} {φ:List Addr} {σ:ag} {s:Shared} {cF:List Value} {Q:Value→Shared→Prop} {E:Value→Shared→Prop} (G:eH g cx fs mg mb) (O:uQ cx fn cf as b) (jT:fs[k]? = some fn) (hA:Gu A (d+1)) (hlen:vs.length=as.length)
  (R:ak (g.on l) φ σ s.heap) (FS:oa (g.on l) φ s.heap) (hv:bq (g.on l) φ s.heap vs cF)
  (h:∀ env s₁,NA g l fn φ σ vs s env s₁→wpAny (model g.prog g.w) (A.deeper env) (execs fn.body env) (fun f s'=>Q (match f with | .ret v=>v | _=>.none) s') (fun e s'=>wpAny (model g.prog g.w) (A.deeper env) (leaving env e) (fun _ kY=>E e kY) (fun e' kY=>E e' kY) s') s₁) :
  wpAny (model g.prog g.w) A (PySem.call (.ref fn.addr) cF) Q E s:=by
 obtain ⟨hm,o,pm,cd,doc,ho,hd,kL⟩:=G.made fn (List.mem_of_getElem? jT)
 have tW:s.heap.NoLimit:=G.nolimit.keeps R.base
 have FA:cF.length=as.length:=by rw [←hv.length];exact hlen
 have FC:(as.map (·.arg)).Nodup:=by rw [O.pre];exact O.nodup.sublist (List.take_sublist _ _)
 have rF:A.depth<recursionLimit:=by
  have h1:=hA.depth
  have:600<recursionLimit:=by decide
  exact l3 0x1c2010b02589aa181011b202589 rfl h1 this
 refine wpAny_call (codeAny_call_cells (body:=fn.body) (binds:=(as.map (·.arg)).zip cF) rF (R.base _ _ ho) hd tW (kL.keeps R.base) rfl (js O.params rfl cF FA FC) rfl ?_ (fun s₁ x=>?_) O.cor O.gen O.kind)
 ·intro y hy
  have tX:y.1∈as.map (·.arg):=(List.of_mem_zip hy).1
  rw [O.pre] at tX
  have HW:y.1∈(cP fn.scope).map (·.1):=List.mem_of_mem_take tX
  refine au (List.mem_map.mp HW) fun k6 wU e=>?_;obtain ⟨n,i⟩:=k6
  refine Exists.elim (ci wU) fun i' jA=>?_
  have e':n=y.1:=e
  rw [e'] at jA
  obtain ⟨_,kk,K0,Fw⟩:=gm jA
  refine Or.elim Fw (fun q=>?_) (fun q=>?_)
  ·subst q;exact .inl (O.uniq _ _ K0)
  ·subst q
   refine .inr ⟨O.uniq _ _ K0,?_⟩
   refine Exists.elim (dk fn.scope.names (s.heap.objs.size+1) K0) fun c hc=>?_
   refine Exists.elim (ci hc) fun c' dG=>?_
   show ((cellsFrom (s.heap.objs.size+1) fn.scope.names []).lookup y.1).isSome=true
   rw [dG];rfl
 ·have hk:=x.toInCall.keep
  have fM:SE φ s.heap φ s₁.heap:=SE.keeps _ hk
  refine oZ x.toInCall.same fun bg lU zA=>?_
  have od:bx s s₁:=by rw [zA];exact ⟨rfl,rfl,rfl⟩
  have FN:oa (g.on ((callEnvC (docDef fn.name fn.params fn.body fn.scope pm cd doc) s.heap.objs.size fn.addr)::l)) φ s₁.heap:=fun f hf=>by
   rcases List.mem_cons.mp hf with rfl | hf
   ·refine qL x.toInCall.ns fun o' es ep jU jI _=>?_
    refine ⟨?_,_,o',es,ep,rfl,jU,jI,a0 R (aC _),a7 (g:=g.on l) R (aC _)⟩
    show fn.scope.kind≠.module
    rw [O.kind];decide
   ·obtain ⟨k1,L,o',es,ep,k2,k3,k4,k5,k6⟩:=FS f hf
    exact ⟨k1,L,o',es,ep,k2,hk _ _ k3,k4,k5,k6⟩
  refine h _ s₁ ⟨wN O (ak.on (l:=_) R) (bq.on hv) hlen (G.tab fn (List.mem_of_getElem? jT) o _ ho hd) FN x,ak.on (l:=_) (R.keeps hk),fM,od,fun cM=>?_,rfl,rfl⟩
  refine cu.trans fM cM (fun _ _ _ hb=>hb) fun b o e hb q=>?_
  rcases q with q | q | ⟨y,q⟩
  ·exact hb q
  ·have q':b=s.heap.objs.size:=q
   exact absurd (Heap.lt_size e) (by rw [q'];exact Nat.lt_irrefl _)
  ·have:=x.above y b (mem_of_lookup q)
   exact absurd (Heap.lt_size e) (Nat.not_lt.mpr (Nat.le_of_lt this))
theorem jt {d k:Nat} {vs:List V} {σ:ag} {r:s8×ag} {cf:aS} (vo:P[k]? = some cf) (h:ax P (d+1) k vs σ=some r):vs.length=cf.arity∧l7 (aB (ax P d) cf.body (cz vs) σ)=some r:=by
 refine aK (m:=P[k]?) (k:=fun fn=>if vs.length=fn.arity then l7 (aB (ax P d) fn.body (cz vs) σ) else none) h fun NG KA h=>?_
 apply aO (sm (vo.symm.trans KA))
 exact cJ h
theorem m9 {m:Ex} {r:s8} {af:ag} (h:l7 m=some (r,af)):∃ fl ρ',m=some (fl,ρ',af)∧(fl=.next∧r=.ok .none∨(∃ v,fl=.ret v∧r=.ok v)∨∃ c w,fl=.exc c w∧r=.exc c w):=by
 refine il h fun fl ρ' ae hb h=>?_
 cases fl with
 | ret v' =>
  apply dx h
  exact ⟨_,_,hb,.inr (.inl ⟨_,rfl,rfl⟩)⟩
 | next =>
  apply dx h
  exact ⟨_,_,hb,.inl ⟨rfl,rfl⟩⟩
 | exc c w =>
  apply dx h
  exact ⟨_,_,hb,.inr (.inr ⟨_,_,rfl,rfl⟩)⟩
theorem xA (G:eH g cx fs mg mb) (hP:∀ (k:Nat) (fn:Fn),fs[k]? = some fn→∃ cf,P[k]? = some cf∧tB cx fn.params fn.scope fn.body=some cf) (hQ:∀ k∈cx.calm,∀ fn cf,fs[k]? = some fn→P[k]? = some cf→cN (Bj cx fn.scope (cP fn.scope) 200) fn.body=some cf.body) :
  ∀ d l (A:Around),Gu A d→∀ k∈cx.calm,oJ (g.on l) A fs (ax P d) k:=by
 intro d
 induction d with
 | zero=>intro l A hA k hk as σ v af h;exact no h
 | succ d ih =>
  intro l A hA k hk vs σ v af h fn jT φ s cF R FS hv E
  refine au (hP k fn jT) fun cf vo rE=>?_
  refine oZ (ng rE) fun as b O=>?_
  refine aJ (jt vo h) fun hlen h=>?_
  have hq:=hQ k hk fn cf jT vo
  rw [O.cf] at hlen h hq
  refine nh (g:=g) G O jT hA hlen R FS hv fun env s₁ I=>?_
  have Gz:=hA.deeper env
  have q':cN (Bj cx env.scope (cP fn.scope) 200) fn.body=some b:=by rw [I.scope];exact hq
  have B:=fJ (nW (cx:=cx) (call:=ax P d) (eH.on (l:=env::l) G) (ih (env::l) _ Gz) env (cP fn.scope) 200) q'
  refine fv (m9 h) fun fl ρ' hb hr=>?_
  rcases hr with ⟨rfl,hr⟩ | ⟨v',rfl,hr⟩ | ⟨_,_,_,hr⟩
  ·apply aO (s8.ok.inj hr)
   refine wpAny_mono (B _ σ _ ρ' af hb trivial φ s₁ I.R I.F _) (fun f s' hf=>?_) fun _ _ y=>y
   obtain ⟨rfl,_,aI,cM,ba,fh⟩:=hf
   exact ⟨aI,I.S.trans cM,ak.on (l:=l) ba,.none,I.T.trans fh⟩
  ·apply aO (s8.ok.inj hr)
   refine wpAny_mono (B _ σ _ ρ' af hb trivial φ s₁ I.R I.F _) (fun f s' hf=>?_) fun _ _ y=>y
   refine E0 hf fun av aI q3 cM ba di fh=>?_;apply aO q3
   exact ⟨aI,I.S.trans cM,ak.on (l:=l) ba,VR.on (l:=l) di,I.T.trans fh⟩
  ·cases hr
theorem xz (G:eH g cx fs mg mb) (hP:∀ (k:Nat) (fn:Fn),fs[k]? = some fn→∃ cf,P[k]? = some cf∧tB cx fn.params fn.scope fn.body=some cf) (hQ:∀ k∈cx.calm,∀ fn cf,fs[k]? = some fn→P[k]? = some cf→cN (Bj cx fn.scope (cP fn.scope) 200) fn.body=some cf.body) :
  ∀ d l (A:Around),gS A d→A.frames=some l→pA (g.on l) A fs (ax P d)∧mD (g.on l) A fs (ax P d):=by
 intro d
 induction d with
 | zero=>intro l A hA hl;exact ⟨fun k as σ v af h=>no h,fun k as σ c w af h=>no h⟩
 | succ d ih =>
  intro l A hA hl
  have fg:∀ (env:Env) (fn:Fn) (cf:aS) (as:List Arg) (b:fu),uQ cx fn cf as b→env.scope=fn.scope→env.frame=some env.locals→jf (g.on (env::l)) (A.deeper env) env (cP fn.scope) fn.body (aB (ax P d) b):=fun env fn cf as b O Ls Fq=>by
   have Gz:gS (A.deeper env) d:=⟨hA.handled,(hA.room.deeper env).depth,(hA.room.deeper env).units⟩
   have ed:(A.deeper env).frames=some (env::l):=by
    show A.frames.map (env :: ·)=_
    rw [hl];rfl
   refine aJ (ih (env::l) _ Gz ed) fun h1 h2=>?_
   have q':cN (oQ cx env.scope (cP fn.scope) (cP fn.scope).length 200) fn.body=some b:=by rw [Ls];exact O.body
   exact fx (xJ (cx:=cx) Gz (eH.on (l:=env::l) G) h1 h2 (fun ea=>xA G hP hQ d (env::l) _ ⟨Gz.depth,Gz.units⟩) env ⟨ed,⟨l,rfl⟩,_,Fq⟩ (cP fn.scope) (cP fn.scope).length (by rw [Ls];exact O.kind) 200) q'
  refine ⟨fun k vs σ v af h fn jT φ s cF R FS hv E=>?_,fun k vs σ c w af h fn jT φ s cF R FS hv Q E hE=>?_⟩
  ·refine au (hP k fn jT) fun cf vo rE=>?_
   refine oZ (ng rE) fun as b O=>?_
   refine aJ (jt vo h) fun hlen h=>?_
   rw [O.cf] at hlen h
   refine nh (g:=g) G O jT hA.room hlen R FS hv fun env s₁ I=>?_
   have B:=fg env fn cf as b O I.scope I.frame
   refine fv (m9 h) fun fl ρ' hb hr=>?_
   rcases hr with ⟨rfl,hr⟩ | ⟨v',rfl,hr⟩ | ⟨_,_,_,hr⟩
   ·obtain rfl:=s8.ok.inj hr
    refine wpAny_mono (B _ σ _ ρ' af hb φ s₁ I.R I.F _ fun e s' X=>X.elim) (fun f s' hf=>?_) fun _ _ y=>y
    obtain ⟨rfl,aI,cM,ba,dH,fh⟩:=hf
    exact ⟨aI,I.back cM,ak.on (l:=l) ba,.none,I.T.trans fh⟩
   ·obtain rfl:=s8.ok.inj hr
    refine wpAny_mono (B _ σ _ ρ' af hb φ s₁ I.R I.F _ fun e s' X=>X.elim) (fun f s' hf=>?_) fun _ _ y=>y
    refine E0 hf fun av aI q3 cM ba di fh=>?_;subst q3
    exact ⟨aI,I.back cM,ak.on (l:=l) ba,VR.on (l:=l) di,I.T.trans fh⟩
   ·cases hr
  ·refine au (hP k fn jT) fun cf vo rE=>?_
   refine oZ (ng rE) fun as b O=>?_
   refine aJ (jt vo h) fun hlen h=>?_
   rw [O.cf] at hlen h
   refine nh (g:=g) G O jT hA.room hlen R FS hv fun env s₁ I=>?_
   have B:=fg env fn cf as b O I.scope I.frame
   refine fv (m9 h) fun fl ρ' hb hr=>?_
   rcases hr with ⟨rfl,hr⟩ | ⟨v',rfl,hr⟩ | ⟨c',w',rfl,hr⟩
   ·cases hr
   ·cases hr
   ·injection hr with e1 e2
    subst e1;subst e2
    refine wpAny_mono (B _ σ _ ρ' af hb φ s₁ I.R I.F _ fun e s' X=>?_) (fun f s' hf=>hf.elim) fun _ _ y=>y
    obtain ⟨aI,ea,L,rfl,hL,hc,cM,fh,X⟩:=X
    have ed:(A.deeper env).frames=some (env::l):=by
     show A.frames.map (env :: ·)=_
     rw [hl];rfl
    refine CC (g:=g.on (env::l)) ed rfl hL X fun h' X' K'=>?_
    refine hE ea aI _ ⟨hc,I.back (cu.xkp cM K'),I.T.trans (fh.trans ⟨rfl,rfl,rfl⟩),?_⟩
    exact ((kt.on (l:=l) X' fun f hf=>List.mem_cons_of_mem _ hf).before I.S R FS).mono (fun q=>q.elim) fun _ q=>q
end
end Lar
namespace Lar
open PySem PySem.W PyProof.Rows PySem.Calls PySem.SeqAt
noncomputable def rj (p:Program) (consts:List (Str×Int)) (calm:List Nat):cp:=⟨(recsOf p).map (·.name),consts,[],calm⟩
noncomputable def tO (p:Program) (loose:List Str):Bool:=dE.all fun x=>!(startupNames.contains x) && !(loose.contains x) && !(((recsOf p).map (·.name)).contains x) && !(((litsOf p).map (·.1)).contains x) && !(((clssOf p loose).map (·.name)).contains x)&&x != ("__name__" : Str)
noncomputable def constsOk (p:Program) (consts:List (Str×Int)):Bool:=consts.all fun (x,i)=>match valOf p x with | some (.int j)=>i==j | _=>false
theorem zm {mg:Str→Option Value} {h:Heap}:∀ (l:List DefRec),(∀ d∈l,∃ a o pm code doc,mg d.name=some (.ref a)∧h.get? a=some o∧o.data=.func (docDef d.name d.params d.body d.scope pm code doc)∧h.CodeRec code d.name) →
  ∃ fs:List Fn,fs.map (·.name)=l.map (·.name)∧fs.map (fun f=>(f.params,f.scope,f.body))=l.map (fun d=>(d.params,d.scope,d.body)) ∧
   ∀ f∈fs,mg f.name=some (.ref f.addr)∧∃ o pm cd doc,h.get? f.addr=some o∧o.data=.func (docDef f.name f.params f.body f.scope pm cd doc)∧h.CodeRec cd f.name
 | [],_=>⟨[],rfl,rfl,fun _ hf=>nomatch hf⟩
 | d::l,hl=>by
  refine NQ (hl d List.mem_cons_self) fun a o pm code doc h1 h2 h3 h4=>?_
  refine fL (zm l fun d hd=>hl d (List.mem_cons_of_mem _ hd)) fun fs e1 e2 e3=>?_
  refine ⟨⟨d.name,a,d.params,d.body,d.scope⟩::fs,by simp [e1],by simp [e2],fun f hf=>?_⟩
  rcases List.mem_cons.mp hf with rfl | hf
  ·exact ⟨h1,o,pm,code,doc,h2,h3,h4⟩
  ·exact e3 f hf
noncomputable def mF:Value→Option Addr
 | .ref a=>some a
 | _=>none
theorem oM {v:Value} {a:Addr} (h:mF v=some a):v=.ref a:=by
 cases v <;> first | exact no h | exact congrArg _ (sm h)
noncomputable def BH:Data→Option FuncData
 | .func fd=>some fd
 | _=>none
theorem ww {v:Data} {a:FuncData} (h:BH v=some a):v=.func a:=by
 cases v <;> first | exact no h | exact congrArg _ (sm h)
noncomputable def Hc:Data→Option ClassData
 | .cls c=>some c
 | _=>none
theorem wv {v:Data} {a:ClassData} (h:Hc v=some a):v=.cls a:=by
 cases v <;> first | exact no h | exact congrArg _ (sm h)
noncomputable def EP:Data→Option (Array Value)
 | .fields vs=>some vs
 | _=>none
noncomputable def Hb:FuncBody→Option (List Stmt)
 | .stmts b=>some b
 | _=>none
theorem wu {v:FuncBody} {a:List Stmt} (h:Hb v=some a):v=.stmts a:=by
 cases v <;> first | exact no h | exact congrArg _ (sm h)
noncomputable def G9:Stmt→Option (Expr×Expr)
 | .Assign ts v _=>(lj ts).bind fun t=>some (t,v)
 | _=>none
set_option tactic.hygienic true in
theorem wq {st:Stmt} {t v:Expr} (h:G9 st=some (t,v)):∃ p,st=.Assign [t] v p:=by
 cases st <;> first | exact no h | skip
 rename_i ts v' p
 refine aK h fun t' h1 h2=>?_
 apply dx h2
 apply aO (b7 h1)
 exact ⟨p,rfl⟩
noncomputable def Ha:Expr→Option (Expr×Str)
 | .Attribute o a _=>some (o,a)
 | _=>none
theorem wt {e o:Expr} {a:Str} (h:Ha e=some (o,a)):∃ p,e=.Attribute o a p:=by
 cases e <;> first | exact no h | skip
 apply dx h
 exact ⟨_,rfl⟩
noncomputable def uC (h:Heap) (mv:Option Value):Option Addr:=mv.bind fun v=>(mF v).bind fun a=>(h.get? a).bind fun o=>(BH o.data).bind fun fd=>(mF fd.code).bind fun c=>(h.get? c).bind fun oc=>(EP oc.data).bind fun vs=>(vs[11]?).bind mF
theorem uD {h h':Heap} {mv:Option Value} {P:Addr} (x:uC h mv=some P) (hk:∀ b o,h.get? b=some o→h'.get? b=some o):uC h' mv=some P:=by
 refine aK x fun v h1 x=>?_
 refine aK x fun a h2 x=>?_
 refine aK x fun o h3 x=>?_
 refine aK x fun fd h4 x=>?_
 refine aK x fun c h5 x=>?_
 refine aK x fun oc h6 x=>?_
 unfold uC
 rw [h1];simp only [Option.bind_some]
 rw [h2];simp only [Option.bind_some]
 rw [hk _ _ h3];simp only [Option.bind_some]
 rw [h4];simp only [Option.bind_some]
 rw [h5];simp only [Option.bind_some]
 rw [hk _ _ h6];exact x
noncomputable def kg (h:Heap) (mg:Str→Option Value):List DefRec→Option (List Addr)
 | []=>some []
 | d::r=>(uC h (mg d.name)).bind fun P=>(kg h mg r).bind fun Ps=>some (P::Ps)
theorem lR {h h':Heap} {mg:Str→Option Value} (hk:∀ b o,h.get? b=some o→h'.get? b=some o):∀ {l:List DefRec} {Ps:List Addr},kg h mg l=some Ps→kg h' mg l=some Ps
 | [],Ps,x=>x
 | d::r,Ps,x=>by
  refine aK x fun P h1 x=>?_
  refine aK x fun Qs h2 x=>?_
  show (uC h' (mg d.name)).bind _=_
  rw [uD h1 hk]
  show (kg h' mg r).bind _=_
  rw [lR hk h2]
  exact x
theorem i8 {h:Heap} {mg:Str→Option Value}:∀ {l:List DefRec} {Ps:List Addr},kg h mg l=some Ps→Ps.length=l.length∧∀ (i:Nat) (d:DefRec),l[i]? = some d→∃ P,Ps[i]? = some P∧uC h (mg d.name)=some P
 | [],Ps,x=>by
  apply db x
  exact ⟨rfl,fun i d e=>by simp at e⟩
 | d::r,Ps,x=>by
  refine aK x fun P h1 x=>?_
  refine aK x fun Qs h2 x=>?_
  apply db x
  refine aJ (i8 h2) fun k1 k2=>?_
  refine ⟨by simp [k1],fun i d' e=>?_⟩
  cases i with
  | zero =>
   apply fQ (Option.some.inj e)
   exact ⟨P,rfl,h1⟩
  | succ i=>exact k2 i d' e
theorem b1 {a b:Bool} (h:(a&&b)=true):a=true:=(Bool.and_eq_true_iff.mp h).1
theorem b2 {a b:Bool} (h:(a&&b)=true):b=true:=(Bool.and_eq_true_iff.mp h).2
theorem nb {a:Bool} (h:(!a)=true):a=false:=by cases a;rfl;cases h
theorem CN {o:Obj} {c:Value} {dt:Data} {sl:Array (Option Value)} (h1:o.cls=c) (h2:o.dict=none) (h3:o.data=dt) (h4:o.slots=sl):o={cls:=c,dict:=none,data:=dt,slots:=sl}:=by
 cases o;cases h1;cases h2;cases h3;cases h4;rfl
theorem EW {cd:ClassData} {mro:List Value} (h1:cd.mro=mro) (h2:cd.hasDict=true) (h3:cd.slotNames=[]) (h4:cd.abstract=false) (h5:cd.collection=none) (h6:cd.hasDel=false):cd={name:=cd.name,bases:=cd.bases,mro:=mro,ns:=cd.ns,qualname:=cd.qualname,hasDict:=true,slotNames:=[],subclasses:=cd.subclasses,abstract:=false,collection:=none,hasDel:=false}:=by
 cases cd;cases h1;cases h2;cases h3;cases h4;cases h5;cases h6;rfl
theorem xu {sl:Array (Option Value)} {v:Option Value} (h1:sl.size=6) (h2:sl[4]? = some v):∃ k0 k1 k2 k3 k5,sl=#[k0,k1,k2,k3,v,k5]:=by
 obtain ⟨l⟩:=sl
 refine kj (six_places (l:=l) (by simpa using h1) (by simpa using h2)) fun k0 k1 k2 k3 k5 q6=>?_;apply aO q6
 exact ⟨k0,k1,k2,k3,k5,rfl⟩
theorem JX {a b c d:Bool} {C:Prop} (h:(a&&(b&&(c&&d)))=true) (k:a=true→b=true→c=true→d=true→C):C:=k (b1 h) (b1 (b2 h)) (b1 (b2 (b2 h))) (b2 (b2 (b2 h)))
theorem Hh {a b c d e:Bool} {C:Prop} (h:(a&&(b&&(c&&(d&&e))))=true) (k:a=true→b=true→c=true→d=true→e=true→C):C:=JX h fun x y z w=>k x y z (b1 w) (b2 w)
noncomputable def EY (h:Heap) (tl:List Value) (C:Addr) (o:Obj) (cd:ClassData):Bool:=o.cls==.type "type" && (o.dict.isNone&&(o.slots.size==6&&(o.slots[4]? == some (some (.builtin "ValueError.__new__"))&&(cd.mro==.ref C::tl&&(cd.hasDict&&(cd.slotNames.isEmpty&&(!cd.abstract&&(cd.collection.isNone&&(!cd.hasDel&&(h.isNs cd.ns&&(h.nsKeys cd.ns).all fO.contains))))))))))
noncomputable def B1 (h:Heap) (mv:Option Value) (tl:List Value):Option (Addr×Addr):=mv.bind fun v=>(mF v).bind fun C=>(h.get? C).bind fun o=>(Hc o.data).bind fun cd=>if EY h tl C o cd then some (C,cd.ns) else none
theorem BZ {h:Heap} {tl:List Value} {C:Addr} {o:Obj} {cd:ClassData} (c1:EY h tl C o cd=true) (ho:h.get? C=some o) (hd:o.data=.cls cd):fe h C tl (h.nsMap cd.ns)∧h.isNs cd.ns=true:=by
 unfold EY at c1
 refine Hh c1 fun d1 d2 d3 d4 r=>Hh r fun d5 d6 d7 d8 r=>JX r fun d9 J3 I9 J4=>?_
 refine kj (xu (beq_iff_eq.mp (d3)) (beq_iff_eq.mp (d4))) fun k0 k1 k2 k3 k5 qf=>?_
 have kL:=EW (beq_iff_eq.mp (d5)) (d6) (List.isEmpty_iff.mp (d7)) (nb (d8)) (Option.isNone_iff_eq_none.mp (d9)) (nb (J3))
 have O3:=CN (beq_iff_eq.mp (d1)) (Option.isNone_iff_eq_none.mp (d2)) (hd.trans (congrArg _ kL)) qf
 refine ⟨⟨⟨cd.ns,cd.name,cd.qualname,cd.bases,cd.subclasses,k0,k1,k2,k3,k5,ho.trans (congrArg some O3),.of_isNs (I9)⟩,fun n hn=>Heap.nsMap_none fun hm=>hn ?_⟩,I9⟩
 simpa using List.all_eq_true.mp (J4) n hm
theorem kE {h:Heap} {mv:Option Value} {tl:List Value} {C N:Addr} (x:B1 h mv tl=some (C,N)):mv=some (.ref C)∧fe h C tl (h.nsMap N)∧h.isNs N=true:=by
 refine aK x fun v h1 x=>?_
 refine aK x fun C' h2 x=>?_
 refine aK x fun o h3 x=>?_
 refine aK x fun cd h4 x=>?_
 refine dv x fun hc x=>?_
 apply dx x
 exact ⟨h1.trans (congrArg some (oM h2)),BZ hc h3 (wv h4)⟩
noncomputable abbrev JG:=Addr×Obj×FuncData×Str×Str×Str×Arg×Arg
noncomputable def Ed (h:Heap) (mv:Option Value):Option JG:=mv.bind fun v=>(mF v).bind fun f=>(h.get? f).bind fun o=>(BH o.data).bind fun fd=>(Hb fd.body).bind fun b=>(lj b).bind fun st=>(G9 st).bind fun q=>(Ha q.1).bind fun r=>(bN r.1).bind fun x=>(bN q.2).bind fun y=>(two fd.params.args).bind fun a=>some (f,o,fd,x,r.2,y,a)
theorem t0 {h:Heap} {mv:Option Value} {p:JG} {C:Prop} (z:Ed h mv=some p) (k:mv=some (.ref p.1)→h.get? p.1=some p.2.1→p.2.1.data=.func p.2.2.1→(∃ p1 p2 p3 p4,p.2.2.1.body=.stmts [.Assign [.Attribute (.Name p.2.2.2.1 p1) p.2.2.2.2.1 p2] (.Name p.2.2.2.2.2.1 p3) p4])→p.2.2.1.params.args=[p.2.2.2.2.2.2.1,p.2.2.2.2.2.2.2]→C):C:=by
 refine aK z fun v h1 z=>?_
 refine aK z fun f h2 z=>?_
 refine aK z fun o h3 z=>?_
 refine aK z fun fd h4 z=>?_
 refine aK z fun b h5 z=>?_
 refine aK z fun st h6 z=>?_
 refine vU z fun t v' h7 z=>?_
 refine vU z fun Nl nm h8 z=>?_
 refine aK z fun x h9 z=>?_
 refine aK z fun y ML z=>?_
 refine aK z fun a NX z=>?_
 rw [←sm z] at k
 dsimp only at h8 h9 ML
 refine Exists.elim (wq h7) fun p1 e7=>?_
 refine Exists.elim (wt h8) fun p2 e8=>?_
 refine Exists.elim (bd h9) fun p3 e9=>?_
 refine Exists.elim (bd ML) fun p4 J8=>?_
 exact k (h1.trans (congrArg some (oM h2))) h3 (ww h4) ⟨p3,p2,p4,p1,(wu h5).trans (by rw [b7 h6,e7,e8,e9,J8])⟩ (iS NX)
noncomputable def Ec (h:Heap) (p:JG):Bool:=p.2.1.cls==.type "function" && (p.2.2.2.1==("self" : Str)&&(p.2.2.2.2.1==("word" : Str)&&(p.2.2.2.2.2.1==("word" : Str)&&(dD p.2.2.1.params&&(p.2.2.2.2.2.2.1.arg==("self" : Str)&&(p.2.2.2.2.2.2.2.arg==("word" : Str)&&(decide (p.2.2.1.scope.names=[(("self" : Str),NameKind.local),(("word" : Str),NameKind.local)]) &&
  (p.2.2.1.scope.kind==.function&&(!p.2.2.1.scope.isGenerator&&(!p.2.2.1.scope.isCoroutine&&(p.2.2.1.globals==mainGlobals&&(p.2.2.1.closure.isEmpty&&(p.2.2.1.defaults==.none&&(p.2.2.1.builtins==builtinsNs&&h.codeRecOk p.2.2.1.code p.2.2.1.qualname))))))))))))))
noncomputable def Ee (h:Heap) (mv:Option Value):Option Unit:=(Ed h mv).bind fun p=>if Ec h p then some () else none
theorem t3 {h:Heap} {mv:Option Value} (z:Ee h mv=some ()):∃ f,mv=some (.ref f)∧fV h f:=by
 refine aK z fun p h0 z=>?_
 have c1:=(cJ z).1
 clear z
 refine t0 h0 fun h1 h2 h3 h4 h5=>⟨p.1,h1,?_⟩
 obtain ⟨f,o,fd,x,n,y,a1,a2⟩:=p
 dsimp only at h2 h3 h4 h5 c1
 unfold Ec at c1
 refine Hh c1 fun d1 d2 d3 d4 r=>Hh r fun d5 d6 d7 d8 r=>Hh r fun d9 J3 I9 J4 r=>JX r fun NH NI NJ NK=>?_
 have hp:=iK d5
 rw [h5] at hp
 have e1:x=("self" : Str):=beq_iff_eq.mp d2
 have e2:n=("word" : Str):=beq_iff_eq.mp d3
 have e3:y=("word" : Str):=beq_iff_eq.mp d4
 rw [e1,e2,e3] at h4
 exact ⟨o,fd,a1,a2,h2,⟨beq_iff_eq.mp d1,h3,h4,hp,beq_iff_eq.mp d6,beq_iff_eq.mp d7,of_decide_eq_true d8,beq_iff_eq.mp d9,nb J3,nb I9,beq_iff_eq.mp J4,List.isEmpty_iff.mp NH,beq_iff_eq.mp NI,beq_iff_eq.mp NJ⟩,.of_ok NK⟩
structure XC (mg:Str→Option Value) (h:Heap) (C0 C1 C2:Addr) (m0 m1 m2:Str→Option Value) (f:Addr):Prop where
 n0:mg ("LarderError" : Str)=some (.ref C0)
 n1:mg ("TooMuch" : Str)=some (.ref C1)
 n2:mg ("Short" : Str)=some (.ref C2)
 c0:fe h C0 ik m0
 c1:fe h C1 (.ref C0::ik) m1
 c2:fe h C2 (.ref C0::ik) m2
 i0:m0 ("__init__" : Str)=some (.ref f)
 i:fV h f
 j1:m1 ("__init__" : Str)=none
 j2:m2 ("__init__" : Str)=none
 q:C1≠C2∧C1≠C0∧C2≠C0
structure XE (q:Program) (mg:Str→Option Value) (h:Heap):Prop where
 tabs:∃ Ps,kg h mg (recsOf q)=some Ps∧Ps.Nodup
 exc:∃ C0 C1 C2 m0 m1,∃ m2 f,XC mg h C0 C1 C2 m0 m1 m2 f
theorem XE.keeps {q:Program} {mg:Str→Option Value} {h h':Heap} (X:XE q mg h) (hk:∀ b o,h.get? b=some o→h'.get? b=some o):XE q mg h' :=
 ⟨au X.tabs fun Ps h1 h2=>⟨Ps,lR hk h1,h2⟩,kj X.exc fun C0 C1 C2 m0 m1 k=>oZ k fun m2 f x=>⟨C0,C1,C2,m0,m1,m2,f,x.n0,x.n1,x.n2,x.c0.keeps hk,x.c1.keeps hk,x.c2.keeps hk,x.i0,x.i.keeps hk,x.j1,x.j2,x.q⟩⟩
noncomputable def P4 (q:Program) (h:Heap):Option Unit:=(B1 h (h.nsMap mainGlobals ("LarderError" : Str)) ik).bind fun p0=>(B1 h (h.nsMap mainGlobals ("TooMuch" : Str)) (.ref p0.1::ik)).bind fun p1=>(B1 h (h.nsMap mainGlobals ("Short" : Str)) (.ref p0.1::ik)).bind fun p2 =>
 (Ee h (h.nsMap p0.2 ("__init__" : Str))).bind fun _=>(kg h (h.nsMap mainGlobals) (recsOf q)).bind fun Ps=>if (h.nsMap p1.2 ("__init__" : Str)).isNone&&(h.nsMap p2.2 ("__init__" : Str)).isNone&&p1.1 != p2.1&&p1.1 != p0.1&&p2.1 != p0.1&&decide Ps.Nodup then some () else none
noncomputable def Nt (q:Program) (s:Shared):Bool:=(P4 q s.heap).isSome
theorem Nu {q:Program} {s:Shared} (x:Nt q s=true):XE q (s.heap.nsMap mainGlobals) s.heap:=by
 refine Exists.elim (Option.isSome_iff_exists.mp x) fun u x=>?_
 refine vU x fun C0 N0 h0 x=>?_
 refine vU x fun C1 N1 h1 x=>?_
 refine vU x fun C2 N2 h2 x=>?_
 refine aK x fun _ h3 x=>?_
 refine aK x fun Ps h4 x=>?_
 refine dv x fun hc _=>?_
 simp only [Bool.and_eq_true,Option.isNone_iff_eq_none,bne_iff_ne,ne_eq,decide_eq_true_eq] at hc
 obtain ⟨⟨⟨⟨⟨c1,c2⟩,c3⟩,c4⟩,c5⟩,c6⟩:=hc
 refine iY (kE h0) fun a1 a2 _=>?_
 refine iY (kE h1) fun b1 b2 _=>?_
 refine iY (kE h2) fun d1 d2 _=>?_
 refine au (t3 h3) fun f e1 e2=>?_
 exact ⟨⟨Ps,h4,c6⟩,C0,C1,C2,_,_,_,f,a1,b1,d1,a2,b2,d2,e1,e2,c1,c2,c3,c4,c5⟩
theorem Dk {h:Heap} {mv:Option Value} {a c P:Addr} {o:Obj} {fd:FuncData} (x1:mv=some (.ref a)) (x2:h.get? a=some o) (x3:o.data=.func fd) (x4:fd.code=.ref c) (x6:h.TableAt c P #[]):uC h mv=some P:=by
 obtain ⟨⟨oo,ws,z1,z2,z3,z4⟩,z5⟩:=x6
 have e1:(EP oo.data).bind (fun vs=>(vs[11]?).bind mF)=some P:=by
  rw [z3]
  show (ws[11]?).bind mF=_
  rw [z4];rfl
 have e2:(BH o.data).bind (fun fd=>(mF fd.code).bind fun c=>(h.get? c).bind fun oc=>(EP oc.data).bind fun vs=>(vs[11]?).bind mF)=some P:=by
  rw [x3]
  show (mF fd.code).bind _=_
  rw [x4]
  show (h.get? c).bind _=_
  rw [z1];exact e1
 rw [x1]
 show (h.get? a).bind _=_
 rw [x2];exact e2
noncomputable def Hn (C0 C1 C2:Addr) (n:Nat):Addr:=if n=0 then C0 else if n=1 then C1 else C2
noncomputable def ez (l:List DefRec) (Ps:List Addr):List (Str×Addr):=(l.map (fun d=>(d.name ++ ".<locals>." : Str))).zip Ps
structure wk (h:Heap) (Ps:List Addr):Prop where
 at_:∀ P∈Ps,h.get? P=some {cls:=.none,data:=.fields #[]}∧isCodeTable h P
theorem wk.up {h:Heap} {Ps:List Addr} (H:wk h Ps) (b:Addr) (o:Obj) (e:h.get? b=some o) (hd:o.data≠.fields #[]):(hideAll h Ps).get? b=some o :=
 hideAll_get Ps e fun hm=>hd (by rw [Option.some.inj (e.symm.trans (H.at_ b hm).1)])
theorem wk.ns {h:Heap} {Ps:List Addr} (H:wk h Ps) {a:Addr} {m:Str→Option Value} (x:h.Ns a m):(hideAll h Ps).Ns a m :=
 qL x fun o es ep e hd r=>⟨o,es,ep,H.up _ _ e (by rw [hd];exact fun q=>nomatch q),hd,r⟩
theorem wk.cdr {h:Heap} {Ps:List Addr} (H:wk h Ps) {cd:Value} {q:Str} (x:h.CodeRec cd q):(hideAll h Ps).CodeRec cd q:=by
 obtain ⟨c,o,vs,t,y1,y2,y3,y4⟩:=x
 refine ⟨c,o,vs,t,y1,H.up _ _ y2 ?_,y3,y4⟩
 rw [y3];intro q';injection q' with q';subst q';simp at y4
theorem wk.cls {h:Heap} {Ps:List Addr} (H:wk h Ps) {C:Addr} {tl:List Value} {mN:Str→Option Value} (x:fe h C tl mN):fe (hideAll h Ps) C tl mN :=
 ⟨kj x.obj fun N nm q bs sub k=>pM k fun k0 k1 k2 k3 k5 hC hn=>⟨N,nm,q,bs,sub,k0,k1,k2,k3,k5,H.up _ _ hC (fun q=>nomatch q),H.ns hn⟩,x.quiet⟩
theorem wk.init {h:Heap} {Ps:List Addr} (H:wk h Ps) {f:Addr} (x:fV h f):fV (hideAll h Ps) f :=
 ⟨Hq x.ex fun o fd a1 a2 ho IO kL=>⟨o,fd,a1,a2,H.up _ _ ho (by rw [IO.data];exact fun q=>nomatch q),IO,H.cdr kL⟩⟩
structure DH (mg:Str→Option Value) (h:Heap) (Ps:List Addr) (n:Str) (k:Nat) (a:Addr) (o:Obj) (fd:FuncData) (c P:Addr):Prop where
 nm:mg n=some (.ref a)
 ho:h.get? a=some o
 hd:o.data=.func fd
 hc:fd.code=.ref c
 is:h.IsCode c P #[]
 ta:h.TableAt c P #[]
 pk:Ps[k]? = some P
theorem AX {p:Program} {loose:List Str} {nC:ExcName→Option Value} {mg mb:Str→Option Value} {h:Heap} (T:Top p loose nC mg mb h) {Ps:List Addr} (t1:kg h mg (recsOf p)=some Ps) (k:Nat) (d:DefRec) (hd:(recsOf p)[k]? = some d):∃ a o fd c P,DH mg h Ps d.name k a o fd c P:=by
 obtain ⟨a,o,fd,c,P,x1,x2,x3,x4,x5,x6⟩:=T.tab d (List.mem_of_getElem? hd)
 refine au ((i8 t1).2 k d hd) fun P' y1 y2=>?_
 rw [Option.some.inj (y2.symm.trans (Dk x1 x2 x3 x4 x6))] at y1
 exact ⟨a,o,fd,c,P,x1,x2,x3,x4,x5,x6,y1⟩
theorem Ft {p:Program} {loose:List Str} {nC:ExcName→Option Value} {mg mb:Str→Option Value} {h:Heap} (T:Top p loose nC mg mb h) {Ps:List Addr} (t1:kg h mg (recsOf p)=some Ps):wk h Ps:=⟨fun P hP=>by
 refine Exists.elim (List.getElem_of_mem hP) fun k q=>Exists.elim q fun hk e=>?_
 have tc:k<(recsOf p).length:=(i8 t1).1 ▸ hk
 refine kj (AX T t1 k _ (List.getElem?_eq_getElem tc)) fun a o fd c P' x=>?_
 have q:P'=P:=by
  have:=x.pk
  rw [List.getElem?_eq_getElem hk,e] at this
  exact (Option.some.inj this).symm
 rw [←q]
 exact ⟨x.ta.2,x.ta.isCodeTable⟩⟩
theorem As {p:Program} {loose:List Str} {nC:ExcName→Option Value} {mg mb:Str→Option Value} {h:Heap} (T:Top p loose nC mg mb h) (hf:tO p loose=true) (x:Str) (hx:x∈dE):mg x=none∧mb x=bootBuiltins x:=by
 have:=List.all_eq_true.mp hf x hx
 simp only [Bool.and_eq_true,Bool.not_eq_true',List.contains_eq_mem,decide_eq_false_iff_not,bne_iff_ne,ne_eq] at this
 obtain ⟨⟨⟨⟨⟨h1,h2⟩,h3⟩,h4⟩,h5⟩,h6⟩:=this
 exact ⟨T.free x h1 h2 h3 h4 h5,T.builtins x h6⟩
set_option tactic.hygienic true in
theorem consts_of {p:Program} {loose:List Str} {nC:ExcName→Option Value} {mg mb:Str→Option Value} {h:Heap} (T:Top p loose nC mg mb h) {consts:List (Str×Int)} (hc:constsOk p consts=true) (x:Str) (i:Int) (hx:consts.lookup x=some i):∃ t,mg x=some (.int i t):=by
 have:=List.all_eq_true.mp hc _ (mem_of_lookup hx)
 dsimp only at this
 split at this
 ·rename_i j hj
  have ov:i=j:=by simpa using this
  apply aO ov
  refine au (T.const x _ hj) fun v h1 h2=>?_
  have:=h2 h
  cases this
  exact ⟨_,h1⟩
 ·cases this
theorem wk.tabC {mg:Str→Option Value} {h:Heap} {Ps:List Addr} (H:wk h Ps) {l:List DefRec} {d:DefRec} {k:Nat} (hd:l[k]? = some d) {a:Addr} {o:Obj} {fd:FuncData} {c P:Addr} (x:DH mg h Ps d.name k a o fd c P) (hq:fd.qualname=d.name) {prog:Program} {w:World} {cl:Nat→Addr}:EL ⟨prog,w,hideAll h Ps,[],ez l Ps,cl⟩ (fd.qualname ++ ".<locals>.") fd.code:=by
 refine ⟨k,c,P,h,?_,x.hc,x.is,x.ta,fun o ho=>H.up _ _ ho ?_⟩
 ·show (ez l Ps)[k]? = _
  unfold ez
  rw [List.getElem?_zip_eq_some]
  refine ⟨?_,x.pk⟩
  rw [List.getElem?_map,hd,hq];rfl
 ·obtain ⟨⟨oo,ws,z1,z2,z3,z4⟩,z5⟩:=x.ta
  rw [←Option.some.inj (z1.symm.trans ho),z3];intro q';injection q' with q';subst q';simp at z4
theorem Do {p prog:Program} {w:World} {loose:List Str} {nC:ExcName→Option Value} {mg mb:Str→Option Value} {h:Heap} (T:Top p loose nC mg mb h) (X:XE p mg h) (hi:importsNone p=true) (consts:List (Str×Int)) (calm:List Nat) (hc:constsOk p consts=true) (hf:tO p loose=true) :
  ∃ fs Ps C0 C1 C2,eH ⟨prog,w,hideAll h Ps,[],ez (recsOf p) Ps,Hn C0 C1 C2⟩ (rj p consts calm) fs mg mb∧fs.map (fun f=>(f.params,f.scope,f.body))=(recsOf p).map (fun d=>(d.params,d.scope,d.body))∧Ps.Nodup∧Ps.length=(recsOf p).length ∧
   ∀ P∈Ps,h.get? P=some {cls:=.none,data:=.fields #[]}∧isCodeTable h P:=by
 refine fL (zm (recsOf p) T.fn) fun fs e1 e2 e3=>au X.tabs fun Ps t1 t2=>kj X.exc fun C0 C1 C2 m0 m1 k=>oZ k fun m2 f x=>?_
 have H:=Ft T t1
 refine ⟨fs,Ps,C0,C1,C2,⟨H.ns T.g,H.ns T.b,au T.nolimit fun mc h1 h2=>⟨mc,H.ns h1,h2⟩,au ((T.seer hi).mods) fun mm hm _=>jH (H.ns hm) fun o _ _ ho _=>⟨o,ho⟩,As T hf,consts_of T hc,e1,fun f hf=>?_,?_,⟨x.n0,x.n1,x.n2,⟨m0,f,H.cls x.c0,x.i0,H.init x.i⟩,⟨m1,H.cls x.c1,x.j1⟩,⟨m2,H.cls x.c2,x.j2⟩,x.q⟩,fun f hf o fd ho hd=>?_⟩,e2,t2,(i8 t1).1,H.at_⟩
 ·obtain ⟨h1,o,pm,cd,doc,h2,h3,h4⟩:=e3 f hf
  exact ⟨h1,o,pm,cd,doc,H.up _ _ h2 (by rw [h3];exact fun q=>nomatch q),h3,H.cdr h4⟩
 ·obtain ⟨bm,Nl,b1,b2,b3,b4,b5,b6⟩:=T.bmain
  exact ⟨bm,Nl,b1,b2,H.up _ _ b3 (by rw [b6];exact fun q=>nomatch q),b4,b5,b6⟩
 ·refine Exists.elim (List.getElem?_of_mem hf) fun k hk=>?_
  have yq:(fs.map (·.name))[k]? = some f.name:=by rw [List.getElem?_map,hk];rfl
  rw [e1,List.getElem?_map,Option.map_eq_some_iff] at yq
  refine au yq fun d jI Ji=>kj (AX T t1 k d jI) fun a o' NV c P y=>?_
  obtain ⟨y1,o2,pm,cd,doc,y2,y3,y4⟩:=e3 f hf
  have ha:f.addr=a:=by
   have:=y.nm
   rw [Ji,y1] at this
   exact Value.ref.inj (Option.some.inj this)
  have jU:=of_hideAll Ps ho
  have eo:o'=o:=Option.some.inj (y.ho.symm.trans (ha ▸ jU))
  have ef:NV=fd:=Data.func.inj (y.hd.symm.trans (eo ▸ hd))
  rw [ef] at y
  refine H.tabC jI y ?_
  have:=(hd.symm.trans (congrArg Obj.data (Option.some.inj (jU.symm.trans y2)))).trans y3
  rw [Data.func.inj this]
  exact Ji.symm
theorem Gb {h h':Heap} {Ps:List Addr} (hk:∀ b o,h.get? b=some o→b∉Ps→h'.get? b=some o) (hP:∀ P∈Ps,h.get? P=some {cls:=.none,data:=.fields #[]}∧isCodeTable h P) (hQ:∀ P∈Ps,∃ vs,h'.get? P=some {cls:=.none,data:=.fields vs}):OldK h h':=by
 refine ⟨fun b o e=>?_,fun b o e=>?_⟩
 ·by_cases hb:b∈Ps
  ·refine aJ (hP b hb) fun h1 h2=>?_
   refine Exists.elim (hQ b hb) fun vs h3=>?_
   apply fQ (Option.some.inj (h1.symm.trans e))
   exact .inr (.inl ⟨h2,rfl,#[],vs,rfl,by rw [h3];simp⟩)
  ·exact .inl (hk b o e hb)
 ·by_cases hb:b∈Ps
  ·refine Exists.elim (hQ b hb) fun vs h3=>?_
   exact ⟨_,h3⟩
  ·exact ⟨o,hk b o e hb⟩
theorem law_run {p prog:Program} {w:World} {loose:List Str} {nC:ExcName→Option Value} {mg mb:Str→Option Value} {s:Shared} (T:Top p loose nC mg mb s.heap) (X:XE p mg s.heap) (hi:importsNone p=true) (consts:List (Str×Int)) (calm:List Nat) (hc:constsOk p consts=true) (hf:tO p loose=true)
  {P:List aS} (hP:(recsOf p).map (fun d=>tB (rj p consts calm) d.params d.scope d.body)=P.map some) (Oj:∀ k∈calm,∃ d cf,(recsOf p)[k]? = some d∧P[k]? = some cf∧cN (Bj (rj p consts calm) d.scope (cP d.scope) 200) d.body=some cf.body) {k:Nat} {name:Str} (hk:((recsOf p).map (·.name))[k]? = some name) {fa:Addr} (Lb:mg name=some (.ref fa)) {a:Addr} {vs:List Value} {ns:List Int} (hl:s.heap.IsList a vs.toArray) (hz:ns.length≤an+1) (hv:IntsAre vs ns)
  {d:Nat} (hd:d≤100) (h:∀ σ,∃ af,ax P d k [.ro ns] σ=some (.ok (.bool true),af)) {E:Value→Shared→Prop} {Q:Value→Shared→Prop} (hQ:∀ s',OldK s.heap s'.heap→s'.gens=s.gens→s'.os=s.os→Q (.bool true) s') :
  wpAny (model prog w) callerA (PySem.call (.ref fa) [.ref a]) Q E s:=by
 refine NR (Do (prog:=prog) (w:=w) T X hi consts calm hc hf) fun fs Ps C0 C1 C2 G D4 yp hlen hT=>?_
 have Ew:∀ (k:Nat) (fn:Fn),fs[k]? = some fn→∃ dr,(recsOf p)[k]? = some dr∧dr.params=fn.params∧dr.scope=fn.scope∧dr.body=fn.body:=fun k fn jT=>by
  have h1:(fs.map (fun f=>(f.params,f.scope,f.body)))[k]? = some (fn.params,fn.scope,fn.body):=by simp [jT]
  rw [D4,List.getElem?_map,Option.map_eq_some_iff] at h1
  refine au h1 fun dr Fl e=>?_
  injection e with e1 e
  injection e with e2 e3
  exact ⟨dr,Fl,e1,e2,e3⟩
 have Of:∀ (k:Nat) (fn:Fn),fs[k]? = some fn→∃ cf,P[k]? = some cf∧tB (rj p consts calm) fn.params fn.scope fn.body=some cf:=fun k fn jT=>by
  refine ym (Ew k fn jT) fun dr Fl e1 e2 e3=>?_
  have h2:((recsOf p).map (fun d=>tB (rj p consts calm) d.params d.scope d.body))[k]? = some (tB (rj p consts calm) dr.params dr.scope dr.body):=by simp [Fl]
  rw [hP,List.getElem?_map,Option.map_eq_some_iff] at h2
  refine au h2 fun cf vo e4=>?_
  exact ⟨cf,vo,by rw [←e1,←e2,←e3];exact e4.symm⟩
 have Oh:∀ k∈(rj p consts calm).calm,∀ fn cf,fs[k]? = some fn→P[k]? = some cf→cN (Bj (rj p consts calm) fn.scope (cP fn.scope) 200) fn.body=some cf.body:=fun k KY fn cf jT vo=>by
  refine kF (Oj k KY) fun d' NG h1 h2 h3=>?_
  refine ym (Ew k fn jT) fun dr Fl e1 e2 e3=>?_
  obtain rfl:=Option.some.inj (h1.symm.trans Fl)
  obtain rfl:=Option.some.inj (h2.symm.trans vo)
  rw [←e2,←e3];exact h3
 have c1:callerA.depth≤500:=by decide
 have c2:callerA.units≤500:=by decide
 have hA:gS callerA d:=⟨rfl,l2 0xc02589a0110b00649010b01f491 rfl hd c1,by lia⟩
 have jT:∃ fn,fs[k]? = some fn∧fn.name=name:=by
  rw [show (recsOf p).map (·.name)=fs.map (·.name) from G.names.symm,List.getElem?_map,Option.map_eq_some_iff] at hk
  exact hk
 refine au jT fun fn jT HY=>?_
 have HD:fn.addr=fa:=by
  have:=(G.made fn (List.mem_of_getElem? jT)).1
  rw [HY,Lb] at this
  injection this with this;injection this with this;exact this.symm
 have IQ:(ez (recsOf p) Ps).length=Ps.length:=by unfold ez;simp [hlen]
 have Gn:∀ (j:Nat) (q:Str) (P:Addr),(ez (recsOf p) Ps)[j]? = some (q,P)→Ps[j]? = some P:=fun j q P hj=>by
  unfold ez at hj
  rw [List.getElem?_zip_eq_some] at hj
  exact hj.2
 have R:ak ⟨prog,w,hideAll s.heap Ps,[],ez (recsOf p) Ps,Hn C0 C1 C2⟩ Ps ((ez (recsOf p) Ps).map fun t=>.tab t.1) s.heap:=by
  refine ⟨fun b o e=>of_hideAll Ps e,fun a ha=>hideAll_none Ps ha,by rw [List.length_map,IQ],yp,fun i a m h1 h2=>?_,fun j q P hj=>⟨Gn j q P hj,by rw [List.getElem?_map,hj];rfl⟩⟩
  rw [List.getElem?_map,Option.map_eq_some_iff] at h2
  obtain ⟨⟨q,P⟩,h2,rfl⟩:=h2
  apply aO (Option.some.inj ((Gn i q P h2).symm.trans h1))
  exact .tab (hT _ (List.mem_of_getElem? h1)).1 trivial fun pos cv e=>nomatch e
 have ed:(hideAll s.heap Ps).IsList a vs.toArray:=by
  refine fL hl fun o e dG jI=>?_
  refine ⟨o,hideAll_get Ps e fun hm=>?_,dG,jI⟩
  have:=(hT a hm).1
  rw [e] at this;cases this;cases dG
 refine Exists.elim (h ((ez (recsOf p) Ps).map fun t=>.tab t.1)) fun af FH=>?_
 have:=(xz G Of Oh d [] callerA hA rfl).1 k [.ro ns] _ (.bool true) af FH fn jT Ps s [.ref a] R (fun _ hf=>nomatch hf) (.one (.ro ed hz hv)) E
 rw [HD] at this
 refine wpAny_mono this (fun v s' hp=>?_) fun _ _ x=>x
 obtain ⟨aI,S,R',V',T'⟩:=hp
 cases V'
 refine hQ s' (Gb (fun b o e hb=>R'.base b o (hideAll_get Ps e hb)) hT fun P hP=>?_) T'.1 T'.2.2
 refine Exists.elim (List.getElem?_of_mem hP) fun j hj=>?_
 have Ck:j<(ez (recsOf p) Ps).length:=by rw [IQ];exact (List.getElem?_eq_some_iff.mp hj).1
 obtain ⟨⟨q,P'⟩,hq⟩:∃ t,(ez (recsOf p) Ps)[j]? = some t:=⟨_,List.getElem?_eq_getElem Ck⟩
 apply fQ (Option.some.inj ((Gn j q P' hq).symm.trans hj))
 refine aJ (R'.tabs j q P' hq) fun k1 k2=>?_
 cases R'.objs j P' _ k1 k2 with
 | tab h1 _ _=>exact ⟨_,h1⟩
theorem CD {p q:Program} {loose:List Str} {Xt:Shared→Bool} {α:Type} {Yf:Shared→α} {Ya:World→α} {N:Nat} {g0:Bool}
  (e:opening p=plainProg p.main.scope.names) (hN:Nat.ble 600 N=true) (f:∀ s,fenceModules? p s=some s)
  (run:∀ w os,(topFrom treeTable p w N ⟨boot_heap w.params,Array.mk [],boot_drawn,boot_toks,os⟩).map (fun s=>(openSeen q loose (importedModules p.main.body) Xt g0 s,Yf s))=some (openGood q loose,Ya w)) :
  LeftO p q loose Xt Yf Ya N g0:=fun w=>by
 obtain ⟨⟨h,gs,d,k,os⟩,e,e'⟩:=Option.map_eq_some_iff.mp (boot_open e hN f w)
 obtain ⟨rfl,rfl,rfl,rfl⟩:h=boot_heap w.params∧gs=Array.mk []∧d=boot_drawn∧k=boot_toks:=by
  injection e' with e1 e';injection e' with e2 e';injection e' with e3 e4;exact ⟨e1,e2,e3,e4⟩
 unfold openEnds
 rw [e]
 exact run w os
theorem Gp {p q:Program} {loose Iw:List Str} {w:World} {N:Nat} {s:Shared} {Xt:Shared→Bool} {g0:Bool} {α:Type} {Yf:Shared→α} :
  (topFrom treeTable p w N s).map (fun s=>(openSeen q loose Iw Xt g0 s,Yf s)) =
  (match s.heap.isNs mainGlobals&&s.gens.size==0 with
  | true=>(PySem.W.Fast.tw14082659384304107361 PySem.W.Fast.tw14364793385576792824 p w s.heap.objs.size (s.heap.nsMap mainGlobals "__annotations__") N s (topStub p)).bind fun s₁=>match staticsOk (importedModules p.main.body) s.heap s₁.heap&&namesBound p s₁.heap&&gensDone s₁&&laidKept s.heap s₁.heap with
   | true=>some s₁
   | false=>none
  | false=>none).map (fun s=>(PySem.W.Fast.tw4187177175401517315 q loose Iw Xt g0 s,Yf s)):=by
 rw [←PySem.W.Fast.te14082659384304107361,←PySem.W.Fast.te14364793385576792824,←PySem.W.Fast.te4187177175401517315]
 rfl
end Lar
namespace Lar
open PySem
noncomputable def iw:aS:=⟨1,(.cons (.assign (.one 1) (.list .nil))
 (.cons (.assign (.one 2) (.cst (.int 1)))
 (.cons (.for_ (.one 3) (.ex (.var 0)) (.cons (.assign (.one 2) (.bin .Mod (.bin .Add (.bin .Add (.bin .Mult (.var 2) (.cst (.int 6364136223846793005))) (.var 3)) (.cst (.int 1442695040888963407))) (.cst (.int 1000000000000000003))))
 (.cons (.expr (.meth .append (.var 1) (.cons (.var 2) .nil)))
 .nil)))
 (.cons (.ret (.var 1))
 .nil))))⟩
noncomputable def bX:aS:=⟨2,(.cons (.ite (.cmp .Lt (.var 1) (.prim .len (.cons (.var 0) .nil))) (.cons (.ret (.idx (.var 0) (.var 1)))
 .nil) .nil)
 (.cons (.ret (.bin .Mult (.bin .Mult (.bin .Add (.var 1) (.cst (.int 3))) (.bin .Add (.var 1) (.cst (.int 7)))) (.cst (.int 7919))))
 .nil))⟩
noncomputable def fj:aS:=⟨2,(.cons (.assign (.one 2) (.bin .Mod (.bin .Add (.bin .Add (.var 0) (.bin .Mult (.cst (.int 104729)) (.var 1))) (.bin .Mult (.bin .Mult (.cst (.int 7919)) (.var 1)) (.var 1))) (.cst (.int 998244353))))
 (.cons (.ret (.bin .Mod (.bin .Mult (.bin .Mod (.bin .Mult (.var 2) (.var 2)) (.cst (.int 998244353))) (.cst (.int 1000003))) (.cst (.int 998244353))))
 .nil))⟩
noncomputable def dL:aS:=⟨1,(.cons (.ret (.and (.prim .isInt (.cons (.var 0) .nil)) (.not (.prim .isBool (.cons (.var 0) .nil)))))
 .nil)⟩
noncomputable def dq:aS:=⟨2,(.cons (.assign (.one 2) (.bin .Mod (.var 0) (.cst (.int 8))))
 (.cons (.ite (.cmp .Eq (.var 2) (.cst (.int 0))) (.cons (.ret (.bin .Add (.cst (.int 1)) (.bin .Mod (.bin .FloorDiv (.var 0) (.cst (.int 8))) (.var 1))))
 .nil) .nil)
 (.cons (.ite (.cmp .Eq (.var 2) (.cst (.int 1))) (.cons (.ret (.bin .Add (.cst (.int 1)) (.bin .Mod (.bin .FloorDiv (.var 0) (.cst (.int 8))) (.cst (.int 60)))))
 .nil) .nil)
 (.cons (.ret (.bin .Add (.cst (.int 1)) (.bin .Mod (.bin .FloorDiv (.var 0) (.cst (.int 8))) (.cst (.int 12)))))
 .nil))))⟩
noncomputable def f8:aS:=⟨1,(.cons (.ite (.cmp .Eq (.bin .Mod (.var 0) (.cst (.int 6))) (.cst (.int 0))) (.cons (.ret (.bin .Add (.cst (.int 1)) (.bin .Mod (.bin .FloorDiv (.var 0) (.cst (.int 6))) (.cst (.int 99)))))
 .nil) .nil)
 (.cons (.ite (.cmp .Lt (.bin .Mod (.var 0) (.cst (.int 6))) (.cst (.int 3))) (.cons (.ret (.bin .Add (.cst (.int 7)) (.bin .Mod (.bin .FloorDiv (.var 0) (.cst (.int 6))) (.cst (.int 2)))))
 .nil) .nil)
 (.cons (.ret (.bin .Add (.cst (.int 1)) (.bin .Mod (.bin .FloorDiv (.var 0) (.cst (.int 6))) (.cst (.int 9)))))
 .nil)))⟩
noncomputable def cq:aS:=⟨2,(.cons (.assign (.one 2) (.cst (.str ("abcdefghijklmnopqrstuvwxyz" : Str))))
 (.cons (.assign (.one 3) (.list (.cons (.cst (.str ("total" : Str))) (.cons (.cst (.str ("day" : Str))) (.cons (.cst (.str ("flour" : Str))) (.cons (.cst (.str ("salt" : Str))) (.cons (.cst (.str ("left" : Str))) (.cons (.cst (.str ("used" : Str))) (.cons (.cst (.str ("short" : Str))) (.cons (.cst (.str ("salts" : Str))) (.cons (.cst (.str ("a" : Str))) (.cons (.cst (.str ("z" : Str))) (.cons (.cst (.str ("oil" : Str))) .nil)))))))))))))
 (.cons (.assign (.one 4) (.bin .FloorDiv (.var 0) (.cst (.int 6))))
 (.cons (.ite (.and (.cmp .Eq (.bin .Mod (.var 0) (.cst (.int 6))) (.cst (.int 0))) (.cmp .Lt (.var 1) (.cst (.int 4)))) (.cons (.ret (.idx (.var 3) (.bin .Mod (.bin .Add (.var 4) (.var 1)) (.cst (.int 11)))))
 .nil) .nil)
 (.cons (.assign (.one 5) (.cst (.str ("" : Str))))
 (.cons (.assign (.one 6) (.bin .FloorDiv (.var 4) (.cst (.int 7))))
 (.cons (.for_ (.one 7) (.rng1 (.bin .Add (.cst (.int 1)) (.bin .Mod (.var 4) (.cst (.int 7))))) (.cons (.assign (.one 6) (.bin .Add (.bin .Add (.var 6) (.cst (.int 1))) (.bin .Mod (.bin .FloorDiv (.var 4) (.cst (.int 182))) (.cst (.int 25)))))
 (.cons (.assign (.one 5) (.bin .Add (.var 5) (.idx (.var 2) (.bin .Mod (.var 6) (.cst (.int 26))))))
 .nil)))
 (.cons (.assign (.one 8) (.bin .Mod (.bin .FloorDiv (.var 4) (.cst (.int 4550))) (.prim .len (.cons (.var 5) .nil))))
 (.cons (.ite (.cmp .Gt (.var 1) (.cst (.int 3))) (.cons (.assign (.one 9) (.bin .Add (.idx (.var 2) (.bin .Mod (.bin .Add (.var 6) (.bin .FloorDiv (.var 1) (.cst (.int 26)))) (.cst (.int 26)))) (.idx (.var 2) (.bin .Mod (.var 1) (.cst (.int 26))))))
 (.cons (.ret (.bin .Add (.bin .Add (.slc (.var 5) (.cst .none) (.prim .min2 (.cons (.var 8) (.cons (.cst (.int 6)) .nil)))) (.var 9)) (.slc (.var 5) (.prim .min2 (.cons (.var 8) (.cons (.cst (.int 6)) .nil))) (.cst (.int 6)))))
 .nil)) .nil)
 (.cons (.ite (.cmp .Gt (.bin .Mod (.var 0) (.cst (.int 6))) (.cst (.int 3))) (.cons (.ret (.bin .Add (.idx (.var 2) (.bin .Mod (.bin .Add (.bin .FloorDiv (.var 4) (.cst (.int 7))) (.var 1)) (.cst (.int 26)))) (.var 5)))
 .nil) .nil)
 (.cons (.ite (.cmp .Eq (.var 1) (.cst (.int 1))) (.cons (.assign (.one 10) (.idx (.var 2) (.bin .Mod (.bin .Add (.meth .find (.var 2) (.cons (.idx (.var 5) (.var 8)) .nil)) (.cst (.int 1))) (.cst (.int 26)))))
 (.cons (.ret (.bin .Add (.bin .Add (.slc (.var 5) (.cst .none) (.var 8)) (.var 10)) (.slc (.var 5) (.bin .Add (.var 8) (.cst (.int 1))) (.cst .none))))
 .nil)) .nil)
 (.cons (.ret (.bin .Add (.var 5) (.idx (.list (.cons (.cst (.str ("" : Str))) (.cons (.cst (.str ("" : Str))) (.cons (.idx (.var 2) (.bin .Mod (.var 6) (.cst (.int 26)))) (.cons (.idx (.var 2) (.bin .Mod (.bin .Add (.var 6) (.cst (.int 1))) (.cst (.int 26)))) .nil))))) (.var 1))))
 .nil))))))))))))⟩
noncomputable def jj:aS:=⟨3,(.cons (.ite (.cmp .Eq (.bin .Mod (.var 0) (.cst (.int 24))) (.cst (.int 0))) (.cons (.ret (.bin .Mod (.bin .FloorDiv (.var 0) (.cst (.int 24))) (.bin .Add (.var 2) (.cst (.int 1)))))
 .nil) .nil)
 (.cons (.ret (.bin .Mod (.bin .FloorDiv (.var 0) (.cst (.int 24))) (.bin .Add (.var 1) (.cst (.int 1)))))
 .nil))⟩
noncomputable def bz:aS:=⟨4,(.cons (.assign (.one 4) (.comp (.var 5) (.two 5 6) (.enm (.var 0)) (.cons (.and (.cmp .Eq (.idx (.var 6) (.cst (.int 0))) (.var 2)) (.and (.cmp .GtE (.idx (.var 6) (.cst (.int 2))) (.var 3)) (.cmp .Gt (.idx (.var 1) (.var 5)) (.cst (.int 0))))) .nil)))
 (.cons (.ret (.sortK (.ex (.var 4)) 5 (.pair (.idx (.idx (.var 0) (.var 5)) (.num 2)) (.var 5))))
 .nil))⟩
noncomputable def pU:aS:=⟨4,(.cons (.assign (.one 4) (.list .nil))
 (.cons (.assign (.two 5 6) (.var 2))
 (.cons (.for_ (.one 7) (.ex (.call 0 (.cons (.var 0) (.cons (.var 1) (.cons (.var 5) (.cons (.var 3) .nil)))))) (.cons (.ite (.cmp .Gt (.var 6) (.cst (.int 0))) (.cons (.assign (.one 8) (.prim .min2 (.cons (.var 6) (.cons (.idx (.var 1) (.var 7)) .nil))))
 (.cons (.setItem (.var 1) (.var 7) (.bin .Sub (.idx (.var 1) (.var 7)) (.var 8)))
 (.cons (.assign (.one 6) (.bin .Sub (.var 6) (.var 8)))
 (.cons (.expr (.meth .append (.var 4) (.cons (.tuple (.cons (.var 7) (.cons (.var 8) .nil))) .nil)))
 .nil)))) .nil)
 .nil))
 (.cons (.ite (.cmp .Gt (.var 6) (.cst (.int 0))) (.cons (.raise_ 2 (.var 5))
 .nil) .nil)
 (.cons (.ret (.var 4))
 .nil)))))⟩
noncomputable def tL:aS:=⟨2,(.cons (.assign (.one 2) (.comp (.idx (.var 9) (.cst (.int 1))) (.one 9) (.ex (.var 1)) .nil))
 (.cons (.assign (.one 3) (.bin .Mult (.list (.cons (.tuple .nil) .nil)) (.prim .len (.cons (.var 0) .nil))))
 (.cons (.for_ (.one 4) (.ex (.sortK (.rng1 (.prim .len (.cons (.var 0) .nil))) 9 (.idx (.idx (.var 0) (.var 9)) (.num 0)))) (.cons (.assign (.two 5 6) (.idx (.var 0) (.var 4)))
 (.cons (.assign (.one 7) (.list .nil))
 (.cons (.for_ (.one 8) (.ex (.var 6)) (.cons (.expr (.meth .extend (.var 7) (.cons (.call 1 (.cons (.var 1) (.cons (.var 2) (.cons (.var 8) (.cons (.var 5) .nil))))) .nil)))
 .nil))
 (.cons (.setItem (.var 3) (.var 4) (.prim .tuple (.cons (.var 7) .nil)))
 .nil)))))
 (.cons (.ret (.prim .tuple (.cons (.var 3) .nil)))
 .nil))))⟩
noncomputable def mY:aS:=⟨1,(.cons (.assign (.one 1) (.list .nil))
 (.cons (.assign (.one 2) (.cst (.int 1)))
 (.cons (.for_ (.one 3) (.ex (.var 0)) (.cons (.assign (.one 2) (.bin .Mod (.bin .Add (.bin .Add (.bin .Mult (.var 2) (.cst (.int 6364136223846793005))) (.var 3)) (.cst (.int 1442695040888963407))) (.cst (.int 1000000000000000003))))
 (.cons (.expr (.meth .append (.var 1) (.cons (.var 2) .nil)))
 .nil)))
 (.cons (.ret (.var 1))
 .nil))))⟩
noncomputable def kG:aS:=⟨2,(.cons (.ite (.cmp .Lt (.var 1) (.prim .len (.cons (.var 0) .nil))) (.cons (.ret (.idx (.var 0) (.var 1)))
 .nil) .nil)
 (.cons (.ret (.bin .Mult (.bin .Mult (.bin .Add (.var 1) (.cst (.int 3))) (.bin .Add (.var 1) (.cst (.int 7)))) (.cst (.int 7919))))
 .nil))⟩
noncomputable def pS:aS:=⟨2,(.cons (.assign (.one 2) (.bin .Mod (.bin .Add (.bin .Add (.var 0) (.bin .Mult (.cst (.int 104729)) (.var 1))) (.bin .Mult (.bin .Mult (.cst (.int 7919)) (.var 1)) (.var 1))) (.cst (.int 998244353))))
 (.cons (.ret (.bin .Mod (.bin .Mult (.bin .Mod (.bin .Mult (.var 2) (.var 2)) (.cst (.int 998244353))) (.cst (.int 1000003))) (.cst (.int 998244353))))
 .nil))⟩
noncomputable def m7:aS:=⟨1,(.cons (.ret (.and (.prim .isInt (.cons (.var 0) .nil)) (.not (.prim .isBool (.cons (.var 0) .nil)))))
 .nil)⟩
noncomputable def kI:aS:=⟨2,(.cons (.ite (.or (.not (.prim .isTuple (.cons (.var 0) .nil))) (.cmp .NotEq (.prim .len (.cons (.var 0) .nil)) (.prim .len (.cons (.var 1) .nil)))) (.cons (.ret (.cst (.bool false)))
 .nil) .nil)
 (.cons (.for_ (.one 2) (.rng1 (.prim .len (.cons (.var 1) .nil))) (.cons (.ite (.or (.not (.call 6 (.cons (.idx (.var 0) (.var 2)) .nil))) (.cmp .NotEq (.idx (.var 0) (.var 2)) (.idx (.var 1) (.var 2)))) (.cons (.ret (.cst (.bool false)))
 .nil) .nil)
 .nil))
 (.cons (.ret (.cst (.bool true)))
 .nil)))⟩
noncomputable def kH:aS:=⟨2,(.cons (.assign (.one 2) (.cst (.str ("abcdefghijklmnopqrstuvwxyz" : Str))))
 (.cons (.assign (.one 3) (.list (.cons (.cst (.str ("total" : Str))) (.cons (.cst (.str ("day" : Str))) (.cons (.cst (.str ("flour" : Str))) (.cons (.cst (.str ("salt" : Str))) (.cons (.cst (.str ("left" : Str))) (.cons (.cst (.str ("used" : Str))) (.cons (.cst (.str ("short" : Str))) (.cons (.cst (.str ("salts" : Str))) (.cons (.cst (.str ("a" : Str))) (.cons (.cst (.str ("z" : Str))) (.cons (.cst (.str ("oil" : Str))) .nil)))))))))))))
 (.cons (.assign (.one 4) (.bin .FloorDiv (.var 0) (.cst (.int 6))))
 (.cons (.ite (.and (.cmp .Eq (.bin .Mod (.var 0) (.cst (.int 6))) (.cst (.int 0))) (.cmp .Lt (.var 1) (.cst (.int 4)))) (.cons (.ret (.idx (.var 3) (.bin .Mod (.bin .Add (.var 4) (.var 1)) (.cst (.int 11)))))
 .nil) .nil)
 (.cons (.assign (.one 5) (.cst (.str ("" : Str))))
 (.cons (.assign (.one 6) (.bin .FloorDiv (.var 4) (.cst (.int 7))))
 (.cons (.for_ (.one 7) (.rng1 (.bin .Add (.cst (.int 1)) (.bin .Mod (.var 4) (.cst (.int 7))))) (.cons (.assign (.one 6) (.bin .Add (.bin .Add (.var 6) (.cst (.int 1))) (.bin .Mod (.bin .FloorDiv (.var 4) (.cst (.int 182))) (.cst (.int 25)))))
 (.cons (.assign (.one 5) (.bin .Add (.var 5) (.idx (.var 2) (.bin .Mod (.var 6) (.cst (.int 26))))))
 .nil)))
 (.cons (.assign (.one 8) (.bin .Mod (.bin .FloorDiv (.var 4) (.cst (.int 4550))) (.prim .len (.cons (.var 5) .nil))))
 (.cons (.ite (.cmp .Gt (.var 1) (.cst (.int 3))) (.cons (.assign (.one 9) (.bin .Add (.idx (.var 2) (.bin .Mod (.bin .Add (.var 6) (.bin .FloorDiv (.var 1) (.cst (.int 26)))) (.cst (.int 26)))) (.idx (.var 2) (.bin .Mod (.var 1) (.cst (.int 26))))))
 (.cons (.ret (.bin .Add (.bin .Add (.slc (.var 5) (.cst .none) (.prim .min2 (.cons (.var 8) (.cons (.cst (.int 6)) .nil)))) (.var 9)) (.slc (.var 5) (.prim .min2 (.cons (.var 8) (.cons (.cst (.int 6)) .nil))) (.cst (.int 6)))))
 .nil)) .nil)
 (.cons (.ite (.cmp .Gt (.bin .Mod (.var 0) (.cst (.int 6))) (.cst (.int 3))) (.cons (.ret (.bin .Add (.idx (.var 2) (.bin .Mod (.bin .Add (.bin .FloorDiv (.var 4) (.cst (.int 7))) (.var 1)) (.cst (.int 26)))) (.var 5)))
 .nil) .nil)
 (.cons (.ite (.cmp .Eq (.var 1) (.cst (.int 1))) (.cons (.assign (.one 10) (.idx (.var 2) (.bin .Mod (.bin .Add (.meth .find (.var 2) (.cons (.idx (.var 5) (.var 8)) .nil)) (.cst (.int 1))) (.cst (.int 26)))))
 (.cons (.ret (.bin .Add (.bin .Add (.slc (.var 5) (.cst .none) (.var 8)) (.var 10)) (.slc (.var 5) (.bin .Add (.var 8) (.cst (.int 1))) (.cst .none))))
 .nil)) .nil)
 (.cons (.ret (.bin .Add (.var 5) (.idx (.list (.cons (.cst (.str ("" : Str))) (.cons (.cst (.str ("" : Str))) (.cons (.idx (.var 2) (.bin .Mod (.var 6) (.cst (.int 26)))) (.cons (.idx (.var 2) (.bin .Mod (.bin .Add (.var 6) (.cst (.int 1))) (.cst (.int 26)))) .nil))))) (.var 1))))
 .nil))))))))))))⟩
noncomputable def lW:aS:=⟨2,(.cons (.assign (.one 2) (.bin .Mod (.var 0) (.cst (.int 8))))
 (.cons (.ite (.cmp .Eq (.var 2) (.cst (.int 0))) (.cons (.ret (.bin .Add (.cst (.int 1)) (.bin .Mod (.bin .FloorDiv (.var 0) (.cst (.int 8))) (.var 1))))
 .nil) .nil)
 (.cons (.ite (.cmp .Eq (.var 2) (.cst (.int 1))) (.cons (.ret (.bin .Add (.cst (.int 1)) (.bin .Mod (.bin .FloorDiv (.var 0) (.cst (.int 8))) (.cst (.int 60)))))
 .nil) .nil)
 (.cons (.ret (.bin .Add (.cst (.int 1)) (.bin .Mod (.bin .FloorDiv (.var 0) (.cst (.int 8))) (.cst (.int 12)))))
 .nil))))⟩
noncomputable def oi:aS:=⟨1,(.cons (.ite (.cmp .Eq (.bin .Mod (.var 0) (.cst (.int 6))) (.cst (.int 0))) (.cons (.ret (.bin .Add (.cst (.int 1)) (.bin .Mod (.bin .FloorDiv (.var 0) (.cst (.int 6))) (.cst (.int 99)))))
 .nil) .nil)
 (.cons (.ite (.cmp .Lt (.bin .Mod (.var 0) (.cst (.int 6))) (.cst (.int 3))) (.cons (.ret (.bin .Add (.cst (.int 7)) (.bin .Mod (.bin .FloorDiv (.var 0) (.cst (.int 6))) (.cst (.int 2)))))
 .nil) .nil)
 (.cons (.ret (.bin .Add (.cst (.int 1)) (.bin .Mod (.bin .FloorDiv (.var 0) (.cst (.int 6))) (.cst (.int 9)))))
 .nil)))⟩
noncomputable def lY:aS:=⟨3,(.cons (.assign (.one 3) (.list .nil))
 (.cons (.for_ (.one 4) (.rng1 (.var 2)) (.cons (.assign (.one 5) (.call 5 (.cons (.call 4 (.cons (.var 0) (.cons (.bin .Add (.cst (.int 3)) (.bin .Mod (.var 4) (.cst (.int 20)))) .nil))) (.cons (.var 4) .nil))))
 (.cons (.assign (.one 6) (.list .nil))
 (.cons (.assign (.one 7) (.idx (.list (.cons (.bin .Mod (.bin .FloorDiv (.var 5) (.cst (.int 7))) (.cst (.int 4))) (.cons (.bin .Mod (.bin .FloorDiv (.var 5) (.cst (.int 7))) (.cst (.int 21))) .nil))) (.prim .int (.cons (.cmp .Eq (.bin .Mod (.bin .FloorDiv (.var 5) (.cst (.int 147))) (.cst (.int 40))) (.cst (.int 0))) .nil))))
 (.cons (.for_ (.one 8) (.rng1 (.var 7)) (.cons (.assign (.one 9) (.call 5 (.cons (.bin .FloorDiv (.var 5) (.cst (.int 28))) (.cons (.bin .Add (.var 8) (.cst (.int 1))) .nil))))
 (.cons (.assign (.one 10) (.bin .Add (.cst (.int 1)) (.bin .Mod (.bin .FloorDiv (.var 9) (.cst (.int 60))) (.cst (.int 12)))))
 (.cons (.ite (.cmp .Eq (.bin .Mod (.bin .FloorDiv (.var 9) (.cst (.int 720))) (.cst (.int 40))) (.cst (.int 0))) (.cons (.assign (.one 10) (.call 9 (.cons (.bin .FloorDiv (.var 9) (.cst (.int 28800))) (.cons (.cst (.int 200)) .nil))))
 .nil) .nil)
 (.cons (.expr (.meth .append (.var 6) (.cons (.tuple (.cons (.call 8 (.cons (.idx (.var 1) (.cst (.int 0))) (.cons (.bin .Mod (.bin .Mod (.var 9) (.cst (.int 60))) (.idx (.var 1) (.cst (.int 1)))) .nil))) (.cons (.var 10) .nil))) .nil)))
 .nil)))))
 (.cons (.expr (.meth .append (.var 3) (.cons (.tuple (.cons (.bin .Add (.cst (.int 1)) (.bin .Mod (.var 5) (.cst (.int 7)))) (.cons (.prim .tuple (.cons (.var 6) .nil)) .nil))) .nil)))
 .nil))))))
 (.cons (.ret (.prim .tuple (.cons (.var 3) .nil)))
 .nil)))⟩
noncomputable def lZ:aS:=⟨3,(.cons (.assign (.one 3) (.list .nil))
 (.cons (.for_ (.one 4) (.rng1 (.var 2)) (.cons (.assign (.one 5) (.call 5 (.cons (.call 4 (.cons (.var 0) (.cons (.bin .Add (.cst (.int 23)) (.bin .Mod (.var 4) (.cst (.int 10)))) .nil))) (.cons (.bin .Add (.cst (.int 40)) (.var 4)) .nil))))
 (.cons (.assign (.one 6) (.call 5 (.cons (.var 5) (.cons (.var 4) .nil))))
 (.cons (.expr (.meth .append (.var 3) (.cons (.tuple (.cons (.call 8 (.cons (.idx (.var 1) (.cst (.int 0))) (.cons (.bin .Mod (.bin .Mod (.var 5) (.cst (.int 60))) (.idx (.var 1) (.cst (.int 1)))) .nil))) (.cons (.call 9 (.cons (.bin .FloorDiv (.var 5) (.cst (.int 60))) (.cons (.cst (.int 200)) .nil))) (.cons (.call 10 (.cons (.var 6) .nil)) .nil)))) .nil)))
 .nil))))
 (.cons (.ret (.prim .tuple (.cons (.var 3) .nil)))
 .nil)))⟩
noncomputable def m6:aS:=⟨1,(.cons (.ite (.cmp .Eq (.bin .Mod (.var 0) (.cst (.int 9))) (.cst (.int 0))) (.cons (.ret (.bin .Mod (.bin .FloorDiv (.var 0) (.cst (.int 9))) (.cst (.int 1000001))))
 .nil) .nil)
 (.cons (.ite (.cmp .Eq (.bin .Mod (.var 0) (.cst (.int 9))) (.cst (.int 1))) (.cons (.ret (.cst (.int 0)))
 .nil) .nil)
 (.cons (.ret (.bin .Mod (.bin .FloorDiv (.var 0) (.cst (.int 9))) (.cst (.int 30))))
 .nil)))⟩
noncomputable def m5:aS:=⟨3,(.cons (.assign (.one 3) (.list .nil))
 (.cons (.for_ (.one 4) (.rng1 (.var 2)) (.cons (.assign (.one 5) (.call 5 (.cons (.call 4 (.cons (.var 0) (.cons (.bin .Add (.cst (.int 33)) (.bin .Mod (.var 4) (.cst (.int 10)))) .nil))) (.cons (.bin .Add (.cst (.int 80)) (.var 4)) .nil))))
 (.cons (.assign (.one 6) (.call 5 (.cons (.var 5) (.cons (.bin .Add (.var 4) (.cst (.int 1))) .nil))))
 (.cons (.assign (.one 7) (.call 8 (.cons (.idx (.var 1) (.cst (.int 0))) (.cons (.bin .Mod (.bin .Mod (.var 5) (.cst (.int 60))) (.idx (.var 1) (.cst (.int 1)))) .nil))))
 (.cons (.expr (.meth .append (.var 3) (.cons (.tuple (.cons (.var 7) (.cons (.call 9 (.cons (.bin .FloorDiv (.var 5) (.cst (.int 60))) (.cons (.cst (.int 200)) .nil))) (.cons (.call 13 (.cons (.var 6) .nil)) (.cons (.call 10 (.cons (.bin .FloorDiv (.var 6) (.cst (.int 997))) .nil)) .nil))))) .nil)))
 .nil)))))
 (.cons (.ret (.prim .tuple (.cons (.var 3) .nil)))
 .nil)))⟩
noncomputable def mZ:aS:=⟨1,(.cons (.assign (.one 1) (.call 4 (.cons (.var 0) (.cons (.cst (.int 0)) .nil))))
 (.cons (.assign (.one 2) (.idx (.list (.cons (.cst (.int 1)) (.cons (.cst (.int 2)) (.cons (.cst (.int 3)) (.cons (.cst (.int 4)) .nil))))) (.bin .Mod (.call 4 (.cons (.var 0) (.cons (.cst (.int 1)) .nil))) (.cst (.int 4)))))
 (.cons (.ite (.cmp .Eq (.bin .Mod (.bin .FloorDiv (.call 4 (.cons (.var 0) (.cons (.cst (.int 1)) .nil))) (.cst (.int 4))) (.cst (.int 16))) (.cst (.int 0))) (.cons (.assign (.one 2) (.cst (.int 12)))
 .nil) .nil)
 (.cons (.ret (.list (.cons (.var 1) (.cons (.var 2) .nil))))
 .nil))))⟩
noncomputable def oj:aS:=⟨3,(.cons (.ite (.cmp .Eq (.bin .Mod (.var 0) (.cst (.int 24))) (.cst (.int 0))) (.cons (.ret (.bin .Mod (.bin .FloorDiv (.var 0) (.cst (.int 24))) (.bin .Add (.var 2) (.cst (.int 1)))))
 .nil) .nil)
 (.cons (.ret (.bin .Mod (.bin .FloorDiv (.var 0) (.cst (.int 24))) (.bin .Add (.var 1) (.cst (.int 1)))))
 .nil))⟩
noncomputable def ch:aS:=⟨4,(.cons (.assign (.one 4) (.cst .none))
 (.cons (.for_ (.one 5) (.rng1 (.prim .len (.cons (.var 0) .nil))) (.cons (.ite (.and (.cmp .Eq (.idx (.idx (.var 0) (.var 5)) (.cst (.int 0))) (.var 2)) (.and (.cmp .GtE (.idx (.idx (.var 0) (.var 5)) (.cst (.int 2))) (.var 3)) (.cmp .Gt (.idx (.var 1) (.var 5)) (.cst (.int 0))))) (.cons (.ite (.or (.cmp .Is (.var 4) (.cst .none)) (.cmp .Lt (.idx (.idx (.var 0) (.var 5)) (.cst (.int 2))) (.idx (.idx (.var 0) (.var 4)) (.cst (.int 2))))) (.cons (.assign (.one 4) (.var 5))
 .nil) .nil)
 .nil) .nil)
 .nil))
 (.cons (.ret (.var 4))
 .nil)))⟩
noncomputable def pR:aS:=⟨5,(.cons (.assign (.one 5) (.list .nil))
 (.cons (.while_ (.cmp .Gt (.var 3) (.cst (.int 0))) (.cons (.assign (.one 6) (.call 17 (.cons (.var 0) (.cons (.var 1) (.cons (.var 2) (.cons (.var 4) .nil))))))
 (.cons (.ite (.cmp .Is (.var 6) (.cst .none)) (.cons (.ret (.cst .none))
 .nil) .nil)
 (.cons (.assign (.one 7) (.prim .min2 (.cons (.var 3) (.cons (.idx (.var 1) (.var 6)) .nil))))
 (.cons (.expr (.meth .append (.var 5) (.cons (.tuple (.cons (.var 6) (.cons (.var 7) .nil))) .nil)))
 (.cons (.setItem (.var 1) (.var 6) (.bin .Sub (.idx (.var 1) (.var 6)) (.var 7)))
 (.cons (.assign (.one 3) (.bin .Sub (.var 3) (.var 7)))
 .nil)))))))
 (.cons (.ret (.var 5))
 .nil)))⟩
noncomputable def lX:aS:=⟨2,(.cons (.assign (.one 2) (.comp (.idx (.var 8) (.cst (.int 1))) (.one 8) (.ex (.var 1)) .nil))
 (.cons (.assign (.one 3) (.bin .Mult (.list (.cons (.tuple .nil) .nil)) (.prim .len (.cons (.var 0) .nil))))
 (.cons (.for_ (.one 4) (.rng2 (.cst (.int 1)) (.cst (.int 8))) (.cons (.for_ (.one 5) (.rng1 (.prim .len (.cons (.var 0) .nil))) (.cons (.ite (.cmp .Eq (.idx (.idx (.var 0) (.var 5)) (.cst (.int 0))) (.var 4)) (.cons (.for_ (.one 6) (.ex (.idx (.idx (.var 0) (.var 5)) (.cst (.int 1)))) (.cons (.assign (.one 7) (.call 18 (.cons (.var 1) (.cons (.var 2) (.cons (.idx (.var 6) (.cst (.int 0))) (.cons (.idx (.var 6) (.cst (.int 1))) (.cons (.var 4) .nil)))))))
 (.cons (.ite (.cmp .Is (.var 7) (.cst .none)) (.cons (.ret (.idx (.var 6) (.cst (.int 0))))
 .nil) .nil)
 (.cons (.setItem (.var 3) (.var 5) (.bin .Add (.idx (.var 3) (.var 5)) (.prim .tuple (.cons (.var 7) .nil))))
 .nil))))
 .nil) .nil)
 .nil))
 .nil))
 (.cons (.ret (.var 3))
 .nil))))⟩
noncomputable def mX:aS:=⟨2,(.cons (.try_ (.cons (.ret (.call 2 (.cons (.var 0) (.cons (.var 1) .nil))))
 .nil) 2 (.cons (.ite (.or (.isC 1 (.var 2)) (.or (.not (.isC 2 (.var 2))) (.not (.isC 3 (.var 2))))) (.cons (.ret (.cst .none))
 .nil) .nil)
 (.cons (.ret (.list (.cons (.word (.var 2)) .nil)))
 .nil)))
 .nil)⟩
noncomputable def om:aS:=⟨2,(.cons (.ite (.or (.not (.prim .isTuple (.cons (.var 0) .nil))) (.cmp .NotEq (.prim .len (.cons (.var 0) .nil)) (.prim .len (.cons (.var 1) .nil)))) (.cons (.ret (.cst (.bool false)))
 .nil) .nil)
 (.cons (.for_ (.one 2) (.rng1 (.prim .len (.cons (.var 1) .nil))) (.cons (.ite (.or (.not (.prim .isTuple (.cons (.idx (.var 0) (.var 2)) .nil))) (.cmp .NotEq (.prim .len (.cons (.idx (.var 0) (.var 2)) .nil)) (.prim .len (.cons (.idx (.var 1) (.var 2)) .nil)))) (.cons (.ret (.cst (.bool false)))
 .nil) .nil)
 (.cons (.for_ (.one 3) (.rng1 (.prim .len (.cons (.idx (.var 1) (.var 2)) .nil))) (.cons (.ite (.not (.call 7 (.cons (.idx (.idx (.var 0) (.var 2)) (.var 3)) (.cons (.idx (.idx (.var 1) (.var 2)) (.var 3)) .nil)))) (.cons (.ret (.cst (.bool false)))
 .nil) .nil)
 .nil))
 .nil)))
 (.cons (.ret (.cst (.bool true)))
 .nil)))⟩
noncomputable def pT:aS:=⟨1,(.cons (.assign (.one 1) (.call 3 (.cons (.var 0) .nil)))
 (.cons (.assign (.one 2) (.call 15 (.cons (.var 1) .nil)))
 (.cons (.assign (.one 3) (.call 4 (.cons (.var 1) (.cons (.cst (.int 2)) .nil))))
 (.cons (.assign (.one 4) (.call 11 (.cons (.var 1) (.cons (.var 2) (.cons (.call 16 (.cons (.var 3) (.cons (.cst (.int 5)) (.cons (.cst (.int 60)) .nil)))) .nil)))))
 (.cons (.assign (.one 5) (.call 12 (.cons (.var 1) (.cons (.var 2) (.cons (.call 16 (.cons (.bin .FloorDiv (.var 3) (.cst (.int 1500))) (.cons (.cst (.int 8)) (.cons (.cst (.int 120)) .nil)))) .nil)))))
 (.cons (.ite (.cmp .Eq (.bin .Mod (.bin .FloorDiv (.var 3) (.cst (.int 60000))) (.cst (.int 3))) (.cst (.int 1))) (.cons (.for_ (.one 6) (.rng1 (.idx (.var 2) (.cst (.int 1)))) (.cons (.assign (.one 5) (.bin .Add (.var 5) (.tuple (.cons (.tuple (.cons (.call 8 (.cons (.idx (.var 2) (.cst (.int 0))) (.cons (.var 6) .nil))) (.cons (.cst (.int 200)) (.cons (.bin .Add (.cst (.int 7)) (.var 6)) .nil)))) .nil))))
 .nil))
 .nil) .nil)
 (.cons (.assign (.one 7) (.call 19 (.cons (.var 4) (.cons (.var 5) .nil))))
 (.cons (.assign (.one 8) (.call 20 (.cons (.var 4) (.cons (.var 5) .nil))))
 (.cons (.ite (.prim .isStr (.cons (.var 7) .nil)) (.cons (.ret (.and (.cmp .Eq (.var 8) (.list (.cons (.var 7) .nil))) (.prim .isStr (.cons (.idx (.var 8) (.cst (.int 0))) .nil))))
 .nil) .nil)
 (.cons (.ret (.and (.call 21 (.cons (.var 8) (.cons (.var 7) .nil))) (.cmp .Eq (.call 20 (.cons (.var 4) (.cons (.var 5) .nil))) (.var 8))))
 .nil))))))))))⟩
noncomputable def P08:List aS:=[bz,pU,tL,mY,kG,pS,m7,kI,kH,lW,oi,lY,lZ,m6,m5,mZ,oj,ch,pR,lX,mX,om,pT]
noncomputable def consts08:List (Str×Int):=[]
noncomputable def aM (σ af:ag):Prop:=∀ (i:Nat) (o:aZ),σ[i]? = some o→af[i]? = some o
theorem aM.refl (σ:ag):aM σ σ:=fun _ _ h=>h
theorem aM.trans {a b c:ag} (x:aM a b) (y:aM b c):aM a c:=fun i o h=>y i o (x i o h)
theorem aM.app (σ τ:ag):aM σ (σ++τ):=fun i o h=>by
 rw [List.getElem?_append_left (List.getElem?_eq_some_iff.mp h).1];exact h
theorem aM.set {σ af:ag} {r:Nat} {m:aZ} (h:aM σ af) (hr:σ.length≤r):aM σ (af.set r m):=fun i o e=>by
 have hi:i<σ.length:=(List.getElem?_eq_some_iff.mp e).1
 rw [List.getElem?_set_ne (by exact fun q0=>l3 0xac080810b1011b0214b21 rfl hr hi q0)]
 exact h i o e
theorem pI {P:List aS} {d k:Nat} {f:aS} {as:List V} {σ:ag} (hk:P[k]? = some f) (ha:as.length=f.arity):ax P (d+1) k as σ=l7 (aB (ax P d) f.body (cz as) σ):=by
 simp only [ax,hk,Option.bind_some,ha,if_true]
theorem Ih (a b:Int):(a==b)=decide (a=b):=by
 by_cases h:a=b <;> simp [h]
theorem cA {a b:Int} (h:0<b):0≤a.fmod b∧a.fmod b<b:=⟨Int.fmod_nonneg_of_pos a h,Int.fmod_lt_of_pos a h⟩
theorem fS {a b:Int} (h:b.natAbs<18446744073709551616):lJ a b=true:=by simp [lJ,h]
noncomputable def xh (x y:Int):Int:=((((((x+104729 * y)+(7919 * y) * y).fmod 998244353) * (((x+104729 * y)+(7919 * y) * y).fmod 998244353)).fmod 998244353) * 1000003).fmod 998244353
noncomputable def cellF (cs:List Int) (k:Nat):Int:=match cs[k]? with | some x=>x | none=>((k:Int)+3) * ((k:Int)+7) * 7919
noncomputable def fi (x m:Int):Int:=if x.fmod 8=0 then 1+(x.fdiv 8).fmod m else if x.fmod 8=1 then 1+(x.fdiv 8).fmod 60 else 1+(x.fdiv 8).fmod 12
theorem og (x:Int):1≤fi x 200∧fi x 200≤200:=by
 have a:=cA (a:=x.fdiv 8) (b:=200) (by decide)
 have b:=cA (a:=x.fdiv 8) (b:=60) (by decide)
 have c:=cA (a:=x.fdiv 8) (b:=12) (by decide)
 unfold fi
 split
 ·omega
 ·split <;> omega
noncomputable def jY (x:Int):Int:=if x.fmod 6=0 then 1+(x.fdiv 6).fmod 99 else if x.fmod 6<3 then 7+(x.fdiv 6).fmod 2 else 1+(x.fdiv 6).fmod 9
theorem rP (x:Int):1≤jY x∧jY x≤99:=by
 have a:=cA (a:=x.fdiv 6) (b:=99) (by decide)
 have b:=cA (a:=x.fdiv 6) (b:=2) (by decide)
 have c:=cA (a:=x.fdiv 6) (b:=9) (by decide)
 unfold jY
 split
 ·omega
 ·split <;> omega
theorem Ac {body:aF→ag→Option (b8×aF×ag)} {t:ge} {w:List (Nat×aZ)} {xs:List V} {ρ:aF} {σ:ag} (I:Nat→aF→ag→Prop) (h0:I 0 ρ σ) (hw:∀ k ρ σ,I k ρ σ→cn σ w)
  (step:∀ k x ρ σ,xs[k]? = some x→I k ρ σ→∃ ρ' bA bB,t.put x ρ=some ρ'∧body ρ' σ=some (.next,bA,bB)∧I (k+1) bA bB) :
  ∃ oH σe,dP body t w xs ρ σ=some (.next,oH,σe)∧I xs.length oH σe:=by
 suffices H:∀ (ys:List V) (k:Nat) (ρ:aF) (σ:ag),xs.drop k=ys→k≤xs.length→I k ρ σ→∃ oH σe,dP body t w ys ρ σ=some (.next,oH,σe)∧I xs.length oH σe from H xs 0 ρ σ (by simp) (Nat.zero_le _) h0
 intro ys
 induction ys with
 | nil =>
  intro k ρ σ hd hk hI
  have:k=xs.length:=by
   have:=congrArg List.length hd
   simp at this;exact Nat.le_antisymm (hk) (l3 0xc2114b08010ba201 rfl this (sA _ _))
  subst this
  exact ⟨ρ,σ,by simp [dP,c8,gv,g7,Option.bind_some,hw _ _ _ hI],hI⟩
 | cons y ys ih =>
  intro k ρ σ hd hk hI
  have bQ:k<xs.length:=by
   have:=congrArg List.length hd
   simp at this;exact l4 0x1c3215ba181014b3a20 rfl this (sC (hk))
  have hx:xs[k]? = some y:=by
   have:=congrArg (·[0]?) hd
   simpa using this
  refine qL (step k y ρ σ hx hI) fun ρ' bA bB h1 h2 h3=>?_
  refine fv (ih (k+1) bA bB (by rw [←List.drop_drop,hd];simp) bQ h3) fun oH σe h4 h5=>?_
  exact ⟨oH,σe,by simp [dP,c8,gv,g7,Option.bind_some,hw _ _ _ hI,h1,h2,h4],h5⟩
theorem dh (σ:ag):cn σ []:=fun _ h=>nomatch h
theorem A4 {σ:ag} {r:Nat} {m:aZ} (h:σ[r]? = some m):cn σ [(r,m)]:=fun p hp=>by rw [List.mem_singleton.mp hp];exact h
theorem a8 (σ:ag) (m:aZ):(σ++[m])[σ.length]? = some m:=by simp
noncomputable def W (call:ar) (ss:fu) (ρ:aF) (σ:ag) (Q:b8→aF→ag→Prop):Prop:=∃ fl ρ' af,aB call ss ρ σ=some (fl,ρ',af)∧Q fl ρ' af
theorem tI {call:ar} {ρ:aF} {σ σ₁ ae:ag} {a i:CE} {x y r:V} (ha:ab call a ρ σ=some (x,σ₁)) (hi:ab call i ρ σ₁=some (y,ae)) (h:iz x y ae=some r):ab call (.idx a i) ρ σ=some (r,ae):=by
 show a9 (ab call a ρ σ) (fun x σ₁=>a9 (ab call i ρ σ₁) fun y ae=>(iz x y ae).bind fun r=>some (r,ae))=_
 rw [ha]
 show a9 (ab call i ρ σ₁) (fun y ae=>(iz x y ae).bind fun r=>some (r,ae))=_
 rw [hi]
 show (iz x y ae).bind (fun r=>some (r,ae))=_
 rw [h];rfl
theorem mw {l:List V} {k:Int} {x:V} (lB:0≤k) (hx:l[k.toNat]? = some x):zK l (.int k)=some x:=by
 show (if 0≤k then l[k.toNat]? else none)=_
 rw [if_pos lB,hx]
theorem bR {call:ar} {ρ:aF} {σ σ₁ ae:ag} {a i:CE} (r:Nat) (k:Int) (l:List V) (x:V) (ha:ab call a ρ σ=some (.ref r,σ₁)) (hi:ab call i ρ σ₁=some (.int k,ae)) (hr:ae[r]? = some (.lst l)) (lB:0≤k) (hx:l[k.toNat]? = some x):ab call (.idx a i) ρ σ=some (x,ae) :=
 tI ha hi (by
  show (ae[r]?).bind (FR (.int k))=_
  rw [hr]
  exact mw lB hx)
theorem bS {call:ar} {ρ:aF} {σ σ₁ ae:ag} {a i:CE} (k:Int) (l:List V) (x:V) (ha:ab call a ρ σ=some (.tup l,σ₁)) (hi:ab call i ρ σ₁=some (.int k,ae)) (lB:0≤k) (hx:l[k.toNat]? = some x):ab call (.idx a i) ρ σ=some (x,ae) :=
 tI ha hi (mw lB hx)
theorem aw {call:ar} {f:Nat} {as:eG} {ρ:aF} {σ σ₁ ae:ag} {vs:List V} {v:V} (h:aL call as ρ σ=some (vs,σ₁)) (hc:call f vs σ₁=some (.ok v,ae)):ab call (.call f as) ρ σ=some (v,ae):=by
 show a9 (aL call as ρ σ) (fun vs σ₁=>a9 (call f vs σ₁) fun r ae=>(Jy r).bind fun v=>some (v,ae))=_
 rw [h]
 show a9 (call f vs σ₁) (fun r ae=>(Jy r).bind fun v=>some (v,ae))=_
 rw [hc];rfl
theorem a6 {call:ar} {op:Operator} {a b:CE} {ρ:aF} {σ σ₁ ae:ag} {x y:V} {r:Option (V×ag)} (ha:ab call a ρ σ=some (x,σ₁)) (hb:ab call b ρ σ₁=some (y,ae)) (h:jP op x y ae=r):ab call (.bin op a b) ρ σ=r:=by
 show a9 (ab call a ρ σ) (fun x σ₁=>a9 (ab call b ρ σ₁) fun y ae=>jP op x y ae)=_
 rw [ha]
 show a9 (ab call b ρ σ₁) (fun y ae=>jP op x y ae)=_
 rw [hb];exact h
theorem iH {x y:Int} {σ:ag} (m:lJ x y=true):jP .Mult (.int x) (.int y) σ=some (.int (x * y),σ):=by
 show (if lJ x y=true then some (V.int (x * y),σ) else none)=_
 rw [if_pos m]
theorem ek {x y:Int} {σ:ag} (m:y≠0):jP .Mod (.int x) (.int y) σ=some (.int (x.fmod y),σ):=by
 show (if y=0 then none else some (x.fmod y)).bind (fun z=>some (V.int z,σ))=_
 rw [if_neg m];rfl
theorem zc {x y:Int} {σ:ag} (m:y≠0) (m':y.natAbs<1073741824):jP .FloorDiv (.int x) (.int y) σ=some (.int (x.fdiv y),σ):=by
 show (if y=0∨1073741824≤y.natAbs then none else some (x.fdiv y)).bind (fun z=>some (V.int z,σ))=_
 rw [if_neg (not_or.mpr ⟨m,Nat.not_le.mpr m'⟩)];rfl
theorem dg {call:ar} {op:CmpOp} {a b:CE} {ρ:aF} {σ σ₁ ae:ag} {x y:V} {c:Bool} (ha:ab call a ρ σ=some (x,σ₁)) (hb:ab call b ρ σ₁=some (y,ae)) (h:mK op x y ae=some c):ab call (.cmp op a b) ρ σ=some (.bool c,ae):=by
 show a9 (ab call a ρ σ) (fun x σ₁=>a9 (ab call b ρ σ₁) fun y ae=>(mK op x y ae).bind fun r=>some (V.bool r,ae))=_
 rw [ha]
 show a9 (ab call b ρ σ₁) (fun y ae=>(mK op x y ae).bind fun r=>some (V.bool r,ae))=_
 rw [hb]
 show (mK op x y ae).bind (fun r=>some (V.bool r,ae))=_
 rw [h];rfl
theorem jy {call:ar} {a:CE} {ρ:aF} {σ σ₁:ag} {b:Bool} (ha:ab call a ρ σ=some (.bool b,σ₁)):ab call (.not a) ρ σ=some (.bool (!b),σ₁):=by
 show gf (ab call a ρ σ) (fun b σ₁=>some (V.bool (!b),σ₁))=_
 rw [ha];rfl
theorem pN {call:ar} {a b:CE} {ρ:aF} {σ σ₁:ag} {r:Option (V×ag)} (ha:ab call a ρ σ=some (.bool true,σ₁)) (hb:ab call b ρ σ₁=r):ab call (.and a b) ρ σ=r:=by
 show gf (ab call a ρ σ) (fun p σ₁=>if p then ab call b ρ σ₁ else some (.bool false,σ₁))=_
 rw [ha];exact hb
theorem vf {call:ar} {a b:CE} {ρ:aF} {σ σ₁:ag} (ha:ab call a ρ σ=some (.bool false,σ₁)):ab call (.and a b) ρ σ=some (.bool false,σ₁):=by
 show gf (ab call a ρ σ) (fun p σ₁=>if p then ab call b ρ σ₁ else some (.bool false,σ₁))=_
 rw [ha];rfl
theorem mR {call:ar} {a b:CE} {ρ:aF} {σ σ₁:ag} {r:Option (V×ag)} (ha:ab call a ρ σ=some (.bool false,σ₁)) (hb:ab call b ρ σ₁=r):ab call (.or a b) ρ σ=r:=by
 show gf (ab call a ρ σ) (fun p σ₁=>if p then some (.bool true,σ₁) else ab call b ρ σ₁)=_
 rw [ha];exact hb
theorem E8 {call:ar} {a b:CE} {ρ:aF} {σ σ₁:ag} (ha:ab call a ρ σ=some (.bool true,σ₁)):ab call (.or a b) ρ σ=some (.bool true,σ₁):=by
 show gf (ab call a ρ σ) (fun p σ₁=>if p then some (.bool true,σ₁) else ab call b ρ σ₁)=_
 rw [ha];rfl
theorem bh {call:ar} {p:ie} {as:eG} {ρ:aF} {σ σ₁:ag} {vs:List V} {r:Option (V×ag)} (h:aL call as ρ σ=some (vs,σ₁)) (hp:gM p vs σ₁=r):ab call (.prim p as) ρ σ=r:=by
 show a9 (aL call as ρ σ) (fun vs σ₁=>gM p vs σ₁)=_
 rw [h];exact hp
theorem aN {call:ar} {e:CE} {ρ:aF} {σ σ₁:ag} {v:V} (h:ab call e ρ σ=some (v,σ₁)):aL call (.cons e .nil) ρ σ=some ([v],σ₁):=by
 show a9 (ab call e ρ σ) (fun v σ₁=>a9 (aL call .nil ρ σ₁) fun vs ae=>some (v::vs,ae))=_
 rw [h];rfl
theorem bK {call:ar} {e:CE} {r:eG} {ρ:aF} {σ σ₁ ae:ag} {v:V} {vs:List V} (h:ab call e ρ σ=some (v,σ₁)) (hr:aL call r ρ σ₁=some (vs,ae)):aL call (.cons e r) ρ σ=some (v::vs,ae):=by
 show a9 (ab call e ρ σ) (fun v σ₁=>a9 (aL call r ρ σ₁) fun vs ae=>some (v::vs,ae))=_
 rw [h]
 show a9 (aL call r ρ σ₁) (fun vs ae=>some (v::vs,ae))=_
 rw [hr];rfl
theorem bj {call:ar} {i:Nat} {ρ:aF} {σ:ag} {v:V} (h:ρ i=some v):ab call (.var i) ρ σ=some (v,σ):=by
 show (ρ i).bind (fun v=>some (v,σ))=_
 rw [h];rfl
theorem vg {call:ar} {elt:CE} {t:ge} {it:gd} {gc:eG} {ρ:aF} {σ σ₁ ae:ag} {xs l:List V} {w:List (Nat×aZ)} (hs:cm call it ρ σ=some (xs,w,σ₁)) (hc:fP (ab call elt) (cY call gc) t w xs ρ σ₁=some (l,ae)) (hz:l.length≤an):ab call (.comp elt t it gc) ρ σ=some (.ref ae.length,ae++[.lst l]):=by
 show g7 (cm call it ρ σ) (fun xs w σ₁=>a9 (fP (ab call elt) (cY call gc) t w xs ρ σ₁) fun l ae=>xi ae l)=_
 rw [hs]
 show a9 (fP (ab call elt) (cY call gc) t w xs ρ σ₁) (fun l ae=>xi ae l)=_
 rw [hc]
 exact if_pos hz
theorem gK {σ:ag} (l:List V):gM .len [.tup l] σ=some (.int l.length,σ):=rfl
theorem eA {σ:ag} {r:Nat} {l:List V} (hr:σ[r]? = some (.lst l)) (hz:l.length≤an):gM .tuple [.ref r] σ=some (.tup l,σ):=by
 show (lst σ r).bind (fun l=>oF σ l)=_
 rw [dQ hr]
 exact if_pos hz
section
variable {call:ar} {az:fu} {ρ ρ':aF} {σ σ₁ ae bb:ag} {Q:b8→aF→ag→Prop}
theorem W.nil (h:Q .next ρ σ):W call .nil ρ σ Q:=⟨_,_,_,rfl,h⟩
theorem W.step {s:CS} (h:be call s ρ σ=some (.next,ρ',σ₁)) (k:W call az ρ' σ₁ Q):W call (.cons s az) ρ σ Q:=by
 refine jH k fun fl bA bB h1 h2=>?_
 refine ⟨fl,bA,bB,?_,h2⟩
 show gv (be call s ρ σ) (aB call az)=_
 rw [h];exact h1
theorem W.assign {i:Nat} {e:CE} (v:V) (σ₁:ag) (h:ab call e ρ σ=some (v,σ₁)) (k:W call az (cE ρ i v) σ₁ Q):W call (.cons (.assign (.one i) e) az) ρ σ Q :=
 W.step (by
  rw [dY]
  exact gH (by rw [h];rfl)) k
theorem W.ret {e:CE} (v:V) (σ₁:ag) (h:be call (.ret e) ρ σ=some (.ret v,ρ,σ₁)) (k:Q (.ret v) ρ σ₁):W call (.cons (.ret e) az) ρ σ Q:=by
 refine ⟨_,_,_,?_,k⟩
 show gv (be call (.ret e) ρ σ) (aB call az)=_
 rw [h];rfl
theorem W.retE {e:CE} {v:V} {σ₁:ag} (h:ab call e ρ σ=some (v,σ₁)) (k:Q (.ret v) ρ σ₁):W call (.cons (.ret e) az) ρ σ Q :=
 W.ret v σ₁ (by
  rw [iu]
  exact gH (by rw [h];rfl)) k
theorem W.block {s:CS} {t:fu} {cb:aF} (e:be call s ρ σ=aB call t cb σ₁) (k:W call t cb σ₁ fun fl ρ' af=>match fl with | .next=>W call az ρ' af Q | fl=>Q fl ρ' af):W call (.cons s az) ρ σ Q:=by
 refine jH k fun fl bA bB h1 h2=>?_
 have h3:aB call (.cons s az) ρ σ=gv (be call s ρ σ) (aB call az):=rfl
 rw [e,h1] at h3
 cases fl with
 | next =>
  refine jH h2 fun fl Gr ki h4 h5=>?_
  exact ⟨fl,Gr,ki,h3.trans h4,h5⟩
 | ret v=>exact ⟨_,_,_,h3,h2⟩
 | exc c w=>exact ⟨_,_,_,h3,h2⟩
theorem W.iteT {c:CE} {t e:fu} (σ₁:ag) (h:bu call c ρ σ=some (true,σ₁)) (k:W call t ρ σ₁ fun fl ρ' af=>match fl with | .next=>W call az ρ' af Q | fl=>Q fl ρ' af):W call (.cons (.ite c t e) az) ρ σ Q :=
 W.block (by
  show gf (ab call c ρ σ) (fun b σ₁=>if b then aB call t ρ σ₁ else aB call e ρ σ₁)=_
  rw [cD h];rfl) k
theorem W.iteF {c:CE} {t e:fu} (σ₁:ag) (h:bu call c ρ σ=some (false,σ₁)) (k:W call e ρ σ₁ fun fl ρ' af=>match fl with | .next=>W call az ρ' af Q | fl=>Q fl ρ' af):W call (.cons (.ite c t e) az) ρ σ Q :=
 W.block (by
  show gf (ab call c ρ σ) (fun b σ₁=>if b then aB call t ρ σ₁ else aB call e ρ σ₁)=_
  rw [cD h];rfl) k
theorem W.append {o e:CE} (r:Nat) (l:List V) (v:V) (σ₁:ag) (ho:ab call o ρ σ=some (.ref r,σ)) (hr:σ[r]? = some (.lst l)) (he:ab call e ρ σ=some (v,σ₁)) (M7:σ₁[r]? = some (.lst l)) (hz:l.length≤an)
  (k:W call az ρ (σ₁.set r (.lst (l++[v]))) Q):W call (.cons (.expr (.meth .append o (.cons e .nil))) az) ρ σ Q:=by
 refine W.step (ρ':=ρ) (σ₁:=σ₁.set r (.lst (l++[v]))) ?_ k
 have O8:iO .append (.ref r) σ=true:=by
  show (lst σ r).isSome=true
  rw [dQ hr];rfl
 have e1:ab call (.meth .append o (.cons e .nil)) ρ σ=some (.none,σ₁.set r (.lst (l++[v]))):=by
  show a9 (ab call o ρ σ) (fun x σ₁=>if iO .append x σ₁ then a9 (aL call (.cons e .nil) ρ σ₁) fun vs ae=>f9 .append x vs ae else none)=_
  rw [ho]
  show (if iO .append (.ref r) σ then a9 (aL call (.cons e .nil) ρ σ) fun vs ae=>f9 .append (.ref r) vs ae else none)=_
  rw [if_pos O8,aN he]
  show (lst σ₁ r).bind (fun l=>if l.length≤an then some (V.none,σ₁.set r (.lst (l++[v]))) else none)=_
  rw [dQ M7]
  exact if_pos hz
 rw [i4]
 exact gH (by rw [e1];rfl)
theorem W.for_ {t:ge} {it:gd} {body:fu} (xs:List V) (w:List (Nat×aZ)) (σ₁:ag) (h:cm call it ρ σ=some (xs,w,σ₁)) (I:Nat→aF→ag→Prop) (h0:I 0 ρ σ₁) (hw:∀ k ρ σ,I k ρ σ→cn σ w)
  (step:∀ k x ρ σ,xs[k]? = some x→I k ρ σ→∃ ρ',t.put x ρ=some ρ'∧W call body ρ' σ fun fl bA bB=>fl=.next∧I (k+1) bA bB)
  (k:∀ ρ' af,I xs.length ρ' af→W call az ρ' af Q):W call (.cons (.for_ t it body) az) ρ σ Q:=by
 obtain ⟨oH,σe,h1,h2⟩:=Ac (body:=aB call body) (t:=t) I h0 hw fun k x ρ σ hx hI=>by
  obtain ⟨ρ',hp,fl,bA,bB,h1,rfl,h2⟩:=step k x ρ σ hx hI
  exact ⟨ρ',bA,bB,hp,h1,h2⟩
 refine W.step (ρ':=oH) (σ₁:=σe) ?_ (k oH σe h2)
 rw [mS]
 exact gH (by rw [h];exact h1)
theorem W.append0 {o e:CE} (r:Nat) (l:List V) (v:V) (ho:ab call o ρ σ=some (.ref r,σ)) (hr:σ[r]? = some (.lst l)) (he:ab call e ρ σ=some (v,σ)) (hz:l.length≤an)
  (k:W call az ρ (σ.set r (.lst (l++[v]))) Q):W call (.cons (.expr (.meth .append o (.cons e .nil))) az) ρ σ Q:=W.append r l v σ ho hr he hr hz k
theorem W.setItem {o i v:CE} (r:Nat) (k:Int) (l:List V) (x:V) (σ₁:ag) (hv:ab call v ρ σ=some (x,σ₁)) (ho:ab call o ρ σ₁=some (.ref r,σ₁)) (hi:ab call i ρ σ₁=some (.int k,σ₁)) (hr:σ₁[r]? = some (.lst l)) (lB:0≤k) (Cm:k.toNat<l.length)
  (c:W call az ρ (σ₁.set r (.lst (l.set k.toNat x))) Q):W call (.cons (.setItem o i v) az) ρ σ Q :=
 W.step (by
  have hs:lO (.ref r) (.int k) x σ₁=some (σ₁.set r (.lst (l.set k.toNat x))):=by
   show (σ₁[r]?).bind (IG σ₁ r (.int k) x)=_
   rw [hr]
   exact if_pos ⟨lB,Cm⟩
  show a9 (ab call v ρ σ) (fun x σ₁=>a9 (ab call o ρ σ₁) fun y ae=>a9 (ab call i ρ ae) fun z bb=>(lO y z x bb).bind fun gE=>some (b8.next,ρ,gE))=_
  rw [hv]
  show a9 (ab call o ρ σ₁) (fun y ae=>a9 (ab call i ρ ae) fun z bb=>(lO y z x bb).bind fun gE=>some (b8.next,ρ,gE))=_
  rw [ho]
  show a9 (ab call i ρ σ₁) (fun z bb=>(lO (.ref r) z x bb).bind fun gE=>some (b8.next,ρ,gE))=_
  rw [hi]
  show (lO (.ref r) (.int k) x σ₁).bind (fun gE=>some (b8.next,ρ,gE))=_
  rw [hs];rfl) c
theorem W.setItem0 {o i v:CE} (r:Nat) (k:Int) (l:List V) (x:V) (hv:ab call v ρ σ=some (x,σ)) (ho:ab call o ρ σ=some (.ref r,σ)) (hi:ab call i ρ σ=some (.int k,σ)) (hr:σ[r]? = some (.lst l)) (lB:0≤k) (Cm:k.toNat<l.length)
  (c:W call az ρ (σ.set r (.lst (l.set k.toNat x))) Q):W call (.cons (.setItem o i v) az) ρ σ Q:=W.setItem r k l x σ hv ho hi hr lB Cm c
end
theorem dK {P:List aS} {d k:Nat} {f:aS} {as:List V} {σ:ag} (hk:P[k]? = some f) (ha:as.length=f.arity) {R:V→ag→Prop} (h:W (ax P d) f.body (cz as) σ fun fl _ af=>∃ v,fl=.ret v∧R v af):∃ v af,ax P (d+1) k as σ=some (.ok v,af)∧R v af:=by
 obtain ⟨fl,ρ',af,h1,v,rfl,h2⟩:=h
 exact ⟨v,af,by rw [pI hk ha,h1];rfl,h2⟩
noncomputable def Le (a b:aF):Prop:=∀ i v,a i=some v→b i=some v
theorem Le.trans {a b c:aF} (x:Le a b) (y:Le b c):Le a c:=fun i v h=>y i v (x i v h)
theorem Le.upd {a b:aF} (x:Le a b) (i:Nat) (v:V):Le (cE a i v) (cE b i v):=fun j w h=>by
 unfold Lar.cE at h ⊢
 by_cases hj:j=i
 ·rw [if_pos hj] at h ⊢;exact h
 ·rw [if_neg hj] at h ⊢;exact x j w h
noncomputable def aT (l:List (Option V)):aF:=fun i=>(l[i]?).join
noncomputable def ll (ρ:aF):Nat→List (Option V)→Prop
 | _,[]=>True
 | i,none::r=>ll ρ (i+1) r
 | i,some v::r=>ρ i=some v∧ll ρ (i+1) r
theorem ll.get {ρ:aF}:∀ {l:List (Option V)} {k i:Nat} {v:V},ll ρ k l→(l[i]?).join=some v→ρ (k+i)=some v
 | [],_,_,_,_,h=>by simp at h
 | none::r,k,0,_,_,h=>by simp at h
 | none::r,k,i+1,v,ha,h=>by
  have:=ll.get (l:=r) (k:=k+1) (i:=i) ha (by simpa using h)
  rwa [Nat.add_right_comm] at this
 | some w::r,k,0,v,ha,h=>by
  obtain rfl:w=v:=by simpa using h
  exact ha.1
 | some w::r,k,i+1,v,ha,h=>by
  have:=ll.get (l:=r) (k:=k+1) (i:=i) ha.2 (by simpa using h)
  rwa [Nat.add_right_comm] at this
theorem aG {ρ:aF} {l:List (Option V)} (h:ll ρ 0 l):Le (aT l) ρ:=fun i v e=>by
 have:=h.get e
 rwa [Nat.zero_add] at this
theorem nQ {t:ge} {x:V} {a b a':aF} (hl:Le a b) (h:t.put x a=some a'):∃ b',t.put x b=some b'∧Le a' b':=by
 cases t with
 | one i=>apply db h;exact ⟨_,rfl,hl.upd _ _⟩
 | two i j =>
  refine aK h fun p hp h=>?_
  apply db h
  refine ⟨_,?_,(hl.upd i p.1).upd j p.2⟩
  show (tu x).bind _=_
  rw [hp];rfl
theorem bv {α β:Type} {m m':Option (α×ag)} {k k':α→ag→Option β} {r:β} (h:a9 m k=some r) (hm:∀ p,m=some p→m'=some p) (hk:∀ a σ,k a σ=some r→k' a σ=some r):a9 m' k'=some r:=by
 refine bo h fun a σ h1 h2=>?_
 rw [hm _ h1]
 exact hk a σ h2
theorem u1 {α β γ:Type} {m m':Option (α×β×ag)} {k k':α→β→ag→Option γ} {r:γ} (h:g7 m k=some r) (hm:∀ p,m=some p→m'=some p) (hk:∀ a b σ,k a b σ=some r→k' a b σ=some r):g7 m' k'=some r:=by
 refine il h fun a b σ h1 h2=>?_
 rw [hm _ h1]
 exact hk a b σ h2
theorem jQ {β:Type} {m m':Option (V×ag)} {k k':Bool→ag→Option β} {r:β} (h:gf m k=some r) (hm:∀ p,m=some p→m'=some p) (hk:∀ a σ,k a σ=some r→k' a σ=some r):gf m' k'=some r :=
 bv h hm fun a σ e=>by
  refine aK e fun b h1 h2=>?_
  rw [h1];exact hk b σ h2
theorem mj {β:Type} {m m':Option (V×ag)} {k k':Int→ag→Option β} {r:β} (h:kB m k=some r) (hm:∀ p,m=some p→m'=some p) (hk:∀ a σ,k a σ=some r→k' a σ=some r):kB m' k'=some r :=
 bv h hm fun a σ e=>by
  refine aK e fun b h1 h2=>?_
  rw [h1];exact hk b σ h2
theorem mM {elt elt':aF→ag→Option (V×ag)} {cond cond':aF→ag→Option (Bool×ag)} {t:ge} {w:List (Nat×aZ)} (he:∀ a b σ r,Le a b→elt a σ=some r→elt' b σ=some r) (hc:∀ a b σ r,Le a b→cond a σ=some r→cond' b σ=some r) :
  ∀ {xs:List V} {a b:aF} {σ:ag} {r:List V×ag},Le a b→fP elt cond t w xs a σ=some r→fP elt' cond' t w xs b σ=some r
 | [],a,b,σ,r,hl,h=>h
 | x::xs,a,b,σ,r,hl,h=>by
  refine jz h fun hw h=>?_
  refine aK h fun a' hp h=>?_
  refine au (nQ hl hp) fun b' tY ed=>?_
  show eV σ w ((t.put x b).bind fun ρ'=>_)=_
  rw [c8 hw,tY,Option.bind_some]
  refine bv h (fun p e=>hc _ _ _ _ ed e) fun c σ₁ h=>?_
  cases c with
  | false=>exact mM he hc hl h
  | true =>
   rw [if_pos rfl] at h ⊢
   exact bv (m:=elt a' σ₁) h (fun p e=>he _ _ _ _ ed e) fun v ae h=>bv h (fun p e=>mM he hc hl e) fun l bb h=>h
theorem iq:∀ {k:KX} {a b:aF} {σ:ag} {v:V},Le a b→cH k a σ=some v→cH k b σ=some v
 | .var i,a,b,σ,v,hl,h=>hl i v h
 | .num i,a,b,σ,v,hl,h=>h
 | .idx x y,a,b,σ,v,hl,h=>by
  refine aK h fun u h1 h=>?_
  refine aK h fun z h2 h=>?_
  show (cH x b σ).bind _=_
  rw [iq hl h1]
  show (cH y b σ).bind _=_
  rw [iq hl h2];exact h
 | .pair x y,a,b,σ,v,hl,h=>by
  refine aK h fun u h1 h=>?_
  refine aK h fun z h2 h=>?_
  show (cH x b σ).bind _=_
  rw [iq hl h1]
  show (cH y b σ).bind _=_
  rw [iq hl h2];exact h
theorem rM {k:KX} {i:Nat} {σ:ag} {a b:aF} (hl:Le a b):∀ {ns:List Int} {ps:List KP},lG k i a σ ns=some ps→lG k i b σ ns=some ps
 | [],ps,h=>h
 | n::r,ps,h=>by
  refine aK h fun v h1 h=>?_
  refine aK h fun l h2 h=>?_
  refine aK h fun qs h3 h=>?_
  show (cH k (cE b i (.int n)) σ).bind _=_
  rw [iq (hl.upd i (.int n)) h1]
  show (oA v).bind _=_
  rw [h2]
  show (lG k i b σ r).bind _=_
  rw [rM hl h3];exact h
theorem xL {k:KX} {i:Nat} {σ:ag} {a b:aF} {xs:List V} {r:V×ag} (hl:Le a b) (h:gN k i a σ xs=some r):gN k i b σ xs=some r:=by
 refine aK h fun ns h1 h=>?_
 refine dv h fun h2 h=>?_
 refine aK h fun ps h3 h=>?_
 show (eh xs).bind _=_
 rw [h1]
 show (if _ then _ else _)=_
 rw [if_pos h2,rM hl h3];exact h
mutual
theorem ay {call:ar}:∀ (e:CE) {a b:aF} {σ:ag} {r:V×ag},Le a b→ab call e a σ=some r→ab call e b σ=some r
 | .cst v,_,_,_,_,_,h=>h
 | .var i,a,b,σ,r,hl,h=>by
  refine aK h fun v h1 h2=>?_
  show (b i).bind _=_
  rw [hl i v h1];exact h2
 | .bin op x y,a,b,σ,r,hl,h=>bv (m:=ab call x a σ) h (fun p e=>ay x hl e) fun _ _ h=>bv h (fun p e=>ay y hl e) fun _ _ h=>h
 | .cmp op x y,a,b,σ,r,hl,h=>bv (m:=ab call x a σ) h (fun p e=>ay x hl e) fun _ _ h=>bv h (fun p e=>ay y hl e) fun _ _ h=>h
 | .not x,a,b,σ,r,hl,h=>jQ (m:=ab call x a σ) h (fun p e=>ay x hl e) fun _ _ h=>h
 | .neg x,a,b,σ,r,hl,h=>mj (m:=ab call x a σ) h (fun p e=>ay x hl e) fun _ _ h=>h
 | .and x y,a,b,σ,r,hl,h=>jQ (m:=ab call x a σ) h (fun p e=>ay x hl e) fun c _ h=>by
  cases c with
  | true=>exact ay y hl h
  | false=>exact h
 | .or x y,a,b,σ,r,hl,h=>jQ (m:=ab call x a σ) h (fun p e=>ay x hl e) fun c _ h=>by
  cases c with
  | true=>exact h
  | false=>exact ay y hl h
 | .ite t x y,a,b,σ,r,hl,h=>jQ (m:=ab call t a σ) h (fun p e=>ay t hl e) fun c _ h=>by
  cases c with
  | true=>exact ay x hl h
  | false=>exact ay y hl h
 | .list es,a,b,σ,r,hl,h=>bv (m:=aL call es a σ) h (fun p e=>dX es hl e) fun _ _ h=>h
 | .tuple es,a,b,σ,r,hl,h=>bv (m:=aL call es a σ) h (fun p e=>dX es hl e) fun _ _ h=>h
 | .dict0,_,_,_,_,_,h=>h
 | .idx x y,a,b,σ,r,hl,h=>bv (m:=ab call x a σ) h (fun p e=>ay x hl e) fun _ _ h=>bv h (fun p e=>ay y hl e) fun _ _ h=>h
 | .slc x y z,a,b,σ,r,hl,h=>bv (m:=ab call x a σ) h (fun p e=>ay x hl e) fun _ _ h=>bv h (fun p e=>ay y hl e) fun _ _ h=>bv h (fun p e=>ay z hl e) fun _ _ h=>h
 | .call f as,a,b,σ,r,hl,h=>bv (m:=aL call as a σ) h (fun p e=>dX as hl e) fun _ _ h=>h
 | .prim p as,a,b,σ,r,hl,h=>bv (m:=aL call as a σ) h (fun p e=>dX as hl e) fun _ _ h=>h
 | .meth m o as,a,b,σ,r,hl,h=>bv (m:=ab call o a σ) h (fun p e=>ay o hl e) fun x σ₁ h=>by
  refine dv h fun hr h=>?_
  rw [if_pos hr]
  exact bv h (fun p e=>dX as hl e) fun _ _ h=>h
 | .sortK it i k,a,b,σ,r,hl,h=>u1 (m:=cm call it a σ) h (fun p e=>qy it hl e) fun xs w σ₁ h=>by
  refine dv h fun h1 h=>?_
  rw [if_pos h1]
  exact xL hl h
 | .word x,a,b,σ,r,hl,h=>bv (m:=ab call x a σ) h (fun p e=>ay x hl e) fun _ _ h=>h
 | .isC c x,a,b,σ,r,hl,h=>bv (m:=ab call x a σ) h (fun p e=>ay x hl e) fun _ _ h=>h
 | .comp elt t it gc,a,b,σ,r,hl,h=>u1 (m:=cm call it a σ) h (fun p e=>qy it hl e) fun xs w σ₁ h=>bv h (fun p e=>mM (elt:=ab call elt) (elt':=ab call elt) (cond:=cY call gc) (cond':=cY call gc) (fun a b σ r hl e=>ay elt (σ:=σ) hl e) (fun a b σ r hl e=>pu gc (σ:=σ) hl e) hl e) fun _ _ h=>h
theorem pu {call:ar}:∀ (e:eG) {a b:aF} {σ:ag} {r:Bool×ag},Le a b→cY call e a σ=some r→cY call e b σ=some r
 | .nil,_,_,_,_,_,h=>h
 | .cons x y,a,b,σ,r,hl,h=>jQ (m:=ab call x a σ) h (fun p e=>ay x hl e) fun c _ h=>by
  cases c with
  | true=>exact pu y hl h
  | false=>exact h
theorem dX {call:ar}:∀ (e:eG) {a b:aF} {σ:ag} {r:List V×ag},Le a b→aL call e a σ=some r→aL call e b σ=some r
 | .nil,_,_,_,_,_,h=>h
 | .cons x y,a,b,σ,r,hl,h=>bv (m:=ab call x a σ) h (fun p e=>ay x hl e) fun _ _ h=>bv h (fun p e=>dX y hl e) fun _ _ h=>h
theorem qy {call:ar}:∀ (e:gd) {a b:aF} {σ:ag} {r:List V×List (Nat×aZ)×ag},Le a b→cm call e a σ=some r→cm call e b σ=some r
 | .ex x,a,b,σ,r,hl,h=>by
  rw [qx] at h ⊢
  exact bv (m:=ab call x a σ) h (fun p e=>ay x hl e) fun _ _ h=>h
 | .rng1 x,a,b,σ,r,hl,h=>mj (m:=ab call x a σ) h (fun p e=>ay x hl e) fun _ _ h=>h
 | .rng2 x y,a,b,σ,r,hl,h=>mj (m:=ab call x a σ) h (fun p e=>ay x hl e) fun _ _ h=>mj h (fun p e=>ay y hl e) fun _ _ h=>h
 | .enm x,a,b,σ,r,hl,h=>by
  rw [sH] at h ⊢
  exact bv (m:=ab call x a σ) h (fun p e=>ay x hl e) fun _ _ h=>h
end
mutual
theorem iv {call:ar}:∀ (e:CE) {ρ:aF} {σ:ag} {r:Nat×Str×ag},b9 call e ρ σ=some r→ab call e ρ σ=none
 | .call f as,ρ,σ,r,h=>by
  refine bo (m:=aL call as ρ σ) (k:=fun vs σ₁=>a9 (call f vs σ₁) fun r ae=>rx ae r) h fun vs σ₁ h1 h=>?_
  refine bo h fun q ae h2 h=>?_
  obtain ⟨c,w,bb⟩:=r
  refine aJ (o3 h) fun q1 q2=>?_;subst q1 q2
  show a9 (aL call as ρ σ) _=none
  rw [h1]
  show a9 (call f vs σ₁) (fun r ae=>(Jy r).bind fun v=>some (v,ae))=none
  rw [h2];rfl
 | .meth m o as,ρ,σ,r,h=>by
  refine bo (m:=ab call o ρ σ) (k:=fun x σ₁=>if iO m x σ₁ then dn call as ρ σ₁ else none) h fun x σ₁ h1 h=>?_
  refine dv h fun h2 h=>?_
  show a9 (ab call o ρ σ) _=none
  rw [h1]
  show (if iO m x σ₁ then a9 (aL call as ρ σ₁) fun vs ae=>f9 m x vs ae else none)=none
  rw [if_pos h2,pQ as h];rfl
 | .list es,ρ,σ,r,h=>by
  show a9 (aL call es ρ σ) _=none
  rw [pQ es (show dn call es ρ σ=some r from h)];rfl
 | .cst _,_,_,_,h=>no h
 | .var _,_,_,_,h=>no h
 | .bin _ _ _,_,_,_,h=>no h
 | .cmp _ _ _,_,_,_,h=>no h
 | .not _,_,_,_,h=>no h
 | .neg _,_,_,_,h=>no h
 | .and _ _,_,_,_,h=>no h
 | .or _ _,_,_,_,h=>no h
 | .ite _ _ _,_,_,_,h=>no h
 | .tuple _,_,_,_,h=>no h
 | .dict0,_,_,_,h=>no h
 | .idx _ _,_,_,_,h=>no h
 | .slc _ _ _,_,_,_,h=>no h
 | .prim _ _,_,_,_,h=>no h
 | .comp _ _ _ _,_,_,_,h=>no h
 | .sortK _ _ _,_,_,_,h=>no h
 | .word _,_,_,_,h=>no h
 | .isC _ _,_,_,_,h=>no h
theorem pQ {call:ar}:∀ (es:eG) {ρ:aF} {σ:ag} {r:Nat×Str×ag},dn call es ρ σ=some r→aL call es ρ σ=none
 | .nil,_,_,_,h=>no h
 | .cons e q,ρ,σ,r,h=>by
  show a9 (ab call e ρ σ) _=none
  rcases nO (a:=b9 call e ρ σ) (b:=a9 (ab call e ρ σ) fun _ σ₁=>dn call q ρ σ₁) h with h | ⟨_,h⟩
  ·rw [iv e h];rfl
  ·refine bo h fun v σ₁ h1 h=>?_
   rw [h1]
   show a9 (aL call q ρ σ₁) (fun vs ae=>some (v::vs,ae))=none
   rw [pQ q h];rfl
end
mutual
theorem mW {call:ar}:∀ (e:CE) {a b:aF} {σ:ag} {r:Nat×Str×ag},Le a b→b9 call e a σ=some r→b9 call e b σ=some r
 | .call f as,a,b,σ,r,hl,h=>bv (m:=aL call as a σ) (m':=aL call as b σ) (k:=fun vs σ₁=>a9 (call f vs σ₁) fun r ae=>rx ae r) (k':=fun vs σ₁=>a9 (call f vs σ₁) fun r ae=>rx ae r) h (fun p e=>dX as hl e) fun _ _ h=>h
 | .meth m o as,a,b,σ,r,hl,h=>bv (m:=ab call o a σ) (m':=ab call o b σ) (k:=fun x σ₁=>if iO m x σ₁ then dn call as a σ₁ else none) (k':=fun x σ₁=>if iO m x σ₁ then dn call as b σ₁ else none) h (fun p e=>ay o hl e) fun x σ₁ h'=>by
  refine dv h' fun h2 h3=>?_
  rw [if_pos h2]
  exact pP as hl h3
 | .list es,a,b,σ,r,hl,h=>pP es hl (show dn call es a σ=some r from h)
 | .cst _,_,_,_,_,_,h=>no h
 | .var _,_,_,_,_,_,h=>no h
 | .bin _ _ _,_,_,_,_,_,h=>no h
 | .cmp _ _ _,_,_,_,_,_,h=>no h
 | .not _,_,_,_,_,_,h=>no h
 | .neg _,_,_,_,_,_,h=>no h
 | .and _ _,_,_,_,_,_,h=>no h
 | .or _ _,_,_,_,_,_,h=>no h
 | .ite _ _ _,_,_,_,_,_,h=>no h
 | .tuple _,_,_,_,_,_,h=>no h
 | .dict0,_,_,_,_,_,h=>no h
 | .idx _ _,_,_,_,_,_,h=>no h
 | .slc _ _ _,_,_,_,_,_,h=>no h
 | .prim _ _,_,_,_,_,_,h=>no h
 | .comp _ _ _ _,_,_,_,_,_,h=>no h
 | .sortK _ _ _,_,_,_,_,_,h=>no h
 | .word _,_,_,_,_,_,h=>no h
 | .isC _ _,_,_,_,_,_,h=>no h
theorem pP {call:ar}:∀ (es:eG) {a b:aF} {σ:ag} {r:Nat×Str×ag},Le a b→dn call es a σ=some r→dn call es b σ=some r
 | .nil,_,_,_,_,_,h=>no h
 | .cons e q,a,b,σ,r,hl,h=>by
  show IA (b9 call e b σ) (a9 (ab call e b σ) fun _ σ₁=>dn call q b σ₁)=_
  rcases nO (a:=b9 call e a σ) (b:=a9 (ab call e a σ) fun _ σ₁=>dn call q a σ₁) h with h | ⟨_,h⟩
  ·rw [mW e hl h];rfl
  ·refine bo h fun v σ₁ h1 h=>?_
   have h2:=ay e hl h1
   have h3:b9 call e b σ=none:=by
    cases q':b9 call e b σ with
    | none=>rfl
    | some r'=>rw [iv e q'] at h2;exact no h2
   rw [h3,h2]
   exact pP q hl h
end
noncomputable def gZ (x y:Ex):Prop:=∀ fl a σ,x=some (fl,a,σ)→∃ b,y=some (fl,b,σ)∧Le a b
theorem gZ.seq {x y:Ex} {k k':aF→ag→Ex} (h:gZ x y) (hk:∀ a b σ,Le a b→gZ (k a σ) (k' b σ)):gZ (gv x k) (gv y k'):=by
 intro fl a σ e
 refine Or.elim (fw e) (fun q=>fv q fun ES σ₁ e1 e2=>?_) (fun q=>aJ q fun e1 eM=>?_)
 ·refine au (h _ _ _ e1) fun b h1 h2=>?_
  rw [h1]
  exact hk _ _ _ h2 _ _ _ e2
 ·refine au (h _ _ _ e1) fun b h1 h2=>?_
  rw [h1]
  cases fl with
  | next=>exact absurd rfl eM
  | ret v=>exact ⟨b,rfl,h2⟩
  | exc c w=>exact ⟨b,rfl,h2⟩
theorem rT {body:aF→ag→Ex} {t:ge} {w:List (Nat×aZ)} (hb:∀ a b σ,Le a b→gZ (body a σ) (body b σ)):∀ {xs:List V} {a b:aF} {σ:ag},Le a b→gZ (dP body t w xs a σ) (dP body t w xs b σ)
 | [],a,b,σ,hl=>fun fl a' af e=>by
  refine jz e fun hw e=>?_
  apply dS e
  exact ⟨b,c8 hw,hl⟩
 | x::xs,a,b,σ,hl=>fun fl a' af e=>by
  refine jz e fun hw e=>?_
  refine aK e fun ES hp e=>?_
  refine au (nQ hl hp) fun BR tY ed=>?_
  show ∃ b',eV σ w ((t.put x b).bind fun ρ'=>gv (body ρ' σ) fun bA bB=>dP body t w xs bA bB)=_∧_
  rw [c8 hw,tY,Option.bind_some]
  exact gZ.seq (k:=fun bA bB=>dP body t w xs bA bB) (k':=fun bA bB=>dP body t w xs bA bB) (hb _ _ σ ed) (fun a b σ hl=>rT hb (σ:=σ) hl) fl a' af e
theorem pv {test:aF→ag→Option (Bool×ag)} {body:aF→ag→Ex} (ht:∀ a b σ r,Le a b→test a σ=some r→test b σ=some r) (hb:∀ a b σ,Le a b→gZ (body a σ) (body b σ)):∀ (n:Nat) {a b:aF} {σ:ag},Le a b→gZ (fK test body n a σ) (fK test body n b σ)
 | 0,a,b,σ,hl=>fun fl a' af e=>no e
 | n+1,a,b,σ,hl=>fun fl a' af e=>by
  refine bo e fun c σ₁ h1 e=>?_
  show ∃ b',a9 (test b σ) _=_∧_
  rw [ht _ _ _ _ hl h1]
  cases c with
  | false =>
   apply dS e
   exact ⟨b,rfl,hl⟩
  | true=>exact gZ.seq (k:=fun bA bB=>fK test body n bA bB) (k':=fun bA bB=>fK test body n bA bB) (hb _ _ σ₁ hl) (fun a b σ hl=>pv ht hb n (σ:=σ) hl) fl a' af e
theorem pE {m m':Ex} {x x':XR} {a b:aF} (hl:Le a b) (hm:gZ m m') (hx:∀ r,x=some r→x'=some r) (hn:∀ r,x'=some r→m'=none):gZ (wn m x a) (wn m' x' b):=by
 intro fl a' af h
 rcases dJ h with h' | ⟨c,w,rfl,rfl,h'⟩
 ·refine au (hm _ _ _ h') fun b' h1 h2=>?_
  exact ⟨b',gH h1,h2⟩
 ·have:=hx _ h'
  exact ⟨b,pD (hn _ this) this,hl⟩
theorem wD {k k':aF→ag→Ex} {x:Nat} {m m':Ex} (hm:gZ m m') (hk:∀ a b σ,Le a b→gZ (k a σ) (k' b σ)):gZ (pJ k x m) (pJ k' x m'):=by
 intro fl a' af h
 refine il h fun f ES σ₁ h1 h=>?_
 refine au (hm _ _ _ h1) fun BR h2 h3=>?_
 show ∃ b,g7 m' _=_∧_
 rw [h2]
 cases f with
 | next =>
  apply dS h
  exact ⟨BR,rfl,h3⟩
 | ret v =>
  apply dS h
  exact ⟨BR,rfl,h3⟩
 | exc c w =>
  refine il h fun f a₂ ae h4 h=>?_
  refine au (hk _ _ _ (h3.upd x _) _ _ _ h4) fun JZ h5 h6=>?_
  show ∃ b,handled (k' (cE BR x (.ref (σ₁.length+1))) (σ₁++[.wd w,.exn c σ₁.length]))=_∧_
  rw [h5]
  cases f with
  | ret v =>
   apply dS h
   exact ⟨JZ,rfl,h6⟩
  | next=>exact no h
  | exc c' w'=>exact no h
mutual
theorem zh {call:ar}:∀ (s:CS) {a b:aF} {σ:ag},Le a b→gZ (be call s a σ) (be call s b σ)
 | .assign t e,a,b,σ,hl=>by
  rw [dY,dY]
  refine pE hl (fun fl a' af h=>?_) (fun r=>mW e hl) fun r h=>by rw [iv e h];rfl
  refine bo h fun v σ₁ h1 h=>?_
  refine aK h fun ES hp h=>?_
  apply dS h
  refine au (nQ hl hp) fun b' tY ed=>?_
  rw [ay e hl h1]
  refine ⟨b',?_,ed⟩
  show (t.put v b).bind _=_
  rw [tY];rfl
 | .setItem o i v,a,b,σ,hl=>fun fl a' af h=>by
  rw [mU] at h ⊢
  refine bo h fun x σ₁ h1 h=>?_
  refine bo h fun y ae h2 h=>?_
  refine bo h fun z bb h3 h=>?_
  refine aK h fun gE h4 h=>?_
  apply dS h
  refine ⟨b,?_,hl⟩
  simp only [a9,ay v hl h1,ay o hl h2,ay i hl h3,h4,Option.bind_some]
 | .expr e,a,b,σ,hl=>by
  rw [i4,i4]
  refine pE hl (fun fl a' af h=>?_) (fun r=>mW e hl) fun r h=>by rw [iv e h];rfl
  refine bo h fun v σ₁ h1 h=>?_
  apply dS h
  rw [ay e hl h1]
  exact ⟨b,rfl,hl⟩
 | .ite c t e,a,b,σ,hl=>fun fl a' af h=>by
  rw [Fa] at h ⊢
  refine gT h fun p σ₁ h1 h=>?_
  rw [ay c hl h1]
  cases p with
  | true=>exact c7 t hl fl a' af h
  | false=>exact c7 e hl fl a' af h
 | .for_ t it body,a,b,σ,hl=>by
  rw [mS,mS]
  refine pE hl (fun fl a' af h=>?_) (fun r h=>?_) fun r h=>?_
  ·refine il h fun xs w σ₁ h1 h=>?_
   rw [qy it hl h1]
   exact rT (body:=aB call body) (fun a b σ hl=>c7 body (σ:=σ) hl) hl fl a' af h
  ·cases it with
   | ex e=>exact mW e hl h
   | _=>exact no h
  ·cases it with
   | ex e=>rw [qx,iv e h];rfl
   | _=>exact no h
 | .while_ c body,a,b,σ,hl=>pv (test:=bu call c) (body:=aB call body) (fun a b σ r hl h=>by
   obtain ⟨p,af⟩:=r
   exact aR (ay c hl (cD h))) (fun a b σ hl=>c7 body (σ:=σ) hl) gz (σ:=σ) hl
 | .ret e,a,b,σ,hl=>by
  rw [iu,iu]
  refine pE hl (fun fl a' af h=>?_) (fun r=>mW e hl) fun r h=>by rw [iv e h];rfl
  refine bo h fun v σ₁ h1 h=>?_
  apply dS h
  rw [ay e hl h1]
  exact ⟨b,rfl,hl⟩
 | .raise_ c e,a,b,σ,hl=>fun fl a' af h=>by
  rw [mT] at h ⊢
  refine bo h fun v σ₁ h1 h=>?_
  refine aK h fun w h2 h=>?_
  apply dS h
  refine ⟨b,?_,hl⟩
  rw [ay e hl h1]
  show (yj v).bind _=_
  rw [h2];rfl
 | .try_ x i y,a,b,σ,hl=>by
  rw [mV,mV]
  exact wD (c7 x (σ:=σ) hl) fun a b σ hl=>c7 y (σ:=σ) hl
theorem c7 {call:ar}:∀ (s:fu) {a b:aF} {σ:ag},Le a b→gZ (aB call s a σ) (aB call s b σ)
 | .nil,a,b,σ,hl=>fun fl a' af h=>by
  apply dS h
  exact ⟨b,rfl,hl⟩
 | .cons s r,a,b,σ,hl=>gZ.seq (k:=aB call r) (k':=aB call r) (zh s (σ:=σ) hl) fun a b σ hl=>c7 r (σ:=σ) hl
end
noncomputable def Up (Q:b8→aF→ag→Prop):Prop:=∀ fl a b σ,Le a b→Q fl a σ→Q fl b σ
section
variable {call:ar} {az:fu} {ρ ρ':aF} {σ σ₁ ae bb:ag} {Q:b8→aF→ag→Prop}
theorem W.le {ss:fu} {a:aF} (hQ:Up Q) (hl:Le a ρ) (h:W call ss a σ Q):W call ss ρ σ Q:=by
 refine jH h fun fl a' af h1 h2=>?_
 refine au (c7 ss hl fl a' af h1) fun b' h3 h4=>?_
 exact ⟨fl,b',af,h3,hQ fl a' b' af h4 h2⟩
theorem W.set {i:Nat} {e:CE} {v:V} {σ₁:ag} (h:ab call e ρ σ=some (v,σ₁)) (k:W call az (cE ρ i v) σ₁ Q):W call (.cons (.assign (.one i) e) az) ρ σ Q:=W.assign v σ₁ h k
theorem W.if_ {c:CE} {t e:fu} {p:Prop} [Decidable p] {σ₁:ag} (h:ab call c ρ σ=some (.bool (decide p),σ₁)) (hT:p→W call t ρ σ₁ fun fl ρ' af=>match fl with | .next=>W call az ρ' af Q | fl=>Q fl ρ' af)
  (hF:¬ p→W call e ρ σ₁ fun fl ρ' af=>match fl with | .next=>W call az ρ' af Q | fl=>Q fl ρ' af):W call (.cons (.ite c t e) az) ρ σ Q:=by
 by_cases hp:p
 ·rw [decide_eq_true hp] at h
  exact W.iteT σ₁ (aR h) (hT hp)
 ·rw [decide_eq_false hp] at h
  exact W.iteF σ₁ (aR h) (hF hp)
theorem W.loop {t:ge} {it:gd} {body:fu} {xs:List V} {w:List (Nat×aZ)} {σ₁:ag} (hQ:Up Q) (h:cm call it ρ σ=some (xs,w,σ₁)) (I:Nat→aF→ag→Prop) {a:aF} (ha:Le a ρ) (h0:I 0 a σ₁) (hw:∀ k ρ σ,I k ρ σ→cn σ w)
  (step:∀ k x ρ σ,xs[k]? = some x→I k ρ σ→∃ ρ',t.put x ρ=some ρ'∧W call body ρ' σ fun fl bA bB=>fl=.next∧∃ a,Le a bA∧I (k+1) a bB)
  (k:∀ ρ' af,I xs.length ρ' af→W call az ρ' af Q):W call (.cons (.for_ t it body) az) ρ σ Q:=by
 refine W.for_ xs w σ₁ h (fun k ρ σ=>∃ a,Le a ρ∧I k a σ) ⟨a,ha,h0⟩ (fun k ρ σ ⟨a,_,hI⟩=>hw k a σ hI) ?_ fun ρ' af ⟨a,hl,hI⟩=>(k a af hI).le hQ hl
 rintro k x ρ σ hx ⟨a,hl,hI⟩
 refine au (step k x a σ hx hI) fun a' hp hW=>?_
 refine au (nQ hl hp) fun b' tY ed=>?_
 exact ⟨b',tY,hW.le (fun fl a b σ hl ⟨h1,c,h2,h3⟩=>⟨h1,c,h2.trans hl,h3⟩) ed⟩
end
theorem gQ {R:V→ag→Prop}:Up fun fl _ af=>∃ v,fl=.ret v∧R v af:=fun _ _ _ _ _ h=>h
section
variable {call:ar} {ρ:aF} {σ σ₁ ae:ag}
theorem f4 {a b:CE} {x y:Int} (ha:ab call a ρ σ=some (.int x,σ₁)) (hb:ab call b ρ σ₁=some (.int y,ae)):ab call (.cmp .Eq a b) ρ σ=some (.bool (decide (x=y)),ae):=by
 rw [←Ih];exact dg ha hb rfl
theorem vJ {r:Nat} {l:List V} (hr:σ[r]? = some (.lst l)):gM .len [.ref r] σ=some (.int l.length,σ):=by
 show ((lst σ r).bind _).bind _=_
 rw [dQ hr];rfl
end
theorem kC {P:List aS} {d k:Nat} {f:aS} {as:List V} {σ:ag} {v:V} (hk:P[k]? = some f) (ha:as.length=f.arity) (h:W (ax P d) f.body (cz as) σ fun fl _ af=>∃ u,fl=.ret u∧u=v∧af=σ):ax P (d+1) k as σ=some (.ok v,σ):=by
 refine kF (dK (R:=fun u af=>u=v∧af=σ) hk ha h) fun v' af h1 q4 q5=>?_;subst q4 q5
 exact h1
theorem j4 {P:List aS} {k d:Nat} {σ:ag} (hk:P[k]? = some fj) (x y:Int) (hy:y.natAbs<18446744073709551616):ax P (d+1) k [.int x,.int y] σ=some (.ok (.int (xh x y)),σ):=by
 have b1:=cA (a:=(x+104729 * y)+(7919 * y) * y) (b:=998244353) (by decide)
 refine kC hk rfl ?_
 refine W.assign (.int (((x+104729 * y)+(7919 * y) * y).fmod 998244353)) σ (a6 (a6 (a6 (x:=.int x) rfl (a6 (x:=.int 104729) (y:=.int y) rfl rfl (iH (fS hy))) rfl) (a6 (a6 (x:=.int 7919) (y:=.int y) rfl rfl (iH (fS hy))) (y:=.int y) rfl (iH (fS hy))) rfl) rfl (ek (by decide))) ?_
 have m4:lJ (((x+104729 * y)+(7919 * y) * y).fmod 998244353) (((x+104729 * y)+(7919 * y) * y).fmod 998244353)=true:=fS (by omega)
 have em:xh x y=(((((x+104729 * y)+(7919 * y) * y).fmod 998244353) * (((x+104729 * y)+(7919 * y) * y).fmod 998244353)).fmod 998244353 * 1000003).fmod 998244353:=rfl
 rw [em]
 generalize ((x+104729 * y)+(7919 * y) * y).fmod 998244353=z at m4
 exact W.retE (a6 (a6 (a6 (a6 (x:=.int z) (y:=.int z) rfl rfl (iH m4)) rfl (ek (by decide))) rfl (iH (fS (by decide)))) rfl (ek (by decide))) ⟨_,rfl,rfl,rfl⟩
theorem oS {P:List aS} {k d:Nat} {σ:ag} {r:Nat} {cs:List Int} (hk:P[k]? = some bX) (hr:σ[r]? = some (.lst (cs.map .int))) (j:Nat) (hj:j<1000000):ax P (d+1) k [.ref r,.int j] σ=some (.ok (.int (cellF cs j)),σ):=by
 have m1:lJ ((j:Int)+3) ((j:Int)+7)=true:=fS (by omega)
 refine kC hk rfl ?_
 refine W.if_ (p:=(j:Int)<cs.length) (dg (x:=.int j) rfl (bh (vs:=[.ref r]) rfl ((vJ hr).trans (by rw [List.length_map]))) rfl) (fun hc=>?_) fun hc=>W.nil ?_
 ·have bQ:j<cs.length:=by (exact Int.ofNat_lt.mp ‹_›)
  have e:cs[j]? = some cs[j]:=List.getElem?_eq_getElem bQ
  refine W.retE (bR r j _ (.int cs[j]) rfl rfl hr (Int.natCast_nonneg _) (by rw [Int.toNat_natCast,List.getElem?_map,e];rfl)) ⟨_,rfl,?_,rfl⟩
  rw [cellF,e]
 ·have e:cs[j]? = none:=List.getElem?_eq_none (by omega)
  refine W.retE (a6 (a6 (x:=.int (j+3)) (y:=.int (j+7)) rfl rfl (iH m1)) rfl (iH (fS (by decide)))) ⟨_,rfl,?_,rfl⟩
  rw [cellF,e]
theorem lu {P:List aS} {k d:Nat} {σ:ag} (hk:P[k]? = some dq) (x m:Int) (hm:m≠0):ax P (d+1) k [.int x,.int m] σ=some (.ok (.int (fi x m)),σ):=by
 refine kC hk rfl ?_
 refine W.set (v:=.int (x.fmod 8)) (σ₁:=σ) rfl ?_
 refine W.if_ (p:=x.fmod 8=0) (f4 rfl rfl) (fun hc=>?_) fun hc=>W.nil ?_
 ·exact W.retE (a6 (x:=.int 1) rfl (a6 (x:=.int (x.fdiv 8)) (y:=.int m) rfl rfl (ek hm)) rfl) ⟨_,rfl,by rw [fi,if_pos hc],rfl⟩
 ·refine W.if_ (p:=x.fmod 8=1) (f4 rfl rfl) (fun Fi=>?_) fun Fi=>W.nil ?_
  ·exact W.retE rfl ⟨_,rfl,by rw [fi,if_neg hc,if_pos Fi],rfl⟩
  ·exact W.retE rfl ⟨_,rfl,by rw [fi,if_neg hc,if_neg Fi],rfl⟩
theorem xe {P:List aS} {k d:Nat} {σ:ag} (hk:P[k]? = some f8) (x:Int):ax P (d+1) k [.int x] σ=some (.ok (.int (jY x)),σ):=by
 refine kC hk rfl ?_
 refine W.if_ (p:=x.fmod 6=0) (f4 rfl rfl) (fun hc=>?_) fun hc=>W.nil ?_
 ·exact W.retE rfl ⟨_,rfl,by rw [jY,if_pos hc],rfl⟩
 ·refine W.if_ (p:=x.fmod 6<3) (dg rfl rfl rfl) (fun Fi=>?_) fun Fi=>W.nil ?_
  ·exact W.retE rfl ⟨_,rfl,by rw [jY,if_neg hc,if_pos Fi],rfl⟩
  ·exact W.retE rfl ⟨_,rfl,by rw [jY,if_neg hc,if_neg Fi],rfl⟩
noncomputable def iG:Int→List Int→List Int
 | _,[]=>[]
 | m,c::cs=>(m * 6364136223846793005+c+1442695040888963407).fmod 1000000000000000003::iG ((m * 6364136223846793005+c+1442695040888963407).fmod 1000000000000000003) cs
theorem Az (σ:ag) (a b:aZ):(σ++[a]).set σ.length b=σ++[b]:=by simp
theorem Gj {call:ar} {ρ:aF} {σ σ₁:ag} {e:CE} {l:List Int} (h:ab call e ρ σ=some (.ro l,σ₁)):cm call (.ex e) ρ σ=some (l.map .int,[],σ₁):=by
 show a9 (ab call e ρ σ) (fun x σ₁=>(iP σ₁ x).bind fun p=>some (p.1,p.2,σ₁))=_
 rw [h];rfl
theorem ue {P:List aS} {k d:Nat} {σ:ag} (hk:P[k]? = some iw) (ns:List Int) (hn:ns.length≤63):ax P (d+1) k [.ro ns] σ=some (.ok (.ref σ.length),σ++[.lst ((iG 1 ns).map .int)]):=by
 have cZ:an=16777216:=rfl
 obtain ⟨v,af,h,rfl,rfl⟩:=dK (R:=fun v af=>v=.ref σ.length∧af=σ++[.lst ((iG 1 ns).map .int)]) (σ:=σ) (d:=d) hk (as:=[.ro ns]) rfl (by
  refine W.set (v:=.ref σ.length) (σ₁:=σ++[.lst []]) rfl ?_
  refine W.set (v:=.int 1) (σ₁:=σ++[.lst []]) rfl ?_
  refine W.loop (fun _ _ _ _ _ h=>h) (Gj (l:=ns) rfl)
   (fun j ρ af=>∃ m acc,ρ=aT [none,some (.ref σ.length),some (.int m)]∧af=σ++[.lst (acc.map .int)]∧acc++iG m (ns.drop j)=iG 1 ns∧acc.length≤j∧j≤ns.length)
   (a:=aT [none,some (.ref σ.length),some (.int 1)]) (aG ⟨rfl,rfl,trivial⟩) ⟨1,[],rfl,rfl,rfl,Nat.le_refl _,Nat.zero_le _⟩ (fun _ _ _ _=>dh _) ?_ ?_
  ·rintro j x _ _ hx ⟨m,acc,rfl,rfl,h3,h4,hj⟩
   have bQ:j<ns.length:=by have:=(List.getElem?_eq_some_iff.mp hx).1;rwa [List.length_map] at this
   have Pj:x=.int ns[j]:=by rw [List.getElem?_map,List.getElem?_eq_getElem bQ] at hx;exact (sm hx).symm
   apply aO Pj
   rw [List.drop_eq_getElem_cons bQ] at h3
   refine ⟨_,rfl,?_⟩
   generalize hz:(m * 6364136223846793005+ns[j]+1442695040888963407).fmod 1000000000000000003=z
   refine W.set (v:=.int z) (σ₁:=σ++[.lst (acc.map .int)]) (by rw [←hz];exact a6 (a6 (a6 (a6 (x:=.int m) rfl rfl (iH (fS (by decide)))) rfl rfl) rfl rfl) rfl (ek (by decide))) ?_
   refine W.append0 σ.length (acc.map .int) (.int z) rfl (a8 _ _) rfl (by rw [List.length_map];exact l4 0xc1210b003f9015b00000000000001000000d110b3211b03 rfl hn cZ h4 bQ) ?_
   rw [Az]
   refine W.nil ⟨rfl,aT [none,some (.ref σ.length),some (.int z)],aG ⟨rfl,rfl,trivial⟩,z,acc++[z],rfl,by simp,?_,by simp;exact h4,bQ⟩
   rw [←h3,iG,hz];simp
  ·rintro _ _ ⟨m,acc,rfl,rfl,h3,_⟩
   rw [List.length_map,List.drop_length,iG,List.append_nil] at h3
   apply aO h3
   exact W.retE rfl ⟨_,rfl,rfl,rfl⟩)
 exact h
theorem cj {n:Nat} {j:Nat} {x:V} (h:(bp 0 n 1)[j]? = some x):j<n∧x=.int j:=by
 simp only [bp,eZ,List.getElem?_map] at h
 have hn:(if (0:Int)<n then ((n:Int) - 0 - 1) / 1+1 else 0).toNat=n:=by split <;> simp <;> lia
 simp only [show (1:Int) > 0 from by decide,if_true,hn] at h
 refine Or.elim (Nat.lt_or_ge j n) (fun hj=>?_) (fun hj=>?_)
 ·rw [List.getElem?_range hj] at h
  simp at h
  exact ⟨hj,h.symm⟩
 ·rw [List.getElem?_eq_none (by simpa using hj)] at h
  cases h
theorem cT (n:Nat):(bp 0 n 1).length=n:=by
 simp only [bp,eZ,List.length_map,List.length_range]
 simp only [show (1:Int) > 0 from by decide,if_true]
 split <;> simp <;> lia
theorem nu:∀ (l:List Int),eh (l.map .int)=some l
 | []=>rfl
 | x::l=>by simp [eh,mE,Option.bind_some,nu l]
theorem mO {α:Type} {elt:aF→ag→Option (V×ag)} {cond:aF→ag→Option (Bool×ag)} {t:ge} {w:List (Nat×aZ)} {ρ:aF} {σ:ag} {g:α→V} {p:α→Bool} {f:α→V} (hw:cn σ w):∀ {xs:List α},
  (∀ x∈xs,∃ ρ',t.put (g x) ρ=some ρ'∧cond ρ' σ=some (p x,σ)∧(p x=true→elt ρ' σ=some (f x,σ)))→fP elt cond t w (xs.map g) ρ σ=some ((xs.filter p).map f,σ)
 | [],_=>by simp [fP,c8,a9,Option.bind_some,hw]
 | x::xs,h=>by
  refine fL (h x List.mem_cons_self) fun ρ' h1 h2 h3=>?_
  have ih:=mO hw (xs:=xs) fun y hy=>h y (List.mem_cons_of_mem _ hy)
  simp only [List.map_cons,fP,c8,a9,Option.bind_some,hw,if_true,h1,h2]
  cases hp:p x with
  | false=>simp [ih,hp]
  | true=>simp [ih,hp,h3 hp]
theorem IM {call:ar} {e:CE} {ρ:aF} {σ σ₁:ag} {b:Bool} (h:ab call e ρ σ=some (.bool b,σ₁)):cY call (.cons e .nil) ρ σ=some (b,σ₁):=by
 show gf (ab call e ρ σ) (fun b σ₁=>if b then cY call .nil ρ σ₁ else some (false,σ₁))=_
 rw [h]
 cases b <;> rfl
theorem cX {call:ar} {a:CE} {ρ:aF} {σ σ₁:ag} {n:Nat} (ha:ab call a ρ σ=some (.int n,σ₁)) (hn:n≤1000000000):cm call (.rng1 a) ρ σ=some (bp 0 n 1,[],σ₁):=by
 have wV:dz (n:Int)=true:=by simp [dz];(exact Int.ofNat_le.mpr ‹_›)
 show kB (ab call a ρ σ) (fun n σ₁=>if dz n then some (bp 0 n 1,[],σ₁) else none)=_
 rw [ha]
 exact if_pos wV
theorem tN {α:Type} (l:List α):l.filter (fun _=>true)=l:=List.filter_eq_self.mpr fun _ _=>rfl
theorem uJ {P:List aS} {k d:Nat} {σ:ag} (hk:P[k]? = some dL) (x:Int):ax P (d+1) k [.int x] σ=some (.ok (.bool true),σ) :=
 kC hk rfl (W.retE rfl ⟨_,rfl,rfl,rfl⟩)
theorem um (n:Nat):bp 0 n 1=(List.range n).map fun j:Nat=>V.int j:=by
 have:eZ 0 n 1=n:=by
  have:=cT n
  simpa [bp] using this
 simp [bp,this]
theorem pZ {cs:List Int} {j:Nat} (hj:j<cs.length):(cs.map V.int)[((j:Nat):Int).toNat]? = some (.int ((cs[j]?).getD 0)):=by
 rw [Int.toNat_natCast,List.getElem?_map,List.getElem?_eq_getElem hj];rfl
theorem se {n:Nat} {j:Nat} {x:V} (h:(bp 1 (n+1:Nat) 1)[j]? = some x):j<n∧x=.int ((j:Int)+1):=by
 simp only [bp,eZ,List.getElem?_map] at h
 have hn:(if (1:Int)<((n+1:Nat):Int) then (((n+1:Nat):Int) - 1 - 1) / 1+1 else 0).toNat=n:=by split <;> simp <;> lia
 simp only [show (1:Int) > 0 from by decide,if_true,hn] at h
 refine Or.elim (Nat.lt_or_ge j n) (fun hj=>?_) (fun hj=>?_)
 ·rw [List.getElem?_range hj] at h
  simp at h
  exact ⟨hj,by rw [←h];congr 1;lia⟩
 ·rw [List.getElem?_eq_none (by simpa using hj)] at h
  cases h
theorem sf (n:Nat):(bp 1 (n+1:Nat) 1).length=n:=by
 simp only [bp,eZ,List.length_map,List.length_range]
 simp only [show (1:Int) > 0 from by decide,if_true]
 split <;> simp <;> lia
section
variable {call:ar} {ρ:aF} {σ σ₁ ae bb:ag}
theorem fR {es:eG} {vs:List V} (h:aL call es ρ σ=some (vs,σ₁)) (hz:vs.length≤an):ab call (.list es) ρ σ=some (.ref σ₁.length,σ₁++[.lst vs]):=by
 show a9 _ _=_
 rw [h]
 exact if_pos hz
theorem io {es:eG} {vs:List V} (h:aL call es ρ σ=some (vs,σ₁)) (hz:vs.length≤an):ab call (.tuple es) ρ σ=some (.tup vs,σ₁):=by
 show a9 _ _=_
 rw [h]
 exact if_pos hz
theorem dC {a b:CE} {x y:Str} (ha:ab call a ρ σ=some (.str x,σ₁)) (hb:ab call b ρ σ₁=some (.str y,ae)) (hz:x.length+y.length≤an):ab call (.bin .Add a b) ρ σ=some (.str (x++y),ae) :=
 a6 ha hb (if_pos hz)
theorem E9 {a lo hi:CE} {x y z:V} {r:Option (V×ag)} (ha:ab call a ρ σ=some (x,σ₁)) (hl:ab call lo ρ σ₁=some (y,ae)) (hh:ab call hi ρ ae=some (z,bb)) (h:sn x y z bb=r):ab call (.slc a lo hi) ρ σ=r:=by
 show a9 (ab call a ρ σ) (fun x σ₁=>a9 (ab call lo ρ σ₁) fun y ae=>a9 (ab call hi ρ ae) fun z bb=>sn x y z bb)=_
 rw [ha]
 show a9 (ab call lo ρ σ₁) (fun y ae=>a9 (ab call hi ρ ae) fun z bb=>sn x y z bb)=_
 rw [hl]
 show a9 (ab call hi ρ ae) (fun z bb=>sn x y z bb)=_
 rw [hh];exact h
theorem B8 {o e:CE} {x y:Str} (ho:ab call o ρ σ=some (.str x,σ₁)) (he:ab call e ρ σ₁=some (.str y,ae)):ab call (.meth .find o (.cons e .nil)) ρ σ=some (.int (Txt.find x y),ae):=by
 show a9 (ab call o ρ σ) (fun x σ₁=>if iO .find x σ₁ then a9 (aL call (.cons e .nil) ρ σ₁) fun vs ae=>f9 .find x vs ae else none)=_
 rw [ho]
 show a9 (aL call (.cons e .nil) ρ σ₁) (fun vs ae=>f9 .find (.str x) vs ae)=_
 rw [aN he];rfl
theorem rR {k:Int} (h:0≤k∧k<4611686018427387904):rQ (.int k)=some k.toNat:=by
 show (if 0≤k∧k<4611686018427387904 then some k.toNat else none)=_
 rw [if_pos h]
theorem nj {k:Int} {n:Nat} (h:0≤k∧k<4611686018427387904):ot n (.int k)=some (min n k.toNat):=by
 show (if 0≤k∧k<4611686018427387904 then some (min n k.toNat) else none)=_
 rw [if_pos h]
theorem yv {n m:Nat} (h:(n:Int)<(m:Int)):n<m:=Int.ofNat_lt.mp h
theorem EA {n:Nat} (m:Nat) (h:n≤m) (hm:m≤1000):n≤an:=Nat.le_trans h (Nat.le_trans hm (by decide))
theorem LO {k:Nat} (h:k≤1000):0≤(k:Int)∧(k:Int)<4611686018427387904:=⟨Int.natCast_nonneg k,Int.lt_of_le_of_lt (Int.ofNat_le.mpr h) (by decide)⟩
theorem o0 {a i:CE} {x:Str} {k:Int} (ha:ab call a ρ σ=some (.str x,σ₁)) (hi:ab call i ρ σ₁=some (.int k,ae)) (h0:0≤k) (h1:k<x.length) (hx:x.length≤1000):∃ s:Str,ab call (.idx a i) ρ σ=some (.str s,ae)∧s.length=1:=by
 have bQ:k.toNat<x.cps.size:=(Int.toNat_lt h0).mpr h1
 refine ⟨⟨#[x.cps[k.toNat]]⟩,?_,rfl⟩
 have e:x.cps[k.toNat]? = some x.cps[k.toNat]:=Array.getElem?_eq_getElem bQ
 have hk:0≤k∧k<4611686018427387904:=⟨h0,Int.lt_trans h1 (LO hx).2⟩
 refine tI ha hi ?_
 show (Option.bind (some k) fun k=>if 0≤k∧k<4611686018427387904 then (x.cps[k.toNat]?).bind (fun c=>some (V.str ⟨#[c]⟩)) else none)=_
 rw [Option.bind_some,if_pos hk,e]
 rfl
theorem B5 {α:Type} (l:List α) (i j:Nat):(u8 l i j).length≤l.length:=by
 unfold u8
 rw [List.length_drop,List.length_take]
 exact Nat.le_trans (Nat.sub_le _ _) (Nat.min_le_right _ _)
theorem iZ {a lo hi:CE} {x:Str} {u v:V} {i j:Nat} (ha:ab call a ρ σ=some (.str x,σ₁)) (hl:ab call lo ρ σ₁=some (u,ae)) (hh:ab call hi ρ ae=some (v,bb)) (h0:rQ u=some i) (h1:ot x.length v=some j) (hx:x.length≤1000) :
  ∃ s:Str,ab call (.slc a lo hi) ρ σ=some (.str s,bb)∧s.length≤x.length:=by
 have hc:(u8 x.cps.toList i j).length≤x.length:=B5 _ _ _
 have hz:(u8 x.cps.toList i j).toArray.size≤an:=by rw [List.size_toArray];unfold an;exact l2 0xc00000000000001000000d110b03e89010b01 rfl hx hc
 refine ⟨⟨(u8 x.cps.toList i j).toArray⟩,?_,by show (u8 x.cps.toList i j).toArray.size≤_;rw [List.size_toArray];exact hc⟩
 refine E9 ha hl hh ?_
 show ((rQ u).bind fun i=>(ot x.length v).bind fun j=>F6 bb ⟨(u8 x.cps.toList i j).toArray⟩)=_
 rw [h0,h1]
 exact if_pos hz
theorem wK {e:CE} {x:Str} (h:ab call e ρ σ=some (.str x,σ₁)) (hx:x.length≤an):ab call (.prim .len (.cons e .nil)) ρ σ=some (.int x.length,σ₁) :=
 bh (aN h) (if_pos hx)
theorem zg {a b:CE} {p q:Prop} [Decidable p] [Decidable q] (ha:ab call a ρ σ=some (.bool (decide p),σ)) (hb:ab call b ρ σ=some (.bool (decide q),σ)):ab call (.and a b) ρ σ=some (.bool (decide (p∧q)),σ):=by
 by_cases hp:p
 ·rw [decide_eq_true hp] at ha
  rw [pN ha hb]
  simp [hp]
 ·rw [decide_eq_false hp] at ha
  rw [vf ha]
  simp [hp]
theorem pO {a b:CE} {x y:Int} (ha:ab call a ρ σ=some (.int x,σ₁)) (hb:ab call b ρ σ₁=some (.int y,ae)):ab call (.cmp .NotEq a b) ρ σ=some (.bool (decide (¬ x=y)),ae):=by
 have:(!(x==y))=decide (¬ x=y):=by rw [Ih];by_cases h:x=y <;> simp [h]
 rw [←this];exact dg ha hb rfl
theorem fm {a b:Int} (h:0<b):∃ n:Nat,a.fmod b=n∧(n:Int)<b:=by
 refine aJ (cA (a:=a) h) fun h1 h2=>?_
 exact ⟨(a.fmod b).toNat,(Int.toNat_of_nonneg h1).symm,by rw [Int.toNat_of_nonneg h1];exact h2⟩
end
noncomputable def sg:Str := "abcdefghijklmnopqrstuvwxyz"
theorem Gh:sg.length=26:=by decide +kernel
noncomputable def jo:List Str:=["total", "day", "flour", "salt", "left", "used", "short", "salts", "a", "z", "oil"]
theorem sT:∀ s∈jo,s.length≤5:=by decide +kernel
theorem gJ {call:ar} {ρ:aF} {σ σ₁:ag} {i:CE} {z:Int} (hv:ρ 2=some (.str sg)) (hi:ab call i ρ σ=some (.int (z.fmod 26),σ₁)):∃ s:Str,ab call (.idx (.var 2) i) ρ σ=some (.str s,σ₁)∧s.length=1:=by
 have b:=cA (a:=z) (b:=26) (by decide)
 have:=Gh
 exact o0 (bj hv) hi b.1 (by rw [this];exact b.2) (l1 0xc03e89014b001a90 rfl this)
theorem AZ {s1 s2:Str} (l1:s1.length=1) (l2:s2.length=1) {i:Nat} (h:i<4):∃ s:Str,([V.str ("" : Str),V.str ("" : Str),V.str s1,V.str s2]:List V)[(i:Int).toNat]? = some (.str s)∧s.length≤1:=by
 have e:([V.str ("" : Str),V.str ("" : Str),V.str s1,V.str s2]:List V)=([("" : Str),("" : Str),s1,s2]:List Str).map .str:=rfl
 have hs:∀ s∈([("" : Str),("" : Str),s1,s2]:List Str),s.length≤1:=by
  intro s hs
  have h0:("" : Str).length≤1:=by decide +kernel
  simp only [List.mem_cons,List.not_mem_nil,or_false] at hs
  rcases hs with rfl | rfl | rfl | rfl
  ·exact h0
  ·exact h0
  ·exact Nat.le_of_eq l1
  ·exact Nat.le_of_eq l2
 rw [e,Int.toNat_natCast,List.getElem?_map,List.getElem?_eq_getElem h]
 exact ⟨_,rfl,hs _ (List.getElem_mem _)⟩
theorem pd {P:List aS} {k d:Nat} {σ:ag} (hk:P[k]? = some cq) (bZ:Int) (i:Nat) (hi:i<100):∃ nm af,ax P (d+1) k [.int bZ,.int i] σ=some (.ok (.str nm),af)∧aM σ af∧nm.length≤20:=by
 have cZ:an=16777216:=rfl
 obtain ⟨v,af,h,nm,rfl,h1,h2⟩:=dK (R:=fun v af=>∃ nm:Str,v=.str nm∧aM σ af∧nm.length≤20) (σ:=σ) (d:=d) hk (as:=[.int bZ,.int i]) rfl (by
  refine W.set (v:=.str sg) (σ₁:=σ) rfl ?_
  refine W.set (v:=.ref σ.length) (σ₁:=σ++[.lst (jo.map .str)]) (fR (vs:=jo.map .str) rfl (by decide)) ?_
  have hw:(σ++[.lst (jo.map .str)])[σ.length]? = some (.lst (jo.map .str)):=a8 _ _
  have kw:aM σ (σ++[.lst (jo.map .str)]):=aM.app _ _
  generalize σ++[.lst (jo.map .str)]=ck at hw kw
  refine W.set (v:=.int (bZ.fdiv 6)) (σ₁:=ck) rfl ?_
  generalize hm:bZ.fdiv 6=more
  refine W.if_ (zg (f4 (x:=bZ.fmod 6) (y:=0) rfl rfl) (dg (c:=decide ((i:Int)<4)) rfl rfl rfl)) (fun hc=>?_) fun hc=>W.nil ?_
  ·refine au (fm (a:=more+i) (b:=11) (by decide)) fun n hn jl=>?_
   have bQ:n<jo.length:=yv (m:=11) jl
   have hx:(jo.map V.str)[(n:Int).toNat]? = some (.str jo[n]):=by rw [Int.toNat_natCast,List.getElem?_map,List.getElem?_eq_getElem bQ];rfl
   have he:ab (ax P d) (.bin .Mod (.bin .Add (.var 4) (.var 1)) (.cst (.int 11))) (cE (cE (cE (cz [.int bZ,.int i]) 2 (.str sg)) 3 (.ref σ.length)) 4 (.int more)) ck=some (.int n,ck):=by rw [←hn];rfl
   exact W.retE (bR σ.length n _ _ rfl he hw (Int.natCast_nonneg n) hx) ⟨_,rfl,_,rfl,kw,Nat.le_trans (sT _ (List.getElem_mem bQ)) (by decide)⟩
  ·refine W.set (v:=.str ("" : Str)) (σ₁:=ck) rfl ?_
   refine W.set (v:=.int (more.fdiv 7)) (σ₁:=ck) rfl ?_
   refine au (fm (a:=more) (b:=7) (by decide)) fun n hn jl=>?_
   refine W.loop gQ (xs:=bp 0 (1+n:Nat) 1) (w:=[]) (σ₁:=ck) (cX (by show some (V.int (1+more.fmod 7),ck)=_;rw [hn];rfl) (Nat.le_trans (Nat.add_le_add_left (Nat.le_of_lt (yv (m:=7) jl)) 1) (by decide)))
    (fun j ρ af=>∃ (x:Str) (mh:Int),ρ=aT [some (.int bZ),some (.int i),some (.str sg),none,some (.int more),some (.str x),some (.int mh)]∧af=ck∧x.length=j∧j≤7)
    (a:=aT [some (.int bZ),some (.int i),some (.str sg),none,some (.int more),some (.str ("" : Str)),some (.int (more.fdiv 7))]) (aG ⟨rfl,rfl,rfl,rfl,rfl,rfl,trivial⟩) ⟨_,_,rfl,rfl,by decide +kernel,Nat.zero_le _⟩ (fun _ _ _ _=>dh _) ?_ ?_
   ·rintro j x _ af hx ⟨y,mh,rfl,rfl,hy,hj⟩
    refine aJ (cj hx) fun bQ q2=>?_;apply aO q2
    refine ⟨_,rfl,?_⟩
    refine W.set (v:=.int (mh+1+(more.fdiv 182).fmod 25)) (σ₁:=af) rfl ?_
    generalize mh+1+(more.fdiv 182).fmod 25=at2
    refine au (gJ (call:=ax P d) (ρ:=cE (cE (aT [some (.int bZ),some (.int i),some (.str sg),none,some (.int more),some (.str y),some (.int mh)]) 7 (.int j)) 6 (.int at2)) (σ:=af) (i:=.bin .Mod (.var 6) (.cst (.int 26))) (z:=at2) rfl rfl) fun s hs yr=>?_
    refine W.set (v:=.str (y++s)) (σ₁:=af) (dC rfl hs (l4 0xc0a3115b00000000000001000000d014b2110b78214b183 rfl cZ hy hj yr)) ?_
    refine W.nil ⟨rfl,aT [some (.int bZ),some (.int i),some (.str sg),none,some (.int more),some (.str (y++s)),some (.int at2)],aG ⟨rfl,rfl,rfl,rfl,rfl,rfl,trivial⟩,y++s,at2,rfl,rfl,?_,Nat.le_trans bQ (by rw [Nat.one_add];exact yv (m:=7) jl)⟩
    rw [Str.length_append,hy,yr]
   ·rintro _ af ⟨x,mh,rfl,rfl,hx,hj⟩
    rw [cT] at hx
    have zH:x.length≤7:=by rw [hx,Nat.one_add];exact yv (m:=7) jl
    have Jq:0<(x.length:Int):=by rw [hx,Nat.one_add];exact Int.natCast_pos.mpr (Nat.succ_pos n)
    have zG:x.length≤1000:=Nat.le_trans zH (by decide)
    refine au (fm (a:=more.fdiv 4550) (b:=x.length) Jq) fun sp FJ H7=>?_
    refine W.set (v:=.int sp) (σ₁:=af) (by rw [←FJ];exact a6 (a6 rfl rfl (zc (by decide) (by decide))) (wK rfl (EA 7 zH (by decide))) (ek (Int.ne_of_gt Jq))) ?_
    -- the names of more than four
    refine W.if_ (p:=(3:Int)<i) (dg rfl rfl rfl) (fun hc=>?_) fun Ow=>W.nil ?_
    ·refine au (gJ (call:=ax P d) (ρ:=cE (aT [some (.int bZ),some (.int i),some (.str sg),none,some (.int more),some (.str x),some (.int mh)]) 8 (.int sp)) (σ:=af) (i:=.bin .Mod (.bin .Add (.var 6) (.bin .FloorDiv (.var 1) (.cst (.int 26)))) (.cst (.int 26))) (z:=mh+(i:Int).fdiv 26) rfl rfl) fun s1 e1 l1=>?_
     refine au (gJ (call:=ax P d) (ρ:=cE (aT [some (.int bZ),some (.int i),some (.str sg),none,some (.int more),some (.str x),some (.int mh)]) 8 (.int sp)) (σ:=af) (i:=.bin .Mod (.var 1) (.cst (.int 26))) (z:=i) rfl rfl) fun s2 e2 l2=>?_
     refine W.set (v:=.str (s1++s2)) (σ₁:=af) (dC e1 e2 (l3 0xc0a2115b00000000000001000000d014b18114b182 rfl cZ l1 l2)) ?_
     have HX:0≤min (sp:Int) 6∧min (sp:Int) 6<4611686018427387904:=⟨Int.le_min.mpr ⟨Int.natCast_nonneg sp,by decide⟩,Int.lt_of_le_of_lt (Int.min_le_right _ _) (by decide)⟩
     refine au (iZ (call:=ax P d) (a:=.var 5) (lo:=.cst .none) (hi:=.prim .min2 (.cons (.var 8) (.cons (.cst (.int 6)) .nil))) (x:=x) (u:=.none) (v:=.int (min sp 6)) (ρ:=cE (cE (aT [some (.int bZ),some (.int i),some (.str sg),none,some (.int more),some (.str x),some (.int mh)]) 8 (.int sp)) 9 (.str (s1++s2))) (σ:=af) rfl rfl rfl rfl (nj HX) zG) fun s3 e3 l3=>?_
     refine au (iZ (call:=ax P d) (a:=.var 5) (lo:=.prim .min2 (.cons (.var 8) (.cons (.cst (.int 6)) .nil))) (hi:=.cst (.int 6)) (x:=x) (u:=.int (min sp 6)) (v:=.int 6) (ρ:=cE (cE (aT [some (.int bZ),some (.int i),some (.str sg),none,some (.int more),some (.str x),some (.int mh)]) 8 (.int sp)) 9 (.str (s1++s2))) (σ:=af) rfl rfl rfl (rR HX) (nj (by decide)) zG) fun s4 e4 l4=>?_
     have Mb:(s1++s2).length=2:=by rw [Str.length_append,l1,l2]
     have m3:=Nat.add_le_add_right (Nat.le_trans l3 zH) 2
     have m4:=Nat.add_le_add m3 (Nat.le_trans l4 zH)
     exact W.retE (dC (dC e3 rfl (EA 9 (by rw [Mb];exact m3) (by decide))) e4 (EA 16 (by rw [Str.length_append,Mb];exact m4) (by decide))) ⟨_,rfl,_,rfl,kw,by rw [Str.length_append,Str.length_append,Mb];exact Nat.le_trans m4 (by decide)⟩
    ·refine W.if_ (p:=(3:Int)<bZ.fmod 6) (dg rfl rfl rfl) (fun hc=>?_) fun hc=>W.nil ?_
     ·refine au (gJ (call:=ax P d) (ρ:=cE (aT [some (.int bZ),some (.int i),some (.str sg),none,some (.int more),some (.str x),some (.int mh)]) 8 (.int sp)) (σ:=af) (i:=.bin .Mod (.bin .Add (.bin .FloorDiv (.var 4) (.cst (.int 7))) (.var 1)) (.cst (.int 26))) (z:=more.fdiv 7+(i:Int)) rfl rfl) fun s1 e1 l1=>?_
      exact W.retE (dC e1 rfl (EA 8 (by rw [l1];exact Nat.add_le_add_left zH 1) (by decide))) ⟨_,rfl,_,rfl,kw,by rw [Str.length_append,l1];exact Nat.le_trans (Nat.add_le_add_left zH 1) (by decide)⟩
     ·refine W.if_ (p:=(i:Int)=1) (f4 rfl rfl) (fun hc=>?_) fun hc=>W.nil ?_
      ·refine au (o0 (call:=ax P d) (a:=.var 5) (i:=.var 8) (x:=x) (k:=sp) (ρ:=cE (aT [some (.int bZ),some (.int i),some (.str sg),none,some (.int more),some (.str x),some (.int mh)]) 8 (.int sp)) (σ:=af) rfl rfl (Int.natCast_nonneg sp) H7 zG) fun s0 e0 l0=>?_
       obtain ⟨f0,ef⟩:∃ f0:Int,ab (ax P d) (.meth .find (.var 2) (.cons (.idx (.var 5) (.var 8)) .nil)) (cE (aT [some (.int bZ),some (.int i),some (.str sg),none,some (.int more),some (.str x),some (.int mh)]) 8 (.int sp)) af=some (.int f0,af):=⟨_,B8 (bj (v:=.str sg) rfl) e0⟩
       refine au (gJ (call:=ax P d) (ρ:=cE (aT [some (.int bZ),some (.int i),some (.str sg),none,some (.int more),some (.str x),some (.int mh)]) 8 (.int sp)) (σ:=af) (σ₁:=af) (i:=.bin .Mod (.bin .Add (.meth .find (.var 2) (.cons (.idx (.var 5) (.var 8)) .nil)) (.cst (.int 1))) (.cst (.int 26))) (z:=f0+1) rfl (a6 (x:=.int (f0+1)) (a6 ef rfl rfl) rfl (ek (by decide)))) fun s1 e1 l1=>?_
       refine W.set e1 ?_
       have M8:sp≤7:=Nat.le_trans (Nat.le_of_lt (yv H7)) zH
       have Lv:0≤(sp:Int)∧(sp:Int)<4611686018427387904:=LO (Nat.le_trans M8 (by decide))
       have Lw:0≤(sp:Int)+1∧(sp:Int)+1<4611686018427387904:=LO (k:=sp+1) (Nat.le_trans (Nat.succ_le_succ M8) (by decide))
       refine au (iZ (call:=ax P d) (a:=.var 5) (lo:=.cst .none) (hi:=.var 8) (x:=x) (u:=.none) (v:=.int sp) (ρ:=cE (cE (aT [some (.int bZ),some (.int i),some (.str sg),none,some (.int more),some (.str x),some (.int mh)]) 8 (.int sp)) 10 (.str s1)) (σ:=af) rfl rfl rfl rfl (nj Lv) zG) fun s3 e3 l3=>?_
       refine au (iZ (call:=ax P d) (a:=.var 5) (lo:=.bin .Add (.var 8) (.cst (.int 1))) (hi:=.cst .none) (x:=x) (u:=.int (sp+1)) (v:=.none) (ρ:=cE (cE (aT [some (.int bZ),some (.int i),some (.str sg),none,some (.int more),some (.str x),some (.int mh)]) 8 (.int sp)) 10 (.str s1)) (σ:=af) rfl rfl rfl (rR Lw) rfl zG) fun s4 e4 l4=>?_
       have m3:=Nat.add_le_add_right (Nat.le_trans l3 zH) 1
       have m4:=Nat.add_le_add m3 (Nat.le_trans l4 zH)
       exact W.retE (dC (dC e3 rfl (EA 8 (by rw [l1];exact m3) (by decide))) e4 (EA 15 (by rw [Str.length_append,l1];exact m4) (by decide))) ⟨_,rfl,_,rfl,kw,by rw [Str.length_append,Str.length_append,l1];exact Nat.le_trans m4 (by decide)⟩
      ·refine au (gJ (call:=ax P d) (ρ:=cE (aT [some (.int bZ),some (.int i),some (.str sg),none,some (.int more),some (.str x),some (.int mh)]) 8 (.int sp)) (σ:=af) (i:=.bin .Mod (.var 6) (.cst (.int 26))) (z:=mh) rfl rfl) fun s1 e1 l1=>?_
       refine au (gJ (call:=ax P d) (ρ:=cE (aT [some (.int bZ),some (.int i),some (.str sg),none,some (.int more),some (.str x),some (.int mh)]) 8 (.int sp)) (σ:=af) (i:=.bin .Mod (.bin .Add (.var 6) (.cst (.int 1))) (.cst (.int 26))) (z:=mh+1) rfl rfl) fun s2 e2 l2=>?_
       have el:=fR (call:=ax P d) (bK (e:=.cst (.str ("" : Str))) (v:=.str ("" : Str)) rfl (bK (e:=.cst (.str ("" : Str))) (v:=.str ("" : Str)) rfl (bK e1 (aN e2)))) (EA 4 (Nat.le_refl _) (by decide))
       have ON:i<4:=yv (m:=4) (Int.lt_of_le_of_lt (Int.not_lt.mp Ow) (by decide))
       refine au (AZ l1 l2 ON) fun s hs yr=>?_
       exact W.retE (dC rfl (bR af.length i _ _ el rfl (a8 _ _) (Int.natCast_nonneg i) hs) (EA 8 (Nat.add_le_add zH yr) (by decide))) ⟨_,rfl,_,rfl,kw.trans (aM.app _ _),by rw [Str.length_append];exact Nat.le_trans (Nat.add_le_add zH yr) (by decide)⟩)
 exact ⟨nm,af,h,h1,h2⟩
structure aY where
 n:Str
 a:Int
 l:Int
noncomputable def aY.v (b:aY):V:=.tup [.str b.n,.int b.a,.int b.l]
noncomputable def aY.ok (b:aY):Prop:=b.n.length≤20∧1≤b.a∧b.a≤200∧1≤b.l∧b.l≤99
theorem eE {σ:ag} {r:Nat} {m m':aZ} (e:σ[r]? = some m):(σ.set r m')[r]? = some m':=List.getElem?_set_self (List.getElem?_eq_some_iff.mp e).1
theorem ju {P:List aS} {k d:Nat} {σ:ag} {r:Nat} {cs:List Int} (hk:P[k]? = some bX) (hr:σ[r]? = some (.lst (cs.map .int))) (j:Nat) (hj:j<1000) {z:Int} (hz:z=j):ax P (d+1) k [.ref r,.int z] σ=some (.ok (.int (cellF cs j)),σ):=by
 apply aO hz;exact oS hk hr j (by exact l1 0x1c000000000000000f4240d011b03e890 rfl hj)
noncomputable def zj (iC:Nat):aS:=⟨1,(.cons (.assign (.one 1) (.call iC (.cons (.var 0) (.cons (.cst (.int 0)) .nil))))
 (.cons (.assign (.one 2) (.idx (.list (.cons (.cst (.int 1)) (.cons (.cst (.int 2)) (.cons (.cst (.int 3)) (.cons (.cst (.int 4)) .nil))))) (.bin .Mod (.call iC (.cons (.var 0) (.cons (.cst (.int 1)) .nil))) (.cst (.int 4)))))
 (.cons (.ite (.cmp .Eq (.bin .Mod (.bin .FloorDiv (.call iC (.cons (.var 0) (.cons (.cst (.int 1)) .nil))) (.cst (.int 4))) (.cst (.int 16))) (.cst (.int 0))) (.cons (.assign (.one 2) (.cst (.int 12)))
 .nil) .nil)
 (.cons (.ret (.list (.cons (.var 1) (.cons (.var 2) .nil))))
 .nil))))⟩
theorem Ce {n:Nat} (h:n<4):([V.int 1,.int 2,.int 3,.int 4]:List V)[n]? = some (.int (n+1:Nat)):=by
 match n,h with
 | 0,_=>rfl
 | 1,_=>rfl
 | 2,_=>rfl
 | 3,_=>rfl
theorem uf {P:List aS} {k d iC:Nat} {σ:ag} {r:Nat} {cs:List Int} (hk:P[k]? = some (zj iC)) (hC:P[iC]? = some bX) (hr:σ[r]? = some (.lst (cs.map .int))) :
  ∃ (q:Nat) (bZ:Int) (m:Nat) (af:ag),ax P (d+2) k [.ref r] σ=some (.ok (.ref q),af)∧af[q]? = some (.lst [.int bZ,.int m])∧aM σ af∧1≤m∧m≤12:=by
 have ec:∀ (j:Nat),j<1000→∀ af,aM σ af→ax P (d+1) iC [.ref r,.int j] af=some (.ok (.int (cellF cs j)),af):=fun j hj af hK=>oS hC (hK _ _ hr) j (Nat.lt_of_lt_of_le ‹_<_› (by decide))
 obtain ⟨v,af,h,q,bZ,m,rfl,h1,h2,h3,h4⟩:=dK (R:=fun v af=>∃ (q:Nat) (bZ:Int) (m:Nat),v=.ref q∧af[q]? = some (.lst [.int bZ,.int m])∧aM σ af∧1≤m∧m≤12) (σ:=σ) (d:=d+1) hk (as:=[.ref r]) rfl (by
  refine W.set (aw (vs:=[.ref r,.int 0]) rfl (ec 0 (by decide) σ (aM.refl _))) ?_
  generalize cellF cs 0=bZ
  have Kd:=ec 1 (by decide)
  generalize cellF cs 1=c at Kd
  refine au (fm (a:=c) (b:=4) (by decide)) fun n hn jl=>?_
  have K1:aM σ (σ++[.lst [V.int 1,.int 2,.int 3,.int 4]]):=aM.app _ _
  refine W.set (v:=.int (n+1:Nat)) (bR σ.length n _ _ (fR (vs:=[V.int 1,.int 2,.int 3,.int 4]) rfl (by decide)) (by rw [←hn];exact a6 (aw (vs:=[.ref r,.int 1]) rfl (Kd _ K1)) rfl (ek (by decide))) (a8 _ _) (Int.natCast_nonneg _) (Ce (Int.ofNat_lt.mp ‹_›))) ?_
  generalize σ++[.lst [V.int 1,.int 2,.int 3,.int 4]]=ck at K1
  have l7:∀ (m:Nat) (ρ:aF),ρ 1=some (.int bZ)→ρ 2=some (.int m)→1≤m→m≤12→W (ax P (d+1)) (.cons (.ret (.list (.cons (.var 1) (.cons (.var 2) .nil)))) .nil) ρ ck (fun fl _ af=>∃ v,fl=.ret v∧∃ (q:Nat) (bZ:Int) (m:Nat),v=.ref q∧af[q]? = some (.lst [.int bZ,.int m])∧aM σ af∧1≤m∧m≤12):=by
   intro m ρ g1 g2 h1 h2
   exact W.retE (fR (bK (bj g1) (aN (bj g2))) (by simp only [List.length_cons,List.length_nil];decide)) ⟨_,rfl,_,bZ,m,rfl,a8 _ _,K1.trans (aM.app _ _),h1,h2⟩
  refine W.if_ (p:=(c.fdiv 4).fmod 16=0) (f4 (a6 (a6 (aw (vs:=[.ref r,.int 1]) rfl (Kd _ K1)) rfl (zc (by decide) (by decide))) rfl (ek (by decide))) rfl) (fun hc=>?_) fun hc=>W.nil ?_
  ·refine W.set (v:=.int (12:Nat)) rfl (W.nil ?_)
   exact l7 12 _ rfl rfl (by decide) (by decide)
  ·exact l7 (n+1) _ rfl rfl (l1 0xca18018 rfl) (by (exact Nat.lt_of_lt_of_le (Int.ofNat_lt.mp ‹_<_›) (by decide))))
 exact ⟨q,bZ,m,af,h,h1,h2,h3,h4⟩
theorem pa {P:List aS} {k d:Nat} {σ:ag} (hk:P[k]? = some jj) (c:Int) (Ht uq:Nat) (Fq:Ht≤uq):∃ n:Nat,ax P (d+1) k [.int c,.int Ht,.int uq] σ=some (.ok (.int n),σ)∧n≤uq:=by
 obtain ⟨v,af,h,rfl,n,rfl,h2⟩:=dK (R:=fun v af=>af=σ∧∃ n:Nat,v=.int n∧n≤uq) (σ:=σ) (d:=d) hk (as:=[.int c,.int Ht,.int uq]) rfl (by
  refine au (fm (a:=c.fdiv 24) (b:=(uq:Int)+1) (by (exact Int.add_pos_of_nonneg_of_pos (Int.natCast_nonneg _) (by decide)))) fun n hn jl=>?_
  refine au (fm (a:=c.fdiv 24) (b:=(Ht:Int)+1) (by (exact Int.add_pos_of_nonneg_of_pos (Int.natCast_nonneg _) (by decide)))) fun m hm D6=>?_
  refine W.if_ (p:=c.fmod 24=0) (f4 rfl rfl) (fun hc=>?_) fun hc=>W.nil ?_
  ·exact W.retE (a6 (x:=.int (c.fdiv 24)) (y:=.int ((uq:Int)+1)) rfl rfl (ek (by (exact Int.ne_of_gt (Int.add_pos_of_nonneg_of_pos (Int.natCast_nonneg _) (by decide)))))) ⟨_,rfl,rfl,n,by rw [hn],Int.ofNat_le.mp (Int.le_of_lt_add_one jl)⟩
  ·exact W.retE (a6 (x:=.int (c.fdiv 24)) (y:=.int ((Ht:Int)+1)) rfl rfl (ek (by (exact Int.ne_of_gt (Int.add_pos_of_nonneg_of_pos (Int.natCast_nonneg _) (by decide)))))) ⟨_,rfl,rfl,m,by rw [hm],Nat.le_trans (Int.ofNat_le.mp (Int.le_of_lt_add_one D6)) Fq⟩)
 exact ⟨n,h,h2⟩
noncomputable def vj (iM iC iN iA iL:Nat):aS:=⟨3,(.cons (.assign (.one 3) (.list .nil))
 (.cons (.for_ (.one 4) (.rng1 (.var 2)) (.cons (.assign (.one 5) (.call iM (.cons (.call iC (.cons (.var 0) (.cons (.bin .Add (.cst (.int 23)) (.bin .Mod (.var 4) (.cst (.int 10)))) .nil))) (.cons (.bin .Add (.cst (.int 40)) (.var 4)) .nil))))
 (.cons (.assign (.one 6) (.call iM (.cons (.var 5) (.cons (.var 4) .nil))))
 (.cons (.expr (.meth .append (.var 3) (.cons (.tuple (.cons (.call iN (.cons (.idx (.var 1) (.cst (.int 0))) (.cons (.bin .Mod (.bin .Mod (.var 5) (.cst (.int 60))) (.idx (.var 1) (.cst (.int 1)))) .nil))) (.cons (.call iA (.cons (.bin .FloorDiv (.var 5) (.cst (.int 60))) (.cons (.cst (.int 200)) .nil))) (.cons (.call iL (.cons (.var 6) .nil)) .nil)))) .nil)))
 .nil))))
 (.cons (.ret (.prim .tuple (.cons (.var 3) .nil)))
 .nil)))⟩
theorem vO {P:List aS} {d iN:Nat} {σ:ag} {ρ:aF} {q m:Nat} {bZ c:Int} {i0 i1:Nat} (hN:P[iN]? = some cq) (tX:1≤m) (hm:m≤12) (hq:σ[q]? = some (.lst [.int bZ,.int m])) (g1:ρ i1=some (.ref q)) (g5:ρ i0=some (.int c)) :
  ∃ nm af,ab (ax P (d+1)) (.call iN (.cons (.idx (.var i1) (.cst (.int 0))) (.cons (.bin .Mod (.bin .Mod (.var i0) (.cst (.int 60))) (.idx (.var i1) (.cst (.int 1)))) .nil))) ρ σ=some (.str nm,af)∧aM σ af∧nm.length≤20:=by
 refine au (fm (a:=c.fmod 60) (b:=m) (Int.ofNat_lt.mpr ‹_›)) fun k hk tc=>?_
 refine kF (pd (d:=d) (σ:=σ) hN bZ k (Nat.lt_of_lt_of_le (yv tc) (Nat.le_trans hm (by decide)))) fun nm af h h1 h2=>?_
 refine ⟨nm,af,aw (vs:=[.int bZ,.int k]) (bK (bR q 0 _ _ (bj g1) rfl hq (by decide) rfl) (aN ?_)) h,h1,h2⟩
 rw [←hk]
 exact a6 (a6 (bj g5) rfl (ek (by decide))) (bR q 1 _ _ (bj g1) rfl hq (by decide) rfl) (ek (Int.ne_of_gt (Int.ofNat_lt.mpr tX)))
theorem Jw {n:Nat} (h:n≤1000):n<18446744073709551616:=Nat.lt_of_le_of_lt h (by decide)
structure NB (σ:ag) (bs:List aY) (j n:Nat) (af:ag):Prop where
 hK:aM σ af
 hb:af[σ.length]? = some (.lst (bs.map aY.v))
 hlen:bs.length=j
 hj:j≤n
 hok:∀ b∈bs,b.ok
theorem rO {P:List aS} {k d:Nat} {iM iC iN iA iL:Nat} {σ:ag} {r q m:Nat} {bZ:Int} {cs:List Int} (hk:P[k]? = some (vj iM iC iN iA iL)) (hM:P[iM]? = some fj) (hC:P[iC]? = some bX) (hN:P[iN]? = some cq) (hA:P[iA]? = some dq) (hL:P[iL]? = some f8)
  (hr:σ[r]? = some (.lst (cs.map .int))) (hq:σ[q]? = some (.lst [.int bZ,.int m])) (tX:1≤m) (hm:m≤12) (n:Nat) (hn:n≤200) :
  ∃ (bs:List aY) (af:ag),ax P (d+2) k [.ref r,.ref q,.int n] σ=some (.ok (.tup (bs.map aY.v)),af)∧aM σ af∧bs.length=n∧∀ b∈bs,b.ok:=by
 have cZ:an=16777216:=rfl
 obtain ⟨v,af,h,bs,rfl,h1,h2,h3⟩:=dK (R:=fun v af=>∃ bs:List aY,v=.tup (bs.map aY.v)∧aM σ af∧bs.length=n∧∀ b∈bs,b.ok) (σ:=σ) (d:=d+1) hk (as:=[.ref r,.ref q,.int n]) rfl (by
  refine W.set (v:=.ref σ.length) (σ₁:=σ++[.lst []]) rfl ?_
  refine W.loop gQ (cX (n:=n) rfl (l1 0xc0000000000003b9aca00d010b00c890 rfl hn))
   (fun j ρ af=>∃ bs:List aY,ρ=aT [some (.ref r),some (.ref q),none,some (.ref σ.length)]∧NB σ bs j n af)
   (a:=aT [some (.ref r),some (.ref q),none,some (.ref σ.length)]) (aG ⟨rfl,rfl,rfl,trivial⟩) ⟨[],rfl,aM.app _ _,a8 _ _,rfl,Nat.zero_le _,fun _ h=>nomatch h⟩ (fun _ _ _ _=>dh _) ?_ ?_
  ·intro j x Gq ck hx q1
   refine au q1 fun bs q1 I=>?_;apply aO q1
   refine aJ (cj hx) fun bQ q2=>?_;apply aO q2
   refine ⟨_,rfl,?_⟩
   refine au (fm (a:=(j:Int)) (b:=10) (by decide)) fun LP KV HQ=>?_
   refine W.set (aw (vs:=[.int (cellF cs (23+LP)),.int (40+(j:Int))]) (bK (aw (vs:=[.ref r,.int (23+(j:Int).fmod 10)]) rfl (ju (d:=d) hC (I.hK _ _ hr) (23+LP) (Nat.lt_of_lt_of_le (Nat.add_lt_add_left (yv (m:=10) HQ) 23) (by decide)) (by rw [KV];rfl))) (aN rfl)) (j4 hM _ _ (Jw (n:=40+j) (Nat.le_trans (Nat.add_le_add_left (Nat.le_trans (Nat.le_of_lt bQ) hn) 40) (by decide))))) ?_
   generalize xh (cellF cs (23+LP)) (40+(j:Int))=c
   refine W.set (aw (vs:=[.int c,.int j]) rfl (j4 hM _ _ (Jw (n:=j) (Nat.le_trans (Nat.le_of_lt bQ) (Nat.le_trans hn (by decide)))))) ?_
   generalize xh c j=sm
   refine kF (vO (d:=d) (σ:=ck) (ρ:=cE (cE (cE (aT [some (.ref r),some (.ref q),none,some (.ref σ.length)]) 4 (.int j)) 5 (.int c)) 6 (.int sm)) (i0:=5) (i1:=1) (c:=c) hN tX hm (I.hK _ _ hq) rfl rfl) fun nm de e1 k2 yq=>?_
   have ha:=og (c.fdiv 60)
   have hl:=rP sm
   refine W.append σ.length (bs.map aY.v) (aY.v ⟨nm,fi (c.fdiv 60) 200,jY sm⟩) de rfl I.hb (io (bK e1 (bK (aw (vs:=[.int (c.fdiv 60),.int 200]) rfl (lu hA _ _ (by decide))) (aN (aw (vs:=[.int sm]) rfl (xe hL _))))) (by simp only [List.length_cons,List.length_nil];exact l1 0xc0a18a18a180815b00000000000001000000d0 rfl cZ)) (k2 _ _ I.hb) (by simp only [List.length_map];exact l4 0xc1210b00c89015b00000000000001000000d114b3211b03 rfl hn cZ I.hlen bQ) ?_
   refine W.nil ⟨rfl,aT [some (.ref r),some (.ref q),none,some (.ref σ.length)],aG ⟨rfl,rfl,rfl,trivial⟩,bs++[⟨nm,fi (c.fdiv 60) 200,jY sm⟩],rfl,(I.hK.trans k2).set (Nat.le_refl _),?_,by simp [I.hlen],bQ,fun b hb'=>?_⟩
   ·rw [eE (k2 _ _ I.hb)];simp
   ·refine Or.elim (List.mem_append.mp hb') (fun h=>?_) (fun h=>?_)
    ·exact I.hok b h
    ·rw [List.mem_singleton.mp h];exact ⟨yq,ha.1,ha.2,hl.1,hl.2⟩
  ·intro Gq ck q1
   refine au q1 fun bs q1 I=>?_;apply aO q1
   have hlen:=I.hlen
   rw [cT] at hlen
   exact W.retE (bh (vs:=[.ref σ.length]) rfl (eA I.hb (by simp only [List.length_map];exact l3 0xc1210b00c89015b00000000000001000000d114b02 rfl hn cZ hlen))) ⟨_,rfl,bs,rfl,I.hK,hlen,I.hok⟩)
 exact ⟨bs,af,h,h1,h2,h3⟩
noncomputable def m8 (iW:Nat):aS:=⟨2,(.cons (.ite (.or (.not (.prim .isTuple (.cons (.var 0) .nil))) (.cmp .NotEq (.prim .len (.cons (.var 0) .nil)) (.prim .len (.cons (.var 1) .nil)))) (.cons (.ret (.cst (.bool false)))
 .nil) .nil)
 (.cons (.for_ (.one 2) (.rng1 (.prim .len (.cons (.var 1) .nil))) (.cons (.ite (.or (.not (.call iW (.cons (.idx (.var 0) (.var 2)) .nil))) (.cmp .NotEq (.idx (.var 0) (.var 2)) (.idx (.var 1) (.var 2)))) (.cons (.ret (.cst (.bool false)))
 .nil) .nil)
 .nil))
 (.cons (.ret (.cst (.bool true)))
 .nil)))⟩
section
variable {call:ar} {ρ:aF} {σ σ₁ ae bb:ag}
theorem qz {e:CE} {l:List V} (h:ab call e ρ σ=some (.tup l,σ₁)):cm call (.ex e) ρ σ=some (l,[],σ₁):=by
 show a9 (ab call e ρ σ) (fun x σ₁=>(iP σ₁ x).bind fun p=>some (p.1,p.2,σ₁))=_
 rw [h];rfl
theorem AS {e:CE} {l:List V} (h:ab call e ρ σ=some (.tup l,σ₁)):cm call (.enm e) ρ σ=some (bP 0 l,[],σ₁):=by
 show a9 (ab call e ρ σ) (fun x σ₁=>(DM x).bind fun xs=>some (bP 0 xs,[],σ₁))=_
 rw [h];rfl
end
noncomputable def pV (p:Nat×Int):V:=.tup [.int p.1,.int p.2]
noncomputable def eC (ps:List (Nat×Int)):V:=.tup (ps.map pV)
noncomputable def JY:aY:=⟨Str.empty,0,0⟩
theorem gx {α:Type} {l:List α} {k:Nat} {x:α} (h:l[k]? = some x):l.take (k+1)=l.take k++[x]:=by
 rw [List.take_add_one,h];rfl
theorem Ae {α:Type} {f:α→V} {l:List α} {k:Nat} {x:V} (h:(l.map f)[k]? = some x):∃ y,l[k]? = some y∧x=f y:=by
 rw [List.getElem?_map] at h
 cases hy:l[k]? with
 | none=>rw [hy] at h;exact no h
 | some y=>rw [hy] at h;exact ⟨y,rfl,(sm h).symm⟩
structure aQ where
 d:Nat
 ns:List (Str×Int)
noncomputable def nL (p:Str×Int):V:=.tup [.str p.1,.int p.2]
noncomputable def aQ.v (x:aQ):V:=.tup [.int x.d,.tup (x.ns.map nL)]
noncomputable def aQ.ok (x:aQ):Prop:=1≤x.d∧x.d≤7∧x.ns.length≤20
noncomputable def vi (iM iC iA iN:Nat):aS:=⟨3,(.cons (.assign (.one 3) (.list .nil))
 (.cons (.for_ (.one 4) (.rng1 (.var 2)) (.cons (.assign (.one 5) (.call iM (.cons (.call iC (.cons (.var 0) (.cons (.bin .Add (.cst (.int 3)) (.bin .Mod (.var 4) (.cst (.int 20)))) .nil))) (.cons (.var 4) .nil))))
 (.cons (.assign (.one 6) (.list .nil))
 (.cons (.assign (.one 7) (.idx (.list (.cons (.bin .Mod (.bin .FloorDiv (.var 5) (.cst (.int 7))) (.cst (.int 4))) (.cons (.bin .Mod (.bin .FloorDiv (.var 5) (.cst (.int 7))) (.cst (.int 21))) .nil))) (.prim .int (.cons (.cmp .Eq (.bin .Mod (.bin .FloorDiv (.var 5) (.cst (.int 147))) (.cst (.int 40))) (.cst (.int 0))) .nil))))
 (.cons (.for_ (.one 8) (.rng1 (.var 7)) (.cons (.assign (.one 9) (.call iM (.cons (.bin .FloorDiv (.var 5) (.cst (.int 28))) (.cons (.bin .Add (.var 8) (.cst (.int 1))) .nil))))
 (.cons (.assign (.one 10) (.bin .Add (.cst (.int 1)) (.bin .Mod (.bin .FloorDiv (.var 9) (.cst (.int 60))) (.cst (.int 12)))))
 (.cons (.ite (.cmp .Eq (.bin .Mod (.bin .FloorDiv (.var 9) (.cst (.int 720))) (.cst (.int 40))) (.cst (.int 0))) (.cons (.assign (.one 10) (.call iA (.cons (.bin .FloorDiv (.var 9) (.cst (.int 28800))) (.cons (.cst (.int 200)) .nil))))
 .nil) .nil)
 (.cons (.expr (.meth .append (.var 6) (.cons (.tuple (.cons (.call iN (.cons (.idx (.var 1) (.cst (.int 0))) (.cons (.bin .Mod (.bin .Mod (.var 9) (.cst (.int 60))) (.idx (.var 1) (.cst (.int 1)))) .nil))) (.cons (.var 10) .nil))) .nil)))
 .nil)))))
 (.cons (.expr (.meth .append (.var 3) (.cons (.tuple (.cons (.bin .Add (.cst (.int 1)) (.bin .Mod (.var 5) (.cst (.int 7)))) (.cons (.prim .tuple (.cons (.var 6) .nil)) .nil))) .nil)))
 .nil))))))
 (.cons (.ret (.prim .tuple (.cons (.var 3) .nil)))
 .nil)))⟩
structure Nx (σ:ag) (ds:List aQ) (j n:Nat) (af:ag):Prop where
 hK:aM σ af
 hb:af[σ.length]? = some (.lst (ds.map aQ.v))
 hlen:ds.length=j
 hj:j≤n
 hok:∀ x∈ds,x.ok
structure Mu (ck:ag) (ns:List (Str×Int)) (i t:Nat) (af:ag):Prop where
 hK:aM ck af
 hN:af[ck.length]? = some (.lst (ns.map nL))
 hnl:ns.length=i
 hit:i≤t
theorem rn {P:List aS} {k d:Nat} {iM iC iA iN:Nat} {σ:ag} {r q m:Nat} {bZ:Int} {cs:List Int} (hk:P[k]? = some (vi iM iC iA iN)) (hM:P[iM]? = some fj) (hC:P[iC]? = some bX) (hA:P[iA]? = some dq) (hN:P[iN]? = some cq)
  (hr:σ[r]? = some (.lst (cs.map .int))) (hq:σ[q]? = some (.lst [.int bZ,.int m])) (tX:1≤m) (hm:m≤12) (n:Nat) (hn:n≤200) :
  ∃ (ds:List aQ) (af:ag),ax P (d+2) k [.ref r,.ref q,.int n] σ=some (.ok (.tup (ds.map aQ.v)),af)∧aM σ af∧ds.length=n∧∀ x∈ds,x.ok:=by
 have cZ:an=16777216:=rfl
 obtain ⟨v,af,h,ds,rfl,h1,h2,h3⟩:=dK (R:=fun v af=>∃ ds:List aQ,v=.tup (ds.map aQ.v)∧aM σ af∧ds.length=n∧∀ x∈ds,x.ok) (σ:=σ) (d:=d+1) hk (as:=[.ref r,.ref q,.int n]) rfl (by
  refine W.set (v:=.ref σ.length) (σ₁:=σ++[.lst []]) rfl ?_
  refine W.loop gQ (cX (n:=n) rfl (l1 0xc0000000000003b9aca00d010b00c890 rfl hn))
   (fun j ρ af=>∃ ds:List aQ,ρ=aT [some (.ref r),some (.ref q),none,some (.ref σ.length)]∧Nx σ ds j n af)
   (a:=aT [some (.ref r),some (.ref q),none,some (.ref σ.length)]) (aG ⟨rfl,rfl,rfl,trivial⟩) ⟨[],rfl,aM.app _ _,a8 _ _,rfl,Nat.zero_le _,fun _ h=>nomatch h⟩ (fun _ _ _ _=>dh _) ?_ ?_
  ·intro j x Gq ck hx q1
   refine au q1 fun ds q1 I=>?_;apply aO q1
   refine aJ (cj hx) fun bQ q2=>?_;apply aO q2
   refine ⟨_,rfl,?_⟩
   refine au (fm (a:=(j:Int)) (b:=20) (by decide)) fun LQ KW HR=>?_
   refine W.set (aw (vs:=[.int (cellF cs (3+LQ)),.int j]) (bK (aw (vs:=[.ref r,.int (3+(j:Int).fmod 20)]) rfl (ju (d:=d) hC (I.hK _ _ hr) (3+LQ) (Nat.lt_of_lt_of_le (Nat.add_lt_add_left (yv (m:=20) HR) 3) (by decide)) (by rw [KW];rfl))) (aN rfl)) (j4 hM _ _ (Jw (n:=j) (Nat.le_trans (Nat.le_of_lt bQ) (Nat.le_trans hn (by decide)))))) ?_
   generalize xh (cellF cs (3+LQ)) j=c
   refine W.set (v:=.ref ck.length) (σ₁:=ck++[.lst []]) rfl ?_
   have hl1:σ.length<ck.length:=(List.getElem?_eq_some_iff.mp I.hb).1
   have KC:∃ (t:Nat) (de:ag),ab (ax P (d+1)) (.idx (.list (.cons (.bin .Mod (.bin .FloorDiv (.var 5) (.cst (.int 7))) (.cst (.int 4))) (.cons (.bin .Mod (.bin .FloorDiv (.var 5) (.cst (.int 7))) (.cst (.int 21))) .nil))) (.prim .int (.cons (.cmp .Eq (.bin .Mod (.bin .FloorDiv (.var 5) (.cst (.int 147))) (.cst (.int 40))) (.cst (.int 0))) .nil))) (cE (cE (cE (aT [some (.ref r),some (.ref q),none,some (.ref σ.length)]) 4 (.int j)) 5 (.int c)) 6 (.ref ck.length)) (ck++[.lst []])=some (.int t,de)∧aM (ck++[.lst []]) de∧t≤20:=by
    refine au (fm (a:=c.fdiv 7) (b:=4) (by decide)) fun t1 Pa Lz=>?_
    refine au (fm (a:=c.fdiv 7) (b:=21) (by decide)) fun t2 Pb LA=>?_
    have el:=fR (call:=ax P (d+1)) (ρ:=cE (cE (cE (aT [some (.ref r),some (.ref q),none,some (.ref σ.length)]) 4 (.int j)) 5 (.int c)) 6 (.ref ck.length)) (σ:=ck++[.lst []]) (es:=.cons (.bin .Mod (.bin .FloorDiv (.var 5) (.cst (.int 7))) (.cst (.int 4))) (.cons (.bin .Mod (.bin .FloorDiv (.var 5) (.cst (.int 7))) (.cst (.int 21))) .nil)) (vs:=[.int ((c.fdiv 7).fmod 4),.int ((c.fdiv 7).fmod 21)]) (σ₁:=ck++[.lst []]) rfl (by show 2≤an;exact l1 0xc02815b00000000000001000000d0 rfl cZ)
    rw [Pa,Pb] at el
    by_cases hp:((c.fdiv 147).fmod 40==0)=true
    ·refine ⟨t2,_,bR _ 1 [.int t1,.int t2] _ el (bh (vs:=[.bool ((c.fdiv 147).fmod 40==0)]) rfl ?_) (a8 _ _) (by decide) rfl,aM.app _ _,Nat.le_of_lt_succ (yv (m:=21) LA)⟩
     rw [hp];rfl
    ·refine ⟨t1,_,bR _ 0 [.int t1,.int t2] _ el (bh (vs:=[.bool ((c.fdiv 147).fmod 40==0)]) rfl ?_) (a8 _ _) (by decide) rfl,aM.app _ _,Nat.le_trans (Nat.le_of_lt (yv (m:=4) Lz)) (by decide)⟩
     rw [Bool.eq_false_iff.mpr hp];rfl
   refine kF KC fun t de e2 k2 ht=>?_
   refine W.set e2 ?_
   have Oe:=k2 _ _ (a8 ck (.lst []))
   have hK2:aM ck de:=(aM.app _ _).trans k2
   have hb2:=hK2 _ _ I.hb
   refine W.loop (fun _ _ _ _ hl ⟨h1,c,h2,h3⟩=>⟨h1,c,h2.trans hl,h3⟩) (cX (n:=t) rfl (l1 0xc0000000000003b9aca00d010b001490 rfl ht))
    (fun i ρ af=>∃ ns:List (Str×Int),ρ=aT [some (.ref r),some (.ref q),none,some (.ref σ.length),none,some (.int c),some (.ref ck.length)]∧Mu ck ns i t af)
    (a:=aT [some (.ref r),some (.ref q),none,some (.ref σ.length),none,some (.int c),some (.ref ck.length)]) (aG ⟨rfl,rfl,rfl,rfl,rfl,trivial⟩) ⟨[],rfl,hK2,Oe,rfl,Nat.zero_le _⟩ (fun _ _ _ _=>dh _) ?_ ?_
   ·intro i x Gr ki hx q1
    refine au q1 fun ns q1 J=>?_;apply aO q1
    refine aJ (cj hx) fun bQ q2=>?_;apply aO q2
    refine ⟨_,rfl,?_⟩
    refine W.set (aw (vs:=[.int (c.fdiv 28),.int ((i:Int)+1)]) rfl (j4 hM _ _ (Jw (n:=i+1) (Nat.le_trans bQ (Nat.le_trans ht (by decide)))))) ?_
    generalize xh (c.fdiv 28) ((i:Int)+1)=sm
    refine W.set (v:=.int (1+(sm.fdiv 60).fmod 12)) (σ₁:=ki) rfl ?_
    have sO:∀ (am:Int) (ρ:aF),ll ρ 0 [some (.ref r),some (.ref q),none,some (.ref σ.length),none,some (.int c),some (.ref ck.length)]→ρ 9=some (.int sm)→ρ 10=some (.int am)→W (ax P (d+1)) (.cons (.expr (.meth .append (.var 6) (.cons (.tuple (.cons (.call iN (.cons (.idx (.var 1) (.cst (.int 0))) (.cons (.bin .Mod (.bin .Mod (.var 9) (.cst (.int 60))) (.idx (.var 1) (.cst (.int 1)))) .nil))) (.cons (.var 10) .nil))) .nil))) .nil) ρ ki
      (fun fl bA bB=>fl=.next∧∃ a,Le a bA∧∃ ns:List (Str×Int),a=aT [some (.ref r),some (.ref q),none,some (.ref σ.length),none,some (.int c),some (.ref ck.length)]∧Mu ck ns (i+1) t bB):=by
     intro am ρ Kk g9 NW
     refine kF (vO (d:=d) (σ:=ki) (ρ:=ρ) (i0:=9) (i1:=1) (c:=sm) hN tX hm (J.hK _ _ (I.hK _ _ hq)) Kk.2.1 g9) fun nm Gs e4 k4 yq=>?_
     refine W.append ck.length (ns.map nL) (nL (nm,am)) Gs (bj Kk.2.2.2.2.1) J.hN (io (bK e4 (aN (bj NW))) (by show 2≤an;exact l1 0xc02815b00000000000001000000d0 rfl cZ)) (k4 _ _ J.hN) (by rw [List.length_map];exact l4 0xc0215b00000000000001000000d010b00149114b3211b13 rfl cZ ht J.hnl bQ) ?_
     refine W.nil ⟨rfl,_,aG Kk,ns++[(nm,am)],rfl,(J.hK.trans k4).set (Nat.le_refl _),?_,by simp [J.hnl],bQ⟩
     rw [eE (k4 _ _ J.hN)];simp
    refine W.if_ (p:=(sm.fdiv 720).fmod 40=0) (f4 rfl rfl) (fun hc=>?_) fun hc=>W.nil ?_
    ·refine W.set (aw (vs:=[.int (sm.fdiv 28800),.int 200]) rfl (lu hA _ _ (by decide))) (W.nil ?_)
     exact sO _ _ ⟨rfl,rfl,rfl,rfl,rfl,trivial⟩ rfl rfl
    ·exact sO _ _ ⟨rfl,rfl,rfl,rfl,rfl,trivial⟩ rfl rfl
   ·intro Gr ki q1
    refine au q1 fun ns q1 J=>?_;apply aO q1
    have hnl:=J.hnl
    rw [cT] at hnl
    refine au (fm (a:=c) (b:=7) (by decide)) fun dy KJ KL=>?_
    have MU:=J.hK _ _ I.hb
    refine W.append0 σ.length (ds.map aQ.v) (aQ.v ⟨1+dy,ns⟩) rfl MU (io (bK (v:=.int (1+dy:Nat)) (by show some (V.int (1+c.fmod 7),ki)=_;rw [KJ];rfl) (aN (bh (vs:=[.ref ck.length]) rfl (eA J.hN (by rw [List.length_map];show ns.length≤an;exact l3 0xc0215b00000000000001000000d010b00149114b12 rfl cZ ht hnl))))) (by show 2≤an;exact l1 0xc02815b00000000000001000000d0 rfl cZ)) (by rw [List.length_map];exact l4 0xc1210b00c89015b00000000000001000000d114b3211b03 rfl hn cZ I.hlen bQ) ?_
    refine W.nil ⟨rfl,aT [some (.ref r),some (.ref q),none,some (.ref σ.length)],aG ⟨rfl,rfl,rfl,trivial⟩,ds++[⟨1+dy,ns⟩],rfl,(I.hK.trans J.hK).set (Nat.le_refl _),?_,by simp [I.hlen],bQ,fun y hy=>?_⟩
    ·rw [eE MU];simp
    ·refine Or.elim (List.mem_append.mp hy) (fun h=>?_) (fun h=>?_)
     ·exact I.hok y h
     ·rw [List.mem_singleton.mp h];exact ⟨by show 1≤1+dy;exact l1 0xca01818 rfl,by show 1+dy≤7;rw [Nat.one_add];exact yv (m:=7) KL,by show ns.length≤20;exact Nat.le_trans (Nat.le_of_eq hnl) ht⟩
  ·intro Gq ck q1
   refine au q1 fun ds q1 I=>?_;apply aO q1
   have hlen:=I.hlen
   rw [cT] at hlen
   exact W.retE (bh (vs:=[.ref σ.length]) rfl (eA I.hb (by rw [List.length_map];exact l3 0xc1210b00c89015b00000000000001000000d114b02 rfl hn cZ hlen))) ⟨_,rfl,ds,rfl,I.hK,hlen,I.hok⟩)
 exact ⟨ds,af,h,h1,h2,h3⟩
section
variable {call:ar} {az:fu} {ρ:aF} {σ σ₁ ae bb:ag} {Q:b8→aF→ag→Prop}
theorem W.ifB {c:CE} {t e:fu} {b:Bool} {σ₁:ag} (h:ab call c ρ σ=some (.bool b,σ₁)) (hT:b=true→W call t ρ σ₁ fun fl ρ' af=>match fl with | .next=>W call az ρ' af Q | fl=>Q fl ρ' af)
  (hF:b=false→W call e ρ σ₁ fun fl ρ' af=>match fl with | .next=>W call az ρ' af Q | fl=>Q fl ρ' af):W call (.cons (.ite c t e) az) ρ σ Q:=by
 cases b with
 | true=>exact W.iteT σ₁ (aR h) (hT rfl)
 | false=>exact W.iteF σ₁ (aR h) (hF rfl)
theorem mn {a b:CE} {p q:Bool} (ha:ab call a ρ σ=some (.bool p,σ)) (hb:ab call b ρ σ=some (.bool q,σ)):ab call (.and a b) ρ σ=some (.bool (p&&q),σ):=by
 cases p with
 | true=>exact pN ha hb
 | false=>exact vf ha
theorem AU {a b:CE} {m n:Int} (ha:ab call a ρ σ=some (.int m,σ₁)) (hb:ab call b ρ σ₁=some (.int n,ae)) (h:(dz m&&dz n)=true):cm call (.rng2 a b) ρ σ=some (bp m n 1,[],ae):=by
 show kB (ab call a ρ σ) (fun m σ₁=>kB (ab call b ρ σ₁) fun n ae=>if dz m&&dz n then some (bp m n 1,[],ae) else none)=_
 rw [ha]
 show kB (ab call b ρ σ₁) (fun n ae=>if dz m&&dz n then some (bp m n 1,[],ae) else none)=_
 rw [hb]
 exact if_pos h
end
theorem pg {R:Nat→Nat→Prop} (as:∀ i j,R i j→¬ R j i):∀ {l m:List Nat},l.Pairwise R→m.Pairwise R→(∀ i,i∈l↔i∈m)→l=m
 | [],m,_,_,h=>by
  cases m with
  | nil=>rfl
  | cons b m=>exact absurd ((h b).mpr List.mem_cons_self) (fun q=>nomatch q)
 | a::l,m,hl,hm,h=>by
  cases m with
  | nil=>exact absurd ((h a).mp List.mem_cons_self) (fun q=>nomatch q)
  | cons b m =>
   have ed:=List.pairwise_cons.mp hl
   have D6:=List.pairwise_cons.mp hm
   have Bm:a=b:=by
    refine Or.elim (List.mem_cons.mp ((h a).mp List.mem_cons_self)) (fun q=>?_) (fun q=>?_)
    ·exact q
    ·refine Or.elim (List.mem_cons.mp ((h b).mpr List.mem_cons_self)) (fun p=>?_) (fun p=>?_)
     ·exact p.symm
     ·exact absurd (ed.1 b p) (as _ _ (D6.1 a q))
   subst Bm
   have ir:∀ i,¬ R i i:=fun i q=>as i i q q
   refine congrArg (a :: ·) (pg as ed.2 D6.2 fun i=>⟨fun q=>?_,fun q=>?_⟩)
   ·refine Or.elim (List.mem_cons.mp ((h i).mp (List.mem_cons_of_mem _ q))) (fun p=>?_) (fun p=>?_)
    ·subst p;exact absurd (ed.1 _ q) (ir _)
    ·exact p
   ·refine Or.elim (List.mem_cons.mp ((h i).mpr (List.mem_cons_of_mem _ q))) (fun p=>?_) (fun p=>?_)
    ·subst p;exact absurd (D6.1 _ q) (ir _)
    ·exact p
noncomputable def yt (bs:List aY) (i:Nat):Int:=((bs[i]?).map aY.l).getD 0
noncomputable def n9 (lf:List Int) (i:Nat):Int:=(lf[i]?).getD 0
noncomputable def oh (bs:List aY) (lf:List Int) (nm:Str) (dy:Int) (i:Nat):Bool:=match bs[i]? with
 | some b=>b.n==nm&&(decide (dy≤b.l)&&decide (0<n9 lf i))
 | none=>false
noncomputable def Bf (bs:List aY) (i j:Nat):Prop:=yt bs i<yt bs j∨(yt bs i=yt bs j∧i<j)
theorem Bf.asym {bs:List aY} {i j:Nat} (h:Bf bs i j):¬ Bf bs j i:=by
 unfold Bf at *;lia
noncomputable def xc (bs:List aY) (i:Nat):KP:=([yt bs i,(i:Int)],(i:Int))
noncomputable def GQ (bs:List aY) (l:List Nat):List Nat:=(dT (l.map (xc bs))).map fun p=>p.2.toNat
theorem v6 (bs:List aY) (l:List Nat):dT (l.map (xc bs))=(GQ bs l).map (xc bs):=by
 unfold GQ
 rw [List.map_map]
 conv=>lhs;rw [←List.map_id (dT (l.map (xc bs)))]
 refine List.map_congr_left fun p hp=>?_
 refine au (List.mem_map.mp ((eu _).mem_iff.mp hp)) fun i _ q3=>?_;apply fQ q3
 rfl
theorem nX (bs:List aY) (l:List Nat):(GQ bs l).Perm l:=by
 have h:=(eu (l.map (xc bs))).map fun p=>p.2.toNat
 rw [List.map_map] at h
 have e:((fun p:KP=>p.2.toNat) ∘ xc bs)=id:=by
  funext i;exact Int.toNat_natCast i
 rw [e,List.map_id] at h
 exact h
theorem Iq {bs:List aY} {i j:Nat} (h:jL (xc bs i) (xc bs j)) (eM:i≠j):Bf bs i j:=by
 unfold jL jd xc at h
 simp only [bJ,Bool.or_eq_false_iff,decide_eq_false_iff_not,Bool.and_eq_false_iff,beq_eq_false_iff_ne,Bool.not_eq_false',Bool.or_eq_true,decide_eq_true_eq,Bool.and_eq_true,beq_iff_eq,List.isEmpty_nil,Bool.not_true,Bool.false_eq_true,and_false,or_false] at h
 unfold Bf
 lia
theorem Gl {bs:List aY} {l:List Nat} (hn:l.Nodup):(GQ bs l).Pairwise (Bf bs):=by
 have h1:=gO (l.map (xc bs))
 rw [v6,List.pairwise_map] at h1
 have h2:(GQ bs l).Pairwise (·≠·):=(nX bs l).nodup_iff.mpr hn
 exact (h1.and h2).imp fun ⟨a,b⟩=>Iq a b
noncomputable def zd (bs:List aY) (lf:List Int) (nm:Str) (dy:Int):List Nat:=(List.range bs.length).filter (oh bs lf nm dy)
noncomputable def bE (bs:List aY) (lf:List Int) (nm:Str) (dy:Int):List Nat:=GQ bs (zd bs lf nm dy)
theorem jw {bs:List aY} {lf:List Int} {nm:Str} {dy:Int} {i:Nat} (h:oh bs lf nm dy i=true):i<bs.length:=by
 unfold oh at h
 cases e:bs[i]? with
 | none=>rw [e] at h;cases h
 | some b=>exact (List.getElem?_eq_some_iff.mp e).1
theorem ij {bs:List aY} {lf:List Int} {nm:Str} {dy:Int} {i:Nat}:i∈bE bs lf nm dy↔oh bs lf nm dy i=true:=by
 rw [bE,(nX _ _).mem_iff,zd,List.mem_filter,List.mem_range]
 exact ⟨fun h=>h.2,fun h=>⟨jw h,h⟩⟩
theorem yL (bs:List aY) (lf:List Int) (nm:Str) (dy:Int):(bE bs lf nm dy).Pairwise (Bf bs):=Gl (List.nodup_range.filter _)
theorem tv (bs:List aY) (lf:List Int) (nm:Str) (dy:Int):(bE bs lf nm dy).length≤bs.length:=by
 rw [bE,(nX _ _).length_eq,zd]
 exact Nat.le_trans (List.length_filter_le _ _) (by rw [List.length_range];exact Nat.le_refl _)
theorem CG {lf:List Int} {i j:Nat} {x:Int} (h:i<lf.length):n9 (lf.set i x) j=if i=j then x else n9 lf j:=by
 unfold n9
 rw [List.getElem?_set]
 by_cases ov:i=j
 ·apply fQ ov;rw [if_pos rfl,if_pos h,if_pos rfl];rfl
 ·rw [if_neg ov,if_neg ov]
theorem BM {bs:List aY} {lf:List Int} {nm:Str} {dy:Int} {i:Nat} {r:List Nat} {x:Int} (h:bE bs lf nm dy=i::r) (hi:i<lf.length) (hx:x≤0):bE bs (lf.set i x) nm dy=r:=by
 have hp:=yL bs lf nm dy
 rw [h] at hp
 refine aJ (List.pairwise_cons.mp hp) fun h1 h2=>?_
 refine pg (fun _ _=>Bf.asym) (yL _ _ _ _) h2 fun j=>?_
 have yu:j∈i::r↔oh bs lf nm dy j=true:=by rw [←h];exact ij
 rw [ij]
 unfold oh at yu ⊢
 cases e:bs[j]? with
 | none =>
  rw [e] at yu
  exact ⟨(fun q=>nomatch q),fun q=>yu.mp (List.mem_cons_of_mem _ q)⟩
 | some b =>
  rw [e] at yu
  dsimp only at yu ⊢
  rw [CG hi]
  by_cases ov:i=j
  ·apply fQ ov
   rw [if_pos rfl]
   refine ⟨fun q=>?_,fun q=>absurd (h1 _ q) fun z=>Bf.asym z z⟩
   simp only [Bool.and_eq_true,decide_eq_true_eq] at q
   lia
  ·rw [if_neg ov]
   exact ⟨fun q=>(List.mem_cons.mp (yu.mpr q)).resolve_left (fun z=>ov z.symm),fun q=>yu.mp (List.mem_cons_of_mem _ q)⟩
theorem BK {bs:List aY} {lf:List Int} {nm:Str} {dy:Int} {m:Nat} (hm:oh bs lf nm dy m=true) (hl:∀ j,oh bs lf nm dy j=true→j=m∨Bf bs m j):∃ r,bE bs lf nm dy=m::r:=by
 have yu:m∈bE bs lf nm dy:=ij.mpr hm
 cases h:bE bs lf nm dy with
 | nil=>rw [h] at yu;exact nomatch yu
 | cons i r =>
  have hp:=yL bs lf nm dy
  rw [h] at hp yu
  have hi:oh bs lf nm dy i=true:=ij.mp (by rw [h];exact List.mem_cons_self)
  refine Or.elim (hl i hi) (fun q=>?_) (fun q=>?_)
  ·exact ⟨r,by rw [q]⟩
  ·refine Or.elim (List.mem_cons.mp yu) (fun p=>?_) (fun p=>?_)
   ·exact ⟨r,by rw [p]⟩
   ·exact absurd ((List.pairwise_cons.mp hp).1 m p) (Bf.asym q)
theorem BL {bs:List aY} {lf:List Int} {nm:Str} {dy:Int} (h:∀ j,oh bs lf nm dy j=false):bE bs lf nm dy=[]:=by
 cases e:bE bs lf nm dy with
 | nil=>rfl
 | cons i r =>
  have:oh bs lf nm dy i=true:=ij.mp (by rw [e];exact List.mem_cons_self)
  rw [h] at this;cases this
structure Tk where
 ps:List (Nat×Int)
 lf:List Int
 am:Int
noncomputable def hO (t:Tk) (i:Nat):Int:=min t.am (n9 t.lf i)
noncomputable def me (t:Tk) (i:Nat):Tk:=if 0<t.am then ⟨t.ps++[(i,hO t i)],t.lf.set i (n9 t.lf i - hO t i),t.am - hO t i⟩ else t
theorem sL:∀ (l:List Nat) (t:Tk),¬ 0<t.am→l.foldl me t=t
 | [],t,_=>rfl
 | i::l,t,h=>by
  rw [List.foldl_cons,show me t i=t from if_neg h]
  exact sL l t h
theorem Di (t:Tk) (i:Nat):(me t i).lf.length=t.lf.length:=by
 unfold me
 split
 ·exact List.length_set
 ·rfl
theorem ke:∀ (l:List Nat) (t:Tk),(l.foldl me t).lf.length=t.lf.length
 | [],t=>rfl
 | i::l,t=>by rw [List.foldl_cons,ke l,Di]
noncomputable def n5 (bs:List aY) (lf:List Int) (nm:Str) (am dy:Int):Tk:=(bE bs lf nm dy).foldl me ⟨[],lf,am⟩
theorem Dm {bs:List aY} {nm:Str} {dy:Int} {t:Tk} {i:Nat} {r:List Nat} (h:bE bs t.lf nm dy=i::r) (hl:t.lf.length=bs.length) (h0:0<t.am):(0<(me t i).am→bE bs (me t i).lf nm dy=r)∧0<hO t i:=by
 have he:oh bs t.lf nm dy i=true:=ij.mp (by rw [h];exact List.mem_cons_self)
 have bQ:i<t.lf.length:=hl ▸ jw he
 have H5:0<n9 t.lf i:=by
  unfold oh at he
  cases e:bs[i]? with
  | none=>rw [e] at he;cases he
  | some b =>
   rw [e] at he
   simp only [Bool.and_eq_true,decide_eq_true_eq] at he
   exact he.2.2
 refine ⟨fun h1=>?_,by unfold hO;lia⟩
 unfold me at h1 ⊢
 rw [if_pos h0] at h1 ⊢
 refine BM h bQ ?_
 dsimp only at h1
 unfold hO at h1 ⊢
 lia
noncomputable def bD {α β:Type} (f:α→β→Except Str α):α→List β→Except Str α
 | a,[]=>.ok a
 | a,x::r=>match f a x with
  | .ok b=>bD f b r
  | .error e=>.error e
theorem kJ {α β:Type} {f:α→β→Except Str α}:∀ (l m:List β) (a:α),bD f a (l++m)=match bD f a l with | .ok b=>bD f b m | .error e=>.error e
 | [],m,a=>rfl
 | x::l,m,a=>by
  show (match f a x with | .ok b=>bD f b (l++m) | .error e=>.error e)=match (match f a x with | .ok b=>bD f b l | .error e=>.error e) with | .ok b=>bD f b m | .error e=>.error e
  cases f a x with
  | error e=>rfl
  | ok b=>exact kJ l m b
theorem fF {α β:Type} {f:α→β→Except Str α} {l:List β} {a b:α} {x:β} (h:bD f a l=.ok b):bD f a (l++[x])=f b x:=by
 rw [kJ,h]
 show (match f b x with | .ok b=>Except.ok b | .error e=>.error e)=f b x
 cases f b x <;> rfl
theorem i6 {α β:Type} {f:α→β→Except Str α} {l:List β} {k:Nat} {a b:α} {x:β} {e:Str} (h:bD f a (l.take k)=.ok b) (hx:l[k]? = some x) (he:f b x=.error e):bD f a l=.error e:=by
 have h1:bD f a (l.take (k+1))=.error e:=by rw [gx hx,fF h,he]
 rw [←List.take_append_drop (k+1) l,kJ,h1]
noncomputable def oE (bs:List aY) (dy:Int) (st:List Int×List (Nat×Int)) (p:Str×Int):Except Str (List Int×List (Nat×Int)) :=
 if 0<(n5 bs st.1 p.1 p.2 dy).am then .error p.1 else .ok ((n5 bs st.1 p.1 p.2 dy).lf,st.2++(n5 bs st.1 p.1 p.2 dy).ps)
noncomputable abbrev uP:=List Int×List (List (Nat×Int))
noncomputable def fD (bs:List aY) (ds:List aQ) (st:uP) (k:Nat):Except Str uP:=match ds[k]? with
 | none=>.ok st
 | some x=>match bD (oE bs x.d) (st.1,[]) x.ns with
  | .ok p=>.ok (p.1,st.2.set k p.2)
  | .error e=>.error e
noncomputable def fN (ds:List aQ) (k:Nat):Nat:=((ds[k]?).map aQ.d).getD 0
noncomputable def hG (ds:List aQ):List Nat:=(List.range 7).flatMap fun t=>(List.range ds.length).filter fun k=>fN ds k==t+1
noncomputable def Gv (bs:List aY) (ds:List aQ):uP:=(bs.map aY.a,List.replicate ds.length [])
noncomputable def ff (bs:List aY) (ds:List aQ):Except Str uP:=bD (fD bs ds) (Gv bs ds) (hG ds)
noncomputable def GN (ds:List aQ) (i:Nat):KP:=([(fN ds i:Int)],(i:Int))
theorem vV {ds:List aQ} (hd:∀ x∈ds,x.ok) {k:Nat}:k∈hG ds↔k<ds.length:=by
 unfold hG
 rw [List.mem_flatMap]
 refine ⟨fun ⟨t,_,h⟩=>List.mem_range.mp (List.mem_filter.mp h).1,fun h=>?_⟩
 have hx:=hd _ (List.getElem_mem h)
 have e:fN ds k=ds[k].d:=by unfold fN;rw [List.getElem?_eq_getElem h];rfl
 refine iY hx fun h1 h2 _=>?_
 refine ⟨ds[k].d - 1,List.mem_range.mpr (l2 0x1c78110b78014b0a181 rfl h2 (sC (h1))),List.mem_filter.mpr ⟨List.mem_range.mpr h,?_⟩⟩
 rw [e,beq_iff_eq];exact (sC (h1)).symm
theorem Ap (ds:List aQ):(hG ds).Pairwise fun i j=>fN ds i<fN ds j∨(fN ds i=fN ds j∧i<j):=by
 unfold hG
 rw [List.pairwise_flatMap]
 refine ⟨fun t _=>?_,?_⟩
 ·refine ((List.pairwise_lt_range (n:=ds.length)).filter _).imp_of_mem fun {i j} hi hj h=>.inr ⟨?_,h⟩
  have h1:=beq_iff_eq.mp (List.mem_filter.mp hi).2
  have h2:=beq_iff_eq.mp (List.mem_filter.mp hj).2
  exact Nat.le_antisymm (Nat.le_trans (Nat.le_of_eq h1) (Nat.le_of_eq h2.symm)) (Nat.le_trans (Nat.le_of_eq h2) (Nat.le_of_eq h1.symm))
 ·refine (List.pairwise_lt_range (n:=7)).imp fun {t u} Pd i hi j hj=>.inl ?_
  have h1:=beq_iff_eq.mp (List.mem_filter.mp hi).2
  have h2:=beq_iff_eq.mp (List.mem_filter.mp hj).2
  exact l4 0x1c3211b1014ba180215ba1813 rfl Pd h1 h2
theorem Aq {ds:List aQ} (hd:∀ x∈ds,x.ok):dT ((List.range ds.length).map (GN ds))=(hG ds).map (GN ds):=by
 refine (sG ?_ ?_).symm
 ·refine List.Perm.map _ ((List.perm_ext_iff_of_nodup ?_ List.nodup_range).mpr fun k=>(vV hd).trans List.mem_range.symm)
  exact (Ap ds).imp fun h q=>by subst q;lia
 ·rw [List.pairwise_map]
  refine (Ap ds).imp fun {i j} h=>?_
  unfold jL jd GN
  simp only [bJ,List.isEmpty_nil,Bool.not_true,Bool.and_false,Bool.or_false,Bool.or_eq_false_iff,decide_eq_false_iff_not,Bool.and_eq_false_iff,Bool.not_eq_false',decide_eq_true_eq]
  lia
section
variable {call:ar} {az:fu} {ρ ρ':aF} {σ σ₁ ae bb:ag} {Q:b8→aF→ag→Prop}
theorem o9 {body:aF→ag→Ex} {t:ge} {w:List (Nat×aZ)} {xs:List V} (I:Nat→aF→ag→Prop) (J:b8→ag→Prop) (hw:∀ k ρ σ,I k ρ σ→cn σ w)
  (step:∀ k x ρ σ,xs[k]? = some x→I k ρ σ→∃ ρ' fl bA bB,t.put x ρ=some ρ'∧body ρ' σ=some (fl,bA,bB)∧((fl=.next∧I (k+1) bA bB)∨(fl≠.next∧J fl bB))) :
  ∀ (ys:List V) (k:Nat) (ρ:aF) (σ:ag),xs.drop k=ys→k≤xs.length→I k ρ σ→∃ fl oH σe,dP body t w ys ρ σ=some (fl,oH,σe)∧((fl=.next∧I xs.length oH σe)∨(fl≠.next∧J fl σe))
 | [],k,ρ,σ,hd,hk,hI=>by
  have tc:k=xs.length:=Nat.le_antisymm hk (List.drop_eq_nil_iff.mp hd)
  subst tc
  exact ⟨.next,ρ,σ,c8 (hw _ _ _ hI),.inl ⟨rfl,hI⟩⟩
 | y::ys,k,ρ,σ,hd,hk,hI=>by
  have hx:xs[k]? = some y:=by
   have:=congrArg (·[0]?) hd
   simpa using this
  have bQ:k<xs.length:=(List.getElem?_eq_some_iff.mp hx).1
  refine Hq (step k y ρ σ hx hI) fun ρ' fl bA bB h1 h2 h3=>?_
  have e:dP body t w (y::ys) ρ σ=gv (some (fl,bA,bB)) fun bA bB=>dP body t w ys bA bB:=by
   show eV σ w ((t.put y ρ).bind fun ρ'=>gv (body ρ' σ) fun bA bB=>dP body t w ys bA bB)=_
   rw [c8 (hw _ _ _ hI),h1]
   show gv (body ρ' σ) _=_
   rw [h2]
  rw [e]
  rcases h3 with ⟨rfl,h3⟩ | ⟨eM,h3⟩
  ·exact o9 I J hw step ys (k+1) bA bB (by rw [←List.drop_drop,hd];rfl) bQ h3
  ·refine ⟨fl,bA,bB,?_,.inr ⟨eM,h3⟩⟩
   cases fl with
   | next=>exact absurd rfl eM
   | ret v=>rfl
   | exc c w=>rfl
theorem W.out {s:CS} {fl:b8} (eM:fl≠.next) (h:be call s ρ σ=some (fl,ρ',σ₁)) (k:Q fl ρ' σ₁):W call (.cons s az) ρ σ Q:=by
 refine ⟨fl,ρ',σ₁,?_,k⟩
 show gv (be call s ρ σ) (aB call az)=_
 rw [h]
 cases fl with
 | next=>exact absurd rfl eM
 | ret v=>rfl
 | exc c w=>rfl
theorem W.loopE {t:ge} {it:gd} {body:fu} {xs:List V} {w:List (Nat×aZ)} (hQ:Up Q) (h:cm call it ρ σ=some (xs,w,σ₁)) (I:Nat→aF→ag→Prop) (J:b8→ag→Prop) {a:aF} (ha:Le a ρ) (h0:I 0 a σ₁) (hw:∀ k ρ σ,I k ρ σ→cn σ w)
  (step:∀ k x ρ σ,xs[k]? = some x→I k ρ σ→∃ ρ',t.put x ρ=some ρ'∧W call body ρ' σ fun fl bA bB=>(fl=.next∧∃ a,Le a bA∧I (k+1) a bB)∨(fl≠.next∧J fl bB))
  (k:∀ ρ' af,I xs.length ρ' af→W call az ρ' af Q) (kr:∀ fl ρ' af,J fl af→Q fl ρ' af):W call (.cons (.for_ t it body) az) ρ σ Q:=by
 obtain ⟨fl,oH,σe,h1,h2⟩:=o9 (body:=aB call body) (t:=t) (w:=w) (xs:=xs) (fun k ρ σ=>∃ a,Le a ρ∧I k a σ) J (fun k ρ σ ⟨a,_,hI⟩=>hw k a σ hI) (fun k x ρ σ hx ⟨a,hl,hI⟩=>by
  refine au (step k x a σ hx hI) fun a' hp hW=>?_
  refine au (nQ hl hp) fun b' tY ed=>?_
  obtain ⟨fl,bA,bB,e,q⟩:=hW.le (fun fl a b σ hl h=>by
   rcases h with ⟨h1,c,h2,h3⟩ | h
   ·exact .inl ⟨h1,c,h2.trans hl,h3⟩
   ·exact .inr h) ed
  exact ⟨b',fl,bA,bB,tY,e,q⟩) xs 0 ρ σ₁ rfl (Nat.zero_le _) ⟨a,ha,h0⟩
 have ex:be call (.for_ t it body) ρ σ=some (fl,oH,σe):=by
  rw [mS]
  exact gH (by rw [h];exact h1)
 rcases h2 with ⟨rfl,b,hl,hI⟩ | ⟨eM,hJ⟩
 ·exact W.step ex ((k b σe hI).le hQ hl)
 ·exact W.out eM ex (kr fl oH σe hJ)
theorem uI {c:CE} {body:fu} (I:Nat→aF→ag→Prop) (J:b8→ag→Prop) (K:aF→ag→Prop) (step:∀ n ρ σ,I n ρ σ→∃ b,ab call c ρ σ=some (.bool b,σ)∧(b=true→W call body ρ σ fun fl bA bB=>(fl=.next∧∃ a,Le a bA∧∃ m,m<n∧I m a bB)∨(fl≠.next∧J fl bB))∧(b=false→K ρ σ)) :
  ∀ (n N:Nat) (a ρ:aF) (σ:ag),n<N→Le a ρ→I n a σ→∃ fl ρ' af,fK (bu call c) (aB call body) N ρ σ=some (fl,ρ',af)∧((fl=.next∧∃ a,Le a ρ'∧K a af)∨(fl≠.next∧J fl af)):=by
 intro n
 induction n using Nat.strongRecOn with
 | _ n ih =>
  intro N a ρ σ hN hl hI
  cases N with
  | zero=>exact absurd hN (Nat.not_lt_zero _)
  | succ N =>
   refine fL (step n a σ hI) fun b h1 h2 h3=>?_
   have Gy:=aR (ay c hl h1)
   cases b with
   | false =>
    refine ⟨.next,ρ,σ,?_,.inl ⟨rfl,a,hl,h3 rfl⟩⟩
    show a9 (bu call c ρ σ) _=_
    rw [Gy];rfl
   | true =>
    refine jH (h2 rfl) fun fl Dx de e2 e3=>?_
    refine au (c7 body hl _ _ _ e2) fun Gr e4 l3=>?_
    have e5:fK (bu call c) (aB call body) (N+1) ρ σ=gv (some (fl,Gr,de)) fun bA bB=>fK (bu call c) (aB call body) N bA bB:=by
     show a9 (bu call c ρ σ) _=_
     rw [Gy]
     show gv (aB call body ρ σ) _=_
     rw [e4]
    rw [e5]
    rcases e3 with ⟨rfl,a2,l2,m,hm,Km⟩ | ⟨eM,hJ⟩
    ·exact ih m hm N a2 Gr de (Nat.lt_of_lt_of_le hm (Nat.le_of_lt_succ hN)) (l2.trans l3) Km
    ·refine ⟨fl,Gr,de,?_,.inr ⟨eM,hJ⟩⟩
     cases fl with
     | next=>exact absurd rfl eM
     | ret v=>rfl
     | exc c w=>rfl
theorem W.whileE {c:CE} {body:fu} (hQ:Up Q) (I:Nat→aF→ag→Prop) (J:b8→ag→Prop) {n:Nat} (hn:n<100000) {a:aF} (ha:Le a ρ) (h0:I n a σ)
  (step:∀ n ρ σ,I n ρ σ→∃ b,ab call c ρ σ=some (.bool b,σ)∧(b=true→W call body ρ σ fun fl bA bB=>(fl=.next∧∃ a,Le a bA∧∃ m,m<n∧I m a bB)∨(fl≠.next∧J fl bB))∧(b=false→W call az ρ σ Q)) (kr:∀ fl ρ' af,J fl af→Q fl ρ' af):W call (.cons (.while_ c body) az) ρ σ Q:=by
 refine jH (uI I J (fun ρ σ=>W call az ρ σ Q) step n gz a ρ σ hn ha h0) fun fl ρ' af h1 h2=>?_
 rcases h2 with ⟨rfl,b,hl,hW⟩ | ⟨eM,hJ⟩
 ·exact W.step h1 (hW.le hQ hl)
 ·exact W.out eM h1 (kr fl ρ' af hJ)
theorem rv {f:Nat} {as:eG} {vs:List V} {c:Nat} {w:Str} (h:aL call as ρ σ=some (vs,σ₁)) (hc:call f vs σ₁=some (.exc c w,ae)):b9 call (.call f as) ρ σ=some (c,w,ae):=by
 show a9 (aL call as ρ σ) (fun vs σ₁=>a9 (call f vs σ₁) fun r ae=>rx ae r)=_
 rw [h]
 show a9 (call f vs σ₁) (fun r ae=>rx ae r)=_
 rw [hc];rfl
theorem W.exprX {e:CE} {c:Nat} {w:Str} (h:b9 call e ρ σ=some (c,w,σ₁)) (k:Q (.exc c w) ρ σ₁):W call (.cons (.expr e) az) ρ σ Q :=
 W.out (fl:=.exc c w) (fun q=>nomatch q) (by rw [i4];exact pD (by rw [iv e h];rfl) h) k
theorem W.raise {e:CE} {c:Nat} {w:Str} (h:ab call e ρ σ=some (.str w,σ₁)) (k:Q (.exc c w) ρ σ₁):W call (.cons (.raise_ c e) az) ρ σ Q :=
 W.out (fl:=.exc c w) (fun q=>nomatch q) (by rw [mT,h];rfl) k
theorem sh {r:Nat} {l:List V} (hr:σ[r]? = some (.lst l)):iO .extend (.ref r) σ=true:=by
 show ((qT (.ref r)).bind (lst σ)).isSome=true
 show (lst σ r).isSome=true
 rw [dQ hr];rfl
theorem W.extend {o e:CE} (r q:Nat) (l m:List V) (ho:ab call o ρ σ=some (.ref r,σ)) (hr:σ[r]? = some (.lst l)) (he:ab call e ρ σ=some (.ref q,σ₁)) (M7:σ₁[r]? = some (.lst l)) (hq:σ₁[q]? = some (.lst m)) (Lk:my σ₁ (.ref r) (.ref q)=some (.none,σ₁.set r (.lst (l++m))))
  (k:W call az ρ (σ₁.set r (.lst (l++m))) Q):W call (.cons (.expr (.meth .extend o (.cons e .nil))) az) ρ σ Q:=by
 refine W.step (ρ':=ρ) (σ₁:=σ₁.set r (.lst (l++m))) ?_ k
 have e1:ab call (.meth .extend o (.cons e .nil)) ρ σ=some (.none,σ₁.set r (.lst (l++m))):=by
  show a9 (ab call o ρ σ) (fun x σ₁=>if iO .extend x σ₁ then a9 (aL call (.cons e .nil) ρ σ₁) fun vs ae=>f9 .extend x vs ae else none)=_
  rw [ho]
  show (if iO .extend (.ref r) σ then a9 (aL call (.cons e .nil) ρ σ) fun vs ae=>f9 .extend (.ref r) vs ae else none)=_
  rw [if_pos (sh hr),aN he]
  exact Lk
 rw [i4]
 exact gH (by rw [e1];rfl)
theorem Ca {o:CE} {f:Nat} {as:eG} {vs:List V} {r:Nat} {l:List V} {c:Nat} {w:Str} (ho:ab call o ρ σ=some (.ref r,σ)) (hr:σ[r]? = some (.lst l)) (h:aL call as ρ σ=some (vs,σ₁)) (hc:call f vs σ₁=some (.exc c w,ae)):b9 call (.meth .extend o (.cons (.call f as) .nil)) ρ σ=some (c,w,ae):=by
 show a9 (ab call o ρ σ) (fun x σ₁=>if iO .extend x σ₁ then dn call (.cons (.call f as) .nil) ρ σ₁ else none)=_
 rw [ho]
 show (if iO .extend (.ref r) σ then dn call (.cons (.call f as) .nil) ρ σ else none)=_
 rw [if_pos (sh hr)]
 show IA (b9 call (.call f as) ρ σ) _=_
 rw [rv h hc];rfl
theorem yZ {P:List aS} {d k:Nat} {f:aS} {as:List V} (hk:P[k]? = some f) (ha:as.length=f.arity) {R:s8→ag→Prop} (h:W (ax P d) f.body (cz as) σ fun fl _ af=>(∃ v,fl=.ret v∧R (.ok v) af)∨∃ c w,fl=.exc c w∧R (.exc c w) af):∃ r af,ax P (d+1) k as σ=some (r,af)∧R r af:=by
 refine jH h fun fl ρ' af h1 h2=>?_
 rcases h2 with ⟨v,rfl,h2⟩ | ⟨c,w,rfl,h2⟩
 ·exact ⟨_,af,by rw [pI hk ha,h1];rfl,h2⟩
 ·exact ⟨_,af,by rw [pI hk ha,h1];rfl,h2⟩
theorem IR {R:s8→ag→Prop}:Up fun fl _ af=>(∃ v,fl=.ret v∧R (.ok v) af)∨∃ c w,fl=.exc c w∧R (.exc c w) af:=fun _ _ _ _ _ h=>h
theorem W.tryR {i f:Nat} {as:eG} {y:fu} {vs:List V} {v:V} (h:aL call as ρ σ=some (vs,σ₁)) (hc:call f vs σ₁=some (.ok v,ae)) (k:Q (.ret v) ρ ae):W call (.cons (.try_ (.cons (.ret (.call f as)) .nil) i y) az) ρ σ Q:=by
 refine W.out (fl:=.ret v) (fun q=>nomatch q) ?_ k
 have e1:aB call (.cons (.ret (.call f as)) .nil) ρ σ=some (.ret v,ρ,ae):=by
  show gv (be call (.ret (.call f as)) ρ σ) _=_
  rw [iu,gH (r:=(.ret v,ρ,ae)) (by rw [aw h hc];rfl)];rfl
 rw [mV,e1];rfl
theorem W.tryX {i f:Nat} {as:eG} {y:fu} {vs:List V} {c:Nat} {w:Str} {v:V} (h:aL call as ρ σ=some (vs,σ₁)) (hc:call f vs σ₁=some (.exc c w,ae)) (hy:W call y (cE ρ i (.ref (ae.length+1))) (ae++[.wd w,.exn c ae.length]) fun fl ρ' af=>fl=.ret v∧Q (.ret v) ρ' af):W call (.cons (.try_ (.cons (.ret (.call f as)) .nil) i y) az) ρ σ Q:=by
 refine qL hy fun fl ρ' af h1 q5 h2=>?_;subst q5
 refine W.out (fl:=.ret v) (fun q=>nomatch q) ?_ h2
 have hx:=rv h hc
 have e1:aB call (.cons (.ret (.call f as)) .nil) ρ σ=some (.exc c w,ρ,ae):=by
  show gv (be call (.ret (.call f as)) ρ σ) _=_
  rw [iu,pD (by rw [iv _ hx];rfl) hx];rfl
 rw [mV,e1]
 show handled (aB call y _ _)=_
 rw [h1];rfl
theorem ru {it:gd} {i:Nat} {k:KX} {xs:List V} {w:List (Nat×aZ)} {r:Option (V×ag)} (h:cm call it ρ σ=some (xs,w,σ₁)) (hs:pt it w=true) (hk:gN k i ρ σ₁ xs=r):ab call (.sortK it i k) ρ σ=r:=by
 show g7 (cm call it ρ σ) (fun xs w σ₁=>if pt it w then gN k i ρ σ₁ xs else none)=_
 rw [h]
 show (if pt it w then gN k i ρ σ₁ xs else none)=_
 rw [if_pos hs,hk]
end
theorem pn:∀ {l:List Nat} {a:Int},(∀ i∈l,a<(i:Int))→l.Pairwise (· < ·)→fc a (l.map fun i:Nat=>(i:Int))=true
 | [],_,_,_=>rfl
 | i::l,a,h1,h2=>by
  have h3:=List.pairwise_cons.mp h2
  show (decide (a<(i:Int))&&fc (i:Int) (l.map fun i:Nat=>(i:Int)))=true
  rw [decide_eq_true (h1 i List.mem_cons_self),Bool.true_and]
  exact pn (fun j hj=>by have:=h3.1 j hj;(exact Int.ofNat_lt.mpr ‹_›)) h3.2
theorem zU {k:KX} {i:Nat} {ρ:aF} {σ:ag} {f:Nat→KP}:∀ {l:List Nat},(∀ n∈l,∃ v,cH k (cE ρ i (.int n)) σ=some v∧oA v=some (f n).1∧(f n).2=n)→lG k i ρ σ (l.map fun i:Nat=>(i:Int))=some (l.map f)
 | [],_=>rfl
 | n::l,h=>by
  refine fL (h n List.mem_cons_self) fun v h1 h2 h3=>?_
  show (cH k (cE ρ i (.int n)) σ).bind _=_
  rw [h1]
  show (oA v).bind _=_
  rw [h2]
  show (lG k i ρ σ (l.map fun i:Nat=>(i:Int))).bind _=_
  rw [zU fun m hm=>h m (List.mem_cons_of_mem _ hm)]
  show some (((f n).1,(n:Int))::l.map f)=_
  rw [←h3];rfl
theorem Aw {f:Nat→KP} {c:Nat} (h:∀ n,(f n).1.length=c) (l:List Nat):ft (l.map f)=true:=by
 unfold ft
 rw [List.all_eq_true]
 intro p hp
 rw [List.all_eq_true]
 intro q hq
 refine au (List.mem_map.mp hp) fun i _ q3=>?_;apply fQ q3
 refine au (List.mem_map.mp hq) fun j _ q3=>?_;apply fQ q3
 rw [h,h];exact beq_self_eq_true _
theorem wZ (l:List Nat):eh (l.map fun i:Nat=>V.int i)=some (l.map fun i:Nat=>(i:Int)):=by
 have e:(l.map fun i:Nat=>V.int i)=(l.map fun i:Nat=>(i:Int)).map V.int:=by rw [List.map_map];rfl
 rw [e]
 exact nu _
theorem lP {k:KX} {i:Nat} {ρ:aF} {σ:ag} {f:Nat→KP} {l:List Nat} {c:Nat} (hp:l.Pairwise (· < ·)) (hl:l.length≤1000) (hc:∀ n,(f n).1.length=c) (h:∀ n∈l,∃ v,cH k (cE ρ i (.int n)) σ=some v∧oA v=some (f n).1∧(f n).2=n) {m:List Nat} (hm:dT (l.map f)=m.map f) (hf:∀ n∈m,(f n).2=n) :
  gN k i ρ σ (l.map fun i:Nat=>V.int i)=some (.ref σ.length,σ++[.lst (m.map fun i:Nat=>V.int i)]):=by
 have GG:m.length=l.length:=by
  have:=congrArg List.length hm
  rw [(eu _).length_eq,List.length_map,List.length_map] at this
  exact this.symm
 unfold gN
 rw [wZ]
 show (if _ then _ else _)=_
 rw [if_pos ⟨pn (fun i _=>by (exact Int.natCast_nonneg _)) hp,by rw [List.length_map];exact l1 0xc000000000000000186a0d010b03e890 rfl hl⟩,zU h]
 show (if ft (l.map f) then _ else _)=_
 rw [if_pos (Aw hc l),hm,List.map_map]
 have e:(m.map ((fun p:KP=>V.int p.2) ∘ f))=m.map fun i:Nat=>V.int i:=List.map_congr_left fun n hn=>by
  show V.int (f n).2=_
  rw [hf n hn]
 rw [e]
 unfold xi
 exact if_pos (by rw [List.length_map,GG];have:an=16777216:=rfl;exact l2 0xc1010b03e89015b00000000000001000000d1 rfl hl this)
noncomputable def lm (L:Nat) (σ af:ag):Prop:=∀ (i:Nat) (o:aZ),i≠L→σ[i]? = some o→af[i]? = some o
theorem aM.b {L:Nat} {a b:ag} (x:aM a b):lm L a b:=fun i o _ h=>x i o h
theorem cW {σ:ag} {i j:Nat} {m:aZ} (h:i≠j):(σ.set i m)[j]? = σ[j]?:=List.getElem?_set_ne h
noncomputable def g6 (bs:List aY) (i:Nat):aY:=(bs[i]?).getD JY
theorem mH {bs:List aY} {i:Nat} (h:i<bs.length):bs[i]? = some (g6 bs i):=by
 unfold g6;rw [List.getElem?_eq_getElem h];rfl
theorem tw {bs:List aY} {i:Nat} (h:i<bs.length):(bs.map aY.v)[((i:Nat):Int).toNat]? = some (g6 bs i).v:=by
 rw [Int.toNat_natCast,List.getElem?_map,mH h];rfl
theorem jX {bs:List aY} {i:Nat} (h:i<bs.length):yt bs i=(g6 bs i).l:=by
 unfold yt;rw [mH h];rfl
theorem ze {bs:List aY} {lf:List Int} {nm:Str} {dy:Int} {i:Nat} (h:i<bs.length):oh bs lf nm dy i=((g6 bs i).n==nm&&(decide (dy≤(g6 bs i).l)&&decide (0<n9 lf i))):=by
 unfold oh;rw [mH h]
theorem kR {lf:List Int} {i:Nat} (h:i<lf.length):(lf.map V.int)[((i:Nat):Int).toNat]? = some (.int (n9 lf i)):=pZ h
theorem lK {f:aY→V}:∀ (l:List aY) (j:Nat),bP j (l.map f)=(List.range l.length).map fun i=>.tup [.int ((j+i:Nat):Int),f (g6 l i)]
 | [],j=>rfl
 | b::l,j=>by
  show V.tup [.int j,f b]::bP (j+1) (l.map f)=_
  rw [lK l (j+1),List.length_cons,List.range_succ_eq_map,List.map_cons,List.map_map]
  refine congr (congrArg _ rfl) (List.map_congr_left fun i _=>?_)
  show V.tup [.int ((j+1+i:Nat):Int),f (g6 l i)]=V.tup [.int ((j+(i+1):Nat):Int),f (g6 (b::l) (i+1))]
  rw [show j+1+i=j+(i+1) from (Nat.le_antisymm (l2 0xcaa1810a1a180 rfl) (l2 0xca1a180aa1810 rfl))];rfl
theorem uw {call:ar} {ρ:aF} {σ σ₁:ag} {e:CE} {r:Nat} {l:List V} (h:ab call e ρ σ=some (.ref r,σ₁)) (hr:σ₁[r]? = some (.lst l)):cm call (.ex e) ρ σ=some (l,[(r,.lst l)],σ₁):=by
 show a9 (ab call e ρ σ) (fun x σ₁=>(iP σ₁ x).bind fun p=>some (p.1,p.2,σ₁))=_
 rw [h]
 show ((lst σ₁ r).bind fun l=>some (l,[(r,aZ.lst l)])).bind (fun p=>some (p.1,p.2,σ₁))=_
 rw [dQ hr];rfl
theorem Cy {ρ:aF} {σ:ag} {bs:List aY} {n:Nat} (h0:ρ 0=some (.tup (bs.map aY.v))) (hn:n<bs.length):∃ v,cH (.pair (.idx (.idx (.var 0) (.var 5)) (.num 2)) (.var 5)) (cE ρ 5 (.int n)) σ=some v∧oA v=some (xc bs n).1∧(xc bs n).2=n:=by
 refine ⟨.tup [.int (yt bs n),.int n],?_,rfl,rfl⟩
 rw [jX hn]
 have e1:cH (.idx (.var 0) (.var 5)) (cE ρ 5 (.int n)) σ=some (g6 bs n).v:=by
  show ((cE ρ 5 (.int n)) 0).bind _=_
  rw [show (cE ρ 5 (.int n)) 0=ρ 0 from rfl,h0]
  exact mw (l:=bs.map aY.v) (Int.natCast_nonneg _) (tw hn)
 show ((cH (.idx (.var 0) (.var 5)) (cE ρ 5 (.int n)) σ).bind fun x=>(cH (.num 2) (cE ρ 5 (.int n)) σ).bind fun y=>iz x y σ).bind _=_
 rw [e1];rfl
theorem W.put {call:ar} {az:fu} {ρ ρ':aF} {σ σ₁:ag} {Q:b8→aF→ag→Prop} {t:ge} {e:CE} {v:V} (h:ab call e ρ σ=some (v,σ₁)) (hp:t.put v ρ=some ρ') (k:W call az ρ' σ₁ Q):W call (.cons (.assign t e) az) ρ σ Q :=
 W.step (by
  rw [dY]
  refine gH ?_
  rw [h]
  show (t.put v ρ).bind _=_
  rw [hp];rfl) k
noncomputable abbrev iI (l:List Nat):List V:=l.map fun i:Nat=>V.int i
theorem pG {P:List aS} {k d:Nat} {σ:ag} {L:Nat} (hk:P[k]? = some bz) (bs:List aY) (lf:List Int) (nm:Str) (dy:Int) (hl:lf.length=bs.length) (hb:bs.length≤200) (hL:σ[L]? = some (.lst (lf.map .int))) :
  ∃ q af,ax P (d+1) k [.tup (bs.map aY.v),.ref L,.str nm,.int dy] σ=some (.ok (.ref q),af)∧aM σ af∧σ.length≤q∧af[q]? = some (.lst (iI (bE bs lf nm dy))):=by
 have cZ:an=16777216:=rfl
 obtain ⟨v,af,h,q,rfl,h1,h2,h3⟩:=dK (R:=fun v af=>∃ q,v=.ref q∧aM σ af∧σ.length≤q∧af[q]? = some (.lst (iI (bE bs lf nm dy)))) (σ:=σ) (d:=d) hk (as:=[.tup (bs.map aY.v),.ref L,.str nm,.int dy]) rfl (by
  unfold bz
  have hs:cm (ax P d) (.enm (.var 0)) (cz [.tup (bs.map aY.v),.ref L,.str nm,.int dy]) σ=some ((List.range bs.length).map fun i=>V.tup [.int ((0+i:Nat):Int),(g6 bs i).v],[],σ):=by
   rw [←lK (f:=aY.v)];exact AS rfl
  have hc:=mO (elt:=ab (ax P d) (.var 5)) (cond:=cY (ax P d) (.cons (.and (.cmp .Eq (.idx (.var 6) (.cst (.int 0))) (.var 2)) (.and (.cmp .GtE (.idx (.var 6) (.cst (.int 2))) (.var 3)) (.cmp .Gt (.idx (.var 1) (.var 5)) (.cst (.int 0))))) .nil)) (t:=.two 5 6) (w:=[]) (ρ:=cz [.tup (bs.map aY.v),.ref L,.str nm,.int dy]) (σ:=σ) (g:=fun i=>V.tup [.int ((0+i:Nat):Int),(g6 bs i).v]) (p:=oh bs lf nm dy) (f:=fun i:Nat=>V.int i) (dh _) (xs:=List.range bs.length) fun i hi=>by
   have jA:=List.mem_range.mp hi
   refine ⟨_,rfl,?_,fun _=>?_⟩
   ·rw [ze jA]
    refine IM (mn (dg (bS 0 _ _ (bj (v:=(g6 bs i).v) rfl) rfl (by decide) rfl) rfl rfl) (mn (dg (bS 2 _ _ (bj (v:=(g6 bs i).v) rfl) rfl (by decide) rfl) rfl rfl) (dg (bR L ((0+i:Nat):Int) _ (.int (n9 lf i)) rfl rfl hL (Int.natCast_nonneg _) ?_) rfl rfl)))
    rw [Nat.zero_add];exact kR (hl ▸ jA)
   ·show some (V.int ((0+i:Nat):Int),σ)=_
    rw [Nat.zero_add]
  refine W.set (vg hs hc ?_) ?_
  ·rw [List.length_map]
   exact Nat.le_trans (List.length_filter_le _ _) (by rw [List.length_range];exact l2 0xc1010b00c89015b00000000000001000000d1 rfl hb cZ)
  have hD:=a8 σ (.lst (iI (zd bs lf nm dy)))
  refine W.retE (ru (uw (bj rfl) hD) rfl (lP (f:=xc bs) (c:=2) (m:=bE bs lf nm dy) (l:=zd bs lf nm dy) ((List.pairwise_lt_range).filter _) (Nat.le_trans (List.length_filter_le _ _) (by rw [List.length_range];exact l1 0xc03e89010b00c890 rfl hb)) (fun _=>rfl) (fun n hn=>?_) (v6 bs _) fun _ _=>rfl)) ⟨_,rfl,_,rfl,(aM.app _ _).trans (aM.app _ _),by rw [List.length_append];exact l2 0xca100 rfl,a8 _ _⟩
  exact Cy rfl (List.mem_range.mp (List.mem_filter.mp hn).1))
 exact ⟨q,af,h,h1,h2,h3⟩
noncomputable def o4 (iB:Nat):aS:=⟨4,(.cons (.assign (.one 4) (.list .nil))
 (.cons (.assign (.two 5 6) (.var 2))
 (.cons (.for_ (.one 7) (.ex (.call iB (.cons (.var 0) (.cons (.var 1) (.cons (.var 5) (.cons (.var 3) .nil)))))) (.cons (.ite (.cmp .Gt (.var 6) (.cst (.int 0))) (.cons (.assign (.one 8) (.prim .min2 (.cons (.var 6) (.cons (.idx (.var 1) (.var 7)) .nil))))
 (.cons (.setItem (.var 1) (.var 7) (.bin .Sub (.idx (.var 1) (.var 7)) (.var 8)))
 (.cons (.assign (.one 6) (.bin .Sub (.var 6) (.var 8)))
 (.cons (.expr (.meth .append (.var 4) (.cons (.tuple (.cons (.var 7) (.cons (.var 8) .nil))) .nil)))
 .nil)))) .nil)
 .nil))
 (.cons (.ite (.cmp .Gt (.var 6) (.cst (.int 0))) (.cons (.raise_ 2 (.var 5))
 .nil) .nil)
 (.cons (.ret (.var 4))
 .nil)))))⟩
structure DJ (L:Nat) (σ:ag) (t:Tk) (nm:Str) (r:s8) (af:ag):Prop where
 keep:lm L σ af
 lf:af[L]? = some (.lst (t.lf.map .int))
 bad:0<t.am→r=.exc 2 nm
 ok:¬ 0<t.am→∃ q,r=.ok (.ref q)∧σ.length≤q∧af[q]? = some (.lst (t.ps.map pV))
theorem nc {t:Tk} {l:List Nat} {k i:Nat} (h:l[k]? = some i):(l.take (k+1)).foldl me t=me ((l.take k).foldl me t) i:=by
 rw [gx h,List.foldl_append];rfl
theorem Ah {l:List Nat} {k:Nat} {x:V} (h:(iI l)[k]? = some x):∃ i:Nat,l[k]? = some i∧x=.int i:=by
 rw [iI,List.getElem?_map,Option.map_eq_some_iff] at h
 obtain ⟨i,h1,h2⟩:=h
 exact ⟨i,h1,h2.symm⟩
theorem lH (l:List Int) (i:Nat) (x:Int):(l.map V.int).set i (.int x)=(l.set i x).map V.int:=by rw [List.map_set]
theorem qn:∀ (l:List Nat) (t:Tk),(l.foldl me t).ps.length≤t.ps.length+l.length
 | [],t=>by simp
 | i::l,t=>by
  rw [List.foldl_cons]
  have h1:=qn l (me t i)
  have h2:(me t i).ps.length≤t.ps.length+1:=by
   unfold me
   split
   ·simp
   ·lia
  rw [List.length_cons];lia
noncomputable abbrev uL (bs:List aY) (L:Nat) (dy:Int) (p:Nat) (nm:Str) (a:Int):List (Option V):=[some (.tup (bs.map aY.v)),some (.ref L),none,some (.int dy),some (.ref p),some (.str nm),some (.int a)]
structure NF (l:List Nat) (lf:List Int) (am:Int) (L q:Nat) (σ:ag) (k:Nat) (af:ag) (t:Tk):Prop where
 ht:(l.take k).foldl me ⟨[],lf,am⟩=t
 h1:af[L]? = some (.lst (t.lf.map .int))
 h2:af[σ.length]? = some (.lst (t.ps.map pV))
 h3:af[q]? = some (.lst (iI l))
 hK:lm L σ af
theorem xX {P:List aS} {k d iB:Nat} {σ:ag} {L:Nat} (hk:P[k]? = some (o4 iB)) (hB:P[iB]? = some bz) (bs:List aY) (lf:List Int) (nm:Str) (am dy:Int) (hl:lf.length=bs.length) (hb:bs.length≤200) (hL:σ[L]? = some (.lst (lf.map .int))) :
  ∃ r af,ax P (d+2) k [.tup (bs.map aY.v),.ref L,.tup [.str nm,.int am],.int dy] σ=some (r,af)∧DJ L σ (n5 bs lf nm am dy) nm r af:=by
 have cZ:an=16777216:=rfl
 have GA:L<σ.length:=(List.getElem?_eq_some_iff.mp hL).1
 refine yZ (d:=d+1) hk (as:=[.tup (bs.map aY.v),.ref L,.tup [.str nm,.int am],.int dy]) rfl (R:=DJ L σ (n5 bs lf nm am dy) nm) ?_
 unfold o4
 refine W.set (v:=.ref σ.length) (σ₁:=σ++[.lst []]) rfl ?_
 refine W.put (v:=.tup [.str nm,.int am]) (σ₁:=σ++[.lst []]) rfl rfl ?_
 refine Gx (pG (d:=d) (σ:=σ++[.lst []]) hB bs lf nm dy hl hb (aM.app _ _ _ _ hL)) fun q ck e1 k1 hq Lo=>?_
 rw [List.length_append] at hq
 have Bp:σ.length<q:=hq
 generalize hE:bE bs lf nm dy=l at Lo
 have hlen:l.length≤200:=by rw [←hE];exact Nat.le_trans (tv _ _ _ _) hb
 have bQ:∀ i∈l,i<bs.length:=fun i hi=>jw (ij.mp (hE ▸ hi))
 have LD:n5 bs lf nm am dy=l.foldl me ⟨[],lf,am⟩:=by unfold n5;rw [hE]
 rw [LD]
 refine W.loop IR (uw (aw (vs:=[.tup (bs.map aY.v),.ref L,.str nm,.int dy]) rfl e1) Lo)
  (fun k ρ af=>∃ t,ρ=aT (uL bs L dy σ.length nm t.am)∧NF l lf am L q σ k af t)
  (a:=aT (uL bs L dy σ.length nm am)) (aG ⟨rfl,rfl,rfl,rfl,rfl,rfl,trivial⟩) ⟨⟨[],lf,am⟩,rfl,rfl,k1 _ _ (aM.app _ _ _ _ hL),k1 _ _ (a8 _ _),Lo,((aM.app _ _).trans k1).b⟩ (fun _ _ _ ⟨_,_,I⟩=>A4 I.h3) ?_ ?_
 ·intro j x Dx de hx q1
  refine au q1 fun t q1 I=>?_;apply aO q1
  refine au (Ah hx) fun i hi q3=>?_;apply aO q3
  have ou:=bQ i (List.mem_of_getElem? hi)
  have zy:=qn (l.take j) ⟨[],lf,am⟩
  have Fz:=ke (l.take j) ⟨[],lf,am⟩
  have D4:=nc (t:=⟨[],lf,am⟩) hi
  rw [I.ht] at zy Fz D4
  have Cj:i<t.lf.length:=by rw [Fz];exact hl ▸ ou
  have Ln:(t.ps.map pV).length≤an:=by
   rw [List.length_map]
   exact Nat.le_trans zy (Nat.le_trans (by rw [List.length_nil,Nat.zero_add];exact Nat.le_trans (List.length_take_le' j l) hlen) (by decide:200≤an))
  refine ⟨_,rfl,W.if_ (p:=0<t.am) (σ₁:=de) rfl (fun h0=>?_) fun h0=>?_⟩
  ·refine W.set (v:=.int (hO t i)) (σ₁:=de) (bh (vs:=[.int t.am,.int (n9 t.lf i)]) (bK rfl (aN (bR L (i:Int) _ _ rfl rfl I.h1 (Int.natCast_nonneg _) (kR Cj)))) rfl) ?_
   refine W.setItem0 L (i:Int) (t.lf.map .int) (.int (n9 t.lf i - hO t i)) (a6 (bR L (i:Int) _ _ rfl rfl I.h1 (Int.natCast_nonneg _) (kR Cj)) rfl rfl) rfl rfl I.h1 (Int.natCast_nonneg _) (by rw [Int.toNat_natCast,List.length_map];exact Cj) ?_
   rw [Int.toNat_natCast,lH]
   refine W.set (v:=.int (t.am - hO t i)) rfl ?_
   have g1:=eE (m':=.lst ((t.lf.set i (n9 t.lf i - hO t i)).map .int)) I.h1
   have g2:=(cW (m:=.lst ((t.lf.set i (n9 t.lf i - hO t i)).map .int)) (Nat.ne_of_lt GA)).trans I.h2
   have g3:=(cW (m:=.lst ((t.lf.set i (n9 t.lf i - hO t i)).map .int)) (Nat.ne_of_lt (Nat.lt_trans GA Bp))).trans I.h3
   have K3:lm L σ (de.set L (.lst ((t.lf.set i (n9 t.lf i - hO t i)).map .int))):=fun b o hb e=>(cW (Ne.symm hb)).trans (I.hK b o hb e)
   generalize de.set L (.lst ((t.lf.set i (n9 t.lf i - hO t i)).map .int))=ki at g1 g2 g3 K3
   exact W.append0 σ.length (t.ps.map pV) (pV (i,hO t i)) rfl g2 rfl Ln (W.nil (W.nil ⟨rfl,aT (uL bs L dy σ.length nm (t.am - hO t i)),aG ⟨rfl,rfl,rfl,rfl,rfl,rfl,trivial⟩,⟨t.ps++[(i,hO t i)],t.lf.set i (n9 t.lf i - hO t i),t.am - hO t i⟩,rfl,D4.trans (if_pos h0),(cW (Nat.ne_of_gt GA)).trans g1,
    (eE g2).trans (congrArg (fun z=>some (aZ.lst z)) (List.map_append (f:=pV) (l₁:=t.ps) (l₂:=[(i,hO t i)])).symm),(cW (Nat.ne_of_lt Bp)).trans g3,fun b o hb e=>(cW (Nat.ne_of_gt (List.getElem?_eq_some_iff.mp e).1)).trans (K3 b o hb e)⟩))
  ·exact W.nil (W.nil ⟨rfl,aT (uL bs L dy σ.length nm t.am),aG ⟨rfl,rfl,rfl,rfl,rfl,rfl,trivial⟩,t,rfl,D4.trans (if_neg h0),I.h1,I.h2,I.h3,I.hK⟩)
 ·intro Dx de q1
  refine au q1 fun t q1 I=>?_;apply aO q1
  have ht:=I.ht
  rw [show (iI l).length=l.length from List.length_map _,List.take_length] at ht
  rw [ht]
  refine W.if_ (p:=0<t.am) (σ₁:=de) rfl (fun h0=>?_) fun h0=>?_
  ·exact W.raise (w:=nm) rfl (.inr ⟨2,nm,rfl,I.hK,I.h1,fun _=>rfl,fun h=>absurd h0 h⟩)
  ·exact W.nil (W.retE rfl (.inl ⟨_,rfl,I.hK,I.h1,fun h=>absurd h h0,fun _=>⟨_,rfl,Nat.le_refl _,I.h2⟩⟩))
noncomputable def F9:Option Nat→V
 | none=>.none
 | some i=>.int i
noncomputable def Mr (bs:List aY) (lf:List Int) (nm:Str) (dy:Int) (j:Nat):Option Nat→Prop
 | none=>∀ i,i<j→oh bs lf nm dy i=false
 | some m=>m<j∧oh bs lf nm dy m=true∧∀ i,i<j→oh bs lf nm dy i=true→i=m∨Bf bs m i
theorem BP {bs:List aY} {lf:List Int} {nm:Str} {dy:Int}:∀ {o:Option Nat},Mr bs lf nm dy bs.length o→(bE bs lf nm dy).head? = o
 | none,h=>by
  rw [BL fun j=>?_];rfl
  cases e:oh bs lf nm dy j with
  | false=>rfl
  | true=>rw [←e];exact h j (jw e)
 | some m,⟨_,h1,h2⟩=>by
  refine Exists.elim (BK h1 fun j hj=>h2 j (jw hj) hj) fun r e=>?_
  rw [e];rfl
theorem xk {P:List aS} {k d:Nat} {σ:ag} {L:Nat} (hk:P[k]? = some ch) (bs:List aY) (lf:List Int) (nm:Str) (dy:Int) (hl:lf.length=bs.length) (hb:bs.length≤200) (hL:σ[L]? = some (.lst (lf.map .int))) :
  ax P (d+1) k [.tup (bs.map aY.v),.ref L,.str nm,.int dy] σ=some (.ok (F9 (bE bs lf nm dy).head?),σ):=by
 refine kC hk rfl ?_
 unfold ch
 refine W.set (v:=.none) rfl ?_
 refine W.loop (fun _ _ _ _ _ h=>h) (cX (n:=bs.length) (bh (vs:=[.tup (bs.map aY.v)]) rfl (by rw [gK,List.length_map])) (Nat.le_trans ‹_≤_› (by decide)))
  (fun j ρ af=>∃ o,ρ=aT [some (.tup (bs.map aY.v)),some (.ref L),some (.str nm),some (.int dy),some (F9 o)]∧σ=af∧Mr bs lf nm dy j o)
  (a:=aT [some (.tup (bs.map aY.v)),some (.ref L),some (.str nm),some (.int dy),some (F9 none)]) (aG ⟨rfl,rfl,rfl,rfl,rfl,trivial⟩) ⟨none,rfl,rfl,fun i hi=>absurd hi (Nat.not_lt_zero _)⟩ (fun _ _ _ _=>dh _) ?_ ?_
 ·rintro j x _ _ hx ⟨o,rfl,rfl,hB⟩
  refine aJ (cj hx) fun hj q2=>?_;apply aO q2
  have eb:∀ {ρ:aF},ρ 0=some (.tup (bs.map aY.v))→ρ 5=some (.int j)→ab (ax P d) (.idx (.var 0) (.var 5)) ρ σ=some ((g6 bs j).v,σ):=fun h0 h5=>bS (j:Int) _ _ (bj h0) (bj h5) (Int.natCast_nonneg _) (tw hj)
  refine ⟨_,rfl,W.ifB (b:=oh bs lf nm dy j) (σ₁:=σ) ?_ (fun he=>?_) fun he=>?_⟩
  ·rw [ze hj]
   exact mn (dg (bS 0 _ _ (eb rfl rfl) rfl (by decide) rfl) rfl rfl) (mn (dg (bS 2 _ _ (eb rfl rfl) rfl (by decide) rfl) rfl rfl) (dg (bR L (j:Int) _ _ rfl rfl hL (Int.natCast_nonneg _) (kR (hl ▸ hj))) rfl rfl))
  ·cases o with
   | none =>
    refine W.iteT σ (aR (E8 rfl)) (W.set (v:=.int j) rfl (W.nil (W.nil (W.nil ⟨rfl,aT [some (.tup (bs.map aY.v)),some (.ref L),some (.str nm),some (.int dy),some (F9 (some j))],aG ⟨rfl,rfl,rfl,rfl,rfl,trivial⟩,some j,rfl,rfl,Nat.lt_succ_self _,he,fun i hi wP=>?_⟩))))
    refine Or.elim (Nat.lt_succ_iff_lt_or_eq.mp hi) (fun q=>?_) (fun q=>?_)
    ·rw [hB i q] at wP;cases wP
    ·exact .inl q
   | some m =>
    refine iY hB fun h1 h2 h3=>?_
    have hm:m<bs.length:=jw h2
    have em:∀ {ρ:aF},ρ 0=some (.tup (bs.map aY.v))→ρ 4=some (.int m)→ab (ax P d) (.idx (.var 0) (.var 4)) ρ σ=some ((g6 bs m).v,σ):=fun h0 h5=>bS (m:Int) _ _ (bj h0) (bj h5) (Int.natCast_nonneg _) (tw hm)
    refine W.if_ (p:=(g6 bs j).l<(g6 bs m).l) (σ₁:=σ) (mR rfl (dg (bS 2 _ _ (eb rfl rfl) rfl (by decide) rfl) (bS 2 _ _ (em rfl rfl) rfl (by decide) rfl) rfl)) (fun bQ=>?_) fun bQ=>?_
    ·refine W.set (v:=.int j) rfl (W.nil (W.nil (W.nil ⟨rfl,aT [some (.tup (bs.map aY.v)),some (.ref L),some (.str nm),some (.int dy),some (F9 (some j))],aG ⟨rfl,rfl,rfl,rfl,rfl,trivial⟩,some j,rfl,rfl,Nat.lt_succ_self _,he,fun i hi wP=>?_⟩)))
     refine Or.elim (Nat.lt_succ_iff_lt_or_eq.mp hi) (fun q=>?_) (fun q=>?_)
     ·refine .inr ?_
      have e1:=jX hj
      have e2:=jX hm
      have wS:yt bs j<yt bs m:=by rw [e1,e2];exact bQ
      refine Or.elim (h3 i q wP) (fun e=>.inl (e ▸ wS)) fun h4=>?_
      exact .inl (h4.elim (Int.lt_trans wS) fun h=>h.1 ▸ wS)
     ·exact .inl q
    ·refine W.nil (W.nil (W.nil ⟨rfl,aT [some (.tup (bs.map aY.v)),some (.ref L),some (.str nm),some (.int dy),some (F9 (some m))],aG ⟨rfl,rfl,rfl,rfl,rfl,trivial⟩,some m,rfl,rfl,Nat.lt_succ_of_lt h1,h2,fun i hi wP=>?_⟩))
     refine Or.elim (Nat.lt_succ_iff_lt_or_eq.mp hi) (fun q=>?_) (fun q=>?_)
     ·exact h3 i q wP
     ·apply aO q
      refine .inr ?_
      have e1:=jX hj
      have e2:=jX hm
      have wS:yt bs m≤yt bs j:=by rw [e1,e2];exact Int.not_lt.mp bQ
      exact (Int.lt_or_eq_of_le wS).elim .inl fun e=>.inr ⟨e,h1⟩
  ·refine W.nil (W.nil ⟨rfl,aT [some (.tup (bs.map aY.v)),some (.ref L),some (.str nm),some (.int dy),some (F9 o)],aG ⟨rfl,rfl,rfl,rfl,rfl,trivial⟩,o,rfl,rfl,?_⟩)
   cases o with
   | none =>
    intro i hi
    refine Or.elim (Nat.lt_succ_iff_lt_or_eq.mp hi) (fun q=>?_) (fun q=>?_)
    ·exact hB i q
    ·rw [q];exact he
   | some m =>
    refine iY hB fun h1 h2 h3=>?_
    refine ⟨Nat.lt_succ_of_lt h1,h2,fun i hi wP=>?_⟩
    refine Or.elim (Nat.lt_succ_iff_lt_or_eq.mp hi) (fun q=>?_) (fun q=>?_)
    ·exact h3 i q wP
    ·rw [q,he] at wP;cases wP
 ·rintro _ _ ⟨o,rfl,rfl,hB⟩
  rw [cT] at hB
  rw [BP hB]
  exact W.retE rfl ⟨_,rfl,rfl,rfl⟩
noncomputable def zi (iN:Nat):aS:=⟨5,(.cons (.assign (.one 5) (.list .nil))
 (.cons (.while_ (.cmp .Gt (.var 3) (.cst (.int 0))) (.cons (.assign (.one 6) (.call iN (.cons (.var 0) (.cons (.var 1) (.cons (.var 2) (.cons (.var 4) .nil))))))
 (.cons (.ite (.cmp .Is (.var 6) (.cst .none)) (.cons (.ret (.cst .none))
 .nil) .nil)
 (.cons (.assign (.one 7) (.prim .min2 (.cons (.var 3) (.cons (.idx (.var 1) (.var 6)) .nil))))
 (.cons (.expr (.meth .append (.var 5) (.cons (.tuple (.cons (.var 6) (.cons (.var 7) .nil))) .nil)))
 (.cons (.setItem (.var 1) (.var 6) (.bin .Sub (.idx (.var 1) (.var 6)) (.var 7)))
 (.cons (.assign (.one 3) (.bin .Sub (.var 3) (.var 7)))
 .nil)))))))
 (.cons (.ret (.var 5))
 .nil)))⟩
structure EK (L:Nat) (σ:ag) (t:Tk) (v:V) (af:ag):Prop where
 keep:lm L σ af
 lf:af[L]? = some (.lst (t.lf.map .int))
 bad:0<t.am→v=.none
 ok:¬ 0<t.am→∃ q,v=.ref q∧σ.length≤q∧af[q]? = some (.lst (t.ps.map pV))
theorem rB (l:List Nat) (j:Nat) (t:Tk):l.foldl me t=(l.drop j).foldl me ((l.take j).foldl me t):=by
 rw [←List.foldl_append,List.take_append_drop]
noncomputable abbrev mL (bs:List aY) (L:Nat) (nm:Str) (a dy:Int) (p:Nat):List (Option V):=[some (.tup (bs.map aY.v)),some (.ref L),some (.str nm),some (.int a),some (.int dy),some (.ref p)]
structure ND (bs:List aY) (l:List Nat) (lf:List Int) (nm:Str) (am dy:Int) (L:Nat) (σ:ag) (j:Nat) (af:ag) (t:Tk):Prop where
 ht:(l.take j).foldl me ⟨[],lf,am⟩=t
 h1:af[L]? = some (.lst (t.lf.map .int))
 h2:af[σ.length]? = some (.lst (t.ps.map pV))
 hK:lm L σ af
 hn:0<t.am→bE bs t.lf nm dy=l.drop j
theorem Af {P:List aS} {k d iN:Nat} {σ:ag} {L:Nat} (hk:P[k]? = some (zi iN)) (hN:P[iN]? = some ch) (bs:List aY) (lf:List Int) (nm:Str) (am dy:Int) (hl:lf.length=bs.length) (hb:bs.length≤200) (hL:σ[L]? = some (.lst (lf.map .int))) :
  ∃ v af,ax P (d+2) k [.tup (bs.map aY.v),.ref L,.str nm,.int am,.int dy] σ=some (.ok v,af)∧EK L σ (n5 bs lf nm am dy) v af:=by
 have cZ:an=16777216:=rfl
 have GA:L<σ.length:=(List.getElem?_eq_some_iff.mp hL).1
 refine dK (d:=d+1) hk (as:=[.tup (bs.map aY.v),.ref L,.str nm,.int am,.int dy]) rfl (R:=EK L σ (n5 bs lf nm am dy)) ?_
 unfold zi
 refine W.set (v:=.ref σ.length) (σ₁:=σ++[.lst []]) rfl ?_
 generalize hE:bE bs lf nm dy=l
 have hlen:l.length≤200:=by rw [←hE];exact Nat.le_trans (tv _ _ _ _) hb
 have bQ:∀ i∈l,i<bs.length:=fun i hi=>jw (ij.mp (hE ▸ hi))
 have LD:n5 bs lf nm am dy=l.foldl me ⟨[],lf,am⟩:=by unfold n5;rw [hE]
 rw [LD]
 refine W.whileE gQ
  (fun n ρ af=>∃ j t,n=l.length - j∧ρ=aT (mL bs L nm t.am dy σ.length)∧ND bs l lf nm am dy L σ j af t)
  (fun fl af=>fl=.ret .none∧EK L σ (l.foldl me ⟨[],lf,am⟩) .none af) (n:=l.length) (Nat.lt_of_le_of_lt hlen (by decide))
  (a:=aT (mL bs L nm am dy σ.length)) (aG ⟨rfl,rfl,rfl,rfl,rfl,rfl,trivial⟩) ⟨0,⟨[],lf,am⟩,rfl,rfl,rfl,aM.app _ _ _ _ hL,a8 _ _,(aM.app _ _).b,fun _=>hE⟩ ?_ fun fl ρ' af ⟨h1,h2⟩=>⟨_,h1,h2⟩
 intro n Dx de q1
 refine kF q1 fun j t q2 q1 I=>?_;apply aO q1;apply aO q2
 have zy:=qn (l.take j) ⟨[],lf,am⟩
 have Fz:=ke (l.take j) ⟨[],lf,am⟩
 have FJ:=rB l j ⟨[],lf,am⟩
 rw [I.ht] at zy Fz FJ
 have Ln:(t.ps.map pV).length≤an:=by
  rw [List.length_map]
  exact Nat.le_trans zy (Nat.le_trans (by rw [List.length_nil,Nat.zero_add];exact Nat.le_trans (List.length_take_le' j l) hlen) (by decide:200≤an))
 refine ⟨decide (0<t.am),rfl,fun qb=>?_,fun qb=>?_⟩
 ·have h0:0<t.am:=of_decide_eq_true qb
  have Kv:=I.hn h0
  have e1:=xk (d:=d) (σ:=de) hN bs t.lf nm dy (Fz.trans hl) hb I.h1
  rw [Kv] at e1
  cases hd:l.drop j with
  | nil =>
   rw [hd] at e1 FJ
   refine W.set (v:=.none) (σ₁:=de) (aw (vs:=[.tup (bs.map aY.v),.ref L,.str nm,.int dy]) rfl e1) ?_
   refine W.iteT de rfl (W.retE rfl (.inr ⟨(fun q=>nomatch q),rfl,?_⟩))
   rw [FJ]
   exact ⟨I.hK,I.h1,fun _=>rfl,fun h=>absurd h0 h⟩
  | cons i r =>
   rw [hd] at e1 Kv
   have hi:l[j]? = some i:=by
    have:=congrArg (·[0]?) hd
    simpa using this
   have Ck:j<l.length:=(List.getElem?_eq_some_iff.mp hi).1
   have ou:=bQ i (List.mem_of_getElem? hi)
   have Cj:i<t.lf.length:=by rw [Fz];exact hl ▸ ou
   refine aJ (Dm Kv (Fz.trans hl) h0) fun qN _=>?_
   have Fl:l.drop (j+1)=r:=by rw [←List.drop_drop,hd];rfl
   have gV:me t i=⟨t.ps++[(i,hO t i)],t.lf.set i (n9 t.lf i - hO t i),t.am - hO t i⟩:=if_pos h0
   have D4:=nc (t:=⟨[],lf,am⟩) hi
   rw [I.ht,gV] at D4
   rw [gV] at qN
   refine W.set (v:=.int i) (σ₁:=de) (aw (vs:=[.tup (bs.map aY.v),.ref L,.str nm,.int dy]) rfl e1) ?_
   refine W.iteF de rfl (W.nil ?_)
   refine W.set (v:=.int (hO t i)) (σ₁:=de) (bh (vs:=[.int t.am,.int (n9 t.lf i)]) (bK rfl (aN (bR L (i:Int) _ _ rfl rfl I.h1 (Int.natCast_nonneg _) (kR Cj)))) rfl) ?_
   refine W.append0 σ.length (t.ps.map pV) (pV (i,hO t i)) rfl I.h2 rfl Ln ?_
   have g1:(de.set σ.length (.lst (t.ps.map pV++[pV (i,hO t i)])))[L]? = some (.lst (t.lf.map .int)):=by rw [cW (by exact fun q0=>l2 0xac080811b1014b01 rfl GA q0)];exact I.h1
   have g2:=eE (m':=.lst (t.ps.map pV++[pV (i,hO t i)])) I.h2
   have K3:lm L σ (de.set σ.length (.lst (t.ps.map pV++[pV (i,hO t i)]))):=fun b o hb e=>by
    have Jf:b<σ.length:=(List.getElem?_eq_some_iff.mp e).1
    rw [cW (by exact fun q0=>l2 0xac080811b1014b01 rfl Jf q0)];exact I.hK b o hb e
   generalize de.set σ.length (.lst (t.ps.map pV++[pV (i,hO t i)]))=ki at g1 g2 K3
   refine W.setItem0 L (i:Int) (t.lf.map .int) (.int (n9 t.lf i - hO t i)) (a6 (bR L (i:Int) _ _ rfl rfl g1 (Int.natCast_nonneg _) (kR Cj)) rfl rfl) rfl rfl g1 (Int.natCast_nonneg _) (by rw [Int.toNat_natCast,List.length_map];exact Cj) ?_
   rw [Int.toNat_natCast,lH]
   refine W.set (v:=.int (t.am - hO t i)) rfl (W.nil (.inl ⟨rfl,aT (mL bs L nm (t.am - hO t i) dy σ.length),aG ⟨rfl,rfl,rfl,rfl,rfl,rfl,trivial⟩,l.length - (j+1),l4 0x1c1310ba21014b0aa1823 rfl (sA _ _) (sC (Ck)),j+1,⟨t.ps++[(i,hO t i)],t.lf.set i (n9 t.lf i - hO t i),t.am - hO t i⟩,rfl,rfl,D4,eE g1,
    (cW (Nat.ne_of_lt GA)).trans (g2.trans (congrArg (fun z=>some (aZ.lst z)) (List.map_append (f:=pV) (l₁:=t.ps) (l₂:=[(i,hO t i)])).symm)),fun b o hb e=>(cW (Ne.symm hb)).trans (K3 b o hb e),by rw [Fl];exact qN⟩))
 ·have h0:¬ 0<t.am:=of_decide_eq_false qb
  rw [sL _ _ h0] at FJ
  rw [FJ]
  exact W.retE rfl ⟨_,rfl,I.hK,I.h1,fun h=>absurd h h0,fun _=>⟨_,rfl,Nat.le_refl _,I.h2⟩⟩
theorem v0 (n:Nat):pj [V.tup []] n=(List.replicate n ([]:List (Nat×Int))).map eC:=by
 induction n with
 | zero=>rfl
 | succ n ih=>rw [List.replicate_succ,List.map_cons,←ih];rfl
section
variable {call:ar} {ρ:aF} {σ:ag} {bs:List aY} {ds:List aQ}
theorem vH {i:Nat} (h:ρ 1=some (.tup (bs.map aY.v))) (hb:bs.length≤200):ab call (.comp (.idx (.var i) (.cst (.int 1))) (.one i) (.ex (.var 1)) .nil) ρ σ=some (.ref σ.length,σ++[.lst ((bs.map aY.a).map .int)]):=by
 have cZ:an=16777216:=rfl
 have hc:=mO (elt:=ab call (.idx (.var i) (.cst (.int 1)))) (cond:=cY call .nil) (t:=.one i) (w:=[]) (ρ:=ρ) (σ:=σ) (g:=aY.v) (p:=fun _=>true) (f:=fun b=>V.int b.a) (dh _) (xs:=bs) fun b hb=>⟨_,rfl,rfl,fun _=>bS 1 _ _ (bj (v:=b.v) (by show (if i=i then some b.v else ρ i)=_;rw [if_pos rfl])) rfl (by decide) rfl⟩
 rw [tN] at hc
 have e:(bs.map fun b=>V.int b.a)=(bs.map aY.a).map .int:=by rw [List.map_map];rfl
 rw [e] at hc
 exact vg (qz (bj h)) hc (by rw [List.length_map,List.length_map];exact l2 0xc1010b00c89015b00000000000001000000d1 rfl hb cZ)
theorem rC (h:ρ 0=some (.tup (ds.map aQ.v))) (hd:ds.length≤200):ab call (.bin .Mult (.list (.cons (.tuple .nil) .nil)) (.prim .len (.cons (.var 0) .nil))) ρ σ=some (.ref (σ.length+1),σ++[.lst [.tup []]]++[.lst ((List.replicate ds.length ([]:List (Nat×Int))).map eC)]):=by
 have cZ:an=16777216:=rfl
 have hz:0≤(ds.length:Int)∧(ds.length:Int)≤100000∧[V.tup []].length≤100:=⟨by (exact Int.natCast_nonneg _),by lia,by decide⟩
 have LM:(pj [V.tup []] (ds.length:Int).toNat).length≤an:=by rw [v0];simp;exact l2 0xc1010b00c89015b00000000000001000000d1 rfl hd cZ
 refine a6 (fR (vs:=[.tup []]) rfl (by decide)) (bh (vs:=[.tup (ds.map aQ.v)]) (aN (bj h)) ((gK _).trans (by rw [List.length_map]))) ?_
 show ((lst (σ++[.lst [.tup []]]) σ.length).bind fun x=>if 0≤(ds.length:Int)∧(ds.length:Int)≤100000∧x.length≤100 then xi (σ++[.lst [.tup []]]) (pj x (ds.length:Int).toNat) else none)=_
 rw [dQ (a8 _ _),Option.bind_some,if_pos hz]
 unfold xi
 rw [if_pos LM,v0,Int.toNat_natCast,List.length_append];rfl
end
noncomputable def br (ds:List aQ) (i:Nat):aQ:=(ds[i]?).getD ⟨0,[]⟩
theorem gj {ds:List aQ} {i:Nat} (h:i<ds.length):ds[i]? = some (br ds i):=by
 unfold br;rw [List.getElem?_eq_getElem h];rfl
theorem ml {ds:List aQ} {i:Nat} (h:i<ds.length):(ds.map aQ.v)[((i:Nat):Int).toNat]? = some (br ds i).v:=by
 rw [Int.toNat_natCast,List.getElem?_map,gj h];rfl
theorem oX {ds:List aQ} {i:Nat} (h:i<ds.length):fN ds i=(br ds i).d:=by
 unfold fN;rw [gj h];rfl
theorem rk {bs:List aY} {ds:List aQ} {st:uP} {k:Nat} (h:k<ds.length):fD bs ds st k=match bD (oE bs (br ds k).d) (st.1,[]) (br ds k).ns with | .ok p=>.ok (p.1,st.2.set k p.2) | .error e=>.error e:=by
 unfold fD
 rw [gj h]
 all_goals (dsimp only;try (cases bD (oE bs (br ds k).d) (st.1,[]) (br ds k).ns <;> rfl))
theorem zN {ρ:aF} {σ:ag} {ds:List aQ} {n:Nat} (h0:ρ 0=some (.tup (ds.map aQ.v))) (hn:n<ds.length):∃ v,cH (.idx (.idx (.var 0) (.var 9)) (.num 0)) (cE ρ 9 (.int n)) σ=some v∧oA v=some (GN ds n).1∧(GN ds n).2=n:=by
 refine ⟨.int (fN ds n),?_,rfl,rfl⟩
 rw [oX hn]
 have e1:cH (.idx (.var 0) (.var 9)) (cE ρ 9 (.int n)) σ=some (br ds n).v:=by
  show ((cE ρ 9 (.int n)) 0).bind _=_
  rw [show (cE ρ 9 (.int n)) 0=ρ 0 from rfl,h0]
  exact mw (l:=ds.map aQ.v) (Int.natCast_nonneg _) (ml hn)
 show (cH (.idx (.var 0) (.var 9)) (cE ρ 9 (.int n)) σ).bind _=_
 rw [e1];rfl
noncomputable def mo (iU:Nat):aS:=⟨2,(.cons (.assign (.one 2) (.comp (.idx (.var 9) (.cst (.int 1))) (.one 9) (.ex (.var 1)) .nil))
 (.cons (.assign (.one 3) (.bin .Mult (.list (.cons (.tuple .nil) .nil)) (.prim .len (.cons (.var 0) .nil))))
 (.cons (.for_ (.one 4) (.ex (.sortK (.rng1 (.prim .len (.cons (.var 0) .nil))) 9 (.idx (.idx (.var 0) (.var 9)) (.num 0)))) (.cons (.assign (.two 5 6) (.idx (.var 0) (.var 4)))
 (.cons (.assign (.one 7) (.list .nil))
 (.cons (.for_ (.one 8) (.ex (.var 6)) (.cons (.expr (.meth .extend (.var 7) (.cons (.call iU (.cons (.var 1) (.cons (.var 2) (.cons (.var 8) (.cons (.var 5) .nil))))) .nil)))
 .nil))
 (.cons (.setItem (.var 3) (.var 4) (.prim .tuple (.cons (.var 7) .nil)))
 .nil)))))
 (.cons (.ret (.prim .tuple (.cons (.var 3) .nil)))
 .nil))))⟩
theorem nv {σ ck de:ag} {A:Nat} (h:aM σ ck) (hA:σ.length≤A) (hB:lm A ck de):aM σ de:=fun i o e=>by
 have:i<σ.length:=(List.getElem?_eq_some_iff.mp e).1
 exact hB i o (fun q0=>l3 0xac080810b1011b0215b12 rfl hA this q0) (h i o e)
theorem nz {σ ck:ag} {A:Nat} {m:aZ} (h:aM σ ck) (hA:σ.length≤A):aM σ (ck.set A m):=fun i o e=>by
 have:i<σ.length:=(List.getElem?_eq_some_iff.mp e).1
 rw [cW (by exact fun q0=>l3 0xac080810b1011b0214b21 rfl hA this q0)];exact h i o e
theorem ug {bs:List aY} {dy:Int} (hb:bs.length≤200) {st st':List Int×List (Nat×Int)} {p:Str×Int} (h:oE bs dy st p=.ok st') (hl:st.1.length=bs.length):st'.1.length=bs.length∧st'.2.length≤st.2.length+200:=by
 unfold oE at h
 split at h
 ·cases h
 ·injection h with h;apply fQ h
  have h1:=ke (bE bs st.1 p.1 dy) ⟨[],st.1,p.2⟩
  have h2:=qn (bE bs st.1 p.1 dy) ⟨[],st.1,p.2⟩
  have h3:=tv bs st.1 p.1 dy
  dsimp only [List.length_nil] at h1 h2
  refine ⟨h1.trans hl,?_⟩
  show (st.2++(n5 bs st.1 p.1 p.2 dy).ps).length≤_
  rw [List.length_append]
  have h4:(n5 bs st.1 p.1 p.2 dy).ps.length≤0+(bE bs st.1 p.1 dy).length:=h2
  exact l4 0xca00c893a2310b00c89010b0110ba1082 rfl hb h3 h4
noncomputable abbrev cL (ds:List aQ) (bs:List aY) (A B:Nat):List (Option V):=[some (.tup (ds.map aQ.v)),some (.tup (bs.map aY.v)),some (.ref A),some (.ref B)]
noncomputable abbrev Hk (ds:List aQ) (bs:List aY) (A B k d C:Nat):List (Option V):=[some (.tup (ds.map aQ.v)),some (.tup (bs.map aY.v)),some (.ref A),some (.ref B),some (.int k),some (.int d),none,some (.ref C)]
structure Dz (σ:ag) (c:Except Str uP) (r:s8) (af:ag):Prop where
 keep:aM σ af
 bad:∀ nm,c=.error nm→r=.exc 2 nm
 ok:∀ st,c=.ok st→r=.ok (.tup (st.2.map eC))
structure NE (bs:List aY) (x:aQ) (us:List (List (Nat×Int))) (lf:List Int) (O:List V) (A B C q:Nat) (σ:ag) (j:Nat) (af:ag) (st:List Int×List (Nat×Int)):Prop where
 hf:bD (oE bs x.d) (lf,[]) (x.ns.take j)=.ok st
 hl2:st.1.length=bs.length
 hs2:st.2.length≤200 * j
 e1:af[A]? = some (.lst (st.1.map .int))
 e2:af[B]? = some (.lst (us.map eC))
 e3:af[C]? = some (.lst (st.2.map pV))
 e4:af[q]? = some (.lst O)
 hK2:aM σ af
theorem CM {P:List aS} {d iU iB:Nat} {σ ck:ag} {ds:List aQ} {bs:List aY} {A B C q k:Nat} {az:fu} {Q:b8→aF→ag→Prop} {us:List (List (Nat×Int))} {lf:List Int} {O:List V} {x:aQ} {ρ:aF} (hU:P[iU]? = some (o4 iB)) (hB:P[iB]? = some bz) (hb:bs.length≤200) (hx:x.ok)
  (hQ:Up Q) (rG:Le (aT (Hk ds bs A B k x.d C)) ρ) (h6:ρ 6=some (.tup (x.ns.map nL))) (Kj:σ.length≤A) (yn:σ.length≤C) (Jd:A≠B) (MN:A≠C) (NY:A≠q) (N4:C≠B) (N5:C≠q)
  (hl:lf.length=bs.length) (g1:ck[A]? = some (.lst (lf.map .int))) (g2:ck[B]? = some (.lst (us.map eC))) (g3:ck[C]? = some (.lst [])) (g4:ck[q]? = some (.lst O)) (hK:aM σ ck)
  (Ma:∀ st de,bD (oE bs x.d) (lf,[]) x.ns=.ok st→st.1.length=bs.length→st.2.length≤200 * 20→de[A]? = some (.lst (st.1.map .int))→de[B]? = some (.lst (us.map eC))→de[C]? = some (.lst (st.2.map pV))→de[q]? = some (.lst O)→aM σ de→W (ax P (d+2)) az (aT (Hk ds bs A B k x.d C)) de Q)
  (FW:∀ nm ρ' de,bD (oE bs x.d) (lf,[]) x.ns=.error nm→aM σ de→Q (.exc 2 nm) ρ' de) :
  W (ax P (d+2)) (.cons (.for_ (.one 8) (.ex (.var 6)) (.cons (.expr (.meth .extend (.var 7) (.cons (.call iU (.cons (.var 1) (.cons (.var 2) (.cons (.var 8) (.cons (.var 5) .nil))))) .nil))) .nil)) az) ρ ck Q:=by
 have cZ:an=16777216:=rfl
 refine W.loopE hQ (qz (bj h6))
  (fun j ρ af=>∃ st,ρ=aT (Hk ds bs A B k x.d C)∧NE bs x us lf O A B C q σ j af st)
  (fun fl af=>∃ nm,fl=.exc 2 nm∧bD (oE bs x.d) (lf,[]) x.ns=.error nm∧aM σ af) rG
  ⟨(lf,[]),rfl,rfl,hl,Nat.zero_le _,g1,g2,g3,g4,hK⟩ (fun _ _ _ _=>dh _) ?_ ?_ fun fl ρ' af ⟨nm,h1,h2,h3⟩=>h1 ▸ FW nm ρ' af h2 h3
 ·intro j y Dx de hy q1
  refine au q1 fun st q1 I=>?_;apply aO q1
  refine au (Ae hy) fun p hp q3=>?_;apply aO q3
  have Ck:j<x.ns.length:=(List.getElem?_eq_some_iff.mp hp).1
  have zx:=hx.2.2
  refine fv (xX (d:=d) (σ:=de) (L:=A) hU hB bs st.1 p.1 p.2 x.d I.hl2 hb I.e1) fun r ki ec U=>?_
  have vn:aL (ax P (d+2)) (.cons (.var 1) (.cons (.var 2) (.cons (.var 8) (.cons (.var 5) .nil)))) (cE (aT (Hk ds bs A B k x.d C)) 8 (nL p)) de=some ([.tup (bs.map aY.v),.ref A,.tup [.str p.1,.int p.2],.int x.d],de):=rfl
  have K3:aM σ ki:=nv I.hK2 Kj U.keep
  refine ⟨_,rfl,?_⟩
  by_cases h0:0<(n5 bs st.1 p.1 p.2 x.d).am
  ·rw [U.bad h0] at ec
   exact W.exprX (Ca rfl I.e3 vn ec) (.inr ⟨(fun q=>nomatch q),p.1,rfl,i6 I.hf hp (if_pos h0),K3⟩)
  ·refine fL (U.ok h0) fun u hu Na Jn=>?_
   rw [hu] at ec
   have yp:oE bs x.d st p=.ok ((n5 bs st.1 p.1 p.2 x.d).lf,st.2++(n5 bs st.1 p.1 p.2 x.d).ps):=if_neg h0
   refine aJ (ug hb yp I.hl2) fun l1 l2=>?_
   have N3:C<de.length:=(List.getElem?_eq_some_iff.mp I.e3).1
   have f3:ki[C]? = some (.lst (st.2.map pV)):=U.keep _ _ MN.symm I.e3
   have N6:C≠u:=fun q0=>l3 0xac080810b1011b0215b12 rfl Na N3 q0
   have Lk:my ki (.ref C) (.ref u)=some (.none,ki.set C (.lst (st.2.map pV++(n5 bs st.1 p.1 p.2 x.d).ps.map pV))):=by
    show (lst ki C).bind (fun l=>(lst ki u).bind fun k=>if l.length+k.length≤an∧C≠u then some (V.none,ki.set C (.lst (l++k))) else none)=_
    rw [dQ f3]
    show (lst ki u).bind _=_
    rw [dQ Jn]
    refine if_pos ⟨?_,N6⟩
    dsimp only at l2
    rw [List.length_append] at l2
    rw [List.length_map,List.length_map]
    exact Nat.le_trans l2 (Nat.le_trans (Nat.add_le_add_right (Nat.le_trans I.hs2 (Nat.mul_le_mul_left 200 (Nat.le_of_lt (Nat.lt_of_lt_of_le Ck zx)))) 200) (by decide))
   refine W.extend C u _ _ rfl I.e3 (aw vn ec) f3 Jn Lk (W.nil (.inl ⟨rfl,aT (Hk ds bs A B k x.d C),aG ⟨rfl,rfl,rfl,rfl,rfl,rfl,rfl,trivial⟩,_,rfl,?_,l1,?_,?_,?_,?_,?_,?_⟩))
   ·rw [gx hp,fF I.hf,yp]
   ·exact Nat.le_trans l2 (Nat.add_le_add_right I.hs2 200)
   ·rw [cW MN.symm];exact U.lf
   ·rw [cW N4];exact U.keep _ _ Jd.symm I.e2
   ·rw [eE f3]
    exact congrArg (fun z=>some (aZ.lst z)) (List.map_append ..).symm
   ·rw [cW N5];exact U.keep _ _ NY.symm I.e4
   ·exact nz K3 yn
 ·intro Dx de q1
  refine au q1 fun st q1 I=>?_;apply aO q1
  rw [List.length_map] at I
  have hf:=I.hf
  rw [List.take_length] at hf
  have zx:=hx.2.2
  exact Ma st de hf I.hl2 (Nat.le_trans I.hs2 (Nat.mul_le_mul_left 200 zx)) I.e1 I.e2 I.e3 I.e4 I.hK2
theorem rm {bs:List aY} {ds:List aQ} {st st':uP} {k:Nat} {lf:List Int} {ps:List (Nat×Int)} (h:k<ds.length) (hf:bD (oE bs (br ds k).d) (st.1,[]) (br ds k).ns=.ok (lf,ps)):fD bs ds st k=.ok (lf,st.2.set k ps):=by
 rw [rk h,hf]
theorem rl {bs:List aY} {ds:List aQ} {st:uP} {k:Nat} {e:Str} (h:k<ds.length) (hf:bD (oE bs (br ds k).d) (st.1,[]) (br ds k).ns=.error e):fD bs ds st k=.error e:=by
 rw [rk h,hf]
theorem A3 (us:List (List (Nat×Int))) (k:Nat) (ps:List (Nat×Int)):(us.map eC).set k (eC ps)=(us.set k ps).map eC:=by rw [List.map_set]
theorem ri (σ:ag) (bs:List aY) (ds:List aQ):(σ++[aZ.lst ((bs.map aY.a).map .int)]).length+1=σ.length+2∧(σ++[.lst ((bs.map aY.a).map .int)]++[.lst [.tup []]]++[.lst ((List.replicate ds.length ([]:List (Nat×Int))).map eC)])[σ.length]? = some (aZ.lst ((bs.map aY.a).map .int)) ∧
  (σ++[.lst ((bs.map aY.a).map .int)]++[.lst [.tup []]]++[.lst ((List.replicate ds.length ([]:List (Nat×Int))).map eC)])[σ.length+2]? = some (aZ.lst ((List.replicate ds.length ([]:List (Nat×Int))).map eC))∧aM σ (σ++[.lst ((bs.map aY.a).map .int)]++[.lst [.tup []]]++[.lst ((List.replicate ds.length ([]:List (Nat×Int))).map eC)]):=by
 refine ⟨by rw [List.length_append];rfl,aM.app _ _ _ _ (aM.app _ _ _ _ (a8 _ _)),?_,(aM.app _ _).trans ((aM.app _ _).trans (aM.app _ _))⟩
 have:=a8 (σ++[.lst ((bs.map aY.a).map .int)]++[.lst [.tup []]]) (.lst ((List.replicate ds.length ([]:List (Nat×Int))).map eC))
 rw [List.length_append,List.length_append] at this;exact this
structure Nw (bs:List aY) (ds:List aQ) (σ yh:ag) (j:Nat) (af:ag) (st:List Int×List (List (Nat×Int))):Prop where
 hj:j≤(hG ds).length
 hf:bD (fD bs ds) (Gv bs ds) ((hG ds).take j)=.ok st
 hl1:st.1.length=bs.length
 hl2:st.2.length=ds.length
 e1:af[σ.length]? = some (.lst (st.1.map .int))
 e2:af[σ.length+2]? = some (.lst (st.2.map eC))
 e3:af[yh.length]? = some (.lst (iI (hG ds)))
 hK:aM σ af
theorem rh {P:List aS} {k d iU iB:Nat} {σ:ag} (hk:P[k]? = some (mo iU)) (hU:P[iU]? = some (o4 iB)) (hB:P[iB]? = some bz) (ds:List aQ) (bs:List aY) (hd:ds.length≤200) (hb:bs.length≤200) (zu:∀ x∈ds,x.ok) :
  ∃ r af,ax P (d+3) k [.tup (ds.map aQ.v),.tup (bs.map aY.v)] σ=some (r,af)∧Dz σ (ff bs ds) r af:=by
 have cZ:an=16777216:=rfl
 refine yZ (d:=d+2) hk (as:=[.tup (ds.map aQ.v),.tup (bs.map aY.v)]) rfl (R:=Dz σ (ff bs ds)) ?_
 unfold mo
 refine W.set (vH rfl hb) ?_
 refine W.set (rC rfl hd) ?_
 refine yl (ri σ bs ds) fun a4 a1 a2 a3=>?_
 rw [a4]
 generalize σ++[.lst ((bs.map aY.a).map .int)]++[.lst [.tup []]]++[.lst ((List.replicate ds.length ([]:List (Nat×Int))).map eC)]=yh at a1 a2 a3 ⊢
 have Bp:σ.length+2<yh.length:=(List.getElem?_eq_some_iff.mp a2).1
 have eS:∀ {ρ:aF},ρ 0=some (.tup (ds.map aQ.v))→ab (ax P (d+2)) (.sortK (.rng1 (.prim .len (.cons (.var 0) .nil))) 9 (.idx (.idx (.var 0) (.var 9)) (.num 0))) ρ yh=some (.ref yh.length,yh++[.lst (iI (hG ds))]):=fun {ρ} h0=>by
  have hs:cm (ax P (d+2)) (.rng1 (.prim .len (.cons (.var 0) .nil))) ρ yh=some ((List.range ds.length).map fun j:Nat=>V.int j,[],yh):=by
   rw [←um]
   exact cX (n:=ds.length) (bh (vs:=[.tup (ds.map aQ.v)]) (aN (bj h0)) ((gK _).trans (by rw [List.length_map]))) (l1 0xc0000000000003b9aca00d010b00c890 rfl hd)
  exact ru hs rfl (lP (f:=GN ds) (c:=1) (m:=hG ds) (l:=List.range ds.length) List.pairwise_lt_range (by rw [List.length_range];exact l1 0xc03e89010b00c890 rfl hd) (fun _=>rfl) (fun n hn=>zN h0 (List.mem_range.mp hn)) (Aq zu) fun _ _=>rfl)
 refine W.loopE IR (uw (eS rfl) (a8 _ _))
  (fun j ρ af=>∃ st,ρ=aT (cL ds bs σ.length (σ.length+2))∧Nw bs ds σ yh j af st)
  (fun fl af=>∃ nm,fl=.exc 2 nm∧ff bs ds=.error nm∧aM σ af) (a:=aT (cL ds bs σ.length (σ.length+2))) (aG ⟨rfl,rfl,rfl,rfl,trivial⟩)
  ⟨Gv bs ds,rfl,Nat.zero_le _,rfl,List.length_map _,List.length_replicate,aM.app _ _ _ _ a1,aM.app _ _ _ _ a2,a8 _ _,a3.trans (aM.app _ _)⟩ (fun _ _ _ ⟨_,_,I⟩=>A4 I.e3) ?_ ?_ fun fl ρ' af ⟨nm,h1,h2,h3⟩=>.inr ⟨2,nm,h1,h3,fun F8 e=>(by rw [h2] at e;injection e with e;rw [e]),fun st e=>(by rw [h2] at e;cases e)⟩
 ·intro j y Gq ck hy q1
  refine au q1 fun st q1 I=>?_;apply aO q1
  refine au (Ah hy) fun i hi q3=>?_;apply aO q3
  have Ck:j<(hG ds).length:=(List.getElem?_eq_some_iff.mp hi).1
  have HP:i<ds.length:=(vV zu).mp (List.mem_of_getElem? hi)
  have hx:(br ds i).ok:=zu _ (List.mem_of_getElem? (gj HP))
  have yr:yh.length<ck.length:=(List.getElem?_eq_some_iff.mp I.e3).1
  refine ⟨_,rfl,W.put (v:=(br ds i).v) (σ₁:=ck) (bS (i:Int) _ _ rfl rfl (Int.natCast_nonneg _) (ml HP)) rfl ?_⟩
  refine W.set (v:=.ref ck.length) (σ₁:=ck++[.lst []]) rfl ?_
  refine CM (σ:=σ) (ds:=ds) (A:=σ.length) (B:=σ.length+2) (C:=ck.length) (q:=yh.length) (k:=i) (us:=st.2) (lf:=st.1) (O:=iI (hG ds)) (x:=br ds i) hU hB hb hx (fun fl a b σ hl h=>?_) (aG ⟨rfl,rfl,rfl,rfl,rfl,rfl,rfl,trivial⟩) rfl (Nat.le_refl _) (l3 0xc2011b1a28011b21 rfl Bp yr) (fun q0=>l1 0xac080815ba2800 rfl q0) (fun q0=>l3 0xac080811b1a28011b2115b20 rfl Bp yr q0) (fun q0=>l2 0xac080811b1a28015b10 rfl Bp q0) (fun q0=>l3 0xac080811b1a28011b2114ba2802 rfl Bp yr q0) (fun q0=>l2 0xac080811b1014b01 rfl yr q0) I.hl1 (aM.app _ _ _ _ I.e1) (aM.app _ _ _ _ I.e2) (a8 _ _) (aM.app _ _ _ _ I.e3) (I.hK.trans (aM.app _ _)) ?_ ?_
  ·rcases h with ⟨h1,c,h2,h3⟩ | h
   ·exact .inl ⟨h1,c,h2.trans hl,h3⟩
   ·exact .inr h
  ·intro cB de Fo m1 m2 g1 g2 g3 g4 hK2
   obtain ⟨Mc,ps⟩:=cB
   have hz:(ps.map pV).length≤an:=by rw [List.length_map];dsimp only at m2;(exact Nat.le_trans ‹_≤_› (by decide))
   refine W.setItem0 (σ.length+2) (i:Int) (st.2.map eC) (eC ps) (bh (vs:=[.ref ck.length]) rfl (eA g3 hz)) rfl rfl g2 (Int.natCast_nonneg _) (by rw [Int.toNat_natCast,List.length_map,I.hl2];exact HP) ?_
   rw [Int.toNat_natCast,A3]
   refine W.nil (.inl ⟨rfl,aT (cL ds bs σ.length (σ.length+2)),aG ⟨rfl,rfl,rfl,rfl,trivial⟩,(Mc,st.2.set i ps),rfl,Ck,?_,m1,?_,?_,eE g2,?_,nz hK2 (l1 0xca2800 rfl)⟩)
   ·rw [gx hi,fF I.hf,rm (st':=st) HP Fo]
   ·rw [List.length_set];exact I.hl2
   ·rw [cW (by exact fun q0=>l1 0xac080814b0a280 rfl q0)];exact g1
   ·rw [cW (by exact fun q0=>l2 0xac080811b1a28015b1a280 rfl Bp q0)];exact g4
  ·intro nm ρ' de Fo hK2
   exact .inr ⟨(fun q=>nomatch q),nm,rfl,i6 I.hf hi (rl HP Fo),hK2⟩
 ·intro Gq ck q1
  refine au q1 fun st q1 I=>?_;apply aO q1
  have hf:=I.hf
  rw [show (iI (hG ds)).length=(hG ds).length from List.length_map _,List.take_length] at hf
  have hz:(st.2.map eC).length≤an:=by rw [List.length_map];exact l3 0xc1210b00c89015b00000000000001000000d114b02 rfl hd cZ I.hl2
  refine W.retE (bh (vs:=[.ref (σ.length+2)]) rfl (eA I.e2 hz)) (.inl ⟨_,rfl,I.hK,fun nm e=>?_,fun st' e=>?_⟩)
  ·rw [show ff bs ds=.ok st from hf] at e;cases e
  ·rw [show ff bs ds=.ok st from hf] at e;injection e with e;rw [e]
noncomputable def Kf (iM:Nat):aS:=⟨2,(.cons (.assign (.one 2) (.comp (.idx (.var 8) (.cst (.int 1))) (.one 8) (.ex (.var 1)) .nil))
 (.cons (.assign (.one 3) (.bin .Mult (.list (.cons (.tuple .nil) .nil)) (.prim .len (.cons (.var 0) .nil))))
 (.cons (.for_ (.one 4) (.rng2 (.cst (.int 1)) (.cst (.int 8))) (.cons (.for_ (.one 5) (.rng1 (.prim .len (.cons (.var 0) .nil))) (.cons (.ite (.cmp .Eq (.idx (.idx (.var 0) (.var 5)) (.cst (.int 0))) (.var 4)) (.cons (.for_ (.one 6) (.ex (.idx (.idx (.var 0) (.var 5)) (.cst (.int 1)))) (.cons (.assign (.one 7) (.call iM (.cons (.var 1) (.cons (.var 2) (.cons (.idx (.var 6) (.cst (.int 0))) (.cons (.idx (.var 6) (.cst (.int 1))) (.cons (.var 4) .nil)))))))
 (.cons (.ite (.cmp .Is (.var 7) (.cst .none)) (.cons (.ret (.idx (.var 6) (.cst (.int 0))))
 .nil) .nil)
 (.cons (.setItem (.var 3) (.var 5) (.bin .Add (.idx (.var 3) (.var 5)) (.prim .tuple (.cons (.var 7) .nil))))
 .nil))))
 .nil) .nil)
 .nil))
 .nil))
 (.cons (.ret (.var 3))
 .nil))))⟩
noncomputable def uj (ds:List aQ) (t:Nat):List Nat:=(List.range t).flatMap fun u=>(List.range ds.length).filter fun k=>fN ds k==u+1
noncomputable def gL (ds:List aQ) (t j:Nat):List Nat:=uj ds t++(List.range j).filter fun k=>fN ds k==t+1
theorem xm (ds:List aQ) (t:Nat):uj ds (t+1)=gL ds t ds.length:=by
 unfold gL uj
 rw [List.range_succ,List.flatMap_append]
 simp
theorem Ao {ds:List aQ} {t j:Nat} (h:fN ds j=t+1):gL ds t (j+1)=gL ds t j++[j]:=by
 unfold gL
 rw [List.range_succ,List.filter_append,List.append_assoc]
 simp [h]
theorem CO {ds:List aQ} {t j:Nat} (h:¬ fN ds j=t+1):gL ds t (j+1)=gL ds t j:=by
 unfold gL
 rw [List.range_succ,List.filter_append]
 simp [h]
theorem lM {n j:Nat} (h:j<n):∃ r,List.range n=List.range j++j::r:=by
 refine ⟨(List.range n).drop (j+1),?_⟩
 have h1:(List.range n)[j]? = some j:=by rw [List.getElem?_range h]
 have h2:(List.range n).take j=List.range j:=by rw [List.take_range,Nat.min_eq_left (Nat.le_of_lt h)]
 conv=>lhs;rw [←List.take_append_drop j (List.range n),h2]
 rw [List.drop_eq_getElem_cons (by rw [List.length_range];exact h),List.getElem_range]
theorem xn {ds:List aQ} {t j:Nat} (ht:t<7) (hj:j<ds.length) (h:fN ds j=t+1):∃ r,hG ds=gL ds t j++j::r:=by
 refine Exists.elim (lM ht) fun r1 e1=>?_
 refine Exists.elim (lM hj) fun r2 e2=>?_
 unfold hG gL uj
 rw [e1,List.flatMap_append,List.flatMap_cons]
 conv=>enter [1,r,1,2,1,2];rw [e2]
 rw [List.filter_append,List.filter_cons,if_pos (by rw [h];exact beq_self_eq_true _)]
 exact ⟨(r2.filter fun k=>fN ds k==t+1)++r1.flatMap fun t=>(List.range ds.length).filter fun k=>fN ds k==t+1,by simp only [List.append_assoc,List.cons_append]⟩
theorem An {ds:List aQ} {t j:Nat} (h:fN ds j=t+1):j∉gL ds t j:=fun hm=>by
 unfold gL uj at hm
 refine Or.elim (List.mem_append.mp hm) (fun q=>?_) (fun q=>?_)
 ·refine au (List.mem_flatMap.mp q) fun u h1 h2=>?_
  have h3:=beq_iff_eq.mp (List.mem_filter.mp h2).2
  have h4:=List.mem_range.mp h1
  exact l3 0xac080815ba181014ba182011b12 rfl h h3 h4
 ·exact absurd (List.mem_range.mp (List.mem_filter.mp q).1) (Nat.lt_irrefl _)
theorem oW {bs:List aY} {ds:List aQ} {i:Nat}:∀ (l:List Nat) (st st':uP),bD (fD bs ds) st l=.ok st'→i∉l→st'.2[i]? = st.2[i]?
 | [],st,st',h,_=>by injection h with h;rw [h]
 | k::l,st,st',h,hi=>by
  have OP:i≠k:=fun q=>hi (q ▸ List.mem_cons_self)
  have Cj:i∉l:=fun q=>hi (List.mem_cons_of_mem _ q)
  unfold bD at h
  cases hd:fD bs ds st k with
  | error e=>rw [hd] at h;cases h
  | ok b =>
   rw [hd] at h
   dsimp only at h
   rw [oW l b st' h Cj]
   unfold fD at hd
   cases e:ds[k]? with
   | none=>rw [e] at hd;injection hd with hd;rw [hd]
   | some x =>
    rw [e] at hd
    dsimp only at hd
    cases hf:bD (oE bs x.d) (st.1,[]) x.ns with
    | error e'=>rw [hf] at hd;cases hd
    | ok p =>
     rw [hf] at hd
     injection hd with hd
     rw [←hd]
     exact List.getElem?_set_ne (Ne.symm OP)
theorem qS {a b:List V} {σ:ag} (h:(a++b).length≤an):jP .Add (.tup a) (.tup b) σ=some (.tup (a++b),σ):=by
 show oF σ (a++b)=_
 exact if_pos h
noncomputable abbrev lL (ds:List aQ) (bs:List aY) (A B:Nat) (t:Int):List (Option V):=[some (.tup (ds.map aQ.v)),some (.tup (bs.map aY.v)),some (.ref A),some (.ref B),some (.int t)]
noncomputable abbrev Jv (ds:List aQ) (bs:List aY) (A B:Nat) (t:Int) (k:Nat):List (Option V):=[some (.tup (ds.map aQ.v)),some (.tup (bs.map aY.v)),some (.ref A),some (.ref B),some (.int t),some (.int k)]
structure NC (bs:List aY) (x:aQ) (us:List (List (Nat×Int))) (lf:List Int) (A B k:Nat) (σ:ag) (j:Nat) (af:ag) (st:List Int×List (Nat×Int)):Prop where
 hf:bD (oE bs x.d) (lf,[]) (x.ns.take j)=.ok st
 hl2:st.1.length=bs.length
 hs2:st.2.length≤200 * j
 e1:af[A]? = some (.lst (st.1.map .int))
 e2:af[B]? = some (.lst ((us.set k st.2).map eC))
 hK2:aM σ af
set_option tactic.hygienic true in
theorem Aa {P:List aS} {d iM iN:Nat} {σ ck:ag} {ds:List aQ} {bs:List aY} {A B k:Nat} {az:fu} {Q:b8→aF→ag→Prop} {us:List (List (Nat×Int))} {lf:List Int} {ρ:aF} (hM:P[iM]? = some (zi iN)) (hN:P[iN]? = some ch) (hb:bs.length≤200) (hk:k<ds.length) (hx:(br ds k).ok) (HV:us[k]? = some [])
  (hQ:Up Q) (rG:Le (aT (Jv ds bs A B (br ds k).d k)) ρ) (Kj:σ.length≤A) (NZ:σ.length≤B) (Jd:A≠B)
  (hl:lf.length=bs.length) (g1:ck[A]? = some (.lst (lf.map .int))) (g2:ck[B]? = some (.lst (us.map eC))) (hK:aM σ ck)
  (Ma:∀ st de,bD (oE bs (br ds k).d) (lf,[]) (br ds k).ns=.ok st→st.1.length=bs.length→de[A]? = some (.lst (st.1.map .int))→de[B]? = some (.lst ((us.set k st.2).map eC))→aM σ de→W (ax P (d+2)) az (aT (Jv ds bs A B (br ds k).d k)) de Q)
  (FW:∀ nm ρ' de,bD (oE bs (br ds k).d) (lf,[]) (br ds k).ns=.error nm→aM σ de→Q (.ret (.str nm)) ρ' de) :
  W (ax P (d+2)) (.cons (.for_ (.one 6) (.ex (.idx (.idx (.var 0) (.var 5)) (.cst (.int 1)))) (.cons (.assign (.one 7) (.call iM (.cons (.var 1) (.cons (.var 2) (.cons (.idx (.var 6) (.cst (.int 0))) (.cons (.idx (.var 6) (.cst (.int 1))) (.cons (.var 4) .nil)))))))
   (.cons (.ite (.cmp .Is (.var 7) (.cst .none)) (.cons (.ret (.idx (.var 6) (.cst (.int 0)))) .nil) .nil)
   (.cons (.setItem (.var 3) (.var 5) (.bin .Add (.idx (.var 3) (.var 5)) (.prim .tuple (.cons (.var 7) .nil)))) .nil)))) az) ρ ck Q:=by
 have cZ:an=16777216:=rfl
 have KZ:k<us.length:=(List.getElem?_eq_some_iff.mp HV).1
 have NS:ab (ax P (d+2)) (.idx (.idx (.var 0) (.var 5)) (.cst (.int 1))) ρ ck=some (.tup ((br ds k).ns.map nL),ck) :=
  ay _ rG (bS 1 _ _ (bS (k:Int) _ _ rfl rfl (Int.natCast_nonneg _) (ml hk)) rfl (by decide) rfl)
 refine W.loopE hQ (qz NS)
  (fun j ρ af=>∃ st,ρ=aT (Jv ds bs A B (br ds k).d k)∧NC bs (br ds k) us lf A B k σ j af st)
  (fun fl af=>∃ nm,fl=.ret (.str nm)∧bD (oE bs (br ds k).d) (lf,[]) (br ds k).ns=.error nm∧aM σ af) rG
  ⟨(lf,[]),rfl,rfl,hl,Nat.zero_le _,g1,?_,hK⟩ (fun _ _ _ _=>dh _) ?_ ?_ fun fl ρ' af ⟨nm,h1,h2,h3⟩=>h1 ▸ FW nm ρ' af h2 h3
 ·have:us.set k []=us:=by
   refine List.ext_getElem? fun i=>?_
   rw [List.getElem?_set]
   split
   ·rename_i h;apply fQ h
    first | rw [if_pos KZ,HV] | rw [HV]
   ·rfl
  rw [this];exact g2
 ·intro j y Dx de hy q1
  refine au q1 fun st q1 I=>?_;apply aO q1
  refine au (Ae hy) fun p hp q3=>?_;apply aO q3
  have Ck:j<(br ds k).ns.length:=(List.getElem?_eq_some_iff.mp hp).1
  have zx:=hx.2.2
  refine fv (Af (d:=d) (σ:=de) (L:=A) hM hN bs st.1 p.1 p.2 (br ds k).d I.hl2 hb I.e1) fun v ki ec M=>?_
  have K3:aM σ ki:=nv I.hK2 Kj M.keep
  have f2:ki[B]? = some (.lst ((us.set k st.2).map eC)):=M.keep _ _ Jd.symm I.e2
  refine ⟨_,rfl,W.set (v:=v) (σ₁:=ki) (aw (vs:=[.tup (bs.map aY.v),.ref A,.str p.1,.int p.2,.int (br ds k).d]) rfl ec) ?_⟩
  by_cases h0:0<(n5 bs st.1 p.1 p.2 (br ds k).d).am
  ·apply aO (M.bad h0)
   exact W.iteT ki rfl (W.retE (v:=.str p.1) rfl (.inr ⟨(fun q=>nomatch q),p.1,rfl,i6 I.hf hp (if_pos h0),K3⟩))
  ·refine fL (M.ok h0) fun u q2 Na Jn=>?_;apply aO q2
   have yp:oE bs (br ds k).d st p=.ok ((n5 bs st.1 p.1 p.2 (br ds k).d).lf,st.2++(n5 bs st.1 p.1 p.2 (br ds k).d).ps):=if_neg h0
   refine aJ (ug hb yp I.hl2) fun l1 l2=>?_
   refine W.iteF ki rfl (W.nil ?_)
   have Os:((us.set k st.2).map eC)[((k:Nat):Int).toNat]? = some (eC st.2):=by
    rw [Int.toNat_natCast,List.getElem?_map,List.getElem?_set_self KZ];rfl
   have LL:((n5 bs st.1 p.1 p.2 (br ds k).d).ps.map pV).length≤an:=by
    dsimp only at l2
    rw [List.length_append] at l2
    rw [List.length_map];exact l3 0xc0215b00000000000001000000d010ba00c891a21 rfl cZ l2
   have LM:(st.2.map pV++(n5 bs st.1 p.1 p.2 (br ds k).d).ps.map pV).length≤an:=by
    dsimp only at l2
    rw [List.length_append] at l2
    rw [List.length_append,List.length_map,List.length_map]
    exact Nat.le_trans l2 (Nat.le_trans (Nat.add_le_add_right (Nat.le_trans I.hs2 (Nat.mul_le_mul_left 200 (Nat.le_of_lt (Nat.lt_of_lt_of_le Ck zx)))) 200) (by decide))
   refine W.setItem0 B (k:Int) ((us.set k st.2).map eC) (eC (st.2++(n5 bs st.1 p.1 p.2 (br ds k).d).ps)) (a6 (bR B (k:Int) _ _ rfl rfl f2 (Int.natCast_nonneg _) Os) (bh (vs:=[.ref u]) rfl (eA Jn LL)) ((qS LM).trans (by unfold eC;rw [List.map_append]))) rfl rfl f2 (Int.natCast_nonneg _) (by rw [Int.toNat_natCast,List.length_map,List.length_set];exact KZ) ?_
   rw [Int.toNat_natCast,A3,List.set_set]
   refine W.nil (.inl ⟨rfl,aT (Jv ds bs A B (br ds k).d k),aG ⟨rfl,rfl,rfl,rfl,rfl,rfl,trivial⟩,_,rfl,?_,l1,?_,?_,eE f2,nz K3 NZ⟩)
   ·rw [gx hp,fF I.hf,yp]
   ·exact Nat.le_trans l2 (Nat.add_le_add_right I.hs2 200)
   ·rw [cW Jd.symm];exact M.lf
 ·intro Dx de q1
  refine au q1 fun st q1 I=>?_;apply aO q1
  have hf:=I.hf
  rw [List.length_map,List.take_length] at hf
  exact Ma st de hf I.hl2 I.e1 I.e2 I.hK2
theorem A2 {call:ar} {az:fu} {Q:b8→aF→ag→Prop} (h:Up Q):Up fun fl ρ' af=>match fl with | .next=>W call az ρ' af Q | fl=>Q fl ρ' af:=fun fl a b σ hl hq=>by
 cases fl with
 | next=>exact W.le h hl hq
 | ret v=>exact h _ a b σ hl hq
 | exc c w=>exact h _ a b σ hl hq
theorem wa {I:aF→ag→Prop} {J:b8→ag→Prop}:Up fun fl ρ σ=>(fl=.next∧∃ a,Le a ρ∧I a σ)∨(fl≠.next∧J fl σ):=fun _ _ _ _ hl h=>by
 rcases h with ⟨h1,c,h2,h3⟩ | h
 ·exact .inl ⟨h1,c,h2.trans hl,h3⟩
 ·exact .inr h
structure Ms (σ:ag) (n:Nat) (c:Except Str uP) (v:V) (af:ag):Prop where
 keep:aM σ af
 bad:∀ nm,c=.error nm→v=.str nm
 ok:∀ st,c=.ok st→∃ q,v=.ref q∧af[q]? = some (.lst (st.2.map eC))∧st.2.length=n
theorem E6 {bs:List aY} {ds:List aQ} {t j:Nat} {st:uP} {nm:Str} (ht:t<7) (hj:j<ds.length) (h:fN ds j=t+1) (hf:bD (fD bs ds) (Gv bs ds) (gL ds t j)=.ok st) (he:fD bs ds st j=.error nm):ff bs ds=.error nm:=by
 refine Exists.elim (xn ht hj h) fun r e=>?_
 have h1:(hG ds).take (gL ds t j).length=gL ds t j:=by rw [e,List.take_left'];rfl
 refine i6 (k:=(gL ds t j).length) (x:=j) ?_ ?_ he
 ·rw [h1];exact hf
 ·rw [e,List.getElem?_append_right (Nat.le_refl _),Nat.sub_self];rfl
structure Mt (bs:List aY) (ds:List aQ) (σ:ag) (o:List Nat) (af:ag) (st:uP):Prop where
 hf:bD (fD bs ds) (Gv bs ds) o=.ok st
 hl1:st.1.length=bs.length
 hl2:st.2.length=ds.length
 e1:af[σ.length]? = some (.lst (st.1.map .int))
 e2:af[σ.length+2]? = some (.lst (st.2.map eC))
 hK:aM σ af
theorem qk {P:List aS} {k d iM iN:Nat} {σ:ag} (hk:P[k]? = some (Kf iM)) (hM:P[iM]? = some (zi iN)) (hN:P[iN]? = some ch) (ds:List aQ) (bs:List aY) (hd:ds.length≤200) (hb:bs.length≤200) (zu:∀ x∈ds,x.ok) :
  ∃ v af,ax P (d+3) k [.tup (ds.map aQ.v),.tup (bs.map aY.v)] σ=some (.ok v,af)∧Ms σ ds.length (ff bs ds) v af:=by
 have cZ:an=16777216:=rfl
 refine dK (d:=d+2) hk (as:=[.tup (ds.map aQ.v),.tup (bs.map aY.v)]) rfl (R:=Ms σ ds.length (ff bs ds)) ?_
 unfold Kf
 refine W.set (vH rfl hb) ?_
 refine W.set (rC rfl hd) ?_
 refine yl (ri σ bs ds) fun a4 a1 a2 a3=>?_
 rw [a4]
 generalize σ++[.lst ((bs.map aY.a).map .int)]++[.lst [.tup []]]++[.lst ((List.replicate ds.length ([]:List (Nat×Int))).map eC)]=yh at a1 a2 a3 ⊢
 refine W.loopE gQ (AU (m:=1) (n:=8) rfl rfl (by decide))
  (fun t ρ af=>∃ st,ρ=aT (cL ds bs σ.length (σ.length+2))∧Mt bs ds σ (uj ds t) af st)
  (fun fl af=>∃ nm,fl=.ret (.str nm)∧ff bs ds=.error nm∧aM σ af) (a:=aT (cL ds bs σ.length (σ.length+2))) (aG ⟨rfl,rfl,rfl,rfl,trivial⟩)
  ⟨Gv bs ds,rfl,rfl,List.length_map _,List.length_replicate,a1,a2,a3⟩ (fun _ _ _ _=>dh _) ?_ ?_ fun fl ρ' af ⟨nm,h1,h2,h3⟩=>⟨_,h1,h3,fun F8 e=>(by rw [h2] at e;injection e with e;rw [e]),fun st e=>(by rw [h2] at e;cases e)⟩
 ·intro t y Gq ck hy q1
  refine au q1 fun st q1 I=>?_;apply aO q1
  refine aJ (se (n:=7) hy) fun ht q2=>?_;apply aO q2
  refine ⟨_,rfl,?_⟩
  refine W.loopE wa (cX (n:=ds.length) (bh (vs:=[.tup (ds.map aQ.v)]) rfl ((gK _).trans (by rw [List.length_map]))) (l1 0xc0000000000003b9aca00d010b00c890 rfl hd))
   (fun j ρ af=>∃ st,ρ=aT (lL ds bs σ.length (σ.length+2) ((t:Int)+1))∧Mt bs ds σ (gL ds t j) af st)
   (fun fl af=>∃ nm,fl=.ret (.str nm)∧ff bs ds=.error nm∧aM σ af) (a:=aT (lL ds bs σ.length (σ.length+2) ((t:Int)+1))) (aG ⟨rfl,rfl,rfl,rfl,rfl,trivial⟩)
   ⟨st,rfl,by rw [show gL ds t 0=uj ds t from by unfold gL;simp];exact I⟩ (fun _ _ _ _=>dh _) ?_ ?_ fun fl ρ' af ⟨nm,h1,h2,h3⟩=>.inr ⟨(by rw [h1];exact fun q=>nomatch q),nm,h1,h2,h3⟩
  ·intro j z Dx de hz q1
   refine au q1 fun st q1 I=>?_;apply aO q1
   refine aJ (cj hz) fun hj q2=>?_;apply aO q2
   have MW:=oX hj
   have ev:ab (ax P (d+2)) (.cmp .Eq (.idx (.idx (.var 0) (.var 5)) (.cst (.int 0))) (.var 4)) (cE (aT (lL ds bs σ.length (σ.length+2) ((t:Int)+1))) 5 (.int j)) de=some (.bool (decide (((br ds j).d:Int)=(t:Int)+1)),de) :=
    f4 (bS 0 _ _ (bS (j:Int) _ _ rfl rfl (Int.natCast_nonneg _) (ml hj)) rfl (by decide) rfl) rfl
   refine ⟨_,rfl,W.if_ ev (fun hp=>?_) fun hp=>?_⟩
   ·have tY:fN ds j=t+1:=MW.trans (Int.ofNat.inj hp)
    have HV:st.2[j]? = some []:=by
     rw [oW _ _ _ I.hf (An tY)]
     show (List.replicate ds.length ([]:List (Nat×Int)))[j]? = _
     rw [List.getElem?_replicate,if_pos hj]
    refine Aa (σ:=σ) (ds:=ds) (A:=σ.length) (B:=σ.length+2) (k:=j) (us:=st.2) (lf:=st.1) hM hN hb hj (zu _ (List.mem_of_getElem? (gj hj))) HV (A2 wa) ?_ (Nat.le_refl _) (l1 0xca2800 rfl) (fun q0=>l1 0xac080815ba2800 rfl q0) I.hl1 I.e1 I.e2 I.hK ?_ ?_
    ·rw [hp]
     exact aG ⟨rfl,rfl,rfl,rfl,rfl,rfl,trivial⟩
    ·intro cB ki Fo m1 g1 g2 hK2
     obtain ⟨Mc,ps⟩:=cB
     refine W.nil (W.nil (.inl ⟨rfl,aT (lL ds bs σ.length (σ.length+2) ((t:Int)+1)),?_,(Mc,st.2.set j ps),rfl,?_,m1,?_,g1,g2,hK2⟩))
     ·rw [hp]
      exact aG ⟨rfl,rfl,rfl,rfl,rfl,trivial⟩
     ·rw [Ao tY,fF I.hf,rm (st':=st) hj Fo]
     ·rw [List.length_set];exact I.hl2
    ·intro nm ρ' ki Fo hK2
     exact .inr ⟨(fun q=>nomatch q),nm,rfl,E6 ht hj tY I.hf (rl hj Fo),hK2⟩
   ·have tY:¬ fN ds j=t+1:=fun h=>hp (congrArg Int.ofNat (MW.symm.trans h))
    exact W.nil (W.nil (.inl ⟨rfl,aT (lL ds bs σ.length (σ.length+2) ((t:Int)+1)),aG ⟨rfl,rfl,rfl,rfl,rfl,trivial⟩,st,rfl,by rw [CO tY];exact I⟩))
  ·intro Dx de q1
   refine au q1 fun st q1 I=>?_;apply aO q1
   rw [cT] at I
   exact W.nil (.inl ⟨rfl,aT (cL ds bs σ.length (σ.length+2)),aG ⟨rfl,rfl,rfl,rfl,trivial⟩,st,rfl,by rw [xm];exact I⟩)
 ·intro Gq ck q1
  refine au q1 fun st q1 I=>?_;apply aO q1
  rw [show (bp 1 8 1).length=7 from sf 7] at I
  have hf:=I.hf
  refine W.retE rfl ⟨_,rfl,I.hK,fun nm e=>?_,fun st' e=>?_⟩
  ·rw [show ff bs ds=.ok st from hf] at e;cases e
  ·rw [show ff bs ds=.ok st from hf] at e;injection e with e;apply fQ e
   exact ⟨_,rfl,I.e2,I.hl2⟩
theorem fE {f:V→V→Option Bool}:∀ {l:List V},(∀ x∈l,f x x=some true)→ji f l l=some true
 | [],_=>rfl
 | x::l,h=>by
  show (f x x).bind (fun a=>(ji f l l).bind fun b=>some (a&&b))=_
  rw [h x List.mem_cons_self,fE fun y hy=>h y (List.mem_cons_of_mem _ hy)];rfl
theorem IU (us:List (List (Nat×Int))) (σ:ag):mK .Eq (.tup (us.map eC)) (.tup (us.map eC)) σ=some true:=by
 show ji (E3 5) (us.map eC) (us.map eC)=_
 refine fE fun x hx=>?_
 refine au (List.mem_map.mp hx) fun ps _ q3=>?_;apply fQ q3
 show ji (E3 4) (ps.map pV) (ps.map pV)=_
 refine fE fun x hx=>?_
 refine au (List.mem_map.mp hx) fun p _ q3=>?_;apply fQ q3
 show ji (E3 3) [.int p.1,.int p.2] [.int p.1,.int p.2]=_
 refine fE fun x hx=>?_
 simp only [List.mem_cons,List.not_mem_nil,or_false] at hx
 rcases hx with rfl | rfl
 ·show some ((p.1:Int)==p.1)=_
  rw [beq_self_eq_true]
 ·show some (p.2==p.2)=_
  rw [beq_self_eq_true]
noncomputable def tM (iC:Nat):aS:=⟨2,(.cons (.try_ (.cons (.ret (.call iC (.cons (.var 0) (.cons (.var 1) .nil))))
 .nil) 2 (.cons (.ite (.or (.isC 1 (.var 2)) (.or (.not (.isC 2 (.var 2))) (.not (.isC 3 (.var 2))))) (.cons (.ret (.cst .none))
 .nil) .nil)
 (.cons (.ret (.list (.cons (.word (.var 2)) .nil)))
 .nil)))
 .nil)⟩
structure GW (σ:ag) (c:Except Str uP) (v:V) (af:ag):Prop where
 keep:aM σ af
 bad:∀ nm,c=.error nm→∃ q,v=.ref q∧af[q]? = some (.lst [.str nm])
 ok:∀ st,c=.ok st→v=.tup (st.2.map eC)
theorem tJ {call:ar} {ρ:aF} {σ:ag} {i r c d e:Nat} (h:ρ i=some (.ref r)) (hr:σ[r]? = some (.exn c e)) (hc:(c==1||c==2)=true):ab call (.isC d (.var i)) ρ σ=some (.bool (n3 c d),σ):=by
 show a9 (ab call (.var i) ρ σ) (fun x σ₁=>(vC σ₁ d x).bind fun v=>some (v,σ₁))=_
 rw [bj h]
 show (vC σ d (.ref r)).bind _=_
 have e1:vC σ d (.ref r)=some (.bool (n3 c d)):=by
  show (σ[r]?).bind (fun m=>(Hf m).bind fun p=>some (V.bool (n3 p.1 d)))=_
  rw [hr]
  show (if (c==1||c==2)=true then some (c,e) else none).bind _=_
  rw [if_pos hc];rfl
 rw [e1];rfl
theorem B9 {call:ar} {ρ:aF} {σ:ag} {i r c e:Nat} {w:Str} (h:ρ i=some (.ref r)) (hr:σ[r]? = some (.exn c e)) (he:σ[e]? = some (.wd w)) (hc:(c==1||c==2)=true):ab call (.word (.var i)) ρ σ=some (.str w,σ):=by
 show a9 (ab call (.var i) ρ σ) (fun x σ₁=>(qG σ₁ x).bind fun v=>some (v,σ₁))=_
 rw [bj h]
 show (qG σ (.ref r)).bind _=_
 have e1:qG σ (.ref r)=some (.str w):=by
  show (σ[r]?).bind (fun m=>(Hf m).bind fun p=>(σ[p.2]?).bind fun m'=>(JW m').bind fun w=>some (V.str w))=_
  rw [hr]
  show (if (c==1||c==2)=true then some (c,e) else none).bind _=_
  rw [if_pos hc]
  show (σ[e]?).bind _=_
  rw [he];rfl
 rw [e1];rfl
theorem mQ {P:List aS} {k d iC iU iB:Nat} {σ:ag} (hk:P[k]? = some (tM iC)) (hC:P[iC]? = some (mo iU)) (hU:P[iU]? = some (o4 iB)) (hB:P[iB]? = some bz) (ds:List aQ) (bs:List aY) (hd:ds.length≤200) (hb:bs.length≤200) (zu:∀ x∈ds,x.ok) :
  ∃ v af,ax P (d+4) k [.tup (ds.map aQ.v),.tup (bs.map aY.v)] σ=some (.ok v,af)∧GW σ (ff bs ds) v af:=by
 refine dK (d:=d+3) hk (as:=[.tup (ds.map aQ.v),.tup (bs.map aY.v)]) rfl (R:=GW σ (ff bs ds)) ?_
 unfold tM
 refine fv (rh (d:=d) (σ:=σ) hC hU hB ds bs hd hb zu) fun r ck ec X=>?_
 cases hc:ff bs ds with
 | ok st =>
  rw [hc] at X
  rw [X.ok st rfl] at ec
  exact W.tryR (vs:=[.tup (ds.map aQ.v),.tup (bs.map aY.v)]) rfl ec ⟨_,rfl,X.keep,(fun nm e=>nomatch e),fun st' e=>(by injection e with e;rw [e])⟩
 | error nm =>
  rw [hc] at X
  rw [X.bad nm rfl] at ec
  have h1:(ck++[.wd nm,.exn 2 ck.length])[ck.length]? = some (.wd nm):=by rw [List.getElem?_append_right (Nat.le_refl _),Nat.sub_self];rfl
  have h2:(ck++[.wd nm,.exn 2 ck.length])[ck.length+1]? = some (.exn 2 ck.length):=by rw [List.getElem?_append_right (Nat.le_succ _),show ck.length+1 - ck.length=1 from (Nat.le_antisymm (l2 0xc18014ba181a10 rfl (sC (l1 0xca1800 rfl))) (l2 0xc11810ba01a180 rfl (sA _ _)))];rfl
  have h3:aM σ (ck++[.wd nm,.exn 2 ck.length]):=X.keep.trans (aM.app _ _)
  refine W.tryX (v:=.ref (ck++[aZ.wd nm,.exn 2 ck.length]).length) (vs:=[.tup (ds.map aQ.v),.tup (bs.map aY.v)]) rfl ec ?_
  generalize ck++[.wd nm,.exn 2 ck.length]=de at h1 h2 h3
  refine W.iteF de (aR (mR (tJ (c:=2) rfl h2 rfl) (mR (jy (b:=true) (tJ (c:=2) rfl h2 rfl)) (jy (b:=true) (tJ (c:=2) rfl h2 rfl))))) (W.nil ?_)
  refine W.retE (fR (vs:=[.str nm]) (aN (B9 (c:=2) rfl h2 h1 rfl)) (show 1≤an from by decide)) ⟨rfl,_,rfl,h3.trans (aM.app _ _),fun F8 e=>?_,fun st e=>nomatch e⟩
  injection e with e;apply aO e
  exact ⟨_,rfl,a8 _ _⟩
theorem xl {P:List aS} {k d iW:Nat} {σ:ag} (hk:P[k]? = some (m8 iW)) (hW:P[iW]? = some dL) (ns:List Int) (hn:ns.length≤1000):ax P (d+2) k [.tup (ns.map .int),.tup (ns.map .int)] σ=some (.ok (.bool true),σ):=by
 obtain ⟨v,af,h,rfl,rfl⟩:=dK (R:=fun v af=>v=.bool true∧af=σ) (σ:=σ) (d:=d+1) hk (as:=[.tup (ns.map .int),.tup (ns.map .int)]) rfl (by
  have el:∀ {ρ:aF} {i:Nat},ρ i=some (.tup (ns.map .int))→ab (ax P (d+1)) (.prim .len (.cons (.var i) .nil)) ρ σ=some (.int ns.length,σ):=fun h=>bh (vs:=[.tup (ns.map .int)]) (aN (bj h)) ((gK _).trans (by rw [List.length_map]))
  refine W.iteF σ (aR (mR (jy (b:=true) rfl) ?_)) (W.nil ?_)
  ·have:=pO (call:=ax P (d+1)) (ρ:=cz [.tup (ns.map .int),.tup (ns.map .int)]) (σ:=σ) (a:=.prim .len (.cons (.var 0) .nil)) (b:=.prim .len (.cons (.var 1) .nil)) (x:=ns.length) (y:=ns.length) (el rfl) (el rfl)
   rw [decide_eq_false (by simp)] at this
   exact this
  ·refine W.loop gQ (cX (n:=ns.length) (el rfl) (l1 0xc0000000000003b9aca00d010b03e890 rfl hn)) (fun j ρ af=>ρ=aT [some (.tup (ns.map .int)),some (.tup (ns.map .int))]∧σ=af) (a:=aT [some (.tup (ns.map .int)),some (.tup (ns.map .int))]) (aG ⟨rfl,rfl,trivial⟩) ⟨rfl,rfl⟩ (fun _ _ _ _=>dh _) ?_ ?_
   ·rintro j x _ af hx ⟨rfl,rfl⟩
    refine aJ (cj hx) fun bQ q2=>?_;apply aO q2
    refine ⟨_,rfl,?_⟩
    have e1:=bS (call:=ax P (d+1)) (a:=.var 0) (i:=.var 2) (ρ:=cE (aT [some (.tup (ns.map .int)),some (.tup (ns.map .int))]) 2 (.int j)) (σ:=σ) j _ _ rfl rfl (Int.natCast_nonneg _) (pZ bQ)
    have e2:=bS (call:=ax P (d+1)) (a:=.var 1) (i:=.var 2) (ρ:=cE (aT [some (.tup (ns.map .int)),some (.tup (ns.map .int))]) 2 (.int j)) (σ:=σ) j _ _ rfl rfl (Int.natCast_nonneg _) (pZ bQ)
    have e3:=pO e1 e2
    rw [decide_eq_false (by simp)] at e3
    exact W.iteF σ (aR (mR (jy (b:=true) (aw (aN e1) (uJ hW _))) e3)) (W.nil (W.nil ⟨rfl,aT [some (.tup (ns.map .int)),some (.tup (ns.map .int))],aG ⟨rfl,rfl,trivial⟩,rfl,rfl⟩))
   ·rintro _ _ ⟨rfl,rfl⟩
    exact W.retE rfl ⟨_,rfl,rfl,rfl⟩)
 exact h
noncomputable def zk (iN:Nat):aS:=⟨2,(.cons (.ite (.or (.not (.prim .isTuple (.cons (.var 0) .nil))) (.cmp .NotEq (.prim .len (.cons (.var 0) .nil)) (.prim .len (.cons (.var 1) .nil)))) (.cons (.ret (.cst (.bool false)))
 .nil) .nil)
 (.cons (.for_ (.one 2) (.rng1 (.prim .len (.cons (.var 1) .nil))) (.cons (.ite (.or (.not (.prim .isTuple (.cons (.idx (.var 0) (.var 2)) .nil))) (.cmp .NotEq (.prim .len (.cons (.idx (.var 0) (.var 2)) .nil)) (.prim .len (.cons (.idx (.var 1) (.var 2)) .nil)))) (.cons (.ret (.cst (.bool false)))
 .nil) .nil)
 (.cons (.for_ (.one 3) (.rng1 (.prim .len (.cons (.idx (.var 1) (.var 2)) .nil))) (.cons (.ite (.not (.call iN (.cons (.idx (.idx (.var 0) (.var 2)) (.var 3)) (.cons (.idx (.idx (.var 1) (.var 2)) (.var 3)) .nil)))) (.cons (.ret (.cst (.bool false)))
 .nil) .nil)
 .nil))
 .nil)))
 (.cons (.ret (.cst (.bool true)))
 .nil)))⟩
theorem IT {I:aF→ag→Prop}:Up fun fl ρ σ=>fl=.next∧∃ a,Le a ρ∧I a σ:=fun _ _ _ _ hl ⟨h1,c,h2,h3⟩=>⟨h1,c,h2.trans hl,h3⟩
theorem xq {P:List aS} {k d iN iW:Nat} {σ:ag} (hk:P[k]? = some (zk iN)) (hN:P[iN]? = some (m8 iW)) (hW:P[iW]? = some dL) (us:List (List (Nat×Int))) (hu:us.length≤1000) (hp:∀ ps∈us,ps.length≤10000) {r:Nat} (hr:σ[r]? = some (.lst (us.map eC))):ax P (d+3) k [.tup (us.map eC),.ref r] σ=some (.ok (.bool true),σ):=by
 obtain ⟨v,af,h,rfl,rfl⟩:=dK (R:=fun v af=>v=.bool true∧af=σ) (σ:=σ) (d:=d+2) hk (as:=[.tup (us.map eC),.ref r]) rfl (by
  unfold zk
  have el:∀ {ρ:aF},ρ 1=some (.ref r)→ab (ax P (d+2)) (.prim .len (.cons (.var 1) .nil)) ρ σ=some (.int us.length,σ):=fun h=>bh (vs:=[.ref r]) (aN (bj h)) ((vJ hr).trans (by rw [List.length_map]))
  refine W.iteF σ (aR (mR (jy (b:=true) rfl) ?_)) (W.nil ?_)
  ·have:=pO (call:=ax P (d+2)) (ρ:=cz [.tup (us.map eC),.ref r]) (σ:=σ) (a:=.prim .len (.cons (.var 0) .nil)) (b:=.prim .len (.cons (.var 1) .nil)) (x:=us.length) (y:=us.length) (bh (vs:=[.tup (us.map eC)]) rfl ((gK _).trans (by rw [List.length_map]))) (el rfl)
   rw [decide_eq_false (by simp)] at this
   exact this
  ·refine W.loop gQ (cX (n:=us.length) (el rfl) (l1 0xc0000000000003b9aca00d010b03e890 rfl hu)) (fun j ρ af=>ρ=aT [some (.tup (us.map eC)),some (.ref r)]∧σ=af) (a:=aT [some (.tup (us.map eC)),some (.ref r)]) (aG ⟨rfl,rfl,trivial⟩) ⟨rfl,rfl⟩ (fun _ _ _ _=>dh _) ?_ ?_
   ·rintro j x _ af hx ⟨rfl,rfl⟩
    refine aJ (cj hx) fun bQ q2=>?_;apply aO q2
    obtain ⟨ps,kl⟩:∃ ps,us[j]? = some ps:=⟨_,List.getElem?_eq_getElem bQ⟩
    have zy:=hp ps (List.mem_of_getElem? kl)
    have hg:(us.map eC)[((j:Nat):Int).toNat]? = some (eC ps):=by rw [Int.toNat_natCast,List.getElem?_map,kl];rfl
    have e0:∀ {ρ:aF},ρ 0=some (.tup (us.map eC))→ρ 2=some (.int j)→ab (ax P (d+2)) (.idx (.var 0) (.var 2)) ρ σ=some (eC ps,σ):=fun h0 h2=>bS (j:Int) _ _ (bj h0) (bj h2) (Int.natCast_nonneg _) hg
    have e1:∀ {ρ:aF},ρ 1=some (.ref r)→ρ 2=some (.int j)→ab (ax P (d+2)) (.idx (.var 1) (.var 2)) ρ σ=some (eC ps,σ):=fun h0 h2=>bR r (j:Int) _ _ (bj h0) (bj h2) hr (Int.natCast_nonneg _) hg
    have len:gM .len [eC ps] σ=some (.int ps.length,σ):=(gK _).trans (by rw [List.length_map])
    refine ⟨_,rfl,W.iteF σ (aR (mR (jy (b:=true) (bh (aN (e0 rfl rfl)) rfl)) ?_)) (W.nil ?_)⟩
    ·have:=pO (call:=ax P (d+2)) (ρ:=cE (aT [some (.tup (us.map eC)),some (.ref r)]) 2 (.int j)) (σ:=σ) (a:=.prim .len (.cons (.idx (.var 0) (.var 2)) .nil)) (b:=.prim .len (.cons (.idx (.var 1) (.var 2)) .nil)) (x:=ps.length) (y:=ps.length) (bh (aN (e0 rfl rfl)) len) (bh (aN (e1 rfl rfl)) len)
     rw [decide_eq_false (by simp)] at this
     exact this
    ·refine W.loop IT (cX (n:=ps.length) (bh (aN (e1 rfl rfl)) len) (l1 0xc0000000000003b9aca00d010b271090 rfl zy)) (fun i ρ af=>ρ=aT [some (.tup (us.map eC)),some (.ref r),some (.int j)]∧σ=af) (a:=aT [some (.tup (us.map eC)),some (.ref r),some (.int j)]) (aG ⟨rfl,rfl,rfl,trivial⟩) ⟨rfl,rfl⟩ (fun _ _ _ _=>dh _) ?_ ?_
     ·rintro i y _ af hy ⟨rfl,rfl⟩
      refine aJ (cj hy) fun hi q2=>?_;apply aO q2
      obtain ⟨p,O7⟩:∃ p,ps[i]? = some p:=⟨_,List.getElem?_eq_getElem hi⟩
      have MZ:(ps.map pV)[((i:Nat):Int).toNat]? = some (pV p):=by rw [Int.toNat_natCast,List.getElem?_map,O7];rfl
      have en:=xl (d:=d) (σ:=σ) hN hW [(p.1:Int),p.2] (show 2≤1000 from by decide)
      exact ⟨_,rfl,W.iteF σ (aR (jy (b:=true) (aw (vs:=[pV p,pV p]) (bK (bS (i:Int) _ _ (e0 rfl rfl) rfl (Int.natCast_nonneg _) MZ) (aN (bS (i:Int) _ _ (e1 rfl rfl) rfl (Int.natCast_nonneg _) MZ))) en))) (W.nil (W.nil ⟨rfl,aT [some (.tup (us.map eC)),some (.ref r),some (.int j)],aG ⟨rfl,rfl,rfl,trivial⟩,rfl,rfl⟩))⟩
     ·rintro _ af ⟨rfl,rfl⟩
      exact W.nil ⟨rfl,aT [some (.tup (us.map eC)),some (.ref r)],aG ⟨rfl,rfl,trivial⟩,rfl,rfl⟩
   ·rintro _ _ ⟨rfl,rfl⟩
    exact W.retE rfl ⟨_,rfl,rfl,rfl⟩)
 exact h
theorem vP {bs:List aY} {dy:Int} (hb:bs.length≤200):∀ (l:List (Str×Int)) (st st':List Int×List (Nat×Int)),bD (oE bs dy) st l=.ok st'→st.1.length=bs.length→st'.1.length=bs.length∧st'.2.length≤st.2.length+200 * l.length
 | [],st,st',h,hl=>by injection h with h;apply fQ h;exact ⟨hl,by exact l2 0xca100 rfl⟩
 | p::l,st,st',h,hl=>by
  unfold bD at h
  cases hd:oE bs dy st p with
  | error e=>rw [hd] at h;cases h
  | ok b =>
   rw [hd] at h
   refine aJ (ug hb hd hl) fun h1 h2=>?_
   refine aJ (vP hb l b st' h h1) fun h3 h4=>?_
   refine ⟨h3,?_⟩
   rw [List.length_cons];lia
theorem mP {bs:List aY} {ds:List aQ} (hb:bs.length≤200) (zu:∀ x∈ds,x.ok):∀ (l:List Nat) (st st':uP),bD (fD bs ds) st l=.ok st'→st.1.length=bs.length→(∀ ps∈st.2,ps.length≤4000)→∀ ps∈st'.2,ps.length≤4000
 | [],st,st',h,hl,hp=>by injection h with h;apply fQ h;exact hp
 | k::l,st,st',h,hl,hp=>by
  unfold bD at h
  cases hd:fD bs ds st k with
  | error e=>rw [hd] at h;cases h
  | ok b =>
   rw [hd] at h
   unfold fD at hd
   cases e:ds[k]? with
   | none=>rw [e] at hd;injection hd with hd;subst hd;exact mP hb zu l st st' h hl hp
   | some x =>
    rw [e] at hd
    dsimp only at hd
    cases hf:bD (oE bs x.d) (st.1,[]) x.ns with
    | error e'=>rw [hf] at hd;cases hd
    | ok p =>
     rw [hf] at hd
     injection hd with hd
     subst hd
     refine aJ (vP hb _ _ _ hf hl) fun h1 h2=>?_
     have hx:=(zu x (List.mem_of_getElem? e)).2.2
     refine mP hb zu l _ st' h h1 fun ps kl=>?_
     refine Or.elim (List.mem_or_eq_of_mem_set kl) (fun q=>?_) (fun q=>?_)
     ·exact hp ps q
     ·apply aO q;dsimp only [List.length_nil] at h2;lia
theorem law08 (ns:List Int) (hn:ns.length≤63):∀ σ,∃ af,ax P08 20 22 [.ro ns] σ=some (.ok (.bool true),af):=fun σ=>by
 have cZ:an=16777216:=rfl
 have p0:P08[0]? = some bz:=rfl
 have p1:P08[1]? = some (o4 0):=rfl
 have p2:P08[2]? = some (mo 1):=rfl
 have p3:P08[3]? = some iw:=rfl
 have p4:P08[4]? = some bX:=rfl
 have p5:P08[5]? = some fj:=rfl
 have p6:P08[6]? = some dL:=rfl
 have p7:P08[7]? = some (m8 6):=rfl
 have p8:P08[8]? = some cq:=rfl
 have p9:P08[9]? = some dq:=rfl
 have PN:P08[10]? = some f8:=rfl
 have PO:P08[11]? = some (vi 5 4 9 8):=rfl
 have PP:P08[12]? = some (vj 5 4 8 9 10):=rfl
 have PQ:P08[15]? = some (zj 4):=rfl
 have Nn:P08[16]? = some jj:=rfl
 have PR:P08[17]? = some ch:=rfl
 have PS:P08[18]? = some (zi 17):=rfl
 have PT:P08[19]? = some (Kf 18):=rfl
 have No:P08[20]? = some (tM 2):=rfl
 have PU:P08[21]? = some (zk 7):=rfl
 have PV:P08[22]? = some pT:=rfl
 obtain ⟨v,af,h,rfl⟩:=dK (R:=fun v af=>v=.bool true) (σ:=σ) (d:=19) PV (as:=[.ro ns]) rfl (by
  unfold pT
  generalize gb:iG 1 ns=cs
  have e1:=ue (d:=18) (σ:=σ) p3 ns hn
  rw [gb] at e1
  refine W.set (v:=.ref σ.length) (aw (vs:=[.ro ns]) rfl e1) ?_
  have h0:=a8 σ (.lst (cs.map .int))
  generalize σ++[.lst (cs.map .int)]=yh at h0
  generalize σ.length=r0 at h0
  refine MH (uf (d:=17) PQ p4 h0) fun q bZ m ck e2 hq k1 tX hm=>?_
  refine W.set (aw (vs:=[.ref r0]) rfl e2) ?_
  have h1:=k1 _ _ h0
  refine W.set (aw (vs:=[.ref r0,.int 2]) rfl (ju (d:=18) p4 h1 2 (by decide) rfl)) ?_
  generalize cellF cs 2=c
  refine au (pa (d:=18) (σ:=ck) Nn c 5 60 (by decide)) fun n1 e3 qN=>?_
  refine Gx (rn (d:=17) PO p5 p4 p9 p8 h1 hq tX hm n1 (l1 0xc00c89010b003c90 rfl qN)) fun ds de e4 k2 D3 Ch=>?_
  refine W.set (aw (vs:=[.ref r0,.ref q,.int n1]) (bK rfl (bK rfl (aN (aw (vs:=[.int c,.int 5,.int 60]) rfl e3)))) e4) ?_
  refine au (pa (d:=18) (σ:=de) Nn (c.fdiv 1500) 8 120 (by decide)) fun n2 e5 vq=>?_
  refine Gx (rO (d:=17) PP p5 p4 p8 p9 PN (k2 _ _ h1) (k2 _ _ hq) tX hm n2 (l1 0xc00c89010b007890 rfl vq)) fun bs ki e6 k3 Jf hbok=>?_
  refine W.set (aw (vs:=[.ref r0,.ref q,.int n2]) (bK rfl (bK rfl (aN (aw (vs:=[.int (c.fdiv 1500),.int 8,.int 120]) rfl e5)))) e6) ?_
  have M6:=k3 _ _ (k2 _ _ hq)
  -- the az,from any larder
  have l7:∀ (bs:List aY) (ρ:aF) (σ:ag),bs.length≤200→Le (aT [none,none,none,none,some (.tup (ds.map aQ.v)),some (.tup (bs.map aY.v))]) ρ →
    W (ax P08 19) (.cons (.assign (.one 7) (.call 19 (.cons (.var 4) (.cons (.var 5) .nil))))
     (.cons (.assign (.one 8) (.call 20 (.cons (.var 4) (.cons (.var 5) .nil))))
     (.cons (.ite (.prim .isStr (.cons (.var 7) .nil)) (.cons (.ret (.and (.cmp .Eq (.var 8) (.list (.cons (.var 7) .nil))) (.prim .isStr (.cons (.idx (.var 8) (.cst (.int 0))) .nil))))
     .nil) .nil)
     (.cons (.ret (.and (.call 21 (.cons (.var 8) (.cons (.var 7) .nil))) (.cmp .Eq (.call 20 (.cons (.var 4) (.cons (.var 5) .nil))) (.var 8))))
     .nil)))) ρ σ fun fl _ af=>∃ v,fl=.ret v∧v=.bool true:=fun bs ρ σ hb hl=>by
   refine W.le gQ hl ?_
   refine fv (qk (d:=16) (σ:=σ) PT PS PR ds bs (l2 0xc00c89110b003c9014b01 rfl qN D3) hb Ch) fun v Gs e7 X=>?_
   refine W.set (aw (vs:=[.tup (ds.map aQ.v),.tup (bs.map aY.v)]) rfl e7) ?_
   refine fv (mQ (d:=15) (σ:=Gs) No p2 p1 p0 ds bs (l2 0xc00c89110b003c9014b01 rfl qN D3) hb Ch) fun u qJ e8 Y=>?_
   refine W.set (aw (vs:=[.tup (ds.map aQ.v),.tup (bs.map aY.v)]) rfl e8) ?_
   cases hc:ff bs ds with
   | error nm =>
    rw [hc] at X Y
    apply aO (X.bad nm rfl)
    refine au (Y.bad nm rfl) fun w q2 hw=>?_;apply aO q2
    refine W.iteT qJ rfl (W.retE (v:=.bool true) (σ₁:=qJ++[.lst [.str nm]]) ?_ ⟨_,rfl,rfl⟩)
    have Jp:=aM.app qJ [.lst [.str nm]] _ _ hw
    refine pN (dg (c:=true) (bj (v:=.ref w) rfl) (fR (vs:=[.str nm]) rfl (show 1≤an from by decide)) ?_) (bh (aN (bR w 0 _ _ rfl rfl Jp (by decide) rfl)) rfl)
    show (lst (qJ++[.lst [.str nm]]) w).bind (fun x=>DX (qJ++[.lst [.str nm]]) x (.ref qJ.length))=_
    rw [dQ Jp]
    show (lst (qJ++[.lst [.str nm]]) qJ.length).bind _=_
    rw [dQ (a8 _ _)]
    show E5 [V.str nm] [V.str nm]=some true
    refine fE fun x hx=>?_
    apply aO (List.mem_singleton.mp hx)
    show some (nm==nm)=_
    rw [beq_self_eq_true]
   | ok st =>
    rw [hc] at X Y
    refine fL (X.ok st rfl) fun w q2 hw qf=>?_;apply aO q2
    apply aO (Y.ok st rfl)
    refine fv (mQ (d:=15) (σ:=qJ) No p2 p1 p0 ds bs (l2 0xc00c89110b003c9014b01 rfl qN D3) hb Ch) fun u P6 e9 Z=>?_
    rw [hc] at Z
    obtain rfl:=Z.ok st rfl
    refine W.iteF qJ ?_ (W.nil (W.retE (v:=.bool true) (σ₁:=P6) ?_ ⟨_,rfl,rfl⟩))
    ·have e:gM .isStr [.ref w] qJ=some (.bool false,qJ):=by
      show (vF qJ (.ref w)).bind _=_
      have:vF qJ (.ref w)=some .lst:=by
       show (lst qJ w).bind (fun _=>some ls.lst)=_
       rw [dQ (Y.keep _ _ hw)];rfl
      rw [this];rfl
     exact aR (bh (vs:=[.ref w]) rfl e)
    ·have hlen:∀ ps∈st.2,ps.length≤4000:=mP hb Ch _ _ _ hc (List.length_map _) fun ps kl=>by rw [(List.mem_replicate.mp kl).2];exact Nat.zero_le _
     have J8:=xq (d:=16) (σ:=qJ) PU p7 p6 st.2 (l3 0xc03e89210b003c9014b0114b12 rfl qN D3 qf) (fun ps kl=>Nat.le_trans (hlen ps kl) (by decide)) (Y.keep _ _ hw)
     exact pN (aw (vs:=[.tup (st.2.map eC),.ref w]) rfl J8) (dg (aw (vs:=[.tup (ds.map aQ.v),.tup (bs.map aY.v)]) rfl e9) rfl (IU _ _))
  refine W.if_ (p:=(c.fdiv 60000).fmod 3=1) (σ₁:=ki) (f4 rfl rfl) (fun _=>?_) fun _=>W.nil (l7 bs _ _ (l2 0xc00c89110b00789014b01 rfl vq Jf) (aG ⟨rfl,rfl,trivial⟩))
  refine W.loop (A2 gQ) (cX (n:=m) (bR q 1 _ _ rfl rfl M6 (by decide) rfl) (l1 0xc0000000000003b9aca00d010bc80 rfl hm))
   (fun j ρ af=>∃ u2:List aY,j≤m∧ρ=aT [none,none,some (.ref q),none,some (.tup (ds.map aQ.v)),some (.tup (u2.map aY.v))]∧aM ki af∧u2.length=n2+j)
   (a:=aT [none,none,some (.ref q),none,some (.tup (ds.map aQ.v)),some (.tup (bs.map aY.v))]) (aG ⟨rfl,rfl,rfl,trivial⟩) ⟨bs,Nat.zero_le _,rfl,aM.refl _,Jf⟩ (fun _ _ _ _=>dh _) ?_ ?_
  ·rintro j x _ Gs hx ⟨u2,hj,rfl,hK,hb'⟩
   refine aJ (cj hx) fun bQ q2=>?_;apply aO q2
   refine kF (pd (d:=18) (σ:=Gs) p8 bZ j (l2 0x1c00649110bc8011b01 rfl hm bQ)) fun nm qJ e7 k5 yq=>?_
   have ht:(u2.map aY.v++[V.tup [.str nm,.int 200,.int (7+(j:Int))]]).length≤an:=by rw [List.length_append,List.length_map];show u2.length+1≤_;exact l5 0xc0a18315b00000000000001000000d010bc8110b00789214ba42311b14 rfl cZ hm vq hb' bQ
   refine ⟨_,rfl,W.set (v:=.tup ((u2++[(⟨nm,200,7+(j:Int)⟩:aY)]).map aY.v)) (σ₁:=qJ) ?_ (W.nil ⟨rfl,aT [none,none,some (.ref q),none,some (.tup (ds.map aQ.v)),some (.tup ((u2++[(⟨nm,200,7+(j:Int)⟩:aY)]).map aY.v))],aG ⟨rfl,rfl,rfl,trivial⟩,_,bQ,rfl,hK.trans k5,by rw [List.length_append,hb'];rfl⟩)⟩
   have en:ab (ax P08 19) (.call 8 (.cons (.idx (.var 2) (.cst (.int 0))) (.cons (.var 6) .nil))) (cE (aT [none,none,some (.ref q),none,some (.tup (ds.map aQ.v)),some (.tup (u2.map aY.v))]) 6 (.int j)) Gs=some (.str nm,qJ) :=
    aw (vs:=[.int bZ,.int j]) (bK (bR q 0 _ _ rfl rfl (hK _ _ M6) (by decide) rfl) (aN rfl)) e7
   refine a6 (bj rfl) (io (vs:=[V.tup [.str nm,.int 200,.int (7+(j:Int))]]) (aN (io (vs:=[.str nm,.int 200,.int (7+(j:Int))]) (bK en rfl) (show 3≤an from by decide))) (show 1≤an from by decide)) ((qS ht).trans ?_)
   rw [List.map_append];rfl
  ·rintro _ Gs ⟨u2,hj,rfl,hK,hb'⟩
   rw [cT] at hb'
   exact W.nil (l7 u2 _ _ (l3 0xc00c89210bc8010b00789114ba012 rfl hm vq hb') (aG ⟨rfl,rfl,trivial⟩)))
 exact ⟨af,h⟩
end Lar
namespace Lar
open PySem PySem.W PyProof.Rows
noncomputable def qv:Program:=view PySem.Challenge.pw_uf060007_08 [1,2,3,5,6,7,9,10,11,12,13,14,15,16,17,18,19,20,21,22,23,24,25,26,27,28]
set_option maxRecDepth 100000 in
theorem q_said:PySem.Challenge.rw_uf060007_08.wellSaid=true:=(congrFun PySem.W.Fast.te9446332074065402090 _).trans (by decide +kernel)
set_option maxRecDepth 100000 in
theorem q_open:opening PySem.Challenge.pw_uf060007_08=plainProg PySem.Challenge.pw_uf060007_08.main.scope.names:=by kernel_rfl
theorem q_fence:∀ s,fenceModules? PySem.Challenge.pw_uf060007_08 s=some s:=fun s=>by kernel_rfl
set_option maxRecDepth 100000 in
theorem q_left:LeftO PySem.Challenge.pw_uf060007_08 qv [] (fun s=>xlAt qv [] s&&recOk (RowW.records (OpenRow.toRowW PySem.Challenge.rw_uf060007_08.row)) s&&Nt qv s) (Hook.obs Hook.none) (Hook.val Hook.none) 6000 :=
 CD q_open rfl q_fence fun w os=>Gp.trans (by kernel_rfl)
end Lar
open PySem PySem.W PyProof.Rows
set_option tactic.hygienic true in
set_option maxRecDepth 100000 in
set_option maxHeartbeats 8000000 in
theorem PySem.Challenge.cw_uf060007_08_holds : PySem.Challenge.rw_uf060007_08.Holds := by
 w_on
 refine holds_law Lar.q_said fun Ml=>?_
 refine holds_open (q:=Lar.qv) (loose:=[]) (Xt:=fun s=>xlAt Lar.qv [] s&&recOk (RowW.records (OpenRow.toRowW PySem.Challenge.rw_uf060007_08.row)) s&&Lar.Nt Lar.qv s) (XP:=Lar.XE Lar.qv) (Yf:=Hook.obs Hook.none) (Ya:=Hook.val Hook.none) (YP:=Hook.says Hook.none) (N:=6000) Lar.q_left (Hook.of Hook.none) (Hook.keeps Hook.none) (fun s e=>Lar.Nu (Bool.and_eq_true_iff.mp e).2) (fun mg h h' x hk=>Lar.XE.keeps x hk) (d:=?d) (kwd:=?kwd) ?h1 ?h2 ?h3 (fun s e=>recFacts_of (Bool.and_eq_true_iff.mp (Bool.and_eq_true_iff.mp e).1).2) (by rfl) Ml (by decide +kernel) ⟨rfl,rfl,rfl,rfl,rfl,by decide +kernel⟩ ?hw ?hc
 case h1=>rfl
 case h2=>rfl
 case h3=>rfl
 (case hw=>w_witness2)
 intro w s₀ s₁ mg mb G Y fa o pm cd doc dV kV ho hd kL hD Lb hg args cF as Ll K9 O9 Pg OX
 wrow_args Ll K9 O9 Pg OX
 rename_i ns _ _ _ _ _ _ _ a vs _ _ _ _ _ hI _ hlen _
 have FH:=Lar.law08 ns (by omega)
 refine Lar.law_run G.T G.X (by decide +kernel) Lar.consts08 [] (by decide +kernel) (by decide +kernel) (P:=Lar.P08) ?_ (fun _ hk=>nomatch hk) (k:=22) (name := "law") (by kernel_rfl) Lb (by assumption) (by have:Lar.an=16777216:=rfl;omega) hI (d:=20) (by omega) FH ?_
 ·kernel_rfl
 ·intro s' hk KT O4
  exact ⟨.inl ⟨.bool true,.bool true,[],rfl,fun _=>rfl,.bool true,by wrow_post,fun _=>⟨List.nodup_nil,fun _ h=>nomatch h⟩⟩,hk,O4,.of_eq (KT.trans hg)⟩
