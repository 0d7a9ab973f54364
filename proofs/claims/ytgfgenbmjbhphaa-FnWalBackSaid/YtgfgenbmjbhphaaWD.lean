/- Walks of Go functions by value:the library,part 4 of 4. -/
import Derived.Test.YtgfgenbmjbhphaaWC
import Derived.ChangeKeysEq
import Derived.KernelRfl
import Derived.IntWalk
import Derived.Carry
import Derived.WalkKit
import Derived.ProofKit
import Derived.OpenShut
import Derived.SizedLaws
namespace Go.Proofs.Ytgfgenbmjbhphaa.Bv
set_option linter.unusedVariables false
set_option linter.unusedSimpArgs false
def dstsIn (nt:Nat):List Oper→Bool
 | []=>true
 | o::l=>(match o.dst with | some d=>decide (d<nt) | none=>true)&&dstsIn nt l
variable {P:Program} {base:World} {M0:Mem} {ios:Ios} {σ:Sg} {M:Mem} {w:World} {a:Act} {st:St} {tab:Tab} {Γ:Gam} {Q:Exit→Act→World→Prop}
theorem dstsIn_spec {nt:Nat}:∀{l:List Oper},dstsIn nt l=true→∀o∈l,∀d,o.dst=some d→d<nt
 | [],_,o,ho,_,_=>by cases ho
 | o::l,h,o',ho',d,hd=>by
   simp only [dstsIn,Bool.and_eq_true] at h
   rcases List.mem_cons.1 ho' with e | e
   · subst e;rw [hd] at h;simpa using h.1
   · exact dstsIn_spec h.2 o' e d hd
theorem want_sound {ops:Array Oper} {o:Oper} {c:Bool} (hS:Sim P base M0 ios σ M w a st) (h:want ops.toList o st=some c):Region.wanted o (yielded ops a.tmps)=c:=by
 unfold want at h
 cases hg:o.guard with
 | none=>rw [hg] at h;cases h;simp [Region.wanted,hg]
 | some g=>
   obtain⟨j,wn⟩:=g
   rw [hg] at h
   simp only at h
   cases hj:guardDst ops.toList j with
   | none=>rw [hj] at h;cases h
   | some d=>
     rw [hj] at h
     simp only at h
     split at h
     · rename_i b hb
       cases h
       simp only [Region.wanted,hg,yielded_at hj (hS.boolAt hb)]
       cases b<;>cases wn<;>rfl
     · rename_i hb
       cases h
       have hs:=hS.slots d
       rw [hb] at hs
       obtain⟨vs,hv,h2⟩:=hs
       have hvs:vs=#[]:=by
        have:vs.toList=[]:=by
         cases hl:vs.toList with
         | nil=>rfl
         | cons x l=>rw [hl] at h2;cases h2
        simpa using this
       rw [hvs] at hv
       simp only [Region.wanted,hg,yielded_und hj hv]
       rfl
     · cases h
theorem mixI_nt {L:Nat→Bool}:∀{l:List (Oper×Option Eff)} {k:Nat} {s:St},(mixI L k l s).nt=s.nt
 | [],_,_=>rfl
 | (o,x)::l,k,s=>by
   simp only [mixI,mixI_nt (l:=l)]
   cases L k
   · rfl
   · exact applyO_nt _ _ _
theorem mixI_none {L:Nat→Bool}:∀{l:List (Oper×Option Eff)} {k:Nat} {s:St},(∀i,k≤i→L i=false)→mixI L k l s=s
 | [],_,_,_=>rfl
 | (o,x)::l,k,s,h=>by
   simp only [mixI,h k (Nat.le_refl _),cond_false]
   exact mixI_none fun i hi=>h i (by omega)
theorem runAll_take:∀{l:List (Oper×Option Eff)} {j k:Nat} {s:St},runAll (l.take j) s=mixI (fun i=>decide (i<k+j)) k l s
 | [],j,k,s=>by simp [runAll,mixI]
 | (o,x)::l,0,k,s=>by
   rw [mixI_none (fun i hi=>by simp;omega)]
   rfl
 | (o,x)::l,j+1,k,s=>by
   rw [List.take_succ_cons,runAll_cons]
   simp only [mixI,show decide (k<k+(j+1))=true by simp,cond_true]
   rw [runAll_take (k:=k+1)]
   congr 1
   funext i
   rw [show k+1+j=k+(j+1) by omega]
theorem count_lt {p q:Nat→Bool}:∀{l:List Nat},(∀x,q x=true→p x=true)→(∃x∈l,p x=true∧q x=false)→l.countP q<l.countP p
 | [],_,⟨x,hx,_⟩=>by cases hx
 | y::l,h,⟨x,hx,hp,hq⟩=>by
   have hle:l.countP q≤l.countP p:=List.countP_mono_left fun z _=>h z
   rcases List.mem_cons.1 hx with e | hx
   · subst e
     rw [List.countP_cons_of_pos hp,List.countP_cons_of_neg (by simp [hq])]
     omega
   · have ih:=count_lt h ⟨x,hx,hp,hq⟩
     by_cases hy:p y=true
     · rw [List.countP_cons_of_pos hy]
       by_cases hy':q y=true
       · rw [List.countP_cons_of_pos hy'];omega
       · rw [List.countP_cons_of_neg hy'];omega
     · rw [List.countP_cons_of_neg hy,List.countP_cons_of_neg (fun e=>hy (h y e))]
       exact ih
def unl (n:Nat) (listed:Array Bool):Nat:=(List.range n).countP fun i=>!listed.getD i false
theorem getD_lt {listed:Array Bool} {i:Nat} (h:i<listed.size) (b c:Bool):listed.getD i b=listed.getD i c:=by
 rw [Array.getD_eq_getD_getElem?,Array.getD_eq_getD_getElem?,Array.getElem?_eq_getElem h];rfl
theorem set_getD {listed:Array Bool} {i:Nat} (h:i<listed.size) (j:Nat):(listed.setIfInBounds i true).getD j false=(listed.getD j false||j==i):=by
 by_cases hj:i=j
 · subst hj
   have:(listed.setIfInBounds i true).getD i false=true:=by
    rw [Array.getD_eq_getD_getElem?,Array.getElem?_setIfInBounds_self_of_lt h];rfl
   rw [this];simp
 · rw [getD_set_ne false hj]
   have:(j==i)=false:=by simp [Ne.symm hj]
   rw [this,Bool.or_false]
theorem ready_facts {ops:Array Oper} {outs:List (Option Eff)} {st0:St} (hlen:outs.length=ops.toList.length) (hok:mixOk ops.toList outs st0=true) {listed:Array Bool} (hsz:listed.size=ops.size)
 (hcl:∀j,listed.getD j false=true→∀i,((masks ops.toList []).getD j 0).testBit i=true→listed.getD i false=true) {i:Nat} {o:Oper} {x:Option Eff}
 (hli:listed.getD i false=false) (hed:∀e∈o.after,Region.binds .any e=true→listed.getD e.on false=true) (hx:(ops.toList.zip outs)[i]?=some (o,x)):
 (∀k,((masks ops.toList []).getD i 0).testBit k=true→listed.getD k false=true)∧
 (∀k o' x',(ops.toList.zip outs)[k]?=some (o',x')→k≠i→((k<i∧listed.getD k false=false)∨(i<k∧listed.getD k false=true))→Clear (lookS ops.toList o) (lookB (runAll ((ops.toList.zip outs).take i) st0) o) (lookRo (ops.toList.zip outs) st0 (runAll ((ops.toList.zip outs).take i) st0) o) o' x'∧Apart o x o' x')∧
 Agree (lookS ops.toList o) (lookB (runAll ((ops.toList.zip outs).take i) st0) o) (lookRo (ops.toList.zip outs) st0 (runAll ((ops.toList.zip outs).take i) st0) o) (runAll ((ops.toList.zip outs).take i) st0) (mixI (fun j=>listed.getD j false) 0 (ops.toList.zip outs) st0)∧
 (∀k,listed.getD k false=true→((masks ops.toList []).getD k 0).testBit i=false)∧
 (∀e,x=some e→freshEff e o.dst (mixI (fun k=>!(k==i||((masks ops.toList []).getD k 0).testBit i)) 0 (dropAll (ops.toList.zip outs)) st0)=true):=by
 have one:=fun (j:Nat) (o:Oper) (x:Option Eff) (hj:(ops.toList.zip outs)[j]?=some (o,x))=>by
  have:=allOk_spec (k:=0) hok j o x hj
  rw [Nat.zero_add] at this
  exact this
 have h1:=one i o x hx
 simp only [oneOk,Bool.and_eq_true,beq_iff_eq,decide_eq_true_eq] at h1
 obtain⟨⟨⟨⟨hback,hms⟩,hml⟩,hpair⟩,hfresh⟩:=h1
 have hanc:∀k,((masks ops.toList []).getD i 0).testBit k=true→listed.getD k false=true:=by
  intro k hk
  rw [hms] at hk
  obtain⟨e,he,hb,h3⟩:=ancM_bit hk
  have hon:=hed e (by simpa using he) hb
  rcases h3 with h3 | h3
  · rw [←h3];exact hon
  · exact hcl _ hon k h3
 have hbits:∀k o' x',(ops.toList.zip outs)[k]?=some (o',x')→∀m,k≤m→((masks ops.toList []).getD k 0).testBit m=false:=by
  intro k o' x' hk m hm
  have h2:=one k o' x' hk
  simp only [oneOk,Bool.and_eq_true,decide_eq_true_eq] at h2
  exact Nat.testBit_lt_two_pow (Nat.lt_of_lt_of_le h2.1.1.2 (Nat.pow_le_pow_right (by omega) hm))
 have clear:∀k o' x',(ops.toList.zip outs)[k]?=some (o',x')→k≠i→((k<i∧listed.getD k false=false)∨(i<k∧listed.getD k false=true))→Clear (lookS ops.toList o) (lookB (runAll ((ops.toList.zip outs).take i) st0) o) (lookRo (ops.toList.zip outs) st0 (runAll ((ops.toList.zip outs).take i) st0) o) o' x'∧Apart o x o' x':=by
  intro k o' x' hk hne hc
  refine pairOk_spec hpair k (List.getElem?_eq_some_iff.1 hk).1 hne ?_ ?_ o' x' hk
  · rcases hc with⟨_,h2⟩ | ⟨h2,_⟩
    · cases hb:((masks ops.toList []).getD i 0).testBit k with
      | false=>rfl
      | true=>rw [hanc k hb] at h2;cases h2
    · exact hbits i o x hx k (by omega)
  · rcases hc with⟨h2,_⟩ | ⟨_,h2⟩
    · exact hbits k o' x' hk i (by omega)
    · cases hb:((masks ops.toList []).getD k 0).testBit i with
      | false=>rfl
      | true=>have:=hcl k h2 i hb;rw [hli] at this;cases this
 refine⟨hanc,clear,?_,?_,fun e he=>by subst he;exact hfresh⟩
 · have e0:=runAll_take (l:=ops.toList.zip outs) (j:=i) (k:=0) (s:=st0)
   refine Agree.trans (s':=mixI (fun k=>decide (k<0+i)) 0 (ops.toList.zip outs) st0) (by rw [←e0];exact⟨fun _ _=>rfl,fun _ _=>rfl,fun _ _=>rfl⟩) ?_
   refine mix_agree (fun k o' x' hk hne=>?_) ⟨fun _ _=>rfl,fun _ _=>rfl,fun _ _=>rfl⟩
   simp only [Nat.zero_add] at hne
   have hki:k≠i:=by intro e;subst e;rw [hli] at hne;simp at hne
   refine (clear k o' x' hk hki ?_).1
   by_cases hlt2:k<i
   · left;refine⟨hlt2,?_⟩
     cases h4:listed.getD k false with
     | false=>rfl
     | true=>rw [h4] at hne;simp [hlt2] at hne
   · right;refine⟨by omega,?_⟩
     cases h4:listed.getD k false with
     | true=>rfl
     | false=>rw [h4] at hne;simp [hlt2] at hne
 · intro k hk
   cases hkb:((masks ops.toList []).getD k 0).testBit i with
   | false=>rfl
   | true=>have:=hcl k hk i hkb;rw [hli] at this;cases this
theorem drawn_gen (hT:TabOk P tab) (hΓ:GamOk P Γ) {ops:Array Oper} {outs:List (Option Eff)} {st0:St} (past:Nat→Prop) (stop:Nat) (hdst:dstsIn st0.nt ops.toList=true) (hlen:outs.length=ops.toList.length) (hok:mixOk ops.toList outs st0=true)
 (hlate:∀j,stop<j→j<ops.size→((masks ops.toList []).getD j 0).testBit stop=true)
 (hgood:∀j o x,¬past j→j<stop→(ops.toList.zip outs)[j]?=some (o,x)→Good tab Γ ops.toList (runAll ((ops.toList.zip outs).take j) st0) o x)
 (hq:ops.size≤stop→∀σ M w a,Sim P base M0 ios σ M w a (runAll (ops.toList.zip outs) st0)→Q .normal a w)
 (hst:∀(fuel:Nat) (listed:Array Bool) (σ:Sg) (M:Mem) (w:World) (a:Act) (o:Oper),listed.size=ops.size→unl ops.size listed≤fuel+1→
   (∀j,listed.getD j false=true→∀i,((masks ops.toList []).getD j 0).testBit i=true→listed.getD i false=true)→(∀j,stop≤j→listed.getD j false=false)→
   ops[stop]?=some o→(∀e∈o.after,Region.binds .any e=true→listed.getD e.on false=true)→Sim P base M0 ios σ M w a (mixI (fun j=>listed.getD j false) 0 (ops.toList.zip outs) st0)→
   wpOp P ops Q stop (wpAny P .any ops Q fuel (listed.setIfInBounds stop true)) a w):
 ∀(fuel:Nat) (listed:Array Bool) (σ:Sg) (M:Mem) (w:World) (a:Act),listed.size=ops.size→unl ops.size listed≤fuel→
  (∀j,listed.getD j false=true→∀i,((masks ops.toList []).getD j 0).testBit i=true→listed.getD i false=true)→(∀j,past j→listed.getD j false=true)→(∀j,stop≤j→listed.getD j false=false)→
  Sim P base M0 ios σ M w a (mixI (fun j=>listed.getD j false) 0 (ops.toList.zip outs) st0)→wpAny P .any ops Q fuel listed a w:=by
 have zlen:(ops.toList.zip outs).length=ops.size:=by simp [List.length_zip,hlen]
 have done:∀(listed:Array Bool) (σ:Sg) (M:Mem) (w:World) (a:Act),(∀j,j<ops.size→listed.getD j false=true)→(∀j,stop≤j→listed.getD j false=false)→Sim P base M0 ios σ M w a (mixI (fun j=>listed.getD j false) 0 (ops.toList.zip outs) st0)→Q .normal a w:=by
  intro listed σ M w a hall hsp hS
  refine hq (Nat.le_of_not_lt fun hlt=>by have:=hall stop hlt;rw [hsp stop (Nat.le_refl _)] at this;cases this) σ M w a ?_
  unfold runAll
  rw [mixI_cong (L:=fun _=>true) (L':=fun j=>listed.getD j false) _ (fun i hi=>by rw [Nat.zero_add];exact (hall i (by omega)).symm)]
  exact hS
 have one:=fun (j:Nat) (o:Oper) (x:Option Eff) (hj:(ops.toList.zip outs)[j]?=some (o,x))=>by
  have:=allOk_spec (k:=0) hok j o x hj
  rw [Nat.zero_add] at this
  exact this
 have nothing:∀(listed:Array Bool),listed.size=ops.size→Region.ready .any ops listed=[]→∀j,j<ops.size→listed.getD j false=true:=by
  intro listed hsz hr j
  induction j using Nat.strongRecOn with
  | _ j ih=>
    intro hj
    cases hl:listed.getD j false with
    | true=>rfl
    | false=>
      exfalso
      have:j∈Region.ready .any ops listed:=by
       refine mem_ready.2 ⟨by rw [getD_lt (by omega) true false];exact hl,ops[j],by simp [hj],fun e he hb=>?_⟩
       have hz:∃x,(ops.toList.zip outs)[j]?=some (ops[j],x):=by
        have:j<outs.length:=by simp at hlen;omega
        exact⟨outs[j],by rw [List.getElem?_zip_eq_some];simp [hj,this]⟩
       obtain⟨x,hx⟩:=hz
       have h1:=one j _ x hx
       simp only [oneOk,Bool.and_eq_true] at h1
       have:=backB_spec h1.1.1.1.1 e (by simpa using he) hb
       exact ih e.on this (by omega)
      rw [hr] at this
      cases this
 intro fuel
 induction fuel with
 | zero=>
   intro listed σ M w a hsz hu hcl hpa hsp hS
   have hall:∀j,j<ops.size→listed.getD j false=true:=by
    intro j hj
    cases hl:listed.getD j false with
    | true=>rfl
    | false=>
      exfalso
      have:0<(List.range ops.size).countP fun i=>!listed.getD i false:=List.countP_pos_iff.2 ⟨j,by simpa using hj,by simp only [hl];rfl⟩
      unfold unl at hu
      omega
   refine⟨?_,done listed σ M w a hall hsp hS⟩
   cases hr:Region.ready .any ops listed with
   | nil=>rfl
   | cons i r=>
     have hi:i∈Region.ready .any ops listed:=by rw [hr];simp
     obtain⟨h1,o,ho,_⟩:=mem_ready.1 hi
     have hlt:=(Array.getElem?_eq_some_iff.1 ho).1
     rw [getD_lt (by omega) true false,hall i hlt] at h1
     cases h1
 | succ fuel ih=>
   intro listed σ M w a hsz hu hcl hpa hsp hS
   refine⟨fun hr=>done listed σ M w a (nothing listed hsz hr) hsp hS,fun i hi=>?_⟩
   obtain⟨hli,o,ho,hed⟩:=mem_ready.1 hi
   have hlt:=(Array.getElem?_eq_some_iff.1 ho).1
   rw [getD_lt (by omega) true false] at hli
   obtain⟨x,hx⟩:∃x,(ops.toList.zip outs)[i]?=some (o,x):=by
    have h2:i<outs.length:=by simp at hlen;omega
    have h3:ops[i]=o:=(Array.getElem?_eq_some_iff.1 ho).2
    exact⟨outs[i],by rw [List.getElem?_zip_eq_some];simp [hlt,h2,h3]⟩
   obtain⟨hanc,clear,hag,hdown,hfresh⟩:=ready_facts hlen hok hsz hcl hli hed hx
   rcases Nat.lt_trichotomy i stop with his | his | his
   rotate_left
   · subst his
     exact hst fuel listed σ M w a o hsz hu hcl hsp ho hed hS
   · have:=hanc stop (hlate i his hlt)
     rw [hsp stop (Nat.le_refl _)] at this;cases this
   have hins:effOf tab Γ o (mixI (fun j=>listed.getD j false) 0 (ops.toList.zip outs) st0)=effOf tab Γ o (runAll ((ops.toList.zip outs).take i) st0):=by
    cases hmv:isMove o&&nfB (ops.toList.zip outs) st0 (lookR (runAll ((ops.toList.zip outs).take i) st0) o) with
    | false=>
      have hrr:∀r∈lookR (runAll ((ops.toList.zip outs).take i) st0) o,(runAll ((ops.toList.zip outs).take i) st0).rowv r=(mixI (fun j=>listed.getD j false) 0 (ops.toList.zip outs) st0).rowv r:=fun r hr=>hag.row r (by unfold lookRo;rw [hmv];exact hr)
      have hag2:=fun fz=>ins_agree (fz:=fz) o.op.operands.toList (s:=runAll ((ops.toList.zip outs).take i) st0) (s':=mixI (fun j=>listed.getD j false) 0 (ops.toList.zip outs) st0) ⟨fun k hk=>hag.get k (by simp [lookS,hk]),hag.box,hrr⟩
      exact effOf_congr (hag2 []).1 fun fz=>(hag2 fz).2
    | true=>
      rw [Bool.and_eq_true] at hmv
      have hnf:=nfB_spec hmv.2
      have e0:=runAll_take (l:=ops.toList.zip outs) (j:=i) (k:=0) (s:=st0)
      have tm:∀(xs:List Operand) (x:Operand),x∈xs→(∀k∈tmpsOf [x],k∈tmpsOf xs)∧∀(s:St),(∀k∈opB s x,k∈opsB s xs)∧∀r∈opR s x,r∈opsR s xs:=fun xs=>by
       induction xs with
       | nil=>intro x hx;cases hx
       | cons y ys ihx=>
         intro x hx
         rcases List.mem_cons.1 hx with e | hx
         · subst e
           refine⟨fun k hk=>?_,fun s=>⟨fun k hk=>by simp [opsB,hk],fun r hr=>by simp [opsR,hr]⟩⟩
           cases x<;>simp_all [tmpsOf]
         · obtain⟨q1,q2⟩:=ihx x hx
           refine⟨fun k hk=>?_,fun s=>⟨fun k hk=>by simp [opsB,(q2 s).1 k hk],fun r hr=>by simp [opsR,(q2 s).2 r hr]⟩⟩
           have:=q1 k hk
           cases y<;>simp [tmpsOf,this]
      refine effOf_move hmv.1 fun x hx=>?_
      obtain⟨t1,t2⟩:=tm _ x hx
      have hget:∀t,x=.tmp t→(runAll ((ops.toList.zip outs).take i) st0).get t=(mixI (fun j=>listed.getD j false) 0 (ops.toList.zip outs) st0).get t:=fun t ht=>hag.get t (by subst ht;simp [lookS,t1 t (by simp [tmpsOf])])
      have hor:opR (mixI (fun j=>listed.getD j false) 0 (ops.toList.zip outs) st0) x=opR (runAll ((ops.toList.zip outs).take i) st0) x:=by
       cases x with
       | tmp t=>
         simp only [opR]
         rw [←hget t rfl]
         congr 2
         refine (pick_congr fun k hk=>?_).symm
         exact hag.box k ((t2 _).1 k (by simp only [opB];exact hk))
       | _=>rfl
      have nf1:∀r∈opR (runAll ((ops.toList.zip outs).take i) st0) x,isFrz ((runAll ((ops.toList.zip outs).take i) st0).rowv r)=false∧isFrz ((mixI (fun j=>listed.getD j false) 0 (ops.toList.zip outs) st0).rowv r)=false:=fun r hr=>by
       obtain⟨q1,q2⟩:=hnf r ((t2 _).2 r hr)
       refine⟨?_,nf_mix q1 q2⟩
       rw [e0]
       exact nf_mix q1 q2
      rw [inOf_sv_nf fun r hr=>(nf1 r (hor▸hr)).2,inOf_sv_nf fun r hr=>(nf1 r hr).1]
      cases x with
      | tmp t=>exact (hget t rfl).symm
      | _=>rfl
   have hwant:want ops.toList o (mixI (fun j=>listed.getD j false) 0 (ops.toList.zip outs) st0)=want ops.toList o (runAll ((ops.toList.zip outs).take i) st0):=by
    unfold want
    cases hg:o.guard with
    | none=>rfl
    | some g=>
      obtain⟨j,wn⟩:=g
      simp only
      cases hj:guardDst ops.toList j with
      | none=>rfl
      | some d=>
        simp only
        rw [←hag.get d (by simp [lookS,guardS,hg,hj])]
   have hmore:Ext (applyO o x (mixI (fun j=>listed.getD j false) 0 (ops.toList.zip outs) st0)) (mixI (fun j=>(listed.setIfInBounds i true).getD j false) 0 (ops.toList.zip outs) st0):=by
    refine mix_more (j:=i) hx (by rw [Nat.zero_add];exact hli) (fun k=>by rw [set_getD (by omega),Nat.zero_add]) (fun k o' x' hk hlt2 hl=>?_)
    rw [Nat.zero_add] at hl
    exact (clear k o' x' hk (by omega) (.inr ⟨hlt2,hl⟩)).2
   have next:∀(σ':Sg) (M':Mem) (w':World) (a':Act),Sim P base M0 ios σ' M' w' a' (applyO o x (mixI (fun j=>listed.getD j false) 0 (ops.toList.zip outs) st0))→wpAny P .any ops Q fuel (listed.setIfInBounds i true) a' w':=by
    intro σ' M' w' a' hS'
    refine ih _ σ' M' w' a' (by simp [hsz]) ?_ ?_ (fun j hj=>by rw [set_getD (by omega),hpa j hj];rfl) (fun j hj=>by rw [set_getD (by omega),hsp j hj,show (j==i)=false by simp;omega];rfl) (hS'.ext hmore)
    · have:unl ops.size (listed.setIfInBounds i true)<unl ops.size listed:=by
       unfold unl
       refine count_lt (fun k hk=>?_) ⟨i,by simpa using hlt,by rw [hli];rfl,by rw [set_getD (by omega)];simp⟩
       rw [set_getD (by omega)] at hk
       cases h4:listed.getD k false with
       | false=>rfl
       | true=>rw [h4] at hk;simp at hk
      omega
    · intro j hj k hk
      rw [set_getD (by omega)] at hj ⊢
      have:listed.getD k false=true:=by
       by_cases hji:j=i
       · subst hji;exact hanc k hk
       · have:(j==i)=false:=by simp [hji]
         rw [this,Bool.or_false] at hj
         exact hcl j hj k hk
      rw [this];rfl
   unfold wpOp
   rw [ho]
   simp only
   have hg:=hgood i o x (fun hp=>by rw [hpa i hp] at hli;cases hli) his hx
   have hd':∀d,o.dst=some d→d<(mixI (fun j=>listed.getD j false) 0 (ops.toList.zip outs) st0).nt:=by
    intro d hd
    rw [mixI_nt]
    exact dstsIn_spec hdst o (by rw [←Array.getElem?_toList] at ho;exact List.mem_of_getElem? ho) d hd
   cases x with
   | none=>
     have hw:=want_sound (ops:=ops) hS (hwant.trans hg)
     rw [hw]
     simp only [Bool.false_eq_true,if_false]
     exact next σ M w _ (hS.skip hd')
   | some e=>
     obtain⟨hg1,ps,hg2,hps⟩:=hg
     have hw:=want_sound (ops:=ops) hS (hwant.trans hg1)
     rw [hw]
     simp only [if_true]
     left
     refine effOf_sound hT hΓ hS hd' (by rw [hins];exact hg2) hps ?_ fun v σ' M' w' hS'=>next σ' M' w' _ hS'
     refine Sub.fresh (Sub.mix (L':=fun k=>!(k==i||((masks ops.toList []).getD k 0).testBit i)) (fun k hk=>?_) ⟨fun _ h=>h,fun _ h=>h,fun _ h=>h⟩) (hfresh e rfl)
     have hki:(k==i)=false:=by
      cases hki:k==i with
      | false=>rfl
      | true=>
        have:k=i:=by simpa using hki
        subst this
        simp only [hli] at hk
        cases hk
     have hkb:=hdown k hk
     simp only [hki,hkb]
     rfl
theorem drawn_sound (hT:TabOk P tab) (hΓ:GamOk P Γ) {ops:Array Oper} {outs:List (Option Eff)} {st0:St} (past:Nat→Prop) (hdst:dstsIn st0.nt ops.toList=true) (hlen:outs.length=ops.toList.length) (hok:mixOk ops.toList outs st0=true)
 (hgood:∀j o x,¬past j→(ops.toList.zip outs)[j]?=some (o,x)→Good tab Γ ops.toList (runAll ((ops.toList.zip outs).take j) st0) o x)
 (hq:∀σ M w a,Sim P base M0 ios σ M w a (runAll (ops.toList.zip outs) st0)→Q .normal a w):
 ∀(fuel:Nat) (listed:Array Bool) (σ:Sg) (M:Mem) (w:World) (a:Act),listed.size=ops.size→unl ops.size listed≤fuel→
  (∀j,listed.getD j false=true→∀i,((masks ops.toList []).getD j 0).testBit i=true→listed.getD i false=true)→(∀j,past j→listed.getD j false=true)→
  Sim P base M0 ios σ M w a (mixI (fun j=>listed.getD j false) 0 (ops.toList.zip outs) st0)→wpAny P .any ops Q fuel listed a w:=
 fun fuel listed σ M w a hsz hu hcl hpa hS=>drawn_gen hT hΓ past ops.size hdst hlen hok (fun j h1 h2=>by omega) (fun j o x h1 _=>hgood j o x h1) (fun _=>hq)
  (fun _ _ _ _ _ _ o _ _ _ _ ho=>by simp at ho) fuel listed σ M w a hsz hu hcl hpa (fun j hj=>by
    rw [Array.getD_eq_getD_getElem?,Array.getElem?_eq_none (by omega)];rfl) hS
end Go.Proofs.Ytgfgenbmjbhphaa.Bv
namespace Go.Proofs.Ytgfgenbmjbhphaa.Bv
set_option linter.unusedVariables false
set_option linter.unusedSimpArgs false
variable {P:Program} {base:World} {M0:Mem} {ios:Ios} {σ:Sg} {M:Mem} {w:World} {a:Act} {st:St} {tab:Tab} {Γ:Gam} {Q:Exit→Act→World→Prop}
def relB (Γ:Gam) (o:Oper):Bool:=match o.op with
 | .call c=>match c.callee with
   | .value (.func n)=>match Γ.con n with
     | some con=>con.f.isNone
     | none=>false
   | _=>false
 | _=>false
def relAt (Γ:Gam):List Oper→Nat→Option Nat
 | [],_=>none
 | o::l,k=>match relB Γ o with
   | true=>some k
   | false=>relAt Γ l (k+1)
def lateB (ms:List Nat) (m:Nat):Nat→Bool
 | 0=>true
 | i+1=>(Nat.ble i m||(ms.getD i 0).testBit m)&&lateB ms m i
def relOk (all:List Oper) (m:Nat) (outs:List (Option Eff)) (s0:St):Bool:=mixOk all (outs++List.replicate (all.length - m) none) s0&&lateB (masks all []) m all.length
def vcG (all:List Oper) (o:Oper) (st:St) (K1 K0:St→Prop):Prop:=match o.guard with
 | none=>K1 st
 | some (j,want)=>match guardDst all j with
   | some dj=>match st.get dj with
     | .val false [.bool b]=>caseB b (cond want (K1 (st.lit dj true)) (K0 (st.lit dj true))) (cond want (K0 (st.lit dj false)) (K1 (st.lit dj false)))
     | .tup []=>K0 st
     | _=>False
   | none=>False
def vcRel (tab:Tab) (Γ:Gam) (all:List Oper) (m:Nat) (st:St) (K:List (Option Eff)→St→Prop):Prop:=
 match all[m]? with
 | some o=>match relB Γ o with
   | true=>vcRun tab Γ all (all.take m) st fun outsA st1=>match relOk all m outsA st with
     | true=>vcG all o st1
        (fun st2=>vcOpE tab Γ o st2 fun e=>vcRun tab Γ all (all.drop (m+1)) (e.apply o.dst st2) fun outs st'=>K (outsA++some e::outs) st')
        (fun st2=>vcRun tab Γ all (all.drop (m+1)) (skipSt o st2) fun outs st'=>K (outsA++none::outs) st')
     | false=>False
   | false=>False
 | none=>False
def vcMix (tab:Tab) (Γ:Gam) (all:List Oper) (st:St) (K:St→Prop):Prop:=match relAt Γ all 0 with
 | none=>vcRun tab Γ all all st fun outs st'=>match mixOk all outs st with
   | true=>K st'
   | false=>False
 | some m=>vcRel tab Γ all m st fun outs st'=>match mixOk all outs st with
   | true=>K st'
   | false=>False
theorem lateB_spec {ms:List Nat} {m:Nat}:∀{n:Nat},lateB ms m n=true→∀j,m<j→j<n→(ms.getD j 0).testBit m=true
 | 0,_,j,_,h=>by omega
 | n+1,h,j,h1,h2=>by
   simp only [lateB,Bool.and_eq_true,Bool.or_eq_true] at h
   by_cases he:j=n
   · subst he
     rcases h.1 with h3 | h3
     · have:=Nat.le_of_ble_eq_true h3;omega
     · exact h3
   · exact lateB_spec h.2 j h1 (by omega)
theorem vcG_spec {all:List Oper} {o:Oper} {K1 K0:St→Prop} (h:vcG all o st K1 K0):
 (want all o st=some true∧∃st2,Ext st2 st∧K1 st2)∨(want all o st=some false∧∃st2,Ext st2 st∧K0 st2):=by
 unfold vcG at h
 unfold want
 cases hg:o.guard with
 | none=>rw [hg] at h;exact .inl ⟨rfl,st,Ext.refl _,h⟩
 | some g=>
   obtain⟨j,wn⟩:=g
   rw [hg] at h
   simp only at h ⊢
   cases hj:guardDst all j with
   | none=>rw [hj] at h;exact h.elim
   | some dj=>
     rw [hj] at h
     simp only at h ⊢
     split at h
     · rename_i b hb
       replace h:=caseB_to h
       cases hbb:b with
       | true=>
         have h1:=h.1 hbb
         cases wn with
         | true=>exact .inl ⟨by simp only [hb,hbb];rfl,_,put_lit hb hbb,h1⟩
         | false=>exact .inr ⟨by simp only [hb,hbb];rfl,_,put_lit hb hbb,h1⟩
       | false=>
         have h1:=h.2 hbb
         cases wn with
         | false=>exact .inl ⟨by simp only [hb,hbb];rfl,_,put_lit hb hbb,h1⟩
         | true=>exact .inr ⟨by simp only [hb,hbb];rfl,_,put_lit hb hbb,h1⟩
     · rename_i hb
       exact .inr ⟨by simp only [hb],_,Ext.refl _,h⟩
     · exact h.elim
theorem vcOpE_move {o:Oper} {s s':St} {K:Eff→Prop} (h0:o.op.operands.toList.map (inOf s')=o.op.operands.toList.map (inOf s)) (hF:∀fz,o.op.operands.toList.map (inOf (frzSt fz s'))=o.op.operands.toList.map (inOf (frzSt fz s)))
 (hd:∀d,o.dst=some d→d<s'.nt) (h:vcOpE tab Γ o s K) (hf:∀e,K e→freshEff e o.dst s'=true):vcOpE tab Γ o s' K:=by
 unfold vcOpE at h ⊢
 split at h
 rotate_left
 · exact h.elim
 split
 rotate_left
 · rename_i hdd
   exfalso
   cases hdst:o.dst with
   | none=>rw [hdst] at hdd;cases hdd
   | some d=>rw [hdst] at hdd;have:=hd d hdst;simp only [decide_eq_false_iff_not] at hdd;exact hdd this
 · simp only [h0,insFz_congr (hF _)]
   simp only at h
   generalize frzRows ((o.op.operands.toList.map (inOf s)).flatMap (·.rows)) (needFrz tab Γ o (o.op.operands.toList.map (inOf s)))=fz at h ⊢
   generalize insFz fz o s (o.op.operands.toList.map (inOf s))=ins at h ⊢
   split at h
   · rename_i hnd
     split at h
     · rename_i con ts xs hc
       unfold vcCall at h ⊢
       split at h
       · rename_i d x h1 h2 h3
         obtain⟨hpre,hpost⟩:=h
         refine⟨hpre,fun y hy=>?_⟩
         have h4:=hpost y hy
         split at h4
         · rename_i br hbr
           split at h4
           · rename_i hfr
             have:=fresh_unfrz (hf _ h4)
             rw [h1] at this
             rw [this]
             exact h4
           · exact h4.elim
         · exact h4.elim
       · exact h.elim
     · split at h
       · exact h
       · split at h
         · rename_i ps e he
           split at h
           · obtain⟨h1,h2⟩:=allP_split h
             rw [fresh_unfrz (hf _ h2)]
             exact h
           · exact h.elim
         · exact h.elim
   · exact h.elim
theorem runAll_app:∀(l l':List (Oper×Option Eff)) (s:St),runAll (l++l') s=runAll l' (runAll l s)
 | [],_,_=>rfl
 | (o,x)::l,l',s=>by rw [List.cons_append,runAll_cons,runAll_cons,runAll_app l l']
theorem mixI_take {L:Nat→Bool}:∀{l:List (Oper×Option Eff)} {k m:Nat} {s:St},(∀i,k+m≤i→L i=false)→mixI L k l s=mixI L k (l.take m) s
 | [],_,_,_,_=>by simp [mixI]
 | (o,x)::l,k,0,s,h=>by rw [mixI_none (fun i hi=>h i (by omega))];rfl
 | (o,x)::l,k,m+1,s,h=>by
   rw [List.take_succ_cons]
   simp only [mixI]
   exact mixI_take fun i hi=>h i (by omega)
theorem ext_inOf {s s':St} (h:Ext s s') (o:Oper):o.op.operands.toList.map (inOf s')=o.op.operands.toList.map (inOf s)∧∀fz,o.op.operands.toList.map (inOf (frzSt fz s'))=o.op.operands.toList.map (inOf (frzSt fz s)):=
 ⟨List.map_congr_left fun x _=>(inOf_ext h x).symm,fun fz=>List.map_congr_left fun x _=>(inOf_ext (frz_ext h) x).symm⟩
theorem rel_notMove {o:Oper} (h:relB Γ o=true):isMove o=false:=by
 unfold relB at h
 unfold isMove
 split at h
 · rename_i c hc;rw [hc]
 · cases h
theorem rel_sound (hT:TabOk P tab) (hΓ:GamOk P Γ) {ops:Array Oper} {m:Nat} {st0:St} {KK:St→Prop} (hdst:dstsIn st0.nt ops.toList=true)
 (h:vcRel tab Γ ops.toList m st0 fun outs st'=>match mixOk ops.toList outs st0 with | true=>KK st' | false=>False)
 (hq:∀σ M w a st',KK st'→Sim P base M0 ios σ M w a st'→Q .normal a w):
 ∀(fuel:Nat) (listed:Array Bool) (σ:Sg) (M:Mem) (w:World) (a:Act),listed.size=ops.size→unl ops.size listed≤fuel→
  (∀j,listed.getD j false=false)→Sim P base M0 ios σ M w a st0→wpAny P .any ops Q fuel listed a w:=by
 intro fuel listed σ M w a hsz hu hno hS
 unfold vcRel at h
 split at h
 · rename_i o ho
   split at h
   · rename_i hrel
     obtain⟨outsA,st1,hlenA,hK,hext,hgood⟩:=vcRun_spec _ _ _ h
     split at hK
     · rename_i hro
       unfold relOk at hro
       rw [Bool.and_eq_true] at hro
       obtain⟨hok,hlate⟩:=hro
       have hm:m<ops.toList.length:=(List.getElem?_eq_some_iff.1 ho).1
       have hlA:outsA.length=m:=by rw [hlenA,List.length_take];omega
       have hoa:ops[m]?=some o:=by rw [←Array.getElem?_toList];exact ho
       have hsplit:ops.toList=ops.toList.take m++o::ops.toList.drop (m+1):=by
        have e:=(List.getElem?_eq_some_iff.1 ho).2
        rw [←e,List.getElem_cons_drop];exact (List.take_append_drop ..).symm
       have zlF:∀r,ops.toList.zip (outsA++r)=(ops.toList.take m).zip outsA++(o::ops.toList.drop (m+1)).zip r:=fun r=>by
        conv=>lhs;rw [hsplit]
        rw [List.zip_append (by rw [List.length_take];omega)]
       have zlen:((ops.toList.take m).zip outsA).length=m:=by rw [List.length_zip,List.length_take];omega
       have zt:∀r,(ops.toList.zip (outsA++r)).take m=(ops.toList.take m).zip outsA:=fun r=>by
        rw [zlF,List.take_append_of_le_length (by omega),List.take_of_length_le (by omega)]
       have ztj:∀r j,j<m→(ops.toList.zip (outsA++r)).take j=((ops.toList.take m).zip outsA).take j:=fun r j hj=>by
        rw [zlF,List.take_append_of_le_length (by omega)]
       have zj:∀r j,j<m→(ops.toList.zip (outsA++r))[j]?=((ops.toList.take m).zip outsA)[j]?:=fun r j hj=>by
        rw [zlF,List.getElem?_append_left (by omega)]
       have hlenF:(outsA++List.replicate (ops.toList.length - m) (none:Option Eff)).length=ops.toList.length:=by
        rw [List.length_append,List.length_replicate];omega
       refine drawn_gen (outs:=outsA++List.replicate (ops.toList.length - m) none) hT hΓ (fun _=>False) m hdst hlenF hok (fun j h1 h2=>lateB_spec hlate j h1 (by simpa using h2))
        (fun j o' x _ h1 hz=>by rw [ztj _ j h1];exact hgood j o' x (by rw [←zj _ j h1];exact hz)) (fun hle=>by simp at hm;omega) ?_
        fuel listed σ M w a hsz hu (fun j hj=>by rw [hno j] at hj;cases hj) (fun j hj=>hj.elim) (fun j _=>hno j) (by rw [mixI_none (fun i _=>hno i)];exact hS)
       clear hu hno hsz hS
       intro fuel listed σ M w a o' hsz hu hcl hsp ho' hed hS
       rw [hoa] at ho'
       cases ho'
       have hli:=hsp m (Nat.le_refl _)
       have hzA:(ops.toList.zip (outsA++List.replicate (ops.toList.length - m) (none:Option Eff)))[m]?=some (o,none):=by
        rw [zlF,List.getElem?_append_right (by omega),zlen,Nat.sub_self,show ops.toList.length - m=(ops.toList.length - m - 1)+1 by omega,List.replicate_succ,List.zip_cons_cons];rfl
       obtain⟨_,_,hag,_,_⟩:=ready_facts hlenF hok hsz hcl hli hed hzA
       have hdd:∀s:St,s.nt=st0.nt→∀d,o.dst=some d→d<s.nt:=fun s hs d hd=>by
        rw [hs];exact dstsIn_spec hdst o (List.mem_of_getElem? ho) d hd
       rw [zt] at hag
       have hmix:∀r,mixI (fun j=>listed.getD j false) 0 (ops.toList.zip (outsA++List.replicate (ops.toList.length - m) none)) st0=mixI (fun j=>listed.getD j false) 0 (ops.toList.zip (outsA++r)) st0:=fun r=>by
        rw [mixI_take (m:=m) (fun i hi=>hsp i (by omega)),zt,mixI_take (m:=m) (l:=ops.toList.zip (outsA++r)) (fun i hi=>hsp i (by omega)),zt]
       have hagG:Agree (lookS ops.toList o) (lookB (runAll ((ops.toList.take m).zip outsA) st0) o) (lookR (runAll ((ops.toList.take m).zip outsA) st0) o) (runAll ((ops.toList.take m).zip outsA) st0) (mixI (fun j=>listed.getD j false) 0 (ops.toList.zip (outsA++List.replicate (ops.toList.length - m) none)) st0):=by
        unfold lookRo at hag
        rw [rel_notMove hrel] at hag
        exact hag
       generalize hs':mixI (fun j=>listed.getD j false) 0 (ops.toList.zip (outsA++List.replicate (ops.toList.length - m) none)) st0=s' at hS hagG hmix
       have hnt:s'.nt=st0.nt:=by rw [←hs'];exact mixI_nt
       have hins:o.op.operands.toList.map (inOf s')=o.op.operands.toList.map (inOf st1)∧∀fz,o.op.operands.toList.map (inOf (frzSt fz s'))=o.op.operands.toList.map (inOf (frzSt fz st1)):=by
        have h1:=fun fz=>ins_agree (fz:=fz) o.op.operands.toList (s:=runAll ((ops.toList.take m).zip outsA) st0) (s':=s') ⟨fun k hk=>hagG.get k (by simp [lookS,hk]),hagG.box,hagG.row⟩
        have h2:=ext_inOf hext o
        exact⟨(h1 []).1.trans h2.1,fun fz=>(h1 fz).2.trans (h2.2 fz)⟩
       have hwant:want ops.toList o s'=want ops.toList o st1:=by
        unfold want
        cases hg:o.guard with
        | none=>rfl
        | some g=>
          obtain⟨j,wn⟩:=g
          simp only
          cases hj:guardDst ops.toList j with
          | none=>rfl
          | some d=>
            simp only
            rw [←hagG.get d (by simp [lookS,guardS,hg,hj]),hext.get]
       have after:∀(x:Option Eff) (st2:St) (outsB:List (Option Eff)) (st':St),Ext st2 (runAll ((ops.toList.take m).zip outsA) st0)→outsB.length=(ops.toList.drop (m+1)).length→mixOk ops.toList (outsA++x::outsB) st0=true→KK st'→
        Ext st' (runAll ((ops.toList.drop (m+1)).zip outsB) (applyO o x st2))→
        (∀j o' x',((ops.toList.drop (m+1)).zip outsB)[j]?=some (o',x')→Good tab Γ ops.toList (runAll (((ops.toList.drop (m+1)).zip outsB).take j) (applyO o x st2)) o' x')→
        ∀σ' M' w' a',Sim P base M0 ios σ' M' w' a' (applyO o x s')→wpAny P .any ops Q fuel (listed.setIfInBounds m true) a' w':=by
        intro x st2 outsB st' he hlB hokF hKK hex hgB σ' M' w' a' hS'
        have hlF:(outsA++x::outsB).length=ops.toList.length:=by
         rw [List.length_append,List.length_cons,hlB,List.length_drop];omega
        have hx2:Ext (applyO o x st2) (applyO o x (runAll ((ops.toList.take m).zip outsA) st0)):=applyO_ext he
        have hzF:(ops.toList.zip (outsA++x::outsB))[m]?=some (o,x):=by
         rw [zlF,List.getElem?_append_right (by omega),zlen,Nat.sub_self,List.zip_cons_cons];rfl
        have hrun:runAll (ops.toList.zip (outsA++x::outsB)) st0=runAll ((ops.toList.drop (m+1)).zip outsB) (applyO o x (runAll ((ops.toList.take m).zip outsA) st0)):=by
         rw [zlF,runAll_app,List.zip_cons_cons,runAll_cons]
        have hmore:Ext (applyO o x s') (mixI (fun j=>(listed.setIfInBounds m true).getD j false) 0 (ops.toList.zip (outsA++x::outsB)) st0):=by
         rw [hmix (x::outsB)]
         refine mix_more (j:=m) hzF (by rw [Nat.zero_add];exact hli) (fun k=>by rw [set_getD (by simp at hm;omega),Nat.zero_add]) (fun k o' x' hk hlt2 hl=>?_)
         rw [Nat.zero_add] at hl
         rw [hsp k (by omega)] at hl;cases hl
        refine drawn_sound (outs:=outsA++x::outsB) hT hΓ (fun j=>j=m) hdst hlF hokF (fun j o' x' hne hz=>?_) (fun σ M w a hS2=>hq σ M w a st' hKK (hS2.ext ?_)) fuel _ σ' M' w' a' (by simp [hsz]) ?_ ?_ ?_ (hS'.ext hmore)
        · rcases Nat.lt_trichotomy j m with hj | hj | hj
          · rw [ztj _ j hj];exact hgood j o' x' (by rw [←zj _ j hj];exact hz)
          · exact absurd hj hne
          · obtain⟨i,rfl⟩:∃i,j=m+1+i:=⟨j - m - 1,by omega⟩
            have e1:(ops.toList.zip (outsA++x::outsB)).take (m+1+i)=(ops.toList.take m).zip outsA++(o,x)::((ops.toList.drop (m+1)).zip outsB).take i:=by
             rw [zlF,List.zip_cons_cons,List.take_append,zlen,List.take_of_length_le (by omega),show m+1+i - m=i+1 by omega,List.take_succ_cons]
            rw [e1,runAll_app,runAll_cons]
            have hz2:((ops.toList.drop (m+1)).zip outsB)[i]?=some (o',x'):=by
             rw [zlF,List.getElem?_append_right (by omega),zlen,List.zip_cons_cons,show m+1+i - m=i+1 by omega,List.getElem?_cons_succ] at hz
             exact hz
            exact (hgB i o' x' hz2).ext (runAll_ext hx2)
        · rw [hrun]
          exact (hex.trans (runAll_ext hx2)).symm
        · have:unl ops.size (listed.setIfInBounds m true)<unl ops.size listed:=by
           unfold unl
           refine count_lt (fun k hk=>?_) ⟨m,by simp at hm;simpa using hm,by rw [hli];rfl,by rw [set_getD (by simp at hm;omega)];simp⟩
           rw [set_getD (by simp at hm;omega)] at hk
           cases h4:listed.getD k false with
           | false=>rfl
           | true=>rw [h4] at hk;simp at hk
          omega
        · intro j hj k hk
          rw [set_getD (by simp at hm;omega)] at hj ⊢
          have:listed.getD k false=true:=by
           by_cases hji:j=m
           · subst hji
             exact (ready_facts hlenF hok hsz hcl hli hed hzA).1 k hk
           · have:(j==m)=false:=by simp [hji]
             rw [this,Bool.or_false] at hj
             exact hcl j hj k hk
          rw [this];rfl
        · intro j hj
          subst hj
          rw [set_getD (by simp at hm;omega)];simp
       unfold wpOp
       rw [hoa]
       simp only
       rcases vcG_spec hK with⟨hw,st2,he2,hK2⟩ | ⟨hw,st2,he2,hK2⟩
       · have hw':=want_sound (ops:=ops) hS (hwant.trans hw)
         rw [hw']
         simp only [if_true]
         left
         have hi2:=ext_inOf he2 o
         have more:∀e,(vcRun tab Γ ops.toList (ops.toList.drop (m+1)) (e.apply o.dst st2) fun outs st'=>match mixOk ops.toList (outsA++some e::outs) st0 with | true=>KK st' | false=>False)→
          ∃outsB st',outsB.length=(ops.toList.drop (m+1)).length∧mixOk ops.toList (outsA++some e::outsB) st0=true∧KK st'∧Ext st' (runAll ((ops.toList.drop (m+1)).zip outsB) (applyO o (some e) st2))∧
          (∀j o' x',((ops.toList.drop (m+1)).zip outsB)[j]?=some (o',x')→Good tab Γ ops.toList (runAll (((ops.toList.drop (m+1)).zip outsB).take j) (applyO o (some e) st2)) o' x'):=fun e hr=>by
          obtain⟨outsB,st',h1,h2,h3,h4⟩:=vcRun_spec _ _ _ hr
          split at h2
          · rename_i hokF
            exact⟨outsB,st',h1,hokF,h2,h3,h4⟩
          · exact h2.elim
         refine vcOpE_sound (tab:=tab) (Γ:=Γ) hT hΓ hS (vcOpE_move (s:=st2) ?_ ?_ (hdd s' hnt) hK2 ?_) (fun e hr v σ' M' w' hS'=>?_)
         · rw [hins.1];exact hi2.1
         · intro fz;rw [hins.2 fz];exact hi2.2 fz
         · intro e hr
           obtain⟨outsB,st',h1,hokF,h2,h3,h4⟩:=more e hr
           have hlF:(outsA++some e::outsB).length=ops.toList.length:=by
            rw [List.length_append,List.length_cons,h1,List.length_drop];omega
           have hzF:(ops.toList.zip (outsA++some e::outsB))[m]?=some (o,some e):=by
            rw [zlF,List.getElem?_append_right (by omega),zlen,Nat.sub_self,List.zip_cons_cons];rfl
           obtain⟨_,_,_,hdown,hfresh⟩:=ready_facts hlF hokF hsz hcl hli hed hzF
           refine Sub.fresh ?_ (hfresh e rfl)
           rw [hmix (some e::outsB)]
           refine Sub.mix (fun k hk=>?_) ⟨fun _ h=>h,fun _ h=>h,fun _ h=>h⟩
           have hki:(k==m)=false:=by
            cases hki:k==m with
            | false=>rfl
            | true=>
              have:k=m:=by simpa using hki
              subst this
              simp only [hli] at hk
              cases hk
           have hkb:=hdown k hk
           simp only [hki,hkb]
           rfl
         · obtain⟨outsB,st',h1,hokF,h2,h3,h4⟩:=more e hr
           exact after (some e) st2 outsB st' (he2.trans hext) h1 hokF h2 h3 h4 σ' M' w' _ hS'
       · have hw':=want_sound (ops:=ops) hS (hwant.trans hw)
         rw [hw']
         simp only [Bool.false_eq_true,if_false]
         obtain⟨outsB,st',h1,h2,h3,h4⟩:=vcRun_spec _ _ _ hK2
         split at h2
         · rename_i hokF
           exact after none st2 outsB st' (he2.trans hext) h1 hokF h2 h3 h4 σ M w _ (hS.skip (hdd s' hnt))
         · exact h2.elim
     · exact hK.elim
   · exact h.elim
 · exact h.elim
end Go.Proofs.Ytgfgenbmjbhphaa.Bv
namespace Go.Proofs.Ytgfgenbmjbhphaa.Bv
set_option linter.unusedVariables false
set_option linter.unusedSimpArgs false
structure KRow where
 bx:Bool:=false
 s:Nat
 i:Nat
 k:Nat
 e:TypeId
 hot:Bool
structure Keep where
 hold:List Nat:=[]
 slots:List Nat
 boxes:List Nat:=[]
 rows:List KRow:=[]
def slotC (st:St) (s i:Nat):Option CellV:=match resSv st.rows (st.get s) with
 | .val _ cs=>cs[i]?
 | _=>none
def boxCe (st:St) (b i:Nat):Option CellV:=match st.box b with
 | some cs=>(resCs st.rows cs)[i]?
 | none=>none
def placeC (st:St) (kr:KRow):Option CellV:=match kr.bx with
 | true=>boxCe st kr.s kr.i
 | false=>slotC st kr.s kr.i
inductive Old where
 | bad
 | nil (t:Ty)
 | hot (r:Nat) (t:Ty) (l:List (El t))
 | cold (r:Nat)
 | cnil
def oldHot (st:St) (e:TypeId) (t:Ty) (r:Nat):Old:=match look r st.rows with
 | some (.hot e' t' l _ none _)=>if e'=e then if h:t'=t then .hot r t (castL h l) else .bad else .bad
 | _=>.bad
def oldOf (st:St) (kr:KRow):Old:=match kr.hot,placeC st kr with
 | true,some (.own t r)=>oldHot st kr.e t r
 | true,some (.lst t [] (some 0))=>.nil t
 | true,some (.emp t)=>.nil t
 | false,some (.lst _ _ (some 0))=>.cnil
 | false,some (.lst _ _ (some (r+1)))=>match coldOf (r+1) st.rows with
   | some e=>if e=kr.e then .cold (r+1) else .bad
   | none=>.bad
 | _,_=>.bad
def rho (st:St):List KRow→List (Nat×Nat)
 | []=>[]
 | kr::l=>match oldOf st kr with
   | .hot r _ _=>(r,kr.k)::rho st l
   | _=>rho st l
def coldOlds (st:St):List KRow→List Nat
 | []=>[]
 | kr::l=>match oldOf st kr with
   | .cold r=>r::coldOlds st l
   | _=>coldOlds st l
def reRow (st:St) (kr:KRow):Option RowV:=match oldOf st kr with
 | .hot _ t l=>some (.hot kr.e t l 0 none false)
 | .nil t=>some (.hot kr.e t [] 0 none false)
 | .cold _=>some (.cold kr.e)
 | .cnil=>some (.cold kr.e)
 | .bad=>none
def reRows (st:St):List KRow→List (Nat×RowV)
 | []=>[]
 | kr::l=>match reRow st kr with
   | some rv=>(kr.k,rv)::reRows st l
   | none=>reRows st l
def findK:List KRow→Bool→Nat→Nat→Option KRow
 | [],_,_,_=>none
 | kr::l,b,s,i=>if kr.bx=b∧kr.s=s∧kr.i=i then some kr else findK l b s i
def findKey:List KRow→Nat→Option KRow
 | [],_=>none
 | kr::l,k=>if kr.k=k then some kr else findKey l k
def reC1 (ρ:List (Nat×Nat)):CellV→CellV
 | .lst t l _=>.lst t l none
 | .own t r=>match look r ρ with
   | some k=>.own t k
   | none=>.und
 | .sub t r lo hi=>match look r ρ with
   | some k=>.sub t k lo hi
   | none=>.und
 | .bor ..=>.und
 | c=>c
def reCk (kr:KRow):CellV→CellV
 | .own t _=>cond kr.hot (.own t kr.k) .und
 | .emp t=>cond kr.hot (.own t kr.k) .und
 | .lst t l _=>cond kr.hot (.own t kr.k) (.lst t l (some kr.k))
 | _=>.und
def reCs (kp:Keep) (ρ:List (Nat×Nat)) (bx:Bool) (s:Nat):Nat→List CellV→List CellV
 | _,[]=>[]
 | i,c::cs=>(match findK kp.rows bx s i with
    | some kr=>reCk kr c
    | none=>reC1 ρ c)::reCs kp ρ bx s (i+1) cs
def unC:List CellV→List CellV
 | []=>[]
 | .lst t l _::cs=>.lst t l none::unC cs
 | .int k n::cs=>.int k n::unC cs
 | .bool b::cs=>.bool b::unC cs
 | .str s::cs=>.str s::unC cs
 | .emp t::cs=>.emp t::unC cs
 | _::cs=>.und::unC cs
def reCaps (kp:Keep) (st:St):List Cap→Option (List Cap)
 | []=>some []
 | .box k off::l=>match kp.boxes.contains k&&(st.box k).isSome,reCaps kp st l with
   | true,some r=>some (.box k off::r)
   | _,_=>none
 | .ptr cs::l=>match reCaps kp st l with
   | some r=>some (.ptr (unC cs)::r)
   | none=>none
def reS (kp:Keep) (ρ:List (Nat×Nat)) (st:St) (s:Nat):Sv→Sv
 | .val ag cs=>.val ag (reCs kp ρ false s 0 cs)
 | .box k off=>match kp.boxes.contains k&&(st.box k).isSome with
   | true=>.box k off
   | false=>.und
 | .ptr cs=>.ptr (unC cs)
 | .fn f a b=>match reCaps kp st a,reCaps kp st b with
   | some a',some b'=>.fn f a' b'
   | _,_=>.und
 | .hp t r i off=>match look r ρ with
   | some k=>.hp t k i off
   | none=>.und
 | .nil=>.nil
 | _=>.und
def reSlots (kp:Keep) (ρ:List (Nat×Nat)) (st:St):List Nat→List (Nat×Sv)
 | []=>[]
 | s::l=>(s,reS kp ρ st s (resSv st.rows (st.get s)))::reSlots kp ρ st l
def reBoxes (kp:Keep) (ρ:List (Nat×Nat)) (st:St):List Nat→List (Nat×List CellV)
 | []=>[]
 | b::l=>match st.box b with
   | some cs=>(b,reCs kp ρ true b 0 (resCs st.rows cs))::reBoxes kp ρ st l
   | none=>reBoxes kp ρ st l
def rename (kp:Keep) (st:St):St:={nt:=st.nt,slots:=reSlots kp (rho st kp.rows) st (kp.hold++kp.slots),boxes:=reBoxes kp (rho st kp.rows) st kp.boxes,rows:=reRows st kp.rows}
def rowOk (tab:Tab) (st:St) (kr:KRow):Bool:=!(kr.k==0)&&match oldOf st kr with
 | .bad=>false
 | .nil t=>(kr.k % 2==1)&&(match look kr.e tab with | some te=>decide (te.ty=t)&&decide (0<size t) | none=>false)
 | .hot r _ _=>kr.k % 2==1||r==kr.k
 | .cold r=>(kr.k % 2==1||r==kr.k)&&(look kr.e tab).isSome
 | .cnil=>(kr.k % 2==1)&&(look kr.e tab).isSome
def renameOk (tab:Tab) (kp:Keep) (st:St):Bool:=kp.rows.all (rowOk tab st)&&nodupB (kp.rows.map (·.k))&&nodupB ((rho st kp.rows).map (·.1))&&nodupB (coldOlds st kp.rows)
def looseC (kp:Keep) (bx:Bool) (s:Nat) (ks:List Nat):Nat→List CellV→List Nat
 | _,[]=>[]
 | i,c::cs=>(match findK kp.rows bx s i with
    | some kr=>(match kr.hot,c with
      | false,.own _ r=>[r]
      | _,_=>[])
    | none=>(match c with
      | .own _ r=>cond (notMem r ks) [r] []
      | .sub _ r _ _=>cond (notMem r ks) [r] []
      | .bor _ _ r _ _=>cond (notMem r ks) [r] []
      | _=>[]))++looseC kp bx s ks (i+1) cs
def looseS (kp:Keep) (st:St) (ks:List Nat):List Nat→List Nat
 | []=>[]
 | s::l=>(match st.get s with
    | .val _ cs=>looseC kp false s ks 0 cs
    | .bptr _ r _=>cond (notMem r ks) [r] []
    | _=>[])++looseS kp st ks l
def looseB (kp:Keep) (st:St) (ks:List Nat):List Nat→List Nat
 | []=>[]
 | b::l=>(match st.box b with
    | some cs=>looseC kp true b ks 0 cs
    | none=>[])++looseB kp st ks l
def loose (kp:Keep) (st:St):List (Nat×RowV):=
 let ks:=(rho st kp.rows).map (·.1)
 frzRows st.rows (hotKeys st.rows (looseS kp st ks (kp.hold++kp.slots)++looseB kp st ks kp.boxes))
def ready (kp:Keep) (st:St):St:=match loose kp st with
 | []=>st
 | fz=>frzSt fz st
def weaken (kp:Keep) (st:St):St:=rename kp (ready kp st)
def keepOk (tab:Tab) (kp:Keep) (st:St):Bool:=nodupB ((loose kp st).map (·.1))&&renameOk tab kp (ready kp st)
end Go.Proofs.Ytgfgenbmjbhphaa.Bv
namespace Go.Proofs.Ytgfgenbmjbhphaa.Bv
set_option linter.unusedVariables false
set_option linter.unusedSimpArgs false
variable {P:Program} {base:World} {M0:Mem} {ios:Ios} {σ:Sg} {M:Mem} {w:World} {a:Act} {st:St} {tab:Tab} {Γ:Gam}
def valAt (σ:Sg) (w:World) (a:Act) (kr:KRow):Value:=match kr.bx with
 | false=>(a.tmps.getD kr.s undef).cells.toList.getD kr.i undef
 | true=>match w.heap[σ.box kr.s]? with
   | some (.cells arr _ _)=>arr.toList.getD kr.i undef
   | _=>undef
theorem getD_of {l:List Value} {i:Nat} {v:Value} (h:l[i]?=some v):l.getD i undef=v:=by rw [List.getD_eq_getElem?_getD,h];rfl
theorem place_rep (hS:Sim P base M0 ios σ M w a st) {kr:KRow} {c:CellV} (h:placeC st kr=some c):RdT σ st.rows M (valAt σ w a kr) c:=by
 unfold placeC at h
 unfold valAt
 cases hb:kr.bx with
 | false=>
   rw [hb] at h
   simp only [slotC] at h ⊢
   have hs:=resSv_rep hS (fun _ _ h=>h) (hS.slots kr.s)
   split at h
   · rename_i ag cs he
     rw [he] at hs
     obtain⟨v,hv,hr⟩:=hs.1.get h
     rw [getD_of hv];exact hr
   · cases h
 | true=>
   rw [hb] at h
   simp only [boxCe] at h ⊢
   split at h
   · rename_i cs hk
     obtain⟨arr,E,h1,h2⟩:=hS.boxes kr.s cs hk
     obtain⟨v,hv,hr⟩:=(resCs_rep hS (fun _ _ h=>h) h2).get h
     rw [h1]
     simp only
     rw [getD_of hv];exact hr
   · cases h
def OldOk (st:St) (kr:KRow):Old→Prop
 | .bad=>True
 | .hot r t l=>kr.hot=true∧placeC st kr=some (.own t r)∧∃ver z,look r st.rows=some (.hot kr.e t l ver none z)
 | .nil t=>kr.hot=true∧(placeC st kr=some (.lst t [] (some 0))∨placeC st kr=some (.emp t))
 | .cold r=>kr.hot=false∧r≠0∧∃t l,placeC st kr=some (.lst t l (some r))∧st.row r=some kr.e
 | .cnil=>kr.hot=false∧∃t l,placeC st kr=some (.lst t l (some 0))
theorem oldOf_spec (st:St) (kr:KRow):OldOk st kr (oldOf st kr):=by
 unfold oldOf
 split
 · rename_i t r hh hp
   unfold oldHot
   split
   · rename_i e t' l ver z hl
     split
     · rename_i he
       split
       · rename_i ht
         subst ht;subst he
         exact⟨hh,hp,ver,z,hl⟩
       · trivial
     · trivial
   · trivial
 · rename_i t hh hp;exact⟨hh,.inl hp⟩
 · rename_i t hh hp;exact⟨hh,.inr hp⟩
 · rename_i t l hh hp;exact⟨hh,t,l,hp⟩
 · rename_i t l r hh hp
   split
   · rename_i e he
     split
     · rename_i h;subst h;exact⟨hh,by omega,t,l,hp,he⟩
     · trivial
   · trivial
 · trivial
theorem rho_mem {r k:Nat}:∀{rows:List KRow},look r (rho st rows)=some k→∃kr∈rows,kr.k=k∧∃t l,oldOf st kr=.hot r t l
 | [],h=>by cases h
 | kr::l,h=>by
   simp only [rho] at h
   split at h
   · rename_i r' t' l' ho
     rw [look_cons] at h
     split at h
     · rename_i e;subst e;cases h;exact⟨kr,by simp,rfl,t',l',ho⟩
     · obtain⟨kr',h1,h2⟩:=rho_mem h;exact⟨kr',List.mem_cons_of_mem _ h1,h2⟩
   · obtain⟨kr',h1,h2⟩:=rho_mem h;exact⟨kr',List.mem_cons_of_mem _ h1,h2⟩
theorem mem_rho {kr:KRow} {r:Nat} {t:Ty} {l:List (El t)} (ho:oldOf st kr=.hot r t l):∀{rows:List KRow},kr∈rows→r∈(rho st rows).map (·.1)
 | kr'::rows,h=>by
   simp only [rho]
   rcases List.mem_cons.1 h with e | h
   · subst e;rw [ho];simp
   · have:=mem_rho ho h
     split
     · exact List.mem_cons_of_mem _ this
     · exact this
theorem mem_cold {kr:KRow} {r:Nat} (ho:oldOf st kr=.cold r):∀{rows:List KRow},kr∈rows→r∈coldOlds st rows
 | kr'::rows,h=>by
   simp only [coldOlds]
   rcases List.mem_cons.1 h with e | h
   · subst e;rw [ho];simp
   · have:=mem_cold ho h
     split
     · exact List.mem_cons_of_mem _ this
     · exact this
theorem rho_inj {r:Nat} {t t':Ty} {l:List (El t)} {l':List (El t')} {kr kr':KRow}:∀{rows:List KRow},((rho st rows).map (·.1)).Nodup→kr∈rows→kr'∈rows→oldOf st kr=.hot r t l→oldOf st kr'=.hot r t' l'→kr=kr'
 | k0::rows,hn,h,h',ho,ho'=>by
   rcases List.mem_cons.1 h with e | h1<;>rcases List.mem_cons.1 h' with e' | h1'
   · rw [e,e']
   · subst e
     simp only [rho,ho,List.map_cons,List.nodup_cons] at hn
     exact absurd (mem_rho ho' h1') hn.1
   · subst e'
     simp only [rho,ho',List.map_cons,List.nodup_cons] at hn
     exact absurd (mem_rho ho h1) hn.1
   · refine rho_inj (rows:=rows) ?_ h1 h1' ho ho'
     simp only [rho] at hn
     split at hn
     · exact (List.nodup_cons.1 hn).2
     · exact hn
theorem cold_inj {r:Nat} {kr kr':KRow}:∀{rows:List KRow},(coldOlds st rows).Nodup→kr∈rows→kr'∈rows→oldOf st kr=.cold r→oldOf st kr'=.cold r→kr=kr'
 | k0::rows,hn,h,h',ho,ho'=>by
   rcases List.mem_cons.1 h with e | h1<;>rcases List.mem_cons.1 h' with e' | h1'
   · rw [e,e']
   · subst e
     simp only [coldOlds,ho,List.nodup_cons] at hn
     exact absurd (mem_cold ho' h1') hn.1
   · subst e'
     simp only [coldOlds,ho',List.nodup_cons] at hn
     exact absurd (mem_cold ho h1) hn.1
   · refine cold_inj (rows:=rows) ?_ h1 h1' ho ho'
     simp only [coldOlds] at hn
     split at hn
     · exact (List.nodup_cons.1 hn).2
     · exact hn
theorem findK_mem {b:Bool} {s i:Nat} {kr:KRow}:∀{rows:List KRow},findK rows b s i=some kr→kr∈rows∧kr.bx=b∧kr.s=s∧kr.i=i
 | [],h=>by cases h
 | k0::rows,h=>by
   simp only [findK] at h
   split at h
   · rename_i hc;cases h;exact⟨by simp,hc⟩
   · obtain⟨h1,h2⟩:=findK_mem h;exact⟨List.mem_cons_of_mem _ h1,h2⟩
theorem findKey_mem {kr:KRow}:∀{rows:List KRow},(rows.map (·.k)).Nodup→kr∈rows→findKey rows kr.k=some kr
 | k0::rows,hn,h=>by
   simp only [List.map_cons,List.nodup_cons] at hn
   simp only [findKey]
   rcases List.mem_cons.1 h with e | h
   · subst e;simp
   · have:k0.k≠kr.k:=fun e=>hn.1 (List.mem_map.2 ⟨kr,h,e.symm⟩)
     rw [if_neg this];exact findKey_mem hn.2 h
theorem reRows_mem {k:Nat} {rv:RowV}:∀{rows:List KRow},look k (reRows st rows)=some rv→∃kr∈rows,kr.k=k∧reRow st kr=some rv
 | [],h=>by cases h
 | kr::rows,h=>by
   simp only [reRows] at h
   split at h
   · rename_i rv' hv
     rw [look_cons] at h
     split at h
     · rename_i e;cases h;exact⟨kr,by simp,e,hv⟩
     · obtain⟨kr',h1,h2⟩:=reRows_mem h;exact⟨kr',List.mem_cons_of_mem _ h1,h2⟩
   · obtain⟨kr',h1,h2⟩:=reRows_mem h;exact⟨kr',List.mem_cons_of_mem _ h1,h2⟩
theorem unC_rep {rows rows':List (Nat×RowV)} {σ':Sg} {vs:List Value} {cs:List CellV} (h:All2 (RdT σ rows M) vs cs):All2 (RdT σ' rows' M) vs (unC cs):=by
 induction h with
 | nil=>exact .nil
 | @cons v c vs cs hx hr ih=>
   cases c with
   | lst t l tag=>exact .cons ⟨hx.1,trivial⟩ ih
   | int k n=>exact .cons ⟨hx.1,trivial⟩ ih
   | bool b=>exact .cons ⟨hx.1,trivial⟩ ih
   | str s=>exact .cons ⟨hx.1,trivial⟩ ih
   | emp t=>exact .cons ⟨hx.1,hx.2⟩ ih
   | _=>exact .cons ⟨hx.1,trivial⟩ ih
theorem unC_ptr {rows rows':List (Nat×RowV)} {σ':Sg} {v:Value} {cs:List CellV} (h:RepPtr σ rows M v cs):RepPtr σ' rows' M v (unC cs):=by
 obtain⟨ad,hv,hc⟩:=h
 obtain⟨vs,h1,h2⟩:=ptr_cells (σ:=σ) (rows:=rows) (ad:=ad) (cs:=cs) (o:=0) (by simpa using hc)
 refine⟨ad,hv,fun j c hj=>?_⟩
 obtain⟨u,hu,hr⟩:=(unC_rep (σ':=σ') (rows':=rows') h1).get hj
 exact⟨u,by simpa using h2 j u hu,hr⟩
theorem look_reSlots (kp:Keep) (ρ:List (Nat×Nat)) (st:St) (i:Nat):∀l,look i (reSlots kp ρ st l)=if i∈l then some (reS kp ρ st i (resSv st.rows (st.get i))) else none
 | []=>rfl
 | s::l=>by
   simp only [reSlots,look_cons,look_reSlots kp ρ st i l,List.mem_cons]
   by_cases h:s=i
   · subst h;simp
   · simp [h,Ne.symm h]
theorem look_reBoxes (kp:Keep) (ρ:List (Nat×Nat)) (st:St) (k:Nat):∀l,look k (reBoxes kp ρ st l)=if k∈l then (st.box k).map (fun cs=>reCs kp ρ true k 0 (resCs st.rows cs)) else none
 | []=>rfl
 | b::l=>by
   simp only [reBoxes]
   cases hb:st.box b with
   | none=>
     rw [look_reBoxes kp ρ st k l]
     by_cases h:k=b
     · subst h;simp [hb]
     · simp [h]
   | some cs=>
     rw [look_cons,look_reBoxes kp ρ st k l]
     by_cases h:b=k
     · subst h;simp [hb]
     · simp [h,Ne.symm h]
end Go.Proofs.Ytgfgenbmjbhphaa.Bv
namespace Go.Proofs.Ytgfgenbmjbhphaa.Bv
set_option linter.unusedVariables false
set_option linter.unusedSimpArgs false
variable {P:Program} {base:World} {M0:Mem} {ios:Ios} {σ:Sg} {M:Mem} {w:World} {a:Act} {st:St} {tab:Tab} {Γ:Gam}
noncomputable def reSg (σ:Sg) (w:World) (a:Act) (st:St) (rows:List KRow):Sg where
 box:=σ.box
 row:=fun k=>match findKey rows k with | some kr=>valAt σ w a kr | none=>σ.row k
 foot:=fun k=>match findKey rows k with | some kr=>(match oldOf st kr with | .hot r _ _=>σ.foot r | _=>[]) | none=>[]
 mem:=fun k=>match findKey rows k with | some kr=>(match oldOf st kr with | .hot r _ _=>σ.mem r | _=>fun _=>none) | none=>fun _=>none
structure RenF (tab:Tab) (σ:Sg) (w:World) (a:Act) (st:St) (rows:List KRow):Prop where
 keys:(rows.map (·.k)).Nodup
 hots:((rho st rows).map (·.1)).Nodup
 colds:(coldOlds st rows).Nodup
 ok:∀kr∈rows,rowOk tab st kr=true
 row:∀kr∈rows,(reSg σ w a st rows).row kr.k=valAt σ w a kr
 hotv:∀kr∈rows,∀r t l,oldOf st kr=.hot r t l→valAt σ w a kr=σ.row r∧(reSg σ w a st rows).foot kr.k=σ.foot r∧(reSg σ w a st rows).mem kr.k=σ.mem r
 nilv:∀kr∈rows,∀t,oldOf st kr=.nil t→(∃ad,valAt σ w a kr=.slice ad 0 0)∧(reSg σ w a st rows).foot kr.k=[]∧(reSg σ w a st rows).mem kr.k=fun _=>none
 coldv:∀kr∈rows,∀r,oldOf st kr=.cold r→r≠0∧st.row r=some kr.e∧valAt σ w a kr=σ.row r
 cnilv:∀kr∈rows,oldOf st kr=.cnil→valAt σ w a kr=.slice none 0 0
theorem renF (hS:Sim P base M0 ios σ M w a st) {kp:Keep} (h:renameOk tab kp st=true):RenF tab σ w a st kp.rows:=by
 unfold renameOk at h
 simp only [Bool.and_eq_true,List.all_eq_true] at h
 obtain⟨⟨⟨h1,h2⟩,h3⟩,h4⟩:=h
 have hk:=nodup_of h2
 have fk:=fun kr (hm:kr∈kp.rows)=>findKey_mem hk hm
 refine⟨hk,nodup_of h3,nodup_of h4,h1,fun kr hm=>?_,fun kr hm r t l ho=>⟨?_,?_,?_⟩,fun kr hm t ho=>⟨?_,?_,?_⟩,fun kr hm r ho=>?_,fun kr hm ho=>?_⟩
 · simp only [reSg,fk kr hm]
 · have hs:=oldOf_spec st kr
   rw [ho] at hs
   obtain⟨_,hp,ver,z,hl⟩:=hs
   exact (place_rep hS hp).2 (by rw [hl];rfl)
 · simp only [reSg,fk kr hm,ho]
 · simp only [reSg,fk kr hm,ho]
 · have hs:=oldOf_spec st kr
   rw [ho] at hs
   rcases hs.2 with hp | hp
   · exact⟨none,by have:=(place_rep hS hp).2;simpa [tagOk] using this⟩
   · exact (place_rep hS hp).2
 · simp only [reSg,fk kr hm,ho]
 · simp only [reSg,fk kr hm,ho]
 · have hs:=oldOf_spec st kr
   rw [ho] at hs
   obtain⟨_,h0,t,l,hp,hr⟩:=hs
   refine⟨h0,hr,?_⟩
   have:=(place_rep hS hp).2
   simp only [tagOk,if_neg h0] at this
   obtain⟨rv,hl,_⟩:=coldOf_of hr
   exact this (by rw [hl];rfl)
 · have hs:=oldOf_spec st kr
   rw [ho] at hs
   obtain⟨_,t,l,hp⟩:=hs
   have:=(place_rep hS hp).2
   simpa [tagOk] using this
theorem reC1_rep (hS:Sim P base M0 ios σ M w a st) {rows:List KRow} (F:RenF tab σ w a st rows) {rows':List (Nat×RowV)} {v:Value} {c:CellV} (h:RdT σ st.rows M v c):RdT (reSg σ w a st rows) rows' M v (reC1 (rho st rows) c):=by
 have hk:∀{r k:Nat},look r (rho st rows)=some k→(reSg σ w a st rows).row k=σ.row r∧(look r st.rows).isSome=true:=fun {r k} hl=>by
  obtain⟨kr,hm,e,t,l,ho⟩:=rho_mem hl
  subst e
  have hs:=oldOf_spec st kr
  rw [ho] at hs
  obtain⟨_,_,ver,z,hl⟩:=hs
  exact⟨by rw [F.row kr hm,(F.hotv kr hm r t l ho).1],by rw [hl];rfl⟩
 cases c with
 | lst t l tag=>exact⟨h.1,trivial⟩
 | int k n=>exact⟨h.1,trivial⟩
 | bool b=>exact⟨h.1,trivial⟩
 | str s=>exact⟨h.1,trivial⟩
 | emp t=>exact⟨h.1,h.2⟩
 | und=>exact⟨h.1,trivial⟩
 | bor t l r ver p=>exact⟨h.1,trivial⟩
 | own t r=>
   simp only [reC1]
   split
   · rename_i k hl
     obtain⟨e1,e2⟩:=hk hl
     exact⟨h.1,fun _=>by rw [e1];exact h.2 e2⟩
   · exact⟨h.1,trivial⟩
 | sub t r lo hi=>
   simp only [reC1]
   split
   · rename_i k hl
     obtain⟨e1,e2⟩:=hk hl
     exact⟨h.1,fun _=>by rw [e1];exact h.2 e2⟩
   · exact⟨h.1,trivial⟩
theorem reCk_rep {rows:List KRow} (F:RenF tab σ w a st rows) {kr:KRow} (hm:kr∈rows) {rows':List (Nat×RowV)} {v:Value} {c:CellV} (hp:placeC st kr=some c) (hv:valAt σ w a kr=v) (h:RdT σ st.rows M v c):RdT (reSg σ w a st rows) rows' M v (reCk kr c):=by
 have hrow:v=(reSg σ w a st rows).row kr.k:=by rw [F.row kr hm,hv]
 have hk0:kr.k≠0:=by
  have:=F.ok kr hm
  simp only [rowOk,Bool.and_eq_true,Bool.not_eq_true',beq_eq_false_iff_ne] at this
  exact this.1
 have hown:∀t,v.oneCell'=true→RdT (reSg σ w a st rows) rows' M v (.own t kr.k):=fun t h1=>⟨h1,fun _=>hrow⟩
 have h1:v.oneCell'=true:=h.1.oneCell
 cases c with
 | own t r=>
   simp only [reCk]
   cases kr.hot
   · exact⟨h1,trivial⟩
   · exact hown t h1
 | emp t=>
   simp only [reCk]
   cases kr.hot
   · exact⟨h1,trivial⟩
   · exact hown t h1
 | lst t l tag=>
   simp only [reCk]
   cases kr.hot
   · refine⟨h.1,?_⟩
     simp only [cond_false,tagOk,if_neg hk0]
     exact fun _=>hrow
   · exact hown t h1
 | _=>exact⟨h1,trivial⟩
theorem reCs_rep (hS:Sim P base M0 ios σ M w a st) {kp:Keep} (F:RenF tab σ w a st kp.rows) {rows':List (Nat×RowV)} {b:Bool} {s:Nat} {vs:List Value} {cs:List CellV} (h:All2 (RdT σ st.rows M) vs cs):∀(i:Nat),
 (∀(j:Nat) (kr:KRow) (v:Value) (c:CellV),vs[j]?=some v→cs[j]?=some c→kr∈kp.rows→kr.bx=b→kr.s=s→kr.i=i+j→placeC st kr=some c∧valAt σ w a kr=v)→All2 (RdT (reSg σ w a st kp.rows) rows' M) vs (reCs kp (rho st kp.rows) b s i cs):=by
 induction h with
 | nil=>intro i _;exact .nil
 | @cons v c vs cs hx hr ih=>
   intro i hk
   have ih':=ih (i+1) (fun j kr u d hu hd hm e1 e2 e3=>hk (j+1) kr u d (by simpa using hu) (by simpa using hd) hm e1 e2 (by omega))
   simp only [reCs]
   refine .cons ?_ ih'
   split
   · rename_i kr hf
     obtain⟨hm,e1,e2,e3⟩:=findK_mem hf
     obtain⟨h1,h2⟩:=hk 0 kr v c (by simp) (by simp) hm e1 e2 (by omega)
     exact reCk_rep F hm h1 h2 hx
   · exact reC1_rep hS F hx
theorem reCaps_rep {kp:Keep} {σ':Sg} (hb:σ'.box=σ.box) {rows':List (Nat×RowV)} {boxes':List (Nat×List CellV)} (hbx:∀k,k∈kp.boxes→(st.box k).isSome=true→(look k boxes').isSome=true) {vs:List Value} {l:List Cap} (h:All2 (RepCap σ st.rows st.boxes M) vs l):∀{l'},reCaps kp st l=some l'→All2 (RepCap σ' rows' boxes' M) vs l':=by
 induction h with
 | nil=>intro l' e;cases e;exact .nil
 | @cons v c vs l hx hr ih=>
   intro l' e
   cases c with
   | box k off=>
     simp only [reCaps] at e
     split at e
     · rename_i r hc h2
       cases e
       rw [Bool.and_eq_true] at hc
       exact .cons ⟨by rw [hb];exact hx.1,hbx k (by simpa using hc.1) hc.2⟩ (ih h2)
     · cases e
   | ptr cs=>
     simp only [reCaps] at e
     split at e
     · rename_i r h2
       cases e
       exact .cons (unC_ptr hx) (ih h2)
     · cases e
theorem Sim.rename (hT:TabOk P tab) (hS:Sim P base M0 ios σ M w a st) {kp:Keep} (h:renameOk tab kp st=true):∃σ',Sim P base M0 ios σ' M w a (Bv.rename kp st):=by
 have F:=renF hS h
 have hrowof:∀{k:Nat} {rv:RowV},look k (reRows st kp.rows)=some rv→∃kr∈kp.rows,kr.k=k∧reRow st kr=some rv:=fun hl=>reRows_mem hl
 have hbox:∀k,((Bv.rename kp st).box k).isSome=true→(st.box k).isSome=true:=fun k hs=>by
  have e:(Bv.rename kp st).box k=if k∈kp.boxes then _ else none:=look_reBoxes kp _ st k kp.boxes
  rw [e] at hs
  split at hs
  · simpa using hs
  · cases hs
 have hhot:∀{k:Nat},isHot k (Bv.rename kp st).rows→∃kr∈kp.rows,kr.k=k∧((∃r t l,oldOf st kr=.hot r t l∧isHot r st.rows∧(reSg σ w a st kp.rows).foot k=σ.foot r)∨(reSg σ w a st kp.rows).foot k=[]):=fun {k} ⟨e,t,l,ver,hole,z,hl⟩=>by
  obtain⟨kr,hm,ek,hrr⟩:=hrowof hl
  subst ek
  refine⟨kr,hm,rfl,?_⟩
  unfold reRow at hrr
  split at hrr
  · rename_i r t' l' ho
    have hs:=oldOf_spec st kr
    rw [ho] at hs
    obtain⟨_,_,ver,z,hl⟩:=hs
    exact .inl ⟨r,t',l',ho,⟨_,_,_,_,_,_,hl⟩,(F.hotv kr hm r t' l' ho).2.1⟩
  · rename_i t' ho;exact .inr (F.nilv kr hm t' ho).2.1
  · cases hrr
  · cases hrr
  · cases hrr
 have hcold:∀{k:Nat} {e:TypeId},(Bv.rename kp st).row k=some e→∃kr∈kp.rows,kr.k=k∧kr.e=e∧((∃r,oldOf st kr=.cold r∧st.row r=some e∧(reSg σ w a st kp.rows).row k=σ.row r)∨((reSg σ w a st kp.rows).row k=.slice none 0 0∧(look e tab).isSome=true)):=fun {k e} hr=>by
  obtain⟨rv,hl,hc⟩:=coldOf_of hr
  obtain⟨kr,hm,ek,hrr⟩:=hrowof hl
  subst ek
  unfold reRow at hrr
  split at hrr
  · cases hrr;cases hc
  · cases hrr;cases hc
  · rename_i r ho
    cases hrr;cases hc
    obtain⟨_,h2,h3⟩:=F.coldv kr hm r ho
    exact⟨kr,hm,rfl,rfl,.inl ⟨r,ho,h2,by rw [F.row kr hm,h3]⟩⟩
  · rename_i ho
    cases hrr;cases hc
    have hok:=F.ok kr hm
    simp only [rowOk,ho,Bool.and_eq_true] at hok
    exact⟨kr,hm,rfl,rfl,.inr ⟨by rw [F.row kr hm,F.cnilv kr hm ho],hok.2.2⟩⟩
  · cases hrr
 refine⟨reSg σ w a st kp.rows,?_⟩
 exact {
  mem:=hS.mem
  nt:=hS.nt
  slots:=fun i=>by
   have hget:(Bv.rename kp st).get i=if i∈kp.hold++kp.slots then reS kp (rho st kp.rows) st i (resSv st.rows (st.get i)) else .und:=by
    simp only [St.get,Bv.rename,look_reSlots]
    split
    · rename_i sv hs
      split at hs
      · rename_i hm;rw [if_pos hm];cases hs;rfl
      · cases hs
    · rename_i hs
      split at hs
      · cases hs
      · rename_i hm;rw [if_neg hm]
   rw [hget]
   split
   · have hs:=resSv_rep hS (fun _ _ h=>h) (hS.slots i)
     have hbx:∀k,k∈kp.boxes→(st.box k).isSome=true→(look k (Bv.rename kp st).boxes).isSome=true:=fun k h1 h2=>by
      have e:look k (Bv.rename kp st).boxes=if k∈kp.boxes then _ else none:=look_reBoxes kp _ st k kp.boxes
      rw [e,if_pos h1];simpa using h2
     cases hg:resSv st.rows (st.get i) with
     | und=>trivial
     | nil=>rw [hg] at hs;exact hs
     | tup l=>trivial
     | bptr cs r ver=>trivial
     | ptr cs=>rw [hg] at hs;exact unC_ptr hs
     | fn f x y=>
       rw [hg] at hs
       obtain⟨va,vb,hv,h1,h2⟩:=hs
       simp only [reS]
       split
       · rename_i x' y' e1 e2
         exact⟨va,vb,hv,reCaps_rep (σ:=σ) (σ':=reSg σ w a st kp.rows) rfl hbx h1 e1,reCaps_rep (σ:=σ) (σ':=reSg σ w a st kp.rows) rfl hbx h2 e2⟩
       · trivial
     | hp t r j off=>
       rw [hg] at hs
       simp only [reS]
       split
       · rename_i k hl
         obtain⟨kr,hm,e,t',l',ho⟩:=rho_mem hl
         subst e
         have hsp:=oldOf_spec st kr
         rw [ho] at hsp
         obtain⟨_,_,ver,z,hl⟩:=hsp
         intro _
         rw [F.row kr hm,(F.hotv kr hm r t' l' ho).1]
         exact hs (by rw [hl];rfl)
       · trivial
     | box k off=>
       rw [hg] at hs
       simp only [reS]
       split
       · rename_i hc
         rw [Bool.and_eq_true] at hc
         exact⟨hs.1,hbx k (by simpa using hc.1) hc.2⟩
       · trivial
     | val ag cs=>
       rw [hg] at hs
       refine⟨reCs_rep hS F hs.1 0 (fun j kr v c hv hc hm e1 e2 e3=>?_),hs.2⟩
       rw [Nat.zero_add] at e3
       subst e2;subst e3
       constructor
       · unfold placeC slotC
         rw [e1,hg];exact hc
       · unfold valAt
         rw [e1]
         exact getD_of hv
   · trivial
  boxes:=fun k cs hk=>by
   have e:(Bv.rename kp st).box k=if k∈kp.boxes then _ else none:=look_reBoxes kp _ st k kp.boxes
   rw [e] at hk
   split at hk
   · cases hb:st.box k with
     | none=>rw [hb] at hk;cases hk
     | some cs'=>
       rw [hb] at hk
       cases hk
       obtain⟨arr,E,h1,h2⟩:=hS.boxes k cs' hb
       refine⟨arr,E,h1,reCs_rep hS F (resCs_rep hS (fun _ _ h=>h) h2) 0 (fun j kr v c hv hc hm e1 e2 e3=>?_)⟩
       rw [Nat.zero_add] at e3
       subst e2;subst e3
       constructor
       · unfold placeC boxCe
         rw [e1,hb];exact hc
       · unfold valAt
         rw [e1]
         simp only
         rw [h1]
         exact getD_of hv
   · cases hk
  boxM:=fun k hk=>hS.boxM k (hbox k hk)
  boxInj:=fun k k' h1 h2=>hS.boxInj k k' (hbox k h1) (hbox k' h2)
  boxBase:=fun k hk=>hS.boxBase k (hbox k hk)
  rows:=fun k e hr=>by
   obtain⟨kr,hm,ek,ee,hv⟩:=hcold hr
   rcases hv with⟨r,_,h1,h2⟩ | ⟨h1,h2⟩
   · rw [h2];exact hS.rows r e h1
   · rw [h1]
     obtain⟨te,hte⟩:=Option.isSome_iff_exists.1 h2
     obtain⟨inf,z,hi,_⟩:=(hT e te hte).info
     exact⟨⟨0,[],inf,hi,World.ownsRow_nil _ _ _ _,fun g hg=>by cases hg⟩⟩
  rowBox:=fun k b hr hb=>by
   obtain⟨e,he⟩:=Option.isSome_iff_exists.1 hr
   obtain⟨kr,hm,ek,ee,hv⟩:=hcold he
   rcases hv with⟨r,_,h1,h2⟩ | ⟨h1,_⟩
   · rw [h2];exact hS.rowBox r b (by rw [h1];rfl) (hbox b hb)
   · rw [h1];intro h2;cases h2
  rowInj:=fun k k' h1 h2 hne=>by
   obtain⟨e,he⟩:=Option.isSome_iff_exists.1 h1
   obtain⟨e',he'⟩:=Option.isSome_iff_exists.1 h2
   obtain⟨kr,hm,ek,ee,hv⟩:=hcold he
   obtain⟨kr',hm',ek',ee',hv'⟩:=hcold he'
   rcases hv with⟨r,ho,hre,hv⟩ | ⟨hv,_⟩
   · rcases hv' with⟨r',ho',hre',hv'⟩ | ⟨hv',_⟩
     · rw [hv,hv']
       refine hS.rowInj r r' (by rw [hre];rfl) (by rw [hre'];rfl) (fun e2=>?_)
       subst e2
       have:=cold_inj F.colds hm hm' ho ho'
       subst this
       exact hne (ek.symm.trans ek')
     · rw [hv,hv']
       cases hb:(σ.row r).ownBlock with
       | none=>exact .inl rfl
       | some g=>right;intro h3;cases h3
   · rw [hv];exact .inl rfl
  hot:={
   ok:=fun k e t l ver hole z hl=>by
    obtain⟨kr,hm,ek,hrr⟩:=hrowof hl
    subst ek
    have hok:=F.ok kr hm
    unfold reRow at hrr
    split at hrr
    · rename_i r t' l' ho
      cases hrr
      obtain⟨v1,v2,v3⟩:=F.hotv kr hm r _ _ ho
      have hs:=oldOf_spec st kr
      rw [ho] at hs
      obtain⟨_,_,ver',z',hl'⟩:=hs
      have hk:=hS.hotAt hl'
      have hrow:=F.row kr hm
      rw [v1] at hrow
      exact {
       info:=hk.info
       pos:=hk.pos
       own:=by show OwnL w t ((reSg σ w a st kp.rows).row kr.k) l ((reSg σ w a st kp.rows).foot kr.k);rw [hrow,v2];exact hk.own
       nodup:=by rw [v2];exact hk.nodup
       mem:=fun ad u hu=>by rw [v3] at hu;rw [v2,hrow];exact hk.mem ad u hu
       full:=fun _ ad u h1 h2 h3=>by rw [v2] at h1;rw [hrow] at h2;rw [v3];exact hk.full rfl ad u h1 h2 h3
       z:=fun h=>by cases h}
    · rename_i t' ho
      cases hrr
      obtain⟨⟨ad,v1⟩,v2,v3⟩:=F.nilv kr hm _ ho
      have hrow:=F.row kr hm
      rw [v1] at hrow
      simp only [rowOk,ho,Bool.and_eq_true] at hok
      have hok2:=hok.2.2
      split at hok2
      · rename_i te hte
        simp only [Bool.and_eq_true,decide_eq_true_eq] at hok2
        obtain⟨i,zz,hi,hs,_⟩:=(hT _ te hte).info
        exact {
         info:=⟨i,hi,by rw [hs,hok2.1]⟩
         pos:=hok2.2
         own:=by show OwnL w t ((reSg σ w a st kp.rows).row kr.k) [] ((reSg σ w a st kp.rows).foot kr.k);rw [hrow,v2];exact OwnL.emp ad
         nodup:=by rw [v2];exact List.nodup_nil
         mem:=fun ad u hu=>by rw [v3] at hu;cases hu
         full:=fun _ ad u h1 h2 h3=>by rw [v2] at h1;cases h1
         z:=fun h=>by cases h}
      · cases hok2
    · cases hrr
    · cases hrr
    · cases hrr
   base:=fun k hk g hg=>by
    obtain⟨kr,hm,ek,hv⟩:=hhot hk
    rcases hv with⟨r,t,l,ho,hr,hf⟩ | hf
    · rw [hf] at hg;exact hS.hot.base r hr g hg
    · rw [hf] at hg;cases hg
   noM:=fun k hk g hg=>by
    obtain⟨kr,hm,ek,hv⟩:=hhot hk
    rcases hv with⟨r,t,l,ho,hr,hf⟩ | hf
    · rw [hf] at hg;exact hS.hot.noM r hr g hg
    · rw [hf] at hg;cases hg
   noBox:=fun k hk b hb hg=>by
    obtain⟨kr,hm,ek,hv⟩:=hhot hk
    rcases hv with⟨r,t,l,ho,hr,hf⟩ | hf
    · rw [hf] at hg;exact hS.hot.noBox r hr b (hbox b hb) hg
    · rw [hf] at hg;cases hg
   noRow:=fun k hk k' hk' g hg hgf=>by
    obtain⟨kr,hm,ek,hv⟩:=hhot hk
    obtain⟨e',he'⟩:=Option.isSome_iff_exists.1 hk'
    obtain⟨kr',hm',ek',ee',hv'⟩:=hcold he'
    rcases hv' with⟨r',_,hr',hv'⟩ | ⟨hv',_⟩
    · rw [hv'] at hg
      rcases hv with⟨r,t,l,ho,hr,hf⟩ | hf
      · rw [hf] at hgf;exact hS.hot.noRow r hr r' (by rw [hr'];rfl) g hg hgf
      · rw [hf] at hgf;cases hgf
    · rw [hv'] at hg;cases hg
   apart:=fun k k' hk hk' hne g hg hg'=>by
    obtain⟨kr,hm,ek,hv⟩:=hhot hk
    obtain⟨kr',hm',ek',hv'⟩:=hhot hk'
    rcases hv with⟨r,t,l,ho,hr,hf⟩ | hf
    · rcases hv' with⟨r',t',l',ho',hr',hf'⟩ | hf'
      · rw [hf] at hg
        rw [hf'] at hg'
        refine hS.hot.apart r r' hr hr' (fun e=>?_) g hg hg'
        subst e
        have:=rho_inj F.hots hm hm' ho ho'
        subst this
        exact hne (ek.symm.trans ek')
      · rw [hf'] at hg';cases hg'
    · rw [hf] at hg;cases hg
   lt:=fun k hk g hg=>by
    obtain⟨kr,hm,ek,hv⟩:=hhot hk
    rcases hv with⟨r,t,l,ho,hr,hf⟩ | hf
    · rw [hf] at hg;exact hS.hot.lt r hr g hg
    · rw [hf] at hg;cases hg
   frz:=fun k e t l ver z hl=>by
    obtain⟨kr,hm,ek,hrr⟩:=hrowof hl
    unfold reRow at hrr
    split at hrr<;>cases hrr}
  fr:=hS.fr
  defers:=hS.defers
  old:=hS.old
  le:=hS.le
  pin:=hS.pin
  pins:=fun p hp hs=>by
   obtain⟨rv,hl⟩:=Option.isSome_iff_exists.1 hs
   obtain⟨kr,hm,ek,hrr⟩:=hrowof hl
   have heven:=ios.even p hp
   have hok:=F.ok kr hm
   have hrow:=F.row kr hm
   rw [←ek]
   rw [hrow]
   rw [←ek] at heven
   simp only [rowOk,Bool.and_eq_true] at hok
   have hok2:=hok.2
   have hsp:=oldOf_spec st kr
   cases ho:oldOf st kr with
   | bad=>rw [ho] at hok2;cases hok2
   | nil t=>rw [ho] at hok2;simp only [Bool.and_eq_true,beq_iff_eq] at hok2;omega
   | cnil=>rw [ho] at hok2;simp only [Bool.and_eq_true,beq_iff_eq] at hok2;omega
   | hot r t l=>
     rw [ho] at hok2 hsp
     simp only [Bool.or_eq_true,beq_iff_eq] at hok2
     obtain⟨_,_,ver,z,hl'⟩:=hsp
     have e:r=kr.k:=by omega
     rw [(F.hotv kr hm r t l ho).1,e]
     have:=hS.pins p hp (by rw [←ek,←e,hl'];rfl)
     rw [←ek] at this;exact this
   | cold r=>
     rw [ho] at hok2
     simp only [Bool.and_eq_true,Bool.or_eq_true,beq_iff_eq] at hok2
     have e:r=kr.k:=by omega
     obtain⟨_,h2,h3⟩:=F.coldv kr hm r ho
     rw [h3,e]
     obtain⟨rv',hl',_⟩:=coldOf_of h2
     have:=hS.pins p hp (by rw [←ek,←e,hl'];rfl)
     rw [←ek] at this;exact this
  olds:=fun i hi=>by cases hi}
theorem Sim.weaken (hT:TabOk P tab) (hS:Sim P base M0 ios σ M w a st) {kp:Keep} (h:keepOk tab kp st=true):∃σ' M',Sim P base M0 ios σ' M' w a (Bv.weaken kp st):=by
 unfold keepOk at h
 rw [Bool.and_eq_true] at h
 obtain⟨h1,h2⟩:=h
 have hfz:∀p∈loose kp st,∃e t l ver z,p.2=.frz e t l ver z∧look p.1 st.rows=some (.hot e t l ver none z):=fun p hp=>frz_mem hp
 obtain⟨M',hS'⟩:=hS.freezes hfz (nodup_of h1)
 have:ready kp st=frzSt (loose kp st) st:=by
  unfold ready
  split
  · rename_i he;rw [he];rfl
  · rfl
 unfold Bv.weaken
 rw [this] at h2 ⊢
 obtain⟨σ',hS2⟩:=hS'.rename hT h2
 exact⟨σ',M',hS2⟩
end Go.Proofs.Ytgfgenbmjbhphaa.Bv
namespace Go.Proofs.Ytgfgenbmjbhphaa.Bv
set_option linter.unusedVariables false
set_option linter.unusedSimpArgs false
structure LoopAnn where
 kp:Keep
 T:Ty
 I:St→El T→Prop
 μ:St→El T→Nat
def cellAt (st:St) (s i:Nat):Option CellV:=match st.get s with
 | .val _ cs=>cs[i]?
 | .ptr cs=>cs[i]?
 | _=>none
def intC:Option CellV→Int
 | some (.int _ n)=>n
 | _=>0
def leafB:CellV→Bool
 | .int ..=>true
 | .bool _=>true
 | .str _=>true
 | .lst ..=>true
 | _=>false
def leafCs:List CellV→List CellV
 | []=>[]
 | c::l=>match leafB c with
   | true=>c::leafCs l
   | false=>leafCs l
def leavesS (s:St):List Nat→Option (List CellV)
 | []=>some []
 | i::l=>match s.get i,leavesS s l with
   | .val _ cs,some r=>some (leafCs cs++r)
   | _,_=>none
def leavesB (s:St):List Nat→Option (List CellV)
 | []=>some []
 | b::l=>match s.box b,leavesB s l with
   | some cs,some r=>some (leafCs cs++r)
   | _,_=>none
def leavesR (s:St):List KRow→Option (List CellV)
 | []=>some []
 | kr::l=>match look kr.k s.rows,leavesR s l with
   | some (.hot _ t l _ _ _),some r=>some (.lst t l none::r)
   | some (.cold _),some r=>some r
   | _,_=>none
def leaves (kp:Keep) (s:St):Option (List CellV):=match leavesS s kp.slots,leavesB s kp.boxes,leavesR s kp.rows with
 | some a,some b,some c=>some (a++(b++c))
 | _,_,_=>none
def fillC1:CellV→CellV→Option CellV
 | .int k _,.int k' n=>if k=k' then some (.int k n) else none
 | .bool _,.bool b=>some (.bool b)
 | .str _,.str s=>some (.str s)
 | .lst t _ tag,.lst t' l _=>if t=t' then some (.lst t' l tag) else none
 | _,_=>none
def fillCs:List CellV→List CellV→Option (List CellV×List CellV)
 | [],cs=>some ([],cs)
 | c::sh,cs=>match leafB c with
   | true=>match cs with
     | v::cs=>match fillC1 c v,fillCs sh cs with
       | some c',some (r,cs')=>some (c'::r,cs')
       | _,_=>none
     | []=>none
   | false=>match fillCs sh cs with
     | some (r,cs')=>some (c::r,cs')
     | none=>none
def fillS (s0:St):List Nat→List CellV→Option (List (Nat×Sv)×List CellV)
 | [],cs=>some ([],cs)
 | s::l,cs=>match s0.get s with
   | .val ag sh=>match fillCs sh cs with
     | some (c,r)=>match fillS s0 l r with
       | some (sl,r')=>some ((s,.val ag c)::sl,r')
       | none=>none
     | none=>none
   | _=>none
def fillB (s0:St):List Nat→List CellV→Option (List (Nat×List CellV)×List CellV)
 | [],cs=>some ([],cs)
 | b::l,cs=>match s0.box b with
   | some sh=>match fillCs sh cs with
     | some (c,r)=>match fillB s0 l r with
       | some (sl,r')=>some ((b,c)::sl,r')
       | none=>none
     | none=>none
   | _=>none
def fillR (s0:St):List KRow→List CellV→Option (List (Nat×RowV)×List CellV)
 | [],cs=>some ([],cs)
 | kr::l,cs=>match look kr.k s0.rows with
   | some (.hot e t _ ver hole z)=>match cs with
     | .lst t' x _::cs=>match decide (t'=t),fillR s0 l cs with
       | true,some (sl,r)=>some ((kr.k,.hot e t' x ver hole z)::sl,r)
       | _,_=>none
     | _=>none
   | some (.cold e)=>match fillR s0 l cs with
     | some (sl,r)=>some ((kr.k,.cold e)::sl,r)
     | none=>none
   | _=>none
def heldS (s:St):List Nat→List (Nat×Sv)
 | []=>[]
 | i::l=>(i,s.get i)::heldS s l
def headSt (kp:Keep) (s0:St) (cs:List CellV):Option St:=match fillS s0 kp.slots cs with
 | some (sl,r)=>match fillB s0 kp.boxes r with
   | some (bx,r')=>match fillR s0 kp.rows r' with
     | some (rw,[])=>some {nt:=s0.nt,slots:=heldS s0 kp.hold++sl,boxes:=bx,rows:=rw}
     | _=>none
   | _=>none
 | none=>none
def sameC:CellV→CellV→Bool
 | .int k _,.int k' _=>decide (k=k')
 | .bool _,.bool _=>true
 | .str _,.str _=>true
 | .lst t _ tag,.lst t' _ tag'=>decide (t=t')&&decide (tag=tag')
 | .own t r,.own t' r'=>decide (t=t')&&decide (r=r')
 | .sub t r lo hi,.sub t' r' lo' hi'=>decide (t=t')&&decide (r=r')&&decide (lo=lo')&&decide (hi=hi')
 | .emp t,.emp t'=>decide (t=t')
 | .und,.und=>true
 | _,_=>false
def sameCs:List CellV→List CellV→Bool
 | [],[]=>true
 | a::l,b::r=>sameC a b&&sameCs l r
 | _,_=>false
def sameSv:Sv→Sv→Bool
 | .val ag cs,.val ag' cs'=>decide (ag=ag')&&sameCs cs cs'
 | _,_=>false
def sameS (s0 s:St):List Nat→Bool
 | []=>true
 | i::l=>sameSv (s0.get i) (s.get i)&&sameS s0 s l
def sameB (s0 s:St):List Nat→Bool
 | []=>true
 | b::l=>(match s0.box b,s.box b with
   | some c,some c'=>sameCs c c'
   | _,_=>false)&&sameB s0 s l
def sameR (s0 s:St):List KRow→Bool
 | []=>true
 | kr::l=>(match look kr.k s0.rows,look kr.k s.rows with
   | some (.hot e t _ ver hole z),some (.hot e' t' _ ver' hole' z')=>decide (e=e')&&decide (t=t')&&decide (ver=ver')&&decide (hole=hole')&&decide (z=z')
   | some (.cold e),some (.cold e')=>decide (e=e')
   | _,_=>false)&&sameR s0 s l
def again (tab:Tab) (an:LoopAnn) (s0 st:St) (Z:El an.T→Prop):Prop:=
 match keepOk tab an.kp st with
 | true=>
   let s:=weaken an.kp st
   match decide (s0.nt=s.nt)&&sameS s0 s an.kp.slots&&sameB s0 s an.kp.boxes&&sameR s0 s an.kp.rows,leaves an.kp s with
   | true,some cs=>match unflat an.T cs with
     | some (y,[])=>heldS s0 an.kp.hold=heldS s an.kp.hold∧Z y
     | _=>False
   | _,_=>False
 | false=>False
def headV (an:LoopAnn) (s0:St) (x:El an.T) (F:St→Prop):Prop:=match headSt an.kp s0 (flat an.T x) with
 | some st=>F st
 | none=>False
theorem fillC1_same {c d:CellV} (h:sameC c d=true) (hl:leafB d=true):fillC1 c (unT d)=some d∧leafB c=true:=by
 cases c<;>cases d<;>simp [sameC] at h<;>simp [leafB] at hl
 all_goals simp [fillC1,unT,h,leafB]
theorem same_other {c d:CellV} (h:sameC c d=true) (hl:leafB d=false):c=d∧leafB c=false:=by
 cases c<;>cases d<;>simp [sameC] at h<;>simp [leafB] at hl
 all_goals simp [h,leafB]
theorem fillCs_same:∀{sh ds:List CellV} (r:List CellV),sameCs sh ds=true→fillCs sh ((leafCs ds).map unT++r)=some (ds,r)
 | [],[],r,_=>rfl
 | c::sh,[],r,h=>by simp [sameCs] at h
 | [],d::ds,r,h=>by simp [sameCs] at h
 | c::sh,d::ds,r,h=>by
   simp only [sameCs,Bool.and_eq_true] at h
   cases hl:leafB d with
   | true=>
     obtain⟨h1,h2⟩:=fillC1_same h.1 hl
     simp only [leafCs,hl,List.map_cons,List.cons_append,fillCs,h2,h1,fillCs_same r h.2]
   | false=>
     obtain⟨h1,h2⟩:=same_other h.1 hl
     simp only [leafCs,hl,fillCs,h2,fillCs_same r h.2,h1]
theorem fillS_same {s0 s:St}:∀{l:List Nat} {cs:List CellV} (r:List CellV),sameS s0 s l=true→leavesS s l=some cs→fillS s0 l (cs.map unT++r)=some (heldS s l,r)
 | [],cs,r,_,e=>by simp only [leavesS,Option.some.injEq] at e;subst e;rfl
 | i::l,cs,r,h,e=>by
   simp only [sameS,Bool.and_eq_true] at h
   simp only [leavesS] at e
   split at e
   · rename_i ag c r' h1 h2
     cases e
     have hs:=h.1
     rw [h1] at hs
     cases hw:s0.get i with
     | val ag' sh=>
       rw [hw] at hs
       simp only [sameSv,Bool.and_eq_true,decide_eq_true_eq] at hs
       obtain⟨rfl,hs⟩:=hs
       simp only [fillS,hw,List.map_append,List.append_assoc,fillCs_same _ hs,fillS_same r h.2 h2,heldS,h1]
     | _=>rw [hw] at hs;simp [sameSv] at hs
   · cases e
def takeB (s:St):List Nat→List (Nat×List CellV)
 | []=>[]
 | b::l=>match s.box b with
   | some cs=>(b,cs)::takeB s l
   | none=>takeB s l
theorem fillB_same {s0 s:St}:∀{l:List Nat} {cs:List CellV} (r:List CellV),sameB s0 s l=true→leavesB s l=some cs→fillB s0 l (cs.map unT++r)=some (takeB s l,r)
 | [],cs,r,_,e=>by simp only [leavesB,Option.some.injEq] at e;subst e;rfl
 | b::l,cs,r,h,e=>by
   simp only [sameB,Bool.and_eq_true] at h
   simp only [leavesB] at e
   split at e
   · rename_i c r' h1 h2
     cases e
     have hs:=h.1
     rw [h1] at hs
     cases hw:s0.box b with
     | some sh=>
       rw [hw] at hs
       simp only at hs
       simp only [fillB,hw,List.map_append,List.append_assoc,fillCs_same _ hs,fillB_same r h.2 h2,takeB,h1]
     | none=>rw [hw] at hs;cases hs
   · cases e
def takeR (s:St):List KRow→List (Nat×RowV)
 | []=>[]
 | kr::l=>match look kr.k s.rows with
   | some rv=>(kr.k,rv)::takeR s l
   | none=>takeR s l
theorem fillR_same {s0 s:St}:∀{l:List KRow} {cs:List CellV} (r:List CellV),sameR s0 s l=true→leavesR s l=some cs→fillR s0 l (cs.map unT++r)=some (takeR s l,r)
 | [],cs,r,_,e=>by simp only [leavesR,Option.some.injEq] at e;subst e;rfl
 | kr::l,cs,r,h,e=>by
   simp only [sameR,Bool.and_eq_true] at h
   simp only [leavesR] at e
   split at e
   · rename_i e1 t x v ho z r' h1 h2
     cases e
     have hs:=h.1
     rw [h1] at hs
     split at hs
     · rename_i e0 t0 x0 v0 ho0 z0 e' t' x' v' ho' z' h3 h4
       cases h4
       simp only [Bool.and_eq_true,decide_eq_true_eq] at hs
       obtain⟨⟨⟨⟨q1,q2⟩,q3⟩,q4⟩,q5⟩:=hs
       subst q1;subst q2;subst q3;subst q4;subst q5
       simp only [List.map_cons,unT,List.cons_append,fillR,h3,decide_true,fillR_same r h.2 h2,takeR,h1]
     · rename_i h4;cases h4
     · cases hs
   · rename_i e1 r' h1 h2
     cases e
     have hs:=h.1
     rw [h1] at hs
     split at hs
     · rename_i h4;cases h4
     · rename_i e0 e2 h3 h4
       simp only [Option.some.injEq,RowV.cold.injEq] at h4
       subst h4
       have hs:=of_decide_eq_true hs
       subst hs
       simp only [fillR,h3,fillR_same r h.2 h2,takeR,h1]
     · cases hs
   · cases e
theorem look_heldS (s:St) (i:Nat):∀l,look i (heldS s l)=if i∈l then some (s.get i) else none
 | []=>rfl
 | j::l=>by
   simp only [heldS,look_cons,look_heldS s i l,List.mem_cons]
   by_cases h:j=i
   · subst h;simp
   · simp [h,Ne.symm h]
theorem look_takeB (s:St) (k:Nat):∀l,look k (takeB s l)=if k∈l then s.box k else none
 | []=>rfl
 | b::l=>by
   simp only [takeB]
   cases hb:s.box b with
   | none=>
     rw [look_takeB s k l]
     by_cases h:k=b
     · subst h;simp [hb]
     · simp [h]
   | some cs=>
     rw [look_cons,look_takeB s k l]
     by_cases h:b=k
     · subst h;simp [hb]
     · simp [h,Ne.symm h]
theorem look_takeR (s:St) (k:Nat):∀(l:List KRow),look k (takeR s l)=if k∈l.map (·.k) then look k s.rows else none
 | []=>rfl
 | kr::l=>by
   simp only [takeR]
   cases hb:look kr.k s.rows with
   | none=>
     rw [look_takeR s k l]
     by_cases h:k=kr.k
     · subst h;simp [hb]
     · simp [h]
   | some cs=>
     rw [look_cons,look_takeR s k l]
     by_cases h:kr.k=k
     · subst h;simp [hb]
     · simp [h,Ne.symm h]
theorem headSt_same {kp:Keep} {s0 st s:St} {cs:List CellV} (hs:s=weaken kp st) (hnt:s0.nt=s.nt) (h1:sameS s0 s kp.slots=true) (h2:sameB s0 s kp.boxes=true) (h3:sameR s0 s kp.rows=true) (hc:leaves kp s=some cs)
 (hh:heldS s0 kp.hold=heldS s kp.hold):∃s',headSt kp s0 (cs.map unT)=some s'∧Ext s s':=by
 unfold leaves at hc
 split at hc
 · rename_i ca cb cr ha hb hr
   cases hc
   have e3:=fillR_same [] h3 hr
   rw [List.append_nil] at e3
   refine⟨{nt:=s0.nt,slots:=heldS s0 kp.hold++heldS s kp.slots,boxes:=takeB s kp.boxes,rows:=takeR s kp.rows},?_,?_⟩
   · unfold headSt
     rw [List.map_append,fillS_same _ h1 ha,List.map_append]
     simp only [fillB_same _ h2 hb,e3]
   · subst hs
     refine⟨hnt.symm,fun i=>?_,fun k=>?_,fun r=>?_,fun i=>Iff.rfl⟩
     · have e:(⟨s0.nt,heldS s0 kp.hold++heldS (weaken kp st) kp.slots,takeB (weaken kp st) kp.boxes,takeR (weaken kp st) kp.rows,[]⟩:St).get i=if i∈kp.hold++kp.slots then (weaken kp st).get i else .und:=by
        simp only [St.get,hh,look_app,look_heldS,List.mem_append]
        by_cases m1:i∈kp.hold
        · simp [m1]
        · by_cases m2:i∈kp.slots
          · simp [m1,m2]
          · simp [m1,m2]
       rw [e]
       by_cases m:i∈kp.hold++kp.slots
       · rw [if_pos m]
       · rw [if_neg m]
         show (match look i (reSlots kp (rho (ready kp st) kp.rows) (ready kp st) (kp.hold++kp.slots)) with | some sv=>sv | none=>.und)=_
         rw [look_reSlots,if_neg m]
     · show look k (weaken kp st).boxes=look k (takeB (weaken kp st) kp.boxes)
       rw [look_takeB]
       split
       · rfl
       · rename_i m
         show look k (reBoxes kp _ _ kp.boxes)=_
         rw [look_reBoxes,if_neg m]
     · show look r (weaken kp st).rows=look r (takeR (weaken kp st) kp.rows)
       rw [look_takeR]
       split
       · rfl
       · rename_i m
         cases hl:look r (weaken kp st).rows with
         | none=>rfl
         | some rv=>
           obtain⟨kr,hm,e,_⟩:=reRows_mem hl
           exact absurd (List.mem_map.2 ⟨kr,hm,e⟩) m
 · cases hc
variable {P:Program} {base:World} {M0:Mem} {ios:Ios} {σ:Sg} {M:Mem} {w:World} {a:Act} {st:St} {tab:Tab} {Γ:Gam}
theorem again_sound (hT:TabOk P tab) {an:LoopAnn} {s0:St} {Z:El an.T→Prop} (h:again tab an s0 st Z) (hS:Sim P base M0 ios σ M w a st):
 ∃y s σ' M',Z y∧headSt an.kp s0 (flat an.T y)=some s∧Sim P base M0 ios σ' M' w a s:=by
 unfold again at h
 split at h
 · rename_i hk
   simp only at h
   split at h
   · rename_i cs hb hl
     split at h
     · rename_i y hy
       simp only [Bool.and_eq_true,decide_eq_true_eq] at hb
       obtain⟨⟨⟨hnt,h1⟩,h2⟩,h3⟩:=hb
       have hu:=unflat_flat _ _ _ _ hy
       simp only [List.map_nil,List.append_nil] at hu
       obtain⟨σ',M',hS'⟩:=hS.weaken hT hk
       obtain⟨s',e1,e2⟩:=headSt_same rfl hnt h1 h2 h3 hl h.1
       exact⟨y,s',σ',M',h.2,by rw [←hu];exact e1,hS'.ext e2⟩
     · exact h.elim
   · exact h.elim
 · exact h.elim
def enterV (tab:Tab) (an:LoopAnn) (st:St) (Z:St→El an.T→Prop):Prop:=again tab an (weaken an.kp st) st (Z (weaken an.kp st))
end Go.Proofs.Ytgfgenbmjbhphaa.Bv
namespace Go.Proofs.Ytgfgenbmjbhphaa.Bv
set_option linter.unusedVariables false
set_option linter.unusedSimpArgs false
inductive Ex where
 | normal
 | exit (id:Nat)
 | ret
def thenK (next:St→Prop) (K:Ex→St→Prop):Ex→St→Prop
 | .normal,st=>next st
 | .exit id,st=>K (.exit id) st
 | .ret,st=>K .ret st
def blockK (id:Nat) (K:Ex→St→Prop):Ex→St→Prop
 | .exit id',st=>if id'=id then K .normal st else K (.exit id') st
 | .normal,st=>K .normal st
 | .ret,st=>K .ret st
def vc (tab:Tab) (Γ:Gam) (L:Nat→Option LoopAnn):Code→Nat→St→(Ex→St→Prop)→Prop
 | .skip,_,st,K=>K .normal st
 | .region _ ops false,_,st,K=>match dstsIn st.nt ops.toList with
   | true=>vcOps tab Γ ops.toList ops.toList st (K .normal)
   | false=>False
 | .region _ ops true,_,st,K=>match dstsIn st.nt ops.toList with
   | true=>vcMix tab Γ ops.toList st (K .normal)
   | false=>False
 | .seq x y,p,st,K=>vc tab Γ L x (2*p) st (thenK (fun st'=>vc tab Γ L y (2*p+1) st' K) K)
 | .cond c x y,p,st,K=>match (inOf st c).sv with
   | .val false [.bool b]=>caseB b (vc tab Γ L x (2*p) st K) (vc tab Γ L y (2*p+1) st K)
   | _=>False
 | .block id c,p,st,K=>vc tab Γ L c (2*p) st (blockK id K)
 | .loop c,p,st,K=>match L p with
   | some an=>enterV tab an st fun s0 x0=>an.I st x0∧∀x,an.I st x→headV an s0 x fun s=>
      vc tab Γ L c (2*p) s (thenK (fun st'=>again tab an s0 st' fun y=>an.I st y∧an.μ st y<an.μ st x) K)
   | none=>False
 | .exit id,_,st,K=>K (.exit id) st
 | .ret,_,st,K=>K .ret st
 | _,_,_,_=>False
def toExit:Ex→Exit
 | .normal=>.normal
 | .exit id=>.exit id
 | .ret=>.ret
variable {P:Program} {base:World} {M0:Mem} {ios:Ios} {σ:Sg} {M:Mem} {w:World} {a:Act} {st:St} {tab:Tab} {Γ:Gam}
theorem least {α:Type} (R:α→Prop) (μ:α→Nat):∀n x,R x→μ x≤n→∃x,R x∧∀y,R y→μ x≤μ y:=by
 intro n
 induction n with
 | zero=>intro x hx hn;exact⟨x,hx,fun y _=>by omega⟩
 | succ n ih=>
   intro x hx hn
   by_cases h:∃y,R y∧μ y≤n
   · obtain⟨y,hy,hyn⟩:=h;exact ih y hy hyn
   · refine⟨x,hx,fun y hy=>?_⟩
     rcases Nat.lt_or_ge n (μ y) with h1 | h1
     · omega
     · exact absurd ⟨y,hy,h1⟩ h
open Classical in
theorem wp_loop_rel {α:Type} {c:Code} {Q:Exit→Act→World→Prop} (R:α→Act→World→Prop) (μ:α→Nat) {x:α} (h0:R x a w)
 (round:∀x a w,R x a w→c.wp P (Exit.then (fun a' w'=>∃y,R y a' w'∧μ y<μ x) Q) a w):(Code.loop c).wp P Q a w:=by
 let m:Act→World→Nat:=fun a w=>if h:∃x,R x a w∧∀y,R y a w→μ x≤μ y then μ h.choose else 0
 refine wp_loop (fun a w=>∃x,R x a w) m ⟨x,h0⟩ fun a w ⟨x,hx⟩=>?_
 have hl:=least (fun x=>R x a w) μ _ x hx (Nat.le_refl _)
 have hm:m a w=μ hl.choose:=dif_pos hl
 refine wp_mono (round hl.choose a w hl.choose_spec.1) fun e a' w' hq=>?_
 cases e with
 | normal=>
   obtain⟨y,hy,hlt⟩:=hq
   refine⟨⟨y,hy⟩,?_⟩
   have hl':=least (fun x=>R x a' w') μ _ y hy (Nat.le_refl _)
   have hm':m a' w'=μ hl'.choose:=dif_pos hl'
   rw [hm,hm']
   exact Nat.lt_of_le_of_lt (hl'.choose_spec.2 y hy) hlt
 | _=>exact hq
theorem vc_sound {L:Nat→Option LoopAnn} (hm:P.follows .mixedOrders=true) (hT:TabOk P tab) (hΓ:GamOk P Γ):∀(c:Code) (p:Nat) (st:St) (K:Ex→St→Prop) (Q:Exit→Act→World→Prop) (σ:Sg) (M:Mem) (w:World) (a:Act),Sim P base M0 ios σ M w a st→
 (∀e σ' M' w' a' st',Sim P base M0 ios σ' M' w' a' st'→K e st'→Q (toExit e) a' w')→vc tab Γ L c p st K→c.wp P Q a w:=by
 intro c
 induction c with
 | skip=>intro p st K Q σ M w a hS hq h;exact wp_skip (hq .normal _ _ _ _ _ hS h)
 | region id ops draw=>
   intro p st K Q σ M w a hS hq h
   cases draw with
   | true=>
     simp only [vc] at h
     split at h
     · rename_i hd
       unfold vcMix at h
       have hl0:∀j,(Array.replicate ops.size false).getD j false=false:=fun j=>by
        rw [Array.getD_eq_getD_getElem?,Array.getElem?_replicate];split<;>rfl
       have hu0:unl ops.size (Array.replicate ops.size false)≤ops.size:=by
        unfold unl
        exact Nat.le_trans (List.countP_le_length) (by simp)
       split at h
       · obtain⟨outs,st',hlen,hK,hext,hgood⟩:=vcRun_spec _ _ _ h
         split at hK
         · rename_i hok
           refine wp_region_any hm (drawn_sound hT hΓ (fun _=>False) hd hlen hok (fun j o x _ hz=>hgood j o x hz) (fun σ' M' w' a' hS'=>hq .normal _ _ _ _ _ (hS'.ext hext.symm) hK) _ _ σ M _ a (by simp) hu0 ?_ (fun j hj=>hj.elim) ?_)
           · intro j hj
             rw [hl0 j] at hj;cases hj
           · rw [mixI_none (fun i _=>hl0 i)]
             exact hS.sameHeap rfl rfl rfl rfl
         · exact hK.elim
       · exact wp_region_any hm (rel_sound hT hΓ hd h (fun σ' M' w' a' st' hKK hS'=>hq .normal σ' M' w' a' st' hS' hKK) _ _ σ M _ a (by simp) hu0 hl0 (hS.sameHeap rfl rfl rfl rfl))
     · exact h.elim
   | false=>
     simp only [vc] at h
     split at h
     · rename_i hd
       exact wp_region_list (vcOps_sound hT hΓ (fun σ' M' w' a' st' hS' hK=>hq .normal σ' M' w' a' st' hS' hK) _ _ _ _ _ _ (dstsIn_spec hd) hS h)
     · exact h.elim
 | seq x y ihx ihy=>
   intro p st K Q σ M w a hS hq h
   refine wp_seq (ihx _ st _ _ σ M w a hS ?_ h)
   intro e σ' M' w' a' st' hS' hK
   cases e with
   | normal=>exact ihy _ st' K Q σ' M' w' a' hS' hq hK
   | exit id=>exact hq _ _ _ _ _ _ hS' hK
   | ret=>exact hq _ _ _ _ _ _ hS' hK
 | cond c x y ihx ihy=>
   intro p st K Q σ M w a hS hq h
   simp only [vc] at h
   split at h
   · rename_i b hb
     replace h:=caseB_to h
     have hr:=(inOf_rep (M:=M) hS c).rep
     rw [hb] at hr
     have hc:a.eval c=.bool b:=(RepVal.one hr).1
     refine wp_cond_split hc (fun e=>ihx _ st K Q σ M w a hS hq (h.1 e)) (fun e=>ihy _ st K Q σ M w a hS hq (h.2 e))
   · exact h.elim
 | block id c ih=>
   intro p st K Q σ M w a hS hq h
   refine wp_block (ih _ st _ _ σ M w a hS ?_ h)
   intro e σ' M' w' a' st' hS' hK
   cases e with
   | normal=>exact hq .normal _ _ _ _ _ hS' hK
   | exit id'=>
     simp only [blockK] at hK
     show (if id'=id then Q .normal a' w' else Q (.exit id') a' w')
     split at hK
     · rename_i e;rw [if_pos e];exact hq .normal _ _ _ _ _ hS' hK
     · rename_i e;rw [if_neg e];exact hq (.exit id') _ _ _ _ _ hS' hK
   | ret=>exact hq .ret _ _ _ _ _ hS' hK
 | loop c ih=>
   intro p st K Q σ M w a hS hq h
   simp only [vc] at h
   split at h
   · rename_i an _
     obtain⟨x0,s0,σ0,M0',⟨hI0,hround⟩,hs0,hS0⟩:=again_sound hT h hS
     refine wp_loop_rel (fun x a w=>an.I st x∧∃s σ M,headSt an.kp (weaken an.kp st) (flat an.T x)=some s∧Sim P base M0 ios σ M w a s) (an.μ st) (x:=x0) ⟨hI0,s0,σ0,M0',hs0,hS0⟩ ?_
     rintro x a w ⟨hI,s,σ,M,hs,hS⟩
     have hb:=hround x hI
     unfold headV at hb
     rw [hs] at hb
     refine ih _ _ _ _ σ M w a hS ?_ hb
     intro e σ' M' w' a' st' hS' hK
     cases e with
     | normal=>
       obtain⟨y,s',σ2,M2,⟨hIy,hlt⟩,hs',hS2⟩:=again_sound hT hK hS'
       exact⟨y,⟨hIy,s',σ2,M2,hs',hS2⟩,hlt⟩
     | exit id=>exact hq _ _ _ _ _ _ hS' hK
     | ret=>exact hq _ _ _ _ _ _ hS' hK
   · exact h.elim
 | exit id=>intro p st K Q σ M w a hS hq h;exact wp_exit (hq (.exit id) _ _ _ _ _ hS h)
 | ret=>intro p st K Q σ M w a hS hq h;exact wp_ret (hq .ret _ _ _ _ _ hS h)
 | _=>intro p st K Q σ M w a hS hq h;exact h.elim
end Go.Proofs.Ytgfgenbmjbhphaa.Bv
namespace Go.Proofs.Ytgfgenbmjbhphaa.Bv
set_option linter.unusedVariables false
set_option linter.unusedSimpArgs false
def resCells (tab:Tab) (st:St):List ResultVar→List TypeId→Option (List (Bool×List CellV))
 | [],[]=>some []
 | .tmp t::rs,ty::tys=>match typed tab ty (st.get t) with
   | .val ag cs=>(resCells tab st rs tys).bind fun l=>some ((ag,cs)::l)
   | _=>none
 | .cell ad ty::rs,_::tys=>match st.get ad,look ty tab with
   | .box k off,some ti=>match st.box k with
     | some cs=>if off+size ti.ty≤cs.length∧(ti.agg=true∨size ti.ty=1) then (resCells tab st rs tys).bind fun l=>some ((ti.agg,(cs.drop off).take (size ti.ty))::l) else none
     | none=>none
   | _,_=>none
 | _,_=>none
def shapeOk:List (Bool×Nat)→List (Bool×List CellV)→Bool
 | [],[]=>true
 | (ag,n)::s,(ag',cs)::l=>(ag==ag')&&(cs.length==n)&&shapeOk s l
 | _,_=>false
def cellsOf:List (Bool×List CellV)→List CellV
 | []=>[]
 | p::l=>p.2++cellsOf l
def backVals (rows:List (Nat×RowV)):List (Nat×TypeId)→Option (List CellV)
 | []=>some []
 | (j,e)::l=>match look (keyA j) rows,backVals rows l with
   | some (.hot _ t x _ none _),some r=>some (.lst t x none::r)
   | _,_=>none
def ioCells (con:Con) (st:St):Option (List CellV):=match con.io with
 | true=>st.box 0
 | false=>some []
def backK (con:Con):List Nat:=con.backA.map fun p=>keyA p.1
def finK (tab:Tab) (con:Con) (rs:List ResultVar) (tys:List TypeId) (i:El con.I) (x:El con.A) (st:St):Prop:=
 match resCells tab st rs tys,ioCells con st with
 | some l,some bc=>
   let fz:=frzRows st.rows (hotKeys st.rows (borrowed (restC con.fresh 0 (cellsOf l))++borrowed (restC con.ownI 0 bc)))
   let rows:=fz++st.rows
   let cs:=resCs rows (cellsOf l)
   let ib:=resCs rows bc
   match valCs rows cs,handed rows cs con.fresh,valCs rows ib,handed rows ib con.ownI,backVals rows con.backA with
   | some cv,some ks,some iv,some iks,some bv=>match unflat con.R cv,unflat con.I iv,unflat con.B bv with
     | some (r,[]),some (i',[]),some (b',[])=>
       match shapeOk con.shR l&&nodupB (fz.map (·.1))&&nodupB (ks++(iks++backK con))&&(borrowed (restC con.fresh 0 cs)).isEmpty&&(borrowed (restC con.ownI 0 ib)).isEmpty with
       | true=>con.Post i x (r,(i',b'))
       | false=>False
     | _,_,_=>False
   | _,_,_,_,_=>False
 | _,_=>False
def bodyK (tab:Tab) (con:Con) (rs:List ResultVar) (tys:List TypeId) (i:El con.I) (x:El con.A):Ex→St→Prop
 | .normal,st=>finK tab con rs tys i x st
 | .ret,st=>finK tab con rs tys i x st
 | .exit _,_=>False
def elemB (tab:Tab) (own:List (Nat×TypeId)) (cs:List CellV):Bool:=own.all fun p=>match cs[p.1]?,look p.2 tab with
 | some (.lst t _ _),some te=>decide (te.ty=t)&&decide (0<size t)
 | _,_=>false
variable {P:Program} {base:World} {M0:Mem} {ios:Ios} {σ:Sg} {M:Mem} {w:World} {a:Act} {st:St} {tab:Tab} {Γ:Gam}
def tyC:CellV→Option Ty
 | .lst t _ _=>some t
 | _=>none
theorem flat_tys:∀(t:Ty) (x y:El t),(flat t x).map tyC=(flat t y).map tyC
 | .int _,_,_=>rfl
 | .bool,_,_=>rfl
 | .str,_,_=>rfl
 | .list _,_,_=>rfl
 | .unit,_,_=>rfl
 | .pair a b,x,y=>by simp [flat,flat_tys a x.1 y.1,flat_tys b x.2 y.2]
theorem elemsOk_of (hT:TabOk P tab) {own:List (Nat×TypeId)} {t:Ty} {x0:El t} (h:elemB tab own (flat t x0)=true) (x:El t):elemsOk P own (flat t x):=fun j e hj t' l tag hc=>by
 have h1:=List.all_eq_true.1 h (j,e) (look_mem hj)
 simp only at h1
 have hty:((flat t x0).map tyC)[j]?=some (some t'):=by rw [flat_tys t x0 x,List.getElem?_map,hc];rfl
 rw [List.getElem?_map] at hty
 split at h1
 · rename_i t0 l0 tag0 te hc0 hte
   rw [hc0] at hty
   have e1:t0=t':=by simpa [tyC] using hty
   subst e1
   simp only [Bool.and_eq_true,decide_eq_true_eq] at h1
   obtain⟨i,z,hi,hs,_⟩:=(hT e te hte).info
   exact⟨⟨i,hi,by rw [hs,h1.1]⟩,h1.2⟩
 · cases h1
def resOne (tmps:Array Value):ResultVar→Sem Value
 | .tmp t=>pure (tmps.getD t undef)
 | .cell ad t=>do loadVar t (←asAddr (tmps.getD ad undef))
theorem retVal_eq (l:List Value):(if h:l.toArray.size=1 then l.toArray[0] else Value.tuple l.toArray)=retVal l:=by
 match l with
 | []=>rfl
 | [v]=>rfl
 | v::u::r=>
   rw [dif_neg (by simp)];rfl
theorem results_eq (fn:Func) (tmps:Array Value):results fn tmps=(do let vs ←fn.results.toList.mapM (resOne tmps);pure (retVal vs)):=by
 have h:results fn tmps=(do
  let vs ←fn.results.mapM (resOne tmps)
  pure (if h:vs.size=1 then vs[0] else .tuple vs)):=by
  unfold results
  congr 1
 rw [h,Array.mapM_eq_mapM_toList,map_eq_pure_bind,bind_assoc]
 congr 1
 funext vs
 rw [pure_bind]
 congr 1
 exact retVal_eq vs
theorem res_run (hT:TabOk P tab) (hS:Sim P base M0 ios σ M w a st):∀(rs:List ResultVar) (tys:List TypeId) (l:List (Bool×List CellV)),resCells tab st rs tys=some l→
 ∃vs,(rs.mapM (resOne a.tmps)).run P w=.ok vs w∧All2 (RepVal σ st.rows M) vs l
 | [],[],l,h=>by
   simp only [resCells,Option.some.injEq] at h;subst h
   exact⟨[],by simp,.nil⟩
 | [],_::_,l,h=>by simp [resCells] at h
 | .tmp t::rs,[],l,h=>by simp [resCells] at h
 | .cell ad ty::rs,[],l,h=>by simp [resCells] at h
 | .tmp t::rs,ty::tys,l,h=>by
   simp only [resCells] at h
   split at h
   · rename_i ag cs hc
     obtain⟨r,hr,e⟩:=Option.bind_eq_some_iff.1 h
     cases e
     obtain⟨vs,h1,h2⟩:=res_run hT hS rs tys r hr
     have h3:=typed_rep (tab:=tab) ty (hS.slots t)
     rw [hc] at h3
     exact⟨a.tmps.getD t undef::vs,by simp only [List.mapM_cons,resOne,pure_bind,Sem.run_bind,h1,Result.andThen_ok,Sem.run_pure],.cons h3 h2⟩
   · cases h
 | .cell ad ty::rs,_::tys,l,h=>by
   simp only [resCells] at h
   split at h
   · rename_i k off ti hg ht
     split at h
     · rename_i cs hk
       split at h
       · rename_i hc
         obtain⟨r,hr,e⟩:=Option.bind_eq_some_iff.1 h
         cases e
         obtain⟨vs,h1,h2⟩:=res_run hT hS rs tys r hr
         have h3:=hS.slots ad
         rw [hg] at h3
         obtain⟨arr,E,hh,hcs⟩:=hS.boxes k cs hk
         have h4:=(hcs.drop off).take (size ti.ty)
         obtain⟨v,hv,hvc,hva⟩:=run_loadVar_cells (w:=w) hT ht hc.2 ((⟨σ.box k,0,none⟩:Addr).add off) ((arr.toList.drop off).take (size ti.ty))
          (by rw [List.length_take,List.length_drop,hcs.length];omega)
          (by
            intro j u hu
            rw [add_lit,add_lit,cell_of_row w (σ.box k) _ arr E (0,0) hh]
            rw [List.getElem?_take] at hu
            split at hu
            · rw [List.getElem?_drop] at hu;rw [Nat.zero_add];simpa using hu
            · cases hu)
          h4.one
         refine⟨v::vs,?_,.cons ⟨by rw [hvc];exact h4,hva⟩ h2⟩
         simp only [List.mapM_cons,resOne,h3.1,asAddr,pure_bind,Sem.run_bind,hv,h1,Result.andThen_ok,Sem.run_pure]
       · cases h
     · cases h
   · cases h
theorem All2.flatten {vs:List Value} {l:List (Bool×List CellV)} (h:All2 (RepVal σ st.rows M) vs l):All2 (RdT σ st.rows M) (vs.flatMap fun v=>v.cells.toList) (cellsOf l):=by
 induction h with
 | nil=>exact .nil
 | cons hx _ ih=>rw [List.flatMap_cons];exact hx.1.append ih
theorem resRep_of {vs:List Value} {l:List (Bool×List CellV)} (h:All2 (RepVal σ st.rows M) vs l):∀{shs:List (Bool×Nat)},shapeOk shs l=true→ResRep shs vs (vs.flatMap fun v=>v.cells.toList):=by
 induction h with
 | nil=>intro shs hs;cases shs with
   | nil=>exact .nil
   | cons sh shs=>simp [shapeOk] at hs
 | @cons v p vs l hx hr ih=>
   intro shs hs
   cases shs with
   | nil=>simp [shapeOk] at hs
   | cons sh shs=>
     obtain⟨ag,n⟩:=sh
     obtain⟨ag',cs⟩:=p
     simp only [shapeOk,Bool.and_eq_true,beq_iff_eq] at hs
     rw [List.flatMap_cons]
     refine .cons ?_ ?_ (ih hs.2)
     · have:=hx.1.length;simp at this;omega
     · rw [hs.1.1];exact hx.2
theorem handed_hot {rows:List (Nat×RowV)} {cs:List CellV} {own:List (Nat×TypeId)} {ks:List Nat} (h:handed rows cs own=some ks):∀r∈ks,∃e t l ver z,look r rows=some (.hot e t l ver none z):=fun r hr=>by
 obtain⟨a1,a2⟩:=handed_spec h
 obtain⟨j,e,t,hm,hc⟩:=a2 r hr
 obtain⟨c,y,hc',hh,_⟩:=a1 j e hm
 rw [hc] at hc';cases hc'
 obtain⟨e',l,ver,z,hl⟩:=handC_hot hh
 exact⟨_,_,_,_,_,hl⟩
theorem backVals_spec {rows:List (Nat×RowV)}:∀{own:List (Nat×TypeId)} {bv:List CellV},backVals rows own=some bv→bv.length=own.length∧bv.map unT=bv∧∀(k j:Nat) (e:TypeId),own[k]?=some (j,e)→∃e0 t l ver z,bv[k]?=some (.lst t l none)∧look (keyA j) rows=some (.hot e0 t l ver none z)
 | [],bv,h=>by simp only [backVals,Option.some.injEq] at h;subst h;exact⟨rfl,rfl,fun k j e hk=>by simp at hk⟩
 | (j,e)::own,bv,h=>by
   simp only [backVals] at h
   split at h
   · rename_i e0 t x ver z r hl hr
     cases h
     obtain⟨h1,h2,h3⟩:=backVals_spec hr
     refine⟨by simp [h1],by simp [unT,h2],fun k j' e' hk=>?_⟩
     cases k with
     | zero=>simp at hk;obtain⟨rfl,rfl⟩:=hk;exact⟨e0,t,x,ver,z,by simp,hl⟩
     | succ k=>simp at hk;obtain⟨e1,t1,l1,v1,z1,q1,q2⟩:=h3 k j' e' hk;exact⟨e1,t1,l1,v1,z1,by simpa using q1,q2⟩
   · cases h
theorem blks_keys {own:List (Nat×TypeId)} (f:Nat→Nat):blks own (fun j=>σ.foot (f j))=foots σ (own.map fun p=>f p.1):=by
 unfold blks foots
 rw [List.map_map];rfl
end Go.Proofs.Ytgfgenbmjbhphaa.Bv
namespace Go.Proofs.Ytgfgenbmjbhphaa.Bv
set_option linter.unusedVariables false
set_option linter.unusedSimpArgs false
variable {P:Program} {base:World} {M0:Mem} {ios:Ios} {σ:Sg} {M:Mem} {w w':World} {a:Act} {st:St} {tab:Tab} {Γ:Gam}
theorem resCells_frz {fz:List (Nat×RowV)}:∀(rs:List ResultVar) (tys:List TypeId),resCells tab (frzSt fz st) rs tys=resCells tab st rs tys
 | [],[]=>rfl
 | [],_::_=>rfl
 | .tmp t::rs,[]=>rfl
 | .cell ad ty::rs,[]=>rfl
 | .tmp t::rs,ty::tys=>by
   simp only [resCells,resCells_frz rs tys]
   rfl
 | .cell ad ty::rs,t::tys=>by
   simp only [resCells,resCells_frz rs tys]
   rfl
theorem fin_ret (hT:TabOk P tab) {con:Con} {fn:Func} {tys:List TypeId} {i:El con.I} {x:El con.A} {acs:List Value} (hpins:∀j e,(j,e)∈con.backA→∃u,acs[j]?=some u∧(keyA j,u)∈ios.rows)
 (hio:con.io=ios.box.isSome) (hnew:con.newR=false) (hR:elemB tab con.fresh (flat con.R (dfl con.R))=true) (hI:elemB tab con.ownI (flat con.I (dfl con.I))=true)
 (hS:Sim P base M0 ios σ M w' a st) (hK:finK tab con fn.results.toList tys i x st):a.defers=[]∧∃v,(results fn a.tmps).run P w'=.ok v w'∧Ret P con base M0 ios.blk ios.box acs i x (.returned v) w':=by
 refine⟨hS.defers,?_⟩
 unfold finK at hK
 split at hK
 case h_2=>exact hK.elim
 rename_i l bc hl hbc
 simp only at hK
 have hmem:∀p∈frzRows st.rows (hotKeys st.rows (borrowed (restC con.fresh 0 (cellsOf l))++borrowed (restC con.ownI 0 bc))),∃e t l ver z,p.2=.frz e t l ver z∧look p.1 st.rows=some (.hot e t l ver none z):=fun p hp=>frz_mem hp
 generalize frzRows st.rows (hotKeys st.rows (borrowed (restC con.fresh 0 (cellsOf l))++borrowed (restC con.ownI 0 bc)))=fz at hK hmem
 split at hK
 case h_2=>exact hK.elim
 rename_i cv ks iv iks bv e1 e2 e3 e4 e5
 split at hK
 case h_2=>exact hK.elim
 rename_i r i' b' u1 u2 u3
 split at hK
 case h_2=>exact hK.elim
 rename_i hc
 simp only [Bool.and_eq_true,List.isEmpty_iff] at hc
 obtain⟨⟨⟨⟨c1,c2⟩,c3⟩,c4⟩,c5⟩:=hc
 obtain⟨M2,hS2⟩:=hS.freezes hmem (nodup_of c2)
 obtain⟨vs,hv1,hv2⟩:=res_run (st:=frzSt fz st) hT hS2 _ _ _ ((resCells_frz _ _).trans hl)
 refine⟨retVal vs,?_,?_⟩
 · rw [results_eq]
   simp only [Sem.run_bind,hv1,Result.andThen_ok,Sem.run_pure]
 have hrows:∀r rv,look r (fz++st.rows)=some rv→look r (frzSt fz st).rows=some rv:=fun _ _ h=>h
 have hrd:=resCs_rep hS2 hrows hv2.flatten
 have hB:=backVals_spec e5
 have hhot:∀r∈ks++(iks++backK con),isHot r (frzSt fz st).rows:=fun r hr=>by
  rcases List.mem_append.1 hr with h | h
  · obtain⟨e,t,l,ver,z,hl⟩:=handed_hot e2 r h;exact⟨_,_,_,_,_,_,hl⟩
  · rcases List.mem_append.1 h with h | h
    · obtain⟨e,t,l,ver,z,hl⟩:=handed_hot e4 r h;exact⟨_,_,_,_,_,_,hl⟩
    · obtain⟨p,hp,rfl⟩:=List.mem_map.1 h
      obtain⟨j,e⟩:=p
      obtain⟨k,hk⟩:=List.getElem?_of_mem hp
      obtain⟨e0,t,l,ver,z,_,q⟩:=hB.2.2 k j e hk
      exact⟨_,_,_,_,_,_,q⟩
 have hnd:=foots_nodup hS2 (nodup_of c3) hhot
 rw [foots_append,foots_append] at hnd
 have hcvR:=unflat_eq e1 u1
 have hivI:=unflat_eq e3 u2
 have hbvB:bv=flat con.B b':=by
  have:=unflat_flat _ _ _ _ u3
  rw [hB.2.1] at this;simpa using this
 obtain⟨a1,_⟩:=handed_spec e2
 obtain⟨b1,_⟩:=handed_spec e4
 have hblk:∀g,(∃r∈ks++(iks++backK con),g∈σ.foot r)→(base.heap.size≤g∨(g∈ios.blk∧ios.box≠some g))∧g<w'.heap.size∧∀ad,ad.block=g→M2 ad=none:=fun g ⟨r,hr,hg⟩=>by
  have hh:=hhot r hr
  refine⟨?_,hS2.hot.lt r hh g hg,hS2.hot.noM r hh g hg⟩
  rcases hS2.hot.base r hh g hg with h | h
  · exact .inl h
  · by_cases hb:ios.box=some g
    ·
     have hbx:(frzSt fz st).box 0=some bc:=by
      have:con.io=true:=by rw [hio,hb];rfl
      unfold ioCells at hbc
      rw [this] at hbc
      exact hbc
     have:=hS2.hot.noBox r hh 0 (by rw [hbx];rfl)
     rw [hS2.pin g hb] at this
     exact absurd hg this
    · exact .inr ⟨h,hb⟩
 refine⟨vs,(r,(i',b')),vs.flatMap fun v=>v.cells.toList,M2,footAt σ (resCs (fz++st.rows) (cellsOf l)),footAt σ (resCs (fz++st.rows) bc),fun j=>σ.foot (keyA j),[],rfl,hK,hS2.le,hS2.mem,hS2.fr,hS2.old,?_,?_,?_,?_,elemsOk_of hT hR _,elemsOk_of hT hI _,?_,?_⟩
 · rw [hnew]
   exact⟨rfl,resRep_of hv2 c1⟩
 · rw [←hcvR]
   exact ownIn_of hS2 (Mem.le_refl _) hrows hrd e1 (fun j e hm=>by obtain⟨c,y,k1,k2,_⟩:=a1 j e hm;exact⟨c,y,k1,k2⟩) (fun r hb=>by rw [c4] at hb;cases hb)
 · intro g hg
   have hio':con.io=true:=by rw [hio,hg];rfl
   have hbx:(frzSt fz st).box 0=some bc:=by
    unfold ioCells at hbc
    rw [hio'] at hbc
    exact hbc
   obtain⟨arr,E,h1,h2⟩:=hS2.boxes 0 bc hbx
   rw [hS2.pin g hg] at h1
   refine⟨arr,E,h1,?_,fun ad had=>hS2.boxM 0 (by rw [hbx];rfl) ad (by rw [had,hS2.pin g hg])⟩
   rw [←hivI]
   exact ownIn_of hS2 (Mem.le_refl _) hrows (resCs_rep hS2 hrows h2) e3 (fun j e hm=>by obtain⟨c,y,k1,k2,_⟩:=b1 j e hm;exact⟨c,y,k1,k2⟩) (fun r hb=>by rw [c5] at hb;cases hb)
 · refine⟨by rw [←hbvB];exact hB.1,fun k j e hk=>?_⟩
   obtain⟨e0,t,x',ver,z,q1,q2⟩:=hB.2.2 k j e hk
   obtain⟨u,hu,hp⟩:=hpins j e (List.mem_of_getElem? hk)
   have hrow:σ.row (keyA j)=u:=hS2.pins (keyA j,u) hp (by show (look (keyA j) (fz++st.rows)).isSome=true;rw [q2];rfl)
   refine⟨u,t,x',hu,by rw [←hbvB];exact q1,?_⟩
   rw [←hrow]
   exact (hS2.hotAt q2).own
 · rw [handed_blks e2]
   have hbk:blks con.backA (fun j=>σ.foot (keyA j))=foots σ (backK con):=blks_keys keyA
   rw [hbk]
   cases hb:ios.box with
   | none=>
     have h2:(foots σ ks++foots σ (backK con)).Nodup:=hnd.sublist (List.Sublist.append_left (List.sublist_append_right _ _) _)
     simpa using h2
   | some g=>
     show ([]++(foots σ ks++(blks con.ownI (footAt σ (resCs (fz++st.rows) bc))++foots σ (backK con)))).Nodup
     rw [handed_blks e4]
     simpa using hnd
 · intro g hg
   refine hblk g ?_
   rw [handed_blks e2] at hg
   have hbk:blks con.backA (fun j=>σ.foot (keyA j))=foots σ (backK con):=blks_keys keyA
   rw [hbk] at hg
   have hg2:g∈foots σ (ks++(iks++backK con)):=by
    rw [foots_append,foots_append]
    simp only [List.nil_append] at hg
    rcases List.mem_append.1 hg with h | h
    · exact List.mem_append.2 (.inl h)
    · refine List.mem_append.2 (.inr ?_)
      rcases List.mem_append.1 h with h | h
      · cases hb:ios.box with
        | none=>rw [hb] at h;cases h
        | some g'=>
          rw [hb] at h
          have h':g∈blks con.ownI (footAt σ (resCs (fz++st.rows) bc)):=h
          rw [handed_blks e4] at h'
          exact List.mem_append.2 (.inl h')
      · exact List.mem_append.2 (.inr h)
   obtain⟨r,hr,hg3⟩:=mem_foots hg2
   exact⟨r,hr,hg3⟩
end Go.Proofs.Ytgfgenbmjbhphaa.Bv
namespace Go.Proofs.Ytgfgenbmjbhphaa.Bv
set_option linter.unusedVariables false
set_option linter.unusedSimpArgs false
def capsLen:List Nat→Nat
 | []=>0
 | n::ns=>n+capsLen ns
def capsOf:List Nat→List CellV→List Cap
 | [],_=>[]
 | n::ns,cs=>.ptr (cs.take n)::capsOf ns (cs.drop n)
def argSlots:Nat→List Sh→List CellV→List (Nat×Sv)
 | _,[],_=>[]
 | i,.one::shs,cs=>(i,.val false (cs.take 1))::argSlots (i+1) shs (cs.drop 1)
 | i,.agg n::shs,cs=>(i,.val true (cs.take n))::argSlots (i+1) shs (cs.drop n)
 | i,.ptr n::shs,cs=>(i,.ptr (cs.take n))::argSlots (i+1) shs (cs.drop n)
 | i,.clo f ns::shs,cs=>(i,.fn f [] (capsOf ns (cs.take (capsLen ns))))::argSlots (i+1) shs (cs.drop (capsLen ns))
def valOld (slots:List (Nat×Sv)):List Nat:=(slots.map (·.1)).filter fun i=>match look i slots with
 | some (.val _ _)=>true
 | _=>false
def argCs (con:Con) (x:El con.A):List CellV:=retag keyA (con.ownA++con.backA) 0 (flat con.A x)
def argRows (con:Con) (x:El con.A):List (Nat×RowV):=newRows keyA (con.ownA++con.backA) 0 (flat con.A x)
def initSt (con:Con) (nt:Nat) (i:El con.I) (x:El con.A):St:=match con.io with
 | true=>{nt,slots:=(0,.box 0 0)::argSlots 1 con.shA (argCs con x),boxes:=[(0,retag keyI con.ownI 0 (flat con.I i))],rows:=argRows con x++newRows keyI con.ownI 0 (flat con.I i),olds:=valOld ((0,.box 0 0)::argSlots 1 con.shA (argCs con x))}
 | false=>{nt,slots:=argSlots 0 con.shA (argCs con x),boxes:=[],rows:=argRows con x,olds:=valOld (argSlots 0 con.shA (argCs con x))}
variable {P:Program} {base:World} {M0:Mem} {ios:Ios} {σ:Sg} {M:Mem} {w w':World} {a:Act} {st:St} {tab:Tab} {Γ:Gam}
theorem caps_len {ns:List Nat} {vs cs:List Value} (h:CapsRep M ns vs cs):cs.length=capsLen ns:=by
 induction h with
 | nil=>rfl
 | cons hx _ ih=>rw [List.length_append,hx.1,ih];rfl
theorem caps_at {rows:List (Nat×RowV)} {boxes:List (Nat×List CellV)} {ns:List Nat} {vs cs:List Value} (h:CapsRep M ns vs cs):∀{cvs:List CellV},All2 (RdT σ rows M) cs cvs→All2 (RepCap σ rows boxes M) vs (capsOf ns cvs):=by
 induction h with
 | nil=>intro cvs _;exact .nil
 | @cons n v c ns vs cs hx hr ih=>
   intro cvs hc
   obtain⟨hn,ad,hv,hM⟩:=hx
   have hc1:All2 (RdT σ rows M) c (cvs.take n):=by have:=hc.take n;rw [List.take_left' hn] at this;exact this
   have hc2:All2 (RdT σ rows M) cs (cvs.drop n):=by have:=hc.drop n;rw [List.drop_left' hn] at this;exact this
   refine .cons ⟨ad,hv,fun j cv hj=>?_⟩ (ih hc2)
   obtain⟨u,hu,hr⟩:=hc1.get hj
   exact⟨u,hM j u hu,hr⟩
theorem argSlots_at {σ:Sg} {rows:List (Nat×RowV)} {boxes:List (Nat×List CellV)} {shs:List Sh} {vs cs:List Value} (h:ArgsRep M shs vs cs):
 ∀{cvs:List CellV} (k:Nat),All2 (RdT σ rows M) cs cvs→∀i,match look i (argSlots k shs cvs) with
  | some sv=>k≤i∧i - k<vs.length∧RepSv σ rows boxes M (vs.getD (i - k) undef) sv
  | none=>True:=by
 induction h with
 | nil=>intro cvs k _ i;simp [argSlots,look]
 | @cons sh v c shs vs cs hx hr ih=>
   intro cvs k hc i
   have hlen:c.length≤cvs.length:=by have:=hc.length;simp at this;omega
   have hc1:All2 (RdT σ rows M) c (cvs.take c.length):=by have:=hc.take c.length;simpa using this
   have hc2:All2 (RdT σ rows M) cs (cvs.drop c.length):=by have:=hc.drop c.length;simpa using this
   have step:∀(n:Nat) (sv:Sv),c.length=n→RepSv σ rows boxes M v sv→match look i ((k,sv)::argSlots (k+1) shs (cvs.drop n)) with
    | some sv=>k≤i∧i - k<(v::vs).length∧RepSv σ rows boxes M ((v::vs).getD (i - k) undef) sv
    | none=>True:=by
    intro n sv hn hsv
    subst hn
    rw [look_cons]
    by_cases hki:k=i
    · subst hki;simp;exact hsv
    · rw [if_neg hki]
      have:=ih (k+1) hc2 i
      split at this
      · rename_i sv' hl
        obtain⟨h1,h2,h3⟩:=this
        refine⟨by omega,by simp;omega,?_⟩
        rw [show i - k=(i - (k+1))+1 by omega]
        simpa using h3
      · trivial
   cases sh with
   | one=>
     obtain⟨rfl,hag⟩:=hx
     refine step 1 _ rfl ⟨?_,hag⟩
     have:v.cells=#[v]:=by cases v<;>first | rfl | (simp [isAgg'] at hag)
     rw [this];exact hc1
   | agg n=>
     obtain⟨hn,vs',rfl,rfl⟩:=hx
     exact step n _ hn ⟨by rw [hn] at hc1;exact hc1,rfl⟩
   | ptr n=>
     obtain⟨hn,ad,rfl,hM⟩:=hx
     refine step n _ hn ⟨ad,rfl,fun j cv hj=>?_⟩
     rw [hn] at hc1
     obtain⟨u,hu,hr⟩:=hc1.get hj
     exact⟨u,hM j u hu,hr⟩
   | clo f ns=>
     obtain⟨vb,rfl,hcaps⟩:=hx
     have hn:c.length=capsLen ns:=caps_len hcaps
     refine step (capsLen ns) _ hn ⟨#[],vb,rfl,.nil,?_⟩
     rw [hn] at hc1
     exact caps_at (σ:=σ) (rows:=rows) (boxes:=boxes) hcaps hc1
def Wf:(t:Ty)→El t→Prop
 | .list t,l=>List.length l≤maxLen∧∀x,x∈(show List (El t) from l)→Wf t x
 | .pair a b,x=>Wf a x.1∧Wf b x.2
 | _,_=>True
theorem RdC.wf:∀(t:Ty) (cs:List Value) (x:El t),RdC M t cs x→Wf t x
 | .int _,_,_,_=>trivial
 | .bool,_,_,_=>trivial
 | .str,_,_,_=>trivial
 | .unit,_,_,_=>trivial
 | .pair a b,_,_,⟨_,_,_,h1,h2⟩=>⟨RdC.wf a _ _ h1,RdC.wf b _ _ h2⟩
 | .list t,_,l,⟨_,_,_,h1,h2,h⟩=>by
   refine⟨Nat.le_trans h1 h2,fun x hx=>?_⟩
   obtain⟨i,hi,e⟩:=List.getElem_of_mem hx
   obtain⟨_,vs,_,_,_,h4⟩:=h i hi
   have:=RdC.wf t vs _ h4
   rw [←e];exact this
theorem args_length {shs:List Sh} {vs cs:List Value} (h:ArgsRep M shs vs cs):vs.length=shs.length:=by
 induction h with
 | nil=>rfl
 | cons _ _ ih=>simp [ih]
theorem frame_at (args:List Value) (n i:Nat) (hi:i<args.length):((args.toArray++Array.replicate n undef).getD i undef)=args.getD i undef:=by
 rw [Array.getD_eq_getD_getElem?,List.getD_eq_getElem?_getD,Array.getElem?_append_left (by simpa using hi)]
 simp
end Go.Proofs.Ytgfgenbmjbhphaa.Bv
namespace Go.Proofs.Ytgfgenbmjbhphaa.Bv
set_option linter.unusedVariables false
set_option linter.unusedSimpArgs false
variable {P:Program} {base:World} {M0:Mem} {ios:Ios} {σ:Sg} {M:Mem} {w w':World} {a:Act} {st:St} {tab:Tab} {Γ:Gam}
def conB (tab:Tab) (con:Con) (nt:Nat):Bool:=
 elemB tab (con.ownA++con.backA) (flat con.A (dfl con.A))&&elemB tab con.ownI (flat con.I (dfl con.I))&&elemB tab con.fresh (flat con.R (dfl con.R))&&!con.newR&&decide (size con.A≤4096)&&
 decide (con.shA.length+(match con.io with | true=>1 | false=>0)≤nt)
theorem mkD_keys {key:Nat→Nat} (hinj:∀i j,key i=key j→i=j) {fr:List (Nat×TypeId)} {F:Nat→List Nat}:∀{vs:List Value} {cs:List CellV} (i:Nat),((mkD key fr F i vs cs).map (·.key)).Nodup
 | [],_,i=>List.nodup_nil
 | _::_,[],i=>List.nodup_nil
 | u::vs,c::cs,i=>by
   have ih:=mkD_keys hinj (fr:=fr) (F:=F) (vs:=vs) (cs:=cs) (i+1)
   cases c with
   | lst t l tag=>
     simp only [mkD]
     cases hl:look i fr with
     | none=>exact ih
     | some e=>
       simp only [List.map_cons,List.nodup_cons]
       refine⟨fun hm=>?_,ih⟩
       obtain⟨x,hx,e1⟩:=List.mem_map.1 hm
       obtain⟨j,_,_,_,_,h4,_⟩:=mkD_mem (i+1) hx
       rw [h4] at e1
       have:=hinj _ _ e1
       omega
   | _=>exact ih
theorem keyA_inj (i j:Nat) (h:keyA i=keyA j):i=j:=by unfold keyA at h;omega
theorem keyI_inj (i j:Nat) (h:keyI i=keyI j):i=j:=by unfold keyI at h;omega
theorem ownIn_rd {M:Mem} {own:List (Nat×TypeId)} {vs:List Value} {cs:List CellV} {F:Nat→List Nat} (h:OwnIn w M own vs cs F) (hM:∀ad v,M ad=some v→w.cell? ad=some v) (hn:(blks own F).Nodup):∀(j:Nat) (u:Value) (c:CellV),vs[j]?=some u→cs[j]?=some c→RdV (memAll w) u c:=fun j u c hu hc=>by
 cases hl:look j own with
 | none=>exact (h.rd j u c hl hu hc).mono hM
 | some e=>
   obtain⟨u',t,l,k1,k2,k3⟩:=h.own j e hl
   rw [hu] at k1;cases k1
   rw [hc] at k2;cases k2
   exact OwnL.rdTop k3 ((blks_spec hn).1 (j,e) (look_mem hl)) fun ad u _ _ hu=>hu
theorem All2.of_get {α β:Type} {R:α→β→Prop}:∀{as:List α} {bs:List β},as.length=bs.length→(∀(j:Nat) a b,as[j]?=some a→bs[j]?=some b→R a b)→All2 R as bs
 | [],[],_,_=>.nil
 | [],_::_,h,_=>by simp at h
 | _::_,[],h,_=>by simp at h
 | a::as,b::bs,h,hr=>.cons (hr 0 a b (by simp) (by simp)) (All2.of_get (by simpa using h) fun j x y hx hy=>hr (j+1) x y (by simpa using hx) (by simpa using hy))
theorem ownIn_wf {M:Mem} {own:List (Nat×TypeId)} {vs:List Value} {t:Ty} {x:El t} {F:Nat→List Nat} (h:OwnIn w M own vs (flat t x) F) (hM:∀ad v,M ad=some v→w.cell? ad=some v) (hn:(blks own F).Nodup):Wf t x:=
 RdC.wf t vs x (flat_rd t vs x (All2.of_get h.len fun j u c hu hc=>ownIn_rd h hM hn j u c hu hc))
def preOf:Option Nat→List Value
 | some g=>[.pointer (some ⟨g,0,none⟩)]
 | none=>[]
def bxOf (n:Nat):Option Nat→List (Nat×List CellV)
 | some _=>[(0,undCs n)]
 | none=>[]
def d2Of (con:Con) (FI:Nat→List Nat) (ivs:List Value) (i:El con.I):Option Nat→List NewR
 | some _=>mkD keyI con.ownI FI 0 ivs (flat con.I i)
 | none=>[]
def bodyG (K:St→Prop):Ex→St→Prop
 | .normal,st=>K st
 | .ret,st=>K st
 | .exit _,_=>False
theorem conOk_gen {con:Con} (K:El con.I→El con.A→St→Prop) (L:(i:El con.I)→El con.A→Nat→Option LoopAnn) {n:FuncId} {fn:Func} {c:Code} (hm:P.follows .mixedOrders=true) (hT:TabOk P tab) (hΓ:GamOk P Γ) (hf:P.funcs[n]?=some fn) (hb:fn.body=some c)
 (hA:elemB tab (con.ownA++con.backA) (flat con.A (dfl con.A))=true) (hI:elemB tab con.ownI (flat con.I (dfl con.I))=true) (hsz:size con.A≤4096) (hnt:con.shA.length+(match con.io with | true=>1 | false=>0)≤fn.ntmps)
 (hfin:∀(ios:Ios) (base:World) (M0:Mem) (acs:List Value) (i:El con.I) (x:El con.A) (σ:Sg) (M:Mem) (w':World) (a:Act) (st:St),(∀j e,(j,e)∈con.backA→∃u,acs[j]?=some u∧(keyA j,u)∈ios.rows)→con.io=ios.box.isSome→
   (con.io=false→con.ownA=[]→con.backA=[]→ios.blk=[])→Sim P base M0 ios σ M w' a st→K i x st→a.defers=[]∧∃v,(results fn a.tmps).run P w'=.ok v w'∧Ret P con base M0 ios.blk ios.box acs i x (.returned v) w')
 (h:∀i x,con.pre i x→(con.io=true→Wf con.I i)→Wf con.A x→vc tab Γ (L i x) c 1 (initSt con fn.ntmps i x) (bodyG (K i x))):ConOk P n con:=by
 intro w M vs cs i x F FI b hM hargs hown hio hbx hnd hnone hpre
 have hlen:=args_length hargs
 have hcl:cs.length=size con.A:=by rw [hown.len,flat_length]
 obtain⟨nd1,nd2,nd3⟩:=List.nodup_append.1 hnd
 have ndI:∀g,b=some g→(blks con.ownI FI).Nodup∧g∉blks con.ownI FI:=fun g hg=>by
  rw [hg] at nd1
  have:=List.nodup_cons.1 nd1
  exact⟨this.2,this.1⟩
 have inA:∀g∈blks (con.ownA++con.backA) F,g∈handBlk con b F FI:=fun g hg=>List.mem_append.2 (.inr hg)
 have inI:∀g0,b=some g0→∀g∈blks con.ownI FI,g∈handBlk con b F FI:=fun g0 hg0 g hg=>List.mem_append.2 (.inl (by rw [hg0];exact List.mem_cons_of_mem _ hg))
 have inB:∀g,b=some g→g∈handBlk con b F FI:=fun g hg=>List.mem_append.2 (.inl (by rw [hg];exact List.mem_cons_self))
 obtain⟨ivs,hiv⟩:∃ivs:List Value,∀g,b=some g→∃arr E,w.heap[g]?=some (.cells arr E (0,0))∧arr.toList=ivs∧OwnIn w M con.ownI ivs (flat con.I i) FI:=by
  cases b with
  | none=>exact⟨[],fun g hg=>by cases hg⟩
  | some g=>
    obtain⟨arr,E,h1,h2⟩:=hbx g rfl
    exact⟨arr.toList,fun g' hg'=>by cases hg';exact⟨arr,E,h1,rfl,h2⟩⟩
 let ios:Ios:={blk:=handBlk con b F FI,box:=b,rows:=con.backA.map fun p=>(keyA p.1,cs.getD p.1 undef),even:=fun p hp=>by obtain⟨q,_,rfl⟩:=List.mem_map.1 hp;unfold keyA;omega}
 let pre:List Value:=preOf b
 have hpl:pre.length=(match con.io with | true=>1 | false=>0):=by
  simp only [pre];rw [hio];cases b<;>rfl
 have hle:(pre++vs).length≤fn.ntmps:=by rw [List.length_append,hpl,hlen];omega
 show Calls P n (pre++vs).toArray w _
 refine calls_of_wp hf hb ?_
 let σ0:Sg:=⟨fun _=>b.getD 0,fun _=>undef,fun _=>[],fun _ _=>none⟩
 let st0:St:={nt:=fn.ntmps,slots:=[],boxes:=bxOf ivs.length b,rows:=[]}
 have box0:∀k,(st0.box k).isSome=true→k=0∧∃g,b=some g:=fun k hk=>by
  cases hb':b with
  | none=>simp only [St.box,st0,hb',bxOf,look] at hk;cases hk
  | some g=>
    simp only [St.box,st0,hb',bxOf,look] at hk
    split at hk
    · rename_i e;exact⟨e.symm,g,rfl⟩
    · cases hk
 have hS0:Sim P w M ios σ0 M w {tmps:=(pre++vs).toArray++Array.replicate (fn.ntmps - (pre++vs).toArray.size) undef,defers:=[]} st0:={
  mem:=hM
  nt:=by simp at hle ⊢;simp only [st0];omega
  slots:=fun i=>trivial
  boxes:=fun k ds hk=>by
   obtain⟨e,g,hg⟩:=box0 k (by rw [hk];rfl)
   subst e
   obtain⟨arr,E,h1,h2,h3⟩:=hiv g hg
   have hd:ds=undCs ivs.length:=by
    simp only [St.box,st0,hg,bxOf,look,if_true,Option.some.injEq] at hk;exact hk.symm
   subst hd
   refine⟨arr,E,by show w.heap[b.getD 0]?=_;rw [hg];exact h1,?_⟩
   rw [h2]
   exact undCs_rep h3.one
  boxM:=fun k hk ad had=>by
   obtain⟨e,g,hg⟩:=box0 k hk
   exact hnone g (inB g hg) ad (by rw [had];show b.getD 0=g;rw [hg];rfl)
  boxInj:=fun k k' h1 h2 _=>by rw [(box0 k h1).1,(box0 k' h2).1]
  boxBase:=fun k hk=>by
   obtain⟨e,g,hg⟩:=box0 k hk
   exact .inr (by show b.getD 0∈handBlk con b F FI;have:=inB g hg;rw [hg] at this ⊢;exact this)
  rows:=fun r e he=>by cases he
  rowBox:=fun r k hr=>by cases hr
  rowInj:=fun r r' hr=>by cases hr
  hot:={
   ok:=fun r e t l ver hole z hl=>by cases hl
   base:=fun r ⟨_,_,_,_,_,_,hl⟩=>by cases hl
   noM:=fun r ⟨_,_,_,_,_,_,hl⟩=>by cases hl
   noBox:=fun r ⟨_,_,_,_,_,_,hl⟩=>by cases hl
   noRow:=fun r ⟨_,_,_,_,_,_,hl⟩=>by cases hl
   apart:=fun r r' ⟨_,_,_,_,_,_,hl⟩=>by cases hl
   lt:=fun r ⟨_,_,_,_,_,_,hl⟩=>by cases hl
   frz:=fun r e t l ver z hl=>by cases hl}
  fr:=Fr.refl _ _
  defers:=rfl
  old:=fun ad _ _ h=>h
  le:=Mem.le_refl _
  pin:=fun g hg=>by show b.getD 0=g;rw [show b=some g from hg];rfl
  pins:=fun p hp hs=>by cases hs
  olds:=fun j hj=>by cases hj}
 have tag0:∀r,noTag r st0=true:=fun r=>by
  unfold noTag
  have hu:∀n,keysC (undCs n)=[]:=fun n=>by
   unfold undCs
   induction n with
   | zero=>rfl
   | succ n ih=>rw [List.replicate_succ];exact ih
  have:noTagBoxes r st0.boxes=true:=by
   cases hb':b with
   | none=>simp only [st0,hb',bxOf];rfl
   | some g=>
     simp only [st0,hb',bxOf,noTagBoxes,noTagC,hu]
     rfl
  rw [this];rfl
 have hDA:=fun y hy=>mkD_ok (key:=keyA) (x:=y) hown (elemsOk_of hT hA x) nd2 hy
 let D2:List NewR:=d2Of con FI ivs i b
 have hDI:∀y∈D2,OwnL w y.t y.v y.l y.fo∧(∃i,P.info? y.e=some i∧i.size=size y.t)∧0<size y.t∧y.fo.Nodup∧(∃j,y.key=keyI j∧(look j con.ownI).isSome=true∧y.fo=FI j)∧∃g,b=some g:=fun y hy=>by
  cases hb':b with
  | none=>simp only [D2,hb',d2Of] at hy;cases hy
  | some g=>
    simp only [D2,hb',d2Of] at hy
    obtain⟨arr,E,_,_,h3⟩:=hiv g hb'
    obtain⟨k1,k2,k3,k4,k5⟩:=mkD_ok (key:=keyI) h3 (elemsOk_of hT hI i) (ndI g hb').1 hy
    exact⟨k1,k2,k3,k4,k5,g,rfl⟩
 have idx:∀y∈mkD keyA (con.ownA++con.backA) F 0 cs (flat con.A x),∃j,y.key=keyA j∧j<4096∧cs[j]?=some y.v:=fun y hy=>by
  obtain⟨j,tag,h1,h2,h3,h4,h5⟩:=mkD_mem 0 hy
  rw [Nat.zero_add] at h4
  have:=(List.getElem?_eq_some_iff.1 h1).1
  exact⟨j,h4,by omega,h1⟩
 have free:∀g∈handBlk con b F FI,b≠some g→g<w.heap.size→Free w ios σ0 M w st0 g:=fun g hg hne hlt=>{
  base:=.inr hg
  noM:=hnone g hg
  noBox:=fun k hk e=>by
   obtain⟨_,g',hg'⟩:=box0 k hk
   have:b.getD 0=g:=e
   rw [hg'] at this hne
   exact hne (by rw [←this];rfl)
  noRow:=fun r hr=>by cases hr
  noHot:=fun r ⟨_,_,_,_,_,_,hl⟩=>by cases hl
  lt:=hlt}
 have notBox:∀g0,b=some g0→g0∉blks (con.ownA++con.backA) F:=fun g0 hg0 hm=>nd3 g0 (by rw [hg0];exact List.mem_cons_self) g0 hm rfl
 obtain⟨σ1,hS1,r1,r2,r3⟩:=Sim.addHotsP (mkD keyA (con.ownA++con.backA) F 0 cs (flat con.A x)++D2) hS0 (fun y hy=>by
  have pinA:∀q∈ios.rows,q.1=y.key→y.v=q.2:=fun q hq e=>by
   obtain⟨p,hp,rfl⟩:=List.mem_map.1 hq
   obtain⟨j,e'⟩:=p
   have hp2:∃u,cs[j]?=some u:=by
    have:(look j (con.ownA++con.backA)).isSome=true:=look_in.2 ⟨e',List.mem_append.2 (.inr hp)⟩
    obtain⟨e2,he2⟩:=Option.isSome_iff_exists.1 this
    obtain⟨u,_,_,hu,_⟩:=hown.own j e2 he2
    exact⟨u,hu⟩
   obtain⟨u,hu⟩:=hp2
   have hj:j<cs.length:=(List.getElem?_eq_some_iff.1 hu).1
   rcases List.mem_append.1 hy with h1 | h1
   · obtain⟨j',k1,k2,k3⟩:=idx y h1
     have e2:keyA j=y.key:=e
     rw [k1] at e2
     have:=keyA_inj _ _ e2
     subst this
     show y.v=cs.getD j undef
     rw [getD_of k3]
   · obtain⟨_,_,_,_,⟨j',k1,_⟩,_⟩:=hDI y h1
     have e2:keyA j=y.key:=e
     rw [k1] at e2
     unfold keyA keyI at e2
     omega
  have more:OwnL w y.t y.v y.l y.fo∧(∃i,P.info? y.e=some i∧i.size=size y.t)∧0<size y.t∧y.fo.Nodup∧∀g∈y.fo,g∈handBlk con b F FI∧b≠some g:=by
   rcases List.mem_append.1 hy with h1 | h1
   · obtain⟨k1,k2,k3,k4,j,_,k5,k6⟩:=hDA y h1
     refine⟨k1,k2,k3,k4,fun g hg=>?_⟩
     have hg':=in_blks k5 (k6▸hg)
     exact⟨inA g hg',fun e=>notBox g e hg'⟩
   · obtain⟨k1,k2,k3,k4,⟨j,_,k5,k6⟩,g0,hg0⟩:=hDI y h1
     refine⟨k1,k2,k3,k4,fun g hg=>?_⟩
     have hg':=in_blks k5 (k6▸hg)
     exact⟨inI g0 hg0 g hg',fun e=>(ndI g e).2 hg'⟩
  refine⟨tag0 _,pinA,more.1,more.2.1,more.2.2.1,more.2.2.2.1,fun g hg=>free g (more.2.2.2.2 g hg).1 (more.2.2.2.2 g hg).2 (OwnCs.lt more.1 g hg)⟩) (by
  rw [List.map_append]
  refine List.nodup_append.2 ⟨mkD_keys keyA_inj 0,?_,fun k hk k' hk' e=>?_⟩
  · cases hb':b with
    | none=>simp only [D2,hb',d2Of];exact List.nodup_nil
    | some g=>simp only [D2,hb',d2Of];exact mkD_keys keyI_inj 0
  · obtain⟨y,hy,e1⟩:=List.mem_map.1 hk
    obtain⟨y',hy',e2⟩:=List.mem_map.1 hk'
    obtain⟨j,k1,k2,_⟩:=idx y hy
    obtain⟨_,_,_,_,⟨j',k1',_⟩,_⟩:=hDI y' hy'
    rw [←e1,←e2,k1,k1'] at e
    unfold keyA keyI at e
    omega) (fun y hy z hz hne g hg hg'=>by
  rcases List.mem_append.1 hy with h1 | h1<;>rcases List.mem_append.1 hz with h2 | h2
  · obtain⟨_,_,_,_,j,q1,q2,q3⟩:=hDA y h1
    obtain⟨_,_,_,_,j',q1',q2',q3'⟩:=hDA z h2
    exact blks_apart nd2 q2 q2' (fun e1=>hne (by rw [q1,q1',e1])) g (q3▸hg) (q3'▸hg')
  · obtain⟨_,_,_,_,j,q1,q2,q3⟩:=hDA y h1
    obtain⟨_,_,_,_,⟨j',q1',q2',q3'⟩,g0,hg0⟩:=hDI z h2
    exact nd3 g (by rw [hg0];exact List.mem_cons_of_mem _ (in_blks q2' (q3'▸hg'))) g (in_blks q2 (q3▸hg)) rfl
  · obtain⟨_,_,_,_,⟨j,q1,q2,q3⟩,g0,hg0⟩:=hDI y h1
    obtain⟨_,_,_,_,j',q1',q2',q3'⟩:=hDA z h2
    exact nd3 g (by rw [hg0];exact List.mem_cons_of_mem _ (in_blks q2 (q3▸hg))) g (in_blks q2' (q3'▸hg')) rfl
  · obtain⟨_,_,_,_,⟨j,q1,q2,q3⟩,g0,hg0⟩:=hDI y h1
    obtain⟨_,_,_,_,⟨j',q1',q2',q3'⟩,_⟩:=hDI z h2
    exact blks_apart (ndI g0 hg0).1 q2 q2' (fun e1=>hne (by rw [q1,q1',e1])) g (q3▸hg) (q3'▸hg'))
 have hcsA:∀rows',All2 (RdT σ1 rows' M) cs (argCs con x):=fun rows'=>retagOk hown (.inr rfl) fun z hz=>(r1 z (List.mem_append.2 (.inl hz))).1
 have hrowsA:(mkD keyA (con.ownA++con.backA) F 0 cs (flat con.A x)).map NewR.row=argRows con x:=mkD_rows 0 hown.len
 have frameS:∀{boxes:List (Nat×List CellV)} {rows:List (Nat×RowV)} (j:Nat),RepSv σ1 rows boxes M (((pre++vs).toArray++Array.replicate (fn.ntmps - (pre++vs).toArray.size) undef).getD j undef) (match look j (argSlots pre.length con.shA (argCs con x)) with | some sv=>sv | none=>.und):=fun {boxes rows} j=>by
  have:=argSlots_at (boxes:=boxes) hargs pre.length (hcsA rows) j
  split
  · rename_i sv hl
    rw [hl] at this
    obtain⟨h1,h2,h3⟩:=this
    rw [frame_at _ _ _ (by simp;omega)]
    rw [List.getD_eq_getElem?_getD,List.getElem?_append_right h1,←List.getD_eq_getElem?_getD]
    exact h3
  · trivial
 have olds:∀{slots:List (Nat×Sv)} {boxes:List (Nat×List CellV)} {rows:List (Nat×RowV)} {a:Act},(∀j,RepSv σ1 rows boxes M (a.tmps.getD j undef) (match look j slots with | some sv=>sv | none=>.und))→∀j,j∈valOld slots→RepOld M (a.tmps.getD j undef) (match look j slots with | some sv=>sv | none=>.und):=fun {slots boxes rows a} hs j hj=>by
  have hm:=(List.mem_filter.1 hj).2
  have hsj:=hs j
  split at hm
  · rename_i ag cs' hl
    rw [hl] at hsj ⊢
    exact hsj.1.imp fun _ _ h=>h.1
  · cases hm
 have hS:Sim P w M ios σ1 M w {tmps:=(pre++vs).toArray++Array.replicate (fn.ntmps - (pre++vs).toArray.size) undef,defers:=[]} (initSt con fn.ntmps i x):=by
  cases hb':b with
  | none=>
    have hio':con.io=false:=by rw [hio,hb'];rfl
    have hpre0:pre.length=0:=by rw [hpl,hio']
    have e:initSt con fn.ntmps i x={nt:=fn.ntmps,slots:=argSlots 0 con.shA (argCs con x),boxes:=[],rows:=argRows con x,olds:=valOld (argSlots 0 con.shA (argCs con x))}:=by unfold initSt;rw [hio']
    rw [e]
    have e2:({st0 with rows:=(mkD keyA (con.ownA++con.backA) F 0 cs (flat con.A x)++D2).map NewR.row++st0.rows}:St)={nt:=fn.ntmps,slots:=[],boxes:=[],rows:=argRows con x}:=by
     simp only [st0,D2,hb',bxOf,d2Of,List.append_nil,hrowsA]
    rw [e2] at hS1
    have hfs:∀j,RepSv σ1 (argRows con x) [] M (((pre++vs).toArray++Array.replicate (fn.ntmps - (pre++vs).toArray.size) undef).getD j undef) (match look j (argSlots 0 con.shA (argCs con x)) with | some sv=>sv | none=>.und):=fun j=>by
     have:=frameS (boxes:=[]) (rows:=argRows con x) j
     rw [hpre0] at this;exact this
    exact {hS1 with
     slots:=hfs
     hot:=hS1.hot.still rfl fun _ h=>h
     olds:=olds (a:={tmps:=(pre++vs).toArray++Array.replicate (fn.ntmps - (pre++vs).toArray.size) undef,defers:=[]}) hfs}
  | some g=>
    have hio':con.io=true:=by rw [hio,hb'];rfl
    have hpre0:pre.length=1:=by rw [hpl,hio']
    obtain⟨arr,E,q1,q2,q3⟩:=hiv g hb'
    have e:initSt con fn.ntmps i x={nt:=fn.ntmps,slots:=(0,.box 0 0)::argSlots 1 con.shA (argCs con x),boxes:=[(0,retag keyI con.ownI 0 (flat con.I i))],rows:=argRows con x++newRows keyI con.ownI 0 (flat con.I i),olds:=valOld ((0,.box 0 0)::argSlots 1 con.shA (argCs con x))}:=by unfold initSt;rw [hio']
    rw [e]
    have e2:({st0 with rows:=(mkD keyA (con.ownA++con.backA) F 0 cs (flat con.A x)++D2).map NewR.row++st0.rows}:St)={nt:=fn.ntmps,slots:=[],boxes:=[(0,undCs ivs.length)],rows:=argRows con x++newRows keyI con.ownI 0 (flat con.I i)}:=by
     simp only [st0,D2,hb',bxOf,d2Of,List.append_nil,List.map_append,hrowsA,mkD_rows 0 q3.len]
    rw [e2] at hS1
    have hsb:σ1.box 0=g:=by rw [r3];show b.getD 0=g;rw [hb'];rfl
    have hS2:=hS1.setBox (k:=0) (ds:=retag keyI con.ownI 0 (flat con.I i)) (by simp [St.box,look]) (fun arr' E' ha=>by
     rw [hsb,q1] at ha;cases ha
     rw [q2]
     exact retagOk q3 (.inr rfl) fun z hz=>(r1 z (List.mem_append.2 (.inr (by simp only [D2,hb',d2Of];exact hz)))).1)
    have hE:∀(ds:List CellV) (rows:List (Nat×RowV)),Ext {nt:=fn.ntmps,slots:=[],boxes:=[(0,ds),(0,undCs ivs.length)],rows:=rows} {nt:=fn.ntmps,slots:=[],boxes:=[(0,ds)],rows:=rows}:=fun ds rows=>⟨rfl,fun _=>rfl,fun k=>by simp only [St.box,look];split<;>rfl,fun _=>rfl,fun _=>Iff.rfl⟩
    have hS3:Sim P w M ios σ1 M w {tmps:=(pre++vs).toArray++Array.replicate (fn.ntmps - (pre++vs).toArray.size) undef,defers:=[]} {nt:=fn.ntmps,slots:=[],boxes:=[(0,retag keyI con.ownI 0 (flat con.I i))],rows:=argRows con x++newRows keyI con.ownI 0 (flat con.I i)}:=Sim.ext (hE _ _) hS2
    have hfs:∀j,RepSv σ1 (argRows con x++newRows keyI con.ownI 0 (flat con.I i)) [(0,retag keyI con.ownI 0 (flat con.I i))] M (((pre++vs).toArray++Array.replicate (fn.ntmps - (pre++vs).toArray.size) undef).getD j undef) (match look j ((0,.box 0 0)::argSlots 1 con.shA (argCs con x)) with | some sv=>sv | none=>.und):=fun j=>by
     rw [look_cons]
     by_cases hj:0=j
     · subst hj
       simp only [if_true]
       have hp:pre=[.pointer (some ⟨g,0,none⟩)]:=by simp only [pre,hb',preOf]
       rw [hp,frame_at _ _ _ (by simp)]
       exact⟨by rw [hsb];rfl,rfl⟩
     · rw [if_neg hj]
       have:=frameS (boxes:=[(0,retag keyI con.ownI 0 (flat con.I i))]) (rows:=argRows con x++newRows keyI con.ownI 0 (flat con.I i)) j
       rw [hpre0] at this;exact this
    exact {hS3 with
     slots:=hfs
     hot:=hS3.hot.still rfl fun _ h=>h
     olds:=olds (a:={tmps:=(pre++vs).toArray++Array.replicate (fn.ntmps - (pre++vs).toArray.size) undef,defers:=[]}) hfs}
 have hpins:∀j e,(j,e)∈con.backA→∃u,cs[j]?=some u∧(keyA j,u)∈ios.rows:=fun j e hm=>by
  have:(look j (con.ownA++con.backA)).isSome=true:=look_in.2 ⟨e,List.mem_append.2 (.inr hm)⟩
  obtain⟨e2,he2⟩:=Option.isSome_iff_exists.1 this
  obtain⟨u,_,_,hu,_⟩:=hown.own j e2 he2
  exact⟨u,hu,List.mem_map.2 ⟨(j,e),hm,by rw [getD_of hu]⟩⟩
 have fin:∀(σ':Sg) (M':Mem) (w':World) (a':Act) (st':St),Sim P w M ios σ' M' w' a' st'→K i x st'→
  a'.defers=[]∧∃v,(results fn a'.tmps).run P w'=.ok v w'∧Ret P con w M (handBlk con b F FI) b cs i x (.returned v) w':=fun σ' M' w' a' st' hS' hK=>hfin ios w M cs i x σ' M' w' a' st' hpins hio (fun e1 e2 e3=>by
   show handBlk con b F FI=[]
   have hb0:b=none:=by rw [e1] at hio;cases hb':b with | none=>rfl | some g=>rw [hb'] at hio;cases hio
   rw [hb0];unfold handBlk;rw [e2,e3];rfl) hS' hK
 refine vc_sound hm hT hΓ c _ _ _ _ σ1 M w _ hS ?_ (h i x hpre (fun hio'=>?_) (ownIn_wf hown hM nd2))
 · intro e σ' M' w' a' st' hS' hK
   cases e with
   | normal=>exact fin _ _ _ _ _ hS' hK
   | ret=>exact fin _ _ _ _ _ hS' hK
   | exit id=>exact hK.elim
 · cases hb':b with
   | none=>rw [hio,hb'] at hio';cases hio'
   | some g=>
     obtain⟨arr,E,_,_,q3⟩:=hiv g hb'
     exact ownIn_wf q3 hM (ndI g hb').1
theorem bodyK_G {con:Con} {rs:List ResultVar} {tys:List TypeId} {i:El con.I} {x:El con.A}:bodyK tab con rs tys i x=bodyG (finK tab con rs tys i x):=by
 funext e st;cases e<;>rfl
theorem conOk_of_vc {con:Con} (L:(i:El con.I)→El con.A→Nat→Option LoopAnn) {n:FuncId} {fn:Func} {c:Code} (hm:P.follows .mixedOrders=true) (hT:TabOk P tab) (hΓ:GamOk P Γ) (hf:P.funcs[n]?=some fn) (hb:fn.body=some c) (tys:List TypeId)
 (hB:conB tab con fn.ntmps=true)
 (h:∀i x,con.pre i x→(con.io=true→Wf con.I i)→Wf con.A x→vc tab Γ (L i x) c 1 (initSt con fn.ntmps i x) (bodyK tab con fn.results.toList tys i x)):ConOk P n con:=by
 unfold conB at hB
 simp only [Bool.and_eq_true,Bool.not_eq_true',decide_eq_true_eq] at hB
 obtain⟨⟨⟨⟨⟨hA,hI⟩,hR⟩,hnew⟩,hsz⟩,hnt⟩:=hB
 exact conOk_gen (fun i x st=>finK tab con fn.results.toList tys i x st) L hm hT hΓ hf hb hA hI hsz hnt (fun ios base M0 acs i x σ M w' a st hpins hio _ hS hK=>fin_ret hT hpins hio hnew hR hI hS hK) (fun i x h1 h2 h3=>by rw [←bodyK_G];exact h i x h1 h2 h3)
def finN (tab:Tab) (con:Con) (rs:List ResultVar) (i:El con.I) (x:El con.A) (st:St):Prop:=
 match rs with
 | [.tmp t]=>match st.get t with
   | .box k 0=>match st.box k with
     | some bc=>
       let fz:=frzRows st.rows (hotKeys st.rows (borrowed (restC con.fresh 0 bc)))
       let rows:=fz++st.rows
       let cs:=resCs rows bc
       match valCs rows cs,handed rows cs con.fresh with
       | some cv,some ks=>match unflat con.R cv,unflat con.I [],unflat con.B [] with
         | some (r,[]),some (i',[]),some (b',[])=>
           match nodupB (fz.map (·.1))&&nodupB ks&&(borrowed (restC con.fresh 0 cs)).isEmpty with
           | true=>con.Post i x (r,(i',b'))
           | false=>False
         | _,_,_=>False
       | _,_=>False
     | none=>False
   | _=>False
 | _=>False
def conBN (tab:Tab) (con:Con) (nt:Nat):Bool:=
 elemB tab con.ownI (flat con.I (dfl con.I))&&elemB tab con.fresh (flat con.R (dfl con.R))&&con.newR&&!con.io&&con.ownA.isEmpty&&con.backA.isEmpty&&decide (size con.A≤4096)&&decide (con.shA.length≤nt)
theorem fin_retN (hT:TabOk P tab) {con:Con} {fn:Func} {i:El con.I} {x:El con.A} {ios:Ios} {acs:List Value} (hio:con.io=ios.box.isSome) (hio0:con.io=false) (hblk0:ios.blk=[]) (hback:con.backA=[]) (hnew:con.newR=true) (hR:elemB tab con.fresh (flat con.R (dfl con.R))=true) (hI:elemB tab con.ownI (flat con.I (dfl con.I))=true)
 (hS:Sim P base M0 ios σ M w' a st) (hK:finN tab con fn.results.toList i x st):a.defers=[]∧∃v,(results fn a.tmps).run P w'=.ok v w'∧Ret P con base M0 ios.blk ios.box acs i x (.returned v) w':=by
 refine⟨hS.defers,?_⟩
 unfold finN at hK
 split at hK
 case h_2=>exact hK.elim
 rename_i t hrs
 split at hK
 case h_2=>exact hK.elim
 rename_i k hg
 split at hK
 case h_2=>exact hK.elim
 rename_i bc hbc
 simp only at hK
 have hmem:∀p∈frzRows st.rows (hotKeys st.rows (borrowed (restC con.fresh 0 bc))),∃e t l ver z,p.2=.frz e t l ver z∧look p.1 st.rows=some (.hot e t l ver none z):=fun p hp=>frz_mem hp
 generalize frzRows st.rows (hotKeys st.rows (borrowed (restC con.fresh 0 bc)))=fz at hK hmem
 split at hK
 case h_2=>exact hK.elim
 rename_i cv ks e1 e2
 split at hK
 case h_2=>exact hK.elim
 rename_i r i' b' u1 u2 u3
 split at hK
 case h_2=>exact hK.elim
 rename_i hc
 simp only [Bool.and_eq_true,List.isEmpty_iff] at hc
 obtain⟨⟨c1,c2⟩,c3⟩:=hc
 obtain⟨M2,hS2⟩:=hS.freezes hmem (nodup_of c1)
 have hsl:=hS2.slots t
 rw [show (frzSt fz st).get t=.box k 0 from hg] at hsl
 obtain⟨hv,_⟩:=hsl
 have hbx:(frzSt fz st).box k=some bc:=hbc
 obtain⟨arr,E,h1,h2⟩:=hS2.boxes k bc hbx
 have hv':a.tmps.getD t undef=.pointer (some ⟨σ.box k,0,none⟩):=hv
 have hnone:ios.box=none:=by
  cases hb:ios.box with
  | none=>rfl
  | some g=>rw [hio0,hb] at hio;cases hio
 refine⟨retVal [.pointer (some ⟨σ.box k,0,none⟩)],?_,?_⟩
 · rw [results_eq,hrs]
   simp only [List.mapM_cons,List.mapM_nil,resOne,pure_bind,Sem.run_pure,hv']
 have hrows:∀r rv,look r (fz++st.rows)=some rv→look r (frzSt fz st).rows=some rv:=fun _ _ h=>h
 have hrd:=resCs_rep hS2 hrows h2
 have hhot:∀r∈ks,isHot r (frzSt fz st).rows:=fun r hr=>by
  obtain⟨e,t,l,ver,z,hl⟩:=handed_hot e2 r hr;exact⟨_,_,_,_,_,_,hl⟩
 have hnd:=foots_nodup hS2 (nodup_of c2) hhot
 have hcvR:=unflat_eq e1 u1
 have hbvB:[]=flat con.B b':=by
  have:=unflat_flat _ _ _ _ u3
  simpa using this
 obtain⟨a1,_⟩:=handed_spec e2
 have hbase:base.heap.size≤σ.box k:=by
  rcases hS2.boxBase k (by rw [hbx];rfl) with h | h
  · exact h
  · rw [hblk0] at h;cases h
 have hlt:σ.box k<w'.heap.size:=(Array.getElem?_eq_some_iff.1 h1).1
 have hM2:∀ad,ad.block=σ.box k→M2 ad=none:=fun ad had=>hS2.boxM k (by rw [hbx];rfl) ad had
 have hbl:blks con.backA (fun j=>σ.foot (keyA j))=[]:=by rw [hback];rfl
 refine⟨[.pointer (some ⟨σ.box k,0,none⟩)],(r,(i',b')),arr.toList,M2,footAt σ (resCs (fz++st.rows) bc),fun _=>[],fun j=>σ.foot (keyA j),[σ.box k],rfl,hK,hS2.le,hS2.mem,hS2.fr,hS2.old,?_,?_,?_,?_,elemsOk_of hT hR _,elemsOk_of hT hI _,?_,?_⟩
 · rw [hnew]
   exact⟨σ.box k,arr,E,rfl,rfl,h1,rfl,hbase⟩
 · rw [←hcvR]
   exact ownIn_of hS2 (Mem.le_refl _) hrows hrd e1 (fun j e hm=>by obtain⟨c,y,k1,k2,_⟩:=a1 j e hm;exact⟨c,y,k1,k2⟩) (fun r hb=>by rw [c3] at hb;cases hb)
 · intro g hg;rw [hnone] at hg;cases hg
 · refine⟨by rw [←hbvB,hback];rfl,fun k j e hk=>?_⟩
   rw [hback] at hk;simp at hk
 · rw [hnone,handed_blks e2,hbl]
   simp only [List.append_nil,List.nil_append,List.singleton_append,List.nodup_cons]
   refine⟨fun hm=>?_,by simpa using hnd⟩
   obtain⟨r,hr,hg3⟩:=mem_foots hm
   exact hS2.hot.noBox r (hhot r hr) k (by rw [hbx];rfl) hg3
 · intro g hg
   rw [hnone,handed_blks e2,hbl] at hg
   simp only [List.append_nil,List.nil_append,List.singleton_append] at hg
   rcases List.mem_cons.1 hg with rfl | hg
   · exact⟨.inl hbase,hlt,hM2⟩
   · obtain⟨r,hr,hg3⟩:=mem_foots hg
     have hh:=hhot r hr
     refine⟨?_,hS2.hot.lt r hh g hg3,hS2.hot.noM r hh g hg3⟩
     rcases hS2.hot.base r hh g hg3 with h | h
     · exact .inl h
     · rw [hblk0] at h;cases h
theorem conOkN_of_vc {con:Con} (L:(i:El con.I)→El con.A→Nat→Option LoopAnn) {n:FuncId} {fn:Func} {c:Code} (hm:P.follows .mixedOrders=true) (hT:TabOk P tab) (hΓ:GamOk P Γ) (hf:P.funcs[n]?=some fn) (hb:fn.body=some c)
 (hB:conBN tab con fn.ntmps=true)
 (h:∀i x,con.pre i x→(con.io=true→Wf con.I i)→Wf con.A x→vc tab Γ (L i x) c 1 (initSt con fn.ntmps i x) (bodyG (finN tab con fn.results.toList i x))):ConOk P n con:=by
 unfold conBN at hB
 simp only [Bool.and_eq_true,Bool.not_eq_true',decide_eq_true_eq,List.isEmpty_iff] at hB
 obtain⟨⟨⟨⟨⟨⟨⟨hI,hR⟩,hnew⟩,hio⟩,hown⟩,hback⟩,hsz⟩,hnt⟩:=hB
 exact conOk_gen (fun i x st=>finN tab con fn.results.toList i x st) L hm hT hΓ hf hb (by rw [hown,hback];rfl) hI hsz (by rw [hio];exact hnt) (fun ios base M0 acs i x σ M w' a st _ hio' hblk hS hK=>fin_retN hT hio' hio (hblk hio hown hback) hback hnew hR hI hS hK) h
end Go.Proofs.Ytgfgenbmjbhphaa.Bv
namespace Go.Proofs.Ytgfgenbmjbhphaa.Bv
set_option linter.unusedVariables false
set_option linter.unusedSimpArgs false
def sameZ:Value→Value→Bool
 | .int k n,.int k' n'=>decide (k=k')&&decide (n=n')
 | .bool b,.bool b'=>b==b'
 | .string s,.string s'=>decide (s.data.size=0)&&decide (s'.data.size=0)
 | .slice none 0 0,.slice none 0 0=>true
 | _,_=>false
def sameZs:List Value→List Value→Bool
 | [],[]=>true
 | a::l,b::r=>sameZ a b&&sameZs l r
 | _,_=>false
theorem sameZ_eq {a b:Value} (h:sameZ a b=true):a=b:=by
 unfold sameZ at h
 split at h
 · simp only [Bool.and_eq_true,decide_eq_true_eq] at h
   obtain⟨rfl,rfl⟩:=h;rfl
 · simp at h;subst h;rfl
 · rename_i s s'
   simp only [Bool.and_eq_true,decide_eq_true_eq] at h
   obtain⟨⟨d⟩⟩:=s
   obtain⟨⟨d'⟩⟩:=s'
   simp at h
   rw [h.1,h.2]
 · rfl
 · cases h
theorem sameZs_eq:∀{l r:List Value},sameZs l r=true→l=r
 | [],[],_=>rfl
 | [],_::_,h=>by simp [sameZs] at h
 | _::_,[],h=>by simp [sameZs] at h
 | a::l,b::r,h=>by
   simp only [sameZs,Bool.and_eq_true] at h
   rw [sameZ_eq h.1,sameZs_eq h.2]
def sameF:List Field→List (Nat×TypeId)→Bool
 | [],[]=>true
 | f::l,p::r=>(f.offset==p.1)&&(f.type==p.2)&&sameF l r
 | _,_=>false
theorem sameF_eq:∀{l:List Field} {r:List (Nat×TypeId)},sameF l r=true→l.map (fun f=>(f.offset,f.type))=r
 | [],[],_=>rfl
 | [],_::_,h=>by simp [sameF] at h
 | _::_,[],h=>by simp [sameF] at h
 | f::l,p::r,h=>by
   simp only [sameF,Bool.and_eq_true,beq_iff_eq] at h
   simp [sameF_eq h.2,h.1.1,h.1.2]
def undOk (tab:Tab) (ti:TI):Option TypeDesc→Bool
 | some (.struct fs)=>ti.agg&&sameF fs.toList ti.fields&&ti.fields.all (fun p=>(look p.2 tab).isSome)
 | some (.int k)=>!ti.agg&&(match ti.ty with | .int k'=>decide (k=k') | _=>false)
 | some .bool=>!ti.agg&&(match ti.ty with | .bool=>true | _=>false)
 | some .string=>!ti.agg&&(match ti.ty with | .str=>true | _=>false)
 | some (.slice e)=>!ti.agg&&(match ti.ty with | .list _=>e==ti.elem | _=>false)
 | _=>false
def infoOk (ti:TI):Option TypeInfo→Bool
 | some i=>(i.size==size ti.ty)&&(i.bytes==ti.bytes)&&(match i.zero with | some z=>sameZs z.cells.toList (zeros ti.ty) | none=>false)
 | none=>false
def checkTab (P:Program) (tab:Tab):List (TypeId×TI)→Bool
 | []=>true
 | (t,ti)::l=>infoOk ti (P.info? t)&&undOk tab ti (P.underlying t)&&checkTab P tab l
theorem undOk_spec {P:Program} {tab:Tab} {t:TypeId} {ti:TI} (h:undOk tab ti (P.underlying t)=true):
 if ti.agg then ∃fs,P.underlying t=some (.struct fs)∧fs.toList.map (fun f=>(f.offset,f.type))=ti.fields∧(∀p∈ti.fields,(look p.2 tab).isSome=true)
 else match ti.ty with
  | .int k=>P.underlying t=some (.int k)
  | .bool=>P.underlying t=some .bool
  | .str=>P.underlying t=some .string
  | .list _=>P.underlying t=some (.slice ti.elem)
  | _=>False:=by
 unfold undOk at h
 split at h
 · rename_i fs hu
   simp only [Bool.and_eq_true,List.all_eq_true] at h
   rw [if_pos h.1.1]
   exact⟨fs,hu,sameF_eq h.1.2,h.2⟩
 all_goals first
  | (rename_i hu
     simp only [Bool.and_eq_true,Bool.not_eq_true'] at h
     rw [if_neg (by rw [h.1];simp)]
     obtain⟨_,h2⟩:=h
     split at h2
     · simp_all
     · cases h2)
  | cases h
theorem tabOk_of {P:Program} {tab:Tab} (h:checkTab P tab tab=true):TabOk P tab:=by
 intro t ti hl
 have key:∀l:List (TypeId×TI),checkTab P tab l=true→(t,ti)∈l→infoOk ti (P.info? t)=true∧undOk tab ti (P.underlying t)=true:=by
  intro l
  induction l with
  | nil=>intro _ hm;cases hm
  | cons p l ih=>
    intro hc hm
    obtain⟨t',ti'⟩:=p
    simp only [checkTab,Bool.and_eq_true] at hc
    rcases List.mem_cons.1 hm with e | hm
    · cases e;exact hc.1
    · exact ih hc.2 hm
 obtain⟨h1,h2⟩:=key tab h (look_mem hl)
 refine⟨?_,undOk_spec h2⟩
 unfold infoOk at h1
 split at h1
 · rename_i i hi
   simp only [Bool.and_eq_true,beq_iff_eq] at h1
   obtain⟨⟨h3,h4⟩,h5⟩:=h1
   split at h5
   · rename_i z hz
     exact⟨i,z,hi,h3,h4,hz,sameZs_eq h5⟩
   · cases h5
 · cases h1
def gam (l:List (Nat×Con)) (tk:List Nat) (eqs:List (TypeId×Ty)):Gam:={con:=fun n=>look n l,tk:=tk,eqs:=eqs}
theorem gam_nil (P:Program) (tk:List Nat) {eqs:List (TypeId×Ty)} (he:EqsOk P eqs):GamOk P (gam [] tk eqs):=⟨(by intro n con h;cases h),he⟩
theorem gam_cons {P:Program} {m:Nat} {c:Con} {l:List (Nat×Con)} {tk:List Nat} {eqs:List (TypeId×Ty)} (hf:FnOk P m) (hc:ConOk P m c) (h:GamOk P (gam l tk eqs)):GamOk P (gam ((m,c)::l) tk eqs):=by
 refine⟨?_,h.2⟩
 intro n con hn
 have hn':look n ((m,c)::l)=some con:=hn
 rw [look_cons] at hn'
 split at hn'
 · rename_i e;subst e;cases hn';exact⟨hf,hc⟩
 · exact h.1 n con hn'
theorem caseB_iff {b:Bool} {X Y:Prop}:caseB b X Y↔(b=true→X)∧(b=false→Y):=⟨caseB_to,fun h=>caseB_of h.1 h.2⟩
def eqF (d:Nat) (xs ys:Array Value):List (Bool×TypeId×Nat)→Sem Bool
 | []=>pure true
 | (nm,t,o)::l=>if nm=true then do
     let a ←part t xs o
     let b ←part t ys o
     let r ←Op.equalIn d t a b
     if (!r)=true then pure false else eqF d xs ys l
   else eqF d xs ys l
theorem eqFields_map {d:Nat} {xs ys:Array Value}:∀(fs:List Field),Op.eqFields d xs ys fs=eqF d xs ys (fs.map fun f=>(decide (f.name≠ "_"),f.type,f.offset))
 | []=>rfl
 | f::fs=>by
   simp only [Op.eqFields,List.map_cons,eqF,eqFields_map fs,decide_eq_true_eq]
theorem eqF_step {P:Program} {w:World} {d:Nat} {xs ys:Array Value} {t o:Nat} {l:List (Bool×TypeId×Nat)} {u v:Value} {r r':Bool} (h1:(part t xs o).run P w=.ok u w) (h2:(part t ys o).run P w=.ok v w) (h3:(Op.equalIn d t u v).run P w=.ok r w) (h4:(eqF d xs ys l).run P w=.ok r' w):
 (eqF d xs ys ((true,t,o)::l)).run P w=.ok (r&&r') w:=by
 simp only [eqF,if_true,Sem.run_bind,h1,h2,h3,Result.andThen_ok]
 cases r
 · simp
 · simp only [Bool.not_true,Bool.false_eq_true,if_false,Bool.true_and];exact h4
end Go.Proofs.Ytgfgenbmjbhphaa.Bv
namespace Go.Proofs.Ytgfgenbmjbhphaa.Bv
set_option linter.unusedVariables false
set_option linter.unusedSimpArgs false
open Go.WideShapes Go.RowKit
def WfD:(t:Ty)→El t→Prop
 | .int k,n=>k.min≤n∧n≤k.max
 | .str,s=>List.length s≤maxLen
 | .list t,l=>List.length l≤maxLen∧∀x,x∈(show List (El t) from l)→WfD t x
 | .pair a b,x=>WfD a x.1∧WfD b x.2
 | _,_=>True
def pairsT:List Ty→Ty
 | []=>.unit
 | [a]=>a
 | a::b::r=>.pair a (pairsT (b::r))
def fieldsT (tab:Tab):Nat→List (Nat×TypeId)→Option (List Ty)
 | _,[]=>some []
 | off,(o,t)::r=>match look t tab with
   | some ti=>match decide (o=off),fieldsT tab (off+size ti.ty) r with
     | true,some l=>some (ti.ty::l)
     | _,_=>none
   | none=>none
def consistB (tab:Tab):List (TypeId×TI)→Bool
 | []=>true
 | (_,ti)::l=>(match ti.agg,ti.ty with
   | true,ty=>(match fieldsT tab 0 ti.fields with | some tys=>decide (ty=pairsT tys) | none=>false)
   | false,.list τ=>(match look ti.elem tab with | some te=>decide (te.ty=τ) | none=>false)
   | _,_=>true)&&consistB tab l
variable {P:Program} {tab:Tab} {M:Mem} {w:World} {H:Type} {enc:TypeId×Value→H}
theorem All2.at2 {α β:Type} {R:α→β→Prop} {as:List α} {bs:List β} (h:All2 R as bs) {j:Nat} {a:α} {b:β} (ha:as[j]?=some a) (hb:bs[j]?=some b):R a b:=by
 obtain⟨a',h1,h2⟩:=h.get hb
 rw [ha] at h1;cases h1;exact h2
theorem consist_agg:∀{l:List (TypeId×TI)},consistB tab l=true→∀{t ti},(t,ti)∈l→ti.agg=true→∃tys,fieldsT tab 0 ti.fields=some tys∧ti.ty=pairsT tys
 | [],_,_,_,hm,_=>by cases hm
 | (t',ti')::l,h,t,ti,hm,ha=>by
   simp only [consistB,Bool.and_eq_true] at h
   rcases List.mem_cons.1 hm with e | hm
   · cases e
     have h1:=h.1
     rw [ha] at h1
     simp only at h1
     split at h1
     · rename_i tys htys;exact⟨tys,htys,by simpa using h1⟩
     · cases h1
   · exact consist_agg h.2 hm ha
theorem consist_list:∀{l:List (TypeId×TI)},consistB tab l=true→∀{t ti τ},(t,ti)∈l→ti.agg=false→ti.ty=.list τ→∃te,look ti.elem tab=some te∧te.ty=τ
 | [],_,_,_,_,hm,_,_=>by cases hm
 | (t',ti')::l,h,t,ti,τ,hm,ha,ht=>by
   simp only [consistB,Bool.and_eq_true] at h
   rcases List.mem_cons.1 hm with e | hm
   · cases e
     have h1:=h.1
     rw [ha,ht] at h1
     simp only at h1
     split at h1
     · rename_i te hte;exact⟨te,hte,by simpa using h1⟩
     · cases h1
   · exact consist_list h.2 hm ha ht
theorem exists_list {α:Type} {R:Nat→α→Prop}:∀{n:Nat},(∀i,i<n→∃x,R i x)→∃l:List α,l.length=n∧∀i x,l[i]?=some x→R i x
 | 0,_=>⟨[],rfl,fun i x h=>by simp at h⟩
 | n+1,h=>by
   obtain⟨l,hl,hr⟩:=exists_list (n:=n) fun i hi=>h i (by omega)
   obtain⟨x,hx⟩:=h n (by omega)
   refine⟨l++[x],by simp [hl],fun i y hy=>?_⟩
   rw [List.getElem?_append] at hy
   split at hy
   · exact hr i y hy
   · rename_i hi
     have:i=l.length:=by
      have:=(List.getElem?_eq_some_iff.1 hy).1
      simp at this;omega
     subst this
     simp at hy
     subst hy
     rw [hl];exact hx
theorem cellsOf_tab (hT:TabOk P tab) {t:TypeId} {ti:TI} (h:look t tab=some ti):P.cellsOf t=size ti.ty:=by
 obtain⟨i,_,hi,hs,_⟩:=(hT t ti h).info
 simp [Program.cellsOf,hi,hs]
def RdW (w:World) (τ:Ty) (cs:List Value):Prop:=∃x:El τ,RdC (fun ad=>w.cell? ad) τ cs x∧WfD τ x
theorem fields_rd {rec_:TypeId→List Value→Option (DataW H×List MemPlace)} (hT:TabOk P tab) (hrec:∀t ti cs y,look t tab=some ti→rec_ t cs=some y→RdW w ti.ty cs) {cs:List Value}:
 ∀{fs:List Field} {off:Nat} {tys:List Ty} {ys:List (DataW H×List MemPlace)},fieldsT tab off (fs.map fun f=>(f.offset,f.type))=some tys→
 fs.mapM (fun f=>rec_ f.type ((cs.drop f.offset).take (P.cellsOf f.type)))=some ys→cs.length=off+size (pairsT tys)→RdW w (pairsT tys) (cs.drop off)
 | [],off,tys,ys,h,_,hl=>by
   simp only [List.map_nil,fieldsT,Option.some.injEq] at h
   subst h
   refine⟨(),?_,trivial⟩
   show cs.drop off=[]
   simp only [pairsT,size] at hl
   exact List.drop_eq_nil_of_le (by omega)
 | f::fs,off,tys,ys,h,hm,hl=>by
   simp only [List.map_cons,fieldsT] at h
   split at h
   · rename_i ti hti
     split at h
     · rename_i l ho hr
       cases h
       have hoff:f.offset=off:=by simpa using ho
       rw [List.mapM_cons] at hm
       cases hf:rec_ f.type ((cs.drop f.offset).take (P.cellsOf f.type)) with
       | none=>simp [hf] at hm
       | some y=>
         cases hms:fs.mapM (fun f=>rec_ f.type ((cs.drop f.offset).take (P.cellsOf f.type))) with
         | none=>simp [hf,hms] at hm
         | some ys'=>
           have h1:=hrec _ _ _ _ hti hf
           rw [hoff,cellsOf_tab hT hti] at h1
           cases l with
           | nil=>
             simp only [pairsT] at hl ⊢
             rw [List.take_of_length_le (by rw [List.length_drop];omega)] at h1
             exact h1
           | cons b r=>
             simp only [pairsT,size] at hl ⊢
             have h2:=fields_rd hT hrec hr hms (by omega)
             obtain⟨x1,hx1,hw1⟩:=h1
             obtain⟨x2,hx2,hw2⟩:=h2
             refine⟨(x1,x2),⟨_,_,?_,hx1,hx2⟩,hw1,hw2⟩
             rw [←List.drop_drop,List.take_append_drop]
     · cases h
   · cases h
theorem trod_rd (hT:TabOk P tab) (hc:consistB tab tab=true):∀(fuel:Nat) (t:TypeId) (ti:TI) (cs:List Value) (y:DataW H×List MemPlace),look t tab=some ti→
 DataW.trod enc P w 0 (fun _=>true) true fuel t cs=some y→RdW w ti.ty cs
 | 0,t,ti,cs,y,_,h=>by simp [DataW.trod] at h
 | fuel+1,t,ti,cs,y,hl,h=>by
   have hu:=(hT t ti hl).und
   have hmem:=look_mem hl
   have hsz:=cellsOf_tab hT hl
   have hor:=h
   unfold DataW.trod at h
   cases ha:ti.agg with
   | true=>
     rw [if_pos ha] at hu
     obtain⟨fs,hfs,hff,_⟩:=hu
     obtain⟨tys,htys,hty⟩:=consist_agg hc hmem ha
     rw [hfs] at h
     simp only at h
     split at h
     · rename_i hlen
       rw [Option.map_eq_some_iff] at h
       obtain⟨ys,hys,_⟩:=h
       rw [←hff] at htys
       rw [hty] at hsz ⊢
       have:=fields_rd (w:=w) (rec_:=fun t cs=>DataW.trod enc P w 0 (fun _=>true) true fuel t cs) hT (fun t ti cs y h1 h2=>trod_rd hT hc fuel t ti cs y h1 h2) (cs:=cs) htys hys (by rw [hlen,hsz,Nat.zero_add])
       rw [List.drop_zero] at this
       exact this
     · cases h
   | false=>
     rw [if_neg (by rw [ha];simp)] at hu
     cases hty:ti.ty with
     | int k=>
       rw [hty] at hu
       simp only at hu
       rw [hu] at h
       split at h<;>simp_all
       rename_i k' n _
       obtain⟨⟨rfl,hwf⟩,_⟩:=h
       refine⟨n,rfl,?_⟩
       simp only [Lit.wf,Bool.and_eq_true,decide_eq_true_eq] at hwf
       exact hwf
     | bool=>
       rw [hty] at hu
       simp only at hu
       rw [hu] at h
       split at h<;>simp_all
       exact⟨_,rfl,trivial⟩
     | str=>
       rw [hty] at hu
       simp only at hu
       rw [hu] at h
       split at h<;>simp_all
       rename_i s
       refine⟨s.data.toList,?_,?_⟩
       · simp [RdC]
       · obtain⟨d⟩:=s
         have:=h.1
         simpa [WfD,ByteArray.size] using this
     | list τ=>
       rw [hty] at hu
       simp only at hu
       obtain⟨te,hte,rfl⟩:=consist_list hc hmem ha hty
       have hes:=cellsOf_tab hT hte
       rcases DataW.trod_slice hu hor with⟨rfl,_⟩ | ⟨a,len,cap,elems,rest,n,hn,rfl,_,_,hle,hm,hlen,hel,_⟩
       · exact⟨[],RdC.nilSlice _ _,by simp [WfD]⟩
       · obtain rfl:n=fuel:=by omega
         obtain⟨l,hll,hR⟩:=exists_list (n:=len) (R:=fun i x=>∃vs,w.cells? 0 (a.add (i*size te.ty)) (size te.ty)=some vs∧RdC (fun ad=>w.cell? ad) te.ty vs x∧WfD te.ty x) fun i hi=>by
          have h1:=hel i hi
          obtain⟨y',hy'⟩:∃y',elems[i]?=some y':=⟨elems[i],by simp [hlen,hi]⟩
          rw [hy',hes] at h1
          obtain⟨vs,hv1,hv2⟩:=Option.bind_eq_some_iff.1 h1
          obtain⟨x,hx,hwx⟩:=trod_rd hT hc n _ te vs y' hte hv2
          exact⟨x,vs,hv1,hx,hwx⟩
         refine⟨l,⟨some a,cap,by rw [hll],by omega,hm,fun i hi=>?_⟩,by simp [hll];omega,fun x hx=>?_⟩
         · obtain⟨vs,h1,h2,_⟩:=hR i _ (List.getElem?_eq_getElem hi)
           obtain⟨_,hvl,hvc⟩:=World.cells?_some h1
           refine⟨a,vs,rfl,hvl,fun j u hu=>?_,h2⟩
           have hj:=(List.getElem?_eq_some_iff.1 hu).1
           have:=hvc j (by omega)
           rw [hu] at this
           rw [←this]
           show w.cell? (a.add (i*size te.ty+j))=w.cell? ((a.add (i*size te.ty)).add j)
           rw [Addr.add_add]
         · obtain⟨i,hi,e⟩:=List.getElem_of_mem hx
           obtain⟨_,_,_,h3⟩:=hR i x (by rw [←e];exact List.getElem?_eq_getElem hi)
           exact h3
     | unit=>rw [hty] at hu;exact hu.elim
     | pair a b=>rw [hty] at hu;exact hu.elim
def shOf (ti:TI):Sh:=if ti.agg then .agg (size ti.ty) else .one
theorem arg_rep (hT:TabOk P tab) (hc:consistB tab tab=true) {r:Reach} {b0:Nat} {t:TypeId} {ti:TI} {v:Value} {d:DataW H} {ps:List MemPlace} (hl:look t tab=some ti)
 (hval:Value.okWide P w r b0 t v) (h:DataW.Trod enc P w 0 (fun _=>true) true t v d ps):
 ∃x:El ti.ty,RdC (fun ad=>w.cell? ad) ti.ty v.cells.toList x∧WfD ti.ty x∧ArgRep (fun ad=>w.cell? ad) (shOf ti) v v.cells.toList:=by
 obtain⟨fuel,hf⟩:=h
 obtain⟨x,hx,hw⟩:=trod_rd hT hc fuel t ti _ _ hl hf
 refine⟨x,hx,hw,?_⟩
 have hu:=(hT t ti hl).und
 unfold shOf
 cases ha:ti.agg with
 | true=>
   rw [if_pos ha] at hu
   obtain⟨fs,hfs,_⟩:=hu
   obtain⟨cs,rfl,_⟩:=okWide_struct hfs hval
   rw [if_pos rfl]
   exact⟨hx.length,cs,rfl,rfl⟩
 | false=>
   rw [if_neg (by rw [ha];simp)] at hu
   rw [if_neg (by simp)]
   have:isAgg' v=false∧v.cells.toList=[v]:=by
    cases hty:ti.ty with
    | int k=>rw [hty] at hu;obtain⟨n,rfl⟩:=okWide_int hu hval;exact⟨rfl,rfl⟩
    | bool=>rw [hty] at hu;obtain⟨n,rfl⟩:=okWide_bool hu hval;exact⟨rfl,rfl⟩
    | str=>rw [hty] at hu;obtain⟨n,rfl⟩:=okWide_string hu hval;exact⟨rfl,rfl⟩
    | list τ=>rw [hty] at hu;obtain⟨a,l,c,rfl⟩:=okWide_slice hu hval;exact⟨rfl,rfl⟩
    | unit=>rw [hty] at hu;exact hu.elim
    | pair a b=>rw [hty] at hu;exact hu.elim
   exact⟨this.2,this.1⟩
def lawCon (A:Ty) (shA:List Sh):Con:={A:=A,shA:=shA,R:=.bool,shR:=[(false,1)],pre:=fun _ x=>WfD A x,f:=some fun _ _=>(true,((),()))}
theorem law_run {A:Ty} {shA:List Sh} {n:FuncId} (h:ConOk P n (lawCon A shA)) {vs cs:List Value} {x:El A} (ha:ArgsRep (fun ad=>w.cell? ad) shA vs cs) (hx:RdC (fun ad=>w.cell? ad) A cs x) (hw:WfD A x):
 Calls P n vs.toArray w fun e w'=>e=.returned (.bool true)∧Below w.heap.size w w':=by
 have hrd:=rd_flat _ _ _ hx
 have:=h w (fun ad=>w.cell? ad) vs cs () x (fun _=>[]) (fun _=>[]) none (fun _ _ h=>h) ha ⟨hrd.length,fun j u c _ hu hc=>hrd.at2 hu hc,fun j e hj=>by cases hj⟩ rfl (fun g hg=>by cases hg) List.nodup_nil (fun g hg=>by cases hg) hw
 refine Calls.mono this ?_
 intro e w' hret
 obtain⟨rs,y,cs',M',FR,FI,FB,nb,he,hpost,_,_,hf,_,hnr,hown,_⟩:=hret.ex
 subst he
 obtain⟨_,hres⟩:=hnr
 have hy:y.1=true:=by have:y=(true,((),())):=hpost;rw [this]
 have hcs:cs'=[.bool true]:=by
  have hl:=hown.len
  have h0:(flat Ty.bool y.1)=[CellV.bool true]:=by rw [hy];rfl
  have hl':cs'.length=1:=by rw [hl];rfl
  match cs',hl' with
  | [u],_=>
    have:=hown.rd 0 u (.bool true) rfl rfl (by show (flat Ty.bool y.1)[0]?=_;rw [h0];rfl)
    rw [show u=Value.bool true from this]
 subst hcs
 refine⟨?_,hf.os,hf.tape,hf.output,hf.size,fun k hk=>hf.block k hk (fun hm=>by cases hm)⟩
 have hres':ResRep [(false,1)] rs [Value.bool true]:=hres
 generalize hs:[(false,1)]=shs at hres'
 generalize hc:[Value.bool true]=cs0 at hres'
 cases hres' with
 | nil=>cases hs
 | @cons ag m v shs' vs' cs2 h1 h2 h3=>
   cases hs
   cases h3
   have hv:v.cells.toList=[.bool true]:=by simpa using hc.symm
   have:v=.bool true:=by
    cases v<;>simp [Value.cells,isAgg'] at hv h2<;>simp [hv]
   rw [this];rfl
end Go.Proofs.Ytgfgenbmjbhphaa.Bv
