/- Points sliced;the place of a point. -/
import Derived.Test.YtgmafgmjbaoomaaGreatCMrg
set_option linter.unusedVariables false
set_option linter.unusedSimpArgs false
namespace Go.Proofs.YtgmafgmjbaoomaaGreat.B
open Go Go.Proofs.YtgmafgmjbaoomaaGreat.Bv
theorem wu64{x:Int}(h:0≤x)(h':x≤18446744073709551615):IntKind.wrap .u64 x=x:=Go.IntWalk.u64_in _ ⟨h,h'⟩
def XjE(l:List Pt):Prop:=l.length≤1099511627776
def XnX(l:List Pt):List Pt:=l
def Xi4(x:Pt)(t:Int):Int:=IntKind.wrap .i64 (x.1 - t)
def pBs(l:List Pt)(t:Int)(u:Unit):Prop:=Xlj l∧0≤t∧t≤1099511627776∧l.length≤1099511627776
def fBs(l:List Pt)(t:Int)(u:Unit):Int×Bool:=((pos ltI Prod.fst t l:Nat),Xks l t)
structure bsI (l:List Pt) (t:Int) (u:Unit) (i j:Int):Prop where
 h1:0≤i
 h2:i≤j
 h3:j≤l.length
 h4:∀k,k<i.toNat→ltI (l.getD k (0,0)).1 t=true
 h5:∀k,j.toNat≤k→k<l.length→ltI (l.getD k (0,0)).1 t=false
def bsM(l:List Pt)(t:Int)(u:Unit)(i j:Int):Nat:=(j - i).toNat
theorem Xpb{l:List Pt}(h:Xlj l){i:Nat}(hi:i<l.length):0≤(l.getD i (0,0)).1∧(l.getD i (0,0)).1≤1099511627776:=h.2 _ (X2C hi)
theorem XoX{l:List Pt}{t:Int}{u:Unit}{i j k:Int}(h:Xlj l)(hI:bsI l t u i j)(h1:i≤k)(h2:k<j)(hk:(l.getD k.toNat (0,0)).1<t):bsI l t u (k+1) j:=by
 obtain⟨q1,q2,q3,q4,q5⟩:=hI
 refine⟨by omega,by omega,q3,fun x hx=>?_,q5⟩
 by_cases e:x=k.toNat
 · subst e;simpa using hk
 · have:=X9w (0,0) h.1 (i:=x) (j:=k.toNat) (by omega) (by omega)
   simp only[ltI,decide_eq_true_eq]at this ⊢;omega
theorem Xox{l:List Pt}{t:Int}{u:Unit}{i j k:Int}(h:Xlj l)(hI:bsI l t u i j)(h1:i≤k)(h2:k<j)(hk:¬(l.getD k.toNat (0,0)).1<t):bsI l t u i k:=by
 obtain⟨q1,q2,q3,q4,q5⟩:=hI
 refine⟨q1,h1,by omega,q4,fun x hx hl=>?_⟩
 by_cases e:x=k.toNat
 · subst e;simpa using hk
 · have:=X9w (0,0) h.1 (i:=k.toNat) (j:=x) (by omega) hl
   simp only[ltI,decide_eq_true_eq,decide_eq_false_iff_not]at this ⊢;omega
theorem Xhn{l:List Pt}{t:Int}{u:Unit}{i j:Int}(h:Xlj l)(hI:bsI l t u i j)(hij:¬i<j):pos ltI Prod.fst t l=i.toNat∧Xks l t=(decide (i<l.length)&&decide ((l.getD i.toNat (0,0)).1=t)):=by
 obtain⟨q1,q2,q3,q4,q5⟩:=hI
 have e:i=j:=by omega
 subst e
 refine⟨XoV (0,0) (by omega) q4 q5,?_⟩
 rw[Bool.eq_iff_iff,XdX,Bool.and_eq_true,decide_eq_true_eq,decide_eq_true_eq]
 constructor
 · rintro⟨x,hx,hxt⟩
   obtain⟨k,hk,e⟩:=List.getElem_of_mem hx
   rw[←X1A (d:=(0,0)) hk]at e
   have a1:¬k<i.toNat:=fun hh=>by have:=q4 k hh;rw[e]at this;simp at this;omega
   have a2:¬i.toNat<k:=fun hh=>by
    have:=X9w (0,0) h.1 hh hk
    have a3:=q5 i.toNat (Nat.le_refl _) (by omega)
    simp only[ltI,decide_eq_true_eq,decide_eq_false_iff_not]at this a3
    rw[e]at this;omega
   have a4:k=i.toNat:=by omega
   subst a4
   exact⟨by omega,by rw[e];exact hxt⟩
 · rintro⟨h1,h2⟩
   exact⟨_,X2C (by omega),h2⟩
theorem half{a:Int}(h:0≤a)(h2:a≤4611686018427387904):Int.fdiv a (2 ^ min (Int.toNat 1) (IntKind.bits .u64))=a / 2:=by
 rw[show(2 ^ min (Int.toNat 1) (IntKind.bits .u64):Int)=2 from by decide]
 exact Int.fdiv_eq_ediv_of_nonneg _ (by decide)
def X11:Con:={A:=X60,shA:=[.one],R:=X60,shR:=[(false,1)],fresh:=[(0,107)],pre:=fun _ a=>(XjE a),f:=some fun _ a=>((XnX a),((),()))}
def X0b.F(a0:U5q):Prop:=(∀(b1:Bool),(b1=true→a0=[])→(X00 b1 (Eq (([]:U5q),((),())) ((XnX a0),((),()))) (List.length ([]:List (Int×Int))+List.length a0≤9223372036854775807∧((List.length ([]:List (Int×Int))+List.length a0)*16≤140737488355328∧(Eq ((([]:List (Int×Int))++a0),((),())) ((XnX a0),((),())))))))
theorem X0b.pure(a0:U5q)(h:(XjE a0))(hw:Wf X11.A a0):X0b.F a0:=by
 unfold X0b.F
 have hp:a0.length≤1099511627776:=h
 simp only[Bs,B0,B1,Prod.mk.injEq,X03,XnX,XjE]
 repeat' (with_reducible (first | (refine And.intro ?_ ?_) | intro _))
 all_goals (try simp (disch:=omega) only[w64,wu8,tn0,tn1,tm1,tm2,List.length_append,List.length_cons,List.length_nil]at*)
 all_goals (try simp (disch:=omega) only[w64,wu8,tn0,tn1,tm1,tm2,List.length_append,List.length_cons,List.length_nil]at*)
 all_goals (try omega)
 all_goals (try grind[])
 all_goals (try simp_all)
set_option maxRecDepth 100000 in
theorem X0b.eq:EqS X11 Tryz.f177 [91] [] [] noL (fun i x=>X0b.F x):=by intro i x;kernel_rfl
theorem X0b.ok:X0o Tryz.prog 177 X11:=X2u X0b.eq Tryz.func177 rfl (by kernel_rfl) fun i x h hi hw=>X0b.pure x h hw
def X0b.e:GE:=⟨177,X11,⟨_,Tryz.func177,rfl,rfl⟩,X0b.ok⟩
def X6m.L(a0:U5q)(a1:Int)(a2:Unit):Nat→Option X0a:=fun p=>Go.Proofs.YtgmafgmjbaoomaaGreat.Bv.look p [(60,{kp:={hold:=[0,1,2,8],slots:=[9,10],boxes:=[],rows:=[]},T:=T0q,I:=fun st y=>bsI a0 a1 a2 y.1 y.2,μ:=fun st y=>bsM a0 a1 a2 y.1 y.2})]
end Go.Proofs.YtgmafgmjbaoomaaGreat.B
