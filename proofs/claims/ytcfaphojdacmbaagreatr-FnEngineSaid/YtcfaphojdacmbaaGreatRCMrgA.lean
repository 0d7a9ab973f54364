/- Points sliced;the place of a point. -/
import Derived.Test.YtcfaphojdacmbaaGreatRCMrg
set_option maxRecDepth 100000
set_option linter.unusedVariables false
set_option linter.unusedSimpArgs false
namespace Go.Proofs.YtcfaphojdacmbaaGreatR.B
open Go Go.Proofs.YtcfaphojdacmbaaGreatR.Bv
theorem wu64{x:Int}(h:0≤x)(h':x≤18446744073709551615):IntKind.wrap .u64 x=x:=Go.IntWalk.u64_in _ ⟨h,h'⟩
def XdR(l:List Pt):Prop:=l.length≤1099511627776
def Xlp(l:List Pt):List Pt:=l
def XkB(x:Pt)(t:Int):Int:=IntKind.wrap .i64 (x.1 - t)
def pBs(l:List Pt)(t:Int)(u:Unit):Prop:=XaT l∧0≤t∧t≤1099511627776∧l.length≤1099511627776
def fBs(l:List Pt)(t:Int)(u:Unit):Int×Bool:=((pos ltI Prod.fst t l:Nat),Xn2 l t)
structure bsI (l:List Pt) (t:Int) (u:Unit) (i j:Int):Prop where
 h1:0≤i
 h2:i≤j
 h3:j≤l.length
 h4:∀k,k<i.toNat→ltI (l.getD k (0,0)).1 t=true
 h5:∀k,j.toNat≤k→k<l.length→ltI (l.getD k (0,0)).1 t=false
def bsM(l:List Pt)(t:Int)(u:Unit)(i j:Int):Nat:=(j - i).toNat
theorem XnR{l:List Pt}(h:XaT l){i:Nat}(hi:i<l.length):0≤(l.getD i (0,0)).1∧(l.getD i (0,0)).1≤1099511627776:=h.2 _ (X14 hi)
theorem bs_lo{l:List Pt}{t:Int}{u:Unit}{i j k:Int}(h:XaT l)(hI:bsI l t u i j)(h1:i≤k)(h2:k<j)(hk:(l.getD k.toNat (0,0)).1<t):bsI l t u (k+1) j:=by
 obtain⟨q1,q2,q3,q4,q5⟩:=hI
 refine⟨by omega,by omega,q3,fun x hx=>?_,q5⟩
 by_cases e:x=k.toNat
 · subst e;simpa using hk
 · have:=X5g (0,0) h.1 (i:=x) (j:=k.toNat) (by omega) (by omega)
   simp only[ltI,decide_eq_true_eq]at this ⊢;omega
theorem bs_hi{l:List Pt}{t:Int}{u:Unit}{i j k:Int}(h:XaT l)(hI:bsI l t u i j)(h1:i≤k)(h2:k<j)(hk:¬(l.getD k.toNat (0,0)).1<t):bsI l t u i k:=by
 obtain⟨q1,q2,q3,q4,q5⟩:=hI
 refine⟨q1,h1,by omega,q4,fun x hx hl=>?_⟩
 by_cases e:x=k.toNat
 · subst e;simpa using hk
 · have:=X5g (0,0) h.1 (i:=k.toNat) (j:=x) (by omega) hl
   simp only[ltI,decide_eq_true_eq,decide_eq_false_iff_not]at this ⊢;omega
theorem Xrc{l:List Pt}{t:Int}{u:Unit}{i j:Int}(h:XaT l)(hI:bsI l t u i j)(hij:¬i<j):pos ltI Prod.fst t l=i.toNat∧Xn2 l t=(decide (i<l.length)&&decide ((l.getD i.toNat (0,0)).1=t)):=by
 obtain⟨q1,q2,q3,q4,q5⟩:=hI
 have e:i=j:=by omega
 subst e
 refine⟨Xmr (0,0) (by omega) q4 q5,?_⟩
 rw[Bool.eq_iff_iff,XbL,Bool.and_eq_true,decide_eq_true_eq,decide_eq_true_eq]
 constructor
 · rintro⟨x,hx,hxt⟩
   obtain⟨k,hk,e⟩:=List.getElem_of_mem hx
   rw[←X0R (d:=(0,0)) hk]at e
   have a1:¬k<i.toNat:=fun hh=>by have:=q4 k hh;rw[e]at this;simp at this;omega
   have a2:¬i.toNat<k:=fun hh=>by
    have:=X5g (0,0) h.1 hh hk
    have a3:=q5 i.toNat (Nat.le_refl _) (by omega)
    simp only[ltI,decide_eq_true_eq,decide_eq_false_iff_not]at this a3
    rw[e]at this;omega
   have a4:k=i.toNat:=by omega
   subst a4
   exact⟨by omega,by rw[e];exact hxt⟩
 · rintro⟨h1,h2⟩
   exact⟨_,X14 (by omega),h2⟩
theorem half{a:Int}(h:0≤a)(h2:a≤4611686018427387904):Int.fdiv a (2 ^ min (Int.toNat 1) (IntKind.bits .u64))=a / 2:=by
 rw[show(2 ^ min (Int.toNat 1) (IntKind.bits .u64):Int)=2 from by decide]
 exact Int.fdiv_eq_ediv_of_nonneg _ (by decide)
def X1j:Con:={A:=X9z,shA:=[.one],R:=X9z,shR:=[(false,1)],fresh:=[(0,85)],pre:=fun _ a=>(XdR a),f:=some fun _ a=>((Xlp a),((),()))}
def X0b.F(a0:U6q):Prop:=(∀(b1:Bool),(b1=true→a0=[])→(X00 b1 (Eq (([]:U6q),((),())) ((Xlp a0),((),()))) (List.length ([]:List (Int×Int))+List.length a0≤9223372036854775807∧((List.length ([]:List (Int×Int))+List.length a0)*16≤140737488355328∧(Eq ((([]:List (Int×Int))++a0),((),())) ((Xlp a0),((),())))))))
theorem X0b.pure(a0:U6q)(h:(XdR a0))(hw:Wf X1j.A a0):X0b.F a0:=by
 unfold X0b.F
 have hp:a0.length≤1099511627776:=h
 simp only[Bs,B0,B1,Prod.mk.injEq,X01,Xlp,XdR]
 repeat' (with_reducible (first | (refine And.intro ?_ ?_) | intro _))
 all_goals (try simp (disch:=omega) only[w64,wu8,tn0,tn1,tm1,tm2,List.length_append,List.length_cons,List.length_nil]at*)
 all_goals (try simp (disch:=omega) only[w64,wu8,tn0,tn1,tm1,tm2,List.length_append,List.length_cons,List.length_nil]at*)
 all_goals (try omega)
 all_goals (try grind[])
 all_goals (try simp_all)
theorem X0b.eq:EqS X1j Tryz.f171 [64] [] [] noL (fun i x=>X0b.F x):=by intro i x;kernel_rfl
theorem X0b.ok:X0l Tryz.prog 171 X1j:=X2b X0b.eq Tryz.func171 rfl (by kernel_rfl) fun i x h hi hw=>X0b.pure x h hw
def X0b.e:GE:=⟨171,X1j,⟨_,Tryz.func171,rfl,rfl⟩,X0b.ok⟩
def X6i:Con:={A:=(.pair T0q (.int .i64)),shA:=[.agg 2,.one],R:=(.int .i64),shR:=[(false,1)],pre:=fun _ _=>True,f:=some fun _ a=>((XkB a.1 a.2),((),()))}
def X2d.F(a0:(Int×Int))(a1:Int):Prop:=(Eq ((wI (a0.1 - a1)),((),())) ((XkB a0 a1),((),())))
theorem X2d.pure(a0:(Int×Int))(a1:Int)(h:True)(hw:Wf X6i.A (a0,a1)):X2d.F a0 a1:=by
 delta X2d.F wI
 simp only[Bs,B0,B1,Prod.mk.injEq,X01,XkB,Prod.eta]
 repeat' (with_reducible (first | (refine And.intro ?_ ?_) | intro _))
 all_goals (try simp (disch:=omega) only[w64,wu8,tn0,tn1,tm1,tm2,List.length_append,List.length_cons,List.length_nil]at*)
 all_goals (try simp (disch:=omega) only[w64,wu8,tn0,tn1,tm1,tm2,List.length_append,List.length_cons,List.length_nil]at*)
 all_goals (try omega)
 all_goals (try grind[])
theorem X2d.eq:EqS X6i Tryz.f224 [3] [] [] noL (fun i x=>X2d.F x.1 x.2):=by intro i x;kernel_rfl
theorem X2d.ok:X0l Tryz.prog 224 X6i:=X2b X2d.eq Tryz.func224 rfl (by kernel_rfl) fun i x h hi hw=>X2d.pure x.1 x.2 h hw
def X2d.e:GE:=⟨224,X6i,⟨_,Tryz.func224,rfl,rfl⟩,X2d.ok⟩
def X0t:Con:={A:=(.pair X9z (.pair (.int .i64) .unit)),shA:=[.one,.one,.clo 224 []],R:=(.pair (.int .i64) .bool),shR:=[(false,1),(false,1)],pre:=fun _ a=>(pBs a.1 a.2.1 a.2.2),f:=some fun _ a=>((fBs a.1 a.2.1 a.2.2),((),()))}
def X05.F(a0:U6q)(a1:Int)(a2:Unit):Prop:=(eS [(0,.val false [.lst T0q a0 none]),(1,.val false [.int .i64 a1]),(2,.fn 224 [] []),(8,.val false [.int .i64 (ln a0)])] [(0,.val false [.lst T0q a0 none]),(1,.val false [.int .i64 a1]),(2,.fn 224 [] []),(8,.val false [.int .i64 (ln a0)])]∧((bsI a0 a1 a2 0 (ln a0))∧∀(y1:(Int×Int)),(bsI a0 a1 a2 y1.1 y1.2)→(X00 (decide (y1.1<y1.2)) (0≤(1:Int)∧(0≤(wI (Int.fdiv (IntKind.wrap .u64 (wI (y1.1+y1.2))) (2 ^ (min (tN (1:Int)) (IntKind.bits .u64)))))∧((wI (Int.fdiv (IntKind.wrap .u64 (wI (y1.1+y1.2))) (2 ^ (min (tN (1:Int)) (IntKind.bits .u64)))))<(ln a0)∧(True∧∀r2,(Eq r2 ((XkB ((List.getD a0 (tN (wI (Int.fdiv (IntKind.wrap .u64 (wI (y1.1+y1.2))) (2 ^ (min (tN (1:Int)) (IntKind.bits .u64)))))) (0,0)).1,(List.getD a0 (tN (wI (Int.fdiv (IntKind.wrap .u64 (wI (y1.1+y1.2))) (2 ^ (min (tN (1:Int)) (IntKind.bits .u64)))))) (0,0)).2) a1),((),())))→(X00 (decide (r2.1<(0:Int))) (eS [(0,.val false [.lst T0q a0 none]),(1,.val false [.int .i64 a1]),(2,.fn 224 [] []),(8,.val false [.int .i64 (ln a0)])] [(0,.val false [.lst T0q a0 none]),(1,.val false [.int .i64 a1]),(2,.fn 224 [] []),(8,.val false [.int .i64 (ln a0)])]∧(bsI a0 a1 a2 (wI ((wI (Int.fdiv (IntKind.wrap .u64 (wI (y1.1+y1.2))) (2 ^ (min (tN (1:Int)) (IntKind.bits .u64)))))+(1:Int))) y1.2)∧(bsM a0 a1 a2 (wI ((wI (Int.fdiv (IntKind.wrap .u64 (wI (y1.1+y1.2))) (2 ^ (min (tN (1:Int)) (IntKind.bits .u64)))))+(1:Int))) y1.2)<(bsM a0 a1 a2 y1.1 y1.2)) (eS [(0,.val false [.lst T0q a0 none]),(1,.val false [.int .i64 a1]),(2,.fn 224 [] []),(8,.val false [.int .i64 (ln a0)])] [(0,.val false [.lst T0q a0 none]),(1,.val false [.int .i64 a1]),(2,.fn 224 [] []),(8,.val false [.int .i64 (ln a0)])]∧(bsI a0 a1 a2 y1.1 (wI (Int.fdiv (IntKind.wrap .u64 (wI (y1.1+y1.2))) (2 ^ (min (tN (1:Int)) (IntKind.bits .u64))))))∧(bsM a0 a1 a2 y1.1 (wI (Int.fdiv (IntKind.wrap .u64 (wI (y1.1+y1.2))) (2 ^ (min (tN (1:Int)) (IntKind.bits .u64))))))<(bsM a0 a1 a2 y1.1 y1.2))))))) (X00 (decide (y1.1<(ln a0))) (0≤y1.1∧(y1.1<(ln a0)∧(True∧∀r3,(Eq r3 ((XkB ((List.getD a0 (tN y1.1) (0,0)).1,(List.getD a0 (tN y1.1) (0,0)).2) a1),((),())))→(Eq ((y1.1,(r3.1==(0:Int))),((),())) ((fBs a0 a1 a2),((),())))))) (Eq ((y1.1,false),((),())) ((fBs a0 a1 a2),((),())))))))
def X05.L(a0:U6q)(a1:Int)(a2:Unit):Nat→Option X0d:=fun p=>Go.Proofs.YtcfaphojdacmbaaGreatR.Bv.look p [(60,{kp:={hold:=[0,1,2,8],slots:=[9,10],boxes:=[],rows:=[]},T:=T0q,I:=fun st y=>bsI a0 a1 a2 y.1 y.2,μ:=fun st y=>bsM a0 a1 a2 y.1 y.2})]
theorem X05.pure(a0:U6q)(a1:Int)(a2:Unit)(h:(pBs a0 a1 a2))(hw:Wf X0t.A (a0,a1,a2)):X05.F a0 a1 a2:=by
 delta X05.F ln tN wI eS
 simp only[Bs,B0,B1,Prod.mk.injEq,X01,XkB,Prod.eta]
 obtain⟨hp,ht0,ht1,hl⟩:=h
 refine⟨⟨by omega,by omega,by omega,by simp,fun k h1 h2=>by omega⟩,?_⟩
 rintro⟨i,j⟩ hI
 simp only at hI ⊢
 have q1:=hI.h1
 have q2:=hI.h2
 have q3:=hI.h3
 refine⟨fun hij=>?_,fun hij=>?_⟩
 · rw[w64 (x:=i+j) (by omega) (by omega),wu64 (x:=i+j) (by omega) (by omega),half (by omega) (by omega),w64 (x:=(i+j) / 2) (by omega) (by omega)]
   have hk:=XnR hp (i:=((i+j) / 2).toNat) (by omega)
   rw[w64 (x:=(a0.getD ((i+j) / 2).toNat (0,0)).1 - a1) (by omega) (by omega),w64 (x:=(i+j) / 2+1) (by omega) (by omega)]
   refine⟨by omega,by omega,by omega,fun h1=>⟨bs_lo hp hI (by omega) (by omega) (by omega),by unfold bsM;omega⟩,fun h1=>⟨bs_hi hp hI (by omega) (by omega) (by omega),by unfold bsM;omega⟩⟩
 · obtain⟨e1,e2⟩:=Xrc hp hI hij
   have e3:((i.toNat:Nat):Int)=i:=by omega
   refine⟨fun h1=>⟨by omega,by omega,?_⟩,fun h1=>?_⟩
   · have hk:=XnR hp (i:=i.toNat) (by omega)
     rw[w64 (by omega) (by omega)]
     simp only[fBs,e1,e2,e3,decide_eq_true h1,Bool.true_and,Prod.mk.injEq,true_and,and_true]
     rw[Bool.eq_iff_iff];simp;omega
   · simp only[fBs,e1,e2,e3,decide_eq_false h1,Bool.false_and]
theorem X05.eq:EqS X0t Tryz.f223 [3,4] [X2d.e] [] (fun i x=>X05.L x.1 x.2.1 x.2.2) (fun i x=>X05.F x.1 x.2.1 x.2.2):=by intro i x;kernel_rfl
theorem X05.ok:X0l Tryz.prog 223 X0t:=X2b X05.eq Tryz.func223 rfl (by kernel_rfl) fun i x h hi hw=>X05.pure x.1 x.2.1 x.2.2 h hw
def X05.e:GE:=⟨223,X0t,⟨_,Tryz.func223,rfl,rfl⟩,X05.ok⟩
end Go.Proofs.YtcfaphojdacmbaaGreatR.B
