/- Engines:asked. -/
import Derived.Test.YtcfaphojdacmbaaGreatRCEngE
set_option maxRecDepth 100000
set_option linter.unusedVariables false
set_option linter.unusedSimpArgs false
namespace Go.Proofs.YtcfaphojdacmbaaGreatR.B
open Go Go.Proofs.YtcfaphojdacmbaaGreatR.Bv
def Xa1(e:Eng):List Ser:=if X0L e=true then(X0d e).1 else []
def X6S(e:Eng)(k:Str)(a b:Int):List Pt:=if X0L e=true then X0Z (X32 (X0d e).1 k) a b else []
theorem X4h{e:Eng}(h:X7M e=true):(0≤e.1∧e.1≤1099511627776)∧X0y e.2.1=true∧X9r e.2.1≤40∧e.2.2.length≤4∧XdU e.2.1 e=false:=by
 unfold X7M Xiv fIn at h
 simp only[Bool.and_eq_true,decide_eq_true_eq,Bool.not_eq_true']at h
 exact⟨h.1,h.2.1,h.2.2.1,h.2.2.2.1,h.2.2.2.2⟩
theorem X2t{e:Eng}(h:X0L e=true):X7M e=true∧okF e.2.2=true∧X2l e=((X0d e).1,true)∧X0y (X0d e).1=true:=by
 have h0:=h
 unfold X0L X2l at h
 split at h
 · rename_i h1
   split at h
   · rename_i h2
     refine⟨h1,by rw[←Xds];exact h2,?_,h⟩
     unfold X2l;rw[if_pos h1,if_pos h2,show X0y (X0d e).1=true from h]
   · cases h
 · cases h
theorem Xea(e:Eng):(X2l e).2=X0L e:=rfl
theorem Xdt{e:Eng}(h:okF e.2.2=true):XfT e=(X7F e.2.2++[e.2.1],true):=by unfold XfT;rw[if_pos h]
theorem XlF{e:Eng}(hc:X8T e.2.1):X8T (X0d e).1:=by
 unfold X0d;split
 · exact Xd5 (X4C (X83 _ [] Xbk (Xe4 _)) hc.2) _
 · exact Xbk
theorem XqT{l:List Ser}(h:Xbn l){k:Str}(hk:X5E l k=true):(l.getD (pos Op.bytesLess Prod.fst k l) ([],[])).2=X32 l k:=by
 obtain⟨p1,p2⟩:=XbY h hk
 have hm:=X0S (d:=(([]:Str),([]:List Pt))) p1
 have:=((X8N h).1 hm).2
 rw[p2]at this;exact this.symm
def X8i:Con:={A:=T4q,shA:=[.agg 3],R:=T8q,shR:=[(false,1)],pre:=fun _ a=>(X55 a),f:=some fun _ a=>((Xa1 a),((),()))}
def X3W.F(a0:U3q):Prop:=((X55 (a0.1,(a0.2.1,a0.2.2)))∧∀r1,(Eq r1 ((X0L (a0.1,(a0.2.1,a0.2.2))),((),())))→(X00 (!r1.1) (Eq (([]:(List U1q)),((),())) ((Xa1 a0),((),()))) ((Xn6 (a0.1,(a0.2.1,a0.2.2)))∧∀r2,(Eq r2 ((XfT (a0.1,(a0.2.1,a0.2.2))),((),())))→((Xla r2.1.1 a0.1)∧∀r3,(Eq r3 ((XkM r2.1.1 a0.1),((),())))→(Eq (r3.1,((),())) ((Xa1 a0),((),())))))))
theorem X3W.pure(a0:U3q)(h:(X55 a0))(hw:Wf X8i.A a0):X3W.F a0:=by
 unfold X3W.F
 simp only[Bs,B0,B1,Prod.mk.injEq,X01,Prod.eta]
 have hp:X55 a0:=h
 refine⟨hp,fun h1=>?_,fun h1=>?_⟩
 · unfold Xa1;rw[if_neg (by rw[h1];decide)]
 · obtain⟨g1,g2,g3,g4⟩:=X2t h1
   obtain⟨k1,k2,k3,k4,k5⟩:=X4h g1
   obtain⟨s1,s2,s3,s4⟩:=X1t k2
   have ht:=Xd4 a0
   have e2:=Xnb s1 g2
   rw[Xdt g2]
   simp only
   refine⟨⟨hp.2,by omega⟩,by unfold Xla;omega,?_⟩
   unfold Xa1;rw[if_pos h1];exact e2
theorem X3W.eq:EqS X8i Tryz.f39 [25] [X1I.e,X0W.e,X14.e] [] noL (fun i x=>X3W.F x):=by intro i x;kernel_rfl
theorem X3W.ok:X0n Tryz.prog 39 X8i:=X2g X3W.eq Tryz.func39 rfl (by kernel_rfl) fun i x h hi hw=>X3W.pure x h hw
def X3W.e:GE:=⟨39,X8i,⟨_,Tryz.func39,rfl,rfl⟩,X3W.ok⟩
def X9D(e:Eng)(k:Str)(a b:Int):Prop:=X55 e
def X8m:Con:={A:=(.pair T4q (.pair .str T0q)),shA:=[.agg 3,.one,.one,.one],R:=Xar,shR:=[(false,1)],fresh:=[(0,85)],pre:=fun _ a=>(X9D a.1 a.2.1 a.2.2.1 a.2.2.2),f:=some fun _ a=>((X6S a.1 a.2.1 a.2.2.1 a.2.2.2),((),()))}
def X3P.F(a0:U3q)(a1:U5q)(a2:Int)(a3:Int):Prop:=((X55 (a0.1,(a0.2.1,a0.2.2)))∧∀r1,(Eq r1 ((X2l (a0.1,(a0.2.1,a0.2.2))),((),())))→(X00 (!r1.1.2) (Eq (([]:U6q),((),())) ((X6S a0 a1 a2 a3),((),()))) ((pSf r1.1.1 a1)∧∀r2,(Eq r2 ((fSf r1.1.1 a1),((),())))→(X00 (!r2.1.2) (Eq (([]:U6q),((),())) ((X6S a0 a1 a2 a3),((),()))) (0≤r2.1.1∧(r2.1.1<(ln r1.1.1)∧((X67 ((List.getD r1.1.1 (tN r2.1.1) ([],[])).2) a2 a3)∧∀r3,(Eq r3 ((X0Z ((List.getD r1.1.1 (tN r2.1.1) ([],[])).2) a2 a3),((),())))→(Eq (r3.1,((),())) ((X6S a0 a1 a2 a3),((),()))))))))))
theorem X3P.pure(a0:U3q)(a1:U5q)(a2:Int)(a3:Int)(h:(X9D a0 a1 a2 a3))(hw:Wf X8m.A (a0,a1,a2,a3)):X3P.F a0 a1 a2 a3:=by
 delta X3P.F ln tN
 simp only[Bs,B0,B1,Prod.mk.injEq,X01,Prod.eta,pSf,Xq0]
 have hp:X55 a0:=h
 refine⟨hp,fun h1=>?_,fun h1=>?_⟩
 · unfold X6S;rw[if_neg (by rw[←Xea,h1];decide)]
 have h1:X0L a0=true:=h1
 obtain⟨g1,g2,g3,g4⟩:=X2t h1
 obtain⟨s1,s2,s3,s4⟩:=X1t g4
 rw[g3]
 simp only
 refine⟨⟨s1.1,by omega⟩,fun h2=>?_,fun h2=>?_⟩
 · have h3:X5E (X0d a0).1 a1=false:=h2
   unfold X6S;rw[if_pos h1,Xa5 h3,Xc1]
 · have h3:X5E (X0d a0).1 a1=true:=h2
   obtain⟨p1,p2⟩:=XbY s1.1 h3
   have e1:(fSf (X0d a0).1 a1).1=((pos Op.bytesLess Prod.fst a1 (X0d a0).1:Nat):Int):=rfl
   have e2:=XqT s1.1 h3
   have e3:=Xmi (X0d a0).1 a1
   rw[e1,Int.toNat_natCast,e2]
   refine⟨by omega,by omega,by unfold X67;omega,?_⟩
   unfold X6S;rw[if_pos h1]
theorem X3P.eq:EqS X8m Tryz.f36 [64] [X19.e,X1R.e,X3a.e] [] noL (fun i x=>X3P.F x.1 x.2.1 x.2.2.1 x.2.2.2):=by intro i x;kernel_rfl
theorem X3P.ok:X0n Tryz.prog 36 X8m:=X2g X3P.eq Tryz.func36 rfl (by kernel_rfl) fun i x h hi hw=>X3P.pure x.1 x.2.1 x.2.2.1 x.2.2.2 h hw
def X3P.e:GE:=⟨36,X8m,⟨_,Tryz.func36,rfl,rfl⟩,X3P.ok⟩
end Go.Proofs.YtcfaphojdacmbaaGreatR.B
