/- Engines:asked. -/
import Derived.Test.YtcfaphojdacmbaaGreatRCEngE
set_option maxRecDepth 100000
set_option linter.unusedVariables false
set_option linter.unusedSimpArgs false
namespace Go.Proofs.YtcfaphojdacmbaaGreatR.B
open Go Go.Proofs.YtcfaphojdacmbaaGreatR.Bv
def X4X(e:Eng):List Ser:=if X1H e=true then(X0f e).1 else []
theorem X8K{e:Eng}(h:X7F e=true):(0≤e.1∧e.1≤1099511627776)∧X0B e.2.1=true∧Xal e.2.1≤40∧e.2.2.length≤4∧XdO e.2.1 e=false:=by
 unfold X7F XiM fIn at h
 simp only[Bool.and_eq_true,decide_eq_true_eq,Bool.not_eq_true']at h
 exact⟨h.1,h.2.1,h.2.2.1,h.2.2.2.1,h.2.2.2.2⟩
theorem X6q{e:Eng}(h:X1H e=true):X7F e=true∧okF e.2.2=true∧X2w e=((X0f e).1,true)∧X0B (X0f e).1=true:=by
 have h0:=h
 unfold X1H X2w at h
 split at h
 · rename_i h1
   split at h
   · rename_i h2
     refine⟨h1,by rw[←Xe0];exact h2,?_,h⟩
     unfold X2w;rw[if_pos h1,if_pos h2,show X0B (X0f e).1=true from h]
   · cases h
 · cases h
theorem Xi1(e:Eng):(X2w e).2=X1H e:=rfl
theorem Xe6{e:Eng}(h:okF e.2.2=true):Xg9 e=(X7s e.2.2++[e.2.1],true):=by unfold Xg9;rw[if_pos h]
theorem XkX{e:Eng}(hc:X8M e.2.1):X8M (X0f e).1:=by
 unfold X0f;split
 · exact XcO (X4t (X7Y _ [] Xb5 (Xe8 _)) hc.2) _
 · exact Xb5
def X81:Con:={A:=T4q,shA:=[.agg 3],R:=T8q,shR:=[(false,1)],fresh:=[(0,83)],pre:=fun _ a=>(X6f a),f:=some fun _ a=>((X4X a),((),()))}
def X3X.F(a0:U3q):Prop:=((X6f (a0.1,(a0.2.1,a0.2.2)))∧∀r1,(Eq r1 ((X2w (a0.1,(a0.2.1,a0.2.2))),((),())))→(X02 (!r1.1.2) (Eq (([]:(List U1q)),((),())) ((X4X a0),((),()))) (Eq (r1.1.1,((),())) ((X4X a0),((),())))))
theorem X3X.pure(a0:U3q)(h:(X6f a0))(hw:Wf X81.A a0):X3X.F a0:=by
 unfold X3X.F
 simp only[Bs,B0,B1,Prod.mk.injEq,X01,X6f,Prod.eta]
 have hp:X6f a0:=h
 refine⟨hp,fun h1=>?_,fun h1=>?_⟩
 · unfold X4X;rw[if_neg (by rw[←Xi1,h1];decide)]
 · have h2:=X6q (e:=a0) h1
   unfold X4X;rw[if_pos (show X1H a0=true from h1),h2.2.2.1]
theorem X3X.eq:EqS X81 Tryz.f41 [25] [X1m.e] [] noL (fun i x=>X3X.F x):=by intro i x;kernel_rfl
theorem X3X.ok:X0n Tryz.prog 41 X81:=X2j X3X.eq Tryz.func41 rfl (by kernel_rfl) fun i x h hi hw=>X3X.pure x h hw
def X3X.e:GE:=⟨41,X81,⟨_,Tryz.func41,rfl,rfl⟩,X3X.ok⟩
def X7I:Con:={A:=T4q,shA:=[.agg 3],R:=T8q,shR:=[(false,1)],pre:=fun _ a=>(X6f a),f:=some fun _ a=>((X4X a),((),()))}
def X3U.F(a0:U3q):Prop:=((X6f (a0.1,(a0.2.1,a0.2.2)))∧∀r1,(Eq r1 ((X1H (a0.1,(a0.2.1,a0.2.2))),((),())))→(X02 (!r1.1) (Eq (([]:(List U1q)),((),())) ((X4X a0),((),()))) ((XnH (a0.1,(a0.2.1,a0.2.2)))∧∀r2,(Eq r2 ((Xg9 (a0.1,(a0.2.1,a0.2.2))),((),())))→((Xm5 r2.1.1 a0.1)∧∀r3,(Eq r3 ((Xkh r2.1.1 a0.1),((),())))→(Eq (r3.1,((),())) ((X4X a0),((),())))))))
theorem X3U.pure(a0:U3q)(h:(X6f a0))(hw:Wf X7I.A a0):X3U.F a0:=by
 unfold X3U.F
 simp only[Bs,B0,B1,Prod.mk.injEq,X01,Prod.eta]
 have hp:X6f a0:=h
 refine⟨hp,fun h1=>?_,fun h1=>?_⟩
 · unfold X4X;rw[if_neg (by rw[h1];decide)]
 · obtain⟨g1,g2,g3,g4⟩:=X6q h1
   obtain⟨k1,k2,k3,k4,k5⟩:=X8K g1
   obtain⟨s1,s2,s3,s4⟩:=X3b k2
   have ht:=XcS a0
   have e2:=Xnz s1 g2
   rw[Xe6 g2]
   simp only
   refine⟨⟨hp.2,by omega⟩,by unfold Xm5;omega,?_⟩
   unfold X4X;rw[if_pos h1];exact e2
theorem X3U.eq:EqS X7I Tryz.f39 [25] [X1z.e,X0U.e,X10.e] [] noL (fun i x=>X3U.F x):=by intro i x;kernel_rfl
theorem X3U.ok:X0n Tryz.prog 39 X7I:=X2j X3U.eq Tryz.func39 rfl (by kernel_rfl) fun i x h hi hw=>X3U.pure x h hw
def X3U.e:GE:=⟨39,X7I,⟨_,Tryz.func39,rfl,rfl⟩,X3U.ok⟩
end Go.Proofs.YtcfaphojdacmbaaGreatR.B
