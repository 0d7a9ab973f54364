/- Engines:asked. -/
import Derived.Test.YtcfaphojdacmbaaGreatRCEngE
set_option linter.unusedVariables false
set_option linter.unusedSimpArgs false
namespace Go.Proofs.YtcfaphojdacmbaaGreatR.B
open Go Go.Proofs.YtcfaphojdacmbaaGreatR.Bv
def X3g(e:Eng)(k:Str)(a b:Int):List Pt:=if X13 e=true then X0Z (X2Q (X0c e).1 k) a b else []
theorem X9c{e:Eng}(h:X8e e=true):(0≤e.1∧e.1≤1099511627776)∧X0y e.2.1=true∧X9Y e.2.1≤40∧e.2.2.length≤4∧XdQ e.2.1 e=false:=by
 unfold X8e Xj5 fIn at h
 simp only[Bool.and_eq_true,decide_eq_true_eq,Bool.not_eq_true']at h
 exact⟨h.1,h.2.1,h.2.2.1,h.2.2.2.1,h.2.2.2.2⟩
theorem X30{e:Eng}(h:X13 e=true):X8e e=true∧okF e.2.2=true∧X2u e=((X0c e).1,true)∧X0y (X0c e).1=true:=by
 have h0:=h
 unfold X13 X2u at h
 split at h
 · rename_i h1
   split at h
   · rename_i h2
     refine⟨h1,by rw[←Xeo];exact h2,?_,h⟩
     unfold X2u;rw[if_pos h1,if_pos h2,show X0y (X0c e).1=true from h]
   · cases h
 · cases h
theorem Xea(e:Eng):(X2u e).2=X13 e:=rfl
theorem Xhl{e:Eng}(h:okF e.2.2=true):Xhg e=(X87 e.2.2++[e.2.1],true):=by unfold Xhg;rw[if_pos h]
theorem Xna{e:Eng}(hc:X9p e.2.1):X9p (X0c e).1:=by
 unfold X0c;split
 · exact Xdv (X4C (X7K _ [] Xbb (XcP _)) hc.2) _
 · exact Xbb
theorem Xrm{l:List Ser}(h:XcB l){k:Str}(hk:X5M l k=true):(l.getD (pos Op.bytesLess Prod.fst k l) ([],[])).2=X2Q l k:=by
 obtain⟨p1,p2⟩:=Xca h hk
 have hm:=X14 (d:=(([]:Str),([]:List Pt))) p1
 have:=((X9l h).1 hm).2
 rw[p2]at this;exact this.symm
def X4d(e:Eng)(k:Str)(a b:Int):Prop:=X5P e
def X8k:Con:={A:=(.pair T4q (.pair .str T0q)),shA:=[.agg 3,.one,.one,.one],R:=X9z,shR:=[(false,1)],fresh:=[(0,85)],pre:=fun _ a=>(X4d a.1 a.2.1 a.2.2.1 a.2.2.2),f:=some fun _ a=>((X3g a.1 a.2.1 a.2.2.1 a.2.2.2),((),()))}
def X40.F(a0:U3q)(a1:U5q)(a2:Int)(a3:Int):Prop:=((X5P (a0.1,(a0.2.1,a0.2.2)))∧∀r1,(Eq r1 ((X2u (a0.1,(a0.2.1,a0.2.2))),((),())))→(X00 (!r1.1.2) (Eq (([]:U6q),((),())) ((X3g a0 a1 a2 a3),((),()))) ((pSf r1.1.1 a1)∧∀r2,(Eq r2 ((fSf r1.1.1 a1),((),())))→(X00 (!r2.1.2) (Eq (([]:U6q),((),())) ((X3g a0 a1 a2 a3),((),()))) (0≤r2.1.1∧(r2.1.1<(ln r1.1.1)∧((X6l ((List.getD r1.1.1 (tN r2.1.1) ([],[])).2) a2 a3)∧∀r3,(Eq r3 ((X0Z ((List.getD r1.1.1 (tN r2.1.1) ([],[])).2) a2 a3),((),())))→(Eq (r3.1,((),())) ((X3g a0 a1 a2 a3),((),()))))))))))
theorem X40.pure(a0:U3q)(a1:U5q)(a2:Int)(a3:Int)(h:(X4d a0 a1 a2 a3))(hw:Wf X8k.A (a0,a1,a2,a3)):X40.F a0 a1 a2 a3:=by
 delta X40.F ln tN
 simp only[Bs,B0,B1,Prod.mk.injEq,X01,Prod.eta,pSf,Xqy]
 have hp:X5P a0:=h
 refine⟨hp,fun h1=>?_,fun h1=>?_⟩
 · unfold X3g;rw[if_neg (by rw[←Xea,h1];decide)]
 have h1:X13 a0=true:=h1
 obtain⟨g1,g2,g3,g4⟩:=X30 h1
 obtain⟨s1,s2,s3,s4⟩:=X1I g4
 rw[g3]
 simp only
 refine⟨⟨s1.1,by omega⟩,fun h2=>?_,fun h2=>?_⟩
 · have h3:X5M (X0c a0).1 a1=false:=h2
   unfold X3g;rw[if_pos h1,X9I h3,Xcq]
 · have h3:X5M (X0c a0).1 a1=true:=h2
   obtain⟨p1,p2⟩:=Xca s1.1 h3
   have e1:(fSf (X0c a0).1 a1).1=((pos Op.bytesLess Prod.fst a1 (X0c a0).1:Nat):Int):=rfl
   have e2:=Xrm s1.1 h3
   have e3:=Xnm (X0c a0).1 a1
   rw[e1,Int.toNat_natCast,e2]
   refine⟨by omega,by omega,by unfold X6l;omega,?_⟩
   unfold X3g;rw[if_pos h1]
set_option maxRecDepth 100000 in
theorem X40.eq:EqS X8k Tryz.f36 [64] [X17.e,X1X.e,X3l.e] [] noL (fun i x=>X40.F x.1 x.2.1 x.2.2.1 x.2.2.2):=by intro i x;kernel_rfl
theorem X40.ok:X0l Tryz.prog 36 X8k:=X2b X40.eq Tryz.func36 rfl (by kernel_rfl) fun i x h hi hw=>X40.pure x.1 x.2.1 x.2.2.1 x.2.2.2 h hw
def X40.e:GE:=⟨36,X8k,⟨_,Tryz.func36,rfl,rfl⟩,X40.ok⟩
end Go.Proofs.YtcfaphojdacmbaaGreatR.B
