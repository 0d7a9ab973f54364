/- What an engine tells of a key,put after put. -/
import Derived.Test.YtcfaphojdacmbaaGreatRCLawD
import Derived.Test.YtcfaphojdacmbaaGreatRCFresh
set_option linter.unusedVariables false
set_option linter.unusedSimpArgs false
namespace Go.Proofs.YtcfaphojdacmbaaGreatR.B
open Go Go.Proofs.YtcfaphojdacmbaaGreatR.Bv
structure EZ (X8c:List Pt) (x:Eng):Prop where
 ok:X13 x=true
 pe:X5P x
 w:X8c=X2Q (X0c x).1 ([99,112,117]:Str)
theorem XoY{l:List Ser}(hl:X0y l=true)(k:Str):X0s (X2Q l k)=true:=by
 cases hk:X5M l k with
 | false=>rw[X9I hk];decide
 | true=>
   obtain⟨z,hz,e1⟩:=X5i.1 hk
   have:=((X9l (X1I hl).1.1).1 hz).2
   rw[e1]at this
   rw[this];exact((X1I hl).2.2.2 z hz).2.2
theorem EZ.pts{W:List Pt}{x:Eng}(H:EZ W x):X0s W=true:=by
 rw[H.w];exact XoY (X30 H.ok).2.2.2 _
theorem EZ.same{W:List Pt}{x:Eng}(H:EZ W x):X3f (X3g x ([99,112,117]:Str) 0 1099511627777) W=true:=by
 rw[XmD H.ok,H.w];exact Xos rfl
theorem XgN{W:List Pt}{x:Eng}(H:EZ W x):X1N W x.1 1099511627777=W:=by
 obtain⟨g1,g2,g3,g4⟩:=X30 H.ok
 unfold X1N
 rw[if_pos H.pts]
 have hR:=(X6n H.ok H.pe).R
 have e:(X0c x).1=X0u (X0c x).1 x.1:=by
  rw[X4N g2];exact(X9M (X4C (X7K _ [] Xbb (XcP _)) hR.2) _).symm
 have e2:=(X1d (X1I g4).1.1 x.1 ([99,112,117]:Str)).1
 rw[←e,←H.w]at e2
 exact e2.symm
theorem XjY(e:Eng):(fFl e).1=e.1:=by unfold fFl Xdf X7h;split<;>split<;>rfl
theorem X4l{W:List Pt}{x:Eng}(H:EZ W x):EZ (X1N W (X7q x).1 1099511627777) (X7q x):=by
 obtain⟨o1,o3,o4⟩:=Xqg H.ok H.pe
 have ef:X7q x=fFl x:=by unfold X7q;rw[if_pos H.ok]
 rw[ef,XjY,XgN H]
 exact⟨o1.1,o1.2,by rw[o4];exact H.w⟩
theorem X5U{W:List Pt}{x:Eng}(H:EZ W x):EZ (X1N W (X8Y x).1 1099511627777) (X8Y x):=by
 obtain⟨o1,o3⟩:=XkS H.ok H.pe
 have eg:(X8Y x).1=x.1:=by unfold X8Y;rw[if_pos H.ok];exact XjY x
 rw[eg,XgN H]
 exact⟨o1.1,o1.2,by rw[o3];exact H.w⟩
theorem X4i{W:List Pt}{x:Eng}(H:EZ W x)(t:Int):EZ (X1N W (X6H x t).1 1099511627777) (X6H x t):=by
 obtain⟨g1,g2,g3,g4⟩:=X30 H.ok
 obtain⟨o1,o2,o3⟩:=XjH H.ok H.pe t
 have e1:X6H x t=X4U x t:=by unfold X6H;rw[if_pos H.ok]
 rw[e1]
 refine⟨o1.1,o1.2,?_⟩
 rw[o3,(X1d (X1I g4).1.1 _ ([99,112,117]:Str)).1,←H.w,o2]
 unfold X1N;rw[if_pos H.pts]
theorem X5Q{W:List Pt}{x:Eng}(H:EZ W x):EZ (X1N W x.1 1099511627777) x:=by rw[XgN H];exact H
theorem X0K{W:List Pt}{x:Eng}(H:EZ W x){k:Str}{p:List Pt}(h:¬(X7J x k p).2=0):EZ W (X7J x k p).1:=by
 rw[(XhR H.ok H.pe k p).2.2.2 h];exact H
theorem Xn4{x:Eng}(h:X13 x=true)(hp:X5P x){k:Str}{p:List Pt}(h0:(X7J x k p).2=0)(j:Str):X2Q (X0c (X7J x k p).1).1 j=X2i (X2Q (X0c x).1 j) (if k=j then p else []):=by
 obtain⟨o1,o2,o3,o4⟩:=XhR h hp k p
 obtain⟨q1,q2,q3⟩:=o3 h0
 exact XrY (was:=(X0c x).1) ⟨h,hp,o1.1,o1.2,rfl,q1.2.1,q3⟩ j
theorem X4p{W:List Pt}{x:Eng}(H:EZ W x){k:Str}{p:List Pt}(h0:(X7J x k p).2=0)(hk:¬k=([99,112,117]:Str)):EZ W (X7J x k p).1:=by
 obtain⟨o1,_⟩:=XhR H.ok H.pe k p
 refine⟨o1.1,o1.2,?_⟩
 rw[Xn4 H.ok H.pe h0,if_neg hk,H.w];rfl
theorem Xp8{W:List Pt}{x:Eng}(H:EZ W x){p:List Pt}(h0:(X7J x ([99,112,117]:Str) p).2=0):(X7l W p).2=true∧EZ (X7l W p).1 (X7J x ([99,112,117]:Str) p).1:=by
 obtain⟨o1,o2,o3,o4⟩:=XhR H.ok H.pe ([99,112,117]:Str) p
 obtain⟨q1,q2,q3⟩:=o3 h0
 have hm:=Xn4 H.ok H.pe h0 ([99,112,117]:Str)
 rw[if_pos rfl,←H.w]at hm
 have hl:=X5d (XoY (X30 o1.1).2.2.2 ([99,112,117]:Str))
 rw[hm]at hl
 unfold X7l
 rw[if_pos ⟨H.pts,q1.2.1,hl⟩]
 exact⟨rfl,o1.1,o1.2,hm.symm⟩
theorem Xpz:EZ [] (0,([],[])):=⟨by decide,⟨by simp[X27],by simp⟩,by decide⟩
structure ezI (code:List Int) (X8c:List Pt) (i f:Int) (c:List Ser) (g:List Str):Prop where
 h1:0≤i
 h2:i≤22
 H:EZ X8c (f,(c,g))
def ezM(code:List Int)(X8c:List Pt)(i f:Int)(c:List Ser)(g:List Str):Nat:=(23 - i).toNat
def Xe5(code:List Int)(i:Int):Int:=if i<code.length then IntKind.wrap .i64 (code.getD i.toNat 0) else Int.tmod (IntKind.wrap .i64 (IntKind.wrap .i64 (i*37)+IntKind.wrap .i64 (code.length*11))) 256
def Xi0(code:List Int)(i:Int):Prop:=0≤i
def Xc3:Con:={A:=(.pair T8q (.int .i64)),shA:=[.one,.one],R:=(.int .i64),shR:=[(false,1)],pre:=fun _ a=>(Xi0 a.1 a.2),f:=some fun _ a=>((Xe5 a.1 a.2),((),()))}
def X7X.F(a0:(List Int))(a1:Int):Prop:=(X00 (decide (a1<(ln a0))) (0≤a1∧(a1<(ln a0)∧(Eq ((wI (List.getD a0 (tN a1) 0)),((),())) ((Xe5 a0 a1),((),()))))) ((256:Int)≠0∧(Eq ((Int.tmod (wI ((wI (a1*(37:Int)))+(wI ((ln a0)*(11:Int))))) (256:Int)),((),())) ((Xe5 a0 a1),((),())))))
theorem X7X.pure(a0:(List Int))(a1:Int)(h:(Xi0 a0 a1))(hw:Wf Xc3.A (a0,a1)):X7X.F a0 a1:=by
 delta X7X.F ln tN wI
 simp only[Bs,B0,B1,Prod.mk.injEq,X01,Prod.eta]
 have hp:0≤a1:=h
 refine⟨fun h1=>⟨hp,h1,?_⟩,fun h1=>⟨by omega,?_⟩⟩
 · unfold Xe5;rw[if_pos h1]
 · unfold Xe5;rw[if_neg h1]
set_option maxRecDepth 100000 in
theorem X7X.eq:EqS Xc3 Tryz.f12 [3] [] [] noL (fun i x=>X7X.F x.1 x.2):=by intro i x;kernel_rfl
theorem X7X.ok:X0l Tryz.prog 12 Xc3:=X2b X7X.eq Tryz.func12 rfl (by kernel_rfl) fun i x h hi hw=>X7X.pure x.1 x.2 h hw
def X7X.e:GE:=⟨12,Xc3,⟨_,Tryz.func12,rfl,rfl⟩,X7X.ok⟩
end Go.Proofs.YtcfaphojdacmbaaGreatR.B
