/- Engines:copied,raised. -/
import Derived.Test.YtcfaphojdacmbaaGreatRCEngQ
set_option maxRecDepth 100000
set_option linter.unusedVariables false
set_option linter.unusedSimpArgs false
namespace Go.Proofs.YtcfaphojdacmbaaGreatR.B
open Go Go.Proofs.YtcfaphojdacmbaaGreatR.Bv
def Xqs(l:List Str):List Str:=l
def Xrq(l:List Str):Prop:=l.length≤1099511627776
def fIdS(l:List Ser):List Ser:=l
def pIdS(l:List Ser):Prop:=tot l≤100000000
structure cqI (l:List Ser) (i:Int) (out:List Ser):Prop where
 h1:0≤i
 h2:i≤l.length
 h3:out=l.take i.toNat
 h4:(out.length:Int)=i
def cqM(l:List Ser)(i:Int)(out:List Ser):Nat:=(l.length - i).toNat
theorem Xma{l:List Ser}{i:Int}{out o':List Ser}(h:cqI l i out)(hi:i<l.length)(ho:o'=out++[l.getD i.toNat ([],[])]):cqI l (i+1) o':=by
 obtain⟨h1,h2,h3,h4⟩:=h
 subst ho
 refine⟨by omega,by omega,?_,by simp;omega⟩
 rw[tn1 h1,X1S ([],[]) (by omega),h3]
theorem XoQ{l:List Ser}{i:Int}{out:List Ser}(h:cqI l i out)(hi:¬i<l.length):out=l:=by
 obtain⟨h1,h2,h3,h4⟩:=h
 rw[h3,show i.toNat=l.length by omega,List.take_length]
def Xls(e:Eng):Eng:=e
def Xlv(e:Eng):Prop:=tot e.2.1≤100000000∧e.2.2.length≤100000000
theorem Xp4{e:Eng}(h:X13 e=true):Xlv e:=by
 obtain⟨g1,g2,g3,g4⟩:=X30 h
 obtain⟨k1,k2,k3,k4,k5⟩:=X9c g1
 obtain⟨s1,s2,s3,s4⟩:=X1I k2
 exact⟨by omega,by omega⟩
def X4U(e:Eng)(t:Int):Eng:=if e.1<t∧t≤1099511627776 then(t,X0u e.2.1 t,e.2.2) else e
def XgW(e:Eng)(t:Int):Prop:=tot e.2.1≤100000000
def X6H(e:Eng)(t:Int):Eng:=if X13 e=true then X4U e t else(0,[],[])
def XcO(e:Eng)(t:Int):Prop:=X5P e
def X2t:Con:={A:=(.list .str),shA:=[.one],R:=(.list .str),shR:=[(false,1)],fresh:=[(0,9)],pre:=fun _ a=>(Xrq a),f:=some fun _ a=>((Xqs a),((),()))}
def X0o.F(a0:(List U5q)):Prop:=(∀(b1:Bool),(b1=true→a0=[])→(X00 b1 (Eq (([]:(List U5q)),((),())) ((Xqs a0),((),()))) (List.length ([]:List U5q)+List.length a0≤9223372036854775807∧((List.length ([]:List U5q)+List.length a0)*16≤140737488355328∧(Eq ((([]:List U5q)++a0),((),())) ((Xqs a0),((),())))))))
theorem X0o.pure(a0:(List U5q))(h:(Xrq a0))(hw:Wf X2t.A a0):X0o.F a0:=by
 unfold X0o.F
 have hp:a0.length≤1099511627776:=h
 simp only[Bs,B0,B1,Prod.mk.injEq,X01,Xqs,Xrq]
 repeat' (with_reducible (first | (refine And.intro ?_ ?_) | intro _))
 all_goals (try simp (disch:=omega) only[w64,wu8,tn0,tn1,tm1,tm2,List.length_append,List.length_cons,List.length_nil]at*)
 all_goals (try simp (disch:=omega) only[w64,wu8,tn0,tn1,tm1,tm2,List.length_append,List.length_cons,List.length_nil]at*)
 all_goals (try omega)
 all_goals (try grind[])
 all_goals (try simp_all)
theorem X0o.eq:EqS X2t Tryz.f168 [26] [] [] noL (fun i x=>X0o.F x):=by intro i x;kernel_rfl
theorem X0o.ok:X0l Tryz.prog 168 X2t:=X2b X0o.eq Tryz.func168 rfl (by kernel_rfl) fun i x h hi hw=>X0o.pure x h hw
def X0o.e:GE:=⟨168,X2t,⟨_,Tryz.func168,rfl,rfl⟩,X0o.ok⟩
def X5b:Con:={A:=T9q,shA:=[.one],R:=T9q,shR:=[(false,1)],fresh:=[(0,83)],pre:=fun _ a=>(pIdS a),f:=some fun _ a=>((fIdS a),((),()))}
def X1b.F(a0:(List U1q)):Prop:=(eS [(7,.val false [.lst T2q a0 none]),(8,.val false [.int .i64 (ln a0)])] [(7,.val false [.lst T2q a0 none]),(8,.val false [.int .i64 (ln a0)])]∧((cqI a0 0 ([]:List U1q))∧∀(y1:(Int×(List U1q))),(cqI a0 y1.1 y1.2)→(X00 (decide (y1.1<(ln a0))) (0≤y1.1∧(y1.1<(ln a0)∧((XdR ((List.getD a0 (tN y1.1) ([],[])).2))∧∀r2,(Eq r2 ((Xlp ((List.getD a0 (tN y1.1) ([],[])).2)),((),())))→(List.length y1.2+List.length ([((List.getD a0 (tN y1.1) ([],[])).1,r2.1)]:List U1q)≤9223372036854775807∧((List.length y1.2+List.length ([((List.getD a0 (tN y1.1) ([],[])).1,r2.1)]:List U1q))*40≤140737488355328∧(eS [(7,.val false [.lst T2q a0 none]),(8,.val false [.int .i64 (ln a0)])] [(7,.val false [.lst T2q a0 none]),(8,.val false [.int .i64 (ln a0)])]∧(cqI a0 (wI (y1.1+(1:Int))) (y1.2++[((List.getD a0 (tN y1.1) ([],[])).1,r2.1)]))∧(cqM a0 (wI (y1.1+(1:Int))) (y1.2++[((List.getD a0 (tN y1.1) ([],[])).1,r2.1)]))<(cqM a0 y1.1 y1.2))))))) (Eq (y1.2,((),())) ((fIdS a0),((),()))))))
def X1b.L(a0:(List U1q)):Nat→Option X0d:=fun p=>Go.Proofs.YtcfaphojdacmbaaGreatR.Bv.look p [(58,{kp:={hold:=[7,8],slots:=[3,9],boxes:=[],rows:=[{bx:=false,s:=3,i:=0,k:=1000387,e:=83,hot:=true}]},T:=(.pair (.int .i64) T9q),I:=fun st y=>cqI a0 y.1 y.2,μ:=fun st y=>cqM a0 y.1 y.2})]
theorem X1b.pure(a0:(List U1q))(h:(pIdS a0))(hw:Wf X5b.A a0):X1b.F a0:=by
 delta X1b.F ln tN wI eS
 simp only[Bs,B0,B1,Prod.mk.injEq,X01,Xlp,XdR,Prod.eta]
 have hn:tot a0≤100000000:=h
 have k1:=X7k a0
 refine⟨⟨by omega,by omega,rfl,rfl⟩,?_⟩
 rintro⟨i,out⟩ hI
 simp only at hI ⊢
 have q1:=hI.h1
 have q2:=hI.h2
 have q4:=hI.h4
 refine⟨fun hi=>?_,fun hi=>XoQ hI hi⟩
 have dn:∀o,cqM a0 (i+1) o<cqM a0 i out:=fun o=>by unfold cqM;omega
 rw[w64 (x:=i+1) (by omega) (by omega)]
 have k2:=Xbh (X14 (d:=(([]:List UInt8),([]:List Pt))) (by omega:i.toNat<a0.length))
 exact⟨q1,hi,by omega,by omega,by omega,Xma hI hi rfl,dn _⟩
theorem X1b.eq:EqS X5b Tryz.f167 [25] [X0b.e] [] (fun i x=>X1b.L x) (fun i x=>X1b.F x):=by intro i x;kernel_rfl
theorem X1b.ok:X0l Tryz.prog 167 X5b:=X2b X1b.eq Tryz.func167 rfl (by kernel_rfl) fun i x h hi hw=>X1b.pure x h hw
def X1b.e:GE:=⟨167,X5b,⟨_,Tryz.func167,rfl,rfl⟩,X1b.ok⟩
def X59:Con:={A:=T4q,shA:=[.agg 3],R:=T4q,shR:=[(true,3)],fresh:=[(1,83),(2,9)],pre:=fun _ a=>(Xlv a),f:=some fun _ a=>((Xls a),((),()))}
def X1a.F(a0:U3q):Prop:=((pIdS a0.2.1)∧∀r1,(Eq r1 ((fIdS a0.2.1),((),())))→((Xrq a0.2.2)∧∀r2,(Eq r2 ((Xqs a0.2.2),((),())))→(Eq ((a0.1,(r1.1,r2.1)),((),())) ((Xls a0),((),())))))
theorem X1a.pure(a0:U3q)(h:(Xlv a0))(hw:Wf X59.A a0):X1a.F a0:=by
 unfold X1a.F
 simp only[Bs,B0,B1,Prod.mk.injEq,X01,Xqs,Xrq,fIdS,pIdS,Xls]
 obtain⟨h1,h2⟩:=h
 exact⟨h1,by omega⟩
theorem X1a.eq:EqS X59 Tryz.f88 [28] [X1b.e,X0o.e] [] noL (fun i x=>X1a.F x):=by intro i x;kernel_rfl
theorem X1a.ok:X0l Tryz.prog 88 X59:=X2b X1a.eq Tryz.func88 rfl (by kernel_rfl) fun i x h hi hw=>X1a.pure x h hw
def X1a.e:GE:=⟨88,X59,⟨_,Tryz.func88,rfl,rfl⟩,X1a.ok⟩
structure lcI (a:Eng) (i f:Int) (c:List Ser) (g:List Str) (z0:Int) (z2:List Str) (o0:Int) (z1 o1:List Ser) (o2:List Str):Prop where
 ec:c=a.2.1
 e0:o0=a.1
 e2:o2=a.2.2
 I:cqI a.2.1 i o1
def lcM(a:Eng)(i f:Int)(c:List Ser)(g:List Str)(z0:Int)(z2:List Str)(o0:Int)(z1 o1:List Ser)(o2:List Str):Nat:=cqM a.2.1 i o1
def X6Z:Con:={A:=T4q,shA:=[.agg 3],R:=T4q,shR:=[(true,3)],fresh:=[(1,83),(2,9)],pre:=fun _ a=>(Xlv a),f:=some fun _ a=>((Xls a),((),()))}
def X2o.F(a0:U3q):Prop:=(List.length ([]:List U5q)+List.length a0.2.2≤9223372036854775807∧((List.length ([]:List U5q)+List.length a0.2.2)*16≤140737488355328∧(eS [(1,.box 2 0),(2,.box 3 0),(3,.box 4 0)] [(1,.box 2 0),(2,.box 3 0),(3,.box 4 0)]∧((lcI a0 0 a0.1 a0.2.1 a0.2.2 0 ([]:List U5q) a0.1 ([]:List U1q) ([]:List U1q) (([]:List U5q)++a0.2.2))∧∀(y1:(Int×(Int×((List U1q)×((List U5q)×(Int×((List U5q)×(Int×((List U1q)×((List U1q)×(List U5q))))))))))),(lcI a0 y1.1 y1.2.1 y1.2.2.1 y1.2.2.2.1 y1.2.2.2.2.1 y1.2.2.2.2.2.1 y1.2.2.2.2.2.2.1 y1.2.2.2.2.2.2.2.1 y1.2.2.2.2.2.2.2.2.1 y1.2.2.2.2.2.2.2.2.2)→(X00 (decide (y1.1<(ln y1.2.2.1))) (0≤y1.1∧(y1.1<(ln y1.2.2.1)∧(0≤y1.1∧(y1.1<(ln y1.2.2.1)∧(List.length ([]:List (Int×Int))+List.length ((List.getD y1.2.2.1 (tN y1.1) ([],[])).2)≤9223372036854775807∧((List.length ([]:List (Int×Int))+List.length ((List.getD y1.2.2.1 (tN y1.1) ([],[])).2))*16≤140737488355328∧(List.length y1.2.2.2.2.2.2.2.2.1+List.length [((List.getD y1.2.2.1 (tN y1.1) ([],[])).1,(([]:List (Int×Int))++((List.getD y1.2.2.1 (tN y1.1) ([],[])).2)))]≤9223372036854775807∧((List.length y1.2.2.2.2.2.2.2.2.1+List.length [((List.getD y1.2.2.1 (tN y1.1) ([],[])).1,(([]:List (Int×Int))++((List.getD y1.2.2.1 (tN y1.1) ([],[])).2)))])*40≤140737488355328∧(eS [(1,.box 2 0),(2,.box 3 0),(3,.box 4 0)] [(1,.box 2 0),(2,.box 3 0),(3,.box 4 0)]∧(lcI a0 (wI (y1.1+(1:Int))) y1.2.1 y1.2.2.1 y1.2.2.2.1 y1.2.2.2.2.1 y1.2.2.2.2.2.1 y1.2.2.2.2.2.2.1 y1.2.2.2.2.2.2.2.1 (y1.2.2.2.2.2.2.2.2.1++[((List.getD y1.2.2.1 (tN y1.1) ([],[])).1,(([]:List (Int×Int))++((List.getD y1.2.2.1 (tN y1.1) ([],[])).2)))]) y1.2.2.2.2.2.2.2.2.2)∧(lcM a0 (wI (y1.1+(1:Int))) y1.2.1 y1.2.2.1 y1.2.2.2.1 y1.2.2.2.2.1 y1.2.2.2.2.2.1 y1.2.2.2.2.2.2.1 y1.2.2.2.2.2.2.2.1 (y1.2.2.2.2.2.2.2.2.1++[((List.getD y1.2.2.1 (tN y1.1) ([],[])).1,(([]:List (Int×Int))++((List.getD y1.2.2.1 (tN y1.1) ([],[])).2)))]) y1.2.2.2.2.2.2.2.2.2)<(lcM a0 y1.1 y1.2.1 y1.2.2.1 y1.2.2.2.1 y1.2.2.2.2.1 y1.2.2.2.2.2.1 y1.2.2.2.2.2.2.1 y1.2.2.2.2.2.2.2.1 y1.2.2.2.2.2.2.2.2.1 y1.2.2.2.2.2.2.2.2.2)))))))))) (Eq ((y1.2.2.2.2.2.2.1,(y1.2.2.2.2.2.2.2.2.1,y1.2.2.2.2.2.2.2.2.2)),((),())) ((Xls a0),((),()))))))))
def X2o.L(a0:U3q):Nat→Option X0d:=fun p=>Go.Proofs.YtcfaphojdacmbaaGreatR.Bv.look p [(58,{kp:={hold:=[1,2,3],slots:=[4],boxes:=[2,3,4],rows:=[{bx:=true,s:=3,i:=1,k:=13800389,e:=83,hot:=true},{bx:=true,s:=4,i:=1,k:=13800517,e:=83,hot:=true},{bx:=true,s:=4,i:=2,k:=13800519,e:=9,hot:=true}]},T:=(.pair (.int .i64) (.pair (.int .i64) (.pair T9q (.pair (.list .str) (.pair (.int .i64) (.pair (.list .str) (.pair (.int .i64) (.pair T9q (.pair T9q (.list .str)))))))))),I:=fun st y=>lcI a0 y.1 y.2.1 y.2.2.1 y.2.2.2.1 y.2.2.2.2.1 y.2.2.2.2.2.1 y.2.2.2.2.2.2.1 y.2.2.2.2.2.2.2.1 y.2.2.2.2.2.2.2.2.1 y.2.2.2.2.2.2.2.2.2,μ:=fun st y=>lcM a0 y.1 y.2.1 y.2.2.1 y.2.2.2.1 y.2.2.2.2.1 y.2.2.2.2.2.1 y.2.2.2.2.2.2.1 y.2.2.2.2.2.2.2.1 y.2.2.2.2.2.2.2.2.1 y.2.2.2.2.2.2.2.2.2})]
theorem X2o.pure(a0:U3q)(h:(Xlv a0))(hw:Wf X6Z.A a0):X2o.F a0:=by
 delta X2o.F ln tN wI eS
 simp only[Bs,B0,B1,Prod.mk.injEq,X01,Prod.eta]
 obtain⟨hn,hl⟩:=h
 have k1:=X7k a0.2.1
 simp only[List.nil_append]
 refine⟨by omega,by omega,⟨rfl,rfl,rfl,by omega,by omega,rfl,rfl⟩,?_⟩
 rintro⟨i,f,c,g,z0,z2,o0,z1,o1,o2⟩ ⟨ec,e0,e2,hI⟩
 simp only at ec e0 e2 hI ⊢
 subst ec e0 e2
 have q1:=hI.h1
 have q2:=hI.h2
 have q4:=hI.h4
 refine⟨fun hi=>?_,fun hi=>?_⟩
 · have k2:=Xbh (X14 (d:=(([]:List UInt8),([]:List Pt))) (by omega:i.toNat<a0.2.1.length))
   rw[w64 (x:=i+1) (by omega) (by omega)]
   exact⟨q1,hi,q1,hi,by omega,by omega,by omega,by omega,⟨rfl,rfl,rfl,Xma hI hi rfl⟩,by unfold lcM cqM;omega⟩
 · rw[XoQ hI hi];rfl
theorem X2o.eq:EqS X6Z Tryz.f111 [28] [] [] (fun i x=>X2o.L x) (fun i x=>X2o.F x):=by intro i x;kernel_rfl
theorem X2o.ok:X0l Tryz.prog 111 X6Z:=X2b X2o.eq Tryz.func111 rfl (by kernel_rfl) fun i x h hi hw=>X2o.pure x h hw
def X2o.e:GE:=⟨111,X6Z,⟨_,Tryz.func111,rfl,rfl⟩,X2o.ok⟩
structure lrI (a:Eng) (t i f z0:Int) (z2:List Str) (out c:List Ser) (g:List Str) (z1:List Ser):Prop where
 ec:c=a.2.1
 eg:g=a.2.2
 I:raI a.2.1 t i out
def lrM(a:Eng)(t i f z0:Int)(z2:List Str)(out c:List Ser)(g:List Str)(z1:List Ser):Nat:=raM a.2.1 t i out
def Xo9.L(a0:U3q)(a1:Int):Nat→Option X0d:=fun p=>Go.Proofs.YtcfaphojdacmbaaGreatR.Bv.look p [(122,{kp:={hold:=[1,2,4],slots:=[5,6],boxes:=[3,5],rows:=[{bx:=false,s:=5,i:=0,k:=1000643,e:=83,hot:=true},{bx:=true,s:=3,i:=1,k:=13800389,e:=83,hot:=true},{bx:=true,s:=3,i:=2,k:=13800391,e:=9,hot:=true},{bx:=true,s:=5,i:=1,k:=13800645,e:=83,hot:=true}]},T:=(.pair (.int .i64) (.pair (.int .i64) (.pair (.int .i64) (.pair (.list .str) (.pair T9q (.pair T9q (.pair (.list .str) T9q))))))),I:=fun st y=>lrI a0 a1 y.1 y.2.1 y.2.2.1 y.2.2.2.1 y.2.2.2.2.1 y.2.2.2.2.2.1 y.2.2.2.2.2.2.1 y.2.2.2.2.2.2.2,μ:=fun st y=>lrM a0 a1 y.1 y.2.1 y.2.2.1 y.2.2.2.1 y.2.2.2.2.1 y.2.2.2.2.2.1 y.2.2.2.2.2.2.1 y.2.2.2.2.2.2.2})]
def X8i:Con:={A:=(.pair T4q (.int .i64)),shA:=[.agg 3,.one],R:=T4q,shR:=[(true,3)],fresh:=[(1,83),(2,9)],pre:=fun _ a=>(XcO a.1 a.2),f:=some fun _ a=>((X6H a.1 a.2),((),()))}
def X43.F(a0:U3q)(a1:Int):Prop:=((X5P (a0.1,(a0.2.1,a0.2.2)))∧∀r1,(Eq r1 ((X13 (a0.1,(a0.2.1,a0.2.2))),((),())))→(X00 (!r1.1) (Eq ((0,(([]:(List U1q)),([]:(List U5q)))),((),())) ((X6H a0 a1),((),()))) ((Xlv (a0.1,(a0.2.1,a0.2.2)))∧∀r2,(Eq r2 ((Xls (a0.1,(a0.2.1,a0.2.2))),((),())))→(X00 (decide (a1>r2.1.1)) (X00 (decide (a1≤(1099511627776:Int))) ((XdY r2.1.2.1 a1)∧∀r3,(Eq r3 ((X0u r2.1.2.1 a1),((),())))→(Eq ((a1,(r3.1,r2.1.2.2)),((),())) ((X6H a0 a1),((),())))) (Eq ((r2.1.1,(r2.1.2.1,r2.1.2.2)),((),())) ((X6H a0 a1),((),())))) (Eq ((r2.1.1,(r2.1.2.1,r2.1.2.2)),((),())) ((X6H a0 a1),((),())))))))
theorem X43.pure(a0:U3q)(a1:Int)(h:(XcO a0 a1))(hw:Wf X8i.A (a0,a1)):X43.F a0 a1:=by
 unfold X43.F
 simp only[Bs,B0,B1,Prod.mk.injEq,X01,Prod.eta,Xlv,Xls]
 have hp:X5P a0:=h
 refine⟨hp,fun h1=>?_,fun h1=>?_⟩
 · unfold X6H;rw[if_neg (by rw[h1];decide)]
 obtain⟨i1,i2⟩:=Xp4 h1
 have e1:X6H a0 a1=X4U a0 a1:=by unfold X6H;rw[if_pos h1]
 rw[e1]
 unfold X4U
 refine⟨⟨i1,i2⟩,fun h2=>⟨fun h3=>⟨i1,?_⟩,fun h3=>?_⟩,fun h2=>?_⟩
 · rw[if_pos (by omega)]
 · rw[if_neg (by omega)]
 · rw[if_neg (by omega)]
theorem X43.eq:EqS X8i Tryz.f33 [28] [X1a.e,X25.e,X2A.e] [] noL (fun i x=>X43.F x.1 x.2):=by intro i x;kernel_rfl
theorem X43.ok:X0l Tryz.prog 33 X8i:=X2b X43.eq Tryz.func33 rfl (by kernel_rfl) fun i x h hi hw=>X43.pure x.1 x.2 h hw
def X43.e:GE:=⟨33,X8i,⟨_,Tryz.func33,rfl,rfl⟩,X43.ok⟩
end Go.Proofs.YtcfaphojdacmbaaGreatR.B
