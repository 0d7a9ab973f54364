/- Engines:copied,raised. -/
import Derived.Test.YtgmafgmjbaoomaaGreatCEngQ
set_option maxRecDepth 100000
set_option linter.unusedVariables false
set_option linter.unusedSimpArgs false
namespace Go.Proofs.YtgmafgmjbaoomaaGreat.B
open Go Go.Proofs.YtgmafgmjbaoomaaGreat.Bv
def Xo3(l:List Str):List Str:=l
def Xp9(l:List Str):Prop:=l.length≤1099511627776
def fIdS(l:List Ser):List Ser:=l
def pIdS(l:List Ser):Prop:=tot l≤100000000
structure cqI (l:List Ser) (i:Int) (out:List Ser):Prop where
 h1:0≤i
 h2:i≤l.length
 h3:out=l.take i.toNat
 h4:(out.length:Int)=i
def cqM(l:List Ser)(i:Int)(out:List Ser):Nat:=(l.length - i).toNat
theorem XjV{l:List Ser}{i:Int}{out o':List Ser}(h:cqI l i out)(hi:i<l.length)(ho:o'=out++[l.getD i.toNat ([],[])]):cqI l (i+1) o':=by
 obtain⟨h1,h2,h3,h4⟩:=h
 subst ho
 refine⟨by omega,by omega,?_,by simp;omega⟩
 rw[tn1 h1,X0S ([],[]) (by omega),h3]
theorem Xmk{l:List Ser}{i:Int}{out:List Ser}(h:cqI l i out)(hi:¬i<l.length):out=l:=by
 obtain⟨h1,h2,h3,h4⟩:=h
 rw[h3,show i.toNat=l.length by omega,List.take_length]
def Xlt(e:Eng):Eng:=e
def Xm6(e:Eng):Prop:=tot e.2.1≤100000000∧e.2.2.length≤100000000
def X1O:Con:={A:=(.list .str),shA:=[.one],R:=(.list .str),shR:=[(false,1)],fresh:=[(0,9)],pre:=fun _ a=>(Xp9 a),f:=some fun _ a=>((Xo3 a),((),()))}
def X0l.F(a0:(List U4q)):Prop:=(∀(b1:Bool),(b1=true→a0=[])→(X00 b1 (Eq (([]:(List U4q)),((),())) ((Xo3 a0),((),()))) (List.length ([]:List U4q)+List.length a0≤9223372036854775807∧((List.length ([]:List U4q)+List.length a0)*16≤140737488355328∧(Eq ((([]:List U4q)++a0),((),())) ((Xo3 a0),((),())))))))
theorem X0l.pure(a0:(List U4q))(h:(Xp9 a0))(hw:Wf X1O.A a0):X0l.F a0:=by
 unfold X0l.F
 have hp:a0.length≤1099511627776:=h
 simp only[Bs,B0,B1,Prod.mk.injEq,X03,Xo3,Xp9]
 repeat' (with_reducible (first | (refine And.intro ?_ ?_) | intro _))
 all_goals (try simp (disch:=omega) only[w64,wu8,tn0,tn1,tm1,tm2,List.length_append,List.length_cons,List.length_nil]at*)
 all_goals (try simp (disch:=omega) only[w64,wu8,tn0,tn1,tm1,tm2,List.length_append,List.length_cons,List.length_nil]at*)
 all_goals (try omega)
 all_goals (try grind[])
 all_goals (try simp_all)
theorem X0l.eq:EqS X1O Tryz.f139 [26] [] [] noL (fun i x=>X0l.F x):=by intro i x;kernel_rfl
theorem X0l.ok:X0o Tryz.prog 139 X1O:=X2u X0l.eq Tryz.func139 rfl (by kernel_rfl) fun i x h hi hw=>X0l.pure x h hw
def X0l.e:GE:=⟨139,X1O,⟨_,Tryz.func139,rfl,rfl⟩,X0l.ok⟩
def X3X:Con:={A:=X8V,shA:=[.one],R:=X8V,shR:=[(false,1)],fresh:=[(0,109)],pre:=fun _ a=>(pIdS a),f:=some fun _ a=>((fIdS a),((),()))}
def X0R.F(a0:U8q):Prop:=(eS [(7,.val false [.lst T6q a0 none]),(8,.val false [.int .i64 (ln a0)])] [(7,.val false [.lst T6q a0 none]),(8,.val false [.int .i64 (ln a0)])]∧((cqI a0 0 ([]:List (U4q×U5q)))∧∀(y1:(Int×U8q)),(cqI a0 y1.1 y1.2)→(X00 (decide (y1.1<(ln a0))) (0≤y1.1∧(y1.1<(ln a0)∧((XjE ((List.getD a0 (tN y1.1) ([],[])).2))∧∀r2,(Eq r2 ((XnX ((List.getD a0 (tN y1.1) ([],[])).2)),((),())))→(List.length y1.2+List.length ([((List.getD a0 (tN y1.1) ([],[])).1,r2.1)]:List (U4q×U5q))≤9223372036854775807∧((List.length y1.2+List.length ([((List.getD a0 (tN y1.1) ([],[])).1,r2.1)]:List (U4q×U5q)))*40≤140737488355328∧(eS [(7,.val false [.lst T6q a0 none]),(8,.val false [.int .i64 (ln a0)])] [(7,.val false [.lst T6q a0 none]),(8,.val false [.int .i64 (ln a0)])]∧(cqI a0 (wI (y1.1+(1:Int))) (y1.2++[((List.getD a0 (tN y1.1) ([],[])).1,r2.1)]))∧(cqM a0 (wI (y1.1+(1:Int))) (y1.2++[((List.getD a0 (tN y1.1) ([],[])).1,r2.1)]))<(cqM a0 y1.1 y1.2))))))) (Eq (y1.2,((),())) ((fIdS a0),((),()))))))
def X0R.L(a0:U8q):Nat→Option X0a:=fun p=>Go.Proofs.YtgmafgmjbaoomaaGreat.Bv.look p [(58,{kp:={hold:=[7,8],slots:=[3,9],boxes:=[],rows:=[{bx:=false,s:=3,i:=0,k:=1000387,e:=109,hot:=true}]},T:=(.pair (.int .i64) X8V),I:=fun st y=>cqI a0 y.1 y.2,μ:=fun st y=>cqM a0 y.1 y.2})]
theorem X0R.pure(a0:U8q)(h:(pIdS a0))(hw:Wf X3X.A a0):X0R.F a0:=by
 delta X0R.F ln tN wI eS
 simp only[Bs,B0,B1,Prod.mk.injEq,X03,XnX,XjE,Prod.eta]
 have hn:tot a0≤100000000:=h
 have k1:=Xkg a0
 refine⟨⟨by omega,by omega,rfl,rfl⟩,?_⟩
 rintro⟨i,out⟩ hI
 simp only at hI ⊢
 have q1:=hI.h1
 have q2:=hI.h2
 have q4:=hI.h4
 refine⟨fun hi=>?_,fun hi=>Xmk hI hi⟩
 have dn:∀o,cqM a0 (i+1) o<cqM a0 i out:=fun o=>by unfold cqM;omega
 rw[w64 (x:=i+1) (by omega) (by omega)]
 have k2:=XiM (X2C (d:=(([]:List UInt8),([]:List Pt))) (by omega:i.toNat<a0.length))
 exact⟨q1,hi,by omega,by omega,by omega,XjV hI hi rfl,dn _⟩
theorem X0R.eq:EqS X3X Tryz.f138 [25] [X0b.e] [] (fun i x=>X0R.L x) (fun i x=>X0R.F x):=by intro i x;kernel_rfl
theorem X0R.ok:X0o Tryz.prog 138 X3X:=X2u X0R.eq Tryz.func138 rfl (by kernel_rfl) fun i x h hi hw=>X0R.pure x h hw
def X0R.e:GE:=⟨138,X3X,⟨_,Tryz.func138,rfl,rfl⟩,X0R.ok⟩
def X3P:Con:={A:=Xfd,shA:=[.agg 3],R:=Xfd,shR:=[(true,3)],fresh:=[(1,109),(2,9)],pre:=fun _ a=>(Xm6 a),f:=some fun _ a=>((Xlt a),((),()))}
def X1n.F(a0:Xhd):Prop:=((pIdS a0.2.1)∧∀r1,(Eq r1 ((fIdS a0.2.1),((),())))→((Xp9 a0.2.2)∧∀r2,(Eq r2 ((Xo3 a0.2.2),((),())))→(Eq ((a0.1,(r1.1,r2.1)),((),())) ((Xlt a0),((),())))))
theorem X1n.pure(a0:Xhd)(h:(Xm6 a0))(hw:Wf X3P.A a0):X1n.F a0:=by
 unfold X1n.F
 simp only[Bs,B0,B1,Prod.mk.injEq,X03,Xo3,Xp9,fIdS,pIdS,Xlt]
 obtain⟨h1,h2⟩:=h
 exact⟨h1,by omega⟩
theorem X1n.eq:EqS X3P Tryz.f93 [28] [X0R.e,X0l.e] [] noL (fun i x=>X1n.F x):=by intro i x;kernel_rfl
theorem X1n.ok:X0o Tryz.prog 93 X3P:=X2u X1n.eq Tryz.func93 rfl (by kernel_rfl) fun i x h hi hw=>X1n.pure x h hw
def X1n.e:GE:=⟨93,X3P,⟨_,Tryz.func93,rfl,rfl⟩,X1n.ok⟩
structure lcI (a:Eng) (i f:Int) (c:List Ser) (g:List Str) (z0:Int) (z2:List Str) (o0:Int) (z1 o1:List Ser) (o2:List Str):Prop where
 ec:c=a.2.1
 e0:o0=a.1
 e2:o2=a.2.2
 I:cqI a.2.1 i o1
def lcM(a:Eng)(i f:Int)(c:List Ser)(g:List Str)(z0:Int)(z2:List Str)(o0:Int)(z1 o1:List Ser)(o2:List Str):Nat:=cqM a.2.1 i o1
def X5l:Con:={A:=Xfd,shA:=[.agg 3],R:=Xfd,shR:=[(true,3)],fresh:=[(1,109),(2,9)],pre:=fun _ a=>(Xm6 a),f:=some fun _ a=>((Xlt a),((),()))}
def X1M.F(a0:Xhd):Prop:=(List.length ([]:List U4q)+List.length a0.2.2≤9223372036854775807∧((List.length ([]:List U4q)+List.length a0.2.2)*16≤140737488355328∧(eS [(1,.box 2 0),(2,.box 3 0),(3,.box 4 0)] [(1,.box 2 0),(2,.box 3 0),(3,.box 4 0)]∧((lcI a0 0 a0.1 a0.2.1 a0.2.2 0 ([]:List U4q) a0.1 ([]:List (U4q×U5q)) ([]:List (U4q×U5q)) (([]:List U4q)++a0.2.2))∧∀(y1:(Int×(Int×(U8q×((List U4q)×(Int×((List U4q)×(Int×(U8q×(U8q×(List U4q))))))))))),(lcI a0 y1.1 y1.2.1 y1.2.2.1 y1.2.2.2.1 y1.2.2.2.2.1 y1.2.2.2.2.2.1 y1.2.2.2.2.2.2.1 y1.2.2.2.2.2.2.2.1 y1.2.2.2.2.2.2.2.2.1 y1.2.2.2.2.2.2.2.2.2)→(X00 (decide (y1.1<(ln y1.2.2.1))) (0≤y1.1∧(y1.1<(ln y1.2.2.1)∧(0≤y1.1∧(y1.1<(ln y1.2.2.1)∧(List.length ([]:List (Int×Int))+List.length ((List.getD y1.2.2.1 (tN y1.1) ([],[])).2)≤9223372036854775807∧((List.length ([]:List (Int×Int))+List.length ((List.getD y1.2.2.1 (tN y1.1) ([],[])).2))*16≤140737488355328∧(List.length y1.2.2.2.2.2.2.2.2.1+List.length [((List.getD y1.2.2.1 (tN y1.1) ([],[])).1,(([]:List (Int×Int))++((List.getD y1.2.2.1 (tN y1.1) ([],[])).2)))]≤9223372036854775807∧((List.length y1.2.2.2.2.2.2.2.2.1+List.length [((List.getD y1.2.2.1 (tN y1.1) ([],[])).1,(([]:List (Int×Int))++((List.getD y1.2.2.1 (tN y1.1) ([],[])).2)))])*40≤140737488355328∧(eS [(1,.box 2 0),(2,.box 3 0),(3,.box 4 0)] [(1,.box 2 0),(2,.box 3 0),(3,.box 4 0)]∧(lcI a0 (wI (y1.1+(1:Int))) y1.2.1 y1.2.2.1 y1.2.2.2.1 y1.2.2.2.2.1 y1.2.2.2.2.2.1 y1.2.2.2.2.2.2.1 y1.2.2.2.2.2.2.2.1 (y1.2.2.2.2.2.2.2.2.1++[((List.getD y1.2.2.1 (tN y1.1) ([],[])).1,(([]:List (Int×Int))++((List.getD y1.2.2.1 (tN y1.1) ([],[])).2)))]) y1.2.2.2.2.2.2.2.2.2)∧(lcM a0 (wI (y1.1+(1:Int))) y1.2.1 y1.2.2.1 y1.2.2.2.1 y1.2.2.2.2.1 y1.2.2.2.2.2.1 y1.2.2.2.2.2.2.1 y1.2.2.2.2.2.2.2.1 (y1.2.2.2.2.2.2.2.2.1++[((List.getD y1.2.2.1 (tN y1.1) ([],[])).1,(([]:List (Int×Int))++((List.getD y1.2.2.1 (tN y1.1) ([],[])).2)))]) y1.2.2.2.2.2.2.2.2.2)<(lcM a0 y1.1 y1.2.1 y1.2.2.1 y1.2.2.2.1 y1.2.2.2.2.1 y1.2.2.2.2.2.1 y1.2.2.2.2.2.2.1 y1.2.2.2.2.2.2.2.1 y1.2.2.2.2.2.2.2.2.1 y1.2.2.2.2.2.2.2.2.2)))))))))) (Eq ((y1.2.2.2.2.2.2.1,(y1.2.2.2.2.2.2.2.2.1,y1.2.2.2.2.2.2.2.2.2)),((),())) ((Xlt a0),((),()))))))))
def X1M.L(a0:Xhd):Nat→Option X0a:=fun p=>Go.Proofs.YtgmafgmjbaoomaaGreat.Bv.look p [(58,{kp:={hold:=[1,2,3],slots:=[4],boxes:=[2,3,4],rows:=[{bx:=true,s:=3,i:=1,k:=13800389,e:=109,hot:=true},{bx:=true,s:=4,i:=1,k:=13800517,e:=109,hot:=true},{bx:=true,s:=4,i:=2,k:=13800519,e:=9,hot:=true}]},T:=(.pair (.int .i64) (.pair (.int .i64) (.pair X8V (.pair (.list .str) (.pair (.int .i64) (.pair (.list .str) (.pair (.int .i64) (.pair X8V (.pair X8V (.list .str)))))))))),I:=fun st y=>lcI a0 y.1 y.2.1 y.2.2.1 y.2.2.2.1 y.2.2.2.2.1 y.2.2.2.2.2.1 y.2.2.2.2.2.2.1 y.2.2.2.2.2.2.2.1 y.2.2.2.2.2.2.2.2.1 y.2.2.2.2.2.2.2.2.2,μ:=fun st y=>lcM a0 y.1 y.2.1 y.2.2.1 y.2.2.2.1 y.2.2.2.2.1 y.2.2.2.2.2.1 y.2.2.2.2.2.2.1 y.2.2.2.2.2.2.2.1 y.2.2.2.2.2.2.2.2.1 y.2.2.2.2.2.2.2.2.2})]
theorem X1M.pure(a0:Xhd)(h:(Xm6 a0))(hw:Wf X5l.A a0):X1M.F a0:=by
 delta X1M.F ln tN wI eS
 simp only[Bs,B0,B1,Prod.mk.injEq,X03,Prod.eta]
 obtain⟨hn,hl⟩:=h
 have k1:=Xkg a0.2.1
 simp only[List.nil_append]
 refine⟨by omega,by omega,⟨rfl,rfl,rfl,by omega,by omega,rfl,rfl⟩,?_⟩
 rintro⟨i,f,c,g,z0,z2,o0,z1,o1,o2⟩ ⟨ec,e0,e2,hI⟩
 simp only at ec e0 e2 hI ⊢
 subst ec e0 e2
 have q1:=hI.h1
 have q2:=hI.h2
 have q4:=hI.h4
 refine⟨fun hi=>?_,fun hi=>?_⟩
 · have k2:=XiM (X2C (d:=(([]:List UInt8),([]:List Pt))) (by omega:i.toNat<a0.2.1.length))
   rw[w64 (x:=i+1) (by omega) (by omega)]
   exact⟨q1,hi,q1,hi,by omega,by omega,by omega,by omega,⟨rfl,rfl,rfl,XjV hI hi rfl⟩,by unfold lcM cqM;omega⟩
 · rw[Xmk hI hi];rfl
theorem X1M.eq:EqS X5l Tryz.f66 [28] [] [] (fun i x=>X1M.L x) (fun i x=>X1M.F x):=by intro i x;kernel_rfl
theorem X1M.ok:X0o Tryz.prog 66 X5l:=X2u X1M.eq Tryz.func66 rfl (by kernel_rfl) fun i x h hi hw=>X1M.pure x h hw
def X1M.e:GE:=⟨66,X5l,⟨_,Tryz.func66,rfl,rfl⟩,X1M.ok⟩
structure lrI (a:Eng) (t i f z0:Int) (z2:List Str) (out c:List Ser) (g:List Str) (z1:List Ser):Prop where
 ec:c=a.2.1
 eg:g=a.2.2
 I:raI a.2.1 t i out
def lrM(a:Eng)(t i f z0:Int)(z2:List Str)(out c:List Ser)(g:List Str)(z1:List Ser):Nat:=raM a.2.1 t i out
def XkH.L(a0:Xhd)(a1:Int):Nat→Option X0a:=fun p=>Go.Proofs.YtgmafgmjbaoomaaGreat.Bv.look p [(122,{kp:={hold:=[1,2,4],slots:=[5,6],boxes:=[3,5],rows:=[{bx:=false,s:=5,i:=0,k:=1000643,e:=109,hot:=true},{bx:=true,s:=3,i:=1,k:=13800389,e:=109,hot:=true},{bx:=true,s:=3,i:=2,k:=13800391,e:=9,hot:=true},{bx:=true,s:=5,i:=1,k:=13800645,e:=109,hot:=true}]},T:=(.pair (.int .i64) (.pair (.int .i64) (.pair (.int .i64) (.pair (.list .str) (.pair X8V (.pair X8V (.pair (.list .str) X8V))))))),I:=fun st y=>lrI a0 a1 y.1 y.2.1 y.2.2.1 y.2.2.2.1 y.2.2.2.2.1 y.2.2.2.2.2.1 y.2.2.2.2.2.2.1 y.2.2.2.2.2.2.2,μ:=fun st y=>lrM a0 a1 y.1 y.2.1 y.2.2.1 y.2.2.2.1 y.2.2.2.2.1 y.2.2.2.2.2.1 y.2.2.2.2.2.2.1 y.2.2.2.2.2.2.2})]
end Go.Proofs.YtgmafgmjbaoomaaGreat.B
