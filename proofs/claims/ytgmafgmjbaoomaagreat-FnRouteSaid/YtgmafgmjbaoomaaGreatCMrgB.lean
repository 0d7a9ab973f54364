/- Points merged. -/
import Derived.Test.YtgmafgmjbaoomaaGreatCMrgA
import Derived.Test.YtgmafgmjbaoomaaGreatCInsP
set_option maxRecDepth 100000
set_option linter.unusedVariables false
set_option linter.unusedSimpArgs false
namespace Go.Proofs.YtgmafgmjbaoomaaGreat.B
open Go Go.Proofs.YtgmafgmjbaoomaaGreat.Bv
structure mgI (a b:List Pt) (i:Int) (out:List Pt):Prop where
 h1:0≤i
 h2:i≤a.length
 h3:(a.drop i.toNat).foldl XiZ out=a.foldl XiZ b
 h4:Xlj out
 h5:(out.length:Int)≤b.length+i
def mgM(a b:List Pt)(i:Int)(out:List Pt):Nat:=(a.length - i).toNat
def Xno.L(a0:U5q)(a1:U5q):Nat→Option X0a:=fun p=>Go.Proofs.YtgmafgmjbaoomaaGreat.Bv.look p [(58,{kp:={hold:=[12,13],slots:=[5,14],boxes:=[],rows:=[{bx:=false,s:=5,i:=0,k:=1000643,e:=107,hot:=true}]},T:=(.pair (.int .i64) X60),I:=fun st y=>mgI a0 a1 y.1 y.2,μ:=fun st y=>mgM a0 a1 y.1 y.2})]
def Xeb(l:List Pt)(p:Pt):List Pt:=XgK p l
def XlY(l:List Pt)(p:Pt):Prop:=l.length≤1000000000000
def X80(p:Pt)(put:Bool)(l:List Pt):List Pt:=if put then l.filter (fun y=>!(y.1==p.1)) else XgK p l
structure puI (l:List Pt) (p:Pt) (put:Bool) (i:Int) (out:List Pt):Prop where
 h1:0≤i
 h2:i≤l.length
 h3:out++X80 p put (l.drop i.toNat)=XgK p l
 h4:(out.length:Int)≤i+1
 h5:put=false→(out.length:Int)≤i
def puM(l:List Pt)(p:Pt)(put:Bool)(i:Int)(out:List Pt):Nat:=(l.length - i).toNat
def puB(l:List Pt)(p:Pt)(put:Bool)(i t v:Int)(out:List Pt):Prop:=((t,v):Pt)=p∧puI l p put i out
def puN(l:List Pt)(p:Pt)(put:Bool)(i t v:Int)(out:List Pt):Nat:=puM l p put i out
theorem Xnz{l:List Pt}{p:Pt}{put put':Bool}{i:Int}{out o':List Pt}(h:puI l p put i out)(hi:i<l.length)(hl:(o'.length:Int)≤i+2∧(put'=false→(o'.length:Int)≤i+1))(he:∀r,o'++X80 p put' r=out++X80 p put (l.getD i.toNat (0,0)::r)):puI l p put' (i+1) o':=by
 obtain⟨h1,h2,h3,h4,h5⟩:=h
 refine⟨by omega,by omega,?_,by omega,hl.2⟩
 rw[tn1 h1,he,←X66 (0,0) (by omega)];exact h3
theorem pu_no{p x:Pt}{r:List Pt}(h:¬p.1≤x.1):X80 p false (x::r)=x::X80 p false r:=by simp[X80,XgK,h]
theorem Xmi{p x:Pt}{r:List Pt}(h:p.1≤x.1):X80 p false (x::r)=p::X80 p true (x::r):=by simp[X80,XgK,h]
theorem Xpe{p x:Pt}{r:List Pt}(h:x.1=p.1):X80 p true (x::r)=X80 p true r:=by simp[X80,h]
theorem Xou{p x:Pt}{r:List Pt}(h:¬x.1=p.1):X80 p true (x::r)=x::X80 p true r:=by simp[X80,h]
theorem XoY{l:List Pt}{p:Pt}{put:Bool}{i:Int}{out:List Pt}(h:puI l p put i out)(hi:¬i<l.length):(put=true→out=Xeb l p)∧(put=false→out++[p]=Xeb l p):=by
 obtain⟨h1,h2,h3,h4,h5⟩:=h
 have e:i.toNat=l.length:=by omega
 rw[e,List.drop_length]at h3
 refine⟨fun hp=>?_,fun hp=>?_⟩
 · rw[hp]at h3;simpa [X80,Xeb] using h3
 · rw[hp]at h3;simpa [X80,XgK,Xeb] using h3
def XjM(a b:List Pt):List Pt:=X7W a b
def XkI(a b:List Pt):Prop:=a.length≤400000000000∧b.length≤400000000000
structure m8I (a b:List Pt) (i:Int) (out:List Pt):Prop where
 h1:0≤i
 h2:i≤b.length
 h3:X7W out (b.drop i.toNat)=X7W a b
 h4:(out.length:Int)≤a.length+i
def m8M(a b:List Pt)(i:Int)(out:List Pt):Nat:=(b.length - i).toNat
theorem XnM{a b:List Pt}{i:Int}{out:List Pt}(h:m8I a b i out)(hi:i<b.length):m8I a b (i+1) (XgK (b.getD i.toNat (0,0)) out):=by
 obtain⟨h1,h2,h3,h4⟩:=h
 have:=X9q (b.getD i.toNat (0,0)) out
 refine⟨by omega,by omega,?_,by omega⟩
 rw[tn1 h1]
 rw[X66 (0,0) (by omega:i.toNat<b.length)]at h3
 exact h3
theorem Xoy{a b:List Pt}{i:Int}{out:List Pt}(h:m8I a b i out)(hi:¬i<b.length):out=XjM a b:=by
 obtain⟨h1,h2,h3,h4⟩:=h
 have e:i.toNat=b.length:=by omega
 rw[e,List.drop_length]at h3
 exact h3
def X6p:Con:={A:=(.pair X60 T0q),shA:=[.one,.agg 2],R:=X60,shR:=[(false,1)],fresh:=[(0,107)],pre:=fun _ a=>(XlY a.1 a.2),f:=some fun _ a=>((Xeb a.1 a.2),((),()))}
def X2M.F(a0:U5q)(a1:(Int×Int)):Prop:=(eS [(0,.val false [.lst T0q a0 none]),(3,.box 4 0)] [(0,.val false [.lst T0q a0 none]),(3,.box 4 0)]∧((puB a0 a1 false 0 a1.1 a1.2 ([]:List (Int×Int)))∧∀(y1:(Bool×(Int×(Int×(Int×U5q))))),(puB a0 a1 y1.1 y1.2.1 y1.2.2.1 y1.2.2.2.1 y1.2.2.2.2)→(X00 (decide (y1.2.1<(ln a0))) (X00 (!y1.1) (0≤y1.2.1∧(y1.2.1<(ln a0)∧(X00 (decide (y1.2.2.1≤((List.getD a0 (tN y1.2.1) (0,0)).1))) (List.length y1.2.2.2.2+List.length [(y1.2.2.1,y1.2.2.2.1)]≤9223372036854775807∧((List.length y1.2.2.2.2+List.length [(y1.2.2.1,y1.2.2.2.1)])*16≤140737488355328∧(0≤y1.2.1∧(y1.2.1<(ln a0)∧(X00 (((List.getD a0 (tN y1.2.1) (0,0)).1)!=y1.2.2.1) (0≤y1.2.1∧(y1.2.1<(ln a0)∧(List.length (y1.2.2.2.2++[(y1.2.2.1,y1.2.2.2.1)])+List.length [((List.getD a0 (tN y1.2.1) (0,0)).1,(List.getD a0 (tN y1.2.1) (0,0)).2)]≤9223372036854775807∧((List.length (y1.2.2.2.2++[(y1.2.2.1,y1.2.2.2.1)])+List.length [((List.getD a0 (tN y1.2.1) (0,0)).1,(List.getD a0 (tN y1.2.1) (0,0)).2)])*16≤140737488355328∧(eS [(0,.val false [.lst T0q a0 none]),(3,.box 4 0)] [(0,.val false [.lst T0q a0 none]),(3,.box 4 0)]∧(puB a0 a1 true (wI (y1.2.1+(1:Int))) y1.2.2.1 y1.2.2.2.1 ((y1.2.2.2.2++[(y1.2.2.1,y1.2.2.2.1)])++[((List.getD a0 (tN y1.2.1) (0,0)).1,(List.getD a0 (tN y1.2.1) (0,0)).2)]))∧(puN a0 a1 true (wI (y1.2.1+(1:Int))) y1.2.2.1 y1.2.2.2.1 ((y1.2.2.2.2++[(y1.2.2.1,y1.2.2.2.1)])++[((List.getD a0 (tN y1.2.1) (0,0)).1,(List.getD a0 (tN y1.2.1) (0,0)).2)]))<(puN a0 a1 y1.1 y1.2.1 y1.2.2.1 y1.2.2.2.1 y1.2.2.2.2)))))) (eS [(0,.val false [.lst T0q a0 none]),(3,.box 4 0)] [(0,.val false [.lst T0q a0 none]),(3,.box 4 0)]∧(puB a0 a1 true (wI (y1.2.1+(1:Int))) y1.2.2.1 y1.2.2.2.1 (y1.2.2.2.2++[(y1.2.2.1,y1.2.2.2.1)]))∧(puN a0 a1 true (wI (y1.2.1+(1:Int))) y1.2.2.1 y1.2.2.2.1 (y1.2.2.2.2++[(y1.2.2.1,y1.2.2.2.1)]))<(puN a0 a1 y1.1 y1.2.1 y1.2.2.1 y1.2.2.2.1 y1.2.2.2.2))))))) (0≤y1.2.1∧(y1.2.1<(ln a0)∧(X00 (((List.getD a0 (tN y1.2.1) (0,0)).1)!=y1.2.2.1) (0≤y1.2.1∧(y1.2.1<(ln a0)∧(List.length y1.2.2.2.2+List.length [((List.getD a0 (tN y1.2.1) (0,0)).1,(List.getD a0 (tN y1.2.1) (0,0)).2)]≤9223372036854775807∧((List.length y1.2.2.2.2+List.length [((List.getD a0 (tN y1.2.1) (0,0)).1,(List.getD a0 (tN y1.2.1) (0,0)).2)])*16≤140737488355328∧(eS [(0,.val false [.lst T0q a0 none]),(3,.box 4 0)] [(0,.val false [.lst T0q a0 none]),(3,.box 4 0)]∧(puB a0 a1 y1.1 (wI (y1.2.1+(1:Int))) y1.2.2.1 y1.2.2.2.1 (y1.2.2.2.2++[((List.getD a0 (tN y1.2.1) (0,0)).1,(List.getD a0 (tN y1.2.1) (0,0)).2)]))∧(puN a0 a1 y1.1 (wI (y1.2.1+(1:Int))) y1.2.2.1 y1.2.2.2.1 (y1.2.2.2.2++[((List.getD a0 (tN y1.2.1) (0,0)).1,(List.getD a0 (tN y1.2.1) (0,0)).2)]))<(puN a0 a1 y1.1 y1.2.1 y1.2.2.1 y1.2.2.2.1 y1.2.2.2.2)))))) (eS [(0,.val false [.lst T0q a0 none]),(3,.box 4 0)] [(0,.val false [.lst T0q a0 none]),(3,.box 4 0)]∧(puB a0 a1 y1.1 (wI (y1.2.1+(1:Int))) y1.2.2.1 y1.2.2.2.1 y1.2.2.2.2)∧(puN a0 a1 y1.1 (wI (y1.2.1+(1:Int))) y1.2.2.1 y1.2.2.2.1 y1.2.2.2.2)<(puN a0 a1 y1.1 y1.2.1 y1.2.2.1 y1.2.2.2.1 y1.2.2.2.2)))))))) (0≤y1.2.1∧(y1.2.1<(ln a0)∧(X00 (((List.getD a0 (tN y1.2.1) (0,0)).1)!=y1.2.2.1) (0≤y1.2.1∧(y1.2.1<(ln a0)∧(List.length y1.2.2.2.2+List.length [((List.getD a0 (tN y1.2.1) (0,0)).1,(List.getD a0 (tN y1.2.1) (0,0)).2)]≤9223372036854775807∧((List.length y1.2.2.2.2+List.length [((List.getD a0 (tN y1.2.1) (0,0)).1,(List.getD a0 (tN y1.2.1) (0,0)).2)])*16≤140737488355328∧(eS [(0,.val false [.lst T0q a0 none]),(3,.box 4 0)] [(0,.val false [.lst T0q a0 none]),(3,.box 4 0)]∧(puB a0 a1 y1.1 (wI (y1.2.1+(1:Int))) y1.2.2.1 y1.2.2.2.1 (y1.2.2.2.2++[((List.getD a0 (tN y1.2.1) (0,0)).1,(List.getD a0 (tN y1.2.1) (0,0)).2)]))∧(puN a0 a1 y1.1 (wI (y1.2.1+(1:Int))) y1.2.2.1 y1.2.2.2.1 (y1.2.2.2.2++[((List.getD a0 (tN y1.2.1) (0,0)).1,(List.getD a0 (tN y1.2.1) (0,0)).2)]))<(puN a0 a1 y1.1 y1.2.1 y1.2.2.1 y1.2.2.2.1 y1.2.2.2.2)))))) (eS [(0,.val false [.lst T0q a0 none]),(3,.box 4 0)] [(0,.val false [.lst T0q a0 none]),(3,.box 4 0)]∧(puB a0 a1 y1.1 (wI (y1.2.1+(1:Int))) y1.2.2.1 y1.2.2.2.1 y1.2.2.2.2)∧(puN a0 a1 y1.1 (wI (y1.2.1+(1:Int))) y1.2.2.1 y1.2.2.2.1 y1.2.2.2.2)<(puN a0 a1 y1.1 y1.2.1 y1.2.2.1 y1.2.2.2.1 y1.2.2.2.2)))))) (X00 (!y1.1) (List.length y1.2.2.2.2+List.length [(y1.2.2.1,y1.2.2.2.1)]≤9223372036854775807∧((List.length y1.2.2.2.2+List.length [(y1.2.2.1,y1.2.2.2.1)])*16≤140737488355328∧(Eq ((y1.2.2.2.2++[(y1.2.2.1,y1.2.2.2.1)]),((),())) ((Xeb a0 a1),((),()))))) (Eq (y1.2.2.2.2,((),())) ((Xeb a0 a1),((),())))))))
def X2M.L(a0:U5q)(a1:(Int×Int)):Nat→Option X0a:=fun p=>Go.Proofs.YtgmafgmjbaoomaaGreat.Bv.look p [(122,{kp:={hold:=[0,3],slots:=[5,6,7],boxes:=[4],rows:=[{bx:=false,s:=5,i:=0,k:=1000643,e:=107,hot:=true}]},T:=(.pair .bool (.pair (.int .i64) (.pair (.int .i64) (.pair (.int .i64) X60)))),I:=fun st y=>puB a0 a1 y.1 y.2.1 y.2.2.1 y.2.2.2.1 y.2.2.2.2,μ:=fun st y=>puN a0 a1 y.1 y.2.1 y.2.2.1 y.2.2.2.1 y.2.2.2.2})]
theorem X2M.pure(a0:U5q)(a1:(Int×Int))(h:(XlY a0 a1))(hw:Wf X6p.A (a0,a1)):X2M.F a0 a1:=by
 delta X2M.F ln tN wI eS
 simp only[Bs,B0,B1,Prod.mk.injEq,X03]
 have hl:a0.length≤1000000000000:=h
 refine⟨⟨rfl,⟨by omega,by omega,by simp[X80],by simp,by simp⟩⟩,?_⟩
 rintro⟨put,i,t,v,out⟩ ⟨hp,hI⟩
 simp only at hp hI ⊢
 subst hp
 have q1:=hI.h1
 have q2:=hI.h2
 have q4:=hI.h4
 have q5:=hI.h5
 have hen:=XoY hI
 have st:∀{put' o'},i<(a0.length:Int)→_→_→puB a0 (t,v) put' (i+1) t v o':=fun h h2 h3=>⟨rfl,Xnz hI h h2 h3⟩
 have dn:∀o p,i<(a0.length:Int)→puN a0 (t,v) p (i+1) t v o<puN a0 (t,v) put i t v out:=fun o p h=>by unfold puN puM;omega
 generalize hx:a0.getD i.toNat (0,0)=x at st ⊢
 repeat' (with_reducible (first | (refine And.intro ?_ ?_) | intro _))
 all_goals (try simp (disch:=omega) only[w64,List.length_append,List.length_cons,List.length_nil]at*)
 all_goals (first
  | omega
  | exact dn _ _ ‹_›
  | (refine st ‹_› (by(try simp only[List.length_append,List.length_cons,List.length_nil]);(try have:=q5 ‹_›);(first | omega | (refine ⟨by omega,fun hh=>?_⟩;first | omega | (have:=q5 hh;omega) | (exfalso;simp_all;done)))) fun r=>?_;(try rw[‹put=true›]);(try rw[‹put=false›]);(try simp only[List.append_assoc,List.cons_append,List.nil_append,Prod.eta]);first | rw[Xmi (p:=(t,v)) ‹t≤x.1›,Xpe (p:=(t,v)) ‹x.1=t›] | rw[Xmi (p:=(t,v)) ‹t≤x.1›,Xou (p:=(t,v)) ‹¬x.1=t›] | rw[pu_no (p:=(t,v)) ‹¬t≤x.1›] | rw[Xpe (p:=(t,v)) ‹x.1=t›] | rw[Xou (p:=(t,v)) ‹¬x.1=t›])
  | exact(hen ‹_›).1 ‹_›
  | exact(hen ‹_›).2 ‹_›
  | skip)
theorem X2M.eq:EqS X6p Tryz.f169 [91] [] [] (fun i x=>X2M.L x.1 x.2) (fun i x=>X2M.F x.1 x.2):=by intro i x;kernel_rfl
theorem X2M.ok:X0o Tryz.prog 169 X6p:=X2u X2M.eq Tryz.func169 rfl (by kernel_rfl) fun i x h hi hw=>X2M.pure x.1 x.2 h hw
def X2M.e:GE:=⟨169,X6p,⟨_,Tryz.func169,rfl,rfl⟩,X2M.ok⟩
def X5i:Con:={A:=(.pair X60 X60),shA:=[.one,.one],R:=X60,shR:=[(false,1)],fresh:=[(0,107)],pre:=fun _ a=>(XkI a.1 a.2),f:=some fun _ a=>((XjM a.1 a.2),((),()))}
def X1K.F(a0:U5q)(a1:U5q):Prop:=(List.length ([]:List (Int×Int))+List.length a0≤9223372036854775807∧((List.length ([]:List (Int×Int))+List.length a0)*16≤140737488355328∧(eS [(1,.val false [.lst T0q a1 none])] [(1,.val false [.lst T0q a1 none])]∧((m8I a0 a1 0 (([]:List (Int×Int))++a0))∧∀(y1:(Int×U5q)),(m8I a0 a1 y1.1 y1.2)→(X00 (decide (y1.1<(ln a1))) (0≤y1.1∧(y1.1<(ln a1)∧((XlY y1.2 ((List.getD a1 (tN y1.1) (0,0)).1,(List.getD a1 (tN y1.1) (0,0)).2))∧∀r2,(Eq r2 ((Xeb y1.2 ((List.getD a1 (tN y1.1) (0,0)).1,(List.getD a1 (tN y1.1) (0,0)).2)),((),())))→(eS [(1,.val false [.lst T0q a1 none])] [(1,.val false [.lst T0q a1 none])]∧(m8I a0 a1 (wI (y1.1+(1:Int))) r2.1)∧(m8M a0 a1 (wI (y1.1+(1:Int))) r2.1)<(m8M a0 a1 y1.1 y1.2))))) (Eq (y1.2,((),())) ((XjM a0 a1),((),()))))))))
def X1K.L(a0:U5q)(a1:U5q):Nat→Option X0a:=fun p=>Go.Proofs.YtgmafgmjbaoomaaGreat.Bv.look p [(58,{kp:={hold:=[1],slots:=[5,6],boxes:=[],rows:=[{bx:=false,s:=5,i:=0,k:=1000643,e:=107,hot:=true}]},T:=(.pair (.int .i64) X60),I:=fun st y=>m8I a0 a1 y.1 y.2,μ:=fun st y=>m8M a0 a1 y.1 y.2})]
theorem X1K.pure(a0:U5q)(a1:U5q)(h:(XkI a0 a1))(hw:Wf X5i.A (a0,a1)):X1K.F a0 a1:=by
 delta X1K.F ln tN wI eS
 simp only[Bs,B0,B1,Prod.mk.injEq,X03,Xeb,XlY]
 obtain⟨hal,hbl⟩:=h
 refine⟨by omega,by omega,⟨by omega,by omega,rfl,by simp⟩,?_⟩
 rintro⟨i,out⟩ hI
 simp only at hI ⊢
 have q1:=hI.h1
 have q2:=hI.h2
 have q4:=hI.h4
 rw[w64 (x:=i+1) (by omega) (by omega)]
 exact⟨fun hi=>⟨q1,hi,by omega,XnM hI hi,by unfold m8M;omega⟩,fun hi=>Xoy hI hi⟩
theorem X1K.eq:EqS X5i Tryz.f122 [91] [X2M.e] [] (fun i x=>X1K.L x.1 x.2) (fun i x=>X1K.F x.1 x.2):=by intro i x;kernel_rfl
theorem X1K.ok:X0o Tryz.prog 122 X5i:=X2u X1K.eq Tryz.func122 rfl (by kernel_rfl) fun i x h hi hw=>X1K.pure x.1 x.2 h hw
def X1K.e:GE:=⟨122,X5i,⟨_,Tryz.func122,rfl,rfl⟩,X1K.ok⟩
end Go.Proofs.YtgmafgmjbaoomaaGreat.B
