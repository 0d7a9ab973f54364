/- Buckets:sought,dealt out. -/
import Derived.Test.YtgmafgmjbaoomaaGreatCSdo0
import Derived.Test.YtgmafgmjbaoomaaGreatCInsBk
set_option maxRecDepth 100000
set_option linter.unusedVariables false
set_option linter.unusedSimpArgs false
namespace Go.Proofs.YtgmafgmjbaoomaaGreat.B
open Go Go.Proofs.YtgmafgmjbaoomaaGreat.Bv
def X3y:Con:={A:=(.pair T0q (.int .i64)),shA:=[.agg 2,.one],R:=(.int .i64),shR:=[(false,1)],pre:=fun _ _=>True,f:=some fun _ a=>((Xi4 a.1 a.2),((),()))}
def X0Q.F(a0:(Int×Int))(a1:Int):Prop:=(Eq ((wI (a0.1 - a1)),((),())) ((Xi4 a0 a1),((),())))
theorem X0Q.pure(a0:(Int×Int))(a1:Int)(h:True)(hw:Wf X3y.A (a0,a1)):X0Q.F a0 a1:=by
 delta X0Q.F wI
 simp only[Bs,B0,B1,Prod.mk.injEq,X03,Xi4,Prod.eta]
 repeat' (with_reducible (first | (refine And.intro ?_ ?_) | intro _))
 all_goals (try simp (disch:=omega) only[w64,wu8,tn0,tn1,tm1,tm2,List.length_append,List.length_cons,List.length_nil]at*)
 all_goals (try simp (disch:=omega) only[w64,wu8,tn0,tn1,tm1,tm2,List.length_append,List.length_cons,List.length_nil]at*)
 all_goals (try omega)
 all_goals (try grind[])
theorem X0Q.eq:EqS X3y Tryz.f183 [3] [] [] noL (fun i x=>X0Q.F x.1 x.2):=by intro i x;kernel_rfl
theorem X0Q.ok:X0o Tryz.prog 183 X3y:=X2u X0Q.eq Tryz.func183 rfl (by kernel_rfl) fun i x h hi hw=>X0Q.pure x.1 x.2 h hw
def X0Q.e:GE:=⟨183,X3y,⟨_,Tryz.func183,rfl,rfl⟩,X0Q.ok⟩
def X0n:Con:={A:=(.pair X60 (.pair (.int .i64) .unit)),shA:=[.one,.one,.clo 183 []],R:=(.pair (.int .i64) .bool),shR:=[(false,1),(false,1)],pre:=fun _ a=>(pBs a.1 a.2.1 a.2.2),f:=some fun _ a=>((fBs a.1 a.2.1 a.2.2),((),()))}
def X02.F(a0:U5q)(a1:Int)(a2:Unit):Prop:=(eS [(0,.val false [.lst T0q a0 none]),(1,.val false [.int .i64 a1]),(2,.fn 183 [] []),(8,.val false [.int .i64 (ln a0)])] [(0,.val false [.lst T0q a0 none]),(1,.val false [.int .i64 a1]),(2,.fn 183 [] []),(8,.val false [.int .i64 (ln a0)])]∧((bsI a0 a1 a2 0 (ln a0))∧∀(y1:(Int×Int)),(bsI a0 a1 a2 y1.1 y1.2)→(X00 (decide (y1.1<y1.2)) (0≤(1:Int)∧(0≤(wI (Int.fdiv (IntKind.wrap .u64 (wI (y1.1+y1.2))) (2 ^ (min (tN (1:Int)) (IntKind.bits .u64)))))∧((wI (Int.fdiv (IntKind.wrap .u64 (wI (y1.1+y1.2))) (2 ^ (min (tN (1:Int)) (IntKind.bits .u64)))))<(ln a0)∧(True∧∀r2,(Eq r2 ((Xi4 ((List.getD a0 (tN (wI (Int.fdiv (IntKind.wrap .u64 (wI (y1.1+y1.2))) (2 ^ (min (tN (1:Int)) (IntKind.bits .u64)))))) (0,0)).1,(List.getD a0 (tN (wI (Int.fdiv (IntKind.wrap .u64 (wI (y1.1+y1.2))) (2 ^ (min (tN (1:Int)) (IntKind.bits .u64)))))) (0,0)).2) a1),((),())))→(X00 (decide (r2.1<(0:Int))) (eS [(0,.val false [.lst T0q a0 none]),(1,.val false [.int .i64 a1]),(2,.fn 183 [] []),(8,.val false [.int .i64 (ln a0)])] [(0,.val false [.lst T0q a0 none]),(1,.val false [.int .i64 a1]),(2,.fn 183 [] []),(8,.val false [.int .i64 (ln a0)])]∧(bsI a0 a1 a2 (wI ((wI (Int.fdiv (IntKind.wrap .u64 (wI (y1.1+y1.2))) (2 ^ (min (tN (1:Int)) (IntKind.bits .u64)))))+(1:Int))) y1.2)∧(bsM a0 a1 a2 (wI ((wI (Int.fdiv (IntKind.wrap .u64 (wI (y1.1+y1.2))) (2 ^ (min (tN (1:Int)) (IntKind.bits .u64)))))+(1:Int))) y1.2)<(bsM a0 a1 a2 y1.1 y1.2)) (eS [(0,.val false [.lst T0q a0 none]),(1,.val false [.int .i64 a1]),(2,.fn 183 [] []),(8,.val false [.int .i64 (ln a0)])] [(0,.val false [.lst T0q a0 none]),(1,.val false [.int .i64 a1]),(2,.fn 183 [] []),(8,.val false [.int .i64 (ln a0)])]∧(bsI a0 a1 a2 y1.1 (wI (Int.fdiv (IntKind.wrap .u64 (wI (y1.1+y1.2))) (2 ^ (min (tN (1:Int)) (IntKind.bits .u64))))))∧(bsM a0 a1 a2 y1.1 (wI (Int.fdiv (IntKind.wrap .u64 (wI (y1.1+y1.2))) (2 ^ (min (tN (1:Int)) (IntKind.bits .u64))))))<(bsM a0 a1 a2 y1.1 y1.2))))))) (X00 (decide (y1.1<(ln a0))) (0≤y1.1∧(y1.1<(ln a0)∧(True∧∀r3,(Eq r3 ((Xi4 ((List.getD a0 (tN y1.1) (0,0)).1,(List.getD a0 (tN y1.1) (0,0)).2) a1),((),())))→(Eq ((y1.1,(r3.1==(0:Int))),((),())) ((fBs a0 a1 a2),((),())))))) (Eq ((y1.1,false),((),())) ((fBs a0 a1 a2),((),())))))))
def X02.L(a0:U5q)(a1:Int)(a2:Unit):Nat→Option X0a:=fun p=>Go.Proofs.YtgmafgmjbaoomaaGreat.Bv.look p [(60,{kp:={hold:=[0,1,2,8],slots:=[9,10],boxes:=[],rows:=[]},T:=T0q,I:=fun st y=>bsI a0 a1 a2 y.1 y.2,μ:=fun st y=>bsM a0 a1 a2 y.1 y.2})]
theorem X02.pure(a0:U5q)(a1:Int)(a2:Unit)(h:(pBs a0 a1 a2))(hw:Wf X0n.A (a0,a1,a2)):X02.F a0 a1 a2:=by
 delta X02.F ln tN wI eS
 simp only[Bs,B0,B1,Prod.mk.injEq,X03,Xi4,Prod.eta]
 obtain⟨hp,ht0,ht1,hl⟩:=h
 refine⟨⟨by omega,by omega,by omega,by simp,fun k h1 h2=>by omega⟩,?_⟩
 rintro⟨i,j⟩ hI
 simp only at hI ⊢
 have q1:=hI.h1
 have q2:=hI.h2
 have q3:=hI.h3
 refine⟨fun hij=>?_,fun hij=>?_⟩
 · rw[w64 (x:=i+j) (by omega) (by omega),wu64 (x:=i+j) (by omega) (by omega),half (by omega) (by omega),w64 (x:=(i+j) / 2) (by omega) (by omega)]
   have hk:=Xpb hp (i:=((i+j) / 2).toNat) (by omega)
   rw[w64 (x:=(a0.getD ((i+j) / 2).toNat (0,0)).1 - a1) (by omega) (by omega),w64 (x:=(i+j) / 2+1) (by omega) (by omega)]
   refine⟨by omega,by omega,by omega,fun h1=>⟨XoX hp hI (by omega) (by omega) (by omega),by unfold bsM;omega⟩,fun h1=>⟨Xox hp hI (by omega) (by omega) (by omega),by unfold bsM;omega⟩⟩
 · obtain⟨e1,e2⟩:=Xhn hp hI hij
   have e3:((i.toNat:Nat):Int)=i:=by omega
   refine⟨fun h1=>⟨by omega,by omega,?_⟩,fun h1=>?_⟩
   · have hk:=Xpb hp (i:=i.toNat) (by omega)
     rw[w64 (by omega) (by omega)]
     simp only[fBs,e1,e2,e3,decide_eq_true h1,Bool.true_and,Prod.mk.injEq,true_and,and_true]
     rw[Bool.eq_iff_iff];simp;omega
   · simp only[fBs,e1,e2,e3,decide_eq_false h1,Bool.false_and]
theorem X02.eq:EqS X0n Tryz.f182 [3,4] [X0Q.e] [] (fun i x=>X02.L x.1 x.2.1 x.2.2) (fun i x=>X02.F x.1 x.2.1 x.2.2):=by intro i x;kernel_rfl
theorem X02.ok:X0o Tryz.prog 182 X0n:=X2u X02.eq Tryz.func182 rfl (by kernel_rfl) fun i x h hi hw=>X02.pure x.1 x.2.1 x.2.2 h hw
def X02.e:GE:=⟨182,X0n,⟨_,Tryz.func182,rfl,rfl⟩,X02.ok⟩
def XmV(l:List Bkt)(n:Int):Prop:=pBs l n ()
def X6q(l:List Bkt)(n:Int):Int×Bool:=fBs l n ()
def bfI(l:List Bkt)(n i:Int):Prop:=bsI l n () i l.length
def bfM(l:List Bkt)(n i:Int):Nat:=(l.length - i).toNat
def pI2(l:List Int):Prop:=l.length=2
def pI2x(l:List Int)(x:Int):Prop:=l.length=2
def XlS(l:List Int):Int:=if l.getD 1 0<l.getD 0 0 then l.getD 1 0 else l.getD 0 0
def Xni(l:List Int)(x:Int):Int:=if x=l.getD 0 0 then 0 else if x=l.getD 1 0 then 1 else -1
def i2I(l:List Int)(x i:Int):Prop:=0≤i∧i≤2∧(1≤i→x≠l.getD 0 0)∧(2≤i→x≠l.getD 1 0)
def i2M(l:List Int)(x i:Int):Nat:=(2 - i).toNat
def m2I(l:List Int)(v i:Int):Prop:=1≤i∧i≤2∧(i=1→v=l.getD 0 0)∧(i=2→v=XlS l)
def m2M(l:List Int)(v i:Int):Nat:=(2 - i).toNat
def nSh(s:Int):List Bkt→Int
 | []=>0
 | b::l=>(if b.2=s then 1 else 0)+nSh s l
theorem Xhp(s:Int)(b:Bkt):∀l:List Bkt,nSh s (l++[b])=nSh s l+if b.2=s then 1 else 0
 | []=>by simp[nSh]
 | x::l=>by rw[List.cons_append,nSh,nSh,Xhp s b l];omega
theorem XbB(s:Int):∀l:List Bkt,0≤nSh s l∧nSh s l≤l.length
 | []=>by simp[nSh]
 | x::l=>by
   have:=XbB s l
   rw[nSh,List.length_cons]
   split<;>omega
theorem X8T(s:Int){l:List Bkt}{i:Int}(h:0≤i)(hi:i<l.length):nSh s (l.take (i+1).toNat)=nSh s (l.take i.toNat)+if (l.getD i.toNat (0,0)).2=s then 1 else 0:=by
 rw[tn1 h,X0S (0,0) (by omega),Xhp]
def X50(l:List Bkt):Int:=if nSh 1 l<nSh 0 l then 1 else 0
def XbW(l:List Bkt):Prop:=l.length≤1000∧∀b∈l,b.2=0∨b.2=1
def idI(l:List Bkt)(i:Int)(c:List Int):Prop:=0≤i∧i≤l.length∧c=[nSh 0 (l.take i.toNat),nSh 1 (l.take i.toNat)]
def idM(l:List Bkt)(i:Int)(c:List Int):Nat:=(l.length - i).toNat
def ieI(l:List Bkt)(i:Int)(c:List Int):Prop:=idI l i c
def ieM(l:List Bkt)(i:Int)(c:List Int):Nat:=(l.length - i).toNat
def iaI(l:List Bkt)(b i:Int):Prop:=0≤i∧i≤2∧(i≤1→b=0)∧(i=2→b=X50 l)
def iaM(l:List Bkt)(b i:Int):Nat:=(2 - i).toNat
def X4d:Con:={A:=(.pair X60 (.int .i64)),shA:=[.one,.one],R:=(.pair (.int .i64) .bool),shR:=[(false,1),(false,1)],pre:=fun _ a=>(XmV a.1 a.2),f:=some fun _ a=>((X6q a.1 a.2),((),()))}
def X1D.F(a0:U5q)(a1:Int):Prop:=((pBs a0 a1 ())∧∀r1,(Eq r1 ((fBs a0 a1 ()),((),())))→(Eq ((r1.1.1,r1.1.2),((),())) ((X6q a0 a1),((),()))))
theorem X1D.pure(a0:U5q)(a1:Int)(h:(XmV a0 a1))(hw:Wf X4d.A (a0,a1)):X1D.F a0 a1:=by
 unfold X1D.F
 simp only[Bs,B0,B1,Prod.mk.injEq,X03,Prod.eta]
 exact⟨h,rfl⟩
theorem X1D.eq:EqS X4d Tryz.f146 [3,4] [X02.e,X0Q.e] [] noL (fun i x=>X1D.F x.1 x.2):=by intro i x;kernel_rfl
theorem X1D.ok:X0o Tryz.prog 146 X4d:=X2u X1D.eq Tryz.func146 rfl (by kernel_rfl) fun i x h hi hw=>X1D.pure x.1 x.2 h hw
def X1D.e:GE:=⟨146,X4d,⟨_,Tryz.func146,rfl,rfl⟩,X1D.ok⟩
def X4k:Con:={A:=(.pair X60 (.int .i64)),shA:=[.one,.one],R:=(.pair (.int .i64) .bool),shR:=[(false,1),(false,1)],pre:=fun _ a=>(XmV a.1 a.2),f:=some fun _ a=>((X6q a.1 a.2),((),()))}
def X1e.F(a0:U5q)(a1:Int):Prop:=(eS [(0,.val false [.lst T0q a0 none]),(1,.val false [.int .i64 a1])] [(0,.val false [.lst T0q a0 none]),(1,.val false [.int .i64 a1])]∧((bfI a0 a1 0)∧∀(y1:Int),(bfI a0 a1 y1)→(X00 (decide (y1<(ln a0))) (0≤y1∧(y1<(ln a0)∧(X00 (decide (((List.getD a0 (tN y1) (0,0)).1)≥a1)) (0≤y1∧(y1<(ln a0)∧(Eq ((y1,(((List.getD a0 (tN y1) (0,0)).1)==a1)),((),())) ((X6q a0 a1),((),()))))) (eS [(0,.val false [.lst T0q a0 none]),(1,.val false [.int .i64 a1])] [(0,.val false [.lst T0q a0 none]),(1,.val false [.int .i64 a1])]∧(bfI a0 a1 (wI (y1+(1:Int))))∧(bfM a0 a1 (wI (y1+(1:Int))))<(bfM a0 a1 y1))))) (Eq (((ln a0),false),((),())) ((X6q a0 a1),((),()))))))
def X1e.L(a0:U5q)(a1:Int):Nat→Option X0a:=fun p=>Go.Proofs.YtgmafgmjbaoomaaGreat.Bv.look p [(26,{kp:={hold:=[0,1],slots:=[6],boxes:=[],rows:=[]},T:=(.int .i64),I:=fun st y=>bfI a0 a1 y,μ:=fun st y=>bfM a0 a1 y})]
theorem X1e.pure(a0:U5q)(a1:Int)(h:(XmV a0 a1))(hw:Wf X4k.A (a0,a1)):X1e.F a0 a1:=by
 delta X1e.F ln tN wI eS
 simp only[Bs,B0,B1,Prod.mk.injEq,X03,Prod.eta]
 obtain⟨hp,ht0,ht1,hl⟩:=h
 refine⟨⟨by omega,by omega,by omega,by simp,fun k h1 h2=>by omega⟩,?_⟩
 intro i hI
 have q1:=hI.h1
 have q2:=hI.h2
 rw[w64 (x:=i+1) (by omega) (by omega)]
 refine⟨fun hi=>⟨q1,hi,fun h1=>⟨q1,hi,?_⟩,fun h1=>⟨XoX hp hI (Int.le_refl _) hi (by omega),by unfold bfM;omega⟩⟩,fun hi=>?_⟩
 · obtain⟨e1,e2⟩:=Xhn hp (Xox hp hI (Int.le_refl _) hi (by omega)) (by omega)
   unfold X6q fBs
   rw[e1,e2,decide_eq_true hi,Bool.true_and]
   exact Prod.ext (by simp only;omega) (by simp only;rw[Bool.eq_iff_iff];simp)
 · obtain⟨e1,e2⟩:=Xhn hp hI hi
   unfold X6q fBs
   rw[e1,e2,decide_eq_false hi,Bool.false_and]
   exact Prod.ext (by simp only;omega) rfl
theorem X1e.eq:EqS X4k Tryz.f108 [3,4] [] [] (fun i x=>X1e.L x.1 x.2) (fun i x=>X1e.F x.1 x.2):=by intro i x;kernel_rfl
theorem X1e.ok:X0o Tryz.prog 108 X4k:=X2u X1e.eq Tryz.func108 rfl (by kernel_rfl) fun i x h hi hw=>X1e.pure x.1 x.2 h hw
def X1e.e:GE:=⟨108,X4k,⟨_,Tryz.func108,rfl,rfl⟩,X1e.ok⟩
def X2S:Con:={A:=(.pair X8Z (.int .i64)),shA:=[.one,.one],R:=(.int .i64),shR:=[(false,1)],pre:=fun _ a=>(pI2x a.1 a.2),f:=some fun _ a=>((Xni a.1 a.2),((),()))}
def X0p.F(a0:(List Int))(a1:Int):Prop:=(eS [(0,.val false [.lst (.int .i64) a0 none]),(1,.val false [.int .i64 a1]),(7,.val false [.int .i64 (ln a0)])] [(0,.val false [.lst (.int .i64) a0 none]),(1,.val false [.int .i64 a1]),(7,.val false [.int .i64 (ln a0)])]∧((i2I a0 a1 0)∧∀(y1:Int),(i2I a0 a1 y1)→(X00 (decide (y1<(ln a0))) (0≤y1∧(y1<(ln a0)∧(X00 (a1==(List.getD a0 (tN y1) 0)) (Eq (y1,((),())) ((Xni a0 a1),((),()))) (eS [(0,.val false [.lst (.int .i64) a0 none]),(1,.val false [.int .i64 a1]),(7,.val false [.int .i64 (ln a0)])] [(0,.val false [.lst (.int .i64) a0 none]),(1,.val false [.int .i64 a1]),(7,.val false [.int .i64 (ln a0)])]∧(i2I a0 a1 (wI (y1+(1:Int))))∧(i2M a0 a1 (wI (y1+(1:Int))))<(i2M a0 a1 y1))))) (Eq ((-1),((),())) ((Xni a0 a1),((),()))))))
def X0p.L(a0:(List Int))(a1:Int):Nat→Option X0a:=fun p=>Go.Proofs.YtgmafgmjbaoomaaGreat.Bv.look p [(26,{kp:={hold:=[0,1,7],slots:=[8],boxes:=[],rows:=[]},T:=(.int .i64),I:=fun st y=>i2I a0 a1 y,μ:=fun st y=>i2M a0 a1 y})]
theorem X0p.pure(a0:(List Int))(a1:Int)(h:(pI2x a0 a1))(hw:Wf X2S.A (a0,a1)):X0p.F a0 a1:=by
 delta X0p.F ln tN wI eS
 simp only[Bs,B0,B1,Prod.mk.injEq,X03,Prod.eta]
 have hl:a0.length=2:=h
 refine⟨⟨by omega,by omega,by omega,by omega⟩,?_⟩
 rintro i ⟨h1,h2,h3,h4⟩
 rw[w64 (x:=i+1) (by omega) (by omega)]
 refine⟨fun hi=>⟨h1,hi,fun e=>?_,fun e=>⟨⟨by omega,by omega,?_,?_⟩,by unfold i2M;omega⟩⟩,fun hi=>?_⟩
 · rcases(by omega:i=0∨i=1) with rfl | rfl
   · have e:a1=a0.getD 0 0:=e
     unfold Xni;rw[if_pos e]
   · have e:a1=a0.getD 1 0:=e
     unfold Xni;rw[if_neg (h3 (by omega)),if_pos e]
 · rcases(by omega:i=0∨i=1) with rfl | rfl
   · exact fun _=>e
   · exact fun _=>h3 (by omega)
 · rcases(by omega:i=0∨i=1) with rfl | rfl
   · exact fun h=>absurd h (by omega)
   · exact fun _=>e
 · unfold Xni;rw[if_neg (h3 (by omega)),if_neg (h4 (by omega))]
theorem X0p.eq:EqS X2S Tryz.f186 [3] [] [] (fun i x=>X0p.L x.1 x.2) (fun i x=>X0p.F x.1 x.2):=by intro i x;kernel_rfl
theorem X0p.ok:X0o Tryz.prog 186 X2S:=X2u X0p.eq Tryz.func186 rfl (by kernel_rfl) fun i x h hi hw=>X0p.pure x.1 x.2 h hw
def X0p.e:GE:=⟨186,X2S,⟨_,Tryz.func186,rfl,rfl⟩,X0p.ok⟩
def X34:Con:={A:=X8Z,shA:=[.one],R:=(.int .i64),shR:=[(false,1)],pre:=fun _ a=>(pI2 a),f:=some fun _ a=>((XlS a),((),()))}
def X0w.F(a0:(List Int)):Prop:=(X00 (decide ((ln a0)<(1:Int))) False (0≤(0:Int)∧((0:Int)<(ln a0)∧(eS [(0,.val false [.lst (.int .i64) a0 none])] [(0,.val false [.lst (.int .i64) a0 none])]∧((m2I a0 (List.getD a0 (tN (0:Int)) 0) 1)∧∀(y1:(Int×Int)),(m2I a0 y1.1 y1.2)→(X00 (decide (y1.2<(ln a0))) (0≤y1.2∧(y1.2<(ln a0)∧(eS [(0,.val false [.lst (.int .i64) a0 none])] [(0,.val false [.lst (.int .i64) a0 none])]∧(m2I a0 (if (List.getD a0 (tN y1.2) 0)<y1.1 then(List.getD a0 (tN y1.2) 0) else y1.1) (wI (y1.2+(1:Int))))∧(m2M a0 (if (List.getD a0 (tN y1.2) 0)<y1.1 then(List.getD a0 (tN y1.2) 0) else y1.1) (wI (y1.2+(1:Int))))<(m2M a0 y1.1 y1.2)))) (Eq (y1.1,((),())) ((XlS a0),((),())))))))))
def X0w.L(a0:(List Int)):Nat→Option X0a:=fun p=>Go.Proofs.YtgmafgmjbaoomaaGreat.Bv.look p [(122,{kp:={hold:=[0],slots:=[3,4],boxes:=[],rows:=[]},T:=T0q,I:=fun st y=>m2I a0 y.1 y.2,μ:=fun st y=>m2M a0 y.1 y.2})]
theorem X0w.pure(a0:(List Int))(h:(pI2 a0))(hw:Wf X34.A a0):X0w.F a0:=by
 delta X0w.F ln tN wI eS
 simp only[Bs,B0,B1,Prod.mk.injEq,X03,Prod.eta]
 have hl:a0.length=2:=h
 refine⟨fun h1=>by omega,fun h1=>⟨by omega,by omega,⟨by omega,by omega,fun _=>rfl,by omega⟩,?_⟩⟩
 rintro⟨v,i⟩ ⟨q1,q2,q3,q4⟩
 simp only at q1 q2 q3 q4 ⊢
 refine⟨fun hi=>?_,fun hi=>q4 (by omega)⟩
 have e:i=1:=by omega
 subst e
 rw[q3 rfl]
 exact⟨by omega,by omega,⟨by decide,by decide,fun h=>absurd h (by decide),fun _=>rfl⟩,by unfold m2M;decide⟩
theorem X0w.eq:EqS X34 Tryz.f187 [3] [] [] (fun i x=>X0w.L x) (fun i x=>X0w.F x):=by intro i x;kernel_rfl
theorem X0w.ok:X0o Tryz.prog 187 X34:=X2u X0w.eq Tryz.func187 rfl (by kernel_rfl) fun i x h hi hw=>X0w.pure x h hw
def X0w.e:GE:=⟨187,X34,⟨_,Tryz.func187,rfl,rfl⟩,X0w.ok⟩
def X5N:Con:={A:=X60,shA:=[.one],R:=(.int .i64),shR:=[(false,1)],pre:=fun _ a=>(XbW a),f:=some fun _ a=>((X50 a),((),()))}
def X2c.F(a0:U5q):Prop:=(0≤(2:Int)∧((2:Int)≤(2:Int)∧((2:Int)≤9223372036854775807∧(((8:Nat):Int)*(2:Int)≤140737488355328∧(eS [(3,.val false [.own (.int .i64) 1000387]),(7,.val false [.lst T0q a0 none]),(8,.val false [.int .i64 (ln a0)])] [(3,.val false [.own (.int .i64) 1000387]),(7,.val false [.lst T0q a0 none]),(8,.val false [.int .i64 (ln a0)])]∧((idI a0 0 (List.replicate (tN (2:Int)) (0:Int)))∧∀(y1:(Int×(List Int))),(idI a0 y1.1 y1.2)→(X00 (decide (y1.1<(ln a0))) (0≤y1.1∧(y1.1<(ln a0)∧(0≤((List.getD a0 (tN y1.1) (0,0)).2)∧(((List.getD a0 (tN y1.1) (0,0)).2)<(ln y1.2)∧(0≤((List.getD a0 (tN y1.1) (0,0)).2)∧(((List.getD a0 (tN y1.1) (0,0)).2)<(ln y1.2)∧(eS [(3,.val false [.own (.int .i64) 1000387]),(7,.val false [.lst T0q a0 none]),(8,.val false [.int .i64 (ln a0)])] [(3,.val false [.own (.int .i64) 1000387]),(7,.val false [.lst T0q a0 none]),(8,.val false [.int .i64 (ln a0)])]∧(idI a0 (wI (y1.1+(1:Int))) (List.set y1.2 (tN ((List.getD a0 (tN y1.1) (0,0)).2)) (wI ((List.getD y1.2 (tN ((List.getD a0 (tN y1.1) (0,0)).2)) 0)+(1:Int)))))∧(idM a0 (wI (y1.1+(1:Int))) (List.set y1.2 (tN ((List.getD a0 (tN y1.1) (0,0)).2)) (wI ((List.getD y1.2 (tN ((List.getD a0 (tN y1.1) (0,0)).2)) 0)+(1:Int)))))<(idM a0 y1.1 y1.2)))))))) ((pI2 y1.2)∧∀r2,(Eq r2 ((XlS y1.2),((),())))→((pI2x y1.2 r2.1)∧∀r3,(Eq r3 ((Xni y1.2 r2.1),((),())))→(Eq (r3.1,((),())) ((X50 a0),((),()))))))))))))
def X2c.L(a0:U5q):Nat→Option X0a:=fun p=>Go.Proofs.YtgmafgmjbaoomaaGreat.Bv.look p [(58,{kp:={hold:=[3,7,8],slots:=[9],boxes:=[],rows:=[{bx:=false,s:=3,i:=0,k:=1000387,e:=3,hot:=true}]},T:=(.pair (.int .i64) X8Z),I:=fun st y=>idI a0 y.1 y.2,μ:=fun st y=>idM a0 y.1 y.2})]
theorem X2c.pure(a0:U5q)(h:(XbW a0))(hw:Wf X5N.A a0):X2c.F a0:=by
 delta X2c.F ln tN wI eS
 simp only[Bs,B0,B1,Prod.mk.injEq,X03,Prod.eta]
 obtain⟨hl,hs⟩:=h
 refine⟨by omega,by omega,by omega,by omega,⟨by omega,by omega,rfl⟩,?_⟩
 rintro⟨i,c⟩ ⟨q1,q2,q3⟩
 simp only at q1 q2 q3 ⊢
 subst q3
 have n0:=XbB 0 (a0.take i.toNat)
 have n1:=XbB 1 (a0.take i.toNat)
 rw[List.length_take]at n0 n1
 refine⟨fun hi=>?_,fun hi=>?_⟩
 · have hb:=hs _ (X2C (d:=((0,0):Bkt)) (l:=a0) (i:=i.toNat) (by omega))
   have t0:=X8T 0 q1 hi
   have t1:=X8T 1 q1 hi
   rw[w64 (x:=i+1) (by omega) (by omega)]
   generalize (a0.getD i.toNat (0,0)).2=b at hb t0 t1 ⊢
   have key:[nSh 0 (a0.take i.toNat),nSh 1 (a0.take i.toNat)].set b.toNat (IntKind.wrap .i64 ([nSh 0 (a0.take i.toNat),nSh 1 (a0.take i.toNat)].getD b.toNat 0+1))=[nSh 0 (a0.take (i+1).toNat),nSh 1 (a0.take (i+1).toNat)]:=by
    rcases hb with rfl | rfl
    · show [IntKind.wrap .i64 (nSh 0 (a0.take i.toNat)+1),nSh 1 (a0.take i.toNat)]=_
      rw[w64 (by omega) (by omega),t0,t1];simp
    · show [nSh 0 (a0.take i.toNat),IntKind.wrap .i64 (nSh 1 (a0.take i.toNat)+1)]=_
      rw[w64 (by omega) (by omega),t0,t1];simp
   rw[key]
   have hb2:0≤b∧b<2:=by omega
   simp only[List.length_cons,List.length_nil]
   exact⟨q1,hi,hb2.1,by omega,hb2.1,by omega,⟨by omega,by omega,rfl⟩,by unfold idM;omega⟩
 · have e:i.toNat=a0.length:=by omega
   rw[e,List.take_length]
   refine⟨rfl,rfl,?_⟩
   show(if (if nSh 1 a0<nSh 0 a0 then nSh 1 a0 else nSh 0 a0)=nSh 0 a0 then(0:Int) else if (if nSh 1 a0<nSh 0 a0 then nSh 1 a0 else nSh 0 a0)=nSh 1 a0 then 1 else -1)=_
   unfold X50
   split<;>split<;>omega
theorem X2c.eq:EqS X5N Tryz.f148 [3] [X0p.e,X0w.e] [] (fun i x=>X2c.L x) (fun i x=>X2c.F x):=by intro i x;kernel_rfl
theorem X2c.ok:X0o Tryz.prog 148 X5N:=X2u X2c.eq Tryz.func148 rfl (by kernel_rfl) fun i x h hi hw=>X2c.pure x h hw
def X2c.e:GE:=⟨148,X5N,⟨_,Tryz.func148,rfl,rfl⟩,X2c.ok⟩
def X4J:Con:={A:=X60,shA:=[.one],R:=(.int .i64),shR:=[(false,1)],pre:=fun _ a=>(XbW a),f:=some fun _ a=>((X50 a),((),()))}
def X1o.F(a0:U5q):Prop:=(0≤(2:Int)∧((2:Int)≤(2:Int)∧((2:Int)≤9223372036854775807∧(((8:Nat):Int)*(2:Int)≤140737488355328∧(eS [(0,.val false [.lst T0q a0 none]),(3,.val false [.own (.int .i64) 1000387])] [(0,.val false [.lst T0q a0 none]),(3,.val false [.own (.int .i64) 1000387])]∧((ieI a0 0 (List.replicate (tN (2:Int)) (0:Int)))∧∀(y1:(Int×(List Int))),(ieI a0 y1.1 y1.2)→(X00 (decide (y1.1<(ln a0))) (0≤y1.1∧(y1.1<(ln a0)∧(0≤y1.1∧(y1.1<(ln a0)∧(0≤((List.getD a0 (tN y1.1) (0,0)).2)∧(((List.getD a0 (tN y1.1) (0,0)).2)<(ln y1.2)∧(0≤((List.getD a0 (tN y1.1) (0,0)).2)∧(((List.getD a0 (tN y1.1) (0,0)).2)<(ln y1.2)∧(eS [(0,.val false [.lst T0q a0 none]),(3,.val false [.own (.int .i64) 1000387])] [(0,.val false [.lst T0q a0 none]),(3,.val false [.own (.int .i64) 1000387])]∧(ieI a0 (wI (y1.1+(1:Int))) (List.set y1.2 (tN ((List.getD a0 (tN y1.1) (0,0)).2)) (wI ((List.getD y1.2 (tN ((List.getD a0 (tN y1.1) (0,0)).2)) 0)+(1:Int)))))∧(ieM a0 (wI (y1.1+(1:Int))) (List.set y1.2 (tN ((List.getD a0 (tN y1.1) (0,0)).2)) (wI ((List.getD y1.2 (tN ((List.getD a0 (tN y1.1) (0,0)).2)) 0)+(1:Int)))))<(ieM a0 y1.1 y1.2)))))))))) (eS [(3,.val false [.lst (.int .i64) y1.2 none])] [(3,.val false [.lst (.int .i64) y1.2 none])]∧((iaI a0 0 0)∧∀(y2:(Int×Int)),(iaI a0 y2.1 y2.2)→(X00 (decide (y2.2<(2:Int))) (0≤y2.2∧(y2.2<(ln y1.2)∧(0≤y2.1∧(y2.1<(ln y1.2)∧(X00 (decide ((List.getD y1.2 (tN y2.2) 0)<(List.getD y1.2 (tN y2.1) 0))) (eS [(3,.val false [.lst (.int .i64) y1.2 none])] [(3,.val false [.lst (.int .i64) y1.2 none])]∧(iaI a0 y2.2 (wI (y2.2+(1:Int))))∧(iaM a0 y2.2 (wI (y2.2+(1:Int))))<(iaM a0 y2.1 y2.2)) (eS [(3,.val false [.lst (.int .i64) y1.2 none])] [(3,.val false [.lst (.int .i64) y1.2 none])]∧(iaI a0 y2.1 (wI (y2.2+(1:Int))))∧(iaM a0 y2.1 (wI (y2.2+(1:Int))))<(iaM a0 y2.1 y2.2))))))) (Eq (y2.1,((),())) ((X50 a0),((),())))))))))))))
def X1o.L(a0:U5q):Nat→Option X0a:=fun p=>Go.Proofs.YtgmafgmjbaoomaaGreat.Bv.look p [(58,{kp:={hold:=[0,3],slots:=[4],boxes:=[],rows:=[{bx:=false,s:=3,i:=0,k:=1000387,e:=3,hot:=true}]},T:=(.pair (.int .i64) X8Z),I:=fun st y=>ieI a0 y.1 y.2,μ:=fun st y=>ieM a0 y.1 y.2}),(250,{kp:={hold:=[3],slots:=[5,6],boxes:=[],rows:=[]},T:=T0q,I:=fun st y=>iaI a0 y.1 y.2,μ:=fun st y=>iaM a0 y.1 y.2})]
theorem X1o.pure(a0:U5q)(h:(XbW a0))(hw:Wf X4J.A a0):X1o.F a0:=by
 delta X1o.F ln tN wI eS
 simp only[Bs,B0,B1,Prod.mk.injEq,X03,Prod.eta]
 obtain⟨hl,hs⟩:=h
 refine⟨by omega,by omega,by omega,by omega,⟨by omega,by omega,rfl⟩,?_⟩
 rintro⟨i,c⟩ ⟨q1,q2,q3⟩
 simp only at q1 q2 q3 ⊢
 subst q3
 have n0:=XbB 0 (a0.take i.toNat)
 have n1:=XbB 1 (a0.take i.toNat)
 rw[List.length_take]at n0 n1
 refine⟨fun hi=>?_,fun hi=>?_⟩
 · have hb:=hs _ (X2C (d:=((0,0):Bkt)) (l:=a0) (i:=i.toNat) (by omega))
   have t0:=X8T 0 q1 hi
   have t1:=X8T 1 q1 hi
   rw[w64 (x:=i+1) (by omega) (by omega)]
   generalize (a0.getD i.toNat (0,0)).2=b at hb t0 t1 ⊢
   have key:[nSh 0 (a0.take i.toNat),nSh 1 (a0.take i.toNat)].set b.toNat (IntKind.wrap .i64 ([nSh 0 (a0.take i.toNat),nSh 1 (a0.take i.toNat)].getD b.toNat 0+1))=[nSh 0 (a0.take (i+1).toNat),nSh 1 (a0.take (i+1).toNat)]:=by
    rcases hb with rfl | rfl
    · show [IntKind.wrap .i64 (nSh 0 (a0.take i.toNat)+1),nSh 1 (a0.take i.toNat)]=_
      rw[w64 (by omega) (by omega),t0,t1];simp
    · show [nSh 0 (a0.take i.toNat),IntKind.wrap .i64 (nSh 1 (a0.take i.toNat)+1)]=_
      rw[w64 (by omega) (by omega),t0,t1];simp
   rw[key]
   have hb2:0≤b∧b<2:=by omega
   simp only[List.length_cons,List.length_nil]
   exact⟨q1,hi,q1,hi,hb2.1,by omega,hb2.1,by omega,⟨by omega,by omega,rfl⟩,by unfold ieM;omega⟩
 · have e:i.toNat=a0.length:=by omega
   rw[e,List.take_length]
   refine⟨⟨by omega,by omega,fun _=>rfl,by omega⟩,?_⟩
   rintro⟨b,i⟩ ⟨p1,p2,p3,p4⟩
   simp only at p1 p2 p3 p4 ⊢
   refine⟨fun hi=>?_,fun hi=>p4 (by omega)⟩
   have e0:=p3 (by omega)
   subst e0
   rw[w64 (x:=i+1) (by omega) (by omega)]
   have h2:((([nSh 0 a0,nSh 1 a0]:List Int).length:Nat):Int)=2:=rfl
   rcases(by omega:i=0∨i=1) with rfl | rfl
   · exact⟨by omega,by omega,by omega,by omega,fun h=>absurd h (Int.lt_irrefl _),fun _=>⟨⟨by omega,by omega,fun _=>rfl,by omega⟩,by unfold iaM;decide⟩⟩
   · refine⟨by omega,by omega,by omega,by omega,fun h=>⟨⟨by omega,by omega,by omega,fun _=>?_⟩,by unfold iaM;decide⟩,fun h=>⟨⟨by omega,by omega,by omega,fun _=>?_⟩,by unfold iaM;decide⟩⟩
     · have h:nSh 1 a0<nSh 0 a0:=h
       unfold X50;rw[if_pos h]
     · have h:¬nSh 1 a0<nSh 0 a0:=h
       unfold X50;rw[if_neg h]
theorem X1o.eq:EqS X4J Tryz.f109 [3] [] [] (fun i x=>X1o.L x) (fun i x=>X1o.F x):=by intro i x;kernel_rfl
theorem X1o.ok:X0o Tryz.prog 109 X4J:=X2u X1o.eq Tryz.func109 rfl (by kernel_rfl) fun i x h hi hw=>X1o.pure x h hw
def X1o.e:GE:=⟨109,X4J,⟨_,Tryz.func109,rfl,rfl⟩,X1o.ok⟩
end Go.Proofs.YtgmafgmjbaoomaaGreat.B
