/- Numbers that are drawn. -/
import Derived.Test.YtegmokdppbagiaaCNewR
import Derived.Test.YtegmokdppbagiaaCMrg
set_option maxRecDepth 100000
set_option linter.unusedVariables false
set_option linter.unusedSimpArgs false
namespace Go.Proofs.Ytegmokdppbagiaa.B
open Go Go.Proofs.Ytegmokdppbagiaa.Bv
abbrev Cur:=List Int×(Int×Int)
def X4I(c:Cur):Prop:=0≤c.2.1∧c.2.1≤9223372036854775807∧c.1.length≤9223372036854775807
def XiD(code:List Int)(y:Cur×(Unit×Unit)):Prop:=y.1.1.length≤9223372036854775807∧y.1.2.1=0
structure nwI (code:List Int) (h i:Int):Prop where
 h1:0≤i
def nwM(code:List Int)(h i:Int):Nat:=(4000 - i).toNat
def XbY(c:Cur)(y:Int×(Cur×Unit)):Prop:=0≤y.1∧y.1≤255∧X4I y.2.1
def X5u(c:Cur)(n:Int):Prop:=X4I c
def X6k(c:Cur)(n:Int)(y:Int×(Cur×Unit)):Prop:=0≤y.1∧(y.1<n∨y.1=0)∧X4I y.2.1
def XeY(c:Cur)(n:Int)(y:Bool×(Cur×Unit)):Prop:=X4I y.2.1
def XiJ(c:Cur)(l:List Int):Prop:=X4I c∧0<l.length
def XiN(c:Cur)(l:List Int)(y:Int×(Cur×Unit)):Prop:=y.1∈l∧X4I y.2.1
def Xei(code:List Int)(most:Int)(y:Int×(Unit×Unit)):Prop:=y.1≤most
theorem X88(x:Int):0≤IntKind.wrap .i64 (BitVec.toNat (BitVec.ofInt (IntKind.bits .i64) x&&&BitVec.ofInt (IntKind.bits .i64) (255:Int)))∧IntKind.wrap .i64 (BitVec.toNat (BitVec.ofInt (IntKind.bits .i64) x&&&BitVec.ofInt (IntKind.bits .i64) (255:Int)))≤255:=by
 have h:BitVec.toNat (BitVec.ofInt (IntKind.bits .i64) x&&&BitVec.ofInt (IntKind.bits .i64) (255:Int))≤255:=by
  rw[BitVec.toNat_and]
  exact Nat.le_trans Nat.and_le_right (by decide)
 rw[w64 (by omega) (by omega)]
 omega
def X4q:Con:={I:=.unit,B:=.unit,A:=T6q,shA:=[.one],R:=(.pair T6q T0q),shR:=[(true,3)],newR:=true,pre:=fun _ _=>True,post:=fun _ a y=>(XiD a y)}
def X1u.F(a0:(List Int)):Prop:=(eS [(0,.val false [.lst (.int .u8) a0 none])] [(0,.val false [.lst (.int .u8) a0 none])]∧((nwI a0 (wI ((10101:Int)+(ln a0))) 0)∧∀(y1:(Int×Int)),(nwI a0 y1.1 y1.2)→(X04 (decide (y1.2<(ln a0))) (X04 (decide (y1.2<(4000:Int))) (0≤y1.2∧(y1.2<(ln a0)∧(eS [(0,.val false [.lst (.int .u8) a0 none])] [(0,.val false [.lst (.int .u8) a0 none])]∧(nwI a0 (IntKind.wrap .i64 (BitVec.toNat (BitVec.ofInt (IntKind.bits .i64) (wI ((wI ((wI (y1.1*(131:Int)))+(wI (List.getD a0 (tN y1.2) 0))))+(7:Int)))&&&BitVec.ofInt (IntKind.bits .i64) (1073741823:Int)))) (wI (y1.2+(1:Int))))∧(nwM a0 (IntKind.wrap .i64 (BitVec.toNat (BitVec.ofInt (IntKind.bits .i64) (wI ((wI ((wI (y1.1*(131:Int)))+(wI (List.getD a0 (tN y1.2) 0))))+(7:Int)))&&&BitVec.ofInt (IntKind.bits .i64) (1073741823:Int)))) (wI (y1.2+(1:Int))))<(nwM a0 y1.1 y1.2)))) (XiD a0 ((a0,(0,y1.1)),((),())))) (XiD a0 ((a0,(0,y1.1)),((),()))))))
def X1u.L(a0:(List Int)):Nat→Option X0g:=fun p=>Go.Proofs.Ytegmokdppbagiaa.Bv.look p [(58,{kp:={hold:=[0],slots:=[3,4],boxes:=[],rows:=[]},T:=T0q,I:=fun st y=>nwI a0 y.1 y.2,μ:=fun st y=>nwM a0 y.1 y.2})]
theorem X1u.pure(a0:(List Int))(h:True)(hw:Wf X4q.A a0):X1u.F a0:=by
 delta X1u.F ln tN wI eS
 simp only[Bs,B0,B1,Prod.mk.injEq,X06]
 have hl:a0.length≤maxLen:=hw.1
 unfold maxLen at hl
 refine⟨⟨by omega⟩,?_⟩
 rintro⟨h,i⟩ hI
 simp only at hI ⊢
 have q1:=hI.h1
 refine⟨fun h1=>⟨fun h2=>⟨q1,h1,?_⟩,fun _=>⟨by simp only;omega,rfl⟩⟩,fun _=>⟨by simp only;omega,rfl⟩⟩
 rw[w64 (x:=i+1) (by omega) (by omega)]
 exact⟨⟨by omega⟩,by unfold nwM;omega⟩
theorem X1u.eq:EqN X4q Try.f31 [] [] (fun i x=>X1u.L x) (fun i x=>X1u.F x):=by intro i x;kernel_rfl
theorem X1u.ok:X11 Try.prog 31 X4q:=okN X1u.eq Try.func31 rfl (by kernel_rfl) fun i x h hi hw=>X1u.pure x h hw
def X1u.e:GE:=⟨31,X4q,⟨_,Try.func31,rfl,rfl⟩,X1u.ok⟩
def X3b:Con:={io:=true,I:=(.pair T6q T0q),B:=.unit,A:=.unit,shA:=[],R:=(.int .i64),shR:=[(false,1)],pre:=fun i a=>(X4I i),post:=fun i a y=>(XbY i y)}
def X1D.F(i0:U5q):Prop:=(0≤(33:Int)∧(0≤(45:Int)∧(X04 (decide (i0.2.1<(ln i0.1))) (0≤i0.2.1∧(i0.2.1<(ln i0.1)∧(XbY i0 ((IntKind.wrap .i64 (BitVec.toNat (BitVec.ofInt (IntKind.bits .i64) (wI ((IntKind.wrap .i64 (BitVec.toNat (BitVec.ofInt (IntKind.bits .i64) (IntKind.wrap .i64 (BitVec.toNat (BitVec.ofInt (IntKind.bits .i64) (Int.fdiv (wI ((wI (i0.2.2*(6364136223846793005:Int)))+(1442695040888963407:Int))) (2 ^ (min (tN (33:Int)) (IntKind.bits .i64)))) ^^^ BitVec.ofInt (IntKind.bits .i64) (Int.fdiv (wI ((wI (i0.2.2*(6364136223846793005:Int)))+(1442695040888963407:Int))) (2 ^ (min (tN (45:Int)) (IntKind.bits .i64)))))))&&&BitVec.ofInt (IntKind.bits .i64) (255:Int))))+(wI (List.getD i0.1 (tN i0.2.1) 0))))&&&BitVec.ofInt (IntKind.bits .i64) (255:Int)))),((i0.1,((wI (i0.2.1+(1:Int))),(wI ((wI (i0.2.2*(6364136223846793005:Int)))+(1442695040888963407:Int))))),()))))) (XbY i0 ((IntKind.wrap .i64 (BitVec.toNat (BitVec.ofInt (IntKind.bits .i64) (IntKind.wrap .i64 (BitVec.toNat (BitVec.ofInt (IntKind.bits .i64) (Int.fdiv (wI ((wI (i0.2.2*(6364136223846793005:Int)))+(1442695040888963407:Int))) (2 ^ (min (tN (33:Int)) (IntKind.bits .i64)))) ^^^ BitVec.ofInt (IntKind.bits .i64) (Int.fdiv (wI ((wI (i0.2.2*(6364136223846793005:Int)))+(1442695040888963407:Int))) (2 ^ (min (tN (45:Int)) (IntKind.bits .i64)))))))&&&BitVec.ofInt (IntKind.bits .i64) (255:Int)))),((i0.1,(i0.2.1,(wI ((wI (i0.2.2*(6364136223846793005:Int)))+(1442695040888963407:Int))))),()))))))
theorem X1D.pure(i0:U5q)(h:(X4I i0))(hi:Wf X3b.I i0)(hw:Wf X3b.A ()):X1D.F i0:=by
 delta X1D.F ln tN wI
 simp only[Bs,B0,B1,Prod.mk.injEq,X06]
 have hl:i0.1.length≤maxLen:=(hi).1.1
 obtain⟨c1,c2,c3⟩:=h
 refine⟨by omega,by omega,fun h1=>⟨c1,h1,(X88 _).1,(X88 _).2,?_⟩,fun h1=>⟨(X88 _).1,(X88 _).2,c1,c2,c3⟩⟩
 unfold maxLen at hl
 simp only[X4I]
 rw[w64 (x:=i0.2.1+1) (by omega) (by omega)]
 omega
theorem X1D.eq:EqS X3b Try.f109 [3] [] [] noL (fun i x=>X1D.F i):=by intro i x;kernel_rfl
theorem X1D.ok:X11 Try.prog 109 X3b:=X3V X1D.eq Try.func109 rfl (by kernel_rfl) fun i x h hi hw=>X1D.pure i h (hi rfl) hw
def X1D.e:GE:=⟨109,X3b,⟨_,Try.func109,rfl,rfl⟩,X1D.ok⟩
def X2D:Con:={io:=true,I:=(.pair T6q T0q),B:=.unit,A:=(.int .i64),shA:=[.one],R:=(.int .i64),shR:=[(false,1)],pre:=fun i a=>(X5u i a),post:=fun i a y=>(X6k i a y)}
def X1e.F(i0:U5q)(a0:Int):Prop:=(X04 (decide (a0≤(0:Int))) (X6k i0 a0 (0,((i0.1,(i0.2.1,i0.2.2)),()))) (X04 (decide (a0≤(256:Int))) ((X4I (i0.1,(i0.2.1,i0.2.2)))∧∀r1,(XbY (i0.1,(i0.2.1,i0.2.2)) r1)→(a0≠0∧(X6k i0 a0 ((Int.tmod r1.1 a0),((r1.2.1.1,(r1.2.1.2.1,r1.2.1.2.2)),()))))) ((X4I (i0.1,(i0.2.1,i0.2.2)))∧∀r2,(XbY (i0.1,(i0.2.1,i0.2.2)) r2)→((X4I (r2.2.1.1,(r2.2.1.2.1,r2.2.1.2.2)))∧∀r3,(XbY (r2.2.1.1,(r2.2.1.2.1,r2.2.1.2.2)) r3)→((X4I (r3.2.1.1,(r3.2.1.2.1,r3.2.1.2.2)))∧∀r4,(XbY (r3.2.1.1,(r3.2.1.2.1,r3.2.1.2.2)) r4)→((X4I (r4.2.1.1,(r4.2.1.2.1,r4.2.1.2.2)))∧∀r5,(XbY (r4.2.1.1,(r4.2.1.2.1,r4.2.1.2.2)) r5)→(a0≠0∧(X6k i0 a0 ((Int.tmod (wI ((wI ((wI ((wI (r2.1*(16777216:Int)))+(wI (r3.1*(65536:Int)))))+(wI (r4.1*(256:Int)))))+r5.1)) a0),((r5.2.1.1,(r5.2.1.2.1,r5.2.1.2.2)),()))))))))))
theorem X1e.pure(i0:U5q)(a0:Int)(h:(X5u i0 a0))(hi:Wf X2D.I i0)(hw:Wf X2D.A a0):X1e.F i0 a0:=by
 delta X1e.F wI
 simp only[Bs,B0,B1,Prod.mk.injEq,X06,Prod.eta]
 have hc:X4I i0:=h
 refine⟨fun h1=>⟨by omega,.inr rfl,hc⟩,fun h1=>⟨fun h2=>⟨hc,fun r1 q1=>⟨by omega,?_⟩⟩,fun h2=>⟨hc,fun r2 q2=>⟨q2.2.2,fun r3 q3=>⟨q3.2.2,fun r4 q4=>⟨q4.2.2,fun r5 q5=>⟨by omega,?_⟩⟩⟩⟩⟩⟩⟩
 · exact⟨Int.tmod_nonneg _ q1.1,.inl (Int.tmod_lt_of_pos _ (by omega)),q1.2.2⟩
 · obtain⟨a1,a2,_⟩:=q2
   obtain⟨b1,b2,_⟩:=q3
   obtain⟨d1,d2,_⟩:=q4
   obtain⟨e1,e2,e3⟩:=q5
   rw[w64 (x:=r2.1*16777216) (by omega) (by omega),w64 (x:=r3.1*65536) (by omega) (by omega),w64 (x:=r4.1*256) (by omega) (by omega),w64 (x:=r2.1*16777216+r3.1*65536) (by omega) (by omega),w64 (x:=r2.1*16777216+r3.1*65536+r4.1*256) (by omega) (by omega),w64 (by omega) (by omega)]
   exact⟨Int.tmod_nonneg _ (by omega),.inl (Int.tmod_lt_of_pos _ (by omega)),e3⟩
theorem X1e.eq:EqS X2D Try.f78 [3] [X1D.e] [] noL (fun i x=>X1e.F i x):=by intro i x;kernel_rfl
theorem X1e.ok:X11 Try.prog 78 X2D:=X3V X1e.eq Try.func78 rfl (by kernel_rfl) fun i x h hi hw=>X1e.pure i x h (hi rfl) hw
def X1e.e:GE:=⟨78,X2D,⟨_,Try.func78,rfl,rfl⟩,X1e.ok⟩
def X3e:Con:={io:=true,I:=(.pair T6q T0q),B:=.unit,A:=(.int .i64),shA:=[.one],R:=.bool,shR:=[(false,1)],pre:=fun i a=>(X5u i a),post:=fun i a y=>(XeY i a y)}
def X1B.F(i0:U5q)(a0:Int):Prop:=((X5u (i0.1,(i0.2.1,i0.2.2)) a0)∧∀r1,(X6k (i0.1,(i0.2.1,i0.2.2)) a0 r1)→(XeY i0 a0 ((r1.1==(0:Int)),((r1.2.1.1,(r1.2.1.2.1,r1.2.1.2.2)),()))))
theorem X1B.pure(i0:U5q)(a0:Int)(h:(X5u i0 a0))(hi:Wf X3e.I i0)(hw:Wf X3e.A a0):X1B.F i0 a0:=by
 unfold X1B.F
 simp only[Bs,B0,B1,Prod.mk.injEq,X06,Prod.eta]
 exact⟨h,fun r1 q1=>q1.2.2⟩
theorem X1B.eq:EqS X3e Try.f76 [4] [X1e.e] [] noL (fun i x=>X1B.F i x):=by intro i x;kernel_rfl
theorem X1B.ok:X11 Try.prog 76 X3e:=X3V X1B.eq Try.func76 rfl (by kernel_rfl) fun i x h hi hw=>X1B.pure i x h (hi rfl) hw
def X1B.e:GE:=⟨76,X3e,⟨_,Try.func76,rfl,rfl⟩,X1B.ok⟩
def X3S:Con:={I:=.unit,B:=.unit,A:=(.pair T6q (.int .i64)),shA:=[.one,.one],R:=(.int .i64),shR:=[(false,1)],pre:=fun _ _=>True,post:=fun _ a y=>(Xei a.1 a.2 y)}
def X1z.F(a0:(List Int))(a1:Int):Prop:=((20:Int)≠0∧(X04 (decide ((wI ((2:Int)+(wI (Int.tdiv (ln a0) (20:Int)))))>a1)) (Xei a0 a1 (a1,((),()))) (Xei a0 a1 ((wI ((2:Int)+(wI (Int.tdiv (ln a0) (20:Int))))),((),())))))
theorem X1z.pure(a0:(List Int))(a1:Int)(h:True)(hw:Wf X3S.A (a0,a1)):X1z.F a0 a1:=by
 delta X1z.F ln wI
 simp only[Bs,B0,B1,Prod.mk.injEq,X06]
 refine⟨by omega,fun h1=>?_,fun h1=>?_⟩<;>(unfold Xei;simp only;omega)
theorem X1z.eq:EqS X3S Try.f33 [3] [] [] noL (fun i x=>X1z.F x.1 x.2):=by intro i x;kernel_rfl
theorem X1z.ok:X11 Try.prog 33 X3S:=X3V X1z.eq Try.func33 rfl (by kernel_rfl) fun i x h hi hw=>X1z.pure x.1 x.2 h hw
def X1z.e:GE:=⟨33,X3S,⟨_,Try.func33,rfl,rfl⟩,X1z.ok⟩
def X7b(c:Cur)(most:Int):Prop:=X4I c∧most≤1000
def XiA(c:Cur)(most:Int)(y:List Int×(Cur×Unit)):Prop:=0<y.1.length∧y.1.length≤1001∧X4I y.2.1
def XiU(c:Cur)(most:Int):Prop:=X4I c∧most≤2000
def Xje(c:Cur)(most:Int)(y:List Int×(Cur×Unit)):Prop:=0<y.1.length∧y.1.length≤2001∧X4I y.2.1
def inI(c:Cur)(most v n:Int)(b:List Int)(i h:Int)(out:List Int):Prop:=X4I (b,i,h)∧n≤2000∧0≤n∧out.length+n≤2000∧0<out.length+n
def X8P(c:Cur)(most:Int)(y:List Pt×(Cur×Unit)):Prop:=y.1.length≤1001∧X4I y.2.1
def rgI(c:Cur)(most t n:Int)(b:List Int)(i h:Int)(out:List Pt):Prop:=X4I (b,i,h)∧n≤1000∧0≤n∧out.length+n≤1000
def rgM(c:Cur)(most t n:Int)(b:List Int)(i h:Int)(out:List Pt):Nat:=n.toNat
def X2C:Con:={io:=true,I:=(.pair T6q T0q),B:=.unit,A:=(.int .i64),shA:=[.one],R:=(.list T0q),shR:=[(false,1)],fresh:=[(0,39)],pre:=fun i a=>(X7b i a),post:=fun i a y=>(X8P i a y)}
def X12.F(i0:U5q)(a0:Int):Prop:=((X5u (i0.1,(i0.2.1,i0.2.2)) 250)∧∀r1,(X6k (i0.1,(i0.2.1,i0.2.2)) 250 r1)→((X5u (r1.2.1.1,(r1.2.1.2.1,r1.2.1.2.2)) a0)∧∀r2,(X6k (r1.2.1.1,(r1.2.1.2.1,r1.2.1.2.2)) a0 r2)→(eS [(0,.box 0 0)] [(0,.box 0 0)]∧((rgI i0 a0 r1.1 (wI ((1:Int)+r2.1)) r2.2.1.1 r2.2.1.2.1 r2.2.1.2.2 ([]:List (Int×Int)))∧∀(y3:(Int×(Int×((List Int)×(Int×(Int×U4q)))))),(rgI i0 a0 y3.1 y3.2.1 y3.2.2.1 y3.2.2.2.1 y3.2.2.2.2.1 y3.2.2.2.2.2)→(X04 (decide (y3.2.1>(0:Int))) ((X5u (y3.2.2.1,(y3.2.2.2.1,y3.2.2.2.2.1)) 40)∧∀r4,(X6k (y3.2.2.1,(y3.2.2.2.1,y3.2.2.2.2.1)) 40 r4)→(List.length y3.2.2.2.2.2+List.length [(y3.1,(wI (r4.1 - (20:Int))))]≤9223372036854775807∧((List.length y3.2.2.2.2.2+List.length [(y3.1,(wI (r4.1 - (20:Int))))])*16≤140737488355328∧((X5u (r4.2.1.1,(r4.2.1.2.1,r4.2.1.2.2)) 30)∧∀r5,(X6k (r4.2.1.1,(r4.2.1.2.1,r4.2.1.2.2)) 30 r5)→(eS [(0,.box 0 0)] [(0,.box 0 0)]∧(rgI i0 a0 (wI ((wI (y3.1+(1:Int)))+r5.1)) (wI (y3.2.1 - (1:Int))) r5.2.1.1 r5.2.1.2.1 r5.2.1.2.2 (y3.2.2.2.2.2++[(y3.1,(wI (r4.1 - (20:Int))))]))∧(rgM i0 a0 (wI ((wI (y3.1+(1:Int)))+r5.1)) (wI (y3.2.1 - (1:Int))) r5.2.1.1 r5.2.1.2.1 r5.2.1.2.2 (y3.2.2.2.2.2++[(y3.1,(wI (r4.1 - (20:Int))))]))<(rgM i0 a0 y3.1 y3.2.1 y3.2.2.1 y3.2.2.2.1 y3.2.2.2.2.1 y3.2.2.2.2.2)))))) (X8P i0 a0 (y3.2.2.2.2.2,((y3.2.2.1,(y3.2.2.2.1,y3.2.2.2.2.1)),()))))))))
def X12.L(i0:U5q)(a0:Int):Nat→Option X0g:=fun p=>Go.Proofs.Ytegmokdppbagiaa.Bv.look p [(122,{kp:={hold:=[0],slots:=[5,6,7],boxes:=[0],rows:=[{bx:=false,s:=5,i:=0,k:=1000643,e:=39,hot:=true}]},T:=(.pair (.int .i64) (.pair (.int .i64) (.pair T6q (.pair (.int .i64) (.pair (.int .i64) (.list T0q)))))),I:=fun st y=>rgI i0 a0 y.1 y.2.1 y.2.2.1 y.2.2.2.1 y.2.2.2.2.1 y.2.2.2.2.2,μ:=fun st y=>rgM i0 a0 y.1 y.2.1 y.2.2.1 y.2.2.2.1 y.2.2.2.2.1 y.2.2.2.2.2})]
theorem X12.pure(i0:U5q)(a0:Int)(h:(X7b i0 a0))(hi:Wf X2C.I i0)(hw:Wf X2C.A a0):X12.F i0 a0:=by
 delta X12.F wI eS
 simp only[X7b,X4I]at h
 simp only[Bs,B0,B1,Prod.mk.injEq,X06,X6k,XeY,XiN,X5u,XiJ,X4I,X7b,XiA,XiU,Xje,X8P,rgI,rgM]
 repeat' (with_reducible (first | (refine And.intro ?_ ?_) | intro _))
 all_goals (try simp (disch:=omega) only[w64,wu8,tn0,tn1,tm1,tm2,List.length_append,List.length_cons,List.length_nil]at*)
 all_goals (try simp (disch:=omega) only[w64,wu8,tn0,tn1,tm1,tm2,List.length_append,List.length_cons,List.length_nil]at*)
 all_goals (try omega)
theorem X12.eq:EqS X2C Try.f77 [32] [X1e.e] [] (fun i x=>X12.L i x) (fun i x=>X12.F i x):=by intro i x;kernel_rfl
theorem X12.ok:X11 Try.prog 77 X2C:=X3V X12.eq Try.func77 rfl (by kernel_rfl) fun i x h hi hw=>X12.pure i x h (hi rfl) hw
def X12.e:GE:=⟨77,X2C,⟨_,Try.func77,rfl,rfl⟩,X12.ok⟩
end Go.Proofs.Ytegmokdppbagiaa.B
