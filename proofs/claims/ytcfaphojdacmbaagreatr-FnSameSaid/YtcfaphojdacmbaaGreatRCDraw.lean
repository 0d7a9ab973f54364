/- Numbers that are drawn. -/
import Derived.Test.YtcfaphojdacmbaaGreatRCNewR
import Derived.Test.YtcfaphojdacmbaaGreatRCMrg
set_option maxRecDepth 100000
set_option linter.unusedVariables false
set_option linter.unusedSimpArgs false
namespace Go.Proofs.YtcfaphojdacmbaaGreatR.B
open Go Go.Proofs.YtcfaphojdacmbaaGreatR.Bv
abbrev Cur:=List Int×(Int×Int)
def X4E(c:Cur):Prop:=0≤c.2.1∧c.2.1≤9223372036854775807∧c.1.length≤9223372036854775807
def XpS(code:List Int)(y:Cur×(Unit×Unit)):Prop:=y.1.1.length≤9223372036854775807∧y.1.2.1=0
structure nwI (code:List Int) (h i:Int):Prop where
 h1:0≤i
def nwM(code:List Int)(h i:Int):Nat:=(4000 - i).toNat
def XeS(c:Cur)(y:Int×(Cur×Unit)):Prop:=0≤y.1∧y.1≤255∧X4E y.2.1
def X4Y(c:Cur)(n:Int):Prop:=X4E c
def X7u(c:Cur)(n:Int)(y:Int×(Cur×Unit)):Prop:=0≤y.1∧(y.1<n∨y.1=0)∧X4E y.2.1
def Xdm(c:Cur)(n:Int)(y:Bool×(Cur×Unit)):Prop:=X4E y.2.1
def XgE(c:Cur)(l:List Int):Prop:=X4E c∧0<l.length
def XgJ(c:Cur)(l:List Int)(y:Int×(Cur×Unit)):Prop:=y.1∈l∧X4E y.2.1
def Xi9(code:List Int)(most:Int)(y:Int×(Unit×Unit)):Prop:=y.1≤most
theorem Xc7(x:Int):0≤IntKind.wrap .i64 (BitVec.toNat (BitVec.ofInt (IntKind.bits .i64) x&&&BitVec.ofInt (IntKind.bits .i64) (255:Int)))∧IntKind.wrap .i64 (BitVec.toNat (BitVec.ofInt (IntKind.bits .i64) x&&&BitVec.ofInt (IntKind.bits .i64) (255:Int)))≤255:=by
 have h:BitVec.toNat (BitVec.ofInt (IntKind.bits .i64) x&&&BitVec.ofInt (IntKind.bits .i64) (255:Int))≤255:=by
  rw[BitVec.toNat_and]
  exact Nat.le_trans Nat.and_le_right (by decide)
 rw[w64 (by omega) (by omega)]
 omega
def X8b:Con:={I:=.unit,B:=.unit,A:=T9q,shA:=[.one],R:=(.pair T9q T0q),shR:=[(true,3)],newR:=true,pre:=fun _ _=>True,post:=fun _ a y=>(XpS a y)}
def X3i.F(a0:(List Int)):Prop:=(eS [(0,.val false [.lst (.int .u8) a0 none])] [(0,.val false [.lst (.int .u8) a0 none])]∧((nwI a0 (wI ((10101:Int)+(ln a0))) 0)∧∀(y1:(Int×Int)),(nwI a0 y1.1 y1.2)→(X02 (decide (y1.2<(ln a0))) (X02 (decide (y1.2<(4000:Int))) (0≤y1.2∧(y1.2<(ln a0)∧(eS [(0,.val false [.lst (.int .u8) a0 none])] [(0,.val false [.lst (.int .u8) a0 none])]∧(nwI a0 (IntKind.wrap .i64 (BitVec.toNat (BitVec.ofInt (IntKind.bits .i64) (wI ((wI ((wI (y1.1*(131:Int)))+(wI (List.getD a0 (tN y1.2) 0))))+(7:Int)))&&&BitVec.ofInt (IntKind.bits .i64) (1073741823:Int)))) (wI (y1.2+(1:Int))))∧(nwM a0 (IntKind.wrap .i64 (BitVec.toNat (BitVec.ofInt (IntKind.bits .i64) (wI ((wI ((wI (y1.1*(131:Int)))+(wI (List.getD a0 (tN y1.2) 0))))+(7:Int)))&&&BitVec.ofInt (IntKind.bits .i64) (1073741823:Int)))) (wI (y1.2+(1:Int))))<(nwM a0 y1.1 y1.2)))) (XpS a0 ((a0,(0,y1.1)),((),())))) (XpS a0 ((a0,(0,y1.1)),((),()))))))
def X3i.L(a0:(List Int)):Nat→Option X0c:=fun p=>Go.Proofs.YtcfaphojdacmbaaGreatR.Bv.look p [(58,{kp:={hold:=[0],slots:=[3,4],boxes:=[],rows:=[]},T:=T0q,I:=fun st y=>nwI a0 y.1 y.2,μ:=fun st y=>nwM a0 y.1 y.2})]
theorem X3i.pure(a0:(List Int))(h:True)(hw:Wf X8b.A a0):X3i.F a0:=by
 delta X3i.F ln tN wI eS
 simp only[Bs,B0,B1,Prod.mk.injEq,X01]
 have hl:a0.length≤maxLen:=hw.1
 unfold maxLen at hl
 refine⟨⟨by omega⟩,?_⟩
 rintro⟨h,i⟩ hI
 simp only at hI ⊢
 have q1:=hI.h1
 refine⟨fun h1=>⟨fun h2=>⟨q1,h1,?_⟩,fun _=>⟨by simp only;omega,rfl⟩⟩,fun _=>⟨by simp only;omega,rfl⟩⟩
 rw[w64 (x:=i+1) (by omega) (by omega)]
 exact⟨⟨by omega⟩,by unfold nwM;omega⟩
theorem X3i.eq:EqN X8b Tryz.f79 [] [] (fun i x=>X3i.L x) (fun i x=>X3i.F x):=by intro i x;kernel_rfl
theorem X3i.ok:X0n Tryz.prog 79 X8b:=okN X3i.eq Tryz.func79 rfl (by kernel_rfl) fun i x h hi hw=>X3i.pure x h hw
def X3i.e:GE:=⟨79,X8b,⟨_,Tryz.func79,rfl,rfl⟩,X3i.ok⟩
def X62:Con:={io:=true,I:=(.pair T9q T0q),B:=.unit,A:=.unit,shA:=[],R:=(.int .i64),shR:=[(false,1)],pre:=fun i a=>(X4E i),post:=fun i a y=>(XeS i y)}
def X35.F(i0:U7q):Prop:=(0≤(33:Int)∧(0≤(45:Int)∧(X02 (decide (i0.2.1<(ln i0.1))) (0≤i0.2.1∧(i0.2.1<(ln i0.1)∧(XeS i0 ((IntKind.wrap .i64 (BitVec.toNat (BitVec.ofInt (IntKind.bits .i64) (wI ((IntKind.wrap .i64 (BitVec.toNat (BitVec.ofInt (IntKind.bits .i64) (IntKind.wrap .i64 (BitVec.toNat (BitVec.ofInt (IntKind.bits .i64) (Int.fdiv (wI ((wI (i0.2.2*(6364136223846793005:Int)))+(1442695040888963407:Int))) (2 ^ (min (tN (33:Int)) (IntKind.bits .i64)))) ^^^ BitVec.ofInt (IntKind.bits .i64) (Int.fdiv (wI ((wI (i0.2.2*(6364136223846793005:Int)))+(1442695040888963407:Int))) (2 ^ (min (tN (45:Int)) (IntKind.bits .i64)))))))&&&BitVec.ofInt (IntKind.bits .i64) (255:Int))))+(wI (List.getD i0.1 (tN i0.2.1) 0))))&&&BitVec.ofInt (IntKind.bits .i64) (255:Int)))),((i0.1,((wI (i0.2.1+(1:Int))),(wI ((wI (i0.2.2*(6364136223846793005:Int)))+(1442695040888963407:Int))))),()))))) (XeS i0 ((IntKind.wrap .i64 (BitVec.toNat (BitVec.ofInt (IntKind.bits .i64) (IntKind.wrap .i64 (BitVec.toNat (BitVec.ofInt (IntKind.bits .i64) (Int.fdiv (wI ((wI (i0.2.2*(6364136223846793005:Int)))+(1442695040888963407:Int))) (2 ^ (min (tN (33:Int)) (IntKind.bits .i64)))) ^^^ BitVec.ofInt (IntKind.bits .i64) (Int.fdiv (wI ((wI (i0.2.2*(6364136223846793005:Int)))+(1442695040888963407:Int))) (2 ^ (min (tN (45:Int)) (IntKind.bits .i64)))))))&&&BitVec.ofInt (IntKind.bits .i64) (255:Int)))),((i0.1,(i0.2.1,(wI ((wI (i0.2.2*(6364136223846793005:Int)))+(1442695040888963407:Int))))),()))))))
theorem X35.pure(i0:U7q)(h:(X4E i0))(hi:Wf X62.I i0)(hw:Wf X62.A ()):X35.F i0:=by
 delta X35.F ln tN wI
 simp only[Bs,B0,B1,Prod.mk.injEq,X01]
 have hl:i0.1.length≤maxLen:=(hi).1.1
 obtain⟨c1,c2,c3⟩:=h
 refine⟨by omega,by omega,fun h1=>⟨c1,h1,(Xc7 _).1,(Xc7 _).2,?_⟩,fun h1=>⟨(Xc7 _).1,(Xc7 _).2,c1,c2,c3⟩⟩
 unfold maxLen at hl
 simp only[X4E]
 rw[w64 (x:=i0.2.1+1) (by omega) (by omega)]
 omega
theorem X35.eq:EqS X62 Tryz.f180 [3] [] [] noL (fun i x=>X35.F i):=by intro i x;kernel_rfl
theorem X35.ok:X0n Tryz.prog 180 X62:=X2j X35.eq Tryz.func180 rfl (by kernel_rfl) fun i x h hi hw=>X35.pure i h (hi rfl) hw
def X35.e:GE:=⟨180,X62,⟨_,Tryz.func180,rfl,rfl⟩,X35.ok⟩
def X54:Con:={io:=true,I:=(.pair T9q T0q),B:=.unit,A:=(.int .i64),shA:=[.one],R:=(.int .i64),shR:=[(false,1)],pre:=fun i a=>(X4Y i a),post:=fun i a y=>(X7u i a y)}
def X1N.F(i0:U7q)(a0:Int):Prop:=(X02 (decide (a0≤(0:Int))) (X7u i0 a0 (0,((i0.1,(i0.2.1,i0.2.2)),()))) (X02 (decide (a0≤(256:Int))) ((X4E (i0.1,(i0.2.1,i0.2.2)))∧∀r1,(XeS (i0.1,(i0.2.1,i0.2.2)) r1)→(a0≠0∧(X7u i0 a0 ((Int.tmod r1.1 a0),((r1.2.1.1,(r1.2.1.2.1,r1.2.1.2.2)),()))))) ((X4E (i0.1,(i0.2.1,i0.2.2)))∧∀r2,(XeS (i0.1,(i0.2.1,i0.2.2)) r2)→((X4E (r2.2.1.1,(r2.2.1.2.1,r2.2.1.2.2)))∧∀r3,(XeS (r2.2.1.1,(r2.2.1.2.1,r2.2.1.2.2)) r3)→((X4E (r3.2.1.1,(r3.2.1.2.1,r3.2.1.2.2)))∧∀r4,(XeS (r3.2.1.1,(r3.2.1.2.1,r3.2.1.2.2)) r4)→((X4E (r4.2.1.1,(r4.2.1.2.1,r4.2.1.2.2)))∧∀r5,(XeS (r4.2.1.1,(r4.2.1.2.1,r4.2.1.2.2)) r5)→(a0≠0∧(X7u i0 a0 ((Int.tmod (wI ((wI ((wI ((wI (r2.1*(16777216:Int)))+(wI (r3.1*(65536:Int)))))+(wI (r4.1*(256:Int)))))+r5.1)) a0),((r5.2.1.1,(r5.2.1.2.1,r5.2.1.2.2)),()))))))))))
theorem X1N.pure(i0:U7q)(a0:Int)(h:(X4Y i0 a0))(hi:Wf X54.I i0)(hw:Wf X54.A a0):X1N.F i0 a0:=by
 delta X1N.F wI
 simp only[Bs,B0,B1,Prod.mk.injEq,X01,Prod.eta]
 have hc:X4E i0:=h
 refine⟨fun h1=>⟨by omega,.inr rfl,hc⟩,fun h1=>⟨fun h2=>⟨hc,fun r1 q1=>⟨by omega,?_⟩⟩,fun h2=>⟨hc,fun r2 q2=>⟨q2.2.2,fun r3 q3=>⟨q3.2.2,fun r4 q4=>⟨q4.2.2,fun r5 q5=>⟨by omega,?_⟩⟩⟩⟩⟩⟩⟩
 · exact⟨Int.tmod_nonneg _ q1.1,.inl (Int.tmod_lt_of_pos _ (by omega)),q1.2.2⟩
 · obtain⟨a1,a2,_⟩:=q2
   obtain⟨b1,b2,_⟩:=q3
   obtain⟨d1,d2,_⟩:=q4
   obtain⟨e1,e2,e3⟩:=q5
   rw[w64 (x:=r2.1*16777216) (by omega) (by omega),w64 (x:=r3.1*65536) (by omega) (by omega),w64 (x:=r4.1*256) (by omega) (by omega),w64 (x:=r2.1*16777216+r3.1*65536) (by omega) (by omega),w64 (x:=r2.1*16777216+r3.1*65536+r4.1*256) (by omega) (by omega),w64 (by omega) (by omega)]
   exact⟨Int.tmod_nonneg _ (by omega),.inl (Int.tmod_lt_of_pos _ (by omega)),e3⟩
theorem X1N.eq:EqS X54 Tryz.f108 [3] [X35.e] [] noL (fun i x=>X1N.F i x):=by intro i x;kernel_rfl
theorem X1N.ok:X0n Tryz.prog 108 X54:=X2j X1N.eq Tryz.func108 rfl (by kernel_rfl) fun i x h hi hw=>X1N.pure i x h (hi rfl) hw
def X1N.e:GE:=⟨108,X54,⟨_,Tryz.func108,rfl,rfl⟩,X1N.ok⟩
def X5T:Con:={io:=true,I:=(.pair T9q T0q),B:=.unit,A:=(.int .i64),shA:=[.one],R:=.bool,shR:=[(false,1)],pre:=fun i a=>(X4Y i a),post:=fun i a y=>(Xdm i a y)}
def X2s.F(i0:U7q)(a0:Int):Prop:=((X4Y (i0.1,(i0.2.1,i0.2.2)) a0)∧∀r1,(X7u (i0.1,(i0.2.1,i0.2.2)) a0 r1)→(Xdm i0 a0 ((r1.1==(0:Int)),((r1.2.1.1,(r1.2.1.2.1,r1.2.1.2.2)),()))))
theorem X2s.pure(i0:U7q)(a0:Int)(h:(X4Y i0 a0))(hi:Wf X5T.I i0)(hw:Wf X5T.A a0):X2s.F i0 a0:=by
 unfold X2s.F
 simp only[Bs,B0,B1,Prod.mk.injEq,X01,Prod.eta]
 exact⟨h,fun r1 q1=>q1.2.2⟩
theorem X2s.eq:EqS X5T Tryz.f81 [4] [X1N.e] [] noL (fun i x=>X2s.F i x):=by intro i x;kernel_rfl
theorem X2s.ok:X0n Tryz.prog 81 X5T:=X2j X2s.eq Tryz.func81 rfl (by kernel_rfl) fun i x h hi hw=>X2s.pure i x h (hi rfl) hw
def X2s.e:GE:=⟨81,X5T,⟨_,Tryz.func81,rfl,rfl⟩,X2s.ok⟩
def X48:Con:={io:=true,I:=(.pair T9q T0q),B:=.unit,A:=Xc8,shA:=[.one],R:=(.int .i64),shR:=[(false,1)],pre:=fun i a=>(XgE i a),post:=fun i a y=>(XgJ i a y)}
def X22.F(i0:U7q)(a0:(List Int)):Prop:=((X4Y (i0.1,(i0.2.1,i0.2.2)) (ln a0))∧∀r1,(X7u (i0.1,(i0.2.1,i0.2.2)) (ln a0) r1)→(0≤r1.1∧(r1.1<(ln a0)∧(XgJ i0 a0 ((List.getD a0 (tN r1.1) 0),((r1.2.1.1,(r1.2.1.2.1,r1.2.1.2.2)),()))))))
theorem X22.pure(i0:U7q)(a0:(List Int))(h:(XgE i0 a0))(hi:Wf X48.I i0)(hw:Wf X48.A a0):X22.F i0 a0:=by
 delta X22.F ln tN
 simp only[Bs,B0,B1,Prod.mk.injEq,X01,Prod.eta]
 obtain⟨hc,hl⟩:=h
 refine⟨hc,fun r1 q1=>?_⟩
 obtain⟨a1,a2,a3⟩:=q1
 exact⟨a1,by omega,X1e (by omega),a3⟩
theorem X22.eq:EqS X48 Tryz.f109 [3] [X1N.e] [] noL (fun i x=>X22.F i x):=by intro i x;kernel_rfl
theorem X22.ok:X0n Tryz.prog 109 X48:=X2j X22.eq Tryz.func109 rfl (by kernel_rfl) fun i x h hi hw=>X22.pure i x h (hi rfl) hw
def X22.e:GE:=⟨109,X48,⟨_,Tryz.func109,rfl,rfl⟩,X22.ok⟩
def X7d:Con:={I:=.unit,B:=.unit,A:=(.pair T9q (.int .i64)),shA:=[.one,.one],R:=(.int .i64),shR:=[(false,1)],pre:=fun _ _=>True,post:=fun _ a y=>(Xi9 a.1 a.2 y)}
def X3q.F(a0:(List Int))(a1:Int):Prop:=((20:Int)≠0∧(X02 (decide ((wI ((2:Int)+(wI (Int.tdiv (ln a0) (20:Int)))))>a1)) (Xi9 a0 a1 (a1,((),()))) (Xi9 a0 a1 ((wI ((2:Int)+(wI (Int.tdiv (ln a0) (20:Int))))),((),())))))
theorem X3q.pure(a0:(List Int))(a1:Int)(h:True)(hw:Wf X7d.A (a0,a1)):X3q.F a0 a1:=by
 delta X3q.F ln wI
 simp only[Bs,B0,B1,Prod.mk.injEq,X01]
 refine⟨by omega,fun h1=>?_,fun h1=>?_⟩<;>(unfold Xi9;simp only;omega)
theorem X3q.eq:EqS X7d Tryz.f86 [3] [] [] noL (fun i x=>X3q.F x.1 x.2):=by intro i x;kernel_rfl
theorem X3q.ok:X0n Tryz.prog 86 X7d:=X2j X3q.eq Tryz.func86 rfl (by kernel_rfl) fun i x h hi hw=>X3q.pure x.1 x.2 h hw
def X3q.e:GE:=⟨86,X7d,⟨_,Tryz.func86,rfl,rfl⟩,X3q.ok⟩
def X4W(c:Cur)(most:Int):Prop:=X4E c∧most≤1000
def XoC(c:Cur)(most:Int)(y:List Int×(Cur×Unit)):Prop:=0<y.1.length∧y.1.length≤1001∧X4E y.2.1
def taI(c:Cur)(most t n:Int)(b:List Int)(i h:Int)(out:List Int):Prop:=X4E (b,i,h)∧n≤1000∧0≤n∧out.length+n≤1000∧0<out.length+n
def taM(c:Cur)(most t n:Int)(b:List Int)(i h:Int)(out:List Int):Nat:=n.toNat
def tbI(c:Cur)(most:Int)(b:List Int)(i h:Int)(out:List Int):Prop:=X4E (b,i,h)∧out.length≤61
def tbM(c:Cur)(most:Int)(b:List Int)(i h:Int)(out:List Int):Nat:=61 - out.length
def Xoo(c:Cur)(most:Int):Prop:=X4E c∧most≤2000
def XoA(c:Cur)(most:Int)(y:List Int×(Cur×Unit)):Prop:=0<y.1.length∧y.1.length≤2001∧X4E y.2.1
def inI(c:Cur)(most v n:Int)(b:List Int)(i h:Int)(out:List Int):Prop:=X4E (b,i,h)∧n≤2000∧0≤n∧out.length+n≤2000∧0<out.length+n
def inM(c:Cur)(most v n:Int)(b:List Int)(i h:Int)(out:List Int):Nat:=n.toNat
def X9z(c:Cur)(most:Int)(y:List Pt×(Cur×Unit)):Prop:=y.1.length≤1001∧X4E y.2.1
def poI(c:Cur)(most i:Int)(b:List Int)(k h:Int)(out:List Pt):Prop:=X4E (b,k,h)∧0≤i∧i≤1001∧out.length=i
def poM(c:Cur)(most i:Int)(b:List Int)(k h:Int)(out:List Pt):Nat:=(1001 - i).toNat
def rgI(c:Cur)(most t n:Int)(b:List Int)(i h:Int)(out:List Pt):Prop:=X4E (b,i,h)∧n≤1000∧0≤n∧out.length+n≤1000
def rgM(c:Cur)(most t n:Int)(b:List Int)(i h:Int)(out:List Pt):Nat:=n.toNat
def Xon.L(i0:U7q)(a0:Int):Nat→Option X0c:=fun p=>Go.Proofs.YtcfaphojdacmbaaGreatR.Bv.look p [(506,{kp:={hold:=[0,7],slots:=[5,6,8],boxes:=[0],rows:=[{bx:=false,s:=5,i:=0,k:=1000643,e:=3,hot:=true}]},T:=(.pair (.int .i64) (.pair (.int .i64) (.pair T9q (.pair (.int .i64) (.pair (.int .i64) Xc8))))),I:=fun st y=>taI i0 a0 y.1 y.2.1 y.2.2.1 y.2.2.2.1 y.2.2.2.2.1 y.2.2.2.2.2,μ:=fun st y=>taM i0 a0 y.1 y.2.1 y.2.2.1 y.2.2.2.1 y.2.2.2.2.1 y.2.2.2.2.2}),(16342,{kp:={hold:=[0,9],slots:=[5],boxes:=[0],rows:=[{bx:=false,s:=5,i:=0,k:=1000643,e:=3,hot:=true}]},T:=(.pair T9q (.pair (.int .i64) (.pair (.int .i64) Xc8))),I:=fun st y=>tbI i0 a0 y.1 y.2.1 y.2.2.1 y.2.2.2,μ:=fun st y=>tbM i0 a0 y.1 y.2.1 y.2.2.1 y.2.2.2})]
def Xpk.L(i0:U7q)(a0:Int):Nat→Option X0c:=fun p=>Go.Proofs.YtcfaphojdacmbaaGreatR.Bv.look p [(122,{kp:={hold:=[0],slots:=[5,6,7],boxes:=[0],rows:=[{bx:=false,s:=5,i:=0,k:=1000643,e:=3,hot:=true}]},T:=(.pair (.int .i64) (.pair (.int .i64) (.pair T9q (.pair (.int .i64) (.pair (.int .i64) Xc8))))),I:=fun st y=>inI i0 a0 y.1 y.2.1 y.2.2.1 y.2.2.2.1 y.2.2.2.2.1 y.2.2.2.2.2,μ:=fun st y=>inM i0 a0 y.1 y.2.1 y.2.2.1 y.2.2.2.1 y.2.2.2.2.1 y.2.2.2.2.2})]
def Xnk.L(i0:U7q)(a0:Int):Nat→Option X0c:=fun p=>Go.Proofs.YtcfaphojdacmbaaGreatR.Bv.look p [(250,{kp:={hold:=[0,5,6],slots:=[7,8],boxes:=[0],rows:=[{bx:=false,s:=7,i:=0,k:=1000899,e:=85,hot:=true}]},T:=(.pair (.int .i64) (.pair T9q (.pair (.int .i64) XkG))),I:=fun st y=>poI i0 a0 y.1 y.2.1 y.2.2.1 y.2.2.2.1 y.2.2.2.2,μ:=fun st y=>poM i0 a0 y.1 y.2.1 y.2.2.1 y.2.2.2.1 y.2.2.2.2})]
def X55:Con:={io:=true,I:=(.pair T9q T0q),B:=.unit,A:=(.int .i64),shA:=[.one],R:=(.list T0q),shR:=[(false,1)],fresh:=[(0,85)],pre:=fun i a=>(X4W i a),post:=fun i a y=>(X9z i a y)}
def X1O.F(i0:U7q)(a0:Int):Prop:=((X4Y (i0.1,(i0.2.1,i0.2.2)) 250)∧∀r1,(X7u (i0.1,(i0.2.1,i0.2.2)) 250 r1)→((X4Y (r1.2.1.1,(r1.2.1.2.1,r1.2.1.2.2)) a0)∧∀r2,(X7u (r1.2.1.1,(r1.2.1.2.1,r1.2.1.2.2)) a0 r2)→(eS [(0,.box 0 0)] [(0,.box 0 0)]∧((rgI i0 a0 r1.1 (wI ((1:Int)+r2.1)) r2.2.1.1 r2.2.1.2.1 r2.2.1.2.2 ([]:List (Int×Int)))∧∀(y3:(Int×(Int×((List Int)×(Int×(Int×U6q)))))),(rgI i0 a0 y3.1 y3.2.1 y3.2.2.1 y3.2.2.2.1 y3.2.2.2.2.1 y3.2.2.2.2.2)→(X02 (decide (y3.2.1>(0:Int))) ((X4Y (y3.2.2.1,(y3.2.2.2.1,y3.2.2.2.2.1)) 40)∧∀r4,(X7u (y3.2.2.1,(y3.2.2.2.1,y3.2.2.2.2.1)) 40 r4)→(List.length y3.2.2.2.2.2+List.length [(y3.1,(wI (r4.1 - (20:Int))))]≤9223372036854775807∧((List.length y3.2.2.2.2.2+List.length [(y3.1,(wI (r4.1 - (20:Int))))])*16≤140737488355328∧((X4Y (r4.2.1.1,(r4.2.1.2.1,r4.2.1.2.2)) 30)∧∀r5,(X7u (r4.2.1.1,(r4.2.1.2.1,r4.2.1.2.2)) 30 r5)→(eS [(0,.box 0 0)] [(0,.box 0 0)]∧(rgI i0 a0 (wI ((wI (y3.1+(1:Int)))+r5.1)) (wI (y3.2.1 - (1:Int))) r5.2.1.1 r5.2.1.2.1 r5.2.1.2.2 (y3.2.2.2.2.2++[(y3.1,(wI (r4.1 - (20:Int))))]))∧(rgM i0 a0 (wI ((wI (y3.1+(1:Int)))+r5.1)) (wI (y3.2.1 - (1:Int))) r5.2.1.1 r5.2.1.2.1 r5.2.1.2.2 (y3.2.2.2.2.2++[(y3.1,(wI (r4.1 - (20:Int))))]))<(rgM i0 a0 y3.1 y3.2.1 y3.2.2.1 y3.2.2.2.1 y3.2.2.2.2.1 y3.2.2.2.2.2)))))) (X9z i0 a0 (y3.2.2.2.2.2,((y3.2.2.1,(y3.2.2.2.1,y3.2.2.2.2.1)),()))))))))
def X1O.L(i0:U7q)(a0:Int):Nat→Option X0c:=fun p=>Go.Proofs.YtcfaphojdacmbaaGreatR.Bv.look p [(122,{kp:={hold:=[0],slots:=[5,6,7],boxes:=[0],rows:=[{bx:=false,s:=5,i:=0,k:=1000643,e:=85,hot:=true}]},T:=(.pair (.int .i64) (.pair (.int .i64) (.pair T9q (.pair (.int .i64) XkG)))),I:=fun st y=>rgI i0 a0 y.1 y.2.1 y.2.2.1 y.2.2.2.1 y.2.2.2.2.1 y.2.2.2.2.2,μ:=fun st y=>rgM i0 a0 y.1 y.2.1 y.2.2.1 y.2.2.2.1 y.2.2.2.2.1 y.2.2.2.2.2})]
theorem X1O.pure(i0:U7q)(a0:Int)(h:(X4W i0 a0))(hi:Wf X55.I i0)(hw:Wf X55.A a0):X1O.F i0 a0:=by
 delta X1O.F wI eS
 simp only[X4W,X4E]at h
 simp only[Bs,B0,B1,Prod.mk.injEq,X01,X7u,Xdm,XgJ,X4Y,XgE,X4E,X4W,XoC,Xoo,XoA,X9z,rgI,rgM]
 repeat' (with_reducible (first | (refine And.intro ?_ ?_) | intro _))
 all_goals (try simp (disch:=omega) only[w64,wu8,tn0,tn1,tm1,tm2,List.length_append,List.length_cons,List.length_nil]at*)
 all_goals (try simp (disch:=omega) only[w64,wu8,tn0,tn1,tm1,tm2,List.length_append,List.length_cons,List.length_nil]at*)
 all_goals (try omega)
theorem X1O.eq:EqS X55 Tryz.f83 [64] [X1N.e] [] (fun i x=>X1O.L i x) (fun i x=>X1O.F i x):=by intro i x;kernel_rfl
theorem X1O.ok:X0n Tryz.prog 83 X55:=X2j X1O.eq Tryz.func83 rfl (by kernel_rfl) fun i x h hi hw=>X1O.pure i x h (hi rfl) hw
def X1O.e:GE:=⟨83,X55,⟨_,Tryz.func83,rfl,rfl⟩,X1O.ok⟩
end Go.Proofs.YtcfaphojdacmbaaGreatR.B
