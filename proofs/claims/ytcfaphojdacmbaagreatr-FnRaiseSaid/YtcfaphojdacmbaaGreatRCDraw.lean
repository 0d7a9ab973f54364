/- Numbers that are drawn. -/
import Derived.Test.YtcfaphojdacmbaaGreatRCNewR
import Derived.Test.YtcfaphojdacmbaaGreatRCMrg
set_option maxRecDepth 100000
set_option linter.unusedVariables false
set_option linter.unusedSimpArgs false
namespace Go.Proofs.YtcfaphojdacmbaaGreatR.B
open Go Go.Proofs.YtcfaphojdacmbaaGreatR.Bv
abbrev Cur:=List Int×(Int×Int)
def X4J(c:Cur):Prop:=0≤c.2.1∧c.2.1≤9223372036854775807∧c.1.length≤9223372036854775807
def Xq6(code:List Int)(y:Cur×(Unit×Unit)):Prop:=y.1.1.length≤9223372036854775807∧y.1.2.1=0
structure nwI (code:List Int) (h i:Int):Prop where
 h1:0≤i
def nwM(code:List Int)(h i:Int):Nat:=(4000 - i).toNat
def XeV(c:Cur)(y:Int×(Cur×Unit)):Prop:=0≤y.1∧y.1≤255∧X4J y.2.1
def X4o(c:Cur)(n:Int):Prop:=X4J c
def X75(c:Cur)(n:Int)(y:Int×(Cur×Unit)):Prop:=0≤y.1∧(y.1<n∨y.1=0)∧X4J y.2.1
def XcS(c:Cur)(n:Int)(y:Bool×(Cur×Unit)):Prop:=X4J y.2.1
def Xfv(c:Cur)(l:List Int):Prop:=X4J c∧0<l.length
def XfG(c:Cur)(l:List Int)(y:Int×(Cur×Unit)):Prop:=y.1∈l∧X4J y.2.1
def Xhb(code:List Int)(most:Int)(y:Int×(Unit×Unit)):Prop:=y.1≤most
theorem Xct(x:Int):0≤IntKind.wrap .i64 (BitVec.toNat (BitVec.ofInt (IntKind.bits .i64) x&&&BitVec.ofInt (IntKind.bits .i64) (255:Int)))∧IntKind.wrap .i64 (BitVec.toNat (BitVec.ofInt (IntKind.bits .i64) x&&&BitVec.ofInt (IntKind.bits .i64) (255:Int)))≤255:=by
 have h:BitVec.toNat (BitVec.ofInt (IntKind.bits .i64) x&&&BitVec.ofInt (IntKind.bits .i64) (255:Int))≤255:=by
  rw[BitVec.toNat_and]
  exact Nat.le_trans Nat.and_le_right (by decide)
 rw[w64 (by omega) (by omega)]
 omega
def X82:Con:={I:=.unit,B:=.unit,A:=T9q,shA:=[.one],R:=(.pair T9q T0q),shR:=[(true,3)],newR:=true,pre:=fun _ _=>True,post:=fun _ a y=>(Xq6 a y)}
def X3k.F(a0:(List Int)):Prop:=(eS [(0,.val false [.lst (.int .u8) a0 none])] [(0,.val false [.lst (.int .u8) a0 none])]∧((nwI a0 (wI ((10101:Int)+(ln a0))) 0)∧∀(y1:(Int×Int)),(nwI a0 y1.1 y1.2)→(X00 (decide (y1.2<(ln a0))) (X00 (decide (y1.2<(4000:Int))) (0≤y1.2∧(y1.2<(ln a0)∧(eS [(0,.val false [.lst (.int .u8) a0 none])] [(0,.val false [.lst (.int .u8) a0 none])]∧(nwI a0 (IntKind.wrap .i64 (BitVec.toNat (BitVec.ofInt (IntKind.bits .i64) (wI ((wI ((wI (y1.1*(131:Int)))+(wI (List.getD a0 (tN y1.2) 0))))+(7:Int)))&&&BitVec.ofInt (IntKind.bits .i64) (1073741823:Int)))) (wI (y1.2+(1:Int))))∧(nwM a0 (IntKind.wrap .i64 (BitVec.toNat (BitVec.ofInt (IntKind.bits .i64) (wI ((wI ((wI (y1.1*(131:Int)))+(wI (List.getD a0 (tN y1.2) 0))))+(7:Int)))&&&BitVec.ofInt (IntKind.bits .i64) (1073741823:Int)))) (wI (y1.2+(1:Int))))<(nwM a0 y1.1 y1.2)))) (Xq6 a0 ((a0,(0,y1.1)),((),())))) (Xq6 a0 ((a0,(0,y1.1)),((),()))))))
def X3k.L(a0:(List Int)):Nat→Option X0c:=fun p=>Go.Proofs.YtcfaphojdacmbaaGreatR.Bv.look p [(58,{kp:={hold:=[0],slots:=[3,4],boxes:=[],rows:=[]},T:=T0q,I:=fun st y=>nwI a0 y.1 y.2,μ:=fun st y=>nwM a0 y.1 y.2})]
theorem X3k.pure(a0:(List Int))(h:True)(hw:Wf X82.A a0):X3k.F a0:=by
 delta X3k.F ln tN wI eS
 simp only[Bs,B0,B1,Prod.mk.injEq,X01]
 have hl:a0.length≤maxLen:=hw.1
 unfold maxLen at hl
 refine⟨⟨by omega⟩,?_⟩
 rintro⟨h,i⟩ hI
 simp only at hI ⊢
 have q1:=hI.h1
 refine⟨fun h1=>⟨fun h2=>⟨q1,h1,?_⟩,fun _=>⟨by simp only;omega,rfl⟩⟩,fun _=>⟨by simp only;omega,rfl⟩⟩
 rw[w64 (x:=i+1) (by omega) (by omega)]
 exact⟨⟨by omega⟩,by unfold nwM;omega⟩
theorem X3k.eq:EqN X82 Tryz.f79 [] [] (fun i x=>X3k.L x) (fun i x=>X3k.F x):=by intro i x;kernel_rfl
theorem X3k.ok:X0n Tryz.prog 79 X82:=okN X3k.eq Tryz.func79 rfl (by kernel_rfl) fun i x h hi hw=>X3k.pure x h hw
def X3k.e:GE:=⟨79,X82,⟨_,Tryz.func79,rfl,rfl⟩,X3k.ok⟩
def X62:Con:={io:=true,I:=(.pair T9q T0q),B:=.unit,A:=.unit,shA:=[],R:=(.int .i64),shR:=[(false,1)],pre:=fun i a=>(X4J i),post:=fun i a y=>(XeV i y)}
def X3b.F(i0:U7q):Prop:=(0≤(33:Int)∧(0≤(45:Int)∧(X00 (decide (i0.2.1<(ln i0.1))) (0≤i0.2.1∧(i0.2.1<(ln i0.1)∧(XeV i0 ((IntKind.wrap .i64 (BitVec.toNat (BitVec.ofInt (IntKind.bits .i64) (wI ((IntKind.wrap .i64 (BitVec.toNat (BitVec.ofInt (IntKind.bits .i64) (IntKind.wrap .i64 (BitVec.toNat (BitVec.ofInt (IntKind.bits .i64) (Int.fdiv (wI ((wI (i0.2.2*(6364136223846793005:Int)))+(1442695040888963407:Int))) (2 ^ (min (tN (33:Int)) (IntKind.bits .i64)))) ^^^ BitVec.ofInt (IntKind.bits .i64) (Int.fdiv (wI ((wI (i0.2.2*(6364136223846793005:Int)))+(1442695040888963407:Int))) (2 ^ (min (tN (45:Int)) (IntKind.bits .i64)))))))&&&BitVec.ofInt (IntKind.bits .i64) (255:Int))))+(wI (List.getD i0.1 (tN i0.2.1) 0))))&&&BitVec.ofInt (IntKind.bits .i64) (255:Int)))),((i0.1,((wI (i0.2.1+(1:Int))),(wI ((wI (i0.2.2*(6364136223846793005:Int)))+(1442695040888963407:Int))))),()))))) (XeV i0 ((IntKind.wrap .i64 (BitVec.toNat (BitVec.ofInt (IntKind.bits .i64) (IntKind.wrap .i64 (BitVec.toNat (BitVec.ofInt (IntKind.bits .i64) (Int.fdiv (wI ((wI (i0.2.2*(6364136223846793005:Int)))+(1442695040888963407:Int))) (2 ^ (min (tN (33:Int)) (IntKind.bits .i64)))) ^^^ BitVec.ofInt (IntKind.bits .i64) (Int.fdiv (wI ((wI (i0.2.2*(6364136223846793005:Int)))+(1442695040888963407:Int))) (2 ^ (min (tN (45:Int)) (IntKind.bits .i64)))))))&&&BitVec.ofInt (IntKind.bits .i64) (255:Int)))),((i0.1,(i0.2.1,(wI ((wI (i0.2.2*(6364136223846793005:Int)))+(1442695040888963407:Int))))),()))))))
theorem X3b.pure(i0:U7q)(h:(X4J i0))(hi:Wf X62.I i0)(hw:Wf X62.A ()):X3b.F i0:=by
 delta X3b.F ln tN wI
 simp only[Bs,B0,B1,Prod.mk.injEq,X01]
 have hl:i0.1.length≤maxLen:=(hi).1.1
 obtain⟨c1,c2,c3⟩:=h
 refine⟨by omega,by omega,fun h1=>⟨c1,h1,(Xct _).1,(Xct _).2,?_⟩,fun h1=>⟨(Xct _).1,(Xct _).2,c1,c2,c3⟩⟩
 unfold maxLen at hl
 simp only[X4J]
 rw[w64 (x:=i0.2.1+1) (by omega) (by omega)]
 omega
theorem X3b.eq:EqS X62 Tryz.f180 [3] [] [] noL (fun i x=>X3b.F i):=by intro i x;kernel_rfl
theorem X3b.ok:X0n Tryz.prog 180 X62:=X2g X3b.eq Tryz.func180 rfl (by kernel_rfl) fun i x h hi hw=>X3b.pure i h (hi rfl) hw
def X3b.e:GE:=⟨180,X62,⟨_,Tryz.func180,rfl,rfl⟩,X3b.ok⟩
def X59:Con:={io:=true,I:=(.pair T9q T0q),B:=.unit,A:=(.int .i64),shA:=[.one],R:=(.int .i64),shR:=[(false,1)],pre:=fun i a=>(X4o i a),post:=fun i a y=>(X75 i a y)}
def X1C.F(i0:U7q)(a0:Int):Prop:=(X00 (decide (a0≤(0:Int))) (X75 i0 a0 (0,((i0.1,(i0.2.1,i0.2.2)),()))) (X00 (decide (a0≤(256:Int))) ((X4J (i0.1,(i0.2.1,i0.2.2)))∧∀r1,(XeV (i0.1,(i0.2.1,i0.2.2)) r1)→(a0≠0∧(X75 i0 a0 ((Int.tmod r1.1 a0),((r1.2.1.1,(r1.2.1.2.1,r1.2.1.2.2)),()))))) ((X4J (i0.1,(i0.2.1,i0.2.2)))∧∀r2,(XeV (i0.1,(i0.2.1,i0.2.2)) r2)→((X4J (r2.2.1.1,(r2.2.1.2.1,r2.2.1.2.2)))∧∀r3,(XeV (r2.2.1.1,(r2.2.1.2.1,r2.2.1.2.2)) r3)→((X4J (r3.2.1.1,(r3.2.1.2.1,r3.2.1.2.2)))∧∀r4,(XeV (r3.2.1.1,(r3.2.1.2.1,r3.2.1.2.2)) r4)→((X4J (r4.2.1.1,(r4.2.1.2.1,r4.2.1.2.2)))∧∀r5,(XeV (r4.2.1.1,(r4.2.1.2.1,r4.2.1.2.2)) r5)→(a0≠0∧(X75 i0 a0 ((Int.tmod (wI ((wI ((wI ((wI (r2.1*(16777216:Int)))+(wI (r3.1*(65536:Int)))))+(wI (r4.1*(256:Int)))))+r5.1)) a0),((r5.2.1.1,(r5.2.1.2.1,r5.2.1.2.2)),()))))))))))
theorem X1C.pure(i0:U7q)(a0:Int)(h:(X4o i0 a0))(hi:Wf X59.I i0)(hw:Wf X59.A a0):X1C.F i0 a0:=by
 delta X1C.F wI
 simp only[Bs,B0,B1,Prod.mk.injEq,X01,Prod.eta]
 have hc:X4J i0:=h
 refine⟨fun h1=>⟨by omega,.inr rfl,hc⟩,fun h1=>⟨fun h2=>⟨hc,fun r1 q1=>⟨by omega,?_⟩⟩,fun h2=>⟨hc,fun r2 q2=>⟨q2.2.2,fun r3 q3=>⟨q3.2.2,fun r4 q4=>⟨q4.2.2,fun r5 q5=>⟨by omega,?_⟩⟩⟩⟩⟩⟩⟩
 · exact⟨Int.tmod_nonneg _ q1.1,.inl (Int.tmod_lt_of_pos _ (by omega)),q1.2.2⟩
 · obtain⟨a1,a2,_⟩:=q2
   obtain⟨b1,b2,_⟩:=q3
   obtain⟨d1,d2,_⟩:=q4
   obtain⟨e1,e2,e3⟩:=q5
   rw[w64 (x:=r2.1*16777216) (by omega) (by omega),w64 (x:=r3.1*65536) (by omega) (by omega),w64 (x:=r4.1*256) (by omega) (by omega),w64 (x:=r2.1*16777216+r3.1*65536) (by omega) (by omega),w64 (x:=r2.1*16777216+r3.1*65536+r4.1*256) (by omega) (by omega),w64 (by omega) (by omega)]
   exact⟨Int.tmod_nonneg _ (by omega),.inl (Int.tmod_lt_of_pos _ (by omega)),e3⟩
theorem X1C.eq:EqS X59 Tryz.f108 [3] [X3b.e] [] noL (fun i x=>X1C.F i x):=by intro i x;kernel_rfl
theorem X1C.ok:X0n Tryz.prog 108 X59:=X2g X1C.eq Tryz.func108 rfl (by kernel_rfl) fun i x h hi hw=>X1C.pure i x h (hi rfl) hw
def X1C.e:GE:=⟨108,X59,⟨_,Tryz.func108,rfl,rfl⟩,X1C.ok⟩
def X6a:Con:={io:=true,I:=(.pair T9q T0q),B:=.unit,A:=(.int .i64),shA:=[.one],R:=.bool,shR:=[(false,1)],pre:=fun i a=>(X4o i a),post:=fun i a y=>(XcS i a y)}
def X2b.F(i0:U7q)(a0:Int):Prop:=((X4o (i0.1,(i0.2.1,i0.2.2)) a0)∧∀r1,(X75 (i0.1,(i0.2.1,i0.2.2)) a0 r1)→(XcS i0 a0 ((r1.1==(0:Int)),((r1.2.1.1,(r1.2.1.2.1,r1.2.1.2.2)),()))))
theorem X2b.pure(i0:U7q)(a0:Int)(h:(X4o i0 a0))(hi:Wf X6a.I i0)(hw:Wf X6a.A a0):X2b.F i0 a0:=by
 unfold X2b.F
 simp only[Bs,B0,B1,Prod.mk.injEq,X01,Prod.eta]
 exact⟨h,fun r1 q1=>q1.2.2⟩
theorem X2b.eq:EqS X6a Tryz.f81 [4] [X1C.e] [] noL (fun i x=>X2b.F i x):=by intro i x;kernel_rfl
theorem X2b.ok:X0n Tryz.prog 81 X6a:=X2g X2b.eq Tryz.func81 rfl (by kernel_rfl) fun i x h hi hw=>X2b.pure i x h (hi rfl) hw
def X2b.e:GE:=⟨81,X6a,⟨_,Tryz.func81,rfl,rfl⟩,X2b.ok⟩
def X4b:Con:={io:=true,I:=(.pair T9q T0q),B:=.unit,A:=XcE,shA:=[.one],R:=(.int .i64),shR:=[(false,1)],pre:=fun i a=>(Xfv i a),post:=fun i a y=>(XfG i a y)}
def X1S.F(i0:U7q)(a0:(List Int)):Prop:=((X4o (i0.1,(i0.2.1,i0.2.2)) (ln a0))∧∀r1,(X75 (i0.1,(i0.2.1,i0.2.2)) (ln a0) r1)→(0≤r1.1∧(r1.1<(ln a0)∧(XfG i0 a0 ((List.getD a0 (tN r1.1) 0),((r1.2.1.1,(r1.2.1.2.1,r1.2.1.2.2)),()))))))
theorem X1S.pure(i0:U7q)(a0:(List Int))(h:(Xfv i0 a0))(hi:Wf X4b.I i0)(hw:Wf X4b.A a0):X1S.F i0 a0:=by
 delta X1S.F ln tN
 simp only[Bs,B0,B1,Prod.mk.injEq,X01,Prod.eta]
 obtain⟨hc,hl⟩:=h
 refine⟨hc,fun r1 q1=>?_⟩
 obtain⟨a1,a2,a3⟩:=q1
 exact⟨a1,by omega,X0S (by omega),a3⟩
theorem X1S.eq:EqS X4b Tryz.f109 [3] [X1C.e] [] noL (fun i x=>X1S.F i x):=by intro i x;kernel_rfl
theorem X1S.ok:X0n Tryz.prog 109 X4b:=X2g X1S.eq Tryz.func109 rfl (by kernel_rfl) fun i x h hi hw=>X1S.pure i x h (hi rfl) hw
def X1S.e:GE:=⟨109,X4b,⟨_,Tryz.func109,rfl,rfl⟩,X1S.ok⟩
def X7l:Con:={I:=.unit,B:=.unit,A:=(.pair T9q (.int .i64)),shA:=[.one,.one],R:=(.int .i64),shR:=[(false,1)],pre:=fun _ _=>True,post:=fun _ a y=>(Xhb a.1 a.2 y)}
def X3p.F(a0:(List Int))(a1:Int):Prop:=((20:Int)≠0∧(X00 (decide ((wI ((2:Int)+(wI (Int.tdiv (ln a0) (20:Int)))))>a1)) (Xhb a0 a1 (a1,((),()))) (Xhb a0 a1 ((wI ((2:Int)+(wI (Int.tdiv (ln a0) (20:Int))))),((),())))))
theorem X3p.pure(a0:(List Int))(a1:Int)(h:True)(hw:Wf X7l.A (a0,a1)):X3p.F a0 a1:=by
 delta X3p.F ln wI
 simp only[Bs,B0,B1,Prod.mk.injEq,X01]
 refine⟨by omega,fun h1=>?_,fun h1=>?_⟩<;>(unfold Xhb;simp only;omega)
theorem X3p.eq:EqS X7l Tryz.f86 [3] [] [] noL (fun i x=>X3p.F x.1 x.2):=by intro i x;kernel_rfl
theorem X3p.ok:X0n Tryz.prog 86 X7l:=X2g X3p.eq Tryz.func86 rfl (by kernel_rfl) fun i x h hi hw=>X3p.pure x.1 x.2 h hw
def X3p.e:GE:=⟨86,X7l,⟨_,Tryz.func86,rfl,rfl⟩,X3p.ok⟩
def X4x(c:Cur)(most:Int):Prop:=X4J c∧most≤1000
def XoC(c:Cur)(most:Int)(y:List Int×(Cur×Unit)):Prop:=0<y.1.length∧y.1.length≤1001∧X4J y.2.1
def taI(c:Cur)(most t n:Int)(b:List Int)(i h:Int)(out:List Int):Prop:=X4J (b,i,h)∧n≤1000∧0≤n∧out.length+n≤1000∧0<out.length+n
def taM(c:Cur)(most t n:Int)(b:List Int)(i h:Int)(out:List Int):Nat:=n.toNat
def tbI(c:Cur)(most:Int)(b:List Int)(i h:Int)(out:List Int):Prop:=X4J (b,i,h)∧out.length≤61
def tbM(c:Cur)(most:Int)(b:List Int)(i h:Int)(out:List Int):Nat:=61 - out.length
def XoR(c:Cur)(most:Int):Prop:=X4J c∧most≤2000
def XoI(c:Cur)(most:Int)(y:List Int×(Cur×Unit)):Prop:=0<y.1.length∧y.1.length≤2001∧X4J y.2.1
def inI(c:Cur)(most v n:Int)(b:List Int)(i h:Int)(out:List Int):Prop:=X4J (b,i,h)∧n≤2000∧0≤n∧out.length+n≤2000∧0<out.length+n
def inM(c:Cur)(most v n:Int)(b:List Int)(i h:Int)(out:List Int):Nat:=n.toNat
def X9U(c:Cur)(most:Int)(y:List Pt×(Cur×Unit)):Prop:=y.1.length≤1001∧X4J y.2.1
def poI(c:Cur)(most i:Int)(b:List Int)(k h:Int)(out:List Pt):Prop:=X4J (b,k,h)∧0≤i∧i≤1001∧out.length=i
def poM(c:Cur)(most i:Int)(b:List Int)(k h:Int)(out:List Pt):Nat:=(1001 - i).toNat
def rgI(c:Cur)(most t n:Int)(b:List Int)(i h:Int)(out:List Pt):Prop:=X4J (b,i,h)∧n≤1000∧0≤n∧out.length+n≤1000
def rgM(c:Cur)(most t n:Int)(b:List Int)(i h:Int)(out:List Pt):Nat:=n.toNat
def Xou.L(i0:U7q)(a0:Int):Nat→Option X0c:=fun p=>Go.Proofs.YtcfaphojdacmbaaGreatR.Bv.look p [(506,{kp:={hold:=[0,7],slots:=[5,6,8],boxes:=[0],rows:=[{bx:=false,s:=5,i:=0,k:=1000643,e:=3,hot:=true}]},T:=(.pair (.int .i64) (.pair (.int .i64) (.pair T9q (.pair (.int .i64) (.pair (.int .i64) XcE))))),I:=fun st y=>taI i0 a0 y.1 y.2.1 y.2.2.1 y.2.2.2.1 y.2.2.2.2.1 y.2.2.2.2.2,μ:=fun st y=>taM i0 a0 y.1 y.2.1 y.2.2.1 y.2.2.2.1 y.2.2.2.2.1 y.2.2.2.2.2}),(16342,{kp:={hold:=[0,9],slots:=[5],boxes:=[0],rows:=[{bx:=false,s:=5,i:=0,k:=1000643,e:=3,hot:=true}]},T:=(.pair T9q (.pair (.int .i64) (.pair (.int .i64) XcE))),I:=fun st y=>tbI i0 a0 y.1 y.2.1 y.2.2.1 y.2.2.2,μ:=fun st y=>tbM i0 a0 y.1 y.2.1 y.2.2.1 y.2.2.2})]
def Xpo.L(i0:U7q)(a0:Int):Nat→Option X0c:=fun p=>Go.Proofs.YtcfaphojdacmbaaGreatR.Bv.look p [(122,{kp:={hold:=[0],slots:=[5,6,7],boxes:=[0],rows:=[{bx:=false,s:=5,i:=0,k:=1000643,e:=3,hot:=true}]},T:=(.pair (.int .i64) (.pair (.int .i64) (.pair T9q (.pair (.int .i64) (.pair (.int .i64) XcE))))),I:=fun st y=>inI i0 a0 y.1 y.2.1 y.2.2.1 y.2.2.2.1 y.2.2.2.2.1 y.2.2.2.2.2,μ:=fun st y=>inM i0 a0 y.1 y.2.1 y.2.2.1 y.2.2.2.1 y.2.2.2.2.1 y.2.2.2.2.2})]
def XnA.L(i0:U7q)(a0:Int):Nat→Option X0c:=fun p=>Go.Proofs.YtcfaphojdacmbaaGreatR.Bv.look p [(250,{kp:={hold:=[0,5,6],slots:=[7,8],boxes:=[0],rows:=[{bx:=false,s:=7,i:=0,k:=1000899,e:=85,hot:=true}]},T:=(.pair (.int .i64) (.pair T9q (.pair (.int .i64) XkR))),I:=fun st y=>poI i0 a0 y.1 y.2.1 y.2.2.1 y.2.2.2.1 y.2.2.2.2,μ:=fun st y=>poM i0 a0 y.1 y.2.1 y.2.2.1 y.2.2.2.1 y.2.2.2.2})]
def X5a:Con:={io:=true,I:=(.pair T9q T0q),B:=.unit,A:=(.int .i64),shA:=[.one],R:=Xar,shR:=[(false,1)],fresh:=[(0,85)],pre:=fun i a=>(X4x i a),post:=fun i a y=>(X9U i a y)}
def X1N.F(i0:U7q)(a0:Int):Prop:=((X4o (i0.1,(i0.2.1,i0.2.2)) 250)∧∀r1,(X75 (i0.1,(i0.2.1,i0.2.2)) 250 r1)→((X4o (r1.2.1.1,(r1.2.1.2.1,r1.2.1.2.2)) a0)∧∀r2,(X75 (r1.2.1.1,(r1.2.1.2.1,r1.2.1.2.2)) a0 r2)→(eS [(0,.box 0 0)] [(0,.box 0 0)]∧((rgI i0 a0 r1.1 (wI ((1:Int)+r2.1)) r2.2.1.1 r2.2.1.2.1 r2.2.1.2.2 ([]:List (Int×Int)))∧∀(y3:(Int×(Int×((List Int)×(Int×(Int×U6q)))))),(rgI i0 a0 y3.1 y3.2.1 y3.2.2.1 y3.2.2.2.1 y3.2.2.2.2.1 y3.2.2.2.2.2)→(X00 (decide (y3.2.1>(0:Int))) ((X4o (y3.2.2.1,(y3.2.2.2.1,y3.2.2.2.2.1)) 40)∧∀r4,(X75 (y3.2.2.1,(y3.2.2.2.1,y3.2.2.2.2.1)) 40 r4)→(List.length y3.2.2.2.2.2+List.length [(y3.1,(wI (r4.1 - (20:Int))))]≤9223372036854775807∧((List.length y3.2.2.2.2.2+List.length [(y3.1,(wI (r4.1 - (20:Int))))])*16≤140737488355328∧((X4o (r4.2.1.1,(r4.2.1.2.1,r4.2.1.2.2)) 30)∧∀r5,(X75 (r4.2.1.1,(r4.2.1.2.1,r4.2.1.2.2)) 30 r5)→(eS [(0,.box 0 0)] [(0,.box 0 0)]∧(rgI i0 a0 (wI ((wI (y3.1+(1:Int)))+r5.1)) (wI (y3.2.1 - (1:Int))) r5.2.1.1 r5.2.1.2.1 r5.2.1.2.2 (y3.2.2.2.2.2++[(y3.1,(wI (r4.1 - (20:Int))))]))∧(rgM i0 a0 (wI ((wI (y3.1+(1:Int)))+r5.1)) (wI (y3.2.1 - (1:Int))) r5.2.1.1 r5.2.1.2.1 r5.2.1.2.2 (y3.2.2.2.2.2++[(y3.1,(wI (r4.1 - (20:Int))))]))<(rgM i0 a0 y3.1 y3.2.1 y3.2.2.1 y3.2.2.2.1 y3.2.2.2.2.1 y3.2.2.2.2.2)))))) (X9U i0 a0 (y3.2.2.2.2.2,((y3.2.2.1,(y3.2.2.2.1,y3.2.2.2.2.1)),()))))))))
def X1N.L(i0:U7q)(a0:Int):Nat→Option X0c:=fun p=>Go.Proofs.YtcfaphojdacmbaaGreatR.Bv.look p [(122,{kp:={hold:=[0],slots:=[5,6,7],boxes:=[0],rows:=[{bx:=false,s:=5,i:=0,k:=1000643,e:=85,hot:=true}]},T:=(.pair (.int .i64) (.pair (.int .i64) (.pair T9q (.pair (.int .i64) XkR)))),I:=fun st y=>rgI i0 a0 y.1 y.2.1 y.2.2.1 y.2.2.2.1 y.2.2.2.2.1 y.2.2.2.2.2,μ:=fun st y=>rgM i0 a0 y.1 y.2.1 y.2.2.1 y.2.2.2.1 y.2.2.2.2.1 y.2.2.2.2.2})]
theorem X1N.pure(i0:U7q)(a0:Int)(h:(X4x i0 a0))(hi:Wf X5a.I i0)(hw:Wf X5a.A a0):X1N.F i0 a0:=by
 delta X1N.F wI eS
 simp only[X4x,X4J]at h
 simp only[Bs,B0,B1,Prod.mk.injEq,X01,X75,XcS,XfG,X4o,Xfv,X4J,X4x,XoC,XoR,XoI,X9U,rgI,rgM]
 repeat' (with_reducible (first | (refine And.intro ?_ ?_) | intro _))
 all_goals (try simp (disch:=omega) only[w64,wu8,tn0,tn1,tm1,tm2,List.length_append,List.length_cons,List.length_nil]at*)
 all_goals (try simp (disch:=omega) only[w64,wu8,tn0,tn1,tm1,tm2,List.length_append,List.length_cons,List.length_nil]at*)
 all_goals (try omega)
theorem X1N.eq:EqS X5a Tryz.f83 [64] [X1C.e] [] (fun i x=>X1N.L i x) (fun i x=>X1N.F i x):=by intro i x;kernel_rfl
theorem X1N.ok:X0n Tryz.prog 83 X5a:=X2g X1N.eq Tryz.func83 rfl (by kernel_rfl) fun i x h hi hw=>X1N.pure i x h (hi rfl) hw
def X1N.e:GE:=⟨83,X5a,⟨_,Tryz.func83,rfl,rfl⟩,X1N.ok⟩
end Go.Proofs.YtcfaphojdacmbaaGreatR.B
