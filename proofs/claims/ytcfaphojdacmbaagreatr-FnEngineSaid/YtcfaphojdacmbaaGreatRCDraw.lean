/- Numbers that are drawn. -/
import Derived.Test.YtcfaphojdacmbaaGreatRCNewR
import Derived.Test.YtcfaphojdacmbaaGreatRCMrg
set_option maxRecDepth 100000
set_option linter.unusedVariables false
set_option linter.unusedSimpArgs false
namespace Go.Proofs.YtcfaphojdacmbaaGreatR.B
open Go Go.Proofs.YtcfaphojdacmbaaGreatR.Bv
abbrev Cur:=List Int×(Int×Int)
def X4v(c:Cur):Prop:=0≤c.2.1∧c.2.1≤9223372036854775807∧c.1.length≤9223372036854775807
def Xqv(code:List Int)(y:Cur×(Unit×Unit)):Prop:=y.1.1.length≤9223372036854775807∧y.1.2.1=0
structure nwI (code:List Int) (h i:Int):Prop where
 h1:0≤i
def nwM(code:List Int)(h i:Int):Nat:=(4000 - i).toNat
def Xfi(c:Cur)(y:Int×(Cur×Unit)):Prop:=0≤y.1∧y.1≤255∧X4v y.2.1
def X0E(c:Cur)(n:Int):Prop:=X4v c
def X3n(c:Cur)(n:Int)(y:Int×(Cur×Unit)):Prop:=0≤y.1∧(y.1<n∨y.1=0)∧X4v y.2.1
def X4n(c:Cur)(n:Int)(y:Bool×(Cur×Unit)):Prop:=X4v y.2.1
def Xaa(c:Cur)(l:List Int):Prop:=X4v c∧0<l.length
def Xa1(c:Cur)(l:List Int)(y:Int×(Cur×Unit)):Prop:=y.1∈l∧X4v y.2.1
def X8g(code:List Int)(most:Int)(y:Int×(Unit×Unit)):Prop:=y.1≤most
theorem Xd5(x:Int):0≤IntKind.wrap .i64 (BitVec.toNat (BitVec.ofInt (IntKind.bits .i64) x&&&BitVec.ofInt (IntKind.bits .i64) (255:Int)))∧IntKind.wrap .i64 (BitVec.toNat (BitVec.ofInt (IntKind.bits .i64) x&&&BitVec.ofInt (IntKind.bits .i64) (255:Int)))≤255:=by
 have h:BitVec.toNat (BitVec.ofInt (IntKind.bits .i64) x&&&BitVec.ofInt (IntKind.bits .i64) (255:Int))≤255:=by
  rw[BitVec.toNat_and]
  exact Nat.le_trans Nat.and_le_right (by decide)
 rw[w64 (by omega) (by omega)]
 omega
def X8F:Con:={I:=.unit,B:=.unit,A:=T8q,shA:=[.one],R:=Xgs,shR:=[(true,3)],newR:=true,pre:=fun _ _=>True,post:=fun _ a y=>(Xqv a y)}
def X3u.F(a0:(List Int)):Prop:=(eS [(0,.val false [.lst (.int .u8) a0 none])] [(0,.val false [.lst (.int .u8) a0 none])]∧((nwI a0 (wI ((10101:Int)+(ln a0))) 0)∧∀(y1:(Int×Int)),(nwI a0 y1.1 y1.2)→(X00 (decide (y1.2<(ln a0))) (X00 (decide (y1.2<(4000:Int))) (0≤y1.2∧(y1.2<(ln a0)∧(eS [(0,.val false [.lst (.int .u8) a0 none])] [(0,.val false [.lst (.int .u8) a0 none])]∧(nwI a0 (IntKind.wrap .i64 (BitVec.toNat (BitVec.ofInt (IntKind.bits .i64) (wI ((wI ((wI (y1.1*(131:Int)))+(wI (List.getD a0 (tN y1.2) 0))))+(7:Int)))&&&BitVec.ofInt (IntKind.bits .i64) (1073741823:Int)))) (wI (y1.2+(1:Int))))∧(nwM a0 (IntKind.wrap .i64 (BitVec.toNat (BitVec.ofInt (IntKind.bits .i64) (wI ((wI ((wI (y1.1*(131:Int)))+(wI (List.getD a0 (tN y1.2) 0))))+(7:Int)))&&&BitVec.ofInt (IntKind.bits .i64) (1073741823:Int)))) (wI (y1.2+(1:Int))))<(nwM a0 y1.1 y1.2)))) (Xqv a0 ((a0,(0,y1.1)),((),())))) (Xqv a0 ((a0,(0,y1.1)),((),()))))))
def X3u.L(a0:(List Int)):Nat→Option X0d:=fun p=>Go.Proofs.YtcfaphojdacmbaaGreatR.Bv.look p [(58,{kp:={hold:=[0],slots:=[3,4],boxes:=[],rows:=[]},T:=T0q,I:=fun st y=>nwI a0 y.1 y.2,μ:=fun st y=>nwM a0 y.1 y.2})]
theorem X3u.pure(a0:(List Int))(h:True)(hw:Wf X8F.A a0):X3u.F a0:=by
 delta X3u.F ln tN wI eS
 simp only[Bs,B0,B1,Prod.mk.injEq,X01]
 have hl:a0.length≤maxLen:=hw.1
 unfold maxLen at hl
 refine⟨⟨by omega⟩,?_⟩
 rintro⟨h,i⟩ hI
 simp only at hI ⊢
 have q1:=hI.h1
 refine⟨fun h1=>⟨fun h2=>⟨q1,h1,?_⟩,fun _=>⟨by simp only;omega,rfl⟩⟩,fun _=>⟨by simp only;omega,rfl⟩⟩
 rw[w64 (x:=i+1) (by omega) (by omega)]
 exact⟨⟨by omega⟩,by unfold nwM;omega⟩
theorem X3u.eq:EqN X8F Tryz.f79 [] [] (fun i x=>X3u.L x) (fun i x=>X3u.F x):=by intro i x;kernel_rfl
theorem X3u.ok:X0l Tryz.prog 79 X8F:=okN X3u.eq Tryz.func79 rfl (by kernel_rfl) fun i x h hi hw=>X3u.pure x h hw
def X3u.e:GE:=⟨79,X8F,⟨_,Tryz.func79,rfl,rfl⟩,X3u.ok⟩
def X6r:Con:={io:=true,I:=Xgs,B:=.unit,A:=.unit,shA:=[],R:=(.int .i64),shR:=[(false,1)],pre:=fun i a=>(X4v i),post:=fun i a y=>(Xfi i y)}
def X3k.F(i0:U7q):Prop:=(0≤(33:Int)∧(0≤(45:Int)∧(X00 (decide (i0.2.1<(ln i0.1))) (0≤i0.2.1∧(i0.2.1<(ln i0.1)∧(Xfi i0 ((IntKind.wrap .i64 (BitVec.toNat (BitVec.ofInt (IntKind.bits .i64) (wI ((IntKind.wrap .i64 (BitVec.toNat (BitVec.ofInt (IntKind.bits .i64) (IntKind.wrap .i64 (BitVec.toNat (BitVec.ofInt (IntKind.bits .i64) (Int.fdiv (wI ((wI (i0.2.2*(6364136223846793005:Int)))+(1442695040888963407:Int))) (2 ^ (min (tN (33:Int)) (IntKind.bits .i64)))) ^^^ BitVec.ofInt (IntKind.bits .i64) (Int.fdiv (wI ((wI (i0.2.2*(6364136223846793005:Int)))+(1442695040888963407:Int))) (2 ^ (min (tN (45:Int)) (IntKind.bits .i64)))))))&&&BitVec.ofInt (IntKind.bits .i64) (255:Int))))+(wI (List.getD i0.1 (tN i0.2.1) 0))))&&&BitVec.ofInt (IntKind.bits .i64) (255:Int)))),((i0.1,((wI (i0.2.1+(1:Int))),(wI ((wI (i0.2.2*(6364136223846793005:Int)))+(1442695040888963407:Int))))),()))))) (Xfi i0 ((IntKind.wrap .i64 (BitVec.toNat (BitVec.ofInt (IntKind.bits .i64) (IntKind.wrap .i64 (BitVec.toNat (BitVec.ofInt (IntKind.bits .i64) (Int.fdiv (wI ((wI (i0.2.2*(6364136223846793005:Int)))+(1442695040888963407:Int))) (2 ^ (min (tN (33:Int)) (IntKind.bits .i64)))) ^^^ BitVec.ofInt (IntKind.bits .i64) (Int.fdiv (wI ((wI (i0.2.2*(6364136223846793005:Int)))+(1442695040888963407:Int))) (2 ^ (min (tN (45:Int)) (IntKind.bits .i64)))))))&&&BitVec.ofInt (IntKind.bits .i64) (255:Int)))),((i0.1,(i0.2.1,(wI ((wI (i0.2.2*(6364136223846793005:Int)))+(1442695040888963407:Int))))),()))))))
theorem X3k.pure(i0:U7q)(h:(X4v i0))(hi:Wf X6r.I i0)(hw:Wf X6r.A ()):X3k.F i0:=by
 delta X3k.F ln tN wI
 simp only[Bs,B0,B1,Prod.mk.injEq,X01]
 have hl:i0.1.length≤maxLen:=(hi).1.1
 obtain⟨c1,c2,c3⟩:=h
 refine⟨by omega,by omega,fun h1=>⟨c1,h1,(Xd5 _).1,(Xd5 _).2,?_⟩,fun h1=>⟨(Xd5 _).1,(Xd5 _).2,c1,c2,c3⟩⟩
 unfold maxLen at hl
 simp only[X4v]
 rw[w64 (x:=i0.2.1+1) (by omega) (by omega)]
 omega
theorem X3k.eq:EqS X6r Tryz.f180 [3] [] [] noL (fun i x=>X3k.F i):=by intro i x;kernel_rfl
theorem X3k.ok:X0l Tryz.prog 180 X6r:=X2b X3k.eq Tryz.func180 rfl (by kernel_rfl) fun i x h hi hw=>X3k.pure i h (hi rfl) hw
def X3k.e:GE:=⟨180,X6r,⟨_,Tryz.func180,rfl,rfl⟩,X3k.ok⟩
def X5t:Con:={io:=true,I:=Xgs,B:=.unit,A:=(.int .i64),shA:=[.one],R:=(.int .i64),shR:=[(false,1)],pre:=fun i a=>(X0E i a),post:=fun i a y=>(X3n i a y)}
def X1n.F(i0:U7q)(a0:Int):Prop:=(X00 (decide (a0≤(0:Int))) (X3n i0 a0 (0,((i0.1,(i0.2.1,i0.2.2)),()))) (X00 (decide (a0≤(256:Int))) ((X4v (i0.1,(i0.2.1,i0.2.2)))∧∀r1,(Xfi (i0.1,(i0.2.1,i0.2.2)) r1)→(a0≠0∧(X3n i0 a0 ((Int.tmod r1.1 a0),((r1.2.1.1,(r1.2.1.2.1,r1.2.1.2.2)),()))))) ((X4v (i0.1,(i0.2.1,i0.2.2)))∧∀r2,(Xfi (i0.1,(i0.2.1,i0.2.2)) r2)→((X4v (r2.2.1.1,(r2.2.1.2.1,r2.2.1.2.2)))∧∀r3,(Xfi (r2.2.1.1,(r2.2.1.2.1,r2.2.1.2.2)) r3)→((X4v (r3.2.1.1,(r3.2.1.2.1,r3.2.1.2.2)))∧∀r4,(Xfi (r3.2.1.1,(r3.2.1.2.1,r3.2.1.2.2)) r4)→((X4v (r4.2.1.1,(r4.2.1.2.1,r4.2.1.2.2)))∧∀r5,(Xfi (r4.2.1.1,(r4.2.1.2.1,r4.2.1.2.2)) r5)→(a0≠0∧(X3n i0 a0 ((Int.tmod (wI ((wI ((wI ((wI (r2.1*(16777216:Int)))+(wI (r3.1*(65536:Int)))))+(wI (r4.1*(256:Int)))))+r5.1)) a0),((r5.2.1.1,(r5.2.1.2.1,r5.2.1.2.2)),()))))))))))
theorem X1n.pure(i0:U7q)(a0:Int)(h:(X0E i0 a0))(hi:Wf X5t.I i0)(hw:Wf X5t.A a0):X1n.F i0 a0:=by
 delta X1n.F wI
 simp only[Bs,B0,B1,Prod.mk.injEq,X01,Prod.eta]
 have hc:X4v i0:=h
 refine⟨fun h1=>⟨by omega,.inr rfl,hc⟩,fun h1=>⟨fun h2=>⟨hc,fun r1 q1=>⟨by omega,?_⟩⟩,fun h2=>⟨hc,fun r2 q2=>⟨q2.2.2,fun r3 q3=>⟨q3.2.2,fun r4 q4=>⟨q4.2.2,fun r5 q5=>⟨by omega,?_⟩⟩⟩⟩⟩⟩⟩
 · exact⟨Int.tmod_nonneg _ q1.1,.inl (Int.tmod_lt_of_pos _ (by omega)),q1.2.2⟩
 · obtain⟨a1,a2,_⟩:=q2
   obtain⟨b1,b2,_⟩:=q3
   obtain⟨d1,d2,_⟩:=q4
   obtain⟨e1,e2,e3⟩:=q5
   rw[w64 (x:=r2.1*16777216) (by omega) (by omega),w64 (x:=r3.1*65536) (by omega) (by omega),w64 (x:=r4.1*256) (by omega) (by omega),w64 (x:=r2.1*16777216+r3.1*65536) (by omega) (by omega),w64 (x:=r2.1*16777216+r3.1*65536+r4.1*256) (by omega) (by omega),w64 (by omega) (by omega)]
   exact⟨Int.tmod_nonneg _ (by omega),.inl (Int.tmod_lt_of_pos _ (by omega)),e3⟩
theorem X1n.eq:EqS X5t Tryz.f108 [3] [X3k.e] [] noL (fun i x=>X1n.F i x):=by intro i x;kernel_rfl
theorem X1n.ok:X0l Tryz.prog 108 X5t:=X2b X1n.eq Tryz.func108 rfl (by kernel_rfl) fun i x h hi hw=>X1n.pure i x h (hi rfl) hw
def X1n.e:GE:=⟨108,X5t,⟨_,Tryz.func108,rfl,rfl⟩,X1n.ok⟩
def X6e:Con:={io:=true,I:=Xgs,B:=.unit,A:=(.int .i64),shA:=[.one],R:=.bool,shR:=[(false,1)],pre:=fun i a=>(X0E i a),post:=fun i a y=>(X4n i a y)}
def X1U.F(i0:U7q)(a0:Int):Prop:=((X0E (i0.1,(i0.2.1,i0.2.2)) a0)∧∀r1,(X3n (i0.1,(i0.2.1,i0.2.2)) a0 r1)→(X4n i0 a0 ((r1.1==(0:Int)),((r1.2.1.1,(r1.2.1.2.1,r1.2.1.2.2)),()))))
theorem X1U.pure(i0:U7q)(a0:Int)(h:(X0E i0 a0))(hi:Wf X6e.I i0)(hw:Wf X6e.A a0):X1U.F i0 a0:=by
 unfold X1U.F
 simp only[Bs,B0,B1,Prod.mk.injEq,X01,Prod.eta]
 exact⟨h,fun r1 q1=>q1.2.2⟩
theorem X1U.eq:EqS X6e Tryz.f81 [4] [X1n.e] [] noL (fun i x=>X1U.F i x):=by intro i x;kernel_rfl
theorem X1U.ok:X0l Tryz.prog 81 X6e:=X2b X1U.eq Tryz.func81 rfl (by kernel_rfl) fun i x h hi hw=>X1U.pure i x h (hi rfl) hw
def X1U.e:GE:=⟨81,X6e,⟨_,Tryz.func81,rfl,rfl⟩,X1U.ok⟩
def X4t:Con:={io:=true,I:=Xgs,B:=.unit,A:=Xc7,shA:=[.one],R:=(.int .i64),shR:=[(false,1)],pre:=fun i a=>(Xaa i a),post:=fun i a y=>(Xa1 i a y)}
def X1C.F(i0:U7q)(a0:(List Int)):Prop:=((X0E (i0.1,(i0.2.1,i0.2.2)) (ln a0))∧∀r1,(X3n (i0.1,(i0.2.1,i0.2.2)) (ln a0) r1)→(0≤r1.1∧(r1.1<(ln a0)∧(Xa1 i0 a0 ((List.getD a0 (tN r1.1) 0),((r1.2.1.1,(r1.2.1.2.1,r1.2.1.2.2)),()))))))
theorem X1C.pure(i0:U7q)(a0:(List Int))(h:(Xaa i0 a0))(hi:Wf X4t.I i0)(hw:Wf X4t.A a0):X1C.F i0 a0:=by
 delta X1C.F ln tN
 simp only[Bs,B0,B1,Prod.mk.injEq,X01,Prod.eta]
 obtain⟨hc,hl⟩:=h
 refine⟨hc,fun r1 q1=>?_⟩
 obtain⟨a1,a2,a3⟩:=q1
 exact⟨a1,by omega,X14 (by omega),a3⟩
theorem X1C.eq:EqS X4t Tryz.f109 [3] [X1n.e] [] noL (fun i x=>X1C.F i x):=by intro i x;kernel_rfl
theorem X1C.ok:X0l Tryz.prog 109 X4t:=X2b X1C.eq Tryz.func109 rfl (by kernel_rfl) fun i x h hi hw=>X1C.pure i x h (hi rfl) hw
def X1C.e:GE:=⟨109,X4t,⟨_,Tryz.func109,rfl,rfl⟩,X1C.ok⟩
def X7N:Con:={I:=.unit,B:=.unit,A:=(.pair T8q (.int .i64)),shA:=[.one,.one],R:=(.int .i64),shR:=[(false,1)],pre:=fun _ _=>True,post:=fun _ a y=>(X8g a.1 a.2 y)}
def X3F.F(a0:(List Int))(a1:Int):Prop:=((20:Int)≠0∧(X00 (decide ((wI ((2:Int)+(wI (Int.tdiv (ln a0) (20:Int)))))>a1)) (X8g a0 a1 (a1,((),()))) (X8g a0 a1 ((wI ((2:Int)+(wI (Int.tdiv (ln a0) (20:Int))))),((),())))))
theorem X3F.pure(a0:(List Int))(a1:Int)(h:True)(hw:Wf X7N.A (a0,a1)):X3F.F a0 a1:=by
 delta X3F.F ln wI
 simp only[Bs,B0,B1,Prod.mk.injEq,X01]
 refine⟨by omega,fun h1=>?_,fun h1=>?_⟩<;>(unfold X8g;simp only;omega)
theorem X3F.eq:EqS X7N Tryz.f86 [3] [] [] noL (fun i x=>X3F.F x.1 x.2):=by intro i x;kernel_rfl
theorem X3F.ok:X0l Tryz.prog 86 X7N:=X2b X3F.eq Tryz.func86 rfl (by kernel_rfl) fun i x h hi hw=>X3F.pure x.1 x.2 h hw
def X3F.e:GE:=⟨86,X7N,⟨_,Tryz.func86,rfl,rfl⟩,X3F.ok⟩
def X1v(c:Cur)(most:Int):Prop:=X4v c∧most≤1000
def X82(c:Cur)(most:Int)(y:List Int×(Cur×Unit)):Prop:=0<y.1.length∧y.1.length≤1001∧X4v y.2.1
def taI(c:Cur)(most t n:Int)(b:List Int)(i h:Int)(out:List Int):Prop:=X4v (b,i,h)∧n≤1000∧0≤n∧out.length+n≤1000∧0<out.length+n
def taM(c:Cur)(most t n:Int)(b:List Int)(i h:Int)(out:List Int):Nat:=n.toNat
def tbI(c:Cur)(most:Int)(b:List Int)(i h:Int)(out:List Int):Prop:=X4v (b,i,h)∧out.length≤61
def tbM(c:Cur)(most:Int)(b:List Int)(i h:Int)(out:List Int):Nat:=61 - out.length
def XbK(c:Cur)(most:Int):Prop:=X4v c∧most≤2000
def Xd3(c:Cur)(most:Int)(y:List Int×(Cur×Unit)):Prop:=0<y.1.length∧y.1.length≤2001∧X4v y.2.1
def inI(c:Cur)(most v n:Int)(b:List Int)(i h:Int)(out:List Int):Prop:=X4v (b,i,h)∧n≤2000∧0≤n∧out.length+n≤2000∧0<out.length+n
def inM(c:Cur)(most v n:Int)(b:List Int)(i h:Int)(out:List Int):Nat:=n.toNat
def X4W(c:Cur)(most:Int)(y:List Pt×(Cur×Unit)):Prop:=y.1.length≤1001∧X4v y.2.1
def poI(c:Cur)(most i:Int)(b:List Int)(k h:Int)(out:List Pt):Prop:=X4v (b,k,h)∧0≤i∧i≤1001∧out.length=i
def poM(c:Cur)(most i:Int)(b:List Int)(k h:Int)(out:List Pt):Nat:=(1001 - i).toNat
def rgI(c:Cur)(most t n:Int)(b:List Int)(i h:Int)(out:List Pt):Prop:=X4v (b,i,h)∧n≤1000∧0≤n∧out.length+n≤1000
def rgM(c:Cur)(most t n:Int)(b:List Int)(i h:Int)(out:List Pt):Nat:=n.toNat
def X5q:Con:={io:=true,I:=Xgs,B:=.unit,A:=(.int .i64),shA:=[.one],R:=Xc7,shR:=[(false,1)],pre:=fun i a=>(X1v i a),post:=fun i a y=>(X82 i a y)}
def X2n.F(i0:U7q)(a0:Int):Prop:=((X0E (i0.1,(i0.2.1,i0.2.2)) 400)∧∀r1,(X3n (i0.1,(i0.2.1,i0.2.2)) 400 r1)→((X0E (r1.2.1.1,(r1.2.1.2.1,r1.2.1.2.2)) 12)∧∀r2,(X4n (r1.2.1.1,(r1.2.1.2.1,r1.2.1.2.2)) 12 r2)→(X00 r2.1 ((X0E (r2.2.1.1,(r2.2.1.2.1,r2.2.1.2.2)) 300)∧∀r3,(X3n (r2.2.1.1,(r2.2.1.2.1,r2.2.1.2.2)) 300 r3)→((X0E (r3.2.1.1,(r3.2.1.2.1,r3.2.1.2.2)) 40)∧∀r4,(X3n (r3.2.1.1,(r3.2.1.2.1,r3.2.1.2.2)) 40 r4)→((X0E (r4.2.1.1,(r4.2.1.2.1,r4.2.1.2.2)) a0)∧∀r5,(X3n (r4.2.1.1,(r4.2.1.2.1,r4.2.1.2.2)) a0 r5)→(eS [(0,.box 0 0),(7,.val false [.int .i64 (wI ((1:Int)+r4.1))])] [(0,.box 0 0),(7,.val false [.int .i64 (wI ((1:Int)+r4.1))])]∧((taI i0 a0 (wI ((1099511627776:Int) - r3.1)) (wI ((1:Int)+r5.1)) r5.2.1.1 r5.2.1.2.1 r5.2.1.2.2 ([]:List Int))∧∀(y6:(Int×(Int×XoW))),(taI i0 a0 y6.1 y6.2.1 y6.2.2.1 y6.2.2.2.1 y6.2.2.2.2.1 y6.2.2.2.2.2)→(X00 (decide (y6.2.1>(0:Int))) (List.length y6.2.2.2.2.2+List.length [y6.1]≤9223372036854775807∧((List.length y6.2.2.2.2.2+List.length [y6.1])*8≤140737488355328∧((X0E (y6.2.2.1,(y6.2.2.2.1,y6.2.2.2.2.1)) 3)∧∀r7,(X4n (y6.2.2.1,(y6.2.2.2.1,y6.2.2.2.2.1)) 3 r7)→(X00 r7.1 ((X0E (r7.2.1.1,(r7.2.1.2.1,r7.2.1.2.2)) 60)∧∀r8,(X3n (r7.2.1.1,(r7.2.1.2.1,r7.2.1.2.2)) 60 r8)→(eS [(0,.box 0 0),(7,.val false [.int .i64 (wI ((1:Int)+r4.1))])] [(0,.box 0 0),(7,.val false [.int .i64 (wI ((1:Int)+r4.1))])]∧(taI i0 a0 (wI ((wI (y6.1+(wI ((1:Int)+r4.1))))+r8.1)) (wI (y6.2.1 - (1:Int))) r8.2.1.1 r8.2.1.2.1 r8.2.1.2.2 (y6.2.2.2.2.2++[y6.1]))∧(taM i0 a0 (wI ((wI (y6.1+(wI ((1:Int)+r4.1))))+r8.1)) (wI (y6.2.1 - (1:Int))) r8.2.1.1 r8.2.1.2.1 r8.2.1.2.2 (y6.2.2.2.2.2++[y6.1]))<(taM i0 a0 y6.1 y6.2.1 y6.2.2.1 y6.2.2.2.1 y6.2.2.2.2.1 y6.2.2.2.2.2))) (eS [(0,.box 0 0),(7,.val false [.int .i64 (wI ((1:Int)+r4.1))])] [(0,.box 0 0),(7,.val false [.int .i64 (wI ((1:Int)+r4.1))])]∧(taI i0 a0 (wI (y6.1+(wI ((1:Int)+r4.1)))) (wI (y6.2.1 - (1:Int))) r7.2.1.1 r7.2.1.2.1 r7.2.1.2.2 (y6.2.2.2.2.2++[y6.1]))∧(taM i0 a0 (wI (y6.1+(wI ((1:Int)+r4.1)))) (wI (y6.2.1 - (1:Int))) r7.2.1.1 r7.2.1.2.1 r7.2.1.2.2 (y6.2.2.2.2.2++[y6.1]))<(taM i0 a0 y6.1 y6.2.1 y6.2.2.1 y6.2.2.2.1 y6.2.2.2.2.1 y6.2.2.2.2.2)))))) ((X0E (y6.2.2.1,(y6.2.2.2.1,y6.2.2.2.2.1)) 10)∧∀r9,(X4n (y6.2.2.1,(y6.2.2.2.1,y6.2.2.2.2.1)) 10 r9)→(X00 r9.1 ((Xaa (r9.2.1.1,(r9.2.1.2.1,r9.2.1.2.2)) [(-1),0,1099511627776,1099511627777,100])∧∀r10,(Xa1 (r9.2.1.1,(r9.2.1.2.1,r9.2.1.2.2)) [(-1),0,1099511627776,1099511627777,100] r10)→(0≤(wI ((ln y6.2.2.2.2.2) - (1:Int)))∧((wI ((ln y6.2.2.2.2.2) - (1:Int)))<(ln y6.2.2.2.2.2)∧((X0E (r10.2.1.1,(r10.2.1.2.1,r10.2.1.2.2)) 40)∧∀r11,(X4n (r10.2.1.1,(r10.2.1.2.1,r10.2.1.2.2)) 40 r11)→(X00 r11.1 ((X0E (r11.2.1.1,(r11.2.1.2.1,r11.2.1.2.2)) 2)∧∀r12,(X3n (r11.2.1.1,(r11.2.1.2.1,r11.2.1.2.2)) 2 r12)→(eS [(0,.box 0 0),(9,.val false [.int .i64 (wI ((60:Int)+r12.1))])] [(0,.box 0 0),(9,.val false [.int .i64 (wI ((60:Int)+r12.1))])]∧((tbI i0 a0 r12.2.1.1 r12.2.1.2.1 r12.2.1.2.2 ([]:List Int))∧∀(y13:XoW),(tbI i0 a0 y13.1 y13.2.1 y13.2.2.1 y13.2.2.2)→(X00 (decide ((ln y13.2.2.2)<(wI ((60:Int)+r12.1)))) (List.length y13.2.2.2+List.length [(wI ((3:Int)*(ln y13.2.2.2)))]≤9223372036854775807∧((List.length y13.2.2.2+List.length [(wI ((3:Int)*(ln y13.2.2.2)))])*8≤140737488355328∧(eS [(0,.box 0 0),(9,.val false [.int .i64 (wI ((60:Int)+r12.1))])] [(0,.box 0 0),(9,.val false [.int .i64 (wI ((60:Int)+r12.1))])]∧(tbI i0 a0 y13.1 y13.2.1 y13.2.2.1 (y13.2.2.2++[(wI ((3:Int)*(ln y13.2.2.2)))]))∧(tbM i0 a0 y13.1 y13.2.1 y13.2.2.1 (y13.2.2.2++[(wI ((3:Int)*(ln y13.2.2.2)))]))<(tbM i0 a0 y13.1 y13.2.1 y13.2.2.1 y13.2.2.2)))) (X82 i0 a0 (y13.2.2.2,((y13.1,(y13.2.1,y13.2.2.1)),()))))))) (X82 i0 a0 ((List.set y6.2.2.2.2.2 (tN (wI ((ln y6.2.2.2.2.2) - (1:Int)))) r10.1),((r11.2.1.1,(r11.2.1.2.1,r11.2.1.2.2)),())))))))) ((X0E (r9.2.1.1,(r9.2.1.2.1,r9.2.1.2.2)) 40)∧∀r14,(X4n (r9.2.1.1,(r9.2.1.2.1,r9.2.1.2.2)) 40 r14)→(X00 r14.1 ((X0E (r14.2.1.1,(r14.2.1.2.1,r14.2.1.2.2)) 2)∧∀r15,(X3n (r14.2.1.1,(r14.2.1.2.1,r14.2.1.2.2)) 2 r15)→(eS [(0,.box 0 0),(9,.val false [.int .i64 (wI ((60:Int)+r15.1))])] [(0,.box 0 0),(9,.val false [.int .i64 (wI ((60:Int)+r15.1))])]∧((tbI i0 a0 r15.2.1.1 r15.2.1.2.1 r15.2.1.2.2 ([]:List Int))∧∀(y16:XoW),(tbI i0 a0 y16.1 y16.2.1 y16.2.2.1 y16.2.2.2)→(X00 (decide ((ln y16.2.2.2)<(wI ((60:Int)+r15.1)))) (List.length y16.2.2.2+List.length [(wI ((3:Int)*(ln y16.2.2.2)))]≤9223372036854775807∧((List.length y16.2.2.2+List.length [(wI ((3:Int)*(ln y16.2.2.2)))])*8≤140737488355328∧(eS [(0,.box 0 0),(9,.val false [.int .i64 (wI ((60:Int)+r15.1))])] [(0,.box 0 0),(9,.val false [.int .i64 (wI ((60:Int)+r15.1))])]∧(tbI i0 a0 y16.1 y16.2.1 y16.2.2.1 (y16.2.2.2++[(wI ((3:Int)*(ln y16.2.2.2)))]))∧(tbM i0 a0 y16.1 y16.2.1 y16.2.2.1 (y16.2.2.2++[(wI ((3:Int)*(ln y16.2.2.2)))]))<(tbM i0 a0 y16.1 y16.2.1 y16.2.2.1 y16.2.2.2)))) (X82 i0 a0 (y16.2.2.2,((y16.1,(y16.2.1,y16.2.2.1)),()))))))) (X82 i0 a0 (y6.2.2.2.2.2,((r14.2.1.1,(r14.2.1.2.1,r14.2.1.2.2)),()))))))))))))) ((X0E (r2.2.1.1,(r2.2.1.2.1,r2.2.1.2.2)) 40)∧∀r17,(X3n (r2.2.1.1,(r2.2.1.2.1,r2.2.1.2.2)) 40 r17)→((X0E (r17.2.1.1,(r17.2.1.2.1,r17.2.1.2.2)) a0)∧∀r18,(X3n (r17.2.1.1,(r17.2.1.2.1,r17.2.1.2.2)) a0 r18)→(eS [(0,.box 0 0),(7,.val false [.int .i64 (wI ((1:Int)+r17.1))])] [(0,.box 0 0),(7,.val false [.int .i64 (wI ((1:Int)+r17.1))])]∧((taI i0 a0 r1.1 (wI ((1:Int)+r18.1)) r18.2.1.1 r18.2.1.2.1 r18.2.1.2.2 ([]:List Int))∧∀(y19:(Int×(Int×XoW))),(taI i0 a0 y19.1 y19.2.1 y19.2.2.1 y19.2.2.2.1 y19.2.2.2.2.1 y19.2.2.2.2.2)→(X00 (decide (y19.2.1>(0:Int))) (List.length y19.2.2.2.2.2+List.length [y19.1]≤9223372036854775807∧((List.length y19.2.2.2.2.2+List.length [y19.1])*8≤140737488355328∧((X0E (y19.2.2.1,(y19.2.2.2.1,y19.2.2.2.2.1)) 3)∧∀r20,(X4n (y19.2.2.1,(y19.2.2.2.1,y19.2.2.2.2.1)) 3 r20)→(X00 r20.1 ((X0E (r20.2.1.1,(r20.2.1.2.1,r20.2.1.2.2)) 60)∧∀r21,(X3n (r20.2.1.1,(r20.2.1.2.1,r20.2.1.2.2)) 60 r21)→(eS [(0,.box 0 0),(7,.val false [.int .i64 (wI ((1:Int)+r17.1))])] [(0,.box 0 0),(7,.val false [.int .i64 (wI ((1:Int)+r17.1))])]∧(taI i0 a0 (wI ((wI (y19.1+(wI ((1:Int)+r17.1))))+r21.1)) (wI (y19.2.1 - (1:Int))) r21.2.1.1 r21.2.1.2.1 r21.2.1.2.2 (y19.2.2.2.2.2++[y19.1]))∧(taM i0 a0 (wI ((wI (y19.1+(wI ((1:Int)+r17.1))))+r21.1)) (wI (y19.2.1 - (1:Int))) r21.2.1.1 r21.2.1.2.1 r21.2.1.2.2 (y19.2.2.2.2.2++[y19.1]))<(taM i0 a0 y19.1 y19.2.1 y19.2.2.1 y19.2.2.2.1 y19.2.2.2.2.1 y19.2.2.2.2.2))) (eS [(0,.box 0 0),(7,.val false [.int .i64 (wI ((1:Int)+r17.1))])] [(0,.box 0 0),(7,.val false [.int .i64 (wI ((1:Int)+r17.1))])]∧(taI i0 a0 (wI (y19.1+(wI ((1:Int)+r17.1)))) (wI (y19.2.1 - (1:Int))) r20.2.1.1 r20.2.1.2.1 r20.2.1.2.2 (y19.2.2.2.2.2++[y19.1]))∧(taM i0 a0 (wI (y19.1+(wI ((1:Int)+r17.1)))) (wI (y19.2.1 - (1:Int))) r20.2.1.1 r20.2.1.2.1 r20.2.1.2.2 (y19.2.2.2.2.2++[y19.1]))<(taM i0 a0 y19.1 y19.2.1 y19.2.2.1 y19.2.2.2.1 y19.2.2.2.2.1 y19.2.2.2.2.2)))))) ((X0E (y19.2.2.1,(y19.2.2.2.1,y19.2.2.2.2.1)) 10)∧∀r22,(X4n (y19.2.2.1,(y19.2.2.2.1,y19.2.2.2.2.1)) 10 r22)→(X00 r22.1 ((Xaa (r22.2.1.1,(r22.2.1.2.1,r22.2.1.2.2)) [(-1),0,1099511627776,1099511627777,100])∧∀r23,(Xa1 (r22.2.1.1,(r22.2.1.2.1,r22.2.1.2.2)) [(-1),0,1099511627776,1099511627777,100] r23)→(0≤(wI ((ln y19.2.2.2.2.2) - (1:Int)))∧((wI ((ln y19.2.2.2.2.2) - (1:Int)))<(ln y19.2.2.2.2.2)∧((X0E (r23.2.1.1,(r23.2.1.2.1,r23.2.1.2.2)) 40)∧∀r24,(X4n (r23.2.1.1,(r23.2.1.2.1,r23.2.1.2.2)) 40 r24)→(X00 r24.1 ((X0E (r24.2.1.1,(r24.2.1.2.1,r24.2.1.2.2)) 2)∧∀r25,(X3n (r24.2.1.1,(r24.2.1.2.1,r24.2.1.2.2)) 2 r25)→(eS [(0,.box 0 0),(9,.val false [.int .i64 (wI ((60:Int)+r25.1))])] [(0,.box 0 0),(9,.val false [.int .i64 (wI ((60:Int)+r25.1))])]∧((tbI i0 a0 r25.2.1.1 r25.2.1.2.1 r25.2.1.2.2 ([]:List Int))∧∀(y26:XoW),(tbI i0 a0 y26.1 y26.2.1 y26.2.2.1 y26.2.2.2)→(X00 (decide ((ln y26.2.2.2)<(wI ((60:Int)+r25.1)))) (List.length y26.2.2.2+List.length [(wI ((3:Int)*(ln y26.2.2.2)))]≤9223372036854775807∧((List.length y26.2.2.2+List.length [(wI ((3:Int)*(ln y26.2.2.2)))])*8≤140737488355328∧(eS [(0,.box 0 0),(9,.val false [.int .i64 (wI ((60:Int)+r25.1))])] [(0,.box 0 0),(9,.val false [.int .i64 (wI ((60:Int)+r25.1))])]∧(tbI i0 a0 y26.1 y26.2.1 y26.2.2.1 (y26.2.2.2++[(wI ((3:Int)*(ln y26.2.2.2)))]))∧(tbM i0 a0 y26.1 y26.2.1 y26.2.2.1 (y26.2.2.2++[(wI ((3:Int)*(ln y26.2.2.2)))]))<(tbM i0 a0 y26.1 y26.2.1 y26.2.2.1 y26.2.2.2)))) (X82 i0 a0 (y26.2.2.2,((y26.1,(y26.2.1,y26.2.2.1)),()))))))) (X82 i0 a0 ((List.set y19.2.2.2.2.2 (tN (wI ((ln y19.2.2.2.2.2) - (1:Int)))) r23.1),((r24.2.1.1,(r24.2.1.2.1,r24.2.1.2.2)),())))))))) ((X0E (r22.2.1.1,(r22.2.1.2.1,r22.2.1.2.2)) 40)∧∀r27,(X4n (r22.2.1.1,(r22.2.1.2.1,r22.2.1.2.2)) 40 r27)→(X00 r27.1 ((X0E (r27.2.1.1,(r27.2.1.2.1,r27.2.1.2.2)) 2)∧∀r28,(X3n (r27.2.1.1,(r27.2.1.2.1,r27.2.1.2.2)) 2 r28)→(eS [(0,.box 0 0),(9,.val false [.int .i64 (wI ((60:Int)+r28.1))])] [(0,.box 0 0),(9,.val false [.int .i64 (wI ((60:Int)+r28.1))])]∧((tbI i0 a0 r28.2.1.1 r28.2.1.2.1 r28.2.1.2.2 ([]:List Int))∧∀(y29:XoW),(tbI i0 a0 y29.1 y29.2.1 y29.2.2.1 y29.2.2.2)→(X00 (decide ((ln y29.2.2.2)<(wI ((60:Int)+r28.1)))) (List.length y29.2.2.2+List.length [(wI ((3:Int)*(ln y29.2.2.2)))]≤9223372036854775807∧((List.length y29.2.2.2+List.length [(wI ((3:Int)*(ln y29.2.2.2)))])*8≤140737488355328∧(eS [(0,.box 0 0),(9,.val false [.int .i64 (wI ((60:Int)+r28.1))])] [(0,.box 0 0),(9,.val false [.int .i64 (wI ((60:Int)+r28.1))])]∧(tbI i0 a0 y29.1 y29.2.1 y29.2.2.1 (y29.2.2.2++[(wI ((3:Int)*(ln y29.2.2.2)))]))∧(tbM i0 a0 y29.1 y29.2.1 y29.2.2.1 (y29.2.2.2++[(wI ((3:Int)*(ln y29.2.2.2)))]))<(tbM i0 a0 y29.1 y29.2.1 y29.2.2.1 y29.2.2.2)))) (X82 i0 a0 (y29.2.2.2,((y29.1,(y29.2.1,y29.2.2.1)),()))))))) (X82 i0 a0 (y19.2.2.2.2.2,((r27.2.1.1,(r27.2.1.2.1,r27.2.1.2.2)),())))))))))))))))
def X2n.L(i0:U7q)(a0:Int):Nat→Option X0d:=fun p=>Go.Proofs.YtcfaphojdacmbaaGreatR.Bv.look p [(506,{kp:={hold:=[0,7],slots:=[5,6,8],boxes:=[0],rows:=[{bx:=false,s:=5,i:=0,k:=1000643,e:=3,hot:=true}]},T:=(.pair (.int .i64) (.pair (.int .i64) (.pair T8q (.pair (.int .i64) (.pair (.int .i64) Xc7))))),I:=fun st y=>taI i0 a0 y.1 y.2.1 y.2.2.1 y.2.2.2.1 y.2.2.2.2.1 y.2.2.2.2.2,μ:=fun st y=>taM i0 a0 y.1 y.2.1 y.2.2.1 y.2.2.2.1 y.2.2.2.2.1 y.2.2.2.2.2}),(16342,{kp:={hold:=[0,9],slots:=[5],boxes:=[0],rows:=[{bx:=false,s:=5,i:=0,k:=1000643,e:=3,hot:=true}]},T:=(.pair T8q (.pair (.int .i64) (.pair (.int .i64) Xc7))),I:=fun st y=>tbI i0 a0 y.1 y.2.1 y.2.2.1 y.2.2.2,μ:=fun st y=>tbM i0 a0 y.1 y.2.1 y.2.2.1 y.2.2.2})]
theorem X2n.pure(i0:U7q)(a0:Int)(h:(X1v i0 a0))(hi:Wf X5q.I i0)(hw:Wf X5q.A a0):X2n.F i0 a0:=by
 delta X2n.F ln tN wI eS
 simp only[X1v,X4v]at h
 simp only[Bs,B0,B1,Prod.mk.injEq,X01,X3n,X4n,Xa1,X0E,Xaa,X4v,X1v,X82,XbK,Xd3,X4W,taI,tbI,taM,tbM]
 repeat' (with_reducible (first | (refine And.intro ?_ ?_) | intro _))
 all_goals (try simp (disch:=omega) only[w64,wu8,tn0,tn1,tm1,tm2,List.length_append,List.length_cons,List.length_nil,List.length_set]at*)
 all_goals (try simp (disch:=omega) only[w64,wu8,tn0,tn1,tm1,tm2,List.length_append,List.length_cons,List.length_nil,List.length_set]at*)
 all_goals (try omega)
theorem X2n.eq:EqS X5q Tryz.f159 [138] [X1U.e,X1n.e,X1C.e] [] (fun i x=>X2n.L i x) (fun i x=>X2n.F i x):=by intro i x;kernel_rfl
theorem X2n.ok:X0l Tryz.prog 159 X5q:=X2b X2n.eq Tryz.func159 rfl (by kernel_rfl) fun i x h hi hw=>X2n.pure i x h (hi rfl) hw
def X2n.e:GE:=⟨159,X5q,⟨_,Tryz.func159,rfl,rfl⟩,X2n.ok⟩
def X6b:Con:={io:=true,I:=Xgs,B:=.unit,A:=(.int .i64),shA:=[.one],R:=Xc7,shR:=[(false,1)],pre:=fun i a=>(XbK i a),post:=fun i a y=>(Xd3 i a y)}
def X2T.F(i0:U7q)(a0:Int):Prop:=((X0E (i0.1,(i0.2.1,i0.2.2)) 100)∧∀r1,(X3n (i0.1,(i0.2.1,i0.2.2)) 100 r1)→((X0E (r1.2.1.1,(r1.2.1.2.1,r1.2.1.2.2)) a0)∧∀r2,(X3n (r1.2.1.1,(r1.2.1.2.1,r1.2.1.2.2)) a0 r2)→(eS [(0,.box 0 0)] [(0,.box 0 0)]∧((inI i0 a0 (wI (r1.1 - (50:Int))) (wI ((1:Int)+r2.1)) r2.2.1.1 r2.2.1.2.1 r2.2.1.2.2 ([]:List Int))∧∀(y3:(Int×(Int×XoW))),(inI i0 a0 y3.1 y3.2.1 y3.2.2.1 y3.2.2.2.1 y3.2.2.2.2.1 y3.2.2.2.2.2)→(X00 (decide (y3.2.1>(0:Int))) (List.length y3.2.2.2.2.2+List.length [y3.1]≤9223372036854775807∧((List.length y3.2.2.2.2.2+List.length [y3.1])*8≤140737488355328∧((X0E (y3.2.2.1,(y3.2.2.2.1,y3.2.2.2.2.1)) 21)∧∀r4,(X3n (y3.2.2.1,(y3.2.2.2.1,y3.2.2.2.2.1)) 21 r4)→((X0E (r4.2.1.1,(r4.2.1.2.1,r4.2.1.2.2)) 20)∧∀r5,(X4n (r4.2.1.1,(r4.2.1.2.1,r4.2.1.2.2)) 20 r5)→(X00 r5.1 ((Xaa (r5.2.1.1,(r5.2.1.2.1,r5.2.1.2.2)) [1099511627776,(-1099511627776),1099511627777,0])∧∀r6,(Xa1 (r5.2.1.1,(r5.2.1.2.1,r5.2.1.2.2)) [1099511627776,(-1099511627776),1099511627777,0] r6)→(eS [(0,.box 0 0)] [(0,.box 0 0)]∧(inI i0 a0 r6.1 (wI (y3.2.1 - (1:Int))) r6.2.1.1 r6.2.1.2.1 r6.2.1.2.2 (y3.2.2.2.2.2++[y3.1]))∧(inM i0 a0 r6.1 (wI (y3.2.1 - (1:Int))) r6.2.1.1 r6.2.1.2.1 r6.2.1.2.2 (y3.2.2.2.2.2++[y3.1]))<(inM i0 a0 y3.1 y3.2.1 y3.2.2.1 y3.2.2.2.1 y3.2.2.2.2.1 y3.2.2.2.2.2))) (eS [(0,.box 0 0)] [(0,.box 0 0)]∧(inI i0 a0 (wI ((wI (y3.1+r4.1)) - (10:Int))) (wI (y3.2.1 - (1:Int))) r5.2.1.1 r5.2.1.2.1 r5.2.1.2.2 (y3.2.2.2.2.2++[y3.1]))∧(inM i0 a0 (wI ((wI (y3.1+r4.1)) - (10:Int))) (wI (y3.2.1 - (1:Int))) r5.2.1.1 r5.2.1.2.1 r5.2.1.2.2 (y3.2.2.2.2.2++[y3.1]))<(inM i0 a0 y3.1 y3.2.1 y3.2.2.1 y3.2.2.2.1 y3.2.2.2.2.1 y3.2.2.2.2.2))))))) (Xd3 i0 a0 (y3.2.2.2.2.2,((y3.2.2.1,(y3.2.2.2.1,y3.2.2.2.2.1)),()))))))))
def X2T.L(i0:U7q)(a0:Int):Nat→Option X0d:=fun p=>Go.Proofs.YtcfaphojdacmbaaGreatR.Bv.look p [(122,{kp:={hold:=[0],slots:=[5,6,7],boxes:=[0],rows:=[{bx:=false,s:=5,i:=0,k:=1000643,e:=3,hot:=true}]},T:=(.pair (.int .i64) (.pair (.int .i64) (.pair T8q (.pair (.int .i64) (.pair (.int .i64) Xc7))))),I:=fun st y=>inI i0 a0 y.1 y.2.1 y.2.2.1 y.2.2.2.1 y.2.2.2.2.1 y.2.2.2.2.2,μ:=fun st y=>inM i0 a0 y.1 y.2.1 y.2.2.1 y.2.2.2.1 y.2.2.2.2.1 y.2.2.2.2.2})]
theorem X2T.pure(i0:U7q)(a0:Int)(h:(XbK i0 a0))(hi:Wf X6b.I i0)(hw:Wf X6b.A a0):X2T.F i0 a0:=by
 delta X2T.F wI eS
 simp only[XbK,X4v]at h
 simp only[Bs,B0,B1,Prod.mk.injEq,X01,X3n,X4n,Xa1,X0E,Xaa,X4v,X1v,X82,XbK,Xd3,X4W,inI,inM]
 repeat' (with_reducible (first | (refine And.intro ?_ ?_) | intro _))
 all_goals (try simp (disch:=omega) only[w64,wu8,tn0,tn1,tm1,tm2,List.length_append,List.length_cons,List.length_nil]at*)
 all_goals (try simp (disch:=omega) only[w64,wu8,tn0,tn1,tm1,tm2,List.length_append,List.length_cons,List.length_nil]at*)
 all_goals (try omega)
theorem X2T.eq:EqS X6b Tryz.f160 [138] [X1U.e,X1n.e,X1C.e] [] (fun i x=>X2T.L i x) (fun i x=>X2T.F i x):=by intro i x;kernel_rfl
theorem X2T.ok:X0l Tryz.prog 160 X6b:=X2b X2T.eq Tryz.func160 rfl (by kernel_rfl) fun i x h hi hw=>X2T.pure i x h (hi rfl) hw
def X2T.e:GE:=⟨160,X6b,⟨_,Tryz.func160,rfl,rfl⟩,X2T.ok⟩
def X4X:Con:={io:=true,I:=Xgs,B:=.unit,A:=(.int .i64),shA:=[.one],R:=X9z,shR:=[(false,1)],pre:=fun i a=>(X1v i a),post:=fun i a y=>(X4W i a y)}
def X22.F(i0:U7q)(a0:Int):Prop:=((X1v (i0.1,(i0.2.1,i0.2.2)) a0)∧∀r1,(X82 (i0.1,(i0.2.1,i0.2.2)) a0 r1)→((XbK (r1.2.1.1,(r1.2.1.2.1,r1.2.1.2.2)) (ln r1.1))∧∀r2,(Xd3 (r1.2.1.1,(r1.2.1.2.1,r1.2.1.2.2)) (ln r1.1) r2)→(eS [(0,.box 0 0),(5,.val false [.lst (.int .i64) r1.1 none]),(6,.val false [.lst (.int .i64) r2.1 none])] [(0,.box 0 0),(5,.val false [.lst (.int .i64) r1.1 none]),(6,.val false [.lst (.int .i64) r2.1 none])]∧((poI i0 a0 0 r2.2.1.1 r2.2.1.2.1 r2.2.1.2.2 ([]:List (Int×Int)))∧∀(y3:(Int×((List Int)×(Int×(Int×U6q))))),(poI i0 a0 y3.1 y3.2.1 y3.2.2.1 y3.2.2.2.1 y3.2.2.2.2)→(X00 (decide (y3.1<(ln r1.1))) (0≤y3.1∧(y3.1<(ln r1.1)∧((ln r2.1)≠0∧(0≤(Int.tmod y3.1 (ln r2.1))∧((Int.tmod y3.1 (ln r2.1))<(ln r2.1)∧(List.length y3.2.2.2.2+List.length [((List.getD r1.1 (tN y3.1) 0),(List.getD r2.1 (tN (Int.tmod y3.1 (ln r2.1))) 0))]≤9223372036854775807∧((List.length y3.2.2.2.2+List.length [((List.getD r1.1 (tN y3.1) 0),(List.getD r2.1 (tN (Int.tmod y3.1 (ln r2.1))) 0))])*16≤140737488355328∧(eS [(0,.box 0 0),(5,.val false [.lst (.int .i64) r1.1 none]),(6,.val false [.lst (.int .i64) r2.1 none])] [(0,.box 0 0),(5,.val false [.lst (.int .i64) r1.1 none]),(6,.val false [.lst (.int .i64) r2.1 none])]∧(poI i0 a0 (wI (y3.1+(1:Int))) y3.2.1 y3.2.2.1 y3.2.2.2.1 (y3.2.2.2.2++[((List.getD r1.1 (tN y3.1) 0),(List.getD r2.1 (tN (Int.tmod y3.1 (ln r2.1))) 0))]))∧(poM i0 a0 (wI (y3.1+(1:Int))) y3.2.1 y3.2.2.1 y3.2.2.2.1 (y3.2.2.2.2++[((List.getD r1.1 (tN y3.1) 0),(List.getD r2.1 (tN (Int.tmod y3.1 (ln r2.1))) 0))]))<(poM i0 a0 y3.1 y3.2.1 y3.2.2.1 y3.2.2.2.1 y3.2.2.2.2))))))))) (X4W i0 a0 (y3.2.2.2.2,((y3.2.1,(y3.2.2.1,y3.2.2.2.1)),()))))))))
def X22.L(i0:U7q)(a0:Int):Nat→Option X0d:=fun p=>Go.Proofs.YtcfaphojdacmbaaGreatR.Bv.look p [(250,{kp:={hold:=[0,5,6],slots:=[7,8],boxes:=[0],rows:=[{bx:=false,s:=7,i:=0,k:=1000899,e:=85,hot:=true}]},T:=(.pair (.int .i64) (.pair T8q (.pair (.int .i64) Xlq))),I:=fun st y=>poI i0 a0 y.1 y.2.1 y.2.2.1 y.2.2.2.1 y.2.2.2.2,μ:=fun st y=>poM i0 a0 y.1 y.2.1 y.2.2.1 y.2.2.2.1 y.2.2.2.2})]
theorem X22.pure(i0:U7q)(a0:Int)(h:(X1v i0 a0))(hi:Wf X4X.I i0)(hw:Wf X4X.A a0):X22.F i0 a0:=by
 delta X22.F ln tN wI eS
 simp only[X1v,X4v]at h
 simp only[Bs,B0,B1,Prod.mk.injEq,X01,X3n,X4n,Xa1,X0E,Xaa,X4v,X1v,X82,XbK,Xd3,X4W,poI,poM]
 repeat' (with_reducible (first | (refine And.intro ?_ ?_) | intro _))
 all_goals (try simp (disch:=omega) only[w64,wu8,tn0,tn1,tm1,tm2,List.length_append,List.length_cons,List.length_nil]at*)
 all_goals (try simp (disch:=omega) only[w64,wu8,tn0,tn1,tm1,tm2,List.length_append,List.length_cons,List.length_nil]at*)
 all_goals (try omega)
 all_goals (first | exact Int.tmod_nonneg _ (by omega) | exact Int.tmod_lt_of_pos _ (by omega))
theorem X22.eq:EqS X4X Tryz.f84 [64] [X2n.e,X2T.e] [] (fun i x=>X22.L i x) (fun i x=>X22.F i x):=by intro i x;kernel_rfl
theorem X22.ok:X0l Tryz.prog 84 X4X:=X2b X22.eq Tryz.func84 rfl (by kernel_rfl) fun i x h hi hw=>X22.pure i x h (hi rfl) hw
def X22.e:GE:=⟨84,X4X,⟨_,Tryz.func84,rfl,rfl⟩,X22.ok⟩
def X5m:Con:={io:=true,I:=Xgs,B:=.unit,A:=(.int .i64),shA:=[.one],R:=X9z,shR:=[(false,1)],fresh:=[(0,85)],pre:=fun i a=>(X1v i a),post:=fun i a y=>(X4W i a y)}
def X1G.F(i0:U7q)(a0:Int):Prop:=((X0E (i0.1,(i0.2.1,i0.2.2)) 250)∧∀r1,(X3n (i0.1,(i0.2.1,i0.2.2)) 250 r1)→((X0E (r1.2.1.1,(r1.2.1.2.1,r1.2.1.2.2)) a0)∧∀r2,(X3n (r1.2.1.1,(r1.2.1.2.1,r1.2.1.2.2)) a0 r2)→(eS [(0,.box 0 0)] [(0,.box 0 0)]∧((rgI i0 a0 r1.1 (wI ((1:Int)+r2.1)) r2.2.1.1 r2.2.1.2.1 r2.2.1.2.2 ([]:List (Int×Int)))∧∀(y3:(Int×(Int×((List Int)×(Int×(Int×U6q)))))),(rgI i0 a0 y3.1 y3.2.1 y3.2.2.1 y3.2.2.2.1 y3.2.2.2.2.1 y3.2.2.2.2.2)→(X00 (decide (y3.2.1>(0:Int))) ((X0E (y3.2.2.1,(y3.2.2.2.1,y3.2.2.2.2.1)) 40)∧∀r4,(X3n (y3.2.2.1,(y3.2.2.2.1,y3.2.2.2.2.1)) 40 r4)→(List.length y3.2.2.2.2.2+List.length [(y3.1,(wI (r4.1 - (20:Int))))]≤9223372036854775807∧((List.length y3.2.2.2.2.2+List.length [(y3.1,(wI (r4.1 - (20:Int))))])*16≤140737488355328∧((X0E (r4.2.1.1,(r4.2.1.2.1,r4.2.1.2.2)) 30)∧∀r5,(X3n (r4.2.1.1,(r4.2.1.2.1,r4.2.1.2.2)) 30 r5)→(eS [(0,.box 0 0)] [(0,.box 0 0)]∧(rgI i0 a0 (wI ((wI (y3.1+(1:Int)))+r5.1)) (wI (y3.2.1 - (1:Int))) r5.2.1.1 r5.2.1.2.1 r5.2.1.2.2 (y3.2.2.2.2.2++[(y3.1,(wI (r4.1 - (20:Int))))]))∧(rgM i0 a0 (wI ((wI (y3.1+(1:Int)))+r5.1)) (wI (y3.2.1 - (1:Int))) r5.2.1.1 r5.2.1.2.1 r5.2.1.2.2 (y3.2.2.2.2.2++[(y3.1,(wI (r4.1 - (20:Int))))]))<(rgM i0 a0 y3.1 y3.2.1 y3.2.2.1 y3.2.2.2.1 y3.2.2.2.2.1 y3.2.2.2.2.2)))))) (X4W i0 a0 (y3.2.2.2.2.2,((y3.2.2.1,(y3.2.2.2.1,y3.2.2.2.2.1)),()))))))))
def X1G.L(i0:U7q)(a0:Int):Nat→Option X0d:=fun p=>Go.Proofs.YtcfaphojdacmbaaGreatR.Bv.look p [(122,{kp:={hold:=[0],slots:=[5,6,7],boxes:=[0],rows:=[{bx:=false,s:=5,i:=0,k:=1000643,e:=85,hot:=true}]},T:=(.pair (.int .i64) (.pair (.int .i64) (.pair T8q (.pair (.int .i64) Xlq)))),I:=fun st y=>rgI i0 a0 y.1 y.2.1 y.2.2.1 y.2.2.2.1 y.2.2.2.2.1 y.2.2.2.2.2,μ:=fun st y=>rgM i0 a0 y.1 y.2.1 y.2.2.1 y.2.2.2.1 y.2.2.2.2.1 y.2.2.2.2.2})]
theorem X1G.pure(i0:U7q)(a0:Int)(h:(X1v i0 a0))(hi:Wf X5m.I i0)(hw:Wf X5m.A a0):X1G.F i0 a0:=by
 delta X1G.F wI eS
 simp only[X1v,X4v]at h
 simp only[Bs,B0,B1,Prod.mk.injEq,X01,X3n,X4n,Xa1,X0E,Xaa,X4v,X1v,X82,XbK,Xd3,X4W,rgI,rgM]
 repeat' (with_reducible (first | (refine And.intro ?_ ?_) | intro _))
 all_goals (try simp (disch:=omega) only[w64,wu8,tn0,tn1,tm1,tm2,List.length_append,List.length_cons,List.length_nil]at*)
 all_goals (try simp (disch:=omega) only[w64,wu8,tn0,tn1,tm1,tm2,List.length_append,List.length_cons,List.length_nil]at*)
 all_goals (try omega)
theorem X1G.eq:EqS X5m Tryz.f83 [64] [X1n.e] [] (fun i x=>X1G.L i x) (fun i x=>X1G.F i x):=by intro i x;kernel_rfl
theorem X1G.ok:X0l Tryz.prog 83 X5m:=X2b X1G.eq Tryz.func83 rfl (by kernel_rfl) fun i x h hi hw=>X1G.pure i x h (hi rfl) hw
def X1G.e:GE:=⟨83,X5m,⟨_,Tryz.func83,rfl,rfl⟩,X1G.ok⟩
end Go.Proofs.YtcfaphojdacmbaaGreatR.B
