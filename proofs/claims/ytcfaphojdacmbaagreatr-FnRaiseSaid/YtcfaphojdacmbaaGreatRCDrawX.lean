/- More numbers that are drawn. -/
import Derived.Test.YtcfaphojdacmbaaGreatRCDraw
set_option maxRecDepth 100000
set_option linter.unusedVariables false
set_option linter.unusedSimpArgs false
namespace Go.Proofs.YtcfaphojdacmbaaGreatR.B
open Go Go.Proofs.YtcfaphojdacmbaaGreatR.Bv
def XnM(c:Cur)(most:Int)(y:List UInt8×(Cur×Unit)):Prop:=y.1.length≤20∧X4J y.2.1
def XlO(c:Cur)(most:Int):Prop:=X4J c∧0≤most∧most≤18
def txI(c:Cur)(most n:Int)(b:List Int)(i h:Int)(out:List Int):Prop:=X4J (b,i,h)∧0≤n∧n≤19∧out.length+n≤19
def txM(c:Cur)(most n:Int)(b:List Int)(i h:Int)(out:List Int):Nat:=n.toNat
def Xqm(c:Cur)(s:List UInt8):Prop:=X4J c∧s.length≤100000
def Xb9(c:Cur)(s:List UInt8)(y:List UInt8×(Cur×Unit)):Prop:=y.1.length≤s.length+20∧X4J y.2.1
def X5P:Con:={io:=true,I:=(.pair T9q T0q),B:=.unit,A:=(.int .i64),shA:=[.one],R:=.str,shR:=[(false,1)],pre:=fun i a=>(XlO i a),post:=fun i a y=>(XnM i a y)}
def X2R.F(i0:U7q)(a0:Int):Prop:=((X4o (i0.1,(i0.2.1,i0.2.2)) 4)∧∀r1,(X75 (i0.1,(i0.2.1,i0.2.2)) 4 r1)→((X4o (r1.2.1.1,(r1.2.1.2.1,r1.2.1.2.2)) (wI (a0+(1:Int))))∧∀r2,(X75 (r1.2.1.1,(r1.2.1.2.1,r1.2.1.2.2)) (wI (a0+(1:Int))) r2)→(eS [(0,.box 0 0),(6,.val false [.int .i64 r1.1])] [(0,.box 0 0),(6,.val false [.int .i64 r1.1])]∧((txI i0 a0 r2.1 r2.2.1.1 r2.2.1.2.1 r2.2.1.2.2 ([]:List Int))∧∀(y3:(Int×((List Int)×(Int×(Int×(List Int)))))),(txI i0 a0 y3.1 y3.2.1 y3.2.2.1 y3.2.2.2.1 y3.2.2.2.2)→(X00 (decide (y3.1>(0:Int))) ((X4J (y3.2.1,(y3.2.2.1,y3.2.2.2.1)))∧∀r4,(XeV (y3.2.1,(y3.2.2.1,y3.2.2.2.1)) r4)→(X00 (r1.1==(1:Int)) ((2:Int)≠0∧(X00 (r1.1==(2:Int)) ((4:Int)≠0∧(List.length y3.2.2.2.2+List.length [(IntKind.wrap .u8 (wI ((97:Int)+(Int.tmod (Int.tmod r4.1 (2:Int)) (4:Int)))))]≤9223372036854775807∧((List.length y3.2.2.2.2+List.length [(IntKind.wrap .u8 (wI ((97:Int)+(Int.tmod (Int.tmod r4.1 (2:Int)) (4:Int)))))])*1≤140737488355328∧(eS [(0,.box 0 0),(6,.val false [.int .i64 r1.1])] [(0,.box 0 0),(6,.val false [.int .i64 r1.1])]∧(txI i0 a0 (wI (y3.1 - (1:Int))) r4.2.1.1 r4.2.1.2.1 r4.2.1.2.2 (y3.2.2.2.2++[(IntKind.wrap .u8 (wI ((97:Int)+(Int.tmod (Int.tmod r4.1 (2:Int)) (4:Int)))))]))∧(txM i0 a0 (wI (y3.1 - (1:Int))) r4.2.1.1 r4.2.1.2.1 r4.2.1.2.2 (y3.2.2.2.2++[(IntKind.wrap .u8 (wI ((97:Int)+(Int.tmod (Int.tmod r4.1 (2:Int)) (4:Int)))))]))<(txM i0 a0 y3.1 y3.2.1 y3.2.2.1 y3.2.2.2.1 y3.2.2.2.2))))) (List.length y3.2.2.2.2+List.length [(IntKind.wrap .u8 (Int.tmod r4.1 (2:Int)))]≤9223372036854775807∧((List.length y3.2.2.2.2+List.length [(IntKind.wrap .u8 (Int.tmod r4.1 (2:Int)))])*1≤140737488355328∧(eS [(0,.box 0 0),(6,.val false [.int .i64 r1.1])] [(0,.box 0 0),(6,.val false [.int .i64 r1.1])]∧(txI i0 a0 (wI (y3.1 - (1:Int))) r4.2.1.1 r4.2.1.2.1 r4.2.1.2.2 (y3.2.2.2.2++[(IntKind.wrap .u8 (Int.tmod r4.1 (2:Int)))]))∧(txM i0 a0 (wI (y3.1 - (1:Int))) r4.2.1.1 r4.2.1.2.1 r4.2.1.2.2 (y3.2.2.2.2++[(IntKind.wrap .u8 (Int.tmod r4.1 (2:Int)))]))<(txM i0 a0 y3.1 y3.2.1 y3.2.2.1 y3.2.2.2.1 y3.2.2.2.2)))))) (X00 (r1.1==(2:Int)) ((4:Int)≠0∧(List.length y3.2.2.2.2+List.length [(IntKind.wrap .u8 (wI ((97:Int)+(Int.tmod r4.1 (4:Int)))))]≤9223372036854775807∧((List.length y3.2.2.2.2+List.length [(IntKind.wrap .u8 (wI ((97:Int)+(Int.tmod r4.1 (4:Int)))))])*1≤140737488355328∧(eS [(0,.box 0 0),(6,.val false [.int .i64 r1.1])] [(0,.box 0 0),(6,.val false [.int .i64 r1.1])]∧(txI i0 a0 (wI (y3.1 - (1:Int))) r4.2.1.1 r4.2.1.2.1 r4.2.1.2.2 (y3.2.2.2.2++[(IntKind.wrap .u8 (wI ((97:Int)+(Int.tmod r4.1 (4:Int)))))]))∧(txM i0 a0 (wI (y3.1 - (1:Int))) r4.2.1.1 r4.2.1.2.1 r4.2.1.2.2 (y3.2.2.2.2++[(IntKind.wrap .u8 (wI ((97:Int)+(Int.tmod r4.1 (4:Int)))))]))<(txM i0 a0 y3.1 y3.2.1 y3.2.2.1 y3.2.2.2.1 y3.2.2.2.2))))) (List.length y3.2.2.2.2+List.length [(IntKind.wrap .u8 r4.1)]≤9223372036854775807∧((List.length y3.2.2.2.2+List.length [(IntKind.wrap .u8 r4.1)])*1≤140737488355328∧(eS [(0,.box 0 0),(6,.val false [.int .i64 r1.1])] [(0,.box 0 0),(6,.val false [.int .i64 r1.1])]∧(txI i0 a0 (wI (y3.1 - (1:Int))) r4.2.1.1 r4.2.1.2.1 r4.2.1.2.2 (y3.2.2.2.2++[(IntKind.wrap .u8 r4.1)]))∧(txM i0 a0 (wI (y3.1 - (1:Int))) r4.2.1.1 r4.2.1.2.1 r4.2.1.2.2 (y3.2.2.2.2++[(IntKind.wrap .u8 r4.1)]))<(txM i0 a0 y3.1 y3.2.1 y3.2.2.1 y3.2.2.2.1 y3.2.2.2.2))))))) (XnM i0 a0 ((List.map (fun n=>UInt8.ofNat (Int.toNat n)) y3.2.2.2.2),((y3.2.1,(y3.2.2.1,y3.2.2.2.1)),()))))))))
def X2R.L(i0:U7q)(a0:Int):Nat→Option X0c:=fun p=>Go.Proofs.YtcfaphojdacmbaaGreatR.Bv.look p [(122,{kp:={hold:=[0,6],slots:=[5,7],boxes:=[0],rows:=[{bx:=false,s:=5,i:=0,k:=1000643,e:=5,hot:=true}]},T:=(.pair (.int .i64) (.pair T9q (.pair (.int .i64) (.pair (.int .i64) T9q)))),I:=fun st y=>txI i0 a0 y.1 y.2.1 y.2.2.1 y.2.2.2.1 y.2.2.2.2,μ:=fun st y=>txM i0 a0 y.1 y.2.1 y.2.2.1 y.2.2.2.1 y.2.2.2.2})]
theorem X2R.pure(i0:U7q)(a0:Int)(h:(XlO i0 a0))(hi:Wf X5P.I i0)(hw:Wf X5P.A a0):X2R.F i0 a0:=by
 delta X2R.F wI eS
 simp only[XlO,X4J]at h
 simp only[Bs,B0,B1,Prod.mk.injEq,X01,X75,XcS,XfG,X4o,Xfv,X4J,X4x,XoC,XoR,XoI,X9U,XeV,XlO,XnM,Xqm,Xb9,Xq6,Xhb,txI,txM]
 repeat' (with_reducible (first | (refine And.intro ?_ ?_) | intro _))
 all_goals (try simp (disch:=omega) only[w64,wu8,tn0,tn1,tm1,tm2,List.length_append,List.length_cons,List.length_nil,List.length_map]at*)
 all_goals (try simp (disch:=omega) only[w64,wu8,tn0,tn1,tm1,tm2,List.length_append,List.length_cons,List.length_nil,List.length_map]at*)
 all_goals (try omega)
theorem X2R.eq:EqS X5P Tryz.f221 [9] [X1C.e,X3b.e] [] (fun i x=>X2R.L i x) (fun i x=>X2R.F i x):=by intro i x;kernel_rfl
theorem X2R.ok:X0n Tryz.prog 221 X5P:=X2g X2R.eq Tryz.func221 rfl (by kernel_rfl) fun i x h hi hw=>X2R.pure i x h (hi rfl) hw
def X2R.e:GE:=⟨221,X5P,⟨_,Tryz.func221,rfl,rfl⟩,X2R.ok⟩
def XkA(h:Int):Int:=IntKind.wrap .i64 (IntKind.wrap .i64 (h*6364136223846793005)+1442695040888963407)
def mixH(h:Int):Int:=IntKind.wrap .i64 (BitVec.toNat (BitVec.ofInt (IntKind.bits .i64) (IntKind.wrap .i64 (BitVec.toNat (BitVec.ofInt (IntKind.bits .i64) (Int.fdiv (XkA h) (2 ^ (min (Int.toNat 33) (IntKind.bits .i64)))) ^^^ BitVec.ofInt (IntKind.bits .i64) (Int.fdiv (XkA h) (2 ^ (min (Int.toNat 45) (IntKind.bits .i64)))))))&&&BitVec.ofInt (IntKind.bits .i64) (255:Int)))
def X16(c:Cur):Int×Cur:=if c.2.1<c.1.length then(IntKind.wrap .i64 (BitVec.toNat (BitVec.ofInt (IntKind.bits .i64) (IntKind.wrap .i64 (mixH c.2.2+IntKind.wrap .i64 (c.1.getD c.2.1.toNat 0)))&&&BitVec.ofInt (IntKind.bits .i64) (255:Int))),(c.1,(IntKind.wrap .i64 (c.2.1+1),XkA c.2.2))) else(mixH c.2.2,(c.1,(c.2.1,XkA c.2.2)))
theorem X88{c:Cur}(h:X4J c):0≤(X16 c).1∧(X16 c).1≤255∧X4J (X16 c).2:=by
 obtain⟨h1,h2,h3⟩:=h
 unfold X16
 split
 · refine⟨(Xct _).1,(Xct _).2,?_⟩
   simp only[X4J]
   rw[w64 (by omega) (by omega)];omega
 · exact⟨(Xct _).1,(Xct _).2,h1,h2,h3⟩
def X0X(c:Cur)(n:Int):Int×Cur:=
 if n≤0 then(0,c) else if n≤256 then(Int.tmod (X16 c).1 n,(X16 c).2)
 else(Int.tmod (IntKind.wrap .i64 (IntKind.wrap .i64 (IntKind.wrap .i64 (IntKind.wrap .i64 ((X16 c).1*16777216)+IntKind.wrap .i64 ((X16 (X16 c).2).1*65536))+IntKind.wrap .i64 ((X16 (X16 (X16 c).2).2).1*256))+(X16 (X16 (X16 (X16 c).2).2).2).1)) n,(X16 (X16 (X16 (X16 c).2).2).2).2)
theorem X57{c:Cur}(h:X4J c){n:Int}(hn:0<n):0≤(X0X c n).1∧(X0X c n).1<n∧X4J (X0X c n).2:=by
 obtain⟨a1,a2,a3⟩:=X88 h
 obtain⟨b1,b2,b3⟩:=X88 a3
 obtain⟨c1,c2,c3⟩:=X88 b3
 obtain⟨d1,d2,d3⟩:=X88 c3
 unfold X0X
 rw[if_neg (by omega)]
 split
 · exact⟨Int.tmod_nonneg _ a1,Int.tmod_lt_of_pos _ hn,a3⟩
 · refine⟨Int.tmod_nonneg _ ?_,Int.tmod_lt_of_pos _ hn,d3⟩
   rw[w64 (x:=(X16 c).1*16777216) (by omega) (by omega),w64 (x:=(X16 (X16 c).2).1*65536) (by omega) (by omega),w64 (x:=(X16 (X16 (X16 c).2).2).1*256) (by omega) (by omega),w64 (x:=(X16 c).1*16777216+(X16 (X16 c).2).1*65536) (by omega) (by omega),w64 (x:=(X16 c).1*16777216+(X16 (X16 c).2).1*65536+(X16 (X16 (X16 c).2).2).1*256) (by omega) (by omega),w64 (by omega) (by omega)]
   omega
def X71(c:Cur)(n:Int):Prop:=X4J c
def X58:Con:={io:=true,I:=(.pair T9q T0q),A:=.unit,shA:=[],R:=(.int .i64),shR:=[(false,1)],pre:=fun i a=>(X4J i),f:=some fun i a=>((X16 i).1,((X16 i).2,()))}
def X2D.F(i0:U7q):Prop:=(0≤(33:Int)∧(0≤(45:Int)∧(X00 (decide (i0.2.1<(ln i0.1))) (0≤i0.2.1∧(i0.2.1<(ln i0.1)∧(Eq ((IntKind.wrap .i64 (BitVec.toNat (BitVec.ofInt (IntKind.bits .i64) (wI ((IntKind.wrap .i64 (BitVec.toNat (BitVec.ofInt (IntKind.bits .i64) (IntKind.wrap .i64 (BitVec.toNat (BitVec.ofInt (IntKind.bits .i64) (Int.fdiv (wI ((wI (i0.2.2*(6364136223846793005:Int)))+(1442695040888963407:Int))) (2 ^ (min (tN (33:Int)) (IntKind.bits .i64)))) ^^^ BitVec.ofInt (IntKind.bits .i64) (Int.fdiv (wI ((wI (i0.2.2*(6364136223846793005:Int)))+(1442695040888963407:Int))) (2 ^ (min (tN (45:Int)) (IntKind.bits .i64)))))))&&&BitVec.ofInt (IntKind.bits .i64) (255:Int))))+(wI (List.getD i0.1 (tN i0.2.1) 0))))&&&BitVec.ofInt (IntKind.bits .i64) (255:Int)))),((i0.1,((wI (i0.2.1+(1:Int))),(wI ((wI (i0.2.2*(6364136223846793005:Int)))+(1442695040888963407:Int))))),())) ((X16 i0).1,((X16 i0).2,()))))) (Eq ((IntKind.wrap .i64 (BitVec.toNat (BitVec.ofInt (IntKind.bits .i64) (IntKind.wrap .i64 (BitVec.toNat (BitVec.ofInt (IntKind.bits .i64) (Int.fdiv (wI ((wI (i0.2.2*(6364136223846793005:Int)))+(1442695040888963407:Int))) (2 ^ (min (tN (33:Int)) (IntKind.bits .i64)))) ^^^ BitVec.ofInt (IntKind.bits .i64) (Int.fdiv (wI ((wI (i0.2.2*(6364136223846793005:Int)))+(1442695040888963407:Int))) (2 ^ (min (tN (45:Int)) (IntKind.bits .i64)))))))&&&BitVec.ofInt (IntKind.bits .i64) (255:Int)))),((i0.1,(i0.2.1,(wI ((wI (i0.2.2*(6364136223846793005:Int)))+(1442695040888963407:Int))))),())) ((X16 i0).1,((X16 i0).2,()))))))
theorem X2D.pure(i0:U7q)(h:(X4J i0))(hi:Wf X58.I i0)(hw:Wf X58.A ()):X2D.F i0:=by
 delta X2D.F ln tN wI
 simp only[Bs,B0,B1,Prod.mk.injEq,X01,Prod.eta]
 obtain⟨c1,c2,c3⟩:=h
 refine⟨by omega,by omega,fun h1=>⟨c1,h1,?_⟩,fun h1=>?_⟩
 · unfold X16 mixH XkA;rw[if_pos h1];exact⟨rfl,rfl⟩
 · unfold X16 mixH XkA;rw[if_neg h1];exact⟨rfl,rfl⟩
theorem X2D.eq:EqS X58 Tryz.f180 [3] [] [] noL (fun i x=>X2D.F i):=by intro i x;kernel_rfl
theorem X2D.ok:X0n Tryz.prog 180 X58:=X2g X2D.eq Tryz.func180 rfl (by kernel_rfl) fun i x h hi hw=>X2D.pure i h (hi rfl) hw
def X2D.e:GE:=⟨180,X58,⟨_,Tryz.func180,rfl,rfl⟩,X2D.ok⟩
def X4z:Con:={io:=true,I:=(.pair T9q T0q),A:=(.int .i64),shA:=[.one],R:=(.int .i64),shR:=[(false,1)],pre:=fun i a=>(X71 i a),f:=some fun i a=>((X0X i a).1,((X0X i a).2,()))}
def X1F.F(i0:U7q)(a0:Int):Prop:=(X00 (decide (a0≤(0:Int))) (Eq (0,((i0.1,(i0.2.1,i0.2.2)),())) ((X0X i0 a0).1,((X0X i0 a0).2,()))) (X00 (decide (a0≤(256:Int))) ((X4J (i0.1,(i0.2.1,i0.2.2)))∧∀r1,(Eq r1 ((X16 (i0.1,(i0.2.1,i0.2.2))).1,((X16 (i0.1,(i0.2.1,i0.2.2))).2,())))→(a0≠0∧(Eq ((Int.tmod r1.1 a0),((r1.2.1.1,(r1.2.1.2.1,r1.2.1.2.2)),())) ((X0X i0 a0).1,((X0X i0 a0).2,()))))) ((X4J (i0.1,(i0.2.1,i0.2.2)))∧∀r2,(Eq r2 ((X16 (i0.1,(i0.2.1,i0.2.2))).1,((X16 (i0.1,(i0.2.1,i0.2.2))).2,())))→((X4J (r2.2.1.1,(r2.2.1.2.1,r2.2.1.2.2)))∧∀r3,(Eq r3 ((X16 (r2.2.1.1,(r2.2.1.2.1,r2.2.1.2.2))).1,((X16 (r2.2.1.1,(r2.2.1.2.1,r2.2.1.2.2))).2,())))→((X4J (r3.2.1.1,(r3.2.1.2.1,r3.2.1.2.2)))∧∀r4,(Eq r4 ((X16 (r3.2.1.1,(r3.2.1.2.1,r3.2.1.2.2))).1,((X16 (r3.2.1.1,(r3.2.1.2.1,r3.2.1.2.2))).2,())))→((X4J (r4.2.1.1,(r4.2.1.2.1,r4.2.1.2.2)))∧∀r5,(Eq r5 ((X16 (r4.2.1.1,(r4.2.1.2.1,r4.2.1.2.2))).1,((X16 (r4.2.1.1,(r4.2.1.2.1,r4.2.1.2.2))).2,())))→(a0≠0∧(Eq ((Int.tmod (wI ((wI ((wI ((wI (r2.1*(16777216:Int)))+(wI (r3.1*(65536:Int)))))+(wI (r4.1*(256:Int)))))+r5.1)) a0),((r5.2.1.1,(r5.2.1.2.1,r5.2.1.2.2)),())) ((X0X i0 a0).1,((X0X i0 a0).2,()))))))))))
theorem X1F.pure(i0:U7q)(a0:Int)(h:(X71 i0 a0))(hi:Wf X4z.I i0)(hw:Wf X4z.A a0):X1F.F i0 a0:=by
 delta X1F.F wI
 simp only[Bs,B0,B1,Prod.mk.injEq,X01,Prod.eta]
 have hc:X4J i0:=h
 obtain⟨a1,a2,a3⟩:=X88 hc
 obtain⟨b1,b2,b3⟩:=X88 a3
 obtain⟨c1,c2,c3⟩:=X88 b3
 refine⟨fun h1=>?_,fun h1=>⟨fun h2=>⟨hc,by omega,?_⟩,fun h2=>⟨hc,a3,b3,c3,by omega,?_⟩⟩⟩
 · unfold X0X;rw[if_pos h1];exact⟨rfl,rfl⟩
 · unfold X0X;rw[if_neg h1,if_pos h2];exact⟨rfl,rfl⟩
 · unfold X0X;rw[if_neg h1,if_neg h2];exact⟨rfl,rfl⟩
theorem X1F.eq:EqS X4z Tryz.f108 [3] [X2D.e] [] noL (fun i x=>X1F.F i x):=by intro i x;kernel_rfl
theorem X1F.ok:X0n Tryz.prog 108 X4z:=X2g X1F.eq Tryz.func108 rfl (by kernel_rfl) fun i x h hi hw=>X1F.pure i x h (hi rfl) hw
def X1F.e:GE:=⟨108,X4z,⟨_,Tryz.func108,rfl,rfl⟩,X1F.ok⟩
end Go.Proofs.YtcfaphojdacmbaaGreatR.B
