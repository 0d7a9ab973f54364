/- More numbers that are drawn. -/
import Derived.Test.YtcfaphojdacmbaaGreatRCDraw
set_option maxRecDepth 100000
set_option linter.unusedVariables false
set_option linter.unusedSimpArgs false
namespace Go.Proofs.YtcfaphojdacmbaaGreatR.B
open Go Go.Proofs.YtcfaphojdacmbaaGreatR.Bv
def XnZ(c:Cur)(most:Int)(y:List UInt8×(Cur×Unit)):Prop:=y.1.length≤20∧X4o y.2.1
def Xlt(c:Cur)(most:Int):Prop:=X4o c∧0≤most∧most≤18
def txI(c:Cur)(most n:Int)(b:List Int)(i h:Int)(out:List Int):Prop:=X4o (b,i,h)∧0≤n∧n≤19∧out.length+n≤19
def txM(c:Cur)(most n:Int)(b:List Int)(i h:Int)(out:List Int):Nat:=n.toNat
def XrN(c:Cur)(s:List UInt8):Prop:=X4o c∧s.length≤100000
def XbK(c:Cur)(s:List UInt8)(y:List UInt8×(Cur×Unit)):Prop:=y.1.length≤s.length+20∧X4o y.2.1
def X62:Con:={io:=true,I:=Xgi,B:=.unit,A:=(.int .i64),shA:=[.one],R:=.str,shR:=[(false,1)],pre:=fun i a=>(Xlt i a),post:=fun i a y=>(XnZ i a y)}
def X2V.F(i0:U7q)(a0:Int):Prop:=((X0E (i0.1,(i0.2.1,i0.2.2)) 4)∧∀r1,(X3l (i0.1,(i0.2.1,i0.2.2)) 4 r1)→((X0E (r1.2.1.1,(r1.2.1.2.1,r1.2.1.2.2)) (wI (a0+(1:Int))))∧∀r2,(X3l (r1.2.1.1,(r1.2.1.2.1,r1.2.1.2.2)) (wI (a0+(1:Int))) r2)→(eS [(0,.box 0 0),(6,.val false [.int .i64 r1.1])] [(0,.box 0 0),(6,.val false [.int .i64 r1.1])]∧((txI i0 a0 r2.1 r2.2.1.1 r2.2.1.2.1 r2.2.1.2.2 ([]:List Int))∧∀(y3:(Int×XoL)),(txI i0 a0 y3.1 y3.2.1 y3.2.2.1 y3.2.2.2.1 y3.2.2.2.2)→(X00 (decide (y3.1>(0:Int))) ((X4o (y3.2.1,(y3.2.2.1,y3.2.2.2.1)))∧∀r4,(Xf9 (y3.2.1,(y3.2.2.1,y3.2.2.2.1)) r4)→(X00 (r1.1==(1:Int)) ((2:Int)≠0∧(X00 (r1.1==(2:Int)) ((4:Int)≠0∧(List.length y3.2.2.2.2+List.length [(IntKind.wrap .u8 (wI ((97:Int)+(Int.tmod (Int.tmod r4.1 (2:Int)) (4:Int)))))]≤9223372036854775807∧((List.length y3.2.2.2.2+List.length [(IntKind.wrap .u8 (wI ((97:Int)+(Int.tmod (Int.tmod r4.1 (2:Int)) (4:Int)))))])*1≤140737488355328∧(eS [(0,.box 0 0),(6,.val false [.int .i64 r1.1])] [(0,.box 0 0),(6,.val false [.int .i64 r1.1])]∧(txI i0 a0 (wI (y3.1 - (1:Int))) r4.2.1.1 r4.2.1.2.1 r4.2.1.2.2 (y3.2.2.2.2++[(IntKind.wrap .u8 (wI ((97:Int)+(Int.tmod (Int.tmod r4.1 (2:Int)) (4:Int)))))]))∧(txM i0 a0 (wI (y3.1 - (1:Int))) r4.2.1.1 r4.2.1.2.1 r4.2.1.2.2 (y3.2.2.2.2++[(IntKind.wrap .u8 (wI ((97:Int)+(Int.tmod (Int.tmod r4.1 (2:Int)) (4:Int)))))]))<(txM i0 a0 y3.1 y3.2.1 y3.2.2.1 y3.2.2.2.1 y3.2.2.2.2))))) (List.length y3.2.2.2.2+List.length [(IntKind.wrap .u8 (Int.tmod r4.1 (2:Int)))]≤9223372036854775807∧((List.length y3.2.2.2.2+List.length [(IntKind.wrap .u8 (Int.tmod r4.1 (2:Int)))])*1≤140737488355328∧(eS [(0,.box 0 0),(6,.val false [.int .i64 r1.1])] [(0,.box 0 0),(6,.val false [.int .i64 r1.1])]∧(txI i0 a0 (wI (y3.1 - (1:Int))) r4.2.1.1 r4.2.1.2.1 r4.2.1.2.2 (y3.2.2.2.2++[(IntKind.wrap .u8 (Int.tmod r4.1 (2:Int)))]))∧(txM i0 a0 (wI (y3.1 - (1:Int))) r4.2.1.1 r4.2.1.2.1 r4.2.1.2.2 (y3.2.2.2.2++[(IntKind.wrap .u8 (Int.tmod r4.1 (2:Int)))]))<(txM i0 a0 y3.1 y3.2.1 y3.2.2.1 y3.2.2.2.1 y3.2.2.2.2)))))) (X00 (r1.1==(2:Int)) ((4:Int)≠0∧(List.length y3.2.2.2.2+List.length [(IntKind.wrap .u8 (wI ((97:Int)+(Int.tmod r4.1 (4:Int)))))]≤9223372036854775807∧((List.length y3.2.2.2.2+List.length [(IntKind.wrap .u8 (wI ((97:Int)+(Int.tmod r4.1 (4:Int)))))])*1≤140737488355328∧(eS [(0,.box 0 0),(6,.val false [.int .i64 r1.1])] [(0,.box 0 0),(6,.val false [.int .i64 r1.1])]∧(txI i0 a0 (wI (y3.1 - (1:Int))) r4.2.1.1 r4.2.1.2.1 r4.2.1.2.2 (y3.2.2.2.2++[(IntKind.wrap .u8 (wI ((97:Int)+(Int.tmod r4.1 (4:Int)))))]))∧(txM i0 a0 (wI (y3.1 - (1:Int))) r4.2.1.1 r4.2.1.2.1 r4.2.1.2.2 (y3.2.2.2.2++[(IntKind.wrap .u8 (wI ((97:Int)+(Int.tmod r4.1 (4:Int)))))]))<(txM i0 a0 y3.1 y3.2.1 y3.2.2.1 y3.2.2.2.1 y3.2.2.2.2))))) (List.length y3.2.2.2.2+List.length [(IntKind.wrap .u8 r4.1)]≤9223372036854775807∧((List.length y3.2.2.2.2+List.length [(IntKind.wrap .u8 r4.1)])*1≤140737488355328∧(eS [(0,.box 0 0),(6,.val false [.int .i64 r1.1])] [(0,.box 0 0),(6,.val false [.int .i64 r1.1])]∧(txI i0 a0 (wI (y3.1 - (1:Int))) r4.2.1.1 r4.2.1.2.1 r4.2.1.2.2 (y3.2.2.2.2++[(IntKind.wrap .u8 r4.1)]))∧(txM i0 a0 (wI (y3.1 - (1:Int))) r4.2.1.1 r4.2.1.2.1 r4.2.1.2.2 (y3.2.2.2.2++[(IntKind.wrap .u8 r4.1)]))<(txM i0 a0 y3.1 y3.2.1 y3.2.2.1 y3.2.2.2.1 y3.2.2.2.2))))))) (XnZ i0 a0 ((List.map (fun n=>UInt8.ofNat (Int.toNat n)) y3.2.2.2.2),((y3.2.1,(y3.2.2.1,y3.2.2.2.1)),()))))))))
def X2V.L(i0:U7q)(a0:Int):Nat→Option X0d:=fun p=>Go.Proofs.YtcfaphojdacmbaaGreatR.Bv.look p [(122,{kp:={hold:=[0,6],slots:=[5,7],boxes:=[0],rows:=[{bx:=false,s:=5,i:=0,k:=1000643,e:=5,hot:=true}]},T:=(.pair (.int .i64) (.pair T8q (.pair (.int .i64) (.pair (.int .i64) T8q)))),I:=fun st y=>txI i0 a0 y.1 y.2.1 y.2.2.1 y.2.2.2.1 y.2.2.2.2,μ:=fun st y=>txM i0 a0 y.1 y.2.1 y.2.2.1 y.2.2.2.1 y.2.2.2.2})]
theorem X2V.pure(i0:U7q)(a0:Int)(h:(Xlt i0 a0))(hi:Wf X62.I i0)(hw:Wf X62.A a0):X2V.F i0 a0:=by
 delta X2V.F wI eS
 simp only[Xlt,X4o]at h
 simp only[Bs,B0,B1,Prod.mk.injEq,X01,X3l,X4f,X9T,X0E,Xa5,X4o,X1y,X7L,XbA,XcY,X4D,Xf9,Xlt,XnZ,XrN,XbK,Xqe,X7X,txI,txM]
 repeat' (with_reducible (first | (refine And.intro ?_ ?_) | intro _))
 all_goals (try simp (disch:=omega) only[w64,wu8,tn0,tn1,tm1,tm2,List.length_append,List.length_cons,List.length_nil,List.length_map]at*)
 all_goals (try simp (disch:=omega) only[w64,wu8,tn0,tn1,tm1,tm2,List.length_append,List.length_cons,List.length_nil,List.length_map]at*)
 all_goals (try omega)
theorem X2V.eq:EqS X62 Tryz.f221 [9] [X1n.e,X3f.e] [] (fun i x=>X2V.L i x) (fun i x=>X2V.F i x):=by intro i x;kernel_rfl
theorem X2V.ok:X0l Tryz.prog 221 X62:=X2d X2V.eq Tryz.func221 rfl (by kernel_rfl) fun i x h hi hw=>X2V.pure i x h (hi rfl) hw
def X2V.e:GE:=⟨221,X62,⟨_,Tryz.func221,rfl,rfl⟩,X2V.ok⟩
def XkV(h:Int):Int:=IntKind.wrap .i64 (IntKind.wrap .i64 (h*6364136223846793005)+1442695040888963407)
def mixH(h:Int):Int:=IntKind.wrap .i64 (BitVec.toNat (BitVec.ofInt (IntKind.bits .i64) (IntKind.wrap .i64 (BitVec.toNat (BitVec.ofInt (IntKind.bits .i64) (Int.fdiv (XkV h) (2 ^ (min (Int.toNat 33) (IntKind.bits .i64)))) ^^^ BitVec.ofInt (IntKind.bits .i64) (Int.fdiv (XkV h) (2 ^ (min (Int.toNat 45) (IntKind.bits .i64)))))))&&&BitVec.ofInt (IntKind.bits .i64) (255:Int)))
def X19(c:Cur):Int×Cur:=if c.2.1<c.1.length then(IntKind.wrap .i64 (BitVec.toNat (BitVec.ofInt (IntKind.bits .i64) (IntKind.wrap .i64 (mixH c.2.2+IntKind.wrap .i64 (c.1.getD c.2.1.toNat 0)))&&&BitVec.ofInt (IntKind.bits .i64) (255:Int))),(c.1,(IntKind.wrap .i64 (c.2.1+1),XkV c.2.2))) else(mixH c.2.2,(c.1,(c.2.1,XkV c.2.2)))
theorem X8k{c:Cur}(h:X4o c):0≤(X19 c).1∧(X19 c).1≤255∧X4o (X19 c).2:=by
 obtain⟨h1,h2,h3⟩:=h
 unfold X19
 split
 · refine⟨(XcV _).1,(XcV _).2,?_⟩
   simp only[X4o]
   rw[w64 (by omega) (by omega)];omega
 · exact⟨(XcV _).1,(XcV _).2,h1,h2,h3⟩
def X0V(c:Cur)(n:Int):Int×Cur:=
 if n≤0 then(0,c) else if n≤256 then(Int.tmod (X19 c).1 n,(X19 c).2)
 else(Int.tmod (IntKind.wrap .i64 (IntKind.wrap .i64 (IntKind.wrap .i64 (IntKind.wrap .i64 ((X19 c).1*16777216)+IntKind.wrap .i64 ((X19 (X19 c).2).1*65536))+IntKind.wrap .i64 ((X19 (X19 (X19 c).2).2).1*256))+(X19 (X19 (X19 (X19 c).2).2).2).1)) n,(X19 (X19 (X19 (X19 c).2).2).2).2)
theorem X5g{c:Cur}(h:X4o c){n:Int}(hn:0<n):0≤(X0V c n).1∧(X0V c n).1<n∧X4o (X0V c n).2:=by
 obtain⟨a1,a2,a3⟩:=X8k h
 obtain⟨b1,b2,b3⟩:=X8k a3
 obtain⟨c1,c2,c3⟩:=X8k b3
 obtain⟨d1,d2,d3⟩:=X8k c3
 unfold X0V
 rw[if_neg (by omega)]
 split
 · exact⟨Int.tmod_nonneg _ a1,Int.tmod_lt_of_pos _ hn,a3⟩
 · refine⟨Int.tmod_nonneg _ ?_,Int.tmod_lt_of_pos _ hn,d3⟩
   rw[w64 (x:=(X19 c).1*16777216) (by omega) (by omega),w64 (x:=(X19 (X19 c).2).1*65536) (by omega) (by omega),w64 (x:=(X19 (X19 (X19 c).2).2).1*256) (by omega) (by omega),w64 (x:=(X19 c).1*16777216+(X19 (X19 c).2).1*65536) (by omega) (by omega),w64 (x:=(X19 c).1*16777216+(X19 (X19 c).2).1*65536+(X19 (X19 (X19 c).2).2).1*256) (by omega) (by omega),w64 (by omega) (by omega)]
   omega
def X77(c:Cur)(n:Int):Prop:=X4o c
def X5j:Con:={io:=true,I:=Xgi,A:=.unit,shA:=[],R:=(.int .i64),shR:=[(false,1)],pre:=fun i a=>(X4o i),f:=some fun i a=>((X19 i).1,((X19 i).2,()))}
def X2I.F(i0:U7q):Prop:=(0≤(33:Int)∧(0≤(45:Int)∧(X00 (decide (i0.2.1<(ln i0.1))) (0≤i0.2.1∧(i0.2.1<(ln i0.1)∧(Eq ((IntKind.wrap .i64 (BitVec.toNat (BitVec.ofInt (IntKind.bits .i64) (wI ((IntKind.wrap .i64 (BitVec.toNat (BitVec.ofInt (IntKind.bits .i64) (IntKind.wrap .i64 (BitVec.toNat (BitVec.ofInt (IntKind.bits .i64) (Int.fdiv (wI ((wI (i0.2.2*(6364136223846793005:Int)))+(1442695040888963407:Int))) (2 ^ (min (tN (33:Int)) (IntKind.bits .i64)))) ^^^ BitVec.ofInt (IntKind.bits .i64) (Int.fdiv (wI ((wI (i0.2.2*(6364136223846793005:Int)))+(1442695040888963407:Int))) (2 ^ (min (tN (45:Int)) (IntKind.bits .i64)))))))&&&BitVec.ofInt (IntKind.bits .i64) (255:Int))))+(wI (List.getD i0.1 (tN i0.2.1) 0))))&&&BitVec.ofInt (IntKind.bits .i64) (255:Int)))),((i0.1,((wI (i0.2.1+(1:Int))),(wI ((wI (i0.2.2*(6364136223846793005:Int)))+(1442695040888963407:Int))))),())) ((X19 i0).1,((X19 i0).2,()))))) (Eq ((IntKind.wrap .i64 (BitVec.toNat (BitVec.ofInt (IntKind.bits .i64) (IntKind.wrap .i64 (BitVec.toNat (BitVec.ofInt (IntKind.bits .i64) (Int.fdiv (wI ((wI (i0.2.2*(6364136223846793005:Int)))+(1442695040888963407:Int))) (2 ^ (min (tN (33:Int)) (IntKind.bits .i64)))) ^^^ BitVec.ofInt (IntKind.bits .i64) (Int.fdiv (wI ((wI (i0.2.2*(6364136223846793005:Int)))+(1442695040888963407:Int))) (2 ^ (min (tN (45:Int)) (IntKind.bits .i64)))))))&&&BitVec.ofInt (IntKind.bits .i64) (255:Int)))),((i0.1,(i0.2.1,(wI ((wI (i0.2.2*(6364136223846793005:Int)))+(1442695040888963407:Int))))),())) ((X19 i0).1,((X19 i0).2,()))))))
theorem X2I.pure(i0:U7q)(h:(X4o i0))(hi:Wf X5j.I i0)(hw:Wf X5j.A ()):X2I.F i0:=by
 delta X2I.F ln tN wI
 simp only[Bs,B0,B1,Prod.mk.injEq,X01,Prod.eta]
 obtain⟨c1,c2,c3⟩:=h
 refine⟨by omega,by omega,fun h1=>⟨c1,h1,?_⟩,fun h1=>?_⟩
 · unfold X19 mixH XkV;rw[if_pos h1];exact⟨rfl,rfl⟩
 · unfold X19 mixH XkV;rw[if_neg h1];exact⟨rfl,rfl⟩
theorem X2I.eq:EqS X5j Tryz.f180 [3] [] [] noL (fun i x=>X2I.F i):=by intro i x;kernel_rfl
theorem X2I.ok:X0l Tryz.prog 180 X5j:=X2d X2I.eq Tryz.func180 rfl (by kernel_rfl) fun i x h hi hw=>X2I.pure i h (hi rfl) hw
def X2I.e:GE:=⟨180,X5j,⟨_,Tryz.func180,rfl,rfl⟩,X2I.ok⟩
def X4L:Con:={io:=true,I:=Xgi,A:=(.int .i64),shA:=[.one],R:=(.int .i64),shR:=[(false,1)],pre:=fun i a=>(X77 i a),f:=some fun i a=>((X0V i a).1,((X0V i a).2,()))}
def X1N.F(i0:U7q)(a0:Int):Prop:=(X00 (decide (a0≤(0:Int))) (Eq (0,((i0.1,(i0.2.1,i0.2.2)),())) ((X0V i0 a0).1,((X0V i0 a0).2,()))) (X00 (decide (a0≤(256:Int))) ((X4o (i0.1,(i0.2.1,i0.2.2)))∧∀r1,(Eq r1 ((X19 (i0.1,(i0.2.1,i0.2.2))).1,((X19 (i0.1,(i0.2.1,i0.2.2))).2,())))→(a0≠0∧(Eq ((Int.tmod r1.1 a0),((r1.2.1.1,(r1.2.1.2.1,r1.2.1.2.2)),())) ((X0V i0 a0).1,((X0V i0 a0).2,()))))) ((X4o (i0.1,(i0.2.1,i0.2.2)))∧∀r2,(Eq r2 ((X19 (i0.1,(i0.2.1,i0.2.2))).1,((X19 (i0.1,(i0.2.1,i0.2.2))).2,())))→((X4o (r2.2.1.1,(r2.2.1.2.1,r2.2.1.2.2)))∧∀r3,(Eq r3 ((X19 (r2.2.1.1,(r2.2.1.2.1,r2.2.1.2.2))).1,((X19 (r2.2.1.1,(r2.2.1.2.1,r2.2.1.2.2))).2,())))→((X4o (r3.2.1.1,(r3.2.1.2.1,r3.2.1.2.2)))∧∀r4,(Eq r4 ((X19 (r3.2.1.1,(r3.2.1.2.1,r3.2.1.2.2))).1,((X19 (r3.2.1.1,(r3.2.1.2.1,r3.2.1.2.2))).2,())))→((X4o (r4.2.1.1,(r4.2.1.2.1,r4.2.1.2.2)))∧∀r5,(Eq r5 ((X19 (r4.2.1.1,(r4.2.1.2.1,r4.2.1.2.2))).1,((X19 (r4.2.1.1,(r4.2.1.2.1,r4.2.1.2.2))).2,())))→(a0≠0∧(Eq ((Int.tmod (wI ((wI ((wI ((wI (r2.1*(16777216:Int)))+(wI (r3.1*(65536:Int)))))+(wI (r4.1*(256:Int)))))+r5.1)) a0),((r5.2.1.1,(r5.2.1.2.1,r5.2.1.2.2)),())) ((X0V i0 a0).1,((X0V i0 a0).2,()))))))))))
theorem X1N.pure(i0:U7q)(a0:Int)(h:(X77 i0 a0))(hi:Wf X4L.I i0)(hw:Wf X4L.A a0):X1N.F i0 a0:=by
 delta X1N.F wI
 simp only[Bs,B0,B1,Prod.mk.injEq,X01,Prod.eta]
 have hc:X4o i0:=h
 obtain⟨a1,a2,a3⟩:=X8k hc
 obtain⟨b1,b2,b3⟩:=X8k a3
 obtain⟨c1,c2,c3⟩:=X8k b3
 refine⟨fun h1=>?_,fun h1=>⟨fun h2=>⟨hc,by omega,?_⟩,fun h2=>⟨hc,a3,b3,c3,by omega,?_⟩⟩⟩
 · unfold X0V;rw[if_pos h1];exact⟨rfl,rfl⟩
 · unfold X0V;rw[if_neg h1,if_pos h2];exact⟨rfl,rfl⟩
 · unfold X0V;rw[if_neg h1,if_neg h2];exact⟨rfl,rfl⟩
theorem X1N.eq:EqS X4L Tryz.f108 [3] [X2I.e] [] noL (fun i x=>X1N.F i x):=by intro i x;kernel_rfl
theorem X1N.ok:X0l Tryz.prog 108 X4L:=X2d X1N.eq Tryz.func108 rfl (by kernel_rfl) fun i x h hi hw=>X1N.pure i x h (hi rfl) hw
def X1N.e:GE:=⟨108,X4L,⟨_,Tryz.func108,rfl,rfl⟩,X1N.ok⟩
end Go.Proofs.YtcfaphojdacmbaaGreatR.B
