/- More numbers that are drawn. -/
import Derived.Test.YtcfaphojdacmbaaGreatRCDraw
set_option maxRecDepth 100000
set_option linter.unusedVariables false
set_option linter.unusedSimpArgs false
namespace Go.Proofs.YtcfaphojdacmbaaGreatR.B
open Go Go.Proofs.YtcfaphojdacmbaaGreatR.Bv
def XnW(c:Cur)(most:Int)(y:List UInt8×(Cur×Unit)):Prop:=y.1.length≤20∧X4v y.2.1
def XmC(c:Cur)(most:Int):Prop:=X4v c∧0≤most∧most≤18
def txI(c:Cur)(most n:Int)(b:List Int)(i h:Int)(out:List Int):Prop:=X4v (b,i,h)∧0≤n∧n≤19∧out.length+n≤19
def txM(c:Cur)(most n:Int)(b:List Int)(i h:Int)(out:List Int):Nat:=n.toNat
def XqX(c:Cur)(s:List UInt8):Prop:=X4v c∧s.length≤100000
def XbD(c:Cur)(s:List UInt8)(y:List UInt8×(Cur×Unit)):Prop:=y.1.length≤s.length+20∧X4v y.2.1
def X6A:Con:={io:=true,I:=Xgs,B:=.unit,A:=(.int .i64),shA:=[.one],R:=.str,shR:=[(false,1)],pre:=fun i a=>(XmC i a),post:=fun i a y=>(XnW i a y)}
def X2V.F(i0:U7q)(a0:Int):Prop:=((X0E (i0.1,(i0.2.1,i0.2.2)) 4)∧∀r1,(X3n (i0.1,(i0.2.1,i0.2.2)) 4 r1)→((X0E (r1.2.1.1,(r1.2.1.2.1,r1.2.1.2.2)) (wI (a0+(1:Int))))∧∀r2,(X3n (r1.2.1.1,(r1.2.1.2.1,r1.2.1.2.2)) (wI (a0+(1:Int))) r2)→(eS [(0,.box 0 0),(6,.val false [.int .i64 r1.1])] [(0,.box 0 0),(6,.val false [.int .i64 r1.1])]∧((txI i0 a0 r2.1 r2.2.1.1 r2.2.1.2.1 r2.2.1.2.2 ([]:List Int))∧∀(y3:(Int×XoW)),(txI i0 a0 y3.1 y3.2.1 y3.2.2.1 y3.2.2.2.1 y3.2.2.2.2)→(X00 (decide (y3.1>(0:Int))) ((X4v (y3.2.1,(y3.2.2.1,y3.2.2.2.1)))∧∀r4,(Xfi (y3.2.1,(y3.2.2.1,y3.2.2.2.1)) r4)→(X00 (r1.1==(1:Int)) ((2:Int)≠0∧(X00 (r1.1==(2:Int)) ((4:Int)≠0∧(List.length y3.2.2.2.2+List.length [(IntKind.wrap .u8 (wI ((97:Int)+(Int.tmod (Int.tmod r4.1 (2:Int)) (4:Int)))))]≤9223372036854775807∧((List.length y3.2.2.2.2+List.length [(IntKind.wrap .u8 (wI ((97:Int)+(Int.tmod (Int.tmod r4.1 (2:Int)) (4:Int)))))])*1≤140737488355328∧(eS [(0,.box 0 0),(6,.val false [.int .i64 r1.1])] [(0,.box 0 0),(6,.val false [.int .i64 r1.1])]∧(txI i0 a0 (wI (y3.1 - (1:Int))) r4.2.1.1 r4.2.1.2.1 r4.2.1.2.2 (y3.2.2.2.2++[(IntKind.wrap .u8 (wI ((97:Int)+(Int.tmod (Int.tmod r4.1 (2:Int)) (4:Int)))))]))∧(txM i0 a0 (wI (y3.1 - (1:Int))) r4.2.1.1 r4.2.1.2.1 r4.2.1.2.2 (y3.2.2.2.2++[(IntKind.wrap .u8 (wI ((97:Int)+(Int.tmod (Int.tmod r4.1 (2:Int)) (4:Int)))))]))<(txM i0 a0 y3.1 y3.2.1 y3.2.2.1 y3.2.2.2.1 y3.2.2.2.2))))) (List.length y3.2.2.2.2+List.length [(IntKind.wrap .u8 (Int.tmod r4.1 (2:Int)))]≤9223372036854775807∧((List.length y3.2.2.2.2+List.length [(IntKind.wrap .u8 (Int.tmod r4.1 (2:Int)))])*1≤140737488355328∧(eS [(0,.box 0 0),(6,.val false [.int .i64 r1.1])] [(0,.box 0 0),(6,.val false [.int .i64 r1.1])]∧(txI i0 a0 (wI (y3.1 - (1:Int))) r4.2.1.1 r4.2.1.2.1 r4.2.1.2.2 (y3.2.2.2.2++[(IntKind.wrap .u8 (Int.tmod r4.1 (2:Int)))]))∧(txM i0 a0 (wI (y3.1 - (1:Int))) r4.2.1.1 r4.2.1.2.1 r4.2.1.2.2 (y3.2.2.2.2++[(IntKind.wrap .u8 (Int.tmod r4.1 (2:Int)))]))<(txM i0 a0 y3.1 y3.2.1 y3.2.2.1 y3.2.2.2.1 y3.2.2.2.2)))))) (X00 (r1.1==(2:Int)) ((4:Int)≠0∧(List.length y3.2.2.2.2+List.length [(IntKind.wrap .u8 (wI ((97:Int)+(Int.tmod r4.1 (4:Int)))))]≤9223372036854775807∧((List.length y3.2.2.2.2+List.length [(IntKind.wrap .u8 (wI ((97:Int)+(Int.tmod r4.1 (4:Int)))))])*1≤140737488355328∧(eS [(0,.box 0 0),(6,.val false [.int .i64 r1.1])] [(0,.box 0 0),(6,.val false [.int .i64 r1.1])]∧(txI i0 a0 (wI (y3.1 - (1:Int))) r4.2.1.1 r4.2.1.2.1 r4.2.1.2.2 (y3.2.2.2.2++[(IntKind.wrap .u8 (wI ((97:Int)+(Int.tmod r4.1 (4:Int)))))]))∧(txM i0 a0 (wI (y3.1 - (1:Int))) r4.2.1.1 r4.2.1.2.1 r4.2.1.2.2 (y3.2.2.2.2++[(IntKind.wrap .u8 (wI ((97:Int)+(Int.tmod r4.1 (4:Int)))))]))<(txM i0 a0 y3.1 y3.2.1 y3.2.2.1 y3.2.2.2.1 y3.2.2.2.2))))) (List.length y3.2.2.2.2+List.length [(IntKind.wrap .u8 r4.1)]≤9223372036854775807∧((List.length y3.2.2.2.2+List.length [(IntKind.wrap .u8 r4.1)])*1≤140737488355328∧(eS [(0,.box 0 0),(6,.val false [.int .i64 r1.1])] [(0,.box 0 0),(6,.val false [.int .i64 r1.1])]∧(txI i0 a0 (wI (y3.1 - (1:Int))) r4.2.1.1 r4.2.1.2.1 r4.2.1.2.2 (y3.2.2.2.2++[(IntKind.wrap .u8 r4.1)]))∧(txM i0 a0 (wI (y3.1 - (1:Int))) r4.2.1.1 r4.2.1.2.1 r4.2.1.2.2 (y3.2.2.2.2++[(IntKind.wrap .u8 r4.1)]))<(txM i0 a0 y3.1 y3.2.1 y3.2.2.1 y3.2.2.2.1 y3.2.2.2.2))))))) (XnW i0 a0 ((List.map (fun n=>UInt8.ofNat (Int.toNat n)) y3.2.2.2.2),((y3.2.1,(y3.2.2.1,y3.2.2.2.1)),()))))))))
def X2V.L(i0:U7q)(a0:Int):Nat→Option X0d:=fun p=>Go.Proofs.YtcfaphojdacmbaaGreatR.Bv.look p [(122,{kp:={hold:=[0,6],slots:=[5,7],boxes:=[0],rows:=[{bx:=false,s:=5,i:=0,k:=1000643,e:=5,hot:=true}]},T:=(.pair (.int .i64) (.pair T8q (.pair (.int .i64) (.pair (.int .i64) T8q)))),I:=fun st y=>txI i0 a0 y.1 y.2.1 y.2.2.1 y.2.2.2.1 y.2.2.2.2,μ:=fun st y=>txM i0 a0 y.1 y.2.1 y.2.2.1 y.2.2.2.1 y.2.2.2.2})]
theorem X2V.pure(i0:U7q)(a0:Int)(h:(XmC i0 a0))(hi:Wf X6A.I i0)(hw:Wf X6A.A a0):X2V.F i0 a0:=by
 delta X2V.F wI eS
 simp only[XmC,X4v]at h
 simp only[Bs,B0,B1,Prod.mk.injEq,X01,X3n,X4n,Xa1,X0E,Xaa,X4v,X1v,X82,XbK,Xd3,X4W,Xfi,XmC,XnW,XqX,XbD,Xqv,X8g,txI,txM]
 repeat' (with_reducible (first | (refine And.intro ?_ ?_) | intro _))
 all_goals (try simp (disch:=omega) only[w64,wu8,tn0,tn1,tm1,tm2,List.length_append,List.length_cons,List.length_nil,List.length_map]at*)
 all_goals (try simp (disch:=omega) only[w64,wu8,tn0,tn1,tm1,tm2,List.length_append,List.length_cons,List.length_nil,List.length_map]at*)
 all_goals (try omega)
theorem X2V.eq:EqS X6A Tryz.f221 [9] [X1n.e,X3k.e] [] (fun i x=>X2V.L i x) (fun i x=>X2V.F i x):=by intro i x;kernel_rfl
theorem X2V.ok:X0l Tryz.prog 221 X6A:=X2b X2V.eq Tryz.func221 rfl (by kernel_rfl) fun i x h hi hw=>X2V.pure i x h (hi rfl) hw
def X2V.e:GE:=⟨221,X6A,⟨_,Tryz.func221,rfl,rfl⟩,X2V.ok⟩
def XkH(h:Int):Int:=IntKind.wrap .i64 (IntKind.wrap .i64 (h*6364136223846793005)+1442695040888963407)
def mixH(h:Int):Int:=IntKind.wrap .i64 (BitVec.toNat (BitVec.ofInt (IntKind.bits .i64) (IntKind.wrap .i64 (BitVec.toNat (BitVec.ofInt (IntKind.bits .i64) (Int.fdiv (XkH h) (2 ^ (min (Int.toNat 33) (IntKind.bits .i64)))) ^^^ BitVec.ofInt (IntKind.bits .i64) (Int.fdiv (XkH h) (2 ^ (min (Int.toNat 45) (IntKind.bits .i64)))))))&&&BitVec.ofInt (IntKind.bits .i64) (255:Int)))
def X19(c:Cur):Int×Cur:=if c.2.1<c.1.length then(IntKind.wrap .i64 (BitVec.toNat (BitVec.ofInt (IntKind.bits .i64) (IntKind.wrap .i64 (mixH c.2.2+IntKind.wrap .i64 (c.1.getD c.2.1.toNat 0)))&&&BitVec.ofInt (IntKind.bits .i64) (255:Int))),(c.1,(IntKind.wrap .i64 (c.2.1+1),XkH c.2.2))) else(mixH c.2.2,(c.1,(c.2.1,XkH c.2.2)))
theorem X8m{c:Cur}(h:X4v c):0≤(X19 c).1∧(X19 c).1≤255∧X4v (X19 c).2:=by
 obtain⟨h1,h2,h3⟩:=h
 unfold X19
 split
 · refine⟨(Xd5 _).1,(Xd5 _).2,?_⟩
   simp only[X4v]
   rw[w64 (by omega) (by omega)];omega
 · exact⟨(Xd5 _).1,(Xd5 _).2,h1,h2,h3⟩
def X0V(c:Cur)(n:Int):Int×Cur:=
 if n≤0 then(0,c) else if n≤256 then(Int.tmod (X19 c).1 n,(X19 c).2)
 else(Int.tmod (IntKind.wrap .i64 (IntKind.wrap .i64 (IntKind.wrap .i64 (IntKind.wrap .i64 ((X19 c).1*16777216)+IntKind.wrap .i64 ((X19 (X19 c).2).1*65536))+IntKind.wrap .i64 ((X19 (X19 (X19 c).2).2).1*256))+(X19 (X19 (X19 (X19 c).2).2).2).1)) n,(X19 (X19 (X19 (X19 c).2).2).2).2)
theorem X5r{c:Cur}(h:X4v c){n:Int}(hn:0<n):0≤(X0V c n).1∧(X0V c n).1<n∧X4v (X0V c n).2:=by
 obtain⟨a1,a2,a3⟩:=X8m h
 obtain⟨b1,b2,b3⟩:=X8m a3
 obtain⟨c1,c2,c3⟩:=X8m b3
 obtain⟨d1,d2,d3⟩:=X8m c3
 unfold X0V
 rw[if_neg (by omega)]
 split
 · exact⟨Int.tmod_nonneg _ a1,Int.tmod_lt_of_pos _ hn,a3⟩
 · refine⟨Int.tmod_nonneg _ ?_,Int.tmod_lt_of_pos _ hn,d3⟩
   rw[w64 (x:=(X19 c).1*16777216) (by omega) (by omega),w64 (x:=(X19 (X19 c).2).1*65536) (by omega) (by omega),w64 (x:=(X19 (X19 (X19 c).2).2).1*256) (by omega) (by omega),w64 (x:=(X19 c).1*16777216+(X19 (X19 c).2).1*65536) (by omega) (by omega),w64 (x:=(X19 c).1*16777216+(X19 (X19 c).2).1*65536+(X19 (X19 (X19 c).2).2).1*256) (by omega) (by omega),w64 (by omega) (by omega)]
   omega
def X7n(c:Cur)(n:Int):Prop:=X4v c
def X5n:Con:={io:=true,I:=Xgs,A:=.unit,shA:=[],R:=(.int .i64),shR:=[(false,1)],pre:=fun i a=>(X4v i),f:=some fun i a=>((X19 i).1,((X19 i).2,()))}
def X2L.F(i0:U7q):Prop:=(0≤(33:Int)∧(0≤(45:Int)∧(X00 (decide (i0.2.1<(ln i0.1))) (0≤i0.2.1∧(i0.2.1<(ln i0.1)∧(Eq ((IntKind.wrap .i64 (BitVec.toNat (BitVec.ofInt (IntKind.bits .i64) (wI ((IntKind.wrap .i64 (BitVec.toNat (BitVec.ofInt (IntKind.bits .i64) (IntKind.wrap .i64 (BitVec.toNat (BitVec.ofInt (IntKind.bits .i64) (Int.fdiv (wI ((wI (i0.2.2*(6364136223846793005:Int)))+(1442695040888963407:Int))) (2 ^ (min (tN (33:Int)) (IntKind.bits .i64)))) ^^^ BitVec.ofInt (IntKind.bits .i64) (Int.fdiv (wI ((wI (i0.2.2*(6364136223846793005:Int)))+(1442695040888963407:Int))) (2 ^ (min (tN (45:Int)) (IntKind.bits .i64)))))))&&&BitVec.ofInt (IntKind.bits .i64) (255:Int))))+(wI (List.getD i0.1 (tN i0.2.1) 0))))&&&BitVec.ofInt (IntKind.bits .i64) (255:Int)))),((i0.1,((wI (i0.2.1+(1:Int))),(wI ((wI (i0.2.2*(6364136223846793005:Int)))+(1442695040888963407:Int))))),())) ((X19 i0).1,((X19 i0).2,()))))) (Eq ((IntKind.wrap .i64 (BitVec.toNat (BitVec.ofInt (IntKind.bits .i64) (IntKind.wrap .i64 (BitVec.toNat (BitVec.ofInt (IntKind.bits .i64) (Int.fdiv (wI ((wI (i0.2.2*(6364136223846793005:Int)))+(1442695040888963407:Int))) (2 ^ (min (tN (33:Int)) (IntKind.bits .i64)))) ^^^ BitVec.ofInt (IntKind.bits .i64) (Int.fdiv (wI ((wI (i0.2.2*(6364136223846793005:Int)))+(1442695040888963407:Int))) (2 ^ (min (tN (45:Int)) (IntKind.bits .i64)))))))&&&BitVec.ofInt (IntKind.bits .i64) (255:Int)))),((i0.1,(i0.2.1,(wI ((wI (i0.2.2*(6364136223846793005:Int)))+(1442695040888963407:Int))))),())) ((X19 i0).1,((X19 i0).2,()))))))
theorem X2L.pure(i0:U7q)(h:(X4v i0))(hi:Wf X5n.I i0)(hw:Wf X5n.A ()):X2L.F i0:=by
 delta X2L.F ln tN wI
 simp only[Bs,B0,B1,Prod.mk.injEq,X01,Prod.eta]
 obtain⟨c1,c2,c3⟩:=h
 refine⟨by omega,by omega,fun h1=>⟨c1,h1,?_⟩,fun h1=>?_⟩
 · unfold X19 mixH XkH;rw[if_pos h1];exact⟨rfl,rfl⟩
 · unfold X19 mixH XkH;rw[if_neg h1];exact⟨rfl,rfl⟩
theorem X2L.eq:EqS X5n Tryz.f180 [3] [] [] noL (fun i x=>X2L.F i):=by intro i x;kernel_rfl
theorem X2L.ok:X0l Tryz.prog 180 X5n:=X2b X2L.eq Tryz.func180 rfl (by kernel_rfl) fun i x h hi hw=>X2L.pure i h (hi rfl) hw
def X2L.e:GE:=⟨180,X5n,⟨_,Tryz.func180,rfl,rfl⟩,X2L.ok⟩
def X4L:Con:={io:=true,I:=Xgs,A:=(.int .i64),shA:=[.one],R:=(.int .i64),shR:=[(false,1)],pre:=fun i a=>(X7n i a),f:=some fun i a=>((X0V i a).1,((X0V i a).2,()))}
def X1M.F(i0:U7q)(a0:Int):Prop:=(X00 (decide (a0≤(0:Int))) (Eq (0,((i0.1,(i0.2.1,i0.2.2)),())) ((X0V i0 a0).1,((X0V i0 a0).2,()))) (X00 (decide (a0≤(256:Int))) ((X4v (i0.1,(i0.2.1,i0.2.2)))∧∀r1,(Eq r1 ((X19 (i0.1,(i0.2.1,i0.2.2))).1,((X19 (i0.1,(i0.2.1,i0.2.2))).2,())))→(a0≠0∧(Eq ((Int.tmod r1.1 a0),((r1.2.1.1,(r1.2.1.2.1,r1.2.1.2.2)),())) ((X0V i0 a0).1,((X0V i0 a0).2,()))))) ((X4v (i0.1,(i0.2.1,i0.2.2)))∧∀r2,(Eq r2 ((X19 (i0.1,(i0.2.1,i0.2.2))).1,((X19 (i0.1,(i0.2.1,i0.2.2))).2,())))→((X4v (r2.2.1.1,(r2.2.1.2.1,r2.2.1.2.2)))∧∀r3,(Eq r3 ((X19 (r2.2.1.1,(r2.2.1.2.1,r2.2.1.2.2))).1,((X19 (r2.2.1.1,(r2.2.1.2.1,r2.2.1.2.2))).2,())))→((X4v (r3.2.1.1,(r3.2.1.2.1,r3.2.1.2.2)))∧∀r4,(Eq r4 ((X19 (r3.2.1.1,(r3.2.1.2.1,r3.2.1.2.2))).1,((X19 (r3.2.1.1,(r3.2.1.2.1,r3.2.1.2.2))).2,())))→((X4v (r4.2.1.1,(r4.2.1.2.1,r4.2.1.2.2)))∧∀r5,(Eq r5 ((X19 (r4.2.1.1,(r4.2.1.2.1,r4.2.1.2.2))).1,((X19 (r4.2.1.1,(r4.2.1.2.1,r4.2.1.2.2))).2,())))→(a0≠0∧(Eq ((Int.tmod (wI ((wI ((wI ((wI (r2.1*(16777216:Int)))+(wI (r3.1*(65536:Int)))))+(wI (r4.1*(256:Int)))))+r5.1)) a0),((r5.2.1.1,(r5.2.1.2.1,r5.2.1.2.2)),())) ((X0V i0 a0).1,((X0V i0 a0).2,()))))))))))
theorem X1M.pure(i0:U7q)(a0:Int)(h:(X7n i0 a0))(hi:Wf X4L.I i0)(hw:Wf X4L.A a0):X1M.F i0 a0:=by
 delta X1M.F wI
 simp only[Bs,B0,B1,Prod.mk.injEq,X01,Prod.eta]
 have hc:X4v i0:=h
 obtain⟨a1,a2,a3⟩:=X8m hc
 obtain⟨b1,b2,b3⟩:=X8m a3
 obtain⟨c1,c2,c3⟩:=X8m b3
 refine⟨fun h1=>?_,fun h1=>⟨fun h2=>⟨hc,by omega,?_⟩,fun h2=>⟨hc,a3,b3,c3,by omega,?_⟩⟩⟩
 · unfold X0V;rw[if_pos h1];exact⟨rfl,rfl⟩
 · unfold X0V;rw[if_neg h1,if_pos h2];exact⟨rfl,rfl⟩
 · unfold X0V;rw[if_neg h1,if_neg h2];exact⟨rfl,rfl⟩
theorem X1M.eq:EqS X4L Tryz.f108 [3] [X2L.e] [] noL (fun i x=>X1M.F i x):=by intro i x;kernel_rfl
theorem X1M.ok:X0l Tryz.prog 108 X4L:=X2b X1M.eq Tryz.func108 rfl (by kernel_rfl) fun i x h hi hw=>X1M.pure i x h (hi rfl) hw
def X1M.e:GE:=⟨108,X4L,⟨_,Tryz.func108,rfl,rfl⟩,X1M.ok⟩
end Go.Proofs.YtcfaphojdacmbaaGreatR.B
