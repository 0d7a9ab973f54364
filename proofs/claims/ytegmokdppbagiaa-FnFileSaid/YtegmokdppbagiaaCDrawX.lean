/- More numbers that are drawn. -/
import Derived.Test.YtegmokdppbagiaaCDraw
set_option maxRecDepth 100000
set_option linter.unusedVariables false
set_option linter.unusedSimpArgs false
namespace Go.Proofs.Ytegmokdppbagiaa.B
open Go Go.Proofs.Ytegmokdppbagiaa.Bv
def Xe7(h:Int):Int:=IntKind.wrap .i64 (IntKind.wrap .i64 (h*6364136223846793005)+1442695040888963407)
def mixH(h:Int):Int:=IntKind.wrap .i64 (BitVec.toNat (BitVec.ofInt (IntKind.bits .i64) (IntKind.wrap .i64 (BitVec.toNat (BitVec.ofInt (IntKind.bits .i64) (Int.fdiv (Xe7 h) (2 ^ (min (Int.toNat 33) (IntKind.bits .i64)))) ^^^ BitVec.ofInt (IntKind.bits .i64) (Int.fdiv (Xe7 h) (2 ^ (min (Int.toNat 45) (IntKind.bits .i64)))))))&&&BitVec.ofInt (IntKind.bits .i64) (255:Int)))
def X0E(c:Cur):Int×Cur:=if c.2.1<c.1.length then(IntKind.wrap .i64 (BitVec.toNat (BitVec.ofInt (IntKind.bits .i64) (IntKind.wrap .i64 (mixH c.2.2+IntKind.wrap .i64 (c.1.getD c.2.1.toNat 0)))&&&BitVec.ofInt (IntKind.bits .i64) (255:Int))),(c.1,(IntKind.wrap .i64 (c.2.1+1),Xe7 c.2.2))) else(mixH c.2.2,(c.1,(c.2.1,Xe7 c.2.2)))
theorem X5k{c:Cur}(h:X4I c):0≤(X0E c).1∧(X0E c).1≤255∧X4I (X0E c).2:=by
 obtain⟨h1,h2,h3⟩:=h
 unfold X0E
 split
 · refine⟨(X88 _).1,(X88 _).2,?_⟩
   simp only[X4I]
   rw[w64 (by omega) (by omega)];omega
 · exact⟨(X88 _).1,(X88 _).2,h1,h2,h3⟩
def X1F(c:Cur)(n:Int):Int×Cur:=
 if n≤0 then(0,c) else if n≤256 then(Int.tmod (X0E c).1 n,(X0E c).2)
 else(Int.tmod (IntKind.wrap .i64 (IntKind.wrap .i64 (IntKind.wrap .i64 (IntKind.wrap .i64 ((X0E c).1*16777216)+IntKind.wrap .i64 ((X0E (X0E c).2).1*65536))+IntKind.wrap .i64 ((X0E (X0E (X0E c).2).2).1*256))+(X0E (X0E (X0E (X0E c).2).2).2).1)) n,(X0E (X0E (X0E (X0E c).2).2).2).2)
theorem X7e{c:Cur}(h:X4I c){n:Int}(hn:0<n):0≤(X1F c n).1∧(X1F c n).1<n∧X4I (X1F c n).2:=by
 obtain⟨a1,a2,a3⟩:=X5k h
 obtain⟨b1,b2,b3⟩:=X5k a3
 obtain⟨c1,c2,c3⟩:=X5k b3
 obtain⟨d1,d2,d3⟩:=X5k c3
 unfold X1F
 rw[if_neg (by omega)]
 split
 · exact⟨Int.tmod_nonneg _ a1,Int.tmod_lt_of_pos _ hn,a3⟩
 · refine⟨Int.tmod_nonneg _ ?_,Int.tmod_lt_of_pos _ hn,d3⟩
   rw[w64 (x:=(X0E c).1*16777216) (by omega) (by omega),w64 (x:=(X0E (X0E c).2).1*65536) (by omega) (by omega),w64 (x:=(X0E (X0E (X0E c).2).2).1*256) (by omega) (by omega),w64 (x:=(X0E c).1*16777216+(X0E (X0E c).2).1*65536) (by omega) (by omega),w64 (x:=(X0E c).1*16777216+(X0E (X0E c).2).1*65536+(X0E (X0E (X0E c).2).2).1*256) (by omega) (by omega),w64 (by omega) (by omega)]
   omega
def X99(c:Cur)(n:Int):Prop:=X4I c
def X2E:Con:={io:=true,I:=(.pair T6q T0q),A:=.unit,shA:=[],R:=(.int .i64),shR:=[(false,1)],pre:=fun i a=>(X4I i),f:=some fun i a=>((X0E i).1,((X0E i).2,()))}
def X1k.F(i0:U5q):Prop:=(0≤(33:Int)∧(0≤(45:Int)∧(X04 (decide (i0.2.1<(ln i0.1))) (0≤i0.2.1∧(i0.2.1<(ln i0.1)∧(Eq ((IntKind.wrap .i64 (BitVec.toNat (BitVec.ofInt (IntKind.bits .i64) (wI ((IntKind.wrap .i64 (BitVec.toNat (BitVec.ofInt (IntKind.bits .i64) (IntKind.wrap .i64 (BitVec.toNat (BitVec.ofInt (IntKind.bits .i64) (Int.fdiv (wI ((wI (i0.2.2*(6364136223846793005:Int)))+(1442695040888963407:Int))) (2 ^ (min (tN (33:Int)) (IntKind.bits .i64)))) ^^^ BitVec.ofInt (IntKind.bits .i64) (Int.fdiv (wI ((wI (i0.2.2*(6364136223846793005:Int)))+(1442695040888963407:Int))) (2 ^ (min (tN (45:Int)) (IntKind.bits .i64)))))))&&&BitVec.ofInt (IntKind.bits .i64) (255:Int))))+(wI (List.getD i0.1 (tN i0.2.1) 0))))&&&BitVec.ofInt (IntKind.bits .i64) (255:Int)))),((i0.1,((wI (i0.2.1+(1:Int))),(wI ((wI (i0.2.2*(6364136223846793005:Int)))+(1442695040888963407:Int))))),())) ((X0E i0).1,((X0E i0).2,()))))) (Eq ((IntKind.wrap .i64 (BitVec.toNat (BitVec.ofInt (IntKind.bits .i64) (IntKind.wrap .i64 (BitVec.toNat (BitVec.ofInt (IntKind.bits .i64) (Int.fdiv (wI ((wI (i0.2.2*(6364136223846793005:Int)))+(1442695040888963407:Int))) (2 ^ (min (tN (33:Int)) (IntKind.bits .i64)))) ^^^ BitVec.ofInt (IntKind.bits .i64) (Int.fdiv (wI ((wI (i0.2.2*(6364136223846793005:Int)))+(1442695040888963407:Int))) (2 ^ (min (tN (45:Int)) (IntKind.bits .i64)))))))&&&BitVec.ofInt (IntKind.bits .i64) (255:Int)))),((i0.1,(i0.2.1,(wI ((wI (i0.2.2*(6364136223846793005:Int)))+(1442695040888963407:Int))))),())) ((X0E i0).1,((X0E i0).2,()))))))
theorem X1k.pure(i0:U5q)(h:(X4I i0))(hi:Wf X2E.I i0)(hw:Wf X2E.A ()):X1k.F i0:=by
 delta X1k.F ln tN wI
 simp only[Bs,B0,B1,Prod.mk.injEq,X06,Prod.eta]
 obtain⟨c1,c2,c3⟩:=h
 refine⟨by omega,by omega,fun h1=>⟨c1,h1,?_⟩,fun h1=>?_⟩
 · unfold X0E mixH Xe7;rw[if_pos h1];exact⟨rfl,rfl⟩
 · unfold X0E mixH Xe7;rw[if_neg h1];exact⟨rfl,rfl⟩
theorem X1k.eq:EqS X2E Try.f109 [3] [] [] noL (fun i x=>X1k.F i):=by intro i x;kernel_rfl
theorem X1k.ok:X11 Try.prog 109 X2E:=X3V X1k.eq Try.func109 rfl (by kernel_rfl) fun i x h hi hw=>X1k.pure i h (hi rfl) hw
def X1k.e:GE:=⟨109,X2E,⟨_,Try.func109,rfl,rfl⟩,X1k.ok⟩
def X2j:Con:={io:=true,I:=(.pair T6q T0q),A:=(.int .i64),shA:=[.one],R:=(.int .i64),shR:=[(false,1)],pre:=fun i a=>(X99 i a),f:=some fun i a=>((X1F i a).1,((X1F i a).2,()))}
def X0Y.F(i0:U5q)(a0:Int):Prop:=(X04 (decide (a0≤(0:Int))) (Eq (0,((i0.1,(i0.2.1,i0.2.2)),())) ((X1F i0 a0).1,((X1F i0 a0).2,()))) (X04 (decide (a0≤(256:Int))) ((X4I (i0.1,(i0.2.1,i0.2.2)))∧∀r1,(Eq r1 ((X0E (i0.1,(i0.2.1,i0.2.2))).1,((X0E (i0.1,(i0.2.1,i0.2.2))).2,())))→(a0≠0∧(Eq ((Int.tmod r1.1 a0),((r1.2.1.1,(r1.2.1.2.1,r1.2.1.2.2)),())) ((X1F i0 a0).1,((X1F i0 a0).2,()))))) ((X4I (i0.1,(i0.2.1,i0.2.2)))∧∀r2,(Eq r2 ((X0E (i0.1,(i0.2.1,i0.2.2))).1,((X0E (i0.1,(i0.2.1,i0.2.2))).2,())))→((X4I (r2.2.1.1,(r2.2.1.2.1,r2.2.1.2.2)))∧∀r3,(Eq r3 ((X0E (r2.2.1.1,(r2.2.1.2.1,r2.2.1.2.2))).1,((X0E (r2.2.1.1,(r2.2.1.2.1,r2.2.1.2.2))).2,())))→((X4I (r3.2.1.1,(r3.2.1.2.1,r3.2.1.2.2)))∧∀r4,(Eq r4 ((X0E (r3.2.1.1,(r3.2.1.2.1,r3.2.1.2.2))).1,((X0E (r3.2.1.1,(r3.2.1.2.1,r3.2.1.2.2))).2,())))→((X4I (r4.2.1.1,(r4.2.1.2.1,r4.2.1.2.2)))∧∀r5,(Eq r5 ((X0E (r4.2.1.1,(r4.2.1.2.1,r4.2.1.2.2))).1,((X0E (r4.2.1.1,(r4.2.1.2.1,r4.2.1.2.2))).2,())))→(a0≠0∧(Eq ((Int.tmod (wI ((wI ((wI ((wI (r2.1*(16777216:Int)))+(wI (r3.1*(65536:Int)))))+(wI (r4.1*(256:Int)))))+r5.1)) a0),((r5.2.1.1,(r5.2.1.2.1,r5.2.1.2.2)),())) ((X1F i0 a0).1,((X1F i0 a0).2,()))))))))))
theorem X0Y.pure(i0:U5q)(a0:Int)(h:(X99 i0 a0))(hi:Wf X2j.I i0)(hw:Wf X2j.A a0):X0Y.F i0 a0:=by
 delta X0Y.F wI
 simp only[Bs,B0,B1,Prod.mk.injEq,X06,Prod.eta]
 have hc:X4I i0:=h
 obtain⟨a1,a2,a3⟩:=X5k hc
 obtain⟨b1,b2,b3⟩:=X5k a3
 obtain⟨c1,c2,c3⟩:=X5k b3
 refine⟨fun h1=>?_,fun h1=>⟨fun h2=>⟨hc,by omega,?_⟩,fun h2=>⟨hc,a3,b3,c3,by omega,?_⟩⟩⟩
 · unfold X1F;rw[if_pos h1];exact⟨rfl,rfl⟩
 · unfold X1F;rw[if_neg h1,if_pos h2];exact⟨rfl,rfl⟩
 · unfold X1F;rw[if_neg h1,if_neg h2];exact⟨rfl,rfl⟩
theorem X0Y.eq:EqS X2j Try.f78 [3] [X1k.e] [] noL (fun i x=>X0Y.F i x):=by intro i x;kernel_rfl
theorem X0Y.ok:X11 Try.prog 78 X2j:=X3V X0Y.eq Try.func78 rfl (by kernel_rfl) fun i x h hi hw=>X0Y.pure i x h (hi rfl) hw
def X0Y.e:GE:=⟨78,X2j,⟨_,Try.func78,rfl,rfl⟩,X0Y.ok⟩
end Go.Proofs.Ytegmokdppbagiaa.B
