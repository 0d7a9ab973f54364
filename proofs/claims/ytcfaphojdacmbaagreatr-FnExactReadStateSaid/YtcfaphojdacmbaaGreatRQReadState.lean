/- What the law computes. -/
import Derived.Test.YtcfaphojdacmbaaGreatRCLawS
import Derived.Test.YtcfaphojdacmbaaGreatRCLawE
import Derived.Test.YtcfaphojdacmbaaGreatRCRst1
import Derived.Test.YtcfaphojdacmbaaGreatRCTState
set_option linter.unusedVariables false
set_option linter.unusedSimpArgs false
namespace Go.Proofs.YtcfaphojdacmbaaGreatR.B
open Go Go.Proofs.YtcfaphojdacmbaaGreatR.Bv
theorem Xk9(t:Str):tot (X7u t)≤305:=by
 unfold X7u;split
 · decide
 · unfold X0g;split
   · rename_i h;exact(Xau h.1.1).2.1
   · decide
theorem Xq9:∀l:List Bkt,cL X0s l=2*l.length
 | []=>by simp[cL]
 | x::l=>by rw[X3Z,Xq9 l,show X0s x=2 from rfl,List.length_cons];omega
theorem Xqp:∀l:List X8m,cL X0u l=6*l.length
 | []=>by simp[cL]
 | x::l=>by rw[X3Z,Xqp l,show X0u x=6 from rfl,List.length_cons];omega
theorem Xpr(s:Str):0≤X4d (X2M s).1∧X4d (X2M s).1≤10000:=by
 refine⟨Xm9 _,?_⟩
 unfold X2M;split
 · rename_i h
   have hX:=h.choose_spec
   have K:=Xca hX.1
   have k1:=K.nb
   have k2:=K.nf
   have k3:=K.ns
   have k4:=(X1Q hX.1).ch
   have k5:=Xk9 (X0o h.choose.2.2.2.2.1.2.1)
   rw[k4]at k5
   have h1:=Xq9 h.choose.2.2.2.1
   have h2:=Xnp h.choose.2.2.2.2.1.2.1
   have h3:=XqA h.choose.2.2.2.2.1.2.2
   have h4:=Xqp h.choose.2.2.2.2.2
   simp only[X4d]
   omega
 · decide
def X10.F(a0:U5q):Prop:=(X00 (decide ((ln a0)>(1048576:Int))) (Eq (true,((),())) (true,((),()))) ((XlT a0)∧∀r1,(Eq r1 ((X2M a0),((),())))→((XlT a0)∧∀r2,(Eq r2 ((X2M a0),((),())))→(True∧∀r3,(Eq r3 ((X4n (r2.1.1.1,(r2.1.1.2.1,(r2.1.1.2.2.1,(r2.1.1.2.2.2.1,((r2.1.1.2.2.2.2.1.1,(r2.1.1.2.2.2.2.1.2.1,r2.1.1.2.2.2.2.1.2.2)),r2.1.1.2.2.2.2.2))))) (r1.1.1.1,(r1.1.1.2.1,(r1.1.1.2.2.1,(r1.1.1.2.2.2.1,((r1.1.1.2.2.2.2.1.1,(r1.1.1.2.2.2.2.1.2.1,r1.1.1.2.2.2.2.1.2.2)),r1.1.1.2.2.2.2.2)))))),((),())))→(X00 (!r3.1) (Eq (false,((),())) (true,((),()))) (X00 (!(r2.1.2==r1.1.2)) (Eq (false,((),())) (true,((),()))) ((X7g (r2.1.1.1,(r2.1.1.2.1,(r2.1.1.2.2.1,(r2.1.1.2.2.2.1,((r2.1.1.2.2.2.2.1.1,(r2.1.1.2.2.2.2.1.2.1,r2.1.1.2.2.2.2.1.2.2)),r2.1.1.2.2.2.2.2))))) 1)∧∀r4,(Eq r4 ((X8j (r2.1.1.1,(r2.1.1.2.1,(r2.1.1.2.2.1,(r2.1.1.2.2.2.1,((r2.1.1.2.2.2.2.1.1,(r2.1.1.2.2.2.2.1.2.1,r2.1.1.2.2.2.2.1.2.2)),r2.1.1.2.2.2.2.2))))) 1).1,((),(X8j (r2.1.1.1,(r2.1.1.2.1,(r2.1.1.2.2.1,(r2.1.1.2.2.2.1,((r2.1.1.2.2.2.2.1.1,(r2.1.1.2.2.2.2.1.2.1,r2.1.1.2.2.2.2.1.2.2)),r2.1.1.2.2.2.2.2))))) 1).2)))→((X7g (r2.1.1.1,(r2.1.1.2.1,(r2.1.1.2.2.1,(r4.2.2.1,((r2.1.1.2.2.2.2.1.1,(r4.2.2.2.1,r4.2.2.2.2.1)),r4.2.2.2.2.2))))) 1)∧∀r5,(Eq r5 ((X5Z (r2.1.1.1,(r2.1.1.2.1,(r2.1.1.2.2.1,(r4.2.2.1,((r2.1.1.2.2.2.2.1.1,(r4.2.2.2.1,r4.2.2.2.2.1)),r4.2.2.2.2.2))))) 1),((),())))→(X00 (decide (r5.1<(0:Int))) (Eq (false,((),())) (true,((),()))) (X00 (r5.1 !=r4.1) (Eq (false,((),())) (true,((),()))) ((XlT a0)∧∀r6,(Eq r6 ((X2M a0),((),())))→(True∧∀r7,(Eq r7 ((X4n (r6.1.1.1,(r6.1.1.2.1,(r6.1.1.2.2.1,(r6.1.1.2.2.2.1,((r6.1.1.2.2.2.2.1.1,(r6.1.1.2.2.2.2.1.2.1,r6.1.1.2.2.2.2.1.2.2)),r6.1.1.2.2.2.2.2))))) (r1.1.1.1,(r1.1.1.2.1,(r1.1.1.2.2.1,(r1.1.1.2.2.2.1,((r1.1.1.2.2.2.2.1.1,(r1.1.1.2.2.2.2.1.2.1,r1.1.1.2.2.2.2.1.2.2)),r1.1.1.2.2.2.2.2)))))),((),())))→(X00 (!r7.1) (Eq (false,((),())) (true,((),()))) (X00 (!(r6.1.2==r1.1.2)) (Eq (false,((),())) (true,((),()))) ((X7g (r2.1.1.1,(r2.1.1.2.1,(r2.1.1.2.2.1,(r4.2.2.1,((r2.1.1.2.2.2.2.1.1,(r4.2.2.2.1,r4.2.2.2.2.1)),r4.2.2.2.2.2))))) 1)∧∀r8,(Eq r8 ((X5Z (r2.1.1.1,(r2.1.1.2.1,(r2.1.1.2.2.1,(r4.2.2.1,((r2.1.1.2.2.2.2.1.1,(r4.2.2.2.1,r4.2.2.2.2.1)),r4.2.2.2.2.2))))) 1),((),())))→(X00 (decide (r8.1<(0:Int))) (Eq (false,((),())) (true,((),()))) (X00 (r8.1 !=r4.1) (Eq (false,((),())) (true,((),()))) (Eq (true,((),())) (true,((),()))))))))))))))))))))
theorem X10.pure(a0:U5q)(h:WfD .str a0)(hw:Wf (Xkr .str [.one]).A a0):X10.F a0:=by
 delta X10.F ln
 simp only[Bs,B0,B1,Prod.mk.injEq,X01,Prod.eta]
 refine⟨fun _=>trivial,fun h1=>?_⟩
 have hq:XlT a0:=by unfold XlT maxLen;omega
 obtain⟨c0,c1⟩:=Xpr a0
 obtain⟨o1,o2⟩:=XmV (X2M a0).1 1
 have hm2:X7g (X2M a0).1 1:=⟨by omega,by omega⟩
 have hm3:X7g (Xbp (X2M a0).1 1) 1:=⟨by omega,by rw[o2];omega⟩
 have hh:X5Z (Xbp (X2M a0).1 1) 1=1+X4d (X2M a0).1:=by unfold X5Z;rw[X3I o1,o2]
 have hk2:¬(1+X4d (X2M a0).1<0):=by omega
 have he:∀x:Stt,X4n x x=true:=fun x=>by simp[X4n]
 simp only[X8j,XhG]
 simp only[Xbp]at hm3 hh
 simp[hq,hm2,hm3,hh,hk2,he]
set_option maxRecDepth 100000 in
theorem X10.eq:EqS (Xkr .str [.one]) Tryz.f4 [4] [X2l.e,X1A.e,X3p.e,X2o.e,X2n.e] [] noL (fun i x=>X10.F x):=by intro i x;kernel_rfl
theorem X10.ok:X0k Tryz.prog 4 (Xkr .str [.one]):=X1Z X10.eq Tryz.func4 rfl (by kernel_rfl) fun i x h hi hw=>X10.pure x h hw
end Go.Proofs.YtcfaphojdacmbaaGreatR.B
