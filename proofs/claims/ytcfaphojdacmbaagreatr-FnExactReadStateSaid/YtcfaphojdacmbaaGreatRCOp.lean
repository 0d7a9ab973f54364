/- Calls and commands:shown and read. -/
import Derived.Test.YtcfaphojdacmbaaGreatRCRBlk
import Derived.Test.YtcfaphojdacmbaaGreatRCSer
import Derived.Test.YtcfaphojdacmbaaGreatRCRd
set_option linter.unusedVariables false
set_option linter.unusedSimpArgs false
namespace Go.Proofs.YtcfaphojdacmbaaGreatR.B
open Go Go.Proofs.YtcfaphojdacmbaaGreatR.Bv
abbrev Op:=Int×(List UInt8×(Int×(Int×List UInt8)))
def X8d(s:List UInt8):Nat→Int→List Int→List Int×Int
 | 0,p,out=>(out,p)
 | n+1,p,out=>if p>s.length then(out,-1) else if (X0f (s.drop p.toNat)).2=0 then(out,-1) else X8d s n (p+(X0f (s.drop p.toNat)).2) (out++[(X0f (s.drop p.toNat)).1])
def X07(s:List UInt8)(p n:Int):List Int×Int:=X8d s n.toNat p []
def p13(s:List UInt8)(p n:Int):Prop:=s.length≤maxLen∧0≤p∧0≤n∧n≤1000
def v13I(s:List UInt8)(p0 n p i:Int)(out:List Int):Prop:=0≤i∧i≤n∧0≤p∧(out.length:Int)=i∧X8d s (n - i).toNat p out=X07 s p0 n
def v13M(s:List UInt8)(p0 n p i:Int)(out:List Int):Nat:=(n - i).toNat
def X7T:Con:={A:=(.pair .str T0q),shA:=[.one,.one,.one],R:=(.pair Xef (.int .i64)),shR:=[(false,1),(false,1)],pre:=fun _ a=>(p13 a.1 a.2.1 a.2.2),f:=some fun _ a=>((X07 a.1 a.2.1 a.2.2),((),()))}
def X21.F(a0:U5q)(a1:Int)(a2:Int):Prop:=(eS [(0,.val false [.str a0]),(2,.val false [.int .i64 a2])] [(0,.val false [.str a0]),(2,.val false [.int .i64 a2])]∧((v13I a0 a1 a2 a1 0 ([]:List Int))∧∀(y1:(Int×(Int×(List Int)))),(v13I a0 a1 a2 y1.1 y1.2.1 y1.2.2)→(X00 (decide (y1.2.1<a2)) (X00 (decide (y1.1>(ln a0))) (Eq ((y1.2.2,(-1)),((),())) ((X07 a0 a1 a2),((),()))) (0≤y1.1∧(y1.1≤(ln a0)∧(True∧∀r2,(Eq r2 ((X0f (List.drop (tN y1.1) a0)),((),())))→(X00 (r2.1.2==(0:Int)) (Eq ((y1.2.2,(-1)),((),())) ((X07 a0 a1 a2),((),()))) (List.length y1.2.2+List.length [r2.1.1]≤9223372036854775807∧((List.length y1.2.2+List.length [r2.1.1])*8≤140737488355328∧(eS [(0,.val false [.str a0]),(2,.val false [.int .i64 a2])] [(0,.val false [.str a0]),(2,.val false [.int .i64 a2])]∧(v13I a0 a1 a2 (wI (y1.1+r2.1.2)) (wI (y1.2.1+(1:Int))) (y1.2.2++[r2.1.1]))∧(v13M a0 a1 a2 (wI (y1.1+r2.1.2)) (wI (y1.2.1+(1:Int))) (y1.2.2++[r2.1.1]))<(v13M a0 a1 a2 y1.1 y1.2.1 y1.2.2))))))))) (Eq ((y1.2.2,y1.1),((),())) ((X07 a0 a1 a2),((),()))))))
def X21.L(a0:U5q)(a1:Int)(a2:Int):Nat→Option X0e:=fun p=>Go.Proofs.YtcfaphojdacmbaaGreatR.Bv.look p [(58,{kp:={hold:=[0,2],slots:=[1,8,9],boxes:=[],rows:=[{bx:=false,s:=8,i:=0,k:=1001027,e:=3,hot:=true}]},T:=(.pair (.int .i64) (.pair (.int .i64) Xef)),I:=fun st y=>v13I a0 a1 a2 y.1 y.2.1 y.2.2,μ:=fun st y=>v13M a0 a1 a2 y.1 y.2.1 y.2.2})]
theorem X21.pure(a0:U5q)(a1:Int)(a2:Int)(h:(p13 a0 a1 a2))(hw:Wf X7T.A (a0,a1,a2)):X21.F a0 a1 a2:=by
 delta X21.F ln tN wI eS
 simp only[Bs,B0,B1,Prod.mk.injEq,X01,Prod.eta]
 obtain⟨hl,q1,q2,q3⟩:=h
 unfold maxLen at hl
 refine⟨⟨by omega,by omega,q1,rfl,by simp[X07]⟩,fun y hI=>?_⟩
 obtain⟨p,i,out⟩:=y
 simp only at hI ⊢
 obtain⟨h1,h2,h3,h5,h6⟩:=hI
 have hb:=X2f (a0.drop p.toNat)
 rw[List.length_drop]at hb
 refine⟨fun hi=>?_,fun hi=>?_⟩
 · have e:(a2 - i).toNat=(a2 - i - 1).toNat+1:=by omega
   rw[e,X8d]at h6
   refine⟨fun hp=>?_,fun hp=>⟨h3,by omega,fun hz=>?_,fun hz=>?_⟩⟩
   · rw[if_pos hp]at h6;exact h6
   · rw[if_neg hp,if_pos hz]at h6;exact h6
   · rw[if_neg hp,if_neg hz]at h6
     rw[w64 (x:=p+(X0f (a0.drop p.toNat)).2) (by omega) (by omega),w64 (x:=i+1) (by omega) (by omega)]
     exact⟨by omega,by omega,⟨by omega,by omega,by omega,by simp;omega,by rw[show(a2 - (i+1)).toNat=(a2 - i - 1).toNat by omega];exact h6⟩,by unfold v13M;omega⟩
 · rw[show(a2 - i).toNat=0 by omega,X8d]at h6
   exact h6
set_option maxRecDepth 100000 in
theorem X21.eq:EqS X7T Tryz.f128 [138,3] [X1L.e] [] (fun i x=>X21.L x.1 x.2.1 x.2.2) (fun i x=>X21.F x.1 x.2.1 x.2.2):=by intro i x;kernel_rfl
theorem X21.ok:X0k Tryz.prog 128 X7T:=X1Z X21.eq Tryz.func128 rfl (by kernel_rfl) fun i x h hi hw=>X21.pure x.1 x.2.1 x.2.2 h hw
def X21.e:GE:=⟨128,X7T,⟨_,Tryz.func128,rfl,rfl⟩,X21.ok⟩
end Go.Proofs.YtcfaphojdacmbaaGreatR.B
