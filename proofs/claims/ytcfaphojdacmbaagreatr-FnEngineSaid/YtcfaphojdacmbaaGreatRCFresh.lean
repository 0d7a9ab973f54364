/- A code that follows from another. -/
import Derived.Test.YtcfaphojdacmbaaGreatRCSame
import Derived.Test.YtcfaphojdacmbaaGreatRCMrgB
set_option linter.unusedVariables false
set_option linter.unusedSimpArgs false
namespace Go.Proofs.YtcfaphojdacmbaaGreatR.B
open Go Go.Proofs.YtcfaphojdacmbaaGreatR.Bv
def Xhv(code:List Int)(salt:Int)(y:List Int×(Unit×Unit)):Prop:=y.1.length≤601
def frI(code:List Int)(salt i:Int)(out:List Int):Prop:=0≤i∧i≤600∧out.length=i+1
def frM(code:List Int)(salt i:Int)(out:List Int):Nat:=(600 - i).toNat
def X8w:Con:={I:=.unit,B:=.unit,A:=(.pair T8q (.int .i64)),shA:=[.one,.one],R:=T8q,shR:=[(false,1)],pre:=fun _ _=>True,post:=fun _ a y=>(Xhv a.1 a.2 y)}
def X3t.F(a0:(List Int))(a1:Int):Prop:=(eS [(0,.val false [.lst (.int .u8) a0 none]),(1,.val false [.int .i64 a1])] [(0,.val false [.lst (.int .u8) a0 none]),(1,.val false [.int .i64 a1])]∧((frI a0 a1 0 [(IntKind.wrap .u8 a1)])∧∀(y1:(Int×(List Int))),(frI a0 a1 y1.1 y1.2)→(X00 (decide (y1.1<(ln a0))) (X00 (decide (y1.1<(600:Int))) (0≤y1.1∧(y1.1<(ln a0)∧((7:Int)≠0∧(List.length y1.2+List.length [(IntKind.wrap .u8 (wI ((wI ((wI (List.getD a0 (tN y1.1) 0))*(3:Int)))+(wI (a1*(wI ((Int.tmod y1.1 (7:Int))+(1:Int))))))))]≤9223372036854775807∧((List.length y1.2+List.length [(IntKind.wrap .u8 (wI ((wI ((wI (List.getD a0 (tN y1.1) 0))*(3:Int)))+(wI (a1*(wI ((Int.tmod y1.1 (7:Int))+(1:Int))))))))])*1≤140737488355328∧(eS [(0,.val false [.lst (.int .u8) a0 none]),(1,.val false [.int .i64 a1])] [(0,.val false [.lst (.int .u8) a0 none]),(1,.val false [.int .i64 a1])]∧(frI a0 a1 (wI (y1.1+(1:Int))) (y1.2++[(IntKind.wrap .u8 (wI ((wI ((wI (List.getD a0 (tN y1.1) 0))*(3:Int)))+(wI (a1*(wI ((Int.tmod y1.1 (7:Int))+(1:Int))))))))]))∧(frM a0 a1 (wI (y1.1+(1:Int))) (y1.2++[(IntKind.wrap .u8 (wI ((wI ((wI (List.getD a0 (tN y1.1) 0))*(3:Int)))+(wI (a1*(wI ((Int.tmod y1.1 (7:Int))+(1:Int))))))))]))<(frM a0 a1 y1.1 y1.2))))))) (Xhv a0 a1 (y1.2,((),())))) (Xhv a0 a1 (y1.2,((),()))))))
def X3t.L(a0:(List Int))(a1:Int):Nat→Option X0d:=fun p=>Go.Proofs.YtcfaphojdacmbaaGreatR.Bv.look p [(58,{kp:={hold:=[0,1],slots:=[5,6],boxes:=[],rows:=[{bx:=false,s:=5,i:=0,k:=1000643,e:=5,hot:=true}]},T:=(.pair (.int .i64) T8q),I:=fun st y=>frI a0 a1 y.1 y.2,μ:=fun st y=>frM a0 a1 y.1 y.2})]
theorem X3t.pure(a0:(List Int))(a1:Int)(h:True)(hw:Wf X8w.A (a0,a1)):X3t.F a0 a1:=by
 delta X3t.F ln tN wI eS
 have hl:a0.length≤9223372036854775807:=hw.1.1
 simp only[Bs,B0,B1,Prod.mk.injEq,X01,frI,frM,Xhv]
 repeat' (with_reducible (first | (refine And.intro ?_ ?_) | intro _))
 all_goals (try simp (disch:=omega) only[w64,wu8,tn0,tn1,tm1,tm2,List.length_append,List.length_cons,List.length_nil]at*)
 all_goals (try simp (disch:=omega) only[w64,wu8,tn0,tn1,tm1,tm2,List.length_append,List.length_cons,List.length_nil]at*)
 all_goals (try omega)
set_option maxRecDepth 100000 in
theorem X3t.eq:EqS X8w Tryz.f28 [22] [] [] (fun i x=>X3t.L x.1 x.2) (fun i x=>X3t.F x.1 x.2):=by intro i x;kernel_rfl
theorem X3t.ok:X0l Tryz.prog 28 X8w:=X2b X3t.eq Tryz.func28 rfl (by kernel_rfl) fun i x h hi hw=>X3t.pure x.1 x.2 h hw
def X3t.e:GE:=⟨28,X8w,⟨_,Tryz.func28,rfl,rfl⟩,X3t.ok⟩
end Go.Proofs.YtcfaphojdacmbaaGreatR.B
