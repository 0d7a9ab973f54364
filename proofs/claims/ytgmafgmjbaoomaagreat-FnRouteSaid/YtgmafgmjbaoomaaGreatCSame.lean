/- Points compared;sliced. -/
import Derived.Test.YtgmafgmjbaoomaaGreatCDraw
import Derived.Test.YtgmafgmjbaoomaaGreatCPts
set_option linter.unusedVariables false
set_option linter.unusedSimpArgs false
namespace Go.Proofs.YtgmafgmjbaoomaaGreat.B
open Go Go.Proofs.YtgmafgmjbaoomaaGreat.Bv
def XoS(code:List Int):Bool:=decide (1048576<code.length)
def X8W:Con:={A:=(.list (.int .u8)),shA:=[.one],R:=.bool,shR:=[(false,1)],pre:=fun _ _=>True,f:=some fun _ a=>((XoS a),((),()))}
def X4Q.F(a0:(List Int)):Prop:=(Eq ((decide ((ln a0)>(1048576:Int))),((),())) ((XoS a0),((),())))
theorem X4Q.pure(a0:(List Int))(h:True)(hw:Wf X8W.A a0):X4Q.F a0:=by
 delta X4Q.F ln
 simp only[Bs,B0,B1,Prod.mk.injEq,X03]
 repeat' (with_reducible (first | (refine And.intro ?_ ?_) | intro _))
 all_goals (try simp (disch:=omega) only[w64,wu8,tn0,tn1,tm1,tm2,List.length_append,List.length_cons,List.length_nil]at*)
 all_goals (try simp (disch:=omega) only[w64,wu8,tn0,tn1,tm1,tm2,List.length_append,List.length_cons,List.length_nil]at*)
 all_goals (try omega)
 all_goals (try grind[XoS])
set_option maxRecDepth 100000 in
theorem X4Q.eq:EqS X8W Tryz.f5 [4] [] [] noL (fun i x=>X4Q.F x):=by intro i x;kernel_rfl
theorem X4Q.ok:X0o Tryz.prog 5 X8W:=X2u X4Q.eq Tryz.func5 rfl (by kernel_rfl) fun i x h hi hw=>X4Q.pure x h hw
def X4Q.e:GE:=⟨5,X8W,⟨_,Tryz.func5,rfl,rfl⟩,X4Q.ok⟩
end Go.Proofs.YtgmafgmjbaoomaaGreat.B
