/- Points compared;sliced. -/
import Derived.Test.YtfnafjgehdeccaaCDraw
import Derived.Test.YtfnafjgehdeccaaCPts
namespace Go.Proofs.Ytfnafjgehdeccaa.B
set_option linter.unusedVariables false
set_option linter.unusedSimpArgs false
open Go Go.Proofs.Ytfnafjgehdeccaa.Bv
def fBig (code:List Int):Bool:=decide (1048576<code.length)
def fSameP (a b:List Pt):Bool:=decide (a=b)
structure saI (a b:List Pt) (i:Int):Prop where
 h1:0≤i
 h2:i≤a.length
 h3:a.length=b.length
 h4:a.take i.toNat=b.take i.toNat
def saM (a b:List Pt) (i:Int):Nat:=(a.length - i).toNat
theorem sa_step {a b:List Pt} {i:Int} (h:saI a b i) (hi:i<a.length) (he:a.getD i.toNat (0,0)=b.getD i.toNat (0,0)):saI a b (i+1):=by
 obtain⟨h1,h2,h3,h4⟩:=h
 refine⟨by omega,by omega,h3,?_⟩
 rw [tn1 h1,take_getD (0,0) (by omega),take_getD (0,0) (by omega),h4,he]
theorem sa_end {a b:List Pt} {i:Int} (h:saI a b i) (hi:¬i<a.length):a=b:=by
 obtain⟨h1,h2,h3,h4⟩:=h
 have e:i.toNat=a.length:=by omega
 rw [e,List.take_length,h3,List.take_length] at h4
 exact h4
def c_laws_big:Con:={A:=(.list (.int .u8)),shA:=[.one],R:=.bool,shR:=[(false,1)],pre:=fun _ _=>True,f:=some fun _ a=>((fBig a),((),()))}
def laws_big.F (a0:(List Int)):Prop:=(Eq ((decide ((ln a0)>(1048576:Int))),((),())) ((fBig a0),((),())))
theorem laws_big.pure (a0:(List Int)) (h:True) (hw:Wf c_laws_big.A a0):laws_big.F a0:=by
 delta laws_big.F ln
 simp only [forall_eq,true_and,and_true,caseB_iff,Prod.mk.injEq,decide_eq_true_eq,decide_eq_false_iff_not,Bool.not_eq_true',Bool.not_eq_false',bne_iff_ne,ne_eq,beq_iff_eq,Bool.not_true,Bool.not_false,beq_eq_false_iff_ne,bne_eq_false_iff_eq,List.length_append,List.length_cons,List.length_nil,List.append_nil,Nat.zero_add,decide_true,decide_false,eq_self_iff_true]
 repeat' (with_reducible (first | (refine And.intro ?_ ?_) | intro _))
 all_goals (try simp (disch:=omega) only [w64,wu8,tn0,tn1,tm1,tm2,List.length_append,List.length_cons,List.length_nil] at*)
 all_goals (try simp (disch:=omega) only [w64,wu8,tn0,tn1,tm1,tm2,List.length_append,List.length_cons,List.length_nil] at*)
 all_goals (try omega)
 all_goals (try grind [fBig])
set_option maxRecDepth 100000 in
theorem laws_big.eq:EqS c_laws_big Try.f4 [4] [] [] noL (fun i x=>laws_big.F x):=by intro i x;kernel_rfl
theorem laws_big.ok:ConOk Try.prog 4 c_laws_big:=okOf laws_big.eq Try.func4 rfl (by kernel_rfl) fun i x h hi hw=>laws_big.pure x h hw
def laws_big.e:GE:=⟨4,c_laws_big,⟨_,Try.func4,rfl,rfl⟩,laws_big.ok⟩
def c_laws_samePoints:Con:={A:=(.pair (.list (.pair (.int .i64) (.int .i64))) (.list (.pair (.int .i64) (.int .i64)))),shA:=[.one,.one],R:=.bool,shR:=[(false,1)],pre:=fun _ _=>True,f:=some fun _ a=>((fSameP a.1 a.2),((),()))}
def laws_samePoints.F (a0:(List (Int×Int))) (a1:(List (Int×Int))):Prop:=(caseB ((ln a0)!=(ln a1)) (Eq (false,((),())) ((fSameP a0 a1),((),()))) (eS [(0,.val false [.lst (.pair (.int .i64) (.int .i64)) a0 none]),(1,.val false [.lst (.pair (.int .i64) (.int .i64)) a1 none])] [(0,.val false [.lst (.pair (.int .i64) (.int .i64)) a0 none]),(1,.val false [.lst (.pair (.int .i64) (.int .i64)) a1 none])]∧((saI a0 a1 0)∧∀(y1:Int),(saI a0 a1 y1)→(caseB (decide (y1<(ln a0))) (0≤y1∧(y1<(ln a0)∧(0≤y1∧(y1<(ln a1)∧(caseB (!(((List.getD a0 (tN y1) (0,0)).1)==((List.getD a1 (tN y1) (0,0)).1)&&(((List.getD a0 (tN y1) (0,0)).2)==((List.getD a1 (tN y1) (0,0)).2)&&true))) (Eq (false,((),())) ((fSameP a0 a1),((),()))) (eS [(0,.val false [.lst (.pair (.int .i64) (.int .i64)) a0 none]),(1,.val false [.lst (.pair (.int .i64) (.int .i64)) a1 none])] [(0,.val false [.lst (.pair (.int .i64) (.int .i64)) a0 none]),(1,.val false [.lst (.pair (.int .i64) (.int .i64)) a1 none])]∧(saI a0 a1 (wI (y1+(1:Int))))∧(saM a0 a1 (wI (y1+(1:Int))))<(saM a0 a1 y1))))))) (Eq (true,((),())) ((fSameP a0 a1),((),())))))))
def laws_samePoints.L (a0:(List (Int×Int))) (a1:(List (Int×Int))):Nat→Option LoopAnn:=fun p=>Go.Proofs.Ytfnafjgehdeccaa.Bv.look p [(58,{kp:={hold:=[0,1],slots:=[5],boxes:=[],rows:=[]},T:=(.int .i64),I:=fun st y=>saI a0 a1 y,μ:=fun st y=>saM a0 a1 y})]
theorem laws_samePoints.pure (a0:(List (Int×Int))) (a1:(List (Int×Int))) (h:True) (hw:Wf c_laws_samePoints.A (a0,a1)):laws_samePoints.F a0 a1:=by
 delta laws_samePoints.F ln tN wI eS
 simp only [forall_eq,true_and,and_true,caseB_iff,Prod.mk.injEq,decide_eq_true_eq,decide_eq_false_iff_not,Bool.not_eq_true',Bool.not_eq_false',bne_iff_ne,ne_eq,beq_iff_eq,Bool.not_true,Bool.not_false,beq_eq_false_iff_ne,bne_eq_false_iff_eq,List.length_append,List.length_cons,List.length_nil,List.append_nil,Nat.zero_add,decide_true,decide_false,eq_self_iff_true,Prod.eta]
 have hl:a0.length≤9223372036854775807:=hw.1.1
 refine⟨fun h1=>?_,fun h1=>⟨⟨by omega,by omega,by omega,rfl⟩,?_⟩⟩
 · unfold fSameP;exact (decide_eq_false fun e=>h1 (by rw [e])).symm
 rintro i hI
 have q1:=hI.h1
 have q2:=hI.h2
 have q3:=hI.h3
 refine⟨fun hi=>⟨q1,hi,q1,by omega,fun h2=>?_,fun h2=>?_⟩,fun hi=>?_⟩
 · unfold fSameP;refine (decide_eq_false fun e=>?_).symm;subst e;simp at h2
 · rw [w64 (x:=i+1) (by omega) (by omega)]
   refine⟨sa_step hI hi ?_,by unfold saM;omega⟩
   simp at h2;exact Prod.ext h2.1 h2.2
 · unfold fSameP;exact (decide_eq_true (sa_end hI hi)).symm
set_option maxRecDepth 100000 in
theorem laws_samePoints.eq:EqS c_laws_samePoints Try.f9 [4] [] [] (fun i x=>laws_samePoints.L x.1 x.2) (fun i x=>laws_samePoints.F x.1 x.2):=by intro i x;kernel_rfl
theorem laws_samePoints.ok:ConOk Try.prog 9 c_laws_samePoints:=okOf laws_samePoints.eq Try.func9 rfl (by kernel_rfl) fun i x h hi hw=>laws_samePoints.pure x.1 x.2 h hw
def laws_samePoints.e:GE:=⟨9,c_laws_samePoints,⟨_,Try.func9,rfl,rfl⟩,laws_samePoints.ok⟩
end Go.Proofs.Ytfnafjgehdeccaa.B
