/- Numbers that are drawn. -/
import Derived.Test.YtgfgenbmjbhphaaCNewR
import Derived.Test.YtgfgenbmjbhphaaCMrg
namespace Go.Proofs.Ytgfgenbmjbhphaa.B
set_option linter.unusedVariables false
set_option linter.unusedSimpArgs false
open Go Go.Proofs.Ytgfgenbmjbhphaa.Bv
abbrev Cur:=List Int×(Int×Int)
def CurI (c:Cur):Prop:=0≤c.2.1∧c.2.1≤9223372036854775807∧c.1.length≤9223372036854775807
def qNew (code:List Int) (y:Cur×(Unit×Unit)):Prop:=y.1.1.length≤9223372036854775807∧y.1.2.1=0
structure nwI (code:List Int) (h i:Int):Prop where
 h1:0≤i
def nwM (code:List Int) (h i:Int):Nat:=(4000 - i).toNat
def qByte (c:Cur) (y:Int×(Cur×Unit)):Prop:=0≤y.1∧y.1≤255∧CurI y.2.1
def pBelow (c:Cur) (n:Int):Prop:=CurI c
def qBelow (c:Cur) (n:Int) (y:Int×(Cur×Unit)):Prop:=0≤y.1∧(y.1<n∨y.1=0)∧CurI y.2.1
def qOnce (c:Cur) (n:Int) (y:Bool×(Cur×Unit)):Prop:=CurI y.2.1
def pPickI (c:Cur) (l:List Int):Prop:=CurI c∧0<l.length
def qPickI (c:Cur) (l:List Int) (y:Int×(Cur×Unit)):Prop:=y.1∈l∧CurI y.2.1
def qSize (code:List Int) (most:Int) (y:Int×(Unit×Unit)):Prop:=y.1≤most
theorem and255 (x:Int):0≤IntKind.wrap .i64 (BitVec.toNat (BitVec.ofInt (IntKind.bits .i64) x&&&BitVec.ofInt (IntKind.bits .i64) (255:Int)))∧IntKind.wrap .i64 (BitVec.toNat (BitVec.ofInt (IntKind.bits .i64) x&&&BitVec.ofInt (IntKind.bits .i64) (255:Int)))≤255:=by
 have h:BitVec.toNat (BitVec.ofInt (IntKind.bits .i64) x&&&BitVec.ofInt (IntKind.bits .i64) (255:Int))≤255:=by
  rw [BitVec.toNat_and]
  exact Nat.le_trans Nat.and_le_right (by decide)
 rw [w64 (by omega) (by omega)]
 omega
def c_spec_l1New:Con:={I:=.unit,B:=.unit,A:=(.list (.int .u8)),shA:=[.one],R:=(.pair (.list (.int .u8)) (.pair (.int .i64) (.int .i64))),shR:=[(true,3)],newR:=true,pre:=fun _ _=>True,post:=fun _ a y=>(qNew a y)}
def spec_l1New.F (a0:(List Int)):Prop:=(eS [(0,.val false [.lst (.int .u8) a0 none])] [(0,.val false [.lst (.int .u8) a0 none])]∧((nwI a0 (wI ((10101:Int)+(ln a0))) 0)∧∀(y1:(Int×Int)),(nwI a0 y1.1 y1.2)→(caseB (decide (y1.2<(ln a0))) (caseB (decide (y1.2<(4000:Int))) (0≤y1.2∧(y1.2<(ln a0)∧(eS [(0,.val false [.lst (.int .u8) a0 none])] [(0,.val false [.lst (.int .u8) a0 none])]∧(nwI a0 (IntKind.wrap .i64 (BitVec.toNat (BitVec.ofInt (IntKind.bits .i64) (wI ((wI ((wI (y1.1*(131:Int)))+(wI (List.getD a0 (tN y1.2) 0))))+(7:Int)))&&&BitVec.ofInt (IntKind.bits .i64) (1073741823:Int)))) (wI (y1.2+(1:Int))))∧(nwM a0 (IntKind.wrap .i64 (BitVec.toNat (BitVec.ofInt (IntKind.bits .i64) (wI ((wI ((wI (y1.1*(131:Int)))+(wI (List.getD a0 (tN y1.2) 0))))+(7:Int)))&&&BitVec.ofInt (IntKind.bits .i64) (1073741823:Int)))) (wI (y1.2+(1:Int))))<(nwM a0 y1.1 y1.2)))) (qNew a0 ((a0,(0,y1.1)),((),())))) (qNew a0 ((a0,(0,y1.1)),((),()))))))
def spec_l1New.L (a0:(List Int)):Nat→Option LoopAnn:=fun p=>Go.Proofs.Ytgfgenbmjbhphaa.Bv.look p [(58,{kp:={hold:=[0],slots:=[3,4],boxes:=[],rows:=[]},T:=(.pair (.int .i64) (.int .i64)),I:=fun st y=>nwI a0 y.1 y.2,μ:=fun st y=>nwM a0 y.1 y.2})]
theorem spec_l1New.pure (a0:(List Int)) (h:True) (hw:Wf c_spec_l1New.A a0):spec_l1New.F a0:=by
 delta spec_l1New.F ln tN wI eS
 simp only [forall_eq,true_and,and_true,caseB_iff,Prod.mk.injEq,decide_eq_true_eq,decide_eq_false_iff_not,Bool.not_eq_true',Bool.not_eq_false',bne_iff_ne,ne_eq,beq_iff_eq,Bool.not_true,Bool.not_false,beq_eq_false_iff_ne,bne_eq_false_iff_eq,List.length_append,List.length_cons,List.length_nil,List.append_nil,Nat.zero_add,decide_true,decide_false,eq_self_iff_true]
 have hl:a0.length≤maxLen:=hw.1
 unfold maxLen at hl
 refine⟨⟨by omega⟩,?_⟩
 rintro⟨h,i⟩ hI
 simp only at hI ⊢
 have q1:=hI.h1
 refine⟨fun h1=>⟨fun h2=>⟨q1,h1,?_⟩,fun _=>⟨by simp only;omega,rfl⟩⟩,fun _=>⟨by simp only;omega,rfl⟩⟩
 rw [w64 (x:=i+1) (by omega) (by omega)]
 exact⟨⟨by omega⟩,by unfold nwM;omega⟩
set_option maxRecDepth 100000 in
theorem spec_l1New.eq:EqN c_spec_l1New Try.f18 [] [] (fun i x=>spec_l1New.L x) (fun i x=>spec_l1New.F x):=by intro i x;kernel_rfl
theorem spec_l1New.ok:ConOk Try.prog 18 c_spec_l1New:=okN spec_l1New.eq Try.func18 rfl (by kernel_rfl) fun i x h hi hw=>spec_l1New.pure x h hw
def spec_l1New.e:GE:=⟨18,c_spec_l1New,⟨_,Try.func18,rfl,rfl⟩,spec_l1New.ok⟩
def c_spec_l1Byte:Con:={io:=true,I:=(.pair (.list (.int .u8)) (.pair (.int .i64) (.int .i64))),B:=.unit,A:=.unit,shA:=[],R:=(.int .i64),shR:=[(false,1)],pre:=fun i a=>(CurI i),post:=fun i a y=>(qByte i y)}
def spec_l1Byte.F (i0:((List Int)×(Int×Int))):Prop:=(0≤(33:Int)∧(0≤(45:Int)∧(caseB (decide (i0.2.1<(ln i0.1))) (0≤i0.2.1∧(i0.2.1<(ln i0.1)∧(qByte i0 ((IntKind.wrap .i64 (BitVec.toNat (BitVec.ofInt (IntKind.bits .i64) (wI ((IntKind.wrap .i64 (BitVec.toNat (BitVec.ofInt (IntKind.bits .i64) (IntKind.wrap .i64 (BitVec.toNat (BitVec.ofInt (IntKind.bits .i64) (Int.fdiv (wI ((wI (i0.2.2*(6364136223846793005:Int)))+(1442695040888963407:Int))) (2 ^ (min (tN (33:Int)) (IntKind.bits .i64)))) ^^^ BitVec.ofInt (IntKind.bits .i64) (Int.fdiv (wI ((wI (i0.2.2*(6364136223846793005:Int)))+(1442695040888963407:Int))) (2 ^ (min (tN (45:Int)) (IntKind.bits .i64)))))))&&&BitVec.ofInt (IntKind.bits .i64) (255:Int))))+(wI (List.getD i0.1 (tN i0.2.1) 0))))&&&BitVec.ofInt (IntKind.bits .i64) (255:Int)))),((i0.1,((wI (i0.2.1+(1:Int))),(wI ((wI (i0.2.2*(6364136223846793005:Int)))+(1442695040888963407:Int))))),()))))) (qByte i0 ((IntKind.wrap .i64 (BitVec.toNat (BitVec.ofInt (IntKind.bits .i64) (IntKind.wrap .i64 (BitVec.toNat (BitVec.ofInt (IntKind.bits .i64) (Int.fdiv (wI ((wI (i0.2.2*(6364136223846793005:Int)))+(1442695040888963407:Int))) (2 ^ (min (tN (33:Int)) (IntKind.bits .i64)))) ^^^ BitVec.ofInt (IntKind.bits .i64) (Int.fdiv (wI ((wI (i0.2.2*(6364136223846793005:Int)))+(1442695040888963407:Int))) (2 ^ (min (tN (45:Int)) (IntKind.bits .i64)))))))&&&BitVec.ofInt (IntKind.bits .i64) (255:Int)))),((i0.1,(i0.2.1,(wI ((wI (i0.2.2*(6364136223846793005:Int)))+(1442695040888963407:Int))))),()))))))
theorem spec_l1Byte.pure (i0:((List Int)×(Int×Int))) (h:(CurI i0)) (hi:Wf c_spec_l1Byte.I i0) (hw:Wf c_spec_l1Byte.A ()):spec_l1Byte.F i0:=by
 delta spec_l1Byte.F ln tN wI
 simp only [forall_eq,true_and,and_true,caseB_iff,Prod.mk.injEq,decide_eq_true_eq,decide_eq_false_iff_not,Bool.not_eq_true',Bool.not_eq_false',bne_iff_ne,ne_eq,beq_iff_eq,Bool.not_true,Bool.not_false,beq_eq_false_iff_ne,bne_eq_false_iff_eq,List.length_append,List.length_cons,List.length_nil,List.append_nil,Nat.zero_add,decide_true,decide_false,eq_self_iff_true]
 have hl:i0.1.length≤maxLen:=(hi).1.1
 obtain⟨c1,c2,c3⟩:=h
 refine⟨by omega,by omega,fun h1=>⟨c1,h1,(and255 _).1,(and255 _).2,?_⟩,fun h1=>⟨(and255 _).1,(and255 _).2,c1,c2,c3⟩⟩
 unfold maxLen at hl
 simp only [CurI]
 rw [w64 (x:=i0.2.1+1) (by omega) (by omega)]
 omega
set_option maxRecDepth 100000 in
theorem spec_l1Byte.eq:EqS c_spec_l1Byte Try.f53 [3] [] [] noL (fun i x=>spec_l1Byte.F i):=by intro i x;kernel_rfl
theorem spec_l1Byte.ok:ConOk Try.prog 53 c_spec_l1Byte:=okOf spec_l1Byte.eq Try.func53 rfl (by kernel_rfl) fun i x h hi hw=>spec_l1Byte.pure i h (hi rfl) hw
def spec_l1Byte.e:GE:=⟨53,c_spec_l1Byte,⟨_,Try.func53,rfl,rfl⟩,spec_l1Byte.ok⟩
def c_spec_l1Below:Con:={io:=true,I:=(.pair (.list (.int .u8)) (.pair (.int .i64) (.int .i64))),B:=.unit,A:=(.int .i64),shA:=[.one],R:=(.int .i64),shR:=[(false,1)],pre:=fun i a=>(pBelow i a),post:=fun i a y=>(qBelow i a y)}
def spec_l1Below.F (i0:((List Int)×(Int×Int))) (a0:Int):Prop:=(caseB (decide (a0≤(0:Int))) (qBelow i0 a0 (0,((i0.1,(i0.2.1,i0.2.2)),()))) (caseB (decide (a0≤(256:Int))) ((CurI (i0.1,(i0.2.1,i0.2.2)))∧∀r1,(qByte (i0.1,(i0.2.1,i0.2.2)) r1)→(a0≠0∧(qBelow i0 a0 ((Int.tmod r1.1 a0),((r1.2.1.1,(r1.2.1.2.1,r1.2.1.2.2)),()))))) ((CurI (i0.1,(i0.2.1,i0.2.2)))∧∀r2,(qByte (i0.1,(i0.2.1,i0.2.2)) r2)→((CurI (r2.2.1.1,(r2.2.1.2.1,r2.2.1.2.2)))∧∀r3,(qByte (r2.2.1.1,(r2.2.1.2.1,r2.2.1.2.2)) r3)→((CurI (r3.2.1.1,(r3.2.1.2.1,r3.2.1.2.2)))∧∀r4,(qByte (r3.2.1.1,(r3.2.1.2.1,r3.2.1.2.2)) r4)→((CurI (r4.2.1.1,(r4.2.1.2.1,r4.2.1.2.2)))∧∀r5,(qByte (r4.2.1.1,(r4.2.1.2.1,r4.2.1.2.2)) r5)→(a0≠0∧(qBelow i0 a0 ((Int.tmod (wI ((wI ((wI ((wI (r2.1*(16777216:Int)))+(wI (r3.1*(65536:Int)))))+(wI (r4.1*(256:Int)))))+r5.1)) a0),((r5.2.1.1,(r5.2.1.2.1,r5.2.1.2.2)),()))))))))))
theorem spec_l1Below.pure (i0:((List Int)×(Int×Int))) (a0:Int) (h:(pBelow i0 a0)) (hi:Wf c_spec_l1Below.I i0) (hw:Wf c_spec_l1Below.A a0):spec_l1Below.F i0 a0:=by
 delta spec_l1Below.F wI
 simp only [forall_eq,true_and,and_true,caseB_iff,Prod.mk.injEq,decide_eq_true_eq,decide_eq_false_iff_not,Bool.not_eq_true',Bool.not_eq_false',bne_iff_ne,ne_eq,beq_iff_eq,Bool.not_true,Bool.not_false,beq_eq_false_iff_ne,bne_eq_false_iff_eq,List.length_append,List.length_cons,List.length_nil,List.append_nil,Nat.zero_add,decide_true,decide_false,eq_self_iff_true,Prod.eta]
 have hc:CurI i0:=h
 refine⟨fun h1=>⟨by omega,.inr rfl,hc⟩,fun h1=>⟨fun h2=>⟨hc,fun r1 q1=>⟨by omega,?_⟩⟩,fun h2=>⟨hc,fun r2 q2=>⟨q2.2.2,fun r3 q3=>⟨q3.2.2,fun r4 q4=>⟨q4.2.2,fun r5 q5=>⟨by omega,?_⟩⟩⟩⟩⟩⟩⟩
 · exact⟨Int.tmod_nonneg _ q1.1,.inl (Int.tmod_lt_of_pos _ (by omega)),q1.2.2⟩
 · obtain⟨a1,a2,_⟩:=q2
   obtain⟨b1,b2,_⟩:=q3
   obtain⟨d1,d2,_⟩:=q4
   obtain⟨e1,e2,e3⟩:=q5
   rw [w64 (x:=r2.1*16777216) (by omega) (by omega),w64 (x:=r3.1*65536) (by omega) (by omega),w64 (x:=r4.1*256) (by omega) (by omega),w64 (x:=r2.1*16777216+r3.1*65536) (by omega) (by omega),w64 (x:=r2.1*16777216+r3.1*65536+r4.1*256) (by omega) (by omega),w64 (by omega) (by omega)]
   exact⟨Int.tmod_nonneg _ (by omega),.inl (Int.tmod_lt_of_pos _ (by omega)),e3⟩
set_option maxRecDepth 100000 in
theorem spec_l1Below.eq:EqS c_spec_l1Below Try.f38 [3] [spec_l1Byte.e] [] noL (fun i x=>spec_l1Below.F i x):=by intro i x;kernel_rfl
theorem spec_l1Below.ok:ConOk Try.prog 38 c_spec_l1Below:=okOf spec_l1Below.eq Try.func38 rfl (by kernel_rfl) fun i x h hi hw=>spec_l1Below.pure i x h (hi rfl) hw
def spec_l1Below.e:GE:=⟨38,c_spec_l1Below,⟨_,Try.func38,rfl,rfl⟩,spec_l1Below.ok⟩
def c_spec_l1Once:Con:={io:=true,I:=(.pair (.list (.int .u8)) (.pair (.int .i64) (.int .i64))),B:=.unit,A:=(.int .i64),shA:=[.one],R:=.bool,shR:=[(false,1)],pre:=fun i a=>(pBelow i a),post:=fun i a y=>(qOnce i a y)}
def spec_l1Once.F (i0:((List Int)×(Int×Int))) (a0:Int):Prop:=((pBelow (i0.1,(i0.2.1,i0.2.2)) a0)∧∀r1,(qBelow (i0.1,(i0.2.1,i0.2.2)) a0 r1)→(qOnce i0 a0 ((r1.1==(0:Int)),((r1.2.1.1,(r1.2.1.2.1,r1.2.1.2.2)),()))))
theorem spec_l1Once.pure (i0:((List Int)×(Int×Int))) (a0:Int) (h:(pBelow i0 a0)) (hi:Wf c_spec_l1Once.I i0) (hw:Wf c_spec_l1Once.A a0):spec_l1Once.F i0 a0:=by
 unfold spec_l1Once.F
 simp only [forall_eq,true_and,and_true,caseB_iff,Prod.mk.injEq,decide_eq_true_eq,decide_eq_false_iff_not,Bool.not_eq_true',Bool.not_eq_false',bne_iff_ne,ne_eq,beq_iff_eq,Bool.not_true,Bool.not_false,beq_eq_false_iff_ne,bne_eq_false_iff_eq,List.length_append,List.length_cons,List.length_nil,List.append_nil,Nat.zero_add,decide_true,decide_false,eq_self_iff_true,Prod.eta]
 exact⟨h,fun r1 q1=>q1.2.2⟩
set_option maxRecDepth 100000 in
theorem spec_l1Once.eq:EqS c_spec_l1Once Try.f20 [4] [spec_l1Below.e] [] noL (fun i x=>spec_l1Once.F i x):=by intro i x;kernel_rfl
theorem spec_l1Once.ok:ConOk Try.prog 20 c_spec_l1Once:=okOf spec_l1Once.eq Try.func20 rfl (by kernel_rfl) fun i x h hi hw=>spec_l1Once.pure i x h (hi rfl) hw
def spec_l1Once.e:GE:=⟨20,c_spec_l1Once,⟨_,Try.func20,rfl,rfl⟩,spec_l1Once.ok⟩
def c_spec_l1PickInt:Con:={io:=true,I:=(.pair (.list (.int .u8)) (.pair (.int .i64) (.int .i64))),B:=.unit,A:=(.list (.int .i64)),shA:=[.one],R:=(.int .i64),shR:=[(false,1)],pre:=fun i a=>(pPickI i a),post:=fun i a y=>(qPickI i a y)}
def spec_l1PickInt.F (i0:((List Int)×(Int×Int))) (a0:(List Int)):Prop:=((pBelow (i0.1,(i0.2.1,i0.2.2)) (ln a0))∧∀r1,(qBelow (i0.1,(i0.2.1,i0.2.2)) (ln a0) r1)→(0≤r1.1∧(r1.1<(ln a0)∧(qPickI i0 a0 ((List.getD a0 (tN r1.1) 0),((r1.2.1.1,(r1.2.1.2.1,r1.2.1.2.2)),()))))))
theorem spec_l1PickInt.pure (i0:((List Int)×(Int×Int))) (a0:(List Int)) (h:(pPickI i0 a0)) (hi:Wf c_spec_l1PickInt.I i0) (hw:Wf c_spec_l1PickInt.A a0):spec_l1PickInt.F i0 a0:=by
 delta spec_l1PickInt.F ln tN
 simp only [forall_eq,true_and,and_true,caseB_iff,Prod.mk.injEq,decide_eq_true_eq,decide_eq_false_iff_not,Bool.not_eq_true',Bool.not_eq_false',bne_iff_ne,ne_eq,beq_iff_eq,Bool.not_true,Bool.not_false,beq_eq_false_iff_ne,bne_eq_false_iff_eq,List.length_append,List.length_cons,List.length_nil,List.append_nil,Nat.zero_add,decide_true,decide_false,eq_self_iff_true,Prod.eta]
 obtain⟨hc,hl⟩:=h
 refine⟨hc,fun r1 q1=>?_⟩
 obtain⟨a1,a2,a3⟩:=q1
 exact⟨a1,by omega,getD_mem (by omega),a3⟩
set_option maxRecDepth 100000 in
theorem spec_l1PickInt.eq:EqS c_spec_l1PickInt Try.f39 [3] [spec_l1Below.e] [] noL (fun i x=>spec_l1PickInt.F i x):=by intro i x;kernel_rfl
theorem spec_l1PickInt.ok:ConOk Try.prog 39 c_spec_l1PickInt:=okOf spec_l1PickInt.eq Try.func39 rfl (by kernel_rfl) fun i x h hi hw=>spec_l1PickInt.pure i x h (hi rfl) hw
def spec_l1PickInt.e:GE:=⟨39,c_spec_l1PickInt,⟨_,Try.func39,rfl,rfl⟩,spec_l1PickInt.ok⟩
def pTimes (c:Cur) (most:Int):Prop:=CurI c∧most≤1000
def qTimes (c:Cur) (most:Int) (y:List Int×(Cur×Unit)):Prop:=0<y.1.length∧y.1.length≤1001∧CurI y.2.1
def pInts7 (c:Cur) (most:Int):Prop:=CurI c∧most≤2000
def qInts7 (c:Cur) (most:Int) (y:List Int×(Cur×Unit)):Prop:=0<y.1.length∧y.1.length≤2001∧CurI y.2.1
def inI (c:Cur) (most v n:Int) (b:List Int) (i h:Int) (out:List Int):Prop:=CurI (b,i,h)∧n≤2000∧0≤n∧out.length+n≤2000∧0<out.length+n
def qPoints (c:Cur) (most:Int) (y:List Pt×(Cur×Unit)):Prop:=y.1.length≤1001∧CurI y.2.1
end Go.Proofs.Ytgfgenbmjbhphaa.B
