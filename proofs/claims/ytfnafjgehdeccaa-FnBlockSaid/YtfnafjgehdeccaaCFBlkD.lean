/- Blocks that are drawn. -/
import Derived.Test.YtfnafjgehdeccaaCFBlk0
namespace Go.Proofs.Ytfnafjgehdeccaa.B
set_option linter.unusedVariables false
set_option linter.unusedSimpArgs false
open Go Go.Proofs.Ytfnafjgehdeccaa.Bv
theorem showB_length (l:List Pt):(fShowBlock l).length≤2014:=by
 unfold fShowBlock;split
 · exact fFrame_length _
 · simp
def qText (c:Cur) (most:Int) (y:List UInt8×(Cur×Unit)):Prop:=y.1.length≤20∧CurI y.2.1
def pText (c:Cur) (most:Int):Prop:=CurI c∧0≤most∧most≤18
def txI (c:Cur) (most n:Int) (b:List Int) (i h:Int) (out:List Int):Prop:=CurI (b,i,h)∧0≤n∧n≤19∧out.length+n≤19
def txM (c:Cur) (most n:Int) (b:List Int) (i h:Int) (out:List Int):Nat:=n.toNat
def pSpoil (c:Cur) (s:List UInt8):Prop:=CurI c∧s.length≤100000
def qSpoil (c:Cur) (s:List UInt8) (y:List UInt8×(Cur×Unit)):Prop:=y.1.length≤s.length+20∧CurI y.2.1
def qDShow (code:List Int) (y:List Pt×(Unit×Unit)):Prop:=y.1.length≤1001
def pAt (code:List Int) (i:Int):Prop:=0≤i
def qDRead (code:List Int) (y:List UInt8×(Unit×Unit)):Prop:=y.1.length≤12000
def c_spec_l1Text:Con:={io:=true,I:=(.pair (.list (.int .u8)) (.pair (.int .i64) (.int .i64))),B:=.unit,A:=(.int .i64),shA:=[.one],R:=.str,shR:=[(false,1)],pre:=fun i a=>(pText i a),post:=fun i a y=>(qText i a y)}
def spec_l1Text.F (i0:((List Int)×(Int×Int))) (a0:Int):Prop:=((pBelow (i0.1,(i0.2.1,i0.2.2)) 4)∧∀r1,(qBelow (i0.1,(i0.2.1,i0.2.2)) 4 r1)→((pBelow (r1.2.1.1,(r1.2.1.2.1,r1.2.1.2.2)) (wI (a0+(1:Int))))∧∀r2,(qBelow (r1.2.1.1,(r1.2.1.2.1,r1.2.1.2.2)) (wI (a0+(1:Int))) r2)→(eS [(0,.box 0 0),(6,.val false [.int .i64 r1.1])] [(0,.box 0 0),(6,.val false [.int .i64 r1.1])]∧((txI i0 a0 r2.1 r2.2.1.1 r2.2.1.2.1 r2.2.1.2.2 ([]:List Int))∧∀(y3:(Int×((List Int)×(Int×(Int×(List Int)))))),(txI i0 a0 y3.1 y3.2.1 y3.2.2.1 y3.2.2.2.1 y3.2.2.2.2)→(caseB (decide (y3.1>(0:Int))) ((CurI (y3.2.1,(y3.2.2.1,y3.2.2.2.1)))∧∀r4,(qByte (y3.2.1,(y3.2.2.1,y3.2.2.2.1)) r4)→(caseB (r1.1==(1:Int)) ((2:Int)≠0∧(caseB (r1.1==(2:Int)) ((4:Int)≠0∧(List.length y3.2.2.2.2+List.length [(IntKind.wrap .u8 (wI ((97:Int)+(Int.tmod (Int.tmod r4.1 (2:Int)) (4:Int)))))]≤9223372036854775807∧((List.length y3.2.2.2.2+List.length [(IntKind.wrap .u8 (wI ((97:Int)+(Int.tmod (Int.tmod r4.1 (2:Int)) (4:Int)))))])*1≤140737488355328∧(eS [(0,.box 0 0),(6,.val false [.int .i64 r1.1])] [(0,.box 0 0),(6,.val false [.int .i64 r1.1])]∧(txI i0 a0 (wI (y3.1 - (1:Int))) r4.2.1.1 r4.2.1.2.1 r4.2.1.2.2 (y3.2.2.2.2++[(IntKind.wrap .u8 (wI ((97:Int)+(Int.tmod (Int.tmod r4.1 (2:Int)) (4:Int)))))]))∧(txM i0 a0 (wI (y3.1 - (1:Int))) r4.2.1.1 r4.2.1.2.1 r4.2.1.2.2 (y3.2.2.2.2++[(IntKind.wrap .u8 (wI ((97:Int)+(Int.tmod (Int.tmod r4.1 (2:Int)) (4:Int)))))]))<(txM i0 a0 y3.1 y3.2.1 y3.2.2.1 y3.2.2.2.1 y3.2.2.2.2))))) (List.length y3.2.2.2.2+List.length [(IntKind.wrap .u8 (Int.tmod r4.1 (2:Int)))]≤9223372036854775807∧((List.length y3.2.2.2.2+List.length [(IntKind.wrap .u8 (Int.tmod r4.1 (2:Int)))])*1≤140737488355328∧(eS [(0,.box 0 0),(6,.val false [.int .i64 r1.1])] [(0,.box 0 0),(6,.val false [.int .i64 r1.1])]∧(txI i0 a0 (wI (y3.1 - (1:Int))) r4.2.1.1 r4.2.1.2.1 r4.2.1.2.2 (y3.2.2.2.2++[(IntKind.wrap .u8 (Int.tmod r4.1 (2:Int)))]))∧(txM i0 a0 (wI (y3.1 - (1:Int))) r4.2.1.1 r4.2.1.2.1 r4.2.1.2.2 (y3.2.2.2.2++[(IntKind.wrap .u8 (Int.tmod r4.1 (2:Int)))]))<(txM i0 a0 y3.1 y3.2.1 y3.2.2.1 y3.2.2.2.1 y3.2.2.2.2)))))) (caseB (r1.1==(2:Int)) ((4:Int)≠0∧(List.length y3.2.2.2.2+List.length [(IntKind.wrap .u8 (wI ((97:Int)+(Int.tmod r4.1 (4:Int)))))]≤9223372036854775807∧((List.length y3.2.2.2.2+List.length [(IntKind.wrap .u8 (wI ((97:Int)+(Int.tmod r4.1 (4:Int)))))])*1≤140737488355328∧(eS [(0,.box 0 0),(6,.val false [.int .i64 r1.1])] [(0,.box 0 0),(6,.val false [.int .i64 r1.1])]∧(txI i0 a0 (wI (y3.1 - (1:Int))) r4.2.1.1 r4.2.1.2.1 r4.2.1.2.2 (y3.2.2.2.2++[(IntKind.wrap .u8 (wI ((97:Int)+(Int.tmod r4.1 (4:Int)))))]))∧(txM i0 a0 (wI (y3.1 - (1:Int))) r4.2.1.1 r4.2.1.2.1 r4.2.1.2.2 (y3.2.2.2.2++[(IntKind.wrap .u8 (wI ((97:Int)+(Int.tmod r4.1 (4:Int)))))]))<(txM i0 a0 y3.1 y3.2.1 y3.2.2.1 y3.2.2.2.1 y3.2.2.2.2))))) (List.length y3.2.2.2.2+List.length [(IntKind.wrap .u8 r4.1)]≤9223372036854775807∧((List.length y3.2.2.2.2+List.length [(IntKind.wrap .u8 r4.1)])*1≤140737488355328∧(eS [(0,.box 0 0),(6,.val false [.int .i64 r1.1])] [(0,.box 0 0),(6,.val false [.int .i64 r1.1])]∧(txI i0 a0 (wI (y3.1 - (1:Int))) r4.2.1.1 r4.2.1.2.1 r4.2.1.2.2 (y3.2.2.2.2++[(IntKind.wrap .u8 r4.1)]))∧(txM i0 a0 (wI (y3.1 - (1:Int))) r4.2.1.1 r4.2.1.2.1 r4.2.1.2.2 (y3.2.2.2.2++[(IntKind.wrap .u8 r4.1)]))<(txM i0 a0 y3.1 y3.2.1 y3.2.2.1 y3.2.2.2.1 y3.2.2.2.2))))))) (qText i0 a0 ((List.map (fun n=>UInt8.ofNat (Int.toNat n)) y3.2.2.2.2),((y3.2.1,(y3.2.2.1,y3.2.2.2.1)),()))))))))
def spec_l1Text.L (i0:((List Int)×(Int×Int))) (a0:Int):Nat→Option LoopAnn:=fun p=>Go.Proofs.Ytfnafjgehdeccaa.Bv.look p [(122,{kp:={hold:=[0,6],slots:=[5,7],boxes:=[0],rows:=[{bx:=false,s:=5,i:=0,k:=1000643,e:=5,hot:=true}]},T:=(.pair (.int .i64) (.pair (.list (.int .u8)) (.pair (.int .i64) (.pair (.int .i64) (.list (.int .u8)))))),I:=fun st y=>txI i0 a0 y.1 y.2.1 y.2.2.1 y.2.2.2.1 y.2.2.2.2,μ:=fun st y=>txM i0 a0 y.1 y.2.1 y.2.2.1 y.2.2.2.1 y.2.2.2.2})]
theorem spec_l1Text.pure (i0:((List Int)×(Int×Int))) (a0:Int) (h:(pText i0 a0)) (hi:Wf c_spec_l1Text.I i0) (hw:Wf c_spec_l1Text.A a0):spec_l1Text.F i0 a0:=by
 delta spec_l1Text.F wI eS
 simp only [pText,CurI] at h
 simp only [forall_eq,true_and,and_true,caseB_iff,Prod.mk.injEq,decide_eq_true_eq,decide_eq_false_iff_not,Bool.not_eq_true',Bool.not_eq_false',bne_iff_ne,ne_eq,beq_iff_eq,Bool.not_true,Bool.not_false,beq_eq_false_iff_ne,bne_eq_false_iff_eq,List.length_append,List.length_cons,List.length_nil,List.append_nil,Nat.zero_add,decide_true,decide_false,eq_self_iff_true,qBelow,qOnce,qPickI,pBelow,pPickI,CurI,pTimes,qTimes,pInts7,qInts7,qPoints,qByte,pText,qText,pSpoil,qSpoil,qNew,qSize,txI,txM]
 repeat' (with_reducible (first | (refine And.intro ?_ ?_) | intro _))
 all_goals (try simp (disch:=omega) only [w64,wu8,tn0,tn1,tm1,tm2,List.length_append,List.length_cons,List.length_nil,List.length_map] at*)
 all_goals (try simp (disch:=omega) only [w64,wu8,tn0,tn1,tm1,tm2,List.length_append,List.length_cons,List.length_nil,List.length_map] at*)
 all_goals (try omega)
set_option maxRecDepth 100000 in
theorem spec_l1Text.eq:EqS c_spec_l1Text Try.f43 [9] [spec_l1Below.e,spec_l1Byte.e] [] (fun i x=>spec_l1Text.L i x) (fun i x=>spec_l1Text.F i x):=by intro i x;kernel_rfl
theorem spec_l1Text.ok:ConOk Try.prog 43 c_spec_l1Text:=okOf spec_l1Text.eq Try.func43 rfl (by kernel_rfl) fun i x h hi hw=>spec_l1Text.pure i x h (hi rfl) hw
def spec_l1Text.e:GE:=⟨43,c_spec_l1Text,⟨_,Try.func43,rfl,rfl⟩,spec_l1Text.ok⟩
def nextH (h:Int):Int:=IntKind.wrap .i64 (IntKind.wrap .i64 (h*6364136223846793005)+1442695040888963407)
def mixH (h:Int):Int:=IntKind.wrap .i64 (BitVec.toNat (BitVec.ofInt (IntKind.bits .i64) (IntKind.wrap .i64 (BitVec.toNat (BitVec.ofInt (IntKind.bits .i64) (Int.fdiv (nextH h) (2 ^ (min (Int.toNat 33) (IntKind.bits .i64)))) ^^^ BitVec.ofInt (IntKind.bits .i64) (Int.fdiv (nextH h) (2 ^ (min (Int.toNat 45) (IntKind.bits .i64)))))))&&&BitVec.ofInt (IntKind.bits .i64) (255:Int)))
def fByteX (c:Cur):Int×Cur:=if c.2.1<c.1.length then (IntKind.wrap .i64 (BitVec.toNat (BitVec.ofInt (IntKind.bits .i64) (IntKind.wrap .i64 (mixH c.2.2+IntKind.wrap .i64 (c.1.getD c.2.1.toNat 0)))&&&BitVec.ofInt (IntKind.bits .i64) (255:Int))),(c.1,(IntKind.wrap .i64 (c.2.1+1),nextH c.2.2))) else (mixH c.2.2,(c.1,(c.2.1,nextH c.2.2)))
theorem byteX_in {c:Cur} (h:CurI c):0≤(fByteX c).1∧(fByteX c).1≤255∧CurI (fByteX c).2:=by
 obtain⟨h1,h2,h3⟩:=h
 unfold fByteX
 split
 · refine⟨(and255 _).1,(and255 _).2,?_⟩
   simp only [CurI]
   rw [w64 (by omega) (by omega)];omega
 · exact⟨(and255 _).1,(and255 _).2,h1,h2,h3⟩
def fBelowX (c:Cur) (n:Int):Int×Cur:=
 if n≤0 then (0,c) else if n≤256 then (Int.tmod (fByteX c).1 n,(fByteX c).2)
 else (Int.tmod (IntKind.wrap .i64 (IntKind.wrap .i64 (IntKind.wrap .i64 (IntKind.wrap .i64 ((fByteX c).1*16777216)+IntKind.wrap .i64 ((fByteX (fByteX c).2).1*65536))+IntKind.wrap .i64 ((fByteX (fByteX (fByteX c).2).2).1*256))+(fByteX (fByteX (fByteX (fByteX c).2).2).2).1)) n,(fByteX (fByteX (fByteX (fByteX c).2).2).2).2)
theorem belowX_in {c:Cur} (h:CurI c) {n:Int} (hn:0<n):0≤(fBelowX c n).1∧(fBelowX c n).1<n∧CurI (fBelowX c n).2:=by
 obtain⟨a1,a2,a3⟩:=byteX_in h
 obtain⟨b1,b2,b3⟩:=byteX_in a3
 obtain⟨c1,c2,c3⟩:=byteX_in b3
 obtain⟨d1,d2,d3⟩:=byteX_in c3
 unfold fBelowX
 rw [if_neg (by omega)]
 split
 · exact⟨Int.tmod_nonneg _ a1,Int.tmod_lt_of_pos _ hn,a3⟩
 · refine⟨Int.tmod_nonneg _ ?_,Int.tmod_lt_of_pos _ hn,d3⟩
   rw [w64 (x:=(fByteX c).1*16777216) (by omega) (by omega),w64 (x:=(fByteX (fByteX c).2).1*65536) (by omega) (by omega),w64 (x:=(fByteX (fByteX (fByteX c).2).2).1*256) (by omega) (by omega),w64 (x:=(fByteX c).1*16777216+(fByteX (fByteX c).2).1*65536) (by omega) (by omega),w64 (x:=(fByteX c).1*16777216+(fByteX (fByteX c).2).1*65536+(fByteX (fByteX (fByteX c).2).2).1*256) (by omega) (by omega),w64 (by omega) (by omega)]
   omega
def pBelowX (c:Cur) (n:Int):Prop:=CurI c
def c_spec_l1ByteX:Con:={io:=true,I:=(.pair (.list (.int .u8)) (.pair (.int .i64) (.int .i64))),A:=.unit,shA:=[],R:=(.int .i64),shR:=[(false,1)],pre:=fun i a=>(CurI i),f:=some fun i a=>((fByteX i).1,((fByteX i).2,()))}
def spec_l1ByteX.F (i0:((List Int)×(Int×Int))):Prop:=(0≤(33:Int)∧(0≤(45:Int)∧(caseB (decide (i0.2.1<(ln i0.1))) (0≤i0.2.1∧(i0.2.1<(ln i0.1)∧(Eq ((IntKind.wrap .i64 (BitVec.toNat (BitVec.ofInt (IntKind.bits .i64) (wI ((IntKind.wrap .i64 (BitVec.toNat (BitVec.ofInt (IntKind.bits .i64) (IntKind.wrap .i64 (BitVec.toNat (BitVec.ofInt (IntKind.bits .i64) (Int.fdiv (wI ((wI (i0.2.2*(6364136223846793005:Int)))+(1442695040888963407:Int))) (2 ^ (min (tN (33:Int)) (IntKind.bits .i64)))) ^^^ BitVec.ofInt (IntKind.bits .i64) (Int.fdiv (wI ((wI (i0.2.2*(6364136223846793005:Int)))+(1442695040888963407:Int))) (2 ^ (min (tN (45:Int)) (IntKind.bits .i64)))))))&&&BitVec.ofInt (IntKind.bits .i64) (255:Int))))+(wI (List.getD i0.1 (tN i0.2.1) 0))))&&&BitVec.ofInt (IntKind.bits .i64) (255:Int)))),((i0.1,((wI (i0.2.1+(1:Int))),(wI ((wI (i0.2.2*(6364136223846793005:Int)))+(1442695040888963407:Int))))),())) ((fByteX i0).1,((fByteX i0).2,()))))) (Eq ((IntKind.wrap .i64 (BitVec.toNat (BitVec.ofInt (IntKind.bits .i64) (IntKind.wrap .i64 (BitVec.toNat (BitVec.ofInt (IntKind.bits .i64) (Int.fdiv (wI ((wI (i0.2.2*(6364136223846793005:Int)))+(1442695040888963407:Int))) (2 ^ (min (tN (33:Int)) (IntKind.bits .i64)))) ^^^ BitVec.ofInt (IntKind.bits .i64) (Int.fdiv (wI ((wI (i0.2.2*(6364136223846793005:Int)))+(1442695040888963407:Int))) (2 ^ (min (tN (45:Int)) (IntKind.bits .i64)))))))&&&BitVec.ofInt (IntKind.bits .i64) (255:Int)))),((i0.1,(i0.2.1,(wI ((wI (i0.2.2*(6364136223846793005:Int)))+(1442695040888963407:Int))))),())) ((fByteX i0).1,((fByteX i0).2,()))))))
theorem spec_l1ByteX.pure (i0:((List Int)×(Int×Int))) (h:(CurI i0)) (hi:Wf c_spec_l1ByteX.I i0) (hw:Wf c_spec_l1ByteX.A ()):spec_l1ByteX.F i0:=by
 delta spec_l1ByteX.F ln tN wI
 simp only [forall_eq,true_and,and_true,caseB_iff,Prod.mk.injEq,decide_eq_true_eq,decide_eq_false_iff_not,Bool.not_eq_true',Bool.not_eq_false',bne_iff_ne,ne_eq,beq_iff_eq,Bool.not_true,Bool.not_false,beq_eq_false_iff_ne,bne_eq_false_iff_eq,List.length_append,List.length_cons,List.length_nil,List.append_nil,Nat.zero_add,decide_true,decide_false,eq_self_iff_true,Prod.eta]
 obtain⟨c1,c2,c3⟩:=h
 refine⟨by omega,by omega,fun h1=>⟨c1,h1,?_⟩,fun h1=>?_⟩
 · unfold fByteX mixH nextH;rw [if_pos h1];exact⟨rfl,rfl⟩
 · unfold fByteX mixH nextH;rw [if_neg h1];exact⟨rfl,rfl⟩
set_option maxRecDepth 100000 in
theorem spec_l1ByteX.eq:EqS c_spec_l1ByteX Try.f44 [3] [] [] noL (fun i x=>spec_l1ByteX.F i):=by intro i x;kernel_rfl
theorem spec_l1ByteX.ok:ConOk Try.prog 44 c_spec_l1ByteX:=okOf spec_l1ByteX.eq Try.func44 rfl (by kernel_rfl) fun i x h hi hw=>spec_l1ByteX.pure i h (hi rfl) hw
def spec_l1ByteX.e:GE:=⟨44,c_spec_l1ByteX,⟨_,Try.func44,rfl,rfl⟩,spec_l1ByteX.ok⟩
def c_spec_l1BelowX:Con:={io:=true,I:=(.pair (.list (.int .u8)) (.pair (.int .i64) (.int .i64))),A:=(.int .i64),shA:=[.one],R:=(.int .i64),shR:=[(false,1)],pre:=fun i a=>(pBelowX i a),f:=some fun i a=>((fBelowX i a).1,((fBelowX i a).2,()))}
def spec_l1BelowX.F (i0:((List Int)×(Int×Int))) (a0:Int):Prop:=(caseB (decide (a0≤(0:Int))) (Eq (0,((i0.1,(i0.2.1,i0.2.2)),())) ((fBelowX i0 a0).1,((fBelowX i0 a0).2,()))) (caseB (decide (a0≤(256:Int))) ((CurI (i0.1,(i0.2.1,i0.2.2)))∧∀r1,(Eq r1 ((fByteX (i0.1,(i0.2.1,i0.2.2))).1,((fByteX (i0.1,(i0.2.1,i0.2.2))).2,())))→(a0≠0∧(Eq ((Int.tmod r1.1 a0),((r1.2.1.1,(r1.2.1.2.1,r1.2.1.2.2)),())) ((fBelowX i0 a0).1,((fBelowX i0 a0).2,()))))) ((CurI (i0.1,(i0.2.1,i0.2.2)))∧∀r2,(Eq r2 ((fByteX (i0.1,(i0.2.1,i0.2.2))).1,((fByteX (i0.1,(i0.2.1,i0.2.2))).2,())))→((CurI (r2.2.1.1,(r2.2.1.2.1,r2.2.1.2.2)))∧∀r3,(Eq r3 ((fByteX (r2.2.1.1,(r2.2.1.2.1,r2.2.1.2.2))).1,((fByteX (r2.2.1.1,(r2.2.1.2.1,r2.2.1.2.2))).2,())))→((CurI (r3.2.1.1,(r3.2.1.2.1,r3.2.1.2.2)))∧∀r4,(Eq r4 ((fByteX (r3.2.1.1,(r3.2.1.2.1,r3.2.1.2.2))).1,((fByteX (r3.2.1.1,(r3.2.1.2.1,r3.2.1.2.2))).2,())))→((CurI (r4.2.1.1,(r4.2.1.2.1,r4.2.1.2.2)))∧∀r5,(Eq r5 ((fByteX (r4.2.1.1,(r4.2.1.2.1,r4.2.1.2.2))).1,((fByteX (r4.2.1.1,(r4.2.1.2.1,r4.2.1.2.2))).2,())))→(a0≠0∧(Eq ((Int.tmod (wI ((wI ((wI ((wI (r2.1*(16777216:Int)))+(wI (r3.1*(65536:Int)))))+(wI (r4.1*(256:Int)))))+r5.1)) a0),((r5.2.1.1,(r5.2.1.2.1,r5.2.1.2.2)),())) ((fBelowX i0 a0).1,((fBelowX i0 a0).2,()))))))))))
theorem spec_l1BelowX.pure (i0:((List Int)×(Int×Int))) (a0:Int) (h:(pBelowX i0 a0)) (hi:Wf c_spec_l1BelowX.I i0) (hw:Wf c_spec_l1BelowX.A a0):spec_l1BelowX.F i0 a0:=by
 delta spec_l1BelowX.F wI
 simp only [forall_eq,true_and,and_true,caseB_iff,Prod.mk.injEq,decide_eq_true_eq,decide_eq_false_iff_not,Bool.not_eq_true',Bool.not_eq_false',bne_iff_ne,ne_eq,beq_iff_eq,Bool.not_true,Bool.not_false,beq_eq_false_iff_ne,bne_eq_false_iff_eq,List.length_append,List.length_cons,List.length_nil,List.append_nil,Nat.zero_add,decide_true,decide_false,eq_self_iff_true,Prod.eta]
 have hc:CurI i0:=h
 obtain⟨a1,a2,a3⟩:=byteX_in hc
 obtain⟨b1,b2,b3⟩:=byteX_in a3
 obtain⟨c1,c2,c3⟩:=byteX_in b3
 refine⟨fun h1=>?_,fun h1=>⟨fun h2=>⟨hc,by omega,?_⟩,fun h2=>⟨hc,a3,b3,c3,by omega,?_⟩⟩⟩
 · unfold fBelowX;rw [if_pos h1];exact⟨rfl,rfl⟩
 · unfold fBelowX;rw [if_neg h1,if_pos h2];exact⟨rfl,rfl⟩
 · unfold fBelowX;rw [if_neg h1,if_neg h2];exact⟨rfl,rfl⟩
set_option maxRecDepth 100000 in
theorem spec_l1BelowX.eq:EqS c_spec_l1BelowX Try.f30 [3] [spec_l1ByteX.e] [] noL (fun i x=>spec_l1BelowX.F i x):=by intro i x;kernel_rfl
theorem spec_l1BelowX.ok:ConOk Try.prog 30 c_spec_l1BelowX:=okOf spec_l1BelowX.eq Try.func30 rfl (by kernel_rfl) fun i x h hi hw=>spec_l1BelowX.pure i x h (hi rfl) hw
def spec_l1BelowX.e:GE:=⟨30,c_spec_l1BelowX,⟨_,Try.func30,rfl,rfl⟩,spec_l1BelowX.ok⟩
def pSpoilX (c:Cur) (s:List UInt8):Prop:=CurI c∧s.length≤100000
def c_spec_l1Spoil:Con:={io:=true,I:=(.pair (.list (.int .u8)) (.pair (.int .i64) (.int .i64))),B:=.unit,A:=.str,shA:=[.one],R:=.str,shR:=[(false,1)],pre:=fun i a=>(pSpoilX i a),post:=fun i a y=>(qSpoil i a y)}
def spec_l1Spoil.F (i0:((List Int)×(Int×Int))) (a0:(List UInt8)):Prop:=(caseB ((ln a0)==(0:Int)) ((pText (i0.1,(i0.2.1,i0.2.2)) 3)∧∀r1,(qText (i0.1,(i0.2.1,i0.2.2)) 3 r1)→(qSpoil i0 a0 (r1.1,((r1.2.1.1,(r1.2.1.2.1,r1.2.1.2.2)),())))) ((pBelowX (i0.1,(i0.2.1,i0.2.2)) (ln a0))∧∀r2,(Eq r2 ((fBelowX (i0.1,(i0.2.1,i0.2.2)) (ln a0)).1,((fBelowX (i0.1,(i0.2.1,i0.2.2)) (ln a0)).2,())))→((pBelowX (r2.2.1.1,(r2.2.1.2.1,r2.2.1.2.2)) 4)∧∀r3,(Eq r3 ((fBelowX (r2.2.1.1,(r2.2.1.2.1,r2.2.1.2.2)) 4).1,((fBelowX (r2.2.1.1,(r2.2.1.2.1,r2.2.1.2.2)) 4).2,())))→(caseB (r3.1==(0:Int)) (0≤r2.1∧(r2.1≤(ln a0)∧(0≤(wI (r2.1+(1:Int)))∧((wI (r2.1+(1:Int)))≤(ln a0)∧(List.length (List.take (tN r2.1) a0)+List.length (List.drop (tN (wI (r2.1+(1:Int)))) a0)≤9223372036854775807∧(qSpoil i0 a0 (((List.take (tN r2.1) a0)++(List.drop (tN (wI (r2.1+(1:Int)))) a0)),((r3.2.1.1,(r3.2.1.2.1,r3.2.1.2.2)),())))))))) (caseB (r3.1==(1:Int)) (0≤r2.1∧(r2.1≤(ln a0)∧((CurI (r3.2.1.1,(r3.2.1.2.1,r3.2.1.2.2)))∧∀r4,(Eq r4 ((fByteX (r3.2.1.1,(r3.2.1.2.1,r3.2.1.2.2))).1,((fByteX (r3.2.1.1,(r3.2.1.2.1,r3.2.1.2.2))).2,())))→(List.length (List.take (tN r2.1) a0)+List.length (List.map (fun n=>UInt8.ofNat (Int.toNat n)) [(IntKind.wrap .u8 r4.1)])≤9223372036854775807∧(0≤r2.1∧(r2.1≤(ln a0)∧(List.length ((List.take (tN r2.1) a0)++(List.map (fun n=>UInt8.ofNat (Int.toNat n)) [(IntKind.wrap .u8 r4.1)]))+List.length (List.drop (tN r2.1) a0)≤9223372036854775807∧(qSpoil i0 a0 ((((List.take (tN r2.1) a0)++(List.map (fun n=>UInt8.ofNat (Int.toNat n)) [(IntKind.wrap .u8 r4.1)]))++(List.drop (tN r2.1) a0)),((r4.2.1.1,(r4.2.1.2.1,r4.2.1.2.2)),())))))))))) (caseB (r3.1==(2:Int)) (0≤r2.1∧(r2.1≤(ln a0)∧(qSpoil i0 a0 ((List.take (tN r2.1) a0),((r3.2.1.1,(r3.2.1.2.1,r3.2.1.2.2)),()))))) (0≤r2.1∧(r2.1≤(ln a0)∧(0≤r2.1∧(r2.1<(ln a0)∧((pBelowX (r3.2.1.1,(r3.2.1.2.1,r3.2.1.2.2)) 255)∧∀r5,(Eq r5 ((fBelowX (r3.2.1.1,(r3.2.1.2.1,r3.2.1.2.2)) 255).1,((fBelowX (r3.2.1.1,(r3.2.1.2.1,r3.2.1.2.2)) 255).2,())))→(List.length (List.take (tN r2.1) a0)+List.length (List.map (fun n=>UInt8.ofNat (Int.toNat n)) [(IntKind.wrap .u8 (IntKind.wrap .i64 (BitVec.toNat (BitVec.ofInt (IntKind.bits .i64) (wI ((UInt8.toNat (List.getD a0 (tN r2.1) 0):Nat):Int)) ^^^ BitVec.ofInt (IntKind.bits .i64) (wI ((1:Int)+r5.1))))))])≤9223372036854775807∧(0≤(wI (r2.1+(1:Int)))∧((wI (r2.1+(1:Int)))≤(ln a0)∧(List.length ((List.take (tN r2.1) a0)++(List.map (fun n=>UInt8.ofNat (Int.toNat n)) [(IntKind.wrap .u8 (IntKind.wrap .i64 (BitVec.toNat (BitVec.ofInt (IntKind.bits .i64) (wI ((UInt8.toNat (List.getD a0 (tN r2.1) 0):Nat):Int)) ^^^ BitVec.ofInt (IntKind.bits .i64) (wI ((1:Int)+r5.1))))))]))+List.length (List.drop (tN (wI (r2.1+(1:Int)))) a0)≤9223372036854775807∧(qSpoil i0 a0 ((((List.take (tN r2.1) a0)++(List.map (fun n=>UInt8.ofNat (Int.toNat n)) [(IntKind.wrap .u8 (IntKind.wrap .i64 (BitVec.toNat (BitVec.ofInt (IntKind.bits .i64) (wI ((UInt8.toNat (List.getD a0 (tN r2.1) 0):Nat):Int)) ^^^ BitVec.ofInt (IntKind.bits .i64) (wI ((1:Int)+r5.1))))))]))++(List.drop (tN (wI (r2.1+(1:Int)))) a0)),((r5.2.1.1,(r5.2.1.2.1,r5.2.1.2.2)),()))))))))))))))))))
theorem spec_l1Spoil.pure (i0:((List Int)×(Int×Int))) (a0:(List UInt8)) (h:(pSpoilX i0 a0)) (hi:Wf c_spec_l1Spoil.I i0) (hw:Wf c_spec_l1Spoil.A a0):spec_l1Spoil.F i0 a0:=by
 delta spec_l1Spoil.F ln tN wI
 simp only [forall_eq,true_and,and_true,caseB_iff,Prod.mk.injEq,decide_eq_true_eq,decide_eq_false_iff_not,Bool.not_eq_true',Bool.not_eq_false',bne_iff_ne,ne_eq,beq_iff_eq,Bool.not_true,Bool.not_false,beq_eq_false_iff_ne,bne_eq_false_iff_eq,List.length_append,List.length_cons,List.length_nil,List.append_nil,Nat.zero_add,decide_true,decide_false,eq_self_iff_true,Prod.eta,pBelowX]
 obtain⟨hc,hl⟩:=h
 refine⟨fun h0=>⟨⟨hc,by omega,by omega⟩,fun r1 q1=>⟨by have:=q1.1;simp only;omega,q1.2⟩⟩,fun h0=>?_⟩
 obtain⟨k1,k2,k3⟩:=belowX_in hc (n:=(a0.length:Int)) (by omega)
 obtain⟨t1,t2,t3⟩:=belowX_in k3 (n:=4) (by omega)
 obtain⟨x1,x2,x3⟩:=byteX_in t3
 obtain⟨z1,z2,z3⟩:=belowX_in t3 (n:=255) (by omega)
 generalize (fBelowX (fBelowX i0 (a0.length:Int)).2 4).1=t at*
 generalize (fBelowX i0 (a0.length:Int)).1=k at*
 rw [w64 (x:=k+1) (by omega) (by omega)]
 simp only [List.length_take,List.length_drop,List.length_map,List.length_cons,List.length_nil]
 refine⟨hc,k3,fun _=>⟨by omega,by omega,by omega,by omega,by omega,by simp only [List.length_append,List.length_take,List.length_drop];omega,t3⟩,fun _=>⟨fun _=>⟨by omega,by omega,t3,by omega,by omega,by omega,by omega,by simp only [List.length_append,List.length_take,List.length_drop,List.length_map,List.length_cons,List.length_nil];omega,x3⟩,fun _=>⟨fun _=>⟨by omega,by omega,by simp only [List.length_take];omega,t3⟩,fun _=>⟨by omega,by omega,by omega,by omega,t3,by omega,by omega,by omega,by omega,by simp only [List.length_append,List.length_take,List.length_drop,List.length_map,List.length_cons,List.length_nil];omega,z3⟩⟩⟩⟩
set_option maxRecDepth 100000 in
theorem spec_l1Spoil.eq:EqS c_spec_l1Spoil Try.f27 [9] [spec_l1BelowX.e,spec_l1Text.e,spec_l1ByteX.e] [] noL (fun i x=>spec_l1Spoil.F i x):=by intro i x;kernel_rfl
theorem spec_l1Spoil.ok:ConOk Try.prog 27 c_spec_l1Spoil:=okOf spec_l1Spoil.eq Try.func27 rfl (by kernel_rfl) fun i x h hi hw=>spec_l1Spoil.pure i x h (hi rfl) hw
def spec_l1Spoil.e:GE:=⟨27,c_spec_l1Spoil,⟨_,Try.func27,rfl,rfl⟩,spec_l1Spoil.ok⟩
def c_spec_DrawShowBlock:Con:={I:=.unit,B:=.unit,A:=(.list (.int .u8)),shA:=[.one],R:=(.list (.pair (.int .i64) (.int .i64))),shR:=[(false,1)],pre:=fun _ _=>True,post:=fun _ a y=>(qDShow a y)}
def spec_DrawShowBlock.F (a0:(List Int)):Prop:=(True∧∀r1,(qNew a0 r1)→((pBelow (r1.1.1,(r1.1.2.1,r1.1.2.2)) 20)∧∀r2,(qOnce (r1.1.1,(r1.1.2.1,r1.1.2.2)) 20 r2)→(caseB r2.1 (qDShow a0 (([]:(List (Int×Int))),((),()))) (True∧∀r3,(qSize a0 20 r3)→((pTimes (r2.2.1.1,(r2.2.1.2.1,r2.2.1.2.2)) r3.1)∧∀r4,(qPoints (r2.2.1.1,(r2.2.1.2.1,r2.2.1.2.2)) r3.1 r4)→(qDShow a0 (r4.1,((),()))))))))
theorem spec_DrawShowBlock.pure (a0:(List Int)) (h:True) (hw:Wf c_spec_DrawShowBlock.A a0):spec_DrawShowBlock.F a0:=by
 unfold spec_DrawShowBlock.F
 simp only [forall_eq,true_and,and_true,caseB_iff,Prod.mk.injEq,decide_eq_true_eq,decide_eq_false_iff_not,Bool.not_eq_true',Bool.not_eq_false',bne_iff_ne,ne_eq,beq_iff_eq,Bool.not_true,Bool.not_false,beq_eq_false_iff_ne,bne_eq_false_iff_eq,List.length_append,List.length_cons,List.length_nil,List.append_nil,Nat.zero_add,decide_true,decide_false,eq_self_iff_true,qBelow,qOnce,qPickI,pBelow,pPickI,CurI,pTimes,qTimes,pInts7,qInts7,qPoints,qByte,pText,qText,pSpoil,qSpoil,qNew,qSize,qDShow]
 repeat' (with_reducible (first | (refine And.intro ?_ ?_) | intro _))
 all_goals (try simp (disch:=omega) only [w64,wu8,tn0,tn1,tm1,tm2,List.length_append,List.length_cons,List.length_nil] at*)
 all_goals (try simp (disch:=omega) only [w64,wu8,tn0,tn1,tm1,tm2,List.length_append,List.length_cons,List.length_nil] at*)
 all_goals (try omega)
set_option maxRecDepth 100000 in
theorem spec_DrawShowBlock.eq:EqS c_spec_DrawShowBlock Try.f5 [24] [spec_l1New.e,spec_l1Once.e,spec_l8Points.e,spec_l1Size.e] [] noL (fun i x=>spec_DrawShowBlock.F x):=by intro i x;kernel_rfl
theorem spec_DrawShowBlock.ok:ConOk Try.prog 5 c_spec_DrawShowBlock:=okOf spec_DrawShowBlock.eq Try.func5 rfl (by kernel_rfl) fun i x h hi hw=>spec_DrawShowBlock.pure x h hw
def spec_DrawShowBlock.e:GE:=⟨5,c_spec_DrawShowBlock,⟨_,Try.func5,rfl,rfl⟩,spec_DrawShowBlock.ok⟩
def c_spec_DrawReadBlock:Con:={I:=.unit,B:=.unit,A:=(.list (.int .u8)),shA:=[.one],R:=.str,shR:=[(false,1)],pre:=fun _ _=>True,post:=fun _ a y=>(qDRead a y)}
def spec_DrawReadBlock.F (a0:(List Int)):Prop:=(True∧∀r1,(qNew a0 r1)→(True∧∀r2,(qSize a0 12 r2)→((pTimes (r1.1.1,(r1.1.2.1,r1.1.2.2)) r2.1)∧∀r3,(qPoints (r1.1.1,(r1.1.2.1,r1.1.2.2)) r2.1 r3)→(True∧∀r4,(Eq r4 ((fShowBlock r3.1),((),())))→((pBelow (r3.2.1.1,(r3.2.1.2.1,r3.2.1.2.2)) 3)∧∀r5,(qOnce (r3.2.1.1,(r3.2.1.2.1,r3.2.1.2.2)) 3 r5)→(caseB r5.1 ((pSpoilX (r5.2.1.1,(r5.2.1.2.1,r5.2.1.2.2)) r4.1)∧∀r6,(qSpoil (r5.2.1.1,(r5.2.1.2.1,r5.2.1.2.2)) r4.1 r6)→(caseB (decide ((ln r6.1)>(8:Int))) ((pBelow (r6.2.1.1,(r6.2.1.2.1,r6.2.1.2.2)) 5)∧∀r7,(qOnce (r6.2.1.1,(r6.2.1.2.1,r6.2.1.2.2)) 5 r7)→(caseB r7.1 (0≤(8:Int)∧((8:Int)≤(ln r6.1)∧((pSpoilX (r7.2.1.1,(r7.2.1.2.1,r7.2.1.2.2)) (List.drop (tN (8:Int)) r6.1))∧∀r8,(qSpoil (r7.2.1.1,(r7.2.1.2.1,r7.2.1.2.2)) (List.drop (tN (8:Int)) r6.1) r8)→(True∧∀r9,(Eq r9 ((fFrame r8.1),((),())))→(qDRead a0 (r9.1,((),()))))))) (qDRead a0 (r6.1,((),()))))) (qDRead a0 (r6.1,((),()))))) (caseB (decide ((ln r4.1)>(8:Int))) ((pBelow (r5.2.1.1,(r5.2.1.2.1,r5.2.1.2.2)) 5)∧∀r10,(qOnce (r5.2.1.1,(r5.2.1.2.1,r5.2.1.2.2)) 5 r10)→(caseB r10.1 (0≤(8:Int)∧((8:Int)≤(ln r4.1)∧((pSpoilX (r10.2.1.1,(r10.2.1.2.1,r10.2.1.2.2)) (List.drop (tN (8:Int)) r4.1))∧∀r11,(qSpoil (r10.2.1.1,(r10.2.1.2.1,r10.2.1.2.2)) (List.drop (tN (8:Int)) r4.1) r11)→(True∧∀r12,(Eq r12 ((fFrame r11.1),((),())))→(qDRead a0 (r12.1,((),()))))))) (qDRead a0 (r4.1,((),()))))) (qDRead a0 (r4.1,((),()))))))))))
theorem spec_DrawReadBlock.pure (a0:(List Int)) (h:True) (hw:Wf c_spec_DrawReadBlock.A a0):spec_DrawReadBlock.F a0:=by
 delta spec_DrawReadBlock.F ln tN
 simp only [forall_eq,true_and,and_true,caseB_iff,Prod.mk.injEq,decide_eq_true_eq,decide_eq_false_iff_not,Bool.not_eq_true',Bool.not_eq_false',bne_iff_ne,ne_eq,beq_iff_eq,Bool.not_true,Bool.not_false,beq_eq_false_iff_ne,bne_eq_false_iff_eq,List.length_append,List.length_cons,List.length_nil,List.append_nil,Nat.zero_add,decide_true,decide_false,eq_self_iff_true,qBelow,qOnce,qPickI,pBelow,pPickI,CurI,pTimes,qTimes,pInts7,qInts7,qPoints,qByte,pText,qText,pSpoil,qSpoil,qNew,qSize,qDRead,pSpoilX]
 repeat' (with_reducible (first | (refine And.intro ?_ ?_) | intro _))
 all_goals (try simp (disch:=omega) only [w64,wu8,tn0,tn1,tm1,tm2,List.length_append,List.length_cons,List.length_nil,List.length_drop] at*)
 all_goals (try simp (disch:=omega) only [w64,wu8,tn0,tn1,tm1,tm2,List.length_append,List.length_cons,List.length_nil,List.length_drop] at*)
 all_goals (try omega)
 all_goals (first | exact Nat.le_trans (showB_length _) (by decide) | exact Nat.le_trans (fFrame_length _) (by decide) | (have k:=showB_length;grind))
set_option maxRecDepth 100000 in
theorem spec_DrawReadBlock.eq:EqS c_spec_DrawReadBlock Try.f10 [9] [spec_l1New.e,spec_l1Once.e,spec_l8Points.e,spec_l1Size.e,spec_ShowBlock.e,spec_l1Spoil.e,spec_Frame.e] [] noL (fun i x=>spec_DrawReadBlock.F x):=by intro i x;kernel_rfl
theorem spec_DrawReadBlock.ok:ConOk Try.prog 10 c_spec_DrawReadBlock:=okOf spec_DrawReadBlock.eq Try.func10 rfl (by kernel_rfl) fun i x h hi hw=>spec_DrawReadBlock.pure x h hw
def spec_DrawReadBlock.e:GE:=⟨10,c_spec_DrawReadBlock,⟨_,Try.func10,rfl,rfl⟩,spec_DrawReadBlock.ok⟩
def c_laws_at:Con:={A:=(.pair (.list (.int .u8)) (.int .i64)),shA:=[.one,.one],R:=(.int .i64),shR:=[(false,1)],pre:=fun _ a=>(pAt a.1 a.2),f:=some fun _ a=>((fAt a.1 a.2),((),()))}
def laws_at.F (a0:(List Int)) (a1:Int):Prop:=(caseB (decide (a1<(ln a0))) (0≤a1∧(a1<(ln a0)∧(Eq ((wI (List.getD a0 (tN a1) 0)),((),())) ((fAt a0 a1),((),()))))) ((256:Int)≠0∧(Eq ((Int.tmod (wI ((wI (a1*(37:Int)))+(wI ((ln a0)*(11:Int))))) (256:Int)),((),())) ((fAt a0 a1),((),())))))
theorem laws_at.pure (a0:(List Int)) (a1:Int) (h:(pAt a0 a1)) (hw:Wf c_laws_at.A (a0,a1)):laws_at.F a0 a1:=by
 delta laws_at.F ln tN wI
 simp only [forall_eq,true_and,and_true,caseB_iff,Prod.mk.injEq,decide_eq_true_eq,decide_eq_false_iff_not,Bool.not_eq_true',Bool.not_eq_false',bne_iff_ne,ne_eq,beq_iff_eq,Bool.not_true,Bool.not_false,beq_eq_false_iff_ne,bne_eq_false_iff_eq,List.length_append,List.length_cons,List.length_nil,List.append_nil,Nat.zero_add,decide_true,decide_false,eq_self_iff_true,Prod.eta]
 have hp:0≤a1:=h
 refine⟨fun h1=>⟨hp,h1,?_⟩,fun h1=>⟨by omega,?_⟩⟩
 · unfold fAt;rw [if_pos h1]
 · unfold fAt;rw [if_neg h1]
set_option maxRecDepth 100000 in
theorem laws_at.eq:EqS c_laws_at Try.f12 [3] [] [] noL (fun i x=>laws_at.F x.1 x.2):=by intro i x;kernel_rfl
theorem laws_at.ok:ConOk Try.prog 12 c_laws_at:=okOf laws_at.eq Try.func12 rfl (by kernel_rfl) fun i x h hi hw=>laws_at.pure x.1 x.2 h hw
def laws_at.e:GE:=⟨12,c_laws_at,⟨_,Try.func12,rfl,rfl⟩,laws_at.ok⟩
end Go.Proofs.Ytfnafjgehdeccaa.B
