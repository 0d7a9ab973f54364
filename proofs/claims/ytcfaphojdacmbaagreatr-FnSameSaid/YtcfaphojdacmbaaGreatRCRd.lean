/- Pieces of a text,one behind the other. -/
import Derived.Test.YtcfaphojdacmbaaGreatRCReadB
set_option maxRecDepth 100000
set_option linter.unusedVariables false
set_option linter.unusedSimpArgs false
namespace Go.Proofs.YtcfaphojdacmbaaGreatR.B
open Go Go.Proofs.YtcfaphojdacmbaaGreatR.Bv
def X6Z(i:Rd)(n:Int):List UInt8×Rd:=if i.2=true∧n≤i.1.length then(i.1.take n.toNat,(i.1.drop n.toNat,true)) else([],(i.1,false))
def Xhm(i:Rd)(n:Int):Prop:=0≤n
def X3E(i:Rd):List UInt8×Rd:=X6Z (X4p i).2 (X4p i).1
def XfL(s:List UInt8):Prop:=s.length≤maxLen
def X4z:Con:={io:=true,I:=(.pair .str .bool),A:=(.int .i64),shA:=[.one],R:=.str,shR:=[(false,1)],pre:=fun i a=>(Xhm i a),f:=some fun i a=>((X6Z i a).1,((X6Z i a).2,()))}
def X2t.F(i0:(U5q×Bool))(a0:Int):Prop:=(X02 (!i0.2) (Eq ([],((i0.1,false),())) ((X6Z i0 a0).1,((X6Z i0 a0).2,()))) (X02 (decide (a0>(ln i0.1))) (Eq ([],((i0.1,false),())) ((X6Z i0 a0).1,((X6Z i0 a0).2,()))) (0≤a0∧(a0≤(ln i0.1)∧(0≤a0∧(a0≤(ln i0.1)∧(Eq ((List.take (tN a0) i0.1),(((List.drop (tN a0) i0.1),i0.2),())) ((X6Z i0 a0).1,((X6Z i0 a0).2,())))))))))
theorem X2t.pure(i0:(U5q×Bool))(a0:Int)(h:(Xhm i0 a0))(hi:Wf X4z.I i0)(hw:Wf X4z.A a0):X2t.F i0 a0:=by
 delta X2t.F ln tN
 have h0:0≤a0:=h
 simp only[Bs,B0,B1,Prod.mk.injEq,X01,Xhm,Prod.eta]
 repeat' (with_reducible (first | (refine And.intro ?_ ?_) | intro _))
 all_goals (try simp (disch:=omega) only[w64,wu8,tn0,tn1,tm1,tm2,List.length_append,List.length_cons,List.length_nil]at*)
 all_goals (try simp (disch:=omega) only[w64,wu8,tn0,tn1,tm1,tm2,List.length_append,List.length_cons,List.length_nil]at*)
 all_goals (try omega)
 all_goals (try grind[X6Z])
theorem X2t.eq:EqS X4z Tryz.f136 [9] [] [] noL (fun i x=>X2t.F i x):=by intro i x;kernel_rfl
theorem X2t.ok:X0n Tryz.prog 136 X4z:=X2j X2t.eq Tryz.func136 rfl (by kernel_rfl) fun i x h hi hw=>X2t.pure i x h (hi rfl) hw
def X2t.e:GE:=⟨136,X4z,⟨_,Tryz.func136,rfl,rfl⟩,X2t.ok⟩
def X4q:Con:={io:=true,I:=(.pair .str .bool),A:=.unit,shA:=[],R:=.str,shR:=[(false,1)],pre:=fun i _=>True,f:=some fun i a=>((X3E i).1,((X3E i).2,()))}
def X2x.F(i0:(U5q×Bool)):Prop:=(True∧∀r1,(Eq r1 ((X4p (i0.1,i0.2)).1,((X4p (i0.1,i0.2)).2,())))→((Xhm (r1.2.1.1,r1.2.1.2) r1.1)∧∀r2,(Eq r2 ((X6Z (r1.2.1.1,r1.2.1.2) r1.1).1,((X6Z (r1.2.1.1,r1.2.1.2) r1.1).2,())))→(Eq (r2.1,((r2.2.1.1,r2.2.1.2),())) ((X3E i0).1,((X3E i0).2,())))))
theorem X2x.pure(i0:(U5q×Bool))(h:True)(hi:Wf X4q.I i0)(hw:Wf X4q.A ()):X2x.F i0:=by
 unfold X2x.F
 simp only[Bs,B0,B1,Prod.mk.injEq,X01,Xhm,Prod.eta]
 exact⟨(Xji i0).1,rfl,rfl⟩
theorem X2x.eq:EqS X4q Tryz.f60 [9] [X2v.e,X2t.e] [] noL (fun i x=>X2x.F i):=by intro i x;kernel_rfl
theorem X2x.ok:X0n Tryz.prog 60 X4q:=X2j X2x.eq Tryz.func60 rfl (by kernel_rfl) fun i x h hi hw=>X2x.pure i h (hi rfl) hw
def X2x.e:GE:=⟨60,X4q,⟨_,Tryz.func60,rfl,rfl⟩,X2x.ok⟩
theorem Xms(i:Rd)(n:Int):(X6Z i n).1.length≤i.1.length∧(X6Z i n).2.1.length≤i.1.length:=by
 unfold X6Z;split
 · simp only[List.length_take,List.length_drop];omega
 · simp
theorem Xes(i:Rd):(X4p i).2.1.length≤i.1.length:=by
 unfold X4p;split
 · simp only[List.length_drop];omega
 · simp
theorem Xlx(i:Rd):(X3E i).1.length≤i.1.length∧(X3E i).2.1.length≤i.1.length:=by
 have h1:=Xms (X4p i).2 (X4p i).1
 have h2:=Xes i
 unfold X3E;omega
theorem Xph{i:Rd}(h:i.2=true)(h2:(X0e i.1).2≠0):X4p i=((X0e i.1).1,(i.1.drop (X0e i.1).2.toNat,true)):=by
 have:=X2T i.1
 unfold X4p;rw[if_pos ⟨h,by omega⟩]
theorem XeN(s:List UInt8)(a b:Nat):(s.take (a+b)).drop a=(s.drop a).take b:=by
 rw[List.drop_take];congr 1;omega
end Go.Proofs.YtcfaphojdacmbaaGreatR.B
