/- Pieces of a text,one behind the other. -/
import Derived.Test.YtcfaphojdacmbaaGreatRCReadB
set_option maxRecDepth 100000
set_option linter.unusedVariables false
set_option linter.unusedSimpArgs false
namespace Go.Proofs.YtcfaphojdacmbaaGreatR.B
open Go Go.Proofs.YtcfaphojdacmbaaGreatR.Bv
def X7c(i:Rd)(n:Int):List UInt8×Rd:=if i.2=true∧n≤i.1.length then(i.1.take n.toNat,(i.1.drop n.toNat,true)) else([],(i.1,false))
def Xhd(i:Rd)(n:Int):Prop:=0≤n
def X3K(i:Rd):List UInt8×Rd:=X7c (X4A i).2 (X4A i).1
def Xg9(s:List UInt8):Prop:=s.length≤maxLen
def X4J:Con:={io:=true,I:=(.pair .str .bool),A:=(.int .i64),shA:=[.one],R:=.str,shR:=[(false,1)],pre:=fun i a=>(Xhd i a),f:=some fun i a=>((X7c i a).1,((X7c i a).2,()))}
def X2F.F(i0:(U5q×Bool))(a0:Int):Prop:=(X00 (!i0.2) (Eq ([],((i0.1,false),())) ((X7c i0 a0).1,((X7c i0 a0).2,()))) (X00 (decide (a0>(ln i0.1))) (Eq ([],((i0.1,false),())) ((X7c i0 a0).1,((X7c i0 a0).2,()))) (0≤a0∧(a0≤(ln i0.1)∧(0≤a0∧(a0≤(ln i0.1)∧(Eq ((List.take (tN a0) i0.1),(((List.drop (tN a0) i0.1),i0.2),())) ((X7c i0 a0).1,((X7c i0 a0).2,())))))))))
theorem X2F.pure(i0:(U5q×Bool))(a0:Int)(h:(Xhd i0 a0))(hi:Wf X4J.I i0)(hw:Wf X4J.A a0):X2F.F i0 a0:=by
 delta X2F.F ln tN
 have h0:0≤a0:=h
 simp only[Bs,B0,B1,Prod.mk.injEq,X01,Xhd,Prod.eta]
 repeat' (with_reducible (first | (refine And.intro ?_ ?_) | intro _))
 all_goals (try simp (disch:=omega) only[w64,wu8,tn0,tn1,tm1,tm2,List.length_append,List.length_cons,List.length_nil]at*)
 all_goals (try simp (disch:=omega) only[w64,wu8,tn0,tn1,tm1,tm2,List.length_append,List.length_cons,List.length_nil]at*)
 all_goals (try omega)
 all_goals (try grind[X7c])
theorem X2F.eq:EqS X4J Tryz.f136 [9] [] [] noL (fun i x=>X2F.F i x):=by intro i x;kernel_rfl
theorem X2F.ok:X0l Tryz.prog 136 X4J:=X2d X2F.eq Tryz.func136 rfl (by kernel_rfl) fun i x h hi hw=>X2F.pure i x h (hi rfl) hw
def X2F.e:GE:=⟨136,X4J,⟨_,Tryz.func136,rfl,rfl⟩,X2F.ok⟩
def X4E:Con:={io:=true,I:=(.pair .str .bool),A:=.unit,shA:=[],R:=.str,shR:=[(false,1)],pre:=fun i _=>True,f:=some fun i a=>((X3K i).1,((X3K i).2,()))}
def X2D.F(i0:(U5q×Bool)):Prop:=(True∧∀r1,(Eq r1 ((X4A (i0.1,i0.2)).1,((X4A (i0.1,i0.2)).2,())))→((Xhd (r1.2.1.1,r1.2.1.2) r1.1)∧∀r2,(Eq r2 ((X7c (r1.2.1.1,r1.2.1.2) r1.1).1,((X7c (r1.2.1.1,r1.2.1.2) r1.1).2,())))→(Eq (r2.1,((r2.2.1.1,r2.2.1.2),())) ((X3K i0).1,((X3K i0).2,())))))
theorem X2D.pure(i0:(U5q×Bool))(h:True)(hi:Wf X4E.I i0)(hw:Wf X4E.A ()):X2D.F i0:=by
 unfold X2D.F
 simp only[Bs,B0,B1,Prod.mk.injEq,X01,Xhd,Prod.eta]
 exact⟨(XjP i0).1,rfl,rfl⟩
theorem X2D.eq:EqS X4E Tryz.f60 [9] [X2B.e,X2F.e] [] noL (fun i x=>X2D.F i):=by intro i x;kernel_rfl
theorem X2D.ok:X0l Tryz.prog 60 X4E:=X2d X2D.eq Tryz.func60 rfl (by kernel_rfl) fun i x h hi hw=>X2D.pure i h (hi rfl) hw
def X2D.e:GE:=⟨60,X4E,⟨_,Tryz.func60,rfl,rfl⟩,X2D.ok⟩
theorem XlF(i:Rd)(n:Int):(X7c i n).1.length≤i.1.length∧(X7c i n).2.1.length≤i.1.length:=by
 unfold X7c;split
 · simp only[List.length_take,List.length_drop];omega
 · simp
theorem Xel(i:Rd):(X4A i).2.1.length≤i.1.length:=by
 unfold X4A;split
 · simp only[List.length_drop];omega
 · simp
theorem Xm9(i:Rd):(X3K i).1.length≤i.1.length∧(X3K i).2.1.length≤i.1.length:=by
 have h1:=XlF (X4A i).2 (X4A i).1
 have h2:=Xel i
 unfold X3K;omega
theorem Xp6{i:Rd}(h:i.2=true)(h2:(X0f i.1).2≠0):X4A i=((X0f i.1).1,(i.1.drop (X0f i.1).2.toNat,true)):=by
 have:=X2Z i.1
 unfold X4A;rw[if_pos ⟨h,by omega⟩]
theorem Xf3(s:List UInt8)(a b:Nat):(s.take (a+b)).drop a=(s.drop a).take b:=by
 rw[List.drop_take];congr 1;omega
end Go.Proofs.YtcfaphojdacmbaaGreatR.B
