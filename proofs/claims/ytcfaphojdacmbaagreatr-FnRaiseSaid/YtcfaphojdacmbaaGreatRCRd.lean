/- Pieces of a text,one behind the other. -/
import Derived.Test.YtcfaphojdacmbaaGreatRCReadB
set_option maxRecDepth 100000
set_option linter.unusedVariables false
set_option linter.unusedSimpArgs false
namespace Go.Proofs.YtcfaphojdacmbaaGreatR.B
open Go Go.Proofs.YtcfaphojdacmbaaGreatR.Bv
def X74(i:Rd)(n:Int):List UInt8×Rd:=if i.2=true∧n≤i.1.length then(i.1.take n.toNat,(i.1.drop n.toNat,true)) else([],(i.1,false))
def Xhi(i:Rd)(n:Int):Prop:=0≤n
def X3G(i:Rd):List UInt8×Rd:=X74 (X4s i).2 (X4s i).1
def Xg7(s:List UInt8):Prop:=s.length≤maxLen
def X4B:Con:={io:=true,I:=(.pair .str .bool),A:=(.int .i64),shA:=[.one],R:=.str,shR:=[(false,1)],pre:=fun i a=>(Xhi i a),f:=some fun i a=>((X74 i a).1,((X74 i a).2,()))}
def X2x.F(i0:(U5q×Bool))(a0:Int):Prop:=(X00 (!i0.2) (Eq ([],((i0.1,false),())) ((X74 i0 a0).1,((X74 i0 a0).2,()))) (X00 (decide (a0>(ln i0.1))) (Eq ([],((i0.1,false),())) ((X74 i0 a0).1,((X74 i0 a0).2,()))) (0≤a0∧(a0≤(ln i0.1)∧(0≤a0∧(a0≤(ln i0.1)∧(Eq ((List.take (tN a0) i0.1),(((List.drop (tN a0) i0.1),i0.2),())) ((X74 i0 a0).1,((X74 i0 a0).2,())))))))))
theorem X2x.pure(i0:(U5q×Bool))(a0:Int)(h:(Xhi i0 a0))(hi:Wf X4B.I i0)(hw:Wf X4B.A a0):X2x.F i0 a0:=by
 delta X2x.F ln tN
 have h0:0≤a0:=h
 simp only[Bs,B0,B1,Prod.mk.injEq,X01,Xhi,Prod.eta]
 repeat' (with_reducible (first | (refine And.intro ?_ ?_) | intro _))
 all_goals (try simp (disch:=omega) only[w64,wu8,tn0,tn1,tm1,tm2,List.length_append,List.length_cons,List.length_nil]at*)
 all_goals (try simp (disch:=omega) only[w64,wu8,tn0,tn1,tm1,tm2,List.length_append,List.length_cons,List.length_nil]at*)
 all_goals (try omega)
 all_goals (try grind[X74])
theorem X2x.eq:EqS X4B Tryz.f136 [9] [] [] noL (fun i x=>X2x.F i x):=by intro i x;kernel_rfl
theorem X2x.ok:X0n Tryz.prog 136 X4B:=X2g X2x.eq Tryz.func136 rfl (by kernel_rfl) fun i x h hi hw=>X2x.pure i x h (hi rfl) hw
def X2x.e:GE:=⟨136,X4B,⟨_,Tryz.func136,rfl,rfl⟩,X2x.ok⟩
def X4G:Con:={io:=true,I:=(.pair .str .bool),A:=.unit,shA:=[],R:=.str,shR:=[(false,1)],pre:=fun i _=>True,f:=some fun i a=>((X3G i).1,((X3G i).2,()))}
def X2w.F(i0:(U5q×Bool)):Prop:=(True∧∀r1,(Eq r1 ((X4s (i0.1,i0.2)).1,((X4s (i0.1,i0.2)).2,())))→((Xhi (r1.2.1.1,r1.2.1.2) r1.1)∧∀r2,(Eq r2 ((X74 (r1.2.1.1,r1.2.1.2) r1.1).1,((X74 (r1.2.1.1,r1.2.1.2) r1.1).2,())))→(Eq (r2.1,((r2.2.1.1,r2.2.1.2),())) ((X3G i0).1,((X3G i0).2,())))))
theorem X2w.pure(i0:(U5q×Bool))(h:True)(hi:Wf X4G.I i0)(hw:Wf X4G.A ()):X2w.F i0:=by
 unfold X2w.F
 simp only[Bs,B0,B1,Prod.mk.injEq,X01,Xhi,Prod.eta]
 exact⟨(Xjw i0).1,rfl,rfl⟩
theorem X2w.eq:EqS X4G Tryz.f60 [9] [X2u.e,X2x.e] [] noL (fun i x=>X2w.F i):=by intro i x;kernel_rfl
theorem X2w.ok:X0n Tryz.prog 60 X4G:=X2g X2w.eq Tryz.func60 rfl (by kernel_rfl) fun i x h hi hw=>X2w.pure i h (hi rfl) hw
def X2w.e:GE:=⟨60,X4G,⟨_,Tryz.func60,rfl,rfl⟩,X2w.ok⟩
theorem Xmc(i:Rd)(n:Int):(X74 i n).1.length≤i.1.length∧(X74 i n).2.1.length≤i.1.length:=by
 unfold X74;split
 · simp only[List.length_take,List.length_drop];omega
 · simp
theorem XeA(i:Rd):(X4s i).2.1.length≤i.1.length:=by
 unfold X4s;split
 · simp only[List.length_drop];omega
 · simp
theorem Xmo(i:Rd):(X3G i).1.length≤i.1.length∧(X3G i).2.1.length≤i.1.length:=by
 have h1:=Xmc (X4s i).2 (X4s i).1
 have h2:=XeA i
 unfold X3G;omega
theorem XpG{i:Rd}(h:i.2=true)(h2:(X0f i.1).2≠0):X4s i=((X0f i.1).1,(i.1.drop (X0f i.1).2.toNat,true)):=by
 have:=X2V i.1
 unfold X4s;rw[if_pos ⟨h,by omega⟩]
theorem XeZ(s:List UInt8)(a b:Nat):(s.take (a+b)).drop a=(s.drop a).take b:=by
 rw[List.drop_take];congr 1;omega
end Go.Proofs.YtcfaphojdacmbaaGreatR.B
