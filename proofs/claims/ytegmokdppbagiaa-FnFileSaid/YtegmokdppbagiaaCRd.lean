/- Pieces of a text,one behind the other. -/
import Derived.Test.YtegmokdppbagiaaCReadB
set_option maxRecDepth 100000
set_option linter.unusedVariables false
set_option linter.unusedSimpArgs false
namespace Go.Proofs.Ytegmokdppbagiaa.B
open Go Go.Proofs.Ytegmokdppbagiaa.Bv
def X3O(i:Rd)(n:Int):List UInt8×Rd:=if i.2=true∧n≤i.1.length then(i.1.take n.toNat,(i.1.drop n.toNat,true)) else([],(i.1,false))
def Xc3(i:Rd)(n:Int):Prop:=0≤n
def X1Q(i:Rd):List UInt8×Rd:=X3O (X2i i).2 (X2i i).1
def Xcn(s:List UInt8):Prop:=s.length≤maxLen
def X2m:Con:={io:=true,I:=(.pair .str .bool),A:=(.int .i64),shA:=[.one],R:=.str,shR:=[(false,1)],pre:=fun i a=>(Xc3 i a),f:=some fun i a=>((X3O i a).1,((X3O i a).2,()))}
def X1b.F(i0:(U3q×Bool))(a0:Int):Prop:=(X04 (!i0.2) (Eq ([],((i0.1,false),())) ((X3O i0 a0).1,((X3O i0 a0).2,()))) (X04 (decide (a0>(ln i0.1))) (Eq ([],((i0.1,false),())) ((X3O i0 a0).1,((X3O i0 a0).2,()))) (0≤a0∧(a0≤(ln i0.1)∧(0≤a0∧(a0≤(ln i0.1)∧(Eq ((List.take (tN a0) i0.1),(((List.drop (tN a0) i0.1),i0.2),())) ((X3O i0 a0).1,((X3O i0 a0).2,())))))))))
theorem X1b.pure(i0:(U3q×Bool))(a0:Int)(h:(Xc3 i0 a0))(hi:Wf X2m.I i0)(hw:Wf X2m.A a0):X1b.F i0 a0:=by
 delta X1b.F ln tN
 have h0:0≤a0:=h
 simp only[Bs,B0,B1,Prod.mk.injEq,X06,Xc3,Prod.eta]
 repeat' (with_reducible (first | (refine And.intro ?_ ?_) | intro _))
 all_goals (try simp (disch:=omega) only[w64,wu8,tn0,tn1,tm1,tm2,List.length_append,List.length_cons,List.length_nil]at*)
 all_goals (try simp (disch:=omega) only[w64,wu8,tn0,tn1,tm1,tm2,List.length_append,List.length_cons,List.length_nil]at*)
 all_goals (try omega)
 all_goals (try grind[X3O])
theorem X1b.eq:EqS X2m Try.f86 [9] [] [] noL (fun i x=>X1b.F i x):=by intro i x;kernel_rfl
theorem X1b.ok:X11 Try.prog 86 X2m:=X3V X1b.eq Try.func86 rfl (by kernel_rfl) fun i x h hi hw=>X1b.pure i x h (hi rfl) hw
def X1b.e:GE:=⟨86,X2m,⟨_,Try.func86,rfl,rfl⟩,X1b.ok⟩
def X2n:Con:={io:=true,I:=(.pair .str .bool),A:=.unit,shA:=[],R:=.str,shR:=[(false,1)],pre:=fun i _=>True,f:=some fun i a=>((X1Q i).1,((X1Q i).2,()))}
def X1a.F(i0:(U3q×Bool)):Prop:=(True∧∀r1,(Eq r1 ((X2i (i0.1,i0.2)).1,((X2i (i0.1,i0.2)).2,())))→((Xc3 (r1.2.1.1,r1.2.1.2) r1.1)∧∀r2,(Eq r2 ((X3O (r1.2.1.1,r1.2.1.2) r1.1).1,((X3O (r1.2.1.1,r1.2.1.2) r1.1).2,())))→(Eq (r2.1,((r2.2.1.1,r2.2.1.2),())) ((X1Q i0).1,((X1Q i0).2,())))))
theorem X1a.pure(i0:(U3q×Bool))(h:True)(hi:Wf X2n.I i0)(hw:Wf X2n.A ()):X1a.F i0:=by
 unfold X1a.F
 simp only[Bs,B0,B1,Prod.mk.injEq,X06,Xc3,Prod.eta]
 exact⟨(XdX i0).1,rfl,rfl⟩
theorem X1a.eq:EqS X2n Try.f40 [9] [X1c.e,X1b.e] [] noL (fun i x=>X1a.F i):=by intro i x;kernel_rfl
theorem X1a.ok:X11 Try.prog 40 X2n:=X3V X1a.eq Try.func40 rfl (by kernel_rfl) fun i x h hi hw=>X1a.pure i h (hi rfl) hw
def X1a.e:GE:=⟨40,X2n,⟨_,Try.func40,rfl,rfl⟩,X1a.ok⟩
theorem Xfi(i:Rd)(n:Int):(X3O i n).1.length≤i.1.length∧(X3O i n).2.1.length≤i.1.length:=by
 unfold X3O;split
 · simp only[List.length_take,List.length_drop];omega
 · simp
theorem X8H(i:Rd):(X2i i).2.1.length≤i.1.length:=by
 unfold X2i;split
 · simp only[List.length_drop];omega
 · simp
theorem Xft(i:Rd):(X1Q i).1.length≤i.1.length∧(X1Q i).2.1.length≤i.1.length:=by
 have h1:=Xfi (X2i i).2 (X2i i).1
 have h2:=X8H i
 unfold X1Q;omega
theorem Xim{i:Rd}(h:i.2=true)(h2:(X0i i.1).2≠0):X2i i=((X0i i.1).1,(i.1.drop (X0i i.1).2.toNat,true)):=by
 have:=X3P i.1
 unfold X2i;rw[if_pos ⟨h,by omega⟩]
end Go.Proofs.Ytegmokdppbagiaa.B
