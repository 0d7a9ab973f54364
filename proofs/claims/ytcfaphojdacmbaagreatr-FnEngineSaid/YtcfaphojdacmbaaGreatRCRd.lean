/- Pieces of a text,one behind the other. -/
import Derived.Test.YtcfaphojdacmbaaGreatRCReadB
set_option maxRecDepth 100000
set_option linter.unusedVariables false
set_option linter.unusedSimpArgs false
namespace Go.Proofs.YtcfaphojdacmbaaGreatR.B
open Go Go.Proofs.YtcfaphojdacmbaaGreatR.Bv
def X7t(i:Rd)(n:Int):List UInt8×Rd:=if i.2=true∧n≤i.1.length then(i.1.take n.toNat,(i.1.drop n.toNat,true)) else([],(i.1,false))
def Xiq(i:Rd)(n:Int):Prop:=0≤n
def X3O(i:Rd):List UInt8×Rd:=X7t (X4K i).2 (X4K i).1
def Xgn(s:List UInt8):Prop:=s.length≤maxLen
def X4S:Con:={io:=true,I:=(.pair .str .bool),A:=(.int .i64),shA:=[.one],R:=.str,shR:=[(false,1)],pre:=fun i a=>(Xiq i a),f:=some fun i a=>((X7t i a).1,((X7t i a).2,()))}
def X2E.F(i0:(U5q×Bool))(a0:Int):Prop:=(X00 (!i0.2) (Eq ([],((i0.1,false),())) ((X7t i0 a0).1,((X7t i0 a0).2,()))) (X00 (decide (a0>(ln i0.1))) (Eq ([],((i0.1,false),())) ((X7t i0 a0).1,((X7t i0 a0).2,()))) (0≤a0∧(a0≤(ln i0.1)∧(0≤a0∧(a0≤(ln i0.1)∧(Eq ((List.take (tN a0) i0.1),(((List.drop (tN a0) i0.1),i0.2),())) ((X7t i0 a0).1,((X7t i0 a0).2,())))))))))
theorem X2E.pure(i0:(U5q×Bool))(a0:Int)(h:(Xiq i0 a0))(hi:Wf X4S.I i0)(hw:Wf X4S.A a0):X2E.F i0 a0:=by
 delta X2E.F ln tN
 have h0:0≤a0:=h
 simp only[Bs,B0,B1,Prod.mk.injEq,X01,Xiq,Prod.eta]
 repeat' (with_reducible (first | (refine And.intro ?_ ?_) | intro _))
 all_goals (try simp (disch:=omega) only[w64,wu8,tn0,tn1,tm1,tm2,List.length_append,List.length_cons,List.length_nil]at*)
 all_goals (try simp (disch:=omega) only[w64,wu8,tn0,tn1,tm1,tm2,List.length_append,List.length_cons,List.length_nil]at*)
 all_goals (try omega)
 all_goals (try grind[X7t])
theorem X2E.eq:EqS X4S Tryz.f136 [9] [] [] noL (fun i x=>X2E.F i x):=by intro i x;kernel_rfl
theorem X2E.ok:X0l Tryz.prog 136 X4S:=X2b X2E.eq Tryz.func136 rfl (by kernel_rfl) fun i x h hi hw=>X2E.pure i x h (hi rfl) hw
def X2E.e:GE:=⟨136,X4S,⟨_,Tryz.func136,rfl,rfl⟩,X2E.ok⟩
def X4P:Con:={io:=true,I:=(.pair .str .bool),A:=.unit,shA:=[],R:=.str,shR:=[(false,1)],pre:=fun i _=>True,f:=some fun i a=>((X3O i).1,((X3O i).2,()))}
def X2I.F(i0:(U5q×Bool)):Prop:=(True∧∀r1,(Eq r1 ((X4K (i0.1,i0.2)).1,((X4K (i0.1,i0.2)).2,())))→((Xiq (r1.2.1.1,r1.2.1.2) r1.1)∧∀r2,(Eq r2 ((X7t (r1.2.1.1,r1.2.1.2) r1.1).1,((X7t (r1.2.1.1,r1.2.1.2) r1.1).2,())))→(Eq (r2.1,((r2.2.1.1,r2.2.1.2),())) ((X3O i0).1,((X3O i0).2,())))))
theorem X2I.pure(i0:(U5q×Bool))(h:True)(hi:Wf X4P.I i0)(hw:Wf X4P.A ()):X2I.F i0:=by
 unfold X2I.F
 simp only[Bs,B0,B1,Prod.mk.injEq,X01,Xiq,Prod.eta]
 exact⟨(XjU i0).1,rfl,rfl⟩
theorem X2I.eq:EqS X4P Tryz.f60 [9] [X2F.e,X2E.e] [] noL (fun i x=>X2I.F i):=by intro i x;kernel_rfl
theorem X2I.ok:X0l Tryz.prog 60 X4P:=X2b X2I.eq Tryz.func60 rfl (by kernel_rfl) fun i x h hi hw=>X2I.pure i h (hi rfl) hw
def X2I.e:GE:=⟨60,X4P,⟨_,Tryz.func60,rfl,rfl⟩,X2I.ok⟩
theorem Xmt(i:Rd)(n:Int):(X7t i n).1.length≤i.1.length∧(X7t i n).2.1.length≤i.1.length:=by
 unfold X7t;split
 · simp only[List.length_take,List.length_drop];omega
 · simp
theorem Xeu(i:Rd):(X4K i).2.1.length≤i.1.length:=by
 unfold X4K;split
 · simp only[List.length_drop];omega
 · simp
theorem XlA(i:Rd):(X3O i).1.length≤i.1.length∧(X3O i).2.1.length≤i.1.length:=by
 have h1:=Xmt (X4K i).2 (X4K i).1
 have h2:=Xeu i
 unfold X3O;omega
theorem XpC{i:Rd}(h:i.2=true)(h2:(X0f i.1).2≠0):X4K i=((X0f i.1).1,(i.1.drop (X0f i.1).2.toNat,true)):=by
 have:=X35 i.1
 unfold X4K;rw[if_pos ⟨h,by omega⟩]
theorem Xfm(s:List UInt8)(a b:Nat):(s.take (a+b)).drop a=(s.drop a).take b:=by
 rw[List.drop_take];congr 1;omega
end Go.Proofs.YtcfaphojdacmbaaGreatR.B
