/- Pieces of a text,one behind the other. -/
import Derived.Test.YtcfaphojdacmbaaGreatRCReadB
set_option maxRecDepth 100000
set_option linter.unusedVariables false
set_option linter.unusedSimpArgs false
namespace Go.Proofs.YtcfaphojdacmbaaGreatR.B
open Go Go.Proofs.YtcfaphojdacmbaaGreatR.Bv
def X4O(i:Rd)(n:Int):List UInt8×Rd:=if i.2=true∧n≤i.1.length then(i.1.take n.toNat,(i.1.drop n.toNat,true)) else([],(i.1,false))
def XeN(i:Rd)(n:Int):Prop:=0≤n
def X0J(i:Rd):List UInt8×Rd:=X4O (X0B i).2 (X0B i).1
def X75(i:Rd):Int×Rd:=(((X4O i 1).1.getD 0 0).toNat,(X4O i 1).2)
def Xc9(s:List UInt8):Prop:=s.length≤maxLen
def X5g:Con:={io:=true,I:=(.pair .str .bool),A:=(.int .i64),shA:=[.one],R:=.str,shR:=[(false,1)],pre:=fun i a=>(XeN i a),f:=some fun i a=>((X4O i a).1,((X4O i a).2,()))}
def X2y.F(i0:(U5q×Bool))(a0:Int):Prop:=(X00 (!i0.2) (Eq ([],((i0.1,false),())) ((X4O i0 a0).1,((X4O i0 a0).2,()))) (X00 (decide (a0>(ln i0.1))) (Eq ([],((i0.1,false),())) ((X4O i0 a0).1,((X4O i0 a0).2,()))) (0≤a0∧(a0≤(ln i0.1)∧(0≤a0∧(a0≤(ln i0.1)∧(Eq ((List.take (tN a0) i0.1),(((List.drop (tN a0) i0.1),i0.2),())) ((X4O i0 a0).1,((X4O i0 a0).2,())))))))))
theorem X2y.pure(i0:(U5q×Bool))(a0:Int)(h:(XeN i0 a0))(hi:Wf X5g.I i0)(hw:Wf X5g.A a0):X2y.F i0 a0:=by
 delta X2y.F ln tN
 have h0:0≤a0:=h
 simp only[Bs,B0,B1,Prod.mk.injEq,X01,XeN,Prod.eta]
 repeat' (with_reducible (first | (refine And.intro ?_ ?_) | intro _))
 all_goals (try simp (disch:=omega) only[w64,wu8,tn0,tn1,tm1,tm2,List.length_append,List.length_cons,List.length_nil]at*)
 all_goals (try simp (disch:=omega) only[w64,wu8,tn0,tn1,tm1,tm2,List.length_append,List.length_cons,List.length_nil]at*)
 all_goals (try omega)
 all_goals (try grind[X4O])
theorem X2y.eq:EqS X5g Tryz.f136 [9] [] [] noL (fun i x=>X2y.F i x):=by intro i x;kernel_rfl
theorem X2y.ok:X0k Tryz.prog 136 X5g:=X1Z X2y.eq Tryz.func136 rfl (by kernel_rfl) fun i x h hi hw=>X2y.pure i x h (hi rfl) hw
def X2y.e:GE:=⟨136,X5g,⟨_,Tryz.func136,rfl,rfl⟩,X2y.ok⟩
def X5l:Con:={io:=true,I:=(.pair .str .bool),A:=.unit,shA:=[],R:=.str,shR:=[(false,1)],pre:=fun i _=>True,f:=some fun i a=>((X0J i).1,((X0J i).2,()))}
def X2t.F(i0:(U5q×Bool)):Prop:=(True∧∀r1,(Eq r1 ((X0B (i0.1,i0.2)).1,((X0B (i0.1,i0.2)).2,())))→((XeN (r1.2.1.1,r1.2.1.2) r1.1)∧∀r2,(Eq r2 ((X4O (r1.2.1.1,r1.2.1.2) r1.1).1,((X4O (r1.2.1.1,r1.2.1.2) r1.1).2,())))→(Eq (r2.1,((r2.2.1.1,r2.2.1.2),())) ((X0J i0).1,((X0J i0).2,())))))
theorem X2t.pure(i0:(U5q×Bool))(h:True)(hi:Wf X5l.I i0)(hw:Wf X5l.A ()):X2t.F i0:=by
 unfold X2t.F
 simp only[Bs,B0,B1,Prod.mk.injEq,X01,XeN,Prod.eta]
 exact⟨(Xlm i0).1,rfl,rfl⟩
theorem X2t.eq:EqS X5l Tryz.f60 [9] [X24.e,X2y.e] [] noL (fun i x=>X2t.F i):=by intro i x;kernel_rfl
theorem X2t.ok:X0k Tryz.prog 60 X5l:=X1Z X2t.eq Tryz.func60 rfl (by kernel_rfl) fun i x h hi hw=>X2t.pure i h (hi rfl) hw
def X2t.e:GE:=⟨60,X5l,⟨_,Tryz.func60,rfl,rfl⟩,X2t.ok⟩
theorem Xop(s:List UInt8):0≤((s.getD 0 0).toNat:Int)∧((s.getD 0 0).toNat:Int)≤255:=by
 have:=(s.getD 0 0).toNat_lt;omega
def X62:Con:={io:=true,I:=(.pair .str .bool),A:=.unit,shA:=[],R:=(.int .i64),shR:=[(false,1)],pre:=fun i _=>True,f:=some fun i a=>((X75 i).1,((X75 i).2,()))}
def X3i.F(i0:(U5q×Bool)):Prop:=((XeN (i0.1,i0.2) 1)∧∀r1,(Eq r1 ((X4O (i0.1,i0.2) 1).1,((X4O (i0.1,i0.2) 1).2,())))→(X00 (r1.1==[]) (Eq (0,((r1.2.1.1,r1.2.1.2),())) ((X75 i0).1,((X75 i0).2,()))) (0≤(0:Int)∧((0:Int)<(ln r1.1)∧(Eq ((wI ((UInt8.toNat (List.getD r1.1 (tN (0:Int)) 0):Nat):Int)),((r1.2.1.1,r1.2.1.2),())) ((X75 i0).1,((X75 i0).2,())))))))
theorem X3i.pure(i0:(U5q×Bool))(h:True)(hi:Wf X62.I i0)(hw:Wf X62.A ()):X3i.F i0:=by
 delta X3i.F ln tN wI
 simp only[Bs,B0,B1,Prod.mk.injEq,X01,XeN,Prod.eta]
 have hk:=Xop (X4O i0 1).1
 refine⟨by omega,fun h1=>?_,fun h1=>?_⟩
 · unfold X75;rw[h1];exact⟨rfl,rfl⟩
 · have:=List.length_pos_iff.2 h1
   rw[show Int.toNat 0=0 from rfl,w64 (by omega) (by omega)]
   exact⟨by omega,by omega,rfl,rfl⟩
theorem X3i.eq:EqS X62 Tryz.f58 [3] [X2y.e] [] noL (fun i x=>X3i.F i):=by intro i x;kernel_rfl
theorem X3i.ok:X0k Tryz.prog 58 X62:=X1Z X3i.eq Tryz.func58 rfl (by kernel_rfl) fun i x h hi hw=>X3i.pure i h (hi rfl) hw
def X3i.e:GE:=⟨58,X62,⟨_,Tryz.func58,rfl,rfl⟩,X3i.ok⟩
theorem Xih(i:Rd)(n:Int):(X4O i n).1.length≤i.1.length∧(X4O i n).2.1.length≤i.1.length:=by
 unfold X4O;split
 · simp only[List.length_take,List.length_drop];omega
 · simp
theorem X4e(i:Rd):(X0B i).2.1.length≤i.1.length:=by
 unfold X0B;split
 · simp only[List.length_drop];omega
 · simp
theorem X92(i:Rd):(X0J i).1.length≤i.1.length∧(X0J i).2.1.length≤i.1.length:=by
 have h1:=Xih (X0B i).2 (X0B i).1
 have h2:=X4e i
 unfold X0J;omega
theorem XjT{i:Rd}(h:i.2=true)(h2:(X0f i.1).2≠0):X0B i=((X0f i.1).1,(i.1.drop (X0f i.1).2.toNat,true)):=by
 have:=X2f i.1
 unfold X0B;rw[if_pos ⟨h,by omega⟩]
theorem XsH{i:Rd}(h:(X0f i.1).2=0):X0B i=(0,(i.1,false)):=by
 unfold X0B;rw[if_neg (by omega)]
theorem XjE{i:Rd}(h:i.2=false):X0B i=(0,(i.1,false)):=by
 unfold X0B;rw[if_neg (by rw[h];simp)]
theorem Xru{s:List UInt8}(h:1≤s.length):X75 (s,true)=(((s.getD 0 0).toNat:Int),(s.drop 1,true)):=by
 unfold X75 X4O
 rw[if_pos ⟨rfl,by simp only;omega⟩]
 cases s with
 | nil=>simp at h
 | cons a r=>rfl
theorem Xrs{s:List UInt8}(h:¬1≤s.length):(X75 (s,true)).2=(s,false):=by
 unfold X75 X4O
 rw[if_neg (by simp only;omega)]
theorem Xoj{i:Rd}(h:i.2=false):(X0J i).2.2=false:=by
 unfold X0J X4O;rw[XjE h,if_neg (by simp)]
theorem XfQ(s:List UInt8)(a b:Nat):(s.take (a+b)).drop a=(s.drop a).take b:=by
 rw[List.drop_take];congr 1;omega
end Go.Proofs.YtcfaphojdacmbaaGreatR.B
