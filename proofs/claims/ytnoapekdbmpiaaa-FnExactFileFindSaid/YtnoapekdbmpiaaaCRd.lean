/- Pieces of a text,one behind the other. -/
import Derived.Test.YtnoapekdbmpiaaaCReadB
namespace Go.Proofs.Ytnoapekdbmpiaaa.B
set_option linter.unusedVariables false
set_option linter.unusedSimpArgs false
open Go Go.Proofs.Ytnoapekdbmpiaaa.Bv
def fBytes (i:Rd) (n:Int):List UInt8×Rd:=if i.2=true∧n≤i.1.length then (i.1.take n.toNat,(i.1.drop n.toNat,true)) else ([],(i.1,false))
def pBytes (i:Rd) (n:Int):Prop:=0≤n
def fPiece (i:Rd):List UInt8×Rd:=fBytes (fNum i).2 (fNum i).1
def pStr (s:List UInt8):Prop:=s.length≤maxLen
def c_impl_rd_bytes:Con:={io:=true,I:=(.pair .str .bool),A:=(.int .i64),shA:=[.one],R:=.str,shR:=[(false,1)],pre:=fun i a=>(pBytes i a),f:=some fun i a=>((fBytes i a).1,((fBytes i a).2,()))}
def impl_rd_bytes.F (i0:((List UInt8)×Bool)) (a0:Int):Prop:=(caseB (!i0.2) (Eq ([],((i0.1,false),())) ((fBytes i0 a0).1,((fBytes i0 a0).2,()))) (caseB (decide (a0>(ln i0.1))) (Eq ([],((i0.1,false),())) ((fBytes i0 a0).1,((fBytes i0 a0).2,()))) (0≤a0∧(a0≤(ln i0.1)∧(0≤a0∧(a0≤(ln i0.1)∧(Eq ((List.take (tN a0) i0.1),(((List.drop (tN a0) i0.1),i0.2),())) ((fBytes i0 a0).1,((fBytes i0 a0).2,())))))))))
theorem impl_rd_bytes.pure (i0:((List UInt8)×Bool)) (a0:Int) (h:(pBytes i0 a0)) (hi:Wf c_impl_rd_bytes.I i0) (hw:Wf c_impl_rd_bytes.A a0):impl_rd_bytes.F i0 a0:=by
 delta impl_rd_bytes.F ln tN
 have h0:0≤a0:=h
 simp only [forall_eq,true_and,and_true,caseB_iff,Prod.mk.injEq,decide_eq_true_eq,decide_eq_false_iff_not,Bool.not_eq_true',Bool.not_eq_false',bne_iff_ne,ne_eq,beq_iff_eq,Bool.not_true,Bool.not_false,beq_eq_false_iff_ne,bne_eq_false_iff_eq,List.length_append,List.length_cons,List.length_nil,List.append_nil,Nat.zero_add,decide_true,decide_false,eq_self_iff_true,pBytes,Prod.eta]
 repeat' (with_reducible (first | (refine And.intro ?_ ?_) | intro _))
 all_goals (try simp (disch:=omega) only [w64,wu8,tn0,tn1,tm1,tm2,List.length_append,List.length_cons,List.length_nil] at*)
 all_goals (try simp (disch:=omega) only [w64,wu8,tn0,tn1,tm1,tm2,List.length_append,List.length_cons,List.length_nil] at*)
 all_goals (try omega)
 all_goals (try grind [fBytes])
set_option maxRecDepth 100000 in
theorem impl_rd_bytes.eq:EqS c_impl_rd_bytes Try.f133 [9] [] [] noL (fun i x=>impl_rd_bytes.F i x):=by intro i x;kernel_rfl
theorem impl_rd_bytes.ok:ConOk Try.prog 133 c_impl_rd_bytes:=okOf impl_rd_bytes.eq Try.func133 rfl (by kernel_rfl) fun i x h hi hw=>impl_rd_bytes.pure i x h (hi rfl) hw
def impl_rd_bytes.e:GE:=⟨133,c_impl_rd_bytes,⟨_,Try.func133,rfl,rfl⟩,impl_rd_bytes.ok⟩
def c_impl_rd_piece:Con:={io:=true,I:=(.pair .str .bool),A:=.unit,shA:=[],R:=.str,shR:=[(false,1)],pre:=fun i _=>True,f:=some fun i a=>((fPiece i).1,((fPiece i).2,()))}
def impl_rd_piece.F (i0:((List UInt8)×Bool)):Prop:=(True∧∀r1,(Eq r1 ((fNum (i0.1,i0.2)).1,((fNum (i0.1,i0.2)).2,())))→((pBytes (r1.2.1.1,r1.2.1.2) r1.1)∧∀r2,(Eq r2 ((fBytes (r1.2.1.1,r1.2.1.2) r1.1).1,((fBytes (r1.2.1.1,r1.2.1.2) r1.1).2,())))→(Eq (r2.1,((r2.2.1.1,r2.2.1.2),())) ((fPiece i0).1,((fPiece i0).2,())))))
theorem impl_rd_piece.pure (i0:((List UInt8)×Bool)) (h:True) (hi:Wf c_impl_rd_piece.I i0) (hw:Wf c_impl_rd_piece.A ()):impl_rd_piece.F i0:=by
 unfold impl_rd_piece.F
 simp only [forall_eq,true_and,and_true,caseB_iff,Prod.mk.injEq,decide_eq_true_eq,decide_eq_false_iff_not,Bool.not_eq_true',Bool.not_eq_false',bne_iff_ne,ne_eq,beq_iff_eq,Bool.not_true,Bool.not_false,beq_eq_false_iff_ne,bne_eq_false_iff_eq,List.length_append,List.length_cons,List.length_nil,List.append_nil,Nat.zero_add,decide_true,decide_false,eq_self_iff_true,pBytes,Prod.eta]
 exact⟨(num_in i0).1,rfl,rfl⟩
set_option maxRecDepth 100000 in
theorem impl_rd_piece.eq:EqS c_impl_rd_piece Try.f94 [9] [impl_rd_num.e,impl_rd_bytes.e] [] noL (fun i x=>impl_rd_piece.F i):=by intro i x;kernel_rfl
theorem impl_rd_piece.ok:ConOk Try.prog 94 c_impl_rd_piece:=okOf impl_rd_piece.eq Try.func94 rfl (by kernel_rfl) fun i x h hi hw=>impl_rd_piece.pure i h (hi rfl) hw
def impl_rd_piece.e:GE:=⟨94,c_impl_rd_piece,⟨_,Try.func94,rfl,rfl⟩,impl_rd_piece.ok⟩
theorem bytes_len (i:Rd) (n:Int):(fBytes i n).1.length≤i.1.length∧(fBytes i n).2.1.length≤i.1.length:=by
 unfold fBytes;split
 · simp only [List.length_take,List.length_drop];omega
 · simp
theorem num_len (i:Rd):(fNum i).2.1.length≤i.1.length:=by
 unfold fNum;split
 · simp only [List.length_drop];omega
 · simp
theorem piece_len (i:Rd):(fPiece i).1.length≤i.1.length∧(fPiece i).2.1.length≤i.1.length:=by
 have h1:=bytes_len (fNum i).2 (fNum i).1
 have h2:=num_len i
 unfold fPiece;omega
theorem num_yes {i:Rd} (h:i.2=true) (h2:(fReadVar i.1).2≠0):fNum i=((fReadVar i.1).1,(i.1.drop (fReadVar i.1).2.toNat,true)):=by
 have:=readVar_bound i.1
 unfold fNum;rw [if_pos ⟨h,by omega⟩]
theorem drop_take_swap (s:List UInt8) (a b:Nat):(s.take (a+b)).drop a=(s.drop a).take b:=by
 rw [List.drop_take];congr 1;omega
end Go.Proofs.Ytnoapekdbmpiaaa.B
