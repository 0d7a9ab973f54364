/- Pieces of a text,one behind the other. -/
import Derived.Test.YtgfgenbmjbhphaaCReadB
namespace Go.Proofs.Ytgfgenbmjbhphaa.B
set_option linter.unusedVariables false
set_option linter.unusedSimpArgs false
open Go Go.Proofs.Ytgfgenbmjbhphaa.Bv
def fBytes (i:Rd) (n:Int):List UInt8×Rd:=if i.2=true∧n≤i.1.length then (i.1.take n.toNat,(i.1.drop n.toNat,true)) else ([],(i.1,false))
def pBytes (i:Rd) (n:Int):Prop:=0≤n
def fKind (i:Rd):Int×Rd:=(((fBytes i 1).1.getD 0 0).toNat,(fBytes i 1).2)
def pStr (s:List UInt8):Prop:=s.length≤maxLen
def c_impl_rd_bytes:Con:={io:=true,I:=(.pair .str .bool),A:=(.int .i64),shA:=[.one],R:=.str,shR:=[(false,1)],pre:=fun i a=>(pBytes i a),f:=some fun i a=>((fBytes i a).1,((fBytes i a).2,()))}
def impl_rd_bytes.F (i0:((List UInt8)×Bool)) (a0:Int):Prop:=(caseB (!i0.2) (Eq ([],((i0.1,false),())) ((fBytes i0 a0).1,((fBytes i0 a0).2,()))) (caseB (decide (a0>(ln i0.1))) (Eq ([],((i0.1,false),())) ((fBytes i0 a0).1,((fBytes i0 a0).2,()))) (0≤a0∧(a0≤(ln i0.1)∧(0≤a0∧(a0≤(ln i0.1)∧(Eq ((List.take (tN a0) i0.1),(((List.drop (tN a0) i0.1),i0.2),())) ((fBytes i0 a0).1,((fBytes i0 a0).2,())))))))))
theorem impl_rd_bytes.pure (i0:((List UInt8)×Bool)) (a0:Int) (h:(pBytes i0 a0)) (hi:Wf c_impl_rd_bytes.I i0) (hw:Wf c_impl_rd_bytes.A a0):impl_rd_bytes.F i0 a0:=by
 delta impl_rd_bytes.F ln tN
 have h0:0≤a0:=h
 simp only [forall_eq,true_and,and_true,caseB_iff,Prod.mk.injEq,decide_eq_true_eq,decide_eq_false_iff_not,Bool.not_eq_true',Bool.not_eq_false',bne_iff_ne,ne_eq,beq_iff_eq,Bool.not_true,Bool.not_false,beq_eq_false_iff_ne,bne_eq_false_iff_eq,List.length_append,List.length_cons,List.length_nil,List.append_nil,Nat.zero_add,decide_true,decide_false,eq_self_iff_true,pBytes,Prod.eta]
 repeat' (with_reducible (first | (refine And.intro ?_ ?_) | intro _))
 all_goals (try simp (disch:=omega) only [w64,wu8,tn0,tn1,tm1,tm2,List.length_append,List.length_cons,List.length_nil] at*)
 all_goals (try simp (disch:=omega) only [w64,wu8,tn0,tn1,tm1,tm2,List.length_append,List.length_cons,List.length_nil] at*)
 all_goals (try omega)
 all_goals (try grind [fBytes])
set_option maxRecDepth 100000 in
theorem impl_rd_bytes.eq:EqS c_impl_rd_bytes Try.f48 [9] [] [] noL (fun i x=>impl_rd_bytes.F i x):=by intro i x;kernel_rfl
theorem impl_rd_bytes.ok:ConOk Try.prog 48 c_impl_rd_bytes:=okOf impl_rd_bytes.eq Try.func48 rfl (by kernel_rfl) fun i x h hi hw=>impl_rd_bytes.pure i x h (hi rfl) hw
def impl_rd_bytes.e:GE:=⟨48,c_impl_rd_bytes,⟨_,Try.func48,rfl,rfl⟩,impl_rd_bytes.ok⟩
theorem kind_le (s:List UInt8):0≤((s.getD 0 0).toNat:Int)∧((s.getD 0 0).toNat:Int)≤255:=by
 have:=(s.getD 0 0).toNat_lt;omega
def c_impl_rd_kind:Con:={io:=true,I:=(.pair .str .bool),A:=.unit,shA:=[],R:=(.int .i64),shR:=[(false,1)],pre:=fun i _=>True,f:=some fun i a=>((fKind i).1,((fKind i).2,()))}
def impl_rd_kind.F (i0:((List UInt8)×Bool)):Prop:=((pBytes (i0.1,i0.2) 1)∧∀r1,(Eq r1 ((fBytes (i0.1,i0.2) 1).1,((fBytes (i0.1,i0.2) 1).2,())))→(caseB (r1.1==[]) (Eq (0,((r1.2.1.1,r1.2.1.2),())) ((fKind i0).1,((fKind i0).2,()))) (0≤(0:Int)∧((0:Int)<(ln r1.1)∧(Eq ((wI ((UInt8.toNat (List.getD r1.1 (tN (0:Int)) 0):Nat):Int)),((r1.2.1.1,r1.2.1.2),())) ((fKind i0).1,((fKind i0).2,())))))))
theorem impl_rd_kind.pure (i0:((List UInt8)×Bool)) (h:True) (hi:Wf c_impl_rd_kind.I i0) (hw:Wf c_impl_rd_kind.A ()):impl_rd_kind.F i0:=by
 delta impl_rd_kind.F ln tN wI
 simp only [forall_eq,true_and,and_true,caseB_iff,Prod.mk.injEq,decide_eq_true_eq,decide_eq_false_iff_not,Bool.not_eq_true',Bool.not_eq_false',bne_iff_ne,ne_eq,beq_iff_eq,Bool.not_true,Bool.not_false,beq_eq_false_iff_ne,bne_eq_false_iff_eq,List.length_append,List.length_cons,List.length_nil,List.append_nil,Nat.zero_add,decide_true,decide_false,eq_self_iff_true,pBytes,Prod.eta]
 have hk:=kind_le (fBytes i0 1).1
 refine⟨by omega,fun h1=>?_,fun h1=>?_⟩
 · unfold fKind;rw [h1];exact⟨rfl,rfl⟩
 · have:=List.length_pos_iff.2 h1
   rw [show Int.toNat 0=0 from rfl,w64 (by omega) (by omega)]
   exact⟨by omega,by omega,rfl,rfl⟩
set_option maxRecDepth 100000 in
theorem impl_rd_kind.eq:EqS c_impl_rd_kind Try.f30 [3] [impl_rd_bytes.e] [] noL (fun i x=>impl_rd_kind.F i):=by intro i x;kernel_rfl
theorem impl_rd_kind.ok:ConOk Try.prog 30 c_impl_rd_kind:=okOf impl_rd_kind.eq Try.func30 rfl (by kernel_rfl) fun i x h hi hw=>impl_rd_kind.pure i h (hi rfl) hw
def impl_rd_kind.e:GE:=⟨30,c_impl_rd_kind,⟨_,Try.func30,rfl,rfl⟩,impl_rd_kind.ok⟩
theorem num_yes {i:Rd} (h:i.2=true) (h2:(fReadVar i.1).2≠0):fNum i=((fReadVar i.1).1,(i.1.drop (fReadVar i.1).2.toNat,true)):=by
 have:=readVar_bound i.1
 unfold fNum;rw [if_pos ⟨h,by omega⟩]
theorem kind_at {s:List UInt8} (h:1≤s.length):fKind (s,true)=(((s.getD 0 0).toNat:Int),(s.drop 1,true)):=by
 unfold fKind fBytes
 rw [if_pos ⟨rfl,by simp only;omega⟩]
 cases s with
 | nil=>simp at h
 | cons a r=>rfl
end Go.Proofs.Ytgfgenbmjbhphaa.B
