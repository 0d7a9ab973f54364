/- Times and values:read. -/
import Derived.Test.YtfnafjgehdeccaaCBits
import Derived.Test.YtfnafjgehdeccaaCRead
import Derived.Test.YtfnafjgehdeccaaCVr
namespace Go.Proofs.Ytfnafjgehdeccaa.B
set_option linter.unusedVariables false
set_option linter.unusedSimpArgs false
open Go Go.Proofs.Ytfnafjgehdeccaa.Bv
abbrev Rd:=List UInt8×Bool
def fNum (i:Rd):Int×Rd:=if i.2=true∧(fReadVar i.1).2>0 then ((fReadVar i.1).1,(i.1.drop (fReadVar i.1).2.toNat,true)) else (0,(i.1,false))
def c_impl_rd_num:Con:={io:=true,I:=(.pair .str .bool),A:=.unit,shA:=[],R:=(.int .i64),shR:=[(false,1)],pre:=fun i _=>True,f:=some fun i a=>((fNum i).1,((fNum i).2,()))}
def impl_rd_num.F (i0:((List UInt8)×Bool)):Prop:=(True∧∀r1,(Eq r1 ((fReadVar i0.1),((),())))→(caseB i0.2 (caseB (!(decide (r1.1.2>(0:Int)))) (Eq (0,((i0.1,(decide (r1.1.2>(0:Int)))),())) ((fNum i0).1,((fNum i0).2,()))) (0≤r1.1.2∧(r1.1.2≤(ln i0.1)∧(Eq (r1.1.1,(((List.drop (tN r1.1.2) i0.1),(decide (r1.1.2>(0:Int)))),())) ((fNum i0).1,((fNum i0).2,())))))) (Eq (0,((i0.1,false),())) ((fNum i0).1,((fNum i0).2,())))))
theorem impl_rd_num.pure (i0:((List UInt8)×Bool)) (h:True) (hi:Wf c_impl_rd_num.I i0) (hw:Wf c_impl_rd_num.A ()):impl_rd_num.F i0:=by
 delta impl_rd_num.F ln tN
 simp only [forall_eq,true_and,and_true,caseB_iff,Prod.mk.injEq,decide_eq_true_eq,decide_eq_false_iff_not,Bool.not_eq_true',Bool.not_eq_false']
 have hb:=readVar_bound i0.1
 refine⟨fun h1=>⟨fun h2=>?_,fun h2=>⟨by omega,by omega,?_⟩⟩,fun h1=>?_⟩
 · have:¬(i0.2=true∧(fReadVar i0.1).2>0):=fun h=>h2 h.2
   simp only [fNum,if_neg this,decide_eq_false h2,and_self]
 · have h3:(fReadVar i0.1).2>0:=by
    by_cases h4:(fReadVar i0.1).2>0
    · exact h4
    · simp [h4] at h2
   simp only [fNum,if_pos (And.intro h1 h3),decide_eq_true h3,and_self]
 · have:¬(i0.2=true∧(fReadVar i0.1).2>0):=fun h=>by rw [h1] at h;cases h.1
   simp only [fNum,if_neg this,and_self]
set_option maxRecDepth 100000 in
theorem impl_rd_num.eq:EqS c_impl_rd_num Try.f37 [3] [impl_ReadVar.e] [] noL (fun i x=>impl_rd_num.F i):=by intro i x;kernel_rfl
theorem impl_rd_num.ok:ConOk Try.prog 37 c_impl_rd_num:=okOf impl_rd_num.eq Try.func37 rfl (by kernel_rfl) fun i x h hi hw=>impl_rd_num.pure i h (hi rfl) hw
def impl_rd_num.e:GE:=⟨37,c_impl_rd_num,⟨_,Try.func37,rfl,rfl⟩,impl_rd_num.ok⟩
def v7Go (s:List UInt8):Nat→Int→List Int→List Int×Int
 | 0,p,out=>(out,p)
 | n+1,p,out=>if (fReadVar (s.drop p.toNat)).2=0 then (out,-1) else v7Go s n (p+(fReadVar (s.drop p.toNat)).2) (out++[(fReadVar (s.drop p.toNat)).1])
def fVars7 (s:List UInt8) (n:Int):List Int×Int:=v7Go s n.toNat 0 []
def cat (W:Nat→Int):Nat→List UInt8
 | 0=>[]
 | i+1=>cat W i++fVar (W i)
theorem cat_split (W:Nat→Int) {i:Nat}:∀{n:Nat},i<n→∃r,cat W n=cat W i++(fVar (W i)++r)
 | 0,h=>by omega
 | n+1,h=>by
   by_cases e:i=n
   · subst e;exact⟨[],by simp [cat]⟩
   · obtain⟨r,hr⟩:=cat_split W (i:=i) (n:=n) (by omega)
     exact⟨r++fVar (W n),by simp only [cat];rw [hr];simp [List.append_assoc]⟩
theorem cat_pos {W:Nat→Int} (h:inVar (W 0)):∀n,0<n→0<(cat W n).length
 | 1,_=>by simp only [cat,List.nil_append];exact fVar_pos h
 | n+2,_=>by have:=cat_pos h (n+1) (by omega);simp only [cat,List.length_append] at this ⊢;omega
theorem cat_read {W:Nat→Int} {n i:Nat} {s:List UInt8} (hw:∀j,j<n→inVar (W j)) (hs:s.take (cat W n).length=cat W n) (hi:i<n):
 fReadVar (s.drop (cat W i).length)=(W i,((fVar (W i)).length:Int))∧(s.drop (cat W i).length).drop (fVar (W i)).length=s.drop (cat W (i+1)).length:=by
 obtain⟨r,hr⟩:=cat_split W hi
 have e:s=cat W i++(fVar (W i)++(r++s.drop (cat W n).length)):=by
  have:=List.take_append_drop (cat W n).length s
  rw [hs] at this
  rw [hr] at this
  rw [hr]
  conv=>lhs;rw [←this]
  simp [List.append_assoc]
 refine⟨?_,?_⟩
 · have e2:s.drop (cat W i).length=fVar (W i)++(r++s.drop (cat W n).length):=by
    conv=>lhs;rw [e]
    rw [List.drop_left]
   rw [e2,rv_enc (hw i hi)]
 · rw [List.drop_drop]
   congr 1
   simp [cat]
def vals (W:Nat→Int) (n:Nat):List Int:=(List.range n).map W
theorem vals_succ (W:Nat→Int) (n:Nat):vals W (n+1)=vals W n++[W n]:=by simp [vals,List.range_succ]
theorem vals_length (W:Nat→Int) (n:Nat):(vals W n).length=n:=by simp [vals]
theorem vals_get (W:Nat→Int) {n i:Nat} (h:i<n):(vals W n).getD i 0=W i:=by
 rw [getD_lt (by rw [vals_length];exact h)];simp [vals]
theorem v7_cat {W:Nat→Int} {n:Nat} {s:List UInt8} (hw:∀j,j<n→inVar (W j)) (hs:s.take (cat W n).length=cat W n):∀(k i:Nat),i+k=n→v7Go s k ((cat W i).length:Int) (vals W i)=(vals W n,((cat W n).length:Int))
 | 0,i,h=>by
   have:i=n:=by omega
   subst this;rfl
 | k+1,i,h=>by
   obtain⟨h1,h2⟩:=cat_read hw hs (i:=i) (by omega)
   have hp:=fVar_pos (hw i (by omega))
   rw [v7Go,Int.toNat_natCast,h1]
   simp only
   rw [if_neg (by omega),←vals_succ,show ((cat W i).length:Int)+((fVar (W i)).length:Int)=((cat W (i+1)).length:Int) by simp [cat]]
   exact v7_cat hw hs k (i+1) (by omega)
theorem vars7_cat {W:Nat→Int} {n:Nat} {s:List UInt8} (hw:∀j,j<n→inVar (W j)) (hs:s.take (cat W n).length=cat W n):fVars7 s n=(vals W n,((cat W n).length:Int)):=by
 unfold fVars7
 rw [Int.toNat_natCast]
 exact v7_cat hw hs n 0 (by omega)
def fUnZig (z:Int):Int×Bool:=if fIn z 0 281474976710656 then ((if z % 2=1 then -(z+1) / 2 else z / 2),true) else (0,false)
theorem unzig_zig {d:Int} (h:fIn d (-140737488355328) 140737488355328=true):fUnZig (fZig d)=(d,true):=by
 rw [fIn_iff] at h
 unfold fZig
 rw [if_pos (fIn_iff.2 h)]
 unfold fUnZig
 split
 · rw [if_pos (fIn_iff.2 (by omega)),if_pos (by omega)]
   simp only [Prod.mk.injEq,and_true];omega
 · rw [if_pos (fIn_iff.2 (by omega)),if_neg (by omega)]
   simp only [Prod.mk.injEq,and_true];omega
theorem zig_var {d:Int} (h:fIn d (-140737488355328) 140737488355328=true):inVar (fZig d):=by
 rw [fIn_iff] at h
 unfold fZig inVar
 rw [if_pos (fIn_iff.2 h)]
 split<;>omega
theorem fUnZig_in (z:Int):-140737488355329≤(fUnZig z).1∧(fUnZig z).1≤140737488355328:=by
 unfold fUnZig
 split
 · rename_i h;rw [fIn_iff] at h;simp only;split<;>omega
 · simp
def fZag (i:Rd):Int×Rd:=((fUnZig (fNum i).1).1,((fNum i).2.1,(fNum i).2.2&&(fUnZig (fNum i).1).2))
theorem num_in (i:Rd):0≤(fNum i).1∧(fNum i).1≤562949953421311:=by
 have:=readVar_bound i.1
 unfold fNum;split<;>simp<;>omega
def fPrefix (s t:List UInt8):Bool:=s.take t.length==t
def fBegan (s t:List UInt8):Int×Bool:=((t.length:Int),decide (t≠[])&&fPrefix s t)
theorem zag_in (i:Rd):-140737488355329≤(fZag i).1∧(fZag i).1≤140737488355328:=fUnZig_in _
theorem tdiv2 {a:Int} (h:0≤a):Int.tdiv a 2=a / 2:=Int.tdiv_eq_ediv_of_nonneg h
theorem tdiv2n {a:Int} (h:0≤a) (h2:a % 2=0):Int.tdiv (0 - a) 2= -a / 2:=by
 rw [Int.zero_sub,Int.neg_tdiv,tdiv2 h];omega
theorem tmod2 {a:Int} (h:0≤a):Int.tmod a 2=a % 2:=Int.tmod_eq_emod_of_nonneg h
def c_impl_UnZig:Con:={A:=(.int .i64),shA:=[.one],R:=(.pair (.int .i64) .bool),shR:=[(false,1),(false,1)],pre:=fun _ _=>True,f:=some fun _ a=>((fUnZig a),((),()))}
def impl_UnZig.F (a0:Int):Prop:=(True∧∀r1,(Eq r1 ((fIn a0 0 281474976710656),((),())))→(caseB (!r1.1) (Eq ((0,false),((),())) ((fUnZig a0),((),()))) ((2:Int)≠0∧(caseB ((Int.tmod a0 (2:Int))==(1:Int)) ((2:Int)≠0∧(Eq (((wI (Int.tdiv (wI (0 - (wI (a0+(1:Int))))) (2:Int))),true),((),())) ((fUnZig a0),((),())))) ((2:Int)≠0∧(Eq (((wI (Int.tdiv a0 (2:Int))),true),((),())) ((fUnZig a0),((),()))))))))
theorem impl_UnZig.pure (a0:Int) (h:True) (hw:Wf c_impl_UnZig.A a0):impl_UnZig.F a0:=by
 delta impl_UnZig.F wI
 simp only [forall_eq,true_and,and_true,caseB_iff,Prod.mk.injEq,decide_eq_true_eq,decide_eq_false_iff_not,Bool.not_eq_true',Bool.not_eq_false',bne_iff_ne,ne_eq,beq_iff_eq,Bool.not_true,Bool.not_false,beq_eq_false_iff_ne,bne_eq_false_iff_eq,List.length_append,List.length_cons,List.length_nil,List.append_nil,Nat.zero_add,decide_true,decide_false,eq_self_iff_true]
 refine⟨fun h1=>by simp [fUnZig,h1],fun h1=>?_⟩
 have hp:=fIn_iff.1 h1
 rw [tmod2 hp.1,tdiv2 hp.1,w64 (x:=a0 / 2) (by omega) (by omega),w64 (x:=a0+1) (by omega) (by omega),w64 (x:=0 - (a0+1)) (by omega) (by omega)]
 refine⟨by omega,fun h3=>⟨by omega,?_⟩,fun h3=>⟨by omega,?_⟩⟩
 · rw [tdiv2n (by omega) (by omega),w64 (by omega) (by omega)]
   simp [fUnZig,h1,h3]
 · simp [fUnZig,h1,h3]
set_option maxRecDepth 100000 in
theorem impl_UnZig.eq:EqS c_impl_UnZig Try.f49 [3,4] [impl_from.e] [] noL (fun i x=>impl_UnZig.F x):=by intro i x;kernel_rfl
theorem impl_UnZig.ok:ConOk Try.prog 49 c_impl_UnZig:=okOf impl_UnZig.eq Try.func49 rfl (by kernel_rfl) fun i x h hi hw=>impl_UnZig.pure x h hw
def impl_UnZig.e:GE:=⟨49,c_impl_UnZig,⟨_,Try.func49,rfl,rfl⟩,impl_UnZig.ok⟩
def c_impl_rd_zag:Con:={io:=true,I:=(.pair .str .bool),A:=.unit,shA:=[],R:=(.int .i64),shR:=[(false,1)],pre:=fun i _=>True,f:=some fun i a=>((fZag i).1,((fZag i).2,()))}
def impl_rd_zag.F (i0:((List UInt8)×Bool)):Prop:=(True∧∀r1,(Eq r1 ((fNum (i0.1,i0.2)).1,((fNum (i0.1,i0.2)).2,())))→(True∧∀r2,(Eq r2 ((fUnZig r1.1),((),())))→(caseB r1.2.1.2 (Eq (r2.1.1,((r1.2.1.1,r2.1.2),())) ((fZag i0).1,((fZag i0).2,()))) (Eq (r2.1.1,((r1.2.1.1,false),())) ((fZag i0).1,((fZag i0).2,()))))))
theorem impl_rd_zag.pure (i0:((List UInt8)×Bool)) (h:True) (hi:Wf c_impl_rd_zag.I i0) (hw:Wf c_impl_rd_zag.A ()):impl_rd_zag.F i0:=by
 unfold impl_rd_zag.F
 simp only [forall_eq,true_and,and_true,caseB_iff,Prod.mk.injEq,decide_eq_true_eq,decide_eq_false_iff_not,Bool.not_eq_true',Bool.not_eq_false',bne_iff_ne,ne_eq,beq_iff_eq,Bool.not_true,Bool.not_false,beq_eq_false_iff_ne,bne_eq_false_iff_eq,List.length_append,List.length_cons,List.length_nil,List.append_nil,Nat.zero_add,decide_true,decide_false,eq_self_iff_true]
 exact⟨fun h1=>by simp [fZag,h1],fun h1=>by simp [fZag,h1]⟩
set_option maxRecDepth 100000 in
theorem impl_rd_zag.eq:EqS c_impl_rd_zag Try.f38 [3] [impl_rd_num.e,impl_UnZig.e] [] noL (fun i x=>impl_rd_zag.F i):=by intro i x;kernel_rfl
theorem impl_rd_zag.ok:ConOk Try.prog 38 c_impl_rd_zag:=okOf impl_rd_zag.eq Try.func38 rfl (by kernel_rfl) fun i x h hi hw=>impl_rd_zag.pure i h (hi rfl) hw
def impl_rd_zag.e:GE:=⟨38,c_impl_rd_zag,⟨_,Try.func38,rfl,rfl⟩,impl_rd_zag.ok⟩
def c_internal_stringslite_HasPrefix:Con:={A:=(.pair .str .str),shA:=[.one,.one],R:=.bool,shR:=[(false,1)],pre:=fun _ _=>True,f:=some fun _ a=>((fPrefix a.1 a.2),((),()))}
def internal_stringslite_HasPrefix.F (a0:(List UInt8)) (a1:(List UInt8)):Prop:=(caseB (decide ((ln a0)≥(ln a1))) (0≤(ln a1)∧((ln a1)≤(ln a0)∧(Eq (((List.take (tN (ln a1)) a0)==a1),((),())) ((fPrefix a0 a1),((),()))))) (Eq (false,((),())) ((fPrefix a0 a1),((),()))))
theorem internal_stringslite_HasPrefix.pure (a0:(List UInt8)) (a1:(List UInt8)) (h:True) (hw:Wf c_internal_stringslite_HasPrefix.A (a0,a1)):internal_stringslite_HasPrefix.F a0 a1:=by
 delta internal_stringslite_HasPrefix.F ln tN
 simp only [forall_eq,true_and,and_true,caseB_iff,Prod.mk.injEq,decide_eq_true_eq,decide_eq_false_iff_not,Bool.not_eq_true',Bool.not_eq_false',bne_iff_ne,ne_eq,beq_iff_eq,Bool.not_true,Bool.not_false,beq_eq_false_iff_ne,bne_eq_false_iff_eq,List.length_append,List.length_cons,List.length_nil,List.append_nil,Nat.zero_add,decide_true,decide_false,eq_self_iff_true]
 refine⟨fun h1=>⟨by omega,by omega,by rw [show ((a1.length:Nat):Int).toNat=a1.length by omega];rfl⟩,fun h1=>?_⟩
 symm;unfold fPrefix;rw [beq_eq_false_iff_ne];intro e
 have:=congrArg List.length e;simp at this;omega
set_option maxRecDepth 100000 in
theorem internal_stringslite_HasPrefix.eq:EqS c_internal_stringslite_HasPrefix Try.f54 [4] [] [] noL (fun i x=>internal_stringslite_HasPrefix.F x.1 x.2):=by intro i x;kernel_rfl
theorem internal_stringslite_HasPrefix.ok:ConOk Try.prog 54 c_internal_stringslite_HasPrefix:=okOf internal_stringslite_HasPrefix.eq Try.func54 rfl (by kernel_rfl) fun i x h hi hw=>internal_stringslite_HasPrefix.pure x.1 x.2 h hw
def internal_stringslite_HasPrefix.e:GE:=⟨54,c_internal_stringslite_HasPrefix,⟨_,Try.func54,rfl,rfl⟩,internal_stringslite_HasPrefix.ok⟩
def c_strings_HasPrefix:Con:={A:=(.pair .str .str),shA:=[.one,.one],R:=.bool,shR:=[(false,1)],pre:=fun _ _=>True,f:=some fun _ a=>((fPrefix a.1 a.2),((),()))}
def strings_HasPrefix.F (a0:(List UInt8)) (a1:(List UInt8)):Prop:=(True∧∀r1,(Eq r1 ((fPrefix a0 a1),((),())))→(Eq (r1.1,((),())) ((fPrefix a0 a1),((),()))))
theorem strings_HasPrefix.pure (a0:(List UInt8)) (a1:(List UInt8)) (h:True) (hw:Wf c_strings_HasPrefix.A (a0,a1)):strings_HasPrefix.F a0 a1:=by
 unfold strings_HasPrefix.F
 simp only [forall_eq,true_and,and_true,caseB_iff,Prod.mk.injEq,decide_eq_true_eq,decide_eq_false_iff_not,Bool.not_eq_true',Bool.not_eq_false',bne_iff_ne,ne_eq,beq_iff_eq,Bool.not_true,Bool.not_false,beq_eq_false_iff_ne,bne_eq_false_iff_eq,List.length_append,List.length_cons,List.length_nil,List.append_nil,Nat.zero_add,decide_true,decide_false,eq_self_iff_true]
 repeat' (with_reducible (first | (refine And.intro ?_ ?_) | intro _))
 all_goals (try simp (disch:=omega) only [w64,wu8,tn0,tn1,tm1,tm2,List.length_append,List.length_cons,List.length_nil] at*)
 all_goals (try simp (disch:=omega) only [w64,wu8,tn0,tn1,tm1,tm2,List.length_append,List.length_cons,List.length_nil] at*)
 all_goals (try omega)
 all_goals (try grind [])
set_option maxRecDepth 100000 in
theorem strings_HasPrefix.eq:EqS c_strings_HasPrefix Try.f50 [4] [internal_stringslite_HasPrefix.e] [] noL (fun i x=>strings_HasPrefix.F x.1 x.2):=by intro i x;kernel_rfl
theorem strings_HasPrefix.ok:ConOk Try.prog 50 c_strings_HasPrefix:=okOf strings_HasPrefix.eq Try.func50 rfl (by kernel_rfl) fun i x h hi hw=>strings_HasPrefix.pure x.1 x.2 h hw
def strings_HasPrefix.e:GE:=⟨50,c_strings_HasPrefix,⟨_,Try.func50,rfl,rfl⟩,strings_HasPrefix.ok⟩
def c_impl_began:Con:={A:=(.pair .str .str),shA:=[.one,.one],R:=(.pair (.int .i64) .bool),shR:=[(false,1),(false,1)],pre:=fun _ _=>True,f:=some fun _ a=>((fBegan a.1 a.2),((),()))}
def impl_began.F (a0:(List UInt8)) (a1:(List UInt8)):Prop:=(caseB (!(a1==[])) (True∧∀r1,(Eq r1 ((fPrefix a0 a1),((),())))→(Eq (((ln a1),r1.1),((),())) ((fBegan a0 a1),((),())))) (Eq (((ln a1),false),((),())) ((fBegan a0 a1),((),()))))
theorem impl_began.pure (a0:(List UInt8)) (a1:(List UInt8)) (h:True) (hw:Wf c_impl_began.A (a0,a1)):impl_began.F a0 a1:=by
 delta impl_began.F ln
 simp only [forall_eq,true_and,and_true,caseB_iff,Prod.mk.injEq,decide_eq_true_eq,decide_eq_false_iff_not,Bool.not_eq_true',Bool.not_eq_false',bne_iff_ne,ne_eq,beq_iff_eq,Bool.not_true,Bool.not_false,beq_eq_false_iff_ne,bne_eq_false_iff_eq,List.length_append,List.length_cons,List.length_nil,List.append_nil,Nat.zero_add,decide_true,decide_false,eq_self_iff_true]
 repeat' (with_reducible (first | (refine And.intro ?_ ?_) | intro _))
 all_goals (try simp (disch:=omega) only [w64,wu8,tn0,tn1,tm1,tm2,List.length_append,List.length_cons,List.length_nil] at*)
 all_goals (try simp (disch:=omega) only [w64,wu8,tn0,tn1,tm1,tm2,List.length_append,List.length_cons,List.length_nil] at*)
 all_goals (try omega)
 all_goals (try grind [fBegan])
set_option maxRecDepth 100000 in
theorem impl_began.eq:EqS c_impl_began Try.f39 [3,4] [strings_HasPrefix.e] [] noL (fun i x=>impl_began.F x.1 x.2):=by intro i x;kernel_rfl
theorem impl_began.ok:ConOk Try.prog 39 c_impl_began:=okOf impl_began.eq Try.func39 rfl (by kernel_rfl) fun i x h hi hw=>impl_began.pure x.1 x.2 h hw
def impl_began.e:GE:=⟨39,c_impl_began,⟨_,Try.func39,rfl,rfl⟩,impl_began.ok⟩
theorem snoc_take {l:List Int} {i:Nat} (hi:i<l.length):l.take (i+1)=l.take i++[l.getD i 0]:=by
 rw [List.take_add_one,List.getD_eq_getElem?_getD,List.getElem?_eq_getElem hi];rfl
theorem getD_take {l:List Int} {i j:Nat} (h:j<i):(l.take i).getD j 0=l.getD j 0:=by
 simp [List.getD_eq_getElem?_getD,List.getElem?_take,h]
section
variable (ok:List Int→Bool) (W:List Int→Nat→Int) (nx:List Int→List Int→Nat→Int)
def RW (s:List UInt8) (n:Int) (l:List Int):Prop:=(l.length:Int)=n∧ok l=true∧s.take (cat (W l) l.length).length=cat (W l) l.length
def decG (v:List Int):Nat→List Int
 | 0=>[]
 | i+1=>decG v i++[nx (decG v i) v i]
instance (s:List UInt8) (n:Int) (l:List Int):Decidable (RW ok W s n l):=by unfold RW;infer_instance
def fReadG (s:List UInt8) (n:Int):List Int×Int:=
 if RW ok W s n (decG nx (fVars7 s n).1 n.toNat) then (decG nx (fVars7 s n).1 n.toNat,((cat (W (decG nx (fVars7 s n).1 n.toNat)) (decG nx (fVars7 s n).1 n.toNat).length).length:Int)) else ([],0)
variable {ok W nx} (hW:∀l,ok l=true→∀i,i<l.length→inVar (W l i))
include hW
theorem RW.vars {s:List UInt8} {n:Int} {l:List Int} (h:RW ok W s n l):fVars7 s n=(vals (W l) l.length,((cat (W l) l.length).length:Int)):=by
 have e:=vars7_cat (W:=W l) (n:=l.length) (s:=s) (hW l h.2.1) h.2.2
 rw [h.1] at e
 exact e
theorem RW.at {s:List UInt8} {n:Int} {l:List Int} (h:RW ok W s n l) {i:Nat} (hi:i<l.length):(fVars7 s n).1.getD i 0=W l i:=by
 rw [RW.vars hW h];exact vals_get _ hi
variable (hn:∀l,ok l=true→∀(v:List Int) i,i<l.length→v.getD i 0=W l i→nx (l.take i) v i=l.getD i 0)
include hn
theorem RW.dec {s:List UInt8} {n:Int} {l:List Int} (h:RW ok W s n l):∀i,i≤l.length→decG nx (fVars7 s n).1 i=l.take i
 | 0,_=>by simp [decG]
 | i+1,hi=>by
   rw [decG,RW.dec h i (by omega),snoc_take (by omega),hn l h.2.1 _ i (by omega) (RW.at hW h (by omega))]
theorem RW.yes {s:List UInt8} {n:Int} {l:List Int} (h:RW ok W s n l):fReadG ok W nx s n=(l,((cat (W l) l.length).length:Int)):=by
 have e:decG nx (fVars7 s n).1 n.toNat=l:=by rw [RW.dec hW hn h _ (by have:=h.1;omega),show n.toNat=l.length by have:=h.1;omega,List.take_length]
 unfold fReadG
 rw [e,if_pos h]
theorem RW.get {s:List UInt8} {n:Int} (h0:ok []=false):fReadG ok W nx s n=([],0)∧(∀l,¬RW ok W s n l)∨∃l,RW ok W s n l∧fReadG ok W nx s n=(l,((cat (W l) l.length).length:Int)):=by
 by_cases h:∃l,RW ok W s n l
 · obtain⟨l,h⟩:=h
   exact .inr ⟨l,h,RW.yes hW hn h⟩
 · refine .inl ⟨?_,fun l hl=>h ⟨l,hl⟩⟩
   unfold fReadG
   rw [if_neg fun hl=>h ⟨_,hl⟩]
end
def tmW (l:List Int) (i:Nat):Int:=if i=0 then l.getD 0 0 else if i=1 then l.getD 1 0 - l.getD 0 0 else fZig (l.getD i 0 - l.getD (i - 1) 0 - (l.getD (i - 1) 0 - l.getD (i - 2) 0))
def vlW (l:List Int) (i:Nat):Int:=fZig (l.getD i 0 - (if i=0 then 0 else l.getD (i - 1) 0))
theorem tm_cat (l:List Int):∀i,tmS l i=cat (tmW l) i
 | 0=>rfl
 | i+1=>by
   rw [tmS_succ,tm_cat l i,cat]
   congr 1
   unfold tmPiece tmW
   split
   · rfl
   · split<;>rfl
theorem vl_cat (l:List Int):∀i,vlS l i=cat (vlW l) i
 | 0=>rfl
 | i+1=>by rw [vlS_succ,vl_cat l i,cat];rfl
theorem tmD_in {l:List Int} (h:fRise l=true) {i:Nat} (hi:i<l.length) (h2:2≤i):fIn (l.getD i 0 - l.getD (i - 1) 0 - (l.getD (i - 1) 0 - l.getD (i - 2) 0)) (-140737488355328) 140737488355328=true:=by
 have h1:=riseI_of h hi
 have h2:=riseI_of h (i:=i - 1) (by omega)
 have h3:=riseI_of h (i:=i - 2) (by omega)
 rw [fIn_iff];omega
theorem tmW_in (l:List Int) (h:fRise l=true) (i:Nat) (hi:i<l.length):inVar (tmW l i):=by
 have h0:=riseI_of h (i:=0) (by omega)
 unfold tmW
 split
 · unfold inVar;omega
 · split
   · have h1:=riseAt_iff.1 ((fRise_iff.1 h).2 1 (by omega))
     simp only [show (1:Nat) - 1=0 from rfl] at h1
     unfold inVar;omega
   · exact zig_var (tmD_in h hi (by omega))
theorem vlD_in {l:List Int} (h:fVals l=true) {i:Nat} (hi:i<l.length):fIn (l.getD i 0 - (if i=0 then 0 else l.getD (i - 1) 0)) (-140737488355328) 140737488355328=true:=by
 have h1:=valI_of h hi
 rw [fIn_iff]
 split
 · omega
 · have h2:=valI_of h (i:=i - 1) (by omega)
   omega
theorem vlW_in (l:List Int) (h:fVals l=true) (i:Nat) (hi:i<l.length):inVar (vlW l i):=zig_var (vlD_in h hi)
def nxT (o v:List Int) (i:Nat):Int:=if i=0 then v.getD 0 0 else if i=1 then o.getD 0 0+v.getD 1 0 else o.getD (i - 1) 0+(o.getD (i - 1) 0 - o.getD (i - 2) 0+(fUnZig (v.getD i 0)).1)
def nxV (o v:List Int) (i:Nat):Int:=(if i=0 then 0 else o.getD (i - 1) 0)+(fUnZig (v.getD i 0)).1
theorem nxT_ok (l:List Int) (h:fRise l=true) (v:List Int) (i:Nat) (hi:i<l.length) (hv:v.getD i 0=tmW l i):nxT (l.take i) v i=l.getD i 0:=by
 unfold nxT
 unfold tmW at hv
 by_cases h0:i=0
 · subst h0;simpa using hv
 rw [if_neg h0] at hv ⊢
 by_cases h1:i=1
 · subst h1
   rw [if_pos rfl] at hv
   rw [if_pos rfl,getD_take (by omega),hv];omega
 rw [if_neg h1] at hv ⊢
 rw [hv,unzig_zig (tmD_in h hi (by omega)),getD_take (by omega),getD_take (by omega)]
 simp only;omega
theorem nxV_ok (l:List Int) (h:fVals l=true) (v:List Int) (i:Nat) (hi:i<l.length) (hv:v.getD i 0=vlW l i):nxV (l.take i) v i=l.getD i 0:=by
 unfold nxV
 rw [hv,vlW,unzig_zig (vlD_in h hi)]
 split
 · simp
 · rw [getD_take (by omega)];simp only;omega
def fReadT (s:List UInt8) (n:Int):List Int×Int:=fReadG fRise tmW nxT s n
def fReadV (s:List UInt8) (n:Int):List Int×Int:=fReadG fVals vlW nxV s n
abbrev RT:=RW fRise tmW
abbrev RV:=RW fVals vlW
theorem showT_eq {l:List Int} (h:fRise l=true):fShowTimes l=cat (tmW l) l.length:=by unfold fShowTimes;rw [if_pos h,tm_cat]
theorem showV_eq {l:List Int} (h:fVals l=true):fShowValues l=cat (vlW l) l.length:=by unfold fShowValues;rw [if_pos h,vl_cat]
theorem readT_get (s:List UInt8) (n:Int):fReadT s n=([],0)∧(∀l,¬RT s n l)∨∃l,RT s n l∧fReadT s n=(l,((cat (tmW l) l.length).length:Int)):=RW.get tmW_in nxT_ok rfl
theorem readV_get (s:List UInt8) (n:Int):fReadV s n=([],0)∧(∀l,¬RV s n l)∨∃l,RV s n l∧fReadV s n=(l,((cat (vlW l) l.length).length:Int)):=RW.get vlW_in nxV_ok rfl
theorem readT_yes {s:List UInt8} {n:Int} {l:List Int} (h:RT s n l):fReadT s n=(l,((cat (tmW l) l.length).length:Int)):=RW.yes tmW_in nxT_ok h
theorem readV_yes {s:List UInt8} {n:Int} {l:List Int} (h:RV s n l):fReadV s n=(l,((cat (vlW l) l.length).length:Int)):=RW.yes vlW_in nxV_ok h
theorem RT.val {s:List UInt8} {n:Int} {l:List Int} (h:RT s n l) {i:Nat} (hi:i<l.length):(fVars7 s n).1.getD i 0=tmW l i:=RW.at tmW_in h hi
theorem RV.val {s:List UInt8} {n:Int} {l:List Int} (h:RV s n l) {i:Nat} (hi:i<l.length):(fVars7 s n).1.getD i 0=vlW l i:=RW.at vlW_in h hi
theorem readT_no {s:List UInt8} {n:Int} (h:∀l,¬RT s n l):([],0)=fReadT s n:=by
 rcases readT_get s n with⟨e,_⟩ | ⟨l,hl,_⟩
 · exact e.symm
 · exact absurd hl (h l)
theorem readV_no {s:List UInt8} {n:Int} (h:∀l,¬RV s n l):([],0)=fReadV s n:=by
 rcases readV_get s n with⟨e,_⟩ | ⟨l,hl,_⟩
 · exact e.symm
 · exact absurd hl (h l)
theorem RT.len {s:List UInt8} {n:Int} {l:List Int} (h:RT s n l):fIn n 1 60=true:=by
 rw [fIn_iff];have h1:=(fRise_iff.1 h.2.1).1;have:=h.1;omega
theorem RV.len {s:List UInt8} {n:Int} {l:List Int} (h:RV s n l):fIn n 1 60=true:=by
 rw [fIn_iff];have h1:=(fVals_iff.1 h.2.1).1;have:=h.1;omega
theorem RT.pos {s:List UInt8} {n:Int} {l:List Int} (h:RT s n l):¬(fVars7 s n).2<0:=by
 rw [RW.vars tmW_in h];simp only;omega
theorem RV.pos {s:List UInt8} {n:Int} {l:List Int} (h:RV s n l):¬(fVars7 s n).2<0:=by
 rw [RW.vars vlW_in h];simp only;omega
def dT (l:List Int) (j:Nat):Int:=if j=0 then l.getD 0 0 else l.getD j 0 - l.getD (j - 1) 0
def laT (l:List Int) (j:Nat):Int:=if j=0 then 0 else l.getD (j - 1) 0
def riI (s:List UInt8) (n step last i:Int) (rest:List UInt8) (ok:Bool) (out:List Int):Prop:=(0≤i∧i≤n∧n≤60∧(out.length:Int)=i)∧(-(1125899906842624*i)≤step∧step≤1125899906842624*i∧-(70000000000000000*i)≤last∧last≤70000000000000000*i)∧∀l,RT s n l→ok=true∧rest=s.drop (cat (tmW l) i.toNat).length∧out=l.take i.toNat∧last=laT l i.toNat∧(1≤i→step=dT l (i.toNat - 1))
def riM (s:List UInt8) (n step last i:Int) (rest:List UInt8) (ok:Bool) (out:List Int):Nat:=(n - i).toNat
def viI (s:List UInt8) (n last i:Int) (rest:List UInt8) (ok:Bool) (out:List Int):Prop:=(0≤i∧i≤n∧n≤60∧(out.length:Int)=i)∧(-(70000000000000000*i)≤last∧last≤70000000000000000*i)∧∀l,RV s n l→ok=true∧rest=s.drop (cat (vlW l) i.toNat).length∧out=l.take i.toNat∧last=laT l i.toNat
def viM (s:List UInt8) (n last i:Int) (rest:List UInt8) (ok:Bool) (out:List Int):Nat:=(n - i).toNat
theorem num_at {W:Nat→Int} {n i:Nat} {s:List UInt8} (hw:∀j,j<n→inVar (W j)) (hs:s.take (cat W n).length=cat W n) (hi:i<n):fNum (s.drop (cat W i).length,true)=(W i,(s.drop (cat W (i+1)).length,true)):=by
 obtain⟨h1,h2⟩:=cat_read hw hs hi
 have hp:=fVar_pos (hw i hi)
 unfold fNum
 simp only
 rw [h1]
 simp only
 rw [if_pos ⟨trivial,by omega⟩,Int.toNat_natCast,h2]
theorem zag_at {W:Nat→Int} {n i:Nat} {s:List UInt8} {d:Int} (hw:∀j,j<n→inVar (W j)) (hs:s.take (cat W n).length=cat W n) (hi:i<n) (hd:fIn d (-140737488355328) 140737488355328=true) (he:W i=fZig d):fZag (s.drop (cat W i).length,true)=(d,(s.drop (cat W (i+1)).length,true)):=by
 unfold fZag
 rw [num_at hw hs hi]
 simp only
 rw [he,unzig_zig hd]
 rfl
theorem ri_next {s:List UInt8} {n step last i step':Int} {rest:List UInt8} {ok:Bool} {out:List Int} {r:Rd} (hI:riI s n step last i rest ok out) (hi:i<n) (hb:-(1125899906842624*(i+1))≤step'∧step'≤1125899906842624*(i+1)) (hs:∀l,RT s n l→ok=true→rest=s.drop (cat (tmW l) i.toNat).length→(1≤i→step=dT l (i.toNat - 1))→step'=dT l i.toNat∧r=(s.drop (cat (tmW l) (i.toNat+1)).length,true)):riI s n step' (last+step') (i+1) r.1 r.2 (out++[last+step']):=by
 obtain⟨⟨h1,h2,h3,h4⟩,⟨h5,h6,h7,h8⟩,h9⟩:=hI
 refine⟨⟨by omega,by omega,h3,by simp;omega⟩,⟨by omega,by omega,by omega,by omega⟩,fun l hl=>?_⟩
 obtain⟨k1,k2,k3,k4,k5⟩:=h9 l hl
 obtain⟨j1,j2⟩:=hs l hl k1 k2 k5
 have hll:=hl.1
 have e:(i+1).toNat=i.toNat+1:=by omega
 have hx:last+step'=l.getD i.toNat 0:=by
  rw [k4,j1];unfold laT dT
  split
  · rename_i h0;rw [h0];omega
  · omega
 rw [e,j2]
 refine⟨rfl,rfl,by rw [k3,hx,snoc_take (by omega)],by rw [hx];rfl,fun _=>j1⟩
theorem ri_num {s:List UInt8} {n step i:Int} {rest:List UInt8} {ok:Bool} (h0:0≤i) (hi:i<n) (h2:i<2):∀l,RT s n l→ok=true→rest=s.drop (cat (tmW l) i.toNat).length→(1≤i→step=dT l (i.toNat - 1))→(fNum (rest,ok)).1=dT l i.toNat∧(fNum (rest,ok)).2=(s.drop (cat (tmW l) (i.toNat+1)).length,true):=fun l hl k1 k2 _=>by
 have hll:=hl.1
 rw [k1,k2,num_at (tmW_in l hl.2.1) hl.2.2 (by omega)]
 refine⟨?_,rfl⟩
 show tmW l i.toNat=dT l i.toNat
 unfold tmW dT
 split
 · rfl
 · rw [if_pos (by omega),show i.toNat=1 by omega]
theorem ri_zag {s:List UInt8} {n step i:Int} {rest:List UInt8} {ok:Bool} (hi:i<n) (h2:¬i<2):∀l,RT s n l→ok=true→rest=s.drop (cat (tmW l) i.toNat).length→(1≤i→step=dT l (i.toNat - 1))→step+(fZag (rest,ok)).1=dT l i.toNat∧(fZag (rest,ok)).2=(s.drop (cat (tmW l) (i.toNat+1)).length,true):=fun l hl k1 k2 k3=>by
 have hll:=hl.1
 rw [k1,k2,zag_at (tmW_in l hl.2.1) hl.2.2 (by omega) (tmD_in hl.2.1 (i:=i.toNat) (by omega) (by omega)) (by unfold tmW;rw [if_neg (by omega),if_neg (by omega)])]
 refine⟨?_,rfl⟩
 rw [k3 (by omega)]
 unfold dT
 rw [if_neg (by omega),if_neg (by omega),show i.toNat - 1 - 1=i.toNat - 2 by omega]
 simp only;omega
theorem vi_next {s:List UInt8} {n last i:Int} {rest:List UInt8} {ok:Bool} {out:List Int} (hI:viI s n last i rest ok out) (hi:i<n):viI s n (last+(fZag (rest,ok)).1) (i+1) (fZag (rest,ok)).2.1 (fZag (rest,ok)).2.2 (out++[last+(fZag (rest,ok)).1]):=by
 obtain⟨⟨h1,h2,h3,h4⟩,⟨h7,h8⟩,h9⟩:=hI
 have hz:=zag_in (rest,ok)
 refine⟨⟨by omega,by omega,h3,by simp;omega⟩,⟨by omega,by omega⟩,fun l hl=>?_⟩
 obtain⟨k1,k2,k3,k4⟩:=h9 l hl
 have hll:=hl.1
 have e:(i+1).toNat=i.toNat+1:=by omega
 rw [k1,k2,zag_at (vlW_in l hl.2.1) hl.2.2 (by omega) (vlD_in hl.2.1 (i:=i.toNat) (by omega)) rfl]
 have hx:last+(l.getD i.toNat 0 - (if i.toNat=0 then 0 else l.getD (i.toNat - 1) 0))=l.getD i.toNat 0:=by
  rw [k4];unfold laT
  split<;>omega
 simp only
 rw [hx,e]
 exact⟨trivial,rfl,by rw [k3,snoc_take (by omega)],rfl⟩
theorem take_pre {s t:List UInt8} (h:fPrefix s t=true):s.take t.length=t:=by simpa [fPrefix] using h
theorem ri_end {s:List UInt8} {n step last i:Int} {rest:List UInt8} {ok:Bool} {out:List Int} (hI:riI s n step last i rest ok out) (hi:¬i<n):(ok=false→([],0)=fReadT s n)∧(ok=true→((fBegan s (fShowTimes out)).2=false→([],0)=fReadT s n)∧((fBegan s (fShowTimes out)).2=true→(out,(fBegan s (fShowTimes out)).1)=fReadT s n)):=by
 obtain⟨⟨h1,h2,h3,h4⟩,_,h9⟩:=hI
 refine⟨fun h=>readT_no fun l hl=>?_,fun h=>⟨fun h5=>readT_no fun l hl=>?_,fun h5=>?_⟩⟩
 · rw [(h9 l hl).1] at h;cases h
 · have hll:=hl.1
   have e:out=l:=by rw [(h9 l hl).2.2.1,show i.toNat=l.length by omega,List.take_length]
   have hp:0<(cat (tmW l) l.length).length:=cat_pos (tmW_in l hl.2.1 0 (by have:=(fRise_iff.1 hl.2.1).1;omega)) _ (by have:=(fRise_iff.1 hl.2.1).1;omega)
   rw [e] at h5
   simp only [fBegan,Bool.and_eq_false_iff,decide_eq_false_iff_not,fPrefix,beq_eq_false_iff_ne,ne_eq,Decidable.not_not,showT_eq hl.2.1] at h5
   rcases h5 with h5 | h5
   · rw [h5] at hp;simp at hp
   · exact h5 hl.2.2
 · simp only [fBegan,Bool.and_eq_true,decide_eq_true_eq,ne_eq] at h5
   have hr:fRise out=true:=by
    by_cases hr:fRise out=true
    · exact hr
    · exact absurd (by unfold fShowTimes;rw [if_neg hr]) h5.1
   have hR:RT s n out:=⟨by omega,hr,by have:=take_pre h5.2;rw [showT_eq hr] at this;exact this⟩
   rw [readT_yes hR]
   simp only [fBegan,showT_eq hr]
theorem vi_end {s:List UInt8} {n last i:Int} {rest:List UInt8} {ok:Bool} {out:List Int} (hI:viI s n last i rest ok out) (hi:¬i<n):(ok=false→([],0)=fReadV s n)∧(ok=true→((fBegan s (fShowValues out)).2=false→([],0)=fReadV s n)∧((fBegan s (fShowValues out)).2=true→(out,(fBegan s (fShowValues out)).1)=fReadV s n)):=by
 obtain⟨⟨h1,h2,h3,h4⟩,_,h9⟩:=hI
 refine⟨fun h=>readV_no fun l hl=>?_,fun h=>⟨fun h5=>readV_no fun l hl=>?_,fun h5=>?_⟩⟩
 · rw [(h9 l hl).1] at h;cases h
 · have hll:=hl.1
   have e:out=l:=by rw [(h9 l hl).2.2.1,show i.toNat=l.length by omega,List.take_length]
   have hp:0<(cat (vlW l) l.length).length:=cat_pos (vlW_in l hl.2.1 0 (by have:=(fVals_iff.1 hl.2.1).1;omega)) _ (by have:=(fVals_iff.1 hl.2.1).1;omega)
   rw [e] at h5
   simp only [fBegan,Bool.and_eq_false_iff,decide_eq_false_iff_not,fPrefix,beq_eq_false_iff_ne,ne_eq,Decidable.not_not,showV_eq hl.2.1] at h5
   rcases h5 with h5 | h5
   · rw [h5] at hp;simp at hp
   · exact h5 hl.2.2
 · simp only [fBegan,Bool.and_eq_true,decide_eq_true_eq,ne_eq] at h5
   have hr:fVals out=true:=by
    by_cases hr:fVals out=true
    · exact hr
    · exact absurd (by unfold fShowValues;rw [if_neg hr]) h5.1
   have hR:RV s n out:=⟨by omega,hr,by have:=take_pre h5.2;rw [showV_eq hr] at this;exact this⟩
   rw [readV_yes hR]
   simp only [fBegan,showV_eq hr]
def c_impl_ReadTimes:Con:={A:=(.pair .str (.int .i64)),shA:=[.one,.one],R:=(.pair (.list (.int .i64)) (.int .i64)),shR:=[(false,1),(false,1)],fresh:=[(0,3)],pre:=fun _ _=>True,f:=some fun _ a=>((fReadT a.1 a.2),((),()))}
def impl_ReadTimes.F (a0:(List UInt8)) (a1:Int):Prop:=(True∧∀r1,(Eq r1 ((fIn a1 1 60),((),())))→(caseB (!r1.1) (Eq ((([]:(List Int)),0),((),())) ((fReadT a0 a1),((),()))) (eS [(0,.val false [.str a0]),(6,.box 19 0),(20,.val false [.int .i64 a1])] [(0,.val false [.str a0]),(6,.box 19 0),(20,.val false [.int .i64 a1])]∧((riI a0 a1 0 0 0 a0 true ([]:List Int))∧∀(y2:(Int×(Int×(Int×((List UInt8)×(Bool×(List Int))))))),(riI a0 a1 y2.1 y2.2.1 y2.2.2.1 y2.2.2.2.1 y2.2.2.2.2.1 y2.2.2.2.2.2)→(caseB (decide (y2.2.2.1<a1)) (caseB (decide (y2.2.2.1<(2:Int))) (True∧∀r3,(Eq r3 ((fNum (y2.2.2.2.1,y2.2.2.2.2.1)).1,((fNum (y2.2.2.2.1,y2.2.2.2.2.1)).2,())))→(List.length y2.2.2.2.2.2+List.length [(wI (y2.2.1+r3.1))]≤9223372036854775807∧((List.length y2.2.2.2.2.2+List.length [(wI (y2.2.1+r3.1))])*8≤140737488355328∧(eS [(0,.val false [.str a0]),(6,.box 19 0),(20,.val false [.int .i64 a1])] [(0,.val false [.str a0]),(6,.box 19 0),(20,.val false [.int .i64 a1])]∧(riI a0 a1 r3.1 (wI (y2.2.1+r3.1)) (wI (y2.2.2.1+(1:Int))) r3.2.1.1 r3.2.1.2 (y2.2.2.2.2.2++[(wI (y2.2.1+r3.1))]))∧(riM a0 a1 r3.1 (wI (y2.2.1+r3.1)) (wI (y2.2.2.1+(1:Int))) r3.2.1.1 r3.2.1.2 (y2.2.2.2.2.2++[(wI (y2.2.1+r3.1))]))<(riM a0 a1 y2.1 y2.2.1 y2.2.2.1 y2.2.2.2.1 y2.2.2.2.2.1 y2.2.2.2.2.2))))) (True∧∀r4,(Eq r4 ((fZag (y2.2.2.2.1,y2.2.2.2.2.1)).1,((fZag (y2.2.2.2.1,y2.2.2.2.2.1)).2,())))→(List.length y2.2.2.2.2.2+List.length [(wI (y2.2.1+(wI (y2.1+r4.1))))]≤9223372036854775807∧((List.length y2.2.2.2.2.2+List.length [(wI (y2.2.1+(wI (y2.1+r4.1))))])*8≤140737488355328∧(eS [(0,.val false [.str a0]),(6,.box 19 0),(20,.val false [.int .i64 a1])] [(0,.val false [.str a0]),(6,.box 19 0),(20,.val false [.int .i64 a1])]∧(riI a0 a1 (wI (y2.1+r4.1)) (wI (y2.2.1+(wI (y2.1+r4.1)))) (wI (y2.2.2.1+(1:Int))) r4.2.1.1 r4.2.1.2 (y2.2.2.2.2.2++[(wI (y2.2.1+(wI (y2.1+r4.1))))]))∧(riM a0 a1 (wI (y2.1+r4.1)) (wI (y2.2.1+(wI (y2.1+r4.1)))) (wI (y2.2.2.1+(1:Int))) r4.2.1.1 r4.2.1.2 (y2.2.2.2.2.2++[(wI (y2.2.1+(wI (y2.1+r4.1))))]))<(riM a0 a1 y2.1 y2.2.1 y2.2.2.1 y2.2.2.2.1 y2.2.2.2.2.1 y2.2.2.2.2.2)))))) ((pInts y2.2.2.2.2.2)∧∀r5,(Eq r5 ((fShowTimes y2.2.2.2.2.2),((),())))→(True∧∀r6,(Eq r6 ((fBegan a0 r5.1),((),())))→(caseB (!y2.2.2.2.2.1) (Eq ((([]:(List Int)),0),((),())) ((fReadT a0 a1),((),()))) (caseB (!r6.1.2) (Eq ((([]:(List Int)),0),((),())) ((fReadT a0 a1),((),()))) (Eq ((y2.2.2.2.2.2,r6.1.1),((),())) ((fReadT a0 a1),((),()))))))))))))
def impl_ReadTimes.L (a0:(List UInt8)) (a1:Int):Nat→Option LoopAnn:=fun p=>Go.Proofs.Ytfnafjgehdeccaa.Bv.look p [(1018,{kp:={hold:=[0,6,20],slots:=[7,8,9,21],boxes:=[19],rows:=[{bx:=false,s:=7,i:=0,k:=1000899,e:=3,hot:=true}]},T:=(.pair (.int .i64) (.pair (.int .i64) (.pair (.int .i64) (.pair .str (.pair .bool (.list (.int .i64))))))),I:=fun st y=>riI a0 a1 y.1 y.2.1 y.2.2.1 y.2.2.2.1 y.2.2.2.2.1 y.2.2.2.2.2,μ:=fun st y=>riM a0 a1 y.1 y.2.1 y.2.2.1 y.2.2.2.1 y.2.2.2.2.1 y.2.2.2.2.2})]
theorem impl_ReadTimes.pure (a0:(List UInt8)) (a1:Int) (h:True) (hw:Wf c_impl_ReadTimes.A (a0,a1)):impl_ReadTimes.F a0 a1:=by
 delta impl_ReadTimes.F wI eS
 simp only [forall_eq,true_and,and_true,caseB_iff,Prod.mk.injEq,decide_eq_true_eq,decide_eq_false_iff_not,Bool.not_eq_true',Bool.not_eq_false',bne_iff_ne,ne_eq,beq_iff_eq,Bool.not_true,Bool.not_false,beq_eq_false_iff_ne,bne_eq_false_iff_eq,List.length_append,List.length_cons,List.length_nil,List.append_nil,Nat.zero_add,decide_true,decide_false,eq_self_iff_true]
 refine⟨fun h1=>readT_no fun l hl=>(by rw [RT.len hl] at h1;cases h1),fun h1=>?_⟩
 rw [fIn_iff] at h1
 refine⟨⟨⟨by omega,by omega,by omega,rfl⟩,⟨by omega,by omega,by omega,by omega⟩,fun l hl=>⟨rfl,by simp [cat],by simp,rfl,fun h=>by omega⟩⟩,fun y hI=>?_⟩
 obtain⟨step,last,i,rest,ok,out⟩:=y
 simp only at hI ⊢
 have g1:=hI.1
 have g2:=hI.2.1
 have e1:IntKind.wrap .i64 (i+1)=i+1:=w64 (by omega) (by omega)
 refine⟨fun hi=>⟨fun h2=>?_,fun h2=>?_⟩,fun hi=>⟨by unfold pInts;omega,ri_end hI hi⟩⟩
 · have hn:=num_in (rest,ok)
   rw [e1,w64 (x:=last+(fNum (rest,ok)).1) (by omega) (by omega)]
   exact⟨by omega,by omega,ri_next hI hi (by omega) (ri_num (by omega) hi h2),by unfold riM;omega⟩
 · have hn:=zag_in (rest,ok)
   rw [e1,w64 (x:=step+(fZag (rest,ok)).1) (by omega) (by omega),w64 (x:=last+(step+(fZag (rest,ok)).1)) (by omega) (by omega)]
   exact⟨by omega,by omega,ri_next hI hi (by omega) (ri_zag hi h2),by unfold riM;omega⟩
set_option maxRecDepth 100000 in
theorem impl_ReadTimes.eq:EqS c_impl_ReadTimes Try.f23 [39,3] [impl_ShowTimes.e,impl_from.e,impl_rd_num.e,impl_rd_zag.e,impl_began.e] [] (fun i x=>impl_ReadTimes.L x.1 x.2) (fun i x=>impl_ReadTimes.F x.1 x.2):=by intro i x;kernel_rfl
theorem impl_ReadTimes.ok:ConOk Try.prog 23 c_impl_ReadTimes:=okOf impl_ReadTimes.eq Try.func23 rfl (by kernel_rfl) fun i x h hi hw=>impl_ReadTimes.pure x.1 x.2 h hw
def impl_ReadTimes.e:GE:=⟨23,c_impl_ReadTimes,⟨_,Try.func23,rfl,rfl⟩,impl_ReadTimes.ok⟩
def c_impl_ReadValues:Con:={A:=(.pair .str (.int .i64)),shA:=[.one,.one],R:=(.pair (.list (.int .i64)) (.int .i64)),shR:=[(false,1),(false,1)],fresh:=[(0,3)],pre:=fun _ _=>True,f:=some fun _ a=>((fReadV a.1 a.2),((),()))}
def impl_ReadValues.F (a0:(List UInt8)) (a1:Int):Prop:=(True∧∀r1,(Eq r1 ((fIn a1 1 60),((),())))→(caseB (!r1.1) (Eq ((([]:(List Int)),0),((),())) ((fReadV a0 a1),((),()))) (eS [(0,.val false [.str a0]),(6,.box 17 0),(18,.val false [.int .i64 a1])] [(0,.val false [.str a0]),(6,.box 17 0),(18,.val false [.int .i64 a1])]∧((viI a0 a1 0 0 a0 true ([]:List Int))∧∀(y2:(Int×(Int×((List UInt8)×(Bool×(List Int)))))),(viI a0 a1 y2.1 y2.2.1 y2.2.2.1 y2.2.2.2.1 y2.2.2.2.2)→(caseB (decide (y2.2.1<a1)) (True∧∀r3,(Eq r3 ((fZag (y2.2.2.1,y2.2.2.2.1)).1,((fZag (y2.2.2.1,y2.2.2.2.1)).2,())))→(List.length y2.2.2.2.2+List.length [(wI (y2.1+r3.1))]≤9223372036854775807∧((List.length y2.2.2.2.2+List.length [(wI (y2.1+r3.1))])*8≤140737488355328∧(eS [(0,.val false [.str a0]),(6,.box 17 0),(18,.val false [.int .i64 a1])] [(0,.val false [.str a0]),(6,.box 17 0),(18,.val false [.int .i64 a1])]∧(viI a0 a1 (wI (y2.1+r3.1)) (wI (y2.2.1+(1:Int))) r3.2.1.1 r3.2.1.2 (y2.2.2.2.2++[(wI (y2.1+r3.1))]))∧(viM a0 a1 (wI (y2.1+r3.1)) (wI (y2.2.1+(1:Int))) r3.2.1.1 r3.2.1.2 (y2.2.2.2.2++[(wI (y2.1+r3.1))]))<(viM a0 a1 y2.1 y2.2.1 y2.2.2.1 y2.2.2.2.1 y2.2.2.2.2))))) ((pInts y2.2.2.2.2)∧∀r4,(Eq r4 ((fShowValues y2.2.2.2.2),((),())))→(True∧∀r5,(Eq r5 ((fBegan a0 r4.1),((),())))→(caseB (!y2.2.2.2.1) (Eq ((([]:(List Int)),0),((),())) ((fReadV a0 a1),((),()))) (caseB (!r5.1.2) (Eq ((([]:(List Int)),0),((),())) ((fReadV a0 a1),((),()))) (Eq ((y2.2.2.2.2,r5.1.1),((),())) ((fReadV a0 a1),((),()))))))))))))
def impl_ReadValues.L (a0:(List UInt8)) (a1:Int):Nat→Option LoopAnn:=fun p=>Go.Proofs.Ytfnafjgehdeccaa.Bv.look p [(506,{kp:={hold:=[0,6,18],slots:=[7,8,19],boxes:=[17],rows:=[{bx:=false,s:=7,i:=0,k:=1000899,e:=3,hot:=true}]},T:=(.pair (.int .i64) (.pair (.int .i64) (.pair .str (.pair .bool (.list (.int .i64)))))),I:=fun st y=>viI a0 a1 y.1 y.2.1 y.2.2.1 y.2.2.2.1 y.2.2.2.2,μ:=fun st y=>viM a0 a1 y.1 y.2.1 y.2.2.1 y.2.2.2.1 y.2.2.2.2})]
theorem impl_ReadValues.pure (a0:(List UInt8)) (a1:Int) (h:True) (hw:Wf c_impl_ReadValues.A (a0,a1)):impl_ReadValues.F a0 a1:=by
 delta impl_ReadValues.F wI eS
 simp only [forall_eq,true_and,and_true,caseB_iff,Prod.mk.injEq,decide_eq_true_eq,decide_eq_false_iff_not,Bool.not_eq_true',Bool.not_eq_false',bne_iff_ne,ne_eq,beq_iff_eq,Bool.not_true,Bool.not_false,beq_eq_false_iff_ne,bne_eq_false_iff_eq,List.length_append,List.length_cons,List.length_nil,List.append_nil,Nat.zero_add,decide_true,decide_false,eq_self_iff_true]
 refine⟨fun h1=>readV_no fun l hl=>(by rw [RV.len hl] at h1;cases h1),fun h1=>?_⟩
 rw [fIn_iff] at h1
 refine⟨⟨⟨by omega,by omega,by omega,rfl⟩,⟨by omega,by omega⟩,fun l hl=>⟨rfl,by simp [cat],by simp,rfl⟩⟩,fun y hI=>?_⟩
 obtain⟨last,i,rest,ok,out⟩:=y
 simp only at hI ⊢
 have g1:=hI.1
 have g2:=hI.2.1
 have e1:IntKind.wrap .i64 (i+1)=i+1:=w64 (by omega) (by omega)
 refine⟨fun hi=>?_,fun hi=>⟨by unfold pInts;omega,vi_end hI hi⟩⟩
 have hn:=zag_in (rest,ok)
 rw [e1,w64 (x:=last+(fZag (rest,ok)).1) (by omega) (by omega)]
 exact⟨by omega,by omega,vi_next hI hi,by unfold viM;omega⟩
set_option maxRecDepth 100000 in
theorem impl_ReadValues.eq:EqS c_impl_ReadValues Try.f24 [39,3] [impl_ShowValues.e,impl_from.e,impl_rd_zag.e,impl_began.e] [] (fun i x=>impl_ReadValues.L x.1 x.2) (fun i x=>impl_ReadValues.F x.1 x.2):=by intro i x;kernel_rfl
theorem impl_ReadValues.ok:ConOk Try.prog 24 c_impl_ReadValues:=okOf impl_ReadValues.eq Try.func24 rfl (by kernel_rfl) fun i x h hi hw=>impl_ReadValues.pure x.1 x.2 h hw
def impl_ReadValues.e:GE:=⟨24,c_impl_ReadValues,⟨_,Try.func24,rfl,rfl⟩,impl_ReadValues.ok⟩
end Go.Proofs.Ytfnafjgehdeccaa.B
