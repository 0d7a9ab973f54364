/- Times and values:read. -/
import Derived.Test.YtgfgenbmjbhphaaCBits
import Derived.Test.YtgfgenbmjbhphaaCRead
import Derived.Test.YtgfgenbmjbhphaaCVr
namespace Go.Proofs.Ytgfgenbmjbhphaa.B
set_option linter.unusedVariables false
set_option linter.unusedSimpArgs false
open Go Go.Proofs.Ytgfgenbmjbhphaa.Bv
abbrev Rd:=List UInt8×Bool
def fNum (i:Rd):Int×Rd:=if i.2=true∧(fReadVar i.1).2>0 then ((fReadVar i.1).1,(i.1.drop (fReadVar i.1).2.toNat,true)) else (0,(i.1,false))
def c_impl_rd_num:Con:={io:=true,I:=(.pair .str .bool),A:=.unit,shA:=[],R:=(.int .i64),shR:=[(false,1)],pre:=fun i _=>True,f:=some fun i a=>((fNum i).1,((fNum i).2,()))}
def impl_rd_num.F (i0:((List UInt8)×Bool)):Prop:=(True∧∀r1,(Eq r1 ((fReadVar i0.1),((),())))→(caseB i0.2 (caseB (!(decide (r1.1.2>(0:Int)))) (Eq (0,((i0.1,(decide (r1.1.2>(0:Int)))),())) ((fNum i0).1,((fNum i0).2,()))) (0≤r1.1.2∧(r1.1.2≤(ln i0.1)∧(Eq (r1.1.1,(((List.drop (tN r1.1.2) i0.1),(decide (r1.1.2>(0:Int)))),())) ((fNum i0).1,((fNum i0).2,())))))) (Eq (0,((i0.1,false),())) ((fNum i0).1,((fNum i0).2,())))))
theorem impl_rd_num.pure (i0:((List UInt8)×Bool)) (h:True) (hi:Wf c_impl_rd_num.I i0) (hw:Wf c_impl_rd_num.A ()):impl_rd_num.F i0:=by
 delta impl_rd_num.F ln tN
 simp only [forall_eq,true_and,and_true,caseB_iff,Prod.mk.injEq,decide_eq_true_eq,decide_eq_false_iff_not,Bool.not_eq_true',Bool.not_eq_false']
 have hb:=readVar_bound i0.1
 refine⟨fun h1=>⟨fun h2=>?_,fun h2=>⟨by omega,by omega,?_⟩⟩,fun h1=>?_⟩
 · have:¬(i0.2=true∧(fReadVar i0.1).2>0):=fun h=>h2 h.2
   simp only [fNum,if_neg this,decide_eq_false h2,and_self]
 · have h3:(fReadVar i0.1).2>0:=by
    by_cases h4:(fReadVar i0.1).2>0
    · exact h4
    · simp [h4] at h2
   simp only [fNum,if_pos (And.intro h1 h3),decide_eq_true h3,and_self]
 · have:¬(i0.2=true∧(fReadVar i0.1).2>0):=fun h=>by rw [h1] at h;cases h.1
   simp only [fNum,if_neg this,and_self]
set_option maxRecDepth 100000 in
theorem impl_rd_num.eq:EqS c_impl_rd_num Try.f31 [3] [impl_ReadVar.e] [] noL (fun i x=>impl_rd_num.F i):=by intro i x;kernel_rfl
theorem impl_rd_num.ok:ConOk Try.prog 31 c_impl_rd_num:=okOf impl_rd_num.eq Try.func31 rfl (by kernel_rfl) fun i x h hi hw=>impl_rd_num.pure i h (hi rfl) hw
def impl_rd_num.e:GE:=⟨31,c_impl_rd_num,⟨_,Try.func31,rfl,rfl⟩,impl_rd_num.ok⟩
def v7Go (s:List UInt8):Nat→Int→List Int→List Int×Int
 | 0,p,out=>(out,p)
 | n+1,p,out=>if (fReadVar (s.drop p.toNat)).2=0 then (out,-1) else v7Go s n (p+(fReadVar (s.drop p.toNat)).2) (out++[(fReadVar (s.drop p.toNat)).1])
def fVars7 (s:List UInt8) (n:Int):List Int×Int:=v7Go s n.toNat 0 []
def cat (W:Nat→Int):Nat→List UInt8
 | 0=>[]
 | i+1=>cat W i++fVar (W i)
theorem cat_split (W:Nat→Int) {i:Nat}:∀{n:Nat},i<n→∃r,cat W n=cat W i++(fVar (W i)++r)
 | 0,h=>by omega
 | n+1,h=>by
   by_cases e:i=n
   · subst e;exact⟨[],by simp [cat]⟩
   · obtain⟨r,hr⟩:=cat_split W (i:=i) (n:=n) (by omega)
     exact⟨r++fVar (W n),by simp only [cat];rw [hr];simp [List.append_assoc]⟩
theorem cat_read {W:Nat→Int} {n i:Nat} {s:List UInt8} (hw:∀j,j<n→inVar (W j)) (hs:s.take (cat W n).length=cat W n) (hi:i<n):
 fReadVar (s.drop (cat W i).length)=(W i,((fVar (W i)).length:Int))∧(s.drop (cat W i).length).drop (fVar (W i)).length=s.drop (cat W (i+1)).length:=by
 obtain⟨r,hr⟩:=cat_split W hi
 have e:s=cat W i++(fVar (W i)++(r++s.drop (cat W n).length)):=by
  have:=List.take_append_drop (cat W n).length s
  rw [hs] at this
  rw [hr] at this
  rw [hr]
  conv=>lhs;rw [←this]
  simp [List.append_assoc]
 refine⟨?_,?_⟩
 · have e2:s.drop (cat W i).length=fVar (W i)++(r++s.drop (cat W n).length):=by
    conv=>lhs;rw [e]
    rw [List.drop_left]
   rw [e2,rv_enc (hw i hi)]
 · rw [List.drop_drop]
   congr 1
   simp [cat]
def vals (W:Nat→Int) (n:Nat):List Int:=(List.range n).map W
theorem vals_succ (W:Nat→Int) (n:Nat):vals W (n+1)=vals W n++[W n]:=by simp [vals,List.range_succ]
theorem vals_length (W:Nat→Int) (n:Nat):(vals W n).length=n:=by simp [vals]
theorem vals_get (W:Nat→Int) {n i:Nat} (h:i<n):(vals W n).getD i 0=W i:=by
 rw [getD_lt (by rw [vals_length];exact h)];simp [vals]
theorem v7_cat {W:Nat→Int} {n:Nat} {s:List UInt8} (hw:∀j,j<n→inVar (W j)) (hs:s.take (cat W n).length=cat W n):∀(k i:Nat),i+k=n→v7Go s k ((cat W i).length:Int) (vals W i)=(vals W n,((cat W n).length:Int))
 | 0,i,h=>by
   have:i=n:=by omega
   subst this;rfl
 | k+1,i,h=>by
   obtain⟨h1,h2⟩:=cat_read hw hs (i:=i) (by omega)
   have hp:=fVar_pos (hw i (by omega))
   rw [v7Go,Int.toNat_natCast,h1]
   simp only
   rw [if_neg (by omega),←vals_succ,show ((cat W i).length:Int)+((fVar (W i)).length:Int)=((cat W (i+1)).length:Int) by simp [cat]]
   exact v7_cat hw hs k (i+1) (by omega)
theorem vars7_cat {W:Nat→Int} {n:Nat} {s:List UInt8} (hw:∀j,j<n→inVar (W j)) (hs:s.take (cat W n).length=cat W n):fVars7 s n=(vals W n,((cat W n).length:Int)):=by
 unfold fVars7
 rw [Int.toNat_natCast]
 exact v7_cat hw hs n 0 (by omega)
theorem zig_var {d:Int} (h:fIn d (-140737488355328) 140737488355328=true):inVar (fZig d):=by
 rw [fIn_iff] at h
 unfold fZig inVar
 rw [if_pos (fIn_iff.2 h)]
 split<;>omega
theorem num_in (i:Rd):0≤(fNum i).1∧(fNum i).1≤562949953421311:=by
 have:=readVar_bound i.1
 unfold fNum;split<;>simp<;>omega
theorem snoc_take {l:List Int} {i:Nat} (hi:i<l.length):l.take (i+1)=l.take i++[l.getD i 0]:=by
 rw [List.take_add_one,List.getD_eq_getElem?_getD,List.getElem?_eq_getElem hi];rfl
section
variable (ok:List Int→Bool) (W:List Int→Nat→Int) (nx:List Int→List Int→Nat→Int)
def RW (s:List UInt8) (n:Int) (l:List Int):Prop:=(l.length:Int)=n∧ok l=true∧s.take (cat (W l) l.length).length=cat (W l) l.length
def decG (v:List Int):Nat→List Int
 | 0=>[]
 | i+1=>decG v i++[nx (decG v i) v i]
instance (s:List UInt8) (n:Int) (l:List Int):Decidable (RW ok W s n l):=by unfold RW;infer_instance
def fReadG (s:List UInt8) (n:Int):List Int×Int:=
 if RW ok W s n (decG nx (fVars7 s n).1 n.toNat) then (decG nx (fVars7 s n).1 n.toNat,((cat (W (decG nx (fVars7 s n).1 n.toNat)) (decG nx (fVars7 s n).1 n.toNat).length).length:Int)) else ([],0)
variable {ok W nx} (hW:∀l,ok l=true→∀i,i<l.length→inVar (W l i))
include hW
theorem RW.vars {s:List UInt8} {n:Int} {l:List Int} (h:RW ok W s n l):fVars7 s n=(vals (W l) l.length,((cat (W l) l.length).length:Int)):=by
 have e:=vars7_cat (W:=W l) (n:=l.length) (s:=s) (hW l h.2.1) h.2.2
 rw [h.1] at e
 exact e
theorem RW.at {s:List UInt8} {n:Int} {l:List Int} (h:RW ok W s n l) {i:Nat} (hi:i<l.length):(fVars7 s n).1.getD i 0=W l i:=by
 rw [RW.vars hW h];exact vals_get _ hi
variable (hn:∀l,ok l=true→∀(v:List Int) i,i<l.length→v.getD i 0=W l i→nx (l.take i) v i=l.getD i 0)
include hn
theorem RW.dec {s:List UInt8} {n:Int} {l:List Int} (h:RW ok W s n l):∀i,i≤l.length→decG nx (fVars7 s n).1 i=l.take i
 | 0,_=>by simp [decG]
 | i+1,hi=>by
   rw [decG,RW.dec h i (by omega),snoc_take (by omega),hn l h.2.1 _ i (by omega) (RW.at hW h (by omega))]
theorem RW.yes {s:List UInt8} {n:Int} {l:List Int} (h:RW ok W s n l):fReadG ok W nx s n=(l,((cat (W l) l.length).length:Int)):=by
 have e:decG nx (fVars7 s n).1 n.toNat=l:=by rw [RW.dec hW hn h _ (by have:=h.1;omega),show n.toNat=l.length by have:=h.1;omega,List.take_length]
 unfold fReadG
 rw [e,if_pos h]
theorem RW.get {s:List UInt8} {n:Int} (h0:ok []=false):fReadG ok W nx s n=([],0)∧(∀l,¬RW ok W s n l)∨∃l,RW ok W s n l∧fReadG ok W nx s n=(l,((cat (W l) l.length).length:Int)):=by
 by_cases h:∃l,RW ok W s n l
 · obtain⟨l,h⟩:=h
   exact .inr ⟨l,h,RW.yes hW hn h⟩
 · refine .inl ⟨?_,fun l hl=>h ⟨l,hl⟩⟩
   unfold fReadG
   rw [if_neg fun hl=>h ⟨_,hl⟩]
end
def tmW (l:List Int) (i:Nat):Int:=if i=0 then l.getD 0 0 else if i=1 then l.getD 1 0 - l.getD 0 0 else fZig (l.getD i 0 - l.getD (i - 1) 0 - (l.getD (i - 1) 0 - l.getD (i - 2) 0))
def vlW (l:List Int) (i:Nat):Int:=fZig (l.getD i 0 - (if i=0 then 0 else l.getD (i - 1) 0))
theorem tmD_in {l:List Int} (h:fRise l=true) {i:Nat} (hi:i<l.length) (h2:2≤i):fIn (l.getD i 0 - l.getD (i - 1) 0 - (l.getD (i - 1) 0 - l.getD (i - 2) 0)) (-140737488355328) 140737488355328=true:=by
 have h1:=riseI_of h hi
 have h2:=riseI_of h (i:=i - 1) (by omega)
 have h3:=riseI_of h (i:=i - 2) (by omega)
 rw [fIn_iff];omega
theorem tmW_in (l:List Int) (h:fRise l=true) (i:Nat) (hi:i<l.length):inVar (tmW l i):=by
 have h0:=riseI_of h (i:=0) (by omega)
 unfold tmW
 split
 · unfold inVar;omega
 · split
   · have h1:=riseAt_iff.1 ((fRise_iff.1 h).2 1 (by omega))
     simp only [show (1:Nat) - 1=0 from rfl] at h1
     unfold inVar;omega
   · exact zig_var (tmD_in h hi (by omega))
theorem vlD_in {l:List Int} (h:fVals l=true) {i:Nat} (hi:i<l.length):fIn (l.getD i 0 - (if i=0 then 0 else l.getD (i - 1) 0)) (-140737488355328) 140737488355328=true:=by
 have h1:=valI_of h hi
 rw [fIn_iff]
 split
 · omega
 · have h2:=valI_of h (i:=i - 1) (by omega)
   omega
theorem vlW_in (l:List Int) (h:fVals l=true) (i:Nat) (hi:i<l.length):inVar (vlW l i):=zig_var (vlD_in h hi)
abbrev RT:=RW fRise tmW
abbrev RV:=RW fVals vlW
theorem RT.val {s:List UInt8} {n:Int} {l:List Int} (h:RT s n l) {i:Nat} (hi:i<l.length):(fVars7 s n).1.getD i 0=tmW l i:=RW.at tmW_in h hi
theorem RV.val {s:List UInt8} {n:Int} {l:List Int} (h:RV s n l) {i:Nat} (hi:i<l.length):(fVars7 s n).1.getD i 0=vlW l i:=RW.at vlW_in h hi
theorem RT.len {s:List UInt8} {n:Int} {l:List Int} (h:RT s n l):fIn n 1 60=true:=by
 rw [fIn_iff];have h1:=(fRise_iff.1 h.2.1).1;have:=h.1;omega
theorem RV.len {s:List UInt8} {n:Int} {l:List Int} (h:RV s n l):fIn n 1 60=true:=by
 rw [fIn_iff];have h1:=(fVals_iff.1 h.2.1).1;have:=h.1;omega
theorem RT.pos {s:List UInt8} {n:Int} {l:List Int} (h:RT s n l):¬(fVars7 s n).2<0:=by
 rw [RW.vars tmW_in h];simp only;omega
theorem RV.pos {s:List UInt8} {n:Int} {l:List Int} (h:RV s n l):¬(fVars7 s n).2<0:=by
 rw [RW.vars vlW_in h];simp only;omega
end Go.Proofs.Ytgfgenbmjbhphaa.B
