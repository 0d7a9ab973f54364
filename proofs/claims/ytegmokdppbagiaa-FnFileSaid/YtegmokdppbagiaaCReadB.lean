/- Times and values:read. -/
import Derived.Test.YtegmokdppbagiaaCBits
import Derived.Test.YtegmokdppbagiaaCRead
import Derived.Test.YtegmokdppbagiaaCVr
set_option maxRecDepth 100000
set_option linter.unusedVariables false
set_option linter.unusedSimpArgs false
namespace Go.Proofs.Ytegmokdppbagiaa.B
open Go Go.Proofs.Ytegmokdppbagiaa.Bv
abbrev Rd:=List UInt8×Bool
def X2i(i:Rd):Int×Rd:=if i.2=true∧(X0i i.1).2>0 then((X0i i.1).1,(i.1.drop (X0i i.1).2.toNat,true)) else(0,(i.1,false))
def X3m:Con:={io:=true,I:=(.pair .str .bool),A:=.unit,shA:=[],R:=(.int .i64),shR:=[(false,1)],pre:=fun i _=>True,f:=some fun i a=>((X2i i).1,((X2i i).2,()))}
def X1c.F(i0:(U3q×Bool)):Prop:=(True∧∀r1,(Eq r1 ((X0i i0.1),((),())))→(X04 i0.2 (X04 (!(decide (r1.1.2>(0:Int)))) (Eq (0,((i0.1,(decide (r1.1.2>(0:Int)))),())) ((X2i i0).1,((X2i i0).2,()))) (0≤r1.1.2∧(r1.1.2≤(ln i0.1)∧(Eq (r1.1.1,(((List.drop (tN r1.1.2) i0.1),(decide (r1.1.2>(0:Int)))),())) ((X2i i0).1,((X2i i0).2,())))))) (Eq (0,((i0.1,false),())) ((X2i i0).1,((X2i i0).2,())))))
theorem X1c.pure(i0:(U3q×Bool))(h:True)(hi:Wf X3m.I i0)(hw:Wf X3m.A ()):X1c.F i0:=by
 delta X1c.F ln tN
 simp only[forall_eq,true_and,and_true,X06,Prod.mk.injEq,decide_eq_true_eq,decide_eq_false_iff_not,Bool.not_eq_true',Bool.not_eq_false']
 have hb:=X3P i0.1
 refine⟨fun h1=>⟨fun h2=>?_,fun h2=>⟨by omega,by omega,?_⟩⟩,fun h1=>?_⟩
 · have:¬(i0.2=true∧(X0i i0.1).2>0):=fun h=>h2 h.2
   simp only[X2i,if_neg this,decide_eq_false h2,and_self]
 · have h3:(X0i i0.1).2>0:=by
    by_cases h4:(X0i i0.1).2>0
    · exact h4
    · simp[h4]at h2
   simp only[X2i,if_pos (And.intro h1 h3),decide_eq_true h3,and_self]
 · have:¬(i0.2=true∧(X0i i0.1).2>0):=fun h=>by rw[h1]at h;cases h.1
   simp only[X2i,if_neg this,and_self]
theorem X1c.eq:EqS X3m Try.f41 [3] [X0W.e] [] noL (fun i x=>X1c.F i):=by intro i x;kernel_rfl
theorem X1c.ok:X11 Try.prog 41 X3m:=X3V X1c.eq Try.func41 rfl (by kernel_rfl) fun i x h hi hw=>X1c.pure i h (hi rfl) hw
def X1c.e:GE:=⟨41,X3m,⟨_,Try.func41,rfl,rfl⟩,X1c.ok⟩
def v7Go(s:List UInt8):Nat→Int→List Int→List Int×Int
 | 0,p,out=>(out,p)
 | n+1,p,out=>if (X0i (s.drop p.toNat)).2=0 then(out,-1) else v7Go s n (p+(X0i (s.drop p.toNat)).2) (out++[(X0i (s.drop p.toNat)).1])
def X4z(s:List UInt8)(n:Int):List Int×Int:=v7Go s n.toNat 0 []
def cat(W:Nat→Int):Nat→List UInt8
 | 0=>[]
 | i+1=>cat W i++X27 (W i)
theorem XbD(W:Nat→Int){i:Nat}:∀{n:Nat},i<n→∃r,cat W n=cat W i++(X27 (W i)++r)
 | 0,h=>by omega
 | n+1,h=>by
   by_cases e:i=n
   · subst e;exact⟨[],by simp[cat]⟩
   · obtain⟨r,hr⟩:=XbD W (i:=i) (n:=n) (by omega)
     exact⟨r++X27 (W n),by simp only[cat];rw[hr];simp[List.append_assoc]⟩
theorem X6q{W:Nat→Int}(h:X3j (W 0)):∀n,0<n→0<(cat W n).length
 | 1,_=>by simp only[cat,List.nil_append];exact X59 h
 | n+2,_=>by have:=X6q h (n+1) (by omega);simp only[cat,List.length_append]at this ⊢;omega
theorem XdD{W:Nat→Int}{n i:Nat}{s:List UInt8}(hw:∀j,j<n→X3j (W j))(hs:s.take (cat W n).length=cat W n)(hi:i<n):
 X0i (s.drop (cat W i).length)=(W i,((X27 (W i)).length:Int))∧(s.drop (cat W i).length).drop (X27 (W i)).length=s.drop (cat W (i+1)).length:=by
 obtain⟨r,hr⟩:=XbD W hi
 have e:s=cat W i++(X27 (W i)++(r++s.drop (cat W n).length)):=by
  have:=List.take_append_drop (cat W n).length s
  rw[hs]at this
  rw[hr]at this
  rw[hr]
  conv=>lhs;rw[←this]
  simp[List.append_assoc]
 refine⟨?_,?_⟩
 · have e2:s.drop (cat W i).length=X27 (W i)++(r++s.drop (cat W n).length):=by
    conv=>lhs;rw[e]
    rw[List.drop_left]
   rw[e2,XeM (hw i hi)]
 · rw[List.drop_drop]
   congr 1
   simp[cat]
def vals(W:Nat→Int)(n:Nat):List Int:=(List.range n).map W
theorem XeQ(W:Nat→Int)(n:Nat):vals W (n+1)=vals W n++[W n]:=by simp[vals,List.range_succ]
theorem Xcy(W:Nat→Int)(n:Nat):(vals W n).length=n:=by simp[vals]
theorem XgU(W:Nat→Int){n i:Nat}(h:i<n):(vals W n).getD i 0=W i:=by
 rw[X1V (by rw[Xcy];exact h)];simp[vals]
theorem Xhc{W:Nat→Int}{n:Nat}{s:List UInt8}(hw:∀j,j<n→X3j (W j))(hs:s.take (cat W n).length=cat W n):∀(k i:Nat),i+k=n→v7Go s k ((cat W i).length:Int) (vals W i)=(vals W n,((cat W n).length:Int))
 | 0,i,h=>by
   have:i=n:=by omega
   subst this;rfl
 | k+1,i,h=>by
   obtain⟨h1,h2⟩:=XdD hw hs (i:=i) (by omega)
   have hp:=X59 (hw i (by omega))
   rw[v7Go,Int.toNat_natCast,h1]
   simp only
   rw[if_neg (by omega),←XeQ,show((cat W i).length:Int)+((X27 (W i)).length:Int)=((cat W (i+1)).length:Int) by simp[cat]]
   exact Xhc hw hs k (i+1) (by omega)
theorem Xf9{W:Nat→Int}{n:Nat}{s:List UInt8}(hw:∀j,j<n→X3j (W j))(hs:s.take (cat W n).length=cat W n):X4z s n=(vals W n,((cat W n).length:Int)):=by
 unfold X4z
 rw[Int.toNat_natCast]
 exact Xhc hw hs n 0 (by omega)
def X3H(z:Int):Int×Bool:=if fIn z 0 281474976710656 then((if z % 2=1 then -(z+1) / 2 else z / 2),true) else(0,false)
theorem X9g{d:Int}(h:fIn d (-140737488355328) 140737488355328=true):X3H (Xcs d)=(d,true):=by
 rw[X0Z]at h
 unfold Xcs
 rw[if_pos (X0Z.2 h)]
 unfold X3H
 split
 · rw[if_pos (X0Z.2 (by omega)),if_pos (by omega)]
   simp only[Prod.mk.injEq,and_true];omega
 · rw[if_pos (X0Z.2 (by omega)),if_neg (by omega)]
   simp only[Prod.mk.injEq,and_true];omega
theorem XeU{d:Int}(h:fIn d (-140737488355328) 140737488355328=true):X3j (Xcs d):=by
 rw[X0Z]at h
 unfold Xcs X3j
 rw[if_pos (X0Z.2 h)]
 split<;>omega
theorem XfV(z:Int):-140737488355329≤(X3H z).1∧(X3H z).1≤140737488355328:=by
 unfold X3H
 split
 · rename_i h;rw[X0Z]at h;simp only;split<;>omega
 · simp
def X8d(i:Rd):Int×Rd:=((X3H (X2i i).1).1,((X2i i).2.1,(X2i i).2.2&&(X3H (X2i i).1).2))
theorem XdX(i:Rd):0≤(X2i i).1∧(X2i i).1≤562949953421311:=by
 have:=X3P i.1
 unfold X2i;split<;>simp<;>omega
def X3u(s t:List UInt8):Bool:=s.take t.length==t
def X3r(s t:List UInt8):Int×Bool:=((t.length:Int),decide (t≠[])&&X3u s t)
theorem XeO(i:Rd):-140737488355329≤(X8d i).1∧(X8d i).1≤140737488355328:=XfV _
theorem Xj3{a:Int}(h:0≤a):Int.tdiv a 2=a / 2:=Int.tdiv_eq_ediv_of_nonneg h
theorem Xjj{a:Int}(h:0≤a)(h2:a % 2=0):Int.tdiv (0 - a) 2= -a / 2:=by
 rw[Int.zero_sub,Int.neg_tdiv,Xj3 h];omega
theorem tmod2{a:Int}(h:0≤a):Int.tmod a 2=a % 2:=Int.tmod_eq_emod_of_nonneg h
def X4w:Con:={A:=(.int .i64),shA:=[.one],R:=(.pair (.int .i64) .bool),shR:=[(false,1),(false,1)],pre:=fun _ _=>True,f:=some fun _ a=>((X3H a),((),()))}
def X21.F(a0:Int):Prop:=(True∧∀r1,(Eq r1 ((fIn a0 0 281474976710656),((),())))→(X04 (!r1.1) (Eq ((0,false),((),())) ((X3H a0),((),()))) ((2:Int)≠0∧(X04 ((Int.tmod a0 (2:Int))==(1:Int)) ((2:Int)≠0∧(Eq (((wI (Int.tdiv (wI (0 - (wI (a0+(1:Int))))) (2:Int))),true),((),())) ((X3H a0),((),())))) ((2:Int)≠0∧(Eq (((wI (Int.tdiv a0 (2:Int))),true),((),())) ((X3H a0),((),()))))))))
theorem X21.pure(a0:Int)(h:True)(hw:Wf X4w.A a0):X21.F a0:=by
 delta X21.F wI
 simp only[Bs,B0,B1,Prod.mk.injEq,X06]
 refine⟨fun h1=>by simp[X3H,h1],fun h1=>?_⟩
 have hp:=X0Z.1 h1
 rw[tmod2 hp.1,Xj3 hp.1,w64 (x:=a0 / 2) (by omega) (by omega),w64 (x:=a0+1) (by omega) (by omega),w64 (x:=0 - (a0+1)) (by omega) (by omega)]
 refine⟨by omega,fun h3=>⟨by omega,?_⟩,fun h3=>⟨by omega,?_⟩⟩
 · rw[Xjj (by omega) (by omega),w64 (by omega) (by omega)]
   simp[X3H,h1,h3]
 · simp[X3H,h1,h3]
theorem X21.eq:EqS X4w Try.f120 [3,4] [X0O.e] [] noL (fun i x=>X21.F x):=by intro i x;kernel_rfl
theorem X21.ok:X11 Try.prog 120 X4w:=X3V X21.eq Try.func120 rfl (by kernel_rfl) fun i x h hi hw=>X21.pure x h hw
def X21.e:GE:=⟨120,X4w,⟨_,Try.func120,rfl,rfl⟩,X21.ok⟩
def X3g:Con:={io:=true,I:=(.pair .str .bool),A:=.unit,shA:=[],R:=(.int .i64),shR:=[(false,1)],pre:=fun i _=>True,f:=some fun i a=>((X8d i).1,((X8d i).2,()))}
def X1p.F(i0:(U3q×Bool)):Prop:=(True∧∀r1,(Eq r1 ((X2i (i0.1,i0.2)).1,((X2i (i0.1,i0.2)).2,())))→(True∧∀r2,(Eq r2 ((X3H r1.1),((),())))→(X04 r1.2.1.2 (Eq (r2.1.1,((r1.2.1.1,r2.1.2),())) ((X8d i0).1,((X8d i0).2,()))) (Eq (r2.1.1,((r1.2.1.1,false),())) ((X8d i0).1,((X8d i0).2,()))))))
theorem X1p.pure(i0:(U3q×Bool))(h:True)(hi:Wf X3g.I i0)(hw:Wf X3g.A ()):X1p.F i0:=by
 unfold X1p.F
 simp only[Bs,B0,B1,Prod.mk.injEq,X06]
 exact⟨fun h1=>by simp[X8d,h1],fun h1=>by simp[X8d,h1]⟩
theorem X1p.eq:EqS X3g Try.f111 [3] [X1c.e,X21.e] [] noL (fun i x=>X1p.F i):=by intro i x;kernel_rfl
theorem X1p.ok:X11 Try.prog 111 X3g:=X3V X1p.eq Try.func111 rfl (by kernel_rfl) fun i x h hi hw=>X1p.pure i h (hi rfl) hw
def X1p.e:GE:=⟨111,X3g,⟨_,Try.func111,rfl,rfl⟩,X1p.ok⟩
def X0M:Con:={A:=(.pair .str .str),shA:=[.one,.one],R:=.bool,shR:=[(false,1)],pre:=fun _ _=>True,f:=some fun _ a=>((X3u a.1 a.2),((),()))}
def X05.F(a0:U3q)(a1:U3q):Prop:=(X04 (decide ((ln a0)≥(ln a1))) (0≤(ln a1)∧((ln a1)≤(ln a0)∧(Eq (((List.take (tN (ln a1)) a0)==a1),((),())) ((X3u a0 a1),((),()))))) (Eq (false,((),())) ((X3u a0 a1),((),()))))
theorem X05.pure(a0:U3q)(a1:U3q)(h:True)(hw:Wf X0M.A (a0,a1)):X05.F a0 a1:=by
 delta X05.F ln tN
 simp only[Bs,B0,B1,Prod.mk.injEq,X06]
 refine⟨fun h1=>⟨by omega,by omega,by rw[show((a1.length:Nat):Int).toNat=a1.length by omega];rfl⟩,fun h1=>?_⟩
 symm;unfold X3u;rw[beq_eq_false_iff_ne];intro e
 have:=congrArg List.length e;simp at this;omega
theorem X05.eq:EqS X0M Try.f126 [4] [] [] noL (fun i x=>X05.F x.1 x.2):=by intro i x;kernel_rfl
theorem X05.ok:X11 Try.prog 126 X0M:=X3V X05.eq Try.func126 rfl (by kernel_rfl) fun i x h hi hw=>X05.pure x.1 x.2 h hw
def X05.e:GE:=⟨126,X0M,⟨_,Try.func126,rfl,rfl⟩,X05.ok⟩
def X29:Con:={A:=(.pair .str .str),shA:=[.one,.one],R:=.bool,shR:=[(false,1)],pre:=fun _ _=>True,f:=some fun _ a=>((X3u a.1 a.2),((),()))}
def X0A.F(a0:U3q)(a1:U3q):Prop:=(True∧∀r1,(Eq r1 ((X3u a0 a1),((),())))→(Eq (r1.1,((),())) ((X3u a0 a1),((),()))))
theorem X0A.pure(a0:U3q)(a1:U3q)(h:True)(hw:Wf X29.A (a0,a1)):X0A.F a0 a1:=by
 unfold X0A.F
 simp only[Bs,B0,B1,Prod.mk.injEq,X06]
 repeat' (with_reducible (first | (refine And.intro ?_ ?_) | intro _))
 all_goals (try simp (disch:=omega) only[w64,wu8,tn0,tn1,tm1,tm2,List.length_append,List.length_cons,List.length_nil]at*)
 all_goals (try simp (disch:=omega) only[w64,wu8,tn0,tn1,tm1,tm2,List.length_append,List.length_cons,List.length_nil]at*)
 all_goals (try omega)
 all_goals (try grind[])
theorem X0A.eq:EqS X29 Try.f121 [4] [X05.e] [] noL (fun i x=>X0A.F x.1 x.2):=by intro i x;kernel_rfl
theorem X0A.ok:X11 Try.prog 121 X29:=X3V X0A.eq Try.func121 rfl (by kernel_rfl) fun i x h hi hw=>X0A.pure x.1 x.2 h hw
def X0A.e:GE:=⟨121,X29,⟨_,Try.func121,rfl,rfl⟩,X0A.ok⟩
def X4l:Con:={A:=(.pair .str .str),shA:=[.one,.one],R:=(.pair (.int .i64) .bool),shR:=[(false,1),(false,1)],pre:=fun _ _=>True,f:=some fun _ a=>((X3r a.1 a.2),((),()))}
def X1N.F(a0:U3q)(a1:U3q):Prop:=(X04 (!(a1==[])) (True∧∀r1,(Eq r1 ((X3u a0 a1),((),())))→(Eq (((ln a1),r1.1),((),())) ((X3r a0 a1),((),())))) (Eq (((ln a1),false),((),())) ((X3r a0 a1),((),()))))
theorem X1N.pure(a0:U3q)(a1:U3q)(h:True)(hw:Wf X4l.A (a0,a1)):X1N.F a0 a1:=by
 delta X1N.F ln
 simp only[Bs,B0,B1,Prod.mk.injEq,X06]
 repeat' (with_reducible (first | (refine And.intro ?_ ?_) | intro _))
 all_goals (try simp (disch:=omega) only[w64,wu8,tn0,tn1,tm1,tm2,List.length_append,List.length_cons,List.length_nil]at*)
 all_goals (try simp (disch:=omega) only[w64,wu8,tn0,tn1,tm1,tm2,List.length_append,List.length_cons,List.length_nil]at*)
 all_goals (try omega)
 all_goals (try grind[X3r])
theorem X1N.eq:EqS X4l Try.f112 [3,4] [X0A.e] [] noL (fun i x=>X1N.F x.1 x.2):=by intro i x;kernel_rfl
theorem X1N.ok:X11 Try.prog 112 X4l:=X3V X1N.eq Try.func112 rfl (by kernel_rfl) fun i x h hi hw=>X1N.pure x.1 x.2 h hw
def X1N.e:GE:=⟨112,X4l,⟨_,Try.func112,rfl,rfl⟩,X1N.ok⟩
theorem X9D{l:List Int}{i:Nat}(hi:i<l.length):l.take (i+1)=l.take i++[l.getD i 0]:=by
 rw[List.take_add_one,List.getD_eq_getElem?_getD,List.getElem?_eq_getElem hi];rfl
theorem X7a{l:List Int}{i j:Nat}(h:j<i):(l.take i).getD j 0=l.getD j 0:=by
 simp[List.getD_eq_getElem?_getD,List.getElem?_take,h]
section
variable (ok:List Int→Bool) (W:List Int→Nat→Int) (nx:List Int→List Int→Nat→Int)
def RW(s:List UInt8)(n:Int)(l:List Int):Prop:=(l.length:Int)=n∧ok l=true∧s.take (cat (W l) l.length).length=cat (W l) l.length
def Xgc(v:List Int):Nat→List Int
 | 0=>[]
 | i+1=>Xgc v i++[nx (Xgc v i) v i]
instance (s:List UInt8) (n:Int) (l:List Int):Decidable (RW ok W s n l):=by unfold RW;infer_instance
def X8X(s:List UInt8)(n:Int):List Int×Int:=
 if RW ok W s n (Xgc nx (X4z s n).1 n.toNat) then(Xgc nx (X4z s n).1 n.toNat,((cat (W (Xgc nx (X4z s n).1 n.toNat)) (Xgc nx (X4z s n).1 n.toNat).length).length:Int)) else([],0)
variable {ok W nx} (hW:∀l,ok l=true→∀i,i<l.length→X3j (W l i))
include hW
theorem RW.vars{s:List UInt8}{n:Int}{l:List Int}(h:RW ok W s n l):X4z s n=(vals (W l) l.length,((cat (W l) l.length).length:Int)):=by
 have e:=Xf9 (W:=W l) (n:=l.length) (s:=s) (hW l h.2.1) h.2.2
 rw[h.1]at e
 exact e
theorem RW.at{s:List UInt8}{n:Int}{l:List Int}(h:RW ok W s n l){i:Nat}(hi:i<l.length):(X4z s n).1.getD i 0=W l i:=by
 rw[RW.vars hW h];exact XgU _ hi
variable (hn:∀l,ok l=true→∀(v:List Int) i,i<l.length→v.getD i 0=W l i→nx (l.take i) v i=l.getD i 0)
include hn
theorem RW.dec{s:List UInt8}{n:Int}{l:List Int}(h:RW ok W s n l):∀i,i≤l.length→Xgc nx (X4z s n).1 i=l.take i
 | 0,_=>by simp[Xgc]
 | i+1,hi=>by
   rw[Xgc,RW.dec h i (by omega),X9D (by omega),hn l h.2.1 _ i (by omega) (RW.at hW h (by omega))]
theorem RW.yes{s:List UInt8}{n:Int}{l:List Int}(h:RW ok W s n l):X8X ok W nx s n=(l,((cat (W l) l.length).length:Int)):=by
 have e:Xgc nx (X4z s n).1 n.toNat=l:=by rw[RW.dec hW hn h _ (by have:=h.1;omega),show n.toNat=l.length by have:=h.1;omega,List.take_length]
 unfold X8X
 rw[e,if_pos h]
theorem RW.get{s:List UInt8}{n:Int}(h0:ok []=false):X8X ok W nx s n=([],0)∧(∀l,¬RW ok W s n l)∨∃l,RW ok W s n l∧X8X ok W nx s n=(l,((cat (W l) l.length).length:Int)):=by
 by_cases h:∃l,RW ok W s n l
 · obtain⟨l,h⟩:=h
   exact .inr ⟨l,h,RW.yes hW hn h⟩
 · refine .inl ⟨?_,fun l hl=>h ⟨l,hl⟩⟩
   unfold X8X
   rw[if_neg fun hl=>h ⟨_,hl⟩]
end
def tmW(l:List Int)(i:Nat):Int:=if i=0 then l.getD 0 0 else if i=1 then l.getD 1 0 - l.getD 0 0 else Xcs (l.getD i 0 - l.getD (i - 1) 0 - (l.getD (i - 1) 0 - l.getD (i - 2) 0))
def vlW(l:List Int)(i:Nat):Int:=Xcs (l.getD i 0 - (if i=0 then 0 else l.getD (i - 1) 0))
theorem Xhw(l:List Int):∀i,tmS l i=cat (tmW l) i
 | 0=>rfl
 | i+1=>by
   rw[XdM,Xhw l i,cat]
   congr 1
   unfold X7C tmW
   split
   · rfl
   · split<;>rfl
theorem Xhu(l:List Int):∀i,vlS l i=cat (vlW l) i
 | 0=>rfl
 | i+1=>by rw[XdW,Xhu l i,cat];rfl
theorem Xfu{l:List Int}(h:X7M l=true){i:Nat}(hi:i<l.length)(h2:2≤i):fIn (l.getD i 0 - l.getD (i - 1) 0 - (l.getD (i - 1) 0 - l.getD (i - 2) 0)) (-140737488355328) 140737488355328=true:=by
 have h1:=X8A h hi
 have h2:=X8A h (i:=i - 1) (by omega)
 have h3:=X8A h (i:=i - 2) (by omega)
 rw[X0Z];omega
theorem X77(l:List Int)(h:X7M l=true)(i:Nat)(hi:i<l.length):X3j (tmW l i):=by
 have h0:=X8A h (i:=0) (by omega)
 unfold tmW
 split
 · unfold X3j;omega
 · split
   · have h1:=X4Y.1 ((X2A.1 h).2 1 (by omega))
     simp only[show(1:Nat) - 1=0 from rfl]at h1
     unfold X3j;omega
   · exact XeU (Xfu h hi (by omega))
theorem XeP{l:List Int}(h:X7K l=true){i:Nat}(hi:i<l.length):fIn (l.getD i 0 - (if i=0 then 0 else l.getD (i - 1) 0)) (-140737488355328) 140737488355328=true:=by
 have h1:=Xg9 h hi
 rw[X0Z]
 split
 · omega
 · have h2:=Xg9 h (i:=i - 1) (by omega)
   omega
theorem X84(l:List Int)(h:X7K l=true)(i:Nat)(hi:i<l.length):X3j (vlW l i):=XeU (XeP h hi)
def nxT(o v:List Int)(i:Nat):Int:=if i=0 then v.getD 0 0 else if i=1 then o.getD 0 0+v.getD 1 0 else o.getD (i - 1) 0+(o.getD (i - 1) 0 - o.getD (i - 2) 0+(X3H (v.getD i 0)).1)
def nxV(o v:List Int)(i:Nat):Int:=(if i=0 then 0 else o.getD (i - 1) 0)+(X3H (v.getD i 0)).1
theorem Xhl(l:List Int)(h:X7M l=true)(v:List Int)(i:Nat)(hi:i<l.length)(hv:v.getD i 0=tmW l i):nxT (l.take i) v i=l.getD i 0:=by
 unfold nxT
 unfold tmW at hv
 by_cases h0:i=0
 · subst h0;simpa using hv
 rw[if_neg h0]at hv ⊢
 by_cases h1:i=1
 · subst h1
   rw[if_pos rfl]at hv
   rw[if_pos rfl,X7a (by omega),hv];omega
 rw[if_neg h1]at hv ⊢
 rw[hv,X9g (Xfu h hi (by omega)),X7a (by omega),X7a (by omega)]
 simp only;omega
theorem XhC(l:List Int)(h:X7K l=true)(v:List Int)(i:Nat)(hi:i<l.length)(hv:v.getD i 0=vlW l i):nxV (l.take i) v i=l.getD i 0:=by
 unfold nxV
 rw[hv,vlW,X9g (XeP h hi)]
 split
 · simp
 · rw[X7a (by omega)];simp only;omega
def X2z(s:List UInt8)(n:Int):List Int×Int:=X8X X7M tmW nxT s n
def X2y(s:List UInt8)(n:Int):List Int×Int:=X8X X7K vlW nxV s n
abbrev RT:=RW X7M tmW
abbrev RV:=RW X7K vlW
theorem X61{l:List Int}(h:X7M l=true):X0h l=cat (tmW l) l.length:=by unfold X0h;rw[if_pos h,Xhw]
theorem X63{l:List Int}(h:X7K l=true):X0d l=cat (vlW l) l.length:=by unfold X0d;rw[if_pos h,Xhu]
theorem X8K(s:List UInt8)(n:Int):X2z s n=([],0)∧(∀l,¬RT s n l)∨∃l,RT s n l∧X2z s n=(l,((cat (tmW l) l.length).length:Int)):=RW.get X77 Xhl rfl
theorem X8T(s:List UInt8)(n:Int):X2y s n=([],0)∧(∀l,¬RV s n l)∨∃l,RV s n l∧X2y s n=(l,((cat (vlW l) l.length).length:Int)):=RW.get X84 XhC rfl
theorem XbO{s:List UInt8}{n:Int}{l:List Int}(h:RT s n l):X2z s n=(l,((cat (tmW l) l.length).length:Int)):=RW.yes X77 Xhl h
theorem Xc6{s:List UInt8}{n:Int}{l:List Int}(h:RV s n l):X2y s n=(l,((cat (vlW l) l.length).length:Int)):=RW.yes X84 XhC h
theorem RT.val{s:List UInt8}{n:Int}{l:List Int}(h:RT s n l){i:Nat}(hi:i<l.length):(X4z s n).1.getD i 0=tmW l i:=RW.at X77 h hi
theorem RV.val{s:List UInt8}{n:Int}{l:List Int}(h:RV s n l){i:Nat}(hi:i<l.length):(X4z s n).1.getD i 0=vlW l i:=RW.at X84 h hi
theorem Xb2{s:List UInt8}{n:Int}(h:∀l,¬RT s n l):([],0)=X2z s n:=by
 rcases X8K s n with⟨e,_⟩ | ⟨l,hl,_⟩
 · exact e.symm
 · exact absurd hl (h l)
theorem Xbi{s:List UInt8}{n:Int}(h:∀l,¬RV s n l):([],0)=X2y s n:=by
 rcases X8T s n with⟨e,_⟩ | ⟨l,hl,_⟩
 · exact e.symm
 · exact absurd hl (h l)
theorem RT.len{s:List UInt8}{n:Int}{l:List Int}(h:RT s n l):fIn n 1 60=true:=by
 rw[X0Z];have h1:=(X2A.1 h.2.1).1;have:=h.1;omega
theorem RV.len{s:List UInt8}{n:Int}{l:List Int}(h:RV s n l):fIn n 1 60=true:=by
 rw[X0Z];have h1:=(X35.1 h.2.1).1;have:=h.1;omega
theorem RT.pos{s:List UInt8}{n:Int}{l:List Int}(h:RT s n l):¬(X4z s n).2<0:=by
 rw[RW.vars X77 h];simp only;omega
theorem RV.pos{s:List UInt8}{n:Int}{l:List Int}(h:RV s n l):¬(X4z s n).2<0:=by
 rw[RW.vars X84 h];simp only;omega
def dT(l:List Int)(j:Nat):Int:=if j=0 then l.getD 0 0 else l.getD j 0 - l.getD (j - 1) 0
def laT(l:List Int)(j:Nat):Int:=if j=0 then 0 else l.getD (j - 1) 0
def riI(s:List UInt8)(n step last i:Int)(rest:List UInt8)(ok:Bool)(out:List Int):Prop:=(0≤i∧i≤n∧n≤60∧(out.length:Int)=i)∧(-(1125899906842624*i)≤step∧step≤1125899906842624*i∧-(70000000000000000*i)≤last∧last≤70000000000000000*i)∧∀l,RT s n l→ok=true∧rest=s.drop (cat (tmW l) i.toNat).length∧out=l.take i.toNat∧last=laT l i.toNat∧(1≤i→step=dT l (i.toNat - 1))
def riM(s:List UInt8)(n step last i:Int)(rest:List UInt8)(ok:Bool)(out:List Int):Nat:=(n - i).toNat
def viI(s:List UInt8)(n last i:Int)(rest:List UInt8)(ok:Bool)(out:List Int):Prop:=(0≤i∧i≤n∧n≤60∧(out.length:Int)=i)∧(-(70000000000000000*i)≤last∧last≤70000000000000000*i)∧∀l,RV s n l→ok=true∧rest=s.drop (cat (vlW l) i.toNat).length∧out=l.take i.toNat∧last=laT l i.toNat
def viM(s:List UInt8)(n last i:Int)(rest:List UInt8)(ok:Bool)(out:List Int):Nat:=(n - i).toNat
theorem XhB{W:Nat→Int}{n i:Nat}{s:List UInt8}(hw:∀j,j<n→X3j (W j))(hs:s.take (cat W n).length=cat W n)(hi:i<n):X2i (s.drop (cat W i).length,true)=(W i,(s.drop (cat W (i+1)).length,true)):=by
 obtain⟨h1,h2⟩:=XdD hw hs hi
 have hp:=X59 (hw i hi)
 unfold X2i
 simp only
 rw[h1]
 simp only
 rw[if_pos ⟨trivial,by omega⟩,Int.toNat_natCast,h2]
theorem XhA{W:Nat→Int}{n i:Nat}{s:List UInt8}{d:Int}(hw:∀j,j<n→X3j (W j))(hs:s.take (cat W n).length=cat W n)(hi:i<n)(hd:fIn d (-140737488355328) 140737488355328=true)(he:W i=Xcs d):X8d (s.drop (cat W i).length,true)=(d,(s.drop (cat W (i+1)).length,true)):=by
 unfold X8d
 rw[XhB hw hs hi]
 simp only
 rw[he,X9g hd]
 rfl
theorem XfO{s:List UInt8}{n step last i step':Int}{rest:List UInt8}{ok:Bool}{out:List Int}{r:Rd}(hI:riI s n step last i rest ok out)(hi:i<n)(hb:-(1125899906842624*(i+1))≤step'∧step'≤1125899906842624*(i+1))(hs:∀l,RT s n l→ok=true→rest=s.drop (cat (tmW l) i.toNat).length→(1≤i→step=dT l (i.toNat - 1))→step'=dT l i.toNat∧r=(s.drop (cat (tmW l) (i.toNat+1)).length,true)):riI s n step' (last+step') (i+1) r.1 r.2 (out++[last+step']):=by
 obtain⟨⟨h1,h2,h3,h4⟩,⟨h5,h6,h7,h8⟩,h9⟩:=hI
 refine⟨⟨by omega,by omega,h3,by simp;omega⟩,⟨by omega,by omega,by omega,by omega⟩,fun l hl=>?_⟩
 obtain⟨k1,k2,k3,k4,k5⟩:=h9 l hl
 obtain⟨j1,j2⟩:=hs l hl k1 k2 k5
 have hll:=hl.1
 have e:(i+1).toNat=i.toNat+1:=by omega
 have hx:last+step'=l.getD i.toNat 0:=by
  rw[k4,j1];unfold laT dT
  split
  · rename_i h0;rw[h0];omega
  · omega
 rw[e,j2]
 refine⟨rfl,rfl,by rw[k3,hx,X9D (by omega)],by rw[hx];rfl,fun _=>j1⟩
theorem Xj6{s:List UInt8}{n step i:Int}{rest:List UInt8}{ok:Bool}(h0:0≤i)(hi:i<n)(h2:i<2):∀l,RT s n l→ok=true→rest=s.drop (cat (tmW l) i.toNat).length→(1≤i→step=dT l (i.toNat - 1))→(X2i (rest,ok)).1=dT l i.toNat∧(X2i (rest,ok)).2=(s.drop (cat (tmW l) (i.toNat+1)).length,true):=fun l hl k1 k2 _=>by
 have hll:=hl.1
 rw[k1,k2,XhB (X77 l hl.2.1) hl.2.2 (by omega)]
 refine⟨?_,rfl⟩
 show tmW l i.toNat=dT l i.toNat
 unfold tmW dT
 split
 · rfl
 · rw[if_pos (by omega),show i.toNat=1 by omega]
theorem Xjh{s:List UInt8}{n step i:Int}{rest:List UInt8}{ok:Bool}(hi:i<n)(h2:¬i<2):∀l,RT s n l→ok=true→rest=s.drop (cat (tmW l) i.toNat).length→(1≤i→step=dT l (i.toNat - 1))→step+(X8d (rest,ok)).1=dT l i.toNat∧(X8d (rest,ok)).2=(s.drop (cat (tmW l) (i.toNat+1)).length,true):=fun l hl k1 k2 k3=>by
 have hll:=hl.1
 rw[k1,k2,XhA (X77 l hl.2.1) hl.2.2 (by omega) (Xfu hl.2.1 (i:=i.toNat) (by omega) (by omega)) (by unfold tmW;rw[if_neg (by omega),if_neg (by omega)])]
 refine⟨?_,rfl⟩
 rw[k3 (by omega)]
 unfold dT
 rw[if_neg (by omega),if_neg (by omega),show i.toNat - 1 - 1=i.toNat - 2 by omega]
 simp only;omega
theorem Xij{s:List UInt8}{n last i:Int}{rest:List UInt8}{ok:Bool}{out:List Int}(hI:viI s n last i rest ok out)(hi:i<n):viI s n (last+(X8d (rest,ok)).1) (i+1) (X8d (rest,ok)).2.1 (X8d (rest,ok)).2.2 (out++[last+(X8d (rest,ok)).1]):=by
 obtain⟨⟨h1,h2,h3,h4⟩,⟨h7,h8⟩,h9⟩:=hI
 have hz:=XeO (rest,ok)
 refine⟨⟨by omega,by omega,h3,by simp;omega⟩,⟨by omega,by omega⟩,fun l hl=>?_⟩
 obtain⟨k1,k2,k3,k4⟩:=h9 l hl
 have hll:=hl.1
 have e:(i+1).toNat=i.toNat+1:=by omega
 rw[k1,k2,XhA (X84 l hl.2.1) hl.2.2 (by omega) (XeP hl.2.1 (i:=i.toNat) (by omega)) rfl]
 have hx:last+(l.getD i.toNat 0 - (if i.toNat=0 then 0 else l.getD (i.toNat - 1) 0))=l.getD i.toNat 0:=by
  rw[k4];unfold laT
  split<;>omega
 simp only
 rw[hx,e]
 exact⟨trivial,rfl,by rw[k3,X9D (by omega)],rfl⟩
theorem Xdz{s t:List UInt8}(h:X3u s t=true):s.take t.length=t:=by simpa [X3u] using h
theorem Xji{s:List UInt8}{n step last i:Int}{rest:List UInt8}{ok:Bool}{out:List Int}(hI:riI s n step last i rest ok out)(hi:¬i<n):(ok=false→([],0)=X2z s n)∧(ok=true→((X3r s (X0h out)).2=false→([],0)=X2z s n)∧((X3r s (X0h out)).2=true→(out,(X3r s (X0h out)).1)=X2z s n)):=by
 obtain⟨⟨h1,h2,h3,h4⟩,_,h9⟩:=hI
 refine⟨fun h=>Xb2 fun l hl=>?_,fun h=>⟨fun h5=>Xb2 fun l hl=>?_,fun h5=>?_⟩⟩
 · rw[(h9 l hl).1]at h;cases h
 · have hll:=hl.1
   have e:out=l:=by rw[(h9 l hl).2.2.1,show i.toNat=l.length by omega,List.take_length]
   have hp:0<(cat (tmW l) l.length).length:=X6q (X77 l hl.2.1 0 (by have:=(X2A.1 hl.2.1).1;omega)) _ (by have:=(X2A.1 hl.2.1).1;omega)
   rw[e]at h5
   simp only[X3r,Bool.and_eq_false_iff,decide_eq_false_iff_not,X3u,beq_eq_false_iff_ne,ne_eq,Decidable.not_not,X61 hl.2.1]at h5
   rcases h5 with h5 | h5
   · rw[h5]at hp;simp at hp
   · exact h5 hl.2.2
 · simp only[X3r,Bool.and_eq_true,decide_eq_true_eq,ne_eq]at h5
   have hr:X7M out=true:=by
    by_cases hr:X7M out=true
    · exact hr
    · exact absurd (by unfold X0h;rw[if_neg hr]) h5.1
   have hR:RT s n out:=⟨by omega,hr,by have:=Xdz h5.2;rw[X61 hr]at this;exact this⟩
   rw[XbO hR]
   simp only[X3r,X61 hr]
theorem Xjf{s:List UInt8}{n last i:Int}{rest:List UInt8}{ok:Bool}{out:List Int}(hI:viI s n last i rest ok out)(hi:¬i<n):(ok=false→([],0)=X2y s n)∧(ok=true→((X3r s (X0d out)).2=false→([],0)=X2y s n)∧((X3r s (X0d out)).2=true→(out,(X3r s (X0d out)).1)=X2y s n)):=by
 obtain⟨⟨h1,h2,h3,h4⟩,_,h9⟩:=hI
 refine⟨fun h=>Xbi fun l hl=>?_,fun h=>⟨fun h5=>Xbi fun l hl=>?_,fun h5=>?_⟩⟩
 · rw[(h9 l hl).1]at h;cases h
 · have hll:=hl.1
   have e:out=l:=by rw[(h9 l hl).2.2.1,show i.toNat=l.length by omega,List.take_length]
   have hp:0<(cat (vlW l) l.length).length:=X6q (X84 l hl.2.1 0 (by have:=(X35.1 hl.2.1).1;omega)) _ (by have:=(X35.1 hl.2.1).1;omega)
   rw[e]at h5
   simp only[X3r,Bool.and_eq_false_iff,decide_eq_false_iff_not,X3u,beq_eq_false_iff_ne,ne_eq,Decidable.not_not,X63 hl.2.1]at h5
   rcases h5 with h5 | h5
   · rw[h5]at hp;simp at hp
   · exact h5 hl.2.2
 · simp only[X3r,Bool.and_eq_true,decide_eq_true_eq,ne_eq]at h5
   have hr:X7K out=true:=by
    by_cases hr:X7K out=true
    · exact hr
    · exact absurd (by unfold X0d;rw[if_neg hr]) h5.1
   have hR:RV s n out:=⟨by omega,hr,by have:=Xdz h5.2;rw[X63 hr]at this;exact this⟩
   rw[Xc6 hR]
   simp only[X3r,X63 hr]
def X2N:Con:={A:=(.pair .str (.int .i64)),shA:=[.one,.one],R:=(.pair (.list (.int .i64)) (.int .i64)),shR:=[(false,1),(false,1)],fresh:=[(0,3)],pre:=fun _ _=>True,f:=some fun _ a=>((X2z a.1 a.2),((),()))}
def X0I.F(a0:U3q)(a1:Int):Prop:=(True∧∀r1,(Eq r1 ((fIn a1 1 60),((),())))→(X04 (!r1.1) (Eq ((([]:(List Int)),0),((),())) ((X2z a0 a1),((),()))) (eS [(0,.val false [.str a0]),(6,.box 19 0),(20,.val false [.int .i64 a1])] [(0,.val false [.str a0]),(6,.box 19 0),(20,.val false [.int .i64 a1])]∧((riI a0 a1 0 0 0 a0 true ([]:List Int))∧∀(y2:(Int×(Int×(Int×(U3q×(Bool×(List Int))))))),(riI a0 a1 y2.1 y2.2.1 y2.2.2.1 y2.2.2.2.1 y2.2.2.2.2.1 y2.2.2.2.2.2)→(X04 (decide (y2.2.2.1<a1)) (X04 (decide (y2.2.2.1<(2:Int))) (True∧∀r3,(Eq r3 ((X2i (y2.2.2.2.1,y2.2.2.2.2.1)).1,((X2i (y2.2.2.2.1,y2.2.2.2.2.1)).2,())))→(List.length y2.2.2.2.2.2+List.length [(wI (y2.2.1+r3.1))]≤9223372036854775807∧((List.length y2.2.2.2.2.2+List.length [(wI (y2.2.1+r3.1))])*8≤140737488355328∧(eS [(0,.val false [.str a0]),(6,.box 19 0),(20,.val false [.int .i64 a1])] [(0,.val false [.str a0]),(6,.box 19 0),(20,.val false [.int .i64 a1])]∧(riI a0 a1 r3.1 (wI (y2.2.1+r3.1)) (wI (y2.2.2.1+(1:Int))) r3.2.1.1 r3.2.1.2 (y2.2.2.2.2.2++[(wI (y2.2.1+r3.1))]))∧(riM a0 a1 r3.1 (wI (y2.2.1+r3.1)) (wI (y2.2.2.1+(1:Int))) r3.2.1.1 r3.2.1.2 (y2.2.2.2.2.2++[(wI (y2.2.1+r3.1))]))<(riM a0 a1 y2.1 y2.2.1 y2.2.2.1 y2.2.2.2.1 y2.2.2.2.2.1 y2.2.2.2.2.2))))) (True∧∀r4,(Eq r4 ((X8d (y2.2.2.2.1,y2.2.2.2.2.1)).1,((X8d (y2.2.2.2.1,y2.2.2.2.2.1)).2,())))→(List.length y2.2.2.2.2.2+List.length [(wI (y2.2.1+(wI (y2.1+r4.1))))]≤9223372036854775807∧((List.length y2.2.2.2.2.2+List.length [(wI (y2.2.1+(wI (y2.1+r4.1))))])*8≤140737488355328∧(eS [(0,.val false [.str a0]),(6,.box 19 0),(20,.val false [.int .i64 a1])] [(0,.val false [.str a0]),(6,.box 19 0),(20,.val false [.int .i64 a1])]∧(riI a0 a1 (wI (y2.1+r4.1)) (wI (y2.2.1+(wI (y2.1+r4.1)))) (wI (y2.2.2.1+(1:Int))) r4.2.1.1 r4.2.1.2 (y2.2.2.2.2.2++[(wI (y2.2.1+(wI (y2.1+r4.1))))]))∧(riM a0 a1 (wI (y2.1+r4.1)) (wI (y2.2.1+(wI (y2.1+r4.1)))) (wI (y2.2.2.1+(1:Int))) r4.2.1.1 r4.2.1.2 (y2.2.2.2.2.2++[(wI (y2.2.1+(wI (y2.1+r4.1))))]))<(riM a0 a1 y2.1 y2.2.1 y2.2.2.1 y2.2.2.2.1 y2.2.2.2.2.1 y2.2.2.2.2.2)))))) ((X9f y2.2.2.2.2.2)∧∀r5,(Eq r5 ((X0h y2.2.2.2.2.2),((),())))→(True∧∀r6,(Eq r6 ((X3r a0 r5.1),((),())))→(X04 (!y2.2.2.2.2.1) (Eq ((([]:(List Int)),0),((),())) ((X2z a0 a1),((),()))) (X04 (!r6.1.2) (Eq ((([]:(List Int)),0),((),())) ((X2z a0 a1),((),()))) (Eq ((y2.2.2.2.2.2,r6.1.1),((),())) ((X2z a0 a1),((),()))))))))))))
def X0I.L(a0:U3q)(a1:Int):Nat→Option X0g:=fun p=>Go.Proofs.Ytegmokdppbagiaa.Bv.look p [(1018,{kp:={hold:=[0,6,20],slots:=[7,8,9,21],boxes:=[19],rows:=[{bx:=false,s:=7,i:=0,k:=1000899,e:=3,hot:=true}]},T:=(.pair (.int .i64) (.pair (.int .i64) (.pair (.int .i64) (.pair .str (.pair .bool (.list (.int .i64))))))),I:=fun st y=>riI a0 a1 y.1 y.2.1 y.2.2.1 y.2.2.2.1 y.2.2.2.2.1 y.2.2.2.2.2,μ:=fun st y=>riM a0 a1 y.1 y.2.1 y.2.2.1 y.2.2.2.1 y.2.2.2.2.1 y.2.2.2.2.2})]
theorem X0I.pure(a0:U3q)(a1:Int)(h:True)(hw:Wf X2N.A (a0,a1)):X0I.F a0 a1:=by
 delta X0I.F wI eS
 simp only[Bs,B0,B1,Prod.mk.injEq,X06]
 refine⟨fun h1=>Xb2 fun l hl=>(by rw[RT.len hl]at h1;cases h1),fun h1=>?_⟩
 rw[X0Z]at h1
 refine⟨⟨⟨by omega,by omega,by omega,rfl⟩,⟨by omega,by omega,by omega,by omega⟩,fun l hl=>⟨rfl,by simp[cat],by simp,rfl,fun h=>by omega⟩⟩,fun y hI=>?_⟩
 obtain⟨step,last,i,rest,ok,out⟩:=y
 simp only at hI ⊢
 have g1:=hI.1
 have g2:=hI.2.1
 have e1:IntKind.wrap .i64 (i+1)=i+1:=w64 (by omega) (by omega)
 refine⟨fun hi=>⟨fun h2=>?_,fun h2=>?_⟩,fun hi=>⟨by unfold X9f;omega,Xji hI hi⟩⟩
 · have hn:=XdX (rest,ok)
   rw[e1,w64 (x:=last+(X2i (rest,ok)).1) (by omega) (by omega)]
   exact⟨by omega,by omega,XfO hI hi (by omega) (Xj6 (by omega) hi h2),by unfold riM;omega⟩
 · have hn:=XeO (rest,ok)
   rw[e1,w64 (x:=step+(X8d (rest,ok)).1) (by omega) (by omega),w64 (x:=last+(step+(X8d (rest,ok)).1)) (by omega) (by omega)]
   exact⟨by omega,by omega,XfO hI hi (by omega) (Xjh hi h2),by unfold riM;omega⟩
theorem X0I.eq:EqS X2N Try.f89 [43,3] [X1c.e,X0D.e,X0O.e,X1p.e,X1N.e] [] (fun i x=>X0I.L x.1 x.2) (fun i x=>X0I.F x.1 x.2):=by intro i x;kernel_rfl
theorem X0I.ok:X11 Try.prog 89 X2N:=X3V X0I.eq Try.func89 rfl (by kernel_rfl) fun i x h hi hw=>X0I.pure x.1 x.2 h hw
def X0I.e:GE:=⟨89,X2N,⟨_,Try.func89,rfl,rfl⟩,X0I.ok⟩
def X2t:Con:={A:=(.pair .str (.int .i64)),shA:=[.one,.one],R:=(.pair (.list (.int .i64)) (.int .i64)),shR:=[(false,1),(false,1)],fresh:=[(0,3)],pre:=fun _ _=>True,f:=some fun _ a=>((X2y a.1 a.2),((),()))}
def X0w.F(a0:U3q)(a1:Int):Prop:=(True∧∀r1,(Eq r1 ((fIn a1 1 60),((),())))→(X04 (!r1.1) (Eq ((([]:(List Int)),0),((),())) ((X2y a0 a1),((),()))) (eS [(0,.val false [.str a0]),(6,.box 17 0),(18,.val false [.int .i64 a1])] [(0,.val false [.str a0]),(6,.box 17 0),(18,.val false [.int .i64 a1])]∧((viI a0 a1 0 0 a0 true ([]:List Int))∧∀(y2:(Int×(Int×(U3q×(Bool×(List Int)))))),(viI a0 a1 y2.1 y2.2.1 y2.2.2.1 y2.2.2.2.1 y2.2.2.2.2)→(X04 (decide (y2.2.1<a1)) (True∧∀r3,(Eq r3 ((X8d (y2.2.2.1,y2.2.2.2.1)).1,((X8d (y2.2.2.1,y2.2.2.2.1)).2,())))→(List.length y2.2.2.2.2+List.length [(wI (y2.1+r3.1))]≤9223372036854775807∧((List.length y2.2.2.2.2+List.length [(wI (y2.1+r3.1))])*8≤140737488355328∧(eS [(0,.val false [.str a0]),(6,.box 17 0),(18,.val false [.int .i64 a1])] [(0,.val false [.str a0]),(6,.box 17 0),(18,.val false [.int .i64 a1])]∧(viI a0 a1 (wI (y2.1+r3.1)) (wI (y2.2.1+(1:Int))) r3.2.1.1 r3.2.1.2 (y2.2.2.2.2++[(wI (y2.1+r3.1))]))∧(viM a0 a1 (wI (y2.1+r3.1)) (wI (y2.2.1+(1:Int))) r3.2.1.1 r3.2.1.2 (y2.2.2.2.2++[(wI (y2.1+r3.1))]))<(viM a0 a1 y2.1 y2.2.1 y2.2.2.1 y2.2.2.2.1 y2.2.2.2.2))))) ((X9f y2.2.2.2.2)∧∀r4,(Eq r4 ((X0d y2.2.2.2.2),((),())))→(True∧∀r5,(Eq r5 ((X3r a0 r4.1),((),())))→(X04 (!y2.2.2.2.1) (Eq ((([]:(List Int)),0),((),())) ((X2y a0 a1),((),()))) (X04 (!r5.1.2) (Eq ((([]:(List Int)),0),((),())) ((X2y a0 a1),((),()))) (Eq ((y2.2.2.2.2,r5.1.1),((),())) ((X2y a0 a1),((),()))))))))))))
def X0w.L(a0:U3q)(a1:Int):Nat→Option X0g:=fun p=>Go.Proofs.Ytegmokdppbagiaa.Bv.look p [(506,{kp:={hold:=[0,6,18],slots:=[7,8,19],boxes:=[17],rows:=[{bx:=false,s:=7,i:=0,k:=1000899,e:=3,hot:=true}]},T:=(.pair (.int .i64) (.pair (.int .i64) (.pair .str (.pair .bool (.list (.int .i64)))))),I:=fun st y=>viI a0 a1 y.1 y.2.1 y.2.2.1 y.2.2.2.1 y.2.2.2.2,μ:=fun st y=>viM a0 a1 y.1 y.2.1 y.2.2.1 y.2.2.2.1 y.2.2.2.2})]
theorem X0w.pure(a0:U3q)(a1:Int)(h:True)(hw:Wf X2t.A (a0,a1)):X0w.F a0 a1:=by
 delta X0w.F wI eS
 simp only[Bs,B0,B1,Prod.mk.injEq,X06]
 refine⟨fun h1=>Xbi fun l hl=>(by rw[RV.len hl]at h1;cases h1),fun h1=>?_⟩
 rw[X0Z]at h1
 refine⟨⟨⟨by omega,by omega,by omega,rfl⟩,⟨by omega,by omega⟩,fun l hl=>⟨rfl,by simp[cat],by simp,rfl⟩⟩,fun y hI=>?_⟩
 obtain⟨last,i,rest,ok,out⟩:=y
 simp only at hI ⊢
 have g1:=hI.1
 have g2:=hI.2.1
 have e1:IntKind.wrap .i64 (i+1)=i+1:=w64 (by omega) (by omega)
 refine⟨fun hi=>?_,fun hi=>⟨by unfold X9f;omega,Xjf hI hi⟩⟩
 have hn:=XeO (rest,ok)
 rw[e1,w64 (x:=last+(X8d (rest,ok)).1) (by omega) (by omega)]
 exact⟨by omega,by omega,Xij hI hi,by unfold viM;omega⟩
theorem X0w.eq:EqS X2t Try.f90 [43,3] [X0o.e,X0O.e,X1p.e,X1N.e] [] (fun i x=>X0w.L x.1 x.2) (fun i x=>X0w.F x.1 x.2):=by intro i x;kernel_rfl
theorem X0w.ok:X11 Try.prog 90 X2t:=X3V X0w.eq Try.func90 rfl (by kernel_rfl) fun i x h hi hw=>X0w.pure x.1 x.2 h hw
def X0w.e:GE:=⟨90,X2t,⟨_,Try.func90,rfl,rfl⟩,X0w.ok⟩
end Go.Proofs.Ytegmokdppbagiaa.B
