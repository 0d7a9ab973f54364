/- Times and values:read. -/
import Derived.Test.YtcfaphojdacmbaaGreatRCBits
import Derived.Test.YtcfaphojdacmbaaGreatRCRead
import Derived.Test.YtcfaphojdacmbaaGreatRCVr
set_option maxRecDepth 100000
set_option linter.unusedVariables false
set_option linter.unusedSimpArgs false
namespace Go.Proofs.YtcfaphojdacmbaaGreatR.B
open Go Go.Proofs.YtcfaphojdacmbaaGreatR.Bv
abbrev Rd:=List UInt8×Bool
def X4p(i:Rd):Int×Rd:=if i.2=true∧(X0e i.1).2>0 then((X0e i.1).1,(i.1.drop (X0e i.1).2.toNat,true)) else(0,(i.1,false))
def X5Y:Con:={io:=true,I:=(.pair .str .bool),A:=.unit,shA:=[],R:=(.int .i64),shR:=[(false,1)],pre:=fun i _=>True,f:=some fun i a=>((X4p i).1,((X4p i).2,()))}
def X2v.F(i0:(U5q×Bool)):Prop:=(True∧∀r1,(Eq r1 ((X0e i0.1),((),())))→(X02 i0.2 (X02 (!(decide (r1.1.2>(0:Int)))) (Eq (0,((i0.1,(decide (r1.1.2>(0:Int)))),())) ((X4p i0).1,((X4p i0).2,()))) (0≤r1.1.2∧(r1.1.2≤(ln i0.1)∧(Eq (r1.1.1,(((List.drop (tN r1.1.2) i0.1),(decide (r1.1.2>(0:Int)))),())) ((X4p i0).1,((X4p i0).2,())))))) (Eq (0,((i0.1,false),())) ((X4p i0).1,((X4p i0).2,())))))
theorem X2v.pure(i0:(U5q×Bool))(h:True)(hi:Wf X5Y.I i0)(hw:Wf X5Y.A ()):X2v.F i0:=by
 delta X2v.F ln tN
 simp only[forall_eq,true_and,and_true,X01,Prod.mk.injEq,decide_eq_true_eq,decide_eq_false_iff_not,Bool.not_eq_true',Bool.not_eq_false']
 have hb:=X2T i0.1
 refine⟨fun h1=>⟨fun h2=>?_,fun h2=>⟨by omega,by omega,?_⟩⟩,fun h1=>?_⟩
 · have:¬(i0.2=true∧(X0e i0.1).2>0):=fun h=>h2 h.2
   simp only[X4p,if_neg this,decide_eq_false h2,and_self]
 · have h3:(X0e i0.1).2>0:=by
    by_cases h4:(X0e i0.1).2>0
    · exact h4
    · simp[h4]at h2
   simp only[X4p,if_pos (And.intro h1 h3),decide_eq_true h3,and_self]
 · have:¬(i0.2=true∧(X0e i0.1).2>0):=fun h=>by rw[h1]at h;cases h.1
   simp only[X4p,if_neg this,and_self]
theorem X2v.eq:EqS X5Y Tryz.f54 [3] [X1X.e] [] noL (fun i x=>X2v.F i):=by intro i x;kernel_rfl
theorem X2v.ok:X0n Tryz.prog 54 X5Y:=X2j X2v.eq Tryz.func54 rfl (by kernel_rfl) fun i x h hi hw=>X2v.pure i h (hi rfl) hw
def X2v.e:GE:=⟨54,X5Y,⟨_,Tryz.func54,rfl,rfl⟩,X2v.ok⟩
def XjF(s:List UInt8):Nat→Int→List Int→List Int×Int
 | 0,p,out=>(out,p)
 | n+1,p,out=>if (X0e (s.drop p.toNat)).2=0 then(out,-1) else XjF s n (p+(X0e (s.drop p.toNat)).2) (out++[(X0e (s.drop p.toNat)).1])
def X0y(s:List UInt8)(n:Int):List Int×Int:=XjF s n.toNat 0 []
def p7(s:List UInt8)(n:Int):Prop:=s.length≤9223372036854775807∧0≤n∧n≤1000
def v7I(s:List UInt8)(n p i:Int)(out:List Int):Prop:=0≤i∧i≤n∧0≤p∧p≤s.length∧(out.length:Int)=i∧XjF s (n - i).toNat p out=X0y s n
def v7M(s:List UInt8)(n p i:Int)(out:List Int):Nat:=(n - i).toNat
def X75:Con:={A:=XkI,shA:=[.one,.one],R:=(.pair Xc8 (.int .i64)),shR:=[(false,1),(false,1)],fresh:=[(0,3)],pre:=fun _ a=>(p7 a.1 a.2),f:=some fun _ a=>((X0y a.1 a.2),((),()))}
def X2a.F(a0:U5q)(a1:Int):Prop:=(eS [(0,.val false [.str a0]),(1,.val false [.int .i64 a1])] [(0,.val false [.str a0]),(1,.val false [.int .i64 a1])]∧((v7I a0 a1 0 0 ([]:List Int))∧∀(y1:(Int×(Int×(List Int)))),(v7I a0 a1 y1.1 y1.2.1 y1.2.2)→(X02 (decide (y1.2.1<a1)) (0≤y1.1∧(y1.1≤(ln a0)∧(True∧∀r2,(Eq r2 ((X0e (List.drop (tN y1.1) a0)),((),())))→(X02 (r2.1.2==(0:Int)) (Eq ((y1.2.2,(-1)),((),())) ((X0y a0 a1),((),()))) (List.length y1.2.2+List.length [r2.1.1]≤9223372036854775807∧((List.length y1.2.2+List.length [r2.1.1])*8≤140737488355328∧(eS [(0,.val false [.str a0]),(1,.val false [.int .i64 a1])] [(0,.val false [.str a0]),(1,.val false [.int .i64 a1])]∧(v7I a0 a1 (wI (y1.1+r2.1.2)) (wI (y1.2.1+(1:Int))) (y1.2.2++[r2.1.1]))∧(v7M a0 a1 (wI (y1.1+r2.1.2)) (wI (y1.2.1+(1:Int))) (y1.2.2++[r2.1.1]))<(v7M a0 a1 y1.1 y1.2.1 y1.2.2)))))))) (Eq ((y1.2.2,y1.1),((),())) ((X0y a0 a1),((),()))))))
def X2a.L(a0:U5q)(a1:Int):Nat→Option X0c:=fun p=>Go.Proofs.YtcfaphojdacmbaaGreatR.Bv.look p [(122,{kp:={hold:=[0,1],slots:=[6,7,8],boxes:=[],rows:=[{bx:=false,s:=6,i:=0,k:=1000771,e:=3,hot:=true}]},T:=(.pair (.int .i64) (.pair (.int .i64) Xc8)),I:=fun st y=>v7I a0 a1 y.1 y.2.1 y.2.2,μ:=fun st y=>v7M a0 a1 y.1 y.2.1 y.2.2})]
theorem X2a.pure(a0:U5q)(a1:Int)(h:(p7 a0 a1))(hw:Wf X75.A (a0,a1)):X2a.F a0 a1:=by
 delta X2a.F ln tN wI eS
 obtain⟨q1,q2,q3⟩:=h
 simp only[forall_eq,true_and,and_true,X01,Prod.mk.injEq,decide_eq_true_eq,decide_eq_false_iff_not,Bool.not_eq_true',Bool.not_eq_false']
 refine⟨⟨by omega,by omega,by omega,by omega,rfl,by simp[X0y]⟩,?_⟩
 rintro⟨p,i,out⟩ ⟨h1,h2,h3,h4,h5,h6⟩
 simp only at h1 h2 h3 h4 h5 h6 ⊢
 have hb:=X2T (a0.drop p.toNat)
 rw[List.length_drop]at hb
 refine⟨fun hi=>⟨h3,h4,fun hz=>?_,fun hz=>?_⟩,fun hi=>?_⟩
 · have e:(a1 - i).toNat=(a1 - i - 1).toNat+1:=by omega
   rw[e]at h6
   have hz':(X0e (a0.drop p.toNat)).2=0:=by simpa using hz
   rw[XjF,if_pos hz']at h6
   exact h6
 · have hz':¬(X0e (a0.drop p.toNat)).2=0:=by simpa using hz
   have e:(a1 - i).toNat=(a1 - (i+1)).toNat+1:=by omega
   rw[e,XjF,if_neg hz']at h6
   have e1:IntKind.wrap .i64 (i+1)=i+1:=Go.IntWalk.i64_in _ (by omega)
   have e2:IntKind.wrap .i64 (p+(X0e (a0.drop p.toNat)).2)=p+(X0e (a0.drop p.toNat)).2:=Go.IntWalk.i64_in _ (by omega)
   rw[e1,e2]
   exact⟨by simp;omega,by simp;omega,⟨by omega,by omega,by omega,by omega,by simp;omega,h6⟩,by unfold v7M;omega⟩
 · have e:(a1 - i).toNat=0:=by omega
   rw[e,XjF]at h6
   exact h6
theorem X2a.eq:EqS X75 Tryz.f242 [138,3] [X1P.e] [] (fun i x=>X2a.L x.1 x.2) (fun i x=>X2a.F x.1 x.2):=by intro i x;kernel_rfl
theorem X2a.ok:X0n Tryz.prog 242 X75:=X2j X2a.eq Tryz.func242 rfl (by kernel_rfl) fun i x h hi hw=>X2a.pure x.1 x.2 h hw
def X2a.e:GE:=⟨242,X75,⟨_,Tryz.func242,rfl,rfl⟩,X2a.ok⟩
def cat(W:Nat→Int):Nat→List UInt8
 | 0=>[]
 | i+1=>cat W i++X1J (W i)
theorem Xh4(W:Nat→Int){i:Nat}:∀{n:Nat},i<n→∃r,cat W n=cat W i++(X1J (W i)++r)
 | 0,h=>by omega
 | n+1,h=>by
   by_cases e:i=n
   · subst e;exact⟨[],by simp[cat]⟩
   · obtain⟨r,hr⟩:=Xh4 W (i:=i) (n:=n) (by omega)
     exact⟨r++X1J (W n),by simp only[cat];rw[hr];simp[List.append_assoc]⟩
theorem Xat{W:Nat→Int}(h:X4d (W 0)):∀n,0<n→0<(cat W n).length
 | 1,_=>by simp only[cat,List.nil_append];exact X7j h
 | n+2,_=>by have:=Xat h (n+1) (by omega);simp only[cat,List.length_append]at this ⊢;omega
theorem Xja{W:Nat→Int}{n i:Nat}{s:List UInt8}(hw:∀j,j<n→X4d (W j))(hs:s.take (cat W n).length=cat W n)(hi:i<n):
 X0e (s.drop (cat W i).length)=(W i,((X1J (W i)).length:Int))∧(s.drop (cat W i).length).drop (X1J (W i)).length=s.drop (cat W (i+1)).length:=by
 obtain⟨r,hr⟩:=Xh4 W hi
 have e:s=cat W i++(X1J (W i)++(r++s.drop (cat W n).length)):=by
  have:=List.take_append_drop (cat W n).length s
  rw[hs]at this
  rw[hr]at this
  rw[hr]
  conv=>lhs;rw[←this]
  simp[List.append_assoc]
 refine⟨?_,?_⟩
 · have e2:s.drop (cat W i).length=X1J (W i)++(r++s.drop (cat W n).length):=by
    conv=>lhs;rw[e]
    rw[List.drop_left]
   rw[e2,XjC (hw i hi)]
 · rw[List.drop_drop]
   congr 1
   simp[cat]
def vals(W:Nat→Int)(n:Nat):List Int:=(List.range n).map W
theorem XlG(W:Nat→Int)(n:Nat):vals W (n+1)=vals W n++[W n]:=by simp[vals,List.range_succ]
theorem XiF(W:Nat→Int)(n:Nat):(vals W n).length=n:=by simp[vals]
theorem XnL(W:Nat→Int){n i:Nat}(h:i<n):(vals W n).getD i 0=W i:=by
 rw[X0L (by rw[XiF];exact h)];simp[vals]
theorem XoB{W:Nat→Int}{n:Nat}{s:List UInt8}(hw:∀j,j<n→X4d (W j))(hs:s.take (cat W n).length=cat W n):∀(k i:Nat),i+k=n→XjF s k ((cat W i).length:Int) (vals W i)=(vals W n,((cat W n).length:Int))
 | 0,i,h=>by
   have:i=n:=by omega
   subst this;rfl
 | k+1,i,h=>by
   obtain⟨h1,h2⟩:=Xja hw hs (i:=i) (by omega)
   have hp:=X7j (hw i (by omega))
   rw[XjF,Int.toNat_natCast,h1]
   simp only
   rw[if_neg (by omega),←XlG,show((cat W i).length:Int)+((X1J (W i)).length:Int)=((cat W (i+1)).length:Int) by simp[cat]]
   exact XoB hw hs k (i+1) (by omega)
theorem XhF{W:Nat→Int}{n:Nat}{s:List UInt8}(hw:∀j,j<n→X4d (W j))(hs:s.take (cat W n).length=cat W n):X0y s n=(vals W n,((cat W n).length:Int)):=by
 unfold X0y
 rw[Int.toNat_natCast]
 exact XoB hw hs n 0 (by omega)
theorem Xlb{s:List UInt8}:∀(k:Nat) (p:Int) (out:List Int),0≤p→p≤s.length→(XjF s k p out).2<0∨∃vs:List Int,(XjF s k p out).1=out++vs∧vs.length=k∧(∀v∈vs,X4d v)∧(XjF s k p out).2=p+((enc vs).length:Int)∧(s.drop p.toNat).take (enc vs).length=enc vs
 | 0,p,out,h,h'=>.inr ⟨[],by simp[XjF],rfl,by simp,by simp[XjF,enc],by simp[enc]⟩
 | k+1,p,out,h,h'=>by
   rw[XjF]
   split
   · left;exact(by decide:(-1:Int)<0)
   · rename_i h0
     obtain⟨q1,q2⟩:=XkK h0
     have hb:=X2T (s.drop p.toNat)
     rw[List.length_drop]at hb
     rcases Xlb (s:=s) k (p+(X0e (s.drop p.toNat)).2) (out++[(X0e (s.drop p.toNat)).1]) (by omega) (by omega) with h1 | ⟨vs,k1,k2,k3,k4,k5⟩
     · exact .inl h1
     · right
       have hl:(X1J (X0e (s.drop p.toNat)).1).length=(X0e (s.drop p.toNat)).2.toNat:=by
        have q1':=congrArg List.length q1
        rw[List.length_take,List.length_drop]at q1'
        omega
       refine⟨(X0e (s.drop p.toNat)).1::vs,by rw[k1];simp,by simp[k2],fun v hv=>?_,?_,?_⟩
       · rcases List.mem_cons.1 hv with e | hv
         · rw[e];exact q2
         · exact k3 v hv
       · rw[k4,XfZ,List.length_append,hl];omega
       · rw[XfZ,List.length_append,List.take_add,hl,q1,List.drop_drop]
         congr 1
         rw[show p.toNat+(X0e (s.drop p.toNat)).2.toNat=(p+(X0e (s.drop p.toNat)).2).toNat by omega]
         exact k5
theorem XkA{s:List UInt8}{n:Nat}(h:¬(X0y s n).2<0):(X0y s n).1.length=n∧(∀v∈(X0y s n).1,X4d v)∧(X0y s n).2=((enc (X0y s n).1).length:Int)∧s.take (enc (X0y s n).1).length=enc (X0y s n).1:=by
 unfold X0y at h ⊢
 rw[Int.toNat_natCast]at h ⊢
 rcases Xlb (s:=s) n 0 [] (by omega) (by omega) with h1 | ⟨vs,k1,k2,k3,k4,k5⟩
 · exact absurd h1 h
 · rw[List.nil_append]at k1
   rw[k1]
   refine⟨k2,k3,by rw[k4];omega,?_⟩
   simpa using k5
def X3J(z:Int):Int×Bool:=if fIn z 0 281474976710656 then((if z % 2=1 then -(z+1) / 2 else z / 2),true) else(0,false)
theorem Xd3{d:Int}(h:fIn d (-140737488355328) 140737488355328=true):X3J (XbO d)=(d,true):=by
 rw[X0A]at h
 unfold XbO
 rw[if_pos (X0A.2 h)]
 unfold X3J
 split
 · rw[if_pos (X0A.2 (by omega)),if_pos (by omega)]
   simp only[Prod.mk.injEq,and_true];omega
 · rw[if_pos (X0A.2 (by omega)),if_neg (by omega)]
   simp only[Prod.mk.injEq,and_true];omega
theorem Xlg{d:Int}(h:fIn d (-140737488355328) 140737488355328=true):X4d (XbO d):=by
 rw[X0A]at h
 unfold XbO X4d
 rw[if_pos (X0A.2 h)]
 split<;>omega
theorem Xha(z:Int):-140737488355329≤(X3J z).1∧(X3J z).1≤140737488355328:=by
 unfold X3J
 split
 · rename_i h;rw[X0A]at h;simp only;split<;>omega
 · simp
def XcK(i:Rd):Int×Rd:=((X3J (X4p i).1).1,((X4p i).2.1,(X4p i).2.2&&(X3J (X4p i).1).2))
theorem Xji(i:Rd):0≤(X4p i).1∧(X4p i).1≤562949953421311:=by
 have:=X2T i.1
 unfold X4p;split<;>simp<;>omega
def X6t(s t:List UInt8):Bool:=s.take t.length==t
def X6j(s t:List UInt8):Int×Bool:=((t.length:Int),decide (t≠[])&&X6t s t)
def XkE(z:Int):Int:=(X3J z).1
theorem XlA(i:Rd):-140737488355329≤(XcK i).1∧(XcK i).1≤140737488355328:=Xha _
theorem Xpq{a:Int}(h:0≤a):Int.tdiv a 2=a / 2:=Int.tdiv_eq_ediv_of_nonneg h
theorem Xr9{a:Int}(h:0≤a)(h2:a % 2=0):Int.tdiv (0 - a) 2= -a / 2:=by
 rw[Int.zero_sub,Int.neg_tdiv,Xpq h];omega
theorem Xrx{a:Int}(h:0≤a):Int.tmod a 2=a % 2:=Int.tmod_eq_emod_of_nonneg h
def X7K:Con:={A:=(.int .i64),shA:=[.one],R:=(.pair (.int .i64) .bool),shR:=[(false,1),(false,1)],pre:=fun _ _=>True,f:=some fun _ a=>((X3J a),((),()))}
def X3P.F(a0:Int):Prop:=(X02 (decide (a0<(0:Int))) (Eq ((0,false),((),())) ((X3J a0),((),()))) (X02 (decide (a0>(281474976710656:Int))) (Eq ((0,false),((),())) ((X3J a0),((),()))) ((2:Int)≠0∧((2:Int)≠0∧(X02 ((Int.tmod a0 (2:Int))==(1:Int)) (True∧∀r1,(Eq r1 ((XbO (wI ((wI (0 - (wI (Int.tdiv a0 (2:Int))))) - (1:Int)))),((),())))→(Eq (((wI ((wI (0 - (wI (Int.tdiv a0 (2:Int))))) - (1:Int))),(r1.1==a0)),((),())) ((X3J a0),((),())))) (True∧∀r2,(Eq r2 ((XbO (wI (Int.tdiv a0 (2:Int)))),((),())))→(Eq (((wI (Int.tdiv a0 (2:Int))),(r2.1==a0)),((),())) ((X3J a0),((),())))))))))
theorem X3P.pure(a0:Int)(h:True)(hw:Wf X7K.A a0):X3P.F a0:=by
 delta X3P.F wI
 simp only[Bs,B0,B1,Prod.mk.injEq,X01]
 refine⟨fun h1=>?_,fun h1=>⟨fun h2=>?_,fun h2=>?_⟩⟩
 · unfold X3J;rw[if_neg (by rw[X0A];omega)]
 · unfold X3J;rw[if_neg (by rw[X0A];omega)]
 rw[Xrx (by omega),Xpq (by omega),w64 (x:=a0 / 2) (by omega) (by omega),w64 (x:=0 - a0 / 2) (by omega) (by omega),w64 (x:=0 - a0 / 2 - 1) (by omega) (by omega)]
 have hp:fIn a0 0 281474976710656=true:=X0A.2 (by omega)
 refine⟨by omega,by omega,fun h3=>?_,fun h3=>?_⟩
 · unfold X3J XbO
   rw[if_pos hp,if_pos h3,if_pos (X0A.2 (by omega)),if_pos (by omega)]
   simp;omega
 · unfold X3J XbO
   rw[if_pos hp,if_neg h3,if_pos (X0A.2 (by omega)),if_neg (by omega)]
   simp;omega
theorem X3P.eq:EqS X7K Tryz.f264 [3,4] [X2M.e] [] noL (fun i x=>X3P.F x):=by intro i x;kernel_rfl
theorem X3P.ok:X0n Tryz.prog 264 X7K:=X2j X3P.eq Tryz.func264 rfl (by kernel_rfl) fun i x h hi hw=>X3P.pure x h hw
def X3P.e:GE:=⟨264,X7K,⟨_,Tryz.func264,rfl,rfl⟩,X3P.ok⟩
def X7T:Con:={A:=(.int .i64),shA:=[.one],R:=(.pair (.int .i64) .bool),shR:=[(false,1),(false,1)],pre:=fun _ _=>True,f:=some fun _ a=>((X3J a),((),()))}
def X3V.F(a0:Int):Prop:=(True∧∀r1,(Eq r1 ((fIn a0 0 281474976710656),((),())))→(X02 (!r1.1) (Eq ((0,false),((),())) ((X3J a0),((),()))) ((2:Int)≠0∧(X02 ((Int.tmod a0 (2:Int))==(1:Int)) ((2:Int)≠0∧(Eq (((wI (Int.tdiv (wI (0 - (wI (a0+(1:Int))))) (2:Int))),true),((),())) ((X3J a0),((),())))) ((2:Int)≠0∧(Eq (((wI (Int.tdiv a0 (2:Int))),true),((),())) ((X3J a0),((),()))))))))
theorem X3V.pure(a0:Int)(h:True)(hw:Wf X7T.A a0):X3V.F a0:=by
 delta X3V.F wI
 simp only[Bs,B0,B1,Prod.mk.injEq,X01]
 refine⟨fun h1=>by simp[X3J,h1],fun h1=>?_⟩
 have hp:=X0A.1 h1
 rw[Xrx hp.1,Xpq hp.1,w64 (x:=a0 / 2) (by omega) (by omega),w64 (x:=a0+1) (by omega) (by omega),w64 (x:=0 - (a0+1)) (by omega) (by omega)]
 refine⟨by omega,fun h3=>⟨by omega,?_⟩,fun h3=>⟨by omega,?_⟩⟩
 · rw[Xr9 (by omega) (by omega),w64 (by omega) (by omega)]
   simp[X3J,h1,h3]
 · simp[X3J,h1,h3]
theorem X3V.eq:EqS X7T Tryz.f265 [3,4] [X1B.e] [] noL (fun i x=>X3V.F x):=by intro i x;kernel_rfl
theorem X3V.ok:X0n Tryz.prog 265 X7T:=X2j X3V.eq Tryz.func265 rfl (by kernel_rfl) fun i x h hi hw=>X3V.pure x h hw
def X3V.e:GE:=⟨265,X7T,⟨_,Tryz.func265,rfl,rfl⟩,X3V.ok⟩
def X5P:Con:={io:=true,I:=(.pair .str .bool),A:=.unit,shA:=[],R:=(.int .i64),shR:=[(false,1)],pre:=fun i _=>True,f:=some fun i a=>((XcK i).1,((XcK i).2,()))}
def X34.F(i0:(U5q×Bool)):Prop:=(True∧∀r1,(Eq r1 ((X4p (i0.1,i0.2)).1,((X4p (i0.1,i0.2)).2,())))→(True∧∀r2,(Eq r2 ((X3J r1.1),((),())))→(X02 r1.2.1.2 (Eq (r2.1.1,((r1.2.1.1,r2.1.2),())) ((XcK i0).1,((XcK i0).2,()))) (Eq (r2.1.1,((r1.2.1.1,false),())) ((XcK i0).1,((XcK i0).2,()))))))
theorem X34.pure(i0:(U5q×Bool))(h:True)(hi:Wf X5P.I i0)(hw:Wf X5P.A ()):X34.F i0:=by
 unfold X34.F
 simp only[Bs,B0,B1,Prod.mk.injEq,X01]
 exact⟨fun h1=>by simp[XcK,h1],fun h1=>by simp[XcK,h1]⟩
theorem X34.eq:EqS X5P Tryz.f247 [3] [X2v.e,X3V.e] [] noL (fun i x=>X34.F i):=by intro i x;kernel_rfl
theorem X34.ok:X0n Tryz.prog 247 X5P:=X2j X34.eq Tryz.func247 rfl (by kernel_rfl) fun i x h hi hw=>X34.pure i h (hi rfl) hw
def X34.e:GE:=⟨247,X5P,⟨_,Tryz.func247,rfl,rfl⟩,X34.ok⟩
def X8Z:Con:={A:=(.int .i64),shA:=[.one],R:=(.int .i64),shR:=[(false,1)],pre:=fun _ _=>True,f:=some fun _ a=>((XkE a),((),()))}
def X4a.F(a0:Int):Prop:=(True∧∀r1,(Eq r1 ((X3J a0),((),())))→(Eq (r1.1.1,((),())) ((XkE a0),((),()))))
theorem X4a.pure(a0:Int)(h:True)(hw:Wf X8Z.A a0):X4a.F a0:=by
 unfold X4a.F
 simp only[Bs,B0,B1,Prod.mk.injEq,X01]
 repeat' (with_reducible (first | (refine And.intro ?_ ?_) | intro _))
 all_goals (try simp (disch:=omega) only[w64,wu8,tn0,tn1,tm1,tm2,List.length_append,List.length_cons,List.length_nil]at*)
 all_goals (try simp (disch:=omega) only[w64,wu8,tn0,tn1,tm1,tm2,List.length_append,List.length_cons,List.length_nil]at*)
 all_goals (try omega)
 all_goals (try grind[XkE])
theorem X4a.eq:EqS X8Z Tryz.f243 [3] [X3P.e] [] noL (fun i x=>X4a.F x):=by intro i x;kernel_rfl
theorem X4a.ok:X0n Tryz.prog 243 X8Z:=X2j X4a.eq Tryz.func243 rfl (by kernel_rfl) fun i x h hi hw=>X4a.pure x h hw
def X4a.e:GE:=⟨243,X8Z,⟨_,Tryz.func243,rfl,rfl⟩,X4a.ok⟩
def X1K:Con:={A:=(.pair .str .str),shA:=[.one,.one],R:=.bool,shR:=[(false,1)],pre:=fun _ _=>True,f:=some fun _ a=>((X6t a.1 a.2),((),()))}
def X0h.F(a0:U5q)(a1:U5q):Prop:=(X02 (decide ((ln a0)≥(ln a1))) (0≤(ln a1)∧((ln a1)≤(ln a0)∧(Eq (((List.take (tN (ln a1)) a0)==a1),((),())) ((X6t a0 a1),((),()))))) (Eq (false,((),())) ((X6t a0 a1),((),()))))
theorem X0h.pure(a0:U5q)(a1:U5q)(h:True)(hw:Wf X1K.A (a0,a1)):X0h.F a0 a1:=by
 delta X0h.F ln tN
 simp only[Bs,B0,B1,Prod.mk.injEq,X01]
 refine⟨fun h1=>⟨by omega,by omega,by rw[show((a1.length:Nat):Int).toNat=a1.length by omega];rfl⟩,fun h1=>?_⟩
 symm;unfold X6t;rw[beq_eq_false_iff_ne];intro e
 have:=congrArg List.length e;simp at this;omega
theorem X0h.eq:EqS X1K Tryz.f273 [4] [] [] noL (fun i x=>X0h.F x.1 x.2):=by intro i x;kernel_rfl
theorem X0h.ok:X0n Tryz.prog 273 X1K:=X2j X0h.eq Tryz.func273 rfl (by kernel_rfl) fun i x h hi hw=>X0h.pure x.1 x.2 h hw
def X0h.e:GE:=⟨273,X1K,⟨_,Tryz.func273,rfl,rfl⟩,X0h.ok⟩
def X44:Con:={A:=(.pair .str .str),shA:=[.one,.one],R:=.bool,shR:=[(false,1)],pre:=fun _ _=>True,f:=some fun _ a=>((X6t a.1 a.2),((),()))}
def X13.F(a0:U5q)(a1:U5q):Prop:=(True∧∀r1,(Eq r1 ((X6t a0 a1),((),())))→(Eq (r1.1,((),())) ((X6t a0 a1),((),()))))
theorem X13.pure(a0:U5q)(a1:U5q)(h:True)(hw:Wf X44.A (a0,a1)):X13.F a0 a1:=by
 unfold X13.F
 simp only[Bs,B0,B1,Prod.mk.injEq,X01]
 repeat' (with_reducible (first | (refine And.intro ?_ ?_) | intro _))
 all_goals (try simp (disch:=omega) only[w64,wu8,tn0,tn1,tm1,tm2,List.length_append,List.length_cons,List.length_nil]at*)
 all_goals (try simp (disch:=omega) only[w64,wu8,tn0,tn1,tm1,tm2,List.length_append,List.length_cons,List.length_nil]at*)
 all_goals (try omega)
 all_goals (try grind[])
theorem X13.eq:EqS X44 Tryz.f266 [4] [X0h.e] [] noL (fun i x=>X13.F x.1 x.2):=by intro i x;kernel_rfl
theorem X13.ok:X0n Tryz.prog 266 X44:=X2j X13.eq Tryz.func266 rfl (by kernel_rfl) fun i x h hi hw=>X13.pure x.1 x.2 h hw
def X13.e:GE:=⟨266,X44,⟨_,Tryz.func266,rfl,rfl⟩,X13.ok⟩
def X8c:Con:={A:=(.pair .str .str),shA:=[.one,.one],R:=(.pair (.int .i64) .bool),shR:=[(false,1),(false,1)],pre:=fun _ _=>True,f:=some fun _ a=>((X6j a.1 a.2),((),()))}
def X3A.F(a0:U5q)(a1:U5q):Prop:=(X02 (!(a1==[])) (True∧∀r1,(Eq r1 ((X6t a0 a1),((),())))→(Eq (((ln a1),r1.1),((),())) ((X6j a0 a1),((),())))) (Eq (((ln a1),false),((),())) ((X6j a0 a1),((),()))))
theorem X3A.pure(a0:U5q)(a1:U5q)(h:True)(hw:Wf X8c.A (a0,a1)):X3A.F a0 a1:=by
 delta X3A.F ln
 simp only[Bs,B0,B1,Prod.mk.injEq,X01]
 repeat' (with_reducible (first | (refine And.intro ?_ ?_) | intro _))
 all_goals (try simp (disch:=omega) only[w64,wu8,tn0,tn1,tm1,tm2,List.length_append,List.length_cons,List.length_nil]at*)
 all_goals (try simp (disch:=omega) only[w64,wu8,tn0,tn1,tm1,tm2,List.length_append,List.length_cons,List.length_nil]at*)
 all_goals (try omega)
 all_goals (try grind[X6j])
theorem X3A.eq:EqS X8c Tryz.f248 [3,4] [X13.e] [] noL (fun i x=>X3A.F x.1 x.2):=by intro i x;kernel_rfl
theorem X3A.ok:X0n Tryz.prog 248 X8c:=X2j X3A.eq Tryz.func248 rfl (by kernel_rfl) fun i x h hi hw=>X3A.pure x.1 x.2 h hw
def X3A.e:GE:=⟨248,X8c,⟨_,Tryz.func248,rfl,rfl⟩,X3A.ok⟩
theorem X8A{l:List Int}{i:Nat}(hi:i<l.length):l.take (i+1)=l.take i++[l.getD i 0]:=by
 rw[List.take_add_one,List.getD_eq_getElem?_getD,List.getElem?_eq_getElem hi];rfl
theorem X9r{l:List Int}{i j:Nat}(h:j<i):(l.take i).getD j 0=l.getD j 0:=by
 simp[List.getD_eq_getElem?_getD,List.getElem?_take,h]
theorem XhA{l:List Int}{i:Nat}{x:Int}(h:i=l.length):(l++[x]).getD i 0=x:=by subst h;simp[List.getD_eq_getElem?_getD]
theorem Xky{l:List Int}{i:Nat}{x:Int}(h:i<l.length):(l++[x]).getD i 0=l.getD i 0:=by simp[List.getD_eq_getElem?_getD,List.getElem?_append_left h]
section
variable (ok:List Int→Bool) (W:List Int→Nat→Int) (nx:List Int→List Int→Nat→Int)
def RW(s:List UInt8)(n:Int)(l:List Int):Prop:=(l.length:Int)=n∧ok l=true∧s.take (cat (W l) l.length).length=cat (W l) l.length
def XmG(v:List Int):Nat→List Int
 | 0=>[]
 | i+1=>XmG v i++[nx (XmG v i) v i]
instance (s:List UInt8) (n:Int) (l:List Int):Decidable (RW ok W s n l):=by unfold RW;infer_instance
def Xef(s:List UInt8)(n:Int):List Int×Int:=
 if RW ok W s n (XmG nx (X0y s n).1 n.toNat) then(XmG nx (X0y s n).1 n.toNat,((cat (W (XmG nx (X0y s n).1 n.toNat)) (XmG nx (X0y s n).1 n.toNat).length).length:Int)) else([],0)
variable {ok W nx} (hW:∀l,ok l=true→∀i,i<l.length→X4d (W l i))
include hW
theorem RW.vars{s:List UInt8}{n:Int}{l:List Int}(h:RW ok W s n l):X0y s n=(vals (W l) l.length,((cat (W l) l.length).length:Int)):=by
 have e:=XhF (W:=W l) (n:=l.length) (s:=s) (hW l h.2.1) h.2.2
 rw[h.1]at e
 exact e
theorem RW.at{s:List UInt8}{n:Int}{l:List Int}(h:RW ok W s n l){i:Nat}(hi:i<l.length):(X0y s n).1.getD i 0=W l i:=by
 rw[RW.vars hW h];exact XnL _ hi
variable (hn:∀l,ok l=true→∀(v:List Int) i,i<l.length→v.getD i 0=W l i→nx (l.take i) v i=l.getD i 0)
include hn
theorem RW.dec{s:List UInt8}{n:Int}{l:List Int}(h:RW ok W s n l):∀i,i≤l.length→XmG nx (X0y s n).1 i=l.take i
 | 0,_=>by simp[XmG]
 | i+1,hi=>by
   rw[XmG,RW.dec h i (by omega),X8A (by omega),hn l h.2.1 _ i (by omega) (RW.at hW h (by omega))]
theorem RW.yes{s:List UInt8}{n:Int}{l:List Int}(h:RW ok W s n l):Xef ok W nx s n=(l,((cat (W l) l.length).length:Int)):=by
 have e:XmG nx (X0y s n).1 n.toNat=l:=by rw[RW.dec hW hn h _ (by have:=h.1;omega),show n.toNat=l.length by have:=h.1;omega,List.take_length]
 unfold Xef
 rw[e,if_pos h]
theorem RW.get{s:List UInt8}{n:Int}(h0:ok []=false):Xef ok W nx s n=([],0)∧(∀l,¬RW ok W s n l)∨∃l,RW ok W s n l∧Xef ok W nx s n=(l,((cat (W l) l.length).length:Int)):=by
 by_cases h:∃l,RW ok W s n l
 · obtain⟨l,h⟩:=h
   exact .inr ⟨l,h,RW.yes hW hn h⟩
 · refine .inl ⟨?_,fun l hl=>h ⟨l,hl⟩⟩
   unfold Xef
   rw[if_neg fun hl=>h ⟨_,hl⟩]
end
def tmW(l:List Int)(i:Nat):Int:=if i=0 then l.getD 0 0 else if i=1 then l.getD 1 0 - l.getD 0 0 else XbO (l.getD i 0 - l.getD (i - 1) 0 - (l.getD (i - 1) 0 - l.getD (i - 2) 0))
def vlW(l:List Int)(i:Nat):Int:=XbO (l.getD i 0 - (if i=0 then 0 else l.getD (i - 1) 0))
theorem Xoj(l:List Int):∀i,tmS l i=cat (tmW l) i
 | 0=>rfl
 | i+1=>by
   rw[Xjz,Xoj l i,cat]
   congr 1
   unfold XaH tmW
   split
   · rfl
   · split<;>rfl
theorem Xos(l:List Int):∀i,vlS l i=cat (vlW l) i
 | 0=>rfl
 | i+1=>by rw[Xjv,Xos l i,cat];rfl
theorem Xmm{l:List Int}(h:X8r l=true){i:Nat}(hi:i<l.length)(h2:2≤i):fIn (l.getD i 0 - l.getD (i - 1) 0 - (l.getD (i - 1) 0 - l.getD (i - 2) 0)) (-140737488355328) 140737488355328=true:=by
 have h1:=Xbj h hi
 have h2:=Xbj h (i:=i - 1) (by omega)
 have h3:=Xbj h (i:=i - 2) (by omega)
 rw[X0A];omega
theorem Xaf(l:List Int)(h:X8r l=true)(i:Nat)(hi:i<l.length):X4d (tmW l i):=by
 have h0:=Xbj h (i:=0) (by omega)
 unfold tmW
 split
 · unfold X4d;omega
 · split
   · have h1:=X7m.1 ((X4b.1 h).2 1 (by omega))
     simp only[show(1:Nat) - 1=0 from rfl]at h1
     unfold X4d;omega
   · exact Xlg (Xmm h hi (by omega))
theorem XlV{l:List Int}(h:X8F l=true){i:Nat}(hi:i<l.length):fIn (l.getD i 0 - (if i=0 then 0 else l.getD (i - 1) 0)) (-140737488355328) 140737488355328=true:=by
 have h1:=XiD h hi
 rw[X0A]
 split
 · omega
 · have h2:=XiD h (i:=i - 1) (by omega)
   omega
theorem Xbm(l:List Int)(h:X8F l=true)(i:Nat)(hi:i<l.length):X4d (vlW l i):=Xlg (XlV h hi)
def nxT(o v:List Int)(i:Nat):Int:=if i=0 then v.getD 0 0 else if i=1 then o.getD 0 0+v.getD 1 0 else o.getD (i - 1) 0+(o.getD (i - 1) 0 - o.getD (i - 2) 0+(X3J (v.getD i 0)).1)
def nxV(o v:List Int)(i:Nat):Int:=(if i=0 then 0 else o.getD (i - 1) 0)+(X3J (v.getD i 0)).1
theorem XlD(l:List Int)(h:X8r l=true)(v:List Int)(i:Nat)(hi:i<l.length)(hv:v.getD i 0=tmW l i):nxT (l.take i) v i=l.getD i 0:=by
 unfold nxT
 unfold tmW at hv
 by_cases h0:i=0
 · subst h0;simpa using hv
 rw[if_neg h0]at hv ⊢
 by_cases h1:i=1
 · subst h1
   rw[if_pos rfl]at hv
   rw[if_pos rfl,X9r (by omega),hv];omega
 rw[if_neg h1]at hv ⊢
 rw[hv,Xd3 (Xmm h hi (by omega)),X9r (by omega),X9r (by omega)]
 simp only;omega
theorem XlZ(l:List Int)(h:X8F l=true)(v:List Int)(i:Nat)(hi:i<l.length)(hv:v.getD i 0=vlW l i):nxV (l.take i) v i=l.getD i 0:=by
 unfold nxV
 rw[hv,vlW,Xd3 (XlV h hi)]
 split
 · simp
 · rw[X9r (by omega)];simp only;omega
def X33(s:List UInt8)(n:Int):List Int×Int:=Xef X8r tmW nxT s n
def X39(s:List UInt8)(n:Int):List Int×Int:=Xef X8F vlW nxV s n
abbrev RT:=RW X8r tmW
abbrev RV:=RW X8F vlW
theorem X6K{l:List Int}(h:X8r l=true):X0l l=cat (tmW l) l.length:=by unfold X0l;rw[if_pos h,Xoj]
theorem X6F{l:List Int}(h:X8F l=true):X0i l=cat (vlW l) l.length:=by unfold X0i;rw[if_pos h,Xos]
theorem XdX(s:List UInt8)(n:Int):X33 s n=([],0)∧(∀l,¬RT s n l)∨∃l,RT s n l∧X33 s n=(l,((cat (tmW l) l.length).length:Int)):=RW.get Xaf XlD rfl
theorem Xdh(s:List UInt8)(n:Int):X39 s n=([],0)∧(∀l,¬RV s n l)∨∃l,RV s n l∧X39 s n=(l,((cat (vlW l) l.length).length:Int)):=RW.get Xbm XlZ rfl
theorem Xbb{s:List UInt8}{n:Int}{l:List Int}(h:RT s n l):X33 s n=(l,((cat (tmW l) l.length).length:Int)):=RW.yes Xaf XlD h
theorem Xbg{s:List UInt8}{n:Int}{l:List Int}(h:RV s n l):X39 s n=(l,((cat (vlW l) l.length).length:Int)):=RW.yes Xbm XlZ h
def pRd(s:List UInt8)(n:Int):Prop:=s.length≤9223372036854775807
theorem Xlf{s:List UInt8}{n:Int}(hn:1≤n)(h:¬(X0y s n).2<0):((X0y s n).1.length:Int)=n∧(∀j:Nat,0≤(X0y s n).1.getD j 0∧(X0y s n).1.getD j 0≤562949953421311)∧0<(X0y s n).2∧(X0y s n).2≤s.length:=by
 obtain⟨k,rfl⟩:∃k:Nat,n=k:=⟨n.toNat,by omega⟩
 obtain⟨h1,h2,h3,h4⟩:=XkA h
 have h5:=congrArg List.length h4
 rw[List.length_take]at h5
 refine⟨by omega,fun j=>?_,?_,by omega⟩
 · by_cases hj:j<(X0y s k).1.length
   · have:=h2 _ (X1e (l:=(X0y s k).1) (d:=0) hj)
     exact this
   · rw[List.getD_eq_getElem?_getD,List.getElem?_eq_none (by omega)];simp
 · rw[h3]
   cases e:(X0y s k).1 with
   | nil=>rw[e]at h1;simp at h1;omega
   | cons v r=>
     have:=X7j (h2 v (by rw[e];simp))
     rw[XfZ,List.length_append];omega
def rsI(s:List UInt8)(n i:Int)(out:List Int):Prop:=1≤i∧i≤n∧(out.length:Int)=i∧((0≤out.getD (i.toNat - 1) 0∧out.getD (i.toNat - 1) 0≤562949953421311)∧(2≤i→0≤out.getD (i.toNat - 2) 0∧out.getD (i.toNat - 2) 0≤562949953421311))∧∀l,RT s n l→out=l.take i.toNat
def rsM(s:List UInt8)(n i:Int)(out:List Int):Nat:=(n - i).toNat
def vsI(s:List UInt8)(n last i:Int)(out:List Int):Prop:=0≤i∧i≤n∧(out.length:Int)=i∧(-1099511627776≤last∧last≤1099511627776)∧last=(if i=0 then 0 else out.getD (i.toNat - 1) 0)∧∀l,RV s n l→out=l.take i.toNat
def vsM(s:List UInt8)(n last i:Int)(out:List Int):Nat:=(n - i).toNat
theorem XkU(z:Int):-140737488355329≤XkE z∧XkE z≤140737488355328:=Xha z
theorem RT.val{s:List UInt8}{n:Int}{l:List Int}(h:RT s n l){i:Nat}(hi:i<l.length):(X0y s n).1.getD i 0=tmW l i:=RW.at Xaf h hi
theorem RV.val{s:List UInt8}{n:Int}{l:List Int}(h:RV s n l){i:Nat}(hi:i<l.length):(X0y s n).1.getD i 0=vlW l i:=RW.at Xbm h hi
theorem rt_of{s:List UInt8}{n k:Int}{out:List Int}(h1:(out.length:Int)=n)(hk:0<k)(hk2:k≤s.length)(h:X0l out=s.take k.toNat):RT s n out∧k=((cat (tmW out) out.length).length:Int):=by
 by_cases hr:X8r out=true
 · rw[X6K hr]at h
   have h2:=congrArg List.length h
   rw[List.length_take]at h2
   refine⟨⟨h1,hr,?_⟩,by omega⟩
   rw[show(cat (tmW out) out.length).length=k.toNat by omega,←h]
 · unfold X0l at h
   rw[if_neg hr]at h
   have h2:=congrArg List.length h
   rw[List.length_take]at h2
   simp at h2;omega
theorem rv_of{s:List UInt8}{n k:Int}{out:List Int}(h1:(out.length:Int)=n)(hk:0<k)(hk2:k≤s.length)(h:X0i out=s.take k.toNat):RV s n out∧k=((cat (vlW out) out.length).length:Int):=by
 by_cases hr:X8F out=true
 · rw[X6F hr]at h
   have h2:=congrArg List.length h
   rw[List.length_take]at h2
   refine⟨⟨h1,hr,?_⟩,by omega⟩
   rw[show(cat (vlW out) out.length).length=k.toNat by omega,←h]
 · unfold X0i at h
   rw[if_neg hr]at h
   have h2:=congrArg List.length h
   rw[List.length_take]at h2
   simp at h2;omega
theorem X8U{s:List UInt8}{n:Int}(h:∀l,¬RT s n l):([],0)=X33 s n:=by
 rcases XdX s n with⟨e,_⟩ | ⟨l,hl,_⟩
 · exact e.symm
 · exact absurd hl (h l)
theorem X9a{s:List UInt8}{n:Int}(h:∀l,¬RV s n l):([],0)=X39 s n:=by
 rcases Xdh s n with⟨e,_⟩ | ⟨l,hl,_⟩
 · exact e.symm
 · exact absurd hl (h l)
theorem RT.len{s:List UInt8}{n:Int}{l:List Int}(h:RT s n l):fIn n 1 60=true:=by
 rw[X0A];have h1:=(X4b.1 h.2.1).1;have:=h.1;omega
theorem RV.len{s:List UInt8}{n:Int}{l:List Int}(h:RV s n l):fIn n 1 60=true:=by
 rw[X0A];have h1:=(X4r.1 h.2.1).1;have:=h.1;omega
theorem RT.pos{s:List UInt8}{n:Int}{l:List Int}(h:RT s n l):¬(X0y s n).2<0:=by
 rw[RW.vars Xaf h];simp only;omega
theorem RV.pos{s:List UInt8}{n:Int}{l:List Int}(h:RV s n l):¬(X0y s n).2<0:=by
 rw[RW.vars Xbm h];simp only;omega
theorem Xnc{s:List UInt8}{n:Int}(hn:1≤n)(hv:∀j:Nat,0≤(X0y s n).1.getD j 0∧(X0y s n).1.getD j 0≤562949953421311):rsI s n 1 [(X0y s n).1.getD (Int.toNat 0) 0]:=by
 refine⟨by omega,hn,rfl,⟨hv 0,fun h=>by omega⟩,fun l hl=>?_⟩
 have h1:=hl.1
 rw[show(1:Int).toNat=0+1 from rfl,X8A (by omega),show Int.toNat 0=0 from rfl,RT.val hl (by omega)]
 rfl
theorem Xo7{s:List UInt8}{n x i:Int}{out:List Int}(hI:rsI s n i out)(hi:i<n)(hx:∀l,RT s n l→x=l.getD i.toNat 0)(h:fIn x 0 1099511627776=false):([],0)=X33 s n:=by
 refine X8U fun l hl=>?_
 have h1:=hl.1
 have h2:=hI.1
 have:=Xbj hl.2.1 (i:=i.toNat) (by omega)
 rw[hx l hl,X0A.2 this]at h;cases h
theorem XlI{s:List UInt8}{n x i:Int}{out:List Int}(hI:rsI s n i out)(hi:i<n)(hx:∀l,RT s n l→x=l.getD i.toNat 0)(h:fIn x 0 1099511627776=true):rsI s n (i+1) (out++[x]):=by
 obtain⟨h1,h2,h3,h4,h5⟩:=hI
 rw[X0A]at h
 refine⟨by omega,by omega,by simp;omega,⟨?_,fun _=>?_⟩,fun l hl=>?_⟩
 · rw[XhA (by omega)];omega
 · rw[Xky (by omega),show(i+1).toNat - 2=i.toNat - 1 by omega];exact h4.1
 · have:=hl.1
   rw[show(i+1).toNat=i.toNat+1 by omega,X8A (by omega),←h5 l hl,hx l hl]
theorem Xqr{s:List UInt8}{n i:Int}{out:List Int}(hI:rsI s n i out)(hi:i<n)(h0:¬i>1):∀l,RT s n l→out.getD (i.toNat - 1) 0+(X0y s n).1.getD i.toNat 0=l.getD i.toNat 0:=fun l hl=>by
 have h1:=hl.1
 have h2:=hI.1
 rw[RT.val hl (by omega),hI.2.2.2.2 l hl,show i=1 by omega,show(1:Int).toNat - 1=0 from rfl,show(1:Int).toNat=1 from rfl,X9r (by omega)]
 unfold tmW;simp;omega
theorem Xq4{s:List UInt8}{n i:Int}{out:List Int}(hI:rsI s n i out)(hi:i<n)(h0:i>1):∀l,RT s n l→out.getD (i.toNat - 1) 0+(out.getD (i.toNat - 1) 0 - out.getD (i.toNat - 2) 0+XkE ((X0y s n).1.getD i.toNat 0))=l.getD i.toNat 0:=fun l hl=>by
 have h1:=hl.1
 have h2:=hI.1
 have:=XlD l hl.2.1 (X0y s n).1 i.toNat (by omega) (RT.val hl (by omega))
 rw[nxT,if_neg (by omega),if_neg (by omega),←hI.2.2.2.2 l hl]at this
 exact this
theorem Xqu{s:List UInt8}{n i:Int}{out:List Int}(hI:rsI s n i out)(hi:¬i<n)(hk:0<(X0y s n).2)(hk2:(X0y s n).2≤s.length):(¬X0l out=s.take (X0y s n).2.toNat→([],0)=X33 s n)∧(X0l out=s.take (X0y s n).2.toNat→(out,(X0y s n).2)=X33 s n):=by
 obtain⟨h1,h2,h3,_,h5⟩:=hI
 refine⟨fun h=>X8U fun l hl=>h ?_,fun h=>?_⟩
 · have:=hl.1
   rw[h5 l hl,show i.toNat=l.length by omega,List.take_length,RW.vars Xaf hl,X6K hl.2.1]
   simp only[Int.toNat_natCast]
   exact hl.2.2.symm
 · obtain⟨q1,q2⟩:=rt_of (n:=n) (by omega) hk hk2 h
   rw[Xbb q1,←q2]
theorem Xqc{s:List UInt8}{n x i last:Int}{out:List Int}(hI:vsI s n last i out)(hi:i<n)(hx:∀l,RV s n l→x=l.getD i.toNat 0)(h:fIn x (-1099511627776) 1099511627776=false):([],0)=X39 s n:=by
 refine X9a fun l hl=>?_
 have h1:=hl.1
 have h2:=hI.1
 have:=XiD hl.2.1 (i:=i.toNat) (by omega)
 rw[hx l hl,X0A.2 this]at h;cases h
theorem XpA{s:List UInt8}{n x i last:Int}{out:List Int}(hI:vsI s n last i out)(hi:i<n)(hx:∀l,RV s n l→x=l.getD i.toNat 0)(h:fIn x (-1099511627776) 1099511627776=true):vsI s n x (i+1) (out++[x]):=by
 obtain⟨h1,h2,h3,h4,h5,h6⟩:=hI
 rw[X0A]at h
 refine⟨by omega,by omega,by simp;omega,h,?_,fun l hl=>?_⟩
 · rw[if_neg (by omega),XhA (by omega)]
 · have:=hl.1
   rw[show(i+1).toNat=i.toNat+1 by omega,X8A (by omega),←h6 l hl,hx l hl]
theorem Xqq{s:List UInt8}{n i last:Int}{out:List Int}(hI:vsI s n last i out)(hi:i<n):∀l,RV s n l→last+XkE ((X0y s n).1.getD i.toNat 0)=l.getD i.toNat 0:=fun l hl=>by
 obtain⟨h1,h2,h3,h4,h5,h6⟩:=hI
 have h1:=hl.1
 have:=XlZ l hl.2.1 (X0y s n).1 i.toNat (by omega) (RV.val hl (by omega))
 rw[nxV,←h6 l hl]at this
 rw[h5,←this]
 by_cases h0:i=0
 · rw[if_pos h0,if_pos (by omega)];rfl
 · rw[if_neg h0,if_neg (by omega)];rfl
theorem Xra{s:List UInt8}{n i last:Int}{out:List Int}(hI:vsI s n last i out)(hi:¬i<n)(hk:0<(X0y s n).2)(hk2:(X0y s n).2≤s.length):(¬X0i out=s.take (X0y s n).2.toNat→([],0)=X39 s n)∧(X0i out=s.take (X0y s n).2.toNat→(out,(X0y s n).2)=X39 s n):=by
 obtain⟨h1,h2,h3,_,_,h5⟩:=hI
 refine⟨fun h=>X9a fun l hl=>h ?_,fun h=>?_⟩
 · have:=hl.1
   rw[h5 l hl,show i.toNat=l.length by omega,List.take_length,RW.vars Xbm hl,X6F hl.2.1]
   simp only[Int.toNat_natCast]
   exact hl.2.2.symm
 · obtain⟨q1,q2⟩:=rv_of (n:=n) (by omega) hk hk2 h
   rw[Xbg q1,←q2]
def X5g:Con:={A:=XkI,shA:=[.one,.one],R:=(.pair Xc8 (.int .i64)),shR:=[(false,1),(false,1)],pre:=fun _ a=>(pRd a.1 a.2),f:=some fun _ a=>((X33 a.1 a.2),((),()))}
def X1y.F(a0:U5q)(a1:Int):Prop:=(True∧∀r1,(Eq r1 ((fIn a1 1 60),((),())))→(X02 (!r1.1) (Eq ((([]:(List Int)),0),((),())) ((X33 a0 a1),((),()))) ((p7 a0 a1)∧∀r2,(Eq r2 ((X0y a0 a1),((),())))→(X02 (decide (r2.1.2<(0:Int))) (Eq ((([]:(List Int)),0),((),())) ((X33 a0 a1),((),()))) (0≤(0:Int)∧((0:Int)<(ln r2.1.1)∧(eS [(0,.val false [.str a0]),(1,.val false [.int .i64 a1]),(6,.val false [.lst (.int .i64) [] none]),(7,.val false [.lst (.int .i64) r2.1.1 none]),(8,.val false [.int .i64 r2.1.2])] [(0,.val false [.str a0]),(1,.val false [.int .i64 a1]),(6,.val false [.lst (.int .i64) [] none]),(7,.val false [.lst (.int .i64) r2.1.1 none]),(8,.val false [.int .i64 r2.1.2])]∧((rsI a0 a1 1 [(List.getD r2.1.1 (tN (0:Int)) 0)])∧∀(y3:(Int×(List Int))),(rsI a0 a1 y3.1 y3.2)→(X02 (decide (y3.1<a1)) (0≤y3.1∧(y3.1<(ln r2.1.1)∧(X02 (decide (y3.1>(1:Int))) (0≤(wI (y3.1 - (1:Int)))∧((wI (y3.1 - (1:Int)))<(ln y3.2)∧(0≤(wI (y3.1 - (2:Int)))∧((wI (y3.1 - (2:Int)))<(ln y3.2)∧(0≤y3.1∧(y3.1<(ln r2.1.1)∧(True∧∀r4,(Eq r4 ((XkE (List.getD r2.1.1 (tN y3.1) 0)),((),())))→(0≤(wI (y3.1 - (1:Int)))∧((wI (y3.1 - (1:Int)))<(ln y3.2)∧(True∧∀r5,(Eq r5 ((fIn (wI ((List.getD y3.2 (tN (wI (y3.1 - (1:Int)))) 0)+(wI ((wI ((List.getD y3.2 (tN (wI (y3.1 - (1:Int)))) 0) - (List.getD y3.2 (tN (wI (y3.1 - (2:Int)))) 0)))+r4.1)))) 0 1099511627776),((),())))→(X02 (!r5.1) (Eq ((([]:(List Int)),0),((),())) ((X33 a0 a1),((),()))) (List.length y3.2+List.length [(wI ((List.getD y3.2 (tN (wI (y3.1 - (1:Int)))) 0)+(wI ((wI ((List.getD y3.2 (tN (wI (y3.1 - (1:Int)))) 0) - (List.getD y3.2 (tN (wI (y3.1 - (2:Int)))) 0)))+r4.1))))]≤9223372036854775807∧((List.length y3.2+List.length [(wI ((List.getD y3.2 (tN (wI (y3.1 - (1:Int)))) 0)+(wI ((wI ((List.getD y3.2 (tN (wI (y3.1 - (1:Int)))) 0) - (List.getD y3.2 (tN (wI (y3.1 - (2:Int)))) 0)))+r4.1))))])*8≤140737488355328∧(eS [(0,.val false [.str a0]),(1,.val false [.int .i64 a1]),(6,.val false [.lst (.int .i64) [] none]),(7,.val false [.lst (.int .i64) r2.1.1 none]),(8,.val false [.int .i64 r2.1.2])] [(0,.val false [.str a0]),(1,.val false [.int .i64 a1]),(6,.val false [.lst (.int .i64) [] none]),(7,.val false [.lst (.int .i64) r2.1.1 none]),(8,.val false [.int .i64 r2.1.2])]∧(rsI a0 a1 (wI (y3.1+(1:Int))) (y3.2++[(wI ((List.getD y3.2 (tN (wI (y3.1 - (1:Int)))) 0)+(wI ((wI ((List.getD y3.2 (tN (wI (y3.1 - (1:Int)))) 0) - (List.getD y3.2 (tN (wI (y3.1 - (2:Int)))) 0)))+r4.1))))]))∧(rsM a0 a1 (wI (y3.1+(1:Int))) (y3.2++[(wI ((List.getD y3.2 (tN (wI (y3.1 - (1:Int)))) 0)+(wI ((wI ((List.getD y3.2 (tN (wI (y3.1 - (1:Int)))) 0) - (List.getD y3.2 (tN (wI (y3.1 - (2:Int)))) 0)))+r4.1))))]))<(rsM a0 a1 y3.1 y3.2))))))))))))))) (0≤(wI (y3.1 - (1:Int)))∧((wI (y3.1 - (1:Int)))<(ln y3.2)∧(True∧∀r6,(Eq r6 ((fIn (wI ((List.getD y3.2 (tN (wI (y3.1 - (1:Int)))) 0)+(List.getD r2.1.1 (tN y3.1) 0))) 0 1099511627776),((),())))→(X02 (!r6.1) (Eq ((([]:(List Int)),0),((),())) ((X33 a0 a1),((),()))) (List.length y3.2+List.length [(wI ((List.getD y3.2 (tN (wI (y3.1 - (1:Int)))) 0)+(List.getD r2.1.1 (tN y3.1) 0)))]≤9223372036854775807∧((List.length y3.2+List.length [(wI ((List.getD y3.2 (tN (wI (y3.1 - (1:Int)))) 0)+(List.getD r2.1.1 (tN y3.1) 0)))])*8≤140737488355328∧(eS [(0,.val false [.str a0]),(1,.val false [.int .i64 a1]),(6,.val false [.lst (.int .i64) [] none]),(7,.val false [.lst (.int .i64) r2.1.1 none]),(8,.val false [.int .i64 r2.1.2])] [(0,.val false [.str a0]),(1,.val false [.int .i64 a1]),(6,.val false [.lst (.int .i64) [] none]),(7,.val false [.lst (.int .i64) r2.1.1 none]),(8,.val false [.int .i64 r2.1.2])]∧(rsI a0 a1 (wI (y3.1+(1:Int))) (y3.2++[(wI ((List.getD y3.2 (tN (wI (y3.1 - (1:Int)))) 0)+(List.getD r2.1.1 (tN y3.1) 0)))]))∧(rsM a0 a1 (wI (y3.1+(1:Int))) (y3.2++[(wI ((List.getD y3.2 (tN (wI (y3.1 - (1:Int)))) 0)+(List.getD r2.1.1 (tN y3.1) 0)))]))<(rsM a0 a1 y3.1 y3.2))))))))))) (True∧∀r7,(Eq r7 ((X0l y3.2),((),())))→(0≤r2.1.2∧(r2.1.2≤(ln a0)∧(X02 (!(r7.1==(List.take (tN r2.1.2) a0))) (Eq ((([]:(List Int)),0),((),())) ((X33 a0 a1),((),()))) (Eq ((y3.2,r2.1.2),((),())) ((X33 a0 a1),((),()))))))))))))))))
def X1y.L(a0:U5q)(a1:Int):Nat→Option X0c:=fun p=>Go.Proofs.YtcfaphojdacmbaaGreatR.Bv.look p [(1018,{kp:={hold:=[0,1,6,7,8],slots:=[9,10],boxes:=[],rows:=[{bx:=false,s:=9,i:=0,k:=1001155,e:=3,hot:=true}]},T:=(.pair (.int .i64) Xc8),I:=fun st y=>rsI a0 a1 y.1 y.2,μ:=fun st y=>rsM a0 a1 y.1 y.2})]
theorem X1y.pure(a0:U5q)(a1:Int)(h:(pRd a0 a1))(hw:Wf X5g.A (a0,a1)):X1y.F a0 a1:=by
 delta X1y.F ln tN wI eS
 simp only[Bs,B0,B1,Prod.mk.injEq,X01]
 have hp:a0.length≤9223372036854775807:=h
 refine⟨fun h1=>X8U fun l hl=>(by rw[RT.len hl]at h1;cases h1),fun h1=>?_⟩
 rw[X0A]at h1
 refine⟨⟨hp,by omega,by omega⟩,fun h2=>X8U fun l hl=>RT.pos hl h2,fun h2=>?_⟩
 obtain⟨k1,k2,k3,k4⟩:=Xlf (by omega) h2
 refine⟨by omega,by omega,Xnc (by omega) k2,fun y hI=>?_⟩
 obtain⟨i,out⟩:=y
 simp only at hI ⊢
 have g1:=hI.1
 have g2:=hI.2.2.1
 have g3:=hI.2.2.2.1.1
 have g4:=hI.2.2.2.1.2
 have g5:=hI.2.1
 have e1:IntKind.wrap .i64 (i+1)=i+1:=w64 (by omega) (by omega)
 have e2:IntKind.wrap .i64 (i - 1)=i - 1:=w64 (by omega) (by omega)
 have e3:IntKind.wrap .i64 (i - 2)=i - 2:=w64 (by omega) (by omega)
 have kv:=k2 i.toNat
 refine⟨fun hi=>⟨by omega,by omega,fun h3=>?_,fun h3=>?_⟩,fun hi=>⟨by omega,k4,Xqu hI hi k3 k4⟩⟩
 · have ku:=XkU ((X0y a0 a1).1.getD i.toNat 0)
   have g4:=g4 (by omega)
   have hx:=Xq4 hI hi h3
   rw[e1,e2,e3,show(i - 1).toNat=i.toNat - 1 by omega,show(i - 2).toNat=i.toNat - 2 by omega,w64 (x:=out.getD (i.toNat - 1) 0 - out.getD (i.toNat - 2) 0) (by omega) (by omega),w64 (x:=out.getD (i.toNat - 1) 0 - out.getD (i.toNat - 2) 0+XkE ((X0y a0 a1).1.getD i.toNat 0)) (by omega) (by omega),w64 (x:=out.getD (i.toNat - 1) 0+(out.getD (i.toNat - 1) 0 - out.getD (i.toNat - 2) 0+XkE ((X0y a0 a1).1.getD i.toNat 0))) (by omega) (by omega)]
   exact⟨by omega,by omega,by omega,by omega,by omega,by omega,by omega,by omega,Xo7 hI hi hx,fun h4=>⟨by omega,by omega,XlI hI hi hx h4,by unfold rsM;omega⟩⟩
 · have hx:=Xqr hI hi h3
   rw[e1,e2,show(i - 1).toNat=i.toNat - 1 by omega,w64 (x:=out.getD (i.toNat - 1) 0+(X0y a0 a1).1.getD i.toNat 0) (by omega) (by omega)]
   exact⟨by omega,by omega,Xo7 hI hi hx,fun h4=>⟨by omega,by omega,XlI hI hi hx h4,by unfold rsM;omega⟩⟩
theorem X1y.eq:EqS X5g Tryz.f200 [138,3] [X21.e,X1g.e,X2a.e,X4a.e] [] (fun i x=>X1y.L x.1 x.2) (fun i x=>X1y.F x.1 x.2):=by intro i x;kernel_rfl
theorem X1y.ok:X0n Tryz.prog 200 X5g:=X2j X1y.eq Tryz.func200 rfl (by kernel_rfl) fun i x h hi hw=>X1y.pure x.1 x.2 h hw
def X1y.e:GE:=⟨200,X5g,⟨_,Tryz.func200,rfl,rfl⟩,X1y.ok⟩
def X4M:Con:={A:=XkI,shA:=[.one,.one],R:=(.pair Xc8 (.int .i64)),shR:=[(false,1),(false,1)],pre:=fun _ a=>(pRd a.1 a.2),f:=some fun _ a=>((X39 a.1 a.2),((),()))}
def X14.F(a0:U5q)(a1:Int):Prop:=(True∧∀r1,(Eq r1 ((fIn a1 1 60),((),())))→(X02 (!r1.1) (Eq ((([]:(List Int)),0),((),())) ((X39 a0 a1),((),()))) ((p7 a0 a1)∧∀r2,(Eq r2 ((X0y a0 a1),((),())))→(X02 (decide (r2.1.2<(0:Int))) (Eq ((([]:(List Int)),0),((),())) ((X39 a0 a1),((),()))) (eS [(0,.val false [.str a0]),(1,.val false [.int .i64 a1]),(6,.val false [.lst (.int .i64) [] none]),(7,.val false [.lst (.int .i64) r2.1.1 none]),(8,.val false [.int .i64 r2.1.2])] [(0,.val false [.str a0]),(1,.val false [.int .i64 a1]),(6,.val false [.lst (.int .i64) [] none]),(7,.val false [.lst (.int .i64) r2.1.1 none]),(8,.val false [.int .i64 r2.1.2])]∧((vsI a0 a1 0 0 ([]:List Int))∧∀(y3:(Int×(Int×(List Int)))),(vsI a0 a1 y3.1 y3.2.1 y3.2.2)→(X02 (decide (y3.2.1<a1)) (0≤y3.2.1∧(y3.2.1<(ln r2.1.1)∧(True∧∀r4,(Eq r4 ((XkE (List.getD r2.1.1 (tN y3.2.1) 0)),((),())))→(True∧∀r5,(Eq r5 ((fIn (wI (y3.1+r4.1)) (-1099511627776) 1099511627776),((),())))→(X02 (!r5.1) (Eq ((([]:(List Int)),0),((),())) ((X39 a0 a1),((),()))) (List.length y3.2.2+List.length [(wI (y3.1+r4.1))]≤9223372036854775807∧((List.length y3.2.2+List.length [(wI (y3.1+r4.1))])*8≤140737488355328∧(eS [(0,.val false [.str a0]),(1,.val false [.int .i64 a1]),(6,.val false [.lst (.int .i64) [] none]),(7,.val false [.lst (.int .i64) r2.1.1 none]),(8,.val false [.int .i64 r2.1.2])] [(0,.val false [.str a0]),(1,.val false [.int .i64 a1]),(6,.val false [.lst (.int .i64) [] none]),(7,.val false [.lst (.int .i64) r2.1.1 none]),(8,.val false [.int .i64 r2.1.2])]∧(vsI a0 a1 (wI (y3.1+r4.1)) (wI (y3.2.1+(1:Int))) (y3.2.2++[(wI (y3.1+r4.1))]))∧(vsM a0 a1 (wI (y3.1+r4.1)) (wI (y3.2.1+(1:Int))) (y3.2.2++[(wI (y3.1+r4.1))]))<(vsM a0 a1 y3.1 y3.2.1 y3.2.2))))))))) (True∧∀r6,(Eq r6 ((X0i y3.2.2),((),())))→(0≤r2.1.2∧(r2.1.2≤(ln a0)∧(X02 (!(r6.1==(List.take (tN r2.1.2) a0))) (Eq ((([]:(List Int)),0),((),())) ((X39 a0 a1),((),()))) (Eq ((y3.2.2,r2.1.2),((),())) ((X39 a0 a1),((),()))))))))))))))
def X14.L(a0:U5q)(a1:Int):Nat→Option X0c:=fun p=>Go.Proofs.YtcfaphojdacmbaaGreatR.Bv.look p [(2042,{kp:={hold:=[0,1,6,7,8],slots:=[9,10,11],boxes:=[],rows:=[{bx:=false,s:=9,i:=0,k:=1001155,e:=3,hot:=true}]},T:=(.pair (.int .i64) (.pair (.int .i64) Xc8)),I:=fun st y=>vsI a0 a1 y.1 y.2.1 y.2.2,μ:=fun st y=>vsM a0 a1 y.1 y.2.1 y.2.2})]
theorem X14.pure(a0:U5q)(a1:Int)(h:(pRd a0 a1))(hw:Wf X4M.A (a0,a1)):X14.F a0 a1:=by
 delta X14.F ln tN wI eS
 simp only[Bs,B0,B1,Prod.mk.injEq,X01]
 have hp:a0.length≤9223372036854775807:=h
 refine⟨fun h1=>X9a fun l hl=>(by rw[RV.len hl]at h1;cases h1),fun h1=>?_⟩
 rw[X0A]at h1
 refine⟨⟨hp,by omega,by omega⟩,fun h2=>X9a fun l hl=>RV.pos hl h2,fun h2=>?_⟩
 obtain⟨k1,k2,k3,k4⟩:=Xlf (by omega) h2
 refine⟨⟨by omega,by omega,rfl,by omega,rfl,fun l hl=>by simp⟩,fun y hI=>?_⟩
 obtain⟨last,i,out⟩:=y
 simp only at hI ⊢
 have g1:=hI.1
 have g2:=hI.2.2.1
 have g3:=hI.2.2.2.1
 have g5:=hI.2.1
 have e1:IntKind.wrap .i64 (i+1)=i+1:=w64 (by omega) (by omega)
 refine⟨fun hi=>⟨by omega,by omega,?_⟩,fun hi=>⟨by omega,k4,Xra hI hi k3 k4⟩⟩
 have ku:=XkU ((X0y a0 a1).1.getD i.toNat 0)
 have hx:=Xqq hI hi
 rw[e1,w64 (x:=last+XkE ((X0y a0 a1).1.getD i.toNat 0)) (by omega) (by omega)]
 exact⟨Xqc hI hi hx,fun h4=>⟨by omega,by omega,XpA hI hi hx h4,by unfold vsM;omega⟩⟩
theorem X14.eq:EqS X4M Tryz.f201 [138,3] [X21.e,X0M.e,X2a.e,X4a.e] [] (fun i x=>X14.L x.1 x.2) (fun i x=>X14.F x.1 x.2):=by intro i x;kernel_rfl
theorem X14.ok:X0n Tryz.prog 201 X4M:=X2j X14.eq Tryz.func201 rfl (by kernel_rfl) fun i x h hi hw=>X14.pure x.1 x.2 h hw
def X14.e:GE:=⟨201,X4M,⟨_,Tryz.func201,rfl,rfl⟩,X14.ok⟩
def dT(l:List Int)(j:Nat):Int:=if j=0 then l.getD 0 0 else l.getD j 0 - l.getD (j - 1) 0
def laT(l:List Int)(j:Nat):Int:=if j=0 then 0 else l.getD (j - 1) 0
def riI(s:List UInt8)(n step last i:Int)(rest:List UInt8)(ok:Bool)(out:List Int):Prop:=(0≤i∧i≤n∧n≤60∧(out.length:Int)=i)∧(-(1125899906842624*i)≤step∧step≤1125899906842624*i∧-(70000000000000000*i)≤last∧last≤70000000000000000*i)∧∀l,RT s n l→ok=true∧rest=s.drop (cat (tmW l) i.toNat).length∧out=l.take i.toNat∧last=laT l i.toNat∧(1≤i→step=dT l (i.toNat - 1))
def riM(s:List UInt8)(n step last i:Int)(rest:List UInt8)(ok:Bool)(out:List Int):Nat:=(n - i).toNat
def viI(s:List UInt8)(n last i:Int)(rest:List UInt8)(ok:Bool)(out:List Int):Prop:=(0≤i∧i≤n∧n≤60∧(out.length:Int)=i)∧(-(70000000000000000*i)≤last∧last≤70000000000000000*i)∧∀l,RV s n l→ok=true∧rest=s.drop (cat (vlW l) i.toNat).length∧out=l.take i.toNat∧last=laT l i.toNat
def viM(s:List UInt8)(n last i:Int)(rest:List UInt8)(ok:Bool)(out:List Int):Nat:=(n - i).toNat
theorem Xoe{W:Nat→Int}{n i:Nat}{s:List UInt8}(hw:∀j,j<n→X4d (W j))(hs:s.take (cat W n).length=cat W n)(hi:i<n):X4p (s.drop (cat W i).length,true)=(W i,(s.drop (cat W (i+1)).length,true)):=by
 obtain⟨h1,h2⟩:=Xja hw hs hi
 have hp:=X7j (hw i hi)
 unfold X4p
 simp only
 rw[h1]
 simp only
 rw[if_pos ⟨trivial,by omega⟩,Int.toNat_natCast,h2]
theorem XnX{W:Nat→Int}{n i:Nat}{s:List UInt8}{d:Int}(hw:∀j,j<n→X4d (W j))(hs:s.take (cat W n).length=cat W n)(hi:i<n)(hd:fIn d (-140737488355328) 140737488355328=true)(he:W i=XbO d):XcK (s.drop (cat W i).length,true)=(d,(s.drop (cat W (i+1)).length,true)):=by
 unfold XcK
 rw[Xoe hw hs hi]
 simp only
 rw[he,Xd3 hd]
 rfl
theorem Xl0{s:List UInt8}{n step last i step':Int}{rest:List UInt8}{ok:Bool}{out:List Int}{r:Rd}(hI:riI s n step last i rest ok out)(hi:i<n)(hb:-(1125899906842624*(i+1))≤step'∧step'≤1125899906842624*(i+1))(hs:∀l,RT s n l→ok=true→rest=s.drop (cat (tmW l) i.toNat).length→(1≤i→step=dT l (i.toNat - 1))→step'=dT l i.toNat∧r=(s.drop (cat (tmW l) (i.toNat+1)).length,true)):riI s n step' (last+step') (i+1) r.1 r.2 (out++[last+step']):=by
 obtain⟨⟨h1,h2,h3,h4⟩,⟨h5,h6,h7,h8⟩,h9⟩:=hI
 refine⟨⟨by omega,by omega,h3,by simp;omega⟩,⟨by omega,by omega,by omega,by omega⟩,fun l hl=>?_⟩
 obtain⟨k1,k2,k3,k4,k5⟩:=h9 l hl
 obtain⟨j1,j2⟩:=hs l hl k1 k2 k5
 have hll:=hl.1
 have e:(i+1).toNat=i.toNat+1:=by omega
 have hx:last+step'=l.getD i.toNat 0:=by
  rw[k4,j1];unfold laT dT
  split
  · rename_i h0;rw[h0];omega
  · omega
 rw[e,j2]
 refine⟨rfl,rfl,by rw[k3,hx,X8A (by omega)],by rw[hx];rfl,fun _=>j1⟩
theorem XpX{s:List UInt8}{n step i:Int}{rest:List UInt8}{ok:Bool}(h0:0≤i)(hi:i<n)(h2:i<2):∀l,RT s n l→ok=true→rest=s.drop (cat (tmW l) i.toNat).length→(1≤i→step=dT l (i.toNat - 1))→(X4p (rest,ok)).1=dT l i.toNat∧(X4p (rest,ok)).2=(s.drop (cat (tmW l) (i.toNat+1)).length,true):=fun l hl k1 k2 _=>by
 have hll:=hl.1
 rw[k1,k2,Xoe (Xaf l hl.2.1) hl.2.2 (by omega)]
 refine⟨?_,rfl⟩
 show tmW l i.toNat=dT l i.toNat
 unfold tmW dT
 split
 · rfl
 · rw[if_pos (by omega),show i.toNat=1 by omega]
theorem Xrg{s:List UInt8}{n step i:Int}{rest:List UInt8}{ok:Bool}(hi:i<n)(h2:¬i<2):∀l,RT s n l→ok=true→rest=s.drop (cat (tmW l) i.toNat).length→(1≤i→step=dT l (i.toNat - 1))→step+(XcK (rest,ok)).1=dT l i.toNat∧(XcK (rest,ok)).2=(s.drop (cat (tmW l) (i.toNat+1)).length,true):=fun l hl k1 k2 k3=>by
 have hll:=hl.1
 rw[k1,k2,XnX (Xaf l hl.2.1) hl.2.2 (by omega) (Xmm hl.2.1 (i:=i.toNat) (by omega) (by omega)) (by unfold tmW;rw[if_neg (by omega),if_neg (by omega)])]
 refine⟨?_,rfl⟩
 rw[k3 (by omega)]
 unfold dT
 rw[if_neg (by omega),if_neg (by omega),show i.toNat - 1 - 1=i.toNat - 2 by omega]
 simp only;omega
theorem Xp0{s:List UInt8}{n last i:Int}{rest:List UInt8}{ok:Bool}{out:List Int}(hI:viI s n last i rest ok out)(hi:i<n):viI s n (last+(XcK (rest,ok)).1) (i+1) (XcK (rest,ok)).2.1 (XcK (rest,ok)).2.2 (out++[last+(XcK (rest,ok)).1]):=by
 obtain⟨⟨h1,h2,h3,h4⟩,⟨h7,h8⟩,h9⟩:=hI
 have hz:=XlA (rest,ok)
 refine⟨⟨by omega,by omega,h3,by simp;omega⟩,⟨by omega,by omega⟩,fun l hl=>?_⟩
 obtain⟨k1,k2,k3,k4⟩:=h9 l hl
 have hll:=hl.1
 have e:(i+1).toNat=i.toNat+1:=by omega
 rw[k1,k2,XnX (Xbm l hl.2.1) hl.2.2 (by omega) (XlV hl.2.1 (i:=i.toNat) (by omega)) rfl]
 have hx:last+(l.getD i.toNat 0 - (if i.toNat=0 then 0 else l.getD (i.toNat - 1) 0))=l.getD i.toNat 0:=by
  rw[k4];unfold laT
  split<;>omega
 simp only
 rw[hx,e]
 exact⟨trivial,rfl,by rw[k3,X8A (by omega)],rfl⟩
theorem XiP{s t:List UInt8}(h:X6t s t=true):s.take t.length=t:=by simpa [X6t] using h
theorem Xrm{s:List UInt8}{n step last i:Int}{rest:List UInt8}{ok:Bool}{out:List Int}(hI:riI s n step last i rest ok out)(hi:¬i<n):(ok=false→([],0)=X33 s n)∧(ok=true→((X6j s (X0l out)).2=false→([],0)=X33 s n)∧((X6j s (X0l out)).2=true→(out,(X6j s (X0l out)).1)=X33 s n)):=by
 obtain⟨⟨h1,h2,h3,h4⟩,_,h9⟩:=hI
 refine⟨fun h=>X8U fun l hl=>?_,fun h=>⟨fun h5=>X8U fun l hl=>?_,fun h5=>?_⟩⟩
 · rw[(h9 l hl).1]at h;cases h
 · have hll:=hl.1
   have e:out=l:=by rw[(h9 l hl).2.2.1,show i.toNat=l.length by omega,List.take_length]
   have hp:0<(cat (tmW l) l.length).length:=Xat (Xaf l hl.2.1 0 (by have:=(X4b.1 hl.2.1).1;omega)) _ (by have:=(X4b.1 hl.2.1).1;omega)
   rw[e]at h5
   simp only[X6j,Bool.and_eq_false_iff,decide_eq_false_iff_not,X6t,beq_eq_false_iff_ne,ne_eq,Decidable.not_not,X6K hl.2.1]at h5
   rcases h5 with h5 | h5
   · rw[h5]at hp;simp at hp
   · exact h5 hl.2.2
 · simp only[X6j,Bool.and_eq_true,decide_eq_true_eq,ne_eq]at h5
   have hr:X8r out=true:=by
    by_cases hr:X8r out=true
    · exact hr
    · exact absurd (by unfold X0l;rw[if_neg hr]) h5.1
   have hR:RT s n out:=⟨by omega,hr,by have:=XiP h5.2;rw[X6K hr]at this;exact this⟩
   rw[Xbb hR]
   simp only[X6j,X6K hr]
theorem XqS{s:List UInt8}{n last i:Int}{rest:List UInt8}{ok:Bool}{out:List Int}(hI:viI s n last i rest ok out)(hi:¬i<n):(ok=false→([],0)=X39 s n)∧(ok=true→((X6j s (X0i out)).2=false→([],0)=X39 s n)∧((X6j s (X0i out)).2=true→(out,(X6j s (X0i out)).1)=X39 s n)):=by
 obtain⟨⟨h1,h2,h3,h4⟩,_,h9⟩:=hI
 refine⟨fun h=>X9a fun l hl=>?_,fun h=>⟨fun h5=>X9a fun l hl=>?_,fun h5=>?_⟩⟩
 · rw[(h9 l hl).1]at h;cases h
 · have hll:=hl.1
   have e:out=l:=by rw[(h9 l hl).2.2.1,show i.toNat=l.length by omega,List.take_length]
   have hp:0<(cat (vlW l) l.length).length:=Xat (Xbm l hl.2.1 0 (by have:=(X4r.1 hl.2.1).1;omega)) _ (by have:=(X4r.1 hl.2.1).1;omega)
   rw[e]at h5
   simp only[X6j,Bool.and_eq_false_iff,decide_eq_false_iff_not,X6t,beq_eq_false_iff_ne,ne_eq,Decidable.not_not,X6F hl.2.1]at h5
   rcases h5 with h5 | h5
   · rw[h5]at hp;simp at hp
   · exact h5 hl.2.2
 · simp only[X6j,Bool.and_eq_true,decide_eq_true_eq,ne_eq]at h5
   have hr:X8F out=true:=by
    by_cases hr:X8F out=true
    · exact hr
    · exact absurd (by unfold X0i;rw[if_neg hr]) h5.1
   have hR:RV s n out:=⟨by omega,hr,by have:=XiP h5.2;rw[X6F hr]at this;exact this⟩
   rw[Xbg hR]
   simp only[X6j,X6F hr]
def X5a:Con:={A:=XkI,shA:=[.one,.one],R:=(.pair Xc8 (.int .i64)),shR:=[(false,1),(false,1)],fresh:=[(0,3)],pre:=fun _ _=>True,f:=some fun _ a=>((X33 a.1 a.2),((),()))}
def X1w.F(a0:U5q)(a1:Int):Prop:=(True∧∀r1,(Eq r1 ((fIn a1 1 60),((),())))→(X02 (!r1.1) (Eq ((([]:(List Int)),0),((),())) ((X33 a0 a1),((),()))) (eS [(0,.val false [.str a0]),(6,.box 19 0),(20,.val false [.int .i64 a1])] [(0,.val false [.str a0]),(6,.box 19 0),(20,.val false [.int .i64 a1])]∧((riI a0 a1 0 0 0 a0 true ([]:List Int))∧∀(y2:(Int×(Int×(Int×(U5q×(Bool×(List Int))))))),(riI a0 a1 y2.1 y2.2.1 y2.2.2.1 y2.2.2.2.1 y2.2.2.2.2.1 y2.2.2.2.2.2)→(X02 (decide (y2.2.2.1<a1)) (X02 (decide (y2.2.2.1<(2:Int))) (True∧∀r3,(Eq r3 ((X4p (y2.2.2.2.1,y2.2.2.2.2.1)).1,((X4p (y2.2.2.2.1,y2.2.2.2.2.1)).2,())))→(List.length y2.2.2.2.2.2+List.length [(wI (y2.2.1+r3.1))]≤9223372036854775807∧((List.length y2.2.2.2.2.2+List.length [(wI (y2.2.1+r3.1))])*8≤140737488355328∧(eS [(0,.val false [.str a0]),(6,.box 19 0),(20,.val false [.int .i64 a1])] [(0,.val false [.str a0]),(6,.box 19 0),(20,.val false [.int .i64 a1])]∧(riI a0 a1 r3.1 (wI (y2.2.1+r3.1)) (wI (y2.2.2.1+(1:Int))) r3.2.1.1 r3.2.1.2 (y2.2.2.2.2.2++[(wI (y2.2.1+r3.1))]))∧(riM a0 a1 r3.1 (wI (y2.2.1+r3.1)) (wI (y2.2.2.1+(1:Int))) r3.2.1.1 r3.2.1.2 (y2.2.2.2.2.2++[(wI (y2.2.1+r3.1))]))<(riM a0 a1 y2.1 y2.2.1 y2.2.2.1 y2.2.2.2.1 y2.2.2.2.2.1 y2.2.2.2.2.2))))) (True∧∀r4,(Eq r4 ((XcK (y2.2.2.2.1,y2.2.2.2.2.1)).1,((XcK (y2.2.2.2.1,y2.2.2.2.2.1)).2,())))→(List.length y2.2.2.2.2.2+List.length [(wI (y2.2.1+(wI (y2.1+r4.1))))]≤9223372036854775807∧((List.length y2.2.2.2.2.2+List.length [(wI (y2.2.1+(wI (y2.1+r4.1))))])*8≤140737488355328∧(eS [(0,.val false [.str a0]),(6,.box 19 0),(20,.val false [.int .i64 a1])] [(0,.val false [.str a0]),(6,.box 19 0),(20,.val false [.int .i64 a1])]∧(riI a0 a1 (wI (y2.1+r4.1)) (wI (y2.2.1+(wI (y2.1+r4.1)))) (wI (y2.2.2.1+(1:Int))) r4.2.1.1 r4.2.1.2 (y2.2.2.2.2.2++[(wI (y2.2.1+(wI (y2.1+r4.1))))]))∧(riM a0 a1 (wI (y2.1+r4.1)) (wI (y2.2.1+(wI (y2.1+r4.1)))) (wI (y2.2.2.1+(1:Int))) r4.2.1.1 r4.2.1.2 (y2.2.2.2.2.2++[(wI (y2.2.1+(wI (y2.1+r4.1))))]))<(riM a0 a1 y2.1 y2.2.1 y2.2.2.1 y2.2.2.2.1 y2.2.2.2.2.1 y2.2.2.2.2.2)))))) ((Xe2 y2.2.2.2.2.2)∧∀r5,(Eq r5 ((X0l y2.2.2.2.2.2),((),())))→(True∧∀r6,(Eq r6 ((X6j a0 r5.1),((),())))→(X02 (!y2.2.2.2.2.1) (Eq ((([]:(List Int)),0),((),())) ((X33 a0 a1),((),()))) (X02 (!r6.1.2) (Eq ((([]:(List Int)),0),((),())) ((X33 a0 a1),((),()))) (Eq ((y2.2.2.2.2.2,r6.1.1),((),())) ((X33 a0 a1),((),()))))))))))))
def X1w.L(a0:U5q)(a1:Int):Nat→Option X0c:=fun p=>Go.Proofs.YtcfaphojdacmbaaGreatR.Bv.look p [(1018,{kp:={hold:=[0,6,20],slots:=[7,8,9,21],boxes:=[19],rows:=[{bx:=false,s:=7,i:=0,k:=1000899,e:=3,hot:=true}]},T:=(.pair (.int .i64) (.pair (.int .i64) (.pair (.int .i64) (.pair .str (.pair .bool Xc8))))),I:=fun st y=>riI a0 a1 y.1 y.2.1 y.2.2.1 y.2.2.2.1 y.2.2.2.2.1 y.2.2.2.2.2,μ:=fun st y=>riM a0 a1 y.1 y.2.1 y.2.2.1 y.2.2.2.1 y.2.2.2.2.1 y.2.2.2.2.2})]
theorem X1w.pure(a0:U5q)(a1:Int)(h:True)(hw:Wf X5a.A (a0,a1)):X1w.F a0 a1:=by
 delta X1w.F wI eS
 simp only[Bs,B0,B1,Prod.mk.injEq,X01]
 refine⟨fun h1=>X8U fun l hl=>(by rw[RT.len hl]at h1;cases h1),fun h1=>?_⟩
 rw[X0A]at h1
 refine⟨⟨⟨by omega,by omega,by omega,rfl⟩,⟨by omega,by omega,by omega,by omega⟩,fun l hl=>⟨rfl,by simp[cat],by simp,rfl,fun h=>by omega⟩⟩,fun y hI=>?_⟩
 obtain⟨step,last,i,rest,ok,out⟩:=y
 simp only at hI ⊢
 have g1:=hI.1
 have g2:=hI.2.1
 have e1:IntKind.wrap .i64 (i+1)=i+1:=w64 (by omega) (by omega)
 refine⟨fun hi=>⟨fun h2=>?_,fun h2=>?_⟩,fun hi=>⟨by unfold Xe2;omega,Xrm hI hi⟩⟩
 · have hn:=Xji (rest,ok)
   rw[e1,w64 (x:=last+(X4p (rest,ok)).1) (by omega) (by omega)]
   exact⟨by omega,by omega,Xl0 hI hi (by omega) (XpX (by omega) hi h2),by unfold riM;omega⟩
 · have hn:=XlA (rest,ok)
   rw[e1,w64 (x:=step+(XcK (rest,ok)).1) (by omega) (by omega),w64 (x:=last+(step+(XcK (rest,ok)).1)) (by omega) (by omega)]
   exact⟨by omega,by omega,Xl0 hI hi (by omega) (Xrg hi h2),by unfold riM;omega⟩
theorem X1w.eq:EqS X5a Tryz.f210 [138,3] [X2v.e,X1B.e,X1a.e,X34.e,X3A.e] [] (fun i x=>X1w.L x.1 x.2) (fun i x=>X1w.F x.1 x.2):=by intro i x;kernel_rfl
theorem X1w.ok:X0n Tryz.prog 210 X5a:=X2j X1w.eq Tryz.func210 rfl (by kernel_rfl) fun i x h hi hw=>X1w.pure x.1 x.2 h hw
def X1w.e:GE:=⟨210,X5a,⟨_,Tryz.func210,rfl,rfl⟩,X1w.ok⟩
def X4U:Con:={A:=XkI,shA:=[.one,.one],R:=(.pair Xc8 (.int .i64)),shR:=[(false,1),(false,1)],fresh:=[(0,3)],pre:=fun _ _=>True,f:=some fun _ a=>((X39 a.1 a.2),((),()))}
def X17.F(a0:U5q)(a1:Int):Prop:=(True∧∀r1,(Eq r1 ((fIn a1 1 60),((),())))→(X02 (!r1.1) (Eq ((([]:(List Int)),0),((),())) ((X39 a0 a1),((),()))) (eS [(0,.val false [.str a0]),(6,.box 17 0),(18,.val false [.int .i64 a1])] [(0,.val false [.str a0]),(6,.box 17 0),(18,.val false [.int .i64 a1])]∧((viI a0 a1 0 0 a0 true ([]:List Int))∧∀(y2:(Int×(Int×(U5q×(Bool×(List Int)))))),(viI a0 a1 y2.1 y2.2.1 y2.2.2.1 y2.2.2.2.1 y2.2.2.2.2)→(X02 (decide (y2.2.1<a1)) (True∧∀r3,(Eq r3 ((XcK (y2.2.2.1,y2.2.2.2.1)).1,((XcK (y2.2.2.1,y2.2.2.2.1)).2,())))→(List.length y2.2.2.2.2+List.length [(wI (y2.1+r3.1))]≤9223372036854775807∧((List.length y2.2.2.2.2+List.length [(wI (y2.1+r3.1))])*8≤140737488355328∧(eS [(0,.val false [.str a0]),(6,.box 17 0),(18,.val false [.int .i64 a1])] [(0,.val false [.str a0]),(6,.box 17 0),(18,.val false [.int .i64 a1])]∧(viI a0 a1 (wI (y2.1+r3.1)) (wI (y2.2.1+(1:Int))) r3.2.1.1 r3.2.1.2 (y2.2.2.2.2++[(wI (y2.1+r3.1))]))∧(viM a0 a1 (wI (y2.1+r3.1)) (wI (y2.2.1+(1:Int))) r3.2.1.1 r3.2.1.2 (y2.2.2.2.2++[(wI (y2.1+r3.1))]))<(viM a0 a1 y2.1 y2.2.1 y2.2.2.1 y2.2.2.2.1 y2.2.2.2.2))))) ((Xe2 y2.2.2.2.2)∧∀r4,(Eq r4 ((X0i y2.2.2.2.2),((),())))→(True∧∀r5,(Eq r5 ((X6j a0 r4.1),((),())))→(X02 (!y2.2.2.2.1) (Eq ((([]:(List Int)),0),((),())) ((X39 a0 a1),((),()))) (X02 (!r5.1.2) (Eq ((([]:(List Int)),0),((),())) ((X39 a0 a1),((),()))) (Eq ((y2.2.2.2.2,r5.1.1),((),())) ((X39 a0 a1),((),()))))))))))))
def X17.L(a0:U5q)(a1:Int):Nat→Option X0c:=fun p=>Go.Proofs.YtcfaphojdacmbaaGreatR.Bv.look p [(506,{kp:={hold:=[0,6,18],slots:=[7,8,19],boxes:=[17],rows:=[{bx:=false,s:=7,i:=0,k:=1000899,e:=3,hot:=true}]},T:=(.pair (.int .i64) (.pair (.int .i64) (.pair .str (.pair .bool Xc8)))),I:=fun st y=>viI a0 a1 y.1 y.2.1 y.2.2.1 y.2.2.2.1 y.2.2.2.2,μ:=fun st y=>viM a0 a1 y.1 y.2.1 y.2.2.1 y.2.2.2.1 y.2.2.2.2})]
theorem X17.pure(a0:U5q)(a1:Int)(h:True)(hw:Wf X4U.A (a0,a1)):X17.F a0 a1:=by
 delta X17.F wI eS
 simp only[Bs,B0,B1,Prod.mk.injEq,X01]
 refine⟨fun h1=>X9a fun l hl=>(by rw[RV.len hl]at h1;cases h1),fun h1=>?_⟩
 rw[X0A]at h1
 refine⟨⟨⟨by omega,by omega,by omega,rfl⟩,⟨by omega,by omega⟩,fun l hl=>⟨rfl,by simp[cat],by simp,rfl⟩⟩,fun y hI=>?_⟩
 obtain⟨last,i,rest,ok,out⟩:=y
 simp only at hI ⊢
 have g1:=hI.1
 have g2:=hI.2.1
 have e1:IntKind.wrap .i64 (i+1)=i+1:=w64 (by omega) (by omega)
 refine⟨fun hi=>?_,fun hi=>⟨by unfold Xe2;omega,XqS hI hi⟩⟩
 have hn:=XlA (rest,ok)
 rw[e1,w64 (x:=last+(XcK (rest,ok)).1) (by omega) (by omega)]
 exact⟨by omega,by omega,Xp0 hI hi,by unfold viM;omega⟩
theorem X17.eq:EqS X4U Tryz.f211 [138,3] [X1B.e,X0Q.e,X34.e,X3A.e] [] (fun i x=>X17.L x.1 x.2) (fun i x=>X17.F x.1 x.2):=by intro i x;kernel_rfl
theorem X17.ok:X0n Tryz.prog 211 X4U:=X2j X17.eq Tryz.func211 rfl (by kernel_rfl) fun i x h hi hw=>X17.pure x.1 x.2 h hw
def X17.e:GE:=⟨211,X4U,⟨_,Tryz.func211,rfl,rfl⟩,X17.ok⟩
end Go.Proofs.YtcfaphojdacmbaaGreatR.B
