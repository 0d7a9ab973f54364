/- Times and values:read. -/
import Derived.Test.YtcfaphojdacmbaaGreatRCBits
import Derived.Test.YtcfaphojdacmbaaGreatRCRead
import Derived.Test.YtcfaphojdacmbaaGreatRCVr
set_option maxRecDepth 100000
set_option linter.unusedVariables false
set_option linter.unusedSimpArgs false
namespace Go.Proofs.YtcfaphojdacmbaaGreatR.B
open Go Go.Proofs.YtcfaphojdacmbaaGreatR.Bv
abbrev Rd:=List UInt8×Bool
def X4s(i:Rd):Int×Rd:=if i.2=true∧(X0f i.1).2>0 then((X0f i.1).1,(i.1.drop (X0f i.1).2.toNat,true)) else(0,(i.1,false))
def X63:Con:={io:=true,I:=(.pair .str .bool),A:=.unit,shA:=[],R:=(.int .i64),shR:=[(false,1)],pre:=fun i _=>True,f:=some fun i a=>((X4s i).1,((X4s i).2,()))}
def X2u.F(i0:(U5q×Bool)):Prop:=(True∧∀r1,(Eq r1 ((X0f i0.1),((),())))→(X00 i0.2 (X00 (!(decide (r1.1.2>(0:Int)))) (Eq (0,((i0.1,(decide (r1.1.2>(0:Int)))),())) ((X4s i0).1,((X4s i0).2,()))) (0≤r1.1.2∧(r1.1.2≤(ln i0.1)∧(Eq (r1.1.1,(((List.drop (tN r1.1.2) i0.1),(decide (r1.1.2>(0:Int)))),())) ((X4s i0).1,((X4s i0).2,())))))) (Eq (0,((i0.1,false),())) ((X4s i0).1,((X4s i0).2,())))))
theorem X2u.pure(i0:(U5q×Bool))(h:True)(hi:Wf X63.I i0)(hw:Wf X63.A ()):X2u.F i0:=by
 delta X2u.F ln tN
 simp only[forall_eq,true_and,and_true,X01,Prod.mk.injEq,decide_eq_true_eq,decide_eq_false_iff_not,Bool.not_eq_true',Bool.not_eq_false']
 have hb:=X2V i0.1
 refine⟨fun h1=>⟨fun h2=>?_,fun h2=>⟨by omega,by omega,?_⟩⟩,fun h1=>?_⟩
 · have:¬(i0.2=true∧(X0f i0.1).2>0):=fun h=>h2 h.2
   simp only[X4s,if_neg this,decide_eq_false h2,and_self]
 · have h3:(X0f i0.1).2>0:=by
    by_cases h4:(X0f i0.1).2>0
    · exact h4
    · simp[h4]at h2
   simp only[X4s,if_pos (And.intro h1 h3),decide_eq_true h3,and_self]
 · have:¬(i0.2=true∧(X0f i0.1).2>0):=fun h=>by rw[h1]at h;cases h.1
   simp only[X4s,if_neg this,and_self]
theorem X2u.eq:EqS X63 Tryz.f54 [3] [X20.e] [] noL (fun i x=>X2u.F i):=by intro i x;kernel_rfl
theorem X2u.ok:X0n Tryz.prog 54 X63:=X2g X2u.eq Tryz.func54 rfl (by kernel_rfl) fun i x h hi hw=>X2u.pure i h (hi rfl) hw
def X2u.e:GE:=⟨54,X63,⟨_,Tryz.func54,rfl,rfl⟩,X2u.ok⟩
def Xj8(s:List UInt8):Nat→Int→List Int→List Int×Int
 | 0,p,out=>(out,p)
 | n+1,p,out=>if (X0f (s.drop p.toNat)).2=0 then(out,-1) else Xj8 s n (p+(X0f (s.drop p.toNat)).2) (out++[(X0f (s.drop p.toNat)).1])
def X0A(s:List UInt8)(n:Int):List Int×Int:=Xj8 s n.toNat 0 []
def p7(s:List UInt8)(n:Int):Prop:=s.length≤9223372036854775807∧0≤n∧n≤1000
def v7I(s:List UInt8)(n p i:Int)(out:List Int):Prop:=0≤i∧i≤n∧0≤p∧p≤s.length∧(out.length:Int)=i∧Xj8 s (n - i).toNat p out=X0A s n
def v7M(s:List UInt8)(n p i:Int)(out:List Int):Nat:=(n - i).toNat
def X7d:Con:={A:=XkW,shA:=[.one,.one],R:=(.pair XcE (.int .i64)),shR:=[(false,1),(false,1)],fresh:=[(0,3)],pre:=fun _ a=>(p7 a.1 a.2),f:=some fun _ a=>((X0A a.1 a.2),((),()))}
def X2a.F(a0:U5q)(a1:Int):Prop:=(eS [(0,.val false [.str a0]),(1,.val false [.int .i64 a1])] [(0,.val false [.str a0]),(1,.val false [.int .i64 a1])]∧((v7I a0 a1 0 0 ([]:List Int))∧∀(y1:(Int×(Int×(List Int)))),(v7I a0 a1 y1.1 y1.2.1 y1.2.2)→(X00 (decide (y1.2.1<a1)) (0≤y1.1∧(y1.1≤(ln a0)∧(True∧∀r2,(Eq r2 ((X0f (List.drop (tN y1.1) a0)),((),())))→(X00 (r2.1.2==(0:Int)) (Eq ((y1.2.2,(-1)),((),())) ((X0A a0 a1),((),()))) (List.length y1.2.2+List.length [r2.1.1]≤9223372036854775807∧((List.length y1.2.2+List.length [r2.1.1])*8≤140737488355328∧(eS [(0,.val false [.str a0]),(1,.val false [.int .i64 a1])] [(0,.val false [.str a0]),(1,.val false [.int .i64 a1])]∧(v7I a0 a1 (wI (y1.1+r2.1.2)) (wI (y1.2.1+(1:Int))) (y1.2.2++[r2.1.1]))∧(v7M a0 a1 (wI (y1.1+r2.1.2)) (wI (y1.2.1+(1:Int))) (y1.2.2++[r2.1.1]))<(v7M a0 a1 y1.1 y1.2.1 y1.2.2)))))))) (Eq ((y1.2.2,y1.1),((),())) ((X0A a0 a1),((),()))))))
def X2a.L(a0:U5q)(a1:Int):Nat→Option X0c:=fun p=>Go.Proofs.YtcfaphojdacmbaaGreatR.Bv.look p [(122,{kp:={hold:=[0,1],slots:=[6,7,8],boxes:=[],rows:=[{bx:=false,s:=6,i:=0,k:=1000771,e:=3,hot:=true}]},T:=(.pair (.int .i64) (.pair (.int .i64) XcE)),I:=fun st y=>v7I a0 a1 y.1 y.2.1 y.2.2,μ:=fun st y=>v7M a0 a1 y.1 y.2.1 y.2.2})]
theorem X2a.pure(a0:U5q)(a1:Int)(h:(p7 a0 a1))(hw:Wf X7d.A (a0,a1)):X2a.F a0 a1:=by
 delta X2a.F ln tN wI eS
 obtain⟨q1,q2,q3⟩:=h
 simp only[forall_eq,true_and,and_true,X01,Prod.mk.injEq,decide_eq_true_eq,decide_eq_false_iff_not,Bool.not_eq_true',Bool.not_eq_false']
 refine⟨⟨by omega,by omega,by omega,by omega,rfl,by simp[X0A]⟩,?_⟩
 rintro⟨p,i,out⟩ ⟨h1,h2,h3,h4,h5,h6⟩
 simp only at h1 h2 h3 h4 h5 h6 ⊢
 have hb:=X2V (a0.drop p.toNat)
 rw[List.length_drop]at hb
 refine⟨fun hi=>⟨h3,h4,fun hz=>?_,fun hz=>?_⟩,fun hi=>?_⟩
 · have e:(a1 - i).toNat=(a1 - i - 1).toNat+1:=by omega
   rw[e]at h6
   have hz':(X0f (a0.drop p.toNat)).2=0:=by simpa using hz
   rw[Xj8,if_pos hz']at h6
   exact h6
 · have hz':¬(X0f (a0.drop p.toNat)).2=0:=by simpa using hz
   have e:(a1 - i).toNat=(a1 - (i+1)).toNat+1:=by omega
   rw[e,Xj8,if_neg hz']at h6
   have e1:IntKind.wrap .i64 (i+1)=i+1:=Go.IntWalk.i64_in _ (by omega)
   have e2:IntKind.wrap .i64 (p+(X0f (a0.drop p.toNat)).2)=p+(X0f (a0.drop p.toNat)).2:=Go.IntWalk.i64_in _ (by omega)
   rw[e1,e2]
   exact⟨by simp;omega,by simp;omega,⟨by omega,by omega,by omega,by omega,by simp;omega,h6⟩,by unfold v7M;omega⟩
 · have e:(a1 - i).toNat=0:=by omega
   rw[e,Xj8]at h6
   exact h6
theorem X2a.eq:EqS X7d Tryz.f242 [138,3] [X1Q.e] [] (fun i x=>X2a.L x.1 x.2) (fun i x=>X2a.F x.1 x.2):=by intro i x;kernel_rfl
theorem X2a.ok:X0n Tryz.prog 242 X7d:=X2g X2a.eq Tryz.func242 rfl (by kernel_rfl) fun i x h hi hw=>X2a.pure x.1 x.2 h hw
def X2a.e:GE:=⟨242,X7d,⟨_,Tryz.func242,rfl,rfl⟩,X2a.ok⟩
def cat(W:Nat→Int):Nat→List UInt8
 | 0=>[]
 | i+1=>cat W i++X1K (W i)
theorem XhZ(W:Nat→Int){i:Nat}:∀{n:Nat},i<n→∃r,cat W n=cat W i++(X1K (W i)++r)
 | 0,h=>by omega
 | n+1,h=>by
   by_cases e:i=n
   · subst e;exact⟨[],by simp[cat]⟩
   · obtain⟨r,hr⟩:=XhZ W (i:=i) (n:=n) (by omega)
     exact⟨r++X1K (W n),by simp only[cat];rw[hr];simp[List.append_assoc]⟩
theorem XaE{W:Nat→Int}(h:X4e (W 0)):∀n,0<n→0<(cat W n).length
 | 1,_=>by simp only[cat,List.nil_append];exact X7n h
 | n+2,_=>by have:=XaE h (n+1) (by omega);simp only[cat,List.length_append]at this ⊢;omega
theorem Xjn{W:Nat→Int}{n i:Nat}{s:List UInt8}(hw:∀j,j<n→X4e (W j))(hs:s.take (cat W n).length=cat W n)(hi:i<n):
 X0f (s.drop (cat W i).length)=(W i,((X1K (W i)).length:Int))∧(s.drop (cat W i).length).drop (X1K (W i)).length=s.drop (cat W (i+1)).length:=by
 obtain⟨r,hr⟩:=XhZ W hi
 have e:s=cat W i++(X1K (W i)++(r++s.drop (cat W n).length)):=by
  have:=List.take_append_drop (cat W n).length s
  rw[hs]at this
  rw[hr]at this
  rw[hr]
  conv=>lhs;rw[←this]
  simp[List.append_assoc]
 refine⟨?_,?_⟩
 · have e2:s.drop (cat W i).length=X1K (W i)++(r++s.drop (cat W n).length):=by
    conv=>lhs;rw[e]
    rw[List.drop_left]
   rw[e2,XjM (hw i hi)]
 · rw[List.drop_drop]
   congr 1
   simp[cat]
def vals(W:Nat→Int)(n:Nat):List Int:=(List.range n).map W
theorem Xl9(W:Nat→Int)(n:Nat):vals W (n+1)=vals W n++[W n]:=by simp[vals,List.range_succ]
theorem XiH(W:Nat→Int)(n:Nat):(vals W n).length=n:=by simp[vals]
theorem Xn5(W:Nat→Int){n i:Nat}(h:i<n):(vals W n).getD i 0=W i:=by
 rw[X0P (by rw[XiH];exact h)];simp[vals]
theorem Xop{W:Nat→Int}{n:Nat}{s:List UInt8}(hw:∀j,j<n→X4e (W j))(hs:s.take (cat W n).length=cat W n):∀(k i:Nat),i+k=n→Xj8 s k ((cat W i).length:Int) (vals W i)=(vals W n,((cat W n).length:Int))
 | 0,i,h=>by
   have:i=n:=by omega
   subst this;rfl
 | k+1,i,h=>by
   obtain⟨h1,h2⟩:=Xjn hw hs (i:=i) (by omega)
   have hp:=X7n (hw i (by omega))
   rw[Xj8,Int.toNat_natCast,h1]
   simp only
   rw[if_neg (by omega),←Xl9,show((cat W i).length:Int)+((X1K (W i)).length:Int)=((cat W (i+1)).length:Int) by simp[cat]]
   exact Xop hw hs k (i+1) (by omega)
theorem Xhy{W:Nat→Int}{n:Nat}{s:List UInt8}(hw:∀j,j<n→X4e (W j))(hs:s.take (cat W n).length=cat W n):X0A s n=(vals W n,((cat W n).length:Int)):=by
 unfold X0A
 rw[Int.toNat_natCast]
 exact Xop hw hs n 0 (by omega)
theorem XlT{s:List UInt8}:∀(k:Nat) (p:Int) (out:List Int),0≤p→p≤s.length→(Xj8 s k p out).2<0∨∃vs:List Int,(Xj8 s k p out).1=out++vs∧vs.length=k∧(∀v∈vs,X4e v)∧(Xj8 s k p out).2=p+((enc vs).length:Int)∧(s.drop p.toNat).take (enc vs).length=enc vs
 | 0,p,out,h,h'=>.inr ⟨[],by simp[Xj8],rfl,by simp,by simp[Xj8,enc],by simp[enc]⟩
 | k+1,p,out,h,h'=>by
   rw[Xj8]
   split
   · left;exact(by decide:(-1:Int)<0)
   · rename_i h0
     obtain⟨q1,q2⟩:=XlY h0
     have hb:=X2V (s.drop p.toNat)
     rw[List.length_drop]at hb
     rcases XlT (s:=s) k (p+(X0f (s.drop p.toNat)).2) (out++[(X0f (s.drop p.toNat)).1]) (by omega) (by omega) with h1 | ⟨vs,k1,k2,k3,k4,k5⟩
     · exact .inl h1
     · right
       have hl:(X1K (X0f (s.drop p.toNat)).1).length=(X0f (s.drop p.toNat)).2.toNat:=by
        have q1':=congrArg List.length q1
        rw[List.length_take,List.length_drop]at q1'
        omega
       refine⟨(X0f (s.drop p.toNat)).1::vs,by rw[k1];simp,by simp[k2],fun v hv=>?_,?_,?_⟩
       · rcases List.mem_cons.1 hv with e | hv
         · rw[e];exact q2
         · exact k3 v hv
       · rw[k4,Xgn,List.length_append,hl];omega
       · rw[Xgn,List.length_append,List.take_add,hl,q1,List.drop_drop]
         congr 1
         rw[show p.toNat+(X0f (s.drop p.toNat)).2.toNat=(p+(X0f (s.drop p.toNat)).2).toNat by omega]
         exact k5
theorem Xk9{s:List UInt8}{n:Nat}(h:¬(X0A s n).2<0):(X0A s n).1.length=n∧(∀v∈(X0A s n).1,X4e v)∧(X0A s n).2=((enc (X0A s n).1).length:Int)∧s.take (enc (X0A s n).1).length=enc (X0A s n).1:=by
 unfold X0A at h ⊢
 rw[Int.toNat_natCast]at h ⊢
 rcases XlT (s:=s) n 0 [] (by omega) (by omega) with h1 | ⟨vs,k1,k2,k3,k4,k5⟩
 · exact absurd h1 h
 · rw[List.nil_append]at k1
   rw[k1]
   refine⟨k2,k3,by rw[k4];omega,?_⟩
   simpa using k5
def X3M(z:Int):Int×Bool:=if fIn z 0 281474976710656 then((if z % 2=1 then -(z+1) / 2 else z / 2),true) else(0,false)
theorem Xe3{d:Int}(h:fIn d (-140737488355328) 140737488355328=true):X3M (Xc2 d)=(d,true):=by
 rw[X0C]at h
 unfold Xc2
 rw[if_pos (X0C.2 h)]
 unfold X3M
 split
 · rw[if_pos (X0C.2 (by omega)),if_pos (by omega)]
   simp only[Prod.mk.injEq,and_true];omega
 · rw[if_pos (X0C.2 (by omega)),if_neg (by omega)]
   simp only[Prod.mk.injEq,and_true];omega
theorem Xle{d:Int}(h:fIn d (-140737488355328) 140737488355328=true):X4e (Xc2 d):=by
 rw[X0C]at h
 unfold Xc2 X4e
 rw[if_pos (X0C.2 h)]
 split<;>omega
theorem Xhr(z:Int):-140737488355329≤(X3M z).1∧(X3M z).1≤140737488355328:=by
 unfold X3M
 split
 · rename_i h;rw[X0C]at h;simp only;split<;>omega
 · simp
def XcK(i:Rd):Int×Rd:=((X3M (X4s i).1).1,((X4s i).2.1,(X4s i).2.2&&(X3M (X4s i).1).2))
theorem Xjw(i:Rd):0≤(X4s i).1∧(X4s i).1≤562949953421311:=by
 have:=X2V i.1
 unfold X4s;split<;>simp<;>omega
def X6t(s t:List UInt8):Bool:=s.take t.length==t
def X6l(s t:List UInt8):Int×Bool:=((t.length:Int),decide (t≠[])&&X6t s t)
def XkN(z:Int):Int:=(X3M z).1
theorem XkZ(i:Rd):-140737488355329≤(XcK i).1∧(XcK i).1≤140737488355328:=Xhr _
theorem Xpb{a:Int}(h:0≤a):Int.tdiv a 2=a / 2:=Int.tdiv_eq_ediv_of_nonneg h
theorem Xqf{a:Int}(h:0≤a)(h2:a % 2=0):Int.tdiv (0 - a) 2= -a / 2:=by
 rw[Int.zero_sub,Int.neg_tdiv,Xpb h];omega
theorem XqQ{a:Int}(h:0≤a):Int.tmod a 2=a % 2:=Int.tmod_eq_emod_of_nonneg h
def X86:Con:={A:=(.int .i64),shA:=[.one],R:=(.pair (.int .i64) .bool),shR:=[(false,1),(false,1)],pre:=fun _ _=>True,f:=some fun _ a=>((X3M a),((),()))}
def X40.F(a0:Int):Prop:=(X00 (decide (a0<(0:Int))) (Eq ((0,false),((),())) ((X3M a0),((),()))) (X00 (decide (a0>(281474976710656:Int))) (Eq ((0,false),((),())) ((X3M a0),((),()))) ((2:Int)≠0∧((2:Int)≠0∧(X00 ((Int.tmod a0 (2:Int))==(1:Int)) (True∧∀r1,(Eq r1 ((Xc2 (wI ((wI (0 - (wI (Int.tdiv a0 (2:Int))))) - (1:Int)))),((),())))→(Eq (((wI ((wI (0 - (wI (Int.tdiv a0 (2:Int))))) - (1:Int))),(r1.1==a0)),((),())) ((X3M a0),((),())))) (True∧∀r2,(Eq r2 ((Xc2 (wI (Int.tdiv a0 (2:Int)))),((),())))→(Eq (((wI (Int.tdiv a0 (2:Int))),(r2.1==a0)),((),())) ((X3M a0),((),())))))))))
theorem X40.pure(a0:Int)(h:True)(hw:Wf X86.A a0):X40.F a0:=by
 delta X40.F wI
 simp only[Bs,B0,B1,Prod.mk.injEq,X01]
 refine⟨fun h1=>?_,fun h1=>⟨fun h2=>?_,fun h2=>?_⟩⟩
 · unfold X3M;rw[if_neg (by rw[X0C];omega)]
 · unfold X3M;rw[if_neg (by rw[X0C];omega)]
 rw[XqQ (by omega),Xpb (by omega),w64 (x:=a0 / 2) (by omega) (by omega),w64 (x:=0 - a0 / 2) (by omega) (by omega),w64 (x:=0 - a0 / 2 - 1) (by omega) (by omega)]
 have hp:fIn a0 0 281474976710656=true:=X0C.2 (by omega)
 refine⟨by omega,by omega,fun h3=>?_,fun h3=>?_⟩
 · unfold X3M Xc2
   rw[if_pos hp,if_pos h3,if_pos (X0C.2 (by omega)),if_pos (by omega)]
   simp;omega
 · unfold X3M Xc2
   rw[if_pos hp,if_neg h3,if_pos (X0C.2 (by omega)),if_neg (by omega)]
   simp;omega
theorem X40.eq:EqS X86 Tryz.f264 [3,4] [X2T.e] [] noL (fun i x=>X40.F x):=by intro i x;kernel_rfl
theorem X40.ok:X0n Tryz.prog 264 X86:=X2g X40.eq Tryz.func264 rfl (by kernel_rfl) fun i x h hi hw=>X40.pure x h hw
def X40.e:GE:=⟨264,X86,⟨_,Tryz.func264,rfl,rfl⟩,X40.ok⟩
def X8n:Con:={A:=(.int .i64),shA:=[.one],R:=(.pair (.int .i64) .bool),shR:=[(false,1),(false,1)],pre:=fun _ _=>True,f:=some fun _ a=>((X3M a),((),()))}
def X3U.F(a0:Int):Prop:=(True∧∀r1,(Eq r1 ((fIn a0 0 281474976710656),((),())))→(X00 (!r1.1) (Eq ((0,false),((),())) ((X3M a0),((),()))) ((2:Int)≠0∧(X00 ((Int.tmod a0 (2:Int))==(1:Int)) ((2:Int)≠0∧(Eq (((wI (Int.tdiv (wI (0 - (wI (a0+(1:Int))))) (2:Int))),true),((),())) ((X3M a0),((),())))) ((2:Int)≠0∧(Eq (((wI (Int.tdiv a0 (2:Int))),true),((),())) ((X3M a0),((),()))))))))
theorem X3U.pure(a0:Int)(h:True)(hw:Wf X8n.A a0):X3U.F a0:=by
 delta X3U.F wI
 simp only[Bs,B0,B1,Prod.mk.injEq,X01]
 refine⟨fun h1=>by simp[X3M,h1],fun h1=>?_⟩
 have hp:=X0C.1 h1
 rw[XqQ hp.1,Xpb hp.1,w64 (x:=a0 / 2) (by omega) (by omega),w64 (x:=a0+1) (by omega) (by omega),w64 (x:=0 - (a0+1)) (by omega) (by omega)]
 refine⟨by omega,fun h3=>⟨by omega,?_⟩,fun h3=>⟨by omega,?_⟩⟩
 · rw[Xqf (by omega) (by omega),w64 (by omega) (by omega)]
   simp[X3M,h1,h3]
 · simp[X3M,h1,h3]
theorem X3U.eq:EqS X8n Tryz.f265 [3,4] [X1D.e] [] noL (fun i x=>X3U.F x):=by intro i x;kernel_rfl
theorem X3U.ok:X0n Tryz.prog 265 X8n:=X2g X3U.eq Tryz.func265 rfl (by kernel_rfl) fun i x h hi hw=>X3U.pure x h hw
def X3U.e:GE:=⟨265,X8n,⟨_,Tryz.func265,rfl,rfl⟩,X3U.ok⟩
def X61:Con:={io:=true,I:=(.pair .str .bool),A:=.unit,shA:=[],R:=(.int .i64),shR:=[(false,1)],pre:=fun i _=>True,f:=some fun i a=>((XcK i).1,((XcK i).2,()))}
def X3c.F(i0:(U5q×Bool)):Prop:=(True∧∀r1,(Eq r1 ((X4s (i0.1,i0.2)).1,((X4s (i0.1,i0.2)).2,())))→(True∧∀r2,(Eq r2 ((X3M r1.1),((),())))→(X00 r1.2.1.2 (Eq (r2.1.1,((r1.2.1.1,r2.1.2),())) ((XcK i0).1,((XcK i0).2,()))) (Eq (r2.1.1,((r1.2.1.1,false),())) ((XcK i0).1,((XcK i0).2,()))))))
theorem X3c.pure(i0:(U5q×Bool))(h:True)(hi:Wf X61.I i0)(hw:Wf X61.A ()):X3c.F i0:=by
 unfold X3c.F
 simp only[Bs,B0,B1,Prod.mk.injEq,X01]
 exact⟨fun h1=>by simp[XcK,h1],fun h1=>by simp[XcK,h1]⟩
theorem X3c.eq:EqS X61 Tryz.f247 [3] [X2u.e,X3U.e] [] noL (fun i x=>X3c.F i):=by intro i x;kernel_rfl
theorem X3c.ok:X0n Tryz.prog 247 X61:=X2g X3c.eq Tryz.func247 rfl (by kernel_rfl) fun i x h hi hw=>X3c.pure i h (hi rfl) hw
def X3c.e:GE:=⟨247,X61,⟨_,Tryz.func247,rfl,rfl⟩,X3c.ok⟩
def X9g:Con:={A:=(.int .i64),shA:=[.one],R:=(.int .i64),shR:=[(false,1)],pre:=fun _ _=>True,f:=some fun _ a=>((XkN a),((),()))}
def X4f.F(a0:Int):Prop:=(True∧∀r1,(Eq r1 ((X3M a0),((),())))→(Eq (r1.1.1,((),())) ((XkN a0),((),()))))
theorem X4f.pure(a0:Int)(h:True)(hw:Wf X9g.A a0):X4f.F a0:=by
 unfold X4f.F
 simp only[Bs,B0,B1,Prod.mk.injEq,X01]
 repeat' (with_reducible (first | (refine And.intro ?_ ?_) | intro _))
 all_goals (try simp (disch:=omega) only[w64,wu8,tn0,tn1,tm1,tm2,List.length_append,List.length_cons,List.length_nil]at*)
 all_goals (try simp (disch:=omega) only[w64,wu8,tn0,tn1,tm1,tm2,List.length_append,List.length_cons,List.length_nil]at*)
 all_goals (try omega)
 all_goals (try grind[XkN])
theorem X4f.eq:EqS X9g Tryz.f243 [3] [X40.e] [] noL (fun i x=>X4f.F x):=by intro i x;kernel_rfl
theorem X4f.ok:X0n Tryz.prog 243 X9g:=X2g X4f.eq Tryz.func243 rfl (by kernel_rfl) fun i x h hi hw=>X4f.pure x h hw
def X4f.e:GE:=⟨243,X9g,⟨_,Tryz.func243,rfl,rfl⟩,X4f.ok⟩
def X1L:Con:={A:=(.pair .str .str),shA:=[.one,.one],R:=.bool,shR:=[(false,1)],pre:=fun _ _=>True,f:=some fun _ a=>((X6t a.1 a.2),((),()))}
def X0h.F(a0:U5q)(a1:U5q):Prop:=(X00 (decide ((ln a0)≥(ln a1))) (0≤(ln a1)∧((ln a1)≤(ln a0)∧(Eq (((List.take (tN (ln a1)) a0)==a1),((),())) ((X6t a0 a1),((),()))))) (Eq (false,((),())) ((X6t a0 a1),((),()))))
theorem X0h.pure(a0:U5q)(a1:U5q)(h:True)(hw:Wf X1L.A (a0,a1)):X0h.F a0 a1:=by
 delta X0h.F ln tN
 simp only[Bs,B0,B1,Prod.mk.injEq,X01]
 refine⟨fun h1=>⟨by omega,by omega,by rw[show((a1.length:Nat):Int).toNat=a1.length by omega];rfl⟩,fun h1=>?_⟩
 symm;unfold X6t;rw[beq_eq_false_iff_ne];intro e
 have:=congrArg List.length e;simp at this;omega
theorem X0h.eq:EqS X1L Tryz.f273 [4] [] [] noL (fun i x=>X0h.F x.1 x.2):=by intro i x;kernel_rfl
theorem X0h.ok:X0n Tryz.prog 273 X1L:=X2g X0h.eq Tryz.func273 rfl (by kernel_rfl) fun i x h hi hw=>X0h.pure x.1 x.2 h hw
def X0h.e:GE:=⟨273,X1L,⟨_,Tryz.func273,rfl,rfl⟩,X0h.ok⟩
def X45:Con:={A:=(.pair .str .str),shA:=[.one,.one],R:=.bool,shR:=[(false,1)],pre:=fun _ _=>True,f:=some fun _ a=>((X6t a.1 a.2),((),()))}
def X18.F(a0:U5q)(a1:U5q):Prop:=(True∧∀r1,(Eq r1 ((X6t a0 a1),((),())))→(Eq (r1.1,((),())) ((X6t a0 a1),((),()))))
theorem X18.pure(a0:U5q)(a1:U5q)(h:True)(hw:Wf X45.A (a0,a1)):X18.F a0 a1:=by
 unfold X18.F
 simp only[Bs,B0,B1,Prod.mk.injEq,X01]
 repeat' (with_reducible (first | (refine And.intro ?_ ?_) | intro _))
 all_goals (try simp (disch:=omega) only[w64,wu8,tn0,tn1,tm1,tm2,List.length_append,List.length_cons,List.length_nil]at*)
 all_goals (try simp (disch:=omega) only[w64,wu8,tn0,tn1,tm1,tm2,List.length_append,List.length_cons,List.length_nil]at*)
 all_goals (try omega)
 all_goals (try grind[])
theorem X18.eq:EqS X45 Tryz.f266 [4] [X0h.e] [] noL (fun i x=>X18.F x.1 x.2):=by intro i x;kernel_rfl
theorem X18.ok:X0n Tryz.prog 266 X45:=X2g X18.eq Tryz.func266 rfl (by kernel_rfl) fun i x h hi hw=>X18.pure x.1 x.2 h hw
def X18.e:GE:=⟨266,X45,⟨_,Tryz.func266,rfl,rfl⟩,X18.ok⟩
def X8p:Con:={A:=(.pair .str .str),shA:=[.one,.one],R:=(.pair (.int .i64) .bool),shR:=[(false,1),(false,1)],pre:=fun _ _=>True,f:=some fun _ a=>((X6l a.1 a.2),((),()))}
def X3z.F(a0:U5q)(a1:U5q):Prop:=(X00 (!(a1==[])) (True∧∀r1,(Eq r1 ((X6t a0 a1),((),())))→(Eq (((ln a1),r1.1),((),())) ((X6l a0 a1),((),())))) (Eq (((ln a1),false),((),())) ((X6l a0 a1),((),()))))
theorem X3z.pure(a0:U5q)(a1:U5q)(h:True)(hw:Wf X8p.A (a0,a1)):X3z.F a0 a1:=by
 delta X3z.F ln
 simp only[Bs,B0,B1,Prod.mk.injEq,X01]
 repeat' (with_reducible (first | (refine And.intro ?_ ?_) | intro _))
 all_goals (try simp (disch:=omega) only[w64,wu8,tn0,tn1,tm1,tm2,List.length_append,List.length_cons,List.length_nil]at*)
 all_goals (try simp (disch:=omega) only[w64,wu8,tn0,tn1,tm1,tm2,List.length_append,List.length_cons,List.length_nil]at*)
 all_goals (try omega)
 all_goals (try grind[X6l])
theorem X3z.eq:EqS X8p Tryz.f248 [3,4] [X18.e] [] noL (fun i x=>X3z.F x.1 x.2):=by intro i x;kernel_rfl
theorem X3z.ok:X0n Tryz.prog 248 X8p:=X2g X3z.eq Tryz.func248 rfl (by kernel_rfl) fun i x h hi hw=>X3z.pure x.1 x.2 h hw
def X3z.e:GE:=⟨248,X8p,⟨_,Tryz.func248,rfl,rfl⟩,X3z.ok⟩
theorem X8K{l:List Int}{i:Nat}(hi:i<l.length):l.take (i+1)=l.take i++[l.getD i 0]:=by
 rw[List.take_add_one,List.getD_eq_getElem?_getD,List.getElem?_eq_getElem hi];rfl
theorem X9Z{l:List Int}{i j:Nat}(h:j<i):(l.take i).getD j 0=l.getD j 0:=by
 simp[List.getD_eq_getElem?_getD,List.getElem?_take,h]
theorem Xhp{l:List Int}{i:Nat}{x:Int}(h:i=l.length):(l++[x]).getD i 0=x:=by subst h;simp[List.getD_eq_getElem?_getD]
theorem Xkg{l:List Int}{i:Nat}{x:Int}(h:i<l.length):(l++[x]).getD i 0=l.getD i 0:=by simp[List.getD_eq_getElem?_getD,List.getElem?_append_left h]
section
variable (ok:List Int→Bool) (W:List Int→Nat→Int) (nx:List Int→List Int→Nat→Int)
def RW(s:List UInt8)(n:Int)(l:List Int):Prop:=(l.length:Int)=n∧ok l=true∧s.take (cat (W l) l.length).length=cat (W l) l.length
def Xn1(v:List Int):Nat→List Int
 | 0=>[]
 | i+1=>Xn1 v i++[nx (Xn1 v i) v i]
instance (s:List UInt8) (n:Int) (l:List Int):Decidable (RW ok W s n l):=by unfold RW;infer_instance
def Xe0(s:List UInt8)(n:Int):List Int×Int:=
 if RW ok W s n (Xn1 nx (X0A s n).1 n.toNat) then(Xn1 nx (X0A s n).1 n.toNat,((cat (W (Xn1 nx (X0A s n).1 n.toNat)) (Xn1 nx (X0A s n).1 n.toNat).length).length:Int)) else([],0)
variable {ok W nx} (hW:∀l,ok l=true→∀i,i<l.length→X4e (W l i))
include hW
theorem RW.vars{s:List UInt8}{n:Int}{l:List Int}(h:RW ok W s n l):X0A s n=(vals (W l) l.length,((cat (W l) l.length).length:Int)):=by
 have e:=Xhy (W:=W l) (n:=l.length) (s:=s) (hW l h.2.1) h.2.2
 rw[h.1]at e
 exact e
theorem RW.at{s:List UInt8}{n:Int}{l:List Int}(h:RW ok W s n l){i:Nat}(hi:i<l.length):(X0A s n).1.getD i 0=W l i:=by
 rw[RW.vars hW h];exact Xn5 _ hi
variable (hn:∀l,ok l=true→∀(v:List Int) i,i<l.length→v.getD i 0=W l i→nx (l.take i) v i=l.getD i 0)
include hn
theorem RW.dec{s:List UInt8}{n:Int}{l:List Int}(h:RW ok W s n l):∀i,i≤l.length→Xn1 nx (X0A s n).1 i=l.take i
 | 0,_=>by simp[Xn1]
 | i+1,hi=>by
   rw[Xn1,RW.dec h i (by omega),X8K (by omega),hn l h.2.1 _ i (by omega) (RW.at hW h (by omega))]
theorem RW.yes{s:List UInt8}{n:Int}{l:List Int}(h:RW ok W s n l):Xe0 ok W nx s n=(l,((cat (W l) l.length).length:Int)):=by
 have e:Xn1 nx (X0A s n).1 n.toNat=l:=by rw[RW.dec hW hn h _ (by have:=h.1;omega),show n.toNat=l.length by have:=h.1;omega,List.take_length]
 unfold Xe0
 rw[e,if_pos h]
theorem RW.get{s:List UInt8}{n:Int}(h0:ok []=false):Xe0 ok W nx s n=([],0)∧(∀l,¬RW ok W s n l)∨∃l,RW ok W s n l∧Xe0 ok W nx s n=(l,((cat (W l) l.length).length:Int)):=by
 by_cases h:∃l,RW ok W s n l
 · obtain⟨l,h⟩:=h
   exact .inr ⟨l,h,RW.yes hW hn h⟩
 · refine .inl ⟨?_,fun l hl=>h ⟨l,hl⟩⟩
   unfold Xe0
   rw[if_neg fun hl=>h ⟨_,hl⟩]
end
def tmW(l:List Int)(i:Nat):Int:=if i=0 then l.getD 0 0 else if i=1 then l.getD 1 0 - l.getD 0 0 else Xc2 (l.getD i 0 - l.getD (i - 1) 0 - (l.getD (i - 1) 0 - l.getD (i - 2) 0))
def vlW(l:List Int)(i:Nat):Int:=Xc2 (l.getD i 0 - (if i=0 then 0 else l.getD (i - 1) 0))
theorem XoG(l:List Int):∀i,tmS l i=cat (tmW l) i
 | 0=>rfl
 | i+1=>by
   rw[XjB,XoG l i,cat]
   congr 1
   unfold XaN tmW
   split
   · rfl
   · split<;>rfl
theorem XoQ(l:List Int):∀i,vlS l i=cat (vlW l) i
 | 0=>rfl
 | i+1=>by rw[Xja,XoQ l i,cat];rfl
theorem XmQ{l:List Int}(h:X8u l=true){i:Nat}(hi:i<l.length)(h2:2≤i):fIn (l.getD i 0 - l.getD (i - 1) 0 - (l.getD (i - 1) 0 - l.getD (i - 2) 0)) (-140737488355328) 140737488355328=true:=by
 have h1:=Xb5 h hi
 have h2:=Xb5 h (i:=i - 1) (by omega)
 have h3:=Xb5 h (i:=i - 2) (by omega)
 rw[X0C];omega
theorem Xau(l:List Int)(h:X8u l=true)(i:Nat)(hi:i<l.length):X4e (tmW l i):=by
 have h0:=Xb5 h (i:=0) (by omega)
 unfold tmW
 split
 · unfold X4e;omega
 · split
   · have h1:=X7q.1 ((X4d.1 h).2 1 (by omega))
     simp only[show(1:Nat) - 1=0 from rfl]at h1
     unfold X4e;omega
   · exact Xle (XmQ h hi (by omega))
theorem Xm5{l:List Int}(h:X8R l=true){i:Nat}(hi:i<l.length):fIn (l.getD i 0 - (if i=0 then 0 else l.getD (i - 1) 0)) (-140737488355328) 140737488355328=true:=by
 have h1:=Xia h hi
 rw[X0C]
 split
 · omega
 · have h2:=Xia h (i:=i - 1) (by omega)
   omega
theorem Xbs(l:List Int)(h:X8R l=true)(i:Nat)(hi:i<l.length):X4e (vlW l i):=Xle (Xm5 h hi)
def nxT(o v:List Int)(i:Nat):Int:=if i=0 then v.getD 0 0 else if i=1 then o.getD 0 0+v.getD 1 0 else o.getD (i - 1) 0+(o.getD (i - 1) 0 - o.getD (i - 2) 0+(X3M (v.getD i 0)).1)
def nxV(o v:List Int)(i:Nat):Int:=(if i=0 then 0 else o.getD (i - 1) 0)+(X3M (v.getD i 0)).1
theorem XmB(l:List Int)(h:X8u l=true)(v:List Int)(i:Nat)(hi:i<l.length)(hv:v.getD i 0=tmW l i):nxT (l.take i) v i=l.getD i 0:=by
 unfold nxT
 unfold tmW at hv
 by_cases h0:i=0
 · subst h0;simpa using hv
 rw[if_neg h0]at hv ⊢
 by_cases h1:i=1
 · subst h1
   rw[if_pos rfl]at hv
   rw[if_pos rfl,X9Z (by omega),hv];omega
 rw[if_neg h1]at hv ⊢
 rw[hv,Xe3 (XmQ h hi (by omega)),X9Z (by omega),X9Z (by omega)]
 simp only;omega
theorem Xme(l:List Int)(h:X8R l=true)(v:List Int)(i:Nat)(hi:i<l.length)(hv:v.getD i 0=vlW l i):nxV (l.take i) v i=l.getD i 0:=by
 unfold nxV
 rw[hv,vlW,Xe3 (Xm5 h hi)]
 split
 · simp
 · rw[X9Z (by omega)];simp only;omega
def X35(s:List UInt8)(n:Int):List Int×Int:=Xe0 X8u tmW nxT s n
def X3d(s:List UInt8)(n:Int):List Int×Int:=Xe0 X8R vlW nxV s n
abbrev RT:=RW X8u tmW
abbrev RV:=RW X8R vlW
theorem X6z{l:List Int}(h:X8u l=true):X0l l=cat (tmW l) l.length:=by unfold X0l;rw[if_pos h,XoG]
theorem X6E{l:List Int}(h:X8R l=true):X0i l=cat (vlW l) l.length:=by unfold X0i;rw[if_pos h,XoQ]
theorem XdW(s:List UInt8)(n:Int):X35 s n=([],0)∧(∀l,¬RT s n l)∨∃l,RT s n l∧X35 s n=(l,((cat (tmW l) l.length).length:Int)):=RW.get Xau XmB rfl
theorem Xee(s:List UInt8)(n:Int):X3d s n=([],0)∧(∀l,¬RV s n l)∨∃l,RV s n l∧X3d s n=(l,((cat (vlW l) l.length).length:Int)):=RW.get Xbs Xme rfl
theorem Xba{s:List UInt8}{n:Int}{l:List Int}(h:RT s n l):X35 s n=(l,((cat (tmW l) l.length).length:Int)):=RW.yes Xau XmB h
theorem XbC{s:List UInt8}{n:Int}{l:List Int}(h:RV s n l):X3d s n=(l,((cat (vlW l) l.length).length:Int)):=RW.yes Xbs Xme h
def pRd(s:List UInt8)(n:Int):Prop:=s.length≤9223372036854775807
theorem XlL{s:List UInt8}{n:Int}(hn:1≤n)(h:¬(X0A s n).2<0):((X0A s n).1.length:Int)=n∧(∀j:Nat,0≤(X0A s n).1.getD j 0∧(X0A s n).1.getD j 0≤562949953421311)∧0<(X0A s n).2∧(X0A s n).2≤s.length:=by
 obtain⟨k,rfl⟩:∃k:Nat,n=k:=⟨n.toNat,by omega⟩
 obtain⟨h1,h2,h3,h4⟩:=Xk9 h
 have h5:=congrArg List.length h4
 rw[List.length_take]at h5
 refine⟨by omega,fun j=>?_,?_,by omega⟩
 · by_cases hj:j<(X0A s k).1.length
   · have:=h2 _ (X0S (l:=(X0A s k).1) (d:=0) hj)
     exact this
   · rw[List.getD_eq_getElem?_getD,List.getElem?_eq_none (by omega)];simp
 · rw[h3]
   cases e:(X0A s k).1 with
   | nil=>rw[e]at h1;simp at h1;omega
   | cons v r=>
     have:=X7n (h2 v (by rw[e];simp))
     rw[Xgn,List.length_append];omega
def rsI(s:List UInt8)(n i:Int)(out:List Int):Prop:=1≤i∧i≤n∧(out.length:Int)=i∧((0≤out.getD (i.toNat - 1) 0∧out.getD (i.toNat - 1) 0≤562949953421311)∧(2≤i→0≤out.getD (i.toNat - 2) 0∧out.getD (i.toNat - 2) 0≤562949953421311))∧∀l,RT s n l→out=l.take i.toNat
def rsM(s:List UInt8)(n i:Int)(out:List Int):Nat:=(n - i).toNat
def vsI(s:List UInt8)(n last i:Int)(out:List Int):Prop:=0≤i∧i≤n∧(out.length:Int)=i∧(-1099511627776≤last∧last≤1099511627776)∧last=(if i=0 then 0 else out.getD (i.toNat - 1) 0)∧∀l,RV s n l→out=l.take i.toNat
def vsM(s:List UInt8)(n last i:Int)(out:List Int):Nat:=(n - i).toNat
theorem Xmk(z:Int):-140737488355329≤XkN z∧XkN z≤140737488355328:=Xhr z
theorem RT.val{s:List UInt8}{n:Int}{l:List Int}(h:RT s n l){i:Nat}(hi:i<l.length):(X0A s n).1.getD i 0=tmW l i:=RW.at Xau h hi
theorem RV.val{s:List UInt8}{n:Int}{l:List Int}(h:RV s n l){i:Nat}(hi:i<l.length):(X0A s n).1.getD i 0=vlW l i:=RW.at Xbs h hi
theorem rt_of{s:List UInt8}{n k:Int}{out:List Int}(h1:(out.length:Int)=n)(hk:0<k)(hk2:k≤s.length)(h:X0l out=s.take k.toNat):RT s n out∧k=((cat (tmW out) out.length).length:Int):=by
 by_cases hr:X8u out=true
 · rw[X6z hr]at h
   have h2:=congrArg List.length h
   rw[List.length_take]at h2
   refine⟨⟨h1,hr,?_⟩,by omega⟩
   rw[show(cat (tmW out) out.length).length=k.toNat by omega,←h]
 · unfold X0l at h
   rw[if_neg hr]at h
   have h2:=congrArg List.length h
   rw[List.length_take]at h2
   simp at h2;omega
theorem rv_of{s:List UInt8}{n k:Int}{out:List Int}(h1:(out.length:Int)=n)(hk:0<k)(hk2:k≤s.length)(h:X0i out=s.take k.toNat):RV s n out∧k=((cat (vlW out) out.length).length:Int):=by
 by_cases hr:X8R out=true
 · rw[X6E hr]at h
   have h2:=congrArg List.length h
   rw[List.length_take]at h2
   refine⟨⟨h1,hr,?_⟩,by omega⟩
   rw[show(cat (vlW out) out.length).length=k.toNat by omega,←h]
 · unfold X0i at h
   rw[if_neg hr]at h
   have h2:=congrArg List.length h
   rw[List.length_take]at h2
   simp at h2;omega
theorem X94{s:List UInt8}{n:Int}(h:∀l,¬RT s n l):([],0)=X35 s n:=by
 rcases XdW s n with⟨e,_⟩ | ⟨l,hl,_⟩
 · exact e.symm
 · exact absurd hl (h l)
theorem X9a{s:List UInt8}{n:Int}(h:∀l,¬RV s n l):([],0)=X3d s n:=by
 rcases Xee s n with⟨e,_⟩ | ⟨l,hl,_⟩
 · exact e.symm
 · exact absurd hl (h l)
theorem RT.len{s:List UInt8}{n:Int}{l:List Int}(h:RT s n l):fIn n 1 60=true:=by
 rw[X0C];have h1:=(X4d.1 h.2.1).1;have:=h.1;omega
theorem RV.len{s:List UInt8}{n:Int}{l:List Int}(h:RV s n l):fIn n 1 60=true:=by
 rw[X0C];have h1:=(X4w.1 h.2.1).1;have:=h.1;omega
theorem RT.pos{s:List UInt8}{n:Int}{l:List Int}(h:RT s n l):¬(X0A s n).2<0:=by
 rw[RW.vars Xau h];simp only;omega
theorem RV.pos{s:List UInt8}{n:Int}{l:List Int}(h:RV s n l):¬(X0A s n).2<0:=by
 rw[RW.vars Xbs h];simp only;omega
theorem Xnn{s:List UInt8}{n:Int}(hn:1≤n)(hv:∀j:Nat,0≤(X0A s n).1.getD j 0∧(X0A s n).1.getD j 0≤562949953421311):rsI s n 1 [(X0A s n).1.getD (Int.toNat 0) 0]:=by
 refine⟨by omega,hn,rfl,⟨hv 0,fun h=>by omega⟩,fun l hl=>?_⟩
 have h1:=hl.1
 rw[show(1:Int).toNat=0+1 from rfl,X8K (by omega),show Int.toNat 0=0 from rfl,RT.val hl (by omega)]
 rfl
theorem Xox{s:List UInt8}{n x i:Int}{out:List Int}(hI:rsI s n i out)(hi:i<n)(hx:∀l,RT s n l→x=l.getD i.toNat 0)(h:fIn x 0 1099511627776=false):([],0)=X35 s n:=by
 refine X94 fun l hl=>?_
 have h1:=hl.1
 have h2:=hI.1
 have:=Xb5 hl.2.1 (i:=i.toNat) (by omega)
 rw[hx l hl,X0C.2 this]at h;cases h
theorem XkX{s:List UInt8}{n x i:Int}{out:List Int}(hI:rsI s n i out)(hi:i<n)(hx:∀l,RT s n l→x=l.getD i.toNat 0)(h:fIn x 0 1099511627776=true):rsI s n (i+1) (out++[x]):=by
 obtain⟨h1,h2,h3,h4,h5⟩:=hI
 rw[X0C]at h
 refine⟨by omega,by omega,by simp;omega,⟨?_,fun _=>?_⟩,fun l hl=>?_⟩
 · rw[Xhp (by omega)];omega
 · rw[Xkg (by omega),show(i+1).toNat - 2=i.toNat - 1 by omega];exact h4.1
 · have:=hl.1
   rw[show(i+1).toNat=i.toNat+1 by omega,X8K (by omega),←h5 l hl,hx l hl]
theorem Xqu{s:List UInt8}{n i:Int}{out:List Int}(hI:rsI s n i out)(hi:i<n)(h0:¬i>1):∀l,RT s n l→out.getD (i.toNat - 1) 0+(X0A s n).1.getD i.toNat 0=l.getD i.toNat 0:=fun l hl=>by
 have h1:=hl.1
 have h2:=hI.1
 rw[RT.val hl (by omega),hI.2.2.2.2 l hl,show i=1 by omega,show(1:Int).toNat - 1=0 from rfl,show(1:Int).toNat=1 from rfl,X9Z (by omega)]
 unfold tmW;simp;omega
theorem Xqg{s:List UInt8}{n i:Int}{out:List Int}(hI:rsI s n i out)(hi:i<n)(h0:i>1):∀l,RT s n l→out.getD (i.toNat - 1) 0+(out.getD (i.toNat - 1) 0 - out.getD (i.toNat - 2) 0+XkN ((X0A s n).1.getD i.toNat 0))=l.getD i.toNat 0:=fun l hl=>by
 have h1:=hl.1
 have h2:=hI.1
 have:=XmB l hl.2.1 (X0A s n).1 i.toNat (by omega) (RT.val hl (by omega))
 rw[nxT,if_neg (by omega),if_neg (by omega),←hI.2.2.2.2 l hl]at this
 exact this
theorem Xqz{s:List UInt8}{n i:Int}{out:List Int}(hI:rsI s n i out)(hi:¬i<n)(hk:0<(X0A s n).2)(hk2:(X0A s n).2≤s.length):(¬X0l out=s.take (X0A s n).2.toNat→([],0)=X35 s n)∧(X0l out=s.take (X0A s n).2.toNat→(out,(X0A s n).2)=X35 s n):=by
 obtain⟨h1,h2,h3,_,h5⟩:=hI
 refine⟨fun h=>X94 fun l hl=>h ?_,fun h=>?_⟩
 · have:=hl.1
   rw[h5 l hl,show i.toNat=l.length by omega,List.take_length,RW.vars Xau hl,X6z hl.2.1]
   simp only[Int.toNat_natCast]
   exact hl.2.2.symm
 · obtain⟨q1,q2⟩:=rt_of (n:=n) (by omega) hk hk2 h
   rw[Xba q1,←q2]
theorem Xrd{s:List UInt8}{n x i last:Int}{out:List Int}(hI:vsI s n last i out)(hi:i<n)(hx:∀l,RV s n l→x=l.getD i.toNat 0)(h:fIn x (-1099511627776) 1099511627776=false):([],0)=X3d s n:=by
 refine X9a fun l hl=>?_
 have h1:=hl.1
 have h2:=hI.1
 have:=Xia hl.2.1 (i:=i.toNat) (by omega)
 rw[hx l hl,X0C.2 this]at h;cases h
theorem XpE{s:List UInt8}{n x i last:Int}{out:List Int}(hI:vsI s n last i out)(hi:i<n)(hx:∀l,RV s n l→x=l.getD i.toNat 0)(h:fIn x (-1099511627776) 1099511627776=true):vsI s n x (i+1) (out++[x]):=by
 obtain⟨h1,h2,h3,h4,h5,h6⟩:=hI
 rw[X0C]at h
 refine⟨by omega,by omega,by simp;omega,h,?_,fun l hl=>?_⟩
 · rw[if_neg (by omega),Xhp (by omega)]
 · have:=hl.1
   rw[show(i+1).toNat=i.toNat+1 by omega,X8K (by omega),←h6 l hl,hx l hl]
theorem Xrl{s:List UInt8}{n i last:Int}{out:List Int}(hI:vsI s n last i out)(hi:i<n):∀l,RV s n l→last+XkN ((X0A s n).1.getD i.toNat 0)=l.getD i.toNat 0:=fun l hl=>by
 obtain⟨h1,h2,h3,h4,h5,h6⟩:=hI
 have h1:=hl.1
 have:=Xme l hl.2.1 (X0A s n).1 i.toNat (by omega) (RV.val hl (by omega))
 rw[nxV,←h6 l hl]at this
 rw[h5,←this]
 by_cases h0:i=0
 · rw[if_pos h0,if_pos (by omega)];rfl
 · rw[if_neg h0,if_neg (by omega)];rfl
theorem XqZ{s:List UInt8}{n i last:Int}{out:List Int}(hI:vsI s n last i out)(hi:¬i<n)(hk:0<(X0A s n).2)(hk2:(X0A s n).2≤s.length):(¬X0i out=s.take (X0A s n).2.toNat→([],0)=X3d s n)∧(X0i out=s.take (X0A s n).2.toNat→(out,(X0A s n).2)=X3d s n):=by
 obtain⟨h1,h2,h3,_,_,h5⟩:=hI
 refine⟨fun h=>X9a fun l hl=>h ?_,fun h=>?_⟩
 · have:=hl.1
   rw[h5 l hl,show i.toNat=l.length by omega,List.take_length,RW.vars Xbs hl,X6E hl.2.1]
   simp only[Int.toNat_natCast]
   exact hl.2.2.symm
 · obtain⟨q1,q2⟩:=rv_of (n:=n) (by omega) hk hk2 h
   rw[XbC q1,←q2]
def X5c:Con:={A:=XkW,shA:=[.one,.one],R:=(.pair XcE (.int .i64)),shR:=[(false,1),(false,1)],pre:=fun _ a=>(pRd a.1 a.2),f:=some fun _ a=>((X35 a.1 a.2),((),()))}
def X1x.F(a0:U5q)(a1:Int):Prop:=(True∧∀r1,(Eq r1 ((fIn a1 1 60),((),())))→(X00 (!r1.1) (Eq ((([]:(List Int)),0),((),())) ((X35 a0 a1),((),()))) ((p7 a0 a1)∧∀r2,(Eq r2 ((X0A a0 a1),((),())))→(X00 (decide (r2.1.2<(0:Int))) (Eq ((([]:(List Int)),0),((),())) ((X35 a0 a1),((),()))) (0≤(0:Int)∧((0:Int)<(ln r2.1.1)∧(eS [(0,.val false [.str a0]),(1,.val false [.int .i64 a1]),(6,.val false [.lst (.int .i64) [] none]),(7,.val false [.lst (.int .i64) r2.1.1 none]),(8,.val false [.int .i64 r2.1.2])] [(0,.val false [.str a0]),(1,.val false [.int .i64 a1]),(6,.val false [.lst (.int .i64) [] none]),(7,.val false [.lst (.int .i64) r2.1.1 none]),(8,.val false [.int .i64 r2.1.2])]∧((rsI a0 a1 1 [(List.getD r2.1.1 (tN (0:Int)) 0)])∧∀(y3:(Int×(List Int))),(rsI a0 a1 y3.1 y3.2)→(X00 (decide (y3.1<a1)) (0≤y3.1∧(y3.1<(ln r2.1.1)∧(X00 (decide (y3.1>(1:Int))) (0≤(wI (y3.1 - (1:Int)))∧((wI (y3.1 - (1:Int)))<(ln y3.2)∧(0≤(wI (y3.1 - (2:Int)))∧((wI (y3.1 - (2:Int)))<(ln y3.2)∧(0≤y3.1∧(y3.1<(ln r2.1.1)∧(True∧∀r4,(Eq r4 ((XkN (List.getD r2.1.1 (tN y3.1) 0)),((),())))→(0≤(wI (y3.1 - (1:Int)))∧((wI (y3.1 - (1:Int)))<(ln y3.2)∧(True∧∀r5,(Eq r5 ((fIn (wI ((List.getD y3.2 (tN (wI (y3.1 - (1:Int)))) 0)+(wI ((wI ((List.getD y3.2 (tN (wI (y3.1 - (1:Int)))) 0) - (List.getD y3.2 (tN (wI (y3.1 - (2:Int)))) 0)))+r4.1)))) 0 1099511627776),((),())))→(X00 (!r5.1) (Eq ((([]:(List Int)),0),((),())) ((X35 a0 a1),((),()))) (List.length y3.2+List.length [(wI ((List.getD y3.2 (tN (wI (y3.1 - (1:Int)))) 0)+(wI ((wI ((List.getD y3.2 (tN (wI (y3.1 - (1:Int)))) 0) - (List.getD y3.2 (tN (wI (y3.1 - (2:Int)))) 0)))+r4.1))))]≤9223372036854775807∧((List.length y3.2+List.length [(wI ((List.getD y3.2 (tN (wI (y3.1 - (1:Int)))) 0)+(wI ((wI ((List.getD y3.2 (tN (wI (y3.1 - (1:Int)))) 0) - (List.getD y3.2 (tN (wI (y3.1 - (2:Int)))) 0)))+r4.1))))])*8≤140737488355328∧(eS [(0,.val false [.str a0]),(1,.val false [.int .i64 a1]),(6,.val false [.lst (.int .i64) [] none]),(7,.val false [.lst (.int .i64) r2.1.1 none]),(8,.val false [.int .i64 r2.1.2])] [(0,.val false [.str a0]),(1,.val false [.int .i64 a1]),(6,.val false [.lst (.int .i64) [] none]),(7,.val false [.lst (.int .i64) r2.1.1 none]),(8,.val false [.int .i64 r2.1.2])]∧(rsI a0 a1 (wI (y3.1+(1:Int))) (y3.2++[(wI ((List.getD y3.2 (tN (wI (y3.1 - (1:Int)))) 0)+(wI ((wI ((List.getD y3.2 (tN (wI (y3.1 - (1:Int)))) 0) - (List.getD y3.2 (tN (wI (y3.1 - (2:Int)))) 0)))+r4.1))))]))∧(rsM a0 a1 (wI (y3.1+(1:Int))) (y3.2++[(wI ((List.getD y3.2 (tN (wI (y3.1 - (1:Int)))) 0)+(wI ((wI ((List.getD y3.2 (tN (wI (y3.1 - (1:Int)))) 0) - (List.getD y3.2 (tN (wI (y3.1 - (2:Int)))) 0)))+r4.1))))]))<(rsM a0 a1 y3.1 y3.2))))))))))))))) (0≤(wI (y3.1 - (1:Int)))∧((wI (y3.1 - (1:Int)))<(ln y3.2)∧(True∧∀r6,(Eq r6 ((fIn (wI ((List.getD y3.2 (tN (wI (y3.1 - (1:Int)))) 0)+(List.getD r2.1.1 (tN y3.1) 0))) 0 1099511627776),((),())))→(X00 (!r6.1) (Eq ((([]:(List Int)),0),((),())) ((X35 a0 a1),((),()))) (List.length y3.2+List.length [(wI ((List.getD y3.2 (tN (wI (y3.1 - (1:Int)))) 0)+(List.getD r2.1.1 (tN y3.1) 0)))]≤9223372036854775807∧((List.length y3.2+List.length [(wI ((List.getD y3.2 (tN (wI (y3.1 - (1:Int)))) 0)+(List.getD r2.1.1 (tN y3.1) 0)))])*8≤140737488355328∧(eS [(0,.val false [.str a0]),(1,.val false [.int .i64 a1]),(6,.val false [.lst (.int .i64) [] none]),(7,.val false [.lst (.int .i64) r2.1.1 none]),(8,.val false [.int .i64 r2.1.2])] [(0,.val false [.str a0]),(1,.val false [.int .i64 a1]),(6,.val false [.lst (.int .i64) [] none]),(7,.val false [.lst (.int .i64) r2.1.1 none]),(8,.val false [.int .i64 r2.1.2])]∧(rsI a0 a1 (wI (y3.1+(1:Int))) (y3.2++[(wI ((List.getD y3.2 (tN (wI (y3.1 - (1:Int)))) 0)+(List.getD r2.1.1 (tN y3.1) 0)))]))∧(rsM a0 a1 (wI (y3.1+(1:Int))) (y3.2++[(wI ((List.getD y3.2 (tN (wI (y3.1 - (1:Int)))) 0)+(List.getD r2.1.1 (tN y3.1) 0)))]))<(rsM a0 a1 y3.1 y3.2))))))))))) (True∧∀r7,(Eq r7 ((X0l y3.2),((),())))→(0≤r2.1.2∧(r2.1.2≤(ln a0)∧(X00 (!(r7.1==(List.take (tN r2.1.2) a0))) (Eq ((([]:(List Int)),0),((),())) ((X35 a0 a1),((),()))) (Eq ((y3.2,r2.1.2),((),())) ((X35 a0 a1),((),()))))))))))))))))
def X1x.L(a0:U5q)(a1:Int):Nat→Option X0c:=fun p=>Go.Proofs.YtcfaphojdacmbaaGreatR.Bv.look p [(1018,{kp:={hold:=[0,1,6,7,8],slots:=[9,10],boxes:=[],rows:=[{bx:=false,s:=9,i:=0,k:=1001155,e:=3,hot:=true}]},T:=(.pair (.int .i64) XcE),I:=fun st y=>rsI a0 a1 y.1 y.2,μ:=fun st y=>rsM a0 a1 y.1 y.2})]
theorem X1x.pure(a0:U5q)(a1:Int)(h:(pRd a0 a1))(hw:Wf X5c.A (a0,a1)):X1x.F a0 a1:=by
 delta X1x.F ln tN wI eS
 simp only[Bs,B0,B1,Prod.mk.injEq,X01]
 have hp:a0.length≤9223372036854775807:=h
 refine⟨fun h1=>X94 fun l hl=>(by rw[RT.len hl]at h1;cases h1),fun h1=>?_⟩
 rw[X0C]at h1
 refine⟨⟨hp,by omega,by omega⟩,fun h2=>X94 fun l hl=>RT.pos hl h2,fun h2=>?_⟩
 obtain⟨k1,k2,k3,k4⟩:=XlL (by omega) h2
 refine⟨by omega,by omega,Xnn (by omega) k2,fun y hI=>?_⟩
 obtain⟨i,out⟩:=y
 simp only at hI ⊢
 have g1:=hI.1
 have g2:=hI.2.2.1
 have g3:=hI.2.2.2.1.1
 have g4:=hI.2.2.2.1.2
 have g5:=hI.2.1
 have e1:IntKind.wrap .i64 (i+1)=i+1:=w64 (by omega) (by omega)
 have e2:IntKind.wrap .i64 (i - 1)=i - 1:=w64 (by omega) (by omega)
 have e3:IntKind.wrap .i64 (i - 2)=i - 2:=w64 (by omega) (by omega)
 have kv:=k2 i.toNat
 refine⟨fun hi=>⟨by omega,by omega,fun h3=>?_,fun h3=>?_⟩,fun hi=>⟨by omega,k4,Xqz hI hi k3 k4⟩⟩
 · have ku:=Xmk ((X0A a0 a1).1.getD i.toNat 0)
   have g4:=g4 (by omega)
   have hx:=Xqg hI hi h3
   rw[e1,e2,e3,show(i - 1).toNat=i.toNat - 1 by omega,show(i - 2).toNat=i.toNat - 2 by omega,w64 (x:=out.getD (i.toNat - 1) 0 - out.getD (i.toNat - 2) 0) (by omega) (by omega),w64 (x:=out.getD (i.toNat - 1) 0 - out.getD (i.toNat - 2) 0+XkN ((X0A a0 a1).1.getD i.toNat 0)) (by omega) (by omega),w64 (x:=out.getD (i.toNat - 1) 0+(out.getD (i.toNat - 1) 0 - out.getD (i.toNat - 2) 0+XkN ((X0A a0 a1).1.getD i.toNat 0))) (by omega) (by omega)]
   exact⟨by omega,by omega,by omega,by omega,by omega,by omega,by omega,by omega,Xox hI hi hx,fun h4=>⟨by omega,by omega,XkX hI hi hx h4,by unfold rsM;omega⟩⟩
 · have hx:=Xqu hI hi h3
   rw[e1,e2,show(i - 1).toNat=i.toNat - 1 by omega,w64 (x:=out.getD (i.toNat - 1) 0+(X0A a0 a1).1.getD i.toNat 0) (by omega) (by omega)]
   exact⟨by omega,by omega,Xox hI hi hx,fun h4=>⟨by omega,by omega,XkX hI hi hx h4,by unfold rsM;omega⟩⟩
theorem X1x.eq:EqS X5c Tryz.f200 [138,3] [X23.e,X1j.e,X2a.e,X4f.e] [] (fun i x=>X1x.L x.1 x.2) (fun i x=>X1x.F x.1 x.2):=by intro i x;kernel_rfl
theorem X1x.ok:X0n Tryz.prog 200 X5c:=X2g X1x.eq Tryz.func200 rfl (by kernel_rfl) fun i x h hi hw=>X1x.pure x.1 x.2 h hw
def X1x.e:GE:=⟨200,X5c,⟨_,Tryz.func200,rfl,rfl⟩,X1x.ok⟩
def X4P:Con:={A:=XkW,shA:=[.one,.one],R:=(.pair XcE (.int .i64)),shR:=[(false,1),(false,1)],pre:=fun _ a=>(pRd a.1 a.2),f:=some fun _ a=>((X3d a.1 a.2),((),()))}
def X1c.F(a0:U5q)(a1:Int):Prop:=(True∧∀r1,(Eq r1 ((fIn a1 1 60),((),())))→(X00 (!r1.1) (Eq ((([]:(List Int)),0),((),())) ((X3d a0 a1),((),()))) ((p7 a0 a1)∧∀r2,(Eq r2 ((X0A a0 a1),((),())))→(X00 (decide (r2.1.2<(0:Int))) (Eq ((([]:(List Int)),0),((),())) ((X3d a0 a1),((),()))) (eS [(0,.val false [.str a0]),(1,.val false [.int .i64 a1]),(6,.val false [.lst (.int .i64) [] none]),(7,.val false [.lst (.int .i64) r2.1.1 none]),(8,.val false [.int .i64 r2.1.2])] [(0,.val false [.str a0]),(1,.val false [.int .i64 a1]),(6,.val false [.lst (.int .i64) [] none]),(7,.val false [.lst (.int .i64) r2.1.1 none]),(8,.val false [.int .i64 r2.1.2])]∧((vsI a0 a1 0 0 ([]:List Int))∧∀(y3:(Int×(Int×(List Int)))),(vsI a0 a1 y3.1 y3.2.1 y3.2.2)→(X00 (decide (y3.2.1<a1)) (0≤y3.2.1∧(y3.2.1<(ln r2.1.1)∧(True∧∀r4,(Eq r4 ((XkN (List.getD r2.1.1 (tN y3.2.1) 0)),((),())))→(True∧∀r5,(Eq r5 ((fIn (wI (y3.1+r4.1)) (-1099511627776) 1099511627776),((),())))→(X00 (!r5.1) (Eq ((([]:(List Int)),0),((),())) ((X3d a0 a1),((),()))) (List.length y3.2.2+List.length [(wI (y3.1+r4.1))]≤9223372036854775807∧((List.length y3.2.2+List.length [(wI (y3.1+r4.1))])*8≤140737488355328∧(eS [(0,.val false [.str a0]),(1,.val false [.int .i64 a1]),(6,.val false [.lst (.int .i64) [] none]),(7,.val false [.lst (.int .i64) r2.1.1 none]),(8,.val false [.int .i64 r2.1.2])] [(0,.val false [.str a0]),(1,.val false [.int .i64 a1]),(6,.val false [.lst (.int .i64) [] none]),(7,.val false [.lst (.int .i64) r2.1.1 none]),(8,.val false [.int .i64 r2.1.2])]∧(vsI a0 a1 (wI (y3.1+r4.1)) (wI (y3.2.1+(1:Int))) (y3.2.2++[(wI (y3.1+r4.1))]))∧(vsM a0 a1 (wI (y3.1+r4.1)) (wI (y3.2.1+(1:Int))) (y3.2.2++[(wI (y3.1+r4.1))]))<(vsM a0 a1 y3.1 y3.2.1 y3.2.2))))))))) (True∧∀r6,(Eq r6 ((X0i y3.2.2),((),())))→(0≤r2.1.2∧(r2.1.2≤(ln a0)∧(X00 (!(r6.1==(List.take (tN r2.1.2) a0))) (Eq ((([]:(List Int)),0),((),())) ((X3d a0 a1),((),()))) (Eq ((y3.2.2,r2.1.2),((),())) ((X3d a0 a1),((),()))))))))))))))
def X1c.L(a0:U5q)(a1:Int):Nat→Option X0c:=fun p=>Go.Proofs.YtcfaphojdacmbaaGreatR.Bv.look p [(2042,{kp:={hold:=[0,1,6,7,8],slots:=[9,10,11],boxes:=[],rows:=[{bx:=false,s:=9,i:=0,k:=1001155,e:=3,hot:=true}]},T:=(.pair (.int .i64) (.pair (.int .i64) XcE)),I:=fun st y=>vsI a0 a1 y.1 y.2.1 y.2.2,μ:=fun st y=>vsM a0 a1 y.1 y.2.1 y.2.2})]
theorem X1c.pure(a0:U5q)(a1:Int)(h:(pRd a0 a1))(hw:Wf X4P.A (a0,a1)):X1c.F a0 a1:=by
 delta X1c.F ln tN wI eS
 simp only[Bs,B0,B1,Prod.mk.injEq,X01]
 have hp:a0.length≤9223372036854775807:=h
 refine⟨fun h1=>X9a fun l hl=>(by rw[RV.len hl]at h1;cases h1),fun h1=>?_⟩
 rw[X0C]at h1
 refine⟨⟨hp,by omega,by omega⟩,fun h2=>X9a fun l hl=>RV.pos hl h2,fun h2=>?_⟩
 obtain⟨k1,k2,k3,k4⟩:=XlL (by omega) h2
 refine⟨⟨by omega,by omega,rfl,by omega,rfl,fun l hl=>by simp⟩,fun y hI=>?_⟩
 obtain⟨last,i,out⟩:=y
 simp only at hI ⊢
 have g1:=hI.1
 have g2:=hI.2.2.1
 have g3:=hI.2.2.2.1
 have g5:=hI.2.1
 have e1:IntKind.wrap .i64 (i+1)=i+1:=w64 (by omega) (by omega)
 refine⟨fun hi=>⟨by omega,by omega,?_⟩,fun hi=>⟨by omega,k4,XqZ hI hi k3 k4⟩⟩
 have ku:=Xmk ((X0A a0 a1).1.getD i.toNat 0)
 have hx:=Xrl hI hi
 rw[e1,w64 (x:=last+XkN ((X0A a0 a1).1.getD i.toNat 0)) (by omega) (by omega)]
 exact⟨Xrd hI hi hx,fun h4=>⟨by omega,by omega,XpE hI hi hx h4,by unfold vsM;omega⟩⟩
theorem X1c.eq:EqS X4P Tryz.f201 [138,3] [X23.e,X0Q.e,X2a.e,X4f.e] [] (fun i x=>X1c.L x.1 x.2) (fun i x=>X1c.F x.1 x.2):=by intro i x;kernel_rfl
theorem X1c.ok:X0n Tryz.prog 201 X4P:=X2g X1c.eq Tryz.func201 rfl (by kernel_rfl) fun i x h hi hw=>X1c.pure x.1 x.2 h hw
def X1c.e:GE:=⟨201,X4P,⟨_,Tryz.func201,rfl,rfl⟩,X1c.ok⟩
def dT(l:List Int)(j:Nat):Int:=if j=0 then l.getD 0 0 else l.getD j 0 - l.getD (j - 1) 0
def laT(l:List Int)(j:Nat):Int:=if j=0 then 0 else l.getD (j - 1) 0
def riI(s:List UInt8)(n step last i:Int)(rest:List UInt8)(ok:Bool)(out:List Int):Prop:=(0≤i∧i≤n∧n≤60∧(out.length:Int)=i)∧(-(1125899906842624*i)≤step∧step≤1125899906842624*i∧-(70000000000000000*i)≤last∧last≤70000000000000000*i)∧∀l,RT s n l→ok=true∧rest=s.drop (cat (tmW l) i.toNat).length∧out=l.take i.toNat∧last=laT l i.toNat∧(1≤i→step=dT l (i.toNat - 1))
def riM(s:List UInt8)(n step last i:Int)(rest:List UInt8)(ok:Bool)(out:List Int):Nat:=(n - i).toNat
def viI(s:List UInt8)(n last i:Int)(rest:List UInt8)(ok:Bool)(out:List Int):Prop:=(0≤i∧i≤n∧n≤60∧(out.length:Int)=i)∧(-(70000000000000000*i)≤last∧last≤70000000000000000*i)∧∀l,RV s n l→ok=true∧rest=s.drop (cat (vlW l) i.toNat).length∧out=l.take i.toNat∧last=laT l i.toNat
def viM(s:List UInt8)(n last i:Int)(rest:List UInt8)(ok:Bool)(out:List Int):Nat:=(n - i).toNat
theorem XoE{W:Nat→Int}{n i:Nat}{s:List UInt8}(hw:∀j,j<n→X4e (W j))(hs:s.take (cat W n).length=cat W n)(hi:i<n):X4s (s.drop (cat W i).length,true)=(W i,(s.drop (cat W (i+1)).length,true)):=by
 obtain⟨h1,h2⟩:=Xjn hw hs hi
 have hp:=X7n (hw i hi)
 unfold X4s
 simp only
 rw[h1]
 simp only
 rw[if_pos ⟨trivial,by omega⟩,Int.toNat_natCast,h2]
theorem XoB{W:Nat→Int}{n i:Nat}{s:List UInt8}{d:Int}(hw:∀j,j<n→X4e (W j))(hs:s.take (cat W n).length=cat W n)(hi:i<n)(hd:fIn d (-140737488355328) 140737488355328=true)(he:W i=Xc2 d):XcK (s.drop (cat W i).length,true)=(d,(s.drop (cat W (i+1)).length,true)):=by
 unfold XcK
 rw[XoE hw hs hi]
 simp only
 rw[he,Xe3 hd]
 rfl
theorem Xm0{s:List UInt8}{n step last i step':Int}{rest:List UInt8}{ok:Bool}{out:List Int}{r:Rd}(hI:riI s n step last i rest ok out)(hi:i<n)(hb:-(1125899906842624*(i+1))≤step'∧step'≤1125899906842624*(i+1))(hs:∀l,RT s n l→ok=true→rest=s.drop (cat (tmW l) i.toNat).length→(1≤i→step=dT l (i.toNat - 1))→step'=dT l i.toNat∧r=(s.drop (cat (tmW l) (i.toNat+1)).length,true)):riI s n step' (last+step') (i+1) r.1 r.2 (out++[last+step']):=by
 obtain⟨⟨h1,h2,h3,h4⟩,⟨h5,h6,h7,h8⟩,h9⟩:=hI
 refine⟨⟨by omega,by omega,h3,by simp;omega⟩,⟨by omega,by omega,by omega,by omega⟩,fun l hl=>?_⟩
 obtain⟨k1,k2,k3,k4,k5⟩:=h9 l hl
 obtain⟨j1,j2⟩:=hs l hl k1 k2 k5
 have hll:=hl.1
 have e:(i+1).toNat=i.toNat+1:=by omega
 have hx:last+step'=l.getD i.toNat 0:=by
  rw[k4,j1];unfold laT dT
  split
  · rename_i h0;rw[h0];omega
  · omega
 rw[e,j2]
 refine⟨rfl,rfl,by rw[k3,hx,X8K (by omega)],by rw[hx];rfl,fun _=>j1⟩
theorem Xre{s:List UInt8}{n step i:Int}{rest:List UInt8}{ok:Bool}(h0:0≤i)(hi:i<n)(h2:i<2):∀l,RT s n l→ok=true→rest=s.drop (cat (tmW l) i.toNat).length→(1≤i→step=dT l (i.toNat - 1))→(X4s (rest,ok)).1=dT l i.toNat∧(X4s (rest,ok)).2=(s.drop (cat (tmW l) (i.toNat+1)).length,true):=fun l hl k1 k2 _=>by
 have hll:=hl.1
 rw[k1,k2,XoE (Xau l hl.2.1) hl.2.2 (by omega)]
 refine⟨?_,rfl⟩
 show tmW l i.toNat=dT l i.toNat
 unfold tmW dT
 split
 · rfl
 · rw[if_pos (by omega),show i.toNat=1 by omega]
theorem Xri{s:List UInt8}{n step i:Int}{rest:List UInt8}{ok:Bool}(hi:i<n)(h2:¬i<2):∀l,RT s n l→ok=true→rest=s.drop (cat (tmW l) i.toNat).length→(1≤i→step=dT l (i.toNat - 1))→step+(XcK (rest,ok)).1=dT l i.toNat∧(XcK (rest,ok)).2=(s.drop (cat (tmW l) (i.toNat+1)).length,true):=fun l hl k1 k2 k3=>by
 have hll:=hl.1
 rw[k1,k2,XoB (Xau l hl.2.1) hl.2.2 (by omega) (XmQ hl.2.1 (i:=i.toNat) (by omega) (by omega)) (by unfold tmW;rw[if_neg (by omega),if_neg (by omega)])]
 refine⟨?_,rfl⟩
 rw[k3 (by omega)]
 unfold dT
 rw[if_neg (by omega),if_neg (by omega),show i.toNat - 1 - 1=i.toNat - 2 by omega]
 simp only;omega
theorem XpM{s:List UInt8}{n last i:Int}{rest:List UInt8}{ok:Bool}{out:List Int}(hI:viI s n last i rest ok out)(hi:i<n):viI s n (last+(XcK (rest,ok)).1) (i+1) (XcK (rest,ok)).2.1 (XcK (rest,ok)).2.2 (out++[last+(XcK (rest,ok)).1]):=by
 obtain⟨⟨h1,h2,h3,h4⟩,⟨h7,h8⟩,h9⟩:=hI
 have hz:=XkZ (rest,ok)
 refine⟨⟨by omega,by omega,h3,by simp;omega⟩,⟨by omega,by omega⟩,fun l hl=>?_⟩
 obtain⟨k1,k2,k3,k4⟩:=h9 l hl
 have hll:=hl.1
 have e:(i+1).toNat=i.toNat+1:=by omega
 rw[k1,k2,XoB (Xbs l hl.2.1) hl.2.2 (by omega) (Xm5 hl.2.1 (i:=i.toNat) (by omega)) rfl]
 have hx:last+(l.getD i.toNat 0 - (if i.toNat=0 then 0 else l.getD (i.toNat - 1) 0))=l.getD i.toNat 0:=by
  rw[k4];unfold laT
  split<;>omega
 simp only
 rw[hx,e]
 exact⟨trivial,rfl,by rw[k3,X8K (by omega)],rfl⟩
theorem XjD{s t:List UInt8}(h:X6t s t=true):s.take t.length=t:=by simpa [X6t] using h
theorem Xr2{s:List UInt8}{n step last i:Int}{rest:List UInt8}{ok:Bool}{out:List Int}(hI:riI s n step last i rest ok out)(hi:¬i<n):(ok=false→([],0)=X35 s n)∧(ok=true→((X6l s (X0l out)).2=false→([],0)=X35 s n)∧((X6l s (X0l out)).2=true→(out,(X6l s (X0l out)).1)=X35 s n)):=by
 obtain⟨⟨h1,h2,h3,h4⟩,_,h9⟩:=hI
 refine⟨fun h=>X94 fun l hl=>?_,fun h=>⟨fun h5=>X94 fun l hl=>?_,fun h5=>?_⟩⟩
 · rw[(h9 l hl).1]at h;cases h
 · have hll:=hl.1
   have e:out=l:=by rw[(h9 l hl).2.2.1,show i.toNat=l.length by omega,List.take_length]
   have hp:0<(cat (tmW l) l.length).length:=XaE (Xau l hl.2.1 0 (by have:=(X4d.1 hl.2.1).1;omega)) _ (by have:=(X4d.1 hl.2.1).1;omega)
   rw[e]at h5
   simp only[X6l,Bool.and_eq_false_iff,decide_eq_false_iff_not,X6t,beq_eq_false_iff_ne,ne_eq,Decidable.not_not,X6z hl.2.1]at h5
   rcases h5 with h5 | h5
   · rw[h5]at hp;simp at hp
   · exact h5 hl.2.2
 · simp only[X6l,Bool.and_eq_true,decide_eq_true_eq,ne_eq]at h5
   have hr:X8u out=true:=by
    by_cases hr:X8u out=true
    · exact hr
    · exact absurd (by unfold X0l;rw[if_neg hr]) h5.1
   have hR:RT s n out:=⟨by omega,hr,by have:=XjD h5.2;rw[X6z hr]at this;exact this⟩
   rw[Xba hR]
   simp only[X6l,X6z hr]
theorem Xr1{s:List UInt8}{n last i:Int}{rest:List UInt8}{ok:Bool}{out:List Int}(hI:viI s n last i rest ok out)(hi:¬i<n):(ok=false→([],0)=X3d s n)∧(ok=true→((X6l s (X0i out)).2=false→([],0)=X3d s n)∧((X6l s (X0i out)).2=true→(out,(X6l s (X0i out)).1)=X3d s n)):=by
 obtain⟨⟨h1,h2,h3,h4⟩,_,h9⟩:=hI
 refine⟨fun h=>X9a fun l hl=>?_,fun h=>⟨fun h5=>X9a fun l hl=>?_,fun h5=>?_⟩⟩
 · rw[(h9 l hl).1]at h;cases h
 · have hll:=hl.1
   have e:out=l:=by rw[(h9 l hl).2.2.1,show i.toNat=l.length by omega,List.take_length]
   have hp:0<(cat (vlW l) l.length).length:=XaE (Xbs l hl.2.1 0 (by have:=(X4w.1 hl.2.1).1;omega)) _ (by have:=(X4w.1 hl.2.1).1;omega)
   rw[e]at h5
   simp only[X6l,Bool.and_eq_false_iff,decide_eq_false_iff_not,X6t,beq_eq_false_iff_ne,ne_eq,Decidable.not_not,X6E hl.2.1]at h5
   rcases h5 with h5 | h5
   · rw[h5]at hp;simp at hp
   · exact h5 hl.2.2
 · simp only[X6l,Bool.and_eq_true,decide_eq_true_eq,ne_eq]at h5
   have hr:X8R out=true:=by
    by_cases hr:X8R out=true
    · exact hr
    · exact absurd (by unfold X0i;rw[if_neg hr]) h5.1
   have hR:RV s n out:=⟨by omega,hr,by have:=XjD h5.2;rw[X6E hr]at this;exact this⟩
   rw[XbC hR]
   simp only[X6l,X6E hr]
def X5j:Con:={A:=XkW,shA:=[.one,.one],R:=(.pair XcE (.int .i64)),shR:=[(false,1),(false,1)],fresh:=[(0,3)],pre:=fun _ _=>True,f:=some fun _ a=>((X35 a.1 a.2),((),()))}
def X1z.F(a0:U5q)(a1:Int):Prop:=(True∧∀r1,(Eq r1 ((fIn a1 1 60),((),())))→(X00 (!r1.1) (Eq ((([]:(List Int)),0),((),())) ((X35 a0 a1),((),()))) (eS [(0,.val false [.str a0]),(6,.box 19 0),(20,.val false [.int .i64 a1])] [(0,.val false [.str a0]),(6,.box 19 0),(20,.val false [.int .i64 a1])]∧((riI a0 a1 0 0 0 a0 true ([]:List Int))∧∀(y2:(Int×(Int×(Int×(U5q×(Bool×(List Int))))))),(riI a0 a1 y2.1 y2.2.1 y2.2.2.1 y2.2.2.2.1 y2.2.2.2.2.1 y2.2.2.2.2.2)→(X00 (decide (y2.2.2.1<a1)) (X00 (decide (y2.2.2.1<(2:Int))) (True∧∀r3,(Eq r3 ((X4s (y2.2.2.2.1,y2.2.2.2.2.1)).1,((X4s (y2.2.2.2.1,y2.2.2.2.2.1)).2,())))→(List.length y2.2.2.2.2.2+List.length [(wI (y2.2.1+r3.1))]≤9223372036854775807∧((List.length y2.2.2.2.2.2+List.length [(wI (y2.2.1+r3.1))])*8≤140737488355328∧(eS [(0,.val false [.str a0]),(6,.box 19 0),(20,.val false [.int .i64 a1])] [(0,.val false [.str a0]),(6,.box 19 0),(20,.val false [.int .i64 a1])]∧(riI a0 a1 r3.1 (wI (y2.2.1+r3.1)) (wI (y2.2.2.1+(1:Int))) r3.2.1.1 r3.2.1.2 (y2.2.2.2.2.2++[(wI (y2.2.1+r3.1))]))∧(riM a0 a1 r3.1 (wI (y2.2.1+r3.1)) (wI (y2.2.2.1+(1:Int))) r3.2.1.1 r3.2.1.2 (y2.2.2.2.2.2++[(wI (y2.2.1+r3.1))]))<(riM a0 a1 y2.1 y2.2.1 y2.2.2.1 y2.2.2.2.1 y2.2.2.2.2.1 y2.2.2.2.2.2))))) (True∧∀r4,(Eq r4 ((XcK (y2.2.2.2.1,y2.2.2.2.2.1)).1,((XcK (y2.2.2.2.1,y2.2.2.2.2.1)).2,())))→(List.length y2.2.2.2.2.2+List.length [(wI (y2.2.1+(wI (y2.1+r4.1))))]≤9223372036854775807∧((List.length y2.2.2.2.2.2+List.length [(wI (y2.2.1+(wI (y2.1+r4.1))))])*8≤140737488355328∧(eS [(0,.val false [.str a0]),(6,.box 19 0),(20,.val false [.int .i64 a1])] [(0,.val false [.str a0]),(6,.box 19 0),(20,.val false [.int .i64 a1])]∧(riI a0 a1 (wI (y2.1+r4.1)) (wI (y2.2.1+(wI (y2.1+r4.1)))) (wI (y2.2.2.1+(1:Int))) r4.2.1.1 r4.2.1.2 (y2.2.2.2.2.2++[(wI (y2.2.1+(wI (y2.1+r4.1))))]))∧(riM a0 a1 (wI (y2.1+r4.1)) (wI (y2.2.1+(wI (y2.1+r4.1)))) (wI (y2.2.2.1+(1:Int))) r4.2.1.1 r4.2.1.2 (y2.2.2.2.2.2++[(wI (y2.2.1+(wI (y2.1+r4.1))))]))<(riM a0 a1 y2.1 y2.2.1 y2.2.2.1 y2.2.2.2.1 y2.2.2.2.2.1 y2.2.2.2.2.2)))))) ((Xdq y2.2.2.2.2.2)∧∀r5,(Eq r5 ((X0l y2.2.2.2.2.2),((),())))→(True∧∀r6,(Eq r6 ((X6l a0 r5.1),((),())))→(X00 (!y2.2.2.2.2.1) (Eq ((([]:(List Int)),0),((),())) ((X35 a0 a1),((),()))) (X00 (!r6.1.2) (Eq ((([]:(List Int)),0),((),())) ((X35 a0 a1),((),()))) (Eq ((y2.2.2.2.2.2,r6.1.1),((),())) ((X35 a0 a1),((),()))))))))))))
def X1z.L(a0:U5q)(a1:Int):Nat→Option X0c:=fun p=>Go.Proofs.YtcfaphojdacmbaaGreatR.Bv.look p [(1018,{kp:={hold:=[0,6,20],slots:=[7,8,9,21],boxes:=[19],rows:=[{bx:=false,s:=7,i:=0,k:=1000899,e:=3,hot:=true}]},T:=(.pair (.int .i64) (.pair (.int .i64) (.pair (.int .i64) (.pair .str (.pair .bool XcE))))),I:=fun st y=>riI a0 a1 y.1 y.2.1 y.2.2.1 y.2.2.2.1 y.2.2.2.2.1 y.2.2.2.2.2,μ:=fun st y=>riM a0 a1 y.1 y.2.1 y.2.2.1 y.2.2.2.1 y.2.2.2.2.1 y.2.2.2.2.2})]
theorem X1z.pure(a0:U5q)(a1:Int)(h:True)(hw:Wf X5j.A (a0,a1)):X1z.F a0 a1:=by
 delta X1z.F wI eS
 simp only[Bs,B0,B1,Prod.mk.injEq,X01]
 refine⟨fun h1=>X94 fun l hl=>(by rw[RT.len hl]at h1;cases h1),fun h1=>?_⟩
 rw[X0C]at h1
 refine⟨⟨⟨by omega,by omega,by omega,rfl⟩,⟨by omega,by omega,by omega,by omega⟩,fun l hl=>⟨rfl,by simp[cat],by simp,rfl,fun h=>by omega⟩⟩,fun y hI=>?_⟩
 obtain⟨step,last,i,rest,ok,out⟩:=y
 simp only at hI ⊢
 have g1:=hI.1
 have g2:=hI.2.1
 have e1:IntKind.wrap .i64 (i+1)=i+1:=w64 (by omega) (by omega)
 refine⟨fun hi=>⟨fun h2=>?_,fun h2=>?_⟩,fun hi=>⟨by unfold Xdq;omega,Xr2 hI hi⟩⟩
 · have hn:=Xjw (rest,ok)
   rw[e1,w64 (x:=last+(X4s (rest,ok)).1) (by omega) (by omega)]
   exact⟨by omega,by omega,Xm0 hI hi (by omega) (Xre (by omega) hi h2),by unfold riM;omega⟩
 · have hn:=XkZ (rest,ok)
   rw[e1,w64 (x:=step+(XcK (rest,ok)).1) (by omega) (by omega),w64 (x:=last+(step+(XcK (rest,ok)).1)) (by omega) (by omega)]
   exact⟨by omega,by omega,Xm0 hI hi (by omega) (Xri hi h2),by unfold riM;omega⟩
theorem X1z.eq:EqS X5j Tryz.f210 [138,3] [X2u.e,X1D.e,X1h.e,X3c.e,X3z.e] [] (fun i x=>X1z.L x.1 x.2) (fun i x=>X1z.F x.1 x.2):=by intro i x;kernel_rfl
theorem X1z.ok:X0n Tryz.prog 210 X5j:=X2g X1z.eq Tryz.func210 rfl (by kernel_rfl) fun i x h hi hw=>X1z.pure x.1 x.2 h hw
def X1z.e:GE:=⟨210,X5j,⟨_,Tryz.func210,rfl,rfl⟩,X1z.ok⟩
def X4V:Con:={A:=XkW,shA:=[.one,.one],R:=(.pair XcE (.int .i64)),shR:=[(false,1),(false,1)],fresh:=[(0,3)],pre:=fun _ _=>True,f:=some fun _ a=>((X3d a.1 a.2),((),()))}
def X1b.F(a0:U5q)(a1:Int):Prop:=(True∧∀r1,(Eq r1 ((fIn a1 1 60),((),())))→(X00 (!r1.1) (Eq ((([]:(List Int)),0),((),())) ((X3d a0 a1),((),()))) (eS [(0,.val false [.str a0]),(6,.box 17 0),(18,.val false [.int .i64 a1])] [(0,.val false [.str a0]),(6,.box 17 0),(18,.val false [.int .i64 a1])]∧((viI a0 a1 0 0 a0 true ([]:List Int))∧∀(y2:(Int×(Int×(U5q×(Bool×(List Int)))))),(viI a0 a1 y2.1 y2.2.1 y2.2.2.1 y2.2.2.2.1 y2.2.2.2.2)→(X00 (decide (y2.2.1<a1)) (True∧∀r3,(Eq r3 ((XcK (y2.2.2.1,y2.2.2.2.1)).1,((XcK (y2.2.2.1,y2.2.2.2.1)).2,())))→(List.length y2.2.2.2.2+List.length [(wI (y2.1+r3.1))]≤9223372036854775807∧((List.length y2.2.2.2.2+List.length [(wI (y2.1+r3.1))])*8≤140737488355328∧(eS [(0,.val false [.str a0]),(6,.box 17 0),(18,.val false [.int .i64 a1])] [(0,.val false [.str a0]),(6,.box 17 0),(18,.val false [.int .i64 a1])]∧(viI a0 a1 (wI (y2.1+r3.1)) (wI (y2.2.1+(1:Int))) r3.2.1.1 r3.2.1.2 (y2.2.2.2.2++[(wI (y2.1+r3.1))]))∧(viM a0 a1 (wI (y2.1+r3.1)) (wI (y2.2.1+(1:Int))) r3.2.1.1 r3.2.1.2 (y2.2.2.2.2++[(wI (y2.1+r3.1))]))<(viM a0 a1 y2.1 y2.2.1 y2.2.2.1 y2.2.2.2.1 y2.2.2.2.2))))) ((Xdq y2.2.2.2.2)∧∀r4,(Eq r4 ((X0i y2.2.2.2.2),((),())))→(True∧∀r5,(Eq r5 ((X6l a0 r4.1),((),())))→(X00 (!y2.2.2.2.1) (Eq ((([]:(List Int)),0),((),())) ((X3d a0 a1),((),()))) (X00 (!r5.1.2) (Eq ((([]:(List Int)),0),((),())) ((X3d a0 a1),((),()))) (Eq ((y2.2.2.2.2,r5.1.1),((),())) ((X3d a0 a1),((),()))))))))))))
def X1b.L(a0:U5q)(a1:Int):Nat→Option X0c:=fun p=>Go.Proofs.YtcfaphojdacmbaaGreatR.Bv.look p [(506,{kp:={hold:=[0,6,18],slots:=[7,8,19],boxes:=[17],rows:=[{bx:=false,s:=7,i:=0,k:=1000899,e:=3,hot:=true}]},T:=(.pair (.int .i64) (.pair (.int .i64) (.pair .str (.pair .bool XcE)))),I:=fun st y=>viI a0 a1 y.1 y.2.1 y.2.2.1 y.2.2.2.1 y.2.2.2.2,μ:=fun st y=>viM a0 a1 y.1 y.2.1 y.2.2.1 y.2.2.2.1 y.2.2.2.2})]
theorem X1b.pure(a0:U5q)(a1:Int)(h:True)(hw:Wf X4V.A (a0,a1)):X1b.F a0 a1:=by
 delta X1b.F wI eS
 simp only[Bs,B0,B1,Prod.mk.injEq,X01]
 refine⟨fun h1=>X9a fun l hl=>(by rw[RV.len hl]at h1;cases h1),fun h1=>?_⟩
 rw[X0C]at h1
 refine⟨⟨⟨by omega,by omega,by omega,rfl⟩,⟨by omega,by omega⟩,fun l hl=>⟨rfl,by simp[cat],by simp,rfl⟩⟩,fun y hI=>?_⟩
 obtain⟨last,i,rest,ok,out⟩:=y
 simp only at hI ⊢
 have g1:=hI.1
 have g2:=hI.2.1
 have e1:IntKind.wrap .i64 (i+1)=i+1:=w64 (by omega) (by omega)
 refine⟨fun hi=>?_,fun hi=>⟨by unfold Xdq;omega,Xr1 hI hi⟩⟩
 have hn:=XkZ (rest,ok)
 rw[e1,w64 (x:=last+(XcK (rest,ok)).1) (by omega) (by omega)]
 exact⟨by omega,by omega,XpM hI hi,by unfold viM;omega⟩
theorem X1b.eq:EqS X4V Tryz.f211 [138,3] [X1D.e,X0M.e,X3c.e,X3z.e] [] (fun i x=>X1b.L x.1 x.2) (fun i x=>X1b.F x.1 x.2):=by intro i x;kernel_rfl
theorem X1b.ok:X0n Tryz.prog 211 X4V:=X2g X1b.eq Tryz.func211 rfl (by kernel_rfl) fun i x h hi hw=>X1b.pure x.1 x.2 h hw
def X1b.e:GE:=⟨211,X4V,⟨_,Tryz.func211,rfl,rfl⟩,X1b.ok⟩
end Go.Proofs.YtcfaphojdacmbaaGreatR.B
