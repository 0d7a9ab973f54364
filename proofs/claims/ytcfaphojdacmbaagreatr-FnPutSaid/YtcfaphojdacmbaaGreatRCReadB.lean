/- Times and values:read. -/
import Derived.Test.YtcfaphojdacmbaaGreatRCBits
import Derived.Test.YtcfaphojdacmbaaGreatRCRead
import Derived.Test.YtcfaphojdacmbaaGreatRCVr
set_option maxRecDepth 100000
set_option linter.unusedVariables false
set_option linter.unusedSimpArgs false
namespace Go.Proofs.YtcfaphojdacmbaaGreatR.B
open Go Go.Proofs.YtcfaphojdacmbaaGreatR.Bv
abbrev Rd:=List UInt8×Bool
def X4A(i:Rd):Int×Rd:=if i.2=true∧(X0f i.1).2>0 then((X0f i.1).1,(i.1.drop (X0f i.1).2.toNat,true)) else(0,(i.1,false))
def X6k:Con:={io:=true,I:=(.pair .str .bool),A:=.unit,shA:=[],R:=(.int .i64),shR:=[(false,1)],pre:=fun i _=>True,f:=some fun i a=>((X4A i).1,((X4A i).2,()))}
def X2B.F(i0:(U5q×Bool)):Prop:=(True∧∀r1,(Eq r1 ((X0f i0.1),((),())))→(X00 i0.2 (X00 (!(decide (r1.1.2>(0:Int)))) (Eq (0,((i0.1,(decide (r1.1.2>(0:Int)))),())) ((X4A i0).1,((X4A i0).2,()))) (0≤r1.1.2∧(r1.1.2≤(ln i0.1)∧(Eq (r1.1.1,(((List.drop (tN r1.1.2) i0.1),(decide (r1.1.2>(0:Int)))),())) ((X4A i0).1,((X4A i0).2,())))))) (Eq (0,((i0.1,false),())) ((X4A i0).1,((X4A i0).2,())))))
theorem X2B.pure(i0:(U5q×Bool))(h:True)(hi:Wf X6k.I i0)(hw:Wf X6k.A ()):X2B.F i0:=by
 delta X2B.F ln tN
 simp only[forall_eq,true_and,and_true,X01,Prod.mk.injEq,decide_eq_true_eq,decide_eq_false_iff_not,Bool.not_eq_true',Bool.not_eq_false']
 have hb:=X2Z i0.1
 refine⟨fun h1=>⟨fun h2=>?_,fun h2=>⟨by omega,by omega,?_⟩⟩,fun h1=>?_⟩
 · have:¬(i0.2=true∧(X0f i0.1).2>0):=fun h=>h2 h.2
   simp only[X4A,if_neg this,decide_eq_false h2,and_self]
 · have h3:(X0f i0.1).2>0:=by
    by_cases h4:(X0f i0.1).2>0
    · exact h4
    · simp[h4]at h2
   simp only[X4A,if_pos (And.intro h1 h3),decide_eq_true h3,and_self]
 · have:¬(i0.2=true∧(X0f i0.1).2>0):=fun h=>by rw[h1]at h;cases h.1
   simp only[X4A,if_neg this,and_self]
theorem X2B.eq:EqS X6k Tryz.f54 [3] [X25.e] [] noL (fun i x=>X2B.F i):=by intro i x;kernel_rfl
theorem X2B.ok:X0l Tryz.prog 54 X6k:=X2d X2B.eq Tryz.func54 rfl (by kernel_rfl) fun i x h hi hw=>X2B.pure i h (hi rfl) hw
def X2B.e:GE:=⟨54,X6k,⟨_,Tryz.func54,rfl,rfl⟩,X2B.ok⟩
def Xjd(s:List UInt8):Nat→Int→List Int→List Int×Int
 | 0,p,out=>(out,p)
 | n+1,p,out=>if (X0f (s.drop p.toNat)).2=0 then(out,-1) else Xjd s n (p+(X0f (s.drop p.toNat)).2) (out++[(X0f (s.drop p.toNat)).1])
def X0A(s:List UInt8)(n:Int):List Int×Int:=Xjd s n.toNat 0 []
def p7(s:List UInt8)(n:Int):Prop:=s.length≤9223372036854775807∧0≤n∧n≤1000
def v7I(s:List UInt8)(n p i:Int)(out:List Int):Prop:=0≤i∧i≤n∧0≤p∧p≤s.length∧(out.length:Int)=i∧Xjd s (n - i).toNat p out=X0A s n
def v7M(s:List UInt8)(n p i:Int)(out:List Int):Nat:=(n - i).toNat
def X7r:Con:={A:=Xl8,shA:=[.one,.one],R:=(.pair XbW (.int .i64)),shR:=[(false,1),(false,1)],fresh:=[(0,3)],pre:=fun _ a=>(p7 a.1 a.2),f:=some fun _ a=>((X0A a.1 a.2),((),()))}
def X2f.F(a0:U5q)(a1:Int):Prop:=(eS [(0,.val false [.str a0]),(1,.val false [.int .i64 a1])] [(0,.val false [.str a0]),(1,.val false [.int .i64 a1])]∧((v7I a0 a1 0 0 ([]:List Int))∧∀(y1:(Int×(Int×(List Int)))),(v7I a0 a1 y1.1 y1.2.1 y1.2.2)→(X00 (decide (y1.2.1<a1)) (0≤y1.1∧(y1.1≤(ln a0)∧(True∧∀r2,(Eq r2 ((X0f (List.drop (tN y1.1) a0)),((),())))→(X00 (r2.1.2==(0:Int)) (Eq ((y1.2.2,(-1)),((),())) ((X0A a0 a1),((),()))) (List.length y1.2.2+List.length [r2.1.1]≤9223372036854775807∧((List.length y1.2.2+List.length [r2.1.1])*8≤140737488355328∧(eS [(0,.val false [.str a0]),(1,.val false [.int .i64 a1])] [(0,.val false [.str a0]),(1,.val false [.int .i64 a1])]∧(v7I a0 a1 (wI (y1.1+r2.1.2)) (wI (y1.2.1+(1:Int))) (y1.2.2++[r2.1.1]))∧(v7M a0 a1 (wI (y1.1+r2.1.2)) (wI (y1.2.1+(1:Int))) (y1.2.2++[r2.1.1]))<(v7M a0 a1 y1.1 y1.2.1 y1.2.2)))))))) (Eq ((y1.2.2,y1.1),((),())) ((X0A a0 a1),((),()))))))
def X2f.L(a0:U5q)(a1:Int):Nat→Option X0d:=fun p=>Go.Proofs.YtcfaphojdacmbaaGreatR.Bv.look p [(122,{kp:={hold:=[0,1],slots:=[6,7,8],boxes:=[],rows:=[{bx:=false,s:=6,i:=0,k:=1000771,e:=3,hot:=true}]},T:=(.pair (.int .i64) (.pair (.int .i64) XbW)),I:=fun st y=>v7I a0 a1 y.1 y.2.1 y.2.2,μ:=fun st y=>v7M a0 a1 y.1 y.2.1 y.2.2})]
theorem X2f.pure(a0:U5q)(a1:Int)(h:(p7 a0 a1))(hw:Wf X7r.A (a0,a1)):X2f.F a0 a1:=by
 delta X2f.F ln tN wI eS
 obtain⟨q1,q2,q3⟩:=h
 simp only[forall_eq,true_and,and_true,X01,Prod.mk.injEq,decide_eq_true_eq,decide_eq_false_iff_not,Bool.not_eq_true',Bool.not_eq_false']
 refine⟨⟨by omega,by omega,by omega,by omega,rfl,by simp[X0A]⟩,?_⟩
 rintro⟨p,i,out⟩ ⟨h1,h2,h3,h4,h5,h6⟩
 simp only at h1 h2 h3 h4 h5 h6 ⊢
 have hb:=X2Z (a0.drop p.toNat)
 rw[List.length_drop]at hb
 refine⟨fun hi=>⟨h3,h4,fun hz=>?_,fun hz=>?_⟩,fun hi=>?_⟩
 · have e:(a1 - i).toNat=(a1 - i - 1).toNat+1:=by omega
   rw[e]at h6
   have hz':(X0f (a0.drop p.toNat)).2=0:=by simpa using hz
   rw[Xjd,if_pos hz']at h6
   exact h6
 · have hz':¬(X0f (a0.drop p.toNat)).2=0:=by simpa using hz
   have e:(a1 - i).toNat=(a1 - (i+1)).toNat+1:=by omega
   rw[e,Xjd,if_neg hz']at h6
   have e1:IntKind.wrap .i64 (i+1)=i+1:=Go.IntWalk.i64_in _ (by omega)
   have e2:IntKind.wrap .i64 (p+(X0f (a0.drop p.toNat)).2)=p+(X0f (a0.drop p.toNat)).2:=Go.IntWalk.i64_in _ (by omega)
   rw[e1,e2]
   exact⟨by simp;omega,by simp;omega,⟨by omega,by omega,by omega,by omega,by simp;omega,h6⟩,by unfold v7M;omega⟩
 · have e:(a1 - i).toNat=0:=by omega
   rw[e,Xjd]at h6
   exact h6
theorem X2f.eq:EqS X7r Tryz.f242 [138,3] [X1T.e] [] (fun i x=>X2f.L x.1 x.2) (fun i x=>X2f.F x.1 x.2):=by intro i x;kernel_rfl
theorem X2f.ok:X0l Tryz.prog 242 X7r:=X2d X2f.eq Tryz.func242 rfl (by kernel_rfl) fun i x h hi hw=>X2f.pure x.1 x.2 h hw
def X2f.e:GE:=⟨242,X7r,⟨_,Tryz.func242,rfl,rfl⟩,X2f.ok⟩
def cat(W:Nat→Int):Nat→List UInt8
 | 0=>[]
 | i+1=>cat W i++X1P (W i)
theorem Xia(W:Nat→Int){i:Nat}:∀{n:Nat},i<n→∃r,cat W n=cat W i++(X1P (W i)++r)
 | 0,h=>by omega
 | n+1,h=>by
   by_cases e:i=n
   · subst e;exact⟨[],by simp[cat]⟩
   · obtain⟨r,hr⟩:=Xia W (i:=i) (n:=n) (by omega)
     exact⟨r++X1P (W n),by simp only[cat];rw[hr];simp[List.append_assoc]⟩
theorem XaT{W:Nat→Int}(h:X4j (W 0)):∀n,0<n→0<(cat W n).length
 | 1,_=>by simp only[cat,List.nil_append];exact X7z h
 | n+2,_=>by have:=XaT h (n+1) (by omega);simp only[cat,List.length_append]at this ⊢;omega
theorem Xk1{W:Nat→Int}{n i:Nat}{s:List UInt8}(hw:∀j,j<n→X4j (W j))(hs:s.take (cat W n).length=cat W n)(hi:i<n):
 X0f (s.drop (cat W i).length)=(W i,((X1P (W i)).length:Int))∧(s.drop (cat W i).length).drop (X1P (W i)).length=s.drop (cat W (i+1)).length:=by
 obtain⟨r,hr⟩:=Xia W hi
 have e:s=cat W i++(X1P (W i)++(r++s.drop (cat W n).length)):=by
  have:=List.take_append_drop (cat W n).length s
  rw[hs]at this
  rw[hr]at this
  rw[hr]
  conv=>lhs;rw[←this]
  simp[List.append_assoc]
 refine⟨?_,?_⟩
 · have e2:s.drop (cat W i).length=X1P (W i)++(r++s.drop (cat W n).length):=by
    conv=>lhs;rw[e]
    rw[List.drop_left]
   rw[e2,Xjk (hw i hi)]
 · rw[List.drop_drop]
   congr 1
   simp[cat]
def vals(W:Nat→Int)(n:Nat):List Int:=(List.range n).map W
theorem XmJ(W:Nat→Int)(n:Nat):vals W (n+1)=vals W n++[W n]:=by simp[vals,List.range_succ]
theorem Xj1(W:Nat→Int)(n:Nat):(vals W n).length=n:=by simp[vals]
theorem XnO(W:Nat→Int){n i:Nat}(h:i<n):(vals W n).getD i 0=W i:=by
 rw[X0R (by rw[Xj1];exact h)];simp[vals]
theorem XoC{W:Nat→Int}{n:Nat}{s:List UInt8}(hw:∀j,j<n→X4j (W j))(hs:s.take (cat W n).length=cat W n):∀(k i:Nat),i+k=n→Xjd s k ((cat W i).length:Int) (vals W i)=(vals W n,((cat W n).length:Int))
 | 0,i,h=>by
   have:i=n:=by omega
   subst this;rfl
 | k+1,i,h=>by
   obtain⟨h1,h2⟩:=Xk1 hw hs (i:=i) (by omega)
   have hp:=X7z (hw i (by omega))
   rw[Xjd,Int.toNat_natCast,h1]
   simp only
   rw[if_neg (by omega),←XmJ,show((cat W i).length:Int)+((X1P (W i)).length:Int)=((cat W (i+1)).length:Int) by simp[cat]]
   exact XoC hw hs k (i+1) (by omega)
theorem XhH{W:Nat→Int}{n:Nat}{s:List UInt8}(hw:∀j,j<n→X4j (W j))(hs:s.take (cat W n).length=cat W n):X0A s n=(vals W n,((cat W n).length:Int)):=by
 unfold X0A
 rw[Int.toNat_natCast]
 exact XoC hw hs n 0 (by omega)
theorem XlY{s:List UInt8}:∀(k:Nat) (p:Int) (out:List Int),0≤p→p≤s.length→(Xjd s k p out).2<0∨∃vs:List Int,(Xjd s k p out).1=out++vs∧vs.length=k∧(∀v∈vs,X4j v)∧(Xjd s k p out).2=p+((enc vs).length:Int)∧(s.drop p.toNat).take (enc vs).length=enc vs
 | 0,p,out,h,h'=>.inr ⟨[],by simp[Xjd],rfl,by simp,by simp[Xjd,enc],by simp[enc]⟩
 | k+1,p,out,h,h'=>by
   rw[Xjd]
   split
   · left;exact(by decide:(-1:Int)<0)
   · rename_i h0
     obtain⟨q1,q2⟩:=XlN h0
     have hb:=X2Z (s.drop p.toNat)
     rw[List.length_drop]at hb
     rcases XlY (s:=s) k (p+(X0f (s.drop p.toNat)).2) (out++[(X0f (s.drop p.toNat)).1]) (by omega) (by omega) with h1 | ⟨vs,k1,k2,k3,k4,k5⟩
     · exact .inl h1
     · right
       have hl:(X1P (X0f (s.drop p.toNat)).1).length=(X0f (s.drop p.toNat)).2.toNat:=by
        have q1':=congrArg List.length q1
        rw[List.length_take,List.length_drop]at q1'
        omega
       refine⟨(X0f (s.drop p.toNat)).1::vs,by rw[k1];simp,by simp[k2],fun v hv=>?_,?_,?_⟩
       · rcases List.mem_cons.1 hv with e | hv
         · rw[e];exact q2
         · exact k3 v hv
       · rw[k4,XgR,List.length_append,hl];omega
       · rw[XgR,List.length_append,List.take_add,hl,q1,List.drop_drop]
         congr 1
         rw[show p.toNat+(X0f (s.drop p.toNat)).2.toNat=(p+(X0f (s.drop p.toNat)).2).toNat by omega]
         exact k5
theorem Xkc{s:List UInt8}{n:Nat}(h:¬(X0A s n).2<0):(X0A s n).1.length=n∧(∀v∈(X0A s n).1,X4j v)∧(X0A s n).2=((enc (X0A s n).1).length:Int)∧s.take (enc (X0A s n).1).length=enc (X0A s n).1:=by
 unfold X0A at h ⊢
 rw[Int.toNat_natCast]at h ⊢
 rcases XlY (s:=s) n 0 [] (by omega) (by omega) with h1 | ⟨vs,k1,k2,k3,k4,k5⟩
 · exact absurd h1 h
 · rw[List.nil_append]at k1
   rw[k1]
   refine⟨k2,k3,by rw[k4];omega,?_⟩
   simpa using k5
def X3Q(z:Int):Int×Bool:=if fIn z 0 281474976710656 then((if z % 2=1 then -(z+1) / 2 else z / 2),true) else(0,false)
theorem Xe6{d:Int}(h:fIn d (-140737488355328) 140737488355328=true):X3Q (Xcv d)=(d,true):=by
 rw[X0C]at h
 unfold Xcv
 rw[if_pos (X0C.2 h)]
 unfold X3Q
 split
 · rw[if_pos (X0C.2 (by omega)),if_pos (by omega)]
   simp only[Prod.mk.injEq,and_true];omega
 · rw[if_pos (X0C.2 (by omega)),if_neg (by omega)]
   simp only[Prod.mk.injEq,and_true];omega
theorem Xms{d:Int}(h:fIn d (-140737488355328) 140737488355328=true):X4j (Xcv d):=by
 rw[X0C]at h
 unfold Xcv X4j
 rw[if_pos (X0C.2 h)]
 split<;>omega
theorem Xic(z:Int):-140737488355329≤(X3Q z).1∧(X3Q z).1≤140737488355328:=by
 unfold X3Q
 split
 · rename_i h;rw[X0C]at h;simp only;split<;>omega
 · simp
def Xda(i:Rd):Int×Rd:=((X3Q (X4A i).1).1,((X4A i).2.1,(X4A i).2.2&&(X3Q (X4A i).1).2))
theorem XjP(i:Rd):0≤(X4A i).1∧(X4A i).1≤562949953421311:=by
 have:=X2Z i.1
 unfold X4A;split<;>simp<;>omega
def X6E(s t:List UInt8):Bool:=s.take t.length==t
def X6s(s t:List UInt8):Int×Bool:=((t.length:Int),decide (t≠[])&&X6E s t)
def Xl4(z:Int):Int:=(X3Q z).1
theorem Xm8(i:Rd):-140737488355329≤(Xda i).1∧(Xda i).1≤140737488355328:=Xic _
theorem XpI{a:Int}(h:0≤a):Int.tdiv a 2=a / 2:=Int.tdiv_eq_ediv_of_nonneg h
theorem Xrp{a:Int}(h:0≤a)(h2:a % 2=0):Int.tdiv (0 - a) 2= -a / 2:=by
 rw[Int.zero_sub,Int.neg_tdiv,XpI h];omega
theorem Xrr{a:Int}(h:0≤a):Int.tmod a 2=a % 2:=Int.tmod_eq_emod_of_nonneg h
def X85:Con:={A:=(.int .i64),shA:=[.one],R:=(.pair (.int .i64) .bool),shR:=[(false,1),(false,1)],pre:=fun _ _=>True,f:=some fun _ a=>((X3Q a),((),()))}
def X3U.F(a0:Int):Prop:=(X00 (decide (a0<(0:Int))) (Eq ((0,false),((),())) ((X3Q a0),((),()))) (X00 (decide (a0>(281474976710656:Int))) (Eq ((0,false),((),())) ((X3Q a0),((),()))) ((2:Int)≠0∧((2:Int)≠0∧(X00 ((Int.tmod a0 (2:Int))==(1:Int)) (True∧∀r1,(Eq r1 ((Xcv (wI ((wI (0 - (wI (Int.tdiv a0 (2:Int))))) - (1:Int)))),((),())))→(Eq (((wI ((wI (0 - (wI (Int.tdiv a0 (2:Int))))) - (1:Int))),(r1.1==a0)),((),())) ((X3Q a0),((),())))) (True∧∀r2,(Eq r2 ((Xcv (wI (Int.tdiv a0 (2:Int)))),((),())))→(Eq (((wI (Int.tdiv a0 (2:Int))),(r2.1==a0)),((),())) ((X3Q a0),((),())))))))))
theorem X3U.pure(a0:Int)(h:True)(hw:Wf X85.A a0):X3U.F a0:=by
 delta X3U.F wI
 simp only[Bs,B0,B1,Prod.mk.injEq,X01]
 refine⟨fun h1=>?_,fun h1=>⟨fun h2=>?_,fun h2=>?_⟩⟩
 · unfold X3Q;rw[if_neg (by rw[X0C];omega)]
 · unfold X3Q;rw[if_neg (by rw[X0C];omega)]
 rw[Xrr (by omega),XpI (by omega),w64 (x:=a0 / 2) (by omega) (by omega),w64 (x:=0 - a0 / 2) (by omega) (by omega),w64 (x:=0 - a0 / 2 - 1) (by omega) (by omega)]
 have hp:fIn a0 0 281474976710656=true:=X0C.2 (by omega)
 refine⟨by omega,by omega,fun h3=>?_,fun h3=>?_⟩
 · unfold X3Q Xcv
   rw[if_pos hp,if_pos h3,if_pos (X0C.2 (by omega)),if_pos (by omega)]
   simp;omega
 · unfold X3Q Xcv
   rw[if_pos hp,if_neg h3,if_pos (X0C.2 (by omega)),if_neg (by omega)]
   simp;omega
theorem X3U.eq:EqS X85 Tryz.f264 [3,4] [X2X.e] [] noL (fun i x=>X3U.F x):=by intro i x;kernel_rfl
theorem X3U.ok:X0l Tryz.prog 264 X85:=X2d X3U.eq Tryz.func264 rfl (by kernel_rfl) fun i x h hi hw=>X3U.pure x h hw
def X3U.e:GE:=⟨264,X85,⟨_,Tryz.func264,rfl,rfl⟩,X3U.ok⟩
def X8i:Con:={A:=(.int .i64),shA:=[.one],R:=(.pair (.int .i64) .bool),shR:=[(false,1),(false,1)],pre:=fun _ _=>True,f:=some fun _ a=>((X3Q a),((),()))}
def X3X.F(a0:Int):Prop:=(True∧∀r1,(Eq r1 ((fIn a0 0 281474976710656),((),())))→(X00 (!r1.1) (Eq ((0,false),((),())) ((X3Q a0),((),()))) ((2:Int)≠0∧(X00 ((Int.tmod a0 (2:Int))==(1:Int)) ((2:Int)≠0∧(Eq (((wI (Int.tdiv (wI (0 - (wI (a0+(1:Int))))) (2:Int))),true),((),())) ((X3Q a0),((),())))) ((2:Int)≠0∧(Eq (((wI (Int.tdiv a0 (2:Int))),true),((),())) ((X3Q a0),((),()))))))))
theorem X3X.pure(a0:Int)(h:True)(hw:Wf X8i.A a0):X3X.F a0:=by
 delta X3X.F wI
 simp only[Bs,B0,B1,Prod.mk.injEq,X01]
 refine⟨fun h1=>by simp[X3Q,h1],fun h1=>?_⟩
 have hp:=X0C.1 h1
 rw[Xrr hp.1,XpI hp.1,w64 (x:=a0 / 2) (by omega) (by omega),w64 (x:=a0+1) (by omega) (by omega),w64 (x:=0 - (a0+1)) (by omega) (by omega)]
 refine⟨by omega,fun h3=>⟨by omega,?_⟩,fun h3=>⟨by omega,?_⟩⟩
 · rw[Xrp (by omega) (by omega),w64 (by omega) (by omega)]
   simp[X3Q,h1,h3]
 · simp[X3Q,h1,h3]
theorem X3X.eq:EqS X8i Tryz.f265 [3,4] [X1K.e] [] noL (fun i x=>X3X.F x):=by intro i x;kernel_rfl
theorem X3X.ok:X0l Tryz.prog 265 X8i:=X2d X3X.eq Tryz.func265 rfl (by kernel_rfl) fun i x h hi hw=>X3X.pure x h hw
def X3X.e:GE:=⟨265,X8i,⟨_,Tryz.func265,rfl,rfl⟩,X3X.ok⟩
def X65:Con:={io:=true,I:=(.pair .str .bool),A:=.unit,shA:=[],R:=(.int .i64),shR:=[(false,1)],pre:=fun i _=>True,f:=some fun i a=>((Xda i).1,((Xda i).2,()))}
def X3h.F(i0:(U5q×Bool)):Prop:=(True∧∀r1,(Eq r1 ((X4A (i0.1,i0.2)).1,((X4A (i0.1,i0.2)).2,())))→(True∧∀r2,(Eq r2 ((X3Q r1.1),((),())))→(X00 r1.2.1.2 (Eq (r2.1.1,((r1.2.1.1,r2.1.2),())) ((Xda i0).1,((Xda i0).2,()))) (Eq (r2.1.1,((r1.2.1.1,false),())) ((Xda i0).1,((Xda i0).2,()))))))
theorem X3h.pure(i0:(U5q×Bool))(h:True)(hi:Wf X65.I i0)(hw:Wf X65.A ()):X3h.F i0:=by
 unfold X3h.F
 simp only[Bs,B0,B1,Prod.mk.injEq,X01]
 exact⟨fun h1=>by simp[Xda,h1],fun h1=>by simp[Xda,h1]⟩
theorem X3h.eq:EqS X65 Tryz.f247 [3] [X2B.e,X3X.e] [] noL (fun i x=>X3h.F i):=by intro i x;kernel_rfl
theorem X3h.ok:X0l Tryz.prog 247 X65:=X2d X3h.eq Tryz.func247 rfl (by kernel_rfl) fun i x h hi hw=>X3h.pure i h (hi rfl) hw
def X3h.e:GE:=⟨247,X65,⟨_,Tryz.func247,rfl,rfl⟩,X3h.ok⟩
def X9n:Con:={A:=(.int .i64),shA:=[.one],R:=(.int .i64),shR:=[(false,1)],pre:=fun _ _=>True,f:=some fun _ a=>((Xl4 a),((),()))}
def X4n.F(a0:Int):Prop:=(True∧∀r1,(Eq r1 ((X3Q a0),((),())))→(Eq (r1.1.1,((),())) ((Xl4 a0),((),()))))
theorem X4n.pure(a0:Int)(h:True)(hw:Wf X9n.A a0):X4n.F a0:=by
 unfold X4n.F
 simp only[Bs,B0,B1,Prod.mk.injEq,X01]
 repeat' (with_reducible (first | (refine And.intro ?_ ?_) | intro _))
 all_goals (try simp (disch:=omega) only[w64,wu8,tn0,tn1,tm1,tm2,List.length_append,List.length_cons,List.length_nil]at*)
 all_goals (try simp (disch:=omega) only[w64,wu8,tn0,tn1,tm1,tm2,List.length_append,List.length_cons,List.length_nil]at*)
 all_goals (try omega)
 all_goals (try grind[Xl4])
theorem X4n.eq:EqS X9n Tryz.f243 [3] [X3U.e] [] noL (fun i x=>X4n.F x):=by intro i x;kernel_rfl
theorem X4n.ok:X0l Tryz.prog 243 X9n:=X2d X4n.eq Tryz.func243 rfl (by kernel_rfl) fun i x h hi hw=>X4n.pure x h hw
def X4n.e:GE:=⟨243,X9n,⟨_,Tryz.func243,rfl,rfl⟩,X4n.ok⟩
def X1R:Con:={A:=(.pair .str .str),shA:=[.one,.one],R:=.bool,shR:=[(false,1)],pre:=fun _ _=>True,f:=some fun _ a=>((X6E a.1 a.2),((),()))}
def X0h.F(a0:U5q)(a1:U5q):Prop:=(X00 (decide ((ln a0)≥(ln a1))) (0≤(ln a1)∧((ln a1)≤(ln a0)∧(Eq (((List.take (tN (ln a1)) a0)==a1),((),())) ((X6E a0 a1),((),()))))) (Eq (false,((),())) ((X6E a0 a1),((),()))))
theorem X0h.pure(a0:U5q)(a1:U5q)(h:True)(hw:Wf X1R.A (a0,a1)):X0h.F a0 a1:=by
 delta X0h.F ln tN
 simp only[Bs,B0,B1,Prod.mk.injEq,X01]
 refine⟨fun h1=>⟨by omega,by omega,by rw[show((a1.length:Nat):Int).toNat=a1.length by omega];rfl⟩,fun h1=>?_⟩
 symm;unfold X6E;rw[beq_eq_false_iff_ne];intro e
 have:=congrArg List.length e;simp at this;omega
theorem X0h.eq:EqS X1R Tryz.f273 [4] [] [] noL (fun i x=>X0h.F x.1 x.2):=by intro i x;kernel_rfl
theorem X0h.ok:X0l Tryz.prog 273 X1R:=X2d X0h.eq Tryz.func273 rfl (by kernel_rfl) fun i x h hi hw=>X0h.pure x.1 x.2 h hw
def X0h.e:GE:=⟨273,X1R,⟨_,Tryz.func273,rfl,rfl⟩,X0h.ok⟩
def X4d:Con:={A:=(.pair .str .str),shA:=[.one,.one],R:=.bool,shR:=[(false,1)],pre:=fun _ _=>True,f:=some fun _ a=>((X6E a.1 a.2),((),()))}
def X1c.F(a0:U5q)(a1:U5q):Prop:=(True∧∀r1,(Eq r1 ((X6E a0 a1),((),())))→(Eq (r1.1,((),())) ((X6E a0 a1),((),()))))
theorem X1c.pure(a0:U5q)(a1:U5q)(h:True)(hw:Wf X4d.A (a0,a1)):X1c.F a0 a1:=by
 unfold X1c.F
 simp only[Bs,B0,B1,Prod.mk.injEq,X01]
 repeat' (with_reducible (first | (refine And.intro ?_ ?_) | intro _))
 all_goals (try simp (disch:=omega) only[w64,wu8,tn0,tn1,tm1,tm2,List.length_append,List.length_cons,List.length_nil]at*)
 all_goals (try simp (disch:=omega) only[w64,wu8,tn0,tn1,tm1,tm2,List.length_append,List.length_cons,List.length_nil]at*)
 all_goals (try omega)
 all_goals (try grind[])
theorem X1c.eq:EqS X4d Tryz.f266 [4] [X0h.e] [] noL (fun i x=>X1c.F x.1 x.2):=by intro i x;kernel_rfl
theorem X1c.ok:X0l Tryz.prog 266 X4d:=X2d X1c.eq Tryz.func266 rfl (by kernel_rfl) fun i x h hi hw=>X1c.pure x.1 x.2 h hw
def X1c.e:GE:=⟨266,X4d,⟨_,Tryz.func266,rfl,rfl⟩,X1c.ok⟩
def X8n:Con:={A:=(.pair .str .str),shA:=[.one,.one],R:=(.pair (.int .i64) .bool),shR:=[(false,1),(false,1)],pre:=fun _ _=>True,f:=some fun _ a=>((X6s a.1 a.2),((),()))}
def X3G.F(a0:U5q)(a1:U5q):Prop:=(X00 (!(a1==[])) (True∧∀r1,(Eq r1 ((X6E a0 a1),((),())))→(Eq (((ln a1),r1.1),((),())) ((X6s a0 a1),((),())))) (Eq (((ln a1),false),((),())) ((X6s a0 a1),((),()))))
theorem X3G.pure(a0:U5q)(a1:U5q)(h:True)(hw:Wf X8n.A (a0,a1)):X3G.F a0 a1:=by
 delta X3G.F ln
 simp only[Bs,B0,B1,Prod.mk.injEq,X01]
 repeat' (with_reducible (first | (refine And.intro ?_ ?_) | intro _))
 all_goals (try simp (disch:=omega) only[w64,wu8,tn0,tn1,tm1,tm2,List.length_append,List.length_cons,List.length_nil]at*)
 all_goals (try simp (disch:=omega) only[w64,wu8,tn0,tn1,tm1,tm2,List.length_append,List.length_cons,List.length_nil]at*)
 all_goals (try omega)
 all_goals (try grind[X6s])
theorem X3G.eq:EqS X8n Tryz.f248 [3,4] [X1c.e] [] noL (fun i x=>X3G.F x.1 x.2):=by intro i x;kernel_rfl
theorem X3G.ok:X0l Tryz.prog 248 X8n:=X2d X3G.eq Tryz.func248 rfl (by kernel_rfl) fun i x h hi hw=>X3G.pure x.1 x.2 h hw
def X3G.e:GE:=⟨248,X8n,⟨_,Tryz.func248,rfl,rfl⟩,X3G.ok⟩
theorem X99{l:List Int}{i:Nat}(hi:i<l.length):l.take (i+1)=l.take i++[l.getD i 0]:=by
 rw[List.take_add_one,List.getD_eq_getElem?_getD,List.getElem?_eq_getElem hi];rfl
theorem Xac{l:List Int}{i j:Nat}(h:j<i):(l.take i).getD j 0=l.getD j 0:=by
 simp[List.getD_eq_getElem?_getD,List.getElem?_take,h]
theorem XhN{l:List Int}{i:Nat}{x:Int}(h:i=l.length):(l++[x]).getD i 0=x:=by subst h;simp[List.getD_eq_getElem?_getD]
theorem XkI{l:List Int}{i:Nat}{x:Int}(h:i<l.length):(l++[x]).getD i 0=l.getD i 0:=by simp[List.getD_eq_getElem?_getD,List.getElem?_append_left h]
section
variable (ok:List Int→Bool) (W:List Int→Nat→Int) (nx:List Int→List Int→Nat→Int)
def RW(s:List UInt8)(n:Int)(l:List Int):Prop:=(l.length:Int)=n∧ok l=true∧s.take (cat (W l) l.length).length=cat (W l) l.length
def Xn8(v:List Int):Nat→List Int
 | 0=>[]
 | i+1=>Xn8 v i++[nx (Xn8 v i) v i]
instance (s:List UInt8) (n:Int) (l:List Int):Decidable (RW ok W s n l):=by unfold RW;infer_instance
def XeN(s:List UInt8)(n:Int):List Int×Int:=
 if RW ok W s n (Xn8 nx (X0A s n).1 n.toNat) then(Xn8 nx (X0A s n).1 n.toNat,((cat (W (Xn8 nx (X0A s n).1 n.toNat)) (Xn8 nx (X0A s n).1 n.toNat).length).length:Int)) else([],0)
variable {ok W nx} (hW:∀l,ok l=true→∀i,i<l.length→X4j (W l i))
include hW
theorem RW.vars{s:List UInt8}{n:Int}{l:List Int}(h:RW ok W s n l):X0A s n=(vals (W l) l.length,((cat (W l) l.length).length:Int)):=by
 have e:=XhH (W:=W l) (n:=l.length) (s:=s) (hW l h.2.1) h.2.2
 rw[h.1]at e
 exact e
theorem RW.at{s:List UInt8}{n:Int}{l:List Int}(h:RW ok W s n l){i:Nat}(hi:i<l.length):(X0A s n).1.getD i 0=W l i:=by
 rw[RW.vars hW h];exact XnO _ hi
variable (hn:∀l,ok l=true→∀(v:List Int) i,i<l.length→v.getD i 0=W l i→nx (l.take i) v i=l.getD i 0)
include hn
theorem RW.dec{s:List UInt8}{n:Int}{l:List Int}(h:RW ok W s n l):∀i,i≤l.length→Xn8 nx (X0A s n).1 i=l.take i
 | 0,_=>by simp[Xn8]
 | i+1,hi=>by
   rw[Xn8,RW.dec h i (by omega),X99 (by omega),hn l h.2.1 _ i (by omega) (RW.at hW h (by omega))]
theorem RW.yes{s:List UInt8}{n:Int}{l:List Int}(h:RW ok W s n l):XeN ok W nx s n=(l,((cat (W l) l.length).length:Int)):=by
 have e:Xn8 nx (X0A s n).1 n.toNat=l:=by rw[RW.dec hW hn h _ (by have:=h.1;omega),show n.toNat=l.length by have:=h.1;omega,List.take_length]
 unfold XeN
 rw[e,if_pos h]
theorem RW.get{s:List UInt8}{n:Int}(h0:ok []=false):XeN ok W nx s n=([],0)∧(∀l,¬RW ok W s n l)∨∃l,RW ok W s n l∧XeN ok W nx s n=(l,((cat (W l) l.length).length:Int)):=by
 by_cases h:∃l,RW ok W s n l
 · obtain⟨l,h⟩:=h
   exact .inr ⟨l,h,RW.yes hW hn h⟩
 · refine .inl ⟨?_,fun l hl=>h ⟨l,hl⟩⟩
   unfold XeN
   rw[if_neg fun hl=>h ⟨_,hl⟩]
end
def tmW(l:List Int)(i:Nat):Int:=if i=0 then l.getD 0 0 else if i=1 then l.getD 1 0 - l.getD 0 0 else Xcv (l.getD i 0 - l.getD (i - 1) 0 - (l.getD (i - 1) 0 - l.getD (i - 2) 0))
def vlW(l:List Int)(i:Nat):Int:=Xcv (l.getD i 0 - (if i=0 then 0 else l.getD (i - 1) 0))
theorem XoN(l:List Int):∀i,tmS l i=cat (tmW l) i
 | 0=>rfl
 | i+1=>by
   rw[XjF,XoN l i,cat]
   congr 1
   unfold Xb1 tmW
   split
   · rfl
   · split<;>rfl
theorem Xox(l:List Int):∀i,vlS l i=cat (vlW l) i
 | 0=>rfl
 | i+1=>by rw[XjM,Xox l i,cat];rfl
theorem XlI{l:List Int}(h:X8J l=true){i:Nat}(hi:i<l.length)(h2:2≤i):fIn (l.getD i 0 - l.getD (i - 1) 0 - (l.getD (i - 1) 0 - l.getD (i - 2) 0)) (-140737488355328) 140737488355328=true:=by
 have h1:=Xbh h hi
 have h2:=Xbh h (i:=i - 1) (by omega)
 have h3:=Xbh h (i:=i - 2) (by omega)
 rw[X0C];omega
theorem XaS(l:List Int)(h:X8J l=true)(i:Nat)(hi:i<l.length):X4j (tmW l i):=by
 have h0:=Xbh h (i:=0) (by omega)
 unfold tmW
 split
 · unfold X4j;omega
 · split
   · have h1:=X7B.1 ((X4i.1 h).2 1 (by omega))
     simp only[show(1:Nat) - 1=0 from rfl]at h1
     unfold X4j;omega
   · exact Xms (XlI h hi (by omega))
theorem XlW{l:List Int}(h:X8V l=true){i:Nat}(hi:i<l.length):fIn (l.getD i 0 - (if i=0 then 0 else l.getD (i - 1) 0)) (-140737488355328) 140737488355328=true:=by
 have h1:=Xin h hi
 rw[X0C]
 split
 · omega
 · have h2:=Xin h (i:=i - 1) (by omega)
   omega
theorem XbR(l:List Int)(h:X8V l=true)(i:Nat)(hi:i<l.length):X4j (vlW l i):=Xms (XlW h hi)
def nxT(o v:List Int)(i:Nat):Int:=if i=0 then v.getD 0 0 else if i=1 then o.getD 0 0+v.getD 1 0 else o.getD (i - 1) 0+(o.getD (i - 1) 0 - o.getD (i - 2) 0+(X3Q (v.getD i 0)).1)
def nxV(o v:List Int)(i:Nat):Int:=(if i=0 then 0 else o.getD (i - 1) 0)+(X3Q (v.getD i 0)).1
theorem Xll(l:List Int)(h:X8J l=true)(v:List Int)(i:Nat)(hi:i<l.length)(hv:v.getD i 0=tmW l i):nxT (l.take i) v i=l.getD i 0:=by
 unfold nxT
 unfold tmW at hv
 by_cases h0:i=0
 · subst h0;simpa using hv
 rw[if_neg h0]at hv ⊢
 by_cases h1:i=1
 · subst h1
   rw[if_pos rfl]at hv
   rw[if_pos rfl,Xac (by omega),hv];omega
 rw[if_neg h1]at hv ⊢
 rw[hv,Xe6 (XlI h hi (by omega)),Xac (by omega),Xac (by omega)]
 simp only;omega
theorem Xlg(l:List Int)(h:X8V l=true)(v:List Int)(i:Nat)(hi:i<l.length)(hv:v.getD i 0=vlW l i):nxV (l.take i) v i=l.getD i 0:=by
 unfold nxV
 rw[hv,vlW,Xe6 (XlW h hi)]
 split
 · simp
 · rw[Xac (by omega)];simp only;omega
def X3a(s:List UInt8)(n:Int):List Int×Int:=XeN X8J tmW nxT s n
def X3j(s:List UInt8)(n:Int):List Int×Int:=XeN X8V vlW nxV s n
abbrev RT:=RW X8J tmW
abbrev RV:=RW X8V vlW
theorem X6K{l:List Int}(h:X8J l=true):X0m l=cat (tmW l) l.length:=by unfold X0m;rw[if_pos h,XoN]
theorem X6Z{l:List Int}(h:X8V l=true):X0i l=cat (vlW l) l.length:=by unfold X0i;rw[if_pos h,Xox]
theorem Xep(s:List UInt8)(n:Int):X3a s n=([],0)∧(∀l,¬RT s n l)∨∃l,RT s n l∧X3a s n=(l,((cat (tmW l) l.length).length:Int)):=RW.get XaS Xll rfl
theorem XeG(s:List UInt8)(n:Int):X3j s n=([],0)∧(∀l,¬RV s n l)∨∃l,RV s n l∧X3j s n=(l,((cat (vlW l) l.length).length:Int)):=RW.get XbR Xlg rfl
theorem XbJ{s:List UInt8}{n:Int}{l:List Int}(h:RT s n l):X3a s n=(l,((cat (tmW l) l.length).length:Int)):=RW.yes XaS Xll h
theorem XbH{s:List UInt8}{n:Int}{l:List Int}(h:RV s n l):X3j s n=(l,((cat (vlW l) l.length).length:Int)):=RW.yes XbR Xlg h
def pRd(s:List UInt8)(n:Int):Prop:=s.length≤9223372036854775807
theorem Xlo{s:List UInt8}{n:Int}(hn:1≤n)(h:¬(X0A s n).2<0):((X0A s n).1.length:Int)=n∧(∀j:Nat,0≤(X0A s n).1.getD j 0∧(X0A s n).1.getD j 0≤562949953421311)∧0<(X0A s n).2∧(X0A s n).2≤s.length:=by
 obtain⟨k,rfl⟩:∃k:Nat,n=k:=⟨n.toNat,by omega⟩
 obtain⟨h1,h2,h3,h4⟩:=Xkc h
 have h5:=congrArg List.length h4
 rw[List.length_take]at h5
 refine⟨by omega,fun j=>?_,?_,by omega⟩
 · by_cases hj:j<(X0A s k).1.length
   · have:=h2 _ (X0Y (l:=(X0A s k).1) (d:=0) hj)
     exact this
   · rw[List.getD_eq_getElem?_getD,List.getElem?_eq_none (by omega)];simp
 · rw[h3]
   cases e:(X0A s k).1 with
   | nil=>rw[e]at h1;simp at h1;omega
   | cons v r=>
     have:=X7z (h2 v (by rw[e];simp))
     rw[XgR,List.length_append];omega
def rsI(s:List UInt8)(n i:Int)(out:List Int):Prop:=1≤i∧i≤n∧(out.length:Int)=i∧((0≤out.getD (i.toNat - 1) 0∧out.getD (i.toNat - 1) 0≤562949953421311)∧(2≤i→0≤out.getD (i.toNat - 2) 0∧out.getD (i.toNat - 2) 0≤562949953421311))∧∀l,RT s n l→out=l.take i.toNat
def rsM(s:List UInt8)(n i:Int)(out:List Int):Nat:=(n - i).toNat
def vsI(s:List UInt8)(n last i:Int)(out:List Int):Prop:=0≤i∧i≤n∧(out.length:Int)=i∧(-1099511627776≤last∧last≤1099511627776)∧last=(if i=0 then 0 else out.getD (i.toNat - 1) 0)∧∀l,RV s n l→out=l.take i.toNat
def vsM(s:List UInt8)(n last i:Int)(out:List Int):Nat:=(n - i).toNat
theorem XmY(z:Int):-140737488355329≤Xl4 z∧Xl4 z≤140737488355328:=Xic z
theorem RT.val{s:List UInt8}{n:Int}{l:List Int}(h:RT s n l){i:Nat}(hi:i<l.length):(X0A s n).1.getD i 0=tmW l i:=RW.at XaS h hi
theorem RV.val{s:List UInt8}{n:Int}{l:List Int}(h:RV s n l){i:Nat}(hi:i<l.length):(X0A s n).1.getD i 0=vlW l i:=RW.at XbR h hi
theorem rt_of{s:List UInt8}{n k:Int}{out:List Int}(h1:(out.length:Int)=n)(hk:0<k)(hk2:k≤s.length)(h:X0m out=s.take k.toNat):RT s n out∧k=((cat (tmW out) out.length).length:Int):=by
 by_cases hr:X8J out=true
 · rw[X6K hr]at h
   have h2:=congrArg List.length h
   rw[List.length_take]at h2
   refine⟨⟨h1,hr,?_⟩,by omega⟩
   rw[show(cat (tmW out) out.length).length=k.toNat by omega,←h]
 · unfold X0m at h
   rw[if_neg hr]at h
   have h2:=congrArg List.length h
   rw[List.length_take]at h2
   simp at h2;omega
theorem rv_of{s:List UInt8}{n k:Int}{out:List Int}(h1:(out.length:Int)=n)(hk:0<k)(hk2:k≤s.length)(h:X0i out=s.take k.toNat):RV s n out∧k=((cat (vlW out) out.length).length:Int):=by
 by_cases hr:X8V out=true
 · rw[X6Z hr]at h
   have h2:=congrArg List.length h
   rw[List.length_take]at h2
   refine⟨⟨h1,hr,?_⟩,by omega⟩
   rw[show(cat (vlW out) out.length).length=k.toNat by omega,←h]
 · unfold X0i at h
   rw[if_neg hr]at h
   have h2:=congrArg List.length h
   rw[List.length_take]at h2
   simp at h2;omega
theorem X9b{s:List UInt8}{n:Int}(h:∀l,¬RT s n l):([],0)=X3a s n:=by
 rcases Xep s n with⟨e,_⟩ | ⟨l,hl,_⟩
 · exact e.symm
 · exact absurd hl (h l)
theorem X9e{s:List UInt8}{n:Int}(h:∀l,¬RV s n l):([],0)=X3j s n:=by
 rcases XeG s n with⟨e,_⟩ | ⟨l,hl,_⟩
 · exact e.symm
 · exact absurd hl (h l)
theorem RT.len{s:List UInt8}{n:Int}{l:List Int}(h:RT s n l):fIn n 1 60=true:=by
 rw[X0C];have h1:=(X4i.1 h.2.1).1;have:=h.1;omega
theorem RV.len{s:List UInt8}{n:Int}{l:List Int}(h:RV s n l):fIn n 1 60=true:=by
 rw[X0C];have h1:=(X4I.1 h.2.1).1;have:=h.1;omega
theorem RT.pos{s:List UInt8}{n:Int}{l:List Int}(h:RT s n l):¬(X0A s n).2<0:=by
 rw[RW.vars XaS h];simp only;omega
theorem RV.pos{s:List UInt8}{n:Int}{l:List Int}(h:RV s n l):¬(X0A s n).2<0:=by
 rw[RW.vars XbR h];simp only;omega
theorem Xoi{s:List UInt8}{n:Int}(hn:1≤n)(hv:∀j:Nat,0≤(X0A s n).1.getD j 0∧(X0A s n).1.getD j 0≤562949953421311):rsI s n 1 [(X0A s n).1.getD (Int.toNat 0) 0]:=by
 refine⟨by omega,hn,rfl,⟨hv 0,fun h=>by omega⟩,fun l hl=>?_⟩
 have h1:=hl.1
 rw[show(1:Int).toNat=0+1 from rfl,X99 (by omega),show Int.toNat 0=0 from rfl,RT.val hl (by omega)]
 rfl
theorem XoS{s:List UInt8}{n x i:Int}{out:List Int}(hI:rsI s n i out)(hi:i<n)(hx:∀l,RT s n l→x=l.getD i.toNat 0)(h:fIn x 0 1099511627776=false):([],0)=X3a s n:=by
 refine X9b fun l hl=>?_
 have h1:=hl.1
 have h2:=hI.1
 have:=Xbh hl.2.1 (i:=i.toNat) (by omega)
 rw[hx l hl,X0C.2 this]at h;cases h
theorem Xmo{s:List UInt8}{n x i:Int}{out:List Int}(hI:rsI s n i out)(hi:i<n)(hx:∀l,RT s n l→x=l.getD i.toNat 0)(h:fIn x 0 1099511627776=true):rsI s n (i+1) (out++[x]):=by
 obtain⟨h1,h2,h3,h4,h5⟩:=hI
 rw[X0C]at h
 refine⟨by omega,by omega,by simp;omega,⟨?_,fun _=>?_⟩,fun l hl=>?_⟩
 · rw[XhN (by omega)];omega
 · rw[XkI (by omega),show(i+1).toNat - 2=i.toNat - 1 by omega];exact h4.1
 · have:=hl.1
   rw[show(i+1).toNat=i.toNat+1 by omega,X99 (by omega),←h5 l hl,hx l hl]
theorem Xqk{s:List UInt8}{n i:Int}{out:List Int}(hI:rsI s n i out)(hi:i<n)(h0:¬i>1):∀l,RT s n l→out.getD (i.toNat - 1) 0+(X0A s n).1.getD i.toNat 0=l.getD i.toNat 0:=fun l hl=>by
 have h1:=hl.1
 have h2:=hI.1
 rw[RT.val hl (by omega),hI.2.2.2.2 l hl,show i=1 by omega,show(1:Int).toNat - 1=0 from rfl,show(1:Int).toNat=1 from rfl,Xac (by omega)]
 unfold tmW;simp;omega
theorem Xqx{s:List UInt8}{n i:Int}{out:List Int}(hI:rsI s n i out)(hi:i<n)(h0:i>1):∀l,RT s n l→out.getD (i.toNat - 1) 0+(out.getD (i.toNat - 1) 0 - out.getD (i.toNat - 2) 0+Xl4 ((X0A s n).1.getD i.toNat 0))=l.getD i.toNat 0:=fun l hl=>by
 have h1:=hl.1
 have h2:=hI.1
 have:=Xll l hl.2.1 (X0A s n).1 i.toNat (by omega) (RT.val hl (by omega))
 rw[nxT,if_neg (by omega),if_neg (by omega),←hI.2.2.2.2 l hl]at this
 exact this
theorem XrH{s:List UInt8}{n i:Int}{out:List Int}(hI:rsI s n i out)(hi:¬i<n)(hk:0<(X0A s n).2)(hk2:(X0A s n).2≤s.length):(¬X0m out=s.take (X0A s n).2.toNat→([],0)=X3a s n)∧(X0m out=s.take (X0A s n).2.toNat→(out,(X0A s n).2)=X3a s n):=by
 obtain⟨h1,h2,h3,_,h5⟩:=hI
 refine⟨fun h=>X9b fun l hl=>h ?_,fun h=>?_⟩
 · have:=hl.1
   rw[h5 l hl,show i.toNat=l.length by omega,List.take_length,RW.vars XaS hl,X6K hl.2.1]
   simp only[Int.toNat_natCast]
   exact hl.2.2.symm
 · obtain⟨q1,q2⟩:=rt_of (n:=n) (by omega) hk hk2 h
   rw[XbJ q1,←q2]
theorem XqQ{s:List UInt8}{n x i last:Int}{out:List Int}(hI:vsI s n last i out)(hi:i<n)(hx:∀l,RV s n l→x=l.getD i.toNat 0)(h:fIn x (-1099511627776) 1099511627776=false):([],0)=X3j s n:=by
 refine X9e fun l hl=>?_
 have h1:=hl.1
 have h2:=hI.1
 have:=Xin hl.2.1 (i:=i.toNat) (by omega)
 rw[hx l hl,X0C.2 this]at h;cases h
theorem Xpx{s:List UInt8}{n x i last:Int}{out:List Int}(hI:vsI s n last i out)(hi:i<n)(hx:∀l,RV s n l→x=l.getD i.toNat 0)(h:fIn x (-1099511627776) 1099511627776=true):vsI s n x (i+1) (out++[x]):=by
 obtain⟨h1,h2,h3,h4,h5,h6⟩:=hI
 rw[X0C]at h
 refine⟨by omega,by omega,by simp;omega,h,?_,fun l hl=>?_⟩
 · rw[if_neg (by omega),XhN (by omega)]
 · have:=hl.1
   rw[show(i+1).toNat=i.toNat+1 by omega,X99 (by omega),←h6 l hl,hx l hl]
theorem XqH{s:List UInt8}{n i last:Int}{out:List Int}(hI:vsI s n last i out)(hi:i<n):∀l,RV s n l→last+Xl4 ((X0A s n).1.getD i.toNat 0)=l.getD i.toNat 0:=fun l hl=>by
 obtain⟨h1,h2,h3,h4,h5,h6⟩:=hI
 have h1:=hl.1
 have:=Xlg l hl.2.1 (X0A s n).1 i.toNat (by omega) (RV.val hl (by omega))
 rw[nxV,←h6 l hl]at this
 rw[h5,←this]
 by_cases h0:i=0
 · rw[if_pos h0,if_pos (by omega)];rfl
 · rw[if_neg h0,if_neg (by omega)];rfl
theorem XqD{s:List UInt8}{n i last:Int}{out:List Int}(hI:vsI s n last i out)(hi:¬i<n)(hk:0<(X0A s n).2)(hk2:(X0A s n).2≤s.length):(¬X0i out=s.take (X0A s n).2.toNat→([],0)=X3j s n)∧(X0i out=s.take (X0A s n).2.toNat→(out,(X0A s n).2)=X3j s n):=by
 obtain⟨h1,h2,h3,_,_,h5⟩:=hI
 refine⟨fun h=>X9e fun l hl=>h ?_,fun h=>?_⟩
 · have:=hl.1
   rw[h5 l hl,show i.toNat=l.length by omega,List.take_length,RW.vars XbR hl,X6Z hl.2.1]
   simp only[Int.toNat_natCast]
   exact hl.2.2.symm
 · obtain⟨q1,q2⟩:=rv_of (n:=n) (by omega) hk hk2 h
   rw[XbH q1,←q2]
def X5s:Con:={A:=Xl8,shA:=[.one,.one],R:=(.pair XbW (.int .i64)),shR:=[(false,1),(false,1)],pre:=fun _ a=>(pRd a.1 a.2),f:=some fun _ a=>((X3a a.1 a.2),((),()))}
def X1E.F(a0:U5q)(a1:Int):Prop:=(True∧∀r1,(Eq r1 ((fIn a1 1 60),((),())))→(X00 (!r1.1) (Eq ((([]:(List Int)),0),((),())) ((X3a a0 a1),((),()))) ((p7 a0 a1)∧∀r2,(Eq r2 ((X0A a0 a1),((),())))→(X00 (decide (r2.1.2<(0:Int))) (Eq ((([]:(List Int)),0),((),())) ((X3a a0 a1),((),()))) (0≤(0:Int)∧((0:Int)<(ln r2.1.1)∧(eS [(0,.val false [.str a0]),(1,.val false [.int .i64 a1]),(6,.val false [.lst (.int .i64) [] none]),(7,.val false [.lst (.int .i64) r2.1.1 none]),(8,.val false [.int .i64 r2.1.2])] [(0,.val false [.str a0]),(1,.val false [.int .i64 a1]),(6,.val false [.lst (.int .i64) [] none]),(7,.val false [.lst (.int .i64) r2.1.1 none]),(8,.val false [.int .i64 r2.1.2])]∧((rsI a0 a1 1 [(List.getD r2.1.1 (tN (0:Int)) 0)])∧∀(y3:(Int×(List Int))),(rsI a0 a1 y3.1 y3.2)→(X00 (decide (y3.1<a1)) (0≤y3.1∧(y3.1<(ln r2.1.1)∧(X00 (decide (y3.1>(1:Int))) (0≤(wI (y3.1 - (1:Int)))∧((wI (y3.1 - (1:Int)))<(ln y3.2)∧(0≤(wI (y3.1 - (2:Int)))∧((wI (y3.1 - (2:Int)))<(ln y3.2)∧(0≤y3.1∧(y3.1<(ln r2.1.1)∧(True∧∀r4,(Eq r4 ((Xl4 (List.getD r2.1.1 (tN y3.1) 0)),((),())))→(0≤(wI (y3.1 - (1:Int)))∧((wI (y3.1 - (1:Int)))<(ln y3.2)∧(True∧∀r5,(Eq r5 ((fIn (wI ((List.getD y3.2 (tN (wI (y3.1 - (1:Int)))) 0)+(wI ((wI ((List.getD y3.2 (tN (wI (y3.1 - (1:Int)))) 0) - (List.getD y3.2 (tN (wI (y3.1 - (2:Int)))) 0)))+r4.1)))) 0 1099511627776),((),())))→(X00 (!r5.1) (Eq ((([]:(List Int)),0),((),())) ((X3a a0 a1),((),()))) (List.length y3.2+List.length [(wI ((List.getD y3.2 (tN (wI (y3.1 - (1:Int)))) 0)+(wI ((wI ((List.getD y3.2 (tN (wI (y3.1 - (1:Int)))) 0) - (List.getD y3.2 (tN (wI (y3.1 - (2:Int)))) 0)))+r4.1))))]≤9223372036854775807∧((List.length y3.2+List.length [(wI ((List.getD y3.2 (tN (wI (y3.1 - (1:Int)))) 0)+(wI ((wI ((List.getD y3.2 (tN (wI (y3.1 - (1:Int)))) 0) - (List.getD y3.2 (tN (wI (y3.1 - (2:Int)))) 0)))+r4.1))))])*8≤140737488355328∧(eS [(0,.val false [.str a0]),(1,.val false [.int .i64 a1]),(6,.val false [.lst (.int .i64) [] none]),(7,.val false [.lst (.int .i64) r2.1.1 none]),(8,.val false [.int .i64 r2.1.2])] [(0,.val false [.str a0]),(1,.val false [.int .i64 a1]),(6,.val false [.lst (.int .i64) [] none]),(7,.val false [.lst (.int .i64) r2.1.1 none]),(8,.val false [.int .i64 r2.1.2])]∧(rsI a0 a1 (wI (y3.1+(1:Int))) (y3.2++[(wI ((List.getD y3.2 (tN (wI (y3.1 - (1:Int)))) 0)+(wI ((wI ((List.getD y3.2 (tN (wI (y3.1 - (1:Int)))) 0) - (List.getD y3.2 (tN (wI (y3.1 - (2:Int)))) 0)))+r4.1))))]))∧(rsM a0 a1 (wI (y3.1+(1:Int))) (y3.2++[(wI ((List.getD y3.2 (tN (wI (y3.1 - (1:Int)))) 0)+(wI ((wI ((List.getD y3.2 (tN (wI (y3.1 - (1:Int)))) 0) - (List.getD y3.2 (tN (wI (y3.1 - (2:Int)))) 0)))+r4.1))))]))<(rsM a0 a1 y3.1 y3.2))))))))))))))) (0≤(wI (y3.1 - (1:Int)))∧((wI (y3.1 - (1:Int)))<(ln y3.2)∧(True∧∀r6,(Eq r6 ((fIn (wI ((List.getD y3.2 (tN (wI (y3.1 - (1:Int)))) 0)+(List.getD r2.1.1 (tN y3.1) 0))) 0 1099511627776),((),())))→(X00 (!r6.1) (Eq ((([]:(List Int)),0),((),())) ((X3a a0 a1),((),()))) (List.length y3.2+List.length [(wI ((List.getD y3.2 (tN (wI (y3.1 - (1:Int)))) 0)+(List.getD r2.1.1 (tN y3.1) 0)))]≤9223372036854775807∧((List.length y3.2+List.length [(wI ((List.getD y3.2 (tN (wI (y3.1 - (1:Int)))) 0)+(List.getD r2.1.1 (tN y3.1) 0)))])*8≤140737488355328∧(eS [(0,.val false [.str a0]),(1,.val false [.int .i64 a1]),(6,.val false [.lst (.int .i64) [] none]),(7,.val false [.lst (.int .i64) r2.1.1 none]),(8,.val false [.int .i64 r2.1.2])] [(0,.val false [.str a0]),(1,.val false [.int .i64 a1]),(6,.val false [.lst (.int .i64) [] none]),(7,.val false [.lst (.int .i64) r2.1.1 none]),(8,.val false [.int .i64 r2.1.2])]∧(rsI a0 a1 (wI (y3.1+(1:Int))) (y3.2++[(wI ((List.getD y3.2 (tN (wI (y3.1 - (1:Int)))) 0)+(List.getD r2.1.1 (tN y3.1) 0)))]))∧(rsM a0 a1 (wI (y3.1+(1:Int))) (y3.2++[(wI ((List.getD y3.2 (tN (wI (y3.1 - (1:Int)))) 0)+(List.getD r2.1.1 (tN y3.1) 0)))]))<(rsM a0 a1 y3.1 y3.2))))))))))) (True∧∀r7,(Eq r7 ((X0m y3.2),((),())))→(0≤r2.1.2∧(r2.1.2≤(ln a0)∧(X00 (!(r7.1==(List.take (tN r2.1.2) a0))) (Eq ((([]:(List Int)),0),((),())) ((X3a a0 a1),((),()))) (Eq ((y3.2,r2.1.2),((),())) ((X3a a0 a1),((),()))))))))))))))))
def X1E.L(a0:U5q)(a1:Int):Nat→Option X0d:=fun p=>Go.Proofs.YtcfaphojdacmbaaGreatR.Bv.look p [(1018,{kp:={hold:=[0,1,6,7,8],slots:=[9,10],boxes:=[],rows:=[{bx:=false,s:=9,i:=0,k:=1001155,e:=3,hot:=true}]},T:=(.pair (.int .i64) XbW),I:=fun st y=>rsI a0 a1 y.1 y.2,μ:=fun st y=>rsM a0 a1 y.1 y.2})]
theorem X1E.pure(a0:U5q)(a1:Int)(h:(pRd a0 a1))(hw:Wf X5s.A (a0,a1)):X1E.F a0 a1:=by
 delta X1E.F ln tN wI eS
 simp only[Bs,B0,B1,Prod.mk.injEq,X01]
 have hp:a0.length≤9223372036854775807:=h
 refine⟨fun h1=>X9b fun l hl=>(by rw[RT.len hl]at h1;cases h1),fun h1=>?_⟩
 rw[X0C]at h1
 refine⟨⟨hp,by omega,by omega⟩,fun h2=>X9b fun l hl=>RT.pos hl h2,fun h2=>?_⟩
 obtain⟨k1,k2,k3,k4⟩:=Xlo (by omega) h2
 refine⟨by omega,by omega,Xoi (by omega) k2,fun y hI=>?_⟩
 obtain⟨i,out⟩:=y
 simp only at hI ⊢
 have g1:=hI.1
 have g2:=hI.2.2.1
 have g3:=hI.2.2.2.1.1
 have g4:=hI.2.2.2.1.2
 have g5:=hI.2.1
 have e1:IntKind.wrap .i64 (i+1)=i+1:=w64 (by omega) (by omega)
 have e2:IntKind.wrap .i64 (i - 1)=i - 1:=w64 (by omega) (by omega)
 have e3:IntKind.wrap .i64 (i - 2)=i - 2:=w64 (by omega) (by omega)
 have kv:=k2 i.toNat
 refine⟨fun hi=>⟨by omega,by omega,fun h3=>?_,fun h3=>?_⟩,fun hi=>⟨by omega,k4,XrH hI hi k3 k4⟩⟩
 · have ku:=XmY ((X0A a0 a1).1.getD i.toNat 0)
   have g4:=g4 (by omega)
   have hx:=Xqx hI hi h3
   rw[e1,e2,e3,show(i - 1).toNat=i.toNat - 1 by omega,show(i - 2).toNat=i.toNat - 2 by omega,w64 (x:=out.getD (i.toNat - 1) 0 - out.getD (i.toNat - 2) 0) (by omega) (by omega),w64 (x:=out.getD (i.toNat - 1) 0 - out.getD (i.toNat - 2) 0+Xl4 ((X0A a0 a1).1.getD i.toNat 0)) (by omega) (by omega),w64 (x:=out.getD (i.toNat - 1) 0+(out.getD (i.toNat - 1) 0 - out.getD (i.toNat - 2) 0+Xl4 ((X0A a0 a1).1.getD i.toNat 0))) (by omega) (by omega)]
   exact⟨by omega,by omega,by omega,by omega,by omega,by omega,by omega,by omega,XoS hI hi hx,fun h4=>⟨by omega,by omega,Xmo hI hi hx h4,by unfold rsM;omega⟩⟩
 · have hx:=Xqk hI hi h3
   rw[e1,e2,show(i - 1).toNat=i.toNat - 1 by omega,w64 (x:=out.getD (i.toNat - 1) 0+(X0A a0 a1).1.getD i.toNat 0) (by omega) (by omega)]
   exact⟨by omega,by omega,XoS hI hi hx,fun h4=>⟨by omega,by omega,Xmo hI hi hx h4,by unfold rsM;omega⟩⟩
theorem X1E.eq:EqS X5s Tryz.f200 [138,3] [X27.e,X1j.e,X2f.e,X4n.e] [] (fun i x=>X1E.L x.1 x.2) (fun i x=>X1E.F x.1 x.2):=by intro i x;kernel_rfl
theorem X1E.ok:X0l Tryz.prog 200 X5s:=X2d X1E.eq Tryz.func200 rfl (by kernel_rfl) fun i x h hi hw=>X1E.pure x.1 x.2 h hw
def X1E.e:GE:=⟨200,X5s,⟨_,Tryz.func200,rfl,rfl⟩,X1E.ok⟩
def X4T:Con:={A:=Xl8,shA:=[.one,.one],R:=(.pair XbW (.int .i64)),shR:=[(false,1),(false,1)],pre:=fun _ a=>(pRd a.1 a.2),f:=some fun _ a=>((X3j a.1 a.2),((),()))}
def X1a.F(a0:U5q)(a1:Int):Prop:=(True∧∀r1,(Eq r1 ((fIn a1 1 60),((),())))→(X00 (!r1.1) (Eq ((([]:(List Int)),0),((),())) ((X3j a0 a1),((),()))) ((p7 a0 a1)∧∀r2,(Eq r2 ((X0A a0 a1),((),())))→(X00 (decide (r2.1.2<(0:Int))) (Eq ((([]:(List Int)),0),((),())) ((X3j a0 a1),((),()))) (eS [(0,.val false [.str a0]),(1,.val false [.int .i64 a1]),(6,.val false [.lst (.int .i64) [] none]),(7,.val false [.lst (.int .i64) r2.1.1 none]),(8,.val false [.int .i64 r2.1.2])] [(0,.val false [.str a0]),(1,.val false [.int .i64 a1]),(6,.val false [.lst (.int .i64) [] none]),(7,.val false [.lst (.int .i64) r2.1.1 none]),(8,.val false [.int .i64 r2.1.2])]∧((vsI a0 a1 0 0 ([]:List Int))∧∀(y3:(Int×(Int×(List Int)))),(vsI a0 a1 y3.1 y3.2.1 y3.2.2)→(X00 (decide (y3.2.1<a1)) (0≤y3.2.1∧(y3.2.1<(ln r2.1.1)∧(True∧∀r4,(Eq r4 ((Xl4 (List.getD r2.1.1 (tN y3.2.1) 0)),((),())))→(True∧∀r5,(Eq r5 ((fIn (wI (y3.1+r4.1)) (-1099511627776) 1099511627776),((),())))→(X00 (!r5.1) (Eq ((([]:(List Int)),0),((),())) ((X3j a0 a1),((),()))) (List.length y3.2.2+List.length [(wI (y3.1+r4.1))]≤9223372036854775807∧((List.length y3.2.2+List.length [(wI (y3.1+r4.1))])*8≤140737488355328∧(eS [(0,.val false [.str a0]),(1,.val false [.int .i64 a1]),(6,.val false [.lst (.int .i64) [] none]),(7,.val false [.lst (.int .i64) r2.1.1 none]),(8,.val false [.int .i64 r2.1.2])] [(0,.val false [.str a0]),(1,.val false [.int .i64 a1]),(6,.val false [.lst (.int .i64) [] none]),(7,.val false [.lst (.int .i64) r2.1.1 none]),(8,.val false [.int .i64 r2.1.2])]∧(vsI a0 a1 (wI (y3.1+r4.1)) (wI (y3.2.1+(1:Int))) (y3.2.2++[(wI (y3.1+r4.1))]))∧(vsM a0 a1 (wI (y3.1+r4.1)) (wI (y3.2.1+(1:Int))) (y3.2.2++[(wI (y3.1+r4.1))]))<(vsM a0 a1 y3.1 y3.2.1 y3.2.2))))))))) (True∧∀r6,(Eq r6 ((X0i y3.2.2),((),())))→(0≤r2.1.2∧(r2.1.2≤(ln a0)∧(X00 (!(r6.1==(List.take (tN r2.1.2) a0))) (Eq ((([]:(List Int)),0),((),())) ((X3j a0 a1),((),()))) (Eq ((y3.2.2,r2.1.2),((),())) ((X3j a0 a1),((),()))))))))))))))
def X1a.L(a0:U5q)(a1:Int):Nat→Option X0d:=fun p=>Go.Proofs.YtcfaphojdacmbaaGreatR.Bv.look p [(2042,{kp:={hold:=[0,1,6,7,8],slots:=[9,10,11],boxes:=[],rows:=[{bx:=false,s:=9,i:=0,k:=1001155,e:=3,hot:=true}]},T:=(.pair (.int .i64) (.pair (.int .i64) XbW)),I:=fun st y=>vsI a0 a1 y.1 y.2.1 y.2.2,μ:=fun st y=>vsM a0 a1 y.1 y.2.1 y.2.2})]
theorem X1a.pure(a0:U5q)(a1:Int)(h:(pRd a0 a1))(hw:Wf X4T.A (a0,a1)):X1a.F a0 a1:=by
 delta X1a.F ln tN wI eS
 simp only[Bs,B0,B1,Prod.mk.injEq,X01]
 have hp:a0.length≤9223372036854775807:=h
 refine⟨fun h1=>X9e fun l hl=>(by rw[RV.len hl]at h1;cases h1),fun h1=>?_⟩
 rw[X0C]at h1
 refine⟨⟨hp,by omega,by omega⟩,fun h2=>X9e fun l hl=>RV.pos hl h2,fun h2=>?_⟩
 obtain⟨k1,k2,k3,k4⟩:=Xlo (by omega) h2
 refine⟨⟨by omega,by omega,rfl,by omega,rfl,fun l hl=>by simp⟩,fun y hI=>?_⟩
 obtain⟨last,i,out⟩:=y
 simp only at hI ⊢
 have g1:=hI.1
 have g2:=hI.2.2.1
 have g3:=hI.2.2.2.1
 have g5:=hI.2.1
 have e1:IntKind.wrap .i64 (i+1)=i+1:=w64 (by omega) (by omega)
 refine⟨fun hi=>⟨by omega,by omega,?_⟩,fun hi=>⟨by omega,k4,XqD hI hi k3 k4⟩⟩
 have ku:=XmY ((X0A a0 a1).1.getD i.toNat 0)
 have hx:=XqH hI hi
 rw[e1,w64 (x:=last+Xl4 ((X0A a0 a1).1.getD i.toNat 0)) (by omega) (by omega)]
 exact⟨XqQ hI hi hx,fun h4=>⟨by omega,by omega,Xpx hI hi hx h4,by unfold vsM;omega⟩⟩
theorem X1a.eq:EqS X4T Tryz.f201 [138,3] [X27.e,X0N.e,X2f.e,X4n.e] [] (fun i x=>X1a.L x.1 x.2) (fun i x=>X1a.F x.1 x.2):=by intro i x;kernel_rfl
theorem X1a.ok:X0l Tryz.prog 201 X4T:=X2d X1a.eq Tryz.func201 rfl (by kernel_rfl) fun i x h hi hw=>X1a.pure x.1 x.2 h hw
def X1a.e:GE:=⟨201,X4T,⟨_,Tryz.func201,rfl,rfl⟩,X1a.ok⟩
def dT(l:List Int)(j:Nat):Int:=if j=0 then l.getD 0 0 else l.getD j 0 - l.getD (j - 1) 0
def laT(l:List Int)(j:Nat):Int:=if j=0 then 0 else l.getD (j - 1) 0
def riI(s:List UInt8)(n step last i:Int)(rest:List UInt8)(ok:Bool)(out:List Int):Prop:=(0≤i∧i≤n∧n≤60∧(out.length:Int)=i)∧(-(1125899906842624*i)≤step∧step≤1125899906842624*i∧-(70000000000000000*i)≤last∧last≤70000000000000000*i)∧∀l,RT s n l→ok=true∧rest=s.drop (cat (tmW l) i.toNat).length∧out=l.take i.toNat∧last=laT l i.toNat∧(1≤i→step=dT l (i.toNat - 1))
def riM(s:List UInt8)(n step last i:Int)(rest:List UInt8)(ok:Bool)(out:List Int):Nat:=(n - i).toNat
def viI(s:List UInt8)(n last i:Int)(rest:List UInt8)(ok:Bool)(out:List Int):Prop:=(0≤i∧i≤n∧n≤60∧(out.length:Int)=i)∧(-(70000000000000000*i)≤last∧last≤70000000000000000*i)∧∀l,RV s n l→ok=true∧rest=s.drop (cat (vlW l) i.toNat).length∧out=l.take i.toNat∧last=laT l i.toNat
def viM(s:List UInt8)(n last i:Int)(rest:List UInt8)(ok:Bool)(out:List Int):Nat:=(n - i).toNat
theorem XoA{W:Nat→Int}{n i:Nat}{s:List UInt8}(hw:∀j,j<n→X4j (W j))(hs:s.take (cat W n).length=cat W n)(hi:i<n):X4A (s.drop (cat W i).length,true)=(W i,(s.drop (cat W (i+1)).length,true)):=by
 obtain⟨h1,h2⟩:=Xk1 hw hs hi
 have hp:=X7z (hw i hi)
 unfold X4A
 simp only
 rw[h1]
 simp only
 rw[if_pos ⟨trivial,by omega⟩,Int.toNat_natCast,h2]
theorem Xom{W:Nat→Int}{n i:Nat}{s:List UInt8}{d:Int}(hw:∀j,j<n→X4j (W j))(hs:s.take (cat W n).length=cat W n)(hi:i<n)(hd:fIn d (-140737488355328) 140737488355328=true)(he:W i=Xcv d):Xda (s.drop (cat W i).length,true)=(d,(s.drop (cat W (i+1)).length,true)):=by
 unfold Xda
 rw[XoA hw hs hi]
 simp only
 rw[he,Xe6 hd]
 rfl
theorem Xm4{s:List UInt8}{n step last i step':Int}{rest:List UInt8}{ok:Bool}{out:List Int}{r:Rd}(hI:riI s n step last i rest ok out)(hi:i<n)(hb:-(1125899906842624*(i+1))≤step'∧step'≤1125899906842624*(i+1))(hs:∀l,RT s n l→ok=true→rest=s.drop (cat (tmW l) i.toNat).length→(1≤i→step=dT l (i.toNat - 1))→step'=dT l i.toNat∧r=(s.drop (cat (tmW l) (i.toNat+1)).length,true)):riI s n step' (last+step') (i+1) r.1 r.2 (out++[last+step']):=by
 obtain⟨⟨h1,h2,h3,h4⟩,⟨h5,h6,h7,h8⟩,h9⟩:=hI
 refine⟨⟨by omega,by omega,h3,by simp;omega⟩,⟨by omega,by omega,by omega,by omega⟩,fun l hl=>?_⟩
 obtain⟨k1,k2,k3,k4,k5⟩:=h9 l hl
 obtain⟨j1,j2⟩:=hs l hl k1 k2 k5
 have hll:=hl.1
 have e:(i+1).toNat=i.toNat+1:=by omega
 have hx:last+step'=l.getD i.toNat 0:=by
  rw[k4,j1];unfold laT dT
  split
  · rename_i h0;rw[h0];omega
  · omega
 rw[e,j2]
 refine⟨rfl,rfl,by rw[k3,hx,X99 (by omega)],by rw[hx];rfl,fun _=>j1⟩
theorem XqC{s:List UInt8}{n step i:Int}{rest:List UInt8}{ok:Bool}(h0:0≤i)(hi:i<n)(h2:i<2):∀l,RT s n l→ok=true→rest=s.drop (cat (tmW l) i.toNat).length→(1≤i→step=dT l (i.toNat - 1))→(X4A (rest,ok)).1=dT l i.toNat∧(X4A (rest,ok)).2=(s.drop (cat (tmW l) (i.toNat+1)).length,true):=fun l hl k1 k2 _=>by
 have hll:=hl.1
 rw[k1,k2,XoA (XaS l hl.2.1) hl.2.2 (by omega)]
 refine⟨?_,rfl⟩
 show tmW l i.toNat=dT l i.toNat
 unfold tmW dT
 split
 · rfl
 · rw[if_pos (by omega),show i.toNat=1 by omega]
theorem XrD{s:List UInt8}{n step i:Int}{rest:List UInt8}{ok:Bool}(hi:i<n)(h2:¬i<2):∀l,RT s n l→ok=true→rest=s.drop (cat (tmW l) i.toNat).length→(1≤i→step=dT l (i.toNat - 1))→step+(Xda (rest,ok)).1=dT l i.toNat∧(Xda (rest,ok)).2=(s.drop (cat (tmW l) (i.toNat+1)).length,true):=fun l hl k1 k2 k3=>by
 have hll:=hl.1
 rw[k1,k2,Xom (XaS l hl.2.1) hl.2.2 (by omega) (XlI hl.2.1 (i:=i.toNat) (by omega) (by omega)) (by unfold tmW;rw[if_neg (by omega),if_neg (by omega)])]
 refine⟨?_,rfl⟩
 rw[k3 (by omega)]
 unfold dT
 rw[if_neg (by omega),if_neg (by omega),show i.toNat - 1 - 1=i.toNat - 2 by omega]
 simp only;omega
theorem Xpy{s:List UInt8}{n last i:Int}{rest:List UInt8}{ok:Bool}{out:List Int}(hI:viI s n last i rest ok out)(hi:i<n):viI s n (last+(Xda (rest,ok)).1) (i+1) (Xda (rest,ok)).2.1 (Xda (rest,ok)).2.2 (out++[last+(Xda (rest,ok)).1]):=by
 obtain⟨⟨h1,h2,h3,h4⟩,⟨h7,h8⟩,h9⟩:=hI
 have hz:=Xm8 (rest,ok)
 refine⟨⟨by omega,by omega,h3,by simp;omega⟩,⟨by omega,by omega⟩,fun l hl=>?_⟩
 obtain⟨k1,k2,k3,k4⟩:=h9 l hl
 have hll:=hl.1
 have e:(i+1).toNat=i.toNat+1:=by omega
 rw[k1,k2,Xom (XbR l hl.2.1) hl.2.2 (by omega) (XlW hl.2.1 (i:=i.toNat) (by omega)) rfl]
 have hx:last+(l.getD i.toNat 0 - (if i.toNat=0 then 0 else l.getD (i.toNat - 1) 0))=l.getD i.toNat 0:=by
  rw[k4];unfold laT
  split<;>omega
 simp only
 rw[hx,e]
 exact⟨trivial,rfl,by rw[k3,X99 (by omega)],rfl⟩
theorem Xjf{s t:List UInt8}(h:X6E s t=true):s.take t.length=t:=by simpa [X6E] using h
theorem Xqv{s:List UInt8}{n step last i:Int}{rest:List UInt8}{ok:Bool}{out:List Int}(hI:riI s n step last i rest ok out)(hi:¬i<n):(ok=false→([],0)=X3a s n)∧(ok=true→((X6s s (X0m out)).2=false→([],0)=X3a s n)∧((X6s s (X0m out)).2=true→(out,(X6s s (X0m out)).1)=X3a s n)):=by
 obtain⟨⟨h1,h2,h3,h4⟩,_,h9⟩:=hI
 refine⟨fun h=>X9b fun l hl=>?_,fun h=>⟨fun h5=>X9b fun l hl=>?_,fun h5=>?_⟩⟩
 · rw[(h9 l hl).1]at h;cases h
 · have hll:=hl.1
   have e:out=l:=by rw[(h9 l hl).2.2.1,show i.toNat=l.length by omega,List.take_length]
   have hp:0<(cat (tmW l) l.length).length:=XaT (XaS l hl.2.1 0 (by have:=(X4i.1 hl.2.1).1;omega)) _ (by have:=(X4i.1 hl.2.1).1;omega)
   rw[e]at h5
   simp only[X6s,Bool.and_eq_false_iff,decide_eq_false_iff_not,X6E,beq_eq_false_iff_ne,ne_eq,Decidable.not_not,X6K hl.2.1]at h5
   rcases h5 with h5 | h5
   · rw[h5]at hp;simp at hp
   · exact h5 hl.2.2
 · simp only[X6s,Bool.and_eq_true,decide_eq_true_eq,ne_eq]at h5
   have hr:X8J out=true:=by
    by_cases hr:X8J out=true
    · exact hr
    · exact absurd (by unfold X0m;rw[if_neg hr]) h5.1
   have hR:RT s n out:=⟨by omega,hr,by have:=Xjf h5.2;rw[X6K hr]at this;exact this⟩
   rw[XbJ hR]
   simp only[X6s,X6K hr]
theorem Xqi{s:List UInt8}{n last i:Int}{rest:List UInt8}{ok:Bool}{out:List Int}(hI:viI s n last i rest ok out)(hi:¬i<n):(ok=false→([],0)=X3j s n)∧(ok=true→((X6s s (X0i out)).2=false→([],0)=X3j s n)∧((X6s s (X0i out)).2=true→(out,(X6s s (X0i out)).1)=X3j s n)):=by
 obtain⟨⟨h1,h2,h3,h4⟩,_,h9⟩:=hI
 refine⟨fun h=>X9e fun l hl=>?_,fun h=>⟨fun h5=>X9e fun l hl=>?_,fun h5=>?_⟩⟩
 · rw[(h9 l hl).1]at h;cases h
 · have hll:=hl.1
   have e:out=l:=by rw[(h9 l hl).2.2.1,show i.toNat=l.length by omega,List.take_length]
   have hp:0<(cat (vlW l) l.length).length:=XaT (XbR l hl.2.1 0 (by have:=(X4I.1 hl.2.1).1;omega)) _ (by have:=(X4I.1 hl.2.1).1;omega)
   rw[e]at h5
   simp only[X6s,Bool.and_eq_false_iff,decide_eq_false_iff_not,X6E,beq_eq_false_iff_ne,ne_eq,Decidable.not_not,X6Z hl.2.1]at h5
   rcases h5 with h5 | h5
   · rw[h5]at hp;simp at hp
   · exact h5 hl.2.2
 · simp only[X6s,Bool.and_eq_true,decide_eq_true_eq,ne_eq]at h5
   have hr:X8V out=true:=by
    by_cases hr:X8V out=true
    · exact hr
    · exact absurd (by unfold X0i;rw[if_neg hr]) h5.1
   have hR:RV s n out:=⟨by omega,hr,by have:=Xjf h5.2;rw[X6Z hr]at this;exact this⟩
   rw[XbH hR]
   simp only[X6s,X6Z hr]
def X5A:Con:={A:=Xl8,shA:=[.one,.one],R:=(.pair XbW (.int .i64)),shR:=[(false,1),(false,1)],fresh:=[(0,3)],pre:=fun _ _=>True,f:=some fun _ a=>((X3a a.1 a.2),((),()))}
def X1H.F(a0:U5q)(a1:Int):Prop:=(True∧∀r1,(Eq r1 ((fIn a1 1 60),((),())))→(X00 (!r1.1) (Eq ((([]:(List Int)),0),((),())) ((X3a a0 a1),((),()))) (eS [(0,.val false [.str a0]),(6,.box 19 0),(20,.val false [.int .i64 a1])] [(0,.val false [.str a0]),(6,.box 19 0),(20,.val false [.int .i64 a1])]∧((riI a0 a1 0 0 0 a0 true ([]:List Int))∧∀(y2:(Int×(Int×(Int×(U5q×(Bool×(List Int))))))),(riI a0 a1 y2.1 y2.2.1 y2.2.2.1 y2.2.2.2.1 y2.2.2.2.2.1 y2.2.2.2.2.2)→(X00 (decide (y2.2.2.1<a1)) (X00 (decide (y2.2.2.1<(2:Int))) (True∧∀r3,(Eq r3 ((X4A (y2.2.2.2.1,y2.2.2.2.2.1)).1,((X4A (y2.2.2.2.1,y2.2.2.2.2.1)).2,())))→(List.length y2.2.2.2.2.2+List.length [(wI (y2.2.1+r3.1))]≤9223372036854775807∧((List.length y2.2.2.2.2.2+List.length [(wI (y2.2.1+r3.1))])*8≤140737488355328∧(eS [(0,.val false [.str a0]),(6,.box 19 0),(20,.val false [.int .i64 a1])] [(0,.val false [.str a0]),(6,.box 19 0),(20,.val false [.int .i64 a1])]∧(riI a0 a1 r3.1 (wI (y2.2.1+r3.1)) (wI (y2.2.2.1+(1:Int))) r3.2.1.1 r3.2.1.2 (y2.2.2.2.2.2++[(wI (y2.2.1+r3.1))]))∧(riM a0 a1 r3.1 (wI (y2.2.1+r3.1)) (wI (y2.2.2.1+(1:Int))) r3.2.1.1 r3.2.1.2 (y2.2.2.2.2.2++[(wI (y2.2.1+r3.1))]))<(riM a0 a1 y2.1 y2.2.1 y2.2.2.1 y2.2.2.2.1 y2.2.2.2.2.1 y2.2.2.2.2.2))))) (True∧∀r4,(Eq r4 ((Xda (y2.2.2.2.1,y2.2.2.2.2.1)).1,((Xda (y2.2.2.2.1,y2.2.2.2.2.1)).2,())))→(List.length y2.2.2.2.2.2+List.length [(wI (y2.2.1+(wI (y2.1+r4.1))))]≤9223372036854775807∧((List.length y2.2.2.2.2.2+List.length [(wI (y2.2.1+(wI (y2.1+r4.1))))])*8≤140737488355328∧(eS [(0,.val false [.str a0]),(6,.box 19 0),(20,.val false [.int .i64 a1])] [(0,.val false [.str a0]),(6,.box 19 0),(20,.val false [.int .i64 a1])]∧(riI a0 a1 (wI (y2.1+r4.1)) (wI (y2.2.1+(wI (y2.1+r4.1)))) (wI (y2.2.2.1+(1:Int))) r4.2.1.1 r4.2.1.2 (y2.2.2.2.2.2++[(wI (y2.2.1+(wI (y2.1+r4.1))))]))∧(riM a0 a1 (wI (y2.1+r4.1)) (wI (y2.2.1+(wI (y2.1+r4.1)))) (wI (y2.2.2.1+(1:Int))) r4.2.1.1 r4.2.1.2 (y2.2.2.2.2.2++[(wI (y2.2.1+(wI (y2.1+r4.1))))]))<(riM a0 a1 y2.1 y2.2.1 y2.2.2.1 y2.2.2.2.1 y2.2.2.2.2.1 y2.2.2.2.2.2)))))) ((XeT y2.2.2.2.2.2)∧∀r5,(Eq r5 ((X0m y2.2.2.2.2.2),((),())))→(True∧∀r6,(Eq r6 ((X6s a0 r5.1),((),())))→(X00 (!y2.2.2.2.2.1) (Eq ((([]:(List Int)),0),((),())) ((X3a a0 a1),((),()))) (X00 (!r6.1.2) (Eq ((([]:(List Int)),0),((),())) ((X3a a0 a1),((),()))) (Eq ((y2.2.2.2.2.2,r6.1.1),((),())) ((X3a a0 a1),((),()))))))))))))
def X1H.L(a0:U5q)(a1:Int):Nat→Option X0d:=fun p=>Go.Proofs.YtcfaphojdacmbaaGreatR.Bv.look p [(1018,{kp:={hold:=[0,6,20],slots:=[7,8,9,21],boxes:=[19],rows:=[{bx:=false,s:=7,i:=0,k:=1000899,e:=3,hot:=true}]},T:=(.pair (.int .i64) (.pair (.int .i64) (.pair (.int .i64) (.pair .str (.pair .bool XbW))))),I:=fun st y=>riI a0 a1 y.1 y.2.1 y.2.2.1 y.2.2.2.1 y.2.2.2.2.1 y.2.2.2.2.2,μ:=fun st y=>riM a0 a1 y.1 y.2.1 y.2.2.1 y.2.2.2.1 y.2.2.2.2.1 y.2.2.2.2.2})]
theorem X1H.pure(a0:U5q)(a1:Int)(h:True)(hw:Wf X5A.A (a0,a1)):X1H.F a0 a1:=by
 delta X1H.F wI eS
 simp only[Bs,B0,B1,Prod.mk.injEq,X01]
 refine⟨fun h1=>X9b fun l hl=>(by rw[RT.len hl]at h1;cases h1),fun h1=>?_⟩
 rw[X0C]at h1
 refine⟨⟨⟨by omega,by omega,by omega,rfl⟩,⟨by omega,by omega,by omega,by omega⟩,fun l hl=>⟨rfl,by simp[cat],by simp,rfl,fun h=>by omega⟩⟩,fun y hI=>?_⟩
 obtain⟨step,last,i,rest,ok,out⟩:=y
 simp only at hI ⊢
 have g1:=hI.1
 have g2:=hI.2.1
 have e1:IntKind.wrap .i64 (i+1)=i+1:=w64 (by omega) (by omega)
 refine⟨fun hi=>⟨fun h2=>?_,fun h2=>?_⟩,fun hi=>⟨by unfold XeT;omega,Xqv hI hi⟩⟩
 · have hn:=XjP (rest,ok)
   rw[e1,w64 (x:=last+(X4A (rest,ok)).1) (by omega) (by omega)]
   exact⟨by omega,by omega,Xm4 hI hi (by omega) (XqC (by omega) hi h2),by unfold riM;omega⟩
 · have hn:=Xm8 (rest,ok)
   rw[e1,w64 (x:=step+(Xda (rest,ok)).1) (by omega) (by omega),w64 (x:=last+(step+(Xda (rest,ok)).1)) (by omega) (by omega)]
   exact⟨by omega,by omega,Xm4 hI hi (by omega) (XrD hi h2),by unfold riM;omega⟩
theorem X1H.eq:EqS X5A Tryz.f210 [138,3] [X2B.e,X1K.e,X1g.e,X3h.e,X3G.e] [] (fun i x=>X1H.L x.1 x.2) (fun i x=>X1H.F x.1 x.2):=by intro i x;kernel_rfl
theorem X1H.ok:X0l Tryz.prog 210 X5A:=X2d X1H.eq Tryz.func210 rfl (by kernel_rfl) fun i x h hi hw=>X1H.pure x.1 x.2 h hw
def X1H.e:GE:=⟨210,X5A,⟨_,Tryz.func210,rfl,rfl⟩,X1H.ok⟩
def X4Z:Con:={A:=Xl8,shA:=[.one,.one],R:=(.pair XbW (.int .i64)),shR:=[(false,1),(false,1)],fresh:=[(0,3)],pre:=fun _ _=>True,f:=some fun _ a=>((X3j a.1 a.2),((),()))}
def X1f.F(a0:U5q)(a1:Int):Prop:=(True∧∀r1,(Eq r1 ((fIn a1 1 60),((),())))→(X00 (!r1.1) (Eq ((([]:(List Int)),0),((),())) ((X3j a0 a1),((),()))) (eS [(0,.val false [.str a0]),(6,.box 17 0),(18,.val false [.int .i64 a1])] [(0,.val false [.str a0]),(6,.box 17 0),(18,.val false [.int .i64 a1])]∧((viI a0 a1 0 0 a0 true ([]:List Int))∧∀(y2:(Int×(Int×(U5q×(Bool×(List Int)))))),(viI a0 a1 y2.1 y2.2.1 y2.2.2.1 y2.2.2.2.1 y2.2.2.2.2)→(X00 (decide (y2.2.1<a1)) (True∧∀r3,(Eq r3 ((Xda (y2.2.2.1,y2.2.2.2.1)).1,((Xda (y2.2.2.1,y2.2.2.2.1)).2,())))→(List.length y2.2.2.2.2+List.length [(wI (y2.1+r3.1))]≤9223372036854775807∧((List.length y2.2.2.2.2+List.length [(wI (y2.1+r3.1))])*8≤140737488355328∧(eS [(0,.val false [.str a0]),(6,.box 17 0),(18,.val false [.int .i64 a1])] [(0,.val false [.str a0]),(6,.box 17 0),(18,.val false [.int .i64 a1])]∧(viI a0 a1 (wI (y2.1+r3.1)) (wI (y2.2.1+(1:Int))) r3.2.1.1 r3.2.1.2 (y2.2.2.2.2++[(wI (y2.1+r3.1))]))∧(viM a0 a1 (wI (y2.1+r3.1)) (wI (y2.2.1+(1:Int))) r3.2.1.1 r3.2.1.2 (y2.2.2.2.2++[(wI (y2.1+r3.1))]))<(viM a0 a1 y2.1 y2.2.1 y2.2.2.1 y2.2.2.2.1 y2.2.2.2.2))))) ((XeT y2.2.2.2.2)∧∀r4,(Eq r4 ((X0i y2.2.2.2.2),((),())))→(True∧∀r5,(Eq r5 ((X6s a0 r4.1),((),())))→(X00 (!y2.2.2.2.1) (Eq ((([]:(List Int)),0),((),())) ((X3j a0 a1),((),()))) (X00 (!r5.1.2) (Eq ((([]:(List Int)),0),((),())) ((X3j a0 a1),((),()))) (Eq ((y2.2.2.2.2,r5.1.1),((),())) ((X3j a0 a1),((),()))))))))))))
def X1f.L(a0:U5q)(a1:Int):Nat→Option X0d:=fun p=>Go.Proofs.YtcfaphojdacmbaaGreatR.Bv.look p [(506,{kp:={hold:=[0,6,18],slots:=[7,8,19],boxes:=[17],rows:=[{bx:=false,s:=7,i:=0,k:=1000899,e:=3,hot:=true}]},T:=(.pair (.int .i64) (.pair (.int .i64) (.pair .str (.pair .bool XbW)))),I:=fun st y=>viI a0 a1 y.1 y.2.1 y.2.2.1 y.2.2.2.1 y.2.2.2.2,μ:=fun st y=>viM a0 a1 y.1 y.2.1 y.2.2.1 y.2.2.2.1 y.2.2.2.2})]
theorem X1f.pure(a0:U5q)(a1:Int)(h:True)(hw:Wf X4Z.A (a0,a1)):X1f.F a0 a1:=by
 delta X1f.F wI eS
 simp only[Bs,B0,B1,Prod.mk.injEq,X01]
 refine⟨fun h1=>X9e fun l hl=>(by rw[RV.len hl]at h1;cases h1),fun h1=>?_⟩
 rw[X0C]at h1
 refine⟨⟨⟨by omega,by omega,by omega,rfl⟩,⟨by omega,by omega⟩,fun l hl=>⟨rfl,by simp[cat],by simp,rfl⟩⟩,fun y hI=>?_⟩
 obtain⟨last,i,rest,ok,out⟩:=y
 simp only at hI ⊢
 have g1:=hI.1
 have g2:=hI.2.1
 have e1:IntKind.wrap .i64 (i+1)=i+1:=w64 (by omega) (by omega)
 refine⟨fun hi=>?_,fun hi=>⟨by unfold XeT;omega,Xqi hI hi⟩⟩
 have hn:=Xm8 (rest,ok)
 rw[e1,w64 (x:=last+(Xda (rest,ok)).1) (by omega) (by omega)]
 exact⟨by omega,by omega,Xpy hI hi,by unfold viM;omega⟩
theorem X1f.eq:EqS X4Z Tryz.f211 [138,3] [X1K.e,X0O.e,X3h.e,X3G.e] [] (fun i x=>X1f.L x.1 x.2) (fun i x=>X1f.F x.1 x.2):=by intro i x;kernel_rfl
theorem X1f.ok:X0l Tryz.prog 211 X4Z:=X2d X1f.eq Tryz.func211 rfl (by kernel_rfl) fun i x h hi hw=>X1f.pure x.1 x.2 h hw
def X1f.e:GE:=⟨211,X4Z,⟨_,Tryz.func211,rfl,rfl⟩,X1f.ok⟩
end Go.Proofs.YtcfaphojdacmbaaGreatR.B
