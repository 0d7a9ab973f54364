/- Times and values:read. -/
import Derived.Test.YtcfaphojdacmbaaGreatRCBits
import Derived.Test.YtcfaphojdacmbaaGreatRCRead
import Derived.Test.YtcfaphojdacmbaaGreatRCVr
set_option maxRecDepth 100000
set_option linter.unusedVariables false
set_option linter.unusedSimpArgs false
namespace Go.Proofs.YtcfaphojdacmbaaGreatR.B
open Go Go.Proofs.YtcfaphojdacmbaaGreatR.Bv
abbrev Rd:=List UInt8×Bool
def X4K(i:Rd):Int×Rd:=if i.2=true∧(X0f i.1).2>0 then((X0f i.1).1,(i.1.drop (X0f i.1).2.toNat,true)) else(0,(i.1,false))
def X6B:Con:={io:=true,I:=(.pair .str .bool),A:=.unit,shA:=[],R:=(.int .i64),shR:=[(false,1)],pre:=fun i _=>True,f:=some fun i a=>((X4K i).1,((X4K i).2,()))}
def X2F.F(i0:(U5q×Bool)):Prop:=(True∧∀r1,(Eq r1 ((X0f i0.1),((),())))→(X00 i0.2 (X00 (!(decide (r1.1.2>(0:Int)))) (Eq (0,((i0.1,(decide (r1.1.2>(0:Int)))),())) ((X4K i0).1,((X4K i0).2,()))) (0≤r1.1.2∧(r1.1.2≤(ln i0.1)∧(Eq (r1.1.1,(((List.drop (tN r1.1.2) i0.1),(decide (r1.1.2>(0:Int)))),())) ((X4K i0).1,((X4K i0).2,())))))) (Eq (0,((i0.1,false),())) ((X4K i0).1,((X4K i0).2,())))))
theorem X2F.pure(i0:(U5q×Bool))(h:True)(hi:Wf X6B.I i0)(hw:Wf X6B.A ()):X2F.F i0:=by
 delta X2F.F ln tN
 simp only[forall_eq,true_and,and_true,X01,Prod.mk.injEq,decide_eq_true_eq,decide_eq_false_iff_not,Bool.not_eq_true',Bool.not_eq_false']
 have hb:=X35 i0.1
 refine⟨fun h1=>⟨fun h2=>?_,fun h2=>⟨by omega,by omega,?_⟩⟩,fun h1=>?_⟩
 · have:¬(i0.2=true∧(X0f i0.1).2>0):=fun h=>h2 h.2
   simp only[X4K,if_neg this,decide_eq_false h2,and_self]
 · have h3:(X0f i0.1).2>0:=by
    by_cases h4:(X0f i0.1).2>0
    · exact h4
    · simp[h4]at h2
   simp only[X4K,if_pos (And.intro h1 h3),decide_eq_true h3,and_self]
 · have:¬(i0.2=true∧(X0f i0.1).2>0):=fun h=>by rw[h1]at h;cases h.1
   simp only[X4K,if_neg this,and_self]
theorem X2F.eq:EqS X6B Tryz.f54 [3] [X28.e] [] noL (fun i x=>X2F.F i):=by intro i x;kernel_rfl
theorem X2F.ok:X0l Tryz.prog 54 X6B:=X2b X2F.eq Tryz.func54 rfl (by kernel_rfl) fun i x h hi hw=>X2F.pure i h (hi rfl) hw
def X2F.e:GE:=⟨54,X6B,⟨_,Tryz.func54,rfl,rfl⟩,X2F.ok⟩
def Xkd(s:List UInt8):Nat→Int→List Int→List Int×Int
 | 0,p,out=>(out,p)
 | n+1,p,out=>if (X0f (s.drop p.toNat)).2=0 then(out,-1) else Xkd s n (p+(X0f (s.drop p.toNat)).2) (out++[(X0f (s.drop p.toNat)).1])
def X0A(s:List UInt8)(n:Int):List Int×Int:=Xkd s n.toNat 0 []
def p7(s:List UInt8)(n:Int):Prop:=s.length≤9223372036854775807∧0≤n∧n≤1000
def v7I(s:List UInt8)(n p i:Int)(out:List Int):Prop:=0≤i∧i≤n∧0≤p∧p≤s.length∧(out.length:Int)=i∧Xkd s (n - i).toNat p out=X0A s n
def v7M(s:List UInt8)(n p i:Int)(out:List Int):Nat:=(n - i).toNat
def X7A:Con:={A:=Xli,shA:=[.one,.one],R:=(.pair Xc7 (.int .i64)),shR:=[(false,1),(false,1)],fresh:=[(0,3)],pre:=fun _ a=>(p7 a.1 a.2),f:=some fun _ a=>((X0A a.1 a.2),((),()))}
def X2h.F(a0:U5q)(a1:Int):Prop:=(eS [(0,.val false [.str a0]),(1,.val false [.int .i64 a1])] [(0,.val false [.str a0]),(1,.val false [.int .i64 a1])]∧((v7I a0 a1 0 0 ([]:List Int))∧∀(y1:(Int×(Int×(List Int)))),(v7I a0 a1 y1.1 y1.2.1 y1.2.2)→(X00 (decide (y1.2.1<a1)) (0≤y1.1∧(y1.1≤(ln a0)∧(True∧∀r2,(Eq r2 ((X0f (List.drop (tN y1.1) a0)),((),())))→(X00 (r2.1.2==(0:Int)) (Eq ((y1.2.2,(-1)),((),())) ((X0A a0 a1),((),()))) (List.length y1.2.2+List.length [r2.1.1]≤9223372036854775807∧((List.length y1.2.2+List.length [r2.1.1])*8≤140737488355328∧(eS [(0,.val false [.str a0]),(1,.val false [.int .i64 a1])] [(0,.val false [.str a0]),(1,.val false [.int .i64 a1])]∧(v7I a0 a1 (wI (y1.1+r2.1.2)) (wI (y1.2.1+(1:Int))) (y1.2.2++[r2.1.1]))∧(v7M a0 a1 (wI (y1.1+r2.1.2)) (wI (y1.2.1+(1:Int))) (y1.2.2++[r2.1.1]))<(v7M a0 a1 y1.1 y1.2.1 y1.2.2)))))))) (Eq ((y1.2.2,y1.1),((),())) ((X0A a0 a1),((),()))))))
def X2h.L(a0:U5q)(a1:Int):Nat→Option X0d:=fun p=>Go.Proofs.YtcfaphojdacmbaaGreatR.Bv.look p [(122,{kp:={hold:=[0,1],slots:=[6,7,8],boxes:=[],rows:=[{bx:=false,s:=6,i:=0,k:=1000771,e:=3,hot:=true}]},T:=(.pair (.int .i64) (.pair (.int .i64) Xc7)),I:=fun st y=>v7I a0 a1 y.1 y.2.1 y.2.2,μ:=fun st y=>v7M a0 a1 y.1 y.2.1 y.2.2})]
theorem X2h.pure(a0:U5q)(a1:Int)(h:(p7 a0 a1))(hw:Wf X7A.A (a0,a1)):X2h.F a0 a1:=by
 delta X2h.F ln tN wI eS
 obtain⟨q1,q2,q3⟩:=h
 simp only[forall_eq,true_and,and_true,X01,Prod.mk.injEq,decide_eq_true_eq,decide_eq_false_iff_not,Bool.not_eq_true',Bool.not_eq_false']
 refine⟨⟨by omega,by omega,by omega,by omega,rfl,by simp[X0A]⟩,?_⟩
 rintro⟨p,i,out⟩ ⟨h1,h2,h3,h4,h5,h6⟩
 simp only at h1 h2 h3 h4 h5 h6 ⊢
 have hb:=X35 (a0.drop p.toNat)
 rw[List.length_drop]at hb
 refine⟨fun hi=>⟨h3,h4,fun hz=>?_,fun hz=>?_⟩,fun hi=>?_⟩
 · have e:(a1 - i).toNat=(a1 - i - 1).toNat+1:=by omega
   rw[e]at h6
   have hz':(X0f (a0.drop p.toNat)).2=0:=by simpa using hz
   rw[Xkd,if_pos hz']at h6
   exact h6
 · have hz':¬(X0f (a0.drop p.toNat)).2=0:=by simpa using hz
   have e:(a1 - i).toNat=(a1 - (i+1)).toNat+1:=by omega
   rw[e,Xkd,if_neg hz']at h6
   have e1:IntKind.wrap .i64 (i+1)=i+1:=Go.IntWalk.i64_in _ (by omega)
   have e2:IntKind.wrap .i64 (p+(X0f (a0.drop p.toNat)).2)=p+(X0f (a0.drop p.toNat)).2:=Go.IntWalk.i64_in _ (by omega)
   rw[e1,e2]
   exact⟨by simp;omega,by simp;omega,⟨by omega,by omega,by omega,by omega,by simp;omega,h6⟩,by unfold v7M;omega⟩
 · have e:(a1 - i).toNat=0:=by omega
   rw[e,Xkd]at h6
   exact h6
theorem X2h.eq:EqS X7A Tryz.f242 [138,3] [X1W.e] [] (fun i x=>X2h.L x.1 x.2) (fun i x=>X2h.F x.1 x.2):=by intro i x;kernel_rfl
theorem X2h.ok:X0l Tryz.prog 242 X7A:=X2b X2h.eq Tryz.func242 rfl (by kernel_rfl) fun i x h hi hw=>X2h.pure x.1 x.2 h hw
def X2h.e:GE:=⟨242,X7A,⟨_,Tryz.func242,rfl,rfl⟩,X2h.ok⟩
def cat(W:Nat→Int):Nat→List UInt8
 | 0=>[]
 | i+1=>cat W i++X1P (W i)
theorem XhL(W:Nat→Int){i:Nat}:∀{n:Nat},i<n→∃r,cat W n=cat W i++(X1P (W i)++r)
 | 0,h=>by omega
 | n+1,h=>by
   by_cases e:i=n
   · subst e;exact⟨[],by simp[cat]⟩
   · obtain⟨r,hr⟩:=XhL W (i:=i) (n:=n) (by omega)
     exact⟨r++X1P (W n),by simp only[cat];rw[hr];simp[List.append_assoc]⟩
theorem Xbk{W:Nat→Int}(h:X4s (W 0)):∀n,0<n→0<(cat W n).length
 | 1,_=>by simp only[cat,List.nil_append];exact X7I h
 | n+2,_=>by have:=Xbk h (n+1) (by omega);simp only[cat,List.length_append]at this ⊢;omega
theorem Xkb{W:Nat→Int}{n i:Nat}{s:List UInt8}(hw:∀j,j<n→X4s (W j))(hs:s.take (cat W n).length=cat W n)(hi:i<n):
 X0f (s.drop (cat W i).length)=(W i,((X1P (W i)).length:Int))∧(s.drop (cat W i).length).drop (X1P (W i)).length=s.drop (cat W (i+1)).length:=by
 obtain⟨r,hr⟩:=XhL W hi
 have e:s=cat W i++(X1P (W i)++(r++s.drop (cat W n).length)):=by
  have:=List.take_append_drop (cat W n).length s
  rw[hs]at this
  rw[hr]at this
  rw[hr]
  conv=>lhs;rw[←this]
  simp[List.append_assoc]
 refine⟨?_,?_⟩
 · have e2:s.drop (cat W i).length=X1P (W i)++(r++s.drop (cat W n).length):=by
    conv=>lhs;rw[e]
    rw[List.drop_left]
   rw[e2,Xko (hw i hi)]
 · rw[List.drop_drop]
   congr 1
   simp[cat]
def vals(W:Nat→Int)(n:Nat):List Int:=(List.range n).map W
theorem Xmu(W:Nat→Int)(n:Nat):vals W (n+1)=vals W n++[W n]:=by simp[vals,List.range_succ]
theorem Xjf(W:Nat→Int)(n:Nat):(vals W n).length=n:=by simp[vals]
theorem Xof(W:Nat→Int){n i:Nat}(h:i<n):(vals W n).getD i 0=W i:=by
 rw[X0R (by rw[Xjf];exact h)];simp[vals]
theorem XoT{W:Nat→Int}{n:Nat}{s:List UInt8}(hw:∀j,j<n→X4s (W j))(hs:s.take (cat W n).length=cat W n):∀(k i:Nat),i+k=n→Xkd s k ((cat W i).length:Int) (vals W i)=(vals W n,((cat W n).length:Int))
 | 0,i,h=>by
   have:i=n:=by omega
   subst this;rfl
 | k+1,i,h=>by
   obtain⟨h1,h2⟩:=Xkb hw hs (i:=i) (by omega)
   have hp:=X7I (hw i (by omega))
   rw[Xkd,Int.toNat_natCast,h1]
   simp only
   rw[if_neg (by omega),←Xmu,show((cat W i).length:Int)+((X1P (W i)).length:Int)=((cat W (i+1)).length:Int) by simp[cat]]
   exact XoT hw hs k (i+1) (by omega)
theorem Xim{W:Nat→Int}{n:Nat}{s:List UInt8}(hw:∀j,j<n→X4s (W j))(hs:s.take (cat W n).length=cat W n):X0A s n=(vals W n,((cat W n).length:Int)):=by
 unfold X0A
 rw[Int.toNat_natCast]
 exact XoT hw hs n 0 (by omega)
theorem Xmz{s:List UInt8}:∀(k:Nat) (p:Int) (out:List Int),0≤p→p≤s.length→(Xkd s k p out).2<0∨∃vs:List Int,(Xkd s k p out).1=out++vs∧vs.length=k∧(∀v∈vs,X4s v)∧(Xkd s k p out).2=p+((enc vs).length:Int)∧(s.drop p.toNat).take (enc vs).length=enc vs
 | 0,p,out,h,h'=>.inr ⟨[],by simp[Xkd],rfl,by simp,by simp[Xkd,enc],by simp[enc]⟩
 | k+1,p,out,h,h'=>by
   rw[Xkd]
   split
   · left;exact(by decide:(-1:Int)<0)
   · rename_i h0
     obtain⟨q1,q2⟩:=XmV h0
     have hb:=X35 (s.drop p.toNat)
     rw[List.length_drop]at hb
     rcases Xmz (s:=s) k (p+(X0f (s.drop p.toNat)).2) (out++[(X0f (s.drop p.toNat)).1]) (by omega) (by omega) with h1 | ⟨vs,k1,k2,k3,k4,k5⟩
     · exact .inl h1
     · right
       have hl:(X1P (X0f (s.drop p.toNat)).1).length=(X0f (s.drop p.toNat)).2.toNat:=by
        have q1':=congrArg List.length q1
        rw[List.length_take,List.length_drop]at q1'
        omega
       refine⟨(X0f (s.drop p.toNat)).1::vs,by rw[k1];simp,by simp[k2],fun v hv=>?_,?_,?_⟩
       · rcases List.mem_cons.1 hv with e | hv
         · rw[e];exact q2
         · exact k3 v hv
       · rw[k4,Xgv,List.length_append,hl];omega
       · rw[Xgv,List.length_append,List.take_add,hl,q1,List.drop_drop]
         congr 1
         rw[show p.toNat+(X0f (s.drop p.toNat)).2.toNat=(p+(X0f (s.drop p.toNat)).2).toNat by omega]
         exact k5
theorem XkY{s:List UInt8}{n:Nat}(h:¬(X0A s n).2<0):(X0A s n).1.length=n∧(∀v∈(X0A s n).1,X4s v)∧(X0A s n).2=((enc (X0A s n).1).length:Int)∧s.take (enc (X0A s n).1).length=enc (X0A s n).1:=by
 unfold X0A at h ⊢
 rw[Int.toNat_natCast]at h ⊢
 rcases Xmz (s:=s) n 0 [] (by omega) (by omega) with h1 | ⟨vs,k1,k2,k3,k4,k5⟩
 · exact absurd h1 h
 · rw[List.nil_append]at k1
   rw[k1]
   refine⟨k2,k3,by rw[k4];omega,?_⟩
   simpa using k5
def X3X(z:Int):Int×Bool:=if fIn z 0 281474976710656 then((if z % 2=1 then -(z+1) / 2 else z / 2),true) else(0,false)
theorem Xf1{d:Int}(h:fIn d (-140737488355328) 140737488355328=true):X3X (Xcv d)=(d,true):=by
 rw[X0C]at h
 unfold Xcv
 rw[if_pos (X0C.2 h)]
 unfold X3X
 split
 · rw[if_pos (X0C.2 (by omega)),if_pos (by omega)]
   simp only[Prod.mk.injEq,and_true];omega
 · rw[if_pos (X0C.2 (by omega)),if_neg (by omega)]
   simp only[Prod.mk.injEq,and_true];omega
theorem Xm4{d:Int}(h:fIn d (-140737488355328) 140737488355328=true):X4s (Xcv d):=by
 rw[X0C]at h
 unfold Xcv X4s
 rw[if_pos (X0C.2 h)]
 split<;>omega
theorem Xid(z:Int):-140737488355329≤(X3X z).1∧(X3X z).1≤140737488355328:=by
 unfold X3X
 split
 · rename_i h;rw[X0C]at h;simp only;split<;>omega
 · simp
def Xdc(i:Rd):Int×Rd:=((X3X (X4K i).1).1,((X4K i).2.1,(X4K i).2.2&&(X3X (X4K i).1).2))
theorem XjU(i:Rd):0≤(X4K i).1∧(X4K i).1≤562949953421311:=by
 have:=X35 i.1
 unfold X4K;split<;>simp<;>omega
def X6L(s t:List UInt8):Bool:=s.take t.length==t
def X6I(s t:List UInt8):Int×Bool:=((t.length:Int),decide (t≠[])&&X6L s t)
def Xlj(z:Int):Int:=(X3X z).1
theorem XlC(i:Rd):-140737488355329≤(Xdc i).1∧(Xdc i).1≤140737488355328:=Xid _
theorem XpK{a:Int}(h:0≤a):Int.tdiv a 2=a / 2:=Int.tdiv_eq_ediv_of_nonneg h
theorem XqR{a:Int}(h:0≤a)(h2:a % 2=0):Int.tdiv (0 - a) 2= -a / 2:=by
 rw[Int.zero_sub,Int.neg_tdiv,XpK h];omega
theorem Xr8{a:Int}(h:0≤a):Int.tmod a 2=a % 2:=Int.tmod_eq_emod_of_nonneg h
def X8x:Con:={A:=(.int .i64),shA:=[.one],R:=(.pair (.int .i64) .bool),shR:=[(false,1),(false,1)],pre:=fun _ _=>True,f:=some fun _ a=>((X3X a),((),()))}
def X42.F(a0:Int):Prop:=(X00 (decide (a0<(0:Int))) (Eq ((0,false),((),())) ((X3X a0),((),()))) (X00 (decide (a0>(281474976710656:Int))) (Eq ((0,false),((),())) ((X3X a0),((),()))) ((2:Int)≠0∧((2:Int)≠0∧(X00 ((Int.tmod a0 (2:Int))==(1:Int)) (True∧∀r1,(Eq r1 ((Xcv (wI ((wI (0 - (wI (Int.tdiv a0 (2:Int))))) - (1:Int)))),((),())))→(Eq (((wI ((wI (0 - (wI (Int.tdiv a0 (2:Int))))) - (1:Int))),(r1.1==a0)),((),())) ((X3X a0),((),())))) (True∧∀r2,(Eq r2 ((Xcv (wI (Int.tdiv a0 (2:Int)))),((),())))→(Eq (((wI (Int.tdiv a0 (2:Int))),(r2.1==a0)),((),())) ((X3X a0),((),())))))))))
theorem X42.pure(a0:Int)(h:True)(hw:Wf X8x.A a0):X42.F a0:=by
 delta X42.F wI
 simp only[Bs,B0,B1,Prod.mk.injEq,X01]
 refine⟨fun h1=>?_,fun h1=>⟨fun h2=>?_,fun h2=>?_⟩⟩
 · unfold X3X;rw[if_neg (by rw[X0C];omega)]
 · unfold X3X;rw[if_neg (by rw[X0C];omega)]
 rw[Xr8 (by omega),XpK (by omega),w64 (x:=a0 / 2) (by omega) (by omega),w64 (x:=0 - a0 / 2) (by omega) (by omega),w64 (x:=0 - a0 / 2 - 1) (by omega) (by omega)]
 have hp:fIn a0 0 281474976710656=true:=X0C.2 (by omega)
 refine⟨by omega,by omega,fun h3=>?_,fun h3=>?_⟩
 · unfold X3X Xcv
   rw[if_pos hp,if_pos h3,if_pos (X0C.2 (by omega)),if_pos (by omega)]
   simp;omega
 · unfold X3X Xcv
   rw[if_pos hp,if_neg h3,if_pos (X0C.2 (by omega)),if_neg (by omega)]
   simp;omega
theorem X42.eq:EqS X8x Tryz.f264 [3,4] [X2X.e] [] noL (fun i x=>X42.F x):=by intro i x;kernel_rfl
theorem X42.ok:X0l Tryz.prog 264 X8x:=X2b X42.eq Tryz.func264 rfl (by kernel_rfl) fun i x h hi hw=>X42.pure x h hw
def X42.e:GE:=⟨264,X8x,⟨_,Tryz.func264,rfl,rfl⟩,X42.ok⟩
def X8l:Con:={A:=(.int .i64),shA:=[.one],R:=(.pair (.int .i64) .bool),shR:=[(false,1),(false,1)],pre:=fun _ _=>True,f:=some fun _ a=>((X3X a),((),()))}
def X4c.F(a0:Int):Prop:=(True∧∀r1,(Eq r1 ((fIn a0 0 281474976710656),((),())))→(X00 (!r1.1) (Eq ((0,false),((),())) ((X3X a0),((),()))) ((2:Int)≠0∧(X00 ((Int.tmod a0 (2:Int))==(1:Int)) ((2:Int)≠0∧(Eq (((wI (Int.tdiv (wI (0 - (wI (a0+(1:Int))))) (2:Int))),true),((),())) ((X3X a0),((),())))) ((2:Int)≠0∧(Eq (((wI (Int.tdiv a0 (2:Int))),true),((),())) ((X3X a0),((),()))))))))
theorem X4c.pure(a0:Int)(h:True)(hw:Wf X8l.A a0):X4c.F a0:=by
 delta X4c.F wI
 simp only[Bs,B0,B1,Prod.mk.injEq,X01]
 refine⟨fun h1=>by simp[X3X,h1],fun h1=>?_⟩
 have hp:=X0C.1 h1
 rw[Xr8 hp.1,XpK hp.1,w64 (x:=a0 / 2) (by omega) (by omega),w64 (x:=a0+1) (by omega) (by omega),w64 (x:=0 - (a0+1)) (by omega) (by omega)]
 refine⟨by omega,fun h3=>⟨by omega,?_⟩,fun h3=>⟨by omega,?_⟩⟩
 · rw[XqR (by omega) (by omega),w64 (by omega) (by omega)]
   simp[X3X,h1,h3]
 · simp[X3X,h1,h3]
theorem X4c.eq:EqS X8l Tryz.f265 [3,4] [X1H.e] [] noL (fun i x=>X4c.F x):=by intro i x;kernel_rfl
theorem X4c.ok:X0l Tryz.prog 265 X8l:=X2b X4c.eq Tryz.func265 rfl (by kernel_rfl) fun i x h hi hw=>X4c.pure x h hw
def X4c.e:GE:=⟨265,X8l,⟨_,Tryz.func265,rfl,rfl⟩,X4c.ok⟩
def X6z:Con:={io:=true,I:=(.pair .str .bool),A:=.unit,shA:=[],R:=(.int .i64),shR:=[(false,1)],pre:=fun i _=>True,f:=some fun i a=>((Xdc i).1,((Xdc i).2,()))}
def X3m.F(i0:(U5q×Bool)):Prop:=(True∧∀r1,(Eq r1 ((X4K (i0.1,i0.2)).1,((X4K (i0.1,i0.2)).2,())))→(True∧∀r2,(Eq r2 ((X3X r1.1),((),())))→(X00 r1.2.1.2 (Eq (r2.1.1,((r1.2.1.1,r2.1.2),())) ((Xdc i0).1,((Xdc i0).2,()))) (Eq (r2.1.1,((r1.2.1.1,false),())) ((Xdc i0).1,((Xdc i0).2,()))))))
theorem X3m.pure(i0:(U5q×Bool))(h:True)(hi:Wf X6z.I i0)(hw:Wf X6z.A ()):X3m.F i0:=by
 unfold X3m.F
 simp only[Bs,B0,B1,Prod.mk.injEq,X01]
 exact⟨fun h1=>by simp[Xdc,h1],fun h1=>by simp[Xdc,h1]⟩
theorem X3m.eq:EqS X6z Tryz.f247 [3] [X2F.e,X4c.e] [] noL (fun i x=>X3m.F i):=by intro i x;kernel_rfl
theorem X3m.ok:X0l Tryz.prog 247 X6z:=X2b X3m.eq Tryz.func247 rfl (by kernel_rfl) fun i x h hi hw=>X3m.pure i h (hi rfl) hw
def X3m.e:GE:=⟨247,X6z,⟨_,Tryz.func247,rfl,rfl⟩,X3m.ok⟩
def X9q:Con:={A:=(.int .i64),shA:=[.one],R:=(.int .i64),shR:=[(false,1)],pre:=fun _ _=>True,f:=some fun _ a=>((Xlj a),((),()))}
def X4y.F(a0:Int):Prop:=(True∧∀r1,(Eq r1 ((X3X a0),((),())))→(Eq (r1.1.1,((),())) ((Xlj a0),((),()))))
theorem X4y.pure(a0:Int)(h:True)(hw:Wf X9q.A a0):X4y.F a0:=by
 unfold X4y.F
 simp only[Bs,B0,B1,Prod.mk.injEq,X01]
 repeat' (with_reducible (first | (refine And.intro ?_ ?_) | intro _))
 all_goals (try simp (disch:=omega) only[w64,wu8,tn0,tn1,tm1,tm2,List.length_append,List.length_cons,List.length_nil]at*)
 all_goals (try simp (disch:=omega) only[w64,wu8,tn0,tn1,tm1,tm2,List.length_append,List.length_cons,List.length_nil]at*)
 all_goals (try omega)
 all_goals (try grind[Xlj])
theorem X4y.eq:EqS X9q Tryz.f243 [3] [X42.e] [] noL (fun i x=>X4y.F x):=by intro i x;kernel_rfl
theorem X4y.ok:X0l Tryz.prog 243 X9q:=X2b X4y.eq Tryz.func243 rfl (by kernel_rfl) fun i x h hi hw=>X4y.pure x h hw
def X4y.e:GE:=⟨243,X9q,⟨_,Tryz.func243,rfl,rfl⟩,X4y.ok⟩
def X1Q:Con:={A:=(.pair .str .str),shA:=[.one,.one],R:=.bool,shR:=[(false,1)],pre:=fun _ _=>True,f:=some fun _ a=>((X6L a.1 a.2),((),()))}
def X0h.F(a0:U5q)(a1:U5q):Prop:=(X00 (decide ((ln a0)≥(ln a1))) (0≤(ln a1)∧((ln a1)≤(ln a0)∧(Eq (((List.take (tN (ln a1)) a0)==a1),((),())) ((X6L a0 a1),((),()))))) (Eq (false,((),())) ((X6L a0 a1),((),()))))
theorem X0h.pure(a0:U5q)(a1:U5q)(h:True)(hw:Wf X1Q.A (a0,a1)):X0h.F a0 a1:=by
 delta X0h.F ln tN
 simp only[Bs,B0,B1,Prod.mk.injEq,X01]
 refine⟨fun h1=>⟨by omega,by omega,by rw[show((a1.length:Nat):Int).toNat=a1.length by omega];rfl⟩,fun h1=>?_⟩
 symm;unfold X6L;rw[beq_eq_false_iff_ne];intro e
 have:=congrArg List.length e;simp at this;omega
theorem X0h.eq:EqS X1Q Tryz.f273 [4] [] [] noL (fun i x=>X0h.F x.1 x.2):=by intro i x;kernel_rfl
theorem X0h.ok:X0l Tryz.prog 273 X1Q:=X2b X0h.eq Tryz.func273 rfl (by kernel_rfl) fun i x h hi hw=>X0h.pure x.1 x.2 h hw
def X0h.e:GE:=⟨273,X1Q,⟨_,Tryz.func273,rfl,rfl⟩,X0h.ok⟩
def X4k:Con:={A:=(.pair .str .str),shA:=[.one,.one],R:=.bool,shR:=[(false,1)],pre:=fun _ _=>True,f:=some fun _ a=>((X6L a.1 a.2),((),()))}
def X1f.F(a0:U5q)(a1:U5q):Prop:=(True∧∀r1,(Eq r1 ((X6L a0 a1),((),())))→(Eq (r1.1,((),())) ((X6L a0 a1),((),()))))
theorem X1f.pure(a0:U5q)(a1:U5q)(h:True)(hw:Wf X4k.A (a0,a1)):X1f.F a0 a1:=by
 unfold X1f.F
 simp only[Bs,B0,B1,Prod.mk.injEq,X01]
 repeat' (with_reducible (first | (refine And.intro ?_ ?_) | intro _))
 all_goals (try simp (disch:=omega) only[w64,wu8,tn0,tn1,tm1,tm2,List.length_append,List.length_cons,List.length_nil]at*)
 all_goals (try simp (disch:=omega) only[w64,wu8,tn0,tn1,tm1,tm2,List.length_append,List.length_cons,List.length_nil]at*)
 all_goals (try omega)
 all_goals (try grind[])
theorem X1f.eq:EqS X4k Tryz.f266 [4] [X0h.e] [] noL (fun i x=>X1f.F x.1 x.2):=by intro i x;kernel_rfl
theorem X1f.ok:X0l Tryz.prog 266 X4k:=X2b X1f.eq Tryz.func266 rfl (by kernel_rfl) fun i x h hi hw=>X1f.pure x.1 x.2 h hw
def X1f.e:GE:=⟨266,X4k,⟨_,Tryz.func266,rfl,rfl⟩,X1f.ok⟩
def X8h:Con:={A:=(.pair .str .str),shA:=[.one,.one],R:=(.pair (.int .i64) .bool),shR:=[(false,1),(false,1)],pre:=fun _ _=>True,f:=some fun _ a=>((X6I a.1 a.2),((),()))}
def X3M.F(a0:U5q)(a1:U5q):Prop:=(X00 (!(a1==[])) (True∧∀r1,(Eq r1 ((X6L a0 a1),((),())))→(Eq (((ln a1),r1.1),((),())) ((X6I a0 a1),((),())))) (Eq (((ln a1),false),((),())) ((X6I a0 a1),((),()))))
theorem X3M.pure(a0:U5q)(a1:U5q)(h:True)(hw:Wf X8h.A (a0,a1)):X3M.F a0 a1:=by
 delta X3M.F ln
 simp only[Bs,B0,B1,Prod.mk.injEq,X01]
 repeat' (with_reducible (first | (refine And.intro ?_ ?_) | intro _))
 all_goals (try simp (disch:=omega) only[w64,wu8,tn0,tn1,tm1,tm2,List.length_append,List.length_cons,List.length_nil]at*)
 all_goals (try simp (disch:=omega) only[w64,wu8,tn0,tn1,tm1,tm2,List.length_append,List.length_cons,List.length_nil]at*)
 all_goals (try omega)
 all_goals (try grind[X6I])
theorem X3M.eq:EqS X8h Tryz.f248 [3,4] [X1f.e] [] noL (fun i x=>X3M.F x.1 x.2):=by intro i x;kernel_rfl
theorem X3M.ok:X0l Tryz.prog 248 X8h:=X2b X3M.eq Tryz.func248 rfl (by kernel_rfl) fun i x h hi hw=>X3M.pure x.1 x.2 h hw
def X3M.e:GE:=⟨248,X8h,⟨_,Tryz.func248,rfl,rfl⟩,X3M.ok⟩
theorem X9n{l:List Int}{i:Nat}(hi:i<l.length):l.take (i+1)=l.take i++[l.getD i 0]:=by
 rw[List.take_add_one,List.getD_eq_getElem?_getD,List.getElem?_eq_getElem hi];rfl
theorem Xa9{l:List Int}{i j:Nat}(h:j<i):(l.take i).getD j 0=l.getD j 0:=by
 simp[List.getD_eq_getElem?_getD,List.getElem?_take,h]
theorem Xhm{l:List Int}{i:Nat}{x:Int}(h:i=l.length):(l++[x]).getD i 0=x:=by subst h;simp[List.getD_eq_getElem?_getD]
theorem Xlh{l:List Int}{i:Nat}{x:Int}(h:i<l.length):(l++[x]).getD i 0=l.getD i 0:=by simp[List.getD_eq_getElem?_getD,List.getElem?_append_left h]
section
variable (ok:List Int→Bool) (W:List Int→Nat→Int) (nx:List Int→List Int→Nat→Int)
def RW(s:List UInt8)(n:Int)(l:List Int):Prop:=(l.length:Int)=n∧ok l=true∧s.take (cat (W l) l.length).length=cat (W l) l.length
def Xnr(v:List Int):Nat→List Int
 | 0=>[]
 | i+1=>Xnr v i++[nx (Xnr v i) v i]
instance (s:List UInt8) (n:Int) (l:List Int):Decidable (RW ok W s n l):=by unfold RW;infer_instance
def Xe2(s:List UInt8)(n:Int):List Int×Int:=
 if RW ok W s n (Xnr nx (X0A s n).1 n.toNat) then(Xnr nx (X0A s n).1 n.toNat,((cat (W (Xnr nx (X0A s n).1 n.toNat)) (Xnr nx (X0A s n).1 n.toNat).length).length:Int)) else([],0)
variable {ok W nx} (hW:∀l,ok l=true→∀i,i<l.length→X4s (W l i))
include hW
theorem RW.vars{s:List UInt8}{n:Int}{l:List Int}(h:RW ok W s n l):X0A s n=(vals (W l) l.length,((cat (W l) l.length).length:Int)):=by
 have e:=Xim (W:=W l) (n:=l.length) (s:=s) (hW l h.2.1) h.2.2
 rw[h.1]at e
 exact e
theorem RW.at{s:List UInt8}{n:Int}{l:List Int}(h:RW ok W s n l){i:Nat}(hi:i<l.length):(X0A s n).1.getD i 0=W l i:=by
 rw[RW.vars hW h];exact Xof _ hi
variable (hn:∀l,ok l=true→∀(v:List Int) i,i<l.length→v.getD i 0=W l i→nx (l.take i) v i=l.getD i 0)
include hn
theorem RW.dec{s:List UInt8}{n:Int}{l:List Int}(h:RW ok W s n l):∀i,i≤l.length→Xnr nx (X0A s n).1 i=l.take i
 | 0,_=>by simp[Xnr]
 | i+1,hi=>by
   rw[Xnr,RW.dec h i (by omega),X9n (by omega),hn l h.2.1 _ i (by omega) (RW.at hW h (by omega))]
theorem RW.yes{s:List UInt8}{n:Int}{l:List Int}(h:RW ok W s n l):Xe2 ok W nx s n=(l,((cat (W l) l.length).length:Int)):=by
 have e:Xnr nx (X0A s n).1 n.toNat=l:=by rw[RW.dec hW hn h _ (by have:=h.1;omega),show n.toNat=l.length by have:=h.1;omega,List.take_length]
 unfold Xe2
 rw[e,if_pos h]
theorem RW.get{s:List UInt8}{n:Int}(h0:ok []=false):Xe2 ok W nx s n=([],0)∧(∀l,¬RW ok W s n l)∨∃l,RW ok W s n l∧Xe2 ok W nx s n=(l,((cat (W l) l.length).length:Int)):=by
 by_cases h:∃l,RW ok W s n l
 · obtain⟨l,h⟩:=h
   exact .inr ⟨l,h,RW.yes hW hn h⟩
 · refine .inl ⟨?_,fun l hl=>h ⟨l,hl⟩⟩
   unfold Xe2
   rw[if_neg fun hl=>h ⟨_,hl⟩]
end
def tmW(l:List Int)(i:Nat):Int:=if i=0 then l.getD 0 0 else if i=1 then l.getD 1 0 - l.getD 0 0 else Xcv (l.getD i 0 - l.getD (i - 1) 0 - (l.getD (i - 1) 0 - l.getD (i - 2) 0))
def vlW(l:List Int)(i:Nat):Int:=Xcv (l.getD i 0 - (if i=0 then 0 else l.getD (i - 1) 0))
theorem Xpg(l:List Int):∀i,tmS l i=cat (tmW l) i
 | 0=>rfl
 | i+1=>by
   rw[Xjw,Xpg l i,cat]
   congr 1
   unfold Xbq tmW
   split
   · rfl
   · split<;>rfl
theorem XoR(l:List Int):∀i,vlS l i=cat (vlW l) i
 | 0=>rfl
 | i+1=>by rw[Xk9,XoR l i,cat];rfl
theorem XmE{l:List Int}(h:X94 l=true){i:Nat}(hi:i<l.length)(h2:2≤i):fIn (l.getD i 0 - l.getD (i - 1) 0 - (l.getD (i - 1) 0 - l.getD (i - 2) 0)) (-140737488355328) 140737488355328=true:=by
 have h1:=XbH h hi
 have h2:=XbH h (i:=i - 1) (by omega)
 have h3:=XbH h (i:=i - 2) (by omega)
 rw[X0C];omega
theorem XaW(l:List Int)(h:X94 l=true)(i:Nat)(hi:i<l.length):X4s (tmW l i):=by
 have h0:=XbH h (i:=0) (by omega)
 unfold tmW
 split
 · unfold X4s;omega
 · split
   · have h1:=X7Q.1 ((X4q.1 h).2 1 (by omega))
     simp only[show(1:Nat) - 1=0 from rfl]at h1
     unfold X4s;omega
   · exact Xm4 (XmE h hi (by omega))
theorem XlZ{l:List Int}(h:X9b l=true){i:Nat}(hi:i<l.length):fIn (l.getD i 0 - (if i=0 then 0 else l.getD (i - 1) 0)) (-140737488355328) 140737488355328=true:=by
 have h1:=XiI h hi
 rw[X0C]
 split
 · omega
 · have h2:=XiI h (i:=i - 1) (by omega)
   omega
theorem XbG(l:List Int)(h:X9b l=true)(i:Nat)(hi:i<l.length):X4s (vlW l i):=Xm4 (XlZ h hi)
def nxT(o v:List Int)(i:Nat):Int:=if i=0 then v.getD 0 0 else if i=1 then o.getD 0 0+v.getD 1 0 else o.getD (i - 1) 0+(o.getD (i - 1) 0 - o.getD (i - 2) 0+(X3X (v.getD i 0)).1)
def nxV(o v:List Int)(i:Nat):Int:=(if i=0 then 0 else o.getD (i - 1) 0)+(X3X (v.getD i 0)).1
theorem XlF(l:List Int)(h:X94 l=true)(v:List Int)(i:Nat)(hi:i<l.length)(hv:v.getD i 0=tmW l i):nxT (l.take i) v i=l.getD i 0:=by
 unfold nxT
 unfold tmW at hv
 by_cases h0:i=0
 · subst h0;simpa using hv
 rw[if_neg h0]at hv ⊢
 by_cases h1:i=1
 · subst h1
   rw[if_pos rfl]at hv
   rw[if_pos rfl,Xa9 (by omega),hv];omega
 rw[if_neg h1]at hv ⊢
 rw[hv,Xf1 (XmE h hi (by omega)),Xa9 (by omega),Xa9 (by omega)]
 simp only;omega
theorem Xn8(l:List Int)(h:X9b l=true)(v:List Int)(i:Nat)(hi:i<l.length)(hv:v.getD i 0=vlW l i):nxV (l.take i) v i=l.getD i 0:=by
 unfold nxV
 rw[hv,vlW,Xf1 (XlZ h hi)]
 split
 · simp
 · rw[Xa9 (by omega)];simp only;omega
def X3e(s:List UInt8)(n:Int):List Int×Int:=Xe2 X94 tmW nxT s n
def X3p(s:List UInt8)(n:Int):List Int×Int:=Xe2 X9b vlW nxV s n
abbrev RT:=RW X94 tmW
abbrev RV:=RW X9b vlW
theorem X79{l:List Int}(h:X94 l=true):X0m l=cat (tmW l) l.length:=by unfold X0m;rw[if_pos h,Xpg]
theorem X7b{l:List Int}(h:X9b l=true):X0i l=cat (vlW l) l.length:=by unfold X0i;rw[if_pos h,XoR]
theorem XdM(s:List UInt8)(n:Int):X3e s n=([],0)∧(∀l,¬RT s n l)∨∃l,RT s n l∧X3e s n=(l,((cat (tmW l) l.length).length:Int)):=RW.get XaW XlF rfl
theorem XeK(s:List UInt8)(n:Int):X3p s n=([],0)∧(∀l,¬RV s n l)∨∃l,RV s n l∧X3p s n=(l,((cat (vlW l) l.length).length:Int)):=RW.get XbG Xn8 rfl
theorem XbJ{s:List UInt8}{n:Int}{l:List Int}(h:RT s n l):X3e s n=(l,((cat (tmW l) l.length).length:Int)):=RW.yes XaW XlF h
theorem XbQ{s:List UInt8}{n:Int}{l:List Int}(h:RV s n l):X3p s n=(l,((cat (vlW l) l.length).length:Int)):=RW.yes XbG Xn8 h
def pRd(s:List UInt8)(n:Int):Prop:=s.length≤9223372036854775807
theorem Xm2{s:List UInt8}{n:Int}(hn:1≤n)(h:¬(X0A s n).2<0):((X0A s n).1.length:Int)=n∧(∀j:Nat,0≤(X0A s n).1.getD j 0∧(X0A s n).1.getD j 0≤562949953421311)∧0<(X0A s n).2∧(X0A s n).2≤s.length:=by
 obtain⟨k,rfl⟩:∃k:Nat,n=k:=⟨n.toNat,by omega⟩
 obtain⟨h1,h2,h3,h4⟩:=XkY h
 have h5:=congrArg List.length h4
 rw[List.length_take]at h5
 refine⟨by omega,fun j=>?_,?_,by omega⟩
 · by_cases hj:j<(X0A s k).1.length
   · have:=h2 _ (X14 (l:=(X0A s k).1) (d:=0) hj)
     exact this
   · rw[List.getD_eq_getElem?_getD,List.getElem?_eq_none (by omega)];simp
 · rw[h3]
   cases e:(X0A s k).1 with
   | nil=>rw[e]at h1;simp at h1;omega
   | cons v r=>
     have:=X7I (h2 v (by rw[e];simp))
     rw[Xgv,List.length_append];omega
def rsI(s:List UInt8)(n i:Int)(out:List Int):Prop:=1≤i∧i≤n∧(out.length:Int)=i∧((0≤out.getD (i.toNat - 1) 0∧out.getD (i.toNat - 1) 0≤562949953421311)∧(2≤i→0≤out.getD (i.toNat - 2) 0∧out.getD (i.toNat - 2) 0≤562949953421311))∧∀l,RT s n l→out=l.take i.toNat
def rsM(s:List UInt8)(n i:Int)(out:List Int):Nat:=(n - i).toNat
def vsI(s:List UInt8)(n last i:Int)(out:List Int):Prop:=0≤i∧i≤n∧(out.length:Int)=i∧(-1099511627776≤last∧last≤1099511627776)∧last=(if i=0 then 0 else out.getD (i.toNat - 1) 0)∧∀l,RV s n l→out=l.take i.toNat
def vsM(s:List UInt8)(n last i:Int)(out:List Int):Nat:=(n - i).toNat
theorem Xni(z:Int):-140737488355329≤Xlj z∧Xlj z≤140737488355328:=Xid z
theorem RT.val{s:List UInt8}{n:Int}{l:List Int}(h:RT s n l){i:Nat}(hi:i<l.length):(X0A s n).1.getD i 0=tmW l i:=RW.at XaW h hi
theorem RV.val{s:List UInt8}{n:Int}{l:List Int}(h:RV s n l){i:Nat}(hi:i<l.length):(X0A s n).1.getD i 0=vlW l i:=RW.at XbG h hi
theorem rt_of{s:List UInt8}{n k:Int}{out:List Int}(h1:(out.length:Int)=n)(hk:0<k)(hk2:k≤s.length)(h:X0m out=s.take k.toNat):RT s n out∧k=((cat (tmW out) out.length).length:Int):=by
 by_cases hr:X94 out=true
 · rw[X79 hr]at h
   have h2:=congrArg List.length h
   rw[List.length_take]at h2
   refine⟨⟨h1,hr,?_⟩,by omega⟩
   rw[show(cat (tmW out) out.length).length=k.toNat by omega,←h]
 · unfold X0m at h
   rw[if_neg hr]at h
   have h2:=congrArg List.length h
   rw[List.length_take]at h2
   simp at h2;omega
theorem rv_of{s:List UInt8}{n k:Int}{out:List Int}(h1:(out.length:Int)=n)(hk:0<k)(hk2:k≤s.length)(h:X0i out=s.take k.toNat):RV s n out∧k=((cat (vlW out) out.length).length:Int):=by
 by_cases hr:X9b out=true
 · rw[X7b hr]at h
   have h2:=congrArg List.length h
   rw[List.length_take]at h2
   refine⟨⟨h1,hr,?_⟩,by omega⟩
   rw[show(cat (vlW out) out.length).length=k.toNat by omega,←h]
 · unfold X0i at h
   rw[if_neg hr]at h
   have h2:=congrArg List.length h
   rw[List.length_take]at h2
   simp at h2;omega
theorem X9F{s:List UInt8}{n:Int}(h:∀l,¬RT s n l):([],0)=X3e s n:=by
 rcases XdM s n with⟨e,_⟩ | ⟨l,hl,_⟩
 · exact e.symm
 · exact absurd hl (h l)
theorem X9N{s:List UInt8}{n:Int}(h:∀l,¬RV s n l):([],0)=X3p s n:=by
 rcases XeK s n with⟨e,_⟩ | ⟨l,hl,_⟩
 · exact e.symm
 · exact absurd hl (h l)
theorem RT.len{s:List UInt8}{n:Int}{l:List Int}(h:RT s n l):fIn n 1 60=true:=by
 rw[X0C];have h1:=(X4q.1 h.2.1).1;have:=h.1;omega
theorem RV.len{s:List UInt8}{n:Int}{l:List Int}(h:RV s n l):fIn n 1 60=true:=by
 rw[X0C];have h1:=(X4R.1 h.2.1).1;have:=h.1;omega
theorem RT.pos{s:List UInt8}{n:Int}{l:List Int}(h:RT s n l):¬(X0A s n).2<0:=by
 rw[RW.vars XaW h];simp only;omega
theorem RV.pos{s:List UInt8}{n:Int}{l:List Int}(h:RV s n l):¬(X0A s n).2<0:=by
 rw[RW.vars XbG h];simp only;omega
theorem Xnu{s:List UInt8}{n:Int}(hn:1≤n)(hv:∀j:Nat,0≤(X0A s n).1.getD j 0∧(X0A s n).1.getD j 0≤562949953421311):rsI s n 1 [(X0A s n).1.getD (Int.toNat 0) 0]:=by
 refine⟨by omega,hn,rfl,⟨hv 0,fun h=>by omega⟩,fun l hl=>?_⟩
 have h1:=hl.1
 rw[show(1:Int).toNat=0+1 from rfl,X9n (by omega),show Int.toNat 0=0 from rfl,RT.val hl (by omega)]
 rfl
theorem XoI{s:List UInt8}{n x i:Int}{out:List Int}(hI:rsI s n i out)(hi:i<n)(hx:∀l,RT s n l→x=l.getD i.toNat 0)(h:fIn x 0 1099511627776=false):([],0)=X3e s n:=by
 refine X9F fun l hl=>?_
 have h1:=hl.1
 have h2:=hI.1
 have:=XbH hl.2.1 (i:=i.toNat) (by omega)
 rw[hx l hl,X0C.2 this]at h;cases h
theorem XlV{s:List UInt8}{n x i:Int}{out:List Int}(hI:rsI s n i out)(hi:i<n)(hx:∀l,RT s n l→x=l.getD i.toNat 0)(h:fIn x 0 1099511627776=true):rsI s n (i+1) (out++[x]):=by
 obtain⟨h1,h2,h3,h4,h5⟩:=hI
 rw[X0C]at h
 refine⟨by omega,by omega,by simp;omega,⟨?_,fun _=>?_⟩,fun l hl=>?_⟩
 · rw[Xhm (by omega)];omega
 · rw[Xlh (by omega),show(i+1).toNat - 2=i.toNat - 1 by omega];exact h4.1
 · have:=hl.1
   rw[show(i+1).toNat=i.toNat+1 by omega,X9n (by omega),←h5 l hl,hx l hl]
theorem XqV{s:List UInt8}{n i:Int}{out:List Int}(hI:rsI s n i out)(hi:i<n)(h0:¬i>1):∀l,RT s n l→out.getD (i.toNat - 1) 0+(X0A s n).1.getD i.toNat 0=l.getD i.toNat 0:=fun l hl=>by
 have h1:=hl.1
 have h2:=hI.1
 rw[RT.val hl (by omega),hI.2.2.2.2 l hl,show i=1 by omega,show(1:Int).toNat - 1=0 from rfl,show(1:Int).toNat=1 from rfl,Xa9 (by omega)]
 unfold tmW;simp;omega
theorem XqK{s:List UInt8}{n i:Int}{out:List Int}(hI:rsI s n i out)(hi:i<n)(h0:i>1):∀l,RT s n l→out.getD (i.toNat - 1) 0+(out.getD (i.toNat - 1) 0 - out.getD (i.toNat - 2) 0+Xlj ((X0A s n).1.getD i.toNat 0))=l.getD i.toNat 0:=fun l hl=>by
 have h1:=hl.1
 have h2:=hI.1
 have:=XlF l hl.2.1 (X0A s n).1 i.toNat (by omega) (RT.val hl (by omega))
 rw[nxT,if_neg (by omega),if_neg (by omega),←hI.2.2.2.2 l hl]at this
 exact this
theorem Xrk{s:List UInt8}{n i:Int}{out:List Int}(hI:rsI s n i out)(hi:¬i<n)(hk:0<(X0A s n).2)(hk2:(X0A s n).2≤s.length):(¬X0m out=s.take (X0A s n).2.toNat→([],0)=X3e s n)∧(X0m out=s.take (X0A s n).2.toNat→(out,(X0A s n).2)=X3e s n):=by
 obtain⟨h1,h2,h3,_,h5⟩:=hI
 refine⟨fun h=>X9F fun l hl=>h ?_,fun h=>?_⟩
 · have:=hl.1
   rw[h5 l hl,show i.toNat=l.length by omega,List.take_length,RW.vars XaW hl,X79 hl.2.1]
   simp only[Int.toNat_natCast]
   exact hl.2.2.symm
 · obtain⟨q1,q2⟩:=rt_of (n:=n) (by omega) hk hk2 h
   rw[XbJ q1,←q2]
theorem XqY{s:List UInt8}{n x i last:Int}{out:List Int}(hI:vsI s n last i out)(hi:i<n)(hx:∀l,RV s n l→x=l.getD i.toNat 0)(h:fIn x (-1099511627776) 1099511627776=false):([],0)=X3p s n:=by
 refine X9N fun l hl=>?_
 have h1:=hl.1
 have h2:=hI.1
 have:=XiI hl.2.1 (i:=i.toNat) (by omega)
 rw[hx l hl,X0C.2 this]at h;cases h
theorem XpV{s:List UInt8}{n x i last:Int}{out:List Int}(hI:vsI s n last i out)(hi:i<n)(hx:∀l,RV s n l→x=l.getD i.toNat 0)(h:fIn x (-1099511627776) 1099511627776=true):vsI s n x (i+1) (out++[x]):=by
 obtain⟨h1,h2,h3,h4,h5,h6⟩:=hI
 rw[X0C]at h
 refine⟨by omega,by omega,by simp;omega,h,?_,fun l hl=>?_⟩
 · rw[if_neg (by omega),Xhm (by omega)]
 · have:=hl.1
   rw[show(i+1).toNat=i.toNat+1 by omega,X9n (by omega),←h6 l hl,hx l hl]
theorem XrS{s:List UInt8}{n i last:Int}{out:List Int}(hI:vsI s n last i out)(hi:i<n):∀l,RV s n l→last+Xlj ((X0A s n).1.getD i.toNat 0)=l.getD i.toNat 0:=fun l hl=>by
 obtain⟨h1,h2,h3,h4,h5,h6⟩:=hI
 have h1:=hl.1
 have:=Xn8 l hl.2.1 (X0A s n).1 i.toNat (by omega) (RV.val hl (by omega))
 rw[nxV,←h6 l hl]at this
 rw[h5,←this]
 by_cases h0:i=0
 · rw[if_pos h0,if_pos (by omega)];rfl
 · rw[if_neg h0,if_neg (by omega)];rfl
theorem XrE{s:List UInt8}{n i last:Int}{out:List Int}(hI:vsI s n last i out)(hi:¬i<n)(hk:0<(X0A s n).2)(hk2:(X0A s n).2≤s.length):(¬X0i out=s.take (X0A s n).2.toNat→([],0)=X3p s n)∧(X0i out=s.take (X0A s n).2.toNat→(out,(X0A s n).2)=X3p s n):=by
 obtain⟨h1,h2,h3,_,_,h5⟩:=hI
 refine⟨fun h=>X9N fun l hl=>h ?_,fun h=>?_⟩
 · have:=hl.1
   rw[h5 l hl,show i.toNat=l.length by omega,List.take_length,RW.vars XbG hl,X7b hl.2.1]
   simp only[Int.toNat_natCast]
   exact hl.2.2.symm
 · obtain⟨q1,q2⟩:=rv_of (n:=n) (by omega) hk hk2 h
   rw[XbQ q1,←q2]
def X5G:Con:={A:=Xli,shA:=[.one,.one],R:=(.pair Xc7 (.int .i64)),shR:=[(false,1),(false,1)],pre:=fun _ a=>(pRd a.1 a.2),f:=some fun _ a=>((X3e a.1 a.2),((),()))}
def X1F.F(a0:U5q)(a1:Int):Prop:=(True∧∀r1,(Eq r1 ((fIn a1 1 60),((),())))→(X00 (!r1.1) (Eq ((([]:(List Int)),0),((),())) ((X3e a0 a1),((),()))) ((p7 a0 a1)∧∀r2,(Eq r2 ((X0A a0 a1),((),())))→(X00 (decide (r2.1.2<(0:Int))) (Eq ((([]:(List Int)),0),((),())) ((X3e a0 a1),((),()))) (0≤(0:Int)∧((0:Int)<(ln r2.1.1)∧(eS [(0,.val false [.str a0]),(1,.val false [.int .i64 a1]),(6,.val false [.lst (.int .i64) [] none]),(7,.val false [.lst (.int .i64) r2.1.1 none]),(8,.val false [.int .i64 r2.1.2])] [(0,.val false [.str a0]),(1,.val false [.int .i64 a1]),(6,.val false [.lst (.int .i64) [] none]),(7,.val false [.lst (.int .i64) r2.1.1 none]),(8,.val false [.int .i64 r2.1.2])]∧((rsI a0 a1 1 [(List.getD r2.1.1 (tN (0:Int)) 0)])∧∀(y3:(Int×(List Int))),(rsI a0 a1 y3.1 y3.2)→(X00 (decide (y3.1<a1)) (0≤y3.1∧(y3.1<(ln r2.1.1)∧(X00 (decide (y3.1>(1:Int))) (0≤(wI (y3.1 - (1:Int)))∧((wI (y3.1 - (1:Int)))<(ln y3.2)∧(0≤(wI (y3.1 - (2:Int)))∧((wI (y3.1 - (2:Int)))<(ln y3.2)∧(0≤y3.1∧(y3.1<(ln r2.1.1)∧(True∧∀r4,(Eq r4 ((Xlj (List.getD r2.1.1 (tN y3.1) 0)),((),())))→(0≤(wI (y3.1 - (1:Int)))∧((wI (y3.1 - (1:Int)))<(ln y3.2)∧(True∧∀r5,(Eq r5 ((fIn (wI ((List.getD y3.2 (tN (wI (y3.1 - (1:Int)))) 0)+(wI ((wI ((List.getD y3.2 (tN (wI (y3.1 - (1:Int)))) 0) - (List.getD y3.2 (tN (wI (y3.1 - (2:Int)))) 0)))+r4.1)))) 0 1099511627776),((),())))→(X00 (!r5.1) (Eq ((([]:(List Int)),0),((),())) ((X3e a0 a1),((),()))) (List.length y3.2+List.length [(wI ((List.getD y3.2 (tN (wI (y3.1 - (1:Int)))) 0)+(wI ((wI ((List.getD y3.2 (tN (wI (y3.1 - (1:Int)))) 0) - (List.getD y3.2 (tN (wI (y3.1 - (2:Int)))) 0)))+r4.1))))]≤9223372036854775807∧((List.length y3.2+List.length [(wI ((List.getD y3.2 (tN (wI (y3.1 - (1:Int)))) 0)+(wI ((wI ((List.getD y3.2 (tN (wI (y3.1 - (1:Int)))) 0) - (List.getD y3.2 (tN (wI (y3.1 - (2:Int)))) 0)))+r4.1))))])*8≤140737488355328∧(eS [(0,.val false [.str a0]),(1,.val false [.int .i64 a1]),(6,.val false [.lst (.int .i64) [] none]),(7,.val false [.lst (.int .i64) r2.1.1 none]),(8,.val false [.int .i64 r2.1.2])] [(0,.val false [.str a0]),(1,.val false [.int .i64 a1]),(6,.val false [.lst (.int .i64) [] none]),(7,.val false [.lst (.int .i64) r2.1.1 none]),(8,.val false [.int .i64 r2.1.2])]∧(rsI a0 a1 (wI (y3.1+(1:Int))) (y3.2++[(wI ((List.getD y3.2 (tN (wI (y3.1 - (1:Int)))) 0)+(wI ((wI ((List.getD y3.2 (tN (wI (y3.1 - (1:Int)))) 0) - (List.getD y3.2 (tN (wI (y3.1 - (2:Int)))) 0)))+r4.1))))]))∧(rsM a0 a1 (wI (y3.1+(1:Int))) (y3.2++[(wI ((List.getD y3.2 (tN (wI (y3.1 - (1:Int)))) 0)+(wI ((wI ((List.getD y3.2 (tN (wI (y3.1 - (1:Int)))) 0) - (List.getD y3.2 (tN (wI (y3.1 - (2:Int)))) 0)))+r4.1))))]))<(rsM a0 a1 y3.1 y3.2))))))))))))))) (0≤(wI (y3.1 - (1:Int)))∧((wI (y3.1 - (1:Int)))<(ln y3.2)∧(True∧∀r6,(Eq r6 ((fIn (wI ((List.getD y3.2 (tN (wI (y3.1 - (1:Int)))) 0)+(List.getD r2.1.1 (tN y3.1) 0))) 0 1099511627776),((),())))→(X00 (!r6.1) (Eq ((([]:(List Int)),0),((),())) ((X3e a0 a1),((),()))) (List.length y3.2+List.length [(wI ((List.getD y3.2 (tN (wI (y3.1 - (1:Int)))) 0)+(List.getD r2.1.1 (tN y3.1) 0)))]≤9223372036854775807∧((List.length y3.2+List.length [(wI ((List.getD y3.2 (tN (wI (y3.1 - (1:Int)))) 0)+(List.getD r2.1.1 (tN y3.1) 0)))])*8≤140737488355328∧(eS [(0,.val false [.str a0]),(1,.val false [.int .i64 a1]),(6,.val false [.lst (.int .i64) [] none]),(7,.val false [.lst (.int .i64) r2.1.1 none]),(8,.val false [.int .i64 r2.1.2])] [(0,.val false [.str a0]),(1,.val false [.int .i64 a1]),(6,.val false [.lst (.int .i64) [] none]),(7,.val false [.lst (.int .i64) r2.1.1 none]),(8,.val false [.int .i64 r2.1.2])]∧(rsI a0 a1 (wI (y3.1+(1:Int))) (y3.2++[(wI ((List.getD y3.2 (tN (wI (y3.1 - (1:Int)))) 0)+(List.getD r2.1.1 (tN y3.1) 0)))]))∧(rsM a0 a1 (wI (y3.1+(1:Int))) (y3.2++[(wI ((List.getD y3.2 (tN (wI (y3.1 - (1:Int)))) 0)+(List.getD r2.1.1 (tN y3.1) 0)))]))<(rsM a0 a1 y3.1 y3.2))))))))))) (True∧∀r7,(Eq r7 ((X0m y3.2),((),())))→(0≤r2.1.2∧(r2.1.2≤(ln a0)∧(X00 (!(r7.1==(List.take (tN r2.1.2) a0))) (Eq ((([]:(List Int)),0),((),())) ((X3e a0 a1),((),()))) (Eq ((y3.2,r2.1.2),((),())) ((X3e a0 a1),((),()))))))))))))))))
def X1F.L(a0:U5q)(a1:Int):Nat→Option X0d:=fun p=>Go.Proofs.YtcfaphojdacmbaaGreatR.Bv.look p [(1018,{kp:={hold:=[0,1,6,7,8],slots:=[9,10],boxes:=[],rows:=[{bx:=false,s:=9,i:=0,k:=1001155,e:=3,hot:=true}]},T:=(.pair (.int .i64) Xc7),I:=fun st y=>rsI a0 a1 y.1 y.2,μ:=fun st y=>rsM a0 a1 y.1 y.2})]
theorem X1F.pure(a0:U5q)(a1:Int)(h:(pRd a0 a1))(hw:Wf X5G.A (a0,a1)):X1F.F a0 a1:=by
 delta X1F.F ln tN wI eS
 simp only[Bs,B0,B1,Prod.mk.injEq,X01]
 have hp:a0.length≤9223372036854775807:=h
 refine⟨fun h1=>X9F fun l hl=>(by rw[RT.len hl]at h1;cases h1),fun h1=>?_⟩
 rw[X0C]at h1
 refine⟨⟨hp,by omega,by omega⟩,fun h2=>X9F fun l hl=>RT.pos hl h2,fun h2=>?_⟩
 obtain⟨k1,k2,k3,k4⟩:=Xm2 (by omega) h2
 refine⟨by omega,by omega,Xnu (by omega) k2,fun y hI=>?_⟩
 obtain⟨i,out⟩:=y
 simp only at hI ⊢
 have g1:=hI.1
 have g2:=hI.2.2.1
 have g3:=hI.2.2.2.1.1
 have g4:=hI.2.2.2.1.2
 have g5:=hI.2.1
 have e1:IntKind.wrap .i64 (i+1)=i+1:=w64 (by omega) (by omega)
 have e2:IntKind.wrap .i64 (i - 1)=i - 1:=w64 (by omega) (by omega)
 have e3:IntKind.wrap .i64 (i - 2)=i - 2:=w64 (by omega) (by omega)
 have kv:=k2 i.toNat
 refine⟨fun hi=>⟨by omega,by omega,fun h3=>?_,fun h3=>?_⟩,fun hi=>⟨by omega,k4,Xrk hI hi k3 k4⟩⟩
 · have ku:=Xni ((X0A a0 a1).1.getD i.toNat 0)
   have g4:=g4 (by omega)
   have hx:=XqK hI hi h3
   rw[e1,e2,e3,show(i - 1).toNat=i.toNat - 1 by omega,show(i - 2).toNat=i.toNat - 2 by omega,w64 (x:=out.getD (i.toNat - 1) 0 - out.getD (i.toNat - 2) 0) (by omega) (by omega),w64 (x:=out.getD (i.toNat - 1) 0 - out.getD (i.toNat - 2) 0+Xlj ((X0A a0 a1).1.getD i.toNat 0)) (by omega) (by omega),w64 (x:=out.getD (i.toNat - 1) 0+(out.getD (i.toNat - 1) 0 - out.getD (i.toNat - 2) 0+Xlj ((X0A a0 a1).1.getD i.toNat 0))) (by omega) (by omega)]
   exact⟨by omega,by omega,by omega,by omega,by omega,by omega,by omega,by omega,XoI hI hi hx,fun h4=>⟨by omega,by omega,XlV hI hi hx h4,by unfold rsM;omega⟩⟩
 · have hx:=XqV hI hi h3
   rw[e1,e2,show(i - 1).toNat=i.toNat - 1 by omega,w64 (x:=out.getD (i.toNat - 1) 0+(X0A a0 a1).1.getD i.toNat 0) (by omega) (by omega)]
   exact⟨by omega,by omega,XoI hI hi hx,fun h4=>⟨by omega,by omega,XlV hI hi hx h4,by unfold rsM;omega⟩⟩
theorem X1F.eq:EqS X5G Tryz.f200 [138,3] [X2a.e,X1h.e,X2h.e,X4y.e] [] (fun i x=>X1F.L x.1 x.2) (fun i x=>X1F.F x.1 x.2):=by intro i x;kernel_rfl
theorem X1F.ok:X0l Tryz.prog 200 X5G:=X2b X1F.eq Tryz.func200 rfl (by kernel_rfl) fun i x h hi hw=>X1F.pure x.1 x.2 h hw
def X1F.e:GE:=⟨200,X5G,⟨_,Tryz.func200,rfl,rfl⟩,X1F.ok⟩
def X5e:Con:={A:=Xli,shA:=[.one,.one],R:=(.pair Xc7 (.int .i64)),shR:=[(false,1),(false,1)],pre:=fun _ a=>(pRd a.1 a.2),f:=some fun _ a=>((X3p a.1 a.2),((),()))}
def X18.F(a0:U5q)(a1:Int):Prop:=(True∧∀r1,(Eq r1 ((fIn a1 1 60),((),())))→(X00 (!r1.1) (Eq ((([]:(List Int)),0),((),())) ((X3p a0 a1),((),()))) ((p7 a0 a1)∧∀r2,(Eq r2 ((X0A a0 a1),((),())))→(X00 (decide (r2.1.2<(0:Int))) (Eq ((([]:(List Int)),0),((),())) ((X3p a0 a1),((),()))) (eS [(0,.val false [.str a0]),(1,.val false [.int .i64 a1]),(6,.val false [.lst (.int .i64) [] none]),(7,.val false [.lst (.int .i64) r2.1.1 none]),(8,.val false [.int .i64 r2.1.2])] [(0,.val false [.str a0]),(1,.val false [.int .i64 a1]),(6,.val false [.lst (.int .i64) [] none]),(7,.val false [.lst (.int .i64) r2.1.1 none]),(8,.val false [.int .i64 r2.1.2])]∧((vsI a0 a1 0 0 ([]:List Int))∧∀(y3:(Int×(Int×(List Int)))),(vsI a0 a1 y3.1 y3.2.1 y3.2.2)→(X00 (decide (y3.2.1<a1)) (0≤y3.2.1∧(y3.2.1<(ln r2.1.1)∧(True∧∀r4,(Eq r4 ((Xlj (List.getD r2.1.1 (tN y3.2.1) 0)),((),())))→(True∧∀r5,(Eq r5 ((fIn (wI (y3.1+r4.1)) (-1099511627776) 1099511627776),((),())))→(X00 (!r5.1) (Eq ((([]:(List Int)),0),((),())) ((X3p a0 a1),((),()))) (List.length y3.2.2+List.length [(wI (y3.1+r4.1))]≤9223372036854775807∧((List.length y3.2.2+List.length [(wI (y3.1+r4.1))])*8≤140737488355328∧(eS [(0,.val false [.str a0]),(1,.val false [.int .i64 a1]),(6,.val false [.lst (.int .i64) [] none]),(7,.val false [.lst (.int .i64) r2.1.1 none]),(8,.val false [.int .i64 r2.1.2])] [(0,.val false [.str a0]),(1,.val false [.int .i64 a1]),(6,.val false [.lst (.int .i64) [] none]),(7,.val false [.lst (.int .i64) r2.1.1 none]),(8,.val false [.int .i64 r2.1.2])]∧(vsI a0 a1 (wI (y3.1+r4.1)) (wI (y3.2.1+(1:Int))) (y3.2.2++[(wI (y3.1+r4.1))]))∧(vsM a0 a1 (wI (y3.1+r4.1)) (wI (y3.2.1+(1:Int))) (y3.2.2++[(wI (y3.1+r4.1))]))<(vsM a0 a1 y3.1 y3.2.1 y3.2.2))))))))) (True∧∀r6,(Eq r6 ((X0i y3.2.2),((),())))→(0≤r2.1.2∧(r2.1.2≤(ln a0)∧(X00 (!(r6.1==(List.take (tN r2.1.2) a0))) (Eq ((([]:(List Int)),0),((),())) ((X3p a0 a1),((),()))) (Eq ((y3.2.2,r2.1.2),((),())) ((X3p a0 a1),((),()))))))))))))))
def X18.L(a0:U5q)(a1:Int):Nat→Option X0d:=fun p=>Go.Proofs.YtcfaphojdacmbaaGreatR.Bv.look p [(2042,{kp:={hold:=[0,1,6,7,8],slots:=[9,10,11],boxes:=[],rows:=[{bx:=false,s:=9,i:=0,k:=1001155,e:=3,hot:=true}]},T:=(.pair (.int .i64) (.pair (.int .i64) Xc7)),I:=fun st y=>vsI a0 a1 y.1 y.2.1 y.2.2,μ:=fun st y=>vsM a0 a1 y.1 y.2.1 y.2.2})]
theorem X18.pure(a0:U5q)(a1:Int)(h:(pRd a0 a1))(hw:Wf X5e.A (a0,a1)):X18.F a0 a1:=by
 delta X18.F ln tN wI eS
 simp only[Bs,B0,B1,Prod.mk.injEq,X01]
 have hp:a0.length≤9223372036854775807:=h
 refine⟨fun h1=>X9N fun l hl=>(by rw[RV.len hl]at h1;cases h1),fun h1=>?_⟩
 rw[X0C]at h1
 refine⟨⟨hp,by omega,by omega⟩,fun h2=>X9N fun l hl=>RV.pos hl h2,fun h2=>?_⟩
 obtain⟨k1,k2,k3,k4⟩:=Xm2 (by omega) h2
 refine⟨⟨by omega,by omega,rfl,by omega,rfl,fun l hl=>by simp⟩,fun y hI=>?_⟩
 obtain⟨last,i,out⟩:=y
 simp only at hI ⊢
 have g1:=hI.1
 have g2:=hI.2.2.1
 have g3:=hI.2.2.2.1
 have g5:=hI.2.1
 have e1:IntKind.wrap .i64 (i+1)=i+1:=w64 (by omega) (by omega)
 refine⟨fun hi=>⟨by omega,by omega,?_⟩,fun hi=>⟨by omega,k4,XrE hI hi k3 k4⟩⟩
 have ku:=Xni ((X0A a0 a1).1.getD i.toNat 0)
 have hx:=XrS hI hi
 rw[e1,w64 (x:=last+Xlj ((X0A a0 a1).1.getD i.toNat 0)) (by omega) (by omega)]
 exact⟨XqY hI hi hx,fun h4=>⟨by omega,by omega,XpV hI hi hx h4,by unfold vsM;omega⟩⟩
theorem X18.eq:EqS X5e Tryz.f201 [138,3] [X2a.e,X0T.e,X2h.e,X4y.e] [] (fun i x=>X18.L x.1 x.2) (fun i x=>X18.F x.1 x.2):=by intro i x;kernel_rfl
theorem X18.ok:X0l Tryz.prog 201 X5e:=X2b X18.eq Tryz.func201 rfl (by kernel_rfl) fun i x h hi hw=>X18.pure x.1 x.2 h hw
def X18.e:GE:=⟨201,X5e,⟨_,Tryz.func201,rfl,rfl⟩,X18.ok⟩
def dT(l:List Int)(j:Nat):Int:=if j=0 then l.getD 0 0 else l.getD j 0 - l.getD (j - 1) 0
def laT(l:List Int)(j:Nat):Int:=if j=0 then 0 else l.getD (j - 1) 0
def riI(s:List UInt8)(n step last i:Int)(rest:List UInt8)(ok:Bool)(out:List Int):Prop:=(0≤i∧i≤n∧n≤60∧(out.length:Int)=i)∧(-(1125899906842624*i)≤step∧step≤1125899906842624*i∧-(70000000000000000*i)≤last∧last≤70000000000000000*i)∧∀l,RT s n l→ok=true∧rest=s.drop (cat (tmW l) i.toNat).length∧out=l.take i.toNat∧last=laT l i.toNat∧(1≤i→step=dT l (i.toNat - 1))
def riM(s:List UInt8)(n step last i:Int)(rest:List UInt8)(ok:Bool)(out:List Int):Nat:=(n - i).toNat
def viI(s:List UInt8)(n last i:Int)(rest:List UInt8)(ok:Bool)(out:List Int):Prop:=(0≤i∧i≤n∧n≤60∧(out.length:Int)=i)∧(-(70000000000000000*i)≤last∧last≤70000000000000000*i)∧∀l,RV s n l→ok=true∧rest=s.drop (cat (vlW l) i.toNat).length∧out=l.take i.toNat∧last=laT l i.toNat
def viM(s:List UInt8)(n last i:Int)(rest:List UInt8)(ok:Bool)(out:List Int):Nat:=(n - i).toNat
theorem Xpi{W:Nat→Int}{n i:Nat}{s:List UInt8}(hw:∀j,j<n→X4s (W j))(hs:s.take (cat W n).length=cat W n)(hi:i<n):X4K (s.drop (cat W i).length,true)=(W i,(s.drop (cat W (i+1)).length,true)):=by
 obtain⟨h1,h2⟩:=Xkb hw hs hi
 have hp:=X7I (hw i hi)
 unfold X4K
 simp only
 rw[h1]
 simp only
 rw[if_pos ⟨trivial,by omega⟩,Int.toNat_natCast,h2]
theorem Xp2{W:Nat→Int}{n i:Nat}{s:List UInt8}{d:Int}(hw:∀j,j<n→X4s (W j))(hs:s.take (cat W n).length=cat W n)(hi:i<n)(hd:fIn d (-140737488355328) 140737488355328=true)(he:W i=Xcv d):Xdc (s.drop (cat W i).length,true)=(d,(s.drop (cat W (i+1)).length,true)):=by
 unfold Xdc
 rw[Xpi hw hs hi]
 simp only
 rw[he,Xf1 hd]
 rfl
theorem Xn5{s:List UInt8}{n step last i step':Int}{rest:List UInt8}{ok:Bool}{out:List Int}{r:Rd}(hI:riI s n step last i rest ok out)(hi:i<n)(hb:-(1125899906842624*(i+1))≤step'∧step'≤1125899906842624*(i+1))(hs:∀l,RT s n l→ok=true→rest=s.drop (cat (tmW l) i.toNat).length→(1≤i→step=dT l (i.toNat - 1))→step'=dT l i.toNat∧r=(s.drop (cat (tmW l) (i.toNat+1)).length,true)):riI s n step' (last+step') (i+1) r.1 r.2 (out++[last+step']):=by
 obtain⟨⟨h1,h2,h3,h4⟩,⟨h5,h6,h7,h8⟩,h9⟩:=hI
 refine⟨⟨by omega,by omega,h3,by simp;omega⟩,⟨by omega,by omega,by omega,by omega⟩,fun l hl=>?_⟩
 obtain⟨k1,k2,k3,k4,k5⟩:=h9 l hl
 obtain⟨j1,j2⟩:=hs l hl k1 k2 k5
 have hll:=hl.1
 have e:(i+1).toNat=i.toNat+1:=by omega
 have hx:last+step'=l.getD i.toNat 0:=by
  rw[k4,j1];unfold laT dT
  split
  · rename_i h0;rw[h0];omega
  · omega
 rw[e,j2]
 refine⟨rfl,rfl,by rw[k3,hx,X9n (by omega)],by rw[hx];rfl,fun _=>j1⟩
theorem Xre{s:List UInt8}{n step i:Int}{rest:List UInt8}{ok:Bool}(h0:0≤i)(hi:i<n)(h2:i<2):∀l,RT s n l→ok=true→rest=s.drop (cat (tmW l) i.toNat).length→(1≤i→step=dT l (i.toNat - 1))→(X4K (rest,ok)).1=dT l i.toNat∧(X4K (rest,ok)).2=(s.drop (cat (tmW l) (i.toNat+1)).length,true):=fun l hl k1 k2 _=>by
 have hll:=hl.1
 rw[k1,k2,Xpi (XaW l hl.2.1) hl.2.2 (by omega)]
 refine⟨?_,rfl⟩
 show tmW l i.toNat=dT l i.toNat
 unfold tmW dT
 split
 · rfl
 · rw[if_pos (by omega),show i.toNat=1 by omega]
theorem XqO{s:List UInt8}{n step i:Int}{rest:List UInt8}{ok:Bool}(hi:i<n)(h2:¬i<2):∀l,RT s n l→ok=true→rest=s.drop (cat (tmW l) i.toNat).length→(1≤i→step=dT l (i.toNat - 1))→step+(Xdc (rest,ok)).1=dT l i.toNat∧(Xdc (rest,ok)).2=(s.drop (cat (tmW l) (i.toNat+1)).length,true):=fun l hl k1 k2 k3=>by
 have hll:=hl.1
 rw[k1,k2,Xp2 (XaW l hl.2.1) hl.2.2 (by omega) (XmE hl.2.1 (i:=i.toNat) (by omega) (by omega)) (by unfold tmW;rw[if_neg (by omega),if_neg (by omega)])]
 refine⟨?_,rfl⟩
 rw[k3 (by omega)]
 unfold dT
 rw[if_neg (by omega),if_neg (by omega),show i.toNat - 1 - 1=i.toNat - 2 by omega]
 simp only;omega
theorem Xqm{s:List UInt8}{n last i:Int}{rest:List UInt8}{ok:Bool}{out:List Int}(hI:viI s n last i rest ok out)(hi:i<n):viI s n (last+(Xdc (rest,ok)).1) (i+1) (Xdc (rest,ok)).2.1 (Xdc (rest,ok)).2.2 (out++[last+(Xdc (rest,ok)).1]):=by
 obtain⟨⟨h1,h2,h3,h4⟩,⟨h7,h8⟩,h9⟩:=hI
 have hz:=XlC (rest,ok)
 refine⟨⟨by omega,by omega,h3,by simp;omega⟩,⟨by omega,by omega⟩,fun l hl=>?_⟩
 obtain⟨k1,k2,k3,k4⟩:=h9 l hl
 have hll:=hl.1
 have e:(i+1).toNat=i.toNat+1:=by omega
 rw[k1,k2,Xp2 (XbG l hl.2.1) hl.2.2 (by omega) (XlZ hl.2.1 (i:=i.toNat) (by omega)) rfl]
 have hx:last+(l.getD i.toNat 0 - (if i.toNat=0 then 0 else l.getD (i.toNat - 1) 0))=l.getD i.toNat 0:=by
  rw[k4];unfold laT
  split<;>omega
 simp only
 rw[hx,e]
 exact⟨trivial,rfl,by rw[k3,X9n (by omega)],rfl⟩
theorem XjD{s t:List UInt8}(h:X6L s t=true):s.take t.length=t:=by simpa [X6L] using h
theorem XrJ{s:List UInt8}{n step last i:Int}{rest:List UInt8}{ok:Bool}{out:List Int}(hI:riI s n step last i rest ok out)(hi:¬i<n):(ok=false→([],0)=X3e s n)∧(ok=true→((X6I s (X0m out)).2=false→([],0)=X3e s n)∧((X6I s (X0m out)).2=true→(out,(X6I s (X0m out)).1)=X3e s n)):=by
 obtain⟨⟨h1,h2,h3,h4⟩,_,h9⟩:=hI
 refine⟨fun h=>X9F fun l hl=>?_,fun h=>⟨fun h5=>X9F fun l hl=>?_,fun h5=>?_⟩⟩
 · rw[(h9 l hl).1]at h;cases h
 · have hll:=hl.1
   have e:out=l:=by rw[(h9 l hl).2.2.1,show i.toNat=l.length by omega,List.take_length]
   have hp:0<(cat (tmW l) l.length).length:=Xbk (XaW l hl.2.1 0 (by have:=(X4q.1 hl.2.1).1;omega)) _ (by have:=(X4q.1 hl.2.1).1;omega)
   rw[e]at h5
   simp only[X6I,Bool.and_eq_false_iff,decide_eq_false_iff_not,X6L,beq_eq_false_iff_ne,ne_eq,Decidable.not_not,X79 hl.2.1]at h5
   rcases h5 with h5 | h5
   · rw[h5]at hp;simp at hp
   · exact h5 hl.2.2
 · simp only[X6I,Bool.and_eq_true,decide_eq_true_eq,ne_eq]at h5
   have hr:X94 out=true:=by
    by_cases hr:X94 out=true
    · exact hr
    · exact absurd (by unfold X0m;rw[if_neg hr]) h5.1
   have hR:RT s n out:=⟨by omega,hr,by have:=XjD h5.2;rw[X79 hr]at this;exact this⟩
   rw[XbJ hR]
   simp only[X6I,X79 hr]
theorem Xr3{s:List UInt8}{n last i:Int}{rest:List UInt8}{ok:Bool}{out:List Int}(hI:viI s n last i rest ok out)(hi:¬i<n):(ok=false→([],0)=X3p s n)∧(ok=true→((X6I s (X0i out)).2=false→([],0)=X3p s n)∧((X6I s (X0i out)).2=true→(out,(X6I s (X0i out)).1)=X3p s n)):=by
 obtain⟨⟨h1,h2,h3,h4⟩,_,h9⟩:=hI
 refine⟨fun h=>X9N fun l hl=>?_,fun h=>⟨fun h5=>X9N fun l hl=>?_,fun h5=>?_⟩⟩
 · rw[(h9 l hl).1]at h;cases h
 · have hll:=hl.1
   have e:out=l:=by rw[(h9 l hl).2.2.1,show i.toNat=l.length by omega,List.take_length]
   have hp:0<(cat (vlW l) l.length).length:=Xbk (XbG l hl.2.1 0 (by have:=(X4R.1 hl.2.1).1;omega)) _ (by have:=(X4R.1 hl.2.1).1;omega)
   rw[e]at h5
   simp only[X6I,Bool.and_eq_false_iff,decide_eq_false_iff_not,X6L,beq_eq_false_iff_ne,ne_eq,Decidable.not_not,X7b hl.2.1]at h5
   rcases h5 with h5 | h5
   · rw[h5]at hp;simp at hp
   · exact h5 hl.2.2
 · simp only[X6I,Bool.and_eq_true,decide_eq_true_eq,ne_eq]at h5
   have hr:X9b out=true:=by
    by_cases hr:X9b out=true
    · exact hr
    · exact absurd (by unfold X0i;rw[if_neg hr]) h5.1
   have hR:RV s n out:=⟨by omega,hr,by have:=XjD h5.2;rw[X7b hr]at this;exact this⟩
   rw[XbQ hR]
   simp only[X6I,X7b hr]
def X5L:Con:={A:=Xli,shA:=[.one,.one],R:=(.pair Xc7 (.int .i64)),shR:=[(false,1),(false,1)],fresh:=[(0,3)],pre:=fun _ _=>True,f:=some fun _ a=>((X3e a.1 a.2),((),()))}
def X1A.F(a0:U5q)(a1:Int):Prop:=(True∧∀r1,(Eq r1 ((fIn a1 1 60),((),())))→(X00 (!r1.1) (Eq ((([]:(List Int)),0),((),())) ((X3e a0 a1),((),()))) (eS [(0,.val false [.str a0]),(6,.box 19 0),(20,.val false [.int .i64 a1])] [(0,.val false [.str a0]),(6,.box 19 0),(20,.val false [.int .i64 a1])]∧((riI a0 a1 0 0 0 a0 true ([]:List Int))∧∀(y2:(Int×(Int×(Int×(U5q×(Bool×(List Int))))))),(riI a0 a1 y2.1 y2.2.1 y2.2.2.1 y2.2.2.2.1 y2.2.2.2.2.1 y2.2.2.2.2.2)→(X00 (decide (y2.2.2.1<a1)) (X00 (decide (y2.2.2.1<(2:Int))) (True∧∀r3,(Eq r3 ((X4K (y2.2.2.2.1,y2.2.2.2.2.1)).1,((X4K (y2.2.2.2.1,y2.2.2.2.2.1)).2,())))→(List.length y2.2.2.2.2.2+List.length [(wI (y2.2.1+r3.1))]≤9223372036854775807∧((List.length y2.2.2.2.2.2+List.length [(wI (y2.2.1+r3.1))])*8≤140737488355328∧(eS [(0,.val false [.str a0]),(6,.box 19 0),(20,.val false [.int .i64 a1])] [(0,.val false [.str a0]),(6,.box 19 0),(20,.val false [.int .i64 a1])]∧(riI a0 a1 r3.1 (wI (y2.2.1+r3.1)) (wI (y2.2.2.1+(1:Int))) r3.2.1.1 r3.2.1.2 (y2.2.2.2.2.2++[(wI (y2.2.1+r3.1))]))∧(riM a0 a1 r3.1 (wI (y2.2.1+r3.1)) (wI (y2.2.2.1+(1:Int))) r3.2.1.1 r3.2.1.2 (y2.2.2.2.2.2++[(wI (y2.2.1+r3.1))]))<(riM a0 a1 y2.1 y2.2.1 y2.2.2.1 y2.2.2.2.1 y2.2.2.2.2.1 y2.2.2.2.2.2))))) (True∧∀r4,(Eq r4 ((Xdc (y2.2.2.2.1,y2.2.2.2.2.1)).1,((Xdc (y2.2.2.2.1,y2.2.2.2.2.1)).2,())))→(List.length y2.2.2.2.2.2+List.length [(wI (y2.2.1+(wI (y2.1+r4.1))))]≤9223372036854775807∧((List.length y2.2.2.2.2.2+List.length [(wI (y2.2.1+(wI (y2.1+r4.1))))])*8≤140737488355328∧(eS [(0,.val false [.str a0]),(6,.box 19 0),(20,.val false [.int .i64 a1])] [(0,.val false [.str a0]),(6,.box 19 0),(20,.val false [.int .i64 a1])]∧(riI a0 a1 (wI (y2.1+r4.1)) (wI (y2.2.1+(wI (y2.1+r4.1)))) (wI (y2.2.2.1+(1:Int))) r4.2.1.1 r4.2.1.2 (y2.2.2.2.2.2++[(wI (y2.2.1+(wI (y2.1+r4.1))))]))∧(riM a0 a1 (wI (y2.1+r4.1)) (wI (y2.2.1+(wI (y2.1+r4.1)))) (wI (y2.2.2.1+(1:Int))) r4.2.1.1 r4.2.1.2 (y2.2.2.2.2.2++[(wI (y2.2.1+(wI (y2.1+r4.1))))]))<(riM a0 a1 y2.1 y2.2.1 y2.2.2.1 y2.2.2.2.1 y2.2.2.2.2.1 y2.2.2.2.2.2)))))) ((Xe4 y2.2.2.2.2.2)∧∀r5,(Eq r5 ((X0m y2.2.2.2.2.2),((),())))→(True∧∀r6,(Eq r6 ((X6I a0 r5.1),((),())))→(X00 (!y2.2.2.2.2.1) (Eq ((([]:(List Int)),0),((),())) ((X3e a0 a1),((),()))) (X00 (!r6.1.2) (Eq ((([]:(List Int)),0),((),())) ((X3e a0 a1),((),()))) (Eq ((y2.2.2.2.2.2,r6.1.1),((),())) ((X3e a0 a1),((),()))))))))))))
def X1A.L(a0:U5q)(a1:Int):Nat→Option X0d:=fun p=>Go.Proofs.YtcfaphojdacmbaaGreatR.Bv.look p [(1018,{kp:={hold:=[0,6,20],slots:=[7,8,9,21],boxes:=[19],rows:=[{bx:=false,s:=7,i:=0,k:=1000899,e:=3,hot:=true}]},T:=(.pair (.int .i64) (.pair (.int .i64) (.pair (.int .i64) (.pair .str (.pair .bool Xc7))))),I:=fun st y=>riI a0 a1 y.1 y.2.1 y.2.2.1 y.2.2.2.1 y.2.2.2.2.1 y.2.2.2.2.2,μ:=fun st y=>riM a0 a1 y.1 y.2.1 y.2.2.1 y.2.2.2.1 y.2.2.2.2.1 y.2.2.2.2.2})]
theorem X1A.pure(a0:U5q)(a1:Int)(h:True)(hw:Wf X5L.A (a0,a1)):X1A.F a0 a1:=by
 delta X1A.F wI eS
 simp only[Bs,B0,B1,Prod.mk.injEq,X01]
 refine⟨fun h1=>X9F fun l hl=>(by rw[RT.len hl]at h1;cases h1),fun h1=>?_⟩
 rw[X0C]at h1
 refine⟨⟨⟨by omega,by omega,by omega,rfl⟩,⟨by omega,by omega,by omega,by omega⟩,fun l hl=>⟨rfl,by simp[cat],by simp,rfl,fun h=>by omega⟩⟩,fun y hI=>?_⟩
 obtain⟨step,last,i,rest,ok,out⟩:=y
 simp only at hI ⊢
 have g1:=hI.1
 have g2:=hI.2.1
 have e1:IntKind.wrap .i64 (i+1)=i+1:=w64 (by omega) (by omega)
 refine⟨fun hi=>⟨fun h2=>?_,fun h2=>?_⟩,fun hi=>⟨by unfold Xe4;omega,XrJ hI hi⟩⟩
 · have hn:=XjU (rest,ok)
   rw[e1,w64 (x:=last+(X4K (rest,ok)).1) (by omega) (by omega)]
   exact⟨by omega,by omega,Xn5 hI hi (by omega) (Xre (by omega) hi h2),by unfold riM;omega⟩
 · have hn:=XlC (rest,ok)
   rw[e1,w64 (x:=step+(Xdc (rest,ok)).1) (by omega) (by omega),w64 (x:=last+(step+(Xdc (rest,ok)).1)) (by omega) (by omega)]
   exact⟨by omega,by omega,Xn5 hI hi (by omega) (XqO hi h2),by unfold riM;omega⟩
theorem X1A.eq:EqS X5L Tryz.f210 [138,3] [X2F.e,X1H.e,X1k.e,X3m.e,X3M.e] [] (fun i x=>X1A.L x.1 x.2) (fun i x=>X1A.F x.1 x.2):=by intro i x;kernel_rfl
theorem X1A.ok:X0l Tryz.prog 210 X5L:=X2b X1A.eq Tryz.func210 rfl (by kernel_rfl) fun i x h hi hw=>X1A.pure x.1 x.2 h hw
def X1A.e:GE:=⟨210,X5L,⟨_,Tryz.func210,rfl,rfl⟩,X1A.ok⟩
def X5c:Con:={A:=Xli,shA:=[.one,.one],R:=(.pair Xc7 (.int .i64)),shR:=[(false,1),(false,1)],fresh:=[(0,3)],pre:=fun _ _=>True,f:=some fun _ a=>((X3p a.1 a.2),((),()))}
def X1c.F(a0:U5q)(a1:Int):Prop:=(True∧∀r1,(Eq r1 ((fIn a1 1 60),((),())))→(X00 (!r1.1) (Eq ((([]:(List Int)),0),((),())) ((X3p a0 a1),((),()))) (eS [(0,.val false [.str a0]),(6,.box 17 0),(18,.val false [.int .i64 a1])] [(0,.val false [.str a0]),(6,.box 17 0),(18,.val false [.int .i64 a1])]∧((viI a0 a1 0 0 a0 true ([]:List Int))∧∀(y2:(Int×(Int×(U5q×(Bool×(List Int)))))),(viI a0 a1 y2.1 y2.2.1 y2.2.2.1 y2.2.2.2.1 y2.2.2.2.2)→(X00 (decide (y2.2.1<a1)) (True∧∀r3,(Eq r3 ((Xdc (y2.2.2.1,y2.2.2.2.1)).1,((Xdc (y2.2.2.1,y2.2.2.2.1)).2,())))→(List.length y2.2.2.2.2+List.length [(wI (y2.1+r3.1))]≤9223372036854775807∧((List.length y2.2.2.2.2+List.length [(wI (y2.1+r3.1))])*8≤140737488355328∧(eS [(0,.val false [.str a0]),(6,.box 17 0),(18,.val false [.int .i64 a1])] [(0,.val false [.str a0]),(6,.box 17 0),(18,.val false [.int .i64 a1])]∧(viI a0 a1 (wI (y2.1+r3.1)) (wI (y2.2.1+(1:Int))) r3.2.1.1 r3.2.1.2 (y2.2.2.2.2++[(wI (y2.1+r3.1))]))∧(viM a0 a1 (wI (y2.1+r3.1)) (wI (y2.2.1+(1:Int))) r3.2.1.1 r3.2.1.2 (y2.2.2.2.2++[(wI (y2.1+r3.1))]))<(viM a0 a1 y2.1 y2.2.1 y2.2.2.1 y2.2.2.2.1 y2.2.2.2.2))))) ((Xe4 y2.2.2.2.2)∧∀r4,(Eq r4 ((X0i y2.2.2.2.2),((),())))→(True∧∀r5,(Eq r5 ((X6I a0 r4.1),((),())))→(X00 (!y2.2.2.2.1) (Eq ((([]:(List Int)),0),((),())) ((X3p a0 a1),((),()))) (X00 (!r5.1.2) (Eq ((([]:(List Int)),0),((),())) ((X3p a0 a1),((),()))) (Eq ((y2.2.2.2.2,r5.1.1),((),())) ((X3p a0 a1),((),()))))))))))))
def X1c.L(a0:U5q)(a1:Int):Nat→Option X0d:=fun p=>Go.Proofs.YtcfaphojdacmbaaGreatR.Bv.look p [(506,{kp:={hold:=[0,6,18],slots:=[7,8,19],boxes:=[17],rows:=[{bx:=false,s:=7,i:=0,k:=1000899,e:=3,hot:=true}]},T:=(.pair (.int .i64) (.pair (.int .i64) (.pair .str (.pair .bool Xc7)))),I:=fun st y=>viI a0 a1 y.1 y.2.1 y.2.2.1 y.2.2.2.1 y.2.2.2.2,μ:=fun st y=>viM a0 a1 y.1 y.2.1 y.2.2.1 y.2.2.2.1 y.2.2.2.2})]
theorem X1c.pure(a0:U5q)(a1:Int)(h:True)(hw:Wf X5c.A (a0,a1)):X1c.F a0 a1:=by
 delta X1c.F wI eS
 simp only[Bs,B0,B1,Prod.mk.injEq,X01]
 refine⟨fun h1=>X9N fun l hl=>(by rw[RV.len hl]at h1;cases h1),fun h1=>?_⟩
 rw[X0C]at h1
 refine⟨⟨⟨by omega,by omega,by omega,rfl⟩,⟨by omega,by omega⟩,fun l hl=>⟨rfl,by simp[cat],by simp,rfl⟩⟩,fun y hI=>?_⟩
 obtain⟨last,i,rest,ok,out⟩:=y
 simp only at hI ⊢
 have g1:=hI.1
 have g2:=hI.2.1
 have e1:IntKind.wrap .i64 (i+1)=i+1:=w64 (by omega) (by omega)
 refine⟨fun hi=>?_,fun hi=>⟨by unfold Xe4;omega,Xr3 hI hi⟩⟩
 have hn:=XlC (rest,ok)
 rw[e1,w64 (x:=last+(Xdc (rest,ok)).1) (by omega) (by omega)]
 exact⟨by omega,by omega,Xqm hI hi,by unfold viM;omega⟩
theorem X1c.eq:EqS X5c Tryz.f211 [138,3] [X1H.e,X0P.e,X3m.e,X3M.e] [] (fun i x=>X1c.L x.1 x.2) (fun i x=>X1c.F x.1 x.2):=by intro i x;kernel_rfl
theorem X1c.ok:X0l Tryz.prog 211 X5c:=X2b X1c.eq Tryz.func211 rfl (by kernel_rfl) fun i x h hi hw=>X1c.pure x.1 x.2 h hw
def X1c.e:GE:=⟨211,X5c,⟨_,Tryz.func211,rfl,rfl⟩,X1c.ok⟩
end Go.Proofs.YtcfaphojdacmbaaGreatR.B
