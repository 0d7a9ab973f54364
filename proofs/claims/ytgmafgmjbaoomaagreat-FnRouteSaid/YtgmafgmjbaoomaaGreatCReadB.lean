/- Times and values:read. -/
import Derived.Test.YtgmafgmjbaoomaaGreatCBits
import Derived.Test.YtgmafgmjbaoomaaGreatCRead
import Derived.Test.YtgmafgmjbaoomaaGreatCVr
set_option maxRecDepth 100000
set_option linter.unusedVariables false
set_option linter.unusedSimpArgs false
namespace Go.Proofs.YtgmafgmjbaoomaaGreat.B
open Go Go.Proofs.YtgmafgmjbaoomaaGreat.Bv
abbrev Rd:=List UInt8×Bool
def X4z(i:Rd):Int×Rd:=if i.2=true∧(X04 i.1).2>0 then((X04 i.1).1,(i.1.drop (X04 i.1).2.toNat,true)) else(0,(i.1,false))
def X4G:Con:={io:=true,I:=(.pair .str .bool),A:=.unit,shA:=[],R:=(.int .i64),shR:=[(false,1)],pre:=fun i _=>True,f:=some fun i a=>((X4z i).1,((X4z i).2,()))}
def X2e.F(i0:(U4q×Bool)):Prop:=(True∧∀r1,(Eq r1 ((X04 i0.1),((),())))→(X00 i0.2 (X00 (!(decide (r1.1.2>(0:Int)))) (Eq (0,((i0.1,(decide (r1.1.2>(0:Int)))),())) ((X4z i0).1,((X4z i0).2,()))) (0≤r1.1.2∧(r1.1.2≤(ln i0.1)∧(Eq (r1.1.1,(((List.drop (tN r1.1.2) i0.1),(decide (r1.1.2>(0:Int)))),())) ((X4z i0).1,((X4z i0).2,())))))) (Eq (0,((i0.1,false),())) ((X4z i0).1,((X4z i0).2,())))))
theorem X2e.pure(i0:(U4q×Bool))(h:True)(hi:Wf X4G.I i0)(hw:Wf X4G.A ()):X2e.F i0:=by
 delta X2e.F ln tN
 simp only[forall_eq,true_and,and_true,X03,Prod.mk.injEq,decide_eq_true_eq,decide_eq_false_iff_not,Bool.not_eq_true',Bool.not_eq_false']
 have hb:=X1V i0.1
 refine⟨fun h1=>⟨fun h2=>?_,fun h2=>⟨by omega,by omega,?_⟩⟩,fun h1=>?_⟩
 · have:¬(i0.2=true∧(X04 i0.1).2>0):=fun h=>h2 h.2
   simp only[X4z,if_neg this,decide_eq_false h2,and_self]
 · have h3:(X04 i0.1).2>0:=by
    by_cases h4:(X04 i0.1).2>0
    · exact h4
    · simp[h4]at h2
   simp only[X4z,if_pos (And.intro h1 h3),decide_eq_true h3,and_self]
 · have:¬(i0.2=true∧(X04 i0.1).2>0):=fun h=>by rw[h1]at h;cases h.1
   simp only[X4z,if_neg this,and_self]
theorem X2e.eq:EqS X4G Tryz.f30 [3] [X1w.e] [] noL (fun i x=>X2e.F i):=by intro i x;kernel_rfl
theorem X2e.ok:X0o Tryz.prog 30 X4G:=X2u X2e.eq Tryz.func30 rfl (by kernel_rfl) fun i x h hi hw=>X2e.pure i h (hi rfl) hw
def X2e.e:GE:=⟨30,X4G,⟨_,Tryz.func30,rfl,rfl⟩,X2e.ok⟩
def Xgz(s:List UInt8):Nat→Int→List Int→List Int×Int
 | 0,p,out=>(out,p)
 | n+1,p,out=>if (X04 (s.drop p.toNat)).2=0 then(out,-1) else Xgz s n (p+(X04 (s.drop p.toNat)).2) (out++[(X04 (s.drop p.toNat)).1])
def X0D(s:List UInt8)(n:Int):List Int×Int:=Xgz s n.toNat 0 []
def p7(s:List UInt8)(n:Int):Prop:=s.length≤9223372036854775807∧0≤n∧n≤1000
def v7I(s:List UInt8)(n p i:Int)(out:List Int):Prop:=0≤i∧i≤n∧0≤p∧p≤s.length∧(out.length:Int)=i∧Xgz s (n - i).toNat p out=X0D s n
def v7M(s:List UInt8)(n p i:Int)(out:List Int):Nat:=(n - i).toNat
def X5J:Con:={A:=Xir,shA:=[.one,.one],R:=(.pair X8Z (.int .i64)),shR:=[(false,1),(false,1)],fresh:=[(0,3)],pre:=fun _ a=>(p7 a.1 a.2),f:=some fun _ a=>((X0D a.1 a.2),((),()))}
def X24.F(a0:U4q)(a1:Int):Prop:=(eS [(0,.val false [.str a0]),(1,.val false [.int .i64 a1])] [(0,.val false [.str a0]),(1,.val false [.int .i64 a1])]∧((v7I a0 a1 0 0 ([]:List Int))∧∀(y1:(Int×(Int×(List Int)))),(v7I a0 a1 y1.1 y1.2.1 y1.2.2)→(X00 (decide (y1.2.1<a1)) (0≤y1.1∧(y1.1≤(ln a0)∧(True∧∀r2,(Eq r2 ((X04 (List.drop (tN y1.1) a0)),((),())))→(X00 (r2.1.2==(0:Int)) (Eq ((y1.2.2,(-1)),((),())) ((X0D a0 a1),((),()))) (List.length y1.2.2+List.length [r2.1.1]≤9223372036854775807∧((List.length y1.2.2+List.length [r2.1.1])*8≤140737488355328∧(eS [(0,.val false [.str a0]),(1,.val false [.int .i64 a1])] [(0,.val false [.str a0]),(1,.val false [.int .i64 a1])]∧(v7I a0 a1 (wI (y1.1+r2.1.2)) (wI (y1.2.1+(1:Int))) (y1.2.2++[r2.1.1]))∧(v7M a0 a1 (wI (y1.1+r2.1.2)) (wI (y1.2.1+(1:Int))) (y1.2.2++[r2.1.1]))<(v7M a0 a1 y1.1 y1.2.1 y1.2.2)))))))) (Eq ((y1.2.2,y1.1),((),())) ((X0D a0 a1),((),()))))))
def X24.L(a0:U4q)(a1:Int):Nat→Option X0a:=fun p=>Go.Proofs.YtgmafgmjbaoomaaGreat.Bv.look p [(122,{kp:={hold:=[0,1],slots:=[6,7,8],boxes:=[],rows:=[{bx:=false,s:=6,i:=0,k:=1000771,e:=3,hot:=true}]},T:=(.pair (.int .i64) (.pair (.int .i64) X8Z)),I:=fun st y=>v7I a0 a1 y.1 y.2.1 y.2.2,μ:=fun st y=>v7M a0 a1 y.1 y.2.1 y.2.2})]
theorem X24.pure(a0:U4q)(a1:Int)(h:(p7 a0 a1))(hw:Wf X5J.A (a0,a1)):X24.F a0 a1:=by
 delta X24.F ln tN wI eS
 obtain⟨q1,q2,q3⟩:=h
 simp only[forall_eq,true_and,and_true,X03,Prod.mk.injEq,decide_eq_true_eq,decide_eq_false_iff_not,Bool.not_eq_true',Bool.not_eq_false']
 refine⟨⟨by omega,by omega,by omega,by omega,rfl,by simp[X0D]⟩,?_⟩
 rintro⟨p,i,out⟩ ⟨h1,h2,h3,h4,h5,h6⟩
 simp only at h1 h2 h3 h4 h5 h6 ⊢
 have hb:=X1V (a0.drop p.toNat)
 rw[List.length_drop]at hb
 refine⟨fun hi=>⟨h3,h4,fun hz=>?_,fun hz=>?_⟩,fun hi=>?_⟩
 · have e:(a1 - i).toNat=(a1 - i - 1).toNat+1:=by omega
   rw[e]at h6
   have hz':(X04 (a0.drop p.toNat)).2=0:=by simpa using hz
   rw[Xgz,if_pos hz']at h6
   exact h6
 · have hz':¬(X04 (a0.drop p.toNat)).2=0:=by simpa using hz
   have e:(a1 - i).toNat=(a1 - (i+1)).toNat+1:=by omega
   rw[e,Xgz,if_neg hz']at h6
   have e1:IntKind.wrap .i64 (i+1)=i+1:=Go.IntWalk.i64_in _ (by omega)
   have e2:IntKind.wrap .i64 (p+(X04 (a0.drop p.toNat)).2)=p+(X04 (a0.drop p.toNat)).2:=Go.IntWalk.i64_in _ (by omega)
   rw[e1,e2]
   exact⟨by simp;omega,by simp;omega,⟨by omega,by omega,by omega,by omega,by simp;omega,h6⟩,by unfold v7M;omega⟩
 · have e:(a1 - i).toNat=0:=by omega
   rw[e,Xgz]at h6
   exact h6
theorem X24.eq:EqS X5J Tryz.f161 [139,3] [X1x.e] [] (fun i x=>X24.L x.1 x.2) (fun i x=>X24.F x.1 x.2):=by intro i x;kernel_rfl
theorem X24.ok:X0o Tryz.prog 161 X5J:=X2u X24.eq Tryz.func161 rfl (by kernel_rfl) fun i x h hi hw=>X24.pure x.1 x.2 h hw
def X24.e:GE:=⟨161,X5J,⟨_,Tryz.func161,rfl,rfl⟩,X24.ok⟩
def cat(W:Nat→Int):Nat→List UInt8
 | 0=>[]
 | i+1=>cat W i++X1H (W i)
theorem Xf8(W:Nat→Int){i:Nat}:∀{n:Nat},i<n→∃r,cat W n=cat W i++(X1H (W i)++r)
 | 0,h=>by omega
 | n+1,h=>by
   by_cases e:i=n
   · subst e;exact⟨[],by simp[cat]⟩
   · obtain⟨r,hr⟩:=Xf8 W (i:=i) (n:=n) (by omega)
     exact⟨r++X1H (W n),by simp only[cat];rw[hr];simp[List.append_assoc]⟩
theorem X9e{W:Nat→Int}(h:X3K (W 0)):∀n,0<n→0<(cat W n).length
 | 1,_=>by simp only[cat,List.nil_append];exact X5r h
 | n+2,_=>by have:=X9e h (n+1) (by omega);simp only[cat,List.length_append]at this ⊢;omega
theorem XgX{W:Nat→Int}{n i:Nat}{s:List UInt8}(hw:∀j,j<n→X3K (W j))(hs:s.take (cat W n).length=cat W n)(hi:i<n):
 X04 (s.drop (cat W i).length)=(W i,((X1H (W i)).length:Int))∧(s.drop (cat W i).length).drop (X1H (W i)).length=s.drop (cat W (i+1)).length:=by
 obtain⟨r,hr⟩:=Xf8 W hi
 have e:s=cat W i++(X1H (W i)++(r++s.drop (cat W n).length)):=by
  have:=List.take_append_drop (cat W n).length s
  rw[hs]at this
  rw[hr]at this
  rw[hr]
  conv=>lhs;rw[←this]
  simp[List.append_assoc]
 refine⟨?_,?_⟩
 · have e2:s.drop (cat W i).length=X1H (W i)++(r++s.drop (cat W n).length):=by
    conv=>lhs;rw[e]
    rw[List.drop_left]
   rw[e2,XeF (hw i hi)]
 · rw[List.drop_drop]
   congr 1
   simp[cat]
def vals(W:Nat→Int)(n:Nat):List Int:=(List.range n).map W
theorem XiO(W:Nat→Int)(n:Nat):vals W (n+1)=vals W n++[W n]:=by simp[vals,List.range_succ]
theorem Xgo(W:Nat→Int)(n:Nat):(vals W n).length=n:=by simp[vals]
theorem Xlm(W:Nat→Int){n i:Nat}(h:i<n):(vals W n).getD i 0=W i:=by
 rw[X1A (by rw[Xgo];exact h)];simp[vals]
theorem Xmo{W:Nat→Int}{n:Nat}{s:List UInt8}(hw:∀j,j<n→X3K (W j))(hs:s.take (cat W n).length=cat W n):∀(k i:Nat),i+k=n→Xgz s k ((cat W i).length:Int) (vals W i)=(vals W n,((cat W n).length:Int))
 | 0,i,h=>by
   have:i=n:=by omega
   subst this;rfl
 | k+1,i,h=>by
   obtain⟨h1,h2⟩:=XgX hw hs (i:=i) (by omega)
   have hp:=X5r (hw i (by omega))
   rw[Xgz,Int.toNat_natCast,h1]
   simp only
   rw[if_neg (by omega),←XiO,show((cat W i).length:Int)+((X1H (W i)).length:Int)=((cat W (i+1)).length:Int) by simp[cat]]
   exact Xmo hw hs k (i+1) (by omega)
theorem Xk2{W:Nat→Int}{n:Nat}{s:List UInt8}(hw:∀j,j<n→X3K (W j))(hs:s.take (cat W n).length=cat W n):X0D s n=(vals W n,((cat W n).length:Int)):=by
 unfold X0D
 rw[Int.toNat_natCast]
 exact Xmo hw hs n 0 (by omega)
theorem XiV{s:List UInt8}:∀(k:Nat) (p:Int) (out:List Int),0≤p→p≤s.length→(Xgz s k p out).2<0∨∃vs:List Int,(Xgz s k p out).1=out++vs∧vs.length=k∧(∀v∈vs,X3K v)∧(Xgz s k p out).2=p+((enc vs).length:Int)∧(s.drop p.toNat).take (enc vs).length=enc vs
 | 0,p,out,h,h'=>.inr ⟨[],by simp[Xgz],rfl,by simp,by simp[Xgz,enc],by simp[enc]⟩
 | k+1,p,out,h,h'=>by
   rw[Xgz]
   split
   · left;exact(by decide:(-1:Int)<0)
   · rename_i h0
     obtain⟨q1,q2⟩:=XjX h0
     have hb:=X1V (s.drop p.toNat)
     rw[List.length_drop]at hb
     rcases XiV (s:=s) k (p+(X04 (s.drop p.toNat)).2) (out++[(X04 (s.drop p.toNat)).1]) (by omega) (by omega) with h1 | ⟨vs,k1,k2,k3,k4,k5⟩
     · exact .inl h1
     · right
       have hl:(X1H (X04 (s.drop p.toNat)).1).length=(X04 (s.drop p.toNat)).2.toNat:=by
        have q1':=congrArg List.length q1
        rw[List.length_take,List.length_drop]at q1'
        omega
       refine⟨(X04 (s.drop p.toNat)).1::vs,by rw[k1];simp,by simp[k2],fun v hv=>?_,?_,?_⟩
       · rcases List.mem_cons.1 hv with e | hv
         · rw[e];exact q2
         · exact k3 v hv
       · rw[k4,Xek,List.length_append,hl];omega
       · rw[Xek,List.length_append,List.take_add,hl,q1,List.drop_drop]
         congr 1
         rw[show p.toNat+(X04 (s.drop p.toNat)).2.toNat=(p+(X04 (s.drop p.toNat)).2).toNat by omega]
         exact k5
theorem Xin{s:List UInt8}{n:Nat}(h:¬(X0D s n).2<0):(X0D s n).1.length=n∧(∀v∈(X0D s n).1,X3K v)∧(X0D s n).2=((enc (X0D s n).1).length:Int)∧s.take (enc (X0D s n).1).length=enc (X0D s n).1:=by
 unfold X0D at h ⊢
 rw[Int.toNat_natCast]at h ⊢
 rcases XiV (s:=s) n 0 [] (by omega) (by omega) with h1 | ⟨vs,k1,k2,k3,k4,k5⟩
 · exact absurd h1 h
 · rw[List.nil_append]at k1
   rw[k1]
   refine⟨k2,k3,by rw[k4];omega,?_⟩
   simpa using k5
def X32(z:Int):Int×Bool:=if fIn z 0 281474976710656 then((if z % 2=1 then -(z+1) / 2 else z / 2),true) else(0,false)
theorem XbY{d:Int}(h:fIn d (-140737488355328) 140737488355328=true):X32 (XaB d)=(d,true):=by
 rw[X0u]at h
 unfold XaB
 rw[if_pos (X0u.2 h)]
 unfold X32
 split
 · rw[if_pos (X0u.2 (by omega)),if_pos (by omega)]
   simp only[Prod.mk.injEq,and_true];omega
 · rw[if_pos (X0u.2 (by omega)),if_neg (by omega)]
   simp only[Prod.mk.injEq,and_true];omega
theorem XiX{d:Int}(h:fIn d (-140737488355328) 140737488355328=true):X3K (XaB d):=by
 rw[X0u]at h
 unfold XaB X3K
 rw[if_pos (X0u.2 h)]
 split<;>omega
theorem Xfj(z:Int):-140737488355329≤(X32 z).1∧(X32 z).1≤140737488355328:=by
 unfold X32
 split
 · rename_i h;rw[X0u]at h;simp only;split<;>omega
 · simp
def Xbe(i:Rd):Int×Rd:=((X32 (X4z i).1).1,((X4z i).2.1,(X4z i).2.2&&(X32 (X4z i).1).2))
theorem Xon(i:Rd):0≤(X4z i).1∧(X4z i).1≤562949953421311:=by
 have:=X1V i.1
 unfold X4z;split<;>simp<;>omega
def X54(s t:List UInt8):Bool:=s.take t.length==t
def X4Y(s t:List UInt8):Int×Bool:=((t.length:Int),decide (t≠[])&&X54 s t)
def Xiw(z:Int):Int:=(X32 z).1
theorem Xj1(i:Rd):-140737488355329≤(Xbe i).1∧(Xbe i).1≤140737488355328:=Xfj _
theorem Xn8{a:Int}(h:0≤a):Int.tdiv a 2=a / 2:=Int.tdiv_eq_ediv_of_nonneg h
theorem Xp1{a:Int}(h:0≤a)(h2:a % 2=0):Int.tdiv (0 - a) 2= -a / 2:=by
 rw[Int.zero_sub,Int.neg_tdiv,Xn8 h];omega
theorem Xp7{a:Int}(h:0≤a):Int.tmod a 2=a % 2:=Int.tmod_eq_emod_of_nonneg h
def X6H:Con:={A:=(.int .i64),shA:=[.one],R:=(.pair (.int .i64) .bool),shR:=[(false,1),(false,1)],pre:=fun _ _=>True,f:=some fun _ a=>((X32 a),((),()))}
def X37.F(a0:Int):Prop:=(X00 (decide (a0<(0:Int))) (Eq ((0,false),((),())) ((X32 a0),((),()))) (X00 (decide (a0>(281474976710656:Int))) (Eq ((0,false),((),())) ((X32 a0),((),()))) ((2:Int)≠0∧((2:Int)≠0∧(X00 ((Int.tmod a0 (2:Int))==(1:Int)) (True∧∀r1,(Eq r1 ((XaB (wI ((wI (0 - (wI (Int.tdiv a0 (2:Int))))) - (1:Int)))),((),())))→(Eq (((wI ((wI (0 - (wI (Int.tdiv a0 (2:Int))))) - (1:Int))),(r1.1==a0)),((),())) ((X32 a0),((),())))) (True∧∀r2,(Eq r2 ((XaB (wI (Int.tdiv a0 (2:Int)))),((),())))→(Eq (((wI (Int.tdiv a0 (2:Int))),(r2.1==a0)),((),())) ((X32 a0),((),())))))))))
theorem X37.pure(a0:Int)(h:True)(hw:Wf X6H.A a0):X37.F a0:=by
 delta X37.F wI
 simp only[Bs,B0,B1,Prod.mk.injEq,X03]
 refine⟨fun h1=>?_,fun h1=>⟨fun h2=>?_,fun h2=>?_⟩⟩
 · unfold X32;rw[if_neg (by rw[X0u];omega)]
 · unfold X32;rw[if_neg (by rw[X0u];omega)]
 rw[Xp7 (by omega),Xn8 (by omega),w64 (x:=a0 / 2) (by omega) (by omega),w64 (x:=0 - a0 / 2) (by omega) (by omega),w64 (x:=0 - a0 / 2 - 1) (by omega) (by omega)]
 have hp:fIn a0 0 281474976710656=true:=X0u.2 (by omega)
 refine⟨by omega,by omega,fun h3=>?_,fun h3=>?_⟩
 · unfold X32 XaB
   rw[if_pos hp,if_pos h3,if_pos (X0u.2 (by omega)),if_pos (by omega)]
   simp;omega
 · unfold X32 XaB
   rw[if_pos hp,if_neg h3,if_pos (X0u.2 (by omega)),if_neg (by omega)]
   simp;omega
theorem X37.eq:EqS X6H Tryz.f198 [3,4] [X2b.e] [] noL (fun i x=>X37.F x):=by intro i x;kernel_rfl
theorem X37.ok:X0o Tryz.prog 198 X6H:=X2u X37.eq Tryz.func198 rfl (by kernel_rfl) fun i x h hi hw=>X37.pure x h hw
def X37.e:GE:=⟨198,X6H,⟨_,Tryz.func198,rfl,rfl⟩,X37.ok⟩
def X6w:Con:={A:=(.int .i64),shA:=[.one],R:=(.pair (.int .i64) .bool),shR:=[(false,1),(false,1)],pre:=fun _ _=>True,f:=some fun _ a=>((X32 a),((),()))}
def X38.F(a0:Int):Prop:=(True∧∀r1,(Eq r1 ((fIn a0 0 281474976710656),((),())))→(X00 (!r1.1) (Eq ((0,false),((),())) ((X32 a0),((),()))) ((2:Int)≠0∧(X00 ((Int.tmod a0 (2:Int))==(1:Int)) ((2:Int)≠0∧(Eq (((wI (Int.tdiv (wI (0 - (wI (a0+(1:Int))))) (2:Int))),true),((),())) ((X32 a0),((),())))) ((2:Int)≠0∧(Eq (((wI (Int.tdiv a0 (2:Int))),true),((),())) ((X32 a0),((),()))))))))
theorem X38.pure(a0:Int)(h:True)(hw:Wf X6w.A a0):X38.F a0:=by
 delta X38.F wI
 simp only[Bs,B0,B1,Prod.mk.injEq,X03]
 refine⟨fun h1=>by simp[X32,h1],fun h1=>?_⟩
 have hp:=X0u.1 h1
 rw[Xp7 hp.1,Xn8 hp.1,w64 (x:=a0 / 2) (by omega) (by omega),w64 (x:=a0+1) (by omega) (by omega),w64 (x:=0 - (a0+1)) (by omega) (by omega)]
 refine⟨by omega,fun h3=>⟨by omega,?_⟩,fun h3=>⟨by omega,?_⟩⟩
 · rw[Xp1 (by omega) (by omega),w64 (by omega) (by omega)]
   simp[X32,h1,h3]
 · simp[X32,h1,h3]
theorem X38.eq:EqS X6w Tryz.f204 [3,4] [X0A.e] [] noL (fun i x=>X38.F x):=by intro i x;kernel_rfl
theorem X38.ok:X0o Tryz.prog 204 X6w:=X2u X38.eq Tryz.func204 rfl (by kernel_rfl) fun i x h hi hw=>X38.pure x h hw
def X38.e:GE:=⟨204,X6w,⟨_,Tryz.func204,rfl,rfl⟩,X38.ok⟩
def X4L:Con:={io:=true,I:=(.pair .str .bool),A:=.unit,shA:=[],R:=(.int .i64),shR:=[(false,1)],pre:=fun i _=>True,f:=some fun i a=>((Xbe i).1,((Xbe i).2,()))}
def X2x.F(i0:(U4q×Bool)):Prop:=(True∧∀r1,(Eq r1 ((X4z (i0.1,i0.2)).1,((X4z (i0.1,i0.2)).2,())))→(True∧∀r2,(Eq r2 ((X32 r1.1),((),())))→(X00 r1.2.1.2 (Eq (r2.1.1,((r1.2.1.1,r2.1.2),())) ((Xbe i0).1,((Xbe i0).2,()))) (Eq (r2.1.1,((r1.2.1.1,false),())) ((Xbe i0).1,((Xbe i0).2,()))))))
theorem X2x.pure(i0:(U4q×Bool))(h:True)(hi:Wf X4L.I i0)(hw:Wf X4L.A ()):X2x.F i0:=by
 unfold X2x.F
 simp only[Bs,B0,B1,Prod.mk.injEq,X03]
 exact⟨fun h1=>by simp[Xbe,h1],fun h1=>by simp[Xbe,h1]⟩
theorem X2x.eq:EqS X4L Tryz.f179 [3] [X2e.e,X38.e] [] noL (fun i x=>X2x.F i):=by intro i x;kernel_rfl
theorem X2x.ok:X0o Tryz.prog 179 X4L:=X2u X2x.eq Tryz.func179 rfl (by kernel_rfl) fun i x h hi hw=>X2x.pure i h (hi rfl) hw
def X2x.e:GE:=⟨179,X4L,⟨_,Tryz.func179,rfl,rfl⟩,X2x.ok⟩
def X7H:Con:={A:=(.int .i64),shA:=[.one],R:=(.int .i64),shR:=[(false,1)],pre:=fun _ _=>True,f:=some fun _ a=>((Xiw a),((),()))}
def X3t.F(a0:Int):Prop:=(True∧∀r1,(Eq r1 ((X32 a0),((),())))→(Eq (r1.1.1,((),())) ((Xiw a0),((),()))))
theorem X3t.pure(a0:Int)(h:True)(hw:Wf X7H.A a0):X3t.F a0:=by
 unfold X3t.F
 simp only[Bs,B0,B1,Prod.mk.injEq,X03]
 repeat' (with_reducible (first | (refine And.intro ?_ ?_) | intro _))
 all_goals (try simp (disch:=omega) only[w64,wu8,tn0,tn1,tm1,tm2,List.length_append,List.length_cons,List.length_nil]at*)
 all_goals (try simp (disch:=omega) only[w64,wu8,tn0,tn1,tm1,tm2,List.length_append,List.length_cons,List.length_nil]at*)
 all_goals (try omega)
 all_goals (try grind[Xiw])
theorem X3t.eq:EqS X7H Tryz.f162 [3] [X37.e] [] noL (fun i x=>X3t.F x):=by intro i x;kernel_rfl
theorem X3t.ok:X0o Tryz.prog 162 X7H:=X2u X3t.eq Tryz.func162 rfl (by kernel_rfl) fun i x h hi hw=>X3t.pure x h hw
def X3t.e:GE:=⟨162,X7H,⟨_,Tryz.func162,rfl,rfl⟩,X3t.ok⟩
def X1m:Con:={A:=(.pair .str .str),shA:=[.one,.one],R:=.bool,shR:=[(false,1)],pre:=fun _ _=>True,f:=some fun _ a=>((X54 a.1 a.2),((),()))}
def X0e.F(a0:U4q)(a1:U4q):Prop:=(X00 (decide ((ln a0)≥(ln a1))) (0≤(ln a1)∧((ln a1)≤(ln a0)∧(Eq (((List.take (tN (ln a1)) a0)==a1),((),())) ((X54 a0 a1),((),()))))) (Eq (false,((),())) ((X54 a0 a1),((),()))))
theorem X0e.pure(a0:U4q)(a1:U4q)(h:True)(hw:Wf X1m.A (a0,a1)):X0e.F a0 a1:=by
 delta X0e.F ln tN
 simp only[Bs,B0,B1,Prod.mk.injEq,X03]
 refine⟨fun h1=>⟨by omega,by omega,by rw[show((a1.length:Nat):Int).toNat=a1.length by omega];rfl⟩,fun h1=>?_⟩
 symm;unfold X54;rw[beq_eq_false_iff_ne];intro e
 have:=congrArg List.length e;simp at this;omega
theorem X0e.eq:EqS X1m Tryz.f216 [4] [] [] noL (fun i x=>X0e.F x.1 x.2):=by intro i x;kernel_rfl
theorem X0e.ok:X0o Tryz.prog 216 X1m:=X2u X0e.eq Tryz.func216 rfl (by kernel_rfl) fun i x h hi hw=>X0e.pure x.1 x.2 h hw
def X0e.e:GE:=⟨216,X1m,⟨_,Tryz.func216,rfl,rfl⟩,X0e.ok⟩
def X3k:Con:={A:=(.pair .str .str),shA:=[.one,.one],R:=.bool,shR:=[(false,1)],pre:=fun _ _=>True,f:=some fun _ a=>((X54 a.1 a.2),((),()))}
def X0T.F(a0:U4q)(a1:U4q):Prop:=(True∧∀r1,(Eq r1 ((X54 a0 a1),((),())))→(Eq (r1.1,((),())) ((X54 a0 a1),((),()))))
theorem X0T.pure(a0:U4q)(a1:U4q)(h:True)(hw:Wf X3k.A (a0,a1)):X0T.F a0 a1:=by
 unfold X0T.F
 simp only[Bs,B0,B1,Prod.mk.injEq,X03]
 repeat' (with_reducible (first | (refine And.intro ?_ ?_) | intro _))
 all_goals (try simp (disch:=omega) only[w64,wu8,tn0,tn1,tm1,tm2,List.length_append,List.length_cons,List.length_nil]at*)
 all_goals (try simp (disch:=omega) only[w64,wu8,tn0,tn1,tm1,tm2,List.length_append,List.length_cons,List.length_nil]at*)
 all_goals (try omega)
 all_goals (try grind[])
theorem X0T.eq:EqS X3k Tryz.f205 [4] [X0e.e] [] noL (fun i x=>X0T.F x.1 x.2):=by intro i x;kernel_rfl
theorem X0T.ok:X0o Tryz.prog 205 X3k:=X2u X0T.eq Tryz.func205 rfl (by kernel_rfl) fun i x h hi hw=>X0T.pure x.1 x.2 h hw
def X0T.e:GE:=⟨205,X3k,⟨_,Tryz.func205,rfl,rfl⟩,X0T.ok⟩
def X6y:Con:={A:=(.pair .str .str),shA:=[.one,.one],R:=(.pair (.int .i64) .bool),shR:=[(false,1),(false,1)],pre:=fun _ _=>True,f:=some fun _ a=>((X4Y a.1 a.2),((),()))}
def X2U.F(a0:U4q)(a1:U4q):Prop:=(X00 (!(a1==[])) (True∧∀r1,(Eq r1 ((X54 a0 a1),((),())))→(Eq (((ln a1),r1.1),((),())) ((X4Y a0 a1),((),())))) (Eq (((ln a1),false),((),())) ((X4Y a0 a1),((),()))))
theorem X2U.pure(a0:U4q)(a1:U4q)(h:True)(hw:Wf X6y.A (a0,a1)):X2U.F a0 a1:=by
 delta X2U.F ln
 simp only[Bs,B0,B1,Prod.mk.injEq,X03]
 repeat' (with_reducible (first | (refine And.intro ?_ ?_) | intro _))
 all_goals (try simp (disch:=omega) only[w64,wu8,tn0,tn1,tm1,tm2,List.length_append,List.length_cons,List.length_nil]at*)
 all_goals (try simp (disch:=omega) only[w64,wu8,tn0,tn1,tm1,tm2,List.length_append,List.length_cons,List.length_nil]at*)
 all_goals (try omega)
 all_goals (try grind[X4Y])
theorem X2U.eq:EqS X6y Tryz.f180 [3,4] [X0T.e] [] noL (fun i x=>X2U.F x.1 x.2):=by intro i x;kernel_rfl
theorem X2U.ok:X0o Tryz.prog 180 X6y:=X2u X2U.eq Tryz.func180 rfl (by kernel_rfl) fun i x h hi hw=>X2U.pure x.1 x.2 h hw
def X2U.e:GE:=⟨180,X6y,⟨_,Tryz.func180,rfl,rfl⟩,X2U.ok⟩
theorem X7p{l:List Int}{i:Nat}(hi:i<l.length):l.take (i+1)=l.take i++[l.getD i 0]:=by
 rw[List.take_add_one,List.getD_eq_getElem?_getD,List.getElem?_eq_getElem hi];rfl
theorem X8p{l:List Int}{i j:Nat}(h:j<i):(l.take i).getD j 0=l.getD j 0:=by
 simp[List.getD_eq_getElem?_getD,List.getElem?_take,h]
theorem Xff{l:List Int}{i:Nat}{x:Int}(h:i=l.length):(l++[x]).getD i 0=x:=by subst h;simp[List.getD_eq_getElem?_getD]
theorem XhU{l:List Int}{i:Nat}{x:Int}(h:i<l.length):(l++[x]).getD i 0=l.getD i 0:=by simp[List.getD_eq_getElem?_getD,List.getElem?_append_left h]
section
variable (ok:List Int→Bool) (W:List Int→Nat→Int) (nx:List Int→List Int→Nat→Int)
def RW(s:List UInt8)(n:Int)(l:List Int):Prop:=(l.length:Int)=n∧ok l=true∧s.take (cat (W l) l.length).length=cat (W l) l.length
def Xkp(v:List Int):Nat→List Int
 | 0=>[]
 | i+1=>Xkp v i++[nx (Xkp v i) v i]
instance (s:List UInt8) (n:Int) (l:List Int):Decidable (RW ok W s n l):=by unfold RW;infer_instance
def Xcr(s:List UInt8)(n:Int):List Int×Int:=
 if RW ok W s n (Xkp nx (X0D s n).1 n.toNat) then(Xkp nx (X0D s n).1 n.toNat,((cat (W (Xkp nx (X0D s n).1 n.toNat)) (Xkp nx (X0D s n).1 n.toNat).length).length:Int)) else([],0)
variable {ok W nx} (hW:∀l,ok l=true→∀i,i<l.length→X3K (W l i))
include hW
theorem RW.vars{s:List UInt8}{n:Int}{l:List Int}(h:RW ok W s n l):X0D s n=(vals (W l) l.length,((cat (W l) l.length).length:Int)):=by
 have e:=Xk2 (W:=W l) (n:=l.length) (s:=s) (hW l h.2.1) h.2.2
 rw[h.1]at e
 exact e
theorem RW.at{s:List UInt8}{n:Int}{l:List Int}(h:RW ok W s n l){i:Nat}(hi:i<l.length):(X0D s n).1.getD i 0=W l i:=by
 rw[RW.vars hW h];exact Xlm _ hi
variable (hn:∀l,ok l=true→∀(v:List Int) i,i<l.length→v.getD i 0=W l i→nx (l.take i) v i=l.getD i 0)
include hn
theorem RW.dec{s:List UInt8}{n:Int}{l:List Int}(h:RW ok W s n l):∀i,i≤l.length→Xkp nx (X0D s n).1 i=l.take i
 | 0,_=>by simp[Xkp]
 | i+1,hi=>by
   rw[Xkp,RW.dec h i (by omega),X7p (by omega),hn l h.2.1 _ i (by omega) (RW.at hW h (by omega))]
theorem RW.yes{s:List UInt8}{n:Int}{l:List Int}(h:RW ok W s n l):Xcr ok W nx s n=(l,((cat (W l) l.length).length:Int)):=by
 have e:Xkp nx (X0D s n).1 n.toNat=l:=by rw[RW.dec hW hn h _ (by have:=h.1;omega),show n.toNat=l.length by have:=h.1;omega,List.take_length]
 unfold Xcr
 rw[e,if_pos h]
theorem RW.get{s:List UInt8}{n:Int}(h0:ok []=false):Xcr ok W nx s n=([],0)∧(∀l,¬RW ok W s n l)∨∃l,RW ok W s n l∧Xcr ok W nx s n=(l,((cat (W l) l.length).length:Int)):=by
 by_cases h:∃l,RW ok W s n l
 · obtain⟨l,h⟩:=h
   exact .inr ⟨l,h,RW.yes hW hn h⟩
 · refine .inl ⟨?_,fun l hl=>h ⟨l,hl⟩⟩
   unfold Xcr
   rw[if_neg fun hl=>h ⟨_,hl⟩]
end
def tmW(l:List Int)(i:Nat):Int:=if i=0 then l.getD 0 0 else if i=1 then l.getD 1 0 - l.getD 0 0 else XaB (l.getD i 0 - l.getD (i - 1) 0 - (l.getD (i - 1) 0 - l.getD (i - 2) 0))
def vlW(l:List Int)(i:Nat):Int:=XaB (l.getD i 0 - (if i=0 then 0 else l.getD (i - 1) 0))
theorem XmP(l:List Int):∀i,tmS l i=cat (tmW l) i
 | 0=>rfl
 | i+1=>by
   rw[Xh6,XmP l i,cat]
   congr 1
   unfold X9r tmW
   split
   · rfl
   · split<;>rfl
theorem XmI(l:List Int):∀i,vlS l i=cat (vlW l) i
 | 0=>rfl
 | i+1=>by rw[XgS,XmI l i,cat];rfl
theorem Xki{l:List Int}(h:X6Y l=true){i:Nat}(hi:i<l.length)(h2:2≤i):fIn (l.getD i 0 - l.getD (i - 1) 0 - (l.getD (i - 1) 0 - l.getD (i - 2) 0)) (-140737488355328) 140737488355328=true:=by
 have h1:=X9v h hi
 have h2:=X9v h (i:=i - 1) (by omega)
 have h3:=X9v h (i:=i - 2) (by omega)
 rw[X0u];omega
theorem X96(l:List Int)(h:X6Y l=true)(i:Nat)(hi:i<l.length):X3K (tmW l i):=by
 have h0:=X9v h (i:=0) (by omega)
 unfold tmW
 split
 · unfold X3K;omega
 · split
   · have h1:=X5Z.1 ((X3s.1 h).2 1 (by omega))
     simp only[show(1:Nat) - 1=0 from rfl]at h1
     unfold X3K;omega
   · exact XiX (Xki h hi (by omega))
theorem XjA{l:List Int}(h:X7l l=true){i:Nat}(hi:i<l.length):fIn (l.getD i 0 - (if i=0 then 0 else l.getD (i - 1) 0)) (-140737488355328) 140737488355328=true:=by
 have h1:=XfT h hi
 rw[X0u]
 split
 · omega
 · have h2:=XfT h (i:=i - 1) (by omega)
   omega
theorem X9D(l:List Int)(h:X7l l=true)(i:Nat)(hi:i<l.length):X3K (vlW l i):=XiX (XjA h hi)
def nxT(o v:List Int)(i:Nat):Int:=if i=0 then v.getD 0 0 else if i=1 then o.getD 0 0+v.getD 1 0 else o.getD (i - 1) 0+(o.getD (i - 1) 0 - o.getD (i - 2) 0+(X32 (v.getD i 0)).1)
def nxV(o v:List Int)(i:Nat):Int:=(if i=0 then 0 else o.getD (i - 1) 0)+(X32 (v.getD i 0)).1
theorem XiG(l:List Int)(h:X6Y l=true)(v:List Int)(i:Nat)(hi:i<l.length)(hv:v.getD i 0=tmW l i):nxT (l.take i) v i=l.getD i 0:=by
 unfold nxT
 unfold tmW at hv
 by_cases h0:i=0
 · subst h0;simpa using hv
 rw[if_neg h0]at hv ⊢
 by_cases h1:i=1
 · subst h1
   rw[if_pos rfl]at hv
   rw[if_pos rfl,X8p (by omega),hv];omega
 rw[if_neg h1]at hv ⊢
 rw[hv,XbY (Xki h hi (by omega)),X8p (by omega),X8p (by omega)]
 simp only;omega
theorem Xjr(l:List Int)(h:X7l l=true)(v:List Int)(i:Nat)(hi:i<l.length)(hv:v.getD i 0=vlW l i):nxV (l.take i) v i=l.getD i 0:=by
 unfold nxV
 rw[hv,vlW,XbY (XjA h hi)]
 split
 · simp
 · rw[X8p (by omega)];simp only;omega
def X2v(s:List UInt8)(n:Int):List Int×Int:=Xcr X6Y tmW nxT s n
def X2z(s:List UInt8)(n:Int):List Int×Int:=Xcr X7l vlW nxV s n
abbrev RT:=RW X6Y tmW
abbrev RV:=RW X7l vlW
theorem X5p{l:List Int}(h:X6Y l=true):X0j l=cat (tmW l) l.length:=by unfold X0j;rw[if_pos h,XmP]
theorem X5f{l:List Int}(h:X7l l=true):X0f l=cat (vlW l) l.length:=by unfold X0f;rw[if_pos h,XmI]
theorem XbF(s:List UInt8)(n:Int):X2v s n=([],0)∧(∀l,¬RT s n l)∨∃l,RT s n l∧X2v s n=(l,((cat (tmW l) l.length).length:Int)):=RW.get X96 XiG rfl
theorem XbV(s:List UInt8)(n:Int):X2z s n=([],0)∧(∀l,¬RV s n l)∨∃l,RV s n l∧X2z s n=(l,((cat (vlW l) l.length).length:Int)):=RW.get X9D Xjr rfl
theorem X9y{s:List UInt8}{n:Int}{l:List Int}(h:RT s n l):X2v s n=(l,((cat (tmW l) l.length).length:Int)):=RW.yes X96 XiG h
theorem X9R{s:List UInt8}{n:Int}{l:List Int}(h:RV s n l):X2z s n=(l,((cat (vlW l) l.length).length:Int)):=RW.yes X9D Xjr h
def pRd(s:List UInt8)(n:Int):Prop:=s.length≤9223372036854775807
theorem Xmg{s:List UInt8}{n:Int}(hn:1≤n)(h:¬(X0D s n).2<0):((X0D s n).1.length:Int)=n∧(∀j:Nat,0≤(X0D s n).1.getD j 0∧(X0D s n).1.getD j 0≤562949953421311)∧0<(X0D s n).2∧(X0D s n).2≤s.length:=by
 obtain⟨k,rfl⟩:∃k:Nat,n=k:=⟨n.toNat,by omega⟩
 obtain⟨h1,h2,h3,h4⟩:=Xin h
 have h5:=congrArg List.length h4
 rw[List.length_take]at h5
 refine⟨by omega,fun j=>?_,?_,by omega⟩
 · by_cases hj:j<(X0D s k).1.length
   · have:=h2 _ (X2C (l:=(X0D s k).1) (d:=0) hj)
     exact this
   · rw[List.getD_eq_getElem?_getD,List.getElem?_eq_none (by omega)];simp
 · rw[h3]
   cases e:(X0D s k).1 with
   | nil=>rw[e]at h1;simp at h1;omega
   | cons v r=>
     have:=X5r (h2 v (by rw[e];simp))
     rw[Xek,List.length_append];omega
def rsI(s:List UInt8)(n i:Int)(out:List Int):Prop:=1≤i∧i≤n∧(out.length:Int)=i∧((0≤out.getD (i.toNat - 1) 0∧out.getD (i.toNat - 1) 0≤562949953421311)∧(2≤i→0≤out.getD (i.toNat - 2) 0∧out.getD (i.toNat - 2) 0≤562949953421311))∧∀l,RT s n l→out=l.take i.toNat
def rsM(s:List UInt8)(n i:Int)(out:List Int):Nat:=(n - i).toNat
def vsI(s:List UInt8)(n last i:Int)(out:List Int):Prop:=0≤i∧i≤n∧(out.length:Int)=i∧(-1099511627776≤last∧last≤1099511627776)∧last=(if i=0 then 0 else out.getD (i.toNat - 1) 0)∧∀l,RV s n l→out=l.take i.toNat
def vsM(s:List UInt8)(n last i:Int)(out:List Int):Nat:=(n - i).toNat
theorem Xji(z:Int):-140737488355329≤Xiw z∧Xiw z≤140737488355328:=Xfj z
theorem RT.val{s:List UInt8}{n:Int}{l:List Int}(h:RT s n l){i:Nat}(hi:i<l.length):(X0D s n).1.getD i 0=tmW l i:=RW.at X96 h hi
theorem RV.val{s:List UInt8}{n:Int}{l:List Int}(h:RV s n l){i:Nat}(hi:i<l.length):(X0D s n).1.getD i 0=vlW l i:=RW.at X9D h hi
theorem rt_of{s:List UInt8}{n k:Int}{out:List Int}(h1:(out.length:Int)=n)(hk:0<k)(hk2:k≤s.length)(h:X0j out=s.take k.toNat):RT s n out∧k=((cat (tmW out) out.length).length:Int):=by
 by_cases hr:X6Y out=true
 · rw[X5p hr]at h
   have h2:=congrArg List.length h
   rw[List.length_take]at h2
   refine⟨⟨h1,hr,?_⟩,by omega⟩
   rw[show(cat (tmW out) out.length).length=k.toNat by omega,←h]
 · unfold X0j at h
   rw[if_neg hr]at h
   have h2:=congrArg List.length h
   rw[List.length_take]at h2
   simp at h2;omega
theorem rv_of{s:List UInt8}{n k:Int}{out:List Int}(h1:(out.length:Int)=n)(hk:0<k)(hk2:k≤s.length)(h:X0f out=s.take k.toNat):RV s n out∧k=((cat (vlW out) out.length).length:Int):=by
 by_cases hr:X7l out=true
 · rw[X5f hr]at h
   have h2:=congrArg List.length h
   rw[List.length_take]at h2
   refine⟨⟨h1,hr,?_⟩,by omega⟩
   rw[show(cat (vlW out) out.length).length=k.toNat by omega,←h]
 · unfold X0f at h
   rw[if_neg hr]at h
   have h2:=congrArg List.length h
   rw[List.length_take]at h2
   simp at h2;omega
theorem X7M{s:List UInt8}{n:Int}(h:∀l,¬RT s n l):([],0)=X2v s n:=by
 rcases XbF s n with⟨e,_⟩ | ⟨l,hl,_⟩
 · exact e.symm
 · exact absurd hl (h l)
theorem X7N{s:List UInt8}{n:Int}(h:∀l,¬RV s n l):([],0)=X2z s n:=by
 rcases XbV s n with⟨e,_⟩ | ⟨l,hl,_⟩
 · exact e.symm
 · exact absurd hl (h l)
theorem RT.len{s:List UInt8}{n:Int}{l:List Int}(h:RT s n l):fIn n 1 60=true:=by
 rw[X0u];have h1:=(X3s.1 h.2.1).1;have:=h.1;omega
theorem RV.len{s:List UInt8}{n:Int}{l:List Int}(h:RV s n l):fIn n 1 60=true:=by
 rw[X0u];have h1:=(X3J.1 h.2.1).1;have:=h.1;omega
theorem RT.pos{s:List UInt8}{n:Int}{l:List Int}(h:RT s n l):¬(X0D s n).2<0:=by
 rw[RW.vars X96 h];simp only;omega
theorem RV.pos{s:List UInt8}{n:Int}{l:List Int}(h:RV s n l):¬(X0D s n).2<0:=by
 rw[RW.vars X9D h];simp only;omega
theorem Xls{s:List UInt8}{n:Int}(hn:1≤n)(hv:∀j:Nat,0≤(X0D s n).1.getD j 0∧(X0D s n).1.getD j 0≤562949953421311):rsI s n 1 [(X0D s n).1.getD (Int.toNat 0) 0]:=by
 refine⟨by omega,hn,rfl,⟨hv 0,fun h=>by omega⟩,fun l hl=>?_⟩
 have h1:=hl.1
 rw[show(1:Int).toNat=0+1 from rfl,X7p (by omega),show Int.toNat 0=0 from rfl,RT.val hl (by omega)]
 rfl
theorem XmJ{s:List UInt8}{n x i:Int}{out:List Int}(hI:rsI s n i out)(hi:i<n)(hx:∀l,RT s n l→x=l.getD i.toNat 0)(h:fIn x 0 1099511627776=false):([],0)=X2v s n:=by
 refine X7M fun l hl=>?_
 have h1:=hl.1
 have h2:=hI.1
 have:=X9v hl.2.1 (i:=i.toNat) (by omega)
 rw[hx l hl,X0u.2 this]at h;cases h
theorem XjH{s:List UInt8}{n x i:Int}{out:List Int}(hI:rsI s n i out)(hi:i<n)(hx:∀l,RT s n l→x=l.getD i.toNat 0)(h:fIn x 0 1099511627776=true):rsI s n (i+1) (out++[x]):=by
 obtain⟨h1,h2,h3,h4,h5⟩:=hI
 rw[X0u]at h
 refine⟨by omega,by omega,by simp;omega,⟨?_,fun _=>?_⟩,fun l hl=>?_⟩
 · rw[Xff (by omega)];omega
 · rw[XhU (by omega),show(i+1).toNat - 2=i.toNat - 1 by omega];exact h4.1
 · have:=hl.1
   rw[show(i+1).toNat=i.toNat+1 by omega,X7p (by omega),←h5 l hl,hx l hl]
theorem XoH{s:List UInt8}{n i:Int}{out:List Int}(hI:rsI s n i out)(hi:i<n)(h0:¬i>1):∀l,RT s n l→out.getD (i.toNat - 1) 0+(X0D s n).1.getD i.toNat 0=l.getD i.toNat 0:=fun l hl=>by
 have h1:=hl.1
 have h2:=hI.1
 rw[RT.val hl (by omega),hI.2.2.2.2 l hl,show i=1 by omega,show(1:Int).toNat - 1=0 from rfl,show(1:Int).toNat=1 from rfl,X8p (by omega)]
 unfold tmW;simp;omega
theorem Xoe{s:List UInt8}{n i:Int}{out:List Int}(hI:rsI s n i out)(hi:i<n)(h0:i>1):∀l,RT s n l→out.getD (i.toNat - 1) 0+(out.getD (i.toNat - 1) 0 - out.getD (i.toNat - 2) 0+Xiw ((X0D s n).1.getD i.toNat 0))=l.getD i.toNat 0:=fun l hl=>by
 have h1:=hl.1
 have h2:=hI.1
 have:=XiG l hl.2.1 (X0D s n).1 i.toNat (by omega) (RT.val hl (by omega))
 rw[nxT,if_neg (by omega),if_neg (by omega),←hI.2.2.2.2 l hl]at this
 exact this
theorem Xow{s:List UInt8}{n i:Int}{out:List Int}(hI:rsI s n i out)(hi:¬i<n)(hk:0<(X0D s n).2)(hk2:(X0D s n).2≤s.length):(¬X0j out=s.take (X0D s n).2.toNat→([],0)=X2v s n)∧(X0j out=s.take (X0D s n).2.toNat→(out,(X0D s n).2)=X2v s n):=by
 obtain⟨h1,h2,h3,_,h5⟩:=hI
 refine⟨fun h=>X7M fun l hl=>h ?_,fun h=>?_⟩
 · have:=hl.1
   rw[h5 l hl,show i.toNat=l.length by omega,List.take_length,RW.vars X96 hl,X5p hl.2.1]
   simp only[Int.toNat_natCast]
   exact hl.2.2.symm
 · obtain⟨q1,q2⟩:=rt_of (n:=n) (by omega) hk hk2 h
   rw[X9y q1,←q2]
theorem Xom{s:List UInt8}{n x i last:Int}{out:List Int}(hI:vsI s n last i out)(hi:i<n)(hx:∀l,RV s n l→x=l.getD i.toNat 0)(h:fIn x (-1099511627776) 1099511627776=false):([],0)=X2z s n:=by
 refine X7N fun l hl=>?_
 have h1:=hl.1
 have h2:=hI.1
 have:=XfT hl.2.1 (i:=i.toNat) (by omega)
 rw[hx l hl,X0u.2 this]at h;cases h
theorem Xn3{s:List UInt8}{n x i last:Int}{out:List Int}(hI:vsI s n last i out)(hi:i<n)(hx:∀l,RV s n l→x=l.getD i.toNat 0)(h:fIn x (-1099511627776) 1099511627776=true):vsI s n x (i+1) (out++[x]):=by
 obtain⟨h1,h2,h3,h4,h5,h6⟩:=hI
 rw[X0u]at h
 refine⟨by omega,by omega,by simp;omega,h,?_,fun l hl=>?_⟩
 · rw[if_neg (by omega),Xff (by omega)]
 · have:=hl.1
   rw[show(i+1).toNat=i.toNat+1 by omega,X7p (by omega),←h6 l hl,hx l hl]
theorem Xoz{s:List UInt8}{n i last:Int}{out:List Int}(hI:vsI s n last i out)(hi:i<n):∀l,RV s n l→last+Xiw ((X0D s n).1.getD i.toNat 0)=l.getD i.toNat 0:=fun l hl=>by
 obtain⟨h1,h2,h3,h4,h5,h6⟩:=hI
 have h1:=hl.1
 have:=Xjr l hl.2.1 (X0D s n).1 i.toNat (by omega) (RV.val hl (by omega))
 rw[nxV,←h6 l hl]at this
 rw[h5,←this]
 by_cases h0:i=0
 · rw[if_pos h0,if_pos (by omega)];rfl
 · rw[if_neg h0,if_neg (by omega)];rfl
theorem XoN{s:List UInt8}{n i last:Int}{out:List Int}(hI:vsI s n last i out)(hi:¬i<n)(hk:0<(X0D s n).2)(hk2:(X0D s n).2≤s.length):(¬X0f out=s.take (X0D s n).2.toNat→([],0)=X2z s n)∧(X0f out=s.take (X0D s n).2.toNat→(out,(X0D s n).2)=X2z s n):=by
 obtain⟨h1,h2,h3,_,_,h5⟩:=hI
 refine⟨fun h=>X7N fun l hl=>h ?_,fun h=>?_⟩
 · have:=hl.1
   rw[h5 l hl,show i.toNat=l.length by omega,List.take_length,RW.vars X9D hl,X5f hl.2.1]
   simp only[Int.toNat_natCast]
   exact hl.2.2.symm
 · obtain⟨q1,q2⟩:=rv_of (n:=n) (by omega) hk hk2 h
   rw[X9R q1,←q2]
def X45:Con:={A:=Xir,shA:=[.one,.one],R:=(.pair X8Z (.int .i64)),shR:=[(false,1),(false,1)],pre:=fun _ a=>(pRd a.1 a.2),f:=some fun _ a=>((X2v a.1 a.2),((),()))}
def X1h.F(a0:U4q)(a1:Int):Prop:=(True∧∀r1,(Eq r1 ((fIn a1 1 60),((),())))→(X00 (!r1.1) (Eq ((([]:(List Int)),0),((),())) ((X2v a0 a1),((),()))) ((p7 a0 a1)∧∀r2,(Eq r2 ((X0D a0 a1),((),())))→(X00 (decide (r2.1.2<(0:Int))) (Eq ((([]:(List Int)),0),((),())) ((X2v a0 a1),((),()))) (0≤(0:Int)∧((0:Int)<(ln r2.1.1)∧(eS [(0,.val false [.str a0]),(1,.val false [.int .i64 a1]),(6,.val false [.lst (.int .i64) [] none]),(7,.val false [.lst (.int .i64) r2.1.1 none]),(8,.val false [.int .i64 r2.1.2])] [(0,.val false [.str a0]),(1,.val false [.int .i64 a1]),(6,.val false [.lst (.int .i64) [] none]),(7,.val false [.lst (.int .i64) r2.1.1 none]),(8,.val false [.int .i64 r2.1.2])]∧((rsI a0 a1 1 [(List.getD r2.1.1 (tN (0:Int)) 0)])∧∀(y3:(Int×(List Int))),(rsI a0 a1 y3.1 y3.2)→(X00 (decide (y3.1<a1)) (0≤y3.1∧(y3.1<(ln r2.1.1)∧(X00 (decide (y3.1>(1:Int))) (0≤(wI (y3.1 - (1:Int)))∧((wI (y3.1 - (1:Int)))<(ln y3.2)∧(0≤(wI (y3.1 - (2:Int)))∧((wI (y3.1 - (2:Int)))<(ln y3.2)∧(0≤y3.1∧(y3.1<(ln r2.1.1)∧(True∧∀r4,(Eq r4 ((Xiw (List.getD r2.1.1 (tN y3.1) 0)),((),())))→(0≤(wI (y3.1 - (1:Int)))∧((wI (y3.1 - (1:Int)))<(ln y3.2)∧(True∧∀r5,(Eq r5 ((fIn (wI ((List.getD y3.2 (tN (wI (y3.1 - (1:Int)))) 0)+(wI ((wI ((List.getD y3.2 (tN (wI (y3.1 - (1:Int)))) 0) - (List.getD y3.2 (tN (wI (y3.1 - (2:Int)))) 0)))+r4.1)))) 0 1099511627776),((),())))→(X00 (!r5.1) (Eq ((([]:(List Int)),0),((),())) ((X2v a0 a1),((),()))) (List.length y3.2+List.length [(wI ((List.getD y3.2 (tN (wI (y3.1 - (1:Int)))) 0)+(wI ((wI ((List.getD y3.2 (tN (wI (y3.1 - (1:Int)))) 0) - (List.getD y3.2 (tN (wI (y3.1 - (2:Int)))) 0)))+r4.1))))]≤9223372036854775807∧((List.length y3.2+List.length [(wI ((List.getD y3.2 (tN (wI (y3.1 - (1:Int)))) 0)+(wI ((wI ((List.getD y3.2 (tN (wI (y3.1 - (1:Int)))) 0) - (List.getD y3.2 (tN (wI (y3.1 - (2:Int)))) 0)))+r4.1))))])*8≤140737488355328∧(eS [(0,.val false [.str a0]),(1,.val false [.int .i64 a1]),(6,.val false [.lst (.int .i64) [] none]),(7,.val false [.lst (.int .i64) r2.1.1 none]),(8,.val false [.int .i64 r2.1.2])] [(0,.val false [.str a0]),(1,.val false [.int .i64 a1]),(6,.val false [.lst (.int .i64) [] none]),(7,.val false [.lst (.int .i64) r2.1.1 none]),(8,.val false [.int .i64 r2.1.2])]∧(rsI a0 a1 (wI (y3.1+(1:Int))) (y3.2++[(wI ((List.getD y3.2 (tN (wI (y3.1 - (1:Int)))) 0)+(wI ((wI ((List.getD y3.2 (tN (wI (y3.1 - (1:Int)))) 0) - (List.getD y3.2 (tN (wI (y3.1 - (2:Int)))) 0)))+r4.1))))]))∧(rsM a0 a1 (wI (y3.1+(1:Int))) (y3.2++[(wI ((List.getD y3.2 (tN (wI (y3.1 - (1:Int)))) 0)+(wI ((wI ((List.getD y3.2 (tN (wI (y3.1 - (1:Int)))) 0) - (List.getD y3.2 (tN (wI (y3.1 - (2:Int)))) 0)))+r4.1))))]))<(rsM a0 a1 y3.1 y3.2))))))))))))))) (0≤(wI (y3.1 - (1:Int)))∧((wI (y3.1 - (1:Int)))<(ln y3.2)∧(True∧∀r6,(Eq r6 ((fIn (wI ((List.getD y3.2 (tN (wI (y3.1 - (1:Int)))) 0)+(List.getD r2.1.1 (tN y3.1) 0))) 0 1099511627776),((),())))→(X00 (!r6.1) (Eq ((([]:(List Int)),0),((),())) ((X2v a0 a1),((),()))) (List.length y3.2+List.length [(wI ((List.getD y3.2 (tN (wI (y3.1 - (1:Int)))) 0)+(List.getD r2.1.1 (tN y3.1) 0)))]≤9223372036854775807∧((List.length y3.2+List.length [(wI ((List.getD y3.2 (tN (wI (y3.1 - (1:Int)))) 0)+(List.getD r2.1.1 (tN y3.1) 0)))])*8≤140737488355328∧(eS [(0,.val false [.str a0]),(1,.val false [.int .i64 a1]),(6,.val false [.lst (.int .i64) [] none]),(7,.val false [.lst (.int .i64) r2.1.1 none]),(8,.val false [.int .i64 r2.1.2])] [(0,.val false [.str a0]),(1,.val false [.int .i64 a1]),(6,.val false [.lst (.int .i64) [] none]),(7,.val false [.lst (.int .i64) r2.1.1 none]),(8,.val false [.int .i64 r2.1.2])]∧(rsI a0 a1 (wI (y3.1+(1:Int))) (y3.2++[(wI ((List.getD y3.2 (tN (wI (y3.1 - (1:Int)))) 0)+(List.getD r2.1.1 (tN y3.1) 0)))]))∧(rsM a0 a1 (wI (y3.1+(1:Int))) (y3.2++[(wI ((List.getD y3.2 (tN (wI (y3.1 - (1:Int)))) 0)+(List.getD r2.1.1 (tN y3.1) 0)))]))<(rsM a0 a1 y3.1 y3.2))))))))))) (True∧∀r7,(Eq r7 ((X0j y3.2),((),())))→(0≤r2.1.2∧(r2.1.2≤(ln a0)∧(X00 (!(r7.1==(List.take (tN r2.1.2) a0))) (Eq ((([]:(List Int)),0),((),())) ((X2v a0 a1),((),()))) (Eq ((y3.2,r2.1.2),((),())) ((X2v a0 a1),((),()))))))))))))))))
def X1h.L(a0:U4q)(a1:Int):Nat→Option X0a:=fun p=>Go.Proofs.YtgmafgmjbaoomaaGreat.Bv.look p [(1018,{kp:={hold:=[0,1,6,7,8],slots:=[9,10],boxes:=[],rows:=[{bx:=false,s:=9,i:=0,k:=1001155,e:=3,hot:=true}]},T:=(.pair (.int .i64) X8Z),I:=fun st y=>rsI a0 a1 y.1 y.2,μ:=fun st y=>rsM a0 a1 y.1 y.2})]
theorem X1h.pure(a0:U4q)(a1:Int)(h:(pRd a0 a1))(hw:Wf X45.A (a0,a1)):X1h.F a0 a1:=by
 delta X1h.F ln tN wI eS
 simp only[Bs,B0,B1,Prod.mk.injEq,X03]
 have hp:a0.length≤9223372036854775807:=h
 refine⟨fun h1=>X7M fun l hl=>(by rw[RT.len hl]at h1;cases h1),fun h1=>?_⟩
 rw[X0u]at h1
 refine⟨⟨hp,by omega,by omega⟩,fun h2=>X7M fun l hl=>RT.pos hl h2,fun h2=>?_⟩
 obtain⟨k1,k2,k3,k4⟩:=Xmg (by omega) h2
 refine⟨by omega,by omega,Xls (by omega) k2,fun y hI=>?_⟩
 obtain⟨i,out⟩:=y
 simp only at hI ⊢
 have g1:=hI.1
 have g2:=hI.2.2.1
 have g3:=hI.2.2.2.1.1
 have g4:=hI.2.2.2.1.2
 have g5:=hI.2.1
 have e1:IntKind.wrap .i64 (i+1)=i+1:=w64 (by omega) (by omega)
 have e2:IntKind.wrap .i64 (i - 1)=i - 1:=w64 (by omega) (by omega)
 have e3:IntKind.wrap .i64 (i - 2)=i - 2:=w64 (by omega) (by omega)
 have kv:=k2 i.toNat
 refine⟨fun hi=>⟨by omega,by omega,fun h3=>?_,fun h3=>?_⟩,fun hi=>⟨by omega,k4,Xow hI hi k3 k4⟩⟩
 · have ku:=Xji ((X0D a0 a1).1.getD i.toNat 0)
   have g4:=g4 (by omega)
   have hx:=Xoe hI hi h3
   rw[e1,e2,e3,show(i - 1).toNat=i.toNat - 1 by omega,show(i - 2).toNat=i.toNat - 2 by omega,w64 (x:=out.getD (i.toNat - 1) 0 - out.getD (i.toNat - 2) 0) (by omega) (by omega),w64 (x:=out.getD (i.toNat - 1) 0 - out.getD (i.toNat - 2) 0+Xiw ((X0D a0 a1).1.getD i.toNat 0)) (by omega) (by omega),w64 (x:=out.getD (i.toNat - 1) 0+(out.getD (i.toNat - 1) 0 - out.getD (i.toNat - 2) 0+Xiw ((X0D a0 a1).1.getD i.toNat 0))) (by omega) (by omega)]
   exact⟨by omega,by omega,by omega,by omega,by omega,by omega,by omega,by omega,XmJ hI hi hx,fun h4=>⟨by omega,by omega,XjH hI hi hx h4,by unfold rsM;omega⟩⟩
 · have hx:=XoH hI hi h3
   rw[e1,e2,show(i - 1).toNat=i.toNat - 1 by omega,w64 (x:=out.getD (i.toNat - 1) 0+(X0D a0 a1).1.getD i.toNat 0) (by omega) (by omega)]
   exact⟨by omega,by omega,XmJ hI hi hx,fun h4=>⟨by omega,by omega,XjH hI hi hx h4,by unfold rsM;omega⟩⟩
theorem X1h.eq:EqS X45 Tryz.f113 [139,3] [X1j.e,X0Z.e,X24.e,X3t.e] [] (fun i x=>X1h.L x.1 x.2) (fun i x=>X1h.F x.1 x.2):=by intro i x;kernel_rfl
theorem X1h.ok:X0o Tryz.prog 113 X45:=X2u X1h.eq Tryz.func113 rfl (by kernel_rfl) fun i x h hi hw=>X1h.pure x.1 x.2 h hw
def X1h.e:GE:=⟨113,X45,⟨_,Tryz.func113,rfl,rfl⟩,X1h.ok⟩
def X3S:Con:={A:=Xir,shA:=[.one,.one],R:=(.pair X8Z (.int .i64)),shR:=[(false,1),(false,1)],pre:=fun _ a=>(pRd a.1 a.2),f:=some fun _ a=>((X2z a.1 a.2),((),()))}
def X0X.F(a0:U4q)(a1:Int):Prop:=(True∧∀r1,(Eq r1 ((fIn a1 1 60),((),())))→(X00 (!r1.1) (Eq ((([]:(List Int)),0),((),())) ((X2z a0 a1),((),()))) ((p7 a0 a1)∧∀r2,(Eq r2 ((X0D a0 a1),((),())))→(X00 (decide (r2.1.2<(0:Int))) (Eq ((([]:(List Int)),0),((),())) ((X2z a0 a1),((),()))) (eS [(0,.val false [.str a0]),(1,.val false [.int .i64 a1]),(6,.val false [.lst (.int .i64) [] none]),(7,.val false [.lst (.int .i64) r2.1.1 none]),(8,.val false [.int .i64 r2.1.2])] [(0,.val false [.str a0]),(1,.val false [.int .i64 a1]),(6,.val false [.lst (.int .i64) [] none]),(7,.val false [.lst (.int .i64) r2.1.1 none]),(8,.val false [.int .i64 r2.1.2])]∧((vsI a0 a1 0 0 ([]:List Int))∧∀(y3:(Int×(Int×(List Int)))),(vsI a0 a1 y3.1 y3.2.1 y3.2.2)→(X00 (decide (y3.2.1<a1)) (0≤y3.2.1∧(y3.2.1<(ln r2.1.1)∧(True∧∀r4,(Eq r4 ((Xiw (List.getD r2.1.1 (tN y3.2.1) 0)),((),())))→(True∧∀r5,(Eq r5 ((fIn (wI (y3.1+r4.1)) (-1099511627776) 1099511627776),((),())))→(X00 (!r5.1) (Eq ((([]:(List Int)),0),((),())) ((X2z a0 a1),((),()))) (List.length y3.2.2+List.length [(wI (y3.1+r4.1))]≤9223372036854775807∧((List.length y3.2.2+List.length [(wI (y3.1+r4.1))])*8≤140737488355328∧(eS [(0,.val false [.str a0]),(1,.val false [.int .i64 a1]),(6,.val false [.lst (.int .i64) [] none]),(7,.val false [.lst (.int .i64) r2.1.1 none]),(8,.val false [.int .i64 r2.1.2])] [(0,.val false [.str a0]),(1,.val false [.int .i64 a1]),(6,.val false [.lst (.int .i64) [] none]),(7,.val false [.lst (.int .i64) r2.1.1 none]),(8,.val false [.int .i64 r2.1.2])]∧(vsI a0 a1 (wI (y3.1+r4.1)) (wI (y3.2.1+(1:Int))) (y3.2.2++[(wI (y3.1+r4.1))]))∧(vsM a0 a1 (wI (y3.1+r4.1)) (wI (y3.2.1+(1:Int))) (y3.2.2++[(wI (y3.1+r4.1))]))<(vsM a0 a1 y3.1 y3.2.1 y3.2.2))))))))) (True∧∀r6,(Eq r6 ((X0f y3.2.2),((),())))→(0≤r2.1.2∧(r2.1.2≤(ln a0)∧(X00 (!(r6.1==(List.take (tN r2.1.2) a0))) (Eq ((([]:(List Int)),0),((),())) ((X2z a0 a1),((),()))) (Eq ((y3.2.2,r2.1.2),((),())) ((X2z a0 a1),((),()))))))))))))))
def X0X.L(a0:U4q)(a1:Int):Nat→Option X0a:=fun p=>Go.Proofs.YtgmafgmjbaoomaaGreat.Bv.look p [(2042,{kp:={hold:=[0,1,6,7,8],slots:=[9,10,11],boxes:=[],rows:=[{bx:=false,s:=9,i:=0,k:=1001155,e:=3,hot:=true}]},T:=(.pair (.int .i64) (.pair (.int .i64) X8Z)),I:=fun st y=>vsI a0 a1 y.1 y.2.1 y.2.2,μ:=fun st y=>vsM a0 a1 y.1 y.2.1 y.2.2})]
theorem X0X.pure(a0:U4q)(a1:Int)(h:(pRd a0 a1))(hw:Wf X3S.A (a0,a1)):X0X.F a0 a1:=by
 delta X0X.F ln tN wI eS
 simp only[Bs,B0,B1,Prod.mk.injEq,X03]
 have hp:a0.length≤9223372036854775807:=h
 refine⟨fun h1=>X7N fun l hl=>(by rw[RV.len hl]at h1;cases h1),fun h1=>?_⟩
 rw[X0u]at h1
 refine⟨⟨hp,by omega,by omega⟩,fun h2=>X7N fun l hl=>RV.pos hl h2,fun h2=>?_⟩
 obtain⟨k1,k2,k3,k4⟩:=Xmg (by omega) h2
 refine⟨⟨by omega,by omega,rfl,by omega,rfl,fun l hl=>by simp⟩,fun y hI=>?_⟩
 obtain⟨last,i,out⟩:=y
 simp only at hI ⊢
 have g1:=hI.1
 have g2:=hI.2.2.1
 have g3:=hI.2.2.2.1
 have g5:=hI.2.1
 have e1:IntKind.wrap .i64 (i+1)=i+1:=w64 (by omega) (by omega)
 refine⟨fun hi=>⟨by omega,by omega,?_⟩,fun hi=>⟨by omega,k4,XoN hI hi k3 k4⟩⟩
 have ku:=Xji ((X0D a0 a1).1.getD i.toNat 0)
 have hx:=Xoz hI hi
 rw[e1,w64 (x:=last+Xiw ((X0D a0 a1).1.getD i.toNat 0)) (by omega) (by omega)]
 exact⟨Xom hI hi hx,fun h4=>⟨by omega,by omega,Xn3 hI hi hx h4,by unfold vsM;omega⟩⟩
theorem X0X.eq:EqS X3S Tryz.f114 [139,3] [X1j.e,X0H.e,X24.e,X3t.e] [] (fun i x=>X0X.L x.1 x.2) (fun i x=>X0X.F x.1 x.2):=by intro i x;kernel_rfl
theorem X0X.ok:X0o Tryz.prog 114 X3S:=X2u X0X.eq Tryz.func114 rfl (by kernel_rfl) fun i x h hi hw=>X0X.pure x.1 x.2 h hw
def X0X.e:GE:=⟨114,X3S,⟨_,Tryz.func114,rfl,rfl⟩,X0X.ok⟩
def dT(l:List Int)(j:Nat):Int:=if j=0 then l.getD 0 0 else l.getD j 0 - l.getD (j - 1) 0
def laT(l:List Int)(j:Nat):Int:=if j=0 then 0 else l.getD (j - 1) 0
def riI(s:List UInt8)(n step last i:Int)(rest:List UInt8)(ok:Bool)(out:List Int):Prop:=(0≤i∧i≤n∧n≤60∧(out.length:Int)=i)∧(-(1125899906842624*i)≤step∧step≤1125899906842624*i∧-(70000000000000000*i)≤last∧last≤70000000000000000*i)∧∀l,RT s n l→ok=true∧rest=s.drop (cat (tmW l) i.toNat).length∧out=l.take i.toNat∧last=laT l i.toNat∧(1≤i→step=dT l (i.toNat - 1))
def riM(s:List UInt8)(n step last i:Int)(rest:List UInt8)(ok:Bool)(out:List Int):Nat:=(n - i).toNat
def viI(s:List UInt8)(n last i:Int)(rest:List UInt8)(ok:Bool)(out:List Int):Prop:=(0≤i∧i≤n∧n≤60∧(out.length:Int)=i)∧(-(70000000000000000*i)≤last∧last≤70000000000000000*i)∧∀l,RV s n l→ok=true∧rest=s.drop (cat (vlW l) i.toNat).length∧out=l.take i.toNat∧last=laT l i.toNat
def viM(s:List UInt8)(n last i:Int)(rest:List UInt8)(ok:Bool)(out:List Int):Nat:=(n - i).toNat
theorem Xmx{W:Nat→Int}{n i:Nat}{s:List UInt8}(hw:∀j,j<n→X3K (W j))(hs:s.take (cat W n).length=cat W n)(hi:i<n):X4z (s.drop (cat W i).length,true)=(W i,(s.drop (cat W (i+1)).length,true)):=by
 obtain⟨h1,h2⟩:=XgX hw hs hi
 have hp:=X5r (hw i hi)
 unfold X4z
 simp only
 rw[h1]
 simp only
 rw[if_pos ⟨trivial,by omega⟩,Int.toNat_natCast,h2]
theorem Xm9{W:Nat→Int}{n i:Nat}{s:List UInt8}{d:Int}(hw:∀j,j<n→X3K (W j))(hs:s.take (cat W n).length=cat W n)(hi:i<n)(hd:fIn d (-140737488355328) 140737488355328=true)(he:W i=XaB d):Xbe (s.drop (cat W i).length,true)=(d,(s.drop (cat W (i+1)).length,true)):=by
 unfold Xbe
 rw[Xmx hw hs hi]
 simp only
 rw[he,XbY hd]
 rfl
theorem Xjc{s:List UInt8}{n step last i step':Int}{rest:List UInt8}{ok:Bool}{out:List Int}{r:Rd}(hI:riI s n step last i rest ok out)(hi:i<n)(hb:-(1125899906842624*(i+1))≤step'∧step'≤1125899906842624*(i+1))(hs:∀l,RT s n l→ok=true→rest=s.drop (cat (tmW l) i.toNat).length→(1≤i→step=dT l (i.toNat - 1))→step'=dT l i.toNat∧r=(s.drop (cat (tmW l) (i.toNat+1)).length,true)):riI s n step' (last+step') (i+1) r.1 r.2 (out++[last+step']):=by
 obtain⟨⟨h1,h2,h3,h4⟩,⟨h5,h6,h7,h8⟩,h9⟩:=hI
 refine⟨⟨by omega,by omega,h3,by simp;omega⟩,⟨by omega,by omega,by omega,by omega⟩,fun l hl=>?_⟩
 obtain⟨k1,k2,k3,k4,k5⟩:=h9 l hl
 obtain⟨j1,j2⟩:=hs l hl k1 k2 k5
 have hll:=hl.1
 have e:(i+1).toNat=i.toNat+1:=by omega
 have hx:last+step'=l.getD i.toNat 0:=by
  rw[k4,j1];unfold laT dT
  split
  · rename_i h0;rw[h0];omega
  · omega
 rw[e,j2]
 refine⟨rfl,rfl,by rw[k3,hx,X7p (by omega)],by rw[hx];rfl,fun _=>j1⟩
theorem XoM{s:List UInt8}{n step i:Int}{rest:List UInt8}{ok:Bool}(h0:0≤i)(hi:i<n)(h2:i<2):∀l,RT s n l→ok=true→rest=s.drop (cat (tmW l) i.toNat).length→(1≤i→step=dT l (i.toNat - 1))→(X4z (rest,ok)).1=dT l i.toNat∧(X4z (rest,ok)).2=(s.drop (cat (tmW l) (i.toNat+1)).length,true):=fun l hl k1 k2 _=>by
 have hll:=hl.1
 rw[k1,k2,Xmx (X96 l hl.2.1) hl.2.2 (by omega)]
 refine⟨?_,rfl⟩
 show tmW l i.toNat=dT l i.toNat
 unfold tmW dT
 split
 · rfl
 · rw[if_pos (by omega),show i.toNat=1 by omega]
theorem XoZ{s:List UInt8}{n step i:Int}{rest:List UInt8}{ok:Bool}(hi:i<n)(h2:¬i<2):∀l,RT s n l→ok=true→rest=s.drop (cat (tmW l) i.toNat).length→(1≤i→step=dT l (i.toNat - 1))→step+(Xbe (rest,ok)).1=dT l i.toNat∧(Xbe (rest,ok)).2=(s.drop (cat (tmW l) (i.toNat+1)).length,true):=fun l hl k1 k2 k3=>by
 have hll:=hl.1
 rw[k1,k2,Xm9 (X96 l hl.2.1) hl.2.2 (by omega) (Xki hl.2.1 (i:=i.toNat) (by omega) (by omega)) (by unfold tmW;rw[if_neg (by omega),if_neg (by omega)])]
 refine⟨?_,rfl⟩
 rw[k3 (by omega)]
 unfold dT
 rw[if_neg (by omega),if_neg (by omega),show i.toNat - 1 - 1=i.toNat - 2 by omega]
 simp only;omega
theorem XnC{s:List UInt8}{n last i:Int}{rest:List UInt8}{ok:Bool}{out:List Int}(hI:viI s n last i rest ok out)(hi:i<n):viI s n (last+(Xbe (rest,ok)).1) (i+1) (Xbe (rest,ok)).2.1 (Xbe (rest,ok)).2.2 (out++[last+(Xbe (rest,ok)).1]):=by
 obtain⟨⟨h1,h2,h3,h4⟩,⟨h7,h8⟩,h9⟩:=hI
 have hz:=Xj1 (rest,ok)
 refine⟨⟨by omega,by omega,h3,by simp;omega⟩,⟨by omega,by omega⟩,fun l hl=>?_⟩
 obtain⟨k1,k2,k3,k4⟩:=h9 l hl
 have hll:=hl.1
 have e:(i+1).toNat=i.toNat+1:=by omega
 rw[k1,k2,Xm9 (X9D l hl.2.1) hl.2.2 (by omega) (XjA hl.2.1 (i:=i.toNat) (by omega)) rfl]
 have hx:last+(l.getD i.toNat 0 - (if i.toNat=0 then 0 else l.getD (i.toNat - 1) 0))=l.getD i.toNat 0:=by
  rw[k4];unfold laT
  split<;>omega
 simp only
 rw[hx,e]
 exact⟨trivial,rfl,by rw[k3,X7p (by omega)],rfl⟩
theorem Xho{s t:List UInt8}(h:X54 s t=true):s.take t.length=t:=by simpa [X54] using h
theorem XoK{s:List UInt8}{n step last i:Int}{rest:List UInt8}{ok:Bool}{out:List Int}(hI:riI s n step last i rest ok out)(hi:¬i<n):(ok=false→([],0)=X2v s n)∧(ok=true→((X4Y s (X0j out)).2=false→([],0)=X2v s n)∧((X4Y s (X0j out)).2=true→(out,(X4Y s (X0j out)).1)=X2v s n)):=by
 obtain⟨⟨h1,h2,h3,h4⟩,_,h9⟩:=hI
 refine⟨fun h=>X7M fun l hl=>?_,fun h=>⟨fun h5=>X7M fun l hl=>?_,fun h5=>?_⟩⟩
 · rw[(h9 l hl).1]at h;cases h
 · have hll:=hl.1
   have e:out=l:=by rw[(h9 l hl).2.2.1,show i.toNat=l.length by omega,List.take_length]
   have hp:0<(cat (tmW l) l.length).length:=X9e (X96 l hl.2.1 0 (by have:=(X3s.1 hl.2.1).1;omega)) _ (by have:=(X3s.1 hl.2.1).1;omega)
   rw[e]at h5
   simp only[X4Y,Bool.and_eq_false_iff,decide_eq_false_iff_not,X54,beq_eq_false_iff_ne,ne_eq,Decidable.not_not,X5p hl.2.1]at h5
   rcases h5 with h5 | h5
   · rw[h5]at hp;simp at hp
   · exact h5 hl.2.2
 · simp only[X4Y,Bool.and_eq_true,decide_eq_true_eq,ne_eq]at h5
   have hr:X6Y out=true:=by
    by_cases hr:X6Y out=true
    · exact hr
    · exact absurd (by unfold X0j;rw[if_neg hr]) h5.1
   have hR:RT s n out:=⟨by omega,hr,by have:=Xho h5.2;rw[X5p hr]at this;exact this⟩
   rw[X9y hR]
   simp only[X4Y,X5p hr]
theorem Xp2{s:List UInt8}{n last i:Int}{rest:List UInt8}{ok:Bool}{out:List Int}(hI:viI s n last i rest ok out)(hi:¬i<n):(ok=false→([],0)=X2z s n)∧(ok=true→((X4Y s (X0f out)).2=false→([],0)=X2z s n)∧((X4Y s (X0f out)).2=true→(out,(X4Y s (X0f out)).1)=X2z s n)):=by
 obtain⟨⟨h1,h2,h3,h4⟩,_,h9⟩:=hI
 refine⟨fun h=>X7N fun l hl=>?_,fun h=>⟨fun h5=>X7N fun l hl=>?_,fun h5=>?_⟩⟩
 · rw[(h9 l hl).1]at h;cases h
 · have hll:=hl.1
   have e:out=l:=by rw[(h9 l hl).2.2.1,show i.toNat=l.length by omega,List.take_length]
   have hp:0<(cat (vlW l) l.length).length:=X9e (X9D l hl.2.1 0 (by have:=(X3J.1 hl.2.1).1;omega)) _ (by have:=(X3J.1 hl.2.1).1;omega)
   rw[e]at h5
   simp only[X4Y,Bool.and_eq_false_iff,decide_eq_false_iff_not,X54,beq_eq_false_iff_ne,ne_eq,Decidable.not_not,X5f hl.2.1]at h5
   rcases h5 with h5 | h5
   · rw[h5]at hp;simp at hp
   · exact h5 hl.2.2
 · simp only[X4Y,Bool.and_eq_true,decide_eq_true_eq,ne_eq]at h5
   have hr:X7l out=true:=by
    by_cases hr:X7l out=true
    · exact hr
    · exact absurd (by unfold X0f;rw[if_neg hr]) h5.1
   have hR:RV s n out:=⟨by omega,hr,by have:=Xho h5.2;rw[X5f hr]at this;exact this⟩
   rw[X9R hR]
   simp only[X4Y,X5f hr]
def X4b:Con:={A:=Xir,shA:=[.one,.one],R:=(.pair X8Z (.int .i64)),shR:=[(false,1),(false,1)],fresh:=[(0,3)],pre:=fun _ _=>True,f:=some fun _ a=>((X2v a.1 a.2),((),()))}
def X1g.F(a0:U4q)(a1:Int):Prop:=(True∧∀r1,(Eq r1 ((fIn a1 1 60),((),())))→(X00 (!r1.1) (Eq ((([]:(List Int)),0),((),())) ((X2v a0 a1),((),()))) (eS [(0,.val false [.str a0]),(6,.box 19 0),(20,.val false [.int .i64 a1])] [(0,.val false [.str a0]),(6,.box 19 0),(20,.val false [.int .i64 a1])]∧((riI a0 a1 0 0 0 a0 true ([]:List Int))∧∀(y2:(Int×(Int×(Int×(U4q×(Bool×(List Int))))))),(riI a0 a1 y2.1 y2.2.1 y2.2.2.1 y2.2.2.2.1 y2.2.2.2.2.1 y2.2.2.2.2.2)→(X00 (decide (y2.2.2.1<a1)) (X00 (decide (y2.2.2.1<(2:Int))) (True∧∀r3,(Eq r3 ((X4z (y2.2.2.2.1,y2.2.2.2.2.1)).1,((X4z (y2.2.2.2.1,y2.2.2.2.2.1)).2,())))→(List.length y2.2.2.2.2.2+List.length [(wI (y2.2.1+r3.1))]≤9223372036854775807∧((List.length y2.2.2.2.2.2+List.length [(wI (y2.2.1+r3.1))])*8≤140737488355328∧(eS [(0,.val false [.str a0]),(6,.box 19 0),(20,.val false [.int .i64 a1])] [(0,.val false [.str a0]),(6,.box 19 0),(20,.val false [.int .i64 a1])]∧(riI a0 a1 r3.1 (wI (y2.2.1+r3.1)) (wI (y2.2.2.1+(1:Int))) r3.2.1.1 r3.2.1.2 (y2.2.2.2.2.2++[(wI (y2.2.1+r3.1))]))∧(riM a0 a1 r3.1 (wI (y2.2.1+r3.1)) (wI (y2.2.2.1+(1:Int))) r3.2.1.1 r3.2.1.2 (y2.2.2.2.2.2++[(wI (y2.2.1+r3.1))]))<(riM a0 a1 y2.1 y2.2.1 y2.2.2.1 y2.2.2.2.1 y2.2.2.2.2.1 y2.2.2.2.2.2))))) (True∧∀r4,(Eq r4 ((Xbe (y2.2.2.2.1,y2.2.2.2.2.1)).1,((Xbe (y2.2.2.2.1,y2.2.2.2.2.1)).2,())))→(List.length y2.2.2.2.2.2+List.length [(wI (y2.2.1+(wI (y2.1+r4.1))))]≤9223372036854775807∧((List.length y2.2.2.2.2.2+List.length [(wI (y2.2.1+(wI (y2.1+r4.1))))])*8≤140737488355328∧(eS [(0,.val false [.str a0]),(6,.box 19 0),(20,.val false [.int .i64 a1])] [(0,.val false [.str a0]),(6,.box 19 0),(20,.val false [.int .i64 a1])]∧(riI a0 a1 (wI (y2.1+r4.1)) (wI (y2.2.1+(wI (y2.1+r4.1)))) (wI (y2.2.2.1+(1:Int))) r4.2.1.1 r4.2.1.2 (y2.2.2.2.2.2++[(wI (y2.2.1+(wI (y2.1+r4.1))))]))∧(riM a0 a1 (wI (y2.1+r4.1)) (wI (y2.2.1+(wI (y2.1+r4.1)))) (wI (y2.2.2.1+(1:Int))) r4.2.1.1 r4.2.1.2 (y2.2.2.2.2.2++[(wI (y2.2.1+(wI (y2.1+r4.1))))]))<(riM a0 a1 y2.1 y2.2.1 y2.2.2.1 y2.2.2.2.1 y2.2.2.2.2.1 y2.2.2.2.2.2)))))) ((Xco y2.2.2.2.2.2)∧∀r5,(Eq r5 ((X0j y2.2.2.2.2.2),((),())))→(True∧∀r6,(Eq r6 ((X4Y a0 r5.1),((),())))→(X00 (!y2.2.2.2.2.1) (Eq ((([]:(List Int)),0),((),())) ((X2v a0 a1),((),()))) (X00 (!r6.1.2) (Eq ((([]:(List Int)),0),((),())) ((X2v a0 a1),((),()))) (Eq ((y2.2.2.2.2.2,r6.1.1),((),())) ((X2v a0 a1),((),()))))))))))))
def X1g.L(a0:U4q)(a1:Int):Nat→Option X0a:=fun p=>Go.Proofs.YtgmafgmjbaoomaaGreat.Bv.look p [(1018,{kp:={hold:=[0,6,20],slots:=[7,8,9,21],boxes:=[19],rows:=[{bx:=false,s:=7,i:=0,k:=1000899,e:=3,hot:=true}]},T:=(.pair (.int .i64) (.pair (.int .i64) (.pair (.int .i64) (.pair .str (.pair .bool X8Z))))),I:=fun st y=>riI a0 a1 y.1 y.2.1 y.2.2.1 y.2.2.2.1 y.2.2.2.2.1 y.2.2.2.2.2,μ:=fun st y=>riM a0 a1 y.1 y.2.1 y.2.2.1 y.2.2.2.1 y.2.2.2.2.1 y.2.2.2.2.2})]
theorem X1g.pure(a0:U4q)(a1:Int)(h:True)(hw:Wf X4b.A (a0,a1)):X1g.F a0 a1:=by
 delta X1g.F wI eS
 simp only[Bs,B0,B1,Prod.mk.injEq,X03]
 refine⟨fun h1=>X7M fun l hl=>(by rw[RT.len hl]at h1;cases h1),fun h1=>?_⟩
 rw[X0u]at h1
 refine⟨⟨⟨by omega,by omega,by omega,rfl⟩,⟨by omega,by omega,by omega,by omega⟩,fun l hl=>⟨rfl,by simp[cat],by simp,rfl,fun h=>by omega⟩⟩,fun y hI=>?_⟩
 obtain⟨step,last,i,rest,ok,out⟩:=y
 simp only at hI ⊢
 have g1:=hI.1
 have g2:=hI.2.1
 have e1:IntKind.wrap .i64 (i+1)=i+1:=w64 (by omega) (by omega)
 refine⟨fun hi=>⟨fun h2=>?_,fun h2=>?_⟩,fun hi=>⟨by unfold Xco;omega,XoK hI hi⟩⟩
 · have hn:=Xon (rest,ok)
   rw[e1,w64 (x:=last+(X4z (rest,ok)).1) (by omega) (by omega)]
   exact⟨by omega,by omega,Xjc hI hi (by omega) (XoM (by omega) hi h2),by unfold riM;omega⟩
 · have hn:=Xj1 (rest,ok)
   rw[e1,w64 (x:=step+(Xbe (rest,ok)).1) (by omega) (by omega),w64 (x:=last+(step+(Xbe (rest,ok)).1)) (by omega) (by omega)]
   exact⟨by omega,by omega,Xjc hI hi (by omega) (XoZ hi h2),by unfold riM;omega⟩
theorem X1g.eq:EqS X4b Tryz.f141 [139,3] [X2e.e,X0A.e,X12.e,X2x.e,X2U.e] [] (fun i x=>X1g.L x.1 x.2) (fun i x=>X1g.F x.1 x.2):=by intro i x;kernel_rfl
theorem X1g.ok:X0o Tryz.prog 141 X4b:=X2u X1g.eq Tryz.func141 rfl (by kernel_rfl) fun i x h hi hw=>X1g.pure x.1 x.2 h hw
def X1g.e:GE:=⟨141,X4b,⟨_,Tryz.func141,rfl,rfl⟩,X1g.ok⟩
def X3W:Con:={A:=Xir,shA:=[.one,.one],R:=(.pair X8Z (.int .i64)),shR:=[(false,1),(false,1)],fresh:=[(0,3)],pre:=fun _ _=>True,f:=some fun _ a=>((X2z a.1 a.2),((),()))}
def X0W.F(a0:U4q)(a1:Int):Prop:=(True∧∀r1,(Eq r1 ((fIn a1 1 60),((),())))→(X00 (!r1.1) (Eq ((([]:(List Int)),0),((),())) ((X2z a0 a1),((),()))) (eS [(0,.val false [.str a0]),(6,.box 17 0),(18,.val false [.int .i64 a1])] [(0,.val false [.str a0]),(6,.box 17 0),(18,.val false [.int .i64 a1])]∧((viI a0 a1 0 0 a0 true ([]:List Int))∧∀(y2:(Int×(Int×(U4q×(Bool×(List Int)))))),(viI a0 a1 y2.1 y2.2.1 y2.2.2.1 y2.2.2.2.1 y2.2.2.2.2)→(X00 (decide (y2.2.1<a1)) (True∧∀r3,(Eq r3 ((Xbe (y2.2.2.1,y2.2.2.2.1)).1,((Xbe (y2.2.2.1,y2.2.2.2.1)).2,())))→(List.length y2.2.2.2.2+List.length [(wI (y2.1+r3.1))]≤9223372036854775807∧((List.length y2.2.2.2.2+List.length [(wI (y2.1+r3.1))])*8≤140737488355328∧(eS [(0,.val false [.str a0]),(6,.box 17 0),(18,.val false [.int .i64 a1])] [(0,.val false [.str a0]),(6,.box 17 0),(18,.val false [.int .i64 a1])]∧(viI a0 a1 (wI (y2.1+r3.1)) (wI (y2.2.1+(1:Int))) r3.2.1.1 r3.2.1.2 (y2.2.2.2.2++[(wI (y2.1+r3.1))]))∧(viM a0 a1 (wI (y2.1+r3.1)) (wI (y2.2.1+(1:Int))) r3.2.1.1 r3.2.1.2 (y2.2.2.2.2++[(wI (y2.1+r3.1))]))<(viM a0 a1 y2.1 y2.2.1 y2.2.2.1 y2.2.2.2.1 y2.2.2.2.2))))) ((Xco y2.2.2.2.2)∧∀r4,(Eq r4 ((X0f y2.2.2.2.2),((),())))→(True∧∀r5,(Eq r5 ((X4Y a0 r4.1),((),())))→(X00 (!y2.2.2.2.1) (Eq ((([]:(List Int)),0),((),())) ((X2z a0 a1),((),()))) (X00 (!r5.1.2) (Eq ((([]:(List Int)),0),((),())) ((X2z a0 a1),((),()))) (Eq ((y2.2.2.2.2,r5.1.1),((),())) ((X2z a0 a1),((),()))))))))))))
def X0W.L(a0:U4q)(a1:Int):Nat→Option X0a:=fun p=>Go.Proofs.YtgmafgmjbaoomaaGreat.Bv.look p [(506,{kp:={hold:=[0,6,18],slots:=[7,8,19],boxes:=[17],rows:=[{bx:=false,s:=7,i:=0,k:=1000899,e:=3,hot:=true}]},T:=(.pair (.int .i64) (.pair (.int .i64) (.pair .str (.pair .bool X8Z)))),I:=fun st y=>viI a0 a1 y.1 y.2.1 y.2.2.1 y.2.2.2.1 y.2.2.2.2,μ:=fun st y=>viM a0 a1 y.1 y.2.1 y.2.2.1 y.2.2.2.1 y.2.2.2.2})]
theorem X0W.pure(a0:U4q)(a1:Int)(h:True)(hw:Wf X3W.A (a0,a1)):X0W.F a0 a1:=by
 delta X0W.F wI eS
 simp only[Bs,B0,B1,Prod.mk.injEq,X03]
 refine⟨fun h1=>X7N fun l hl=>(by rw[RV.len hl]at h1;cases h1),fun h1=>?_⟩
 rw[X0u]at h1
 refine⟨⟨⟨by omega,by omega,by omega,rfl⟩,⟨by omega,by omega⟩,fun l hl=>⟨rfl,by simp[cat],by simp,rfl⟩⟩,fun y hI=>?_⟩
 obtain⟨last,i,rest,ok,out⟩:=y
 simp only at hI ⊢
 have g1:=hI.1
 have g2:=hI.2.1
 have e1:IntKind.wrap .i64 (i+1)=i+1:=w64 (by omega) (by omega)
 refine⟨fun hi=>?_,fun hi=>⟨by unfold Xco;omega,Xp2 hI hi⟩⟩
 have hn:=Xj1 (rest,ok)
 rw[e1,w64 (x:=last+(Xbe (rest,ok)).1) (by omega) (by omega)]
 exact⟨by omega,by omega,XnC hI hi,by unfold viM;omega⟩
theorem X0W.eq:EqS X3W Tryz.f142 [139,3] [X0A.e,X0F.e,X2x.e,X2U.e] [] (fun i x=>X0W.L x.1 x.2) (fun i x=>X0W.F x.1 x.2):=by intro i x;kernel_rfl
theorem X0W.ok:X0o Tryz.prog 142 X3W:=X2u X0W.eq Tryz.func142 rfl (by kernel_rfl) fun i x h hi hw=>X0W.pure x.1 x.2 h hw
def X0W.e:GE:=⟨142,X3W,⟨_,Tryz.func142,rfl,rfl⟩,X0W.ok⟩
end Go.Proofs.YtgmafgmjbaoomaaGreat.B
