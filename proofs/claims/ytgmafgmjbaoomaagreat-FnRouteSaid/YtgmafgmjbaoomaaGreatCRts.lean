/- Routes:the parts,read. -/
import Derived.Test.YtgmafgmjbaoomaaGreatCReadB
import Derived.Test.YtgmafgmjbaoomaaGreatCSt
set_option linter.unusedVariables false
set_option linter.unusedSimpArgs false
namespace Go.Proofs.YtgmafgmjbaoomaaGreat.B
open Go Go.Proofs.YtgmafgmjbaoomaaGreat.Bv
def XbK(d:List UInt8)(out:List Pt):Option (List UInt8×Pt):=
 if (X04 d).2=0 then none
 else if (X04 (d.drop (X04 d).2.toNat)).2=0 then none
 else if (X04 d).1>X31 1099511627776∨(X04 (d.drop (X04 d).2.toNat)).1≥2∨(0<out.length∧(out.getD (out.length - 1) (0,0)).1≥(X04 d).1)∨8≤out.length then none
 else some ((d.drop (X04 d).2.toNat).drop (X04 (d.drop (X04 d).2.toNat)).2.toNat,((X04 d).1,(X04 (d.drop (X04 d).2.toNat)).1))
def rGo:Nat→List UInt8→List Pt→List Pt×Bool
 | 0,d,out=>(out,true)
 | n+1,d,out=>if d.length=0 then(out,true) else match XbK d out with
   | none=>([],false)
   | some p=>rGo n p.1 (out++[p.2])
def Xaz(s:List UInt8):Prop:=s.length≤1048576
def X3Y(s:List UInt8):List Pt×Bool:=rGo s.length s []
def rI(s d:List UInt8)(out:List Pt):Prop:=d.length≤s.length∧out.length≤8∧∃n,d.length≤n∧rGo n d out=X3Y s
def rM(s d:List UInt8)(out:List Pt):Nat:=d.length
def rI2(s d:List UInt8)(ok:Bool)(out:List Pt):Prop:=ok=true∧rI s d out
def rM2(s d:List UInt8)(ok:Bool)(out:List Pt):Nat:=d.length
theorem r_end{s d:List UInt8}{out:List Pt}(h:rI s d out)(hd:d.length=0):(out,true)=X3Y s:=by
 obtain⟨_,_,n,_,h4⟩:=h
 rw[←h4]
 cases n with
 | zero=>rfl
 | succ n=>rw[rGo,if_pos hd]
theorem Xdy{s d:List UInt8}{out:List Pt}(h:rI s d out)(hd:¬d.length=0)(hs:XbK d out=none):(([],false):List Pt×Bool)=X3Y s:=by
 obtain⟨_,_,n,h3,h4⟩:=h
 rw[←h4]
 cases n with
 | zero=>omega
 | succ n=>rw[rGo,if_neg hd,hs]
theorem Xmu{s d d':List UInt8}{out:List Pt}{e:Pt}(h:rI s d out)(hd:¬d.length=0)(hs:XbK d out=some (d',e))(hl:d'.length<d.length)(ho:out.length<8):rI s d' (out++[e])∧rM s d' (out++[e])<rM s d out:=by
 obtain⟨h1,h2,n,h3,h4⟩:=h
 refine⟨⟨by omega,by simp;omega,?_⟩,hl⟩
 cases n with
 | zero=>omega
 | succ n=>
   rw[rGo,if_neg hd,hs]at h4
   exact⟨n,by omega,h4⟩
def X5T:Con:={A:=.str,shA:=[.one],R:=(.pair X60 .bool),shR:=[(false,1),(false,1)],fresh:=[(0,43)],pre:=fun _ a=>(Xaz a),f:=some fun _ a=>((X3Y a),((),()))}
def X2g.F(a0:U4q):Prop:=(eS [(4,.box 10 0)] [(4,.box 10 0)]∧((rI2 a0 a0 true ([]:List (Int×Int)))∧∀(y1:(U4q×(Bool×U5q))),(rI2 a0 y1.1 y1.2.1 y1.2.2)→(X00 (!(y1.1==[])) (True∧∀r2,(Eq r2 ((X4z (y1.1,y1.2.1)).1,((X4z (y1.1,y1.2.1)).2,())))→(True∧∀r3,(Eq r3 ((X4z (r2.2.1.1,r2.2.1.2)).1,((X4z (r2.2.1.1,r2.2.1.2)).2,())))→(X00 (!r3.2.1.2) (Eq ((([]:U5q),false),((),())) ((X3Y a0),((),()))) (True∧∀r4,(Eq r4 ((X31 1099511627776),((),())))→(X00 (decide (r2.1>r4.1)) (Eq ((([]:U5q),false),((),())) ((X3Y a0),((),()))) (X00 (decide (r3.1≥(2:Int))) (Eq ((([]:U5q),false),((),())) ((X3Y a0),((),()))) (X00 ((ln y1.2.2)==(8:Int)) (Eq ((([]:U5q),false),((),())) ((X3Y a0),((),()))) (X00 (decide ((ln y1.2.2)>(0:Int))) (0≤(wI ((ln y1.2.2) - (1:Int)))∧((wI ((ln y1.2.2) - (1:Int)))<(ln y1.2.2)∧(X00 (decide (((List.getD y1.2.2 (tN (wI ((ln y1.2.2) - (1:Int)))) (0,0)).1)≥r2.1)) (Eq ((([]:U5q),false),((),())) ((X3Y a0),((),()))) (List.length y1.2.2+List.length [(r2.1,r3.1)]≤9223372036854775807∧((List.length y1.2.2+List.length [(r2.1,r3.1)])*16≤140737488355328∧(eS [(4,.box 10 0)] [(4,.box 10 0)]∧(rI2 a0 r3.2.1.1 r3.2.1.2 (y1.2.2++[(r2.1,r3.1)]))∧(rM2 a0 r3.2.1.1 r3.2.1.2 (y1.2.2++[(r2.1,r3.1)]))<(rM2 a0 y1.1 y1.2.1 y1.2.2))))))) (List.length y1.2.2+List.length [(r2.1,r3.1)]≤9223372036854775807∧((List.length y1.2.2+List.length [(r2.1,r3.1)])*16≤140737488355328∧(eS [(4,.box 10 0)] [(4,.box 10 0)]∧(rI2 a0 r3.2.1.1 r3.2.1.2 (y1.2.2++[(r2.1,r3.1)]))∧(rM2 a0 r3.2.1.1 r3.2.1.2 (y1.2.2++[(r2.1,r3.1)]))<(rM2 a0 y1.1 y1.2.1 y1.2.2)))))))))))) (Eq ((y1.2.2,true),((),())) ((X3Y a0),((),()))))))
def X2g.L(a0:U4q):Nat→Option X0a:=fun p=>Go.Proofs.YtgmafgmjbaoomaaGreat.Bv.look p [(60,{kp:={hold:=[4],slots:=[5],boxes:=[10],rows:=[{bx:=false,s:=5,i:=0,k:=1000643,e:=43,hot:=true}]},T:=(.pair .str (.pair .bool X60)),I:=fun st y=>rI2 a0 y.1 y.2.1 y.2.2,μ:=fun st y=>rM2 a0 y.1 y.2.1 y.2.2})]
theorem X2g.pure(a0:U4q)(h:(Xaz a0))(hw:Wf X5T.A a0):X2g.F a0:=by
 delta X2g.F ln tN wI eS
 have hb:a0.length≤1048576:=h
 simp only[forall_eq,true_and,and_true,X03,Prod.mk.injEq,decide_eq_true_eq,decide_eq_false_iff_not,Bool.not_eq_true',Bool.not_eq_false',beq_iff_eq]
 refine⟨⟨rfl,Nat.le_refl _,by simp,a0.length,Nat.le_refl _,rfl⟩,?_⟩
 rintro⟨d,ok,out⟩ ⟨h1,hI⟩
 simp only at h1 hI ⊢
 subst h1
 have h2:=hI.1
 have h3:=hI.2.1
 have e1:IntKind.wrap .i64 ((out.length:Int) - 1)=(out.length:Int) - 1:=Go.IntWalk.i64_in _ (by omega)
 have e3:((out.length:Int) - 1).toNat=out.length - 1:=by omega
 rw[e1,e3]
 refine⟨fun hd0=>?_,fun hd=>r_end hI (by rw[hd];rfl)⟩
 have hd:¬d.length=0:=fun e=>by
  have:d=[]:=List.length_eq_zero_iff.1 e
  subst this;simp at hd0
 have b0:=X1V d
 have b1:=X1V (d.drop (X04 d).2.toNat)
 by_cases z0:(X04 d).2=0
 · have f0:X4z (d,true)=(0,(d,false)):=by simp[X4z,z0]
   have f1:X4z (d,false)=(0,(d,false)):=by simp[X4z]
   simp only[f0,f1]
   exact⟨fun _=>Xdy hI hd (by unfold XbK;rw[if_pos z0]),fun hh=>by cases hh⟩
 · have f0:X4z (d,true)=((X04 d).1,(d.drop (X04 d).2.toNat,true)):=by
    unfold X4z;rw[if_pos ⟨rfl,by show(X04 d).2>0;omega⟩]
   simp only[f0]
   by_cases z1:(X04 (d.drop (X04 d).2.toNat)).2=0
   · have f1:X4z (d.drop (X04 d).2.toNat,true)=(0,(d.drop (X04 d).2.toNat,false)):=by simp[X4z,z1]
     simp only[f1]
     exact⟨fun _=>Xdy hI hd (by unfold XbK;rw[if_neg z0,if_pos z1]),fun hh=>by cases hh⟩
   · have f1:X4z (d.drop (X04 d).2.toNat,true)=((X04 (d.drop (X04 d).2.toNat)).1,((d.drop (X04 d).2.toNat).drop (X04 (d.drop (X04 d).2.toNat)).2.toNat,true)):=by
      unfold X4z;rw[if_pos ⟨rfl,by show(X04 (d.drop (X04 d).2.toNat)).2>0;omega⟩]
     simp only[f1]
     have nn:((X04 d).1>X31 1099511627776∨(X04 (d.drop (X04 d).2.toNat)).1≥2∨(0<out.length∧(out.getD (out.length - 1) (0,0)).1≥(X04 d).1)∨8≤out.length)→XbK d out=none:=fun hc=>by
      unfold XbK;rw[if_neg z0,if_neg z1,if_pos hc]
     have yy:¬((X04 d).1>X31 1099511627776∨(X04 (d.drop (X04 d).2.toNat)).1≥2∨(0<out.length∧(out.getD (out.length - 1) (0,0)).1≥(X04 d).1)∨8≤out.length)→XbK d out=some ((d.drop (X04 d).2.toNat).drop (X04 (d.drop (X04 d).2.toNat)).2.toNat,((X04 d).1,(X04 (d.drop (X04 d).2.toNat)).1)):=fun hc=>by
      unfold XbK;rw[if_neg z0,if_neg z1,if_neg hc]
     have hl:((d.drop (X04 d).2.toNat).drop (X04 (d.drop (X04 d).2.toNat)).2.toNat).length<d.length:=by rw[List.length_drop,List.length_drop];omega
     refine⟨fun hh=>(by cases hh),fun _=>⟨fun c1=>Xdy hI hd (nn (.inl c1)),fun c1=>⟨fun c2=>Xdy hI hd (nn (.inr (.inl c2))),fun c2=>⟨fun c3=>Xdy hI hd (nn (.inr (.inr (.inr (by omega))))),fun c3=>?_⟩⟩⟩⟩
     have c3':out.length<8:=by simp at c3;omega
     refine⟨fun hp=>⟨by omega,by omega,fun c4=>Xdy hI hd (nn (.inr (.inr (.inl ⟨by omega,c4⟩)))),fun c4=>?_⟩,fun hp=>?_⟩
     · have:=Xmu hI hd (yy (by omega)) hl c3'
       exact⟨by simp;omega,by simp;omega,⟨rfl,this.1⟩,this.2⟩
     · have:=Xmu hI hd (yy (by omega)) hl c3'
       exact⟨by simp;omega,by simp;omega,⟨rfl,this.1⟩,this.2⟩
set_option maxRecDepth 100000 in
theorem X2g.eq:EqS X5T Tryz.f11 [24,4] [X2e.e,X1F.e] [] (fun i x=>X2g.L x) (fun i x=>X2g.F x):=by intro i x;kernel_rfl
theorem X2g.ok:X0o Tryz.prog 11 X5T:=X2u X2g.eq Tryz.func11 rfl (by kernel_rfl) fun i x h hi hw=>X2g.pure x h hw
def X2g.e:GE:=⟨11,X5T,⟨_,Tryz.func11,rfl,rfl⟩,X2g.ok⟩
end Go.Proofs.YtgmafgmjbaoomaaGreat.B
