/- Blocks:read. -/
import Derived.Test.YtcfaphojdacmbaaGreatRCReadB
import Derived.Test.YtcfaphojdacmbaaGreatRCBlk
set_option maxRecDepth 100000
set_option linter.unusedVariables false
set_option linter.unusedSimpArgs false
namespace Go.Proofs.YtcfaphojdacmbaaGreatR.B
open Go Go.Proofs.YtcfaphojdacmbaaGreatR.Bv
def be(l:List UInt8):Int:=l.foldl (fun n b=>n*256+(b.toNat:Int)) 0
theorem XiR(l:List UInt8)(b:UInt8):be (l++[b])=be l*256+(b.toNat:Int):=by simp[be]
theorem XrZ(w:Nat):∀(l:List UInt8),l.length=w→0≤be l∧be l<256 ^ w:=by
 induction w with
 | zero=>intro l hl;rw[List.length_eq_zero_iff.1 hl];decide
 | succ w ih=>
   intro l hl
   obtain⟨r,b,rfl⟩:∃r b,l=r++[b]:=by
    rcases List.eq_nil_or_concat l with h | ⟨r,b,h⟩
    · rw[h]at hl;simp at hl
    · exact⟨r,b,by rw[h,List.concat_eq_append]⟩
   have:=ih r (by simpa using hl)
   have hb:=b.toNat_lt
   rw[XiR,Int.pow_succ]
   generalize (256:Int) ^ w=p at*
   omega
theorem Xqa:∀(w n:Nat),n<256 ^ w→be (X2w (fx w n))=n
 | 0,n,h=>by have:n=0:=by omega
             subst this;rfl
 | w+1,n,h=>by
   have h1:n / 256<256 ^ w:=by rw[Nat.pow_succ]at h;omega
   rw[fx,XaY,show X2w [((n % 256:Nat):Int)]=[UInt8.ofNat (n % 256)] from rfl,XiR,Xqa w _ h1,UInt8.toNat_ofNat']
   omega
def X0r(s:List UInt8)(w:Int):Int×Bool:=if fIn w 1 7=true∧w≤(s.length:Int) then(be (s.take w.toNat),true) else(0,false)
def rfI(s:List UInt8)(w n i:Int):Prop:=0≤i∧i≤w∧1≤w∧w≤7∧w≤(s.length:Int)∧n=be (s.take i.toNat)
def rfM(s:List UInt8)(w n i:Int):Nat:=(w - i).toNat
theorem Xi4{i:Nat}(h:i≤6):(256:Int) ^ i≤281474976710656:=by
 have h1:i=0∨i=1∨i=2∨i=3∨i=4∨i=5∨i=6:=by omega
 rcases h1 with h | h | h | h | h | h | h<;>subst h<;>decide
theorem XmG{s:List UInt8}{w n i:Int}(h:rfI s w n i)(hi:i<w):(0≤n∧n<281474976710656)∧rfI s w (n*256+((s.getD i.toNat 0).toNat:Int)) (i+1):=by
 obtain⟨h1,h2,h3,h4,h5,h6⟩:=h
 have hb:=XrZ i.toNat (s.take i.toNat) (by rw[List.length_take];omega)
 have hp:=Xi4 (i:=i.toNat) (by omega)
 refine⟨by omega,by omega,by omega,h3,h4,h5,?_⟩
 rw[show(i+1).toNat=i.toNat+1 by omega,X8T (by omega),XiR,h6]
theorem or256{n:Int}{b:Nat}(h:0≤n)(h2:n<281474976710656)(hb:b<256):IntKind.wrap .i64 (BitVec.toNat (BitVec.ofInt (IntKind.bits .i64) (n*256)|||BitVec.ofInt (IntKind.bits .i64) (b:Int)))=n*256+b:=by
 obtain⟨k,rfl⟩:∃k:Nat,n=k:=⟨n.toNat,by omega⟩
 have e1:BitVec.ofInt (IntKind.bits .i64) (((k:Int))*256)=BitVec.ofNat 64 (k*256):=by
  show BitVec.ofInt 64 (((k:Int))*256)=_
  rw[show((k:Int)*256)=((k*256:Nat):Int) by omega,BitVec.ofInt_natCast]
 have e2:BitVec.ofInt (IntKind.bits .i64) (b:Int)=BitVec.ofNat 64 b:=BitVec.ofInt_natCast 64 b
 rw[e1,e2]
 have e3:(BitVec.ofNat 64 (k*256)|||BitVec.ofNat 64 b).toNat=k*256+b:=by
  rw[BitVec.toNat_or,BitVec.toNat_ofNat,BitVec.toNat_ofNat,Nat.mod_eq_of_lt (by omega),Nat.mod_eq_of_lt (by omega),Nat.mul_comm]
  exact(Nat.two_pow_add_eq_or_of_lt (i:=8) (by omega) k).symm
 show IntKind.wrap .i64 (((BitVec.ofNat 64 (k*256)|||BitVec.ofNat 64 b).toNat:Nat):Int)=_
 rw[e3,w64 (by omega) (by omega)];omega
def X5u:Con:={A:=Xli,shA:=[.one,.one],R:=(.pair (.int .i64) .bool),shR:=[(false,1),(false,1)],pre:=fun _ _=>True,f:=some fun _ a=>((X0r a.1 a.2),((),()))}
def X1i.F(a0:U5q)(a1:Int):Prop:=(True∧∀r1,(Eq r1 ((fIn a1 1 7),((),())))→(X00 (!r1.1) (Eq ((0,false),((),())) ((X0r a0 a1),((),()))) (X00 (decide ((ln a0)<a1)) (Eq ((0,false),((),())) ((X0r a0 a1),((),()))) (eS [(0,.val false [.str a0]),(1,.val false [.int .i64 a1])] [(0,.val false [.str a0]),(1,.val false [.int .i64 a1])]∧((rfI a0 a1 0 0)∧∀(y2:(Int×Int)),(rfI a0 a1 y2.1 y2.2)→(X00 (decide (y2.2<a1)) (0≤y2.2∧(y2.2<(ln a0)∧(eS [(0,.val false [.str a0]),(1,.val false [.int .i64 a1])] [(0,.val false [.str a0]),(1,.val false [.int .i64 a1])]∧(rfI a0 a1 (wI ((wI (y2.1*(256:Int)))+(wI ((UInt8.toNat (List.getD a0 (tN y2.2) 0):Nat):Int)))) (wI (y2.2+(1:Int))))∧(rfM a0 a1 (wI ((wI (y2.1*(256:Int)))+(wI ((UInt8.toNat (List.getD a0 (tN y2.2) 0):Nat):Int)))) (wI (y2.2+(1:Int))))<(rfM a0 a1 y2.1 y2.2)))) (Eq ((y2.1,true),((),())) ((X0r a0 a1),((),())))))))))
def X1i.L(a0:U5q)(a1:Int):Nat→Option X0d:=fun p=>Go.Proofs.YtcfaphojdacmbaaGreatR.Bv.look p [(122,{kp:={hold:=[0,1],slots:=[6,7],boxes:=[],rows:=[]},T:=T0q,I:=fun st y=>rfI a0 a1 y.1 y.2,μ:=fun st y=>rfM a0 a1 y.1 y.2})]
theorem X1i.pure(a0:U5q)(a1:Int)(h:True)(hw:Wf X5u.A (a0,a1)):X1i.F a0 a1:=by
 delta X1i.F ln tN wI eS
 simp only[Bs,B0,B1,Prod.mk.injEq,X01]
 refine⟨fun h1=>by simp[X0r,h1],fun h1=>⟨fun h2=>by unfold X0r;rw[if_neg (by omega)],fun h2=>?_⟩⟩
 have hw7:=X0C.1 h1
 refine⟨⟨by omega,by omega,by omega,by omega,by omega,rfl⟩,fun y hI=>?_⟩
 obtain⟨n,i⟩:=y
 simp only at hI ⊢
 have g1:=hI.1
 have g2:=hI.2.1
 have hx:=(a0.getD i.toNat 0).toNat_lt
 refine⟨fun hi=>?_,fun hi=>?_⟩
 · obtain⟨hn,step⟩:=XmG hI hi
   rw[w64 (x:=((a0.getD i.toNat 0).toNat:Int)) (by omega) (by omega),w64 (x:=n*256) (by omega) (by omega),w64 (x:=n*256+((a0.getD i.toNat 0).toNat:Int)) (by omega) (by omega),w64 (x:=i+1) (by omega) (by omega)]
   exact⟨by omega,by omega,step,by unfold rfM;omega⟩
 · have e:i=a1:=by omega
   unfold X0r
   rw[if_pos ⟨h1,by omega⟩,hI.2.2.2.2.2,e]
theorem X1i.eq:EqS X5u Tryz.f241 [3,4] [X2a.e] [] (fun i x=>X1i.L x.1 x.2) (fun i x=>X1i.F x.1 x.2):=by intro i x;kernel_rfl
theorem X1i.ok:X0l Tryz.prog 241 X5u:=X2b X1i.eq Tryz.func241 rfl (by kernel_rfl) fun i x h hi hw=>X1i.pure x.1 x.2 h hw
def X1i.e:GE:=⟨241,X5u,⟨_,Tryz.func241,rfl,rfl⟩,X1i.ok⟩
def X5H:Con:={A:=Xli,shA:=[.one,.one],R:=(.pair (.int .i64) .bool),shR:=[(false,1),(false,1)],pre:=fun _ _=>True,f:=some fun _ a=>((X0r a.1 a.2),((),()))}
def X1m.F(a0:U5q)(a1:Int):Prop:=(True∧∀r1,(Eq r1 ((fIn a1 1 7),((),())))→(X00 (!r1.1) (Eq ((0,false),((),())) ((X0r a0 a1),((),()))) (X00 (decide ((ln a0)<a1)) (Eq ((0,false),((),())) ((X0r a0 a1),((),()))) (eS [(0,.val false [.str a0]),(17,.val false [.int .i64 a1])] [(0,.val false [.str a0]),(17,.val false [.int .i64 a1])]∧((rfI a0 a1 0 0)∧∀(y2:(Int×Int)),(rfI a0 a1 y2.1 y2.2)→(X00 (decide (y2.2<a1)) (0≤(8:Int)∧(0≤y2.2∧(y2.2<(ln a0)∧(eS [(0,.val false [.str a0]),(17,.val false [.int .i64 a1])] [(0,.val false [.str a0]),(17,.val false [.int .i64 a1])]∧(rfI a0 a1 (IntKind.wrap .i64 (BitVec.toNat (BitVec.ofInt (IntKind.bits .i64) (wI (y2.1*2 ^ (min (tN (8:Int)) (IntKind.bits .i64))))|||BitVec.ofInt (IntKind.bits .i64) (wI ((UInt8.toNat (List.getD a0 (tN y2.2) 0):Nat):Int))))) (wI (y2.2+(1:Int))))∧(rfM a0 a1 (IntKind.wrap .i64 (BitVec.toNat (BitVec.ofInt (IntKind.bits .i64) (wI (y2.1*2 ^ (min (tN (8:Int)) (IntKind.bits .i64))))|||BitVec.ofInt (IntKind.bits .i64) (wI ((UInt8.toNat (List.getD a0 (tN y2.2) 0):Nat):Int))))) (wI (y2.2+(1:Int))))<(rfM a0 a1 y2.1 y2.2))))) (Eq ((y2.1,true),((),())) ((X0r a0 a1),((),())))))))))
def X1m.L(a0:U5q)(a1:Int):Nat→Option X0d:=fun p=>Go.Proofs.YtcfaphojdacmbaaGreatR.Bv.look p [(122,{kp:={hold:=[0,17],slots:=[6,18],boxes:=[],rows:=[]},T:=T0q,I:=fun st y=>rfI a0 a1 y.1 y.2,μ:=fun st y=>rfM a0 a1 y.1 y.2})]
theorem X1m.pure(a0:U5q)(a1:Int)(h:True)(hw:Wf X5H.A (a0,a1)):X1m.F a0 a1:=by
 delta X1m.F ln tN wI eS
 simp only[Bs,B0,B1,Prod.mk.injEq,X01]
 refine⟨fun h1=>by simp[X0r,h1],fun h1=>⟨fun h2=>by unfold X0r;rw[if_neg (by omega)],fun h2=>?_⟩⟩
 have hw7:=X0C.1 h1
 refine⟨⟨by omega,by omega,by omega,by omega,by omega,rfl⟩,fun y hI=>?_⟩
 obtain⟨n,i⟩:=y
 simp only at hI ⊢
 have g1:=hI.1
 have g2:=hI.2.1
 have hx:=(a0.getD i.toNat 0).toNat_lt
 refine⟨fun hi=>?_,fun hi=>?_⟩
 · obtain⟨hn,step⟩:=XmG hI hi
   rw[show(min (Int.toNat 8) (IntKind.bits .i64))=8 from rfl,show(2:Int) ^ 8=256 from rfl,w64 (x:=((a0.getD i.toNat 0).toNat:Int)) (by omega) (by omega),w64 (x:=n*256) (by omega) (by omega),or256 hn.1 hn.2 hx,w64 (x:=i+1) (by omega) (by omega)]
   exact⟨by omega,by omega,by omega,step,by unfold rfM;omega⟩
 · have e:i=a1:=by omega
   unfold X0r
   rw[if_pos ⟨h1,by omega⟩,hI.2.2.2.2.2,e]
theorem X1m.eq:EqS X5H Tryz.f137 [3,4] [X1H.e] [] (fun i x=>X1m.L x.1 x.2) (fun i x=>X1m.F x.1 x.2):=by intro i x;kernel_rfl
theorem X1m.ok:X0l Tryz.prog 137 X5H:=X2b X1m.eq Tryz.func137 rfl (by kernel_rfl) fun i x h hi hw=>X1m.pure x.1 x.2 h hw
def X1m.e:GE:=⟨137,X5H,⟨_,Tryz.func137,rfl,rfl⟩,X1m.ok⟩
def X0g(s:List UInt8):List UInt8×(Int×Int):=
 if (X0r s 4).2=false then([],0,1)
 else if fIn (X0r s 4).1 1 2000=false then([],0,2)
 else if (s.length:Int)<(X0r s 4).1+8 then([],0,1)
 else if X2O ((s.take ((X0r s 4).1+8).toNat).drop 8)=s.take ((X0r s 4).1+8).toNat then((s.take ((X0r s 4).1+8).toNat).drop 8,(X0r s 4).1+8,0)
 else([],0,2)
theorem Xo6{s:List UInt8}{w:Int}:0≤(X0r s w).1∧(X0r s w).1<72057594037927936:=by
 unfold X0r
 split
 · rename_i h
   have h1:=X0C.1 h.1
   have hb:=XrZ w.toNat (s.take w.toNat) (by rw[List.length_take];omega)
   have:(256:Int) ^ w.toNat≤72057594037927936:=by
    by_cases h7:w.toNat≤6
    · have:=Xi4 h7;omega
    · rw[show w.toNat=7 by omega];decide
   simp only;omega
 · simp
theorem XmO{n:Nat}(h:n≤2000):X0D n 4=X2w (fx 4 n):=by
 unfold X0D
 rw[if_pos ⟨by decide,by omega,by rw[show(4:Int).toNat=4 from rfl];omega⟩];rfl
theorem X90(l:List Int):(X2w l).length=l.length:=by simp[X2w]
theorem XeH(s:List UInt8):(X0D (Xdg s) 4).length=4:=by
 have:=Xcf s
 unfold X0D
 rw[if_pos ⟨by decide,by omega,by rw[show(4:Int).toNat=4 from rfl];omega⟩,X90,X9j];rfl
theorem Xh8{b:List UInt8}(h:1≤b.length∧b.length≤2000):(X2O b).length=b.length+8∧X0g (X2O b)=(b,((b.length:Int)+8,0)):=by
 have e:X2O b=X0D b.length 4++X0D (Xdg (X0D b.length 4++b)) 4++b:=by
  unfold X2O;rw[if_pos (X0C.2 (by omega))]
 have l1:(X0D b.length 4).length=4:=by rw[XmO h.2,X90,X9j]
 have l2:=XeH (X0D b.length 4++b)
 have hl:(X2O b).length=b.length+8:=by rw[e,List.length_append,List.length_append,l1,l2];omega
 have hr:X0r (X2O b) 4=((b.length:Int),true):=by
  unfold X0r
  rw[if_pos ⟨by decide,by omega⟩,e,List.append_assoc,show(4:Int).toNat=(X0D b.length 4).length from l1.symm,List.take_left,XmO h.2,Xqa 4 _ (by omega)]
 refine⟨hl,?_⟩
 have hb:(X2O b).drop 8=b:=by
  rw[e,show 8=(X0D b.length 4++X0D (Xdg (X0D b.length 4++b)) 4).length by rw[List.length_append,l1,l2],List.drop_left]
 unfold X0g
 rw[hr]
 simp only
 have e8:((b.length:Int)+8).toNat=(X2O b).length:=by rw[hl];omega
 rw[if_neg (by decide),if_neg (by rw[X0C.2 (by omega)];decide),if_neg (by omega),e8,List.take_length,hb,if_pos rfl]
theorem XaZ(s:List UInt8):X0g s=([],0,1)∨X0g s=([],0,2)∨((X0g s).2.2=0∧1≤(X0g s).1.length∧(X0g s).1.length≤2000∧(X0g s).2.1=(X0g s).1.length+8∧(X0g s).2.1≤s.length∧X2O (X0g s).1=s.take (X0g s).2.1.toNat):=by
 unfold X0g
 split
 · exact .inl rfl
 split
 · exact .inr (.inl rfl)
 split
 · exact .inl rfl
 split
 · rename_i h1 h2 h3 h4
   have h5:=X0C.1 (show fIn (X0r s 4).1 1 2000=true by cases e:fIn (X0r s 4).1 1 2000;exact absurd e h2;rfl)
   refine .inr (.inr ⟨rfl,?_,?_,?_,by simp only;omega,h4⟩)<;>simp only[List.length_drop,List.length_take]<;>omega
 · exact .inr (.inl rfl)
theorem Xd4(s:List UInt8):(X0g s).1.length≤2000:=by
 rcases XaZ s with h | h | h
 · rw[h];simp
 · rw[h];simp
 · exact h.2.2.1
def X74:Con:={A:=.str,shA:=[.one],R:=(.pair .str T0q),shR:=[(false,1),(false,1),(false,1)],pre:=fun _ _=>True,f:=some fun _ a=>((X0g a),((),()))}
def X3a.F(a0:U5q):Prop:=(True∧∀r1,(Eq r1 ((X0r a0 4),((),())))→(X00 (!r1.1.2) (Eq (([],(0,1)),((),())) ((X0g a0),((),()))) (X00 (r1.1.1==(0:Int)) (Eq (([],(0,2)),((),())) ((X0g a0),((),()))) (X00 (decide (r1.1.1>(2000:Int))) (Eq (([],(0,2)),((),())) ((X0g a0),((),()))) (X00 (decide ((ln a0)<(wI ((8:Int)+r1.1.1)))) (Eq (([],(0,1)),((),())) ((X0g a0),((),()))) (0≤(8:Int)∧((8:Int)≤(wI ((8:Int)+r1.1.1))∧((wI ((8:Int)+r1.1.1))≤(ln a0)∧(True∧∀r2,(Eq r2 ((X2O (List.drop (tN (8:Int)) (List.take (tN (wI ((8:Int)+r1.1.1))) a0))),((),())))→(0≤(wI ((8:Int)+r1.1.1))∧((wI ((8:Int)+r1.1.1))≤(ln a0)∧(X00 (!(r2.1==(List.take (tN (wI ((8:Int)+r1.1.1))) a0))) (Eq (([],(0,2)),((),())) ((X0g a0),((),()))) (Eq (((List.drop (tN (8:Int)) (List.take (tN (wI ((8:Int)+r1.1.1))) a0)),((wI ((8:Int)+r1.1.1)),0)),((),())) ((X0g a0),((),())))))))))))))))
theorem X3a.pure(a0:U5q)(h:True)(hw:Wf X74.A a0):X3a.F a0:=by
 delta X3a.F ln tN wI
 have hb:=Xo6 (s:=a0) (w:=4)
 simp only[Bs,B0,B1,Prod.mk.injEq,X01]
 repeat' (with_reducible (first | (refine And.intro ?_ ?_) | intro _))
 all_goals (try simp (disch:=omega) only[w64,wu8,tn0,tn1,tm1,tm2,List.length_append,List.length_cons,List.length_nil]at*)
 all_goals (try simp (disch:=omega) only[w64,wu8,tn0,tn1,tm1,tm2,List.length_append,List.length_cons,List.length_nil]at*)
 all_goals (try omega)
 all_goals (try grind[X0g,X0C])
theorem X3a.eq:EqS X74 Tryz.f198 [9,3,3] [X3J.e,X1i.e] [] noL (fun i x=>X3a.F x):=by intro i x;kernel_rfl
theorem X3a.ok:X0l Tryz.prog 198 X74:=X2b X3a.eq Tryz.func198 rfl (by kernel_rfl) fun i x h hi hw=>X3a.pure x h hw
def X3a.e:GE:=⟨198,X74,⟨_,Tryz.func198,rfl,rfl⟩,X3a.ok⟩
def X70:Con:={A:=.str,shA:=[.one],R:=(.pair .str T0q),shR:=[(false,1),(false,1),(false,1)],pre:=fun _ _=>True,f:=some fun _ a=>((X0g a),((),()))}
def X39.F(a0:U5q):Prop:=(True∧∀r1,(Eq r1 ((X0r a0 4),((),())))→(X00 (!r1.1.2) (Eq (([],(0,1)),((),())) ((X0g a0),((),()))) (True∧∀r2,(Eq r2 ((fIn r1.1.1 1 2000),((),())))→(X00 (!r2.1) (Eq (([],(0,2)),((),())) ((X0g a0),((),()))) (X00 (decide ((ln a0)<(wI (r1.1.1+(8:Int))))) (Eq (([],(0,1)),((),())) ((X0g a0),((),()))) (0≤(8:Int)∧((8:Int)≤(wI (r1.1.1+(8:Int)))∧((wI (r1.1.1+(8:Int)))≤(ln a0)∧(True∧∀r3,(Eq r3 ((X2O (List.drop (tN (8:Int)) (List.take (tN (wI (r1.1.1+(8:Int)))) a0))),((),())))→(0≤(wI (r1.1.1+(8:Int)))∧((wI (r1.1.1+(8:Int)))≤(ln a0)∧(X00 (!(r3.1==(List.take (tN (wI (r1.1.1+(8:Int)))) a0))) (Eq (([],(0,2)),((),())) ((X0g a0),((),()))) (Eq (((List.drop (tN (8:Int)) (List.take (tN (wI (r1.1.1+(8:Int)))) a0)),((wI (r1.1.1+(8:Int))),0)),((),())) ((X0g a0),((),())))))))))))))))
theorem X39.pure(a0:U5q)(h:True)(hw:Wf X70.A a0):X39.F a0:=by
 delta X39.F ln tN wI
 have hb:=Xo6 (s:=a0) (w:=4)
 simp only[Bs,B0,B1,Prod.mk.injEq,X01]
 repeat' (with_reducible (first | (refine And.intro ?_ ?_) | intro _))
 all_goals (try simp (disch:=omega) only[w64,wu8,tn0,tn1,tm1,tm2,List.length_append,List.length_cons,List.length_nil]at*)
 all_goals (try simp (disch:=omega) only[w64,wu8,tn0,tn1,tm1,tm2,List.length_append,List.length_cons,List.length_nil]at*)
 all_goals (try omega)
 all_goals (try grind[X0g,X0C])
theorem X39.eq:EqS X70 Tryz.f209 [9,3,3] [X1H.e,X1m.e,X3L.e] [] noL (fun i x=>X39.F x):=by intro i x;kernel_rfl
theorem X39.ok:X0l Tryz.prog 209 X70:=X2b X39.eq Tryz.func209 rfl (by kernel_rfl) fun i x h hi hw=>X39.pure x h hw
def X39.e:GE:=⟨209,X70,⟨_,Tryz.func209,rfl,rfl⟩,X39.ok⟩
theorem Xhn(l:List Pt)(i:Nat):(l.map (·.1)).getD i 0=(l.getD i (0,0)).1:=by
 simp only[List.getD_eq_getElem?_getD,List.getElem?_map];cases l[i]?<;>rfl
theorem Xne(l:List Pt)(i:Nat):(l.map (·.2)).getD i 0=(l.getD i (0,0)).2:=by
 simp only[List.getD_eq_getElem?_getD,List.getElem?_map];cases l[i]?<;>rfl
theorem Xgj{l:List Pt}:X0s l=true↔l.length≤60∧∀j,j<l.length→Xdi l j=true:=by
 simp only[X0s,Bool.and_eq_true,decide_eq_true_eq,XdF]
theorem Xkc{l:List Pt}{i:Nat}:Xdi l i=true↔X9Q (l.map (·.1)) i=true∧X7M (l.map (·.2)) i=true:=by
 simp only[Xdi,X9Q,X7M,Xhn,Xne,Bool.and_eq_true]
 exact⟨fun h=>⟨⟨h.1,h.2.2⟩,h.2.1⟩,fun h=>⟨h.1.1,h.2,h.1.2⟩⟩
theorem Xno{l:List Pt}:(X0s l=true∧l≠[])↔X94 (l.map (·.1))=true∧X9b (l.map (·.2))=true:=by
 rw[Xgj,X4q,X4R]
 simp only[List.length_map,Xkc]
 constructor
 · rintro⟨⟨h1,h2⟩,h3⟩
   have:=List.length_pos_iff.2 h3
   exact⟨⟨⟨by omega,h1⟩,fun j hj=>(h2 j hj).1⟩,⟨by omega,h1⟩,fun j hj=>(h2 j hj).2⟩
 · rintro⟨⟨h1,h2⟩,h3,h4⟩
   exact⟨⟨h1.2,fun j hj=>⟨h2 j hj,h4 j hj⟩⟩,List.length_pos_iff.1 (by omega)⟩
def X97(l:List Pt):List UInt8:=X1P l.length++X0m (l.map (·.1))++X0i (l.map (·.2))
def RB(s:List UInt8)(l:List Pt):Prop:=(X0s l=true∧l≠[])∧X2O (X97 l)=s
instance (s:List UInt8) (l:List Pt):Decidable (RB s l):=by unfold RB;infer_instance
def bN(s:List UInt8):Int:=(X0f (X0g s).1).1
def bA(s:List UInt8):Int:=(X0f (X0g s).1).2
def bT(s:List UInt8):List Int×Int:=X3e ((X0g s).1.drop (bA s).toNat) (bN s)
def bV(s:List UInt8):List Int×Int:=X3p ((X0g s).1.drop (bA s+(bT s).2).toNat) (bN s)
def bC(s:List UInt8):List Pt:=(bT s).1.zip (bV s).1
def X0Y(s:List UInt8):List Pt×Bool:=if RB s (bC s) then(bC s,true) else([],false)
theorem Xly{l:List Pt}(h:X0s l=true∧l≠[]):1≤(X97 l).length∧(X97 l).length≤2000:=by
 have h1:=X5d h.1
 have h2:=List.length_pos_iff.2 h.2
 have h3:=X7I (v:=(l.length:Int)) (by unfold X4s;omega)
 have h4:=X0w l.length
 have h5:=X6T (l.map (·.1))
 have h6:=X64 (l.map (·.2))
 simp only[X97,List.length_append];omega
structure RBf (s:List UInt8) (l:List Pt):Prop where
 h1:X0g s=(X97 l,((s.length:Int),0))
 h2:bN s=l.length
 h3:bA s=(X1P l.length).length
 h3':0<(X1P l.length).length
 h4:bT s=(l.map (·.1),((X0m (l.map (·.1))).length:Int))
 h4':0<(X0m (l.map (·.1))).length
 h5:bV s=(l.map (·.2),((X0i (l.map (·.2))).length:Int))
 h5':0<(X0i (l.map (·.2))).length
 h6:bC s=l
theorem XjZ:∀l:List Pt,(l.map (·.1)).zip (l.map (·.2))=l
 | []=>rfl
 | x::l=>by simp only[List.map_cons,List.zip_cons_cons];rw[XjZ l]
theorem RB.facts{s:List UInt8}{l:List Pt}(h:RB s l):RBf s l:=by
 obtain⟨h0,rfl⟩:=h
 have hb:=Xly h0
 obtain⟨hl,hu⟩:=Xh8 hb
 have h1:=X5d h0.1
 have h2:=List.length_pos_iff.2 h0.2
 have hv:X4s (l.length:Int):=by unfold X4s;omega
 have h3:=X7I hv
 obtain⟨k1,k2⟩:=Xno.1 h0
 have q1:X0g (X2O (X97 l))=(X97 l,(((X2O (X97 l)).length:Int),0)):=by rw[hu,hl];rfl
 have qv:X0f (X97 l)=((l.length:Int),((X1P l.length).length:Int)):=by
  unfold X97;rw[List.append_assoc];exact Xko hv _
 have q2:bN (X2O (X97 l))=l.length:=by unfold bN;rw[q1,qv]
 have q3:bA (X2O (X97 l))=(X1P l.length).length:=by unfold bA;rw[q1,qv]
 have e1:(X97 l).drop (X1P l.length).length=X0m (l.map (·.1))++X0i (l.map (·.2)):=by
  unfold X97;rw[List.append_assoc,List.drop_left]
 have rt:RT (X0m (l.map (·.1))++X0i (l.map (·.2))) l.length (l.map (·.1)):=⟨by simp,k1,by rw[←X79 k1,List.take_left]⟩
 have q4:bT (X2O (X97 l))=(l.map (·.1),((X0m (l.map (·.1))).length:Int)):=by
  unfold bT;rw[q1,q2,q3,Int.toNat_natCast,e1,XbJ rt,X79 k1]
 have e2:(X97 l).drop ((X1P l.length).length+(X0m (l.map (·.1))).length)=X0i (l.map (·.2)):=by
  rw[←List.drop_drop,e1,List.drop_left]
 have rv:RV (X0i (l.map (·.2))) l.length (l.map (·.2)):=⟨by simp,k2,by rw[←X7b k2,List.take_length]⟩
 have q5:bV (X2O (X97 l))=(l.map (·.2),((X0i (l.map (·.2))).length:Int)):=by
  unfold bV;rw[q1,q2,q3,q4]
  simp only
  rw[show(((X1P l.length).length:Int)+((X0m (l.map (·.1))).length:Int)).toNat=(X1P l.length).length+(X0m (l.map (·.1))).length by omega,e2,XbQ rv,X7b k2]
 have m1:(l.map (·.1)).length=l.length:=by simp
 have m2:(l.map (·.2)).length=l.length:=by simp
 exact⟨q1,q2,q3,h3,q4,by rw[X79 k1];exact Xbk (XaW _ k1 0 (by omega)) _ (by omega),q5,by rw[X7b k2];exact Xbk (XbG _ k2 0 (by omega)) _ (by omega),by unfold bC;rw[q4,q5];exact XjZ l⟩
theorem XdP{s:List UInt8}{l:List Pt}(h:RB s l):(l,true)=X0Y s:=by
 unfold X0Y;rw[h.facts.h6,if_pos h]
theorem X77{s:List UInt8}(h:∀l,¬RB s l):([],false)=X0Y s:=by
 unfold X0Y;rw[if_neg (h _)]
theorem RB.show{s:List UInt8}{l:List Pt}(h:RB s l):X04 l=s:=by
 unfold X04;rw[if_pos h.1];exact h.2
theorem RB_of{s:List UInt8}{l:List Pt}(h:X04 l=s)(h2:s≠[]):RB s l:=by
 unfold X04 at h
 split at h
 · rename_i h3;exact⟨h3,h⟩
 · exact absurd h.symm h2
theorem Xh2(s:List UInt8)(n:Int):0≤(X3e s n).2∧(X3e s n).2≤s.length∧((X3e s n).2=0→(X3e s n).1=[])∧((X3e s n).2≠0→RT s n (X3e s n).1):=by
 rcases XdM s n with⟨e,_⟩ | ⟨l,hl,e⟩
 · rw[e];simp
 · have h:=hl.2.2
   have h2:=congrArg List.length h
   rw[List.length_take]at h2
   have h1:=(X4q.1 hl.2.1).1
   have hp:=Xbk (XaW l hl.2.1 0 (by omega)) l.length (by omega)
   rw[e];simp only
   exact⟨by omega,by omega,fun h=>by omega,fun _=>hl⟩
theorem Xgm(s:List UInt8)(n:Int):0≤(X3p s n).2∧(X3p s n).2≤s.length∧((X3p s n).2=0→(X3p s n).1=[])∧((X3p s n).2≠0→RV s n (X3p s n).1):=by
 rcases XeK s n with⟨e,_⟩ | ⟨l,hl,e⟩
 · rw[e];simp
 · have h:=hl.2.2
   have h2:=congrArg List.length h
   rw[List.length_take]at h2
   have h1:=(X4R.1 hl.2.1).1
   have hp:=Xbk (XbG l hl.2.1 0 (by omega)) l.length (by omega)
   rw[e];simp only
   exact⟨by omega,by omega,fun h=>by omega,fun _=>hl⟩
theorem XmQ(s:List UInt8)(n:Int):(X3e s n).1.length≤60:=by
 rcases XdM s n with⟨e,_⟩ | ⟨l,hl,e⟩
 · rw[e];simp
 · rw[e];exact(X4q.1 hl.2.1).1.2
theorem Xlw(s:List UInt8)(n:Int):(X3p s n).1.length≤60:=by
 rcases XeK s n with⟨e,_⟩ | ⟨l,hl,e⟩
 · rw[e];simp
 · rw[e];exact(X4R.1 hl.2.1).1.2
theorem Xnt{s:List UInt8}(h1:bA s≠0)(h2:(X0g s).2.1=s.length)(h3:(bT s).2≠0)(h4:(bV s).2≠0)(h5:bA s+(bT s).2+(bV s).2=(X0g s).1.length):RB s (bC s)∧((bC s).length:Int)=bN s∧((bT s).1.length:Int)=bN s∧((bV s).1.length:Int)=bN s:=by
 have hu:X2O (X0g s).1=s:=by
  rcases XaZ s with h | h | h
  · exfalso;apply h1;unfold bA;rw[h];rfl
  · exfalso;apply h1;unfold bA;rw[h];rfl
  · rw[h.2.2.2.2.2,h2,Int.toNat_natCast,List.take_length]
 obtain⟨v1,v2⟩:=XmV (s:=(X0g s).1) h1
 have vb:=X35 (X0g s).1
 have rt:RT ((X0g s).1.drop (bA s).toNat) (bN s) (bT s).1:=(Xh2 ((X0g s).1.drop (bA s).toNat) (bN s)).2.2.2 h3
 have rv:RV ((X0g s).1.drop (bA s+(bT s).2).toNat) (bN s) (bV s).1:=(Xgm ((X0g s).1.drop (bA s+(bT s).2).toNat) (bN s)).2.2.2 h4
 have t1:=rt.1
 have t2:=rv.1
 have z1:((bC s).length:Int)=bN s:=by
  unfold bC;rw[List.length_zip]
  change ((min (bT s).1.length (bV s).1.length:Nat):Int)=bN s
  have e1:((bT s).1.length:Int)=bN s:=t1
  have e2:((bV s).1.length:Int)=bN s:=t2
  omega
 have eT:(bC s).map (·.1)=(bT s).1:=by
  unfold bC
  exact List.map_fst_zip (by have e1:((bT s).1.length:Int)=bN s:=t1;have e2:((bV s).1.length:Int)=bN s:=t2;omega)
 have eV:(bC s).map (·.2)=(bV s).1:=by
  unfold bC
  exact List.map_snd_zip (by have e1:((bT s).1.length:Int)=bN s:=t1;have e2:((bV s).1.length:Int)=bN s:=t2;omega)
 refine⟨⟨Xno.2 ⟨by rw[eT];exact rt.2.1,by rw[eV];exact rv.2.1⟩,?_⟩,z1,t1,t2⟩
 have kT:(bT s).2=((X0m (bT s).1).length:Int):=by
  rw[X79 rt.2.1];have:=XbJ rt;exact congrArg Prod.snd this
 have kV:(bV s).2=((X0i (bV s).1).length:Int):=by
  rw[X7b rv.2.1];have:=XbQ rv;exact congrArg Prod.snd this
 have gT:((X0g s).1.drop (bA s).toNat).take (bT s).2.toNat=X0m (bT s).1:=by
  rw[kT,Int.toNat_natCast,X79 rt.2.1];exact rt.2.2
 have gV:((X0g s).1.drop (bA s+(bT s).2).toNat).take (bV s).2.toNat=X0i (bV s).1:=by
  rw[kV,Int.toNat_natCast,X7b rv.2.1];exact rv.2.2
 have e:X97 (bC s)=(X0g s).1:=by
  unfold X97
  rw[z1,eT,eV]
  have gN:X1P (bN s)=(X0g s).1.take (bA s).toNat:=v1.symm
  have b1:0≤bA s:=vb.2.2.1
  rw[gN,←gT,←gV,show(bA s+(bT s).2).toNat=(bA s).toNat+(bT s).2.toNat by omega,←List.take_add,←List.take_add,List.take_of_length_le (by omega)]
 rw[e,hu]
def rbI(s:List UInt8)(i:Int)(out:List Pt):Prop:=0≤i∧i≤(bC s).length∧(out.length:Int)=i∧out=(bC s).take i.toNat
def rbM(s:List UInt8)(i:Int)(out:List Pt):Nat:=((bC s).length - i).toNat
theorem XrU{s:List UInt8}{i:Nat}(h:i<(bC s).length):(bC s).getD i (0,0)=((bT s).1.getD i 0,(bV s).1.getD i 0):=by
 unfold bC at h ⊢
 have h':=h
 rw[List.length_zip]at h
 simp only[List.getD_eq_getElem?_getD]
 rw[List.getElem?_eq_getElem h',List.getElem?_eq_getElem (show i<(bT s).1.length by omega),List.getElem?_eq_getElem (show i<(bV s).1.length by omega)]
 simp
theorem Xl5{l:List Pt}{i:Nat}(hi:i<l.length):l.take (i+1)=l.take i++[l.getD i (0,0)]:=by
 rw[List.take_add_one,List.getD_eq_getElem?_getD,List.getElem?_eq_getElem hi];rfl
theorem Xm0{s:List UInt8}{i:Int}{out:List Pt}(h:rbI s i out)(hi:i<(bC s).length):rbI s (i+1) (out++[((bT s).1.getD i.toNat 0,(bV s).1.getD i.toNat 0)]):=by
 obtain⟨h1,h2,h3,h4⟩:=h
 refine⟨by omega,by omega,by simp;omega,?_⟩
 rw[show(i+1).toNat=i.toNat+1 by omega,Xl5 (by omega),XrU (by omega),h4]
theorem XlG{s:List UInt8}{i:Int}{out:List Pt}(h:rbI s i out)(hi:¬i<(bC s).length):out=bC s:=by
 obtain⟨h1,h2,h3,h4⟩:=h
 rw[h4,List.take_of_length_le (by omega)]
def X5E:Con:={A:=.str,shA:=[.one],R:=(.pair X9z .bool),shR:=[(false,1),(false,1)],fresh:=[(0,85)],pre:=fun _ _=>True,f:=some fun _ a=>((X0Y a),((),()))}
def X1x.F(a0:U5q):Prop:=(True∧∀r1,(Eq r1 ((X0g a0),((),())))→(True∧∀r2,(Eq r2 ((X0f r1.1.1),((),())))→(X00 (r2.1.2==(0:Int)) (Eq ((([]:U6q),false),((),())) ((X0Y a0),((),()))) (X00 (r1.1.2.1 !=(ln a0)) (Eq ((([]:U6q),false),((),())) ((X0Y a0),((),()))) (0≤r2.1.2∧(r2.1.2≤(ln r1.1.1)∧((pRd (List.drop (tN r2.1.2) r1.1.1) r2.1.1)∧∀r3,(Eq r3 ((X3e (List.drop (tN r2.1.2) r1.1.1) r2.1.1),((),())))→(X00 (r3.1.2==(0:Int)) (Eq ((([]:U6q),false),((),())) ((X0Y a0),((),()))) (0≤(wI (r2.1.2+r3.1.2))∧((wI (r2.1.2+r3.1.2))≤(ln r1.1.1)∧((pRd (List.drop (tN (wI (r2.1.2+r3.1.2))) r1.1.1) r2.1.1)∧∀r4,(Eq r4 ((X3p (List.drop (tN (wI (r2.1.2+r3.1.2))) r1.1.1) r2.1.1),((),())))→(X00 (r4.1.2==(0:Int)) (Eq ((([]:U6q),false),((),())) ((X0Y a0),((),()))) (X00 ((wI ((wI (r2.1.2+r3.1.2))+r4.1.2))!=(ln r1.1.1)) (Eq ((([]:U6q),false),((),())) ((X0Y a0),((),()))) (eS [(8,.val false [.int .i64 r2.1.1]),(10,.val false [.lst (.int .i64) r3.1.1 none]),(12,.val false [.lst (.int .i64) r4.1.1 none])] [(8,.val false [.int .i64 r2.1.1]),(10,.val false [.lst (.int .i64) r3.1.1 none]),(12,.val false [.lst (.int .i64) r4.1.1 none])]∧((rbI a0 0 ([]:List (Int×Int)))∧∀(y5:(Int×U6q)),(rbI a0 y5.1 y5.2)→(X00 (decide (y5.1<r2.1.1)) (0≤y5.1∧(y5.1<(ln r3.1.1)∧(0≤y5.1∧(y5.1<(ln r4.1.1)∧(List.length y5.2+List.length [((List.getD r3.1.1 (tN y5.1) 0),(List.getD r4.1.1 (tN y5.1) 0))]≤9223372036854775807∧((List.length y5.2+List.length [((List.getD r3.1.1 (tN y5.1) 0),(List.getD r4.1.1 (tN y5.1) 0))])*16≤140737488355328∧(eS [(8,.val false [.int .i64 r2.1.1]),(10,.val false [.lst (.int .i64) r3.1.1 none]),(12,.val false [.lst (.int .i64) r4.1.1 none])] [(8,.val false [.int .i64 r2.1.1]),(10,.val false [.lst (.int .i64) r3.1.1 none]),(12,.val false [.lst (.int .i64) r4.1.1 none])]∧(rbI a0 (wI (y5.1+(1:Int))) (y5.2++[((List.getD r3.1.1 (tN y5.1) 0),(List.getD r4.1.1 (tN y5.1) 0))]))∧(rbM a0 (wI (y5.1+(1:Int))) (y5.2++[((List.getD r3.1.1 (tN y5.1) 0),(List.getD r4.1.1 (tN y5.1) 0))]))<(rbM a0 y5.1 y5.2)))))))) (Eq ((y5.2,true),((),())) ((X0Y a0),((),())))))))))))))))))))
def X1x.L(a0:U5q):Nat→Option X0d:=fun p=>Go.Proofs.YtcfaphojdacmbaaGreatR.Bv.look p [(16378,{kp:={hold:=[8,10,12],slots:=[14,15],boxes:=[],rows:=[{bx:=false,s:=14,i:=0,k:=1001795,e:=85,hot:=true}]},T:=Xlq,I:=fun st y=>rbI a0 y.1 y.2,μ:=fun st y=>rbM a0 y.1 y.2})]
theorem X1x.pure(a0:U5q)(h:True)(hw:Wf X5E.A a0):X1x.F a0:=by
 delta X1x.F ln tN wI eS
 simp only[Bs,B0,B1,Prod.mk.injEq,X01]
 have u1:=Xd4 a0
 have vb:=X35 (X0g a0).1
 have tb:=Xh2 ((X0g a0).1.drop (bA a0).toNat) (bN a0)
 have wb:=Xgm ((X0g a0).1.drop (bA a0+(bT a0).2).toNat) (bN a0)
 rw[List.length_drop]at tb wb
 change 0≤(bT a0).2∧(bT a0).2≤_∧((bT a0).2=0→(bT a0).1=[])∧((bT a0).2≠0→RT _ _ (bT a0).1) at tb
 change 0≤(bV a0).2∧(bV a0).2≤_∧((bV a0).2=0→(bV a0).1=[])∧((bV a0).2≠0→RV _ _ (bV a0).1) at wb
 have eN:(X0f (X0g a0).1).1=bN a0:=rfl
 have eA:(X0f (X0g a0).1).2=bA a0:=rfl
 rw[eN,eA]at vb
 simp only[eN,eA]
 have eT:X3e ((X0g a0).1.drop (bA a0).toNat) (bN a0)=bT a0:=rfl
 rw[eT,w64 (x:=bA a0+(bT a0).2) (by omega) (by omega)]
 have eV:X3p ((X0g a0).1.drop (bA a0+(bT a0).2).toNat) (bN a0)=bV a0:=rfl
 rw[eV]
 rw[w64 (x:=bA a0+(bT a0).2+(bV a0).2) (by omega) (by omega)]
 refine⟨fun h1=>X77 fun l hl=>?_,fun h1=>⟨fun h2=>X77 fun l hl=>?_,fun h2=>⟨by omega,by omega,by unfold pRd;rw[List.length_drop];omega,fun h3=>X77 fun l hl=>?_,fun h3=>⟨by omega,by omega,by unfold pRd;rw[List.length_drop];omega,fun h4=>X77 fun l hl=>?_,fun h4=>⟨fun h5=>X77 fun l hl=>?_,fun h5=>?_⟩⟩⟩⟩⟩
 · have f:=hl.facts;have:=f.h3;have:=f.h3';omega
 · have:=hl.facts.h1;rw[this]at h2;exact h2 rfl
 · have f:=hl.facts;have h6:=f.h4;have:=f.h4';rw[h6]at h3;simp only at h3;omega
 · have f:=hl.facts;have h6:=f.h5;have:=f.h5';rw[h6]at h4;simp only at h4;omega
 · have f:=hl.facts
   rw[f.h1,f.h3,f.h4,f.h5]at h5
   simp only[X97,List.length_append]at h5
   omega
 · obtain⟨hR,z1,z2,z3⟩:=Xnt h1 h2 h3 h4 h5
   have h60:=X5d hR.1.1
   refine⟨⟨by omega,by omega,rfl,by simp⟩,fun y hI=>?_⟩
   obtain⟨i,out⟩:=y
   simp only at hI ⊢
   have g1:=hI.1
   have g2:=hI.2.1
   have g3:=hI.2.2.1
   refine⟨fun hi=>?_,fun hi=>?_⟩
   · rw[w64 (x:=i+1) (by omega) (by omega)]
     exact⟨by omega,by omega,by omega,by omega,by omega,by omega,Xm0 hI (by omega),by unfold rbM;omega⟩
   · rw[XlG hI (by omega)];exact XdP hR
theorem X1x.eq:EqS X5E Tryz.f123 [64,4] [X3a.e,X1W.e,X1F.e,X18.e] [] (fun i x=>X1x.L x) (fun i x=>X1x.F x):=by intro i x;kernel_rfl
theorem X1x.ok:X0l Tryz.prog 123 X5E:=X2b X1x.eq Tryz.func123 rfl (by kernel_rfl) fun i x h hi hw=>X1x.pure x h hw
def X1x.e:GE:=⟨123,X5E,⟨_,Tryz.func123,rfl,rfl⟩,X1x.ok⟩
def X5D:Con:={A:=.str,shA:=[.one],R:=(.pair X9z .bool),shR:=[(false,1),(false,1)],fresh:=[(0,85)],pre:=fun _ _=>True,f:=some fun _ a=>((X0Y a),((),()))}
def X1D.F(a0:U5q):Prop:=(True∧∀r1,(Eq r1 ((X0g a0),((),())))→(True∧∀r2,(Eq r2 ((X0f r1.1.1),((),())))→(X00 (r1.1.2.2 !=(0:Int)) (Eq ((([]:U6q),false),((),())) ((X0Y a0),((),()))) (X00 (r2.1.2==(0:Int)) (Eq ((([]:U6q),false),((),())) ((X0Y a0),((),()))) (0≤r2.1.2∧(r2.1.2≤(ln r1.1.1)∧(True∧∀r3,(Eq r3 ((X3e (List.drop (tN r2.1.2) r1.1.1) r2.1.1),((),())))→(0≤(wI (r2.1.2+r3.1.2))∧((wI (r2.1.2+r3.1.2))≤(ln r1.1.1)∧(True∧∀r4,(Eq r4 ((X3p (List.drop (tN (wI (r2.1.2+r3.1.2))) r1.1.1) r2.1.1),((),())))→(X00 ((ln r3.1.1)!=r2.1.1) (Eq ((([]:U6q),false),((),())) ((X0Y a0),((),()))) (X00 ((ln r4.1.1)!=r2.1.1) (Eq ((([]:U6q),false),((),())) ((X0Y a0),((),()))) (eS [(0,.val false [.str a0]),(11,.val false [.lst (.int .i64) r4.1.1 none]),(62,.val false [.lst (.int .i64) r3.1.1 none]),(63,.val false [.int .i64 (ln r3.1.1)])] [(0,.val false [.str a0]),(11,.val false [.lst (.int .i64) r4.1.1 none]),(62,.val false [.lst (.int .i64) r3.1.1 none]),(63,.val false [.int .i64 (ln r3.1.1)])]∧((rbI a0 0 ([]:List (Int×Int)))∧∀(y5:(Int×U6q)),(rbI a0 y5.1 y5.2)→(X00 (decide (y5.1<(ln r3.1.1))) (0≤y5.1∧(y5.1<(ln r3.1.1)∧(0≤y5.1∧(y5.1<(ln r4.1.1)∧(List.length y5.2+List.length [((List.getD r3.1.1 (tN y5.1) 0),(List.getD r4.1.1 (tN y5.1) 0))]≤9223372036854775807∧((List.length y5.2+List.length [((List.getD r3.1.1 (tN y5.1) 0),(List.getD r4.1.1 (tN y5.1) 0))])*16≤140737488355328∧(eS [(0,.val false [.str a0]),(11,.val false [.lst (.int .i64) r4.1.1 none]),(62,.val false [.lst (.int .i64) r3.1.1 none]),(63,.val false [.int .i64 (ln r3.1.1)])] [(0,.val false [.str a0]),(11,.val false [.lst (.int .i64) r4.1.1 none]),(62,.val false [.lst (.int .i64) r3.1.1 none]),(63,.val false [.int .i64 (ln r3.1.1)])]∧(rbI a0 (wI (y5.1+(1:Int))) (y5.2++[((List.getD r3.1.1 (tN y5.1) 0),(List.getD r4.1.1 (tN y5.1) 0))]))∧(rbM a0 (wI (y5.1+(1:Int))) (y5.2++[((List.getD r3.1.1 (tN y5.1) 0),(List.getD r4.1.1 (tN y5.1) 0))]))<(rbM a0 y5.1 y5.2)))))))) (True∧∀r6,(Eq r6 ((X04 y5.2),((),())))→(X00 (!(r6.1==a0)) (Eq ((([]:U6q),false),((),())) ((X0Y a0),((),()))) (Eq ((y5.2,true),((),())) ((X0Y a0),((),()))))))))))))))))))))
def X1D.L(a0:U5q):Nat→Option X0d:=fun p=>Go.Proofs.YtcfaphojdacmbaaGreatR.Bv.look p [(4090,{kp:={hold:=[0,11,62,63],slots:=[13,64],boxes:=[],rows:=[{bx:=false,s:=13,i:=0,k:=1001667,e:=85,hot:=true}]},T:=Xlq,I:=fun st y=>rbI a0 y.1 y.2,μ:=fun st y=>rbM a0 y.1 y.2})]
theorem X1D.pure(a0:U5q)(h:True)(hw:Wf X5D.A a0):X1D.F a0:=by
 delta X1D.F ln tN wI eS
 simp only[Bs,B0,B1,Prod.mk.injEq,X01]
 have u1:=Xd4 a0
 have vb:=X35 (X0g a0).1
 have tb:=Xh2 ((X0g a0).1.drop (bA a0).toNat) (bN a0)
 have wb:=Xgm ((X0g a0).1.drop (bA a0+(bT a0).2).toNat) (bN a0)
 rw[List.length_drop]at tb wb
 change 0≤(bT a0).2∧(bT a0).2≤_∧((bT a0).2=0→(bT a0).1=[])∧((bT a0).2≠0→RT _ _ (bT a0).1) at tb
 change 0≤(bV a0).2∧(bV a0).2≤_∧((bV a0).2=0→(bV a0).1=[])∧((bV a0).2≠0→RV _ _ (bV a0).1) at wb
 have eN:(X0f (X0g a0).1).1=bN a0:=rfl
 have eA:(X0f (X0g a0).1).2=bA a0:=rfl
 rw[eN,eA]at vb
 simp only[eN,eA]
 have eT:X3e ((X0g a0).1.drop (bA a0).toNat) (bN a0)=bT a0:=rfl
 rw[eT,w64 (x:=bA a0+(bT a0).2) (by omega) (by omega)]
 have eV:X3p ((X0g a0).1.drop (bA a0+(bT a0).2).toNat) (bN a0)=bV a0:=rfl
 rw[eV]
 have tl:(bT a0).1.length≤60:=XmQ _ _
 have wl:(bV a0).1.length≤60:=Xlw _ _
 refine⟨fun h1=>X77 fun l hl=>?_,fun h1=>⟨fun h2=>X77 fun l hl=>?_,fun h2=>⟨by omega,by omega,by omega,by omega,fun h3=>X77 fun l hl=>?_,fun h3=>⟨fun h4=>X77 fun l hl=>?_,fun h4=>?_⟩⟩⟩⟩
 · have:=hl.facts.h1;rw[this]at h1;exact h1 rfl
 · have f:=hl.facts;have:=f.h3;have:=f.h3';omega
 · have f:=hl.facts;rw[f.h4,f.h2]at h3;exact h3 (by simp)
 · have f:=hl.facts;rw[f.h5,f.h2]at h4;exact h4 (by simp)
 · have zl:(bC a0).length=(bT a0).1.length:=by unfold bC;rw[List.length_zip];omega
   refine⟨⟨by omega,by omega,rfl,by simp⟩,fun y hI=>?_⟩
   obtain⟨i,out⟩:=y
   simp only at hI ⊢
   have g1:=hI.1
   have g2:=hI.2.1
   have g3:=hI.2.2.1
   refine⟨fun hi=>?_,fun hi=>?_⟩
   · rw[w64 (x:=i+1) (by omega) (by omega)]
     exact⟨by omega,by omega,by omega,by omega,by omega,by omega,Xm0 hI (by omega),by unfold rbM;omega⟩
   · have e:=XlG hI (by omega)
     have hs:a0≠[]:=fun h=>by
      subst h
      have:X0g ([]:List UInt8)=([],0,1):=rfl
      rw[this]at h1;exact absurd h1 (by decide)
     refine⟨fun h5=>X77 fun l hl=>h5 ?_,fun h5=>XdP (RB_of h5 hs)⟩
     rw[e,hl.facts.h6];exact hl.show
theorem X1D.eq:EqS X5D Tryz.f138 [64,4] [X28.e,X1l.e,X39.e,X1A.e,X1c.e] [] (fun i x=>X1D.L x) (fun i x=>X1D.F x):=by intro i x;kernel_rfl
theorem X1D.ok:X0l Tryz.prog 138 X5D:=X2b X1D.eq Tryz.func138 rfl (by kernel_rfl) fun i x h hi hw=>X1D.pure x h hw
def X1D.e:GE:=⟨138,X5D,⟨_,Tryz.func138,rfl,rfl⟩,X1D.ok⟩
end Go.Proofs.YtcfaphojdacmbaaGreatR.B
