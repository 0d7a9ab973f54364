/- Blocks:read. -/
import Derived.Test.YtgmafgmjbaoomaaGreatCReadB
import Derived.Test.YtgmafgmjbaoomaaGreatCBlk
set_option maxRecDepth 100000
set_option linter.unusedVariables false
set_option linter.unusedSimpArgs false
namespace Go.Proofs.YtgmafgmjbaoomaaGreat.B
open Go Go.Proofs.YtgmafgmjbaoomaaGreat.Bv
def be(l:List UInt8):Int:=l.foldl (fun n b=>n*256+(b.toNat:Int)) 0
theorem Xgh(l:List UInt8)(b:UInt8):be (l++[b])=be l*256+(b.toNat:Int):=by simp[be]
theorem XoO(w:Nat):∀(l:List UInt8),l.length=w→0≤be l∧be l<256 ^ w:=by
 induction w with
 | zero=>intro l hl;rw[List.length_eq_zero_iff.1 hl];decide
 | succ w ih=>
   intro l hl
   obtain⟨r,b,rfl⟩:∃r b,l=r++[b]:=by
    rcases List.eq_nil_or_concat l with h | ⟨r,b,h⟩
    · rw[h]at hl;simp at hl
    · exact⟨r,b,by rw[h,List.concat_eq_append]⟩
   have:=ih r (by simpa using hl)
   have hb:=b.toNat_lt
   rw[Xgh,Int.pow_succ]
   generalize (256:Int) ^ w=p at*
   omega
theorem Xn6:∀(w n:Nat),n<256 ^ w→be (X1Q (fx w n))=n
 | 0,n,h=>by have:n=0:=by omega
             subst this;rfl
 | w+1,n,h=>by
   have h1:n / 256<256 ^ w:=by rw[Nat.pow_succ]at h;omega
   rw[fx,X90,show X1Q [((n % 256:Nat):Int)]=[UInt8.ofNat (n % 256)] from rfl,Xgh,Xn6 w _ h1,UInt8.toNat_ofNat']
   omega
def X0q(s:List UInt8)(w:Int):Int×Bool:=if fIn w 1 7=true∧w≤(s.length:Int) then(be (s.take w.toNat),true) else(0,false)
def rfI(s:List UInt8)(w n i:Int):Prop:=0≤i∧i≤w∧1≤w∧w≤7∧w≤(s.length:Int)∧n=be (s.take i.toNat)
def rfM(s:List UInt8)(w n i:Int):Nat:=(w - i).toNat
theorem XeL{i:Nat}(h:i≤6):(256:Int) ^ i≤281474976710656:=by
 have h1:i=0∨i=1∨i=2∨i=3∨i=4∨i=5∨i=6:=by omega
 rcases h1 with h | h | h | h | h | h | h<;>subst h<;>decide
theorem XiS{s:List UInt8}{w n i:Int}(h:rfI s w n i)(hi:i<w):(0≤n∧n<281474976710656)∧rfI s w (n*256+((s.getD i.toNat 0).toNat:Int)) (i+1):=by
 obtain⟨h1,h2,h3,h4,h5,h6⟩:=h
 have hb:=XoO i.toNat (s.take i.toNat) (by rw[List.length_take];omega)
 have hp:=XeL (i:=i.toNat) (by omega)
 refine⟨by omega,by omega,by omega,h3,h4,h5,?_⟩
 rw[show(i+1).toNat=i.toNat+1 by omega,X7b (by omega),Xgh,h6]
theorem or256{n:Int}{b:Nat}(h:0≤n)(h2:n<281474976710656)(hb:b<256):IntKind.wrap .i64 (BitVec.toNat (BitVec.ofInt (IntKind.bits .i64) (n*256)|||BitVec.ofInt (IntKind.bits .i64) (b:Int)))=n*256+b:=by
 obtain⟨k,rfl⟩:∃k:Nat,n=k:=⟨n.toNat,by omega⟩
 have e1:BitVec.ofInt (IntKind.bits .i64) (((k:Int))*256)=BitVec.ofNat 64 (k*256):=by
  show BitVec.ofInt 64 (((k:Int))*256)=_
  rw[show((k:Int)*256)=((k*256:Nat):Int) by omega,BitVec.ofInt_natCast]
 have e2:BitVec.ofInt (IntKind.bits .i64) (b:Int)=BitVec.ofNat 64 b:=BitVec.ofInt_natCast 64 b
 rw[e1,e2]
 have e3:(BitVec.ofNat 64 (k*256)|||BitVec.ofNat 64 b).toNat=k*256+b:=by
  rw[BitVec.toNat_or,BitVec.toNat_ofNat,BitVec.toNat_ofNat,Nat.mod_eq_of_lt (by omega),Nat.mod_eq_of_lt (by omega),Nat.mul_comm]
  exact(Nat.two_pow_add_eq_or_of_lt (i:=8) (by omega) k).symm
 show IntKind.wrap .i64 (((BitVec.ofNat 64 (k*256)|||BitVec.ofNat 64 b).toNat:Nat):Int)=_
 rw[e3,w64 (by omega) (by omega)];omega
def X47:Con:={A:=Xir,shA:=[.one,.one],R:=(.pair (.int .i64) .bool),shR:=[(false,1),(false,1)],pre:=fun _ _=>True,f:=some fun _ a=>((X0q a.1 a.2),((),()))}
def X17.F(a0:U4q)(a1:Int):Prop:=(True∧∀r1,(Eq r1 ((fIn a1 1 7),((),())))→(X00 (!r1.1) (Eq ((0,false),((),())) ((X0q a0 a1),((),()))) (X00 (decide ((ln a0)<a1)) (Eq ((0,false),((),())) ((X0q a0 a1),((),()))) (eS [(0,.val false [.str a0]),(1,.val false [.int .i64 a1])] [(0,.val false [.str a0]),(1,.val false [.int .i64 a1])]∧((rfI a0 a1 0 0)∧∀(y2:(Int×Int)),(rfI a0 a1 y2.1 y2.2)→(X00 (decide (y2.2<a1)) (0≤y2.2∧(y2.2<(ln a0)∧(eS [(0,.val false [.str a0]),(1,.val false [.int .i64 a1])] [(0,.val false [.str a0]),(1,.val false [.int .i64 a1])]∧(rfI a0 a1 (wI ((wI (y2.1*(256:Int)))+(wI ((UInt8.toNat (List.getD a0 (tN y2.2) 0):Nat):Int)))) (wI (y2.2+(1:Int))))∧(rfM a0 a1 (wI ((wI (y2.1*(256:Int)))+(wI ((UInt8.toNat (List.getD a0 (tN y2.2) 0):Nat):Int)))) (wI (y2.2+(1:Int))))<(rfM a0 a1 y2.1 y2.2)))) (Eq ((y2.1,true),((),())) ((X0q a0 a1),((),())))))))))
def X17.L(a0:U4q)(a1:Int):Nat→Option X0a:=fun p=>Go.Proofs.YtgmafgmjbaoomaaGreat.Bv.look p [(122,{kp:={hold:=[0,1],slots:=[6,7],boxes:=[],rows:=[]},T:=T0q,I:=fun st y=>rfI a0 a1 y.1 y.2,μ:=fun st y=>rfM a0 a1 y.1 y.2})]
theorem X17.pure(a0:U4q)(a1:Int)(h:True)(hw:Wf X47.A (a0,a1)):X17.F a0 a1:=by
 delta X17.F ln tN wI eS
 simp only[Bs,B0,B1,Prod.mk.injEq,X03]
 refine⟨fun h1=>by simp[X0q,h1],fun h1=>⟨fun h2=>by unfold X0q;rw[if_neg (by omega)],fun h2=>?_⟩⟩
 have hw7:=X0u.1 h1
 refine⟨⟨by omega,by omega,by omega,by omega,by omega,rfl⟩,fun y hI=>?_⟩
 obtain⟨n,i⟩:=y
 simp only at hI ⊢
 have g1:=hI.1
 have g2:=hI.2.1
 have hx:=(a0.getD i.toNat 0).toNat_lt
 refine⟨fun hi=>?_,fun hi=>?_⟩
 · obtain⟨hn,step⟩:=XiS hI hi
   rw[w64 (x:=((a0.getD i.toNat 0).toNat:Int)) (by omega) (by omega),w64 (x:=n*256) (by omega) (by omega),w64 (x:=n*256+((a0.getD i.toNat 0).toNat:Int)) (by omega) (by omega),w64 (x:=i+1) (by omega) (by omega)]
   exact⟨by omega,by omega,step,by unfold rfM;omega⟩
 · have e:i=a1:=by omega
   unfold X0q
   rw[if_pos ⟨h1,by omega⟩,hI.2.2.2.2.2,e]
theorem X17.eq:EqS X47 Tryz.f160 [3,4] [X1j.e] [] (fun i x=>X17.L x.1 x.2) (fun i x=>X17.F x.1 x.2):=by intro i x;kernel_rfl
theorem X17.ok:X0o Tryz.prog 160 X47:=X2u X17.eq Tryz.func160 rfl (by kernel_rfl) fun i x h hi hw=>X17.pure x.1 x.2 h hw
def X17.e:GE:=⟨160,X47,⟨_,Tryz.func160,rfl,rfl⟩,X17.ok⟩
def X4i:Con:={A:=Xir,shA:=[.one,.one],R:=(.pair (.int .i64) .bool),shR:=[(false,1),(false,1)],pre:=fun _ _=>True,f:=some fun _ a=>((X0q a.1 a.2),((),()))}
def X1c.F(a0:U4q)(a1:Int):Prop:=(True∧∀r1,(Eq r1 ((fIn a1 1 7),((),())))→(X00 (!r1.1) (Eq ((0,false),((),())) ((X0q a0 a1),((),()))) (X00 (decide ((ln a0)<a1)) (Eq ((0,false),((),())) ((X0q a0 a1),((),()))) (eS [(0,.val false [.str a0]),(17,.val false [.int .i64 a1])] [(0,.val false [.str a0]),(17,.val false [.int .i64 a1])]∧((rfI a0 a1 0 0)∧∀(y2:(Int×Int)),(rfI a0 a1 y2.1 y2.2)→(X00 (decide (y2.2<a1)) (0≤(8:Int)∧(0≤y2.2∧(y2.2<(ln a0)∧(eS [(0,.val false [.str a0]),(17,.val false [.int .i64 a1])] [(0,.val false [.str a0]),(17,.val false [.int .i64 a1])]∧(rfI a0 a1 (IntKind.wrap .i64 (BitVec.toNat (BitVec.ofInt (IntKind.bits .i64) (wI (y2.1*2 ^ (min (tN (8:Int)) (IntKind.bits .i64))))|||BitVec.ofInt (IntKind.bits .i64) (wI ((UInt8.toNat (List.getD a0 (tN y2.2) 0):Nat):Int))))) (wI (y2.2+(1:Int))))∧(rfM a0 a1 (IntKind.wrap .i64 (BitVec.toNat (BitVec.ofInt (IntKind.bits .i64) (wI (y2.1*2 ^ (min (tN (8:Int)) (IntKind.bits .i64))))|||BitVec.ofInt (IntKind.bits .i64) (wI ((UInt8.toNat (List.getD a0 (tN y2.2) 0):Nat):Int))))) (wI (y2.2+(1:Int))))<(rfM a0 a1 y2.1 y2.2))))) (Eq ((y2.1,true),((),())) ((X0q a0 a1),((),())))))))))
def X1c.L(a0:U4q)(a1:Int):Nat→Option X0a:=fun p=>Go.Proofs.YtgmafgmjbaoomaaGreat.Bv.look p [(122,{kp:={hold:=[0,17],slots:=[6,18],boxes:=[],rows:=[]},T:=T0q,I:=fun st y=>rfI a0 a1 y.1 y.2,μ:=fun st y=>rfM a0 a1 y.1 y.2})]
theorem X1c.pure(a0:U4q)(a1:Int)(h:True)(hw:Wf X4i.A (a0,a1)):X1c.F a0 a1:=by
 delta X1c.F ln tN wI eS
 simp only[Bs,B0,B1,Prod.mk.injEq,X03]
 refine⟨fun h1=>by simp[X0q,h1],fun h1=>⟨fun h2=>by unfold X0q;rw[if_neg (by omega)],fun h2=>?_⟩⟩
 have hw7:=X0u.1 h1
 refine⟨⟨by omega,by omega,by omega,by omega,by omega,rfl⟩,fun y hI=>?_⟩
 obtain⟨n,i⟩:=y
 simp only at hI ⊢
 have g1:=hI.1
 have g2:=hI.2.1
 have hx:=(a0.getD i.toNat 0).toNat_lt
 refine⟨fun hi=>?_,fun hi=>?_⟩
 · obtain⟨hn,step⟩:=XiS hI hi
   rw[show(min (Int.toNat 8) (IntKind.bits .i64))=8 from rfl,show(2:Int) ^ 8=256 from rfl,w64 (x:=((a0.getD i.toNat 0).toNat:Int)) (by omega) (by omega),w64 (x:=n*256) (by omega) (by omega),or256 hn.1 hn.2 hx,w64 (x:=i+1) (by omega) (by omega)]
   exact⟨by omega,by omega,by omega,step,by unfold rfM;omega⟩
 · have e:i=a1:=by omega
   unfold X0q
   rw[if_pos ⟨h1,by omega⟩,hI.2.2.2.2.2,e]
theorem X1c.eq:EqS X4i Tryz.f178 [3,4] [X0A.e] [] (fun i x=>X1c.L x.1 x.2) (fun i x=>X1c.F x.1 x.2):=by intro i x;kernel_rfl
theorem X1c.ok:X0o Tryz.prog 178 X4i:=X2u X1c.eq Tryz.func178 rfl (by kernel_rfl) fun i x h hi hw=>X1c.pure x.1 x.2 h hw
def X1c.e:GE:=⟨178,X4i,⟨_,Tryz.func178,rfl,rfl⟩,X1c.ok⟩
def X0d(s:List UInt8):List UInt8×(Int×Int):=
 if (X0q s 4).2=false then([],0,1)
 else if fIn (X0q s 4).1 1 2000=false then([],0,2)
 else if (s.length:Int)<(X0q s 4).1+8 then([],0,1)
 else if X28 ((s.take ((X0q s 4).1+8).toNat).drop 8)=s.take ((X0q s 4).1+8).toNat then((s.take ((X0q s 4).1+8).toNat).drop 8,(X0q s 4).1+8,0)
 else([],0,2)
theorem Xoq{s:List UInt8}{w:Int}:0≤(X0q s w).1∧(X0q s w).1<72057594037927936:=by
 unfold X0q
 split
 · rename_i h
   have h1:=X0u.1 h.1
   have hb:=XoO w.toNat (s.take w.toNat) (by rw[List.length_take];omega)
   have:(256:Int) ^ w.toNat≤72057594037927936:=by
    by_cases h7:w.toNat≤6
    · have:=XeL h7;omega
    · rw[show w.toNat=7 by omega];decide
   simp only;omega
 · simp
theorem Xk0{n:Nat}(h:n≤2000):X14 n 4=X1Q (fx 4 n):=by
 unfold X14
 rw[if_pos ⟨by decide,by omega,by rw[show(4:Int).toNat=4 from rfl];omega⟩];rfl
theorem X74(l:List Int):(X1Q l).length=l.length:=by simp[X1Q]
theorem XcA(s:List UInt8):(X14 (XeC s) 4).length=4:=by
 have:=Xg2 s
 unfold X14
 rw[if_pos ⟨by decide,by omega,by rw[show(4:Int).toNat=4 from rfl];omega⟩,X74,X7k];rfl
theorem Xen{b:List UInt8}(h:1≤b.length∧b.length≤2000):(X28 b).length=b.length+8∧X0d (X28 b)=(b,((b.length:Int)+8,0)):=by
 have e:X28 b=X14 b.length 4++X14 (XeC (X14 b.length 4++b)) 4++b:=by
  unfold X28;rw[if_pos (X0u.2 (by omega))]
 have l1:(X14 b.length 4).length=4:=by rw[Xk0 h.2,X74,X7k]
 have l2:=XcA (X14 b.length 4++b)
 have hl:(X28 b).length=b.length+8:=by rw[e,List.length_append,List.length_append,l1,l2];omega
 have hr:X0q (X28 b) 4=((b.length:Int),true):=by
  unfold X0q
  rw[if_pos ⟨by decide,by omega⟩,e,List.append_assoc,show(4:Int).toNat=(X14 b.length 4).length from l1.symm,List.take_left,Xk0 h.2,Xn6 4 _ (by omega)]
 refine⟨hl,?_⟩
 have hb:(X28 b).drop 8=b:=by
  rw[e,show 8=(X14 b.length 4++X14 (XeC (X14 b.length 4++b)) 4).length by rw[List.length_append,l1,l2],List.drop_left]
 unfold X0d
 rw[hr]
 simp only
 have e8:((b.length:Int)+8).toNat=(X28 b).length:=by rw[hl];omega
 rw[if_neg (by decide),if_neg (by rw[X0u.2 (by omega)];decide),if_neg (by omega),e8,List.take_length,hb,if_pos rfl]
theorem X91(s:List UInt8):X0d s=([],0,1)∨X0d s=([],0,2)∨((X0d s).2.2=0∧1≤(X0d s).1.length∧(X0d s).1.length≤2000∧(X0d s).2.1=(X0d s).1.length+8∧(X0d s).2.1≤s.length∧X28 (X0d s).1=s.take (X0d s).2.1.toNat):=by
 unfold X0d
 split
 · exact .inl rfl
 split
 · exact .inr (.inl rfl)
 split
 · exact .inl rfl
 split
 · rename_i h1 h2 h3 h4
   have h5:=X0u.1 (show fIn (X0q s 4).1 1 2000=true by cases e:fIn (X0q s 4).1 1 2000;exact absurd e h2;rfl)
   refine .inr (.inr ⟨rfl,?_,?_,?_,by simp only;omega,h4⟩)<;>simp only[List.length_drop,List.length_take]<;>omega
 · exact .inr (.inl rfl)
theorem XaP(s:List UInt8):(X0d s).1.length≤2000:=by
 rcases X91 s with h | h | h
 · rw[h];simp
 · rw[h];simp
 · exact h.2.2.1
def X5t:Con:={A:=.str,shA:=[.one],R:=(.pair .str T0q),shR:=[(false,1),(false,1),(false,1)],pre:=fun _ _=>True,f:=some fun _ a=>((X0d a),((),()))}
def X2q.F(a0:U4q):Prop:=(True∧∀r1,(Eq r1 ((X0q a0 4),((),())))→(X00 (!r1.1.2) (Eq (([],(0,1)),((),())) ((X0d a0),((),()))) (X00 (r1.1.1==(0:Int)) (Eq (([],(0,2)),((),())) ((X0d a0),((),()))) (X00 (decide (r1.1.1>(2000:Int))) (Eq (([],(0,2)),((),())) ((X0d a0),((),()))) (X00 (decide ((ln a0)<(wI ((8:Int)+r1.1.1)))) (Eq (([],(0,1)),((),())) ((X0d a0),((),()))) (0≤(8:Int)∧((8:Int)≤(wI ((8:Int)+r1.1.1))∧((wI ((8:Int)+r1.1.1))≤(ln a0)∧(True∧∀r2,(Eq r2 ((X28 (List.drop (tN (8:Int)) (List.take (tN (wI ((8:Int)+r1.1.1))) a0))),((),())))→(0≤(wI ((8:Int)+r1.1.1))∧((wI ((8:Int)+r1.1.1))≤(ln a0)∧(X00 (!(r2.1==(List.take (tN (wI ((8:Int)+r1.1.1))) a0))) (Eq (([],(0,2)),((),())) ((X0d a0),((),()))) (Eq (((List.drop (tN (8:Int)) (List.take (tN (wI ((8:Int)+r1.1.1))) a0)),((wI ((8:Int)+r1.1.1)),0)),((),())) ((X0d a0),((),())))))))))))))))
theorem X2q.pure(a0:U4q)(h:True)(hw:Wf X5t.A a0):X2q.F a0:=by
 delta X2q.F ln tN wI
 have hb:=Xoq (s:=a0) (w:=4)
 simp only[Bs,B0,B1,Prod.mk.injEq,X03]
 repeat' (with_reducible (first | (refine And.intro ?_ ?_) | intro _))
 all_goals (try simp (disch:=omega) only[w64,wu8,tn0,tn1,tm1,tm2,List.length_append,List.length_cons,List.length_nil]at*)
 all_goals (try simp (disch:=omega) only[w64,wu8,tn0,tn1,tm1,tm2,List.length_append,List.length_cons,List.length_nil]at*)
 all_goals (try omega)
 all_goals (try grind[X0d,X0u])
theorem X2q.eq:EqS X5t Tryz.f111 [9,3,3] [X2W.e,X17.e] [] noL (fun i x=>X2q.F x):=by intro i x;kernel_rfl
theorem X2q.ok:X0o Tryz.prog 111 X5t:=X2u X2q.eq Tryz.func111 rfl (by kernel_rfl) fun i x h hi hw=>X2q.pure x h hw
def X2q.e:GE:=⟨111,X5t,⟨_,Tryz.func111,rfl,rfl⟩,X2q.ok⟩
def X5o:Con:={A:=.str,shA:=[.one],R:=(.pair .str T0q),shR:=[(false,1),(false,1),(false,1)],pre:=fun _ _=>True,f:=some fun _ a=>((X0d a),((),()))}
def X2t.F(a0:U4q):Prop:=(True∧∀r1,(Eq r1 ((X0q a0 4),((),())))→(X00 (!r1.1.2) (Eq (([],(0,1)),((),())) ((X0d a0),((),()))) (True∧∀r2,(Eq r2 ((fIn r1.1.1 1 2000),((),())))→(X00 (!r2.1) (Eq (([],(0,2)),((),())) ((X0d a0),((),()))) (X00 (decide ((ln a0)<(wI (r1.1.1+(8:Int))))) (Eq (([],(0,1)),((),())) ((X0d a0),((),()))) (0≤(8:Int)∧((8:Int)≤(wI (r1.1.1+(8:Int)))∧((wI (r1.1.1+(8:Int)))≤(ln a0)∧(True∧∀r3,(Eq r3 ((X28 (List.drop (tN (8:Int)) (List.take (tN (wI (r1.1.1+(8:Int)))) a0))),((),())))→(0≤(wI (r1.1.1+(8:Int)))∧((wI (r1.1.1+(8:Int)))≤(ln a0)∧(X00 (!(r3.1==(List.take (tN (wI (r1.1.1+(8:Int)))) a0))) (Eq (([],(0,2)),((),())) ((X0d a0),((),()))) (Eq (((List.drop (tN (8:Int)) (List.take (tN (wI (r1.1.1+(8:Int)))) a0)),((wI (r1.1.1+(8:Int))),0)),((),())) ((X0d a0),((),())))))))))))))))
theorem X2t.pure(a0:U4q)(h:True)(hw:Wf X5o.A a0):X2t.F a0:=by
 delta X2t.F ln tN wI
 have hb:=Xoq (s:=a0) (w:=4)
 simp only[Bs,B0,B1,Prod.mk.injEq,X03]
 repeat' (with_reducible (first | (refine And.intro ?_ ?_) | intro _))
 all_goals (try simp (disch:=omega) only[w64,wu8,tn0,tn1,tm1,tm2,List.length_append,List.length_cons,List.length_nil]at*)
 all_goals (try simp (disch:=omega) only[w64,wu8,tn0,tn1,tm1,tm2,List.length_append,List.length_cons,List.length_nil]at*)
 all_goals (try omega)
 all_goals (try grind[X0d,X0u])
theorem X2t.eq:EqS X5o Tryz.f140 [9,3,3] [X0A.e,X2V.e,X1c.e] [] noL (fun i x=>X2t.F x):=by intro i x;kernel_rfl
theorem X2t.ok:X0o Tryz.prog 140 X5o:=X2u X2t.eq Tryz.func140 rfl (by kernel_rfl) fun i x h hi hw=>X2t.pure x h hw
def X2t.e:GE:=⟨140,X5o,⟨_,Tryz.func140,rfl,rfl⟩,X2t.ok⟩
theorem Xf6(l:List Pt)(i:Nat):(l.map (·.1)).getD i 0=(l.getD i (0,0)).1:=by
 simp only[List.getD_eq_getElem?_getD,List.getElem?_map];cases l[i]?<;>rfl
theorem XjZ(l:List Pt)(i:Nat):(l.map (·.2)).getD i 0=(l.getD i (0,0)).2:=by
 simp only[List.getD_eq_getElem?_getD,List.getElem?_map];cases l[i]?<;>rfl
theorem Xdt{l:List Pt}:X1G l=true↔l.length≤60∧∀j,j<l.length→Xci l j=true:=by
 simp only[X1G,Bool.and_eq_true,decide_eq_true_eq,Xbi]
theorem Xhx{l:List Pt}{i:Nat}:Xci l i=true↔X7V (l.map (·.1)) i=true∧X5M (l.map (·.2)) i=true:=by
 simp only[Xci,X7V,X5M,Xf6,XjZ,Bool.and_eq_true]
 exact⟨fun h=>⟨⟨h.1,h.2.2⟩,h.2.1⟩,fun h=>⟨h.1.1,h.2,h.1.2⟩⟩
theorem XiH{l:List Pt}:(X1G l=true∧l≠[])↔X6Y (l.map (·.1))=true∧X7l (l.map (·.2))=true:=by
 rw[Xdt,X3s,X3J]
 simp only[List.length_map,Xhx]
 constructor
 · rintro⟨⟨h1,h2⟩,h3⟩
   have:=List.length_pos_iff.2 h3
   exact⟨⟨⟨by omega,h1⟩,fun j hj=>(h2 j hj).1⟩,⟨by omega,h1⟩,fun j hj=>(h2 j hj).2⟩
 · rintro⟨⟨h1,h2⟩,h3,h4⟩
   exact⟨⟨h1.2,fun j hj=>⟨h2 j hj,h4 j hj⟩⟩,List.length_pos_iff.1 (by omega)⟩
def X7n(l:List Pt):List UInt8:=X1H l.length++X0j (l.map (·.1))++X0f (l.map (·.2))
def RB(s:List UInt8)(l:List Pt):Prop:=(X1G l=true∧l≠[])∧X28 (X7n l)=s
instance (s:List UInt8) (l:List Pt):Decidable (RB s l):=by unfold RB;infer_instance
def bN(s:List UInt8):Int:=(X04 (X0d s).1).1
def bA(s:List UInt8):Int:=(X04 (X0d s).1).2
def bT(s:List UInt8):List Int×Int:=X2v ((X0d s).1.drop (bA s).toNat) (bN s)
def bV(s:List UInt8):List Int×Int:=X2z ((X0d s).1.drop (bA s+(bT s).2).toNat) (bN s)
def bC(s:List UInt8):List Pt:=(bT s).1.zip (bV s).1
def X0t(s:List UInt8):List Pt×Bool:=if RB s (bC s) then(bC s,true) else([],false)
theorem Xk6{l:List Pt}(h:X1G l=true∧l≠[]):1≤(X7n l).length∧(X7n l).length≤2000:=by
 have h1:=X7f h.1
 have h2:=List.length_pos_iff.2 h.2
 have h3:=X5r (v:=(l.length:Int)) (by unfold X3K;omega)
 have h4:=X1v l.length
 have h5:=X55 (l.map (·.1))
 have h6:=X4K (l.map (·.2))
 simp only[X7n,List.length_append];omega
structure RBf (s:List UInt8) (l:List Pt):Prop where
 h1:X0d s=(X7n l,((s.length:Int),0))
 h2:bN s=l.length
 h3:bA s=(X1H l.length).length
 h3':0<(X1H l.length).length
 h4:bT s=(l.map (·.1),((X0j (l.map (·.1))).length:Int))
 h4':0<(X0j (l.map (·.1))).length
 h5:bV s=(l.map (·.2),((X0f (l.map (·.2))).length:Int))
 h5':0<(X0f (l.map (·.2))).length
 h6:bC s=l
theorem Xh0:∀l:List Pt,(l.map (·.1)).zip (l.map (·.2))=l
 | []=>rfl
 | x::l=>by simp only[List.map_cons,List.zip_cons_cons];rw[Xh0 l]
theorem RB.facts{s:List UInt8}{l:List Pt}(h:RB s l):RBf s l:=by
 obtain⟨h0,rfl⟩:=h
 have hb:=Xk6 h0
 obtain⟨hl,hu⟩:=Xen hb
 have h1:=X7f h0.1
 have h2:=List.length_pos_iff.2 h0.2
 have hv:X3K (l.length:Int):=by unfold X3K;omega
 have h3:=X5r hv
 obtain⟨k1,k2⟩:=XiH.1 h0
 have q1:X0d (X28 (X7n l))=(X7n l,(((X28 (X7n l)).length:Int),0)):=by rw[hu,hl];rfl
 have qv:X04 (X7n l)=((l.length:Int),((X1H l.length).length:Int)):=by
  unfold X7n;rw[List.append_assoc];exact XeF hv _
 have q2:bN (X28 (X7n l))=l.length:=by unfold bN;rw[q1,qv]
 have q3:bA (X28 (X7n l))=(X1H l.length).length:=by unfold bA;rw[q1,qv]
 have e1:(X7n l).drop (X1H l.length).length=X0j (l.map (·.1))++X0f (l.map (·.2)):=by
  unfold X7n;rw[List.append_assoc,List.drop_left]
 have rt:RT (X0j (l.map (·.1))++X0f (l.map (·.2))) l.length (l.map (·.1)):=⟨by simp,k1,by rw[←X5p k1,List.take_left]⟩
 have q4:bT (X28 (X7n l))=(l.map (·.1),((X0j (l.map (·.1))).length:Int)):=by
  unfold bT;rw[q1,q2,q3,Int.toNat_natCast,e1,X9y rt,X5p k1]
 have e2:(X7n l).drop ((X1H l.length).length+(X0j (l.map (·.1))).length)=X0f (l.map (·.2)):=by
  rw[←List.drop_drop,e1,List.drop_left]
 have rv:RV (X0f (l.map (·.2))) l.length (l.map (·.2)):=⟨by simp,k2,by rw[←X5f k2,List.take_length]⟩
 have q5:bV (X28 (X7n l))=(l.map (·.2),((X0f (l.map (·.2))).length:Int)):=by
  unfold bV;rw[q1,q2,q3,q4]
  simp only
  rw[show(((X1H l.length).length:Int)+((X0j (l.map (·.1))).length:Int)).toNat=(X1H l.length).length+(X0j (l.map (·.1))).length by omega,e2,X9R rv,X5f k2]
 have m1:(l.map (·.1)).length=l.length:=by simp
 have m2:(l.map (·.2)).length=l.length:=by simp
 exact⟨q1,q2,q3,h3,q4,by rw[X5p k1];exact X9e (X96 _ k1 0 (by omega)) _ (by omega),q5,by rw[X5f k2];exact X9e (X9D _ k2 0 (by omega)) _ (by omega),by unfold bC;rw[q4,q5];exact Xh0 l⟩
theorem Xc5{s:List UInt8}{l:List Pt}(h:RB s l):(l,true)=X0t s:=by
 unfold X0t;rw[h.facts.h6,if_pos h]
theorem X5x{s:List UInt8}(h:∀l,¬RB s l):([],false)=X0t s:=by
 unfold X0t;rw[if_neg (h _)]
theorem RB.show{s:List UInt8}{l:List Pt}(h:RB s l):X0c l=s:=by
 unfold X0c;rw[if_pos h.1];exact h.2
theorem RB_of{s:List UInt8}{l:List Pt}(h:X0c l=s)(h2:s≠[]):RB s l:=by
 unfold X0c at h
 split at h
 · rename_i h3;exact⟨h3,h⟩
 · exact absurd h.symm h2
theorem Xec(s:List UInt8)(n:Int):0≤(X2v s n).2∧(X2v s n).2≤s.length∧((X2v s n).2=0→(X2v s n).1=[])∧((X2v s n).2≠0→RT s n (X2v s n).1):=by
 rcases XbF s n with⟨e,_⟩ | ⟨l,hl,e⟩
 · rw[e];simp
 · have h:=hl.2.2
   have h2:=congrArg List.length h
   rw[List.length_take]at h2
   have h1:=(X3s.1 hl.2.1).1
   have hp:=X9e (X96 l hl.2.1 0 (by omega)) l.length (by omega)
   rw[e];simp only
   exact⟨by omega,by omega,fun h=>by omega,fun _=>hl⟩
theorem Xe0(s:List UInt8)(n:Int):0≤(X2z s n).2∧(X2z s n).2≤s.length∧((X2z s n).2=0→(X2z s n).1=[])∧((X2z s n).2≠0→RV s n (X2z s n).1):=by
 rcases XbV s n with⟨e,_⟩ | ⟨l,hl,e⟩
 · rw[e];simp
 · have h:=hl.2.2
   have h2:=congrArg List.length h
   rw[List.length_take]at h2
   have h1:=(X3J.1 hl.2.1).1
   have hp:=X9e (X9D l hl.2.1 0 (by omega)) l.length (by omega)
   rw[e];simp only
   exact⟨by omega,by omega,fun h=>by omega,fun _=>hl⟩
theorem Xkc(s:List UInt8)(n:Int):(X2v s n).1.length≤60:=by
 rcases XbF s n with⟨e,_⟩ | ⟨l,hl,e⟩
 · rw[e];simp
 · rw[e];exact(X3s.1 hl.2.1).1.2
theorem Xj5(s:List UInt8)(n:Int):(X2z s n).1.length≤60:=by
 rcases XbV s n with⟨e,_⟩ | ⟨l,hl,e⟩
 · rw[e];simp
 · rw[e];exact(X3J.1 hl.2.1).1.2
theorem XkK{s:List UInt8}(h1:bA s≠0)(h2:(X0d s).2.1=s.length)(h3:(bT s).2≠0)(h4:(bV s).2≠0)(h5:bA s+(bT s).2+(bV s).2=(X0d s).1.length):RB s (bC s)∧((bC s).length:Int)=bN s∧((bT s).1.length:Int)=bN s∧((bV s).1.length:Int)=bN s:=by
 have hu:X28 (X0d s).1=s:=by
  rcases X91 s with h | h | h
  · exfalso;apply h1;unfold bA;rw[h];rfl
  · exfalso;apply h1;unfold bA;rw[h];rfl
  · rw[h.2.2.2.2.2,h2,Int.toNat_natCast,List.take_length]
 obtain⟨v1,v2⟩:=XjX (s:=(X0d s).1) h1
 have vb:=X1V (X0d s).1
 have rt:RT ((X0d s).1.drop (bA s).toNat) (bN s) (bT s).1:=(Xec ((X0d s).1.drop (bA s).toNat) (bN s)).2.2.2 h3
 have rv:RV ((X0d s).1.drop (bA s+(bT s).2).toNat) (bN s) (bV s).1:=(Xe0 ((X0d s).1.drop (bA s+(bT s).2).toNat) (bN s)).2.2.2 h4
 have t1:=rt.1
 have t2:=rv.1
 have z1:((bC s).length:Int)=bN s:=by
  unfold bC;rw[List.length_zip]
  change ((min (bT s).1.length (bV s).1.length:Nat):Int)=bN s
  have e1:((bT s).1.length:Int)=bN s:=t1
  have e2:((bV s).1.length:Int)=bN s:=t2
  omega
 have eT:(bC s).map (·.1)=(bT s).1:=by
  unfold bC
  exact List.map_fst_zip (by have e1:((bT s).1.length:Int)=bN s:=t1;have e2:((bV s).1.length:Int)=bN s:=t2;omega)
 have eV:(bC s).map (·.2)=(bV s).1:=by
  unfold bC
  exact List.map_snd_zip (by have e1:((bT s).1.length:Int)=bN s:=t1;have e2:((bV s).1.length:Int)=bN s:=t2;omega)
 refine⟨⟨XiH.2 ⟨by rw[eT];exact rt.2.1,by rw[eV];exact rv.2.1⟩,?_⟩,z1,t1,t2⟩
 have kT:(bT s).2=((X0j (bT s).1).length:Int):=by
  rw[X5p rt.2.1];have:=X9y rt;exact congrArg Prod.snd this
 have kV:(bV s).2=((X0f (bV s).1).length:Int):=by
  rw[X5f rv.2.1];have:=X9R rv;exact congrArg Prod.snd this
 have gT:((X0d s).1.drop (bA s).toNat).take (bT s).2.toNat=X0j (bT s).1:=by
  rw[kT,Int.toNat_natCast,X5p rt.2.1];exact rt.2.2
 have gV:((X0d s).1.drop (bA s+(bT s).2).toNat).take (bV s).2.toNat=X0f (bV s).1:=by
  rw[kV,Int.toNat_natCast,X5f rv.2.1];exact rv.2.2
 have e:X7n (bC s)=(X0d s).1:=by
  unfold X7n
  rw[z1,eT,eV]
  have gN:X1H (bN s)=(X0d s).1.take (bA s).toNat:=v1.symm
  have b1:0≤bA s:=vb.2.2.1
  rw[gN,←gT,←gV,show(bA s+(bT s).2).toNat=(bA s).toNat+(bT s).2.toNat by omega,←List.take_add,←List.take_add,List.take_of_length_le (by omega)]
 rw[e,hu]
def rbI(s:List UInt8)(i:Int)(out:List Pt):Prop:=0≤i∧i≤(bC s).length∧(out.length:Int)=i∧out=(bC s).take i.toNat
def rbM(s:List UInt8)(i:Int)(out:List Pt):Nat:=((bC s).length - i).toNat
theorem Xol{s:List UInt8}{i:Nat}(h:i<(bC s).length):(bC s).getD i (0,0)=((bT s).1.getD i 0,(bV s).1.getD i 0):=by
 unfold bC at h ⊢
 have h':=h
 rw[List.length_zip]at h
 simp only[List.getD_eq_getElem?_getD]
 rw[List.getElem?_eq_getElem h',List.getElem?_eq_getElem (show i<(bT s).1.length by omega),List.getElem?_eq_getElem (show i<(bV s).1.length by omega)]
 simp
theorem XhM{l:List Pt}{i:Nat}(hi:i<l.length):l.take (i+1)=l.take i++[l.getD i (0,0)]:=by
 rw[List.take_add_one,List.getD_eq_getElem?_getD,List.getElem?_eq_getElem hi];rfl
theorem Xk7{s:List UInt8}{i:Int}{out:List Pt}(h:rbI s i out)(hi:i<(bC s).length):rbI s (i+1) (out++[((bT s).1.getD i.toNat 0,(bV s).1.getD i.toNat 0)]):=by
 obtain⟨h1,h2,h3,h4⟩:=h
 refine⟨by omega,by omega,by simp;omega,?_⟩
 rw[show(i+1).toNat=i.toNat+1 by omega,XhM (by omega),Xol (by omega),h4]
theorem XiR{s:List UInt8}{i:Int}{out:List Pt}(h:rbI s i out)(hi:¬i<(bC s).length):out=bC s:=by
 obtain⟨h1,h2,h3,h4⟩:=h
 rw[h4,List.take_of_length_le (by omega)]
def X4h:Con:={A:=.str,shA:=[.one],R:=(.pair X60 .bool),shR:=[(false,1),(false,1)],fresh:=[(0,107)],pre:=fun _ _=>True,f:=some fun _ a=>((X0t a),((),()))}
def X10.F(a0:U4q):Prop:=(True∧∀r1,(Eq r1 ((X0d a0),((),())))→(True∧∀r2,(Eq r2 ((X04 r1.1.1),((),())))→(X00 (r2.1.2==(0:Int)) (Eq ((([]:U5q),false),((),())) ((X0t a0),((),()))) (X00 (r1.1.2.1 !=(ln a0)) (Eq ((([]:U5q),false),((),())) ((X0t a0),((),()))) (0≤r2.1.2∧(r2.1.2≤(ln r1.1.1)∧((pRd (List.drop (tN r2.1.2) r1.1.1) r2.1.1)∧∀r3,(Eq r3 ((X2v (List.drop (tN r2.1.2) r1.1.1) r2.1.1),((),())))→(X00 (r3.1.2==(0:Int)) (Eq ((([]:U5q),false),((),())) ((X0t a0),((),()))) (0≤(wI (r2.1.2+r3.1.2))∧((wI (r2.1.2+r3.1.2))≤(ln r1.1.1)∧((pRd (List.drop (tN (wI (r2.1.2+r3.1.2))) r1.1.1) r2.1.1)∧∀r4,(Eq r4 ((X2z (List.drop (tN (wI (r2.1.2+r3.1.2))) r1.1.1) r2.1.1),((),())))→(X00 (r4.1.2==(0:Int)) (Eq ((([]:U5q),false),((),())) ((X0t a0),((),()))) (X00 ((wI ((wI (r2.1.2+r3.1.2))+r4.1.2))!=(ln r1.1.1)) (Eq ((([]:U5q),false),((),())) ((X0t a0),((),()))) (eS [(8,.val false [.int .i64 r2.1.1]),(10,.val false [.lst (.int .i64) r3.1.1 none]),(12,.val false [.lst (.int .i64) r4.1.1 none])] [(8,.val false [.int .i64 r2.1.1]),(10,.val false [.lst (.int .i64) r3.1.1 none]),(12,.val false [.lst (.int .i64) r4.1.1 none])]∧((rbI a0 0 ([]:List (Int×Int)))∧∀(y5:(Int×U5q)),(rbI a0 y5.1 y5.2)→(X00 (decide (y5.1<r2.1.1)) (0≤y5.1∧(y5.1<(ln r3.1.1)∧(0≤y5.1∧(y5.1<(ln r4.1.1)∧(List.length y5.2+List.length [((List.getD r3.1.1 (tN y5.1) 0),(List.getD r4.1.1 (tN y5.1) 0))]≤9223372036854775807∧((List.length y5.2+List.length [((List.getD r3.1.1 (tN y5.1) 0),(List.getD r4.1.1 (tN y5.1) 0))])*16≤140737488355328∧(eS [(8,.val false [.int .i64 r2.1.1]),(10,.val false [.lst (.int .i64) r3.1.1 none]),(12,.val false [.lst (.int .i64) r4.1.1 none])] [(8,.val false [.int .i64 r2.1.1]),(10,.val false [.lst (.int .i64) r3.1.1 none]),(12,.val false [.lst (.int .i64) r4.1.1 none])]∧(rbI a0 (wI (y5.1+(1:Int))) (y5.2++[((List.getD r3.1.1 (tN y5.1) 0),(List.getD r4.1.1 (tN y5.1) 0))]))∧(rbM a0 (wI (y5.1+(1:Int))) (y5.2++[((List.getD r3.1.1 (tN y5.1) 0),(List.getD r4.1.1 (tN y5.1) 0))]))<(rbM a0 y5.1 y5.2)))))))) (Eq ((y5.2,true),((),())) ((X0t a0),((),())))))))))))))))))))
def X10.L(a0:U4q):Nat→Option X0a:=fun p=>Go.Proofs.YtgmafgmjbaoomaaGreat.Bv.look p [(16378,{kp:={hold:=[8,10,12],slots:=[14,15],boxes:=[],rows:=[{bx:=false,s:=14,i:=0,k:=1001795,e:=107,hot:=true}]},T:=(.pair (.int .i64) X60),I:=fun st y=>rbI a0 y.1 y.2,μ:=fun st y=>rbM a0 y.1 y.2})]
theorem X10.pure(a0:U4q)(h:True)(hw:Wf X4h.A a0):X10.F a0:=by
 delta X10.F ln tN wI eS
 simp only[Bs,B0,B1,Prod.mk.injEq,X03]
 have u1:=XaP a0
 have vb:=X1V (X0d a0).1
 have tb:=Xec ((X0d a0).1.drop (bA a0).toNat) (bN a0)
 have wb:=Xe0 ((X0d a0).1.drop (bA a0+(bT a0).2).toNat) (bN a0)
 rw[List.length_drop]at tb wb
 change 0≤(bT a0).2∧(bT a0).2≤_∧((bT a0).2=0→(bT a0).1=[])∧((bT a0).2≠0→RT _ _ (bT a0).1) at tb
 change 0≤(bV a0).2∧(bV a0).2≤_∧((bV a0).2=0→(bV a0).1=[])∧((bV a0).2≠0→RV _ _ (bV a0).1) at wb
 have eN:(X04 (X0d a0).1).1=bN a0:=rfl
 have eA:(X04 (X0d a0).1).2=bA a0:=rfl
 rw[eN,eA]at vb
 simp only[eN,eA]
 have eT:X2v ((X0d a0).1.drop (bA a0).toNat) (bN a0)=bT a0:=rfl
 rw[eT,w64 (x:=bA a0+(bT a0).2) (by omega) (by omega)]
 have eV:X2z ((X0d a0).1.drop (bA a0+(bT a0).2).toNat) (bN a0)=bV a0:=rfl
 rw[eV]
 rw[w64 (x:=bA a0+(bT a0).2+(bV a0).2) (by omega) (by omega)]
 refine⟨fun h1=>X5x fun l hl=>?_,fun h1=>⟨fun h2=>X5x fun l hl=>?_,fun h2=>⟨by omega,by omega,by unfold pRd;rw[List.length_drop];omega,fun h3=>X5x fun l hl=>?_,fun h3=>⟨by omega,by omega,by unfold pRd;rw[List.length_drop];omega,fun h4=>X5x fun l hl=>?_,fun h4=>⟨fun h5=>X5x fun l hl=>?_,fun h5=>?_⟩⟩⟩⟩⟩
 · have f:=hl.facts;have:=f.h3;have:=f.h3';omega
 · have:=hl.facts.h1;rw[this]at h2;exact h2 rfl
 · have f:=hl.facts;have h6:=f.h4;have:=f.h4';rw[h6]at h3;simp only at h3;omega
 · have f:=hl.facts;have h6:=f.h5;have:=f.h5';rw[h6]at h4;simp only at h4;omega
 · have f:=hl.facts
   rw[f.h1,f.h3,f.h4,f.h5]at h5
   simp only[X7n,List.length_append]at h5
   omega
 · obtain⟨hR,z1,z2,z3⟩:=XkK h1 h2 h3 h4 h5
   have h60:=X7f hR.1.1
   refine⟨⟨by omega,by omega,rfl,by simp⟩,fun y hI=>?_⟩
   obtain⟨i,out⟩:=y
   simp only at hI ⊢
   have g1:=hI.1
   have g2:=hI.2.1
   have g3:=hI.2.2.1
   refine⟨fun hi=>?_,fun hi=>?_⟩
   · rw[w64 (x:=i+1) (by omega) (by omega)]
     exact⟨by omega,by omega,by omega,by omega,by omega,by omega,Xk7 hI (by omega),by unfold rbM;omega⟩
   · rw[XiR hI (by omega)];exact Xc5 hR
theorem X10.eq:EqS X4h Tryz.f58 [91,4] [X2q.e,X1x.e,X1h.e,X0X.e] [] (fun i x=>X10.L x) (fun i x=>X10.F x):=by intro i x;kernel_rfl
theorem X10.ok:X0o Tryz.prog 58 X4h:=X2u X10.eq Tryz.func58 rfl (by kernel_rfl) fun i x h hi hw=>X10.pure x h hw
def X10.e:GE:=⟨58,X4h,⟨_,Tryz.func58,rfl,rfl⟩,X10.ok⟩
def X4g:Con:={A:=.str,shA:=[.one],R:=(.pair X60 .bool),shR:=[(false,1),(false,1)],fresh:=[(0,107)],pre:=fun _ _=>True,f:=some fun _ a=>((X0t a),((),()))}
def X18.F(a0:U4q):Prop:=(True∧∀r1,(Eq r1 ((X0d a0),((),())))→(True∧∀r2,(Eq r2 ((X04 r1.1.1),((),())))→(X00 (r1.1.2.2 !=(0:Int)) (Eq ((([]:U5q),false),((),())) ((X0t a0),((),()))) (X00 (r2.1.2==(0:Int)) (Eq ((([]:U5q),false),((),())) ((X0t a0),((),()))) (0≤r2.1.2∧(r2.1.2≤(ln r1.1.1)∧(True∧∀r3,(Eq r3 ((X2v (List.drop (tN r2.1.2) r1.1.1) r2.1.1),((),())))→(0≤(wI (r2.1.2+r3.1.2))∧((wI (r2.1.2+r3.1.2))≤(ln r1.1.1)∧(True∧∀r4,(Eq r4 ((X2z (List.drop (tN (wI (r2.1.2+r3.1.2))) r1.1.1) r2.1.1),((),())))→(X00 ((ln r3.1.1)!=r2.1.1) (Eq ((([]:U5q),false),((),())) ((X0t a0),((),()))) (X00 ((ln r4.1.1)!=r2.1.1) (Eq ((([]:U5q),false),((),())) ((X0t a0),((),()))) (eS [(0,.val false [.str a0]),(11,.val false [.lst (.int .i64) r4.1.1 none]),(62,.val false [.lst (.int .i64) r3.1.1 none]),(63,.val false [.int .i64 (ln r3.1.1)])] [(0,.val false [.str a0]),(11,.val false [.lst (.int .i64) r4.1.1 none]),(62,.val false [.lst (.int .i64) r3.1.1 none]),(63,.val false [.int .i64 (ln r3.1.1)])]∧((rbI a0 0 ([]:List (Int×Int)))∧∀(y5:(Int×U5q)),(rbI a0 y5.1 y5.2)→(X00 (decide (y5.1<(ln r3.1.1))) (0≤y5.1∧(y5.1<(ln r3.1.1)∧(0≤y5.1∧(y5.1<(ln r4.1.1)∧(List.length y5.2+List.length [((List.getD r3.1.1 (tN y5.1) 0),(List.getD r4.1.1 (tN y5.1) 0))]≤9223372036854775807∧((List.length y5.2+List.length [((List.getD r3.1.1 (tN y5.1) 0),(List.getD r4.1.1 (tN y5.1) 0))])*16≤140737488355328∧(eS [(0,.val false [.str a0]),(11,.val false [.lst (.int .i64) r4.1.1 none]),(62,.val false [.lst (.int .i64) r3.1.1 none]),(63,.val false [.int .i64 (ln r3.1.1)])] [(0,.val false [.str a0]),(11,.val false [.lst (.int .i64) r4.1.1 none]),(62,.val false [.lst (.int .i64) r3.1.1 none]),(63,.val false [.int .i64 (ln r3.1.1)])]∧(rbI a0 (wI (y5.1+(1:Int))) (y5.2++[((List.getD r3.1.1 (tN y5.1) 0),(List.getD r4.1.1 (tN y5.1) 0))]))∧(rbM a0 (wI (y5.1+(1:Int))) (y5.2++[((List.getD r3.1.1 (tN y5.1) 0),(List.getD r4.1.1 (tN y5.1) 0))]))<(rbM a0 y5.1 y5.2)))))))) (True∧∀r6,(Eq r6 ((X0c y5.2),((),())))→(X00 (!(r6.1==a0)) (Eq ((([]:U5q),false),((),())) ((X0t a0),((),()))) (Eq ((y5.2,true),((),())) ((X0t a0),((),()))))))))))))))))))))
def X18.L(a0:U4q):Nat→Option X0a:=fun p=>Go.Proofs.YtgmafgmjbaoomaaGreat.Bv.look p [(4090,{kp:={hold:=[0,11,62,63],slots:=[13,64],boxes:=[],rows:=[{bx:=false,s:=13,i:=0,k:=1001667,e:=107,hot:=true}]},T:=(.pair (.int .i64) X60),I:=fun st y=>rbI a0 y.1 y.2,μ:=fun st y=>rbM a0 y.1 y.2})]
theorem X18.pure(a0:U4q)(h:True)(hw:Wf X4g.A a0):X18.F a0:=by
 delta X18.F ln tN wI eS
 simp only[Bs,B0,B1,Prod.mk.injEq,X03]
 have u1:=XaP a0
 have vb:=X1V (X0d a0).1
 have tb:=Xec ((X0d a0).1.drop (bA a0).toNat) (bN a0)
 have wb:=Xe0 ((X0d a0).1.drop (bA a0+(bT a0).2).toNat) (bN a0)
 rw[List.length_drop]at tb wb
 change 0≤(bT a0).2∧(bT a0).2≤_∧((bT a0).2=0→(bT a0).1=[])∧((bT a0).2≠0→RT _ _ (bT a0).1) at tb
 change 0≤(bV a0).2∧(bV a0).2≤_∧((bV a0).2=0→(bV a0).1=[])∧((bV a0).2≠0→RV _ _ (bV a0).1) at wb
 have eN:(X04 (X0d a0).1).1=bN a0:=rfl
 have eA:(X04 (X0d a0).1).2=bA a0:=rfl
 rw[eN,eA]at vb
 simp only[eN,eA]
 have eT:X2v ((X0d a0).1.drop (bA a0).toNat) (bN a0)=bT a0:=rfl
 rw[eT,w64 (x:=bA a0+(bT a0).2) (by omega) (by omega)]
 have eV:X2z ((X0d a0).1.drop (bA a0+(bT a0).2).toNat) (bN a0)=bV a0:=rfl
 rw[eV]
 have tl:(bT a0).1.length≤60:=Xkc _ _
 have wl:(bV a0).1.length≤60:=Xj5 _ _
 refine⟨fun h1=>X5x fun l hl=>?_,fun h1=>⟨fun h2=>X5x fun l hl=>?_,fun h2=>⟨by omega,by omega,by omega,by omega,fun h3=>X5x fun l hl=>?_,fun h3=>⟨fun h4=>X5x fun l hl=>?_,fun h4=>?_⟩⟩⟩⟩
 · have:=hl.facts.h1;rw[this]at h1;exact h1 rfl
 · have f:=hl.facts;have:=f.h3;have:=f.h3';omega
 · have f:=hl.facts;rw[f.h4,f.h2]at h3;exact h3 (by simp)
 · have f:=hl.facts;rw[f.h5,f.h2]at h4;exact h4 (by simp)
 · have zl:(bC a0).length=(bT a0).1.length:=by unfold bC;rw[List.length_zip];omega
   refine⟨⟨by omega,by omega,rfl,by simp⟩,fun y hI=>?_⟩
   obtain⟨i,out⟩:=y
   simp only at hI ⊢
   have g1:=hI.1
   have g2:=hI.2.1
   have g3:=hI.2.2.1
   refine⟨fun hi=>?_,fun hi=>?_⟩
   · rw[w64 (x:=i+1) (by omega) (by omega)]
     exact⟨by omega,by omega,by omega,by omega,by omega,by omega,Xk7 hI (by omega),by unfold rbM;omega⟩
   · have e:=XiR hI (by omega)
     have hs:a0≠[]:=fun h=>by
      subst h
      have:X0d ([]:List UInt8)=([],0,1):=rfl
      rw[this]at h1;exact absurd h1 (by decide)
     refine⟨fun h5=>X5x fun l hl=>h5 ?_,fun h5=>Xc5 (RB_of h5 hs)⟩
     rw[e,hl.facts.h6];exact hl.show
theorem X18.eq:EqS X4g Tryz.f96 [91,4] [X1w.e,X1b.e,X2t.e,X1g.e,X0W.e] [] (fun i x=>X18.L x) (fun i x=>X18.F x):=by intro i x;kernel_rfl
theorem X18.ok:X0o Tryz.prog 96 X4g:=X2u X18.eq Tryz.func96 rfl (by kernel_rfl) fun i x h hi hw=>X18.pure x h hw
def X18.e:GE:=⟨96,X4g,⟨_,Tryz.func96,rfl,rfl⟩,X18.ok⟩
end Go.Proofs.YtgmafgmjbaoomaaGreat.B
