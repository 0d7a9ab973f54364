/- Blocks:read. -/
import Derived.Test.YtegmokdppbagiaaCReadB
import Derived.Test.YtegmokdppbagiaaCBlk
set_option maxRecDepth 100000
set_option linter.unusedVariables false
set_option linter.unusedSimpArgs false
namespace Go.Proofs.Ytegmokdppbagiaa.B
open Go Go.Proofs.Ytegmokdppbagiaa.Bv
def be(l:List UInt8):Int:=l.foldl (fun n b=>n*256+(b.toNat:Int)) 0
theorem XcL(l:List UInt8)(b:UInt8):be (l++[b])=be l*256+(b.toNat:Int):=by simp[be]
theorem XiY(w:Nat):∀(l:List UInt8),l.length=w→0≤be l∧be l<256 ^ w:=by
 induction w with
 | zero=>intro l hl;rw[List.length_eq_zero_iff.1 hl];decide
 | succ w ih=>
   intro l hl
   obtain⟨r,b,rfl⟩:∃r b,l=r++[b]:=by
    rcases List.eq_nil_or_concat l with h | ⟨r,b,h⟩
    · rw[h]at hl;simp at hl
    · exact⟨r,b,by rw[h,List.concat_eq_append]⟩
   have:=ih r (by simpa using hl)
   have hb:=b.toNat_lt
   rw[XcL,Int.pow_succ]
   generalize (256:Int) ^ w=p at*
   omega
theorem XeT:∀(w n:Nat),n<256 ^ w→be (X1i (fx w n))=n
 | 0,n,h=>by have:n=0:=by omega
             subst this;rfl
 | w+1,n,h=>by
   have h1:n / 256<256 ^ w:=by rw[Nat.pow_succ]at h;omega
   rw[fx,X9L,show X1i [((n % 256:Nat):Int)]=[UInt8.ofNat (n % 256)] from rfl,XcL,XeT w _ h1,UInt8.toNat_ofNat']
   omega
def X0j(s:List UInt8)(w:Int):Int×Bool:=if fIn w 1 7=true∧w≤(s.length:Int) then(be (s.take w.toNat),true) else(0,false)
def rfI(s:List UInt8)(w n i:Int):Prop:=0≤i∧i≤w∧1≤w∧w≤7∧w≤(s.length:Int)∧n=be (s.take i.toNat)
def rfM(s:List UInt8)(w n i:Int):Nat:=(w - i).toNat
theorem Xbp{i:Nat}(h:i≤6):(256:Int) ^ i≤281474976710656:=by
 have h1:i=0∨i=1∨i=2∨i=3∨i=4∨i=5∨i=6:=by omega
 rcases h1 with h | h | h | h | h | h | h<;>subst h<;>decide
theorem Xil{s:List UInt8}{w n i:Int}(h:rfI s w n i)(hi:i<w):(0≤n∧n<281474976710656)∧rfI s w (n*256+((s.getD i.toNat 0).toNat:Int)) (i+1):=by
 obtain⟨h1,h2,h3,h4,h5,h6⟩:=h
 have hb:=XiY i.toNat (s.take i.toNat) (by rw[List.length_take];omega)
 have hp:=Xbp (i:=i.toNat) (by omega)
 refine⟨by omega,by omega,by omega,h3,h4,h5,?_⟩
 rw[show(i+1).toNat=i.toNat+1 by omega,X4G (by omega),XcL,h6]
theorem or256{n:Int}{b:Nat}(h:0≤n)(h2:n<281474976710656)(hb:b<256):IntKind.wrap .i64 (BitVec.toNat (BitVec.ofInt (IntKind.bits .i64) (n*256)|||BitVec.ofInt (IntKind.bits .i64) (b:Int)))=n*256+b:=by
 obtain⟨k,rfl⟩:∃k:Nat,n=k:=⟨n.toNat,by omega⟩
 have e1:BitVec.ofInt (IntKind.bits .i64) (((k:Int))*256)=BitVec.ofNat 64 (k*256):=by
  show BitVec.ofInt 64 (((k:Int))*256)=_
  rw[show((k:Int)*256)=((k*256:Nat):Int) by omega,BitVec.ofInt_natCast]
 have e2:BitVec.ofInt (IntKind.bits .i64) (b:Int)=BitVec.ofNat 64 b:=BitVec.ofInt_natCast 64 b
 rw[e1,e2]
 have e3:(BitVec.ofNat 64 (k*256)|||BitVec.ofNat 64 b).toNat=k*256+b:=by
  rw[BitVec.toNat_or,BitVec.toNat_ofNat,BitVec.toNat_ofNat,Nat.mod_eq_of_lt (by omega),Nat.mod_eq_of_lt (by omega),Nat.mul_comm]
  exact(Nat.two_pow_add_eq_or_of_lt (i:=8) (by omega) k).symm
 show IntKind.wrap .i64 (((BitVec.ofNat 64 (k*256)|||BitVec.ofNat 64 b).toNat:Nat):Int)=_
 rw[e3,w64 (by omega) (by omega)];omega
def X2J:Con:={A:=(.pair .str (.int .i64)),shA:=[.one,.one],R:=(.pair (.int .i64) .bool),shR:=[(false,1),(false,1)],pre:=fun _ _=>True,f:=some fun _ a=>((X0j a.1 a.2),((),()))}
def X0B.F(a0:U3q)(a1:Int):Prop:=(True∧∀r1,(Eq r1 ((fIn a1 1 7),((),())))→(X04 (!r1.1) (Eq ((0,false),((),())) ((X0j a0 a1),((),()))) (X04 (decide ((ln a0)<a1)) (Eq ((0,false),((),())) ((X0j a0 a1),((),()))) (eS [(0,.val false [.str a0]),(17,.val false [.int .i64 a1])] [(0,.val false [.str a0]),(17,.val false [.int .i64 a1])]∧((rfI a0 a1 0 0)∧∀(y2:(Int×Int)),(rfI a0 a1 y2.1 y2.2)→(X04 (decide (y2.2<a1)) (0≤(8:Int)∧(0≤y2.2∧(y2.2<(ln a0)∧(eS [(0,.val false [.str a0]),(17,.val false [.int .i64 a1])] [(0,.val false [.str a0]),(17,.val false [.int .i64 a1])]∧(rfI a0 a1 (IntKind.wrap .i64 (BitVec.toNat (BitVec.ofInt (IntKind.bits .i64) (wI (y2.1*2 ^ (min (tN (8:Int)) (IntKind.bits .i64))))|||BitVec.ofInt (IntKind.bits .i64) (wI ((UInt8.toNat (List.getD a0 (tN y2.2) 0):Nat):Int))))) (wI (y2.2+(1:Int))))∧(rfM a0 a1 (IntKind.wrap .i64 (BitVec.toNat (BitVec.ofInt (IntKind.bits .i64) (wI (y2.1*2 ^ (min (tN (8:Int)) (IntKind.bits .i64))))|||BitVec.ofInt (IntKind.bits .i64) (wI ((UInt8.toNat (List.getD a0 (tN y2.2) 0):Nat):Int))))) (wI (y2.2+(1:Int))))<(rfM a0 a1 y2.1 y2.2))))) (Eq ((y2.1,true),((),())) ((X0j a0 a1),((),())))))))))
def X0B.L(a0:U3q)(a1:Int):Nat→Option X0g:=fun p=>Go.Proofs.Ytegmokdppbagiaa.Bv.look p [(122,{kp:={hold:=[0,17],slots:=[6,18],boxes:=[],rows:=[]},T:=T0q,I:=fun st y=>rfI a0 a1 y.1 y.2,μ:=fun st y=>rfM a0 a1 y.1 y.2})]
theorem X0B.pure(a0:U3q)(a1:Int)(h:True)(hw:Wf X2J.A (a0,a1)):X0B.F a0 a1:=by
 delta X0B.F ln tN wI eS
 simp only[Bs,B0,B1,Prod.mk.injEq,X06]
 refine⟨fun h1=>by simp[X0j,h1],fun h1=>⟨fun h2=>by unfold X0j;rw[if_neg (by omega)],fun h2=>?_⟩⟩
 have hw7:=X0Z.1 h1
 refine⟨⟨by omega,by omega,by omega,by omega,by omega,rfl⟩,fun y hI=>?_⟩
 obtain⟨n,i⟩:=y
 simp only at hI ⊢
 have g1:=hI.1
 have g2:=hI.2.1
 have hx:=(a0.getD i.toNat 0).toNat_lt
 refine⟨fun hi=>?_,fun hi=>?_⟩
 · obtain⟨hn,step⟩:=Xil hI hi
   rw[show(min (Int.toNat 8) (IntKind.bits .i64))=8 from rfl,show(2:Int) ^ 8=256 from rfl,w64 (x:=((a0.getD i.toNat 0).toNat:Int)) (by omega) (by omega),w64 (x:=n*256) (by omega) (by omega),or256 hn.1 hn.2 hx,w64 (x:=i+1) (by omega) (by omega)]
   exact⟨by omega,by omega,by omega,step,by unfold rfM;omega⟩
 · have e:i=a1:=by omega
   unfold X0j
   rw[if_pos ⟨h1,by omega⟩,hI.2.2.2.2.2,e]
theorem X0B.eq:EqS X2J Try.f39 [3,4] [X0O.e] [] (fun i x=>X0B.L x.1 x.2) (fun i x=>X0B.F x.1 x.2):=by intro i x;kernel_rfl
theorem X0B.ok:X11 Try.prog 39 X2J:=X3V X0B.eq Try.func39 rfl (by kernel_rfl) fun i x h hi hw=>X0B.pure x.1 x.2 h hw
def X0B.e:GE:=⟨39,X2J,⟨_,Try.func39,rfl,rfl⟩,X0B.ok⟩
def X0l(s:List UInt8):List UInt8×(Int×Int):=
 if (X0j s 4).2=false then([],0,1)
 else if fIn (X0j s 4).1 1 2000=false then([],0,2)
 else if (s.length:Int)<(X0j s 4).1+8 then([],0,1)
 else if X1W ((s.take ((X0j s 4).1+8).toNat).drop 8)=s.take ((X0j s 4).1+8).toNat then((s.take ((X0j s 4).1+8).toNat).drop 8,(X0j s 4).1+8,0)
 else([],0,2)
theorem XiW{s:List UInt8}{w:Int}:0≤(X0j s w).1∧(X0j s w).1<72057594037927936:=by
 unfold X0j
 split
 · rename_i h
   have h1:=X0Z.1 h.1
   have hb:=XiY w.toNat (s.take w.toNat) (by rw[List.length_take];omega)
   have:(256:Int) ^ w.toNat≤72057594037927936:=by
    by_cases h7:w.toNat≤6
    · have:=Xbp h7;omega
    · rw[show w.toNat=7 by omega];decide
   simp only;omega
 · simp
theorem XfS{n:Nat}(h:n≤2000):X0s n 4=X1i (fx 4 n):=by
 unfold X0s
 rw[if_pos ⟨by decide,by omega,by rw[show(4:Int).toNat=4 from rfl];omega⟩];rfl
theorem X4D(l:List Int):(X1i l).length=l.length:=by simp[X1i]
theorem X5h(s:List UInt8):(X0s (X6G s) 4).length=4:=by
 have:=X91 s
 unfold X0s
 rw[if_pos ⟨by decide,by omega,by rw[show(4:Int).toNat=4 from rfl];omega⟩,X4D,X4V];rfl
theorem XaG{b:List UInt8}(h:1≤b.length∧b.length≤2000):(X1W b).length=b.length+8∧X0l (X1W b)=(b,((b.length:Int)+8,0)):=by
 have e:X1W b=X0s b.length 4++X0s (X6G (X0s b.length 4++b)) 4++b:=by
  unfold X1W;rw[if_pos (X0Z.2 (by omega))]
 have l1:(X0s b.length 4).length=4:=by rw[XfS h.2,X4D,X4V]
 have l2:=X5h (X0s b.length 4++b)
 have hl:(X1W b).length=b.length+8:=by rw[e,List.length_append,List.length_append,l1,l2];omega
 have hr:X0j (X1W b) 4=((b.length:Int),true):=by
  unfold X0j
  rw[if_pos ⟨by decide,by omega⟩,e,List.append_assoc,show(4:Int).toNat=(X0s b.length 4).length from l1.symm,List.take_left,XfS h.2,XeT 4 _ (by omega)]
 refine⟨hl,?_⟩
 have hb:(X1W b).drop 8=b:=by
  rw[e,show 8=(X0s b.length 4++X0s (X6G (X0s b.length 4++b)) 4).length by rw[List.length_append,l1,l2],List.drop_left]
 unfold X0l
 rw[hr]
 simp only
 have e8:((b.length:Int)+8).toNat=(X1W b).length:=by rw[hl];omega
 rw[if_neg (by decide),if_neg (by rw[X0Z.2 (by omega)];decide),if_neg (by omega),e8,List.take_length,hb,if_pos rfl]
theorem X9M(s:List UInt8):X0l s=([],0,1)∨X0l s=([],0,2)∨((X0l s).2.2=0∧1≤(X0l s).1.length∧(X0l s).1.length≤2000∧(X0l s).2.1=(X0l s).1.length+8∧(X0l s).2.1≤s.length∧X1W (X0l s).1=s.take (X0l s).2.1.toNat):=by
 unfold X0l
 split
 · exact .inl rfl
 split
 · exact .inr (.inl rfl)
 split
 · exact .inl rfl
 split
 · rename_i h1 h2 h3 h4
   have h5:=X0Z.1 (show fIn (X0j s 4).1 1 2000=true by cases e:fIn (X0j s 4).1 1 2000;exact absurd e h2;rfl)
   refine .inr (.inr ⟨rfl,?_,?_,?_,by simp only;omega,h4⟩)<;>simp only[List.length_drop,List.length_take]<;>omega
 · exact .inr (.inl rfl)
theorem Xc7(s:List UInt8):(X0l s).1.length≤2000:=by
 rcases X9M s with h | h | h
 · rw[h];simp
 · rw[h];simp
 · exact h.2.2.1
def X3D:Con:={A:=.str,shA:=[.one],R:=(.pair .str T0q),shR:=[(false,1),(false,1),(false,1)],pre:=fun _ _=>True,f:=some fun _ a=>((X0l a),((),()))}
def X1m.F(a0:U3q):Prop:=(True∧∀r1,(Eq r1 ((X0j a0 4),((),())))→(X04 (!r1.1.2) (Eq (([],(0,1)),((),())) ((X0l a0),((),()))) (True∧∀r2,(Eq r2 ((fIn r1.1.1 1 2000),((),())))→(X04 (!r2.1) (Eq (([],(0,2)),((),())) ((X0l a0),((),()))) (X04 (decide ((ln a0)<(wI (r1.1.1+(8:Int))))) (Eq (([],(0,1)),((),())) ((X0l a0),((),()))) (0≤(8:Int)∧((8:Int)≤(wI (r1.1.1+(8:Int)))∧((wI (r1.1.1+(8:Int)))≤(ln a0)∧(True∧∀r3,(Eq r3 ((X1W (List.drop (tN (8:Int)) (List.take (tN (wI (r1.1.1+(8:Int)))) a0))),((),())))→(0≤(wI (r1.1.1+(8:Int)))∧((wI (r1.1.1+(8:Int)))≤(ln a0)∧(X04 (!(r3.1==(List.take (tN (wI (r1.1.1+(8:Int)))) a0))) (Eq (([],(0,2)),((),())) ((X0l a0),((),()))) (Eq (((List.drop (tN (8:Int)) (List.take (tN (wI (r1.1.1+(8:Int)))) a0)),((wI (r1.1.1+(8:Int))),0)),((),())) ((X0l a0),((),())))))))))))))))
theorem X1m.pure(a0:U3q)(h:True)(hw:Wf X3D.A a0):X1m.F a0:=by
 delta X1m.F ln tN wI
 have hb:=XiW (s:=a0) (w:=4)
 simp only[Bs,B0,B1,Prod.mk.injEq,X06]
 repeat' (with_reducible (first | (refine And.intro ?_ ?_) | intro _))
 all_goals (try simp (disch:=omega) only[w64,wu8,tn0,tn1,tm1,tm2,List.length_append,List.length_cons,List.length_nil]at*)
 all_goals (try simp (disch:=omega) only[w64,wu8,tn0,tn1,tm1,tm2,List.length_append,List.length_cons,List.length_nil]at*)
 all_goals (try omega)
 all_goals (try grind[X0l,X0Z])
theorem X1m.eq:EqS X3D Try.f88 [9,3,3] [X0B.e,X1O.e,X0O.e] [] noL (fun i x=>X1m.F x):=by intro i x;kernel_rfl
theorem X1m.ok:X11 Try.prog 88 X3D:=X3V X1m.eq Try.func88 rfl (by kernel_rfl) fun i x h hi hw=>X1m.pure x h hw
def X1m.e:GE:=⟨88,X3D,⟨_,Try.func88,rfl,rfl⟩,X1m.ok⟩
theorem X9w(l:List Pt)(i:Nat):(l.map (·.1)).getD i 0=(l.getD i (0,0)).1:=by
 simp only[List.getD_eq_getElem?_getD,List.getElem?_map];cases l[i]?<;>rfl
theorem Xfb(l:List Pt)(i:Nat):(l.map (·.2)).getD i 0=(l.getD i (0,0)).2:=by
 simp only[List.getD_eq_getElem?_getD,List.getElem?_map];cases l[i]?<;>rfl
theorem X7m{l:List Pt}:X0N l=true↔l.length≤60∧∀j,j<l.length→X8R l j=true:=by
 simp only[X0N,Bool.and_eq_true,decide_eq_true_eq,X7d]
theorem XaL{l:List Pt}{i:Nat}:X8R l i=true↔X8U (l.map (·.1)) i=true∧X4S (l.map (·.2)) i=true:=by
 simp only[X8R,X8U,X4S,X9w,Xfb,Bool.and_eq_true]
 exact⟨fun h=>⟨⟨h.1,h.2.2⟩,h.2.1⟩,fun h=>⟨h.1.1,h.2,h.1.2⟩⟩
theorem XhR{l:List Pt}:(X0N l=true∧l≠[])↔X7M (l.map (·.1))=true∧X7K (l.map (·.2))=true:=by
 rw[X7m,X2A,X35]
 simp only[List.length_map,XaL]
 constructor
 · rintro⟨⟨h1,h2⟩,h3⟩
   have:=List.length_pos_iff.2 h3
   exact⟨⟨⟨by omega,h1⟩,fun j hj=>(h2 j hj).1⟩,⟨by omega,h1⟩,fun j hj=>(h2 j hj).2⟩
 · rintro⟨⟨h1,h2⟩,h3,h4⟩
   exact⟨⟨h1.2,fun j hj=>⟨h2 j hj,h4 j hj⟩⟩,List.length_pos_iff.1 (by omega)⟩
def X5D(l:List Pt):List UInt8:=X27 l.length++X0h (l.map (·.1))++X0d (l.map (·.2))
def RB(s:List UInt8)(l:List Pt):Prop:=(X0N l=true∧l≠[])∧X1W (X5D l)=s
instance (s:List UInt8) (l:List Pt):Decidable (RB s l):=by unfold RB;infer_instance
def bN(s:List UInt8):Int:=(X0i (X0l s).1).1
def bA(s:List UInt8):Int:=(X0i (X0l s).1).2
def bT(s:List UInt8):List Int×Int:=X2z ((X0l s).1.drop (bA s).toNat) (bN s)
def bV(s:List UInt8):List Int×Int:=X2y ((X0l s).1.drop (bA s+(bT s).2).toNat) (bN s)
def bC(s:List UInt8):List Pt:=(bT s).1.zip (bV s).1
def X1h(s:List UInt8):List Pt×Bool:=if RB s (bC s) then(bC s,true) else([],false)
theorem Xfs{l:List Pt}(h:X0N l=true∧l≠[]):1≤(X5D l).length∧(X5D l).length≤2000:=by
 have h1:=X53 h.1
 have h2:=List.length_pos_iff.2 h.2
 have h3:=X59 (v:=(l.length:Int)) (by unfold X3j;omega)
 have h4:=X0m l.length
 have h5:=X4W (l.map (·.1))
 have h6:=X4j (l.map (·.2))
 simp only[X5D,List.length_append];omega
structure RBf (s:List UInt8) (l:List Pt):Prop where
 h1:X0l s=(X5D l,((s.length:Int),0))
 h2:bN s=l.length
 h3:bA s=(X27 l.length).length
 h3':0<(X27 l.length).length
 h4:bT s=(l.map (·.1),((X0h (l.map (·.1))).length:Int))
 h4':0<(X0h (l.map (·.1))).length
 h5:bV s=(l.map (·.2),((X0d (l.map (·.2))).length:Int))
 h5':0<(X0d (l.map (·.2))).length
 h6:bC s=l
theorem XdR:∀l:List Pt,(l.map (·.1)).zip (l.map (·.2))=l
 | []=>rfl
 | x::l=>by simp only[List.map_cons,List.zip_cons_cons];rw[XdR l]
theorem RB.facts{s:List UInt8}{l:List Pt}(h:RB s l):RBf s l:=by
 obtain⟨h0,rfl⟩:=h
 have hb:=Xfs h0
 obtain⟨hl,hu⟩:=XaG hb
 have h1:=X53 h0.1
 have h2:=List.length_pos_iff.2 h0.2
 have hv:X3j (l.length:Int):=by unfold X3j;omega
 have h3:=X59 hv
 obtain⟨k1,k2⟩:=XhR.1 h0
 have q1:X0l (X1W (X5D l))=(X5D l,(((X1W (X5D l)).length:Int),0)):=by rw[hu,hl];rfl
 have qv:X0i (X5D l)=((l.length:Int),((X27 l.length).length:Int)):=by
  unfold X5D;rw[List.append_assoc];exact XeM hv _
 have q2:bN (X1W (X5D l))=l.length:=by unfold bN;rw[q1,qv]
 have q3:bA (X1W (X5D l))=(X27 l.length).length:=by unfold bA;rw[q1,qv]
 have e1:(X5D l).drop (X27 l.length).length=X0h (l.map (·.1))++X0d (l.map (·.2)):=by
  unfold X5D;rw[List.append_assoc,List.drop_left]
 have rt:RT (X0h (l.map (·.1))++X0d (l.map (·.2))) l.length (l.map (·.1)):=⟨by simp,k1,by rw[←X61 k1,List.take_left]⟩
 have q4:bT (X1W (X5D l))=(l.map (·.1),((X0h (l.map (·.1))).length:Int)):=by
  unfold bT;rw[q1,q2,q3,Int.toNat_natCast,e1,XbO rt,X61 k1]
 have e2:(X5D l).drop ((X27 l.length).length+(X0h (l.map (·.1))).length)=X0d (l.map (·.2)):=by
  rw[←List.drop_drop,e1,List.drop_left]
 have rv:RV (X0d (l.map (·.2))) l.length (l.map (·.2)):=⟨by simp,k2,by rw[←X63 k2,List.take_length]⟩
 have q5:bV (X1W (X5D l))=(l.map (·.2),((X0d (l.map (·.2))).length:Int)):=by
  unfold bV;rw[q1,q2,q3,q4]
  simp only
  rw[show(((X27 l.length).length:Int)+((X0h (l.map (·.1))).length:Int)).toNat=(X27 l.length).length+(X0h (l.map (·.1))).length by omega,e2,Xc6 rv,X63 k2]
 have m1:(l.map (·.1)).length=l.length:=by simp
 have m2:(l.map (·.2)).length=l.length:=by simp
 exact⟨q1,q2,q3,h3,q4,by rw[X61 k1];exact X6q (X77 _ k1 0 (by omega)) _ (by omega),q5,by rw[X63 k2];exact X6q (X84 _ k2 0 (by omega)) _ (by omega),by unfold bC;rw[q4,q5];exact XdR l⟩
theorem Xcc{s:List UInt8}{l:List Pt}(h:RB s l):(l,true)=X1h s:=by
 unfold X1h;rw[h.facts.h6,if_pos h]
theorem X78{s:List UInt8}(h:∀l,¬RB s l):([],false)=X1h s:=by
 unfold X1h;rw[if_neg (h _)]
theorem RB.show{s:List UInt8}{l:List Pt}(h:RB s l):X03 l=s:=by
 unfold X03;rw[if_pos h.1];exact h.2
theorem RB_of{s:List UInt8}{l:List Pt}(h:X03 l=s)(h2:s≠[]):RB s l:=by
 unfold X03 at h
 split at h
 · rename_i h3;exact⟨h3,h⟩
 · exact absurd h.symm h2
theorem Xh0(s:List UInt8)(n:Int):0≤(X2z s n).2∧(X2z s n).2≤s.length∧((X2z s n).2=0→(X2z s n).1=[])∧((X2z s n).2≠0→RT s n (X2z s n).1):=by
 rcases X8K s n with⟨e,_⟩ | ⟨l,hl,e⟩
 · rw[e];simp
 · have h:=hl.2.2
   have h2:=congrArg List.length h
   rw[List.length_take]at h2
   have h1:=(X2A.1 hl.2.1).1
   have hp:=X6q (X77 l hl.2.1 0 (by omega)) l.length (by omega)
   rw[e];simp only
   exact⟨by omega,by omega,fun h=>by omega,fun _=>hl⟩
theorem Xh3(s:List UInt8)(n:Int):0≤(X2y s n).2∧(X2y s n).2≤s.length∧((X2y s n).2=0→(X2y s n).1=[])∧((X2y s n).2≠0→RV s n (X2y s n).1):=by
 rcases X8T s n with⟨e,_⟩ | ⟨l,hl,e⟩
 · rw[e];simp
 · have h:=hl.2.2
   have h2:=congrArg List.length h
   rw[List.length_take]at h2
   have h1:=(X35.1 hl.2.1).1
   have hp:=X6q (X84 l hl.2.1 0 (by omega)) l.length (by omega)
   rw[e];simp only
   exact⟨by omega,by omega,fun h=>by omega,fun _=>hl⟩
theorem Xg3(s:List UInt8)(n:Int):(X2z s n).1.length≤60:=by
 rcases X8K s n with⟨e,_⟩ | ⟨l,hl,e⟩
 · rw[e];simp
 · rw[e];exact(X2A.1 hl.2.1).1.2
theorem Xf1(s:List UInt8)(n:Int):(X2y s n).1.length≤60:=by
 rcases X8T s n with⟨e,_⟩ | ⟨l,hl,e⟩
 · rw[e];simp
 · rw[e];exact(X35.1 hl.2.1).1.2
def rbI(s:List UInt8)(i:Int)(out:List Pt):Prop:=0≤i∧i≤(bC s).length∧(out.length:Int)=i∧out=(bC s).take i.toNat
def rbM(s:List UInt8)(i:Int)(out:List Pt):Nat:=((bC s).length - i).toNat
theorem XiG{s:List UInt8}{i:Nat}(h:i<(bC s).length):(bC s).getD i (0,0)=((bT s).1.getD i 0,(bV s).1.getD i 0):=by
 unfold bC at h ⊢
 have h':=h
 rw[List.length_zip]at h
 simp only[List.getD_eq_getElem?_getD]
 rw[List.getElem?_eq_getElem h',List.getElem?_eq_getElem (show i<(bT s).1.length by omega),List.getElem?_eq_getElem (show i<(bV s).1.length by omega)]
 simp
theorem Xe6{l:List Pt}{i:Nat}(hi:i<l.length):l.take (i+1)=l.take i++[l.getD i (0,0)]:=by
 rw[List.take_add_one,List.getD_eq_getElem?_getD,List.getElem?_eq_getElem hi];rfl
theorem Xib{s:List UInt8}{i:Int}{out:List Pt}(h:rbI s i out)(hi:i<(bC s).length):rbI s (i+1) (out++[((bT s).1.getD i.toNat 0,(bV s).1.getD i.toNat 0)]):=by
 obtain⟨h1,h2,h3,h4⟩:=h
 refine⟨by omega,by omega,by simp;omega,?_⟩
 rw[show(i+1).toNat=i.toNat+1 by omega,Xe6 (by omega),XiG (by omega),h4]
theorem Xic{s:List UInt8}{i:Int}{out:List Pt}(h:rbI s i out)(hi:¬i<(bC s).length):out=bC s:=by
 obtain⟨h1,h2,h3,h4⟩:=h
 rw[h4,List.take_of_length_le (by omega)]
def X2L:Con:={A:=.str,shA:=[.one],R:=(.pair (.list T0q) .bool),shR:=[(false,1),(false,1)],fresh:=[(0,39)],pre:=fun _ _=>True,f:=some fun _ a=>((X1h a),((),()))}
def X0H.F(a0:U3q):Prop:=(True∧∀r1,(Eq r1 ((X0l a0),((),())))→(True∧∀r2,(Eq r2 ((X0i r1.1.1),((),())))→(X04 (r1.1.2.2 !=(0:Int)) (Eq ((([]:U4q),false),((),())) ((X1h a0),((),()))) (X04 (r2.1.2==(0:Int)) (Eq ((([]:U4q),false),((),())) ((X1h a0),((),()))) (0≤r2.1.2∧(r2.1.2≤(ln r1.1.1)∧(True∧∀r3,(Eq r3 ((X2z (List.drop (tN r2.1.2) r1.1.1) r2.1.1),((),())))→(0≤(wI (r2.1.2+r3.1.2))∧((wI (r2.1.2+r3.1.2))≤(ln r1.1.1)∧(True∧∀r4,(Eq r4 ((X2y (List.drop (tN (wI (r2.1.2+r3.1.2))) r1.1.1) r2.1.1),((),())))→(X04 ((ln r3.1.1)!=r2.1.1) (Eq ((([]:U4q),false),((),())) ((X1h a0),((),()))) (X04 ((ln r4.1.1)!=r2.1.1) (Eq ((([]:U4q),false),((),())) ((X1h a0),((),()))) (eS [(0,.val false [.str a0]),(11,.val false [.lst (.int .i64) r4.1.1 none]),(62,.val false [.lst (.int .i64) r3.1.1 none]),(63,.val false [.int .i64 (ln r3.1.1)])] [(0,.val false [.str a0]),(11,.val false [.lst (.int .i64) r4.1.1 none]),(62,.val false [.lst (.int .i64) r3.1.1 none]),(63,.val false [.int .i64 (ln r3.1.1)])]∧((rbI a0 0 ([]:List (Int×Int)))∧∀(y5:(Int×U4q)),(rbI a0 y5.1 y5.2)→(X04 (decide (y5.1<(ln r3.1.1))) (0≤y5.1∧(y5.1<(ln r3.1.1)∧(0≤y5.1∧(y5.1<(ln r4.1.1)∧(List.length y5.2+List.length [((List.getD r3.1.1 (tN y5.1) 0),(List.getD r4.1.1 (tN y5.1) 0))]≤9223372036854775807∧((List.length y5.2+List.length [((List.getD r3.1.1 (tN y5.1) 0),(List.getD r4.1.1 (tN y5.1) 0))])*16≤140737488355328∧(eS [(0,.val false [.str a0]),(11,.val false [.lst (.int .i64) r4.1.1 none]),(62,.val false [.lst (.int .i64) r3.1.1 none]),(63,.val false [.int .i64 (ln r3.1.1)])] [(0,.val false [.str a0]),(11,.val false [.lst (.int .i64) r4.1.1 none]),(62,.val false [.lst (.int .i64) r3.1.1 none]),(63,.val false [.int .i64 (ln r3.1.1)])]∧(rbI a0 (wI (y5.1+(1:Int))) (y5.2++[((List.getD r3.1.1 (tN y5.1) 0),(List.getD r4.1.1 (tN y5.1) 0))]))∧(rbM a0 (wI (y5.1+(1:Int))) (y5.2++[((List.getD r3.1.1 (tN y5.1) 0),(List.getD r4.1.1 (tN y5.1) 0))]))<(rbM a0 y5.1 y5.2)))))))) (True∧∀r6,(Eq r6 ((X03 y5.2),((),())))→(X04 (!(r6.1==a0)) (Eq ((([]:U4q),false),((),())) ((X1h a0),((),()))) (Eq ((y5.2,true),((),())) ((X1h a0),((),()))))))))))))))))))))
def X0H.L(a0:U3q):Nat→Option X0g:=fun p=>Go.Proofs.Ytegmokdppbagiaa.Bv.look p [(4090,{kp:={hold:=[0,11,62,63],slots:=[13,64],boxes:=[],rows:=[{bx:=false,s:=13,i:=0,k:=1001667,e:=39,hot:=true}]},T:=(.pair (.int .i64) (.list T0q)),I:=fun st y=>rbI a0 y.1 y.2,μ:=fun st y=>rbM a0 y.1 y.2})]
theorem X0H.pure(a0:U3q)(h:True)(hw:Wf X2L.A a0):X0H.F a0:=by
 delta X0H.F ln tN wI eS
 simp only[Bs,B0,B1,Prod.mk.injEq,X06]
 have u1:=Xc7 a0
 have vb:=X3P (X0l a0).1
 have tb:=Xh0 ((X0l a0).1.drop (bA a0).toNat) (bN a0)
 have wb:=Xh3 ((X0l a0).1.drop (bA a0+(bT a0).2).toNat) (bN a0)
 rw[List.length_drop]at tb wb
 change 0≤(bT a0).2∧(bT a0).2≤_∧((bT a0).2=0→(bT a0).1=[])∧((bT a0).2≠0→RT _ _ (bT a0).1) at tb
 change 0≤(bV a0).2∧(bV a0).2≤_∧((bV a0).2=0→(bV a0).1=[])∧((bV a0).2≠0→RV _ _ (bV a0).1) at wb
 have eN:(X0i (X0l a0).1).1=bN a0:=rfl
 have eA:(X0i (X0l a0).1).2=bA a0:=rfl
 rw[eN,eA]at vb
 simp only[eN,eA]
 have eT:X2z ((X0l a0).1.drop (bA a0).toNat) (bN a0)=bT a0:=rfl
 rw[eT,w64 (x:=bA a0+(bT a0).2) (by omega) (by omega)]
 have eV:X2y ((X0l a0).1.drop (bA a0+(bT a0).2).toNat) (bN a0)=bV a0:=rfl
 rw[eV]
 have tl:(bT a0).1.length≤60:=Xg3 _ _
 have wl:(bV a0).1.length≤60:=Xf1 _ _
 refine⟨fun h1=>X78 fun l hl=>?_,fun h1=>⟨fun h2=>X78 fun l hl=>?_,fun h2=>⟨by omega,by omega,by omega,by omega,fun h3=>X78 fun l hl=>?_,fun h3=>⟨fun h4=>X78 fun l hl=>?_,fun h4=>?_⟩⟩⟩⟩
 · have:=hl.facts.h1;rw[this]at h1;exact h1 rfl
 · have f:=hl.facts;have:=f.h3;have:=f.h3';omega
 · have f:=hl.facts;rw[f.h4,f.h2]at h3;exact h3 (by simp)
 · have f:=hl.facts;rw[f.h5,f.h2]at h4;exact h4 (by simp)
 · have zl:(bC a0).length=(bT a0).1.length:=by unfold bC;rw[List.length_zip];omega
   refine⟨⟨by omega,by omega,rfl,by simp⟩,fun y hI=>?_⟩
   obtain⟨i,out⟩:=y
   simp only at hI ⊢
   have g1:=hI.1
   have g2:=hI.2.1
   have g3:=hI.2.2.1
   refine⟨fun hi=>?_,fun hi=>?_⟩
   · rw[w64 (x:=i+1) (by omega) (by omega)]
     exact⟨by omega,by omega,by omega,by omega,by omega,by omega,Xib hI (by omega),by unfold rbM;omega⟩
   · have e:=Xic hI (by omega)
     have hs:a0≠[]:=fun h=>by
      subst h
      have:X0l ([]:List UInt8)=([],0,1):=rfl
      rw[this]at h1;exact absurd h1 (by decide)
     refine⟨fun h5=>X78 fun l hl=>h5 ?_,fun h5=>Xcc (RB_of h5 hs)⟩
     rw[e,hl.facts.h6];exact hl.show
theorem X0H.eq:EqS X2L Try.f42 [32,4] [X0C.e,X0W.e,X1m.e,X0I.e,X0w.e] [] (fun i x=>X0H.L x) (fun i x=>X0H.F x):=by intro i x;kernel_rfl
theorem X0H.ok:X11 Try.prog 42 X2L:=X3V X0H.eq Try.func42 rfl (by kernel_rfl) fun i x h hi hw=>X0H.pure x h hw
def X0H.e:GE:=⟨42,X2L,⟨_,Try.func42,rfl,rfl⟩,X0H.ok⟩
end Go.Proofs.Ytegmokdppbagiaa.B
