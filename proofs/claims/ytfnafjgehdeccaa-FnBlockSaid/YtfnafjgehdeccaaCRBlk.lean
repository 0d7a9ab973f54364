/- Blocks:read. -/
import Derived.Test.YtfnafjgehdeccaaCReadB
import Derived.Test.YtfnafjgehdeccaaCBlk
namespace Go.Proofs.Ytfnafjgehdeccaa.B
set_option linter.unusedVariables false
set_option linter.unusedSimpArgs false
open Go Go.Proofs.Ytfnafjgehdeccaa.Bv
def be (l:List UInt8):Int:=l.foldl (fun n b=>n*256+(b.toNat:Int)) 0
theorem be_snoc (l:List UInt8) (b:UInt8):be (l++[b])=be l*256+(b.toNat:Int):=by simp [be]
theorem be_in (w:Nat):∀(l:List UInt8),l.length=w→0≤be l∧be l<256 ^ w:=by
 induction w with
 | zero=>intro l hl;rw [List.length_eq_zero_iff.1 hl];decide
 | succ w ih=>
   intro l hl
   obtain⟨r,b,rfl⟩:∃r b,l=r++[b]:=by
    rcases List.eq_nil_or_concat l with h | ⟨r,b,h⟩
    · rw [h] at hl;simp at hl
    · exact⟨r,b,by rw [h,List.concat_eq_append]⟩
   have:=ih r (by simpa using hl)
   have hb:=b.toNat_lt
   rw [be_snoc,Int.pow_succ]
   generalize (256:Int) ^ w=p at*
   omega
theorem be_fx:∀(w n:Nat),n<256 ^ w→be (toBytes (fx w n))=n
 | 0,n,h=>by have:n=0:=by omega
             subst this;rfl
 | w+1,n,h=>by
   have h1:n / 256<256 ^ w:=by rw [Nat.pow_succ] at h;omega
   rw [fx,toBytes_append,show toBytes [((n % 256:Nat):Int)]=[UInt8.ofNat (n % 256)] from rfl,be_snoc,be_fx w _ h1,UInt8.toNat_ofNat']
   omega
def fReadFixed (s:List UInt8) (w:Int):Int×Bool:=if fIn w 1 7=true∧w≤(s.length:Int) then (be (s.take w.toNat),true) else (0,false)
def rfI (s:List UInt8) (w n i:Int):Prop:=0≤i∧i≤w∧1≤w∧w≤7∧w≤(s.length:Int)∧n=be (s.take i.toNat)
def rfM (s:List UInt8) (w n i:Int):Nat:=(w - i).toNat
theorem pow256_le {i:Nat} (h:i≤6):(256:Int) ^ i≤281474976710656:=by
 have h1:i=0∨i=1∨i=2∨i=3∨i=4∨i=5∨i=6:=by omega
 rcases h1 with h | h | h | h | h | h | h<;>subst h<;>decide
theorem rf_step {s:List UInt8} {w n i:Int} (h:rfI s w n i) (hi:i<w):(0≤n∧n<281474976710656)∧rfI s w (n*256+((s.getD i.toNat 0).toNat:Int)) (i+1):=by
 obtain⟨h1,h2,h3,h4,h5,h6⟩:=h
 have hb:=be_in i.toNat (s.take i.toNat) (by rw [List.length_take];omega)
 have hp:=pow256_le (i:=i.toNat) (by omega)
 refine⟨by omega,by omega,by omega,h3,h4,h5,?_⟩
 rw [show (i+1).toNat=i.toNat+1 by omega,take_succ_getD (by omega),be_snoc,h6]
theorem or256 {n:Int} {b:Nat} (h:0≤n) (h2:n<281474976710656) (hb:b<256):IntKind.wrap .i64 (BitVec.toNat (BitVec.ofInt (IntKind.bits .i64) (n*256)|||BitVec.ofInt (IntKind.bits .i64) (b:Int)))=n*256+b:=by
 obtain⟨k,rfl⟩:∃k:Nat,n=k:=⟨n.toNat,by omega⟩
 have e1:BitVec.ofInt (IntKind.bits .i64) (((k:Int))*256)=BitVec.ofNat 64 (k*256):=by
  show BitVec.ofInt 64 (((k:Int))*256)=_
  rw [show ((k:Int)*256)=((k*256:Nat):Int) by omega,BitVec.ofInt_natCast]
 have e2:BitVec.ofInt (IntKind.bits .i64) (b:Int)=BitVec.ofNat 64 b:=BitVec.ofInt_natCast 64 b
 rw [e1,e2]
 have e3:(BitVec.ofNat 64 (k*256)|||BitVec.ofNat 64 b).toNat=k*256+b:=by
  rw [BitVec.toNat_or,BitVec.toNat_ofNat,BitVec.toNat_ofNat,Nat.mod_eq_of_lt (by omega),Nat.mod_eq_of_lt (by omega),Nat.mul_comm]
  exact (Nat.two_pow_add_eq_or_of_lt (i:=8) (by omega) k).symm
 show IntKind.wrap .i64 (((BitVec.ofNat 64 (k*256)|||BitVec.ofNat 64 b).toNat:Nat):Int)=_
 rw [e3,w64 (by omega) (by omega)];omega
def c_impl_ReadFixed:Con:={A:=(.pair .str (.int .i64)),shA:=[.one,.one],R:=(.pair (.int .i64) .bool),shR:=[(false,1),(false,1)],pre:=fun _ _=>True,f:=some fun _ a=>((fReadFixed a.1 a.2),((),()))}
def impl_ReadFixed.F (a0:(List UInt8)) (a1:Int):Prop:=(True∧∀r1,(Eq r1 ((fIn a1 1 7),((),())))→(caseB (!r1.1) (Eq ((0,false),((),())) ((fReadFixed a0 a1),((),()))) (caseB (decide ((ln a0)<a1)) (Eq ((0,false),((),())) ((fReadFixed a0 a1),((),()))) (eS [(0,.val false [.str a0]),(17,.val false [.int .i64 a1])] [(0,.val false [.str a0]),(17,.val false [.int .i64 a1])]∧((rfI a0 a1 0 0)∧∀(y2:(Int×Int)),(rfI a0 a1 y2.1 y2.2)→(caseB (decide (y2.2<a1)) (0≤(8:Int)∧(0≤y2.2∧(y2.2<(ln a0)∧(eS [(0,.val false [.str a0]),(17,.val false [.int .i64 a1])] [(0,.val false [.str a0]),(17,.val false [.int .i64 a1])]∧(rfI a0 a1 (IntKind.wrap .i64 (BitVec.toNat (BitVec.ofInt (IntKind.bits .i64) (wI (y2.1*2 ^ (min (tN (8:Int)) (IntKind.bits .i64))))|||BitVec.ofInt (IntKind.bits .i64) (wI ((UInt8.toNat (List.getD a0 (tN y2.2) 0):Nat):Int))))) (wI (y2.2+(1:Int))))∧(rfM a0 a1 (IntKind.wrap .i64 (BitVec.toNat (BitVec.ofInt (IntKind.bits .i64) (wI (y2.1*2 ^ (min (tN (8:Int)) (IntKind.bits .i64))))|||BitVec.ofInt (IntKind.bits .i64) (wI ((UInt8.toNat (List.getD a0 (tN y2.2) 0):Nat):Int))))) (wI (y2.2+(1:Int))))<(rfM a0 a1 y2.1 y2.2))))) (Eq ((y2.1,true),((),())) ((fReadFixed a0 a1),((),())))))))))
def impl_ReadFixed.L (a0:(List UInt8)) (a1:Int):Nat→Option LoopAnn:=fun p=>Go.Proofs.Ytfnafjgehdeccaa.Bv.look p [(122,{kp:={hold:=[0,17],slots:=[6,18],boxes:=[],rows:=[]},T:=(.pair (.int .i64) (.int .i64)),I:=fun st y=>rfI a0 a1 y.1 y.2,μ:=fun st y=>rfM a0 a1 y.1 y.2})]
theorem impl_ReadFixed.pure (a0:(List UInt8)) (a1:Int) (h:True) (hw:Wf c_impl_ReadFixed.A (a0,a1)):impl_ReadFixed.F a0 a1:=by
 delta impl_ReadFixed.F ln tN wI eS
 simp only [forall_eq,true_and,and_true,caseB_iff,Prod.mk.injEq,decide_eq_true_eq,decide_eq_false_iff_not,Bool.not_eq_true',Bool.not_eq_false',bne_iff_ne,ne_eq,beq_iff_eq,Bool.not_true,Bool.not_false,beq_eq_false_iff_ne,bne_eq_false_iff_eq,List.length_append,List.length_cons,List.length_nil,List.append_nil,Nat.zero_add,decide_true,decide_false,eq_self_iff_true]
 refine⟨fun h1=>by simp [fReadFixed,h1],fun h1=>⟨fun h2=>by unfold fReadFixed;rw [if_neg (by omega)],fun h2=>?_⟩⟩
 have hw7:=fIn_iff.1 h1
 refine⟨⟨by omega,by omega,by omega,by omega,by omega,rfl⟩,fun y hI=>?_⟩
 obtain⟨n,i⟩:=y
 simp only at hI ⊢
 have g1:=hI.1
 have g2:=hI.2.1
 have hx:=(a0.getD i.toNat 0).toNat_lt
 refine⟨fun hi=>?_,fun hi=>?_⟩
 · obtain⟨hn,step⟩:=rf_step hI hi
   rw [show (min (Int.toNat 8) (IntKind.bits .i64))=8 from rfl,show (2:Int) ^ 8=256 from rfl,w64 (x:=((a0.getD i.toNat 0).toNat:Int)) (by omega) (by omega),w64 (x:=n*256) (by omega) (by omega),or256 hn.1 hn.2 hx,w64 (x:=i+1) (by omega) (by omega)]
   exact⟨by omega,by omega,by omega,step,by unfold rfM;omega⟩
 · have e:i=a1:=by omega
   unfold fReadFixed
   rw [if_pos ⟨h1,by omega⟩,hI.2.2.2.2.2,e]
set_option maxRecDepth 100000 in
theorem impl_ReadFixed.eq:EqS c_impl_ReadFixed Try.f36 [3,4] [impl_from.e] [] (fun i x=>impl_ReadFixed.L x.1 x.2) (fun i x=>impl_ReadFixed.F x.1 x.2):=by intro i x;kernel_rfl
theorem impl_ReadFixed.ok:ConOk Try.prog 36 c_impl_ReadFixed:=okOf impl_ReadFixed.eq Try.func36 rfl (by kernel_rfl) fun i x h hi hw=>impl_ReadFixed.pure x.1 x.2 h hw
def impl_ReadFixed.e:GE:=⟨36,c_impl_ReadFixed,⟨_,Try.func36,rfl,rfl⟩,impl_ReadFixed.ok⟩
def fUnframe (s:List UInt8):List UInt8×(Int×Int):=
 if (fReadFixed s 4).2=false then ([],0,1)
 else if fIn (fReadFixed s 4).1 1 2000=false then ([],0,2)
 else if (s.length:Int)<(fReadFixed s 4).1+8 then ([],0,1)
 else if fFrame ((s.take ((fReadFixed s 4).1+8).toNat).drop 8)=s.take ((fReadFixed s 4).1+8).toNat then ((s.take ((fReadFixed s 4).1+8).toNat).drop 8,(fReadFixed s 4).1+8,0)
 else ([],0,2)
theorem be_lt {s:List UInt8} {w:Int}:0≤(fReadFixed s w).1∧(fReadFixed s w).1<72057594037927936:=by
 unfold fReadFixed
 split
 · rename_i h
   have h1:=fIn_iff.1 h.1
   have hb:=be_in w.toNat (s.take w.toNat) (by rw [List.length_take];omega)
   have:(256:Int) ^ w.toNat≤72057594037927936:=by
    by_cases h7:w.toNat≤6
    · have:=pow256_le h7;omega
    · rw [show w.toNat=7 by omega];decide
   simp only;omega
 · simp
theorem fFixed4 {n:Nat} (h:n≤2000):fFixed n 4=toBytes (fx 4 n):=by
 unfold fFixed
 rw [if_pos ⟨by decide,by omega,by rw [show (4:Int).toNat=4 from rfl];omega⟩];rfl
theorem toBytes_length (l:List Int):(toBytes l).length=l.length:=by simp [toBytes]
theorem crc4_length (s:List UInt8):(fFixed (fCrc s) 4).length=4:=by
 have:=fCrc_in s
 unfold fFixed
 rw [if_pos ⟨by decide,by omega,by rw [show (4:Int).toNat=4 from rfl];omega⟩,toBytes_length,fx_length];rfl
theorem unframe_frame {b:List UInt8} (h:1≤b.length∧b.length≤2000):(fFrame b).length=b.length+8∧fUnframe (fFrame b)=(b,((b.length:Int)+8,0)):=by
 have e:fFrame b=fFixed b.length 4++fFixed (fCrc (fFixed b.length 4++b)) 4++b:=by
  unfold fFrame;rw [if_pos (fIn_iff.2 (by omega))]
 have l1:(fFixed b.length 4).length=4:=by rw [fFixed4 h.2,toBytes_length,fx_length]
 have l2:=crc4_length (fFixed b.length 4++b)
 have hl:(fFrame b).length=b.length+8:=by rw [e,List.length_append,List.length_append,l1,l2];omega
 have hr:fReadFixed (fFrame b) 4=((b.length:Int),true):=by
  unfold fReadFixed
  rw [if_pos ⟨by decide,by omega⟩,e,List.append_assoc,show (4:Int).toNat=(fFixed b.length 4).length from l1.symm,List.take_left,fFixed4 h.2,be_fx 4 _ (by omega)]
 refine⟨hl,?_⟩
 have hb:(fFrame b).drop 8=b:=by
  rw [e,show 8=(fFixed b.length 4++fFixed (fCrc (fFixed b.length 4++b)) 4).length by rw [List.length_append,l1,l2],List.drop_left]
 unfold fUnframe
 rw [hr]
 simp only
 have e8:((b.length:Int)+8).toNat=(fFrame b).length:=by rw [hl];omega
 rw [if_neg (by decide),if_neg (by rw [fIn_iff.2 (by omega)];decide),if_neg (by omega),e8,List.take_length,hb,if_pos rfl]
theorem fUnframe_cases (s:List UInt8):fUnframe s=([],0,1)∨fUnframe s=([],0,2)∨((fUnframe s).2.2=0∧1≤(fUnframe s).1.length∧(fUnframe s).1.length≤2000∧(fUnframe s).2.1=(fUnframe s).1.length+8∧(fUnframe s).2.1≤s.length∧fFrame (fUnframe s).1=s.take (fUnframe s).2.1.toNat):=by
 unfold fUnframe
 split
 · exact .inl rfl
 split
 · exact .inr (.inl rfl)
 split
 · exact .inl rfl
 split
 · rename_i h1 h2 h3 h4
   have h5:=fIn_iff.1 (show fIn (fReadFixed s 4).1 1 2000=true by cases e:fIn (fReadFixed s 4).1 1 2000;exact absurd e h2;rfl)
   refine .inr (.inr ⟨rfl,?_,?_,?_,by simp only;omega,h4⟩)<;>simp only [List.length_drop,List.length_take]<;>omega
 · exact .inr (.inl rfl)
theorem fUnframe_len (s:List UInt8):(fUnframe s).1.length≤2000:=by
 rcases fUnframe_cases s with h | h | h
 · rw [h];simp
 · rw [h];simp
 · exact h.2.2.1
def c_impl_Unframe:Con:={A:=.str,shA:=[.one],R:=(.pair .str (.pair (.int .i64) (.int .i64))),shR:=[(false,1),(false,1),(false,1)],pre:=fun _ _=>True,f:=some fun _ a=>((fUnframe a),((),()))}
def impl_Unframe.F (a0:(List UInt8)):Prop:=(True∧∀r1,(Eq r1 ((fReadFixed a0 4),((),())))→(caseB (!r1.1.2) (Eq (([],(0,1)),((),())) ((fUnframe a0),((),()))) (True∧∀r2,(Eq r2 ((fIn r1.1.1 1 2000),((),())))→(caseB (!r2.1) (Eq (([],(0,2)),((),())) ((fUnframe a0),((),()))) (caseB (decide ((ln a0)<(wI (r1.1.1+(8:Int))))) (Eq (([],(0,1)),((),())) ((fUnframe a0),((),()))) (0≤(8:Int)∧((8:Int)≤(wI (r1.1.1+(8:Int)))∧((wI (r1.1.1+(8:Int)))≤(ln a0)∧(True∧∀r3,(Eq r3 ((fFrame (List.drop (tN (8:Int)) (List.take (tN (wI (r1.1.1+(8:Int)))) a0))),((),())))→(0≤(wI (r1.1.1+(8:Int)))∧((wI (r1.1.1+(8:Int)))≤(ln a0)∧(caseB (!(r3.1==(List.take (tN (wI (r1.1.1+(8:Int)))) a0))) (Eq (([],(0,2)),((),())) ((fUnframe a0),((),()))) (Eq (((List.drop (tN (8:Int)) (List.take (tN (wI (r1.1.1+(8:Int)))) a0)),((wI (r1.1.1+(8:Int))),0)),((),())) ((fUnframe a0),((),())))))))))))))))
theorem impl_Unframe.pure (a0:(List UInt8)) (h:True) (hw:Wf c_impl_Unframe.A a0):impl_Unframe.F a0:=by
 delta impl_Unframe.F ln tN wI
 have hb:=be_lt (s:=a0) (w:=4)
 simp only [forall_eq,true_and,and_true,caseB_iff,Prod.mk.injEq,decide_eq_true_eq,decide_eq_false_iff_not,Bool.not_eq_true',Bool.not_eq_false',bne_iff_ne,ne_eq,beq_iff_eq,Bool.not_true,Bool.not_false,beq_eq_false_iff_ne,bne_eq_false_iff_eq,List.length_append,List.length_cons,List.length_nil,List.append_nil,Nat.zero_add,decide_true,decide_false,eq_self_iff_true]
 repeat' (with_reducible (first | (refine And.intro ?_ ?_) | intro _))
 all_goals (try simp (disch:=omega) only [w64,wu8,tn0,tn1,tm1,tm2,List.length_append,List.length_cons,List.length_nil] at*)
 all_goals (try simp (disch:=omega) only [w64,wu8,tn0,tn1,tm1,tm2,List.length_append,List.length_cons,List.length_nil] at*)
 all_goals (try omega)
 all_goals (try grind [fUnframe,fIn_iff])
set_option maxRecDepth 100000 in
theorem impl_Unframe.eq:EqS c_impl_Unframe Try.f21 [9,3,3] [impl_Frame.e,impl_from.e,impl_ReadFixed.e] [] noL (fun i x=>impl_Unframe.F x):=by intro i x;kernel_rfl
theorem impl_Unframe.ok:ConOk Try.prog 21 c_impl_Unframe:=okOf impl_Unframe.eq Try.func21 rfl (by kernel_rfl) fun i x h hi hw=>impl_Unframe.pure x h hw
def impl_Unframe.e:GE:=⟨21,c_impl_Unframe,⟨_,Try.func21,rfl,rfl⟩,impl_Unframe.ok⟩
theorem getD_map1 (l:List Pt) (i:Nat):(l.map (·.1)).getD i 0=(l.getD i (0,0)).1:=by
 simp only [List.getD_eq_getElem?_getD,List.getElem?_map];cases l[i]?<;>rfl
theorem getD_map2 (l:List Pt) (i:Nat):(l.map (·.2)).getD i 0=(l.getD i (0,0)).2:=by
 simp only [List.getD_eq_getElem?_getD,List.getElem?_map];cases l[i]?<;>rfl
theorem fPtsOk_iff {l:List Pt}:fPtsOk l=true↔l.length≤60∧∀j,j<l.length→ptAt l j=true:=by
 simp only [fPtsOk,Bool.and_eq_true,decide_eq_true_eq,allB_iff]
theorem ptAt_iff {l:List Pt} {i:Nat}:ptAt l i=true↔riseAt (l.map (·.1)) i=true∧valAt (l.map (·.2)) i=true:=by
 simp only [ptAt,riseAt,valAt,getD_map1,getD_map2,Bool.and_eq_true]
 exact⟨fun h=>⟨⟨h.1,h.2.2⟩,h.2.1⟩,fun h=>⟨h.1.1,h.2,h.1.2⟩⟩
theorem pts_iff {l:List Pt}:(fPtsOk l=true∧l≠[])↔fRise (l.map (·.1))=true∧fVals (l.map (·.2))=true:=by
 rw [fPtsOk_iff,fRise_iff,fVals_iff]
 simp only [List.length_map,ptAt_iff]
 constructor
 · rintro⟨⟨h1,h2⟩,h3⟩
   have:=List.length_pos_iff.2 h3
   exact⟨⟨⟨by omega,h1⟩,fun j hj=>(h2 j hj).1⟩,⟨by omega,h1⟩,fun j hj=>(h2 j hj).2⟩
 · rintro⟨⟨h1,h2⟩,h3,h4⟩
   exact⟨⟨h1.2,fun j hj=>⟨h2 j hj,h4 j hj⟩⟩,List.length_pos_iff.1 (by omega)⟩
def bBody (l:List Pt):List UInt8:=fVar l.length++fShowTimes (l.map (·.1))++fShowValues (l.map (·.2))
def RB (s:List UInt8) (l:List Pt):Prop:=(fPtsOk l=true∧l≠[])∧fFrame (bBody l)=s
instance (s:List UInt8) (l:List Pt):Decidable (RB s l):=by unfold RB;infer_instance
def bN (s:List UInt8):Int:=(fReadVar (fUnframe s).1).1
def bA (s:List UInt8):Int:=(fReadVar (fUnframe s).1).2
def bT (s:List UInt8):List Int×Int:=fReadT ((fUnframe s).1.drop (bA s).toNat) (bN s)
def bV (s:List UInt8):List Int×Int:=fReadV ((fUnframe s).1.drop (bA s+(bT s).2).toNat) (bN s)
def bC (s:List UInt8):List Pt:=(bT s).1.zip (bV s).1
def fReadBlock (s:List UInt8):List Pt×Bool:=if RB s (bC s) then (bC s,true) else ([],false)
theorem bBody_len {l:List Pt} (h:fPtsOk l=true∧l≠[]):1≤(bBody l).length∧(bBody l).length≤2000:=by
 have h1:=fPtsOk_len h.1
 have h2:=List.length_pos_iff.2 h.2
 have h3:=fVar_pos (v:=(l.length:Int)) (by unfold inVar;omega)
 have h4:=fVar_length l.length
 have h5:=fShowTimes_length (l.map (·.1))
 have h6:=fShowValues_length (l.map (·.2))
 simp only [bBody,List.length_append];omega
structure RBf (s:List UInt8) (l:List Pt):Prop where
 h1:fUnframe s=(bBody l,((s.length:Int),0))
 h2:bN s=l.length
 h3:bA s=(fVar l.length).length
 h3':0<(fVar l.length).length
 h4:bT s=(l.map (·.1),((fShowTimes (l.map (·.1))).length:Int))
 h4':0<(fShowTimes (l.map (·.1))).length
 h5:bV s=(l.map (·.2),((fShowValues (l.map (·.2))).length:Int))
 h5':0<(fShowValues (l.map (·.2))).length
 h6:bC s=l
theorem zip_self:∀l:List Pt,(l.map (·.1)).zip (l.map (·.2))=l
 | []=>rfl
 | x::l=>by simp only [List.map_cons,List.zip_cons_cons];rw [zip_self l]
theorem RB.facts {s:List UInt8} {l:List Pt} (h:RB s l):RBf s l:=by
 obtain⟨h0,rfl⟩:=h
 have hb:=bBody_len h0
 obtain⟨hl,hu⟩:=unframe_frame hb
 have h1:=fPtsOk_len h0.1
 have h2:=List.length_pos_iff.2 h0.2
 have hv:inVar (l.length:Int):=by unfold inVar;omega
 have h3:=fVar_pos hv
 obtain⟨k1,k2⟩:=pts_iff.1 h0
 have q1:fUnframe (fFrame (bBody l))=(bBody l,(((fFrame (bBody l)).length:Int),0)):=by rw [hu,hl];rfl
 have qv:fReadVar (bBody l)=((l.length:Int),((fVar l.length).length:Int)):=by
  unfold bBody;rw [List.append_assoc];exact rv_enc hv _
 have q2:bN (fFrame (bBody l))=l.length:=by unfold bN;rw [q1,qv]
 have q3:bA (fFrame (bBody l))=(fVar l.length).length:=by unfold bA;rw [q1,qv]
 have e1:(bBody l).drop (fVar l.length).length=fShowTimes (l.map (·.1))++fShowValues (l.map (·.2)):=by
  unfold bBody;rw [List.append_assoc,List.drop_left]
 have rt:RT (fShowTimes (l.map (·.1))++fShowValues (l.map (·.2))) l.length (l.map (·.1)):=⟨by simp,k1,by rw [←showT_eq k1,List.take_left]⟩
 have q4:bT (fFrame (bBody l))=(l.map (·.1),((fShowTimes (l.map (·.1))).length:Int)):=by
  unfold bT;rw [q1,q2,q3,Int.toNat_natCast,e1,readT_yes rt,showT_eq k1]
 have e2:(bBody l).drop ((fVar l.length).length+(fShowTimes (l.map (·.1))).length)=fShowValues (l.map (·.2)):=by
  rw [←List.drop_drop,e1,List.drop_left]
 have rv:RV (fShowValues (l.map (·.2))) l.length (l.map (·.2)):=⟨by simp,k2,by rw [←showV_eq k2,List.take_length]⟩
 have q5:bV (fFrame (bBody l))=(l.map (·.2),((fShowValues (l.map (·.2))).length:Int)):=by
  unfold bV;rw [q1,q2,q3,q4]
  simp only
  rw [show (((fVar l.length).length:Int)+((fShowTimes (l.map (·.1))).length:Int)).toNat=(fVar l.length).length+(fShowTimes (l.map (·.1))).length by omega,e2,readV_yes rv,showV_eq k2]
 have m1:(l.map (·.1)).length=l.length:=by simp
 have m2:(l.map (·.2)).length=l.length:=by simp
 exact⟨q1,q2,q3,h3,q4,by rw [showT_eq k1];exact cat_pos (tmW_in _ k1 0 (by omega)) _ (by omega),q5,by rw [showV_eq k2];exact cat_pos (vlW_in _ k2 0 (by omega)) _ (by omega),by unfold bC;rw [q4,q5];exact zip_self l⟩
theorem readB_yes {s:List UInt8} {l:List Pt} (h:RB s l):(l,true)=fReadBlock s:=by
 unfold fReadBlock;rw [h.facts.h6,if_pos h]
theorem readB_no {s:List UInt8} (h:∀l,¬RB s l):([],false)=fReadBlock s:=by
 unfold fReadBlock;rw [if_neg (h _)]
theorem RB.show {s:List UInt8} {l:List Pt} (h:RB s l):fShowBlock l=s:=by
 unfold fShowBlock;rw [if_pos h.1];exact h.2
theorem RB_of {s:List UInt8} {l:List Pt} (h:fShowBlock l=s) (h2:s≠[]):RB s l:=by
 unfold fShowBlock at h
 split at h
 · rename_i h3;exact⟨h3,h⟩
 · exact absurd h.symm h2
theorem readT_in (s:List UInt8) (n:Int):0≤(fReadT s n).2∧(fReadT s n).2≤s.length∧((fReadT s n).2=0→(fReadT s n).1=[])∧((fReadT s n).2≠0→RT s n (fReadT s n).1):=by
 rcases readT_get s n with⟨e,_⟩ | ⟨l,hl,e⟩
 · rw [e];simp
 · have h:=hl.2.2
   have h2:=congrArg List.length h
   rw [List.length_take] at h2
   have h1:=(fRise_iff.1 hl.2.1).1
   have hp:=cat_pos (tmW_in l hl.2.1 0 (by omega)) l.length (by omega)
   rw [e];simp only
   exact⟨by omega,by omega,fun h=>by omega,fun _=>hl⟩
theorem readV_in (s:List UInt8) (n:Int):0≤(fReadV s n).2∧(fReadV s n).2≤s.length∧((fReadV s n).2=0→(fReadV s n).1=[])∧((fReadV s n).2≠0→RV s n (fReadV s n).1):=by
 rcases readV_get s n with⟨e,_⟩ | ⟨l,hl,e⟩
 · rw [e];simp
 · have h:=hl.2.2
   have h2:=congrArg List.length h
   rw [List.length_take] at h2
   have h1:=(fVals_iff.1 hl.2.1).1
   have hp:=cat_pos (vlW_in l hl.2.1 0 (by omega)) l.length (by omega)
   rw [e];simp only
   exact⟨by omega,by omega,fun h=>by omega,fun _=>hl⟩
theorem readT_len (s:List UInt8) (n:Int):(fReadT s n).1.length≤60:=by
 rcases readT_get s n with⟨e,_⟩ | ⟨l,hl,e⟩
 · rw [e];simp
 · rw [e];exact (fRise_iff.1 hl.2.1).1.2
theorem readV_len (s:List UInt8) (n:Int):(fReadV s n).1.length≤60:=by
 rcases readV_get s n with⟨e,_⟩ | ⟨l,hl,e⟩
 · rw [e];simp
 · rw [e];exact (fVals_iff.1 hl.2.1).1.2
def rbI (s:List UInt8) (i:Int) (out:List Pt):Prop:=0≤i∧i≤(bC s).length∧(out.length:Int)=i∧out=(bC s).take i.toNat
def rbM (s:List UInt8) (i:Int) (out:List Pt):Nat:=((bC s).length - i).toNat
theorem bC_get {s:List UInt8} {i:Nat} (h:i<(bC s).length):(bC s).getD i (0,0)=((bT s).1.getD i 0,(bV s).1.getD i 0):=by
 unfold bC at h ⊢
 have h':=h
 rw [List.length_zip] at h
 simp only [List.getD_eq_getElem?_getD]
 rw [List.getElem?_eq_getElem h',List.getElem?_eq_getElem (show i<(bT s).1.length by omega),List.getElem?_eq_getElem (show i<(bV s).1.length by omega)]
 simp
theorem snoc_takeP {l:List Pt} {i:Nat} (hi:i<l.length):l.take (i+1)=l.take i++[l.getD i (0,0)]:=by
 rw [List.take_add_one,List.getD_eq_getElem?_getD,List.getElem?_eq_getElem hi];rfl
theorem rb_step {s:List UInt8} {i:Int} {out:List Pt} (h:rbI s i out) (hi:i<(bC s).length):rbI s (i+1) (out++[((bT s).1.getD i.toNat 0,(bV s).1.getD i.toNat 0)]):=by
 obtain⟨h1,h2,h3,h4⟩:=h
 refine⟨by omega,by omega,by simp;omega,?_⟩
 rw [show (i+1).toNat=i.toNat+1 by omega,snoc_takeP (by omega),bC_get (by omega),h4]
theorem rb_full {s:List UInt8} {i:Int} {out:List Pt} (h:rbI s i out) (hi:¬i<(bC s).length):out=bC s:=by
 obtain⟨h1,h2,h3,h4⟩:=h
 rw [h4,List.take_of_length_le (by omega)]
def c_impl_ReadBlock:Con:={A:=.str,shA:=[.one],R:=(.pair (.list (.pair (.int .i64) (.int .i64))) .bool),shR:=[(false,1),(false,1)],fresh:=[(0,34)],pre:=fun _ _=>True,f:=some fun _ a=>((fReadBlock a),((),()))}
def impl_ReadBlock.F (a0:(List UInt8)):Prop:=(True∧∀r1,(Eq r1 ((fUnframe a0),((),())))→(True∧∀r2,(Eq r2 ((fReadVar r1.1.1),((),())))→(caseB (r1.1.2.2 !=(0:Int)) (Eq ((([]:(List (Int×Int))),false),((),())) ((fReadBlock a0),((),()))) (caseB (r2.1.2==(0:Int)) (Eq ((([]:(List (Int×Int))),false),((),())) ((fReadBlock a0),((),()))) (0≤r2.1.2∧(r2.1.2≤(ln r1.1.1)∧(True∧∀r3,(Eq r3 ((fReadT (List.drop (tN r2.1.2) r1.1.1) r2.1.1),((),())))→(0≤(wI (r2.1.2+r3.1.2))∧((wI (r2.1.2+r3.1.2))≤(ln r1.1.1)∧(True∧∀r4,(Eq r4 ((fReadV (List.drop (tN (wI (r2.1.2+r3.1.2))) r1.1.1) r2.1.1),((),())))→(caseB ((ln r3.1.1)!=r2.1.1) (Eq ((([]:(List (Int×Int))),false),((),())) ((fReadBlock a0),((),()))) (caseB ((ln r4.1.1)!=r2.1.1) (Eq ((([]:(List (Int×Int))),false),((),())) ((fReadBlock a0),((),()))) (eS [(0,.val false [.str a0]),(11,.val false [.lst (.int .i64) r4.1.1 none]),(62,.val false [.lst (.int .i64) r3.1.1 none]),(63,.val false [.int .i64 (ln r3.1.1)])] [(0,.val false [.str a0]),(11,.val false [.lst (.int .i64) r4.1.1 none]),(62,.val false [.lst (.int .i64) r3.1.1 none]),(63,.val false [.int .i64 (ln r3.1.1)])]∧((rbI a0 0 ([]:List (Int×Int)))∧∀(y5:(Int×(List (Int×Int)))),(rbI a0 y5.1 y5.2)→(caseB (decide (y5.1<(ln r3.1.1))) (0≤y5.1∧(y5.1<(ln r3.1.1)∧(0≤y5.1∧(y5.1<(ln r4.1.1)∧(List.length y5.2+List.length [((List.getD r3.1.1 (tN y5.1) 0),(List.getD r4.1.1 (tN y5.1) 0))]≤9223372036854775807∧((List.length y5.2+List.length [((List.getD r3.1.1 (tN y5.1) 0),(List.getD r4.1.1 (tN y5.1) 0))])*16≤140737488355328∧(eS [(0,.val false [.str a0]),(11,.val false [.lst (.int .i64) r4.1.1 none]),(62,.val false [.lst (.int .i64) r3.1.1 none]),(63,.val false [.int .i64 (ln r3.1.1)])] [(0,.val false [.str a0]),(11,.val false [.lst (.int .i64) r4.1.1 none]),(62,.val false [.lst (.int .i64) r3.1.1 none]),(63,.val false [.int .i64 (ln r3.1.1)])]∧(rbI a0 (wI (y5.1+(1:Int))) (y5.2++[((List.getD r3.1.1 (tN y5.1) 0),(List.getD r4.1.1 (tN y5.1) 0))]))∧(rbM a0 (wI (y5.1+(1:Int))) (y5.2++[((List.getD r3.1.1 (tN y5.1) 0),(List.getD r4.1.1 (tN y5.1) 0))]))<(rbM a0 y5.1 y5.2)))))))) (True∧∀r6,(Eq r6 ((fShowBlock y5.2),((),())))→(caseB (!(r6.1==a0)) (Eq ((([]:(List (Int×Int))),false),((),())) ((fReadBlock a0),((),()))) (Eq ((y5.2,true),((),())) ((fReadBlock a0),((),()))))))))))))))))))))
def impl_ReadBlock.L (a0:(List UInt8)):Nat→Option LoopAnn:=fun p=>Go.Proofs.Ytfnafjgehdeccaa.Bv.look p [(4090,{kp:={hold:=[0,11,62,63],slots:=[13,64],boxes:=[],rows:=[{bx:=false,s:=13,i:=0,k:=1001667,e:=34,hot:=true}]},T:=(.pair (.int .i64) (.list (.pair (.int .i64) (.int .i64)))),I:=fun st y=>rbI a0 y.1 y.2,μ:=fun st y=>rbM a0 y.1 y.2})]
theorem impl_ReadBlock.pure (a0:(List UInt8)) (h:True) (hw:Wf c_impl_ReadBlock.A a0):impl_ReadBlock.F a0:=by
 delta impl_ReadBlock.F ln tN wI eS
 simp only [forall_eq,true_and,and_true,caseB_iff,Prod.mk.injEq,decide_eq_true_eq,decide_eq_false_iff_not,Bool.not_eq_true',Bool.not_eq_false',bne_iff_ne,ne_eq,beq_iff_eq,Bool.not_true,Bool.not_false,beq_eq_false_iff_ne,bne_eq_false_iff_eq,List.length_append,List.length_cons,List.length_nil,List.append_nil,Nat.zero_add,decide_true,decide_false,eq_self_iff_true]
 have u1:=fUnframe_len a0
 have vb:=readVar_bound (fUnframe a0).1
 have tb:=readT_in ((fUnframe a0).1.drop (bA a0).toNat) (bN a0)
 have wb:=readV_in ((fUnframe a0).1.drop (bA a0+(bT a0).2).toNat) (bN a0)
 rw [List.length_drop] at tb wb
 change 0≤(bT a0).2∧(bT a0).2≤_∧((bT a0).2=0→(bT a0).1=[])∧((bT a0).2≠0→RT _ _ (bT a0).1) at tb
 change 0≤(bV a0).2∧(bV a0).2≤_∧((bV a0).2=0→(bV a0).1=[])∧((bV a0).2≠0→RV _ _ (bV a0).1) at wb
 have eN:(fReadVar (fUnframe a0).1).1=bN a0:=rfl
 have eA:(fReadVar (fUnframe a0).1).2=bA a0:=rfl
 rw [eN,eA] at vb
 simp only [eN,eA]
 have eT:fReadT ((fUnframe a0).1.drop (bA a0).toNat) (bN a0)=bT a0:=rfl
 rw [eT,w64 (x:=bA a0+(bT a0).2) (by omega) (by omega)]
 have eV:fReadV ((fUnframe a0).1.drop (bA a0+(bT a0).2).toNat) (bN a0)=bV a0:=rfl
 rw [eV]
 have tl:(bT a0).1.length≤60:=readT_len _ _
 have wl:(bV a0).1.length≤60:=readV_len _ _
 refine⟨fun h1=>readB_no fun l hl=>?_,fun h1=>⟨fun h2=>readB_no fun l hl=>?_,fun h2=>⟨by omega,by omega,by omega,by omega,fun h3=>readB_no fun l hl=>?_,fun h3=>⟨fun h4=>readB_no fun l hl=>?_,fun h4=>?_⟩⟩⟩⟩
 · have:=hl.facts.h1;rw [this] at h1;exact h1 rfl
 · have f:=hl.facts;have:=f.h3;have:=f.h3';omega
 · have f:=hl.facts;rw [f.h4,f.h2] at h3;exact h3 (by simp)
 · have f:=hl.facts;rw [f.h5,f.h2] at h4;exact h4 (by simp)
 · have zl:(bC a0).length=(bT a0).1.length:=by unfold bC;rw [List.length_zip];omega
   refine⟨⟨by omega,by omega,rfl,by simp⟩,fun y hI=>?_⟩
   obtain⟨i,out⟩:=y
   simp only at hI ⊢
   have g1:=hI.1
   have g2:=hI.2.1
   have g3:=hI.2.2.1
   refine⟨fun hi=>?_,fun hi=>?_⟩
   · rw [w64 (x:=i+1) (by omega) (by omega)]
     exact⟨by omega,by omega,by omega,by omega,by omega,by omega,rb_step hI (by omega),by unfold rbM;omega⟩
   · have e:=rb_full hI (by omega)
     have hs:a0≠[]:=fun h=>by
      subst h
      have:fUnframe ([]:List UInt8)=([],0,1):=rfl
      rw [this] at h1;exact absurd h1 (by decide)
     refine⟨fun h5=>readB_no fun l hl=>h5 ?_,fun h5=>readB_yes (RB_of h5 hs)⟩
     rw [e,hl.facts.h6];exact hl.show
set_option maxRecDepth 100000 in
theorem impl_ReadBlock.eq:EqS c_impl_ReadBlock Try.f7 [24,4] [impl_ShowBlock.e,impl_Unframe.e,impl_ReadVar.e,impl_ReadTimes.e,impl_ReadValues.e] [] (fun i x=>impl_ReadBlock.L x) (fun i x=>impl_ReadBlock.F x):=by intro i x;kernel_rfl
theorem impl_ReadBlock.ok:ConOk Try.prog 7 c_impl_ReadBlock:=okOf impl_ReadBlock.eq Try.func7 rfl (by kernel_rfl) fun i x h hi hw=>impl_ReadBlock.pure x h hw
def impl_ReadBlock.e:GE:=⟨7,c_impl_ReadBlock,⟨_,Try.func7,rfl,rfl⟩,impl_ReadBlock.ok⟩
end Go.Proofs.Ytfnafjgehdeccaa.B
