/- Blocks:read. -/
import Derived.Test.YtgfgenbmjbhphaaCReadB
import Derived.Test.YtgfgenbmjbhphaaCBlk
namespace Go.Proofs.Ytgfgenbmjbhphaa.B
set_option linter.unusedVariables false
set_option linter.unusedSimpArgs false
open Go Go.Proofs.Ytgfgenbmjbhphaa.Bv
def be (l:List UInt8):Int:=l.foldl (fun n b=>n*256+(b.toNat:Int)) 0
theorem be_snoc (l:List UInt8) (b:UInt8):be (l++[b])=be l*256+(b.toNat:Int):=by simp [be]
theorem be_in (w:Nat):∀(l:List UInt8),l.length=w→0≤be l∧be l<256 ^ w:=by
 induction w with
 | zero=>intro l hl;rw [List.length_eq_zero_iff.1 hl];decide
 | succ w ih=>
   intro l hl
   obtain⟨r,b,rfl⟩:∃r b,l=r++[b]:=by
    rcases List.eq_nil_or_concat l with h | ⟨r,b,h⟩
    · rw [h] at hl;simp at hl
    · exact⟨r,b,by rw [h,List.concat_eq_append]⟩
   have:=ih r (by simpa using hl)
   have hb:=b.toNat_lt
   rw [be_snoc,Int.pow_succ]
   generalize (256:Int) ^ w=p at*
   omega
theorem be_fx:∀(w n:Nat),n<256 ^ w→be (toBytes (fx w n))=n
 | 0,n,h=>by have:n=0:=by omega
             subst this;rfl
 | w+1,n,h=>by
   have h1:n / 256<256 ^ w:=by rw [Nat.pow_succ] at h;omega
   rw [fx,toBytes_append,show toBytes [((n % 256:Nat):Int)]=[UInt8.ofNat (n % 256)] from rfl,be_snoc,be_fx w _ h1,UInt8.toNat_ofNat']
   omega
def fReadFixed (s:List UInt8) (w:Int):Int×Bool:=if fIn w 1 7=true∧w≤(s.length:Int) then (be (s.take w.toNat),true) else (0,false)
def rfI (s:List UInt8) (w n i:Int):Prop:=0≤i∧i≤w∧1≤w∧w≤7∧w≤(s.length:Int)∧n=be (s.take i.toNat)
def rfM (s:List UInt8) (w n i:Int):Nat:=(w - i).toNat
theorem pow256_le {i:Nat} (h:i≤6):(256:Int) ^ i≤281474976710656:=by
 have h1:i=0∨i=1∨i=2∨i=3∨i=4∨i=5∨i=6:=by omega
 rcases h1 with h | h | h | h | h | h | h<;>subst h<;>decide
theorem rf_step {s:List UInt8} {w n i:Int} (h:rfI s w n i) (hi:i<w):(0≤n∧n<281474976710656)∧rfI s w (n*256+((s.getD i.toNat 0).toNat:Int)) (i+1):=by
 obtain⟨h1,h2,h3,h4,h5,h6⟩:=h
 have hb:=be_in i.toNat (s.take i.toNat) (by rw [List.length_take];omega)
 have hp:=pow256_le (i:=i.toNat) (by omega)
 refine⟨by omega,by omega,by omega,h3,h4,h5,?_⟩
 rw [show (i+1).toNat=i.toNat+1 by omega,take_succ_getD (by omega),be_snoc,h6]
theorem or256 {n:Int} {b:Nat} (h:0≤n) (h2:n<281474976710656) (hb:b<256):IntKind.wrap .i64 (BitVec.toNat (BitVec.ofInt (IntKind.bits .i64) (n*256)|||BitVec.ofInt (IntKind.bits .i64) (b:Int)))=n*256+b:=by
 obtain⟨k,rfl⟩:∃k:Nat,n=k:=⟨n.toNat,by omega⟩
 have e1:BitVec.ofInt (IntKind.bits .i64) (((k:Int))*256)=BitVec.ofNat 64 (k*256):=by
  show BitVec.ofInt 64 (((k:Int))*256)=_
  rw [show ((k:Int)*256)=((k*256:Nat):Int) by omega,BitVec.ofInt_natCast]
 have e2:BitVec.ofInt (IntKind.bits .i64) (b:Int)=BitVec.ofNat 64 b:=BitVec.ofInt_natCast 64 b
 rw [e1,e2]
 have e3:(BitVec.ofNat 64 (k*256)|||BitVec.ofNat 64 b).toNat=k*256+b:=by
  rw [BitVec.toNat_or,BitVec.toNat_ofNat,BitVec.toNat_ofNat,Nat.mod_eq_of_lt (by omega),Nat.mod_eq_of_lt (by omega),Nat.mul_comm]
  exact (Nat.two_pow_add_eq_or_of_lt (i:=8) (by omega) k).symm
 show IntKind.wrap .i64 (((BitVec.ofNat 64 (k*256)|||BitVec.ofNat 64 b).toNat:Nat):Int)=_
 rw [e3,w64 (by omega) (by omega)];omega
def c_impl_ReadFixed:Con:={A:=(.pair .str (.int .i64)),shA:=[.one,.one],R:=(.pair (.int .i64) .bool),shR:=[(false,1),(false,1)],pre:=fun _ _=>True,f:=some fun _ a=>((fReadFixed a.1 a.2),((),()))}
def impl_ReadFixed.F (a0:(List UInt8)) (a1:Int):Prop:=(True∧∀r1,(Eq r1 ((fIn a1 1 7),((),())))→(caseB (!r1.1) (Eq ((0,false),((),())) ((fReadFixed a0 a1),((),()))) (caseB (decide ((ln a0)<a1)) (Eq ((0,false),((),())) ((fReadFixed a0 a1),((),()))) (eS [(0,.val false [.str a0]),(17,.val false [.int .i64 a1])] [(0,.val false [.str a0]),(17,.val false [.int .i64 a1])]∧((rfI a0 a1 0 0)∧∀(y2:(Int×Int)),(rfI a0 a1 y2.1 y2.2)→(caseB (decide (y2.2<a1)) (0≤(8:Int)∧(0≤y2.2∧(y2.2<(ln a0)∧(eS [(0,.val false [.str a0]),(17,.val false [.int .i64 a1])] [(0,.val false [.str a0]),(17,.val false [.int .i64 a1])]∧(rfI a0 a1 (IntKind.wrap .i64 (BitVec.toNat (BitVec.ofInt (IntKind.bits .i64) (wI (y2.1*2 ^ (min (tN (8:Int)) (IntKind.bits .i64))))|||BitVec.ofInt (IntKind.bits .i64) (wI ((UInt8.toNat (List.getD a0 (tN y2.2) 0):Nat):Int))))) (wI (y2.2+(1:Int))))∧(rfM a0 a1 (IntKind.wrap .i64 (BitVec.toNat (BitVec.ofInt (IntKind.bits .i64) (wI (y2.1*2 ^ (min (tN (8:Int)) (IntKind.bits .i64))))|||BitVec.ofInt (IntKind.bits .i64) (wI ((UInt8.toNat (List.getD a0 (tN y2.2) 0):Nat):Int))))) (wI (y2.2+(1:Int))))<(rfM a0 a1 y2.1 y2.2))))) (Eq ((y2.1,true),((),())) ((fReadFixed a0 a1),((),())))))))))
def impl_ReadFixed.L (a0:(List UInt8)) (a1:Int):Nat→Option LoopAnn:=fun p=>Go.Proofs.Ytgfgenbmjbhphaa.Bv.look p [(122,{kp:={hold:=[0,17],slots:=[6,18],boxes:=[],rows:=[]},T:=(.pair (.int .i64) (.int .i64)),I:=fun st y=>rfI a0 a1 y.1 y.2,μ:=fun st y=>rfM a0 a1 y.1 y.2})]
theorem impl_ReadFixed.pure (a0:(List UInt8)) (a1:Int) (h:True) (hw:Wf c_impl_ReadFixed.A (a0,a1)):impl_ReadFixed.F a0 a1:=by
 delta impl_ReadFixed.F ln tN wI eS
 simp only [forall_eq,true_and,and_true,caseB_iff,Prod.mk.injEq,decide_eq_true_eq,decide_eq_false_iff_not,Bool.not_eq_true',Bool.not_eq_false',bne_iff_ne,ne_eq,beq_iff_eq,Bool.not_true,Bool.not_false,beq_eq_false_iff_ne,bne_eq_false_iff_eq,List.length_append,List.length_cons,List.length_nil,List.append_nil,Nat.zero_add,decide_true,decide_false,eq_self_iff_true]
 refine⟨fun h1=>by simp [fReadFixed,h1],fun h1=>⟨fun h2=>by unfold fReadFixed;rw [if_neg (by omega)],fun h2=>?_⟩⟩
 have hw7:=fIn_iff.1 h1
 refine⟨⟨by omega,by omega,by omega,by omega,by omega,rfl⟩,fun y hI=>?_⟩
 obtain⟨n,i⟩:=y
 simp only at hI ⊢
 have g1:=hI.1
 have g2:=hI.2.1
 have hx:=(a0.getD i.toNat 0).toNat_lt
 refine⟨fun hi=>?_,fun hi=>?_⟩
 · obtain⟨hn,step⟩:=rf_step hI hi
   rw [show (min (Int.toNat 8) (IntKind.bits .i64))=8 from rfl,show (2:Int) ^ 8=256 from rfl,w64 (x:=((a0.getD i.toNat 0).toNat:Int)) (by omega) (by omega),w64 (x:=n*256) (by omega) (by omega),or256 hn.1 hn.2 hx,w64 (x:=i+1) (by omega) (by omega)]
   exact⟨by omega,by omega,by omega,step,by unfold rfM;omega⟩
 · have e:i=a1:=by omega
   unfold fReadFixed
   rw [if_pos ⟨h1,by omega⟩,hI.2.2.2.2.2,e]
set_option maxRecDepth 100000 in
theorem impl_ReadFixed.eq:EqS c_impl_ReadFixed Try.f56 [3,4] [impl_from.e] [] (fun i x=>impl_ReadFixed.L x.1 x.2) (fun i x=>impl_ReadFixed.F x.1 x.2):=by intro i x;kernel_rfl
theorem impl_ReadFixed.ok:ConOk Try.prog 56 c_impl_ReadFixed:=okOf impl_ReadFixed.eq Try.func56 rfl (by kernel_rfl) fun i x h hi hw=>impl_ReadFixed.pure x.1 x.2 h hw
def impl_ReadFixed.e:GE:=⟨56,c_impl_ReadFixed,⟨_,Try.func56,rfl,rfl⟩,impl_ReadFixed.ok⟩
def fUnframe (s:List UInt8):List UInt8×(Int×Int):=
 if (fReadFixed s 4).2=false then ([],0,1)
 else if fIn (fReadFixed s 4).1 1 2000=false then ([],0,2)
 else if (s.length:Int)<(fReadFixed s 4).1+8 then ([],0,1)
 else if fFrame ((s.take ((fReadFixed s 4).1+8).toNat).drop 8)=s.take ((fReadFixed s 4).1+8).toNat then ((s.take ((fReadFixed s 4).1+8).toNat).drop 8,(fReadFixed s 4).1+8,0)
 else ([],0,2)
theorem be_lt {s:List UInt8} {w:Int}:0≤(fReadFixed s w).1∧(fReadFixed s w).1<72057594037927936:=by
 unfold fReadFixed
 split
 · rename_i h
   have h1:=fIn_iff.1 h.1
   have hb:=be_in w.toNat (s.take w.toNat) (by rw [List.length_take];omega)
   have:(256:Int) ^ w.toNat≤72057594037927936:=by
    by_cases h7:w.toNat≤6
    · have:=pow256_le h7;omega
    · rw [show w.toNat=7 by omega];decide
   simp only;omega
 · simp
theorem fFixed4 {n:Nat} (h:n≤2000):fFixed n 4=toBytes (fx 4 n):=by
 unfold fFixed
 rw [if_pos ⟨by decide,by omega,by rw [show (4:Int).toNat=4 from rfl];omega⟩];rfl
theorem toBytes_length (l:List Int):(toBytes l).length=l.length:=by simp [toBytes]
theorem crc4_length (s:List UInt8):(fFixed (fCrc s) 4).length=4:=by
 have:=fCrc_in s
 unfold fFixed
 rw [if_pos ⟨by decide,by omega,by rw [show (4:Int).toNat=4 from rfl];omega⟩,toBytes_length,fx_length];rfl
theorem unframe_frame {b:List UInt8} (h:1≤b.length∧b.length≤2000):(fFrame b).length=b.length+8∧fUnframe (fFrame b)=(b,((b.length:Int)+8,0)):=by
 have e:fFrame b=fFixed b.length 4++fFixed (fCrc (fFixed b.length 4++b)) 4++b:=by
  unfold fFrame;rw [if_pos (fIn_iff.2 (by omega))]
 have l1:(fFixed b.length 4).length=4:=by rw [fFixed4 h.2,toBytes_length,fx_length]
 have l2:=crc4_length (fFixed b.length 4++b)
 have hl:(fFrame b).length=b.length+8:=by rw [e,List.length_append,List.length_append,l1,l2];omega
 have hr:fReadFixed (fFrame b) 4=((b.length:Int),true):=by
  unfold fReadFixed
  rw [if_pos ⟨by decide,by omega⟩,e,List.append_assoc,show (4:Int).toNat=(fFixed b.length 4).length from l1.symm,List.take_left,fFixed4 h.2,be_fx 4 _ (by omega)]
 refine⟨hl,?_⟩
 have hb:(fFrame b).drop 8=b:=by
  rw [e,show 8=(fFixed b.length 4++fFixed (fCrc (fFixed b.length 4++b)) 4).length by rw [List.length_append,l1,l2],List.drop_left]
 unfold fUnframe
 rw [hr]
 simp only
 have e8:((b.length:Int)+8).toNat=(fFrame b).length:=by rw [hl];omega
 rw [if_neg (by decide),if_neg (by rw [fIn_iff.2 (by omega)];decide),if_neg (by omega),e8,List.take_length,hb,if_pos rfl]
theorem fUnframe_cases (s:List UInt8):fUnframe s=([],0,1)∨fUnframe s=([],0,2)∨((fUnframe s).2.2=0∧1≤(fUnframe s).1.length∧(fUnframe s).1.length≤2000∧(fUnframe s).2.1=(fUnframe s).1.length+8∧(fUnframe s).2.1≤s.length∧fFrame (fUnframe s).1=s.take (fUnframe s).2.1.toNat):=by
 unfold fUnframe
 split
 · exact .inl rfl
 split
 · exact .inr (.inl rfl)
 split
 · exact .inl rfl
 split
 · rename_i h1 h2 h3 h4
   have h5:=fIn_iff.1 (show fIn (fReadFixed s 4).1 1 2000=true by cases e:fIn (fReadFixed s 4).1 1 2000;exact absurd e h2;rfl)
   refine .inr (.inr ⟨rfl,?_,?_,?_,by simp only;omega,h4⟩)<;>simp only [List.length_drop,List.length_take]<;>omega
 · exact .inr (.inl rfl)
def c_impl_Unframe:Con:={A:=.str,shA:=[.one],R:=(.pair .str (.pair (.int .i64) (.int .i64))),shR:=[(false,1),(false,1),(false,1)],pre:=fun _ _=>True,f:=some fun _ a=>((fUnframe a),((),()))}
def impl_Unframe.F (a0:(List UInt8)):Prop:=(True∧∀r1,(Eq r1 ((fReadFixed a0 4),((),())))→(caseB (!r1.1.2) (Eq (([],(0,1)),((),())) ((fUnframe a0),((),()))) (True∧∀r2,(Eq r2 ((fIn r1.1.1 1 2000),((),())))→(caseB (!r2.1) (Eq (([],(0,2)),((),())) ((fUnframe a0),((),()))) (caseB (decide ((ln a0)<(wI (r1.1.1+(8:Int))))) (Eq (([],(0,1)),((),())) ((fUnframe a0),((),()))) (0≤(8:Int)∧((8:Int)≤(wI (r1.1.1+(8:Int)))∧((wI (r1.1.1+(8:Int)))≤(ln a0)∧(True∧∀r3,(Eq r3 ((fFrame (List.drop (tN (8:Int)) (List.take (tN (wI (r1.1.1+(8:Int)))) a0))),((),())))→(0≤(wI (r1.1.1+(8:Int)))∧((wI (r1.1.1+(8:Int)))≤(ln a0)∧(caseB (!(r3.1==(List.take (tN (wI (r1.1.1+(8:Int)))) a0))) (Eq (([],(0,2)),((),())) ((fUnframe a0),((),()))) (Eq (((List.drop (tN (8:Int)) (List.take (tN (wI (r1.1.1+(8:Int)))) a0)),((wI (r1.1.1+(8:Int))),0)),((),())) ((fUnframe a0),((),())))))))))))))))
theorem impl_Unframe.pure (a0:(List UInt8)) (h:True) (hw:Wf c_impl_Unframe.A a0):impl_Unframe.F a0:=by
 delta impl_Unframe.F ln tN wI
 have hb:=be_lt (s:=a0) (w:=4)
 simp only [forall_eq,true_and,and_true,caseB_iff,Prod.mk.injEq,decide_eq_true_eq,decide_eq_false_iff_not,Bool.not_eq_true',Bool.not_eq_false',bne_iff_ne,ne_eq,beq_iff_eq,Bool.not_true,Bool.not_false,beq_eq_false_iff_ne,bne_eq_false_iff_eq,List.length_append,List.length_cons,List.length_nil,List.append_nil,Nat.zero_add,decide_true,decide_false,eq_self_iff_true]
 repeat' (with_reducible (first | (refine And.intro ?_ ?_) | intro _))
 all_goals (try simp (disch:=omega) only [w64,wu8,tn0,tn1,tm1,tm2,List.length_append,List.length_cons,List.length_nil] at*)
 all_goals (try simp (disch:=omega) only [w64,wu8,tn0,tn1,tm1,tm2,List.length_append,List.length_cons,List.length_nil] at*)
 all_goals (try omega)
 all_goals (try grind [fUnframe,fIn_iff])
set_option maxRecDepth 100000 in
theorem impl_Unframe.eq:EqS c_impl_Unframe Try.f51 [9,3,3] [impl_from.e,impl_Frame.e,impl_ReadFixed.e] [] noL (fun i x=>impl_Unframe.F x):=by intro i x;kernel_rfl
theorem impl_Unframe.ok:ConOk Try.prog 51 c_impl_Unframe:=okOf impl_Unframe.eq Try.func51 rfl (by kernel_rfl) fun i x h hi hw=>impl_Unframe.pure x h hw
def impl_Unframe.e:GE:=⟨51,c_impl_Unframe,⟨_,Try.func51,rfl,rfl⟩,impl_Unframe.ok⟩
def bBody (l:List Pt):List UInt8:=fVar l.length++fShowTimes (l.map (·.1))++fShowValues (l.map (·.2))
def RB (s:List UInt8) (l:List Pt):Prop:=(fPtsOk l=true∧l≠[])∧fFrame (bBody l)=s
instance (s:List UInt8) (l:List Pt):Decidable (RB s l):=by unfold RB;infer_instance
theorem RB.show {s:List UInt8} {l:List Pt} (h:RB s l):fShowBlock l=s:=by
 unfold fShowBlock;rw [if_pos h.1];exact h.2
end Go.Proofs.Ytgfgenbmjbhphaa.B
