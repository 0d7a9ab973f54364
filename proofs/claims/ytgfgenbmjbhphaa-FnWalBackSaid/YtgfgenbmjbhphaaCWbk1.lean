/- Logs that are written and read:the functions. -/
import Derived.Test.YtgfgenbmjbhphaaCWbk0
import Derived.Test.YtgfgenbmjbhphaaCChg2
namespace Go.Proofs.Ytgfgenbmjbhphaa.B
set_option linter.unusedVariables false
set_option linter.unusedSimpArgs false
open Go Go.Proofs.Ytgfgenbmjbhphaa.Bv
def pRecs (l:List Rec):Prop:=l.length≤1000
structure rcI (l:List Rec) (s:List UInt8) (i:Int):Prop where
 h1:0≤i
 h2:i≤l.length
 h3:s=fRecsT (l.take i.toNat)
def rcM (l:List Rec) (s:List UInt8) (i:Int):Nat:=(l.length - i).toNat
theorem rc_step {l:List Rec} {s:List UInt8} {i:Int} (h:rcI l s i) (hi:i<l.length):rcI l (s++fFrame (fShowRec (l.getD i.toNat (0,(0,(0,(0,[]))))))) (i+1):=by
 obtain⟨h1,h2,h3⟩:=h
 refine⟨by omega,by omega,?_⟩
 rw [tn1 h1,take_getD (0,(0,(0,(0,[])))) (by omega),recsT_app,←h3,fRecsT,fRecsT,List.append_nil]
structure fmI (s:List UInt8) (at':Int) (out:List (List UInt8)):Prop where
 h1:0≤at'
 h2:at'≤s.length
 h3:fFrames s=(out++(fFrames (s.drop at'.toNat)).1,at'+(fFrames (s.drop at'.toNat)).2)
 h4:(out.length:Int)≤at'
def fmM (s:List UInt8) (at':Int) (out:List (List UInt8)):Nat:=(s.length - at').toNat
def pFrs (s:List UInt8):Prop:=s.length≤1000000
def pRpl (s:List UInt8):Prop:=s.length≤1000000
theorem frames_len {s:List UInt8}:((fFrames s).1.length:Int)≤tot (fFrames s).1:=by
 generalize (fFrames s).1=l
 induction l with
 | nil=>simp [tot]
 | cons b l ih=>simp only [tot,List.length_cons];omega
theorem tot_at {l:List (List UInt8)} {i:Nat} (h:i<l.length):tot (l.drop i)=((l.getD i []).length:Int)+8+tot (l.drop (i+1)):=by
 rw [drop_getD [] h,tot]
def rpB (s:List UInt8):List (List UInt8):=(fFrames s).1.drop 1
def rpT (s:List UInt8):Wal×Int:=rpGo (rpStart (fReadRec ((fFrames s).1.getD 0 [])).1) (((fFrames s).1.getD 0 []).length+8) (rpB s)
theorem rp_cons {s:List UInt8} (h:¬((fFrames s).1.length:Int)=0):(fFrames s).1=(fFrames s).1.getD 0 []::rpB s:=by
 have:=drop_getD (l:=(fFrames s).1) (i:=0) [] (by omega)
 rw [List.drop_zero] at this;exact this
theorem rp_nil {s:List UInt8} (h:((fFrames s).1.length:Int)=0):(zWal,(0,false))=fReplay s:=by
 unfold fReplay
 rw [List.length_eq_zero_iff.1 (show (fFrames s).1.length=0 by omega)]
theorem rp_bad {s:List UInt8} (h:¬((fFrames s).1.length:Int)=0) (hb:¬((fReadRec ((fFrames s).1.getD 0 [])).2=true∧(fReadRec ((fFrames s).1.getD 0 [])).1.1=4)):(zWal,(0,false))=fReplay s:=by
 unfold fReplay
 rw [rp_cons h]
 simp only [List.getD_cons_zero]
 rw [if_neg hb]
theorem rp_yes {s:List UInt8} (h:¬((fFrames s).1.length:Int)=0) (hb:(fReadRec ((fFrames s).1.getD 0 [])).2=true∧(fReadRec ((fFrames s).1.getD 0 [])).1.1=4):fReplay s=((rpT s).1,((rpT s).2,true)):=by
 have e:=rp_cons h
 unfold rpT
 generalize (fFrames s).1.getD 0 []=b at*
 unfold fReplay
 rw [e]
 simp only
 rw [if_pos hb]
structure rpI (s:List UInt8) (size i z0 z1 z2 z3:Int) (z4:List Ent) (w0 w1 w2 w3:Int) (w4:List Ent):Prop where
 h1:0≤i∧i≤(rpB s).length
 h2:0≤size∧size+tot ((rpB s).drop i.toNat)≤1000000
 h3:rpGo ((w0,(w1,(w2,(w3,w4)))):Wal) size ((rpB s).drop i.toNat)=rpT s
def rpM (s:List UInt8) (size i z0 z1 z2 z3:Int) (z4:List Ent) (w0 w1 w2 w3:Int) (w4:List Ent):Nat:=((rpB s).length - i).toNat
def qDW (code:List Int) (y:Wal×(Unit×Unit)):Prop:=y.1.2.2.2.2.length≤1003
def c_impl_recsText:Con:={A:=(.list (.pair (.int .i64) (.pair (.int .i64) (.pair (.int .i64) (.pair (.int .i64) .str))))),shA:=[.one],R:=.str,shR:=[(false,1)],pre:=fun _ a=>(pRecs a),f:=some fun _ a=>((fRecsT a),((),()))}
def impl_recsText.F (a0:(List (Int×(Int×(Int×(Int×(List UInt8))))))):Prop:=(eS [(6,.val false [.lst (.pair (.int .i64) (.pair (.int .i64) (.pair (.int .i64) (.pair (.int .i64) .str)))) a0 none]),(7,.val false [.int .i64 (ln a0)])] [(6,.val false [.lst (.pair (.int .i64) (.pair (.int .i64) (.pair (.int .i64) (.pair (.int .i64) .str)))) a0 none]),(7,.val false [.int .i64 (ln a0)])]∧((rcI a0 [] 0)∧∀(y1:((List UInt8)×Int)),(rcI a0 y1.1 y1.2)→(caseB (decide (y1.2<(ln a0))) (0≤y1.2∧(y1.2<(ln a0)∧(True∧∀r2,(Eq r2 ((fShowRec ((List.getD a0 (tN y1.2) (0,(0,(0,(0,[]))))).1,((List.getD a0 (tN y1.2) (0,(0,(0,(0,[]))))).2.1,((List.getD a0 (tN y1.2) (0,(0,(0,(0,[]))))).2.2.1,((List.getD a0 (tN y1.2) (0,(0,(0,(0,[]))))).2.2.2.1,(List.getD a0 (tN y1.2) (0,(0,(0,(0,[]))))).2.2.2.2))))),((),())))→(True∧∀r3,(Eq r3 ((fFrame r2.1),((),())))→(List.length y1.1+List.length r3.1≤9223372036854775807∧(eS [(6,.val false [.lst (.pair (.int .i64) (.pair (.int .i64) (.pair (.int .i64) (.pair (.int .i64) .str)))) a0 none]),(7,.val false [.int .i64 (ln a0)])] [(6,.val false [.lst (.pair (.int .i64) (.pair (.int .i64) (.pair (.int .i64) (.pair (.int .i64) .str)))) a0 none]),(7,.val false [.int .i64 (ln a0)])]∧(rcI a0 (y1.1++r3.1) (wI (y1.2+(1:Int))))∧(rcM a0 (y1.1++r3.1) (wI (y1.2+(1:Int))))<(rcM a0 y1.1 y1.2))))))) (Eq (y1.1,((),())) ((fRecsT a0),((),()))))))
def impl_recsText.L (a0:(List (Int×(Int×(Int×(Int×(List UInt8))))))):Nat→Option LoopAnn:=fun p=>Go.Proofs.Ytgfgenbmjbhphaa.Bv.look p [(58,{kp:={hold:=[6,7],slots:=[3,8],boxes:=[],rows:=[]},T:=(.pair .str (.int .i64)),I:=fun st y=>rcI a0 y.1 y.2,μ:=fun st y=>rcM a0 y.1 y.2})]
theorem impl_recsText.pure (a0:(List (Int×(Int×(Int×(Int×(List UInt8))))))) (h:(pRecs a0)) (hw:Wf c_impl_recsText.A a0):impl_recsText.F a0:=by
 delta impl_recsText.F ln tN wI eS
 simp only [forall_eq,true_and,and_true,caseB_iff,Prod.mk.injEq,decide_eq_true_eq,decide_eq_false_iff_not,Bool.not_eq_true',Bool.not_eq_false',bne_iff_ne,ne_eq,beq_iff_eq,Bool.not_true,Bool.not_false,beq_eq_false_iff_ne,bne_eq_false_iff_eq,List.length_append,List.length_cons,List.length_nil,List.append_nil,Nat.zero_add,decide_true,decide_false,eq_self_iff_true,Prod.eta]
 have hl:a0.length≤1000:=h
 refine⟨⟨by omega,by omega,rfl⟩,?_⟩
 rintro⟨s,i⟩ hI
 simp only at hI ⊢
 have q1:=hI.h1
 have q2:=hI.h2
 have q3:=hI.h3
 have ls:=recsT_len (a0.take i.toNat)
 rw [←q3,List.length_take] at ls
 have lf:=fFrame_length (fShowRec (a0.getD i.toNat (0,(0,(0,(0,[]))))))
 refine⟨fun hi=>⟨q1,hi,by omega,?_,?_⟩,fun hi=>?_⟩
 · rw [w64 (x:=i+1) (by omega) (by omega)];exact rc_step hI hi
 · rw [w64 (x:=i+1) (by omega) (by omega)];unfold rcM;omega
 · rw [q3,show i.toNat=a0.length by omega,List.take_length]
set_option maxRecDepth 100000 in
theorem impl_recsText.eq:EqS c_impl_recsText Try.f33 [9] [impl_ShowRec.e,impl_Frame.e] [] (fun i x=>impl_recsText.L x) (fun i x=>impl_recsText.F x):=by intro i x;kernel_rfl
theorem impl_recsText.ok:ConOk Try.prog 33 c_impl_recsText:=okOf impl_recsText.eq Try.func33 rfl (by kernel_rfl) fun i x h hi hw=>impl_recsText.pure x h hw
def impl_recsText.e:GE:=⟨33,c_impl_recsText,⟨_,Try.func33,rfl,rfl⟩,impl_recsText.ok⟩
def c_impl_WalText:Con:={A:=(.pair (.int .i64) (.pair (.int .i64) (.pair (.int .i64) (.pair (.int .i64) (.list (.pair (.int .i64) .str)))))),shA:=[.agg 5],R:=.str,shR:=[(false,1)],pre:=fun _ _=>True,f:=some fun _ a=>((fWalText a),((),()))}
def impl_WalText.F (a0:(Int×(Int×(Int×(Int×(List (Int×(List UInt8)))))))):Prop:=(True∧∀r1,(Eq r1 ((fWalOk (a0.1,(a0.2.1,(a0.2.2.1,(a0.2.2.2.1,a0.2.2.2.2))))),((),())))→(caseB (!r1.1) (Eq ([],((),())) ((fWalText a0),((),()))) ((pEnts a0.2.2.2.2 (wI (a0.2.2.1+(1:Int))))∧∀r2,(Eq r2 ((fEntryRecs a0.2.2.2.2 (wI (a0.2.2.1+(1:Int)))),((),())))→(List.length ([(4,(a0.2.2.2.1,(a0.2.2.1,(0,[])))),(1,(a0.1,(0,(a0.2.1,[]))))]:List (Int×(Int×(Int×(Int×(List UInt8))))))+List.length r2.1≤9223372036854775807∧((List.length ([(4,(a0.2.2.2.1,(a0.2.2.1,(0,[])))),(1,(a0.1,(0,(a0.2.1,[]))))]:List (Int×(Int×(Int×(Int×(List UInt8))))))+List.length r2.1)*48≤140737488355328∧((pRecs ([(4,(a0.2.2.2.1,(a0.2.2.1,(0,[])))),(1,(a0.1,(0,(a0.2.1,[]))))]++r2.1))∧∀r3,(Eq r3 ((fRecsT ([(4,(a0.2.2.2.1,(a0.2.2.1,(0,[])))),(1,(a0.1,(0,(a0.2.1,[]))))]++r2.1)),((),())))→(Eq (r3.1,((),())) ((fWalText a0),((),())))))))))
theorem impl_WalText.pure (a0:(Int×(Int×(Int×(Int×(List (Int×(List UInt8)))))))) (h:True) (hw:Wf c_impl_WalText.A a0):impl_WalText.F a0:=by
 delta impl_WalText.F wI
 simp only [forall_eq,true_and,and_true,caseB_iff,Prod.mk.injEq,decide_eq_true_eq,decide_eq_false_iff_not,Bool.not_eq_true',Bool.not_eq_false',bne_iff_ne,ne_eq,beq_iff_eq,Bool.not_true,Bool.not_false,beq_eq_false_iff_ne,bne_eq_false_iff_eq,List.length_append,List.length_cons,List.length_nil,List.append_nil,Nat.zero_add,decide_true,decide_false,eq_self_iff_true,Prod.eta]
 refine⟨fun h1=>by unfold fWalText;rw [if_neg (by rw [h1];decide)],fun h1=>?_⟩
 obtain⟨l1,l2,l3⟩:=walOk_len h1
 rw [w64 (x:=a0.2.2.1+1) (by omega) (by omega),entryRecs_len]
 refine⟨⟨by omega,by omega,by omega⟩,by omega,by omega,?_,?_⟩
 · unfold pRecs;simp only [List.length_append,List.length_cons,List.length_nil,entryRecs_len];omega
 · unfold fWalText fWalRecs;rw [if_pos h1];rfl
set_option maxRecDepth 100000 in
theorem impl_WalText.eq:EqS c_impl_WalText Try.f14 [9] [impl_WalOk.e,impl_entryRecs.e,impl_recsText.e] [] noL (fun i x=>impl_WalText.F x):=by intro i x;kernel_rfl
theorem impl_WalText.ok:ConOk Try.prog 14 c_impl_WalText:=okOf impl_WalText.eq Try.func14 rfl (by kernel_rfl) fun i x h hi hw=>impl_WalText.pure x h hw
def impl_WalText.e:GE:=⟨14,c_impl_WalText,⟨_,Try.func14,rfl,rfl⟩,impl_WalText.ok⟩
def c_impl_Frames:Con:={A:=.str,shA:=[.one],R:=(.pair (.list .str) (.int .i64)),shR:=[(false,1),(false,1)],pre:=fun _ a=>(pFrs a),f:=some fun _ a=>((fFrames a),((),()))}
def impl_Frames.F (a0:(List UInt8)):Prop:=(eS [(0,.val false [.str a0])] [(0,.val false [.str a0])]∧((fmI a0 0 ([]:List (List UInt8)))∧∀(y1:(Int×(List (List UInt8)))),(fmI a0 y1.1 y1.2)→(0≤y1.1∧(y1.1≤(ln a0)∧(True∧∀r2,(Eq r2 ((fUnframe (List.drop (tN y1.1) a0)),((),())))→(caseB (r2.1.2.2 !=(0:Int)) (Eq ((y1.2,y1.1),((),())) ((fFrames a0),((),()))) (List.length y1.2+List.length [r2.1.1]≤9223372036854775807∧((List.length y1.2+List.length [r2.1.1])*16≤140737488355328∧(eS [(0,.val false [.str a0])] [(0,.val false [.str a0])]∧(fmI a0 (wI (y1.1+r2.1.2.1)) (y1.2++[r2.1.1]))∧(fmM a0 (wI (y1.1+r2.1.2.1)) (y1.2++[r2.1.1]))<(fmM a0 y1.1 y1.2))))))))))
def impl_Frames.L (a0:(List UInt8)):Nat→Option LoopAnn:=fun p=>Go.Proofs.Ytgfgenbmjbhphaa.Bv.look p [(30,{kp:={hold:=[0],slots:=[4,5],boxes:=[],rows:=[{bx:=false,s:=4,i:=0,k:=1000515,e:=9,hot:=true}]},T:=(.pair (.int .i64) (.list .str)),I:=fun st y=>fmI a0 y.1 y.2,μ:=fun st y=>fmM a0 y.1 y.2})]
theorem impl_Frames.pure (a0:(List UInt8)) (h:(pFrs a0)) (hw:Wf c_impl_Frames.A a0):impl_Frames.F a0:=by
 delta impl_Frames.F ln tN wI eS
 simp only [forall_eq,true_and,and_true,caseB_iff,Prod.mk.injEq,decide_eq_true_eq,decide_eq_false_iff_not,Bool.not_eq_true',Bool.not_eq_false',bne_iff_ne,ne_eq,beq_iff_eq,Bool.not_true,Bool.not_false,beq_eq_false_iff_ne,bne_eq_false_iff_eq,List.length_append,List.length_cons,List.length_nil,List.append_nil,Nat.zero_add,decide_true,decide_false,eq_self_iff_true,Prod.eta]
 have hl:a0.length≤1000000:=h
 refine⟨⟨by omega,by omega,by simp,by simp⟩,?_⟩
 rintro⟨p,out⟩ hI
 simp only at hI ⊢
 have q1:=hI.h1
 have q2:=hI.h2
 have q3:=hI.h3
 have q4:=hI.h4
 have e:=frames_eq (a0.drop p.toNat)
 refine⟨q1,q2,fun hz=>?_,fun hz=>?_⟩
 · rw [if_neg hz] at e
   rw [q3,e];simp
 · rw [if_pos hz] at e
   have u:=un_zero hz
   rw [List.length_drop] at u
   rw [w64 (x:=p+(fUnframe (a0.drop p.toNat)).2.1) (by omega) (by omega)]
   refine⟨by omega,by omega,⟨by omega,by omega,?_,by simp;omega⟩,by unfold fmM;omega⟩
   rw [q3,e,List.drop_drop,show (p+(fUnframe (a0.drop p.toNat)).2.1).toNat=p.toNat+(fUnframe (a0.drop p.toNat)).2.1.toNat by omega]
   simp only [List.append_assoc,List.cons_append,List.nil_append]
   congr 1;omega
set_option maxRecDepth 100000 in
theorem impl_Frames.eq:EqS c_impl_Frames Try.f36 [67,3] [impl_Unframe.e] [] (fun i x=>impl_Frames.L x) (fun i x=>impl_Frames.F x):=by intro i x;kernel_rfl
theorem impl_Frames.ok:ConOk Try.prog 36 c_impl_Frames:=okOf impl_Frames.eq Try.func36 rfl (by kernel_rfl) fun i x h hi hw=>impl_Frames.pure x h hw
def impl_Frames.e:GE:=⟨36,c_impl_Frames,⟨_,Try.func36,rfl,rfl⟩,impl_Frames.ok⟩
def c_impl_Replay:Con:={A:=.str,shA:=[.one],R:=(.pair (.pair (.int .i64) (.pair (.int .i64) (.pair (.int .i64) (.pair (.int .i64) (.list (.pair (.int .i64) .str)))))) (.pair (.int .i64) .bool)),shR:=[(true,5),(false,1),(false,1)],pre:=fun _ a=>(pRpl a),f:=some fun _ a=>((fReplay a),((),()))}
def impl_Replay.F (a0:(List UInt8)):Prop:=((pFrs a0)∧∀r1,(Eq r1 ((fFrames a0),((),())))→(caseB ((ln r1.1.1)==(0:Int)) (Eq (((0,(0,(0,(0,([]:(List (Int×(List UInt8)))))))),(0,false)),((),())) ((fReplay a0),((),()))) (0≤(0:Int)∧((0:Int)<(ln r1.1.1)∧((pStr (List.getD r1.1.1 (tN (0:Int)) []))∧∀r2,(Eq r2 ((fReadRec (List.getD r1.1.1 (tN (0:Int)) [])),((),())))→(caseB (!r2.1.2) (Eq (((0,(0,(0,(0,([]:(List (Int×(List UInt8)))))))),(0,false)),((),())) ((fReplay a0),((),()))) (caseB (r2.1.1.1 !=(4:Int)) (Eq (((0,(0,(0,(0,([]:(List (Int×(List UInt8)))))))),(0,false)),((),())) ((fReplay a0),((),()))) (0≤(0:Int)∧((0:Int)<(ln r1.1.1)∧(0≤(1:Int)∧((1:Int)≤(ln r1.1.1)∧(eS [(2,.box 3 0),(9,.box 10 0),(54,.val false [.lst .str (List.drop (tN (1:Int)) r1.1.1) none]),(55,.val false [.int .i64 (ln (List.drop (tN (1:Int)) r1.1.1))])] [(2,.box 3 0),(9,.box 10 0),(54,.val false [.lst .str (List.drop (tN (1:Int)) r1.1.1) none]),(55,.val false [.int .i64 (ln (List.drop (tN (1:Int)) r1.1.1))])]∧((rpI a0 (wI ((ln (List.getD r1.1.1 (tN (0:Int)) []))+(8:Int))) 0 0 0 0 0 ([]:List (Int×(List UInt8))) r2.1.1.2.1 (-1) r2.1.1.2.2.1 r2.1.1.2.1 ([]:List (Int×(List UInt8))))∧∀(y3:(Int×(Int×(Int×(Int×(Int×(Int×((List (Int×(List UInt8)))×(Int×(Int×(Int×(Int×(List (Int×(List UInt8))))))))))))))),(rpI a0 y3.1 y3.2.1 y3.2.2.1 y3.2.2.2.1 y3.2.2.2.2.1 y3.2.2.2.2.2.1 y3.2.2.2.2.2.2.1 y3.2.2.2.2.2.2.2.1 y3.2.2.2.2.2.2.2.2.1 y3.2.2.2.2.2.2.2.2.2.1 y3.2.2.2.2.2.2.2.2.2.2.1 y3.2.2.2.2.2.2.2.2.2.2.2)→(caseB (decide (y3.2.1<(ln (List.drop (tN (1:Int)) r1.1.1)))) (0≤y3.2.1∧(y3.2.1<(ln (List.drop (tN (1:Int)) r1.1.1))∧((pStr (List.getD (List.drop (tN (1:Int)) r1.1.1) (tN y3.2.1) []))∧∀r4,(Eq r4 ((fReadRec (List.getD (List.drop (tN (1:Int)) r1.1.1) (tN y3.2.1) [])),((),())))→(caseB (!r4.1.2) (Eq (((y3.2.2.2.2.2.2.2.1,(y3.2.2.2.2.2.2.2.2.1,(y3.2.2.2.2.2.2.2.2.2.1,(y3.2.2.2.2.2.2.2.2.2.2.1,y3.2.2.2.2.2.2.2.2.2.2.2)))),(y3.1,true)),((),())) ((fReplay a0),((),()))) (True∧∀r5,(Eq r5 ((fWalStep (y3.2.2.2.2.2.2.2.1,(y3.2.2.2.2.2.2.2.2.1,(y3.2.2.2.2.2.2.2.2.2.1,(y3.2.2.2.2.2.2.2.2.2.2.1,y3.2.2.2.2.2.2.2.2.2.2.2)))) (r4.1.1.1,(r4.1.1.2.1,(r4.1.1.2.2.1,(r4.1.1.2.2.2.1,r4.1.1.2.2.2.2))))),((),())))→(caseB (!r5.1.2) (Eq (((y3.2.2.2.2.2.2.2.1,(y3.2.2.2.2.2.2.2.2.1,(y3.2.2.2.2.2.2.2.2.2.1,(y3.2.2.2.2.2.2.2.2.2.2.1,y3.2.2.2.2.2.2.2.2.2.2.2)))),(y3.1,true)),((),())) ((fReplay a0),((),()))) (eS [(2,.box 3 0),(9,.box 10 0),(54,.val false [.lst .str (List.drop (tN (1:Int)) r1.1.1) none]),(55,.val false [.int .i64 (ln (List.drop (tN (1:Int)) r1.1.1))])] [(2,.box 3 0),(9,.box 10 0),(54,.val false [.lst .str (List.drop (tN (1:Int)) r1.1.1) none]),(55,.val false [.int .i64 (ln (List.drop (tN (1:Int)) r1.1.1))])]∧(rpI a0 (wI (y3.1+(wI ((ln (List.getD (List.drop (tN (1:Int)) r1.1.1) (tN y3.2.1) []))+(8:Int))))) (wI (y3.2.1+(1:Int))) y3.2.2.1 y3.2.2.2.1 y3.2.2.2.2.1 y3.2.2.2.2.2.1 y3.2.2.2.2.2.2.1 r5.1.1.1 r5.1.1.2.1 r5.1.1.2.2.1 r5.1.1.2.2.2.1 r5.1.1.2.2.2.2)∧(rpM a0 (wI (y3.1+(wI ((ln (List.getD (List.drop (tN (1:Int)) r1.1.1) (tN y3.2.1) []))+(8:Int))))) (wI (y3.2.1+(1:Int))) y3.2.2.1 y3.2.2.2.1 y3.2.2.2.2.1 y3.2.2.2.2.2.1 y3.2.2.2.2.2.2.1 r5.1.1.1 r5.1.1.2.1 r5.1.1.2.2.1 r5.1.1.2.2.2.1 r5.1.1.2.2.2.2)<(rpM a0 y3.1 y3.2.1 y3.2.2.1 y3.2.2.2.1 y3.2.2.2.2.1 y3.2.2.2.2.2.1 y3.2.2.2.2.2.2.1 y3.2.2.2.2.2.2.2.1 y3.2.2.2.2.2.2.2.2.1 y3.2.2.2.2.2.2.2.2.2.1 y3.2.2.2.2.2.2.2.2.2.2.1 y3.2.2.2.2.2.2.2.2.2.2.2)))))))) (Eq (((y3.2.2.2.2.2.2.2.1,(y3.2.2.2.2.2.2.2.2.1,(y3.2.2.2.2.2.2.2.2.2.1,(y3.2.2.2.2.2.2.2.2.2.2.1,y3.2.2.2.2.2.2.2.2.2.2.2)))),(y3.1,true)),((),())) ((fReplay a0),((),())))))))))))))))))
def impl_Replay.L (a0:(List UInt8)):Nat→Option LoopAnn:=fun p=>Go.Proofs.Ytgfgenbmjbhphaa.Bv.look p [(2042,{kp:={hold:=[2,9,54,55],slots:=[10,56],boxes:=[3,10],rows:=[]},T:=(.pair (.int .i64) (.pair (.int .i64) (.pair (.int .i64) (.pair (.int .i64) (.pair (.int .i64) (.pair (.int .i64) (.pair (.list (.pair (.int .i64) .str)) (.pair (.int .i64) (.pair (.int .i64) (.pair (.int .i64) (.pair (.int .i64) (.list (.pair (.int .i64) .str))))))))))))),I:=fun st y=>rpI a0 y.1 y.2.1 y.2.2.1 y.2.2.2.1 y.2.2.2.2.1 y.2.2.2.2.2.1 y.2.2.2.2.2.2.1 y.2.2.2.2.2.2.2.1 y.2.2.2.2.2.2.2.2.1 y.2.2.2.2.2.2.2.2.2.1 y.2.2.2.2.2.2.2.2.2.2.1 y.2.2.2.2.2.2.2.2.2.2.2,μ:=fun st y=>rpM a0 y.1 y.2.1 y.2.2.1 y.2.2.2.1 y.2.2.2.2.1 y.2.2.2.2.2.1 y.2.2.2.2.2.2.1 y.2.2.2.2.2.2.2.1 y.2.2.2.2.2.2.2.2.1 y.2.2.2.2.2.2.2.2.2.1 y.2.2.2.2.2.2.2.2.2.2.1 y.2.2.2.2.2.2.2.2.2.2.2})]
theorem impl_Replay.pure (a0:(List UInt8)) (h:(pRpl a0)) (hw:Wf c_impl_Replay.A a0):impl_Replay.F a0:=by
 delta impl_Replay.F ln tN wI eS
 simp only [forall_eq,true_and,and_true,caseB_iff,Prod.mk.injEq,decide_eq_true_eq,decide_eq_false_iff_not,Bool.not_eq_true',Bool.not_eq_false',bne_iff_ne,ne_eq,beq_iff_eq,Bool.not_true,Bool.not_false,beq_eq_false_iff_ne,bne_eq_false_iff_eq,List.length_append,List.length_cons,List.length_nil,List.append_nil,Nat.zero_add,decide_true,decide_false,eq_self_iff_true,Prod.eta]
 have hl:a0.length≤1000000:=h
 obtain⟨t1,t2⟩:=frames_tot a0
 have hB:∀l:List (List UInt8),(l.drop (1:Int).toNat)=l.drop 1:=fun _=>rfl
 refine⟨h,fun h1=>rp_nil h1,fun h1=>⟨by omega,by omega,?_,?_⟩⟩
 · have:=tot_at (l:=(fFrames a0).1) (i:=0) (by omega)
   have t3:=tot_nn ((fFrames a0).1.drop (0+1))
   rw [List.drop_zero] at this
   unfold pStr maxLen
   show ((fFrames a0).1.getD 0 []).length≤_
   omega
 have hd0:tot (fFrames a0).1=(((fFrames a0).1.getD 0 []).length:Int)+8+tot (rpB a0):=by
  have:=tot_at (l:=(fFrames a0).1) (i:=0) (by omega)
  rw [List.drop_zero] at this;exact this
 have tb:=tot_nn (rpB a0)
 have fl:=frames_len (s:=a0)
 have rl:(rpB a0).length=(fFrames a0).1.length - 1:=List.length_drop
 refine⟨fun h2=>rp_bad h1 (fun h=>by rw [show (fReadRec ((fFrames a0).1.getD 0 [])).2=false from h2] at h;cases h.1),fun h2=>⟨fun h3=>rp_bad h1 (fun h=>h3 h.2),fun h3=>⟨by omega,by omega,by omega,by omega,?_,?_⟩⟩⟩
 · rw [w64 (x:=(((fFrames a0).1.getD (Int.toNat 0) []).length:Int)+8) (by rw [show (0:Int).toNat=0 from rfl];omega) (by rw [show (0:Int).toNat=0 from rfl];omega)]
   refine⟨⟨by omega,by omega⟩,⟨by omega,?_⟩,rfl⟩
   show (((fFrames a0).1.getD 0 []).length:Int)+8+tot ((rpB a0).drop 0)≤_
   rw [List.drop_zero];omega
 have hy:=rp_yes h1 ⟨h2,h3⟩
 rintro⟨size,i,z0,z1,z2,z3,z4,w0,w1,w2,w3,w4⟩ hI
 simp only at hI ⊢
 obtain⟨⟨i1,i2⟩,⟨s1,s2⟩,i3⟩:=hI
 rw [hB]
 change (i<((rpB a0).length:Int)→_)∧(¬i<((rpB a0).length:Int)→_)
 refine⟨fun hi=>?_,fun hi=>?_⟩
 · have ta:=tot_at (l:=rpB a0) (i:=i.toNat) (by omega)
   have tn:=tot_nn ((rpB a0).drop (i.toNat+1))
   have dg:=drop_getD (l:=rpB a0) (i:=i.toNat) [] (by omega)
   have hbb:((fFrames a0).1.drop 1).getD i.toNat []=(rpB a0).getD i.toNat []:=rfl
   rw [hbb]
   generalize (rpB a0).getD i.toNat []=b at ta dg ⊢
   rw [dg,rpGo] at i3
   rw [ta] at s2
   refine⟨i1,hi,by unfold pStr maxLen;omega,fun r1=>?_,fun r1=>⟨fun r2=>?_,fun r2=>?_⟩⟩
   · rw [if_neg (fun h=>by rw [r1] at h;cases h.1)] at i3
     rw [hy,←i3]
   · rw [if_neg (fun h=>by rw [r2] at h;cases h.2)] at i3
     rw [hy,←i3]
   · rw [if_pos ⟨r1,r2⟩] at i3
     rw [w64 (x:=(b.length:Int)+8) (by omega) (by omega),w64 (x:=size+((b.length:Int)+8)) (by omega) (by omega),w64 (x:=i+1) (by omega) (by omega)]
     refine⟨⟨⟨by omega,by omega⟩,⟨by omega,?_⟩,?_⟩,by unfold rpM;omega⟩
     · rw [tn1 i1];omega
     · rw [tn1 i1,←i3,show size+((b.length:Int)+8)=size+b.length+8 by omega]
 · rw [show (rpB a0).drop i.toNat=[] by rw [List.drop_eq_nil_iff];omega,rpGo] at i3
   rw [hy,←i3]
set_option maxRecDepth 100000 in
theorem impl_Replay.eq:EqS c_impl_Replay Try.f16 [26,3,4] [impl_WalStep.e,impl_ReadRec.e,impl_Frames.e] [] (fun i x=>impl_Replay.L x) (fun i x=>impl_Replay.F x):=by intro i x;kernel_rfl
theorem impl_Replay.ok:ConOk Try.prog 16 c_impl_Replay:=okOf impl_Replay.eq Try.func16 rfl (by kernel_rfl) fun i x h hi hw=>impl_Replay.pure x h hw
def impl_Replay.e:GE:=⟨16,c_impl_Replay,⟨_,Try.func16,rfl,rfl⟩,impl_Replay.ok⟩
def c_spec_DrawWalText:Con:={I:=.unit,B:=.unit,A:=(.list (.int .u8)),shA:=[.one],R:=(.pair (.int .i64) (.pair (.int .i64) (.pair (.int .i64) (.pair (.int .i64) (.list (.pair (.int .i64) .str)))))),shR:=[(true,5)],pre:=fun _ _=>True,post:=fun _ a y=>(qDW a y)}
def spec_DrawWalText.F (a0:(List Int)):Prop:=(True∧∀r1,(qNew a0 r1)→((CurI (r1.1.1,(r1.1.2.1,r1.1.2.2)))∧∀r2,(q5A (r1.1.1,(r1.1.2.1,r1.1.2.2)) r2)→(qDW a0 ((r2.1.1,(r2.1.2.1,(r2.1.2.2.1,(r2.1.2.2.2.1,r2.1.2.2.2.2)))),((),())))))
theorem spec_DrawWalText.pure (a0:(List Int)) (h:True) (hw:Wf c_spec_DrawWalText.A a0):spec_DrawWalText.F a0:=by
 unfold spec_DrawWalText.F
 simp only [forall_eq,true_and,and_true,caseB_iff,Prod.mk.injEq,decide_eq_true_eq,decide_eq_false_iff_not,Bool.not_eq_true',Bool.not_eq_false',bne_iff_ne,ne_eq,beq_iff_eq,Bool.not_true,Bool.not_false,beq_eq_false_iff_ne,bne_eq_false_iff_eq,List.length_append,List.length_cons,List.length_nil,List.append_nil,Nat.zero_add,decide_true,decide_false,eq_self_iff_true,qBelow,qOnce,qPickI,pBelow,pPickI,CurI,pTimes,qTimes,pInts7,qInts7,qPoints,qByte,pText,qText,pSpoil,qSpoil,qNew,qSize,q5A,qDW]
 repeat' (with_reducible (first | (refine And.intro ?_ ?_) | intro _))
 all_goals (try simp (disch:=omega) only [w64,wu8,tn0,tn1,tm1,tm2,List.length_append,List.length_cons,List.length_nil] at*)
 all_goals (try simp (disch:=omega) only [w64,wu8,tn0,tn1,tm1,tm2,List.length_append,List.length_cons,List.length_nil] at*)
 all_goals (try omega)
set_option maxRecDepth 100000 in
theorem spec_DrawWalText.eq:EqS c_spec_DrawWalText Try.f13 [26] [spec_l1New.e,spec_l5Any.e] [] noL (fun i x=>spec_DrawWalText.F x):=by intro i x;kernel_rfl
theorem spec_DrawWalText.ok:ConOk Try.prog 13 c_spec_DrawWalText:=okOf spec_DrawWalText.eq Try.func13 rfl (by kernel_rfl) fun i x h hi hw=>spec_DrawWalText.pure x h hw
def spec_DrawWalText.e:GE:=⟨13,c_spec_DrawWalText,⟨_,Try.func13,rfl,rfl⟩,spec_DrawWalText.ok⟩
end Go.Proofs.Ytgfgenbmjbhphaa.B
