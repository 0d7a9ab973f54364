/- Files of series:shown. -/
import Derived.Test.YtnoapekdbmpiaaaCBlk
import Derived.Test.YtnoapekdbmpiaaaCTypes
namespace Go.Proofs.Ytnoapekdbmpiaaa.B
set_option linter.unusedVariables false
set_option linter.unusedSimpArgs false
open Go Go.Proofs.Ytnoapekdbmpiaaa.Bv
def ftPiece (s:Ser) (n:Nat):List UInt8:=fVar s.1.length++(s.1++(fVar n++(fVar (fShowBlock s.2).length++(fVar (s.2.getD 0 (0,0)).1++fVar (s.2.getD (s.2.length - 1) (0,0)).1))))
def ftStep (p:List UInt8×List UInt8) (s:Ser):List UInt8×List UInt8:=(p.1++fShowBlock s.2,p.2++ftPiece s p.1.length)
def ftGo (l:List Ser):List UInt8×List UInt8:=l.foldl ftStep ([116,115,98,49],[])
def ftTail (p:List UInt8×List UInt8):List UInt8:=p.1++(p.2++fFixed p.1.length 4)
def fFileText (l:List Ser):List UInt8:=if fSerOk l=true∧l≠[] then ftTail (ftGo l)++fFixed (fCrc (ftTail (ftGo l))) 4 else []
theorem fShowBlock_length (l:List Pt):(fShowBlock l).length≤2014:=by
 unfold fShowBlock;split
 · exact fFrame_length _
 · simp
theorem fSer_at {l:List Ser} (h:fSerOk l=true):l.length≤5∧∀i,i<l.length→(l.getD i ([],[])).1.length≤8∧1≤(l.getD i ([],[])).1.length∧(l.getD i ([],[])).2.length≠0∧fPtsOk (l.getD i ([],[])).2=true:=by
 simp only [fSerOk,Bool.and_eq_true,decide_eq_true_eq,allB_iff] at h
 refine⟨h.1,fun i hi=>?_⟩
 have:=h.2 i hi
 simp only [srAt,Bool.and_eq_true,decide_eq_true_eq,fKey,fIn_iff] at this
 exact⟨by omega,by omega,this.2.2.1,this.2.2.2⟩
theorem ftPiece_length {s:Ser} {n:Nat} (h:s.1.length≤8):(ftPiece s n).length≤43:=by
 have h1:=fVar_length s.1.length
 have h2:=fVar_length n
 have h3:=fVar_length (fShowBlock s.2).length
 have h4:=fVar_length (s.2.getD 0 (0,0)).1
 have h5:=fVar_length (s.2.getD (s.2.length - 1) (0,0)).1
 simp only [ftPiece,List.length_append];omega
structure ftI (l:List Ser) (t x:List UInt8) (i:Int):Prop where
 h1:0≤i
 h2:i≤l.length
 h3:fSerOk l=true
 h4:l≠[]
 h5:(t,x)=ftGo (l.take i.toNat)
 h6:(t.length:Int)≤4+2014*i
 h7:(x.length:Int)≤43*i
def ftM (l:List Ser) (t x:List UInt8) (i:Int):Nat:=(l.length - i).toNat
theorem ft_step {l:List Ser} {t x t' x':List UInt8} {i:Int} (h:ftI l t x i) (hi:i<l.length) (ht:t'=t++fShowBlock (l.getD i.toNat ([],[])).2) (hx:x'=x++ftPiece (l.getD i.toNat ([],[])) t.length):ftI l t' x' (i+1):=by
 obtain⟨h1,h2,h3,h4,h5,h6,h7⟩:=h
 have hs:=(fSer_at h3).2 i.toNat (by omega)
 have b1:=fShowBlock_length (l.getD i.toNat ([],[])).2
 have b2:=ftPiece_length (n:=t.length) hs.1
 refine⟨by omega,by omega,h3,h4,?_,by rw [ht,List.length_append];omega,by rw [hx,List.length_append];omega⟩
 rw [tn1 h1,take_getD ([],[]) (by omega)]
 unfold ftGo at h5 ⊢
 rw [List.foldl_append,←h5,ht,hx]
 rfl
theorem ft_end {l:List Ser} {t x:List UInt8} {i:Int} (h:ftI l t x i) (hi:¬i<l.length):(t++(x++fFixed t.length 4))++fFixed (fCrc (t++(x++fFixed t.length 4))) 4=fFileText l:=by
 obtain⟨h1,h2,h3,h4,h5,h6,h7⟩:=h
 have e:i.toNat=l.length:=by omega
 rw [e,List.take_length] at h5
 unfold fFileText
 rw [if_pos ⟨h3,h4⟩,←h5]
 rfl
theorem fFileText_no {l:List Ser} (h:fSerOk l=false):[]=fFileText l:=by simp [fFileText,h]
theorem ftI_zero {l:List Ser} (h:fSerOk l=true) (h2:l≠[]):ftI l [116,115,98,49] [] 0:=⟨by omega,by omega,h,h2,rfl,by simp,by simp⟩
def c_spec_FileText:Con:={A:=(.list (.pair .str (.list (.pair (.int .i64) (.int .i64))))),shA:=[.one],R:=.str,shR:=[(false,1)],pre:=fun _ a=>(pSerOk a),f:=some fun _ a=>((fFileText a),((),()))}
def spec_FileText.F (a0:(List ((List UInt8)×(List (Int×Int))))):Prop:=((pSerOk a0)∧∀r1,(Eq r1 ((fSerOk a0),((),())))→(caseB (!r1.1) (Eq ([],((),())) ((fFileText a0),((),()))) (caseB ((ln a0)==(0:Int)) (Eq ([],((),())) ((fFileText a0),((),()))) (eS [(0,.val false [.lst (.pair .str (.list (.pair (.int .i64) (.int .i64)))) a0 none])] [(0,.val false [.lst (.pair .str (.list (.pair (.int .i64) (.int .i64)))) a0 none])]∧((ftI a0 [116,115,98,49] [] 0)∧∀(y2:((List UInt8)×((List UInt8)×Int))),(ftI a0 y2.1 y2.2.1 y2.2.2)→(caseB (decide (y2.2.2<(ln a0))) (0≤y2.2.2∧(y2.2.2<(ln a0)∧(True∧∀r3,(Eq r3 ((fShowBlock ((List.getD a0 (tN y2.2.2) ([],[])).2)),((),())))→(0≤y2.2.2∧(y2.2.2<(ln a0)∧(True∧∀r4,(Eq r4 ((fVar (ln ((List.getD a0 (tN y2.2.2) ([],[])).1))),((),())))→(List.length y2.2.1+List.length r4.1≤9223372036854775807∧(0≤y2.2.2∧(y2.2.2<(ln a0)∧(List.length (y2.2.1++r4.1)+List.length ((List.getD a0 (tN y2.2.2) ([],[])).1)≤9223372036854775807∧(True∧∀r5,(Eq r5 ((fVar (ln y2.1)),((),())))→(List.length ((y2.2.1++r4.1)++((List.getD a0 (tN y2.2.2) ([],[])).1))+List.length r5.1≤9223372036854775807∧(True∧∀r6,(Eq r6 ((fVar (ln r3.1)),((),())))→(List.length (((y2.2.1++r4.1)++((List.getD a0 (tN y2.2.2) ([],[])).1))++r5.1)+List.length r6.1≤9223372036854775807∧(0≤(0:Int)∧((0:Int)<(ln ((List.getD a0 (tN y2.2.2) ([],[])).2))∧(True∧∀r7,(Eq r7 ((fVar ((List.getD ((List.getD a0 (tN y2.2.2) ([],[])).2) (tN (0:Int)) (0,0)).1)),((),())))→(List.length ((((y2.2.1++r4.1)++((List.getD a0 (tN y2.2.2) ([],[])).1))++r5.1)++r6.1)+List.length r7.1≤9223372036854775807∧(0≤(wI ((ln ((List.getD a0 (tN y2.2.2) ([],[])).2)) - (1:Int)))∧((wI ((ln ((List.getD a0 (tN y2.2.2) ([],[])).2)) - (1:Int)))<(ln ((List.getD a0 (tN y2.2.2) ([],[])).2))∧(True∧∀r8,(Eq r8 ((fVar ((List.getD ((List.getD a0 (tN y2.2.2) ([],[])).2) (tN (wI ((ln ((List.getD a0 (tN y2.2.2) ([],[])).2)) - (1:Int)))) (0,0)).1)),((),())))→(List.length (((((y2.2.1++r4.1)++((List.getD a0 (tN y2.2.2) ([],[])).1))++r5.1)++r6.1)++r7.1)+List.length r8.1≤9223372036854775807∧(List.length y2.1+List.length r3.1≤9223372036854775807∧(eS [(0,.val false [.lst (.pair .str (.list (.pair (.int .i64) (.int .i64)))) a0 none])] [(0,.val false [.lst (.pair .str (.list (.pair (.int .i64) (.int .i64)))) a0 none])]∧(ftI a0 (y2.1++r3.1) ((((((y2.2.1++r4.1)++((List.getD a0 (tN y2.2.2) ([],[])).1))++r5.1)++r6.1)++r7.1)++r8.1) (wI (y2.2.2+(1:Int))))∧(ftM a0 (y2.1++r3.1) ((((((y2.2.1++r4.1)++((List.getD a0 (tN y2.2.2) ([],[])).1))++r5.1)++r6.1)++r7.1)++r8.1) (wI (y2.2.2+(1:Int))))<(ftM a0 y2.1 y2.2.1 y2.2.2))))))))))))))))))))))))) (List.length y2.1+List.length y2.2.1≤9223372036854775807∧((pFixed (ln y2.1) 4)∧∀r9,(Eq r9 ((fFixed (ln y2.1) 4),((),())))→(List.length (y2.1++y2.2.1)+List.length r9.1≤9223372036854775807∧((pCrc ((y2.1++y2.2.1)++r9.1))∧∀r10,(Eq r10 ((fCrc ((y2.1++y2.2.1)++r9.1)),((),())))→((pFixed r10.1 4)∧∀r11,(Eq r11 ((fFixed r10.1 4),((),())))→(List.length ((y2.1++y2.2.1)++r9.1)+List.length r11.1≤9223372036854775807∧(Eq ((((y2.1++y2.2.1)++r9.1)++r11.1),((),())) ((fFileText a0),((),())))))))))))))))
def spec_FileText.L (a0:(List ((List UInt8)×(List (Int×Int))))):Nat→Option LoopAnn:=fun p=>Go.Proofs.Ytnoapekdbmpiaaa.Bv.look p [(250,{kp:={hold:=[0],slots:=[3,4,5],boxes:=[],rows:=[]},T:=(.pair .str (.pair .str (.int .i64))),I:=fun st y=>ftI a0 y.1 y.2.1 y.2.2,μ:=fun st y=>ftM a0 y.1 y.2.1 y.2.2})]
theorem spec_FileText.pure (a0:(List ((List UInt8)×(List (Int×Int))))) (h:(pSerOk a0)) (hw:Wf c_spec_FileText.A a0):spec_FileText.F a0:=by
 delta spec_FileText.F ln tN wI eS
 have hk:pSerOk a0:=h
 simp only [forall_eq,true_and,and_true,caseB_iff,Prod.mk.injEq,decide_eq_true_eq,decide_eq_false_iff_not,Bool.not_eq_true',Bool.not_eq_false',bne_iff_ne,ne_eq,beq_iff_eq,Bool.not_true,Bool.not_false,beq_eq_false_iff_ne,bne_eq_false_iff_eq,List.length_append,List.length_cons,List.length_nil,List.append_nil,Nat.zero_add,decide_true,decide_false,eq_self_iff_true,pFixed]
 refine⟨hk,fun h1=>fFileText_no h1,fun h1=>⟨fun h2=>?_,fun h2=>⟨ftI_zero h1 (fun e=>by subst e;exact h2 rfl),?_⟩⟩⟩
 · have:a0=[]:=List.length_eq_zero_iff.1 (by omega)
   subst this;rfl
 rintro⟨t,x,i⟩ hI
 simp only at hI ⊢
 have q1:=hI.h1
 have q2:=hI.h2
 have q6:=hI.h6
 have q7:=hI.h7
 have hs0:=fSer_at hI.h3
 refine⟨fun hi=>?_,fun hi=>?_⟩
 · have hs:=hs0.2 i.toNat (by omega)
   have st:∀t' x',t'=t++fShowBlock (a0.getD i.toNat ([],[])).2→x'=x++ftPiece (a0.getD i.toNat ([],[])) t.length→ftI a0 t' x' (i+1):=fun t' x'=>ft_step hI hi
   have dn:∀t' x',ftM a0 t' x' (i+1)<ftM a0 t x i:=fun t' x'=>by unfold ftM;omega
   unfold ftPiece at st
   generalize a0.getD i.toNat ([],[])=s at*
   have b1:=fShowBlock_length s.2
   have v1:=fVar_length s.1.length
   have v2:=fVar_length t.length
   have v3:=fVar_length (fShowBlock s.2).length
   have v4:=fVar_length (s.2.getD 0 (0,0)).1
   have v5:=fVar_length (s.2.getD (s.2.length - 1) (0,0)).1
   have v6:=fPtsOk_len hs.2.2.2
   have e1:((s.2.length:Int) - 1).toNat=s.2.length - 1:=by omega
   have e0:(0:Int).toNat=0:=rfl
   simp (disch:=omega) only [w64,e1,e0]
   repeat' (with_reducible (first | (refine And.intro ?_ ?_) | intro _))
   all_goals (first | omega | exact dn _ _ | (refine st _ _ ?_ ?_<;>simp only [List.append_assoc]) | skip)
 · have f1:=fFixed_length t.length 4
   have he:=ft_end hI hi
   have f2:=fFixed_length (fCrc (t++(x++fFixed t.length 4))) 4
   have c1:=fCrc_in (t++(x++fFixed t.length 4))
   simp only [←List.append_assoc] at he f2 c1 ⊢
   repeat' (with_reducible (first | (refine And.intro ?_ ?_) | intro _))
   all_goals (first | omega | exact he | (unfold pCrc maxLen;simp only [List.length_append];omega) | skip)
set_option maxRecDepth 100000 in
theorem spec_FileText.eq:EqS c_spec_FileText Try.f92 [9] [spec_SeriesOk.e,spec_ShowBlock.e,spec_Var.e,spec_Fixed.e,spec_Crc.e] [] (fun i x=>spec_FileText.L x) (fun i x=>spec_FileText.F x):=by intro i x;kernel_rfl
theorem spec_FileText.ok:ConOk Try.prog 92 c_spec_FileText:=okOf spec_FileText.eq Try.func92 rfl (by kernel_rfl) fun i x h hi hw=>spec_FileText.pure x h hw
def spec_FileText.e:GE:=⟨92,c_spec_FileText,⟨_,Try.func92,rfl,rfl⟩,spec_FileText.ok⟩
def c_impl_FileText:Con:={A:=(.list (.pair .str (.list (.pair (.int .i64) (.int .i64))))),shA:=[.one],R:=.str,shR:=[(false,1)],pre:=fun _ a=>(pSerOk a),f:=some fun _ a=>((fFileText a),((),()))}
def impl_FileText.F (a0:(List ((List UInt8)×(List (Int×Int))))):Prop:=((pSerOk a0)∧∀r1,(Eq r1 ((fSerOk a0),((),())))→(caseB (!r1.1) (Eq ([],((),())) ((fFileText a0),((),()))) (caseB ((ln a0)==(0:Int)) (Eq ([],((),())) ((fFileText a0),((),()))) (eS [(16,.val false [.lst (.pair .str (.list (.pair (.int .i64) (.int .i64)))) a0 none]),(17,.val false [.int .i64 (ln a0)])] [(16,.val false [.lst (.pair .str (.list (.pair (.int .i64) (.int .i64)))) a0 none]),(17,.val false [.int .i64 (ln a0)])]∧((ftI a0 [116,115,98,49] [] 0)∧∀(y2:((List UInt8)×((List UInt8)×Int))),(ftI a0 y2.1 y2.2.1 y2.2.2)→(caseB (decide (y2.2.2<(ln a0))) (0≤y2.2.2∧(y2.2.2<(ln a0)∧(True∧∀r3,(Eq r3 ((fShowBlock ((List.getD a0 (tN y2.2.2) ([],[])).2)),((),())))→(True∧∀r4,(Eq r4 ((fVar (ln ((List.getD a0 (tN y2.2.2) ([],[])).1))),((),())))→(List.length r4.1+List.length ((List.getD a0 (tN y2.2.2) ([],[])).1)≤9223372036854775807∧(True∧∀r5,(Eq r5 ((fVar (ln y2.1)),((),())))→(List.length (r4.1++((List.getD a0 (tN y2.2.2) ([],[])).1))+List.length r5.1≤9223372036854775807∧(True∧∀r6,(Eq r6 ((fVar (ln r3.1)),((),())))→(List.length ((r4.1++((List.getD a0 (tN y2.2.2) ([],[])).1))++r5.1)+List.length r6.1≤9223372036854775807∧(0≤(0:Int)∧((0:Int)<(ln ((List.getD a0 (tN y2.2.2) ([],[])).2))∧(True∧∀r7,(Eq r7 ((fVar ((List.getD ((List.getD a0 (tN y2.2.2) ([],[])).2) (tN (0:Int)) (0,0)).1)),((),())))→(List.length (((r4.1++((List.getD a0 (tN y2.2.2) ([],[])).1))++r5.1)++r6.1)+List.length r7.1≤9223372036854775807∧(0≤(wI ((ln ((List.getD a0 (tN y2.2.2) ([],[])).2)) - (1:Int)))∧((wI ((ln ((List.getD a0 (tN y2.2.2) ([],[])).2)) - (1:Int)))<(ln ((List.getD a0 (tN y2.2.2) ([],[])).2))∧(True∧∀r8,(Eq r8 ((fVar ((List.getD ((List.getD a0 (tN y2.2.2) ([],[])).2) (tN (wI ((ln ((List.getD a0 (tN y2.2.2) ([],[])).2)) - (1:Int)))) (0,0)).1)),((),())))→(List.length ((((r4.1++((List.getD a0 (tN y2.2.2) ([],[])).1))++r5.1)++r6.1)++r7.1)+List.length r8.1≤9223372036854775807∧(List.length y2.2.1+List.length (((((r4.1++((List.getD a0 (tN y2.2.2) ([],[])).1))++r5.1)++r6.1)++r7.1)++r8.1)≤9223372036854775807∧(List.length y2.1+List.length r3.1≤9223372036854775807∧(eS [(16,.val false [.lst (.pair .str (.list (.pair (.int .i64) (.int .i64)))) a0 none]),(17,.val false [.int .i64 (ln a0)])] [(16,.val false [.lst (.pair .str (.list (.pair (.int .i64) (.int .i64)))) a0 none]),(17,.val false [.int .i64 (ln a0)])]∧(ftI a0 (y2.1++r3.1) (y2.2.1++(((((r4.1++((List.getD a0 (tN y2.2.2) ([],[])).1))++r5.1)++r6.1)++r7.1)++r8.1)) (wI (y2.2.2+(1:Int))))∧(ftM a0 (y2.1++r3.1) (y2.2.1++(((((r4.1++((List.getD a0 (tN y2.2.2) ([],[])).1))++r5.1)++r6.1)++r7.1)++r8.1)) (wI (y2.2.2+(1:Int))))<(ftM a0 y2.1 y2.2.1 y2.2.2))))))))))))))))))))) ((pFixed (ln y2.1) 4)∧∀r9,(Eq r9 ((fFixed (ln y2.1) 4),((),())))→(List.length y2.2.1+List.length r9.1≤9223372036854775807∧(List.length y2.1+List.length (y2.2.1++r9.1)≤9223372036854775807∧((pCrc (y2.1++(y2.2.1++r9.1)))∧∀r10,(Eq r10 ((fCrc (y2.1++(y2.2.1++r9.1))),((),())))→((pFixed r10.1 4)∧∀r11,(Eq r11 ((fFixed r10.1 4),((),())))→(List.length (y2.1++(y2.2.1++r9.1))+List.length r11.1≤9223372036854775807∧(Eq (((y2.1++(y2.2.1++r9.1))++r11.1),((),())) ((fFileText a0),((),())))))))))))))))
def impl_FileText.L (a0:(List ((List UInt8)×(List (Int×Int))))):Nat→Option LoopAnn:=fun p=>Go.Proofs.Ytnoapekdbmpiaaa.Bv.look p [(122,{kp:={hold:=[16,17],slots:=[3,4,18],boxes:=[],rows:=[]},T:=(.pair .str (.pair .str (.int .i64))),I:=fun st y=>ftI a0 y.1 y.2.1 y.2.2,μ:=fun st y=>ftM a0 y.1 y.2.1 y.2.2})]
theorem impl_FileText.pure (a0:(List ((List UInt8)×(List (Int×Int))))) (h:(pSerOk a0)) (hw:Wf c_impl_FileText.A a0):impl_FileText.F a0:=by
 delta impl_FileText.F ln tN wI eS
 have hk:pSerOk a0:=h
 simp only [forall_eq,true_and,and_true,caseB_iff,Prod.mk.injEq,decide_eq_true_eq,decide_eq_false_iff_not,Bool.not_eq_true',Bool.not_eq_false',bne_iff_ne,ne_eq,beq_iff_eq,Bool.not_true,Bool.not_false,beq_eq_false_iff_ne,bne_eq_false_iff_eq,List.length_append,List.length_cons,List.length_nil,List.append_nil,Nat.zero_add,decide_true,decide_false,eq_self_iff_true,pFixed]
 refine⟨hk,fun h1=>fFileText_no h1,fun h1=>⟨fun h2=>?_,fun h2=>⟨ftI_zero h1 (fun e=>by subst e;exact h2 rfl),?_⟩⟩⟩
 · have:a0=[]:=List.length_eq_zero_iff.1 (by omega)
   subst this;rfl
 rintro⟨t,x,i⟩ hI
 simp only at hI ⊢
 have q1:=hI.h1
 have q2:=hI.h2
 have q6:=hI.h6
 have q7:=hI.h7
 have hs0:=fSer_at hI.h3
 refine⟨fun hi=>?_,fun hi=>?_⟩
 · have hs:=hs0.2 i.toNat (by omega)
   have st:∀t' x',t'=t++fShowBlock (a0.getD i.toNat ([],[])).2→x'=x++ftPiece (a0.getD i.toNat ([],[])) t.length→ftI a0 t' x' (i+1):=fun t' x'=>ft_step hI hi
   have dn:∀t' x',ftM a0 t' x' (i+1)<ftM a0 t x i:=fun t' x'=>by unfold ftM;omega
   unfold ftPiece at st
   generalize a0.getD i.toNat ([],[])=s at*
   have b1:=fShowBlock_length s.2
   have v1:=fVar_length s.1.length
   have v2:=fVar_length t.length
   have v3:=fVar_length (fShowBlock s.2).length
   have v4:=fVar_length (s.2.getD 0 (0,0)).1
   have v5:=fVar_length (s.2.getD (s.2.length - 1) (0,0)).1
   have v6:=fPtsOk_len hs.2.2.2
   have e1:((s.2.length:Int) - 1).toNat=s.2.length - 1:=by omega
   have e0:(0:Int).toNat=0:=rfl
   simp (disch:=omega) only [w64,e1,e0]
   repeat' (with_reducible (first | (refine And.intro ?_ ?_) | intro _))
   all_goals (first | omega | exact dn _ _ | (refine st _ _ ?_ ?_<;>simp only [List.append_assoc]) | skip)
 · have f1:=fFixed_length t.length 4
   have he:=ft_end hI hi
   have f2:=fFixed_length (fCrc (t++(x++fFixed t.length 4))) 4
   have c1:=fCrc_in (t++(x++fFixed t.length 4))
   simp only [←List.append_assoc] at he f2 c1 ⊢
   repeat' (with_reducible (first | (refine And.intro ?_ ?_) | intro _))
   all_goals (first | omega | exact he | (unfold pCrc maxLen;simp only [List.length_append];omega) | skip)
set_option maxRecDepth 100000 in
theorem impl_FileText.eq:EqS c_impl_FileText Try.f97 [9] [impl_ShowBlock.e,impl_SeriesOk.e,impl_Var.e,impl_Fixed.e,impl_Crc.e] [] (fun i x=>impl_FileText.L x) (fun i x=>impl_FileText.F x):=by intro i x;kernel_rfl
theorem impl_FileText.ok:ConOk Try.prog 97 c_impl_FileText:=okOf impl_FileText.eq Try.func97 rfl (by kernel_rfl) fun i x h hi hw=>impl_FileText.pure x h hw
def impl_FileText.e:GE:=⟨97,c_impl_FileText,⟨_,Try.func97,rfl,rfl⟩,impl_FileText.ok⟩
end Go.Proofs.Ytnoapekdbmpiaaa.B
