/- Engines:copied,raised. -/
import Derived.Test.YtnoapekdbmpiaaaGreatCEngQ
namespace Go.Proofs.YtnoapekdbmpiaaaGreat.B
set_option linter.unusedVariables false
set_option linter.unusedSimpArgs false
open Go Go.Proofs.YtnoapekdbmpiaaaGreat.Bv
def fIdL (l:List Str):List Str:=l
def pIdL (l:List Str):Prop:=l.length≤1099511627776
def fIdS (l:List Ser):List Ser:=l
def pIdS (l:List Ser):Prop:=tot l≤100000000
structure cqI (l:List Ser) (i:Int) (out:List Ser):Prop where
 h1:0≤i
 h2:i≤l.length
 h3:out=l.take i.toNat
 h4:(out.length:Int)=i
def cqM (l:List Ser) (i:Int) (out:List Ser):Nat:=(l.length - i).toNat
theorem cq_step {l:List Ser} {i:Int} {out o':List Ser} (h:cqI l i out) (hi:i<l.length) (ho:o'=out++[l.getD i.toNat ([],[])]):cqI l (i+1) o':=by
 obtain⟨h1,h2,h3,h4⟩:=h
 subst ho
 refine⟨by omega,by omega,?_,by simp;omega⟩
 rw [tn1 h1,take_getD ([],[]) (by omega),h3]
theorem cq_end {l:List Ser} {i:Int} {out:List Ser} (h:cqI l i out) (hi:¬i<l.length):out=l:=by
 obtain⟨h1,h2,h3,h4⟩:=h
 rw [h3,show i.toNat=l.length by omega,List.take_length]
def fIdE (e:Eng):Eng:=e
def pIdE (e:Eng):Prop:=tot e.2.1≤100000000∧e.2.2.length≤100000000
theorem idE_of {e:Eng} (h:fEngOk e=true):pIdE e:=by
 obtain⟨g1,g2,g3,g4⟩:=engOk_parts h
 obtain⟨k1,k2,k3,k4,k5⟩:=head_parts g1
 obtain⟨s1,s2,s3,s4⟩:=fSerOk_R k2
 exact⟨by omega,by omega⟩
def fRaise1 (e:Eng) (t:Int):Eng:=if e.1<t∧t≤1099511627776 then (t,fRaised e.2.1 t,e.2.2) else e
def pRaise1 (e:Eng) (t:Int):Prop:=tot e.2.1≤100000000
def fRaise (e:Eng) (t:Int):Eng:=if fEngOk e=true then fRaise1 e t else (0,[],[])
def pRaise (e:Eng) (t:Int):Prop:=pEng e
theorem raise_len (e:Eng) (t:Int):tot (fRaise e t).2.1≤2000000∧(fRaise e t).2.2.length≤2000000:=by
 unfold fRaise;split
 · rename_i h
   obtain⟨g1,g2,g3,g4⟩:=engOk_parts h
   obtain⟨k1,k2,k3,k4,k5⟩:=head_parts g1
   obtain⟨s1,s2,s3,s4⟩:=fSerOk_R k2
   have:=raised_tot e.2.1 t
   unfold fRaise1;split
   · exact⟨by show tot (fRaised e.2.1 t)≤_;omega,by show e.2.2.length≤_;omega⟩
   · exact⟨by omega,by omega⟩
 · simp [tot,cL]
def c_slices_Clone_string_string:Con:={A:=(.list .str),shA:=[.one],R:=(.list .str),shR:=[(false,1)],fresh:=[(0,9)],pre:=fun _ a=>(pIdL a),f:=some fun _ a=>((fIdL a),((),()))}
def slices_Clone_string_string.F (a0:(List (List UInt8))):Prop:=(∀(b1:Bool),(b1=true→a0=[])→(caseB b1 (Eq (([]:(List (List UInt8))),((),())) ((fIdL a0),((),()))) (List.length ([]:List (List UInt8))+List.length a0≤9223372036854775807∧((List.length ([]:List (List UInt8))+List.length a0)*16≤140737488355328∧(Eq ((([]:List (List UInt8))++a0),((),())) ((fIdL a0),((),())))))))
theorem slices_Clone_string_string.pure (a0:(List (List UInt8))) (h:(pIdL a0)) (hw:Wf c_slices_Clone_string_string.A a0):slices_Clone_string_string.F a0:=by
 unfold slices_Clone_string_string.F
 have hp:a0.length≤1099511627776:=h
 simp only [forall_eq,true_and,and_true,caseB_iff,Prod.mk.injEq,decide_eq_true_eq,decide_eq_false_iff_not,Bool.not_eq_true',Bool.not_eq_false',bne_iff_ne,ne_eq,beq_iff_eq,Bool.not_true,Bool.not_false,beq_eq_false_iff_ne,bne_eq_false_iff_eq,List.length_append,List.length_cons,List.length_nil,List.append_nil,Nat.zero_add,decide_true,decide_false,eq_self_iff_true,fIdL,pIdL]
 repeat' (with_reducible (first | (refine And.intro ?_ ?_) | intro _))
 all_goals (try simp (disch:=omega) only [w64,wu8,tn0,tn1,tm1,tm2,List.length_append,List.length_cons,List.length_nil] at*)
 all_goals (try simp (disch:=omega) only [w64,wu8,tn0,tn1,tm1,tm2,List.length_append,List.length_cons,List.length_nil] at*)
 all_goals (try omega)
 all_goals (try grind [])
 all_goals (try simp_all)
set_option maxRecDepth 100000 in
theorem slices_Clone_string_string.eq:EqS c_slices_Clone_string_string Tryz.f140 [23] [] [] noL (fun i x=>slices_Clone_string_string.F x):=by intro i x;kernel_rfl
theorem slices_Clone_string_string.ok:ConOk Tryz.prog 140 c_slices_Clone_string_string:=okOf slices_Clone_string_string.eq Tryz.func140 rfl (by kernel_rfl) fun i x h hi hw=>slices_Clone_string_string.pure x h hw
def slices_Clone_string_string.e:GE:=⟨140,c_slices_Clone_string_string,⟨_,Tryz.func140,rfl,rfl⟩,slices_Clone_string_string.ok⟩
def c_impl_copySeries:Con:={A:=(.list (.pair .str (.list (.pair (.int .i64) (.int .i64))))),shA:=[.one],R:=(.list (.pair .str (.list (.pair (.int .i64) (.int .i64))))),shR:=[(false,1)],fresh:=[(0,72)],pre:=fun _ a=>(pIdS a),f:=some fun _ a=>((fIdS a),((),()))}
def impl_copySeries.F (a0:(List ((List UInt8)×(List (Int×Int))))):Prop:=(eS [(7,.val false [.lst (.pair .str (.list (.pair (.int .i64) (.int .i64)))) a0 none]),(8,.val false [.int .i64 (ln a0)])] [(7,.val false [.lst (.pair .str (.list (.pair (.int .i64) (.int .i64)))) a0 none]),(8,.val false [.int .i64 (ln a0)])]∧((cqI a0 0 ([]:List ((List UInt8)×(List (Int×Int)))))∧∀(y1:(Int×(List ((List UInt8)×(List (Int×Int)))))),(cqI a0 y1.1 y1.2)→(caseB (decide (y1.1<(ln a0))) (0≤y1.1∧(y1.1<(ln a0)∧((pLenP ((List.getD a0 (tN y1.1) ([],[])).2))∧∀r2,(Eq r2 ((fIdP ((List.getD a0 (tN y1.1) ([],[])).2)),((),())))→(List.length y1.2+List.length [((List.getD a0 (tN y1.1) ([],[])).1,r2.1)]≤9223372036854775807∧((List.length y1.2+List.length [((List.getD a0 (tN y1.1) ([],[])).1,r2.1)])*40≤140737488355328∧(eS [(7,.val false [.lst (.pair .str (.list (.pair (.int .i64) (.int .i64)))) a0 none]),(8,.val false [.int .i64 (ln a0)])] [(7,.val false [.lst (.pair .str (.list (.pair (.int .i64) (.int .i64)))) a0 none]),(8,.val false [.int .i64 (ln a0)])]∧(cqI a0 (wI (y1.1+(1:Int))) (y1.2++[((List.getD a0 (tN y1.1) ([],[])).1,r2.1)]))∧(cqM a0 (wI (y1.1+(1:Int))) (y1.2++[((List.getD a0 (tN y1.1) ([],[])).1,r2.1)]))<(cqM a0 y1.1 y1.2))))))) (Eq (y1.2,((),())) ((fIdS a0),((),()))))))
def impl_copySeries.L (a0:(List ((List UInt8)×(List (Int×Int))))):Nat→Option LoopAnn:=fun p=>Go.Proofs.YtnoapekdbmpiaaaGreat.Bv.look p [(58,{kp:={hold:=[7,8],slots:=[3,9],boxes:=[],rows:=[{bx:=false,s:=3,i:=0,k:=1000387,e:=72,hot:=true}]},T:=(.pair (.int .i64) (.list (.pair .str (.list (.pair (.int .i64) (.int .i64)))))),I:=fun st y=>cqI a0 y.1 y.2,μ:=fun st y=>cqM a0 y.1 y.2})]
theorem impl_copySeries.pure (a0:(List ((List UInt8)×(List (Int×Int))))) (h:(pIdS a0)) (hw:Wf c_impl_copySeries.A a0):impl_copySeries.F a0:=by
 delta impl_copySeries.F ln tN wI eS
 simp only [forall_eq,true_and,and_true,caseB_iff,Prod.mk.injEq,decide_eq_true_eq,decide_eq_false_iff_not,Bool.not_eq_true',Bool.not_eq_false',bne_iff_ne,ne_eq,beq_iff_eq,Bool.not_true,Bool.not_false,beq_eq_false_iff_ne,bne_eq_false_iff_eq,List.length_append,List.length_cons,List.length_nil,List.append_nil,Nat.zero_add,decide_true,decide_false,eq_self_iff_true,fIdP,pLenP,Prod.eta]
 have hn:tot a0≤100000000:=h
 have k1:=len_tot a0
 refine⟨⟨by omega,by omega,rfl,rfl⟩,?_⟩
 rintro⟨i,out⟩ hI
 simp only at hI ⊢
 have q1:=hI.h1
 have q2:=hI.h2
 have q4:=hI.h4
 refine⟨fun hi=>?_,fun hi=>cq_end hI hi⟩
 have dn:∀o,cqM a0 (i+1) o<cqM a0 i out:=fun o=>by unfold cqM;omega
 rw [w64 (x:=i+1) (by omega) (by omega)]
 have k2:=mem_tot (getD_mem (d:=(([]:List UInt8),([]:List Pt))) (by omega:i.toNat<a0.length))
 exact⟨q1,hi,by omega,by omega,by omega,cq_step hI hi rfl,dn _⟩
set_option maxRecDepth 100000 in
theorem impl_copySeries.eq:EqS c_impl_copySeries Tryz.f139 [29] [slices_Clone_impl_Point_impl_Point.e] [] (fun i x=>impl_copySeries.L x) (fun i x=>impl_copySeries.F x):=by intro i x;kernel_rfl
theorem impl_copySeries.ok:ConOk Tryz.prog 139 c_impl_copySeries:=okOf impl_copySeries.eq Tryz.func139 rfl (by kernel_rfl) fun i x h hi hw=>impl_copySeries.pure x h hw
def impl_copySeries.e:GE:=⟨139,c_impl_copySeries,⟨_,Tryz.func139,rfl,rfl⟩,impl_copySeries.ok⟩
def c_impl_copyEngine:Con:={A:=(.pair (.int .i64) (.pair (.list (.pair .str (.list (.pair (.int .i64) (.int .i64))))) (.list .str))),shA:=[.agg 3],R:=(.pair (.int .i64) (.pair (.list (.pair .str (.list (.pair (.int .i64) (.int .i64))))) (.list .str))),shR:=[(true,3)],fresh:=[(1,72),(2,9)],pre:=fun _ a=>(pIdE a),f:=some fun _ a=>((fIdE a),((),()))}
def impl_copyEngine.F (a0:(Int×((List ((List UInt8)×(List (Int×Int))))×(List (List UInt8))))):Prop:=((pIdS a0.2.1)∧∀r1,(Eq r1 ((fIdS a0.2.1),((),())))→((pIdL a0.2.2)∧∀r2,(Eq r2 ((fIdL a0.2.2),((),())))→(Eq ((a0.1,(r1.1,r2.1)),((),())) ((fIdE a0),((),())))))
theorem impl_copyEngine.pure (a0:(Int×((List ((List UInt8)×(List (Int×Int))))×(List (List UInt8))))) (h:(pIdE a0)) (hw:Wf c_impl_copyEngine.A a0):impl_copyEngine.F a0:=by
 unfold impl_copyEngine.F
 simp only [forall_eq,true_and,and_true,caseB_iff,Prod.mk.injEq,decide_eq_true_eq,decide_eq_false_iff_not,Bool.not_eq_true',Bool.not_eq_false',bne_iff_ne,ne_eq,beq_iff_eq,Bool.not_true,Bool.not_false,beq_eq_false_iff_ne,bne_eq_false_iff_eq,List.length_append,List.length_cons,List.length_nil,List.append_nil,Nat.zero_add,decide_true,decide_false,eq_self_iff_true,fIdL,pIdL,fIdS,pIdS,fIdE]
 obtain⟨h1,h2⟩:=h
 exact⟨h1,by omega⟩
set_option maxRecDepth 100000 in
theorem impl_copyEngine.eq:EqS c_impl_copyEngine Tryz.f74 [31] [impl_copySeries.e,slices_Clone_string_string.e] [] noL (fun i x=>impl_copyEngine.F x):=by intro i x;kernel_rfl
theorem impl_copyEngine.ok:ConOk Tryz.prog 74 c_impl_copyEngine:=okOf impl_copyEngine.eq Tryz.func74 rfl (by kernel_rfl) fun i x h hi hw=>impl_copyEngine.pure x h hw
def impl_copyEngine.e:GE:=⟨74,c_impl_copyEngine,⟨_,Tryz.func74,rfl,rfl⟩,impl_copyEngine.ok⟩
structure lcI (a:Eng) (i f:Int) (c:List Ser) (g:List Str) (z0:Int) (z2:List Str) (o0:Int) (z1 o1:List Ser) (o2:List Str):Prop where
 ec:c=a.2.1
 e0:o0=a.1
 e2:o2=a.2.2
 I:cqI a.2.1 i o1
def lcM (a:Eng) (i f:Int) (c:List Ser) (g:List Str) (z0:Int) (z2:List Str) (o0:Int) (z1 o1:List Ser) (o2:List Str):Nat:=cqM a.2.1 i o1
def c_spec_l10Copy:Con:={A:=(.pair (.int .i64) (.pair (.list (.pair .str (.list (.pair (.int .i64) (.int .i64))))) (.list .str))),shA:=[.agg 3],R:=(.pair (.int .i64) (.pair (.list (.pair .str (.list (.pair (.int .i64) (.int .i64))))) (.list .str))),shR:=[(true,3)],fresh:=[(1,72),(2,9)],pre:=fun _ a=>(pIdE a),f:=some fun _ a=>((fIdE a),((),()))}
def spec_l10Copy.F (a0:(Int×((List ((List UInt8)×(List (Int×Int))))×(List (List UInt8))))):Prop:=(List.length ([]:List (List UInt8))+List.length a0.2.2≤9223372036854775807∧((List.length ([]:List (List UInt8))+List.length a0.2.2)*16≤140737488355328∧(eS [(1,.box 2 0),(2,.box 3 0),(3,.box 4 0)] [(1,.box 2 0),(2,.box 3 0),(3,.box 4 0)]∧((lcI a0 0 a0.1 a0.2.1 a0.2.2 0 ([]:List (List UInt8)) a0.1 ([]:List ((List UInt8)×(List (Int×Int)))) ([]:List ((List UInt8)×(List (Int×Int)))) (([]:List (List UInt8))++a0.2.2))∧∀(y1:(Int×(Int×((List ((List UInt8)×(List (Int×Int))))×((List (List UInt8))×(Int×((List (List UInt8))×(Int×((List ((List UInt8)×(List (Int×Int))))×((List ((List UInt8)×(List (Int×Int))))×(List (List UInt8)))))))))))),(lcI a0 y1.1 y1.2.1 y1.2.2.1 y1.2.2.2.1 y1.2.2.2.2.1 y1.2.2.2.2.2.1 y1.2.2.2.2.2.2.1 y1.2.2.2.2.2.2.2.1 y1.2.2.2.2.2.2.2.2.1 y1.2.2.2.2.2.2.2.2.2)→(caseB (decide (y1.1<(ln y1.2.2.1))) (0≤y1.1∧(y1.1<(ln y1.2.2.1)∧(0≤y1.1∧(y1.1<(ln y1.2.2.1)∧(List.length ([]:List (Int×Int))+List.length ((List.getD y1.2.2.1 (tN y1.1) ([],[])).2)≤9223372036854775807∧((List.length ([]:List (Int×Int))+List.length ((List.getD y1.2.2.1 (tN y1.1) ([],[])).2))*16≤140737488355328∧(List.length y1.2.2.2.2.2.2.2.2.1+List.length [((List.getD y1.2.2.1 (tN y1.1) ([],[])).1,(([]:List (Int×Int))++((List.getD y1.2.2.1 (tN y1.1) ([],[])).2)))]≤9223372036854775807∧((List.length y1.2.2.2.2.2.2.2.2.1+List.length [((List.getD y1.2.2.1 (tN y1.1) ([],[])).1,(([]:List (Int×Int))++((List.getD y1.2.2.1 (tN y1.1) ([],[])).2)))])*40≤140737488355328∧(eS [(1,.box 2 0),(2,.box 3 0),(3,.box 4 0)] [(1,.box 2 0),(2,.box 3 0),(3,.box 4 0)]∧(lcI a0 (wI (y1.1+(1:Int))) y1.2.1 y1.2.2.1 y1.2.2.2.1 y1.2.2.2.2.1 y1.2.2.2.2.2.1 y1.2.2.2.2.2.2.1 y1.2.2.2.2.2.2.2.1 (y1.2.2.2.2.2.2.2.2.1++[((List.getD y1.2.2.1 (tN y1.1) ([],[])).1,(([]:List (Int×Int))++((List.getD y1.2.2.1 (tN y1.1) ([],[])).2)))]) y1.2.2.2.2.2.2.2.2.2)∧(lcM a0 (wI (y1.1+(1:Int))) y1.2.1 y1.2.2.1 y1.2.2.2.1 y1.2.2.2.2.1 y1.2.2.2.2.2.1 y1.2.2.2.2.2.2.1 y1.2.2.2.2.2.2.2.1 (y1.2.2.2.2.2.2.2.2.1++[((List.getD y1.2.2.1 (tN y1.1) ([],[])).1,(([]:List (Int×Int))++((List.getD y1.2.2.1 (tN y1.1) ([],[])).2)))]) y1.2.2.2.2.2.2.2.2.2)<(lcM a0 y1.1 y1.2.1 y1.2.2.1 y1.2.2.2.1 y1.2.2.2.2.1 y1.2.2.2.2.2.1 y1.2.2.2.2.2.2.1 y1.2.2.2.2.2.2.2.1 y1.2.2.2.2.2.2.2.2.1 y1.2.2.2.2.2.2.2.2.2)))))))))) (Eq ((y1.2.2.2.2.2.2.1,(y1.2.2.2.2.2.2.2.2.1,y1.2.2.2.2.2.2.2.2.2)),((),())) ((fIdE a0),((),()))))))))
def spec_l10Copy.L (a0:(Int×((List ((List UInt8)×(List (Int×Int))))×(List (List UInt8))))):Nat→Option LoopAnn:=fun p=>Go.Proofs.YtnoapekdbmpiaaaGreat.Bv.look p [(58,{kp:={hold:=[1,2,3],slots:=[4],boxes:=[2,3,4],rows:=[{bx:=true,s:=3,i:=1,k:=13800389,e:=72,hot:=true},{bx:=true,s:=4,i:=1,k:=13800517,e:=72,hot:=true},{bx:=true,s:=4,i:=2,k:=13800519,e:=9,hot:=true}]},T:=(.pair (.int .i64) (.pair (.int .i64) (.pair (.list (.pair .str (.list (.pair (.int .i64) (.int .i64))))) (.pair (.list .str) (.pair (.int .i64) (.pair (.list .str) (.pair (.int .i64) (.pair (.list (.pair .str (.list (.pair (.int .i64) (.int .i64))))) (.pair (.list (.pair .str (.list (.pair (.int .i64) (.int .i64))))) (.list .str)))))))))),I:=fun st y=>lcI a0 y.1 y.2.1 y.2.2.1 y.2.2.2.1 y.2.2.2.2.1 y.2.2.2.2.2.1 y.2.2.2.2.2.2.1 y.2.2.2.2.2.2.2.1 y.2.2.2.2.2.2.2.2.1 y.2.2.2.2.2.2.2.2.2,μ:=fun st y=>lcM a0 y.1 y.2.1 y.2.2.1 y.2.2.2.1 y.2.2.2.2.1 y.2.2.2.2.2.1 y.2.2.2.2.2.2.1 y.2.2.2.2.2.2.2.1 y.2.2.2.2.2.2.2.2.1 y.2.2.2.2.2.2.2.2.2})]
theorem spec_l10Copy.pure (a0:(Int×((List ((List UInt8)×(List (Int×Int))))×(List (List UInt8))))) (h:(pIdE a0)) (hw:Wf c_spec_l10Copy.A a0):spec_l10Copy.F a0:=by
 delta spec_l10Copy.F ln tN wI eS
 simp only [forall_eq,true_and,and_true,caseB_iff,Prod.mk.injEq,decide_eq_true_eq,decide_eq_false_iff_not,Bool.not_eq_true',Bool.not_eq_false',bne_iff_ne,ne_eq,beq_iff_eq,Bool.not_true,Bool.not_false,beq_eq_false_iff_ne,bne_eq_false_iff_eq,List.length_append,List.length_cons,List.length_nil,List.append_nil,Nat.zero_add,decide_true,decide_false,eq_self_iff_true,Prod.eta]
 obtain⟨hn,hl⟩:=h
 have k1:=len_tot a0.2.1
 simp only [List.nil_append]
 refine⟨by omega,by omega,⟨rfl,rfl,rfl,by omega,by omega,rfl,rfl⟩,?_⟩
 rintro⟨i,f,c,g,z0,z2,o0,z1,o1,o2⟩ ⟨ec,e0,e2,hI⟩
 simp only at ec e0 e2 hI ⊢
 subst ec e0 e2
 have q1:=hI.h1
 have q2:=hI.h2
 have q4:=hI.h4
 refine⟨fun hi=>?_,fun hi=>?_⟩
 · have k2:=mem_tot (getD_mem (d:=(([]:List UInt8),([]:List Pt))) (by omega:i.toNat<a0.2.1.length))
   rw [w64 (x:=i+1) (by omega) (by omega)]
   exact⟨q1,hi,q1,hi,by omega,by omega,by omega,by omega,⟨rfl,rfl,rfl,cq_step hI hi rfl⟩,by unfold lcM cqM;omega⟩
 · rw [cq_end hI hi];rfl
set_option maxRecDepth 100000 in
theorem spec_l10Copy.eq:EqS c_spec_l10Copy Tryz.f72 [31] [] [] (fun i x=>spec_l10Copy.L x) (fun i x=>spec_l10Copy.F x):=by intro i x;kernel_rfl
theorem spec_l10Copy.ok:ConOk Tryz.prog 72 c_spec_l10Copy:=okOf spec_l10Copy.eq Tryz.func72 rfl (by kernel_rfl) fun i x h hi hw=>spec_l10Copy.pure x h hw
def spec_l10Copy.e:GE:=⟨72,c_spec_l10Copy,⟨_,Tryz.func72,rfl,rfl⟩,spec_l10Copy.ok⟩
structure lrI (a:Eng) (t i f z0:Int) (z2:List Str) (out c:List Ser) (g:List Str) (z1:List Ser):Prop where
 ec:c=a.2.1
 eg:g=a.2.2
 I:raI a.2.1 t i out
def lrM (a:Eng) (t i f z0:Int) (z2:List Str) (out c:List Ser) (g:List Str) (z1:List Ser):Nat:=raM a.2.1 t i out
def c_spec_l10Raise:Con:={A:=(.pair (.pair (.int .i64) (.pair (.list (.pair .str (.list (.pair (.int .i64) (.int .i64))))) (.list .str))) (.int .i64)),shA:=[.agg 3,.one],ownA:=[(1,72),(2,9)],R:=(.pair (.int .i64) (.pair (.list (.pair .str (.list (.pair (.int .i64) (.int .i64))))) (.list .str))),shR:=[(true,3)],fresh:=[(1,72),(2,9)],pre:=fun _ a=>(pRaise1 a.1 a.2),f:=some fun _ a=>((fRaise1 a.1 a.2),((),()))}
def spec_l10Raise.F (a0:(Int×((List ((List UInt8)×(List (Int×Int))))×(List (List UInt8))))) (a1:Int):Prop:=(caseB (decide (a1≤a0.1)) (Eq ((a0.1,(a0.2.1,a0.2.2)),((),())) ((fRaise1 a0 a1),((),()))) (caseB (decide (a1>(1099511627776:Int))) (Eq ((a0.1,(a0.2.1,a0.2.2)),((),())) ((fRaise1 a0 a1),((),()))) (eS [(1,.val false [.int .i64 a1]),(2,.box 3 0),(4,.box 5 0)] [(1,.val false [.int .i64 a1]),(2,.box 3 0),(4,.box 5 0)]∧((lrI a0 a1 0 a0.1 0 ([]:List (List UInt8)) ([]:List ((List UInt8)×(List (Int×Int)))) a0.2.1 a0.2.2 ([]:List ((List UInt8)×(List (Int×Int)))))∧∀(y1:(Int×(Int×(Int×((List (List UInt8))×((List ((List UInt8)×(List (Int×Int))))×((List ((List UInt8)×(List (Int×Int))))×((List (List UInt8))×(List ((List UInt8)×(List (Int×Int)))))))))))),(lrI a0 a1 y1.1 y1.2.1 y1.2.2.1 y1.2.2.2.1 y1.2.2.2.2.1 y1.2.2.2.2.2.1 y1.2.2.2.2.2.2.1 y1.2.2.2.2.2.2.2)→(caseB (decide (y1.1<(ln y1.2.2.2.2.2.1))) (0≤y1.1∧(y1.1<(ln y1.2.2.2.2.2.1)∧((pSliceD ((List.getD y1.2.2.2.2.2.1 (tN y1.1) ([],[])).2) a1 1099511627777)∧∀r2,(Eq r2 ((fSlice ((List.getD y1.2.2.2.2.2.1 (tN y1.1) ([],[])).2) a1 1099511627777),((),())))→(caseB (decide ((ln r2.1)>(0:Int))) (0≤y1.1∧(y1.1<(ln y1.2.2.2.2.2.1)∧(List.length y1.2.2.2.2.1+List.length [((List.getD y1.2.2.2.2.2.1 (tN y1.1) ([],[])).1,r2.1)]≤9223372036854775807∧((List.length y1.2.2.2.2.1+List.length [((List.getD y1.2.2.2.2.2.1 (tN y1.1) ([],[])).1,r2.1)])*40≤140737488355328∧(eS [(1,.val false [.int .i64 a1]),(2,.box 3 0),(4,.box 5 0)] [(1,.val false [.int .i64 a1]),(2,.box 3 0),(4,.box 5 0)]∧(lrI a0 a1 (wI (y1.1+(1:Int))) y1.2.1 y1.2.2.1 y1.2.2.2.1 (y1.2.2.2.2.1++[((List.getD y1.2.2.2.2.2.1 (tN y1.1) ([],[])).1,r2.1)]) y1.2.2.2.2.2.1 y1.2.2.2.2.2.2.1 y1.2.2.2.2.2.2.2)∧(lrM a0 a1 (wI (y1.1+(1:Int))) y1.2.1 y1.2.2.1 y1.2.2.2.1 (y1.2.2.2.2.1++[((List.getD y1.2.2.2.2.2.1 (tN y1.1) ([],[])).1,r2.1)]) y1.2.2.2.2.2.1 y1.2.2.2.2.2.2.1 y1.2.2.2.2.2.2.2)<(lrM a0 a1 y1.1 y1.2.1 y1.2.2.1 y1.2.2.2.1 y1.2.2.2.2.1 y1.2.2.2.2.2.1 y1.2.2.2.2.2.2.1 y1.2.2.2.2.2.2.2)))))) (eS [(1,.val false [.int .i64 a1]),(2,.box 3 0),(4,.box 5 0)] [(1,.val false [.int .i64 a1]),(2,.box 3 0),(4,.box 5 0)]∧(lrI a0 a1 (wI (y1.1+(1:Int))) y1.2.1 y1.2.2.1 y1.2.2.2.1 y1.2.2.2.2.1 y1.2.2.2.2.2.1 y1.2.2.2.2.2.2.1 y1.2.2.2.2.2.2.2)∧(lrM a0 a1 (wI (y1.1+(1:Int))) y1.2.1 y1.2.2.1 y1.2.2.2.1 y1.2.2.2.2.1 y1.2.2.2.2.2.1 y1.2.2.2.2.2.2.1 y1.2.2.2.2.2.2.2)<(lrM a0 a1 y1.1 y1.2.1 y1.2.2.1 y1.2.2.2.1 y1.2.2.2.2.1 y1.2.2.2.2.2.1 y1.2.2.2.2.2.2.1 y1.2.2.2.2.2.2.2)))))) (Eq ((a1,(y1.2.2.2.2.1,y1.2.2.2.2.2.2.1)),((),())) ((fRaise1 a0 a1),((),()))))))))
def spec_l10Raise.L (a0:(Int×((List ((List UInt8)×(List (Int×Int))))×(List (List UInt8))))) (a1:Int):Nat→Option LoopAnn:=fun p=>Go.Proofs.YtnoapekdbmpiaaaGreat.Bv.look p [(122,{kp:={hold:=[1,2,4],slots:=[5,6],boxes:=[3,5],rows:=[{bx:=false,s:=5,i:=0,k:=1000643,e:=72,hot:=true},{bx:=true,s:=3,i:=1,k:=13800389,e:=72,hot:=true},{bx:=true,s:=3,i:=2,k:=13800391,e:=9,hot:=true},{bx:=true,s:=5,i:=1,k:=13800645,e:=72,hot:=true}]},T:=(.pair (.int .i64) (.pair (.int .i64) (.pair (.int .i64) (.pair (.list .str) (.pair (.list (.pair .str (.list (.pair (.int .i64) (.int .i64))))) (.pair (.list (.pair .str (.list (.pair (.int .i64) (.int .i64))))) (.pair (.list .str) (.list (.pair .str (.list (.pair (.int .i64) (.int .i64)))))))))))),I:=fun st y=>lrI a0 a1 y.1 y.2.1 y.2.2.1 y.2.2.2.1 y.2.2.2.2.1 y.2.2.2.2.2.1 y.2.2.2.2.2.2.1 y.2.2.2.2.2.2.2,μ:=fun st y=>lrM a0 a1 y.1 y.2.1 y.2.2.1 y.2.2.2.1 y.2.2.2.2.1 y.2.2.2.2.2.1 y.2.2.2.2.2.2.1 y.2.2.2.2.2.2.2})]
theorem spec_l10Raise.pure (a0:(Int×((List ((List UInt8)×(List (Int×Int))))×(List (List UInt8))))) (a1:Int) (h:(pRaise1 a0 a1)) (hw:Wf c_spec_l10Raise.A (a0,a1)):spec_l10Raise.F a0 a1:=by
 delta spec_l10Raise.F ln tN wI eS
 simp only [forall_eq,true_and,and_true,caseB_iff,Prod.mk.injEq,decide_eq_true_eq,decide_eq_false_iff_not,Bool.not_eq_true',Bool.not_eq_false',bne_iff_ne,ne_eq,beq_iff_eq,Bool.not_true,Bool.not_false,beq_eq_false_iff_ne,bne_eq_false_iff_eq,List.length_append,List.length_cons,List.length_nil,List.append_nil,Nat.zero_add,decide_true,decide_false,eq_self_iff_true,pSliceD,Prod.eta]
 have hn:tot a0.2.1≤100000000:=h
 have k1:=len_tot a0.2.1
 refine⟨fun h1=>?_,fun h1=>⟨fun h2=>?_,fun h2=>⟨⟨rfl,rfl,by omega,by omega,by simp [fRaised],by simp⟩,?_⟩⟩⟩
 · unfold fRaise1;rw [if_neg (by omega)]
 · unfold fRaise1;rw [if_neg (by omega)]
 rintro⟨i,f,z0,z2,out,c,g,z1⟩ ⟨ec,eg,hI⟩
 simp only at ec eg hI ⊢
 subst ec eg
 have q1:=hI.h1
 have q2:=hI.h2
 have q4:=hI.h4
 refine⟨fun hi=>?_,fun hi=>?_⟩
 · have dn:∀o,raM a0.2.1 a1 (i+1) o<raM a0.2.1 a1 i out:=fun o=>by unfold raM;omega
   rw [w64 (x:=i+1) (by omega) (by omega)]
   have k2:=mem_tot (getD_mem (d:=(([]:List UInt8),([]:List Pt))) (by omega:i.toNat<a0.2.1.length))
   refine⟨q1,hi,by omega,fun h6=>⟨q1,hi,by omega,by omega,⟨rfl,rfl,ra_yes hI hi (by omega)⟩,dn _⟩,fun h6=>⟨⟨rfl,rfl,ra_no hI hi (by omega)⟩,dn _⟩⟩
 · unfold fRaise1;rw [if_pos (by omega),ra_end hI hi]
set_option maxRecDepth 100000 in
theorem spec_l10Raise.eq:EqS c_spec_l10Raise Tryz.f71 [31] [spec_l8Slice.e] [] (fun i x=>spec_l10Raise.L x.1 x.2) (fun i x=>spec_l10Raise.F x.1 x.2):=by intro i x;kernel_rfl
theorem spec_l10Raise.ok:ConOk Tryz.prog 71 c_spec_l10Raise:=okOf spec_l10Raise.eq Tryz.func71 rfl (by kernel_rfl) fun i x h hi hw=>spec_l10Raise.pure x.1 x.2 h hw
def spec_l10Raise.e:GE:=⟨71,c_spec_l10Raise,⟨_,Tryz.func71,rfl,rfl⟩,spec_l10Raise.ok⟩
def c_impl_Raise:Con:={A:=(.pair (.pair (.int .i64) (.pair (.list (.pair .str (.list (.pair (.int .i64) (.int .i64))))) (.list .str))) (.int .i64)),shA:=[.agg 3,.one],R:=(.pair (.int .i64) (.pair (.list (.pair .str (.list (.pair (.int .i64) (.int .i64))))) (.list .str))),shR:=[(true,3)],fresh:=[(1,72),(2,9)],pre:=fun _ a=>(pRaise a.1 a.2),f:=some fun _ a=>((fRaise a.1 a.2),((),()))}
def impl_Raise.F (a0:(Int×((List ((List UInt8)×(List (Int×Int))))×(List (List UInt8))))) (a1:Int):Prop:=((pEng (a0.1,(a0.2.1,a0.2.2)))∧∀r1,(Eq r1 ((fEngOk (a0.1,(a0.2.1,a0.2.2))),((),())))→(caseB (!r1.1) (Eq ((0,(([]:(List ((List UInt8)×(List (Int×Int))))),([]:(List (List UInt8))))),((),())) ((fRaise a0 a1),((),()))) ((pIdE (a0.1,(a0.2.1,a0.2.2)))∧∀r2,(Eq r2 ((fIdE (a0.1,(a0.2.1,a0.2.2))),((),())))→(caseB (decide (a1>r2.1.1)) (caseB (decide (a1≤(1099511627776:Int))) ((pRaised r2.1.2.1 a1)∧∀r3,(Eq r3 ((fRaised r2.1.2.1 a1),((),())))→(Eq ((a1,(r3.1,r2.1.2.2)),((),())) ((fRaise a0 a1),((),())))) (Eq ((r2.1.1,(r2.1.2.1,r2.1.2.2)),((),())) ((fRaise a0 a1),((),())))) (Eq ((r2.1.1,(r2.1.2.1,r2.1.2.2)),((),())) ((fRaise a0 a1),((),())))))))
theorem impl_Raise.pure (a0:(Int×((List ((List UInt8)×(List (Int×Int))))×(List (List UInt8))))) (a1:Int) (h:(pRaise a0 a1)) (hw:Wf c_impl_Raise.A (a0,a1)):impl_Raise.F a0 a1:=by
 unfold impl_Raise.F
 simp only [forall_eq,true_and,and_true,caseB_iff,Prod.mk.injEq,decide_eq_true_eq,decide_eq_false_iff_not,Bool.not_eq_true',Bool.not_eq_false',bne_iff_ne,ne_eq,beq_iff_eq,Bool.not_true,Bool.not_false,beq_eq_false_iff_ne,bne_eq_false_iff_eq,List.length_append,List.length_cons,List.length_nil,List.append_nil,Nat.zero_add,decide_true,decide_false,eq_self_iff_true,Prod.eta,pIdE,fIdE]
 have hp:pEng a0:=h
 refine⟨hp,fun h1=>?_,fun h1=>?_⟩
 · unfold fRaise;rw [if_neg (by rw [h1];decide)]
 obtain⟨i1,i2⟩:=idE_of h1
 have e1:fRaise a0 a1=fRaise1 a0 a1:=by unfold fRaise;rw [if_pos h1]
 rw [e1]
 unfold fRaise1
 refine⟨⟨i1,i2⟩,fun h2=>⟨fun h3=>⟨i1,?_⟩,fun h3=>?_⟩,fun h2=>?_⟩
 · rw [if_pos (by omega)]
 · rw [if_neg (by omega)]
 · rw [if_neg (by omega)]
set_option maxRecDepth 100000 in
theorem impl_Raise.eq:EqS c_impl_Raise Tryz.f29 [31] [impl_EngineOk.e,impl_copyEngine.e,impl_raised.e] [] noL (fun i x=>impl_Raise.F x.1 x.2):=by intro i x;kernel_rfl
theorem impl_Raise.ok:ConOk Tryz.prog 29 c_impl_Raise:=okOf impl_Raise.eq Tryz.func29 rfl (by kernel_rfl) fun i x h hi hw=>impl_Raise.pure x.1 x.2 h hw
def impl_Raise.e:GE:=⟨29,c_impl_Raise,⟨_,Tryz.func29,rfl,rfl⟩,impl_Raise.ok⟩
def c_spec_Raise:Con:={A:=(.pair (.pair (.int .i64) (.pair (.list (.pair .str (.list (.pair (.int .i64) (.int .i64))))) (.list .str))) (.int .i64)),shA:=[.agg 3,.one],R:=(.pair (.int .i64) (.pair (.list (.pair .str (.list (.pair (.int .i64) (.int .i64))))) (.list .str))),shR:=[(true,3)],fresh:=[(1,72),(2,9)],pre:=fun _ a=>(pRaise a.1 a.2),f:=some fun _ a=>((fRaise a.1 a.2),((),()))}
def spec_Raise.F (a0:(Int×((List ((List UInt8)×(List (Int×Int))))×(List (List UInt8))))) (a1:Int):Prop:=((pEng (a0.1,(a0.2.1,a0.2.2)))∧∀r1,(Eq r1 ((fEngOk (a0.1,(a0.2.1,a0.2.2))),((),())))→(caseB (!r1.1) (Eq ((0,(([]:(List ((List UInt8)×(List (Int×Int))))),([]:(List (List UInt8))))),((),())) ((fRaise a0 a1),((),()))) ((pIdE (a0.1,(a0.2.1,a0.2.2)))∧∀r2,(Eq r2 ((fIdE (a0.1,(a0.2.1,a0.2.2))),((),())))→((pRaise1 (r2.1.1,(r2.1.2.1,r2.1.2.2)) a1)∧∀r3,(Eq r3 ((fRaise1 (r2.1.1,(r2.1.2.1,r2.1.2.2)) a1),((),())))→(Eq ((r3.1.1,(r3.1.2.1,r3.1.2.2)),((),())) ((fRaise a0 a1),((),())))))))
theorem spec_Raise.pure (a0:(Int×((List ((List UInt8)×(List (Int×Int))))×(List (List UInt8))))) (a1:Int) (h:(pRaise a0 a1)) (hw:Wf c_spec_Raise.A (a0,a1)):spec_Raise.F a0 a1:=by
 unfold spec_Raise.F
 simp only [forall_eq,true_and,and_true,caseB_iff,Prod.mk.injEq,decide_eq_true_eq,decide_eq_false_iff_not,Bool.not_eq_true',Bool.not_eq_false',bne_iff_ne,ne_eq,beq_iff_eq,Bool.not_true,Bool.not_false,beq_eq_false_iff_ne,bne_eq_false_iff_eq,List.length_append,List.length_cons,List.length_nil,List.append_nil,Nat.zero_add,decide_true,decide_false,eq_self_iff_true,Prod.eta,pIdE,fIdE,pRaise1]
 have hp:pEng a0:=h
 refine⟨hp,fun h1=>?_,fun h1=>?_⟩
 · unfold fRaise;rw [if_neg (by rw [h1];decide)]
 obtain⟨i1,i2⟩:=idE_of h1
 refine⟨⟨i1,i2⟩,i1,?_⟩
 unfold fRaise;rw [if_pos h1]
set_option maxRecDepth 100000 in
theorem spec_Raise.eq:EqS c_spec_Raise Tryz.f28 [31] [spec_EngineOk.e,spec_l10Raise.e,spec_l10Copy.e] [] noL (fun i x=>spec_Raise.F x.1 x.2):=by intro i x;kernel_rfl
theorem spec_Raise.ok:ConOk Tryz.prog 28 c_spec_Raise:=okOf spec_Raise.eq Tryz.func28 rfl (by kernel_rfl) fun i x h hi hw=>spec_Raise.pure x.1 x.2 h hw
def spec_Raise.e:GE:=⟨28,c_spec_Raise,⟨_,Tryz.func28,rfl,rfl⟩,spec_Raise.ok⟩
end Go.Proofs.YtnoapekdbmpiaaaGreat.B
