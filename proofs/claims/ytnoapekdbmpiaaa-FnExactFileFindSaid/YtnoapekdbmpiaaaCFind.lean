/- A series of a file,found. -/
import Derived.Test.YtnoapekdbmpiaaaCTake
import Derived.Test.YtnoapekdbmpiaaaCRFile
namespace Go.Proofs.Ytnoapekdbmpiaaa.B
set_option linter.unusedVariables false
set_option linter.unusedSimpArgs false
open Go Go.Proofs.Ytnoapekdbmpiaaa.Bv
def fFind (s k:List UInt8):List Pt×Bool:=match (fReadFile s).1.find? fun x=>decide (x.1=k) with
 | some x=>(x.2,true)
 | none=>([],false)
def pFind (s k:List UInt8):Prop:=s.length≤maxLen
def fdJ (l:List Ser) (k:List UInt8) (i:Int):Prop:=0≤i∧i≤l.length∧∀j,j<i.toNat→¬(l.getD j ([],[])).1=k
def fdI (s k:List UInt8) (i:Int) (l:List Ser):Prop:=l=(fReadFile s).1∧fdJ l k i
def fdM (s k:List UInt8) (i:Int) (l:List Ser):Nat:=(l.length - i).toNat
def feI (s k:List UInt8) (i:Int):Prop:=fdJ (fReadFile s).1 k i
def feM (s k:List UInt8) (i:Int):Nat:=((fReadFile s).1.length - i).toNat
theorem fd_step {l:List Ser} {k:List UInt8} {i:Int} (h:fdJ l k i) (hi:i<l.length) (hk:¬(l.getD i.toNat ([],[])).1=k):fdJ l k (i+1):=by
 obtain⟨h1,h2,h3⟩:=h
 refine⟨by omega,by omega,fun j hj=>?_⟩
 by_cases e:j=i.toNat
 · rw [e];exact hk
 · exact h3 j (by omega)
theorem fd_yes {s k:List UInt8} {i:Int} (h:fdJ (fReadFile s).1 k i) (hi:i<(fReadFile s).1.length) (hk:((fReadFile s).1.getD i.toNat ([],[])).1=k):(((fReadFile s).1.getD i.toNat ([],[])).2,true)=fFind s k:=by
 obtain⟨h1,h2,h3⟩:=h
 have hl:i.toNat<(fReadFile s).1.length:=by omega
 have e:(fReadFile s).1.find? (fun x=>decide (x.1=k))=some ((fReadFile s).1.getD i.toNat ([],[])):=by
  rw [List.find?_eq_some_iff_getElem]
  refine⟨decide_eq_true hk,i.toNat,hl,(getD_lt hl).symm,fun j hj=>?_⟩
  have:=h3 j hj
  rw [getD_lt (by omega)] at this
  simp [this]
 unfold fFind
 rw [e]
theorem fd_no {s k:List UInt8} {i:Int} (h:fdJ (fReadFile s).1 k i) (hi:¬i<(fReadFile s).1.length):(([],false):List Pt×Bool)=fFind s k:=by
 obtain⟨h1,h2,h3⟩:=h
 have e:(fReadFile s).1.find? (fun x=>decide (x.1=k))=none:=by
  rw [List.find?_eq_none]
  intro x hx
  obtain⟨j,hj,e⟩:=List.getElem_of_mem hx
  have:=h3 j (by omega)
  rw [getD_lt hj,e] at this
  simpa using this
 unfold fFind
 rw [e]
theorem find_len (s k:List UInt8):(fFind s k).1.length≤60:=by
 unfold fFind
 split
 · rename_i x hx
   have hm:=List.mem_of_find?_eq_some hx
   unfold fReadFile at hm
   split at hm
   · rename_i hr
     obtain⟨j,hj,e⟩:=List.getElem_of_mem hm
     have:=((fSer_at hr.1.1).2 j hj).2.2.2
     rw [getD_lt hj,e] at this
     exact fPtsOk_len this
   · cases hm
 · simp
theorem rf_len (s:List UInt8):(fReadFile s).1.length≤5:=by
 unfold fReadFile
 split
 · rename_i hr;exact (fSer_at hr.1.1).1
 · simp
def c_impl_FileFind:Con:={A:=(.pair .str .str),shA:=[.one,.one],R:=(.pair (.list (.pair (.int .i64) (.int .i64))) .bool),shR:=[(false,1),(false,1)],fresh:=[(0,38)],pre:=fun _ a=>(pFind a.1 a.2),f:=some fun _ a=>((fFind a.1 a.2),((),()))}
def impl_FileFind.F (a0:(List UInt8)) (a1:(List UInt8)):Prop:=((pStr a0)∧∀r1,(Eq r1 ((fReadFile a0),((),())))→(eS [(1,.val false [.str a1]),(15,.val false [.own (.pair .str (.list (.pair (.int .i64) (.int .i64)))) 1001923]),(16,.val false [.int .i64 (ln r1.1.1)])] [(1,.val false [.str a1]),(15,.val false [.own (.pair .str (.list (.pair (.int .i64) (.int .i64)))) 1001923]),(16,.val false [.int .i64 (ln r1.1.1)])]∧((fdI a0 a1 0 r1.1.1)∧∀(y2:(Int×(List ((List UInt8)×(List (Int×Int)))))),(fdI a0 a1 y2.1 y2.2)→(caseB (decide (y2.1<(ln r1.1.1))) (0≤y2.1∧(y2.1<(ln y2.2)∧(caseB (((List.getD y2.2 (tN y2.1) ([],[])).1)==a1) (Eq (((List.getD y2.2 (tN y2.1) ([],[])).2,true),((),())) ((fFind a0 a1),((),()))) (eS [(1,.val false [.str a1]),(15,.val false [.own (.pair .str (.list (.pair (.int .i64) (.int .i64)))) 1001923]),(16,.val false [.int .i64 (ln r1.1.1)])] [(1,.val false [.str a1]),(15,.val false [.own (.pair .str (.list (.pair (.int .i64) (.int .i64)))) 1001923]),(16,.val false [.int .i64 (ln r1.1.1)])]∧(fdI a0 a1 (wI (y2.1+(1:Int))) y2.2)∧(fdM a0 a1 (wI (y2.1+(1:Int))) y2.2)<(fdM a0 a1 y2.1 y2.2))))) (Eq ((([]:(List (Int×Int))),false),((),())) ((fFind a0 a1),((),())))))))
def impl_FileFind.L (a0:(List UInt8)) (a1:(List UInt8)):Nat→Option LoopAnn:=fun p=>Go.Proofs.Ytnoapekdbmpiaaa.Bv.look p [(58,{kp:={hold:=[1,15,16],slots:=[17],boxes:=[],rows:=[{bx:=false,s:=15,i:=0,k:=1001923,e:=73,hot:=true}]},T:=(.pair (.int .i64) (.list (.pair .str (.list (.pair (.int .i64) (.int .i64)))))),I:=fun st y=>fdI a0 a1 y.1 y.2,μ:=fun st y=>fdM a0 a1 y.1 y.2})]
theorem impl_FileFind.pure (a0:(List UInt8)) (a1:(List UInt8)) (h:(pFind a0 a1)) (hw:Wf c_impl_FileFind.A (a0,a1)):impl_FileFind.F a0 a1:=by
 delta impl_FileFind.F ln tN wI eS
 simp only [forall_eq,true_and,and_true,caseB_iff,Prod.mk.injEq,decide_eq_true_eq,decide_eq_false_iff_not,Bool.not_eq_true',Bool.not_eq_false',bne_iff_ne,ne_eq,beq_iff_eq,Bool.not_true,Bool.not_false,beq_eq_false_iff_ne,bne_eq_false_iff_eq,List.length_append,List.length_cons,List.length_nil,List.append_nil,Nat.zero_add,decide_true,decide_false,eq_self_iff_true,Prod.eta]
 have hp:pStr a0:=h
 have hl:=rf_len a0
 refine⟨hp,⟨rfl,by omega,by omega,fun j hj=>absurd hj (by simp)⟩,?_⟩
 rintro⟨i,l⟩ ⟨el,hI⟩
 simp only at el hI ⊢
 subst el
 have q1:=hI.1
 have q2:=hI.2.1
 refine⟨fun hi=>⟨q1,hi,fun hk=>fd_yes hI hi hk,fun hk=>?_⟩,fun hi=>fd_no hI hi⟩
 rw [w64 (x:=i+1) (by omega) (by omega)]
 exact⟨⟨rfl,fd_step hI hi hk⟩,by unfold fdM;omega⟩
set_option maxRecDepth 100000 in
theorem impl_FileFind.eq:EqT c_impl_FileFind Try.f11 [22,4] [impl_ReadFile.e] [] (fun i x=>impl_FileFind.L x.1 x.2) (fun i x=>impl_FileFind.F x.1 x.2):=by intro i x;kernel_rfl
theorem impl_FileFind.ok:ConOk Try.prog 11 c_impl_FileFind:=okT impl_FileFind.eq Try.func11 rfl (by kernel_rfl) fun i x h hi hw=>impl_FileFind.pure x.1 x.2 h hw
def impl_FileFind.e:GE:=⟨11,c_impl_FileFind,⟨_,Try.func11,rfl,rfl⟩,impl_FileFind.ok⟩
def c_spec_FileFind:Con:={A:=(.pair .str .str),shA:=[.one,.one],R:=(.pair (.list (.pair (.int .i64) (.int .i64))) .bool),shR:=[(false,1),(false,1)],pre:=fun _ a=>(pFind a.1 a.2),f:=some fun _ a=>((fFind a.1 a.2),((),()))}
def spec_FileFind.F (a0:(List UInt8)) (a1:(List UInt8)):Prop:=((pStr a0)∧∀r1,(Eq r1 ((fReadFile a0),((),())))→(eS [(1,.val false [.str a1]),(6,.val false [.lst (.pair .str (.list (.pair (.int .i64) (.int .i64)))) r1.1.1 none])] [(1,.val false [.str a1]),(6,.val false [.lst (.pair .str (.list (.pair (.int .i64) (.int .i64)))) r1.1.1 none])]∧((feI a0 a1 0)∧∀(y2:Int),(feI a0 a1 y2)→(caseB (decide (y2<(ln r1.1.1))) (0≤y2∧(y2<(ln r1.1.1)∧(caseB (((List.getD r1.1.1 (tN y2) ([],[])).1)==a1) (0≤y2∧(y2<(ln r1.1.1)∧(Eq (((List.getD r1.1.1 (tN y2) ([],[])).2,true),((),())) ((fFind a0 a1),((),()))))) (eS [(1,.val false [.str a1]),(6,.val false [.lst (.pair .str (.list (.pair (.int .i64) (.int .i64)))) r1.1.1 none])] [(1,.val false [.str a1]),(6,.val false [.lst (.pair .str (.list (.pair (.int .i64) (.int .i64)))) r1.1.1 none])]∧(feI a0 a1 (wI (y2+(1:Int))))∧(feM a0 a1 (wI (y2+(1:Int))))<(feM a0 a1 y2))))) (Eq ((([]:(List (Int×Int))),false),((),())) ((fFind a0 a1),((),())))))))
def spec_FileFind.L (a0:(List UInt8)) (a1:(List UInt8)):Nat→Option LoopAnn:=fun p=>Go.Proofs.Ytnoapekdbmpiaaa.Bv.look p [(58,{kp:={hold:=[1,6],slots:=[8],boxes:=[],rows:=[]},T:=(.int .i64),I:=fun st y=>feI a0 a1 y,μ:=fun st y=>feM a0 a1 y})]
theorem spec_FileFind.pure (a0:(List UInt8)) (a1:(List UInt8)) (h:(pFind a0 a1)) (hw:Wf c_spec_FileFind.A (a0,a1)):spec_FileFind.F a0 a1:=by
 delta spec_FileFind.F ln tN wI eS
 simp only [forall_eq,true_and,and_true,caseB_iff,Prod.mk.injEq,decide_eq_true_eq,decide_eq_false_iff_not,Bool.not_eq_true',Bool.not_eq_false',bne_iff_ne,ne_eq,beq_iff_eq,Bool.not_true,Bool.not_false,beq_eq_false_iff_ne,bne_eq_false_iff_eq,List.length_append,List.length_cons,List.length_nil,List.append_nil,Nat.zero_add,decide_true,decide_false,eq_self_iff_true,Prod.eta]
 have hp:pStr a0:=h
 have hl:=rf_len a0
 refine⟨hp,⟨by omega,by omega,fun j hj=>absurd hj (by simp)⟩,?_⟩
 intro i hI
 have q1:=hI.1
 have q2:=hI.2.1
 refine⟨fun hi=>⟨q1,hi,fun hk=>⟨q1,hi,fd_yes hI hi hk⟩,fun hk=>?_⟩,fun hi=>fd_no hI hi⟩
 rw [w64 (x:=i+1) (by omega) (by omega)]
 exact⟨fd_step hI hi hk,by unfold feM;omega⟩
set_option maxRecDepth 100000 in
theorem spec_FileFind.eq:EqS c_spec_FileFind Try.f10 [22,4] [spec_ReadFile.e] [] (fun i x=>spec_FileFind.L x.1 x.2) (fun i x=>spec_FileFind.F x.1 x.2):=by intro i x;kernel_rfl
theorem spec_FileFind.ok:ConOk Try.prog 10 c_spec_FileFind:=okOf spec_FileFind.eq Try.func10 rfl (by kernel_rfl) fun i x h hi hw=>spec_FileFind.pure x.1 x.2 h hw
def spec_FileFind.e:GE:=⟨10,c_spec_FileFind,⟨_,Try.func10,rfl,rfl⟩,spec_FileFind.ok⟩
end Go.Proofs.Ytnoapekdbmpiaaa.B
