/- Engines:right or not,in the program. -/
import Derived.Test.YtnoapekdbmpiaaaGreatCEng
set_option linter.unusedVariables false
set_option linter.unusedSimpArgs false
namespace Go.Proofs.YtnoapekdbmpiaaaGreat.B
open Go Go.Proofs.YtnoapekdbmpiaaaGreat.Bv
def fCnt (l:List Ser):Int:=cL (fun x:Ser=>(x.2.length:Int)) l
theorem cnt_tot (l:List Ser):0≤fCnt l∧fCnt l+l.length=tot l:=by
 unfold fCnt tot
 induction l with
 | nil=>simp [cL]
 | cons x l ih=>have e:cS x=(x.2.length:Int)+1:=rfl;rw [cL_cons,cL_cons,List.length_cons];omega
def pCnt (l:List Ser):Prop:=tot l≤100000000
def cnI (l:List Ser) (n i:Int):Prop:=0≤i∧i≤l.length∧n=fCnt (l.take i.toNat)
def cnM (l:List Ser) (n i:Int):Nat:=(l.length - i).toNat
theorem cn_step {l:List Ser} {n i:Int} (h:cnI l n i) (hi:i<l.length):cnI l (n+((l.getD i.toNat ([],[])).2.length:Int)) (i+1):=by
 obtain⟨h1,h2,h3⟩:=h
 refine⟨by omega,by omega,?_⟩
 unfold fCnt at h3 ⊢
 rw [tn1 h1,(cL_split (fun x:Ser=>(x.2.length:Int)) ([],[]) (by omega:i.toNat<l.length)).1,h3]
theorem cn_le {l:List Ser} {n i:Int} (h:cnI l n i) (hi:i<l.length):0≤n∧n+((l.getD i.toNat ([],[])).2.length:Int)≤fCnt l:=by
 obtain⟨h1,h2,h3⟩:=h
 have a:=(cL_split (fun x:Ser=>(x.2.length:Int)) ([],[]) (by omega:i.toNat<l.length)).2
 have b:=(cnt_tot (l.take i.toNat)).1
 have c:=(cnt_tot (l.drop (i.toNat+1))).1
 unfold fCnt at*
 omega
theorem cn_end {l:List Ser} {n i:Int} (h:cnI l n i) (hi:¬i<l.length):n=fCnt l:=by
 obtain⟨h1,h2,h3⟩:=h
 rw [h3,show i.toNat=l.length by omega,List.take_length]
def dLow (c:Eng) (x:Ser):Bool:=decide ((x.2.getD 0 (0,0)).1<c.1)
def fLow (x:Ser) (c:Eng):Bool:=dLow c x
def pLow (x:Ser) (c:Eng):Prop:=x.2≠[]
def pLowL (l:List Ser) (c:Eng):Prop:=l.length≤1099511627776∧∀x∈l,x.2≠[]
def fIdxL (l:List Ser) (c:Eng):Int:=if l.findIdx (dLow c)<l.length then ((l.findIdx (dLow c):Nat):Int) else -1
def ilI (l:List Ser) (c:Eng) (i:Int):Prop:=0≤i∧i≤l.length∧∀j,j<i.toNat→dLow c (l.getD j ([],[]))=false
def ilM (l:List Ser) (c:Eng) (i:Int):Nat:=(l.length - i).toNat
theorem il_yes {l:List Ser} {c:Eng} {i:Int} (h:ilI l c i) (hi:i<l.length) (hd:dLow c (l.getD i.toNat ([],[]))=true):i=fIdxL l c:=by
 obtain⟨h1,h2,h3⟩:=h
 have e:l.findIdx (dLow c)=i.toNat:=by
  refine (List.findIdx_eq (by omega)).2 ⟨by rw [getD_lt (by omega)] at hd;exact hd,fun j hj=>?_⟩
  have:=h3 j hj
  rw [getD_lt (by omega)] at this;exact this
 unfold fIdxL
 rw [e,if_pos (by omega)];omega
theorem il_no {l:List Ser} {c:Eng} {i:Int} (h:ilI l c i) (hi:¬i<l.length):-1=fIdxL l c:=by
 obtain⟨h1,h2,h3⟩:=h
 have e:¬l.findIdx (dLow c)<l.length:=fun hlt=>by
  have a:=List.findIdx_getElem (w:=hlt)
  have b:=h3 (l.findIdx (dLow c)) (by omega)
  rw [getD_lt hlt,a] at b;cases b
 unfold fIdxL
 rw [if_neg e]
def fCont (l:List Ser) (c:Eng):Bool:=l.any (dLow c)
theorem cont_eq (l:List Ser) (c:Eng):decide (fIdxL l c≥0)=fCont l c:=by
 unfold fIdxL fCont
 rw [Bool.eq_iff_iff,decide_eq_true_eq,List.any_eq_true]
 constructor
 · intro h
   split at h
   · rename_i hlt;exact⟨_,List.getElem_mem hlt,List.findIdx_getElem (w:=hlt)⟩
   · omega
 · rintro⟨x,hx,hd⟩
   rw [if_pos (List.findIdx_lt_length_of_exists ⟨x,hx,hd⟩)];omega
def c_impl_cached:Con:={A:=T15q,shA:=[.one],R:=(.int .i64),shR:=[(false,1)],pre:=fun _ a=>(pCnt a),f:=some fun _ a=>((fCnt a),((),()))}
def impl_cached.F (a0:U2q):Prop:=(eS [(6,.val false [.lst T3q a0 none]),(7,.val false [.int .i64 (ln a0)])] [(6,.val false [.lst T3q a0 none]),(7,.val false [.int .i64 (ln a0)])]∧((cnI a0 0 0)∧∀(y1:(Int×Int)),(cnI a0 y1.1 y1.2)→(caseB (decide (y1.2<(ln a0))) (0≤y1.2∧(y1.2<(ln a0)∧(eS [(6,.val false [.lst T3q a0 none]),(7,.val false [.int .i64 (ln a0)])] [(6,.val false [.lst T3q a0 none]),(7,.val false [.int .i64 (ln a0)])]∧(cnI a0 (wI (y1.1+(ln ((List.getD a0 (tN y1.2) ([],[])).2)))) (wI (y1.2+(1:Int))))∧(cnM a0 (wI (y1.1+(ln ((List.getD a0 (tN y1.2) ([],[])).2)))) (wI (y1.2+(1:Int))))<(cnM a0 y1.1 y1.2)))) (Eq (y1.1,((),())) ((fCnt a0),((),()))))))
def impl_cached.L (a0:U2q):Nat→Option LoopAnn:=fun p=>Go.Proofs.YtnoapekdbmpiaaaGreat.Bv.look p [(58,{kp:={hold:=[6,7],slots:=[3,8],boxes:=[],rows:=[]},T:=T0q,I:=fun st y=>cnI a0 y.1 y.2,μ:=fun st y=>cnM a0 y.1 y.2})]
theorem impl_cached.pure (a0:U2q) (h:(pCnt a0)) (hw:Wf c_impl_cached.A a0):impl_cached.F a0:=by
 delta impl_cached.F ln tN wI eS
 simp only [forall_eq,true_and,and_true,caseB_iff,Prod.mk.injEq,decide_eq_true_eq,decide_eq_false_iff_not,Bool.not_eq_true',Bool.not_eq_false',bne_iff_ne,ne_eq,beq_iff_eq,Bool.not_true,Bool.not_false,beq_eq_false_iff_ne,bne_eq_false_iff_eq,List.length_append,List.length_cons,List.length_nil,List.append_nil,Nat.zero_add,decide_true,decide_false,eq_self_iff_true]
 have hn:tot a0≤100000000:=h
 have k0:=cnt_tot a0
 have k1:=len_tot a0
 refine⟨⟨by omega,by omega,by simp [fCnt,cL]⟩,?_⟩
 rintro⟨n,i⟩ hI
 simp only at hI ⊢
 have q1:=hI.1
 have q2:=hI.2.1
 refine⟨fun hi=>?_,fun hi=>cn_end hI hi⟩
 have k2:=cn_le hI hi
 have st:=cn_step hI hi
 rw [w64 (x:=i+1) (by omega) (by omega),w64 (by omega) (by omega)]
 exact⟨q1,hi,st,by unfold cnM;omega⟩
set_option maxRecDepth 100000 in
theorem impl_cached.eq:EqS c_impl_cached Tryz.f88 [3] [] [] (fun i x=>impl_cached.L x) (fun i x=>impl_cached.F x):=by intro i x;kernel_rfl
theorem impl_cached.ok:ConOk Tryz.prog 88 c_impl_cached:=okOf impl_cached.eq Tryz.func88 rfl (by kernel_rfl) fun i x h hi hw=>impl_cached.pure x h hw
def impl_cached.e:GE:=⟨88,c_impl_cached,⟨_,Tryz.func88,rfl,rfl⟩,impl_cached.ok⟩
def c_impl_engineRead_1:Con:={A:=(.pair T3q T10q),shA:=[.agg 2,.ptr 3],R:=.bool,shR:=[(false,1)],pre:=fun _ a=>(pLow a.1 a.2),f:=some fun _ a=>((fLow a.1 a.2),((),()))}
def impl_engineRead_1.F (a0:(U5q×U7q)) (a1:U11q):Prop:=(0≤(0:Int)∧((0:Int)<(ln a0.2)∧(Eq ((decide (((List.getD a0.2 (tN (0:Int)) (0,0)).1)<a1.1)),((),())) ((fLow a0 a1),((),())))))
theorem impl_engineRead_1.pure (a0:(U5q×U7q)) (a1:U11q) (h:(pLow a0 a1)) (hw:Wf c_impl_engineRead_1.A (a0,a1)):impl_engineRead_1.F a0 a1:=by
 delta impl_engineRead_1.F ln tN
 simp only [forall_eq,true_and,and_true,caseB_iff,Prod.mk.injEq,decide_eq_true_eq,decide_eq_false_iff_not,Bool.not_eq_true',Bool.not_eq_false',bne_iff_ne,ne_eq,beq_iff_eq,Bool.not_true,Bool.not_false,beq_eq_false_iff_ne,bne_eq_false_iff_eq,List.length_append,List.length_cons,List.length_nil,List.append_nil,Nat.zero_add,decide_true,decide_false,eq_self_iff_true,pLow,Prod.eta]
 have hp:a0.2≠[]:=h
 have:0<a0.2.length:=List.length_pos_iff.2 hp
 exact⟨by omega,by omega,rfl⟩
set_option maxRecDepth 100000 in
theorem impl_engineRead_1.eq:EqS c_impl_engineRead_1 Tryz.f131 [4] [] [] noL (fun i x=>impl_engineRead_1.F x.1 x.2):=by intro i x;kernel_rfl
theorem impl_engineRead_1.ok:ConOk Tryz.prog 131 c_impl_engineRead_1:=okOf impl_engineRead_1.eq Tryz.func131 rfl (by kernel_rfl) fun i x h hi hw=>impl_engineRead_1.pure x.1 x.2 h hw
def impl_engineRead_1.e:GE:=⟨131,c_impl_engineRead_1,⟨_,Tryz.func131,rfl,rfl⟩,impl_engineRead_1.ok⟩
def c_slices_IndexFunc_impl_Series_impl_Series:Con:={A:=(.pair T15q T10q),shA:=[.one,.clo 131 [3]],R:=(.int .i64),shR:=[(false,1)],pre:=fun _ a=>(pLowL a.1 a.2),f:=some fun _ a=>((fIdxL a.1 a.2),((),()))}
def slices_IndexFunc_impl_Series_impl_Series.F (a0:U2q) (a1:U11q):Prop:=(eS [(0,.val false [.lst T3q a0 none]),(1,.fn 131 [] [.ptr [.int .i64 a1.1,.lst T3q a1.2.1 none,.lst .str a1.2.2 none]]),(7,.val false [.int .i64 (ln a0)])] [(0,.val false [.lst T3q a0 none]),(1,.fn 131 [] [.ptr [.int .i64 a1.1,.lst T3q a1.2.1 none,.lst .str a1.2.2 none]]),(7,.val false [.int .i64 (ln a0)])]∧((ilI a0 a1 0)∧∀(y1:Int),(ilI a0 a1 y1)→(caseB (decide (y1<(ln a0))) (0≤y1∧(y1<(ln a0)∧((pLow ((List.getD a0 (tN y1) ([],[])).1,(List.getD a0 (tN y1) ([],[])).2) (a1.1,(a1.2.1,a1.2.2)))∧∀r2,(Eq r2 ((fLow ((List.getD a0 (tN y1) ([],[])).1,(List.getD a0 (tN y1) ([],[])).2) (a1.1,(a1.2.1,a1.2.2))),((),())))→(caseB r2.1 (Eq (y1,((),())) ((fIdxL a0 a1),((),()))) (eS [(0,.val false [.lst T3q a0 none]),(1,.fn 131 [] [.ptr [.int .i64 a1.1,.lst T3q a1.2.1 none,.lst .str a1.2.2 none]]),(7,.val false [.int .i64 (ln a0)])] [(0,.val false [.lst T3q a0 none]),(1,.fn 131 [] [.ptr [.int .i64 a1.1,.lst T3q a1.2.1 none,.lst .str a1.2.2 none]]),(7,.val false [.int .i64 (ln a0)])]∧(ilI a0 a1 (wI (y1+(1:Int))))∧(ilM a0 a1 (wI (y1+(1:Int))))<(ilM a0 a1 y1)))))) (Eq ((-1),((),())) ((fIdxL a0 a1),((),()))))))
def slices_IndexFunc_impl_Series_impl_Series.L (a0:U2q) (a1:U11q):Nat→Option LoopAnn:=fun p=>Go.Proofs.YtnoapekdbmpiaaaGreat.Bv.look p [(26,{kp:={hold:=[0,1,7],slots:=[8],boxes:=[],rows:=[]},T:=(.int .i64),I:=fun st y=>ilI a0 a1 y,μ:=fun st y=>ilM a0 a1 y})]
theorem slices_IndexFunc_impl_Series_impl_Series.pure (a0:U2q) (a1:U11q) (h:(pLowL a0 a1)) (hw:Wf c_slices_IndexFunc_impl_Series_impl_Series.A (a0,a1)):slices_IndexFunc_impl_Series_impl_Series.F a0 a1:=by
 delta slices_IndexFunc_impl_Series_impl_Series.F ln tN wI eS
 simp only [forall_eq,true_and,and_true,caseB_iff,Prod.mk.injEq,decide_eq_true_eq,decide_eq_false_iff_not,Bool.not_eq_true',Bool.not_eq_false',bne_iff_ne,ne_eq,beq_iff_eq,Bool.not_true,Bool.not_false,beq_eq_false_iff_ne,bne_eq_false_iff_eq,List.length_append,List.length_cons,List.length_nil,List.append_nil,Nat.zero_add,decide_true,decide_false,eq_self_iff_true,Prod.eta,fLow,pLow]
 obtain⟨hl,hne⟩:=h
 refine⟨⟨by omega,by omega,fun j hj=>absurd hj (by simp)⟩,?_⟩
 rintro i hI
 have q1:=hI.1
 have q2:=hI.2.1
 rw [w64 (x:=i+1) (by omega) (by omega)]
 refine⟨fun hi=>⟨q1,hi,hne _ (getD_mem (by omega)),fun hd=>il_yes hI hi hd,fun hd=>⟨⟨by omega,by omega,fun j hj=>?_⟩,by unfold ilM;omega⟩⟩,fun hi=>il_no hI hi⟩
 by_cases e:j=i.toNat
 · rw [e];exact hd
 · exact hI.2.2 j (by omega)
set_option maxRecDepth 100000 in
theorem slices_IndexFunc_impl_Series_impl_Series.eq:EqS c_slices_IndexFunc_impl_Series_impl_Series Tryz.f171 [3] [impl_engineRead_1.e] [] (fun i x=>slices_IndexFunc_impl_Series_impl_Series.L x.1 x.2) (fun i x=>slices_IndexFunc_impl_Series_impl_Series.F x.1 x.2):=by intro i x;kernel_rfl
theorem slices_IndexFunc_impl_Series_impl_Series.ok:ConOk Tryz.prog 171 c_slices_IndexFunc_impl_Series_impl_Series:=okOf slices_IndexFunc_impl_Series_impl_Series.eq Tryz.func171 rfl (by kernel_rfl) fun i x h hi hw=>slices_IndexFunc_impl_Series_impl_Series.pure x.1 x.2 h hw
def slices_IndexFunc_impl_Series_impl_Series.e:GE:=⟨171,c_slices_IndexFunc_impl_Series_impl_Series,⟨_,Tryz.func171,rfl,rfl⟩,slices_IndexFunc_impl_Series_impl_Series.ok⟩
def c_slices_ContainsFunc_impl_Series_impl_Series:Con:={A:=(.pair T15q T10q),shA:=[.one,.clo 131 [3]],R:=.bool,shR:=[(false,1)],pre:=fun _ a=>(pLowL a.1 a.2),f:=some fun _ a=>((fCont a.1 a.2),((),()))}
def slices_ContainsFunc_impl_Series_impl_Series.F (a0:U2q) (a1:U11q):Prop:=((pLowL a0 (a1.1,(a1.2.1,a1.2.2)))∧∀r1,(Eq r1 ((fIdxL a0 (a1.1,(a1.2.1,a1.2.2))),((),())))→(Eq ((decide (r1.1≥(0:Int))),((),())) ((fCont a0 a1),((),()))))
theorem slices_ContainsFunc_impl_Series_impl_Series.pure (a0:U2q) (a1:U11q) (h:(pLowL a0 a1)) (hw:Wf c_slices_ContainsFunc_impl_Series_impl_Series.A (a0,a1)):slices_ContainsFunc_impl_Series_impl_Series.F a0 a1:=by
 unfold slices_ContainsFunc_impl_Series_impl_Series.F
 simp only [forall_eq,true_and,and_true,caseB_iff,Prod.mk.injEq,decide_eq_true_eq,decide_eq_false_iff_not,Bool.not_eq_true',Bool.not_eq_false',bne_iff_ne,ne_eq,beq_iff_eq,Bool.not_true,Bool.not_false,beq_eq_false_iff_ne,bne_eq_false_iff_eq,List.length_append,List.length_cons,List.length_nil,List.append_nil,Nat.zero_add,decide_true,decide_false,eq_self_iff_true,Prod.eta]
 exact⟨h,cont_eq _ _⟩
set_option maxRecDepth 100000 in
theorem slices_ContainsFunc_impl_Series_impl_Series.eq:EqS c_slices_ContainsFunc_impl_Series_impl_Series Tryz.f130 [4] [impl_engineRead_1.e,slices_IndexFunc_impl_Series_impl_Series.e] [] noL (fun i x=>slices_ContainsFunc_impl_Series_impl_Series.F x.1 x.2):=by intro i x;kernel_rfl
theorem slices_ContainsFunc_impl_Series_impl_Series.ok:ConOk Tryz.prog 130 c_slices_ContainsFunc_impl_Series_impl_Series:=okOf slices_ContainsFunc_impl_Series_impl_Series.eq Tryz.func130 rfl (by kernel_rfl) fun i x h hi hw=>slices_ContainsFunc_impl_Series_impl_Series.pure x.1 x.2 h hw
def slices_ContainsFunc_impl_Series_impl_Series.e:GE:=⟨130,c_slices_ContainsFunc_impl_Series_impl_Series,⟨_,Tryz.func130,rfl,rfl⟩,slices_ContainsFunc_impl_Series_impl_Series.ok⟩
def fLay (fs:List U5q):List (List Ser):=fs.map fun f=>(fReadFile f).1
def okF (fs:List U5q):Bool:=fs.all fun f=>(fReadFile f).2
theorem readF_ok (f:List UInt8) (h:(fReadFile f).2=true):fSerOk (fReadFile f).1=true:=by
 unfold fReadFile at h ⊢
 split at h
 · rename_i hr;rw [if_pos hr];exact hr.1.1
 · cases h
theorem readF_R (f:List UInt8):SerR (fReadFile f).1∧tot (fReadFile f).1≤305∧∀x∈(fReadFile f).1,x.1.length≤8:=by
 by_cases h:(fReadFile f).2=true
 · obtain⟨h1,h2,h3,h4⟩:=fSerOk_R (readF_ok f h)
   exact⟨h1,h2,fun x hx=>(h4 x hx).1⟩
 · have:(fReadFile f).1=[]:=by
    unfold fReadFile at h ⊢
    split
    · rename_i hr;rw [if_pos hr] at h;exact absurd rfl h
    · rfl
   rw [this]
   exact⟨nil_R,by simp [tot,cL],fun x hx=>by cases hx⟩
def fPlainE (e:Eng):List Ser×Bool:=if okF e.2.2=true then (fRaised (fLaid (fLayers (fLay e.2.2)) e.2.1) e.1,true) else ([],false)
def pPlainE (e:Eng):Prop:=(∀f∈e.2.2,pStr f)∧SerR e.2.1∧tot e.2.1≤100000∧e.2.2.length≤1000
structure plI (e:Eng) (i:Int) (fl:Int) (ca:List Ser) (fi:List U5q) (out:List Ser):Prop where
 h0:((fl,(ca,fi)):Eng)=e
 h1:0≤i
 h2:i≤e.2.2.length
 h3:out=fLayers (fLay (e.2.2.take i.toNat))
 h4:SerR out
 h5:tot out≤305*i
 h6:okF (e.2.2.take i.toNat)=true
def plM (e:Eng) (i:Int) (fl:Int) (ca:List Ser) (fi:List U5q) (out:List Ser):Nat:=(e.2.2.length - i).toNat
theorem pl_step {e:Eng} {i fl:Int} {ca:List Ser} {fi:List U5q} {out:List Ser} (h:plI e i fl ca fi out) (hi:i<e.2.2.length) (hr:(fReadFile (e.2.2.getD i.toNat [])).2=true):plI e (i+1) fl ca fi (fLaid out (fReadFile (e.2.2.getD i.toNat [])).1):=by
 obtain⟨h0,h1,h2,h3,h4,h5,h6⟩:=h
 obtain⟨r1,r2,_⟩:=readF_R (e.2.2.getD i.toNat [])
 have ht:=fLaid_tot h4 r1.2
 refine⟨h0,by omega,by omega,?_,fLaid_R h4 r1.2,by omega,?_⟩
 · rw [tn1 h1,take_getD [] (by omega),h3]
   simp only [fLay,fLayers,List.map_append,List.foldl_append,List.map_cons,List.map_nil,List.foldl_cons,List.foldl_nil]
 · rw [tn1 h1,take_getD [] (by omega)]
   simp only [okF,List.all_append,List.all_cons,List.all_nil,Bool.and_true,Bool.and_eq_true] at h6 ⊢
   exact⟨h6,hr⟩
theorem pl_no {e:Eng} {i:Nat} (hi:i<e.2.2.length) (hr:(fReadFile (e.2.2.getD i [])).2=false):([],false)=fPlainE e:=by
 unfold fPlainE
 rw [if_neg]
 intro h
 have:=List.all_eq_true.1 h _ (getD_mem (d:=[]) hi)
 rw [hr] at this;cases this
theorem pl_end {e:Eng} {i fl:Int} {ca:List Ser} {fi:List U5q} {out:List Ser} (h:plI e i fl ca fi out) (hi:¬i<e.2.2.length):(fRaised (fLaid out e.2.1) e.1,true)=fPlainE e:=by
 obtain⟨h0,h1,h2,h3,h4,h5,h6⟩:=h
 have e1:i.toNat=e.2.2.length:=by omega
 rw [e1,List.take_length] at h3 h6
 unfold fPlainE
 rw [if_pos h6,h3]
def c_impl_plain:Con:={A:=T10q,shA:=[.agg 3],R:=(.pair T15q .bool),shR:=[(false,1),(false,1)],fresh:=[(0,72)],pre:=fun _ a=>(pPlainE a),f:=some fun _ a=>((fPlainE a),((),()))}
def impl_plain.F (a0:U11q):Prop:=(eS [(1,.box 2 0),(11,.val false [.lst .str a0.2.2 none]),(12,.val false [.int .i64 (ln a0.2.2)])] [(1,.box 2 0),(11,.val false [.lst .str a0.2.2 none]),(12,.val false [.int .i64 (ln a0.2.2)])]∧((plI a0 0 a0.1 a0.2.1 a0.2.2 ([]:List (U5q×U7q)))∧∀(y1:(Int×(Int×(U2q×((List U5q)×U2q))))),(plI a0 y1.1 y1.2.1 y1.2.2.1 y1.2.2.2.1 y1.2.2.2.2)→(caseB (decide (y1.1<(ln a0.2.2))) (0≤y1.1∧(y1.1<(ln a0.2.2)∧((pStr (List.getD a0.2.2 (tN y1.1) []))∧∀r2,(Eq r2 ((fReadFile (List.getD a0.2.2 (tN y1.1) [])),((),())))→(caseB (!r2.1.2) (Eq ((([]:U2q),false),((),())) ((fPlainE a0),((),()))) ((pLaid y1.2.2.2.2 r2.1.1)∧∀r3,(Eq r3 ((fLaid y1.2.2.2.2 r2.1.1),((),())))→(eS [(1,.box 2 0),(11,.val false [.lst .str a0.2.2 none]),(12,.val false [.int .i64 (ln a0.2.2)])] [(1,.box 2 0),(11,.val false [.lst .str a0.2.2 none]),(12,.val false [.int .i64 (ln a0.2.2)])]∧(plI a0 (wI (y1.1+(1:Int))) y1.2.1 y1.2.2.1 y1.2.2.2.1 r3.1)∧(plM a0 (wI (y1.1+(1:Int))) y1.2.1 y1.2.2.1 y1.2.2.2.1 r3.1)<(plM a0 y1.1 y1.2.1 y1.2.2.1 y1.2.2.2.1 y1.2.2.2.2))))))) ((pLaid y1.2.2.2.2 y1.2.2.1)∧∀r4,(Eq r4 ((fLaid y1.2.2.2.2 y1.2.2.1),((),())))→((pRaised r4.1 y1.2.1)∧∀r5,(Eq r5 ((fRaised r4.1 y1.2.1),((),())))→(Eq ((r5.1,true),((),())) ((fPlainE a0),((),()))))))))
def impl_plain.L (a0:U11q):Nat→Option LoopAnn:=fun p=>Go.Proofs.YtnoapekdbmpiaaaGreat.Bv.look p [(58,{kp:={hold:=[1,11,12],slots:=[4,13],boxes:=[2],rows:=[{bx:=false,s:=4,i:=0,k:=1000515,e:=72,hot:=true}]},T:=(.pair (.int .i64) (.pair (.int .i64) (.pair T15q (.pair (.list .str) T15q)))),I:=fun st y=>plI a0 y.1 y.2.1 y.2.2.1 y.2.2.2.1 y.2.2.2.2,μ:=fun st y=>plM a0 y.1 y.2.1 y.2.2.1 y.2.2.2.1 y.2.2.2.2})]
theorem impl_plain.pure (a0:U11q) (h:(pPlainE a0)) (hw:Wf c_impl_plain.A a0):impl_plain.F a0:=by
 delta impl_plain.F ln tN wI eS
 simp only [forall_eq,true_and,and_true,caseB_iff,Prod.mk.injEq,decide_eq_true_eq,decide_eq_false_iff_not,Bool.not_eq_true',Bool.not_eq_false',bne_iff_ne,ne_eq,beq_iff_eq,Bool.not_true,Bool.not_false,beq_eq_false_iff_ne,bne_eq_false_iff_eq,List.length_append,List.length_cons,List.length_nil,List.append_nil,Nat.zero_add,decide_true,decide_false,eq_self_iff_true,Prod.eta,pRaised]
 obtain⟨hf,hc,hn,hl⟩:=h
 refine⟨⟨rfl,by omega,by omega,by simp [fLayers,fLay],nil_R,by simp [tot,cL],by simp [okF]⟩,?_⟩
 rintro⟨i,fl,ca,fi,out⟩ hI
 simp only at hI ⊢
 have q1:=hI.h1
 have q2:=hI.h2
 have q5:=hI.h5
 refine⟨fun hi=>?_,fun hi=>?_⟩
 · have hm:=getD_mem (d:=([]:List UInt8)) (by omega:i.toNat<a0.2.2.length)
   obtain⟨r1,r2,_⟩:=readF_R (a0.2.2.getD i.toNat [])
   rw [w64 (x:=i+1) (by omega) (by omega)]
   exact⟨q1,hi,hf _ hm,fun hr=>pl_no (by omega) hr,fun hr=>⟨⟨hI.h4,r1.2,by omega⟩,pl_step hI hi hr,by unfold plM;omega⟩⟩
 · have he:=pl_end hI hi
   have ht:=fLaid_tot hI.h4 hc.2
   obtain rfl:=hI.h0
   simp only at hn he ht hc hl hi q2 ⊢
   exact⟨⟨hI.h4,hc.2,by omega⟩,by omega,he⟩
set_option maxRecDepth 100000 in
theorem impl_plain.eq:EqS c_impl_plain Tryz.f80 [29,4] [impl_raised.e,impl_laid.e,impl_ReadFile.e] [] (fun i x=>impl_plain.L x) (fun i x=>impl_plain.F x):=by intro i x;kernel_rfl
theorem impl_plain.ok:ConOk Tryz.prog 80 c_impl_plain:=okOf impl_plain.eq Tryz.func80 rfl (by kernel_rfl) fun i x h hi hw=>impl_plain.pure x h hw
def impl_plain.e:GE:=⟨80,c_impl_plain,⟨_,Tryz.func80,rfl,rfl⟩,impl_plain.ok⟩
def fHead (e:Eng):Bool:=fTime e.1&&(fSerOk e.2.1&&(decide (fCnt e.2.1≤40)&&(decide (e.2.2.length≤4)&&!fCont e.2.1 e)))
def fEngRead (e:Eng):List Ser×Bool:=if fHead e=true then (if (fPlainE e).2=true then ((fPlainE e).1,fSerOk (fPlainE e).1) else ((fPlainE e).1,false)) else ([],false)
def fEngOk (e:Eng):Bool:=(fEngRead e).2
def pEng (e:Eng):Prop:=pSerOk e.2.1∧∀f∈e.2.2,pStr f
theorem lay1_key {l:List Ser} {s:Ser} {n:Nat} (h:∀x∈l,x.1.length≤n) (hs:s.1.length≤n):∀x∈lay1 l s,x.1.length≤n:=fun x hx=>by
 rcases mem_lay1 hx with hx | rfl | ⟨y,hy,rfl⟩
 · exact h x hx
 · exact hs
 · exact h y hy
theorem fLaid_key {n:Nat}:∀{t l:List Ser},(∀x∈l,x.1.length≤n)→(∀x∈t,x.1.length≤n)→∀x∈fLaid l t,x.1.length≤n
 | [],_,h,_=>h
 | s::t,l,h,ht=>fLaid_key (t:=t) (lay1_key h (ht s (by simp))) fun x hx=>ht x (by simp [hx])
theorem layers_key {n:Nat}:∀(ls:List (List Ser)) (l:List Ser),(∀x∈l,x.1.length≤n)→(∀t∈ls,∀x∈t,x.1.length≤n)→∀x∈ls.foldl fLaid l,x.1.length≤n
 | [],_,h,_=>h
 | t::ls,l,h,ht=>layers_key ls (fLaid l t) (fLaid_key h (ht t (by simp))) fun x hx=>ht x (by simp [hx])
theorem raised_key {n:Nat} {l:List Ser} (h:∀x∈l,x.1.length≤n) (f:Int):∀x∈fRaised l f,x.1.length≤n:=fun x hx=>by
 obtain⟨y,hy,rfl⟩:=raised_mem hx
 exact h y hy
theorem plain_key {e:Eng} (h:∀x∈e.2.1,x.1.length≤8):∀x∈(fPlainE e).1,x.1.length≤8:=by
 unfold fPlainE
 split
 · refine raised_key (fLaid_key (layers_key _ _ (fun x hx=>by cases hx) fun t ht x hx=>?_) h) _
   obtain⟨f,_,rfl⟩:=List.mem_map.1 ht
   exact (readF_R f).2.2 x hx
 · intro x hx;cases hx
theorem serKey {l:List Ser} (h:∀x∈l,x.1.length≤8):pSerOk l:=fun x hx=>Nat.le_trans (h x hx) (by decide)
def c_impl_engineRead:Con:={A:=T10q,shA:=[.agg 3],R:=(.pair T15q .bool),shR:=[(false,1),(false,1)],fresh:=[(0,72)],pre:=fun _ a=>(pEng a),f:=some fun _ a=>((fEngRead a),((),()))}
def impl_engineRead.F (a0:U11q):Prop:=(True∧∀r1,(Eq r1 ((fIn a0.1 0 1099511627776),((),())))→(caseB (!r1.1) (Eq ((([]:U2q),false),((),())) ((fEngRead a0),((),()))) ((pSerOk a0.2.1)∧∀r2,(Eq r2 ((fSerOk a0.2.1),((),())))→(caseB (!r2.1) (Eq ((([]:U2q),false),((),())) ((fEngRead a0),((),()))) ((pCnt a0.2.1)∧∀r3,(Eq r3 ((fCnt a0.2.1),((),())))→(caseB (decide (r3.1>(40:Int))) (Eq ((([]:U2q),false),((),())) ((fEngRead a0),((),()))) (caseB (decide ((ln a0.2.2)>(4:Int))) (Eq ((([]:U2q),false),((),())) ((fEngRead a0),((),()))) ((pLowL a0.2.1 (a0.1,(a0.2.1,a0.2.2)))∧∀r4,(Eq r4 ((fCont a0.2.1 (a0.1,(a0.2.1,a0.2.2))),((),())))→(caseB r4.1 (Eq ((([]:U2q),false),((),())) ((fEngRead a0),((),()))) ((pPlainE (a0.1,(a0.2.1,a0.2.2)))∧∀r5,(Eq r5 ((fPlainE (a0.1,(a0.2.1,a0.2.2))),((),())))→(caseB r5.1.2 ((pSerOk r5.1.1)∧∀r6,(Eq r6 ((fSerOk r5.1.1),((),())))→(Eq ((r5.1.1,r6.1),((),())) ((fEngRead a0),((),())))) (Eq ((r5.1.1,false),((),())) ((fEngRead a0),((),()))))))))))))))
theorem impl_engineRead.pure (a0:U11q) (h:(pEng a0)) (hw:Wf c_impl_engineRead.A a0):impl_engineRead.F a0:=by
 delta impl_engineRead.F ln
 simp only [forall_eq,true_and,and_true,caseB_iff,Prod.mk.injEq,decide_eq_true_eq,decide_eq_false_iff_not,Bool.not_eq_true',Bool.not_eq_false',bne_iff_ne,ne_eq,beq_iff_eq,Bool.not_true,Bool.not_false,beq_eq_false_iff_ne,bne_eq_false_iff_eq,List.length_append,List.length_cons,List.length_nil,List.append_nil,Nat.zero_add,decide_true,decide_false,eq_self_iff_true,Prod.eta]
 obtain⟨hk,hf⟩:=h
 have no:fHead a0=false→(([]:List Ser),false)=fEngRead a0:=fun h=>by unfold fEngRead;rw [if_neg (by rw [h];decide)]
 refine⟨fun h1=>no (by unfold fHead fTime;rw [h1];rfl),fun h1=>⟨hk,fun h2=>no (by unfold fHead;rw [h2];simp),fun h2=>?_⟩⟩
 obtain⟨s1,s2,s3,s4⟩:=fSerOk_R h2
 have hne:pLowL a0.2.1 a0:=⟨by omega,fun x hx=>(s4 x hx).2.1⟩
 refine⟨by unfold pCnt;omega,fun h3=>no ?_,fun h3=>⟨fun h4=>no ?_,fun h4=>⟨hne,fun h5=>no ?_,fun h5=>?_⟩⟩⟩
 · have:decide (fCnt a0.2.1≤40)=false:=decide_eq_false (by omega)
   unfold fHead;rw [this];simp
 · have:decide (a0.2.2.length≤4)=false:=decide_eq_false (by omega)
   unfold fHead;rw [this];simp
 · unfold fHead;rw [h5];simp
 have hh:fHead a0=true:=by
  unfold fHead fTime
  rw [h1,h2,h5,decide_eq_true (by omega:fCnt a0.2.1≤40),decide_eq_true (by omega:a0.2.2.length≤4)];rfl
 refine⟨⟨hf,s1,by omega,by omega⟩,fun h6=>⟨serKey (plain_key fun x hx=>(s4 x hx).1),?_⟩,fun h6=>?_⟩
 · unfold fEngRead;rw [if_pos hh,if_pos h6]
 · unfold fEngRead;rw [if_pos hh,if_neg (by rw [h6];decide)]
set_option maxRecDepth 100000 in
theorem impl_engineRead.eq:EqS c_impl_engineRead Tryz.f62 [29,4] [impl_plain.e,impl_SeriesOk.e,impl_cached.e,impl_from.e,slices_ContainsFunc_impl_Series_impl_Series.e,impl_engineRead_1.e] [] noL (fun i x=>impl_engineRead.F x):=by intro i x;kernel_rfl
theorem impl_engineRead.ok:ConOk Tryz.prog 62 c_impl_engineRead:=okOf impl_engineRead.eq Tryz.func62 rfl (by kernel_rfl) fun i x h hi hw=>impl_engineRead.pure x h hw
def impl_engineRead.e:GE:=⟨62,c_impl_engineRead,⟨_,Tryz.func62,rfl,rfl⟩,impl_engineRead.ok⟩
def c_impl_EngineOk:Con:={A:=T10q,shA:=[.agg 3],R:=.bool,shR:=[(false,1)],pre:=fun _ a=>(pEng a),f:=some fun _ a=>((fEngOk a),((),()))}
def impl_EngineOk.F (a0:U11q):Prop:=((pEng (a0.1,(a0.2.1,a0.2.2)))∧∀r1,(Eq r1 ((fEngRead (a0.1,(a0.2.1,a0.2.2))),((),())))→(Eq (r1.1.2,((),())) ((fEngOk a0),((),()))))
theorem impl_EngineOk.pure (a0:U11q) (h:(pEng a0)) (hw:Wf c_impl_EngineOk.A a0):impl_EngineOk.F a0:=by
 unfold impl_EngineOk.F
 simp only [forall_eq,true_and,and_true,caseB_iff,Prod.mk.injEq,decide_eq_true_eq,decide_eq_false_iff_not,Bool.not_eq_true',Bool.not_eq_false',bne_iff_ne,ne_eq,beq_iff_eq,Bool.not_true,Bool.not_false,beq_eq_false_iff_ne,bne_eq_false_iff_eq,List.length_append,List.length_cons,List.length_nil,List.append_nil,Nat.zero_add,decide_true,decide_false,eq_self_iff_true,fEngOk]
 repeat' (with_reducible (first | (refine And.intro ?_ ?_) | intro _))
 all_goals (try simp (disch:=omega) only [w64,wu8,tn0,tn1,tm1,tm2,List.length_append,List.length_cons,List.length_nil] at*)
 all_goals (try simp (disch:=omega) only [w64,wu8,tn0,tn1,tm1,tm2,List.length_append,List.length_cons,List.length_nil] at*)
 all_goals (try omega)
 all_goals (try grind [])
set_option maxRecDepth 100000 in
theorem impl_EngineOk.eq:EqS c_impl_EngineOk Tryz.f73 [4] [impl_engineRead.e] [] noL (fun i x=>impl_EngineOk.F x):=by intro i x;kernel_rfl
theorem impl_EngineOk.ok:ConOk Tryz.prog 73 c_impl_EngineOk:=okOf impl_EngineOk.eq Tryz.func73 rfl (by kernel_rfl) fun i x h hi hw=>impl_EngineOk.pure x h hw
def impl_EngineOk.e:GE:=⟨73,c_impl_EngineOk,⟨_,Tryz.func73,rfl,rfl⟩,impl_EngineOk.ok⟩
end Go.Proofs.YtnoapekdbmpiaaaGreat.B
