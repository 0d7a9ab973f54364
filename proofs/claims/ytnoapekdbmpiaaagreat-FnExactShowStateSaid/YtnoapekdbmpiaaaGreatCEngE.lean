/- Engines:the program and the reference are one. -/
import Derived.Test.YtnoapekdbmpiaaaGreatCEngS
set_option linter.unusedVariables false
set_option linter.unusedSimpArgs false
namespace Go.Proofs.YtnoapekdbmpiaaaGreat.B
open Go Go.Proofs.YtnoapekdbmpiaaaGreat.Bv
theorem nmP_asc {k:Str}:∀{l:List Str},Asc Op.bytesLess id l→(∀x∈l,x≠k)→Asc Op.bytesLess id (nmP k l)
 | [],_,_=>List.pairwise_singleton _ _
 | x::l,h,hn=>by
   obtain⟨h1,h2⟩:=List.pairwise_cons.1 h
   rw [nmP];split
   · rename_i hx
     refine List.pairwise_cons.2 ⟨fun y hy=>?_,h⟩
     rcases List.mem_cons.1 hy with rfl | hy
     · exact hx
     · exact strOrd.tr _ _ _ hx (h1 y hy)
   · rename_i hx
     have hxk:Op.bytesLess x k=true:=by
      rcases strOrd.tri x k with h3 | h3 | h3
      · exact h3
      · exact absurd h3 (hn x (by simp))
      · exact absurd h3 hx
     refine List.pairwise_cons.2 ⟨fun y hy=>?_,nmP_asc h2 fun z hz=>hn z (by simp [hz])⟩
     have hy':y=k∨y∈l:=by
      clear h hn h1 h2 hx hxk
      induction l with
      | nil=>exact .inl (by simpa [nmP] using hy)
      | cons z l ih=>
        rw [nmP] at hy
        split at hy
        · rcases List.mem_cons.1 hy with e | hy
          · exact .inl e
          · exact .inr hy
        · rcases List.mem_cons.1 hy with e | hy
          · exact .inr (by simp [e])
          · rcases ih hy with e | h
            · exact .inl e
            · exact .inr (by simp [h])
     rcases hy' with rfl | hy'
     · exact hxk
     · exact h1 y hy'
theorem mem_nmP {k x:Str}:∀{l:List Str},x∈nmP k l↔x=k∨x∈l
 | []=>by simp [nmP]
 | z::l=>by
   rw [nmP];split
   · simp
   · simp only [List.mem_cons,mem_nmP (l:=l)]
     constructor
     · rintro (h | h | h)
       · exact .inr (.inl h)
       · exact .inl h
       · exact .inr (.inr h)
     · rintro (h | h | h)
       · exact .inr (.inl h)
       · exact .inl h
       · exact .inr (.inr h)
theorem fName_spec {l:List Str} (h:Asc Op.bytesLess id l) (k:Str):Asc Op.bytesLess id (fName l k)∧∀x,x∈fName l k↔x∈l∨x=k:=by
 unfold fName;split
 · rename_i hk
   exact⟨h,fun x=>⟨.inl,fun hx=>hx.elim id fun e=>e▸hk⟩⟩
 · rename_i hk
   refine⟨nmP_asc h fun x hx e=>hk (e▸hx),fun x=>?_⟩
   rw [mem_nmP];exact Or.comm
theorem fKeysL_spec:∀(l:List Ser) (o:List Str),Asc Op.bytesLess id o→Asc Op.bytesLess id (fKeysL o l)∧∀x,x∈fKeysL o l↔x∈o∨hasK l x=true
 | [],o,h=>⟨h,fun x=>by simp [fKeysL,hasK]⟩
 | s::l,o,h=>by
   obtain⟨a1,a2⟩:=fName_spec h s.1
   obtain⟨b1,b2⟩:=fKeysL_spec l _ a1
   refine⟨b1,fun x=>?_⟩
   show x∈fKeysL (fName o s.1) l↔_
   rw [b2,a2,hasK_cons,Bool.or_eq_true,decide_eq_true_eq]
   constructor
   · rintro ((h | h) | h)
     · exact .inl h
     · exact .inr (.inl h.symm)
     · exact .inr (.inr h)
   · rintro (h | h | h)
     · exact .inl (.inl h)
     · exact .inl (.inr h.symm)
     · exact .inr h
theorem fKeys_spec (ls:List (List Ser)):Asc Op.bytesLess id (fKeys ls)∧∀x,x∈fKeys ls↔∃l∈ls,hasK l x=true:=by
 have:∀(ls:List (List Ser)) (o:List Str),Asc Op.bytesLess id o→Asc Op.bytesLess id (ls.foldl fKeysL o)∧∀x,x∈ls.foldl fKeysL o↔x∈o∨∃l∈ls,hasK l x=true:=by
  intro ls
  induction ls with
  | nil=>intro o h;exact⟨h,fun x=>by simp⟩
  | cons t ls ih=>
    intro o h
    obtain⟨a1,a2⟩:=fKeysL_spec t o h
    obtain⟨b1,b2⟩:=ih _ a1
    refine⟨b1,fun x=>?_⟩
    rw [List.foldl_cons,b2,a2]
    constructor
    · rintro ((h | h) | ⟨l,h1,h2⟩)
      · exact .inl h
      · exact .inr ⟨t,by simp,h⟩
      · exact .inr ⟨l,by simp [h1],h2⟩
    · rintro (h | ⟨l,h1,h2⟩)
      · exact .inl (.inl h)
      · rcases List.mem_cons.1 h1 with rfl | h1
        · exact .inl (.inr h2)
        · exact .inr ⟨l,h1,h2⟩
 obtain⟨a,b⟩:=this ls [] List.Pairwise.nil
 exact⟨a,fun x=>by rw [show fKeys ls=ls.foldl fKeysL [] from rfl,b];simp⟩
theorem keyed (g:Str→List Pt):∀{ks:List Str},Asc Op.bytesLess id ks→let L:=(ks.map fun k=>(k,g k)).filter fun x:Ser=>!x.2.isEmpty
 AscS L∧∀k,hasK L k=(decide (k∈ks)&&!(g k).isEmpty)∧ptsOf L k=if k∈ks then g k else []
 | [],_=>⟨List.Pairwise.nil,fun k=>⟨rfl,rfl⟩⟩
 | x::ks,h=>by
   obtain⟨h1,h2⟩:=List.pairwise_cons.1 h
   obtain⟨a1,a2⟩:=keyed g h2
   have hx:x∉ks:=fun hm=>by have:=h1 x hm;simp only [id] at this;rw [strOrd.irr] at this;cases this
   simp only [List.map_cons,List.filter_cons]
   cases he:(g x).isEmpty with
   | true=>
     refine⟨a1,fun k=>?_⟩
     obtain⟨b1,b2⟩:=a2 k
     by_cases hk:k=x
     · subst hk
       have hg:g k=[]:=List.isEmpty_iff.1 he
       simp [b1,b2,hx,hg]
     · simp [b1,b2,hk]
   | false=>
     refine⟨List.pairwise_cons.2 ⟨fun y hy=>?_,a1⟩,fun k=>?_⟩
     · obtain⟨z,hz,e⟩:=List.mem_map.1 (List.mem_filter.1 hy).1
       rw [←e];exact h1 z hz
     · obtain⟨b1,b2⟩:=a2 k
       simp only [Bool.not_false,if_true,hasK_cons,ptsOf_cons,b1,b2]
       by_cases hk:x=k
       · subst hk;simp [he]
       · have:¬k=x:=fun e=>hk e.symm
         simp [hk,this]
theorem hasL_no {ls:List (List Ser)} {k:Str} (h:∀l∈ls,hasK l k=false):hasL ls k=[]:=by
 have:∀(ls:List (List Ser)) (o:List Pt),(∀l∈ls,hasK l k=false)→ls.foldl (fun o l=>fMerge o (ptsOf l k)) o=o:=by
  intro ls
  induction ls with
  | nil=>intro o _;rfl
  | cons t ls ih=>
    intro o h
    rw [List.foldl_cons,ptsOf_no (h t (by simp)),merge_nil]
    exact ih o fun l hl=>h l (by simp [hl])
 exact this ls [] h
theorem plain_two {ls:List (List Ser)} (h:∀l∈ls,SerR l) (f:Int):fPlS ls f=fRaised (fLayers ls) f:=by
 obtain⟨k1,k2⟩:=fKeys_spec ls
 obtain⟨a1,a2⟩:=keyed (fHasS ls f) k1
 have hR:SerR (fLayers ls):=layers_R ls [] nil_R h
 have hp:∀k,ptsOf (fLayers ls) k=hasL ls k:=fun k=>by rw [fLayers,layers_pts ls [] nil_R h];rfl
 have hno:∀k,k∉fKeys ls→fHasS ls f k=[]:=fun k hk=>by
  unfold fHasS
  rw [hasL_no (fun l hl=>by rw [Bool.eq_false_iff];intro hh;exact hk ((k2 k).2 ⟨l,hl,hh⟩)),fSlice_nil]
 have b1:∀k,hasK (fPlS ls f) k=(decide (k∈fKeys ls)&&!(fHasS ls f k).isEmpty):=fun k=>(a2 k).1
 have b2:∀k,ptsOf (fPlS ls f) k=if k∈fKeys ls then fHasS ls f k else []:=fun k=>(a2 k).2
 refine ser_ext a1 (raised_asc hR.1 f) (fun k=>?_) (fun k=>?_)
 · rw [b1,(raised_pts hR.1 f k).2,hp]
   show _=!(fHasS ls f k).isEmpty
   by_cases hk:k∈fKeys ls
   · simp [hk]
   · simp [hk,hno k hk]
 · rw [b2,(raised_pts hR.1 f k).1,hp]
   show _=fHasS ls f k
   split
   · rfl
   · rename_i hk;exact (hno k hk).symm
theorem fLay_R (fs:List Str):∀l∈fLay fs,SerR l:=fun l hl=>by
 obtain⟨f,_,rfl⟩:=List.mem_map.1 hl
 exact (readF_R f).1
theorem lays_R {e:Eng} (hc:SerR e.2.1):∀l∈fLay e.2.2++[e.2.1],SerR l:=fun l hl=>by
 rcases List.mem_append.1 hl with h | h
 · exact fLay_R _ l h
 · rw [List.mem_singleton.1 h];exact hc
theorem plS_E {e:Eng} (hc:SerR e.2.1) (ho:okF e.2.2=true):fPlS (fLay e.2.2++[e.2.1]) e.1=(fPlainE e).1:=by
 rw [plain_two (lays_R hc)]
 unfold fPlainE
 rw [if_pos ho]
 simp only [fLayers,List.foldl_append,List.foldl_cons,List.foldl_nil]
theorem lay_tot (fs:List Str):cL tot (fLay fs)≤305*fs.length:=by
 induction fs with
 | nil=>simp [fLay,cL]
 | cons f fs ih=>
   have h1:=(readF_R f).2.1
   show cL tot ((fReadFile f).1::fLay fs)≤_
   rw [cL_cons,List.length_cons];omega
theorem lays_tot (e:Eng):cL tot (fLay e.2.2++[e.2.1])≤305*e.2.2.length+tot e.2.1:=by
 have:=lay_tot e.2.2
 rw [cL_append,cL_cons,cL_nil];omega
theorem okF_plain (e:Eng):(fPlainE e).2=okF e.2.2:=by
 unfold fPlainE;split
 · rename_i h;rw [h]
 · rename_i h;simp at h;simp [h]
structure ekI (e:Eng) (i fl:Int) (ca:List Ser) (fi:List Str):Prop where
 h0:((fl,(ca,fi)):Eng)=e
 h1:0≤i
 h2:i≤e.2.1.length
 h3:∀j,j<i.toNat→dLow e (e.2.1.getD j ([],[]))=false
def ekM (e:Eng) (i fl:Int) (ca:List Ser) (fi:List Str):Nat:=(e.2.1.length - i).toNat
theorem ek_end {e:Eng} {i fl:Int} {ca:List Ser} {fi:List Str} (h:ekI e i fl ca fi) (hi:¬i<e.2.1.length):fCont e.2.1 e=false:=by
 obtain⟨h0,h1,h2,h3⟩:=h
 rw [Bool.eq_false_iff];intro hh
 obtain⟨x,hx,hd⟩:=List.any_eq_true.1 hh
 obtain⟨j,hj,e2⟩:=List.getElem_of_mem hx
 have:=h3 j (by omega)
 rw [getD_lt hj,e2,hd] at this;cases this
theorem ek_no {e:Eng} {j:Nat} (hj:j<e.2.1.length) (hd:dLow e (e.2.1.getD j ([],[]))=true):fCont e.2.1 e=true:=
 List.any_eq_true.2 ⟨_,getD_mem hj,hd⟩
def c_spec_EngineOk:Con:={A:=T10q,shA:=[.agg 3],R:=.bool,shR:=[(false,1)],pre:=fun _ a=>(pEng a),f:=some fun _ a=>((fEngOk a),((),()))}
def spec_EngineOk.F (a0:U11q):Prop:=(True∧∀r1,(Eq r1 ((fIn a0.1 0 1099511627776),((),())))→(caseB (!r1.1) (Eq (false,((),())) ((fEngOk a0),((),()))) ((pSerOk a0.2.1)∧∀r2,(Eq r2 ((fSerOk a0.2.1),((),())))→(caseB (!r2.1) (Eq (false,((),())) ((fEngOk a0),((),()))) ((pCnt a0.2.1)∧∀r3,(Eq r3 ((fCnt a0.2.1),((),())))→(caseB (decide (r3.1>(40:Int))) (Eq (false,((),())) ((fEngOk a0),((),()))) (caseB (decide ((ln a0.2.2)>(4:Int))) (Eq (false,((),())) ((fEngOk a0),((),()))) (eS [(1,.box 2 0)] [(1,.box 2 0)]∧((ekI a0 0 a0.1 a0.2.1 a0.2.2)∧∀(y4:(Int×U11q)),(ekI a0 y4.1 y4.2.1 y4.2.2.1 y4.2.2.2)→(caseB (decide (y4.1<(ln y4.2.2.1))) (0≤y4.1∧(y4.1<(ln y4.2.2.1)∧(0≤(0:Int)∧((0:Int)<(ln ((List.getD y4.2.2.1 (tN y4.1) ([],[])).2))∧(caseB (decide (((List.getD ((List.getD y4.2.2.1 (tN y4.1) ([],[])).2) (tN (0:Int)) (0,0)).1)<y4.2.1)) (Eq (false,((),())) ((fEngOk a0),((),()))) (eS [(1,.box 2 0)] [(1,.box 2 0)]∧(ekI a0 (wI (y4.1+(1:Int))) y4.2.1 y4.2.2.1 y4.2.2.2)∧(ekM a0 (wI (y4.1+(1:Int))) y4.2.1 y4.2.2.1 y4.2.2.2)<(ekM a0 y4.1 y4.2.1 y4.2.2.1 y4.2.2.2))))))) ((pLyr (y4.2.1,(y4.2.2.1,y4.2.2.2)))∧∀r5,(Eq r5 ((fLyr (y4.2.1,(y4.2.2.1,y4.2.2.2))),((),())))→(caseB r5.1.2 ((pPlS r5.1.1 y4.2.1)∧∀r6,(Eq r6 ((fPlS r5.1.1 y4.2.1),((),())))→((pSerOk r6.1)∧∀r7,(Eq r7 ((fSerOk r6.1),((),())))→(Eq (r7.1,((),())) ((fEngOk a0),((),()))))) (Eq (false,((),())) ((fEngOk a0),((),())))))))))))))))
def spec_EngineOk.L (a0:U11q):Nat→Option LoopAnn:=fun p=>Go.Proofs.YtnoapekdbmpiaaaGreat.Bv.look p [(58,{kp:={hold:=[1],slots:=[3],boxes:=[2],rows:=[]},T:=(.pair (.int .i64) T10q),I:=fun st y=>ekI a0 y.1 y.2.1 y.2.2.1 y.2.2.2,μ:=fun st y=>ekM a0 y.1 y.2.1 y.2.2.1 y.2.2.2})]
theorem spec_EngineOk.pure (a0:U11q) (h:(pEng a0)) (hw:Wf c_spec_EngineOk.A a0):spec_EngineOk.F a0:=by
 delta spec_EngineOk.F ln tN wI eS
 simp only [forall_eq,true_and,and_true,caseB_iff,Prod.mk.injEq,decide_eq_true_eq,decide_eq_false_iff_not,Bool.not_eq_true',Bool.not_eq_false',bne_iff_ne,ne_eq,beq_iff_eq,Bool.not_true,Bool.not_false,beq_eq_false_iff_ne,bne_eq_false_iff_eq,List.length_append,List.length_cons,List.length_nil,List.append_nil,Nat.zero_add,decide_true,decide_false,eq_self_iff_true,Prod.eta,pCnt]
 obtain⟨hk,hf⟩:=h
 have no:fHead a0=false→false=fEngOk a0:=fun h=>by unfold fEngOk fEngRead;rw [if_neg (by rw [h];decide)]
 refine⟨fun h1=>no (by unfold fHead fTime;rw [h1];rfl),fun h1=>⟨hk,fun h2=>no (by unfold fHead;rw [h2];simp),fun h2=>?_⟩⟩
 obtain⟨s1,s2,s3,s4⟩:=fSerOk_R h2
 refine⟨by omega,fun h3=>no ?_,fun h3=>⟨fun h4=>no ?_,fun h4=>?_⟩⟩
 · have:decide (fCnt a0.2.1≤40)=false:=decide_eq_false (by omega)
   unfold fHead;rw [this];simp
 · have:decide (a0.2.2.length≤4)=false:=decide_eq_false (by omega)
   unfold fHead;rw [this];simp
 refine⟨⟨rfl,by omega,by omega,fun j hj=>absurd hj (by simp)⟩,?_⟩
 rintro⟨i,fl,ca,fi⟩ hI
 simp only at hI ⊢
 have q1:=hI.h1
 have q2:=hI.h2
 have q3:=hI.h3
 have hen:=ek_end hI
 obtain rfl:=hI.h0
 simp only at*
 refine⟨fun hi=>?_,fun hi=>?_⟩
 · have hm:=getD_mem (d:=(([]:List UInt8),([]:List Pt))) (by omega:i.toNat<ca.length)
   have hp:0<(ca.getD i.toNat ([],[])).2.length:=List.length_pos_iff.2 (s4 _ hm).2.1
   rw [w64 (x:=i+1) (by omega) (by omega)]
   refine⟨q1,hi,by omega,by omega,fun h5=>no ?_,fun h5=>⟨⟨rfl,by omega,by simp only;omega,fun j hj=>?_⟩,by unfold ekM;simp only;omega⟩⟩
   · have hd:dLow (fl,ca,fi) (ca.getD i.toNat ([],[]))=true:=by unfold dLow;exact decide_eq_true h5
     have:=ek_no (e:=(fl,ca,fi)) (j:=i.toNat) (by simp only;omega) hd
     unfold fHead;simp only;rw [this];simp
   · by_cases e:j=i.toNat
     · rw [e];unfold dLow;exact decide_eq_false h5
     · exact q3 j (by omega)
 · have h5:=hen hi
   have hh:fHead (fl,ca,fi)=true:=by
    unfold fHead fTime
    simp only
    rw [h1,h2,h5,decide_eq_true (by omega:fCnt ca≤40),decide_eq_true (by omega:fi.length≤4)];rfl
   have ho:=okF_plain (fl,ca,fi)
   have ht:=lays_tot (fl,ca,fi)
   simp only at ho ht
   refine⟨⟨hf,by simp only;omega⟩,fun h6=>?_,fun h6=>?_⟩
   · have h7:okF fi=true:=by
      unfold fLyr at h6;simp only at h6;split at h6
      · assumption
      · cases h6
     have e1:(fLyr (fl,ca,fi)).1=fLay fi++[ca]:=by unfold fLyr;simp only;rw [if_pos h7]
     have e2:=plS_E (e:=(fl,ca,fi)) s1 h7
     simp only at e2
     rw [e1,e2]
     refine⟨by unfold pPlS;omega,serKey (plain_key (e:=(fl,ca,fi)) fun x hx=>(s4 x hx).1),?_⟩
     unfold fEngOk fEngRead
     rw [if_pos hh,if_pos (by rw [ho];exact h7)]
   · have h7:okF fi=false:=by
      unfold fLyr at h6;simp only at h6;split at h6
      · cases h6
      · simpa using ‹¬okF fi=true›
     unfold fEngOk fEngRead
     rw [if_pos hh,if_neg (by rw [ho,h7];decide)]
set_option maxRecDepth 100000 in
theorem spec_EngineOk.eq:EqS c_spec_EngineOk Tryz.f48 [4] [spec_l10Layers.e,spec_l10Plain.e,spec_l1In.e,spec_SeriesOk.e,spec_l10Count.e] [] (fun i x=>spec_EngineOk.L x) (fun i x=>spec_EngineOk.F x):=by intro i x;kernel_rfl
theorem spec_EngineOk.ok:ConOk Tryz.prog 48 c_spec_EngineOk:=okOf spec_EngineOk.eq Tryz.func48 rfl (by kernel_rfl) fun i x h hi hw=>spec_EngineOk.pure x h hw
def spec_EngineOk.e:GE:=⟨48,c_spec_EngineOk,⟨_,Tryz.func48,rfl,rfl⟩,spec_EngineOk.ok⟩
end Go.Proofs.YtnoapekdbmpiaaaGreat.B
