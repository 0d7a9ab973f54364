/- Engines:what a put comes to. -/
import Derived.Test.YtnoapekdbmpiaaaGreatCEngG
namespace Go.Proofs.YtnoapekdbmpiaaaGreat.B
set_option linter.unusedVariables false
set_option linter.unusedSimpArgs false
open Go Go.Proofs.YtnoapekdbmpiaaaGreat.Bv
theorem asc_sub {α K:Type} {lt:K→K→Bool} (o:SOrd lt) {key:α→K}:∀{w v:List α},Asc lt key v→Asc lt key w→(∀x∈v,x∈w)→v.length≤w.length
 | [],v,_,_,h=>by
   cases v with
   | nil=>simp
   | cons a v=>have:=h a (by simp);cases this
 | b::w,[],_,_,_=>by simp
 | b::w,a::v,hv,hw,h=>by
   obtain⟨v1,v2⟩:=List.pairwise_cons.1 hv
   obtain⟨w1,w2⟩:=List.pairwise_cons.1 hw
   have key_ne:∀x∈v,lt (key a) (key x)=true:=v1
   rcases List.mem_cons.1 (h a (by simp)) with e | ha
   · subst e
     have:=asc_sub o v2 w2 fun x hx=>by
      rcases List.mem_cons.1 (h x (by simp [hx])) with e | h2
      · have:=v1 x hx;rw [e,o.irr] at this;cases this
      · exact h2
     simp;omega
   · have:=asc_sub o hv w2 fun x hx=>by
      rcases List.mem_cons.1 (h x hx) with e | h2
      · subst e
        rcases List.mem_cons.1 hx with e2 | h3
        · subst e2;exact ha
        · have p1:=v1 x h3
          have p2:=w1 a ha
          have:=o.tr _ _ _ p1 p2
          rw [o.irr] at this;cases this
      · exact h2
     simp at this ⊢;omega
theorem slice_merge3 {A C q:List Pt} {f:Int} (hA:AscP A) (hC:AscP C) (hq:AscP q) (h:∀y∈q,f≤y.1∧y.1<1099511627777):
 fMerge (fSlice (fMerge A C) f 1099511627777) q=fSlice (fMerge A (fMerge C q)) f 1099511627777:=by
 have hCq:=fMerge_asc (b:=q) hC
 refine asc_ext intOrd (fMerge_asc (fSlice_asc (fMerge_asc hA) _ _)) (fSlice_asc (fMerge_asc hA) _ _) fun x=>?_
 rw [mem_fMerge hq,mem_fSlice,mem_fSlice,mem_fMerge hC,mem_fMerge hCq,mem_fMerge hq]
 constructor
 · rintro (h1 | ⟨⟨h1 | ⟨h1,h2⟩,h3⟩,h4⟩)
   · exact⟨.inl (.inl h1),h x h1⟩
   · exact⟨.inl (.inr ⟨h1,h4⟩),h3⟩
   · refine⟨.inr ⟨h1,fun y hy=>?_⟩,h3⟩
     rcases (mem_fMerge hq).1 hy with hy | ⟨hy,_⟩
     · exact h4 y hy
     · exact h2 y hy
 · rintro⟨(h1 | ⟨h1,h2⟩) | ⟨h1,h2⟩,h3⟩
   · exact .inl h1
   · exact .inr ⟨⟨.inl h1,h3⟩,h2⟩
   · refine .inr ⟨⟨.inr ⟨h1,fun y hy e=>?_⟩,h3⟩,fun y hy=>h2 y ((mem_fMerge hq).2 (.inl hy))⟩
     by_cases hz:∀z∈q,z.1≠y.1
     · exact h2 y ((mem_fMerge hq).2 (.inr ⟨hy,hz⟩)) e
     · simp only [ne_eq,Classical.not_forall,Classical.not_not] at hz
       obtain⟨z,hz1,hz2⟩:=hz
       exact h2 z ((mem_fMerge hq).2 (.inl hz1)) (hz2.trans e)
theorem pts_one (k j:Str) (p:List Pt):ptsOf [(k,p)] j=if k=j then p else []:=by rw [ptsOf_cons];rfl
def eX (e:Eng) (k:Str) (p:List Pt):Eng:=(e.1,fLaid e.2.1 [(k,p)],e.2.2)
theorem put_plain {e:Eng} {k:Str} {p:List Pt} (hc:SerR e.2.1) (ho:okF e.2.2=true) (hp:PtsR p) (hn:p≠[]) (hf:∀y∈p,e.1≤y.1):
 fLaid (fPlainE e).1 [(k,p)]=(fPlainE (eX e k p)).1:=by
 have hX:SerR (fLayers (fLay e.2.2)):=layers_R _ [] nil_R (fLay_R _)
 have hS:∀x∈[((k,p):Ser)],PtsR x.2:=fun x hx=>by rw [List.mem_singleton.1 hx];exact hp
 have hSA:∀x∈[((k,p):Ser)],AscP x.2:=fun x hx=>(hS x hx).1
 have a1:AscS [((k,p):Ser)]:=List.pairwise_singleton _ _
 have hc2:SerR (fLaid e.2.1 [(k,p)]):=fLaid_R hc hS
 have hX1:=fLaid_R hX hc.2
 have hX2:=fLaid_R hX hc2.2
 rw [plainE_ok ho,plainE_ok (e:=eX e k p) ho]
 show fLaid (fRaised (fLaid (fLayers (fLay e.2.2)) e.2.1) e.1) [(k,p)]=fRaised (fLaid (fLayers (fLay e.2.2)) (fLaid e.2.1 [(k,p)])) e.1
 have hpts:∀j,ptsOf (fLaid (fRaised (fLaid (fLayers (fLay e.2.2)) e.2.1) e.1) [(k,p)]) j=fSlice (ptsOf (fLaid (fLayers (fLay e.2.2)) (fLaid e.2.1 [(k,p)])) j) e.1 1099511627777:=fun j=>by
  rw [fLaid_pts (raised_asc hX1.1 _) hSA a1,(raised_pts hX1.1 _ j).1,fLaid_pts hX.1 (fun x hx=>(hc.2 x hx).1) hc.1,fLaid_pts hX.1 (fun x hx=>(hc2.2 x hx).1) hc2.1,fLaid_pts hc.1 hSA a1]
  refine slice_merge3 (ptsOf_R hX.2 j).1 (ptsOf_R hc.2 j).1 (ptsOf_R hS j).1 fun y hy=>?_
  rw [pts_one] at hy
  split at hy
  · have:=hp.2 y hy;have:=hf y hy;omega
  · cases hy
 refine ser_ext (fLaid_R (raised_R hX1 _) hS).1 (raised_asc hX2.1 _) (fun j=>?_) (fun j=>by rw [hpts,(raised_pts hX2.1 _ j).1])
 rw [(raised_pts hX2.1 _ j).2,←hpts,fLaid_has (raised_asc hX1.1 _) hSA,fLaid_pts (raised_asc hX1.1 _) hSA a1,(raised_pts hX1.1 _ j).2,←(raised_pts hX1.1 _ j).1,pts_one]
 by_cases hj:k=j
 · subst hj
   have:hasK [((k,p):Ser)] k=true:=by simp [hasK]
   rw [this,Bool.or_true,if_pos rfl]
   have h1:∃y,y∈p:=List.exists_mem_of_ne_nil p hn
   obtain⟨y,hy⟩:=h1
   have h2:=(mem_fMerge (a:=ptsOf (fRaised (fLaid (fLayers (fLay e.2.2)) e.2.1) e.1) k) hp.1).2 (.inl hy)
   cases hm:fMerge (ptsOf (fRaised (fLaid (fLayers (fLay e.2.2)) e.2.1) e.1) k) p with
   | nil=>rw [hm] at h2;cases h2
   | cons=>rfl
 · have:hasK [((k,p):Ser)] j=false:=by simp [hasK,hj]
   rw [this,Bool.or_false,if_neg hj,merge_nil]
theorem ptAt_of {l:List Pt} (h:PtsR l) (h2:∀x∈l,-1099511627776≤x.2∧x.2≤1099511627776) (h3:l.length≤60):fPtsOk l=true:=by
 unfold fPtsOk
 rw [Bool.and_eq_true,decide_eq_true_eq]
 refine⟨h3,all_yes fun j hj=>?_⟩
 have m:=getD_mem (d:=((0,0):Pt)) hj
 have r:=h.2 _ m
 have s:=h2 _ m
 unfold ptAt fIn
 simp only [Bool.and_eq_true,Bool.or_eq_true,decide_eq_true_eq]
 refine⟨r,s,?_⟩
 by_cases e:j=0
 · exact .inl e
 · right
   have:=asc_getD (0,0) h.1 (i:=j - 1) (j:=j) (by omega) hj
   simpa [ltI] using this
theorem ptsOk_val {l:List Pt} (h:fPtsOk l=true):∀x∈l,-1099511627776≤x.2∧x.2≤1099511627776:=fun x hx=>by
 unfold fPtsOk at h
 simp only [Bool.and_eq_true,decide_eq_true_eq,allB,List.all_eq_true,List.mem_range] at h
 obtain⟨i,hi,e⟩:=List.getElem_of_mem hx
 have:=h.2 i hi
 unfold ptAt fIn at this
 simp only [Bool.and_eq_true,decide_eq_true_eq] at this
 rw [getD_lt hi,e] at this
 exact this.2.1
theorem serOk_key {l:List Ser} (h:fSerOk l=true):∀x∈l,fKey x.1=true:=fun x hx=>by
 simp only [fSerOk,Bool.and_eq_true,decide_eq_true_eq,allB,List.all_eq_true,List.mem_range] at h
 obtain⟨i,hi,e⟩:=List.getElem_of_mem hx
 have:=h.2 i hi
 simp only [srAt,Bool.and_eq_true] at this
 rw [getD_lt hi,e] at this
 exact this.1
theorem serOk_of {l:List Ser} (h:AscS l) (h5:l.length≤5) (hx:∀x∈l,fKey x.1=true∧x.2≠[]∧fPtsOk x.2=true):fSerOk l=true:=by
 unfold fSerOk
 rw [Bool.and_eq_true,decide_eq_true_eq]
 refine⟨h5,all_yes fun j hj=>?_⟩
 have m:=hx _ (getD_mem (d:=(([],[]):Ser)) hj)
 unfold srAt
 simp only [Bool.and_eq_true,Bool.or_eq_true,decide_eq_true_eq]
 refine⟨m.1,?_,fun e=>m.2.1 (List.length_eq_zero_iff.1 e),m.2.2⟩
 by_cases e:j=0
 · exact .inl e
 · right
   exact asc_getD ([],[]) h (i:=j - 1) (j:=j) (by omega) hj
theorem cache_ok {e:Eng} (hc:SerR e.2.1) (ho:okF e.2.2=true) (hne:∀x∈e.2.1,x.2≠[]) (hf:∀x∈e.2.1,∀y∈x.2,e.1≤y.1) (hp:fSerOk (fPlainE e).1=true):fSerOk e.2.1=true:=by
 have hX:SerR (fLayers (fLay e.2.2)):=layers_R _ [] nil_R (fLay_R _)
 have hR:=plain_R hc
 have hin:∀x∈e.2.1,∀y∈x.2,y∈ptsOf (fPlainE e).1 x.1:=fun x hx y hy=>by
  have hX1:=fLaid_R hX hc.2
  rw [plainE_ok ho]
  simp only
  rw [(raised_pts hX1.1 _ _).1,fLaid_pts hX.1 (fun x hx=>(hc.2 x hx).1) hc.1,mem_fSlice,((mem_ptsOf hc.1).1 hx).2,mem_fMerge (hc.2 x hx).1]
  have h1:=(hc.2 x hx).2 y hy
  have h2:=hf x hx y hy
  exact⟨.inl hy,h2,by omega⟩
 have hm:∀x∈e.2.1,(x.1,ptsOf (fPlainE e).1 x.1)∈(fPlainE e).1:=fun x hx=>by
  obtain⟨y,hy⟩:=List.exists_mem_of_ne_nil _ (hne x hx)
  obtain⟨z,hz,e1,_⟩:=ptsOf_mem (hin x hx y hy)
  have:=((mem_ptsOf hR.1).1 hz).2
  rw [←e1,this];exact hz
 obtain⟨s1,s2,s3,s4⟩:=fSerOk_R hp
 refine serOk_of hc.1 ?_ fun x hx=>⟨serOk_key hp (x.1,ptsOf (fPlainE e).1 x.1) (hm x hx),hne x hx,?_⟩
 · have h1:Asc Op.bytesLess id (e.2.1.map Prod.fst):=List.pairwise_map.2 hc.1
   have h2:Asc Op.bytesLess id ((fPlainE e).1.map Prod.fst):=List.pairwise_map.2 hR.1
   have:=asc_sub strOrd h1 h2 fun k hk=>by
    obtain⟨x,hx,rfl⟩:=List.mem_map.1 hk
    exact List.mem_map.2 ⟨_,hm x hx,rfl⟩
   simp only [List.length_map] at this
   omega
 · have hq:=(s4 _ (hm x hx)).2.2
   have hr:=hc.2 x hx
   refine ptAt_of hr (fun y hy=>ptsOk_val hq y (hin x hx y hy)) ?_
   have h1:=asc_sub intOrd hr.1 (hR.2 _ (hm x hx)).1 (hin x hx)
   have h2:=(fPtsOk_R hq).2
   simp only at h1 h2
   omega
theorem low_of {e:Eng} (hc:SerR e.2.1) (h:fCont e.2.1 e=false):∀x∈e.2.1,∀y∈x.2,e.1≤y.1:=fun x hx y hy=>by
 have h1:=List.any_eq_false.1 h x hx
 unfold dLow at h1
 simp only [decide_eq_true_eq,Int.not_lt] at h1
 obtain⟨i,hi,e1⟩:=List.getElem_of_mem hy
 by_cases h0:i=0
 · subst h0
   rw [getD_lt hi,e1] at h1;exact h1
 · have:=asc_getD (0,0) (hc.2 x hx).1 (i:=0) (j:=i) (by omega) hi
   rw [getD_lt hi,e1] at this
   simp only [ltI,decide_eq_true_eq] at this
   omega
theorem put_good {e:Eng} {k:Str} {p:List Pt} (h:fEngOk e=true) (hq:pEng e) (hp:fPtsOk p=true) (hn:p≠[]) (hf:¬(p.getD 0 (0,0)).1<e.1):
 fLaid (fPlainE e).1 [(k,p)]=(fPlainE (eX e k p)).1∧(fSerOk (fPlainE (eX e k p)).1=true→Good 4 (eX e k p)):=by
 have G:=good_of h hq
 obtain⟨g1,g2,g3,g4⟩:=engOk_parts h
 obtain⟨k1,k2,k3,k4,k5⟩:=head_parts g1
 have hpR:=(fPtsOk_R hp).1
 have hpl:∀y∈p,e.1≤y.1:=fun y hy=>by
  obtain⟨i,hi,e1⟩:=List.getElem_of_mem hy
  by_cases h0:i=0
  · subst h0
    rw [getD_lt hi,e1] at hf;omega
  · have:=asc_getD (0,0) hpR.1 (i:=0) (j:=i) (by omega) hi
    rw [getD_lt hi,e1] at this
    simp only [ltI,decide_eq_true_eq] at this
    omega
 refine⟨put_plain G.R g2 hpR hn hpl,fun hs=>?_⟩
 have hS:∀x∈[((k,p):Ser)],PtsR x.2:=fun x hx=>by rw [List.mem_singleton.1 hx];exact hpR
 have hc2:SerR (eX e k p).2.1:=fLaid_R G.R hS
 have hlow:=low_of G.R k5
 have hmem:∀x∈(eX e k p).2.1,x.2≠[]∧∀y∈x.2,e.1≤y.1:=fun x hx=>by
  have hx':x∈lay1 e.2.1 (k,p):=hx
  rcases mem_lay1 hx' with h1 | rfl | ⟨z,hz,rfl⟩
  · exact⟨((fSerOk_R G.ca).2.2.2 x h1).2.1,hlow x h1⟩
  · exact⟨hn,hpl⟩
  · refine⟨fun e2=>?_,fun y hy=>?_⟩
    · obtain⟨y,hy⟩:=List.exists_mem_of_ne_nil p hn
      have:=(mem_fMerge (a:=z.2) hpR.1).2 (.inl hy)
      simp only at e2
      rw [e2] at this;cases this
    · rcases (mem_fMerge hpR.1).1 hy with h1 | ⟨h1,_⟩
      · exact hpl y h1
      · exact hlow z hz y h1
 exact⟨k1,cache_ok hc2 g2 (fun x hx=>(hmem x hx).1) (fun x hx=>(hmem x hx).2) hs,k4,g2,hs,hq.2⟩
def intoR (k:Str) (p:List Pt):Bool→List Ser→List Ser
 | put,[]=>if put then [] else [(k,p)]
 | put,x::l=>(if put=false∧Op.bytesLess k x.1=true then [(k,p)] else [])++((if x.1=k then (x.1,fMerge x.2 p) else x)::intoR k p (put||(Op.bytesLess k x.1||decide (x.1=k))) l)
def fInto (l:List Ser) (k:Str) (p:List Pt):List Ser:=intoR k p false l
theorem into_id {k:Str} {p:List Pt}:∀{l:List Ser},(∀x∈l,x.1≠k)→intoR k p true l=l
 | [],_=>rfl
 | x::l,h=>by
   have h1:=h x (by simp)
   simp only [intoR,if_neg h1,Bool.true_or,into_id (l:=l) fun y hy=>h y (by simp [hy])]
   simp
theorem into_lay {k:Str} {p:List Pt}:∀{l:List Ser},AscS l→fInto l k p=lay1 l (k,p)
 | [],_=>by simp [fInto,intoR,lay1,hasK,pos]
 | x::l,h=>by
   obtain⟨h1,h2⟩:=List.pairwise_cons.1 h
   have ih:=into_lay (k:=k) (p:=p) h2
   have ha:AscS (x::l):=h
   by_cases hx:Op.bytesLess k x.1=true
   · have hne:∀y∈x::l,y.1≠k:=fun y hy e=>by
      rcases List.mem_cons.1 hy with rfl | hy
      · rw [e,strOrd.irr] at hx;cases hx
      · have:=strOrd.tr _ _ _ hx (h1 y hy);rw [e,strOrd.irr] at this;cases this
     have hk:hasK (x::l) k=false:=by
      rw [Bool.eq_false_iff];intro hh
      obtain⟨z,hz,e⟩:=hasK_iff.1 hh
      exact hne z hz e
     have hxk:Op.bytesLess x.1 k=false:=by
      rw [Bool.eq_false_iff];intro hh
      have:=strOrd.tr _ _ _ hh hx;rw [strOrd.irr] at this;cases this
     have e1:pos Op.bytesLess Prod.fst k (x::l)=0:=by simp [pos,List.takeWhile_cons,hxk]
     have hid:intoR k p true l=l:=into_id fun y hy=>hne y (List.mem_cons_of_mem _ hy)
     unfold lay1
     simp only
     rw [if_neg (by rw [hk];decide),e1]
     simp only [fInto,intoR,hx,Bool.true_or,Bool.or_true,if_neg (hne x (by simp)),hid]
     simp
   · have hx':Op.bytesLess k x.1=false:=by simpa using hx
     by_cases he:x.1=k
     · subst he
       have hk:hasK (x::l) x.1=true:=by simp [hasK]
       have e1:pos Op.bytesLess Prod.fst x.1 (x::l)=0:=by simp [pos,List.takeWhile_cons,hx']
       have hne:∀y∈l,y.1≠x.1:=fun y hy e=>by have:=h1 y hy;rw [e,strOrd.irr] at this;cases this
       unfold lay1
       simp only
       rw [if_pos hk,e1]
       simp only [fInto,intoR,hx',decide_true,Bool.or_true,into_id hne]
       simp
     · have hxk:Op.bytesLess x.1 k=true:=by
        rcases strOrd.tri x.1 k with h3 | h3 | h3
        · exact h3
        · exact absurd h3 he
        · rw [hx'] at h3;cases h3
       have e0:fInto (x::l) k p=x::fInto l k p:=by
        simp only [fInto,intoR,hx',if_neg he,decide_eq_false he]
        simp
       have e1:pos Op.bytesLess Prod.fst k (x::l)=pos Op.bytesLess Prod.fst k l+1:=by simp [pos,List.takeWhile_cons,hxk]
       have e2:hasK (x::l) k=hasK l k:=by rw [hasK_cons];simp [he]
       rw [e0,ih]
       unfold lay1
       simp only
       rw [e2,e1]
       split<;>simp
def fPut (e:Eng) (k:Str) (p:List Pt):Eng×Int:=
 if fEngOk e=true then
  if fKey k=true∧fPtsOk p=true∧p≠[] then
   if (p.getD 0 (0,0)).1<e.1 then (e,2)
   else if fSerOk (fPlainE (eX e k p)).1=true then (if 40<fCnt (eX e k p).2.1 then fFl (eX e k p) else eX e k p,0)
   else (e,3)
  else (e,1)
 else (eng0,1)
def pInto (l:List Ser) (k:Str) (p:List Pt):Prop:=tot l≤100000000∧p.length≤100000000
structure itI (l:List Ser) (k:Str) (p:List Pt) (out:List Ser) (put:Bool) (i:Int):Prop where
 h1:0≤i
 h2:i≤l.length
 h3:out++intoR k p put (l.drop i.toNat)=fInto l k p
 h4:(out.length:Int)≤2*i
def itM (l:List Ser) (k:Str) (p:List Pt) (out:List Ser) (put:Bool) (i:Int):Nat:=(l.length - i).toNat
theorem it_step {l:List Ser} {k:Str} {p:List Pt} {out o':List Ser} {put put':Bool} {i:Int} (h:itI l k p out put i) (hi:i<l.length) (hl:(o'.length:Int)≤2*i+2) (he:∀r,o'++intoR k p put' r=out++intoR k p put (l.getD i.toNat ([],[])::r)):itI l k p o' put' (i+1):=by
 obtain⟨h1,h2,h3,h4⟩:=h
 refine⟨by omega,by omega,?_,by omega⟩
 rw [tn1 h1,he,←drop_getD ([],[]) (by omega)];exact h3
theorem it_end {l:List Ser} {k:Str} {p:List Pt} {out:List Ser} {put:Bool} {i:Int} (h:itI l k p out put i) (hi:¬i<l.length):(put=false→out++[(k,p)]=fInto l k p)∧(put=true→out=fInto l k p):=by
 obtain⟨h1,h2,h3,h4⟩:=h
 rw [show i.toNat=l.length by omega,List.drop_length] at h3
 refine⟨fun e=>?_,fun e=>?_⟩
 · subst e;simpa [intoR] using h3
 · subst e;simpa [intoR] using h3
theorem put_len {e:Eng} {k:Str} {p:List Pt} (hp:pEng e):tot (fPut e k p).1.2.1≤2000000∧(fPut e k p).1.2.2.length≤2000000:=by
 unfold fPut;split
 · rename_i h
   have G:=good_of h hp
   have g1:=fSerOk_R G.ca
   have g2:=G.le
   have same:tot e.2.1≤2000000∧e.2.2.length≤2000000:=⟨by omega,by omega⟩
   split
   · rename_i hq
     split
     · exact same
     · rename_i hf
       split
       · rename_i hs
         have X:=(put_good h hp hq.2.1 hq.2.2 hf).2 hs
         have x1:=fSerOk_R X.ca
         have x2:=X.le
         split
         · obtain⟨a1,a2,a3⟩:=good_fl X
           have:=a1.le
           simp only
           rw [a2];exact⟨by simp [tot,cL],by omega⟩
         · exact show tot (eX e k p).2.1≤2000000∧(eX e k p).2.2.length≤2000000 from⟨by omega,by omega⟩
       · exact same
   · exact same
 · simp [eng0,tot,cL]
end Go.Proofs.YtnoapekdbmpiaaaGreat.B
