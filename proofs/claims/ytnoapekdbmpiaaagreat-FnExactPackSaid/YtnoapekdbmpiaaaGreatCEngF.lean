/- Engines:what flushing and packing come to. -/
import Derived.Test.YtnoapekdbmpiaaaGreatCEngR
namespace Go.Proofs.YtnoapekdbmpiaaaGreat.B
set_option linter.unusedVariables false
set_option linter.unusedSimpArgs false
open Go Go.Proofs.YtnoapekdbmpiaaaGreat.Bv
def fOne (l:List Ser):List Str:=if l=[] then [] else [fFileText l]
def fFl1 (e:Eng):Eng:=if e.2.1=[] then e else (e.1,[],e.2.2++[fFileText e.2.1])
def fOneE (e:Eng):Eng:=(e.1,e.2.1,fOne (fPlainE e).1)
def fFl (e:Eng):Eng:=if 4<(fFl1 e).2.2.length then fOneE (fFl1 e) else fFl1 e
def eng0:Eng:=(0,[],[])
def fPack (e:Eng):Eng:=if fEngOk e=true then fOneE (fFl e) else eng0
structure Good (n:Nat) (e:Eng):Prop where
 fl:0≤e.1∧e.1≤1099511627776
 ca:fSerOk e.2.1=true
 le:e.2.2.length≤n
 ok:okF e.2.2=true
 pl:fSerOk (fPlainE e).1=true
 st:∀f∈e.2.2,pStr f
theorem good_of {e:Eng} (h:fEngOk e=true) (hp:pEng e):Good 4 e:=by
 obtain⟨g1,g2,g3,g4⟩:=engOk_parts h
 obtain⟨k1,k2,k3,k4,k5⟩:=head_parts g1
 exact⟨k1,k2,k4,g2,g4,hp.2⟩
theorem Good.R {n:Nat} {e:Eng} (h:Good n e):SerR e.2.1:=(fSerOk_R h.ca).1
theorem Good.E {n:Nat} {e:Eng} (h:Good n e) (hn:n≤5):pPlainE e:=by
 have:=fSerOk_R h.ca
 have:=h.le
 exact⟨h.st,h.R,by omega,by omega⟩
theorem readF_text {l:List Ser} (h:fSerOk l=true) (hn:l≠[]):fReadFile (fFileText l)=(l,true):=(readF_yes ⟨⟨h,hn⟩,rfl⟩).symm
theorem ser_pSer {l:List Ser} (h:fSerOk l=true):pSerOk l:=serKey fun x hx=>((fSerOk_R h).2.2.2 x hx).1
theorem ixF_length:∀(l:List Ser) (n:Nat),(∀x∈l,x.1.length≤8)→(ixF l n).length≤100*l.length
 | [],n,_=>by simp [ixF]
 | x::l,n,h=>by
   have h1:=ixF_length l (n+(fShowBlock x.2).length) fun y hy=>h y (by simp [hy])
   have h2:=h x (by simp)
   have v1:=fVar_length x.1.length
   have v2:=fVar_length n
   have v3:=fVar_length (fShowBlock x.2).length
   have v4:=fVar_length (x.2.getD 0 (0,0)).1
   have v5:=fVar_length (x.2.getD (x.2.length - 1) (0,0)).1
   rw [ixF,List.length_append,List.length_cons]
   simp only [ftPiece,List.length_append]
   omega
theorem text_length {l:List Ser} (h:fSerOk l=true):(fFileText l).length≤20000:=by
 by_cases hn:l=[]
 · subst hn;simp [fFileText]
 · have L:=RF.lay (s:=fFileText l) (l:=l) ⟨⟨h,hn⟩,rfl⟩
   have h1:=L.len
   have h2:=tF_length l
   have h3:=txF_length l
   have h4:=L.five
   have h5:=ixF_length l 4 fun x hx=>((fSerOk_R h).2.2.2 x hx).1
   omega
theorem text_str {l:List Ser} (h:fSerOk l=true):pStr (fFileText l):=Nat.le_trans (text_length h) (by decide)
theorem text_nil {l:List Ser} (h:fSerOk l=true):fFileText l=[]↔l=[]:=by
 constructor
 · intro e
   by_cases hn:l=[]
   · exact hn
   · have L:=RF.lay (s:=fFileText l) (l:=l) ⟨⟨h,hn⟩,rfl⟩
     have h1:=L.len
     rw [e] at h1;simp at h1
 · rintro rfl;simp [fFileText]
theorem fLay_app (a:List Str) (f:Str):fLay (a++[f])=fLay a++[(fReadFile f).1]:=by simp [fLay]
theorem fLayers_app (a:List (List Ser)) (l:List Ser):fLayers (a++[l])=fLaid (fLayers a) l:=by simp [fLayers,List.foldl_append]
theorem okF_app (a:List Str) (f:Str):okF (a++[f])=(okF a&&(fReadFile f).2):=by simp [okF,List.all_append]
theorem laid_nil (l:List Ser):fLaid l []=l:=rfl
theorem fLaid_has:∀{t l:List Ser},AscS l→(∀x∈t,AscP x.2)→∀k,hasK (fLaid l t) k=(hasK l k||hasK t k)
 | [],_,_,_,k=>by simp [fLaid,hasK]
 | s::t,l,h,ht,k=>by
   obtain⟨a1,a2,_⟩:=lay1_spec h (ht s (by simp))
   rw [fLaid_cons,fLaid_has a1 (fun x hx=>ht x (by simp [hx])),a2,hasK_cons,Bool.or_assoc]
theorem nil_laid {l:List Ser} (h:SerR l):fLaid [] l=l:=
 ser_ext (fLaid_R nil_R h.2).1 h.1 (fun k=>by rw [fLaid_has nil_R.1 (fun x hx=>(h.2 x hx).1)];rfl)
  (fun k=>by rw [fLaid_pts nil_R.1 (fun x hx=>(h.2 x hx).1) h.1,ptsOf_nil,nil_merge (ptsOf_R h.2 k).1])
theorem slice_slice (l:List Pt) (a b:Int):fSlice (fSlice l a b) a b=fSlice l a b:=by
 unfold fSlice;rw [List.filter_filter];simp
theorem raised_raised {l:List Ser} (h:SerR l) (f:Int):fRaised (fRaised l f) f=fRaised l f:=
 ser_ext (raised_asc (raised_asc h.1 f) f) (raised_asc h.1 f)
  (fun k=>by rw [(raised_pts (raised_asc h.1 f) f k).2,(raised_pts h.1 f k).1,slice_slice,(raised_pts h.1 f k).2])
  (fun k=>by rw [(raised_pts (raised_asc h.1 f) f k).1,(raised_pts h.1 f k).1,slice_slice])
theorem plainE_ok {e:Eng} (h:okF e.2.2=true):fPlainE e=(fRaised (fLaid (fLayers (fLay e.2.2)) e.2.1) e.1,true):=by unfold fPlainE;rw [if_pos h]
theorem good_fl1 {e:Eng} (h:Good 4 e):Good 5 (fFl1 e)∧(fFl1 e).2.1=[]∧fPlainE (fFl1 e)=fPlainE e:=by
 unfold fFl1
 split
 · rename_i hn
   exact⟨⟨h.fl,h.ca,Nat.le_succ_of_le h.le,h.ok,h.pl,h.st⟩,hn,rfl⟩
 · rename_i hn
   have hr:=readF_text h.ca hn
   have ho:okF (e.2.2++[fFileText e.2.1])=true:=by rw [okF_app,h.ok,hr];rfl
   have hp:fPlainE (e.1,[],e.2.2++[fFileText e.2.1])=fPlainE e:=by
    rw [plainE_ok (e:=(e.1,[],e.2.2++[fFileText e.2.1])) ho,plainE_ok h.ok]
    simp only
    rw [fLay_app,hr,fLayers_app,laid_nil]
   refine⟨⟨h.fl,rfl,?_,ho,?_,fun f hf=>?_⟩,rfl,hp⟩
   · have:=h.le;simp only [List.length_append,List.length_cons,List.length_nil];omega
   · rw [hp];exact h.pl
   · rcases List.mem_append.1 hf with hf | hf
     · exact h.st f hf
     · rw [List.mem_singleton.1 hf];exact text_str h.ca
theorem good_one {e:Eng} (h:Good 5 e) (hc:e.2.1=[]):Good 4 (fOneE e)∧(fOneE e).2.1=[]∧fPlainE (fOneE e)=fPlainE e:=by
 have hR:=plain_R h.R
 have hok:okF (fOne (fPlainE e).1)=true:=by
  unfold fOne;split
  · rfl
  · rename_i hn
    have:=readF_text h.pl hn
    simp [okF,this]
 have hp:fPlainE (fOneE e)=fPlainE e:=by
  rw [plainE_ok (e:=fOneE e) hok]
  have e0:=plainE_ok h.ok
  have e1:fLayers (fLay (fOne (fPlainE e).1))=(fPlainE e).1:=by
   unfold fOne;split
   · rename_i hn;rw [hn];rfl
   · rename_i hn
     have:=readF_text h.pl hn
     show fLayers [(fReadFile (fFileText (fPlainE e).1)).1]=_
     rw [this]
     show fLaid [] _=_
     exact nil_laid hR
  show (fRaised (fLaid (fLayers (fLay (fOne (fPlainE e).1))) e.2.1) e.1,true)=_
  rw [e1,hc,laid_nil]
  have e2:fRaised (fPlainE e).1 e.1=(fPlainE e).1:=by
   rw [e0]
   exact raised_raised (fLaid_R (layers_R _ [] nil_R (fLay_R _)) h.R.2) _
  rw [e2,e0]
 refine⟨⟨h.fl,h.ca,?_,hok,by rw [hp];exact h.pl,fun f hf=>?_⟩,hc,hp⟩
 · show (fOne (fPlainE e).1).length≤4
   unfold fOne;split<;>simp
 · have hf':f∈fOne (fPlainE e).1:=hf
   unfold fOne at hf'
   split at hf'
   · cases hf'
   · rw [List.mem_singleton.1 hf'];exact text_str h.pl
theorem good_fl {e:Eng} (h:Good 4 e):Good 4 (fFl e)∧(fFl e).2.1=[]∧fPlainE (fFl e)=fPlainE e:=by
 obtain⟨a,b,c⟩:=good_fl1 h
 unfold fFl
 split
 · obtain⟨d,e',f⟩:=good_one a b
   exact⟨d,e',f.trans c⟩
 · rename_i hn
   exact⟨⟨a.fl,a.ca,by omega,a.ok,a.pl,a.st⟩,b,c⟩
theorem Good.mono {n k:Nat} {e:Eng} (h:Good n e) (hk:n≤k):Good k e:=⟨h.fl,h.ca,Nat.le_trans h.le hk,h.ok,h.pl,h.st⟩
theorem good_spec {n:Nat} {e:Eng} (h:Good n e) (hn:n≤5):pLyr e∧fLyr e=(fLay e.2.2++[e.2.1],true)∧pPlS (fLay e.2.2++[e.2.1]) e.1∧fPlS (fLay e.2.2++[e.2.1]) e.1=(fPlainE e).1:=by
 have ht:=lays_tot e
 have hs:=fSerOk_R h.ca
 have hl:=h.le
 refine⟨⟨h.st,by omega⟩,layers_ok h.ok,?_,plS_E h.R h.ok⟩
 unfold pPlS;omega
theorem good_id {e:Eng} (h:Good 4 e):pIdE e:=by
 have:=fSerOk_R h.ca
 have:=h.le
 exact⟨by omega,by omega⟩
theorem pack_len {e:Eng} (hp:pEng e):tot (fPack e).2.1≤2000000∧(fPack e).2.2.length≤2000000:=by
 unfold fPack;split
 · rename_i h
   obtain⟨g1,g2,g3⟩:=good_fl (good_of h hp)
   obtain⟨a1,a2,a3⟩:=good_one (g1.mono (by omega)) g2
   have:=a1.le
   rw [a2];exact⟨by simp [tot,cL],by omega⟩
 · simp [eng0,tot,cL]
end Go.Proofs.YtnoapekdbmpiaaaGreat.B
