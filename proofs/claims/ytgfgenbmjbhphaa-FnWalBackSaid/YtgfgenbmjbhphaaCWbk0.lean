/- Logs that are written and read. -/
import Derived.Test.YtgfgenbmjbhphaaCChg1
import Derived.Test.YtgfgenbmjbhphaaCRBlk
namespace Go.Proofs.Ytgfgenbmjbhphaa.B
set_option linter.unusedVariables false
set_option linter.unusedSimpArgs false
open Go Go.Proofs.Ytgfgenbmjbhphaa.Bv
theorem readFixed_take {s t:List UInt8} (h:4≤s.length):fReadFixed (s++t) 4=fReadFixed s 4:=by
 unfold fReadFixed
 have e:(s++t).take (4:Int).toNat=s.take (4:Int).toNat:=List.take_append_of_le_length h
 by_cases h1:fIn 4 1 7=true∧(4:Int)≤s.length
 · rw [if_pos ⟨h1.1,by rw [List.length_append];omega⟩,if_pos h1,e]
 · exact absurd ⟨by decide,by omega⟩ h1
theorem fr_fixed {b:List UInt8} (h:1≤b.length∧b.length≤2000):fReadFixed (fFrame b) 4=((b.length:Int),true):=by
 have e:fFrame b=fFixed b.length 4++fFixed (fCrc (fFixed b.length 4++b)) 4++b:=by
  unfold fFrame;rw [if_pos (fIn_iff.2 (by omega))]
 have l1:(fFixed b.length 4).length=4:=by rw [fFixed4 h.2,toBytes_length,fx_length]
 have hl:=(unframe_frame h).1
 unfold fReadFixed
 rw [if_pos ⟨by decide,by omega⟩,e,List.append_assoc,show (4:Int).toNat=(fFixed b.length 4).length from l1.symm,List.take_left,fFixed4 h.2,be_fx 4 _ (by omega)]
theorem unframe_app {b:List UInt8} (h:1≤b.length∧b.length≤2000) (t:List UInt8):fUnframe (fFrame b++t)=(b,((b.length:Int)+8,0)):=by
 have hl:=(unframe_frame h).1
 have hu:=(unframe_frame h).2
 have hr:=fr_fixed h
 have hr2:fReadFixed (fFrame b++t) 4=((b.length:Int),true):=by rw [readFixed_take (by omega),hr]
 have e8:((b.length:Int)+8).toNat=(fFrame b).length:=by omega
 unfold fUnframe at hu ⊢
 rw [hr] at hu
 rw [hr2]
 simp only at hu ⊢
 rw [if_neg (by decide),if_neg (by rw [fIn_iff.2 (by omega)];decide),if_neg (by omega),e8,List.take_length] at hu
 rw [if_neg (by decide),if_neg (by rw [fIn_iff.2 (by omega)];decide),if_neg (by rw [List.length_append];omega),e8,List.take_left]
 exact hu
theorem unframe_cut {b:List UInt8} (h:1≤b.length∧b.length≤2000):fUnframe ((fFrame b).take ((fFrame b).length - 1))=([],(0,1)):=by
 have hl:=(unframe_frame h).1
 have hr:=fr_fixed h
 have e:fFrame b=(fFrame b).take ((fFrame b).length - 1)++(fFrame b).drop ((fFrame b).length - 1):=(List.take_append_drop ..).symm
 have h2:fReadFixed ((fFrame b).take ((fFrame b).length - 1)) 4=((b.length:Int),true):=by
  rw [←hr];conv=>rhs;rw [e]
  exact (readFixed_take (by rw [List.length_take];omega)).symm
 unfold fUnframe
 rw [h2]
 simp only
 rw [if_neg (by decide),if_neg (by rw [fIn_iff.2 (by omega)];decide),if_pos (by rw [List.length_take];omega)]
def fFramesN:Nat→List UInt8→List (List UInt8)×Int
 | 0,_=>([],0)
 | n+1,s=>if (fUnframe s).2.2=0 then ((fUnframe s).1::(fFramesN n (s.drop (fUnframe s).2.1.toNat)).1,(fUnframe s).2.1+(fFramesN n (s.drop (fUnframe s).2.1.toNat)).2) else ([],0)
def fFrames (s:List UInt8):List (List UInt8)×Int:=fFramesN s.length s
theorem un_zero {s:List UInt8} (h:(fUnframe s).2.2=0):9≤(fUnframe s).2.1∧(fUnframe s).2.1≤s.length∧(fUnframe s).2.1=(fUnframe s).1.length+8:=by
 rcases fUnframe_cases s with h2 | h2 | h2
 · rw [h2] at h;cases h
 · rw [h2] at h;cases h
 · omega
theorem frN_eq:∀(n m:Nat) (s:List UInt8),s.length≤n→s.length≤m→fFramesN n s=fFramesN m s
 | 0,0,_,_,_=>rfl
 | 0,m+1,s,h,_=>by
   rw [fFramesN,fFramesN,if_neg]
   intro hz
   have:=un_zero hz
   omega
 | n+1,0,s,_,h=>by
   rw [fFramesN,fFramesN,if_neg]
   intro hz
   have:=un_zero hz
   omega
 | n+1,m+1,s,h1,h2=>by
   rw [fFramesN,fFramesN]
   by_cases hz:(fUnframe s).2.2=0
   · have:=un_zero hz
     rw [if_pos hz,if_pos hz,frN_eq n m (s.drop (fUnframe s).2.1.toNat) (by rw [List.length_drop];omega) (by rw [List.length_drop];omega)]
   · rw [if_neg hz,if_neg hz]
theorem frames_eq (s:List UInt8):fFrames s=if (fUnframe s).2.2=0 then ((fUnframe s).1::(fFrames (s.drop (fUnframe s).2.1.toNat)).1,(fUnframe s).2.1+(fFrames (s.drop (fUnframe s).2.1.toNat)).2) else ([],0):=by
 unfold fFrames
 rw [frN_eq s.length (s.length+1) s (by omega) (by omega),fFramesN]
 by_cases hz:(fUnframe s).2.2=0
 · rw [if_pos hz,if_pos hz,frN_eq s.length (s.drop (fUnframe s).2.1.toNat).length _ (by rw [List.length_drop];omega) (by omega)]
 · rw [if_neg hz,if_neg hz]
def tot:List (List UInt8)→Int
 | []=>0
 | b::l=>(b.length:Int)+8+tot l
theorem tot_nn:∀l,0≤tot l
 | []=>by simp [tot]
 | b::l=>by have:=tot_nn l;simp only [tot];omega
theorem frN_tot:∀(n:Nat) (s:List UInt8),(fFramesN n s).2=tot (fFramesN n s).1∧tot (fFramesN n s).1≤s.length
 | 0,s=>by simp [fFramesN,tot]
 | n+1,s=>by
   rw [fFramesN]
   by_cases hz:(fUnframe s).2.2=0
   · rw [if_pos hz]
     obtain⟨h1,h2⟩:=frN_tot n (s.drop (fUnframe s).2.1.toNat)
     have:=un_zero hz
     simp only [tot]
     rw [List.length_drop] at h2
     omega
   · rw [if_neg hz];simp [tot]
theorem frames_tot (s:List UInt8):(fFrames s).2=tot (fFrames s).1∧tot (fFrames s).1≤s.length:=frN_tot _ _
def fRecsT:List Rec→List UInt8
 | []=>[]
 | r::l=>fFrame (fShowRec r)++fRecsT l
theorem recsT_app:∀l r:List Rec,fRecsT (l++r)=fRecsT l++fRecsT r
 | [],_=>rfl
 | x::l,r=>by rw [List.cons_append,fRecsT,fRecsT,recsT_app l r,List.append_assoc]
theorem recsT_len:∀l:List Rec,(fRecsT l).length≤2014*l.length
 | []=>by simp [fRecsT]
 | x::l=>by
   have:=recsT_len l
   have:=fFrame_length (fShowRec x)
   simp only [fRecsT,List.length_append,List.length_cons];omega
theorem showRec_len {r:Rec} (h:fRecOk r=true):1≤(fShowRec r).length∧(fShowRec r).length≤1000:=by
 obtain⟨_,_,_,_,h5⟩:=recOk_in h
 have v1:=fVar_length r.2.1
 have v2:=fVar_length r.2.2.1
 have v3:=fVar_length (r.2.2.2.1+1)
 have hb:(byteR r.1).length=1:=rfl
 unfold fShowRec
 rw [if_pos h]
 simp only [List.length_append];omega
theorem frames_recs {t:List UInt8} (ht:(fUnframe t).2.2≠0):∀l:List Rec,(∀r∈l,fRecOk r=true)→fFrames (fRecsT l++t)=(l.map fShowRec,((fRecsT l).length:Int))
 | [],_=>by rw [frames_eq,if_neg];· rfl
            exact ht
 | x::l,h=>by
   have hx:=showRec_len (h x (by simp))
   have hu:=unframe_app (b:=fShowRec x) (by omega) (fRecsT l++t)
   have hl:=(unframe_frame (b:=fShowRec x) (by omega)).1
   rw [fRecsT,List.append_assoc,frames_eq,hu,if_pos rfl]
   simp only
   rw [show ((fShowRec x).length+8:Int).toNat=(fFrame (fShowRec x)).length by omega,List.drop_left,frames_recs ht l fun r hr=>h r (by simp [hr])]
   simp only [List.map_cons,List.length_append]
   rw [hl]
   congr 1
def rpGo:Wal→Int→List (List UInt8)→Wal×Int
 | w,n,[]=>(w,n)
 | w,n,b::l=>if (fReadRec b).2=true∧(fWalStep w (fReadRec b).1).2=true then rpGo (fWalStep w (fReadRec b).1).1 (n+b.length+8) l else (w,n)
def rpStart (r:Rec):Wal:=(r.2.1,(-1,(r.2.2.1,(r.2.1,[]))))
def fReplay (s:List UInt8):Wal×(Int×Bool):=match (fFrames s).1 with
 | []=>(zWal,(0,false))
 | b::l=>if (fReadRec b).2=true∧(fReadRec b).1.1=4 then ((rpGo (rpStart (fReadRec b).1) (b.length+8) l).1,((rpGo (rpStart (fReadRec b).1) (b.length+8) l).2,true)) else (zWal,(0,false))
theorem rp_runs:∀(l:List Rec) (w v:Wal) (n:Int),runs w l=some v→rpGo w n (l.map fShowRec)=(v,n+tot (l.map fShowRec))
 | [],w,v,n,h=>by simp only [runs,Option.some.injEq] at h;subst h;simp [rpGo,tot]
 | r::l,w,v,n,h=>by
   rw [runs] at h
   split at h
   · rename_i hc
     have rs:=read_show hc.2
     simp only [List.map_cons,rpGo,rs]
     rw [if_pos ⟨trivial,hc.1⟩,rp_runs l _ v _ h]
     simp only [tot]
     congr 1;omega
   · cases h
def baseRec (w:Wal):Rec:=(4,(w.2.2.2.1,(w.2.2.1,(0,[]))))
def hardRec (w:Wal):Rec:=(1,(w.1,(0,(w.2.1,[]))))
def fWalRecs (w:Wal):List Rec:=[baseRec w,hardRec w]++fEntryRecs w.2.2.2.2 (w.2.2.1+1)
def fWalText (w:Wal):List UInt8:=if fWalOk w=true then fRecsT (fWalRecs w) else []
theorem base_ok {w:Wal} (h:fWalOk w=true):fRecOk (baseRec w)=true:=by
 obtain⟨h1,h2,h3,h4,h5,h6,h7⟩:=walOk_iff.1 h
 simp only [baseRec,fRecOk];simp [h3]
theorem hard_ok {w:Wal} (h:fWalOk w=true):fRecOk (hardRec w)=true:=by
 obtain⟨h1,h2,h3,h4,h5,h6,h7⟩:=walOk_iff.1 h
 show fRecOk (1,(w.1,(0,(w.2.1,[]))))=true
 simp only [fRecOk,fIsVote,fIn];simp;omega
theorem runs_ok:∀(l:List Rec) (w v:Wal),runs w l=some v→∀r∈l,fRecOk r=true
 | [],_,_,_,r,hr=>by cases hr
 | x::l,w,v,h,r,hr=>by
   rw [runs] at h
   split at h
   · rename_i hc
     rcases List.mem_cons.1 hr with e | e
     · subst e;exact hc.2
     · exact runs_ok l _ v h r e
   · cases h
theorem wal_runs {w:Wal} (h:fWalOk w=true) (n:Nat) (hn:n≤w.2.2.2.2.length):runs (rpStart (baseRec w)) (hardRec w::fEntryRecs (w.2.2.2.2.take n) (w.2.2.1+1))=some (w.1,(w.2.1,(w.2.2.1,(w.2.2.2.1,w.2.2.2.2.take n)))):=by
 obtain⟨h1,h2,h3,h4,h5,h6,h7⟩:=walOk_iff.1 h
 have hp:=fPlace_in h3
 have hw0:fWalOk (rpStart (baseRec w))=true:=by
  refine walOk_iff.2 ⟨?_,by simp [rpStart],h3,by simp [rpStart,baseRec],by simp [rpStart],fun j hj=>by simp [rpStart] at hj,by simp only [rpStart,baseRec,List.length_nil];omega⟩
  simp only [rpStart,baseRec]
  have:0≤w.2.2.2.1:=by simp [fPlace,fIn] at h3;omega
  omega
 have hst:fWalStep (rpStart (baseRec w)) (hardRec w)=((w.1,(w.2.1,(w.2.2.1,(w.2.2.2.1,[])))),true):=by
  unfold fWalStep
  rw [if_pos hw0,if_pos (hard_ok h),if_pos]
  · rfl
  · refine⟨rfl,?_⟩
    show fHardFits ((w.2.2.2.1,(-1,(w.2.2.1,(w.2.2.2.1,[])))):Wal) w.1 w.2.1=true
    simp only [fHardFits];simp;omega
 rw [runs,hst,if_pos ⟨rfl,hard_ok h⟩]
 have hw:=walOk_take h n (t:=w.1) (v:=w.2.1) (by omega) (by omega) h2
 have:=runs_entries hw n 0 (by simp only [List.length_take];omega)
 simp only [List.take_zero,List.drop_zero,Int.natCast_zero,Int.add_zero] at this
 exact this
theorem recs_ok {w:Wal} (h:fWalOk w=true) (n:Nat) (hn:n≤w.2.2.2.2.length):∀r∈[baseRec w,hardRec w]++fEntryRecs (w.2.2.2.2.take n) (w.2.2.1+1),fRecOk r=true:=fun r hr=>by
 have:=runs_ok _ _ _ (wal_runs h n hn)
 simp only [List.cons_append,List.nil_append,List.mem_cons] at hr this
 rcases hr with e | e
 · subst e;exact base_ok h
 · exact this r e
theorem recsT_tot:∀l:List Rec,(∀r∈l,fRecOk r=true)→((fRecsT l).length:Int)=tot (l.map fShowRec)
 | [],_=>rfl
 | x::l,h=>by
   have hx:=showRec_len (h x (by simp))
   have hl:=(unframe_frame (b:=fShowRec x) (by omega)).1
   have:=recsT_tot l fun r hr=>h r (by simp [hr])
   simp only [fRecsT,List.map_cons,tot,List.length_append]
   rw [hl];push_cast;omega
theorem replay_take {w:Wal} (h:fWalOk w=true) (n:Nat) (hn:n≤w.2.2.2.2.length) {t:List UInt8} (ht:(fUnframe t).2.2≠0):
 fReplay (fRecsT ([baseRec w,hardRec w]++fEntryRecs (w.2.2.2.2.take n) (w.2.2.1+1))++t)=((w.1,(w.2.1,(w.2.2.1,(w.2.2.2.1,w.2.2.2.2.take n)))),(((fRecsT ([baseRec w,hardRec w]++fEntryRecs (w.2.2.2.2.take n) (w.2.2.1+1))).length:Int),true)):=by
 have hr:=recs_ok h n hn
 unfold fReplay
 rw [frames_recs ht _ hr,recsT_tot _ hr]
 simp only [List.cons_append,List.nil_append,List.map_cons]
 rw [read_show (base_ok h),if_pos ⟨rfl,rfl⟩,←List.map_cons,rp_runs _ _ _ _ (wal_runs h n hn)]
 simp only [List.map_cons,tot]
theorem un_nil:(fUnframe []).2.2≠0:=by
 intro h
 have:=un_zero h
 simp at this;omega
theorem take_end {α:Type} (l r:List α) (h:r≠[]):(l++r).take ((l++r).length - 1)=l++r.take (r.length - 1):=by
 have:=List.length_pos_iff.2 h
 rw [List.take_append,List.length_append,List.take_of_length_le (by omega),show l.length+r.length - 1 - l.length=r.length - 1 by omega]
theorem walBack {w:Wal} (h:fWalOk w=true):fReplay (fWalText w)=(w,(((fWalText w).length:Int),true))∧0<(fWalText w).length:=by
 have e:fWalText w=fRecsT ([baseRec w,hardRec w]++fEntryRecs (w.2.2.2.2.take w.2.2.2.2.length) (w.2.2.1+1))++[]:=by
  unfold fWalText fWalRecs;rw [if_pos h,List.take_length,List.append_nil]
 have r:=replay_take h w.2.2.2.2.length (Nat.le_refl _) un_nil
 rw [←e] at r
 refine⟨?_,?_⟩
 · rw [r,List.take_length]
   rw [e,List.append_nil,List.take_length]
 · rw [e,List.append_nil]
   have hb:=showRec_len (base_ok h)
   have hl:=(unframe_frame (b:=fShowRec (baseRec w)) (by omega)).1
   simp only [List.cons_append,fRecsT,List.length_append];omega
theorem walCut {w:Wal} (h:fWalOk w=true):
 (w.2.2.2.2=[]→∃m y,fReplay ((fWalText w).take ((fWalText w).length - 1))=(y,(m,true))∧m<(fWalText w).length∧y.2.2.2.2=[])∧
 (w.2.2.2.2≠[]→∃m,fReplay ((fWalText w).take ((fWalText w).length - 1))=((w.1,(w.2.1,(w.2.2.1,(w.2.2.2.1,w.2.2.2.2.take (w.2.2.2.2.length - 1))))),(m,true))∧m<(fWalText w).length):=by
 refine⟨fun he=>?_,fun he=>?_⟩
 · have e:fWalText w=fRecsT [baseRec w]++fFrame (fShowRec (hardRec w)):=by
    unfold fWalText fWalRecs;rw [if_pos h,he];simp [fEntryRecs,fRecsT]
   have hx:=showRec_len (hard_ok h)
   have hl:=(unframe_frame (b:=fShowRec (hardRec w)) (by omega)).1
   have hc:=unframe_cut (b:=fShowRec (hardRec w)) (by omega)
   rw [e,take_end _ _ (fun hn=>by rw [hn] at hl;simp at hl),List.length_append]
   have hr:∀r∈[baseRec w],fRecOk r=true:=fun r hr=>by rw [List.mem_singleton.1 hr];exact base_ok h
   refine⟨(fShowRec (baseRec w)).length+8,rpStart (baseRec w),?_,?_,rfl⟩
   · unfold fReplay
     rw [frames_recs (by rw [hc];decide) _ hr]
     simp only [List.map_cons,List.map_nil]
     rw [read_show (base_ok h),if_pos ⟨rfl,rfl⟩]
     simp only [rpGo]
   · have:=recsT_tot _ hr
     simp only [List.map_cons,List.map_nil,tot] at this
     push_cast;omega
 · have hpos:=List.length_pos_iff.2 he
   have htk:=take_getD (0,[]) (show w.2.2.2.2.length - 1<w.2.2.2.2.length by omega)
   rw [show w.2.2.2.2.length - 1+1=w.2.2.2.2.length by omega,List.take_length] at htk
   have hok:=recs_ok h w.2.2.2.2.length (Nat.le_refl _)
   rw [List.take_length] at hok
   generalize hx:w.2.2.2.2.getD (w.2.2.2.2.length - 1) (0,[])=x at htk
   have er:fEntryRecs w.2.2.2.2 (w.2.2.1+1)=fEntryRecs (w.2.2.2.2.take (w.2.2.2.2.length - 1)) (w.2.2.1+1)++[(2,(x.1,(w.2.2.1+1+((w.2.2.2.2.length - 1:Nat):Int),(0,x.2))))]:=by
    conv=>lhs;rw [htk]
    rw [entryRecs_app,List.length_take]
    simp only [fEntryRecs]
    rw [show min (w.2.2.2.2.length - 1) w.2.2.2.2.length=w.2.2.2.2.length - 1 by omega]
   generalize hr:((2,(x.1,(w.2.2.1+1+((w.2.2.2.2.length - 1:Nat):Int),(0,x.2)))):Rec)=r at er
   have hrk:fRecOk r=true:=hok r (by rw [er];simp)
   have e:fWalText w=fRecsT ([baseRec w,hardRec w]++fEntryRecs (w.2.2.2.2.take (w.2.2.2.2.length - 1)) (w.2.2.1+1))++fFrame (fShowRec r):=by
    unfold fWalText fWalRecs;rw [if_pos h,er,←List.append_assoc,recsT_app]
    simp only [fRecsT,List.append_nil]
   have hs:=showRec_len hrk
   have hl:=(unframe_frame (b:=fShowRec r) (by omega)).1
   have hc:=unframe_cut (b:=fShowRec r) (by omega)
   rw [e,take_end _ _ (fun hn=>by rw [hn] at hl;simp at hl),List.length_append]
   refine⟨_,replay_take h (w.2.2.2.2.length - 1) (by omega) (by rw [hc];decide),?_⟩
   push_cast;omega
end Go.Proofs.Ytgfgenbmjbhphaa.B
