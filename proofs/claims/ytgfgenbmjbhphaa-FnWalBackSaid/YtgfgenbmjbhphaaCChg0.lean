/- Records that lead from one log to another. -/
import Derived.Test.YtgfgenbmjbhphaaCCore
import Derived.Test.YtgfgenbmjbhphaaCRd
namespace Go.Proofs.Ytgfgenbmjbhphaa.B
set_option linter.unusedVariables false
set_option linter.unusedSimpArgs false
open Go Go.Proofs.Ytgfgenbmjbhphaa.Bv
abbrev Rec:=Int×(Int×(Int×(Int×List UInt8)))
def fRecOk (r:Rec):Bool:=
 if r.1=1 then fIn r.2.1 0 100000&&(fIsVote r.2.2.2.1&&(decide (r.2.2.1=0)&&decide (r.2.2.2.2=[])))
 else if r.1=2 then fIsTerm r.2.1&&(fIn r.2.2.1 1 100000&&(decide (r.2.2.2.2.length≤900)&&decide (r.2.2.2.1=0)))
 else if r.1=3 then fIn r.2.2.1 1 100000&&(decide (r.2.1=0)&&(decide (r.2.2.2.1=0)&&decide (r.2.2.2.2=[])))
 else if r.1=4 then fPlace r.2.2.1 r.2.1&&(decide (r.2.2.2.1=0)&&decide (r.2.2.2.2=[]))
 else false
def byteR (k:Int):List UInt8:=List.map (fun n=>UInt8.ofNat (Int.toNat n)) [IntKind.wrap .u8 k]
def fShowRec (r:Rec):List UInt8:=if fRecOk r=true then byteR r.1++(fVar r.2.1++(fVar r.2.2.1++(fVar (r.2.2.2.1+1)++r.2.2.2.2))) else []
def decR (s:List UInt8):Rec×Rd:=(((fKind (s,true)).1,((fNum (fKind (s,true)).2).1,((fNum (fNum (fKind (s,true)).2).2).1,((fNum (fNum (fNum (fKind (s,true)).2).2).2).1 - 1,(fNum (fNum (fNum (fKind (s,true)).2).2).2).2.1)))),(fNum (fNum (fNum (fKind (s,true)).2).2).2).2)
def zRec:Rec:=(0,(0,(0,(0,[]))))
def fReadRec (s:List UInt8):Rec×Bool:=if (decR s).2.2=true∧fShowRec (decR s).1=s then ((decR s).1,true) else (zRec,false)
theorem num_enc2 {v:Int} (h:inVar v) (q:List UInt8):fNum (fVar v++q,true)=(v,(q,true)):=by
 have hp:=fVar_pos h
 have e:=rv_enc h q
 rw [num_yes (i:=(fVar v++q,true)) rfl (by rw [e];simp only;omega)]
 simp only
 rw [e]
 simp only [Int.toNat_natCast,List.drop_left]
theorem recOk_in {r:Rec} (h:fRecOk r=true):(1≤r.1∧r.1≤4)∧(0≤r.2.1∧r.2.1≤100000)∧(0≤r.2.2.1∧r.2.2.1≤100000)∧(-1≤r.2.2.2.1∧r.2.2.2.1≤4)∧r.2.2.2.2.length≤900:=by
 unfold fRecOk at h
 split at h
 · rename_i e;simp [fIn,fIsVote] at h;obtain⟨h1,h2,h3,h4⟩:=h;rw [h4];simp;omega
 · split at h
   · rename_i e;simp [fIn,fIsTerm] at h;omega
   · split at h
     · rename_i e;simp [fIn] at h;obtain⟨h1,h2,h3,h4⟩:=h;rw [h4];simp;omega
     · split at h
       · rename_i e;simp [fIn,fPlace] at h;obtain⟨h1,h2,h3⟩:=h;rw [h3];simp;omega
       · cases h
theorem read_show {r:Rec} (h:fRecOk r=true):fReadRec (fShowRec r)=(r,true):=by
 obtain⟨h1,h2,h3,h4,h5⟩:=recOk_in h
 have e:fShowRec r=byteR r.1++(fVar r.2.1++(fVar r.2.2.1++(fVar (r.2.2.2.1+1)++r.2.2.2.2))):=by unfold fShowRec;rw [if_pos h]
 have hb:∀q,fKind (byteR r.1++q,true)=(r.1,(q,true)):=fun q=>by
  rw [kind_at (by simp [byteR])]
  have:r.1=1∨r.1=2∨r.1=3∨r.1=4:=by omega
  rcases this with e | e | e | e<;>rw [e]<;>rfl
 have d:decR (fShowRec r)=(r,(r.2.2.2.2,true)):=by
  unfold decR
  rw [e,hb]
  simp only
  rw [num_enc2 (by unfold inVar;omega)]
  simp only
  rw [num_enc2 (by unfold inVar;omega)]
  simp only
  rw [num_enc2 (by unfold inVar;omega)]
  simp only
  rw [show r.2.2.2.1+1 - 1=r.2.2.2.1 by omega]
 unfold fReadRec
 rw [d]
 simp
def fHardFits (w:Wal) (t v:Int):Bool:=decide (t>w.1)||(decide (t=w.1)&&(decide (w.2.1= -1)||decide (w.2.1=v)))
def fLastTerm (w:Wal):Int:=if w.2.2.2.2.length=0 then w.2.2.2.1 else (w.2.2.2.2.getD (w.2.2.2.2.length - 1) (0,[])).1
def zWal:Wal:=(0,(0,(0,(0,[]))))
def fWalStep (w:Wal) (r:Rec):Wal×Bool:=
 if fWalOk w=true then
  if fRecOk r=true then
   if r.1=1∧fHardFits w r.2.1 r.2.2.2.1=true then ((r.2.1,(r.2.2.2.1,w.2.2)),true)
   else if r.1=2∧r.2.2.1=w.2.2.1+w.2.2.2.2.length+1∧w.2.2.2.2.length<60∧fIn r.2.1 (fLastTerm w) w.1=true then ((w.1,(w.2.1,(w.2.2.1,(w.2.2.2.1,w.2.2.2.2++[(r.2.1,r.2.2.2.2)])))),true)
   else if r.1=3∧fIn r.2.2.1 (w.2.2.1+1) (w.2.2.1+w.2.2.2.2.length)=true then ((w.1,(w.2.1,(w.2.2.1,(w.2.2.2.1,w.2.2.2.2.take (r.2.2.1 - w.2.2.1 - 1).toNat)))),true)
   else (w,false)
  else (w,false)
 else (zWal,false)
def samePre:List Ent→List Ent→Nat
 | a::l,b::r=>if a=b then samePre l r+1 else 0
 | _,_=>0
def fEntryRecs:List Ent→Int→List Rec
 | [],_=>[]
 | e::l,n=>(2,(e.1,(n,(0,e.2))))::fEntryRecs l (n+1)
def runs:Wal→List Rec→Option Wal
 | w,[]=>some w
 | w,r::l=>if (fWalStep w r).2=true∧fRecOk r=true then runs (fWalStep w r).1 l else none
theorem walOk_iff {w:Wal}:fWalOk w=true↔(0≤w.1∧w.1≤100000)∧(-1≤w.2.1∧w.2.1≤4)∧fPlace w.2.2.1 w.2.2.2.1=true∧w.2.2.2.1≤w.1∧w.2.2.2.2.length≤60∧(∀j,j<w.2.2.2.2.length→trAt w.2.2.2.2 w.2.2.2.1 w.1 j=true)∧w.2.2.1+w.2.2.2.2.length≤100000:=by
 simp only [fWalOk,fIn,fTermsOk,Bool.and_eq_true,decide_eq_true_eq,List.all_eq_true,List.mem_range]
theorem trAt_iff {l:List Ent} {low high:Int} {i:Nat}:trAt l low high i=true↔1≤(l.getD i (0,[])).1∧(tmOf l low i≤(l.getD i (0,[])).1∧(l.getD i (0,[])).1≤high)∧(l.getD i (0,[])).2.length≤900:=by
 simp only [trAt,fIn,Bool.and_eq_true,decide_eq_true_eq]
theorem getD_takeE {α:Type} {l:List α} {n i:Nat} {d:α} (h:i<n):(l.take n).getD i d=l.getD i d:=by
 simp only [List.getD_eq_getElem?_getD,List.getElem?_take,if_pos h]
theorem tr_take {l:List Ent} {low high high':Int} {n i:Nat} (h:trAt l low high i=true) (hi:i<n) (hh:high≤high'):trAt (l.take n) low high' i=true:=by
 rw [trAt_iff] at h ⊢
 have e:tmOf (l.take n) low i=tmOf l low i:=by
  unfold tmOf;split
  · rfl
  · rw [getD_takeE (by omega)]
 rw [getD_takeE hi,e]
 omega
theorem walOk_take {w:Wal} (h:fWalOk w=true) (n:Nat) {t v:Int} (ht:w.1≤t) (ht2:t≤100000) (hv:-1≤v∧v≤4):fWalOk (t,(v,(w.2.2.1,(w.2.2.2.1,w.2.2.2.2.take n))))=true:=by
 obtain⟨h1,h2,h3,h4,h5,h6,h7⟩:=walOk_iff.1 h
 refine walOk_iff.2 ⟨⟨by simp only;omega,ht2⟩,hv,h3,by simp only;omega,by simp only [List.length_take];omega,fun j hj=>?_,by simp only [List.length_take];omega⟩
 simp only [List.length_take] at hj
 exact tr_take (h6 j (by omega)) (by omega) ht
theorem last_take {w:Wal} (h:fWalOk w=true) {n:Nat} (hn:n<w.2.2.2.2.length):fLastTerm (w.1,(w.2.1,(w.2.2.1,(w.2.2.2.1,w.2.2.2.2.take n))))≤(w.2.2.2.2.getD n (0,[])).1:=by
 obtain⟨h1,h2,h3,h4,h5,h6,h7⟩:=walOk_iff.1 h
 have:=(trAt_iff.1 (h6 n hn)).2.1.1
 unfold fLastTerm
 simp only [List.length_take]
 unfold tmOf at this
 split
 · rename_i e
   rw [if_pos (by omega)] at this;exact this
 · rename_i e
   rw [show min n w.2.2.2.2.length - 1=n - 1 by omega,getD_takeE (by omega)]
   rw [if_neg (by omega)] at this;exact this
theorem runs_entries {b:Wal} (h:fWalOk b=true):∀(m n:Nat),n+m=b.2.2.2.2.length→runs (b.1,(b.2.1,(b.2.2.1,(b.2.2.2.1,b.2.2.2.2.take n)))) (fEntryRecs (b.2.2.2.2.drop n) (b.2.2.1+n+1))=some b
 | 0,n,hn=>by
   rw [show b.2.2.2.2.drop n=[] by rw [List.drop_eq_nil_iff];omega,List.take_of_length_le (by omega)];rfl
 | m+1,n,hn=>by
   obtain⟨h1,h2,h3,h4,h5,h6,h7⟩:=walOk_iff.1 h
   have hlt:n<b.2.2.2.2.length:=by omega
   have hp:=fPlace_in h3
   have ht:=trAt_iff.1 (h6 n hlt)
   have hl:=last_take h hlt
   have hw:=walOk_take h n (t:=b.1) (v:=b.2.1) (by omega) (by omega) h2
   have htk:=take_getD (0,[]) hlt
   rw [drop_getD (0,[]) hlt,fEntryRecs,runs]
   generalize b.2.2.2.2.getD n (0,[])=x at ht hl htk ⊢
   have hr:fRecOk (2,(x.1,(b.2.2.1+n+1,(0,x.2))))=true:=by
    simp only [fRecOk,fIsTerm,fIn];simp;omega
   have hs:fWalStep (b.1,(b.2.1,(b.2.2.1,(b.2.2.2.1,b.2.2.2.2.take n)))) (2,(x.1,(b.2.2.1+n+1,(0,x.2))))=((b.1,(b.2.1,(b.2.2.1,(b.2.2.2.1,b.2.2.2.2.take (n+1))))),true):=by
    unfold fWalStep
    rw [if_pos hw,if_pos hr,if_neg (by rintro⟨h,_⟩;cases h)]
    have e:(b.2.2.2.2.take n).length=n:=by rw [List.length_take];omega
    rw [if_pos]
    · simp only;rw [htk]
    · simp only [e]
      refine⟨trivial,trivial,by omega,?_⟩
      unfold fIn
      simp only [Bool.and_eq_true,decide_eq_true_eq]
      exact⟨hl,ht.2.1.2⟩
   rw [hs,if_pos ⟨rfl,hr⟩]
   have:=runs_entries h m (n+1) (by omega)
   rw [show b.2.2.1+((n+1:Nat):Int)+1=b.2.2.1+(n:Int)+1+1 by omega] at this
   exact this
end Go.Proofs.Ytgfgenbmjbhphaa.B
