/- Engines:right or not,in the reference. -/
import Derived.Test.YtnoapekdbmpiaaaGreatCEngB
set_option linter.unusedVariables false
set_option linter.unusedSimpArgs false
namespace Go.Proofs.YtnoapekdbmpiaaaGreat.B
open Go Go.Proofs.YtnoapekdbmpiaaaGreat.Bv
def fAt (l:List Ser) (k:List UInt8):Int:=if l.findIdx (fun x=>decide (x.1=k))<l.length then ((l.findIdx (fun x=>decide (x.1=k)):Nat):Int) else -1
def atI (l:List Ser) (k:List UInt8) (i:Int):Prop:=0≤i∧i≤l.length∧∀j,j<i.toNat→¬(l.getD j ([],[])).1=k
def atM (l:List Ser) (k:List UInt8) (i:Int):Nat:=(l.length - i).toNat
theorem at_yes {l:List Ser} {k:List UInt8} {i:Int} (h:atI l k i) (hi:i<l.length) (hd:(l.getD i.toNat ([],[])).1=k):i=fAt l k:=by
 obtain⟨h1,h2,h3⟩:=h
 have e:l.findIdx (fun x=>decide (x.1=k))=i.toNat:=by
  refine (List.findIdx_eq (by omega)).2 ⟨by rw [getD_lt (by omega)] at hd;simpa using hd,fun j hj=>?_⟩
  have:=h3 j hj
  rw [getD_lt (by omega)] at this;simpa using this
 unfold fAt
 rw [e,if_pos (by omega)];omega
theorem at_no {l:List Ser} {k:List UInt8} {i:Int} (h:atI l k i) (hi:¬i<l.length):-1=fAt l k:=by
 obtain⟨h1,h2,h3⟩:=h
 have e:¬l.findIdx (fun x=>decide (x.1=k))<l.length:=fun hlt=>by
  have a:=List.findIdx_getElem (w:=hlt)
  have b:=h3 (l.findIdx (fun x=>decide (x.1=k))) (by omega)
  rw [getD_lt hlt] at b
  exact b (by simpa using a)
 unfold fAt
 rw [if_neg e]
theorem find_pts {k:List UInt8}:∀(l:List Ser) (h:l.findIdx (fun x=>decide (x.1=k))<l.length),(l[l.findIdx (fun x=>decide (x.1=k))]).2=ptsOf l k
 | [],h=>by simp at h
 | x::l,h=>by
   rw [ptsOf_cons]
   by_cases hx:x.1=k
   · simp [List.findIdx_cons,hx]
   · have e:(x::l).findIdx (fun x=>decide (x.1=k))=l.findIdx (fun x=>decide (x.1=k))+1:=by simp [List.findIdx_cons,hx]
     have h':l.findIdx (fun x=>decide (x.1=k))<l.length:=by rw [e] at h;simpa using h
     simp only [e,if_neg hx,List.getElem_cons_succ]
     exact find_pts l h'
theorem at_pts (l:List Ser) (k:List UInt8):(fAt l k≥0→fAt l k<l.length∧(l.getD (fAt l k).toNat ([],[])).2=ptsOf l k)∧(¬fAt l k≥0→ptsOf l k=[]):=by
 unfold fAt
 by_cases h:l.findIdx (fun x=>decide (x.1=k))<l.length
 · rw [if_pos h]
   refine⟨fun _=>⟨by omega,?_⟩,fun h2=>absurd (by omega) h2⟩
   rw [Int.toNat_natCast,getD_lt h]
   exact find_pts l h
 · rw [if_neg h]
   refine⟨fun h2=>absurd h2 (by decide),fun _=>ptsOf_no ?_⟩
   rw [Bool.eq_false_iff];intro hh
   obtain⟨x,hx,e⟩:=hasK_iff.1 hh
   exact h (List.findIdx_lt_length_of_exists ⟨x,hx,by simpa using e⟩)
abbrev Str:=List UInt8
def nmP (key:Str):List Str→List Str
 | []=>[key]
 | x::l=>if Op.bytesLess key x=true then key::x::l else x::nmP key l
def fName (l:List Str) (key:Str):List Str:=if key∈l then l else nmP key l
def pName (l:List Str) (key:Str):Prop:=l.length≤100000000
def restN (key:Str) (put:Bool) (l:List Str):List Str:=if put then l else nmP key l
structure nmI (l:List Str) (key:Str) (put:Bool) (i:Int) (out:List Str):Prop where
 h1:0≤i
 h2:i≤l.length
 h3:out++restN key put (l.drop i.toNat)=nmP key l
 h4:(out.length:Int)≤i+1
 h5:put=false→(out.length:Int)≤i
 h6:∀j,j<i.toNat→¬l.getD j []=key
def nmM (l:List Str) (key:Str) (put:Bool) (i:Int) (out:List Str):Nat:=(l.length - i).toNat
def nmB (l:List Str) (key:Str) (put:Bool) (i:Int) (out r:List Str):Prop:=r=l∧nmI l key put i out
def nmN (l:List Str) (key:Str) (put:Bool) (i:Int) (out r:List Str):Nat:=nmM l key put i out
theorem nm_step {l:List Str} {key:Str} {put put':Bool} {i:Int} {out o':List Str} (h:nmI l key put i out) (hi:i<l.length) (hne:¬l.getD i.toNat []=key) (hl:(o'.length:Int)≤i+2∧(put'=false→(o'.length:Int)≤i+1))
 (he:∀r,o'++restN key put' r=out++restN key put (l.getD i.toNat []::r)):nmI l key put' (i+1) o':=by
 obtain⟨h1,h2,h3,h4,h5,h6⟩:=h
 refine⟨by omega,by omega,?_,by omega,hl.2,fun j hj=>?_⟩
 · rw [tn1 h1,he,←drop_getD [] (by omega)];exact h3
 · by_cases e:j=i.toNat
   · rw [e];exact hne
   · exact h6 j (by omega)
theorem nm_in {l:List Str} {key:Str} {put:Bool} {i:Int} {out:List Str} (h:nmI l key put i out) (hi:i<l.length) (he:l.getD i.toNat []=key):l=fName l key:=by
 have h1:=h.h1
 unfold fName
 rw [if_pos]
 rw [←he];exact getD_mem (by omega)
theorem nm_end {l:List Str} {key:Str} {put:Bool} {i:Int} {out:List Str} (h:nmI l key put i out) (hi:¬i<l.length):(put=true→out=fName l key)∧(put=false→out++[key]=fName l key):=by
 obtain⟨h1,h2,h3,h4,h5,h6⟩:=h
 have e:i.toNat=l.length:=by omega
 rw [e] at h6
 rw [e,List.drop_length] at h3
 have hn:¬key∈l:=fun hm=>by
  obtain⟨j,hj,e2⟩:=List.getElem_of_mem hm
  exact h6 j hj (by rw [getD_lt hj];exact e2)
 unfold fName
 rw [if_neg hn]
 refine⟨fun hp=>?_,fun hp=>?_⟩
 · rw [hp] at h3;simpa [restN] using h3
 · rw [hp] at h3;simpa [restN,nmP] using h3
theorem rn_no {k x:Str} {r:List Str} (h:Op.bytesLess k x=false):restN k false (x::r)=x::restN k false r:=by simp [restN,nmP,h]
theorem rn_yes {k x:Str} {r:List Str} (h:Op.bytesLess k x=true):restN k false (x::r)=k::restN k true (x::r):=by simp [restN,nmP,h]
theorem rn_t {k:Str} {r:List Str}:restN k true r=r:=rfl
def c_spec_l10At:Con:={A:=(.pair T15q .str),shA:=[.one,.one],R:=(.int .i64),shR:=[(false,1)],pre:=fun _ _=>True,f:=some fun _ a=>((fAt a.1 a.2),((),()))}
def spec_l10At.F (a0:U2q) (a1:U5q):Prop:=(eS [(0,.val false [.lst T3q a0 none]),(1,.val false [.str a1])] [(0,.val false [.lst T3q a0 none]),(1,.val false [.str a1])]∧((atI a0 a1 0)∧∀(y1:Int),(atI a0 a1 y1)→(caseB (decide (y1<(ln a0))) (0≤y1∧(y1<(ln a0)∧(caseB (((List.getD a0 (tN y1) ([],[])).1)==a1) (Eq (y1,((),())) ((fAt a0 a1),((),()))) (eS [(0,.val false [.lst T3q a0 none]),(1,.val false [.str a1])] [(0,.val false [.lst T3q a0 none]),(1,.val false [.str a1])]∧(atI a0 a1 (wI (y1+(1:Int))))∧(atM a0 a1 (wI (y1+(1:Int))))<(atM a0 a1 y1))))) (Eq ((-1),((),())) ((fAt a0 a1),((),()))))))
def spec_l10At.L (a0:U2q) (a1:U5q):Nat→Option LoopAnn:=fun p=>Go.Proofs.YtnoapekdbmpiaaaGreat.Bv.look p [(26,{kp:={hold:=[0,1],slots:=[5],boxes:=[],rows:=[]},T:=(.int .i64),I:=fun st y=>atI a0 a1 y,μ:=fun st y=>atM a0 a1 y})]
theorem spec_l10At.pure (a0:U2q) (a1:U5q) (h:True) (hw:Wf c_spec_l10At.A (a0,a1)):spec_l10At.F a0 a1:=by
 delta spec_l10At.F ln tN wI eS
 simp only [forall_eq,true_and,and_true,caseB_iff,Prod.mk.injEq,decide_eq_true_eq,decide_eq_false_iff_not,Bool.not_eq_true',Bool.not_eq_false',bne_iff_ne,ne_eq,beq_iff_eq,Bool.not_true,Bool.not_false,beq_eq_false_iff_ne,bne_eq_false_iff_eq,List.length_append,List.length_cons,List.length_nil,List.append_nil,Nat.zero_add,decide_true,decide_false,eq_self_iff_true]
 have hl:a0.length≤9223372036854775807:=hw.1.1
 refine⟨⟨by omega,by omega,fun j hj=>absurd hj (by simp)⟩,?_⟩
 rintro i hI
 have q1:=hI.1
 have q2:=hI.2.1
 refine⟨fun hi=>⟨q1,hi,fun hd=>at_yes hI hi hd,fun hd=>?_⟩,fun hi=>at_no hI hi⟩
 rw [w64 (x:=i+1) (by omega) (by omega)]
 refine⟨⟨by omega,by omega,fun j hj=>?_⟩,by unfold atM;omega⟩
 by_cases e:j=i.toNat
 · rw [e];exact hd
 · exact hI.2.2 j (by omega)
set_option maxRecDepth 100000 in
theorem spec_l10At.eq:EqS c_spec_l10At Tryz.f128 [3] [] [] (fun i x=>spec_l10At.L x.1 x.2) (fun i x=>spec_l10At.F x.1 x.2):=by intro i x;kernel_rfl
theorem spec_l10At.ok:ConOk Tryz.prog 128 c_spec_l10At:=okOf spec_l10At.eq Tryz.func128 rfl (by kernel_rfl) fun i x h hi hw=>spec_l10At.pure x.1 x.2 h hw
def spec_l10At.e:GE:=⟨128,c_spec_l10At,⟨_,Tryz.func128,rfl,rfl⟩,spec_l10At.ok⟩
def c_spec_l10Name:Con:={A:=(.pair (.list .str) .str),shA:=[.one,.one],ownA:=[(0,9)],R:=(.list .str),shR:=[(false,1)],fresh:=[(0,9)],pre:=fun _ a=>(pName a.1 a.2),f:=some fun _ a=>((fName a.1 a.2),((),()))}
def spec_l10Name.F (a0:(List U5q)) (a1:U5q):Prop:=(eS [(0,.val false [.own .str 1000003]),(1,.val false [.str a1])] [(0,.val false [.own .str 1000003]),(1,.val false [.str a1])]∧((nmB a0 a1 false 0 ([]:List U5q) a0)∧∀(y1:(Bool×(Int×((List U5q)×(List U5q))))),(nmB a0 a1 y1.1 y1.2.1 y1.2.2.1 y1.2.2.2)→(caseB (decide (y1.2.1<(ln y1.2.2.2))) (0≤y1.2.1∧(y1.2.1<(ln y1.2.2.2)∧(caseB ((List.getD y1.2.2.2 (tN y1.2.1) [])==a1) (Eq (y1.2.2.2,((),())) ((fName a0 a1),((),()))) (caseB (!y1.1) (0≤y1.2.1∧(y1.2.1<(ln y1.2.2.2)∧(caseB (Op.bytesLess a1 (List.getD y1.2.2.2 (tN y1.2.1) [])) (List.length y1.2.2.1+List.length [a1]≤9223372036854775807∧((List.length y1.2.2.1+List.length [a1])*16≤140737488355328∧(0≤y1.2.1∧(y1.2.1<(ln y1.2.2.2)∧(List.length (y1.2.2.1++[a1])+List.length [(List.getD y1.2.2.2 (tN y1.2.1) [])]≤9223372036854775807∧((List.length (y1.2.2.1++[a1])+List.length [(List.getD y1.2.2.2 (tN y1.2.1) [])])*16≤140737488355328∧(eS [(0,.val false [.own .str 1000003]),(1,.val false [.str a1])] [(0,.val false [.own .str 1000003]),(1,.val false [.str a1])]∧(nmB a0 a1 true (wI (y1.2.1+(1:Int))) ((y1.2.2.1++[a1])++[(List.getD y1.2.2.2 (tN y1.2.1) [])]) y1.2.2.2)∧(nmN a0 a1 true (wI (y1.2.1+(1:Int))) ((y1.2.2.1++[a1])++[(List.getD y1.2.2.2 (tN y1.2.1) [])]) y1.2.2.2)<(nmN a0 a1 y1.1 y1.2.1 y1.2.2.1 y1.2.2.2)))))))) (0≤y1.2.1∧(y1.2.1<(ln y1.2.2.2)∧(List.length y1.2.2.1+List.length [(List.getD y1.2.2.2 (tN y1.2.1) [])]≤9223372036854775807∧((List.length y1.2.2.1+List.length [(List.getD y1.2.2.2 (tN y1.2.1) [])])*16≤140737488355328∧(eS [(0,.val false [.own .str 1000003]),(1,.val false [.str a1])] [(0,.val false [.own .str 1000003]),(1,.val false [.str a1])]∧(nmB a0 a1 y1.1 (wI (y1.2.1+(1:Int))) (y1.2.2.1++[(List.getD y1.2.2.2 (tN y1.2.1) [])]) y1.2.2.2)∧(nmN a0 a1 y1.1 (wI (y1.2.1+(1:Int))) (y1.2.2.1++[(List.getD y1.2.2.2 (tN y1.2.1) [])]) y1.2.2.2)<(nmN a0 a1 y1.1 y1.2.1 y1.2.2.1 y1.2.2.2))))))))) (0≤y1.2.1∧(y1.2.1<(ln y1.2.2.2)∧(List.length y1.2.2.1+List.length [(List.getD y1.2.2.2 (tN y1.2.1) [])]≤9223372036854775807∧((List.length y1.2.2.1+List.length [(List.getD y1.2.2.2 (tN y1.2.1) [])])*16≤140737488355328∧(eS [(0,.val false [.own .str 1000003]),(1,.val false [.str a1])] [(0,.val false [.own .str 1000003]),(1,.val false [.str a1])]∧(nmB a0 a1 y1.1 (wI (y1.2.1+(1:Int))) (y1.2.2.1++[(List.getD y1.2.2.2 (tN y1.2.1) [])]) y1.2.2.2)∧(nmN a0 a1 y1.1 (wI (y1.2.1+(1:Int))) (y1.2.2.1++[(List.getD y1.2.2.2 (tN y1.2.1) [])]) y1.2.2.2)<(nmN a0 a1 y1.1 y1.2.1 y1.2.2.1 y1.2.2.2)))))))))) (caseB (!y1.1) (List.length y1.2.2.1+List.length [a1]≤9223372036854775807∧((List.length y1.2.2.1+List.length [a1])*16≤140737488355328∧(Eq ((y1.2.2.1++[a1]),((),())) ((fName a0 a1),((),()))))) (Eq (y1.2.2.1,((),())) ((fName a0 a1),((),())))))))
def spec_l10Name.L (a0:(List U5q)) (a1:U5q):Nat→Option LoopAnn:=fun p=>Go.Proofs.YtnoapekdbmpiaaaGreat.Bv.look p [(122,{kp:={hold:=[0,1],slots:=[5,6,7],boxes:=[],rows:=[{bx:=false,s:=5,i:=0,k:=1000643,e:=9,hot:=true},{bx:=false,s:=0,i:=0,k:=1000003,e:=9,hot:=true}]},T:=(.pair .bool (.pair (.int .i64) (.pair (.list .str) (.list .str)))),I:=fun st y=>nmB a0 a1 y.1 y.2.1 y.2.2.1 y.2.2.2,μ:=fun st y=>nmN a0 a1 y.1 y.2.1 y.2.2.1 y.2.2.2})]
theorem spec_l10Name.pure (a0:(List U5q)) (a1:U5q) (h:(pName a0 a1)) (hw:Wf c_spec_l10Name.A (a0,a1)):spec_l10Name.F a0 a1:=by
 delta spec_l10Name.F ln tN wI eS
 simp only [forall_eq,true_and,and_true,caseB_iff,Prod.mk.injEq,decide_eq_true_eq,decide_eq_false_iff_not,Bool.not_eq_true',Bool.not_eq_false',bne_iff_ne,ne_eq,beq_iff_eq,Bool.not_true,Bool.not_false,beq_eq_false_iff_ne,bne_eq_false_iff_eq,List.length_append,List.length_cons,List.length_nil,List.append_nil,Nat.zero_add,decide_true,decide_false,eq_self_iff_true]
 have hl:a0.length≤100000000:=h
 refine⟨⟨rfl,⟨by omega,by omega,by simp [restN],by simp,by simp,fun j hj=>absurd hj (by simp)⟩⟩,?_⟩
 rintro⟨put,i,out,r⟩ ⟨hr,hI⟩
 simp only at hr hI ⊢
 subst hr
 have q1:=hI.h1
 have q2:=hI.h2
 have q4:=hI.h4
 have q5:=hI.h5
 have hen:=nm_end hI
 refine⟨fun hi=>⟨q1,hi,fun he=>nm_in hI hi he,fun he=>?_⟩,fun hi=>?_⟩
 · have st:∀{put' o'},_→_→nmB r a1 put' (i+1) o' r:=fun h2 h3=>⟨rfl,nm_step hI hi he h2 h3⟩
   have dn:∀o p,nmN r a1 p (i+1) o r<nmN r a1 put i out r:=fun o p=>by unfold nmN nmM;omega
   generalize hx:r.getD i.toNat []=x at st ⊢
   rw [w64 (x:=i+1) (by omega) (by omega)]
   repeat' (with_reducible (first | (refine And.intro ?_ ?_) | intro _))
   all_goals (try simp (disch:=omega) only [w64,List.length_append,List.length_cons,List.length_nil] at*)
   all_goals (first
    | omega
    | exact dn _ _
    | (refine st (by (try simp only [List.length_append,List.length_cons,List.length_nil]);(try have:=q5 ‹_›);(first | omega | (refine ⟨by omega,fun hh=>?_⟩;first | omega | (have:=q5 hh;omega) | (exfalso;simp_all;done)))) fun r=>?_;(try rw [‹put=true›]);(try rw [‹put=false›]);(try simp only [List.append_assoc,List.cons_append,List.nil_append,rn_t]);first | done | rw [rn_yes ‹Op.bytesLess a1 x=true›,rn_t] | rw [rn_no ‹Op.bytesLess a1 x=false›] | rfl)
    | skip)
 · repeat' (with_reducible (first | (refine And.intro ?_ ?_) | intro _))
   all_goals (try simp (disch:=omega) only [w64,List.length_append,List.length_cons,List.length_nil] at*)
   all_goals (first | omega | exact (hen hi).1 ‹_› | exact (hen hi).2 ‹_› | skip)
set_option maxRecDepth 100000 in
theorem spec_l10Name.eq:EqS c_spec_l10Name Tryz.f174 [23] [] [] (fun i x=>spec_l10Name.L x.1 x.2) (fun i x=>spec_l10Name.F x.1 x.2):=by intro i x;kernel_rfl
theorem spec_l10Name.ok:ConOk Tryz.prog 174 c_spec_l10Name:=okOf spec_l10Name.eq Tryz.func174 rfl (by kernel_rfl) fun i x h hi hw=>spec_l10Name.pure x.1 x.2 h hw
def spec_l10Name.e:GE:=⟨174,c_spec_l10Name,⟨_,Tryz.func174,rfl,rfl⟩,spec_l10Name.ok⟩
def fKeysL (o:List Str) (l:List Ser):List Str:=l.foldl (fun o x=>fName o x.1) o
def fKeys (ls:List (List Ser)):List Str:=ls.foldl fKeysL []
def pKeys (ls:List (List Ser)):Prop:=cL tot ls≤10000000
theorem totL_pos (ls:List (List Ser)):0≤cL tot ls:=cL_pos tot_pos ls
theorem len_totL {ls:List (List Ser)}:∀{i:Nat},i<ls.length→tot (ls.getD i [])+cL tot (ls.take i)≤cL tot ls:=fun {i} hi=>by
 have a:=(cL_split tot [] hi).2
 have b:=totL_pos (ls.drop (i+1))
 omega
theorem nmP_length (k:Str):∀l,(nmP k l).length=l.length+1
 | []=>rfl
 | x::l=>by rw [nmP];split<;>simp [nmP_length k l]
theorem fName_length (l:List Str) (k:Str):(fName l k).length≤l.length+1:=by
 unfold fName;split
 · omega
 · rw [nmP_length];omega
theorem fKeysL_length:∀(l:List Ser) (o:List Str),(fKeysL o l).length≤o.length+l.length
 | [],o=>by simp [fKeysL]
 | x::l,o=>by
   have h1:=fKeysL_length l (fName o x.1)
   have h2:=fName_length o x.1
   show (fKeysL (fName o x.1) l).length≤_
   rw [List.length_cons];omega
structure kyI (ls:List (List Ser)) (i:Int) (out:List Str):Prop where
 h1:0≤i
 h2:i≤ls.length
 h3:out=fKeys (ls.take i.toNat)
 h4:(out.length:Int)≤cL tot (ls.take i.toNat)
def kyM (ls:List (List Ser)) (i:Int) (out:List Str):Nat:=(ls.length - i).toNat
structure kzI (ls:List (List Ser)) (i k:Int) (out:List Str):Prop where
 h1:0≤i
 h2:i<ls.length
 h3:0≤k
 h4:k≤(ls.getD i.toNat []).length
 h5:out=fKeysL (fKeys (ls.take i.toNat)) ((ls.getD i.toNat []).take k.toNat)
 h6:(out.length:Int)≤cL tot (ls.take i.toNat)+k
def kzM (ls:List (List Ser)) (i k:Int) (out:List Str):Nat:=((ls.getD i.toNat []).length - k).toNat
theorem kz_zero {ls:List (List Ser)} {i:Int} {out:List Str} (h:kyI ls i out) (hi:i<ls.length):kzI ls i 0 out:=by
 obtain⟨h1,h2,h3,h4⟩:=h
 exact⟨h1,hi,by omega,by omega,by simpa [fKeysL] using h3,by omega⟩
theorem kz_step {ls:List (List Ser)} {k i:Int} {out:List Str} (h:kzI ls i k out) (hk:k<(ls.getD i.toNat []).length):kzI ls i (k+1) (fName out ((ls.getD i.toNat []).getD k.toNat ([],[])).1):=by
 obtain⟨h1,h2,h3,h4,h5,h6⟩:=h
 have:=fName_length out ((ls.getD i.toNat []).getD k.toNat ([],[])).1
 refine⟨h1,h2,by omega,by omega,?_,by omega⟩
 rw [tn1 h3,take_getD ([],[]) (by omega),h5]
 simp only [fKeysL,List.foldl_append,List.foldl_cons,List.foldl_nil]
theorem kz_end {ls:List (List Ser)} {k i:Int} {out:List Str} (h:kzI ls i k out) (hk:¬k<(ls.getD i.toNat []).length):kyI ls (i+1) out:=by
 obtain⟨h1,h2,h3,h4,h5,h6⟩:=h
 have e:k.toNat=(ls.getD i.toNat []).length:=by omega
 have a:=(cL_split tot [] (by omega:i.toNat<ls.length)).1
 have b:=len_tot (ls.getD i.toNat [])
 rw [e,List.take_length] at h5
 refine⟨by omega,by omega,?_,by rw [tn1 h1,a];omega⟩
 rw [tn1 h1,take_getD [] (by omega),h5]
 simp only [fKeys,List.foldl_append,List.foldl_cons,List.foldl_nil]
theorem ky_end {ls:List (List Ser)} {i:Int} {out:List Str} (h:kyI ls i out) (hi:¬i<ls.length):out=fKeys ls:=by
 obtain⟨h1,h2,h3,h4⟩:=h
 rw [h3,show i.toNat=ls.length by omega,List.take_length]
def c_spec_l10Keys:Con:={A:=(.list T15q),shA:=[.one],R:=(.list .str),shR:=[(false,1)],fresh:=[(0,9)],pre:=fun _ a=>(pKeys a),f:=some fun _ a=>((fKeys a),((),()))}
def spec_l10Keys.F (a0:(List U2q)):Prop:=(eS [(0,.val false [.lst T15q a0 none])] [(0,.val false [.lst T15q a0 none])]∧((kyI a0 0 ([]:List U5q))∧∀(y1:(Int×(List U5q))),(kyI a0 y1.1 y1.2)→(caseB (decide (y1.1<(ln a0))) (eS [(0,.val false [.lst T15q a0 none]),(4,.val false [.int .i64 y1.1])] [(0,.val false [.lst T15q a0 none]),(4,.val false [.int .i64 y1.1])]∧((kzI a0 y1.1 0 y1.2)∧∀(y2:(Int×(List U5q))),(kzI a0 y1.1 y2.1 y2.2)→(0≤y1.1∧(y1.1<(ln a0)∧(caseB (decide (y2.1<(ln (List.getD a0 (tN y1.1) [])))) (0≤y1.1∧(y1.1<(ln a0)∧(0≤y2.1∧(y2.1<(ln (List.getD a0 (tN y1.1) []))∧((pName y2.2 ((List.getD (List.getD a0 (tN y1.1) []) (tN y2.1) ([],[])).1))∧∀r3,(Eq r3 ((fName y2.2 ((List.getD (List.getD a0 (tN y1.1) []) (tN y2.1) ([],[])).1)),((),())))→(eS [(0,.val false [.lst T15q a0 none]),(4,.val false [.int .i64 y1.1])] [(0,.val false [.lst T15q a0 none]),(4,.val false [.int .i64 y1.1])]∧(kzI a0 y1.1 (wI (y2.1+(1:Int))) r3.1)∧(kzM a0 y1.1 (wI (y2.1+(1:Int))) r3.1)<(kzM a0 y1.1 y2.1 y2.2))))))) (eS [(0,.val false [.lst T15q a0 none])] [(0,.val false [.lst T15q a0 none])]∧(kyI a0 (wI (y1.1+(1:Int))) y2.2)∧(kyM a0 (wI (y1.1+(1:Int))) y2.2)<(kyM a0 y1.1 y1.2))))))) (Eq (y1.2,((),())) ((fKeys a0),((),()))))))
def spec_l10Keys.L (a0:(List U2q)):Nat→Option LoopAnn:=fun p=>Go.Proofs.YtnoapekdbmpiaaaGreat.Bv.look p [(58,{kp:={hold:=[0],slots:=[3,4],boxes:=[],rows:=[{bx:=false,s:=3,i:=0,k:=1000387,e:=9,hot:=true}]},T:=(.pair (.int .i64) (.list .str)),I:=fun st y=>kyI a0 y.1 y.2,μ:=fun st y=>kyM a0 y.1 y.2}),(3730,{kp:={hold:=[0,4],slots:=[3,5],boxes:=[],rows:=[{bx:=false,s:=3,i:=0,k:=1000387,e:=9,hot:=true}]},T:=(.pair (.int .i64) (.list .str)),I:=fun st y=>kzI a0 (intC (cellAt st 4 0)) y.1 y.2,μ:=fun st y=>kzM a0 (intC (cellAt st 4 0)) y.1 y.2})]
theorem spec_l10Keys.pure (a0:(List U2q)) (h:(pKeys a0)) (hw:Wf c_spec_l10Keys.A a0):spec_l10Keys.F a0:=by
 delta spec_l10Keys.F ln tN wI eS
 simp only [forall_eq,true_and,and_true,caseB_iff,Prod.mk.injEq,decide_eq_true_eq,decide_eq_false_iff_not,Bool.not_eq_true',Bool.not_eq_false',bne_iff_ne,ne_eq,beq_iff_eq,Bool.not_true,Bool.not_false,beq_eq_false_iff_ne,bne_eq_false_iff_eq,List.length_append,List.length_cons,List.length_nil,List.append_nil,Nat.zero_add,decide_true,decide_false,eq_self_iff_true,pName]
 have hn:cL tot a0≤10000000:=h
 have hl:a0.length≤9223372036854775807:=hw.1
 refine⟨⟨by omega,by omega,rfl,by simp [cL]⟩,?_⟩
 rintro⟨i,out⟩ hI
 simp only at hI ⊢
 have q1:=hI.h1
 have q2:=hI.h2
 refine⟨fun hi=>⟨kz_zero hI hi,?_⟩,fun hi=>ky_end hI hi⟩
 rintro⟨k,o⟩ hK
 simp only at hK ⊢
 have z3:=hK.h3
 have z4:=hK.h4
 have z6:=hK.h6
 have hb:=len_totL (ls:=a0) (i:=i.toNat) (by omega)
 have hb2:=len_tot (a0.getD i.toNat [])
 have hb3:=totL_pos (a0.take i.toNat)
 refine⟨q1,hi,fun hk=>?_,fun hk=>?_⟩
 · rw [w64 (x:=k+1) (by omega) (by omega)]
   exact⟨q1,hi,z3,hk,by omega,kz_step hK hk,by unfold kzM;omega⟩
 · rw [w64 (x:=i+1) (by omega) (by omega)]
   exact⟨kz_end hK hk,by unfold kyM;omega⟩
set_option maxRecDepth 100000 in
theorem spec_l10Keys.eq:EqS c_spec_l10Keys Tryz.f138 [23] [spec_l10Name.e] [] (fun i x=>spec_l10Keys.L x) (fun i x=>spec_l10Keys.F x):=by intro i x;kernel_rfl
theorem spec_l10Keys.ok:ConOk Tryz.prog 138 c_spec_l10Keys:=okOf spec_l10Keys.eq Tryz.func138 rfl (by kernel_rfl) fun i x h hi hw=>spec_l10Keys.pure x h hw
def spec_l10Keys.e:GE:=⟨138,c_spec_l10Keys,⟨_,Tryz.func138,rfl,rfl⟩,spec_l10Keys.ok⟩
def okOne (f:Str):Bool:=(fReadFile f).2
def fLyr (e:Eng):List (List Ser)×Bool:=if okF e.2.2=true then (fLay e.2.2++[e.2.1],true) else (fLay (e.2.2.takeWhile okOne),false)
def pLyr (e:Eng):Prop:=(∀f∈e.2.2,pStr f)∧e.2.2.length≤1000
structure lyI (e:Eng) (out:List (List Ser)) (i:Int) (fl:Int) (ca:List Ser) (fi:List Str):Prop where
 h0:((fl,(ca,fi)):Eng)=e
 h1:0≤i
 h2:i≤e.2.2.length
 h3:out=fLay (e.2.2.take i.toNat)
 h4:∀j,j<i.toNat→okOne (e.2.2.getD j [])=true
def lyM (e:Eng) (out:List (List Ser)) (i:Int) (fl:Int) (ca:List Ser) (fi:List Str):Nat:=(e.2.2.length - i).toNat
theorem fLay_length (l:List Str):(fLay l).length=l.length:=by simp [fLay]
theorem ly_step {e:Eng} {i fl:Int} {ca:List Ser} {fi:List Str} {out:List (List Ser)} (h:lyI e out i fl ca fi) (hi:i<e.2.2.length) (hr:(fReadFile (e.2.2.getD i.toNat [])).2=true):lyI e (out++[(fReadFile (e.2.2.getD i.toNat [])).1]) (i+1) fl ca fi:=by
 obtain⟨h0,h1,h2,h3,h4⟩:=h
 refine⟨h0,by omega,by omega,?_,fun j hj=>?_⟩
 · rw [tn1 h1,take_getD [] (by omega),h3];simp [fLay]
 · by_cases ej:j=i.toNat
   · rw [ej];exact hr
   · exact h4 j (by omega)
theorem takeWhile_at {p:Str→Bool}:∀{l:List Str} {i:Nat},i<l.length→(∀j,j<i→p (l.getD j [])=true)→p (l.getD i [])=false→l.takeWhile p=l.take i
 | [],i,h,_,_=>by simp at h
 | x::l,0,h,_,h2=>by
   have:p x=false:=by simpa using h2
   simp [List.takeWhile_cons,this]
 | x::l,i+1,h,h1,h2=>by
   have h0:p x=true:=by simpa using h1 0 (by omega)
   rw [List.takeWhile_cons,if_pos h0,List.take_succ_cons,takeWhile_at (l:=l) (i:=i) (by simpa using h) (fun j hj=>by simpa using h1 (j+1) (by omega)) (by simpa using h2)]
theorem ly_no {e:Eng} {i fl:Int} {ca:List Ser} {fi:List Str} {out:List (List Ser)} (h:lyI e out i fl ca fi) (hi:i<e.2.2.length) (hr:(fReadFile (e.2.2.getD i.toNat [])).2=false):(out,false)=fLyr e:=by
 obtain⟨h0,h1,h2,h3,h4⟩:=h
 have hm:=getD_mem (d:=([]:Str)) (by omega:i.toNat<e.2.2.length)
 unfold fLyr
 rw [if_neg (fun hh=>by have:=List.all_eq_true.1 hh _ hm;rw [hr] at this;cases this),takeWhile_at (p:=okOne) (by omega) h4 hr,h3]
theorem ly_end {e:Eng} {i fl:Int} {ca:List Ser} {fi:List Str} {out:List (List Ser)} (h:lyI e out i fl ca fi) (hi:¬i<e.2.2.length):(out++[e.2.1],true)=fLyr e:=by
 obtain⟨h0,h1,h2,h3,h4⟩:=h
 have e1:i.toNat=e.2.2.length:=by omega
 rw [e1] at h4
 rw [e1,List.take_length] at h3
 unfold fLyr
 rw [if_pos,h3]
 refine List.all_eq_true.2 fun f hf=>?_
 obtain⟨j,hj,e2⟩:=List.getElem_of_mem hf
 have:=h4 j hj
 rw [getD_lt hj,e2] at this;exact this
def c_spec_l10Layers:Con:={A:=T10q,shA:=[.agg 3],R:=(.pair (.list T15q) .bool),shR:=[(false,1),(false,1)],pre:=fun _ a=>(pLyr a),f:=some fun _ a=>((fLyr a),((),()))}
def spec_l10Layers.F (a0:U11q):Prop:=(eS [(1,.box 2 0)] [(1,.box 2 0)]∧((lyI a0 ([]:List U2q) 0 a0.1 a0.2.1 a0.2.2)∧∀(y1:((List U2q)×(Int×U11q))),(lyI a0 y1.1 y1.2.1 y1.2.2.1 y1.2.2.2.1 y1.2.2.2.2)→(caseB (decide (y1.2.1<(ln y1.2.2.2.2))) (0≤y1.2.1∧(y1.2.1<(ln y1.2.2.2.2)∧((pStr (List.getD y1.2.2.2.2 (tN y1.2.1) []))∧∀r2,(Eq r2 ((fReadFile (List.getD y1.2.2.2.2 (tN y1.2.1) [])),((),())))→(caseB (!r2.1.2) (Eq ((y1.1,false),((),())) ((fLyr a0),((),()))) (List.length y1.1+List.length [r2.1.1]≤9223372036854775807∧((List.length y1.1+List.length [r2.1.1])*24≤140737488355328∧(eS [(1,.box 2 0)] [(1,.box 2 0)]∧(lyI a0 (y1.1++[r2.1.1]) (wI (y1.2.1+(1:Int))) y1.2.2.1 y1.2.2.2.1 y1.2.2.2.2)∧(lyM a0 (y1.1++[r2.1.1]) (wI (y1.2.1+(1:Int))) y1.2.2.1 y1.2.2.2.1 y1.2.2.2.2)<(lyM a0 y1.1 y1.2.1 y1.2.2.1 y1.2.2.2.1 y1.2.2.2.2)))))))) (List.length y1.1+List.length [y1.2.2.2.1]≤9223372036854775807∧((List.length y1.1+List.length [y1.2.2.2.1])*24≤140737488355328∧(Eq (((y1.1++[y1.2.2.2.1]),true),((),())) ((fLyr a0),((),()))))))))
def spec_l10Layers.L (a0:U11q):Nat→Option LoopAnn:=fun p=>Go.Proofs.YtnoapekdbmpiaaaGreat.Bv.look p [(58,{kp:={hold:=[1],slots:=[4,5],boxes:=[2],rows:=[{bx:=false,s:=4,i:=0,k:=1000515,e:=29,hot:=false}]},T:=(.pair (.list T15q) (.pair (.int .i64) T10q)),I:=fun st y=>lyI a0 y.1 y.2.1 y.2.2.1 y.2.2.2.1 y.2.2.2.2,μ:=fun st y=>lyM a0 y.1 y.2.1 y.2.2.1 y.2.2.2.1 y.2.2.2.2})]
theorem spec_l10Layers.pure (a0:U11q) (h:(pLyr a0)) (hw:Wf c_spec_l10Layers.A a0):spec_l10Layers.F a0:=by
 delta spec_l10Layers.F ln tN wI eS
 simp only [forall_eq,true_and,and_true,caseB_iff,Prod.mk.injEq,decide_eq_true_eq,decide_eq_false_iff_not,Bool.not_eq_true',Bool.not_eq_false',bne_iff_ne,ne_eq,beq_iff_eq,Bool.not_true,Bool.not_false,beq_eq_false_iff_ne,bne_eq_false_iff_eq,List.length_append,List.length_cons,List.length_nil,List.append_nil,Nat.zero_add,decide_true,decide_false,eq_self_iff_true,Prod.eta]
 obtain⟨hf,hl⟩:=h
 refine⟨⟨rfl,by omega,by omega,by simp [fLay],fun j hj=>absurd hj (by simp)⟩,?_⟩
 rintro⟨out,i,fl,ca,fi⟩ hI
 simp only at hI ⊢
 have q1:=hI.h1
 have q2:=hI.h2
 have q3:=congrArg List.length hI.h3
 rw [fLay_length,List.length_take] at q3
 have st:=ly_step hI
 have no:=ly_no hI
 have en:=ly_end hI
 obtain rfl:=hI.h0
 simp only at hf hl q2 q3 st no en ⊢
 refine⟨fun hi=>?_,fun hi=>⟨by omega,by omega,en hi⟩⟩
 have hm:=getD_mem (d:=([]:List UInt8)) (by omega:i.toNat<fi.length)
 rw [w64 (x:=i+1) (by omega) (by omega)]
 exact⟨q1,hi,hf _ hm,fun hr=>no hi hr,fun hr=>⟨by omega,by omega,st hi hr,by unfold lyM;simp only;omega⟩⟩
set_option maxRecDepth 100000 in
theorem spec_l10Layers.eq:EqS c_spec_l10Layers Tryz.f57 [81,4] [spec_ReadFile.e] [] (fun i x=>spec_l10Layers.L x) (fun i x=>spec_l10Layers.F x):=by intro i x;kernel_rfl
theorem spec_l10Layers.ok:ConOk Tryz.prog 57 c_spec_l10Layers:=okOf spec_l10Layers.eq Tryz.func57 rfl (by kernel_rfl) fun i x h hi hw=>spec_l10Layers.pure x h hw
def spec_l10Layers.e:GE:=⟨57,c_spec_l10Layers,⟨_,Tryz.func57,rfl,rfl⟩,spec_l10Layers.ok⟩
def fHasS (ls:List (List Ser)) (f:Int) (k:Str):List Pt:=fSlice (hasL ls k) f 1099511627777
def pHasS (ls:List (List Ser)) (f:Int) (k:Str):Prop:=cL tot ls≤10000000
structure hsI (ls:List (List Ser)) (f:Int) (k:Str) (i:Int) (out:List Pt):Prop where
 h1:0≤i
 h2:i≤ls.length
 h3:out=hasL (ls.take i.toNat) k
 h4:(out.length:Int)≤cL tot (ls.take i.toNat)
def hsM (ls:List (List Ser)) (f:Int) (k:Str) (i:Int) (out:List Pt):Nat:=(ls.length - i).toNat
theorem hs_step {ls:List (List Ser)} {f:Int} {k:Str} {i:Int} {out o':List Pt} (h:hsI ls f k i out) (hi:i<ls.length) (ho:o'=fMerge out (ptsOf (ls.getD i.toNat []) k)) (hl:(ptsOf (ls.getD i.toNat []) k).length≤tot (ls.getD i.toNat [])):hsI ls f k (i+1) o':=by
 obtain⟨h1,h2,h3,h4⟩:=h
 have a:=(cL_split tot [] (by omega:i.toNat<ls.length)).1
 have b:=fMerge_length (ptsOf (ls.getD i.toNat []) k) out
 refine⟨by omega,by omega,?_,by rw [tn1 h1,a,ho];omega⟩
 rw [tn1 h1,take_getD [] (by omega),ho,h3]
 simp only [hasL,List.foldl_append,List.foldl_cons,List.foldl_nil]
theorem pts_tot (l:List Ser) (k:Str):((ptsOf l k).length:Int)≤tot l:=by
 induction l with
 | nil=>simp [ptsOf_nil,tot,cL]
 | cons x l ih=>
   have h1:tot (x::l)=cS x+tot l:=cL_cons ..
   have h2:cS x=(x.2.length:Int)+1:=rfl
   have h3:=tot_pos l
   rw [ptsOf_cons];split<;>omega
theorem hs_end {ls:List (List Ser)} {f:Int} {k:Str} {i:Int} {out:List Pt} (h:hsI ls f k i out) (hi:¬i<ls.length):fSlice out f 1099511627777=fHasS ls f k∧(out.length:Int)≤cL tot ls:=by
 obtain⟨h1,h2,h3,h4⟩:=h
 rw [show i.toNat=ls.length by omega,List.take_length] at h3 h4
 exact⟨by rw [h3];rfl,h4⟩
def fPlS (ls:List (List Ser)) (f:Int):List Ser:=((fKeys ls).map fun k=>(k,fHasS ls f k)).filter fun x=>!x.2.isEmpty
def pPlS (ls:List (List Ser)) (f:Int):Prop:=cL tot ls≤10000000
structure psI (ls:List (List Ser)) (f i:Int) (out:List Ser):Prop where
 h1:0≤i
 h2:i≤(fKeys ls).length
 h3:out=(((fKeys ls).take i.toNat).map fun k=>(k,fHasS ls f k)).filter fun x=>!x.2.isEmpty
 h4:(out.length:Int)≤i
def psM (ls:List (List Ser)) (f i:Int) (out:List Ser):Nat:=((fKeys ls).length - i).toNat
theorem ps_yes {ls:List (List Ser)} {f i:Int} {out:List Ser} (h:psI ls f i out) (hi:i<(fKeys ls).length) (hn:0<(fHasS ls f ((fKeys ls).getD i.toNat [])).length):psI ls f (i+1) (out++[((fKeys ls).getD i.toNat [],fHasS ls f ((fKeys ls).getD i.toNat []))]):=by
 obtain⟨h1,h2,h3,h4⟩:=h
 refine⟨by omega,by omega,?_,by simp;omega⟩
 rw [tn1 h1,take_getD [] (by omega),List.map_append,List.filter_append,←h3]
 generalize (fKeys ls).getD i.toNat []=x at*
 have:(fHasS ls f x).isEmpty=false:=by
  cases e:fHasS ls f x with
  | nil=>rw [e] at hn;simp at hn
  | cons=>rfl
 simp [this]
theorem ps_no {ls:List (List Ser)} {f i:Int} {out:List Ser} (h:psI ls f i out) (hi:i<(fKeys ls).length) (hn:¬0<(fHasS ls f ((fKeys ls).getD i.toNat [])).length):psI ls f (i+1) out:=by
 obtain⟨h1,h2,h3,h4⟩:=h
 refine⟨by omega,by omega,?_,by omega⟩
 rw [tn1 h1,take_getD [] (by omega),List.map_append,List.filter_append,←h3]
 generalize (fKeys ls).getD i.toNat []=x at*
 have:fHasS ls f x=[]:=List.length_eq_zero_iff.1 (by omega)
 simp [this]
theorem ps_end {ls:List (List Ser)} {f i:Int} {out:List Ser} (h:psI ls f i out) (hi:¬i<(fKeys ls).length):out=fPlS ls f:=by
 obtain⟨h1,h2,h3,h4⟩:=h
 rw [h3,show i.toNat=(fKeys ls).length by omega,List.take_length];rfl
theorem keys_length (ls:List (List Ser)):((fKeys ls).length:Int)≤cL tot ls:=by
 have:∀(ls:List (List Ser)) (o:List Str),((ls.foldl fKeysL o).length:Int)≤o.length+cL tot ls:=by
  intro ls
  induction ls with
  | nil=>intro o;simp [cL]
  | cons t ls ih=>
    intro o
    have h1:=ih (fKeysL o t)
    have h2:=fKeysL_length t o
    have h3:=len_tot t
    rw [List.foldl_cons,cL_cons];omega
 have h:=this ls []
 simpa [fKeys] using h
def c_spec_l10Has:Con:={A:=(.pair (.list T15q) (.pair (.int .i64) .str)),shA:=[.one,.one,.one],R:=T16q,shR:=[(false,1)],fresh:=[(0,74)],pre:=fun _ a=>(pHasS a.1 a.2.1 a.2.2),f:=some fun _ a=>((fHasS a.1 a.2.1 a.2.2),((),()))}
def spec_l10Has.F (a0:(List U2q)) (a1:Int) (a2:U5q):Prop:=(eS [(0,.val false [.lst T15q a0 none]),(1,.val false [.int .i64 a1]),(2,.val false [.str a2])] [(0,.val false [.lst T15q a0 none]),(1,.val false [.int .i64 a1]),(2,.val false [.str a2])]∧((hsI a0 a1 a2 0 ([]:List (Int×Int)))∧∀(y1:(Int×U7q)),(hsI a0 a1 a2 y1.1 y1.2)→(caseB (decide (y1.1<(ln a0))) (0≤y1.1∧(y1.1<(ln a0)∧(True∧∀r2,(Eq r2 ((fAt (List.getD a0 (tN y1.1) []) a2),((),())))→(caseB (decide (r2.1≥(0:Int))) (0≤y1.1∧(y1.1<(ln a0)∧(0≤r2.1∧(r2.1<(ln (List.getD a0 (tN y1.1) []))∧((pMrg8 y1.2 ((List.getD (List.getD a0 (tN y1.1) []) (tN r2.1) ([],[])).2))∧∀r3,(Eq r3 ((fMrg8 y1.2 ((List.getD (List.getD a0 (tN y1.1) []) (tN r2.1) ([],[])).2)),((),())))→(eS [(0,.val false [.lst T15q a0 none]),(1,.val false [.int .i64 a1]),(2,.val false [.str a2])] [(0,.val false [.lst T15q a0 none]),(1,.val false [.int .i64 a1]),(2,.val false [.str a2])]∧(hsI a0 a1 a2 (wI (y1.1+(1:Int))) r3.1)∧(hsM a0 a1 a2 (wI (y1.1+(1:Int))) r3.1)<(hsM a0 a1 a2 y1.1 y1.2))))))) (eS [(0,.val false [.lst T15q a0 none]),(1,.val false [.int .i64 a1]),(2,.val false [.str a2])] [(0,.val false [.lst T15q a0 none]),(1,.val false [.int .i64 a1]),(2,.val false [.str a2])]∧(hsI a0 a1 a2 (wI (y1.1+(1:Int))) y1.2)∧(hsM a0 a1 a2 (wI (y1.1+(1:Int))) y1.2)<(hsM a0 a1 a2 y1.1 y1.2)))))) ((pSliceD y1.2 a1 1099511627777)∧∀r4,(Eq r4 ((fSlice y1.2 a1 1099511627777),((),())))→(Eq (r4.1,((),())) ((fHasS a0 a1 a2),((),())))))))
def spec_l10Has.L (a0:(List U2q)) (a1:Int) (a2:U5q):Nat→Option LoopAnn:=fun p=>Go.Proofs.YtnoapekdbmpiaaaGreat.Bv.look p [(58,{kp:={hold:=[0,1,2],slots:=[7,8],boxes:=[],rows:=[{bx:=false,s:=7,i:=0,k:=1000899,e:=74,hot:=true}]},T:=T19q,I:=fun st y=>hsI a0 a1 a2 y.1 y.2,μ:=fun st y=>hsM a0 a1 a2 y.1 y.2})]
theorem spec_l10Has.pure (a0:(List U2q)) (a1:Int) (a2:U5q) (h:(pHasS a0 a1 a2)) (hw:Wf c_spec_l10Has.A (a0,a1,a2)):spec_l10Has.F a0 a1 a2:=by
 delta spec_l10Has.F ln tN wI eS
 simp only [forall_eq,true_and,and_true,caseB_iff,Prod.mk.injEq,decide_eq_true_eq,decide_eq_false_iff_not,Bool.not_eq_true',Bool.not_eq_false',bne_iff_ne,ne_eq,beq_iff_eq,Bool.not_true,Bool.not_false,beq_eq_false_iff_ne,bne_eq_false_iff_eq,List.length_append,List.length_cons,List.length_nil,List.append_nil,Nat.zero_add,decide_true,decide_false,eq_self_iff_true,pMrg8,fMrg8,pSliceD]
 have hn:cL tot a0≤10000000:=h
 have hl:a0.length≤9223372036854775807:=hw.1.1
 refine⟨⟨by omega,by omega,rfl,by simp [cL]⟩,?_⟩
 rintro⟨i,out⟩ hI
 simp only at hI ⊢
 have q1:=hI.h1
 have q2:=hI.h2
 have q4:=hI.h4
 refine⟨fun hi=>?_,fun hi=>?_⟩
 · obtain⟨a1',a2'⟩:=at_pts (a0.getD i.toNat []) a2
   have b1:=pts_tot (a0.getD i.toNat []) a2
   have b2:=len_totL (ls:=a0) (i:=i.toNat) (by omega)
   have b3:=totL_pos (a0.take i.toNat)
   have b4:=tot_pos (a0.getD i.toNat [])
   rw [w64 (x:=i+1) (by omega) (by omega)]
   refine⟨q1,hi,fun h3=>?_,fun h3=>⟨hs_step hI hi (by rw [a2' h3,merge_nil]) b1,by unfold hsM;omega⟩⟩
   obtain⟨c1,c2⟩:=a1' h3
   rw [c2]
   exact⟨q1,hi,by omega,c1,⟨by omega,by omega⟩,hs_step hI hi rfl b1,by unfold hsM;omega⟩
 · obtain⟨e1,e2⟩:=hs_end hI hi
   exact⟨by omega,e1⟩
set_option maxRecDepth 100000 in
theorem spec_l10Has.eq:EqS c_spec_l10Has Tryz.f59 [27] [spec_l8Slice.e,spec_l8Merge.e,spec_l10At.e] [] (fun i x=>spec_l10Has.L x.1 x.2.1 x.2.2) (fun i x=>spec_l10Has.F x.1 x.2.1 x.2.2):=by intro i x;kernel_rfl
theorem spec_l10Has.ok:ConOk Tryz.prog 59 c_spec_l10Has:=okOf spec_l10Has.eq Tryz.func59 rfl (by kernel_rfl) fun i x h hi hw=>spec_l10Has.pure x.1 x.2.1 x.2.2 h hw
def spec_l10Has.e:GE:=⟨59,c_spec_l10Has,⟨_,Tryz.func59,rfl,rfl⟩,spec_l10Has.ok⟩
def c_spec_l10Plain:Con:={A:=(.pair (.list T15q) (.int .i64)),shA:=[.one,.one],R:=T15q,shR:=[(false,1)],pre:=fun _ a=>(pPlS a.1 a.2),f:=some fun _ a=>((fPlS a.1 a.2),((),()))}
def spec_l10Plain.F (a0:(List U2q)) (a1:Int):Prop:=((pKeys a0)∧∀r1,(Eq r1 ((fKeys a0),((),())))→(eS [(0,.val false [.lst T15q a0 none]),(1,.val false [.int .i64 a1]),(6,.val false [.lst .str r1.1 none])] [(0,.val false [.lst T15q a0 none]),(1,.val false [.int .i64 a1]),(6,.val false [.lst .str r1.1 none])]∧((psI a0 a1 0 ([]:List (U5q×U7q)))∧∀(y2:(Int×U2q)),(psI a0 a1 y2.1 y2.2)→(caseB (decide (y2.1<(ln r1.1))) (0≤y2.1∧(y2.1<(ln r1.1)∧((pHasS a0 a1 (List.getD r1.1 (tN y2.1) []))∧∀r3,(Eq r3 ((fHasS a0 a1 (List.getD r1.1 (tN y2.1) [])),((),())))→(caseB (decide ((ln r3.1)>(0:Int))) (0≤y2.1∧(y2.1<(ln r1.1)∧(List.length y2.2+List.length [((List.getD r1.1 (tN y2.1) []),r3.1)]≤9223372036854775807∧((List.length y2.2+List.length [((List.getD r1.1 (tN y2.1) []),r3.1)])*40≤140737488355328∧(eS [(0,.val false [.lst T15q a0 none]),(1,.val false [.int .i64 a1]),(6,.val false [.lst .str r1.1 none])] [(0,.val false [.lst T15q a0 none]),(1,.val false [.int .i64 a1]),(6,.val false [.lst .str r1.1 none])]∧(psI a0 a1 (wI (y2.1+(1:Int))) (y2.2++[((List.getD r1.1 (tN y2.1) []),r3.1)]))∧(psM a0 a1 (wI (y2.1+(1:Int))) (y2.2++[((List.getD r1.1 (tN y2.1) []),r3.1)]))<(psM a0 a1 y2.1 y2.2)))))) (eS [(0,.val false [.lst T15q a0 none]),(1,.val false [.int .i64 a1]),(6,.val false [.lst .str r1.1 none])] [(0,.val false [.lst T15q a0 none]),(1,.val false [.int .i64 a1]),(6,.val false [.lst .str r1.1 none])]∧(psI a0 a1 (wI (y2.1+(1:Int))) y2.2)∧(psM a0 a1 (wI (y2.1+(1:Int))) y2.2)<(psM a0 a1 y2.1 y2.2)))))) (Eq (y2.2,((),())) ((fPlS a0 a1),((),())))))))
def spec_l10Plain.L (a0:(List U2q)) (a1:Int):Nat→Option LoopAnn:=fun p=>Go.Proofs.YtnoapekdbmpiaaaGreat.Bv.look p [(122,{kp:={hold:=[0,1,6],slots:=[5,7],boxes:=[],rows:=[{bx:=false,s:=5,i:=0,k:=1000643,e:=72,hot:=true}]},T:=(.pair (.int .i64) T15q),I:=fun st y=>psI a0 a1 y.1 y.2,μ:=fun st y=>psM a0 a1 y.1 y.2})]
theorem spec_l10Plain.pure (a0:(List U2q)) (a1:Int) (h:(pPlS a0 a1)) (hw:Wf c_spec_l10Plain.A (a0,a1)):spec_l10Plain.F a0 a1:=by
 delta spec_l10Plain.F ln tN wI eS
 simp only [forall_eq,true_and,and_true,caseB_iff,Prod.mk.injEq,decide_eq_true_eq,decide_eq_false_iff_not,Bool.not_eq_true',Bool.not_eq_false',bne_iff_ne,ne_eq,beq_iff_eq,Bool.not_true,Bool.not_false,beq_eq_false_iff_ne,bne_eq_false_iff_eq,List.length_append,List.length_cons,List.length_nil,List.append_nil,Nat.zero_add,decide_true,decide_false,eq_self_iff_true,pKeys,pHasS]
 have hn:cL tot a0≤10000000:=h
 have hk:=keys_length a0
 refine⟨hn,⟨by omega,by omega,rfl,by simp⟩,?_⟩
 rintro⟨i,out⟩ hI
 simp only at hI ⊢
 have q1:=hI.h1
 have q2:=hI.h2
 have q4:=hI.h4
 refine⟨fun hi=>?_,fun hi=>ps_end hI hi⟩
 rw [w64 (x:=i+1) (by omega) (by omega)]
 refine⟨q1,hi,hn,fun h3=>⟨q1,hi,by omega,by omega,ps_yes hI hi (by omega),by unfold psM;omega⟩,fun h3=>⟨ps_no hI hi (by omega),by unfold psM;omega⟩⟩
set_option maxRecDepth 100000 in
theorem spec_l10Plain.eq:EqS c_spec_l10Plain Tryz.f68 [29] [spec_l10Has.e,spec_l10Keys.e] [] (fun i x=>spec_l10Plain.L x.1 x.2) (fun i x=>spec_l10Plain.F x.1 x.2):=by intro i x;kernel_rfl
theorem spec_l10Plain.ok:ConOk Tryz.prog 68 c_spec_l10Plain:=okOf spec_l10Plain.eq Tryz.func68 rfl (by kernel_rfl) fun i x h hi hw=>spec_l10Plain.pure x.1 x.2 h hw
def spec_l10Plain.e:GE:=⟨68,c_spec_l10Plain,⟨_,Tryz.func68,rfl,rfl⟩,spec_l10Plain.ok⟩
def c_spec_l10Count:Con:={A:=T15q,shA:=[.one],R:=(.int .i64),shR:=[(false,1)],pre:=fun _ a=>(pCnt a),f:=some fun _ a=>((fCnt a),((),()))}
def spec_l10Count.F (a0:U2q):Prop:=(eS [(0,.val false [.lst T3q a0 none])] [(0,.val false [.lst T3q a0 none])]∧((cnI a0 0 0)∧∀(y1:(Int×Int)),(cnI a0 y1.1 y1.2)→(caseB (decide (y1.2<(ln a0))) (0≤y1.2∧(y1.2<(ln a0)∧(eS [(0,.val false [.lst T3q a0 none])] [(0,.val false [.lst T3q a0 none])]∧(cnI a0 (wI (y1.1+(ln ((List.getD a0 (tN y1.2) ([],[])).2)))) (wI (y1.2+(1:Int))))∧(cnM a0 (wI (y1.1+(ln ((List.getD a0 (tN y1.2) ([],[])).2)))) (wI (y1.2+(1:Int))))<(cnM a0 y1.1 y1.2)))) (Eq (y1.1,((),())) ((fCnt a0),((),()))))))
def spec_l10Count.L (a0:U2q):Nat→Option LoopAnn:=fun p=>Go.Proofs.YtnoapekdbmpiaaaGreat.Bv.look p [(58,{kp:={hold:=[0],slots:=[3,4],boxes:=[],rows:=[]},T:=T0q,I:=fun st y=>cnI a0 y.1 y.2,μ:=fun st y=>cnM a0 y.1 y.2})]
theorem spec_l10Count.pure (a0:U2q) (h:(pCnt a0)) (hw:Wf c_spec_l10Count.A a0):spec_l10Count.F a0:=by
 delta spec_l10Count.F ln tN wI eS
 simp only [forall_eq,true_and,and_true,caseB_iff,Prod.mk.injEq,decide_eq_true_eq,decide_eq_false_iff_not,Bool.not_eq_true',Bool.not_eq_false',bne_iff_ne,ne_eq,beq_iff_eq,Bool.not_true,Bool.not_false,beq_eq_false_iff_ne,bne_eq_false_iff_eq,List.length_append,List.length_cons,List.length_nil,List.append_nil,Nat.zero_add,decide_true,decide_false,eq_self_iff_true]
 have hn:tot a0≤100000000:=h
 have k0:=cnt_tot a0
 have k1:=len_tot a0
 refine⟨⟨by omega,by omega,by simp [fCnt,cL]⟩,?_⟩
 rintro⟨n,i⟩ hI
 simp only at hI ⊢
 have q1:=hI.1
 have q2:=hI.2.1
 refine⟨fun hi=>?_,fun hi=>cn_end hI hi⟩
 have k2:=cn_le hI hi
 have st:=cn_step hI hi
 rw [w64 (x:=i+1) (by omega) (by omega),w64 (by omega) (by omega)]
 exact⟨q1,hi,st,by unfold cnM;omega⟩
set_option maxRecDepth 100000 in
theorem spec_l10Count.eq:EqS c_spec_l10Count Tryz.f116 [3] [] [] (fun i x=>spec_l10Count.L x) (fun i x=>spec_l10Count.F x):=by intro i x;kernel_rfl
theorem spec_l10Count.ok:ConOk Tryz.prog 116 c_spec_l10Count:=okOf spec_l10Count.eq Tryz.func116 rfl (by kernel_rfl) fun i x h hi hw=>spec_l10Count.pure x h hw
def spec_l10Count.e:GE:=⟨116,c_spec_l10Count,⟨_,Tryz.func116,rfl,rfl⟩,spec_l10Count.ok⟩
end Go.Proofs.YtnoapekdbmpiaaaGreat.B
