/- Engines:right or not,in the reference. -/
import Derived.Test.YtcfaphojdacmbaaGreatRCEngB
set_option maxRecDepth 100000
set_option linter.unusedVariables false
set_option linter.unusedSimpArgs false
namespace Go.Proofs.YtcfaphojdacmbaaGreatR.B
open Go Go.Proofs.YtcfaphojdacmbaaGreatR.Bv
def fAt(l:List Ser)(k:List UInt8):Int:=if l.findIdx (fun x=>decide (x.1=k))<l.length then((l.findIdx (fun x=>decide (x.1=k)):Nat):Int) else -1
def atI(l:List Ser)(k:List UInt8)(i:Int):Prop:=0≤i∧i≤l.length∧∀j,j<i.toNat→¬(l.getD j ([],[])).1=k
def atM(l:List Ser)(k:List UInt8)(i:Int):Nat:=(l.length - i).toNat
theorem XsM{l:List Ser}{k:List UInt8}{i:Int}(h:atI l k i)(hi:i<l.length)(hd:(l.getD i.toNat ([],[])).1=k):i=fAt l k:=by
 obtain⟨h1,h2,h3⟩:=h
 have e:l.findIdx (fun x=>decide (x.1=k))=i.toNat:=by
  refine(List.findIdx_eq (by omega)).2 ⟨by rw[X1w (by omega)]at hd;simpa using hd,fun j hj=>?_⟩
  have:=h3 j hj
  rw[X1w (by omega)]at this;simpa using this
 unfold fAt
 rw[e,if_pos (by omega)];omega
theorem at_no{l:List Ser}{k:List UInt8}{i:Int}(h:atI l k i)(hi:¬i<l.length):-1=fAt l k:=by
 obtain⟨h1,h2,h3⟩:=h
 have e:¬l.findIdx (fun x=>decide (x.1=k))<l.length:=fun hlt=>by
  have a:=List.findIdx_getElem (w:=hlt)
  have b:=h3 (l.findIdx (fun x=>decide (x.1=k))) (by omega)
  rw[X1w hlt]at b
  exact b (by simpa using a)
 unfold fAt
 rw[if_neg e]
theorem Xl3{k:List UInt8}:∀(l:List Ser) (h:l.findIdx (fun x=>decide (x.1=k))<l.length),(l[l.findIdx (fun x=>decide (x.1=k))]).2=X5d l k
 | [],h=>by simp at h
 | x::l,h=>by
   rw[X3w]
   by_cases hx:x.1=k
   · simp[List.findIdx_cons,hx]
   · have e:(x::l).findIdx (fun x=>decide (x.1=k))=l.findIdx (fun x=>decide (x.1=k))+1:=by simp[List.findIdx_cons,hx]
     have h':l.findIdx (fun x=>decide (x.1=k))<l.length:=by rw[e]at h;simpa using h
     simp only[e,if_neg hx,List.getElem_cons_succ]
     exact Xl3 l h'
theorem XsO(l:List Ser)(k:List UInt8):(fAt l k≥0→fAt l k<l.length∧(l.getD (fAt l k).toNat ([],[])).2=X5d l k)∧(¬fAt l k≥0→X5d l k=[]):=by
 unfold fAt
 by_cases h:l.findIdx (fun x=>decide (x.1=k))<l.length
 · rw[if_pos h]
   refine⟨fun _=>⟨by omega,?_⟩,fun h2=>absurd (by omega) h2⟩
   rw[Int.toNat_natCast,X1w h]
   exact Xl3 l h
 · rw[if_neg h]
   refine⟨fun h2=>absurd h2 (by decide),fun _=>XcL ?_⟩
   rw[Bool.eq_false_iff];intro hh
   obtain⟨x,hx,e⟩:=X7y.1 hh
   exact h (List.findIdx_lt_length_of_exists ⟨x,hx,by simpa using e⟩)
abbrev Str:=List UInt8
def nmP(key:Str):List Str→List Str
 | []=>[key]
 | x::l=>if Op.bytesLess key x=true then key::x::l else x::nmP key l
def Xa7(l:List Str)(key:Str):List Str:=if key∈l then l else nmP key l
def XoM(l:List Str)(key:Str):Prop:=l.length≤100000000
def Xde(key:Str)(put:Bool)(l:List Str):List Str:=if put then l else nmP key l
structure nmI (l:List Str) (key:Str) (put:Bool) (i:Int) (out:List Str):Prop where
 h1:0≤i
 h2:i≤l.length
 h3:out++Xde key put (l.drop i.toNat)=nmP key l
 h4:(out.length:Int)≤i+1
 h5:put=false→(out.length:Int)≤i
 h6:∀j,j<i.toNat→¬l.getD j []=key
def nmM(l:List Str)(key:Str)(put:Bool)(i:Int)(out:List Str):Nat:=(l.length - i).toNat
def nmB(l:List Str)(key:Str)(put:Bool)(i:Int)(out r:List Str):Prop:=r=l∧nmI l key put i out
def nmN(l:List Str)(key:Str)(put:Bool)(i:Int)(out r:List Str):Nat:=nmM l key put i out
theorem XqM{l:List Str}{key:Str}{put put':Bool}{i:Int}{out o':List Str}(h:nmI l key put i out)(hi:i<l.length)(hne:¬l.getD i.toNat []=key)(hl:(o'.length:Int)≤i+2∧(put'=false→(o'.length:Int)≤i+1))(he:∀r,o'++Xde key put' r=out++Xde key put (l.getD i.toNat []::r)):nmI l key put' (i+1) o':=by
 obtain⟨h1,h2,h3,h4,h5,h6⟩:=h
 refine⟨by omega,by omega,?_,by omega,hl.2,fun j hj=>?_⟩
 · rw[tn1 h1,he,←X3h [] (by omega)];exact h3
 · by_cases e:j=i.toNat
   · rw[e];exact hne
   · exact h6 j (by omega)
theorem nm_in{l:List Str}{key:Str}{put:Bool}{i:Int}{out:List Str}(h:nmI l key put i out)(hi:i<l.length)(he:l.getD i.toNat []=key):l=Xa7 l key:=by
 have h1:=h.h1
 unfold Xa7
 rw[if_pos]
 rw[←he];exact X2g (by omega)
theorem XsT{l:List Str}{key:Str}{put:Bool}{i:Int}{out:List Str}(h:nmI l key put i out)(hi:¬i<l.length):(put=true→out=Xa7 l key)∧(put=false→out++[key]=Xa7 l key):=by
 obtain⟨h1,h2,h3,h4,h5,h6⟩:=h
 have e:i.toNat=l.length:=by omega
 rw[e]at h6
 rw[e,List.drop_length]at h3
 have hn:¬key∈l:=fun hm=>by
  obtain⟨j,hj,e2⟩:=List.getElem_of_mem hm
  exact h6 j hj (by rw[X1w hj];exact e2)
 unfold Xa7
 rw[if_neg hn]
 refine⟨fun hp=>?_,fun hp=>?_⟩
 · rw[hp]at h3;simpa [Xde] using h3
 · rw[hp]at h3;simpa [Xde,nmP] using h3
theorem rn_no{k x:Str}{r:List Str}(h:Op.bytesLess k x=false):Xde k false (x::r)=x::Xde k false r:=by simp[Xde,nmP,h]
theorem Xsw{k x:Str}{r:List Str}(h:Op.bytesLess k x=true):Xde k false (x::r)=k::Xde k true (x::r):=by simp[Xde,nmP,h]
theorem rn_t{k:Str}{r:List Str}:Xde k true r=r:=rfl
def X9C:Con:={A:=(.pair X5X .str),shA:=[.one,.one],R:=(.int .i64),shR:=[(false,1)],pre:=fun _ _=>True,f:=some fun _ a=>((fAt a.1 a.2),((),()))}
def X3M.F(a0:U1q)(a1:U5q):Prop:=(eS [(0,.val false [.lst T4q a0 none]),(1,.val false [.str a1])] [(0,.val false [.lst T4q a0 none]),(1,.val false [.str a1])]∧((atI a0 a1 0)∧∀(y1:Int),(atI a0 a1 y1)→(X00 (decide (y1<(ln a0))) (0≤y1∧(y1<(ln a0)∧(X00 (((List.getD a0 (tN y1) ([],[])).1)==a1) (Eq (y1,((),())) ((fAt a0 a1),((),()))) (eS [(0,.val false [.lst T4q a0 none]),(1,.val false [.str a1])] [(0,.val false [.lst T4q a0 none]),(1,.val false [.str a1])]∧(atI a0 a1 (wI (y1+(1:Int))))∧(atM a0 a1 (wI (y1+(1:Int))))<(atM a0 a1 y1))))) (Eq ((-1),((),())) ((fAt a0 a1),((),()))))))
def X3M.L(a0:U1q)(a1:U5q):Nat→Option X0e:=fun p=>Go.Proofs.YtcfaphojdacmbaaGreatR.Bv.look p [(26,{kp:={hold:=[0,1],slots:=[5],boxes:=[],rows:=[]},T:=(.int .i64),I:=fun st y=>atI a0 a1 y,μ:=fun st y=>atM a0 a1 y})]
theorem X3M.pure(a0:U1q)(a1:U5q)(h:True)(hw:Wf X9C.A (a0,a1)):X3M.F a0 a1:=by
 delta X3M.F ln tN wI eS
 simp only[Bs,B0,B1,Prod.mk.injEq,X01]
 have hl:a0.length≤9223372036854775807:=hw.1.1
 refine⟨⟨by omega,by omega,fun j hj=>absurd hj (by simp)⟩,?_⟩
 rintro i hI
 have q1:=hI.1
 have q2:=hI.2.1
 refine⟨fun hi=>⟨q1,hi,fun hd=>XsM hI hi hd,fun hd=>?_⟩,fun hi=>at_no hI hi⟩
 rw[w64 (x:=i+1) (by omega) (by omega)]
 refine⟨⟨by omega,by omega,fun j hj=>?_⟩,by unfold atM;omega⟩
 by_cases e:j=i.toNat
 · rw[e];exact hd
 · exact hI.2.2 j (by omega)
theorem X3M.eq:EqS X9C Tryz.f182 [3] [] [] (fun i x=>X3M.L x.1 x.2) (fun i x=>X3M.F x.1 x.2):=by intro i x;kernel_rfl
theorem X3M.ok:X0k Tryz.prog 182 X9C:=X1Z X3M.eq Tryz.func182 rfl (by kernel_rfl) fun i x h hi hw=>X3M.pure x.1 x.2 h hw
def X3M.e:GE:=⟨182,X9C,⟨_,Tryz.func182,rfl,rfl⟩,X3M.ok⟩
def X7W:Con:={A:=(.pair (.list .str) .str),shA:=[.one,.one],ownA:=[(0,9)],R:=(.list .str),shR:=[(false,1)],fresh:=[(0,9)],pre:=fun _ a=>(XoM a.1 a.2),f:=some fun _ a=>((Xa7 a.1 a.2),((),()))}
def X2H.F(a0:(List U5q))(a1:U5q):Prop:=(eS [(0,.val false [.own .str 1000003]),(1,.val false [.str a1])] [(0,.val false [.own .str 1000003]),(1,.val false [.str a1])]∧((nmB a0 a1 false 0 ([]:List U5q) a0)∧∀(y1:(Bool×(Int×((List U5q)×(List U5q))))),(nmB a0 a1 y1.1 y1.2.1 y1.2.2.1 y1.2.2.2)→(X00 (decide (y1.2.1<(ln y1.2.2.2))) (0≤y1.2.1∧(y1.2.1<(ln y1.2.2.2)∧(X00 ((List.getD y1.2.2.2 (tN y1.2.1) [])==a1) (Eq (y1.2.2.2,((),())) ((Xa7 a0 a1),((),()))) (X00 (!y1.1) (0≤y1.2.1∧(y1.2.1<(ln y1.2.2.2)∧(X00 (Op.bytesLess a1 (List.getD y1.2.2.2 (tN y1.2.1) [])) (List.length y1.2.2.1+List.length [a1]≤9223372036854775807∧((List.length y1.2.2.1+List.length [a1])*16≤140737488355328∧(0≤y1.2.1∧(y1.2.1<(ln y1.2.2.2)∧(List.length (y1.2.2.1++[a1])+List.length ([(List.getD y1.2.2.2 (tN y1.2.1) [])]:List U5q)≤9223372036854775807∧((List.length (y1.2.2.1++[a1])+List.length ([(List.getD y1.2.2.2 (tN y1.2.1) [])]:List U5q))*16≤140737488355328∧(eS [(0,.val false [.own .str 1000003]),(1,.val false [.str a1])] [(0,.val false [.own .str 1000003]),(1,.val false [.str a1])]∧(nmB a0 a1 true (wI (y1.2.1+(1:Int))) ((y1.2.2.1++[a1])++[(List.getD y1.2.2.2 (tN y1.2.1) [])]) y1.2.2.2)∧(nmN a0 a1 true (wI (y1.2.1+(1:Int))) ((y1.2.2.1++[a1])++[(List.getD y1.2.2.2 (tN y1.2.1) [])]) y1.2.2.2)<(nmN a0 a1 y1.1 y1.2.1 y1.2.2.1 y1.2.2.2)))))))) (0≤y1.2.1∧(y1.2.1<(ln y1.2.2.2)∧(List.length y1.2.2.1+List.length ([(List.getD y1.2.2.2 (tN y1.2.1) [])]:List U5q)≤9223372036854775807∧((List.length y1.2.2.1+List.length ([(List.getD y1.2.2.2 (tN y1.2.1) [])]:List U5q))*16≤140737488355328∧(eS [(0,.val false [.own .str 1000003]),(1,.val false [.str a1])] [(0,.val false [.own .str 1000003]),(1,.val false [.str a1])]∧(nmB a0 a1 y1.1 (wI (y1.2.1+(1:Int))) (y1.2.2.1++[(List.getD y1.2.2.2 (tN y1.2.1) [])]) y1.2.2.2)∧(nmN a0 a1 y1.1 (wI (y1.2.1+(1:Int))) (y1.2.2.1++[(List.getD y1.2.2.2 (tN y1.2.1) [])]) y1.2.2.2)<(nmN a0 a1 y1.1 y1.2.1 y1.2.2.1 y1.2.2.2))))))))) (0≤y1.2.1∧(y1.2.1<(ln y1.2.2.2)∧(List.length y1.2.2.1+List.length ([(List.getD y1.2.2.2 (tN y1.2.1) [])]:List U5q)≤9223372036854775807∧((List.length y1.2.2.1+List.length ([(List.getD y1.2.2.2 (tN y1.2.1) [])]:List U5q))*16≤140737488355328∧(eS [(0,.val false [.own .str 1000003]),(1,.val false [.str a1])] [(0,.val false [.own .str 1000003]),(1,.val false [.str a1])]∧(nmB a0 a1 y1.1 (wI (y1.2.1+(1:Int))) (y1.2.2.1++[(List.getD y1.2.2.2 (tN y1.2.1) [])]) y1.2.2.2)∧(nmN a0 a1 y1.1 (wI (y1.2.1+(1:Int))) (y1.2.2.1++[(List.getD y1.2.2.2 (tN y1.2.1) [])]) y1.2.2.2)<(nmN a0 a1 y1.1 y1.2.1 y1.2.2.1 y1.2.2.2)))))))))) (X00 (!y1.1) (List.length y1.2.2.1+List.length [a1]≤9223372036854775807∧((List.length y1.2.2.1+List.length [a1])*16≤140737488355328∧(Eq ((y1.2.2.1++[a1]),((),())) ((Xa7 a0 a1),((),()))))) (Eq (y1.2.2.1,((),())) ((Xa7 a0 a1),((),())))))))
def X2H.L(a0:(List U5q))(a1:U5q):Nat→Option X0e:=fun p=>Go.Proofs.YtcfaphojdacmbaaGreatR.Bv.look p [(122,{kp:={hold:=[0,1],slots:=[5,6,7],boxes:=[],rows:=[{bx:=false,s:=5,i:=0,k:=1000643,e:=9,hot:=true},{bx:=false,s:=0,i:=0,k:=1000003,e:=9,hot:=true}]},T:=(.pair .bool (.pair (.int .i64) (.pair (.list .str) (.list .str)))),I:=fun st y=>nmB a0 a1 y.1 y.2.1 y.2.2.1 y.2.2.2,μ:=fun st y=>nmN a0 a1 y.1 y.2.1 y.2.2.1 y.2.2.2})]
theorem X2H.pure(a0:(List U5q))(a1:U5q)(h:(XoM a0 a1))(hw:Wf X7W.A (a0,a1)):X2H.F a0 a1:=by
 delta X2H.F ln tN wI eS
 simp only[Bs,B0,B1,Prod.mk.injEq,X01]
 have hl:a0.length≤100000000:=h
 refine⟨⟨rfl,⟨by omega,by omega,by simp[Xde],by simp,by simp,fun j hj=>absurd hj (by simp)⟩⟩,?_⟩
 rintro⟨put,i,out,r⟩ ⟨hr,hI⟩
 simp only at hr hI ⊢
 subst hr
 have q1:=hI.h1
 have q2:=hI.h2
 have q4:=hI.h4
 have q5:=hI.h5
 have hen:=XsT hI
 refine⟨fun hi=>⟨q1,hi,fun he=>nm_in hI hi he,fun he=>?_⟩,fun hi=>?_⟩
 · have st:∀{put' o'},_→_→nmB r a1 put' (i+1) o' r:=fun h2 h3=>⟨rfl,XqM hI hi he h2 h3⟩
   have dn:∀o p,nmN r a1 p (i+1) o r<nmN r a1 put i out r:=fun o p=>by unfold nmN nmM;omega
   generalize hx:r.getD i.toNat []=x at st ⊢
   rw[w64 (x:=i+1) (by omega) (by omega)]
   repeat' (with_reducible (first | (refine And.intro ?_ ?_) | intro _))
   all_goals (try simp (disch:=omega) only[w64,List.length_append,List.length_cons,List.length_nil]at*)
   all_goals (first
    | omega
    | exact dn _ _
    | (refine st (by(try simp only[List.length_append,List.length_cons,List.length_nil]);(try have:=q5 ‹_›);(first | omega | (refine ⟨by omega,fun hh=>?_⟩;first | omega | (have:=q5 hh;omega) | (exfalso;simp_all;done)))) fun r=>?_;(try rw[‹put=true›]);(try rw[‹put=false›]);(try simp only[List.append_assoc,List.cons_append,List.nil_append,rn_t]);first | done | rw[Xsw ‹Op.bytesLess a1 x=true›,rn_t] | rw[rn_no ‹Op.bytesLess a1 x=false›] | rfl)
    | skip)
 · repeat' (with_reducible (first | (refine And.intro ?_ ?_) | intro _))
   all_goals (try simp (disch:=omega) only[w64,List.length_append,List.length_cons,List.length_nil]at*)
   all_goals (first | omega | exact(hen hi).1 ‹_› | exact(hen hi).2 ‹_› | skip)
theorem X2H.eq:EqS X7W Tryz.f230 [26] [] [] (fun i x=>X2H.L x.1 x.2) (fun i x=>X2H.F x.1 x.2):=by intro i x;kernel_rfl
theorem X2H.ok:X0k Tryz.prog 230 X7W:=X1Z X2H.eq Tryz.func230 rfl (by kernel_rfl) fun i x h hi hw=>X2H.pure x.1 x.2 h hw
def X2H.e:GE:=⟨230,X7W,⟨_,Tryz.func230,rfl,rfl⟩,X2H.ok⟩
def X8r(o:List Str)(l:List Ser):List Str:=l.foldl (fun o x=>Xa7 o x.1) o
def X6V(ls:List (List Ser)):List Str:=ls.foldl X8r []
def Xpg(ls:List (List Ser)):Prop:=cL tot ls≤10000000
theorem Xh1(ls:List (List Ser)):0≤cL tot ls:=X2z XaW ls
theorem Xl1{ls:List (List Ser)}:∀{i:Nat},i<ls.length→tot (ls.getD i [])+cL tot (ls.take i)≤cL tot ls:=fun {i} hi=>by
 have a:=(X4a tot [] hi).2
 have b:=Xh1 (ls.drop (i+1))
 omega
theorem Xge(k:Str):∀l,(nmP k l).length=l.length+1
 | []=>rfl
 | x::l=>by rw[nmP];split<;>simp[Xge k l]
theorem XdC(l:List Str)(k:Str):(Xa7 l k).length≤l.length+1:=by
 unfold Xa7;split
 · omega
 · rw[Xge];omega
theorem Xcf:∀(l:List Ser) (o:List Str),(X8r o l).length≤o.length+l.length
 | [],o=>by simp[X8r]
 | x::l,o=>by
   have h1:=Xcf l (Xa7 o x.1)
   have h2:=XdC o x.1
   show(X8r (Xa7 o x.1) l).length≤_
   rw[List.length_cons];omega
structure kyI (ls:List (List Ser)) (i:Int) (out:List Str):Prop where
 h1:0≤i
 h2:i≤ls.length
 h3:out=X6V (ls.take i.toNat)
 h4:(out.length:Int)≤cL tot (ls.take i.toNat)
def kyM(ls:List (List Ser))(i:Int)(out:List Str):Nat:=(ls.length - i).toNat
structure kzI (ls:List (List Ser)) (i k:Int) (out:List Str):Prop where
 h1:0≤i
 h2:i<ls.length
 h3:0≤k
 h4:k≤(ls.getD i.toNat []).length
 h5:out=X8r (X6V (ls.take i.toNat)) ((ls.getD i.toNat []).take k.toNat)
 h6:(out.length:Int)≤cL tot (ls.take i.toNat)+k
def kzM(ls:List (List Ser))(i k:Int)(out:List Str):Nat:=((ls.getD i.toNat []).length - k).toNat
theorem XqI{ls:List (List Ser)}{i:Int}{out:List Str}(h:kyI ls i out)(hi:i<ls.length):kzI ls i 0 out:=by
 obtain⟨h1,h2,h3,h4⟩:=h
 exact⟨h1,hi,by omega,by omega,by simpa [X8r] using h3,by omega⟩
theorem Xrt{ls:List (List Ser)}{k i:Int}{out:List Str}(h:kzI ls i k out)(hk:k<(ls.getD i.toNat []).length):kzI ls i (k+1) (Xa7 out ((ls.getD i.toNat []).getD k.toNat ([],[])).1):=by
 obtain⟨h1,h2,h3,h4,h5,h6⟩:=h
 have:=XdC out ((ls.getD i.toNat []).getD k.toNat ([],[])).1
 refine⟨h1,h2,by omega,by omega,?_,by omega⟩
 rw[tn1 h3,X0P ([],[]) (by omega),h5]
 simp only[X8r,List.foldl_append,List.foldl_cons,List.foldl_nil]
theorem XsN{ls:List (List Ser)}{k i:Int}{out:List Str}(h:kzI ls i k out)(hk:¬k<(ls.getD i.toNat []).length):kyI ls (i+1) out:=by
 obtain⟨h1,h2,h3,h4,h5,h6⟩:=h
 have e:k.toNat=(ls.getD i.toNat []).length:=by omega
 have a:=(X4a tot [] (by omega:i.toNat<ls.length)).1
 have b:=XaX (ls.getD i.toNat [])
 rw[e,List.take_length]at h5
 refine⟨by omega,by omega,?_,by rw[tn1 h1,a];omega⟩
 rw[tn1 h1,X0P [] (by omega),h5]
 simp only[X6V,List.foldl_append,List.foldl_cons,List.foldl_nil]
theorem Xsq{ls:List (List Ser)}{i:Int}{out:List Str}(h:kyI ls i out)(hi:¬i<ls.length):out=X6V ls:=by
 obtain⟨h1,h2,h3,h4⟩:=h
 rw[h3,show i.toNat=ls.length by omega,List.take_length]
def X87:Con:={A:=(.list X5X),shA:=[.one],R:=(.list .str),shR:=[(false,1)],fresh:=[(0,9)],pre:=fun _ a=>(Xpg a),f:=some fun _ a=>((X6V a),((),()))}
def X2F.F(a0:(List U1q)):Prop:=(eS [(0,.val false [.lst X5X a0 none])] [(0,.val false [.lst X5X a0 none])]∧((kyI a0 0 ([]:List U5q))∧∀(y1:(Int×(List U5q))),(kyI a0 y1.1 y1.2)→(X00 (decide (y1.1<(ln a0))) (eS [(0,.val false [.lst X5X a0 none]),(4,.val false [.int .i64 y1.1])] [(0,.val false [.lst X5X a0 none]),(4,.val false [.int .i64 y1.1])]∧((kzI a0 y1.1 0 y1.2)∧∀(y2:(Int×(List U5q))),(kzI a0 y1.1 y2.1 y2.2)→(0≤y1.1∧(y1.1<(ln a0)∧(X00 (decide (y2.1<(ln (List.getD a0 (tN y1.1) [])))) (0≤y1.1∧(y1.1<(ln a0)∧(0≤y2.1∧(y2.1<(ln (List.getD a0 (tN y1.1) []))∧((XoM y2.2 ((List.getD (List.getD a0 (tN y1.1) []) (tN y2.1) ([],[])).1))∧∀r3,(Eq r3 ((Xa7 y2.2 ((List.getD (List.getD a0 (tN y1.1) []) (tN y2.1) ([],[])).1)),((),())))→(eS [(0,.val false [.lst X5X a0 none]),(4,.val false [.int .i64 y1.1])] [(0,.val false [.lst X5X a0 none]),(4,.val false [.int .i64 y1.1])]∧(kzI a0 y1.1 (wI (y2.1+(1:Int))) r3.1)∧(kzM a0 y1.1 (wI (y2.1+(1:Int))) r3.1)<(kzM a0 y1.1 y2.1 y2.2))))))) (eS [(0,.val false [.lst X5X a0 none])] [(0,.val false [.lst X5X a0 none])]∧(kyI a0 (wI (y1.1+(1:Int))) y2.2)∧(kyM a0 (wI (y1.1+(1:Int))) y2.2)<(kyM a0 y1.1 y1.2))))))) (Eq (y1.2,((),())) ((X6V a0),((),()))))))
def X2F.L(a0:(List U1q)):Nat→Option X0e:=fun p=>Go.Proofs.YtcfaphojdacmbaaGreatR.Bv.look p [(58,{kp:={hold:=[0],slots:=[3,4],boxes:=[],rows:=[{bx:=false,s:=3,i:=0,k:=1000387,e:=9,hot:=true}]},T:=(.pair (.int .i64) (.list .str)),I:=fun st y=>kyI a0 y.1 y.2,μ:=fun st y=>kyM a0 y.1 y.2}),(3730,{kp:={hold:=[0,4],slots:=[3,5],boxes:=[],rows:=[{bx:=false,s:=3,i:=0,k:=1000387,e:=9,hot:=true}]},T:=(.pair (.int .i64) (.list .str)),I:=fun st y=>kzI a0 (Xqt (Xdx st 4 0)) y.1 y.2,μ:=fun st y=>kzM a0 (Xqt (Xdx st 4 0)) y.1 y.2})]
theorem X2F.pure(a0:(List U1q))(h:(Xpg a0))(hw:Wf X87.A a0):X2F.F a0:=by
 delta X2F.F ln tN wI eS
 simp only[Bs,B0,B1,Prod.mk.injEq,X01,XoM]
 have hn:cL tot a0≤10000000:=h
 have hl:a0.length≤9223372036854775807:=hw.1
 refine⟨⟨by omega,by omega,rfl,by simp[cL]⟩,?_⟩
 rintro⟨i,out⟩ hI
 simp only at hI ⊢
 have q1:=hI.h1
 have q2:=hI.h2
 refine⟨fun hi=>⟨XqI hI hi,?_⟩,fun hi=>Xsq hI hi⟩
 rintro⟨k,o⟩ hK
 simp only at hK ⊢
 have z3:=hK.h3
 have z4:=hK.h4
 have z6:=hK.h6
 have hb:=Xl1 (ls:=a0) (i:=i.toNat) (by omega)
 have hb2:=XaX (a0.getD i.toNat [])
 have hb3:=Xh1 (a0.take i.toNat)
 refine⟨q1,hi,fun hk=>?_,fun hk=>?_⟩
 · rw[w64 (x:=k+1) (by omega) (by omega)]
   exact⟨q1,hi,z3,hk,by omega,Xrt hK hk,by unfold kzM;omega⟩
 · rw[w64 (x:=i+1) (by omega) (by omega)]
   exact⟨XsN hK hk,by unfold kyM;omega⟩
theorem X2F.eq:EqS X87 Tryz.f179 [26] [X2H.e] [] (fun i x=>X2F.L x) (fun i x=>X2F.F x):=by intro i x;kernel_rfl
theorem X2F.ok:X0k Tryz.prog 179 X87:=X1Z X2F.eq Tryz.func179 rfl (by kernel_rfl) fun i x h hi hw=>X2F.pure x h hw
def X2F.e:GE:=⟨179,X87,⟨_,Tryz.func179,rfl,rfl⟩,X2F.ok⟩
def XqQ(f:Str):Bool:=(X0g f).2
def Xmq(e:Eng):List (List Ser)×Bool:=if okF e.2.2=true then(XhY e.2.2++[e.2.1],true) else(XhY (e.2.2.takeWhile XqQ),false)
def pLyr(e:Eng):Prop:=(∀f∈e.2.2,Xc9 f)∧e.2.2.length≤1000
structure lyI (e:Eng) (out:List (List Ser)) (i:Int) (fl:Int) (ca:List Ser) (fi:List Str):Prop where
 h0:((fl,(ca,fi)):Eng)=e
 h1:0≤i
 h2:i≤e.2.2.length
 h3:out=XhY (e.2.2.take i.toNat)
 h4:∀j,j<i.toNat→XqQ (e.2.2.getD j [])=true
def lyM(e:Eng)(out:List (List Ser))(i:Int)(fl:Int)(ca:List Ser)(fi:List Str):Nat:=(e.2.2.length - i).toNat
theorem Xki(l:List Str):(XhY l).length=l.length:=by simp[XhY]
theorem XqF{e:Eng}{i fl:Int}{ca:List Ser}{fi:List Str}{out:List (List Ser)}(h:lyI e out i fl ca fi)(hi:i<e.2.2.length)(hr:(X0g (e.2.2.getD i.toNat [])).2=true):lyI e (out++[(X0g (e.2.2.getD i.toNat [])).1]) (i+1) fl ca fi:=by
 obtain⟨h0,h1,h2,h3,h4⟩:=h
 refine⟨h0,by omega,by omega,?_,fun j hj=>?_⟩
 · rw[tn1 h1,X0P [] (by omega),h3];simp[XhY]
 · by_cases ej:j=i.toNat
   · rw[ej];exact hr
   · exact h4 j (by omega)
theorem XdJ{p:Str→Bool}:∀{l:List Str} {i:Nat},i<l.length→(∀j,j<i→p (l.getD j [])=true)→p (l.getD i [])=false→l.takeWhile p=l.take i
 | [],i,h,_,_=>by simp at h
 | x::l,0,h,_,h2=>by
   have:p x=false:=by simpa using h2
   simp[List.takeWhile_cons,this]
 | x::l,i+1,h,h1,h2=>by
   have h0:p x=true:=by simpa using h1 0 (by omega)
   rw[List.takeWhile_cons,if_pos h0,List.take_succ_cons,XdJ (l:=l) (i:=i) (by simpa using h) (fun j hj=>by simpa using h1 (j+1) (by omega)) (by simpa using h2)]
theorem ly_no{e:Eng}{i fl:Int}{ca:List Ser}{fi:List Str}{out:List (List Ser)}(h:lyI e out i fl ca fi)(hi:i<e.2.2.length)(hr:(X0g (e.2.2.getD i.toNat [])).2=false):(out,false)=Xmq e:=by
 obtain⟨h0,h1,h2,h3,h4⟩:=h
 have hm:=X2g (d:=([]:Str)) (by omega:i.toNat<e.2.2.length)
 unfold Xmq
 rw[if_neg (fun hh=>by have:=List.all_eq_true.1 hh _ hm;rw[hr]at this;cases this),XdJ (p:=XqQ) (by omega) h4 hr,h3]
theorem Xti{e:Eng}{i fl:Int}{ca:List Ser}{fi:List Str}{out:List (List Ser)}(h:lyI e out i fl ca fi)(hi:¬i<e.2.2.length):(out++[e.2.1],true)=Xmq e:=by
 obtain⟨h0,h1,h2,h3,h4⟩:=h
 have e1:i.toNat=e.2.2.length:=by omega
 rw[e1]at h4
 rw[e1,List.take_length]at h3
 unfold Xmq
 rw[if_pos,h3]
 refine List.all_eq_true.2 fun f hf=>?_
 obtain⟨j,hj,e2⟩:=List.getElem_of_mem hf
 have:=h4 j hj
 rw[X1w hj,e2]at this;exact this
def X6j:Con:={A:=Xjp,shA:=[.agg 3],R:=(.pair (.list X5X) .bool),shR:=[(false,1),(false,1)],pre:=fun _ a=>(pLyr a),f:=some fun _ a=>((Xmq a),((),()))}
def X1z.F(a0:Xad):Prop:=(eS [(1,.box 2 0)] [(1,.box 2 0)]∧((lyI a0 ([]:List U1q) 0 a0.1 a0.2.1 a0.2.2)∧∀(y1:((List U1q)×(Int×Xad))),(lyI a0 y1.1 y1.2.1 y1.2.2.1 y1.2.2.2.1 y1.2.2.2.2)→(X00 (decide (y1.2.1<(ln y1.2.2.2.2))) (0≤y1.2.1∧(y1.2.1<(ln y1.2.2.2.2)∧((Xc9 (List.getD y1.2.2.2.2 (tN y1.2.1) []))∧∀r2,(Eq r2 ((X0g (List.getD y1.2.2.2.2 (tN y1.2.1) [])),((),())))→(X00 (!r2.1.2) (Eq ((y1.1,false),((),())) ((Xmq a0),((),()))) (List.length y1.1+List.length [r2.1.1]≤9223372036854775807∧((List.length y1.1+List.length [r2.1.1])*24≤140737488355328∧(eS [(1,.box 2 0)] [(1,.box 2 0)]∧(lyI a0 (y1.1++[r2.1.1]) (wI (y1.2.1+(1:Int))) y1.2.2.1 y1.2.2.2.1 y1.2.2.2.2)∧(lyM a0 (y1.1++[r2.1.1]) (wI (y1.2.1+(1:Int))) y1.2.2.1 y1.2.2.2.1 y1.2.2.2.2)<(lyM a0 y1.1 y1.2.1 y1.2.2.1 y1.2.2.2.1 y1.2.2.2.2)))))))) (List.length y1.1+List.length [y1.2.2.2.1]≤9223372036854775807∧((List.length y1.1+List.length [y1.2.2.2.1])*24≤140737488355328∧(Eq (((y1.1++[y1.2.2.2.1]),true),((),())) ((Xmq a0),((),()))))))))
def X1z.L(a0:Xad):Nat→Option X0e:=fun p=>Go.Proofs.YtcfaphojdacmbaaGreatR.Bv.look p [(58,{kp:={hold:=[1],slots:=[4,5],boxes:=[2],rows:=[{bx:=false,s:=4,i:=0,k:=1000515,e:=25,hot:=false}]},T:=(.pair (.list X5X) (.pair (.int .i64) Xjp)),I:=fun st y=>lyI a0 y.1 y.2.1 y.2.2.1 y.2.2.2.1 y.2.2.2.2,μ:=fun st y=>lyM a0 y.1 y.2.1 y.2.2.1 y.2.2.2.1 y.2.2.2.2})]
theorem X1z.pure(a0:Xad)(h:(pLyr a0))(hw:Wf X6j.A a0):X1z.F a0:=by
 delta X1z.F ln tN wI eS
 simp only[Bs,B0,B1,Prod.mk.injEq,X01,Prod.eta]
 obtain⟨hf,hl⟩:=h
 refine⟨⟨rfl,by omega,by omega,by simp[XhY],fun j hj=>absurd hj (by simp)⟩,?_⟩
 rintro⟨out,i,fl,ca,fi⟩ hI
 simp only at hI ⊢
 have q1:=hI.h1
 have q2:=hI.h2
 have q3:=congrArg List.length hI.h3
 rw[Xki,List.length_take]at q3
 have st:=XqF hI
 have no:=ly_no hI
 have en:=Xti hI
 obtain rfl:=hI.h0
 simp only at hf hl q2 q3 st no en ⊢
 refine⟨fun hi=>?_,fun hi=>⟨by omega,by omega,en hi⟩⟩
 have hm:=X2g (d:=([]:List UInt8)) (by omega:i.toNat<fi.length)
 rw[w64 (x:=i+1) (by omega) (by omega)]
 exact⟨q1,hi,hf _ hm,fun hr=>no hi hr,fun hr=>⟨by omega,by omega,st hi hr,by unfold lyM;simp only;omega⟩⟩
theorem X1z.eq:EqS X6j Tryz.f106 [132,4] [X2r.e] [] (fun i x=>X1z.L x) (fun i x=>X1z.F x):=by intro i x;kernel_rfl
theorem X1z.ok:X0k Tryz.prog 106 X6j:=X1Z X1z.eq Tryz.func106 rfl (by kernel_rfl) fun i x h hi hw=>X1z.pure x h hw
def X1z.e:GE:=⟨106,X6j,⟨_,Tryz.func106,rfl,rfl⟩,X1z.ok⟩
def Xal(ls:List (List Ser))(f:Int)(k:Str):List Pt:=X3V (Xsp ls k) f 1099511627777
def XpM(ls:List (List Ser))(f:Int)(k:Str):Prop:=cL tot ls≤10000000
structure hsI (ls:List (List Ser)) (f:Int) (k:Str) (i:Int) (out:List Pt):Prop where
 h1:0≤i
 h2:i≤ls.length
 h3:out=Xsp (ls.take i.toNat) k
 h4:(out.length:Int)≤cL tot (ls.take i.toNat)
def hsM(ls:List (List Ser))(f:Int)(k:Str)(i:Int)(out:List Pt):Nat:=(ls.length - i).toNat
theorem XnV{ls:List (List Ser)}{f:Int}{k:Str}{i:Int}{out o':List Pt}(h:hsI ls f k i out)(hi:i<ls.length)(ho:o'=X46 out (X5d (ls.getD i.toNat []) k))(hl:(X5d (ls.getD i.toNat []) k).length≤tot (ls.getD i.toNat [])):hsI ls f k (i+1) o':=by
 obtain⟨h1,h2,h3,h4⟩:=h
 have a:=(X4a tot [] (by omega:i.toNat<ls.length)).1
 have b:=Xao (X5d (ls.getD i.toNat []) k) out
 refine⟨by omega,by omega,?_,by rw[tn1 h1,a,ho];omega⟩
 rw[tn1 h1,X0P [] (by omega),ho,h3]
 simp only[Xsp,List.foldl_append,List.foldl_cons,List.foldl_nil]
theorem XqO(l:List Ser)(k:Str):((X5d l k).length:Int)≤tot l:=by
 induction l with
 | nil=>simp[Xna,tot,cL]
 | cons x l ih=>
   have h1:tot (x::l)=cS x+tot l:=X3Z ..
   have h2:cS x=(x.2.length:Int)+1:=rfl
   have h3:=XaW l
   rw[X3w];split<;>omega
theorem XrT{ls:List (List Ser)}{f:Int}{k:Str}{i:Int}{out:List Pt}(h:hsI ls f k i out)(hi:¬i<ls.length):X3V out f 1099511627777=Xal ls f k∧(out.length:Int)≤cL tot ls:=by
 obtain⟨h1,h2,h3,h4⟩:=h
 rw[show i.toNat=ls.length by omega,List.take_length]at h3 h4
 exact⟨by rw[h3];rfl,h4⟩
def Xqk(ls:List (List Ser))(f:Int):List Ser:=((X6V ls).map fun k=>(k,Xal ls f k)).filter fun x=>!x.2.isEmpty
def pPlS(ls:List (List Ser))(f:Int):Prop:=cL tot ls≤10000000
structure psI (ls:List (List Ser)) (f i:Int) (out:List Ser):Prop where
 h1:0≤i
 h2:i≤(X6V ls).length
 h3:out=(((X6V ls).take i.toNat).map fun k=>(k,Xal ls f k)).filter fun x=>!x.2.isEmpty
 h4:(out.length:Int)≤i
def psM(ls:List (List Ser))(f i:Int)(out:List Ser):Nat:=((X6V ls).length - i).toNat
theorem Xt8{ls:List (List Ser)}{f i:Int}{out:List Ser}(h:psI ls f i out)(hi:i<(X6V ls).length)(hn:0<(Xal ls f ((X6V ls).getD i.toNat [])).length):psI ls f (i+1) (out++[((X6V ls).getD i.toNat [],Xal ls f ((X6V ls).getD i.toNat []))]):=by
 obtain⟨h1,h2,h3,h4⟩:=h
 refine⟨by omega,by omega,?_,by simp;omega⟩
 rw[tn1 h1,X0P [] (by omega),List.map_append,List.filter_append,←h3]
 generalize (X6V ls).getD i.toNat []=x at*
 have:(Xal ls f x).isEmpty=false:=by
  cases e:Xal ls f x with
  | nil=>rw[e]at hn;simp at hn
  | cons=>rfl
 simp[this]
theorem ps_no{ls:List (List Ser)}{f i:Int}{out:List Ser}(h:psI ls f i out)(hi:i<(X6V ls).length)(hn:¬0<(Xal ls f ((X6V ls).getD i.toNat [])).length):psI ls f (i+1) out:=by
 obtain⟨h1,h2,h3,h4⟩:=h
 refine⟨by omega,by omega,?_,by omega⟩
 rw[tn1 h1,X0P [] (by omega),List.map_append,List.filter_append,←h3]
 generalize (X6V ls).getD i.toNat []=x at*
 have:Xal ls f x=[]:=List.length_eq_zero_iff.1 (by omega)
 simp[this]
theorem Xt5{ls:List (List Ser)}{f i:Int}{out:List Ser}(h:psI ls f i out)(hi:¬i<(X6V ls).length):out=Xqk ls f:=by
 obtain⟨h1,h2,h3,h4⟩:=h
 rw[h3,show i.toNat=(X6V ls).length by omega,List.take_length];rfl
theorem XjZ(ls:List (List Ser)):((X6V ls).length:Int)≤cL tot ls:=by
 have:∀(ls:List (List Ser)) (o:List Str),((ls.foldl X8r o).length:Int)≤o.length+cL tot ls:=by
  intro ls
  induction ls with
  | nil=>intro o;simp[cL]
  | cons t ls ih=>
    intro o
    have h1:=ih (X8r o t)
    have h2:=Xcf t o
    have h3:=XaX t
    rw[List.foldl_cons,X3Z];omega
 have h:=this ls []
 simpa [X6V] using h
def X8D:Con:={A:=(.pair (.list X5X) (.pair (.int .i64) .str)),shA:=[.one,.one,.one],R:=XaB,shR:=[(false,1)],fresh:=[(0,85)],pre:=fun _ a=>(XpM a.1 a.2.1 a.2.2),f:=some fun _ a=>((Xal a.1 a.2.1 a.2.2),((),()))}
def X3a.F(a0:(List U1q))(a1:Int)(a2:U5q):Prop:=(eS [(0,.val false [.lst X5X a0 none]),(1,.val false [.int .i64 a1]),(2,.val false [.str a2])] [(0,.val false [.lst X5X a0 none]),(1,.val false [.int .i64 a1]),(2,.val false [.str a2])]∧((hsI a0 a1 a2 0 ([]:List (Int×Int)))∧∀(y1:(Int×U6q)),(hsI a0 a1 a2 y1.1 y1.2)→(X00 (decide (y1.1<(ln a0))) (0≤y1.1∧(y1.1<(ln a0)∧(True∧∀r2,(Eq r2 ((fAt (List.getD a0 (tN y1.1) []) a2),((),())))→(X00 (decide (r2.1≥(0:Int))) (0≤y1.1∧(y1.1<(ln a0)∧(0≤r2.1∧(r2.1<(ln (List.getD a0 (tN y1.1) []))∧((Xpe y1.2 ((List.getD (List.getD a0 (tN y1.1) []) (tN r2.1) ([],[])).2))∧∀r3,(Eq r3 ((Xow y1.2 ((List.getD (List.getD a0 (tN y1.1) []) (tN r2.1) ([],[])).2)),((),())))→(eS [(0,.val false [.lst X5X a0 none]),(1,.val false [.int .i64 a1]),(2,.val false [.str a2])] [(0,.val false [.lst X5X a0 none]),(1,.val false [.int .i64 a1]),(2,.val false [.str a2])]∧(hsI a0 a1 a2 (wI (y1.1+(1:Int))) r3.1)∧(hsM a0 a1 a2 (wI (y1.1+(1:Int))) r3.1)<(hsM a0 a1 a2 y1.1 y1.2))))))) (eS [(0,.val false [.lst X5X a0 none]),(1,.val false [.int .i64 a1]),(2,.val false [.str a2])] [(0,.val false [.lst X5X a0 none]),(1,.val false [.int .i64 a1]),(2,.val false [.str a2])]∧(hsI a0 a1 a2 (wI (y1.1+(1:Int))) y1.2)∧(hsM a0 a1 a2 (wI (y1.1+(1:Int))) y1.2)<(hsM a0 a1 a2 y1.1 y1.2)))))) ((Xb0 y1.2 a1 1099511627777)∧∀r4,(Eq r4 ((X3V y1.2 a1 1099511627777),((),())))→(Eq (r4.1,((),())) ((Xal a0 a1 a2),((),())))))))
def X3a.L(a0:(List U1q))(a1:Int)(a2:U5q):Nat→Option X0e:=fun p=>Go.Proofs.YtcfaphojdacmbaaGreatR.Bv.look p [(58,{kp:={hold:=[0,1,2],slots:=[7,8],boxes:=[],rows:=[{bx:=false,s:=7,i:=0,k:=1000899,e:=85,hot:=true}]},T:=Xmg,I:=fun st y=>hsI a0 a1 a2 y.1 y.2,μ:=fun st y=>hsM a0 a1 a2 y.1 y.2})]
theorem X3a.pure(a0:(List U1q))(a1:Int)(a2:U5q)(h:(XpM a0 a1 a2))(hw:Wf X8D.A (a0,a1,a2)):X3a.F a0 a1 a2:=by
 delta X3a.F ln tN wI eS
 simp only[Bs,B0,B1,Prod.mk.injEq,X01,Xpe,Xow,Xb0]
 have hn:cL tot a0≤10000000:=h
 have hl:a0.length≤9223372036854775807:=hw.1.1
 refine⟨⟨by omega,by omega,rfl,by simp[cL]⟩,?_⟩
 rintro⟨i,out⟩ hI
 simp only at hI ⊢
 have q1:=hI.h1
 have q2:=hI.h2
 have q4:=hI.h4
 refine⟨fun hi=>?_,fun hi=>?_⟩
 · obtain⟨a1',a2'⟩:=XsO (a0.getD i.toNat []) a2
   have b1:=XqO (a0.getD i.toNat []) a2
   have b2:=Xl1 (ls:=a0) (i:=i.toNat) (by omega)
   have b3:=Xh1 (a0.take i.toNat)
   have b4:=XaW (a0.getD i.toNat [])
   rw[w64 (x:=i+1) (by omega) (by omega)]
   refine⟨q1,hi,fun h3=>?_,fun h3=>⟨XnV hI hi (by rw[a2' h3,Xfx]) b1,by unfold hsM;omega⟩⟩
   obtain⟨c1,c2⟩:=a1' h3
   rw[c2]
   exact⟨q1,hi,by omega,c1,⟨by omega,by omega⟩,XnV hI hi rfl b1,by unfold hsM;omega⟩
 · obtain⟨e1,e2⟩:=XrT hI hi
   exact⟨by omega,e1⟩
theorem X3a.eq:EqS X8D Tryz.f112 [64] [X2J.e,X2E.e,X3M.e] [] (fun i x=>X3a.L x.1 x.2.1 x.2.2) (fun i x=>X3a.F x.1 x.2.1 x.2.2):=by intro i x;kernel_rfl
theorem X3a.ok:X0k Tryz.prog 112 X8D:=X1Z X3a.eq Tryz.func112 rfl (by kernel_rfl) fun i x h hi hw=>X3a.pure x.1 x.2.1 x.2.2 h hw
def X3a.e:GE:=⟨112,X8D,⟨_,Tryz.func112,rfl,rfl⟩,X3a.ok⟩
def X7z:Con:={A:=(.pair (.list X5X) (.int .i64)),shA:=[.one,.one],R:=X5X,shR:=[(false,1)],pre:=fun _ a=>(pPlS a.1 a.2),f:=some fun _ a=>((Xqk a.1 a.2),((),()))}
def X2c.F(a0:(List U1q))(a1:Int):Prop:=((Xpg a0)∧∀r1,(Eq r1 ((X6V a0),((),())))→(eS [(0,.val false [.lst X5X a0 none]),(1,.val false [.int .i64 a1]),(6,.val false [.lst .str r1.1 none])] [(0,.val false [.lst X5X a0 none]),(1,.val false [.int .i64 a1]),(6,.val false [.lst .str r1.1 none])]∧((psI a0 a1 0 ([]:List (U5q×U6q)))∧∀(y2:(Int×U1q)),(psI a0 a1 y2.1 y2.2)→(X00 (decide (y2.1<(ln r1.1))) (0≤y2.1∧(y2.1<(ln r1.1)∧((XpM a0 a1 (List.getD r1.1 (tN y2.1) []))∧∀r3,(Eq r3 ((Xal a0 a1 (List.getD r1.1 (tN y2.1) [])),((),())))→(X00 (decide ((ln r3.1)>(0:Int))) (0≤y2.1∧(y2.1<(ln r1.1)∧(List.length y2.2+List.length ([((List.getD r1.1 (tN y2.1) []),r3.1)]:List (U5q×U6q))≤9223372036854775807∧((List.length y2.2+List.length ([((List.getD r1.1 (tN y2.1) []),r3.1)]:List (U5q×U6q)))*40≤140737488355328∧(eS [(0,.val false [.lst X5X a0 none]),(1,.val false [.int .i64 a1]),(6,.val false [.lst .str r1.1 none])] [(0,.val false [.lst X5X a0 none]),(1,.val false [.int .i64 a1]),(6,.val false [.lst .str r1.1 none])]∧(psI a0 a1 (wI (y2.1+(1:Int))) (y2.2++[((List.getD r1.1 (tN y2.1) []),r3.1)]))∧(psM a0 a1 (wI (y2.1+(1:Int))) (y2.2++[((List.getD r1.1 (tN y2.1) []),r3.1)]))<(psM a0 a1 y2.1 y2.2)))))) (eS [(0,.val false [.lst X5X a0 none]),(1,.val false [.int .i64 a1]),(6,.val false [.lst .str r1.1 none])] [(0,.val false [.lst X5X a0 none]),(1,.val false [.int .i64 a1]),(6,.val false [.lst .str r1.1 none])]∧(psI a0 a1 (wI (y2.1+(1:Int))) y2.2)∧(psM a0 a1 (wI (y2.1+(1:Int))) y2.2)<(psM a0 a1 y2.1 y2.2)))))) (Eq (y2.2,((),())) ((Xqk a0 a1),((),())))))))
def X2c.L(a0:(List U1q))(a1:Int):Nat→Option X0e:=fun p=>Go.Proofs.YtcfaphojdacmbaaGreatR.Bv.look p [(122,{kp:={hold:=[0,1,6],slots:=[5,7],boxes:=[],rows:=[{bx:=false,s:=5,i:=0,k:=1000643,e:=83,hot:=true}]},T:=(.pair (.int .i64) X5X),I:=fun st y=>psI a0 a1 y.1 y.2,μ:=fun st y=>psM a0 a1 y.1 y.2})]
theorem X2c.pure(a0:(List U1q))(a1:Int)(h:(pPlS a0 a1))(hw:Wf X7z.A (a0,a1)):X2c.F a0 a1:=by
 delta X2c.F ln tN wI eS
 simp only[Bs,B0,B1,Prod.mk.injEq,X01,Xpg,XpM]
 have hn:cL tot a0≤10000000:=h
 have hk:=XjZ a0
 refine⟨hn,⟨by omega,by omega,rfl,by simp⟩,?_⟩
 rintro⟨i,out⟩ hI
 simp only at hI ⊢
 have q1:=hI.h1
 have q2:=hI.h2
 have q4:=hI.h4
 refine⟨fun hi=>?_,fun hi=>Xt5 hI hi⟩
 rw[w64 (x:=i+1) (by omega) (by omega)]
 refine⟨q1,hi,hn,fun h3=>⟨q1,hi,by omega,by omega,Xt8 hI hi (by omega),by unfold psM;omega⟩,fun h3=>⟨ps_no hI hi (by omega),by unfold psM;omega⟩⟩
theorem X2c.eq:EqS X7z Tryz.f107 [25] [X3a.e,X2F.e] [] (fun i x=>X2c.L x.1 x.2) (fun i x=>X2c.F x.1 x.2):=by intro i x;kernel_rfl
theorem X2c.ok:X0k Tryz.prog 107 X7z:=X1Z X2c.eq Tryz.func107 rfl (by kernel_rfl) fun i x h hi hw=>X2c.pure x.1 x.2 h hw
def X2c.e:GE:=⟨107,X7z,⟨_,Tryz.func107,rfl,rfl⟩,X2c.ok⟩
def X73:Con:={A:=X5X,shA:=[.one],R:=(.int .i64),shR:=[(false,1)],pre:=fun _ a=>(Xq7 a),f:=some fun _ a=>((Xg4 a),((),()))}
def X2a.F(a0:U1q):Prop:=(eS [(0,.val false [.lst T4q a0 none])] [(0,.val false [.lst T4q a0 none])]∧((cnI a0 0 0)∧∀(y1:(Int×Int)),(cnI a0 y1.1 y1.2)→(X00 (decide (y1.2<(ln a0))) (0≤y1.2∧(y1.2<(ln a0)∧(eS [(0,.val false [.lst T4q a0 none])] [(0,.val false [.lst T4q a0 none])]∧(cnI a0 (wI (y1.1+(ln ((List.getD a0 (tN y1.2) ([],[])).2)))) (wI (y1.2+(1:Int))))∧(cnM a0 (wI (y1.1+(ln ((List.getD a0 (tN y1.2) ([],[])).2)))) (wI (y1.2+(1:Int))))<(cnM a0 y1.1 y1.2)))) (Eq (y1.1,((),())) ((Xg4 a0),((),()))))))
def X2a.L(a0:U1q):Nat→Option X0e:=fun p=>Go.Proofs.YtcfaphojdacmbaaGreatR.Bv.look p [(58,{kp:={hold:=[0],slots:=[3,4],boxes:=[],rows:=[]},T:=T0q,I:=fun st y=>cnI a0 y.1 y.2,μ:=fun st y=>cnM a0 y.1 y.2})]
theorem X2a.pure(a0:U1q)(h:(Xq7 a0))(hw:Wf X73.A a0):X2a.F a0:=by
 delta X2a.F ln tN wI eS
 simp only[Bs,B0,B1,Prod.mk.injEq,X01]
 have hn:tot a0≤100000000:=h
 have k0:=Xh0 a0
 have k1:=XaX a0
 refine⟨⟨by omega,by omega,by simp[Xg4,cL]⟩,?_⟩
 rintro⟨n,i⟩ hI
 simp only at hI ⊢
 have q1:=hI.1
 have q2:=hI.2.1
 refine⟨fun hi=>?_,fun hi=>XpS hI hi⟩
 have k2:=Xs3 hI hi
 have st:=Xnr hI hi
 rw[w64 (x:=i+1) (by omega) (by omega),w64 (by omega) (by omega)]
 exact⟨q1,hi,st,by unfold cnM;omega⟩
theorem X2a.eq:EqS X73 Tryz.f105 [3] [] [] (fun i x=>X2a.L x) (fun i x=>X2a.F x):=by intro i x;kernel_rfl
theorem X2a.ok:X0k Tryz.prog 105 X73:=X1Z X2a.eq Tryz.func105 rfl (by kernel_rfl) fun i x h hi hw=>X2a.pure x h hw
def X2a.e:GE:=⟨105,X73,⟨_,Tryz.func105,rfl,rfl⟩,X2a.ok⟩
end Go.Proofs.YtcfaphojdacmbaaGreatR.B
