/- Engines:right or not,in the reference. -/
import Derived.Test.YtcfaphojdacmbaaGreatRCEngB
set_option maxRecDepth 100000
set_option linter.unusedVariables false
set_option linter.unusedSimpArgs false
namespace Go.Proofs.YtcfaphojdacmbaaGreatR.B
open Go Go.Proofs.YtcfaphojdacmbaaGreatR.Bv
def fAt(l:List Ser)(k:List UInt8):Int:=if l.findIdx (fun x=>decide (x.1=k))<l.length then((l.findIdx (fun x=>decide (x.1=k)):Nat):Int) else -1
def atI(l:List Ser)(k:List UInt8)(i:Int):Prop:=0≤i∧i≤l.length∧∀j,j<i.toNat→¬(l.getD j ([],[])).1=k
def atM(l:List Ser)(k:List UInt8)(i:Int):Nat:=(l.length - i).toNat
theorem XqS{l:List Ser}{k:List UInt8}{i:Int}(h:atI l k i)(hi:i<l.length)(hd:(l.getD i.toNat ([],[])).1=k):i=fAt l k:=by
 obtain⟨h1,h2,h3⟩:=h
 have e:l.findIdx (fun x=>decide (x.1=k))=i.toNat:=by
  refine(List.findIdx_eq (by omega)).2 ⟨by rw[X0R (by omega)]at hd;simpa using hd,fun j hj=>?_⟩
  have:=h3 j hj
  rw[X0R (by omega)]at this;simpa using this
 unfold fAt
 rw[e,if_pos (by omega)];omega
theorem at_no{l:List Ser}{k:List UInt8}{i:Int}(h:atI l k i)(hi:¬i<l.length):-1=fAt l k:=by
 obtain⟨h1,h2,h3⟩:=h
 have e:¬l.findIdx (fun x=>decide (x.1=k))<l.length:=fun hlt=>by
  have a:=List.findIdx_getElem (w:=hlt)
  have b:=h3 (l.findIdx (fun x=>decide (x.1=k))) (by omega)
  rw[X0R hlt]at b
  exact b (by simpa using a)
 unfold fAt
 rw[if_neg e]
theorem Xk5{k:List UInt8}:∀(l:List Ser) (h:l.findIdx (fun x=>decide (x.1=k))<l.length),(l[l.findIdx (fun x=>decide (x.1=k))]).2=X2Q l k
 | [],h=>by simp at h
 | x::l,h=>by
   rw[X2p]
   by_cases hx:x.1=k
   · simp[List.findIdx_cons,hx]
   · have e:(x::l).findIdx (fun x=>decide (x.1=k))=l.findIdx (fun x=>decide (x.1=k))+1:=by simp[List.findIdx_cons,hx]
     have h':l.findIdx (fun x=>decide (x.1=k))<l.length:=by rw[e]at h;simpa using h
     simp only[e,if_neg hx,List.getElem_cons_succ]
     exact Xk5 l h'
theorem Xs4(l:List Ser)(k:List UInt8):(fAt l k≥0→fAt l k<l.length∧(l.getD (fAt l k).toNat ([],[])).2=X2Q l k)∧(¬fAt l k≥0→X2Q l k=[]):=by
 unfold fAt
 by_cases h:l.findIdx (fun x=>decide (x.1=k))<l.length
 · rw[if_pos h]
   refine⟨fun _=>⟨by omega,?_⟩,fun h2=>absurd (by omega) h2⟩
   rw[Int.toNat_natCast,X0R h]
   exact Xk5 l h
 · rw[if_neg h]
   refine⟨fun h2=>absurd h2 (by decide),fun _=>X9I ?_⟩
   rw[Bool.eq_false_iff];intro hh
   obtain⟨x,hx,e⟩:=X5i.1 hh
   exact h (List.findIdx_lt_length_of_exists ⟨x,hx,by simpa using e⟩)
abbrev Str:=List UInt8
def nmP(key:Str):List Str→List Str
 | []=>[key]
 | x::l=>if Op.bytesLess key x=true then key::x::l else x::nmP key l
def X9m(l:List Str)(key:Str):List Str:=if key∈l then l else nmP key l
def XoB(l:List Str)(key:Str):Prop:=l.length≤100000000
def XcA(key:Str)(put:Bool)(l:List Str):List Str:=if put then l else nmP key l
structure nmI (l:List Str) (key:Str) (put:Bool) (i:Int) (out:List Str):Prop where
 h1:0≤i
 h2:i≤l.length
 h3:out++XcA key put (l.drop i.toNat)=nmP key l
 h4:(out.length:Int)≤i+1
 h5:put=false→(out.length:Int)≤i
 h6:∀j,j<i.toNat→¬l.getD j []=key
def nmM(l:List Str)(key:Str)(put:Bool)(i:Int)(out:List Str):Nat:=(l.length - i).toNat
def nmB(l:List Str)(key:Str)(put:Bool)(i:Int)(out r:List Str):Prop:=r=l∧nmI l key put i out
def nmN(l:List Str)(key:Str)(put:Bool)(i:Int)(out r:List Str):Nat:=nmM l key put i out
theorem Xqf{l:List Str}{key:Str}{put put':Bool}{i:Int}{out o':List Str}(h:nmI l key put i out)(hi:i<l.length)(hne:¬l.getD i.toNat []=key)(hl:(o'.length:Int)≤i+2∧(put'=false→(o'.length:Int)≤i+1))(he:∀r,o'++XcA key put' r=out++XcA key put (l.getD i.toNat []::r)):nmI l key put' (i+1) o':=by
 obtain⟨h1,h2,h3,h4,h5,h6⟩:=h
 refine⟨by omega,by omega,?_,by omega,hl.2,fun j hj=>?_⟩
 · rw[tn1 h1,he,←X4Q [] (by omega)];exact h3
 · by_cases e:j=i.toNat
   · rw[e];exact hne
   · exact h6 j (by omega)
theorem nm_in{l:List Str}{key:Str}{put:Bool}{i:Int}{out:List Str}(h:nmI l key put i out)(hi:i<l.length)(he:l.getD i.toNat []=key):l=X9m l key:=by
 have h1:=h.h1
 unfold X9m
 rw[if_pos]
 rw[←he];exact X14 (by omega)
theorem XrQ{l:List Str}{key:Str}{put:Bool}{i:Int}{out:List Str}(h:nmI l key put i out)(hi:¬i<l.length):(put=true→out=X9m l key)∧(put=false→out++[key]=X9m l key):=by
 obtain⟨h1,h2,h3,h4,h5,h6⟩:=h
 have e:i.toNat=l.length:=by omega
 rw[e]at h6
 rw[e,List.drop_length]at h3
 have hn:¬key∈l:=fun hm=>by
  obtain⟨j,hj,e2⟩:=List.getElem_of_mem hm
  exact h6 j hj (by rw[X0R hj];exact e2)
 unfold X9m
 rw[if_neg hn]
 refine⟨fun hp=>?_,fun hp=>?_⟩
 · rw[hp]at h3;simpa [XcA] using h3
 · rw[hp]at h3;simpa [XcA,nmP] using h3
theorem rn_no{k x:Str}{r:List Str}(h:Op.bytesLess k x=false):XcA k false (x::r)=x::XcA k false r:=by simp[XcA,nmP,h]
theorem XqA{k x:Str}{r:List Str}(h:Op.bytesLess k x=true):XcA k false (x::r)=k::XcA k true (x::r):=by simp[XcA,nmP,h]
theorem rn_t{k:Str}{r:List Str}:XcA k true r=r:=rfl
def X8o:Con:={A:=(.pair T9q .str),shA:=[.one,.one],R:=(.int .i64),shR:=[(false,1)],pre:=fun _ _=>True,f:=some fun _ a=>((fAt a.1 a.2),((),()))}
def X3w.F(a0:(List U1q))(a1:U5q):Prop:=(eS [(0,.val false [.lst T2q a0 none]),(1,.val false [.str a1])] [(0,.val false [.lst T2q a0 none]),(1,.val false [.str a1])]∧((atI a0 a1 0)∧∀(y1:Int),(atI a0 a1 y1)→(X00 (decide (y1<(ln a0))) (0≤y1∧(y1<(ln a0)∧(X00 (((List.getD a0 (tN y1) ([],[])).1)==a1) (Eq (y1,((),())) ((fAt a0 a1),((),()))) (eS [(0,.val false [.lst T2q a0 none]),(1,.val false [.str a1])] [(0,.val false [.lst T2q a0 none]),(1,.val false [.str a1])]∧(atI a0 a1 (wI (y1+(1:Int))))∧(atM a0 a1 (wI (y1+(1:Int))))<(atM a0 a1 y1))))) (Eq ((-1),((),())) ((fAt a0 a1),((),()))))))
def X3w.L(a0:(List U1q))(a1:U5q):Nat→Option X0d:=fun p=>Go.Proofs.YtcfaphojdacmbaaGreatR.Bv.look p [(26,{kp:={hold:=[0,1],slots:=[5],boxes:=[],rows:=[]},T:=(.int .i64),I:=fun st y=>atI a0 a1 y,μ:=fun st y=>atM a0 a1 y})]
theorem X3w.pure(a0:(List U1q))(a1:U5q)(h:True)(hw:Wf X8o.A (a0,a1)):X3w.F a0 a1:=by
 delta X3w.F ln tN wI eS
 simp only[Bs,B0,B1,Prod.mk.injEq,X01]
 have hl:a0.length≤9223372036854775807:=hw.1.1
 refine⟨⟨by omega,by omega,fun j hj=>absurd hj (by simp)⟩,?_⟩
 rintro i hI
 have q1:=hI.1
 have q2:=hI.2.1
 refine⟨fun hi=>⟨q1,hi,fun hd=>XqS hI hi hd,fun hd=>?_⟩,fun hi=>at_no hI hi⟩
 rw[w64 (x:=i+1) (by omega) (by omega)]
 refine⟨⟨by omega,by omega,fun j hj=>?_⟩,by unfold atM;omega⟩
 by_cases e:j=i.toNat
 · rw[e];exact hd
 · exact hI.2.2 j (by omega)
theorem X3w.eq:EqS X8o Tryz.f182 [3] [] [] (fun i x=>X3w.L x.1 x.2) (fun i x=>X3w.F x.1 x.2):=by intro i x;kernel_rfl
theorem X3w.ok:X0l Tryz.prog 182 X8o:=X2b X3w.eq Tryz.func182 rfl (by kernel_rfl) fun i x h hi hw=>X3w.pure x.1 x.2 h hw
def X3w.e:GE:=⟨182,X8o,⟨_,Tryz.func182,rfl,rfl⟩,X3w.ok⟩
def X7d:Con:={A:=(.pair (.list .str) .str),shA:=[.one,.one],ownA:=[(0,9)],R:=(.list .str),shR:=[(false,1)],fresh:=[(0,9)],pre:=fun _ a=>(XoB a.1 a.2),f:=some fun _ a=>((X9m a.1 a.2),((),()))}
def X2k.F(a0:(List U5q))(a1:U5q):Prop:=(eS [(0,.val false [.own .str 1000003]),(1,.val false [.str a1])] [(0,.val false [.own .str 1000003]),(1,.val false [.str a1])]∧((nmB a0 a1 false 0 ([]:List U5q) a0)∧∀(y1:(Bool×(Int×((List U5q)×(List U5q))))),(nmB a0 a1 y1.1 y1.2.1 y1.2.2.1 y1.2.2.2)→(X00 (decide (y1.2.1<(ln y1.2.2.2))) (0≤y1.2.1∧(y1.2.1<(ln y1.2.2.2)∧(X00 ((List.getD y1.2.2.2 (tN y1.2.1) [])==a1) (Eq (y1.2.2.2,((),())) ((X9m a0 a1),((),()))) (X00 (!y1.1) (0≤y1.2.1∧(y1.2.1<(ln y1.2.2.2)∧(X00 (Op.bytesLess a1 (List.getD y1.2.2.2 (tN y1.2.1) [])) (List.length y1.2.2.1+List.length [a1]≤9223372036854775807∧((List.length y1.2.2.1+List.length [a1])*16≤140737488355328∧(0≤y1.2.1∧(y1.2.1<(ln y1.2.2.2)∧(List.length (y1.2.2.1++[a1])+List.length ([(List.getD y1.2.2.2 (tN y1.2.1) [])]:List U5q)≤9223372036854775807∧((List.length (y1.2.2.1++[a1])+List.length ([(List.getD y1.2.2.2 (tN y1.2.1) [])]:List U5q))*16≤140737488355328∧(eS [(0,.val false [.own .str 1000003]),(1,.val false [.str a1])] [(0,.val false [.own .str 1000003]),(1,.val false [.str a1])]∧(nmB a0 a1 true (wI (y1.2.1+(1:Int))) ((y1.2.2.1++[a1])++[(List.getD y1.2.2.2 (tN y1.2.1) [])]) y1.2.2.2)∧(nmN a0 a1 true (wI (y1.2.1+(1:Int))) ((y1.2.2.1++[a1])++[(List.getD y1.2.2.2 (tN y1.2.1) [])]) y1.2.2.2)<(nmN a0 a1 y1.1 y1.2.1 y1.2.2.1 y1.2.2.2)))))))) (0≤y1.2.1∧(y1.2.1<(ln y1.2.2.2)∧(List.length y1.2.2.1+List.length ([(List.getD y1.2.2.2 (tN y1.2.1) [])]:List U5q)≤9223372036854775807∧((List.length y1.2.2.1+List.length ([(List.getD y1.2.2.2 (tN y1.2.1) [])]:List U5q))*16≤140737488355328∧(eS [(0,.val false [.own .str 1000003]),(1,.val false [.str a1])] [(0,.val false [.own .str 1000003]),(1,.val false [.str a1])]∧(nmB a0 a1 y1.1 (wI (y1.2.1+(1:Int))) (y1.2.2.1++[(List.getD y1.2.2.2 (tN y1.2.1) [])]) y1.2.2.2)∧(nmN a0 a1 y1.1 (wI (y1.2.1+(1:Int))) (y1.2.2.1++[(List.getD y1.2.2.2 (tN y1.2.1) [])]) y1.2.2.2)<(nmN a0 a1 y1.1 y1.2.1 y1.2.2.1 y1.2.2.2))))))))) (0≤y1.2.1∧(y1.2.1<(ln y1.2.2.2)∧(List.length y1.2.2.1+List.length ([(List.getD y1.2.2.2 (tN y1.2.1) [])]:List U5q)≤9223372036854775807∧((List.length y1.2.2.1+List.length ([(List.getD y1.2.2.2 (tN y1.2.1) [])]:List U5q))*16≤140737488355328∧(eS [(0,.val false [.own .str 1000003]),(1,.val false [.str a1])] [(0,.val false [.own .str 1000003]),(1,.val false [.str a1])]∧(nmB a0 a1 y1.1 (wI (y1.2.1+(1:Int))) (y1.2.2.1++[(List.getD y1.2.2.2 (tN y1.2.1) [])]) y1.2.2.2)∧(nmN a0 a1 y1.1 (wI (y1.2.1+(1:Int))) (y1.2.2.1++[(List.getD y1.2.2.2 (tN y1.2.1) [])]) y1.2.2.2)<(nmN a0 a1 y1.1 y1.2.1 y1.2.2.1 y1.2.2.2)))))))))) (X00 (!y1.1) (List.length y1.2.2.1+List.length [a1]≤9223372036854775807∧((List.length y1.2.2.1+List.length [a1])*16≤140737488355328∧(Eq ((y1.2.2.1++[a1]),((),())) ((X9m a0 a1),((),()))))) (Eq (y1.2.2.1,((),())) ((X9m a0 a1),((),())))))))
def X2k.L(a0:(List U5q))(a1:U5q):Nat→Option X0d:=fun p=>Go.Proofs.YtcfaphojdacmbaaGreatR.Bv.look p [(122,{kp:={hold:=[0,1],slots:=[5,6,7],boxes:=[],rows:=[{bx:=false,s:=5,i:=0,k:=1000643,e:=9,hot:=true},{bx:=false,s:=0,i:=0,k:=1000003,e:=9,hot:=true}]},T:=(.pair .bool (.pair (.int .i64) (.pair (.list .str) (.list .str)))),I:=fun st y=>nmB a0 a1 y.1 y.2.1 y.2.2.1 y.2.2.2,μ:=fun st y=>nmN a0 a1 y.1 y.2.1 y.2.2.1 y.2.2.2})]
theorem X2k.pure(a0:(List U5q))(a1:U5q)(h:(XoB a0 a1))(hw:Wf X7d.A (a0,a1)):X2k.F a0 a1:=by
 delta X2k.F ln tN wI eS
 simp only[Bs,B0,B1,Prod.mk.injEq,X01]
 have hl:a0.length≤100000000:=h
 refine⟨⟨rfl,⟨by omega,by omega,by simp[XcA],by simp,by simp,fun j hj=>absurd hj (by simp)⟩⟩,?_⟩
 rintro⟨put,i,out,r⟩ ⟨hr,hI⟩
 simp only at hr hI ⊢
 subst hr
 have q1:=hI.h1
 have q2:=hI.h2
 have q4:=hI.h4
 have q5:=hI.h5
 have hen:=XrQ hI
 refine⟨fun hi=>⟨q1,hi,fun he=>nm_in hI hi he,fun he=>?_⟩,fun hi=>?_⟩
 · have st:∀{put' o'},_→_→nmB r a1 put' (i+1) o' r:=fun h2 h3=>⟨rfl,Xqf hI hi he h2 h3⟩
   have dn:∀o p,nmN r a1 p (i+1) o r<nmN r a1 put i out r:=fun o p=>by unfold nmN nmM;omega
   generalize hx:r.getD i.toNat []=x at st ⊢
   rw[w64 (x:=i+1) (by omega) (by omega)]
   repeat' (with_reducible (first | (refine And.intro ?_ ?_) | intro _))
   all_goals (try simp (disch:=omega) only[w64,List.length_append,List.length_cons,List.length_nil]at*)
   all_goals (first
    | omega
    | exact dn _ _
    | (refine st (by(try simp only[List.length_append,List.length_cons,List.length_nil]);(try have:=q5 ‹_›);(first | omega | (refine ⟨by omega,fun hh=>?_⟩;first | omega | (have:=q5 hh;omega) | (exfalso;simp_all;done)))) fun r=>?_;(try rw[‹put=true›]);(try rw[‹put=false›]);(try simp only[List.append_assoc,List.cons_append,List.nil_append,rn_t]);first | done | rw[XqA ‹Op.bytesLess a1 x=true›,rn_t] | rw[rn_no ‹Op.bytesLess a1 x=false›] | rfl)
    | skip)
 · repeat' (with_reducible (first | (refine And.intro ?_ ?_) | intro _))
   all_goals (try simp (disch:=omega) only[w64,List.length_append,List.length_cons,List.length_nil]at*)
   all_goals (first | omega | exact(hen hi).1 ‹_› | exact(hen hi).2 ‹_› | skip)
theorem X2k.eq:EqS X7d Tryz.f230 [26] [] [] (fun i x=>X2k.L x.1 x.2) (fun i x=>X2k.F x.1 x.2):=by intro i x;kernel_rfl
theorem X2k.ok:X0l Tryz.prog 230 X7d:=X2b X2k.eq Tryz.func230 rfl (by kernel_rfl) fun i x h hi hw=>X2k.pure x.1 x.2 h hw
def X2k.e:GE:=⟨230,X7d,⟨_,Tryz.func230,rfl,rfl⟩,X2k.ok⟩
def X7s(o:List Str)(l:List Ser):List Str:=l.foldl (fun o x=>X9m o x.1) o
def X62(ls:List (List Ser)):List Str:=ls.foldl X7s []
def Xo0(ls:List (List Ser)):Prop:=cL tot ls≤10000000
theorem XgG(ls:List (List Ser)):0≤cL tot ls:=Xn3 Xak ls
theorem Xke{ls:List (List Ser)}:∀{i:Nat},i<ls.length→tot (ls.getD i [])+cL tot (ls.take i)≤cL tot ls:=fun {i} hi=>by
 have a:=(XbC tot [] hi).2
 have b:=XgG (ls.drop (i+1))
 omega
theorem Xgb(k:Str):∀l,(nmP k l).length=l.length+1
 | []=>rfl
 | x::l=>by rw[nmP];split<;>simp[Xgb k l]
theorem XcU(l:List Str)(k:Str):(X9m l k).length≤l.length+1:=by
 unfold X9m;split
 · omega
 · rw[Xgb];omega
theorem Xbz:∀(l:List Ser) (o:List Str),(X7s o l).length≤o.length+l.length
 | [],o=>by simp[X7s]
 | x::l,o=>by
   have h1:=Xbz l (X9m o x.1)
   have h2:=XcU o x.1
   show(X7s (X9m o x.1) l).length≤_
   rw[List.length_cons];omega
structure kyI (ls:List (List Ser)) (i:Int) (out:List Str):Prop where
 h1:0≤i
 h2:i≤ls.length
 h3:out=X62 (ls.take i.toNat)
 h4:(out.length:Int)≤cL tot (ls.take i.toNat)
def kyM(ls:List (List Ser))(i:Int)(out:List Str):Nat:=(ls.length - i).toNat
structure kzI (ls:List (List Ser)) (i k:Int) (out:List Str):Prop where
 h1:0≤i
 h2:i<ls.length
 h3:0≤k
 h4:k≤(ls.getD i.toNat []).length
 h5:out=X7s (X62 (ls.take i.toNat)) ((ls.getD i.toNat []).take k.toNat)
 h6:(out.length:Int)≤cL tot (ls.take i.toNat)+k
def kzM(ls:List (List Ser))(i k:Int)(out:List Str):Nat:=((ls.getD i.toNat []).length - k).toNat
theorem Xpq{ls:List (List Ser)}{i:Int}{out:List Str}(h:kyI ls i out)(hi:i<ls.length):kzI ls i 0 out:=by
 obtain⟨h1,h2,h3,h4⟩:=h
 exact⟨h1,hi,by omega,by omega,by simpa [X7s] using h3,by omega⟩
theorem Xpp{ls:List (List Ser)}{k i:Int}{out:List Str}(h:kzI ls i k out)(hk:k<(ls.getD i.toNat []).length):kzI ls i (k+1) (X9m out ((ls.getD i.toNat []).getD k.toNat ([],[])).1):=by
 obtain⟨h1,h2,h3,h4,h5,h6⟩:=h
 have:=XcU out ((ls.getD i.toNat []).getD k.toNat ([],[])).1
 refine⟨h1,h2,by omega,by omega,?_,by omega⟩
 rw[tn1 h3,X1S ([],[]) (by omega),h5]
 simp only[X7s,List.foldl_append,List.foldl_cons,List.foldl_nil]
theorem Xr9{ls:List (List Ser)}{k i:Int}{out:List Str}(h:kzI ls i k out)(hk:¬k<(ls.getD i.toNat []).length):kyI ls (i+1) out:=by
 obtain⟨h1,h2,h3,h4,h5,h6⟩:=h
 have e:k.toNat=(ls.getD i.toNat []).length:=by omega
 have a:=(XbC tot [] (by omega:i.toNat<ls.length)).1
 have b:=X7k (ls.getD i.toNat [])
 rw[e,List.take_length]at h5
 refine⟨by omega,by omega,?_,by rw[tn1 h1,a];omega⟩
 rw[tn1 h1,X1S [] (by omega),h5]
 simp only[X62,List.foldl_append,List.foldl_cons,List.foldl_nil]
theorem XqI{ls:List (List Ser)}{i:Int}{out:List Str}(h:kyI ls i out)(hi:¬i<ls.length):out=X62 ls:=by
 obtain⟨h1,h2,h3,h4⟩:=h
 rw[h3,show i.toNat=ls.length by omega,List.take_length]
def X6Y:Con:={A:=(.list T9q),shA:=[.one],R:=(.list .str),shR:=[(false,1)],fresh:=[(0,9)],pre:=fun _ a=>(Xo0 a),f:=some fun _ a=>((X62 a),((),()))}
def X2l.F(a0:(List (List U1q))):Prop:=(eS [(0,.val false [.lst T9q a0 none])] [(0,.val false [.lst T9q a0 none])]∧((kyI a0 0 ([]:List U5q))∧∀(y1:(Int×(List U5q))),(kyI a0 y1.1 y1.2)→(X00 (decide (y1.1<(ln a0))) (eS [(0,.val false [.lst T9q a0 none]),(4,.val false [.int .i64 y1.1])] [(0,.val false [.lst T9q a0 none]),(4,.val false [.int .i64 y1.1])]∧((kzI a0 y1.1 0 y1.2)∧∀(y2:(Int×(List U5q))),(kzI a0 y1.1 y2.1 y2.2)→(0≤y1.1∧(y1.1<(ln a0)∧(X00 (decide (y2.1<(ln (List.getD a0 (tN y1.1) [])))) (0≤y1.1∧(y1.1<(ln a0)∧(0≤y2.1∧(y2.1<(ln (List.getD a0 (tN y1.1) []))∧((XoB y2.2 ((List.getD (List.getD a0 (tN y1.1) []) (tN y2.1) ([],[])).1))∧∀r3,(Eq r3 ((X9m y2.2 ((List.getD (List.getD a0 (tN y1.1) []) (tN y2.1) ([],[])).1)),((),())))→(eS [(0,.val false [.lst T9q a0 none]),(4,.val false [.int .i64 y1.1])] [(0,.val false [.lst T9q a0 none]),(4,.val false [.int .i64 y1.1])]∧(kzI a0 y1.1 (wI (y2.1+(1:Int))) r3.1)∧(kzM a0 y1.1 (wI (y2.1+(1:Int))) r3.1)<(kzM a0 y1.1 y2.1 y2.2))))))) (eS [(0,.val false [.lst T9q a0 none])] [(0,.val false [.lst T9q a0 none])]∧(kyI a0 (wI (y1.1+(1:Int))) y2.2)∧(kyM a0 (wI (y1.1+(1:Int))) y2.2)<(kyM a0 y1.1 y1.2))))))) (Eq (y1.2,((),())) ((X62 a0),((),()))))))
def X2l.L(a0:(List (List U1q))):Nat→Option X0d:=fun p=>Go.Proofs.YtcfaphojdacmbaaGreatR.Bv.look p [(58,{kp:={hold:=[0],slots:=[3,4],boxes:=[],rows:=[{bx:=false,s:=3,i:=0,k:=1000387,e:=9,hot:=true}]},T:=(.pair (.int .i64) (.list .str)),I:=fun st y=>kyI a0 y.1 y.2,μ:=fun st y=>kyM a0 y.1 y.2}),(3730,{kp:={hold:=[0,4],slots:=[3,5],boxes:=[],rows:=[{bx:=false,s:=3,i:=0,k:=1000387,e:=9,hot:=true}]},T:=(.pair (.int .i64) (.list .str)),I:=fun st y=>kzI a0 (Xpj (Xda st 4 0)) y.1 y.2,μ:=fun st y=>kzM a0 (Xpj (Xda st 4 0)) y.1 y.2})]
theorem X2l.pure(a0:(List (List U1q)))(h:(Xo0 a0))(hw:Wf X6Y.A a0):X2l.F a0:=by
 delta X2l.F ln tN wI eS
 simp only[Bs,B0,B1,Prod.mk.injEq,X01,XoB]
 have hn:cL tot a0≤10000000:=h
 have hl:a0.length≤9223372036854775807:=hw.1
 refine⟨⟨by omega,by omega,rfl,by simp[cL]⟩,?_⟩
 rintro⟨i,out⟩ hI
 simp only at hI ⊢
 have q1:=hI.h1
 have q2:=hI.h2
 refine⟨fun hi=>⟨Xpq hI hi,?_⟩,fun hi=>XqI hI hi⟩
 rintro⟨k,o⟩ hK
 simp only at hK ⊢
 have z3:=hK.h3
 have z4:=hK.h4
 have z6:=hK.h6
 have hb:=Xke (ls:=a0) (i:=i.toNat) (by omega)
 have hb2:=X7k (a0.getD i.toNat [])
 have hb3:=XgG (a0.take i.toNat)
 refine⟨q1,hi,fun hk=>?_,fun hk=>?_⟩
 · rw[w64 (x:=k+1) (by omega) (by omega)]
   exact⟨q1,hi,z3,hk,by omega,Xpp hK hk,by unfold kzM;omega⟩
 · rw[w64 (x:=i+1) (by omega) (by omega)]
   exact⟨Xr9 hK hk,by unfold kyM;omega⟩
theorem X2l.eq:EqS X6Y Tryz.f179 [26] [X2k.e] [] (fun i x=>X2l.L x) (fun i x=>X2l.F x):=by intro i x;kernel_rfl
theorem X2l.ok:X0l Tryz.prog 179 X6Y:=X2b X2l.eq Tryz.func179 rfl (by kernel_rfl) fun i x h hi hw=>X2l.pure x h hw
def X2l.e:GE:=⟨179,X6Y,⟨_,Tryz.func179,rfl,rfl⟩,X2l.ok⟩
def Xm5(f:Str):Bool:=(X0e f).2
def Xhg(e:Eng):List (List Ser)×Bool:=if okF e.2.2=true then(X87 e.2.2++[e.2.1],true) else(X87 (e.2.2.takeWhile Xm5),false)
def XoG(e:Eng):Prop:=(∀f∈e.2.2,Xgn f)∧e.2.2.length≤1000
structure lyI (e:Eng) (out:List (List Ser)) (i:Int) (fl:Int) (ca:List Ser) (fi:List Str):Prop where
 h0:((fl,(ca,fi)):Eng)=e
 h1:0≤i
 h2:i≤e.2.2.length
 h3:out=X87 (e.2.2.take i.toNat)
 h4:∀j,j<i.toNat→Xm5 (e.2.2.getD j [])=true
def lyM(e:Eng)(out:List (List Ser))(i:Int)(fl:Int)(ca:List Ser)(fi:List Str):Nat:=(e.2.2.length - i).toNat
theorem Xeh(l:List Str):(X87 l).length=l.length:=by simp[X87]
theorem XmZ{e:Eng}{i fl:Int}{ca:List Ser}{fi:List Str}{out:List (List Ser)}(h:lyI e out i fl ca fi)(hi:i<e.2.2.length)(hr:(X0e (e.2.2.getD i.toNat [])).2=true):lyI e (out++[(X0e (e.2.2.getD i.toNat [])).1]) (i+1) fl ca fi:=by
 obtain⟨h0,h1,h2,h3,h4⟩:=h
 refine⟨h0,by omega,by omega,?_,fun j hj=>?_⟩
 · rw[tn1 h1,X1S [] (by omega),h3];simp[X87]
 · by_cases ej:j=i.toNat
   · rw[ej];exact hr
   · exact h4 j (by omega)
theorem XcV{p:Str→Bool}:∀{l:List Str} {i:Nat},i<l.length→(∀j,j<i→p (l.getD j [])=true)→p (l.getD i [])=false→l.takeWhile p=l.take i
 | [],i,h,_,_=>by simp at h
 | x::l,0,h,_,h2=>by
   have:p x=false:=by simpa using h2
   simp[List.takeWhile_cons,this]
 | x::l,i+1,h,h1,h2=>by
   have h0:p x=true:=by simpa using h1 0 (by omega)
   rw[List.takeWhile_cons,if_pos h0,List.take_succ_cons,XcV (l:=l) (i:=i) (by simpa using h) (fun j hj=>by simpa using h1 (j+1) (by omega)) (by simpa using h2)]
theorem Xro{e:Eng}{i fl:Int}{ca:List Ser}{fi:List Str}{out:List (List Ser)}(h:lyI e out i fl ca fi)(hi:i<e.2.2.length)(hr:(X0e (e.2.2.getD i.toNat [])).2=false):(out,false)=Xhg e:=by
 obtain⟨h0,h1,h2,h3,h4⟩:=h
 have hm:=X14 (d:=([]:Str)) (by omega:i.toNat<e.2.2.length)
 unfold Xhg
 rw[if_neg (fun hh=>by have:=List.all_eq_true.1 hh _ hm;rw[hr]at this;cases this),XcV (p:=Xm5) (by omega) h4 hr,h3]
theorem XoN{e:Eng}{i fl:Int}{ca:List Ser}{fi:List Str}{out:List (List Ser)}(h:lyI e out i fl ca fi)(hi:¬i<e.2.2.length):(out++[e.2.1],true)=Xhg e:=by
 obtain⟨h0,h1,h2,h3,h4⟩:=h
 have e1:i.toNat=e.2.2.length:=by omega
 rw[e1]at h4
 rw[e1,List.take_length]at h3
 unfold Xhg
 rw[if_pos,h3]
 refine List.all_eq_true.2 fun f hf=>?_
 obtain⟨j,hj,e2⟩:=List.getElem_of_mem hf
 have:=h4 j hj
 rw[X0R hj,e2]at this;exact this
def X5w:Con:={A:=T4q,shA:=[.agg 3],R:=(.pair (.list T9q) .bool),shR:=[(false,1),(false,1)],pre:=fun _ a=>(XoG a),f:=some fun _ a=>((Xhg a),((),()))}
def X1g.F(a0:U3q):Prop:=(eS [(1,.box 2 0)] [(1,.box 2 0)]∧((lyI a0 ([]:List (List U1q)) 0 a0.1 a0.2.1 a0.2.2)∧∀(y1:((List (List U1q))×(Int×U3q))),(lyI a0 y1.1 y1.2.1 y1.2.2.1 y1.2.2.2.1 y1.2.2.2.2)→(X00 (decide (y1.2.1<(ln y1.2.2.2.2))) (0≤y1.2.1∧(y1.2.1<(ln y1.2.2.2.2)∧((Xgn (List.getD y1.2.2.2.2 (tN y1.2.1) []))∧∀r2,(Eq r2 ((X0e (List.getD y1.2.2.2.2 (tN y1.2.1) [])),((),())))→(X00 (!r2.1.2) (Eq ((y1.1,false),((),())) ((Xhg a0),((),()))) (List.length y1.1+List.length [r2.1.1]≤9223372036854775807∧((List.length y1.1+List.length [r2.1.1])*24≤140737488355328∧(eS [(1,.box 2 0)] [(1,.box 2 0)]∧(lyI a0 (y1.1++[r2.1.1]) (wI (y1.2.1+(1:Int))) y1.2.2.1 y1.2.2.2.1 y1.2.2.2.2)∧(lyM a0 (y1.1++[r2.1.1]) (wI (y1.2.1+(1:Int))) y1.2.2.1 y1.2.2.2.1 y1.2.2.2.2)<(lyM a0 y1.1 y1.2.1 y1.2.2.1 y1.2.2.2.1 y1.2.2.2.2)))))))) (List.length y1.1+List.length [y1.2.2.2.1]≤9223372036854775807∧((List.length y1.1+List.length [y1.2.2.2.1])*24≤140737488355328∧(Eq (((y1.1++[y1.2.2.2.1]),true),((),())) ((Xhg a0),((),()))))))))
def X1g.L(a0:U3q):Nat→Option X0d:=fun p=>Go.Proofs.YtcfaphojdacmbaaGreatR.Bv.look p [(58,{kp:={hold:=[1],slots:=[4,5],boxes:=[2],rows:=[{bx:=false,s:=4,i:=0,k:=1000515,e:=25,hot:=false}]},T:=(.pair (.list T9q) (.pair (.int .i64) T4q)),I:=fun st y=>lyI a0 y.1 y.2.1 y.2.2.1 y.2.2.2.1 y.2.2.2.2,μ:=fun st y=>lyM a0 y.1 y.2.1 y.2.2.1 y.2.2.2.1 y.2.2.2.2})]
theorem X1g.pure(a0:U3q)(h:(XoG a0))(hw:Wf X5w.A a0):X1g.F a0:=by
 delta X1g.F ln tN wI eS
 simp only[Bs,B0,B1,Prod.mk.injEq,X01,Prod.eta]
 obtain⟨hf,hl⟩:=h
 refine⟨⟨rfl,by omega,by omega,by simp[X87],fun j hj=>absurd hj (by simp)⟩,?_⟩
 rintro⟨out,i,fl,ca,fi⟩ hI
 simp only at hI ⊢
 have q1:=hI.h1
 have q2:=hI.h2
 have q3:=congrArg List.length hI.h3
 rw[Xeh,List.length_take]at q3
 have st:=XmZ hI
 have no:=Xro hI
 have en:=XoN hI
 obtain rfl:=hI.h0
 simp only at hf hl q2 q3 st no en ⊢
 refine⟨fun hi=>?_,fun hi=>⟨by omega,by omega,en hi⟩⟩
 have hm:=X14 (d:=([]:List UInt8)) (by omega:i.toNat<fi.length)
 rw[w64 (x:=i+1) (by omega) (by omega)]
 exact⟨q1,hi,hf _ hm,fun hr=>no hi hr,fun hr=>⟨by omega,by omega,st hi hr,by unfold lyM;simp only;omega⟩⟩
theorem X1g.eq:EqS X5w Tryz.f106 [132,4] [X2c.e] [] (fun i x=>X1g.L x) (fun i x=>X1g.F x):=by intro i x;kernel_rfl
theorem X1g.ok:X0l Tryz.prog 106 X5w:=X2b X1g.eq Tryz.func106 rfl (by kernel_rfl) fun i x h hi hw=>X1g.pure x h hw
def X1g.e:GE:=⟨106,X5w,⟨_,Tryz.func106,rfl,rfl⟩,X1g.ok⟩
def X9x(ls:List (List Ser))(f:Int)(k:Str):List Pt:=X0Z (Xr1 ls k) f 1099511627777
def XnY(ls:List (List Ser))(f:Int)(k:Str):Prop:=cL tot ls≤10000000
structure hsI (ls:List (List Ser)) (f:Int) (k:Str) (i:Int) (out:List Pt):Prop where
 h1:0≤i
 h2:i≤ls.length
 h3:out=Xr1 (ls.take i.toNat) k
 h4:(out.length:Int)≤cL tot (ls.take i.toNat)
def hsM(ls:List (List Ser))(f:Int)(k:Str)(i:Int)(out:List Pt):Nat:=(ls.length - i).toNat
theorem XmA{ls:List (List Ser)}{f:Int}{k:Str}{i:Int}{out o':List Pt}(h:hsI ls f k i out)(hi:i<ls.length)(ho:o'=X2i out (X2Q (ls.getD i.toNat []) k))(hl:(X2Q (ls.getD i.toNat []) k).length≤tot (ls.getD i.toNat [])):hsI ls f k (i+1) o':=by
 obtain⟨h1,h2,h3,h4⟩:=h
 have a:=(XbC tot [] (by omega:i.toNat<ls.length)).1
 have b:=X7w (X2Q (ls.getD i.toNat []) k) out
 refine⟨by omega,by omega,?_,by rw[tn1 h1,a,ho];omega⟩
 rw[tn1 h1,X1S [] (by omega),ho,h3]
 simp only[Xr1,List.foldl_append,List.foldl_cons,List.foldl_nil]
theorem Xnm(l:List Ser)(k:Str):((X2Q l k).length:Int)≤tot l:=by
 induction l with
 | nil=>simp[XhF,tot,cL]
 | cons x l ih=>
   have h1:tot (x::l)=cS x+tot l:=X4T ..
   have h2:cS x=(x.2.length:Int)+1:=rfl
   have h3:=Xak l
   rw[X2p];split<;>omega
theorem Xqz{ls:List (List Ser)}{f:Int}{k:Str}{i:Int}{out:List Pt}(h:hsI ls f k i out)(hi:¬i<ls.length):X0Z out f 1099511627777=X9x ls f k∧(out.length:Int)≤cL tot ls:=by
 obtain⟨h1,h2,h3,h4⟩:=h
 rw[show i.toNat=ls.length by omega,List.take_length]at h3 h4
 exact⟨by rw[h3];rfl,h4⟩
def Xlm(ls:List (List Ser))(f:Int):List Ser:=((X62 ls).map fun k=>(k,X9x ls f k)).filter fun x=>!x.2.isEmpty
def Xo3(ls:List (List Ser))(f:Int):Prop:=cL tot ls≤10000000
structure psI (ls:List (List Ser)) (f i:Int) (out:List Ser):Prop where
 h1:0≤i
 h2:i≤(X62 ls).length
 h3:out=(((X62 ls).take i.toNat).map fun k=>(k,X9x ls f k)).filter fun x=>!x.2.isEmpty
 h4:(out.length:Int)≤i
def psM(ls:List (List Ser))(f i:Int)(out:List Ser):Nat:=((X62 ls).length - i).toNat
theorem Xs5{ls:List (List Ser)}{f i:Int}{out:List Ser}(h:psI ls f i out)(hi:i<(X62 ls).length)(hn:0<(X9x ls f ((X62 ls).getD i.toNat [])).length):psI ls f (i+1) (out++[((X62 ls).getD i.toNat [],X9x ls f ((X62 ls).getD i.toNat []))]):=by
 obtain⟨h1,h2,h3,h4⟩:=h
 refine⟨by omega,by omega,?_,by simp;omega⟩
 rw[tn1 h1,X1S [] (by omega),List.map_append,List.filter_append,←h3]
 generalize (X62 ls).getD i.toNat []=x at*
 have:(X9x ls f x).isEmpty=false:=by
  cases e:X9x ls f x with
  | nil=>rw[e]at hn;simp at hn
  | cons=>rfl
 simp[this]
theorem ps_no{ls:List (List Ser)}{f i:Int}{out:List Ser}(h:psI ls f i out)(hi:i<(X62 ls).length)(hn:¬0<(X9x ls f ((X62 ls).getD i.toNat [])).length):psI ls f (i+1) out:=by
 obtain⟨h1,h2,h3,h4⟩:=h
 refine⟨by omega,by omega,?_,by omega⟩
 rw[tn1 h1,X1S [] (by omega),List.map_append,List.filter_append,←h3]
 generalize (X62 ls).getD i.toNat []=x at*
 have:X9x ls f x=[]:=List.length_eq_zero_iff.1 (by omega)
 simp[this]
theorem XqG{ls:List (List Ser)}{f i:Int}{out:List Ser}(h:psI ls f i out)(hi:¬i<(X62 ls).length):out=Xlm ls f:=by
 obtain⟨h1,h2,h3,h4⟩:=h
 rw[h3,show i.toNat=(X62 ls).length by omega,List.take_length];rfl
theorem Xj9(ls:List (List Ser)):((X62 ls).length:Int)≤cL tot ls:=by
 have:∀(ls:List (List Ser)) (o:List Str),((ls.foldl X7s o).length:Int)≤o.length+cL tot ls:=by
  intro ls
  induction ls with
  | nil=>intro o;simp[cL]
  | cons t ls ih=>
    intro o
    have h1:=ih (X7s o t)
    have h2:=Xbz t o
    have h3:=X7k t
    rw[List.foldl_cons,X4T];omega
 have h:=this ls []
 simpa [X62] using h
def X7P:Con:={A:=(.pair (.list T9q) (.pair (.int .i64) .str)),shA:=[.one,.one,.one],R:=X9z,shR:=[(false,1)],fresh:=[(0,85)],pre:=fun _ a=>(XnY a.1 a.2.1 a.2.2),f:=some fun _ a=>((X9x a.1 a.2.1 a.2.2),((),()))}
def X2U.F(a0:(List (List U1q)))(a1:Int)(a2:U5q):Prop:=(eS [(0,.val false [.lst T9q a0 none]),(1,.val false [.int .i64 a1]),(2,.val false [.str a2])] [(0,.val false [.lst T9q a0 none]),(1,.val false [.int .i64 a1]),(2,.val false [.str a2])]∧((hsI a0 a1 a2 0 ([]:List (Int×Int)))∧∀(y1:(Int×U6q)),(hsI a0 a1 a2 y1.1 y1.2)→(X00 (decide (y1.1<(ln a0))) (0≤y1.1∧(y1.1<(ln a0)∧(True∧∀r2,(Eq r2 ((fAt (List.getD a0 (tN y1.1) []) a2),((),())))→(X00 (decide (r2.1≥(0:Int))) (0≤y1.1∧(y1.1<(ln a0)∧(0≤r2.1∧(r2.1<(ln (List.getD a0 (tN y1.1) []))∧((Xfc y1.2 ((List.getD (List.getD a0 (tN y1.1) []) (tN r2.1) ([],[])).2))∧∀r3,(Eq r3 ((Xen y1.2 ((List.getD (List.getD a0 (tN y1.1) []) (tN r2.1) ([],[])).2)),((),())))→(eS [(0,.val false [.lst T9q a0 none]),(1,.val false [.int .i64 a1]),(2,.val false [.str a2])] [(0,.val false [.lst T9q a0 none]),(1,.val false [.int .i64 a1]),(2,.val false [.str a2])]∧(hsI a0 a1 a2 (wI (y1.1+(1:Int))) r3.1)∧(hsM a0 a1 a2 (wI (y1.1+(1:Int))) r3.1)<(hsM a0 a1 a2 y1.1 y1.2))))))) (eS [(0,.val false [.lst T9q a0 none]),(1,.val false [.int .i64 a1]),(2,.val false [.str a2])] [(0,.val false [.lst T9q a0 none]),(1,.val false [.int .i64 a1]),(2,.val false [.str a2])]∧(hsI a0 a1 a2 (wI (y1.1+(1:Int))) y1.2)∧(hsM a0 a1 a2 (wI (y1.1+(1:Int))) y1.2)<(hsM a0 a1 a2 y1.1 y1.2)))))) ((X6l y1.2 a1 1099511627777)∧∀r4,(Eq r4 ((X0Z y1.2 a1 1099511627777),((),())))→(Eq (r4.1,((),())) ((X9x a0 a1 a2),((),())))))))
def X2U.L(a0:(List (List U1q)))(a1:Int)(a2:U5q):Nat→Option X0d:=fun p=>Go.Proofs.YtcfaphojdacmbaaGreatR.Bv.look p [(58,{kp:={hold:=[0,1,2],slots:=[7,8],boxes:=[],rows:=[{bx:=false,s:=7,i:=0,k:=1000899,e:=85,hot:=true}]},T:=Xlq,I:=fun st y=>hsI a0 a1 a2 y.1 y.2,μ:=fun st y=>hsM a0 a1 a2 y.1 y.2})]
theorem X2U.pure(a0:(List (List U1q)))(a1:Int)(a2:U5q)(h:(XnY a0 a1 a2))(hw:Wf X7P.A (a0,a1,a2)):X2U.F a0 a1 a2:=by
 delta X2U.F ln tN wI eS
 simp only[Bs,B0,B1,Prod.mk.injEq,X01,Xfc,Xen,X6l]
 have hn:cL tot a0≤10000000:=h
 have hl:a0.length≤9223372036854775807:=hw.1.1
 refine⟨⟨by omega,by omega,rfl,by simp[cL]⟩,?_⟩
 rintro⟨i,out⟩ hI
 simp only at hI ⊢
 have q1:=hI.h1
 have q2:=hI.h2
 have q4:=hI.h4
 refine⟨fun hi=>?_,fun hi=>?_⟩
 · obtain⟨a1',a2'⟩:=Xs4 (a0.getD i.toNat []) a2
   have b1:=Xnm (a0.getD i.toNat []) a2
   have b2:=Xke (ls:=a0) (i:=i.toNat) (by omega)
   have b3:=XgG (a0.take i.toNat)
   have b4:=Xak (a0.getD i.toNat [])
   rw[w64 (x:=i+1) (by omega) (by omega)]
   refine⟨q1,hi,fun h3=>?_,fun h3=>⟨XmA hI hi (by rw[a2' h3,XbB]) b1,by unfold hsM;omega⟩⟩
   obtain⟨c1,c2⟩:=a1' h3
   rw[c2]
   exact⟨q1,hi,by omega,c1,⟨by omega,by omega⟩,XmA hI hi rfl b1,by unfold hsM;omega⟩
 · obtain⟨e1,e2⟩:=Xqz hI hi
   exact⟨by omega,e1⟩
theorem X2U.eq:EqS X7P Tryz.f112 [64] [X1T.e,X1V.e,X3w.e] [] (fun i x=>X2U.L x.1 x.2.1 x.2.2) (fun i x=>X2U.F x.1 x.2.1 x.2.2):=by intro i x;kernel_rfl
theorem X2U.ok:X0l Tryz.prog 112 X7P:=X2b X2U.eq Tryz.func112 rfl (by kernel_rfl) fun i x h hi hw=>X2U.pure x.1 x.2.1 x.2.2 h hw
def X2U.e:GE:=⟨112,X7P,⟨_,Tryz.func112,rfl,rfl⟩,X2U.ok⟩
def X6q:Con:={A:=(.pair (.list T9q) (.int .i64)),shA:=[.one,.one],R:=T9q,shR:=[(false,1)],pre:=fun _ a=>(Xo3 a.1 a.2),f:=some fun _ a=>((Xlm a.1 a.2),((),()))}
def X1p.F(a0:(List (List U1q)))(a1:Int):Prop:=((Xo0 a0)∧∀r1,(Eq r1 ((X62 a0),((),())))→(eS [(0,.val false [.lst T9q a0 none]),(1,.val false [.int .i64 a1]),(6,.val false [.lst .str r1.1 none])] [(0,.val false [.lst T9q a0 none]),(1,.val false [.int .i64 a1]),(6,.val false [.lst .str r1.1 none])]∧((psI a0 a1 0 ([]:List U1q))∧∀(y2:(Int×(List U1q))),(psI a0 a1 y2.1 y2.2)→(X00 (decide (y2.1<(ln r1.1))) (0≤y2.1∧(y2.1<(ln r1.1)∧((XnY a0 a1 (List.getD r1.1 (tN y2.1) []))∧∀r3,(Eq r3 ((X9x a0 a1 (List.getD r1.1 (tN y2.1) [])),((),())))→(X00 (decide ((ln r3.1)>(0:Int))) (0≤y2.1∧(y2.1<(ln r1.1)∧(List.length y2.2+List.length ([((List.getD r1.1 (tN y2.1) []),r3.1)]:List U1q)≤9223372036854775807∧((List.length y2.2+List.length ([((List.getD r1.1 (tN y2.1) []),r3.1)]:List U1q))*40≤140737488355328∧(eS [(0,.val false [.lst T9q a0 none]),(1,.val false [.int .i64 a1]),(6,.val false [.lst .str r1.1 none])] [(0,.val false [.lst T9q a0 none]),(1,.val false [.int .i64 a1]),(6,.val false [.lst .str r1.1 none])]∧(psI a0 a1 (wI (y2.1+(1:Int))) (y2.2++[((List.getD r1.1 (tN y2.1) []),r3.1)]))∧(psM a0 a1 (wI (y2.1+(1:Int))) (y2.2++[((List.getD r1.1 (tN y2.1) []),r3.1)]))<(psM a0 a1 y2.1 y2.2)))))) (eS [(0,.val false [.lst T9q a0 none]),(1,.val false [.int .i64 a1]),(6,.val false [.lst .str r1.1 none])] [(0,.val false [.lst T9q a0 none]),(1,.val false [.int .i64 a1]),(6,.val false [.lst .str r1.1 none])]∧(psI a0 a1 (wI (y2.1+(1:Int))) y2.2)∧(psM a0 a1 (wI (y2.1+(1:Int))) y2.2)<(psM a0 a1 y2.1 y2.2)))))) (Eq (y2.2,((),())) ((Xlm a0 a1),((),())))))))
def X1p.L(a0:(List (List U1q)))(a1:Int):Nat→Option X0d:=fun p=>Go.Proofs.YtcfaphojdacmbaaGreatR.Bv.look p [(122,{kp:={hold:=[0,1,6],slots:=[5,7],boxes:=[],rows:=[{bx:=false,s:=5,i:=0,k:=1000643,e:=83,hot:=true}]},T:=(.pair (.int .i64) T9q),I:=fun st y=>psI a0 a1 y.1 y.2,μ:=fun st y=>psM a0 a1 y.1 y.2})]
theorem X1p.pure(a0:(List (List U1q)))(a1:Int)(h:(Xo3 a0 a1))(hw:Wf X6q.A (a0,a1)):X1p.F a0 a1:=by
 delta X1p.F ln tN wI eS
 simp only[Bs,B0,B1,Prod.mk.injEq,X01,Xo0,XnY]
 have hn:cL tot a0≤10000000:=h
 have hk:=Xj9 a0
 refine⟨hn,⟨by omega,by omega,rfl,by simp⟩,?_⟩
 rintro⟨i,out⟩ hI
 simp only at hI ⊢
 have q1:=hI.h1
 have q2:=hI.h2
 have q4:=hI.h4
 refine⟨fun hi=>?_,fun hi=>XqG hI hi⟩
 rw[w64 (x:=i+1) (by omega) (by omega)]
 refine⟨q1,hi,hn,fun h3=>⟨q1,hi,by omega,by omega,Xs5 hI hi (by omega),by unfold psM;omega⟩,fun h3=>⟨ps_no hI hi (by omega),by unfold psM;omega⟩⟩
theorem X1p.eq:EqS X6q Tryz.f107 [25] [X2U.e,X2l.e] [] (fun i x=>X1p.L x.1 x.2) (fun i x=>X1p.F x.1 x.2):=by intro i x;kernel_rfl
theorem X1p.ok:X0l Tryz.prog 107 X6q:=X2b X1p.eq Tryz.func107 rfl (by kernel_rfl) fun i x h hi hw=>X1p.pure x.1 x.2 h hw
def X1p.e:GE:=⟨107,X6q,⟨_,Tryz.func107,rfl,rfl⟩,X1p.ok⟩
def X6E:Con:={A:=T9q,shA:=[.one],R:=(.int .i64),shR:=[(false,1)],pre:=fun _ a=>(Xlo a),f:=some fun _ a=>((X9Y a),((),()))}
def X1L.F(a0:(List U1q)):Prop:=(eS [(0,.val false [.lst T2q a0 none])] [(0,.val false [.lst T2q a0 none])]∧((cnI a0 0 0)∧∀(y1:(Int×Int)),(cnI a0 y1.1 y1.2)→(X00 (decide (y1.2<(ln a0))) (0≤y1.2∧(y1.2<(ln a0)∧(eS [(0,.val false [.lst T2q a0 none])] [(0,.val false [.lst T2q a0 none])]∧(cnI a0 (wI (y1.1+(ln ((List.getD a0 (tN y1.2) ([],[])).2)))) (wI (y1.2+(1:Int))))∧(cnM a0 (wI (y1.1+(ln ((List.getD a0 (tN y1.2) ([],[])).2)))) (wI (y1.2+(1:Int))))<(cnM a0 y1.1 y1.2)))) (Eq (y1.1,((),())) ((X9Y a0),((),()))))))
def X1L.L(a0:(List U1q)):Nat→Option X0d:=fun p=>Go.Proofs.YtcfaphojdacmbaaGreatR.Bv.look p [(58,{kp:={hold:=[0],slots:=[3,4],boxes:=[],rows:=[]},T:=T0q,I:=fun st y=>cnI a0 y.1 y.2,μ:=fun st y=>cnM a0 y.1 y.2})]
theorem X1L.pure(a0:(List U1q))(h:(Xlo a0))(hw:Wf X6E.A a0):X1L.F a0:=by
 delta X1L.F ln tN wI eS
 simp only[Bs,B0,B1,Prod.mk.injEq,X01]
 have hn:tot a0≤100000000:=h
 have k0:=XgA a0
 have k1:=X7k a0
 refine⟨⟨by omega,by omega,by simp[X9Y,cL]⟩,?_⟩
 rintro⟨n,i⟩ hI
 simp only at hI ⊢
 have q1:=hI.1
 have q2:=hI.2.1
 refine⟨fun hi=>?_,fun hi=>Xpe hI hi⟩
 have k2:=XqZ hI hi
 have st:=XmN hI hi
 rw[w64 (x:=i+1) (by omega) (by omega),w64 (by omega) (by omega)]
 exact⟨q1,hi,st,by unfold cnM;omega⟩
theorem X1L.eq:EqS X6E Tryz.f105 [3] [] [] (fun i x=>X1L.L x) (fun i x=>X1L.F x):=by intro i x;kernel_rfl
theorem X1L.ok:X0l Tryz.prog 105 X6E:=X2b X1L.eq Tryz.func105 rfl (by kernel_rfl) fun i x h hi hw=>X1L.pure x h hw
def X1L.e:GE:=⟨105,X6E,⟨_,Tryz.func105,rfl,rfl⟩,X1L.ok⟩
end Go.Proofs.YtcfaphojdacmbaaGreatR.B
