/- Engines:what flushing and packing come to. -/
import Derived.Test.YtcfaphojdacmbaaGreatRCEngR
set_option linter.unusedVariables false
set_option linter.unusedSimpArgs false
namespace Go.Proofs.YtcfaphojdacmbaaGreatR.B
open Go Go.Proofs.YtcfaphojdacmbaaGreatR.Bv
def XeH(l:List Ser):List Str:=if l=[] then [] else [X0j l]
def Xcz(e:Eng):Eng:=if e.2.1=[] then e else(e.1,[],e.2.2++[X0j e.2.1])
def X5R(e:Eng):Eng:=(e.1,e.2.1,XeH (X0f e).1)
def fFl(e:Eng):Eng:=if 4<(Xcz e).2.2.length then X5R (Xcz e) else Xcz e
def XpT:Eng:=(0,[],[])
def X9Q(e:Eng):Eng:=if X1H e=true then fFl e else XpT
def Xbn(e:Eng):Eng:=if X1H e=true then X5R (fFl e) else XpT
structure X9j (n:Nat) (e:Eng):Prop where
 fl:0≤e.1∧e.1≤1099511627776
 ca:X0B e.2.1=true
 le:e.2.2.length≤n
 ok:okF e.2.2=true
 pl:X0B (X0f e).1=true
 st:∀f∈e.2.2,XfL f
theorem X6s{e:Eng}(h:X1H e=true)(hp:X6f e):X9j 4 e:=by
 obtain⟨g1,g2,g3,g4⟩:=X6q h
 obtain⟨k1,k2,k3,k4,k5⟩:=X8K g1
 exact⟨k1,k2,k4,g2,g4,hp.2⟩
theorem X9j.R{n:Nat}{e:Eng}(h:X9j n e):X8M e.2.1:=(X3b h.ca).1
theorem X9j.E{n:Nat}{e:Eng}(h:X9j n e)(hn:n≤5):XaA e:=by
 have:=X3b h.ca
 have:=h.le
 exact⟨h.st,h.R,by omega,by omega⟩
theorem Xc3{l:List Ser}(h:X0B l=true)(hn:l≠[]):X0d (X0j l)=(l,true):=(XdJ ⟨⟨h,hn⟩,rfl⟩).symm
theorem X99{l:List Ser}(h:X0B l=true):X2i l:=Xjm fun x hx=>((X3b h).2.2.2 x hx).1
theorem Xfl:∀(l:List Ser) (n:Nat),(∀x∈l,x.1.length≤8)→(ixF l n).length≤100*l.length
 | [],n,_=>by simp[ixF]
 | x::l,n,h=>by
   have h1:=Xfl l (n+(X04 x.2).length) fun y hy=>h y (by simp[hy])
   have h2:=h x (by simp)
   have v1:=X0v x.1.length
   have v2:=X0v n
   have v3:=X0v (X04 x.2).length
   have v4:=X0v (x.2.getD 0 (0,0)).1
   have v5:=X0v (x.2.getD (x.2.length - 1) (0,0)).1
   rw[ixF,List.length_append,List.length_cons]
   simp only[X4Z,List.length_append]
   omega
theorem Xd2{l:List Ser}(h:X0B l=true):(X0j l).length≤20000:=by
 by_cases hn:l=[]
 · subst hn;simp[X0j]
 · have L:=RF.lay (s:=X0j l) (l:=l) ⟨⟨h,hn⟩,rfl⟩
   have h1:=L.len
   have h2:=X9F l
   have h3:=X9S l
   have h4:=L.five
   have h5:=Xfl l 4 fun x hx=>((X3b h).2.2.2 x hx).1
   omega
theorem Xjo{l:List Ser}(h:X0B l=true):XfL (X0j l):=Nat.le_trans (Xd2 h) (by decide)
theorem Xjk{l:List Ser}(h:X0B l=true):X0j l=[]↔l=[]:=by
 constructor
 · intro e
   by_cases hn:l=[]
   · exact hn
   · have L:=RF.lay (s:=X0j l) (l:=l) ⟨⟨h,hn⟩,rfl⟩
     have h1:=L.len
     rw[e]at h1;simp at h1
 · rintro rfl;simp[X0j]
theorem XnN(a:List Str)(f:Str):X7s (a++[f])=X7s a++[(X0d f).1]:=by simp[X7s]
theorem XiL(a:List (List Ser))(l:List Ser):X2q (a++[l])=X30 (X2q a) l:=by simp[X2q,List.foldl_append]
theorem Xpa(a:List Str)(f:Str):okF (a++[f])=(okF a&&(X0d f).2):=by simp[okF,List.all_append]
theorem XjH(l:List Ser):X30 l []=l:=rfl
theorem Xdl:∀{t l:List Ser},Xcn l→(∀x∈t,XcI x.2)→∀k,X5O (X30 l t) k=(X5O l k||X5O t k)
 | [],_,_,_,k=>by simp[X30,X5O]
 | s::t,l,h,ht,k=>by
   obtain⟨a1,a2,_⟩:=XdD h (ht s (by simp))
   rw[Xc5,Xdl a1 (fun x hx=>ht x (by simp[hx])),a2,X66,Bool.or_assoc]
theorem Xn6{l:List Ser}(h:X8M l):X30 [] l=l:=
 Xd9 (X4t Xb5 h.2).1 h.1 (fun k=>by rw[Xdl Xb5.1 (fun x hx=>(h.2 x hx).1)];rfl)
  (fun k=>by rw[X4A Xb5.1 (fun x hx=>(h.2 x hx).1) h.1,XgC,XhI (XbR h.2 k).1])
theorem XdK(l:List Pt)(a b:Int):X1o (X1o l a b) a b=X1o l a b:=by
 unfold X1o;rw[List.filter_filter];simp
theorem XaZ{l:List Ser}(h:X8M l)(f:Int):X0u (X0u l f) f=X0u l f:=
 Xd9 (X1R (X1R h.1 f) f) (X1R h.1 f)
  (fun k=>by rw[(X1r (X1R h.1 f) f k).2,(X1r h.1 f k).1,XdK,(X1r h.1 f k).2])
  (fun k=>by rw[(X1r (X1R h.1 f) f k).1,(X1r h.1 f k).1,XdK])
theorem X51{e:Eng}(h:okF e.2.2=true):X0f e=(X0u (X30 (X2q (X7s e.2.2)) e.2.1) e.1,true):=by unfold X0f;rw[if_pos h]
theorem Xgs{e:Eng}(h:X9j 4 e):X9j 5 (Xcz e)∧(Xcz e).2.1=[]∧X0f (Xcz e)=X0f e:=by
 unfold Xcz
 split
 · rename_i hn
   exact⟨⟨h.fl,h.ca,Nat.le_succ_of_le h.le,h.ok,h.pl,h.st⟩,hn,rfl⟩
 · rename_i hn
   have hr:=Xc3 h.ca hn
   have ho:okF (e.2.2++[X0j e.2.1])=true:=by rw[Xpa,h.ok,hr];rfl
   have hp:X0f (e.1,[],e.2.2++[X0j e.2.1])=X0f e:=by
    rw[X51 (e:=(e.1,[],e.2.2++[X0j e.2.1])) ho,X51 h.ok]
    simp only
    rw[XnN,hr,XiL,XjH]
   refine⟨⟨h.fl,rfl,?_,ho,?_,fun f hf=>?_⟩,rfl,hp⟩
   · have:=h.le;simp only[List.length_append,List.length_cons,List.length_nil];omega
   · rw[hp];exact h.pl
   · rcases List.mem_append.1 hf with hf | hf
     · exact h.st f hf
     · rw[List.mem_singleton.1 hf];exact Xjo h.ca
theorem XiW{e:Eng}(h:X9j 5 e)(hc:e.2.1=[]):X9j 4 (X5R e)∧(X5R e).2.1=[]∧X0f (X5R e)=X0f e:=by
 have hR:=XkX h.R
 have hok:okF (XeH (X0f e).1)=true:=by
  unfold XeH;split
  · rfl
  · rename_i hn
    have:=Xc3 h.pl hn
    simp[okF,this]
 have hp:X0f (X5R e)=X0f e:=by
  rw[X51 (e:=X5R e) hok]
  have e0:=X51 h.ok
  have e1:X2q (X7s (XeH (X0f e).1))=(X0f e).1:=by
   unfold XeH;split
   · rename_i hn;rw[hn];rfl
   · rename_i hn
     have:=Xc3 h.pl hn
     show X2q [(X0d (X0j (X0f e).1)).1]=_
     rw[this]
     show X30 [] _=_
     exact Xn6 hR
  show(X0u (X30 (X2q (X7s (XeH (X0f e).1))) e.2.1) e.1,true)=_
  rw[e1,hc,XjH]
  have e2:X0u (X0f e).1 e.1=(X0f e).1:=by
   rw[e0]
   exact XaZ (X4t (X7Y _ [] Xb5 (Xe8 _)) h.R.2) _
  rw[e2,e0]
 refine⟨⟨h.fl,h.ca,?_,hok,by rw[hp];exact h.pl,fun f hf=>?_⟩,hc,hp⟩
 · show(XeH (X0f e).1).length≤4
   unfold XeH;split<;>simp
 · have hf':f∈XeH (X0f e).1:=hf
   unfold XeH at hf'
   split at hf'
   · cases hf'
   · rw[List.mem_singleton.1 hf'];exact Xjo h.pl
theorem XdT{e:Eng}(h:X9j 4 e):X9j 4 (fFl e)∧(fFl e).2.1=[]∧X0f (fFl e)=X0f e:=by
 obtain⟨a,b,c⟩:=Xgs h
 unfold fFl
 split
 · obtain⟨d,e',f⟩:=XiW a b
   exact⟨d,e',f.trans c⟩
 · rename_i hn
   exact⟨⟨a.fl,a.ca,by omega,a.ok,a.pl,a.st⟩,b,c⟩
theorem X9j.mono{n k:Nat}{e:Eng}(h:X9j n e)(hk:n≤k):X9j k e:=⟨h.fl,h.ca,Nat.le_trans h.le hk,h.ok,h.pl,h.st⟩
theorem Xmd{n:Nat}{e:Eng}(h:X9j n e)(hn:n≤5):XnH e∧Xg9 e=(X7s e.2.2++[e.2.1],true)∧Xm5 (X7s e.2.2++[e.2.1]) e.1∧Xkh (X7s e.2.2++[e.2.1]) e.1=(X0f e).1:=by
 have ht:=XcS e
 have hs:=X3b h.ca
 have hl:=h.le
 refine⟨⟨h.st,by omega⟩,Xe6 h.ok,?_,Xnz h.R h.ok⟩
 unfold Xm5;omega
theorem Xpl{e:Eng}(h:X9j 4 e):Xpr e:=by
 have:=X3b h.ca
 have:=h.le
 exact⟨by omega,by omega⟩
end Go.Proofs.YtcfaphojdacmbaaGreatR.B
