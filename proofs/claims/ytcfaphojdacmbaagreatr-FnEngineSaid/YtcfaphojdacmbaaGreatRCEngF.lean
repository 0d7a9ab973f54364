/- Engines:what flushing and packing come to. -/
import Derived.Test.YtcfaphojdacmbaaGreatRCEngR
set_option linter.unusedVariables false
set_option linter.unusedSimpArgs false
namespace Go.Proofs.YtcfaphojdacmbaaGreatR.B
open Go Go.Proofs.YtcfaphojdacmbaaGreatR.Bv
def XgU(l:List Ser):List Str:=if l=[] then [] else [X0j l]
def Xdf(e:Eng):Eng:=if e.2.1=[] then e else(e.1,[],e.2.2++[X0j e.2.1])
def X7h(e:Eng):Eng:=(e.1,e.2.1,XgU (X0c e).1)
def fFl(e:Eng):Eng:=if 4<(Xdf e).2.2.length then X7h (Xdf e) else Xdf e
def eng0:Eng:=(0,[],[])
def X7q(e:Eng):Eng:=if X13 e=true then fFl e else eng0
def X8Y(e:Eng):Eng:=if X13 e=true then X7h (fFl e) else eng0
structure X9X (n:Nat) (e:Eng):Prop where
 fl:0≤e.1∧e.1≤1099511627776
 ca:X0y e.2.1=true
 le:e.2.2.length≤n
 ok:okF e.2.2=true
 pl:X0y (X0c e).1=true
 st:∀f∈e.2.2,Xgn f
theorem X6n{e:Eng}(h:X13 e=true)(hp:X5P e):X9X 4 e:=by
 obtain⟨g1,g2,g3,g4⟩:=X30 h
 obtain⟨k1,k2,k3,k4,k5⟩:=X9c g1
 exact⟨k1,k2,k4,g2,g4,hp.2⟩
theorem X9X.R{n:Nat}{e:Eng}(h:X9X n e):X9p e.2.1:=(X1I h.ca).1
theorem X9X.E{n:Nat}{e:Eng}(h:X9X n e)(hn:n≤5):Xb6 e:=by
 have:=X1I h.ca
 have:=h.le
 exact⟨h.st,h.R,by omega,by omega⟩
theorem Xc9{l:List Ser}(h:X0y l=true)(hn:l≠[]):X0e (X0j l)=(l,true):=(Xf3 ⟨⟨h,hn⟩,rfl⟩).symm
theorem X9t{l:List Ser}(h:X0y l=true):X27 l:=Xiv fun x hx=>((X1I h).2.2.2 x hx).1
theorem XfA:∀(l:List Ser) (n:Nat),(∀x∈l,x.1.length≤8)→(ixF l n).length≤100*l.length
 | [],n,_=>by simp[ixF]
 | x::l,n,h=>by
   have h1:=XfA l (n+(X04 x.2).length) fun y hy=>h y (by simp[hy])
   have h2:=h x (by simp)
   have v1:=X0w x.1.length
   have v2:=X0w n
   have v3:=X0w (X04 x.2).length
   have v4:=X0w (x.2.getD 0 (0,0)).1
   have v5:=X0w (x.2.getD (x.2.length - 1) (0,0)).1
   rw[ixF,List.length_append,List.length_cons]
   simp only[X5j,List.length_append]
   omega
theorem XeM{l:List Ser}(h:X0y l=true):(X0j l).length≤20000:=by
 by_cases hn:l=[]
 · subst hn;simp[X0j]
 · have L:=RF.lay (s:=X0j l) (l:=l) ⟨⟨h,hn⟩,rfl⟩
   have h1:=L.len
   have h2:=Xa4 l
   have h3:=XaL l
   have h4:=L.five
   have h5:=XfA l 4 fun x hx=>((X1I h).2.2.2 x hx).1
   omega
theorem Xkp{l:List Ser}(h:X0y l=true):Xgn (X0j l):=Nat.le_trans (XeM h) (by decide)
theorem XjF{l:List Ser}(h:X0y l=true):X0j l=[]↔l=[]:=by
 constructor
 · intro e
   by_cases hn:l=[]
   · exact hn
   · have L:=RF.lay (s:=X0j l) (l:=l) ⟨⟨h,hn⟩,rfl⟩
     have h1:=L.len
     rw[e]at h1;simp at h1
 · rintro rfl;simp[X0j]
theorem Xov(a:List Str)(f:Str):X87 (a++[f])=X87 a++[(X0e f).1]:=by simp[X87]
theorem XiF(a:List (List Ser))(l:List Ser):X2B (a++[l])=X2S (X2B a) l:=by simp[X2B,List.foldl_append]
theorem XpZ(a:List Str)(f:Str):okF (a++[f])=(okF a&&(X0e f).2):=by simp[okF,List.all_append]
theorem Xk8(l:List Ser):X2S l []=l:=rfl
theorem Xeb:∀{t l:List Ser},XcB l→(∀x∈t,Xdq x.2)→∀k,X5M (X2S l t) k=(X5M l k||X5M t k)
 | [],_,_,_,k=>by simp[X2S,X5M]
 | s::t,l,h,ht,k=>by
   obtain⟨a1,a2,_⟩:=XeX h (ht s (by simp))
   rw[Xcj,Xeb a1 (fun x hx=>ht x (by simp[hx])),a2,X6h,Bool.or_assoc]
theorem XnL{l:List Ser}(h:X9p l):X2S [] l=l:=
 Xet (X4C Xbb h.2).1 h.1 (fun k=>by rw[Xeb Xbb.1 (fun x hx=>(h.2 x hx).1)];rfl)
  (fun k=>by rw[X4u Xbb.1 (fun x hx=>(h.2 x hx).1) h.1,XhF,Xi8 (Xb9 h.2 k).1])
theorem Xes(l:List Pt)(a b:Int):X0Z (X0Z l a b) a b=X0Z l a b:=by
 unfold X0Z;rw[List.filter_filter];simp
theorem X9M{l:List Ser}(h:X9p l)(f:Int):X0u (X0u l f) f=X0u l f:=
 Xet (X23 (X23 h.1 f) f) (X23 h.1 f)
  (fun k=>by rw[(X1d (X23 h.1 f) f k).2,(X1d h.1 f k).1,Xes,(X1d h.1 f k).2])
  (fun k=>by rw[(X1d (X23 h.1 f) f k).1,(X1d h.1 f k).1,Xes])
theorem X4N{e:Eng}(h:okF e.2.2=true):X0c e=(X0u (X2S (X2B (X87 e.2.2)) e.2.1) e.1,true):=by unfold X0c;rw[if_pos h]
theorem Xgx{e:Eng}(h:X9X 4 e):X9X 5 (Xdf e)∧(Xdf e).2.1=[]∧X0c (Xdf e)=X0c e:=by
 unfold Xdf
 split
 · rename_i hn
   exact⟨⟨h.fl,h.ca,Nat.le_succ_of_le h.le,h.ok,h.pl,h.st⟩,hn,rfl⟩
 · rename_i hn
   have hr:=Xc9 h.ca hn
   have ho:okF (e.2.2++[X0j e.2.1])=true:=by rw[XpZ,h.ok,hr];rfl
   have hp:X0c (e.1,[],e.2.2++[X0j e.2.1])=X0c e:=by
    rw[X4N (e:=(e.1,[],e.2.2++[X0j e.2.1])) ho,X4N h.ok]
    simp only
    rw[Xov,hr,XiF,Xk8]
   refine⟨⟨h.fl,rfl,?_,ho,?_,fun f hf=>?_⟩,rfl,hp⟩
   · have:=h.le;simp only[List.length_append,List.length_cons,List.length_nil];omega
   · rw[hp];exact h.pl
   · rcases List.mem_append.1 hf with hf | hf
     · exact h.st f hf
     · rw[List.mem_singleton.1 hf];exact Xkp h.ca
theorem Xk6{e:Eng}(h:X9X 5 e)(hc:e.2.1=[]):X9X 4 (X7h e)∧(X7h e).2.1=[]∧X0c (X7h e)=X0c e:=by
 have hR:=Xna h.R
 have hok:okF (XgU (X0c e).1)=true:=by
  unfold XgU;split
  · rfl
  · rename_i hn
    have:=Xc9 h.pl hn
    simp[okF,this]
 have hp:X0c (X7h e)=X0c e:=by
  rw[X4N (e:=X7h e) hok]
  have e0:=X4N h.ok
  have e1:X2B (X87 (XgU (X0c e).1))=(X0c e).1:=by
   unfold XgU;split
   · rename_i hn;rw[hn];rfl
   · rename_i hn
     have:=Xc9 h.pl hn
     show X2B [(X0e (X0j (X0c e).1)).1]=_
     rw[this]
     show X2S [] _=_
     exact XnL hR
  show(X0u (X2S (X2B (X87 (XgU (X0c e).1))) e.2.1) e.1,true)=_
  rw[e1,hc,Xk8]
  have e2:X0u (X0c e).1 e.1=(X0c e).1:=by
   rw[e0]
   exact X9M (X4C (X7K _ [] Xbb (XcP _)) h.R.2) _
  rw[e2,e0]
 refine⟨⟨h.fl,h.ca,?_,hok,by rw[hp];exact h.pl,fun f hf=>?_⟩,hc,hp⟩
 · show(XgU (X0c e).1).length≤4
   unfold XgU;split<;>simp
 · have hf':f∈XgU (X0c e).1:=hf
   unfold XgU at hf'
   split at hf'
   · cases hf'
   · rw[List.mem_singleton.1 hf'];exact Xkp h.pl
theorem Xf0{e:Eng}(h:X9X 4 e):X9X 4 (fFl e)∧(fFl e).2.1=[]∧X0c (fFl e)=X0c e:=by
 obtain⟨a,b,c⟩:=Xgx h
 unfold fFl
 split
 · obtain⟨d,e',f⟩:=Xk6 a b
   exact⟨d,e',f.trans c⟩
 · rename_i hn
   exact⟨⟨a.fl,a.ca,by omega,a.ok,a.pl,a.st⟩,b,c⟩
theorem X9X.mono{n k:Nat}{e:Eng}(h:X9X n e)(hk:n≤k):X9X k e:=⟨h.fl,h.ca,Nat.le_trans h.le hk,h.ok,h.pl,h.st⟩
theorem Xlt{n:Nat}{e:Eng}(h:X9X n e)(hn:n≤5):XoG e∧Xhg e=(X87 e.2.2++[e.2.1],true)∧Xo3 (X87 e.2.2++[e.2.1]) e.1∧Xlm (X87 e.2.2++[e.2.1]) e.1=(X0c e).1:=by
 have ht:=XgI e
 have hs:=X1I h.ca
 have hl:=h.le
 refine⟨⟨h.st,by omega⟩,Xhl h.ok,?_,Xpu h.R h.ok⟩
 unfold Xo3;omega
theorem XpO{e:Eng}(h:X9X 4 e):Xlv e:=by
 have:=X1I h.ca
 have:=h.le
 exact⟨by omega,by omega⟩
end Go.Proofs.YtcfaphojdacmbaaGreatR.B
