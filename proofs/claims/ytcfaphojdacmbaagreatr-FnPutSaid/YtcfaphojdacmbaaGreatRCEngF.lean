/- Engines:what flushing and packing come to. -/
import Derived.Test.YtcfaphojdacmbaaGreatRCEngR
set_option linter.unusedVariables false
set_option linter.unusedSimpArgs false
namespace Go.Proofs.YtcfaphojdacmbaaGreatR.B
open Go Go.Proofs.YtcfaphojdacmbaaGreatR.Bv
def Xh0(l:List Ser):List Str:=if l=[] then [] else [X0j l]
def Xdo(e:Eng):Eng:=if e.2.1=[] then e else(e.1,[],e.2.2++[X0j e.2.1])
def X83(e:Eng):Eng:=(e.1,e.2.1,Xh0 (X0c e).1)
def fFl(e:Eng):Eng:=if 4<(Xdo e).2.2.length then X83 (Xdo e) else Xdo e
def eng0:Eng:=(0,[],[])
structure X9G (n:Nat) (e:Eng):Prop where
 fl:0≤e.1∧e.1≤1099511627776
 ca:X0y e.2.1=true
 le:e.2.2.length≤n
 ok:okF e.2.2=true
 pl:X0y (X0c e).1=true
 st:∀f∈e.2.2,Xg9 f
theorem X7M{e:Eng}(h:X1Q e=true)(hp:X8M e):X9G 4 e:=by
 obtain⟨g1,g2,g3,g4⟩:=X2g h
 obtain⟨k1,k2,k3,k4,k5⟩:=X6B g1
 exact⟨k1,k2,k4,g2,g4,hp.2⟩
theorem X9G.R{n:Nat}{e:Eng}(h:X9G n e):X8T e.2.1:=(X16 h.ca).1
theorem X9G.E{n:Nat}{e:Eng}(h:X9G n e)(hn:n≤5):Xca e:=by
 have:=X16 h.ca
 have:=h.le
 exact⟨h.st,h.R,by omega,by omega⟩
theorem Xc8{l:List Ser}(h:X0y l=true)(hn:l≠[]):X0e (X0j l)=(l,true):=(XdP ⟨⟨h,hn⟩,rfl⟩).symm
theorem Xan{l:List Ser}(h:X0y l=true):X2c l:=XhV fun x hx=>((X16 h).2.2.2 x hx).1
theorem Xft:∀(l:List Ser) (n:Nat),(∀x∈l,x.1.length≤8)→(ixF l n).length≤100*l.length
 | [],n,_=>by simp[ixF]
 | x::l,n,h=>by
   have h1:=Xft l (n+(X04 x.2).length) fun y hy=>h y (by simp[hy])
   have h2:=h x (by simp)
   have v1:=X0w x.1.length
   have v2:=X0w n
   have v3:=X0w (X04 x.2).length
   have v4:=X0w (x.2.getD 0 (0,0)).1
   have v5:=X0w (x.2.getD (x.2.length - 1) (0,0)).1
   rw[ixF,List.length_append,List.length_cons]
   simp only[X59,List.length_append]
   omega
theorem XeW{l:List Ser}(h:X0y l=true):(X0j l).length≤20000:=by
 by_cases hn:l=[]
 · subst hn;simp[X0j]
 · have L:=RF.lay (s:=X0j l) (l:=l) ⟨⟨h,hn⟩,rfl⟩
   have h1:=L.len
   have h2:=X9K l
   have h3:=Xav l
   have h4:=L.five
   have h5:=Xft l 4 fun x hx=>((X16 h).2.2.2 x hx).1
   omega
theorem XjO{l:List Ser}(h:X0y l=true):Xg9 (X0j l):=Nat.le_trans (XeW h) (by decide)
theorem XjT{l:List Ser}(h:X0y l=true):X0j l=[]↔l=[]:=by
 constructor
 · intro e
   by_cases hn:l=[]
   · exact hn
   · have L:=RF.lay (s:=X0j l) (l:=l) ⟨⟨h,hn⟩,rfl⟩
     have h1:=L.len
     rw[e]at h1;simp at h1
 · rintro rfl;simp[X0j]
theorem XnG(a:List Str)(f:Str):X7b (a++[f])=X7b a++[(X0e f).1]:=by simp[X7b]
theorem XiX(a:List (List Ser))(l:List Ser):X2e (a++[l])=X2N (X2e a) l:=by simp[X2e,List.foldl_append]
theorem Xp5(a:List Str)(f:Str):okF (a++[f])=(okF a&&(X0e f).2):=by simp[okF,List.all_append]
theorem XjZ(l:List Ser):X2N l []=l:=rfl
theorem Xec:∀{t l:List Ser},XbV l→(∀x∈t,Xde x.2)→∀k,X5H (X2N l t) k=(X5H l k||X5H t k)
 | [],_,_,_,k=>by simp[X2N,X5H]
 | s::t,l,h,ht,k=>by
   obtain⟨a1,a2,_⟩:=Xeb h (ht s (by simp))
   rw[Xcl,Xec a1 (fun x hx=>ht x (by simp[hx])),a2,X5T,Bool.or_assoc]
theorem Xoc{l:List Ser}(h:X8T l):X2N [] l=l:=
 Xeh (X4r XaG h.2).1 h.1 (fun k=>by rw[Xec XaG.1 (fun x hx=>(h.2 x hx).1)];rfl)
  (fun k=>by rw[X3V XaG.1 (fun x hx=>(h.2 x hx).1) h.1,XhL,Xhy (Xb6 h.2 k).1])
theorem Xe5(l:List Pt)(a b:Int):X13 (X13 l a b) a b=X13 l a b:=by
 unfold X13;rw[List.filter_filter];simp
theorem XbO{l:List Ser}(h:X8T l)(f:Int):X0v (X0v l f) f=X0v l f:=
 Xeh (X1Z (X1Z h.1 f) f) (X1Z h.1 f)
  (fun k=>by rw[(X1o (X1Z h.1 f) f k).2,(X1o h.1 f k).1,Xe5,(X1o h.1 f k).2])
  (fun k=>by rw[(X1o (X1Z h.1 f) f k).1,(X1o h.1 f k).1,Xe5])
theorem X5d{e:Eng}(h:okF e.2.2=true):X0c e=(X0v (X2N (X2e (X7b e.2.2)) e.2.1) e.1,true):=by unfold X0c;rw[if_pos h]
theorem Xgh{e:Eng}(h:X9G 4 e):X9G 5 (Xdo e)∧(Xdo e).2.1=[]∧X0c (Xdo e)=X0c e:=by
 unfold Xdo
 split
 · rename_i hn
   exact⟨⟨h.fl,h.ca,Nat.le_succ_of_le h.le,h.ok,h.pl,h.st⟩,hn,rfl⟩
 · rename_i hn
   have hr:=Xc8 h.ca hn
   have ho:okF (e.2.2++[X0j e.2.1])=true:=by rw[Xp5,h.ok,hr];rfl
   have hp:X0c (e.1,[],e.2.2++[X0j e.2.1])=X0c e:=by
    rw[X5d (e:=(e.1,[],e.2.2++[X0j e.2.1])) ho,X5d h.ok]
    simp only
    rw[XnG,hr,XiX,XjZ]
   refine⟨⟨h.fl,rfl,?_,ho,?_,fun f hf=>?_⟩,rfl,hp⟩
   · have:=h.le;simp only[List.length_append,List.length_cons,List.length_nil];omega
   · rw[hp];exact h.pl
   · rcases List.mem_append.1 hf with hf | hf
     · exact h.st f hf
     · rw[List.mem_singleton.1 hf];exact XjO h.ca
theorem XjX{e:Eng}(h:X9G 5 e)(hc:e.2.1=[]):X9G 4 (X83 e)∧(X83 e).2.1=[]∧X0c (X83 e)=X0c e:=by
 have hR:=XlL h.R
 have hok:okF (Xh0 (X0c e).1)=true:=by
  unfold Xh0;split
  · rfl
  · rename_i hn
    have:=Xc8 h.pl hn
    simp[okF,this]
 have hp:X0c (X83 e)=X0c e:=by
  rw[X5d (e:=X83 e) hok]
  have e0:=X5d h.ok
  have e1:X2e (X7b (Xh0 (X0c e).1))=(X0c e).1:=by
   unfold Xh0;split
   · rename_i hn;rw[hn];rfl
   · rename_i hn
     have:=Xc8 h.pl hn
     show X2e [(X0e (X0j (X0c e).1)).1]=_
     rw[this]
     show X2N [] _=_
     exact Xoc hR
  show(X0v (X2N (X2e (X7b (Xh0 (X0c e).1))) e.2.1) e.1,true)=_
  rw[e1,hc,XjZ]
  have e2:X0v (X0c e).1 e.1=(X0c e).1:=by
   rw[e0]
   exact XbO (X4r (X7l _ [] XaG (XbG _)) h.R.2) _
  rw[e2,e0]
 refine⟨⟨h.fl,h.ca,?_,hok,by rw[hp];exact h.pl,fun f hf=>?_⟩,hc,hp⟩
 · show(Xh0 (X0c e).1).length≤4
   unfold Xh0;split<;>simp
 · have hf':f∈Xh0 (X0c e).1:=hf
   unfold Xh0 at hf'
   split at hf'
   · cases hf'
   · rw[List.mem_singleton.1 hf'];exact XjO h.pl
theorem XiK{e:Eng}(h:X9G 4 e):X9G 4 (fFl e)∧(fFl e).2.1=[]∧X0c (fFl e)=X0c e:=by
 obtain⟨a,b,c⟩:=Xgh h
 unfold fFl
 split
 · obtain⟨d,e',f⟩:=XjX a b
   exact⟨d,e',f.trans c⟩
 · rename_i hn
   exact⟨⟨a.fl,a.ca,by omega,a.ok,a.pl,a.st⟩,b,c⟩
theorem X9G.mono{n k:Nat}{e:Eng}(h:X9G n e)(hk:n≤k):X9G k e:=⟨h.fl,h.ca,Nat.le_trans h.le hk,h.ok,h.pl,h.st⟩
theorem Xmp{n:Nat}{e:Eng}(h:X9G n e)(hn:n≤5):Xna e∧Xfp e=(X7b e.2.2++[e.2.1],true)∧XmE (X7b e.2.2++[e.2.1]) e.1∧Xkf (X7b e.2.2++[e.2.1]) e.1=(X0c e).1:=by
 have ht:=XbU e
 have hs:=X16 h.ca
 have hl:=h.le
 refine⟨⟨h.st,by omega⟩,Xbo h.ok,?_,XnX h.R h.ok⟩
 unfold XmE;omega
theorem Xq2{e:Eng}(h:X9G 4 e):Xn7 e:=by
 have:=X16 h.ca
 have:=h.le
 exact⟨by omega,by omega⟩
end Go.Proofs.YtcfaphojdacmbaaGreatR.B
