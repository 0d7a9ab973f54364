/- Engines:what flushing and packing come to. -/
import Derived.Test.YtcfaphojdacmbaaGreatRCEngR
set_option linter.unusedVariables false
set_option linter.unusedSimpArgs false
namespace Go.Proofs.YtcfaphojdacmbaaGreatR.B
open Go Go.Proofs.YtcfaphojdacmbaaGreatR.Bv
def XfS(l:List Ser):List Str:=if l=[] then [] else [X0j l]
def Xd3(e:Eng):Eng:=if e.2.1=[] then e else(e.1,[],e.2.2++[X0j e.2.1])
def X72(e:Eng):Eng:=(e.1,e.2.1,XfS (X0d e).1)
def fFl(e:Eng):Eng:=if 4<(Xd3 e).2.2.length then X72 (Xd3 e) else Xd3 e
def eng0:Eng:=(0,[],[])
def XaM(e:Eng):Eng:=if X0L e=true then X72 (fFl e) else eng0
structure X9q (n:Nat) (e:Eng):Prop where
 fl:0≤e.1∧e.1≤1099511627776
 ca:X0y e.2.1=true
 le:e.2.2.length≤n
 ok:okF e.2.2=true
 pl:X0y (X0d e).1=true
 st:∀f∈e.2.2,Xg7 f
theorem X6W{e:Eng}(h:X0L e=true)(hp:X55 e):X9q 4 e:=by
 obtain⟨g1,g2,g3,g4⟩:=X2t h
 obtain⟨k1,k2,k3,k4,k5⟩:=X4h g1
 exact⟨k1,k2,k4,g2,g4,hp.2⟩
theorem X9q.R{n:Nat}{e:Eng}(h:X9q n e):X8T e.2.1:=(X1t h.ca).1
theorem X9q.E{n:Nat}{e:Eng}(h:X9q n e)(hn:n≤5):XaT e:=by
 have:=X1t h.ca
 have:=h.le
 exact⟨h.st,h.R,by omega,by omega⟩
theorem Xc0{l:List Ser}(h:X0y l=true)(hn:l≠[]):X0e (X0j l)=(l,true):=(XdQ ⟨⟨h,hn⟩,rfl⟩).symm
theorem X92{l:List Ser}(h:X0y l=true):X21 l:=Xh3 fun x hx=>((X1t h).2.2.2 x hx).1
theorem Xfn:∀(l:List Ser) (n:Nat),(∀x∈l,x.1.length≤8)→(ixF l n).length≤100*l.length
 | [],n,_=>by simp[ixF]
 | x::l,n,h=>by
   have h1:=Xfn l (n+(X04 x.2).length) fun y hy=>h y (by simp[hy])
   have h2:=h x (by simp)
   have v1:=X0v x.1.length
   have v2:=X0v n
   have v3:=X0v (X04 x.2).length
   have v4:=X0v (x.2.getD 0 (0,0)).1
   have v5:=X0v (x.2.getD (x.2.length - 1) (0,0)).1
   rw[ixF,List.length_append,List.length_cons]
   simp only[X50,List.length_append]
   omega
theorem Xei{l:List Ser}(h:X0y l=true):(X0j l).length≤20000:=by
 by_cases hn:l=[]
 · subst hn;simp[X0j]
 · have L:=RF.lay (s:=X0j l) (l:=l) ⟨⟨h,hn⟩,rfl⟩
   have h1:=L.len
   have h2:=X9C l
   have h3:=Xa3 l
   have h4:=L.five
   have h5:=Xfn l 4 fun x hx=>((X1t h).2.2.2 x hx).1
   omega
theorem XjL{l:List Ser}(h:X0y l=true):Xg7 (X0j l):=Nat.le_trans (Xei h) (by decide)
theorem Xjl{l:List Ser}(h:X0y l=true):X0j l=[]↔l=[]:=by
 constructor
 · intro e
   by_cases hn:l=[]
   · exact hn
   · have L:=RF.lay (s:=X0j l) (l:=l) ⟨⟨h,hn⟩,rfl⟩
     have h1:=L.len
     rw[e]at h1;simp at h1
 · rintro rfl;simp[X0j]
theorem Xo0(a:List Str)(f:Str):X7F (a++[f])=X7F a++[(X0e f).1]:=by simp[X7F]
theorem Xig(a:List (List Ser))(l:List Ser):X2s (a++[l])=X2O (X2s a) l:=by simp[X2s,List.foldl_append]
theorem XpP(a:List Str)(f:Str):okF (a++[f])=(okF a&&(X0e f).2):=by simp[okF,List.all_append]
theorem Xji(l:List Ser):X2O l []=l:=rfl
theorem Xew:∀{t l:List Ser},Xbn l→(∀x∈t,XcL x.2)→∀k,X5E (X2O l t) k=(X5E l k||X5E t k)
 | [],_,_,_,k=>by simp[X2O,X5E]
 | s::t,l,h,ht,k=>by
   obtain⟨a1,a2,_⟩:=Xdr h (ht s (by simp))
   rw[Xcc,Xew a1 (fun x hx=>ht x (by simp[hx])),a2,X6h,Bool.or_assoc]
theorem Xng{l:List Ser}(h:X8T l):X2O [] l=l:=
 XeB (X4C Xbk h.2).1 h.1 (fun k=>by rw[Xew Xbk.1 (fun x hx=>(h.2 x hx).1)];rfl)
  (fun k=>by rw[X4A Xbk.1 (fun x hx=>(h.2 x hx).1) h.1,Xha,XhF (XaR h.2 k).1])
theorem XdA(l:List Pt)(a b:Int):X0Z (X0Z l a b) a b=X0Z l a b:=by
 unfold X0Z;rw[List.filter_filter];simp
theorem Xb0{l:List Ser}(h:X8T l)(f:Int):X0s (X0s l f) f=X0s l f:=
 XeB (X1X (X1X h.1 f) f) (X1X h.1 f)
  (fun k=>by rw[(X1m (X1X h.1 f) f k).2,(X1m h.1 f k).1,XdA,(X1m h.1 f k).2])
  (fun k=>by rw[(X1m (X1X h.1 f) f k).1,(X1m h.1 f k).1,XdA])
theorem X52{e:Eng}(h:okF e.2.2=true):X0d e=(X0s (X2O (X2s (X7F e.2.2)) e.2.1) e.1,true):=by unfold X0d;rw[if_pos h]
theorem Xgo{e:Eng}(h:X9q 4 e):X9q 5 (Xd3 e)∧(Xd3 e).2.1=[]∧X0d (Xd3 e)=X0d e:=by
 unfold Xd3
 split
 · rename_i hn
   exact⟨⟨h.fl,h.ca,Nat.le_succ_of_le h.le,h.ok,h.pl,h.st⟩,hn,rfl⟩
 · rename_i hn
   have hr:=Xc0 h.ca hn
   have ho:okF (e.2.2++[X0j e.2.1])=true:=by rw[XpP,h.ok,hr];rfl
   have hp:X0d (e.1,[],e.2.2++[X0j e.2.1])=X0d e:=by
    rw[X52 (e:=(e.1,[],e.2.2++[X0j e.2.1])) ho,X52 h.ok]
    simp only
    rw[Xo0,hr,Xig,Xji]
   refine⟨⟨h.fl,rfl,?_,ho,?_,fun f hf=>?_⟩,rfl,hp⟩
   · have:=h.le;simp only[List.length_append,List.length_cons,List.length_nil];omega
   · rw[hp];exact h.pl
   · rcases List.mem_append.1 hf with hf | hf
     · exact h.st f hf
     · rw[List.mem_singleton.1 hf];exact XjL h.ca
theorem Xj3{e:Eng}(h:X9q 5 e)(hc:e.2.1=[]):X9q 4 (X72 e)∧(X72 e).2.1=[]∧X0d (X72 e)=X0d e:=by
 have hR:=XlF h.R
 have hok:okF (XfS (X0d e).1)=true:=by
  unfold XfS;split
  · rfl
  · rename_i hn
    have:=Xc0 h.pl hn
    simp[okF,this]
 have hp:X0d (X72 e)=X0d e:=by
  rw[X52 (e:=X72 e) hok]
  have e0:=X52 h.ok
  have e1:X2s (X7F (XfS (X0d e).1))=(X0d e).1:=by
   unfold XfS;split
   · rename_i hn;rw[hn];rfl
   · rename_i hn
     have:=Xc0 h.pl hn
     show X2s [(X0e (X0j (X0d e).1)).1]=_
     rw[this]
     show X2O [] _=_
     exact Xng hR
  show(X0s (X2O (X2s (X7F (XfS (X0d e).1))) e.2.1) e.1,true)=_
  rw[e1,hc,Xji]
  have e2:X0s (X0d e).1 e.1=(X0d e).1:=by
   rw[e0]
   exact Xb0 (X4C (X83 _ [] Xbk (Xe4 _)) h.R.2) _
  rw[e2,e0]
 refine⟨⟨h.fl,h.ca,?_,hok,by rw[hp];exact h.pl,fun f hf=>?_⟩,hc,hp⟩
 · show(XfS (X0d e).1).length≤4
   unfold XfS;split<;>simp
 · have hf':f∈XfS (X0d e).1:=hf
   unfold XfS at hf'
   split at hf'
   · cases hf'
   · rw[List.mem_singleton.1 hf'];exact XjL h.pl
theorem XgK{e:Eng}(h:X9q 4 e):X9q 4 (fFl e)∧(fFl e).2.1=[]∧X0d (fFl e)=X0d e:=by
 obtain⟨a,b,c⟩:=Xgo h
 unfold fFl
 split
 · obtain⟨d,e',f⟩:=Xj3 a b
   exact⟨d,e',f.trans c⟩
 · rename_i hn
   exact⟨⟨a.fl,a.ca,by omega,a.ok,a.pl,a.st⟩,b,c⟩
theorem X9q.mono{n k:Nat}{e:Eng}(h:X9q n e)(hk:n≤k):X9q k e:=⟨h.fl,h.ca,Nat.le_trans h.le hk,h.ok,h.pl,h.st⟩
theorem XkY{n:Nat}{e:Eng}(h:X9q n e)(hn:n≤5):Xn6 e∧XfT e=(X7F e.2.2++[e.2.1],true)∧Xla (X7F e.2.2++[e.2.1]) e.1∧XkM (X7F e.2.2++[e.2.1]) e.1=(X0d e).1:=by
 have ht:=Xd4 e
 have hs:=X1t h.ca
 have hl:=h.le
 refine⟨⟨h.st,by omega⟩,Xdt h.ok,?_,Xnb h.R h.ok⟩
 unfold Xla;omega
theorem XpN{e:Eng}(h:X9q 4 e):XmA e:=by
 have:=X1t h.ca
 have:=h.le
 exact⟨by omega,by omega⟩
end Go.Proofs.YtcfaphojdacmbaaGreatR.B
