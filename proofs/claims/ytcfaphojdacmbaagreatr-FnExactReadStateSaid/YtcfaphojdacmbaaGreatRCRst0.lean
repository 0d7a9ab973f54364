/- What stands in the text of a state. -/
import Derived.Test.YtcfaphojdacmbaaGreatRCShS
import Derived.Test.YtcfaphojdacmbaaGreatRCOp
import Derived.Test.YtcfaphojdacmbaaGreatRCRFile
set_option linter.unusedVariables false
set_option linter.unusedSimpArgs false
namespace Go.Proofs.YtcfaphojdacmbaaGreatR.B
open Go Go.Proofs.YtcfaphojdacmbaaGreatR.Bv
theorem Xly{k:List UInt8}(h:k.length≤1000000)(q:List UInt8):X0J (XbK k++q,true)=(k,(q,true)):=by
 unfold XbK;rw[List.append_assoc]
 unfold X0J
 rw[X9K (by unfold X1q;omega)]
 unfold X4O
 rw[if_pos ⟨rfl,by simp only[List.length_append];omega⟩]
 simp only[Int.toNat_natCast,List.take_left,List.drop_left]
def zAns:Ans:=(0,(0,(0,[])))
def cA(s:Str):Ans:=((X0B (s,true)).1,((X0B (X0B (s,true)).2).1,((X0B (X0B (X0B (s,true)).2).2).1,(X0B (X0B (X0B (s,true)).2).2).2.1)))
def okA(s:Str):Bool:=(X0B (X0B (X0B (s,true)).2).2).2.2
def X2x(s:Str):Ans×Bool:=if okA s=true∧X3S (cA s)=s then(cA s,true) else(zAns,false)
theorem XgH{a:Ans}(h:X48 a=true):X2x (X3S a)=(a,true):=by
 have e:X3S a=X0v a.1++(X0v a.2.1++(X0v a.2.2.1++a.2.2.2)):=by unfold X3S;rw[if_pos h]
 have h2:=h
 simp only[X48,X8w,fIn,Bool.and_eq_true,decide_eq_true_eq]at h2
 have n1:X0B (X3S a,true)=(a.1,(X0v a.2.1++(X0v a.2.2.1++a.2.2.2),true)):=by rw[e,X9K (by unfold X1q;omega)]
 have n2:X0B (X0v a.2.1++(X0v a.2.2.1++a.2.2.2),true)=(a.2.1,(X0v a.2.2.1++a.2.2.2,true)):=by rw[X9K (by unfold X1q;omega)]
 have n3:X0B (X0v a.2.2.1++a.2.2.2,true)=(a.2.2.1,(a.2.2.2,true)):=by rw[X9K (by unfold X1q;omega)]
 have ec:cA (X3S a)=a:=by unfold cA;rw[n1];simp only;rw[n2];simp only;rw[n3]
 have eo:okA (X3S a)=true:=by unfold okA;rw[n1];simp only;rw[n2];simp only;rw[n3]
 unfold X2x
 rw[ec,if_pos ⟨eo,rfl⟩]
theorem XsX(s:Str):(cA s).2.2.2.length≤s.length:=by
 have h1:=X4e (X0B (X0B (s,true)).2).2
 have h2:=X4e (X0B (s,true)).2
 have h3:=X4e (s,true)
 unfold cA;simp only at*;omega
theorem XfF(s:Str):(X2x s).1.2.2.2.length≤s.length:=by
 have:=XsX s
 unfold X2x;split
 · exact this
 · simp[zAns]
def Xlg:Nat→Rd→List Int×Rd
 | 0,i=>([],i)
 | n+1,i=>((X0B i).1::(Xlg n (X0B i).2).1,(Xlg n (X0B i).2).2)
theorem XqR{s:Str}{p:Int}(n:Nat)(out:List Int)(h0:0≤p)(hl:p≤s.length):
 ((X0B (s.drop p.toNat,true)).2=(s.drop p.toNat,false)∧X8d s (n+1) p out=(out,-1))∨
 (∃q,p≤q∧q≤s.length∧(X0B (s.drop p.toNat,true)).2=(s.drop q.toNat,true)∧X8d s (n+1) p out=X8d s n q (out++[(X0B (s.drop p.toNat,true)).1])):=by
 have hb:=X2f (s.drop p.toNat)
 rw[List.length_drop]at hb
 by_cases h1:(X0f (s.drop p.toNat)).2=0
 · exact .inl ⟨by rw[XsH (i:=(s.drop p.toNat,true)) h1],by rw[X8d,if_neg (by omega),if_pos h1]⟩
 · refine .inr ⟨p+(X0f (s.drop p.toNat)).2,by omega,by omega,?_,?_⟩
   · rw[XjT (i:=(s.drop p.toNat,true)) rfl h1]
     simp only[List.drop_drop]
     rw[show p.toNat+(X0f (s.drop p.toNat)).2.toNat=(p+(X0f (s.drop p.toNat)).2).toNat by omega]
   · rw[X8d,if_neg (by omega),if_neg h1,XjT (i:=(s.drop p.toNat,true)) rfl h1]
theorem Xkt:∀(n:Nat) {i:Rd},i.2=false→(Xlg n i).2.2=false
 | 0,_,h=>h
 | n+1,i,h=>by rw[Xlg];exact Xkt n (by rw[XjE h])
theorem Xhp{s:Str}:∀(n:Nat) {p:Int} (out:List Int),0≤p→p≤s.length→
 ((Xlg n (s.drop p.toNat,true)).2.2=false∧(X8d s n p out).2= -1)∨
 (∃q,p≤q∧q≤s.length∧(Xlg n (s.drop p.toNat,true)).2=(s.drop q.toNat,true)∧X8d s n p out=(out++(Xlg n (s.drop p.toNat,true)).1,q))
 | 0,p,out,h0,hl=>.inr ⟨p,by omega,hl,rfl,by simp[X8d,Xlg]⟩
 | n+1,p,out,h0,hl=>by
   rcases XqR (s:=s) n out h0 hl with⟨a,b⟩ | ⟨q,q1,q2,a,b⟩
   · left
     refine⟨?_,by rw[b]⟩
     rw[Xlg];exact Xkt n (by rw[a])
   · rw[b,Xlg,a]
     rcases Xhp (s:=s) n (p:=q) (out++[(X0B (s.drop p.toNat,true)).1]) (by omega) q2 with⟨c,d⟩ | ⟨q',r1,r2,c,d⟩
     · exact .inl ⟨c,d⟩
     · exact .inr ⟨q',by omega,r2,c,by rw[d,List.append_assoc];rfl⟩
theorem XgY:∀(n:Nat) (i:Rd),(Xlg n i).1.length=n
 | 0,_=>rfl
 | n+1,i=>by rw[Xlg];simp[XgY n]
theorem XqT{s:Str}(n:Nat){p:Int}(out:List Int)(hl:p>s.length):X8d s (n+1) p out=(out,-1):=by
 rw[X8d,if_pos hl]
theorem Xae(s:Str)(n:Nat){p:Int}(h0:0≤p)(h:0≤(X8d s (n+1) p []).2):(X8d s (n+1) p []).1.length=n+1∧p≤(X8d s (n+1) p []).2∧(X8d s (n+1) p []).2≤s.length:=by
 by_cases hl:p≤s.length
 · rcases Xhp (s:=s) (n+1) [] h0 hl with⟨_,d⟩ | ⟨q,q1,q2,c,d⟩
   · omega
   · rw[d];exact⟨by simp[XgY],q1,q2⟩
 · rw[XqT n [] (by omega)]at h;simp at h
theorem XpP{s:Str}:∀(n:Nat) (p:Int) (out:List Int),(∀x∈out,0≤x∧x≤562949953421311)→∀x∈(X8d s n p out).1,0≤x∧x≤562949953421311
 | 0,p,out,h=>h
 | n+1,p,out,h=>by
   rw[X8d]
   split
   · exact h
   · split
     · exact h
     · have hb:=X2f (s.drop p.toNat)
       refine XpP n _ _ fun x hx=>?_
       rcases List.mem_append.1 hx with hx | hx
       · exact h x hx
       · rw[List.mem_singleton.1 hx];omega
theorem Xex(s:Str)(n p:Int)(i:Nat):0≤(X07 s p n).1.getD i 0∧(X07 s p n).1.getD i 0≤562949953421311:=by
 by_cases hi:i<(X07 s p n).1.length
 · exact XpP n.toNat p [] (by simp) _ (X2g hi)
 · rw[List.getD_eq_getElem?_getD,List.getElem?_eq_none (by omega)];simp
theorem XhH{s:Str}:∀(vs:List Int) {p:Int} (out:List Int) (r:Str),0≤p→p≤s.length→(∀v∈vs,X1q v)→s.drop p.toNat=enc vs++r→X8d s vs.length p out=(out++vs,p+(enc vs).length)∧p+(enc vs).length≤s.length∧s.drop (p+(enc vs).length).toNat=r
 | [],p,out,r,h0,hl,_,e=>by
   refine⟨by simp[X8d,enc],by simpa [enc] using hl,by simpa [enc] using e⟩
 | v::vs,p,out,r,h0,hl,hv,e=>by
   have iv:=hv v (by simp)
   rw[Xce,List.append_assoc]at e
   have e2:s.drop (p+(X0v v).length).toNat=enc vs++r:=by
    rw[show(p+((X0v v).length:Int)).toNat=p.toNat+(X0v v).length by omega,←List.drop_drop,e,List.drop_left]
   have hq:p+(X0v v).length≤s.length:=by
    have:=congrArg List.length e
    rw[List.length_drop,List.length_append]at this
    omega
   have hp:=X80 iv
   obtain⟨a,b,c⟩:=XhH (s:=s) vs (p:=p+(X0v v).length) (out++[v]) r (by omega) hq (fun x hx=>hv x (by simp[hx])) e2
   have er:X0f (s.drop p.toNat)=(v,((X0v v).length:Int)):=by rw[e,Xin iv]
   have el:(enc (v::vs)).length=(X0v v).length+(enc vs).length:=by rw[Xce,List.length_append]
   rw[List.length_cons,X8d,if_neg (by omega),er]
   simp only
   rw[if_neg (by omega),a,el,List.append_assoc]
   refine⟨?_,by omega,?_⟩
   · rw[Prod.mk.injEq];exact⟨rfl,by omega⟩
   · rw[←c];congr 1;omega
theorem Xhe{s:Str}{p v:Int}{r:Str}(h0:0≤p)(hl:p≤s.length)(h1:X1q v)(e:s.drop p.toNat=X0v v++r):(X07 s p 1).1=[v]∧0≤(X07 s p 1).2∧s.drop (X07 s p 1).2.toNat=r:=by
 obtain⟨a,b,c⟩:=XhH (s:=s) [v] (p:=p) [] r h0 hl (by simpa using h1) (by rw[e];simp[enc])
 have a':X07 s p 1=([v],p+(enc [v]).length):=a
 rw[a']
 exact⟨rfl,by simp only;omega,c⟩
theorem Xnj{s:Str}{p v w:Int}{r:Str}(h0:0≤p)(hl:p≤s.length)(h1:X1q v)(h2:X1q w)(e:s.drop p.toNat=X0v v++(X0v w++r)):(X07 s p 2).1=[v,w]∧0≤(X07 s p 2).2∧s.drop (X07 s p 2).2.toNat=r:=by
 obtain⟨a,b,c⟩:=XhH (s:=s) [v,w] (p:=p) [] r h0 hl (by simp[h1,h2]) (by rw[e];simp[enc])
 have a':X07 s p 2=([v,w],p+(enc [v,w]).length):=a
 rw[a']
 exact⟨rfl,by simp only;omega,c⟩
theorem Xrx{s:Str}{p v w x:Int}{r:Str}(h0:0≤p)(hl:p≤s.length)(h1:X1q v)(h2:X1q w)(h3:X1q x)(e:s.drop p.toNat=X0v v++(X0v w++(X0v x++r))):(X07 s p 3).1=[v,w,x]∧0≤(X07 s p 3).2∧s.drop (X07 s p 3).2.toNat=r:=by
 obtain⟨a,b,c⟩:=XhH (s:=s) [v,w,x] (p:=p) [] r h0 hl (by simp[h1,h2,h3]) (by rw[e];simp[enc])
 have a':X07 s p 3=([v,w,x],p+(enc [v,w,x]).length):=a
 rw[a']
 exact⟨rfl,by simp only;omega,c⟩
def X3L(s:Str)(p:Int):Str×Int:=if (X07 s p 1).2<0∨(X07 s p 1).1.getD 0 0>(s.length:Int) - (X07 s p 1).2 then([],-1) else((s.take ((X07 s p 1).2+(X07 s p 1).1.getD 0 0).toNat).drop (X07 s p 1).2.toNat,(X07 s p 1).2+(X07 s p 1).1.getD 0 0)
theorem Xbs(s:Str){p:Int}(h0:0≤p):(X3L s p).1.length≤s.length∧(X3L s p).2≤s.length∧(0≤(X3L s p).2→p≤(X3L s p).2):=by
 have h1:=Xex s 1 p 0
 have h2:=Xae s 0 h0
 have e:X8d s (0+1) p []=X07 s p 1:=rfl
 rw[e]at h2
 unfold X3L
 split
 · simp
 · rename_i h3
   have h4:=h2 (by omega)
   refine⟨?_,by simp only;omega,fun _=>by simp only;omega⟩
   simp only[List.length_drop,List.length_take];omega
theorem XjK{s:Str}{p:Int}{t r:Str}(h0:0≤p)(hl:p≤s.length)(ht:t.length≤1000000)(e:s.drop p.toNat=XbK t++r):(X3L s p).1=t∧0≤(X3L s p).2∧s.drop (X3L s p).2.toNat=r:=by
 unfold XbK at e
 rw[List.append_assoc]at e
 obtain⟨a,b,c⟩:=Xhe h0 hl (by unfold X1q;omega) e
 have d:=(Xae s 0 h0 b).2.2
 have c2:=congrArg List.length c
 rw[List.length_drop,List.length_append]at c2
 have d':(X07 s p 1).2≤s.length:=d
 unfold X3L
 rw[a,if_neg (by simp only[List.getD_cons_zero];omega)]
 simp only[List.getD_cons_zero]
 refine⟨?_,by omega,?_⟩
 · rw[List.drop_take,c,show((X07 s p 1).2+(t.length:Int)).toNat - (X07 s p 1).2.toNat=t.length by omega,List.take_left]
 · rw[show((X07 s p 1).2+(t.length:Int)).toNat=(X07 s p 1).2.toNat+t.length by omega,←List.drop_drop,c,List.drop_left]
def RS(s:Str)(X:Stt):Prop:=X2A X=true∧Xk6 X=s
def q5(X:Stt)(i:Nat):Str:=(X.2.2.2.2.2.drop i).flatMap shS
def q4(X:Stt):Str:=X0v X.2.2.2.2.2.length++q5 X 0
def q3(X:Stt)(i:Nat):Str:=(X.2.2.2.2.1.2.2.drop i).flatMap XbK++q4 X
def q2(X:Stt):Str:=X0v X.2.2.2.2.1.1++(XbK (X0o X.2.2.2.2.1.2.1)++(X0v X.2.2.2.2.1.2.2.length++q3 X 0))
def q1(X:Stt)(i:Nat):Str:=(X.2.2.2.1.drop i).flatMap shB++q2 X
theorem XkP(X:Stt):Xk6 X=UInt8.ofNat X.1.toNat::(X0v X.2.1++(X0v X.2.2.1++(X0v X.2.2.2.1.length++q1 X 0))):=by
 simp[Xk6,sh1,sh2,q1,q2,q3,q4,q5]
theorem XmK{X:Stt}{i:Nat}(h:i<X.2.2.2.1.length):q1 X i=X0v (X.2.2.2.1.getD i (0,0)).1++(X0v (X.2.2.2.1.getD i (0,0)).2++q1 X (i+1)):=by
 unfold q1;rw[X3h (0,0) h];simp[shB]
theorem Xqm{X:Stt}{i:Nat}(h:¬i<X.2.2.2.1.length):q1 X i=q2 X:=by
 unfold q1;rw[List.drop_eq_nil_of_le (by omega)];simp
theorem XmF{X:Stt}{i:Nat}(h:i<X.2.2.2.2.1.2.2.length):q3 X i=XbK (X.2.2.2.2.1.2.2.getD i [])++q3 X (i+1):=by
 unfold q3;rw[X3h [] h];simp
theorem Xqe{X:Stt}{i:Nat}(h:¬i<X.2.2.2.2.1.2.2.length):q3 X i=q4 X:=by
 unfold q3;rw[List.drop_eq_nil_of_le (by omega)];simp
theorem Xoh{X:Stt}{i:Nat}(h:i<X.2.2.2.2.2.length):q5 X i=X0v (X.2.2.2.2.2.getD i X8c).1++(X0v (X.2.2.2.2.2.getD i X8c).2.1++(XbK (X3S (X.2.2.2.2.2.getD i X8c).2.2)++q5 X (i+1))):=by
 unfold q5;rw[X3h X8c h];simp[shS]
theorem Xsa{X:Stt}{i:Nat}(h:¬i<X.2.2.2.2.2.length):q5 X i=[]:=by
 unfold q5;rw[List.drop_eq_nil_of_le (by omega)];simp
def X7u(t:Str):List Ser:=if t=[] then [] else(X0g t).1
theorem Xjs(t:Str):(X0g t).1.length≤5∧∀x∈(X0g t).1,x.1.length≤8:=by
 unfold X0g;split
 · rename_i h
   have:=Xau h.1.1
   exact⟨this.2.2.1,fun x hx=>(this.2.2.2 x hx).1⟩
 · simp
theorem XcA(t:Str):(X7u t).length≤5∧∀x∈X7u t,x.1.length≤8:=by
 unfold X7u;split
 · simp
 · exact Xjs t
structure RSF (X:Stt):Prop where
 k:StK X
 kind:((UInt8.ofNat X.1.toNat).toNat:Int)=X.1
 h:X1q X.2.1
 m:X1q X.2.2.1
 nb:X1q X.2.2.2.1.length
 fl:X1q X.2.2.2.2.1.1
 nf:X1q X.2.2.2.2.1.2.2.length
 ns:X1q X.2.2.2.2.2.length
 bk:∀b∈X.2.2.2.1,X1q b.1∧X1q b.2
 ch:X7u (X0o X.2.2.2.2.1.2.1)=X.2.2.2.2.1.2.1
 se:∀x∈X.2.2.2.2.2,X1q x.1∧X1q x.2.1∧X48 x.2.2=true
theorem Xmk{c:List Ser}(h:X2i c=true):X7u (X0o c)=c:=by
 unfold X7u
 by_cases h2:X0o c=[]
 · rw[if_pos h2]
   by_cases h3:c=[]
   · exact h3.symm
   · have L:=RF.lay (s:=X0o c) (l:=c) ⟨⟨h,h3⟩,rfl⟩
     have:=L.len
     have h4:=X8T c
     rw[h2]at this;simp at this
 · rw[if_neg h2,←XeW (Xrd rfl h2)]
theorem X1Q{X:Stt}(h:X2A X=true):RSF X:=by
 have K:=Xca h
 have k1:=K.nb
 have k2:=K.nf
 have k3:=K.ns
 have kd:((UInt8.ofNat X.1.toNat).toNat:Int)=X.1:=by rcases K.kind with e | e<;>rw[e]<;>rfl
 unfold X2A at h
 rw[Bool.and_eq_true]at h
 obtain⟨h0,h⟩:=h
 have hs:∀x∈X.2.2.2.2.2,X1q x.1∧X1q x.2.1∧X48 x.2.2=true:=fun x hx=>by
  obtain⟨j,hj,e⟩:=List.getElem_of_mem hx
  have:=Xea h0 j hj
  simp only[Xkx,ss1,Bool.and_eq_true]at this
  rw[X1w hj,e]at this
  have t1:=this.1.1
  have t2:=this.1.2.1
  simp only[fIn,Bool.and_eq_true,decide_eq_true_eq]at t1 t2
  exact⟨by unfold X1q;omega,by unfold X1q;omega,this.1.2.2⟩
 split at h
 · simp only[Bool.and_eq_true,X5k,X9s,decide_eq_true_eq,X8w,fIn]at h
   obtain⟨a1,a2,⟨hb,hb2⟩,e1,e2,e3⟩:=h
   refine⟨K,kd,by unfold X1q;omega,by unfold X1q;omega,by unfold X1q;omega,by unfold X1q;omega,by unfold X1q;omega,by unfold X1q;omega,fun b hx=>?_,?_,hs⟩
   · obtain⟨j,hj,e⟩:=List.getElem_of_mem hx
     simp only[Xe9,List.all_eq_true,List.mem_range]at hb2
     have:=hb2 j hj
     simp only[XoA,bk1,Bool.and_eq_true]at this
     rw[X1w hj,e]at this
     have t1:=this.1.1
     have t2:=this.1.2.2
     simp only[fIn,Bool.and_eq_true,decide_eq_true_eq]at t1 t2
     exact⟨by unfold X1q;omega,by unfold X1q;omega⟩
   · rw[List.length_eq_zero_iff.1 e2];rfl
 · split at h
   · simp only[Bool.and_eq_true,decide_eq_true_eq]at h
     obtain⟨a1,a2,hb,he⟩:=h
     unfold X5o X3z at he
     split at he
     · rename_i h1
       unfold XaE at h1
       simp only[Bool.and_eq_true,decide_eq_true_eq,X8w,fIn]at h1
       refine⟨K,kd,by unfold X1q;omega,by unfold X1q;omega,by unfold X1q;omega,by unfold X1q;omega,by unfold X1q;omega,by unfold X1q;omega,fun b hx=>?_,Xmk h1.2.1,hs⟩
       rw[List.length_eq_zero_iff.1 hb]at hx;cases hx
     · cases he
   · cases h
def zStt:Stt:=(0,(0,(0,([],((0,([],[])),[])))))
open Classical in
noncomputable def X2M(s:Str):Stt×Bool:=if h:∃X,RS s X then(h.choose,true) else(zStt,false)
theorem Xn8{s:Str}{x:Stt}(h:RS s x)(hu:∀X,RS s X→X=x):X2M s=(x,true):=by
 unfold X2M
 have hex:∃X,RS s X:=⟨x,h⟩
 rw[dif_pos hex,hu _ hex.choose_spec]
theorem Xcy{s:Str}(h:∀X,¬RS s X):X2M s=(zStt,false):=by
 unfold X2M;rw[dif_neg fun ⟨X,hX⟩=>h X hX]
theorem RS_of{s:Str}{x:Stt}(h:X9W x=s)(h2:s≠[]):RS s x:=by
 unfold X9W at h
 split at h
 · rename_i h3;exact⟨h3,h⟩
 · exact absurd h.symm h2
theorem Xr5{s:Str}{x:Stt}(h:RS s x):X9W x=s:=by unfold X9W;rw[if_pos h.1,h.2]
theorem XfK{s:Str}{x:Stt}(hs:s≠[])(h:X9W x=s)(hu:∀X,RS s X→X=x):X2M s=(x,true):=Xn8 (RS_of h hs) hu
theorem Xft{s:Str}{x:Stt}(h:¬X9W x=s)(hu:∀X,RS s X→X=x):X2M s=(zStt,false):=Xcy fun X hX=>h (by rw[←hu X hX];exact Xr5 hX)
theorem XdA{i:Rd}(h:(X0B i).2.2=true):i.2=true:=by
 cases hi:i.2 with
 | true=>rfl
 | false=>rw[XjE hi]at h;cases h
theorem Xhl{i:Rd}(h:(X0J i).2.2=true):i.2=true:=by
 cases hi:i.2 with
 | true=>rfl
 | false=>rw[Xoj hi]at h;cases h
theorem X9q{i:Rd}{v:Int}{q:Str}(h:X1q v)(e:i=(X0v v++q,true)):X0B i=(v,(q,true)):=by rw[e];exact X9K h q
def X35(i:Rd)(most:Int):Int×Rd:=(if (X0B i).2.2=true∧(X0B i).1≤most then(X0B i).1 else 0,((X0B i).2.1,(X0B i).2.2&&decide ((X0B i).1≤most)))
theorem Xe2{i:Rd}{most:Int}(h:0≤most):(X35 i most).1≤most:=by
 unfold X35;simp only;split
 · rename_i h2;exact h2.2
 · exact h
theorem XeD(i:Rd)(most:Int):(X35 i most).2.1.length≤i.1.length:=X4e i
theorem Xhc{i:Rd}{most:Int}(h:(X35 i most).2.2=true):i.2=true:=by
 unfold X35 at h
 simp only[Bool.and_eq_true]at h
 exact XdA h.1
theorem Xfs{i:Rd}{v most:Int}{q:Str}(h:X1q v)(hm:v≤most)(e:i=(X0v v++q,true)):X35 i most=(v,(q,true)):=by
 unfold X35
 rw[X9q h e]
 simp only
 rw[if_pos ⟨trivial,hm⟩,decide_eq_true hm];rfl
theorem Xdj{i:Rd}{t q:Str}(h:t.length≤1000000)(e:i=(XbK t++q,true)):X0J i=(t,(q,true)):=by rw[e];exact Xly h q
theorem XrC{s:Str}(h:(X75 (s,true)).2.2=true):s≠[]:=by
 intro e;subst e
 rw[Xrs (by simp)]at h;cases h
theorem Xpm(s:Str):(X75 (s,true)).2.1.length≤s.length:=(Xih (s,true) 1).2
structure R1 (s rest:Str) (ok:Bool) (k h m:Int) (b:List Bkt) (i:Int):Prop where
 p1:0≤i
 p2:i≤12
 p3:(b.length:Int)=i
 p4:rest.length≤s.length
 p5:ok=true→s≠[]
 px:∀X,RS s X→ok=true∧rest=q1 X i.toNat∧k=X.1∧h=X.2.1∧m=X.2.2.1∧b=X.2.2.2.1.take i.toNat
theorem Xp7(s:Str):R1 s (X35 (X0B (X0B (X75 (s,true)).2).2).2 12).2.1 (X35 (X0B (X0B (X75 (s,true)).2).2).2 12).2.2 (X75 (s,true)).1 (X0B (X75 (s,true)).2).1 (X0B (X0B (X75 (s,true)).2).2).1 [] 0∧∀X,RS s X→(X35 (X0B (X0B (X75 (s,true)).2).2).2 12).1=X.2.2.2.1.length:=by
 have key:∀X,RS s X→X75 (s,true)=(X.1,(X0v X.2.1++(X0v X.2.2.1++(X0v X.2.2.2.1.length++q1 X 0)),true)):=fun X hX=>by
  have F:=X1Q hX.1
  rw[←hX.2,XkP,Xru (by simp)]
  simp only[List.getD_cons_zero,List.drop_succ_cons,List.drop_zero]
  rw[F.kind]
 have key2:∀X,RS s X→X0B (X75 (s,true)).2=(X.2.1,(X0v X.2.2.1++(X0v X.2.2.2.1.length++q1 X 0),true)):=fun X hX=>X9q (X1Q hX.1).h (by rw[key X hX])
 have key3:∀X,RS s X→X0B (X0B (X75 (s,true)).2).2=(X.2.2.1,(X0v X.2.2.2.1.length++q1 X 0,true)):=fun X hX=>X9q (X1Q hX.1).m (by rw[key2 X hX])
 have key4:∀X,RS s X→X35 (X0B (X0B (X75 (s,true)).2).2).2 12=(((X.2.2.2.1.length:Nat):Int),(q1 X 0,true)):=fun X hX=>Xfs (X1Q hX.1).nb (by have:=(X1Q hX.1).k.nb;omega) (by rw[key3 X hX])
 refine⟨⟨by omega,by omega,rfl,?_,fun h=>XrC (XdA (XdA (Xhc h))),fun X hX=>?_⟩,fun X hX=>by rw[key4 X hX]⟩
 · have h1:=XeD (X0B (X0B (X75 (s,true)).2).2).2 12
   have h2:=X4e (X0B (X75 (s,true)).2).2
   have h3:=X4e (X75 (s,true)).2
   have h4:=Xpm s
   omega
 · rw[key4 X hX,key3 X hX,key2 X hX,key X hX]
   exact⟨rfl,rfl,rfl,rfl,rfl,rfl⟩
theorem Xra{s rest:Str}{ok:Bool}{k h m:Int}{b:List Bkt}{i n:Int}(H:R1 s rest ok k h m b i)(hi:i<n)(hn:n≤12)(hX:∀X,RS s X→n=X.2.2.2.1.length):
 R1 s (X0B (X0B (rest,ok)).2).2.1 (X0B (X0B (rest,ok)).2).2.2 k h m (b++[((X0B (rest,ok)).1,(X0B (X0B (rest,ok)).2).1)]) (i+1):=by
 have p1:=H.p1
 refine⟨by omega,by omega,by simp;exact H.p3,?_,fun h=>H.p5 (XdA (i:=(rest,ok)) (XdA h)),fun X h=>?_⟩
 · have h1:=X4e (X0B (rest,ok)).2
   have h2:=X4e (rest,ok)
   have h3:=H.p4
   simp only at h2;omega
 · obtain⟨e1,e2,e3,e4,e5,e6⟩:=H.px X h
   have F:=X1Q h.1
   have hx:=hX X h
   have hl:i.toNat<X.2.2.2.1.length:=by omega
   have hb:=F.bk _ (X2g (d:=((0,0):Bkt)) hl)
   rw[XmK hl]at e2
   have n1:X0B (rest,ok)=_:=X9q hb.1 (by rw[e1,e2])
   have n2:X0B (X0B (rest,ok)).2=_:=X9q hb.2 (by rw[n1])
   rw[n2,n1]
   refine⟨rfl,by rw[show(i+1).toNat=i.toNat+1 by omega],e3,e4,e5,?_⟩
   rw[e6,show(i+1).toNat=i.toNat+1 by omega,X0P (0,0) hl]
structure R2 (s rest:Str) (ok:Bool) (k h m:Int) (b:List Bkt) (f:Int) (c:List Ser) (g:List Str) (i:Int):Prop where
 p1:0≤i
 p2:i≤4
 p3:(g.length:Int)=i
 p4:rest.length≤s.length
 p5:ok=true→s≠[]
 p6:c.length≤5∧∀x∈c,x.1.length≤8
 p7:∀x∈g,x.length≤s.length
 px:∀X,RS s X→ok=true∧rest=q3 X i.toNat∧k=X.1∧h=X.2.1∧m=X.2.2.1∧b=X.2.2.2.1∧f=X.2.2.2.2.1.1∧c=X.2.2.2.2.1.2.1∧g=X.2.2.2.2.1.2.2.take i.toNat
theorem XkV{s rest:Str}{ok:Bool}{k h m:Int}{b:List Bkt}{i n:Int}(H:R1 s rest ok k h m b i)(hi:¬i<n)(hX:∀X,RS s X→n=X.2.2.2.1.length){c:List Ser}(hc:c=X7u (X0J (X0B (rest,ok)).2).1):
 R2 s (X35 (X0J (X0B (rest,ok)).2).2 4).2.1 (X35 (X0J (X0B (rest,ok)).2).2 4).2.2 k h m b (X0B (rest,ok)).1 c [] 0∧∀X,RS s X→(X35 (X0J (X0B (rest,ok)).2).2 4).1=X.2.2.2.2.1.2.2.length:=by
 have p1:=H.p1
 have key:∀X,RS s X→X0B (rest,ok)=(X.2.2.2.2.1.1,(XbK (X0o X.2.2.2.2.1.2.1)++(X0v X.2.2.2.2.1.2.2.length++q3 X 0),true)):=fun X h=>by
  obtain⟨e1,e2,_⟩:=H.px X h
  have hx:=hX X h
  exact X9q (X1Q h.1).fl (by rw[e1,e2,Xqm (by omega)];rfl)
 have key2:∀X,RS s X→X0J (X0B (rest,ok)).2=(X0o X.2.2.2.2.1.2.1,(X0v X.2.2.2.2.1.2.2.length++q3 X 0,true)):=fun X h=>Xdj (by have:=XaT X.2.2.2.2.1.2.1;omega) (by rw[key X h])
 have key3:∀X,RS s X→X35 (X0J (X0B (rest,ok)).2).2 4=(((X.2.2.2.2.1.2.2.length:Nat):Int),(q3 X 0,true)):=fun X h=>Xfs (X1Q h.1).nf (by have:=(X1Q h.1).k.nf;omega) (by rw[key2 X h])
 refine⟨⟨by omega,by omega,rfl,?_,fun h=>H.p5 (XdA (i:=(rest,ok)) (Xhl (Xhc h))),by rw[hc];exact XcA _,by simp,fun X h=>?_⟩,fun X h=>by rw[key3 X h]⟩
 · have h1:=XeD (X0J (X0B (rest,ok)).2).2 4
   have h2:=(X92 (X0B (rest,ok)).2).2
   have h3:=X4e (rest,ok)
   have h4:=H.p4
   simp only at h3;omega
 · obtain⟨e1,e2,e3,e4,e5,e6⟩:=H.px X h
   have hx:=hX X h
   rw[key3 X h,hc,key2 X h,key X h]
   refine⟨rfl,rfl,e3,e4,e5,?_,rfl,(X1Q h.1).ch,by simp⟩
   rw[e6,List.take_of_length_le (by omega)]
theorem XnR{s rest:Str}{ok:Bool}{k h m:Int}{b:List Bkt}{f:Int}{c:List Ser}{g:List Str}{i n:Int}(H:R2 s rest ok k h m b f c g i)(hi:i<n)(hn:n≤4)(hX:∀X,RS s X→n=X.2.2.2.2.1.2.2.length):
 R2 s (X0J (rest,ok)).2.1 (X0J (rest,ok)).2.2 k h m b f c (g++[(X0J (rest,ok)).1]) (i+1):=by
 have p1:=H.p1
 have p4:=H.p4
 have pl:=X92 (rest,ok)
 simp only at pl
 refine⟨by omega,by omega,by simp;exact H.p3,by omega,fun h=>H.p5 (Xhl (i:=(rest,ok)) h),H.p6,fun x hx=>?_,fun X h=>?_⟩
 · rcases List.mem_append.1 hx with hx | hx
   · exact H.p7 x hx
   · rw[List.mem_singleton.1 hx];omega
 · obtain⟨e1,e2,e3,e4,e5,e6,e7,e8,e9⟩:=H.px X h
   have F:=X1Q h.1
   have hx:=hX X h
   have hl:i.toNat<X.2.2.2.2.1.2.2.length:=by omega
   have hf:=F.k.fl _ (X2g (d:=([]:Str)) hl)
   rw[XmF hl]at e2
   have n1:X0J (rest,ok)=_:=Xdj (t:=X.2.2.2.2.1.2.2.getD i.toNat []) (by omega) (by rw[e1,e2])
   rw[n1]
   refine⟨rfl,by rw[show(i+1).toNat=i.toNat+1 by omega],e3,e4,e5,e6,e7,e8,?_⟩
   rw[e9,show(i+1).toNat=i.toNat+1 by omega,X0P [] hl]
structure R3 (s rest:Str) (ok:Bool) (k h m:Int) (b:List Bkt) (f:Int) (c:List Ser) (g:List Str) (u:List X8m) (i:Int):Prop where
 p1:0≤i
 p2:i≤4
 p3:(u.length:Int)=i
 p4:rest.length≤s.length
 p5:ok=true→s≠[]
 p6:c.length≤5∧∀x∈c,x.1.length≤8
 p7:∀x∈g,x.length≤s.length
 p8:g.length≤4
 p9:∀x∈u,x.2.2.2.2.2.length≤s.length
 px:∀X,RS s X→ok=true∧rest=q5 X i.toNat∧k=X.1∧h=X.2.1∧m=X.2.2.1∧b=X.2.2.2.1∧f=X.2.2.2.2.1.1∧c=X.2.2.2.2.1.2.1∧g=X.2.2.2.2.1.2.2∧u=X.2.2.2.2.2.take i.toNat
theorem XkS{s rest:Str}{ok:Bool}{k h m:Int}{b:List Bkt}{f:Int}{c:List Ser}{g:List Str}{i n:Int}(H:R2 s rest ok k h m b f c g i)(hi:¬i<n)(hX:∀X,RS s X→n=X.2.2.2.2.1.2.2.length):
 R3 s (X35 (rest,ok) 4).2.1 (X35 (rest,ok) 4).2.2 k h m b f c g [] 0∧∀X,RS s X→(X35 (rest,ok) 4).1=X.2.2.2.2.2.length:=by
 have p1:=H.p1
 have p2:=H.p2
 have p3:=H.p3
 have key:∀X,RS s X→X35 (rest,ok) 4=(((X.2.2.2.2.2.length:Nat):Int),(q5 X 0,true)):=fun X h=>by
  obtain⟨e1,e2,_⟩:=H.px X h
  have hx:=hX X h
  exact Xfs (X1Q h.1).ns (by have:=(X1Q h.1).k.ns;omega) (by rw[e1,e2,Xqe (by omega)];rfl)
 refine⟨⟨by omega,by omega,rfl,?_,fun h=>H.p5 (Xhc (i:=(rest,ok)) h),H.p6,H.p7,by omega,by simp,fun X h=>?_⟩,fun X h=>by rw[key X h]⟩
 · have h1:=XeD (rest,ok) 4
   have h4:=H.p4
   simp only at h1;omega
 · obtain⟨e1,e2,e3,e4,e5,e6,e7,e8,e9⟩:=H.px X h
   have hx:=hX X h
   rw[key X h]
   refine⟨rfl,rfl,e3,e4,e5,e6,e7,e8,?_,by simp⟩
   rw[e9,List.take_of_length_le (by omega)]
theorem XmC{s rest:Str}{ok:Bool}{k h m:Int}{b:List Bkt}{f:Int}{c:List Ser}{g:List Str}{u:List X8m}{i n:Int}(H:R3 s rest ok k h m b f c g u i)(hi:i<n)(hn:n≤4)(hX:∀X,RS s X→n=X.2.2.2.2.2.length):
 R3 s (X0J (X0B (X0B (rest,ok)).2).2).2.1 (X0J (X0B (X0B (rest,ok)).2).2).2.2 k h m b f c g (u++[((X0B (rest,ok)).1,((X0B (X0B (rest,ok)).2).1,(X2x (X0J (X0B (X0B (rest,ok)).2).2).1).1))]) (i+1):=by
 have p1:=H.p1
 have p4:=H.p4
 have l1:=X4e (rest,ok)
 have l2:=X4e (X0B (rest,ok)).2
 have l3:=X92 (X0B (X0B (rest,ok)).2).2
 have l4:=XfF (X0J (X0B (X0B (rest,ok)).2).2).1
 simp only at l1
 refine⟨by omega,by omega,by simp;exact H.p3,by omega,fun h=>H.p5 (XdA (i:=(rest,ok)) (XdA (Xhl h))),H.p6,H.p7,H.p8,fun x hx=>?_,fun X h=>?_⟩
 · rcases List.mem_append.1 hx with hx | hx
   · exact H.p9 x hx
   · rw[List.mem_singleton.1 hx];simp only;omega
 · obtain⟨e1,e2,e3,e4,e5,e6,e7,e8,e9,e10⟩:=H.px X h
   have F:=X1Q h.1
   have hx:=hX X h
   have hl:i.toNat<X.2.2.2.2.2.length:=by omega
   have hs:=F.se _ (X2g (d:=X8c) hl)
   rw[Xoh hl]at e2
   have n1:X0B (rest,ok)=_:=X9q hs.1 (by rw[e1,e2])
   have n2:X0B (X0B (rest,ok)).2=_:=X9q hs.2.1 (by rw[n1])
   have n3:X0J (X0B (X0B (rest,ok)).2).2=_:=Xdj (t:=X3S (X.2.2.2.2.2.getD i.toNat X8c).2.2) (by have:=Xbk (X.2.2.2.2.2.getD i.toNat X8c).2.2;omega) (by rw[n2])
   rw[n3,n2,n1]
   refine⟨rfl,by rw[show(i+1).toNat=i.toNat+1 by omega],e3,e4,e5,e6,e7,e8,e9,?_⟩
   simp only
   rw[XgH hs.2.2,e10,show(i+1).toNat=i.toNat+1 by omega,X0P X8c hl]
theorem XpV{s rest:Str}{ok:Bool}{k h m:Int}{b:List Bkt}{f:Int}{c:List Ser}{g:List Str}{u:List X8m}{i n:Int}(H:R3 s rest ok k h m b f c g u i)(hi:¬i<n)(hs:s.length≤maxLen)(hX:∀X,RS s X→n=X.2.2.2.2.2.length):
 Xho (k,(h,(m,(b,((f,(c,g)),u)))))∧∀X,RS s X→ok=true∧X=(k,(h,(m,(b,((f,(c,g)),u))))):=by
 have p1:=H.p1
 have p8:=H.p8
 refine⟨⟨⟨⟨fun x hx=>?_,fun x hx=>?_⟩,by have:=H.p6.1;simp only;omega,by simp only;omega⟩,fun x hx=>?_⟩,fun X h=>?_⟩
 · have:=H.p6.2 x hx;unfold maxLen;omega
 · have:=H.p7 x hx;unfold Xc9;omega
 · have:=H.p9 x hx;omega
 · obtain⟨e1,e2,e3,e4,e5,e6,e7,e8,e9,e10⟩:=H.px X h
   have hx:=hX X h
   refine⟨e1,?_⟩
   rw[List.take_of_length_le (by omega)]at e10
   rw[e3,e4,e5,e6,e7,e8,e9,e10]
theorem XlE(l:List Pt):(X04 l).length≤861:=by
 unfold X04;split
 · rename_i h
   have hn:=X6Q h.1
   unfold X33;split
   · have h1:=X2u (X0v l.length++X0l (l.map (·.1))++X0h (l.map (·.2))).length 4
     have h2:=X2u (Xe5 (X0E (X0v l.length++X0l (l.map (·.1))++X0h (l.map (·.2))).length 4++(X0v l.length++X0l (l.map (·.1))++X0h (l.map (·.2))))) 4
     have h3:=X0d l.length
     have h4:=X5G (l.map (·.1))
     have h5:=X56 (l.map (·.2))
     simp only[List.length_append]at*
     omega
   · simp
 · simp
theorem Xkq:∀l:List Ser,(txF l).length≤861*l.length
 | []=>by simp[txF]
 | x::l=>by
   have h1:=Xkq l
   have h2:=XlE x.2
   rw[Xhr,List.length_append,List.length_cons];omega
theorem Xj8(l:List Ser):(X0o l).length≤4817:=by
 by_cases hc:X2i l=true∧l≠[]
 · have L:=RF.lay (s:=X0o l) (l:=l) ⟨hc,rfl⟩
   have h1:=L.len
   have h2:=X8T l
   have h3:=Xkq l
   have h4:=L.five
   have h5:=XhK l 4 fun x hx=>((Xau hc.1).2.2.2 x hx).1
   omega
 · unfold X0o;rw[if_neg hc];simp
theorem Xok{f:Str}(h:(X0g f).2=true):f.length≤4817:=by
 unfold X0g at h
 split at h
 · rename_i hr;rw[←hr.2];exact Xj8 _
 · cases h
theorem XpN{s:Stt}(h:X2A s=true):∀f∈s.2.2.2.2.1.2.2,(X0g f).2=true:=by
 unfold X2A at h
 rw[Bool.and_eq_true]at h
 obtain⟨h0,h⟩:=h
 split at h
 · simp only[Bool.and_eq_true,X9s,decide_eq_true_eq]at h
   obtain⟨_,_,_,_,_,hf⟩:=h
   intro f hx
   rw[List.length_eq_zero_iff.1 hf]at hx;cases hx
 · split at h
   · simp only[Bool.and_eq_true,decide_eq_true_eq]at h
     obtain⟨_,_,_,he⟩:=h
     unfold X5o X3z at he
     split at he
     · split at he
       · rename_i h2
         rw[Xfy]at h2
         exact fun f hx=>List.all_eq_true.1 h2 f hx
       · cases he
     · cases he
   · cases h
theorem Xhk{α:Type}(F:α→Str)(n:Nat):∀(l:List α),(∀x∈l,(F x).length≤n)→(l.flatMap F).length≤n*l.length
 | [],_=>by simp
 | x::l,h=>by
   have h1:=Xhk F n l fun y hy=>h y (by simp[hy])
   have h2:=h x (by simp)
   rw[List.flatMap_cons,List.length_append,List.length_cons,Nat.mul_add];omega
theorem Xs2{s:Str}{X:Stt}(h:RS s X):s.length≤30000:=by
 have K:=Xca h.1
 have k1:=K.nb
 have k2:=K.nf
 have k3:=K.ns
 have f1:=Xhk shB 14 X.2.2.2.1 fun x _=>Xrm x
 have f2:=Xhk XbK 4824 X.2.2.2.2.1.2.2 fun x hx=>by have:=XaD x;have:=Xok (XpN h.1 x hx);omega
 have f3:=Xhk shS 1100 X.2.2.2.2.2 fun x _=>Xk2 x
 have g1:=XrG X
 have g2:=X0d X.2.2.2.2.1.1
 have g3:=XaD (X0o X.2.2.2.2.1.2.1)
 have g4:=Xj8 X.2.2.2.2.1.2.1
 have g5:=X0d X.2.2.2.2.1.2.2.length
 have g6:=X0d X.2.2.2.2.2.length
 rw[←h.2]
 unfold Xk6 sh2
 simp only[List.length_append]
 omega
def qPs(s:Str)(y:(Stt×Bool)×(Unit×Unit)):Prop:=(y.1.2=true→Xho y.1.1∧s≠[])∧∀X,RS s X→y.1=(X,true)
theorem X9P{s:Str}{x:Stt}(h:∀X,¬RS s X):qPs s ((x,false),((),())):=⟨fun h0=>(by cases h0),fun X hX=>absurd hX (h X)⟩
theorem Xdw(s:Str){p:Int}(h0:0≤p)(h:0≤(X07 s p 1).2):(X07 s p 1).1.length=1∧p≤(X07 s p 1).2∧(X07 s p 1).2≤s.length:=Xae s 0 h0 h
theorem Xik(s:Str){p:Int}(h0:0≤p)(h:0≤(X07 s p 2).2):(X07 s p 2).1.length=2∧p≤(X07 s p 2).2∧(X07 s p 2).2≤s.length:=Xae s 1 h0 h
theorem XpY(s:Str){p:Int}(h0:0≤p)(h:0≤(X07 s p 3).2):(X07 s p 3).1.length=3∧p≤(X07 s p 3).2∧(X07 s p 3).2≤s.length:=Xae s 2 h0 h
structure S1 (s:Str) (p n k h m:Int) (b:List Bkt):Prop where
 p1:0≤p
 p2:p≤s.length
 p3:0≤n
 p4:b.length+n≤12
 p5:s≠[]
 px:∀X,RS s X→s.drop p.toNat=q1 X b.length∧n=X.2.2.2.1.length - b.length∧k=X.1∧h=X.2.1∧m=X.2.2.1∧b=X.2.2.2.1.take b.length
theorem XhU{s:Str}{X:Stt}(hX:RS s X):((s.getD 0 0).toNat:Int)=X.1∧(X07 s 1 3).1=[X.2.1,X.2.2.1,((X.2.2.2.1.length:Nat):Int)]∧0≤(X07 s 1 3).2∧s.drop (X07 s 1 3).2.toNat=q1 X 0:=by
 have F:=X1Q hX.1
 have e:s=UInt8.ofNat X.1.toNat::(X0v X.2.1++(X0v X.2.2.1++(X0v X.2.2.2.1.length++q1 X 0))):=by rw[←hX.2,XkP]
 refine⟨by rw[e];exact F.kind,Xrx (by omega) (by rw[e];simp;omega) F.h F.m F.nb (by rw[show(1:Int).toNat=1 from rfl,e];rfl)⟩
theorem XoP{s:Str}(h:0≤(X07 s 1 3).2)(h2:(X07 s 1 3).1.getD 2 0≤12):S1 s (X07 s 1 3).2 ((X07 s 1 3).1.getD 2 0) ((s.getD 0 0).toNat:Int) ((X07 s 1 3).1.getD 0 0) ((X07 s 1 3).1.getD 1 0) []:=by
 obtain⟨b1,b2,b3⟩:=XpY s (by omega) h
 refine⟨h,b3,(Xex _ _ _ _).1,by simpa using h2,fun e=>by subst e;simp at b3;omega,fun X hX=>?_⟩
 obtain⟨f1,f2,f3,f4⟩:=XhU hX
 rw[f2]
 exact⟨f4,by simp,f1,rfl,rfl,by simp⟩
theorem XnL{s:Str}{p n k h m:Int}{b:List Bkt}(H:S1 s p n k h m b)(hn:n>0){X:Stt}(hX:RS s X):
 (X07 s p 2).1=[(X.2.2.2.1.getD b.length (0,0)).1,(X.2.2.2.1.getD b.length (0,0)).2]∧0≤(X07 s p 2).2∧s.drop (X07 s p 2).2.toNat=q1 X (b.length+1):=by
 obtain⟨e1,e2,_⟩:=H.px X hX
 have hl:b.length<X.2.2.2.1.length:=by omega
 have hb:=(X1Q hX.1).bk _ (X2g (d:=((0,0):Bkt)) hl)
 exact Xnj H.p1 H.p2 hb.1 hb.2 (by rw[e1,XmK hl])
theorem Xry{s:Str}{p n k h m:Int}{b:List Bkt}(H:S1 s p n k h m b)(hn:n>0)(hr:0≤(X07 s p 2).2):
 S1 s (X07 s p 2).2 (n - 1) k h m (b++[((X07 s p 2).1.getD 0 0,(X07 s p 2).1.getD 1 0)]):=by
 obtain⟨b1,b2,b3⟩:=Xik s H.p1 hr
 have p4:=H.p4
 refine⟨hr,b3,by omega,by simp;omega,H.p5,fun X hX=>?_⟩
 obtain⟨e1,e2,e3,e4,e5,e6⟩:=H.px X hX
 obtain⟨f1,f2,f3⟩:=XnL H hn hX
 have hl:b.length<X.2.2.2.1.length:=by omega
 have hb1:(b++[((X07 s p 2).1.getD 0 0,(X07 s p 2).1.getD 1 0)]).length=b.length+1:=by simp
 rw[hb1]
 refine⟨f3,by omega,e3,e4,e5,?_⟩
 rw[f1,X0P (0,0) hl,←e6];rfl
structure S2 (s:Str) (p n k h m:Int) (b:List Bkt) (f:Int) (c:List Ser) (g:List Str):Prop where
 p1:0≤p
 p2:p≤s.length
 p3:0≤n
 p4:g.length+n≤4
 p5:s≠[]
 p6:c.length≤5∧∀x∈c,x.1.length≤8
 p7:∀x∈g,x.length≤s.length
 px:∀X,RS s X→s.drop p.toNat=q3 X g.length∧n=X.2.2.2.2.1.2.2.length - g.length∧k=X.1∧h=X.2.1∧m=X.2.2.1∧b=X.2.2.2.1∧f=X.2.2.2.2.1.1∧c=X.2.2.2.2.1.2.1∧g=X.2.2.2.2.1.2.2.take g.length
theorem Xl8{s:Str}{p n k h m:Int}{b:List Bkt}(H:S1 s p n k h m b)(hn:¬n>0){X:Stt}(hX:RS s X):
 (X07 s p 1).1=[X.2.2.2.2.1.1]∧0≤(X07 s p 1).2∧s.drop (X07 s p 1).2.toNat=XbK (X0o X.2.2.2.2.1.2.1)++(X0v X.2.2.2.2.1.2.2.length++q3 X 0):=by
 obtain⟨e1,e2,_⟩:=H.px X hX
 exact Xhe H.p1 H.p2 (X1Q hX.1).fl (by rw[e1,Xqm (by omega)];rfl)
theorem XnU{s:Str}{p n k h m:Int}{b:List Bkt}(H:S1 s p n k h m b)(hn:¬n>0){X:Stt}(hX:RS s X):
 (X3L s (X07 s p 1).2).1=X0o X.2.2.2.2.1.2.1∧0≤(X3L s (X07 s p 1).2).2∧s.drop (X3L s (X07 s p 1).2).2.toNat=X0v X.2.2.2.2.1.2.2.length++q3 X 0:=by
 obtain⟨f1,f2,f3⟩:=Xl8 H hn hX
 have b3:=(Xdw s H.p1 f2).2.2
 have:=XaT X.2.2.2.2.1.2.1
 exact XjK f2 b3 (by omega) f3
theorem XcS{s:Str}{p n k h m:Int}{b:List Bkt}(H:S1 s p n k h m b)(hn:¬n>0){X:Stt}(hX:RS s X):
 (X07 s (X3L s (X07 s p 1).2).2 1).1=[((X.2.2.2.2.1.2.2.length:Nat):Int)]∧0≤(X07 s (X3L s (X07 s p 1).2).2 1).2∧s.drop (X07 s (X3L s (X07 s p 1).2).2 1).2.toNat=q3 X 0:=by
 obtain⟨f1,f2,f3⟩:=XnU H hn hX
 have g2:=(Xl8 H hn hX).2.1
 exact Xhe f2 (Xbs s g2).2.1 (X1Q hX.1).nf f3
theorem XkN{s:Str}{p n k h m:Int}{b:List Bkt}(H:S1 s p n k h m b)(hn:¬n>0)(h1:0≤(X07 s p 1).2)(h2:0≤(X3L s (X07 s p 1).2).2)(h3:0≤(X07 s (X3L s (X07 s p 1).2).2 1).2)(h4:(X07 s (X3L s (X07 s p 1).2).2 1).1.getD 0 0≤4){c:List Ser}(hc:c=X7u (X3L s (X07 s p 1).2).1):S2 s (X07 s (X3L s (X07 s p 1).2).2 1).2 ((X07 s (X3L s (X07 s p 1).2).2 1).1.getD 0 0) k h m b ((X07 s p 1).1.getD 0 0) c []:=by
 obtain⟨b1,b2,b3⟩:=Xdw s h2 h3
 refine⟨h3,b3,(Xex _ _ _ _).1,by simpa using h4,H.p5,by rw[hc];exact XcA _,by simp,fun X hX=>?_⟩
 obtain⟨e1,e2,e3,e4,e5,e6⟩:=H.px X hX
 obtain⟨f1,f2,f3⟩:=XcS H hn hX
 rw[hc,(XnU H hn hX).1,(Xl8 H hn hX).1,f1,(X1Q hX.1).ch]
 refine⟨f3,by simp,e3,e4,e5,?_,rfl,rfl,by simp⟩
 rw[e6,List.take_of_length_le (by omega)]
theorem Xjt{s:Str}{p n k h m:Int}{b:List Bkt}{f:Int}{c:List Ser}{g:List Str}(H:S2 s p n k h m b f c g)(hn:n>0){X:Stt}(hX:RS s X):
 (X3L s p).1=X.2.2.2.2.1.2.2.getD g.length []∧0≤(X3L s p).2∧s.drop (X3L s p).2.toNat=q3 X (g.length+1):=by
 obtain⟨e1,e2,_⟩:=H.px X hX
 have hl:g.length<X.2.2.2.2.1.2.2.length:=by omega
 have hf:=(X1Q hX.1).k.fl _ (X2g (d:=([]:Str)) hl)
 exact XjK (t:=X.2.2.2.2.1.2.2.getD g.length []) H.p1 H.p2 (by omega) (by rw[e1,XmF hl])
theorem Xnw{s:Str}{p n k h m:Int}{b:List Bkt}{f:Int}{c:List Ser}{g:List Str}(H:S2 s p n k h m b f c g)(hn:n>0)(hr:0≤(X3L s p).2):
 S2 s (X3L s p).2 (n - 1) k h m b f c (g++[(X3L s p).1]):=by
 obtain⟨b1,b2,b3⟩:=Xbs s H.p1
 have p4:=H.p4
 refine⟨hr,b2,by omega,by simp;omega,H.p5,H.p6,fun x hx=>?_,fun X hX=>?_⟩
 · rcases List.mem_append.1 hx with hx | hx
   · exact H.p7 x hx
   · rw[List.mem_singleton.1 hx];exact b1
 obtain⟨e1,e2,e3,e4,e5,e6,e7,e8,e9⟩:=H.px X hX
 obtain⟨f1,f2,f3⟩:=Xjt H hn hX
 have hl:g.length<X.2.2.2.2.1.2.2.length:=by omega
 have hb1:(g++[(X3L s p).1]).length=g.length+1:=by simp
 rw[hb1]
 refine⟨f3,by omega,e3,e4,e5,e6,e7,e8,?_⟩
 rw[f1,X0P [] hl,←e9]
structure S3 (s:Str) (p n k h m:Int) (b:List Bkt) (f:Int) (c:List Ser) (g:List Str) (u:List X8m):Prop where
 p1:0≤p
 p2:p≤s.length
 p3:0≤n
 p4:u.length+n≤4
 p5:s≠[]
 p6:c.length≤5∧∀x∈c,x.1.length≤8
 p7:∀x∈g,x.length≤s.length
 p8:g.length≤4
 p9:∀x∈u,x.2.2.2.2.2.length≤s.length
 px:∀X,RS s X→s.drop p.toNat=q5 X u.length∧n=X.2.2.2.2.2.length - u.length∧k=X.1∧h=X.2.1∧m=X.2.2.1∧b=X.2.2.2.1∧f=X.2.2.2.2.1.1∧c=X.2.2.2.2.1.2.1∧g=X.2.2.2.2.1.2.2∧u=X.2.2.2.2.2.take u.length
theorem XiL{s:Str}{p n k h m:Int}{b:List Bkt}{f:Int}{c:List Ser}{g:List Str}(H:S2 s p n k h m b f c g)(hn:¬n>0){X:Stt}(hX:RS s X):
 (X07 s p 1).1=[((X.2.2.2.2.2.length:Nat):Int)]∧0≤(X07 s p 1).2∧s.drop (X07 s p 1).2.toNat=q5 X 0:=by
 obtain⟨e1,e2,_⟩:=H.px X hX
 exact Xhe H.p1 H.p2 (X1Q hX.1).ns (by rw[e1,Xqe (by omega)];rfl)
theorem XkO{s:Str}{p n k h m:Int}{b:List Bkt}{f:Int}{c:List Ser}{g:List Str}(H:S2 s p n k h m b f c g)(hn:¬n>0)(h1:0≤(X07 s p 1).2)(h4:(X07 s p 1).1.getD 0 0≤4):
 S3 s (X07 s p 1).2 ((X07 s p 1).1.getD 0 0) k h m b f c g []:=by
 obtain⟨b1,b2,b3⟩:=Xdw s H.p1 h1
 have p3:=H.p3
 have p4:=H.p4
 refine⟨h1,b3,(Xex _ _ _ _).1,by simpa using h4,H.p5,H.p6,H.p7,by omega,by simp,fun X hX=>?_⟩
 obtain⟨e1,e2,e3,e4,e5,e6,e7,e8,e9⟩:=H.px X hX
 obtain⟨f1,f2,f3⟩:=XiL H hn hX
 rw[f1]
 refine⟨f3,by simp,e3,e4,e5,e6,e7,e8,?_,by simp⟩
 rw[e9,List.take_of_length_le (by omega)]
theorem Xhd{s:Str}{p n k h m:Int}{b:List Bkt}{f:Int}{c:List Ser}{g:List Str}{u:List X8m}(H:S3 s p n k h m b f c g u)(hn:n>0){X:Stt}(hX:RS s X):
 (X07 s p 2).1=[(X.2.2.2.2.2.getD u.length X8c).1,(X.2.2.2.2.2.getD u.length X8c).2.1]∧0≤(X07 s p 2).2∧s.drop (X07 s p 2).2.toNat=XbK (X3S (X.2.2.2.2.2.getD u.length X8c).2.2)++q5 X (u.length+1):=by
 obtain⟨e1,e2,_⟩:=H.px X hX
 have hl:u.length<X.2.2.2.2.2.length:=by omega
 have hb:=(X1Q hX.1).se _ (X2g (d:=X8c) hl)
 exact Xnj H.p1 H.p2 hb.1 hb.2.1 (by rw[e1,Xoh hl])
theorem Xec{s:Str}{p n k h m:Int}{b:List Bkt}{f:Int}{c:List Ser}{g:List Str}{u:List X8m}(H:S3 s p n k h m b f c g u)(hn:n>0){X:Stt}(hX:RS s X):
 (X3L s (X07 s p 2).2).1=X3S (X.2.2.2.2.2.getD u.length X8c).2.2∧0≤(X3L s (X07 s p 2).2).2∧s.drop (X3L s (X07 s p 2).2).2.toNat=q5 X (u.length+1):=by
 obtain⟨f1,f2,f3⟩:=Xhd H hn hX
 have b3:=(Xik s H.p1 f2).2.2
 have:=Xbk (X.2.2.2.2.2.getD u.length X8c).2.2
 exact XjK f2 b3 (by omega) f3
theorem XhT{s:Str}{p n k h m:Int}{b:List Bkt}{f:Int}{c:List Ser}{g:List Str}{u:List X8m}(H:S3 s p n k h m b f c g u)(hn:n>0){X:Stt}(hX:RS s X):
 X2x (X3L s (X07 s p 2).2).1=((X.2.2.2.2.2.getD u.length X8c).2.2,true):=by
 obtain⟨e1,e2,_⟩:=H.px X hX
 have hl:u.length<X.2.2.2.2.2.length:=by omega
 rw[(Xec H hn hX).1,XgH ((X1Q hX.1).se _ (X2g (d:=X8c) hl)).2.2]
theorem XmE{s:Str}{p n k h m:Int}{b:List Bkt}{f:Int}{c:List Ser}{g:List Str}{u:List X8m}(H:S3 s p n k h m b f c g u)(hn:n>0)(h1:0≤(X07 s p 2).2)(h2:0≤(X3L s (X07 s p 2).2).2):
 S3 s (X3L s (X07 s p 2).2).2 (n - 1) k h m b f c g (u++[((X07 s p 2).1.getD 0 0,((X07 s p 2).1.getD 1 0,(X2x (X3L s (X07 s p 2).2).1).1))]):=by
 obtain⟨b1,b2,b3⟩:=Xbs s h1
 have l4:=XfF (X3L s (X07 s p 2).2).1
 have p4:=H.p4
 refine⟨h2,b2,by omega,by simp;omega,H.p5,H.p6,H.p7,H.p8,fun x hx=>?_,fun X hX=>?_⟩
 · rcases List.mem_append.1 hx with hx | hx
   · exact H.p9 x hx
   · rw[List.mem_singleton.1 hx];simp only;omega
 obtain⟨e1,e2,e3,e4,e5,e6,e7,e8,e9,e10⟩:=H.px X hX
 have hl:u.length<X.2.2.2.2.2.length:=by omega
 have hb1:∀y:X8m,(u++[y]).length=u.length+1:=fun y=>by simp
 rw[hb1]
 refine⟨(Xec H hn hX).2.2,by omega,e3,e4,e5,e6,e7,e8,e9,?_⟩
 rw[XhT H hn hX,(Xhd H hn hX).1,X0P X8c hl,←e10];rfl
theorem Xq1{s:Str}{p n k h m:Int}{b:List Bkt}{f:Int}{c:List Ser}{g:List Str}{u:List X8m}(H:S3 s p n k h m b f c g u)(hn:¬n>0)(hs:s.length≤maxLen):
 qPs s (((k,(h,(m,(b,((f,(c,g)),u))))),(p==(s.length:Int))),((),())):=by
 have p8:=H.p8
 refine⟨fun _=>⟨⟨⟨⟨fun x hx=>?_,fun x hx=>?_⟩,by have:=H.p6.1;simp only;omega,by simp only;omega⟩,fun x hx=>?_⟩,H.p5⟩,fun X hX=>?_⟩
 · have:=H.p6.2 x hx;unfold maxLen;omega
 · have:=H.p7 x hx;unfold Xc9;omega
 · have:=H.p9 x hx;omega
 · obtain⟨e1,e2,e3,e4,e5,e6,e7,e8,e9,e10⟩:=H.px X hX
   have p1:=H.p1
   have p2:=H.p2
   rw[Xsa (by omega)]at e1
   have hl:=congrArg List.length e1
   rw[List.length_drop,List.length_nil]at hl
   rw[List.take_of_length_le (by omega)]at e10
   have hp:(p==(s.length:Int))=true:=by rw[beq_iff_eq];omega
   rw[hp,e3,e4,e5,e6,e7,e8,e9,e10]
end Go.Proofs.YtcfaphojdacmbaaGreatR.B
