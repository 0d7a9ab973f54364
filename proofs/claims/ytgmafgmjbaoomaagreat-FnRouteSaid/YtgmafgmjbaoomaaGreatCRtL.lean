/- A law of buckets. -/
import Derived.Test.YtgmafgmjbaoomaaGreatCSdo3
import Derived.Test.YtgmafgmjbaoomaaGreatCRts
import Derived.Test.YtgmafgmjbaoomaaGreatCSame
set_option maxRecDepth 100000
set_option linter.unusedVariables false
set_option linter.unusedSimpArgs false
namespace Go.Proofs.YtgmafgmjbaoomaaGreat.B
open Go Go.Proofs.YtgmafgmjbaoomaaGreat.Bv
def XiK(k:Int):Stt×Bool:=((k,(0,(0,([],((0,([],[])),[]))))),true)
def XnR(k:Int):Prop:=k=1
def X4T:Con:={A:=(.int .i64),shA:=[.one],R:=(.pair T3q .bool),shR:=[(true,8),(false,1)],fresh:=[(3,43),(5,109),(6,9),(7,64)],pre:=fun _ a=>(XnR a),f:=some fun _ a=>((XiK a),((),()))}
def X1Y.F(a0:Int):Prop:=(X00 (a0 !=(1:Int)) (X00 (a0 !=(2:Int)) (Eq (((0,(0,(0,(([]:U5q),((0,(([]:U8q),([]:(List U4q)))),([]:(List U7q))))))),false),((),())) ((XiK a0),((),()))) (Eq (((a0,(0,(0,(([]:U5q),((0,(([]:U8q),([]:(List U4q)))),([]:(List U7q))))))),true),((),())) ((XiK a0),((),())))) (Eq (((a0,(0,(0,(([]:U5q),((0,(([]:U8q),([]:(List U4q)))),([]:(List U7q))))))),true),((),())) ((XiK a0),((),()))))
theorem X1Y.pure(a0:Int)(h:(XnR a0))(hw:Wf X4T.A a0):X1Y.F a0:=by
 unfold X1Y.F
 simp only[Bs,B0,B1,Prod.mk.injEq,X03,Prod.eta]
 have hk:a0=1:=h
 subst hk
 exact⟨fun c=>absurd rfl c,fun _=>rfl⟩
theorem X1Y.eq:EqS X4T Tryz.f6 [31,4] [] [] noL (fun i x=>X1Y.F x):=by intro i x;kernel_rfl
theorem X1Y.ok:X0o Tryz.prog 6 X4T:=X2u X1Y.eq Tryz.func6 rfl (by kernel_rfl) fun i x h hi hw=>X1Y.pure x h hw
def X1Y.e:GE:=⟨6,X4T,⟨_,Tryz.func6,rfl,rfl⟩,X1Y.ok⟩
def XcR(code:List Int)(i:Int):Int:=if i<code.length then IntKind.wrap .i64 (code.getD i.toNat 0) else Int.tmod (IntKind.wrap .i64 (IntKind.wrap .i64 (i*37)+IntKind.wrap .i64 (code.length*11))) 256
def XlX(code:List Int)(i:Int):Prop:=0≤i
def X9X:Con:={A:=(.pair (.list (.int .u8)) (.int .i64)),shA:=[.one,.one],R:=(.int .i64),shR:=[(false,1)],pre:=fun _ a=>(XlX a.1 a.2),f:=some fun _ a=>((XcR a.1 a.2),((),()))}
def X6d.F(a0:(List Int))(a1:Int):Prop:=(X00 (decide (a1<(ln a0))) (0≤a1∧(a1<(ln a0)∧(Eq ((wI (List.getD a0 (tN a1) 0)),((),())) ((XcR a0 a1),((),()))))) ((256:Int)≠0∧(Eq ((Int.tmod (wI ((wI (a1*(37:Int)))+(wI ((ln a0)*(11:Int))))) (256:Int)),((),())) ((XcR a0 a1),((),())))))
theorem X6d.pure(a0:(List Int))(a1:Int)(h:(XlX a0 a1))(hw:Wf X9X.A (a0,a1)):X6d.F a0 a1:=by
 delta X6d.F ln tN wI
 simp only[Bs,B0,B1,Prod.mk.injEq,X03,Prod.eta]
 have hp:0≤a1:=h
 refine⟨fun h1=>⟨hp,h1,?_⟩,fun h1=>⟨by omega,?_⟩⟩
 · unfold XcR;rw[if_pos h1]
 · unfold XcR;rw[if_neg h1]
theorem X6d.eq:EqS X9X Tryz.f7 [3] [] [] noL (fun i x=>X6d.F x.1 x.2):=by intro i x;kernel_rfl
theorem X6d.ok:X0o Tryz.prog 7 X9X:=X2u X6d.eq Tryz.func7 rfl (by kernel_rfl) fun i x h hi hw=>X6d.pure x.1 x.2 h hw
def X6d.e:GE:=⟨7,X9X,⟨_,Tryz.func7,rfl,rfl⟩,X6d.ok⟩
def Xbr:List Int→List Bkt→List Bkt
 | [],_=>[]
 | n::c,l=>(n,((X8L l n).getD (X6q l n).1.toNat (0,0)).2)::Xbr c (X8L l n)
def Xbk(l:List Bkt):Str:=l.flatMap fun b=>X1H b.1++X1H b.2
theorem Xgy:∀(c:List Int) (l:List Bkt) (d:Str),(dGo c (l,d)).2=d++Xbk (Xbr c l)
 | [],l,d=>by simp[dGo,Xbr,Xbk]
 | n::c,l,d=>by
   have ih:=Xgy c (X8L l n) (d++(X1H n++X1H ((X8L l n).getD (X6q l n).1.toNat (0,0)).2))
   have e:dGo (n::c) (l,d)=dGo c (X8L l n,d++(X1H n++X1H ((X8L l n).getD (X6q l n).1.toNat (0,0)).2)):=rfl
   rw[e,ih]
   simp[Xbr,Xbk,List.append_assoc]
theorem Xn1{l:List Bkt}{n:Int}{b:Bkt}(h:b∈l):b∈X8L l n:=X9C.2 (.inl h)
theorem XfZ:∀(c:List Int) (l:List Bkt) (d:Str) {b:Bkt},b∈l→b∈(dGo c (l,d)).1
 | [],l,d,b,h=>h
 | n::c,l,d,b,h=>XfZ c (X8L l n) _ (Xn1 h)
theorem Xog{k:Nat}{l:List Bkt}{n:Int}(h:Xfm k l):((X8L l n).getD (X6q l n).1.toNat (0,0)).1=n:=by
 have hp:=XiI l n
 cases hh:(X6q l n).2 with
 | false=>
   rw[←Xok hh,List.getD_eq_getElem?_getD,List.getElem?_append_right (by rw[List.length_take];omega),List.length_take,show(X6q l n).1.toNat - min (X6q l n).1.toNat l.length=0 by omega]
   rfl
 | true=>
   rw[Xig hh]
   have ha:=r_at l n
   rw[Xig hh]at ha
   have hT:Xks l n=true:=hh
   have e2:(X6q l n).1.toNat=pos ltI Prod.fst n l:=by show((pos ltI Prod.fst n l:Nat):Int).toNat=_;omega
   rw[e2]
   have hlt:pos ltI Prod.fst n l<l.length:=by omega
   have hI:bsI l n () ((pos ltI Prod.fst n l:Nat):Int) ((pos ltI Prod.fst n l:Nat):Int):=by
    refine⟨by omega,by omega,by omega,fun k hk=>XgN n (0,0) l k (by omega),fun k h1 h2=>?_⟩
    have:=X8h (lt:=ltI) (key:=Prod.fst) Xm8 (k:=n) h.r.1 (x:=l.getD k (0,0)) (by
     have e:l.getD k (0,0)=(l.drop (pos ltI Prod.fst n l)).getD (k - pos ltI Prod.fst n l) (0,0):=by
      rw[List.getD_eq_getElem?_getD,List.getD_eq_getElem?_getD,List.getElem?_drop];congr 2;omega
     rw[e];exact X2C (by rw[List.length_drop];omega))
    exact this
   obtain⟨_,q⟩:=Xhn h.r hI (by omega)
   rw[hT]at q
   have q:=(Bool.and_eq_true _ _▸q.symm:_∧_).2
   have:=of_decide_eq_true q
   rw[Int.toNat_natCast]at this
   exact this
theorem Xhc:∀(c:List Int) (l:List Bkt) (d:Str) (k:Nat),Xfm k l→(∀x∈c,0≤x∧x≤10995116277)→
 Xfm (k+c.length) (dGo c (l,d)).1∧(∀b∈Xbr c l,b∈(dGo c (l,d)).1)∧(Xbr c l).map Prod.fst=c
 | [],l,d,k,h,hc=>⟨h,(fun b hb=>by cases hb),rfl⟩
 | n::c,l,d,k,h,hc=>by
   have hr:=r_ok h (hc n (by simp))
   obtain⟨i1,i2,i3⟩:=Xhc c (X8L l n) (d++(X1H n++X1H ((X8L l n).getD (X6q l n).1.toNat (0,0)).2)) (k+1) hr fun x hx=>hc x (by simp[hx])
   refine⟨by rw[List.length_cons,show k+(c.length+1)=k+1+c.length by omega];exact i1,fun b hb=>?_,by rw[Xbr,List.map_cons,i3]⟩
   rcases List.mem_cons.1 hb with e | hb
   · have ha:=r_at l n
     have hp:=XiI l n
     have hm:=X2C (d:=((0,0):Bkt)) (l:=X8L l n) (i:=(X6q l n).1.toNat) (by omega)
     have e2:b=(X8L l n).getD (X6q l n).1.toNat (0,0):=by rw[e];exact Prod.ext (Xog h).symm rfl
     rw[e2]
     exact XfZ c _ _ hm
   · exact i2 b hb
theorem Xm7{m:Int}:∀(c:List Int) (l:List Bkt) (d:Str),(∀b∈l,X5F b.1 m=false)→(∀x∈c,X5F x m=false)→∀b∈(dGo c (l,d)).1,X5F b.1 m=false
 | [],l,d,h,hc=>h
 | n::c,l,d,h,hc=>Xm7 c (X8L l n) _ (fun b hb=>by
    rcases X9C.1 hb with hb | ⟨rfl,_⟩
    · exact h b hb
    · exact hc n (by simp)) fun x hx=>hc x (by simp[hx])
theorem XeA(s:Int):∀a b:List Bkt,nSh s (a++b)=nSh s a+nSh s b
 | [],b=>by simp[nSh]
 | x::a,b=>by rw[List.cons_append,nSh,nSh,XeA s a b];omega
def XkO(l:List Bkt):Prop:=0≤nSh 0 l - nSh 1 l∧nSh 0 l - nSh 1 l≤1
theorem XnV{l:List Bkt}{n:Int}(h:XkO l):XkO (X8L l n):=by
 cases hh:(X6q l n).2 with
 | true=>rw[Xig hh];exact h
 | false=>
   have e:∀s,nSh s (X8L l n)=nSh s l+if X50 l=s then 1 else 0:=fun s=>by
    rw[←Xok hh,XeA,XeA]
    have:nSh s l=nSh s (l.take (X6q l n).1.toNat)+nSh s (l.drop (X6q l n).1.toNat):=by rw[←XeA,List.take_append_drop]
    rw[this]
    simp only[nSh]
    omega
   unfold XkO at h ⊢
   rw[e,e]
   unfold X50
   split<;>simp<;>omega
theorem Xj4:∀(c:List Int) (l:List Bkt) (d:Str),XkO l→XkO (dGo c (l,d)).1
 | [],l,d,h=>h
 | n::c,l,d,h=>Xj4 c (X8L l n) _ (XnV h)
theorem XjJ:∀(b out:List Bkt) (n:Nat),(out++b).length≤8→(out++b).Pairwise (fun x y=>x.1<y.1)→(∀x∈b,0≤x.1∧x.1≤10995116277∧(x.2=0∨x.2=1))→(Xbk b).length≤n→rGo n (Xbk b) out=(out++b,true)
 | [],out,n,h1,h2,h3,hn=>by
   cases n with
   | zero=>simp[rGo]
   | succ n=>simp[rGo,Xbk]
 | x::b,out,n,h1,h2,h3,hn=>by
   obtain⟨g0,g1,g2⟩:=h3 x (by simp)
   have iv:X3K x.1:=⟨g0,by omega⟩
   have iw:X3K x.2:=by unfold X3K;omega
   have p1:=X5r iv
   have p2:=X5r iw
   have ee:Xbk (x::b)=X1H x.1++(X1H x.2++Xbk b):=by simp[Xbk,List.append_assoc]
   have le:(Xbk (x::b)).length=(X1H x.1).length+((X1H x.2).length+(Xbk b).length):=by rw[ee];simp only[List.length_append]
   cases n with
   | zero=>omega
   | succ n=>
     rw[rGo,if_neg (by omega)]
     have r1:X04 (Xbk (x::b))=(x.1,((X1H x.1).length:Int)):=by rw[ee];exact XeF iv _
     have d1:(Xbk (x::b)).drop (X04 (Xbk (x::b))).2.toNat=X1H x.2++Xbk b:=by
      rw[r1];simp only[Int.toNat_natCast];rw[ee,List.drop_left]
     have r2:X04 (X1H x.2++Xbk b)=(x.2,((X1H x.2).length:Int)):=XeF iw _
     have hs:XbK (Xbk (x::b)) out=some (Xbk b,x):=by
      unfold XbK
      rw[d1,r1,r2]
      simp only
      rw[if_neg (by omega),if_neg (by omega),if_neg,Int.toNat_natCast,List.drop_left]
      rw[Xaw]
      rintro (c | c | c | c)
      · omega
      · omega
      · have hm:=X2C (d:=((0,0):Bkt)) (l:=out) (i:=out.length - 1) (by omega)
        have:=(List.pairwise_append.1 h2).2.2 _ hm x (by simp)
        omega
      · simp only[List.length_append,List.length_cons]at h1;omega
     rw[hs]
     simp only
     have:=XjJ b (out++[x]) n (by simpa using h1) (by simpa using h2) (fun y hy=>h3 y (by simp[hy])) (by omega)
     rw[this,List.append_assoc];rfl
theorem XhP{b:List Bkt}(h1:b.length≤8)(h2:b.Pairwise (fun x y=>x.1<y.1))(h3:∀x∈b,0≤x.1∧x.1≤10995116277∧(x.2=0∨x.2=1)):X3Y (Xbk b)=(b,true):=by
 unfold X3Y
 have:=XjJ b [] (Xbk b).length (by simpa using h1) (by simpa using h2) h3 (Nat.le_refl _)
 simpa using this
theorem XiE:∀b:List Bkt,(Xbk b).length≤14*b.length
 | []=>by simp[Xbk]
 | x::b=>by
   have:=XiE b
   have v1:=X1v x.1
   have v2:=X1v x.2
   have e:Xbk (x::b)=(X1H x.1++X1H x.2)++Xbk b:=rfl
   rw[e];simp only[List.length_append,List.length_cons];omega
theorem XnH(a b:Int):(X1z a b).Pairwise (fun x y=>x<y):=by
 unfold X1z
 split
 · exact List.Pairwise.nil
 · unfold X8r
   rw[List.pairwise_map]
   exact List.Pairwise.imp (fun h=>by omega) List.pairwise_lt_range
structure StR (s:Stt):Prop where
 k:s.1=1
 h:s.2.1=0
 mm:0≤s.2.2.1∧s.2.2.1≤1000000
 bk:Xfm 12 s.2.2.2.1
 np:∀b∈s.2.2.2.1,X5F b.1 s.2.2.1=false
 ez:s.2.2.2.2=((0,([],[])),[])
structure OpR (o:Opp):Prop where
 k:o.1=1∨o.1=2
 ok:X0v o=true
 fr:0≤o.2.2.1∧o.2.2.1≤1000000
 ky:o.2.1=[]
def LOk(l:List Bkt)(x:Stt):Prop:=l.length≤8∧∀b∈l,b∈x.2.2.2.1∧¬(b.1+1)*100≤x.2.2.1∧0≤b.1∧b.1≤10995116277
def OutI(past:Bool)(i:Int)(s:Stt):Prop:=(0≤i∧i≤13)∧StR s∧(past=false→XkO s.2.2.2.1)
def Aft(past:Bool)(i:Int)(s:Stt)(o:Opp)(x:Stt)(a:Ans):Prop:=
 OutI past (i+1) x∧StR s∧(∀b∈s.2.2.2.1,b∈x.2.2.2.1∨(b.1+1)*100≤x.2.2.1)∧(o.1=1→a.1=0→∃L,X3Y a.2.2.2=(L,true)∧LOk L x)∧a.2.2.2.length≤1000
theorem XgI{n m:Int}(h:0≤n∧n≤10995116277):X5F n m=decide ((n+1)*100≤m):=by
 unfold X5F;rw[w64 (x:=n+1) (by omega) (by omega),w64 (by omega) (by omega)]
theorem StR.num{s:Stt}(h:StR s){b:Bkt}(hb:b∈s.2.2.2.1):0≤b.1∧b.1≤10995116277:=⟨(h.bk.r.2 b hb).1,h.bk.m b hb⟩
theorem Xnw{s:Stt}(h:StR s):X1S s=true:=by
 have hm:=h.mm
 have hb:X3G s.2.2.2.1 s.2.2.1=true:=by
  unfold X3G
  rw[Bool.and_eq_true,decide_eq_true_eq]
  refine⟨h.bk.len,X9i fun j hj=>?_⟩
  have hmem:=X2C (d:=((0,0):Bkt)) hj
  have hn:=h.num hmem
  have hp:=h.np _ hmem
  have hs:=h.bk.s _ hmem
  unfold Xku bk1
  rw[hp,X0u.2 (by omega),X0u.2 (by omega)]
  simp only[Bool.not_false,Bool.true_and,Bool.and_true,Bool.or_eq_true,decide_eq_true_eq]
  by_cases e:j=0
  · exact .inl e
  · have:=X9w (0,0) h.bk.r.1 (i:=j - 1) (j:=j) (by omega) hj
    simp only[ltI,decide_eq_true_eq]at this
    exact .inr this
 unfold X1S
 rw[if_pos h.k,hb,h.ez,h.h]
 have ht:X6n s.2.2.1=true:=by unfold X6n;exact X0u.2 (by omega)
 rw[ht]
 decide
theorem XmA{s:Stt}{o:Opp}(h:StR s)(ho:OpR o):XfY s o:=by
 have hm:=h.mm
 have hf:=ho.fr
 have hk:=ho.k
 have hl:=h.bk.len
 have hh:=h.h
 refine⟨⟨⟨h.k,by omega,by omega⟩,h.bk,by omega,by omega,by omega,ho.ok⟩,⟨by omega,by rw[h.ez];unfold Xm6;simp[tot,cL],by rw[h.ez];simp⟩,Xnw h,?_,?_⟩
 · unfold Xiu;rw[h.ez];exact⟨h.k,by simp,by simp⟩
 · unfold pOp;rw[ho.ky];simp[maxLen]
theorem Xne{s:Stt}{o:Opp}(h:StR s):StR (X3z s o).1∧(X3z s o).1.2.2.1=s.2.2.1∧(∀b∈s.2.2.2.1,b∈(X3z s o).1.2.2.2.1)∧(XkO s.2.2.2.1→XkO (X3z s o).1.2.2.2.1)∧
 ((X3z s o).2.1=0→∃L,X3Y (X3z s o).2.2.2.2=(L,true)∧LOk L (X3z s o).1)∧(X3z s o).2.2.2.2.length≤1000:=by
 have hc8:=XfU o.2.2.1 o.2.2.2.1
 unfold X3z
 split
 · exact⟨h,rfl,fun b hb=>hb,id,fun c=>absurd (show(1:Int)=0 from c) (by decide),by simp⟩
 · generalize hg:(X1z o.2.2.1 o.2.2.2.1).filter (X57 s.2.2.1)=c
   have hcl:c.length≤8:=by rw[←hg];exact Nat.le_trans (List.length_filter_le _ _) hc8
   have hcin:∀x∈c,0≤x∧x≤10995116277:=fun x hx=>by rw[←hg]at hx;exact XiB (List.mem_filter.1 hx).1
   have hcnp:∀x∈c,X5F x s.2.2.1=false:=fun x hx=>by
    rw[←hg]at hx
    have:=(List.mem_filter.1 hx).2
    unfold X57 at this;simpa using this
   have hasc:c.Pairwise (fun x y=>x<y):=by rw[←hg];exact List.Pairwise.sublist List.filter_sublist (XnH _ _)
   obtain⟨i1,i2,i3⟩:=Xhc c s.2.2.2.1 [] 12 h.bk hcin
   have hd:=Xgy c s.2.2.2.1 []
   have hnp:=Xm7 (m:=s.2.2.1) c s.2.2.2.1 [] h.np hcnp
   have hmem:=fun b hb=>XfZ c s.2.2.2.1 [] (b:=b) hb
   have hbal:=Xj4 c s.2.2.2.1 []
   rw[List.nil_append]at hd
   split
   · exact⟨h,rfl,fun b hb=>hb,id,fun c=>absurd (show(3:Int)=0 from c) (by decide),by simp⟩
   · rename_i h12
     have hlen:(Xbr c s.2.2.2.1).length≤8:=by
      have:=congrArg List.length i3
      rw[List.length_map]at this;omega
     have hel:=XiE (Xbr c s.2.2.2.1)
     refine⟨⟨h.k,h.h,h.mm,⟨i1.r,i1.s,i1.m,by simp only;omega⟩,hnp,h.ez⟩,rfl,hmem,hbal,fun _=>⟨Xbr c s.2.2.2.1,?_,hlen,fun b hb=>?_⟩,by simp only;rw[hd];omega⟩
     · simp only
       rw[hd]
       refine XhP hlen ?_ fun x hx=>?_
       · have:((Xbr c s.2.2.2.1).map Prod.fst).Pairwise (fun x y=>x<y):=by rw[i3];exact hasc
         exact List.pairwise_map.1 this
       · have hx2:=i2 x hx
         exact⟨(i1.r.2 x hx2).1,i1.m x hx2,i1.s x hx2⟩
     · have hb2:=i2 b hb
       have hn:0≤b.1∧b.1≤10995116277:=⟨(i1.r.2 b hb2).1,i1.m b hb2⟩
       have hp:=hnp b hb2
       rw[XgI hn]at hp
       exact⟨hb2,of_decide_eq_false hp,hn.1,hn.2⟩
theorem XmB{s:Stt}{o:Opp}{past:Bool}{i:Int}(h:StR s)(ho:OpR o)(hi:0≤i∧i≤12)(hb:past=false→XkO s.2.2.2.1)(hp:past=false→o.1=1):
 Aft past i s o (X26 s o).1 (X26 s o).2∧s.2.2.1≤(X26 s o).1.2.2.1:=by
 obtain⟨e1,e2,e3,e4⟩:=Xew s o
 by_cases h1:o.1=1
 · rw[e1 h1]
   obtain⟨r1,r2,r3,r4,r5,r6⟩:=Xne (o:=o) h
   exact⟨⟨⟨by omega,r1,fun hp=>r4 (hb hp)⟩,h,fun b hb=>.inl (r3 b hb),fun _=>r5,r6⟩,by rw[r2];exact Int.le_refl _⟩
 · have h2:o.1=2:=by rcases ho.k with k | k<;>omega
   have hpt:past=true:=by cases past with | true=>rfl | false=>exact absurd (hp rfl) h1
   have hm:=h.mm
   have hf:=ho.fr
   have hh:=h.h
   by_cases h3:o.2.2.1 - s.2.1>s.2.2.1
   · rw[e2 h1 h2 h3]
     have hsub:∀b∈X8d s.2.2.2.1 (o.2.2.1 - s.2.1),b∈s.2.2.2.1:=fun b hb=>(List.mem_filter.1 hb).1
     refine⟨⟨⟨by omega,⟨h.k,h.h,by simp only;omega,⟨⟨List.Pairwise.sublist List.filter_sublist h.bk.r.1,fun b hb=>h.bk.r.2 b (hsub b hb)⟩,fun b hb=>h.bk.s b (hsub b hb),fun b hb=>h.bk.m b (hsub b hb),Nat.le_trans (List.length_filter_le _ _) h.bk.len⟩,fun b hb=>?_,h.ez⟩,fun c=>by rw[hpt]at c;cases c⟩,h,fun b hb=>?_,fun c=>absurd c h1,by simp⟩,by simp only;omega⟩
     · have:=(List.mem_filter.1 hb).2
       simpa using this
     · by_cases hq:(b.1+1)*100≤o.2.2.1 - s.2.1
       · exact .inr hq
       · refine .inl (List.mem_filter.2 ⟨hb,?_⟩)
         rw[XgI (h.num hb),decide_eq_false hq];rfl
   · rw[e3 h1 h2 h3]
     exact⟨⟨⟨by omega,h,fun c=>by rw[hpt]at c;cases c⟩,h,fun b hb=>.inl hb,fun c=>absurd c h1,by simp⟩,Int.le_refl _⟩
theorem Xng:StR (1,(0,(0,([],((0,([],[])),[]))))):=⟨rfl,rfl,by decide,⟨⟨List.Pairwise.nil,(fun x hx=>by cases hx)⟩,(fun x hx=>by cases hx),(fun x hx=>by cases hx),by decide⟩,(fun x hx=>by cases hx),rfl⟩
theorem XkZ{f t:Int}(hf:0≤f∧f≤1000000)(ht:f<t∧t≤1000000):OpR (1,([],(f,(t,[])))):=by
 refine⟨.inl rfl,?_,hf,rfl⟩
 have hs:X6G (1,([],(f,(t,[]))))=true:=by
  unfold X6G
  rw[decide_eq_true (show f≥0 by omega),decide_eq_true (show f<t by omega),decide_eq_true (show t≤1099511627776 by omega)];rfl
 unfold X0v
 rw[if_pos rfl,hs];rfl
theorem XnA{f:Int}(hf:0≤f∧f≤1000000):OpR (2,([],(f,(0,[])))):=by
 refine⟨.inr rfl,?_,hf,rfl⟩
 unfold X0v
 rw[if_neg (show ¬(2:Int)=1 by decide),if_pos (.inl rfl),X0u.2 (show 0≤f∧f≤1099511627776 from⟨hf.1,by omega⟩)];rfl
theorem Xlb{c:List Int}(h:∀x∈c,0≤x∧x≤255)(hl:c.length≤1048576){n:Int}(h0:0≤n)(h1:n≤1000):0≤XcR c n∧XcR c n≤255:=by
 unfold XcR
 split
 · have:=h _ (X2C (d:=(0:Int)) (l:=c) (i:=n.toNat) (by omega))
   rw[w64 (by omega) (by omega)];exact this
 · rw[w64 (x:=n*37) (by omega) (by omega),w64 (x:=(c.length:Int)*11) (by omega) (by omega),w64 (by omega) (by omega)]
   have hp:0≤n*37+(c.length:Int)*11:=by omega
   exact⟨Int.tmod_nonneg _ hp,by have:=Int.tmod_lt_of_pos (n*37+(c.length:Int)*11) (show(0:Int)<256 by decide);omega⟩
theorem st_p{s:Stt}(h:StR s):Xiu s:=by
 unfold Xiu;rw[h.ez];exact⟨h.k,by simp,by simp⟩
end Go.Proofs.YtgmafgmjbaoomaaGreat.B
