/- Reading numbers and answers. -/
import Derived.Test.YtgmafgmjbaoomaaGreatCNum
import Derived.Test.YtgmafgmjbaoomaaGreatCRvM
set_option maxRecDepth 100000
set_option linter.unusedVariables false
set_option linter.unusedSimpArgs false
namespace Go.Proofs.YtgmafgmjbaoomaaGreat.B
open Go Go.Proofs.YtgmafgmjbaoomaaGreat.Bv
def rvO(s:List UInt8)(k:Int):Prop:=1≤k∧k≤8∧∀i:Nat,(i:Int)+1<k→XcT s (i+1)=false
def rvOm(s:List UInt8)(k:Int):Nat:=(8 - k).toNat
def rvI(s:List UInt8)(k n i:Int):Prop:=-1≤i∧i<k∧1≤k∧k≤7∧k≤(s.length:Int)∧n=((dec ((s.take k.toNat).drop (i+1).toNat):Nat):Int)
def rvIm(s:List UInt8)(k n i:Int):Nat:=(i+1).toNat
theorem Xbu(l:List UInt8)(k:Nat)(h:l.length≤7):dec (l.drop k)<128 ^ 7:=
 Nat.lt_of_lt_of_le (Xht _) (Nat.pow_le_pow_right (by omega) (by simp;omega))
def X5u:Con:={A:=.str,shA:=[.one],R:=T0q,shR:=[(false,1),(false,1)],pre:=fun _ _=>True,f:=some fun _ a=>((X04 a),((),()))}
def X1x.F(a0:U4q):Prop:=(eS [(0,.val false [.str a0])] [(0,.val false [.str a0])]∧((rvO a0 1)∧∀(y1:Int),(rvO a0 y1)→(X00 (decide (y1≤(7:Int))) (X00 (decide (y1≤(ln a0))) (eS [(0,.val false [.str a0]),(4,.val false [.int .i64 y1]),(10,.val false [.int .i64 y1]),(11,.val false [.str a0]),(12,.val false [.int .i64 (ln a0)]),(13,.val false [.bool (decide (y1≤(ln a0)))])] [(0,.val false [.str a0]),(4,.val false [.int .i64 y1]),(10,.val false [.int .i64 y1]),(11,.val false [.str a0]),(12,.val false [.int .i64 (ln a0)]),(13,.val false [.bool (decide (y1≤(ln a0)))])]∧((rvI a0 y1 0 (wI (y1 - (1:Int))))∧∀(y2:(Int×Int)),(rvI a0 y1 y2.1 y2.2)→(X00 (decide (y2.2≥(0:Int))) (0≤y2.2∧(y2.2<(ln a0)∧((128:Int)≠0∧(eS [(0,.val false [.str a0]),(4,.val false [.int .i64 y1]),(10,.val false [.int .i64 y1]),(11,.val false [.str a0]),(12,.val false [.int .i64 (ln a0)]),(13,.val false [.bool (decide (y1≤(ln a0)))])] [(0,.val false [.str a0]),(4,.val false [.int .i64 y1]),(10,.val false [.int .i64 y1]),(11,.val false [.str a0]),(12,.val false [.int .i64 (ln a0)]),(13,.val false [.bool (decide (y1≤(ln a0)))])]∧(rvI a0 y1 (wI ((wI (y2.1*(128:Int)))+(Int.tmod (wI ((UInt8.toNat (List.getD a0 (tN y2.2) 0):Nat):Int)) (128:Int)))) (wI (y2.2 - (1:Int))))∧(rvIm a0 y1 (wI ((wI (y2.1*(128:Int)))+(Int.tmod (wI ((UInt8.toNat (List.getD a0 (tN y2.2) 0):Nat):Int)) (128:Int)))) (wI (y2.2 - (1:Int))))<(rvIm a0 y1 y2.1 y2.2))))) (True∧∀r3,(Eq r3 ((X1H y2.1),((),())))→(0≤y1∧(y1≤(ln a0)∧(X00 (r3.1==(List.take (tN y1) a0)) (Eq ((y2.1,y1),((),())) ((X04 a0),((),()))) (eS [(0,.val false [.str a0])] [(0,.val false [.str a0])]∧(rvO a0 (wI (y1+(1:Int))))∧(rvOm a0 (wI (y1+(1:Int))))<(rvOm a0 y1))))))))) (Eq ((0,0),((),())) ((X04 a0),((),())))) (Eq ((0,0),((),())) ((X04 a0),((),()))))))
def X1x.L(a0:U4q):Nat→Option X0a:=fun p=>Go.Proofs.YtgmafgmjbaoomaaGreat.Bv.look p [(26,{kp:={hold:=[0],slots:=[4],boxes:=[],rows:=[]},T:=(.int .i64),I:=fun st y=>rvO a0 y,μ:=fun st y=>rvOm a0 y}),(6730,{kp:={hold:=[0,4,10,11,12,13],slots:=[5,6],boxes:=[],rows:=[]},T:=T0q,I:=fun st y=>rvI a0 (XdC (X2w st 4 0)) y.1 y.2,μ:=fun st y=>rvIm a0 (XdC (X2w st 4 0)) y.1 y.2})]
theorem X1x.pure(a0:U4q)(h:True)(hw:Wf X5u.A a0):X1x.F a0:=by
 delta X1x.F ln tN wI eS
 simp only[forall_eq,true_and,and_true,X03,Prod.mk.injEq,decide_eq_true_eq,decide_eq_false_iff_not]
 refine⟨⟨by omega,by omega,fun i hi=>by omega⟩,fun k hk=>?_⟩
 obtain⟨hk1,hk8,hno⟩:=hk
 refine⟨fun h7=>⟨fun hl=>⟨?_,fun y hy=>?_⟩,fun hl=>?_⟩,fun h7=>?_⟩
 · rw[Go.IntWalk.i64_in _ (by omega)]
   refine⟨by omega,by omega,by omega,by omega,by omega,?_⟩
   rw[show(k - 1+1).toNat=k.toNat by omega,List.drop_eq_nil_of_le (by simp;omega)]
   rfl
 · obtain⟨n,i⟩:=y
   obtain⟨h1,h2,h3,h4,h5,h6⟩:=hy
   simp only at h1 h2 h6 ⊢
   have hb:=Xbu (a0.take k.toNat) (i+1).toNat (by simp;omega)
   refine⟨fun h0=>⟨by omega,by omega,by omega,?_,?_⟩,fun h0=>?_⟩
   · have hx:=(a0.getD i.toNat 0).toNat_lt
     have e1:IntKind.wrap .i64 (((a0.getD i.toNat 0).toNat:Nat):Int)=(((a0.getD i.toNat 0).toNat:Nat):Int):=Go.IntWalk.i64_in _ (by omega)
     have hcons:(a0.take k.toNat).drop i.toNat=a0.getD i.toNat 0::(a0.take k.toNat).drop (i+1).toNat:=by
      rw[show(i+1).toNat=i.toNat+1 by omega,List.drop_eq_getElem_cons (by simp;omega)]
      simp[List.getD_eq_getElem?_getD,List.getElem?_eq_getElem (show i.toNat<a0.length by omega)]
     have hb2:=Xbu (a0.take k.toNat) i.toNat (by simp;omega)
     have hdec:dec ((a0.take k.toNat).drop i.toNat)=(a0.getD i.toNat 0).toNat % 128+128*dec ((a0.take k.toNat).drop (i+1).toNat):=by rw[hcons];rfl
     have e2:Int.tmod (((a0.getD i.toNat 0).toNat:Nat):Int) 128=(((a0.getD i.toNat 0).toNat:Nat):Int) % 128:=Int.tmod_eq_emod_of_nonneg (by omega)
     rw[e1,e2,Go.IntWalk.i64_in (n*128) (by omega),Go.IntWalk.i64_in (n*128+_) (by omega),Go.IntWalk.i64_in (i - 1) (by omega)]
     refine⟨by omega,by omega,h3,h4,h5,?_⟩
     rw[show(i - 1+1).toNat=i.toNat by omega,hdec]
     omega
   · rw[Go.IntWalk.i64_in (i - 1) (by omega)]
     show(i - 1+1).toNat<(i+1).toNat
     omega
   · have hi:i= -1:=by omega
     subst hi
     have e0:((-1:Int)+1).toNat=0:=rfl
     rw[e0,List.drop_zero]at h6
     have hv:X1H n=X1Q (vb (dec (a0.take k.toNat))):=by rw[h6];exact Xh4 (by simp;omega)
     have hok:XcT a0 k.toNat=(X1H n==a0.take k.toNat):=by
      have hlk:decide (k.toNat≤a0.length)=true:=by simp;omega
      unfold XcT
      rw[hlk,hv,Bool.true_and]
      by_cases hc:X8a (a0.take k.toNat)
      · rw[decide_eq_true hc];unfold X8a at hc;rw[hc];simp
      · rw[decide_eq_false hc];unfold X8a at hc;symm;simp[hc]
     refine⟨by omega,by omega,fun hy=>?_,fun hn=>⟨?_,?_⟩⟩
     · rw[hy]at hok
       rw[X6R (j:=k.toNat - 1) (by omega) (by rw[show k.toNat - 1+1=k.toNat by omega];exact hok) (fun i hi=>hno i (by omega))]
       rw[show k.toNat - 1+1=k.toNat by omega,h6]
       simp only[Prod.mk.injEq,true_and]
       omega
     · rw[Go.IntWalk.i64_in _ (by omega)]
       refine⟨by omega,by omega,fun i hi=>?_⟩
       by_cases he:(i:Int)+1<k
       · exact hno i he
       · rw[show i+1=k.toNat by omega,hok];exact hn
     · rw[Go.IntWalk.i64_in _ (by omega)]
       show(8 - (k+1)).toNat<(8 - k).toNat
       omega
 · exact (X5E fun i hi=>by
    by_cases he:(i:Int)+1<k
    · exact hno i he
    · exact Xfk (by omega)).symm
 · exact(X5E fun i hi=>hno i (by omega)).symm
theorem X1x.eq:EqS X5u Tryz.f112 [3,3] [X2Z.e] [] (fun i x=>X1x.L x) (fun i x=>X1x.F x):=by intro i x;kernel_rfl
theorem X1x.ok:X0o Tryz.prog 112 X5u:=X2u X1x.eq Tryz.func112 rfl (by kernel_rfl) fun i x h hi hw=>X1x.pure x h hw
def X1x.e:GE:=⟨112,X5u,⟨_,Tryz.func112,rfl,rfl⟩,X1x.ok⟩
def rwI(s:List UInt8)(n i:Int):Prop:=0≤i∧i≤7∧i≤(s.length:Int)∧n=((dec (s.take i.toNat):Nat):Int)∧∀j:Nat,(j:Int)<i→128≤(s.getD j 0).toNat
def rwM(s:List UInt8)(n i:Int):Nat:=(8 - i).toNat
theorem XnT(i:Nat):(2:Int) ^ (7*i)=((128 ^ i:Nat):Int):=by
 rw[Int.pow_mul];simp
theorem XbR{s:List UInt8}{i:Nat}(hi:i<s.length)(hb:(s.getD i 0).toNat<128)(hp:∀j:Nat,j<i→128≤(s.getD j 0).toNat):XcT s (i+1)=(decide (i=0)||decide ((s.getD i 0).toNat≠0)):=by
 unfold XcT
 rw[show decide (i+1≤s.length)=true by simp;omega,Bool.true_and,X7b hi]
 have hpre:∀b∈s.take i,128≤b.toNat:=by
  intro b hm
  obtain⟨j,hj,e⟩:=List.mem_take_iff_getElem.1 hm
  have:=hp j (by omega)
  rw[List.getD_eq_getElem?_getD,List.getElem?_eq_getElem (by omega)]at this
  rw[←e];exact this
 have hnil:s.take i=[]↔i=0:=by
  constructor
  · intro e;have:=congrArg List.length e;simp at this;rcases this with h | h
    · exact h
    · rw[h]at hi;simp at hi
  · intro e;subst e;rfl
 have hiff:=X8l (s.getD i 0) (s.take i)
 by_cases hc:i=0∨(s.getD i 0).toNat≠0
 · have:X8a (s.take i++[s.getD i 0]):=hiff.2 ⟨hb,hpre,hc.imp hnil.2 id⟩
   rw[decide_eq_true this]
   rcases hc with h | h
   · rw[decide_eq_true h,Bool.true_or]
   · rw[decide_eq_true h,Bool.or_true]
 · have:¬X8a (s.take i++[s.getD i 0]):=fun h=>hc ((hiff.1 h).2.2.imp hnil.1 id)
   rw[decide_eq_false this]
   have h1:¬i=0:=fun h=>hc (.inl h)
   have h2:(s.getD i 0).toNat=0:=Decidable.not_not.1 fun h=>hc (.inr h)
   rw[decide_eq_false h1,decide_eq_false (fun h=>h h2)]
   rfl
def X5n:Con:={A:=.str,shA:=[.one],R:=T0q,shR:=[(false,1),(false,1)],pre:=fun _ _=>True,f:=some fun _ a=>((X04 a),((),()))}
def X1w.F(a0:U4q):Prop:=(eS [(0,.val false [.str a0])] [(0,.val false [.str a0])]∧((rwI a0 0 0)∧∀(y1:(Int×Int)),(rwI a0 y1.1 y1.2)→(X00 (decide (y1.2<(7:Int))) (X00 (decide (y1.2<(ln a0))) (0≤y1.2∧(y1.2<(ln a0)∧((128:Int)≠0∧(0≤(wI ((7:Int)*y1.2))∧(0≤y1.2∧(y1.2<(ln a0)∧(X00 (decide (((UInt8.toNat (List.getD a0 (tN y1.2) 0):Nat):Int)≥(128:Int))) (eS [(0,.val false [.str a0])] [(0,.val false [.str a0])]∧(rwI a0 (wI (y1.1+(wI ((wI (Int.tmod ((UInt8.toNat (List.getD a0 (tN y1.2) 0):Nat):Int) (128:Int)))*2 ^ (min (tN (wI ((7:Int)*y1.2))) (IntKind.bits .i64)))))) (wI (y1.2+(1:Int))))∧(rwM a0 (wI (y1.1+(wI ((wI (Int.tmod ((UInt8.toNat (List.getD a0 (tN y1.2) 0):Nat):Int) (128:Int)))*2 ^ (min (tN (wI ((7:Int)*y1.2))) (IntKind.bits .i64)))))) (wI (y1.2+(1:Int))))<(rwM a0 y1.1 y1.2)) (0≤y1.2∧(y1.2<(ln a0)∧(X00 (((UInt8.toNat (List.getD a0 (tN y1.2) 0):Nat):Int)==(0:Int)) (X00 (decide (y1.2>(0:Int))) (Eq ((0,0),((),())) ((X04 a0),((),()))) (Eq (((wI (y1.1+(wI ((wI (Int.tmod ((UInt8.toNat (List.getD a0 (tN y1.2) 0):Nat):Int) (128:Int)))*2 ^ (min (tN (wI ((7:Int)*y1.2))) (IntKind.bits .i64)))))),(wI (y1.2+(1:Int)))),((),())) ((X04 a0),((),())))) (Eq (((wI (y1.1+(wI ((wI (Int.tmod ((UInt8.toNat (List.getD a0 (tN y1.2) 0):Nat):Int) (128:Int)))*2 ^ (min (tN (wI ((7:Int)*y1.2))) (IntKind.bits .i64)))))),(wI (y1.2+(1:Int)))),((),())) ((X04 a0),((),()))))))))))))) (Eq ((0,0),((),())) ((X04 a0),((),())))) (Eq ((0,0),((),())) ((X04 a0),((),()))))))
def X1w.L(a0:U4q):Nat→Option X0a:=fun p=>Go.Proofs.YtgmafgmjbaoomaaGreat.Bv.look p [(58,{kp:={hold:=[0],slots:=[4,5],boxes:=[],rows:=[]},T:=T0q,I:=fun st y=>rwI a0 y.1 y.2,μ:=fun st y=>rwM a0 y.1 y.2})]
theorem X1w.pure(a0:U4q)(h:True)(hw:Wf X5n.A a0):X1w.F a0:=by
 delta X1w.F ln tN wI eS
 simp only[forall_eq,true_and,and_true,X03,Prod.mk.injEq,decide_eq_true_eq,decide_eq_false_iff_not,beq_iff_eq,beq_eq_false_iff_ne]
 refine⟨⟨by omega,by omega,by omega,rfl,fun j hj=>by omega⟩,fun y hy=>?_⟩
 obtain⟨n,i⟩:=y
 obtain⟨h1,h2,h3,h4,h5⟩:=hy
 simp only at h1 h2 h3 h4 h5 ⊢
 have hlast:∀j:Nat,(j:Int)<i→XcT a0 (j+1)=false:=fun j hj=>XeZ (by omega) (h5 j hj)
 refine⟨fun h7=>⟨fun hl=>?_,fun hl=>?_⟩,fun h7=>?_⟩
 · have hx:=(a0.getD i.toNat 0).toNat_lt
   have e2:Int.tmod (((a0.getD i.toNat 0).toNat:Nat):Int) 128=(((a0.getD i.toNat 0).toNat % 128:Nat):Int):=by
    rw[Int.tmod_eq_emod_of_nonneg (by omega)];omega
   have e7:IntKind.wrap .i64 (7*i)=7*i:=Go.IntWalk.i64_in _ (by omega)
   have eb:IntKind.bits .i64=64:=rfl
   have em:min (7*i).toNat 64=7*i.toNat:=by omega
   have hdl:=Xht (a0.take i.toNat)
   have htl:(a0.take i.toNat).length=i.toNat:=by simp;omega
   rw[htl]at hdl
   have hpw:128 ^ i.toNat≤128 ^ 6:=Nat.pow_le_pow_right (by omega) (by omega)
   have hmul:(a0.getD i.toNat 0).toNat % 128*128 ^ i.toNat≤127*128 ^ 6:=Nat.mul_le_mul (by omega) hpw
   have hdec:dec (a0.take (i.toNat+1))=dec (a0.take i.toNat)+(a0.getD i.toNat 0).toNat % 128*128 ^ i.toNat:=by
    rw[X7b (by omega),Xde,htl]
   have en:IntKind.wrap .i64 (n+IntKind.wrap .i64 (IntKind.wrap .i64 (((a0.getD i.toNat 0).toNat % 128:Nat):Int)*2 ^ (7*i.toNat)))=((dec (a0.take (i.toNat+1)):Nat):Int):=by
    rw[XnT,Go.IntWalk.i64_in (((a0.getD i.toNat 0).toNat % 128:Nat):Int) (by omega),←Int.natCast_mul,Go.IntWalk.i64_in (((a0.getD i.toNat 0).toNat % 128*128 ^ i.toNat:Nat):Int) (by omega),Go.IntWalk.i64_in _ (by omega),hdec]
    omega
   have ei:IntKind.wrap .i64 (i+1)=i+1:=Go.IntWalk.i64_in _ (by omega)
   simp only[e2,e7,eb,em,en,ei]
   refine⟨by omega,by omega,by omega,by omega,by omega,by omega,fun hb=>⟨⟨by omega,by omega,by omega,?_,fun j hj=>?_⟩,?_⟩,fun hb=>⟨by omega,by omega,fun hz=>⟨fun hp=>?_,fun hp=>?_⟩,fun hz=>?_⟩⟩
   · rw[show(i+1).toNat=i.toNat+1 by omega]
   · by_cases he:(j:Int)<i
     · exact h5 j he
     · rw[show j=i.toNat by omega];omega
   · show(8 - (i+1)).toNat<(8 - i).toNat
     omega
   · refine(X5E fun k hk=>?_).symm
     by_cases he:(k:Int)<i
     · exact hlast k he
     · by_cases he2:k=i.toNat
       · rw[he2,XbR (by omega) (by omega) (fun j hj=>h5 j (by omega)),decide_eq_false (by omega),decide_eq_false (by omega)]
         rfl
       · exact XhY (i:=i.toNat) (by omega) (by omega) (by omega)
   · have:=X6R (s:=a0) (j:=i.toNat) (by omega) (by rw[XbR (by omega) (by omega) (fun j hj=>h5 j (by omega)),decide_eq_true (show i.toNat=0 by omega),Bool.true_or]) (fun k hk=>hlast k (by omega))
     rw[this]
     simp only[Prod.mk.injEq,true_and]
     omega
   · have:=X6R (s:=a0) (j:=i.toNat) (by omega) (by rw[XbR (by omega) (by omega) (fun j hj=>h5 j (by omega)),decide_eq_true (show(a0.getD i.toNat 0).toNat≠0 by omega),Bool.or_true]) (fun k hk=>hlast k (by omega))
     rw[this]
     simp only[Prod.mk.injEq,true_and]
     omega
 · refine(X5E fun k hk=>?_).symm
   by_cases he:(k:Int)<i
   · exact hlast k he
   · exact Xfk (by omega)
 · exact(X5E fun k hk=>hlast k (by omega)).symm
theorem X1w.eq:EqS X5n Tryz.f70 [3,3] [] [] (fun i x=>X1w.L x) (fun i x=>X1w.F x):=by intro i x;kernel_rfl
theorem X1w.ok:X0o Tryz.prog 70 X5n:=X2u X1w.eq Tryz.func70 rfl (by kernel_rfl) fun i x h hi hw=>X1w.pure x h hw
def X1w.e:GE:=⟨70,X5n,⟨_,Tryz.func70,rfl,rfl⟩,X1w.ok⟩
end Go.Proofs.YtgmafgmjbaoomaaGreat.B
