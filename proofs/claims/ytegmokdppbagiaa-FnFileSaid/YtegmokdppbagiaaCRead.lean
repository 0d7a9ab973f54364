/- Reading numbers and answers. -/
import Derived.Test.YtegmokdppbagiaaCNum
import Derived.Test.YtegmokdppbagiaaCRvM
set_option linter.unusedVariables false
set_option linter.unusedSimpArgs false
namespace Go.Proofs.Ytegmokdppbagiaa.B
open Go Go.Proofs.Ytegmokdppbagiaa.Bv
def rwI(s:List UInt8)(n i:Int):Prop:=0≤i∧i≤7∧i≤(s.length:Int)∧n=((dec (s.take i.toNat):Nat):Int)∧∀j:Nat,(j:Int)<i→128≤(s.getD j 0).toNat
def rwM(s:List UInt8)(n i:Int):Nat:=(8 - i).toNat
theorem Xi2(i:Nat):(2:Int) ^ (7*i)=((128 ^ i:Nat):Int):=by
 rw[Int.pow_mul];simp
theorem X9h{s:List UInt8}{i:Nat}(hi:i<s.length)(hb:(s.getD i 0).toNat<128)(hp:∀j:Nat,j<i→128≤(s.getD j 0).toNat):Xcq s (i+1)=(decide (i=0)||decide ((s.getD i 0).toNat≠0)):=by
 unfold Xcq
 rw[show decide (i+1≤s.length)=true by simp;omega,Bool.true_and,X4G hi]
 have hpre:∀b∈s.take i,128≤b.toNat:=by
  intro b hm
  obtain⟨j,hj,e⟩:=List.mem_take_iff_getElem.1 hm
  have:=hp j (by omega)
  rw[List.getD_eq_getElem?_getD,List.getElem?_eq_getElem (by omega)]at this
  rw[←e];exact this
 have hnil:s.take i=[]↔i=0:=by
  constructor
  · intro e;have:=congrArg List.length e;simp at this;rcases this with h | h
    · exact h
    · rw[h]at hi;simp at hi
  · intro e;subst e;rfl
 have hiff:=X5E (s.getD i 0) (s.take i)
 by_cases hc:i=0∨(s.getD i 0).toNat≠0
 · have:X79 (s.take i++[s.getD i 0]):=hiff.2 ⟨hb,hpre,hc.imp hnil.2 id⟩
   rw[decide_eq_true this]
   rcases hc with h | h
   · rw[decide_eq_true h,Bool.true_or]
   · rw[decide_eq_true h,Bool.or_true]
 · have:¬X79 (s.take i++[s.getD i 0]):=fun h=>hc ((hiff.1 h).2.2.imp hnil.1 id)
   rw[decide_eq_false this]
   have h1:¬i=0:=fun h=>hc (.inl h)
   have h2:(s.getD i 0).toNat=0:=Decidable.not_not.1 fun h=>hc (.inr h)
   rw[decide_eq_false h1,decide_eq_false (fun h=>h h2)]
   rfl
def X3E:Con:={A:=.str,shA:=[.one],R:=T0q,shR:=[(false,1),(false,1)],pre:=fun _ _=>True,f:=some fun _ a=>((X0i a),((),()))}
def X0W.F(a0:U3q):Prop:=(eS [(0,.val false [.str a0])] [(0,.val false [.str a0])]∧((rwI a0 0 0)∧∀(y1:(Int×Int)),(rwI a0 y1.1 y1.2)→(X04 (decide (y1.2<(7:Int))) (X04 (decide (y1.2<(ln a0))) (0≤y1.2∧(y1.2<(ln a0)∧((128:Int)≠0∧(0≤(wI ((7:Int)*y1.2))∧(0≤y1.2∧(y1.2<(ln a0)∧(X04 (decide (((UInt8.toNat (List.getD a0 (tN y1.2) 0):Nat):Int)≥(128:Int))) (eS [(0,.val false [.str a0])] [(0,.val false [.str a0])]∧(rwI a0 (wI (y1.1+(wI ((wI (Int.tmod ((UInt8.toNat (List.getD a0 (tN y1.2) 0):Nat):Int) (128:Int)))*2 ^ (min (tN (wI ((7:Int)*y1.2))) (IntKind.bits .i64)))))) (wI (y1.2+(1:Int))))∧(rwM a0 (wI (y1.1+(wI ((wI (Int.tmod ((UInt8.toNat (List.getD a0 (tN y1.2) 0):Nat):Int) (128:Int)))*2 ^ (min (tN (wI ((7:Int)*y1.2))) (IntKind.bits .i64)))))) (wI (y1.2+(1:Int))))<(rwM a0 y1.1 y1.2)) (0≤y1.2∧(y1.2<(ln a0)∧(X04 (((UInt8.toNat (List.getD a0 (tN y1.2) 0):Nat):Int)==(0:Int)) (X04 (decide (y1.2>(0:Int))) (Eq ((0,0),((),())) ((X0i a0),((),()))) (Eq (((wI (y1.1+(wI ((wI (Int.tmod ((UInt8.toNat (List.getD a0 (tN y1.2) 0):Nat):Int) (128:Int)))*2 ^ (min (tN (wI ((7:Int)*y1.2))) (IntKind.bits .i64)))))),(wI (y1.2+(1:Int)))),((),())) ((X0i a0),((),())))) (Eq (((wI (y1.1+(wI ((wI (Int.tmod ((UInt8.toNat (List.getD a0 (tN y1.2) 0):Nat):Int) (128:Int)))*2 ^ (min (tN (wI ((7:Int)*y1.2))) (IntKind.bits .i64)))))),(wI (y1.2+(1:Int)))),((),())) ((X0i a0),((),()))))))))))))) (Eq ((0,0),((),())) ((X0i a0),((),())))) (Eq ((0,0),((),())) ((X0i a0),((),()))))))
def X0W.L(a0:U3q):Nat→Option X0g:=fun p=>Go.Proofs.Ytegmokdppbagiaa.Bv.look p [(58,{kp:={hold:=[0],slots:=[4,5],boxes:=[],rows:=[]},T:=T0q,I:=fun st y=>rwI a0 y.1 y.2,μ:=fun st y=>rwM a0 y.1 y.2})]
theorem X0W.pure(a0:U3q)(h:True)(hw:Wf X3E.A a0):X0W.F a0:=by
 delta X0W.F ln tN wI eS
 simp only[forall_eq,true_and,and_true,X06,Prod.mk.injEq,decide_eq_true_eq,decide_eq_false_iff_not,beq_iff_eq,beq_eq_false_iff_ne]
 refine⟨⟨by omega,by omega,by omega,rfl,fun j hj=>by omega⟩,fun y hy=>?_⟩
 obtain⟨n,i⟩:=y
 obtain⟨h1,h2,h3,h4,h5⟩:=hy
 simp only at h1 h2 h3 h4 h5 ⊢
 have hlast:∀j:Nat,(j:Int)<i→Xcq a0 (j+1)=false:=fun j hj=>XbB (by omega) (h5 j hj)
 refine⟨fun h7=>⟨fun hl=>?_,fun hl=>?_⟩,fun h7=>?_⟩
 · have hx:=(a0.getD i.toNat 0).toNat_lt
   have e2:Int.tmod (((a0.getD i.toNat 0).toNat:Nat):Int) 128=(((a0.getD i.toNat 0).toNat % 128:Nat):Int):=by
    rw[Int.tmod_eq_emod_of_nonneg (by omega)];omega
   have e7:IntKind.wrap .i64 (7*i)=7*i:=Go.IntWalk.i64_in _ (by omega)
   have eb:IntKind.bits .i64=64:=rfl
   have em:min (7*i).toNat 64=7*i.toNat:=by omega
   have hdl:=Xhp (a0.take i.toNat)
   have htl:(a0.take i.toNat).length=i.toNat:=by simp;omega
   rw[htl]at hdl
   have hpw:128 ^ i.toNat≤128 ^ 6:=Nat.pow_le_pow_right (by omega) (by omega)
   have hmul:(a0.getD i.toNat 0).toNat % 128*128 ^ i.toNat≤127*128 ^ 6:=Nat.mul_le_mul (by omega) hpw
   have hdec:dec (a0.take (i.toNat+1))=dec (a0.take i.toNat)+(a0.getD i.toNat 0).toNat % 128*128 ^ i.toNat:=by
    rw[X4G (by omega),XaC,htl]
   have en:IntKind.wrap .i64 (n+IntKind.wrap .i64 (IntKind.wrap .i64 (((a0.getD i.toNat 0).toNat % 128:Nat):Int)*2 ^ (7*i.toNat)))=((dec (a0.take (i.toNat+1)):Nat):Int):=by
    rw[Xi2,Go.IntWalk.i64_in (((a0.getD i.toNat 0).toNat % 128:Nat):Int) (by omega),←Int.natCast_mul,Go.IntWalk.i64_in (((a0.getD i.toNat 0).toNat % 128*128 ^ i.toNat:Nat):Int) (by omega),Go.IntWalk.i64_in _ (by omega),hdec]
    omega
   have ei:IntKind.wrap .i64 (i+1)=i+1:=Go.IntWalk.i64_in _ (by omega)
   simp only[e2,e7,eb,em,en,ei]
   refine⟨by omega,by omega,by omega,by omega,by omega,by omega,fun hb=>⟨⟨by omega,by omega,by omega,?_,fun j hj=>?_⟩,?_⟩,fun hb=>⟨by omega,by omega,fun hz=>⟨fun hp=>?_,fun hp=>?_⟩,fun hz=>?_⟩⟩
   · rw[show(i+1).toNat=i.toNat+1 by omega]
   · by_cases he:(j:Int)<i
     · exact h5 j he
     · rw[show j=i.toNat by omega];omega
   · show(8 - (i+1)).toNat<(8 - i).toNat
     omega
   · refine(X5T fun k hk=>?_).symm
     by_cases he:(k:Int)<i
     · exact hlast k he
     · by_cases he2:k=i.toNat
       · rw[he2,X9h (by omega) (by omega) (fun j hj=>h5 j (by omega)),decide_eq_false (by omega),decide_eq_false (by omega)]
         rfl
       · exact Xeo (i:=i.toNat) (by omega) (by omega) (by omega)
   · have:=X5W (s:=a0) (j:=i.toNat) (by omega) (by rw[X9h (by omega) (by omega) (fun j hj=>h5 j (by omega)),decide_eq_true (show i.toNat=0 by omega),Bool.true_or]) (fun k hk=>hlast k (by omega))
     rw[this]
     simp only[Prod.mk.injEq,true_and]
     omega
   · have:=X5W (s:=a0) (j:=i.toNat) (by omega) (by rw[X9h (by omega) (by omega) (fun j hj=>h5 j (by omega)),decide_eq_true (show(a0.getD i.toNat 0).toNat≠0 by omega),Bool.or_true]) (fun k hk=>hlast k (by omega))
     rw[this]
     simp only[Prod.mk.injEq,true_and]
     omega
 · refine(X5T fun k hk=>?_).symm
   by_cases he:(k:Int)<i
   · exact hlast k he
   · exact Xf5 (by omega)
 · exact(X5T fun k hk=>hlast k (by omega)).symm
set_option maxRecDepth 100000 in
theorem X0W.eq:EqS X3E Try.f87 [3,3] [] [] (fun i x=>X0W.L x) (fun i x=>X0W.F x):=by intro i x;kernel_rfl
theorem X0W.ok:X11 Try.prog 87 X3E:=X3V X0W.eq Try.func87 rfl (by kernel_rfl) fun i x h hi hw=>X0W.pure x h hw
def X0W.e:GE:=⟨87,X3E,⟨_,Try.func87,rfl,rfl⟩,X0W.ok⟩
end Go.Proofs.Ytegmokdppbagiaa.B
