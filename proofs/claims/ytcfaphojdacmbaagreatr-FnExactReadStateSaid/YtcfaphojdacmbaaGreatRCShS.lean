/- States shown. -/
import Derived.Test.YtcfaphojdacmbaaGreatRCSt
import Derived.Test.YtcfaphojdacmbaaGreatRCFile
import Derived.Test.YtcfaphojdacmbaaGreatRCNum
set_option maxRecDepth 100000
set_option linter.unusedVariables false
set_option linter.unusedSimpArgs false
namespace Go.Proofs.YtcfaphojdacmbaaGreatR.B
open Go Go.Proofs.YtcfaphojdacmbaaGreatR.Bv
def X3S(a:Ans):List UInt8:=if X48 a=true then X0v a.1++(X0v a.2.1++(X0v a.2.2.1++a.2.2.2)) else []
def XbK(s:List UInt8):List UInt8:=X0v s.length++s
def Xjk(s:List UInt8):Prop:=s.length≤1000000
def shB(b:Bkt):List UInt8:=X0v b.1++X0v b.2
def shS(x:X8m):List UInt8:=X0v x.1++(X0v x.2.1++XbK (X3S x.2.2))
def sh1(s:Stt):List UInt8:=[UInt8.ofNat s.1.toNat]++(X0v s.2.1++(X0v s.2.2.1++X0v s.2.2.2.1.length))
def sh2(s:Stt):List UInt8:=X0v s.2.2.2.2.1.1++(XbK (X0o s.2.2.2.2.1.2.1)++X0v s.2.2.2.2.1.2.2.length)
def Xk6(s:Stt):List UInt8:=sh1 s++(s.2.2.2.1.flatMap shB++(sh2 s++(s.2.2.2.2.1.2.2.flatMap XbK++(X0v s.2.2.2.2.2.length++s.2.2.2.2.2.flatMap shS))))
def X9W(s:Stt):List UInt8:=if X2A s=true then Xk6 s else []
def Xho(s:Stt):Prop:=pSt s∧∀x∈s.2.2.2.2.2,x.2.2.2.2.2.length≤maxLen
theorem XhK:∀(l:List Ser) (n:Nat),(∀x∈l,x.1.length≤8)→(ixF l n).length≤100*l.length
 | [],n,_=>by simp[ixF]
 | x::l,n,h=>by
   have h1:=XhK l (n+(X04 x.2).length) fun y hy=>h y (by simp[hy])
   have h2:=h x (by simp)
   have v1:=X0d x.1.length
   have v2:=X0d n
   have v3:=X0d (X04 x.2).length
   have v4:=X0d (x.2.getD 0 (0,0)).1
   have v5:=X0d (x.2.getD (x.2.length - 1) (0,0)).1
   rw[ixF,List.length_append,List.length_cons]
   simp only[X5W,List.length_append]
   omega
theorem XaT(l:List Ser):(X0o l).length≤20000:=by
 by_cases hc:X2i l=true∧l≠[]
 · have L:=RF.lay (s:=X0o l) (l:=l) ⟨hc,rfl⟩
   have h1:=L.len
   have h2:=X8T l
   have h3:=XbD l
   have h4:=L.five
   have h5:=XhK l 4 fun x hx=>((Xau hc.1).2.2.2 x hx).1
   omega
 · unfold X0o;rw[if_neg hc];simp
theorem XmA{f:Str}(h:(X0g f).2=true):f.length≤20000:=by
 unfold X0g at h
 split at h
 · rename_i hr;rw[←hr.2];exact XaT _
 · cases h
structure StK (s:Stt):Prop where
 kind:s.1=1∨s.1=2
 nb:s.2.2.2.1.length≤12
 nf:s.2.2.2.2.1.2.2.length≤4
 ns:s.2.2.2.2.2.length≤4
 fl:∀f∈s.2.2.2.2.1.2.2,f.length≤20000
 da:∀x∈s.2.2.2.2.2,x.2.2.2.2.2.length≤900
theorem Xca{s:Stt}(h:X2A s=true):StK s:=by
 unfold X2A at h
 rw[Bool.and_eq_true]at h
 obtain⟨h0,h⟩:=h
 have hs:=Xl5 h0
 have hd:∀x∈s.2.2.2.2.2,x.2.2.2.2.2.length≤900:=fun x hx=>by
  obtain⟨j,hj,e⟩:=List.getElem_of_mem hx
  have:=Xea h0 j hj
  simp only[Xkx,ss1,X48,Bool.and_eq_true,decide_eq_true_eq]at this
  rw[X1w hj,e]at this
  exact this.1.2.2.2.2.2
 split at h
 · rename_i hk
   simp only[Bool.and_eq_true,X5k,X9s,decide_eq_true_eq]at h
   obtain⟨_,_,⟨hb,_⟩,_,_,hf⟩:=h
   refine⟨.inl hk,hb,by omega,hs,fun f hx=>?_,hd⟩
   rw[List.length_eq_zero_iff.1 hf]at hx;cases hx
 · split at h
   · rename_i hk
     simp only[Bool.and_eq_true,decide_eq_true_eq]at h
     obtain⟨_,_,hb,he⟩:=h
     unfold X5o X3z at he
     split at he
     · rename_i h1
       unfold XaE at h1
       simp only[Bool.and_eq_true,decide_eq_true_eq]at h1
       split at he
       · rename_i h2
         rw[Xfy]at h2
         exact⟨.inr hk,by omega,h1.2.2.2.1,hs,fun f hx=>XmA (List.all_eq_true.1 h2 f hx),hd⟩
       · cases he
     · cases he
   · cases h
theorem Xda{α:Type}(F:α→List UInt8)(d:α){l:List α}{i:Int}(h0:0≤i)(hi:i<l.length):(l.take (i+1).toNat).flatMap F=(l.take i.toNat).flatMap F++F (l.getD i.toNat d):=by
 rw[tn1 h0,X0P d (by omega),List.flatMap_append];simp
theorem Xrm(b:Bkt):(shB b).length≤14:=by
 have h1:=X0d b.1
 have h2:=X0d b.2
 unfold shB;rw[List.length_append];omega
theorem XaD(s:List UInt8):(XbK s).length≤7+s.length:=by
 have h1:=X0d s.length
 unfold XbK;rw[List.length_append];omega
theorem Xbk(a:Ans):(X3S a).length≤1000:=by
 have h1:=X0d a.1
 have h2:=X0d a.2.1
 have h3:=X0d a.2.2.1
 unfold X3S;split
 · rename_i h
   simp only[X48,Bool.and_eq_true,decide_eq_true_eq]at h
   simp only[List.length_append];omega
 · simp
theorem Xk2(x:X8m):(shS x).length≤1100:=by
 have h1:=X0d x.1
 have h2:=X0d x.2.1
 have h3:=XaD (X3S x.2.2)
 have h4:=Xbk x.2.2
 unfold shS;simp only[List.length_append];omega
theorem XrG(s:Stt):(sh1 s).length≤22:=by
 have h1:=X0d s.2.1
 have h2:=X0d s.2.2.1
 have h3:=X0d s.2.2.2.1.length
 unfold sh1;simp only[List.length_append,List.length_cons,List.length_nil];omega
def h1I(a:Stt)(out:List UInt8)(i k h m:Int)(b:List Bkt)(f:Int)(c:List Ser)(g:List Str)(s:List X8m):Prop:=
 a=(k,(h,(m,(b,((f,(c,g)),s)))))∧0≤i∧i≤b.length∧out=sh1 a++(b.take i.toNat).flatMap shB∧(out.length:Int)≤22+14*i
def h1M(a:Stt)(out:List UInt8)(i k h m:Int)(b:List Bkt)(f:Int)(c:List Ser)(g:List Str)(s:List X8m):Nat:=(b.length - i).toNat
def h2I(a:Stt)(out:List UInt8)(i k h m:Int)(b:List Bkt)(f:Int)(c:List Ser)(g:List Str)(s:List X8m):Prop:=
 a=(k,(h,(m,(b,((f,(c,g)),s)))))∧0≤i∧i≤g.length∧out=sh1 a++(b.flatMap shB++(sh2 a++(g.take i.toNat).flatMap XbK))∧(out.length:Int)≤21000+20007*i
def h2M(a:Stt)(out:List UInt8)(i k h m:Int)(b:List Bkt)(f:Int)(c:List Ser)(g:List Str)(s:List X8m):Nat:=(g.length - i).toNat
def h3I(a:Stt)(out:List UInt8)(i k h m:Int)(b:List Bkt)(f:Int)(c:List Ser)(g:List Str)(s:List X8m):Prop:=
 a=(k,(h,(m,(b,((f,(c,g)),s)))))∧0≤i∧i≤s.length∧out=sh1 a++(b.flatMap shB++(sh2 a++(g.flatMap XbK++(X0v s.length++(s.take i.toNat).flatMap shS))))∧(out.length:Int)≤110000+1100*i
def h3M(a:Stt)(out:List UInt8)(i k h m:Int)(b:List Bkt)(f:Int)(c:List Ser)(g:List Str)(s:List X8m):Nat:=(s.length - i).toNat
def h4I(a:Stt)(out:List UInt8)(i:Int):Prop:=h3I a out i a.1 a.2.1 a.2.2.1 a.2.2.2.1 a.2.2.2.2.1.1 a.2.2.2.2.1.2.1 a.2.2.2.2.1.2.2 a.2.2.2.2.2
def h4M(a:Stt)(out:List UInt8)(i:Int):Nat:=(a.2.2.2.2.2.length - i).toNat
def X5A:Con:={A:=XpT,shA:=[.agg 4],R:=.str,shR:=[(false,1)],pre:=fun _ _=>True,f:=some fun _ a=>((X3S a),((),()))}
def X1t.F(a0:Xjj):Prop:=(True∧∀r1,(Eq r1 ((X48 (a0.1,(a0.2.1,(a0.2.2.1,a0.2.2.2)))),((),())))→(X00 (!r1.1) (Eq ([],((),())) ((X3S a0),((),()))) (True∧∀r2,(Eq r2 ((X0v a0.1),((),())))→(True∧∀r3,(Eq r3 ((X0v a0.2.1),((),())))→(List.length r2.1+List.length r3.1≤9223372036854775807∧(True∧∀r4,(Eq r4 ((X0v a0.2.2.1),((),())))→(List.length (r2.1++r3.1)+List.length r4.1≤9223372036854775807∧(List.length ((r2.1++r3.1)++r4.1)+List.length a0.2.2.2≤9223372036854775807∧(Eq ((((r2.1++r3.1)++r4.1)++a0.2.2.2),((),())) ((X3S a0),((),())))))))))))
theorem X1t.pure(a0:Xjj)(h:True)(hw:Wf X5A.A a0):X1t.F a0:=by
 unfold X1t.F
 simp only[Bs,B0,B1,Prod.mk.injEq,X01,Prod.eta]
 have v1:=X0d a0.1
 have v2:=X0d a0.2.1
 have v3:=X0d a0.2.2.1
 refine⟨fun h1=>?_,fun h1=>?_⟩
 · unfold X3S;rw[if_neg (by rw[h1];decide)]
 · have h2:=h1
   simp only[X48,Bool.and_eq_true,decide_eq_true_eq]at h2
   refine⟨by omega,by omega,by omega,?_⟩
   unfold X3S;rw[if_pos h1];simp only[List.append_assoc]
theorem X1t.eq:EqS X5A Tryz.f135 [9] [X2v.e,X3v.e] [] noL (fun i x=>X1t.F x):=by intro i x;kernel_rfl
theorem X1t.ok:X0k Tryz.prog 135 X5A:=X1Z X1t.eq Tryz.func135 rfl (by kernel_rfl) fun i x h hi hw=>X1t.pure x h hw
def X1t.e:GE:=⟨135,X5A,⟨_,Tryz.func135,rfl,rfl⟩,X1t.ok⟩
def X5Q:Con:={A:=XpT,shA:=[.agg 4],R:=.str,shR:=[(false,1)],pre:=fun _ _=>True,f:=some fun _ a=>((X3S a),((),()))}
def X1v.F(a0:Xjj):Prop:=(True∧∀r1,(Eq r1 ((X48 (a0.1,(a0.2.1,(a0.2.2.1,a0.2.2.2)))),((),())))→(X00 (!r1.1) (Eq ([],((),())) ((X3S a0),((),()))) (True∧∀r2,(Eq r2 ((X0v a0.1),((),())))→(True∧∀r3,(Eq r3 ((X0v a0.2.1),((),())))→(List.length r2.1+List.length r3.1≤9223372036854775807∧(True∧∀r4,(Eq r4 ((X0v a0.2.2.1),((),())))→(List.length (r2.1++r3.1)+List.length r4.1≤9223372036854775807∧(List.length ((r2.1++r3.1)++r4.1)+List.length a0.2.2.2≤9223372036854775807∧(Eq ((((r2.1++r3.1)++r4.1)++a0.2.2.2),((),())) ((X3S a0),((),())))))))))))
theorem X1v.pure(a0:Xjj)(h:True)(hw:Wf X5Q.A a0):X1v.F a0:=by
 unfold X1v.F
 simp only[Bs,B0,B1,Prod.mk.injEq,X01,Prod.eta]
 have v1:=X0d a0.1
 have v2:=X0d a0.2.1
 have v3:=X0d a0.2.2.1
 refine⟨fun h1=>?_,fun h1=>?_⟩
 · unfold X3S;rw[if_neg (by rw[h1];decide)]
 · have h2:=h1
   simp only[X48,Bool.and_eq_true,decide_eq_true_eq]at h2
   refine⟨by omega,by omega,by omega,?_⟩
   unfold X3S;rw[if_pos h1];simp only[List.append_assoc]
theorem X1v.eq:EqS X5Q Tryz.f140 [9] [X3G.e,X2w.e] [] noL (fun i x=>X1v.F x):=by intro i x;kernel_rfl
theorem X1v.ok:X0k Tryz.prog 140 X5Q:=X1Z X1v.eq Tryz.func140 rfl (by kernel_rfl) fun i x h hi hw=>X1v.pure x h hw
def X1v.e:GE:=⟨140,X5Q,⟨_,Tryz.func140,rfl,rfl⟩,X1v.ok⟩
def X85:Con:={A:=.str,shA:=[.one],R:=.str,shR:=[(false,1)],pre:=fun _ a=>(Xjk a),f:=some fun _ a=>((XbK a),((),()))}
def X3m.F(a0:U5q):Prop:=(True∧∀r1,(Eq r1 ((X0v (ln a0)),((),())))→(List.length r1.1+List.length a0≤9223372036854775807∧(Eq ((r1.1++a0),((),())) ((XbK a0),((),())))))
theorem X3m.pure(a0:U5q)(h:(Xjk a0))(hw:Wf X85.A a0):X3m.F a0:=by
 delta X3m.F ln
 simp only[Bs,B0,B1,Prod.mk.injEq,X01]
 have hl:a0.length≤1000000:=h
 have v1:=X0d a0.length
 exact⟨by omega,rfl⟩
theorem X3m.eq:EqS X85 Tryz.f133 [9] [X3v.e] [] noL (fun i x=>X3m.F x):=by intro i x;kernel_rfl
theorem X3m.ok:X0k Tryz.prog 133 X85:=X1Z X3m.eq Tryz.func133 rfl (by kernel_rfl) fun i x h hi hw=>X3m.pure x h hw
def X3m.e:GE:=⟨133,X85,⟨_,Tryz.func133,rfl,rfl⟩,X3m.ok⟩
def X8I:Con:={A:=.str,shA:=[.one],R:=.str,shR:=[(false,1)],pre:=fun _ a=>(Xjk a),f:=some fun _ a=>((XbK a),((),()))}
def X3W.F(a0:U5q):Prop:=(True∧∀r1,(Eq r1 ((X0v (ln a0)),((),())))→(List.length r1.1+List.length a0≤9223372036854775807∧(Eq ((r1.1++a0),((),())) ((XbK a0),((),())))))
theorem X3W.pure(a0:U5q)(h:(Xjk a0))(hw:Wf X8I.A a0):X3W.F a0:=by
 delta X3W.F ln
 simp only[Bs,B0,B1,Prod.mk.injEq,X01]
 have hl:a0.length≤1000000:=h
 have v1:=X0d a0.length
 exact⟨by omega,rfl⟩
theorem X3W.eq:EqS X8I Tryz.f142 [9] [X3G.e] [] noL (fun i x=>X3W.F x):=by intro i x;kernel_rfl
theorem X3W.ok:X0k Tryz.prog 142 X8I:=X1Z X3W.eq Tryz.func142 rfl (by kernel_rfl) fun i x h hi hw=>X3W.pure x h hw
def X3W.e:GE:=⟨142,X8I,⟨_,Tryz.func142,rfl,rfl⟩,X3W.ok⟩
def X65:Con:={A:=T8q,shA:=[.agg 8],R:=.str,shR:=[(false,1)],pre:=fun _ a=>(Xho a),f:=some fun _ a=>((X9W a),((),()))}
def X1x.F(a0:U7q):Prop:=((pSt (a0.1,(a0.2.1,(a0.2.2.1,(a0.2.2.2.1,((a0.2.2.2.2.1.1,(a0.2.2.2.2.1.2.1,a0.2.2.2.2.1.2.2)),a0.2.2.2.2.2))))))∧∀r1,(Eq r1 ((X2A (a0.1,(a0.2.1,(a0.2.2.1,(a0.2.2.2.1,((a0.2.2.2.2.1.1,(a0.2.2.2.2.1.2.1,a0.2.2.2.2.1.2.2)),a0.2.2.2.2.2)))))),((),())))→(X00 (!r1.1) (Eq ([],((),())) ((X9W a0),((),()))) (True∧∀r2,(Eq r2 ((X0v a0.2.1),((),())))→(List.length (List.map (fun n=>UInt8.ofNat (Int.toNat n)) [(IntKind.wrap .u8 a0.1)])+List.length r2.1≤9223372036854775807∧(True∧∀r3,(Eq r3 ((X0v a0.2.2.1),((),())))→(List.length ((List.map (fun n=>UInt8.ofNat (Int.toNat n)) [(IntKind.wrap .u8 a0.1)])++r2.1)+List.length r3.1≤9223372036854775807∧(True∧∀r4,(Eq r4 ((X0v (ln a0.2.2.2.1)),((),())))→(List.length (((List.map (fun n=>UInt8.ofNat (Int.toNat n)) [(IntKind.wrap .u8 a0.1)])++r2.1)++r3.1)+List.length r4.1≤9223372036854775807∧(eS [(1,.box 2 0),(32,.val false [.lst T0q a0.2.2.2.1 none]),(33,.val false [.int .i64 (ln a0.2.2.2.1)])] [(1,.box 2 0),(32,.val false [.lst T0q a0.2.2.2.1 none]),(33,.val false [.int .i64 (ln a0.2.2.2.1)])]∧((h1I a0 ((((List.map (fun n=>UInt8.ofNat (Int.toNat n)) [(IntKind.wrap .u8 a0.1)])++r2.1)++r3.1)++r4.1) 0 a0.1 a0.2.1 a0.2.2.1 a0.2.2.2.1 a0.2.2.2.2.1.1 a0.2.2.2.2.1.2.1 a0.2.2.2.2.1.2.2 a0.2.2.2.2.2)∧∀(y5:(U5q×Xr4)),(h1I a0 y5.1 y5.2.1 y5.2.2.1 y5.2.2.2.1 y5.2.2.2.2.1 y5.2.2.2.2.2.1 y5.2.2.2.2.2.2.1 y5.2.2.2.2.2.2.2.1 y5.2.2.2.2.2.2.2.2.1 y5.2.2.2.2.2.2.2.2.2)→(X00 (decide (y5.2.1<(ln a0.2.2.2.1))) (0≤y5.2.1∧(y5.2.1<(ln a0.2.2.2.1)∧(True∧∀r6,(Eq r6 ((X0v ((List.getD a0.2.2.2.1 (tN y5.2.1) (0,0)).1)),((),())))→(True∧∀r7,(Eq r7 ((X0v ((List.getD a0.2.2.2.1 (tN y5.2.1) (0,0)).2)),((),())))→(List.length r6.1+List.length r7.1≤9223372036854775807∧(List.length y5.1+List.length (r6.1++r7.1)≤9223372036854775807∧(eS [(1,.box 2 0),(32,.val false [.lst T0q a0.2.2.2.1 none]),(33,.val false [.int .i64 (ln a0.2.2.2.1)])] [(1,.box 2 0),(32,.val false [.lst T0q a0.2.2.2.1 none]),(33,.val false [.int .i64 (ln a0.2.2.2.1)])]∧(h1I a0 (y5.1++(r6.1++r7.1)) (wI (y5.2.1+(1:Int))) y5.2.2.1 y5.2.2.2.1 y5.2.2.2.2.1 y5.2.2.2.2.2.1 y5.2.2.2.2.2.2.1 y5.2.2.2.2.2.2.2.1 y5.2.2.2.2.2.2.2.2.1 y5.2.2.2.2.2.2.2.2.2)∧(h1M a0 (y5.1++(r6.1++r7.1)) (wI (y5.2.1+(1:Int))) y5.2.2.1 y5.2.2.2.1 y5.2.2.2.2.1 y5.2.2.2.2.2.1 y5.2.2.2.2.2.2.1 y5.2.2.2.2.2.2.2.1 y5.2.2.2.2.2.2.2.2.1 y5.2.2.2.2.2.2.2.2.2)<(h1M a0 y5.1 y5.2.1 y5.2.2.1 y5.2.2.2.1 y5.2.2.2.2.1 y5.2.2.2.2.2.1 y5.2.2.2.2.2.2.1 y5.2.2.2.2.2.2.2.1 y5.2.2.2.2.2.2.2.2.1 y5.2.2.2.2.2.2.2.2.2)))))))) (True∧∀r8,(Eq r8 ((X0v y5.2.2.2.2.2.2.1),((),())))→((X4v y5.2.2.2.2.2.2.2.1)∧∀r9,(Eq r9 ((X0o y5.2.2.2.2.2.2.2.1),((),())))→((Xjk r9.1)∧∀r10,(Eq r10 ((XbK r9.1),((),())))→(List.length r8.1+List.length r10.1≤9223372036854775807∧(True∧∀r11,(Eq r11 ((X0v (ln y5.2.2.2.2.2.2.2.2.1)),((),())))→(List.length (r8.1++r10.1)+List.length r11.1≤9223372036854775807∧(List.length y5.1+List.length ((r8.1++r10.1)++r11.1)≤9223372036854775807∧(eS [(1,.box 2 0),(68,.val false [.lst .str y5.2.2.2.2.2.2.2.2.1 none]),(69,.val false [.int .i64 (ln y5.2.2.2.2.2.2.2.2.1)])] [(1,.box 2 0),(68,.val false [.lst .str y5.2.2.2.2.2.2.2.2.1 none]),(69,.val false [.int .i64 (ln y5.2.2.2.2.2.2.2.2.1)])]∧((h2I a0 (y5.1++((r8.1++r10.1)++r11.1)) 0 y5.2.2.1 y5.2.2.2.1 y5.2.2.2.2.1 y5.2.2.2.2.2.1 y5.2.2.2.2.2.2.1 y5.2.2.2.2.2.2.2.1 y5.2.2.2.2.2.2.2.2.1 y5.2.2.2.2.2.2.2.2.2)∧∀(y12:(U5q×Xr4)),(h2I a0 y12.1 y12.2.1 y12.2.2.1 y12.2.2.2.1 y12.2.2.2.2.1 y12.2.2.2.2.2.1 y12.2.2.2.2.2.2.1 y12.2.2.2.2.2.2.2.1 y12.2.2.2.2.2.2.2.2.1 y12.2.2.2.2.2.2.2.2.2)→(X00 (decide (y12.2.1<(ln y5.2.2.2.2.2.2.2.2.1))) (0≤y12.2.1∧(y12.2.1<(ln y5.2.2.2.2.2.2.2.2.1)∧((Xjk (List.getD y5.2.2.2.2.2.2.2.2.1 (tN y12.2.1) []))∧∀r13,(Eq r13 ((XbK (List.getD y5.2.2.2.2.2.2.2.2.1 (tN y12.2.1) [])),((),())))→(List.length y12.1+List.length r13.1≤9223372036854775807∧(eS [(1,.box 2 0),(68,.val false [.lst .str y5.2.2.2.2.2.2.2.2.1 none]),(69,.val false [.int .i64 (ln y5.2.2.2.2.2.2.2.2.1)])] [(1,.box 2 0),(68,.val false [.lst .str y5.2.2.2.2.2.2.2.2.1 none]),(69,.val false [.int .i64 (ln y5.2.2.2.2.2.2.2.2.1)])]∧(h2I a0 (y12.1++r13.1) (wI (y12.2.1+(1:Int))) y12.2.2.1 y12.2.2.2.1 y12.2.2.2.2.1 y12.2.2.2.2.2.1 y12.2.2.2.2.2.2.1 y12.2.2.2.2.2.2.2.1 y12.2.2.2.2.2.2.2.2.1 y12.2.2.2.2.2.2.2.2.2)∧(h2M a0 (y12.1++r13.1) (wI (y12.2.1+(1:Int))) y12.2.2.1 y12.2.2.2.1 y12.2.2.2.2.1 y12.2.2.2.2.2.1 y12.2.2.2.2.2.2.1 y12.2.2.2.2.2.2.2.1 y12.2.2.2.2.2.2.2.2.1 y12.2.2.2.2.2.2.2.2.2)<(h2M a0 y12.1 y12.2.1 y12.2.2.1 y12.2.2.2.1 y12.2.2.2.2.1 y12.2.2.2.2.2.1 y12.2.2.2.2.2.2.1 y12.2.2.2.2.2.2.2.1 y12.2.2.2.2.2.2.2.2.1 y12.2.2.2.2.2.2.2.2.2)))))) (True∧∀r14,(Eq r14 ((X0v (ln y12.2.2.2.2.2.2.2.2.2)),((),())))→(List.length y12.1+List.length r14.1≤9223372036854775807∧(eS [(86,.val false [.lst T2q y12.2.2.2.2.2.2.2.2.2 none]),(87,.val false [.int .i64 (ln y12.2.2.2.2.2.2.2.2.2)])] [(86,.val false [.lst T2q y12.2.2.2.2.2.2.2.2.2 none]),(87,.val false [.int .i64 (ln y12.2.2.2.2.2.2.2.2.2)])]∧((h4I a0 (y12.1++r14.1) 0)∧∀(y15:(U5q×Int)),(h4I a0 y15.1 y15.2)→(X00 (decide (y15.2<(ln y12.2.2.2.2.2.2.2.2.2))) (0≤y15.2∧(y15.2<(ln y12.2.2.2.2.2.2.2.2.2)∧(True∧∀r16,(Eq r16 ((X0v ((List.getD y12.2.2.2.2.2.2.2.2.2 (tN y15.2) (0,(0,(0,(0,(0,[])))))).1)),((),())))→(True∧∀r17,(Eq r17 ((X0v ((List.getD y12.2.2.2.2.2.2.2.2.2 (tN y15.2) (0,(0,(0,(0,(0,[])))))).2.1)),((),())))→(List.length r16.1+List.length r17.1≤9223372036854775807∧(True∧∀r18,(Eq r18 ((X3S ((List.getD y12.2.2.2.2.2.2.2.2.2 (tN y15.2) (0,(0,(0,(0,(0,[])))))).2.2.1,((List.getD y12.2.2.2.2.2.2.2.2.2 (tN y15.2) (0,(0,(0,(0,(0,[])))))).2.2.2.1,((List.getD y12.2.2.2.2.2.2.2.2.2 (tN y15.2) (0,(0,(0,(0,(0,[])))))).2.2.2.2.1,(List.getD y12.2.2.2.2.2.2.2.2.2 (tN y15.2) (0,(0,(0,(0,(0,[])))))).2.2.2.2.2)))),((),())))→((Xjk r18.1)∧∀r19,(Eq r19 ((XbK r18.1),((),())))→(List.length (r16.1++r17.1)+List.length r19.1≤9223372036854775807∧(List.length y15.1+List.length ((r16.1++r17.1)++r19.1)≤9223372036854775807∧(eS [(86,.val false [.lst T2q y12.2.2.2.2.2.2.2.2.2 none]),(87,.val false [.int .i64 (ln y12.2.2.2.2.2.2.2.2.2)])] [(86,.val false [.lst T2q y12.2.2.2.2.2.2.2.2.2 none]),(87,.val false [.int .i64 (ln y12.2.2.2.2.2.2.2.2.2)])]∧(h4I a0 (y15.1++((r16.1++r17.1)++r19.1)) (wI (y15.2+(1:Int))))∧(h4M a0 (y15.1++((r16.1++r17.1)++r19.1)) (wI (y15.2+(1:Int))))<(h4M a0 y15.1 y15.2))))))))))) (Eq (y15.1,((),())) ((X9W a0),((),())))))))))))))))))))))))))))))
def X1x.L(a0:U7q):Nat→Option X0e:=fun p=>Go.Proofs.YtcfaphojdacmbaaGreatR.Bv.look p [(122,{kp:={hold:=[1,32,33],slots:=[3,34],boxes:=[2],rows:=[]},T:=(.pair .str T9q),I:=fun st y=>h1I a0 y.1 y.2.1 y.2.2.1 y.2.2.2.1 y.2.2.2.2.1 y.2.2.2.2.2.1 y.2.2.2.2.2.2.1 y.2.2.2.2.2.2.2.1 y.2.2.2.2.2.2.2.2.1 y.2.2.2.2.2.2.2.2.2,μ:=fun st y=>h1M a0 y.1 y.2.1 y.2.2.1 y.2.2.2.1 y.2.2.2.2.1 y.2.2.2.2.2.1 y.2.2.2.2.2.2.1 y.2.2.2.2.2.2.2.1 y.2.2.2.2.2.2.2.2.1 y.2.2.2.2.2.2.2.2.2}),(506,{kp:={hold:=[1,68,69],slots:=[3,70],boxes:=[2],rows:=[]},T:=(.pair .str T9q),I:=fun st y=>h2I a0 y.1 y.2.1 y.2.2.1 y.2.2.2.1 y.2.2.2.2.1 y.2.2.2.2.2.1 y.2.2.2.2.2.2.1 y.2.2.2.2.2.2.2.1 y.2.2.2.2.2.2.2.2.1 y.2.2.2.2.2.2.2.2.2,μ:=fun st y=>h2M a0 y.1 y.2.1 y.2.2.1 y.2.2.2.1 y.2.2.2.2.1 y.2.2.2.2.2.1 y.2.2.2.2.2.2.1 y.2.2.2.2.2.2.2.1 y.2.2.2.2.2.2.2.2.1 y.2.2.2.2.2.2.2.2.2}),(2042,{kp:={hold:=[86,87],slots:=[3,88],boxes:=[],rows:=[]},T:=Xk4,I:=fun st y=>h4I a0 y.1 y.2,μ:=fun st y=>h4M a0 y.1 y.2})]
theorem X1x.pure(a0:U7q)(h:(Xho a0))(hw:Wf X65.A a0):X1x.F a0:=by
 delta X1x.F ln tN wI eS
 simp only[Bs,B0,B1,Prod.mk.injEq,X01,Prod.eta,List.map_cons,List.map_nil]
 obtain⟨hp,hd⟩:=h
 refine⟨hp,fun h1=>?_,fun h1=>?_⟩
 · unfold X9W;rw[if_neg (by rw[h1];decide)]
 have K:=Xca h1
 have fin:Xk6 a0=X9W a0:=by unfold X9W;rw[if_pos h1]
 have eK:IntKind.wrap .u8 a0.1=a0.1:=by rcases K.kind with e | e<;>rw[e]<;>rfl
 rw[eK]
 have v:∀n,(X0v n).length≤7:=X0d
 have v1:=v a0.2.1
 have v2:=v a0.2.2.1
 have v3:=v a0.2.2.2.1.length
 refine⟨by omega,by omega,by omega,⟨rfl,by omega,by omega,by simp[sh1],by simp only[List.length_append,List.length_cons,List.length_nil];omega⟩,?_⟩
 rintro⟨out,i,k,hh,m,b,f,c,g,s⟩ ⟨ea,q1,q2,q3,q4⟩
 simp only at ea q1 q2 q3 q4 ⊢
 subst ea
 simp only at*
 have n1:=K.nb
 have n2:=K.nf
 have n3:=K.ns
 simp only at n1 n2 n3
 refine⟨fun hi=>?_,fun hi=>?_⟩
 · have st:=Xda shB (0,0) q1 hi
   generalize b.getD i.toNat (0,0)=x at st ⊢
   have w1:=v x.1
   have w2:=v x.2
   rw[w64 (x:=i+1) (by omega) (by omega)]
   refine⟨q1,hi,by omega,by omega,⟨rfl,by omega,by omega,by rw[q3,st];simp[shB],by simp only[List.length_append];omega⟩,by unfold h1M;omega⟩
 have u1:=v f
 have u2:=XaD (X0o c)
 have u3:=XaT c
 have u4:=v g.length
 have full:b.take i.toNat=b:=by rw[show i.toNat=b.length by omega,List.take_length]
 rw[full]at q3
 refine⟨hp.1.1,by unfold Xjk;omega,by omega,by omega,by omega,⟨rfl,by omega,by omega,by rw[q3];simp[sh2],by simp only[List.length_append];omega⟩,?_⟩
 rintro⟨out2,i2,k2,hh2,m2,b2,f2,c2,g2,s2⟩ ⟨ea,r1,r2,r3,r4⟩
 simp only at ea r1 r2 r3 r4 ⊢
 obtain⟨rfl,rfl,rfl,rfl,⟨rfl,rfl,rfl⟩,rfl⟩:k=k2∧hh=hh2∧m=m2∧b=b2∧(f=f2∧c=c2∧g=g2)∧s=s2:=by
  simp only[Prod.mk.injEq]at ea;exact⟨ea.1,ea.2.1,ea.2.2.1,ea.2.2.2.1,⟨ea.2.2.2.2.1.1,ea.2.2.2.2.1.2.1,ea.2.2.2.2.1.2.2⟩,ea.2.2.2.2.2⟩
 refine⟨fun hi2=>?_,fun hi2=>?_⟩
 · have st:=Xda XbK [] r1 hi2
   have w0:=K.fl _ (X2g (d:=([]:Str)) (by omega:i2.toNat<g.length))
   generalize g.getD i2.toNat []=x at st w0 ⊢
   have w1:=XaD x
   rw[w64 (x:=i2+1) (by omega) (by omega)]
   refine⟨r1,hi2,by unfold Xjk;omega,by omega,⟨rfl,by omega,by omega,by rw[r3,st];simp,by simp only[List.length_append];omega⟩,by unfold h2M;omega⟩
 have full2:g.take i2.toNat=g:=by rw[show i2.toNat=g.length by omega,List.take_length]
 rw[full2]at r3
 have u5:=v s.length
 refine⟨by omega,⟨rfl,by omega,by omega,by rw[r3];simp,by simp only[List.length_append];omega⟩,?_⟩
 rintro⟨out3,i3⟩ ⟨ea,t1,t2,t3,t4⟩
 simp only at ea t1 t2 t3 t4 ⊢
 refine⟨fun hi3=>?_,fun hi3=>?_⟩
 · have st:=Xda shS (0,(0,(0,(0,(0,[]))))) t1 hi3
   generalize s.getD i3.toNat (0,(0,(0,(0,(0,[])))))=x at st ⊢
   have w1:=v x.1
   have w2:=v x.2.1
   have w3:=Xbk x.2.2
   have w4:=XaD (X3S x.2.2)
   have w5:=Xk2 x
   rw[w64 (x:=i3+1) (by omega) (by omega)]
   refine⟨t1,hi3,by omega,by unfold Xjk;omega,by omega,by omega,⟨rfl,by omega,(by show i3+1≤(s.length:Int);omega),by rw[t3,st];simp[shS],by simp only[List.length_append];omega⟩,by unfold h4M;simp only;omega⟩
 have full3:s.take i3.toNat=s:=by rw[show i3.toNat=s.length by omega,List.take_length]
 rw[full3]at t3
 rw[t3,←fin];rfl
theorem X1x.eq:EqS X65 Tryz.f63 [9] [X3q.e,X1O.e,X1v.e,X3G.e,X3W.e] [] (fun i x=>X1x.L x) (fun i x=>X1x.F x):=by intro i x;kernel_rfl
theorem X1x.ok:X0k Tryz.prog 63 X65:=X1Z X1x.eq Tryz.func63 rfl (by kernel_rfl) fun i x h hi hw=>X1x.pure x h hw
def X1x.e:GE:=⟨63,X65,⟨_,Tryz.func63,rfl,rfl⟩,X1x.ok⟩
def X6p:Con:={A:=T8q,shA:=[.agg 8],R:=.str,shR:=[(false,1)],pre:=fun _ a=>(Xho a),f:=some fun _ a=>((X9W a),((),()))}
def X1J.F(a0:U7q):Prop:=((pSt (a0.1,(a0.2.1,(a0.2.2.1,(a0.2.2.2.1,((a0.2.2.2.2.1.1,(a0.2.2.2.2.1.2.1,a0.2.2.2.2.1.2.2)),a0.2.2.2.2.2))))))∧∀r1,(Eq r1 ((X2A (a0.1,(a0.2.1,(a0.2.2.1,(a0.2.2.2.1,((a0.2.2.2.2.1.1,(a0.2.2.2.2.1.2.1,a0.2.2.2.2.1.2.2)),a0.2.2.2.2.2)))))),((),())))→(X00 (!r1.1) (Eq ([],((),())) ((X9W a0),((),()))) (True∧∀r2,(Eq r2 ((X0v a0.2.1),((),())))→(List.length (List.map (fun n=>UInt8.ofNat (Int.toNat n)) [(IntKind.wrap .u8 a0.1)])+List.length r2.1≤9223372036854775807∧(True∧∀r3,(Eq r3 ((X0v a0.2.2.1),((),())))→(List.length ((List.map (fun n=>UInt8.ofNat (Int.toNat n)) [(IntKind.wrap .u8 a0.1)])++r2.1)+List.length r3.1≤9223372036854775807∧(True∧∀r4,(Eq r4 ((X0v (ln a0.2.2.2.1)),((),())))→(List.length (((List.map (fun n=>UInt8.ofNat (Int.toNat n)) [(IntKind.wrap .u8 a0.1)])++r2.1)++r3.1)+List.length r4.1≤9223372036854775807∧(eS [(1,.box 2 0)] [(1,.box 2 0)]∧((h1I a0 ((((List.map (fun n=>UInt8.ofNat (Int.toNat n)) [(IntKind.wrap .u8 a0.1)])++r2.1)++r3.1)++r4.1) 0 a0.1 a0.2.1 a0.2.2.1 a0.2.2.2.1 a0.2.2.2.2.1.1 a0.2.2.2.2.1.2.1 a0.2.2.2.2.1.2.2 a0.2.2.2.2.2)∧∀(y5:(U5q×Xr4)),(h1I a0 y5.1 y5.2.1 y5.2.2.1 y5.2.2.2.1 y5.2.2.2.2.1 y5.2.2.2.2.2.1 y5.2.2.2.2.2.2.1 y5.2.2.2.2.2.2.2.1 y5.2.2.2.2.2.2.2.2.1 y5.2.2.2.2.2.2.2.2.2)→(X00 (decide (y5.2.1<(ln y5.2.2.2.2.2.1))) (0≤y5.2.1∧(y5.2.1<(ln y5.2.2.2.2.2.1)∧(True∧∀r6,(Eq r6 ((X0v ((List.getD y5.2.2.2.2.2.1 (tN y5.2.1) (0,0)).1)),((),())))→(List.length y5.1+List.length r6.1≤9223372036854775807∧(0≤y5.2.1∧(y5.2.1<(ln y5.2.2.2.2.2.1)∧(True∧∀r7,(Eq r7 ((X0v ((List.getD y5.2.2.2.2.2.1 (tN y5.2.1) (0,0)).2)),((),())))→(List.length (y5.1++r6.1)+List.length r7.1≤9223372036854775807∧(eS [(1,.box 2 0)] [(1,.box 2 0)]∧(h1I a0 ((y5.1++r6.1)++r7.1) (wI (y5.2.1+(1:Int))) y5.2.2.1 y5.2.2.2.1 y5.2.2.2.2.1 y5.2.2.2.2.2.1 y5.2.2.2.2.2.2.1 y5.2.2.2.2.2.2.2.1 y5.2.2.2.2.2.2.2.2.1 y5.2.2.2.2.2.2.2.2.2)∧(h1M a0 ((y5.1++r6.1)++r7.1) (wI (y5.2.1+(1:Int))) y5.2.2.1 y5.2.2.2.1 y5.2.2.2.2.1 y5.2.2.2.2.2.1 y5.2.2.2.2.2.2.1 y5.2.2.2.2.2.2.2.1 y5.2.2.2.2.2.2.2.2.1 y5.2.2.2.2.2.2.2.2.2)<(h1M a0 y5.1 y5.2.1 y5.2.2.1 y5.2.2.2.1 y5.2.2.2.2.1 y5.2.2.2.2.2.1 y5.2.2.2.2.2.2.1 y5.2.2.2.2.2.2.2.1 y5.2.2.2.2.2.2.2.2.1 y5.2.2.2.2.2.2.2.2.2)))))))))) (True∧∀r8,(Eq r8 ((X0v y5.2.2.2.2.2.2.1),((),())))→(List.length y5.1+List.length r8.1≤9223372036854775807∧((X4v y5.2.2.2.2.2.2.2.1)∧∀r9,(Eq r9 ((X0o y5.2.2.2.2.2.2.2.1),((),())))→((Xjk r9.1)∧∀r10,(Eq r10 ((XbK r9.1),((),())))→(List.length (y5.1++r8.1)+List.length r10.1≤9223372036854775807∧(True∧∀r11,(Eq r11 ((X0v (ln y5.2.2.2.2.2.2.2.2.1)),((),())))→(List.length ((y5.1++r8.1)++r10.1)+List.length r11.1≤9223372036854775807∧(eS [(1,.box 2 0)] [(1,.box 2 0)]∧((h2I a0 (((y5.1++r8.1)++r10.1)++r11.1) 0 y5.2.2.1 y5.2.2.2.1 y5.2.2.2.2.1 y5.2.2.2.2.2.1 y5.2.2.2.2.2.2.1 y5.2.2.2.2.2.2.2.1 y5.2.2.2.2.2.2.2.2.1 y5.2.2.2.2.2.2.2.2.2)∧∀(y12:(U5q×Xr4)),(h2I a0 y12.1 y12.2.1 y12.2.2.1 y12.2.2.2.1 y12.2.2.2.2.1 y12.2.2.2.2.2.1 y12.2.2.2.2.2.2.1 y12.2.2.2.2.2.2.2.1 y12.2.2.2.2.2.2.2.2.1 y12.2.2.2.2.2.2.2.2.2)→(X00 (decide (y12.2.1<(ln y12.2.2.2.2.2.2.2.2.1))) (0≤y12.2.1∧(y12.2.1<(ln y12.2.2.2.2.2.2.2.2.1)∧((Xjk (List.getD y12.2.2.2.2.2.2.2.2.1 (tN y12.2.1) []))∧∀r13,(Eq r13 ((XbK (List.getD y12.2.2.2.2.2.2.2.2.1 (tN y12.2.1) [])),((),())))→(List.length y12.1+List.length r13.1≤9223372036854775807∧(eS [(1,.box 2 0)] [(1,.box 2 0)]∧(h2I a0 (y12.1++r13.1) (wI (y12.2.1+(1:Int))) y12.2.2.1 y12.2.2.2.1 y12.2.2.2.2.1 y12.2.2.2.2.2.1 y12.2.2.2.2.2.2.1 y12.2.2.2.2.2.2.2.1 y12.2.2.2.2.2.2.2.2.1 y12.2.2.2.2.2.2.2.2.2)∧(h2M a0 (y12.1++r13.1) (wI (y12.2.1+(1:Int))) y12.2.2.1 y12.2.2.2.1 y12.2.2.2.2.1 y12.2.2.2.2.2.1 y12.2.2.2.2.2.2.1 y12.2.2.2.2.2.2.2.1 y12.2.2.2.2.2.2.2.2.1 y12.2.2.2.2.2.2.2.2.2)<(h2M a0 y12.1 y12.2.1 y12.2.2.1 y12.2.2.2.1 y12.2.2.2.2.1 y12.2.2.2.2.2.1 y12.2.2.2.2.2.2.1 y12.2.2.2.2.2.2.2.1 y12.2.2.2.2.2.2.2.2.1 y12.2.2.2.2.2.2.2.2.2)))))) (True∧∀r14,(Eq r14 ((X0v (ln y12.2.2.2.2.2.2.2.2.2)),((),())))→(List.length y12.1+List.length r14.1≤9223372036854775807∧(eS [(1,.box 2 0)] [(1,.box 2 0)]∧((h3I a0 (y12.1++r14.1) 0 y12.2.2.1 y12.2.2.2.1 y12.2.2.2.2.1 y12.2.2.2.2.2.1 y12.2.2.2.2.2.2.1 y12.2.2.2.2.2.2.2.1 y12.2.2.2.2.2.2.2.2.1 y12.2.2.2.2.2.2.2.2.2)∧∀(y15:(U5q×Xr4)),(h3I a0 y15.1 y15.2.1 y15.2.2.1 y15.2.2.2.1 y15.2.2.2.2.1 y15.2.2.2.2.2.1 y15.2.2.2.2.2.2.1 y15.2.2.2.2.2.2.2.1 y15.2.2.2.2.2.2.2.2.1 y15.2.2.2.2.2.2.2.2.2)→(X00 (decide (y15.2.1<(ln y15.2.2.2.2.2.2.2.2.2))) (0≤y15.2.1∧(y15.2.1<(ln y15.2.2.2.2.2.2.2.2.2)∧(True∧∀r16,(Eq r16 ((X0v ((List.getD y15.2.2.2.2.2.2.2.2.2 (tN y15.2.1) (0,(0,(0,(0,(0,[])))))).1)),((),())))→(List.length y15.1+List.length r16.1≤9223372036854775807∧(0≤y15.2.1∧(y15.2.1<(ln y15.2.2.2.2.2.2.2.2.2)∧(True∧∀r17,(Eq r17 ((X0v ((List.getD y15.2.2.2.2.2.2.2.2.2 (tN y15.2.1) (0,(0,(0,(0,(0,[])))))).2.1)),((),())))→(List.length (y15.1++r16.1)+List.length r17.1≤9223372036854775807∧(0≤y15.2.1∧(y15.2.1<(ln y15.2.2.2.2.2.2.2.2.2)∧(True∧∀r18,(Eq r18 ((X3S ((List.getD y15.2.2.2.2.2.2.2.2.2 (tN y15.2.1) (0,(0,(0,(0,(0,[])))))).2.2.1,((List.getD y15.2.2.2.2.2.2.2.2.2 (tN y15.2.1) (0,(0,(0,(0,(0,[])))))).2.2.2.1,((List.getD y15.2.2.2.2.2.2.2.2.2 (tN y15.2.1) (0,(0,(0,(0,(0,[])))))).2.2.2.2.1,(List.getD y15.2.2.2.2.2.2.2.2.2 (tN y15.2.1) (0,(0,(0,(0,(0,[])))))).2.2.2.2.2)))),((),())))→((Xjk r18.1)∧∀r19,(Eq r19 ((XbK r18.1),((),())))→(List.length ((y15.1++r16.1)++r17.1)+List.length r19.1≤9223372036854775807∧(eS [(1,.box 2 0)] [(1,.box 2 0)]∧(h3I a0 (((y15.1++r16.1)++r17.1)++r19.1) (wI (y15.2.1+(1:Int))) y15.2.2.1 y15.2.2.2.1 y15.2.2.2.2.1 y15.2.2.2.2.2.1 y15.2.2.2.2.2.2.1 y15.2.2.2.2.2.2.2.1 y15.2.2.2.2.2.2.2.2.1 y15.2.2.2.2.2.2.2.2.2)∧(h3M a0 (((y15.1++r16.1)++r17.1)++r19.1) (wI (y15.2.1+(1:Int))) y15.2.2.1 y15.2.2.2.1 y15.2.2.2.2.1 y15.2.2.2.2.2.1 y15.2.2.2.2.2.2.1 y15.2.2.2.2.2.2.2.1 y15.2.2.2.2.2.2.2.2.1 y15.2.2.2.2.2.2.2.2.2)<(h3M a0 y15.1 y15.2.1 y15.2.2.1 y15.2.2.2.1 y15.2.2.2.2.1 y15.2.2.2.2.2.1 y15.2.2.2.2.2.2.1 y15.2.2.2.2.2.2.2.1 y15.2.2.2.2.2.2.2.2.1 y15.2.2.2.2.2.2.2.2.2))))))))))))))) (Eq (y15.1,((),())) ((X9W a0),((),())))))))))))))))))))))))))))))
def X1J.L(a0:U7q):Nat→Option X0e:=fun p=>Go.Proofs.YtcfaphojdacmbaaGreatR.Bv.look p [(122,{kp:={hold:=[1],slots:=[3,4],boxes:=[2],rows:=[]},T:=(.pair .str T9q),I:=fun st y=>h1I a0 y.1 y.2.1 y.2.2.1 y.2.2.2.1 y.2.2.2.2.1 y.2.2.2.2.2.1 y.2.2.2.2.2.2.1 y.2.2.2.2.2.2.2.1 y.2.2.2.2.2.2.2.2.1 y.2.2.2.2.2.2.2.2.2,μ:=fun st y=>h1M a0 y.1 y.2.1 y.2.2.1 y.2.2.2.1 y.2.2.2.2.1 y.2.2.2.2.2.1 y.2.2.2.2.2.2.1 y.2.2.2.2.2.2.2.1 y.2.2.2.2.2.2.2.2.1 y.2.2.2.2.2.2.2.2.2}),(506,{kp:={hold:=[1],slots:=[3,5],boxes:=[2],rows:=[]},T:=(.pair .str T9q),I:=fun st y=>h2I a0 y.1 y.2.1 y.2.2.1 y.2.2.2.1 y.2.2.2.2.1 y.2.2.2.2.2.1 y.2.2.2.2.2.2.1 y.2.2.2.2.2.2.2.1 y.2.2.2.2.2.2.2.2.1 y.2.2.2.2.2.2.2.2.2,μ:=fun st y=>h2M a0 y.1 y.2.1 y.2.2.1 y.2.2.2.1 y.2.2.2.2.1 y.2.2.2.2.2.1 y.2.2.2.2.2.2.1 y.2.2.2.2.2.2.2.1 y.2.2.2.2.2.2.2.2.1 y.2.2.2.2.2.2.2.2.2}),(2042,{kp:={hold:=[1],slots:=[3,6],boxes:=[2],rows:=[]},T:=(.pair .str T9q),I:=fun st y=>h3I a0 y.1 y.2.1 y.2.2.1 y.2.2.2.1 y.2.2.2.2.1 y.2.2.2.2.2.1 y.2.2.2.2.2.2.1 y.2.2.2.2.2.2.2.1 y.2.2.2.2.2.2.2.2.1 y.2.2.2.2.2.2.2.2.2,μ:=fun st y=>h3M a0 y.1 y.2.1 y.2.2.1 y.2.2.2.1 y.2.2.2.2.1 y.2.2.2.2.2.1 y.2.2.2.2.2.2.1 y.2.2.2.2.2.2.2.1 y.2.2.2.2.2.2.2.2.1 y.2.2.2.2.2.2.2.2.2})]
theorem X1J.pure(a0:U7q)(h:(Xho a0))(hw:Wf X6p.A a0):X1J.F a0:=by
 delta X1J.F ln tN wI eS
 simp only[Bs,B0,B1,Prod.mk.injEq,X01,Prod.eta,List.map_cons,List.map_nil]
 obtain⟨hp,hd⟩:=h
 refine⟨hp,fun h1=>?_,fun h1=>?_⟩
 · unfold X9W;rw[if_neg (by rw[h1];decide)]
 have K:=Xca h1
 have fin:Xk6 a0=X9W a0:=by unfold X9W;rw[if_pos h1]
 have eK:IntKind.wrap .u8 a0.1=a0.1:=by rcases K.kind with e | e<;>rw[e]<;>rfl
 rw[eK]
 have v:∀n,(X0v n).length≤7:=X0d
 have v1:=v a0.2.1
 have v2:=v a0.2.2.1
 have v3:=v a0.2.2.2.1.length
 refine⟨by omega,by omega,by omega,⟨rfl,by omega,by omega,by simp[sh1],by simp only[List.length_append,List.length_cons,List.length_nil];omega⟩,?_⟩
 rintro⟨out,i,k,hh,m,b,f,c,g,s⟩ ⟨ea,q1,q2,q3,q4⟩
 simp only at ea q1 q2 q3 q4 ⊢
 subst ea
 simp only at*
 have n1:=K.nb
 have n2:=K.nf
 have n3:=K.ns
 simp only at n1 n2 n3
 refine⟨fun hi=>?_,fun hi=>?_⟩
 · have st:=Xda shB (0,0) q1 hi
   generalize b.getD i.toNat (0,0)=x at st ⊢
   have w1:=v x.1
   have w2:=v x.2
   rw[w64 (x:=i+1) (by omega) (by omega)]
   refine⟨q1,hi,by omega,q1,hi,by omega,⟨rfl,by omega,by omega,by rw[q3,st];simp[shB],by simp only[List.length_append];omega⟩,by unfold h1M;omega⟩
 have u1:=v f
 have u2:=XaD (X0o c)
 have u3:=XaT c
 have u4:=v g.length
 have full:b.take i.toNat=b:=by rw[show i.toNat=b.length by omega,List.take_length]
 rw[full]at q3
 refine⟨by omega,hp.1.1,by unfold Xjk;omega,by omega,by omega,⟨rfl,by omega,by omega,by rw[q3];simp[sh2],by simp only[List.length_append];omega⟩,?_⟩
 rintro⟨out2,i2,k2,hh2,m2,b2,f2,c2,g2,s2⟩ ⟨ea,r1,r2,r3,r4⟩
 simp only at ea r1 r2 r3 r4 ⊢
 obtain⟨rfl,rfl,rfl,rfl,⟨rfl,rfl,rfl⟩,rfl⟩:k=k2∧hh=hh2∧m=m2∧b=b2∧(f=f2∧c=c2∧g=g2)∧s=s2:=by
  simp only[Prod.mk.injEq]at ea;exact⟨ea.1,ea.2.1,ea.2.2.1,ea.2.2.2.1,⟨ea.2.2.2.2.1.1,ea.2.2.2.2.1.2.1,ea.2.2.2.2.1.2.2⟩,ea.2.2.2.2.2⟩
 refine⟨fun hi2=>?_,fun hi2=>?_⟩
 · have st:=Xda XbK [] r1 hi2
   have w0:=K.fl _ (X2g (d:=([]:Str)) (by omega:i2.toNat<g.length))
   generalize g.getD i2.toNat []=x at st w0 ⊢
   have w1:=XaD x
   rw[w64 (x:=i2+1) (by omega) (by omega)]
   refine⟨r1,hi2,by unfold Xjk;omega,by omega,⟨rfl,by omega,by omega,by rw[r3,st];simp,by simp only[List.length_append];omega⟩,by unfold h2M;omega⟩
 have full2:g.take i2.toNat=g:=by rw[show i2.toNat=g.length by omega,List.take_length]
 rw[full2]at r3
 have u5:=v s.length
 refine⟨by omega,⟨rfl,by omega,by omega,by rw[r3];simp,by simp only[List.length_append];omega⟩,?_⟩
 rintro⟨out3,i3,k3,hh3,m3,b3,f3,c3,g3,s3⟩ ⟨ea,t1,t2,t3,t4⟩
 simp only at ea t1 t2 t3 t4 ⊢
 obtain⟨rfl,rfl,rfl,rfl,⟨rfl,rfl,rfl⟩,rfl⟩:k=k3∧hh=hh3∧m=m3∧b=b3∧(f=f3∧c=c3∧g=g3)∧s=s3:=by
  simp only[Prod.mk.injEq]at ea;exact⟨ea.1,ea.2.1,ea.2.2.1,ea.2.2.2.1,⟨ea.2.2.2.2.1.1,ea.2.2.2.2.1.2.1,ea.2.2.2.2.1.2.2⟩,ea.2.2.2.2.2⟩
 refine⟨fun hi3=>?_,fun hi3=>?_⟩
 · have st:=Xda shS (0,(0,(0,(0,(0,[]))))) t1 hi3
   generalize s.getD i3.toNat (0,(0,(0,(0,(0,[])))))=x at st ⊢
   have w1:=v x.1
   have w2:=v x.2.1
   have w3:=Xbk x.2.2
   have w4:=XaD (X3S x.2.2)
   have w5:=Xk2 x
   rw[w64 (x:=i3+1) (by omega) (by omega)]
   refine⟨t1,hi3,by omega,t1,hi3,by omega,t1,hi3,by unfold Xjk;omega,by omega,⟨rfl,by omega,by omega,by rw[t3,st];simp[shS],by simp only[List.length_append];omega⟩,by unfold h3M;omega⟩
 have full3:s.take i3.toNat=s:=by rw[show i3.toNat=s.length by omega,List.take_length]
 rw[full3]at t3
 rw[t3,←fin];rfl
theorem X1J.eq:EqS X6p Tryz.f57 [9] [X2K.e,X3v.e,X3m.e,X1R.e,X1t.e] [] (fun i x=>X1J.L x) (fun i x=>X1J.F x):=by intro i x;kernel_rfl
theorem X1J.ok:X0k Tryz.prog 57 X6p:=X1Z X1J.eq Tryz.func57 rfl (by kernel_rfl) fun i x h hi hw=>X1J.pure x h hw
def X1J.e:GE:=⟨57,X6p,⟨_,Tryz.func57,rfl,rfl⟩,X1J.ok⟩
end Go.Proofs.YtcfaphojdacmbaaGreatR.B
