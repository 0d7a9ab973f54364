/- Series and engines that are drawn. -/
import Derived.Test.YtcfaphojdacmbaaGreatRCDrawX
import Derived.Test.YtcfaphojdacmbaaGreatRCDEng0
import Derived.Test.YtcfaphojdacmbaaGreatRCFile
set_option maxRecDepth 100000
set_option linter.unusedVariables false
set_option linter.unusedSimpArgs false
namespace Go.Proofs.YtcfaphojdacmbaaGreatR.B
open Go Go.Proofs.YtcfaphojdacmbaaGreatR.Bv
def XgF(c:Cur)(s:List UInt8):Prop:=X4J c∧s.length≤100000
def X56:Con:={io:=true,I:=(.pair T9q T0q),B:=.unit,A:=.str,shA:=[.one],R:=.str,shR:=[(false,1)],pre:=fun i a=>(XgF i a),post:=fun i a y=>(Xb9 i a y)}
def X2G.F(i0:U7q)(a0:U5q):Prop:=(X00 ((ln a0)==(0:Int)) ((XlO (i0.1,(i0.2.1,i0.2.2)) 3)∧∀r1,(XnM (i0.1,(i0.2.1,i0.2.2)) 3 r1)→(Xb9 i0 a0 (r1.1,((r1.2.1.1,(r1.2.1.2.1,r1.2.1.2.2)),())))) ((X71 (i0.1,(i0.2.1,i0.2.2)) (ln a0))∧∀r2,(Eq r2 ((X0X (i0.1,(i0.2.1,i0.2.2)) (ln a0)).1,((X0X (i0.1,(i0.2.1,i0.2.2)) (ln a0)).2,())))→((X71 (r2.2.1.1,(r2.2.1.2.1,r2.2.1.2.2)) 4)∧∀r3,(Eq r3 ((X0X (r2.2.1.1,(r2.2.1.2.1,r2.2.1.2.2)) 4).1,((X0X (r2.2.1.1,(r2.2.1.2.1,r2.2.1.2.2)) 4).2,())))→(X00 (r3.1==(0:Int)) (0≤r2.1∧(r2.1≤(ln a0)∧(0≤(wI (r2.1+(1:Int)))∧((wI (r2.1+(1:Int)))≤(ln a0)∧(List.length (List.take (tN r2.1) a0)+List.length (List.drop (tN (wI (r2.1+(1:Int)))) a0)≤9223372036854775807∧(Xb9 i0 a0 (((List.take (tN r2.1) a0)++(List.drop (tN (wI (r2.1+(1:Int)))) a0)),((r3.2.1.1,(r3.2.1.2.1,r3.2.1.2.2)),())))))))) (X00 (r3.1==(1:Int)) (0≤r2.1∧(r2.1≤(ln a0)∧((X4J (r3.2.1.1,(r3.2.1.2.1,r3.2.1.2.2)))∧∀r4,(Eq r4 ((X16 (r3.2.1.1,(r3.2.1.2.1,r3.2.1.2.2))).1,((X16 (r3.2.1.1,(r3.2.1.2.1,r3.2.1.2.2))).2,())))→(List.length (List.take (tN r2.1) a0)+List.length (List.map (fun n=>UInt8.ofNat (Int.toNat n)) [(IntKind.wrap .u8 r4.1)])≤9223372036854775807∧(0≤r2.1∧(r2.1≤(ln a0)∧(List.length ((List.take (tN r2.1) a0)++(List.map (fun n=>UInt8.ofNat (Int.toNat n)) [(IntKind.wrap .u8 r4.1)]))+List.length (List.drop (tN r2.1) a0)≤9223372036854775807∧(Xb9 i0 a0 ((((List.take (tN r2.1) a0)++(List.map (fun n=>UInt8.ofNat (Int.toNat n)) [(IntKind.wrap .u8 r4.1)]))++(List.drop (tN r2.1) a0)),((r4.2.1.1,(r4.2.1.2.1,r4.2.1.2.2)),())))))))))) (X00 (r3.1==(2:Int)) (0≤r2.1∧(r2.1≤(ln a0)∧(Xb9 i0 a0 ((List.take (tN r2.1) a0),((r3.2.1.1,(r3.2.1.2.1,r3.2.1.2.2)),()))))) (0≤r2.1∧(r2.1≤(ln a0)∧(0≤r2.1∧(r2.1<(ln a0)∧((X71 (r3.2.1.1,(r3.2.1.2.1,r3.2.1.2.2)) 255)∧∀r5,(Eq r5 ((X0X (r3.2.1.1,(r3.2.1.2.1,r3.2.1.2.2)) 255).1,((X0X (r3.2.1.1,(r3.2.1.2.1,r3.2.1.2.2)) 255).2,())))→(List.length (List.take (tN r2.1) a0)+List.length (List.map (fun n=>UInt8.ofNat (Int.toNat n)) [(IntKind.wrap .u8 (IntKind.wrap .i64 (BitVec.toNat (BitVec.ofInt (IntKind.bits .i64) (wI ((UInt8.toNat (List.getD a0 (tN r2.1) 0):Nat):Int)) ^^^ BitVec.ofInt (IntKind.bits .i64) (wI ((1:Int)+r5.1))))))])≤9223372036854775807∧(0≤(wI (r2.1+(1:Int)))∧((wI (r2.1+(1:Int)))≤(ln a0)∧(List.length ((List.take (tN r2.1) a0)++(List.map (fun n=>UInt8.ofNat (Int.toNat n)) [(IntKind.wrap .u8 (IntKind.wrap .i64 (BitVec.toNat (BitVec.ofInt (IntKind.bits .i64) (wI ((UInt8.toNat (List.getD a0 (tN r2.1) 0):Nat):Int)) ^^^ BitVec.ofInt (IntKind.bits .i64) (wI ((1:Int)+r5.1))))))]))+List.length (List.drop (tN (wI (r2.1+(1:Int)))) a0)≤9223372036854775807∧(Xb9 i0 a0 ((((List.take (tN r2.1) a0)++(List.map (fun n=>UInt8.ofNat (Int.toNat n)) [(IntKind.wrap .u8 (IntKind.wrap .i64 (BitVec.toNat (BitVec.ofInt (IntKind.bits .i64) (wI ((UInt8.toNat (List.getD a0 (tN r2.1) 0):Nat):Int)) ^^^ BitVec.ofInt (IntKind.bits .i64) (wI ((1:Int)+r5.1))))))]))++(List.drop (tN (wI (r2.1+(1:Int)))) a0)),((r5.2.1.1,(r5.2.1.2.1,r5.2.1.2.2)),()))))))))))))))))))
theorem X2G.pure(i0:U7q)(a0:U5q)(h:(XgF i0 a0))(hi:Wf X56.I i0)(hw:Wf X56.A a0):X2G.F i0 a0:=by
 delta X2G.F ln tN wI
 simp only[Bs,B0,B1,Prod.mk.injEq,X01,Prod.eta,X71]
 obtain⟨hc,hl⟩:=h
 refine⟨fun h0=>⟨⟨hc,by omega,by omega⟩,fun r1 q1=>⟨by have:=q1.1;simp only;omega,q1.2⟩⟩,fun h0=>?_⟩
 obtain⟨k1,k2,k3⟩:=X57 hc (n:=(a0.length:Int)) (by omega)
 obtain⟨t1,t2,t3⟩:=X57 k3 (n:=4) (by omega)
 obtain⟨x1,x2,x3⟩:=X88 t3
 obtain⟨z1,z2,z3⟩:=X57 t3 (n:=255) (by omega)
 generalize (X0X (X0X i0 (a0.length:Int)).2 4).1=t at*
 generalize (X0X i0 (a0.length:Int)).1=k at*
 rw[w64 (x:=k+1) (by omega) (by omega)]
 simp only[List.length_take,List.length_drop,List.length_map,List.length_cons,List.length_nil]
 refine⟨hc,k3,fun _=>⟨by omega,by omega,by omega,by omega,by omega,by simp only[List.length_append,List.length_take,List.length_drop];omega,t3⟩,fun _=>⟨fun _=>⟨by omega,by omega,t3,by omega,by omega,by omega,by omega,by simp only[List.length_append,List.length_take,List.length_drop,List.length_map,List.length_cons,List.length_nil];omega,x3⟩,fun _=>⟨fun _=>⟨by omega,by omega,by simp only[List.length_take];omega,t3⟩,fun _=>⟨by omega,by omega,by omega,by omega,t3,by omega,by omega,by omega,by omega,by simp only[List.length_append,List.length_take,List.length_drop,List.length_map,List.length_cons,List.length_nil];omega,z3⟩⟩⟩⟩
theorem X2G.eq:EqS X56 Tryz.f164 [9] [X1F.e,X2D.e,X2R.e] [] noL (fun i x=>X2G.F i x):=by intro i x;kernel_rfl
theorem X2G.ok:X0n Tryz.prog 164 X56:=X2g X2G.eq Tryz.func164 rfl (by kernel_rfl) fun i x h hi hw=>X2G.pure i x h (hi rfl) hw
def X2G.e:GE:=⟨164,X56,⟨_,Tryz.func164,rfl,rfl⟩,X2G.ok⟩
def Xhh(c:Cur)(l:List Str):Prop:=X4J c∧0<l.length
def SmS(n:Nat)(l:List Ser):Prop:=l.length≤n∧∀x∈l,x.1.length≤9∧x.2.length≤1002
def XeP(c:Cur)(most:Int)(y:List Ser×(Cur×Unit)):Prop:=SmS 6 y.1∧X4J y.2.1
structure sdI (c:Cur) (most i:Int) (b:List Int) (k h:Int) (out:List Ser):Prop where
 cu:X4J (b,k,h)
 h1:0≤i
 h2:i≤5
 h3:out.length≤i
 h4:∀x∈out,x.1.length≤9∧x.2.length≤1001
def sdM(c:Cur)(most i:Int)(b:List Int)(k h:Int)(out:List Ser):Nat:=(5 - i).toNat
theorem Xk0{n:Nat}{l:List Ser}(h:l.length≤n)(h4:∀x∈l,x.1.length≤9∧x.2.length≤1001):SmS n l:=⟨h,fun x hx=>by have:=h4 x hx;omega⟩
theorem Xa9{α:Type}{l:List α}{y:α}{P:α→Prop}(h:∀x∈l,P x)(hy:P y):∀x∈l++[y],P x:=fun x hx=>by
 rcases List.mem_append.1 hx with hx | hx
 · exact h x hx
 · rw[List.mem_singleton.1 hx];exact hy
theorem XlU:∀x∈[[97],[99,112,117],[100,105,115,107],[109,101,109],[122,122,122,122,122,122,122,122]],List.length (x:Str)≤8:=by decide
theorem Xkz{c:Cur}(h:X4J c)(n:Int):0≤(X0X c n).1∧((X0X c n).1<n∨(X0X c n).1=0)∧X4J (X0X c n).2:=by
 by_cases hn:0<n
 · obtain⟨a,b,d⟩:=X57 h hn;exact⟨a,.inl b,d⟩
 · unfold X0X;rw[if_pos (by omega)];exact⟨by omega,.inr rfl,h⟩
theorem Xe9(l:List Ser):(X0j l).length≤20000:=by
 by_cases hc:X0y l=true
 · exact Xei hc
 · unfold X0j;rw[if_neg (fun h=>hc h.1)];simp
def Xfr(c:Cur)(most:Int)(y:Str×(Cur×Unit)):Prop:=y.1.length≤30000∧X4J y.2.1
def Xp3(c:Cur)(most:Int)(y:Eng×(Cur×Unit)):Prop:=(X0L y.1=true∧X55 y.1)∧X4J y.2.1
structure edI (c:Cur) (most n:Int) (b:List Int) (k h:Int) (z0:Int) (z1:List Ser) (z2:List Str) (f:Int) (ca:List Ser) (g:List Str):Prop where
 cu:X4J (b,k,h)
 h1:0≤n
 h2:n≤1000
 ok:X0L (f,(ca,g))=true
 pe:X55 (f,(ca,g))
def edM(c:Cur)(most n:Int)(b:List Int)(k h:Int)(z0:Int)(z1:List Ser)(z2:List Str)(f:Int)(ca:List Ser)(g:List Str):Nat:=n.toNat
def SmE(e:Eng):Prop:=-1≤e.1∧e.1≤1099511627777∧X55 e∧e.2.1.length≤1000∧tot e.2.1≤100000∧e.2.2.length≤10
theorem Xoz:∀{l:List Ser},(∀x∈l,x.1.length≤9∧x.2.length≤1002)→tot l≤1003*l.length
 | [],_=>by simp[tot,cL]
 | x::l,h=>by
   have h1:=Xoz (l:=l) fun y hy=>h y (by simp[hy])
   have h2:=h x (by simp)
   have h3:tot (x::l)=cS x+tot l:=X4t ..
   simp only[cS]at h3
   rw[List.length_cons];omega
theorem Xr4{e:Eng}(h:X0L e=true)(hq:X55 e):SmE e:=by
 have G:=X6W h hq
 have:=X1t G.ca
 have:=G.fl
 have:=G.le
 exact⟨by omega,by omega,hq,by omega,by omega,by omega⟩
def XeF(c:Cur)(most:Int)(y:Eng×(Cur×Unit)):Prop:=SmE y.1∧X4J y.2.1
structure adI (c:Cur) (most i:Int) (b:List Int) (k h:Int) (z0 f:Int) (z1:List Ser) (z2:List Str) (ca:List Ser) (g:List Str):Prop where
 cu:X4J (b,k,h)
 h1:0≤i
 h2:i≤5
 h3:g.length≤4+i
 fl:0≤f∧f≤1099511627776
 cl:ca.length≤1000∧tot ca≤100000
 pe:X55 (f,(ca,g))
def adM(c:Cur)(most i:Int)(b:List Int)(k h:Int)(z0 f:Int)(z1:List Ser)(z2:List Str)(ca:List Ser)(g:List Str):Nat:=(5 - i).toNat
def XgH(code:List Int)(y:(Eng×Int)×(Unit×Unit)):Prop:=SmE y.1.1∧-1≤y.1.2∧y.1.2≤1099511627777
def X9N(c:Cur)(l:List Str):Str×Cur:=(l.getD (X0X c l.length).1.toNat [],(X0X c l.length).2)
theorem Xg8{c:Cur}{l:List Str}(h:Xhh c l):(X9N c l).1∈l∧X4J (X9N c l).2:=by
 obtain⟨hc,hl⟩:=h
 obtain⟨a1,a2,a3⟩:=X57 hc (n:=(l.length:Int)) (by omega)
 exact⟨X0S (by omega),a3⟩
def Xm6:List Str:=[[99,112,117],[109,101,109],[110,101,116],[97],[122,122,122,122,122,122,122,122]]
def Xco(c:Cur):Str×Cur:=X9N c Xm6
theorem XjQ{c:Cur}(h:X4J c):(Xco c).1.length≤8∧X4J (Xco c).2:=by
 obtain⟨a,b⟩:=Xg8 (l:=Xm6) ⟨h,by decide⟩
 have:∀x∈Xm6,List.length (x:Str)≤8:=by decide
 exact⟨this _ a,b⟩
def X5X:Con:={io:=true,I:=(.pair T9q T0q),A:=(.list .str),shA:=[.one],R:=.str,shR:=[(false,1)],pre:=fun i a=>(Xhh i a),f:=some fun i a=>((X9N i a).1,((X9N i a).2,()))}
def X39.F(i0:U7q)(a0:(List U5q)):Prop:=((X71 (i0.1,(i0.2.1,i0.2.2)) (ln a0))∧∀r1,(Eq r1 ((X0X (i0.1,(i0.2.1,i0.2.2)) (ln a0)).1,((X0X (i0.1,(i0.2.1,i0.2.2)) (ln a0)).2,())))→(0≤r1.1∧(r1.1<(ln a0)∧(Eq ((List.getD a0 (tN r1.1) []),((r1.2.1.1,(r1.2.1.2.1,r1.2.1.2.2)),())) ((X9N i0 a0).1,((X9N i0 a0).2,()))))))
theorem X39.pure(i0:U7q)(a0:(List U5q))(h:(Xhh i0 a0))(hi:Wf X5X.I i0)(hw:Wf X5X.A a0):X39.F i0 a0:=by
 delta X39.F ln tN
 simp only[Bs,B0,B1,Prod.mk.injEq,X01,Prod.eta]
 obtain⟨hc,hl⟩:=h
 obtain⟨a1,a2,a3⟩:=X57 hc (n:=(a0.length:Int)) (by omega)
 exact⟨hc,by omega,by omega,rfl,rfl⟩
theorem X39.eq:EqS X5X Tryz.f82 [9] [X1F.e] [] noL (fun i x=>X39.F i x):=by intro i x;kernel_rfl
theorem X39.ok:X0n Tryz.prog 82 X5X:=X2g X39.eq Tryz.func82 rfl (by kernel_rfl) fun i x h hi hw=>X39.pure i x h (hi rfl) hw
def X39.e:GE:=⟨82,X5X,⟨_,Tryz.func82,rfl,rfl⟩,X39.ok⟩
def X6e:Con:={io:=true,I:=(.pair T9q T0q),A:=.unit,shA:=[],R:=.str,shR:=[(false,1)],pre:=fun i a=>(X4J i),f:=some fun i a=>((Xco i).1,((Xco i).2,()))}
def X3s.F(i0:U7q):Prop:=((Xhh (i0.1,(i0.2.1,i0.2.2)) [[99,112,117],[109,101,109],[110,101,116],[97],[122,122,122,122,122,122,122,122]])∧∀r1,(Eq r1 ((X9N (i0.1,(i0.2.1,i0.2.2)) [[99,112,117],[109,101,109],[110,101,116],[97],[122,122,122,122,122,122,122,122]]).1,((X9N (i0.1,(i0.2.1,i0.2.2)) [[99,112,117],[109,101,109],[110,101,116],[97],[122,122,122,122,122,122,122,122]]).2,())))→(Eq (r1.1,((r1.2.1.1,(r1.2.1.2.1,r1.2.1.2.2)),())) ((Xco i0).1,((Xco i0).2,()))))
theorem X3s.pure(i0:U7q)(h:(X4J i0))(hi:Wf X6e.I i0)(hw:Wf X6e.A ()):X3s.F i0:=by
 unfold X3s.F
 simp only[Bs,B0,B1,Prod.mk.injEq,X01,Prod.eta]
 exact⟨⟨h,by simp⟩,rfl,rfl⟩
theorem X3s.eq:EqS X6e Tryz.f80 [9] [X39.e] [] noL (fun i x=>X3s.F i):=by intro i x;kernel_rfl
theorem X3s.ok:X0n Tryz.prog 80 X6e:=X2g X3s.eq Tryz.func80 rfl (by kernel_rfl) fun i x h hi hw=>X3s.pure i h (hi rfl) hw
def X3s.e:GE:=⟨80,X6e,⟨_,Tryz.func80,rfl,rfl⟩,X3s.ok⟩
def X4E:Con:={io:=true,I:=(.pair T9q T0q),B:=.unit,A:=(.int .i64),shA:=[.one],R:=T8q,shR:=[(false,1)],pre:=fun i a=>(X4x i a),post:=fun i a y=>(XeP i a y)}
def X1H.F(i0:U7q)(a0:Int):Prop:=(eS [(0,.box 0 0),(1,.val false [.int .i64 a0]),(6,.val false [.lst .str [[97],[99,112,117],[100,105,115,107],[109,101,109],[122,122,122,122,122,122,122,122]] none])] [(0,.box 0 0),(1,.val false [.int .i64 a0]),(6,.val false [.lst .str [[97],[99,112,117],[100,105,115,107],[109,101,109],[122,122,122,122,122,122,122,122]] none])]∧((sdI i0 a0 0 i0.1 i0.2.1 i0.2.2 ([]:List U1q))∧∀(y1:(Int×((List Int)×(Int×(Int×(List U1q)))))),(sdI i0 a0 y1.1 y1.2.1 y1.2.2.1 y1.2.2.2.1 y1.2.2.2.2)→(X00 (decide (y1.1<(ln [[97],[99,112,117],[100,105,115,107],[109,101,109],[122,122,122,122,122,122,122,122]]))) ((X4o (y1.2.1,(y1.2.2.1,y1.2.2.2.1)) 2)∧∀r2,(XcS (y1.2.1,(y1.2.2.1,y1.2.2.2.1)) 2 r2)→(X00 r2.1 (0≤y1.1∧(y1.1<(ln [[97],[99,112,117],[100,105,115,107],[109,101,109],[122,122,122,122,122,122,122,122]])∧((X4x (r2.2.1.1,(r2.2.1.2.1,r2.2.1.2.2)) a0)∧∀r3,(X9U (r2.2.1.1,(r2.2.1.2.1,r2.2.1.2.2)) a0 r3)→(List.length y1.2.2.2.2+List.length ([((List.getD [[97],[99,112,117],[100,105,115,107],[109,101,109],[122,122,122,122,122,122,122,122]] (tN y1.1) []),r3.1)]:List U1q)≤9223372036854775807∧((List.length y1.2.2.2.2+List.length ([((List.getD [[97],[99,112,117],[100,105,115,107],[109,101,109],[122,122,122,122,122,122,122,122]] (tN y1.1) []),r3.1)]:List U1q))*40≤140737488355328∧(eS [(0,.box 0 0),(1,.val false [.int .i64 a0]),(6,.val false [.lst .str [[97],[99,112,117],[100,105,115,107],[109,101,109],[122,122,122,122,122,122,122,122]] none])] [(0,.box 0 0),(1,.val false [.int .i64 a0]),(6,.val false [.lst .str [[97],[99,112,117],[100,105,115,107],[109,101,109],[122,122,122,122,122,122,122,122]] none])]∧(sdI i0 a0 (wI (y1.1+(1:Int))) r3.2.1.1 r3.2.1.2.1 r3.2.1.2.2 (y1.2.2.2.2++[((List.getD [[97],[99,112,117],[100,105,115,107],[109,101,109],[122,122,122,122,122,122,122,122]] (tN y1.1) []),r3.1)]))∧(sdM i0 a0 (wI (y1.1+(1:Int))) r3.2.1.1 r3.2.1.2.1 r3.2.1.2.2 (y1.2.2.2.2++[((List.getD [[97],[99,112,117],[100,105,115,107],[109,101,109],[122,122,122,122,122,122,122,122]] (tN y1.1) []),r3.1)]))<(sdM i0 a0 y1.1 y1.2.1 y1.2.2.1 y1.2.2.2.1 y1.2.2.2.2))))))) (eS [(0,.box 0 0),(1,.val false [.int .i64 a0]),(6,.val false [.lst .str [[97],[99,112,117],[100,105,115,107],[109,101,109],[122,122,122,122,122,122,122,122]] none])] [(0,.box 0 0),(1,.val false [.int .i64 a0]),(6,.val false [.lst .str [[97],[99,112,117],[100,105,115,107],[109,101,109],[122,122,122,122,122,122,122,122]] none])]∧(sdI i0 a0 (wI (y1.1+(1:Int))) r2.2.1.1 r2.2.1.2.1 r2.2.1.2.2 y1.2.2.2.2)∧(sdM i0 a0 (wI (y1.1+(1:Int))) r2.2.1.1 r2.2.1.2.1 r2.2.1.2.2 y1.2.2.2.2)<(sdM i0 a0 y1.1 y1.2.1 y1.2.2.1 y1.2.2.2.1 y1.2.2.2.2)))) ((X4o (y1.2.1,(y1.2.2.1,y1.2.2.2.1)) 12)∧∀r4,(XcS (y1.2.1,(y1.2.2.1,y1.2.2.2.1)) 12 r4)→(X00 r4.1 ((X71 (r4.2.1.1,(r4.2.1.2.1,r4.2.1.2.2)) 4)∧∀r5,(Eq r5 ((X0X (r4.2.1.1,(r4.2.1.2.1,r4.2.1.2.2)) 4).1,((X0X (r4.2.1.1,(r4.2.1.2.1,r4.2.1.2.2)) 4).2,())))→(X00 (r5.1==(0:Int)) ((Xhh (r5.2.1.1,(r5.2.1.2.1,r5.2.1.2.2)) [[],[65],[98],[122,122,122,122,122,122,122,122,122],[122,122]])∧∀r6,(Eq r6 ((X9N (r5.2.1.1,(r5.2.1.2.1,r5.2.1.2.2)) [[],[65],[98],[122,122,122,122,122,122,122,122,122],[122,122]]).1,((X9N (r5.2.1.1,(r5.2.1.2.1,r5.2.1.2.2)) [[],[65],[98],[122,122,122,122,122,122,122,122,122],[122,122]]).2,())))→((X4x (r6.2.1.1,(r6.2.1.2.1,r6.2.1.2.2)) 2)∧∀r7,(X9U (r6.2.1.1,(r6.2.1.2.1,r6.2.1.2.2)) 2 r7)→(List.length y1.2.2.2.2+List.length [(r6.1,r7.1)]≤9223372036854775807∧((List.length y1.2.2.2.2+List.length [(r6.1,r7.1)])*40≤140737488355328∧(XeP i0 a0 ((y1.2.2.2.2++[(r6.1,r7.1)]),((r7.2.1.1,(r7.2.1.2.1,r7.2.1.2.2)),()))))))) (X00 (r5.1==(1:Int)) (List.length y1.2.2.2.2+List.length [([122,122,122,122,122,122,122,122],([]:U6q))]≤9223372036854775807∧((List.length y1.2.2.2.2+List.length [([122,122,122,122,122,122,122,122],([]:U6q))])*40≤140737488355328∧(XeP i0 a0 ((y1.2.2.2.2++[([122,122,122,122,122,122,122,122],([]:U6q))]),((r5.2.1.1,(r5.2.1.2.1,r5.2.1.2.2)),()))))) (X00 (r5.1==(2:Int)) (X00 (decide ((ln y1.2.2.2.2)>(0:Int))) (0≤(0:Int)∧((0:Int)<(ln y1.2.2.2.2)∧((X71 (r5.2.1.1,(r5.2.1.2.1,r5.2.1.2.2)) 300)∧∀r8,(Eq r8 ((X0X (r5.2.1.1,(r5.2.1.2.1,r5.2.1.2.2)) 300).1,((X0X (r5.2.1.1,(r5.2.1.2.1,r5.2.1.2.2)) 300).2,())))→(List.length ((List.getD y1.2.2.2.2 (tN (0:Int)) ([],[])).2)+List.length [(r8.1,0)]≤9223372036854775807∧((List.length ((List.getD y1.2.2.2.2 (tN (0:Int)) ([],[])).2)+List.length [(r8.1,0)])*16≤140737488355328∧(0≤(0:Int)∧((0:Int)<(ln (List.set y1.2.2.2.2 (tN (0:Int)) ((List.getD y1.2.2.2.2 (tN (0:Int)) ([],[])).1,([]:U6q))))∧((tN (0:Int))=(tN (0:Int))∧(let l9:List U1q:=(List.set (List.set y1.2.2.2.2 (tN (0:Int)) ((List.getD y1.2.2.2.2 (tN (0:Int)) ([],[])).1,([]:U6q))) (tN (0:Int)) ((List.getD (List.set y1.2.2.2.2 (tN (0:Int)) ((List.getD y1.2.2.2.2 (tN (0:Int)) ([],[])).1,([]:U6q))) (tN (0:Int)) ([],[])).1,(((List.getD y1.2.2.2.2 (tN (0:Int)) ([],[])).2)++[(r8.1,0)])));(XeP i0 a0 (l9,((r8.2.1.1,(r8.2.1.2.1,r8.2.1.2.2)),())))))))))))) (XeP i0 a0 (y1.2.2.2.2,((r5.2.1.1,(r5.2.1.2.1,r5.2.1.2.2)),())))) (X00 (decide ((ln y1.2.2.2.2)>(1:Int))) (0<List.length y1.2.2.2.2∧(0≤(1:Int)∧((1:Int)≤(ln y1.2.2.2.2)∧(0≤(0:Int)∧((0:Int)<(ln y1.2.2.2.2)∧((tN (1:Int))<List.length y1.2.2.2.2∧(Eq (List.length y1.2.2.2.2) (List.length y1.2.2.2.2)∧(List.length (List.drop (tN (1:Int)) y1.2.2.2.2)+List.length ([((List.getD y1.2.2.2.2 (tN (0:Int)) ([],[])).1,(List.getD y1.2.2.2.2 (tN (0:Int)) ([],[])).2)]:List U1q)≤9223372036854775807∧((List.length (List.drop (tN (1:Int)) y1.2.2.2.2)+List.length ([((List.getD y1.2.2.2.2 (tN (0:Int)) ([],[])).1,(List.getD y1.2.2.2.2 (tN (0:Int)) ([],[])).2)]:List U1q))*40≤140737488355328∧(XeP i0 a0 (((List.drop (tN (1:Int)) y1.2.2.2.2)++[((List.getD y1.2.2.2.2 (tN (0:Int)) ([],[])).1,(List.getD y1.2.2.2.2 (tN (0:Int)) ([],[])).2)]),((r5.2.1.1,(r5.2.1.2.1,r5.2.1.2.2)),())))))))))))) (XeP i0 a0 (y1.2.2.2.2,((r5.2.1.1,(r5.2.1.2.1,r5.2.1.2.2)),())))))))) (XeP i0 a0 (y1.2.2.2.2,((r4.2.1.1,(r4.2.1.2.1,r4.2.1.2.2)),()))))))))
def X1H.L(i0:U7q)(a0:Int):Nat→Option X0c:=fun p=>Go.Proofs.YtcfaphojdacmbaaGreatR.Bv.look p [(122,{kp:={hold:=[0,1,6],slots:=[5,7],boxes:=[0],rows:=[{bx:=false,s:=5,i:=0,k:=1000643,e:=83,hot:=true}]},T:=(.pair (.int .i64) (.pair T9q (.pair (.int .i64) (.pair (.int .i64) T8q)))),I:=fun st y=>sdI i0 a0 y.1 y.2.1 y.2.2.1 y.2.2.2.1 y.2.2.2.2,μ:=fun st y=>sdM i0 a0 y.1 y.2.1 y.2.2.1 y.2.2.2.1 y.2.2.2.2})]
theorem X1H.pure(i0:U7q)(a0:Int)(h:(X4x i0 a0))(hi:Wf X4E.I i0)(hw:Wf X4E.A a0):X1H.F i0 a0:=by
 delta X1H.F ln tN wI eS
 simp only[Bs,B0,B1,Prod.mk.injEq,X01,Prod.eta]
 obtain⟨hc,hm⟩:=h
 refine⟨⟨hc,by omega,by omega,by simp,by simp⟩,?_⟩
 rintro⟨i,b,k,h,out⟩ ⟨cu,h1,h2,h3,h4⟩
 simp only at cu h1 h2 h3 h4 ⊢
 have e0:(0:Int).toNat=0:=rfl
 have e1:(1:Int).toNat=1:=rfl
 refine⟨fun hi=>⟨cu,fun r2 q2=>⟨fun ht=>?_,fun hf=>?_⟩⟩,fun hi=>⟨cu,fun r4 q4=>⟨fun ht=>?_,fun hf=>?_⟩⟩⟩
 · refine⟨h1,by omega,⟨q2,hm⟩,fun r3 q3=>?_⟩
   rw[w64 (x:=i+1) (by omega) (by omega)]
   have hn:=XlU _ (X0S (d:=([]:Str)) (l:=[[97],[99,112,117],[100,105,115,107],[109,101,109],[122,122,122,122,122,122,122,122]]) (i:=i.toNat) (by simp;omega))
   exact⟨by omega,by omega,⟨q3.2,by omega,by omega,by simp;omega,Xa9 h4 ⟨Nat.le_trans hn (by decide),q3.1⟩⟩,by unfold sdM;omega⟩
 · rw[w64 (x:=i+1) (by omega) (by omega)]
   exact⟨⟨q2,by omega,by omega,by omega,h4⟩,by unfold sdM;omega⟩
 · obtain⟨b1,b2,b3⟩:=X57 q4 (n:=4) (by omega)
   refine⟨q4,fun hz=>⟨⟨b3,by simp⟩,⟨(Xg8 ⟨b3,by simp⟩).2,by omega⟩,fun r7 q7=>⟨by omega,by omega,⟨Xk0 (by simp;omega) (Xa9 h4 ⟨?_,q7.1⟩),q7.2⟩⟩⟩,fun hz=>⟨fun hz1=>⟨by omega,by omega,⟨Xk0 (by simp;omega) (Xa9 h4 ⟨by simp,by simp⟩),b3⟩⟩,fun hz1=>⟨fun hz2=>⟨fun ho=>?_,fun ho=>⟨Xk0 (by simp only;omega) h4,b3⟩⟩,fun hz2=>⟨fun ho=>?_,fun ho=>⟨Xk0 (by simp only;omega) h4,b3⟩⟩⟩⟩⟩
   · have:∀x∈[[],[65],[98],[122,122,122,122,122,122,122,122,122],[122,122]],List.length (x:Str)≤9:=by decide
     exact this _ (Xg8 ⟨b3,by simp⟩).1
   · obtain⟨d1,d2,d3⟩:=X57 b3 (n:=300) (by omega)
     have m0:=h4 _ (X0S (d:=(([],[]):Ser)) (l:=out) (i:=0) (by omega))
     rw[e0]
     refine⟨by omega,by omega,b3,by omega,by omega,by omega,by simp;omega,⟨⟨by simp;omega,fun x hx=>?_⟩,d3⟩⟩
     rcases List.mem_or_eq_of_mem_set hx with hx | hx
     · rcases List.mem_or_eq_of_mem_set hx with hx | hx
       · have:=h4 x hx;omega
       · rw[hx];simp only[List.length_nil];omega
     · rw[hx,X0P (by simp;omega)]
       simp only[List.getElem_set_self,List.length_append,List.length_cons,List.length_nil];omega
   · have m0:=h4 _ (X0S (d:=(([],[]):Ser)) (l:=out) (i:=0) (by omega))
     rw[e0,e1]
     have hd:(out.drop 1).length=out.length - 1:=List.length_drop
     refine⟨by omega,by omega,by omega,by omega,by omega,by omega,by omega,by omega,⟨Xk0 (by simp;omega) (Xa9 (fun x hx=>h4 x (List.mem_of_mem_drop hx)) m0),b3⟩⟩
 · exact⟨Xk0 (by simp only;omega) h4,q4⟩
theorem X1H.eq:EqS X4E Tryz.f162 [25] [X2b.e,X39.e,X1N.e,X1F.e] [1000036,1000037] (fun i x=>X1H.L i x) (fun i x=>X1H.F i x):=by intro i x;kernel_rfl
theorem X1H.ok:X0n Tryz.prog 162 X4E:=X2g X1H.eq Tryz.func162 rfl (by kernel_rfl) fun i x h hi hw=>X1H.pure i x h (hi rfl) hw
def X1H.e:GE:=⟨162,X4E,⟨_,Tryz.func162,rfl,rfl⟩,X1H.ok⟩
def X5O:Con:={io:=true,I:=(.pair T9q T0q),B:=.unit,A:=(.int .i64),shA:=[.one],R:=.str,shR:=[(false,1)],pre:=fun i a=>(X4x i a),post:=fun i a y=>(Xfr i a y)}
def X3r.F(i0:U7q)(a0:Int):Prop:=((X4x (i0.1,(i0.2.1,i0.2.2)) a0)∧∀r1,(XeP (i0.1,(i0.2.1,i0.2.2)) a0 r1)→((X21 r1.1)∧∀r2,(Eq r2 ((X0j r1.1),((),())))→((X4o (r1.2.1.1,(r1.2.1.2.1,r1.2.1.2.2)) 4)∧∀r3,(XcS (r1.2.1.1,(r1.2.1.2.1,r1.2.1.2.2)) 4 r3)→(X00 r3.1 ((XgF (r3.2.1.1,(r3.2.1.2.1,r3.2.1.2.2)) r2.1)∧∀r4,(Xb9 (r3.2.1.1,(r3.2.1.2.1,r3.2.1.2.2)) r2.1 r4)→(X00 (decide ((ln r4.1)>(4:Int))) ((X4o (r4.2.1.1,(r4.2.1.2.1,r4.2.1.2.2)) 2)∧∀r5,(XcS (r4.2.1.1,(r4.2.1.2.1,r4.2.1.2.2)) 2 r5)→(X00 r5.1 (0≤(wI ((ln r4.1) - (4:Int)))∧((wI ((ln r4.1) - (4:Int)))≤(ln r4.1)∧((Xj5 (List.take (tN (wI ((ln r4.1) - (4:Int)))) r4.1))∧∀r6,(Eq r6 ((XcT (List.take (tN (wI ((ln r4.1) - (4:Int)))) r4.1)),((),())))→((X6i r6.1 4)∧∀r7,(Eq r7 ((X0D r6.1 4),((),())))→(List.length (List.take (tN (wI ((ln r4.1) - (4:Int)))) r4.1)+List.length r7.1≤9223372036854775807∧(Xfr i0 a0 (((List.take (tN (wI ((ln r4.1) - (4:Int)))) r4.1)++r7.1),((r5.2.1.1,(r5.2.1.2.1,r5.2.1.2.2)),())))))))) (Xfr i0 a0 (r4.1,((r5.2.1.1,(r5.2.1.2.1,r5.2.1.2.2)),()))))) (Xfr i0 a0 (r4.1,((r4.2.1.1,(r4.2.1.2.1,r4.2.1.2.2)),()))))) (Xfr i0 a0 (r2.1,((r3.2.1.1,(r3.2.1.2.1,r3.2.1.2.2)),())))))))
theorem X3r.pure(i0:U7q)(a0:Int)(h:(X4x i0 a0))(hi:Wf X5O.I i0)(hw:Wf X5O.A a0):X3r.F i0 a0:=by
 delta X3r.F ln tN wI
 simp only[Bs,B0,B1,Prod.mk.injEq,X01,Prod.eta]
 refine⟨h,fun r1 q1=>⟨fun x hx=>by have:=(q1.1.2 x hx).1;unfold maxLen;omega,q1.2,fun r3 q3=>?_⟩⟩
 have hf:=Xe9 r1.1
 refine⟨fun ht=>⟨⟨q3,by omega⟩,fun r4 q4=>⟨fun h4=>⟨q4.2,fun r5 q5=>⟨fun h5=>?_,fun h5=>⟨by have:=q4.1;simp only;omega,q5⟩⟩⟩,fun h4=>⟨by have:=q4.1;simp only;omega,q4.2⟩⟩⟩,fun ht=>⟨by simp only;omega,q3⟩⟩
 have k4:=q4.1
 rw[w64 (x:=(r4.1.length:Int) - 4) (by omega) (by omega)]
 have hx:=X2z (XcT (r4.1.take ((r4.1.length:Int) - 4).toNat)) 4
 have ht:(r4.1.take ((r4.1.length:Int) - 4).toNat).length≤r4.1.length:=by rw[List.length_take];omega
 have hc:=XbZ (r4.1.take ((r4.1.length:Int) - 4).toNat)
 refine⟨by omega,by omega,(by unfold Xj5 maxLen;omega),(by unfold X6i;omega),by omega,⟨?_,q5⟩⟩
 simp only[List.length_append];omega
theorem X3r.eq:EqS X5O Tryz.f163 [9] [X2b.e,X0R.e,X1H.e,X2G.e,X2L.e,X46.e] [] noL (fun i x=>X3r.F i x):=by intro i x;kernel_rfl
theorem X3r.ok:X0n Tryz.prog 163 X5O:=X2g X3r.eq Tryz.func163 rfl (by kernel_rfl) fun i x h hi hw=>X3r.pure i x h (hi rfl) hw
def X3r.e:GE:=⟨163,X5O,⟨_,Tryz.func163,rfl,rfl⟩,X3r.ok⟩
structure XqM (a:Eng) (t i f:Int) (c:List Ser) (z0:Int) (z2:List Str) (out:List Ser) (g:List Str) (z1:List Ser):Prop where
 ec:c=a.2.1
 eg:g=a.2.2
 I:raI a.2.1 t i out
def Xrb(a:Eng)(t i f:Int)(c:List Ser)(z0:Int)(z2:List Str)(out:List Ser)(g:List Str)(z1:List Ser):Nat:=raM a.2.1 t i out
def X5h:Con:={A:=(.pair T4q (.int .i64)),shA:=[.agg 3,.one],ownA:=[(2,9)],R:=T4q,shR:=[(true,3)],fresh:=[(2,9)],pre:=fun _ a=>(Xgd a.1 a.2),f:=some fun _ a=>((X4v a.1 a.2),((),()))}
def X1v.F(a0:U3q)(a1:Int):Prop:=(X00 (decide (a1≤a0.1)) (Eq ((a0.1,(a0.2.1,a0.2.2)),((),())) ((X4v a0 a1),((),()))) (X00 (decide (a1>(1099511627776:Int))) (Eq ((a0.1,(a0.2.1,a0.2.2)),((),())) ((X4v a0 a1),((),()))) (eS [(1,.val false [.int .i64 a1]),(2,.box 3 0),(4,.box 5 0)] [(1,.val false [.int .i64 a1]),(2,.box 3 0),(4,.box 5 0)]∧((XqM a0 a1 0 a0.1 a0.2.1 0 ([]:List U5q) ([]:List U1q) a0.2.2 ([]:List U1q))∧∀(y1:(Int×(Int×((List U1q)×(Int×((List U5q)×((List U1q)×((List U5q)×(List U1q))))))))),(XqM a0 a1 y1.1 y1.2.1 y1.2.2.1 y1.2.2.2.1 y1.2.2.2.2.1 y1.2.2.2.2.2.1 y1.2.2.2.2.2.2.1 y1.2.2.2.2.2.2.2)→(X00 (decide (y1.1<(ln y1.2.2.1))) (0≤y1.1∧(y1.1<(ln y1.2.2.1)∧((X67 ((List.getD y1.2.2.1 (tN y1.1) ([],[])).2) a1 1099511627777)∧∀r2,(Eq r2 ((X0Z ((List.getD y1.2.2.1 (tN y1.1) ([],[])).2) a1 1099511627777),((),())))→(X00 (decide ((ln r2.1)>(0:Int))) (0≤y1.1∧(y1.1<(ln y1.2.2.1)∧(List.length y1.2.2.2.2.2.1+List.length ([((List.getD y1.2.2.1 (tN y1.1) ([],[])).1,r2.1)]:List U1q)≤9223372036854775807∧((List.length y1.2.2.2.2.2.1+List.length ([((List.getD y1.2.2.1 (tN y1.1) ([],[])).1,r2.1)]:List U1q))*40≤140737488355328∧(eS [(1,.val false [.int .i64 a1]),(2,.box 3 0),(4,.box 5 0)] [(1,.val false [.int .i64 a1]),(2,.box 3 0),(4,.box 5 0)]∧(XqM a0 a1 (wI (y1.1+(1:Int))) y1.2.1 y1.2.2.1 y1.2.2.2.1 y1.2.2.2.2.1 (y1.2.2.2.2.2.1++[((List.getD y1.2.2.1 (tN y1.1) ([],[])).1,r2.1)]) y1.2.2.2.2.2.2.1 y1.2.2.2.2.2.2.2)∧(Xrb a0 a1 (wI (y1.1+(1:Int))) y1.2.1 y1.2.2.1 y1.2.2.2.1 y1.2.2.2.2.1 (y1.2.2.2.2.2.1++[((List.getD y1.2.2.1 (tN y1.1) ([],[])).1,r2.1)]) y1.2.2.2.2.2.2.1 y1.2.2.2.2.2.2.2)<(Xrb a0 a1 y1.1 y1.2.1 y1.2.2.1 y1.2.2.2.1 y1.2.2.2.2.1 y1.2.2.2.2.2.1 y1.2.2.2.2.2.2.1 y1.2.2.2.2.2.2.2)))))) (eS [(1,.val false [.int .i64 a1]),(2,.box 3 0),(4,.box 5 0)] [(1,.val false [.int .i64 a1]),(2,.box 3 0),(4,.box 5 0)]∧(XqM a0 a1 (wI (y1.1+(1:Int))) y1.2.1 y1.2.2.1 y1.2.2.2.1 y1.2.2.2.2.1 y1.2.2.2.2.2.1 y1.2.2.2.2.2.2.1 y1.2.2.2.2.2.2.2)∧(Xrb a0 a1 (wI (y1.1+(1:Int))) y1.2.1 y1.2.2.1 y1.2.2.2.1 y1.2.2.2.2.1 y1.2.2.2.2.2.1 y1.2.2.2.2.2.2.1 y1.2.2.2.2.2.2.2)<(Xrb a0 a1 y1.1 y1.2.1 y1.2.2.1 y1.2.2.2.1 y1.2.2.2.2.1 y1.2.2.2.2.2.1 y1.2.2.2.2.2.2.1 y1.2.2.2.2.2.2.2)))))) (Eq ((a1,(y1.2.2.2.2.2.1,y1.2.2.2.2.2.2.1)),((),())) ((X4v a0 a1),((),()))))))))
def X1v.L(a0:U3q)(a1:Int):Nat→Option X0c:=fun p=>Go.Proofs.YtcfaphojdacmbaaGreatR.Bv.look p [(122,{kp:={hold:=[1,2,4],slots:=[5,6],boxes:=[3,5],rows:=[{bx:=false,s:=5,i:=0,k:=1000643,e:=83,hot:=true},{bx:=true,s:=3,i:=2,k:=13800391,e:=9,hot:=true},{bx:=true,s:=5,i:=1,k:=13800645,e:=83,hot:=true}]},T:=(.pair (.int .i64) (.pair (.int .i64) (.pair T8q (.pair (.int .i64) (.pair (.list .str) (.pair T8q (.pair (.list .str) T8q))))))),I:=fun st y=>XqM a0 a1 y.1 y.2.1 y.2.2.1 y.2.2.2.1 y.2.2.2.2.1 y.2.2.2.2.2.1 y.2.2.2.2.2.2.1 y.2.2.2.2.2.2.2,μ:=fun st y=>Xrb a0 a1 y.1 y.2.1 y.2.2.1 y.2.2.2.1 y.2.2.2.2.1 y.2.2.2.2.2.1 y.2.2.2.2.2.2.1 y.2.2.2.2.2.2.2})]
theorem X1v.pure(a0:U3q)(a1:Int)(h:(Xgd a0 a1))(hw:Wf X5h.A (a0,a1)):X1v.F a0 a1:=by
 delta X1v.F ln tN wI eS
 simp only[Bs,B0,B1,Prod.mk.injEq,X01,X67,Prod.eta]
 have hn:tot a0.2.1≤100000000:=h
 have k1:=X6X a0.2.1
 refine⟨fun h1=>?_,fun h1=>⟨fun h2=>?_,fun h2=>⟨⟨rfl,rfl,by omega,by omega,by simp[X0s],by simp⟩,?_⟩⟩⟩
 · unfold X4v;rw[if_neg (by omega)]
 · unfold X4v;rw[if_neg (by omega)]
 rintro⟨i,f,c,z0,z2,out,g,z1⟩ ⟨ec,eg,hI⟩
 simp only at ec eg hI ⊢
 subst ec eg
 have q1:=hI.h1
 have q2:=hI.h2
 have q4:=hI.h4
 refine⟨fun hi=>?_,fun hi=>?_⟩
 · have dn:∀o,raM a0.2.1 a1 (i+1) o<raM a0.2.1 a1 i out:=fun o=>by unfold raM;omega
   rw[w64 (x:=i+1) (by omega) (by omega)]
   have k2:=XaI (X0S (d:=(([]:List UInt8),([]:List Pt))) (by omega:i.toNat<a0.2.1.length))
   refine⟨q1,hi,by omega,fun h6=>⟨q1,hi,by omega,by omega,⟨rfl,rfl,Xow hI hi (by omega)⟩,dn _⟩,fun h6=>⟨⟨rfl,rfl,Xrg hI hi (by omega)⟩,dn _⟩⟩
 · unfold X4v;rw[if_pos (by omega),Xoq hI hi]
theorem X1v.eq:EqS X5h Tryz.f125 [28] [X1O.e] [] (fun i x=>X1v.L x.1 x.2) (fun i x=>X1v.F x.1 x.2):=by intro i x;kernel_rfl
theorem X1v.ok:X0n Tryz.prog 125 X5h:=X2g X1v.eq Tryz.func125 rfl (by kernel_rfl) fun i x h hi hw=>X1v.pure x.1 x.2 h hw
def X1v.e:GE:=⟨125,X5h,⟨_,Tryz.func125,rfl,rfl⟩,X1v.ok⟩
def X4c:Con:={io:=true,I:=(.pair T9q T0q),B:=.unit,A:=(.int .i64),shA:=[.one],R:=T4q,shR:=[(true,3)],fresh:=[(1,83),(2,9)],pre:=fun i a=>(X4x i a),post:=fun i a y=>(Xp3 i a y)}
def X1y.F(i0:U7q)(a0:Int):Prop:=((X71 (i0.1,(i0.2.1,i0.2.2)) a0)∧∀r1,(Eq r1 ((X0X (i0.1,(i0.2.1,i0.2.2)) a0).1,((X0X (i0.1,(i0.2.1,i0.2.2)) a0).2,())))→(eS [(0,.box 0 0),(4,.box 5 0),(5,.box 6 0)] [(0,.box 0 0),(4,.box 5 0),(5,.box 6 0)]∧((edI i0 a0 r1.1 r1.2.1.1 r1.2.1.2.1 r1.2.1.2.2 0 ([]:List U1q) ([]:List U5q) 0 ([]:List U1q) ([]:List U5q))∧∀(y2:(Int×((List Int)×(Int×(Int×(Int×((List U1q)×((List U5q)×U3q)))))))),(edI i0 a0 y2.1 y2.2.1 y2.2.2.1 y2.2.2.2.1 y2.2.2.2.2.1 y2.2.2.2.2.2.1 y2.2.2.2.2.2.2.1 y2.2.2.2.2.2.2.2.1 y2.2.2.2.2.2.2.2.2.1 y2.2.2.2.2.2.2.2.2.2)→(X00 (decide (y2.1>(0:Int))) ((X71 (y2.2.1,(y2.2.2.1,y2.2.2.2.1)) 8)∧∀r3,(Eq r3 ((X0X (y2.2.1,(y2.2.2.1,y2.2.2.2.1)) 8).1,((X0X (y2.2.1,(y2.2.2.1,y2.2.2.2.1)) 8).2,())))→(X00 (r3.1==(0:Int)) ((pFl (y2.2.2.2.2.2.2.2.1,(y2.2.2.2.2.2.2.2.2.1,y2.2.2.2.2.2.2.2.2.2)))∧∀r4,(Eq r4 ((fFl (y2.2.2.2.2.2.2.2.1,(y2.2.2.2.2.2.2.2.2.1,y2.2.2.2.2.2.2.2.2.2))),((),())))→(eS [(0,.box 0 0),(4,.box 5 0),(5,.box 6 0)] [(0,.box 0 0),(4,.box 5 0),(5,.box 6 0)]∧(edI i0 a0 (wI (y2.1 - (1:Int))) r3.2.1.1 r3.2.1.2.1 r3.2.1.2.2 y2.2.2.2.2.1 y2.2.2.2.2.2.1 y2.2.2.2.2.2.2.1 r4.1.1 r4.1.2.1 r4.1.2.2)∧(edM i0 a0 (wI (y2.1 - (1:Int))) r3.2.1.1 r3.2.1.2.1 r3.2.1.2.2 y2.2.2.2.2.1 y2.2.2.2.2.2.1 y2.2.2.2.2.2.2.1 r4.1.1 r4.1.2.1 r4.1.2.2)<(edM i0 a0 y2.1 y2.2.1 y2.2.2.1 y2.2.2.2.1 y2.2.2.2.2.1 y2.2.2.2.2.2.1 y2.2.2.2.2.2.2.1 y2.2.2.2.2.2.2.2.1 y2.2.2.2.2.2.2.2.2.1 y2.2.2.2.2.2.2.2.2.2))) (X00 (r3.1==(1:Int)) ((X4o (r3.2.1.1,(r3.2.1.2.1,r3.2.1.2.2)) 3)∧∀r5,(XcS (r3.2.1.1,(r3.2.1.2.1,r3.2.1.2.2)) 3 r5)→(X00 r5.1 ((pFl (y2.2.2.2.2.2.2.2.1,(y2.2.2.2.2.2.2.2.2.1,y2.2.2.2.2.2.2.2.2.2)))∧∀r6,(Eq r6 ((fFl (y2.2.2.2.2.2.2.2.1,(y2.2.2.2.2.2.2.2.2.1,y2.2.2.2.2.2.2.2.2.2))),((),())))→((Xrc (r6.1.1,(r6.1.2.1,r6.1.2.2)))∧∀r7,(Eq r7 ((X72 (r6.1.1,(r6.1.2.1,r6.1.2.2))),((),())))→(eS [(0,.box 0 0),(4,.box 5 0),(5,.box 6 0)] [(0,.box 0 0),(4,.box 5 0),(5,.box 6 0)]∧(edI i0 a0 (wI (y2.1 - (1:Int))) r5.2.1.1 r5.2.1.2.1 r5.2.1.2.2 y2.2.2.2.2.1 y2.2.2.2.2.2.1 y2.2.2.2.2.2.2.1 r7.1.1 r7.1.2.1 r7.1.2.2)∧(edM i0 a0 (wI (y2.1 - (1:Int))) r5.2.1.1 r5.2.1.2.1 r5.2.1.2.2 y2.2.2.2.2.1 y2.2.2.2.2.2.1 y2.2.2.2.2.2.2.1 r7.1.1 r7.1.2.1 r7.1.2.2)<(edM i0 a0 y2.1 y2.2.1 y2.2.2.1 y2.2.2.2.1 y2.2.2.2.2.1 y2.2.2.2.2.2.1 y2.2.2.2.2.2.2.1 y2.2.2.2.2.2.2.2.1 y2.2.2.2.2.2.2.2.2.1 y2.2.2.2.2.2.2.2.2.2)))) (eS [(0,.box 0 0),(4,.box 5 0),(5,.box 6 0)] [(0,.box 0 0),(4,.box 5 0),(5,.box 6 0)]∧(edI i0 a0 (wI (y2.1 - (1:Int))) r5.2.1.1 r5.2.1.2.1 r5.2.1.2.2 y2.2.2.2.2.1 y2.2.2.2.2.2.1 y2.2.2.2.2.2.2.1 y2.2.2.2.2.2.2.2.1 y2.2.2.2.2.2.2.2.2.1 y2.2.2.2.2.2.2.2.2.2)∧(edM i0 a0 (wI (y2.1 - (1:Int))) r5.2.1.1 r5.2.1.2.1 r5.2.1.2.2 y2.2.2.2.2.1 y2.2.2.2.2.2.1 y2.2.2.2.2.2.2.1 y2.2.2.2.2.2.2.2.1 y2.2.2.2.2.2.2.2.2.1 y2.2.2.2.2.2.2.2.2.2)<(edM i0 a0 y2.1 y2.2.1 y2.2.2.1 y2.2.2.2.1 y2.2.2.2.2.1 y2.2.2.2.2.2.1 y2.2.2.2.2.2.2.1 y2.2.2.2.2.2.2.2.1 y2.2.2.2.2.2.2.2.2.1 y2.2.2.2.2.2.2.2.2.2)))) (X00 (r3.1==(2:Int)) ((X4o (r3.2.1.1,(r3.2.1.2.1,r3.2.1.2.2)) 3)∧∀r8,(XcS (r3.2.1.1,(r3.2.1.2.1,r3.2.1.2.2)) 3 r8)→(X00 r8.1 ((X71 (r8.2.1.1,(r8.2.1.2.1,r8.2.1.2.2)) 60)∧∀r9,(Eq r9 ((X0X (r8.2.1.1,(r8.2.1.2.1,r8.2.1.2.2)) 60).1,((X0X (r8.2.1.1,(r8.2.1.2.1,r8.2.1.2.2)) 60).2,())))→((Xgd (y2.2.2.2.2.2.2.2.1,(y2.2.2.2.2.2.2.2.2.1,y2.2.2.2.2.2.2.2.2.2)) (wI (y2.2.2.2.2.2.2.2.1+r9.1)))∧∀r10,(Eq r10 ((X4v (y2.2.2.2.2.2.2.2.1,(y2.2.2.2.2.2.2.2.2.1,y2.2.2.2.2.2.2.2.2.2)) (wI (y2.2.2.2.2.2.2.2.1+r9.1))),((),())))→(eS [(0,.box 0 0),(4,.box 5 0),(5,.box 6 0)] [(0,.box 0 0),(4,.box 5 0),(5,.box 6 0)]∧(edI i0 a0 (wI (y2.1 - (1:Int))) r9.2.1.1 r9.2.1.2.1 r9.2.1.2.2 y2.2.2.2.2.1 y2.2.2.2.2.2.1 y2.2.2.2.2.2.2.1 r10.1.1 r10.1.2.1 r10.1.2.2)∧(edM i0 a0 (wI (y2.1 - (1:Int))) r9.2.1.1 r9.2.1.2.1 r9.2.1.2.2 y2.2.2.2.2.1 y2.2.2.2.2.2.1 y2.2.2.2.2.2.2.1 r10.1.1 r10.1.2.1 r10.1.2.2)<(edM i0 a0 y2.1 y2.2.1 y2.2.2.1 y2.2.2.2.1 y2.2.2.2.2.1 y2.2.2.2.2.2.1 y2.2.2.2.2.2.2.1 y2.2.2.2.2.2.2.2.1 y2.2.2.2.2.2.2.2.2.1 y2.2.2.2.2.2.2.2.2.2)))) (eS [(0,.box 0 0),(4,.box 5 0),(5,.box 6 0)] [(0,.box 0 0),(4,.box 5 0),(5,.box 6 0)]∧(edI i0 a0 (wI (y2.1 - (1:Int))) r8.2.1.1 r8.2.1.2.1 r8.2.1.2.2 y2.2.2.2.2.1 y2.2.2.2.2.2.1 y2.2.2.2.2.2.2.1 y2.2.2.2.2.2.2.2.1 y2.2.2.2.2.2.2.2.2.1 y2.2.2.2.2.2.2.2.2.2)∧(edM i0 a0 (wI (y2.1 - (1:Int))) r8.2.1.1 r8.2.1.2.1 r8.2.1.2.2 y2.2.2.2.2.1 y2.2.2.2.2.2.1 y2.2.2.2.2.2.2.1 y2.2.2.2.2.2.2.2.1 y2.2.2.2.2.2.2.2.2.1 y2.2.2.2.2.2.2.2.2.2)<(edM i0 a0 y2.1 y2.2.1 y2.2.2.1 y2.2.2.2.1 y2.2.2.2.2.1 y2.2.2.2.2.2.1 y2.2.2.2.2.2.2.1 y2.2.2.2.2.2.2.2.1 y2.2.2.2.2.2.2.2.2.1 y2.2.2.2.2.2.2.2.2.2)))) ((X4J (r3.2.1.1,(r3.2.1.2.1,r3.2.1.2.2)))∧∀r11,(Eq r11 ((Xco (r3.2.1.1,(r3.2.1.2.1,r3.2.1.2.2))).1,((Xco (r3.2.1.1,(r3.2.1.2.1,r3.2.1.2.2))).2,())))→((X4x (r11.2.1.1,(r11.2.1.2.1,r11.2.1.2.2)) 9)∧∀r12,(X9U (r11.2.1.1,(r11.2.1.2.1,r11.2.1.2.2)) 9 r12)→((XpT (y2.2.2.2.2.2.2.2.1,(y2.2.2.2.2.2.2.2.2.1,y2.2.2.2.2.2.2.2.2.2)) r11.1 r12.1)∧∀r13,(Eq r13 ((Xf1 (y2.2.2.2.2.2.2.2.1,(y2.2.2.2.2.2.2.2.2.1,y2.2.2.2.2.2.2.2.2.2)) r11.1 r12.1),((),())))→(eS [(0,.box 0 0),(4,.box 5 0),(5,.box 6 0)] [(0,.box 0 0),(4,.box 5 0),(5,.box 6 0)]∧(edI i0 a0 (wI (y2.1 - (1:Int))) r12.2.1.1 r12.2.1.2.1 r12.2.1.2.2 y2.2.2.2.2.1 y2.2.2.2.2.2.1 y2.2.2.2.2.2.2.1 r13.1.1.1 r13.1.1.2.1 r13.1.1.2.2)∧(edM i0 a0 (wI (y2.1 - (1:Int))) r12.2.1.1 r12.2.1.2.1 r12.2.1.2.2 y2.2.2.2.2.1 y2.2.2.2.2.2.1 y2.2.2.2.2.2.2.1 r13.1.1.1 r13.1.1.2.1 r13.1.1.2.2)<(edM i0 a0 y2.1 y2.2.1 y2.2.2.1 y2.2.2.2.1 y2.2.2.2.2.1 y2.2.2.2.2.2.1 y2.2.2.2.2.2.2.1 y2.2.2.2.2.2.2.2.1 y2.2.2.2.2.2.2.2.2.1 y2.2.2.2.2.2.2.2.2.2))))))))) ((XmA (y2.2.2.2.2.2.2.2.1,(y2.2.2.2.2.2.2.2.2.1,y2.2.2.2.2.2.2.2.2.2)))∧∀r14,(Eq r14 ((XkQ (y2.2.2.2.2.2.2.2.1,(y2.2.2.2.2.2.2.2.2.1,y2.2.2.2.2.2.2.2.2.2))),((),())))→(Xp3 i0 a0 ((r14.1.1,(r14.1.2.1,r14.1.2.2)),((y2.2.1,(y2.2.2.1,y2.2.2.2.1)),()))))))))
def X1y.L(i0:U7q)(a0:Int):Nat→Option X0c:=fun p=>Go.Proofs.YtcfaphojdacmbaaGreatR.Bv.look p [(58,{kp:={hold:=[0,4,5],slots:=[6],boxes:=[0,5,6],rows:=[{bx:=true,s:=6,i:=2,k:=13800775,e:=9,hot:=true}]},T:=(.pair (.int .i64) (.pair T9q (.pair (.int .i64) (.pair (.int .i64) (.pair (.int .i64) (.pair T8q (.pair (.list .str) T4q))))))),I:=fun st y=>edI i0 a0 y.1 y.2.1 y.2.2.1 y.2.2.2.1 y.2.2.2.2.1 y.2.2.2.2.2.1 y.2.2.2.2.2.2.1 y.2.2.2.2.2.2.2.1 y.2.2.2.2.2.2.2.2.1 y.2.2.2.2.2.2.2.2.2,μ:=fun st y=>edM i0 a0 y.1 y.2.1 y.2.2.1 y.2.2.2.1 y.2.2.2.2.1 y.2.2.2.2.2.1 y.2.2.2.2.2.2.1 y.2.2.2.2.2.2.2.1 y.2.2.2.2.2.2.2.2.1 y.2.2.2.2.2.2.2.2.2})]
theorem X1y.pure(i0:U7q)(a0:Int)(h:(X4x i0 a0))(hi:Wf X4c.I i0)(hw:Wf X4c.A a0):X1y.F i0 a0:=by
 delta X1y.F wI eS
 simp only[Bs,B0,B1,Prod.mk.injEq,X01,Prod.eta]
 obtain⟨hc,hm⟩:=h
 obtain⟨b1,b2,b3⟩:=Xkz hc a0
 refine⟨hc,⟨b3,b1,by omega,by decide,⟨by simp[X21],by simp⟩⟩,?_⟩
 rintro⟨n,b,k,h,z0,z1,z2,f,ca,g⟩ ⟨cu,h1,h2,ok,pe⟩
 simp only at cu h1 h2 ok pe ⊢
 have G:=X6W ok pe
 have nx:∀{c1:Cur} {e1:Eng},n>0→X4J c1→X0L e1=true∧X55 e1→edI i0 a0 (n - 1) c1.1 c1.2.1 c1.2.2 z0 z1 z2 e1.1 e1.2.1 e1.2.2∧edM i0 a0 (n - 1) c1.1 c1.2.1 c1.2.2 z0 z1 z2 e1.1 e1.2.1 e1.2.2<edM i0 a0 n b k h z0 z1 z2 f ca g:=fun hn hc he=>⟨⟨hc,by omega,by omega,he.1,he.2⟩,by unfold edM;omega⟩
 refine⟨fun hi=>?_,fun hi=>?_⟩
 · obtain⟨d1,d2,d3⟩:=X57 cu (n:=8) (by omega)
   rw[w64 (x:=n - 1) (by omega) (by omega)]
   obtain⟨f1,f2,f3⟩:=XqN ok pe
   refine⟨cu,fun hz=>⟨G,nx hi d3 f1⟩,fun hz=>⟨fun hz1=>⟨d3,fun r5 q5=>⟨fun ht=>⟨G,(X6W f1.1 f1.2).mono (by omega),nx hi q5 (XoK f1.1 f1.2 f2).1⟩,fun ht=>nx (e1:=(f,(ca,g))) hi q5 ⟨ok,pe⟩⟩⟩,fun hz1=>⟨fun hz2=>⟨d3,fun r8 q8=>⟨fun ht=>?_,fun ht=>nx (e1:=(f,(ca,g))) hi q8 ⟨ok,pe⟩⟩⟩,fun hz2=>⟨d3,⟨(XjQ d3).2,by omega⟩,fun r12 q12=>⟨⟨ok,pe,by have:=(XjQ d3).1;unfold Xiy maxLen;omega⟩,nx hi q12.2 (Xqd ok pe _ r12.1).1⟩⟩⟩⟩⟩
   obtain⟨t1,t2,t3⟩:=X57 q8 (n:=60) (by omega)
   have hs:=X1t G.ca
   exact⟨q8,by unfold Xgd;simp only at hs ⊢;omega,nx hi t3 (XjH ok pe _).1⟩
 · have hs:=X1t G.ca
   have hl:=G.le
   exact⟨⟨by simp only at hs ⊢;omega,by simp only at hl ⊢;omega⟩,⟨ok,pe⟩,cu⟩
theorem X1y.eq:EqS X4c Tryz.f161 [28] [X3s.e,X2b.e,X1N.e,X1F.e,X3n.e,X2k.e,X1v.e,X27.e,X38.e] [] (fun i x=>X1y.L i x) (fun i x=>X1y.F i x):=by intro i x;kernel_rfl
theorem X1y.ok:X0n Tryz.prog 161 X4c:=X2g X1y.eq Tryz.func161 rfl (by kernel_rfl) fun i x h hi hw=>X1y.pure i x h (hi rfl) hw
def X1y.e:GE:=⟨161,X4c,⟨_,Tryz.func161,rfl,rfl⟩,X1y.ok⟩
def X6b:Con:={io:=true,I:=(.pair T9q T0q),B:=.unit,A:=(.int .i64),shA:=[.one],R:=T4q,shR:=[(true,3)],pre:=fun i a=>(X4x i a),post:=fun i a y=>(XeF i a y)}
def X2M.F(i0:U7q)(a0:Int):Prop:=((X4x (i0.1,(i0.2.1,i0.2.2)) a0)∧∀r1,(Xp3 (i0.1,(i0.2.1,i0.2.2)) a0 r1)→((X4o (r1.2.1.1,(r1.2.1.2.1,r1.2.1.2.2)) 10)∧∀r2,(XcS (r1.2.1.1,(r1.2.1.2.1,r1.2.1.2.2)) 10 r2)→(X00 (!r2.1) (XeF i0 a0 ((r1.1.1,(r1.1.2.1,r1.1.2.2)),((r2.2.1.1,(r2.2.1.2.1,r2.2.1.2.2)),()))) ((X4o (r2.2.1.1,(r2.2.1.2.1,r2.2.1.2.2)) 5)∧∀r3,(X75 (r2.2.1.1,(r2.2.1.2.1,r2.2.1.2.2)) 5 r3)→(X00 (r3.1==(0:Int)) ((Xfv (r3.2.1.1,(r3.2.1.2.1,r3.2.1.2.2)) [(-1),0,200,1099511627776,1099511627777])∧∀r4,(XfG (r3.2.1.1,(r3.2.1.2.1,r3.2.1.2.2)) [(-1),0,200,1099511627776,1099511627777] r4)→(XeF i0 a0 ((r4.1,(r1.1.2.1,r1.1.2.2)),((r4.2.1.1,(r4.2.1.2.1,r4.2.1.2.2)),())))) (X00 (r3.1==(1:Int)) ((X4x (r3.2.1.1,(r3.2.1.2.1,r3.2.1.2.2)) 12)∧∀r5,(XeP (r3.2.1.1,(r3.2.1.2.1,r3.2.1.2.2)) 12 r5)→(XeF i0 a0 ((r1.1.1,(r5.1,r1.1.2.2)),((r5.2.1.1,(r5.2.1.2.1,r5.2.1.2.2)),())))) (X00 (r3.1==(2:Int)) ((X4x (r3.2.1.1,(r3.2.1.2.1,r3.2.1.2.2)) 4)∧∀r6,(Xfr (r3.2.1.1,(r3.2.1.2.1,r3.2.1.2.2)) 4 r6)→(List.length r1.1.2.2+List.length [r6.1]≤9223372036854775807∧((List.length r1.1.2.2+List.length [r6.1])*16≤140737488355328∧(XeF i0 a0 ((r1.1.1,(r1.1.2.1,(r1.1.2.2++[r6.1]))),((r6.2.1.1,(r6.2.1.2.1,r6.2.1.2.2)),())))))) (X00 (r3.1==(3:Int)) (eS [(0,.box 0 0),(4,.box 5 0),(5,.box 6 0)] [(0,.box 0 0),(4,.box 5 0),(5,.box 6 0)]∧((adI i0 a0 0 r3.2.1.1 r3.2.1.2.1 r3.2.1.2.2 0 r1.1.1 ([]:List U1q) ([]:List U5q) r1.1.2.1 r1.1.2.2)∧∀(y7:(Int×((List Int)×(Int×(Int×(Int×(Int×((List U1q)×((List U5q)×((List U1q)×(List U5q))))))))))),(adI i0 a0 y7.1 y7.2.1 y7.2.2.1 y7.2.2.2.1 y7.2.2.2.2.1 y7.2.2.2.2.2.1 y7.2.2.2.2.2.2.1 y7.2.2.2.2.2.2.2.1 y7.2.2.2.2.2.2.2.2.1 y7.2.2.2.2.2.2.2.2.2)→(X00 (decide (y7.1<(5:Int))) ((X4x (y7.2.1,(y7.2.2.1,y7.2.2.2.1)) 3)∧∀r8,(X9U (y7.2.1,(y7.2.2.1,y7.2.2.2.1)) 3 r8)→((X21 [([97],r8.1)])∧∀r9,(Eq r9 ((X0j [([97],r8.1)]),((),())))→(List.length y7.2.2.2.2.2.2.2.2.2+List.length [r9.1]≤9223372036854775807∧((List.length y7.2.2.2.2.2.2.2.2.2+List.length [r9.1])*16≤140737488355328∧(eS [(0,.box 0 0),(4,.box 5 0),(5,.box 6 0)] [(0,.box 0 0),(4,.box 5 0),(5,.box 6 0)]∧(adI i0 a0 (wI (y7.1+(1:Int))) r8.2.1.1 r8.2.1.2.1 r8.2.1.2.2 y7.2.2.2.2.1 y7.2.2.2.2.2.1 y7.2.2.2.2.2.2.1 y7.2.2.2.2.2.2.2.1 y7.2.2.2.2.2.2.2.2.1 (y7.2.2.2.2.2.2.2.2.2++[r9.1]))∧(adM i0 a0 (wI (y7.1+(1:Int))) r8.2.1.1 r8.2.1.2.1 r8.2.1.2.2 y7.2.2.2.2.1 y7.2.2.2.2.2.1 y7.2.2.2.2.2.2.1 y7.2.2.2.2.2.2.2.1 y7.2.2.2.2.2.2.2.2.1 (y7.2.2.2.2.2.2.2.2.2++[r9.1]))<(adM i0 a0 y7.1 y7.2.1 y7.2.2.1 y7.2.2.2.1 y7.2.2.2.2.1 y7.2.2.2.2.2.1 y7.2.2.2.2.2.2.1 y7.2.2.2.2.2.2.2.1 y7.2.2.2.2.2.2.2.2.1 y7.2.2.2.2.2.2.2.2.2)))))) (XeF i0 a0 ((y7.2.2.2.2.2.1,(y7.2.2.2.2.2.2.2.2.1,y7.2.2.2.2.2.2.2.2.2)),((y7.2.1,(y7.2.2.1,y7.2.2.2.1)),())))))) (X00 (decide ((ln r1.1.2.2)>(0:Int))) (0≤(0:Int)∧((0:Int)<(ln r1.1.2.2)∧((XgF (r3.2.1.1,(r3.2.1.2.1,r3.2.1.2.2)) (List.getD r1.1.2.2 (tN (0:Int)) []))∧∀r10,(Xb9 (r3.2.1.1,(r3.2.1.2.1,r3.2.1.2.2)) (List.getD r1.1.2.2 (tN (0:Int)) []) r10)→(0≤(0:Int)∧((0:Int)<(ln r1.1.2.2)∧(XeF i0 a0 ((r1.1.1,(r1.1.2.1,(List.set r1.1.2.2 (tN (0:Int)) r10.1))),((r10.2.1.1,(r10.2.1.2.1,r10.2.1.2.2)),())))))))) (XeF i0 a0 ((r1.1.1,(r1.1.2.1,r1.1.2.2)),((r3.2.1.1,(r3.2.1.2.1,r3.2.1.2.2)),()))))))))))))
def X2M.L(i0:U7q)(a0:Int):Nat→Option X0c:=fun p=>Go.Proofs.YtcfaphojdacmbaaGreatR.Bv.look p [(125946,{kp:={hold:=[0,4,5],slots:=[6],boxes:=[0,5,6],rows:=[{bx:=true,s:=5,i:=1,k:=13800645,e:=83,hot:=true},{bx:=true,s:=5,i:=2,k:=13800647,e:=9,hot:=true},{bx:=true,s:=6,i:=1,k:=13800773,e:=83,hot:=true},{bx:=true,s:=6,i:=2,k:=13800775,e:=9,hot:=true}]},T:=(.pair (.int .i64) (.pair T9q (.pair (.int .i64) (.pair (.int .i64) (.pair (.int .i64) (.pair (.int .i64) (.pair T8q (.pair (.list .str) (.pair T8q (.list .str)))))))))),I:=fun st y=>adI i0 a0 y.1 y.2.1 y.2.2.1 y.2.2.2.1 y.2.2.2.2.1 y.2.2.2.2.2.1 y.2.2.2.2.2.2.1 y.2.2.2.2.2.2.2.1 y.2.2.2.2.2.2.2.2.1 y.2.2.2.2.2.2.2.2.2,μ:=fun st y=>adM i0 a0 y.1 y.2.1 y.2.2.1 y.2.2.2.1 y.2.2.2.2.1 y.2.2.2.2.2.1 y.2.2.2.2.2.2.1 y.2.2.2.2.2.2.2.1 y.2.2.2.2.2.2.2.2.1 y.2.2.2.2.2.2.2.2.2})]
theorem X2M.pure(i0:U7q)(a0:Int)(h:(X4x i0 a0))(hi:Wf X6b.I i0)(hw:Wf X6b.A a0):X2M.F i0 a0:=by
 delta X2M.F ln tN wI eS
 simp only[Bs,B0,B1,Prod.mk.injEq,X01,Prod.eta]
 have e0:(0:Int).toNat=0:=rfl
 rw[e0]
 refine⟨h,fun r1 q1=>⟨q1.2,fun r2 q2=>⟨fun hb=>⟨Xr4 q1.1.1 q1.1.2,q2⟩,fun hb=>⟨q2,fun r3 q3=>?_⟩⟩⟩⟩
 obtain⟨⟨ok,pe⟩,_⟩:=q1
 have q3':=q3.2.2
 have S:=Xr4 ok pe
 have G:=X6W ok pe
 have gl:=G.le
 have gf:=G.fl
 obtain⟨s1,s2,s3,s4,s5,s6⟩:=S
 have fl0:∀l:List Str,(∀x∈l,Xg7 x)→X55 (r1.1.1,(r1.1.2.1,l)):=fun l hl=>⟨pe.1,hl⟩
 refine⟨fun hz=>⟨⟨q3',by simp⟩,fun r4 q4=>?_⟩,fun hz=>⟨fun hz1=>⟨⟨q3',by omega⟩,fun r5 q5=>?_⟩,fun hz1=>⟨fun hz2=>⟨⟨q3',by omega⟩,fun r6 q6=>?_⟩,fun hz2=>⟨fun hz3=>⟨⟨q3',by omega,by omega,by omega,gf,⟨s4,s5⟩,pe⟩,?_⟩,fun hz3=>⟨fun ho=>?_,fun ho=>⟨⟨s1,s2,s3,s4,s5,s6⟩,q3'⟩⟩⟩⟩⟩⟩
 · have:∀x∈[(-1:Int),0,200,1099511627776,1099511627777],-1≤x∧x≤1099511627777:=by decide
   obtain⟨t1,t2⟩:=this _ q4.1
   exact⟨⟨t1,t2,s3,s4,s5,s6⟩,q4.2⟩
 · obtain⟨⟨m1,m2⟩,m3⟩:=q5
   have ht:=Xoz m2
   exact⟨⟨s1,s2,⟨fun x hx=>by have:=(m2 x hx).1;unfold maxLen;omega,s3.2⟩,by simp only;omega,by simp only;omega,s6⟩,m3⟩
 · have k6:=q6.1
   refine⟨by omega,by omega,⟨⟨s1,s2,fl0 _ (Xa9 s3.2 (by unfold Xg7 maxLen;omega)),s4,s5,by simp;omega⟩,q6.2⟩⟩
 · rintro⟨i,b,k,hh,z0,f,z1,z2,ca,g⟩ ⟨cu,h1,h2,h3,fl,cl,pe2⟩
   simp only at cu h1 h2 h3 fl cl pe2 ⊢
   refine⟨fun hi=>⟨⟨cu,by omega⟩,fun r8 q8=>⟨by simp[X21,maxLen],by omega,by omega,?_⟩⟩,fun hi=>⟨⟨by simp only;omega,by simp only;omega,pe2,cl.1,cl.2,by simp only;omega⟩,cu⟩⟩
   rw[w64 (x:=i+1) (by omega) (by omega)]
   have hf:=Xe9 [([97],r8.1)]
   exact⟨⟨q8.2,by omega,by omega,by simp;omega,fl,cl,⟨pe2.1,Xa9 pe2.2 (by unfold Xg7 maxLen;omega)⟩⟩,by unfold adM;omega⟩
 · have m0:=s3.2 _ (X0S (d:=([]:Str)) (l:=r1.1.2.2) (i:=0) (by omega))
   have o0:XlJ (r1.1.2.2.getD 0 [])=true:=by
    have:=G.ok
    unfold okF at this
    exact List.all_eq_true.1 this _ (X0S (by omega))
   have l0:(r1.1.2.2.getD 0 []).length≤20000:=by
    unfold XlJ at o0
    unfold X0e at o0
    split at o0
    · rename_i hr;rw[←hr.2];exact Xe9 _
    · cases o0
   refine⟨by omega,by omega,⟨q3',by omega⟩,fun r10 q10=>⟨by omega,by omega,⟨⟨s1,s2,fl0 _ fun x hx=>?_,s4,s5,by simp only[List.length_set];omega⟩,q10.2⟩⟩⟩
   rcases List.mem_or_eq_of_mem_set hx with hx | hx
   · exact s3.2 x hx
   · rw[hx];have:=q10.1;unfold Xg7 maxLen;omega
theorem X2M.eq:EqS X6b Tryz.f85 [28] [X2b.e,X1N.e,X1C.e,X1S.e,X0R.e,X1y.e,X1H.e,X3r.e,X2G.e] [] (fun i x=>X2M.L i x) (fun i x=>X2M.F i x):=by intro i x;kernel_rfl
theorem X2M.ok:X0n Tryz.prog 85 X6b:=X2g X2M.eq Tryz.func85 rfl (by kernel_rfl) fun i x h hi hw=>X2M.pure i x h (hi rfl) hw
def X2M.e:GE:=⟨85,X6b,⟨_,Tryz.func85,rfl,rfl⟩,X2M.ok⟩
theorem Xls{code:List Int}{y:Int×(Unit×Unit)}(h:Xhb code 25 y):y.1≤1000:=by have:y.1≤25:=h;omega
def dpI(code:List Int)(i z0:Int)(z1:List Ser)(z2:List Str)(b:List Int)(k h:Int)(p:List Pt):Prop:=X4J (b,k,h)∧0≤i∧i≤41∧p.length=i
def dpM(code:List Int)(i z0:Int)(z1:List Ser)(z2:List Str)(b:List Int)(k h:Int)(p:List Pt):Nat:=(41 - i).toNat
theorem Xr6{code:List Int}{y:Cur×(Unit×Unit)}(h:Xq6 code y):X4J y.1:=⟨by have:=h.2;omega,by have:=h.2;omega,h.1⟩
def X5f:Con:={I:=.unit,B:=.unit,A:=T9q,shA:=[.one],R:=(.pair T4q (.int .i64)),shR:=[(true,3),(false,1)],pre:=fun _ _=>True,post:=fun _ a y=>(XgH a y)}
def X24.F(a0:(List Int)):Prop:=(True∧∀r1,(Xq6 a0 r1)→((X4o (r1.1.1,(r1.1.2.1,r1.1.2.2)) 400)∧∀r2,(X75 (r1.1.1,(r1.1.2.1,r1.1.2.2)) 400 r2)→((X4o (r2.2.1.1,(r2.2.1.2.1,r2.2.1.2.2)) 10)∧∀r3,(XcS (r2.2.1.1,(r2.2.1.2.1,r2.2.1.2.2)) 10 r3)→(X00 r3.1 ((Xfv (r3.2.1.1,(r3.2.1.2.1,r3.2.1.2.2)) [(-1),1099511627776,1099511627777])∧∀r4,(XfG (r3.2.1.1,(r3.2.1.2.1,r3.2.1.2.2)) [(-1),1099511627776,1099511627777] r4)→(True∧∀r5,(Xhb a0 25 r5)→((X4x (r4.2.1.1,(r4.2.1.2.1,r4.2.1.2.2)) r5.1)∧∀r6,(XeF (r4.2.1.1,(r4.2.1.2.1,r4.2.1.2.2)) r5.1 r6)→(XgH a0 (((r6.1.1,(r6.1.2.1,r6.1.2.2)),r4.1),((),())))))) (True∧∀r7,(Xhb a0 25 r7)→((X4x (r3.2.1.1,(r3.2.1.2.1,r3.2.1.2.2)) r7.1)∧∀r8,(XeF (r3.2.1.1,(r3.2.1.2.1,r3.2.1.2.2)) r7.1 r8)→(XgH a0 (((r8.1.1,(r8.1.2.1,r8.1.2.2)),r2.1),((),())))))))))
theorem X24.pure(a0:(List Int))(h:True)(hw:Wf X5f.A a0):X24.F a0:=by
 unfold X24.F
 simp only[Bs,B0,B1,Prod.mk.injEq,X01,Prod.eta]
 refine fun r1 q1=>⟨Xr6 q1,fun r2 q2=>⟨q2.2.2,fun r3 q3=>⟨fun ht=>⟨⟨q3,by simp⟩,fun r4 q4 r5 q5=>⟨⟨q4.2,Xls q5⟩,fun r6 q6=>⟨q6.1,?_⟩⟩⟩,fun ht=>fun r7 q7=>⟨⟨q3,Xls q7⟩,fun r8 q8=>⟨q8.1,?_⟩⟩⟩⟩⟩
 · have:∀x∈[(-1:Int),1099511627776,1099511627777],-1≤x∧x≤1099511627777:=by decide
   exact this _ q4.1
 · have a:=q2.1
   have b:=q2.2.1
   simp only;omega
theorem X24.eq:EqS X5f Tryz.f42 [28,3] [X3k.e,X2b.e,X2M.e,X3p.e,X1C.e,X1S.e] [] noL (fun i x=>X24.F x):=by intro i x;kernel_rfl
theorem X24.ok:X0n Tryz.prog 42 X5f:=X2g X24.eq Tryz.func42 rfl (by kernel_rfl) fun i x h hi hw=>X24.pure x h hw
def X24.e:GE:=⟨42,X5f,⟨_,Tryz.func42,rfl,rfl⟩,X24.ok⟩
def Xoj.L(a0:(List Int)):Nat→Option X0c:=fun p=>Go.Proofs.YtcfaphojdacmbaaGreatR.Bv.look p [(16342,{kp:={hold:=[0,2,5,6],slots:=[7,8],boxes:=[3,11],rows:=[{bx:=false,s:=7,i:=0,k:=1000899,e:=85,hot:=true}]},T:=(.pair (.int .i64) (.pair (.int .i64) (.pair T8q (.pair (.list .str) (.pair T9q (.pair (.int .i64) XkR)))))),I:=fun st y=>dpI a0 y.1 y.2.1 y.2.2.1 y.2.2.2.1 y.2.2.2.2.1 y.2.2.2.2.2.1 y.2.2.2.2.2.2.1 y.2.2.2.2.2.2.2,μ:=fun st y=>dpM a0 y.1 y.2.1 y.2.2.1 y.2.2.2.1 y.2.2.2.2.1 y.2.2.2.2.2.1 y.2.2.2.2.2.2.1 y.2.2.2.2.2.2.2})]
end Go.Proofs.YtcfaphojdacmbaaGreatR.B
