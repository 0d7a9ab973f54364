/- Series and engines that are drawn. -/
import Derived.Test.YtcfaphojdacmbaaGreatRCDrawX
import Derived.Test.YtcfaphojdacmbaaGreatRCDEng0
import Derived.Test.YtcfaphojdacmbaaGreatRCFile
set_option maxRecDepth 100000
set_option linter.unusedVariables false
set_option linter.unusedSimpArgs false
namespace Go.Proofs.YtcfaphojdacmbaaGreatR.B
open Go Go.Proofs.YtcfaphojdacmbaaGreatR.Bv
def XgO(c:Cur)(s:List UInt8):Prop:=X4v c∧s.length≤100000
def X5p:Con:={io:=true,I:=Xgs,B:=.unit,A:=.str,shA:=[.one],R:=.str,shR:=[(false,1)],pre:=fun i a=>(XgO i a),post:=fun i a y=>(XbD i a y)}
def X2K.F(i0:U7q)(a0:U5q):Prop:=(X00 ((ln a0)==(0:Int)) ((XmC (i0.1,(i0.2.1,i0.2.2)) 3)∧∀r1,(XnW (i0.1,(i0.2.1,i0.2.2)) 3 r1)→(XbD i0 a0 (r1.1,((r1.2.1.1,(r1.2.1.2.1,r1.2.1.2.2)),())))) ((X7n (i0.1,(i0.2.1,i0.2.2)) (ln a0))∧∀r2,(Eq r2 ((X0V (i0.1,(i0.2.1,i0.2.2)) (ln a0)).1,((X0V (i0.1,(i0.2.1,i0.2.2)) (ln a0)).2,())))→((X7n (r2.2.1.1,(r2.2.1.2.1,r2.2.1.2.2)) 4)∧∀r3,(Eq r3 ((X0V (r2.2.1.1,(r2.2.1.2.1,r2.2.1.2.2)) 4).1,((X0V (r2.2.1.1,(r2.2.1.2.1,r2.2.1.2.2)) 4).2,())))→(X00 (r3.1==(0:Int)) (0≤r2.1∧(r2.1≤(ln a0)∧(0≤(wI (r2.1+(1:Int)))∧((wI (r2.1+(1:Int)))≤(ln a0)∧(List.length (List.take (tN r2.1) a0)+List.length (List.drop (tN (wI (r2.1+(1:Int)))) a0)≤9223372036854775807∧(XbD i0 a0 (((List.take (tN r2.1) a0)++(List.drop (tN (wI (r2.1+(1:Int)))) a0)),((r3.2.1.1,(r3.2.1.2.1,r3.2.1.2.2)),())))))))) (X00 (r3.1==(1:Int)) (0≤r2.1∧(r2.1≤(ln a0)∧((X4v (r3.2.1.1,(r3.2.1.2.1,r3.2.1.2.2)))∧∀r4,(Eq r4 ((X19 (r3.2.1.1,(r3.2.1.2.1,r3.2.1.2.2))).1,((X19 (r3.2.1.1,(r3.2.1.2.1,r3.2.1.2.2))).2,())))→(List.length (List.take (tN r2.1) a0)+List.length (List.map (fun n=>UInt8.ofNat (Int.toNat n)) [(IntKind.wrap .u8 r4.1)])≤9223372036854775807∧(0≤r2.1∧(r2.1≤(ln a0)∧(List.length ((List.take (tN r2.1) a0)++(List.map (fun n=>UInt8.ofNat (Int.toNat n)) [(IntKind.wrap .u8 r4.1)]))+List.length (List.drop (tN r2.1) a0)≤9223372036854775807∧(XbD i0 a0 ((((List.take (tN r2.1) a0)++(List.map (fun n=>UInt8.ofNat (Int.toNat n)) [(IntKind.wrap .u8 r4.1)]))++(List.drop (tN r2.1) a0)),((r4.2.1.1,(r4.2.1.2.1,r4.2.1.2.2)),())))))))))) (X00 (r3.1==(2:Int)) (0≤r2.1∧(r2.1≤(ln a0)∧(XbD i0 a0 ((List.take (tN r2.1) a0),((r3.2.1.1,(r3.2.1.2.1,r3.2.1.2.2)),()))))) (0≤r2.1∧(r2.1≤(ln a0)∧(0≤r2.1∧(r2.1<(ln a0)∧((X7n (r3.2.1.1,(r3.2.1.2.1,r3.2.1.2.2)) 255)∧∀r5,(Eq r5 ((X0V (r3.2.1.1,(r3.2.1.2.1,r3.2.1.2.2)) 255).1,((X0V (r3.2.1.1,(r3.2.1.2.1,r3.2.1.2.2)) 255).2,())))→(List.length (List.take (tN r2.1) a0)+List.length (List.map (fun n=>UInt8.ofNat (Int.toNat n)) [(IntKind.wrap .u8 (IntKind.wrap .i64 (BitVec.toNat (BitVec.ofInt (IntKind.bits .i64) (wI ((UInt8.toNat (List.getD a0 (tN r2.1) 0):Nat):Int)) ^^^ BitVec.ofInt (IntKind.bits .i64) (wI ((1:Int)+r5.1))))))])≤9223372036854775807∧(0≤(wI (r2.1+(1:Int)))∧((wI (r2.1+(1:Int)))≤(ln a0)∧(List.length ((List.take (tN r2.1) a0)++(List.map (fun n=>UInt8.ofNat (Int.toNat n)) [(IntKind.wrap .u8 (IntKind.wrap .i64 (BitVec.toNat (BitVec.ofInt (IntKind.bits .i64) (wI ((UInt8.toNat (List.getD a0 (tN r2.1) 0):Nat):Int)) ^^^ BitVec.ofInt (IntKind.bits .i64) (wI ((1:Int)+r5.1))))))]))+List.length (List.drop (tN (wI (r2.1+(1:Int)))) a0)≤9223372036854775807∧(XbD i0 a0 ((((List.take (tN r2.1) a0)++(List.map (fun n=>UInt8.ofNat (Int.toNat n)) [(IntKind.wrap .u8 (IntKind.wrap .i64 (BitVec.toNat (BitVec.ofInt (IntKind.bits .i64) (wI ((UInt8.toNat (List.getD a0 (tN r2.1) 0):Nat):Int)) ^^^ BitVec.ofInt (IntKind.bits .i64) (wI ((1:Int)+r5.1))))))]))++(List.drop (tN (wI (r2.1+(1:Int)))) a0)),((r5.2.1.1,(r5.2.1.2.1,r5.2.1.2.2)),()))))))))))))))))))
theorem X2K.pure(i0:U7q)(a0:U5q)(h:(XgO i0 a0))(hi:Wf X5p.I i0)(hw:Wf X5p.A a0):X2K.F i0 a0:=by
 delta X2K.F ln tN wI
 simp only[Bs,B0,B1,Prod.mk.injEq,X01,Prod.eta,X7n]
 obtain⟨hc,hl⟩:=h
 refine⟨fun h0=>⟨⟨hc,by omega,by omega⟩,fun r1 q1=>⟨by have:=q1.1;simp only;omega,q1.2⟩⟩,fun h0=>?_⟩
 obtain⟨k1,k2,k3⟩:=X5r hc (n:=(a0.length:Int)) (by omega)
 obtain⟨t1,t2,t3⟩:=X5r k3 (n:=4) (by omega)
 obtain⟨x1,x2,x3⟩:=X8m t3
 obtain⟨z1,z2,z3⟩:=X5r t3 (n:=255) (by omega)
 generalize (X0V (X0V i0 (a0.length:Int)).2 4).1=t at*
 generalize (X0V i0 (a0.length:Int)).1=k at*
 rw[w64 (x:=k+1) (by omega) (by omega)]
 simp only[List.length_take,List.length_drop,List.length_map,List.length_cons,List.length_nil]
 refine⟨hc,k3,fun _=>⟨by omega,by omega,by omega,by omega,by omega,by simp only[List.length_append,List.length_take,List.length_drop];omega,t3⟩,fun _=>⟨fun _=>⟨by omega,by omega,t3,by omega,by omega,by omega,by omega,by simp only[List.length_append,List.length_take,List.length_drop,List.length_map,List.length_cons,List.length_nil];omega,x3⟩,fun _=>⟨fun _=>⟨by omega,by omega,by simp only[List.length_take];omega,t3⟩,fun _=>⟨by omega,by omega,by omega,by omega,t3,by omega,by omega,by omega,by omega,by simp only[List.length_append,List.length_take,List.length_drop,List.length_map,List.length_cons,List.length_nil];omega,z3⟩⟩⟩⟩
theorem X2K.eq:EqS X5p Tryz.f164 [9] [X1M.e,X2L.e,X2V.e] [] noL (fun i x=>X2K.F i x):=by intro i x;kernel_rfl
theorem X2K.ok:X0l Tryz.prog 164 X5p:=X2b X2K.eq Tryz.func164 rfl (by kernel_rfl) fun i x h hi hw=>X2K.pure i x h (hi rfl) hw
def X2K.e:GE:=⟨164,X5p,⟨_,Tryz.func164,rfl,rfl⟩,X2K.ok⟩
def XfJ(c:Cur)(l:List Str):Prop:=X4v c∧0<l.length
def SmS(n:Nat)(l:List Ser):Prop:=l.length≤n∧∀x∈l,x.1.length≤9∧x.2.length≤1002
def Xfs(c:Cur)(most:Int)(y:List Ser×(Cur×Unit)):Prop:=SmS 6 y.1∧X4v y.2.1
structure sdI (c:Cur) (most i:Int) (b:List Int) (k h:Int) (out:List Ser):Prop where
 cu:X4v (b,k,h)
 h1:0≤i
 h2:i≤5
 h3:out.length≤i
 h4:∀x∈out,x.1.length≤9∧x.2.length≤1001
def sdM(c:Cur)(most i:Int)(b:List Int)(k h:Int)(out:List Ser):Nat:=(5 - i).toNat
theorem XkV{n:Nat}{l:List Ser}(h:l.length≤n)(h4:∀x∈l,x.1.length≤9∧x.2.length≤1001):SmS n l:=⟨h,fun x hx=>by have:=h4 x hx;omega⟩
theorem XaO{α:Type}{l:List α}{y:α}{P:α→Prop}(h:∀x∈l,P x)(hy:P y):∀x∈l++[y],P x:=fun x hx=>by
 rcases List.mem_append.1 hx with hx | hx
 · exact h x hx
 · rw[List.mem_singleton.1 hx];exact hy
theorem XlX:∀x∈[[97],[99,112,117],[100,105,115,107],[109,101,109],[122,122,122,122,122,122,122,122]],List.length (x:Str)≤8:=by decide
theorem Xl9{c:Cur}(h:X4v c)(n:Int):0≤(X0V c n).1∧((X0V c n).1<n∨(X0V c n).1=0)∧X4v (X0V c n).2:=by
 by_cases hn:0<n
 · obtain⟨a,b,d⟩:=X5r h hn;exact⟨a,.inl b,d⟩
 · unfold X0V;rw[if_pos (by omega)];exact⟨by omega,.inr rfl,h⟩
theorem Xez(l:List Ser):(X0j l).length≤20000:=by
 by_cases hc:X0y l=true
 · exact XeM hc
 · unfold X0j;rw[if_neg (fun h=>hc h.1)];simp
def XfW(c:Cur)(most:Int)(y:Str×(Cur×Unit)):Prop:=y.1.length≤30000∧X4v y.2.1
def XpD(c:Cur)(most:Int)(y:Eng×(Cur×Unit)):Prop:=(X13 y.1=true∧X5P y.1)∧X4v y.2.1
structure edI (c:Cur) (most n:Int) (b:List Int) (k h:Int) (z0:Int) (z1:List Ser) (z2:List Str) (f:Int) (ca:List Ser) (g:List Str):Prop where
 cu:X4v (b,k,h)
 h1:0≤n
 h2:n≤1000
 ok:X13 (f,(ca,g))=true
 pe:X5P (f,(ca,g))
def edM(c:Cur)(most n:Int)(b:List Int)(k h:Int)(z0:Int)(z1:List Ser)(z2:List Str)(f:Int)(ca:List Ser)(g:List Str):Nat:=n.toNat
def SmE(e:Eng):Prop:=-1≤e.1∧e.1≤1099511627777∧X5P e∧e.2.1.length≤1000∧tot e.2.1≤100000∧e.2.2.length≤10
theorem XoS:∀{l:List Ser},(∀x∈l,x.1.length≤9∧x.2.length≤1002)→tot l≤1003*l.length
 | [],_=>by simp[tot,cL]
 | x::l,h=>by
   have h1:=XoS (l:=l) fun y hy=>h y (by simp[hy])
   have h2:=h x (by simp)
   have h3:tot (x::l)=cS x+tot l:=X4T ..
   simp only[cS]at h3
   rw[List.length_cons];omega
theorem Xs0{e:Eng}(h:X13 e=true)(hq:X5P e):SmE e:=by
 have G:=X6n h hq
 have:=X1I G.ca
 have:=G.fl
 have:=G.le
 exact⟨by omega,by omega,hq,by omega,by omega,by omega⟩
def X7O(c:Cur)(most:Int)(y:Eng×(Cur×Unit)):Prop:=SmE y.1∧X4v y.2.1
structure adI (c:Cur) (most i:Int) (b:List Int) (k h:Int) (z0 f:Int) (z1:List Ser) (z2:List Str) (ca:List Ser) (g:List Str):Prop where
 cu:X4v (b,k,h)
 h1:0≤i
 h2:i≤5
 h3:g.length≤4+i
 fl:0≤f∧f≤1099511627776
 cl:ca.length≤1000∧tot ca≤100000
 pe:X5P (f,(ca,g))
def adM(c:Cur)(most i:Int)(b:List Int)(k h:Int)(z0 f:Int)(z1:List Ser)(z2:List Str)(ca:List Ser)(g:List Str):Nat:=(5 - i).toNat
def X9T(code:List Int)(y:(Eng×(Str×List Pt))×(Unit×Unit)):Prop:=SmE y.1.1∧y.1.2.1.length≤9∧y.1.2.2.length≤1001
def X9h(c:Cur)(l:List Str):Str×Cur:=(l.getD (X0V c l.length).1.toNat [],(X0V c l.length).2)
theorem X5A{c:Cur}{l:List Str}(h:XfJ c l):(X9h c l).1∈l∧X4v (X9h c l).2:=by
 obtain⟨hc,hl⟩:=h
 obtain⟨a1,a2,a3⟩:=X5r hc (n:=(l.length:Int)) (by omega)
 exact⟨X14 (by omega),a3⟩
def Xmp:List Str:=[[99,112,117],[109,101,109],[110,101,116],[97],[122,122,122,122,122,122,122,122]]
def Xb2(c:Cur):Str×Cur:=X9h c Xmp
theorem X6k{c:Cur}(h:X4v c):(Xb2 c).1.length≤8∧X4v (Xb2 c).2:=by
 obtain⟨a,b⟩:=X5A (l:=Xmp) ⟨h,by decide⟩
 have:∀x∈Xmp,List.length (x:Str)≤8:=by decide
 exact⟨this _ a,b⟩
def X6y:Con:={io:=true,I:=Xgs,A:=(.list .str),shA:=[.one],R:=.str,shR:=[(false,1)],pre:=fun i a=>(XfJ i a),f:=some fun i a=>((X9h i a).1,((X9h i a).2,()))}
def X33.F(i0:U7q)(a0:(List U5q)):Prop:=((X7n (i0.1,(i0.2.1,i0.2.2)) (ln a0))∧∀r1,(Eq r1 ((X0V (i0.1,(i0.2.1,i0.2.2)) (ln a0)).1,((X0V (i0.1,(i0.2.1,i0.2.2)) (ln a0)).2,())))→(0≤r1.1∧(r1.1<(ln a0)∧(Eq ((List.getD a0 (tN r1.1) []),((r1.2.1.1,(r1.2.1.2.1,r1.2.1.2.2)),())) ((X9h i0 a0).1,((X9h i0 a0).2,()))))))
theorem X33.pure(i0:U7q)(a0:(List U5q))(h:(XfJ i0 a0))(hi:Wf X6y.I i0)(hw:Wf X6y.A a0):X33.F i0 a0:=by
 delta X33.F ln tN
 simp only[Bs,B0,B1,Prod.mk.injEq,X01,Prod.eta]
 obtain⟨hc,hl⟩:=h
 obtain⟨a1,a2,a3⟩:=X5r hc (n:=(a0.length:Int)) (by omega)
 exact⟨hc,by omega,by omega,rfl,rfl⟩
theorem X33.eq:EqS X6y Tryz.f82 [9] [X1M.e] [] noL (fun i x=>X33.F i x):=by intro i x;kernel_rfl
theorem X33.ok:X0l Tryz.prog 82 X6y:=X2b X33.eq Tryz.func82 rfl (by kernel_rfl) fun i x h hi hw=>X33.pure i x h (hi rfl) hw
def X33.e:GE:=⟨82,X6y,⟨_,Tryz.func82,rfl,rfl⟩,X33.ok⟩
def X6o:Con:={io:=true,I:=Xgs,A:=.unit,shA:=[],R:=.str,shR:=[(false,1)],pre:=fun i a=>(X4v i),f:=some fun i a=>((Xb2 i).1,((Xb2 i).2,()))}
def X3i.F(i0:U7q):Prop:=((XfJ (i0.1,(i0.2.1,i0.2.2)) [[99,112,117],[109,101,109],[110,101,116],[97],[122,122,122,122,122,122,122,122]])∧∀r1,(Eq r1 ((X9h (i0.1,(i0.2.1,i0.2.2)) [[99,112,117],[109,101,109],[110,101,116],[97],[122,122,122,122,122,122,122,122]]).1,((X9h (i0.1,(i0.2.1,i0.2.2)) [[99,112,117],[109,101,109],[110,101,116],[97],[122,122,122,122,122,122,122,122]]).2,())))→(Eq (r1.1,((r1.2.1.1,(r1.2.1.2.1,r1.2.1.2.2)),())) ((Xb2 i0).1,((Xb2 i0).2,()))))
theorem X3i.pure(i0:U7q)(h:(X4v i0))(hi:Wf X6o.I i0)(hw:Wf X6o.A ()):X3i.F i0:=by
 unfold X3i.F
 simp only[Bs,B0,B1,Prod.mk.injEq,X01,Prod.eta]
 exact⟨⟨h,by simp⟩,rfl,rfl⟩
theorem X3i.eq:EqS X6o Tryz.f80 [9] [X33.e] [] noL (fun i x=>X3i.F i):=by intro i x;kernel_rfl
theorem X3i.ok:X0l Tryz.prog 80 X6o:=X2b X3i.eq Tryz.func80 rfl (by kernel_rfl) fun i x h hi hw=>X3i.pure i h (hi rfl) hw
def X3i.e:GE:=⟨80,X6o,⟨_,Tryz.func80,rfl,rfl⟩,X3i.ok⟩
def X4V:Con:={io:=true,I:=Xgs,B:=.unit,A:=(.int .i64),shA:=[.one],R:=T9q,shR:=[(false,1)],pre:=fun i a=>(X1v i a),post:=fun i a y=>(Xfs i a y)}
def X1K.F(i0:U7q)(a0:Int):Prop:=(eS [(0,.box 0 0),(1,.val false [.int .i64 a0]),(6,.val false [.lst .str [[97],[99,112,117],[100,105,115,107],[109,101,109],[122,122,122,122,122,122,122,122]] none])] [(0,.box 0 0),(1,.val false [.int .i64 a0]),(6,.val false [.lst .str [[97],[99,112,117],[100,105,115,107],[109,101,109],[122,122,122,122,122,122,122,122]] none])]∧((sdI i0 a0 0 i0.1 i0.2.1 i0.2.2 ([]:List U1q))∧∀(y1:(Int×((List Int)×(Int×(Int×(List U1q)))))),(sdI i0 a0 y1.1 y1.2.1 y1.2.2.1 y1.2.2.2.1 y1.2.2.2.2)→(X00 (decide (y1.1<(ln [[97],[99,112,117],[100,105,115,107],[109,101,109],[122,122,122,122,122,122,122,122]]))) ((X0E (y1.2.1,(y1.2.2.1,y1.2.2.2.1)) 2)∧∀r2,(X4n (y1.2.1,(y1.2.2.1,y1.2.2.2.1)) 2 r2)→(X00 r2.1 (0≤y1.1∧(y1.1<(ln [[97],[99,112,117],[100,105,115,107],[109,101,109],[122,122,122,122,122,122,122,122]])∧((X1v (r2.2.1.1,(r2.2.1.2.1,r2.2.1.2.2)) a0)∧∀r3,(X4W (r2.2.1.1,(r2.2.1.2.1,r2.2.1.2.2)) a0 r3)→(List.length y1.2.2.2.2+List.length ([((List.getD [[97],[99,112,117],[100,105,115,107],[109,101,109],[122,122,122,122,122,122,122,122]] (tN y1.1) []),r3.1)]:List U1q)≤9223372036854775807∧((List.length y1.2.2.2.2+List.length ([((List.getD [[97],[99,112,117],[100,105,115,107],[109,101,109],[122,122,122,122,122,122,122,122]] (tN y1.1) []),r3.1)]:List U1q))*40≤140737488355328∧(eS [(0,.box 0 0),(1,.val false [.int .i64 a0]),(6,.val false [.lst .str [[97],[99,112,117],[100,105,115,107],[109,101,109],[122,122,122,122,122,122,122,122]] none])] [(0,.box 0 0),(1,.val false [.int .i64 a0]),(6,.val false [.lst .str [[97],[99,112,117],[100,105,115,107],[109,101,109],[122,122,122,122,122,122,122,122]] none])]∧(sdI i0 a0 (wI (y1.1+(1:Int))) r3.2.1.1 r3.2.1.2.1 r3.2.1.2.2 (y1.2.2.2.2++[((List.getD [[97],[99,112,117],[100,105,115,107],[109,101,109],[122,122,122,122,122,122,122,122]] (tN y1.1) []),r3.1)]))∧(sdM i0 a0 (wI (y1.1+(1:Int))) r3.2.1.1 r3.2.1.2.1 r3.2.1.2.2 (y1.2.2.2.2++[((List.getD [[97],[99,112,117],[100,105,115,107],[109,101,109],[122,122,122,122,122,122,122,122]] (tN y1.1) []),r3.1)]))<(sdM i0 a0 y1.1 y1.2.1 y1.2.2.1 y1.2.2.2.1 y1.2.2.2.2))))))) (eS [(0,.box 0 0),(1,.val false [.int .i64 a0]),(6,.val false [.lst .str [[97],[99,112,117],[100,105,115,107],[109,101,109],[122,122,122,122,122,122,122,122]] none])] [(0,.box 0 0),(1,.val false [.int .i64 a0]),(6,.val false [.lst .str [[97],[99,112,117],[100,105,115,107],[109,101,109],[122,122,122,122,122,122,122,122]] none])]∧(sdI i0 a0 (wI (y1.1+(1:Int))) r2.2.1.1 r2.2.1.2.1 r2.2.1.2.2 y1.2.2.2.2)∧(sdM i0 a0 (wI (y1.1+(1:Int))) r2.2.1.1 r2.2.1.2.1 r2.2.1.2.2 y1.2.2.2.2)<(sdM i0 a0 y1.1 y1.2.1 y1.2.2.1 y1.2.2.2.1 y1.2.2.2.2)))) ((X0E (y1.2.1,(y1.2.2.1,y1.2.2.2.1)) 12)∧∀r4,(X4n (y1.2.1,(y1.2.2.1,y1.2.2.2.1)) 12 r4)→(X00 r4.1 ((X7n (r4.2.1.1,(r4.2.1.2.1,r4.2.1.2.2)) 4)∧∀r5,(Eq r5 ((X0V (r4.2.1.1,(r4.2.1.2.1,r4.2.1.2.2)) 4).1,((X0V (r4.2.1.1,(r4.2.1.2.1,r4.2.1.2.2)) 4).2,())))→(X00 (r5.1==(0:Int)) ((XfJ (r5.2.1.1,(r5.2.1.2.1,r5.2.1.2.2)) [[],[65],[98],[122,122,122,122,122,122,122,122,122],[122,122]])∧∀r6,(Eq r6 ((X9h (r5.2.1.1,(r5.2.1.2.1,r5.2.1.2.2)) [[],[65],[98],[122,122,122,122,122,122,122,122,122],[122,122]]).1,((X9h (r5.2.1.1,(r5.2.1.2.1,r5.2.1.2.2)) [[],[65],[98],[122,122,122,122,122,122,122,122,122],[122,122]]).2,())))→((X1v (r6.2.1.1,(r6.2.1.2.1,r6.2.1.2.2)) 2)∧∀r7,(X4W (r6.2.1.1,(r6.2.1.2.1,r6.2.1.2.2)) 2 r7)→(List.length y1.2.2.2.2+List.length [(r6.1,r7.1)]≤9223372036854775807∧((List.length y1.2.2.2.2+List.length [(r6.1,r7.1)])*40≤140737488355328∧(Xfs i0 a0 ((y1.2.2.2.2++[(r6.1,r7.1)]),((r7.2.1.1,(r7.2.1.2.1,r7.2.1.2.2)),()))))))) (X00 (r5.1==(1:Int)) (List.length y1.2.2.2.2+List.length [([122,122,122,122,122,122,122,122],([]:U6q))]≤9223372036854775807∧((List.length y1.2.2.2.2+List.length [([122,122,122,122,122,122,122,122],([]:U6q))])*40≤140737488355328∧(Xfs i0 a0 ((y1.2.2.2.2++[([122,122,122,122,122,122,122,122],([]:U6q))]),((r5.2.1.1,(r5.2.1.2.1,r5.2.1.2.2)),()))))) (X00 (r5.1==(2:Int)) (X00 (decide ((ln y1.2.2.2.2)>(0:Int))) (0≤(0:Int)∧((0:Int)<(ln y1.2.2.2.2)∧((X7n (r5.2.1.1,(r5.2.1.2.1,r5.2.1.2.2)) 300)∧∀r8,(Eq r8 ((X0V (r5.2.1.1,(r5.2.1.2.1,r5.2.1.2.2)) 300).1,((X0V (r5.2.1.1,(r5.2.1.2.1,r5.2.1.2.2)) 300).2,())))→(List.length ((List.getD y1.2.2.2.2 (tN (0:Int)) ([],[])).2)+List.length [(r8.1,0)]≤9223372036854775807∧((List.length ((List.getD y1.2.2.2.2 (tN (0:Int)) ([],[])).2)+List.length [(r8.1,0)])*16≤140737488355328∧(0≤(0:Int)∧((0:Int)<(ln (List.set y1.2.2.2.2 (tN (0:Int)) ((List.getD y1.2.2.2.2 (tN (0:Int)) ([],[])).1,([]:U6q))))∧((tN (0:Int))=(tN (0:Int))∧(let l9:List U1q:=(List.set (List.set y1.2.2.2.2 (tN (0:Int)) ((List.getD y1.2.2.2.2 (tN (0:Int)) ([],[])).1,([]:U6q))) (tN (0:Int)) ((List.getD (List.set y1.2.2.2.2 (tN (0:Int)) ((List.getD y1.2.2.2.2 (tN (0:Int)) ([],[])).1,([]:U6q))) (tN (0:Int)) ([],[])).1,(((List.getD y1.2.2.2.2 (tN (0:Int)) ([],[])).2)++[(r8.1,0)])));(Xfs i0 a0 (l9,((r8.2.1.1,(r8.2.1.2.1,r8.2.1.2.2)),())))))))))))) (Xfs i0 a0 (y1.2.2.2.2,((r5.2.1.1,(r5.2.1.2.1,r5.2.1.2.2)),())))) (X00 (decide ((ln y1.2.2.2.2)>(1:Int))) (0<List.length y1.2.2.2.2∧(0≤(1:Int)∧((1:Int)≤(ln y1.2.2.2.2)∧(0≤(0:Int)∧((0:Int)<(ln y1.2.2.2.2)∧((tN (1:Int))<List.length y1.2.2.2.2∧(Eq (List.length y1.2.2.2.2) (List.length y1.2.2.2.2)∧(List.length (List.drop (tN (1:Int)) y1.2.2.2.2)+List.length ([((List.getD y1.2.2.2.2 (tN (0:Int)) ([],[])).1,(List.getD y1.2.2.2.2 (tN (0:Int)) ([],[])).2)]:List U1q)≤9223372036854775807∧((List.length (List.drop (tN (1:Int)) y1.2.2.2.2)+List.length ([((List.getD y1.2.2.2.2 (tN (0:Int)) ([],[])).1,(List.getD y1.2.2.2.2 (tN (0:Int)) ([],[])).2)]:List U1q))*40≤140737488355328∧(Xfs i0 a0 (((List.drop (tN (1:Int)) y1.2.2.2.2)++[((List.getD y1.2.2.2.2 (tN (0:Int)) ([],[])).1,(List.getD y1.2.2.2.2 (tN (0:Int)) ([],[])).2)]),((r5.2.1.1,(r5.2.1.2.1,r5.2.1.2.2)),())))))))))))) (Xfs i0 a0 (y1.2.2.2.2,((r5.2.1.1,(r5.2.1.2.1,r5.2.1.2.2)),())))))))) (Xfs i0 a0 (y1.2.2.2.2,((r4.2.1.1,(r4.2.1.2.1,r4.2.1.2.2)),()))))))))
def X1K.L(i0:U7q)(a0:Int):Nat→Option X0d:=fun p=>Go.Proofs.YtcfaphojdacmbaaGreatR.Bv.look p [(122,{kp:={hold:=[0,1,6],slots:=[5,7],boxes:=[0],rows:=[{bx:=false,s:=5,i:=0,k:=1000643,e:=83,hot:=true}]},T:=(.pair (.int .i64) (.pair T8q (.pair (.int .i64) (.pair (.int .i64) T9q)))),I:=fun st y=>sdI i0 a0 y.1 y.2.1 y.2.2.1 y.2.2.2.1 y.2.2.2.2,μ:=fun st y=>sdM i0 a0 y.1 y.2.1 y.2.2.1 y.2.2.2.1 y.2.2.2.2})]
theorem X1K.pure(i0:U7q)(a0:Int)(h:(X1v i0 a0))(hi:Wf X4V.I i0)(hw:Wf X4V.A a0):X1K.F i0 a0:=by
 delta X1K.F ln tN wI eS
 simp only[Bs,B0,B1,Prod.mk.injEq,X01,Prod.eta]
 obtain⟨hc,hm⟩:=h
 refine⟨⟨hc,by omega,by omega,by simp,by simp⟩,?_⟩
 rintro⟨i,b,k,h,out⟩ ⟨cu,h1,h2,h3,h4⟩
 simp only at cu h1 h2 h3 h4 ⊢
 have e0:(0:Int).toNat=0:=rfl
 have e1:(1:Int).toNat=1:=rfl
 refine⟨fun hi=>⟨cu,fun r2 q2=>⟨fun ht=>?_,fun hf=>?_⟩⟩,fun hi=>⟨cu,fun r4 q4=>⟨fun ht=>?_,fun hf=>?_⟩⟩⟩
 · refine⟨h1,by omega,⟨q2,hm⟩,fun r3 q3=>?_⟩
   rw[w64 (x:=i+1) (by omega) (by omega)]
   have hn:=XlX _ (X14 (d:=([]:Str)) (l:=[[97],[99,112,117],[100,105,115,107],[109,101,109],[122,122,122,122,122,122,122,122]]) (i:=i.toNat) (by simp;omega))
   exact⟨by omega,by omega,⟨q3.2,by omega,by omega,by simp;omega,XaO h4 ⟨Nat.le_trans hn (by decide),q3.1⟩⟩,by unfold sdM;omega⟩
 · rw[w64 (x:=i+1) (by omega) (by omega)]
   exact⟨⟨q2,by omega,by omega,by omega,h4⟩,by unfold sdM;omega⟩
 · obtain⟨b1,b2,b3⟩:=X5r q4 (n:=4) (by omega)
   refine⟨q4,fun hz=>⟨⟨b3,by simp⟩,⟨(X5A ⟨b3,by simp⟩).2,by omega⟩,fun r7 q7=>⟨by omega,by omega,⟨XkV (by simp;omega) (XaO h4 ⟨?_,q7.1⟩),q7.2⟩⟩⟩,fun hz=>⟨fun hz1=>⟨by omega,by omega,⟨XkV (by simp;omega) (XaO h4 ⟨by simp,by simp⟩),b3⟩⟩,fun hz1=>⟨fun hz2=>⟨fun ho=>?_,fun ho=>⟨XkV (by simp only;omega) h4,b3⟩⟩,fun hz2=>⟨fun ho=>?_,fun ho=>⟨XkV (by simp only;omega) h4,b3⟩⟩⟩⟩⟩
   · have:∀x∈[[],[65],[98],[122,122,122,122,122,122,122,122,122],[122,122]],List.length (x:Str)≤9:=by decide
     exact this _ (X5A ⟨b3,by simp⟩).1
   · obtain⟨d1,d2,d3⟩:=X5r b3 (n:=300) (by omega)
     have m0:=h4 _ (X14 (d:=(([],[]):Ser)) (l:=out) (i:=0) (by omega))
     rw[e0]
     refine⟨by omega,by omega,b3,by omega,by omega,by omega,by simp;omega,⟨⟨by simp;omega,fun x hx=>?_⟩,d3⟩⟩
     rcases List.mem_or_eq_of_mem_set hx with hx | hx
     · rcases List.mem_or_eq_of_mem_set hx with hx | hx
       · have:=h4 x hx;omega
       · rw[hx];simp only[List.length_nil];omega
     · rw[hx,X0R (by simp;omega)]
       simp only[List.getElem_set_self,List.length_append,List.length_cons,List.length_nil];omega
   · have m0:=h4 _ (X14 (d:=(([],[]):Ser)) (l:=out) (i:=0) (by omega))
     rw[e0,e1]
     have hd:(out.drop 1).length=out.length - 1:=List.length_drop
     refine⟨by omega,by omega,by omega,by omega,by omega,by omega,by omega,by omega,⟨XkV (by simp;omega) (XaO (fun x hx=>h4 x (List.mem_of_mem_drop hx)) m0),b3⟩⟩
 · exact⟨XkV (by simp only;omega) h4,q4⟩
theorem X1K.eq:EqS X4V Tryz.f162 [25] [X1U.e,X33.e,X1G.e,X1M.e] [1000036,1000037] (fun i x=>X1K.L i x) (fun i x=>X1K.F i x):=by intro i x;kernel_rfl
theorem X1K.ok:X0l Tryz.prog 162 X4V:=X2b X1K.eq Tryz.func162 rfl (by kernel_rfl) fun i x h hi hw=>X1K.pure i x h (hi rfl) hw
def X1K.e:GE:=⟨162,X4V,⟨_,Tryz.func162,rfl,rfl⟩,X1K.ok⟩
def X67:Con:={io:=true,I:=Xgs,B:=.unit,A:=(.int .i64),shA:=[.one],R:=.str,shR:=[(false,1)],pre:=fun i a=>(X1v i a),post:=fun i a y=>(XfW i a y)}
def X3E.F(i0:U7q)(a0:Int):Prop:=((X1v (i0.1,(i0.2.1,i0.2.2)) a0)∧∀r1,(Xfs (i0.1,(i0.2.1,i0.2.2)) a0 r1)→((X27 r1.1)∧∀r2,(Eq r2 ((X0j r1.1),((),())))→((X0E (r1.2.1.1,(r1.2.1.2.1,r1.2.1.2.2)) 4)∧∀r3,(X4n (r1.2.1.1,(r1.2.1.2.1,r1.2.1.2.2)) 4 r3)→(X00 r3.1 ((XgO (r3.2.1.1,(r3.2.1.2.1,r3.2.1.2.2)) r2.1)∧∀r4,(XbD (r3.2.1.1,(r3.2.1.2.1,r3.2.1.2.2)) r2.1 r4)→(X00 (decide ((ln r4.1)>(4:Int))) ((X0E (r4.2.1.1,(r4.2.1.2.1,r4.2.1.2.2)) 2)∧∀r5,(X4n (r4.2.1.1,(r4.2.1.2.1,r4.2.1.2.2)) 2 r5)→(X00 r5.1 (0≤(wI ((ln r4.1) - (4:Int)))∧((wI ((ln r4.1) - (4:Int)))≤(ln r4.1)∧((Xjv (List.take (tN (wI ((ln r4.1) - (4:Int)))) r4.1))∧∀r6,(Eq r6 ((Xdg (List.take (tN (wI ((ln r4.1) - (4:Int)))) r4.1)),((),())))→((X6J r6.1 4)∧∀r7,(Eq r7 ((X0D r6.1 4),((),())))→(List.length (List.take (tN (wI ((ln r4.1) - (4:Int)))) r4.1)+List.length r7.1≤9223372036854775807∧(XfW i0 a0 (((List.take (tN (wI ((ln r4.1) - (4:Int)))) r4.1)++r7.1),((r5.2.1.1,(r5.2.1.2.1,r5.2.1.2.2)),())))))))) (XfW i0 a0 (r4.1,((r5.2.1.1,(r5.2.1.2.1,r5.2.1.2.2)),()))))) (XfW i0 a0 (r4.1,((r4.2.1.1,(r4.2.1.2.1,r4.2.1.2.2)),()))))) (XfW i0 a0 (r2.1,((r3.2.1.1,(r3.2.1.2.1,r3.2.1.2.2)),())))))))
theorem X3E.pure(i0:U7q)(a0:Int)(h:(X1v i0 a0))(hi:Wf X67.I i0)(hw:Wf X67.A a0):X3E.F i0 a0:=by
 delta X3E.F ln tN wI
 simp only[Bs,B0,B1,Prod.mk.injEq,X01,Prod.eta]
 refine⟨h,fun r1 q1=>⟨fun x hx=>by have:=(q1.1.2 x hx).1;unfold maxLen;omega,q1.2,fun r3 q3=>?_⟩⟩
 have hf:=Xez r1.1
 refine⟨fun ht=>⟨⟨q3,by omega⟩,fun r4 q4=>⟨fun h4=>⟨q4.2,fun r5 q5=>⟨fun h5=>?_,fun h5=>⟨by have:=q4.1;simp only;omega,q5⟩⟩⟩,fun h4=>⟨by have:=q4.1;simp only;omega,q4.2⟩⟩⟩,fun ht=>⟨by simp only;omega,q3⟩⟩
 have k4:=q4.1
 rw[w64 (x:=(r4.1.length:Int) - 4) (by omega) (by omega)]
 have hx:=X2H (Xdg (r4.1.take ((r4.1.length:Int) - 4).toNat)) 4
 have ht:(r4.1.take ((r4.1.length:Int) - 4).toNat).length≤r4.1.length:=by rw[List.length_take];omega
 have hc:=Xcf (r4.1.take ((r4.1.length:Int) - 4).toNat)
 refine⟨by omega,by omega,(by unfold Xjv maxLen;omega),(by unfold X6J;omega),by omega,⟨?_,q5⟩⟩
 simp only[List.length_append];omega
theorem X3E.eq:EqS X67 Tryz.f163 [9] [X1U.e,X0N.e,X1K.e,X2K.e,X2W.e,X4h.e] [] noL (fun i x=>X3E.F i x):=by intro i x;kernel_rfl
theorem X3E.ok:X0l Tryz.prog 163 X67:=X2b X3E.eq Tryz.func163 rfl (by kernel_rfl) fun i x h hi hw=>X3E.pure i x h (hi rfl) hw
def X3E.e:GE:=⟨163,X67,⟨_,Tryz.func163,rfl,rfl⟩,X3E.ok⟩
structure XqL (a:Eng) (t i f:Int) (c:List Ser) (z0:Int) (z2:List Str) (out:List Ser) (g:List Str) (z1:List Ser):Prop where
 ec:c=a.2.1
 eg:g=a.2.2
 I:raI a.2.1 t i out
def XrB(a:Eng)(t i f:Int)(c:List Ser)(z0:Int)(z2:List Str)(out:List Ser)(g:List Str)(z1:List Ser):Nat:=raM a.2.1 t i out
def X5K:Con:={A:=(.pair T4q (.int .i64)),shA:=[.agg 3,.one],ownA:=[(2,9)],R:=T4q,shR:=[(true,3)],fresh:=[(2,9)],pre:=fun _ a=>(XgW a.1 a.2),f:=some fun _ a=>((X4U a.1 a.2),((),()))}
def X1y.F(a0:U3q)(a1:Int):Prop:=(X00 (decide (a1≤a0.1)) (Eq ((a0.1,(a0.2.1,a0.2.2)),((),())) ((X4U a0 a1),((),()))) (X00 (decide (a1>(1099511627776:Int))) (Eq ((a0.1,(a0.2.1,a0.2.2)),((),())) ((X4U a0 a1),((),()))) (eS [(1,.val false [.int .i64 a1]),(2,.box 3 0),(4,.box 5 0)] [(1,.val false [.int .i64 a1]),(2,.box 3 0),(4,.box 5 0)]∧((XqL a0 a1 0 a0.1 a0.2.1 0 ([]:List U5q) ([]:List U1q) a0.2.2 ([]:List U1q))∧∀(y1:(Int×(Int×((List U1q)×(Int×((List U5q)×((List U1q)×((List U5q)×(List U1q))))))))),(XqL a0 a1 y1.1 y1.2.1 y1.2.2.1 y1.2.2.2.1 y1.2.2.2.2.1 y1.2.2.2.2.2.1 y1.2.2.2.2.2.2.1 y1.2.2.2.2.2.2.2)→(X00 (decide (y1.1<(ln y1.2.2.1))) (0≤y1.1∧(y1.1<(ln y1.2.2.1)∧((X6l ((List.getD y1.2.2.1 (tN y1.1) ([],[])).2) a1 1099511627777)∧∀r2,(Eq r2 ((X0Z ((List.getD y1.2.2.1 (tN y1.1) ([],[])).2) a1 1099511627777),((),())))→(X00 (decide ((ln r2.1)>(0:Int))) (0≤y1.1∧(y1.1<(ln y1.2.2.1)∧(List.length y1.2.2.2.2.2.1+List.length ([((List.getD y1.2.2.1 (tN y1.1) ([],[])).1,r2.1)]:List U1q)≤9223372036854775807∧((List.length y1.2.2.2.2.2.1+List.length ([((List.getD y1.2.2.1 (tN y1.1) ([],[])).1,r2.1)]:List U1q))*40≤140737488355328∧(eS [(1,.val false [.int .i64 a1]),(2,.box 3 0),(4,.box 5 0)] [(1,.val false [.int .i64 a1]),(2,.box 3 0),(4,.box 5 0)]∧(XqL a0 a1 (wI (y1.1+(1:Int))) y1.2.1 y1.2.2.1 y1.2.2.2.1 y1.2.2.2.2.1 (y1.2.2.2.2.2.1++[((List.getD y1.2.2.1 (tN y1.1) ([],[])).1,r2.1)]) y1.2.2.2.2.2.2.1 y1.2.2.2.2.2.2.2)∧(XrB a0 a1 (wI (y1.1+(1:Int))) y1.2.1 y1.2.2.1 y1.2.2.2.1 y1.2.2.2.2.1 (y1.2.2.2.2.2.1++[((List.getD y1.2.2.1 (tN y1.1) ([],[])).1,r2.1)]) y1.2.2.2.2.2.2.1 y1.2.2.2.2.2.2.2)<(XrB a0 a1 y1.1 y1.2.1 y1.2.2.1 y1.2.2.2.1 y1.2.2.2.2.1 y1.2.2.2.2.2.1 y1.2.2.2.2.2.2.1 y1.2.2.2.2.2.2.2)))))) (eS [(1,.val false [.int .i64 a1]),(2,.box 3 0),(4,.box 5 0)] [(1,.val false [.int .i64 a1]),(2,.box 3 0),(4,.box 5 0)]∧(XqL a0 a1 (wI (y1.1+(1:Int))) y1.2.1 y1.2.2.1 y1.2.2.2.1 y1.2.2.2.2.1 y1.2.2.2.2.2.1 y1.2.2.2.2.2.2.1 y1.2.2.2.2.2.2.2)∧(XrB a0 a1 (wI (y1.1+(1:Int))) y1.2.1 y1.2.2.1 y1.2.2.2.1 y1.2.2.2.2.1 y1.2.2.2.2.2.1 y1.2.2.2.2.2.2.1 y1.2.2.2.2.2.2.2)<(XrB a0 a1 y1.1 y1.2.1 y1.2.2.1 y1.2.2.2.1 y1.2.2.2.2.1 y1.2.2.2.2.2.1 y1.2.2.2.2.2.2.1 y1.2.2.2.2.2.2.2)))))) (Eq ((a1,(y1.2.2.2.2.2.1,y1.2.2.2.2.2.2.1)),((),())) ((X4U a0 a1),((),()))))))))
def X1y.L(a0:U3q)(a1:Int):Nat→Option X0d:=fun p=>Go.Proofs.YtcfaphojdacmbaaGreatR.Bv.look p [(122,{kp:={hold:=[1,2,4],slots:=[5,6],boxes:=[3,5],rows:=[{bx:=false,s:=5,i:=0,k:=1000643,e:=83,hot:=true},{bx:=true,s:=3,i:=2,k:=13800391,e:=9,hot:=true},{bx:=true,s:=5,i:=1,k:=13800645,e:=83,hot:=true}]},T:=(.pair (.int .i64) (.pair (.int .i64) (.pair T9q (.pair (.int .i64) (.pair (.list .str) (.pair T9q (.pair (.list .str) T9q))))))),I:=fun st y=>XqL a0 a1 y.1 y.2.1 y.2.2.1 y.2.2.2.1 y.2.2.2.2.1 y.2.2.2.2.2.1 y.2.2.2.2.2.2.1 y.2.2.2.2.2.2.2,μ:=fun st y=>XrB a0 a1 y.1 y.2.1 y.2.2.1 y.2.2.2.1 y.2.2.2.2.1 y.2.2.2.2.2.1 y.2.2.2.2.2.2.1 y.2.2.2.2.2.2.2})]
theorem X1y.pure(a0:U3q)(a1:Int)(h:(XgW a0 a1))(hw:Wf X5K.A (a0,a1)):X1y.F a0 a1:=by
 delta X1y.F ln tN wI eS
 simp only[Bs,B0,B1,Prod.mk.injEq,X01,X6l,Prod.eta]
 have hn:tot a0.2.1≤100000000:=h
 have k1:=X7k a0.2.1
 refine⟨fun h1=>?_,fun h1=>⟨fun h2=>?_,fun h2=>⟨⟨rfl,rfl,by omega,by omega,by simp[X0u],by simp⟩,?_⟩⟩⟩
 · unfold X4U;rw[if_neg (by omega)]
 · unfold X4U;rw[if_neg (by omega)]
 rintro⟨i,f,c,z0,z2,out,g,z1⟩ ⟨ec,eg,hI⟩
 simp only at ec eg hI ⊢
 subst ec eg
 have q1:=hI.h1
 have q2:=hI.h2
 have q4:=hI.h4
 refine⟨fun hi=>?_,fun hi=>?_⟩
 · have dn:∀o,raM a0.2.1 a1 (i+1) o<raM a0.2.1 a1 i out:=fun o=>by unfold raM;omega
   rw[w64 (x:=i+1) (by omega) (by omega)]
   have k2:=Xbh (X14 (d:=(([]:List UInt8),([]:List Pt))) (by omega:i.toNat<a0.2.1.length))
   refine⟨q1,hi,by omega,fun h6=>⟨q1,hi,by omega,by omega,⟨rfl,rfl,XoM hI hi (by omega)⟩,dn _⟩,fun h6=>⟨⟨rfl,rfl,XrF hI hi (by omega)⟩,dn _⟩⟩
 · unfold X4U;rw[if_pos (by omega),XoX hI hi]
theorem X1y.eq:EqS X5K Tryz.f125 [28] [X1V.e] [] (fun i x=>X1y.L x.1 x.2) (fun i x=>X1y.F x.1 x.2):=by intro i x;kernel_rfl
theorem X1y.ok:X0l Tryz.prog 125 X5K:=X2b X1y.eq Tryz.func125 rfl (by kernel_rfl) fun i x h hi hw=>X1y.pure x.1 x.2 h hw
def X1y.e:GE:=⟨125,X5K,⟨_,Tryz.func125,rfl,rfl⟩,X1y.ok⟩
def X4r:Con:={io:=true,I:=Xgs,B:=.unit,A:=(.int .i64),shA:=[.one],R:=T4q,shR:=[(true,3)],fresh:=[(1,83),(2,9)],pre:=fun i a=>(X1v i a),post:=fun i a y=>(XpD i a y)}
def X1z.F(i0:U7q)(a0:Int):Prop:=((X7n (i0.1,(i0.2.1,i0.2.2)) a0)∧∀r1,(Eq r1 ((X0V (i0.1,(i0.2.1,i0.2.2)) a0).1,((X0V (i0.1,(i0.2.1,i0.2.2)) a0).2,())))→(eS [(0,.box 0 0),(4,.box 5 0),(5,.box 6 0)] [(0,.box 0 0),(4,.box 5 0),(5,.box 6 0)]∧((edI i0 a0 r1.1 r1.2.1.1 r1.2.1.2.1 r1.2.1.2.2 0 ([]:List U1q) ([]:List U5q) 0 ([]:List U1q) ([]:List U5q))∧∀(y2:(Int×((List Int)×(Int×(Int×(Int×((List U1q)×((List U5q)×U3q)))))))),(edI i0 a0 y2.1 y2.2.1 y2.2.2.1 y2.2.2.2.1 y2.2.2.2.2.1 y2.2.2.2.2.2.1 y2.2.2.2.2.2.2.1 y2.2.2.2.2.2.2.2.1 y2.2.2.2.2.2.2.2.2.1 y2.2.2.2.2.2.2.2.2.2)→(X00 (decide (y2.1>(0:Int))) ((X7n (y2.2.1,(y2.2.2.1,y2.2.2.2.1)) 8)∧∀r3,(Eq r3 ((X0V (y2.2.1,(y2.2.2.1,y2.2.2.2.1)) 8).1,((X0V (y2.2.1,(y2.2.2.1,y2.2.2.2.1)) 8).2,())))→(X00 (r3.1==(0:Int)) ((pFl (y2.2.2.2.2.2.2.2.1,(y2.2.2.2.2.2.2.2.2.1,y2.2.2.2.2.2.2.2.2.2)))∧∀r4,(Eq r4 ((fFl (y2.2.2.2.2.2.2.2.1,(y2.2.2.2.2.2.2.2.2.1,y2.2.2.2.2.2.2.2.2.2))),((),())))→(eS [(0,.box 0 0),(4,.box 5 0),(5,.box 6 0)] [(0,.box 0 0),(4,.box 5 0),(5,.box 6 0)]∧(edI i0 a0 (wI (y2.1 - (1:Int))) r3.2.1.1 r3.2.1.2.1 r3.2.1.2.2 y2.2.2.2.2.1 y2.2.2.2.2.2.1 y2.2.2.2.2.2.2.1 r4.1.1 r4.1.2.1 r4.1.2.2)∧(edM i0 a0 (wI (y2.1 - (1:Int))) r3.2.1.1 r3.2.1.2.1 r3.2.1.2.2 y2.2.2.2.2.1 y2.2.2.2.2.2.1 y2.2.2.2.2.2.2.1 r4.1.1 r4.1.2.1 r4.1.2.2)<(edM i0 a0 y2.1 y2.2.1 y2.2.2.1 y2.2.2.2.1 y2.2.2.2.2.1 y2.2.2.2.2.2.1 y2.2.2.2.2.2.2.1 y2.2.2.2.2.2.2.2.1 y2.2.2.2.2.2.2.2.2.1 y2.2.2.2.2.2.2.2.2.2))) (X00 (r3.1==(1:Int)) ((X0E (r3.2.1.1,(r3.2.1.2.1,r3.2.1.2.2)) 3)∧∀r5,(X4n (r3.2.1.1,(r3.2.1.2.1,r3.2.1.2.2)) 3 r5)→(X00 r5.1 ((pFl (y2.2.2.2.2.2.2.2.1,(y2.2.2.2.2.2.2.2.2.1,y2.2.2.2.2.2.2.2.2.2)))∧∀r6,(Eq r6 ((fFl (y2.2.2.2.2.2.2.2.1,(y2.2.2.2.2.2.2.2.2.1,y2.2.2.2.2.2.2.2.2.2))),((),())))→((Xrb (r6.1.1,(r6.1.2.1,r6.1.2.2)))∧∀r7,(Eq r7 ((X7h (r6.1.1,(r6.1.2.1,r6.1.2.2))),((),())))→(eS [(0,.box 0 0),(4,.box 5 0),(5,.box 6 0)] [(0,.box 0 0),(4,.box 5 0),(5,.box 6 0)]∧(edI i0 a0 (wI (y2.1 - (1:Int))) r5.2.1.1 r5.2.1.2.1 r5.2.1.2.2 y2.2.2.2.2.1 y2.2.2.2.2.2.1 y2.2.2.2.2.2.2.1 r7.1.1 r7.1.2.1 r7.1.2.2)∧(edM i0 a0 (wI (y2.1 - (1:Int))) r5.2.1.1 r5.2.1.2.1 r5.2.1.2.2 y2.2.2.2.2.1 y2.2.2.2.2.2.1 y2.2.2.2.2.2.2.1 r7.1.1 r7.1.2.1 r7.1.2.2)<(edM i0 a0 y2.1 y2.2.1 y2.2.2.1 y2.2.2.2.1 y2.2.2.2.2.1 y2.2.2.2.2.2.1 y2.2.2.2.2.2.2.1 y2.2.2.2.2.2.2.2.1 y2.2.2.2.2.2.2.2.2.1 y2.2.2.2.2.2.2.2.2.2)))) (eS [(0,.box 0 0),(4,.box 5 0),(5,.box 6 0)] [(0,.box 0 0),(4,.box 5 0),(5,.box 6 0)]∧(edI i0 a0 (wI (y2.1 - (1:Int))) r5.2.1.1 r5.2.1.2.1 r5.2.1.2.2 y2.2.2.2.2.1 y2.2.2.2.2.2.1 y2.2.2.2.2.2.2.1 y2.2.2.2.2.2.2.2.1 y2.2.2.2.2.2.2.2.2.1 y2.2.2.2.2.2.2.2.2.2)∧(edM i0 a0 (wI (y2.1 - (1:Int))) r5.2.1.1 r5.2.1.2.1 r5.2.1.2.2 y2.2.2.2.2.1 y2.2.2.2.2.2.1 y2.2.2.2.2.2.2.1 y2.2.2.2.2.2.2.2.1 y2.2.2.2.2.2.2.2.2.1 y2.2.2.2.2.2.2.2.2.2)<(edM i0 a0 y2.1 y2.2.1 y2.2.2.1 y2.2.2.2.1 y2.2.2.2.2.1 y2.2.2.2.2.2.1 y2.2.2.2.2.2.2.1 y2.2.2.2.2.2.2.2.1 y2.2.2.2.2.2.2.2.2.1 y2.2.2.2.2.2.2.2.2.2)))) (X00 (r3.1==(2:Int)) ((X0E (r3.2.1.1,(r3.2.1.2.1,r3.2.1.2.2)) 3)∧∀r8,(X4n (r3.2.1.1,(r3.2.1.2.1,r3.2.1.2.2)) 3 r8)→(X00 r8.1 ((X7n (r8.2.1.1,(r8.2.1.2.1,r8.2.1.2.2)) 60)∧∀r9,(Eq r9 ((X0V (r8.2.1.1,(r8.2.1.2.1,r8.2.1.2.2)) 60).1,((X0V (r8.2.1.1,(r8.2.1.2.1,r8.2.1.2.2)) 60).2,())))→((XgW (y2.2.2.2.2.2.2.2.1,(y2.2.2.2.2.2.2.2.2.1,y2.2.2.2.2.2.2.2.2.2)) (wI (y2.2.2.2.2.2.2.2.1+r9.1)))∧∀r10,(Eq r10 ((X4U (y2.2.2.2.2.2.2.2.1,(y2.2.2.2.2.2.2.2.2.1,y2.2.2.2.2.2.2.2.2.2)) (wI (y2.2.2.2.2.2.2.2.1+r9.1))),((),())))→(eS [(0,.box 0 0),(4,.box 5 0),(5,.box 6 0)] [(0,.box 0 0),(4,.box 5 0),(5,.box 6 0)]∧(edI i0 a0 (wI (y2.1 - (1:Int))) r9.2.1.1 r9.2.1.2.1 r9.2.1.2.2 y2.2.2.2.2.1 y2.2.2.2.2.2.1 y2.2.2.2.2.2.2.1 r10.1.1 r10.1.2.1 r10.1.2.2)∧(edM i0 a0 (wI (y2.1 - (1:Int))) r9.2.1.1 r9.2.1.2.1 r9.2.1.2.2 y2.2.2.2.2.1 y2.2.2.2.2.2.1 y2.2.2.2.2.2.2.1 r10.1.1 r10.1.2.1 r10.1.2.2)<(edM i0 a0 y2.1 y2.2.1 y2.2.2.1 y2.2.2.2.1 y2.2.2.2.2.1 y2.2.2.2.2.2.1 y2.2.2.2.2.2.2.1 y2.2.2.2.2.2.2.2.1 y2.2.2.2.2.2.2.2.2.1 y2.2.2.2.2.2.2.2.2.2)))) (eS [(0,.box 0 0),(4,.box 5 0),(5,.box 6 0)] [(0,.box 0 0),(4,.box 5 0),(5,.box 6 0)]∧(edI i0 a0 (wI (y2.1 - (1:Int))) r8.2.1.1 r8.2.1.2.1 r8.2.1.2.2 y2.2.2.2.2.1 y2.2.2.2.2.2.1 y2.2.2.2.2.2.2.1 y2.2.2.2.2.2.2.2.1 y2.2.2.2.2.2.2.2.2.1 y2.2.2.2.2.2.2.2.2.2)∧(edM i0 a0 (wI (y2.1 - (1:Int))) r8.2.1.1 r8.2.1.2.1 r8.2.1.2.2 y2.2.2.2.2.1 y2.2.2.2.2.2.1 y2.2.2.2.2.2.2.1 y2.2.2.2.2.2.2.2.1 y2.2.2.2.2.2.2.2.2.1 y2.2.2.2.2.2.2.2.2.2)<(edM i0 a0 y2.1 y2.2.1 y2.2.2.1 y2.2.2.2.1 y2.2.2.2.2.1 y2.2.2.2.2.2.1 y2.2.2.2.2.2.2.1 y2.2.2.2.2.2.2.2.1 y2.2.2.2.2.2.2.2.2.1 y2.2.2.2.2.2.2.2.2.2)))) ((X4v (r3.2.1.1,(r3.2.1.2.1,r3.2.1.2.2)))∧∀r11,(Eq r11 ((Xb2 (r3.2.1.1,(r3.2.1.2.1,r3.2.1.2.2))).1,((Xb2 (r3.2.1.1,(r3.2.1.2.1,r3.2.1.2.2))).2,())))→((X1v (r11.2.1.1,(r11.2.1.2.1,r11.2.1.2.2)) 9)∧∀r12,(X4W (r11.2.1.1,(r11.2.1.2.1,r11.2.1.2.2)) 9 r12)→((XpY (y2.2.2.2.2.2.2.2.1,(y2.2.2.2.2.2.2.2.2.1,y2.2.2.2.2.2.2.2.2.2)) r11.1 r12.1)∧∀r13,(Eq r13 ((Xfd (y2.2.2.2.2.2.2.2.1,(y2.2.2.2.2.2.2.2.2.1,y2.2.2.2.2.2.2.2.2.2)) r11.1 r12.1),((),())))→(eS [(0,.box 0 0),(4,.box 5 0),(5,.box 6 0)] [(0,.box 0 0),(4,.box 5 0),(5,.box 6 0)]∧(edI i0 a0 (wI (y2.1 - (1:Int))) r12.2.1.1 r12.2.1.2.1 r12.2.1.2.2 y2.2.2.2.2.1 y2.2.2.2.2.2.1 y2.2.2.2.2.2.2.1 r13.1.1.1 r13.1.1.2.1 r13.1.1.2.2)∧(edM i0 a0 (wI (y2.1 - (1:Int))) r12.2.1.1 r12.2.1.2.1 r12.2.1.2.2 y2.2.2.2.2.1 y2.2.2.2.2.2.1 y2.2.2.2.2.2.2.1 r13.1.1.1 r13.1.1.2.1 r13.1.1.2.2)<(edM i0 a0 y2.1 y2.2.1 y2.2.2.1 y2.2.2.2.1 y2.2.2.2.2.1 y2.2.2.2.2.2.1 y2.2.2.2.2.2.2.1 y2.2.2.2.2.2.2.2.1 y2.2.2.2.2.2.2.2.2.1 y2.2.2.2.2.2.2.2.2.2))))))))) ((Xlv (y2.2.2.2.2.2.2.2.1,(y2.2.2.2.2.2.2.2.2.1,y2.2.2.2.2.2.2.2.2.2)))∧∀r14,(Eq r14 ((Xls (y2.2.2.2.2.2.2.2.1,(y2.2.2.2.2.2.2.2.2.1,y2.2.2.2.2.2.2.2.2.2))),((),())))→(XpD i0 a0 ((r14.1.1,(r14.1.2.1,r14.1.2.2)),((y2.2.1,(y2.2.2.1,y2.2.2.2.1)),()))))))))
def X1z.L(i0:U7q)(a0:Int):Nat→Option X0d:=fun p=>Go.Proofs.YtcfaphojdacmbaaGreatR.Bv.look p [(58,{kp:={hold:=[0,4,5],slots:=[6],boxes:=[0,5,6],rows:=[{bx:=true,s:=6,i:=2,k:=13800775,e:=9,hot:=true}]},T:=(.pair (.int .i64) (.pair T8q (.pair (.int .i64) (.pair (.int .i64) (.pair (.int .i64) (.pair T9q (.pair (.list .str) T4q))))))),I:=fun st y=>edI i0 a0 y.1 y.2.1 y.2.2.1 y.2.2.2.1 y.2.2.2.2.1 y.2.2.2.2.2.1 y.2.2.2.2.2.2.1 y.2.2.2.2.2.2.2.1 y.2.2.2.2.2.2.2.2.1 y.2.2.2.2.2.2.2.2.2,μ:=fun st y=>edM i0 a0 y.1 y.2.1 y.2.2.1 y.2.2.2.1 y.2.2.2.2.1 y.2.2.2.2.2.1 y.2.2.2.2.2.2.1 y.2.2.2.2.2.2.2.1 y.2.2.2.2.2.2.2.2.1 y.2.2.2.2.2.2.2.2.2})]
theorem X1z.pure(i0:U7q)(a0:Int)(h:(X1v i0 a0))(hi:Wf X4r.I i0)(hw:Wf X4r.A a0):X1z.F i0 a0:=by
 delta X1z.F wI eS
 simp only[Bs,B0,B1,Prod.mk.injEq,X01,Prod.eta]
 obtain⟨hc,hm⟩:=h
 obtain⟨b1,b2,b3⟩:=Xl9 hc a0
 refine⟨hc,⟨b3,b1,by omega,by decide,⟨by simp[X27],by simp⟩⟩,?_⟩
 rintro⟨n,b,k,h,z0,z1,z2,f,ca,g⟩ ⟨cu,h1,h2,ok,pe⟩
 simp only at cu h1 h2 ok pe ⊢
 have G:=X6n ok pe
 have nx:∀{c1:Cur} {e1:Eng},n>0→X4v c1→X13 e1=true∧X5P e1→edI i0 a0 (n - 1) c1.1 c1.2.1 c1.2.2 z0 z1 z2 e1.1 e1.2.1 e1.2.2∧edM i0 a0 (n - 1) c1.1 c1.2.1 c1.2.2 z0 z1 z2 e1.1 e1.2.1 e1.2.2<edM i0 a0 n b k h z0 z1 z2 f ca g:=fun hn hc he=>⟨⟨hc,by omega,by omega,he.1,he.2⟩,by unfold edM;omega⟩
 refine⟨fun hi=>?_,fun hi=>?_⟩
 · obtain⟨d1,d2,d3⟩:=X5r cu (n:=8) (by omega)
   rw[w64 (x:=n - 1) (by omega) (by omega)]
   obtain⟨f1,f2,f3⟩:=Xqg ok pe
   refine⟨cu,fun hz=>⟨G,nx hi d3 f1⟩,fun hz=>⟨fun hz1=>⟨d3,fun r5 q5=>⟨fun ht=>⟨G,(X6n f1.1 f1.2).mono (by omega),nx hi q5 (XoU f1.1 f1.2 f2).1⟩,fun ht=>nx (e1:=(f,(ca,g))) hi q5 ⟨ok,pe⟩⟩⟩,fun hz1=>⟨fun hz2=>⟨d3,fun r8 q8=>⟨fun ht=>?_,fun ht=>nx (e1:=(f,(ca,g))) hi q8 ⟨ok,pe⟩⟩⟩,fun hz2=>⟨d3,⟨(X6k d3).2,by omega⟩,fun r12 q12=>⟨⟨ok,pe,by have:=(X6k d3).1;unfold XiJ maxLen;omega⟩,nx hi q12.2 (XhR ok pe _ r12.1).1⟩⟩⟩⟩⟩
   obtain⟨t1,t2,t3⟩:=X5r q8 (n:=60) (by omega)
   have hs:=X1I G.ca
   exact⟨q8,by unfold XgW;simp only at hs ⊢;omega,nx hi t3 (XjH ok pe _).1⟩
 · have hs:=X1I G.ca
   have hl:=G.le
   exact⟨⟨by simp only at hs ⊢;omega,by simp only at hl ⊢;omega⟩,⟨ok,pe⟩,cu⟩
theorem X1z.eq:EqS X4r Tryz.f161 [28] [X3i.e,X1U.e,X1G.e,X1M.e,X3y.e,X2o.e,X1y.e,X2e.e,X3j.e] [] (fun i x=>X1z.L i x) (fun i x=>X1z.F i x):=by intro i x;kernel_rfl
theorem X1z.ok:X0l Tryz.prog 161 X4r:=X2b X1z.eq Tryz.func161 rfl (by kernel_rfl) fun i x h hi hw=>X1z.pure i x h (hi rfl) hw
def X1z.e:GE:=⟨161,X4r,⟨_,Tryz.func161,rfl,rfl⟩,X1z.ok⟩
def X66:Con:={io:=true,I:=Xgs,B:=.unit,A:=(.int .i64),shA:=[.one],R:=T4q,shR:=[(true,3)],pre:=fun i a=>(X1v i a),post:=fun i a y=>(X7O i a y)}
def X31.F(i0:U7q)(a0:Int):Prop:=((X1v (i0.1,(i0.2.1,i0.2.2)) a0)∧∀r1,(XpD (i0.1,(i0.2.1,i0.2.2)) a0 r1)→((X0E (r1.2.1.1,(r1.2.1.2.1,r1.2.1.2.2)) 10)∧∀r2,(X4n (r1.2.1.1,(r1.2.1.2.1,r1.2.1.2.2)) 10 r2)→(X00 (!r2.1) (X7O i0 a0 ((r1.1.1,(r1.1.2.1,r1.1.2.2)),((r2.2.1.1,(r2.2.1.2.1,r2.2.1.2.2)),()))) ((X0E (r2.2.1.1,(r2.2.1.2.1,r2.2.1.2.2)) 5)∧∀r3,(X3n (r2.2.1.1,(r2.2.1.2.1,r2.2.1.2.2)) 5 r3)→(X00 (r3.1==(0:Int)) ((Xaa (r3.2.1.1,(r3.2.1.2.1,r3.2.1.2.2)) [(-1),0,200,1099511627776,1099511627777])∧∀r4,(Xa1 (r3.2.1.1,(r3.2.1.2.1,r3.2.1.2.2)) [(-1),0,200,1099511627776,1099511627777] r4)→(X7O i0 a0 ((r4.1,(r1.1.2.1,r1.1.2.2)),((r4.2.1.1,(r4.2.1.2.1,r4.2.1.2.2)),())))) (X00 (r3.1==(1:Int)) ((X1v (r3.2.1.1,(r3.2.1.2.1,r3.2.1.2.2)) 12)∧∀r5,(Xfs (r3.2.1.1,(r3.2.1.2.1,r3.2.1.2.2)) 12 r5)→(X7O i0 a0 ((r1.1.1,(r5.1,r1.1.2.2)),((r5.2.1.1,(r5.2.1.2.1,r5.2.1.2.2)),())))) (X00 (r3.1==(2:Int)) ((X1v (r3.2.1.1,(r3.2.1.2.1,r3.2.1.2.2)) 4)∧∀r6,(XfW (r3.2.1.1,(r3.2.1.2.1,r3.2.1.2.2)) 4 r6)→(List.length r1.1.2.2+List.length [r6.1]≤9223372036854775807∧((List.length r1.1.2.2+List.length [r6.1])*16≤140737488355328∧(X7O i0 a0 ((r1.1.1,(r1.1.2.1,(r1.1.2.2++[r6.1]))),((r6.2.1.1,(r6.2.1.2.1,r6.2.1.2.2)),())))))) (X00 (r3.1==(3:Int)) (eS [(0,.box 0 0),(4,.box 5 0),(5,.box 6 0)] [(0,.box 0 0),(4,.box 5 0),(5,.box 6 0)]∧((adI i0 a0 0 r3.2.1.1 r3.2.1.2.1 r3.2.1.2.2 0 r1.1.1 ([]:List U1q) ([]:List U5q) r1.1.2.1 r1.1.2.2)∧∀(y7:(Int×((List Int)×(Int×(Int×(Int×(Int×((List U1q)×((List U5q)×((List U1q)×(List U5q))))))))))),(adI i0 a0 y7.1 y7.2.1 y7.2.2.1 y7.2.2.2.1 y7.2.2.2.2.1 y7.2.2.2.2.2.1 y7.2.2.2.2.2.2.1 y7.2.2.2.2.2.2.2.1 y7.2.2.2.2.2.2.2.2.1 y7.2.2.2.2.2.2.2.2.2)→(X00 (decide (y7.1<(5:Int))) ((X1v (y7.2.1,(y7.2.2.1,y7.2.2.2.1)) 3)∧∀r8,(X4W (y7.2.1,(y7.2.2.1,y7.2.2.2.1)) 3 r8)→((X27 [([97],r8.1)])∧∀r9,(Eq r9 ((X0j [([97],r8.1)]),((),())))→(List.length y7.2.2.2.2.2.2.2.2.2+List.length [r9.1]≤9223372036854775807∧((List.length y7.2.2.2.2.2.2.2.2.2+List.length [r9.1])*16≤140737488355328∧(eS [(0,.box 0 0),(4,.box 5 0),(5,.box 6 0)] [(0,.box 0 0),(4,.box 5 0),(5,.box 6 0)]∧(adI i0 a0 (wI (y7.1+(1:Int))) r8.2.1.1 r8.2.1.2.1 r8.2.1.2.2 y7.2.2.2.2.1 y7.2.2.2.2.2.1 y7.2.2.2.2.2.2.1 y7.2.2.2.2.2.2.2.1 y7.2.2.2.2.2.2.2.2.1 (y7.2.2.2.2.2.2.2.2.2++[r9.1]))∧(adM i0 a0 (wI (y7.1+(1:Int))) r8.2.1.1 r8.2.1.2.1 r8.2.1.2.2 y7.2.2.2.2.1 y7.2.2.2.2.2.1 y7.2.2.2.2.2.2.1 y7.2.2.2.2.2.2.2.1 y7.2.2.2.2.2.2.2.2.1 (y7.2.2.2.2.2.2.2.2.2++[r9.1]))<(adM i0 a0 y7.1 y7.2.1 y7.2.2.1 y7.2.2.2.1 y7.2.2.2.2.1 y7.2.2.2.2.2.1 y7.2.2.2.2.2.2.1 y7.2.2.2.2.2.2.2.1 y7.2.2.2.2.2.2.2.2.1 y7.2.2.2.2.2.2.2.2.2)))))) (X7O i0 a0 ((y7.2.2.2.2.2.1,(y7.2.2.2.2.2.2.2.2.1,y7.2.2.2.2.2.2.2.2.2)),((y7.2.1,(y7.2.2.1,y7.2.2.2.1)),())))))) (X00 (decide ((ln r1.1.2.2)>(0:Int))) (0≤(0:Int)∧((0:Int)<(ln r1.1.2.2)∧((XgO (r3.2.1.1,(r3.2.1.2.1,r3.2.1.2.2)) (List.getD r1.1.2.2 (tN (0:Int)) []))∧∀r10,(XbD (r3.2.1.1,(r3.2.1.2.1,r3.2.1.2.2)) (List.getD r1.1.2.2 (tN (0:Int)) []) r10)→(0≤(0:Int)∧((0:Int)<(ln r1.1.2.2)∧(X7O i0 a0 ((r1.1.1,(r1.1.2.1,(List.set r1.1.2.2 (tN (0:Int)) r10.1))),((r10.2.1.1,(r10.2.1.2.1,r10.2.1.2.2)),())))))))) (X7O i0 a0 ((r1.1.1,(r1.1.2.1,r1.1.2.2)),((r3.2.1.1,(r3.2.1.2.1,r3.2.1.2.2)),()))))))))))))
def X31.L(i0:U7q)(a0:Int):Nat→Option X0d:=fun p=>Go.Proofs.YtcfaphojdacmbaaGreatR.Bv.look p [(125946,{kp:={hold:=[0,4,5],slots:=[6],boxes:=[0,5,6],rows:=[{bx:=true,s:=5,i:=1,k:=13800645,e:=83,hot:=true},{bx:=true,s:=5,i:=2,k:=13800647,e:=9,hot:=true},{bx:=true,s:=6,i:=1,k:=13800773,e:=83,hot:=true},{bx:=true,s:=6,i:=2,k:=13800775,e:=9,hot:=true}]},T:=(.pair (.int .i64) (.pair T8q (.pair (.int .i64) (.pair (.int .i64) (.pair (.int .i64) (.pair (.int .i64) (.pair T9q (.pair (.list .str) (.pair T9q (.list .str)))))))))),I:=fun st y=>adI i0 a0 y.1 y.2.1 y.2.2.1 y.2.2.2.1 y.2.2.2.2.1 y.2.2.2.2.2.1 y.2.2.2.2.2.2.1 y.2.2.2.2.2.2.2.1 y.2.2.2.2.2.2.2.2.1 y.2.2.2.2.2.2.2.2.2,μ:=fun st y=>adM i0 a0 y.1 y.2.1 y.2.2.1 y.2.2.2.1 y.2.2.2.2.1 y.2.2.2.2.2.1 y.2.2.2.2.2.2.1 y.2.2.2.2.2.2.2.1 y.2.2.2.2.2.2.2.2.1 y.2.2.2.2.2.2.2.2.2})]
theorem X31.pure(i0:U7q)(a0:Int)(h:(X1v i0 a0))(hi:Wf X66.I i0)(hw:Wf X66.A a0):X31.F i0 a0:=by
 delta X31.F ln tN wI eS
 simp only[Bs,B0,B1,Prod.mk.injEq,X01,Prod.eta]
 have e0:(0:Int).toNat=0:=rfl
 rw[e0]
 refine⟨h,fun r1 q1=>⟨q1.2,fun r2 q2=>⟨fun hb=>⟨Xs0 q1.1.1 q1.1.2,q2⟩,fun hb=>⟨q2,fun r3 q3=>?_⟩⟩⟩⟩
 obtain⟨⟨ok,pe⟩,_⟩:=q1
 have q3':=q3.2.2
 have S:=Xs0 ok pe
 have G:=X6n ok pe
 have gl:=G.le
 have gf:=G.fl
 obtain⟨s1,s2,s3,s4,s5,s6⟩:=S
 have fl0:∀l:List Str,(∀x∈l,Xgn x)→X5P (r1.1.1,(r1.1.2.1,l)):=fun l hl=>⟨pe.1,hl⟩
 refine⟨fun hz=>⟨⟨q3',by simp⟩,fun r4 q4=>?_⟩,fun hz=>⟨fun hz1=>⟨⟨q3',by omega⟩,fun r5 q5=>?_⟩,fun hz1=>⟨fun hz2=>⟨⟨q3',by omega⟩,fun r6 q6=>?_⟩,fun hz2=>⟨fun hz3=>⟨⟨q3',by omega,by omega,by omega,gf,⟨s4,s5⟩,pe⟩,?_⟩,fun hz3=>⟨fun ho=>?_,fun ho=>⟨⟨s1,s2,s3,s4,s5,s6⟩,q3'⟩⟩⟩⟩⟩⟩
 · have:∀x∈[(-1:Int),0,200,1099511627776,1099511627777],-1≤x∧x≤1099511627777:=by decide
   obtain⟨t1,t2⟩:=this _ q4.1
   exact⟨⟨t1,t2,s3,s4,s5,s6⟩,q4.2⟩
 · obtain⟨⟨m1,m2⟩,m3⟩:=q5
   have ht:=XoS m2
   exact⟨⟨s1,s2,⟨fun x hx=>by have:=(m2 x hx).1;unfold maxLen;omega,s3.2⟩,by simp only;omega,by simp only;omega,s6⟩,m3⟩
 · have k6:=q6.1
   refine⟨by omega,by omega,⟨⟨s1,s2,fl0 _ (XaO s3.2 (by unfold Xgn maxLen;omega)),s4,s5,by simp;omega⟩,q6.2⟩⟩
 · rintro⟨i,b,k,hh,z0,f,z1,z2,ca,g⟩ ⟨cu,h1,h2,h3,fl,cl,pe2⟩
   simp only at cu h1 h2 h3 fl cl pe2 ⊢
   refine⟨fun hi=>⟨⟨cu,by omega⟩,fun r8 q8=>⟨by simp[X27,maxLen],by omega,by omega,?_⟩⟩,fun hi=>⟨⟨by simp only;omega,by simp only;omega,pe2,cl.1,cl.2,by simp only;omega⟩,cu⟩⟩
   rw[w64 (x:=i+1) (by omega) (by omega)]
   have hf:=Xez [([97],r8.1)]
   exact⟨⟨q8.2,by omega,by omega,by simp;omega,fl,cl,⟨pe2.1,XaO pe2.2 (by unfold Xgn maxLen;omega)⟩⟩,by unfold adM;omega⟩
 · have m0:=s3.2 _ (X14 (d:=([]:Str)) (l:=r1.1.2.2) (i:=0) (by omega))
   have o0:Xm5 (r1.1.2.2.getD 0 [])=true:=by
    have:=G.ok
    unfold okF at this
    exact List.all_eq_true.1 this _ (X14 (by omega))
   have l0:(r1.1.2.2.getD 0 []).length≤20000:=by
    unfold Xm5 at o0
    unfold X0e at o0
    split at o0
    · rename_i hr;rw[←hr.2];exact Xez _
    · cases o0
   refine⟨by omega,by omega,⟨q3',by omega⟩,fun r10 q10=>⟨by omega,by omega,⟨⟨s1,s2,fl0 _ fun x hx=>?_,s4,s5,by simp only[List.length_set];omega⟩,q10.2⟩⟩⟩
   rcases List.mem_or_eq_of_mem_set hx with hx | hx
   · exact s3.2 x hx
   · rw[hx];have:=q10.1;unfold Xgn maxLen;omega
theorem X31.eq:EqS X66 Tryz.f85 [28] [X1U.e,X1G.e,X1n.e,X1C.e,X0N.e,X1z.e,X1K.e,X3E.e,X2K.e] [] (fun i x=>X31.L i x) (fun i x=>X31.F i x):=by intro i x;kernel_rfl
theorem X31.ok:X0l Tryz.prog 85 X66:=X2b X31.eq Tryz.func85 rfl (by kernel_rfl) fun i x h hi hw=>X31.pure i x h (hi rfl) hw
def X31.e:GE:=⟨85,X66,⟨_,Tryz.func85,rfl,rfl⟩,X31.ok⟩
theorem X5k{code:List Int}{y:Int×(Unit×Unit)}(h:X8g code 25 y):y.1≤1000:=by have:y.1≤25:=h;omega
def dpI(code:List Int)(i z0:Int)(z1:List Ser)(z2:List Str)(b:List Int)(k h:Int)(p:List Pt):Prop:=X4v (b,k,h)∧0≤i∧i≤41∧p.length=i
def dpM(code:List Int)(i z0:Int)(z1:List Ser)(z2:List Str)(b:List Int)(k h:Int)(p:List Pt):Nat:=(41 - i).toNat
theorem XaX{code:List Int}{y:Cur×(Unit×Unit)}(h:Xqv code y):X4v y.1:=⟨by have:=h.2;omega,by have:=h.2;omega,h.1⟩
theorem XhC:∀x∈[[],[66],[122,122,122,122,122,122,122,122,122],[111,116,104,101,114],[109,111,114,101]],List.length (x:Str)≤9:=by decide
def X73:Con:={I:=.unit,B:=.unit,A:=T8q,shA:=[.one],R:=(.pair T4q T2q),shR:=[(true,3),(false,1),(false,1)],pre:=fun _ _=>True,post:=fun _ a y=>(X9T a y)}
def X2r.F(a0:(List Int)):Prop:=(True∧∀r1,(Xqv a0 r1)→((X4v (r1.1.1,(r1.1.2.1,r1.1.2.2)))∧∀r2,(Eq r2 ((Xb2 (r1.1.1,(r1.1.2.1,r1.1.2.2))).1,((Xb2 (r1.1.1,(r1.1.2.1,r1.1.2.2))).2,())))→((X0E (r2.2.1.1,(r2.2.1.2.1,r2.2.1.2.2)) 15)∧∀r3,(X4n (r2.2.1.1,(r2.2.1.2.1,r2.2.1.2.2)) 15 r3)→(X00 r3.1 ((XfJ (r3.2.1.1,(r3.2.1.2.1,r3.2.1.2.2)) [[],[66],[122,122,122,122,122,122,122,122,122],[111,116,104,101,114],[109,111,114,101]])∧∀r4,(Eq r4 ((X9h (r3.2.1.1,(r3.2.1.2.1,r3.2.1.2.2)) [[],[66],[122,122,122,122,122,122,122,122,122],[111,116,104,101,114],[109,111,114,101]]).1,((X9h (r3.2.1.1,(r3.2.1.2.1,r3.2.1.2.2)) [[],[66],[122,122,122,122,122,122,122,122,122],[111,116,104,101,114],[109,111,114,101]]).2,())))→((X1v (r4.2.1.1,(r4.2.1.2.1,r4.2.1.2.2)) 12)∧∀r5,(X4W (r4.2.1.1,(r4.2.1.2.1,r4.2.1.2.2)) 12 r5)→((X0E (r5.2.1.1,(r5.2.1.2.1,r5.2.1.2.2)) 6)∧∀r6,(X4n (r5.2.1.1,(r5.2.1.2.1,r5.2.1.2.2)) 6 r6)→(X00 r6.1 ((X1v (r6.2.1.1,(r6.2.1.2.1,r6.2.1.2.2)) 6)∧∀r7,(X4W (r6.2.1.1,(r6.2.1.2.1,r6.2.1.2.2)) 6 r7)→((X0E (r7.2.1.1,(r7.2.1.2.1,r7.2.1.2.2)) 20)∧∀r8,(X4n (r7.2.1.1,(r7.2.1.2.1,r7.2.1.2.2)) 20 r8)→(X00 r8.1 ((X0E (r8.2.1.1,(r8.2.1.2.1,r8.2.1.2.2)) 12)∧∀r9,(X4n (r8.2.1.1,(r8.2.1.2.1,r8.2.1.2.2)) 12 r9)→(X00 r9.1 (eS [(0,.val false [.lst (.int .u8) a0 none]),(2,.box 3 0),(5,.box 11 0),(6,.val false [.str r4.1])] [(0,.val false [.lst (.int .u8) a0 none]),(2,.box 3 0),(5,.box 11 0),(6,.val false [.str r4.1])]∧((dpI a0 0 0 ([]:List U1q) ([]:List U5q) r9.2.1.1 r9.2.1.2.1 r9.2.1.2.2 ([]:List (Int×Int)))∧∀(y10:Xp9),(dpI a0 y10.1 y10.2.1 y10.2.2.1 y10.2.2.2.1 y10.2.2.2.2.1 y10.2.2.2.2.2.1 y10.2.2.2.2.2.2.1 y10.2.2.2.2.2.2.2)→(X00 (decide (y10.1<(41:Int))) (List.length y10.2.2.2.2.2.2.2+List.length [((wI ((300:Int)+(wI ((2:Int)*y10.1)))),y10.1)]≤9223372036854775807∧((List.length y10.2.2.2.2.2.2.2+List.length [((wI ((300:Int)+(wI ((2:Int)*y10.1)))),y10.1)])*16≤140737488355328∧(eS [(0,.val false [.lst (.int .u8) a0 none]),(2,.box 3 0),(5,.box 11 0),(6,.val false [.str r4.1])] [(0,.val false [.lst (.int .u8) a0 none]),(2,.box 3 0),(5,.box 11 0),(6,.val false [.str r4.1])]∧(dpI a0 (wI (y10.1+(1:Int))) y10.2.1 y10.2.2.1 y10.2.2.2.1 y10.2.2.2.2.1 y10.2.2.2.2.2.1 y10.2.2.2.2.2.2.1 (y10.2.2.2.2.2.2.2++[((wI ((300:Int)+(wI ((2:Int)*y10.1)))),y10.1)]))∧(dpM a0 (wI (y10.1+(1:Int))) y10.2.1 y10.2.2.1 y10.2.2.2.1 y10.2.2.2.2.1 y10.2.2.2.2.2.1 y10.2.2.2.2.2.2.1 (y10.2.2.2.2.2.2.2++[((wI ((300:Int)+(wI ((2:Int)*y10.1)))),y10.1)]))<(dpM a0 y10.1 y10.2.1 y10.2.2.1 y10.2.2.2.1 y10.2.2.2.2.1 y10.2.2.2.2.2.1 y10.2.2.2.2.2.2.1 y10.2.2.2.2.2.2.2)))) (True∧∀r11,(X8g a0 25 r11)→((X1v (y10.2.2.2.2.1,(y10.2.2.2.2.2.1,y10.2.2.2.2.2.2.1)) r11.1)∧∀r12,(X7O (y10.2.2.2.2.1,(y10.2.2.2.2.2.1,y10.2.2.2.2.2.2.1)) r11.1 r12)→(X9T a0 (((r12.1.1,(r12.1.2.1,r12.1.2.2)),(r4.1,y10.2.2.2.2.2.2.2)),((),())))))))) (True∧∀r13,(X8g a0 25 r13)→((X1v (r9.2.1.1,(r9.2.1.2.1,r9.2.1.2.2)) r13.1)∧∀r14,(X7O (r9.2.1.1,(r9.2.1.2.1,r9.2.1.2.2)) r13.1 r14)→(X9T a0 (((r14.1.1,(r14.1.2.1,r14.1.2.2)),(r4.1,([]:U6q))),((),()))))))) ((X0E (r8.2.1.1,(r8.2.1.2.1,r8.2.1.2.2)) 12)∧∀r15,(X4n (r8.2.1.1,(r8.2.1.2.1,r8.2.1.2.2)) 12 r15)→(X00 r15.1 (eS [(0,.val false [.lst (.int .u8) a0 none]),(2,.box 3 0),(5,.box 11 0),(6,.val false [.str r4.1])] [(0,.val false [.lst (.int .u8) a0 none]),(2,.box 3 0),(5,.box 11 0),(6,.val false [.str r4.1])]∧((dpI a0 0 0 ([]:List U1q) ([]:List U5q) r15.2.1.1 r15.2.1.2.1 r15.2.1.2.2 ([]:List (Int×Int)))∧∀(y16:Xp9),(dpI a0 y16.1 y16.2.1 y16.2.2.1 y16.2.2.2.1 y16.2.2.2.2.1 y16.2.2.2.2.2.1 y16.2.2.2.2.2.2.1 y16.2.2.2.2.2.2.2)→(X00 (decide (y16.1<(41:Int))) (List.length y16.2.2.2.2.2.2.2+List.length [((wI ((300:Int)+(wI ((2:Int)*y16.1)))),y16.1)]≤9223372036854775807∧((List.length y16.2.2.2.2.2.2.2+List.length [((wI ((300:Int)+(wI ((2:Int)*y16.1)))),y16.1)])*16≤140737488355328∧(eS [(0,.val false [.lst (.int .u8) a0 none]),(2,.box 3 0),(5,.box 11 0),(6,.val false [.str r4.1])] [(0,.val false [.lst (.int .u8) a0 none]),(2,.box 3 0),(5,.box 11 0),(6,.val false [.str r4.1])]∧(dpI a0 (wI (y16.1+(1:Int))) y16.2.1 y16.2.2.1 y16.2.2.2.1 y16.2.2.2.2.1 y16.2.2.2.2.2.1 y16.2.2.2.2.2.2.1 (y16.2.2.2.2.2.2.2++[((wI ((300:Int)+(wI ((2:Int)*y16.1)))),y16.1)]))∧(dpM a0 (wI (y16.1+(1:Int))) y16.2.1 y16.2.2.1 y16.2.2.2.1 y16.2.2.2.2.1 y16.2.2.2.2.2.1 y16.2.2.2.2.2.2.1 (y16.2.2.2.2.2.2.2++[((wI ((300:Int)+(wI ((2:Int)*y16.1)))),y16.1)]))<(dpM a0 y16.1 y16.2.1 y16.2.2.1 y16.2.2.2.1 y16.2.2.2.2.1 y16.2.2.2.2.2.1 y16.2.2.2.2.2.2.1 y16.2.2.2.2.2.2.2)))) (True∧∀r17,(X8g a0 25 r17)→((X1v (y16.2.2.2.2.1,(y16.2.2.2.2.2.1,y16.2.2.2.2.2.2.1)) r17.1)∧∀r18,(X7O (y16.2.2.2.2.1,(y16.2.2.2.2.2.1,y16.2.2.2.2.2.2.1)) r17.1 r18)→(X9T a0 (((r18.1.1,(r18.1.2.1,r18.1.2.2)),(r4.1,y16.2.2.2.2.2.2.2)),((),())))))))) (True∧∀r19,(X8g a0 25 r19)→((X1v (r15.2.1.1,(r15.2.1.2.1,r15.2.1.2.2)) r19.1)∧∀r20,(X7O (r15.2.1.1,(r15.2.1.2.1,r15.2.1.2.2)) r19.1 r20)→(X9T a0 (((r20.1.1,(r20.1.2.1,r20.1.2.2)),(r4.1,r7.1)),((),())))))))))) ((X0E (r6.2.1.1,(r6.2.1.2.1,r6.2.1.2.2)) 20)∧∀r21,(X4n (r6.2.1.1,(r6.2.1.2.1,r6.2.1.2.2)) 20 r21)→(X00 r21.1 ((X0E (r21.2.1.1,(r21.2.1.2.1,r21.2.1.2.2)) 12)∧∀r22,(X4n (r21.2.1.1,(r21.2.1.2.1,r21.2.1.2.2)) 12 r22)→(X00 r22.1 (eS [(0,.val false [.lst (.int .u8) a0 none]),(2,.box 3 0),(5,.box 11 0),(6,.val false [.str r4.1])] [(0,.val false [.lst (.int .u8) a0 none]),(2,.box 3 0),(5,.box 11 0),(6,.val false [.str r4.1])]∧((dpI a0 0 0 ([]:List U1q) ([]:List U5q) r22.2.1.1 r22.2.1.2.1 r22.2.1.2.2 ([]:List (Int×Int)))∧∀(y23:Xp9),(dpI a0 y23.1 y23.2.1 y23.2.2.1 y23.2.2.2.1 y23.2.2.2.2.1 y23.2.2.2.2.2.1 y23.2.2.2.2.2.2.1 y23.2.2.2.2.2.2.2)→(X00 (decide (y23.1<(41:Int))) (List.length y23.2.2.2.2.2.2.2+List.length [((wI ((300:Int)+(wI ((2:Int)*y23.1)))),y23.1)]≤9223372036854775807∧((List.length y23.2.2.2.2.2.2.2+List.length [((wI ((300:Int)+(wI ((2:Int)*y23.1)))),y23.1)])*16≤140737488355328∧(eS [(0,.val false [.lst (.int .u8) a0 none]),(2,.box 3 0),(5,.box 11 0),(6,.val false [.str r4.1])] [(0,.val false [.lst (.int .u8) a0 none]),(2,.box 3 0),(5,.box 11 0),(6,.val false [.str r4.1])]∧(dpI a0 (wI (y23.1+(1:Int))) y23.2.1 y23.2.2.1 y23.2.2.2.1 y23.2.2.2.2.1 y23.2.2.2.2.2.1 y23.2.2.2.2.2.2.1 (y23.2.2.2.2.2.2.2++[((wI ((300:Int)+(wI ((2:Int)*y23.1)))),y23.1)]))∧(dpM a0 (wI (y23.1+(1:Int))) y23.2.1 y23.2.2.1 y23.2.2.2.1 y23.2.2.2.2.1 y23.2.2.2.2.2.1 y23.2.2.2.2.2.2.1 (y23.2.2.2.2.2.2.2++[((wI ((300:Int)+(wI ((2:Int)*y23.1)))),y23.1)]))<(dpM a0 y23.1 y23.2.1 y23.2.2.1 y23.2.2.2.1 y23.2.2.2.2.1 y23.2.2.2.2.2.1 y23.2.2.2.2.2.2.1 y23.2.2.2.2.2.2.2)))) (True∧∀r24,(X8g a0 25 r24)→((X1v (y23.2.2.2.2.1,(y23.2.2.2.2.2.1,y23.2.2.2.2.2.2.1)) r24.1)∧∀r25,(X7O (y23.2.2.2.2.1,(y23.2.2.2.2.2.1,y23.2.2.2.2.2.2.1)) r24.1 r25)→(X9T a0 (((r25.1.1,(r25.1.2.1,r25.1.2.2)),(r4.1,y23.2.2.2.2.2.2.2)),((),())))))))) (True∧∀r26,(X8g a0 25 r26)→((X1v (r22.2.1.1,(r22.2.1.2.1,r22.2.1.2.2)) r26.1)∧∀r27,(X7O (r22.2.1.1,(r22.2.1.2.1,r22.2.1.2.2)) r26.1 r27)→(X9T a0 (((r27.1.1,(r27.1.2.1,r27.1.2.2)),(r4.1,([]:U6q))),((),()))))))) ((X0E (r21.2.1.1,(r21.2.1.2.1,r21.2.1.2.2)) 12)∧∀r28,(X4n (r21.2.1.1,(r21.2.1.2.1,r21.2.1.2.2)) 12 r28)→(X00 r28.1 (eS [(0,.val false [.lst (.int .u8) a0 none]),(2,.box 3 0),(5,.box 11 0),(6,.val false [.str r4.1])] [(0,.val false [.lst (.int .u8) a0 none]),(2,.box 3 0),(5,.box 11 0),(6,.val false [.str r4.1])]∧((dpI a0 0 0 ([]:List U1q) ([]:List U5q) r28.2.1.1 r28.2.1.2.1 r28.2.1.2.2 ([]:List (Int×Int)))∧∀(y29:Xp9),(dpI a0 y29.1 y29.2.1 y29.2.2.1 y29.2.2.2.1 y29.2.2.2.2.1 y29.2.2.2.2.2.1 y29.2.2.2.2.2.2.1 y29.2.2.2.2.2.2.2)→(X00 (decide (y29.1<(41:Int))) (List.length y29.2.2.2.2.2.2.2+List.length [((wI ((300:Int)+(wI ((2:Int)*y29.1)))),y29.1)]≤9223372036854775807∧((List.length y29.2.2.2.2.2.2.2+List.length [((wI ((300:Int)+(wI ((2:Int)*y29.1)))),y29.1)])*16≤140737488355328∧(eS [(0,.val false [.lst (.int .u8) a0 none]),(2,.box 3 0),(5,.box 11 0),(6,.val false [.str r4.1])] [(0,.val false [.lst (.int .u8) a0 none]),(2,.box 3 0),(5,.box 11 0),(6,.val false [.str r4.1])]∧(dpI a0 (wI (y29.1+(1:Int))) y29.2.1 y29.2.2.1 y29.2.2.2.1 y29.2.2.2.2.1 y29.2.2.2.2.2.1 y29.2.2.2.2.2.2.1 (y29.2.2.2.2.2.2.2++[((wI ((300:Int)+(wI ((2:Int)*y29.1)))),y29.1)]))∧(dpM a0 (wI (y29.1+(1:Int))) y29.2.1 y29.2.2.1 y29.2.2.2.1 y29.2.2.2.2.1 y29.2.2.2.2.2.1 y29.2.2.2.2.2.2.1 (y29.2.2.2.2.2.2.2++[((wI ((300:Int)+(wI ((2:Int)*y29.1)))),y29.1)]))<(dpM a0 y29.1 y29.2.1 y29.2.2.1 y29.2.2.2.1 y29.2.2.2.2.1 y29.2.2.2.2.2.1 y29.2.2.2.2.2.2.1 y29.2.2.2.2.2.2.2)))) (True∧∀r30,(X8g a0 25 r30)→((X1v (y29.2.2.2.2.1,(y29.2.2.2.2.2.1,y29.2.2.2.2.2.2.1)) r30.1)∧∀r31,(X7O (y29.2.2.2.2.1,(y29.2.2.2.2.2.1,y29.2.2.2.2.2.2.1)) r30.1 r31)→(X9T a0 (((r31.1.1,(r31.1.2.1,r31.1.2.2)),(r4.1,y29.2.2.2.2.2.2.2)),((),())))))))) (True∧∀r32,(X8g a0 25 r32)→((X1v (r28.2.1.1,(r28.2.1.2.1,r28.2.1.2.2)) r32.1)∧∀r33,(X7O (r28.2.1.1,(r28.2.1.2.1,r28.2.1.2.2)) r32.1 r33)→(X9T a0 (((r33.1.1,(r33.1.2.1,r33.1.2.2)),(r4.1,r5.1)),((),()))))))))))))) ((X1v (r3.2.1.1,(r3.2.1.2.1,r3.2.1.2.2)) 12)∧∀r34,(X4W (r3.2.1.1,(r3.2.1.2.1,r3.2.1.2.2)) 12 r34)→((X0E (r34.2.1.1,(r34.2.1.2.1,r34.2.1.2.2)) 6)∧∀r35,(X4n (r34.2.1.1,(r34.2.1.2.1,r34.2.1.2.2)) 6 r35)→(X00 r35.1 ((X1v (r35.2.1.1,(r35.2.1.2.1,r35.2.1.2.2)) 6)∧∀r36,(X4W (r35.2.1.1,(r35.2.1.2.1,r35.2.1.2.2)) 6 r36)→((X0E (r36.2.1.1,(r36.2.1.2.1,r36.2.1.2.2)) 20)∧∀r37,(X4n (r36.2.1.1,(r36.2.1.2.1,r36.2.1.2.2)) 20 r37)→(X00 r37.1 ((X0E (r37.2.1.1,(r37.2.1.2.1,r37.2.1.2.2)) 12)∧∀r38,(X4n (r37.2.1.1,(r37.2.1.2.1,r37.2.1.2.2)) 12 r38)→(X00 r38.1 (eS [(0,.val false [.lst (.int .u8) a0 none]),(2,.box 3 0),(5,.box 11 0),(6,.val false [.str r2.1])] [(0,.val false [.lst (.int .u8) a0 none]),(2,.box 3 0),(5,.box 11 0),(6,.val false [.str r2.1])]∧((dpI a0 0 0 ([]:List U1q) ([]:List U5q) r38.2.1.1 r38.2.1.2.1 r38.2.1.2.2 ([]:List (Int×Int)))∧∀(y39:Xp9),(dpI a0 y39.1 y39.2.1 y39.2.2.1 y39.2.2.2.1 y39.2.2.2.2.1 y39.2.2.2.2.2.1 y39.2.2.2.2.2.2.1 y39.2.2.2.2.2.2.2)→(X00 (decide (y39.1<(41:Int))) (List.length y39.2.2.2.2.2.2.2+List.length [((wI ((300:Int)+(wI ((2:Int)*y39.1)))),y39.1)]≤9223372036854775807∧((List.length y39.2.2.2.2.2.2.2+List.length [((wI ((300:Int)+(wI ((2:Int)*y39.1)))),y39.1)])*16≤140737488355328∧(eS [(0,.val false [.lst (.int .u8) a0 none]),(2,.box 3 0),(5,.box 11 0),(6,.val false [.str r2.1])] [(0,.val false [.lst (.int .u8) a0 none]),(2,.box 3 0),(5,.box 11 0),(6,.val false [.str r2.1])]∧(dpI a0 (wI (y39.1+(1:Int))) y39.2.1 y39.2.2.1 y39.2.2.2.1 y39.2.2.2.2.1 y39.2.2.2.2.2.1 y39.2.2.2.2.2.2.1 (y39.2.2.2.2.2.2.2++[((wI ((300:Int)+(wI ((2:Int)*y39.1)))),y39.1)]))∧(dpM a0 (wI (y39.1+(1:Int))) y39.2.1 y39.2.2.1 y39.2.2.2.1 y39.2.2.2.2.1 y39.2.2.2.2.2.1 y39.2.2.2.2.2.2.1 (y39.2.2.2.2.2.2.2++[((wI ((300:Int)+(wI ((2:Int)*y39.1)))),y39.1)]))<(dpM a0 y39.1 y39.2.1 y39.2.2.1 y39.2.2.2.1 y39.2.2.2.2.1 y39.2.2.2.2.2.1 y39.2.2.2.2.2.2.1 y39.2.2.2.2.2.2.2)))) (True∧∀r40,(X8g a0 25 r40)→((X1v (y39.2.2.2.2.1,(y39.2.2.2.2.2.1,y39.2.2.2.2.2.2.1)) r40.1)∧∀r41,(X7O (y39.2.2.2.2.1,(y39.2.2.2.2.2.1,y39.2.2.2.2.2.2.1)) r40.1 r41)→(X9T a0 (((r41.1.1,(r41.1.2.1,r41.1.2.2)),(r2.1,y39.2.2.2.2.2.2.2)),((),())))))))) (True∧∀r42,(X8g a0 25 r42)→((X1v (r38.2.1.1,(r38.2.1.2.1,r38.2.1.2.2)) r42.1)∧∀r43,(X7O (r38.2.1.1,(r38.2.1.2.1,r38.2.1.2.2)) r42.1 r43)→(X9T a0 (((r43.1.1,(r43.1.2.1,r43.1.2.2)),(r2.1,([]:U6q))),((),()))))))) ((X0E (r37.2.1.1,(r37.2.1.2.1,r37.2.1.2.2)) 12)∧∀r44,(X4n (r37.2.1.1,(r37.2.1.2.1,r37.2.1.2.2)) 12 r44)→(X00 r44.1 (eS [(0,.val false [.lst (.int .u8) a0 none]),(2,.box 3 0),(5,.box 11 0),(6,.val false [.str r2.1])] [(0,.val false [.lst (.int .u8) a0 none]),(2,.box 3 0),(5,.box 11 0),(6,.val false [.str r2.1])]∧((dpI a0 0 0 ([]:List U1q) ([]:List U5q) r44.2.1.1 r44.2.1.2.1 r44.2.1.2.2 ([]:List (Int×Int)))∧∀(y45:Xp9),(dpI a0 y45.1 y45.2.1 y45.2.2.1 y45.2.2.2.1 y45.2.2.2.2.1 y45.2.2.2.2.2.1 y45.2.2.2.2.2.2.1 y45.2.2.2.2.2.2.2)→(X00 (decide (y45.1<(41:Int))) (List.length y45.2.2.2.2.2.2.2+List.length [((wI ((300:Int)+(wI ((2:Int)*y45.1)))),y45.1)]≤9223372036854775807∧((List.length y45.2.2.2.2.2.2.2+List.length [((wI ((300:Int)+(wI ((2:Int)*y45.1)))),y45.1)])*16≤140737488355328∧(eS [(0,.val false [.lst (.int .u8) a0 none]),(2,.box 3 0),(5,.box 11 0),(6,.val false [.str r2.1])] [(0,.val false [.lst (.int .u8) a0 none]),(2,.box 3 0),(5,.box 11 0),(6,.val false [.str r2.1])]∧(dpI a0 (wI (y45.1+(1:Int))) y45.2.1 y45.2.2.1 y45.2.2.2.1 y45.2.2.2.2.1 y45.2.2.2.2.2.1 y45.2.2.2.2.2.2.1 (y45.2.2.2.2.2.2.2++[((wI ((300:Int)+(wI ((2:Int)*y45.1)))),y45.1)]))∧(dpM a0 (wI (y45.1+(1:Int))) y45.2.1 y45.2.2.1 y45.2.2.2.1 y45.2.2.2.2.1 y45.2.2.2.2.2.1 y45.2.2.2.2.2.2.1 (y45.2.2.2.2.2.2.2++[((wI ((300:Int)+(wI ((2:Int)*y45.1)))),y45.1)]))<(dpM a0 y45.1 y45.2.1 y45.2.2.1 y45.2.2.2.1 y45.2.2.2.2.1 y45.2.2.2.2.2.1 y45.2.2.2.2.2.2.1 y45.2.2.2.2.2.2.2)))) (True∧∀r46,(X8g a0 25 r46)→((X1v (y45.2.2.2.2.1,(y45.2.2.2.2.2.1,y45.2.2.2.2.2.2.1)) r46.1)∧∀r47,(X7O (y45.2.2.2.2.1,(y45.2.2.2.2.2.1,y45.2.2.2.2.2.2.1)) r46.1 r47)→(X9T a0 (((r47.1.1,(r47.1.2.1,r47.1.2.2)),(r2.1,y45.2.2.2.2.2.2.2)),((),())))))))) (True∧∀r48,(X8g a0 25 r48)→((X1v (r44.2.1.1,(r44.2.1.2.1,r44.2.1.2.2)) r48.1)∧∀r49,(X7O (r44.2.1.1,(r44.2.1.2.1,r44.2.1.2.2)) r48.1 r49)→(X9T a0 (((r49.1.1,(r49.1.2.1,r49.1.2.2)),(r2.1,r36.1)),((),())))))))))) ((X0E (r35.2.1.1,(r35.2.1.2.1,r35.2.1.2.2)) 20)∧∀r50,(X4n (r35.2.1.1,(r35.2.1.2.1,r35.2.1.2.2)) 20 r50)→(X00 r50.1 ((X0E (r50.2.1.1,(r50.2.1.2.1,r50.2.1.2.2)) 12)∧∀r51,(X4n (r50.2.1.1,(r50.2.1.2.1,r50.2.1.2.2)) 12 r51)→(X00 r51.1 (eS [(0,.val false [.lst (.int .u8) a0 none]),(2,.box 3 0),(5,.box 11 0),(6,.val false [.str r2.1])] [(0,.val false [.lst (.int .u8) a0 none]),(2,.box 3 0),(5,.box 11 0),(6,.val false [.str r2.1])]∧((dpI a0 0 0 ([]:List U1q) ([]:List U5q) r51.2.1.1 r51.2.1.2.1 r51.2.1.2.2 ([]:List (Int×Int)))∧∀(y52:Xp9),(dpI a0 y52.1 y52.2.1 y52.2.2.1 y52.2.2.2.1 y52.2.2.2.2.1 y52.2.2.2.2.2.1 y52.2.2.2.2.2.2.1 y52.2.2.2.2.2.2.2)→(X00 (decide (y52.1<(41:Int))) (List.length y52.2.2.2.2.2.2.2+List.length [((wI ((300:Int)+(wI ((2:Int)*y52.1)))),y52.1)]≤9223372036854775807∧((List.length y52.2.2.2.2.2.2.2+List.length [((wI ((300:Int)+(wI ((2:Int)*y52.1)))),y52.1)])*16≤140737488355328∧(eS [(0,.val false [.lst (.int .u8) a0 none]),(2,.box 3 0),(5,.box 11 0),(6,.val false [.str r2.1])] [(0,.val false [.lst (.int .u8) a0 none]),(2,.box 3 0),(5,.box 11 0),(6,.val false [.str r2.1])]∧(dpI a0 (wI (y52.1+(1:Int))) y52.2.1 y52.2.2.1 y52.2.2.2.1 y52.2.2.2.2.1 y52.2.2.2.2.2.1 y52.2.2.2.2.2.2.1 (y52.2.2.2.2.2.2.2++[((wI ((300:Int)+(wI ((2:Int)*y52.1)))),y52.1)]))∧(dpM a0 (wI (y52.1+(1:Int))) y52.2.1 y52.2.2.1 y52.2.2.2.1 y52.2.2.2.2.1 y52.2.2.2.2.2.1 y52.2.2.2.2.2.2.1 (y52.2.2.2.2.2.2.2++[((wI ((300:Int)+(wI ((2:Int)*y52.1)))),y52.1)]))<(dpM a0 y52.1 y52.2.1 y52.2.2.1 y52.2.2.2.1 y52.2.2.2.2.1 y52.2.2.2.2.2.1 y52.2.2.2.2.2.2.1 y52.2.2.2.2.2.2.2)))) (True∧∀r53,(X8g a0 25 r53)→((X1v (y52.2.2.2.2.1,(y52.2.2.2.2.2.1,y52.2.2.2.2.2.2.1)) r53.1)∧∀r54,(X7O (y52.2.2.2.2.1,(y52.2.2.2.2.2.1,y52.2.2.2.2.2.2.1)) r53.1 r54)→(X9T a0 (((r54.1.1,(r54.1.2.1,r54.1.2.2)),(r2.1,y52.2.2.2.2.2.2.2)),((),())))))))) (True∧∀r55,(X8g a0 25 r55)→((X1v (r51.2.1.1,(r51.2.1.2.1,r51.2.1.2.2)) r55.1)∧∀r56,(X7O (r51.2.1.1,(r51.2.1.2.1,r51.2.1.2.2)) r55.1 r56)→(X9T a0 (((r56.1.1,(r56.1.2.1,r56.1.2.2)),(r2.1,([]:U6q))),((),()))))))) ((X0E (r50.2.1.1,(r50.2.1.2.1,r50.2.1.2.2)) 12)∧∀r57,(X4n (r50.2.1.1,(r50.2.1.2.1,r50.2.1.2.2)) 12 r57)→(X00 r57.1 (eS [(0,.val false [.lst (.int .u8) a0 none]),(2,.box 3 0),(5,.box 11 0),(6,.val false [.str r2.1])] [(0,.val false [.lst (.int .u8) a0 none]),(2,.box 3 0),(5,.box 11 0),(6,.val false [.str r2.1])]∧((dpI a0 0 0 ([]:List U1q) ([]:List U5q) r57.2.1.1 r57.2.1.2.1 r57.2.1.2.2 ([]:List (Int×Int)))∧∀(y58:Xp9),(dpI a0 y58.1 y58.2.1 y58.2.2.1 y58.2.2.2.1 y58.2.2.2.2.1 y58.2.2.2.2.2.1 y58.2.2.2.2.2.2.1 y58.2.2.2.2.2.2.2)→(X00 (decide (y58.1<(41:Int))) (List.length y58.2.2.2.2.2.2.2+List.length [((wI ((300:Int)+(wI ((2:Int)*y58.1)))),y58.1)]≤9223372036854775807∧((List.length y58.2.2.2.2.2.2.2+List.length [((wI ((300:Int)+(wI ((2:Int)*y58.1)))),y58.1)])*16≤140737488355328∧(eS [(0,.val false [.lst (.int .u8) a0 none]),(2,.box 3 0),(5,.box 11 0),(6,.val false [.str r2.1])] [(0,.val false [.lst (.int .u8) a0 none]),(2,.box 3 0),(5,.box 11 0),(6,.val false [.str r2.1])]∧(dpI a0 (wI (y58.1+(1:Int))) y58.2.1 y58.2.2.1 y58.2.2.2.1 y58.2.2.2.2.1 y58.2.2.2.2.2.1 y58.2.2.2.2.2.2.1 (y58.2.2.2.2.2.2.2++[((wI ((300:Int)+(wI ((2:Int)*y58.1)))),y58.1)]))∧(dpM a0 (wI (y58.1+(1:Int))) y58.2.1 y58.2.2.1 y58.2.2.2.1 y58.2.2.2.2.1 y58.2.2.2.2.2.1 y58.2.2.2.2.2.2.1 (y58.2.2.2.2.2.2.2++[((wI ((300:Int)+(wI ((2:Int)*y58.1)))),y58.1)]))<(dpM a0 y58.1 y58.2.1 y58.2.2.1 y58.2.2.2.1 y58.2.2.2.2.1 y58.2.2.2.2.2.1 y58.2.2.2.2.2.2.1 y58.2.2.2.2.2.2.2)))) (True∧∀r59,(X8g a0 25 r59)→((X1v (y58.2.2.2.2.1,(y58.2.2.2.2.2.1,y58.2.2.2.2.2.2.1)) r59.1)∧∀r60,(X7O (y58.2.2.2.2.1,(y58.2.2.2.2.2.1,y58.2.2.2.2.2.2.1)) r59.1 r60)→(X9T a0 (((r60.1.1,(r60.1.2.1,r60.1.2.2)),(r2.1,y58.2.2.2.2.2.2.2)),((),())))))))) (True∧∀r61,(X8g a0 25 r61)→((X1v (r57.2.1.1,(r57.2.1.2.1,r57.2.1.2.2)) r61.1)∧∀r62,(X7O (r57.2.1.1,(r57.2.1.2.1,r57.2.1.2.2)) r61.1 r62)→(X9T a0 (((r62.1.1,(r62.1.2.1,r62.1.2.2)),(r2.1,r34.1)),((),()))))))))))))))))
def X2r.L(a0:(List Int)):Nat→Option X0d:=fun p=>Go.Proofs.YtcfaphojdacmbaaGreatR.Bv.look p [(16342,{kp:={hold:=[0,2,5,6],slots:=[7,8],boxes:=[3,11],rows:=[{bx:=false,s:=7,i:=0,k:=1000899,e:=85,hot:=true}]},T:=(.pair (.int .i64) (.pair (.int .i64) (.pair T9q (.pair (.list .str) (.pair T8q (.pair (.int .i64) Xlq)))))),I:=fun st y=>dpI a0 y.1 y.2.1 y.2.2.1 y.2.2.2.1 y.2.2.2.2.1 y.2.2.2.2.2.1 y.2.2.2.2.2.2.1 y.2.2.2.2.2.2.2,μ:=fun st y=>dpM a0 y.1 y.2.1 y.2.2.1 y.2.2.2.1 y.2.2.2.2.1 y.2.2.2.2.2.1 y.2.2.2.2.2.2.1 y.2.2.2.2.2.2.2})]
theorem X2r.pure(a0:(List Int))(h:True)(hw:Wf X73.A a0):X2r.F a0:=by
 delta X2r.F wI eS
 simp only[Bs,B0,B1,Prod.mk.injEq,X01,Prod.eta]
 refine fun r1 q1=>⟨XaX q1,(X6k (XaX q1)).2,fun r3 q3=>⟨fun h3=>⟨⟨q3,by simp⟩,⟨(X5A ⟨q3,by simp⟩).2,by omega⟩,fun r5 q5=>⟨q5.2,fun r6 q6=>⟨fun h6=>⟨⟨q6,by omega⟩,fun r7 q7=>⟨q7.2,fun r8 q8=>⟨fun h8=>?_,fun h8=>?_⟩⟩⟩,fun h6=>⟨q6,fun r8 q8=>⟨fun h8=>?_,fun h8=>?_⟩⟩⟩⟩⟩,fun h3=>⟨⟨q3,by omega⟩,fun r5 q5=>⟨q5.2,fun r6 q6=>⟨fun h6=>⟨⟨q6,by omega⟩,fun r7 q7=>⟨q7.2,fun r8 q8=>⟨fun h8=>?_,fun h8=>?_⟩⟩⟩,fun h6=>⟨q6,fun r8 q8=>⟨fun h8=>?_,fun h8=>?_⟩⟩⟩⟩⟩⟩⟩
 · refine⟨q8,fun rB qB=>⟨fun hB=>⟨⟨qB,by omega,by omega,rfl⟩,fun y hI=>?_⟩,fun hB=>fun rD qD=>⟨⟨qB,X5k qD⟩,fun rE qE=>⟨qE.1,(XhC _ (X5A ⟨q3,by simp⟩).1),(by simp)⟩⟩⟩⟩
   obtain⟨i,z0,z1,z2,b,k,hh,pp⟩:=y
   obtain⟨cu,j1,j2,j3⟩:=hI
   simp only at cu j1 j2 j3 ⊢
   refine⟨fun hi=>?_,fun hi=>fun rD qD=>⟨⟨cu,X5k qD⟩,fun rE qE=>⟨qE.1,(XhC _ (X5A ⟨q3,by simp⟩).1),by simp only;omega⟩⟩⟩
   rw[w64 (x:=i+1) (by omega) (by omega)]
   exact⟨by omega,by omega,⟨cu,by omega,by omega,by simp;omega⟩,by unfold dpM;omega⟩
 · refine⟨q8,fun rB qB=>⟨fun hB=>⟨⟨qB,by omega,by omega,rfl⟩,fun y hI=>?_⟩,fun hB=>fun rD qD=>⟨⟨qB,X5k qD⟩,fun rE qE=>⟨qE.1,(XhC _ (X5A ⟨q3,by simp⟩).1),q7.1⟩⟩⟩⟩
   obtain⟨i,z0,z1,z2,b,k,hh,pp⟩:=y
   obtain⟨cu,j1,j2,j3⟩:=hI
   simp only at cu j1 j2 j3 ⊢
   refine⟨fun hi=>?_,fun hi=>fun rD qD=>⟨⟨cu,X5k qD⟩,fun rE qE=>⟨qE.1,(XhC _ (X5A ⟨q3,by simp⟩).1),by simp only;omega⟩⟩⟩
   rw[w64 (x:=i+1) (by omega) (by omega)]
   exact⟨by omega,by omega,⟨cu,by omega,by omega,by simp;omega⟩,by unfold dpM;omega⟩
 · refine⟨q8,fun rB qB=>⟨fun hB=>⟨⟨qB,by omega,by omega,rfl⟩,fun y hI=>?_⟩,fun hB=>fun rD qD=>⟨⟨qB,X5k qD⟩,fun rE qE=>⟨qE.1,(XhC _ (X5A ⟨q3,by simp⟩).1),(by simp)⟩⟩⟩⟩
   obtain⟨i,z0,z1,z2,b,k,hh,pp⟩:=y
   obtain⟨cu,j1,j2,j3⟩:=hI
   simp only at cu j1 j2 j3 ⊢
   refine⟨fun hi=>?_,fun hi=>fun rD qD=>⟨⟨cu,X5k qD⟩,fun rE qE=>⟨qE.1,(XhC _ (X5A ⟨q3,by simp⟩).1),by simp only;omega⟩⟩⟩
   rw[w64 (x:=i+1) (by omega) (by omega)]
   exact⟨by omega,by omega,⟨cu,by omega,by omega,by simp;omega⟩,by unfold dpM;omega⟩
 · refine⟨q8,fun rB qB=>⟨fun hB=>⟨⟨qB,by omega,by omega,rfl⟩,fun y hI=>?_⟩,fun hB=>fun rD qD=>⟨⟨qB,X5k qD⟩,fun rE qE=>⟨qE.1,(XhC _ (X5A ⟨q3,by simp⟩).1),q5.1⟩⟩⟩⟩
   obtain⟨i,z0,z1,z2,b,k,hh,pp⟩:=y
   obtain⟨cu,j1,j2,j3⟩:=hI
   simp only at cu j1 j2 j3 ⊢
   refine⟨fun hi=>?_,fun hi=>fun rD qD=>⟨⟨cu,X5k qD⟩,fun rE qE=>⟨qE.1,(XhC _ (X5A ⟨q3,by simp⟩).1),by simp only;omega⟩⟩⟩
   rw[w64 (x:=i+1) (by omega) (by omega)]
   exact⟨by omega,by omega,⟨cu,by omega,by omega,by simp;omega⟩,by unfold dpM;omega⟩
 · refine⟨q8,fun rB qB=>⟨fun hB=>⟨⟨qB,by omega,by omega,rfl⟩,fun y hI=>?_⟩,fun hB=>fun rD qD=>⟨⟨qB,X5k qD⟩,fun rE qE=>⟨qE.1,(Nat.le_trans (X6k (XaX q1)).1 (by decide)),(by simp)⟩⟩⟩⟩
   obtain⟨i,z0,z1,z2,b,k,hh,pp⟩:=y
   obtain⟨cu,j1,j2,j3⟩:=hI
   simp only at cu j1 j2 j3 ⊢
   refine⟨fun hi=>?_,fun hi=>fun rD qD=>⟨⟨cu,X5k qD⟩,fun rE qE=>⟨qE.1,(Nat.le_trans (X6k (XaX q1)).1 (by decide)),by simp only;omega⟩⟩⟩
   rw[w64 (x:=i+1) (by omega) (by omega)]
   exact⟨by omega,by omega,⟨cu,by omega,by omega,by simp;omega⟩,by unfold dpM;omega⟩
 · refine⟨q8,fun rB qB=>⟨fun hB=>⟨⟨qB,by omega,by omega,rfl⟩,fun y hI=>?_⟩,fun hB=>fun rD qD=>⟨⟨qB,X5k qD⟩,fun rE qE=>⟨qE.1,(Nat.le_trans (X6k (XaX q1)).1 (by decide)),q7.1⟩⟩⟩⟩
   obtain⟨i,z0,z1,z2,b,k,hh,pp⟩:=y
   obtain⟨cu,j1,j2,j3⟩:=hI
   simp only at cu j1 j2 j3 ⊢
   refine⟨fun hi=>?_,fun hi=>fun rD qD=>⟨⟨cu,X5k qD⟩,fun rE qE=>⟨qE.1,(Nat.le_trans (X6k (XaX q1)).1 (by decide)),by simp only;omega⟩⟩⟩
   rw[w64 (x:=i+1) (by omega) (by omega)]
   exact⟨by omega,by omega,⟨cu,by omega,by omega,by simp;omega⟩,by unfold dpM;omega⟩
 · refine⟨q8,fun rB qB=>⟨fun hB=>⟨⟨qB,by omega,by omega,rfl⟩,fun y hI=>?_⟩,fun hB=>fun rD qD=>⟨⟨qB,X5k qD⟩,fun rE qE=>⟨qE.1,(Nat.le_trans (X6k (XaX q1)).1 (by decide)),(by simp)⟩⟩⟩⟩
   obtain⟨i,z0,z1,z2,b,k,hh,pp⟩:=y
   obtain⟨cu,j1,j2,j3⟩:=hI
   simp only at cu j1 j2 j3 ⊢
   refine⟨fun hi=>?_,fun hi=>fun rD qD=>⟨⟨cu,X5k qD⟩,fun rE qE=>⟨qE.1,(Nat.le_trans (X6k (XaX q1)).1 (by decide)),by simp only;omega⟩⟩⟩
   rw[w64 (x:=i+1) (by omega) (by omega)]
   exact⟨by omega,by omega,⟨cu,by omega,by omega,by simp;omega⟩,by unfold dpM;omega⟩
 · refine⟨q8,fun rB qB=>⟨fun hB=>⟨⟨qB,by omega,by omega,rfl⟩,fun y hI=>?_⟩,fun hB=>fun rD qD=>⟨⟨qB,X5k qD⟩,fun rE qE=>⟨qE.1,(Nat.le_trans (X6k (XaX q1)).1 (by decide)),q5.1⟩⟩⟩⟩
   obtain⟨i,z0,z1,z2,b,k,hh,pp⟩:=y
   obtain⟨cu,j1,j2,j3⟩:=hI
   simp only at cu j1 j2 j3 ⊢
   refine⟨fun hi=>?_,fun hi=>fun rD qD=>⟨⟨cu,X5k qD⟩,fun rE qE=>⟨qE.1,(Nat.le_trans (X6k (XaX q1)).1 (by decide)),by simp only;omega⟩⟩⟩
   rw[w64 (x:=i+1) (by omega) (by omega)]
   exact⟨by omega,by omega,⟨cu,by omega,by omega,by simp;omega⟩,by unfold dpM;omega⟩
theorem X2r.eq:EqS X73 Tryz.f27 [28,9,64] [X3u.e,X3i.e,X1U.e,X33.e,X1G.e,X22.e,X31.e,X3F.e] [] (fun i x=>X2r.L x) (fun i x=>X2r.F x):=by intro i x;kernel_rfl
theorem X2r.ok:X0l Tryz.prog 27 X73:=X2b X2r.eq Tryz.func27 rfl (by kernel_rfl) fun i x h hi hw=>X2r.pure x h hw
def X2r.e:GE:=⟨27,X73,⟨_,Tryz.func27,rfl,rfl⟩,X2r.ok⟩
end Go.Proofs.YtcfaphojdacmbaaGreatR.B
