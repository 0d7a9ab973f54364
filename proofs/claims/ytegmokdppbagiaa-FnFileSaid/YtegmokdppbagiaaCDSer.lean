/- Series that are drawn. -/
import Derived.Test.YtegmokdppbagiaaCDrawX
import Derived.Test.YtegmokdppbagiaaCFile
set_option maxRecDepth 100000
set_option linter.unusedVariables false
set_option linter.unusedSimpArgs false
namespace Go.Proofs.Ytegmokdppbagiaa.B
open Go Go.Proofs.Ytegmokdppbagiaa.Bv
abbrev Str:=List UInt8
def XdI(c:Cur)(l:List Str):Prop:=X4I c∧0<l.length
def SmS(n:Nat)(l:List Ser):Prop:=l.length≤n∧∀x∈l,x.1.length≤9∧x.2.length≤1002
def XaO(c:Cur)(most:Int)(y:List Ser×(Cur×Unit)):Prop:=SmS 6 y.1∧X4I y.2.1
structure sdI (c:Cur) (most i:Int) (b:List Int) (k h:Int) (out:List Ser):Prop where
 cu:X4I (b,k,h)
 h1:0≤i
 h2:i≤5
 h3:out.length≤i
 h4:∀x∈out,x.1.length≤9∧x.2.length≤1001
def sdM(c:Cur)(most i:Int)(b:List Int)(k h:Int)(out:List Ser):Nat:=(5 - i).toNat
theorem Xee{n:Nat}{l:List Ser}(h:l.length≤n)(h4:∀x∈l,x.1.length≤9∧x.2.length≤1001):SmS n l:=⟨h,fun x hx=>by have:=h4 x hx;omega⟩
theorem X8t{α:Type}{l:List α}{y:α}{P:α→Prop}(h:∀x∈l,P x)(hy:P y):∀x∈l++[y],P x:=fun x hx=>by
 rcases List.mem_append.1 hx with hx | hx
 · exact h x hx
 · rw[List.mem_singleton.1 hx];exact hy
theorem XfK:∀x∈[[97],[99,112,117],[100,105,115,107],[109,101,109],[122,122,122,122,122,122,122,122]],List.length (x:Str)≤8:=by decide
def X82(c:Cur)(l:List Str):Str×Cur:=(l.getD (X1F c l.length).1.toNat [],(X1F c l.length).2)
theorem Xdp{c:Cur}{l:List Str}(h:XdI c l):(X82 c l).1∈l∧X4I (X82 c l).2:=by
 obtain⟨hc,hl⟩:=h
 obtain⟨a1,a2,a3⟩:=X7e hc (n:=(l.length:Int)) (by omega)
 exact⟨X6N (by omega),a3⟩
def X3l:Con:={io:=true,I:=(.pair T6q T0q),A:=(.list .str),shA:=[.one],R:=.str,shR:=[(false,1)],pre:=fun i a=>(XdI i a),f:=some fun i a=>((X82 i a).1,((X82 i a).2,()))}
def X1E.F(i0:U5q)(a0:(List U3q)):Prop:=((X99 (i0.1,(i0.2.1,i0.2.2)) (ln a0))∧∀r1,(Eq r1 ((X1F (i0.1,(i0.2.1,i0.2.2)) (ln a0)).1,((X1F (i0.1,(i0.2.1,i0.2.2)) (ln a0)).2,())))→(0≤r1.1∧(r1.1<(ln a0)∧(Eq ((List.getD a0 (tN r1.1) []),((r1.2.1.1,(r1.2.1.2.1,r1.2.1.2.2)),())) ((X82 i0 a0).1,((X82 i0 a0).2,()))))))
theorem X1E.pure(i0:U5q)(a0:(List U3q))(h:(XdI i0 a0))(hi:Wf X3l.I i0)(hw:Wf X3l.A a0):X1E.F i0 a0:=by
 delta X1E.F ln tN
 simp only[Bs,B0,B1,Prod.mk.injEq,X06,Prod.eta]
 obtain⟨hc,hl⟩:=h
 obtain⟨a1,a2,a3⟩:=X7e hc (n:=(a0.length:Int)) (by omega)
 exact⟨hc,by omega,by omega,rfl,rfl⟩
theorem X1E.eq:EqS X3l Try.f79 [9] [X0Y.e] [] noL (fun i x=>X1E.F i x):=by intro i x;kernel_rfl
theorem X1E.ok:X11 Try.prog 79 X3l:=X3V X1E.eq Try.func79 rfl (by kernel_rfl) fun i x h hi hw=>X1E.pure i x h (hi rfl) hw
def X1E.e:GE:=⟨79,X3l,⟨_,Try.func79,rfl,rfl⟩,X1E.ok⟩
def X2o:Con:={io:=true,I:=(.pair T6q T0q),B:=.unit,A:=(.int .i64),shA:=[.one],R:=(.list T1q),shR:=[(false,1)],pre:=fun i a=>(X7b i a),post:=fun i a y=>(XaO i a y)}
def X0T.F(i0:U5q)(a0:Int):Prop:=(eS [(0,.box 0 0),(1,.val false [.int .i64 a0]),(6,.val false [.lst .str [[97],[99,112,117],[100,105,115,107],[109,101,109],[122,122,122,122,122,122,122,122]] none])] [(0,.box 0 0),(1,.val false [.int .i64 a0]),(6,.val false [.lst .str [[97],[99,112,117],[100,105,115,107],[109,101,109],[122,122,122,122,122,122,122,122]] none])]∧((sdI i0 a0 0 i0.1 i0.2.1 i0.2.2 ([]:List (U3q×U4q)))∧∀(y1:(Int×((List Int)×(Int×(Int×U2q))))),(sdI i0 a0 y1.1 y1.2.1 y1.2.2.1 y1.2.2.2.1 y1.2.2.2.2)→(X04 (decide (y1.1<(ln [[97],[99,112,117],[100,105,115,107],[109,101,109],[122,122,122,122,122,122,122,122]]))) ((X5u (y1.2.1,(y1.2.2.1,y1.2.2.2.1)) 2)∧∀r2,(XeY (y1.2.1,(y1.2.2.1,y1.2.2.2.1)) 2 r2)→(X04 r2.1 (0≤y1.1∧(y1.1<(ln [[97],[99,112,117],[100,105,115,107],[109,101,109],[122,122,122,122,122,122,122,122]])∧((X7b (r2.2.1.1,(r2.2.1.2.1,r2.2.1.2.2)) a0)∧∀r3,(X8P (r2.2.1.1,(r2.2.1.2.1,r2.2.1.2.2)) a0 r3)→(List.length y1.2.2.2.2+List.length ([((List.getD [[97],[99,112,117],[100,105,115,107],[109,101,109],[122,122,122,122,122,122,122,122]] (tN y1.1) []),r3.1)]:List (U3q×U4q))≤9223372036854775807∧((List.length y1.2.2.2.2+List.length ([((List.getD [[97],[99,112,117],[100,105,115,107],[109,101,109],[122,122,122,122,122,122,122,122]] (tN y1.1) []),r3.1)]:List (U3q×U4q)))*40≤140737488355328∧(eS [(0,.box 0 0),(1,.val false [.int .i64 a0]),(6,.val false [.lst .str [[97],[99,112,117],[100,105,115,107],[109,101,109],[122,122,122,122,122,122,122,122]] none])] [(0,.box 0 0),(1,.val false [.int .i64 a0]),(6,.val false [.lst .str [[97],[99,112,117],[100,105,115,107],[109,101,109],[122,122,122,122,122,122,122,122]] none])]∧(sdI i0 a0 (wI (y1.1+(1:Int))) r3.2.1.1 r3.2.1.2.1 r3.2.1.2.2 (y1.2.2.2.2++[((List.getD [[97],[99,112,117],[100,105,115,107],[109,101,109],[122,122,122,122,122,122,122,122]] (tN y1.1) []),r3.1)]))∧(sdM i0 a0 (wI (y1.1+(1:Int))) r3.2.1.1 r3.2.1.2.1 r3.2.1.2.2 (y1.2.2.2.2++[((List.getD [[97],[99,112,117],[100,105,115,107],[109,101,109],[122,122,122,122,122,122,122,122]] (tN y1.1) []),r3.1)]))<(sdM i0 a0 y1.1 y1.2.1 y1.2.2.1 y1.2.2.2.1 y1.2.2.2.2))))))) (eS [(0,.box 0 0),(1,.val false [.int .i64 a0]),(6,.val false [.lst .str [[97],[99,112,117],[100,105,115,107],[109,101,109],[122,122,122,122,122,122,122,122]] none])] [(0,.box 0 0),(1,.val false [.int .i64 a0]),(6,.val false [.lst .str [[97],[99,112,117],[100,105,115,107],[109,101,109],[122,122,122,122,122,122,122,122]] none])]∧(sdI i0 a0 (wI (y1.1+(1:Int))) r2.2.1.1 r2.2.1.2.1 r2.2.1.2.2 y1.2.2.2.2)∧(sdM i0 a0 (wI (y1.1+(1:Int))) r2.2.1.1 r2.2.1.2.1 r2.2.1.2.2 y1.2.2.2.2)<(sdM i0 a0 y1.1 y1.2.1 y1.2.2.1 y1.2.2.2.1 y1.2.2.2.2)))) ((X5u (y1.2.1,(y1.2.2.1,y1.2.2.2.1)) 12)∧∀r4,(XeY (y1.2.1,(y1.2.2.1,y1.2.2.2.1)) 12 r4)→(X04 r4.1 ((X99 (r4.2.1.1,(r4.2.1.2.1,r4.2.1.2.2)) 4)∧∀r5,(Eq r5 ((X1F (r4.2.1.1,(r4.2.1.2.1,r4.2.1.2.2)) 4).1,((X1F (r4.2.1.1,(r4.2.1.2.1,r4.2.1.2.2)) 4).2,())))→(X04 (r5.1==(0:Int)) ((XdI (r5.2.1.1,(r5.2.1.2.1,r5.2.1.2.2)) [[],[65],[98],[122,122,122,122,122,122,122,122,122],[122,122]])∧∀r6,(Eq r6 ((X82 (r5.2.1.1,(r5.2.1.2.1,r5.2.1.2.2)) [[],[65],[98],[122,122,122,122,122,122,122,122,122],[122,122]]).1,((X82 (r5.2.1.1,(r5.2.1.2.1,r5.2.1.2.2)) [[],[65],[98],[122,122,122,122,122,122,122,122,122],[122,122]]).2,())))→((X7b (r6.2.1.1,(r6.2.1.2.1,r6.2.1.2.2)) 2)∧∀r7,(X8P (r6.2.1.1,(r6.2.1.2.1,r6.2.1.2.2)) 2 r7)→(List.length y1.2.2.2.2+List.length [(r6.1,r7.1)]≤9223372036854775807∧((List.length y1.2.2.2.2+List.length [(r6.1,r7.1)])*40≤140737488355328∧(XaO i0 a0 ((y1.2.2.2.2++[(r6.1,r7.1)]),((r7.2.1.1,(r7.2.1.2.1,r7.2.1.2.2)),()))))))) (X04 (r5.1==(1:Int)) (List.length y1.2.2.2.2+List.length [([122,122,122,122,122,122,122,122],([]:U4q))]≤9223372036854775807∧((List.length y1.2.2.2.2+List.length [([122,122,122,122,122,122,122,122],([]:U4q))])*40≤140737488355328∧(XaO i0 a0 ((y1.2.2.2.2++[([122,122,122,122,122,122,122,122],([]:U4q))]),((r5.2.1.1,(r5.2.1.2.1,r5.2.1.2.2)),()))))) (X04 (r5.1==(2:Int)) (X04 (decide ((ln y1.2.2.2.2)>(0:Int))) (0≤(0:Int)∧((0:Int)<(ln y1.2.2.2.2)∧((X99 (r5.2.1.1,(r5.2.1.2.1,r5.2.1.2.2)) 300)∧∀r8,(Eq r8 ((X1F (r5.2.1.1,(r5.2.1.2.1,r5.2.1.2.2)) 300).1,((X1F (r5.2.1.1,(r5.2.1.2.1,r5.2.1.2.2)) 300).2,())))→(List.length ((List.getD y1.2.2.2.2 (tN (0:Int)) ([],[])).2)+List.length [(r8.1,0)]≤9223372036854775807∧((List.length ((List.getD y1.2.2.2.2 (tN (0:Int)) ([],[])).2)+List.length [(r8.1,0)])*16≤140737488355328∧(0≤(0:Int)∧((0:Int)<(ln (List.set y1.2.2.2.2 (tN (0:Int)) ((List.getD y1.2.2.2.2 (tN (0:Int)) ([],[])).1,([]:U4q))))∧((tN (0:Int))=(tN (0:Int))∧(let l9:List (U3q×U4q):=(List.set (List.set y1.2.2.2.2 (tN (0:Int)) ((List.getD y1.2.2.2.2 (tN (0:Int)) ([],[])).1,([]:U4q))) (tN (0:Int)) ((List.getD (List.set y1.2.2.2.2 (tN (0:Int)) ((List.getD y1.2.2.2.2 (tN (0:Int)) ([],[])).1,([]:U4q))) (tN (0:Int)) ([],[])).1,(((List.getD y1.2.2.2.2 (tN (0:Int)) ([],[])).2)++[(r8.1,0)])));(XaO i0 a0 (l9,((r8.2.1.1,(r8.2.1.2.1,r8.2.1.2.2)),())))))))))))) (XaO i0 a0 (y1.2.2.2.2,((r5.2.1.1,(r5.2.1.2.1,r5.2.1.2.2)),())))) (X04 (decide ((ln y1.2.2.2.2)>(1:Int))) (0<List.length y1.2.2.2.2∧(0≤(1:Int)∧((1:Int)≤(ln y1.2.2.2.2)∧(0≤(0:Int)∧((0:Int)<(ln y1.2.2.2.2)∧((tN (1:Int))<List.length y1.2.2.2.2∧(Eq (List.length y1.2.2.2.2) (List.length y1.2.2.2.2)∧(List.length (List.drop (tN (1:Int)) y1.2.2.2.2)+List.length ([((List.getD y1.2.2.2.2 (tN (0:Int)) ([],[])).1,(List.getD y1.2.2.2.2 (tN (0:Int)) ([],[])).2)]:List (U3q×U4q))≤9223372036854775807∧((List.length (List.drop (tN (1:Int)) y1.2.2.2.2)+List.length ([((List.getD y1.2.2.2.2 (tN (0:Int)) ([],[])).1,(List.getD y1.2.2.2.2 (tN (0:Int)) ([],[])).2)]:List (U3q×U4q)))*40≤140737488355328∧(XaO i0 a0 (((List.drop (tN (1:Int)) y1.2.2.2.2)++[((List.getD y1.2.2.2.2 (tN (0:Int)) ([],[])).1,(List.getD y1.2.2.2.2 (tN (0:Int)) ([],[])).2)]),((r5.2.1.1,(r5.2.1.2.1,r5.2.1.2.2)),())))))))))))) (XaO i0 a0 (y1.2.2.2.2,((r5.2.1.1,(r5.2.1.2.1,r5.2.1.2.2)),())))))))) (XaO i0 a0 (y1.2.2.2.2,((r4.2.1.1,(r4.2.1.2.1,r4.2.1.2.2)),()))))))))
def X0T.L(i0:U5q)(a0:Int):Nat→Option X0g:=fun p=>Go.Proofs.Ytegmokdppbagiaa.Bv.look p [(122,{kp:={hold:=[0,1,6],slots:=[5,7],boxes:=[0],rows:=[{bx:=false,s:=5,i:=0,k:=1000643,e:=36,hot:=true}]},T:=(.pair (.int .i64) (.pair T6q (.pair (.int .i64) (.pair (.int .i64) (.list T1q))))),I:=fun st y=>sdI i0 a0 y.1 y.2.1 y.2.2.1 y.2.2.2.1 y.2.2.2.2,μ:=fun st y=>sdM i0 a0 y.1 y.2.1 y.2.2.1 y.2.2.2.1 y.2.2.2.2})]
theorem X0T.pure(i0:U5q)(a0:Int)(h:(X7b i0 a0))(hi:Wf X2o.I i0)(hw:Wf X2o.A a0):X0T.F i0 a0:=by
 delta X0T.F ln tN wI eS
 simp only[Bs,B0,B1,Prod.mk.injEq,X06,Prod.eta]
 obtain⟨hc,hm⟩:=h
 refine⟨⟨hc,by omega,by omega,by simp,by simp⟩,?_⟩
 rintro⟨i,b,k,h,out⟩ ⟨cu,h1,h2,h3,h4⟩
 simp only at cu h1 h2 h3 h4 ⊢
 have e0:(0:Int).toNat=0:=rfl
 have e1:(1:Int).toNat=1:=rfl
 refine⟨fun hi=>⟨cu,fun r2 q2=>⟨fun ht=>?_,fun hf=>?_⟩⟩,fun hi=>⟨cu,fun r4 q4=>⟨fun ht=>?_,fun hf=>?_⟩⟩⟩
 · refine⟨h1,by omega,⟨q2,hm⟩,fun r3 q3=>?_⟩
   rw[w64 (x:=i+1) (by omega) (by omega)]
   have hn:=XfK _ (X6N (d:=([]:Str)) (l:=[[97],[99,112,117],[100,105,115,107],[109,101,109],[122,122,122,122,122,122,122,122]]) (i:=i.toNat) (by simp;omega))
   exact⟨by omega,by omega,⟨q3.2,by omega,by omega,by simp;omega,X8t h4 ⟨Nat.le_trans hn (by decide),q3.1⟩⟩,by unfold sdM;omega⟩
 · rw[w64 (x:=i+1) (by omega) (by omega)]
   exact⟨⟨q2,by omega,by omega,by omega,h4⟩,by unfold sdM;omega⟩
 · obtain⟨b1,b2,b3⟩:=X7e q4 (n:=4) (by omega)
   refine⟨q4,fun hz=>⟨⟨b3,by simp⟩,⟨(Xdp ⟨b3,by simp⟩).2,by omega⟩,fun r7 q7=>⟨by omega,by omega,⟨Xee (by simp;omega) (X8t h4 ⟨?_,q7.1⟩),q7.2⟩⟩⟩,fun hz=>⟨fun hz1=>⟨by omega,by omega,⟨Xee (by simp;omega) (X8t h4 ⟨by simp,by simp⟩),b3⟩⟩,fun hz1=>⟨fun hz2=>⟨fun ho=>?_,fun ho=>⟨Xee (by simp only;omega) h4,b3⟩⟩,fun hz2=>⟨fun ho=>?_,fun ho=>⟨Xee (by simp only;omega) h4,b3⟩⟩⟩⟩⟩
   · have:∀x∈[[],[65],[98],[122,122,122,122,122,122,122,122,122],[122,122]],List.length (x:Str)≤9:=by decide
     exact this _ (Xdp ⟨b3,by simp⟩).1
   · obtain⟨d1,d2,d3⟩:=X7e b3 (n:=300) (by omega)
     have m0:=h4 _ (X6N (d:=(([],[]):Ser)) (l:=out) (i:=0) (by omega))
     rw[e0]
     refine⟨by omega,by omega,b3,by omega,by omega,by omega,by simp;omega,⟨⟨by simp;omega,fun x hx=>?_⟩,d3⟩⟩
     rcases List.mem_or_eq_of_mem_set hx with hx | hx
     · rcases List.mem_or_eq_of_mem_set hx with hx | hx
       · have:=h4 x hx;omega
       · rw[hx];simp only[List.length_nil];omega
     · rw[hx,X1V (by simp;omega)]
       simp only[List.getElem_set_self,List.length_append,List.length_cons,List.length_nil];omega
   · have m0:=h4 _ (X6N (d:=(([],[]):Ser)) (l:=out) (i:=0) (by omega))
     rw[e0,e1]
     have hd:(out.drop 1).length=out.length - 1:=List.length_drop
     refine⟨by omega,by omega,by omega,by omega,by omega,by omega,by omega,by omega,⟨Xee (by simp;omega) (X8t (fun x hx=>h4 x (List.mem_of_mem_drop hx)) m0),b3⟩⟩
 · exact⟨Xee (by simp only;omega) h4,q4⟩
theorem X0T.eq:EqS X2o Try.f32 [24] [X1B.e,X12.e,X0Y.e,X1E.e] [1000036,1000037] (fun i x=>X0T.L i x) (fun i x=>X0T.F i x):=by intro i x;kernel_rfl
theorem X0T.ok:X11 Try.prog 32 X2o:=X3V X0T.eq Try.func32 rfl (by kernel_rfl) fun i x h hi hw=>X0T.pure i x h (hi rfl) hw
def X0T.e:GE:=⟨32,X2o,⟨_,Try.func32,rfl,rfl⟩,X0T.ok⟩
theorem Xf3{code:List Int}{y:Int×(Unit×Unit)}(h:Xei code 10 y):y.1≤1000:=by have:y.1≤10:=h;omega
theorem XiL{code:List Int}{y:Cur×(Unit×Unit)}(h:XiD code y):X4I y.1:=⟨by have:=h.2;omega,by have:=h.2;omega,h.1⟩
def Xg2(code:List Int)(y:List Ser×(Unit×Unit)):Prop:=SmS 6 y.1
def X2b:Con:={I:=.unit,B:=.unit,A:=T6q,shA:=[.one],R:=(.list T1q),shR:=[(false,1)],pre:=fun _ _=>True,post:=fun _ a y=>(Xg2 a y)}
def X0y.F(a0:(List Int)):Prop:=(True∧∀r1,(XiD a0 r1)→(True∧∀r2,(Xei a0 10 r2)→((X7b (r1.1.1,(r1.1.2.1,r1.1.2.2)) r2.1)∧∀r3,(XaO (r1.1.1,(r1.1.2.1,r1.1.2.2)) r2.1 r3)→(Xg2 a0 (r3.1,((),()))))))
theorem X0y.pure(a0:(List Int))(h:True)(hw:Wf X2b.A a0):X0y.F a0:=by
 unfold X0y.F
 simp only[Bs,B0,B1,Prod.mk.injEq,X06,Prod.eta]
 exact fun r1 q1=>fun r2 q2=>⟨⟨XiL q1,Xf3 q2⟩,fun r3 q3=>q3.1⟩
theorem X0y.eq:EqS X2b Try.f8 [24] [X1u.e,X0T.e,X1z.e] [] noL (fun i x=>X0y.F x):=by intro i x;kernel_rfl
theorem X0y.ok:X11 Try.prog 8 X2b:=X3V X0y.eq Try.func8 rfl (by kernel_rfl) fun i x h hi hw=>X0y.pure x h hw
def X0y.e:GE:=⟨8,X2b,⟨_,Try.func8,rfl,rfl⟩,X0y.ok⟩
end Go.Proofs.Ytegmokdppbagiaa.B
