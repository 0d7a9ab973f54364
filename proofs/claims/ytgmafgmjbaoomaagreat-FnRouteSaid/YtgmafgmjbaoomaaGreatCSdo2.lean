/- Buckets:a span is led to shards. -/
import Derived.Test.YtgmafgmjbaoomaaGreatCSdo1
set_option maxRecDepth 100000
set_option linter.unusedVariables false
set_option linter.unusedSimpArgs false
namespace Go.Proofs.YtgmafgmjbaoomaaGreat.B
open Go Go.Proofs.YtgmafgmjbaoomaaGreat.Bv
def X8L(l:List Bkt)(n:Int):List Bkt:=XiZ l (n,X50 l)
def Xk4(p:List Bkt×Str)(n:Int):List Bkt×Str:=(X8L p.1 n,p.2++(X1H n++X1H ((X8L p.1 n).getD (X6q p.1 n).1.toNat (0,0)).2))
def dGo(l:List Int)(p:List Bkt×Str):List Bkt×Str:=l.foldl Xk4 p
def X57(mark:Int)(n:Int):Bool:=!X5F n mark
def X3z(s:Stt)(o:Int×(Str×(Int×(Int×Str)))):Stt×Ans:=
 if X1z o.2.2.1 o.2.2.2.1=[] then(s,(1,(0,(0,[]))))
 else if (dGo ((X1z o.2.2.1 o.2.2.2.1).filter (X57 s.2.2.1)) (s.2.2.2.1,[])).1.length>12 then(s,(3,(0,(0,[]))))
 else((s.1,(s.2.1,(s.2.2.1,((dGo ((X1z o.2.2.1 o.2.2.2.1).filter (X57 s.2.2.1)) (s.2.2.2.1,[])).1,s.2.2.2.2)))),(0,(0,(s.2.2.1,(dGo ((X1z o.2.2.1 o.2.2.2.1).filter (X57 s.2.2.1)) (s.2.2.2.1,[])).2))))
structure Xfm (n:Nat) (l:List Bkt):Prop where
 r:Xlj l
 s:∀b∈l,b.2=0∨b.2=1
 m:∀b∈l,b.1≤10995116277
 len:l.length≤n
abbrev Opp:=Int×(Str×(Int×(Int×Str)))
def Xdq(s:Stt)(o:Opp):Prop:=Xfm 12 s.2.2.2.1
def X5d(s:Stt)(o:Opp):Ans×Stt:=((X3z s o).2,(X3z s o).1)
def Xg4(l:List Bkt):List Bkt:=l
def XfK(l:List Bkt):Prop:=l.length≤1099511627776
def cvL(s:Stt)(o:Opp):List Int:=X1z o.2.2.1 o.2.2.2.1
def cvN(s:Stt)(o:Opp):List Int:=(cvL s o).filter (X57 s.2.2.1)
def roI(s:Stt)(o:Opp)(data:Str)(i k h mk fl c1 c2 c3:Int)(c4:Str)(l bk:List Bkt)(ca:List Ser)(fi:List Str)(se:List X5K):Prop:=
 (0≤i∧i≤(cvN s o).length)∧(l,data)=dGo ((cvN s o).take i.toNat) (s.2.2.2.1,[])∧((k,(h,(mk,(bk,((fl,(ca,fi)),se))))):Stt)=s∧Xfm (12+i.toNat) l∧(data.length:Int)≤20*i
def roM(s:Stt)(o:Opp)(data:Str)(i k h mk fl c1 c2 c3:Int)(c4:Str)(l bk:List Bkt)(ca:List Ser)(fi:List Str)(se:List X5K):Nat:=((cvN s o).length - i).toNat
def rtI(s:Stt)(o:Opp)(data:Str)(i k h mk fl z0 z1 z2 z4:Int)(z5:List Ser)(z6:List Str)(z7:List X5K)(c1 c2 c3:Int)(c4:Str)(l bk:List Bkt)(ca:List Ser)(fi:List Str)(se:List X5K)(z3:List Bkt):Prop:=
 (0≤i∧i≤(cvL s o).length)∧(l,data)=dGo (((cvL s o).take i.toNat).filter (X57 s.2.2.1)) (s.2.2.2.1,[])∧((k,(h,(mk,(bk,((fl,(ca,fi)),se))))):Stt)=s∧Xfm (12+i.toNat) l∧(data.length:Int)≤20*i
def rtM(s:Stt)(o:Opp)(data:Str)(i k h mk fl z0 z1 z2 z4:Int)(z5:List Ser)(z6:List Str)(z7:List X5K)(c1 c2 c3:Int)(c4:Str)(l bk:List Bkt)(ca:List Ser)(fi:List Str)(se:List X5K)(z3:List Bkt):Nat:=((cvL s o).length - i).toNat
theorem XiB{a b x:Int}(h:x∈X1z a b):0≤x∧x≤10995116277:=by
 unfold X1z at h
 split at h
 · cases h
 · rename_i hn
   simp only[X8r,List.mem_map,List.mem_range]at h
   obtain⟨j,hj,e⟩:=h
   omega
theorem XfU(a b:Int):(X1z a b).length≤8:=by
 unfold X1z
 split
 · simp
 · rw[X9Y];omega
theorem XkT(l:List Bkt):X50 l=0∨X50 l=1:=by unfold X50;split<;>simp
theorem r_ok{n:Nat}{l:List Bkt}{x:Int}(h:Xfm n l)(hx:0≤x∧x≤10995116277):Xfm (n+1) (X8L l x):=by
 have hl:=XfW l (x,X50 l)
 have:=h.len
 refine⟨⟨XlG h.r.1 _,fun y hy=>?_⟩,fun y hy=>?_,fun y hy=>?_,by unfold X8L;omega⟩
 · rcases X9C.1 hy with hy | ⟨rfl,_⟩
   · exact h.r.2 y hy
   · exact⟨hx.1,by simp only;omega⟩
 · rcases X9C.1 hy with hy | ⟨rfl,_⟩
   · exact h.s y hy
   · exact XkT l
 · rcases X9C.1 hy with hy | ⟨rfl,_⟩
   · exact h.m y hy
   · exact hx.2
theorem Xfm.more{n m:Nat}{l:List Bkt}(h:Xfm n l)(hm:n≤m):Xfm m l:=⟨h.r,h.s,h.m,by have:=h.len;omega⟩
theorem Xig{l:List Bkt}{x:Int}(h:(X6q l x).2=true):X8L l x=l:=by
 have h:Xks l x=true:=h
 unfold X8L XiZ;rw[if_pos h]
theorem Xok{l:List Bkt}{x:Int}(h:(X6q l x).2=false):l.take (X6q l x).1.toNat++([(x,X50 l)]++l.drop (X6q l x).1.toNat)=X8L l x:=by
 have h:Xks l x=false:=h
 unfold X8L XiZ;rw[if_neg (by rw[h];decide)];rfl
theorem XiI(l:List Bkt)(x:Int):0≤(X6q l x).1∧(X6q l x).1≤l.length:=⟨Int.natCast_nonneg _,by have:=XmL (lt:=ltI) (key:=Prod.fst) x l;unfold X6q fBs;simp only;omega⟩
theorem r_at(l:List Bkt)(x:Int):(X6q l x).1<((X8L l x).length:Int):=by
 have hp:=XiI l x
 cases hh:(X6q l x).2 with
 | false=>
   rw[←Xok hh]
   simp only[List.length_append,List.length_cons,List.length_nil,List.length_take,List.length_drop]
   omega
 | true=>
   rw[Xig hh]
   have hT:Xks l x=true:=hh
   obtain⟨y,hy,e⟩:=XdX.1 hT
   by_cases hc:(X6q l x).1<(l.length:Int)
   · exact hc
   · have e2:pos ltI Prod.fst x l=l.length:=by
      have:(X6q l x).1=((pos ltI Prod.fst x l:Nat):Int):=rfl
      omega
     have:=XaM (lt:=ltI) (key:=Prod.fst) (k:=x) (l:=l) (x:=y) (by rw[e2,List.take_length];exact hy)
     simp only[ltI,decide_eq_true_eq]at this
     omega
theorem dGo_s(c:List Int)(p:List Bkt×Str){i:Int}(h:0≤i)(hi:i<c.length):dGo (c.take (i+1).toNat) p=Xk4 (dGo (c.take i.toNat) p) (c.getD i.toNat 0):=by
 rw[tn1 h,X0S 0 (by omega)];unfold dGo;rw[List.foldl_append];rfl
theorem Xmc{n:Nat}{l:List Bkt}{d:Str}{i:Int}{x:Int}(hn:n≤100)(h:Xfm n l)(hx:0≤x∧x≤10995116277)(hd:(d.length:Int)≤20*i):
 Xfm (n+1) (Xk4 (l,d) x).1∧((Xk4 (l,d) x).2.length:Int)≤20*(i+1)∧XmV l x∧XbW l:=by
 have v1:=X1v x
 have v2:=X1v ((X8L l x).getD (X6q l x).1.toNat (0,0)).2
 refine⟨r_ok h hx,?_,⟨h.r,hx.1,by omega,?_⟩,?_⟩
 · simp only[Xk4,List.length_append];omega
 · have:=h.len;omega
 · exact⟨by have:=h.len;omega,h.s⟩
def X0L:Con:={A:=X60,shA:=[.one],R:=X60,shR:=[(false,1)],fresh:=[(0,43)],pre:=fun _ a=>(XfK a),f:=some fun _ a=>((Xg4 a),((),()))}
def X08.F(a0:U5q):Prop:=(∀(b1:Bool),(b1=true→a0=[])→(X00 b1 (Eq (([]:U5q),((),())) ((Xg4 a0),((),()))) (List.length ([]:List (Int×Int))+List.length a0≤9223372036854775807∧((List.length ([]:List (Int×Int))+List.length a0)*16≤140737488355328∧(Eq ((([]:List (Int×Int))++a0),((),())) ((Xg4 a0),((),())))))))
theorem X08.pure(a0:U5q)(h:(XfK a0))(hw:Wf X0L.A a0):X08.F a0:=by
 unfold X08.F
 have hp:a0.length≤1099511627776:=h
 simp only[Bs,B0,B1,Prod.mk.injEq,X03,Xg4,XfK]
 repeat' (with_reducible (first | (refine And.intro ?_ ?_) | intro _))
 all_goals (try simp (disch:=omega) only[w64,wu8,tn0,tn1,tm1,tm2,List.length_append,List.length_cons,List.length_nil]at*)
 all_goals (try simp (disch:=omega) only[w64,wu8,tn0,tn1,tm1,tm2,List.length_append,List.length_cons,List.length_nil]at*)
 all_goals (try omega)
 all_goals (try grind[])
 all_goals (try simp_all)
theorem X08.eq:EqS X0L Tryz.f92 [24] [] [] noL (fun i x=>X08.F x):=by intro i x;kernel_rfl
theorem X08.ok:X0o Tryz.prog 92 X0L:=X2u X08.eq Tryz.func92 rfl (by kernel_rfl) fun i x h hi hw=>X08.pure x h hw
def X08.e:GE:=⟨92,X0L,⟨_,Tryz.func92,rfl,rfl⟩,X08.ok⟩
def X3I:Con:={io:=true,I:=T3q,ownI:=[(3,43),(5,109),(6,9),(7,64)],A:=Xk8,shA:=[.agg 5],R:=(.pair (.int .i64) T9q),shR:=[(true,4)],pre:=fun i a=>(Xdq i a),f:=some fun i a=>((X5d i a).1,((X5d i a).2,()))}
def X1p.F(i0:U2q)(a0:XbO):Prop:=(True∧∀r1,(Eq r1 ((X1z a0.2.2.1 a0.2.2.2.1),((),())))→(X00 ((ln r1.1)==(0:Int)) (Eq ((1,(0,(0,[]))),((i0.1,(i0.2.1,(i0.2.2.1,(i0.2.2.2.1,((i0.2.2.2.2.1.1,(i0.2.2.2.2.1.2.1,i0.2.2.2.2.1.2.2)),i0.2.2.2.2.2))))),())) ((X5d i0 a0).1,((X5d i0 a0).2,()))) ((XaZ r1.1 (i0.1,(i0.2.1,i0.2.2.1)))∧∀r2,(Eq r2 ((XbG r1.1 (i0.1,(i0.2.1,i0.2.2.1))),((),())))→((XfK i0.2.2.2.1)∧∀r3,(Eq r3 ((Xg4 i0.2.2.2.1),((),())))→(eS [(0,.box 0 0),(2,.pp 0 0),(4,.box 5 0),(29,.val false [.lst (.int .i64) r2.1 none]),(30,.val false [.int .i64 (ln r2.1)])] [(0,.box 0 0),(2,.pp 0 0),(4,.box 5 0),(29,.val false [.lst (.int .i64) r2.1 none]),(30,.val false [.int .i64 (ln r2.1)])]∧((roI i0 a0 [] 0 i0.1 i0.2.1 i0.2.2.1 i0.2.2.2.2.1.1 0 0 0 [] r3.1 i0.2.2.2.1 i0.2.2.2.2.1.2.1 i0.2.2.2.2.1.2.2 i0.2.2.2.2.2)∧∀(y4:(U4q×(Int×(Int×(Int×(Int×(Int×(Int×(Int×(Int×(U4q×(U5q×(U5q×(U8q×((List U4q)×(List U7q)))))))))))))))),(roI i0 a0 y4.1 y4.2.1 y4.2.2.1 y4.2.2.2.1 y4.2.2.2.2.1 y4.2.2.2.2.2.1 y4.2.2.2.2.2.2.1 y4.2.2.2.2.2.2.2.1 y4.2.2.2.2.2.2.2.2.1 y4.2.2.2.2.2.2.2.2.2.1 y4.2.2.2.2.2.2.2.2.2.2.1 y4.2.2.2.2.2.2.2.2.2.2.2.1 y4.2.2.2.2.2.2.2.2.2.2.2.2.1 y4.2.2.2.2.2.2.2.2.2.2.2.2.2.1 y4.2.2.2.2.2.2.2.2.2.2.2.2.2.2)→(X00 (decide (y4.2.1<(ln r2.1))) (0≤y4.2.1∧(y4.2.1<(ln r2.1)∧((XmV y4.2.2.2.2.2.2.2.2.2.2.1 (List.getD r2.1 (tN y4.2.1) 0))∧∀r5,(Eq r5 ((X6q y4.2.2.2.2.2.2.2.2.2.2.1 (List.getD r2.1 (tN y4.2.1) 0)),((),())))→(X00 (!r5.1.2) ((XbW y4.2.2.2.2.2.2.2.2.2.2.1)∧∀r6,(Eq r6 ((X50 y4.2.2.2.2.2.2.2.2.2.2.1),((),())))→((X27 y4.2.2.2.2.2.2.2.2.2.2.1 r5.1.1 [((List.getD r2.1 (tN y4.2.1) 0),r6.1)])∧∀r7,(Eq r7 ((X16 y4.2.2.2.2.2.2.2.2.2.2.1 r5.1.1 [((List.getD r2.1 (tN y4.2.1) 0),r6.1)]),((),())))→(True∧∀r8,(Eq r8 ((X1H (List.getD r2.1 (tN y4.2.1) 0)),((),())))→(0≤r5.1.1∧(r5.1.1<(ln r7.1)∧(True∧∀r9,(Eq r9 ((X1H ((List.getD r7.1 (tN r5.1.1) (0,0)).2)),((),())))→(List.length r8.1+List.length r9.1≤9223372036854775807∧(List.length y4.1+List.length (r8.1++r9.1)≤9223372036854775807∧(eS [(0,.box 0 0),(2,.pp 0 0),(4,.box 5 0),(29,.val false [.lst (.int .i64) r2.1 none]),(30,.val false [.int .i64 (ln r2.1)])] [(0,.box 0 0),(2,.pp 0 0),(4,.box 5 0),(29,.val false [.lst (.int .i64) r2.1 none]),(30,.val false [.int .i64 (ln r2.1)])]∧(roI i0 a0 (y4.1++(r8.1++r9.1)) (wI (y4.2.1+(1:Int))) y4.2.2.1 y4.2.2.2.1 y4.2.2.2.2.1 y4.2.2.2.2.2.1 y4.2.2.2.2.2.2.1 y4.2.2.2.2.2.2.2.1 y4.2.2.2.2.2.2.2.2.1 y4.2.2.2.2.2.2.2.2.2.1 r7.1 y4.2.2.2.2.2.2.2.2.2.2.2.1 y4.2.2.2.2.2.2.2.2.2.2.2.2.1 y4.2.2.2.2.2.2.2.2.2.2.2.2.2.1 y4.2.2.2.2.2.2.2.2.2.2.2.2.2.2)∧(roM i0 a0 (y4.1++(r8.1++r9.1)) (wI (y4.2.1+(1:Int))) y4.2.2.1 y4.2.2.2.1 y4.2.2.2.2.1 y4.2.2.2.2.2.1 y4.2.2.2.2.2.2.1 y4.2.2.2.2.2.2.2.1 y4.2.2.2.2.2.2.2.2.1 y4.2.2.2.2.2.2.2.2.2.1 r7.1 y4.2.2.2.2.2.2.2.2.2.2.2.1 y4.2.2.2.2.2.2.2.2.2.2.2.2.1 y4.2.2.2.2.2.2.2.2.2.2.2.2.2.1 y4.2.2.2.2.2.2.2.2.2.2.2.2.2.2)<(roM i0 a0 y4.1 y4.2.1 y4.2.2.1 y4.2.2.2.1 y4.2.2.2.2.1 y4.2.2.2.2.2.1 y4.2.2.2.2.2.2.1 y4.2.2.2.2.2.2.2.1 y4.2.2.2.2.2.2.2.2.1 y4.2.2.2.2.2.2.2.2.2.1 y4.2.2.2.2.2.2.2.2.2.2.1 y4.2.2.2.2.2.2.2.2.2.2.2.1 y4.2.2.2.2.2.2.2.2.2.2.2.2.1 y4.2.2.2.2.2.2.2.2.2.2.2.2.2.1 y4.2.2.2.2.2.2.2.2.2.2.2.2.2.2)))))))))) (True∧∀r10,(Eq r10 ((X1H (List.getD r2.1 (tN y4.2.1) 0)),((),())))→(0≤r5.1.1∧(r5.1.1<(ln y4.2.2.2.2.2.2.2.2.2.2.1)∧(True∧∀r11,(Eq r11 ((X1H ((List.getD y4.2.2.2.2.2.2.2.2.2.2.1 (tN r5.1.1) (0,0)).2)),((),())))→(List.length r10.1+List.length r11.1≤9223372036854775807∧(List.length y4.1+List.length (r10.1++r11.1)≤9223372036854775807∧(eS [(0,.box 0 0),(2,.pp 0 0),(4,.box 5 0),(29,.val false [.lst (.int .i64) r2.1 none]),(30,.val false [.int .i64 (ln r2.1)])] [(0,.box 0 0),(2,.pp 0 0),(4,.box 5 0),(29,.val false [.lst (.int .i64) r2.1 none]),(30,.val false [.int .i64 (ln r2.1)])]∧(roI i0 a0 (y4.1++(r10.1++r11.1)) (wI (y4.2.1+(1:Int))) y4.2.2.1 y4.2.2.2.1 y4.2.2.2.2.1 y4.2.2.2.2.2.1 y4.2.2.2.2.2.2.1 y4.2.2.2.2.2.2.2.1 y4.2.2.2.2.2.2.2.2.1 y4.2.2.2.2.2.2.2.2.2.1 y4.2.2.2.2.2.2.2.2.2.2.1 y4.2.2.2.2.2.2.2.2.2.2.2.1 y4.2.2.2.2.2.2.2.2.2.2.2.2.1 y4.2.2.2.2.2.2.2.2.2.2.2.2.2.1 y4.2.2.2.2.2.2.2.2.2.2.2.2.2.2)∧(roM i0 a0 (y4.1++(r10.1++r11.1)) (wI (y4.2.1+(1:Int))) y4.2.2.1 y4.2.2.2.1 y4.2.2.2.2.1 y4.2.2.2.2.2.1 y4.2.2.2.2.2.2.1 y4.2.2.2.2.2.2.2.1 y4.2.2.2.2.2.2.2.2.1 y4.2.2.2.2.2.2.2.2.2.1 y4.2.2.2.2.2.2.2.2.2.2.1 y4.2.2.2.2.2.2.2.2.2.2.2.1 y4.2.2.2.2.2.2.2.2.2.2.2.2.1 y4.2.2.2.2.2.2.2.2.2.2.2.2.2.1 y4.2.2.2.2.2.2.2.2.2.2.2.2.2.2)<(roM i0 a0 y4.1 y4.2.1 y4.2.2.1 y4.2.2.2.1 y4.2.2.2.2.1 y4.2.2.2.2.2.1 y4.2.2.2.2.2.2.1 y4.2.2.2.2.2.2.2.1 y4.2.2.2.2.2.2.2.2.1 y4.2.2.2.2.2.2.2.2.2.1 y4.2.2.2.2.2.2.2.2.2.2.1 y4.2.2.2.2.2.2.2.2.2.2.2.1 y4.2.2.2.2.2.2.2.2.2.2.2.2.1 y4.2.2.2.2.2.2.2.2.2.2.2.2.2.1 y4.2.2.2.2.2.2.2.2.2.2.2.2.2.2)))))))))))) (X00 (decide ((ln y4.2.2.2.2.2.2.2.2.2.2.1)>(12:Int))) (Eq ((3,(0,(0,[]))),((y4.2.2.1,(y4.2.2.2.1,(y4.2.2.2.2.1,(y4.2.2.2.2.2.2.2.2.2.2.2.1,((y4.2.2.2.2.2.1,(y4.2.2.2.2.2.2.2.2.2.2.2.2.1,y4.2.2.2.2.2.2.2.2.2.2.2.2.2.1)),y4.2.2.2.2.2.2.2.2.2.2.2.2.2.2))))),())) ((X5d i0 a0).1,((X5d i0 a0).2,()))) (Eq ((0,(0,(y4.2.2.2.2.1,y4.1))),((y4.2.2.1,(y4.2.2.2.1,(y4.2.2.2.2.1,(y4.2.2.2.2.2.2.2.2.2.2.1,((y4.2.2.2.2.2.1,(y4.2.2.2.2.2.2.2.2.2.2.2.2.1,y4.2.2.2.2.2.2.2.2.2.2.2.2.2.1)),y4.2.2.2.2.2.2.2.2.2.2.2.2.2.2))))),())) ((X5d i0 a0).1,((X5d i0 a0).2,())))))))))))
def X1p.L(i0:U2q)(a0:XbO):Nat→Option X0a:=fun p=>Go.Proofs.YtgmafgmjbaoomaaGreat.Bv.look p [(1018,{kp:={hold:=[0,2,4,29,30],slots:=[6,7,31],boxes:=[0,5],rows:=[{bx:=false,s:=6,i:=0,k:=1000771,e:=43,hot:=true},{bx:=true,s:=0,i:=3,k:=13800009,e:=43,hot:=true},{bx:=true,s:=0,i:=5,k:=13800013,e:=109,hot:=true},{bx:=true,s:=0,i:=6,k:=13800015,e:=9,hot:=true},{bx:=true,s:=0,i:=7,k:=13800017,e:=64,hot:=true}]},T:=(.pair .str (.pair (.int .i64) (.pair (.int .i64) (.pair (.int .i64) (.pair (.int .i64) (.pair (.int .i64) (.pair (.int .i64) (.pair (.int .i64) (.pair (.int .i64) (.pair .str (.pair X60 (.pair X60 (.pair X8V (.pair (.list .str) (.list T1q))))))))))))))),I:=fun st y=>roI i0 a0 y.1 y.2.1 y.2.2.1 y.2.2.2.1 y.2.2.2.2.1 y.2.2.2.2.2.1 y.2.2.2.2.2.2.1 y.2.2.2.2.2.2.2.1 y.2.2.2.2.2.2.2.2.1 y.2.2.2.2.2.2.2.2.2.1 y.2.2.2.2.2.2.2.2.2.2.1 y.2.2.2.2.2.2.2.2.2.2.2.1 y.2.2.2.2.2.2.2.2.2.2.2.2.1 y.2.2.2.2.2.2.2.2.2.2.2.2.2.1 y.2.2.2.2.2.2.2.2.2.2.2.2.2.2,μ:=fun st y=>roM i0 a0 y.1 y.2.1 y.2.2.1 y.2.2.2.1 y.2.2.2.2.1 y.2.2.2.2.2.1 y.2.2.2.2.2.2.1 y.2.2.2.2.2.2.2.1 y.2.2.2.2.2.2.2.2.1 y.2.2.2.2.2.2.2.2.2.1 y.2.2.2.2.2.2.2.2.2.2.1 y.2.2.2.2.2.2.2.2.2.2.2.1 y.2.2.2.2.2.2.2.2.2.2.2.2.1 y.2.2.2.2.2.2.2.2.2.2.2.2.2.1 y.2.2.2.2.2.2.2.2.2.2.2.2.2.2})]
theorem X1p.pure(i0:U2q)(a0:XbO)(h:(Xdq i0 a0))(hi:Wf X3I.I i0)(hw:Wf X3I.A a0):X1p.F i0 a0:=by
 delta X1p.F ln tN wI eS
 simp only[Bs,B0,B1,Prod.mk.injEq,X03,Prod.eta]
 have hB:Xfm 12 i0.2.2.2.1:=h
 have hBl:=hB.len
 have hcl:=XfU a0.2.2.1 a0.2.2.2.1
 have hnl:(cvN i0 a0).length≤8:=Nat.le_trans (List.length_filter_le _ _) hcl
 refine⟨fun h1=>?_,fun h1=>⟨by unfold XaZ;omega,by unfold XfK;omega,⟨⟨by omega,by omega⟩,rfl,rfl,hB.more (by omega),by simp⟩,?_⟩⟩
 · have e:X1z a0.2.2.1 a0.2.2.2.1=[]:=List.length_eq_zero_iff.1 (by omega)
   unfold X5d X3z;rw[if_pos e];exact⟨rfl,rfl⟩
 have hne:¬X1z a0.2.2.1 a0.2.2.2.1=[]:=fun e=>h1 (by rw[e];rfl)
 rintro⟨data,i,k,hh,mk,fl,c1,c2,c3,c4,l,bk,ca,fi,se⟩ ⟨⟨q1,q2⟩,q3,q4,q5,q6⟩
 simp only at q1 q2 q3 q4 q5 q6 ⊢
 have eL:XbG (X1z a0.2.2.1 a0.2.2.2.1) (i0.1,(i0.2.1,i0.2.2.1))=cvN i0 a0:=rfl
 simp only[eL]
 refine⟨fun hi=>?_,fun hi=>?_⟩
 · have hx:0≤(cvN i0 a0).getD i.toNat 0∧(cvN i0 a0).getD i.toNat 0≤10995116277:=XiB (List.mem_filter.1 (X2C (d:=(0:Int)) (l:=cvN i0 a0) (i:=i.toNat) (by omega))).1
   have hs:=dGo_s (cvN i0 a0) (i0.2.2.2.1,[]) q1 hi
   rw[←q3]at hs
   generalize (cvN i0 a0).getD i.toNat 0=x at hx hs ⊢
   obtain⟨s1,s2,s3,s4⟩:=Xmc (d:=data) (i:=i) (by omega) q5 hx q6
   have hp:=XiI l x
   have ha:=r_at l x
   have hll:=q5.len
   have hd:(data.length:Int)≤1000:=by omega
   have v1:=X1v x
   have v2:=X1v ((X8L l x).getD (X6q l x).1.toNat (0,0)).2
   rw[w64 (x:=i+1) (by omega) (by omega)]
   have out:roI i0 a0 (data++(X1H x++X1H ((X8L l x).getD (X6q l x).1.toNat (0,0)).2)) (i+1) k hh mk fl c1 c2 c3 c4 (X8L l x) bk ca fi se:=by
    refine⟨⟨by omega,by omega⟩,hs.symm,q4,?_,s2⟩
    rw[show 12+(i+1).toNat=12+i.toNat+1 by omega];exact s1
   refine⟨q1,hi,s3,fun hb=>?_,fun hb=>?_⟩
   · have er:=Xok hb
     simp only[X16,er]
     exact⟨s4,⟨hp.1,hp.2,by simp,by simp only[List.length_cons,List.length_nil];omega⟩,hp.1,ha,by omega,by omega,out,by unfold roM;omega⟩
   · have er:=Xig hb
     rw[er]at ha v2 out
     exact⟨hp.1,ha,by omega,by omega,out,by unfold roM;omega⟩
 · have e:i.toNat=(cvN i0 a0).length:=by omega
   rw[e,List.take_length]at q3
   have eg:dGo ((X1z a0.2.2.1 a0.2.2.2.1).filter (X57 i0.2.2.1)) (i0.2.2.2.1,[])=(l,data):=q3.symm
   refine⟨fun h12=>?_,fun h12=>?_⟩
   · unfold X5d X3z
     rw[if_neg hne,eg,if_pos (by simp only;omega)]
     exact⟨rfl,q4⟩
   · unfold X5d X3z
     rw[if_neg hne,eg,if_neg (by simp only;omega),←q4]
     exact⟨rfl,rfl⟩
theorem X1p.eq:EqS X3I Tryz.f98 [38] [X08.e,X2O.e,X0g.e,X0U.e,X1D.e,X1u.e,X2c.e,X36.e] [] (fun i x=>X1p.L i x) (fun i x=>X1p.F i x):=by intro i x;kernel_rfl
theorem X1p.ok:X0o Tryz.prog 98 X3I:=X2u X1p.eq Tryz.func98 rfl (by kernel_rfl) fun i x h hi hw=>X1p.pure i x h (hi rfl) hw
def X1p.e:GE:=⟨98,X3I,⟨_,Tryz.func98,rfl,rfl⟩,X1p.ok⟩
def X4O:Con:={A:=(.pair T3q Xk8),shA:=[.agg 8,.agg 5],ownA:=[(3,43),(5,109),(6,9),(7,64)],R:=(.pair T3q (.pair (.int .i64) T9q)),shR:=[(true,8),(true,4)],fresh:=[(3,43),(5,109),(6,9),(7,64)],pre:=fun _ a=>(Xdq a.1 a.2),f:=some fun _ a=>((X3z a.1 a.2),((),()))}
def X1q.F(a0:U2q)(a1:XbO):Prop:=(True∧∀r1,(Eq r1 ((X1z a1.2.2.1 a1.2.2.2.1),((),())))→(X00 ((ln r1.1)==(0:Int)) (Eq (((a0.1,(a0.2.1,(a0.2.2.1,(a0.2.2.2.1,((a0.2.2.2.2.1.1,(a0.2.2.2.2.1.2.1,a0.2.2.2.2.1.2.2)),a0.2.2.2.2.2))))),(1,(0,(0,[])))),((),())) ((X3z a0 a1),((),()))) (List.length ([]:List (Int×Int))+List.length a0.2.2.2.1≤9223372036854775807∧((List.length ([]:List (Int×Int))+List.length a0.2.2.2.1)*16≤140737488355328∧(eS [(2,.box 3 0),(4,.box 5 0),(5,.box 6 0),(6,.val false [.lst (.int .i64) r1.1 none])] [(2,.box 3 0),(4,.box 5 0),(5,.box 6 0),(6,.val false [.lst (.int .i64) r1.1 none])]∧((rtI a0 a1 [] 0 a0.1 a0.2.1 a0.2.2.1 a0.2.2.2.2.1.1 0 0 0 0 ([]:List (U4q×U5q)) ([]:List U4q) ([]:List U7q) 0 0 0 [] (([]:List (Int×Int))++a0.2.2.2.1) a0.2.2.2.1 a0.2.2.2.2.1.2.1 a0.2.2.2.2.1.2.2 a0.2.2.2.2.2 ([]:List (Int×Int)))∧∀(y2:(U4q×(Int×(Int×(Int×(Int×(Int×(Int×(Int×(Int×(Int×(U8q×((List U4q)×((List U7q)×(Int×(Int×(Int×(U4q×(U5q×(U5q×(U8q×((List U4q)×((List U7q)×U5q))))))))))))))))))))))),(rtI a0 a1 y2.1 y2.2.1 y2.2.2.1 y2.2.2.2.1 y2.2.2.2.2.1 y2.2.2.2.2.2.1 y2.2.2.2.2.2.2.1 y2.2.2.2.2.2.2.2.1 y2.2.2.2.2.2.2.2.2.1 y2.2.2.2.2.2.2.2.2.2.1 y2.2.2.2.2.2.2.2.2.2.2.1 y2.2.2.2.2.2.2.2.2.2.2.2.1 y2.2.2.2.2.2.2.2.2.2.2.2.2.1 y2.2.2.2.2.2.2.2.2.2.2.2.2.2.1 y2.2.2.2.2.2.2.2.2.2.2.2.2.2.2.1 y2.2.2.2.2.2.2.2.2.2.2.2.2.2.2.2.1 y2.2.2.2.2.2.2.2.2.2.2.2.2.2.2.2.2.1 y2.2.2.2.2.2.2.2.2.2.2.2.2.2.2.2.2.2.1 y2.2.2.2.2.2.2.2.2.2.2.2.2.2.2.2.2.2.2.1 y2.2.2.2.2.2.2.2.2.2.2.2.2.2.2.2.2.2.2.2.1 y2.2.2.2.2.2.2.2.2.2.2.2.2.2.2.2.2.2.2.2.2.1 y2.2.2.2.2.2.2.2.2.2.2.2.2.2.2.2.2.2.2.2.2.2.1 y2.2.2.2.2.2.2.2.2.2.2.2.2.2.2.2.2.2.2.2.2.2.2)→(X00 (decide (y2.2.1<(ln r1.1))) (0≤y2.2.1∧(y2.2.1<(ln r1.1)∧(True∧∀r3,(Eq r3 ((X5F (List.getD r1.1 (tN y2.2.1) 0) y2.2.2.2.2.1),((),())))→(X00 r3.1 (eS [(2,.box 3 0),(4,.box 5 0),(5,.box 6 0),(6,.val false [.lst (.int .i64) r1.1 none])] [(2,.box 3 0),(4,.box 5 0),(5,.box 6 0),(6,.val false [.lst (.int .i64) r1.1 none])]∧(rtI a0 a1 y2.1 (wI (y2.2.1+(1:Int))) y2.2.2.1 y2.2.2.2.1 y2.2.2.2.2.1 y2.2.2.2.2.2.1 y2.2.2.2.2.2.2.1 y2.2.2.2.2.2.2.2.1 y2.2.2.2.2.2.2.2.2.1 y2.2.2.2.2.2.2.2.2.2.1 y2.2.2.2.2.2.2.2.2.2.2.1 y2.2.2.2.2.2.2.2.2.2.2.2.1 y2.2.2.2.2.2.2.2.2.2.2.2.2.1 y2.2.2.2.2.2.2.2.2.2.2.2.2.2.1 y2.2.2.2.2.2.2.2.2.2.2.2.2.2.2.1 y2.2.2.2.2.2.2.2.2.2.2.2.2.2.2.2.1 y2.2.2.2.2.2.2.2.2.2.2.2.2.2.2.2.2.1 y2.2.2.2.2.2.2.2.2.2.2.2.2.2.2.2.2.2.1 y2.2.2.2.2.2.2.2.2.2.2.2.2.2.2.2.2.2.2.1 y2.2.2.2.2.2.2.2.2.2.2.2.2.2.2.2.2.2.2.2.1 y2.2.2.2.2.2.2.2.2.2.2.2.2.2.2.2.2.2.2.2.2.1 y2.2.2.2.2.2.2.2.2.2.2.2.2.2.2.2.2.2.2.2.2.2.1 y2.2.2.2.2.2.2.2.2.2.2.2.2.2.2.2.2.2.2.2.2.2.2)∧(rtM a0 a1 y2.1 (wI (y2.2.1+(1:Int))) y2.2.2.1 y2.2.2.2.1 y2.2.2.2.2.1 y2.2.2.2.2.2.1 y2.2.2.2.2.2.2.1 y2.2.2.2.2.2.2.2.1 y2.2.2.2.2.2.2.2.2.1 y2.2.2.2.2.2.2.2.2.2.1 y2.2.2.2.2.2.2.2.2.2.2.1 y2.2.2.2.2.2.2.2.2.2.2.2.1 y2.2.2.2.2.2.2.2.2.2.2.2.2.1 y2.2.2.2.2.2.2.2.2.2.2.2.2.2.1 y2.2.2.2.2.2.2.2.2.2.2.2.2.2.2.1 y2.2.2.2.2.2.2.2.2.2.2.2.2.2.2.2.1 y2.2.2.2.2.2.2.2.2.2.2.2.2.2.2.2.2.1 y2.2.2.2.2.2.2.2.2.2.2.2.2.2.2.2.2.2.1 y2.2.2.2.2.2.2.2.2.2.2.2.2.2.2.2.2.2.2.1 y2.2.2.2.2.2.2.2.2.2.2.2.2.2.2.2.2.2.2.2.1 y2.2.2.2.2.2.2.2.2.2.2.2.2.2.2.2.2.2.2.2.2.1 y2.2.2.2.2.2.2.2.2.2.2.2.2.2.2.2.2.2.2.2.2.2.1 y2.2.2.2.2.2.2.2.2.2.2.2.2.2.2.2.2.2.2.2.2.2.2)<(rtM a0 a1 y2.1 y2.2.1 y2.2.2.1 y2.2.2.2.1 y2.2.2.2.2.1 y2.2.2.2.2.2.1 y2.2.2.2.2.2.2.1 y2.2.2.2.2.2.2.2.1 y2.2.2.2.2.2.2.2.2.1 y2.2.2.2.2.2.2.2.2.2.1 y2.2.2.2.2.2.2.2.2.2.2.1 y2.2.2.2.2.2.2.2.2.2.2.2.1 y2.2.2.2.2.2.2.2.2.2.2.2.2.1 y2.2.2.2.2.2.2.2.2.2.2.2.2.2.1 y2.2.2.2.2.2.2.2.2.2.2.2.2.2.2.1 y2.2.2.2.2.2.2.2.2.2.2.2.2.2.2.2.1 y2.2.2.2.2.2.2.2.2.2.2.2.2.2.2.2.2.1 y2.2.2.2.2.2.2.2.2.2.2.2.2.2.2.2.2.2.1 y2.2.2.2.2.2.2.2.2.2.2.2.2.2.2.2.2.2.2.1 y2.2.2.2.2.2.2.2.2.2.2.2.2.2.2.2.2.2.2.2.1 y2.2.2.2.2.2.2.2.2.2.2.2.2.2.2.2.2.2.2.2.2.1 y2.2.2.2.2.2.2.2.2.2.2.2.2.2.2.2.2.2.2.2.2.2.1 y2.2.2.2.2.2.2.2.2.2.2.2.2.2.2.2.2.2.2.2.2.2.2)) (0≤y2.2.1∧(y2.2.1<(ln r1.1)∧((XmV y2.2.2.2.2.2.2.2.2.2.2.2.2.2.2.2.2.2.1 (List.getD r1.1 (tN y2.2.1) 0))∧∀r4,(Eq r4 ((X6q y2.2.2.2.2.2.2.2.2.2.2.2.2.2.2.2.2.2.1 (List.getD r1.1 (tN y2.2.1) 0)),((),())))→(X00 (!r4.1.2) (0≤r4.1.1∧(r4.1.1≤(ln y2.2.2.2.2.2.2.2.2.2.2.2.2.2.2.2.2.2.1)∧(List.length ([]:List (Int×Int))+List.length (List.drop 0 (List.take (tN r4.1.1) y2.2.2.2.2.2.2.2.2.2.2.2.2.2.2.2.2.2.1))≤9223372036854775807∧((List.length ([]:List (Int×Int))+List.length (List.drop 0 (List.take (tN r4.1.1) y2.2.2.2.2.2.2.2.2.2.2.2.2.2.2.2.2.2.1)))*16≤140737488355328∧(0≤y2.2.1∧(y2.2.1<(ln r1.1)∧((XbW y2.2.2.2.2.2.2.2.2.2.2.2.2.2.2.2.2.2.1)∧∀r5,(Eq r5 ((X50 y2.2.2.2.2.2.2.2.2.2.2.2.2.2.2.2.2.2.1),((),())))→(List.length (([]:List (Int×Int))++(List.drop 0 (List.take (tN r4.1.1) y2.2.2.2.2.2.2.2.2.2.2.2.2.2.2.2.2.2.1)))+List.length [((List.getD r1.1 (tN y2.2.1) 0),r5.1)]≤9223372036854775807∧((List.length (([]:List (Int×Int))++(List.drop 0 (List.take (tN r4.1.1) y2.2.2.2.2.2.2.2.2.2.2.2.2.2.2.2.2.2.1)))+List.length [((List.getD r1.1 (tN y2.2.1) 0),r5.1)])*16≤140737488355328∧(0≤r4.1.1∧(r4.1.1≤(ln y2.2.2.2.2.2.2.2.2.2.2.2.2.2.2.2.2.2.1)∧(List.length ((([]:List (Int×Int))++(List.drop 0 (List.take (tN r4.1.1) y2.2.2.2.2.2.2.2.2.2.2.2.2.2.2.2.2.2.1)))++[((List.getD r1.1 (tN y2.2.1) 0),r5.1)])+List.length (List.drop (tN r4.1.1) (List.take (List.length y2.2.2.2.2.2.2.2.2.2.2.2.2.2.2.2.2.2.1) y2.2.2.2.2.2.2.2.2.2.2.2.2.2.2.2.2.2.1))≤9223372036854775807∧((List.length ((([]:List (Int×Int))++(List.drop 0 (List.take (tN r4.1.1) y2.2.2.2.2.2.2.2.2.2.2.2.2.2.2.2.2.2.1)))++[((List.getD r1.1 (tN y2.2.1) 0),r5.1)])+List.length (List.drop (tN r4.1.1) (List.take (List.length y2.2.2.2.2.2.2.2.2.2.2.2.2.2.2.2.2.2.1) y2.2.2.2.2.2.2.2.2.2.2.2.2.2.2.2.2.2.1)))*16≤140737488355328∧(0≤y2.2.1∧(y2.2.1<(ln r1.1)∧(True∧∀r6,(Eq r6 ((X1H (List.getD r1.1 (tN y2.2.1) 0)),((),())))→(List.length y2.1+List.length r6.1≤9223372036854775807∧(0≤r4.1.1∧(r4.1.1<(ln (((([]:List (Int×Int))++(List.drop 0 (List.take (tN r4.1.1) y2.2.2.2.2.2.2.2.2.2.2.2.2.2.2.2.2.2.1)))++[((List.getD r1.1 (tN y2.2.1) 0),r5.1)])++(List.drop (tN r4.1.1) (List.take (List.length y2.2.2.2.2.2.2.2.2.2.2.2.2.2.2.2.2.2.1) y2.2.2.2.2.2.2.2.2.2.2.2.2.2.2.2.2.2.1))))∧(True∧∀r7,(Eq r7 ((X1H ((List.getD (((([]:List (Int×Int))++(List.drop 0 (List.take (tN r4.1.1) y2.2.2.2.2.2.2.2.2.2.2.2.2.2.2.2.2.2.1)))++[((List.getD r1.1 (tN y2.2.1) 0),r5.1)])++(List.drop (tN r4.1.1) (List.take (List.length y2.2.2.2.2.2.2.2.2.2.2.2.2.2.2.2.2.2.1) y2.2.2.2.2.2.2.2.2.2.2.2.2.2.2.2.2.2.1))) (tN r4.1.1) (0,0)).2)),((),())))→(List.length (y2.1++r6.1)+List.length r7.1≤9223372036854775807∧(eS [(2,.box 3 0),(4,.box 5 0),(5,.box 6 0),(6,.val false [.lst (.int .i64) r1.1 none])] [(2,.box 3 0),(4,.box 5 0),(5,.box 6 0),(6,.val false [.lst (.int .i64) r1.1 none])]∧(rtI a0 a1 ((y2.1++r6.1)++r7.1) (wI (y2.2.1+(1:Int))) y2.2.2.1 y2.2.2.2.1 y2.2.2.2.2.1 y2.2.2.2.2.2.1 y2.2.2.2.2.2.2.1 y2.2.2.2.2.2.2.2.1 y2.2.2.2.2.2.2.2.2.1 y2.2.2.2.2.2.2.2.2.2.1 y2.2.2.2.2.2.2.2.2.2.2.1 y2.2.2.2.2.2.2.2.2.2.2.2.1 y2.2.2.2.2.2.2.2.2.2.2.2.2.1 y2.2.2.2.2.2.2.2.2.2.2.2.2.2.1 y2.2.2.2.2.2.2.2.2.2.2.2.2.2.2.1 y2.2.2.2.2.2.2.2.2.2.2.2.2.2.2.2.1 y2.2.2.2.2.2.2.2.2.2.2.2.2.2.2.2.2.1 (((([]:List (Int×Int))++(List.drop 0 (List.take (tN r4.1.1) y2.2.2.2.2.2.2.2.2.2.2.2.2.2.2.2.2.2.1)))++[((List.getD r1.1 (tN y2.2.1) 0),r5.1)])++(List.drop (tN r4.1.1) (List.take (List.length y2.2.2.2.2.2.2.2.2.2.2.2.2.2.2.2.2.2.1) y2.2.2.2.2.2.2.2.2.2.2.2.2.2.2.2.2.2.1))) y2.2.2.2.2.2.2.2.2.2.2.2.2.2.2.2.2.2.2.1 y2.2.2.2.2.2.2.2.2.2.2.2.2.2.2.2.2.2.2.2.1 y2.2.2.2.2.2.2.2.2.2.2.2.2.2.2.2.2.2.2.2.2.1 y2.2.2.2.2.2.2.2.2.2.2.2.2.2.2.2.2.2.2.2.2.2.1 y2.2.2.2.2.2.2.2.2.2.2.2.2.2.2.2.2.2.2.2.2.2.2)∧(rtM a0 a1 ((y2.1++r6.1)++r7.1) (wI (y2.2.1+(1:Int))) y2.2.2.1 y2.2.2.2.1 y2.2.2.2.2.1 y2.2.2.2.2.2.1 y2.2.2.2.2.2.2.1 y2.2.2.2.2.2.2.2.1 y2.2.2.2.2.2.2.2.2.1 y2.2.2.2.2.2.2.2.2.2.1 y2.2.2.2.2.2.2.2.2.2.2.1 y2.2.2.2.2.2.2.2.2.2.2.2.1 y2.2.2.2.2.2.2.2.2.2.2.2.2.1 y2.2.2.2.2.2.2.2.2.2.2.2.2.2.1 y2.2.2.2.2.2.2.2.2.2.2.2.2.2.2.1 y2.2.2.2.2.2.2.2.2.2.2.2.2.2.2.2.1 y2.2.2.2.2.2.2.2.2.2.2.2.2.2.2.2.2.1 (((([]:List (Int×Int))++(List.drop 0 (List.take (tN r4.1.1) y2.2.2.2.2.2.2.2.2.2.2.2.2.2.2.2.2.2.1)))++[((List.getD r1.1 (tN y2.2.1) 0),r5.1)])++(List.drop (tN r4.1.1) (List.take (List.length y2.2.2.2.2.2.2.2.2.2.2.2.2.2.2.2.2.2.1) y2.2.2.2.2.2.2.2.2.2.2.2.2.2.2.2.2.2.1))) y2.2.2.2.2.2.2.2.2.2.2.2.2.2.2.2.2.2.2.1 y2.2.2.2.2.2.2.2.2.2.2.2.2.2.2.2.2.2.2.2.1 y2.2.2.2.2.2.2.2.2.2.2.2.2.2.2.2.2.2.2.2.2.1 y2.2.2.2.2.2.2.2.2.2.2.2.2.2.2.2.2.2.2.2.2.2.1 y2.2.2.2.2.2.2.2.2.2.2.2.2.2.2.2.2.2.2.2.2.2.2)<(rtM a0 a1 y2.1 y2.2.1 y2.2.2.1 y2.2.2.2.1 y2.2.2.2.2.1 y2.2.2.2.2.2.1 y2.2.2.2.2.2.2.1 y2.2.2.2.2.2.2.2.1 y2.2.2.2.2.2.2.2.2.1 y2.2.2.2.2.2.2.2.2.2.1 y2.2.2.2.2.2.2.2.2.2.2.1 y2.2.2.2.2.2.2.2.2.2.2.2.1 y2.2.2.2.2.2.2.2.2.2.2.2.2.1 y2.2.2.2.2.2.2.2.2.2.2.2.2.2.1 y2.2.2.2.2.2.2.2.2.2.2.2.2.2.2.1 y2.2.2.2.2.2.2.2.2.2.2.2.2.2.2.2.1 y2.2.2.2.2.2.2.2.2.2.2.2.2.2.2.2.2.1 y2.2.2.2.2.2.2.2.2.2.2.2.2.2.2.2.2.2.1 y2.2.2.2.2.2.2.2.2.2.2.2.2.2.2.2.2.2.2.1 y2.2.2.2.2.2.2.2.2.2.2.2.2.2.2.2.2.2.2.2.1 y2.2.2.2.2.2.2.2.2.2.2.2.2.2.2.2.2.2.2.2.2.1 y2.2.2.2.2.2.2.2.2.2.2.2.2.2.2.2.2.2.2.2.2.2.1 y2.2.2.2.2.2.2.2.2.2.2.2.2.2.2.2.2.2.2.2.2.2.2))))))))))))))))))))))) (0≤y2.2.1∧(y2.2.1<(ln r1.1)∧(True∧∀r8,(Eq r8 ((X1H (List.getD r1.1 (tN y2.2.1) 0)),((),())))→(List.length y2.1+List.length r8.1≤9223372036854775807∧(0≤r4.1.1∧(r4.1.1<(ln y2.2.2.2.2.2.2.2.2.2.2.2.2.2.2.2.2.2.1)∧(True∧∀r9,(Eq r9 ((X1H ((List.getD y2.2.2.2.2.2.2.2.2.2.2.2.2.2.2.2.2.2.1 (tN r4.1.1) (0,0)).2)),((),())))→(List.length (y2.1++r8.1)+List.length r9.1≤9223372036854775807∧(eS [(2,.box 3 0),(4,.box 5 0),(5,.box 6 0),(6,.val false [.lst (.int .i64) r1.1 none])] [(2,.box 3 0),(4,.box 5 0),(5,.box 6 0),(6,.val false [.lst (.int .i64) r1.1 none])]∧(rtI a0 a1 ((y2.1++r8.1)++r9.1) (wI (y2.2.1+(1:Int))) y2.2.2.1 y2.2.2.2.1 y2.2.2.2.2.1 y2.2.2.2.2.2.1 y2.2.2.2.2.2.2.1 y2.2.2.2.2.2.2.2.1 y2.2.2.2.2.2.2.2.2.1 y2.2.2.2.2.2.2.2.2.2.1 y2.2.2.2.2.2.2.2.2.2.2.1 y2.2.2.2.2.2.2.2.2.2.2.2.1 y2.2.2.2.2.2.2.2.2.2.2.2.2.1 y2.2.2.2.2.2.2.2.2.2.2.2.2.2.1 y2.2.2.2.2.2.2.2.2.2.2.2.2.2.2.1 y2.2.2.2.2.2.2.2.2.2.2.2.2.2.2.2.1 y2.2.2.2.2.2.2.2.2.2.2.2.2.2.2.2.2.1 y2.2.2.2.2.2.2.2.2.2.2.2.2.2.2.2.2.2.1 y2.2.2.2.2.2.2.2.2.2.2.2.2.2.2.2.2.2.2.1 y2.2.2.2.2.2.2.2.2.2.2.2.2.2.2.2.2.2.2.2.1 y2.2.2.2.2.2.2.2.2.2.2.2.2.2.2.2.2.2.2.2.2.1 y2.2.2.2.2.2.2.2.2.2.2.2.2.2.2.2.2.2.2.2.2.2.1 y2.2.2.2.2.2.2.2.2.2.2.2.2.2.2.2.2.2.2.2.2.2.2)∧(rtM a0 a1 ((y2.1++r8.1)++r9.1) (wI (y2.2.1+(1:Int))) y2.2.2.1 y2.2.2.2.1 y2.2.2.2.2.1 y2.2.2.2.2.2.1 y2.2.2.2.2.2.2.1 y2.2.2.2.2.2.2.2.1 y2.2.2.2.2.2.2.2.2.1 y2.2.2.2.2.2.2.2.2.2.1 y2.2.2.2.2.2.2.2.2.2.2.1 y2.2.2.2.2.2.2.2.2.2.2.2.1 y2.2.2.2.2.2.2.2.2.2.2.2.2.1 y2.2.2.2.2.2.2.2.2.2.2.2.2.2.1 y2.2.2.2.2.2.2.2.2.2.2.2.2.2.2.1 y2.2.2.2.2.2.2.2.2.2.2.2.2.2.2.2.1 y2.2.2.2.2.2.2.2.2.2.2.2.2.2.2.2.2.1 y2.2.2.2.2.2.2.2.2.2.2.2.2.2.2.2.2.2.1 y2.2.2.2.2.2.2.2.2.2.2.2.2.2.2.2.2.2.2.1 y2.2.2.2.2.2.2.2.2.2.2.2.2.2.2.2.2.2.2.2.1 y2.2.2.2.2.2.2.2.2.2.2.2.2.2.2.2.2.2.2.2.2.1 y2.2.2.2.2.2.2.2.2.2.2.2.2.2.2.2.2.2.2.2.2.2.1 y2.2.2.2.2.2.2.2.2.2.2.2.2.2.2.2.2.2.2.2.2.2.2)<(rtM a0 a1 y2.1 y2.2.1 y2.2.2.1 y2.2.2.2.1 y2.2.2.2.2.1 y2.2.2.2.2.2.1 y2.2.2.2.2.2.2.1 y2.2.2.2.2.2.2.2.1 y2.2.2.2.2.2.2.2.2.1 y2.2.2.2.2.2.2.2.2.2.1 y2.2.2.2.2.2.2.2.2.2.2.1 y2.2.2.2.2.2.2.2.2.2.2.2.1 y2.2.2.2.2.2.2.2.2.2.2.2.2.1 y2.2.2.2.2.2.2.2.2.2.2.2.2.2.1 y2.2.2.2.2.2.2.2.2.2.2.2.2.2.2.1 y2.2.2.2.2.2.2.2.2.2.2.2.2.2.2.2.1 y2.2.2.2.2.2.2.2.2.2.2.2.2.2.2.2.2.1 y2.2.2.2.2.2.2.2.2.2.2.2.2.2.2.2.2.2.1 y2.2.2.2.2.2.2.2.2.2.2.2.2.2.2.2.2.2.2.1 y2.2.2.2.2.2.2.2.2.2.2.2.2.2.2.2.2.2.2.2.1 y2.2.2.2.2.2.2.2.2.2.2.2.2.2.2.2.2.2.2.2.2.1 y2.2.2.2.2.2.2.2.2.2.2.2.2.2.2.2.2.2.2.2.2.2.1 y2.2.2.2.2.2.2.2.2.2.2.2.2.2.2.2.2.2.2.2.2.2.2)))))))))))))))))) (X00 (decide ((ln y2.2.2.2.2.2.2.2.2.2.2.2.2.2.2.2.2.2.1)>(12:Int))) (Eq (((y2.2.2.1,(y2.2.2.2.1,(y2.2.2.2.2.1,(y2.2.2.2.2.2.2.2.2.2.2.2.2.2.2.2.2.2.2.1,((y2.2.2.2.2.2.1,(y2.2.2.2.2.2.2.2.2.2.2.2.2.2.2.2.2.2.2.2.1,y2.2.2.2.2.2.2.2.2.2.2.2.2.2.2.2.2.2.2.2.2.1)),y2.2.2.2.2.2.2.2.2.2.2.2.2.2.2.2.2.2.2.2.2.2.1))))),(3,(0,(0,[])))),((),())) ((X3z a0 a1),((),()))) (Eq (((y2.2.2.1,(y2.2.2.2.1,(y2.2.2.2.2.1,(y2.2.2.2.2.2.2.2.2.2.2.2.2.2.2.2.2.2.1,((y2.2.2.2.2.2.1,(y2.2.2.2.2.2.2.2.2.2.2.2.2.2.2.2.2.2.2.2.1,y2.2.2.2.2.2.2.2.2.2.2.2.2.2.2.2.2.2.2.2.2.1)),y2.2.2.2.2.2.2.2.2.2.2.2.2.2.2.2.2.2.2.2.2.2.1))))),(0,(0,(y2.2.2.2.2.1,y2.1)))),((),())) ((X3z a0 a1),((),())))))))))))
def X1q.L(a0:U2q)(a1:XbO):Nat→Option X0a:=fun p=>Go.Proofs.YtgmafgmjbaoomaaGreat.Bv.look p [(506,{kp:={hold:=[2,4,5,6],slots:=[7,8,9],boxes:=[3,5,6],rows:=[{bx:=false,s:=7,i:=0,k:=1000899,e:=43,hot:=true},{bx:=true,s:=3,i:=3,k:=13800393,e:=43,hot:=true},{bx:=true,s:=3,i:=5,k:=13800397,e:=109,hot:=true},{bx:=true,s:=3,i:=6,k:=13800399,e:=9,hot:=true},{bx:=true,s:=3,i:=7,k:=13800401,e:=64,hot:=true},{bx:=true,s:=5,i:=3,k:=13800649,e:=43,hot:=true}]},T:=(.pair .str T16q),I:=fun st y=>rtI a0 a1 y.1 y.2.1 y.2.2.1 y.2.2.2.1 y.2.2.2.2.1 y.2.2.2.2.2.1 y.2.2.2.2.2.2.1 y.2.2.2.2.2.2.2.1 y.2.2.2.2.2.2.2.2.1 y.2.2.2.2.2.2.2.2.2.1 y.2.2.2.2.2.2.2.2.2.2.1 y.2.2.2.2.2.2.2.2.2.2.2.1 y.2.2.2.2.2.2.2.2.2.2.2.2.1 y.2.2.2.2.2.2.2.2.2.2.2.2.2.1 y.2.2.2.2.2.2.2.2.2.2.2.2.2.2.1 y.2.2.2.2.2.2.2.2.2.2.2.2.2.2.2.1 y.2.2.2.2.2.2.2.2.2.2.2.2.2.2.2.2.1 y.2.2.2.2.2.2.2.2.2.2.2.2.2.2.2.2.2.1 y.2.2.2.2.2.2.2.2.2.2.2.2.2.2.2.2.2.2.1 y.2.2.2.2.2.2.2.2.2.2.2.2.2.2.2.2.2.2.2.1 y.2.2.2.2.2.2.2.2.2.2.2.2.2.2.2.2.2.2.2.2.1 y.2.2.2.2.2.2.2.2.2.2.2.2.2.2.2.2.2.2.2.2.2.1 y.2.2.2.2.2.2.2.2.2.2.2.2.2.2.2.2.2.2.2.2.2.2,μ:=fun st y=>rtM a0 a1 y.1 y.2.1 y.2.2.1 y.2.2.2.1 y.2.2.2.2.1 y.2.2.2.2.2.1 y.2.2.2.2.2.2.1 y.2.2.2.2.2.2.2.1 y.2.2.2.2.2.2.2.2.1 y.2.2.2.2.2.2.2.2.2.1 y.2.2.2.2.2.2.2.2.2.2.1 y.2.2.2.2.2.2.2.2.2.2.2.1 y.2.2.2.2.2.2.2.2.2.2.2.2.1 y.2.2.2.2.2.2.2.2.2.2.2.2.2.1 y.2.2.2.2.2.2.2.2.2.2.2.2.2.2.1 y.2.2.2.2.2.2.2.2.2.2.2.2.2.2.2.1 y.2.2.2.2.2.2.2.2.2.2.2.2.2.2.2.2.1 y.2.2.2.2.2.2.2.2.2.2.2.2.2.2.2.2.2.1 y.2.2.2.2.2.2.2.2.2.2.2.2.2.2.2.2.2.2.1 y.2.2.2.2.2.2.2.2.2.2.2.2.2.2.2.2.2.2.2.1 y.2.2.2.2.2.2.2.2.2.2.2.2.2.2.2.2.2.2.2.2.1 y.2.2.2.2.2.2.2.2.2.2.2.2.2.2.2.2.2.2.2.2.2.1 y.2.2.2.2.2.2.2.2.2.2.2.2.2.2.2.2.2.2.2.2.2.2})]
theorem X1q.pure(a0:U2q)(a1:XbO)(h:(Xdq a0 a1))(hw:Wf X4O.A (a0,a1)):X1q.F a0 a1:=by
 delta X1q.F ln tN wI eS
 simp only[Bs,B0,B1,Prod.mk.injEq,X03,Prod.eta]
 have hB:Xfm 12 a0.2.2.2.1:=h
 have hBl:=hB.len
 have hcl:=XfU a1.2.2.1 a1.2.2.2.1
 have hcl':(cvL a0 a1).length≤8:=hcl
 refine⟨fun h1=>?_,fun h1=>⟨by omega,by omega,⟨⟨by omega,by omega⟩,rfl,rfl,hB.more (by omega),by simp⟩,?_⟩⟩
 · have e:X1z a1.2.2.1 a1.2.2.2.1=[]:=List.length_eq_zero_iff.1 (by omega)
   unfold X3z;rw[if_pos e]
 have hne:¬X1z a1.2.2.1 a1.2.2.2.1=[]:=fun e=>h1 (by rw[e];rfl)
 rintro⟨data,i,k,hh,mk,fl,z0,z1,z2,z4,z5,z6,z7,c1,c2,c3,c4,l,bk,ca,fi,se,z3⟩ ⟨⟨q1,q2⟩,q3,q4,q5,q6⟩
 simp only at q1 q2 q3 q4 q5 q6 ⊢
 have eL:X1z a1.2.2.1 a1.2.2.2.1=cvL a0 a1:=rfl
 have em:a0.2.2.1=mk:=by rw[←q4]
 simp only[eL]
 refine⟨fun hi=>?_,fun hi=>?_⟩
 · have hx:0≤(cvL a0 a1).getD i.toNat 0∧(cvL a0 a1).getD i.toNat 0≤10995116277:=XiB (X2C (d:=(0:Int)) (l:=cvL a0 a1) (i:=i.toNat) (by omega))
   have ht:(cvL a0 a1).take (i+1).toNat=(cvL a0 a1).take i.toNat++[(cvL a0 a1).getD i.toNat 0]:=by rw[tn1 q1,X0S 0 (by omega)]
   rw[w64 (x:=i+1) (by omega) (by omega)]
   generalize (cvL a0 a1).getD i.toNat 0=x at hx ht ⊢
   obtain⟨s1,s2,s3,s4⟩:=Xmc (d:=data) (i:=i) (by omega) q5 hx q6
   have hp:=XiI l x
   have ha:=r_at l x
   have hll:=q5.len
   have hd:(data.length:Int)≤1000:=by omega
   have v1:=X1v x
   have v2:=X1v ((X8L l x).getD (X6q l x).1.toNat (0,0)).2
   have skip:X5F x mk=true→rtI a0 a1 data (i+1) k hh mk fl z0 z1 z2 z4 z5 z6 z7 c1 c2 c3 c4 l bk ca fi se z3:=fun hp=>by
    refine⟨⟨by omega,by omega⟩,?_,q4,q5.more (by omega),by omega⟩
    rw[ht,List.filter_append,em]
    rw[em]at q3
    have:[x].filter (X57 mk)=[]:=by simp[X57,hp]
    rw[this,List.append_nil];exact q3
   have out:X5F x mk=false→rtI a0 a1 (data++(X1H x++X1H ((X8L l x).getD (X6q l x).1.toNat (0,0)).2)) (i+1) k hh mk fl z0 z1 z2 z4 z5 z6 z7 c1 c2 c3 c4 (X8L l x) bk ca fi se z3:=fun hp=>by
    refine⟨⟨by omega,by omega⟩,?_,q4,by rw[show 12+(i+1).toNat=12+i.toNat+1 by omega];exact s1,s2⟩
    rw[ht,List.filter_append,em]
    rw[em]at q3
    have:[x].filter (X57 mk)=[x]:=by simp[X57,hp]
    rw[this]
    unfold dGo at q3 ⊢
    rw[List.foldl_append,←q3];rfl
   refine⟨q1,hi,fun hp=>⟨skip hp,by unfold rtM;omega⟩,fun hpast=>⟨q1,hi,s3,fun hb=>?_,fun hb=>?_⟩⟩
   · have er:=Xok hb
     have out:=out hpast
     have l1:(l.take (X6q l x).1.toNat).length≤1000:=by rw[List.length_take];omega
     have l2:(l.drop (X6q l x).1.toNat).length≤1000:=by rw[List.length_drop];omega
     have l3:(l.take (X6q l x).1.toNat).length+1+(l.drop (X6q l x).1.toNat).length=(X8L l x).length:=by
      rw[←er];simp only[List.length_append,List.length_cons,List.length_nil];omega
     simp only[List.drop_zero,List.nil_append,List.take_length,List.append_assoc,er]
     exact⟨hp.1,hp.2,by omega,by omega,q1,hi,s4,by omega,by omega,hp.1,hp.2,by omega,by omega,q1,hi,by omega,hp.1,by omega,by omega,out,by unfold rtM;omega⟩
   · have er:=Xig hb
     have out:=out hpast
     rw[er]at ha v2 out
     simp only[List.append_assoc]
     exact⟨q1,hi,by omega,hp.1,ha,by omega,out,by unfold rtM;omega⟩
 · have e:i.toNat=(cvL a0 a1).length:=by omega
   rw[e,List.take_length]at q3
   have eg:dGo ((X1z a1.2.2.1 a1.2.2.2.1).filter (X57 a0.2.2.1)) (a0.2.2.2.1,[])=(l,data):=q3.symm
   refine⟨fun h12=>?_,fun h12=>?_⟩
   · unfold X3z
     rw[if_neg hne,eg,if_pos (by simp only;omega),q4]
   · unfold X3z
     rw[if_neg hne,eg,if_neg (by simp only;omega),←q4]
theorem X1q.eq:EqS X4O Tryz.f57 [31,38] [X1J.e,X2H.e,X1e.e,X1o.e,X2Z.e] [] (fun i x=>X1q.L x.1 x.2) (fun i x=>X1q.F x.1 x.2):=by intro i x;kernel_rfl
theorem X1q.ok:X0o Tryz.prog 57 X4O:=X2u X1q.eq Tryz.func57 rfl (by kernel_rfl) fun i x h hi hw=>X1q.pure x.1 x.2 h hw
def X1q.e:GE:=⟨57,X4O,⟨_,Tryz.func57,rfl,rfl⟩,X1q.ok⟩
end Go.Proofs.YtgmafgmjbaoomaaGreat.B
