/- Votes are asked for:plain. -/
import Derived.Test.YtakllifahpfmpaaCProp
set_option linter.unusedVariables false
set_option linter.unusedSimpArgs false
namespace Go.Proofs.Ytakllifahpfmpaa.B
open Go Go.Proofs.Ytakllifahpfmpaa.Bv
def X6n(c:X14):X14:=(c.1,(c.2.1,(c.2.2.1+1,(c.1,(2,(-1,(c.2.2.2.2.2.2.1,(c.2.2.2.2.2.2.2.1,(c.2.2.2.2.2.2.2.2.1,(c.2.2.2.2.2.2.2.2.2.1,([c.1],(c.2.2.2.2.2.2.2.2.2.2.2.1,c.2.2.2.2.2.2.2.2.2.2.2.2))))))))))))
def X3f(c:X14):X14:=(c.1,(c.2.1,(c.2.2.1,(c.2.2.2.1,(3,(c.1,(c.2.2.2.2.2.2.1,(c.2.2.2.2.2.2.2.1,(c.2.2.2.2.2.2.2.2.1,(c.2.2.2.2.2.2.2.2.2.1,([],(List.replicate c.2.1.toNat (X28 c+1),List.replicate c.2.1.toNat 0))))))))))))
def XfY(x:Mv):Mv:=(X1M (X3f x.1) [],x.2++X9i (X1M (X3f x.1) []))
def Xbt(x:Mv):Unit×Mv:=((),XfY x)
structure Xfa (c:X14):Prop where
 b:0≤c.2.2.2.2.2.2.1∧c.2.2.2.2.2.2.1≤100000
 l:c.2.2.2.2.2.2.2.2.1.length≤60
 p:1≤c.2.1∧c.2.1≤5
 i:0≤c.1∧c.1<c.2.1
 com:c.2.2.2.2.2.2.1≤c.2.2.2.2.2.2.2.2.2.1∧c.2.2.2.2.2.2.2.2.2.1≤X28 c
def X7Y(c:X14)(p:Int):Msg:=(1,(c.1,(p,(c.2.2.1,(X28 c,(X2i c (X28 c),(0,(false,([],[])))))))))
def voN(c:X14):Nat→List Msg
 | 0=>[]
 | n+1=>if (n:Int)=c.1 then voN c n else voN c n++[X7Y c n]
theorem XcA(c:X14):∀n,(voN c n).length≤n
 | 0=>by simp[voN]
 | n+1=>by
   have:=XcA c n
   unfold voN
   split
   · omega
   · simp only[List.length_append,List.length_cons,List.length_nil];omega
theorem Xdh(c:X14){i:Int}(h:0≤i):voN c (i+1).toNat=if i=c.1 then voN c i.toNat else voN c i.toNat++[X7Y c i]:=by
 rw[show(i+1).toNat=i.toNat+1 by omega,voN,show((i.toNat:Nat):Int)=i by omega]
theorem Xb1{c:X14}(h:Xfa c):X05 c=X28 c:=by
 have:=h.b
 have:=h.l
 unfold X05 X28;exact w64 (by omega) (by omega)
theorem XfP{c:X14}(h:Xfa c):X3z c (X28 c):=by
 have:=h.b
 have:=h.l
 unfold X3z X28;exact⟨by omega,by omega,by omega,by omega,by omega⟩
theorem XeY{c:X14}(h:Xfa c):Xc1 (X3f c):=by
 have hb:=h.b
 have hl:=h.l
 have hi:=h.i
 have hpp:=h.p
 have hL:X28 c=c.2.2.2.2.2.2.1+(c.2.2.2.2.2.2.2.2.1.length:Int):=rfl
 refine⟨⟨hb,by show c.2.2.2.2.2.2.2.2.1.length≤1000;omega,by show 0≤c.2.1∧c.2.1≤5;omega,by simp only[X3f,List.length_replicate];omega,fun j hj=>?_⟩,by simp only[X3f,List.length_replicate];omega,hi,h.com⟩
 simp only[X3f,List.length_replicate]at hj ⊢
 rw[X5G (by rw[List.length_replicate];exact hj),List.getElem_replicate]
 omega
theorem XaR{c:X14}(h:X08 c=true):(0≤c.2.2.1∧c.2.2.1≤100000)∧0≤c.1∧c.1<c.2.1:=by
 have hin:=X5N h
 simp only[X08,X3S,Bool.and_eq_true,X2W,X2k,X6o,decide_eq_true_eq]at h
 obtain⟨⟨h1,h2,⟨h3,h4,h5,h6,h7,h8⟩,h9,h10⟩,h11⟩:=h
 unfold X3j at h2
 rw[w64 (by omega) (by omega),X2W]at h2
 exact⟨h3,by omega,by omega⟩
theorem Xir{c:X14}(h:X08 c=true):Xfa (X6n c):=by
 have hin:=X5N h
 obtain⟨_,i0,i1⟩:=XaR h
 have hL:X28 (X6n c)=c.2.2.2.2.2.2.1+(c.2.2.2.2.2.2.2.2.1.length:Int):=rfl
 exact⟨⟨hin.1,hin.2.1⟩,hin.2.2.1,⟨hin.2.2.2.2.2.1,hin.2.2.2.2.2.2⟩,⟨i0,i1⟩,⟨hin.2.2.2.1,by rw[hL];exact hin.2.2.2.2.1⟩⟩
def X1h(c:X14):X14×List Msg:=if X08 c=true then(if c.2.2.2.2.1=3∨c.2.2.1=100000 then(c,[]) else if c.2.1=1 then XfY (X6n c,[]) else(X6n c,voN (X6n c) c.2.1.toNat)) else(Xic,[])
def X8v(c:X14):Prop:=X2P c
def XhB(x y:Int):Int×Int:=(0,1)
def XhU(x y:Int):Prop:=x=1∧y=1
def fRep(l:List Int)(n:Int):List Int:=l
def pRep(l:List Int)(n:Int):Prop:=l.length=1∧n=1
def rpI(l:List Int)(n:Int)(i:Int)(c:List Int):Prop:=i=1∧c=l
def rpM(l:List Int)(n:Int)(i:Int)(c:List Int):Nat:=0
def pLdr(x:Mv):Prop:=Xfa x.1∧x.1.2.1=1∧x.2.length≤100
def fVote(x:Mv)(p:Int):Mv:=(x.1,x.2++[X7Y x.1 p])
def XaE(x:Mv)(p:Int):Unit×Mv:=((),fVote x p)
def Xhq(x:Mv)(p:Int):Prop:=Xfa x.1∧x.2.length≤1000
def Xi1(x:Mv):Mv:=(x.1,x.2++voN x.1 x.1.2.1.toNat)
def X8i(x:Mv):Unit×Mv:=((),Xi1 x)
def XeQ(x:Mv):Prop:=Xfa x.1∧x.2.length≤100
def vtI(x:Mv)(u:Unit)(i b0 b1 b2 b3 b4 b5 b6 b7 b9:Int)(b8:List Ent)(b10 b11 b12:List Int)(ms:List Msg):Prop:=(0≤i∧i≤x.1.2.1)∧((b0,(b1,(b2,(b3,(b4,(b5,(b6,(b7,(b8,(b9,(b10,(b11,b12)))))))))))):X14)=x.1∧ms=x.2++voN x.1 i.toNat
def vtM(x:Mv)(u:Unit)(i b0 b1 b2 b3 b4 b5 b6 b7 b9:Int)(b8:List Ent)(b10 b11 b12:List Int)(ms:List Msg):Nat:=(x.1.2.1 - i).toNat
end Go.Proofs.Ytakllifahpfmpaa.B
