/- Engines:the program and the reference are one. -/
import Derived.Test.YtcfaphojdacmbaaGreatRCEngS
set_option linter.unusedVariables false
set_option linter.unusedSimpArgs false
namespace Go.Proofs.YtcfaphojdacmbaaGreatR.B
open Go Go.Proofs.YtcfaphojdacmbaaGreatR.Bv
theorem Xlu{k:Str}:∀{l:List Str},Asc Op.bytesLess id l→(∀x∈l,x≠k)→Asc Op.bytesLess id (nmP k l)
 | [],_,_=>List.pairwise_singleton _ _
 | x::l,h,hn=>by
   obtain⟨h1,h2⟩:=List.pairwise_cons.1 h
   rw[nmP];split
   · rename_i hx
     refine List.pairwise_cons.2 ⟨fun y hy=>?_,h⟩
     rcases List.mem_cons.1 hy with rfl | hy
     · exact hx
     · exact X4M.tr _ _ _ hx (h1 y hy)
   · rename_i hx
     have hxk:Op.bytesLess x k=true:=by
      rcases X4M.tri x k with h3 | h3 | h3
      · exact h3
      · exact absurd h3 (hn x (by simp))
      · exact absurd h3 hx
     refine List.pairwise_cons.2 ⟨fun y hy=>?_,Xlu h2 fun z hz=>hn z (by simp[hz])⟩
     have hy':y=k∨y∈l:=by
      clear h hn h1 h2 hx hxk
      induction l with
      | nil=>exact .inl (by simpa [nmP] using hy)
      | cons z l ih=>
        rw[nmP]at hy
        split at hy
        · rcases List.mem_cons.1 hy with e | hy
          · exact .inl e
          · exact .inr hy
        · rcases List.mem_cons.1 hy with e | hy
          · exact .inr (by simp[e])
          · rcases ih hy with e | h
            · exact .inl e
            · exact .inr (by simp[h])
     rcases hy' with rfl | hy'
     · exact hxk
     · exact h1 y hy'
theorem XlE{k x:Str}:∀{l:List Str},x∈nmP k l↔x=k∨x∈l
 | []=>by simp[nmP]
 | z::l=>by
   rw[nmP];split
   · simp
   · simp only[List.mem_cons,XlE (l:=l)]
     constructor
     · rintro (h | h | h)
       · exact .inr (.inl h)
       · exact .inl h
       · exact .inr (.inr h)
     · rintro (h | h | h)
       · exact .inr (.inl h)
       · exact .inl h
       · exact .inr (.inr h)
theorem Xkt{l:List Str}(h:Asc Op.bytesLess id l)(k:Str):Asc Op.bytesLess id (X9m l k)∧∀x,x∈X9m l k↔x∈l∨x=k:=by
 unfold X9m;split
 · rename_i hk
   exact⟨h,fun x=>⟨.inl,fun hx=>hx.elim id fun e=>e▸hk⟩⟩
 · rename_i hk
   refine⟨Xlu h fun x hx e=>hk (e▸hx),fun x=>?_⟩
   rw[XlE];exact Or.comm
theorem Xf8:∀(l:List Ser) (o:List Str),Asc Op.bytesLess id o→Asc Op.bytesLess id (X7s o l)∧∀x,x∈X7s o l↔x∈o∨X5M l x=true
 | [],o,h=>⟨h,fun x=>by simp[X7s,X5M]⟩
 | s::l,o,h=>by
   obtain⟨a1,a2⟩:=Xkt h s.1
   obtain⟨b1,b2⟩:=Xf8 l _ a1
   refine⟨b1,fun x=>?_⟩
   show x∈X7s (X9m o s.1) l↔_
   rw[b2,a2,X6h,Bool.or_eq_true,decide_eq_true_eq]
   constructor
   · rintro ((h | h) | h)
     · exact .inl h
     · exact .inr (.inl h.symm)
     · exact .inr (.inr h)
   · rintro (h | h | h)
     · exact .inl (.inl h)
     · exact .inl (.inr h.symm)
     · exact .inr h
theorem Xl7(ls:List (List Ser)):Asc Op.bytesLess id (X62 ls)∧∀x,x∈X62 ls↔∃l∈ls,X5M l x=true:=by
 have:∀(ls:List (List Ser)) (o:List Str),Asc Op.bytesLess id o→Asc Op.bytesLess id (ls.foldl X7s o)∧∀x,x∈ls.foldl X7s o↔x∈o∨∃l∈ls,X5M l x=true:=by
  intro ls
  induction ls with
  | nil=>intro o h;exact⟨h,fun x=>by simp⟩
  | cons t ls ih=>
    intro o h
    obtain⟨a1,a2⟩:=Xf8 t o h
    obtain⟨b1,b2⟩:=ih _ a1
    refine⟨b1,fun x=>?_⟩
    rw[List.foldl_cons,b2,a2]
    constructor
    · rintro ((h | h) | ⟨l,h1,h2⟩)
      · exact .inl h
      · exact .inr ⟨t,by simp,h⟩
      · exact .inr ⟨l,by simp[h1],h2⟩
    · rintro (h | ⟨l,h1,h2⟩)
      · exact .inl (.inl h)
      · rcases List.mem_cons.1 h1 with rfl | h1
        · exact .inl (.inr h2)
        · exact .inr ⟨l,h1,h2⟩
 obtain⟨a,b⟩:=this ls [] List.Pairwise.nil
 exact⟨a,fun x=>by rw[show X62 ls=ls.foldl X7s [] from rfl,b];simp⟩
theorem Xrz(g:Str→List Pt):∀{ks:List Str},Asc Op.bytesLess id ks→let L:=(ks.map fun k=>(k,g k)).filter fun x:Ser=>!x.2.isEmpty
 XcB L∧∀k,X5M L k=(decide (k∈ks)&&!(g k).isEmpty)∧X2Q L k=if k∈ks then g k else []
 | [],_=>⟨List.Pairwise.nil,fun k=>⟨rfl,rfl⟩⟩
 | x::ks,h=>by
   obtain⟨h1,h2⟩:=List.pairwise_cons.1 h
   obtain⟨a1,a2⟩:=Xrz g h2
   have hx:x∉ks:=fun hm=>by have:=h1 x hm;simp only[id]at this;rw[X4M.irr]at this;cases this
   simp only[List.map_cons,List.filter_cons]
   cases he:(g x).isEmpty with
   | true=>
     refine⟨a1,fun k=>?_⟩
     obtain⟨b1,b2⟩:=a2 k
     by_cases hk:k=x
     · subst hk
       have hg:g k=[]:=List.isEmpty_iff.1 he
       simp[b1,b2,hx,hg]
     · simp[b1,b2,hk]
   | false=>
     refine⟨List.pairwise_cons.2 ⟨fun y hy=>?_,a1⟩,fun k=>?_⟩
     · obtain⟨z,hz,e⟩:=List.mem_map.1 (List.mem_filter.1 hy).1
       rw[←e];exact h1 z hz
     · obtain⟨b1,b2⟩:=a2 k
       simp only[Bool.not_false,if_true,X6h,X2p,b1,b2]
       by_cases hk:x=k
       · subst hk;simp[he]
       · have:¬k=x:=fun e=>hk e.symm
         simp[hk,this]
theorem Xq6{ls:List (List Ser)}{k:Str}(h:∀l∈ls,X5M l k=false):Xr1 ls k=[]:=by
 have:∀(ls:List (List Ser)) (o:List Pt),(∀l∈ls,X5M l k=false)→ls.foldl (fun o l=>X2i o (X2Q l k)) o=o:=by
  intro ls
  induction ls with
  | nil=>intro o _;rfl
  | cons t ls ih=>
    intro o h
    rw[List.foldl_cons,X9I (h t (by simp)),XbB]
    exact ih o fun l hl=>h l (by simp[hl])
 exact this ls [] h
theorem XlI{ls:List (List Ser)}(h:∀l∈ls,X9p l)(f:Int):Xlm ls f=X0u (X2B ls) f:=by
 obtain⟨k1,k2⟩:=Xl7 ls
 obtain⟨a1,a2⟩:=Xrz (X9x ls f) k1
 have hR:X9p (X2B ls):=X7K ls [] Xbb h
 have hp:∀k,X2Q (X2B ls) k=Xr1 ls k:=fun k=>by rw[X2B,XfN ls [] Xbb h];rfl
 have hno:∀k,k∉X62 ls→X9x ls f k=[]:=fun k hk=>by
  unfold X9x
  rw[Xq6 (fun l hl=>by rw[Bool.eq_false_iff];intro hh;exact hk ((k2 k).2 ⟨l,hl,hh⟩)),Xcq]
 have b1:∀k,X5M (Xlm ls f) k=(decide (k∈X62 ls)&&!(X9x ls f k).isEmpty):=fun k=>(a2 k).1
 have b2:∀k,X2Q (Xlm ls f) k=if k∈X62 ls then X9x ls f k else []:=fun k=>(a2 k).2
 refine Xet a1 (X23 hR.1 f) (fun k=>?_) (fun k=>?_)
 · rw[b1,(X1d hR.1 f k).2,hp]
   show _=!(X9x ls f k).isEmpty
   by_cases hk:k∈X62 ls
   · simp[hk]
   · simp[hk,hno k hk]
 · rw[b2,(X1d hR.1 f k).1,hp]
   show _=X9x ls f k
   split
   · rfl
   · rename_i hk;exact(hno k hk).symm
theorem XcP(fs:List Str):∀l∈X87 fs,X9p l:=fun l hl=>by
 obtain⟨f,_,rfl⟩:=List.mem_map.1 hl
 exact(Xf4 f).1
theorem Xs7{e:Eng}(hc:X9p e.2.1):∀l∈X87 e.2.2++[e.2.1],X9p l:=fun l hl=>by
 rcases List.mem_append.1 hl with h | h
 · exact XcP _ l h
 · rw[List.mem_singleton.1 h];exact hc
theorem Xpu{e:Eng}(hc:X9p e.2.1)(ho:okF e.2.2=true):Xlm (X87 e.2.2++[e.2.1]) e.1=(X0c e).1:=by
 rw[XlI (Xs7 hc)]
 unfold X0c
 rw[if_pos ho]
 simp only[X2B,List.foldl_append,List.foldl_cons,List.foldl_nil]
theorem XpS(fs:List Str):cL tot (X87 fs)≤305*fs.length:=by
 induction fs with
 | nil=>simp[X87,cL]
 | cons f fs ih=>
   have h1:=(Xf4 f).2.1
   show cL tot ((X0e f).1::X87 fs)≤_
   rw[X4T,List.length_cons];omega
theorem XgI(e:Eng):cL tot (X87 e.2.2++[e.2.1])≤305*e.2.2.length+tot e.2.1:=by
 have:=XpS e.2.2
 rw[X98,X4T,XrW];omega
theorem Xeo(e:Eng):(X0c e).2=okF e.2.2:=by
 unfold X0c;split
 · rename_i h;rw[h]
 · rename_i h;simp at h;simp[h]
structure ekI (e:Eng) (i fl:Int) (ca:List Ser) (fi:List Str):Prop where
 h0:((fl,(ca,fi)):Eng)=e
 h1:0≤i
 h2:i≤e.2.1.length
 h3:∀j,j<i.toNat→XiC e (e.2.1.getD j ([],[]))=false
def ekM(e:Eng)(i fl:Int)(ca:List Ser)(fi:List Str):Nat:=(e.2.1.length - i).toNat
theorem XqU{e:Eng}{i fl:Int}{ca:List Ser}{fi:List Str}(h:ekI e i fl ca fi)(hi:¬i<e.2.1.length):XdQ e.2.1 e=false:=by
 obtain⟨h0,h1,h2,h3⟩:=h
 rw[Bool.eq_false_iff];intro hh
 obtain⟨x,hx,hd⟩:=List.any_eq_true.1 hh
 obtain⟨j,hj,e2⟩:=List.getElem_of_mem hx
 have:=h3 j (by omega)
 rw[X0R hj,e2,hd]at this;cases this
theorem ek_no{e:Eng}{j:Nat}(hj:j<e.2.1.length)(hd:XiC e (e.2.1.getD j ([],[]))=true):XdQ e.2.1 e=true:=
 List.any_eq_true.2 ⟨_,X14 hj,hd⟩
def X6a:Con:={A:=T4q,shA:=[.agg 3],R:=.bool,shR:=[(false,1)],pre:=fun _ a=>(X5P a),f:=some fun _ a=>((X13 a),((),()))}
def X24.F(a0:U3q):Prop:=(True∧∀r1,(Eq r1 ((fIn a0.1 0 1099511627776),((),())))→(X00 (!r1.1) (Eq (false,((),())) ((X13 a0),((),()))) ((X27 a0.2.1)∧∀r2,(Eq r2 ((X0y a0.2.1),((),())))→(X00 (!r2.1) (Eq (false,((),())) ((X13 a0),((),()))) ((Xlo a0.2.1)∧∀r3,(Eq r3 ((X9Y a0.2.1),((),())))→(X00 (decide (r3.1>(40:Int))) (Eq (false,((),())) ((X13 a0),((),()))) (X00 (decide ((ln a0.2.2)>(4:Int))) (Eq (false,((),())) ((X13 a0),((),()))) (eS [(1,.box 2 0)] [(1,.box 2 0)]∧((ekI a0 0 a0.1 a0.2.1 a0.2.2)∧∀(y4:(Int×U3q)),(ekI a0 y4.1 y4.2.1 y4.2.2.1 y4.2.2.2)→(X00 (decide (y4.1<(ln y4.2.2.1))) (0≤y4.1∧(y4.1<(ln y4.2.2.1)∧(0≤(0:Int)∧((0:Int)<(ln ((List.getD y4.2.2.1 (tN y4.1) ([],[])).2))∧(X00 (decide (((List.getD ((List.getD y4.2.2.1 (tN y4.1) ([],[])).2) (tN (0:Int)) (0,0)).1)<y4.2.1)) (Eq (false,((),())) ((X13 a0),((),()))) (eS [(1,.box 2 0)] [(1,.box 2 0)]∧(ekI a0 (wI (y4.1+(1:Int))) y4.2.1 y4.2.2.1 y4.2.2.2)∧(ekM a0 (wI (y4.1+(1:Int))) y4.2.1 y4.2.2.1 y4.2.2.2)<(ekM a0 y4.1 y4.2.1 y4.2.2.1 y4.2.2.2))))))) ((XoG (y4.2.1,(y4.2.2.1,y4.2.2.2)))∧∀r5,(Eq r5 ((Xhg (y4.2.1,(y4.2.2.1,y4.2.2.2))),((),())))→(X00 r5.1.2 ((Xo3 r5.1.1 y4.2.1)∧∀r6,(Eq r6 ((Xlm r5.1.1 y4.2.1),((),())))→((X27 r6.1)∧∀r7,(Eq r7 ((X0y r6.1),((),())))→(Eq (r7.1,((),())) ((X13 a0),((),()))))) (Eq (false,((),())) ((X13 a0),((),())))))))))))))))
def X24.L(a0:U3q):Nat→Option X0d:=fun p=>Go.Proofs.YtcfaphojdacmbaaGreatR.Bv.look p [(58,{kp:={hold:=[1],slots:=[3],boxes:=[2],rows:=[]},T:=(.pair (.int .i64) T4q),I:=fun st y=>ekI a0 y.1 y.2.1 y.2.2.1 y.2.2.2,μ:=fun st y=>ekM a0 y.1 y.2.1 y.2.2.1 y.2.2.2})]
theorem X24.pure(a0:U3q)(h:(X5P a0))(hw:Wf X6a.A a0):X24.F a0:=by
 delta X24.F ln tN wI eS
 simp only[Bs,B0,B1,Prod.mk.injEq,X01,Prod.eta,Xlo]
 obtain⟨hk,hf⟩:=h
 have no:X8e a0=false→false=X13 a0:=fun h=>by unfold X13 X2u;rw[if_neg (by rw[h];decide)]
 refine⟨fun h1=>no (by unfold X8e Xj5;rw[h1];rfl),fun h1=>⟨hk,fun h2=>no (by unfold X8e;rw[h2];simp),fun h2=>?_⟩⟩
 obtain⟨s1,s2,s3,s4⟩:=X1I h2
 refine⟨by omega,fun h3=>no ?_,fun h3=>⟨fun h4=>no ?_,fun h4=>?_⟩⟩
 · have:decide (X9Y a0.2.1≤40)=false:=decide_eq_false (by omega)
   unfold X8e;rw[this];simp
 · have:decide (a0.2.2.length≤4)=false:=decide_eq_false (by omega)
   unfold X8e;rw[this];simp
 refine⟨⟨rfl,by omega,by omega,fun j hj=>absurd hj (by simp)⟩,?_⟩
 rintro⟨i,fl,ca,fi⟩ hI
 simp only at hI ⊢
 have q1:=hI.h1
 have q2:=hI.h2
 have q3:=hI.h3
 have hen:=XqU hI
 obtain rfl:=hI.h0
 simp only at*
 refine⟨fun hi=>?_,fun hi=>?_⟩
 · have hm:=X14 (d:=(([]:List UInt8),([]:List Pt))) (by omega:i.toNat<ca.length)
   have hp:0<(ca.getD i.toNat ([],[])).2.length:=List.length_pos_iff.2 (s4 _ hm).2.1
   rw[w64 (x:=i+1) (by omega) (by omega)]
   refine⟨q1,hi,by omega,by omega,fun h5=>no ?_,fun h5=>⟨⟨rfl,by omega,by simp only;omega,fun j hj=>?_⟩,by unfold ekM;simp only;omega⟩⟩
   · have hd:XiC (fl,ca,fi) (ca.getD i.toNat ([],[]))=true:=by unfold XiC;exact decide_eq_true h5
     have:=ek_no (e:=(fl,ca,fi)) (j:=i.toNat) (by simp only;omega) hd
     unfold X8e;simp only;rw[this];simp
   · by_cases e:j=i.toNat
     · rw[e];unfold XiC;exact decide_eq_false h5
     · exact q3 j (by omega)
 · have h5:=hen hi
   have hh:X8e (fl,ca,fi)=true:=by
    unfold X8e Xj5
    simp only
    rw[h1,h2,h5,decide_eq_true (by omega:X9Y ca≤40),decide_eq_true (by omega:fi.length≤4)];rfl
   have ho:=Xeo (fl,ca,fi)
   have ht:=XgI (fl,ca,fi)
   simp only at ho ht
   refine⟨⟨hf,by simp only;omega⟩,fun h6=>?_,fun h6=>?_⟩
   · have h7:okF fi=true:=by
      unfold Xhg at h6;simp only at h6;split at h6
      · assumption
      · cases h6
     have e1:(Xhg (fl,ca,fi)).1=X87 fi++[ca]:=by unfold Xhg;simp only;rw[if_pos h7]
     have e2:=Xpu (e:=(fl,ca,fi)) s1 h7
     simp only at e2
     rw[e1,e2]
     refine⟨by unfold Xo3;omega,Xiv (Xhh (e:=(fl,ca,fi)) fun x hx=>(s4 x hx).1),?_⟩
     unfold X13 X2u
     rw[if_pos hh,if_pos (by rw[ho];exact h7)]
   · have h7:okF fi=false:=by
      unfold Xhg at h6;simp only at h6;split at h6
      · cases h6
      · simpa using ‹¬okF fi=true›
     unfold X13 X2u
     rw[if_pos hh,if_neg (by rw[ho,h7];decide)]
set_option maxRecDepth 100000 in
theorem X24.eq:EqS X6a Tryz.f37 [4] [X2a.e,X1r.e,X1L.e,X1g.e,X1p.e] [] (fun i x=>X24.L x) (fun i x=>X24.F x):=by intro i x;kernel_rfl
theorem X24.ok:X0l Tryz.prog 37 X6a:=X2b X24.eq Tryz.func37 rfl (by kernel_rfl) fun i x h hi hw=>X24.pure x h hw
def X24.e:GE:=⟨37,X6a,⟨_,Tryz.func37,rfl,rfl⟩,X24.ok⟩
end Go.Proofs.YtcfaphojdacmbaaGreatR.B
