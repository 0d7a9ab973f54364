/- Engines:right or not,in the reference. -/
import Derived.Test.YtgmafgmjbaoomaaGreatCEngB
set_option maxRecDepth 100000
set_option linter.unusedVariables false
set_option linter.unusedSimpArgs false
namespace Go.Proofs.YtgmafgmjbaoomaaGreat.B
open Go Go.Proofs.YtgmafgmjbaoomaaGreat.Bv
def fAt(l:List Ser)(k:List UInt8):Int:=if l.findIdx (fun x=>decide (x.1=k))<l.length then((l.findIdx (fun x=>decide (x.1=k)):Nat):Int) else -1
def atI(l:List Ser)(k:List UInt8)(i:Int):Prop:=0≤i∧i≤l.length∧∀j,j<i.toNat→¬(l.getD j ([],[])).1=k
def atM(l:List Ser)(k:List UInt8)(i:Int):Nat:=(l.length - i).toNat
theorem Xoa{l:List Ser}{k:List UInt8}{i:Int}(h:atI l k i)(hi:i<l.length)(hd:(l.getD i.toNat ([],[])).1=k):i=fAt l k:=by
 obtain⟨h1,h2,h3⟩:=h
 have e:l.findIdx (fun x=>decide (x.1=k))=i.toNat:=by
  refine(List.findIdx_eq (by omega)).2 ⟨by rw[X1A (by omega)]at hd;simpa using hd,fun j hj=>?_⟩
  have:=h3 j hj
  rw[X1A (by omega)]at this;simpa using this
 unfold fAt
 rw[e,if_pos (by omega)];omega
theorem at_no{l:List Ser}{k:List UInt8}{i:Int}(h:atI l k i)(hi:¬i<l.length):-1=fAt l k:=by
 obtain⟨h1,h2,h3⟩:=h
 have e:¬l.findIdx (fun x=>decide (x.1=k))<l.length:=fun hlt=>by
  have a:=List.findIdx_getElem (w:=hlt)
  have b:=h3 (l.findIdx (fun x=>decide (x.1=k))) (by omega)
  rw[X1A hlt]at b
  exact b (by simpa using a)
 unfold fAt
 rw[if_neg e]
theorem Xhe{k:List UInt8}:∀(l:List Ser) (h:l.findIdx (fun x=>decide (x.1=k))<l.length),(l[l.findIdx (fun x=>decide (x.1=k))]).2=Xar l k
 | [],h=>by simp at h
 | x::l,h=>by
   rw[XaI]
   by_cases hx:x.1=k
   · simp[List.findIdx_cons,hx]
   · have e:(x::l).findIdx (fun x=>decide (x.1=k))=l.findIdx (fun x=>decide (x.1=k))+1:=by simp[List.findIdx_cons,hx]
     have h':l.findIdx (fun x=>decide (x.1=k))<l.length:=by rw[e]at h;simpa using h
     simp only[e,if_neg hx,List.getElem_cons_succ]
     exact Xhe l h'
theorem XoL(l:List Ser)(k:List UInt8):(fAt l k≥0→fAt l k<l.length∧(l.getD (fAt l k).toNat ([],[])).2=Xar l k)∧(¬fAt l k≥0→Xar l k=[]):=by
 unfold fAt
 by_cases h:l.findIdx (fun x=>decide (x.1=k))<l.length
 · rw[if_pos h]
   refine⟨fun _=>⟨by omega,?_⟩,fun h2=>absurd (by omega) h2⟩
   rw[Int.toNat_natCast,X1A h]
   exact Xhe l h
 · rw[if_neg h]
   refine⟨fun h2=>absurd h2 (by decide),fun _=>Xl5 ?_⟩
   rw[Bool.eq_false_iff];intro hh
   obtain⟨x,hx,e⟩:=Xln.1 hh
   exact h (List.findIdx_lt_length_of_exists ⟨x,hx,by simpa using e⟩)
abbrev Str:=List UInt8
def nmP(key:Str):List Str→List Str
 | []=>[key]
 | x::l=>if Op.bytesLess key x=true then key::x::l else x::nmP key l
def fName(l:List Str)(key:Str):List Str:=if key∈l then l else nmP key l
def restN(key:Str)(put:Bool)(l:List Str):List Str:=if put then l else nmP key l
structure nmI (l:List Str) (key:Str) (put:Bool) (i:Int) (out:List Str):Prop where
 h1:0≤i
 h2:i≤l.length
 h3:out++restN key put (l.drop i.toNat)=nmP key l
 h4:(out.length:Int)≤i+1
 h5:put=false→(out.length:Int)≤i
 h6:∀j,j<i.toNat→¬l.getD j []=key
def nmM(l:List Str)(key:Str)(put:Bool)(i:Int)(out:List Str):Nat:=(l.length - i).toNat
def nmB(l:List Str)(key:Str)(put:Bool)(i:Int)(out r:List Str):Prop:=r=l∧nmI l key put i out
def nmN(l:List Str)(key:Str)(put:Bool)(i:Int)(out r:List Str):Nat:=nmM l key put i out
def X6E:Con:={A:=(.pair X8V .str),shA:=[.one,.one],R:=(.int .i64),shR:=[(false,1)],pre:=fun _ _=>True,f:=some fun _ a=>((fAt a.1 a.2),((),()))}
def X2K.F(a0:U8q)(a1:U4q):Prop:=(eS [(0,.val false [.lst T6q a0 none]),(1,.val false [.str a1])] [(0,.val false [.lst T6q a0 none]),(1,.val false [.str a1])]∧((atI a0 a1 0)∧∀(y1:Int),(atI a0 a1 y1)→(X00 (decide (y1<(ln a0))) (0≤y1∧(y1<(ln a0)∧(X00 (((List.getD a0 (tN y1) ([],[])).1)==a1) (Eq (y1,((),())) ((fAt a0 a1),((),()))) (eS [(0,.val false [.lst T6q a0 none]),(1,.val false [.str a1])] [(0,.val false [.lst T6q a0 none]),(1,.val false [.str a1])]∧(atI a0 a1 (wI (y1+(1:Int))))∧(atM a0 a1 (wI (y1+(1:Int))))<(atM a0 a1 y1))))) (Eq ((-1),((),())) ((fAt a0 a1),((),()))))))
def X2K.L(a0:U8q)(a1:U4q):Nat→Option X0a:=fun p=>Go.Proofs.YtgmafgmjbaoomaaGreat.Bv.look p [(26,{kp:={hold:=[0,1],slots:=[5],boxes:=[],rows:=[]},T:=(.int .i64),I:=fun st y=>atI a0 a1 y,μ:=fun st y=>atM a0 a1 y})]
theorem X2K.pure(a0:U8q)(a1:U4q)(h:True)(hw:Wf X6E.A (a0,a1)):X2K.F a0 a1:=by
 delta X2K.F ln tN wI eS
 simp only[Bs,B0,B1,Prod.mk.injEq,X03]
 have hl:a0.length≤9223372036854775807:=hw.1.1
 refine⟨⟨by omega,by omega,fun j hj=>absurd hj (by simp)⟩,?_⟩
 rintro i hI
 have q1:=hI.1
 have q2:=hI.2.1
 refine⟨fun hi=>⟨q1,hi,fun hd=>Xoa hI hi hd,fun hd=>?_⟩,fun hi=>at_no hI hi⟩
 rw[w64 (x:=i+1) (by omega) (by omega)]
 refine⟨⟨by omega,by omega,fun j hj=>?_⟩,by unfold atM;omega⟩
 by_cases e:j=i.toNat
 · rw[e];exact hd
 · exact hI.2.2 j (by omega)
theorem X2K.eq:EqS X6E Tryz.f121 [3] [] [] (fun i x=>X2K.L x.1 x.2) (fun i x=>X2K.F x.1 x.2):=by intro i x;kernel_rfl
theorem X2K.ok:X0o Tryz.prog 121 X6E:=X2u X2K.eq Tryz.func121 rfl (by kernel_rfl) fun i x h hi hw=>X2K.pure x.1 x.2 h hw
def X2K.e:GE:=⟨121,X6E,⟨_,Tryz.func121,rfl,rfl⟩,X2K.ok⟩
def Xm4.L(a0:(List U4q))(a1:U4q):Nat→Option X0a:=fun p=>Go.Proofs.YtgmafgmjbaoomaaGreat.Bv.look p [(122,{kp:={hold:=[0,1],slots:=[5,6,7],boxes:=[],rows:=[{bx:=false,s:=5,i:=0,k:=1000643,e:=9,hot:=true},{bx:=false,s:=0,i:=0,k:=1000003,e:=9,hot:=true}]},T:=(.pair .bool (.pair (.int .i64) (.pair (.list .str) (.list .str)))),I:=fun st y=>nmB a0 a1 y.1 y.2.1 y.2.2.1 y.2.2.2,μ:=fun st y=>nmN a0 a1 y.1 y.2.1 y.2.2.1 y.2.2.2})]
def Xms(o:List Str)(l:List Ser):List Str:=l.foldl (fun o x=>fName o x.1) o
def XjY(ls:List (List Ser)):List Str:=ls.foldl Xms []
theorem Xh2(ls:List (List Ser)):0≤cL tot ls:=Xjy Xe2 ls
theorem XlU{ls:List (List Ser)}:∀{i:Nat},i<ls.length→tot (ls.getD i [])+cL tot (ls.take i)≤cL tot ls:=fun {i} hi=>by
 have a:=(XgF tot [] hi).2
 have b:=Xh2 (ls.drop (i+1))
 omega
structure kyI (ls:List (List Ser)) (i:Int) (out:List Str):Prop where
 h1:0≤i
 h2:i≤ls.length
 h3:out=XjY (ls.take i.toNat)
 h4:(out.length:Int)≤cL tot (ls.take i.toNat)
def kyM(ls:List (List Ser))(i:Int)(out:List Str):Nat:=(ls.length - i).toNat
structure kzI (ls:List (List Ser)) (i k:Int) (out:List Str):Prop where
 h1:0≤i
 h2:i<ls.length
 h3:0≤k
 h4:k≤(ls.getD i.toNat []).length
 h5:out=Xms (XjY (ls.take i.toNat)) ((ls.getD i.toNat []).take k.toNat)
 h6:(out.length:Int)≤cL tot (ls.take i.toNat)+k
def kzM(ls:List (List Ser))(i k:Int)(out:List Str):Nat:=((ls.getD i.toNat []).length - k).toNat
def XmE.L(a0:(List U8q)):Nat→Option X0a:=fun p=>Go.Proofs.YtgmafgmjbaoomaaGreat.Bv.look p [(58,{kp:={hold:=[0],slots:=[3,4],boxes:=[],rows:=[{bx:=false,s:=3,i:=0,k:=1000387,e:=9,hot:=true}]},T:=(.pair (.int .i64) (.list .str)),I:=fun st y=>kyI a0 y.1 y.2,μ:=fun st y=>kyM a0 y.1 y.2}),(3730,{kp:={hold:=[0,4],slots:=[3,5],boxes:=[],rows:=[{bx:=false,s:=3,i:=0,k:=1000387,e:=9,hot:=true}]},T:=(.pair (.int .i64) (.list .str)),I:=fun st y=>kzI a0 (XdC (X2w st 4 0)) y.1 y.2,μ:=fun st y=>kzM a0 (XdC (X2w st 4 0)) y.1 y.2})]
def okOne(f:Str):Bool:=(XcC f).2
structure lyI (e:Eng) (out:List (List Ser)) (i:Int) (fl:Int) (ca:List Ser) (fi:List Str):Prop where
 h0:((fl,(ca,fi)):Eng)=e
 h1:0≤i
 h2:i≤e.2.2.length
 h3:out=fLay (e.2.2.take i.toNat)
 h4:∀j,j<i.toNat→okOne (e.2.2.getD j [])=true
def lyM(e:Eng)(out:List (List Ser))(i:Int)(fl:Int)(ca:List Ser)(fi:List Str):Nat:=(e.2.2.length - i).toNat
def Xkr.L(a0:Xhd):Nat→Option X0a:=fun p=>Go.Proofs.YtgmafgmjbaoomaaGreat.Bv.look p [(58,{kp:={hold:=[1],slots:=[4,5],boxes:=[2],rows:=[{bx:=false,s:=4,i:=0,k:=1000515,e:=25,hot:=false}]},T:=(.pair (.list X8V) (.pair (.int .i64) Xfd)),I:=fun st y=>lyI a0 y.1 y.2.1 y.2.2.1 y.2.2.2.1 y.2.2.2.2,μ:=fun st y=>lyM a0 y.1 y.2.1 y.2.2.1 y.2.2.2.1 y.2.2.2.2})]
def Xkn(ls:List (List Ser))(f:Int)(k:Str):List Pt:=X7U (hasL ls k) f 1099511627777
def XnW(ls:List (List Ser))(f:Int)(k:Str):Prop:=cL tot ls≤10000000
structure hsI (ls:List (List Ser)) (f:Int) (k:Str) (i:Int) (out:List Pt):Prop where
 h1:0≤i
 h2:i≤ls.length
 h3:out=hasL (ls.take i.toNat) k
 h4:(out.length:Int)≤cL tot (ls.take i.toNat)
def hsM(ls:List (List Ser))(f:Int)(k:Str)(i:Int)(out:List Pt):Nat:=(ls.length - i).toNat
theorem Xke{ls:List (List Ser)}{f:Int}{k:Str}{i:Int}{out o':List Pt}(h:hsI ls f k i out)(hi:i<ls.length)(ho:o'=X7W out (Xar (ls.getD i.toNat []) k))(hl:(Xar (ls.getD i.toNat []) k).length≤tot (ls.getD i.toNat [])):hsI ls f k (i+1) o':=by
 obtain⟨h1,h2,h3,h4⟩:=h
 have a:=(XgF tot [] (by omega:i.toNat<ls.length)).1
 have b:=X9B (Xar (ls.getD i.toNat []) k) out
 refine⟨by omega,by omega,?_,by rw[tn1 h1,a,ho];omega⟩
 rw[tn1 h1,X0S [] (by omega),ho,h3]
 simp only[hasL,List.foldl_append,List.foldl_cons,List.foldl_nil]
theorem XnK(l:List Ser)(k:Str):((Xar l k).length:Int)≤tot l:=by
 induction l with
 | nil=>simp[Xkd,tot,cL]
 | cons x l ih=>
   have h1:tot (x::l)=cS x+tot l:=Xad ..
   have h2:cS x=(x.2.length:Int)+1:=rfl
   have h3:=Xe2 l
   rw[XaI];split<;>omega
theorem Xp4{ls:List (List Ser)}{f:Int}{k:Str}{i:Int}{out:List Pt}(h:hsI ls f k i out)(hi:¬i<ls.length):X7U out f 1099511627777=Xkn ls f k∧(out.length:Int)≤cL tot ls:=by
 obtain⟨h1,h2,h3,h4⟩:=h
 rw[show i.toNat=ls.length by omega,List.take_length]at h3 h4
 exact⟨by rw[h3];rfl,h4⟩
structure psI (ls:List (List Ser)) (f i:Int) (out:List Ser):Prop where
 h1:0≤i
 h2:i≤(XjY ls).length
 h3:out=(((XjY ls).take i.toNat).map fun k=>(k,Xkn ls f k)).filter fun x=>!x.2.isEmpty
 h4:(out.length:Int)≤i
def psM(ls:List (List Ser))(f i:Int)(out:List Ser):Nat:=((XjY ls).length - i).toNat
def X5Q:Con:={A:=(.pair (.list X8V) (.pair (.int .i64) .str)),shA:=[.one,.one,.one],R:=X60,shR:=[(false,1)],fresh:=[(0,107)],pre:=fun _ a=>(XnW a.1 a.2.1 a.2.2),f:=some fun _ a=>((Xkn a.1 a.2.1 a.2.2),((),()))}
def X2f.F(a0:(List U8q))(a1:Int)(a2:U4q):Prop:=(eS [(0,.val false [.lst X8V a0 none]),(1,.val false [.int .i64 a1]),(2,.val false [.str a2])] [(0,.val false [.lst X8V a0 none]),(1,.val false [.int .i64 a1]),(2,.val false [.str a2])]∧((hsI a0 a1 a2 0 ([]:List (Int×Int)))∧∀(y1:(Int×U5q)),(hsI a0 a1 a2 y1.1 y1.2)→(X00 (decide (y1.1<(ln a0))) (0≤y1.1∧(y1.1<(ln a0)∧(True∧∀r2,(Eq r2 ((fAt (List.getD a0 (tN y1.1) []) a2),((),())))→(X00 (decide (r2.1≥(0:Int))) (0≤y1.1∧(y1.1<(ln a0)∧(0≤r2.1∧(r2.1<(ln (List.getD a0 (tN y1.1) []))∧((XkI y1.2 ((List.getD (List.getD a0 (tN y1.1) []) (tN r2.1) ([],[])).2))∧∀r3,(Eq r3 ((XjM y1.2 ((List.getD (List.getD a0 (tN y1.1) []) (tN r2.1) ([],[])).2)),((),())))→(eS [(0,.val false [.lst X8V a0 none]),(1,.val false [.int .i64 a1]),(2,.val false [.str a2])] [(0,.val false [.lst X8V a0 none]),(1,.val false [.int .i64 a1]),(2,.val false [.str a2])]∧(hsI a0 a1 a2 (wI (y1.1+(1:Int))) r3.1)∧(hsM a0 a1 a2 (wI (y1.1+(1:Int))) r3.1)<(hsM a0 a1 a2 y1.1 y1.2))))))) (eS [(0,.val false [.lst X8V a0 none]),(1,.val false [.int .i64 a1]),(2,.val false [.str a2])] [(0,.val false [.lst X8V a0 none]),(1,.val false [.int .i64 a1]),(2,.val false [.str a2])]∧(hsI a0 a1 a2 (wI (y1.1+(1:Int))) y1.2)∧(hsM a0 a1 a2 (wI (y1.1+(1:Int))) y1.2)<(hsM a0 a1 a2 y1.1 y1.2)))))) ((XbS y1.2 a1 1099511627777)∧∀r4,(Eq r4 ((X7U y1.2 a1 1099511627777),((),())))→(Eq (r4.1,((),())) ((Xkn a0 a1 a2),((),())))))))
def X2f.L(a0:(List U8q))(a1:Int)(a2:U4q):Nat→Option X0a:=fun p=>Go.Proofs.YtgmafgmjbaoomaaGreat.Bv.look p [(58,{kp:={hold:=[0,1,2],slots:=[7,8],boxes:=[],rows:=[{bx:=false,s:=7,i:=0,k:=1000899,e:=107,hot:=true}]},T:=(.pair (.int .i64) X60),I:=fun st y=>hsI a0 a1 a2 y.1 y.2,μ:=fun st y=>hsM a0 a1 a2 y.1 y.2})]
theorem X2f.pure(a0:(List U8q))(a1:Int)(a2:U4q)(h:(XnW a0 a1 a2))(hw:Wf X5Q.A (a0,a1,a2)):X2f.F a0 a1 a2:=by
 delta X2f.F ln tN wI eS
 simp only[Bs,B0,B1,Prod.mk.injEq,X03,XkI,XjM,XbS]
 have hn:cL tot a0≤10000000:=h
 have hl:a0.length≤9223372036854775807:=hw.1.1
 refine⟨⟨by omega,by omega,rfl,by simp[cL]⟩,?_⟩
 rintro⟨i,out⟩ hI
 simp only at hI ⊢
 have q1:=hI.h1
 have q2:=hI.h2
 have q4:=hI.h4
 refine⟨fun hi=>?_,fun hi=>?_⟩
 · obtain⟨a1',a2'⟩:=XoL (a0.getD i.toNat []) a2
   have b1:=XnK (a0.getD i.toNat []) a2
   have b2:=XlU (ls:=a0) (i:=i.toNat) (by omega)
   have b3:=Xh2 (a0.take i.toNat)
   have b4:=Xe2 (a0.getD i.toNat [])
   rw[w64 (x:=i+1) (by omega) (by omega)]
   refine⟨q1,hi,fun h3=>?_,fun h3=>⟨Xke hI hi (by rw[a2' h3,Xk3]) b1,by unfold hsM;omega⟩⟩
   obtain⟨c1,c2⟩:=a1' h3
   rw[c2]
   exact⟨q1,hi,by omega,c1,⟨by omega,by omega⟩,Xke hI hi rfl b1,by unfold hsM;omega⟩
 · obtain⟨e1,e2⟩:=Xp4 hI hi
   exact⟨by omega,e1⟩
theorem X2f.eq:EqS X5Q Tryz.f63 [91] [X1y.e,X2K.e,X1K.e] [] (fun i x=>X2f.L x.1 x.2.1 x.2.2) (fun i x=>X2f.F x.1 x.2.1 x.2.2):=by intro i x;kernel_rfl
theorem X2f.ok:X0o Tryz.prog 63 X5Q:=X2u X2f.eq Tryz.func63 rfl (by kernel_rfl) fun i x h hi hw=>X2f.pure x.1 x.2.1 x.2.2 h hw
def X2f.e:GE:=⟨63,X5Q,⟨_,Tryz.func63,rfl,rfl⟩,X2f.ok⟩
def Xlh.L(a0:(List U8q))(a1:Int):Nat→Option X0a:=fun p=>Go.Proofs.YtgmafgmjbaoomaaGreat.Bv.look p [(122,{kp:={hold:=[0,1,6],slots:=[5,7],boxes:=[],rows:=[{bx:=false,s:=5,i:=0,k:=1000643,e:=109,hot:=true}]},T:=(.pair (.int .i64) X8V),I:=fun st y=>psI a0 a1 y.1 y.2,μ:=fun st y=>psM a0 a1 y.1 y.2})]
def Xlz.L(a0:U8q):Nat→Option X0a:=fun p=>Go.Proofs.YtgmafgmjbaoomaaGreat.Bv.look p [(58,{kp:={hold:=[0],slots:=[3,4],boxes:=[],rows:=[]},T:=T0q,I:=fun st y=>cnI a0 y.1 y.2,μ:=fun st y=>cnM a0 y.1 y.2})]
end Go.Proofs.YtgmafgmjbaoomaaGreat.B
