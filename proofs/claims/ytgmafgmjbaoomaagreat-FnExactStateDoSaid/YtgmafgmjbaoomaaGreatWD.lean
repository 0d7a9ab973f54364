/- Walks of Go functions by value:the library,part 4 of 4. -/
import Derived.Test.YtgmafgmjbaoomaaGreatWC
import Derived.ChangeKeysEq
import Derived.KernelRfl
import Derived.IntWalk
import Derived.Carry
import Derived.WalkKit
import Derived.ProofKit
import Derived.OpenShut
import Derived.SizedLaws
set_option linter.unusedVariables false
set_option linter.unusedSimpArgs false
namespace Go.Proofs.YtgmafgmjbaoomaaGreat.Bv
variable {P:Program} {base:World} {M0:Mem} {ios:Ios} {σ:Sg} {M:Mem} {w w':World} {a:Act} {st:St} {tab:Tab} {Γ:Gam} {o:Oper} {next:Act->World->Prop} {Q:Exit->Act->World->Prop} {k:Option Nat} {ks iks bks:List Nat} {H:Type} {enc:TypeId×Value->H}
def Xwh(ms:List Nat):List Edge->Nat
 | []=>0
 | e::r=>match Region.binds .any e with
   | true=>(2 ^ e.on|||ms.getD e.on 0)|||Xwh ms r
   | false=>Xwh ms r
def Xeq:List Oper->List Nat->List Nat
 | [],ms=>ms
 | o::l,ms=>Xeq l (ms++[Xwh ms o.after.toList])
theorem Xlq{ms:List Nat}{i:Nat}:∀{es:List Edge},(Xwh ms es).testBit i=true->∃e∈es,Region.binds .any e=true/\(e.on=i\/(ms.getD e.on 0).testBit i=true)
 | [],h=>by simp[Xwh]at h
 | e::r,h=>by
   simp only[Xwh]at h
   split at h
   . rename_i hb
     simp only[Nat.testBit_or,Ya7,Nat.testBit_two_pow,Yaj]at h
     rcases h with h | h
     . exact⟨e,by simp,hb,h⟩
     . obtain⟨e',h1,h2,h3⟩:=Xlq h;exact⟨e',Yan _ h1,h2,h3⟩
   . obtain⟨e',h1,h2,h3⟩:=Xlq h;exact⟨e',Yan _ h1,h2,h3⟩
def Xt4(j:Nat):List Edge->Bool
 | []=>true
 | e::r=>(match Region.binds .any e with | true=>decide (e.on<j) | false=>true)&&Xt4 j r
theorem Xkm{j:Nat}:∀{es:List Edge},Xt4 j es=true->∀e∈es,Region.binds .any e=true->e.on<j
 | [],_,e,he,_=>by cases he
 | e::r,h,e',he,hb=>by
   simp only[Xt4,Yac]at h
   rcases Yak.1 he with h1 | h1
   . subst h1;rw[hb]at h;simpa using h.1
   . exact Xkm h.2 e' h1 hb
def Xxl(o:Oper):List Nat:=match o.dst with
 | some d=>[d]
 | none=>[]
theorem Xll{o:Oper}{d:Nat}(h:o.dst=some d):d∈Xxl o:=by simp[Xxl,h]
def Xsg(S B R:List Nat)(o:Oper)(x:Option Eff):Bool:=XfY (Xxl o) S&&XfY (tB o x) B&&XfY (tR x) R
theorem Xo3{S B R:List Nat}{o:Oper}{x:Option Eff}(h:Xsg S B R o x=true):XnF S B R o x:=by
 simp only[Xsg,Yac]at h
 exact⟨λd hd=>X8h h.1.1 d (Xll hd),X8h h.1.2,X8h h.2⟩
def Xr1(o:Oper)(x:Option Eff)(o':Oper)(x':Option Eff):Bool:=XfY (Xxl o) (Xxl o')&&XfY (tB o x) (tB o' x')&&XfY (tR x) (tR x')
theorem Xo0{o o':Oper}{x x':Option Eff}(h:Xr1 o x o' x'=true):Xm0 o x o' x':=by
 simp only[Xr1,Yac]at h
 exact⟨λd hd e=>X8h h.1.1 d (Xll hd) (Xll e),X8h h.1.2,X8h h.2⟩
def Xo7:Option Eff->Option Eff
 | some e=>some {e with krow:=[]}
 | none=>none
def Xib:List (Oper×Option Eff)->List (Oper×Option Eff)
 | []=>[]
 | (o,x)::l=>(o,Xo7 x)::Xib l
structure Sub (s s':St):Prop where
 slots:∀p∈s.slots,p∈s'.slots
 boxes:∀p∈s.boxes,p∈s'.boxes
 rows:∀p∈s.rows,p∈s'.rows
theorem Xci{k:Nat}:∀{l:List (Nat×Sv)},X9Q k l=true↔∀p∈l,Xsq k p.2=true
 | []=>by simp[X9Q]
 | p::l=>by simp[X9Q,Xci (l:=l)]
theorem Xcy{k:Nat}:∀{l:List (Nat×Sv)},X9K k l=true↔∀p∈l,Xpc k p.2=true
 | []=>by simp[X9K]
 | p::l=>by simp[X9K,Xcy (l:=l)]
theorem Xcg{k:Nat}:∀{l:List (Nat×List X02)},X6a k l=true↔∀p∈l,Xn2 k p.2=true
 | []=>by simp[X6a]
 | p::l=>by simp[X6a,Xcg (l:=l)]
theorem Xcn{r ver:Nat}:∀{l:List (Nat×Sv)},X8p r ver l=true↔∀p∈l,Xhq r ver p.2=true
 | []=>by simp[X8p]
 | p::l=>by simp[X8p,Xcn (l:=l)]
theorem Xcu{r ver:Nat}:∀{l:List (Nat×List X02)},X8v r ver l=true↔∀p∈l,X9C r ver p.2=true
 | []=>by simp[X8v]
 | p::l=>by simp[X8v,Xcu (l:=l)]
theorem Sub.noVers{s s':St}(h:Sub s s'):∀{l:List (Nat×X0I)},noVers s' l=true->noVers s l=true
 | [],_=>rfl
 | (r,.hot _ _ _ ver _ _)::l,hn=>by
   simp only[Bv.noVers,Yac]at hn ⊢
   exact⟨⟨Xcn.2 λp hp=>Xcn.1 hn.1.1 p (h.slots p hp),Xcu.2 λp hp=>Xcu.1 hn.1.2 p (h.boxes p hp)⟩,h.noVers hn.2⟩
 | (r,.cold _)::l,hn=>by simp only[Bv.noVers]at hn ⊢;exact h.noVers hn
 | (r,.frz _ _ _ _ _)::l,hn=>by simp only[Bv.noVers]at hn ⊢;exact h.noVers hn
theorem Sub.noTag{s s':St}(h:Sub s s'){r:Nat}(hn:noTag r s'=true):noTag r s=true:=by
 unfold Bv.noTag at hn ⊢
 simp only[Yac,YaP]at hn ⊢
 refine⟨⟨Xcy.2 λp hp=>Xcy.1 hn.1.1 p (h.slots p hp),Xcg.2 λp hp=>Xcg.1 hn.1.2 p (h.boxes p hp)⟩,?_⟩
 cases hs:(look r s.rows).isSome with
 | false=>rfl
 | true=>
   obtain⟨x,hx⟩:=XgG.1 hs
   have:(look r s'.rows).isSome=true:=XgG.2 ⟨x,h.rows _ hx⟩
   rw[this]at hn;exact absurd hn.2 (by simp)
theorem Sub.noTags{s s':St}(h:Sub s s'):∀{l:List (Nat×X0I)},noTags s' l=true->noTags s l=true
 | [],_=>rfl
 | p::l,hn=>by
   simp only[Bv.noTags,Yac]at hn ⊢
   exact⟨h.noTag hn.1,h.noTags hn.2⟩
theorem Sub.fresh{s s':St}(h:Sub s s'){e:Eff}{d:Option Nat}(hf:X3o e d s'=true):X3o e d s=true:=by
 unfold X3o at hf ⊢
 simp only[Yac]at hf ⊢
 refine⟨⟨⟨?_,h.noTags hf.1.1.2⟩,h.noVers hf.1.2⟩,hf.2⟩
 have h1:=hf.1.1.1
 split at h1
 . exact Xci.2 λp hp=>Xci.1 h1 p (h.slots p hp)
 . rfl
theorem Xq2{e:Eff}{rows rows':List (Nat×X0I)}(h:∀p∈rows,p∈rows'):∀p∈e.rowsOf rows,p∈({e with krow:=[]}:Eff).rowsOf rows':=λp hp=>by
 rw[X5z]at hp ⊢
 rcases Yaf.1 hp with h1 | h1
 . exact Yaf.2 (.inl h1)
 . refine Yaf.2 (.inr ?_)
   have h2:=(Ybz.1 h1).1
   refine Ybz.2 ⟨?_,rfl⟩
   rcases Yaf.1 h2 with h3 | h3
   . exact Yaf.2 (.inl h3)
   . exact Yaf.2 (.inr (h p h3))
theorem XnL{e:Eff}{rows:List (Nat×X0I)}:∀p∈rows,p∈({e with krow:=[]}:Eff).rowsOf rows:=λp hp=>by
 rw[X5z]
 exact Yaf.2 (.inr (Ybz.2 ⟨Yaf.2 (.inr hp),rfl⟩))
theorem Sub.both{s s':St}(h:Sub s s')(o:Oper)(x:Option Eff):Sub (X1p o x s) (X1p o (Xo7 x) s'):=by
 cases x with
 | none=>
   simp only[X1p,Xo7,X7p]
   cases o.dst with
   | none=>exact h
   | some d=>
     refine⟨λp hp=>?_,h.boxes,h.rows⟩
     rcases Yak.1 hp with e | e
     . exact e▸Ycn
     . exact Yan _ (h.slots p e)
 | some e=>
   simp only[X1p,Xo7,Eff.apply]
   refine⟨?_,?_,?_⟩
   . intro p hp
     cases hd:o.dst with
     | none=>rw[hd]at hp;exact h.slots p hp
     | some d=>
       rw[hd]at hp
       rcases Yak.1 hp with e2 | e2
       . exact e2▸Ycn
       . exact Yan _ (h.slots p e2)
   . intro p hp
     simp only at hp ⊢
     cases hs:e.sbox<;>cases hd:o.dst<;>cases hn:e.nbox<;>simp only[hs,hd,hn,Yak]at hp ⊢
     all_goals first
      | exact h.boxes p hp
      | (rcases hp with e2 | e2
         . exact .inl e2
         . first
           | exact .inr (h.boxes p e2)
           | (rcases e2 with e3 | e3
              . exact .inr (.inl e3)
              . exact .inr (.inr (h.boxes p e3))))
   . exact Xq2 h.rows
theorem Sub.right{s s':St}(h:Sub s s')(o:Oper)(x:Option Eff):Sub s (X1p o (Xo7 x) s'):=by
 cases x with
 | none=>
   simp only[X1p,Xo7,X7p]
   cases o.dst with
   | none=>exact h
   | some d=>exact⟨λp hp=>Yan _ (h.slots p hp),h.boxes,h.rows⟩
 | some e=>
   simp only[X1p,Xo7,Eff.apply]
   refine⟨?_,?_,?_⟩
   . intro p hp
     cases hd:o.dst with
     | none=>exact h.slots p hp
     | some d=>exact Yan _ (h.slots p hp)
   . intro p hp
     have:=h.boxes p hp
     cases hs:e.sbox<;>cases hd:o.dst<;>cases hn:e.nbox<;>simp[this]
   . exact λp hp=>XnL p (h.rows p hp)
theorem Sub.mix{L L':Nat->Bool}(hL:∀i,L i=true->L' i=true):∀{l:List (Oper×Option Eff)} {k:Nat} {s s':St},Sub s s'->Sub (X8t L k l s) (X8t L' k (Xib l) s')
 | [],_,_,_,h=>h
 | (o,x)::l,k,s,s',h=>by
   simp only[X8t,Xib]
   refine Sub.mix hL ?_
   cases h1:L k
   . cases h2:L' k
     . exact h
     . exact h.right o x
   . rw[hL k h1];exact h.both o x
def Xps(ms:List Nat)(zl:List (Oper×Option Eff))(S B R:List Nat)(o:Oper)(x:Option Eff)(j:Nat):Nat->Bool
 | 0=>true
 | i+1=>(i==j||(ms.getD j 0).testBit i||(ms.getD i 0).testBit j||(match zl[i]? with
    | some (o',x')=>Xsg S B R o' x'&&Xr1 o x o' x'
    | none=>false))&&Xps ms zl S B R o x j i
theorem XiK{ms:List Nat}{zl:List (Oper×Option Eff)}{S B R:List Nat}{o:Oper}{x:Option Eff}{j:Nat}:∀{n:Nat},Xps ms zl S B R o x j n=true->
 ∀i<n,i≠j->(ms.getD j 0).testBit i=false->(ms.getD i 0).testBit j=false->∀o' x',zl[i]?=some (o',x')->XnF S B R o' x'/\Xm0 o x o' x'
 | 0,_,i,hi,_,_,_,_,_,_=>by omega
 | n+1,h,i,hi,hne,h1,h2,o',x',hz=>by
   simp only[Xps,Yac,Ya7,YbS]at h
   by_cases he:i=n
   . subst he
     rcases h.1 with((h3 | h3) | h3) | h3
     . exact absurd h3 hne
     . rw[h1]at h3;cases h3
     . rw[h2]at h3;cases h3
     . rw[hz]at h3
       simp only[Yac]at h3
       exact⟨Xo3 h3.1,Xo0 h3.2⟩
   . exact XiK h.2 i (by omega) hne h1 h2 o' x' hz
def Xw6(s:St)(o:Oper):List Nat:=Xu5 s o.op.operands.toList
def XsR(s:St)(o:Oper):List Nat:=Xuj s o.op.operands.toList
def XiR(all:List Oper)(o:Oper):List Nat:=Xd2 o.op.operands.toList++XqN all o
def XfR:Option X0I->Bool
 | some (.frz ..)=>true
 | _=>false
def XkN(o:Oper):Bool:=match o.op with
 | .move _=>true
 | .assign _=>true
 | _=>false
def nfE(r:Nat):Option Eff->Bool
 | some e=>(e.nrow++e.urow).all λq=>!(q.1==r&&XfR (some q.2))
 | none=>true
def nfB(zl:List (Oper×Option Eff))(s0:St):List Nat->Bool
 | []=>true
 | r::l=>!XfR (s0.rowv r)&&(zl.all λp=>nfE r p.2)&&nfB zl s0 l
theorem XoG{zl:List (Oper×Option Eff)}{s0:St}:∀{l:List Nat},nfB zl s0 l=true->∀r∈l,XfR (s0.rowv r)=false/\∀p∈zl,nfE r p.2=true
 | [],_,r,hr=>by cases hr
 | r0::l,h,r,hr=>by
   simp only[nfB,Yac,YaP,Ya6]at h
   rcases Yak.1 hr with e | hr
   . subst e;exact⟨h.1.1,h.1.2⟩
   . exact XoG h.2 r hr
theorem Xtd{o:Oper}{x:Option Eff}{s:St}{r:Nat}(h:XfR (s.rowv r)=false)(he:nfE r x=true):XfR ((X1p o x s).rowv r)=false:=by
 cases x with
 | none=>
   have:(X1p o none s).rowv r=s.rowv r:=by simp only[X1p,X7p];cases o.dst<;>rfl
   rw[this];exact h
 | some e=>
   simp only[nfE,Ya6]at he
   have hrows:(X1p o (some e) s).rowv r=look r (e.nrow++X0z e.urow e.krow s.rows):=by
    simp only[X1p,Eff.apply,St.rowv,X5z]
   rw[hrows,X5k]
   have mem:∀rv,(r,rv)∈e.nrow++e.urow->XfR (some rv)=false:=λrv hm=>by
    have:=he (r,rv) hm
    simpa using this
   cases hl:look r e.nrow with
   | some rv=>exact mem rv (Yaf.2 (.inl (X3I hl)))
   | none=>
     simp only
     cases hl2:look r (X0z e.urow e.krow s.rows) with
     | none=>rfl
     | some rv=>
       rcases(X4l hl2).2 with h1 | ⟨_,h1⟩
       . exact mem rv (Yaf.2 (.inr (X3I h1)))
       . have h2:s.rowv r=some rv:=h1
         rw[h2]at h;exact h
theorem XsW{r:Nat}{L:Nat->Bool}:∀{l:List (Oper×Option Eff)} {k:Nat} {s:St},XfR (s.rowv r)=false->(∀p∈l,nfE r p.2=true)->XfR ((X8t L k l s).rowv r)=false
 | [],_,_,h,_=>h
 | (o,x)::l,k,s,h,he=>by
   simp only[X8t]
   refine XsW ?_ λp hp=>he p (Yan _ hp)
   cases L k
   . exact h
   . exact Xtd h (he (o,x) (by simp))
theorem Xw8{rows:List (Nat×X0I)}{c:X02}(h:∀r,Xxz c=some r->XfR (look r rows)=false):Xnl rows c=c:=by
 cases c<;>first | rfl | skip
 . rename_i t r
   have h1:=h r rfl
   simp only[Xnl]
   split
   . rename_i hl;rw[hl]at h1;cases h1
   . rfl
 . rename_i t r lo hi
   have h1:=h r rfl
   simp only[Xnl]
   split
   . rename_i hl;rw[hl]at h1;cases h1
   . rfl
 . rename_i t l r ver p
   have h1:=h r rfl
   simp only[Xnl]
   split
   . rename_i hl;rw[hl]at h1;cases h1
   . rfl
theorem Xli{rows:List (Nat×X0I)}:∀{cs:List X02},(∀r∈Xch cs,XfR (look r rows)=false)->Xbt rows cs=cs
 | [],_=>rfl
 | c::cs,h=>by
   simp only[Xbt]
   rw [Xw8 λr hr=>h r (Xjd (by simp) hr),Xli λr hr=>h r (by
    simp only[Xch];split
    . exact Yan _ hr
    . exact hr)]
theorem Xrq{rows:List (Nat×X0I)}:∀{l:List (Bool×List X02)},(∀r∈Xo8 l,XfR (look r rows)=false)->resL rows l=l
 | [],_=>rfl
 | (a,cs)::l,h=>by
   simp only[resL]
   rw[Xli λr hr=>h r (by simp[Xo8,hr]),Xrq λr hr=>h r (by simp[Xo8,hr])]
theorem Xt5{rows:List (Nat×X0I)}{sv:Sv}(h:∀r∈X8u sv,XfR (look r rows)=false):Xcw rows sv=sv:=by
 cases sv<;>first | rfl | skip
 . simp only[Xcw];rw[Xli h]
 . simp only[Xcw];rw[Xrq h]
 . rename_i cs r ver
   have h1:=h r (by simp[X8u])
   simp only[Xcw]
   split
   . rename_i hl;rw[hl]at h1;cases h1
   . rfl
theorem XgR{α:Type}{l:List (Nat×α)}{r:Nat}:∀{ks:List Nat} {x:α},look r (pick l ks)=some x->look r l=some x
 | [],x,h=>by cases h
 | k::ks,x,h=>by
   simp only[pick]at h
   split at h
   . rename_i y hy
     rw[X07]at h
     split at h
     . rename_i e;subst e;cases h;exact hy
     . exact XgR h
   . exact XgR h
theorem XkG{s:St}{x:Operand}(h:∀r∈opR s x,XfR (s.rowv r)=false):(X3p s x).sv=match x with | .tmp t=>s.get t | .const v=>Xfu v | .func f=>.fn f [] [] | .global _=>.und:=by
 cases x with
 | tmp t=>
   show Xcw _ (s.get t)=s.get t
   refine Xt5 λr hr=>?_
   have h1:=h r (by simp[opR,hr])
   cases hl:look r (pick s.rows (X8u (s.get t)++Xep (pick s.boxes (X4t (s.get t))))) with
   | none=>rfl
   | some rv=>
     have h2:s.rowv r=some rv:=XgR hl
     rw[h2]at h1;exact h1
 | _=>rfl
theorem XpO{o:Oper}{s s':St}(hm:XkN o=true)(h:∀x∈o.op.operands.toList,(X3p s' x).sv=(X3p s x).sv):Xcv tab Γ o s'=Xcv tab Γ o s:=by
 have gen:∀(x:Operand),(o.op=.move x\/o.op=.assign x)->∀st:St,Xcv tab Γ o st=some ([],({sv:=Xhx tab o.type (X3p st x).sv}:Eff).frz []):=λx hx st=>by
  rcases hx with hx | hx
  . have ho:o.op.operands.toList=[x]:=by rw[hx];rfl
    unfold Xcv
    simp only[ho,Yaq,YaG]
    have hc:X4S Γ o [X3p st x]=none:=by unfold X4S;rw[hx]
    have hn:X8d tab Γ o [X3p st x]=[]:=by unfold X8d;rw[hc,hx]
    rw[hn]
    show Xeb tab Γ o [] [X3p st x]=_
    unfold Xeb
    rw[hc]
    simp only[YaG,X5I,XeZ,hx]
  . have ho:o.op.operands.toList=[x]:=by rw[hx];rfl
    unfold Xcv
    simp only[ho,Yaq,YaG]
    have hc:X4S Γ o [X3p st x]=none:=by unfold X4S;rw[hx]
    have hn:X8d tab Γ o [X3p st x]=[]:=by unfold X8d;rw[hc,hx]
    rw[hn]
    show Xeb tab Γ o [] [X3p st x]=_
    unfold Xeb
    rw[hc]
    simp only[YaG,X5I,XeZ,hx]
 unfold XkN at hm
 split at hm
 . rename_i x hx
   rw[gen x (.inl hx) s',gen x (.inl hx) s,h x (by rw[hx];simp[Op.operands])]
 . rename_i x hx
   rw[gen x (.inr hx) s',gen x (.inr hx) s,h x (by rw[hx];simp[Op.operands])]
 . cases hm
def Xg2(o:Oper):Bool:=match o.op with
 | .move _=>true
 | .assign _=>true
 | .nilCheck _=>true
 | .fieldAddr _ _ _=>true
 | .load _ _=>true
 | _=>false
def XnP(o:Oper):Bool:=match o.op with
 | .load _ _=>false
 | _=>true
def XgC(s:St)(o:Oper):Bool:=Xg2 o&&match o.op.operands.toList with
 | [.tmp t]=>match s.get t with
   | .box _ _=>XnP o
   | .pp _ _=>true
   | _=>false
 | _=>false
def XkP(zl:List (Oper×Option Eff))(s0 s:St)(o:Oper):List Nat:=match XgC s o||(XkN o&&nfB zl s0 (XsR s o)) with
 | true=>[]
 | false=>XsR s o
def Xiq(s:St)(o:Oper):List Nat:=match XgC s o with
 | true=>[]
 | false=>Xw6 s o
def XpM(o:Oper):Sv->Bool
 | .box _ _=>XnP o
 | .pp _ _=>true
 | _=>false
theorem XlZ{s:St}{o:Oper}(h:XgC s o=true):Xg2 o=true/\∃t,o.op.operands.toList=[.tmp t]/\XpM o (s.get t)=true:=by
 unfold XgC at h
 rw[Yac]at h
 obtain⟨h1,h2⟩:=h
 refine⟨h1,?_⟩
 split at h2
 . rename_i t ht
   refine⟨t,ht,?_⟩
   split at h2
   . rename_i k f hk;rw[hk];exact h2
   . rename_i k f hk;rw[hk];rfl
   . cases h2
 . cases h2
theorem XqF{o:Oper}{x y:In}(hp:Xg2 o=true)(hx:XpM o x.sv=true)(hxy:y.sv=x.sv):XeZ tab Γ o [y]=XeZ tab Γ o [x]:=by
 unfold Xg2 at hp
 cases hsv:x.sv<;>rw[hsv]at hx<;>simp only[XpM]at hx<;>try (cases hx;done)
 all_goals
  rw[hsv]at hxy
  split at hp<;>rename_i hop<;>first
   | (cases hp;done)
   | (simp only[XeZ,hop,hsv,hxy];done)
   | (unfold XnP at hx;rw[hop]at hx;cases hx)
theorem Xrf{o:Oper}{s s':St}{t:Nat}(hp:Xg2 o=true)(hops:o.op.operands.toList=[.tmp t])(h:XpM o (s.get t)=true)(hs:s'.get t=s.get t):Xcv tab Γ o s'=Xcv tab Γ o s:=by
 have hin:∀st:St,XpM o (st.get t)=true->(X3p st (.tmp t)).sv=st.get t:=λst h=>by
  show Xcw _ (st.get t)=st.get t
  cases hg:st.get t<;>rw[hg]at h<;>simp only[XpM]at h<;>first | rfl | (cases h;done)
 have gen:∀st:St,Xcv tab Γ o st=match XeZ tab Γ o [X3p st (.tmp t)] with | some (ps,e)=>some (ps,e.frz []) | none=>none:=λst=>by
  unfold Xcv
  simp only[hops,Yaq,YaG]
  have hc:X4S Γ o [X3p st (.tmp t)]=none:=by
   unfold Xg2 at hp
   unfold X4S
   split at hp<;>rename_i hop<;>first | (cases hp;done) | (rw[hop])
  have hn:X8d tab Γ o [X3p st (.tmp t)]=[]:=by
   unfold Xg2 at hp
   unfold X8d
   rw[hc]
   split at hp<;>rename_i hop<;>first | (cases hp;done) | (rw[hop])
  rw[hn]
  show Xeb tab Γ o [] [X3p st (.tmp t)]=_
  unfold Xeb
  rw[hc]
  simp only[YaG,X5I]
  rfl
 rw[gen s',gen s,XqF hp (x:=X3p s (.tmp t)) (by rw[hin s h];exact h) (by rw[hin s h,hin s' (by rw[hs];exact h),hs])]
def XsC(all:List Oper)(ms:List Nat)(zl:List (Oper×Option Eff))(s0:St)(j:Nat)(o:Oper)(x:Option Eff):Bool:=
 Xt4 j o.after.toList&&(ms.getD j 0==Xwh ms o.after.toList)&&decide (ms.getD j 0<2 ^ j)&&
 Xps ms zl (XiR all o) (Xiq (X1y (zl.take j) s0) o) (XkP zl s0 (X1y (zl.take j) s0) o) o x j zl.length&&
 (match x with | some e=>X3o e o.dst (X8t (λi=>!(i==j||(ms.getD i 0).testBit j)) 0 (Xib zl) s0) | none=>true)
def XtE(all:List Oper)(ms:List Nat)(zl:List (Oper×Option Eff))(s0:St):Nat->List (Oper×Option Eff)->Bool
 | _,[]=>true
 | j,(o,x)::l=>XsC all ms zl s0 j o x&&XtE all ms zl s0 (j+1) l
theorem Xh3{all:List Oper}{ms:List Nat}{zl:List (Oper×Option Eff)}{s0:St}:∀{l:List (Oper×Option Eff)} {k:Nat},XtE all ms zl s0 k l=true->∀j o x,l[j]?=some (o,x)->XsC all ms zl s0 (k+j) o x=true
 | [],_,_,j,o,x,hj=>by simp at hj
 | (o,x)::l,k,h,j,o',x',hj=>by
   simp only[XtE,Yac]at h
   cases j with
   | zero=>simp at hj;obtain⟨rfl,rfl⟩:=hj;exact h.1
   | succ j=>rw[show k+(j+1)=k+1+j by omega];exact Xh3 h.2 j o' x' (by simpa using hj)
def XjY(all:List Oper)(outs:List (Option Eff))(s0:St):Bool:=XtE all (Xeq all []) (all.zip outs) s0 0 (all.zip outs)
def Xhu(nt:Nat):List Oper->Bool
 | []=>true
 | o::l=>(match o.dst with | some d=>decide (d<nt) | none=>true)&&Xhu nt l
theorem Xdz{nt:Nat}:∀{l:List Oper},Xhu nt l=true->∀o∈l,∀d,o.dst=some d->d<nt
 | [],_,o,ho,_,_=>by cases ho
 | o::l,h,o',ho',d,hd=>by
   simp only[Xhu,Yac]at h
   rcases Yak.1 ho' with e | e
   . subst e;rw[hd]at h;simpa using h.1
   . exact Xdz h.2 o' e d hd
theorem Xey{ops:Array Oper}{o:Oper}{c:Bool}(hS:Sim P base M0 ios σ M w a st)(h:XdR ops.toList o st=some c):Region.wanted o (yielded ops a.tmps)=c:=by
 unfold XdR at h
 cases hg:o.guard with
 | none=>rw[hg]at h;cases h;simp[Region.wanted,hg]
 | some g=>
   obtain⟨j,wn⟩:=g
   rw[hg]at h
   simp only at h
   cases hj:X5U ops.toList j with
   | none=>rw[hj]at h;cases h
   | some d=>
     rw[hj]at h
     simp only at h
     split at h
     . rename_i b hb
       cases h
       simp only[Region.wanted,hg,XkA hj (hS.boolAt hb)]
       cases b<;>cases wn<;>rfl
     . rename_i hb
       cases h
       have hs:=hS.slots d
       rw[hb]at hs
       obtain⟨vs,hv,h2⟩:=hs
       have hvs:vs=#[]:=by
        have:vs.toList=[]:=by
         cases hl:vs.toList with
         | nil=>rfl
         | cons x l=>rw[hl]at h2;cases h2
        simpa using this
       rw[hvs]at hv
       simp only[Region.wanted,hg,Xiz hj hv]
       rfl
     . cases h
theorem Xnq{L:Nat->Bool}:∀{l:List (Oper×Option Eff)} {k:Nat} {s:St},(X8t L k l s).nt=s.nt
 | [],_,_=>rfl
 | (o,x)::l,k,s=>by
   simp only[X8t,Xnq (l:=l)]
   cases L k
   . rfl
   . exact Xg1 _ _ _
theorem Xe2{L:Nat->Bool}:∀{l:List (Oper×Option Eff)} {k:Nat} {s:St},(∀i,k<=i->L i=false)->X8t L k l s=s
 | [],_,_,_=>rfl
 | (o,x)::l,k,s,h=>by
   simp only[X8t,h k (YaB _),cond_false]
   exact Xe2 λi hi=>h i (by omega)
theorem Xfy:∀{l:List (Oper×Option Eff)} {j k:Nat} {s:St},X1y (l.take j) s=X8t (λi=>decide (i<k+j)) k l s
 | [],j,k,s=>by simp[X1y,X8t]
 | (o,x)::l,0,k,s=>by
   rw[Xe2 (λi hi=>by simp;omega)]
   rfl
 | (o,x)::l,j+1,k,s=>by
   rw[YbW,X5T]
   simp only[X8t,show decide (k<k+(j+1))=true by simp,Ydw]
   rw[Xfy (k:=k+1)]
   congr 1
   funext i
   rw[show k+1+j=k+(j+1) by omega]
theorem Xl5{p q:Nat->Bool}:∀{l:List Nat},(∀x,q x=true->p x=true)->(∃x∈l,p x=true/\q x=false)->l.countP q<l.countP p
 | [],_,⟨x,hx,_⟩=>by cases hx
 | y::l,h,⟨x,hx,hp,hq⟩=>by
   have hle:l.countP q<=l.countP p:=List.countP_mono_left λz _=>h z
   rcases Yak.1 hx with e | hx
   . subst e
     rw[YcH hp,Ycl (by simp[hq])]
     omega
   . have ih:=Xl5 h ⟨x,hx,hp,hq⟩
     by_cases hy:p y=true
     . rw[YcH hy]
       by_cases hy':q y=true
       . rw[YcH hy'];omega
       . rw[Ycl hy'];omega
     . rw[Ycl hy,Ycl (λe=>hy (h y e))]
       exact ih
def unl(n:Nat)(listed:Array Bool):Nat:=(List.range n).countP λi=>!listed.getD i false
theorem X0O{listed:Array Bool}{i:Nat}(h:i<listed.size)(b c:Bool):listed.getD i b=listed.getD i c:=by
 rw[Ybd,Ybd,Array.getElem?_eq_getElem h];rfl
theorem X9i{listed:Array Bool}{i:Nat}(h:i<listed.size)(j:Nat):(listed.setIfInBounds i true).getD j false=(listed.getD j false||j==i):=by
 by_cases hj:i=j
 . subst hj
   have:(listed.setIfInBounds i true).getD i false=true:=by
    rw[Ybd,Array.getElem?_setIfInBounds_self_of_lt h];rfl
   rw[this];simp
 . rw[getD_set_ne false hj]
   have:(j==i)=false:=by simp[YaK hj]
   rw[this,Ydf]
theorem Xdk{ops:Array Oper}{outs:List (Option Eff)}{st0:St}(hlen:outs.length=ops.toList.length)(hok:XjY ops.toList outs st0=true){listed:Array Bool}(hsz:listed.size=ops.size)(hcl:∀j,listed.getD j false=true->∀i,((Xeq ops.toList []).getD j 0).testBit i=true->listed.getD i false=true){i:Nat}{o:Oper}{x:Option Eff}(hli:listed.getD i false=false)(hed:∀e∈o.after,Region.binds .any e=true->listed.getD e.on false=true)(hx:(ops.toList.zip outs)[i]?=some (o,x)):
 (∀k,((Xeq ops.toList []).getD i 0).testBit k=true->listed.getD k false=true)/\
 (∀k o' x',(ops.toList.zip outs)[k]?=some (o',x')->k≠i->((k<i/\listed.getD k false=false)\/(i<k/\listed.getD k false=true))->XnF (XiR ops.toList o) (Xiq (X1y ((ops.toList.zip outs).take i) st0) o) (XkP (ops.toList.zip outs) st0 (X1y ((ops.toList.zip outs).take i) st0) o) o' x'/\Xm0 o x o' x')/\
 XdV (XiR ops.toList o) (Xiq (X1y ((ops.toList.zip outs).take i) st0) o) (XkP (ops.toList.zip outs) st0 (X1y ((ops.toList.zip outs).take i) st0) o) (X1y ((ops.toList.zip outs).take i) st0) (X8t (λj=>listed.getD j false) 0 (ops.toList.zip outs) st0)/\
 (∀k,listed.getD k false=true->((Xeq ops.toList []).getD k 0).testBit i=false)/\
 (∀e,x=some e->X3o e o.dst (X8t (λk=>!(k==i||((Xeq ops.toList []).getD k 0).testBit i)) 0 (Xib (ops.toList.zip outs)) st0)=true):=by
 have one:=fun(j:Nat) (o:Oper) (x:Option Eff) (hj:(ops.toList.zip outs)[j]?=some (o,x))=>by
  have:=Xh3 (k:=0) hok j o x hj
  rw[YaS]at this
  exact this
 have h1:=one i o x hx
 simp only[XsC,Yac,YbS,Yaj]at h1
 obtain⟨⟨⟨⟨hback,hms⟩,hml⟩,hpair⟩,hfresh⟩:=h1
 have hanc:∀k,((Xeq ops.toList []).getD i 0).testBit k=true->listed.getD k false=true:=by
  intro k hk
  rw[hms]at hk
  obtain⟨e,he,hb,h3⟩:=Xlq hk
  have hon:=hed e (by simpa using he) hb
  rcases h3 with h3 | h3
  . rw[<-h3];exact hon
  . exact hcl _ hon k h3
 have hbits:∀k o' x',(ops.toList.zip outs)[k]?=some (o',x')->∀m,k<=m->((Xeq ops.toList []).getD k 0).testBit m=false:=by
  intro k o' x' hk m hm
  have h2:=one k o' x' hk
  simp only[XsC,Yac,Yaj]at h2
  exact Nat.testBit_lt_two_pow (Ybc h2.1.1.2 (Ycf (by omega) hm))
 have clear:∀k o' x',(ops.toList.zip outs)[k]?=some (o',x')->k≠i->((k<i/\listed.getD k false=false)\/(i<k/\listed.getD k false=true))->XnF (XiR ops.toList o) (Xiq (X1y ((ops.toList.zip outs).take i) st0) o) (XkP (ops.toList.zip outs) st0 (X1y ((ops.toList.zip outs).take i) st0) o) o' x'/\Xm0 o x o' x':=by
  intro k o' x' hk hne hc
  refine XiK hpair k (YaZ.1 hk).1 hne ?_ ?_ o' x' hk
  . rcases hc with⟨_,h2⟩ | ⟨h2,_⟩
    . cases hb:((Xeq ops.toList []).getD i 0).testBit k with
      | false=>rfl
      | true=>rw[hanc k hb]at h2;cases h2
    . exact hbits i o x hx k (by omega)
  . rcases hc with⟨h2,_⟩ | ⟨_,h2⟩
    . exact hbits k o' x' hk i (by omega)
    . cases hb:((Xeq ops.toList []).getD k 0).testBit i with
      | false=>rfl
      | true=>have:=hcl k h2 i hb;rw[hli]at this;cases this
 refine⟨hanc,clear,?_,?_,λe he=>by subst he;exact hfresh⟩
 . have e0:=Xfy (l:=ops.toList.zip outs) (j:=i) (k:=0) (s:=st0)
   refine XdV.trans (s':=X8t (λk=>decide (k<0+i)) 0 (ops.toList.zip outs) st0) (by rw[<-e0];exact⟨λ_ _=>rfl,λ_ _=>rfl,λ_ _=>rfl⟩) ?_
   refine XlY (λk o' x' hk hne=>?_) ⟨λ_ _=>rfl,λ_ _=>rfl,λ_ _=>rfl⟩
   simp only[YaS]at hne
   have hki:k≠i:=by intro e;subst e;rw[hli]at hne;simp at hne
   refine(clear k o' x' hk hki ?_).1
   by_cases hlt2:k<i
   . left;refine⟨hlt2,?_⟩
     cases h4:listed.getD k false with
     | false=>rfl
     | true=>rw[h4]at hne;simp[hlt2]at hne
   . right;refine⟨by omega,?_⟩
     cases h4:listed.getD k false with
     | true=>rfl
     | false=>rw[h4]at hne;simp[hlt2]at hne
 . intro k hk
   cases hkb:((Xeq ops.toList []).getD k 0).testBit i with
   | false=>rfl
   | true=>have:=hcl k hk i hkb;rw[hli]at this;cases this
theorem XmD(hT:X1x P tab)(hΓ:Xfz P Γ){ops:Array Oper}{outs:List (Option Eff)}{st0:St}(past:Nat->Prop)(stop:Nat)(hdst:Xhu st0.nt ops.toList=true)(hlen:outs.length=ops.toList.length)(hok:XjY ops.toList outs st0=true)(hlate:∀j,stop<j->j<ops.size->((Xeq ops.toList []).getD j 0).testBit stop=true)(hgood:∀j o x,¬past j->j<stop->(ops.toList.zip outs)[j]?=some (o,x)->Xez tab Γ ops.toList (X1y ((ops.toList.zip outs).take j) st0) o x)(hq:ops.size<=stop->∀σ M w a,Sim P base M0 ios σ M w a (X1y (ops.toList.zip outs) st0)->Q .normal a w)(hst:∀(fuel:Nat) (listed:Array Bool) (σ:Sg) (M:Mem) (w:World) (a:Act) (o:Oper),listed.size=ops.size->unl ops.size listed<=fuel+1->
   (∀j,listed.getD j false=true->∀i,((Xeq ops.toList []).getD j 0).testBit i=true->listed.getD i false=true)->(∀j,stop<=j->listed.getD j false=false)->
   ops[stop]?=some o->(∀e∈o.after,Region.binds .any e=true->listed.getD e.on false=true)->Sim P base M0 ios σ M w a (X8t (λj=>listed.getD j false) 0 (ops.toList.zip outs) st0)->
   wpOp P ops Q stop (wpAny P .any ops Q fuel (listed.setIfInBounds stop true)) a w):
 ∀(fuel:Nat) (listed:Array Bool) (σ:Sg) (M:Mem) (w:World) (a:Act),listed.size=ops.size->unl ops.size listed<=fuel->
  (∀j,listed.getD j false=true->∀i,((Xeq ops.toList []).getD j 0).testBit i=true->listed.getD i false=true)->(∀j,past j->listed.getD j false=true)->(∀j,stop<=j->listed.getD j false=false)->
  Sim P base M0 ios σ M w a (X8t (λj=>listed.getD j false) 0 (ops.toList.zip outs) st0)->wpAny P .any ops Q fuel listed a w:=by
 have zlen:(ops.toList.zip outs).length=ops.size:=by simp[YcA,hlen]
 have done:∀(listed:Array Bool) (σ:Sg) (M:Mem) (w:World) (a:Act),(∀j,j<ops.size->listed.getD j false=true)->(∀j,stop<=j->listed.getD j false=false)->Sim P base M0 ios σ M w a (X8t (λj=>listed.getD j false) 0 (ops.toList.zip outs) st0)->Q .normal a w:=by
  intro listed σ M w a hall hsp hS
  refine hq (Nat.le_of_not_lt λhlt=>by have:=hall stop hlt;rw[hsp stop (YaB _)]at this;cases this) σ M w a ?_
  unfold X1y
  rw[XiH (L:=λ_=>true) (L':=λj=>listed.getD j false) _ (λi hi=>by rw[YaS];exact(hall i (by omega)).symm)]
  exact hS
 have one:=fun(j:Nat) (o:Oper) (x:Option Eff) (hj:(ops.toList.zip outs)[j]?=some (o,x))=>by
  have:=Xh3 (k:=0) hok j o x hj
  rw[YaS]at this
  exact this
 have nothing:∀(listed:Array Bool),listed.size=ops.size->Region.ready .any ops listed=[]->∀j,j<ops.size->listed.getD j false=true:=by
  intro listed hsz hr j
  induction j using Nat.strongRecOn with
  | _ j ih=>
    intro hj
    cases hl:listed.getD j false with
    | true=>rfl
    | false=>
      exfalso
      have:j∈Region.ready .any ops listed:=by
       refine mem_ready.2 ⟨by rw[X0O (by omega) true false];exact hl,ops[j],by simp[hj],λe he hb=>?_⟩
       have hz:∃x,(ops.toList.zip outs)[j]?=some (ops[j],x):=by
        have:j<outs.length:=by simp at hlen;omega
        exact⟨outs[j],by rw[List.getElem?_zip_eq_some];simp[hj,this]⟩
       obtain⟨x,hx⟩:=hz
       have h1:=one j _ x hx
       simp only[XsC,Yac]at h1
       have:=Xkm h1.1.1.1.1 e (by simpa using he) hb
       exact ih e.on this (by omega)
      rw[hr]at this
      cases this
 intro fuel
 induction fuel with
 | zero=>
   intro listed σ M w a hsz hu hcl hpa hsp hS
   have hall:∀j,j<ops.size->listed.getD j false=true:=by
    intro j hj
    cases hl:listed.getD j false with
    | true=>rfl
    | false=>
      exfalso
      have:0<(List.range ops.size).countP λi=>!listed.getD i false:=List.countP_pos_iff.2 ⟨j,by simpa using hj,by simp only[hl];rfl⟩
      unfold unl at hu
      omega
   refine⟨?_,done listed σ M w a hall hsp hS⟩
   cases hr:Region.ready .any ops listed with
   | nil=>rfl
   | cons i r=>
     have hi:i∈Region.ready .any ops listed:=by rw[hr];simp
     obtain⟨h1,o,ho,_⟩:=mem_ready.1 hi
     have hlt:=(YaU.1 ho).1
     rw[X0O (by omega) true false,hall i hlt]at h1
     cases h1
 | succ fuel ih=>
   intro listed σ M w a hsz hu hcl hpa hsp hS
   refine⟨λhr=>done listed σ M w a (nothing listed hsz hr) hsp hS,λi hi=>?_⟩
   obtain⟨hli,o,ho,hed⟩:=mem_ready.1 hi
   have hlt:=(YaU.1 ho).1
   rw[X0O (by omega) true false]at hli
   obtain⟨x,hx⟩:∃x,(ops.toList.zip outs)[i]?=some (o,x):=by
    have h2:i<outs.length:=by simp at hlen;omega
    have h3:ops[i]=o:=(YaU.1 ho).2
    exact⟨outs[i],by rw[List.getElem?_zip_eq_some];simp[hlt,h2,h3]⟩
   obtain⟨hanc,clear,hag,hdown,hfresh⟩:=Xdk hlen hok hsz hcl hli hed hx
   rcases YcN i stop with his | his | his
   rotate_left
   . subst his
     exact hst fuel listed σ M w a o hsz hu hcl hsp ho hed hS
   . have:=hanc stop (hlate i his hlt)
     rw[hsp stop (YaB _)]at this;cases this
   have hins:Xcv tab Γ o (X8t (λj=>listed.getD j false) 0 (ops.toList.zip outs) st0)=Xcv tab Γ o (X1y ((ops.toList.zip outs).take i) st0):=by
    cases hpm:XgC (X1y ((ops.toList.zip outs).take i) st0) o with
    | true=>
      obtain⟨hm1,t,hops,hget⟩:=XlZ hpm
      exact Xrf hm1 hops hget (hag.get t (by simp[XiR,hops,Xd2])).symm
    | false=>
    have hbo:Xiq (X1y ((ops.toList.zip outs).take i) st0) o=Xw6 (X1y ((ops.toList.zip outs).take i) st0) o:=by unfold Xiq;rw[hpm]
    rw[hbo]at hag
    cases hmv:XkN o&&nfB (ops.toList.zip outs) st0 (XsR (X1y ((ops.toList.zip outs).take i) st0) o) with
    | false=>
      have hrr:∀r∈XsR (X1y ((ops.toList.zip outs).take i) st0) o,(X1y ((ops.toList.zip outs).take i) st0).rowv r=(X8t (λj=>listed.getD j false) 0 (ops.toList.zip outs) st0).rowv r:=λr hr=>hag.row r (by unfold XkP;rw[hpm,hmv];exact hr)
      have hag2:=λfz=>XjF (fz:=fz) o.op.operands.toList (s:=X1y ((ops.toList.zip outs).take i) st0) (s':=X8t (λj=>listed.getD j false) 0 (ops.toList.zip outs) st0) ⟨λk hk=>hag.get k (by simp[XiR,hk]),hag.box,hrr⟩
      exact XjB (hag2 []).1 λfz=>(hag2 fz).2
    | true=>
      rw[Yac]at hmv
      have hnf:=XoG hmv.2
      have e0:=Xfy (l:=ops.toList.zip outs) (j:=i) (k:=0) (s:=st0)
      have tm:∀(xs:List Operand) (x:Operand),x∈xs->(∀k∈Xd2 [x],k∈Xd2 xs)/\∀(s:St),(∀k∈opB s x,k∈Xu5 s xs)/\∀r∈opR s x,r∈Xuj s xs:=λxs=>by
       induction xs with
       | nil=>intro x hx;cases hx
       | cons y ys ihx=>
         intro x hx
         rcases Yak.1 hx with e | hx
         . subst e
           refine⟨λk hk=>?_,λs=>⟨λk hk=>by simp[Xu5,hk],λr hr=>by simp[Xuj,hr]⟩⟩
           cases x<;>simp_all [Xd2]
         . obtain⟨q1,q2⟩:=ihx x hx
           refine⟨λk hk=>?_,λs=>⟨λk hk=>by simp[Xu5,(q2 s).1 k hk],λr hr=>by simp[Xuj,(q2 s).2 r hr]⟩⟩
           have:=q1 k hk
           cases y<;>simp[Xd2,this]
      refine XpO hmv.1 λx hx=>?_
      obtain⟨t1,t2⟩:=tm _ x hx
      have hget:∀t,x=.tmp t->(X1y ((ops.toList.zip outs).take i) st0).get t=(X8t (λj=>listed.getD j false) 0 (ops.toList.zip outs) st0).get t:=λt ht=>hag.get t (by subst ht;simp[XiR,t1 t (by simp[Xd2])])
      have hor:opR (X8t (λj=>listed.getD j false) 0 (ops.toList.zip outs) st0) x=opR (X1y ((ops.toList.zip outs).take i) st0) x:=by
       cases x with
       | tmp t=>
         simp only[opR]
         rw[<-hget t rfl]
         congr 2
         refine(XeO λk hk=>?_).symm
         exact hag.box k ((t2 _).1 k (by simp only[opB];exact hk))
       | _=>rfl
      have nf1:∀r∈opR (X1y ((ops.toList.zip outs).take i) st0) x,XfR ((X1y ((ops.toList.zip outs).take i) st0).rowv r)=false/\XfR ((X8t (λj=>listed.getD j false) 0 (ops.toList.zip outs) st0).rowv r)=false:=λr hr=>by
       obtain⟨q1,q2⟩:=hnf r ((t2 _).2 r hr)
       refine⟨?_,XsW q1 q2⟩
       rw[e0]
       exact XsW q1 q2
      rw[XkG λr hr=>(nf1 r (hor▸hr)).2,XkG λr hr=>(nf1 r hr).1]
      cases x with
      | tmp t=>exact(hget t rfl).symm
      | _=>rfl
   have hwant:XdR ops.toList o (X8t (λj=>listed.getD j false) 0 (ops.toList.zip outs) st0)=XdR ops.toList o (X1y ((ops.toList.zip outs).take i) st0):=by
    unfold XdR
    cases hg:o.guard with
    | none=>rfl
    | some g=>
      obtain⟨j,wn⟩:=g
      simp only
      cases hj:X5U ops.toList j with
      | none=>rfl
      | some d=>
        simp only
        rw[<-hag.get d (by simp[XiR,XqN,hg,hj])]
   have hmore:Ext (X1p o x (X8t (λj=>listed.getD j false) 0 (ops.toList.zip outs) st0)) (X8t (λj=>(listed.setIfInBounds i true).getD j false) 0 (ops.toList.zip outs) st0):=by
    refine Xlv (j:=i) hx (by rw[YaS];exact hli) (λk=>by rw[X9i (by omega),YaS]) (λk o' x' hk hlt2 hl=>?_)
    rw[YaS]at hl
    exact(clear k o' x' hk (by omega) (.inr ⟨hlt2,hl⟩)).2
   have next:∀(σ':Sg) (M':Mem) (w':World) (a':Act),Sim P base M0 ios σ' M' w' a' (X1p o x (X8t (λj=>listed.getD j false) 0 (ops.toList.zip outs) st0))->wpAny P .any ops Q fuel (listed.setIfInBounds i true) a' w':=by
    intro σ' M' w' a' hS'
    refine ih _ σ' M' w' a' (by simp[hsz]) ?_ ?_ (λj hj=>by rw[X9i (by omega),hpa j hj];rfl) (λj hj=>by rw[X9i (by omega),hsp j hj,show(j==i)=false by simp;omega];rfl) (hS'.ext hmore)
    . have:unl ops.size (listed.setIfInBounds i true)<unl ops.size listed:=by
       unfold unl
       refine Xl5 (λk hk=>?_) ⟨i,by simpa using hlt,by rw[hli];rfl,by rw[X9i (by omega)];simp⟩
       rw[X9i (by omega)]at hk
       cases h4:listed.getD k false with
       | false=>rfl
       | true=>rw[h4]at hk;simp at hk
      omega
    . intro j hj k hk
      rw[X9i (by omega)]at hj ⊢
      have:listed.getD k false=true:=by
       by_cases hji:j=i
       . subst hji;exact hanc k hk
       . have:(j==i)=false:=by simp[hji]
         rw[this,Ydf]at hj
         exact hcl j hj k hk
      rw[this];rfl
   unfold wpOp
   rw[ho]
   simp only
   have hg:=hgood i o x (λhp=>by rw[hpa i hp]at hli;cases hli) his hx
   have hd':∀d,o.dst=some d->d<(X8t (λj=>listed.getD j false) 0 (ops.toList.zip outs) st0).nt:=by
    intro d hd
    rw[Xnq]
    exact Xdz hdst o (by rw[<-YbH]at ho;exact YbA ho) d hd
   cases x with
   | none=>
     have hw:=Xey (ops:=ops) hS (hwant.trans hg)
     rw[hw]
     simp only[Yb8,Yds]
     exact next σ M w _ (hS.skip hd')
   | some e=>
     obtain⟨hg1,ps,hg2,hps⟩:=hg
     have hw:=Xey (ops:=ops) hS (hwant.trans hg1)
     rw[hw]
     simp only[Ycc]
     left
     refine XnT hT hΓ hS hd' (by rw[hins];exact hg2) hps ?_ λv σ' M' w' hS'=>next σ' M' w' _ hS'
     refine Sub.fresh (Sub.mix (L':=λk=>!(k==i||((Xeq ops.toList []).getD k 0).testBit i)) (λk hk=>?_) ⟨λ_ h=>h,λ_ h=>h,λ_ h=>h⟩) (hfresh e rfl)
     have hki:(k==i)=false:=by
      cases hki:k==i with
      | false=>rfl
      | true=>
        have:k=i:=by simpa using hki
        subst this
        simp only[hli]at hk
        cases hk
     have hkb:=hdown k hk
     simp only[hki,hkb]
     rfl
theorem Xiu(hT:X1x P tab)(hΓ:Xfz P Γ){ops:Array Oper}{outs:List (Option Eff)}{st0:St}(past:Nat->Prop)(hdst:Xhu st0.nt ops.toList=true)(hlen:outs.length=ops.toList.length)(hok:XjY ops.toList outs st0=true)(hgood:∀j o x,¬past j->(ops.toList.zip outs)[j]?=some (o,x)->Xez tab Γ ops.toList (X1y ((ops.toList.zip outs).take j) st0) o x)(hq:∀σ M w a,Sim P base M0 ios σ M w a (X1y (ops.toList.zip outs) st0)->Q .normal a w):
 ∀(fuel:Nat) (listed:Array Bool) (σ:Sg) (M:Mem) (w:World) (a:Act),listed.size=ops.size->unl ops.size listed<=fuel->
  (∀j,listed.getD j false=true->∀i,((Xeq ops.toList []).getD j 0).testBit i=true->listed.getD i false=true)->(∀j,past j->listed.getD j false=true)->
  Sim P base M0 ios σ M w a (X8t (λj=>listed.getD j false) 0 (ops.toList.zip outs) st0)->wpAny P .any ops Q fuel listed a w:=
 fun fuel listed σ M w a hsz hu hcl hpa hS=>XmD hT hΓ past ops.size hdst hlen hok (λj h1 h2=>by omega) (λj o x h1 _=>hgood j o x h1) (λ_=>hq)
  (fun _ _ _ _ _ _ o _ _ _ _ ho=>by simp at ho) fuel listed σ M w a hsz hu hcl hpa (λj hj=>by
    rw[Ybd,YcO (by omega)];rfl) hS
def XwA(Γ:Gam)(o:Oper):Bool:=match o.op with
 | .call c=>match c.callee with
   | .value (.func n)=>match Γ.con n with
     | some con=>con.f.isNone
     | none=>false
   | _=>false
 | _=>false
def Xxd(Γ:Gam):List Oper->Nat->Option Nat
 | [],_=>none
 | o::l,k=>match XwA Γ o with
   | true=>some k
   | false=>Xxd Γ l (k+1)
def XtU(ms:List Nat)(m:Nat):Nat->Bool
 | 0=>true
 | i+1=>(Nat.ble i m||(ms.getD i 0).testBit m)&&XtU ms m i
def Xx6(all:List Oper)(m:Nat)(outs:List (Option Eff))(s0:St):Bool:=XjY all (outs++List.replicate (all.length - m) none) s0&&XtU (Xeq all []) m all.length
def vcG(all:List Oper)(o:Oper)(st:St)(K1 K0:St->Prop):Prop:=match o.guard with
 | none=>K1 st
 | some (j,XdR)=>match X5U all j with
   | some dj=>match st.get dj with
     | .val false [.bool b]=>X00 b (cond XdR (K1 (st.lit dj true)) (K0 (st.lit dj true))) (cond XdR (K0 (st.lit dj false)) (K1 (st.lit dj false)))
     | .tup []=>K0 st
     | _=>False
   | none=>False
def Xwo(tab:Tab)(Γ:Gam)(all:List Oper)(m:Nat)(st:St)(K:List (Option Eff)->St->Prop):Prop:=
 match all[m]? with
 | some o=>match XwA Γ o with
   | true=>Xfp tab Γ all (all.take m) st λoutsA st1=>match Xx6 all m outsA st with
     | true=>vcG all o st1
        (λst2=>Xnd tab Γ o st2 λe=>Xfp tab Γ all (all.drop (m+1)) (e.apply o.dst st2) λouts st'=>K (outsA++some e::outs) st')
        (λst2=>Xfp tab Γ all (all.drop (m+1)) (X7p o st2) λouts st'=>K (outsA++none::outs) st')
     | false=>False
   | false=>False
 | none=>False
def Xxk(tab:Tab)(Γ:Gam)(all:List Oper)(st:St)(K:St->Prop):Prop:=match Xxd Γ all 0 with
 | none=>Xfp tab Γ all all st λouts st'=>match XjY all outs st with
   | true=>K st'
   | false=>False
 | some m=>Xwo tab Γ all m st λouts st'=>match XjY all outs st with
   | true=>K st'
   | false=>False
theorem Xkp{ms:List Nat}{m:Nat}:∀{n:Nat},XtU ms m n=true->∀j,m<j->j<n->(ms.getD j 0).testBit m=true
 | 0,_,j,_,h=>by omega
 | n+1,h,j,h1,h2=>by
   simp only[XtU,Yac,Ya7]at h
   by_cases he:j=n
   . subst he
     rcases h.1 with h3 | h3
     . have:=Nat.le_of_ble_eq_true h3;omega
     . exact h3
   . exact Xkp h.2 j h1 (by omega)
theorem Xt2{all:List Oper}{o:Oper}{K1 K0:St->Prop}(h:vcG all o st K1 K0):
 (XdR all o st=some true/\∃st2,Ext st2 st/\K1 st2)\/(XdR all o st=some false/\∃st2,Ext st2 st/\K0 st2):=by
 unfold vcG at h
 unfold XdR
 cases hg:o.guard with
 | none=>rw[hg]at h;exact .inl ⟨rfl,st,Ext.refl _,h⟩
 | some g=>
   obtain⟨j,wn⟩:=g
   rw[hg]at h
   simp only at h ⊢
   cases hj:X5U all j with
   | none=>rw[hj]at h;exact h.elim
   | some dj=>
     rw[hj]at h
     simp only at h ⊢
     split at h
     . rename_i b hb
       replace h:=Xg0 h
       cases hbb:b with
       | true=>
         have h1:=h.1 hbb
         cases wn with
         | true=>exact .inl ⟨by simp only[hb,hbb];rfl,_,Xes hb hbb,h1⟩
         | false=>exact .inr ⟨by simp only[hb,hbb];rfl,_,Xes hb hbb,h1⟩
       | false=>
         have h1:=h.2 hbb
         cases wn with
         | false=>exact .inl ⟨by simp only[hb,hbb];rfl,_,Xes hb hbb,h1⟩
         | true=>exact .inr ⟨by simp only[hb,hbb];rfl,_,Xes hb hbb,h1⟩
     . rename_i hb
       exact .inr ⟨by simp only[hb],_,Ext.refl _,h⟩
     . exact h.elim
theorem XpD{o:Oper}{s s':St}{K:Eff->Prop}(h0:o.op.operands.toList.map (X3p s')=o.op.operands.toList.map (X3p s))(hF:∀fz,o.op.operands.toList.map (X3p (X5X fz s'))=o.op.operands.toList.map (X3p (X5X fz s)))(hd:∀d,o.dst=some d->d<s'.nt)(h:Xnd tab Γ o s K)(hf:∀e,K e->X3o e o.dst s'=true):Xnd tab Γ o s' K:=by
 unfold Xnd at h ⊢
 split at h
 rotate_left
 . exact h.elim
 split
 rotate_left
 . rename_i hdd
   exfalso
   cases hdst:o.dst with
   | none=>rw[hdst]at hdd;cases hdd
   | some d=>rw[hdst]at hdd;have:=hd d hdst;simp only[Yay]at hdd;exact hdd this
 . simp only[h0,Xiw (hF _)]
   simp only at h
   generalize X6z ((o.op.operands.toList.map (X3p s)).flatMap (·.rows)) (X8d tab Γ o (o.op.operands.toList.map (X3p s)))=fz at h ⊢
   generalize XhA fz o s (o.op.operands.toList.map (X3p s))=ins at h ⊢
   split at h
   . rename_i hnd
     split at h
     . rename_i con ts xs hc
       unfold XfV at h ⊢
       split at h
       . rename_i d x h1 h2 h3
         obtain⟨hpre,hpost⟩:=h
         refine⟨hpre,λy hy=>?_⟩
         have h4:=hpost y hy
         split at h4
         . rename_i br hbr
           split at h4
           . rename_i hfr
             have:=XdI (hf _ h4)
             rw[h1]at this
             rw[this]
             exact h4
           . exact h4.elim
         . exact h4.elim
       . exact h.elim
     . split at h
       . exact h
       . split at h
         . rename_i ps e he
           split at h
           . obtain⟨h1,h2⟩:=Xgv h
             rw[XdI (hf _ h2)]
             exact h
           . exact h.elim
         . exact h.elim
   . exact h.elim
theorem Xgq:∀(l l':List (Oper×Option Eff)) (s:St),X1y (l++l') s=X1y l' (X1y l s)
 | [],_,_=>rfl
 | (o,x)::l,l',s=>by rw[Ybb,X5T,X5T,Xgq l l']
theorem Xjs{L:Nat->Bool}:∀{l:List (Oper×Option Eff)} {k m:Nat} {s:St},(∀i,k+m<=i->L i=false)->X8t L k l s=X8t L k (l.take m) s
 | [],_,_,_,_=>by simp[X8t]
 | (o,x)::l,k,0,s,h=>by rw[Xe2 (λi hi=>h i (by omega))];rfl
 | (o,x)::l,k,m+1,s,h=>by
   rw[YbW]
   simp only[X8t]
   exact Xjs λi hi=>h i (by omega)
theorem Xpt{s s':St}(h:Ext s s')(o:Oper):o.op.operands.toList.map (X3p s')=o.op.operands.toList.map (X3p s)/\∀fz,o.op.operands.toList.map (X3p (X5X fz s'))=o.op.operands.toList.map (X3p (X5X fz s)):=
 ⟨YbD λx _=>(XhL h x).symm,λfz=>YbD λx _=>(XhL (XsD h) x).symm⟩
theorem XnK{o:Oper}(h:XwA Γ o=true):XkN o=false:=by
 unfold XwA at h
 unfold XkN
 split at h
 . rename_i c hc;rw[hc]
 . cases h
theorem Xpy{o:Oper}(h:XwA Γ o=true):Xg2 o=false:=by
 unfold XwA at h
 unfold Xg2
 split at h
 . rename_i c hc;rw[hc]
 . cases h
theorem Xry(hT:X1x P tab)(hΓ:Xfz P Γ){ops:Array Oper}{m:Nat}{st0:St}{KK:St->Prop}(hdst:Xhu st0.nt ops.toList=true)(h:Xwo tab Γ ops.toList m st0 λouts st'=>match XjY ops.toList outs st0 with | true=>KK st' | false=>False)(hq:∀σ M w a st',KK st'->Sim P base M0 ios σ M w a st'->Q .normal a w):
 ∀(fuel:Nat) (listed:Array Bool) (σ:Sg) (M:Mem) (w:World) (a:Act),listed.size=ops.size->unl ops.size listed<=fuel->
  (∀j,listed.getD j false=false)->Sim P base M0 ios σ M w a st0->wpAny P .any ops Q fuel listed a w:=by
 intro fuel listed σ M w a hsz hu hno hS
 unfold Xwo at h
 split at h
 . rename_i o ho
   split at h
   . rename_i hrel
     obtain⟨outsA,st1,hlenA,hK,hext,hgood⟩:=Xbd _ _ _ h
     split at hK
     . rename_i hro
       unfold Xx6 at hro
       rw[Yac]at hro
       obtain⟨hok,hlate⟩:=hro
       have hm:m<ops.toList.length:=(YaZ.1 ho).1
       have hlA:outsA.length=m:=by rw[hlenA,Yal];omega
       have hoa:ops[m]?=some o:=by rw[<-YbH];exact ho
       have hsplit:ops.toList=ops.toList.take m++o::ops.toList.drop (m+1):=by
        have e:=(YaZ.1 ho).2
        rw[<-e,List.getElem_cons_drop];exact(YaJ ..).symm
       have zlF:∀r,ops.toList.zip (outsA++r)=(ops.toList.take m).zip outsA++(o::ops.toList.drop (m+1)).zip r:=λr=>by
        conv=>lhs;rw[hsplit]
        rw[List.zip_append (by rw[Yal];omega)]
       have zlen:((ops.toList.take m).zip outsA).length=m:=by rw[YcA,Yal];omega
       have zt:∀r,(ops.toList.zip (outsA++r)).take m=(ops.toList.take m).zip outsA:=λr=>by
        rw[zlF,Ya2 (by omega),YaX (by omega)]
       have ztj:∀r j,j<m->(ops.toList.zip (outsA++r)).take j=((ops.toList.take m).zip outsA).take j:=λr j hj=>by
        rw[zlF,Ya2 (by omega)]
       have zj:∀r j,j<m->(ops.toList.zip (outsA++r))[j]?=((ops.toList.take m).zip outsA)[j]?:=λr j hj=>by
        rw[zlF,YbL (by omega)]
       have hlenF:(outsA++List.replicate (ops.toList.length - m) (none:Option Eff)).length=ops.toList.length:=by
        rw[Yab,YbM];omega
       refine XmD (outs:=outsA++List.replicate (ops.toList.length - m) none) hT hΓ (λ_=>False) m hdst hlenF hok (λj h1 h2=>Xkp hlate j h1 (by simpa using h2))
        (λj o' x _ h1 hz=>by rw[ztj _ j h1];exact hgood j o' x (by rw[<-zj _ j h1];exact hz)) (λhle=>by simp at hm;omega) ?_
        fuel listed σ M w a hsz hu (λj hj=>by rw[hno j]at hj;cases hj) (λj hj=>hj.elim) (λj _=>hno j) (by rw[Xe2 (λi _=>hno i)];exact hS)
       clear hu hno hsz hS
       intro fuel listed σ M w a o' hsz hu hcl hsp ho' hed hS
       rw[hoa]at ho'
       cases ho'
       have hli:=hsp m (YaB _)
       have hzA:(ops.toList.zip (outsA++List.replicate (ops.toList.length - m) (none:Option Eff)))[m]?=some (o,none):=by
        rw[zlF,Yba (by omega),zlen,YbY,show ops.toList.length - m=(ops.toList.length - m - 1)+1 by omega,Ybv,Ybm];rfl
       obtain⟨_,_,hag,_,_⟩:=Xdk hlenF hok hsz hcl hli hed hzA
       have hdd:∀s:St,s.nt=st0.nt->∀d,o.dst=some d->d<s.nt:=λs hs d hd=>by
        rw[hs];exact Xdz hdst o (YbA ho) d hd
       rw[zt]at hag
       have hmix:∀r,X8t (λj=>listed.getD j false) 0 (ops.toList.zip (outsA++List.replicate (ops.toList.length - m) none)) st0=X8t (λj=>listed.getD j false) 0 (ops.toList.zip (outsA++r)) st0:=λr=>by
        rw[Xjs (m:=m) (λi hi=>hsp i (by omega)),zt,Xjs (m:=m) (l:=ops.toList.zip (outsA++r)) (λi hi=>hsp i (by omega)),zt]
       have hagG:XdV (XiR ops.toList o) (Xw6 (X1y ((ops.toList.take m).zip outsA) st0) o) (XsR (X1y ((ops.toList.take m).zip outsA) st0) o) (X1y ((ops.toList.take m).zip outsA) st0) (X8t (λj=>listed.getD j false) 0 (ops.toList.zip (outsA++List.replicate (ops.toList.length - m) none)) st0):=by
        unfold XkP Xiq XgC at hag
        rw[XnK hrel,Xpy hrel]at hag
        simp only[Ybs,Bool.false_or]at hag
        exact hag
       generalize hs':X8t (λj=>listed.getD j false) 0 (ops.toList.zip (outsA++List.replicate (ops.toList.length - m) none)) st0=s' at hS hagG hmix
       have hnt:s'.nt=st0.nt:=by rw[<-hs'];exact Xnq
       have hins:o.op.operands.toList.map (X3p s')=o.op.operands.toList.map (X3p st1)/\∀fz,o.op.operands.toList.map (X3p (X5X fz s'))=o.op.operands.toList.map (X3p (X5X fz st1)):=by
        have h1:=λfz=>XjF (fz:=fz) o.op.operands.toList (s:=X1y ((ops.toList.take m).zip outsA) st0) (s':=s') ⟨λk hk=>hagG.get k (by simp[XiR,hk]),hagG.box,hagG.row⟩
        have h2:=Xpt hext o
        exact⟨(h1 []).1.trans h2.1,λfz=>(h1 fz).2.trans (h2.2 fz)⟩
       have hwant:XdR ops.toList o s'=XdR ops.toList o st1:=by
        unfold XdR
        cases hg:o.guard with
        | none=>rfl
        | some g=>
          obtain⟨j,wn⟩:=g
          simp only
          cases hj:X5U ops.toList j with
          | none=>rfl
          | some d=>
            simp only
            rw[<-hagG.get d (by simp[XiR,XqN,hg,hj]),hext.get]
       have after:∀(x:Option Eff) (st2:St) (outsB:List (Option Eff)) (st':St),Ext st2 (X1y ((ops.toList.take m).zip outsA) st0)->outsB.length=(ops.toList.drop (m+1)).length->XjY ops.toList (outsA++x::outsB) st0=true->KK st'->
        Ext st' (X1y ((ops.toList.drop (m+1)).zip outsB) (X1p o x st2))->
        (∀j o' x',((ops.toList.drop (m+1)).zip outsB)[j]?=some (o',x')->Xez tab Γ ops.toList (X1y (((ops.toList.drop (m+1)).zip outsB).take j) (X1p o x st2)) o' x')->
        ∀σ' M' w' a',Sim P base M0 ios σ' M' w' a' (X1p o x s')->wpAny P .any ops Q fuel (listed.setIfInBounds m true) a' w':=by
        intro x st2 outsB st' he hlB hokF hKK hex hgB σ' M' w' a' hS'
        have hlF:(outsA++x::outsB).length=ops.toList.length:=by
         rw[Yab,Yad,hlB,Yar];omega
        have hx2:Ext (X1p o x st2) (X1p o x (X1y ((ops.toList.take m).zip outsA) st0)):=XeT he
        have hzF:(ops.toList.zip (outsA++x::outsB))[m]?=some (o,x):=by
         rw[zlF,Yba (by omega),zlen,YbY,Ybm];rfl
        have hrun:X1y (ops.toList.zip (outsA++x::outsB)) st0=X1y ((ops.toList.drop (m+1)).zip outsB) (X1p o x (X1y ((ops.toList.take m).zip outsA) st0)):=by
         rw[zlF,Xgq,Ybm,X5T]
        have hmore:Ext (X1p o x s') (X8t (λj=>(listed.setIfInBounds m true).getD j false) 0 (ops.toList.zip (outsA++x::outsB)) st0):=by
         rw[hmix (x::outsB)]
         refine Xlv (j:=m) hzF (by rw[YaS];exact hli) (λk=>by rw[X9i (by simp at hm;omega),YaS]) (λk o' x' hk hlt2 hl=>?_)
         rw[YaS]at hl
         rw[hsp k (by omega)]at hl;cases hl
        refine Xiu (outs:=outsA++x::outsB) hT hΓ (λj=>j=m) hdst hlF hokF (λj o' x' hne hz=>?_) (λσ M w a hS2=>hq σ M w a st' hKK (hS2.ext ?_)) fuel _ σ' M' w' a' (by simp[hsz]) ?_ ?_ ?_ (hS'.ext hmore)
        . rcases YcN j m with hj | hj | hj
          . rw[ztj _ j hj];exact hgood j o' x' (by rw[<-zj _ j hj];exact hz)
          . exact absurd hj hne
          . obtain⟨i,rfl⟩:∃i,j=m+1+i:=⟨j - m - 1,by omega⟩
            have e1:(ops.toList.zip (outsA++x::outsB)).take (m+1+i)=(ops.toList.take m).zip outsA++(o,x)::((ops.toList.drop (m+1)).zip outsB).take i:=by
             rw[zlF,Ybm,YcZ,zlen,YaX (by omega),show m+1+i - m=i+1 by omega,YbW]
            rw[e1,Xgq,X5T]
            have hz2:((ops.toList.drop (m+1)).zip outsB)[i]?=some (o',x'):=by
             rw[zlF,Yba (by omega),zlen,Ybm,show m+1+i - m=i+1 by omega,Yb6]at hz
             exact hz
            exact(hgB i o' x' hz2).ext (Xbf hx2)
        . rw[hrun]
          exact(hex.trans (Xbf hx2)).symm
        . have:unl ops.size (listed.setIfInBounds m true)<unl ops.size listed:=by
           unfold unl
           refine Xl5 (λk hk=>?_) ⟨m,by simp at hm;simpa using hm,by rw[hli];rfl,by rw[X9i (by simp at hm;omega)];simp⟩
           rw[X9i (by simp at hm;omega)]at hk
           cases h4:listed.getD k false with
           | false=>rfl
           | true=>rw[h4]at hk;simp at hk
          omega
        . intro j hj k hk
          rw[X9i (by simp at hm;omega)]at hj ⊢
          have:listed.getD k false=true:=by
           by_cases hji:j=m
           . subst hji
             exact(Xdk hlenF hok hsz hcl hli hed hzA).1 k hk
           . have:(j==m)=false:=by simp[hji]
             rw[this,Ydf]at hj
             exact hcl j hj k hk
          rw[this];rfl
        . intro j hj
          subst hj
          rw[X9i (by simp at hm;omega)];simp
       unfold wpOp
       rw[hoa]
       simp only
       rcases Xt2 hK with⟨hw,st2,he2,hK2⟩ | ⟨hw,st2,he2,hK2⟩
       . have hw':=Xey (ops:=ops) hS (hwant.trans hw)
         rw[hw']
         simp only[Ycc]
         left
         have hi2:=Xpt he2 o
         have more:∀e,(Xfp tab Γ ops.toList (ops.toList.drop (m+1)) (e.apply o.dst st2) λouts st'=>match XjY ops.toList (outsA++some e::outs) st0 with | true=>KK st' | false=>False)->
          ∃outsB st',outsB.length=(ops.toList.drop (m+1)).length/\XjY ops.toList (outsA++some e::outsB) st0=true/\KK st'/\Ext st' (X1y ((ops.toList.drop (m+1)).zip outsB) (X1p o (some e) st2))/\
          (∀j o' x',((ops.toList.drop (m+1)).zip outsB)[j]?=some (o',x')->Xez tab Γ ops.toList (X1y (((ops.toList.drop (m+1)).zip outsB).take j) (X1p o (some e) st2)) o' x'):=λe hr=>by
          obtain⟨outsB,st',h1,h2,h3,h4⟩:=Xbd _ _ _ hr
          split at h2
          . rename_i hokF
            exact⟨outsB,st',h1,hokF,h2,h3,h4⟩
          . exact h2.elim
         refine Xfe (tab:=tab) (Γ:=Γ) hT hΓ hS (XpD (s:=st2) ?_ ?_ (hdd s' hnt) hK2 ?_) (λe hr v σ' M' w' hS'=>?_)
         . rw[hins.1];exact hi2.1
         . intro fz;rw[hins.2 fz];exact hi2.2 fz
         . intro e hr
           obtain⟨outsB,st',h1,hokF,h2,h3,h4⟩:=more e hr
           have hlF:(outsA++some e::outsB).length=ops.toList.length:=by
            rw[Yab,Yad,h1,Yar];omega
           have hzF:(ops.toList.zip (outsA++some e::outsB))[m]?=some (o,some e):=by
            rw[zlF,Yba (by omega),zlen,YbY,Ybm];rfl
           obtain⟨_,_,_,hdown,hfresh⟩:=Xdk hlF hokF hsz hcl hli hed hzF
           refine Sub.fresh ?_ (hfresh e rfl)
           rw[hmix (some e::outsB)]
           refine Sub.mix (λk hk=>?_) ⟨λ_ h=>h,λ_ h=>h,λ_ h=>h⟩
           have hki:(k==m)=false:=by
            cases hki:k==m with
            | false=>rfl
            | true=>
              have:k=m:=by simpa using hki
              subst this
              simp only[hli]at hk
              cases hk
           have hkb:=hdown k hk
           simp only[hki,hkb]
           rfl
         . obtain⟨outsB,st',h1,hokF,h2,h3,h4⟩:=more e hr
           exact after (some e) st2 outsB st' (he2.trans hext) h1 hokF h2 h3 h4 σ' M' w' _ hS'
       . have hw':=Xey (ops:=ops) hS (hwant.trans hw)
         rw[hw']
         simp only[Yb8,Yds]
         obtain⟨outsB,st',h1,h2,h3,h4⟩:=Xbd _ _ _ hK2
         split at h2
         . rename_i hokF
           exact after none st2 outsB st' (he2.trans hext) h1 hokF h2 h3 h4 σ M w _ (hS.skip (hdd s' hnt))
         . exact h2.elim
     . exact hK.elim
   . exact h.elim
 . exact h.elim
structure Xcp where
 bx:Bool:=false
 s:Nat
 i:Nat
 k:Nat
 e:TypeId
 hot:Bool
structure XhD where
 hold:List Nat:=[]
 slots:List Nat
 boxes:List Nat:=[]
 rows:List Xcp:=[]
def XvB(st:St)(s i:Nat):Option X02:=match Xcw st.rows (st.get s) with
 | .val _ cs=>cs[i]?
 | _=>none
def XvN(st:St)(b i:Nat):Option X02:=match st.box b with
 | some cs=>(Xbt st.rows cs)[i]?
 | none=>none
def XdO(st:St)(kr:Xcp):Option X02:=match kr.bx with
 | true=>XvN st kr.s kr.i
 | false=>XvB st kr.s kr.i
inductive Old where
 | bad
 | nil (t:Ty)
 | hot (r:Nat) (t:Ty) (l:List (El t))
 | cold (r:Nat)
 | cnil
def Xun(st:St)(e:TypeId)(t:Ty)(r:Nat):Old:=match look r st.rows with
 | some (.hot e' t' l _ none _)=>if e'=e then if h:t'=t then .hot r t (X8D h l) else .bad else .bad
 | _=>.bad
def XbD(st:St)(kr:Xcp):Old:=match kr.hot,XdO st kr with
 | true,some (.own t r)=>Xun st kr.e t r
 | true,some (.lst t [] (some 0))=>.nil t
 | true,some (.emp t)=>.nil t
 | false,some (.lst _ _ (some 0))=>.cnil
 | false,some (.lst _ _ (some (r+1)))=>match X8A (r+1) st.rows with
   | some e=>if e=kr.e then .cold (r+1) else .bad
   | none=>.bad
 | _,_=>.bad
def rho(st:St):List Xcp->List (Nat×Nat)
 | []=>[]
 | kr::l=>match XbD st kr with
   | .hot r _ _=>(r,kr.k)::rho st l
   | _=>rho st l
def Xaf(st:St):List Xcp->List Nat
 | []=>[]
 | kr::l=>match XbD st kr with
   | .cold r=>r::Xaf st l
   | _=>Xaf st l
def Xol(st:St)(kr:Xcp):Option X0I:=match XbD st kr with
 | .hot _ t l=>some (.hot kr.e t l 0 none false)
 | .nil t=>some (.hot kr.e t [] 0 none false)
 | .cold _=>some (.cold kr.e)
 | .cnil=>some (.cold kr.e)
 | .bad=>none
def Xk8(st:St):List Xcp->List (Nat×X0I)
 | []=>[]
 | kr::l=>match Xol st kr with
   | some rv=>(kr.k,rv)::Xk8 st l
   | none=>Xk8 st l
def XqQ:List Xcp->Bool->Nat->Nat->Option Xcp
 | [],_,_,_=>none
 | kr::l,b,s,i=>if kr.bx=b/\kr.s=s/\kr.i=i then some kr else XqQ l b s i
def XgW:List Xcp->Nat->Option Xcp
 | [],_=>none
 | kr::l,k=>if kr.k=k then some kr else XgW l k
def reC1(ρ:List (Nat×Nat)):X02->X02
 | .lst t l _=>.lst t l none
 | .own t r=>match look r ρ with
   | some k=>.own t k
   | none=>.und
 | .sub t r lo hi=>match look r ρ with
   | some k=>.sub t k lo hi
   | none=>.und
 | .bor ..=>.und
 | c=>c
def Xxo(kr:Xcp):X02->X02
 | .own t _=>cond kr.hot (.own t kr.k) .und
 | .emp t=>cond kr.hot (.own t kr.k) .und
 | .lst t l _=>cond kr.hot (.own t kr.k) (.lst t l (some kr.k))
 | _=>.und
def Xwu(kp:XhD)(ρ:List (Nat×Nat))(bx:Bool)(s:Nat):Nat->List X02->List X02
 | _,[]=>[]
 | i,c::cs=>(match XqQ kp.rows bx s i with
    | some kr=>Xxo kr c
    | none=>reC1 ρ c)::Xwu kp ρ bx s (i+1) cs
def unC:List X02->List X02
 | []=>[]
 | .lst t l _::cs=>.lst t l none::unC cs
 | .int k n::cs=>.int k n::unC cs
 | .bool b::cs=>.bool b::unC cs
 | .str s::cs=>.str s::unC cs
 | .emp t::cs=>.emp t::unC cs
 | _::cs=>.und::unC cs
def Xev(kp:XhD)(st:St):List Cap->Option (List Cap)
 | []=>some []
 | .box k off::l=>match kp.boxes.contains k&&(st.box k).isSome,Xev kp st l with
   | true,some r=>some (.box k off::r)
   | _,_=>none
 | .ptr cs::l=>match Xev kp st l with
   | some r=>some (.ptr (unC cs)::r)
   | none=>none
 | .pp k off::l=>match kp.boxes.contains k&&(st.box k).isSome,Xev kp st l with
   | true,some r=>some (.pp k off::r)
   | _,_=>none
 | .pptr cs::l=>match Xev kp st l with
   | some r=>some (.pptr (unC cs)::r)
   | none=>none
def reS(kp:XhD)(ρ:List (Nat×Nat))(st:St)(s:Nat):Sv->Sv
 | .val ag cs=>.val ag (Xwu kp ρ false s 0 cs)
 | .box k off=>match kp.boxes.contains k&&(st.box k).isSome with
   | true=>.box k off
   | false=>.und
 | .ptr cs=>.ptr (unC cs)
 | .pp k off=>match kp.boxes.contains k&&(st.box k).isSome with
   | true=>.pp k off
   | false=>.und
 | .pptr cs=>.pptr (unC cs)
 | .fn f a b=>match Xev kp st a,Xev kp st b with
   | some a',some b'=>.fn f a' b'
   | _,_=>.und
 | .hp t r i off=>match look r ρ with
   | some k=>.hp t k i off
   | none=>.und
 | .nil=>.nil
 | _=>.und
def XiX(kp:XhD)(ρ:List (Nat×Nat))(st:St):List Nat->List (Nat×Sv)
 | []=>[]
 | s::l=>(s,reS kp ρ st s (Xcw st.rows (st.get s)))::XiX kp ρ st l
def Xgp(kp:XhD)(ρ:List (Nat×Nat))(st:St):List Nat->List (Nat×List X02)
 | []=>[]
 | b::l=>match st.box b with
   | some cs=>(b,Xwu kp ρ true b 0 (Xbt st.rows cs))::Xgp kp ρ st l
   | none=>Xgp kp ρ st l
def rename(kp:XhD)(st:St):St:={nt:=st.nt,slots:=XiX kp (rho st kp.rows) st (kp.hold++kp.slots),boxes:=Xgp kp (rho st kp.rows) st kp.boxes,rows:=Xk8 st kp.rows}
def Xq0(tab:Tab)(st:St)(kr:Xcp):Bool:=!(kr.k==0)&&match XbD st kr with
 | .bad=>false
 | .nil t=>(kr.k % 2==1)&&(match look kr.e tab with | some te=>decide (te.ty=t)&&decide (0<size t) | none=>false)
 | .hot r _ _=>kr.k % 2==1||r==kr.k
 | .cold r=>(kr.k % 2==1||r==kr.k)&&(look kr.e tab).isSome
 | .cnil=>(kr.k % 2==1)&&(look kr.e tab).isSome
def XhQ(tab:Tab)(kp:XhD)(st:St):Bool:=kp.rows.all (Xq0 tab st)&&X5I (kp.rows.map (·.k))&&X5I ((rho st kp.rows).map (·.1))&&X5I (Xaf st kp.rows)
def XrN(kp:XhD)(bx:Bool)(s:Nat)(ks:List Nat):Nat->List X02->List Nat
 | _,[]=>[]
 | i,c::cs=>(match XqQ kp.rows bx s i with
    | some kr=>(match kr.hot,c with
      | false,.own _ r=>[r]
      | _,_=>[])
    | none=>(match c with
      | .own _ r=>cond (X4O r ks) [r] []
      | .sub _ r _ _=>cond (X4O r ks) [r] []
      | .bor _ _ r _ _=>cond (X4O r ks) [r] []
      | _=>[]))++XrN kp bx s ks (i+1) cs
def Xuu(kp:XhD)(st:St)(ks:List Nat):List Nat->List Nat
 | []=>[]
 | s::l=>(match st.get s with
    | .val _ cs=>XrN kp false s ks 0 cs
    | .bptr _ r _=>cond (X4O r ks) [r] []
    | _=>[])++Xuu kp st ks l
def XuO(kp:XhD)(st:St)(ks:List Nat):List Nat->List Nat
 | []=>[]
 | b::l=>(match st.box b with
    | some cs=>XrN kp true b ks 0 cs
    | none=>[])++XuO kp st ks l
def XtT(kp:XhD)(st:St):List (Nat×X0I):=
 let ks:=(rho st kp.rows).map (·.1)
 X6z st.rows (X5O st.rows (Xuu kp st ks (kp.hold++kp.slots)++XuO kp st ks kp.boxes))
def ready(kp:XhD)(st:St):St:=match XtT kp st with
 | []=>st
 | fz=>X5X fz st
def weaken(kp:XhD)(st:St):St:=rename kp (ready kp st)
def XqU(tab:Tab)(kp:XhD)(st:St):Bool:=X5I ((XtT kp st).map (·.1))&&XhQ tab kp (ready kp st)
def Xb7(σ:Sg)(w:World)(a:Act)(kr:Xcp):Value:=match kr.bx with
 | false=>(a.tmps.getD kr.s undef).cells.toList.getD kr.i undef
 | true=>match w.heap[σ.box kr.s]? with
   | some (.cells arr _ _)=>arr.toList.getD kr.i undef
   | _=>undef
theorem XgF{l:List Value}{i:Nat}{v:Value}(h:l[i]?=some v):l.getD i undef=v:=by rw[Yap,h];rfl
theorem Xen(hS:Sim P base M0 ios σ M w a st){kr:Xcp}{c:X02}(h:XdO st kr=some c):RdT σ st.rows M (Xb7 σ w a kr) c:=by
 unfold XdO at h
 unfold Xb7
 cases hb:kr.bx with
 | false=>
   rw[hb]at h
   simp only[XvB]at h ⊢
   have hs:=XiA hS (λ_ _ h=>h) (hS.slots kr.s)
   split at h
   . rename_i ag cs he
     rw[he]at hs
     obtain⟨v,hv,hr⟩:=hs.1.get h
     rw[XgF hv];exact hr
   . cases h
 | true=>
   rw[hb]at h
   simp only[XvN]at h ⊢
   split at h
   . rename_i cs hk
     obtain⟨arr,E,h1,h2⟩:=hS.boxes kr.s cs hk
     obtain⟨v,hv,hr⟩:=(XcX hS (λ_ _ h=>h) h2).get h
     rw[h1]
     simp only
     rw[XgF hv];exact hr
   . cases h
def OldOk(st:St)(kr:Xcp):Old->Prop
 | .bad=>True
 | .hot r t l=>kr.hot=true/\XdO st kr=some (.own t r)/\∃ver z,look r st.rows=some (.hot kr.e t l ver none z)
 | .nil t=>kr.hot=true/\(XdO st kr=some (.lst t [] (some 0))\/XdO st kr=some (.emp t))
 | .cold r=>kr.hot=false/\r≠0/\∃t l,XdO st kr=some (.lst t l (some r))/\st.row r=some kr.e
 | .cnil=>kr.hot=false/\∃t l,XdO st kr=some (.lst t l (some 0))
theorem X78(st:St)(kr:Xcp):OldOk st kr (XbD st kr):=by
 unfold XbD
 split
 . rename_i t r hh hp
   unfold Xun
   split
   . rename_i e t' l ver z hl
     split
     . rename_i he
       split
       . rename_i ht
         subst ht;subst he
         exact⟨hh,hp,ver,z,hl⟩
       . trivial
     . trivial
   . trivial
 . rename_i t hh hp;exact⟨hh,.inl hp⟩
 . rename_i t hh hp;exact⟨hh,.inr hp⟩
 . rename_i t l hh hp;exact⟨hh,t,l,hp⟩
 . rename_i t l r hh hp
   split
   . rename_i e he
     split
     . rename_i h;subst h;exact⟨hh,by omega,t,l,hp,he⟩
     . trivial
   . trivial
 . trivial
theorem XlO{r k:Nat}:∀{rows:List Xcp},look r (rho st rows)=some k->∃kr∈rows,kr.k=k/\∃t l,XbD st kr=.hot r t l
 | [],h=>by cases h
 | kr::l,h=>by
   simp only[rho]at h
   split at h
   . rename_i r' t' l' ho
     rw[X07]at h
     split at h
     . rename_i e;subst e;cases h;exact⟨kr,by simp,rfl,t',l',ho⟩
     . obtain⟨kr',h1,h2⟩:=XlO h;exact⟨kr',Yan _ h1,h2⟩
   . obtain⟨kr',h1,h2⟩:=XlO h;exact⟨kr',Yan _ h1,h2⟩
theorem XnU{kr:Xcp}{r:Nat}{t:Ty}{l:List (El t)}(ho:XbD st kr=.hot r t l):∀{rows:List Xcp},kr∈rows->r∈(rho st rows).map (·.1)
 | kr'::rows,h=>by
   simp only[rho]
   rcases Yak.1 h with e | h
   . subst e;rw[ho];simp
   . have:=XnU ho h
     split
     . exact Yan _ this
     . exact this
theorem Xlf{kr:Xcp}{r:Nat}(ho:XbD st kr=.cold r):∀{rows:List Xcp},kr∈rows->r∈Xaf st rows
 | kr'::rows,h=>by
   simp only[Xaf]
   rcases Yak.1 h with e | h
   . subst e;rw[ho];simp
   . have:=Xlf ho h
     split
     . exact Yan _ this
     . exact this
theorem XsN{r:Nat}{t t':Ty}{l:List (El t)}{l':List (El t')}{kr kr':Xcp}:∀{rows:List Xcp},((rho st rows).map (·.1)).Nodup->kr∈rows->kr'∈rows->XbD st kr=.hot r t l->XbD st kr'=.hot r t' l'->kr=kr'
 | k0::rows,hn,h,h',ho,ho'=>by
   rcases Yak.1 h with e | h1<;>rcases Yak.1 h' with e' | h1'
   . rw[e,e']
   . subst e
     simp only[rho,ho,Yaq,YaD]at hn
     exact absurd (XnU ho' h1') hn.1
   . subst e'
     simp only[rho,ho',Yaq,YaD]at hn
     exact absurd (XnU ho h1) hn.1
   . refine XsN (rows:=rows) ?_ h1 h1' ho ho'
     simp only[rho]at hn
     split at hn
     . exact(YaD.1 hn).2
     . exact hn
theorem XoN{r:Nat}{kr kr':Xcp}:∀{rows:List Xcp},(Xaf st rows).Nodup->kr∈rows->kr'∈rows->XbD st kr=.cold r->XbD st kr'=.cold r->kr=kr'
 | k0::rows,hn,h,h',ho,ho'=>by
   rcases Yak.1 h with e | h1<;>rcases Yak.1 h' with e' | h1'
   . rw[e,e']
   . subst e
     simp only[Xaf,ho,YaD]at hn
     exact absurd (Xlf ho' h1') hn.1
   . subst e'
     simp only[Xaf,ho',YaD]at hn
     exact absurd (Xlf ho h1) hn.1
   . refine XoN (rows:=rows) ?_ h1 h1' ho ho'
     simp only[Xaf]at hn
     split at hn
     . exact(YaD.1 hn).2
     . exact hn
theorem Xmu{b:Bool}{s i:Nat}{kr:Xcp}:∀{rows:List Xcp},XqQ rows b s i=some kr->kr∈rows/\kr.bx=b/\kr.s=s/\kr.i=i
 | [],h=>by cases h
 | k0::rows,h=>by
   simp only[XqQ]at h
   split at h
   . rename_i hc;cases h;exact⟨by simp,hc⟩
   . obtain⟨h1,h2⟩:=Xmu h;exact⟨Yan _ h1,h2⟩
theorem Xjq{kr:Xcp}:∀{rows:List Xcp},(rows.map (·.k)).Nodup->kr∈rows->XgW rows kr.k=some kr
 | k0::rows,hn,h=>by
   simp only[Yaq,YaD]at hn
   simp only[XgW]
   rcases Yak.1 h with e | h
   . subst e;simp
   . have:k0.k≠kr.k:=λe=>hn.1 (YaM.2 ⟨kr,h,e.symm⟩)
     rw[Yae this];exact Xjq hn.2 h
theorem XeV{k:Nat}{rv:X0I}:∀{rows:List Xcp},look k (Xk8 st rows)=some rv->∃kr∈rows,kr.k=k/\Xol st kr=some rv
 | [],h=>by cases h
 | kr::rows,h=>by
   simp only[Xk8]at h
   split at h
   . rename_i rv' hv
     rw[X07]at h
     split at h
     . rename_i e;cases h;exact⟨kr,by simp,e,hv⟩
     . obtain⟨kr',h1,h2⟩:=XeV h;exact⟨kr',Yan _ h1,h2⟩
   . obtain⟨kr',h1,h2⟩:=XeV h;exact⟨kr',Yan _ h1,h2⟩
theorem Xwk{rows rows':List (Nat×X0I)}{σ':Sg}{vs:List Value}{cs:List X02}(h:X1Y (RdT σ rows M) vs cs):X1Y (RdT σ' rows' M) vs (unC cs):=by
 induction h with
 | nil=>exact .nil
 | @cons v c vs cs hx hr ih=>
   cases c with
   | lst t l tag=>exact .cons ⟨hx.1,trivial⟩ ih
   | int k n=>exact .cons ⟨hx.1,trivial⟩ ih
   | bool b=>exact .cons ⟨hx.1,trivial⟩ ih
   | str s=>exact .cons ⟨hx.1,trivial⟩ ih
   | emp t=>exact .cons ⟨hx.1,hx.2⟩ ih
   | _=>exact .cons ⟨hx.1,trivial⟩ ih
theorem Xlp{rows rows':List (Nat×X0I)}{σ':Sg}{v:Value}{cs:List X02}(h:XcU σ rows M v cs):XcU σ' rows' M v (unC cs):=by
 obtain⟨ad,hv,hc⟩:=h
 obtain⟨vs,h1,h2⟩:=XcC (σ:=σ) (rows:=rows) (ad:=ad) (cs:=cs) (o:=0) (by simpa using hc)
 refine⟨ad,hv,λj c hj=>?_⟩
 obtain⟨u,hu,hr⟩:=(Xwk (σ':=σ') (rows':=rows') h1).get hj
 exact⟨u,by simpa using h2 j u hu,hr⟩
theorem Xem(kp:XhD)(ρ:List (Nat×Nat))(st:St)(i:Nat):∀l,look i (XiX kp ρ st l)=if i∈l then some (reS kp ρ st i (Xcw st.rows (st.get i))) else none
 | []=>rfl
 | s::l=>by
   simp only[XiX,X07,Xem kp ρ st i l,Yak]
   by_cases h:s=i
   . subst h;simp
   . simp[h,YaK h]
theorem X8o(kp:XhD)(ρ:List (Nat×Nat))(st:St)(k:Nat):∀l,look k (Xgp kp ρ st l)=if k∈l then(st.box k).map (λcs=>Xwu kp ρ true k 0 (Xbt st.rows cs)) else none
 | []=>rfl
 | b::l=>by
   simp only[Xgp]
   cases hb:st.box b with
   | none=>
     rw[X8o kp ρ st k l]
     by_cases h:k=b
     . subst h;simp[hb]
     . simp[h]
   | some cs=>
     rw[X07,X8o kp ρ st k l]
     by_cases h:b=k
     . subst h;simp[hb]
     . simp[h,YaK h]
noncomputable def XgJ(σ:Sg)(w:World)(a:Act)(st:St)(rows:List Xcp):Sg where
 box:=σ.box
 row:=λk=>match XgW rows k with | some kr=>Xb7 σ w a kr | none=>σ.row k
 foot:=λk=>match XgW rows k with | some kr=>(match XbD st kr with | .hot r _ _=>σ.foot r | _=>[]) | none=>[]
 mem:=λk=>match XgW rows k with | some kr=>(match XbD st kr with | .hot r _ _=>σ.mem r | _=>λ_=>none) | none=>λ_=>none
structure RenF (tab:Tab) (σ:Sg) (w:World) (a:Act) (st:St) (rows:List Xcp):Prop where
 keys:(rows.map (·.k)).Nodup
 hots:((rho st rows).map (·.1)).Nodup
 colds:(Xaf st rows).Nodup
 ok:∀kr∈rows,Xq0 tab st kr=true
 row:∀kr∈rows,(XgJ σ w a st rows).row kr.k=Xb7 σ w a kr
 hotv:∀kr∈rows,∀r t l,XbD st kr=.hot r t l->Xb7 σ w a kr=σ.row r/\(XgJ σ w a st rows).foot kr.k=σ.foot r/\(XgJ σ w a st rows).mem kr.k=σ.mem r
 nilv:∀kr∈rows,∀t,XbD st kr=.nil t->(∃ad,Xb7 σ w a kr=.slice ad 0 0)/\(XgJ σ w a st rows).foot kr.k=[]/\(XgJ σ w a st rows).mem kr.k=λ_=>none
 coldv:∀kr∈rows,∀r,XbD st kr=.cold r->r≠0/\st.row r=some kr.e/\Xb7 σ w a kr=σ.row r
 cnilv:∀kr∈rows,XbD st kr=.cnil->Xb7 σ w a kr=.slice none 0 0
theorem renF(hS:Sim P base M0 ios σ M w a st){kp:XhD}(h:XhQ tab kp st=true):RenF tab σ w a st kp.rows:=by
 unfold XhQ at h
 simp only[Yac,Ya6]at h
 obtain⟨⟨⟨h1,h2⟩,h3⟩,h4⟩:=h
 have hk:=X80 h2
 have fk:=λkr (hm:kr∈kp.rows)=>Xjq hk hm
 refine⟨hk,X80 h3,X80 h4,h1,λkr hm=>?_,λkr hm r t l ho=>⟨?_,?_,?_⟩,λkr hm t ho=>⟨?_,?_,?_⟩,λkr hm r ho=>?_,λkr hm ho=>?_⟩
 . simp only[XgJ,fk kr hm]
 . have hs:=X78 st kr
   rw[ho]at hs
   obtain⟨_,hp,ver,z,hl⟩:=hs
   exact(Xen hS hp).2 (by rw[hl];rfl)
 . simp only[XgJ,fk kr hm,ho]
 . simp only[XgJ,fk kr hm,ho]
 . have hs:=X78 st kr
   rw[ho]at hs
   rcases hs.2 with hp | hp
   . exact⟨none,by have:=(Xen hS hp).2;simpa [XbE] using this⟩
   . exact(Xen hS hp).2
 . simp only[XgJ,fk kr hm,ho]
 . simp only[XgJ,fk kr hm,ho]
 . have hs:=X78 st kr
   rw[ho]at hs
   obtain⟨_,h0,t,l,hp,hr⟩:=hs
   refine⟨h0,hr,?_⟩
   have:=(Xen hS hp).2
   simp only[XbE,Yae h0]at this
   obtain⟨rv,hl,_⟩:=X67 hr
   exact this (by rw[hl];rfl)
 . have hs:=X78 st kr
   rw[ho]at hs
   obtain⟨_,t,l,hp⟩:=hs
   have:=(Xen hS hp).2
   simpa [XbE] using this
theorem Xtj(hS:Sim P base M0 ios σ M w a st){rows:List Xcp}(F:RenF tab σ w a st rows){rows':List (Nat×X0I)}{v:Value}{c:X02}(h:RdT σ st.rows M v c):RdT (XgJ σ w a st rows) rows' M v (reC1 (rho st rows) c):=by
 have hk:∀{r k:Nat},look r (rho st rows)=some k->(XgJ σ w a st rows).row k=σ.row r/\(look r st.rows).isSome=true:=λ{r k} hl=>by
  obtain⟨kr,hm,e,t,l,ho⟩:=XlO hl
  subst e
  have hs:=X78 st kr
  rw[ho]at hs
  obtain⟨_,_,ver,z,hl⟩:=hs
  exact⟨by rw[F.row kr hm,(F.hotv kr hm r t l ho).1],by rw[hl];rfl⟩
 cases c with
 | lst t l tag=>exact⟨h.1,trivial⟩
 | int k n=>exact⟨h.1,trivial⟩
 | bool b=>exact⟨h.1,trivial⟩
 | str s=>exact⟨h.1,trivial⟩
 | emp t=>exact⟨h.1,h.2⟩
 | und=>exact⟨h.1,trivial⟩
 | bor t l r ver p=>exact⟨h.1,trivial⟩
 | own t r=>
   simp only[reC1]
   split
   . rename_i k hl
     obtain⟨e1,e2⟩:=hk hl
     exact⟨h.1,λ_=>by rw[e1];exact h.2 e2⟩
   . exact⟨h.1,trivial⟩
 | sub t r lo hi=>
   simp only[reC1]
   split
   . rename_i k hl
     obtain⟨e1,e2⟩:=hk hl
     exact⟨h.1,λ_=>by rw[e1];exact h.2 e2⟩
   . exact⟨h.1,trivial⟩
theorem Xt7{rows:List Xcp}(F:RenF tab σ w a st rows){kr:Xcp}(hm:kr∈rows){rows':List (Nat×X0I)}{v:Value}{c:X02}(hp:XdO st kr=some c)(hv:Xb7 σ w a kr=v)(h:RdT σ st.rows M v c):RdT (XgJ σ w a st rows) rows' M v (Xxo kr c):=by
 have hrow:v=(XgJ σ w a st rows).row kr.k:=by rw[F.row kr hm,hv]
 have hk0:kr.k≠0:=by
  have:=F.ok kr hm
  simp only[Xq0,Yac,YaP,YbF]at this
  exact this.1
 have hown:∀t,v.oneCell'=true->RdT (XgJ σ w a st rows) rows' M v (.own t kr.k):=λt h1=>⟨h1,λ_=>hrow⟩
 have h1:v.oneCell'=true:=h.1.oneCell
 cases c with
 | own t r=>
   simp only[Xxo]
   cases kr.hot
   . exact⟨h1,trivial⟩
   . exact hown t h1
 | emp t=>
   simp only[Xxo]
   cases kr.hot
   . exact⟨h1,trivial⟩
   . exact hown t h1
 | lst t l tag=>
   simp only[Xxo]
   cases kr.hot
   . refine⟨h.1,?_⟩
     simp only[cond_false,XbE,Yae hk0]
     exact λ_=>hrow
   . exact hown t h1
 | _=>exact⟨h1,trivial⟩
theorem XoZ(hS:Sim P base M0 ios σ M w a st){kp:XhD}(F:RenF tab σ w a st kp.rows){rows':List (Nat×X0I)}{b:Bool}{s:Nat}{vs:List Value}{cs:List X02}(h:X1Y (RdT σ st.rows M) vs cs):∀(i:Nat),
 (∀(j:Nat) (kr:Xcp) (v:Value) (c:X02),vs[j]?=some v->cs[j]?=some c->kr∈kp.rows->kr.bx=b->kr.s=s->kr.i=i+j->XdO st kr=some c/\Xb7 σ w a kr=v)->X1Y (RdT (XgJ σ w a st kp.rows) rows' M) vs (Xwu kp (rho st kp.rows) b s i cs):=by
 induction h with
 | nil=>intro i _;exact .nil
 | @cons v c vs cs hx hr ih=>
   intro i hk
   have ih':=ih (i+1) (λj kr u d hu hd hm e1 e2 e3=>hk (j+1) kr u d (by simpa using hu) (by simpa using hd) hm e1 e2 (by omega))
   simp only[Xwu]
   refine .cons ?_ ih'
   split
   . rename_i kr hf
     obtain⟨hm,e1,e2,e3⟩:=Xmu hf
     obtain⟨h1,h2⟩:=hk 0 kr v c (by simp) (by simp) hm e1 e2 (by omega)
     exact Xt7 F hm h1 h2 hx
   . exact Xtj hS F hx
theorem Xkx{kp:XhD}{σ':Sg}(hb:σ'.box=σ.box){rows':List (Nat×X0I)}{boxes':List (Nat×List X02)}(hbx:∀k,k∈kp.boxes->(st.box k).isSome=true->(look k boxes').isSome=true){vs:List Value}{l:List Cap}(h:X1Y (XcV σ st.rows st.boxes M) vs l):∀{l'},Xev kp st l=some l'->X1Y (XcV σ' rows' boxes' M) vs l':=by
 induction h with
 | nil=>intro l' e;cases e;exact .nil
 | @cons v c vs l hx hr ih=>
   intro l' e
   cases c with
   | box k off=>
     simp only[Xev]at e
     split at e
     . rename_i r hc h2
       cases e
       rw[Yac]at hc
       exact .cons ⟨by rw[hb];exact hx.1,hbx k (by simpa using hc.1) hc.2⟩ (ih h2)
     . cases e
   | ptr cs=>
     simp only[Xev]at e
     split at e
     . rename_i r h2
       cases e
       exact .cons (Xlp hx) (ih h2)
     . cases e
   | pp k off=>
     simp only[Xev]at e
     split at e
     . rename_i r hc h2
       cases e
       rw[Yac]at hc
       obtain⟨ad,q1,q2,q3⟩:=hx
       exact .cons ⟨ad,q1,by rw[hb];exact q2,hbx k (by simpa using hc.1) hc.2⟩ (ih h2)
     . cases e
   | pptr cs=>
     simp only[Xev]at e
     split at e
     . rename_i r h2
       cases e
       obtain⟨ad,u,q1,q2,q3⟩:=hx
       exact .cons ⟨ad,u,q1,q2,Xlp q3⟩ (ih h2)
     . cases e
theorem Sim.rename(hT:X1x P tab)(hS:Sim P base M0 ios σ M w a st){kp:XhD}(h:XhQ tab kp st=true):∃σ',Sim P base M0 ios σ' M w a (Bv.rename kp st):=by
 have F:=renF hS h
 have hrowof:∀{k:Nat} {rv:X0I},look k (Xk8 st kp.rows)=some rv->∃kr∈kp.rows,kr.k=k/\Xol st kr=some rv:=λhl=>XeV hl
 have hbox:∀k,((Bv.rename kp st).box k).isSome=true->(st.box k).isSome=true:=λk hs=>by
  have e:(Bv.rename kp st).box k=if k∈kp.boxes then _ else none:=X8o kp _ st k kp.boxes
  rw[e]at hs
  split at hs
  . simpa using hs
  . cases hs
 have hhot:∀{k:Nat},X1B k (Bv.rename kp st).rows->∃kr∈kp.rows,kr.k=k/\((∃r t l,XbD st kr=.hot r t l/\X1B r st.rows/\(XgJ σ w a st kp.rows).foot k=σ.foot r)\/(XgJ σ w a st kp.rows).foot k=[]):=λ{k} ⟨e,t,l,ver,hole,z,hl⟩=>by
  obtain⟨kr,hm,ek,hrr⟩:=hrowof hl
  subst ek
  refine⟨kr,hm,rfl,?_⟩
  unfold Xol at hrr
  split at hrr
  . rename_i r t' l' ho
    have hs:=X78 st kr
    rw[ho]at hs
    obtain⟨_,_,ver,z,hl⟩:=hs
    exact .inl ⟨r,t',l',ho,⟨_,_,_,_,_,_,hl⟩,(F.hotv kr hm r t' l' ho).2.1⟩
  . rename_i t' ho;exact .inr (F.nilv kr hm t' ho).2.1
  . cases hrr
  . cases hrr
  . cases hrr
 have hcold:∀{k:Nat} {e:TypeId},(Bv.rename kp st).row k=some e->∃kr∈kp.rows,kr.k=k/\kr.e=e/\((∃r,XbD st kr=.cold r/\st.row r=some e/\(XgJ σ w a st kp.rows).row k=σ.row r)\/((XgJ σ w a st kp.rows).row k=.slice none 0 0/\(look e tab).isSome=true)):=λ{k e} hr=>by
  obtain⟨rv,hl,hc⟩:=X67 hr
  obtain⟨kr,hm,ek,hrr⟩:=hrowof hl
  subst ek
  unfold Xol at hrr
  split at hrr
  . cases hrr;cases hc
  . cases hrr;cases hc
  . rename_i r ho
    cases hrr;cases hc
    obtain⟨_,h2,h3⟩:=F.coldv kr hm r ho
    exact⟨kr,hm,rfl,rfl,.inl ⟨r,ho,h2,by rw[F.row kr hm,h3]⟩⟩
  . rename_i ho
    cases hrr;cases hc
    have hok:=F.ok kr hm
    simp only[Xq0,ho,Yac]at hok
    exact⟨kr,hm,rfl,rfl,.inr ⟨by rw[F.row kr hm,F.cnilv kr hm ho],hok.2.2⟩⟩
  . cases hrr
 refine⟨XgJ σ w a st kp.rows,?_⟩
 exact {
  mem:=hS.mem
  nt:=hS.nt
  slots:=λi=>by
   have hget:(Bv.rename kp st).get i=if i∈kp.hold++kp.slots then reS kp (rho st kp.rows) st i (Xcw st.rows (st.get i)) else .und:=by
    simp only[St.get,Bv.rename,Xem]
    split
    . rename_i sv hs
      split at hs
      . rename_i hm;rw[Yah hm];cases hs;rfl
      . cases hs
    . rename_i hs
      split at hs
      . cases hs
      . rename_i hm;rw[Yae hm]
   rw[hget]
   split
   . have hs:=XiA hS (λ_ _ h=>h) (hS.slots i)
     have hbx:∀k,k∈kp.boxes->(st.box k).isSome=true->(look k (Bv.rename kp st).boxes).isSome=true:=λk h1 h2=>by
      have e:look k (Bv.rename kp st).boxes=if k∈kp.boxes then _ else none:=X8o kp _ st k kp.boxes
      rw[e,Yah h1];simpa using h2
     cases hg:Xcw st.rows (st.get i) with
     | und=>trivial
     | nil=>rw[hg]at hs;exact hs
     | tup l=>trivial
     | bptr cs r ver=>trivial
     | ptr cs=>rw[hg]at hs;exact Xlp hs
     | pptr cs=>
       rw[hg]at hs
       obtain⟨ad,u,q1,q2,q3⟩:=hs
       exact⟨ad,u,q1,q2,Xlp q3⟩
     | pp k off=>
       rw[hg]at hs
       obtain⟨ad,q1,q2,q3⟩:=hs
       simp only[reS]
       split
       . rename_i hc
         rw[Yac]at hc
         exact⟨ad,q1,q2,hbx k (by simpa using hc.1) hc.2⟩
       . trivial
     | fn f x y=>
       rw[hg]at hs
       obtain⟨va,vb,hv,h1,h2⟩:=hs
       simp only[reS]
       split
       . rename_i x' y' e1 e2
         exact⟨va,vb,hv,Xkx (σ:=σ) (σ':=XgJ σ w a st kp.rows) rfl hbx h1 e1,Xkx (σ:=σ) (σ':=XgJ σ w a st kp.rows) rfl hbx h2 e2⟩
       . trivial
     | hp t r j off=>
       rw[hg]at hs
       simp only[reS]
       split
       . rename_i k hl
         obtain⟨kr,hm,e,t',l',ho⟩:=XlO hl
         subst e
         have hsp:=X78 st kr
         rw[ho]at hsp
         obtain⟨_,_,ver,z,hl⟩:=hsp
         intro _
         rw[F.row kr hm,(F.hotv kr hm r t' l' ho).1]
         exact hs (by rw[hl];rfl)
       . trivial
     | box k off=>
       rw[hg]at hs
       simp only[reS]
       split
       . rename_i hc
         rw[Yac]at hc
         exact⟨hs.1,hbx k (by simpa using hc.1) hc.2⟩
       . trivial
     | val ag cs=>
       rw[hg]at hs
       refine⟨XoZ hS F hs.1 0 (λj kr v c hv hc hm e1 e2 e3=>?_),hs.2⟩
       rw[YaS]at e3
       subst e2;subst e3
       constructor
       . unfold XdO XvB
         rw[e1,hg];exact hc
       . unfold Xb7
         rw[e1]
         exact XgF hv
   . trivial
  boxes:=λk cs hk=>by
   have e:(Bv.rename kp st).box k=if k∈kp.boxes then _ else none:=X8o kp _ st k kp.boxes
   rw[e]at hk
   split at hk
   . cases hb:st.box k with
     | none=>rw[hb]at hk;cases hk
     | some cs'=>
       rw[hb]at hk
       cases hk
       obtain⟨arr,E,h1,h2⟩:=hS.boxes k cs' hb
       refine⟨arr,E,h1,XoZ hS F (XcX hS (λ_ _ h=>h) h2) 0 (λj kr v c hv hc hm e1 e2 e3=>?_)⟩
       rw[YaS]at e3
       subst e2;subst e3
       constructor
       . unfold XdO XvN
         rw[e1,hb];exact hc
       . unfold Xb7
         rw[e1]
         simp only
         rw[h1]
         exact XgF hv
   . cases hk
  boxM:=λk hk=>hS.boxM k (hbox k hk)
  boxInj:=λk k' h1 h2=>hS.boxInj k k' (hbox k h1) (hbox k' h2)
  boxBase:=λk hk=>hS.boxBase k (hbox k hk)
  rows:=λk e hr=>by
   obtain⟨kr,hm,ek,ee,hv⟩:=hcold hr
   rcases hv with⟨r,_,h1,h2⟩ | ⟨h1,h2⟩
   . rw[h2];exact hS.rows r e h1
   . rw[h1]
     obtain⟨te,hte⟩:=Yao.1 h2
     obtain⟨inf,z,hi,_⟩:=(hT e te hte).info
     exact⟨⟨0,[],inf,hi,X6L.nil _ _ _,λg hg=>by cases hg⟩⟩
  rowBox:=λk b hr hb=>by
   obtain⟨e,he⟩:=Yao.1 hr
   obtain⟨kr,hm,ek,ee,hv⟩:=hcold he
   rcases hv with⟨r,_,h1,h2⟩ | ⟨h1,_⟩
   . rw[h2];exact hS.rowBox r b (by rw[h1];rfl) (hbox b hb)
   . rw[h1];intro h2;cases h2
  rowInj:=λk k' h1 h2 hne=>by
   obtain⟨e,he⟩:=Yao.1 h1
   obtain⟨e',he'⟩:=Yao.1 h2
   obtain⟨kr,hm,ek,ee,hv⟩:=hcold he
   obtain⟨kr',hm',ek',ee',hv'⟩:=hcold he'
   rcases hv with⟨r,ho,hre,hv⟩ | ⟨hv,_⟩
   . rcases hv' with⟨r',ho',hre',hv'⟩ | ⟨hv',_⟩
     . rw[hv,hv']
       refine hS.rowInj r r' (by rw[hre];rfl) (by rw[hre'];rfl) (λe2=>?_)
       subst e2
       have:=XoN F.colds hm hm' ho ho'
       subst this
       exact hne (ek.symm.trans ek')
     . rw[hv,hv']
       cases hb:(σ.row r).ownBlock with
       | none=>exact .inl rfl
       | some g=>right;intro h3;cases h3
   . rw[hv];exact .inl rfl
  hot:={
   ok:=λk e t l ver hole z hl=>by
    obtain⟨kr,hm,ek,hrr⟩:=hrowof hl
    subst ek
    have hok:=F.ok kr hm
    unfold Xol at hrr
    split at hrr
    . rename_i r t' l' ho
      cases hrr
      obtain⟨v1,v2,v3⟩:=F.hotv kr hm r _ _ ho
      have hs:=X78 st kr
      rw[ho]at hs
      obtain⟨_,_,ver',z',hl'⟩:=hs
      have hk:=hS.hotAt hl'
      have hrow:=F.row kr hm
      rw[v1]at hrow
      exact {
       info:=hk.info
       pos:=hk.pos
       own:=by show X4Q w t ((XgJ σ w a st kp.rows).row kr.k) l ((XgJ σ w a st kp.rows).foot kr.k);rw[hrow,v2];exact hk.own
       nodup:=by rw[v2];exact hk.nodup
       mem:=λad u hu=>by rw[v3]at hu;rw[v2,hrow];exact hk.mem ad u hu
       full:=λ_ ad u h1 h2 h3=>by rw[v2]at h1;rw[hrow]at h2;rw[v3];exact hk.full rfl ad u h1 h2 h3
       z:=λh=>by cases h}
    . rename_i t' ho
      cases hrr
      obtain⟨⟨ad,v1⟩,v2,v3⟩:=F.nilv kr hm _ ho
      have hrow:=F.row kr hm
      rw[v1]at hrow
      simp only[Xq0,ho,Yac]at hok
      have hok2:=hok.2.2
      split at hok2
      . rename_i te hte
        simp only[Yac,Yaj]at hok2
        obtain⟨i,zz,hi,hs,_⟩:=(hT _ te hte).info
        exact {
         info:=⟨i,hi,by rw[hs,hok2.1]⟩
         pos:=hok2.2
         own:=by show X4Q w t ((XgJ σ w a st kp.rows).row kr.k) [] ((XgJ σ w a st kp.rows).foot kr.k);rw[hrow,v2];exact X4Q.emp ad
         nodup:=by rw[v2];exact Ybf
         mem:=λad u hu=>by rw[v3]at hu;cases hu
         full:=λ_ ad u h1 h2 h3=>by rw[v2]at h1;cases h1
         z:=λh=>by cases h}
      . cases hok2
    . cases hrr
    . cases hrr
    . cases hrr
   base:=λk hk g hg=>by
    obtain⟨kr,hm,ek,hv⟩:=hhot hk
    rcases hv with⟨r,t,l,ho,hr,hf⟩ | hf
    . rw[hf]at hg;exact hS.hot.base r hr g hg
    . rw[hf]at hg;cases hg
   noM:=λk hk g hg=>by
    obtain⟨kr,hm,ek,hv⟩:=hhot hk
    rcases hv with⟨r,t,l,ho,hr,hf⟩ | hf
    . rw[hf]at hg;exact hS.hot.noM r hr g hg
    . rw[hf]at hg;cases hg
   noBox:=λk hk b hb hg=>by
    obtain⟨kr,hm,ek,hv⟩:=hhot hk
    rcases hv with⟨r,t,l,ho,hr,hf⟩ | hf
    . rw[hf]at hg;exact hS.hot.noBox r hr b (hbox b hb) hg
    . rw[hf]at hg;cases hg
   noRow:=λk hk k' hk' g hg hgf=>by
    obtain⟨kr,hm,ek,hv⟩:=hhot hk
    obtain⟨e',he'⟩:=Yao.1 hk'
    obtain⟨kr',hm',ek',ee',hv'⟩:=hcold he'
    rcases hv' with⟨r',_,hr',hv'⟩ | ⟨hv',_⟩
    . rw[hv']at hg
      rcases hv with⟨r,t,l,ho,hr,hf⟩ | hf
      . rw[hf]at hgf;exact hS.hot.noRow r hr r' (by rw[hr'];rfl) g hg hgf
      . rw[hf]at hgf;cases hgf
    . rw[hv']at hg;cases hg
   apart:=λk k' hk hk' hne g hg hg'=>by
    obtain⟨kr,hm,ek,hv⟩:=hhot hk
    obtain⟨kr',hm',ek',hv'⟩:=hhot hk'
    rcases hv with⟨r,t,l,ho,hr,hf⟩ | hf
    . rcases hv' with⟨r',t',l',ho',hr',hf'⟩ | hf'
      . rw[hf]at hg
        rw[hf']at hg'
        refine hS.hot.apart r r' hr hr' (λe=>?_) g hg hg'
        subst e
        have:=XsN F.hots hm hm' ho ho'
        subst this
        exact hne (ek.symm.trans ek')
      . rw[hf']at hg';cases hg'
    . rw[hf]at hg;cases hg
   lt:=λk hk g hg=>by
    obtain⟨kr,hm,ek,hv⟩:=hhot hk
    rcases hv with⟨r,t,l,ho,hr,hf⟩ | hf
    . rw[hf]at hg;exact hS.hot.lt r hr g hg
    . rw[hf]at hg;cases hg
   frz:=λk e t l ver z hl=>by
    obtain⟨kr,hm,ek,hrr⟩:=hrowof hl
    unfold Xol at hrr
    split at hrr<;>cases hrr}
  fr:=hS.fr
  defers:=hS.defers
  old:=hS.old
  le:=hS.le
  pin:=hS.pin
  pins:=λp hp hs=>by
   obtain⟨rv,hl⟩:=Yao.1 hs
   obtain⟨kr,hm,ek,hrr⟩:=hrowof hl
   have heven:=ios.even p hp
   have hok:=F.ok kr hm
   have hrow:=F.row kr hm
   rw[<-ek]
   rw[hrow]
   rw[<-ek]at heven
   simp only[Xq0,Yac]at hok
   have hok2:=hok.2
   have hsp:=X78 st kr
   cases ho:XbD st kr with
   | bad=>rw[ho]at hok2;cases hok2
   | nil t=>rw[ho]at hok2;simp only[Yac,YbS]at hok2;omega
   | cnil=>rw[ho]at hok2;simp only[Yac,YbS]at hok2;omega
   | hot r t l=>
     rw[ho]at hok2 hsp
     simp only[Ya7,YbS]at hok2
     obtain⟨_,_,ver,z,hl'⟩:=hsp
     have e:r=kr.k:=by omega
     rw[(F.hotv kr hm r t l ho).1,e]
     have:=hS.pins p hp (by rw[<-ek,<-e,hl'];rfl)
     rw[<-ek]at this;exact this
   | cold r=>
     rw[ho]at hok2
     simp only[Yac,Ya7,YbS]at hok2
     have e:r=kr.k:=by omega
     obtain⟨_,h2,h3⟩:=F.coldv kr hm r ho
     rw[h3,e]
     obtain⟨rv',hl',_⟩:=X67 h2
     have:=hS.pins p hp (by rw[<-ek,<-e,hl'];rfl)
     rw[<-ek]at this;exact this
  olds:=λi hi=>by cases hi}
theorem Sim.weaken(hT:X1x P tab)(hS:Sim P base M0 ios σ M w a st){kp:XhD}(h:XqU tab kp st=true):∃σ' M',Sim P base M0 ios σ' M' w a (Bv.weaken kp st):=by
 unfold XqU at h
 rw[Yac]at h
 obtain⟨h1,h2⟩:=h
 have hfz:∀p∈XtT kp st,∃e t l ver z,p.2=.frz e t l ver z/\look p.1 st.rows=some (.hot e t l ver none z):=λp hp=>XiM hp
 obtain⟨M',hS'⟩:=hS.freezes hfz (X80 h1)
 have:ready kp st=X5X (XtT kp st) st:=by
  unfold ready
  split
  . rename_i he;rw[he];rfl
  . rfl
 unfold Bv.weaken
 rw[this]at h2 ⊢
 obtain⟨σ',hS2⟩:=hS'.rename hT h2
 exact⟨σ',M',hS2⟩
structure X0e where
 kp:XhD
 T:Ty
 I:St->El T->Prop
 μ:St->El T->Nat
def Xho(st:St)(s i:Nat):Option X02:=match st.get s with
 | .val _ cs=>cs[i]?
 | .ptr cs=>cs[i]?
 | _=>none
def XuG:Option X02->Int
 | some (.int _ n)=>n
 | _=>0
def XiF:X02->Bool
 | .int ..=>true
 | .bool _=>true
 | .str _=>true
 | .lst ..=>true
 | _=>false
def Xjf:List X02->List X02
 | []=>[]
 | c::l=>match XiF c with
   | true=>c::Xjf l
   | false=>Xjf l
def XjC(s:St):List Nat->Option (List X02)
 | []=>some []
 | i::l=>match s.get i,XjC s l with
   | .val _ cs,some r=>some (Xjf cs++r)
   | _,_=>none
def Xik(s:St):List Nat->Option (List X02)
 | []=>some []
 | b::l=>match s.box b,Xik s l with
   | some cs,some r=>some (Xjf cs++r)
   | _,_=>none
def Xj7(s:St):List Xcp->Option (List X02)
 | []=>some []
 | kr::l=>match look kr.k s.rows,Xj7 s l with
   | some (.hot _ t l _ _ _),some r=>some (.lst t l none::r)
   | some (.cold _),some r=>some r
   | _,_=>none
def Xrr(kp:XhD)(s:St):Option (List X02):=match XjC s kp.slots,Xik s kp.boxes,Xj7 s kp.rows with
 | some a,some b,some c=>some (a++(b++c))
 | _,_,_=>none
def Xsp:X02->X02->Option X02
 | .int k _,.int k' n=>if k=k' then some (.int k n) else none
 | .bool _,.bool b=>some (.bool b)
 | .str _,.str s=>some (.str s)
 | .lst t _ tag,.lst t' l _=>if t=t' then some (.lst t' l tag) else none
 | _,_=>none
def Xi5:List X02->List X02->Option (List X02×List X02)
 | [],cs=>some ([],cs)
 | c::sh,cs=>match XiF c with
   | true=>match cs with
     | v::cs=>match Xsp c v,Xi5 sh cs with
       | some c',some (r,cs')=>some (c'::r,cs')
       | _,_=>none
     | []=>none
   | false=>match Xi5 sh cs with
     | some (r,cs')=>some (c::r,cs')
     | none=>none
def XsZ(s0:St):List Nat->List X02->Option (List (Nat×Sv)×List X02)
 | [],cs=>some ([],cs)
 | s::l,cs=>match s0.get s with
   | .val ag sh=>match Xi5 sh cs with
     | some (c,r)=>match XsZ s0 l r with
       | some (sl,r')=>some ((s,.val ag c)::sl,r')
       | none=>none
     | none=>none
   | _=>none
def Xud(s0:St):List Nat->List X02->Option (List (Nat×List X02)×List X02)
 | [],cs=>some ([],cs)
 | b::l,cs=>match s0.box b with
   | some sh=>match Xi5 sh cs with
     | some (c,r)=>match Xud s0 l r with
       | some (sl,r')=>some ((b,c)::sl,r')
       | none=>none
     | none=>none
   | _=>none
def XpW(s0:St):List Xcp->List X02->Option (List (Nat×X0I)×List X02)
 | [],cs=>some ([],cs)
 | kr::l,cs=>match look kr.k s0.rows with
   | some (.hot e t _ ver hole z)=>match cs with
     | .lst t' x _::cs=>match decide (t'=t),XpW s0 l cs with
       | true,some (sl,r)=>some ((kr.k,.hot e t' x ver hole z)::sl,r)
       | _,_=>none
     | _=>none
   | some (.cold e)=>match XpW s0 l cs with
     | some (sl,r)=>some ((kr.k,.cold e)::sl,r)
     | none=>none
   | _=>none
def Xg5(s:St):List Nat->List (Nat×Sv)
 | []=>[]
 | i::l=>(i,s.get i)::Xg5 s l
def XmX(kp:XhD)(s0:St)(cs:List X02):Option St:=match XsZ s0 kp.slots cs with
 | some (sl,r)=>match Xud s0 kp.boxes r with
   | some (bx,r')=>match XpW s0 kp.rows r' with
     | some (rw,[])=>some {nt:=s0.nt,slots:=Xg5 s0 kp.hold++sl,boxes:=bx,rows:=rw}
     | _=>none
   | _=>none
 | none=>none
def XqP:X02->X02->Bool
 | .int k _,.int k' _=>decide (k=k')
 | .bool _,.bool _=>true
 | .str _,.str _=>true
 | .lst t _ tag,.lst t' _ tag'=>decide (t=t')&&decide (tag=tag')
 | .own t r,.own t' r'=>decide (t=t')&&decide (r=r')
 | .sub t r lo hi,.sub t' r' lo' hi'=>decide (t=t')&&decide (r=r')&&decide (lo=lo')&&decide (hi=hi')
 | .emp t,.emp t'=>decide (t=t')
 | .und,.und=>true
 | _,_=>false
def Xig:List X02->List X02->Bool
 | [],[]=>true
 | a::l,b::r=>XqP a b&&Xig l r
 | _,_=>false
def Xrw:Sv->Sv->Bool
 | .val ag cs,.val ag' cs'=>decide (ag=ag')&&Xig cs cs'
 | _,_=>false
def Xrl(s0 s:St):List Nat->Bool
 | []=>true
 | i::l=>Xrw (s0.get i) (s.get i)&&Xrl s0 s l
def XrY(s0 s:St):List Nat->Bool
 | []=>true
 | b::l=>(match s0.box b,s.box b with
   | some c,some c'=>Xig c c'
   | _,_=>false)&&XrY s0 s l
def XrL(s0 s:St):List Xcp->Bool
 | []=>true
 | kr::l=>(match look kr.k s0.rows,look kr.k s.rows with
   | some (.hot e t _ ver hole z),some (.hot e' t' _ ver' hole' z')=>decide (e=e')&&decide (t=t')&&decide (ver=ver')&&decide (hole=hole')&&decide (z=z')
   | some (.cold e),some (.cold e')=>decide (e=e')
   | _,_=>false)&&XrL s0 s l
def Xu0(tab:Tab)(an:X0e)(s0 st:St)(Z:El an.T->Prop):Prop:=
 match XqU tab an.kp st with
 | true=>
   let s:=weaken an.kp st
   match decide (s0.nt=s.nt)&&Xrl s0 s an.kp.slots&&XrY s0 s an.kp.boxes&&XrL s0 s an.kp.rows,Xrr an.kp s with
   | true,some cs=>match X2q an.T cs with
     | some (y,[])=>Xg5 s0 an.kp.hold=Xg5 s an.kp.hold/\Z y
     | _=>False
   | _,_=>False
 | false=>False
def XwO(an:X0e)(s0:St)(x:El an.T)(F:St->Prop):Prop:=match XmX an.kp s0 (flat an.T x) with
 | some st=>F st
 | none=>False
theorem XnZ{c d:X02}(h:XqP c d=true)(hl:XiF d=true):Xsp c (unT d)=some d/\XiF c=true:=by
 cases c<;>cases d<;>simp[XqP]at h<;>simp[XiF]at hl
 all_goals simp[Xsp,unT,h,XiF]
theorem Xqf{c d:X02}(h:XqP c d=true)(hl:XiF d=false):c=d/\XiF c=false:=by
 cases c<;>cases d<;>simp[XqP]at h<;>simp[XiF]at hl
 all_goals simp[h,XiF]
theorem Xdq:∀{sh ds:List X02} (r:List X02),Xig sh ds=true->Xi5 sh ((Xjf ds).map unT++r)=some (ds,r)
 | [],[],r,_=>rfl
 | c::sh,[],r,h=>by simp[Xig]at h
 | [],d::ds,r,h=>by simp[Xig]at h
 | c::sh,d::ds,r,h=>by
   simp only[Xig,Yac]at h
   cases hl:XiF d with
   | true=>
     obtain⟨h1,h2⟩:=XnZ h.1 hl
     simp only[Xjf,hl,Yaq,Ybb,Xi5,h2,h1,Xdq r h.2]
   | false=>
     obtain⟨h1,h2⟩:=Xqf h.1 hl
     simp only[Xjf,hl,Xi5,h2,Xdq r h.2,h1]
theorem XkF{s0 s:St}:∀{l:List Nat} {cs:List X02} (r:List X02),Xrl s0 s l=true->XjC s l=some cs->XsZ s0 l (cs.map unT++r)=some (Xg5 s l,r)
 | [],cs,r,_,e=>by simp only[XjC,Yag]at e;subst e;rfl
 | i::l,cs,r,h,e=>by
   simp only[Xrl,Yac]at h
   simp only[XjC]at e
   split at e
   . rename_i ag c r' h1 h2
     cases e
     have hs:=h.1
     rw[h1]at hs
     cases hw:s0.get i with
     | val ag' sh=>
       rw[hw]at hs
       simp only[Xrw,Yac,Yaj]at hs
       obtain⟨rfl,hs⟩:=hs
       simp only[XsZ,hw,Ya8,Yam,Xdq _ hs,XkF r h.2 h2,Xg5,h1]
     | _=>rw[hw]at hs;simp[Xrw]at hs
   . cases e
def XlR(s:St):List Nat->List (Nat×List X02)
 | []=>[]
 | b::l=>match s.box b with
   | some cs=>(b,cs)::XlR s l
   | none=>XlR s l
theorem Xku{s0 s:St}:∀{l:List Nat} {cs:List X02} (r:List X02),XrY s0 s l=true->Xik s l=some cs->Xud s0 l (cs.map unT++r)=some (XlR s l,r)
 | [],cs,r,_,e=>by simp only[Xik,Yag]at e;subst e;rfl
 | b::l,cs,r,h,e=>by
   simp only[XrY,Yac]at h
   simp only[Xik]at e
   split at e
   . rename_i c r' h1 h2
     cases e
     have hs:=h.1
     rw[h1]at hs
     cases hw:s0.box b with
     | some sh=>
       rw[hw]at hs
       simp only at hs
       simp only[Xud,hw,Ya8,Yam,Xdq _ hs,Xku r h.2 h2,XlR,h1]
     | none=>rw[hw]at hs;cases hs
   . cases e
def XjV(s:St):List Xcp->List (Nat×X0I)
 | []=>[]
 | kr::l=>match look kr.k s.rows with
   | some rv=>(kr.k,rv)::XjV s l
   | none=>XjV s l
theorem Xgz{s0 s:St}:∀{l:List Xcp} {cs:List X02} (r:List X02),XrL s0 s l=true->Xj7 s l=some cs->XpW s0 l (cs.map unT++r)=some (XjV s l,r)
 | [],cs,r,_,e=>by simp only[Xj7,Yag]at e;subst e;rfl
 | kr::l,cs,r,h,e=>by
   simp only[XrL,Yac]at h
   simp only[Xj7]at e
   split at e
   . rename_i e1 t x v ho z r' h1 h2
     cases e
     have hs:=h.1
     rw[h1]at hs
     split at hs
     . rename_i e0 t0 x0 v0 ho0 z0 e' t' x' v' ho' z' h3 h4
       cases h4
       simp only[Yac,Yaj]at hs
       obtain⟨⟨⟨⟨q1,q2⟩,q3⟩,q4⟩,q5⟩:=hs
       subst q1;subst q2;subst q3;subst q4;subst q5
       simp only[Yaq,unT,Ybb,XpW,h3,decide_true,Xgz r h.2 h2,XjV,h1]
     . rename_i h4;cases h4
     . cases hs
   . rename_i e1 r' h1 h2
     cases e
     have hs:=h.1
     rw[h1]at hs
     split at hs
     . rename_i h4;cases h4
     . rename_i e0 e2 h3 h4
       simp only[Yag,X0I.cold.injEq]at h4
       subst h4
       have hs:=of_decide_eq_true hs
       subst hs
       simp only[XpW,h3,Xgz r h.2 h2,XjV,h1]
     . cases hs
   . cases e
theorem XkB(s:St)(i:Nat):∀l,look i (Xg5 s l)=if i∈l then some (s.get i) else none
 | []=>rfl
 | j::l=>by
   simp only[Xg5,X07,XkB s i l,Yak]
   by_cases h:j=i
   . subst h;simp
   . simp[h,YaK h]
theorem Xh0(s:St)(k:Nat):∀l,look k (XlR s l)=if k∈l then s.box k else none
 | []=>rfl
 | b::l=>by
   simp only[XlR]
   cases hb:s.box b with
   | none=>
     rw[Xh0 s k l]
     by_cases h:k=b
     . subst h;simp[hb]
     . simp[h]
   | some cs=>
     rw[X07,Xh0 s k l]
     by_cases h:b=k
     . subst h;simp[hb]
     . simp[h,YaK h]
theorem XgA(s:St)(k:Nat):∀(l:List Xcp),look k (XjV s l)=if k∈l.map (·.k) then look k s.rows else none
 | []=>rfl
 | kr::l=>by
   simp only[XjV]
   cases hb:look kr.k s.rows with
   | none=>
     rw[XgA s k l]
     by_cases h:k=kr.k
     . subst h;simp[hb]
     . simp[h]
   | some cs=>
     rw[X07,XgA s k l]
     by_cases h:kr.k=k
     . subst h;simp[hb]
     . simp[h,YaK h]
theorem XnA{kp:XhD}{s0 st s:St}{cs:List X02}(hs:s=weaken kp st)(hnt:s0.nt=s.nt)(h1:Xrl s0 s kp.slots=true)(h2:XrY s0 s kp.boxes=true)(h3:XrL s0 s kp.rows=true)(hc:Xrr kp s=some cs)(hh:Xg5 s0 kp.hold=Xg5 s kp.hold):∃s',XmX kp s0 (cs.map unT)=some s'/\Ext s s':=by
 unfold Xrr at hc
 split at hc
 . rename_i ca cb cr ha hb hr
   cases hc
   have e3:=Xgz [] h3 hr
   rw[Ybe]at e3
   refine⟨{nt:=s0.nt,slots:=Xg5 s0 kp.hold++Xg5 s kp.slots,boxes:=XlR s kp.boxes,rows:=XjV s kp.rows},?_,?_⟩
   . unfold XmX
     rw[Ya8,XkF _ h1 ha,Ya8]
     simp only[Xku _ h2 hb,e3]
   . subst hs
     refine⟨hnt.symm,λi=>?_,λk=>?_,λr=>?_,λi=>Yc2⟩
     . have e:(⟨s0.nt,Xg5 s0 kp.hold++Xg5 (weaken kp st) kp.slots,XlR (weaken kp st) kp.boxes,XjV (weaken kp st) kp.rows,[]⟩:St).get i=if i∈kp.hold++kp.slots then(weaken kp st).get i else .und:=by
        simp only[St.get,hh,X5k,XkB,Yaf]
        by_cases m1:i∈kp.hold
        . simp[m1]
        . by_cases m2:i∈kp.slots
          . simp[m1,m2]
          . simp[m1,m2]
       rw[e]
       by_cases m:i∈kp.hold++kp.slots
       . rw[Yah m]
       . rw[Yae m]
         show(match look i (XiX kp (rho (ready kp st) kp.rows) (ready kp st) (kp.hold++kp.slots)) with | some sv=>sv | none=>.und)=_
         rw[Xem,Yae m]
     . show look k (weaken kp st).boxes=look k (XlR (weaken kp st) kp.boxes)
       rw[Xh0]
       split
       . rfl
       . rename_i m
         show look k (Xgp kp _ _ kp.boxes)=_
         rw[X8o,Yae m]
     . show look r (weaken kp st).rows=look r (XjV (weaken kp st) kp.rows)
       rw[XgA]
       split
       . rfl
       . rename_i m
         cases hl:look r (weaken kp st).rows with
         | none=>rfl
         | some rv=>
           obtain⟨kr,hm,e,_⟩:=XeV hl
           exact absurd (YaM.2 ⟨kr,hm,e⟩) m
 . cases hc
theorem XiL(hT:X1x P tab){an:X0e}{s0:St}{Z:El an.T->Prop}(h:Xu0 tab an s0 st Z)(hS:Sim P base M0 ios σ M w a st):
 ∃y s σ' M',Z y/\XmX an.kp s0 (flat an.T y)=some s/\Sim P base M0 ios σ' M' w a s:=by
 unfold Xu0 at h
 split at h
 . rename_i hk
   simp only at h
   split at h
   . rename_i cs hb hl
     split at h
     . rename_i y hy
       simp only[Yac,Yaj]at hb
       obtain⟨⟨⟨hnt,h1⟩,h2⟩,h3⟩:=hb
       have hu:=X5n _ _ _ _ hy
       simp only[YaG,Ybe]at hu
       obtain⟨σ',M',hS'⟩:=hS.weaken hT hk
       obtain⟨s',e1,e2⟩:=XnA rfl hnt h1 h2 h3 hl h.1
       exact⟨y,s',σ',M',h.2,by rw[<-hu];exact e1,hS'.ext e2⟩
     . exact h.elim
   . exact h.elim
 . exact h.elim
def Xy0(tab:Tab)(an:X0e)(st:St)(Z:St->El an.T->Prop):Prop:=Xu0 tab an (weaken an.kp st) st (Z (weaken an.kp st))
section
inductive Ex where
 | normal
 | exit (id:Nat)
 | ret
def XxS(next:St->Prop)(K:Ex->St->Prop):Ex->St->Prop
 | .normal,st=>next st
 | .exit id,st=>K (.exit id) st
 | .ret,st=>K .ret st
def Xum(id:Nat)(K:Ex->St->Prop):Ex->St->Prop
 | .exit id',st=>if id'=id then K .normal st else K (.exit id') st
 | .normal,st=>K .normal st
 | .ret,st=>K .ret st
def XtB(Γ:Gam)(ops:List Oper)(st:St):List Nat:=match Γ.tk with
 | []=>[]
 | tk=>ops.flatMap λo=>match o.op,o.dst with
   | .move x,some d=>match tk.contains (d+1000000),(X3p st x).sv with
     | true,.val false [.own _ r]=>[r]
     | _,_=>[]
   | _,_=>[]
def Xt6(K:St->Prop):List Nat->St->Prop
 | [],st=>K st
 | r::l,st=>match look r st.rows with
   | some (.hot e t L ver none _)=>0<L.length/\Xt6 K l {st with rows:=(r,.frz e t L ver true)::st.rows}
   | _=>False
def vc(tab:Tab)(Γ:Gam)(L:Nat->Option X0e):Code->Nat->St->(Ex->St->Prop)->Prop
 | .skip,_,st,K=>K .normal st
 | .region _ ops false,_,st,K=>match Xhu st.nt ops.toList with
   | true=>Xi0 tab Γ ops.toList ops.toList st (K .normal)
   | false=>False
 | .region _ ops true,_,st,K=>match Xhu st.nt ops.toList with
   | true=>Xt6 (λst=>Xxk tab Γ ops.toList st (K .normal)) (XtB Γ ops.toList st) st
   | false=>False
 | .seq x y,p,st,K=>vc tab Γ L x (2*p) st (XxS (λst'=>vc tab Γ L y (2*p+1) st' K) K)
 | .cond c x y,p,st,K=>match (X3p st c).sv with
   | .val false [.bool b]=>X00 b (vc tab Γ L x (2*p) st K) (vc tab Γ L y (2*p+1) st K)
   | _=>False
 | .block id c,p,st,K=>vc tab Γ L c (2*p) st (Xum id K)
 | .loop c,p,st,K=>match L p with
   | some an=>Xy0 tab an st λs0 x0=>an.I st x0/\∀x,an.I st x->XwO an s0 x λs=>
      vc tab Γ L c (2*p) s (XxS (λst'=>Xu0 tab an s0 st' λy=>an.I st y/\an.μ st y<an.μ st x) K)
   | none=>False
 | .exit id,_,st,K=>K (.exit id) st
 | .ret,_,st,K=>K .ret st
 | _,_,_,_=>False
def Xxs:Ex->Exit
 | .normal=>.normal
 | .exit id=>.exit id
 | .ret=>.ret
theorem Xxp{α:Type}(R:α->Prop)(μ:α->Nat):∀n x,R x->μ x<=n->∃x,R x/\∀y,R y->μ x<=μ y:=by
 intro n
 induction n with
 | zero=>intro x hx hn;exact⟨x,hx,λy _=>by omega⟩
 | succ n ih=>
   intro x hx hn
   by_cases h:∃y,R y/\μ y<=n
   . obtain⟨y,hy,hyn⟩:=h;exact ih y hy hyn
   . refine⟨x,hx,λy hy=>?_⟩
     rcases Nat.lt_or_ge n (μ y) with h1 | h1
     . omega
     . exact absurd ⟨y,hy,h1⟩ h
open Classical in
theorem Xon{α:Type}{c:Code}{Q:Exit->Act->World->Prop}(R:α->Act->World->Prop)(μ:α->Nat){x:α}(h0:R x a w)(round:∀x a w,R x a w->c.wp P (Exit.then (λa' w'=>∃y,R y a' w'/\μ y<μ x) Q) a w):(Code.loop c).wp P Q a w:=by
 let m:Act->World->Nat:=λa w=>if h:∃x,R x a w/\∀y,R y a w->μ x<=μ y then μ h.choose else 0
 refine wp_loop (λa w=>∃x,R x a w) m ⟨x,h0⟩ λa w ⟨x,hx⟩=>?_
 have hl:=Xxp (λx=>R x a w) μ _ x hx (YaB _)
 have hm:m a w=μ hl.choose:=dif_pos hl
 refine wp_mono (round hl.choose a w hl.choose_spec.1) λe a' w' hq=>?_
 cases e with
 | normal=>
   obtain⟨y,hy,hlt⟩:=hq
   refine⟨⟨y,hy⟩,?_⟩
   have hl':=Xxp (λx=>R x a' w') μ _ y hy (YaB _)
   have hm':m a' w'=μ hl'.choose:=dif_pos hl'
   rw[hm,hm']
   exact Nat.lt_of_le_of_lt (hl'.choose_spec.2 y hy) hlt
 | _=>exact hq
theorem Xm4{K:St->Prop}:∀(l:List Nat) {st:St} {M:Mem},Sim P base M0 ios σ M w a st->Xt6 K l st->∃M' st',Sim P base M0 ios σ M' w a st'/\st'.nt=st.nt/\K st'
 | [],st,M,hS,h=>⟨M,st,hS,rfl,h⟩
 | r::l,st,M,hS,h=>by
   unfold Xt6 at h
   split at h
   . rename_i e t L ver z hl
     obtain⟨M',st',h1,h2,h3⟩:=Xm4 l (hS.freezeZ (z2:=true) hl λ_=>.inr λe=>by rw[e]at h;exact absurd h.1 (by simp)) h.2
     exact⟨M',st',h1,h2,h3⟩
   . exact h.elim
theorem Xti{L:Nat->Option X0e}(hm:P.follows .mixedOrders=true)(hT:X1x P tab)(hΓ:Xfz P Γ):∀(c:Code) (p:Nat) (st:St) (K:Ex->St->Prop) (Q:Exit->Act->World->Prop) (σ:Sg) (M:Mem) (w:World) (a:Act),Sim P base M0 ios σ M w a st->
 (∀e σ' M' w' a' st',Sim P base M0 ios σ' M' w' a' st'->K e st'->Q (Xxs e) a' w')->vc tab Γ L c p st K->c.wp P Q a w:=by
 intro c
 induction c with
 | skip=>intro p st K Q σ M w a hS hq h;exact wp_skip (hq .normal _ _ _ _ _ hS h)
 | region id ops draw=>
   intro p st K Q σ M w a hS hq h
   cases draw with
   | true=>
     simp only[vc]at h
     split at h
     . rename_i hd
       obtain⟨M,st,hS,hnt,h⟩:=Xm4 _ hS h
       rw[<-hnt]at hd
       unfold Xxk at h
       have hl0:∀j,(Array.replicate ops.size false).getD j false=false:=λj=>by
        rw[Ybd,Array.getElem?_replicate];split<;>rfl
       have hu0:unl ops.size (Array.replicate ops.size false)<=ops.size:=by
        unfold unl
        exact Ya5 (List.countP_le_length) (by simp)
       split at h
       . obtain⟨outs,st',hlen,hK,hext,hgood⟩:=Xbd _ _ _ h
         split at hK
         . rename_i hok
           refine wp_region_any hm (Xiu hT hΓ (λ_=>False) hd hlen hok (λj o x _ hz=>hgood j o x hz) (λσ' M' w' a' hS'=>hq .normal _ _ _ _ _ (hS'.ext hext.symm) hK) _ _ σ M _ a (by simp) hu0 ?_ (λj hj=>hj.elim) ?_)
           . intro j hj
             rw[hl0 j]at hj;cases hj
           . rw[Xe2 (λi _=>hl0 i)]
             exact hS.sameHeap rfl rfl rfl rfl
         . exact hK.elim
       . exact wp_region_any hm (Xry hT hΓ hd h (λσ' M' w' a' st' hKK hS'=>hq .normal σ' M' w' a' st' hS' hKK) _ _ σ M _ a (by simp) hu0 hl0 (hS.sameHeap rfl rfl rfl rfl))
     . exact h.elim
   | false=>
     simp only[vc]at h
     split at h
     . rename_i hd
       exact wp_region_list (Xfd hT hΓ (λσ' M' w' a' st' hS' hK=>hq .normal σ' M' w' a' st' hS' hK) _ _ _ _ _ _ (Xdz hd) hS h)
     . exact h.elim
 | seq x y ihx ihy=>
   intro p st K Q σ M w a hS hq h
   refine wp_seq (ihx _ st _ _ σ M w a hS ?_ h)
   intro e σ' M' w' a' st' hS' hK
   cases e with
   | normal=>exact ihy _ st' K Q σ' M' w' a' hS' hq hK
   | exit id=>exact hq _ _ _ _ _ _ hS' hK
   | ret=>exact hq _ _ _ _ _ _ hS' hK
 | cond c x y ihx ihy=>
   intro p st K Q σ M w a hS hq h
   simp only[vc]at h
   split at h
   . rename_i b hb
     replace h:=Xg0 h
     have hr:=(X4j (M:=M) hS c).rep
     rw[hb]at hr
     have hc:a.eval c=.bool b:=(X0T.one hr).1
     refine wp_cond_split hc (λe=>ihx _ st K Q σ M w a hS hq (h.1 e)) (λe=>ihy _ st K Q σ M w a hS hq (h.2 e))
   . exact h.elim
 | block id c ih=>
   intro p st K Q σ M w a hS hq h
   refine wp_block (ih _ st _ _ σ M w a hS ?_ h)
   intro e σ' M' w' a' st' hS' hK
   cases e with
   | normal=>exact hq .normal _ _ _ _ _ hS' hK
   | exit id'=>
     simp only[Xum]at hK
     show(if id'=id then Q .normal a' w' else Q (.exit id') a' w')
     split at hK
     . rename_i e;rw[Yah e];exact hq .normal _ _ _ _ _ hS' hK
     . rename_i e;rw[Yae e];exact hq (.exit id') _ _ _ _ _ hS' hK
   | ret=>exact hq .ret _ _ _ _ _ hS' hK
 | loop c ih=>
   intro p st K Q σ M w a hS hq h
   simp only[vc]at h
   split at h
   . rename_i an _
     obtain⟨x0,s0,σ0,M0',⟨hI0,hround⟩,hs0,hS0⟩:=XiL hT h hS
     refine Xon (λx a w=>an.I st x/\∃s σ M,XmX an.kp (weaken an.kp st) (flat an.T x)=some s/\Sim P base M0 ios σ M w a s) (an.μ st) (x:=x0) ⟨hI0,s0,σ0,M0',hs0,hS0⟩ ?_
     rintro x a w ⟨hI,s,σ,M,hs,hS⟩
     have hb:=hround x hI
     unfold XwO at hb
     rw[hs]at hb
     refine ih _ _ _ _ σ M w a hS ?_ hb
     intro e σ' M' w' a' st' hS' hK
     cases e with
     | normal=>
       obtain⟨y,s',σ2,M2,⟨hIy,hlt⟩,hs',hS2⟩:=XiL hT hK hS'
       exact⟨y,⟨hIy,s',σ2,M2,hs',hS2⟩,hlt⟩
     | exit id=>exact hq _ _ _ _ _ _ hS' hK
     | ret=>exact hq _ _ _ _ _ _ hS' hK
   . exact h.elim
 | exit id=>intro p st K Q σ M w a hS hq h;exact wp_exit (hq (.exit id) _ _ _ _ _ hS h)
 | ret=>intro p st K Q σ M w a hS hq h;exact wp_ret (hq .ret _ _ _ _ _ hS h)
 | _=>intro p st K Q σ M w a hS hq h;exact h.elim
end
def X6i(tab:Tab)(st:St):List ResultVar->List TypeId->Option (List (Bool×List X02))
 | [],[]=>some []
 | .tmp t::rs,ty::tys=>match Xhx tab ty (st.get t) with
   | .val ag cs=>(X6i tab st rs tys).bind λl=>some ((ag,cs)::l)
   | _=>none
 | .cell ad ty::rs,_::tys=>match st.get ad,look ty tab with
   | .box k off,some ti=>match st.box k with
     | some cs=>if off+size ti.ty<=cs.length/\(ti.agg=true\/size ti.ty=1) then(X6i tab st rs tys).bind λl=>some ((ti.agg,(cs.drop off).take (size ti.ty))::l) else none
     | none=>none
   | _,_=>none
 | _,_=>none
def XgB:List (Bool×Nat)->List (Bool×List X02)->Bool
 | [],[]=>true
 | (ag,n)::s,(ag',cs)::l=>(ag==ag')&&(cs.length==n)&&XgB s l
 | _,_=>false
def cellsOf:List (Bool×List X02)->List X02
 | []=>[]
 | p::l=>p.2++cellsOf l
def XfI(rows:List (Nat×X0I)):List (Nat×TypeId)->Option (List X02)
 | []=>some []
 | (j,e)::l=>match look (Xf6 j) rows,XfI rows l with
   | some (.hot _ t x _ none _),some r=>some (.lst t x none::r)
   | _,_=>none
def XnO(con:Con)(st:St):Option (List X02):=match con.io with
 | true=>st.box 0
 | false=>some []
def XmK(con:Con):List Nat:=con.backA.map λp=>Xf6 p.1
def Xwx(tab:Tab)(con:Con)(rs:List ResultVar)(tys:List TypeId)(i:El con.I)(x:El con.A)(st:St):Prop:=
 match X6i tab st rs tys,XnO con st with
 | some l,some bc=>
   let fz:=X6z st.rows (X5O st.rows (X1V (X9J con.fresh 0 (cellsOf l))++X1V (X9J con.ownI 0 bc)))
   let rows:=fz++st.rows
   let cs:=Xbt rows (cellsOf l)
   let ib:=Xbt rows bc
   match Xeh rows cs,X9A rows cs con.fresh,Xeh rows ib,X9A rows ib con.ownI,XfI rows con.backA with
   | some cv,some ks,some iv,some iks,some bv=>match X2q con.R cv,X2q con.I iv,X2q con.B bv with
     | some (r,[]),some (i',[]),some (b',[])=>
       match XgB con.shR l&&X5I (fz.map (·.1))&&X5I (ks++(iks++XmK con))&&(X1V (X9J con.fresh 0 cs)).isEmpty&&(X1V (X9J con.ownI 0 ib)).isEmpty with
       | true=>con.Post i x (r,(i',b'))
       | false=>False
     | _,_,_=>False
   | _,_,_,_,_=>False
 | _,_=>False
def Xvt(tab:Tab)(con:Con)(rs:List ResultVar)(tys:List TypeId)(i:El con.I)(x:El con.A):Ex->St->Prop
 | .normal,st=>Xwx tab con rs tys i x st
 | .ret,st=>Xwx tab con rs tys i x st
 | .exit _,_=>False
def Xmk(tab:Tab)(own:List (Nat×TypeId))(cs:List X02):Bool:=own.all λp=>match cs[p.1]?,look p.2 tab with
 | some (.lst t _ _),some te=>decide (te.ty=t)&&decide (0<size t)
 | _,_=>false
def tyC:X02->Option Ty
 | .lst t _ _=>some t
 | _=>none
theorem Xla:∀(t:Ty) (x y:El t),(flat t x).map tyC=(flat t y).map tyC
 | .int _,_,_=>rfl
 | .bool,_,_=>rfl
 | .str,_,_=>rfl
 | .list _,_,_=>rfl
 | .unit,_,_=>rfl
 | .pair a b,x,y=>by simp[flat,Xla a x.1 y.1,Xla b x.2 y.2]
theorem XeW(hT:X1x P tab){own:List (Nat×TypeId)}{t:Ty}{x0:El t}(h:Xmk tab own (flat t x0)=true)(x:El t):XkY P own (flat t x):=λj e hj t' l tag hc=>by
 have h1:=Ya6.1 h (j,e) (X3I hj)
 simp only at h1
 have hty:((flat t x0).map tyC)[j]?=some (some t'):=by rw[Xla t x0 x,Ycd,hc];rfl
 rw[Ycd]at hty
 split at h1
 . rename_i t0 l0 tag0 te hc0 hte
   rw[hc0]at hty
   have e1:t0=t':=by simpa [tyC] using hty
   subst e1
   simp only[Yac,Yaj]at h1
   obtain⟨i,z,hi,hs,_⟩:=(hT e te hte).info
   exact⟨⟨i,hi,by rw[hs,h1.1]⟩,h1.2⟩
 . cases h1
def Xn3(tmps:Array Value):ResultVar->Sem Value
 | .tmp t=>pure (tmps.getD t undef)
 | .cell ad t=>do loadVar t (<-asAddr (tmps.getD ad undef))
theorem Xst(l:List Value):(if h:l.toArray.size=1 then l.toArray[0] else Value.tuple l.toArray)=XfF l:=by
 match l with
 | []=>rfl
 | [v]=>rfl
 | v::u::r=>
   rw[dif_neg (by simp)];rfl
theorem XpA(fn:Func)(tmps:Array Value):results fn tmps=(do let vs <-fn.results.toList.mapM (Xn3 tmps);pure (XfF vs)):=by
 have h:results fn tmps=(do
  let vs <-fn.results.mapM (Xn3 tmps)
  pure (if h:vs.size=1 then vs[0] else .tuple vs)):=by
  unfold results
  congr 1
 rw[h,Array.mapM_eq_mapM_toList,map_eq_pure_bind,bind_assoc]
 congr 1
 funext vs
 rw[pure_bind]
 congr 1
 exact Xst vs
theorem Xnt(hT:X1x P tab)(hS:Sim P base M0 ios σ M w a st):∀(rs:List ResultVar) (tys:List TypeId) (l:List (Bool×List X02)),X6i tab st rs tys=some l->
 ∃vs,(rs.mapM (Xn3 a.tmps)).run P w=.ok vs w/\X1Y (X0T σ st.rows M) vs l
 | [],[],l,h=>by
   simp only[X6i,Yag]at h;subst h
   exact⟨[],by simp,.nil⟩
 | [],_::_,l,h=>by simp[X6i]at h
 | .tmp t::rs,[],l,h=>by simp[X6i]at h
 | .cell ad ty::rs,[],l,h=>by simp[X6i]at h
 | .tmp t::rs,ty::tys,l,h=>by
   simp only[X6i]at h
   split at h
   . rename_i ag cs hc
     obtain⟨r,hr,e⟩:=Ybg.1 h
     cases e
     obtain⟨vs,h1,h2⟩:=Xnt hT hS rs tys r hr
     have h3:=Xbv (tab:=tab) ty (hS.slots t)
     rw[hc]at h3
     exact⟨a.tmps.getD t undef::vs,by simp only[Ycs,Xn3,pure_bind,Sem.run_bind,h1,Result.andThen_ok,Sem.run_pure],.cons h3 h2⟩
   . cases h
 | .cell ad ty::rs,_::tys,l,h=>by
   simp only[X6i]at h
   split at h
   . rename_i k off ti hg ht
     split at h
     . rename_i cs hk
       split at h
       . rename_i hc
         obtain⟨r,hr,e⟩:=Ybg.1 h
         cases e
         obtain⟨vs,h1,h2⟩:=Xnt hT hS rs tys r hr
         have h3:=hS.slots ad
         rw[hg]at h3
         obtain⟨arr,E,hh,hcs⟩:=hS.boxes k cs hk
         have h4:=(hcs.drop off).take (size ti.ty)
         obtain⟨v,hv,hvc,hva⟩:=X5v (w:=w) hT ht hc.2 ((⟨σ.box k,0,none⟩:Addr).add off) ((arr.toList.drop off).take (size ti.ty))
          (by rw[Yal,Yar,hcs.length];omega)
          (by
            intro j u hu
            rw[add_lit,add_lit,cell_of_row w (σ.box k) _ arr E (0,0) hh]
            rw[YaH]at hu
            split at hu
            . rw[Yby]at hu;rw[YaS];simpa using hu
            . cases hu)
          h4.one
         refine⟨v::vs,?_,.cons ⟨by rw[hvc];exact h4,hva⟩ h2⟩
         simp only[Ycs,Xn3,h3.1,asAddr,pure_bind,Sem.run_bind,hv,h1,Result.andThen_ok,Sem.run_pure]
       . cases h
     . cases h
   . cases h
theorem X1Y.flatten{vs:List Value}{l:List (Bool×List X02)}(h:X1Y (X0T σ st.rows M) vs l):X1Y (RdT σ st.rows M) (vs.flatMap λv=>v.cells.toList) (cellsOf l):=by
 induction h with
 | nil=>exact .nil
 | cons hx _ ih=>rw[YcL];exact hx.1.append ih
theorem XrH{vs:List Value}{l:List (Bool×List X02)}(h:X1Y (X0T σ st.rows M) vs l):∀{shs:List (Bool×Nat)},XgB shs l=true->Xef shs vs (vs.flatMap λv=>v.cells.toList):=by
 induction h with
 | nil=>intro shs hs;cases shs with
   | nil=>exact .nil
   | cons sh shs=>simp[XgB]at hs
 | @cons v p vs l hx hr ih=>
   intro shs hs
   cases shs with
   | nil=>simp[XgB]at hs
   | cons sh shs=>
     obtain⟨ag,n⟩:=sh
     obtain⟨ag',cs⟩:=p
     simp only[XgB,Yac,YbS]at hs
     rw[YcL]
     refine .cons ?_ ?_ (ih hs.2)
     . have:=hx.1.length;simp at this;omega
     . rw[hs.1.1];exact hx.2
theorem XkJ{rows:List (Nat×X0I)}{cs:List X02}{own:List (Nat×TypeId)}{ks:List Nat}(h:X9A rows cs own=some ks):∀r∈ks,∃e t l ver z,look r rows=some (.hot e t l ver none z):=λr hr=>by
 obtain⟨a1,a2⟩:=X5K h
 obtain⟨j,e,t,hm,hc⟩:=a2 r hr
 obtain⟨c,y,hc',hh,_⟩:=a1 j e hm
 rw[hc]at hc';cases hc'
 obtain⟨e',l,ver,z,hl⟩:=Xm9 hh
 exact⟨_,_,_,_,_,hl⟩
theorem XfT{rows:List (Nat×X0I)}:∀{own:List (Nat×TypeId)} {bv:List X02},XfI rows own=some bv->bv.length=own.length/\bv.map unT=bv/\∀(k j:Nat) (e:TypeId),own[k]?=some (j,e)->∃e0 t l ver z,bv[k]?=some (.lst t l none)/\look (Xf6 j) rows=some (.hot e0 t l ver none z)
 | [],bv,h=>by simp only[XfI,Yag]at h;subst h;exact⟨rfl,rfl,λk j e hk=>by simp at hk⟩
 | (j,e)::own,bv,h=>by
   simp only[XfI]at h
   split at h
   . rename_i e0 t x ver z r hl hr
     cases h
     obtain⟨h1,h2,h3⟩:=XfT hr
     refine⟨by simp[h1],by simp[unT,h2],λk j' e' hk=>?_⟩
     cases k with
     | zero=>simp at hk;obtain⟨rfl,rfl⟩:=hk;exact⟨e0,t,x,ver,z,by simp,hl⟩
     | succ k=>simp at hk;obtain⟨e1,t1,l1,v1,z1,q1,q2⟩:=h3 k j' e' hk;exact⟨e1,t1,l1,v1,z1,by simpa using q1,q2⟩
   . cases h
theorem Xmo{own:List (Nat×TypeId)}(f:Nat->Nat):X9z own (λj=>σ.foot (f j))=X4T σ (own.map λp=>f p.1):=by
 unfold X9z X4T
 rw[Ydp];rfl
theorem Xe3{fz:List (Nat×X0I)}:∀(rs:List ResultVar) (tys:List TypeId),X6i tab (X5X fz st) rs tys=X6i tab st rs tys
 | [],[]=>rfl
 | [],_::_=>rfl
 | .tmp t::rs,[]=>rfl
 | .cell ad ty::rs,[]=>rfl
 | .tmp t::rs,ty::tys=>by
   simp only[X6i,Xe3 rs tys]
   rfl
 | .cell ad ty::rs,t::tys=>by
   simp only[X6i,Xe3 rs tys]
   rfl
theorem Xwm(hT:X1x P tab){con:Con}{fn:Func}{tys:List TypeId}{i:El con.I}{x:El con.A}{acs:List Value}(hpins:∀j e,(j,e)∈con.backA->∃u,acs[j]?=some u/\(Xf6 j,u)∈ios.rows)(hio:con.io=ios.box.isSome)(hnew:con.newR=false)(hR:Xmk tab con.fresh (flat con.R (dfl con.R))=true)(hI:Xmk tab con.ownI (flat con.I (dfl con.I))=true)(hS:Sim P base M0 ios σ M w' a st)(hK:Xwx tab con fn.results.toList tys i x st):a.defers=[]/\∃v,(results fn a.tmps).run P w'=.ok v w'/\Ret P con base M0 ios.blk ios.box acs i x (.returned v) w':=by
 refine⟨hS.defers,?_⟩
 unfold Xwx at hK
 split at hK
 case h_2=>exact hK.elim
 rename_i l bc hl hbc
 simp only at hK
 have hmem:∀p∈X6z st.rows (X5O st.rows (X1V (X9J con.fresh 0 (cellsOf l))++X1V (X9J con.ownI 0 bc))),∃e t l ver z,p.2=.frz e t l ver z/\look p.1 st.rows=some (.hot e t l ver none z):=λp hp=>XiM hp
 generalize X6z st.rows (X5O st.rows (X1V (X9J con.fresh 0 (cellsOf l))++X1V (X9J con.ownI 0 bc)))=fz at hK hmem
 split at hK
 case h_2=>exact hK.elim
 rename_i cv ks iv iks bv e1 e2 e3 e4 e5
 split at hK
 case h_2=>exact hK.elim
 rename_i r i' b' u1 u2 u3
 split at hK
 case h_2=>exact hK.elim
 rename_i hc
 simp only[Yac,YcY]at hc
 obtain⟨⟨⟨⟨c1,c2⟩,c3⟩,c4⟩,c5⟩:=hc
 obtain⟨M2,hS2⟩:=hS.freezes hmem (X80 c2)
 obtain⟨vs,hv1,hv2⟩:=Xnt (st:=X5X fz st) hT hS2 _ _ _ ((Xe3 _ _).trans hl)
 refine⟨XfF vs,?_,?_⟩
 . rw[XpA]
   simp only[Sem.run_bind,hv1,Result.andThen_ok,Sem.run_pure]
 have hrows:∀r rv,look r (fz++st.rows)=some rv->look r (X5X fz st).rows=some rv:=λ_ _ h=>h
 have hrd:=XcX hS2 hrows hv2.flatten
 have hB:=XfT e5
 have hhot:∀r∈ks++(iks++XmK con),X1B r (X5X fz st).rows:=λr hr=>by
  rcases Yaf.1 hr with h | h
  . obtain⟨e,t,l,ver,z,hl⟩:=XkJ e2 r h;exact⟨_,_,_,_,_,_,hl⟩
  . rcases Yaf.1 h with h | h
    . obtain⟨e,t,l,ver,z,hl⟩:=XkJ e4 r h;exact⟨_,_,_,_,_,_,hl⟩
    . obtain⟨p,hp,rfl⟩:=YaM.1 h
      obtain⟨j,e⟩:=p
      obtain⟨k,hk⟩:=Yc4 hp
      obtain⟨e0,t,l,ver,z,_,q⟩:=hB.2.2 k j e hk
      exact⟨_,_,_,_,_,_,q⟩
 have hnd:=Xbz hS2 (X80 c3) hhot
 rw[X5F,X5F]at hnd
 have hcvR:=Xgo e1 u1
 have hivI:=Xgo e3 u2
 have hbvB:bv=flat con.B b':=by
  have:=X5n _ _ _ _ u3
  rw[hB.2.1]at this;simpa using this
 obtain⟨a1,_⟩:=X5K e2
 obtain⟨b1,_⟩:=X5K e4
 have hblk:∀g,(∃r∈ks++(iks++XmK con),g∈σ.foot r)->(base.heap.size<=g\/(g∈ios.blk/\ios.box≠some g))/\g<w'.heap.size/\∀ad,ad.block=g->M2 ad=none:=λg ⟨r,hr,hg⟩=>by
  have hh:=hhot r hr
  refine⟨?_,hS2.hot.lt r hh g hg,hS2.hot.noM r hh g hg⟩
  rcases hS2.hot.base r hh g hg with h | h
  . exact .inl h
  . by_cases hb:ios.box=some g
    ·
     have hbx:(X5X fz st).box 0=some bc:=by
      have:con.io=true:=by rw[hio,hb];rfl
      unfold XnO at hbc
      rw[this]at hbc
      exact hbc
     have:=hS2.hot.noBox r hh 0 (by rw[hbx];rfl)
     rw[hS2.pin g hb]at this
     exact absurd hg this
    . exact .inr ⟨h,hb⟩
 refine⟨vs,(r,(i',b')),vs.flatMap λv=>v.cells.toList,M2,XaA σ (Xbt (fz++st.rows) (cellsOf l)),XaA σ (Xbt (fz++st.rows) bc),λj=>σ.foot (Xf6 j),[],rfl,hK,hS2.le,hS2.mem,hS2.fr,hS2.old,?_,?_,?_,?_,XeW hT hR _,XeW hT hI _,?_,?_⟩
 . rw[hnew]
   exact⟨rfl,XrH hv2 c1⟩
 . rw[<-hcvR]
   exact Xln hS2 (Mem.le_refl _) hrows hrd e1 (λj e hm=>by obtain⟨c,y,k1,k2,_⟩:=a1 j e hm;exact⟨c,y,k1,k2⟩) (λr hb=>by rw[c4]at hb;cases hb)
 . intro g hg
   have hio':con.io=true:=by rw[hio,hg];rfl
   have hbx:(X5X fz st).box 0=some bc:=by
    unfold XnO at hbc
    rw[hio']at hbc
    exact hbc
   obtain⟨arr,E,h1,h2⟩:=hS2.boxes 0 bc hbx
   rw[hS2.pin g hg]at h1
   refine⟨arr,E,h1,?_,λad had=>hS2.boxM 0 (by rw[hbx];rfl) ad (by rw[had,hS2.pin g hg])⟩
   rw[<-hivI]
   exact Xln hS2 (Mem.le_refl _) hrows (XcX hS2 hrows h2) e3 (λj e hm=>by obtain⟨c,y,k1,k2,_⟩:=b1 j e hm;exact⟨c,y,k1,k2⟩) (λr hb=>by rw[c5]at hb;cases hb)
 . refine⟨by rw[<-hbvB];exact hB.1,λk j e hk=>?_⟩
   obtain⟨e0,t,x',ver,z,q1,q2⟩:=hB.2.2 k j e hk
   obtain⟨u,hu,hp⟩:=hpins j e (YbA hk)
   have hrow:σ.row (Xf6 j)=u:=hS2.pins (Xf6 j,u) hp (by show(look (Xf6 j) (fz++st.rows)).isSome=true;rw[q2];rfl)
   refine⟨u,t,x',hu,by rw[<-hbvB];exact q1,?_⟩
   rw[<-hrow]
   exact(hS2.hotAt q2).own
 . rw[X5N e2]
   have hbk:X9z con.backA (λj=>σ.foot (Xf6 j))=X4T σ (XmK con):=Xmo Xf6
   rw[hbk]
   cases hb:ios.box with
   | none=>
     have h2:(X4T σ ks++X4T σ (XmK con)).Nodup:=hnd.sublist (YcD (List.sublist_append_right _ _) _)
     simpa using h2
   | some g=>
     show([]++(X4T σ ks++(X9z con.ownI (XaA σ (Xbt (fz++st.rows) bc))++X4T σ (XmK con)))).Nodup
     rw[X5N e4]
     simpa using hnd
 . intro g hg
   refine hblk g ?_
   rw[X5N e2]at hg
   have hbk:X9z con.backA (λj=>σ.foot (Xf6 j))=X4T σ (XmK con):=Xmo Xf6
   rw[hbk]at hg
   have hg2:g∈X4T σ (ks++(iks++XmK con)):=by
    rw[X5F,X5F]
    simp only[YaW]at hg
    rcases Yaf.1 hg with h | h
    . exact Yaf.2 (.inl h)
    . refine Yaf.2 (.inr ?_)
      rcases Yaf.1 h with h | h
      . cases hb:ios.box with
        | none=>rw[hb]at h;cases h
        | some g'=>
          rw[hb]at h
          have h':g∈X9z con.ownI (XaA σ (Xbt (fz++st.rows) bc)):=h
          rw[X5N e4]at h'
          exact Yaf.2 (.inl h')
      . exact Yaf.2 (.inr h)
   obtain⟨r,hr,hg3⟩:=X5Z hg2
   exact⟨r,hr,hg3⟩
def XgI:List Nat->Nat
 | []=>0
 | n::ns=>n+XgI ns
def XsH:List Nat->List X02->List Cap
 | [],_=>[]
 | n::ns,cs=>.ptr (cs.take n)::XsH ns (cs.drop n)
def X47:Nat->List Sh->List X02->List (Nat×Sv)
 | _,[],_=>[]
 | i,.one::shs,cs=>(i,.val false (cs.take 1))::X47 (i+1) shs (cs.drop 1)
 | i,.agg n::shs,cs=>(i,.val true (cs.take n))::X47 (i+1) shs (cs.drop n)
 | i,.ptr n::shs,cs=>(i,.ptr (cs.take n))::X47 (i+1) shs (cs.drop n)
 | i,.clo f ns::shs,cs=>(i,.fn f [] (XsH ns (cs.take (XgI ns))))::X47 (i+1) shs (cs.drop (XgI ns))
 | i,.pptr n::shs,cs=>(i,.pptr (cs.take n))::X47 (i+1) shs (cs.drop n)
 | i,.clop f n::shs,cs=>(i,.fn f [] [.pptr (cs.take n)])::X47 (i+1) shs (cs.drop n)
 | i,.self f false::shs,cs=>(i,.fn f [.box 0 0] [])::X47 (i+1) shs (cs.drop 0)
 | i,.self f true::shs,cs=>(i,.fn f [] [.pp 0 0])::X47 (i+1) shs (cs.drop 0)
def Xmt(slots:List (Nat×Sv)):List Nat:=(slots.map (·.1)).filter λi=>match look i slots with
 | some (.val _ _)=>true
 | _=>false
def XhE(con:Con)(x:El con.A):List X02:=XdW Xf6 (con.ownA++con.backA) 0 (flat con.A x)
def XaI(con:Con)(x:El con.A):List (Nat×X0I):=X6d Xf6 (con.ownA++con.backA) 0 (flat con.A x)
def Xhw(con:Con)(nt:Nat)(i:El con.I)(x:El con.A):St:=match con.io with
 | true=>{nt,slots:=(0,.box 0 0)::X47 1 con.shA (XhE con x),boxes:=[(0,XdW XkQ con.ownI 0 (flat con.I i))],rows:=XaI con x++X6d XkQ con.ownI 0 (flat con.I i),olds:=Xmt ((0,.box 0 0)::X47 1 con.shA (XhE con x))}
 | false=>{nt,slots:=X47 0 con.shA (XhE con x),boxes:=[],rows:=XaI con x,olds:=Xmt (X47 0 con.shA (XhE con x))}
theorem Xty{ns:List Nat}{vs cs:List Value}(h:Xfv M ns vs cs):cs.length=XgI ns:=by
 induction h with
 | nil=>rfl
 | cons hx _ ih=>rw[Yab,hx.1,ih];rfl
theorem Xvg{rows:List (Nat×X0I)}{boxes:List (Nat×List X02)}{ns:List Nat}{vs cs:List Value}(h:Xfv M ns vs cs):∀{cvs:List X02},X1Y (RdT σ rows M) cs cvs->X1Y (XcV σ rows boxes M) vs (XsH ns cvs):=by
 induction h with
 | nil=>intro cvs _;exact .nil
 | @cons n v c ns vs cs hx hr ih=>
   intro cvs hc
   obtain⟨hn,ad,hv,hM⟩:=hx
   have hc1:X1Y (RdT σ rows M) c (cvs.take n):=by have:=hc.take n;rw[Yco hn]at this;exact this
   have hc2:X1Y (RdT σ rows M) cs (cvs.drop n):=by have:=hc.drop n;rw[Yc3 hn]at this;exact this
   refine .cons ⟨ad,hv,λj cv hj=>?_⟩ (ih hc2)
   obtain⟨u,hu,hr⟩:=hc1.get hj
   exact⟨u,hM j u hu,hr⟩
theorem XmP{rows:List (Nat×X0I)}{n:Nat}{u:Value}{c:List Value}{cvs:List X02}(hx:Xn0 M n u c)(hc:X1Y (RdT σ rows M) c cvs):XcU σ rows M u cvs:=by
 obtain⟨hn,ad,hv,hM⟩:=hx
 refine⟨ad,hv,λj cv hj=>?_⟩
 obtain⟨u,hu,hr⟩:=hc.get hj
 exact⟨u,hM j u hu,hr⟩
theorem XnI{σ:Sg}{rows:List (Nat×X0I)}{boxes:List (Nat×List X02)}{shs:List Sh}{vs cs:List Value}{b:Option Nat}(hb:∀g,b=some g->σ.box 0=g/\(look 0 boxes).isSome=true)(h:XdZ M b shs vs cs):
 ∀{cvs:List X02} (k:Nat),X1Y (RdT σ rows M) cs cvs->∀i,match look i (X47 k shs cvs) with
  | some sv=>k<=i/\i - k<vs.length/\X3T σ rows boxes M (vs.getD (i - k) undef) sv
  | none=>True:=by
 induction h with
 | nil=>intro cvs k _ i;simp[X47,look]
 | @cons sh v c shs vs cs hx hr ih=>
   intro cvs k hc i
   have hlen:c.length<=cvs.length:=by have:=hc.length;simp at this;omega
   have hc1:X1Y (RdT σ rows M) c (cvs.take c.length):=by have:=hc.take c.length;simpa using this
   have hc2:X1Y (RdT σ rows M) cs (cvs.drop c.length):=by have:=hc.drop c.length;simpa using this
   have step:∀(n:Nat) (sv:Sv),c.length=n->X3T σ rows boxes M v sv->match look i ((k,sv)::X47 (k+1) shs (cvs.drop n)) with
    | some sv=>k<=i/\i - k<(v::vs).length/\X3T σ rows boxes M ((v::vs).getD (i - k) undef) sv
    | none=>True:=by
    intro n sv hn hsv
    subst hn
    rw[X07]
    by_cases hki:k=i
    . subst hki;simp;exact hsv
    . rw[Yae hki]
      have:=ih (k+1) hc2 i
      split at this
      . rename_i sv' hl
        obtain⟨h1,h2,h3⟩:=this
        refine⟨by omega,by simp;omega,?_⟩
        rw[show i - k=(i - (k+1))+1 by omega]
        simpa using h3
      . trivial
   cases sh with
   | one=>
     obtain⟨rfl,hag⟩:=hx
     refine step 1 _ rfl ⟨?_,hag⟩
     have:v.cells=#[v]:=by cases v<;>first | rfl | (simp[Xaz]at hag)
     rw[this];exact hc1
   | agg n=>
     obtain⟨hn,vs',rfl,rfl⟩:=hx
     exact step n _ hn ⟨by rw[hn]at hc1;exact hc1,rfl⟩
   | ptr n=>
     obtain⟨hn,ad,rfl,hM⟩:=hx
     refine step n _ hn ⟨ad,rfl,λj cv hj=>?_⟩
     rw[hn]at hc1
     obtain⟨u,hu,hr⟩:=hc1.get hj
     exact⟨u,hM j u hu,hr⟩
   | clo f ns=>
     obtain⟨vb,rfl,hcaps⟩:=hx
     have hn:c.length=XgI ns:=Xty hcaps
     refine step (XgI ns) _ hn ⟨#[],vb,rfl,.nil,?_⟩
     rw[hn]at hc1
     exact Xvg (σ:=σ) (rows:=rows) (boxes:=boxes) hcaps hc1
   | pptr n=>
     obtain⟨ad,u,rfl,hu,hp⟩:=hx
     have hn:=hp.1
     rw[hn]at hc1
     exact step n _ hn ⟨ad,u,rfl,hu,XmP hp hc1⟩
   | clop f n=>
     obtain⟨x,rfl,ad,u,rfl,hu,hp⟩:=hx
     have hn:=hp.1
     rw[hn]at hc1
     exact step n _ hn ⟨#[],_,rfl,.nil,.cons ⟨ad,u,rfl,hu,XmP hp hc1⟩ .nil⟩
   | self f m=>
     obtain⟨rfl,hs⟩:=hx
     cases m with
     | false=>
       cases hbb:b with
       | none=>rw[hbb]at hs;exact hs.elim
       | some g=>
         rw[hbb]at hs
         obtain⟨q1,q2⟩:=hb g hbb
         refine step 0 _ rfl ⟨_,#[],hs,.cons ⟨?_,q2⟩ .nil,.nil⟩
         rw[q1];simp[Addr.add]
     | true=>
       cases hbb:b with
       | none=>rw[hbb]at hs;exact hs.elim
       | some g=>
         rw[hbb]at hs
         obtain⟨q1,q2⟩:=hb g hbb
         obtain⟨ad,e1,e2⟩:=hs
         refine step 0 _ rfl ⟨#[],_,e1,.nil,.cons ⟨ad,rfl,?_,q2⟩ .nil⟩
         rw[e2,q1];simp[Addr.add]
def Wf:(t:Ty)->El t->Prop
 | .list t,l=>List.length l<=maxLen/\∀x,x∈(show List (El t) from l)->Wf t x
 | .pair a b,x=>Wf a x.1/\Wf b x.2
 | _,_=>True
theorem RdC.wf:∀(t:Ty) (cs:List Value) (x:El t),RdC M t cs x->Wf t x
 | .int _,_,_,_=>trivial
 | .bool,_,_,_=>trivial
 | .str,_,_,_=>trivial
 | .unit,_,_,_=>trivial
 | .pair a b,_,_,⟨_,_,_,h1,h2⟩=>⟨RdC.wf a _ _ h1,RdC.wf b _ _ h2⟩
 | .list t,_,l,⟨_,_,_,h1,h2,h⟩=>by
   refine⟨Ya5 h1 h2,λx hx=>?_⟩
   obtain⟨i,hi,e⟩:=YaQ hx
   obtain⟨_,vs,_,_,_,h4⟩:=h i hi
   have:=RdC.wf t vs _ h4
   rw[<-e];exact this
theorem XnC{b:Option Nat}{shs:List Sh}{vs cs:List Value}(h:XdZ M b shs vs cs):vs.length=shs.length:=by
 induction h with
 | nil=>rfl
 | cons _ _ ih=>simp[ih]
theorem Xov(args:List Value)(n i:Nat)(hi:i<args.length):((args.toArray++Array.replicate n undef).getD i undef)=args.getD i undef:=by
 rw[Ybd,Yap,Array.getElem?_append_left (by simpa using hi)]
 simp
def conB(tab:Tab)(con:Con)(nt:Nat):Bool:=
 Xmk tab (con.ownA++con.backA) (flat con.A (dfl con.A))&&Xmk tab con.ownI (flat con.I (dfl con.I))&&Xmk tab con.fresh (flat con.R (dfl con.R))&&!con.newR&&decide (size con.A<=4096)&&
 decide (con.shA.length+(match con.io with | true=>1 | false=>0)<=nt)
theorem XlL{key:Nat->Nat}(hinj:∀i j,key i=key j->i=j){fr:List (Nat×TypeId)}{F:Nat->List Nat}:∀{vs:List Value} {cs:List X02} (i:Nat),((mkD key fr F i vs cs).map (·.key)).Nodup
 | [],_,i=>Ybf
 | _::_,[],i=>Ybf
 | u::vs,c::cs,i=>by
   have ih:=XlL hinj (fr:=fr) (F:=F) (vs:=vs) (cs:=cs) (i+1)
   cases c with
   | lst t l tag=>
     simp only[mkD]
     cases hl:look i fr with
     | none=>exact ih
     | some e=>
       simp only[Yaq,YaD]
       refine⟨λhm=>?_,ih⟩
       obtain⟨x,hx,e1⟩:=YaM.1 hm
       obtain⟨j,_,_,_,_,h4,_⟩:=Xl6 (i+1) hx
       rw[h4]at e1
       have:=hinj _ _ e1
       omega
   | _=>exact ih
theorem Xot(i j:Nat)(h:Xf6 i=Xf6 j):i=j:=by unfold Xf6 at h;omega
theorem XtA(i j:Nat)(h:XkQ i=XkQ j):i=j:=by unfold XkQ at h;omega
theorem Xtk{M:Mem}{own:List (Nat×TypeId)}{vs:List Value}{cs:List X02}{F:Nat->List Nat}(h:Xff w M own vs cs F)(hM:∀ad v,M ad=some v->w.cell? ad=some v)(hn:(X9z own F).Nodup):∀(j:Nat) (u:Value) (c:X02),vs[j]?=some u->cs[j]?=some c->RdV (Xhp w) u c:=λj u c hu hc=>by
 cases hl:look j own with
 | none=>exact(h.rd j u c hl hu hc).mono hM
 | some e=>
   obtain⟨u',t,l,k1,k2,k3⟩:=h.own j e hl
   rw[hu]at k1;cases k1
   rw[hc]at k2;cases k2
   exact X4Q.rdTop k3 ((Xe6 hn).1 (j,e) (X3I hl)) λad u _ _ hu=>hu
theorem X1Y.of_get{α β:Type}{R:α->β->Prop}:∀{as:List α} {bs:List β},as.length=bs.length->(∀(j:Nat) a b,as[j]?=some a->bs[j]?=some b->R a b)->X1Y R as bs
 | [],[],_,_=>.nil
 | [],_::_,h,_=>by simp at h
 | _::_,[],h,_=>by simp at h
 | a::as,b::bs,h,hr=>.cons (hr 0 a b (by simp) (by simp)) (X1Y.of_get (by simpa using h) λj x y hx hy=>hr (j+1) x y (by simpa using hx) (by simpa using hy))
theorem Xp0{M:Mem}{own:List (Nat×TypeId)}{vs:List Value}{t:Ty}{x:El t}{F:Nat->List Nat}(h:Xff w M own vs (flat t x) F)(hM:∀ad v,M ad=some v->w.cell? ad=some v)(hn:(X9z own F).Nodup):Wf t x:=
 RdC.wf t vs x (XiG t vs x (X1Y.of_get h.len λj u c hu hc=>Xtk h hM hn j u c hu hc))
def Xxi:Option Nat->List Value
 | some g=>[.pointer (some ⟨g,0,none⟩)]
 | none=>[]
def XuP(n:Nat):Option Nat->List (Nat×List X02)
 | some _=>[(0,XjM n)]
 | none=>[]
def Xur(con:Con)(FI:Nat->List Nat)(ivs:List Value)(i:El con.I):Option Nat->List XfE
 | some _=>mkD XkQ con.ownI FI 0 ivs (flat con.I i)
 | none=>[]
def XwZ(K:St->Prop):Ex->St->Prop
 | .normal,st=>K st
 | .ret,st=>K st
 | .exit _,_=>False
theorem Xrc{con:Con}(K:El con.I->El con.A->St->Prop)(L:(i:El con.I)->El con.A->Nat->Option X0e){n:FuncId}{fn:Func}{c:Code}(hm:P.follows .mixedOrders=true)(hT:X1x P tab)(hΓ:Xfz P Γ)(hf:P.funcs[n]?=some fn)(hb:fn.body=some c)(hA:Xmk tab (con.ownA++con.backA) (flat con.A (dfl con.A))=true)(hI:Xmk tab con.ownI (flat con.I (dfl con.I))=true)(hsz:size con.A<=4096)(hnt:con.shA.length+(match con.io with | true=>1 | false=>0)<=fn.ntmps)(hfin:∀(ios:Ios) (base:World) (M0:Mem) (acs:List Value) (i:El con.I) (x:El con.A) (σ:Sg) (M:Mem) (w':World) (a:Act) (st:St),(∀j e,(j,e)∈con.backA->∃u,acs[j]?=some u/\(Xf6 j,u)∈ios.rows)->con.io=ios.box.isSome->
   (con.io=false->con.ownA=[]->con.backA=[]->ios.blk=[])->Sim P base M0 ios σ M w' a st->K i x st->a.defers=[]/\∃v,(results fn a.tmps).run P w'=.ok v w'/\Ret P con base M0 ios.blk ios.box acs i x (.returned v) w')(h:∀i x,con.pre i x->(con.io=true->Wf con.I i)->Wf con.A x->vc tab Γ (L i x) c 1 (Xhw con fn.ntmps i x) (XwZ (K i x))):X0g P n con:=by
 intro w M vs cs i x F FI b hM hargs hown hio hbx hnd hnone hpre
 have hlen:=XnC hargs
 have hcl:cs.length=size con.A:=by rw[hown.len,X3e]
 obtain⟨nd1,nd2,nd3⟩:=YaF.1 hnd
 have ndI:∀g,b=some g->(X9z con.ownI FI).Nodup/\g∉X9z con.ownI FI:=λg hg=>by
  rw[hg]at nd1
  have:=YaD.1 nd1
  exact⟨this.2,this.1⟩
 have inA:∀g∈X9z (con.ownA++con.backA) F,g∈X5V con b F FI:=λg hg=>Yaf.2 (.inr hg)
 have inI:∀g0,b=some g0->∀g∈X9z con.ownI FI,g∈X5V con b F FI:=λg0 hg0 g hg=>Yaf.2 (.inl (by rw[hg0];exact Yan _ hg))
 have inB:∀g,b=some g->g∈X5V con b F FI:=λg hg=>Yaf.2 (.inl (by rw[hg];exact Ycn))
 obtain⟨ivs,hiv⟩:∃ivs:List Value,∀g,b=some g->∃arr E,w.heap[g]?=some (.cells arr E (0,0))/\arr.toList=ivs/\Xff w M con.ownI ivs (flat con.I i) FI:=by
  cases b with
  | none=>exact⟨[],λg hg=>by cases hg⟩
  | some g=>
    obtain⟨arr,E,h1,h2⟩:=hbx g rfl
    exact⟨arr.toList,λg' hg'=>by cases hg';exact⟨arr,E,h1,rfl,h2⟩⟩
 let ios:Ios:={blk:=X5V con b F FI,box:=b,rows:=con.backA.map λp=>(Xf6 p.1,cs.getD p.1 undef),even:=λp hp=>by obtain⟨q,_,rfl⟩:=YaM.1 hp;unfold Xf6;omega}
 let pre:List Value:=Xxi b
 have hpl:pre.length=(match con.io with | true=>1 | false=>0):=by
  simp only[pre];rw[hio];cases b<;>rfl
 have hle:(pre++vs).length<=fn.ntmps:=by rw[Yab,hpl,hlen];omega
 show Calls P n (pre++vs).toArray w _
 refine calls_of_wp hf hb ?_
 let σ0:Sg:=⟨λ_=>b.getD 0,λ_=>undef,λ_=>[],λ_ _=>none⟩
 let st0:St:={nt:=fn.ntmps,slots:=[],boxes:=XuP ivs.length b,rows:=[]}
 have box0:∀k,(st0.box k).isSome=true->k=0/\∃g,b=some g:=λk hk=>by
  cases hb':b with
  | none=>simp only[St.box,st0,hb',XuP,look]at hk;cases hk
  | some g=>
    simp only[St.box,st0,hb',XuP,look]at hk
    split at hk
    . rename_i e;exact⟨e.symm,g,rfl⟩
    . cases hk
 have hS0:Sim P w M ios σ0 M w {tmps:=(pre++vs).toArray++Array.replicate (fn.ntmps - (pre++vs).toArray.size) undef,defers:=[]} st0:={
  mem:=hM
  nt:=by simp at hle ⊢;simp only[st0];omega
  slots:=λi=>trivial
  boxes:=λk ds hk=>by
   obtain⟨e,g,hg⟩:=box0 k (by rw[hk];rfl)
   subst e
   obtain⟨arr,E,h1,h2,h3⟩:=hiv g hg
   have hd:ds=XjM ivs.length:=by
    simp only[St.box,st0,hg,XuP,look,Ycc,Yag]at hk;exact hk.symm
   subst hd
   refine⟨arr,E,by show w.heap[b.getD 0]?=_;rw[hg];exact h1,?_⟩
   rw[h2]
   exact Xi2 h3.one
  boxM:=λk hk ad had=>by
   obtain⟨e,g,hg⟩:=box0 k hk
   exact hnone g (inB g hg) ad (by rw[had];show b.getD 0=g;rw[hg];rfl)
  boxInj:=λk k' h1 h2 _=>by rw[(box0 k h1).1,(box0 k' h2).1]
  boxBase:=λk hk=>by
   obtain⟨e,g,hg⟩:=box0 k hk
   exact .inr (by show b.getD 0∈X5V con b F FI;have:=inB g hg;rw[hg]at this ⊢;exact this)
  rows:=λr e he=>by cases he
  rowBox:=λr k hr=>by cases hr
  rowInj:=λr r' hr=>by cases hr
  hot:={
   ok:=λr e t l ver hole z hl=>by cases hl
   base:=λr ⟨_,_,_,_,_,_,hl⟩=>by cases hl
   noM:=λr ⟨_,_,_,_,_,_,hl⟩=>by cases hl
   noBox:=λr ⟨_,_,_,_,_,_,hl⟩=>by cases hl
   noRow:=λr ⟨_,_,_,_,_,_,hl⟩=>by cases hl
   apart:=λr r' ⟨_,_,_,_,_,_,hl⟩=>by cases hl
   lt:=λr ⟨_,_,_,_,_,_,hl⟩=>by cases hl
   frz:=λr e t l ver z hl=>by cases hl}
  fr:=Fr.refl _ _
  defers:=rfl
  old:=λad _ _ h=>h
  le:=Mem.le_refl _
  pin:=λg hg=>by show b.getD 0=g;rw[show b=some g from hg];rfl
  pins:=λp hp hs=>by cases hs
  olds:=λj hj=>by cases hj}
 have tag0:∀r,noTag r st0=true:=λr=>by
  unfold noTag
  have hu:∀n,Xch (XjM n)=[]:=λn=>by
   unfold XjM
   induction n with
   | zero=>rfl
   | succ n ih=>rw[Ybv];exact ih
  have:X6a r st0.boxes=true:=by
   cases hb':b with
   | none=>simp only[st0,hb',XuP];rfl
   | some g=>
     simp only[st0,hb',XuP,X6a,Xn2,hu]
     rfl
  rw[this];rfl
 have hDA:=λy hy=>Xp1 (key:=Xf6) (x:=y) hown (XeW hT hA x) nd2 hy
 let D2:List XfE:=Xur con FI ivs i b
 have hDI:∀y∈D2,X4Q w y.t y.v y.l y.fo/\(∃i,P.info? y.e=some i/\i.size=size y.t)/\0<size y.t/\y.fo.Nodup/\(∃j,y.key=XkQ j/\(look j con.ownI).isSome=true/\y.fo=FI j)/\∃g,b=some g:=λy hy=>by
  cases hb':b with
  | none=>simp only[D2,hb',Xur]at hy;cases hy
  | some g=>
    simp only[D2,hb',Xur]at hy
    obtain⟨arr,E,_,_,h3⟩:=hiv g hb'
    obtain⟨k1,k2,k3,k4,k5⟩:=Xp1 (key:=XkQ) h3 (XeW hT hI i) (ndI g hb').1 hy
    exact⟨k1,k2,k3,k4,k5,g,rfl⟩
 have idx:∀y∈mkD Xf6 (con.ownA++con.backA) F 0 cs (flat con.A x),∃j,y.key=Xf6 j/\j<4096/\cs[j]?=some y.v:=λy hy=>by
  obtain⟨j,tag,h1,h2,h3,h4,h5⟩:=Xl6 0 hy
  rw[YaS]at h4
  have:=(YaZ.1 h1).1
  exact⟨j,h4,by omega,h1⟩
 have free:∀g∈X5V con b F FI,b≠some g->g<w.heap.size->XlW w ios σ0 M w st0 g:=λg hg hne hlt=>{
  base:=.inr hg
  noM:=hnone g hg
  noBox:=λk hk e=>by
   obtain⟨_,g',hg'⟩:=box0 k hk
   have:b.getD 0=g:=e
   rw[hg']at this hne
   exact hne (by rw[<-this];rfl)
  noRow:=λr hr=>by cases hr
  noHot:=λr ⟨_,_,_,_,_,_,hl⟩=>by cases hl
  lt:=hlt}
 have notBox:∀g0,b=some g0->g0∉X9z (con.ownA++con.backA) F:=λg0 hg0 hm=>nd3 g0 (by rw[hg0];exact Ycn) g0 hm rfl
 obtain⟨σ1,hS1,r1,r2,r3⟩:=Sim.addHotsP (mkD Xf6 (con.ownA++con.backA) F 0 cs (flat con.A x)++D2) hS0 (λy hy=>by
  have pinA:∀q∈ios.rows,q.1=y.key->y.v=q.2:=λq hq e=>by
   obtain⟨p,hp,rfl⟩:=YaM.1 hq
   obtain⟨j,e'⟩:=p
   have hp2:∃u,cs[j]?=some u:=by
    have:(look j (con.ownA++con.backA)).isSome=true:=XgG.2 ⟨e',Yaf.2 (.inr hp)⟩
    obtain⟨e2,he2⟩:=Yao.1 this
    obtain⟨u,_,_,hu,_⟩:=hown.own j e2 he2
    exact⟨u,hu⟩
   obtain⟨u,hu⟩:=hp2
   have hj:j<cs.length:=(YaZ.1 hu).1
   rcases Yaf.1 hy with h1 | h1
   . obtain⟨j',k1,k2,k3⟩:=idx y h1
     have e2:Xf6 j=y.key:=e
     rw[k1]at e2
     have:=Xot _ _ e2
     subst this
     show y.v=cs.getD j undef
     rw[XgF k3]
   . obtain⟨_,_,_,_,⟨j',k1,_⟩,_⟩:=hDI y h1
     have e2:Xf6 j=y.key:=e
     rw[k1]at e2
     unfold Xf6 XkQ at e2
     omega
  have more:X4Q w y.t y.v y.l y.fo/\(∃i,P.info? y.e=some i/\i.size=size y.t)/\0<size y.t/\y.fo.Nodup/\∀g∈y.fo,g∈X5V con b F FI/\b≠some g:=by
   rcases Yaf.1 hy with h1 | h1
   . obtain⟨k1,k2,k3,k4,j,_,k5,k6⟩:=hDA y h1
     refine⟨k1,k2,k3,k4,λg hg=>?_⟩
     have hg':=XaK k5 (k6▸hg)
     exact⟨inA g hg',λe=>notBox g e hg'⟩
   . obtain⟨k1,k2,k3,k4,⟨j,_,k5,k6⟩,g0,hg0⟩:=hDI y h1
     refine⟨k1,k2,k3,k4,λg hg=>?_⟩
     have hg':=XaK k5 (k6▸hg)
     exact⟨inI g0 hg0 g hg',λe=>(ndI g e).2 hg'⟩
  refine⟨tag0 _,pinA,more.1,more.2.1,more.2.2.1,more.2.2.2.1,λg hg=>free g (more.2.2.2.2 g hg).1 (more.2.2.2.2 g hg).2 (X1w.lt more.1 g hg)⟩) (by
  rw[Ya8]
  refine YaF.2 ⟨XlL Xot 0,?_,λk hk k' hk' e=>?_⟩
  . cases hb':b with
    | none=>simp only[D2,hb',Xur];exact Ybf
    | some g=>simp only[D2,hb',Xur];exact XlL XtA 0
  . obtain⟨y,hy,e1⟩:=YaM.1 hk
    obtain⟨y',hy',e2⟩:=YaM.1 hk'
    obtain⟨j,k1,k2,_⟩:=idx y hy
    obtain⟨_,_,_,_,⟨j',k1',_⟩,_⟩:=hDI y' hy'
    rw[<-e1,<-e2,k1,k1']at e
    unfold Xf6 XkQ at e
    omega) (λy hy z hz hne g hg hg'=>by
  rcases Yaf.1 hy with h1 | h1<;>rcases Yaf.1 hz with h2 | h2
  . obtain⟨_,_,_,_,j,q1,q2,q3⟩:=hDA y h1
    obtain⟨_,_,_,_,j',q1',q2',q3'⟩:=hDA z h2
    exact XeR nd2 q2 q2' (λe1=>hne (by rw[q1,q1',e1])) g (q3▸hg) (q3'▸hg')
  . obtain⟨_,_,_,_,j,q1,q2,q3⟩:=hDA y h1
    obtain⟨_,_,_,_,⟨j',q1',q2',q3'⟩,g0,hg0⟩:=hDI z h2
    exact nd3 g (by rw[hg0];exact Yan _ (XaK q2' (q3'▸hg'))) g (XaK q2 (q3▸hg)) rfl
  . obtain⟨_,_,_,_,⟨j,q1,q2,q3⟩,g0,hg0⟩:=hDI y h1
    obtain⟨_,_,_,_,j',q1',q2',q3'⟩:=hDA z h2
    exact nd3 g (by rw[hg0];exact Yan _ (XaK q2 (q3▸hg))) g (XaK q2' (q3'▸hg')) rfl
  . obtain⟨_,_,_,_,⟨j,q1,q2,q3⟩,g0,hg0⟩:=hDI y h1
    obtain⟨_,_,_,_,⟨j',q1',q2',q3'⟩,_⟩:=hDI z h2
    exact XeR (ndI g0 hg0).1 q2 q2' (λe1=>hne (by rw[q1,q1',e1])) g (q3▸hg) (q3'▸hg'))
 have hcsA:∀rows',X1Y (RdT σ1 rows' M) cs (XhE con x):=λrows'=>XlI hown (.inr rfl) λz hz=>(r1 z (Yaf.2 (.inl hz))).1
 have hrowsA:(mkD Xf6 (con.ownA++con.backA) F 0 cs (flat con.A x)).map XfE.row=XaI con x:=Xgn 0 hown.len
 have frameS:∀{boxes:List (Nat×List X02)} {rows:List (Nat×X0I)} (h0:∀g,b=some g->(look 0 boxes).isSome=true) (j:Nat),X3T σ1 rows boxes M (((pre++vs).toArray++Array.replicate (fn.ntmps - (pre++vs).toArray.size) undef).getD j undef) (match look j (X47 pre.length con.shA (XhE con x)) with | some sv=>sv | none=>.und):=λ{boxes rows} h0 j=>by
  have:=XnI (boxes:=boxes) (λg hg=>⟨hS1.pin g hg,h0 g hg⟩) hargs pre.length (hcsA rows) j
  split
  . rename_i sv hl
    rw[hl]at this
    obtain⟨h1,h2,h3⟩:=this
    rw[Xov _ _ _ (by simp;omega)]
    rw[Yap,Yba h1,<-Yap]
    exact h3
  . trivial
 have olds:∀{slots:List (Nat×Sv)} {boxes:List (Nat×List X02)} {rows:List (Nat×X0I)} {a:Act},(∀j,X3T σ1 rows boxes M (a.tmps.getD j undef) (match look j slots with | some sv=>sv | none=>.und))->∀j,j∈Xmt slots->XuT M (a.tmps.getD j undef) (match look j slots with | some sv=>sv | none=>.und):=λ{slots boxes rows a} hs j hj=>by
  have hm:=(Ybz.1 hj).2
  have hsj:=hs j
  split at hm
  . rename_i ag cs' hl
    rw[hl]at hsj ⊢
    exact hsj.1.imp λ_ _ h=>h.1
  . cases hm
 have hS:Sim P w M ios σ1 M w {tmps:=(pre++vs).toArray++Array.replicate (fn.ntmps - (pre++vs).toArray.size) undef,defers:=[]} (Xhw con fn.ntmps i x):=by
  cases hb':b with
  | none=>
    have hio':con.io=false:=by rw[hio,hb'];rfl
    have hpre0:pre.length=0:=by rw[hpl,hio']
    have e:Xhw con fn.ntmps i x={nt:=fn.ntmps,slots:=X47 0 con.shA (XhE con x),boxes:=[],rows:=XaI con x,olds:=Xmt (X47 0 con.shA (XhE con x))}:=by unfold Xhw;rw[hio']
    rw[e]
    have e2:({st0 with rows:=(mkD Xf6 (con.ownA++con.backA) F 0 cs (flat con.A x)++D2).map XfE.row++st0.rows}:St)={nt:=fn.ntmps,slots:=[],boxes:=[],rows:=XaI con x}:=by
     simp only[st0,D2,hb',XuP,Xur,Ybe,hrowsA]
    rw[e2]at hS1
    have hfs:∀j,X3T σ1 (XaI con x) [] M (((pre++vs).toArray++Array.replicate (fn.ntmps - (pre++vs).toArray.size) undef).getD j undef) (match look j (X47 0 con.shA (XhE con x)) with | some sv=>sv | none=>.und):=λj=>by
     have:=frameS (boxes:=[]) (rows:=XaI con x) (λg hg=>by rw[hb']at hg;cases hg) j
     rw[hpre0]at this;exact this
    exact {hS1 with
     slots:=hfs
     hot:=hS1.hot.still rfl λ_ h=>h
     olds:=olds (a:={tmps:=(pre++vs).toArray++Array.replicate (fn.ntmps - (pre++vs).toArray.size) undef,defers:=[]}) hfs}
  | some g=>
    have hio':con.io=true:=by rw[hio,hb'];rfl
    have hpre0:pre.length=1:=by rw[hpl,hio']
    obtain⟨arr,E,q1,q2,q3⟩:=hiv g hb'
    have e:Xhw con fn.ntmps i x={nt:=fn.ntmps,slots:=(0,.box 0 0)::X47 1 con.shA (XhE con x),boxes:=[(0,XdW XkQ con.ownI 0 (flat con.I i))],rows:=XaI con x++X6d XkQ con.ownI 0 (flat con.I i),olds:=Xmt ((0,.box 0 0)::X47 1 con.shA (XhE con x))}:=by unfold Xhw;rw[hio']
    rw[e]
    have e2:({st0 with rows:=(mkD Xf6 (con.ownA++con.backA) F 0 cs (flat con.A x)++D2).map XfE.row++st0.rows}:St)={nt:=fn.ntmps,slots:=[],boxes:=[(0,XjM ivs.length)],rows:=XaI con x++X6d XkQ con.ownI 0 (flat con.I i)}:=by
     simp only[st0,D2,hb',XuP,Xur,Ybe,Ya8,hrowsA,Xgn 0 q3.len]
    rw[e2]at hS1
    have hsb:σ1.box 0=g:=by rw[r3];show b.getD 0=g;rw[hb'];rfl
    have hS2:=hS1.setBox (k:=0) (ds:=XdW XkQ con.ownI 0 (flat con.I i)) (by simp[St.box,look]) (λarr' E' ha=>by
     rw[hsb,q1]at ha;cases ha
     rw[q2]
     exact XlI q3 (.inr rfl) λz hz=>(r1 z (Yaf.2 (.inr (by simp only[D2,hb',Xur];exact hz)))).1)
    have hE:∀(ds:List X02) (rows:List (Nat×X0I)),Ext {nt:=fn.ntmps,slots:=[],boxes:=[(0,ds),(0,XjM ivs.length)],rows:=rows} {nt:=fn.ntmps,slots:=[],boxes:=[(0,ds)],rows:=rows}:=λds rows=>⟨rfl,λ_=>rfl,λk=>by simp only[St.box,look];split<;>rfl,λ_=>rfl,λ_=>Yc2⟩
    have hS3:Sim P w M ios σ1 M w {tmps:=(pre++vs).toArray++Array.replicate (fn.ntmps - (pre++vs).toArray.size) undef,defers:=[]} {nt:=fn.ntmps,slots:=[],boxes:=[(0,XdW XkQ con.ownI 0 (flat con.I i))],rows:=XaI con x++X6d XkQ con.ownI 0 (flat con.I i)}:=Sim.ext (hE _ _) hS2
    have hfs:∀j,X3T σ1 (XaI con x++X6d XkQ con.ownI 0 (flat con.I i)) [(0,XdW XkQ con.ownI 0 (flat con.I i))] M (((pre++vs).toArray++Array.replicate (fn.ntmps - (pre++vs).toArray.size) undef).getD j undef) (match look j ((0,.box 0 0)::X47 1 con.shA (XhE con x)) with | some sv=>sv | none=>.und):=λj=>by
     rw[X07]
     by_cases hj:0=j
     . subst hj
       simp only[Ycc]
       have hp:pre=[.pointer (some ⟨g,0,none⟩)]:=by simp only[pre,hb',Xxi]
       rw[hp,Xov _ _ _ (by simp)]
       exact⟨by rw[hsb];rfl,rfl⟩
     . rw[Yae hj]
       have:=frameS (boxes:=[(0,XdW XkQ con.ownI 0 (flat con.I i))]) (rows:=XaI con x++X6d XkQ con.ownI 0 (flat con.I i)) (λg hg=>rfl) j
       rw[hpre0]at this;exact this
    exact {hS3 with
     slots:=hfs
     hot:=hS3.hot.still rfl λ_ h=>h
     olds:=olds (a:={tmps:=(pre++vs).toArray++Array.replicate (fn.ntmps - (pre++vs).toArray.size) undef,defers:=[]}) hfs}
 have hpins:∀j e,(j,e)∈con.backA->∃u,cs[j]?=some u/\(Xf6 j,u)∈ios.rows:=λj e hm=>by
  have:(look j (con.ownA++con.backA)).isSome=true:=XgG.2 ⟨e,Yaf.2 (.inr hm)⟩
  obtain⟨e2,he2⟩:=Yao.1 this
  obtain⟨u,_,_,hu,_⟩:=hown.own j e2 he2
  exact⟨u,hu,YaM.2 ⟨(j,e),hm,by rw[XgF hu]⟩⟩
 have fin:∀(σ':Sg) (M':Mem) (w':World) (a':Act) (st':St),Sim P w M ios σ' M' w' a' st'->K i x st'->
  a'.defers=[]/\∃v,(results fn a'.tmps).run P w'=.ok v w'/\Ret P con w M (X5V con b F FI) b cs i x (.returned v) w':=λσ' M' w' a' st' hS' hK=>hfin ios w M cs i x σ' M' w' a' st' hpins hio (λe1 e2 e3=>by
   show X5V con b F FI=[]
   have hb0:b=none:=by rw[e1]at hio;cases hb':b with | none=>rfl | some g=>rw[hb']at hio;cases hio
   rw[hb0];unfold X5V;rw[e2,e3];rfl) hS' hK
 refine Xti hm hT hΓ c _ _ _ _ σ1 M w _ hS ?_ (h i x hpre (λhio'=>?_) (Xp0 hown hM nd2))
 . intro e σ' M' w' a' st' hS' hK
   cases e with
   | normal=>exact fin _ _ _ _ _ hS' hK
   | ret=>exact fin _ _ _ _ _ hS' hK
   | exit id=>exact hK.elim
 . cases hb':b with
   | none=>rw[hio,hb']at hio';cases hio'
   | some g=>
     obtain⟨arr,E,_,_,q3⟩:=hiv g hb'
     exact Xp0 q3 hM (ndI g hb').1
theorem Xva{con:Con}{rs:List ResultVar}{tys:List TypeId}{i:El con.I}{x:El con.A}:Xvt tab con rs tys i x=XwZ (Xwx tab con rs tys i x):=by
 funext e st;cases e<;>rfl
theorem XnR{con:Con}(L:(i:El con.I)->El con.A->Nat->Option X0e){n:FuncId}{fn:Func}{c:Code}(hm:P.follows .mixedOrders=true)(hT:X1x P tab)(hΓ:Xfz P Γ)(hf:P.funcs[n]?=some fn)(hb:fn.body=some c)(tys:List TypeId)(hB:conB tab con fn.ntmps=true)(h:∀i x,con.pre i x->(con.io=true->Wf con.I i)->Wf con.A x->vc tab Γ (L i x) c 1 (Xhw con fn.ntmps i x) (Xvt tab con fn.results.toList tys i x)):X0g P n con:=by
 unfold conB at hB
 simp only[Yac,YaP,Yaj]at hB
 obtain⟨⟨⟨⟨⟨hA,hI⟩,hR⟩,hnew⟩,hsz⟩,hnt⟩:=hB
 exact Xrc (λi x st=>Xwx tab con fn.results.toList tys i x st) L hm hT hΓ hf hb hA hI hsz hnt (λios base M0 acs i x σ M w' a st hpins hio _ hS hK=>Xwm hT hpins hio hnew hR hI hS hK) (λi x h1 h2 h3=>by rw[<-Xva];exact h i x h1 h2 h3)
def Xw9:Value->Value->Bool
 | .int k n,.int k' n'=>decide (k=k')&&decide (n=n')
 | .bool b,.bool b'=>b==b'
 | .string s,.string s'=>decide (s.data.size=0)&&decide (s'.data.size=0)
 | .slice none 0 0,.slice none 0 0=>true
 | _,_=>false
def Xk4:List Value->List Value->Bool
 | [],[]=>true
 | a::l,b::r=>Xw9 a b&&Xk4 l r
 | _,_=>false
theorem Xtb{a b:Value}(h:Xw9 a b=true):a=b:=by
 unfold Xw9 at h
 split at h
 . simp only[Yac,Yaj]at h
   obtain⟨rfl,rfl⟩:=h;rfl
 . simp at h;subst h;rfl
 . rename_i s s'
   simp only[Yac,Yaj]at h
   obtain⟨⟨d⟩⟩:=s
   obtain⟨⟨d'⟩⟩:=s'
   simp at h
   rw[h.1,h.2]
 . rfl
 . cases h
theorem Xnc:∀{l r:List Value},Xk4 l r=true->l=r
 | [],[],_=>rfl
 | [],_::_,h=>by simp[Xk4]at h
 | _::_,[],h=>by simp[Xk4]at h
 | a::l,b::r,h=>by
   simp only[Xk4,Yac]at h
   rw[Xtb h.1,Xnc h.2]
def XpH:List Field->List (Nat×TypeId)->Bool
 | [],[]=>true
 | f::l,p::r=>(f.offset==p.1)&&(f.type==p.2)&&XpH l r
 | _,_=>false
theorem Xos:∀{l:List Field} {r:List (Nat×TypeId)},XpH l r=true->l.map (λf=>(f.offset,f.type))=r
 | [],[],_=>rfl
 | [],_::_,h=>by simp[XpH]at h
 | _::_,[],h=>by simp[XpH]at h
 | f::l,p::r,h=>by
   simp only[XpH,Yac,YbS]at h
   simp[Xos h.2,h.1.1,h.1.2]
def Xtv(tab:Tab)(ti:TI):Option TypeDesc->Bool
 | some (.struct fs)=>ti.agg&&XpH fs.toList ti.fields&&ti.fields.all (λp=>(look p.2 tab).isSome)
 | some (.int k)=>!ti.agg&&(match ti.ty with | .int k'=>decide (k=k') | _=>false)
 | some .bool=>!ti.agg&&(match ti.ty with | .bool=>true | _=>false)
 | some .string=>!ti.agg&&(match ti.ty with | .str=>true | _=>false)
 | some (.slice e)=>!ti.agg&&(match ti.ty with | .list _=>e==ti.elem | _=>false)
 | _=>false
def XqV(ti:TI):Option TypeInfo->Bool
 | some i=>(i.size==size ti.ty)&&(i.bytes==ti.bytes)&&(match i.zero with | some z=>Xk4 z.cells.toList (zeros ti.ty) | none=>false)
 | none=>false
def XhU(P:Program)(tab:Tab):List (TypeId×TI)->Bool
 | []=>true
 | (t,ti)::l=>XqV ti (P.info? t)&&Xtv tab ti (P.underlying t)&&XhU P tab l
theorem XpB{P:Program}{tab:Tab}{t:TypeId}{ti:TI}(h:Xtv tab ti (P.underlying t)=true):
 if ti.agg then ∃fs,P.underlying t=some (.struct fs)/\fs.toList.map (λf=>(f.offset,f.type))=ti.fields/\(∀p∈ti.fields,(look p.2 tab).isSome=true)
 else match ti.ty with
  | .int k=>P.underlying t=some (.int k)
  | .bool=>P.underlying t=some .bool
  | .str=>P.underlying t=some .string
  | .list _=>P.underlying t=some (.slice ti.elem)
  | _=>False:=by
 unfold Xtv at h
 split at h
 . rename_i fs hu
   simp only[Yac,Ya6]at h
   rw[Yah h.1.1]
   exact⟨fs,hu,Xos h.1.2,h.2⟩
 all_goals first
  | (rename_i hu
     simp only[Yac,YaP]at h
     rw[Yae (by rw[h.1];simp)]
     obtain⟨_,h2⟩:=h
     split at h2
     . simp_all
     . cases h2)
  | cases h
theorem XtD{P:Program}{tab:Tab}(h:XhU P tab tab=true):X1x P tab:=by
 intro t ti hl
 have key:∀l:List (TypeId×TI),XhU P tab l=true->(t,ti)∈l->XqV ti (P.info? t)=true/\Xtv tab ti (P.underlying t)=true:=by
  intro l
  induction l with
  | nil=>intro _ hm;cases hm
  | cons p l ih=>
    intro hc hm
    obtain⟨t',ti'⟩:=p
    simp only[XhU,Yac]at hc
    rcases Yak.1 hm with e | hm
    . cases e;exact hc.1
    . exact ih hc.2 hm
 obtain⟨h1,h2⟩:=key tab h (X3I hl)
 refine⟨?_,XpB h2⟩
 unfold XqV at h1
 split at h1
 . rename_i i hi
   simp only[Yac,YbS]at h1
   obtain⟨⟨h3,h4⟩,h5⟩:=h1
   split at h5
   . rename_i z hz
     exact⟨i,z,hi,h3,h4,hz,Xnc h5⟩
   . cases h5
 . cases h1
def gam(l:List (Nat×Con))(tk:List Nat)(eqs:List (TypeId×Ty)):Gam:={con:=λn=>look n l,tk:=tk,eqs:=eqs}
theorem XvS(P:Program)(tk:List Nat){eqs:List (TypeId×Ty)}(he:Xt9 P eqs):Xfz P (gam [] tk eqs):=⟨(by intro n con h;cases h),he⟩
theorem Xt3{P:Program}{m:Nat}{c:Con}{l:List (Nat×Con)}{tk:List Nat}{eqs:List (TypeId×Ty)}(hf:FnOk P m)(hc:X0g P m c)(h:Xfz P (gam l tk eqs)):Xfz P (gam ((m,c)::l) tk eqs):=by
 refine⟨?_,h.2⟩
 intro n con hn
 have hn':look n ((m,c)::l)=some con:=hn
 rw[X07]at hn'
 split at hn'
 . rename_i e;subst e;cases hn';exact⟨hf,hc⟩
 . exact h.1 n con hn'
theorem X01{b:Bool}{X Y:Prop}:X00 b X Y↔(b=true->X)/\(b=false->Y):=⟨Xg0,λh=>Xtz h.1 h.2⟩
def eqF(d:Nat)(xs ys:Array Value):List (Bool×TypeId×Nat)->Sem Bool
 | []=>pure true
 | (nm,t,o)::l=>if nm=true then do
     let a <-part t xs o
     let b <-part t ys o
     let r <-Op.equalIn d t a b
     if (!r)=true then pure false else eqF d xs ys l
   else eqF d xs ys l
theorem Xc6{d:Nat}{xs ys:Array Value}:∀(fs:List Field),Op.eqFields d xs ys fs=eqF d xs ys (fs.map λf=>(decide (f.name≠ "_"),f.type,f.offset))
 | []=>rfl
 | f::fs=>by
   simp only[Op.eqFields,Yaq,eqF,Xc6 fs,Yaj]
theorem X96{P:Program}{w:World}{d:Nat}{xs ys:Array Value}{t o:Nat}{l:List (Bool×TypeId×Nat)}{u v:Value}{r r':Bool}(h1:(part t xs o).run P w=.ok u w)(h2:(part t ys o).run P w=.ok v w)(h3:(Op.equalIn d t u v).run P w=.ok r w)(h4:(eqF d xs ys l).run P w=.ok r' w):
 (eqF d xs ys ((true,t,o)::l)).run P w=.ok (r&&r') w:=by
 simp only[eqF,Ycc,Sem.run_bind,h1,h2,h3,Result.andThen_ok]
 cases r
 . simp
 . simp only[Yde,Yb8,Yds,YaT];exact h4
section
open Go.WideShapes Go.RowKit
def WfD:(t:Ty)->El t->Prop
 | .int k,n=>k.min<=n/\n<=k.max
 | .str,s=>List.length s<=maxLen
 | .list t,l=>List.length l<=maxLen/\∀x,x∈(show List (El t) from l)->WfD t x
 | .pair a b,x=>WfD a x.1/\WfD b x.2
 | _,_=>True
def Xhj:List Ty->Ty
 | []=>.unit
 | [a]=>a
 | a::b::r=>.pair a (Xhj (b::r))
def XgE(tab:Tab):Nat->List (Nat×TypeId)->Option (List Ty)
 | _,[]=>some []
 | off,(o,t)::r=>match look t tab with
   | some ti=>match decide (o=off),XgE tab (off+size ti.ty) r with
     | true,some l=>some (ti.ty::l)
     | _,_=>none
   | none=>none
def XbR(tab:Tab):List (TypeId×TI)->Bool
 | []=>true
 | (_,ti)::l=>(match ti.agg,ti.ty with
   | true,ty=>(match XgE tab 0 ti.fields with | some tys=>decide (ty=Xhj tys) | none=>false)
   | false,.list τ=>(match look ti.elem tab with | some te=>decide (te.ty=τ) | none=>false)
   | _,_=>true)&&XbR tab l
theorem X1Y.at2{α β:Type}{R:α->β->Prop}{as:List α}{bs:List β}(h:X1Y R as bs){j:Nat}{a:α}{b:β}(ha:as[j]?=some a)(hb:bs[j]?=some b):R a b:=by
 obtain⟨a',h1,h2⟩:=h.get hb
 rw[ha]at h1;cases h1;exact h2
theorem Xjo:∀{l:List (TypeId×TI)},XbR tab l=true->∀{t ti},(t,ti)∈l->ti.agg=true->∃tys,XgE tab 0 ti.fields=some tys/\ti.ty=Xhj tys
 | [],_,_,_,hm,_=>by cases hm
 | (t',ti')::l,h,t,ti,hm,ha=>by
   simp only[XbR,Yac]at h
   rcases Yak.1 hm with e | hm
   . cases e
     have h1:=h.1
     rw[ha]at h1
     simp only at h1
     split at h1
     . rename_i tys htys;exact⟨tys,htys,by simpa using h1⟩
     . cases h1
   . exact Xjo h.2 hm ha
theorem Xh9:∀{l:List (TypeId×TI)},XbR tab l=true->∀{t ti τ},(t,ti)∈l->ti.agg=false->ti.ty=.list τ->∃te,look ti.elem tab=some te/\te.ty=τ
 | [],_,_,_,_,hm,_,_=>by cases hm
 | (t',ti')::l,h,t,ti,τ,hm,ha,ht=>by
   simp only[XbR,Yac]at h
   rcases Yak.1 hm with e | hm
   . cases e
     have h1:=h.1
     rw[ha,ht]at h1
     simp only at h1
     split at h1
     . rename_i te hte;exact⟨te,hte,by simpa using h1⟩
     . cases h1
   . exact Xh9 h.2 hm ha ht
theorem Xid{α:Type}{R:Nat->α->Prop}:∀{n:Nat},(∀i,i<n->∃x,R i x)->∃l:List α,l.length=n/\∀i x,l[i]?=some x->R i x
 | 0,_=>⟨[],rfl,λi x h=>by simp at h⟩
 | n+1,h=>by
   obtain⟨l,hl,hr⟩:=Xid (n:=n) λi hi=>h i (by omega)
   obtain⟨x,hx⟩:=h n (by omega)
   refine⟨l++[x],by simp[hl],λi y hy=>?_⟩
   rw[List.getElem?_append]at hy
   split at hy
   . exact hr i y hy
   . rename_i hi
     have:i=l.length:=by
      have:=(YaZ.1 hy).1
      simp at this;omega
     subst this
     simp at hy
     subst hy
     rw[hl];exact hx
theorem Xfx(hT:X1x P tab){t:TypeId}{ti:TI}(h:look t tab=some ti):P.cellsOf t=size ti.ty:=by
 obtain⟨i,_,hi,hs,_⟩:=(hT t ti h).info
 simp[Program.cellsOf,hi,hs]
def RdW(w:World)(τ:Ty)(cs:List Value):Prop:=∃x:El τ,RdC (λad=>w.cell? ad) τ cs x/\WfD τ x
theorem Xn4{rec_:TypeId->List Value->Option (DataW H×List MemPlace)}(hT:X1x P tab)(hrec:∀t ti cs y,look t tab=some ti->rec_ t cs=some y->RdW w ti.ty cs){cs:List Value}:
 ∀{fs:List Field} {off:Nat} {tys:List Ty} {ys:List (DataW H×List MemPlace)},XgE tab off (fs.map λf=>(f.offset,f.type))=some tys->
 fs.mapM (λf=>rec_ f.type ((cs.drop f.offset).take (P.cellsOf f.type)))=some ys->cs.length=off+size (Xhj tys)->RdW w (Xhj tys) (cs.drop off)
 | [],off,tys,ys,h,_,hl=>by
   simp only[YaG,XgE,Yag]at h
   subst h
   refine⟨(),?_,trivial⟩
   show cs.drop off=[]
   simp only[Xhj,size]at hl
   exact List.drop_eq_nil_of_le (by omega)
 | f::fs,off,tys,ys,h,hm,hl=>by
   simp only[Yaq,XgE]at h
   split at h
   . rename_i ti hti
     split at h
     . rename_i l ho hr
       cases h
       have hoff:f.offset=off:=by simpa using ho
       rw[Ycs]at hm
       cases hf:rec_ f.type ((cs.drop f.offset).take (P.cellsOf f.type)) with
       | none=>simp[hf]at hm
       | some y=>
         cases hms:fs.mapM (λf=>rec_ f.type ((cs.drop f.offset).take (P.cellsOf f.type))) with
         | none=>simp[hf,hms]at hm
         | some ys'=>
           have h1:=hrec _ _ _ _ hti hf
           rw[hoff,Xfx hT hti]at h1
           cases l with
           | nil=>
             simp only[Xhj]at hl ⊢
             rw[YaX (by rw[Yar];omega)]at h1
             exact h1
           | cons b r=>
             simp only[Xhj,size]at hl ⊢
             have h2:=Xn4 hT hrec hr hms (by omega)
             obtain⟨x1,hx1,hw1⟩:=h1
             obtain⟨x2,hx2,hw2⟩:=h2
             refine⟨(x1,x2),⟨_,_,?_,hx1,hx2⟩,hw1,hw2⟩
             rw[<-YaI,YaJ]
     . cases h
   . cases h
theorem XnN(hT:X1x P tab)(hc:XbR tab tab=true):∀(fuel:Nat) (t:TypeId) (ti:TI) (cs:List Value) (y:DataW H×List MemPlace),look t tab=some ti->
 DataW.trod enc P w 0 (λ_=>true) true fuel t cs=some y->RdW w ti.ty cs
 | 0,t,ti,cs,y,_,h=>by simp[DataW.trod]at h
 | fuel+1,t,ti,cs,y,hl,h=>by
   have hu:=(hT t ti hl).und
   have hmem:=X3I hl
   have hsz:=Xfx hT hl
   have hor:=h
   unfold DataW.trod at h
   cases ha:ti.agg with
   | true=>
     rw[Yah ha]at hu
     obtain⟨fs,hfs,hff,_⟩:=hu
     obtain⟨tys,htys,hty⟩:=Xjo hc hmem ha
     rw[hfs]at h
     simp only at h
     split at h
     . rename_i hlen
       rw[YaC]at h
       obtain⟨ys,hys,_⟩:=h
       rw[<-hff]at htys
       rw[hty]at hsz ⊢
       have:=Xn4 (w:=w) (rec_:=λt cs=>DataW.trod enc P w 0 (λ_=>true) true fuel t cs) hT (λt ti cs y h1 h2=>XnN hT hc fuel t ti cs y h1 h2) (cs:=cs) htys hys (by rw[hlen,hsz,YaS])
       rw[YbP]at this
       exact this
     . cases h
   | false=>
     rw[Yae (by rw[ha];simp)]at hu
     cases hty:ti.ty with
     | int k=>
       rw[hty]at hu
       simp only at hu
       rw[hu]at h
       split at h<;>simp_all
       rename_i k' n _
       obtain⟨⟨rfl,hwf⟩,_⟩:=h
       refine⟨n,rfl,?_⟩
       simp only[Lit.wf,Yac,Yaj]at hwf
       exact hwf
     | bool=>
       rw[hty]at hu
       simp only at hu
       rw[hu]at h
       split at h<;>simp_all
       exact⟨_,rfl,trivial⟩
     | str=>
       rw[hty]at hu
       simp only at hu
       rw[hu]at h
       split at h<;>simp_all
       rename_i s
       refine⟨s.data.toList,?_,?_⟩
       . simp[RdC]
       . obtain⟨d⟩:=s
         have:=h.1
         simpa [WfD,ByteArray.size] using this
     | list τ=>
       rw[hty]at hu
       simp only at hu
       obtain⟨te,hte,rfl⟩:=Xh9 hc hmem ha hty
       have hes:=Xfx hT hte
       rcases DataW.trod_slice hu hor with⟨rfl,_⟩ | ⟨a,len,cap,elems,rest,n,hn,rfl,_,_,hle,hm,hlen,hel,_⟩
       . exact⟨[],RdC.nilSlice _ _,by simp[WfD]⟩
       . obtain rfl:n=fuel:=by omega
         obtain⟨l,hll,hR⟩:=Xid (n:=len) (R:=λi x=>∃vs,w.cells? 0 (a.add (i*size te.ty)) (size te.ty)=some vs/\RdC (λad=>w.cell? ad) te.ty vs x/\WfD te.ty x) λi hi=>by
          have h1:=hel i hi
          obtain⟨y',hy'⟩:∃y',elems[i]?=some y':=⟨elems[i],by simp[hlen,hi]⟩
          rw[hy',hes]at h1
          obtain⟨vs,hv1,hv2⟩:=Ybg.1 h1
          obtain⟨x,hx,hwx⟩:=XnN hT hc n _ te vs y' hte hv2
          exact⟨x,vs,hv1,hx,hwx⟩
         refine⟨l,⟨some a,cap,by rw[hll],by omega,hm,λi hi=>?_⟩,by simp[hll];omega,λx hx=>?_⟩
         . obtain⟨vs,h1,h2,_⟩:=hR i _ (Yav hi)
           obtain⟨_,hvl,hvc⟩:=World.cells?_some h1
           refine⟨a,vs,rfl,hvl,λj u hu=>?_,h2⟩
           have hj:=(YaZ.1 hu).1
           have:=hvc j (by omega)
           rw[hu]at this
           rw[<-this]
           show w.cell? (a.add (i*size te.ty+j))=w.cell? ((a.add (i*size te.ty)).add j)
           rw[Addr.add_add]
         . obtain⟨i,hi,e⟩:=YaQ hx
           obtain⟨_,_,_,h3⟩:=hR i x (by rw[<-e];exact Yav hi)
           exact h3
     | unit=>rw[hty]at hu;exact hu.elim
     | pair a b=>rw[hty]at hu;exact hu.elim
def shOf(ti:TI):Sh:=if ti.agg then .agg (size ti.ty) else .one
theorem XqZ(hT:X1x P tab)(hc:XbR tab tab=true){r:Reach}{b0:Nat}{t:TypeId}{ti:TI}{v:Value}{d:DataW H}{ps:List MemPlace}(hl:look t tab=some ti)(hval:Value.okWide P w r b0 t v)(h:DataW.Trod enc P w 0 (λ_=>true) true t v d ps):
 ∃x:El ti.ty,RdC (λad=>w.cell? ad) ti.ty v.cells.toList x/\WfD ti.ty x/\XuU (λad=>w.cell? ad) none (shOf ti) v v.cells.toList:=by
 obtain⟨fuel,hf⟩:=h
 obtain⟨x,hx,hw⟩:=XnN hT hc fuel t ti _ _ hl hf
 refine⟨x,hx,hw,?_⟩
 have hu:=(hT t ti hl).und
 unfold shOf
 cases ha:ti.agg with
 | true=>
   rw[Yah ha]at hu
   obtain⟨fs,hfs,_⟩:=hu
   obtain⟨cs,rfl,_⟩:=okWide_struct hfs hval
   rw[Yah rfl]
   exact⟨hx.length,cs,rfl,rfl⟩
 | false=>
   rw[Yae (by rw[ha];simp)]at hu
   rw[Yae (by simp)]
   have:Xaz v=false/\v.cells.toList=[v]:=by
    cases hty:ti.ty with
    | int k=>rw[hty]at hu;obtain⟨n,rfl⟩:=okWide_int hu hval;exact⟨rfl,rfl⟩
    | bool=>rw[hty]at hu;obtain⟨n,rfl⟩:=okWide_bool hu hval;exact⟨rfl,rfl⟩
    | str=>rw[hty]at hu;obtain⟨n,rfl⟩:=okWide_string hu hval;exact⟨rfl,rfl⟩
    | list τ=>rw[hty]at hu;obtain⟨a,l,c,rfl⟩:=okWide_slice hu hval;exact⟨rfl,rfl⟩
    | unit=>rw[hty]at hu;exact hu.elim
    | pair a b=>rw[hty]at hu;exact hu.elim
   exact⟨this.2,this.1⟩
def Xpu(A:Ty)(shA:List Sh):Con:={A:=A,shA:=shA,R:=.bool,shR:=[(false,1)],pre:=λ_ x=>WfD A x,f:=some λ_ _=>(true,((),()))}
theorem XvK{A:Ty}{shA:List Sh}{n:FuncId}(h:X0g P n (Xpu A shA)){vs cs:List Value}{x:El A}(ha:XdZ (λad=>w.cell? ad) none shA vs cs)(hx:RdC (λad=>w.cell? ad) A cs x)(hw:WfD A x):
 Calls P n vs.toArray w λe w'=>e=.returned (.bool true)/\Below w.heap.size w w':=by
 have hrd:=Xfk _ _ _ hx
 have:=h w (λad=>w.cell? ad) vs cs () x (λ_=>[]) (λ_=>[]) none (λ_ _ h=>h) ha ⟨hrd.length,λj u c _ hu hc=>hrd.at2 hu hc,λj e hj=>by cases hj⟩ rfl (λg hg=>by cases hg) Ybf (λg hg=>by cases hg) hw
 refine Calls.mono this ?_
 intro e w' hret
 obtain⟨rs,y,cs',M',FR,FI,FB,nb,he,hpost,_,_,hf,_,hnr,hown,_⟩:=hret.ex
 subst he
 obtain⟨_,hres⟩:=hnr
 have hy:y.1=true:=by have:y=(true,((),())):=hpost;rw[this]
 have hcs:cs'=[.bool true]:=by
  have hl:=hown.len
  have h0:(flat Ty.bool y.1)=[X02.bool true]:=by rw[hy];rfl
  have hl':cs'.length=1:=by rw[hl];rfl
  match cs',hl' with
  | [u],_=>
    have:=hown.rd 0 u (.bool true) rfl rfl (by show(flat Ty.bool y.1)[0]?=_;rw[h0];rfl)
    rw[show u=Value.bool true from this]
 subst hcs
 refine⟨?_,hf.os,hf.tape,hf.output,hf.size,λk hk=>hf.block k hk (λhm=>by cases hm)⟩
 have hres':Xef [(false,1)] rs [Value.bool true]:=hres
 generalize hs:[(false,1)]=shs at hres'
 generalize hc:[Value.bool true]=cs0 at hres'
 cases hres' with
 | nil=>cases hs
 | @cons ag m v shs' vs' cs2 h1 h2 h3=>
   cases hs
   cases h3
   have hv:v.cells.toList=[.bool true]:=by simpa using hc.symm
   have:v=.bool true:=by
    cases v<;>simp[Value.cells,Xaz]at hv h2<;>simp[hv]
   rw[this];rfl
end
end Go.Proofs.YtgmafgmjbaoomaaGreat.Bv
