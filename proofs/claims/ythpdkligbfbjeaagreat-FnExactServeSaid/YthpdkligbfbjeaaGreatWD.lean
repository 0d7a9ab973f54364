/- Walks of Go functions by value:the library,part 4 of 4. -/
import Derived.Test.YthpdkligbfbjeaaGreatWC
import Derived.ChangeKeysEq
import Derived.KernelRfl
import Derived.IntWalk
import Derived.Carry
import Derived.WalkKit
import Derived.ProofKit
import Derived.OpenShut
import Derived.SizedLaws
set_option linter.unusedVariables false
set_option linter.unusedSimpArgs false
namespace Go.Proofs.YthpdkligbfbjeaaGreat.Bv
variable {P:Program} {base:World} {M0:Mem} {ios:Ios} {σ:Sg} {M:Mem} {w w':World} {a:Act} {st:St} {tab:Tab} {Γ:Gam} {o:Oper} {next:Act->World->Prop} {Q:Exit->Act->World->Prop} {k:Option Nat} {ks iks bks:List Nat} {H:Type} {enc:TypeId×Value->H}
def XwQ(ms:List Nat):List Edge->Nat
 | []=>0
 | e::r=>match Region.binds .any e with
   | true=>(2 ^ e.on|||ms.getD e.on 0)|||XwQ ms r
   | false=>XwQ ms r
def XeE:List Oper->List Nat->List Nat
 | [],ms=>ms
 | o::l,ms=>XeE l (ms++[XwQ ms o.after.toList])
theorem XlZ{ms:List Nat}{i:Nat}:∀{es:List Edge},(XwQ ms es).testBit i=true->∃e∈es,Region.binds .any e=true/\(e.on=i\/(ms.getD e.on 0).testBit i=true)
 | [],h=>by simp[XwQ]at h
 | e::r,h=>by
   simp only[XwQ]at h;split at h
   . rename_i hb;simp only[Nat.testBit_or,Ya5,Nat.testBit_two_pow,Yaj]at h;rcases h with h | h
     . exact⟨e,by simp,hb,h⟩
     . obtain⟨e',h1,h2,h3⟩:=XlZ h;exact⟨e',Yan _ h1,h2,h3⟩
   . obtain⟨e',h1,h2,h3⟩:=XlZ h;exact⟨e',Yan _ h1,h2,h3⟩
def Xu7(j:Nat):List Edge->Bool
 | []=>true
 | e::r=>(match Region.binds .any e with | true=>decide (e.on<j) | false=>true)&&Xu7 j r
theorem Xle{j:Nat}:∀{es:List Edge},Xu7 j es=true->∀e∈es,Region.binds .any e=true->e.on<j
 | [],_,e,he,_=>by cases he
 | e::r,h,e',he,hb=>by
   simp only[Xu7,Yac]at h;rcases Yak.1 he with h1 | h1
   . subst h1;rw[hb]at h;simpa using h.1
   . exact Xle h.2 e' h1 hb
def Xyl(o:Oper):List Nat:=match o.dst with
 | some d=>[d]
 | none=>[]
theorem Xmb{o:Oper}{d:Nat}(h:o.dst=some d):d∈Xyl o:=by simp[Xyl,h]
def XsT(S B R:List Nat)(o:Oper)(x:Option Eff):Bool:=Xgq (Xyl o) S&&Xgq (tB o x) B&&Xgq (tR x) R
theorem Xol{S B R:List Nat}{o:Oper}{x:Option Eff}(h:XsT S B R o x=true):Xp3 S B R o x:=by
 simp only[XsT,Yac]at h;exact⟨λd hd=>X8z h.1.1 d (Xmb hd),X8z h.1.2,X8z h.2⟩
def Xsk(o:Oper)(x:Option Eff)(o':Oper)(x':Option Eff):Bool:=Xgq (Xyl o) (Xyl o')&&Xgq (tB o x) (tB o' x')&&Xgq (tR x) (tR x')
theorem Xp4{o o':Oper}{x x':Option Eff}(h:Xsk o x o' x'=true):Xn8 o x o' x':=by
 simp only[Xsk,Yac]at h;exact⟨λd hd e=>X8z h.1.1 d (Xmb hd) (Xmb e),X8z h.1.2,X8z h.2⟩
def Xoz:Option Eff->Option Eff
 | some e=>some {e with krow:=[]}
 | none=>none
def Xjj:List (Oper×Option Eff)->List (Oper×Option Eff)
 | []=>[]
 | (o,x)::l=>(o,Xoz x)::Xjj l
structure Sub (s s':St):Prop where
 slots:∀p∈s.slots,p∈s'.slots
 boxes:∀p∈s.boxes,p∈s'.boxes
 rows:∀p∈s.rows,p∈s'.rows
theorem XcU{k:Nat}:∀{l:List (Nat×Sv)},Xaf k l=true↔∀p∈l,XsN k p.2=true
 | []=>by simp[Xaf]
 | p::l=>by simp[Xaf,XcU (l:=l)]
theorem XcT{k:Nat}:∀{l:List (Nat×Sv)},Xae k l=true↔∀p∈l,Xqh k p.2=true
 | []=>by simp[Xae]
 | p::l=>by simp[Xae,XcT (l:=l)]
theorem Xd6{k:Nat}:∀{l:List (Nat×List X02)},X6z k l=true↔∀p∈l,XmW k p.2=true
 | []=>by simp[X6z]
 | p::l=>by simp[X6z,Xd6 (l:=l)]
theorem Xd4{r ver:Nat}:∀{l:List (Nat×Sv)},X8Y r ver l=true↔∀p∈l,XhW r ver p.2=true
 | []=>by simp[X8Y]
 | p::l=>by simp[X8Y,Xd4 (l:=l)]
theorem XcQ{r ver:Nat}:∀{l:List (Nat×List X02)},X90 r ver l=true↔∀p∈l,Xa3 r ver p.2=true
 | []=>by simp[X90]
 | p::l=>by simp[X90,XcQ (l:=l)]
theorem Sub.noVers{s s':St}(h:Sub s s'):∀{l:List (Nat×X0L)},noVers s' l=true->noVers s l=true
 | [],_=>rfl
 | (r,.hot _ _ _ ver _ _)::l,hn=>by
   simp only[Bv.noVers,Yac]at hn ⊢;exact⟨⟨Xd4.2 λp hp=>Xd4.1 hn.1.1 p (h.slots p hp),XcQ.2 λp hp=>XcQ.1 hn.1.2 p (h.boxes p hp)⟩,h.noVers hn.2⟩
 | (r,.cold _)::l,hn=>by simp only[Bv.noVers]at hn ⊢;exact h.noVers hn
 | (r,.frz _ _ _ _ _)::l,hn=>by simp only[Bv.noVers]at hn ⊢;exact h.noVers hn
theorem Sub.noTag{s s':St}(h:Sub s s'){r:Nat}(hn:noTag r s'=true):noTag r s=true:=by
 unfold Bv.noTag at hn ⊢;simp only[Yac,YaS]at hn ⊢;refine⟨⟨XcT.2 λp hp=>XcT.1 hn.1.1 p (h.slots p hp),Xd6.2 λp hp=>Xd6.1 hn.1.2 p (h.boxes p hp)⟩,?_⟩;cases hs:(look r s.rows).isSome with
 | false=>rfl
 | true=>
   obtain⟨x,hx⟩:=Xhw.1 hs;have:(look r s'.rows).isSome=true:=Xhw.2 ⟨x,h.rows _ hx⟩;rw[this]at hn;exact absurd hn.2 (by simp)
theorem Sub.noTags{s s':St}(h:Sub s s'):∀{l:List (Nat×X0L)},noTags s' l=true->noTags s l=true
 | [],_=>rfl
 | p::l,hn=>by
   simp only[Bv.noTags,Yac]at hn ⊢;exact⟨h.noTag hn.1,h.noTags hn.2⟩
theorem Sub.fresh{s s':St}(h:Sub s s'){e:Eff}{d:Option Nat}(hf:X3y e d s'=true):X3y e d s=true:=by
 unfold X3y at hf ⊢;simp only[Yac]at hf ⊢;refine⟨⟨⟨?_,h.noTags hf.1.1.2⟩,h.noVers hf.1.2⟩,hf.2⟩;have h1:=hf.1.1.1;split at h1
 . exact XcU.2 λp hp=>XcU.1 h1 p (h.slots p hp)
 . rfl
theorem Xrh{e:Eff}{rows rows':List (Nat×X0L)}(h:∀p∈rows,p∈rows'):∀p∈e.rowsOf rows,p∈({e with krow:=[]}:Eff).rowsOf rows':=λp hp=>by
 rw[X5J]at hp ⊢;rcases Yaf.1 hp with h1 | h1
 . exact Yaf.2 (.inl h1)
 . refine Yaf.2 (.inr ?_);have h2:=(YbA.1 h1).1;refine YbA.2 ⟨?_,rfl⟩;rcases Yaf.1 h2 with h3 | h3
   . exact Yaf.2 (.inl h3)
   . exact Yaf.2 (.inr (h p h3))
theorem Xoy{e:Eff}{rows:List (Nat×X0L)}:∀p∈rows,p∈({e with krow:=[]}:Eff).rowsOf rows:=λp hp=>by
 rw[X5J];exact Yaf.2 (.inr (YbA.2 ⟨Yaf.2 (.inr hp),rfl⟩))
theorem Sub.both{s s':St}(h:Sub s s')(o:Oper)(x:Option Eff):Sub (X1y o x s) (X1y o (Xoz x) s'):=by
 cases x with
 | none=>
   simp only[X1y,Xoz,X7S];cases o.dst with
   | none=>exact h
   | some d=>
     refine⟨λp hp=>?_,h.boxes,h.rows⟩;rcases Yak.1 hp with e | e
     . exact e▸Ycs
     . exact Yan _ (h.slots p e)
 | some e=>
   simp only[X1y,Xoz,Eff.apply];refine⟨?_,?_,?_⟩
   . intro p hp;cases hd:o.dst with
     | none=>rw[hd]at hp;exact h.slots p hp
     | some d=>
       rw[hd]at hp;rcases Yak.1 hp with e2 | e2
       . exact e2▸Ycs
       . exact Yan _ (h.slots p e2)
   . intro p hp;simp only at hp ⊢;cases hs:e.sbox<;>cases hd:o.dst<;>cases hn:e.nbox<;>simp only[hs,hd,hn,Yak]at hp ⊢
     all_goals first
      | exact h.boxes p hp
      | (rcases hp with e2 | e2
         . exact .inl e2
         . first
           | exact .inr (h.boxes p e2)
           | (rcases e2 with e3 | e3
              . exact .inr (.inl e3)
              . exact .inr (.inr (h.boxes p e3))))
   . exact Xrh h.rows
theorem Sub.right{s s':St}(h:Sub s s')(o:Oper)(x:Option Eff):Sub s (X1y o (Xoz x) s'):=by
 cases x with
 | none=>
   simp only[X1y,Xoz,X7S];cases o.dst with
   | none=>exact h
   | some d=>exact⟨λp hp=>Yan _ (h.slots p hp),h.boxes,h.rows⟩
 | some e=>
   simp only[X1y,Xoz,Eff.apply];refine⟨?_,?_,?_⟩
   . intro p hp;cases hd:o.dst with
     | none=>exact h.slots p hp
     | some d=>exact Yan _ (h.slots p hp)
   . intro p hp;have:=h.boxes p hp;cases hs:e.sbox<;>cases hd:o.dst<;>cases hn:e.nbox<;>simp[this]
   . exact λp hp=>Xoy p (h.rows p hp)
theorem Sub.mix{L L':Nat->Bool}(hL:∀i,L i=true->L' i=true):∀{l:List (Oper×Option Eff)} {k:Nat} {s s':St},Sub s s'->Sub (X8O L k l s) (X8O L' k (Xjj l) s')
 | [],_,_,_,h=>h
 | (o,x)::l,k,s,s',h=>by
   simp only[X8O,Xjj];refine Sub.mix hL ?_;cases h1:L k
   . cases h2:L' k
     . exact h
     . exact h.right o x
   . rw[hL k h1];exact h.both o x
def Xq3(ms:List Nat)(zl:List (Oper×Option Eff))(S B R:List Nat)(o:Oper)(x:Option Eff)(j:Nat):Nat->Bool
 | 0=>true
 | i+1=>(i==j||(ms.getD j 0).testBit i||(ms.getD i 0).testBit j||(match zl[i]? with
    | some (o',x')=>XsT S B R o' x'&&Xsk o x o' x'
    | none=>false))&&Xq3 ms zl S B R o x j i
theorem XjP{ms:List Nat}{zl:List (Oper×Option Eff)}{S B R:List Nat}{o:Oper}{x:Option Eff}{j:Nat}:∀{n:Nat},Xq3 ms zl S B R o x j n=true->
 ∀i<n,i≠j->(ms.getD j 0).testBit i=false->(ms.getD i 0).testBit j=false->∀o' x',zl[i]?=some (o',x')->Xp3 S B R o' x'/\Xn8 o x o' x'
 | 0,_,i,hi,_,_,_,_,_,_=>by omega
 | n+1,h,i,hi,hne,h1,h2,o',x',hz=>by
   simp only[Xq3,Yac,Ya5,YbW]at h;by_cases he:i=n
   . subst he;rcases h.1 with((h3 | h3) | h3) | h3
     . exact absurd h3 hne
     . rw[h1]at h3;cases h3
     . rw[h2]at h3;cases h3
     . rw[hz]at h3;simp only[Yac]at h3;exact⟨Xol h3.1,Xp4 h3.2⟩
   . exact XjP h.2 i (by omega) hne h1 h2 o' x' hz
def XwE(s:St)(o:Oper):List Nat:=Xva s o.op.operands.toList
def Xts(s:St)(o:Oper):List Nat:=Xvi s o.op.operands.toList
def XjT(all:List Oper)(o:Oper):List Nat:=Xd7 o.op.operands.toList++Xtp all o
def Xgu:Option X0L->Bool
 | some (.frz ..)=>true
 | _=>false
def Xlb(o:Oper):Bool:=match o.op with
 | .move _=>true
 | .assign _=>true
 | _=>false
def nfE(r:Nat):Option Eff->Bool
 | some e=>(e.nrow++e.urow).all λq=>!(q.1==r&&Xgu (some q.2))
 | none=>true
def nfB(zl:List (Oper×Option Eff))(s0:St):List Nat->Bool
 | []=>true
 | r::l=>!Xgu (s0.rowv r)&&(zl.all λp=>nfE r p.2)&&nfB zl s0 l
theorem Xpb{zl:List (Oper×Option Eff)}{s0:St}:∀{l:List Nat},nfB zl s0 l=true->∀r∈l,Xgu (s0.rowv r)=false/\∀p∈zl,nfE r p.2=true
 | [],_,r,hr=>by cases hr
 | r0::l,h,r,hr=>by
   simp only[nfB,Yac,YaS,Ya7]at h;rcases Yak.1 hr with e | hr
   . subst e;exact⟨h.1.1,h.1.2⟩
   . exact Xpb h.2 r hr
theorem XtT{o:Oper}{x:Option Eff}{s:St}{r:Nat}(h:Xgu (s.rowv r)=false)(he:nfE r x=true):Xgu ((X1y o x s).rowv r)=false:=by
 cases x with
 | none=>
   have:(X1y o none s).rowv r=s.rowv r:=by simp only[X1y,X7S];cases o.dst<;>rfl
   rw[this];exact h
 | some e=>
   simp only[nfE,Ya7]at he;have hrows:(X1y o (some e) s).rowv r=look r (e.nrow++X0A e.urow e.krow s.rows):=by
    simp only[X1y,Eff.apply,St.rowv,X5J]
   rw[hrows,X5v];have mem:∀rv,(r,rv)∈e.nrow++e.urow->Xgu (some rv)=false:=λrv hm=>by
    have:=he (r,rv) hm;simpa using this
   cases hl:look r e.nrow with
   | some rv=>exact mem rv (Yaf.2 (.inl (X3O hl)))
   | none=>
     simp only;cases hl2:look r (X0A e.urow e.krow s.rows) with
     | none=>rfl
     | some rv=>
       rcases(X4y hl2).2 with h1 | ⟨_,h1⟩
       . exact mem rv (Yaf.2 (.inr (X3O h1)))
       . have h2:s.rowv r=some rv:=h1;rw[h2]at h;exact h
theorem XrB{r:Nat}{L:Nat->Bool}:∀{l:List (Oper×Option Eff)} {k:Nat} {s:St},Xgu (s.rowv r)=false->(∀p∈l,nfE r p.2=true)->Xgu ((X8O L k l s).rowv r)=false
 | [],_,_,h,_=>h
 | (o,x)::l,k,s,h,he=>by
   simp only[X8O];refine XrB ?_ λp hp=>he p (Yan _ hp);cases L k
   . exact h
   . exact XtT h (he (o,x) (by simp))
theorem Xxn{rows:List (Nat×X0L)}{c:X02}(h:∀r,Xyc c=some r->Xgu (look r rows)=false):Xo9 rows c=c:=by
 cases c<;>first | rfl | skip
 . rename_i t r;have h1:=h r rfl;simp only[Xo9];split
   . rename_i hl;rw[hl]at h1;cases h1
   . rfl
 . rename_i t r lo hi;have h1:=h r rfl;simp only[Xo9];split
   . rename_i hl;rw[hl]at h1;cases h1
   . rfl
 . rename_i t l r ver p;have h1:=h r rfl;simp only[Xo9];split
   . rename_i hl;rw[hl]at h1;cases h1
   . rfl
theorem XlM{rows:List (Nat×X0L)}:∀{cs:List X02},(∀r∈XcV cs,Xgu (look r rows)=false)->XbT rows cs=cs
 | [],_=>rfl
 | c::cs,h=>by
   simp only[XbT];rw [Xxn λr hr=>h r (XjM (by simp) hr),XlM λr hr=>h r (by
    simp only[XcV];split
    . exact Yan _ hr
    . exact hr)]
theorem Xt7{rows:List (Nat×X0L)}:∀{l:List (Bool×List X02)},(∀r∈Xp2 l,Xgu (look r rows)=false)->resL rows l=l
 | [],_=>rfl
 | (a,cs)::l,h=>by
   simp only[resL];rw[XlM λr hr=>h r (by simp[Xp2,hr]),Xt7 λr hr=>h r (by simp[Xp2,hr])]
theorem Xus{rows:List (Nat×X0L)}{sv:Sv}(h:∀r∈X8N sv,Xgu (look r rows)=false):Xd2 rows sv=sv:=by
 cases sv<;>first | rfl | skip
 . simp only[Xd2];rw[XlM h]
 . simp only[Xd2];rw[Xt7 h]
 . rename_i cs r ver;have h1:=h r (by simp[X8N]);simp only[Xd2];split
   . rename_i hl;rw[hl]at h1;cases h1
   . rfl
theorem Xhv{α:Type}{l:List (Nat×α)}{r:Nat}:∀{ks:List Nat} {x:α},look r (pick l ks)=some x->look r l=some x
 | [],x,h=>by cases h
 | k::ks,x,h=>by
   simp only[pick]at h;split at h
   . rename_i y hy;rw[X08]at h;split at h
     . rename_i e;subst e;cases h;exact hy
     . exact Xhv h
   . exact Xhv h
theorem Xll{s:St}{x:Operand}(h:∀r∈opR s x,Xgu (s.rowv r)=false):(X3x s x).sv=match x with | .tmp t=>s.get t | .const v=>XfY v | .func f=>.fn f [] [] | .global _=>.und:=by
 cases x with
 | tmp t=>
   show Xd2 _ (s.get t)=s.get t;refine Xus λr hr=>?_;have h1:=h r (by simp[opR,hr]);cases hl:look r (pick s.rows (X8N (s.get t)++XeM (pick s.boxes (X4I (s.get t))))) with
   | none=>rfl
   | some rv=>
     have h2:s.rowv r=some rv:=Xhv hl;rw[h2]at h1;exact h1
 | _=>rfl
theorem Xra{o:Oper}{s s':St}(hm:Xlb o=true)(h:∀x∈o.op.operands.toList,(X3x s' x).sv=(X3x s x).sv):XcW tab Γ o s'=XcW tab Γ o s:=by
 have gen:∀(x:Operand),(o.op=.move x\/o.op=.assign x)->∀st:St,XcW tab Γ o st=some ([],({sv:=Xii tab o.type (X3x st x).sv}:Eff).frz []):=λx hx st=>by
  rcases hx with hx | hx
  . have ho:o.op.operands.toList=[x]:=by rw[hx];rfl
    unfold XcW;simp only[ho,Yas,YaI];have hc:X55 Γ o [X3x st x]=none:=by unfold X55;rw[hx]
    have hn:X8I tab Γ o [X3x st x]=[]:=by unfold X8I;rw[hc,hx]
    rw[hn];show Xf7 tab Γ o [] [X3x st x]=_;unfold Xf7;rw[hc];simp only[YaI,X60,XfA,hx]
  . have ho:o.op.operands.toList=[x]:=by rw[hx];rfl
    unfold XcW;simp only[ho,Yas,YaI];have hc:X55 Γ o [X3x st x]=none:=by unfold X55;rw[hx]
    have hn:X8I tab Γ o [X3x st x]=[]:=by unfold X8I;rw[hc,hx]
    rw[hn];show Xf7 tab Γ o [] [X3x st x]=_;unfold Xf7;rw[hc];simp only[YaI,X60,XfA,hx]
 unfold Xlb at hm;split at hm
 . rename_i x hx;rw[gen x (.inl hx) s',gen x (.inl hx) s,h x (by rw[hx];simp[Op.operands])]
 . rename_i x hx;rw[gen x (.inr hx) s',gen x (.inr hx) s,h x (by rw[hx];simp[Op.operands])]
 . cases hm
def Xgr(o:Oper):Bool:=match o.op with
 | .move _=>true
 | .assign _=>true
 | .nilCheck _=>true
 | .fieldAddr _ _ _=>true
 | .load _ _=>true
 | _=>false
def XoJ(o:Oper):Bool:=match o.op with
 | .load _ _=>false
 | _=>true
def Xhc(s:St)(o:Oper):Bool:=Xgr o&&match o.op.operands.toList with
 | [.tmp t]=>match s.get t with
   | .box _ _=>XoJ o
   | .pp _ _=>true
   | _=>false
 | _=>false
def Xlc(zl:List (Oper×Option Eff))(s0 s:St)(o:Oper):List Nat:=match Xhc s o||(Xlb o&&nfB zl s0 (Xts s o)) with
 | true=>[]
 | false=>Xts s o
def Xk6(s:St)(o:Oper):List Nat:=match Xhc s o with
 | true=>[]
 | false=>XwE s o
def Xr6(o:Oper):Sv->Bool
 | .box _ _=>XoJ o
 | .pp _ _=>true
 | _=>false
theorem Xnu{s:St}{o:Oper}(h:Xhc s o=true):Xgr o=true/\∃t,o.op.operands.toList=[.tmp t]/\Xr6 o (s.get t)=true:=by
 unfold Xhc at h;rw[Yac]at h;obtain⟨h1,h2⟩:=h;refine⟨h1,?_⟩;split at h2
 . rename_i t ht;refine⟨t,ht,?_⟩;split at h2
   . rename_i k f hk;rw[hk];exact h2
   . rename_i k f hk;rw[hk];rfl
   . cases h2
 . cases h2
theorem XrV{o:Oper}{x y:In}(hp:Xgr o=true)(hx:Xr6 o x.sv=true)(hxy:y.sv=x.sv):XfA tab Γ o [y]=XfA tab Γ o [x]:=by
 unfold Xgr at hp;cases hsv:x.sv<;>rw[hsv]at hx<;>simp only[Xr6]at hx<;>try (cases hx;done)
 all_goals
  rw[hsv]at hxy;split at hp<;>rename_i hop<;>first
   | (cases hp;done)
   | (simp only[XfA,hop,hsv,hxy];done)
   | (unfold XoJ at hx;rw[hop]at hx;cases hx)
theorem Xsz{o:Oper}{s s':St}{t:Nat}(hp:Xgr o=true)(hops:o.op.operands.toList=[.tmp t])(h:Xr6 o (s.get t)=true)(hs:s'.get t=s.get t):XcW tab Γ o s'=XcW tab Γ o s:=by
 have hin:∀st:St,Xr6 o (st.get t)=true->(X3x st (.tmp t)).sv=st.get t:=λst h=>by
  show Xd2 _ (st.get t)=st.get t;cases hg:st.get t<;>rw[hg]at h<;>simp only[Xr6]at h<;>first | rfl | (cases h;done)
 have gen:∀st:St,XcW tab Γ o st=match XfA tab Γ o [X3x st (.tmp t)] with | some (ps,e)=>some (ps,e.frz []) | none=>none:=λst=>by
  unfold XcW;simp only[hops,Yas,YaI];have hc:X55 Γ o [X3x st (.tmp t)]=none:=by
   unfold Xgr at hp;unfold X55;split at hp<;>rename_i hop<;>first | (cases hp;done) | (rw[hop])
  have hn:X8I tab Γ o [X3x st (.tmp t)]=[]:=by
   unfold Xgr at hp;unfold X8I;rw[hc];split at hp<;>rename_i hop<;>first | (cases hp;done) | (rw[hop])
  rw[hn];show Xf7 tab Γ o [] [X3x st (.tmp t)]=_;unfold Xf7;rw[hc];simp only[YaI,X60];rfl
 rw[gen s',gen s,XrV hp (x:=X3x s (.tmp t)) (by rw[hin s h];exact h) (by rw[hin s h,hin s' (by rw[hs];exact h),hs])]
def XsH(all:List Oper)(ms:List Nat)(zl:List (Oper×Option Eff))(s0:St)(j:Nat)(o:Oper)(x:Option Eff):Bool:=
 Xu7 j o.after.toList&&(ms.getD j 0==XwQ ms o.after.toList)&&decide (ms.getD j 0<2 ^ j)&&
 Xq3 ms zl (XjT all o) (Xk6 (X1F (zl.take j) s0) o) (Xlc zl s0 (X1F (zl.take j) s0) o) o x j zl.length&&
 (match x with | some e=>X3y e o.dst (X8O (λi=>!(i==j||(ms.getD i 0).testBit j)) 0 (Xjj zl) s0) | none=>true)
def Xuq(all:List Oper)(ms:List Nat)(zl:List (Oper×Option Eff))(s0:St):Nat->List (Oper×Option Eff)->Bool
 | _,[]=>true
 | j,(o,x)::l=>XsH all ms zl s0 j o x&&Xuq all ms zl s0 (j+1) l
theorem Xh9{all:List Oper}{ms:List Nat}{zl:List (Oper×Option Eff)}{s0:St}:∀{l:List (Oper×Option Eff)} {k:Nat},Xuq all ms zl s0 k l=true->∀j o x,l[j]?=some (o,x)->XsH all ms zl s0 (k+j) o x=true
 | [],_,_,j,o,x,hj=>by simp at hj
 | (o,x)::l,k,h,j,o',x',hj=>by
   simp only[Xuq,Yac]at h;cases j with
   | zero=>simp at hj;obtain⟨rfl,rfl⟩:=hj;exact h.1
   | succ j=>rw[show k+(j+1)=k+1+j by omega];exact Xh9 h.2 j o' x' (by simpa using hj)
def Xkx(all:List Oper)(outs:List (Option Eff))(s0:St):Bool:=Xuq all (XeE all []) (all.zip outs) s0 0 (all.zip outs)
def XhP(nt:Nat):List Oper->Bool
 | []=>true
 | o::l=>(match o.dst with | some d=>decide (d<nt) | none=>true)&&XhP nt l
theorem Xe4{nt:Nat}:∀{l:List Oper},XhP nt l=true->∀o∈l,∀d,o.dst=some d->d<nt
 | [],_,o,ho,_,_=>by cases ho
 | o::l,h,o',ho',d,hd=>by
   simp only[XhP,Yac]at h;rcases Yak.1 ho' with e | e
   . subst e;rw[hd]at h;simpa using h.1
   . exact Xe4 h.2 o' e d hd
theorem Xfn{ops:Array Oper}{o:Oper}{c:Bool}(hS:Sim P base M0 ios σ M w a st)(h:Xep ops.toList o st=some c):Region.wanted o (yielded ops a.tmps)=c:=by
 unfold Xep at h;cases hg:o.guard with
 | none=>rw[hg]at h;cases h;simp[Region.wanted,hg]
 | some g=>
   obtain⟨j,wn⟩:=g;rw[hg]at h;simp only at h;cases hj:X6i ops.toList j with
   | none=>rw[hj]at h;cases h
   | some d=>
     rw[hj]at h;simp only at h;split at h
     . rename_i b hb;cases h;simp only[Region.wanted,hg,Xl2 hj (hS.boolAt hb)];cases b<;>cases wn<;>rfl
     . rename_i hb;cases h;have hs:=hS.slots d;rw[hb]at hs;obtain⟨vs,hv,h2⟩:=hs;have hvs:vs=#[]:=by
        have:vs.toList=[]:=by
         cases hl:vs.toList with
         | nil=>rfl
         | cons x l=>rw[hl]at h2;cases h2
        simpa using this
       rw[hvs]at hv;simp only[Region.wanted,hg,Xjw hj hv];rfl
     . cases h
theorem XoQ{L:Nat->Bool}:∀{l:List (Oper×Option Eff)} {k:Nat} {s:St},(X8O L k l s).nt=s.nt
 | [],_,_=>rfl
 | (o,x)::l,k,s=>by
   simp only[X8O,XoQ (l:=l)];cases L k
   . rfl
   . exact Xgm _ _ _
theorem XeA{L:Nat->Bool}:∀{l:List (Oper×Option Eff)} {k:Nat} {s:St},(∀i,k<=i->L i=false)->X8O L k l s=s
 | [],_,_,_=>rfl
 | (o,x)::l,k,s,h=>by
   simp only[X8O,h k (YaC _),cond_false];exact XeA λi hi=>h i (by omega)
theorem XfT:∀{l:List (Oper×Option Eff)} {j k:Nat} {s:St},X1F (l.take j) s=X8O (λi=>decide (i<k+j)) k l s
 | [],j,k,s=>by simp[X1F,X8O]
 | (o,x)::l,0,k,s=>by
   rw[XeA (λi hi=>by simp;omega)];rfl
 | (o,x)::l,j+1,k,s=>by
   rw[Yb1,X6b];simp only[X8O,show decide (k<k+(j+1))=true by simp,Ydx];rw[XfT (k:=k+1)]
   congr 1
   funext i
   rw[show k+1+j=k+(j+1) by omega]
theorem Xmm{p q:Nat->Bool}:∀{l:List Nat},(∀x,q x=true->p x=true)->(∃x∈l,p x=true/\q x=false)->l.countP q<l.countP p
 | [],_,⟨x,hx,_⟩=>by cases hx
 | y::l,h,⟨x,hx,hp,hq⟩=>by
   have hle:l.countP q<=l.countP p:=List.countP_mono_left λz _=>h z;rcases Yak.1 hx with e | hx
   . subst e;rw[YcM hp,Ycp (by simp[hq])];omega
   . have ih:=Xmm h ⟨x,hx,hp,hq⟩;by_cases hy:p y=true
     . rw[YcM hy];by_cases hy':q y=true
       . rw[YcM hy'];omega
       . rw[Ycp hy'];omega
     . rw[Ycp hy,Ycp (λe=>hy (h y e))];exact ih
def unl(n:Nat)(listed:Array Bool):Nat:=(List.range n).countP λi=>!listed.getD i false
theorem X0O{listed:Array Bool}{i:Nat}(h:i<listed.size)(b c:Bool):listed.getD i b=listed.getD i c:=by
 rw[Ybf,Ybf,Array.getElem?_eq_getElem h];rfl
theorem X9u{listed:Array Bool}{i:Nat}(h:i<listed.size)(j:Nat):(listed.setIfInBounds i true).getD j false=(listed.getD j false||j==i):=by
 by_cases hj:i=j
 . subst hj;have:(listed.setIfInBounds i true).getD i false=true:=by
    rw[Ybf,Array.getElem?_setIfInBounds_self_of_lt h];rfl
   rw[this];simp
 . rw[getD_set_ne false hj];have:(j==i)=false:=by simp[YaK hj]
   rw[this,Ydj]
theorem Xe1{ops:Array Oper}{outs:List (Option Eff)}{st0:St}(hlen:outs.length=ops.toList.length)(hok:Xkx ops.toList outs st0=true){listed:Array Bool}(hsz:listed.size=ops.size)(hcl:∀j,listed.getD j false=true->∀i,((XeE ops.toList []).getD j 0).testBit i=true->listed.getD i false=true){i:Nat}{o:Oper}{x:Option Eff}(hli:listed.getD i false=false)(hed:∀e∈o.after,Region.binds .any e=true->listed.getD e.on false=true)(hx:(ops.toList.zip outs)[i]?=some (o,x)):
 (∀k,((XeE ops.toList []).getD i 0).testBit k=true->listed.getD k false=true)/\
 (∀k o' x',(ops.toList.zip outs)[k]?=some (o',x')->k≠i->((k<i/\listed.getD k false=false)\/(i<k/\listed.getD k false=true))->Xp3 (XjT ops.toList o) (Xk6 (X1F ((ops.toList.zip outs).take i) st0) o) (Xlc (ops.toList.zip outs) st0 (X1F ((ops.toList.zip outs).take i) st0) o) o' x'/\Xn8 o x o' x')/\
 Xeu (XjT ops.toList o) (Xk6 (X1F ((ops.toList.zip outs).take i) st0) o) (Xlc (ops.toList.zip outs) st0 (X1F ((ops.toList.zip outs).take i) st0) o) (X1F ((ops.toList.zip outs).take i) st0) (X8O (λj=>listed.getD j false) 0 (ops.toList.zip outs) st0)/\
 (∀k,listed.getD k false=true->((XeE ops.toList []).getD k 0).testBit i=false)/\
 (∀e,x=some e->X3y e o.dst (X8O (λk=>!(k==i||((XeE ops.toList []).getD k 0).testBit i)) 0 (Xjj (ops.toList.zip outs)) st0)=true):=by
 have one:=fun(j:Nat) (o:Oper) (x:Option Eff) (hj:(ops.toList.zip outs)[j]?=some (o,x))=>by
  have:=Xh9 (k:=0) hok j o x hj;rw[YaU]at this;exact this
 have h1:=one i o x hx;simp only[XsH,Yac,YbW,Yaj]at h1;obtain⟨⟨⟨⟨hback,hms⟩,hml⟩,hpair⟩,hfresh⟩:=h1;have hanc:∀k,((XeE ops.toList []).getD i 0).testBit k=true->listed.getD k false=true:=by
  intro k hk;rw[hms]at hk;obtain⟨e,he,hb,h3⟩:=XlZ hk;have hon:=hed e (by simpa using he) hb;rcases h3 with h3 | h3
  . rw[<-h3];exact hon
  . exact hcl _ hon k h3
 have hbits:∀k o' x',(ops.toList.zip outs)[k]?=some (o',x')->∀m,k<=m->((XeE ops.toList []).getD k 0).testBit m=false:=by
  intro k o' x' hk m hm;have h2:=one k o' x' hk;simp only[XsH,Yac,Yaj]at h2;exact Nat.testBit_lt_two_pow (Ybe h2.1.1.2 (Yck (by omega) hm))
 have clear:∀k o' x',(ops.toList.zip outs)[k]?=some (o',x')->k≠i->((k<i/\listed.getD k false=false)\/(i<k/\listed.getD k false=true))->Xp3 (XjT ops.toList o) (Xk6 (X1F ((ops.toList.zip outs).take i) st0) o) (Xlc (ops.toList.zip outs) st0 (X1F ((ops.toList.zip outs).take i) st0) o) o' x'/\Xn8 o x o' x':=by
  intro k o' x' hk hne hc;refine XjP hpair k (Ya3.1 hk).1 hne ?_ ?_ o' x' hk
  . rcases hc with⟨_,h2⟩ | ⟨h2,_⟩
    . cases hb:((XeE ops.toList []).getD i 0).testBit k with
      | false=>rfl
      | true=>rw[hanc k hb]at h2;cases h2
    . exact hbits i o x hx k (by omega)
  . rcases hc with⟨h2,_⟩ | ⟨_,h2⟩
    . exact hbits k o' x' hk i (by omega)
    . cases hb:((XeE ops.toList []).getD k 0).testBit i with
      | false=>rfl
      | true=>have:=hcl k h2 i hb;rw[hli]at this;cases this
 refine⟨hanc,clear,?_,?_,λe he=>by subst he;exact hfresh⟩
 . have e0:=XfT (l:=ops.toList.zip outs) (j:=i) (k:=0) (s:=st0);refine Xeu.trans (s':=X8O (λk=>decide (k<0+i)) 0 (ops.toList.zip outs) st0) (by rw[<-e0];exact⟨λ_ _=>rfl,λ_ _=>rfl,λ_ _=>rfl⟩) ?_;refine XnL (λk o' x' hk hne=>?_) ⟨λ_ _=>rfl,λ_ _=>rfl,λ_ _=>rfl⟩;simp only[YaU]at hne;have hki:k≠i:=by intro e;subst e;rw[hli]at hne;simp at hne
   refine(clear k o' x' hk hki ?_).1;by_cases hlt2:k<i
   . left;refine⟨hlt2,?_⟩;cases h4:listed.getD k false with
     | false=>rfl
     | true=>rw[h4]at hne;simp[hlt2]at hne
   . right;refine⟨by omega,?_⟩;cases h4:listed.getD k false with
     | true=>rfl
     | false=>rw[h4]at hne;simp[hlt2]at hne
 . intro k hk;cases hkb:((XeE ops.toList []).getD k 0).testBit i with
   | false=>rfl
   | true=>have:=hcl k hk i hkb;rw[hli]at this;cases this
theorem Xo3(hT:X1E P tab)(hΓ:XfO P Γ){ops:Array Oper}{outs:List (Option Eff)}{st0:St}(past:Nat->Prop)(stop:Nat)(hdst:XhP st0.nt ops.toList=true)(hlen:outs.length=ops.toList.length)(hok:Xkx ops.toList outs st0=true)(hlate:∀j,stop<j->j<ops.size->((XeE ops.toList []).getD j 0).testBit stop=true)(hgood:∀j o x,¬past j->j<stop->(ops.toList.zip outs)[j]?=some (o,x)->Xfg tab Γ ops.toList (X1F ((ops.toList.zip outs).take j) st0) o x)(hq:ops.size<=stop->∀σ M w a,Sim P base M0 ios σ M w a (X1F (ops.toList.zip outs) st0)->Q .normal a w)(hst:∀(fuel:Nat) (listed:Array Bool) (σ:Sg) (M:Mem) (w:World) (a:Act) (o:Oper),listed.size=ops.size->unl ops.size listed<=fuel+1->
   (∀j,listed.getD j false=true->∀i,((XeE ops.toList []).getD j 0).testBit i=true->listed.getD i false=true)->(∀j,stop<=j->listed.getD j false=false)->
   ops[stop]?=some o->(∀e∈o.after,Region.binds .any e=true->listed.getD e.on false=true)->Sim P base M0 ios σ M w a (X8O (λj=>listed.getD j false) 0 (ops.toList.zip outs) st0)->
   wpOp P ops Q stop (wpAny P .any ops Q fuel (listed.setIfInBounds stop true)) a w):
 ∀(fuel:Nat) (listed:Array Bool) (σ:Sg) (M:Mem) (w:World) (a:Act),listed.size=ops.size->unl ops.size listed<=fuel->
  (∀j,listed.getD j false=true->∀i,((XeE ops.toList []).getD j 0).testBit i=true->listed.getD i false=true)->(∀j,past j->listed.getD j false=true)->(∀j,stop<=j->listed.getD j false=false)->
  Sim P base M0 ios σ M w a (X8O (λj=>listed.getD j false) 0 (ops.toList.zip outs) st0)->wpAny P .any ops Q fuel listed a w:=by
 have zlen:(ops.toList.zip outs).length=ops.size:=by simp[YcH,hlen]
 have done:∀(listed:Array Bool) (σ:Sg) (M:Mem) (w:World) (a:Act),(∀j,j<ops.size->listed.getD j false=true)->(∀j,stop<=j->listed.getD j false=false)->Sim P base M0 ios σ M w a (X8O (λj=>listed.getD j false) 0 (ops.toList.zip outs) st0)->Q .normal a w:=by
  intro listed σ M w a hall hsp hS;refine hq (Nat.le_of_not_lt λhlt=>by have:=hall stop hlt;rw[hsp stop (YaC _)]at this;cases this) σ M w a ?_;unfold X1F;rw[XjD (L:=λ_=>true) (L':=λj=>listed.getD j false) _ (λi hi=>by rw[YaU];exact(hall i (by omega)).symm)];exact hS
 have one:=fun(j:Nat) (o:Oper) (x:Option Eff) (hj:(ops.toList.zip outs)[j]?=some (o,x))=>by
  have:=Xh9 (k:=0) hok j o x hj;rw[YaU]at this;exact this
 have nothing:∀(listed:Array Bool),listed.size=ops.size->Region.ready .any ops listed=[]->∀j,j<ops.size->listed.getD j false=true:=by
  intro listed hsz hr j
  induction j using Nat.strongRecOn with
  | _ j ih=>
    intro hj;cases hl:listed.getD j false with
    | true=>rfl
    | false=>
      exfalso;have:j∈Region.ready .any ops listed:=by
       refine mem_ready.2 ⟨by rw[X0O (by omega) true false];exact hl,ops[j],by simp[hj],λe he hb=>?_⟩;have hz:∃x,(ops.toList.zip outs)[j]?=some (ops[j],x):=by
        have:j<outs.length:=by simp at hlen;omega
        exact⟨outs[j],by rw[List.getElem?_zip_eq_some];simp[hj,this]⟩
       obtain⟨x,hx⟩:=hz;have h1:=one j _ x hx;simp only[XsH,Yac]at h1;have:=Xle h1.1.1.1.1 e (by simpa using he) hb;exact ih e.on this (by omega)
      rw[hr]at this;cases this
 intro fuel
 induction fuel with
 | zero=>
   intro listed σ M w a hsz hu hcl hpa hsp hS;have hall:∀j,j<ops.size->listed.getD j false=true:=by
    intro j hj;cases hl:listed.getD j false with
    | true=>rfl
    | false=>
      exfalso;have:0<(List.range ops.size).countP λi=>!listed.getD i false:=List.countP_pos_iff.2 ⟨j,by simpa using hj,by simp only[hl];rfl⟩;unfold unl at hu;omega
   refine⟨?_,done listed σ M w a hall hsp hS⟩;cases hr:Region.ready .any ops listed with
   | nil=>rfl
   | cons i r=>
     have hi:i∈Region.ready .any ops listed:=by rw[hr];simp
     obtain⟨h1,o,ho,_⟩:=mem_ready.1 hi;have hlt:=(YaO.1 ho).1;rw[X0O (by omega) true false,hall i hlt]at h1;cases h1
 | succ fuel ih=>
   intro listed σ M w a hsz hu hcl hpa hsp hS;refine⟨λhr=>done listed σ M w a (nothing listed hsz hr) hsp hS,λi hi=>?_⟩;obtain⟨hli,o,ho,hed⟩:=mem_ready.1 hi;have hlt:=(YaO.1 ho).1;rw[X0O (by omega) true false]at hli;obtain⟨x,hx⟩:∃x,(ops.toList.zip outs)[i]?=some (o,x):=by
    have h2:i<outs.length:=by simp at hlen;omega
    have h3:ops[i]=o:=(YaO.1 ho).2;exact⟨outs[i],by rw[List.getElem?_zip_eq_some];simp[hlt,h2,h3]⟩
   obtain⟨hanc,clear,hag,hdown,hfresh⟩:=Xe1 hlen hok hsz hcl hli hed hx;rcases YcT i stop with his | his | his
   rotate_left
   . subst his;exact hst fuel listed σ M w a o hsz hu hcl hsp ho hed hS
   . have:=hanc stop (hlate i his hlt);rw[hsp stop (YaC _)]at this;cases this
   have hins:XcW tab Γ o (X8O (λj=>listed.getD j false) 0 (ops.toList.zip outs) st0)=XcW tab Γ o (X1F ((ops.toList.zip outs).take i) st0):=by
    cases hpm:Xhc (X1F ((ops.toList.zip outs).take i) st0) o with
    | true=>
      obtain⟨hm1,t,hops,hget⟩:=Xnu hpm;exact Xsz hm1 hops hget (hag.get t (by simp[XjT,hops,Xd7])).symm
    | false=>
    have hbo:Xk6 (X1F ((ops.toList.zip outs).take i) st0) o=XwE (X1F ((ops.toList.zip outs).take i) st0) o:=by unfold Xk6;rw[hpm]
    rw[hbo]at hag;cases hmv:Xlb o&&nfB (ops.toList.zip outs) st0 (Xts (X1F ((ops.toList.zip outs).take i) st0) o) with
    | false=>
      have hrr:∀r∈Xts (X1F ((ops.toList.zip outs).take i) st0) o,(X1F ((ops.toList.zip outs).take i) st0).rowv r=(X8O (λj=>listed.getD j false) 0 (ops.toList.zip outs) st0).rowv r:=λr hr=>hag.row r (by unfold Xlc;rw[hpm,hmv];exact hr);have hag2:=λfz=>XiR (fz:=fz) o.op.operands.toList (s:=X1F ((ops.toList.zip outs).take i) st0) (s':=X8O (λj=>listed.getD j false) 0 (ops.toList.zip outs) st0) ⟨λk hk=>hag.get k (by simp[XjT,hk]),hag.box,hrr⟩;exact Xj3 (hag2 []).1 λfz=>(hag2 fz).2
    | true=>
      rw[Yac]at hmv;have hnf:=Xpb hmv.2;have e0:=XfT (l:=ops.toList.zip outs) (j:=i) (k:=0) (s:=st0);have tm:∀(xs:List Operand) (x:Operand),x∈xs->(∀k∈Xd7 [x],k∈Xd7 xs)/\∀(s:St),(∀k∈opB s x,k∈Xva s xs)/\∀r∈opR s x,r∈Xvi s xs:=λxs=>by
       induction xs with
       | nil=>intro x hx;cases hx
       | cons y ys ihx=>
         intro x hx;rcases Yak.1 hx with e | hx
         . subst e;refine⟨λk hk=>?_,λs=>⟨λk hk=>by simp[Xva,hk],λr hr=>by simp[Xvi,hr]⟩⟩;cases x<;>simp_all [Xd7]
         . obtain⟨q1,q2⟩:=ihx x hx;refine⟨λk hk=>?_,λs=>⟨λk hk=>by simp[Xva,(q2 s).1 k hk],λr hr=>by simp[Xvi,(q2 s).2 r hr]⟩⟩;have:=q1 k hk;cases y<;>simp[Xd7,this]
      refine Xra hmv.1 λx hx=>?_;obtain⟨t1,t2⟩:=tm _ x hx;have hget:∀t,x=.tmp t->(X1F ((ops.toList.zip outs).take i) st0).get t=(X8O (λj=>listed.getD j false) 0 (ops.toList.zip outs) st0).get t:=λt ht=>hag.get t (by subst ht;simp[XjT,t1 t (by simp[Xd7])]);have hor:opR (X8O (λj=>listed.getD j false) 0 (ops.toList.zip outs) st0) x=opR (X1F ((ops.toList.zip outs).take i) st0) x:=by
       cases x with
       | tmp t=>
         simp only[opR];rw[<-hget t rfl]
         congr 2
         refine(Xff λk hk=>?_).symm;exact hag.box k ((t2 _).1 k (by simp only[opB];exact hk))
       | _=>rfl
      have nf1:∀r∈opR (X1F ((ops.toList.zip outs).take i) st0) x,Xgu ((X1F ((ops.toList.zip outs).take i) st0).rowv r)=false/\Xgu ((X8O (λj=>listed.getD j false) 0 (ops.toList.zip outs) st0).rowv r)=false:=λr hr=>by
       obtain⟨q1,q2⟩:=hnf r ((t2 _).2 r hr);refine⟨?_,XrB q1 q2⟩;rw[e0];exact XrB q1 q2
      rw[Xll λr hr=>(nf1 r (hor▸hr)).2,Xll λr hr=>(nf1 r hr).1];cases x with
      | tmp t=>exact(hget t rfl).symm
      | _=>rfl
   have hwant:Xep ops.toList o (X8O (λj=>listed.getD j false) 0 (ops.toList.zip outs) st0)=Xep ops.toList o (X1F ((ops.toList.zip outs).take i) st0):=by
    unfold Xep;cases hg:o.guard with
    | none=>rfl
    | some g=>
      obtain⟨j,wn⟩:=g;simp only;cases hj:X6i ops.toList j with
      | none=>rfl
      | some d=>
        simp only;rw[<-hag.get d (by simp[XjT,Xtp,hg,hj])]
   have hmore:Ext (X1y o x (X8O (λj=>listed.getD j false) 0 (ops.toList.zip outs) st0)) (X8O (λj=>(listed.setIfInBounds i true).getD j false) 0 (ops.toList.zip outs) st0):=by
    refine Xmi (j:=i) hx (by rw[YaU];exact hli) (λk=>by rw[X9u (by omega),YaU]) (λk o' x' hk hlt2 hl=>?_);rw[YaU]at hl;exact(clear k o' x' hk (by omega) (.inr ⟨hlt2,hl⟩)).2
   have next:∀(σ':Sg) (M':Mem) (w':World) (a':Act),Sim P base M0 ios σ' M' w' a' (X1y o x (X8O (λj=>listed.getD j false) 0 (ops.toList.zip outs) st0))->wpAny P .any ops Q fuel (listed.setIfInBounds i true) a' w':=by
    intro σ' M' w' a' hS';refine ih _ σ' M' w' a' (by simp[hsz]) ?_ ?_ (λj hj=>by rw[X9u (by omega),hpa j hj];rfl) (λj hj=>by rw[X9u (by omega),hsp j hj,show(j==i)=false by simp;omega];rfl) (hS'.ext hmore)
    . have:unl ops.size (listed.setIfInBounds i true)<unl ops.size listed:=by
       unfold unl;refine Xmm (λk hk=>?_) ⟨i,by simpa using hlt,by rw[hli];rfl,by rw[X9u (by omega)];simp⟩;rw[X9u (by omega)]at hk;cases h4:listed.getD k false with
       | false=>rfl
       | true=>rw[h4]at hk;simp at hk
      omega
    . intro j hj k hk;rw[X9u (by omega)]at hj ⊢;have:listed.getD k false=true:=by
       by_cases hji:j=i
       . subst hji;exact hanc k hk
       . have:(j==i)=false:=by simp[hji]
         rw[this,Ydj]at hj;exact hcl j hj k hk
      rw[this];rfl
   unfold wpOp;rw[ho];simp only;have hg:=hgood i o x (λhp=>by rw[hpa i hp]at hli;cases hli) his hx;have hd':∀d,o.dst=some d->d<(X8O (λj=>listed.getD j false) 0 (ops.toList.zip outs) st0).nt:=by
    intro d hd;rw[XoQ];exact Xe4 hdst o (by rw[<-YbJ]at ho;exact YbB ho) d hd
   cases x with
   | none=>
     have hw:=Xfn (ops:=ops) hS (hwant.trans hg);rw[hw];simp only[Ycd,Ydu];exact next σ M w _ (hS.skip hd')
   | some e=>
     obtain⟨hg1,ps,hg2,hps⟩:=hg;have hw:=Xfn (ops:=ops) hS (hwant.trans hg1);rw[hw];simp only[Yci];left;refine Xov hT hΓ hS hd' (by rw[hins];exact hg2) hps ?_ λv σ' M' w' hS'=>next σ' M' w' _ hS'
     refine Sub.fresh (Sub.mix (L':=λk=>!(k==i||((XeE ops.toList []).getD k 0).testBit i)) (λk hk=>?_) ⟨λ_ h=>h,λ_ h=>h,λ_ h=>h⟩) (hfresh e rfl);have hki:(k==i)=false:=by
      cases hki:k==i with
      | false=>rfl
      | true=>
        have:k=i:=by simpa using hki
        subst this;simp only[hli]at hk;cases hk
     have hkb:=hdown k hk;simp only[hki,hkb];rfl
theorem XjB(hT:X1E P tab)(hΓ:XfO P Γ){ops:Array Oper}{outs:List (Option Eff)}{st0:St}(past:Nat->Prop)(hdst:XhP st0.nt ops.toList=true)(hlen:outs.length=ops.toList.length)(hok:Xkx ops.toList outs st0=true)(hgood:∀j o x,¬past j->(ops.toList.zip outs)[j]?=some (o,x)->Xfg tab Γ ops.toList (X1F ((ops.toList.zip outs).take j) st0) o x)(hq:∀σ M w a,Sim P base M0 ios σ M w a (X1F (ops.toList.zip outs) st0)->Q .normal a w):
 ∀(fuel:Nat) (listed:Array Bool) (σ:Sg) (M:Mem) (w:World) (a:Act),listed.size=ops.size->unl ops.size listed<=fuel->
  (∀j,listed.getD j false=true->∀i,((XeE ops.toList []).getD j 0).testBit i=true->listed.getD i false=true)->(∀j,past j->listed.getD j false=true)->
  Sim P base M0 ios σ M w a (X8O (λj=>listed.getD j false) 0 (ops.toList.zip outs) st0)->wpAny P .any ops Q fuel listed a w:=
 fun fuel listed σ M w a hsz hu hcl hpa hS=>Xo3 hT hΓ past ops.size hdst hlen hok (λj h1 h2=>by omega) (λj o x h1 _=>hgood j o x h1) (λ_=>hq)
  (fun _ _ _ _ _ _ o _ _ _ _ ho=>by simp at ho) fuel listed σ M w a hsz hu hcl hpa (λj hj=>by
    rw[Ybf,Ycc (by omega)];rfl) hS
def Xxr(Γ:Gam)(o:Oper):Bool:=match o.op with
 | .call c=>match c.callee with
   | .value (.func n)=>match Γ.con n with
     | some con=>con.f.isNone
     | none=>false
   | _=>false
 | _=>false
def XyA(Γ:Gam):List Oper->Nat->Option Nat
 | [],_=>none
 | o::l,k=>match Xxr Γ o with
   | true=>some k
   | false=>XyA Γ l (k+1)
def XuS(ms:List Nat)(m:Nat):Nat->Bool
 | 0=>true
 | i+1=>(Nat.ble i m||(ms.getD i 0).testBit m)&&XuS ms m i
def Xyd(all:List Oper)(m:Nat)(outs:List (Option Eff))(s0:St):Bool:=Xkx all (outs++List.replicate (all.length - m) none) s0&&XuS (XeE all []) m all.length
def vcG(all:List Oper)(o:Oper)(st:St)(K1 K0:St->Prop):Prop:=match o.guard with
 | none=>K1 st
 | some (j,Xep)=>match X6i all j with
   | some dj=>match st.get dj with
     | .val false [.bool b]=>X00 b (cond Xep (K1 (st.lit dj true)) (K0 (st.lit dj true))) (cond Xep (K0 (st.lit dj false)) (K1 (st.lit dj false)))
     | .tup []=>K0 st
     | _=>False
   | none=>False
def Xwx(tab:Tab)(Γ:Gam)(all:List Oper)(m:Nat)(st:St)(K:List (Option Eff)->St->Prop):Prop:=
 match all[m]? with
 | some o=>match Xxr Γ o with
   | true=>Xg2 tab Γ all (all.take m) st λoutsA st1=>match Xyd all m outsA st with
     | true=>vcG all o st1
        (λst2=>XmV tab Γ o st2 λe=>Xg2 tab Γ all (all.drop (m+1)) (e.apply o.dst st2) λouts st'=>K (outsA++some e::outs) st')
        (λst2=>Xg2 tab Γ all (all.drop (m+1)) (X7S o st2) λouts st'=>K (outsA++none::outs) st')
     | false=>False
   | false=>False
 | none=>False
def Xyy(tab:Tab)(Γ:Gam)(all:List Oper)(st:St)(K:St->Prop):Prop:=match XyA Γ all 0 with
 | none=>Xg2 tab Γ all all st λouts st'=>match Xkx all outs st with
   | true=>K st'
   | false=>False
 | some m=>Xwx tab Γ all m st λouts st'=>match Xkx all outs st with
   | true=>K st'
   | false=>False
theorem Xly{ms:List Nat}{m:Nat}:∀{n:Nat},XuS ms m n=true->∀j,m<j->j<n->(ms.getD j 0).testBit m=true
 | 0,_,j,_,h=>by omega
 | n+1,h,j,h1,h2=>by
   simp only[XuS,Yac,Ya5]at h;by_cases he:j=n
   . subst he;rcases h.1 with h3 | h3
     . have:=Nat.le_of_ble_eq_true h3;omega
     . exact h3
   . exact Xly h.2 j h1 (by omega)
theorem Xul{all:List Oper}{o:Oper}{K1 K0:St->Prop}(h:vcG all o st K1 K0):
 (Xep all o st=some true/\∃st2,Ext st2 st/\K1 st2)\/(Xep all o st=some false/\∃st2,Ext st2 st/\K0 st2):=by
 unfold vcG at h;unfold Xep;cases hg:o.guard with
 | none=>rw[hg]at h;exact .inl ⟨rfl,st,Ext.refl _,h⟩
 | some g=>
   obtain⟨j,wn⟩:=g;rw[hg]at h;simp only at h ⊢;cases hj:X6i all j with
   | none=>rw[hj]at h;exact h.elim
   | some dj=>
     rw[hj]at h;simp only at h ⊢;split at h
     . rename_i b hb;replace h:=Xgy h;cases hbb:b with
       | true=>
         have h1:=h.1 hbb;cases wn with
         | true=>exact .inl ⟨by simp only[hb,hbb];rfl,_,XeN hb hbb,h1⟩
         | false=>exact .inr ⟨by simp only[hb,hbb];rfl,_,XeN hb hbb,h1⟩
       | false=>
         have h1:=h.2 hbb;cases wn with
         | false=>exact .inl ⟨by simp only[hb,hbb];rfl,_,XeN hb hbb,h1⟩
         | true=>exact .inr ⟨by simp only[hb,hbb];rfl,_,XeN hb hbb,h1⟩
     . rename_i hb;exact .inr ⟨by simp only[hb],_,Ext.refl _,h⟩
     . exact h.elim
theorem XqQ{o:Oper}{s s':St}{K:Eff->Prop}(h0:o.op.operands.toList.map (X3x s')=o.op.operands.toList.map (X3x s))(hF:∀fz,o.op.operands.toList.map (X3x (X6e fz s'))=o.op.operands.toList.map (X3x (X6e fz s)))(hd:∀d,o.dst=some d->d<s'.nt)(h:XmV tab Γ o s K)(hf:∀e,K e->X3y e o.dst s'=true):XmV tab Γ o s' K:=by
 unfold XmV at h ⊢;split at h
 rotate_left
 . exact h.elim
 split
 rotate_left
 . rename_i hdd;exfalso;cases hdst:o.dst with
   | none=>rw[hdst]at hdd;cases hdd
   | some d=>rw[hdst]at hdd;have:=hd d hdst;simp only[Yaw]at hdd;exact hdd this
 . simp only[h0,XiI (hF _)];simp only at h;generalize X7i ((o.op.operands.toList.map (X3x s)).flatMap (·.rows)) (X8I tab Γ o (o.op.operands.toList.map (X3x s)))=fz at h ⊢;generalize Xic fz o s (o.op.operands.toList.map (X3x s))=ins at h ⊢;split at h
   . rename_i hnd;split at h
     . rename_i con ts xs hc;unfold Xgf at h ⊢;split at h
       . rename_i d x h1 h2 h3;obtain⟨hpre,hpost⟩:=h;refine⟨hpre,λy hy=>?_⟩;have h4:=hpost y hy;split at h4
         . rename_i br hbr;split at h4
           . rename_i hfr;have:=XdO (hf _ h4);rw[h1]at this;rw[this];exact h4
           . exact h4.elim
         . exact h4.elim
       . exact h.elim
     . split at h
       . exact h
       . split at h
         . rename_i ps e he;split at h
           . obtain⟨h1,h2⟩:=Xh3 h;rw[XdO (hf _ h2)];exact h
           . exact h.elim
         . exact h.elim
   . exact h.elim
theorem Xha:∀(l l':List (Oper×Option Eff)) (s:St),X1F (l++l') s=X1F l' (X1F l s)
 | [],_,_=>rfl
 | (o,x)::l,l',s=>by rw[Ybc,X6b,X6b,Xha l l']
theorem XiD{L:Nat->Bool}:∀{l:List (Oper×Option Eff)} {k m:Nat} {s:St},(∀i,k+m<=i->L i=false)->X8O L k l s=X8O L k (l.take m) s
 | [],_,_,_,_=>by simp[X8O]
 | (o,x)::l,k,0,s,h=>by rw[XeA (λi hi=>h i (by omega))];rfl
 | (o,x)::l,k,m+1,s,h=>by
   rw[Yb1];simp only[X8O];exact XiD λi hi=>h i (by omega)
theorem XpB{s s':St}(h:Ext s s')(o:Oper):o.op.operands.toList.map (X3x s')=o.op.operands.toList.map (X3x s)/\∀fz,o.op.operands.toList.map (X3x (X6e fz s'))=o.op.operands.toList.map (X3x (X6e fz s)):=
 ⟨YbE λx _=>(Xis h x).symm,λfz=>YbE λx _=>(Xis (XsJ h) x).symm⟩
theorem XoK{o:Oper}(h:Xxr Γ o=true):Xlb o=false:=by
 unfold Xxr at h;unfold Xlb;split at h
 . rename_i c hc;rw[hc]
 . cases h
theorem XqH{o:Oper}(h:Xxr Γ o=true):Xgr o=false:=by
 unfold Xxr at h;unfold Xgr;split at h
 . rename_i c hc;rw[hc]
 . cases h
theorem Xsm(hT:X1E P tab)(hΓ:XfO P Γ){ops:Array Oper}{m:Nat}{st0:St}{KK:St->Prop}(hdst:XhP st0.nt ops.toList=true)(h:Xwx tab Γ ops.toList m st0 λouts st'=>match Xkx ops.toList outs st0 with | true=>KK st' | false=>False)(hq:∀σ M w a st',KK st'->Sim P base M0 ios σ M w a st'->Q .normal a w):
 ∀(fuel:Nat) (listed:Array Bool) (σ:Sg) (M:Mem) (w:World) (a:Act),listed.size=ops.size->unl ops.size listed<=fuel->
  (∀j,listed.getD j false=false)->Sim P base M0 ios σ M w a st0->wpAny P .any ops Q fuel listed a w:=by
 intro fuel listed σ M w a hsz hu hno hS;unfold Xwx at h;split at h
 . rename_i o ho;split at h
   . rename_i hrel;obtain⟨outsA,st1,hlenA,hK,hext,hgood⟩:=XbH _ _ _ h;split at hK
     . rename_i hro;unfold Xyd at hro;rw[Yac]at hro;obtain⟨hok,hlate⟩:=hro;have hm:m<ops.toList.length:=(Ya3.1 ho).1;have hlA:outsA.length=m:=by rw[hlenA,Yal];omega
       have hoa:ops[m]?=some o:=by rw[<-YbJ];exact ho
       have hsplit:ops.toList=ops.toList.take m++o::ops.toList.drop (m+1):=by
        have e:=(Ya3.1 ho).2;rw[<-e,List.getElem_cons_drop];exact(YaJ ..).symm
       have zlF:∀r,ops.toList.zip (outsA++r)=(ops.toList.take m).zip outsA++(o::ops.toList.drop (m+1)).zip r:=λr=>by
        conv=>lhs;rw[hsplit]
        rw[List.zip_append (by rw[Yal];omega)]
       have zlen:((ops.toList.take m).zip outsA).length=m:=by rw[YcH,Yal];omega
       have zt:∀r,(ops.toList.zip (outsA++r)).take m=(ops.toList.take m).zip outsA:=λr=>by
        rw[zlF,YaZ (by omega),Ya1 (by omega)]
       have ztj:∀r j,j<m->(ops.toList.zip (outsA++r)).take j=((ops.toList.take m).zip outsA).take j:=λr j hj=>by
        rw[zlF,YaZ (by omega)]
       have zj:∀r j,j<m->(ops.toList.zip (outsA++r))[j]?=((ops.toList.take m).zip outsA)[j]?:=λr j hj=>by
        rw[zlF,YbR (by omega)]
       have hlenF:(outsA++List.replicate (ops.toList.length - m) (none:Option Eff)).length=ops.toList.length:=by
        rw[Yab,YbS];omega
       refine Xo3 (outs:=outsA++List.replicate (ops.toList.length - m) none) hT hΓ (λ_=>False) m hdst hlenF hok (λj h1 h2=>Xly hlate j h1 (by simpa using h2))
        (λj o' x _ h1 hz=>by rw[ztj _ j h1];exact hgood j o' x (by rw[<-zj _ j h1];exact hz)) (λhle=>by simp at hm;omega) ?_
        fuel listed σ M w a hsz hu (λj hj=>by rw[hno j]at hj;cases hj) (λj hj=>hj.elim) (λj _=>hno j) (by rw[XeA (λi _=>hno i)];exact hS)
       clear hu hno hsz hS;intro fuel listed σ M w a o' hsz hu hcl hsp ho' hed hS;rw[hoa]at ho';cases ho';have hli:=hsp m (YaC _);have hzA:(ops.toList.zip (outsA++List.replicate (ops.toList.length - m) (none:Option Eff)))[m]?=some (o,none):=by
        rw[zlF,Ybb (by omega),zlen,Yb3,show ops.toList.length - m=(ops.toList.length - m - 1)+1 by omega,Ybx,Ybp];rfl
       obtain⟨_,_,hag,_,_⟩:=Xe1 hlenF hok hsz hcl hli hed hzA;have hdd:∀s:St,s.nt=st0.nt->∀d,o.dst=some d->d<s.nt:=λs hs d hd=>by
        rw[hs];exact Xe4 hdst o (YbB ho) d hd
       rw[zt]at hag;have hmix:∀r,X8O (λj=>listed.getD j false) 0 (ops.toList.zip (outsA++List.replicate (ops.toList.length - m) none)) st0=X8O (λj=>listed.getD j false) 0 (ops.toList.zip (outsA++r)) st0:=λr=>by
        rw[XiD (m:=m) (λi hi=>hsp i (by omega)),zt,XiD (m:=m) (l:=ops.toList.zip (outsA++r)) (λi hi=>hsp i (by omega)),zt]
       have hagG:Xeu (XjT ops.toList o) (XwE (X1F ((ops.toList.take m).zip outsA) st0) o) (Xts (X1F ((ops.toList.take m).zip outsA) st0) o) (X1F ((ops.toList.take m).zip outsA) st0) (X8O (λj=>listed.getD j false) 0 (ops.toList.zip (outsA++List.replicate (ops.toList.length - m) none)) st0):=by
        unfold Xlc Xk6 Xhc at hag;rw[XoK hrel,XqH hrel]at hag;simp only[Ybk,Bool.false_or]at hag;exact hag
       generalize hs':X8O (λj=>listed.getD j false) 0 (ops.toList.zip (outsA++List.replicate (ops.toList.length - m) none)) st0=s' at hS hagG hmix;have hnt:s'.nt=st0.nt:=by rw[<-hs'];exact XoQ
       have hins:o.op.operands.toList.map (X3x s')=o.op.operands.toList.map (X3x st1)/\∀fz,o.op.operands.toList.map (X3x (X6e fz s'))=o.op.operands.toList.map (X3x (X6e fz st1)):=by
        have h1:=λfz=>XiR (fz:=fz) o.op.operands.toList (s:=X1F ((ops.toList.take m).zip outsA) st0) (s':=s') ⟨λk hk=>hagG.get k (by simp[XjT,hk]),hagG.box,hagG.row⟩;have h2:=XpB hext o;exact⟨(h1 []).1.trans h2.1,λfz=>(h1 fz).2.trans (h2.2 fz)⟩
       have hwant:Xep ops.toList o s'=Xep ops.toList o st1:=by
        unfold Xep;cases hg:o.guard with
        | none=>rfl
        | some g=>
          obtain⟨j,wn⟩:=g;simp only;cases hj:X6i ops.toList j with
          | none=>rfl
          | some d=>
            simp only;rw[<-hagG.get d (by simp[XjT,Xtp,hg,hj]),hext.get]
       have after:∀(x:Option Eff) (st2:St) (outsB:List (Option Eff)) (st':St),Ext st2 (X1F ((ops.toList.take m).zip outsA) st0)->outsB.length=(ops.toList.drop (m+1)).length->Xkx ops.toList (outsA++x::outsB) st0=true->KK st'->
        Ext st' (X1F ((ops.toList.drop (m+1)).zip outsB) (X1y o x st2))->
        (∀j o' x',((ops.toList.drop (m+1)).zip outsB)[j]?=some (o',x')->Xfg tab Γ ops.toList (X1F (((ops.toList.drop (m+1)).zip outsB).take j) (X1y o x st2)) o' x')->
        ∀σ' M' w' a',Sim P base M0 ios σ' M' w' a' (X1y o x s')->wpAny P .any ops Q fuel (listed.setIfInBounds m true) a' w':=by
        intro x st2 outsB st' he hlB hokF hKK hex hgB σ' M' w' a' hS';have hlF:(outsA++x::outsB).length=ops.toList.length:=by
         rw[Yab,Yad,hlB,Yap];omega
        have hx2:Ext (X1y o x st2) (X1y o x (X1F ((ops.toList.take m).zip outsA) st0)):=Xfe he;have hzF:(ops.toList.zip (outsA++x::outsB))[m]?=some (o,x):=by
         rw[zlF,Ybb (by omega),zlen,Yb3,Ybp];rfl
        have hrun:X1F (ops.toList.zip (outsA++x::outsB)) st0=X1F ((ops.toList.drop (m+1)).zip outsB) (X1y o x (X1F ((ops.toList.take m).zip outsA) st0)):=by
         rw[zlF,Xha,Ybp,X6b]
        have hmore:Ext (X1y o x s') (X8O (λj=>(listed.setIfInBounds m true).getD j false) 0 (ops.toList.zip (outsA++x::outsB)) st0):=by
         rw[hmix (x::outsB)];refine Xmi (j:=m) hzF (by rw[YaU];exact hli) (λk=>by rw[X9u (by simp at hm;omega),YaU]) (λk o' x' hk hlt2 hl=>?_);rw[YaU]at hl;rw[hsp k (by omega)]at hl;cases hl
        refine XjB (outs:=outsA++x::outsB) hT hΓ (λj=>j=m) hdst hlF hokF (λj o' x' hne hz=>?_) (λσ M w a hS2=>hq σ M w a st' hKK (hS2.ext ?_)) fuel _ σ' M' w' a' (by simp[hsz]) ?_ ?_ ?_ (hS'.ext hmore)
        . rcases YcT j m with hj | hj | hj
          . rw[ztj _ j hj];exact hgood j o' x' (by rw[<-zj _ j hj];exact hz)
          . exact absurd hj hne
          . obtain⟨i,rfl⟩:∃i,j=m+1+i:=⟨j - m - 1,by omega⟩
            have e1:(ops.toList.zip (outsA++x::outsB)).take (m+1+i)=(ops.toList.take m).zip outsA++(o,x)::((ops.toList.drop (m+1)).zip outsB).take i:=by
             rw[zlF,Ybp,Yc5,zlen,Ya1 (by omega),show m+1+i - m=i+1 by omega,Yb1]
            rw[e1,Xha,X6b];have hz2:((ops.toList.drop (m+1)).zip outsB)[i]?=some (o',x'):=by
             rw[zlF,Ybb (by omega),zlen,Ybp,show m+1+i - m=i+1 by omega,Ycb]at hz;exact hz
            exact(hgB i o' x' hz2).ext (XbK hx2)
        . rw[hrun];exact(hex.trans (XbK hx2)).symm
        . have:unl ops.size (listed.setIfInBounds m true)<unl ops.size listed:=by
           unfold unl;refine Xmm (λk hk=>?_) ⟨m,by simp at hm;simpa using hm,by rw[hli];rfl,by rw[X9u (by simp at hm;omega)];simp⟩;rw[X9u (by simp at hm;omega)]at hk;cases h4:listed.getD k false with
           | false=>rfl
           | true=>rw[h4]at hk;simp at hk
          omega
        . intro j hj k hk;rw[X9u (by simp at hm;omega)]at hj ⊢;have:listed.getD k false=true:=by
           by_cases hji:j=m
           . subst hji;exact(Xe1 hlenF hok hsz hcl hli hed hzA).1 k hk
           . have:(j==m)=false:=by simp[hji]
             rw[this,Ydj]at hj;exact hcl j hj k hk
          rw[this];rfl
        . intro j hj;subst hj;rw[X9u (by simp at hm;omega)];simp
       unfold wpOp;rw[hoa];simp only;rcases Xul hK with⟨hw,st2,he2,hK2⟩ | ⟨hw,st2,he2,hK2⟩
       . have hw':=Xfn (ops:=ops) hS (hwant.trans hw);rw[hw'];simp only[Yci];left;have hi2:=XpB he2 o;have more:∀e,(Xg2 tab Γ ops.toList (ops.toList.drop (m+1)) (e.apply o.dst st2) λouts st'=>match Xkx ops.toList (outsA++some e::outs) st0 with | true=>KK st' | false=>False)->
          ∃outsB st',outsB.length=(ops.toList.drop (m+1)).length/\Xkx ops.toList (outsA++some e::outsB) st0=true/\KK st'/\Ext st' (X1F ((ops.toList.drop (m+1)).zip outsB) (X1y o (some e) st2))/\
          (∀j o' x',((ops.toList.drop (m+1)).zip outsB)[j]?=some (o',x')->Xfg tab Γ ops.toList (X1F (((ops.toList.drop (m+1)).zip outsB).take j) (X1y o (some e) st2)) o' x'):=λe hr=>by
          obtain⟨outsB,st',h1,h2,h3,h4⟩:=XbH _ _ _ hr;split at h2
          . rename_i hokF;exact⟨outsB,st',h1,hokF,h2,h3,h4⟩
          . exact h2.elim
         refine Xg3 (tab:=tab) (Γ:=Γ) hT hΓ hS (XqQ (s:=st2) ?_ ?_ (hdd s' hnt) hK2 ?_) (λe hr v σ' M' w' hS'=>?_)
         . rw[hins.1];exact hi2.1
         . intro fz;rw[hins.2 fz];exact hi2.2 fz
         . intro e hr;obtain⟨outsB,st',h1,hokF,h2,h3,h4⟩:=more e hr;have hlF:(outsA++some e::outsB).length=ops.toList.length:=by
            rw[Yab,Yad,h1,Yap];omega
           have hzF:(ops.toList.zip (outsA++some e::outsB))[m]?=some (o,some e):=by
            rw[zlF,Ybb (by omega),zlen,Yb3,Ybp];rfl
           obtain⟨_,_,_,hdown,hfresh⟩:=Xe1 hlF hokF hsz hcl hli hed hzF;refine Sub.fresh ?_ (hfresh e rfl);rw[hmix (some e::outsB)];refine Sub.mix (λk hk=>?_) ⟨λ_ h=>h,λ_ h=>h,λ_ h=>h⟩;have hki:(k==m)=false:=by
            cases hki:k==m with
            | false=>rfl
            | true=>
              have:k=m:=by simpa using hki
              subst this;simp only[hli]at hk;cases hk
           have hkb:=hdown k hk;simp only[hki,hkb];rfl
         . obtain⟨outsB,st',h1,hokF,h2,h3,h4⟩:=more e hr;exact after (some e) st2 outsB st' (he2.trans hext) h1 hokF h2 h3 h4 σ' M' w' _ hS'
       . have hw':=Xfn (ops:=ops) hS (hwant.trans hw);rw[hw'];simp only[Ycd,Ydu];obtain⟨outsB,st',h1,h2,h3,h4⟩:=XbH _ _ _ hK2;split at h2
         . rename_i hokF;exact after none st2 outsB st' (he2.trans hext) h1 hokF h2 h3 h4 σ M w _ (hS.skip (hdd s' hnt))
         . exact h2.elim
     . exact hK.elim
   . exact h.elim
 . exact h.elim
structure XcO where
 bx:Bool:=false
 s:Nat
 i:Nat
 k:Nat
 e:TypeId
 hot:Bool
structure Xid where
 hold:List Nat:=[]
 slots:List Nat
 boxes:List Nat:=[]
 rows:List XcO:=[]
def Xw2(st:St)(s i:Nat):Option X02:=match Xd2 st.rows (st.get s) with
 | .val _ cs=>cs[i]?
 | _=>none
def Xx3(st:St)(b i:Nat):Option X02:=match st.box b with
 | some cs=>(XbT st.rows cs)[i]?
 | none=>none
def Xes(st:St)(kr:XcO):Option X02:=match kr.bx with
 | true=>Xx3 st kr.s kr.i
 | false=>Xw2 st kr.s kr.i
inductive Old where
 | bad
 | nil (t:Ty)
 | hot (r:Nat) (t:Ty) (l:List (El t))
 | cold (r:Nat)
 | cnil
def XvF(st:St)(e:TypeId)(t:Ty)(r:Nat):Old:=match look r st.rows with
 | some (.hot e' t' l _ none _)=>if e'=e then if h:t'=t then .hot r t (X97 h l) else .bad else .bad
 | _=>.bad
def Xca(st:St)(kr:XcO):Old:=match kr.hot,Xes st kr with
 | true,some (.own t r)=>XvF st kr.e t r
 | true,some (.lst t [] (some 0))=>.nil t
 | true,some (.emp t)=>.nil t
 | false,some (.lst _ _ (some 0))=>.cnil
 | false,some (.lst _ _ (some (r+1)))=>match X8M (r+1) st.rows with
   | some e=>if e=kr.e then .cold (r+1) else .bad
   | none=>.bad
 | _,_=>.bad
def rho(st:St):List XcO->List (Nat×Nat)
 | []=>[]
 | kr::l=>match Xca st kr with
   | .hot r _ _=>(r,kr.k)::rho st l
   | _=>rho st l
def XaE(st:St):List XcO->List Nat
 | []=>[]
 | kr::l=>match Xca st kr with
   | .cold r=>r::XaE st l
   | _=>XaE st l
def Xp1(st:St)(kr:XcO):Option X0L:=match Xca st kr with
 | .hot _ t l=>some (.hot kr.e t l 0 none false)
 | .nil t=>some (.hot kr.e t [] 0 none false)
 | .cold _=>some (.cold kr.e)
 | .cnil=>some (.cold kr.e)
 | .bad=>none
def Xlu(st:St):List XcO->List (Nat×X0L)
 | []=>[]
 | kr::l=>match Xp1 st kr with
   | some rv=>(kr.k,rv)::Xlu st l
   | none=>Xlu st l
def Xti:List XcO->Bool->Nat->Nat->Option XcO
 | [],_,_,_=>none
 | kr::l,b,s,i=>if kr.bx=b/\kr.s=s/\kr.i=i then some kr else Xti l b s i
def XhH:List XcO->Nat->Option XcO
 | [],_=>none
 | kr::l,k=>if kr.k=k then some kr else XhH l k
def reC1(ρ:List (Nat×Nat)):X02->X02
 | .lst t l _=>.lst t l none
 | .own t r=>match look r ρ with
   | some k=>.own t k
   | none=>.und
 | .sub t r lo hi=>match look r ρ with
   | some k=>.sub t k lo hi
   | none=>.und
 | .bor ..=>.und
 | c=>c
def XxY(kr:XcO):X02->X02
 | .own t _=>cond kr.hot (.own t kr.k) .und
 | .emp t=>cond kr.hot (.own t kr.k) .und
 | .lst t l _=>cond kr.hot (.own t kr.k) (.lst t l (some kr.k))
 | _=>.und
def Xxz(kp:Xid)(ρ:List (Nat×Nat))(bx:Bool)(s:Nat):Nat->List X02->List X02
 | _,[]=>[]
 | i,c::cs=>(match Xti kp.rows bx s i with
    | some kr=>XxY kr c
    | none=>reC1 ρ c)::Xxz kp ρ bx s (i+1) cs
def unC:List X02->List X02
 | []=>[]
 | .lst t l _::cs=>.lst t l none::unC cs
 | .int k n::cs=>.int k n::unC cs
 | .bool b::cs=>.bool b::unC cs
 | .str s::cs=>.str s::unC cs
 | .emp t::cs=>.emp t::unC cs
 | _::cs=>.und::unC cs
def XeZ(kp:Xid)(st:St):List Cap->Option (List Cap)
 | []=>some []
 | .box k off::l=>match kp.boxes.contains k&&(st.box k).isSome,XeZ kp st l with
   | true,some r=>some (.box k off::r)
   | _,_=>none
 | .ptr cs::l=>match XeZ kp st l with
   | some r=>some (.ptr (unC cs)::r)
   | none=>none
 | .pp k off::l=>match kp.boxes.contains k&&(st.box k).isSome,XeZ kp st l with
   | true,some r=>some (.pp k off::r)
   | _,_=>none
 | .pptr cs::l=>match XeZ kp st l with
   | some r=>some (.pptr (unC cs)::r)
   | none=>none
def reS(kp:Xid)(ρ:List (Nat×Nat))(st:St)(s:Nat):Sv->Sv
 | .val ag cs=>.val ag (Xxz kp ρ false s 0 cs)
 | .box k off=>match kp.boxes.contains k&&(st.box k).isSome with
   | true=>.box k off
   | false=>.und
 | .ptr cs=>.ptr (unC cs)
 | .pp k off=>match kp.boxes.contains k&&(st.box k).isSome with
   | true=>.pp k off
   | false=>.und
 | .pptr cs=>.pptr (unC cs)
 | .fn f a b=>match XeZ kp st a,XeZ kp st b with
   | some a',some b'=>.fn f a' b'
   | _,_=>.und
 | .hp t r i off=>match look r ρ with
   | some k=>.hp t k i off
   | none=>.und
 | .nil=>.nil
 | _=>.und
def XiT(kp:Xid)(ρ:List (Nat×Nat))(st:St):List Nat->List (Nat×Sv)
 | []=>[]
 | s::l=>(s,reS kp ρ st s (Xd2 st.rows (st.get s)))::XiT kp ρ st l
def Xh5(kp:Xid)(ρ:List (Nat×Nat))(st:St):List Nat->List (Nat×List X02)
 | []=>[]
 | b::l=>match st.box b with
   | some cs=>(b,Xxz kp ρ true b 0 (XbT st.rows cs))::Xh5 kp ρ st l
   | none=>Xh5 kp ρ st l
def rename(kp:Xid)(st:St):St:={nt:=st.nt,slots:=XiT kp (rho st kp.rows) st (kp.hold++kp.slots),boxes:=Xh5 kp (rho st kp.rows) st kp.boxes,rows:=Xlu st kp.rows}
def XqE(tab:Tab)(st:St)(kr:XcO):Bool:=!(kr.k==0)&&match Xca st kr with
 | .bad=>false
 | .nil t=>(kr.k % 2==1)&&(match look kr.e tab with | some te=>decide (te.ty=t)&&decide (0<size t) | none=>false)
 | .hot r _ _=>kr.k % 2==1||r==kr.k
 | .cold r=>(kr.k % 2==1||r==kr.k)&&(look kr.e tab).isSome
 | .cnil=>(kr.k % 2==1)&&(look kr.e tab).isSome
def Xir(tab:Tab)(kp:Xid)(st:St):Bool:=kp.rows.all (XqE tab st)&&X60 (kp.rows.map (·.k))&&X60 ((rho st kp.rows).map (·.1))&&X60 (XaE st kp.rows)
def Xtf(kp:Xid)(bx:Bool)(s:Nat)(ks:List Nat):Nat->List X02->List Nat
 | _,[]=>[]
 | i,c::cs=>(match Xti kp.rows bx s i with
    | some kr=>(match kr.hot,c with
      | false,.own _ r=>[r]
      | _,_=>[])
    | none=>(match c with
      | .own _ r=>cond (X51 r ks) [r] []
      | .sub _ r _ _=>cond (X51 r ks) [r] []
      | .bor _ _ r _ _=>cond (X51 r ks) [r] []
      | _=>[]))++Xtf kp bx s ks (i+1) cs
def Xvx(kp:Xid)(st:St)(ks:List Nat):List Nat->List Nat
 | []=>[]
 | s::l=>(match st.get s with
    | .val _ cs=>Xtf kp false s ks 0 cs
    | .bptr _ r _=>cond (X51 r ks) [r] []
    | _=>[])++Xvx kp st ks l
def Xvj(kp:Xid)(st:St)(ks:List Nat):List Nat->List Nat
 | []=>[]
 | b::l=>(match st.box b with
    | some cs=>Xtf kp true b ks 0 cs
    | none=>[])++Xvj kp st ks l
def Xuv(kp:Xid)(st:St):List (Nat×X0L):=
 let ks:=(rho st kp.rows).map (·.1)
 X7i st.rows (X68 st.rows (Xvx kp st ks (kp.hold++kp.slots)++Xvj kp st ks kp.boxes))
def ready(kp:Xid)(st:St):St:=match Xuv kp st with
 | []=>st
 | fz=>X6e fz st
def weaken(kp:Xid)(st:St):St:=rename kp (ready kp st)
def Xsj(tab:Tab)(kp:Xid)(st:St):Bool:=X60 ((Xuv kp st).map (·.1))&&Xir tab kp (ready kp st)
def Xbv(σ:Sg)(w:World)(a:Act)(kr:XcO):Value:=match kr.bx with
 | false=>(a.tmps.getD kr.s undef).cells.toList.getD kr.i undef
 | true=>match w.heap[σ.box kr.s]? with
   | some (.cells arr _ _)=>arr.toList.getD kr.i undef
   | _=>undef
theorem Xhm{l:List Value}{i:Nat}{v:Value}(h:l[i]?=some v):l.getD i undef=v:=by rw[Yar,h];rfl
theorem Xf4(hS:Sim P base M0 ios σ M w a st){kr:XcO}{c:X02}(h:Xes st kr=some c):RdT σ st.rows M (Xbv σ w a kr) c:=by
 unfold Xes at h;unfold Xbv;cases hb:kr.bx with
 | false=>
   rw[hb]at h;simp only[Xw2]at h ⊢;have hs:=Xjd hS (λ_ _ h=>h) (hS.slots kr.s);split at h
   . rename_i ag cs he;rw[he]at hs;obtain⟨v,hv,hr⟩:=hs.1.get h;rw[Xhm hv];exact hr
   . cases h
 | true=>
   rw[hb]at h;simp only[Xx3]at h ⊢;split at h
   . rename_i cs hk;obtain⟨arr,E,h1,h2⟩:=hS.boxes kr.s cs hk;obtain⟨v,hv,hr⟩:=(Xd9 hS (λ_ _ h=>h) h2).get h;rw[h1];simp only;rw[Xhm hv];exact hr
   . cases h
def OldOk(st:St)(kr:XcO):Old->Prop
 | .bad=>True
 | .hot r t l=>kr.hot=true/\Xes st kr=some (.own t r)/\∃ver z,look r st.rows=some (.hot kr.e t l ver none z)
 | .nil t=>kr.hot=true/\(Xes st kr=some (.lst t [] (some 0))\/Xes st kr=some (.emp t))
 | .cold r=>kr.hot=false/\r≠0/\∃t l,Xes st kr=some (.lst t l (some r))/\st.row r=some kr.e
 | .cnil=>kr.hot=false/\∃t l,Xes st kr=some (.lst t l (some 0))
theorem X7t(st:St)(kr:XcO):OldOk st kr (Xca st kr):=by
 unfold Xca;split
 . rename_i t r hh hp;unfold XvF;split
   . rename_i e t' l ver z hl;split
     . rename_i he;split
       . rename_i ht;subst ht;subst he;exact⟨hh,hp,ver,z,hl⟩
       . trivial
     . trivial
   . trivial
 . rename_i t hh hp;exact⟨hh,.inl hp⟩
 . rename_i t hh hp;exact⟨hh,.inr hp⟩
 . rename_i t l hh hp;exact⟨hh,t,l,hp⟩
 . rename_i t l r hh hp;split
   . rename_i e he;split
     . rename_i h;subst h;exact⟨hh,by omega,t,l,hp,he⟩
     . trivial
   . trivial
 . trivial
theorem Xmf{r k:Nat}:∀{rows:List XcO},look r (rho st rows)=some k->∃kr∈rows,kr.k=k/\∃t l,Xca st kr=.hot r t l
 | [],h=>by cases h
 | kr::l,h=>by
   simp only[rho]at h;split at h
   . rename_i r' t' l' ho;rw[X08]at h;split at h
     . rename_i e;subst e;cases h;exact⟨kr,by simp,rfl,t',l',ho⟩
     . obtain⟨kr',h1,h2⟩:=Xmf h;exact⟨kr',Yan _ h1,h2⟩
   . obtain⟨kr',h1,h2⟩:=Xmf h;exact⟨kr',Yan _ h1,h2⟩
theorem XoL{kr:XcO}{r:Nat}{t:Ty}{l:List (El t)}(ho:Xca st kr=.hot r t l):∀{rows:List XcO},kr∈rows->r∈(rho st rows).map (·.1)
 | kr'::rows,h=>by
   simp only[rho];rcases Yak.1 h with e | h
   . subst e;rw[ho];simp
   . have:=XoL ho h;split
     . exact Yan _ this
     . exact this
theorem XlE{kr:XcO}{r:Nat}(ho:Xca st kr=.cold r):∀{rows:List XcO},kr∈rows->r∈XaE st rows
 | kr'::rows,h=>by
   simp only[XaE];rcases Yak.1 h with e | h
   . subst e;rw[ho];simp
   . have:=XlE ho h;split
     . exact Yan _ this
     . exact this
theorem Xs7{r:Nat}{t t':Ty}{l:List (El t)}{l':List (El t')}{kr kr':XcO}:∀{rows:List XcO},((rho st rows).map (·.1)).Nodup->kr∈rows->kr'∈rows->Xca st kr=.hot r t l->Xca st kr'=.hot r t' l'->kr=kr'
 | k0::rows,hn,h,h',ho,ho'=>by
   rcases Yak.1 h with e | h1<;>rcases Yak.1 h' with e' | h1'
   . rw[e,e']
   . subst e;simp only[rho,ho,Yas,YaB]at hn;exact absurd (XoL ho' h1') hn.1
   . subst e';simp only[rho,ho',Yas,YaB]at hn;exact absurd (XoL ho h1) hn.1
   . refine Xs7 (rows:=rows) ?_ h1 h1' ho ho';simp only[rho]at hn;split at hn
     . exact(YaB.1 hn).2
     . exact hn
theorem Xqd{r:Nat}{kr kr':XcO}:∀{rows:List XcO},(XaE st rows).Nodup->kr∈rows->kr'∈rows->Xca st kr=.cold r->Xca st kr'=.cold r->kr=kr'
 | k0::rows,hn,h,h',ho,ho'=>by
   rcases Yak.1 h with e | h1<;>rcases Yak.1 h' with e' | h1'
   . rw[e,e']
   . subst e;simp only[XaE,ho,YaB]at hn;exact absurd (XlE ho' h1') hn.1
   . subst e';simp only[XaE,ho',YaB]at hn;exact absurd (XlE ho h1) hn.1
   . refine Xqd (rows:=rows) ?_ h1 h1' ho ho';simp only[XaE]at hn;split at hn
     . exact(YaB.1 hn).2
     . exact hn
theorem Xnf{b:Bool}{s i:Nat}{kr:XcO}:∀{rows:List XcO},Xti rows b s i=some kr->kr∈rows/\kr.bx=b/\kr.s=s/\kr.i=i
 | [],h=>by cases h
 | k0::rows,h=>by
   simp only[Xti]at h;split at h
   . rename_i hc;cases h;exact⟨by simp,hc⟩
   . obtain⟨h1,h2⟩:=Xnf h;exact⟨Yan _ h1,h2⟩
theorem Xjh{kr:XcO}:∀{rows:List XcO},(rows.map (·.k)).Nodup->kr∈rows->XhH rows kr.k=some kr
 | k0::rows,hn,h=>by
   simp only[Yas,YaB]at hn;simp only[XhH];rcases Yak.1 h with e | h
   . subst e;simp
   . have:k0.k≠kr.k:=λe=>hn.1 (YaN.2 ⟨kr,h,e.symm⟩);rw[Yae this];exact Xjh hn.2 h
theorem Xfc{k:Nat}{rv:X0L}:∀{rows:List XcO},look k (Xlu st rows)=some rv->∃kr∈rows,kr.k=k/\Xp1 st kr=some rv
 | [],h=>by cases h
 | kr::rows,h=>by
   simp only[Xlu]at h;split at h
   . rename_i rv' hv;rw[X08]at h;split at h
     . rename_i e;cases h;exact⟨kr,by simp,e,hv⟩
     . obtain⟨kr',h1,h2⟩:=Xfc h;exact⟨kr',Yan _ h1,h2⟩
   . obtain⟨kr',h1,h2⟩:=Xfc h;exact⟨kr',Yan _ h1,h2⟩
theorem XwC{rows rows':List (Nat×X0L)}{σ':Sg}{vs:List Value}{cs:List X02}(h:X27 (RdT σ rows M) vs cs):X27 (RdT σ' rows' M) vs (unC cs):=by
 induction h with
 | nil=>exact .nil
 | @cons v c vs cs hx hr ih=>
   cases c with
   | lst t l tag=>exact .cons ⟨hx.1,trivial⟩ ih
   | int k n=>exact .cons ⟨hx.1,trivial⟩ ih
   | bool b=>exact .cons ⟨hx.1,trivial⟩ ih
   | str s=>exact .cons ⟨hx.1,trivial⟩ ih
   | emp t=>exact .cons ⟨hx.1,hx.2⟩ ih
   | _=>exact .cons ⟨hx.1,trivial⟩ ih
theorem Xmo{rows rows':List (Nat×X0L)}{σ':Sg}{v:Value}{cs:List X02}(h:Xdk σ rows M v cs):Xdk σ' rows' M v (unC cs):=by
 obtain⟨ad,hv,hc⟩:=h;obtain⟨vs,h1,h2⟩:=Xdz (σ:=σ) (rows:=rows) (ad:=ad) (cs:=cs) (o:=0) (by simpa using hc);refine⟨ad,hv,λj c hj=>?_⟩;obtain⟨u,hu,hr⟩:=(XwC (σ':=σ') (rows':=rows') h1).get hj;exact⟨u,by simpa using h2 j u hu,hr⟩
theorem Xf2(kp:Xid)(ρ:List (Nat×Nat))(st:St)(i:Nat):∀l,look i (XiT kp ρ st l)=if i∈l then some (reS kp ρ st i (Xd2 st.rows (st.get i))) else none
 | []=>rfl
 | s::l=>by
   simp only[XiT,X08,Xf2 kp ρ st i l,Yak];by_cases h:s=i
   . subst h;simp
   . simp[h,YaK h]
theorem X8V(kp:Xid)(ρ:List (Nat×Nat))(st:St)(k:Nat):∀l,look k (Xh5 kp ρ st l)=if k∈l then(st.box k).map (λcs=>Xxz kp ρ true k 0 (XbT st.rows cs)) else none
 | []=>rfl
 | b::l=>by
   simp only[Xh5];cases hb:st.box b with
   | none=>
     rw[X8V kp ρ st k l];by_cases h:k=b
     . subst h;simp[hb]
     . simp[h]
   | some cs=>
     rw[X08,X8V kp ρ st k l];by_cases h:b=k
     . subst h;simp[hb]
     . simp[h,YaK h]
noncomputable def Xhq(σ:Sg)(w:World)(a:Act)(st:St)(rows:List XcO):Sg where
 box:=σ.box
 row:=λk=>match XhH rows k with | some kr=>Xbv σ w a kr | none=>σ.row k
 foot:=λk=>match XhH rows k with | some kr=>(match Xca st kr with | .hot r _ _=>σ.foot r | _=>[]) | none=>[]
 mem:=λk=>match XhH rows k with | some kr=>(match Xca st kr with | .hot r _ _=>σ.mem r | _=>λ_=>none) | none=>λ_=>none
structure RenF (tab:Tab) (σ:Sg) (w:World) (a:Act) (st:St) (rows:List XcO):Prop where
 keys:(rows.map (·.k)).Nodup
 hots:((rho st rows).map (·.1)).Nodup
 colds:(XaE st rows).Nodup
 ok:∀kr∈rows,XqE tab st kr=true
 row:∀kr∈rows,(Xhq σ w a st rows).row kr.k=Xbv σ w a kr
 hotv:∀kr∈rows,∀r t l,Xca st kr=.hot r t l->Xbv σ w a kr=σ.row r/\(Xhq σ w a st rows).foot kr.k=σ.foot r/\(Xhq σ w a st rows).mem kr.k=σ.mem r
 nilv:∀kr∈rows,∀t,Xca st kr=.nil t->(∃ad,Xbv σ w a kr=.slice ad 0 0)/\(Xhq σ w a st rows).foot kr.k=[]/\(Xhq σ w a st rows).mem kr.k=λ_=>none
 coldv:∀kr∈rows,∀r,Xca st kr=.cold r->r≠0/\st.row r=some kr.e/\Xbv σ w a kr=σ.row r
 cnilv:∀kr∈rows,Xca st kr=.cnil->Xbv σ w a kr=.slice none 0 0
theorem renF(hS:Sim P base M0 ios σ M w a st){kp:Xid}(h:Xir tab kp st=true):RenF tab σ w a st kp.rows:=by
 unfold Xir at h;simp only[Yac,Ya7]at h;obtain⟨⟨⟨h1,h2⟩,h3⟩,h4⟩:=h;have hk:=X8a h2;have fk:=λkr (hm:kr∈kp.rows)=>Xjh hk hm;refine⟨hk,X8a h3,X8a h4,h1,λkr hm=>?_,λkr hm r t l ho=>⟨?_,?_,?_⟩,λkr hm t ho=>⟨?_,?_,?_⟩,λkr hm r ho=>?_,λkr hm ho=>?_⟩
 . simp only[Xhq,fk kr hm]
 . have hs:=X7t st kr;rw[ho]at hs;obtain⟨_,hp,ver,z,hl⟩:=hs;exact(Xf4 hS hp).2 (by rw[hl];rfl)
 . simp only[Xhq,fk kr hm,ho]
 . simp only[Xhq,fk kr hm,ho]
 . have hs:=X7t st kr;rw[ho]at hs;rcases hs.2 with hp | hp
   . exact⟨none,by have:=(Xf4 hS hp).2;simpa [Xc8] using this⟩
   . exact(Xf4 hS hp).2
 . simp only[Xhq,fk kr hm,ho]
 . simp only[Xhq,fk kr hm,ho]
 . have hs:=X7t st kr;rw[ho]at hs;obtain⟨_,h0,t,l,hp,hr⟩:=hs;refine⟨h0,hr,?_⟩;have:=(Xf4 hS hp).2;simp only[Xc8,Yae h0]at this;obtain⟨rv,hl,_⟩:=X6w hr;exact this (by rw[hl];rfl)
 . have hs:=X7t st kr;rw[ho]at hs;obtain⟨_,t,l,hp⟩:=hs;have:=(Xf4 hS hp).2;simpa [Xc8] using this
theorem XtX(hS:Sim P base M0 ios σ M w a st){rows:List XcO}(F:RenF tab σ w a st rows){rows':List (Nat×X0L)}{v:Value}{c:X02}(h:RdT σ st.rows M v c):RdT (Xhq σ w a st rows) rows' M v (reC1 (rho st rows) c):=by
 have hk:∀{r k:Nat},look r (rho st rows)=some k->(Xhq σ w a st rows).row k=σ.row r/\(look r st.rows).isSome=true:=λ{r k} hl=>by
  obtain⟨kr,hm,e,t,l,ho⟩:=Xmf hl;subst e;have hs:=X7t st kr;rw[ho]at hs;obtain⟨_,_,ver,z,hl⟩:=hs;exact⟨by rw[F.row kr hm,(F.hotv kr hm r t l ho).1],by rw[hl];rfl⟩
 cases c with
 | lst t l tag=>exact⟨h.1,trivial⟩
 | int k n=>exact⟨h.1,trivial⟩
 | bool b=>exact⟨h.1,trivial⟩
 | str s=>exact⟨h.1,trivial⟩
 | emp t=>exact⟨h.1,h.2⟩
 | und=>exact⟨h.1,trivial⟩
 | bor t l r ver p=>exact⟨h.1,trivial⟩
 | own t r=>
   simp only[reC1];split
   . rename_i k hl;obtain⟨e1,e2⟩:=hk hl;exact⟨h.1,λ_=>by rw[e1];exact h.2 e2⟩
   . exact⟨h.1,trivial⟩
 | sub t r lo hi=>
   simp only[reC1];split
   . rename_i k hl;obtain⟨e1,e2⟩:=hk hl;exact⟨h.1,λ_=>by rw[e1];exact h.2 e2⟩
   . exact⟨h.1,trivial⟩
theorem Xu9{rows:List XcO}(F:RenF tab σ w a st rows){kr:XcO}(hm:kr∈rows){rows':List (Nat×X0L)}{v:Value}{c:X02}(hp:Xes st kr=some c)(hv:Xbv σ w a kr=v)(h:RdT σ st.rows M v c):RdT (Xhq σ w a st rows) rows' M v (XxY kr c):=by
 have hrow:v=(Xhq σ w a st rows).row kr.k:=by rw[F.row kr hm,hv]
 have hk0:kr.k≠0:=by
  have:=F.ok kr hm;simp only[XqE,Yac,YaS,YbG]at this;exact this.1
 have hown:∀t,v.oneCell'=true->RdT (Xhq σ w a st rows) rows' M v (.own t kr.k):=λt h1=>⟨h1,λ_=>hrow⟩
 have h1:v.oneCell'=true:=h.1.oneCell;cases c with
 | own t r=>
   simp only[XxY];cases kr.hot
   . exact⟨h1,trivial⟩
   . exact hown t h1
 | emp t=>
   simp only[XxY];cases kr.hot
   . exact⟨h1,trivial⟩
   . exact hown t h1
 | lst t l tag=>
   simp only[XxY];cases kr.hot
   . refine⟨h.1,?_⟩;simp only[cond_false,Xc8,Yae hk0];exact λ_=>hrow
   . exact hown t h1
 | _=>exact⟨h1,trivial⟩
theorem XpY(hS:Sim P base M0 ios σ M w a st){kp:Xid}(F:RenF tab σ w a st kp.rows){rows':List (Nat×X0L)}{b:Bool}{s:Nat}{vs:List Value}{cs:List X02}(h:X27 (RdT σ st.rows M) vs cs):∀(i:Nat),
 (∀(j:Nat) (kr:XcO) (v:Value) (c:X02),vs[j]?=some v->cs[j]?=some c->kr∈kp.rows->kr.bx=b->kr.s=s->kr.i=i+j->Xes st kr=some c/\Xbv σ w a kr=v)->X27 (RdT (Xhq σ w a st kp.rows) rows' M) vs (Xxz kp (rho st kp.rows) b s i cs):=by
 induction h with
 | nil=>intro i _;exact .nil
 | @cons v c vs cs hx hr ih=>
   intro i hk;have ih':=ih (i+1) (λj kr u d hu hd hm e1 e2 e3=>hk (j+1) kr u d (by simpa using hu) (by simpa using hd) hm e1 e2 (by omega));simp only[Xxz];refine .cons ?_ ih';split
   . rename_i kr hf;obtain⟨hm,e1,e2,e3⟩:=Xnf hf;obtain⟨h1,h2⟩:=hk 0 kr v c (by simp) (by simp) hm e1 e2 (by omega);exact Xu9 F hm h1 h2 hx
   . exact XtX hS F hx
theorem Xl0{kp:Xid}{σ':Sg}(hb:σ'.box=σ.box){rows':List (Nat×X0L)}{boxes':List (Nat×List X02)}(hbx:∀k,k∈kp.boxes->(st.box k).isSome=true->(look k boxes').isSome=true){vs:List Value}{l:List Cap}(h:X27 (Xdq σ st.rows st.boxes M) vs l):∀{l'},XeZ kp st l=some l'->X27 (Xdq σ' rows' boxes' M) vs l':=by
 induction h with
 | nil=>intro l' e;cases e;exact .nil
 | @cons v c vs l hx hr ih=>
   intro l' e;cases c with
   | box k off=>
     simp only[XeZ]at e;split at e
     . rename_i r hc h2;cases e;rw[Yac]at hc;exact .cons ⟨by rw[hb];exact hx.1,hbx k (by simpa using hc.1) hc.2⟩ (ih h2)
     . cases e
   | ptr cs=>
     simp only[XeZ]at e;split at e
     . rename_i r h2;cases e;exact .cons (Xmo hx) (ih h2)
     . cases e
   | pp k off=>
     simp only[XeZ]at e;split at e
     . rename_i r hc h2;cases e;rw[Yac]at hc;obtain⟨ad,q1,q2,q3⟩:=hx;exact .cons ⟨ad,q1,by rw[hb];exact q2,hbx k (by simpa using hc.1) hc.2⟩ (ih h2)
     . cases e
   | pptr cs=>
     simp only[XeZ]at e;split at e
     . rename_i r h2;cases e;obtain⟨ad,u,q1,q2,q3⟩:=hx;exact .cons ⟨ad,u,q1,q2,Xmo q3⟩ (ih h2)
     . cases e
theorem Sim.rename(hT:X1E P tab)(hS:Sim P base M0 ios σ M w a st){kp:Xid}(h:Xir tab kp st=true):∃σ',Sim P base M0 ios σ' M w a (Bv.rename kp st):=by
 have F:=renF hS h;have hrowof:∀{k:Nat} {rv:X0L},look k (Xlu st kp.rows)=some rv->∃kr∈kp.rows,kr.k=k/\Xp1 st kr=some rv:=λhl=>Xfc hl;have hbox:∀k,((Bv.rename kp st).box k).isSome=true->(st.box k).isSome=true:=λk hs=>by
  have e:(Bv.rename kp st).box k=if k∈kp.boxes then _ else none:=X8V kp _ st k kp.boxes;rw[e]at hs;split at hs
  . simpa using hs
  . cases hs
 have hhot:∀{k:Nat},X1G k (Bv.rename kp st).rows->∃kr∈kp.rows,kr.k=k/\((∃r t l,Xca st kr=.hot r t l/\X1G r st.rows/\(Xhq σ w a st kp.rows).foot k=σ.foot r)\/(Xhq σ w a st kp.rows).foot k=[]):=λ{k} ⟨e,t,l,ver,hole,z,hl⟩=>by
  obtain⟨kr,hm,ek,hrr⟩:=hrowof hl;subst ek;refine⟨kr,hm,rfl,?_⟩;unfold Xp1 at hrr;split at hrr
  . rename_i r t' l' ho;have hs:=X7t st kr;rw[ho]at hs;obtain⟨_,_,ver,z,hl⟩:=hs;exact .inl ⟨r,t',l',ho,⟨_,_,_,_,_,_,hl⟩,(F.hotv kr hm r t' l' ho).2.1⟩
  . rename_i t' ho;exact .inr (F.nilv kr hm t' ho).2.1
  . cases hrr
  . cases hrr
  . cases hrr
 have hcold:∀{k:Nat} {e:TypeId},(Bv.rename kp st).row k=some e->∃kr∈kp.rows,kr.k=k/\kr.e=e/\((∃r,Xca st kr=.cold r/\st.row r=some e/\(Xhq σ w a st kp.rows).row k=σ.row r)\/((Xhq σ w a st kp.rows).row k=.slice none 0 0/\(look e tab).isSome=true)):=λ{k e} hr=>by
  obtain⟨rv,hl,hc⟩:=X6w hr;obtain⟨kr,hm,ek,hrr⟩:=hrowof hl;subst ek;unfold Xp1 at hrr;split at hrr
  . cases hrr;cases hc
  . cases hrr;cases hc
  . rename_i r ho;cases hrr;cases hc;obtain⟨_,h2,h3⟩:=F.coldv kr hm r ho;exact⟨kr,hm,rfl,rfl,.inl ⟨r,ho,h2,by rw[F.row kr hm,h3]⟩⟩
  . rename_i ho;cases hrr;cases hc;have hok:=F.ok kr hm;simp only[XqE,ho,Yac]at hok;exact⟨kr,hm,rfl,rfl,.inr ⟨by rw[F.row kr hm,F.cnilv kr hm ho],hok.2.2⟩⟩
  . cases hrr
 refine⟨Xhq σ w a st kp.rows,?_⟩;exact {
  mem:=hS.mem
  nt:=hS.nt
  slots:=λi=>by
   have hget:(Bv.rename kp st).get i=if i∈kp.hold++kp.slots then reS kp (rho st kp.rows) st i (Xd2 st.rows (st.get i)) else .und:=by
    simp only[St.get,Bv.rename,Xf2];split
    . rename_i sv hs;split at hs
      . rename_i hm;rw[Yah hm];cases hs;rfl
      . cases hs
    . rename_i hs;split at hs
      . cases hs
      . rename_i hm;rw[Yae hm]
   rw[hget];split
   . have hs:=Xjd hS (λ_ _ h=>h) (hS.slots i);have hbx:∀k,k∈kp.boxes->(st.box k).isSome=true->(look k (Bv.rename kp st).boxes).isSome=true:=λk h1 h2=>by
      have e:look k (Bv.rename kp st).boxes=if k∈kp.boxes then _ else none:=X8V kp _ st k kp.boxes;rw[e,Yah h1];simpa using h2
     cases hg:Xd2 st.rows (st.get i) with
     | und=>trivial
     | nil=>rw[hg]at hs;exact hs
     | tup l=>trivial
     | bptr cs r ver=>trivial
     | ptr cs=>rw[hg]at hs;exact Xmo hs
     | pptr cs=>
       rw[hg]at hs;obtain⟨ad,u,q1,q2,q3⟩:=hs;exact⟨ad,u,q1,q2,Xmo q3⟩
     | pp k off=>
       rw[hg]at hs;obtain⟨ad,q1,q2,q3⟩:=hs;simp only[reS];split
       . rename_i hc;rw[Yac]at hc;exact⟨ad,q1,q2,hbx k (by simpa using hc.1) hc.2⟩
       . trivial
     | fn f x y=>
       rw[hg]at hs;obtain⟨va,vb,hv,h1,h2⟩:=hs;simp only[reS];split
       . rename_i x' y' e1 e2;exact⟨va,vb,hv,Xl0 (σ:=σ) (σ':=Xhq σ w a st kp.rows) rfl hbx h1 e1,Xl0 (σ:=σ) (σ':=Xhq σ w a st kp.rows) rfl hbx h2 e2⟩
       . trivial
     | hp t r j off=>
       rw[hg]at hs;simp only[reS];split
       . rename_i k hl;obtain⟨kr,hm,e,t',l',ho⟩:=Xmf hl;subst e;have hsp:=X7t st kr;rw[ho]at hsp;obtain⟨_,_,ver,z,hl⟩:=hsp;intro _;rw[F.row kr hm,(F.hotv kr hm r t' l' ho).1];exact hs (by rw[hl];rfl)
       . trivial
     | box k off=>
       rw[hg]at hs;simp only[reS];split
       . rename_i hc;rw[Yac]at hc;exact⟨hs.1,hbx k (by simpa using hc.1) hc.2⟩
       . trivial
     | val ag cs=>
       rw[hg]at hs;refine⟨XpY hS F hs.1 0 (λj kr v c hv hc hm e1 e2 e3=>?_),hs.2⟩;rw[YaU]at e3;subst e2;subst e3;constructor
       . unfold Xes Xw2;rw[e1,hg];exact hc
       . unfold Xbv;rw[e1];exact Xhm hv
   . trivial
  boxes:=λk cs hk=>by
   have e:(Bv.rename kp st).box k=if k∈kp.boxes then _ else none:=X8V kp _ st k kp.boxes;rw[e]at hk;split at hk
   . cases hb:st.box k with
     | none=>rw[hb]at hk;cases hk
     | some cs'=>
       rw[hb]at hk;cases hk;obtain⟨arr,E,h1,h2⟩:=hS.boxes k cs' hb;refine⟨arr,E,h1,XpY hS F (Xd9 hS (λ_ _ h=>h) h2) 0 (λj kr v c hv hc hm e1 e2 e3=>?_)⟩;rw[YaU]at e3;subst e2;subst e3;constructor
       . unfold Xes Xx3;rw[e1,hb];exact hc
       . unfold Xbv;rw[e1];simp only;rw[h1];exact Xhm hv
   . cases hk
  boxM:=λk hk=>hS.boxM k (hbox k hk)
  boxInj:=λk k' h1 h2=>hS.boxInj k k' (hbox k h1) (hbox k' h2)
  boxBase:=λk hk=>hS.boxBase k (hbox k hk)
  rows:=λk e hr=>by
   obtain⟨kr,hm,ek,ee,hv⟩:=hcold hr;rcases hv with⟨r,_,h1,h2⟩ | ⟨h1,h2⟩
   . rw[h2];exact hS.rows r e h1
   . rw[h1];obtain⟨te,hte⟩:=Yao.1 h2;obtain⟨inf,z,hi,_⟩:=(hT e te hte).info;exact⟨⟨0,[],inf,hi,X74.nil _ _ _,λg hg=>by cases hg⟩⟩
  rowBox:=λk b hr hb=>by
   obtain⟨e,he⟩:=Yao.1 hr;obtain⟨kr,hm,ek,ee,hv⟩:=hcold he;rcases hv with⟨r,_,h1,h2⟩ | ⟨h1,_⟩
   . rw[h2];exact hS.rowBox r b (by rw[h1];rfl) (hbox b hb)
   . rw[h1];intro h2;cases h2
  rowInj:=λk k' h1 h2 hne=>by
   obtain⟨e,he⟩:=Yao.1 h1;obtain⟨e',he'⟩:=Yao.1 h2;obtain⟨kr,hm,ek,ee,hv⟩:=hcold he;obtain⟨kr',hm',ek',ee',hv'⟩:=hcold he';rcases hv with⟨r,ho,hre,hv⟩ | ⟨hv,_⟩
   . rcases hv' with⟨r',ho',hre',hv'⟩ | ⟨hv',_⟩
     . rw[hv,hv'];refine hS.rowInj r r' (by rw[hre];rfl) (by rw[hre'];rfl) (λe2=>?_);subst e2;have:=Xqd F.colds hm hm' ho ho';subst this;exact hne (ek.symm.trans ek')
     . rw[hv,hv'];cases hb:(σ.row r).ownBlock with
       | none=>exact .inl rfl
       | some g=>right;intro h3;cases h3
   . rw[hv];exact .inl rfl
  hot:={
   ok:=λk e t l ver hole z hl=>by
    obtain⟨kr,hm,ek,hrr⟩:=hrowof hl;subst ek;have hok:=F.ok kr hm;unfold Xp1 at hrr;split at hrr
    . rename_i r t' l' ho;cases hrr;obtain⟨v1,v2,v3⟩:=F.hotv kr hm r _ _ ho;have hs:=X7t st kr;rw[ho]at hs;obtain⟨_,_,ver',z',hl'⟩:=hs;have hk:=hS.hotAt hl';have hrow:=F.row kr hm;rw[v1]at hrow;exact {
       info:=hk.info
       pos:=hk.pos
       own:=by show X4Q w t ((Xhq σ w a st kp.rows).row kr.k) l ((Xhq σ w a st kp.rows).foot kr.k);rw[hrow,v2];exact hk.own
       nodup:=by rw[v2];exact hk.nodup
       mem:=λad u hu=>by rw[v3]at hu;rw[v2,hrow];exact hk.mem ad u hu
       full:=λ_ ad u h1 h2 h3=>by rw[v2]at h1;rw[hrow]at h2;rw[v3];exact hk.full rfl ad u h1 h2 h3
       z:=λh=>by cases h}
    . rename_i t' ho;cases hrr;obtain⟨⟨ad,v1⟩,v2,v3⟩:=F.nilv kr hm _ ho;have hrow:=F.row kr hm;rw[v1]at hrow;simp only[XqE,ho,Yac]at hok;have hok2:=hok.2.2;split at hok2
      . rename_i te hte;simp only[Yac,Yaj]at hok2;obtain⟨i,zz,hi,hs,_⟩:=(hT _ te hte).info;exact {
         info:=⟨i,hi,by rw[hs,hok2.1]⟩
         pos:=hok2.2
         own:=by show X4Q w t ((Xhq σ w a st kp.rows).row kr.k) [] ((Xhq σ w a st kp.rows).foot kr.k);rw[hrow,v2];exact X4Q.emp ad
         nodup:=by rw[v2];exact Ybg
         mem:=λad u hu=>by rw[v3]at hu;cases hu
         full:=λ_ ad u h1 h2 h3=>by rw[v2]at h1;cases h1
         z:=λh=>by cases h}
      . cases hok2
    . cases hrr
    . cases hrr
    . cases hrr
   base:=λk hk g hg=>by
    obtain⟨kr,hm,ek,hv⟩:=hhot hk;rcases hv with⟨r,t,l,ho,hr,hf⟩ | hf
    . rw[hf]at hg;exact hS.hot.base r hr g hg
    . rw[hf]at hg;cases hg
   noM:=λk hk g hg=>by
    obtain⟨kr,hm,ek,hv⟩:=hhot hk;rcases hv with⟨r,t,l,ho,hr,hf⟩ | hf
    . rw[hf]at hg;exact hS.hot.noM r hr g hg
    . rw[hf]at hg;cases hg
   noBox:=λk hk b hb hg=>by
    obtain⟨kr,hm,ek,hv⟩:=hhot hk;rcases hv with⟨r,t,l,ho,hr,hf⟩ | hf
    . rw[hf]at hg;exact hS.hot.noBox r hr b (hbox b hb) hg
    . rw[hf]at hg;cases hg
   noRow:=λk hk k' hk' g hg hgf=>by
    obtain⟨kr,hm,ek,hv⟩:=hhot hk;obtain⟨e',he'⟩:=Yao.1 hk';obtain⟨kr',hm',ek',ee',hv'⟩:=hcold he';rcases hv' with⟨r',_,hr',hv'⟩ | ⟨hv',_⟩
    . rw[hv']at hg;rcases hv with⟨r,t,l,ho,hr,hf⟩ | hf
      . rw[hf]at hgf;exact hS.hot.noRow r hr r' (by rw[hr'];rfl) g hg hgf
      . rw[hf]at hgf;cases hgf
    . rw[hv']at hg;cases hg
   apart:=λk k' hk hk' hne g hg hg'=>by
    obtain⟨kr,hm,ek,hv⟩:=hhot hk;obtain⟨kr',hm',ek',hv'⟩:=hhot hk';rcases hv with⟨r,t,l,ho,hr,hf⟩ | hf
    . rcases hv' with⟨r',t',l',ho',hr',hf'⟩ | hf'
      . rw[hf]at hg;rw[hf']at hg';refine hS.hot.apart r r' hr hr' (λe=>?_) g hg hg';subst e;have:=Xs7 F.hots hm hm' ho ho';subst this;exact hne (ek.symm.trans ek')
      . rw[hf']at hg';cases hg'
    . rw[hf]at hg;cases hg
   lt:=λk hk g hg=>by
    obtain⟨kr,hm,ek,hv⟩:=hhot hk;rcases hv with⟨r,t,l,ho,hr,hf⟩ | hf
    . rw[hf]at hg;exact hS.hot.lt r hr g hg
    . rw[hf]at hg;cases hg
   frz:=λk e t l ver z hl=>by
    obtain⟨kr,hm,ek,hrr⟩:=hrowof hl;unfold Xp1 at hrr;split at hrr<;>cases hrr}
  fr:=hS.fr
  defers:=hS.defers
  old:=hS.old
  le:=hS.le
  pin:=hS.pin
  pins:=λp hp hs=>by
   obtain⟨rv,hl⟩:=Yao.1 hs;obtain⟨kr,hm,ek,hrr⟩:=hrowof hl;have heven:=ios.even p hp;have hok:=F.ok kr hm;have hrow:=F.row kr hm;rw[<-ek];rw[hrow];rw[<-ek]at heven;simp only[XqE,Yac]at hok;have hok2:=hok.2;have hsp:=X7t st kr;cases ho:Xca st kr with
   | bad=>rw[ho]at hok2;cases hok2
   | nil t=>rw[ho]at hok2;simp only[Yac,YbW]at hok2;omega
   | cnil=>rw[ho]at hok2;simp only[Yac,YbW]at hok2;omega
   | hot r t l=>
     rw[ho]at hok2 hsp;simp only[Ya5,YbW]at hok2;obtain⟨_,_,ver,z,hl'⟩:=hsp;have e:r=kr.k:=by omega
     rw[(F.hotv kr hm r t l ho).1,e];have:=hS.pins p hp (by rw[<-ek,<-e,hl'];rfl);rw[<-ek]at this;exact this
   | cold r=>
     rw[ho]at hok2;simp only[Yac,Ya5,YbW]at hok2;have e:r=kr.k:=by omega
     obtain⟨_,h2,h3⟩:=F.coldv kr hm r ho;rw[h3,e];obtain⟨rv',hl',_⟩:=X6w h2;have:=hS.pins p hp (by rw[<-ek,<-e,hl'];rfl);rw[<-ek]at this;exact this
  olds:=λi hi=>by cases hi}
theorem Sim.weaken(hT:X1E P tab)(hS:Sim P base M0 ios σ M w a st){kp:Xid}(h:Xsj tab kp st=true):∃σ' M',Sim P base M0 ios σ' M' w a (Bv.weaken kp st):=by
 unfold Xsj at h;rw[Yac]at h;obtain⟨h1,h2⟩:=h;have hfz:∀p∈Xuv kp st,∃e t l ver z,p.2=.frz e t l ver z/\look p.1 st.rows=some (.hot e t l ver none z):=λp hp=>XiP hp;obtain⟨M',hS'⟩:=hS.freezes hfz (X8a h1);have:ready kp st=X6e (Xuv kp st) st:=by
  unfold ready;split
  . rename_i he;rw[he];rfl
  . rfl
 unfold Bv.weaken;rw[this]at h2 ⊢;obtain⟨σ',hS2⟩:=hS'.rename hT h2;exact⟨σ',M',hS2⟩
structure X0f where
 kp:Xid
 T:Ty
 I:St->El T->Prop
 μ:St->El T->Nat
def Xi2(st:St)(s i:Nat):Option X02:=match st.get s with
 | .val _ cs=>cs[i]?
 | .ptr cs=>cs[i]?
 | _=>none
def Xvd:Option X02->Int
 | some (.int _ n)=>n
 | _=>0
def Xk0:X02->Bool
 | .int ..=>true
 | .bool _=>true
 | .str _=>true
 | .lst ..=>true
 | _=>false
def Xkg:List X02->List X02
 | []=>[]
 | c::l=>match Xk0 c with
   | true=>c::Xkg l
   | false=>Xkg l
def Xj9(s:St):List Nat->Option (List X02)
 | []=>some []
 | i::l=>match s.get i,Xj9 s l with
   | .val _ cs,some r=>some (Xkg cs++r)
   | _,_=>none
def Xj8(s:St):List Nat->Option (List X02)
 | []=>some []
 | b::l=>match s.box b,Xj8 s l with
   | some cs,some r=>some (Xkg cs++r)
   | _,_=>none
def Xkf(s:St):List XcO->Option (List X02)
 | []=>some []
 | kr::l=>match look kr.k s.rows,Xkf s l with
   | some (.hot _ t l _ _ _),some r=>some (.lst t l none::r)
   | some (.cold _),some r=>some r
   | _,_=>none
def XrN(kp:Xid)(s:St):Option (List X02):=match Xj9 s kp.slots,Xj8 s kp.boxes,Xkf s kp.rows with
 | some a,some b,some c=>some (a++(b++c))
 | _,_,_=>none
def XsC:X02->X02->Option X02
 | .int k _,.int k' n=>if k=k' then some (.int k n) else none
 | .bool _,.bool b=>some (.bool b)
 | .str _,.str s=>some (.str s)
 | .lst t _ tag,.lst t' l _=>if t=t' then some (.lst t' l tag) else none
 | _,_=>none
def Xj2:List X02->List X02->Option (List X02×List X02)
 | [],cs=>some ([],cs)
 | c::sh,cs=>match Xk0 c with
   | true=>match cs with
     | v::cs=>match XsC c v,Xj2 sh cs with
       | some c',some (r,cs')=>some (c'::r,cs')
       | _,_=>none
     | []=>none
   | false=>match Xj2 sh cs with
     | some (r,cs')=>some (c::r,cs')
     | none=>none
def XtW(s0:St):List Nat->List X02->Option (List (Nat×Sv)×List X02)
 | [],cs=>some ([],cs)
 | s::l,cs=>match s0.get s with
   | .val ag sh=>match Xj2 sh cs with
     | some (c,r)=>match XtW s0 l r with
       | some (sl,r')=>some ((s,.val ag c)::sl,r')
       | none=>none
     | none=>none
   | _=>none
def Xuj(s0:St):List Nat->List X02->Option (List (Nat×List X02)×List X02)
 | [],cs=>some ([],cs)
 | b::l,cs=>match s0.box b with
   | some sh=>match Xj2 sh cs with
     | some (c,r)=>match Xuj s0 l r with
       | some (sl,r')=>some ((b,c)::sl,r')
       | none=>none
     | none=>none
   | _=>none
def XqA(s0:St):List XcO->List X02->Option (List (Nat×X0L)×List X02)
 | [],cs=>some ([],cs)
 | kr::l,cs=>match look kr.k s0.rows with
   | some (.hot e t _ ver hole z)=>match cs with
     | .lst t' x _::cs=>match decide (t'=t),XqA s0 l cs with
       | true,some (sl,r)=>some ((kr.k,.hot e t' x ver hole z)::sl,r)
       | _,_=>none
     | _=>none
   | some (.cold e)=>match XqA s0 l cs with
     | some (sl,r)=>some ((kr.k,.cold e)::sl,r)
     | none=>none
   | _=>none
def XgS(s:St):List Nat->List (Nat×Sv)
 | []=>[]
 | i::l=>(i,s.get i)::XgS s l
def XnY(kp:Xid)(s0:St)(cs:List X02):Option St:=match XtW s0 kp.slots cs with
 | some (sl,r)=>match Xuj s0 kp.boxes r with
   | some (bx,r')=>match XqA s0 kp.rows r' with
     | some (rw,[])=>some {nt:=s0.nt,slots:=XgS s0 kp.hold++sl,boxes:=bx,rows:=rw}
     | _=>none
   | _=>none
 | none=>none
def Xtv:X02->X02->Bool
 | .int k _,.int k' _=>decide (k=k')
 | .bool _,.bool _=>true
 | .str _,.str _=>true
 | .lst t _ tag,.lst t' _ tag'=>decide (t=t')&&decide (tag=tag')
 | .own t r,.own t' r'=>decide (t=t')&&decide (r=r')
 | .sub t r lo hi,.sub t' r' lo' hi'=>decide (t=t')&&decide (r=r')&&decide (lo=lo')&&decide (hi=hi')
 | .emp t,.emp t'=>decide (t=t')
 | .und,.und=>true
 | _,_=>false
def Xjt:List X02->List X02->Bool
 | [],[]=>true
 | a::l,b::r=>Xtv a b&&Xjt l r
 | _,_=>false
def XrJ:Sv->Sv->Bool
 | .val ag cs,.val ag' cs'=>decide (ag=ag')&&Xjt cs cs'
 | _,_=>false
def Xty(s0 s:St):List Nat->Bool
 | []=>true
 | i::l=>XrJ (s0.get i) (s.get i)&&Xty s0 s l
def XrL(s0 s:St):List Nat->Bool
 | []=>true
 | b::l=>(match s0.box b,s.box b with
   | some c,some c'=>Xjt c c'
   | _,_=>false)&&XrL s0 s l
def Xt2(s0 s:St):List XcO->Bool
 | []=>true
 | kr::l=>(match look kr.k s0.rows,look kr.k s.rows with
   | some (.hot e t _ ver hole z),some (.hot e' t' _ ver' hole' z')=>decide (e=e')&&decide (t=t')&&decide (ver=ver')&&decide (hole=hole')&&decide (z=z')
   | some (.cold e),some (.cold e')=>decide (e=e')
   | _,_=>false)&&Xt2 s0 s l
def XtU(tab:Tab)(an:X0f)(s0 st:St)(Z:El an.T->Prop):Prop:=
 match Xsj tab an.kp st with
 | true=>
   let s:=weaken an.kp st
   match decide (s0.nt=s.nt)&&Xty s0 s an.kp.slots&&XrL s0 s an.kp.boxes&&Xt2 s0 s an.kp.rows,XrN an.kp s with
   | true,some cs=>match X2x an.T cs with
     | some (y,[])=>XgS s0 an.kp.hold=XgS s an.kp.hold/\Z y
     | _=>False
   | _,_=>False
 | false=>False
def Xy8(an:X0f)(s0:St)(x:El an.T)(F:St->Prop):Prop:=match XnY an.kp s0 (flat an.T x) with
 | some st=>F st
 | none=>False
theorem Xos{c d:X02}(h:Xtv c d=true)(hl:Xk0 d=true):XsC c (unT d)=some d/\Xk0 c=true:=by
 cases c<;>cases d<;>simp[Xtv]at h<;>simp[Xk0]at hl
 all_goals simp[XsC,unT,h,Xk0]
theorem Xqw{c d:X02}(h:Xtv c d=true)(hl:Xk0 d=false):c=d/\Xk0 c=false:=by
 cases c<;>cases d<;>simp[Xtv]at h<;>simp[Xk0]at hl
 all_goals simp[h,Xk0]
theorem XdQ:∀{sh ds:List X02} (r:List X02),Xjt sh ds=true->Xj2 sh ((Xkg ds).map unT++r)=some (ds,r)
 | [],[],r,_=>rfl
 | c::sh,[],r,h=>by simp[Xjt]at h
 | [],d::ds,r,h=>by simp[Xjt]at h
 | c::sh,d::ds,r,h=>by
   simp only[Xjt,Yac]at h;cases hl:Xk0 d with
   | true=>
     obtain⟨h1,h2⟩:=Xos h.1 hl;simp only[Xkg,hl,Yas,Ybc,Xj2,h2,h1,XdQ r h.2]
   | false=>
     obtain⟨h1,h2⟩:=Xqw h.1 hl;simp only[Xkg,hl,Xj2,h2,XdQ r h.2,h1]
theorem XkP{s0 s:St}:∀{l:List Nat} {cs:List X02} (r:List X02),Xty s0 s l=true->Xj9 s l=some cs->XtW s0 l (cs.map unT++r)=some (XgS s l,r)
 | [],cs,r,_,e=>by simp only[Xj9,Yag]at e;subst e;rfl
 | i::l,cs,r,h,e=>by
   simp only[Xty,Yac]at h;simp only[Xj9]at e;split at e
   . rename_i ag c r' h1 h2;cases e;have hs:=h.1;rw[h1]at hs;cases hw:s0.get i with
     | val ag' sh=>
       rw[hw]at hs;simp only[XrJ,Yac,Yaj]at hs;obtain⟨rfl,hs⟩:=hs;simp only[XtW,hw,Ya8,Yam,XdQ _ hs,XkP r h.2 h2,XgS,h1]
     | _=>rw[hw]at hs;simp[XrJ]at hs
   . cases e
def Xmr(s:St):List Nat->List (Nat×List X02)
 | []=>[]
 | b::l=>match s.box b with
   | some cs=>(b,cs)::Xmr s l
   | none=>Xmr s l
theorem Xlm{s0 s:St}:∀{l:List Nat} {cs:List X02} (r:List X02),XrL s0 s l=true->Xj8 s l=some cs->Xuj s0 l (cs.map unT++r)=some (Xmr s l,r)
 | [],cs,r,_,e=>by simp only[Xj8,Yag]at e;subst e;rfl
 | b::l,cs,r,h,e=>by
   simp only[XrL,Yac]at h;simp only[Xj8]at e;split at e
   . rename_i c r' h1 h2;cases e;have hs:=h.1;rw[h1]at hs;cases hw:s0.box b with
     | some sh=>
       rw[hw]at hs;simp only at hs;simp only[Xuj,hw,Ya8,Yam,XdQ _ hs,Xlm r h.2 h2,Xmr,h1]
     | none=>rw[hw]at hs;cases hs
   . cases e
def Xkz(s:St):List XcO->List (Nat×X0L)
 | []=>[]
 | kr::l=>match look kr.k s.rows with
   | some rv=>(kr.k,rv)::Xkz s l
   | none=>Xkz s l
theorem Xh4{s0 s:St}:∀{l:List XcO} {cs:List X02} (r:List X02),Xt2 s0 s l=true->Xkf s l=some cs->XqA s0 l (cs.map unT++r)=some (Xkz s l,r)
 | [],cs,r,_,e=>by simp only[Xkf,Yag]at e;subst e;rfl
 | kr::l,cs,r,h,e=>by
   simp only[Xt2,Yac]at h;simp only[Xkf]at e;split at e
   . rename_i e1 t x v ho z r' h1 h2;cases e;have hs:=h.1;rw[h1]at hs;split at hs
     . rename_i e0 t0 x0 v0 ho0 z0 e' t' x' v' ho' z' h3 h4;cases h4;simp only[Yac,Yaj]at hs;obtain⟨⟨⟨⟨q1,q2⟩,q3⟩,q4⟩,q5⟩:=hs;subst q1;subst q2;subst q3;subst q4;subst q5;simp only[Yas,unT,Ybc,XqA,h3,decide_true,Xh4 r h.2 h2,Xkz,h1]
     . rename_i h4;cases h4
     . cases hs
   . rename_i e1 r' h1 h2;cases e;have hs:=h.1;rw[h1]at hs;split at hs
     . rename_i h4;cases h4
     . rename_i e0 e2 h3 h4;simp only[Yag,X0L.cold.injEq]at h4;subst h4;have hs:=of_decide_eq_true hs;subst hs;simp only[XqA,h3,Xh4 r h.2 h2,Xkz,h1]
     . cases hs
   . cases e
theorem Xl4(s:St)(i:Nat):∀l,look i (XgS s l)=if i∈l then some (s.get i) else none
 | []=>rfl
 | j::l=>by
   simp only[XgS,X08,Xl4 s i l,Yak];by_cases h:j=i
   . subst h;simp
   . simp[h,YaK h]
theorem Xhg(s:St)(k:Nat):∀l,look k (Xmr s l)=if k∈l then s.box k else none
 | []=>rfl
 | b::l=>by
   simp only[Xmr];cases hb:s.box b with
   | none=>
     rw[Xhg s k l];by_cases h:k=b
     . subst h;simp[hb]
     . simp[h]
   | some cs=>
     rw[X08,Xhg s k l];by_cases h:b=k
     . subst h;simp[hb]
     . simp[h,YaK h]
theorem Xhb(s:St)(k:Nat):∀(l:List XcO),look k (Xkz s l)=if k∈l.map (·.k) then look k s.rows else none
 | []=>rfl
 | kr::l=>by
   simp only[Xkz];cases hb:look kr.k s.rows with
   | none=>
     rw[Xhb s k l];by_cases h:k=kr.k
     . subst h;simp[hb]
     . simp[h]
   | some cs=>
     rw[X08,Xhb s k l];by_cases h:kr.k=k
     . subst h;simp[hb]
     . simp[h,YaK h]
theorem XoY{kp:Xid}{s0 st s:St}{cs:List X02}(hs:s=weaken kp st)(hnt:s0.nt=s.nt)(h1:Xty s0 s kp.slots=true)(h2:XrL s0 s kp.boxes=true)(h3:Xt2 s0 s kp.rows=true)(hc:XrN kp s=some cs)(hh:XgS s0 kp.hold=XgS s kp.hold):∃s',XnY kp s0 (cs.map unT)=some s'/\Ext s s':=by
 unfold XrN at hc;split at hc
 . rename_i ca cb cr ha hb hr;cases hc;have e3:=Xh4 [] h3 hr;rw[Ybd]at e3;refine⟨{nt:=s0.nt,slots:=XgS s0 kp.hold++XgS s kp.slots,boxes:=Xmr s kp.boxes,rows:=Xkz s kp.rows},?_,?_⟩
   . unfold XnY;rw[Ya8,XkP _ h1 ha,Ya8];simp only[Xlm _ h2 hb,e3]
   . subst hs;refine⟨hnt.symm,λi=>?_,λk=>?_,λr=>?_,λi=>Yc8⟩
     . have e:(⟨s0.nt,XgS s0 kp.hold++XgS (weaken kp st) kp.slots,Xmr (weaken kp st) kp.boxes,Xkz (weaken kp st) kp.rows,[]⟩:St).get i=if i∈kp.hold++kp.slots then(weaken kp st).get i else .und:=by
        simp only[St.get,hh,X5v,Xl4,Yaf];by_cases m1:i∈kp.hold
        . simp[m1]
        . by_cases m2:i∈kp.slots
          . simp[m1,m2]
          . simp[m1,m2]
       rw[e];by_cases m:i∈kp.hold++kp.slots
       . rw[Yah m]
       . rw[Yae m];show(match look i (XiT kp (rho (ready kp st) kp.rows) (ready kp st) (kp.hold++kp.slots)) with | some sv=>sv | none=>.und)=_;rw[Xf2,Yae m]
     . show look k (weaken kp st).boxes=look k (Xmr (weaken kp st) kp.boxes);rw[Xhg];split
       . rfl
       . rename_i m;show look k (Xh5 kp _ _ kp.boxes)=_;rw[X8V,Yae m]
     . show look r (weaken kp st).rows=look r (Xkz (weaken kp st) kp.rows);rw[Xhb];split
       . rfl
       . rename_i m;cases hl:look r (weaken kp st).rows with
         | none=>rfl
         | some rv=>
           obtain⟨kr,hm,e,_⟩:=Xfc hl;exact absurd (YaN.2 ⟨kr,hm,e⟩) m
 . cases hc
theorem Xkb(hT:X1E P tab){an:X0f}{s0:St}{Z:El an.T->Prop}(h:XtU tab an s0 st Z)(hS:Sim P base M0 ios σ M w a st):
 ∃y s σ' M',Z y/\XnY an.kp s0 (flat an.T y)=some s/\Sim P base M0 ios σ' M' w a s:=by
 unfold XtU at h;split at h
 . rename_i hk;simp only at h;split at h
   . rename_i cs hb hl;split at h
     . rename_i y hy;simp only[Yac,Yaj]at hb;obtain⟨⟨⟨hnt,h1⟩,h2⟩,h3⟩:=hb;have hu:=X5D _ _ _ _ hy;simp only[YaI,Ybd]at hu;obtain⟨σ',M',hS'⟩:=hS.weaken hT hk;obtain⟨s',e1,e2⟩:=XoY rfl hnt h1 h2 h3 hl h.1;exact⟨y,s',σ',M',h.2,by rw[<-hu];exact e1,hS'.ext e2⟩
     . exact h.elim
   . exact h.elim
 . exact h.elim
def Xyz(tab:Tab)(an:X0f)(st:St)(Z:St->El an.T->Prop):Prop:=XtU tab an (weaken an.kp st) st (Z (weaken an.kp st))
section
inductive Ex where
 | normal
 | exit (id:Nat)
 | ret
def XyL(next:St->Prop)(K:Ex->St->Prop):Ex->St->Prop
 | .normal,st=>next st
 | .exit id,st=>K (.exit id) st
 | .ret,st=>K .ret st
def XvN(id:Nat)(K:Ex->St->Prop):Ex->St->Prop
 | .exit id',st=>if id'=id then K .normal st else K (.exit id') st
 | .normal,st=>K .normal st
 | .ret,st=>K .ret st
def Xu5(Γ:Gam)(ops:List Oper)(st:St):List Nat:=match Γ.tk with
 | []=>[]
 | tk=>ops.flatMap λo=>match o.op,o.dst with
   | .move x,some d=>match tk.contains (d+1000000),(X3x st x).sv with
     | true,.val false [.own _ r]=>[r]
     | _,_=>[]
   | _,_=>[]
def XuR(K:St->Prop):List Nat->St->Prop
 | [],st=>K st
 | r::l,st=>match look r st.rows with
   | some (.hot e t L ver none _)=>0<L.length/\XuR K l {st with rows:=(r,.frz e t L ver true)::st.rows}
   | _=>False
def vc(tab:Tab)(Γ:Gam)(L:Nat->Option X0f):Code->Nat->St->(Ex->St->Prop)->Prop
 | .skip,_,st,K=>K .normal st
 | .region _ ops false,_,st,K=>match XhP st.nt ops.toList with
   | true=>Xk3 tab Γ ops.toList ops.toList st (K .normal)
   | false=>False
 | .region _ ops true,_,st,K=>match XhP st.nt ops.toList with
   | true=>XuR (λst=>Xyy tab Γ ops.toList st (K .normal)) (Xu5 Γ ops.toList st) st
   | false=>False
 | .seq x y,p,st,K=>vc tab Γ L x (2*p) st (XyL (λst'=>vc tab Γ L y (2*p+1) st' K) K)
 | .cond c x y,p,st,K=>match (X3x st c).sv with
   | .val false [.bool b]=>X00 b (vc tab Γ L x (2*p) st K) (vc tab Γ L y (2*p+1) st K)
   | _=>False
 | .block id c,p,st,K=>vc tab Γ L c (2*p) st (XvN id K)
 | .loop c,p,st,K=>match L p with
   | some an=>Xyz tab an st λs0 x0=>an.I st x0/\∀x,an.I st x->Xy8 an s0 x λs=>
      vc tab Γ L c (2*p) s (XyL (λst'=>XtU tab an s0 st' λy=>an.I st y/\an.μ st y<an.μ st x) K)
   | none=>False
 | .exit id,_,st,K=>K (.exit id) st
 | .ret,_,st,K=>K .ret st
 | _,_,_,_=>False
def Xz1:Ex->Exit
 | .normal=>.normal
 | .exit id=>.exit id
 | .ret=>.ret
theorem XyT{α:Type}(R:α->Prop)(μ:α->Nat):∀n x,R x->μ x<=n->∃x,R x/\∀y,R y->μ x<=μ y:=by
 intro n
 induction n with
 | zero=>intro x hx hn;exact⟨x,hx,λy _=>by omega⟩
 | succ n ih=>
   intro x hx hn;by_cases h:∃y,R y/\μ y<=n
   . obtain⟨y,hy,hyn⟩:=h;exact ih y hy hyn
   . refine⟨x,hx,λy hy=>?_⟩;rcases Nat.lt_or_ge n (μ y) with h1 | h1
     . omega
     . exact absurd ⟨y,hy,h1⟩ h
open Classical in
theorem Xon{α:Type}{c:Code}{Q:Exit->Act->World->Prop}(R:α->Act->World->Prop)(μ:α->Nat){x:α}(h0:R x a w)(round:∀x a w,R x a w->c.wp P (Exit.then (λa' w'=>∃y,R y a' w'/\μ y<μ x) Q) a w):(Code.loop c).wp P Q a w:=by
 let m:Act->World->Nat:=λa w=>if h:∃x,R x a w/\∀y,R y a w->μ x<=μ y then μ h.choose else 0
 refine wp_loop (λa w=>∃x,R x a w) m ⟨x,h0⟩ λa w ⟨x,hx⟩=>?_;have hl:=XyT (λx=>R x a w) μ _ x hx (YaC _);have hm:m a w=μ hl.choose:=dif_pos hl;refine wp_mono (round hl.choose a w hl.choose_spec.1) λe a' w' hq=>?_;cases e with
 | normal=>
   obtain⟨y,hy,hlt⟩:=hq;refine⟨⟨y,hy⟩,?_⟩;have hl':=XyT (λx=>R x a' w') μ _ y hy (YaC _);have hm':m a' w'=μ hl'.choose:=dif_pos hl';rw[hm,hm'];exact Nat.lt_of_le_of_lt (hl'.choose_spec.2 y hy) hlt
 | _=>exact hq
theorem Xno{K:St->Prop}:∀(l:List Nat) {st:St} {M:Mem},Sim P base M0 ios σ M w a st->XuR K l st->∃M' st',Sim P base M0 ios σ M' w a st'/\st'.nt=st.nt/\K st'
 | [],st,M,hS,h=>⟨M,st,hS,rfl,h⟩
 | r::l,st,M,hS,h=>by
   unfold XuR at h;split at h
   . rename_i e t L ver z hl;obtain⟨M',st',h1,h2,h3⟩:=Xno l (hS.freezeZ (z2:=true) hl λ_=>.inr λe=>by rw[e]at h;exact absurd h.1 (by simp)) h.2;exact⟨M',st',h1,h2,h3⟩
   . exact h.elim
theorem XtY{L:Nat->Option X0f}(hm:P.follows .mixedOrders=true)(hT:X1E P tab)(hΓ:XfO P Γ):∀(c:Code) (p:Nat) (st:St) (K:Ex->St->Prop) (Q:Exit->Act->World->Prop) (σ:Sg) (M:Mem) (w:World) (a:Act),Sim P base M0 ios σ M w a st->
 (∀e σ' M' w' a' st',Sim P base M0 ios σ' M' w' a' st'->K e st'->Q (Xz1 e) a' w')->vc tab Γ L c p st K->c.wp P Q a w:=by
 intro c
 induction c with
 | skip=>intro p st K Q σ M w a hS hq h;exact wp_skip (hq .normal _ _ _ _ _ hS h)
 | region id ops draw=>
   intro p st K Q σ M w a hS hq h;cases draw with
   | true=>
     simp only[vc]at h;split at h
     . rename_i hd;obtain⟨M,st,hS,hnt,h⟩:=Xno _ hS h;rw[<-hnt]at hd;unfold Xyy at h;have hl0:∀j,(Array.replicate ops.size false).getD j false=false:=λj=>by
        rw[Ybf,Array.getElem?_replicate];split<;>rfl
       have hu0:unl ops.size (Array.replicate ops.size false)<=ops.size:=by
        unfold unl;exact YaW (List.countP_le_length) (by simp)
       split at h
       . obtain⟨outs,st',hlen,hK,hext,hgood⟩:=XbH _ _ _ h;split at hK
         . rename_i hok;refine wp_region_any hm (XjB hT hΓ (λ_=>False) hd hlen hok (λj o x _ hz=>hgood j o x hz) (λσ' M' w' a' hS'=>hq .normal _ _ _ _ _ (hS'.ext hext.symm) hK) _ _ σ M _ a (by simp) hu0 ?_ (λj hj=>hj.elim) ?_)
           . intro j hj;rw[hl0 j]at hj;cases hj
           . rw[XeA (λi _=>hl0 i)];exact hS.sameHeap rfl rfl rfl rfl
         . exact hK.elim
       . exact wp_region_any hm (Xsm hT hΓ hd h (λσ' M' w' a' st' hKK hS'=>hq .normal σ' M' w' a' st' hS' hKK) _ _ σ M _ a (by simp) hu0 hl0 (hS.sameHeap rfl rfl rfl rfl))
     . exact h.elim
   | false=>
     simp only[vc]at h;split at h
     . rename_i hd;exact wp_region_list (XfS hT hΓ (λσ' M' w' a' st' hS' hK=>hq .normal σ' M' w' a' st' hS' hK) _ _ _ _ _ _ (Xe4 hd) hS h)
     . exact h.elim
 | seq x y ihx ihy=>
   intro p st K Q σ M w a hS hq h;refine wp_seq (ihx _ st _ _ σ M w a hS ?_ h);intro e σ' M' w' a' st' hS' hK;cases e with
   | normal=>exact ihy _ st' K Q σ' M' w' a' hS' hq hK
   | exit id=>exact hq _ _ _ _ _ _ hS' hK
   | ret=>exact hq _ _ _ _ _ _ hS' hK
 | cond c x y ihx ihy=>
   intro p st K Q σ M w a hS hq h;simp only[vc]at h;split at h
   . rename_i b hb;replace h:=Xgy h;have hr:=(X4u (M:=M) hS c).rep;rw[hb]at hr;have hc:a.eval c=.bool b:=(X0Y.one hr).1;refine wp_cond_split hc (λe=>ihx _ st K Q σ M w a hS hq (h.1 e)) (λe=>ihy _ st K Q σ M w a hS hq (h.2 e))
   . exact h.elim
 | block id c ih=>
   intro p st K Q σ M w a hS hq h;refine wp_block (ih _ st _ _ σ M w a hS ?_ h);intro e σ' M' w' a' st' hS' hK;cases e with
   | normal=>exact hq .normal _ _ _ _ _ hS' hK
   | exit id'=>
     simp only[XvN]at hK;show(if id'=id then Q .normal a' w' else Q (.exit id') a' w');split at hK
     . rename_i e;rw[Yah e];exact hq .normal _ _ _ _ _ hS' hK
     . rename_i e;rw[Yae e];exact hq (.exit id') _ _ _ _ _ hS' hK
   | ret=>exact hq .ret _ _ _ _ _ hS' hK
 | loop c ih=>
   intro p st K Q σ M w a hS hq h;simp only[vc]at h;split at h
   . rename_i an _;obtain⟨x0,s0,σ0,M0',⟨hI0,hround⟩,hs0,hS0⟩:=Xkb hT h hS;refine Xon (λx a w=>an.I st x/\∃s σ M,XnY an.kp (weaken an.kp st) (flat an.T x)=some s/\Sim P base M0 ios σ M w a s) (an.μ st) (x:=x0) ⟨hI0,s0,σ0,M0',hs0,hS0⟩ ?_;rintro x a w ⟨hI,s,σ,M,hs,hS⟩;have hb:=hround x hI;unfold Xy8 at hb;rw[hs]at hb;refine ih _ _ _ _ σ M w a hS ?_ hb;intro e σ' M' w' a' st' hS' hK;cases e with
     | normal=>
       obtain⟨y,s',σ2,M2,⟨hIy,hlt⟩,hs',hS2⟩:=Xkb hT hK hS';exact⟨y,⟨hIy,s',σ2,M2,hs',hS2⟩,hlt⟩
     | exit id=>exact hq _ _ _ _ _ _ hS' hK
     | ret=>exact hq _ _ _ _ _ _ hS' hK
   . exact h.elim
 | exit id=>intro p st K Q σ M w a hS hq h;exact wp_exit (hq (.exit id) _ _ _ _ _ hS h)
 | ret=>intro p st K Q σ M w a hS hq h;exact wp_ret (hq .ret _ _ _ _ _ hS h)
 | _=>intro p st K Q σ M w a hS hq h;exact h.elim
end
def X6M(tab:Tab)(st:St):List ResultVar->List TypeId->Option (List (Bool×List X02))
 | [],[]=>some []
 | .tmp t::rs,ty::tys=>match Xii tab ty (st.get t) with
   | .val ag cs=>(X6M tab st rs tys).bind λl=>some ((ag,cs)::l)
   | _=>none
 | .cell ad ty::rs,_::tys=>match st.get ad,look ty tab with
   | .box k off,some ti=>match st.box k with
     | some cs=>if off+size ti.ty<=cs.length/\(ti.agg=true\/size ti.ty=1) then(X6M tab st rs tys).bind λl=>some ((ti.agg,(cs.drop off).take (size ti.ty))::l) else none
     | none=>none
   | _,_=>none
 | _,_=>none
def XhB:List (Bool×Nat)->List (Bool×List X02)->Bool
 | [],[]=>true
 | (ag,n)::s,(ag',cs)::l=>(ag==ag')&&(cs.length==n)&&XhB s l
 | _,_=>false
def cellsOf:List (Bool×List X02)->List X02
 | []=>[]
 | p::l=>p.2++cellsOf l
def XgF(rows:List (Nat×X0L)):List (Nat×TypeId)->Option (List X02)
 | []=>some []
 | (j,e)::l=>match look (XfL j) rows,XgF rows l with
   | some (.hot _ t x _ none _),some r=>some (.lst t x none::r)
   | _,_=>none
def XoW(con:Con)(st:St):Option (List X02):=match con.io with
 | true=>st.box 0
 | false=>some []
def XnK(con:Con):List Nat:=con.backA.map λp=>XfL p.1
def Xxo(tab:Tab)(con:Con)(rs:List ResultVar)(tys:List TypeId)(i:El con.I)(x:El con.A)(st:St):Prop:=
 match X6M tab st rs tys,XoW con st with
 | some l,some bc=>
   let fz:=X7i st.rows (X68 st.rows (X21 (Xai con.fresh 0 (cellsOf l))++X21 (Xai con.ownI 0 bc)))
   let rows:=fz++st.rows
   let cs:=XbT rows (cellsOf l)
   let ib:=XbT rows bc
   match XeP rows cs,Xa4 rows cs con.fresh,XeP rows ib,Xa4 rows ib con.ownI,XgF rows con.backA with
   | some cv,some ks,some iv,some iks,some bv=>match X2x con.R cv,X2x con.I iv,X2x con.B bv with
     | some (r,[]),some (i',[]),some (b',[])=>
       match XhB con.shR l&&X60 (fz.map (·.1))&&X60 (ks++(iks++XnK con))&&(X21 (Xai con.fresh 0 cs)).isEmpty&&(X21 (Xai con.ownI 0 ib)).isEmpty with
       | true=>con.Post i x (r,(i',b'))
       | false=>False
     | _,_,_=>False
   | _,_,_,_,_=>False
 | _,_=>False
def Xw1(tab:Tab)(con:Con)(rs:List ResultVar)(tys:List TypeId)(i:El con.I)(x:El con.A):Ex->St->Prop
 | .normal,st=>Xxo tab con rs tys i x st
 | .ret,st=>Xxo tab con rs tys i x st
 | .exit _,_=>False
def Xnc(tab:Tab)(own:List (Nat×TypeId))(cs:List X02):Bool:=own.all λp=>match cs[p.1]?,look p.2 tab with
 | some (.lst t _ _),some te=>decide (te.ty=t)&&decide (0<size t)
 | _,_=>false
def tyC:X02->Option Ty
 | .lst t _ _=>some t
 | _=>none
theorem Xm1:∀(t:Ty) (x y:El t),(flat t x).map tyC=(flat t y).map tyC
 | .int _,_,_=>rfl
 | .bool,_,_=>rfl
 | .str,_,_=>rfl
 | .list _,_,_=>rfl
 | .unit,_,_=>rfl
 | .pair a b,x,y=>by simp[flat,Xm1 a x.1 y.1,Xm1 b x.2 y.2]
theorem Xfv(hT:X1E P tab){own:List (Nat×TypeId)}{t:Ty}{x0:El t}(h:Xnc tab own (flat t x0)=true)(x:El t):Xmy P own (flat t x):=λj e hj t' l tag hc=>by
 have h1:=Ya7.1 h (j,e) (X3O hj);simp only at h1;have hty:((flat t x0).map tyC)[j]?=some (some t'):=by rw[Xm1 t x0 x,Ycj,hc];rfl
 rw[Ycj]at hty;split at h1
 . rename_i t0 l0 tag0 te hc0 hte;rw[hc0]at hty;have e1:t0=t':=by simpa [tyC] using hty
   subst e1;simp only[Yac,Yaj]at h1;obtain⟨i,z,hi,hs,_⟩:=(hT e te hte).info;exact⟨⟨i,hi,by rw[hs,h1.1]⟩,h1.2⟩
 . cases h1
def Xnt(tmps:Array Value):ResultVar->Sem Value
 | .tmp t=>pure (tmps.getD t undef)
 | .cell ad t=>do loadVar t (<-asAddr (tmps.getD ad undef))
theorem Xsa(l:List Value):(if h:l.toArray.size=1 then l.toArray[0] else Value.tuple l.toArray)=XgJ l:=by
 match l with
 | []=>rfl
 | [v]=>rfl
 | v::u::r=>
   rw[dif_neg (by simp)];rfl
theorem XqN(fn:Func)(tmps:Array Value):results fn tmps=(do let vs <-fn.results.toList.mapM (Xnt tmps);pure (XgJ vs)):=by
 have h:results fn tmps=(do
  let vs <-fn.results.mapM (Xnt tmps)
  pure (if h:vs.size=1 then vs[0] else .tuple vs)):=by
  unfold results
  congr 1
 rw[h,Array.mapM_eq_mapM_toList,map_eq_pure_bind,bind_assoc]
 congr 1
 funext vs
 rw[pure_bind]
 congr 1
 exact Xsa vs
theorem Xp8(hT:X1E P tab)(hS:Sim P base M0 ios σ M w a st):∀(rs:List ResultVar) (tys:List TypeId) (l:List (Bool×List X02)),X6M tab st rs tys=some l->
 ∃vs,(rs.mapM (Xnt a.tmps)).run P w=.ok vs w/\X27 (X0Y σ st.rows M) vs l
 | [],[],l,h=>by
   simp only[X6M,Yag]at h;subst h;exact⟨[],by simp,.nil⟩
 | [],_::_,l,h=>by simp[X6M]at h
 | .tmp t::rs,[],l,h=>by simp[X6M]at h
 | .cell ad ty::rs,[],l,h=>by simp[X6M]at h
 | .tmp t::rs,ty::tys,l,h=>by
   simp only[X6M]at h;split at h
   . rename_i ag cs hc;obtain⟨r,hr,e⟩:=Ybi.1 h;cases e;obtain⟨vs,h1,h2⟩:=Xp8 hT hS rs tys r hr;have h3:=Xc1 (tab:=tab) ty (hS.slots t);rw[hc]at h3;exact⟨a.tmps.getD t undef::vs,by simp only[Ycy,Xnt,pure_bind,Sem.run_bind,h1,Result.andThen_ok,Sem.run_pure],.cons h3 h2⟩
   . cases h
 | .cell ad ty::rs,_::tys,l,h=>by
   simp only[X6M]at h;split at h
   . rename_i k off ti hg ht;split at h
     . rename_i cs hk;split at h
       . rename_i hc;obtain⟨r,hr,e⟩:=Ybi.1 h;cases e;obtain⟨vs,h1,h2⟩:=Xp8 hT hS rs tys r hr;have h3:=hS.slots ad;rw[hg]at h3;obtain⟨arr,E,hh,hcs⟩:=hS.boxes k cs hk;have h4:=(hcs.drop off).take (size ti.ty);obtain⟨v,hv,hvc,hva⟩:=X5L (w:=w) hT ht hc.2 ((⟨σ.box k,0,none⟩:Addr).add off) ((arr.toList.drop off).take (size ti.ty))
          (by rw[Yal,Yap,hcs.length];omega)
          (by
            intro j u hu;rw[add_lit,add_lit,cell_of_row w (σ.box k) _ arr E (0,0) hh];rw[YaE]at hu;split at hu
            . rw[Ybz]at hu;rw[YaU];simpa using hu
            . cases hu)
          h4.one
         refine⟨v::vs,?_,.cons ⟨by rw[hvc];exact h4,hva⟩ h2⟩;simp only[Ycy,Xnt,h3.1,asAddr,pure_bind,Sem.run_bind,hv,h1,Result.andThen_ok,Sem.run_pure]
       . cases h
     . cases h
   . cases h
theorem X27.flatten{vs:List Value}{l:List (Bool×List X02)}(h:X27 (X0Y σ st.rows M) vs l):X27 (RdT σ st.rows M) (vs.flatMap λv=>v.cells.toList) (cellsOf l):=by
 induction h with
 | nil=>exact .nil
 | cons hx _ ih=>rw[YcR];exact hx.1.append ih
theorem Xsv{vs:List Value}{l:List (Bool×List X02)}(h:X27 (X0Y σ st.rows M) vs l):∀{shs:List (Bool×Nat)},XhB shs l=true->Xdf shs vs (vs.flatMap λv=>v.cells.toList):=by
 induction h with
 | nil=>intro shs hs;cases shs with
   | nil=>exact .nil
   | cons sh shs=>simp[XhB]at hs
 | @cons v p vs l hx hr ih=>
   intro shs hs;cases shs with
   | nil=>simp[XhB]at hs
   | cons sh shs=>
     obtain⟨ag,n⟩:=sh;obtain⟨ag',cs⟩:=p;simp only[XhB,Yac,YbW]at hs;rw[YcR];refine .cons ?_ ?_ (ih hs.2)
     . have:=hx.1.length;simp at this;omega
     . rw[hs.1.1];exact hx.2
theorem XkU{rows:List (Nat×X0L)}{cs:List X02}{own:List (Nat×TypeId)}{ks:List Nat}(h:Xa4 rows cs own=some ks):∀r∈ks,∃e t l ver z,look r rows=some (.hot e t l ver none z):=λr hr=>by
 obtain⟨a1,a2⟩:=X67 h;obtain⟨j,e,t,hm,hc⟩:=a2 r hr;obtain⟨c,y,hc',hh,_⟩:=a1 j e hm;rw[hc]at hc';cases hc';obtain⟨e',l,ver,z,hl⟩:=Xn5 hh;exact⟨_,_,_,_,_,hl⟩
theorem XgP{rows:List (Nat×X0L)}:∀{own:List (Nat×TypeId)} {bv:List X02},XgF rows own=some bv->bv.length=own.length/\bv.map unT=bv/\∀(k j:Nat) (e:TypeId),own[k]?=some (j,e)->∃e0 t l ver z,bv[k]?=some (.lst t l none)/\look (XfL j) rows=some (.hot e0 t l ver none z)
 | [],bv,h=>by simp only[XgF,Yag]at h;subst h;exact⟨rfl,rfl,λk j e hk=>by simp at hk⟩
 | (j,e)::own,bv,h=>by
   simp only[XgF]at h;split at h
   . rename_i e0 t x ver z r hl hr;cases h;obtain⟨h1,h2,h3⟩:=XgP hr;refine⟨by simp[h1],by simp[unT,h2],λk j' e' hk=>?_⟩;cases k with
     | zero=>simp at hk;obtain⟨rfl,rfl⟩:=hk;exact⟨e0,t,x,ver,z,by simp,hl⟩
     | succ k=>simp at hk;obtain⟨e1,t1,l1,v1,z1,q1,q2⟩:=h3 k j' e' hk;exact⟨e1,t1,l1,v1,z1,by simpa using q1,q2⟩
   . cases h
theorem XnO{own:List (Nat×TypeId)}(f:Nat->Nat):X98 own (λj=>σ.foot (f j))=X56 σ (own.map λp=>f p.1):=by
 unfold X98 X56;rw[Ydr];rfl
theorem XeQ{fz:List (Nat×X0L)}:∀(rs:List ResultVar) (tys:List TypeId),X6M tab (X6e fz st) rs tys=X6M tab st rs tys
 | [],[]=>rfl
 | [],_::_=>rfl
 | .tmp t::rs,[]=>rfl
 | .cell ad ty::rs,[]=>rfl
 | .tmp t::rs,ty::tys=>by
   simp only[X6M,XeQ rs tys];rfl
 | .cell ad ty::rs,t::tys=>by
   simp only[X6M,XeQ rs tys];rfl
theorem XwJ(hT:X1E P tab){con:Con}{fn:Func}{tys:List TypeId}{i:El con.I}{x:El con.A}{acs:List Value}(hpins:∀j e,(j,e)∈con.backA->∃u,acs[j]?=some u/\(XfL j,u)∈ios.rows)(hio:con.io=ios.box.isSome)(hnew:con.newR=false)(hR:Xnc tab con.fresh (flat con.R (dfl con.R))=true)(hI:Xnc tab con.ownI (flat con.I (dfl con.I))=true)(hS:Sim P base M0 ios σ M w' a st)(hK:Xxo tab con fn.results.toList tys i x st):a.defers=[]/\∃v,(results fn a.tmps).run P w'=.ok v w'/\Ret P con base M0 ios.blk ios.box acs i x (.returned v) w':=by
 refine⟨hS.defers,?_⟩;unfold Xxo at hK;split at hK
 case h_2=>exact hK.elim
 rename_i l bc hl hbc;simp only at hK;have hmem:∀p∈X7i st.rows (X68 st.rows (X21 (Xai con.fresh 0 (cellsOf l))++X21 (Xai con.ownI 0 bc))),∃e t l ver z,p.2=.frz e t l ver z/\look p.1 st.rows=some (.hot e t l ver none z):=λp hp=>XiP hp;generalize X7i st.rows (X68 st.rows (X21 (Xai con.fresh 0 (cellsOf l))++X21 (Xai con.ownI 0 bc)))=fz at hK hmem;split at hK
 case h_2=>exact hK.elim
 rename_i cv ks iv iks bv e1 e2 e3 e4 e5;split at hK
 case h_2=>exact hK.elim
 rename_i r i' b' u1 u2 u3;split at hK
 case h_2=>exact hK.elim
 rename_i hc;simp only[Yac,Yc4]at hc;obtain⟨⟨⟨⟨c1,c2⟩,c3⟩,c4⟩,c5⟩:=hc;obtain⟨M2,hS2⟩:=hS.freezes hmem (X8a c2);obtain⟨vs,hv1,hv2⟩:=Xp8 (st:=X6e fz st) hT hS2 _ _ _ ((XeQ _ _).trans hl);refine⟨XgJ vs,?_,?_⟩
 . rw[XqN];simp only[Sem.run_bind,hv1,Result.andThen_ok,Sem.run_pure]
 have hrows:∀r rv,look r (fz++st.rows)=some rv->look r (X6e fz st).rows=some rv:=λ_ _ h=>h;have hrd:=Xd9 hS2 hrows hv2.flatten;have hB:=XgP e5;have hhot:∀r∈ks++(iks++XnK con),X1G r (X6e fz st).rows:=λr hr=>by
  rcases Yaf.1 hr with h | h
  . obtain⟨e,t,l,ver,z,hl⟩:=XkU e2 r h;exact⟨_,_,_,_,_,_,hl⟩
  . rcases Yaf.1 h with h | h
    . obtain⟨e,t,l,ver,z,hl⟩:=XkU e4 r h;exact⟨_,_,_,_,_,_,hl⟩
    . obtain⟨p,hp,rfl⟩:=YaN.1 h;obtain⟨j,e⟩:=p;obtain⟨k,hk⟩:=Yc9 hp;obtain⟨e0,t,l,ver,z,_,q⟩:=hB.2.2 k j e hk;exact⟨_,_,_,_,_,_,q⟩
 have hnd:=XbU hS2 (X8a c3) hhot;rw[X61,X61]at hnd;have hcvR:=Xgo e1 u1;have hivI:=Xgo e3 u2;have hbvB:bv=flat con.B b':=by
  have:=X5D _ _ _ _ u3;rw[hB.2.1]at this;simpa using this
 obtain⟨a1,_⟩:=X67 e2;obtain⟨b1,_⟩:=X67 e4;have hblk:∀g,(∃r∈ks++(iks++XnK con),g∈σ.foot r)->(base.heap.size<=g\/(g∈ios.blk/\ios.box≠some g))/\g<w'.heap.size/\∀ad,ad.block=g->M2 ad=none:=λg ⟨r,hr,hg⟩=>by
  have hh:=hhot r hr;refine⟨?_,hS2.hot.lt r hh g hg,hS2.hot.noM r hh g hg⟩;rcases hS2.hot.base r hh g hg with h | h
  . exact .inl h
  . by_cases hb:ios.box=some g
    ·
     have hbx:(X6e fz st).box 0=some bc:=by
      have:con.io=true:=by rw[hio,hb];rfl
      unfold XoW at hbc;rw[this]at hbc;exact hbc
     have:=hS2.hot.noBox r hh 0 (by rw[hbx];rfl);rw[hS2.pin g hb]at this;exact absurd hg this
    . exact .inr ⟨h,hb⟩
 refine⟨vs,(r,(i',b')),vs.flatMap λv=>v.cells.toList,M2,Xb1 σ (XbT (fz++st.rows) (cellsOf l)),Xb1 σ (XbT (fz++st.rows) bc),λj=>σ.foot (XfL j),[],rfl,hK,hS2.le,hS2.mem,hS2.fr,hS2.old,?_,?_,?_,?_,Xfv hT hR _,Xfv hT hI _,?_,?_⟩
 . rw[hnew];exact⟨rfl,Xsv hv2 c1⟩
 . rw[<-hcvR];exact Xm8 hS2 (Mem.le_refl _) hrows hrd e1 (λj e hm=>by obtain⟨c,y,k1,k2,_⟩:=a1 j e hm;exact⟨c,y,k1,k2⟩) (λr hb=>by rw[c4]at hb;cases hb)
 . intro g hg;have hio':con.io=true:=by rw[hio,hg];rfl
   have hbx:(X6e fz st).box 0=some bc:=by
    unfold XoW at hbc;rw[hio']at hbc;exact hbc
   obtain⟨arr,E,h1,h2⟩:=hS2.boxes 0 bc hbx;rw[hS2.pin g hg]at h1;refine⟨arr,E,h1,?_,λad had=>hS2.boxM 0 (by rw[hbx];rfl) ad (by rw[had,hS2.pin g hg])⟩;rw[<-hivI];exact Xm8 hS2 (Mem.le_refl _) hrows (Xd9 hS2 hrows h2) e3 (λj e hm=>by obtain⟨c,y,k1,k2,_⟩:=b1 j e hm;exact⟨c,y,k1,k2⟩) (λr hb=>by rw[c5]at hb;cases hb)
 . refine⟨by rw[<-hbvB];exact hB.1,λk j e hk=>?_⟩;obtain⟨e0,t,x',ver,z,q1,q2⟩:=hB.2.2 k j e hk;obtain⟨u,hu,hp⟩:=hpins j e (YbB hk);have hrow:σ.row (XfL j)=u:=hS2.pins (XfL j,u) hp (by show(look (XfL j) (fz++st.rows)).isSome=true;rw[q2];rfl);refine⟨u,t,x',hu,by rw[<-hbvB];exact q1,?_⟩;rw[<-hrow];exact(hS2.hotAt q2).own
 . rw[X6a e2];have hbk:X98 con.backA (λj=>σ.foot (XfL j))=X56 σ (XnK con):=XnO XfL;rw[hbk];cases hb:ios.box with
   | none=>
     have h2:(X56 σ ks++X56 σ (XnK con)).Nodup:=hnd.sublist (YcK (List.sublist_append_right _ _) _);simpa using h2
   | some g=>
     show([]++(X56 σ ks++(X98 con.ownI (Xb1 σ (XbT (fz++st.rows) bc))++X56 σ (XnK con)))).Nodup;rw[X6a e4];simpa using hnd
 . intro g hg;refine hblk g ?_;rw[X6a e2]at hg;have hbk:X98 con.backA (λj=>σ.foot (XfL j))=X56 σ (XnK con):=XnO XfL;rw[hbk]at hg;have hg2:g∈X56 σ (ks++(iks++XnK con)):=by
    rw[X61,X61];simp only[YaV]at hg;rcases Yaf.1 hg with h | h
    . exact Yaf.2 (.inl h)
    . refine Yaf.2 (.inr ?_);rcases Yaf.1 h with h | h
      . cases hb:ios.box with
        | none=>rw[hb]at h;cases h
        | some g'=>
          rw[hb]at h;have h':g∈X98 con.ownI (Xb1 σ (XbT (fz++st.rows) bc)):=h;rw[X6a e4]at h';exact Yaf.2 (.inl h')
      . exact Yaf.2 (.inr h)
   obtain⟨r,hr,hg3⟩:=X6x hg2;exact⟨r,hr,hg3⟩
def XhC:List Nat->Nat
 | []=>0
 | n::ns=>n+XhC ns
def Xsy:List Nat->List X02->List Cap
 | [],_=>[]
 | n::ns,cs=>.ptr (cs.take n)::Xsy ns (cs.drop n)
def X4g:Nat->List Sh->List X02->List (Nat×Sv)
 | _,[],_=>[]
 | i,.one::shs,cs=>(i,.val false (cs.take 1))::X4g (i+1) shs (cs.drop 1)
 | i,.agg n::shs,cs=>(i,.val true (cs.take n))::X4g (i+1) shs (cs.drop n)
 | i,.ptr n::shs,cs=>(i,.ptr (cs.take n))::X4g (i+1) shs (cs.drop n)
 | i,.clo f ns::shs,cs=>(i,.fn f [] (Xsy ns (cs.take (XhC ns))))::X4g (i+1) shs (cs.drop (XhC ns))
 | i,.pptr n::shs,cs=>(i,.pptr (cs.take n))::X4g (i+1) shs (cs.drop n)
 | i,.clop f n::shs,cs=>(i,.fn f [] [.pptr (cs.take n)])::X4g (i+1) shs (cs.drop n)
 | i,.self f false::shs,cs=>(i,.fn f [.box 0 0] [])::X4g (i+1) shs (cs.drop 0)
 | i,.self f true::shs,cs=>(i,.fn f [] [.pp 0 0])::X4g (i+1) shs (cs.drop 0)
def Xn7(slots:List (Nat×Sv)):List Nat:=(slots.map (·.1)).filter λi=>match look i slots with
 | some (.val _ _)=>true
 | _=>false
def Xif(con:Con)(x:El con.A):List X02:=Xew XfL (con.ownA++con.backA) 0 (flat con.A x)
def Xbe(con:Con)(x:El con.A):List (Nat×X0L):=X6C XfL (con.ownA++con.backA) 0 (flat con.A x)
def Xi9(con:Con)(nt:Nat)(i:El con.I)(x:El con.A):St:=match con.io with
 | true=>{nt,slots:=(0,.box 0 0)::X4g 1 con.shA (Xif con x),boxes:=[(0,Xew Xlg con.ownI 0 (flat con.I i))],rows:=Xbe con x++X6C Xlg con.ownI 0 (flat con.I i),olds:=Xn7 ((0,.box 0 0)::X4g 1 con.shA (Xif con x))}
 | false=>{nt,slots:=X4g 0 con.shA (Xif con x),boxes:=[],rows:=Xbe con x,olds:=Xn7 (X4g 0 con.shA (Xif con x))}
theorem XuE{ns:List Nat}{vs cs:List Value}(h:Xg5 M ns vs cs):cs.length=XhC ns:=by
 induction h with
 | nil=>rfl
 | cons hx _ ih=>rw[Yab,hx.1,ih];rfl
theorem XwG{rows:List (Nat×X0L)}{boxes:List (Nat×List X02)}{ns:List Nat}{vs cs:List Value}(h:Xg5 M ns vs cs):∀{cvs:List X02},X27 (RdT σ rows M) cs cvs->X27 (Xdq σ rows boxes M) vs (Xsy ns cvs):=by
 induction h with
 | nil=>intro cvs _;exact .nil
 | @cons n v c ns vs cs hx hr ih=>
   intro cvs hc;obtain⟨hn,ad,hv,hM⟩:=hx;have hc1:X27 (RdT σ rows M) c (cvs.take n):=by have:=hc.take n;rw[YbM hn]at this;exact this
   have hc2:X27 (RdT σ rows M) cs (cvs.drop n):=by have:=hc.drop n;rw[Ycf hn]at this;exact this
   refine .cons ⟨ad,hv,λj cv hj=>?_⟩ (ih hc2);obtain⟨u,hu,hr⟩:=hc1.get hj;exact⟨u,hM j u hu,hr⟩
theorem XmS{rows:List (Nat×X0L)}{n:Nat}{u:Value}{c:List Value}{cvs:List X02}(hx:Xnm M n u c)(hc:X27 (RdT σ rows M) c cvs):Xdk σ rows M u cvs:=by
 obtain⟨hn,ad,hv,hM⟩:=hx;refine⟨ad,hv,λj cv hj=>?_⟩;obtain⟨u,hu,hr⟩:=hc.get hj;exact⟨u,hM j u hu,hr⟩
theorem Xow{σ:Sg}{rows:List (Nat×X0L)}{boxes:List (Nat×List X02)}{shs:List Sh}{vs cs:List Value}{b:Option Nat}(hb:∀g,b=some g->σ.box 0=g/\(look 0 boxes).isSome=true)(h:XeX M b shs vs cs):
 ∀{cvs:List X02} (k:Nat),X27 (RdT σ rows M) cs cvs->∀i,match look i (X4g k shs cvs) with
  | some sv=>k<=i/\i - k<vs.length/\X44 σ rows boxes M (vs.getD (i - k) undef) sv
  | none=>True:=by
 induction h with
 | nil=>intro cvs k _ i;simp[X4g,look]
 | @cons sh v c shs vs cs hx hr ih=>
   intro cvs k hc i;have hlen:c.length<=cvs.length:=by have:=hc.length;simp at this;omega
   have hc1:X27 (RdT σ rows M) c (cvs.take c.length):=by have:=hc.take c.length;simpa using this
   have hc2:X27 (RdT σ rows M) cs (cvs.drop c.length):=by have:=hc.drop c.length;simpa using this
   have step:∀(n:Nat) (sv:Sv),c.length=n->X44 σ rows boxes M v sv->match look i ((k,sv)::X4g (k+1) shs (cvs.drop n)) with
    | some sv=>k<=i/\i - k<(v::vs).length/\X44 σ rows boxes M ((v::vs).getD (i - k) undef) sv
    | none=>True:=by
    intro n sv hn hsv;subst hn;rw[X08];by_cases hki:k=i
    . subst hki;simp;exact hsv
    . rw[Yae hki];have:=ih (k+1) hc2 i;split at this
      . rename_i sv' hl;obtain⟨h1,h2,h3⟩:=this;refine⟨by omega,by simp;omega,?_⟩;rw[show i - k=(i - (k+1))+1 by omega];simpa using h3
      . trivial
   cases sh with
   | one=>
     obtain⟨rfl,hag⟩:=hx;refine step 1 _ rfl ⟨?_,hag⟩;have:v.cells=#[v]:=by cases v<;>first | rfl | (simp[Xb2]at hag)
     rw[this];exact hc1
   | agg n=>
     obtain⟨hn,vs',rfl,rfl⟩:=hx;exact step n _ hn ⟨by rw[hn]at hc1;exact hc1,rfl⟩
   | ptr n=>
     obtain⟨hn,ad,rfl,hM⟩:=hx;refine step n _ hn ⟨ad,rfl,λj cv hj=>?_⟩;rw[hn]at hc1;obtain⟨u,hu,hr⟩:=hc1.get hj;exact⟨u,hM j u hu,hr⟩
   | clo f ns=>
     obtain⟨vb,rfl,hcaps⟩:=hx;have hn:c.length=XhC ns:=XuE hcaps;refine step (XhC ns) _ hn ⟨#[],vb,rfl,.nil,?_⟩;rw[hn]at hc1;exact XwG (σ:=σ) (rows:=rows) (boxes:=boxes) hcaps hc1
   | pptr n=>
     obtain⟨ad,u,rfl,hu,hp⟩:=hx;have hn:=hp.1;rw[hn]at hc1;exact step n _ hn ⟨ad,u,rfl,hu,XmS hp hc1⟩
   | clop f n=>
     obtain⟨x,rfl,ad,u,rfl,hu,hp⟩:=hx;have hn:=hp.1;rw[hn]at hc1;exact step n _ hn ⟨#[],_,rfl,.nil,.cons ⟨ad,u,rfl,hu,XmS hp hc1⟩ .nil⟩
   | self f m=>
     obtain⟨rfl,hs⟩:=hx;cases m with
     | false=>
       cases hbb:b with
       | none=>rw[hbb]at hs;exact hs.elim
       | some g=>
         rw[hbb]at hs;obtain⟨q1,q2⟩:=hb g hbb;refine step 0 _ rfl ⟨_,#[],hs,.cons ⟨?_,q2⟩ .nil,.nil⟩;rw[q1];simp[Addr.add]
     | true=>
       cases hbb:b with
       | none=>rw[hbb]at hs;exact hs.elim
       | some g=>
         rw[hbb]at hs;obtain⟨q1,q2⟩:=hb g hbb;obtain⟨ad,e1,e2⟩:=hs;refine step 0 _ rfl ⟨#[],_,e1,.nil,.cons ⟨ad,rfl,?_,q2⟩ .nil⟩;rw[e2,q1];simp[Addr.add]
def Wf:(t:Ty)->El t->Prop
 | .list t,l=>List.length l<=maxLen/\∀x,x∈(show List (El t) from l)->Wf t x
 | .pair a b,x=>Wf a x.1/\Wf b x.2
 | _,_=>True
theorem RdC.wf:∀(t:Ty) (cs:List Value) (x:El t),RdC M t cs x->Wf t x
 | .int _,_,_,_=>trivial
 | .bool,_,_,_=>trivial
 | .str,_,_,_=>trivial
 | .unit,_,_,_=>trivial
 | .pair a b,_,_,⟨_,_,_,h1,h2⟩=>⟨RdC.wf a _ _ h1,RdC.wf b _ _ h2⟩
 | .list t,_,l,⟨_,_,_,h1,h2,h⟩=>by
   refine⟨YaW h1 h2,λx hx=>?_⟩;obtain⟨i,hi,e⟩:=YaM hx;obtain⟨_,vs,_,_,_,h4⟩:=h i hi;have:=RdC.wf t vs _ h4;rw[<-e];exact this
theorem XoC{b:Option Nat}{shs:List Sh}{vs cs:List Value}(h:XeX M b shs vs cs):vs.length=shs.length:=by
 induction h with
 | nil=>rfl
 | cons _ _ ih=>simp[ih]
theorem XpJ(args:List Value)(n i:Nat)(hi:i<args.length):((args.toArray++Array.replicate n undef).getD i undef)=args.getD i undef:=by
 rw[Ybf,Yar,Array.getElem?_append_left (by simpa using hi)];simp
def conB(tab:Tab)(con:Con)(nt:Nat):Bool:=
 Xnc tab (con.ownA++con.backA) (flat con.A (dfl con.A))&&Xnc tab con.ownI (flat con.I (dfl con.I))&&Xnc tab con.fresh (flat con.R (dfl con.R))&&!con.newR&&decide (size con.A<=4096)&&
 decide (con.shA.length+(match con.io with | true=>1 | false=>0)<=nt)
theorem XlY{key:Nat->Nat}(hinj:∀i j,key i=key j->i=j){fr:List (Nat×TypeId)}{F:Nat->List Nat}:∀{vs:List Value} {cs:List X02} (i:Nat),((mkD key fr F i vs cs).map (·.key)).Nodup
 | [],_,i=>Ybg
 | _::_,[],i=>Ybg
 | u::vs,c::cs,i=>by
   have ih:=XlY hinj (fr:=fr) (F:=F) (vs:=vs) (cs:=cs) (i+1);cases c with
   | lst t l tag=>
     simp only[mkD];cases hl:look i fr with
     | none=>exact ih
     | some e=>
       simp only[Yas,YaB];refine⟨λhm=>?_,ih⟩;obtain⟨x,hx,e1⟩:=YaN.1 hm;obtain⟨j,_,_,_,_,h4,_⟩:=Xmp (i+1) hx;rw[h4]at e1;have:=hinj _ _ e1;omega
   | _=>exact ih
theorem Xqb(i j:Nat)(h:XfL i=XfL j):i=j:=by unfold XfL at h;omega
theorem Xu6(i j:Nat)(h:Xlg i=Xlg j):i=j:=by unfold Xlg at h;omega
theorem XuH{M:Mem}{own:List (Nat×TypeId)}{vs:List Value}{cs:List X02}{F:Nat->List Nat}(h:XfZ w M own vs cs F)(hM:∀ad v,M ad=some v->w.cell? ad=some v)(hn:(X98 own F).Nodup):∀(j:Nat) (u:Value) (c:X02),vs[j]?=some u->cs[j]?=some c->RdV (XhR w) u c:=λj u c hu hc=>by
 cases hl:look j own with
 | none=>exact(h.rd j u c hl hu hc).mono hM
 | some e=>
   obtain⟨u',t,l,k1,k2,k3⟩:=h.own j e hl;rw[hu]at k1;cases k1;rw[hc]at k2;cases k2;exact X4Q.rdTop k3 ((XeU hn).1 (j,e) (X3O hl)) λad u _ _ hu=>hu
theorem X27.of_get{α β:Type}{R:α->β->Prop}:∀{as:List α} {bs:List β},as.length=bs.length->(∀(j:Nat) a b,as[j]?=some a->bs[j]?=some b->R a b)->X27 R as bs
 | [],[],_,_=>.nil
 | [],_::_,h,_=>by simp at h
 | _::_,[],h,_=>by simp at h
 | a::as,b::bs,h,hr=>.cons (hr 0 a b (by simp) (by simp)) (X27.of_get (by simpa using h) λj x y hx hy=>hr (j+1) x y (by simpa using hx) (by simpa using hy))
theorem Xq9{M:Mem}{own:List (Nat×TypeId)}{vs:List Value}{t:Ty}{x:El t}{F:Nat->List Nat}(h:XfZ w M own vs (flat t x) F)(hM:∀ad v,M ad=some v->w.cell? ad=some v)(hn:(X98 own F).Nodup):Wf t x:=
 RdC.wf t vs x (XiQ t vs x (X27.of_get h.len λj u c hu hc=>XuH h hM hn j u c hu hc))
def Xyi:Option Nat->List Value
 | some g=>[.pointer (some ⟨g,0,none⟩)]
 | none=>[]
def Xvl(n:Nat):Option Nat->List (Nat×List X02)
 | some _=>[(0,Xku n)]
 | none=>[]
def Xvw(con:Con)(FI:Nat->List Nat)(ivs:List Value)(i:El con.I):Option Nat->List Xgc
 | some _=>mkD Xlg con.ownI FI 0 ivs (flat con.I i)
 | none=>[]
def XyO(K:St->Prop):Ex->St->Prop
 | .normal,st=>K st
 | .ret,st=>K st
 | .exit _,_=>False
theorem Xtb{con:Con}(K:El con.I->El con.A->St->Prop)(L:(i:El con.I)->El con.A->Nat->Option X0f){n:FuncId}{fn:Func}{c:Code}(hm:P.follows .mixedOrders=true)(hT:X1E P tab)(hΓ:XfO P Γ)(hf:P.funcs[n]?=some fn)(hb:fn.body=some c)(hA:Xnc tab (con.ownA++con.backA) (flat con.A (dfl con.A))=true)(hI:Xnc tab con.ownI (flat con.I (dfl con.I))=true)(hsz:size con.A<=4096)(hnt:con.shA.length+(match con.io with | true=>1 | false=>0)<=fn.ntmps)(hfin:∀(ios:Ios) (base:World) (M0:Mem) (acs:List Value) (i:El con.I) (x:El con.A) (σ:Sg) (M:Mem) (w':World) (a:Act) (st:St),(∀j e,(j,e)∈con.backA->∃u,acs[j]?=some u/\(XfL j,u)∈ios.rows)->con.io=ios.box.isSome->
   (con.io=false->con.ownA=[]->con.backA=[]->ios.blk=[])->Sim P base M0 ios σ M w' a st->K i x st->a.defers=[]/\∃v,(results fn a.tmps).run P w'=.ok v w'/\Ret P con base M0 ios.blk ios.box acs i x (.returned v) w')(h:∀i x,con.pre i x->(con.io=true->Wf con.I i)->Wf con.A x->vc tab Γ (L i x) c 1 (Xi9 con fn.ntmps i x) (XyO (K i x))):X0h P n con:=by
 intro w M vs cs i x F FI b hM hargs hown hio hbx hnd hnone hpre;have hlen:=XoC hargs;have hcl:cs.length=size con.A:=by rw[hown.len,X3k]
 obtain⟨nd1,nd2,nd3⟩:=YaF.1 hnd;have ndI:∀g,b=some g->(X98 con.ownI FI).Nodup/\g∉X98 con.ownI FI:=λg hg=>by
  rw[hg]at nd1;have:=YaB.1 nd1;exact⟨this.2,this.1⟩
 have inA:∀g∈X98 (con.ownA++con.backA) F,g∈X5B con b F FI:=λg hg=>Yaf.2 (.inr hg);have inI:∀g0,b=some g0->∀g∈X98 con.ownI FI,g∈X5B con b F FI:=λg0 hg0 g hg=>Yaf.2 (.inl (by rw[hg0];exact Yan _ hg));have inB:∀g,b=some g->g∈X5B con b F FI:=λg hg=>Yaf.2 (.inl (by rw[hg];exact Ycs));obtain⟨ivs,hiv⟩:∃ivs:List Value,∀g,b=some g->∃arr E,w.heap[g]?=some (.cells arr E (0,0))/\arr.toList=ivs/\XfZ w M con.ownI ivs (flat con.I i) FI:=by
  cases b with
  | none=>exact⟨[],λg hg=>by cases hg⟩
  | some g=>
    obtain⟨arr,E,h1,h2⟩:=hbx g rfl;exact⟨arr.toList,λg' hg'=>by cases hg';exact⟨arr,E,h1,rfl,h2⟩⟩
 let ios:Ios:={blk:=X5B con b F FI,box:=b,rows:=con.backA.map λp=>(XfL p.1,cs.getD p.1 undef),even:=λp hp=>by obtain⟨q,_,rfl⟩:=YaN.1 hp;unfold XfL;omega}
 let pre:List Value:=Xyi b
 have hpl:pre.length=(match con.io with | true=>1 | false=>0):=by
  simp only[pre];rw[hio];cases b<;>rfl
 have hle:(pre++vs).length<=fn.ntmps:=by rw[Yab,hpl,hlen];omega
 show Calls P n (pre++vs).toArray w _;refine calls_of_wp hf hb ?_
 let σ0:Sg:=⟨λ_=>b.getD 0,λ_=>undef,λ_=>[],λ_ _=>none⟩
 let st0:St:={nt:=fn.ntmps,slots:=[],boxes:=Xvl ivs.length b,rows:=[]}
 have box0:∀k,(st0.box k).isSome=true->k=0/\∃g,b=some g:=λk hk=>by
  cases hb':b with
  | none=>simp only[St.box,st0,hb',Xvl,look]at hk;cases hk
  | some g=>
    simp only[St.box,st0,hb',Xvl,look]at hk;split at hk
    . rename_i e;exact⟨e.symm,g,rfl⟩
    . cases hk
 have hS0:Sim P w M ios σ0 M w {tmps:=(pre++vs).toArray++Array.replicate (fn.ntmps - (pre++vs).toArray.size) undef,defers:=[]} st0:={
  mem:=hM
  nt:=by simp at hle ⊢;simp only[st0];omega
  slots:=λi=>trivial
  boxes:=λk ds hk=>by
   obtain⟨e,g,hg⟩:=box0 k (by rw[hk];rfl);subst e;obtain⟨arr,E,h1,h2,h3⟩:=hiv g hg;have hd:ds=Xku ivs.length:=by
    simp only[St.box,st0,hg,Xvl,look,Yci,Yag]at hk;exact hk.symm
   subst hd;refine⟨arr,E,by show w.heap[b.getD 0]?=_;rw[hg];exact h1,?_⟩;rw[h2];exact XjV h3.one
  boxM:=λk hk ad had=>by
   obtain⟨e,g,hg⟩:=box0 k hk;exact hnone g (inB g hg) ad (by rw[had];show b.getD 0=g;rw[hg];rfl)
  boxInj:=λk k' h1 h2 _=>by rw[(box0 k h1).1,(box0 k' h2).1]
  boxBase:=λk hk=>by
   obtain⟨e,g,hg⟩:=box0 k hk;exact .inr (by show b.getD 0∈X5B con b F FI;have:=inB g hg;rw[hg]at this ⊢;exact this)
  rows:=λr e he=>by cases he
  rowBox:=λr k hr=>by cases hr
  rowInj:=λr r' hr=>by cases hr
  hot:={
   ok:=λr e t l ver hole z hl=>by cases hl
   base:=λr ⟨_,_,_,_,_,_,hl⟩=>by cases hl
   noM:=λr ⟨_,_,_,_,_,_,hl⟩=>by cases hl
   noBox:=λr ⟨_,_,_,_,_,_,hl⟩=>by cases hl
   noRow:=λr ⟨_,_,_,_,_,_,hl⟩=>by cases hl
   apart:=λr r' ⟨_,_,_,_,_,_,hl⟩=>by cases hl
   lt:=λr ⟨_,_,_,_,_,_,hl⟩=>by cases hl
   frz:=λr e t l ver z hl=>by cases hl}
  fr:=Fr.refl _ _
  defers:=rfl
  old:=λad _ _ h=>h
  le:=Mem.le_refl _
  pin:=λg hg=>by show b.getD 0=g;rw[show b=some g from hg];rfl
  pins:=λp hp hs=>by cases hs
  olds:=λj hj=>by cases hj}
 have tag0:∀r,noTag r st0=true:=λr=>by
  unfold noTag;have hu:∀n,XcV (Xku n)=[]:=λn=>by
   unfold Xku
   induction n with
   | zero=>rfl
   | succ n ih=>rw[Ybx];exact ih
  have:X6z r st0.boxes=true:=by
   cases hb':b with
   | none=>simp only[st0,hb',Xvl];rfl
   | some g=>
     simp only[st0,hb',Xvl,X6z,XmW,hu];rfl
  rw[this];rfl
 have hDA:=λy hy=>Xpl (key:=XfL) (x:=y) hown (Xfv hT hA x) nd2 hy
 let D2:List Xgc:=Xvw con FI ivs i b
 have hDI:∀y∈D2,X4Q w y.t y.v y.l y.fo/\(∃i,P.info? y.e=some i/\i.size=size y.t)/\0<size y.t/\y.fo.Nodup/\(∃j,y.key=Xlg j/\(look j con.ownI).isSome=true/\y.fo=FI j)/\∃g,b=some g:=λy hy=>by
  cases hb':b with
  | none=>simp only[D2,hb',Xvw]at hy;cases hy
  | some g=>
    simp only[D2,hb',Xvw]at hy;obtain⟨arr,E,_,_,h3⟩:=hiv g hb';obtain⟨k1,k2,k3,k4,k5⟩:=Xpl (key:=Xlg) h3 (Xfv hT hI i) (ndI g hb').1 hy;exact⟨k1,k2,k3,k4,k5,g,rfl⟩
 have idx:∀y∈mkD XfL (con.ownA++con.backA) F 0 cs (flat con.A x),∃j,y.key=XfL j/\j<4096/\cs[j]?=some y.v:=λy hy=>by
  obtain⟨j,tag,h1,h2,h3,h4,h5⟩:=Xmp 0 hy;rw[YaU]at h4;have:=(Ya3.1 h1).1;exact⟨j,h4,by omega,h1⟩
 have free:∀g∈X5B con b F FI,b≠some g->g<w.heap.size->XmA w ios σ0 M w st0 g:=λg hg hne hlt=>{
  base:=.inr hg
  noM:=hnone g hg
  noBox:=λk hk e=>by
   obtain⟨_,g',hg'⟩:=box0 k hk;have:b.getD 0=g:=e;rw[hg']at this hne;exact hne (by rw[<-this];rfl)
  noRow:=λr hr=>by cases hr
  noHot:=λr ⟨_,_,_,_,_,_,hl⟩=>by cases hl
  lt:=hlt}
 have notBox:∀g0,b=some g0->g0∉X98 (con.ownA++con.backA) F:=λg0 hg0 hm=>nd3 g0 (by rw[hg0];exact Ycs) g0 hm rfl;obtain⟨σ1,hS1,r1,r2,r3⟩:=Sim.addHotsP (mkD XfL (con.ownA++con.backA) F 0 cs (flat con.A x)++D2) hS0 (λy hy=>by
  have pinA:∀q∈ios.rows,q.1=y.key->y.v=q.2:=λq hq e=>by
   obtain⟨p,hp,rfl⟩:=YaN.1 hq;obtain⟨j,e'⟩:=p;have hp2:∃u,cs[j]?=some u:=by
    have:(look j (con.ownA++con.backA)).isSome=true:=Xhw.2 ⟨e',Yaf.2 (.inr hp)⟩;obtain⟨e2,he2⟩:=Yao.1 this;obtain⟨u,_,_,hu,_⟩:=hown.own j e2 he2;exact⟨u,hu⟩
   obtain⟨u,hu⟩:=hp2;have hj:j<cs.length:=(Ya3.1 hu).1;rcases Yaf.1 hy with h1 | h1
   . obtain⟨j',k1,k2,k3⟩:=idx y h1;have e2:XfL j=y.key:=e;rw[k1]at e2;have:=Xqb _ _ e2;subst this;show y.v=cs.getD j undef;rw[Xhm k3]
   . obtain⟨_,_,_,_,⟨j',k1,_⟩,_⟩:=hDI y h1;have e2:XfL j=y.key:=e;rw[k1]at e2;unfold XfL Xlg at e2;omega
  have more:X4Q w y.t y.v y.l y.fo/\(∃i,P.info? y.e=some i/\i.size=size y.t)/\0<size y.t/\y.fo.Nodup/\∀g∈y.fo,g∈X5B con b F FI/\b≠some g:=by
   rcases Yaf.1 hy with h1 | h1
   . obtain⟨k1,k2,k3,k4,j,_,k5,k6⟩:=hDA y h1;refine⟨k1,k2,k3,k4,λg hg=>?_⟩;have hg':=Xbd k5 (k6▸hg);exact⟨inA g hg',λe=>notBox g e hg'⟩
   . obtain⟨k1,k2,k3,k4,⟨j,_,k5,k6⟩,g0,hg0⟩:=hDI y h1;refine⟨k1,k2,k3,k4,λg hg=>?_⟩;have hg':=Xbd k5 (k6▸hg);exact⟨inI g0 hg0 g hg',λe=>(ndI g e).2 hg'⟩
  refine⟨tag0 _,pinA,more.1,more.2.1,more.2.2.1,more.2.2.2.1,λg hg=>free g (more.2.2.2.2 g hg).1 (more.2.2.2.2 g hg).2 (X1v.lt more.1 g hg)⟩) (by
  rw[Ya8];refine YaF.2 ⟨XlY Xqb 0,?_,λk hk k' hk' e=>?_⟩
  . cases hb':b with
    | none=>simp only[D2,hb',Xvw];exact Ybg
    | some g=>simp only[D2,hb',Xvw];exact XlY Xu6 0
  . obtain⟨y,hy,e1⟩:=YaN.1 hk;obtain⟨y',hy',e2⟩:=YaN.1 hk';obtain⟨j,k1,k2,_⟩:=idx y hy;obtain⟨_,_,_,_,⟨j',k1',_⟩,_⟩:=hDI y' hy';rw[<-e1,<-e2,k1,k1']at e;unfold XfL Xlg at e
    omega) (λy hy z hz hne g hg hg'=>by
  rcases Yaf.1 hy with h1 | h1<;>rcases Yaf.1 hz with h2 | h2
  . obtain⟨_,_,_,_,j,q1,q2,q3⟩:=hDA y h1;obtain⟨_,_,_,_,j',q1',q2',q3'⟩:=hDA z h2;exact Xfr nd2 q2 q2' (λe1=>hne (by rw[q1,q1',e1])) g (q3▸hg) (q3'▸hg')
  . obtain⟨_,_,_,_,j,q1,q2,q3⟩:=hDA y h1;obtain⟨_,_,_,_,⟨j',q1',q2',q3'⟩,g0,hg0⟩:=hDI z h2;exact nd3 g (by rw[hg0];exact Yan _ (Xbd q2' (q3'▸hg'))) g (Xbd q2 (q3▸hg)) rfl
  . obtain⟨_,_,_,_,⟨j,q1,q2,q3⟩,g0,hg0⟩:=hDI y h1;obtain⟨_,_,_,_,j',q1',q2',q3'⟩:=hDA z h2;exact nd3 g (by rw[hg0];exact Yan _ (Xbd q2 (q3▸hg))) g (Xbd q2' (q3'▸hg')) rfl
  . obtain⟨_,_,_,_,⟨j,q1,q2,q3⟩,g0,hg0⟩:=hDI y h1;obtain⟨_,_,_,_,⟨j',q1',q2',q3'⟩,_⟩:=hDI z h2;exact Xfr (ndI g0 hg0).1 q2 q2' (λe1=>hne (by rw[q1,q1',e1])) g (q3▸hg) (q3'▸hg'))
 have hcsA:∀rows',X27 (RdT σ1 rows' M) cs (Xif con x):=λrows'=>Xmq hown (.inr rfl) λz hz=>(r1 z (Yaf.2 (.inl hz))).1;have hrowsA:(mkD XfL (con.ownA++con.backA) F 0 cs (flat con.A x)).map Xgc.row=Xbe con x:=Xgh 0 hown.len;have frameS:∀{boxes:List (Nat×List X02)} {rows:List (Nat×X0L)} (h0:∀g,b=some g->(look 0 boxes).isSome=true) (j:Nat),X44 σ1 rows boxes M (((pre++vs).toArray++Array.replicate (fn.ntmps - (pre++vs).toArray.size) undef).getD j undef) (match look j (X4g pre.length con.shA (Xif con x)) with | some sv=>sv | none=>.und):=λ{boxes rows} h0 j=>by
  have:=Xow (boxes:=boxes) (λg hg=>⟨hS1.pin g hg,h0 g hg⟩) hargs pre.length (hcsA rows) j;split
  . rename_i sv hl;rw[hl]at this;obtain⟨h1,h2,h3⟩:=this;rw[XpJ _ _ _ (by simp;omega)];rw[Yar,Ybb h1,<-Yar];exact h3
  . trivial
 have olds:∀{slots:List (Nat×Sv)} {boxes:List (Nat×List X02)} {rows:List (Nat×X0L)} {a:Act},(∀j,X44 σ1 rows boxes M (a.tmps.getD j undef) (match look j slots with | some sv=>sv | none=>.und))->∀j,j∈Xn7 slots->XvJ M (a.tmps.getD j undef) (match look j slots with | some sv=>sv | none=>.und):=λ{slots boxes rows a} hs j hj=>by
  have hm:=(YbA.1 hj).2;have hsj:=hs j;split at hm
  . rename_i ag cs' hl;rw[hl]at hsj ⊢;exact hsj.1.imp λ_ _ h=>h.1
  . cases hm
 have hS:Sim P w M ios σ1 M w {tmps:=(pre++vs).toArray++Array.replicate (fn.ntmps - (pre++vs).toArray.size) undef,defers:=[]} (Xi9 con fn.ntmps i x):=by
  cases hb':b with
  | none=>
    have hio':con.io=false:=by rw[hio,hb'];rfl
    have hpre0:pre.length=0:=by rw[hpl,hio']
    have e:Xi9 con fn.ntmps i x={nt:=fn.ntmps,slots:=X4g 0 con.shA (Xif con x),boxes:=[],rows:=Xbe con x,olds:=Xn7 (X4g 0 con.shA (Xif con x))}:=by unfold Xi9;rw[hio']
    rw[e];have e2:({st0 with rows:=(mkD XfL (con.ownA++con.backA) F 0 cs (flat con.A x)++D2).map Xgc.row++st0.rows}:St)={nt:=fn.ntmps,slots:=[],boxes:=[],rows:=Xbe con x}:=by
     simp only[st0,D2,hb',Xvl,Xvw,Ybd,hrowsA]
    rw[e2]at hS1;have hfs:∀j,X44 σ1 (Xbe con x) [] M (((pre++vs).toArray++Array.replicate (fn.ntmps - (pre++vs).toArray.size) undef).getD j undef) (match look j (X4g 0 con.shA (Xif con x)) with | some sv=>sv | none=>.und):=λj=>by
     have:=frameS (boxes:=[]) (rows:=Xbe con x) (λg hg=>by rw[hb']at hg;cases hg) j;rw[hpre0]at this;exact this
    exact {hS1 with
     slots:=hfs
     hot:=hS1.hot.still rfl λ_ h=>h
     olds:=olds (a:={tmps:=(pre++vs).toArray++Array.replicate (fn.ntmps - (pre++vs).toArray.size) undef,defers:=[]}) hfs}
  | some g=>
    have hio':con.io=true:=by rw[hio,hb'];rfl
    have hpre0:pre.length=1:=by rw[hpl,hio']
    obtain⟨arr,E,q1,q2,q3⟩:=hiv g hb';have e:Xi9 con fn.ntmps i x={nt:=fn.ntmps,slots:=(0,.box 0 0)::X4g 1 con.shA (Xif con x),boxes:=[(0,Xew Xlg con.ownI 0 (flat con.I i))],rows:=Xbe con x++X6C Xlg con.ownI 0 (flat con.I i),olds:=Xn7 ((0,.box 0 0)::X4g 1 con.shA (Xif con x))}:=by unfold Xi9;rw[hio']
    rw[e];have e2:({st0 with rows:=(mkD XfL (con.ownA++con.backA) F 0 cs (flat con.A x)++D2).map Xgc.row++st0.rows}:St)={nt:=fn.ntmps,slots:=[],boxes:=[(0,Xku ivs.length)],rows:=Xbe con x++X6C Xlg con.ownI 0 (flat con.I i)}:=by
     simp only[st0,D2,hb',Xvl,Xvw,Ybd,Ya8,hrowsA,Xgh 0 q3.len]
    rw[e2]at hS1;have hsb:σ1.box 0=g:=by rw[r3];show b.getD 0=g;rw[hb'];rfl
    have hS2:=hS1.setBox (k:=0) (ds:=Xew Xlg con.ownI 0 (flat con.I i)) (by simp[St.box,look]) (λarr' E' ha=>by
     rw[hsb,q1]at ha;cases ha;rw[q2];exact Xmq q3 (.inr rfl) λz hz=>(r1 z (Yaf.2 (.inr (by simp only[D2,hb',Xvw];exact hz)))).1)
    have hE:∀(ds:List X02) (rows:List (Nat×X0L)),Ext {nt:=fn.ntmps,slots:=[],boxes:=[(0,ds),(0,Xku ivs.length)],rows:=rows} {nt:=fn.ntmps,slots:=[],boxes:=[(0,ds)],rows:=rows}:=λds rows=>⟨rfl,λ_=>rfl,λk=>by simp only[St.box,look];split<;>rfl,λ_=>rfl,λ_=>Yc8⟩
    have hS3:Sim P w M ios σ1 M w {tmps:=(pre++vs).toArray++Array.replicate (fn.ntmps - (pre++vs).toArray.size) undef,defers:=[]} {nt:=fn.ntmps,slots:=[],boxes:=[(0,Xew Xlg con.ownI 0 (flat con.I i))],rows:=Xbe con x++X6C Xlg con.ownI 0 (flat con.I i)}:=Sim.ext (hE _ _) hS2;have hfs:∀j,X44 σ1 (Xbe con x++X6C Xlg con.ownI 0 (flat con.I i)) [(0,Xew Xlg con.ownI 0 (flat con.I i))] M (((pre++vs).toArray++Array.replicate (fn.ntmps - (pre++vs).toArray.size) undef).getD j undef) (match look j ((0,.box 0 0)::X4g 1 con.shA (Xif con x)) with | some sv=>sv | none=>.und):=λj=>by
     rw[X08];by_cases hj:0=j
     . subst hj;simp only[Yci];have hp:pre=[.pointer (some ⟨g,0,none⟩)]:=by simp only[pre,hb',Xyi]
       rw[hp,XpJ _ _ _ (by simp)];exact⟨by rw[hsb];rfl,rfl⟩
     . rw[Yae hj];have:=frameS (boxes:=[(0,Xew Xlg con.ownI 0 (flat con.I i))]) (rows:=Xbe con x++X6C Xlg con.ownI 0 (flat con.I i)) (λg hg=>rfl) j;rw[hpre0]at this;exact this
    exact {hS3 with
     slots:=hfs
     hot:=hS3.hot.still rfl λ_ h=>h
     olds:=olds (a:={tmps:=(pre++vs).toArray++Array.replicate (fn.ntmps - (pre++vs).toArray.size) undef,defers:=[]}) hfs}
 have hpins:∀j e,(j,e)∈con.backA->∃u,cs[j]?=some u/\(XfL j,u)∈ios.rows:=λj e hm=>by
  have:(look j (con.ownA++con.backA)).isSome=true:=Xhw.2 ⟨e,Yaf.2 (.inr hm)⟩;obtain⟨e2,he2⟩:=Yao.1 this;obtain⟨u,_,_,hu,_⟩:=hown.own j e2 he2;exact⟨u,hu,YaN.2 ⟨(j,e),hm,by rw[Xhm hu]⟩⟩
 have fin:∀(σ':Sg) (M':Mem) (w':World) (a':Act) (st':St),Sim P w M ios σ' M' w' a' st'->K i x st'->
  a'.defers=[]/\∃v,(results fn a'.tmps).run P w'=.ok v w'/\Ret P con w M (X5B con b F FI) b cs i x (.returned v) w':=λσ' M' w' a' st' hS' hK=>hfin ios w M cs i x σ' M' w' a' st' hpins hio (λe1 e2 e3=>by
   show X5B con b F FI=[]
   have hb0:b=none:=by rw[e1]at hio;cases hb':b with | none=>rfl | some g=>rw[hb']at hio;cases hio
   rw[hb0];unfold X5B;rw[e2,e3];rfl) hS' hK
 refine XtY hm hT hΓ c _ _ _ _ σ1 M w _ hS ?_ (h i x hpre (λhio'=>?_) (Xq9 hown hM nd2))
 . intro e σ' M' w' a' st' hS' hK;cases e with
   | normal=>exact fin _ _ _ _ _ hS' hK
   | ret=>exact fin _ _ _ _ _ hS' hK
   | exit id=>exact hK.elim
 . cases hb':b with
   | none=>rw[hio,hb']at hio';cases hio'
   | some g=>
     obtain⟨arr,E,_,_,q3⟩:=hiv g hb';exact Xq9 q3 hM (ndI g hb').1
theorem Xwm{con:Con}{rs:List ResultVar}{tys:List TypeId}{i:El con.I}{x:El con.A}:Xw1 tab con rs tys i x=XyO (Xxo tab con rs tys i x):=by
 funext e st;cases e<;>rfl
theorem Xp7{con:Con}(L:(i:El con.I)->El con.A->Nat->Option X0f){n:FuncId}{fn:Func}{c:Code}(hm:P.follows .mixedOrders=true)(hT:X1E P tab)(hΓ:XfO P Γ)(hf:P.funcs[n]?=some fn)(hb:fn.body=some c)(tys:List TypeId)(hB:conB tab con fn.ntmps=true)(h:∀i x,con.pre i x->(con.io=true->Wf con.I i)->Wf con.A x->vc tab Γ (L i x) c 1 (Xi9 con fn.ntmps i x) (Xw1 tab con fn.results.toList tys i x)):X0h P n con:=by
 unfold conB at hB;simp only[Yac,YaS,Yaj]at hB;obtain⟨⟨⟨⟨⟨hA,hI⟩,hR⟩,hnew⟩,hsz⟩,hnt⟩:=hB;exact Xtb (λi x st=>Xxo tab con fn.results.toList tys i x st) L hm hT hΓ hf hb hA hI hsz hnt (λios base M0 acs i x σ M w' a st hpins hio _ hS hK=>XwJ hT hpins hio hnew hR hI hS hK) (λi x h1 h2 h3=>by rw[<-Xwm];exact h i x h1 h2 h3)
def XwU:Value->Value->Bool
 | .int k n,.int k' n'=>decide (k=k')&&decide (n=n')
 | .bool b,.bool b'=>b==b'
 | .string s,.string s'=>decide (s.data.size=0)&&decide (s'.data.size=0)
 | .slice none 0 0,.slice none 0 0=>true
 | _,_=>false
def XlA:List Value->List Value->Bool
 | [],[]=>true
 | a::l,b::r=>XwU a b&&XlA l r
 | _,_=>false
theorem Xu2{a b:Value}(h:XwU a b=true):a=b:=by
 unfold XwU at h;split at h
 . simp only[Yac,Yaj]at h;obtain⟨rfl,rfl⟩:=h;rfl
 . simp at h;subst h;rfl
 . rename_i s s';simp only[Yac,Yaj]at h;obtain⟨⟨d⟩⟩:=s;obtain⟨⟨d'⟩⟩:=s';simp at h;rw[h.1,h.2]
 . rfl
 . cases h
theorem XnX:∀{l r:List Value},XlA l r=true->l=r
 | [],[],_=>rfl
 | [],_::_,h=>by simp[XlA]at h
 | _::_,[],h=>by simp[XlA]at h
 | a::l,b::r,h=>by
   simp only[XlA,Yac]at h;rw[Xu2 h.1,XnX h.2]
def XqS:List Field->List (Nat×TypeId)->Bool
 | [],[]=>true
 | f::l,p::r=>(f.offset==p.1)&&(f.type==p.2)&&XqS l r
 | _,_=>false
theorem Xqc:∀{l:List Field} {r:List (Nat×TypeId)},XqS l r=true->l.map (λf=>(f.offset,f.type))=r
 | [],[],_=>rfl
 | [],_::_,h=>by simp[XqS]at h
 | _::_,[],h=>by simp[XqS]at h
 | f::l,p::r,h=>by
   simp only[XqS,Yac,YbW]at h;simp[Xqc h.2,h.1.1,h.1.2]
def XuW(tab:Tab)(ti:TI):Option TypeDesc->Bool
 | some (.struct fs)=>ti.agg&&XqS fs.toList ti.fields&&ti.fields.all (λp=>(look p.2 tab).isSome)
 | some (.int k)=>!ti.agg&&(match ti.ty with | .int k'=>decide (k=k') | _=>false)
 | some .bool=>!ti.agg&&(match ti.ty with | .bool=>true | _=>false)
 | some .string=>!ti.agg&&(match ti.ty with | .str=>true | _=>false)
 | some (.slice e)=>!ti.agg&&(match ti.ty with | .list _=>e==ti.elem | _=>false)
 | _=>false
def Xth(ti:TI):Option TypeInfo->Bool
 | some i=>(i.size==size ti.ty)&&(i.bytes==ti.bytes)&&(match i.zero with | some z=>XlA z.cells.toList (zeros ti.ty) | none=>false)
 | none=>false
def Xin(P:Program)(tab:Tab):List (TypeId×TI)->Bool
 | []=>true
 | (t,ti)::l=>Xth ti (P.info? t)&&XuW tab ti (P.underlying t)&&Xin P tab l
theorem Xrj{P:Program}{tab:Tab}{t:TypeId}{ti:TI}(h:XuW tab ti (P.underlying t)=true):
 if ti.agg then ∃fs,P.underlying t=some (.struct fs)/\fs.toList.map (λf=>(f.offset,f.type))=ti.fields/\(∀p∈ti.fields,(look p.2 tab).isSome=true)
 else match ti.ty with
  | .int k=>P.underlying t=some (.int k)
  | .bool=>P.underlying t=some .bool
  | .str=>P.underlying t=some .string
  | .list _=>P.underlying t=some (.slice ti.elem)
  | _=>False:=by
 unfold XuW at h;split at h
 . rename_i fs hu;simp only[Yac,Ya7]at h;rw[Yah h.1.1];exact⟨fs,hu,Xqc h.1.2,h.2⟩
 all_goals first
  | (rename_i hu
     simp only[Yac,YaS]at h;rw[Yae (by rw[h.1];simp)];obtain⟨_,h2⟩:=h;split at h2
     . simp_all
     . cases h2)
  | cases h
theorem XtR{P:Program}{tab:Tab}(h:Xin P tab tab=true):X1E P tab:=by
 intro t ti hl;have key:∀l:List (TypeId×TI),Xin P tab l=true->(t,ti)∈l->Xth ti (P.info? t)=true/\XuW tab ti (P.underlying t)=true:=by
  intro l
  induction l with
  | nil=>intro _ hm;cases hm
  | cons p l ih=>
    intro hc hm;obtain⟨t',ti'⟩:=p;simp only[Xin,Yac]at hc;rcases Yak.1 hm with e | hm
    . cases e;exact hc.1
    . exact ih hc.2 hm
 obtain⟨h1,h2⟩:=key tab h (X3O hl);refine⟨?_,Xrj h2⟩;unfold Xth at h1;split at h1
 . rename_i i hi;simp only[Yac,YbW]at h1;obtain⟨⟨h3,h4⟩,h5⟩:=h1;split at h5
   . rename_i z hz;exact⟨i,z,hi,h3,h4,hz,XnX h5⟩
   . cases h5
 . cases h1
def gam(l:List (Nat×Con))(tk:List Nat)(eqs:List (TypeId×Ty)):Gam:={con:=λn=>look n l,tk:=tk,eqs:=eqs}
theorem Xx8(P:Program)(tk:List Nat){eqs:List (TypeId×Ty)}(he:Xv6 P eqs):XfO P (gam [] tk eqs):=⟨(by intro n con h;cases h),he⟩
theorem Xue{P:Program}{m:Nat}{c:Con}{l:List (Nat×Con)}{tk:List Nat}{eqs:List (TypeId×Ty)}(hf:FnOk P m)(hc:X0h P m c)(h:XfO P (gam l tk eqs)):XfO P (gam ((m,c)::l) tk eqs):=by
 refine⟨?_,h.2⟩;intro n con hn;have hn':look n ((m,c)::l)=some con:=hn;rw[X08]at hn';split at hn'
 . rename_i e;subst e;cases hn';exact⟨hf,hc⟩
 . exact h.1 n con hn'
theorem X01{b:Bool}{X Y:Prop}:X00 b X Y↔(b=true->X)/\(b=false->Y):=⟨Xgy,λh=>XuA h.1 h.2⟩
def eqF(d:Nat)(xs ys:Array Value):List (Bool×TypeId×Nat)->Sem Bool
 | []=>pure true
 | (nm,t,o)::l=>if nm=true then do
     let a <-part t xs o
     let b <-part t ys o
     let r <-Op.equalIn d t a b
     if (!r)=true then pure false else eqF d xs ys l
   else eqF d xs ys l
theorem Xi8{d:Nat}{xs ys:Array Value}:∀(fs:List Field),Op.eqFields d xs ys fs=eqF d xs ys (fs.map λf=>(decide (f.name≠ "_"),f.type,f.offset))
 | []=>rfl
 | f::fs=>by
   simp only[Op.eqFields,Yas,eqF,Xi8 fs,Yaj]
theorem XgB{P:Program}{w:World}{d:Nat}{xs ys:Array Value}{t o:Nat}{l:List (Bool×TypeId×Nat)}{u v:Value}{r r':Bool}(h1:(part t xs o).run P w=.ok u w)(h2:(part t ys o).run P w=.ok v w)(h3:(Op.equalIn d t u v).run P w=.ok r w)(h4:(eqF d xs ys l).run P w=.ok r' w):
 (eqF d xs ys ((true,t,o)::l)).run P w=.ok (r&&r') w:=by
 simp only[eqF,Yci,Sem.run_bind,h1,h2,h3,Result.andThen_ok];cases r
 . simp
 . simp only[Ydi,Ycd,Ydu,YaQ];exact h4
section
open Go.WideShapes Go.RowKit
def WfD:(t:Ty)->El t->Prop
 | .int k,n=>k.min<=n/\n<=k.max
 | .str,s=>List.length s<=maxLen
 | .list t,l=>List.length l<=maxLen/\∀x,x∈(show List (El t) from l)->WfD t x
 | .pair a b,x=>WfD a x.1/\WfD b x.2
 | _,_=>True
def XhJ:List Ty->Ty
 | []=>.unit
 | [a]=>a
 | a::b::r=>.pair a (XhJ (b::r))
def XgZ(tab:Tab):Nat->List (Nat×TypeId)->Option (List Ty)
 | _,[]=>some []
 | off,(o,t)::r=>match look t tab with
   | some ti=>match decide (o=off),XgZ tab (off+size ti.ty) r with
     | true,some l=>some (ti.ty::l)
     | _,_=>none
   | none=>none
def XcF(tab:Tab):List (TypeId×TI)->Bool
 | []=>true
 | (_,ti)::l=>(match ti.agg,ti.ty with
   | true,ty=>(match XgZ tab 0 ti.fields with | some tys=>decide (ty=XhJ tys) | none=>false)
   | false,.list τ=>(match look ti.elem tab with | some te=>decide (te.ty=τ) | none=>false)
   | _,_=>true)&&XcF tab l
theorem X27.at2{α β:Type}{R:α->β->Prop}{as:List α}{bs:List β}(h:X27 R as bs){j:Nat}{a:α}{b:β}(ha:as[j]?=some a)(hb:bs[j]?=some b):R a b:=by
 obtain⟨a',h1,h2⟩:=h.get hb;rw[ha]at h1;cases h1;exact h2
theorem XjS:∀{l:List (TypeId×TI)},XcF tab l=true->∀{t ti},(t,ti)∈l->ti.agg=true->∃tys,XgZ tab 0 ti.fields=some tys/\ti.ty=XhJ tys
 | [],_,_,_,hm,_=>by cases hm
 | (t',ti')::l,h,t,ti,hm,ha=>by
   simp only[XcF,Yac]at h;rcases Yak.1 hm with e | hm
   . cases e;have h1:=h.1;rw[ha]at h1;simp only at h1;split at h1
     . rename_i tys htys;exact⟨tys,htys,by simpa using h1⟩
     . cases h1
   . exact XjS h.2 hm ha
theorem Xi5:∀{l:List (TypeId×TI)},XcF tab l=true->∀{t ti τ},(t,ti)∈l->ti.agg=false->ti.ty=.list τ->∃te,look ti.elem tab=some te/\te.ty=τ
 | [],_,_,_,_,hm,_,_=>by cases hm
 | (t',ti')::l,h,t,ti,τ,hm,ha,ht=>by
   simp only[XcF,Yac]at h;rcases Yak.1 hm with e | hm
   . cases e;have h1:=h.1;rw[ha,ht]at h1;simp only at h1;split at h1
     . rename_i te hte;exact⟨te,hte,by simpa using h1⟩
     . cases h1
   . exact Xi5 h.2 hm ha ht
theorem Xka{α:Type}{R:Nat->α->Prop}:∀{n:Nat},(∀i,i<n->∃x,R i x)->∃l:List α,l.length=n/\∀i x,l[i]?=some x->R i x
 | 0,_=>⟨[],rfl,λi x h=>by simp at h⟩
 | n+1,h=>by
   obtain⟨l,hl,hr⟩:=Xka (n:=n) λi hi=>h i (by omega);obtain⟨x,hx⟩:=h n (by omega);refine⟨l++[x],by simp[hl],λi y hy=>?_⟩;rw[List.getElem?_append]at hy;split at hy
   . exact hr i y hy
   . rename_i hi;have:i=l.length:=by
      have:=(Ya3.1 hy).1;simp at this;omega
     subst this;simp at hy;subst hy;rw[hl];exact hx
theorem XfV(hT:X1E P tab){t:TypeId}{ti:TI}(h:look t tab=some ti):P.cellsOf t=size ti.ty:=by
 obtain⟨i,_,hi,hs,_⟩:=(hT t ti h).info;simp[Program.cellsOf,hi,hs]
def RdW(w:World)(τ:Ty)(cs:List Value):Prop:=∃x:El τ,RdC (λad=>w.cell? ad) τ cs x/\WfD τ x
theorem Xnj{rec_:TypeId->List Value->Option (DataW H×List MemPlace)}(hT:X1E P tab)(hrec:∀t ti cs y,look t tab=some ti->rec_ t cs=some y->RdW w ti.ty cs){cs:List Value}:
 ∀{fs:List Field} {off:Nat} {tys:List Ty} {ys:List (DataW H×List MemPlace)},XgZ tab off (fs.map λf=>(f.offset,f.type))=some tys->
 fs.mapM (λf=>rec_ f.type ((cs.drop f.offset).take (P.cellsOf f.type)))=some ys->cs.length=off+size (XhJ tys)->RdW w (XhJ tys) (cs.drop off)
 | [],off,tys,ys,h,_,hl=>by
   simp only[YaI,XgZ,Yag]at h;subst h;refine⟨(),?_,trivial⟩;show cs.drop off=[]
   simp only[XhJ,size]at hl;exact List.drop_eq_nil_of_le (by omega)
 | f::fs,off,tys,ys,h,hm,hl=>by
   simp only[Yas,XgZ]at h;split at h
   . rename_i ti hti;split at h
     . rename_i l ho hr;cases h;have hoff:f.offset=off:=by simpa using ho
       rw[Ycy]at hm;cases hf:rec_ f.type ((cs.drop f.offset).take (P.cellsOf f.type)) with
       | none=>simp[hf]at hm
       | some y=>
         cases hms:fs.mapM (λf=>rec_ f.type ((cs.drop f.offset).take (P.cellsOf f.type))) with
         | none=>simp[hf,hms]at hm
         | some ys'=>
           have h1:=hrec _ _ _ _ hti hf;rw[hoff,XfV hT hti]at h1;cases l with
           | nil=>
             simp only[XhJ]at hl ⊢;rw[Ya1 (by rw[Yap];omega)]at h1;exact h1
           | cons b r=>
             simp only[XhJ,size]at hl ⊢;have h2:=Xnj hT hrec hr hms (by omega);obtain⟨x1,hx1,hw1⟩:=h1;obtain⟨x2,hx2,hw2⟩:=h2;refine⟨(x1,x2),⟨_,_,?_,hx1,hx2⟩,hw1,hw2⟩;rw[<-YaH,YaJ]
     . cases h
   . cases h
theorem Xoi(hT:X1E P tab)(hc:XcF tab tab=true):∀(fuel:Nat) (t:TypeId) (ti:TI) (cs:List Value) (y:DataW H×List MemPlace),look t tab=some ti->
 DataW.trod enc P w 0 (λ_=>true) true fuel t cs=some y->RdW w ti.ty cs
 | 0,t,ti,cs,y,_,h=>by simp[DataW.trod]at h
 | fuel+1,t,ti,cs,y,hl,h=>by
   have hu:=(hT t ti hl).und;have hmem:=X3O hl;have hsz:=XfV hT hl;have hor:=h;unfold DataW.trod at h;cases ha:ti.agg with
   | true=>
     rw[Yah ha]at hu;obtain⟨fs,hfs,hff,_⟩:=hu;obtain⟨tys,htys,hty⟩:=XjS hc hmem ha;rw[hfs]at h;simp only at h;split at h
     . rename_i hlen;rw[YaD]at h;obtain⟨ys,hys,_⟩:=h;rw[<-hff]at htys;rw[hty]at hsz ⊢;have:=Xnj (w:=w) (rec_:=λt cs=>DataW.trod enc P w 0 (λ_=>true) true fuel t cs) hT (λt ti cs y h1 h2=>Xoi hT hc fuel t ti cs y h1 h2) (cs:=cs) htys hys (by rw[hlen,hsz,YaU]);rw[YbK]at this;exact this
     . cases h
   | false=>
     rw[Yae (by rw[ha];simp)]at hu;cases hty:ti.ty with
     | int k=>
       rw[hty]at hu;simp only at hu;rw[hu]at h;split at h<;>simp_all;rename_i k' n _;obtain⟨⟨rfl,hwf⟩,_⟩:=h;refine⟨n,rfl,?_⟩;simp only[Lit.wf,Yac,Yaj]at hwf;exact hwf
     | bool=>
       rw[hty]at hu;simp only at hu;rw[hu]at h;split at h<;>simp_all;exact⟨_,rfl,trivial⟩
     | str=>
       rw[hty]at hu;simp only at hu;rw[hu]at h;split at h<;>simp_all;rename_i s;refine⟨s.data.toList,?_,?_⟩
       . simp[RdC]
       . obtain⟨d⟩:=s;have:=h.1;simpa [WfD,ByteArray.size] using this
     | list τ=>
       rw[hty]at hu;simp only at hu;obtain⟨te,hte,rfl⟩:=Xi5 hc hmem ha hty;have hes:=XfV hT hte;rcases DataW.trod_slice hu hor with⟨rfl,_⟩ | ⟨a,len,cap,elems,rest,n,hn,rfl,_,_,hle,hm,hlen,hel,_⟩
       . exact⟨[],RdC.nilSlice _ _,by simp[WfD]⟩
       . obtain rfl:n=fuel:=by omega
         obtain⟨l,hll,hR⟩:=Xka (n:=len) (R:=λi x=>∃vs,w.cells? 0 (a.add (i*size te.ty)) (size te.ty)=some vs/\RdC (λad=>w.cell? ad) te.ty vs x/\WfD te.ty x) λi hi=>by
          have h1:=hel i hi;obtain⟨y',hy'⟩:∃y',elems[i]?=some y':=⟨elems[i],by simp[hlen,hi]⟩
          rw[hy',hes]at h1;obtain⟨vs,hv1,hv2⟩:=Ybi.1 h1;obtain⟨x,hx,hwx⟩:=Xoi hT hc n _ te vs y' hte hv2;exact⟨x,vs,hv1,hx,hwx⟩
         refine⟨l,⟨some a,cap,by rw[hll],by omega,hm,λi hi=>?_⟩,by simp[hll];omega,λx hx=>?_⟩
         . obtain⟨vs,h1,h2,_⟩:=hR i _ (Yax hi);obtain⟨_,hvl,hvc⟩:=World.cells?_some h1;refine⟨a,vs,rfl,hvl,λj u hu=>?_,h2⟩;have hj:=(Ya3.1 hu).1;have:=hvc j (by omega);rw[hu]at this;rw[<-this];show w.cell? (a.add (i*size te.ty+j))=w.cell? ((a.add (i*size te.ty)).add j);rw[Addr.add_add]
         . obtain⟨i,hi,e⟩:=YaM hx;obtain⟨_,_,_,h3⟩:=hR i x (by rw[<-e];exact Yax hi);exact h3
     | unit=>rw[hty]at hu;exact hu.elim
     | pair a b=>rw[hty]at hu;exact hu.elim
def shOf(ti:TI):Sh:=if ti.agg then .agg (size ti.ty) else .one
theorem XjY(hT:X1E P tab)(hc:XcF tab tab=true){r:Reach}{b0:Nat}{t:TypeId}{ti:TI}{v:Value}{d:DataW H}{ps:List MemPlace}(hl:look t tab=some ti)(hval:Value.okWide P w r b0 t v)(h:DataW.Trod enc P w 0 (λ_=>true) true t v d ps):
 ∃x:El ti.ty,RdC (λad=>w.cell? ad) ti.ty v.cells.toList x/\WfD ti.ty x/\XvS (λad=>w.cell? ad) none (shOf ti) v v.cells.toList:=by
 obtain⟨fuel,hf⟩:=h;obtain⟨x,hx,hw⟩:=Xoi hT hc fuel t ti _ _ hl hf;refine⟨x,hx,hw,?_⟩;have hu:=(hT t ti hl).und;unfold shOf;cases ha:ti.agg with
 | true=>
   rw[Yah ha]at hu;obtain⟨fs,hfs,_⟩:=hu;obtain⟨cs,rfl,_⟩:=okWide_struct hfs hval;rw[Yah rfl];exact⟨hx.length,cs,rfl,rfl⟩
 | false=>
   rw[Yae (by rw[ha];simp)]at hu;rw[Yae (by simp)];have:Xb2 v=false/\v.cells.toList=[v]:=by
    cases hty:ti.ty with
    | int k=>rw[hty]at hu;obtain⟨n,rfl⟩:=okWide_int hu hval;exact⟨rfl,rfl⟩
    | bool=>rw[hty]at hu;obtain⟨n,rfl⟩:=okWide_bool hu hval;exact⟨rfl,rfl⟩
    | str=>rw[hty]at hu;obtain⟨n,rfl⟩:=okWide_string hu hval;exact⟨rfl,rfl⟩
    | list τ=>rw[hty]at hu;obtain⟨a,l,c,rfl⟩:=okWide_slice hu hval;exact⟨rfl,rfl⟩
    | unit=>rw[hty]at hu;exact hu.elim
    | pair a b=>rw[hty]at hu;exact hu.elim
   exact⟨this.2,this.1⟩
def Xpi(A:Ty)(shA:List Sh):Con:={A:=A,shA:=shA,R:=.bool,shR:=[(false,1)],pre:=λ_ x=>WfD A x,f:=some λ_ _=>(true,((),()))}
theorem Xx5{A:Ty}{shA:List Sh}{n:FuncId}(h:X0h P n (Xpi A shA)){vs cs:List Value}{x:El A}(ha:XeX (λad=>w.cell? ad) none shA vs cs)(hx:RdC (λad=>w.cell? ad) A cs x)(hw:WfD A x):
 Calls P n vs.toArray w λe w'=>e=.returned (.bool true)/\Below w.heap.size w w':=by
 have hrd:=Xg7 _ _ _ hx;have:=h w (λad=>w.cell? ad) vs cs () x (λ_=>[]) (λ_=>[]) none (λ_ _ h=>h) ha ⟨hrd.length,λj u c _ hu hc=>hrd.at2 hu hc,λj e hj=>by cases hj⟩ rfl (λg hg=>by cases hg) Ybg (λg hg=>by cases hg) hw;refine Calls.mono this ?_;intro e w' hret;obtain⟨rs,y,cs',M',FR,FI,FB,nb,he,hpost,_,_,hf,_,hnr,hown,_⟩:=hret.ex;subst he;obtain⟨_,hres⟩:=hnr;have hy:y.1=true:=by have:y=(true,((),())):=hpost;rw[this]
 have hcs:cs'=[.bool true]:=by
  have hl:=hown.len;have h0:(flat Ty.bool y.1)=[X02.bool true]:=by rw[hy];rfl
  have hl':cs'.length=1:=by rw[hl];rfl
  match cs',hl' with
  | [u],_=>
    have:=hown.rd 0 u (.bool true) rfl rfl (by show(flat Ty.bool y.1)[0]?=_;rw[h0];rfl);rw[show u=Value.bool true from this]
 subst hcs;refine⟨?_,hf.os,hf.tape,hf.output,hf.size,λk hk=>hf.block k hk (λhm=>by cases hm)⟩;have hres':Xdf [(false,1)] rs [Value.bool true]:=hres;generalize hs:[(false,1)]=shs at hres';generalize hc:[Value.bool true]=cs0 at hres';cases hres' with
 | nil=>cases hs
 | @cons ag m v shs' vs' cs2 h1 h2 h3=>
   cases hs;cases h3;have hv:v.cells.toList=[.bool true]:=by simpa using hc.symm
   have:v=.bool true:=by
    cases v<;>simp[Value.cells,Xb2]at hv h2<;>simp[hv]
   rw[this];rfl
end
end Go.Proofs.YthpdkligbfbjeaaGreat.Bv
