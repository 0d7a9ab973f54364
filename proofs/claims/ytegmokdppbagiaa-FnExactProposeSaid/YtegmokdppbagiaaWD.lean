/- Walks of Go functions by value:the library,part 4 of 4. -/
import Derived.Test.YtegmokdppbagiaaWC
import Derived.ChangeKeysEq
import Derived.KernelRfl
import Derived.IntWalk
import Derived.Carry
import Derived.WalkKit
import Derived.ProofKit
import Derived.OpenShut
import Derived.SizedLaws
set_option linter.unusedVariables false
set_option linter.unusedSimpArgs false
namespace Go.Proofs.Ytegmokdppbagiaa.Bv
variable {P:Program} {base:World} {M0:Mem} {ios:Ios} {σ:Sg} {M:Mem} {w:World} {a:Act} {st:St} {tab:Tab} {Γ:Gam}
def XgV(ms:List Nat):List Edge→Nat
 | []=>0
 | e::r=>match Region.binds .any e with
   | true=>(2 ^ e.on|||ms.getD e.on 0)|||XgV ms r
   | false=>XgV ms r
def X69:List Oper→List Nat→List Nat
 | [],ms=>ms
 | o::l,ms=>X69 l (ms++[XgV ms o.after.toList])
theorem Xau{ms:List Nat}{i:Nat}:∀{es:List Edge},(XgV ms es).testBit i=true→∃e∈es,Region.binds .any e=true∧(e.on=i∨(ms.getD e.on 0).testBit i=true)
 | [],h=>by simp[XgV]at h
 | e::r,h=>by
   simp only[XgV]at h
   split at h
   · rename_i hb
     simp only[Nat.testBit_or,Bool.or_eq_true,Nat.testBit_two_pow,decide_eq_true_eq]at h
     rcases h with h | h
     · exact⟨e,by simp,hb,h⟩
     · obtain⟨e',h1,h2,h3⟩:=Xau h;exact⟨e',List.mem_cons_of_mem _ h1,h2,h3⟩
   · obtain⟨e',h1,h2,h3⟩:=Xau h;exact⟨e',List.mem_cons_of_mem _ h1,h2,h3⟩
def XfO(j:Nat):List Edge→Bool
 | []=>true
 | e::r=>(match Region.binds .any e with | true=>decide (e.on<j) | false=>true)&&XfO j r
theorem Xa1{j:Nat}:∀{es:List Edge},XfO j es=true→∀e∈es,Region.binds .any e=true→e.on<j
 | [],_,e,he,_=>by cases he
 | e::r,h,e',he,hb=>by
   simp only[XfO,Bool.and_eq_true]at h
   rcases List.mem_cons.1 he with h1 | h1
   · subst h1;rw[hb]at h;simpa using h.1
   · exact Xa1 h.2 e' h1 hb
def XhY(o:Oper):List Nat:=match o.dst with
 | some d=>[d]
 | none=>[]
theorem Xav{o:Oper}{d:Nat}(h:o.dst=some d):d∈XhY o:=by simp[XhY,h]
def Xf2(S B R:List Nat)(o:Oper)(x:Option Eff):Bool:=X7r (XhY o) S&&X7r (tB o x) B&&X7r (tR x) R
theorem XcJ{S B R:List Nat}{o:Oper}{x:Option Eff}(h:Xf2 S B R o x=true):XcL S B R o x:=by
 simp only[Xf2,Bool.and_eq_true]at h
 exact⟨fun d hd=>X37 h.1.1 d (Xav hd),X37 h.1.2,X37 h.2⟩
def XeH(o:Oper)(x:Option Eff)(o':Oper)(x':Option Eff):Bool:=X7r (XhY o) (XhY o')&&X7r (tB o x) (tB o' x')&&X7r (tR x) (tR x')
theorem Xcr{o o':Oper}{x x':Option Eff}(h:XeH o x o' x'=true):Xbl o x o' x':=by
 simp only[XeH,Bool.and_eq_true]at h
 exact⟨fun d hd e=>X37 h.1.1 d (Xav hd) (Xav e),X37 h.1.2,X37 h.2⟩
def Xcb:Option Eff→Option Eff
 | some e=>some {e with krow:=[]}
 | none=>none
def X9h:List (Oper×Option Eff)→List (Oper×Option Eff)
 | []=>[]
 | (o,x)::l=>(o,Xcb x)::X9h l
structure Sub (s s':St):Prop where
 slots:∀p∈s.slots,p∈s'.slots
 boxes:∀p∈s.boxes,p∈s'.boxes
 rows:∀p∈s.rows,p∈s'.rows
theorem X5l{k:Nat}:∀{l:List (Nat×Sv)},X3R k l=true↔∀p∈l,XeQ k p.2=true
 | []=>by simp[X3R]
 | p::l=>by simp[X3R,X5l (l:=l)]
theorem X5f{k:Nat}:∀{l:List (Nat×Sv)},X3J k l=true↔∀p∈l,XcZ k p.2=true
 | []=>by simp[X3J]
 | p::l=>by simp[X3J,X5f (l:=l)]
theorem X5j{k:Nat}:∀{l:List (Nat×List X00)},X2u k l=true↔∀p∈l,XbW k p.2=true
 | []=>by simp[X2u]
 | p::l=>by simp[X2u,X5j (l:=l)]
theorem X5k{r ver:Nat}:∀{l:List (Nat×Sv)},X38 r ver l=true↔∀p∈l,X81 r ver p.2=true
 | []=>by simp[X38]
 | p::l=>by simp[X38,X5k (l:=l)]
theorem X5e{r ver:Nat}:∀{l:List (Nat×List X00)},X3a r ver l=true↔∀p∈l,X3G r ver p.2=true
 | []=>by simp[X3a]
 | p::l=>by simp[X3a,X5e (l:=l)]
theorem Sub.noVers{s s':St}(h:Sub s s'):∀{l:List (Nat×X0e)},noVers s' l=true→noVers s l=true
 | [],_=>rfl
 | (r,.hot _ _ _ ver _ _)::l,hn=>by
   simp only[Bv.noVers,Bool.and_eq_true]at hn ⊢
   exact⟨⟨X5k.2 fun p hp=>X5k.1 hn.1.1 p (h.slots p hp),X5e.2 fun p hp=>X5e.1 hn.1.2 p (h.boxes p hp)⟩,h.noVers hn.2⟩
 | (r,.cold _)::l,hn=>by simp only[Bv.noVers]at hn ⊢;exact h.noVers hn
 | (r,.frz _ _ _ _ _)::l,hn=>by simp only[Bv.noVers]at hn ⊢;exact h.noVers hn
theorem Sub.noTag{s s':St}(h:Sub s s'){r:Nat}(hn:noTag r s'=true):noTag r s=true:=by
 unfold Bv.noTag at hn ⊢
 simp only[Bool.and_eq_true,Bool.not_eq_true']at hn ⊢
 refine⟨⟨X5f.2 fun p hp=>X5f.1 hn.1.1 p (h.slots p hp),X5j.2 fun p hp=>X5j.1 hn.1.2 p (h.boxes p hp)⟩,?_⟩
 cases hs:(look r s.rows).isSome with
 | false=>rfl
 | true=>
   obtain⟨x,hx⟩:=X7W.1 hs
   have:(look r s'.rows).isSome=true:=X7W.2 ⟨x,h.rows _ hx⟩
   rw[this]at hn;exact absurd hn.2 (by simp)
theorem Sub.noTags{s s':St}(h:Sub s s'):∀{l:List (Nat×X0e)},noTags s' l=true→noTags s l=true
 | [],_=>rfl
 | p::l,hn=>by
   simp only[Bv.noTags,Bool.and_eq_true]at hn ⊢
   exact⟨h.noTag hn.1,h.noTags hn.2⟩
theorem Sub.fresh{s s':St}(h:Sub s s'){e:Eff}{d:Option Nat}(hf:X0X e d s'=true):X0X e d s=true:=by
 unfold X0X at hf ⊢
 simp only[Bool.and_eq_true]at hf ⊢
 refine⟨⟨⟨?_,h.noTags hf.1.1.2⟩,h.noVers hf.1.2⟩,hf.2⟩
 have h1:=hf.1.1.1
 split at h1
 · exact X5l.2 fun p hp=>X5l.1 h1 p (h.slots p hp)
 · rfl
theorem XdI{e:Eff}{rows rows':List (Nat×X0e)}(h:∀p∈rows,p∈rows'):∀p∈e.rowsOf rows,p∈({e with krow:=[]}:Eff).rowsOf rows':=fun p hp=>by
 rw[X2b]at hp ⊢
 rcases List.mem_append.1 hp with h1 | h1
 · exact List.mem_append.2 (.inl h1)
 · refine List.mem_append.2 (.inr ?_)
   have h2:=(List.mem_filter.1 h1).1
   refine List.mem_filter.2 ⟨?_,rfl⟩
   rcases List.mem_append.1 h2 with h3 | h3
   · exact List.mem_append.2 (.inl h3)
   · exact List.mem_append.2 (.inr (h p h3))
theorem XcF{e:Eff}{rows:List (Nat×X0e)}:∀p∈rows,p∈({e with krow:=[]}:Eff).rowsOf rows:=fun p hp=>by
 rw[X2b]
 exact List.mem_append.2 (.inr (List.mem_filter.2 ⟨List.mem_append.2 (.inr hp),rfl⟩))
theorem Sub.both{s s':St}(h:Sub s s')(o:Oper)(x:Option Eff):Sub (X0m o x s) (X0m o (Xcb x) s'):=by
 cases x with
 | none=>
   simp only[X0m,Xcb,X2O]
   cases o.dst with
   | none=>exact h
   | some d=>
     refine⟨fun p hp=>?_,h.boxes,h.rows⟩
     rcases List.mem_cons.1 hp with e | e
     · exact e▸List.mem_cons_self
     · exact List.mem_cons_of_mem _ (h.slots p e)
 | some e=>
   simp only[X0m,Xcb,Eff.apply]
   refine⟨?_,?_,?_⟩
   · intro p hp
     cases hd:o.dst with
     | none=>rw[hd]at hp;exact h.slots p hp
     | some d=>
       rw[hd]at hp
       rcases List.mem_cons.1 hp with e2 | e2
       · exact e2▸List.mem_cons_self
       · exact List.mem_cons_of_mem _ (h.slots p e2)
   · intro p hp
     simp only at hp ⊢
     cases hs:e.sbox<;>cases hd:o.dst<;>cases hn:e.nbox<;>simp only[hs,hd,hn,List.mem_cons]at hp ⊢
     all_goals first
      | exact h.boxes p hp
      | (rcases hp with e2 | e2
         · exact .inl e2
         · first
           | exact .inr (h.boxes p e2)
           | (rcases e2 with e3 | e3
              · exact .inr (.inl e3)
              · exact .inr (.inr (h.boxes p e3))))
   · exact XdI h.rows
theorem Sub.right{s s':St}(h:Sub s s')(o:Oper)(x:Option Eff):Sub s (X0m o (Xcb x) s'):=by
 cases x with
 | none=>
   simp only[X0m,Xcb,X2O]
   cases o.dst with
   | none=>exact h
   | some d=>exact⟨fun p hp=>List.mem_cons_of_mem _ (h.slots p hp),h.boxes,h.rows⟩
 | some e=>
   simp only[X0m,Xcb,Eff.apply]
   refine⟨?_,?_,?_⟩
   · intro p hp
     cases hd:o.dst with
     | none=>exact h.slots p hp
     | some d=>exact List.mem_cons_of_mem _ (h.slots p hp)
   · intro p hp
     have:=h.boxes p hp
     cases hs:e.sbox<;>cases hd:o.dst<;>cases hn:e.nbox<;>simp[this]
   · exact fun p hp=>XcF p (h.rows p hp)
theorem Sub.mix{L L':Nat→Bool}(hL:∀i,L i=true→L' i=true):∀{l:List (Oper×Option Eff)} {k:Nat} {s s':St},Sub s s'→Sub (X2W L k l s) (X2W L' k (X9h l) s')
 | [],_,_,_,h=>h
 | (o,x)::l,k,s,s',h=>by
   simp only[X2W,X9h]
   refine Sub.mix hL ?_
   cases h1:L k
   · cases h2:L' k
     · exact h
     · exact h.right o x
   · rw[hL k h1];exact h.both o x
def XcV(ms:List Nat)(zl:List (Oper×Option Eff))(S B R:List Nat)(o:Oper)(x:Option Eff)(j:Nat):Nat→Bool
 | 0=>true
 | i+1=>(i==j||(ms.getD j 0).testBit i||(ms.getD i 0).testBit j||(match zl[i]? with
    | some (o',x')=>Xf2 S B R o' x'&&XeH o x o' x'
    | none=>false))&&XcV ms zl S B R o x j i
theorem X93{ms:List Nat}{zl:List (Oper×Option Eff)}{S B R:List Nat}{o:Oper}{x:Option Eff}{j:Nat}:∀{n:Nat},XcV ms zl S B R o x j n=true→
 ∀i<n,i≠j→(ms.getD j 0).testBit i=false→(ms.getD i 0).testBit j=false→∀o' x',zl[i]?=some (o',x')→XcL S B R o' x'∧Xbl o x o' x'
 | 0,_,i,hi,_,_,_,_,_,_=>by omega
 | n+1,h,i,hi,hne,h1,h2,o',x',hz=>by
   simp only[XcV,Bool.and_eq_true,Bool.or_eq_true,beq_iff_eq]at h
   by_cases he:i=n
   · subst he
     rcases h.1 with((h3 | h3) | h3) | h3
     · exact absurd h3 hne
     · rw[h1]at h3;cases h3
     · rw[h2]at h3;cases h3
     · rw[hz]at h3
       simp only[Bool.and_eq_true]at h3
       exact⟨XcJ h3.1,Xcr h3.2⟩
   · exact X93 h.2 i (by omega) hne h1 h2 o' x' hz
def Xh4(s:St)(o:Oper):List Nat:=Xgb s o.op.operands.toList
def Xfa(s:St)(o:Oper):List Nat:=Xgr s o.op.operands.toList
def X9k(all:List Oper)(o:Oper):List Nat:=X5s o.op.operands.toList++Xej all o
def X7h:Option X0e→Bool
 | some (.frz ..)=>true
 | _=>false
def X8c(o:Oper):Bool:=match o.op with
 | .move _=>true
 | .assign _=>true
 | _=>false
def nfE(r:Nat):Option Eff→Bool
 | some e=>(e.nrow++e.urow).all fun q=>!(q.1==r&&X7h (some q.2))
 | none=>true
def nfB(zl:List (Oper×Option Eff))(s0:St):List Nat→Bool
 | []=>true
 | r::l=>!X7h (s0.rowv r)&&(zl.all fun p=>nfE r p.2)&&nfB zl s0 l
theorem Xde{zl:List (Oper×Option Eff)}{s0:St}:∀{l:List Nat},nfB zl s0 l=true→∀r∈l,X7h (s0.rowv r)=false∧∀p∈zl,nfE r p.2=true
 | [],_,r,hr=>by cases hr
 | r0::l,h,r,hr=>by
   simp only[nfB,Bool.and_eq_true,Bool.not_eq_true',List.all_eq_true]at h
   rcases List.mem_cons.1 hr with e | hr
   · subst e;exact⟨h.1.1,h.1.2⟩
   · exact Xde h.2 r hr
theorem XfN{o:Oper}{x:Option Eff}{s:St}{r:Nat}(h:X7h (s.rowv r)=false)(he:nfE r x=true):X7h ((X0m o x s).rowv r)=false:=by
 cases x with
 | none=>
   have:(X0m o none s).rowv r=s.rowv r:=by simp only[X0m,X2O];cases o.dst<;>rfl
   rw[this];exact h
 | some e=>
   simp only[nfE,List.all_eq_true]at he
   have hrows:(X0m o (some e) s).rowv r=look r (e.nrow++X08 e.urow e.krow s.rows):=by
    simp only[X0m,Eff.apply,St.rowv,X2b]
   rw[hrows,X20]
   have mem:∀rv,(r,rv)∈e.nrow++e.urow→X7h (some rv)=false:=fun rv hm=>by
    have:=he (r,rv) hm
    simpa using this
   cases hl:look r e.nrow with
   | some rv=>exact mem rv (List.mem_append.2 (.inl (X15 hl)))
   | none=>
     simp only
     cases hl2:look r (X08 e.urow e.krow s.rows) with
     | none=>rfl
     | some rv=>
       rcases(X1j hl2).2 with h1 | ⟨_,h1⟩
       · exact mem rv (List.mem_append.2 (.inr (X15 h1)))
       · have h2:s.rowv r=some rv:=h1
         rw[h2]at h;exact h
theorem Xem{r:Nat}{L:Nat→Bool}:∀{l:List (Oper×Option Eff)} {k:Nat} {s:St},X7h (s.rowv r)=false→(∀p∈l,nfE r p.2=true)→X7h ((X2W L k l s).rowv r)=false
 | [],_,_,h,_=>h
 | (o,x)::l,k,s,h,he=>by
   simp only[X2W]
   refine Xem ?_ fun p hp=>he p (List.mem_cons_of_mem _ hp)
   cases L k
   · exact h
   · exact XfN h (he (o,x) (by simp))
theorem XgF{rows:List (Nat×X0e)}{c:X00}(h:∀r,XhL c=some r→X7h (look r rows)=false):Xc0 rows c=c:=by
 cases c<;>first | rfl | skip
 · rename_i t r
   have h1:=h r rfl
   simp only[Xc0]
   split
   · rename_i hl;rw[hl]at h1;cases h1
   · rfl
 · rename_i t r lo hi
   have h1:=h r rfl
   simp only[Xc0]
   split
   · rename_i hl;rw[hl]at h1;cases h1
   · rfl
 · rename_i t l r ver p
   have h1:=h r rfl
   simp only[Xc0]
   split
   · rename_i hl;rw[hl]at h1;cases h1
   · rfl
theorem XaF{rows:List (Nat×X0e)}:∀{cs:List X00},(∀r∈X5h cs,X7h (look r rows)=false)→X4H rows cs=cs
 | [],_=>rfl
 | c::cs,h=>by
   simp only[X4H]
   rw [XgF fun r hr=>h r (X8S (by simp) hr),XaF fun r hr=>h r (by
    simp only[X5h];split
    · exact List.mem_cons_of_mem _ hr
    · exact hr)]
theorem XeP{rows:List (Nat×X0e)}:∀{l:List (Bool×List X00)},(∀r∈Xcu l,X7h (look r rows)=false)→resL rows l=l
 | [],_=>rfl
 | (a,cs)::l,h=>by
   simp only[resL]
   rw[XaF fun r hr=>h r (by simp[Xcu,hr]),XeP fun r hr=>h r (by simp[Xcu,hr])]
theorem Xfu{rows:List (Nat×X0e)}{sv:Sv}(h:∀r∈X3c sv,X7h (look r rows)=false):X4Q rows sv=sv:=by
 cases sv<;>first | rfl | skip
 · simp only[X4Q];rw[XaF h]
 · simp only[X4Q];rw[XeP h]
 · rename_i cs r ver
   have h1:=h r (by simp[X3c])
   simp only[X4Q]
   split
   · rename_i hl;rw[hl]at h1;cases h1
   · rfl
theorem X7u{α:Type}{l:List (Nat×α)}{r:Nat}:∀{ks:List Nat} {x:α},look r (pick l ks)=some x→look r l=some x
 | [],x,h=>by cases h
 | k::ks,x,h=>by
   simp only[pick]at h
   split at h
   · rename_i y hy
     rw[X01]at h
     split at h
     · rename_i e;subst e;cases h;exact hy
     · exact X7u h
   · exact X7u h
theorem X9Y{s:St}{x:Operand}(h:∀r∈opR s x,X7h (s.rowv r)=false):(X17 s x).sv=match x with | .tmp t=>s.get t | .const v=>X6X v | .func f=>.fn f [] [] | .global _=>.und:=by
 cases x with
 | tmp t=>
   show X4Q _ (s.get t)=s.get t
   refine Xfu fun r hr=>?_
   have h1:=h r (by simp[opR,hr])
   cases hl:look r (pick s.rows (X3c (s.get t)++X6m (pick s.boxes (X1s (s.get t))))) with
   | none=>rfl
   | some rv=>
     have h2:s.rowv r=some rv:=X7u hl
     rw[h2]at h1;exact h1
 | _=>rfl
theorem Xac{o:Oper}{s s':St}(hm:X8c o=true)(h:∀x∈o.op.operands.toList,(X17 s' x).sv=(X17 s x).sv):X64 tab Γ o s'=X64 tab Γ o s:=by
 have gen:∀(x:Operand),(o.op=.move x∨o.op=.assign x)→∀st:St,X64 tab Γ o st=some ([],({sv:=X8q tab o.type (X17 st x).sv}:Eff).frz []):=fun x hx st=>by
  rcases hx with hx | hx
  · have ho:o.op.operands.toList=[x]:=by rw[hx];rfl
    unfold X64
    simp only[ho,List.map_cons,List.map_nil]
    have hc:X1Y Γ o [X17 st x]=none:=by unfold X1Y;rw[hx]
    have hn:X3N tab Γ o [X17 st x]=[]:=by unfold X3N;rw[hc,hx]
    rw[hn]
    show X7k tab Γ o [] [X17 st x]=_
    unfold X7k
    rw[hc]
    simp only[List.map_nil,X2q,X8j,hx]
  · have ho:o.op.operands.toList=[x]:=by rw[hx];rfl
    unfold X64
    simp only[ho,List.map_cons,List.map_nil]
    have hc:X1Y Γ o [X17 st x]=none:=by unfold X1Y;rw[hx]
    have hn:X3N tab Γ o [X17 st x]=[]:=by unfold X3N;rw[hc,hx]
    rw[hn]
    show X7k tab Γ o [] [X17 st x]=_
    unfold X7k
    rw[hc]
    simp only[List.map_nil,X2q,X8j,hx]
 unfold X8c at hm
 split at hm
 · rename_i x hx
   rw[gen x (.inl hx) s',gen x (.inl hx) s,h x (by rw[hx];simp[Op.operands])]
 · rename_i x hx
   rw[gen x (.inr hx) s',gen x (.inr hx) s,h x (by rw[hx];simp[Op.operands])]
 · cases hm
def Xal(zl:List (Oper×Option Eff))(s0 s:St)(o:Oper):List Nat:=match X8c o&&nfB zl s0 (Xfa s o) with
 | true=>[]
 | false=>Xfa s o
def X8H(s:St)(o:Oper):Bool:=X8c o&&match o.op.operands.toList with
 | [.tmp t]=>match s.get t with
   | .box _ _=>true
   | _=>false
 | _=>false
def X8T(s:St)(o:Oper):List Nat:=match X8H s o with
 | true=>[]
 | false=>Xh4 s o
theorem XbD{s:St}{o:Oper}(h:X8H s o=true):X8c o=true∧∃t k f,o.op.operands.toList=[.tmp t]∧s.get t=.box k f:=by
 unfold X8H at h
 rw[Bool.and_eq_true]at h
 obtain⟨h1,h2⟩:=h
 refine⟨h1,?_⟩
 split at h2
 · rename_i t ht
   split at h2
   · rename_i k f hk;exact⟨t,k,f,ht,hk⟩
   · cases h2
 · cases h2
def Xeo(all:List Oper)(ms:List Nat)(zl:List (Oper×Option Eff))(s0:St)(j:Nat)(o:Oper)(x:Option Eff):Bool:=
 XfO j o.after.toList&&(ms.getD j 0==XgV ms o.after.toList)&&decide (ms.getD j 0<2 ^ j)&&
 XcV ms zl (X9k all o) (X8T (X0n (zl.take j) s0) o) (Xal zl s0 (X0n (zl.take j) s0) o) o x j zl.length&&
 (match x with | some e=>X0X e o.dst (X2W (fun i=>!(i==j||(ms.getD i 0).testBit j)) 0 (X9h zl) s0) | none=>true)
def Xfx(all:List Oper)(ms:List Nat)(zl:List (Oper×Option Eff))(s0:St):Nat→List (Oper×Option Eff)→Bool
 | _,[]=>true
 | j,(o,x)::l=>Xeo all ms zl s0 j o x&&Xfx all ms zl s0 (j+1) l
theorem X7x{all:List Oper}{ms:List Nat}{zl:List (Oper×Option Eff)}{s0:St}:∀{l:List (Oper×Option Eff)} {k:Nat},Xfx all ms zl s0 k l=true→∀j o x,l[j]?=some (o,x)→Xeo all ms zl s0 (k+j) o x=true
 | [],_,_,j,o,x,hj=>by simp at hj
 | (o,x)::l,k,h,j,o',x',hj=>by
   simp only[Xfx,Bool.and_eq_true]at h
   cases j with
   | zero=>simp at hj;obtain⟨rfl,rfl⟩:=hj;exact h.1
   | succ j=>rw[show k+(j+1)=k+1+j by omega];exact X7x h.2 j o' x' (by simpa using hj)
def X9H(all:List Oper)(outs:List (Option Eff))(s0:St):Bool:=Xfx all (X69 all []) (all.zip outs) s0 0 (all.zip outs)
end Go.Proofs.Ytegmokdppbagiaa.Bv
namespace Go.Proofs.Ytegmokdppbagiaa.Bv
def X8e(nt:Nat):List Oper→Bool
 | []=>true
 | o::l=>(match o.dst with | some d=>decide (d<nt) | none=>true)&&X8e nt l
variable {P:Program} {base:World} {M0:Mem} {ios:Ios} {σ:Sg} {M:Mem} {w:World} {a:Act} {st:St} {tab:Tab} {Γ:Gam} {Q:Exit→Act→World→Prop}
theorem X5R{nt:Nat}:∀{l:List Oper},X8e nt l=true→∀o∈l,∀d,o.dst=some d→d<nt
 | [],_,o,ho,_,_=>by cases ho
 | o::l,h,o',ho',d,hd=>by
   simp only[X8e,Bool.and_eq_true]at h
   rcases List.mem_cons.1 ho' with e | e
   · subst e;rw[hd]at h;simpa using h.1
   · exact X5R h.2 o' e d hd
theorem X6x{ops:Array Oper}{o:Oper}{c:Bool}(hS:Sim P base M0 ios σ M w a st)(h:X5Z ops.toList o st=some c):Region.wanted o (yielded ops a.tmps)=c:=by
 unfold X5Z at h
 cases hg:o.guard with
 | none=>rw[hg]at h;cases h;simp[Region.wanted,hg]
 | some g=>
   obtain⟨j,wn⟩:=g
   rw[hg]at h
   simp only at h
   cases hj:X2k ops.toList j with
   | none=>rw[hj]at h;cases h
   | some d=>
     rw[hj]at h
     simp only at h
     split at h
     · rename_i b hb
       cases h
       simp only[Region.wanted,hg,Xa9 hj (hS.boolAt hb)]
       cases b<;>cases wn<;>rfl
     · rename_i hb
       cases h
       have hs:=hS.slots d
       rw[hb]at hs
       obtain⟨vs,hv,h2⟩:=hs
       have hvs:vs=#[]:=by
        have:vs.toList=[]:=by
         cases hl:vs.toList with
         | nil=>rfl
         | cons x l=>rw[hl]at h2;cases h2
        simpa using this
       rw[hvs]at hv
       simp only[Region.wanted,hg,X99 hj hv]
       rfl
     · cases h
theorem Xc6{L:Nat→Bool}:∀{l:List (Oper×Option Eff)} {k:Nat} {s:St},(X2W L k l s).nt=s.nt
 | [],_,_=>rfl
 | (o,x)::l,k,s=>by
   simp only[X2W,Xc6 (l:=l)]
   cases L k
   · rfl
   · exact X78 _ _ _
theorem X66{L:Nat→Bool}:∀{l:List (Oper×Option Eff)} {k:Nat} {s:St},(∀i,k≤i→L i=false)→X2W L k l s=s
 | [],_,_,_=>rfl
 | (o,x)::l,k,s,h=>by
   simp only[X2W,h k (Nat.le_refl _),cond_false]
   exact X66 fun i hi=>h i (by omega)
theorem X72:∀{l:List (Oper×Option Eff)} {j k:Nat} {s:St},X0n (l.take j) s=X2W (fun i=>decide (i<k+j)) k l s
 | [],j,k,s=>by simp[X0n,X2W]
 | (o,x)::l,0,k,s=>by
   rw[X66 (fun i hi=>by simp;omega)]
   rfl
 | (o,x)::l,j+1,k,s=>by
   rw[List.take_succ_cons,X2j]
   simp only[X2W,show decide (k<k+(j+1))=true by simp,cond_true]
   rw[X72 (k:=k+1)]
   congr 1
   funext i
   rw[show k+1+j=k+(j+1) by omega]
theorem XaW{p q:Nat→Bool}:∀{l:List Nat},(∀x,q x=true→p x=true)→(∃x∈l,p x=true∧q x=false)→l.countP q<l.countP p
 | [],_,⟨x,hx,_⟩=>by cases hx
 | y::l,h,⟨x,hx,hp,hq⟩=>by
   have hle:l.countP q≤l.countP p:=List.countP_mono_left fun z _=>h z
   rcases List.mem_cons.1 hx with e | hx
   · subst e
     rw[List.countP_cons_of_pos hp,List.countP_cons_of_neg (by simp[hq])]
     omega
   · have ih:=XaW h ⟨x,hx,hp,hq⟩
     by_cases hy:p y=true
     · rw[List.countP_cons_of_pos hy]
       by_cases hy':q y=true
       · rw[List.countP_cons_of_pos hy'];omega
       · rw[List.countP_cons_of_neg hy'];omega
     · rw[List.countP_cons_of_neg hy,List.countP_cons_of_neg (fun e=>hy (h y e))]
       exact ih
def unl(n:Nat)(listed:Array Bool):Nat:=(List.range n).countP fun i=>!listed.getD i false
theorem X5Q{listed:Array Bool}{i:Nat}(h:i<listed.size)(b c:Bool):listed.getD i b=listed.getD i c:=by
 rw[Array.getD_eq_getD_getElem?,Array.getD_eq_getD_getElem?,Array.getElem?_eq_getElem h];rfl
theorem X3g{listed:Array Bool}{i:Nat}(h:i<listed.size)(j:Nat):(listed.setIfInBounds i true).getD j false=(listed.getD j false||j==i):=by
 by_cases hj:i=j
 · subst hj
   have:(listed.setIfInBounds i true).getD i false=true:=by
    rw[Array.getD_eq_getD_getElem?,Array.getElem?_setIfInBounds_self_of_lt h];rfl
   rw[this];simp
 · rw[getD_set_ne false hj]
   have:(j==i)=false:=by simp[Ne.symm hj]
   rw[this,Bool.or_false]
theorem X5P{ops:Array Oper}{outs:List (Option Eff)}{st0:St}(hlen:outs.length=ops.toList.length)(hok:X9H ops.toList outs st0=true){listed:Array Bool}(hsz:listed.size=ops.size)(hcl:∀j,listed.getD j false=true→∀i,((X69 ops.toList []).getD j 0).testBit i=true→listed.getD i false=true){i:Nat}{o:Oper}{x:Option Eff}(hli:listed.getD i false=false)(hed:∀e∈o.after,Region.binds .any e=true→listed.getD e.on false=true)(hx:(ops.toList.zip outs)[i]?=some (o,x)):
 (∀k,((X69 ops.toList []).getD i 0).testBit k=true→listed.getD k false=true)∧
 (∀k o' x',(ops.toList.zip outs)[k]?=some (o',x')→k≠i→((k<i∧listed.getD k false=false)∨(i<k∧listed.getD k false=true))→XcL (X9k ops.toList o) (X8T (X0n ((ops.toList.zip outs).take i) st0) o) (Xal (ops.toList.zip outs) st0 (X0n ((ops.toList.zip outs).take i) st0) o) o' x'∧Xbl o x o' x')∧
 X60 (X9k ops.toList o) (X8T (X0n ((ops.toList.zip outs).take i) st0) o) (Xal (ops.toList.zip outs) st0 (X0n ((ops.toList.zip outs).take i) st0) o) (X0n ((ops.toList.zip outs).take i) st0) (X2W (fun j=>listed.getD j false) 0 (ops.toList.zip outs) st0)∧
 (∀k,listed.getD k false=true→((X69 ops.toList []).getD k 0).testBit i=false)∧
 (∀e,x=some e→X0X e o.dst (X2W (fun k=>!(k==i||((X69 ops.toList []).getD k 0).testBit i)) 0 (X9h (ops.toList.zip outs)) st0)=true):=by
 have one:=fun(j:Nat) (o:Oper) (x:Option Eff) (hj:(ops.toList.zip outs)[j]?=some (o,x))=>by
  have:=X7x (k:=0) hok j o x hj
  rw[Nat.zero_add]at this
  exact this
 have h1:=one i o x hx
 simp only[Xeo,Bool.and_eq_true,beq_iff_eq,decide_eq_true_eq]at h1
 obtain⟨⟨⟨⟨hback,hms⟩,hml⟩,hpair⟩,hfresh⟩:=h1
 have hanc:∀k,((X69 ops.toList []).getD i 0).testBit k=true→listed.getD k false=true:=by
  intro k hk
  rw[hms]at hk
  obtain⟨e,he,hb,h3⟩:=Xau hk
  have hon:=hed e (by simpa using he) hb
  rcases h3 with h3 | h3
  · rw[←h3];exact hon
  · exact hcl _ hon k h3
 have hbits:∀k o' x',(ops.toList.zip outs)[k]?=some (o',x')→∀m,k≤m→((X69 ops.toList []).getD k 0).testBit m=false:=by
  intro k o' x' hk m hm
  have h2:=one k o' x' hk
  simp only[Xeo,Bool.and_eq_true,decide_eq_true_eq]at h2
  exact Nat.testBit_lt_two_pow (Nat.lt_of_lt_of_le h2.1.1.2 (Nat.pow_le_pow_right (by omega) hm))
 have clear:∀k o' x',(ops.toList.zip outs)[k]?=some (o',x')→k≠i→((k<i∧listed.getD k false=false)∨(i<k∧listed.getD k false=true))→XcL (X9k ops.toList o) (X8T (X0n ((ops.toList.zip outs).take i) st0) o) (Xal (ops.toList.zip outs) st0 (X0n ((ops.toList.zip outs).take i) st0) o) o' x'∧Xbl o x o' x':=by
  intro k o' x' hk hne hc
  refine X93 hpair k (List.getElem?_eq_some_iff.1 hk).1 hne ?_ ?_ o' x' hk
  · rcases hc with⟨_,h2⟩ | ⟨h2,_⟩
    · cases hb:((X69 ops.toList []).getD i 0).testBit k with
      | false=>rfl
      | true=>rw[hanc k hb]at h2;cases h2
    · exact hbits i o x hx k (by omega)
  · rcases hc with⟨h2,_⟩ | ⟨_,h2⟩
    · exact hbits k o' x' hk i (by omega)
    · cases hb:((X69 ops.toList []).getD k 0).testBit i with
      | false=>rfl
      | true=>have:=hcl k h2 i hb;rw[hli]at this;cases this
 refine⟨hanc,clear,?_,?_,fun e he=>by subst he;exact hfresh⟩
 · have e0:=X72 (l:=ops.toList.zip outs) (j:=i) (k:=0) (s:=st0)
   refine X60.trans (s':=X2W (fun k=>decide (k<0+i)) 0 (ops.toList.zip outs) st0) (by rw[←e0];exact⟨fun _ _=>rfl,fun _ _=>rfl,fun _ _=>rfl⟩) ?_
   refine Xbd (fun k o' x' hk hne=>?_) ⟨fun _ _=>rfl,fun _ _=>rfl,fun _ _=>rfl⟩
   simp only[Nat.zero_add]at hne
   have hki:k≠i:=by intro e;subst e;rw[hli]at hne;simp at hne
   refine(clear k o' x' hk hki ?_).1
   by_cases hlt2:k<i
   · left;refine⟨hlt2,?_⟩
     cases h4:listed.getD k false with
     | false=>rfl
     | true=>rw[h4]at hne;simp[hlt2]at hne
   · right;refine⟨by omega,?_⟩
     cases h4:listed.getD k false with
     | true=>rfl
     | false=>rw[h4]at hne;simp[hlt2]at hne
 · intro k hk
   cases hkb:((X69 ops.toList []).getD k 0).testBit i with
   | false=>rfl
   | true=>have:=hcl k hk i hkb;rw[hli]at this;cases this
theorem Xb8(hT:X0o P tab)(hΓ:X6Z P Γ){ops:Array Oper}{outs:List (Option Eff)}{st0:St}(past:Nat→Prop)(stop:Nat)(hdst:X8e st0.nt ops.toList=true)(hlen:outs.length=ops.toList.length)(hok:X9H ops.toList outs st0=true)(hlate:∀j,stop<j→j<ops.size→((X69 ops.toList []).getD j 0).testBit stop=true)(hgood:∀j o x,¬past j→j<stop→(ops.toList.zip outs)[j]?=some (o,x)→XeU tab Γ ops.toList (X0n ((ops.toList.zip outs).take j) st0) o x)(hq:ops.size≤stop→∀σ M w a,Sim P base M0 ios σ M w a (X0n (ops.toList.zip outs) st0)→Q .normal a w)(hst:∀(fuel:Nat) (listed:Array Bool) (σ:Sg) (M:Mem) (w:World) (a:Act) (o:Oper),listed.size=ops.size→unl ops.size listed≤fuel+1→
   (∀j,listed.getD j false=true→∀i,((X69 ops.toList []).getD j 0).testBit i=true→listed.getD i false=true)→(∀j,stop≤j→listed.getD j false=false)→
   ops[stop]?=some o→(∀e∈o.after,Region.binds .any e=true→listed.getD e.on false=true)→Sim P base M0 ios σ M w a (X2W (fun j=>listed.getD j false) 0 (ops.toList.zip outs) st0)→
   wpOp P ops Q stop (wpAny P .any ops Q fuel (listed.setIfInBounds stop true)) a w):
 ∀(fuel:Nat) (listed:Array Bool) (σ:Sg) (M:Mem) (w:World) (a:Act),listed.size=ops.size→unl ops.size listed≤fuel→
  (∀j,listed.getD j false=true→∀i,((X69 ops.toList []).getD j 0).testBit i=true→listed.getD i false=true)→(∀j,past j→listed.getD j false=true)→(∀j,stop≤j→listed.getD j false=false)→
  Sim P base M0 ios σ M w a (X2W (fun j=>listed.getD j false) 0 (ops.toList.zip outs) st0)→wpAny P .any ops Q fuel listed a w:=by
 have zlen:(ops.toList.zip outs).length=ops.size:=by simp[List.length_zip,hlen]
 have done:∀(listed:Array Bool) (σ:Sg) (M:Mem) (w:World) (a:Act),(∀j,j<ops.size→listed.getD j false=true)→(∀j,stop≤j→listed.getD j false=false)→Sim P base M0 ios σ M w a (X2W (fun j=>listed.getD j false) 0 (ops.toList.zip outs) st0)→Q .normal a w:=by
  intro listed σ M w a hall hsp hS
  refine hq (Nat.le_of_not_lt fun hlt=>by have:=hall stop hlt;rw[hsp stop (Nat.le_refl _)]at this;cases this) σ M w a ?_
  unfold X0n
  rw[X8I (L:=fun _=>true) (L':=fun j=>listed.getD j false) _ (fun i hi=>by rw[Nat.zero_add];exact(hall i (by omega)).symm)]
  exact hS
 have one:=fun(j:Nat) (o:Oper) (x:Option Eff) (hj:(ops.toList.zip outs)[j]?=some (o,x))=>by
  have:=X7x (k:=0) hok j o x hj
  rw[Nat.zero_add]at this
  exact this
 have nothing:∀(listed:Array Bool),listed.size=ops.size→Region.ready .any ops listed=[]→∀j,j<ops.size→listed.getD j false=true:=by
  intro listed hsz hr j
  induction j using Nat.strongRecOn with
  | _ j ih=>
    intro hj
    cases hl:listed.getD j false with
    | true=>rfl
    | false=>
      exfalso
      have:j∈Region.ready .any ops listed:=by
       refine mem_ready.2 ⟨by rw[X5Q (by omega) true false];exact hl,ops[j],by simp[hj],fun e he hb=>?_⟩
       have hz:∃x,(ops.toList.zip outs)[j]?=some (ops[j],x):=by
        have:j<outs.length:=by simp at hlen;omega
        exact⟨outs[j],by rw[List.getElem?_zip_eq_some];simp[hj,this]⟩
       obtain⟨x,hx⟩:=hz
       have h1:=one j _ x hx
       simp only[Xeo,Bool.and_eq_true]at h1
       have:=Xa1 h1.1.1.1.1 e (by simpa using he) hb
       exact ih e.on this (by omega)
      rw[hr]at this
      cases this
 intro fuel
 induction fuel with
 | zero=>
   intro listed σ M w a hsz hu hcl hpa hsp hS
   have hall:∀j,j<ops.size→listed.getD j false=true:=by
    intro j hj
    cases hl:listed.getD j false with
    | true=>rfl
    | false=>
      exfalso
      have:0<(List.range ops.size).countP fun i=>!listed.getD i false:=List.countP_pos_iff.2 ⟨j,by simpa using hj,by simp only[hl];rfl⟩
      unfold unl at hu
      omega
   refine⟨?_,done listed σ M w a hall hsp hS⟩
   cases hr:Region.ready .any ops listed with
   | nil=>rfl
   | cons i r=>
     have hi:i∈Region.ready .any ops listed:=by rw[hr];simp
     obtain⟨h1,o,ho,_⟩:=mem_ready.1 hi
     have hlt:=(Array.getElem?_eq_some_iff.1 ho).1
     rw[X5Q (by omega) true false,hall i hlt]at h1
     cases h1
 | succ fuel ih=>
   intro listed σ M w a hsz hu hcl hpa hsp hS
   refine⟨fun hr=>done listed σ M w a (nothing listed hsz hr) hsp hS,fun i hi=>?_⟩
   obtain⟨hli,o,ho,hed⟩:=mem_ready.1 hi
   have hlt:=(Array.getElem?_eq_some_iff.1 ho).1
   rw[X5Q (by omega) true false]at hli
   obtain⟨x,hx⟩:∃x,(ops.toList.zip outs)[i]?=some (o,x):=by
    have h2:i<outs.length:=by simp at hlen;omega
    have h3:ops[i]=o:=(Array.getElem?_eq_some_iff.1 ho).2
    exact⟨outs[i],by rw[List.getElem?_zip_eq_some];simp[hlt,h2,h3]⟩
   obtain⟨hanc,clear,hag,hdown,hfresh⟩:=X5P hlen hok hsz hcl hli hed hx
   rcases Nat.lt_trichotomy i stop with his | his | his
   rotate_left
   · subst his
     exact hst fuel listed σ M w a o hsz hu hcl hsp ho hed hS
   · have:=hanc stop (hlate i his hlt)
     rw[hsp stop (Nat.le_refl _)]at this;cases this
   have hins:X64 tab Γ o (X2W (fun j=>listed.getD j false) 0 (ops.toList.zip outs) st0)=X64 tab Γ o (X0n ((ops.toList.zip outs).take i) st0):=by
    cases hpm:X8H (X0n ((ops.toList.zip outs).take i) st0) o with
    | true=>
      obtain⟨hm1,t,k,f,hops,hget⟩:=XbD hpm
      refine Xac hm1 fun x hx=>?_
      rw[hops]at hx
      rw[List.mem_singleton.1 hx]
      have hg2:(X2W (fun j=>listed.getD j false) 0 (ops.toList.zip outs) st0).get t=.box k f:=by
       rw[←hag.get t (by simp[X9k,hops,X5s])];exact hget
      show X4Q _ ((X2W (fun j=>listed.getD j false) 0 (ops.toList.zip outs) st0).get t)=X4Q _ ((X0n ((ops.toList.zip outs).take i) st0).get t)
      rw[hg2,hget];rfl
    | false=>
    have hbo:X8T (X0n ((ops.toList.zip outs).take i) st0) o=Xh4 (X0n ((ops.toList.zip outs).take i) st0) o:=by unfold X8T;rw[hpm]
    rw[hbo]at hag
    cases hmv:X8c o&&nfB (ops.toList.zip outs) st0 (Xfa (X0n ((ops.toList.zip outs).take i) st0) o) with
    | false=>
      have hrr:∀r∈Xfa (X0n ((ops.toList.zip outs).take i) st0) o,(X0n ((ops.toList.zip outs).take i) st0).rowv r=(X2W (fun j=>listed.getD j false) 0 (ops.toList.zip outs) st0).rowv r:=fun r hr=>hag.row r (by unfold Xal;rw[hmv];exact hr)
      have hag2:=fun fz=>X9n (fz:=fz) o.op.operands.toList (s:=X0n ((ops.toList.zip outs).take i) st0) (s':=X2W (fun j=>listed.getD j false) 0 (ops.toList.zip outs) st0) ⟨fun k hk=>hag.get k (by simp[X9k,hk]),hag.box,hrr⟩
      exact X92 (hag2 []).1 fun fz=>(hag2 fz).2
    | true=>
      rw[Bool.and_eq_true]at hmv
      have hnf:=Xde hmv.2
      have e0:=X72 (l:=ops.toList.zip outs) (j:=i) (k:=0) (s:=st0)
      have tm:∀(xs:List Operand) (x:Operand),x∈xs→(∀k∈X5s [x],k∈X5s xs)∧∀(s:St),(∀k∈opB s x,k∈Xgb s xs)∧∀r∈opR s x,r∈Xgr s xs:=fun xs=>by
       induction xs with
       | nil=>intro x hx;cases hx
       | cons y ys ihx=>
         intro x hx
         rcases List.mem_cons.1 hx with e | hx
         · subst e
           refine⟨fun k hk=>?_,fun s=>⟨fun k hk=>by simp[Xgb,hk],fun r hr=>by simp[Xgr,hr]⟩⟩
           cases x<;>simp_all [X5s]
         · obtain⟨q1,q2⟩:=ihx x hx
           refine⟨fun k hk=>?_,fun s=>⟨fun k hk=>by simp[Xgb,(q2 s).1 k hk],fun r hr=>by simp[Xgr,(q2 s).2 r hr]⟩⟩
           have:=q1 k hk
           cases y<;>simp[X5s,this]
      refine Xac hmv.1 fun x hx=>?_
      obtain⟨t1,t2⟩:=tm _ x hx
      have hget:∀t,x=.tmp t→(X0n ((ops.toList.zip outs).take i) st0).get t=(X2W (fun j=>listed.getD j false) 0 (ops.toList.zip outs) st0).get t:=fun t ht=>hag.get t (by subst ht;simp[X9k,t1 t (by simp[X5s])])
      have hor:opR (X2W (fun j=>listed.getD j false) 0 (ops.toList.zip outs) st0) x=opR (X0n ((ops.toList.zip outs).take i) st0) x:=by
       cases x with
       | tmp t=>
         simp only[opR]
         rw[←hget t rfl]
         congr 2
         refine(X6v fun k hk=>?_).symm
         exact hag.box k ((t2 _).1 k (by simp only[opB];exact hk))
       | _=>rfl
      have nf1:∀r∈opR (X0n ((ops.toList.zip outs).take i) st0) x,X7h ((X0n ((ops.toList.zip outs).take i) st0).rowv r)=false∧X7h ((X2W (fun j=>listed.getD j false) 0 (ops.toList.zip outs) st0).rowv r)=false:=fun r hr=>by
       obtain⟨q1,q2⟩:=hnf r ((t2 _).2 r hr)
       refine⟨?_,Xem q1 q2⟩
       rw[e0]
       exact Xem q1 q2
      rw[X9Y fun r hr=>(nf1 r (hor▸hr)).2,X9Y fun r hr=>(nf1 r hr).1]
      cases x with
      | tmp t=>exact(hget t rfl).symm
      | _=>rfl
   have hwant:X5Z ops.toList o (X2W (fun j=>listed.getD j false) 0 (ops.toList.zip outs) st0)=X5Z ops.toList o (X0n ((ops.toList.zip outs).take i) st0):=by
    unfold X5Z
    cases hg:o.guard with
    | none=>rfl
    | some g=>
      obtain⟨j,wn⟩:=g
      simp only
      cases hj:X2k ops.toList j with
      | none=>rfl
      | some d=>
        simp only
        rw[←hag.get d (by simp[X9k,Xej,hg,hj])]
   have hmore:Ext (X0m o x (X2W (fun j=>listed.getD j false) 0 (ops.toList.zip outs) st0)) (X2W (fun j=>(listed.setIfInBounds i true).getD j false) 0 (ops.toList.zip outs) st0):=by
    refine Xax (j:=i) hx (by rw[Nat.zero_add];exact hli) (fun k=>by rw[X3g (by omega),Nat.zero_add]) (fun k o' x' hk hlt2 hl=>?_)
    rw[Nat.zero_add]at hl
    exact(clear k o' x' hk (by omega) (.inr ⟨hlt2,hl⟩)).2
   have next:∀(σ':Sg) (M':Mem) (w':World) (a':Act),Sim P base M0 ios σ' M' w' a' (X0m o x (X2W (fun j=>listed.getD j false) 0 (ops.toList.zip outs) st0))→wpAny P .any ops Q fuel (listed.setIfInBounds i true) a' w':=by
    intro σ' M' w' a' hS'
    refine ih _ σ' M' w' a' (by simp[hsz]) ?_ ?_ (fun j hj=>by rw[X3g (by omega),hpa j hj];rfl) (fun j hj=>by rw[X3g (by omega),hsp j hj,show(j==i)=false by simp;omega];rfl) (hS'.ext hmore)
    · have:unl ops.size (listed.setIfInBounds i true)<unl ops.size listed:=by
       unfold unl
       refine XaW (fun k hk=>?_) ⟨i,by simpa using hlt,by rw[hli];rfl,by rw[X3g (by omega)];simp⟩
       rw[X3g (by omega)]at hk
       cases h4:listed.getD k false with
       | false=>rfl
       | true=>rw[h4]at hk;simp at hk
      omega
    · intro j hj k hk
      rw[X3g (by omega)]at hj ⊢
      have:listed.getD k false=true:=by
       by_cases hji:j=i
       · subst hji;exact hanc k hk
       · have:(j==i)=false:=by simp[hji]
         rw[this,Bool.or_false]at hj
         exact hcl j hj k hk
      rw[this];rfl
   unfold wpOp
   rw[ho]
   simp only
   have hg:=hgood i o x (fun hp=>by rw[hpa i hp]at hli;cases hli) his hx
   have hd':∀d,o.dst=some d→d<(X2W (fun j=>listed.getD j false) 0 (ops.toList.zip outs) st0).nt:=by
    intro d hd
    rw[Xc6]
    exact X5R hdst o (by rw[←Array.getElem?_toList]at ho;exact List.mem_of_getElem? ho) d hd
   cases x with
   | none=>
     have hw:=X6x (ops:=ops) hS (hwant.trans hg)
     rw[hw]
     simp only[Bool.false_eq_true,if_false]
     exact next σ M w _ (hS.skip hd')
   | some e=>
     obtain⟨hg1,ps,hg2,hps⟩:=hg
     have hw:=X6x (ops:=ops) hS (hwant.trans hg1)
     rw[hw]
     simp only[if_true]
     left
     refine XcO hT hΓ hS hd' (by rw[hins];exact hg2) hps ?_ fun v σ' M' w' hS'=>next σ' M' w' _ hS'
     refine Sub.fresh (Sub.mix (L':=fun k=>!(k==i||((X69 ops.toList []).getD k 0).testBit i)) (fun k hk=>?_) ⟨fun _ h=>h,fun _ h=>h,fun _ h=>h⟩) (hfresh e rfl)
     have hki:(k==i)=false:=by
      cases hki:k==i with
      | false=>rfl
      | true=>
        have:k=i:=by simpa using hki
        subst this
        simp only[hli]at hk
        cases hk
     have hkb:=hdown k hk
     simp only[hki,hkb]
     rfl
theorem X9l(hT:X0o P tab)(hΓ:X6Z P Γ){ops:Array Oper}{outs:List (Option Eff)}{st0:St}(past:Nat→Prop)(hdst:X8e st0.nt ops.toList=true)(hlen:outs.length=ops.toList.length)(hok:X9H ops.toList outs st0=true)(hgood:∀j o x,¬past j→(ops.toList.zip outs)[j]?=some (o,x)→XeU tab Γ ops.toList (X0n ((ops.toList.zip outs).take j) st0) o x)(hq:∀σ M w a,Sim P base M0 ios σ M w a (X0n (ops.toList.zip outs) st0)→Q .normal a w):
 ∀(fuel:Nat) (listed:Array Bool) (σ:Sg) (M:Mem) (w:World) (a:Act),listed.size=ops.size→unl ops.size listed≤fuel→
  (∀j,listed.getD j false=true→∀i,((X69 ops.toList []).getD j 0).testBit i=true→listed.getD i false=true)→(∀j,past j→listed.getD j false=true)→
  Sim P base M0 ios σ M w a (X2W (fun j=>listed.getD j false) 0 (ops.toList.zip outs) st0)→wpAny P .any ops Q fuel listed a w:=
 fun fuel listed σ M w a hsz hu hcl hpa hS=>Xb8 hT hΓ past ops.size hdst hlen hok (fun j h1 h2=>by omega) (fun j o x h1 _=>hgood j o x h1) (fun _=>hq)
  (fun _ _ _ _ _ _ o _ _ _ _ ho=>by simp at ho) fuel listed σ M w a hsz hu hcl hpa (fun j hj=>by
    rw[Array.getD_eq_getD_getElem?,Array.getElem?_eq_none (by omega)];rfl) hS
end Go.Proofs.Ytegmokdppbagiaa.Bv
namespace Go.Proofs.Ytegmokdppbagiaa.Bv
variable {P:Program} {base:World} {M0:Mem} {ios:Ios} {σ:Sg} {M:Mem} {w:World} {a:Act} {st:St} {tab:Tab} {Γ:Gam} {Q:Exit→Act→World→Prop}
def relB(Γ:Gam)(o:Oper):Bool:=match o.op with
 | .call c=>match c.callee with
   | .value (.func n)=>match Γ.con n with
     | some con=>con.f.isNone
     | none=>false
   | _=>false
 | _=>false
def Xhy(Γ:Gam):List Oper→Nat→Option Nat
 | [],_=>none
 | o::l,k=>match relB Γ o with
   | true=>some k
   | false=>Xhy Γ l (k+1)
def XfE(ms:List Nat)(m:Nat):Nat→Bool
 | 0=>true
 | i+1=>(Nat.ble i m||(ms.getD i 0).testBit m)&&XfE ms m i
def Xhv(all:List Oper)(m:Nat)(outs:List (Option Eff))(s0:St):Bool:=X9H all (outs++List.replicate (all.length - m) none) s0&&XfE (X69 all []) m all.length
def vcG(all:List Oper)(o:Oper)(st:St)(K1 K0:St→Prop):Prop:=match o.guard with
 | none=>K1 st
 | some (j,X5Z)=>match X2k all j with
   | some dj=>match st.get dj with
     | .val false [.bool b]=>X02 b (cond X5Z (K1 (st.lit dj true)) (K0 (st.lit dj true))) (cond X5Z (K0 (st.lit dj false)) (K1 (st.lit dj false)))
     | .tup []=>K0 st
     | _=>False
   | none=>False
def XgK(tab:Tab)(Γ:Gam)(all:List Oper)(m:Nat)(st:St)(K:List (Option Eff)→St→Prop):Prop:=
 match all[m]? with
 | some o=>match relB Γ o with
   | true=>X6S tab Γ all (all.take m) st fun outsA st1=>match Xhv all m outsA st with
     | true=>vcG all o st1
        (fun st2=>XbJ tab Γ o st2 fun e=>X6S tab Γ all (all.drop (m+1)) (e.apply o.dst st2) fun outs st'=>K (outsA++some e::outs) st')
        (fun st2=>X6S tab Γ all (all.drop (m+1)) (X2O o st2) fun outs st'=>K (outsA++none::outs) st')
     | false=>False
   | false=>False
 | none=>False
def Xhq(tab:Tab)(Γ:Gam)(all:List Oper)(st:St)(K:St→Prop):Prop:=match Xhy Γ all 0 with
 | none=>X6S tab Γ all all st fun outs st'=>match X9H all outs st with
   | true=>K st'
   | false=>False
 | some m=>XgK tab Γ all m st fun outs st'=>match X9H all outs st with
   | true=>K st'
   | false=>False
theorem Xa2{ms:List Nat}{m:Nat}:∀{n:Nat},XfE ms m n=true→∀j,m<j→j<n→(ms.getD j 0).testBit m=true
 | 0,_,j,_,h=>by omega
 | n+1,h,j,h1,h2=>by
   simp only[XfE,Bool.and_eq_true,Bool.or_eq_true]at h
   by_cases he:j=n
   · subst he
     rcases h.1 with h3 | h3
     · have:=Nat.le_of_ble_eq_true h3;omega
     · exact h3
   · exact Xa2 h.2 j h1 (by omega)
theorem Xg7{all:List Oper}{o:Oper}{K1 K0:St→Prop}(h:vcG all o st K1 K0):
 (X5Z all o st=some true∧∃st2,Ext st2 st∧K1 st2)∨(X5Z all o st=some false∧∃st2,Ext st2 st∧K0 st2):=by
 unfold vcG at h
 unfold X5Z
 cases hg:o.guard with
 | none=>rw[hg]at h;exact .inl ⟨rfl,st,Ext.refl _,h⟩
 | some g=>
   obtain⟨j,wn⟩:=g
   rw[hg]at h
   simp only at h ⊢
   cases hj:X2k all j with
   | none=>rw[hj]at h;exact h.elim
   | some dj=>
     rw[hj]at h
     simp only at h ⊢
     split at h
     · rename_i b hb
       replace h:=X7i h
       cases hbb:b with
       | true=>
         have h1:=h.1 hbb
         cases wn with
         | true=>exact .inl ⟨by simp only[hb,hbb];rfl,_,X6t hb hbb,h1⟩
         | false=>exact .inr ⟨by simp only[hb,hbb];rfl,_,X6t hb hbb,h1⟩
       | false=>
         have h1:=h.2 hbb
         cases wn with
         | false=>exact .inl ⟨by simp only[hb,hbb];rfl,_,X6t hb hbb,h1⟩
         | true=>exact .inr ⟨by simp only[hb,hbb];rfl,_,X6t hb hbb,h1⟩
     · rename_i hb
       exact .inr ⟨by simp only[hb],_,Ext.refl _,h⟩
     · exact h.elim
theorem Xe2{o:Oper}{s s':St}{K:Eff→Prop}(h0:o.op.operands.toList.map (X17 s')=o.op.operands.toList.map (X17 s))(hF:∀fz,o.op.operands.toList.map (X17 (X2h fz s'))=o.op.operands.toList.map (X17 (X2h fz s)))(hd:∀d,o.dst=some d→d<s'.nt)(h:XbJ tab Γ o s K)(hf:∀e,K e→X0X e o.dst s'=true):XbJ tab Γ o s' K:=by
 unfold XbJ at h ⊢
 split at h
 rotate_left
 · exact h.elim
 split
 rotate_left
 · rename_i hdd
   exfalso
   cases hdst:o.dst with
   | none=>rw[hdst]at hdd;cases hdd
   | some d=>rw[hdst]at hdd;have:=hd d hdst;simp only[decide_eq_false_iff_not]at hdd;exact hdd this
 · simp only[h0,X9t (hF _)]
   simp only at h
   generalize X2E ((o.op.operands.toList.map (X17 s)).flatMap (·.rows)) (X3N tab Γ o (o.op.operands.toList.map (X17 s)))=fz at h ⊢
   generalize X8m fz o s (o.op.operands.toList.map (X17 s))=ins at h ⊢
   split at h
   · rename_i hnd
     split at h
     · rename_i con ts xs hc
       unfold X79 at h ⊢
       split at h
       · rename_i d x h1 h2 h3
         obtain⟨hpre,hpost⟩:=h
         refine⟨hpre,fun y hy=>?_⟩
         have h4:=hpost y hy
         split at h4
         · rename_i br hbr
           split at h4
           · rename_i hfr
             have:=X5G (hf _ h4)
             rw[h1]at this
             rw[this]
             exact h4
           · exact h4.elim
         · exact h4.elim
       · exact h.elim
     · split at h
       · exact h
       · split at h
         · rename_i ps e he
           split at h
           · obtain⟨h1,h2⟩:=X7M h
             rw[X5G (hf _ h2)]
             exact h
           · exact h.elim
         · exact h.elim
   · exact h.elim
theorem X7z:∀(l l':List (Oper×Option Eff)) (s:St),X0n (l++l') s=X0n l' (X0n l s)
 | [],_,_=>rfl
 | (o,x)::l,l',s=>by rw[List.cons_append,X2j,X2j,X7z l l']
theorem X8J{L:Nat→Bool}:∀{l:List (Oper×Option Eff)} {k m:Nat} {s:St},(∀i,k+m≤i→L i=false)→X2W L k l s=X2W L k (l.take m) s
 | [],_,_,_,_=>by simp[X2W]
 | (o,x)::l,k,0,s,h=>by rw[X66 (fun i hi=>h i (by omega))];rfl
 | (o,x)::l,k,m+1,s,h=>by
   rw[List.take_succ_cons]
   simp only[X2W]
   exact X8J fun i hi=>h i (by omega)
theorem Xda{s s':St}(h:Ext s s')(o:Oper):o.op.operands.toList.map (X17 s')=o.op.operands.toList.map (X17 s)∧∀fz,o.op.operands.toList.map (X17 (X2h fz s'))=o.op.operands.toList.map (X17 (X2h fz s)):=
 ⟨List.map_congr_left fun x _=>(X8v h x).symm,fun fz=>List.map_congr_left fun x _=>(X8v (Xfg h) x).symm⟩
theorem XcK{o:Oper}(h:relB Γ o=true):X8c o=false:=by
 unfold relB at h
 unfold X8c
 split at h
 · rename_i c hc;rw[hc]
 · cases h
theorem Xfe(hT:X0o P tab)(hΓ:X6Z P Γ){ops:Array Oper}{m:Nat}{st0:St}{KK:St→Prop}(hdst:X8e st0.nt ops.toList=true)(h:XgK tab Γ ops.toList m st0 fun outs st'=>match X9H ops.toList outs st0 with | true=>KK st' | false=>False)(hq:∀σ M w a st',KK st'→Sim P base M0 ios σ M w a st'→Q .normal a w):
 ∀(fuel:Nat) (listed:Array Bool) (σ:Sg) (M:Mem) (w:World) (a:Act),listed.size=ops.size→unl ops.size listed≤fuel→
  (∀j,listed.getD j false=false)→Sim P base M0 ios σ M w a st0→wpAny P .any ops Q fuel listed a w:=by
 intro fuel listed σ M w a hsz hu hno hS
 unfold XgK at h
 split at h
 · rename_i o ho
   split at h
   · rename_i hrel
     obtain⟨outsA,st1,hlenA,hK,hext,hgood⟩:=X4D _ _ _ h
     split at hK
     · rename_i hro
       unfold Xhv at hro
       rw[Bool.and_eq_true]at hro
       obtain⟨hok,hlate⟩:=hro
       have hm:m<ops.toList.length:=(List.getElem?_eq_some_iff.1 ho).1
       have hlA:outsA.length=m:=by rw[hlenA,List.length_take];omega
       have hoa:ops[m]?=some o:=by rw[←Array.getElem?_toList];exact ho
       have hsplit:ops.toList=ops.toList.take m++o::ops.toList.drop (m+1):=by
        have e:=(List.getElem?_eq_some_iff.1 ho).2
        rw[←e,List.getElem_cons_drop];exact(List.take_append_drop ..).symm
       have zlF:∀r,ops.toList.zip (outsA++r)=(ops.toList.take m).zip outsA++(o::ops.toList.drop (m+1)).zip r:=fun r=>by
        conv=>lhs;rw[hsplit]
        rw[List.zip_append (by rw[List.length_take];omega)]
       have zlen:((ops.toList.take m).zip outsA).length=m:=by rw[List.length_zip,List.length_take];omega
       have zt:∀r,(ops.toList.zip (outsA++r)).take m=(ops.toList.take m).zip outsA:=fun r=>by
        rw[zlF,List.take_append_of_le_length (by omega),List.take_of_length_le (by omega)]
       have ztj:∀r j,j<m→(ops.toList.zip (outsA++r)).take j=((ops.toList.take m).zip outsA).take j:=fun r j hj=>by
        rw[zlF,List.take_append_of_le_length (by omega)]
       have zj:∀r j,j<m→(ops.toList.zip (outsA++r))[j]?=((ops.toList.take m).zip outsA)[j]?:=fun r j hj=>by
        rw[zlF,List.getElem?_append_left (by omega)]
       have hlenF:(outsA++List.replicate (ops.toList.length - m) (none:Option Eff)).length=ops.toList.length:=by
        rw[List.length_append,List.length_replicate];omega
       refine Xb8 (outs:=outsA++List.replicate (ops.toList.length - m) none) hT hΓ (fun _=>False) m hdst hlenF hok (fun j h1 h2=>Xa2 hlate j h1 (by simpa using h2))
        (fun j o' x _ h1 hz=>by rw[ztj _ j h1];exact hgood j o' x (by rw[←zj _ j h1];exact hz)) (fun hle=>by simp at hm;omega) ?_
        fuel listed σ M w a hsz hu (fun j hj=>by rw[hno j]at hj;cases hj) (fun j hj=>hj.elim) (fun j _=>hno j) (by rw[X66 (fun i _=>hno i)];exact hS)
       clear hu hno hsz hS
       intro fuel listed σ M w a o' hsz hu hcl hsp ho' hed hS
       rw[hoa]at ho'
       cases ho'
       have hli:=hsp m (Nat.le_refl _)
       have hzA:(ops.toList.zip (outsA++List.replicate (ops.toList.length - m) (none:Option Eff)))[m]?=some (o,none):=by
        rw[zlF,List.getElem?_append_right (by omega),zlen,Nat.sub_self,show ops.toList.length - m=(ops.toList.length - m - 1)+1 by omega,List.replicate_succ,List.zip_cons_cons];rfl
       obtain⟨_,_,hag,_,_⟩:=X5P hlenF hok hsz hcl hli hed hzA
       have hdd:∀s:St,s.nt=st0.nt→∀d,o.dst=some d→d<s.nt:=fun s hs d hd=>by
        rw[hs];exact X5R hdst o (List.mem_of_getElem? ho) d hd
       rw[zt]at hag
       have hmix:∀r,X2W (fun j=>listed.getD j false) 0 (ops.toList.zip (outsA++List.replicate (ops.toList.length - m) none)) st0=X2W (fun j=>listed.getD j false) 0 (ops.toList.zip (outsA++r)) st0:=fun r=>by
        rw[X8J (m:=m) (fun i hi=>hsp i (by omega)),zt,X8J (m:=m) (l:=ops.toList.zip (outsA++r)) (fun i hi=>hsp i (by omega)),zt]
       have hagG:X60 (X9k ops.toList o) (Xh4 (X0n ((ops.toList.take m).zip outsA) st0) o) (Xfa (X0n ((ops.toList.take m).zip outsA) st0) o) (X0n ((ops.toList.take m).zip outsA) st0) (X2W (fun j=>listed.getD j false) 0 (ops.toList.zip (outsA++List.replicate (ops.toList.length - m) none)) st0):=by
        unfold Xal X8T X8H at hag
        rw[XcK hrel]at hag
        simp only[Bool.false_and]at hag
        exact hag
       generalize hs':X2W (fun j=>listed.getD j false) 0 (ops.toList.zip (outsA++List.replicate (ops.toList.length - m) none)) st0=s' at hS hagG hmix
       have hnt:s'.nt=st0.nt:=by rw[←hs'];exact Xc6
       have hins:o.op.operands.toList.map (X17 s')=o.op.operands.toList.map (X17 st1)∧∀fz,o.op.operands.toList.map (X17 (X2h fz s'))=o.op.operands.toList.map (X17 (X2h fz st1)):=by
        have h1:=fun fz=>X9n (fz:=fz) o.op.operands.toList (s:=X0n ((ops.toList.take m).zip outsA) st0) (s':=s') ⟨fun k hk=>hagG.get k (by simp[X9k,hk]),hagG.box,hagG.row⟩
        have h2:=Xda hext o
        exact⟨(h1 []).1.trans h2.1,fun fz=>(h1 fz).2.trans (h2.2 fz)⟩
       have hwant:X5Z ops.toList o s'=X5Z ops.toList o st1:=by
        unfold X5Z
        cases hg:o.guard with
        | none=>rfl
        | some g=>
          obtain⟨j,wn⟩:=g
          simp only
          cases hj:X2k ops.toList j with
          | none=>rfl
          | some d=>
            simp only
            rw[←hagG.get d (by simp[X9k,Xej,hg,hj]),hext.get]
       have after:∀(x:Option Eff) (st2:St) (outsB:List (Option Eff)) (st':St),Ext st2 (X0n ((ops.toList.take m).zip outsA) st0)→outsB.length=(ops.toList.drop (m+1)).length→X9H ops.toList (outsA++x::outsB) st0=true→KK st'→
        Ext st' (X0n ((ops.toList.drop (m+1)).zip outsB) (X0m o x st2))→
        (∀j o' x',((ops.toList.drop (m+1)).zip outsB)[j]?=some (o',x')→XeU tab Γ ops.toList (X0n (((ops.toList.drop (m+1)).zip outsB).take j) (X0m o x st2)) o' x')→
        ∀σ' M' w' a',Sim P base M0 ios σ' M' w' a' (X0m o x s')→wpAny P .any ops Q fuel (listed.setIfInBounds m true) a' w':=by
        intro x st2 outsB st' he hlB hokF hKK hex hgB σ' M' w' a' hS'
        have hlF:(outsA++x::outsB).length=ops.toList.length:=by
         rw[List.length_append,List.length_cons,hlB,List.length_drop];omega
        have hx2:Ext (X0m o x st2) (X0m o x (X0n ((ops.toList.take m).zip outsA) st0)):=X6G he
        have hzF:(ops.toList.zip (outsA++x::outsB))[m]?=some (o,x):=by
         rw[zlF,List.getElem?_append_right (by omega),zlen,Nat.sub_self,List.zip_cons_cons];rfl
        have hrun:X0n (ops.toList.zip (outsA++x::outsB)) st0=X0n ((ops.toList.drop (m+1)).zip outsB) (X0m o x (X0n ((ops.toList.take m).zip outsA) st0)):=by
         rw[zlF,X7z,List.zip_cons_cons,X2j]
        have hmore:Ext (X0m o x s') (X2W (fun j=>(listed.setIfInBounds m true).getD j false) 0 (ops.toList.zip (outsA++x::outsB)) st0):=by
         rw[hmix (x::outsB)]
         refine Xax (j:=m) hzF (by rw[Nat.zero_add];exact hli) (fun k=>by rw[X3g (by simp at hm;omega),Nat.zero_add]) (fun k o' x' hk hlt2 hl=>?_)
         rw[Nat.zero_add]at hl
         rw[hsp k (by omega)]at hl;cases hl
        refine X9l (outs:=outsA++x::outsB) hT hΓ (fun j=>j=m) hdst hlF hokF (fun j o' x' hne hz=>?_) (fun σ M w a hS2=>hq σ M w a st' hKK (hS2.ext ?_)) fuel _ σ' M' w' a' (by simp[hsz]) ?_ ?_ ?_ (hS'.ext hmore)
        · rcases Nat.lt_trichotomy j m with hj | hj | hj
          · rw[ztj _ j hj];exact hgood j o' x' (by rw[←zj _ j hj];exact hz)
          · exact absurd hj hne
          · obtain⟨i,rfl⟩:∃i,j=m+1+i:=⟨j - m - 1,by omega⟩
            have e1:(ops.toList.zip (outsA++x::outsB)).take (m+1+i)=(ops.toList.take m).zip outsA++(o,x)::((ops.toList.drop (m+1)).zip outsB).take i:=by
             rw[zlF,List.zip_cons_cons,List.take_append,zlen,List.take_of_length_le (by omega),show m+1+i - m=i+1 by omega,List.take_succ_cons]
            rw[e1,X7z,X2j]
            have hz2:((ops.toList.drop (m+1)).zip outsB)[i]?=some (o',x'):=by
             rw[zlF,List.getElem?_append_right (by omega),zlen,List.zip_cons_cons,show m+1+i - m=i+1 by omega,List.getElem?_cons_succ]at hz
             exact hz
            exact(hgB i o' x' hz2).ext (X4E hx2)
        · rw[hrun]
          exact(hex.trans (X4E hx2)).symm
        · have:unl ops.size (listed.setIfInBounds m true)<unl ops.size listed:=by
           unfold unl
           refine XaW (fun k hk=>?_) ⟨m,by simp at hm;simpa using hm,by rw[hli];rfl,by rw[X3g (by simp at hm;omega)];simp⟩
           rw[X3g (by simp at hm;omega)]at hk
           cases h4:listed.getD k false with
           | false=>rfl
           | true=>rw[h4]at hk;simp at hk
          omega
        · intro j hj k hk
          rw[X3g (by simp at hm;omega)]at hj ⊢
          have:listed.getD k false=true:=by
           by_cases hji:j=m
           · subst hji
             exact(X5P hlenF hok hsz hcl hli hed hzA).1 k hk
           · have:(j==m)=false:=by simp[hji]
             rw[this,Bool.or_false]at hj
             exact hcl j hj k hk
          rw[this];rfl
        · intro j hj
          subst hj
          rw[X3g (by simp at hm;omega)];simp
       unfold wpOp
       rw[hoa]
       simp only
       rcases Xg7 hK with⟨hw,st2,he2,hK2⟩ | ⟨hw,st2,he2,hK2⟩
       · have hw':=X6x (ops:=ops) hS (hwant.trans hw)
         rw[hw']
         simp only[if_true]
         left
         have hi2:=Xda he2 o
         have more:∀e,(X6S tab Γ ops.toList (ops.toList.drop (m+1)) (e.apply o.dst st2) fun outs st'=>match X9H ops.toList (outsA++some e::outs) st0 with | true=>KK st' | false=>False)→
          ∃outsB st',outsB.length=(ops.toList.drop (m+1)).length∧X9H ops.toList (outsA++some e::outsB) st0=true∧KK st'∧Ext st' (X0n ((ops.toList.drop (m+1)).zip outsB) (X0m o (some e) st2))∧
          (∀j o' x',((ops.toList.drop (m+1)).zip outsB)[j]?=some (o',x')→XeU tab Γ ops.toList (X0n (((ops.toList.drop (m+1)).zip outsB).take j) (X0m o (some e) st2)) o' x'):=fun e hr=>by
          obtain⟨outsB,st',h1,h2,h3,h4⟩:=X4D _ _ _ hr
          split at h2
          · rename_i hokF
            exact⟨outsB,st',h1,hokF,h2,h3,h4⟩
          · exact h2.elim
         refine X71 (tab:=tab) (Γ:=Γ) hT hΓ hS (Xe2 (s:=st2) ?_ ?_ (hdd s' hnt) hK2 ?_) (fun e hr v σ' M' w' hS'=>?_)
         · rw[hins.1];exact hi2.1
         · intro fz;rw[hins.2 fz];exact hi2.2 fz
         · intro e hr
           obtain⟨outsB,st',h1,hokF,h2,h3,h4⟩:=more e hr
           have hlF:(outsA++some e::outsB).length=ops.toList.length:=by
            rw[List.length_append,List.length_cons,h1,List.length_drop];omega
           have hzF:(ops.toList.zip (outsA++some e::outsB))[m]?=some (o,some e):=by
            rw[zlF,List.getElem?_append_right (by omega),zlen,Nat.sub_self,List.zip_cons_cons];rfl
           obtain⟨_,_,_,hdown,hfresh⟩:=X5P hlF hokF hsz hcl hli hed hzF
           refine Sub.fresh ?_ (hfresh e rfl)
           rw[hmix (some e::outsB)]
           refine Sub.mix (fun k hk=>?_) ⟨fun _ h=>h,fun _ h=>h,fun _ h=>h⟩
           have hki:(k==m)=false:=by
            cases hki:k==m with
            | false=>rfl
            | true=>
              have:k=m:=by simpa using hki
              subst this
              simp only[hli]at hk
              cases hk
           have hkb:=hdown k hk
           simp only[hki,hkb]
           rfl
         · obtain⟨outsB,st',h1,hokF,h2,h3,h4⟩:=more e hr
           exact after (some e) st2 outsB st' (he2.trans hext) h1 hokF h2 h3 h4 σ' M' w' _ hS'
       · have hw':=X6x (ops:=ops) hS (hwant.trans hw)
         rw[hw']
         simp only[Bool.false_eq_true,if_false]
         obtain⟨outsB,st',h1,h2,h3,h4⟩:=X4D _ _ _ hK2
         split at h2
         · rename_i hokF
           exact after none st2 outsB st' (he2.trans hext) h1 hokF h2 h3 h4 σ M w _ (hS.skip (hdd s' hnt))
         · exact h2.elim
     · exact hK.elim
   · exact h.elim
 · exact h.elim
end Go.Proofs.Ytegmokdppbagiaa.Bv
namespace Go.Proofs.Ytegmokdppbagiaa.Bv
structure X5i where
 bx:Bool:=false
 s:Nat
 i:Nat
 k:Nat
 e:TypeId
 hot:Bool
structure X8i where
 hold:List Nat:=[]
 slots:List Nat
 boxes:List Nat:=[]
 rows:List X5i:=[]
def XgI(st:St)(s i:Nat):Option X00:=match X4Q st.rows (st.get s) with
 | .val _ cs=>cs[i]?
 | _=>none
def XgX(st:St)(b i:Nat):Option X00:=match st.box b with
 | some cs=>(X4H st.rows cs)[i]?
 | none=>none
def X5Y(st:St)(kr:X5i):Option X00:=match kr.bx with
 | true=>XgX st kr.s kr.i
 | false=>XgI st kr.s kr.i
inductive Old where
 | bad
 | nil (t:Ty)
 | hot (r:Nat) (t:Ty) (l:List (El t))
 | cold (r:Nat)
 | cnil
def Xgj(st:St)(e:TypeId)(t:Ty)(r:Nat):Old:=match look r st.rows with
 | some (.hot e' t' l _ none _)=>if e'=e then if h:t'=t then .hot r t (X3f h l) else .bad else .bad
 | _=>.bad
def X4T(st:St)(kr:X5i):Old:=match kr.hot,X5Y st kr with
 | true,some (.own t r)=>Xgj st kr.e t r
 | true,some (.lst t [] (some 0))=>.nil t
 | true,some (.emp t)=>.nil t
 | false,some (.lst _ _ (some 0))=>.cnil
 | false,some (.lst _ _ (some (r+1)))=>match X3b (r+1) st.rows with
   | some e=>if e=kr.e then .cold (r+1) else .bad
   | none=>.bad
 | _,_=>.bad
def rho(st:St):List X5i→List (Nat×Nat)
 | []=>[]
 | kr::l=>match X4T st kr with
   | .hot r _ _=>(r,kr.k)::rho st l
   | _=>rho st l
def X44(st:St):List X5i→List Nat
 | []=>[]
 | kr::l=>match X4T st kr with
   | .cold r=>r::X44 st l
   | _=>X44 st l
def XcP(st:St)(kr:X5i):Option X0e:=match X4T st kr with
 | .hot _ t l=>some (.hot kr.e t l 0 none false)
 | .nil t=>some (.hot kr.e t [] 0 none false)
 | .cold _=>some (.cold kr.e)
 | .cnil=>some (.cold kr.e)
 | .bad=>none
def Xab(st:St):List X5i→List (Nat×X0e)
 | []=>[]
 | kr::l=>match XcP st kr with
   | some rv=>(kr.k,rv)::Xab st l
   | none=>Xab st l
def Xf4:List X5i→Bool→Nat→Nat→Option X5i
 | [],_,_,_=>none
 | kr::l,b,s,i=>if kr.bx=b∧kr.s=s∧kr.i=i then some kr else Xf4 l b s i
def X7U:List X5i→Nat→Option X5i
 | [],_=>none
 | kr::l,k=>if kr.k=k then some kr else X7U l k
def reC1(ρ:List (Nat×Nat)):X00→X00
 | .lst t l _=>.lst t l none
 | .own t r=>match look r ρ with
   | some k=>.own t k
   | none=>.und
 | .sub t r lo hi=>match look r ρ with
   | some k=>.sub t k lo hi
   | none=>.und
 | .bor ..=>.und
 | c=>c
def XhK(kr:X5i):X00→X00
 | .own t _=>cond kr.hot (.own t kr.k) .und
 | .emp t=>cond kr.hot (.own t kr.k) .und
 | .lst t l _=>cond kr.hot (.own t kr.k) (.lst t l (some kr.k))
 | _=>.und
def Xhb(kp:X8i)(ρ:List (Nat×Nat))(bx:Bool)(s:Nat):Nat→List X00→List X00
 | _,[]=>[]
 | i,c::cs=>(match Xf4 kp.rows bx s i with
    | some kr=>XhK kr c
    | none=>reC1 ρ c)::Xhb kp ρ bx s (i+1) cs
def unC:List X00→List X00
 | []=>[]
 | .lst t l _::cs=>.lst t l none::unC cs
 | .int k n::cs=>.int k n::unC cs
 | .bool b::cs=>.bool b::unC cs
 | .str s::cs=>.str s::unC cs
 | .emp t::cs=>.emp t::unC cs
 | _::cs=>.und::unC cs
def X6b(kp:X8i)(st:St):List Cap→Option (List Cap)
 | []=>some []
 | .box k off::l=>match kp.boxes.contains k&&(st.box k).isSome,X6b kp st l with
   | true,some r=>some (.box k off::r)
   | _,_=>none
 | .ptr cs::l=>match X6b kp st l with
   | some r=>some (.ptr (unC cs)::r)
   | none=>none
 | .pp k off::l=>match kp.boxes.contains k&&(st.box k).isSome,X6b kp st l with
   | true,some r=>some (.pp k off::r)
   | _,_=>none
 | .pptr cs::l=>match X6b kp st l with
   | some r=>some (.pptr (unC cs)::r)
   | none=>none
def reS(kp:X8i)(ρ:List (Nat×Nat))(st:St)(s:Nat):Sv→Sv
 | .val ag cs=>.val ag (Xhb kp ρ false s 0 cs)
 | .box k off=>match kp.boxes.contains k&&(st.box k).isSome with
   | true=>.box k off
   | false=>.und
 | .ptr cs=>.ptr (unC cs)
 | .pp k off=>match kp.boxes.contains k&&(st.box k).isSome with
   | true=>.pp k off
   | false=>.und
 | .pptr cs=>.pptr (unC cs)
 | .fn f a b=>match X6b kp st a,X6b kp st b with
   | some a',some b'=>.fn f a' b'
   | _,_=>.und
 | .hp t r i off=>match look r ρ with
   | some k=>.hp t k i off
   | none=>.und
 | .nil=>.nil
 | _=>.und
def X8X(kp:X8i)(ρ:List (Nat×Nat))(st:St):List Nat→List (Nat×Sv)
 | []=>[]
 | s::l=>(s,reS kp ρ st s (X4Q st.rows (st.get s)))::X8X kp ρ st l
def X7P(kp:X8i)(ρ:List (Nat×Nat))(st:St):List Nat→List (Nat×List X00)
 | []=>[]
 | b::l=>match st.box b with
   | some cs=>(b,Xhb kp ρ true b 0 (X4H st.rows cs))::X7P kp ρ st l
   | none=>X7P kp ρ st l
def rename(kp:X8i)(st:St):St:={nt:=st.nt,slots:=X8X kp (rho st kp.rows) st (kp.hold++kp.slots),boxes:=X7P kp (rho st kp.rows) st kp.boxes,rows:=Xab st kp.rows}
def Xe0(tab:Tab)(st:St)(kr:X5i):Bool:=!(kr.k==0)&&match X4T st kr with
 | .bad=>false
 | .nil t=>(kr.k % 2==1)&&(match look kr.e tab with | some te=>decide (te.ty=t)&&decide (0<size t) | none=>false)
 | .hot r _ _=>kr.k % 2==1||r==kr.k
 | .cold r=>(kr.k % 2==1||r==kr.k)&&(look kr.e tab).isSome
 | .cnil=>(kr.k % 2==1)&&(look kr.e tab).isSome
def X8y(tab:Tab)(kp:X8i)(st:St):Bool:=kp.rows.all (Xe0 tab st)&&X2q (kp.rows.map (·.k))&&X2q ((rho st kp.rows).map (·.1))&&X2q (X44 st kp.rows)
def Xed(kp:X8i)(bx:Bool)(s:Nat)(ks:List Nat):Nat→List X00→List Nat
 | _,[]=>[]
 | i,c::cs=>(match Xf4 kp.rows bx s i with
    | some kr=>(match kr.hot,c with
      | false,.own _ r=>[r]
      | _,_=>[])
    | none=>(match c with
      | .own _ r=>cond (X1v r ks) [r] []
      | .sub _ r _ _=>cond (X1v r ks) [r] []
      | .bor _ _ r _ _=>cond (X1v r ks) [r] []
      | _=>[]))++Xed kp bx s ks (i+1) cs
def Xgt(kp:X8i)(st:St)(ks:List Nat):List Nat→List Nat
 | []=>[]
 | s::l=>(match st.get s with
    | .val _ cs=>Xed kp false s ks 0 cs
    | .bptr _ r _=>cond (X1v r ks) [r] []
    | _=>[])++Xgt kp st ks l
def Xgq(kp:X8i)(st:St)(ks:List Nat):List Nat→List Nat
 | []=>[]
 | b::l=>(match st.box b with
    | some cs=>Xed kp true b ks 0 cs
    | none=>[])++Xgq kp st ks l
def XfS(kp:X8i)(st:St):List (Nat×X0e):=
 let ks:=(rho st kp.rows).map (·.1)
 X2E st.rows (X2m st.rows (Xgt kp st ks (kp.hold++kp.slots)++Xgq kp st ks kp.boxes))
def ready(kp:X8i)(st:St):St:=match XfS kp st with
 | []=>st
 | fz=>X2h fz st
def weaken(kp:X8i)(st:St):St:=rename kp (ready kp st)
def Xel(tab:Tab)(kp:X8i)(st:St):Bool:=X2q ((XfS kp st).map (·.1))&&X8y tab kp (ready kp st)
end Go.Proofs.Ytegmokdppbagiaa.Bv
namespace Go.Proofs.Ytegmokdppbagiaa.Bv
variable {P:Program} {base:World} {M0:Mem} {ios:Ios} {σ:Sg} {M:Mem} {w:World} {a:Act} {st:St} {tab:Tab} {Γ:Gam}
def X8l(σ:Sg)(w:World)(a:Act)(kr:X5i):Value:=match kr.bx with
 | false=>(a.tmps.getD kr.s undef).cells.toList.getD kr.i undef
 | true=>match w.heap[σ.box kr.s]? with
   | some (.cells arr _ _)=>arr.toList.getD kr.i undef
   | _=>undef
theorem X7N{l:List Value}{i:Nat}{v:Value}(h:l[i]?=some v):l.getD i undef=v:=by rw[List.getD_eq_getElem?_getD,h];rfl
theorem X6r(hS:Sim P base M0 ios σ M w a st){kr:X5i}{c:X00}(h:X5Y st kr=some c):RdT σ st.rows M (X8l σ w a kr) c:=by
 unfold X5Y at h
 unfold X8l
 cases hb:kr.bx with
 | false=>
   rw[hb]at h
   simp only[XgI]at h ⊢
   have hs:=X94 hS (fun _ _ h=>h) (hS.slots kr.s)
   split at h
   · rename_i ag cs he
     rw[he]at hs
     obtain⟨v,hv,hr⟩:=hs.1.get h
     rw[X7N hv];exact hr
   · cases h
 | true=>
   rw[hb]at h
   simp only[XgX]at h ⊢
   split at h
   · rename_i cs hk
     obtain⟨arr,E,h1,h2⟩:=hS.boxes kr.s cs hk
     obtain⟨v,hv,hr⟩:=(X5z hS (fun _ _ h=>h) h2).get h
     rw[h1]
     simp only
     rw[X7N hv];exact hr
   · cases h
def OldOk(st:St)(kr:X5i):Old→Prop
 | .bad=>True
 | .hot r t l=>kr.hot=true∧X5Y st kr=some (.own t r)∧∃ver z,look r st.rows=some (.hot kr.e t l ver none z)
 | .nil t=>kr.hot=true∧(X5Y st kr=some (.lst t [] (some 0))∨X5Y st kr=some (.emp t))
 | .cold r=>kr.hot=false∧r≠0∧∃t l,X5Y st kr=some (.lst t l (some r))∧st.row r=some kr.e
 | .cnil=>kr.hot=false∧∃t l,X5Y st kr=some (.lst t l (some 0))
theorem X2K(st:St)(kr:X5i):OldOk st kr (X4T st kr):=by
 unfold X4T
 split
 · rename_i t r hh hp
   unfold Xgj
   split
   · rename_i e t' l ver z hl
     split
     · rename_i he
       split
       · rename_i ht
         subst ht;subst he
         exact⟨hh,hp,ver,z,hl⟩
       · trivial
     · trivial
   · trivial
 · rename_i t hh hp;exact⟨hh,.inl hp⟩
 · rename_i t hh hp;exact⟨hh,.inr hp⟩
 · rename_i t l hh hp;exact⟨hh,t,l,hp⟩
 · rename_i t l r hh hp
   split
   · rename_i e he
     split
     · rename_i h;subst h;exact⟨hh,by omega,t,l,hp,he⟩
     · trivial
   · trivial
 · trivial
theorem Xaz{r k:Nat}:∀{rows:List X5i},look r (rho st rows)=some k→∃kr∈rows,kr.k=k∧∃t l,X4T st kr=.hot r t l
 | [],h=>by cases h
 | kr::l,h=>by
   simp only[rho]at h
   split at h
   · rename_i r' t' l' ho
     rw[X01]at h
     split at h
     · rename_i e;subst e;cases h;exact⟨kr,by simp,rfl,t',l',ho⟩
     · obtain⟨kr',h1,h2⟩:=Xaz h;exact⟨kr',List.mem_cons_of_mem _ h1,h2⟩
   · obtain⟨kr',h1,h2⟩:=Xaz h;exact⟨kr',List.mem_cons_of_mem _ h1,h2⟩
theorem Xcn{kr:X5i}{r:Nat}{t:Ty}{l:List (El t)}(ho:X4T st kr=.hot r t l):∀{rows:List X5i},kr∈rows→r∈(rho st rows).map (·.1)
 | kr'::rows,h=>by
   simp only[rho]
   rcases List.mem_cons.1 h with e | h
   · subst e;rw[ho];simp
   · have:=Xcn ho h
     split
     · exact List.mem_cons_of_mem _ this
     · exact this
theorem XaB{kr:X5i}{r:Nat}(ho:X4T st kr=.cold r):∀{rows:List X5i},kr∈rows→r∈X44 st rows
 | kr'::rows,h=>by
   simp only[X44]
   rcases List.mem_cons.1 h with e | h
   · subst e;rw[ho];simp
   · have:=XaB ho h
     split
     · exact List.mem_cons_of_mem _ this
     · exact this
theorem Xf0{r:Nat}{t t':Ty}{l:List (El t)}{l':List (El t')}{kr kr':X5i}:∀{rows:List X5i},((rho st rows).map (·.1)).Nodup→kr∈rows→kr'∈rows→X4T st kr=.hot r t l→X4T st kr'=.hot r t' l'→kr=kr'
 | k0::rows,hn,h,h',ho,ho'=>by
   rcases List.mem_cons.1 h with e | h1<;>rcases List.mem_cons.1 h' with e' | h1'
   · rw[e,e']
   · subst e
     simp only[rho,ho,List.map_cons,List.nodup_cons]at hn
     exact absurd (Xcn ho' h1') hn.1
   · subst e'
     simp only[rho,ho',List.map_cons,List.nodup_cons]at hn
     exact absurd (Xcn ho h1) hn.1
   · refine Xf0 (rows:=rows) ?_ h1 h1' ho ho'
     simp only[rho]at hn
     split at hn
     · exact(List.nodup_cons.1 hn).2
     · exact hn
theorem Xdd{r:Nat}{kr kr':X5i}:∀{rows:List X5i},(X44 st rows).Nodup→kr∈rows→kr'∈rows→X4T st kr=.cold r→X4T st kr'=.cold r→kr=kr'
 | k0::rows,hn,h,h',ho,ho'=>by
   rcases List.mem_cons.1 h with e | h1<;>rcases List.mem_cons.1 h' with e' | h1'
   · rw[e,e']
   · subst e
     simp only[X44,ho,List.nodup_cons]at hn
     exact absurd (XaB ho' h1') hn.1
   · subst e'
     simp only[X44,ho',List.nodup_cons]at hn
     exact absurd (XaB ho h1) hn.1
   · refine Xdd (rows:=rows) ?_ h1 h1' ho ho'
     simp only[X44]at hn
     split at hn
     · exact(List.nodup_cons.1 hn).2
     · exact hn
theorem XbV{b:Bool}{s i:Nat}{kr:X5i}:∀{rows:List X5i},Xf4 rows b s i=some kr→kr∈rows∧kr.bx=b∧kr.s=s∧kr.i=i
 | [],h=>by cases h
 | k0::rows,h=>by
   simp only[Xf4]at h
   split at h
   · rename_i hc;cases h;exact⟨by simp,hc⟩
   · obtain⟨h1,h2⟩:=XbV h;exact⟨List.mem_cons_of_mem _ h1,h2⟩
theorem X9y{kr:X5i}:∀{rows:List X5i},(rows.map (·.k)).Nodup→kr∈rows→X7U rows kr.k=some kr
 | k0::rows,hn,h=>by
   simp only[List.map_cons,List.nodup_cons]at hn
   simp only[X7U]
   rcases List.mem_cons.1 h with e | h
   · subst e;simp
   · have:k0.k≠kr.k:=fun e=>hn.1 (List.mem_map.2 ⟨kr,h,e.symm⟩)
     rw[if_neg this];exact X9y hn.2 h
theorem X6C{k:Nat}{rv:X0e}:∀{rows:List X5i},look k (Xab st rows)=some rv→∃kr∈rows,kr.k=k∧XcP st kr=some rv
 | [],h=>by cases h
 | kr::rows,h=>by
   simp only[Xab]at h
   split at h
   · rename_i rv' hv
     rw[X01]at h
     split at h
     · rename_i e;cases h;exact⟨kr,by simp,e,hv⟩
     · obtain⟨kr',h1,h2⟩:=X6C h;exact⟨kr',List.mem_cons_of_mem _ h1,h2⟩
   · obtain⟨kr',h1,h2⟩:=X6C h;exact⟨kr',List.mem_cons_of_mem _ h1,h2⟩
theorem XgQ{rows rows':List (Nat×X0e)}{σ':Sg}{vs:List Value}{cs:List X00}(h:X0v (RdT σ rows M) vs cs):X0v (RdT σ' rows' M) vs (unC cs):=by
 induction h with
 | nil=>exact .nil
 | @cons v c vs cs hx hr ih=>
   cases c with
   | lst t l tag=>exact .cons ⟨hx.1,trivial⟩ ih
   | int k n=>exact .cons ⟨hx.1,trivial⟩ ih
   | bool b=>exact .cons ⟨hx.1,trivial⟩ ih
   | str s=>exact .cons ⟨hx.1,trivial⟩ ih
   | emp t=>exact .cons ⟨hx.1,hx.2⟩ ih
   | _=>exact .cons ⟨hx.1,trivial⟩ ih
theorem XaK{rows rows':List (Nat×X0e)}{σ':Sg}{v:Value}{cs:List X00}(h:X5B σ rows M v cs):X5B σ' rows' M v (unC cs):=by
 obtain⟨ad,hv,hc⟩:=h
 obtain⟨vs,h1,h2⟩:=X5w (σ:=σ) (rows:=rows) (ad:=ad) (cs:=cs) (o:=0) (by simpa using hc)
 refine⟨ad,hv,fun j c hj=>?_⟩
 obtain⟨u,hu,hr⟩:=(XgQ (σ':=σ') (rows':=rows') h1).get hj
 exact⟨u,by simpa using h2 j u hu,hr⟩
theorem X6j(kp:X8i)(ρ:List (Nat×Nat))(st:St)(i:Nat):∀l,look i (X8X kp ρ st l)=if i∈l then some (reS kp ρ st i (X4Q st.rows (st.get i))) else none
 | []=>rfl
 | s::l=>by
   simp only[X8X,X01,X6j kp ρ st i l,List.mem_cons]
   by_cases h:s=i
   · subst h;simp
   · simp[h,Ne.symm h]
theorem X3e(kp:X8i)(ρ:List (Nat×Nat))(st:St)(k:Nat):∀l,look k (X7P kp ρ st l)=if k∈l then(st.box k).map (fun cs=>Xhb kp ρ true k 0 (X4H st.rows cs)) else none
 | []=>rfl
 | b::l=>by
   simp only[X7P]
   cases hb:st.box b with
   | none=>
     rw[X3e kp ρ st k l]
     by_cases h:k=b
     · subst h;simp[hb]
     · simp[h]
   | some cs=>
     rw[X01,X3e kp ρ st k l]
     by_cases h:b=k
     · subst h;simp[hb]
     · simp[h,Ne.symm h]
end Go.Proofs.Ytegmokdppbagiaa.Bv
namespace Go.Proofs.Ytegmokdppbagiaa.Bv
variable {P:Program} {base:World} {M0:Mem} {ios:Ios} {σ:Sg} {M:Mem} {w:World} {a:Act} {st:St} {tab:Tab} {Γ:Gam}
noncomputable def X7w(σ:Sg)(w:World)(a:Act)(st:St)(rows:List X5i):Sg where
 box:=σ.box
 row:=fun k=>match X7U rows k with | some kr=>X8l σ w a kr | none=>σ.row k
 foot:=fun k=>match X7U rows k with | some kr=>(match X4T st kr with | .hot r _ _=>σ.foot r | _=>[]) | none=>[]
 mem:=fun k=>match X7U rows k with | some kr=>(match X4T st kr with | .hot r _ _=>σ.mem r | _=>fun _=>none) | none=>fun _=>none
structure RenF (tab:Tab) (σ:Sg) (w:World) (a:Act) (st:St) (rows:List X5i):Prop where
 keys:(rows.map (·.k)).Nodup
 hots:((rho st rows).map (·.1)).Nodup
 colds:(X44 st rows).Nodup
 ok:∀kr∈rows,Xe0 tab st kr=true
 row:∀kr∈rows,(X7w σ w a st rows).row kr.k=X8l σ w a kr
 hotv:∀kr∈rows,∀r t l,X4T st kr=.hot r t l→X8l σ w a kr=σ.row r∧(X7w σ w a st rows).foot kr.k=σ.foot r∧(X7w σ w a st rows).mem kr.k=σ.mem r
 nilv:∀kr∈rows,∀t,X4T st kr=.nil t→(∃ad,X8l σ w a kr=.slice ad 0 0)∧(X7w σ w a st rows).foot kr.k=[]∧(X7w σ w a st rows).mem kr.k=fun _=>none
 coldv:∀kr∈rows,∀r,X4T st kr=.cold r→r≠0∧st.row r=some kr.e∧X8l σ w a kr=σ.row r
 cnilv:∀kr∈rows,X4T st kr=.cnil→X8l σ w a kr=.slice none 0 0
theorem renF(hS:Sim P base M0 ios σ M w a st){kp:X8i}(h:X8y tab kp st=true):RenF tab σ w a st kp.rows:=by
 unfold X8y at h
 simp only[Bool.and_eq_true,List.all_eq_true]at h
 obtain⟨⟨⟨h1,h2⟩,h3⟩,h4⟩:=h
 have hk:=X2S h2
 have fk:=fun kr (hm:kr∈kp.rows)=>X9y hk hm
 refine⟨hk,X2S h3,X2S h4,h1,fun kr hm=>?_,fun kr hm r t l ho=>⟨?_,?_,?_⟩,fun kr hm t ho=>⟨?_,?_,?_⟩,fun kr hm r ho=>?_,fun kr hm ho=>?_⟩
 · simp only[X7w,fk kr hm]
 · have hs:=X2K st kr
   rw[ho]at hs
   obtain⟨_,hp,ver,z,hl⟩:=hs
   exact(X6r hS hp).2 (by rw[hl];rfl)
 · simp only[X7w,fk kr hm,ho]
 · simp only[X7w,fk kr hm,ho]
 · have hs:=X2K st kr
   rw[ho]at hs
   rcases hs.2 with hp | hp
   · exact⟨none,by have:=(X6r hS hp).2;simpa [X4R] using this⟩
   · exact(X6r hS hp).2
 · simp only[X7w,fk kr hm,ho]
 · simp only[X7w,fk kr hm,ho]
 · have hs:=X2K st kr
   rw[ho]at hs
   obtain⟨_,h0,t,l,hp,hr⟩:=hs
   refine⟨h0,hr,?_⟩
   have:=(X6r hS hp).2
   simp only[X4R,if_neg h0]at this
   obtain⟨rv,hl,_⟩:=X2p hr
   exact this (by rw[hl];rfl)
 · have hs:=X2K st kr
   rw[ho]at hs
   obtain⟨_,t,l,hp⟩:=hs
   have:=(X6r hS hp).2
   simpa [X4R] using this
theorem Xg9(hS:Sim P base M0 ios σ M w a st){rows:List X5i}(F:RenF tab σ w a st rows){rows':List (Nat×X0e)}{v:Value}{c:X00}(h:RdT σ st.rows M v c):RdT (X7w σ w a st rows) rows' M v (reC1 (rho st rows) c):=by
 have hk:∀{r k:Nat},look r (rho st rows)=some k→(X7w σ w a st rows).row k=σ.row r∧(look r st.rows).isSome=true:=fun {r k} hl=>by
  obtain⟨kr,hm,e,t,l,ho⟩:=Xaz hl
  subst e
  have hs:=X2K st kr
  rw[ho]at hs
  obtain⟨_,_,ver,z,hl⟩:=hs
  exact⟨by rw[F.row kr hm,(F.hotv kr hm r t l ho).1],by rw[hl];rfl⟩
 cases c with
 | lst t l tag=>exact⟨h.1,trivial⟩
 | int k n=>exact⟨h.1,trivial⟩
 | bool b=>exact⟨h.1,trivial⟩
 | str s=>exact⟨h.1,trivial⟩
 | emp t=>exact⟨h.1,h.2⟩
 | und=>exact⟨h.1,trivial⟩
 | bor t l r ver p=>exact⟨h.1,trivial⟩
 | own t r=>
   simp only[reC1]
   split
   · rename_i k hl
     obtain⟨e1,e2⟩:=hk hl
     exact⟨h.1,fun _=>by rw[e1];exact h.2 e2⟩
   · exact⟨h.1,trivial⟩
 | sub t r lo hi=>
   simp only[reC1]
   split
   · rename_i k hl
     obtain⟨e1,e2⟩:=hk hl
     exact⟨h.1,fun _=>by rw[e1];exact h.2 e2⟩
   · exact⟨h.1,trivial⟩
theorem Xga{rows:List X5i}(F:RenF tab σ w a st rows){kr:X5i}(hm:kr∈rows){rows':List (Nat×X0e)}{v:Value}{c:X00}(hp:X5Y st kr=some c)(hv:X8l σ w a kr=v)(h:RdT σ st.rows M v c):RdT (X7w σ w a st rows) rows' M v (XhK kr c):=by
 have hrow:v=(X7w σ w a st rows).row kr.k:=by rw[F.row kr hm,hv]
 have hk0:kr.k≠0:=by
  have:=F.ok kr hm
  simp only[Xe0,Bool.and_eq_true,Bool.not_eq_true',beq_eq_false_iff_ne]at this
  exact this.1
 have hown:∀t,v.oneCell'=true→RdT (X7w σ w a st rows) rows' M v (.own t kr.k):=fun t h1=>⟨h1,fun _=>hrow⟩
 have h1:v.oneCell'=true:=h.1.oneCell
 cases c with
 | own t r=>
   simp only[XhK]
   cases kr.hot
   · exact⟨h1,trivial⟩
   · exact hown t h1
 | emp t=>
   simp only[XhK]
   cases kr.hot
   · exact⟨h1,trivial⟩
   · exact hown t h1
 | lst t l tag=>
   simp only[XhK]
   cases kr.hot
   · refine⟨h.1,?_⟩
     simp only[cond_false,X4R,if_neg hk0]
     exact fun _=>hrow
   · exact hown t h1
 | _=>exact⟨h1,trivial⟩
theorem Xdj(hS:Sim P base M0 ios σ M w a st){kp:X8i}(F:RenF tab σ w a st kp.rows){rows':List (Nat×X0e)}{b:Bool}{s:Nat}{vs:List Value}{cs:List X00}(h:X0v (RdT σ st.rows M) vs cs):∀(i:Nat),
 (∀(j:Nat) (kr:X5i) (v:Value) (c:X00),vs[j]?=some v→cs[j]?=some c→kr∈kp.rows→kr.bx=b→kr.s=s→kr.i=i+j→X5Y st kr=some c∧X8l σ w a kr=v)→X0v (RdT (X7w σ w a st kp.rows) rows' M) vs (Xhb kp (rho st kp.rows) b s i cs):=by
 induction h with
 | nil=>intro i _;exact .nil
 | @cons v c vs cs hx hr ih=>
   intro i hk
   have ih':=ih (i+1) (fun j kr u d hu hd hm e1 e2 e3=>hk (j+1) kr u d (by simpa using hu) (by simpa using hd) hm e1 e2 (by omega))
   simp only[Xhb]
   refine .cons ?_ ih'
   split
   · rename_i kr hf
     obtain⟨hm,e1,e2,e3⟩:=XbV hf
     obtain⟨h1,h2⟩:=hk 0 kr v c (by simp) (by simp) hm e1 e2 (by omega)
     exact Xga F hm h1 h2 hx
   · exact Xg9 hS F hx
theorem Xad{kp:X8i}{σ':Sg}(hb:σ'.box=σ.box){rows':List (Nat×X0e)}{boxes':List (Nat×List X00)}(hbx:∀k,k∈kp.boxes→(st.box k).isSome=true→(look k boxes').isSome=true){vs:List Value}{l:List Cap}(h:X0v (X5v σ st.rows st.boxes M) vs l):∀{l'},X6b kp st l=some l'→X0v (X5v σ' rows' boxes' M) vs l':=by
 induction h with
 | nil=>intro l' e;cases e;exact .nil
 | @cons v c vs l hx hr ih=>
   intro l' e
   cases c with
   | box k off=>
     simp only[X6b]at e
     split at e
     · rename_i r hc h2
       cases e
       rw[Bool.and_eq_true]at hc
       exact .cons ⟨by rw[hb];exact hx.1,hbx k (by simpa using hc.1) hc.2⟩ (ih h2)
     · cases e
   | ptr cs=>
     simp only[X6b]at e
     split at e
     · rename_i r h2
       cases e
       exact .cons (XaK hx) (ih h2)
     · cases e
   | pp k off=>
     simp only[X6b]at e
     split at e
     · rename_i r hc h2
       cases e
       rw[Bool.and_eq_true]at hc
       obtain⟨ad,q1,q2,q3⟩:=hx
       exact .cons ⟨ad,q1,by rw[hb];exact q2,hbx k (by simpa using hc.1) hc.2⟩ (ih h2)
     · cases e
   | pptr cs=>
     simp only[X6b]at e
     split at e
     · rename_i r h2
       cases e
       obtain⟨ad,u,q1,q2,q3⟩:=hx
       exact .cons ⟨ad,u,q1,q2,XaK q3⟩ (ih h2)
     · cases e
theorem Sim.rename(hT:X0o P tab)(hS:Sim P base M0 ios σ M w a st){kp:X8i}(h:X8y tab kp st=true):∃σ',Sim P base M0 ios σ' M w a (Bv.rename kp st):=by
 have F:=renF hS h
 have hrowof:∀{k:Nat} {rv:X0e},look k (Xab st kp.rows)=some rv→∃kr∈kp.rows,kr.k=k∧XcP st kr=some rv:=fun hl=>X6C hl
 have hbox:∀k,((Bv.rename kp st).box k).isSome=true→(st.box k).isSome=true:=fun k hs=>by
  have e:(Bv.rename kp st).box k=if k∈kp.boxes then _ else none:=X3e kp _ st k kp.boxes
  rw[e]at hs
  split at hs
  · simpa using hs
  · cases hs
 have hhot:∀{k:Nat},X0q k (Bv.rename kp st).rows→∃kr∈kp.rows,kr.k=k∧((∃r t l,X4T st kr=.hot r t l∧X0q r st.rows∧(X7w σ w a st kp.rows).foot k=σ.foot r)∨(X7w σ w a st kp.rows).foot k=[]):=fun {k} ⟨e,t,l,ver,hole,z,hl⟩=>by
  obtain⟨kr,hm,ek,hrr⟩:=hrowof hl
  subst ek
  refine⟨kr,hm,rfl,?_⟩
  unfold XcP at hrr
  split at hrr
  · rename_i r t' l' ho
    have hs:=X2K st kr
    rw[ho]at hs
    obtain⟨_,_,ver,z,hl⟩:=hs
    exact .inl ⟨r,t',l',ho,⟨_,_,_,_,_,_,hl⟩,(F.hotv kr hm r t' l' ho).2.1⟩
  · rename_i t' ho;exact .inr (F.nilv kr hm t' ho).2.1
  · cases hrr
  · cases hrr
  · cases hrr
 have hcold:∀{k:Nat} {e:TypeId},(Bv.rename kp st).row k=some e→∃kr∈kp.rows,kr.k=k∧kr.e=e∧((∃r,X4T st kr=.cold r∧st.row r=some e∧(X7w σ w a st kp.rows).row k=σ.row r)∨((X7w σ w a st kp.rows).row k=.slice none 0 0∧(look e tab).isSome=true)):=fun {k e} hr=>by
  obtain⟨rv,hl,hc⟩:=X2p hr
  obtain⟨kr,hm,ek,hrr⟩:=hrowof hl
  subst ek
  unfold XcP at hrr
  split at hrr
  · cases hrr;cases hc
  · cases hrr;cases hc
  · rename_i r ho
    cases hrr;cases hc
    obtain⟨_,h2,h3⟩:=F.coldv kr hm r ho
    exact⟨kr,hm,rfl,rfl,.inl ⟨r,ho,h2,by rw[F.row kr hm,h3]⟩⟩
  · rename_i ho
    cases hrr;cases hc
    have hok:=F.ok kr hm
    simp only[Xe0,ho,Bool.and_eq_true]at hok
    exact⟨kr,hm,rfl,rfl,.inr ⟨by rw[F.row kr hm,F.cnilv kr hm ho],hok.2.2⟩⟩
  · cases hrr
 refine⟨X7w σ w a st kp.rows,?_⟩
 exact {
  mem:=hS.mem
  nt:=hS.nt
  slots:=fun i=>by
   have hget:(Bv.rename kp st).get i=if i∈kp.hold++kp.slots then reS kp (rho st kp.rows) st i (X4Q st.rows (st.get i)) else .und:=by
    simp only[St.get,Bv.rename,X6j]
    split
    · rename_i sv hs
      split at hs
      · rename_i hm;rw[if_pos hm];cases hs;rfl
      · cases hs
    · rename_i hs
      split at hs
      · cases hs
      · rename_i hm;rw[if_neg hm]
   rw[hget]
   split
   · have hs:=X94 hS (fun _ _ h=>h) (hS.slots i)
     have hbx:∀k,k∈kp.boxes→(st.box k).isSome=true→(look k (Bv.rename kp st).boxes).isSome=true:=fun k h1 h2=>by
      have e:look k (Bv.rename kp st).boxes=if k∈kp.boxes then _ else none:=X3e kp _ st k kp.boxes
      rw[e,if_pos h1];simpa using h2
     cases hg:X4Q st.rows (st.get i) with
     | und=>trivial
     | nil=>rw[hg]at hs;exact hs
     | tup l=>trivial
     | bptr cs r ver=>trivial
     | ptr cs=>rw[hg]at hs;exact XaK hs
     | pptr cs=>
       rw[hg]at hs
       obtain⟨ad,u,q1,q2,q3⟩:=hs
       exact⟨ad,u,q1,q2,XaK q3⟩
     | pp k off=>
       rw[hg]at hs
       obtain⟨ad,q1,q2,q3⟩:=hs
       simp only[reS]
       split
       · rename_i hc
         rw[Bool.and_eq_true]at hc
         exact⟨ad,q1,q2,hbx k (by simpa using hc.1) hc.2⟩
       · trivial
     | fn f x y=>
       rw[hg]at hs
       obtain⟨va,vb,hv,h1,h2⟩:=hs
       simp only[reS]
       split
       · rename_i x' y' e1 e2
         exact⟨va,vb,hv,Xad (σ:=σ) (σ':=X7w σ w a st kp.rows) rfl hbx h1 e1,Xad (σ:=σ) (σ':=X7w σ w a st kp.rows) rfl hbx h2 e2⟩
       · trivial
     | hp t r j off=>
       rw[hg]at hs
       simp only[reS]
       split
       · rename_i k hl
         obtain⟨kr,hm,e,t',l',ho⟩:=Xaz hl
         subst e
         have hsp:=X2K st kr
         rw[ho]at hsp
         obtain⟨_,_,ver,z,hl⟩:=hsp
         intro _
         rw[F.row kr hm,(F.hotv kr hm r t' l' ho).1]
         exact hs (by rw[hl];rfl)
       · trivial
     | box k off=>
       rw[hg]at hs
       simp only[reS]
       split
       · rename_i hc
         rw[Bool.and_eq_true]at hc
         exact⟨hs.1,hbx k (by simpa using hc.1) hc.2⟩
       · trivial
     | val ag cs=>
       rw[hg]at hs
       refine⟨Xdj hS F hs.1 0 (fun j kr v c hv hc hm e1 e2 e3=>?_),hs.2⟩
       rw[Nat.zero_add]at e3
       subst e2;subst e3
       constructor
       · unfold X5Y XgI
         rw[e1,hg];exact hc
       · unfold X8l
         rw[e1]
         exact X7N hv
   · trivial
  boxes:=fun k cs hk=>by
   have e:(Bv.rename kp st).box k=if k∈kp.boxes then _ else none:=X3e kp _ st k kp.boxes
   rw[e]at hk
   split at hk
   · cases hb:st.box k with
     | none=>rw[hb]at hk;cases hk
     | some cs'=>
       rw[hb]at hk
       cases hk
       obtain⟨arr,E,h1,h2⟩:=hS.boxes k cs' hb
       refine⟨arr,E,h1,Xdj hS F (X5z hS (fun _ _ h=>h) h2) 0 (fun j kr v c hv hc hm e1 e2 e3=>?_)⟩
       rw[Nat.zero_add]at e3
       subst e2;subst e3
       constructor
       · unfold X5Y XgX
         rw[e1,hb];exact hc
       · unfold X8l
         rw[e1]
         simp only
         rw[h1]
         exact X7N hv
   · cases hk
  boxM:=fun k hk=>hS.boxM k (hbox k hk)
  boxInj:=fun k k' h1 h2=>hS.boxInj k k' (hbox k h1) (hbox k' h2)
  boxBase:=fun k hk=>hS.boxBase k (hbox k hk)
  rows:=fun k e hr=>by
   obtain⟨kr,hm,ek,ee,hv⟩:=hcold hr
   rcases hv with⟨r,_,h1,h2⟩ | ⟨h1,h2⟩
   · rw[h2];exact hS.rows r e h1
   · rw[h1]
     obtain⟨te,hte⟩:=Option.isSome_iff_exists.1 h2
     obtain⟨inf,z,hi,_⟩:=(hT e te hte).info
     exact⟨⟨0,[],inf,hi,X2B.nil _ _ _,fun g hg=>by cases hg⟩⟩
  rowBox:=fun k b hr hb=>by
   obtain⟨e,he⟩:=Option.isSome_iff_exists.1 hr
   obtain⟨kr,hm,ek,ee,hv⟩:=hcold he
   rcases hv with⟨r,_,h1,h2⟩ | ⟨h1,_⟩
   · rw[h2];exact hS.rowBox r b (by rw[h1];rfl) (hbox b hb)
   · rw[h1];intro h2;cases h2
  rowInj:=fun k k' h1 h2 hne=>by
   obtain⟨e,he⟩:=Option.isSome_iff_exists.1 h1
   obtain⟨e',he'⟩:=Option.isSome_iff_exists.1 h2
   obtain⟨kr,hm,ek,ee,hv⟩:=hcold he
   obtain⟨kr',hm',ek',ee',hv'⟩:=hcold he'
   rcases hv with⟨r,ho,hre,hv⟩ | ⟨hv,_⟩
   · rcases hv' with⟨r',ho',hre',hv'⟩ | ⟨hv',_⟩
     · rw[hv,hv']
       refine hS.rowInj r r' (by rw[hre];rfl) (by rw[hre'];rfl) (fun e2=>?_)
       subst e2
       have:=Xdd F.colds hm hm' ho ho'
       subst this
       exact hne (ek.symm.trans ek')
     · rw[hv,hv']
       cases hb:(σ.row r).ownBlock with
       | none=>exact .inl rfl
       | some g=>right;intro h3;cases h3
   · rw[hv];exact .inl rfl
  hot:={
   ok:=fun k e t l ver hole z hl=>by
    obtain⟨kr,hm,ek,hrr⟩:=hrowof hl
    subst ek
    have hok:=F.ok kr hm
    unfold XcP at hrr
    split at hrr
    · rename_i r t' l' ho
      cases hrr
      obtain⟨v1,v2,v3⟩:=F.hotv kr hm r _ _ ho
      have hs:=X2K st kr
      rw[ho]at hs
      obtain⟨_,_,ver',z',hl'⟩:=hs
      have hk:=hS.hotAt hl'
      have hrow:=F.row kr hm
      rw[v1]at hrow
      exact {
       info:=hk.info
       pos:=hk.pos
       own:=by show X1V w t ((X7w σ w a st kp.rows).row kr.k) l ((X7w σ w a st kp.rows).foot kr.k);rw[hrow,v2];exact hk.own
       nodup:=by rw[v2];exact hk.nodup
       mem:=fun ad u hu=>by rw[v3]at hu;rw[v2,hrow];exact hk.mem ad u hu
       full:=fun _ ad u h1 h2 h3=>by rw[v2]at h1;rw[hrow]at h2;rw[v3];exact hk.full rfl ad u h1 h2 h3
       z:=fun h=>by cases h}
    · rename_i t' ho
      cases hrr
      obtain⟨⟨ad,v1⟩,v2,v3⟩:=F.nilv kr hm _ ho
      have hrow:=F.row kr hm
      rw[v1]at hrow
      simp only[Xe0,ho,Bool.and_eq_true]at hok
      have hok2:=hok.2.2
      split at hok2
      · rename_i te hte
        simp only[Bool.and_eq_true,decide_eq_true_eq]at hok2
        obtain⟨i,zz,hi,hs,_⟩:=(hT _ te hte).info
        exact {
         info:=⟨i,hi,by rw[hs,hok2.1]⟩
         pos:=hok2.2
         own:=by show X1V w t ((X7w σ w a st kp.rows).row kr.k) [] ((X7w σ w a st kp.rows).foot kr.k);rw[hrow,v2];exact X1V.emp ad
         nodup:=by rw[v2];exact List.nodup_nil
         mem:=fun ad u hu=>by rw[v3]at hu;cases hu
         full:=fun _ ad u h1 h2 h3=>by rw[v2]at h1;cases h1
         z:=fun h=>by cases h}
      · cases hok2
    · cases hrr
    · cases hrr
    · cases hrr
   base:=fun k hk g hg=>by
    obtain⟨kr,hm,ek,hv⟩:=hhot hk
    rcases hv with⟨r,t,l,ho,hr,hf⟩ | hf
    · rw[hf]at hg;exact hS.hot.base r hr g hg
    · rw[hf]at hg;cases hg
   noM:=fun k hk g hg=>by
    obtain⟨kr,hm,ek,hv⟩:=hhot hk
    rcases hv with⟨r,t,l,ho,hr,hf⟩ | hf
    · rw[hf]at hg;exact hS.hot.noM r hr g hg
    · rw[hf]at hg;cases hg
   noBox:=fun k hk b hb hg=>by
    obtain⟨kr,hm,ek,hv⟩:=hhot hk
    rcases hv with⟨r,t,l,ho,hr,hf⟩ | hf
    · rw[hf]at hg;exact hS.hot.noBox r hr b (hbox b hb) hg
    · rw[hf]at hg;cases hg
   noRow:=fun k hk k' hk' g hg hgf=>by
    obtain⟨kr,hm,ek,hv⟩:=hhot hk
    obtain⟨e',he'⟩:=Option.isSome_iff_exists.1 hk'
    obtain⟨kr',hm',ek',ee',hv'⟩:=hcold he'
    rcases hv' with⟨r',_,hr',hv'⟩ | ⟨hv',_⟩
    · rw[hv']at hg
      rcases hv with⟨r,t,l,ho,hr,hf⟩ | hf
      · rw[hf]at hgf;exact hS.hot.noRow r hr r' (by rw[hr'];rfl) g hg hgf
      · rw[hf]at hgf;cases hgf
    · rw[hv']at hg;cases hg
   apart:=fun k k' hk hk' hne g hg hg'=>by
    obtain⟨kr,hm,ek,hv⟩:=hhot hk
    obtain⟨kr',hm',ek',hv'⟩:=hhot hk'
    rcases hv with⟨r,t,l,ho,hr,hf⟩ | hf
    · rcases hv' with⟨r',t',l',ho',hr',hf'⟩ | hf'
      · rw[hf]at hg
        rw[hf']at hg'
        refine hS.hot.apart r r' hr hr' (fun e=>?_) g hg hg'
        subst e
        have:=Xf0 F.hots hm hm' ho ho'
        subst this
        exact hne (ek.symm.trans ek')
      · rw[hf']at hg';cases hg'
    · rw[hf]at hg;cases hg
   lt:=fun k hk g hg=>by
    obtain⟨kr,hm,ek,hv⟩:=hhot hk
    rcases hv with⟨r,t,l,ho,hr,hf⟩ | hf
    · rw[hf]at hg;exact hS.hot.lt r hr g hg
    · rw[hf]at hg;cases hg
   frz:=fun k e t l ver z hl=>by
    obtain⟨kr,hm,ek,hrr⟩:=hrowof hl
    unfold XcP at hrr
    split at hrr<;>cases hrr}
  fr:=hS.fr
  defers:=hS.defers
  old:=hS.old
  le:=hS.le
  pin:=hS.pin
  pins:=fun p hp hs=>by
   obtain⟨rv,hl⟩:=Option.isSome_iff_exists.1 hs
   obtain⟨kr,hm,ek,hrr⟩:=hrowof hl
   have heven:=ios.even p hp
   have hok:=F.ok kr hm
   have hrow:=F.row kr hm
   rw[←ek]
   rw[hrow]
   rw[←ek]at heven
   simp only[Xe0,Bool.and_eq_true]at hok
   have hok2:=hok.2
   have hsp:=X2K st kr
   cases ho:X4T st kr with
   | bad=>rw[ho]at hok2;cases hok2
   | nil t=>rw[ho]at hok2;simp only[Bool.and_eq_true,beq_iff_eq]at hok2;omega
   | cnil=>rw[ho]at hok2;simp only[Bool.and_eq_true,beq_iff_eq]at hok2;omega
   | hot r t l=>
     rw[ho]at hok2 hsp
     simp only[Bool.or_eq_true,beq_iff_eq]at hok2
     obtain⟨_,_,ver,z,hl'⟩:=hsp
     have e:r=kr.k:=by omega
     rw[(F.hotv kr hm r t l ho).1,e]
     have:=hS.pins p hp (by rw[←ek,←e,hl'];rfl)
     rw[←ek]at this;exact this
   | cold r=>
     rw[ho]at hok2
     simp only[Bool.and_eq_true,Bool.or_eq_true,beq_iff_eq]at hok2
     have e:r=kr.k:=by omega
     obtain⟨_,h2,h3⟩:=F.coldv kr hm r ho
     rw[h3,e]
     obtain⟨rv',hl',_⟩:=X2p h2
     have:=hS.pins p hp (by rw[←ek,←e,hl'];rfl)
     rw[←ek]at this;exact this
  olds:=fun i hi=>by cases hi}
theorem Sim.weaken(hT:X0o P tab)(hS:Sim P base M0 ios σ M w a st){kp:X8i}(h:Xel tab kp st=true):∃σ' M',Sim P base M0 ios σ' M' w a (Bv.weaken kp st):=by
 unfold Xel at h
 rw[Bool.and_eq_true]at h
 obtain⟨h1,h2⟩:=h
 have hfz:∀p∈XfS kp st,∃e t l ver z,p.2=.frz e t l ver z∧look p.1 st.rows=some (.hot e t l ver none z):=fun p hp=>X95 hp
 obtain⟨M',hS'⟩:=hS.freezes hfz (X2S h1)
 have:ready kp st=X2h (XfS kp st) st:=by
  unfold ready
  split
  · rename_i he;rw[he];rfl
  · rfl
 unfold Bv.weaken
 rw[this]at h2 ⊢
 obtain⟨σ',hS2⟩:=hS'.rename hT h2
 exact⟨σ',M',hS2⟩
end Go.Proofs.Ytegmokdppbagiaa.Bv
namespace Go.Proofs.Ytegmokdppbagiaa.Bv
structure X0i where
 kp:X8i
 T:Ty
 I:St→El T→Prop
 μ:St→El T→Nat
def Xa8(st:St)(s i:Nat):Option X00:=match st.get s with
 | .val _ cs=>cs[i]?
 | .ptr cs=>cs[i]?
 | _=>none
def Xhj:Option X00→Int
 | some (.int _ n)=>n
 | _=>0
def X9c:X00→Bool
 | .int ..=>true
 | .bool _=>true
 | .str _=>true
 | .lst ..=>true
 | _=>false
def X98:List X00→List X00
 | []=>[]
 | c::l=>match X9c c with
   | true=>c::X98 l
   | false=>X98 l
def X9i(s:St):List Nat→Option (List X00)
 | []=>some []
 | i::l=>match s.get i,X9i s l with
   | .val _ cs,some r=>some (X98 cs++r)
   | _,_=>none
def X8U(s:St):List Nat→Option (List X00)
 | []=>some []
 | b::l=>match s.box b,X8U s l with
   | some cs,some r=>some (X98 cs++r)
   | _,_=>none
def X9q(s:St):List X5i→Option (List X00)
 | []=>some []
 | kr::l=>match look kr.k s.rows,X9q s l with
   | some (.hot _ t l _ _ _),some r=>some (.lst t l none::r)
   | some (.cold _),some r=>some r
   | _,_=>none
def Xen(kp:X8i)(s:St):Option (List X00):=match X9i s kp.slots,X8U s kp.boxes,X9q s kp.rows with
 | some a,some b,some c=>some (a++(b++c))
 | _,_,_=>none
def XeR:X00→X00→Option X00
 | .int k _,.int k' n=>if k=k' then some (.int k n) else none
 | .bool _,.bool b=>some (.bool b)
 | .str _,.str s=>some (.str s)
 | .lst t _ tag,.lst t' l _=>if t=t' then some (.lst t' l tag) else none
 | _,_=>none
def X90:List X00→List X00→Option (List X00×List X00)
 | [],cs=>some ([],cs)
 | c::sh,cs=>match X9c c with
   | true=>match cs with
     | v::cs=>match XeR c v,X90 sh cs with
       | some c',some (r,cs')=>some (c'::r,cs')
       | _,_=>none
     | []=>none
   | false=>match X90 sh cs with
     | some (r,cs')=>some (c::r,cs')
     | none=>none
def Xg5(s0:St):List Nat→List X00→Option (List (Nat×Sv)×List X00)
 | [],cs=>some ([],cs)
 | s::l,cs=>match s0.get s with
   | .val ag sh=>match X90 sh cs with
     | some (c,r)=>match Xg5 s0 l r with
       | some (sl,r')=>some ((s,.val ag c)::sl,r')
       | none=>none
     | none=>none
   | _=>none
def XfR(s0:St):List Nat→List X00→Option (List (Nat×List X00)×List X00)
 | [],cs=>some ([],cs)
 | b::l,cs=>match s0.box b with
   | some sh=>match X90 sh cs with
     | some (c,r)=>match XfR s0 l r with
       | some (sl,r')=>some ((b,c)::sl,r')
       | none=>none
     | none=>none
   | _=>none
def XdC(s0:St):List X5i→List X00→Option (List (Nat×X0e)×List X00)
 | [],cs=>some ([],cs)
 | kr::l,cs=>match look kr.k s0.rows with
   | some (.hot e t _ ver hole z)=>match cs with
     | .lst t' x _::cs=>match decide (t'=t),XdC s0 l cs with
       | true,some (sl,r)=>some ((kr.k,.hot e t' x ver hole z)::sl,r)
       | _,_=>none
     | _=>none
   | some (.cold e)=>match XdC s0 l cs with
     | some (sl,r)=>some ((kr.k,.cold e)::sl,r)
     | none=>none
   | _=>none
def X77(s:St):List Nat→List (Nat×Sv)
 | []=>[]
 | i::l=>(i,s.get i)::X77 s l
def Xbo(kp:X8i)(s0:St)(cs:List X00):Option St:=match Xg5 s0 kp.slots cs with
 | some (sl,r)=>match XfR s0 kp.boxes r with
   | some (bx,r')=>match XdC s0 kp.rows r' with
     | some (rw,[])=>some {nt:=s0.nt,slots:=X77 s0 kp.hold++sl,boxes:=bx,rows:=rw}
     | _=>none
   | _=>none
 | none=>none
def Xev:X00→X00→Bool
 | .int k _,.int k' _=>decide (k=k')
 | .bool _,.bool _=>true
 | .str _,.str _=>true
 | .lst t _ tag,.lst t' _ tag'=>decide (t=t')&&decide (tag=tag')
 | .own t r,.own t' r'=>decide (t=t')&&decide (r=r')
 | .sub t r lo hi,.sub t' r' lo' hi'=>decide (t=t')&&decide (r=r')&&decide (lo=lo')&&decide (hi=hi')
 | .emp t,.emp t'=>decide (t=t')
 | .und,.und=>true
 | _,_=>false
def X9w:List X00→List X00→Bool
 | [],[]=>true
 | a::l,b::r=>Xev a b&&X9w l r
 | _,_=>false
def Xew:Sv→Sv→Bool
 | .val ag cs,.val ag' cs'=>decide (ag=ag')&&X9w cs cs'
 | _,_=>false
def XeN(s0 s:St):List Nat→Bool
 | []=>true
 | i::l=>Xew (s0.get i) (s.get i)&&XeN s0 s l
def Xes(s0 s:St):List Nat→Bool
 | []=>true
 | b::l=>(match s0.box b,s.box b with
   | some c,some c'=>X9w c c'
   | _,_=>false)&&Xes s0 s l
def Xeb(s0 s:St):List X5i→Bool
 | []=>true
 | kr::l=>(match look kr.k s0.rows,look kr.k s.rows with
   | some (.hot e t _ ver hole z),some (.hot e' t' _ ver' hole' z')=>decide (e=e')&&decide (t=t')&&decide (ver=ver')&&decide (hole=hole')&&decide (z=z')
   | some (.cold e),some (.cold e')=>decide (e=e')
   | _,_=>false)&&Xeb s0 s l
def Xfw(tab:Tab)(an:X0i)(s0 st:St)(Z:El an.T→Prop):Prop:=
 match Xel tab an.kp st with
 | true=>
   let s:=weaken an.kp st
   match decide (s0.nt=s.nt)&&XeN s0 s an.kp.slots&&Xes s0 s an.kp.boxes&&Xeb s0 s an.kp.rows,Xen an.kp s with
   | true,some cs=>match X0B an.T cs with
     | some (y,[])=>X77 s0 an.kp.hold=X77 s an.kp.hold∧Z y
     | _=>False
   | _,_=>False
 | false=>False
def Xhk(an:X0i)(s0:St)(x:El an.T)(F:St→Prop):Prop:=match Xbo an.kp s0 (flat an.T x) with
 | some st=>F st
 | none=>False
theorem XcI{c d:X00}(h:Xev c d=true)(hl:X9c d=true):XeR c (unT d)=some d∧X9c c=true:=by
 cases c<;>cases d<;>simp[Xev]at h<;>simp[X9c]at hl
 all_goals simp[XeR,unT,h,X9c]
theorem Xdx{c d:X00}(h:Xev c d=true)(hl:X9c d=false):c=d∧X9c c=false:=by
 cases c<;>cases d<;>simp[Xev]at h<;>simp[X9c]at hl
 all_goals simp[h,X9c]
theorem X5K:∀{sh ds:List X00} (r:List X00),X9w sh ds=true→X90 sh ((X98 ds).map unT++r)=some (ds,r)
 | [],[],r,_=>rfl
 | c::sh,[],r,h=>by simp[X9w]at h
 | [],d::ds,r,h=>by simp[X9w]at h
 | c::sh,d::ds,r,h=>by
   simp only[X9w,Bool.and_eq_true]at h
   cases hl:X9c d with
   | true=>
     obtain⟨h1,h2⟩:=XcI h.1 hl
     simp only[X98,hl,List.map_cons,List.cons_append,X90,h2,h1,X5K r h.2]
   | false=>
     obtain⟨h1,h2⟩:=Xdx h.1 hl
     simp only[X98,hl,X90,h2,X5K r h.2,h1]
theorem X9X{s0 s:St}:∀{l:List Nat} {cs:List X00} (r:List X00),XeN s0 s l=true→X9i s l=some cs→Xg5 s0 l (cs.map unT++r)=some (X77 s l,r)
 | [],cs,r,_,e=>by simp only[X9i,Option.some.injEq]at e;subst e;rfl
 | i::l,cs,r,h,e=>by
   simp only[XeN,Bool.and_eq_true]at h
   simp only[X9i]at e
   split at e
   · rename_i ag c r' h1 h2
     cases e
     have hs:=h.1
     rw[h1]at hs
     cases hw:s0.get i with
     | val ag' sh=>
       rw[hw]at hs
       simp only[Xew,Bool.and_eq_true,decide_eq_true_eq]at hs
       obtain⟨rfl,hs⟩:=hs
       simp only[Xg5,hw,List.map_append,List.append_assoc,X5K _ hs,X9X r h.2 h2,X77,h1]
     | _=>rw[hw]at hs;simp[Xew]at hs
   · cases e
def XaI(s:St):List Nat→List (Nat×List X00)
 | []=>[]
 | b::l=>match s.box b with
   | some cs=>(b,cs)::XaI s l
   | none=>XaI s l
theorem X9Z{s0 s:St}:∀{l:List Nat} {cs:List X00} (r:List X00),Xes s0 s l=true→X8U s l=some cs→XfR s0 l (cs.map unT++r)=some (XaI s l,r)
 | [],cs,r,_,e=>by simp only[X8U,Option.some.injEq]at e;subst e;rfl
 | b::l,cs,r,h,e=>by
   simp only[Xes,Bool.and_eq_true]at h
   simp only[X8U]at e
   split at e
   · rename_i c r' h1 h2
     cases e
     have hs:=h.1
     rw[h1]at hs
     cases hw:s0.box b with
     | some sh=>
       rw[hw]at hs
       simp only at hs
       simp only[XfR,hw,List.map_append,List.append_assoc,X5K _ hs,X9Z r h.2 h2,XaI,h1]
     | none=>rw[hw]at hs;cases hs
   · cases e
def X9J(s:St):List X5i→List (Nat×X0e)
 | []=>[]
 | kr::l=>match look kr.k s.rows with
   | some rv=>(kr.k,rv)::X9J s l
   | none=>X9J s l
theorem X7J{s0 s:St}:∀{l:List X5i} {cs:List X00} (r:List X00),Xeb s0 s l=true→X9q s l=some cs→XdC s0 l (cs.map unT++r)=some (X9J s l,r)
 | [],cs,r,_,e=>by simp only[X9q,Option.some.injEq]at e;subst e;rfl
 | kr::l,cs,r,h,e=>by
   simp only[Xeb,Bool.and_eq_true]at h
   simp only[X9q]at e
   split at e
   · rename_i e1 t x v ho z r' h1 h2
     cases e
     have hs:=h.1
     rw[h1]at hs
     split at hs
     · rename_i e0 t0 x0 v0 ho0 z0 e' t' x' v' ho' z' h3 h4
       cases h4
       simp only[Bool.and_eq_true,decide_eq_true_eq]at hs
       obtain⟨⟨⟨⟨q1,q2⟩,q3⟩,q4⟩,q5⟩:=hs
       subst q1;subst q2;subst q3;subst q4;subst q5
       simp only[List.map_cons,unT,List.cons_append,XdC,h3,decide_true,X7J r h.2 h2,X9J,h1]
     · rename_i h4;cases h4
     · cases hs
   · rename_i e1 r' h1 h2
     cases e
     have hs:=h.1
     rw[h1]at hs
     split at hs
     · rename_i h4;cases h4
     · rename_i e0 e2 h3 h4
       simp only[Option.some.injEq,X0e.cold.injEq]at h4
       subst h4
       have hs:=of_decide_eq_true hs
       subst hs
       simp only[XdC,h3,X7J r h.2 h2,X9J,h1]
     · cases hs
   · cases e
theorem X9U(s:St)(i:Nat):∀l,look i (X77 s l)=if i∈l then some (s.get i) else none
 | []=>rfl
 | j::l=>by
   simp only[X77,X01,X9U s i l,List.mem_cons]
   by_cases h:j=i
   · subst h;simp
   · simp[h,Ne.symm h]
theorem X7R(s:St)(k:Nat):∀l,look k (XaI s l)=if k∈l then s.box k else none
 | []=>rfl
 | b::l=>by
   simp only[XaI]
   cases hb:s.box b with
   | none=>
     rw[X7R s k l]
     by_cases h:k=b
     · subst h;simp[hb]
     · simp[h]
   | some cs=>
     rw[X01,X7R s k l]
     by_cases h:b=k
     · subst h;simp[hb]
     · simp[h,Ne.symm h]
theorem X7H(s:St)(k:Nat):∀(l:List X5i),look k (X9J s l)=if k∈l.map (·.k) then look k s.rows else none
 | []=>rfl
 | kr::l=>by
   simp only[X9J]
   cases hb:look kr.k s.rows with
   | none=>
     rw[X7H s k l]
     by_cases h:k=kr.k
     · subst h;simp[hb]
     · simp[h]
   | some cs=>
     rw[X01,X7H s k l]
     by_cases h:kr.k=k
     · subst h;simp[hb]
     · simp[h,Ne.symm h]
theorem Xca{kp:X8i}{s0 st s:St}{cs:List X00}(hs:s=weaken kp st)(hnt:s0.nt=s.nt)(h1:XeN s0 s kp.slots=true)(h2:Xes s0 s kp.boxes=true)(h3:Xeb s0 s kp.rows=true)(hc:Xen kp s=some cs)(hh:X77 s0 kp.hold=X77 s kp.hold):∃s',Xbo kp s0 (cs.map unT)=some s'∧Ext s s':=by
 unfold Xen at hc
 split at hc
 · rename_i ca cb cr ha hb hr
   cases hc
   have e3:=X7J [] h3 hr
   rw[List.append_nil]at e3
   refine⟨{nt:=s0.nt,slots:=X77 s0 kp.hold++X77 s kp.slots,boxes:=XaI s kp.boxes,rows:=X9J s kp.rows},?_,?_⟩
   · unfold Xbo
     rw[List.map_append,X9X _ h1 ha,List.map_append]
     simp only[X9Z _ h2 hb,e3]
   · subst hs
     refine⟨hnt.symm,fun i=>?_,fun k=>?_,fun r=>?_,fun i=>Iff.rfl⟩
     · have e:(⟨s0.nt,X77 s0 kp.hold++X77 (weaken kp st) kp.slots,XaI (weaken kp st) kp.boxes,X9J (weaken kp st) kp.rows,[]⟩:St).get i=if i∈kp.hold++kp.slots then(weaken kp st).get i else .und:=by
        simp only[St.get,hh,X20,X9U,List.mem_append]
        by_cases m1:i∈kp.hold
        · simp[m1]
        · by_cases m2:i∈kp.slots
          · simp[m1,m2]
          · simp[m1,m2]
       rw[e]
       by_cases m:i∈kp.hold++kp.slots
       · rw[if_pos m]
       · rw[if_neg m]
         show(match look i (X8X kp (rho (ready kp st) kp.rows) (ready kp st) (kp.hold++kp.slots)) with | some sv=>sv | none=>.und)=_
         rw[X6j,if_neg m]
     · show look k (weaken kp st).boxes=look k (XaI (weaken kp st) kp.boxes)
       rw[X7R]
       split
       · rfl
       · rename_i m
         show look k (X7P kp _ _ kp.boxes)=_
         rw[X3e,if_neg m]
     · show look r (weaken kp st).rows=look r (X9J (weaken kp st) kp.rows)
       rw[X7H]
       split
       · rfl
       · rename_i m
         cases hl:look r (weaken kp st).rows with
         | none=>rfl
         | some rv=>
           obtain⟨kr,hm,e,_⟩:=X6C hl
           exact absurd (List.mem_map.2 ⟨kr,hm,e⟩) m
 · cases hc
variable {P:Program} {base:World} {M0:Mem} {ios:Ios} {σ:Sg} {M:Mem} {w:World} {a:Act} {st:St} {tab:Tab} {Γ:Gam}
theorem X8F(hT:X0o P tab){an:X0i}{s0:St}{Z:El an.T→Prop}(h:Xfw tab an s0 st Z)(hS:Sim P base M0 ios σ M w a st):
 ∃y s σ' M',Z y∧Xbo an.kp s0 (flat an.T y)=some s∧Sim P base M0 ios σ' M' w a s:=by
 unfold Xfw at h
 split at h
 · rename_i hk
   simp only at h
   split at h
   · rename_i cs hb hl
     split at h
     · rename_i y hy
       simp only[Bool.and_eq_true,decide_eq_true_eq]at hb
       obtain⟨⟨⟨hnt,h1⟩,h2⟩,h3⟩:=hb
       have hu:=X21 _ _ _ _ hy
       simp only[List.map_nil,List.append_nil]at hu
       obtain⟨σ',M',hS'⟩:=hS.weaken hT hk
       obtain⟨s',e1,e2⟩:=Xca rfl hnt h1 h2 h3 hl h.1
       exact⟨y,s',σ',M',h.2,by rw[←hu];exact e1,hS'.ext e2⟩
     · exact h.elim
   · exact h.elim
 · exact h.elim
def Xhn(tab:Tab)(an:X0i)(st:St)(Z:St→El an.T→Prop):Prop:=Xfw tab an (weaken an.kp st) st (Z (weaken an.kp st))
end Go.Proofs.Ytegmokdppbagiaa.Bv
namespace Go.Proofs.Ytegmokdppbagiaa.Bv
inductive Ex where
 | normal
 | exit (id:Nat)
 | ret
def XhE(next:St→Prop)(K:Ex→St→Prop):Ex→St→Prop
 | .normal,st=>next st
 | .exit id,st=>K (.exit id) st
 | .ret,st=>K .ret st
def Xgi(id:Nat)(K:Ex→St→Prop):Ex→St→Prop
 | .exit id',st=>if id'=id then K .normal st else K (.exit id') st
 | .normal,st=>K .normal st
 | .ret,st=>K .ret st
def Xg6(Γ:Gam)(ops:List Oper)(st:St):List Nat:=match Γ.tk with
 | []=>[]
 | tk=>ops.flatMap fun o=>match o.op,o.dst with
   | .move x,some d=>match tk.contains (d+1000000),(X17 st x).sv with
     | true,.val false [.own _ r]=>[r]
     | _,_=>[]
   | _,_=>[]
def XfI(K:St→Prop):List Nat→St→Prop
 | [],st=>K st
 | r::l,st=>match look r st.rows with
   | some (.hot e t L ver none _)=>0<L.length∧XfI K l {st with rows:=(r,.frz e t L ver true)::st.rows}
   | _=>False
def vc(tab:Tab)(Γ:Gam)(L:Nat→Option X0i):Code→Nat→St→(Ex→St→Prop)→Prop
 | .skip,_,st,K=>K .normal st
 | .region _ ops false,_,st,K=>match X8e st.nt ops.toList with
   | true=>X9B tab Γ ops.toList ops.toList st (K .normal)
   | false=>False
 | .region _ ops true,_,st,K=>match X8e st.nt ops.toList with
   | true=>XfI (fun st=>Xhq tab Γ ops.toList st (K .normal)) (Xg6 Γ ops.toList st) st
   | false=>False
 | .seq x y,p,st,K=>vc tab Γ L x (2*p) st (XhE (fun st'=>vc tab Γ L y (2*p+1) st' K) K)
 | .cond c x y,p,st,K=>match (X17 st c).sv with
   | .val false [.bool b]=>X02 b (vc tab Γ L x (2*p) st K) (vc tab Γ L y (2*p+1) st K)
   | _=>False
 | .block id c,p,st,K=>vc tab Γ L c (2*p) st (Xgi id K)
 | .loop c,p,st,K=>match L p with
   | some an=>Xhn tab an st fun s0 x0=>an.I st x0∧∀x,an.I st x→Xhk an s0 x fun s=>
      vc tab Γ L c (2*p) s (XhE (fun st'=>Xfw tab an s0 st' fun y=>an.I st y∧an.μ st y<an.μ st x) K)
   | none=>False
 | .exit id,_,st,K=>K (.exit id) st
 | .ret,_,st,K=>K .ret st
 | _,_,_,_=>False
def Xhl:Ex→Exit
 | .normal=>.normal
 | .exit id=>.exit id
 | .ret=>.ret
variable {P:Program} {base:World} {M0:Mem} {ios:Ios} {σ:Sg} {M:Mem} {w:World} {a:Act} {st:St} {tab:Tab} {Γ:Gam}
theorem Xho{α:Type}(R:α→Prop)(μ:α→Nat):∀n x,R x→μ x≤n→∃x,R x∧∀y,R y→μ x≤μ y:=by
 intro n
 induction n with
 | zero=>intro x hx hn;exact⟨x,hx,fun y _=>by omega⟩
 | succ n ih=>
   intro x hx hn
   by_cases h:∃y,R y∧μ y≤n
   · obtain⟨y,hy,hyn⟩:=h;exact ih y hy hyn
   · refine⟨x,hx,fun y hy=>?_⟩
     rcases Nat.lt_or_ge n (μ y) with h1 | h1
     · omega
     · exact absurd ⟨y,hy,h1⟩ h
open Classical in
theorem XcD{α:Type}{c:Code}{Q:Exit→Act→World→Prop}(R:α→Act→World→Prop)(μ:α→Nat){x:α}(h0:R x a w)(round:∀x a w,R x a w→c.wp P (Exit.then (fun a' w'=>∃y,R y a' w'∧μ y<μ x) Q) a w):(Code.loop c).wp P Q a w:=by
 let m:Act→World→Nat:=fun a w=>if h:∃x,R x a w∧∀y,R y a w→μ x≤μ y then μ h.choose else 0
 refine wp_loop (fun a w=>∃x,R x a w) m ⟨x,h0⟩ fun a w ⟨x,hx⟩=>?_
 have hl:=Xho (fun x=>R x a w) μ _ x hx (Nat.le_refl _)
 have hm:m a w=μ hl.choose:=dif_pos hl
 refine wp_mono (round hl.choose a w hl.choose_spec.1) fun e a' w' hq=>?_
 cases e with
 | normal=>
   obtain⟨y,hy,hlt⟩:=hq
   refine⟨⟨y,hy⟩,?_⟩
   have hl':=Xho (fun x=>R x a' w') μ _ y hy (Nat.le_refl _)
   have hm':m a' w'=μ hl'.choose:=dif_pos hl'
   rw[hm,hm']
   exact Nat.lt_of_le_of_lt (hl'.choose_spec.2 y hy) hlt
 | _=>exact hq
theorem Xbe{K:St→Prop}:∀(l:List Nat) {st:St} {M:Mem},Sim P base M0 ios σ M w a st→XfI K l st→∃M' st',Sim P base M0 ios σ M' w a st'∧st'.nt=st.nt∧K st'
 | [],st,M,hS,h=>⟨M,st,hS,rfl,h⟩
 | r::l,st,M,hS,h=>by
   unfold XfI at h
   split at h
   · rename_i e t L ver z hl
     obtain⟨M',st',h1,h2,h3⟩:=Xbe l (hS.freezeZ (z2:=true) hl fun _=>.inr fun e=>by rw[e]at h;exact absurd h.1 (by simp)) h.2
     exact⟨M',st',h1,h2,h3⟩
   · exact h.elim
theorem XfW{L:Nat→Option X0i}(hm:P.follows .mixedOrders=true)(hT:X0o P tab)(hΓ:X6Z P Γ):∀(c:Code) (p:Nat) (st:St) (K:Ex→St→Prop) (Q:Exit→Act→World→Prop) (σ:Sg) (M:Mem) (w:World) (a:Act),Sim P base M0 ios σ M w a st→
 (∀e σ' M' w' a' st',Sim P base M0 ios σ' M' w' a' st'→K e st'→Q (Xhl e) a' w')→vc tab Γ L c p st K→c.wp P Q a w:=by
 intro c
 induction c with
 | skip=>intro p st K Q σ M w a hS hq h;exact wp_skip (hq .normal _ _ _ _ _ hS h)
 | region id ops draw=>
   intro p st K Q σ M w a hS hq h
   cases draw with
   | true=>
     simp only[vc]at h
     split at h
     · rename_i hd
       obtain⟨M,st,hS,hnt,h⟩:=Xbe _ hS h
       rw[←hnt]at hd
       unfold Xhq at h
       have hl0:∀j,(Array.replicate ops.size false).getD j false=false:=fun j=>by
        rw[Array.getD_eq_getD_getElem?,Array.getElem?_replicate];split<;>rfl
       have hu0:unl ops.size (Array.replicate ops.size false)≤ops.size:=by
        unfold unl
        exact Nat.le_trans (List.countP_le_length) (by simp)
       split at h
       · obtain⟨outs,st',hlen,hK,hext,hgood⟩:=X4D _ _ _ h
         split at hK
         · rename_i hok
           refine wp_region_any hm (X9l hT hΓ (fun _=>False) hd hlen hok (fun j o x _ hz=>hgood j o x hz) (fun σ' M' w' a' hS'=>hq .normal _ _ _ _ _ (hS'.ext hext.symm) hK) _ _ σ M _ a (by simp) hu0 ?_ (fun j hj=>hj.elim) ?_)
           · intro j hj
             rw[hl0 j]at hj;cases hj
           · rw[X66 (fun i _=>hl0 i)]
             exact hS.sameHeap rfl rfl rfl rfl
         · exact hK.elim
       · exact wp_region_any hm (Xfe hT hΓ hd h (fun σ' M' w' a' st' hKK hS'=>hq .normal σ' M' w' a' st' hS' hKK) _ _ σ M _ a (by simp) hu0 hl0 (hS.sameHeap rfl rfl rfl rfl))
     · exact h.elim
   | false=>
     simp only[vc]at h
     split at h
     · rename_i hd
       exact wp_region_list (X6W hT hΓ (fun σ' M' w' a' st' hS' hK=>hq .normal σ' M' w' a' st' hS' hK) _ _ _ _ _ _ (X5R hd) hS h)
     · exact h.elim
 | seq x y ihx ihy=>
   intro p st K Q σ M w a hS hq h
   refine wp_seq (ihx _ st _ _ σ M w a hS ?_ h)
   intro e σ' M' w' a' st' hS' hK
   cases e with
   | normal=>exact ihy _ st' K Q σ' M' w' a' hS' hq hK
   | exit id=>exact hq _ _ _ _ _ _ hS' hK
   | ret=>exact hq _ _ _ _ _ _ hS' hK
 | cond c x y ihx ihy=>
   intro p st K Q σ M w a hS hq h
   simp only[vc]at h
   split at h
   · rename_i b hb
     replace h:=X7i h
     have hr:=(X1h (M:=M) hS c).rep
     rw[hb]at hr
     have hc:a.eval c=.bool b:=(X0g.one hr).1
     refine wp_cond_split hc (fun e=>ihx _ st K Q σ M w a hS hq (h.1 e)) (fun e=>ihy _ st K Q σ M w a hS hq (h.2 e))
   · exact h.elim
 | block id c ih=>
   intro p st K Q σ M w a hS hq h
   refine wp_block (ih _ st _ _ σ M w a hS ?_ h)
   intro e σ' M' w' a' st' hS' hK
   cases e with
   | normal=>exact hq .normal _ _ _ _ _ hS' hK
   | exit id'=>
     simp only[Xgi]at hK
     show(if id'=id then Q .normal a' w' else Q (.exit id') a' w')
     split at hK
     · rename_i e;rw[if_pos e];exact hq .normal _ _ _ _ _ hS' hK
     · rename_i e;rw[if_neg e];exact hq (.exit id') _ _ _ _ _ hS' hK
   | ret=>exact hq .ret _ _ _ _ _ hS' hK
 | loop c ih=>
   intro p st K Q σ M w a hS hq h
   simp only[vc]at h
   split at h
   · rename_i an _
     obtain⟨x0,s0,σ0,M0',⟨hI0,hround⟩,hs0,hS0⟩:=X8F hT h hS
     refine XcD (fun x a w=>an.I st x∧∃s σ M,Xbo an.kp (weaken an.kp st) (flat an.T x)=some s∧Sim P base M0 ios σ M w a s) (an.μ st) (x:=x0) ⟨hI0,s0,σ0,M0',hs0,hS0⟩ ?_
     rintro x a w ⟨hI,s,σ,M,hs,hS⟩
     have hb:=hround x hI
     unfold Xhk at hb
     rw[hs]at hb
     refine ih _ _ _ _ σ M w a hS ?_ hb
     intro e σ' M' w' a' st' hS' hK
     cases e with
     | normal=>
       obtain⟨y,s',σ2,M2,⟨hIy,hlt⟩,hs',hS2⟩:=X8F hT hK hS'
       exact⟨y,⟨hIy,s',σ2,M2,hs',hS2⟩,hlt⟩
     | exit id=>exact hq _ _ _ _ _ _ hS' hK
     | ret=>exact hq _ _ _ _ _ _ hS' hK
   · exact h.elim
 | exit id=>intro p st K Q σ M w a hS hq h;exact wp_exit (hq (.exit id) _ _ _ _ _ hS h)
 | ret=>intro p st K Q σ M w a hS hq h;exact wp_ret (hq .ret _ _ _ _ _ hS h)
 | _=>intro p st K Q σ M w a hS hq h;exact h.elim
end Go.Proofs.Ytegmokdppbagiaa.Bv
namespace Go.Proofs.Ytegmokdppbagiaa.Bv
def X2y(tab:Tab)(st:St):List ResultVar→List TypeId→Option (List (Bool×List X00))
 | [],[]=>some []
 | .tmp t::rs,ty::tys=>match X8q tab ty (st.get t) with
   | .val ag cs=>(X2y tab st rs tys).bind fun l=>some ((ag,cs)::l)
   | _=>none
 | .cell ad ty::rs,_::tys=>match st.get ad,look ty tab with
   | .box k off,some ti=>match st.box k with
     | some cs=>if off+size ti.ty≤cs.length∧(ti.agg=true∨size ti.ty=1) then(X2y tab st rs tys).bind fun l=>some ((ti.agg,(cs.drop off).take (size ti.ty))::l) else none
     | none=>none
   | _,_=>none
 | _,_=>none
def X7B:List (Bool×Nat)→List (Bool×List X00)→Bool
 | [],[]=>true
 | (ag,n)::s,(ag',cs)::l=>(ag==ag')&&(cs.length==n)&&X7B s l
 | _,_=>false
def cellsOf:List (Bool×List X00)→List X00
 | []=>[]
 | p::l=>p.2++cellsOf l
def X7p(rows:List (Nat×X0e)):List (Nat×TypeId)→Option (List X00)
 | []=>some []
 | (j,e)::l=>match look (X6N j) rows,X7p rows l with
   | some (.hot _ t x _ none _),some r=>some (.lst t x none::r)
   | _,_=>none
def XcB(con:Con)(st:St):Option (List X00):=match con.io with
 | true=>st.box 0
 | false=>some []
def XbA(con:Con):List Nat:=con.backA.map fun p=>X6N p.1
def Xhi(tab:Tab)(con:Con)(rs:List ResultVar)(tys:List TypeId)(i:El con.I)(x:El con.A)(st:St):Prop:=
 match X2y tab st rs tys,XcB con st with
 | some l,some bc=>
   let fz:=X2E st.rows (X2m st.rows (X0t (X3Q con.fresh 0 (cellsOf l))++X0t (X3Q con.ownI 0 bc)))
   let rows:=fz++st.rows
   let cs:=X4H rows (cellsOf l)
   let ib:=X4H rows bc
   match X6l rows cs,X3H rows cs con.fresh,X6l rows ib,X3H rows ib con.ownI,X7p rows con.backA with
   | some cv,some ks,some iv,some iks,some bv=>match X0B con.R cv,X0B con.I iv,X0B con.B bv with
     | some (r,[]),some (i',[]),some (b',[])=>
       match X7B con.shR l&&X2q (fz.map (·.1))&&X2q (ks++(iks++XbA con))&&(X0t (X3Q con.fresh 0 cs)).isEmpty&&(X0t (X3Q con.ownI 0 ib)).isEmpty with
       | true=>con.Post i x (r,(i',b'))
       | false=>False
     | _,_,_=>False
   | _,_,_,_,_=>False
 | _,_=>False
def XgP(tab:Tab)(con:Con)(rs:List ResultVar)(tys:List TypeId)(i:El con.I)(x:El con.A):Ex→St→Prop
 | .normal,st=>Xhi tab con rs tys i x st
 | .ret,st=>Xhi tab con rs tys i x st
 | .exit _,_=>False
def Xbq(tab:Tab)(own:List (Nat×TypeId))(cs:List X00):Bool:=own.all fun p=>match cs[p.1]?,look p.2 tab with
 | some (.lst t _ _),some te=>decide (te.ty=t)&&decide (0<size t)
 | _,_=>false
variable {P:Program} {base:World} {M0:Mem} {ios:Ios} {σ:Sg} {M:Mem} {w:World} {a:Act} {st:St} {tab:Tab} {Γ:Gam}
def tyC:X00→Option Ty
 | .lst t _ _=>some t
 | _=>none
theorem Xaw:∀(t:Ty) (x y:El t),(flat t x).map tyC=(flat t y).map tyC
 | .int _,_,_=>rfl
 | .bool,_,_=>rfl
 | .str,_,_=>rfl
 | .list _,_,_=>rfl
 | .unit,_,_=>rfl
 | .pair a b,x,y=>by simp[flat,Xaw a x.1 y.1,Xaw b x.2 y.2]
theorem X6H(hT:X0o P tab){own:List (Nat×TypeId)}{t:Ty}{x0:El t}(h:Xbq tab own (flat t x0)=true)(x:El t):Xb0 P own (flat t x):=fun j e hj t' l tag hc=>by
 have h1:=List.all_eq_true.1 h (j,e) (X15 hj)
 simp only at h1
 have hty:((flat t x0).map tyC)[j]?=some (some t'):=by rw[Xaw t x0 x,List.getElem?_map,hc];rfl
 rw[List.getElem?_map]at hty
 split at h1
 · rename_i t0 l0 tag0 te hc0 hte
   rw[hc0]at hty
   have e1:t0=t':=by simpa [tyC] using hty
   subst e1
   simp only[Bool.and_eq_true,decide_eq_true_eq]at h1
   obtain⟨i,z,hi,hs,_⟩:=(hT e te hte).info
   exact⟨⟨i,hi,by rw[hs,h1.1]⟩,h1.2⟩
 · cases h1
def Xb7(tmps:Array Value):ResultVar→Sem Value
 | .tmp t=>pure (tmps.getD t undef)
 | .cell ad t=>do loadVar t (←asAddr (tmps.getD ad undef))
theorem XeV(l:List Value):(if h:l.toArray.size=1 then l.toArray[0] else Value.tuple l.toArray)=X7o l:=by
 match l with
 | []=>rfl
 | [v]=>rfl
 | v::u::r=>
   rw[dif_neg (by simp)];rfl
theorem XdJ(fn:Func)(tmps:Array Value):results fn tmps=(do let vs ←fn.results.toList.mapM (Xb7 tmps);pure (X7o vs)):=by
 have h:results fn tmps=(do
  let vs ←fn.results.mapM (Xb7 tmps)
  pure (if h:vs.size=1 then vs[0] else .tuple vs)):=by
  unfold results
  congr 1
 rw[h,Array.mapM_eq_mapM_toList,map_eq_pure_bind,bind_assoc]
 congr 1
 funext vs
 rw[pure_bind]
 congr 1
 exact XeV vs
theorem Xce(hT:X0o P tab)(hS:Sim P base M0 ios σ M w a st):∀(rs:List ResultVar) (tys:List TypeId) (l:List (Bool×List X00)),X2y tab st rs tys=some l→
 ∃vs,(rs.mapM (Xb7 a.tmps)).run P w=.ok vs w∧X0v (X0g σ st.rows M) vs l
 | [],[],l,h=>by
   simp only[X2y,Option.some.injEq]at h;subst h
   exact⟨[],by simp,.nil⟩
 | [],_::_,l,h=>by simp[X2y]at h
 | .tmp t::rs,[],l,h=>by simp[X2y]at h
 | .cell ad ty::rs,[],l,h=>by simp[X2y]at h
 | .tmp t::rs,ty::tys,l,h=>by
   simp only[X2y]at h
   split at h
   · rename_i ag cs hc
     obtain⟨r,hr,e⟩:=Option.bind_eq_some_iff.1 h
     cases e
     obtain⟨vs,h1,h2⟩:=Xce hT hS rs tys r hr
     have h3:=X4M (tab:=tab) ty (hS.slots t)
     rw[hc]at h3
     exact⟨a.tmps.getD t undef::vs,by simp only[List.mapM_cons,Xb7,pure_bind,Sem.run_bind,h1,Result.andThen_ok,Sem.run_pure],.cons h3 h2⟩
   · cases h
 | .cell ad ty::rs,_::tys,l,h=>by
   simp only[X2y]at h
   split at h
   · rename_i k off ti hg ht
     split at h
     · rename_i cs hk
       split at h
       · rename_i hc
         obtain⟨r,hr,e⟩:=Option.bind_eq_some_iff.1 h
         cases e
         obtain⟨vs,h1,h2⟩:=Xce hT hS rs tys r hr
         have h3:=hS.slots ad
         rw[hg]at h3
         obtain⟨arr,E,hh,hcs⟩:=hS.boxes k cs hk
         have h4:=(hcs.drop off).take (size ti.ty)
         obtain⟨v,hv,hvc,hva⟩:=X24 (w:=w) hT ht hc.2 ((⟨σ.box k,0,none⟩:Addr).add off) ((arr.toList.drop off).take (size ti.ty))
          (by rw[List.length_take,List.length_drop,hcs.length];omega)
          (by
            intro j u hu
            rw[add_lit,add_lit,cell_of_row w (σ.box k) _ arr E (0,0) hh]
            rw[List.getElem?_take]at hu
            split at hu
            · rw[List.getElem?_drop]at hu;rw[Nat.zero_add];simpa using hu
            · cases hu)
          h4.one
         refine⟨v::vs,?_,.cons ⟨by rw[hvc];exact h4,hva⟩ h2⟩
         simp only[List.mapM_cons,Xb7,h3.1,asAddr,pure_bind,Sem.run_bind,hv,h1,Result.andThen_ok,Sem.run_pure]
       · cases h
     · cases h
   · cases h
theorem X0v.flatten{vs:List Value}{l:List (Bool×List X00)}(h:X0v (X0g σ st.rows M) vs l):X0v (RdT σ st.rows M) (vs.flatMap fun v=>v.cells.toList) (cellsOf l):=by
 induction h with
 | nil=>exact .nil
 | cons hx _ ih=>rw[List.flatMap_cons];exact hx.1.append ih
theorem Xek{vs:List Value}{l:List (Bool×List X00)}(h:X0v (X0g σ st.rows M) vs l):∀{shs:List (Bool×Nat)},X7B shs l=true→X8W shs vs (vs.flatMap fun v=>v.cells.toList):=by
 induction h with
 | nil=>intro shs hs;cases shs with
   | nil=>exact .nil
   | cons sh shs=>simp[X7B]at hs
 | @cons v p vs l hx hr ih=>
   intro shs hs
   cases shs with
   | nil=>simp[X7B]at hs
   | cons sh shs=>
     obtain⟨ag,n⟩:=sh
     obtain⟨ag',cs⟩:=p
     simp only[X7B,Bool.and_eq_true,beq_iff_eq]at hs
     rw[List.flatMap_cons]
     refine .cons ?_ ?_ (ih hs.2)
     · have:=hx.1.length;simp at this;omega
     · rw[hs.1.1];exact hx.2
theorem Xai{rows:List (Nat×X0e)}{cs:List X00}{own:List (Nat×TypeId)}{ks:List Nat}(h:X3H rows cs own=some ks):∀r∈ks,∃e t l ver z,look r rows=some (.hot e t l ver none z):=fun r hr=>by
 obtain⟨a1,a2⟩:=X2l h
 obtain⟨j,e,t,hm,hc⟩:=a2 r hr
 obtain⟨c,y,hc',hh,_⟩:=a1 j e hm
 rw[hc]at hc';cases hc'
 obtain⟨e',l,ver,z,hl⟩:=Xbn hh
 exact⟨_,_,_,_,_,hl⟩
theorem X7q{rows:List (Nat×X0e)}:∀{own:List (Nat×TypeId)} {bv:List X00},X7p rows own=some bv→bv.length=own.length∧bv.map unT=bv∧∀(k j:Nat) (e:TypeId),own[k]?=some (j,e)→∃e0 t l ver z,bv[k]?=some (.lst t l none)∧look (X6N j) rows=some (.hot e0 t l ver none z)
 | [],bv,h=>by simp only[X7p,Option.some.injEq]at h;subst h;exact⟨rfl,rfl,fun k j e hk=>by simp at hk⟩
 | (j,e)::own,bv,h=>by
   simp only[X7p]at h
   split at h
   · rename_i e0 t x ver z r hl hr
     cases h
     obtain⟨h1,h2,h3⟩:=X7q hr
     refine⟨by simp[h1],by simp[unT,h2],fun k j' e' hk=>?_⟩
     cases k with
     | zero=>simp at hk;obtain⟨rfl,rfl⟩:=hk;exact⟨e0,t,x,ver,z,by simp,hl⟩
     | succ k=>simp at hk;obtain⟨e1,t1,l1,v1,z1,q1,q2⟩:=h3 k j' e' hk;exact⟨e1,t1,l1,v1,z1,by simpa using q1,q2⟩
   · cases h
theorem Xbg{own:List (Nat×TypeId)}(f:Nat→Nat):X3O own (fun j=>σ.foot (f j))=X1w σ (own.map fun p=>f p.1):=by
 unfold X3O X1w
 rw[List.map_map];rfl
end Go.Proofs.Ytegmokdppbagiaa.Bv
namespace Go.Proofs.Ytegmokdppbagiaa.Bv
variable {P:Program} {base:World} {M0:Mem} {ios:Ios} {σ:Sg} {M:Mem} {w w':World} {a:Act} {st:St} {tab:Tab} {Γ:Gam}
theorem X6n{fz:List (Nat×X0e)}:∀(rs:List ResultVar) (tys:List TypeId),X2y tab (X2h fz st) rs tys=X2y tab st rs tys
 | [],[]=>rfl
 | [],_::_=>rfl
 | .tmp t::rs,[]=>rfl
 | .cell ad ty::rs,[]=>rfl
 | .tmp t::rs,ty::tys=>by
   simp only[X2y,X6n rs tys]
   rfl
 | .cell ad ty::rs,t::tys=>by
   simp only[X2y,X6n rs tys]
   rfl
theorem XgC(hT:X0o P tab){con:Con}{fn:Func}{tys:List TypeId}{i:El con.I}{x:El con.A}{acs:List Value}(hpins:∀j e,(j,e)∈con.backA→∃u,acs[j]?=some u∧(X6N j,u)∈ios.rows)(hio:con.io=ios.box.isSome)(hnew:con.newR=false)(hR:Xbq tab con.fresh (flat con.R (dfl con.R))=true)(hI:Xbq tab con.ownI (flat con.I (dfl con.I))=true)(hS:Sim P base M0 ios σ M w' a st)(hK:Xhi tab con fn.results.toList tys i x st):a.defers=[]∧∃v,(results fn a.tmps).run P w'=.ok v w'∧Ret P con base M0 ios.blk ios.box acs i x (.returned v) w':=by
 refine⟨hS.defers,?_⟩
 unfold Xhi at hK
 split at hK
 case h_2=>exact hK.elim
 rename_i l bc hl hbc
 simp only at hK
 have hmem:∀p∈X2E st.rows (X2m st.rows (X0t (X3Q con.fresh 0 (cellsOf l))++X0t (X3Q con.ownI 0 bc))),∃e t l ver z,p.2=.frz e t l ver z∧look p.1 st.rows=some (.hot e t l ver none z):=fun p hp=>X95 hp
 generalize X2E st.rows (X2m st.rows (X0t (X3Q con.fresh 0 (cellsOf l))++X0t (X3Q con.ownI 0 bc)))=fz at hK hmem
 split at hK
 case h_2=>exact hK.elim
 rename_i cv ks iv iks bv e1 e2 e3 e4 e5
 split at hK
 case h_2=>exact hK.elim
 rename_i r i' b' u1 u2 u3
 split at hK
 case h_2=>exact hK.elim
 rename_i hc
 simp only[Bool.and_eq_true,List.isEmpty_iff]at hc
 obtain⟨⟨⟨⟨c1,c2⟩,c3⟩,c4⟩,c5⟩:=hc
 obtain⟨M2,hS2⟩:=hS.freezes hmem (X2S c2)
 obtain⟨vs,hv1,hv2⟩:=Xce (st:=X2h fz st) hT hS2 _ _ _ ((X6n _ _).trans hl)
 refine⟨X7o vs,?_,?_⟩
 · rw[XdJ]
   simp only[Sem.run_bind,hv1,Result.andThen_ok,Sem.run_pure]
 have hrows:∀r rv,look r (fz++st.rows)=some rv→look r (X2h fz st).rows=some rv:=fun _ _ h=>h
 have hrd:=X5z hS2 hrows hv2.flatten
 have hB:=X7q e5
 have hhot:∀r∈ks++(iks++XbA con),X0q r (X2h fz st).rows:=fun r hr=>by
  rcases List.mem_append.1 hr with h | h
  · obtain⟨e,t,l,ver,z,hl⟩:=Xai e2 r h;exact⟨_,_,_,_,_,_,hl⟩
  · rcases List.mem_append.1 h with h | h
    · obtain⟨e,t,l,ver,z,hl⟩:=Xai e4 r h;exact⟨_,_,_,_,_,_,hl⟩
    · obtain⟨p,hp,rfl⟩:=List.mem_map.1 h
      obtain⟨j,e⟩:=p
      obtain⟨k,hk⟩:=List.getElem?_of_mem hp
      obtain⟨e0,t,l,ver,z,_,q⟩:=hB.2.2 k j e hk
      exact⟨_,_,_,_,_,_,q⟩
 have hnd:=X4G hS2 (X2S c3) hhot
 rw[X2d,X2d]at hnd
 have hcvR:=X7f e1 u1
 have hivI:=X7f e3 u2
 have hbvB:bv=flat con.B b':=by
  have:=X21 _ _ _ _ u3
  rw[hB.2.1]at this;simpa using this
 obtain⟨a1,_⟩:=X2l e2
 obtain⟨b1,_⟩:=X2l e4
 have hblk:∀g,(∃r∈ks++(iks++XbA con),g∈σ.foot r)→(base.heap.size≤g∨(g∈ios.blk∧ios.box≠some g))∧g<w'.heap.size∧∀ad,ad.block=g→M2 ad=none:=fun g ⟨r,hr,hg⟩=>by
  have hh:=hhot r hr
  refine⟨?_,hS2.hot.lt r hh g hg,hS2.hot.noM r hh g hg⟩
  rcases hS2.hot.base r hh g hg with h | h
  · exact .inl h
  · by_cases hb:ios.box=some g
    ·
     have hbx:(X2h fz st).box 0=some bc:=by
      have:con.io=true:=by rw[hio,hb];rfl
      unfold XcB at hbc
      rw[this]at hbc
      exact hbc
     have:=hS2.hot.noBox r hh 0 (by rw[hbx];rfl)
     rw[hS2.pin g hb]at this
     exact absurd hg this
    · exact .inr ⟨h,hb⟩
 refine⟨vs,(r,(i',b')),vs.flatMap fun v=>v.cells.toList,M2,X48 σ (X4H (fz++st.rows) (cellsOf l)),X48 σ (X4H (fz++st.rows) bc),fun j=>σ.foot (X6N j),[],rfl,hK,hS2.le,hS2.mem,hS2.fr,hS2.old,?_,?_,?_,?_,X6H hT hR _,X6H hT hI _,?_,?_⟩
 · rw[hnew]
   exact⟨rfl,Xek hv2 c1⟩
 · rw[←hcvR]
   exact XaN hS2 (Mem.le_refl _) hrows hrd e1 (fun j e hm=>by obtain⟨c,y,k1,k2,_⟩:=a1 j e hm;exact⟨c,y,k1,k2⟩) (fun r hb=>by rw[c4]at hb;cases hb)
 · intro g hg
   have hio':con.io=true:=by rw[hio,hg];rfl
   have hbx:(X2h fz st).box 0=some bc:=by
    unfold XcB at hbc
    rw[hio']at hbc
    exact hbc
   obtain⟨arr,E,h1,h2⟩:=hS2.boxes 0 bc hbx
   rw[hS2.pin g hg]at h1
   refine⟨arr,E,h1,?_,fun ad had=>hS2.boxM 0 (by rw[hbx];rfl) ad (by rw[had,hS2.pin g hg])⟩
   rw[←hivI]
   exact XaN hS2 (Mem.le_refl _) hrows (X5z hS2 hrows h2) e3 (fun j e hm=>by obtain⟨c,y,k1,k2,_⟩:=b1 j e hm;exact⟨c,y,k1,k2⟩) (fun r hb=>by rw[c5]at hb;cases hb)
 · refine⟨by rw[←hbvB];exact hB.1,fun k j e hk=>?_⟩
   obtain⟨e0,t,x',ver,z,q1,q2⟩:=hB.2.2 k j e hk
   obtain⟨u,hu,hp⟩:=hpins j e (List.mem_of_getElem? hk)
   have hrow:σ.row (X6N j)=u:=hS2.pins (X6N j,u) hp (by show(look (X6N j) (fz++st.rows)).isSome=true;rw[q2];rfl)
   refine⟨u,t,x',hu,by rw[←hbvB];exact q1,?_⟩
   rw[←hrow]
   exact(hS2.hotAt q2).own
 · rw[X2n e2]
   have hbk:X3O con.backA (fun j=>σ.foot (X6N j))=X1w σ (XbA con):=Xbg X6N
   rw[hbk]
   cases hb:ios.box with
   | none=>
     have h2:(X1w σ ks++X1w σ (XbA con)).Nodup:=hnd.sublist (List.Sublist.append_left (List.sublist_append_right _ _) _)
     simpa using h2
   | some g=>
     show([]++(X1w σ ks++(X3O con.ownI (X48 σ (X4H (fz++st.rows) bc))++X1w σ (XbA con)))).Nodup
     rw[X2n e4]
     simpa using hnd
 · intro g hg
   refine hblk g ?_
   rw[X2n e2]at hg
   have hbk:X3O con.backA (fun j=>σ.foot (X6N j))=X1w σ (XbA con):=Xbg X6N
   rw[hbk]at hg
   have hg2:g∈X1w σ (ks++(iks++XbA con)):=by
    rw[X2d,X2d]
    simp only[List.nil_append]at hg
    rcases List.mem_append.1 hg with h | h
    · exact List.mem_append.2 (.inl h)
    · refine List.mem_append.2 (.inr ?_)
      rcases List.mem_append.1 h with h | h
      · cases hb:ios.box with
        | none=>rw[hb]at h;cases h
        | some g'=>
          rw[hb]at h
          have h':g∈X3O con.ownI (X48 σ (X4H (fz++st.rows) bc)):=h
          rw[X2n e4]at h'
          exact List.mem_append.2 (.inl h')
      · exact List.mem_append.2 (.inr h)
   obtain⟨r,hr,hg3⟩:=X2r hg2
   exact⟨r,hr,hg3⟩
end Go.Proofs.Ytegmokdppbagiaa.Bv
namespace Go.Proofs.Ytegmokdppbagiaa.Bv
def X7G:List Nat→Nat
 | []=>0
 | n::ns=>n+X7G ns
def Xea:List Nat→List X00→List Cap
 | [],_=>[]
 | n::ns,cs=>.ptr (cs.take n)::Xea ns (cs.drop n)
def X1a:Nat→List Sh→List X00→List (Nat×Sv)
 | _,[],_=>[]
 | i,.one::shs,cs=>(i,.val false (cs.take 1))::X1a (i+1) shs (cs.drop 1)
 | i,.agg n::shs,cs=>(i,.val true (cs.take n))::X1a (i+1) shs (cs.drop n)
 | i,.ptr n::shs,cs=>(i,.ptr (cs.take n))::X1a (i+1) shs (cs.drop n)
 | i,.clo f ns::shs,cs=>(i,.fn f [] (Xea ns (cs.take (X7G ns))))::X1a (i+1) shs (cs.drop (X7G ns))
 | i,.pptr n::shs,cs=>(i,.pptr (cs.take n))::X1a (i+1) shs (cs.drop n)
 | i,.clop f n::shs,cs=>(i,.fn f [] [.pptr (cs.take n)])::X1a (i+1) shs (cs.drop n)
 | i,.self f false::shs,cs=>(i,.fn f [.box 0 0] [])::X1a (i+1) shs (cs.drop 0)
 | i,.self f true::shs,cs=>(i,.fn f [] [.pp 0 0])::X1a (i+1) shs (cs.drop 0)
def XbK(slots:List (Nat×Sv)):List Nat:=(slots.map (·.1)).filter fun i=>match look i slots with
 | some (.val _ _)=>true
 | _=>false
def X8p(con:Con)(x:El con.A):List X00:=X63 X6N (con.ownA++con.backA) 0 (flat con.A x)
def X4c(con:Con)(x:El con.A):List (Nat×X0e):=X2w X6N (con.ownA++con.backA) 0 (flat con.A x)
def X8a(con:Con)(nt:Nat)(i:El con.I)(x:El con.A):St:=match con.io with
 | true=>{nt,slots:=(0,.box 0 0)::X1a 1 con.shA (X8p con x),boxes:=[(0,X63 Xae con.ownI 0 (flat con.I i))],rows:=X4c con x++X2w Xae con.ownI 0 (flat con.I i),olds:=XbK ((0,.box 0 0)::X1a 1 con.shA (X8p con x))}
 | false=>{nt,slots:=X1a 0 con.shA (X8p con x),boxes:=[],rows:=X4c con x,olds:=XbK (X1a 0 con.shA (X8p con x))}
variable {P:Program} {base:World} {M0:Mem} {ios:Ios} {σ:Sg} {M:Mem} {w w':World} {a:Act} {st:St} {tab:Tab} {Γ:Gam}
theorem Xfv{ns:List Nat}{vs cs:List Value}(h:X6U M ns vs cs):cs.length=X7G ns:=by
 induction h with
 | nil=>rfl
 | cons hx _ ih=>rw[List.length_append,hx.1,ih];rfl
theorem Xh2{rows:List (Nat×X0e)}{boxes:List (Nat×List X00)}{ns:List Nat}{vs cs:List Value}(h:X6U M ns vs cs):∀{cvs:List X00},X0v (RdT σ rows M) cs cvs→X0v (X5v σ rows boxes M) vs (Xea ns cvs):=by
 induction h with
 | nil=>intro cvs _;exact .nil
 | @cons n v c ns vs cs hx hr ih=>
   intro cvs hc
   obtain⟨hn,ad,hv,hM⟩:=hx
   have hc1:X0v (RdT σ rows M) c (cvs.take n):=by have:=hc.take n;rw[List.take_left' hn]at this;exact this
   have hc2:X0v (RdT σ rows M) cs (cvs.drop n):=by have:=hc.drop n;rw[List.drop_left' hn]at this;exact this
   refine .cons ⟨ad,hv,fun j cv hj=>?_⟩ (ih hc2)
   obtain⟨u,hu,hr⟩:=hc1.get hj
   exact⟨u,hM j u hu,hr⟩
theorem Xbp{rows:List (Nat×X0e)}{n:Nat}{u:Value}{c:List Value}{cvs:List X00}(hx:Xbz M n u c)(hc:X0v (RdT σ rows M) c cvs):X5B σ rows M u cvs:=by
 obtain⟨hn,ad,hv,hM⟩:=hx
 refine⟨ad,hv,fun j cv hj=>?_⟩
 obtain⟨u,hu,hr⟩:=hc.get hj
 exact⟨u,hM j u hu,hr⟩
theorem Xcq{σ:Sg}{rows:List (Nat×X0e)}{boxes:List (Nat×List X00)}{shs:List Sh}{vs cs:List Value}{b:Option Nat}(hb:∀g,b=some g→σ.box 0=g∧(look 0 boxes).isSome=true)(h:X6a M b shs vs cs):
 ∀{cvs:List X00} (k:Nat),X0v (RdT σ rows M) cs cvs→∀i,match look i (X1a k shs cvs) with
  | some sv=>k≤i∧i - k<vs.length∧X14 σ rows boxes M (vs.getD (i - k) undef) sv
  | none=>True:=by
 induction h with
 | nil=>intro cvs k _ i;simp[X1a,look]
 | @cons sh v c shs vs cs hx hr ih=>
   intro cvs k hc i
   have hlen:c.length≤cvs.length:=by have:=hc.length;simp at this;omega
   have hc1:X0v (RdT σ rows M) c (cvs.take c.length):=by have:=hc.take c.length;simpa using this
   have hc2:X0v (RdT σ rows M) cs (cvs.drop c.length):=by have:=hc.drop c.length;simpa using this
   have step:∀(n:Nat) (sv:Sv),c.length=n→X14 σ rows boxes M v sv→match look i ((k,sv)::X1a (k+1) shs (cvs.drop n)) with
    | some sv=>k≤i∧i - k<(v::vs).length∧X14 σ rows boxes M ((v::vs).getD (i - k) undef) sv
    | none=>True:=by
    intro n sv hn hsv
    subst hn
    rw[X01]
    by_cases hki:k=i
    · subst hki;simp;exact hsv
    · rw[if_neg hki]
      have:=ih (k+1) hc2 i
      split at this
      · rename_i sv' hl
        obtain⟨h1,h2,h3⟩:=this
        refine⟨by omega,by simp;omega,?_⟩
        rw[show i - k=(i - (k+1))+1 by omega]
        simpa using h3
      · trivial
   cases sh with
   | one=>
     obtain⟨rfl,hag⟩:=hx
     refine step 1 _ rfl ⟨?_,hag⟩
     have:v.cells=#[v]:=by cases v<;>first | rfl | (simp[X4a]at hag)
     rw[this];exact hc1
   | agg n=>
     obtain⟨hn,vs',rfl,rfl⟩:=hx
     exact step n _ hn ⟨by rw[hn]at hc1;exact hc1,rfl⟩
   | ptr n=>
     obtain⟨hn,ad,rfl,hM⟩:=hx
     refine step n _ hn ⟨ad,rfl,fun j cv hj=>?_⟩
     rw[hn]at hc1
     obtain⟨u,hu,hr⟩:=hc1.get hj
     exact⟨u,hM j u hu,hr⟩
   | clo f ns=>
     obtain⟨vb,rfl,hcaps⟩:=hx
     have hn:c.length=X7G ns:=Xfv hcaps
     refine step (X7G ns) _ hn ⟨#[],vb,rfl,.nil,?_⟩
     rw[hn]at hc1
     exact Xh2 (σ:=σ) (rows:=rows) (boxes:=boxes) hcaps hc1
   | pptr n=>
     obtain⟨ad,u,rfl,hu,hp⟩:=hx
     have hn:=hp.1
     rw[hn]at hc1
     exact step n _ hn ⟨ad,u,rfl,hu,Xbp hp hc1⟩
   | clop f n=>
     obtain⟨x,rfl,ad,u,rfl,hu,hp⟩:=hx
     have hn:=hp.1
     rw[hn]at hc1
     exact step n _ hn ⟨#[],_,rfl,.nil,.cons ⟨ad,u,rfl,hu,Xbp hp hc1⟩ .nil⟩
   | self f m=>
     obtain⟨rfl,hs⟩:=hx
     cases m with
     | false=>
       cases hbb:b with
       | none=>rw[hbb]at hs;exact hs.elim
       | some g=>
         rw[hbb]at hs
         obtain⟨q1,q2⟩:=hb g hbb
         refine step 0 _ rfl ⟨_,#[],hs,.cons ⟨?_,q2⟩ .nil,.nil⟩
         rw[q1];simp[Addr.add]
     | true=>
       cases hbb:b with
       | none=>rw[hbb]at hs;exact hs.elim
       | some g=>
         rw[hbb]at hs
         obtain⟨q1,q2⟩:=hb g hbb
         obtain⟨ad,e1,e2⟩:=hs
         refine step 0 _ rfl ⟨#[],_,e1,.nil,.cons ⟨ad,rfl,?_,q2⟩ .nil⟩
         rw[e2,q1];simp[Addr.add]
def Wf:(t:Ty)→El t→Prop
 | .list t,l=>List.length l≤maxLen∧∀x,x∈(show List (El t) from l)→Wf t x
 | .pair a b,x=>Wf a x.1∧Wf b x.2
 | _,_=>True
theorem RdC.wf:∀(t:Ty) (cs:List Value) (x:El t),RdC M t cs x→Wf t x
 | .int _,_,_,_=>trivial
 | .bool,_,_,_=>trivial
 | .str,_,_,_=>trivial
 | .unit,_,_,_=>trivial
 | .pair a b,_,_,⟨_,_,_,h1,h2⟩=>⟨RdC.wf a _ _ h1,RdC.wf b _ _ h2⟩
 | .list t,_,l,⟨_,_,_,h1,h2,h⟩=>by
   refine⟨Nat.le_trans h1 h2,fun x hx=>?_⟩
   obtain⟨i,hi,e⟩:=List.getElem_of_mem hx
   obtain⟨_,vs,_,_,_,h4⟩:=h i hi
   have:=RdC.wf t vs _ h4
   rw[←e];exact this
theorem Xci{b:Option Nat}{shs:List Sh}{vs cs:List Value}(h:X6a M b shs vs cs):vs.length=shs.length:=by
 induction h with
 | nil=>rfl
 | cons _ _ ih=>simp[ih]
theorem Xdg(args:List Value)(n i:Nat)(hi:i<args.length):((args.toArray++Array.replicate n undef).getD i undef)=args.getD i undef:=by
 rw[Array.getD_eq_getD_getElem?,List.getD_eq_getElem?_getD,Array.getElem?_append_left (by simpa using hi)]
 simp
end Go.Proofs.Ytegmokdppbagiaa.Bv
namespace Go.Proofs.Ytegmokdppbagiaa.Bv
variable {P:Program} {base:World} {M0:Mem} {ios:Ios} {σ:Sg} {M:Mem} {w w':World} {a:Act} {st:St} {tab:Tab} {Γ:Gam}
def conB(tab:Tab)(con:Con)(nt:Nat):Bool:=
 Xbq tab (con.ownA++con.backA) (flat con.A (dfl con.A))&&Xbq tab con.ownI (flat con.I (dfl con.I))&&Xbq tab con.fresh (flat con.R (dfl con.R))&&!con.newR&&decide (size con.A≤4096)&&
 decide (con.shA.length+(match con.io with | true=>1 | false=>0)≤nt)
theorem Xat{key:Nat→Nat}(hinj:∀i j,key i=key j→i=j){fr:List (Nat×TypeId)}{F:Nat→List Nat}:∀{vs:List Value} {cs:List X00} (i:Nat),((mkD key fr F i vs cs).map (·.key)).Nodup
 | [],_,i=>List.nodup_nil
 | _::_,[],i=>List.nodup_nil
 | u::vs,c::cs,i=>by
   have ih:=Xat hinj (fr:=fr) (F:=F) (vs:=vs) (cs:=cs) (i+1)
   cases c with
   | lst t l tag=>
     simp only[mkD]
     cases hl:look i fr with
     | none=>exact ih
     | some e=>
       simp only[List.map_cons,List.nodup_cons]
       refine⟨fun hm=>?_,ih⟩
       obtain⟨x,hx,e1⟩:=List.mem_map.1 hm
       obtain⟨j,_,_,_,_,h4,_⟩:=XaS (i+1) hx
       rw[h4]at e1
       have:=hinj _ _ e1
       omega
   | _=>exact ih
theorem Xd2(i j:Nat)(h:X6N i=X6N j):i=j:=by unfold X6N at h;omega
theorem Xg8(i j:Nat)(h:Xae i=Xae j):i=j:=by unfold Xae at h;omega
theorem XfG{M:Mem}{own:List (Nat×TypeId)}{vs:List Value}{cs:List X00}{F:Nat→List Nat}(h:X6T w M own vs cs F)(hM:∀ad v,M ad=some v→w.cell? ad=some v)(hn:(X3O own F).Nodup):∀(j:Nat) (u:Value) (c:X00),vs[j]?=some u→cs[j]?=some c→RdV (X87 w) u c:=fun j u c hu hc=>by
 cases hl:look j own with
 | none=>exact(h.rd j u c hl hu hc).mono hM
 | some e=>
   obtain⟨u',t,l,k1,k2,k3⟩:=h.own j e hl
   rw[hu]at k1;cases k1
   rw[hc]at k2;cases k2
   exact X1V.rdTop k3 ((X6q hn).1 (j,e) (X15 hl)) fun ad u _ _ hu=>hu
theorem X0v.of_get{α β:Type}{R:α→β→Prop}:∀{as:List α} {bs:List β},as.length=bs.length→(∀(j:Nat) a b,as[j]?=some a→bs[j]?=some b→R a b)→X0v R as bs
 | [],[],_,_=>.nil
 | [],_::_,h,_=>by simp at h
 | _::_,[],h,_=>by simp at h
 | a::as,b::bs,h,hr=>.cons (hr 0 a b (by simp) (by simp)) (X0v.of_get (by simpa using h) fun j x y hx hy=>hr (j+1) x y (by simpa using hx) (by simpa using hy))
theorem Xd6{M:Mem}{own:List (Nat×TypeId)}{vs:List Value}{t:Ty}{x:El t}{F:Nat→List Nat}(h:X6T w M own vs (flat t x) F)(hM:∀ad v,M ad=some v→w.cell? ad=some v)(hn:(X3O own F).Nodup):Wf t x:=
 RdC.wf t vs x (X9f t vs x (X0v.of_get h.len fun j u c hu hc=>XfG h hM hn j u c hu hc))
def Xhz:Option Nat→List Value
 | some g=>[.pointer (some ⟨g,0,none⟩)]
 | none=>[]
def Xgh(n:Nat):Option Nat→List (Nat×List X00)
 | some _=>[(0,X9L n)]
 | none=>[]
def Xgd(con:Con)(FI:Nat→List Nat)(ivs:List Value)(i:El con.I):Option Nat→List X74
 | some _=>mkD Xae con.ownI FI 0 ivs (flat con.I i)
 | none=>[]
def XhI(K:St→Prop):Ex→St→Prop
 | .normal,st=>K st
 | .ret,st=>K st
 | .exit _,_=>False
theorem Xfh{con:Con}(K:El con.I→El con.A→St→Prop)(L:(i:El con.I)→El con.A→Nat→Option X0i){n:FuncId}{fn:Func}{c:Code}(hm:P.follows .mixedOrders=true)(hT:X0o P tab)(hΓ:X6Z P Γ)(hf:P.funcs[n]?=some fn)(hb:fn.body=some c)(hA:Xbq tab (con.ownA++con.backA) (flat con.A (dfl con.A))=true)(hI:Xbq tab con.ownI (flat con.I (dfl con.I))=true)(hsz:size con.A≤4096)(hnt:con.shA.length+(match con.io with | true=>1 | false=>0)≤fn.ntmps)(hfin:∀(ios:Ios) (base:World) (M0:Mem) (acs:List Value) (i:El con.I) (x:El con.A) (σ:Sg) (M:Mem) (w':World) (a:Act) (st:St),(∀j e,(j,e)∈con.backA→∃u,acs[j]?=some u∧(X6N j,u)∈ios.rows)→con.io=ios.box.isSome→
   (con.io=false→con.ownA=[]→con.backA=[]→ios.blk=[])→Sim P base M0 ios σ M w' a st→K i x st→a.defers=[]∧∃v,(results fn a.tmps).run P w'=.ok v w'∧Ret P con base M0 ios.blk ios.box acs i x (.returned v) w')(h:∀i x,con.pre i x→(con.io=true→Wf con.I i)→Wf con.A x→vc tab Γ (L i x) c 1 (X8a con fn.ntmps i x) (XhI (K i x))):X0D P n con:=by
 intro w M vs cs i x F FI b hM hargs hown hio hbx hnd hnone hpre
 have hlen:=Xci hargs
 have hcl:cs.length=size con.A:=by rw[hown.len,X0T]
 obtain⟨nd1,nd2,nd3⟩:=List.nodup_append.1 hnd
 have ndI:∀g,b=some g→(X3O con.ownI FI).Nodup∧g∉X3O con.ownI FI:=fun g hg=>by
  rw[hg]at nd1
  have:=List.nodup_cons.1 nd1
  exact⟨this.2,this.1⟩
 have inA:∀g∈X3O (con.ownA++con.backA) F,g∈X2D con b F FI:=fun g hg=>List.mem_append.2 (.inr hg)
 have inI:∀g0,b=some g0→∀g∈X3O con.ownI FI,g∈X2D con b F FI:=fun g0 hg0 g hg=>List.mem_append.2 (.inl (by rw[hg0];exact List.mem_cons_of_mem _ hg))
 have inB:∀g,b=some g→g∈X2D con b F FI:=fun g hg=>List.mem_append.2 (.inl (by rw[hg];exact List.mem_cons_self))
 obtain⟨ivs,hiv⟩:∃ivs:List Value,∀g,b=some g→∃arr E,w.heap[g]?=some (.cells arr E (0,0))∧arr.toList=ivs∧X6T w M con.ownI ivs (flat con.I i) FI:=by
  cases b with
  | none=>exact⟨[],fun g hg=>by cases hg⟩
  | some g=>
    obtain⟨arr,E,h1,h2⟩:=hbx g rfl
    exact⟨arr.toList,fun g' hg'=>by cases hg';exact⟨arr,E,h1,rfl,h2⟩⟩
 let ios:Ios:={blk:=X2D con b F FI,box:=b,rows:=con.backA.map fun p=>(X6N p.1,cs.getD p.1 undef),even:=fun p hp=>by obtain⟨q,_,rfl⟩:=List.mem_map.1 hp;unfold X6N;omega}
 let pre:List Value:=Xhz b
 have hpl:pre.length=(match con.io with | true=>1 | false=>0):=by
  simp only[pre];rw[hio];cases b<;>rfl
 have hle:(pre++vs).length≤fn.ntmps:=by rw[List.length_append,hpl,hlen];omega
 show Calls P n (pre++vs).toArray w _
 refine calls_of_wp hf hb ?_
 let σ0:Sg:=⟨fun _=>b.getD 0,fun _=>undef,fun _=>[],fun _ _=>none⟩
 let st0:St:={nt:=fn.ntmps,slots:=[],boxes:=Xgh ivs.length b,rows:=[]}
 have box0:∀k,(st0.box k).isSome=true→k=0∧∃g,b=some g:=fun k hk=>by
  cases hb':b with
  | none=>simp only[St.box,st0,hb',Xgh,look]at hk;cases hk
  | some g=>
    simp only[St.box,st0,hb',Xgh,look]at hk
    split at hk
    · rename_i e;exact⟨e.symm,g,rfl⟩
    · cases hk
 have hS0:Sim P w M ios σ0 M w {tmps:=(pre++vs).toArray++Array.replicate (fn.ntmps - (pre++vs).toArray.size) undef,defers:=[]} st0:={
  mem:=hM
  nt:=by simp at hle ⊢;simp only[st0];omega
  slots:=fun i=>trivial
  boxes:=fun k ds hk=>by
   obtain⟨e,g,hg⟩:=box0 k (by rw[hk];rfl)
   subst e
   obtain⟨arr,E,h1,h2,h3⟩:=hiv g hg
   have hd:ds=X9L ivs.length:=by
    simp only[St.box,st0,hg,Xgh,look,if_true,Option.some.injEq]at hk;exact hk.symm
   subst hd
   refine⟨arr,E,by show w.heap[b.getD 0]?=_;rw[hg];exact h1,?_⟩
   rw[h2]
   exact X97 h3.one
  boxM:=fun k hk ad had=>by
   obtain⟨e,g,hg⟩:=box0 k hk
   exact hnone g (inB g hg) ad (by rw[had];show b.getD 0=g;rw[hg];rfl)
  boxInj:=fun k k' h1 h2 _=>by rw[(box0 k h1).1,(box0 k' h2).1]
  boxBase:=fun k hk=>by
   obtain⟨e,g,hg⟩:=box0 k hk
   exact .inr (by show b.getD 0∈X2D con b F FI;have:=inB g hg;rw[hg]at this ⊢;exact this)
  rows:=fun r e he=>by cases he
  rowBox:=fun r k hr=>by cases hr
  rowInj:=fun r r' hr=>by cases hr
  hot:={
   ok:=fun r e t l ver hole z hl=>by cases hl
   base:=fun r ⟨_,_,_,_,_,_,hl⟩=>by cases hl
   noM:=fun r ⟨_,_,_,_,_,_,hl⟩=>by cases hl
   noBox:=fun r ⟨_,_,_,_,_,_,hl⟩=>by cases hl
   noRow:=fun r ⟨_,_,_,_,_,_,hl⟩=>by cases hl
   apart:=fun r r' ⟨_,_,_,_,_,_,hl⟩=>by cases hl
   lt:=fun r ⟨_,_,_,_,_,_,hl⟩=>by cases hl
   frz:=fun r e t l ver z hl=>by cases hl}
  fr:=Fr.refl _ _
  defers:=rfl
  old:=fun ad _ _ h=>h
  le:=Mem.le_refl _
  pin:=fun g hg=>by show b.getD 0=g;rw[show b=some g from hg];rfl
  pins:=fun p hp hs=>by cases hs
  olds:=fun j hj=>by cases hj}
 have tag0:∀r,noTag r st0=true:=fun r=>by
  unfold noTag
  have hu:∀n,X5h (X9L n)=[]:=fun n=>by
   unfold X9L
   induction n with
   | zero=>rfl
   | succ n ih=>rw[List.replicate_succ];exact ih
  have:X2u r st0.boxes=true:=by
   cases hb':b with
   | none=>simp only[st0,hb',Xgh];rfl
   | some g=>
     simp only[st0,hb',Xgh,X2u,XbW,hu]
     rfl
  rw[this];rfl
 have hDA:=fun y hy=>XcR (key:=X6N) (x:=y) hown (X6H hT hA x) nd2 hy
 let D2:List X74:=Xgd con FI ivs i b
 have hDI:∀y∈D2,X1V w y.t y.v y.l y.fo∧(∃i,P.info? y.e=some i∧i.size=size y.t)∧0<size y.t∧y.fo.Nodup∧(∃j,y.key=Xae j∧(look j con.ownI).isSome=true∧y.fo=FI j)∧∃g,b=some g:=fun y hy=>by
  cases hb':b with
  | none=>simp only[D2,hb',Xgd]at hy;cases hy
  | some g=>
    simp only[D2,hb',Xgd]at hy
    obtain⟨arr,E,_,_,h3⟩:=hiv g hb'
    obtain⟨k1,k2,k3,k4,k5⟩:=XcR (key:=Xae) h3 (X6H hT hI i) (ndI g hb').1 hy
    exact⟨k1,k2,k3,k4,k5,g,rfl⟩
 have idx:∀y∈mkD X6N (con.ownA++con.backA) F 0 cs (flat con.A x),∃j,y.key=X6N j∧j<4096∧cs[j]?=some y.v:=fun y hy=>by
  obtain⟨j,tag,h1,h2,h3,h4,h5⟩:=XaS 0 hy
  rw[Nat.zero_add]at h4
  have:=(List.getElem?_eq_some_iff.1 h1).1
  exact⟨j,h4,by omega,h1⟩
 have free:∀g∈X2D con b F FI,b≠some g→g<w.heap.size→Xb5 w ios σ0 M w st0 g:=fun g hg hne hlt=>{
  base:=.inr hg
  noM:=hnone g hg
  noBox:=fun k hk e=>by
   obtain⟨_,g',hg'⟩:=box0 k hk
   have:b.getD 0=g:=e
   rw[hg']at this hne
   exact hne (by rw[←this];rfl)
  noRow:=fun r hr=>by cases hr
  noHot:=fun r ⟨_,_,_,_,_,_,hl⟩=>by cases hl
  lt:=hlt}
 have notBox:∀g0,b=some g0→g0∉X3O (con.ownA++con.backA) F:=fun g0 hg0 hm=>nd3 g0 (by rw[hg0];exact List.mem_cons_self) g0 hm rfl
 obtain⟨σ1,hS1,r1,r2,r3⟩:=Sim.addHotsP (mkD X6N (con.ownA++con.backA) F 0 cs (flat con.A x)++D2) hS0 (fun y hy=>by
  have pinA:∀q∈ios.rows,q.1=y.key→y.v=q.2:=fun q hq e=>by
   obtain⟨p,hp,rfl⟩:=List.mem_map.1 hq
   obtain⟨j,e'⟩:=p
   have hp2:∃u,cs[j]?=some u:=by
    have:(look j (con.ownA++con.backA)).isSome=true:=X7W.2 ⟨e',List.mem_append.2 (.inr hp)⟩
    obtain⟨e2,he2⟩:=Option.isSome_iff_exists.1 this
    obtain⟨u,_,_,hu,_⟩:=hown.own j e2 he2
    exact⟨u,hu⟩
   obtain⟨u,hu⟩:=hp2
   have hj:j<cs.length:=(List.getElem?_eq_some_iff.1 hu).1
   rcases List.mem_append.1 hy with h1 | h1
   · obtain⟨j',k1,k2,k3⟩:=idx y h1
     have e2:X6N j=y.key:=e
     rw[k1]at e2
     have:=Xd2 _ _ e2
     subst this
     show y.v=cs.getD j undef
     rw[X7N k3]
   · obtain⟨_,_,_,_,⟨j',k1,_⟩,_⟩:=hDI y h1
     have e2:X6N j=y.key:=e
     rw[k1]at e2
     unfold X6N Xae at e2
     omega
  have more:X1V w y.t y.v y.l y.fo∧(∃i,P.info? y.e=some i∧i.size=size y.t)∧0<size y.t∧y.fo.Nodup∧∀g∈y.fo,g∈X2D con b F FI∧b≠some g:=by
   rcases List.mem_append.1 hy with h1 | h1
   · obtain⟨k1,k2,k3,k4,j,_,k5,k6⟩:=hDA y h1
     refine⟨k1,k2,k3,k4,fun g hg=>?_⟩
     have hg':=X4d k5 (k6▸hg)
     exact⟨inA g hg',fun e=>notBox g e hg'⟩
   · obtain⟨k1,k2,k3,k4,⟨j,_,k5,k6⟩,g0,hg0⟩:=hDI y h1
     refine⟨k1,k2,k3,k4,fun g hg=>?_⟩
     have hg':=X4d k5 (k6▸hg)
     exact⟨inI g0 hg0 g hg',fun e=>(ndI g e).2 hg'⟩
  refine⟨tag0 _,pinA,more.1,more.2.1,more.2.2.1,more.2.2.2.1,fun g hg=>free g (more.2.2.2.2 g hg).1 (more.2.2.2.2 g hg).2 (X0s.lt more.1 g hg)⟩) (by
  rw[List.map_append]
  refine List.nodup_append.2 ⟨Xat Xd2 0,?_,fun k hk k' hk' e=>?_⟩
  · cases hb':b with
    | none=>simp only[D2,hb',Xgd];exact List.nodup_nil
    | some g=>simp only[D2,hb',Xgd];exact Xat Xg8 0
  · obtain⟨y,hy,e1⟩:=List.mem_map.1 hk
    obtain⟨y',hy',e2⟩:=List.mem_map.1 hk'
    obtain⟨j,k1,k2,_⟩:=idx y hy
    obtain⟨_,_,_,_,⟨j',k1',_⟩,_⟩:=hDI y' hy'
    rw[←e1,←e2,k1,k1']at e
    unfold X6N Xae at e
    omega) (fun y hy z hz hne g hg hg'=>by
  rcases List.mem_append.1 hy with h1 | h1<;>rcases List.mem_append.1 hz with h2 | h2
  · obtain⟨_,_,_,_,j,q1,q2,q3⟩:=hDA y h1
    obtain⟨_,_,_,_,j',q1',q2',q3'⟩:=hDA z h2
    exact X6B nd2 q2 q2' (fun e1=>hne (by rw[q1,q1',e1])) g (q3▸hg) (q3'▸hg')
  · obtain⟨_,_,_,_,j,q1,q2,q3⟩:=hDA y h1
    obtain⟨_,_,_,_,⟨j',q1',q2',q3'⟩,g0,hg0⟩:=hDI z h2
    exact nd3 g (by rw[hg0];exact List.mem_cons_of_mem _ (X4d q2' (q3'▸hg'))) g (X4d q2 (q3▸hg)) rfl
  · obtain⟨_,_,_,_,⟨j,q1,q2,q3⟩,g0,hg0⟩:=hDI y h1
    obtain⟨_,_,_,_,j',q1',q2',q3'⟩:=hDA z h2
    exact nd3 g (by rw[hg0];exact List.mem_cons_of_mem _ (X4d q2 (q3▸hg))) g (X4d q2' (q3'▸hg')) rfl
  · obtain⟨_,_,_,_,⟨j,q1,q2,q3⟩,g0,hg0⟩:=hDI y h1
    obtain⟨_,_,_,_,⟨j',q1',q2',q3'⟩,_⟩:=hDI z h2
    exact X6B (ndI g0 hg0).1 q2 q2' (fun e1=>hne (by rw[q1,q1',e1])) g (q3▸hg) (q3'▸hg'))
 have hcsA:∀rows',X0v (RdT σ1 rows' M) cs (X8p con x):=fun rows'=>XaQ hown (.inr rfl) fun z hz=>(r1 z (List.mem_append.2 (.inl hz))).1
 have hrowsA:(mkD X6N (con.ownA++con.backA) F 0 cs (flat con.A x)).map X74.row=X4c con x:=X7j 0 hown.len
 have frameS:∀{boxes:List (Nat×List X00)} {rows:List (Nat×X0e)} (h0:∀g,b=some g→(look 0 boxes).isSome=true) (j:Nat),X14 σ1 rows boxes M (((pre++vs).toArray++Array.replicate (fn.ntmps - (pre++vs).toArray.size) undef).getD j undef) (match look j (X1a pre.length con.shA (X8p con x)) with | some sv=>sv | none=>.und):=fun {boxes rows} h0 j=>by
  have:=Xcq (boxes:=boxes) (fun g hg=>⟨hS1.pin g hg,h0 g hg⟩) hargs pre.length (hcsA rows) j
  split
  · rename_i sv hl
    rw[hl]at this
    obtain⟨h1,h2,h3⟩:=this
    rw[Xdg _ _ _ (by simp;omega)]
    rw[List.getD_eq_getElem?_getD,List.getElem?_append_right h1,←List.getD_eq_getElem?_getD]
    exact h3
  · trivial
 have olds:∀{slots:List (Nat×Sv)} {boxes:List (Nat×List X00)} {rows:List (Nat×X0e)} {a:Act},(∀j,X14 σ1 rows boxes M (a.tmps.getD j undef) (match look j slots with | some sv=>sv | none=>.und))→∀j,j∈XbK slots→Xgu M (a.tmps.getD j undef) (match look j slots with | some sv=>sv | none=>.und):=fun {slots boxes rows a} hs j hj=>by
  have hm:=(List.mem_filter.1 hj).2
  have hsj:=hs j
  split at hm
  · rename_i ag cs' hl
    rw[hl]at hsj ⊢
    exact hsj.1.imp fun _ _ h=>h.1
  · cases hm
 have hS:Sim P w M ios σ1 M w {tmps:=(pre++vs).toArray++Array.replicate (fn.ntmps - (pre++vs).toArray.size) undef,defers:=[]} (X8a con fn.ntmps i x):=by
  cases hb':b with
  | none=>
    have hio':con.io=false:=by rw[hio,hb'];rfl
    have hpre0:pre.length=0:=by rw[hpl,hio']
    have e:X8a con fn.ntmps i x={nt:=fn.ntmps,slots:=X1a 0 con.shA (X8p con x),boxes:=[],rows:=X4c con x,olds:=XbK (X1a 0 con.shA (X8p con x))}:=by unfold X8a;rw[hio']
    rw[e]
    have e2:({st0 with rows:=(mkD X6N (con.ownA++con.backA) F 0 cs (flat con.A x)++D2).map X74.row++st0.rows}:St)={nt:=fn.ntmps,slots:=[],boxes:=[],rows:=X4c con x}:=by
     simp only[st0,D2,hb',Xgh,Xgd,List.append_nil,hrowsA]
    rw[e2]at hS1
    have hfs:∀j,X14 σ1 (X4c con x) [] M (((pre++vs).toArray++Array.replicate (fn.ntmps - (pre++vs).toArray.size) undef).getD j undef) (match look j (X1a 0 con.shA (X8p con x)) with | some sv=>sv | none=>.und):=fun j=>by
     have:=frameS (boxes:=[]) (rows:=X4c con x) (fun g hg=>by rw[hb']at hg;cases hg) j
     rw[hpre0]at this;exact this
    exact {hS1 with
     slots:=hfs
     hot:=hS1.hot.still rfl fun _ h=>h
     olds:=olds (a:={tmps:=(pre++vs).toArray++Array.replicate (fn.ntmps - (pre++vs).toArray.size) undef,defers:=[]}) hfs}
  | some g=>
    have hio':con.io=true:=by rw[hio,hb'];rfl
    have hpre0:pre.length=1:=by rw[hpl,hio']
    obtain⟨arr,E,q1,q2,q3⟩:=hiv g hb'
    have e:X8a con fn.ntmps i x={nt:=fn.ntmps,slots:=(0,.box 0 0)::X1a 1 con.shA (X8p con x),boxes:=[(0,X63 Xae con.ownI 0 (flat con.I i))],rows:=X4c con x++X2w Xae con.ownI 0 (flat con.I i),olds:=XbK ((0,.box 0 0)::X1a 1 con.shA (X8p con x))}:=by unfold X8a;rw[hio']
    rw[e]
    have e2:({st0 with rows:=(mkD X6N (con.ownA++con.backA) F 0 cs (flat con.A x)++D2).map X74.row++st0.rows}:St)={nt:=fn.ntmps,slots:=[],boxes:=[(0,X9L ivs.length)],rows:=X4c con x++X2w Xae con.ownI 0 (flat con.I i)}:=by
     simp only[st0,D2,hb',Xgh,Xgd,List.append_nil,List.map_append,hrowsA,X7j 0 q3.len]
    rw[e2]at hS1
    have hsb:σ1.box 0=g:=by rw[r3];show b.getD 0=g;rw[hb'];rfl
    have hS2:=hS1.setBox (k:=0) (ds:=X63 Xae con.ownI 0 (flat con.I i)) (by simp[St.box,look]) (fun arr' E' ha=>by
     rw[hsb,q1]at ha;cases ha
     rw[q2]
     exact XaQ q3 (.inr rfl) fun z hz=>(r1 z (List.mem_append.2 (.inr (by simp only[D2,hb',Xgd];exact hz)))).1)
    have hE:∀(ds:List X00) (rows:List (Nat×X0e)),Ext {nt:=fn.ntmps,slots:=[],boxes:=[(0,ds),(0,X9L ivs.length)],rows:=rows} {nt:=fn.ntmps,slots:=[],boxes:=[(0,ds)],rows:=rows}:=fun ds rows=>⟨rfl,fun _=>rfl,fun k=>by simp only[St.box,look];split<;>rfl,fun _=>rfl,fun _=>Iff.rfl⟩
    have hS3:Sim P w M ios σ1 M w {tmps:=(pre++vs).toArray++Array.replicate (fn.ntmps - (pre++vs).toArray.size) undef,defers:=[]} {nt:=fn.ntmps,slots:=[],boxes:=[(0,X63 Xae con.ownI 0 (flat con.I i))],rows:=X4c con x++X2w Xae con.ownI 0 (flat con.I i)}:=Sim.ext (hE _ _) hS2
    have hfs:∀j,X14 σ1 (X4c con x++X2w Xae con.ownI 0 (flat con.I i)) [(0,X63 Xae con.ownI 0 (flat con.I i))] M (((pre++vs).toArray++Array.replicate (fn.ntmps - (pre++vs).toArray.size) undef).getD j undef) (match look j ((0,.box 0 0)::X1a 1 con.shA (X8p con x)) with | some sv=>sv | none=>.und):=fun j=>by
     rw[X01]
     by_cases hj:0=j
     · subst hj
       simp only[if_true]
       have hp:pre=[.pointer (some ⟨g,0,none⟩)]:=by simp only[pre,hb',Xhz]
       rw[hp,Xdg _ _ _ (by simp)]
       exact⟨by rw[hsb];rfl,rfl⟩
     · rw[if_neg hj]
       have:=frameS (boxes:=[(0,X63 Xae con.ownI 0 (flat con.I i))]) (rows:=X4c con x++X2w Xae con.ownI 0 (flat con.I i)) (fun g hg=>rfl) j
       rw[hpre0]at this;exact this
    exact {hS3 with
     slots:=hfs
     hot:=hS3.hot.still rfl fun _ h=>h
     olds:=olds (a:={tmps:=(pre++vs).toArray++Array.replicate (fn.ntmps - (pre++vs).toArray.size) undef,defers:=[]}) hfs}
 have hpins:∀j e,(j,e)∈con.backA→∃u,cs[j]?=some u∧(X6N j,u)∈ios.rows:=fun j e hm=>by
  have:(look j (con.ownA++con.backA)).isSome=true:=X7W.2 ⟨e,List.mem_append.2 (.inr hm)⟩
  obtain⟨e2,he2⟩:=Option.isSome_iff_exists.1 this
  obtain⟨u,_,_,hu,_⟩:=hown.own j e2 he2
  exact⟨u,hu,List.mem_map.2 ⟨(j,e),hm,by rw[X7N hu]⟩⟩
 have fin:∀(σ':Sg) (M':Mem) (w':World) (a':Act) (st':St),Sim P w M ios σ' M' w' a' st'→K i x st'→
  a'.defers=[]∧∃v,(results fn a'.tmps).run P w'=.ok v w'∧Ret P con w M (X2D con b F FI) b cs i x (.returned v) w':=fun σ' M' w' a' st' hS' hK=>hfin ios w M cs i x σ' M' w' a' st' hpins hio (fun e1 e2 e3=>by
   show X2D con b F FI=[]
   have hb0:b=none:=by rw[e1]at hio;cases hb':b with | none=>rfl | some g=>rw[hb']at hio;cases hio
   rw[hb0];unfold X2D;rw[e2,e3];rfl) hS' hK
 refine XfW hm hT hΓ c _ _ _ _ σ1 M w _ hS ?_ (h i x hpre (fun hio'=>?_) (Xd6 hown hM nd2))
 · intro e σ' M' w' a' st' hS' hK
   cases e with
   | normal=>exact fin _ _ _ _ _ hS' hK
   | ret=>exact fin _ _ _ _ _ hS' hK
   | exit id=>exact hK.elim
 · cases hb':b with
   | none=>rw[hio,hb']at hio';cases hio'
   | some g=>
     obtain⟨arr,E,_,_,q3⟩:=hiv g hb'
     exact Xd6 q3 hM (ndI g hb').1
theorem Xgx{con:Con}{rs:List ResultVar}{tys:List TypeId}{i:El con.I}{x:El con.A}:XgP tab con rs tys i x=XhI (Xhi tab con rs tys i x):=by
 funext e st;cases e<;>rfl
theorem Xcz{con:Con}(L:(i:El con.I)→El con.A→Nat→Option X0i){n:FuncId}{fn:Func}{c:Code}(hm:P.follows .mixedOrders=true)(hT:X0o P tab)(hΓ:X6Z P Γ)(hf:P.funcs[n]?=some fn)(hb:fn.body=some c)(tys:List TypeId)(hB:conB tab con fn.ntmps=true)(h:∀i x,con.pre i x→(con.io=true→Wf con.I i)→Wf con.A x→vc tab Γ (L i x) c 1 (X8a con fn.ntmps i x) (XgP tab con fn.results.toList tys i x)):X0D P n con:=by
 unfold conB at hB
 simp only[Bool.and_eq_true,Bool.not_eq_true',decide_eq_true_eq]at hB
 obtain⟨⟨⟨⟨⟨hA,hI⟩,hR⟩,hnew⟩,hsz⟩,hnt⟩:=hB
 exact Xfh (fun i x st=>Xhi tab con fn.results.toList tys i x st) L hm hT hΓ hf hb hA hI hsz hnt (fun ios base M0 acs i x σ M w' a st hpins hio _ hS hK=>XgC hT hpins hio hnew hR hI hS hK) (fun i x h1 h2 h3=>by rw[←Xgx];exact h i x h1 h2 h3)
end Go.Proofs.Ytegmokdppbagiaa.Bv
namespace Go.Proofs.Ytegmokdppbagiaa.Bv
def XgR:Value→Value→Bool
 | .int k n,.int k' n'=>decide (k=k')&&decide (n=n')
 | .bool b,.bool b'=>b==b'
 | .string s,.string s'=>decide (s.data.size=0)&&decide (s'.data.size=0)
 | .slice none 0 0,.slice none 0 0=>true
 | _,_=>false
def Xan:List Value→List Value→Bool
 | [],[]=>true
 | a::l,b::r=>XgR a b&&Xan l r
 | _,_=>false
theorem XfB{a b:Value}(h:XgR a b=true):a=b:=by
 unfold XgR at h
 split at h
 · simp only[Bool.and_eq_true,decide_eq_true_eq]at h
   obtain⟨rfl,rfl⟩:=h;rfl
 · simp at h;subst h;rfl
 · rename_i s s'
   simp only[Bool.and_eq_true,decide_eq_true_eq]at h
   obtain⟨⟨d⟩⟩:=s
   obtain⟨⟨d'⟩⟩:=s'
   simp at h
   rw[h.1,h.2]
 · rfl
 · cases h
theorem Xbb:∀{l r:List Value},Xan l r=true→l=r
 | [],[],_=>rfl
 | [],_::_,h=>by simp[Xan]at h
 | _::_,[],h=>by simp[Xan]at h
 | a::l,b::r,h=>by
   simp only[Xan,Bool.and_eq_true]at h
   rw[XfB h.1,Xbb h.2]
def XdB:List Field→List (Nat×TypeId)→Bool
 | [],[]=>true
 | f::l,p::r=>(f.offset==p.1)&&(f.type==p.2)&&XdB l r
 | _,_=>false
theorem XcX:∀{l:List Field} {r:List (Nat×TypeId)},XdB l r=true→l.map (fun f=>(f.offset,f.type))=r
 | [],[],_=>rfl
 | [],_::_,h=>by simp[XdB]at h
 | _::_,[],h=>by simp[XdB]at h
 | f::l,p::r,h=>by
   simp only[XdB,Bool.and_eq_true,beq_iff_eq]at h
   simp[XcX h.2,h.1.1,h.1.2]
def XfH(tab:Tab)(ti:TI):Option TypeDesc→Bool
 | some (.struct fs)=>ti.agg&&XdB fs.toList ti.fields&&ti.fields.all (fun p=>(look p.2 tab).isSome)
 | some (.int k)=>!ti.agg&&(match ti.ty with | .int k'=>decide (k=k') | _=>false)
 | some .bool=>!ti.agg&&(match ti.ty with | .bool=>true | _=>false)
 | some .string=>!ti.agg&&(match ti.ty with | .str=>true | _=>false)
 | some (.slice e)=>!ti.agg&&(match ti.ty with | .list _=>e==ti.elem | _=>false)
 | _=>false
def XeJ(ti:TI):Option TypeInfo→Bool
 | some i=>(i.size==size ti.ty)&&(i.bytes==ti.bytes)&&(match i.zero with | some z=>Xan z.cells.toList (zeros ti.ty) | none=>false)
 | none=>false
def X8t(P:Program)(tab:Tab):List (TypeId×TI)→Bool
 | []=>true
 | (t,ti)::l=>XeJ ti (P.info? t)&&XfH tab ti (P.underlying t)&&X8t P tab l
theorem XdW{P:Program}{tab:Tab}{t:TypeId}{ti:TI}(h:XfH tab ti (P.underlying t)=true):
 if ti.agg then ∃fs,P.underlying t=some (.struct fs)∧fs.toList.map (fun f=>(f.offset,f.type))=ti.fields∧(∀p∈ti.fields,(look p.2 tab).isSome=true)
 else match ti.ty with
  | .int k=>P.underlying t=some (.int k)
  | .bool=>P.underlying t=some .bool
  | .str=>P.underlying t=some .string
  | .list _=>P.underlying t=some (.slice ti.elem)
  | _=>False:=by
 unfold XfH at h
 split at h
 · rename_i fs hu
   simp only[Bool.and_eq_true,List.all_eq_true]at h
   rw[if_pos h.1.1]
   exact⟨fs,hu,XcX h.1.2,h.2⟩
 all_goals first
  | (rename_i hu
     simp only[Bool.and_eq_true,Bool.not_eq_true']at h
     rw[if_neg (by rw[h.1];simp)]
     obtain⟨_,h2⟩:=h
     split at h2
     · simp_all
     · cases h2)
  | cases h
theorem XfQ{P:Program}{tab:Tab}(h:X8t P tab tab=true):X0o P tab:=by
 intro t ti hl
 have key:∀l:List (TypeId×TI),X8t P tab l=true→(t,ti)∈l→XeJ ti (P.info? t)=true∧XfH tab ti (P.underlying t)=true:=by
  intro l
  induction l with
  | nil=>intro _ hm;cases hm
  | cons p l ih=>
    intro hc hm
    obtain⟨t',ti'⟩:=p
    simp only[X8t,Bool.and_eq_true]at hc
    rcases List.mem_cons.1 hm with e | hm
    · cases e;exact hc.1
    · exact ih hc.2 hm
 obtain⟨h1,h2⟩:=key tab h (X15 hl)
 refine⟨?_,XdW h2⟩
 unfold XeJ at h1
 split at h1
 · rename_i i hi
   simp only[Bool.and_eq_true,beq_iff_eq]at h1
   obtain⟨⟨h3,h4⟩,h5⟩:=h1
   split at h5
   · rename_i z hz
     exact⟨i,z,hi,h3,h4,hz,Xbb h5⟩
   · cases h5
 · cases h1
def gam(l:List (Nat×Con))(tk:List Nat)(eqs:List (TypeId×Ty)):Gam:={con:=fun n=>look n l,tk:=tk,eqs:=eqs}
theorem XgY(P:Program)(tk:List Nat){eqs:List (TypeId×Ty)}(he:Xgc P eqs):X6Z P (gam [] tk eqs):=⟨(by intro n con h;cases h),he⟩
theorem XfL{P:Program}{m:Nat}{c:Con}{l:List (Nat×Con)}{tk:List Nat}{eqs:List (TypeId×Ty)}(hf:FnOk P m)(hc:X0D P m c)(h:X6Z P (gam l tk eqs)):X6Z P (gam ((m,c)::l) tk eqs):=by
 refine⟨?_,h.2⟩
 intro n con hn
 have hn':look n ((m,c)::l)=some con:=hn
 rw[X01]at hn'
 split at hn'
 · rename_i e;subst e;cases hn';exact⟨hf,hc⟩
 · exact h.1 n con hn'
theorem X04{b:Bool}{X Y:Prop}:X02 b X Y↔(b=true→X)∧(b=false→Y):=⟨X7i,fun h=>XfK h.1 h.2⟩
def eqF(d:Nat)(xs ys:Array Value):List (Bool×TypeId×Nat)→Sem Bool
 | []=>pure true
 | (nm,t,o)::l=>if nm=true then do
     let a ←part t xs o
     let b ←part t ys o
     let r ←Op.equalIn d t a b
     if (!r)=true then pure false else eqF d xs ys l
   else eqF d xs ys l
theorem X88{d:Nat}{xs ys:Array Value}:∀(fs:List Field),Op.eqFields d xs ys fs=eqF d xs ys (fs.map fun f=>(decide (f.name≠ "_"),f.type,f.offset))
 | []=>rfl
 | f::fs=>by
   simp only[Op.eqFields,List.map_cons,eqF,X88 fs,decide_eq_true_eq]
theorem Xdp{P:Program}{w:World}{d:Nat}{xs ys:Array Value}{t o:Nat}{l:List (Bool×TypeId×Nat)}{u v:Value}{r r':Bool}(h1:(part t xs o).run P w=.ok u w)(h2:(part t ys o).run P w=.ok v w)(h3:(Op.equalIn d t u v).run P w=.ok r w)(h4:(eqF d xs ys l).run P w=.ok r' w):
 (eqF d xs ys ((true,t,o)::l)).run P w=.ok (r&&r') w:=by
 simp only[eqF,if_true,Sem.run_bind,h1,h2,h3,Result.andThen_ok]
 cases r
 · simp
 · simp only[Bool.not_true,Bool.false_eq_true,if_false,Bool.true_and];exact h4
end Go.Proofs.Ytegmokdppbagiaa.Bv
namespace Go.Proofs.Ytegmokdppbagiaa.Bv
open Go.WideShapes Go.RowKit
def WfD:(t:Ty)→El t→Prop
 | .int k,n=>k.min≤n∧n≤k.max
 | .str,s=>List.length s≤maxLen
 | .list t,l=>List.length l≤maxLen∧∀x,x∈(show List (El t) from l)→WfD t x
 | .pair a b,x=>WfD a x.1∧WfD b x.2
 | _,_=>True
def X86:List Ty→Ty
 | []=>.unit
 | [a]=>a
 | a::b::r=>.pair a (X86 (b::r))
def X7y(tab:Tab):Nat→List (Nat×TypeId)→Option (List Ty)
 | _,[]=>some []
 | off,(o,t)::r=>match look t tab with
   | some ti=>match decide (o=off),X7y tab (off+size ti.ty) r with
     | true,some l=>some (ti.ty::l)
     | _,_=>none
   | none=>none
def X50(tab:Tab):List (TypeId×TI)→Bool
 | []=>true
 | (_,ti)::l=>(match ti.agg,ti.ty with
   | true,ty=>(match X7y tab 0 ti.fields with | some tys=>decide (ty=X86 tys) | none=>false)
   | false,.list τ=>(match look ti.elem tab with | some te=>decide (te.ty=τ) | none=>false)
   | _,_=>true)&&X50 tab l
variable {P:Program} {tab:Tab} {M:Mem} {w:World} {H:Type} {enc:TypeId×Value→H}
theorem X0v.at2{α β:Type}{R:α→β→Prop}{as:List α}{bs:List β}(h:X0v R as bs){j:Nat}{a:α}{b:β}(ha:as[j]?=some a)(hb:bs[j]?=some b):R a b:=by
 obtain⟨a',h1,h2⟩:=h.get hb
 rw[ha]at h1;cases h1;exact h2
theorem X9C:∀{l:List (TypeId×TI)},X50 tab l=true→∀{t ti},(t,ti)∈l→ti.agg=true→∃tys,X7y tab 0 ti.fields=some tys∧ti.ty=X86 tys
 | [],_,_,_,hm,_=>by cases hm
 | (t',ti')::l,h,t,ti,hm,ha=>by
   simp only[X50,Bool.and_eq_true]at h
   rcases List.mem_cons.1 hm with e | hm
   · cases e
     have h1:=h.1
     rw[ha]at h1
     simp only at h1
     split at h1
     · rename_i tys htys;exact⟨tys,htys,by simpa using h1⟩
     · cases h1
   · exact X9C h.2 hm ha
theorem X8f:∀{l:List (TypeId×TI)},X50 tab l=true→∀{t ti τ},(t,ti)∈l→ti.agg=false→ti.ty=.list τ→∃te,look ti.elem tab=some te∧te.ty=τ
 | [],_,_,_,_,hm,_,_=>by cases hm
 | (t',ti')::l,h,t,ti,τ,hm,ha,ht=>by
   simp only[X50,Bool.and_eq_true]at h
   rcases List.mem_cons.1 hm with e | hm
   · cases e
     have h1:=h.1
     rw[ha,ht]at h1
     simp only at h1
     split at h1
     · rename_i te hte;exact⟨te,hte,by simpa using h1⟩
     · cases h1
   · exact X8f h.2 hm ha ht
theorem X8O{α:Type}{R:Nat→α→Prop}:∀{n:Nat},(∀i,i<n→∃x,R i x)→∃l:List α,l.length=n∧∀i x,l[i]?=some x→R i x
 | 0,_=>⟨[],rfl,fun i x h=>by simp at h⟩
 | n+1,h=>by
   obtain⟨l,hl,hr⟩:=X8O (n:=n) fun i hi=>h i (by omega)
   obtain⟨x,hx⟩:=h n (by omega)
   refine⟨l++[x],by simp[hl],fun i y hy=>?_⟩
   rw[List.getElem?_append]at hy
   split at hy
   · exact hr i y hy
   · rename_i hi
     have:i=l.length:=by
      have:=(List.getElem?_eq_some_iff.1 hy).1
      simp at this;omega
     subst this
     simp at hy
     subst hy
     rw[hl];exact hx
theorem X6Q(hT:X0o P tab){t:TypeId}{ti:TI}(h:look t tab=some ti):P.cellsOf t=size ti.ty:=by
 obtain⟨i,_,hi,hs,_⟩:=(hT t ti h).info
 simp[Program.cellsOf,hi,hs]
def RdW(w:World)(τ:Ty)(cs:List Value):Prop:=∃x:El τ,RdC (fun ad=>w.cell? ad) τ cs x∧WfD τ x
theorem Xbx{rec_:TypeId→List Value→Option (DataW H×List MemPlace)}(hT:X0o P tab)(hrec:∀t ti cs y,look t tab=some ti→rec_ t cs=some y→RdW w ti.ty cs){cs:List Value}:
 ∀{fs:List Field} {off:Nat} {tys:List Ty} {ys:List (DataW H×List MemPlace)},X7y tab off (fs.map fun f=>(f.offset,f.type))=some tys→
 fs.mapM (fun f=>rec_ f.type ((cs.drop f.offset).take (P.cellsOf f.type)))=some ys→cs.length=off+size (X86 tys)→RdW w (X86 tys) (cs.drop off)
 | [],off,tys,ys,h,_,hl=>by
   simp only[List.map_nil,X7y,Option.some.injEq]at h
   subst h
   refine⟨(),?_,trivial⟩
   show cs.drop off=[]
   simp only[X86,size]at hl
   exact List.drop_eq_nil_of_le (by omega)
 | f::fs,off,tys,ys,h,hm,hl=>by
   simp only[List.map_cons,X7y]at h
   split at h
   · rename_i ti hti
     split at h
     · rename_i l ho hr
       cases h
       have hoff:f.offset=off:=by simpa using ho
       rw[List.mapM_cons]at hm
       cases hf:rec_ f.type ((cs.drop f.offset).take (P.cellsOf f.type)) with
       | none=>simp[hf]at hm
       | some y=>
         cases hms:fs.mapM (fun f=>rec_ f.type ((cs.drop f.offset).take (P.cellsOf f.type))) with
         | none=>simp[hf,hms]at hm
         | some ys'=>
           have h1:=hrec _ _ _ _ hti hf
           rw[hoff,X6Q hT hti]at h1
           cases l with
           | nil=>
             simp only[X86]at hl ⊢
             rw[List.take_of_length_le (by rw[List.length_drop];omega)]at h1
             exact h1
           | cons b r=>
             simp only[X86,size]at hl ⊢
             have h2:=Xbx hT hrec hr hms (by omega)
             obtain⟨x1,hx1,hw1⟩:=h1
             obtain⟨x2,hx2,hw2⟩:=h2
             refine⟨(x1,x2),⟨_,_,?_,hx1,hx2⟩,hw1,hw2⟩
             rw[←List.drop_drop,List.take_append_drop]
     · cases h
   · cases h
theorem Xco(hT:X0o P tab)(hc:X50 tab tab=true):∀(fuel:Nat) (t:TypeId) (ti:TI) (cs:List Value) (y:DataW H×List MemPlace),look t tab=some ti→
 DataW.trod enc P w 0 (fun _=>true) true fuel t cs=some y→RdW w ti.ty cs
 | 0,t,ti,cs,y,_,h=>by simp[DataW.trod]at h
 | fuel+1,t,ti,cs,y,hl,h=>by
   have hu:=(hT t ti hl).und
   have hmem:=X15 hl
   have hsz:=X6Q hT hl
   have hor:=h
   unfold DataW.trod at h
   cases ha:ti.agg with
   | true=>
     rw[if_pos ha]at hu
     obtain⟨fs,hfs,hff,_⟩:=hu
     obtain⟨tys,htys,hty⟩:=X9C hc hmem ha
     rw[hfs]at h
     simp only at h
     split at h
     · rename_i hlen
       rw[Option.map_eq_some_iff]at h
       obtain⟨ys,hys,_⟩:=h
       rw[←hff]at htys
       rw[hty]at hsz ⊢
       have:=Xbx (w:=w) (rec_:=fun t cs=>DataW.trod enc P w 0 (fun _=>true) true fuel t cs) hT (fun t ti cs y h1 h2=>Xco hT hc fuel t ti cs y h1 h2) (cs:=cs) htys hys (by rw[hlen,hsz,Nat.zero_add])
       rw[List.drop_zero]at this
       exact this
     · cases h
   | false=>
     rw[if_neg (by rw[ha];simp)]at hu
     cases hty:ti.ty with
     | int k=>
       rw[hty]at hu
       simp only at hu
       rw[hu]at h
       split at h<;>simp_all
       rename_i k' n _
       obtain⟨⟨rfl,hwf⟩,_⟩:=h
       refine⟨n,rfl,?_⟩
       simp only[Lit.wf,Bool.and_eq_true,decide_eq_true_eq]at hwf
       exact hwf
     | bool=>
       rw[hty]at hu
       simp only at hu
       rw[hu]at h
       split at h<;>simp_all
       exact⟨_,rfl,trivial⟩
     | str=>
       rw[hty]at hu
       simp only at hu
       rw[hu]at h
       split at h<;>simp_all
       rename_i s
       refine⟨s.data.toList,?_,?_⟩
       · simp[RdC]
       · obtain⟨d⟩:=s
         have:=h.1
         simpa [WfD,ByteArray.size] using this
     | list τ=>
       rw[hty]at hu
       simp only at hu
       obtain⟨te,hte,rfl⟩:=X8f hc hmem ha hty
       have hes:=X6Q hT hte
       rcases DataW.trod_slice hu hor with⟨rfl,_⟩ | ⟨a,len,cap,elems,rest,n,hn,rfl,_,_,hle,hm,hlen,hel,_⟩
       · exact⟨[],RdC.nilSlice _ _,by simp[WfD]⟩
       · obtain rfl:n=fuel:=by omega
         obtain⟨l,hll,hR⟩:=X8O (n:=len) (R:=fun i x=>∃vs,w.cells? 0 (a.add (i*size te.ty)) (size te.ty)=some vs∧RdC (fun ad=>w.cell? ad) te.ty vs x∧WfD te.ty x) fun i hi=>by
          have h1:=hel i hi
          obtain⟨y',hy'⟩:∃y',elems[i]?=some y':=⟨elems[i],by simp[hlen,hi]⟩
          rw[hy',hes]at h1
          obtain⟨vs,hv1,hv2⟩:=Option.bind_eq_some_iff.1 h1
          obtain⟨x,hx,hwx⟩:=Xco hT hc n _ te vs y' hte hv2
          exact⟨x,vs,hv1,hx,hwx⟩
         refine⟨l,⟨some a,cap,by rw[hll],by omega,hm,fun i hi=>?_⟩,by simp[hll];omega,fun x hx=>?_⟩
         · obtain⟨vs,h1,h2,_⟩:=hR i _ (List.getElem?_eq_getElem hi)
           obtain⟨_,hvl,hvc⟩:=World.cells?_some h1
           refine⟨a,vs,rfl,hvl,fun j u hu=>?_,h2⟩
           have hj:=(List.getElem?_eq_some_iff.1 hu).1
           have:=hvc j (by omega)
           rw[hu]at this
           rw[←this]
           show w.cell? (a.add (i*size te.ty+j))=w.cell? ((a.add (i*size te.ty)).add j)
           rw[Addr.add_add]
         · obtain⟨i,hi,e⟩:=List.getElem_of_mem hx
           obtain⟨_,_,_,h3⟩:=hR i x (by rw[←e];exact List.getElem?_eq_getElem hi)
           exact h3
     | unit=>rw[hty]at hu;exact hu.elim
     | pair a b=>rw[hty]at hu;exact hu.elim
def shOf(ti:TI):Sh:=if ti.agg then .agg (size ti.ty) else .one
theorem Xf9(hT:X0o P tab)(hc:X50 tab tab=true){r:Reach}{b0:Nat}{t:TypeId}{ti:TI}{v:Value}{d:DataW H}{ps:List MemPlace}(hl:look t tab=some ti)(hval:Value.okWide P w r b0 t v)(h:DataW.Trod enc P w 0 (fun _=>true) true t v d ps):
 ∃x:El ti.ty,RdC (fun ad=>w.cell? ad) ti.ty v.cells.toList x∧WfD ti.ty x∧Xgm (fun ad=>w.cell? ad) none (shOf ti) v v.cells.toList:=by
 obtain⟨fuel,hf⟩:=h
 obtain⟨x,hx,hw⟩:=Xco hT hc fuel t ti _ _ hl hf
 refine⟨x,hx,hw,?_⟩
 have hu:=(hT t ti hl).und
 unfold shOf
 cases ha:ti.agg with
 | true=>
   rw[if_pos ha]at hu
   obtain⟨fs,hfs,_⟩:=hu
   obtain⟨cs,rfl,_⟩:=okWide_struct hfs hval
   rw[if_pos rfl]
   exact⟨hx.length,cs,rfl,rfl⟩
 | false=>
   rw[if_neg (by rw[ha];simp)]at hu
   rw[if_neg (by simp)]
   have:X4a v=false∧v.cells.toList=[v]:=by
    cases hty:ti.ty with
    | int k=>rw[hty]at hu;obtain⟨n,rfl⟩:=okWide_int hu hval;exact⟨rfl,rfl⟩
    | bool=>rw[hty]at hu;obtain⟨n,rfl⟩:=okWide_bool hu hval;exact⟨rfl,rfl⟩
    | str=>rw[hty]at hu;obtain⟨n,rfl⟩:=okWide_string hu hval;exact⟨rfl,rfl⟩
    | list τ=>rw[hty]at hu;obtain⟨a,l,c,rfl⟩:=okWide_slice hu hval;exact⟨rfl,rfl⟩
    | unit=>rw[hty]at hu;exact hu.elim
    | pair a b=>rw[hty]at hu;exact hu.elim
   exact⟨this.2,this.1⟩
def XcQ(A:Ty)(shA:List Sh):Con:={A:=A,shA:=shA,R:=.bool,shR:=[(false,1)],pre:=fun _ x=>WfD A x,f:=some fun _ _=>(true,((),()))}
theorem XgG{A:Ty}{shA:List Sh}{n:FuncId}(h:X0D P n (XcQ A shA)){vs cs:List Value}{x:El A}(ha:X6a (fun ad=>w.cell? ad) none shA vs cs)(hx:RdC (fun ad=>w.cell? ad) A cs x)(hw:WfD A x):
 Calls P n vs.toArray w fun e w'=>e=.returned (.bool true)∧Below w.heap.size w w':=by
 have hrd:=X73 _ _ _ hx
 have:=h w (fun ad=>w.cell? ad) vs cs () x (fun _=>[]) (fun _=>[]) none (fun _ _ h=>h) ha ⟨hrd.length,fun j u c _ hu hc=>hrd.at2 hu hc,fun j e hj=>by cases hj⟩ rfl (fun g hg=>by cases hg) List.nodup_nil (fun g hg=>by cases hg) hw
 refine Calls.mono this ?_
 intro e w' hret
 obtain⟨rs,y,cs',M',FR,FI,FB,nb,he,hpost,_,_,hf,_,hnr,hown,_⟩:=hret.ex
 subst he
 obtain⟨_,hres⟩:=hnr
 have hy:y.1=true:=by have:y=(true,((),())):=hpost;rw[this]
 have hcs:cs'=[.bool true]:=by
  have hl:=hown.len
  have h0:(flat Ty.bool y.1)=[X00.bool true]:=by rw[hy];rfl
  have hl':cs'.length=1:=by rw[hl];rfl
  match cs',hl' with
  | [u],_=>
    have:=hown.rd 0 u (.bool true) rfl rfl (by show(flat Ty.bool y.1)[0]?=_;rw[h0];rfl)
    rw[show u=Value.bool true from this]
 subst hcs
 refine⟨?_,hf.os,hf.tape,hf.output,hf.size,fun k hk=>hf.block k hk (fun hm=>by cases hm)⟩
 have hres':X8W [(false,1)] rs [Value.bool true]:=hres
 generalize hs:[(false,1)]=shs at hres'
 generalize hc:[Value.bool true]=cs0 at hres'
 cases hres' with
 | nil=>cases hs
 | @cons ag m v shs' vs' cs2 h1 h2 h3=>
   cases hs
   cases h3
   have hv:v.cells.toList=[.bool true]:=by simpa using hc.symm
   have:v=.bool true:=by
    cases v<;>simp[Value.cells,X4a]at hv h2<;>simp[hv]
   rw[this];rfl
end Go.Proofs.Ytegmokdppbagiaa.Bv
