/- Walks of Go functions by value:the library,part 4 of 4. -/
import Derived.Test.YtakllifahpfmpaaWC
import Derived.ChangeKeysEq
import Derived.KernelRfl
import Derived.IntWalk
import Derived.Carry
import Derived.WalkKit
import Derived.ProofKit
import Derived.OpenShut
import Derived.SizedLaws
set_option linter.unusedVariables false
set_option linter.unusedSimpArgs false
namespace Go.Proofs.Ytakllifahpfmpaa.Bv
variable {P:Program} {base:World} {M0:Mem} {ios:Ios} {σ:Sg} {M:Mem} {w:World} {a:Act} {st:St} {tab:Tab} {Γ:Gam}
def Xht(ms:List Nat):List Edge→Nat
 | []=>0
 | e::r=>match Region.binds .any e with
   | true=>(2 ^ e.on|||ms.getD e.on 0)|||Xht ms r
   | false=>Xht ms r
def X6s:List Oper→List Nat→List Nat
 | [],ms=>ms
 | o::l,ms=>X6s l (ms++[Xht ms o.after.toList])
theorem Xbi{ms:List Nat}{i:Nat}:∀{es:List Edge},(Xht ms es).testBit i=true→∃e∈es,Region.binds .any e=true∧(e.on=i∨(ms.getD e.on 0).testBit i=true)
 | [],h=>by simp[Xht]at h
 | e::r,h=>by
   simp only[Xht]at h
   split at h
   · rename_i hb
     simp only[Nat.testBit_or,Bool.or_eq_true,Nat.testBit_two_pow,decide_eq_true_eq]at h
     rcases h with h | h
     · exact⟨e,by simp,hb,h⟩
     · obtain⟨e',h1,h2,h3⟩:=Xbi h;exact⟨e',List.mem_cons_of_mem _ h1,h2,h3⟩
   · obtain⟨e',h1,h2,h3⟩:=Xbi h;exact⟨e',List.mem_cons_of_mem _ h1,h2,h3⟩
def XgH(j:Nat):List Edge→Bool
 | []=>true
 | e::r=>(match Region.binds .any e with | true=>decide (e.on<j) | false=>true)&&XgH j r
theorem XaB{j:Nat}:∀{es:List Edge},XgH j es=true→∀e∈es,Region.binds .any e=true→e.on<j
 | [],_,e,he,_=>by cases he
 | e::r,h,e',he,hb=>by
   simp only[XgH,Bool.and_eq_true]at h
   rcases List.mem_cons.1 he with h1 | h1
   · subst h1;rw[hb]at h;simpa using h.1
   · exact XaB h.2 e' h1 hb
def Xi6(o:Oper):List Nat:=match o.dst with
 | some d=>[d]
 | none=>[]
theorem Xb3{o:Oper}{d:Nat}(h:o.dst=some d):d∈Xi6 o:=by simp[Xi6,h]
def Xfu(S B R:List Nat)(o:Oper)(x:Option Eff):Bool:=X7u (Xi6 o) S&&X7u (tB o x) B&&X7u (tR x) R
theorem XcR{S B R:List Nat}{o:Oper}{x:Option Eff}(h:Xfu S B R o x=true):XcI S B R o x:=by
 simp only[Xfu,Bool.and_eq_true]at h
 exact⟨fun d hd=>X3e h.1.1 d (Xb3 hd),X3e h.1.2,X3e h.2⟩
def XeZ(o:Oper)(x:Option Eff)(o':Oper)(x':Option Eff):Bool:=X7u (Xi6 o) (Xi6 o')&&X7u (tB o x) (tB o' x')&&X7u (tR x) (tR x')
theorem Xdf{o o':Oper}{x x':Option Eff}(h:XeZ o x o' x'=true):XbB o x o' x':=by
 simp only[XeZ,Bool.and_eq_true]at h
 exact⟨fun d hd e=>X3e h.1.1 d (Xb3 hd) (Xb3 e),X3e h.1.2,X3e h.2⟩
def XcP:Option Eff→Option Eff
 | some e=>some {e with krow:=[]}
 | none=>none
def X9r:List (Oper×Option Eff)→List (Oper×Option Eff)
 | []=>[]
 | (o,x)::l=>(o,XcP x)::X9r l
structure Sub (s s':St):Prop where
 slots:∀p∈s.slots,p∈s'.slots
 boxes:∀p∈s.boxes,p∈s'.boxes
 rows:∀p∈s.rows,p∈s'.rows
theorem X5F{k:Nat}:∀{l:List (Nat×Sv)},X2V k l=true↔∀p∈l,XeI k p.2=true
 | []=>by simp[X2V]
 | p::l=>by simp[X2V,X5F (l:=l)]
theorem X5y{k:Nat}:∀{l:List (Nat×Sv)},X45 k l=true↔∀p∈l,Xdq k p.2=true
 | []=>by simp[X45]
 | p::l=>by simp[X45,X5y (l:=l)]
theorem X5x{k:Nat}:∀{l:List (Nat×List X00)},X2D k l=true↔∀p∈l,Xcd k p.2=true
 | []=>by simp[X2D]
 | p::l=>by simp[X2D,X5x (l:=l)]
theorem X5H{r ver:Nat}:∀{l:List (Nat×Sv)},X3k r ver l=true↔∀p∈l,X8B r ver p.2=true
 | []=>by simp[X3k]
 | p::l=>by simp[X3k,X5H (l:=l)]
theorem X5E{r ver:Nat}:∀{l:List (Nat×List X00)},X3r r ver l=true↔∀p∈l,X3W r ver p.2=true
 | []=>by simp[X3r]
 | p::l=>by simp[X3r,X5E (l:=l)]
theorem Sub.noVers{s s':St}(h:Sub s s'):∀{l:List (Nat×X0f)},noVers s' l=true→noVers s l=true
 | [],_=>rfl
 | (r,.hot _ _ _ ver _ _)::l,hn=>by
   simp only[Bv.noVers,Bool.and_eq_true]at hn ⊢
   exact⟨⟨X5H.2 fun p hp=>X5H.1 hn.1.1 p (h.slots p hp),X5E.2 fun p hp=>X5E.1 hn.1.2 p (h.boxes p hp)⟩,h.noVers hn.2⟩
 | (r,.cold _)::l,hn=>by simp only[Bv.noVers]at hn ⊢;exact h.noVers hn
 | (r,.frz _ _ _ _ _)::l,hn=>by simp only[Bv.noVers]at hn ⊢;exact h.noVers hn
theorem Sub.noTag{s s':St}(h:Sub s s'){r:Nat}(hn:noTag r s'=true):noTag r s=true:=by
 unfold Bv.noTag at hn ⊢
 simp only[Bool.and_eq_true,Bool.not_eq_true']at hn ⊢
 refine⟨⟨X5y.2 fun p hp=>X5y.1 hn.1.1 p (h.slots p hp),X5x.2 fun p hp=>X5x.1 hn.1.2 p (h.boxes p hp)⟩,?_⟩
 cases hs:(look r s.rows).isSome with
 | false=>rfl
 | true=>
   obtain⟨x,hx⟩:=X8m.1 hs
   have:(look r s'.rows).isSome=true:=X8m.2 ⟨x,h.rows _ hx⟩
   rw[this]at hn;exact absurd hn.2 (by simp)
theorem Sub.noTags{s s':St}(h:Sub s s'):∀{l:List (Nat×X0f)},noTags s' l=true→noTags s l=true
 | [],_=>rfl
 | p::l,hn=>by
   simp only[Bv.noTags,Bool.and_eq_true]at hn ⊢
   exact⟨h.noTag hn.1,h.noTags hn.2⟩
theorem Sub.fresh{s s':St}(h:Sub s s'){e:Eff}{d:Option Nat}(hf:X10 e d s'=true):X10 e d s=true:=by
 unfold X10 at hf ⊢
 simp only[Bool.and_eq_true]at hf ⊢
 refine⟨⟨⟨?_,h.noTags hf.1.1.2⟩,h.noVers hf.1.2⟩,hf.2⟩
 have h1:=hf.1.1.1
 split at h1
 · exact X5F.2 fun p hp=>X5F.1 h1 p (h.slots p hp)
 · rfl
theorem Xel{e:Eff}{rows rows':List (Nat×X0f)}(h:∀p∈rows,p∈rows'):∀p∈e.rowsOf rows,p∈({e with krow:=[]}:Eff).rowsOf rows':=fun p hp=>by
 rw[X2j]at hp ⊢
 rcases List.mem_append.1 hp with h1 | h1
 · exact List.mem_append.2 (.inl h1)
 · refine List.mem_append.2 (.inr ?_)
   have h2:=(List.mem_filter.1 h1).1
   refine List.mem_filter.2 ⟨?_,rfl⟩
   rcases List.mem_append.1 h2 with h3 | h3
   · exact List.mem_append.2 (.inl h3)
   · exact List.mem_append.2 (.inr (h p h3))
theorem XcF{e:Eff}{rows:List (Nat×X0f)}:∀p∈rows,p∈({e with krow:=[]}:Eff).rowsOf rows:=fun p hp=>by
 rw[X2j]
 exact List.mem_append.2 (.inr (List.mem_filter.2 ⟨List.mem_append.2 (.inr hp),rfl⟩))
theorem Sub.both{s s':St}(h:Sub s s')(o:Oper)(x:Option Eff):Sub (X0o o x s) (X0o o (XcP x) s'):=by
 cases x with
 | none=>
   simp only[X0o,XcP,X2Z]
   cases o.dst with
   | none=>exact h
   | some d=>
     refine⟨fun p hp=>?_,h.boxes,h.rows⟩
     rcases List.mem_cons.1 hp with e | e
     · exact e▸List.mem_cons_self
     · exact List.mem_cons_of_mem _ (h.slots p e)
 | some e=>
   simp only[X0o,XcP,Eff.apply]
   refine⟨?_,?_,?_⟩
   · intro p hp
     cases hd:o.dst with
     | none=>rw[hd]at hp;exact h.slots p hp
     | some d=>
       rw[hd]at hp
       rcases List.mem_cons.1 hp with e2 | e2
       · exact e2▸List.mem_cons_self
       · exact List.mem_cons_of_mem _ (h.slots p e2)
   · intro p hp
     simp only at hp ⊢
     cases hs:e.sbox<;>cases hd:o.dst<;>cases hn:e.nbox<;>simp only[hs,hd,hn,List.mem_cons]at hp ⊢
     all_goals first
      | exact h.boxes p hp
      | (rcases hp with e2 | e2
         · exact .inl e2
         · first
           | exact .inr (h.boxes p e2)
           | (rcases e2 with e3 | e3
              · exact .inr (.inl e3)
              · exact .inr (.inr (h.boxes p e3))))
   · exact Xel h.rows
theorem Sub.right{s s':St}(h:Sub s s')(o:Oper)(x:Option Eff):Sub s (X0o o (XcP x) s'):=by
 cases x with
 | none=>
   simp only[X0o,XcP,X2Z]
   cases o.dst with
   | none=>exact h
   | some d=>exact⟨fun p hp=>List.mem_cons_of_mem _ (h.slots p hp),h.boxes,h.rows⟩
 | some e=>
   simp only[X0o,XcP,Eff.apply]
   refine⟨?_,?_,?_⟩
   · intro p hp
     cases hd:o.dst with
     | none=>exact h.slots p hp
     | some d=>exact List.mem_cons_of_mem _ (h.slots p hp)
   · intro p hp
     have:=h.boxes p hp
     cases hs:e.sbox<;>cases hd:o.dst<;>cases hn:e.nbox<;>simp[this]
   · exact fun p hp=>XcF p (h.rows p hp)
theorem Sub.mix{L L':Nat→Bool}(hL:∀i,L i=true→L' i=true):∀{l:List (Oper×Option Eff)} {k:Nat} {s s':St},Sub s s'→Sub (X3q L k l s) (X3q L' k (X9r l) s')
 | [],_,_,_,h=>h
 | (o,x)::l,k,s,s',h=>by
   simp only[X3q,X9r]
   refine Sub.mix hL ?_
   cases h1:L k
   · cases h2:L' k
     · exact h
     · exact h.right o x
   · rw[hL k h1];exact h.both o x
def Xdl(ms:List Nat)(zl:List (Oper×Option Eff))(S B R:List Nat)(o:Oper)(x:Option Eff)(j:Nat):Nat→Bool
 | 0=>true
 | i+1=>(i==j||(ms.getD j 0).testBit i||(ms.getD i 0).testBit j||(match zl[i]? with
    | some (o',x')=>Xfu S B R o' x'&&XeZ o x o' x'
    | none=>false))&&Xdl ms zl S B R o x j i
theorem X9p{ms:List Nat}{zl:List (Oper×Option Eff)}{S B R:List Nat}{o:Oper}{x:Option Eff}{j:Nat}:∀{n:Nat},Xdl ms zl S B R o x j n=true→
 ∀i<n,i≠j→(ms.getD j 0).testBit i=false→(ms.getD i 0).testBit j=false→∀o' x',zl[i]?=some (o',x')→XcI S B R o' x'∧XbB o x o' x'
 | 0,_,i,hi,_,_,_,_,_,_=>by omega
 | n+1,h,i,hi,hne,h1,h2,o',x',hz=>by
   simp only[Xdl,Bool.and_eq_true,Bool.or_eq_true,beq_iff_eq]at h
   by_cases he:i=n
   · subst he
     rcases h.1 with((h3 | h3) | h3) | h3
     · exact absurd h3 hne
     · rw[h1]at h3;cases h3
     · rw[h2]at h3;cases h3
     · rw[hz]at h3
       simp only[Bool.and_eq_true]at h3
       exact⟨XcR h3.1,Xdf h3.2⟩
   · exact X9p h.2 i (by omega) hne h1 h2 o' x' hz
def Xhb(s:St)(o:Oper):List Nat:=Xgk s o.op.operands.toList
def XeJ(s:St)(o:Oper):List Nat:=Xh2 s o.op.operands.toList
def X9S(all:List Oper)(o:Oper):List Nat:=X5K o.op.operands.toList++XfH all o
def X7K:Option X0f→Bool
 | some (.frz ..)=>true
 | _=>false
def Xau(o:Oper):Bool:=match o.op with
 | .move _=>true
 | .assign _=>true
 | _=>false
def nfE(r:Nat):Option Eff→Bool
 | some e=>(e.nrow++e.urow).all fun q=>!(q.1==r&&X7K (some q.2))
 | none=>true
def nfB(zl:List (Oper×Option Eff))(s0:St):List Nat→Bool
 | []=>true
 | r::l=>!X7K (s0.rowv r)&&(zl.all fun p=>nfE r p.2)&&nfB zl s0 l
theorem XdI{zl:List (Oper×Option Eff)}{s0:St}:∀{l:List Nat},nfB zl s0 l=true→∀r∈l,X7K (s0.rowv r)=false∧∀p∈zl,nfE r p.2=true
 | [],_,r,hr=>by cases hr
 | r0::l,h,r,hr=>by
   simp only[nfB,Bool.and_eq_true,Bool.not_eq_true',List.all_eq_true]at h
   rcases List.mem_cons.1 hr with e | hr
   · subst e;exact⟨h.1.1,h.1.2⟩
   · exact XdI h.2 r hr
theorem XgD{o:Oper}{x:Option Eff}{s:St}{r:Nat}(h:X7K (s.rowv r)=false)(he:nfE r x=true):X7K ((X0o o x s).rowv r)=false:=by
 cases x with
 | none=>
   have:(X0o o none s).rowv r=s.rowv r:=by simp only[X0o,X2Z];cases o.dst<;>rfl
   rw[this];exact h
 | some e=>
   simp only[nfE,List.all_eq_true]at he
   have hrows:(X0o o (some e) s).rowv r=look r (e.nrow++X07 e.urow e.krow s.rows):=by
    simp only[X0o,Eff.apply,St.rowv,X2j]
   rw[hrows,X24]
   have mem:∀rv,(r,rv)∈e.nrow++e.urow→X7K (some rv)=false:=fun rv hm=>by
    have:=he (r,rv) hm
    simpa using this
   cases hl:look r e.nrow with
   | some rv=>exact mem rv (List.mem_append.2 (.inl (X1a hl)))
   | none=>
     simp only
     cases hl2:look r (X07 e.urow e.krow s.rows) with
     | none=>rfl
     | some rv=>
       rcases(X1y hl2).2 with h1 | ⟨_,h1⟩
       · exact mem rv (List.mem_append.2 (.inr (X1a h1)))
       · have h2:s.rowv r=some rv:=h1
         rw[h2]at h;exact h
theorem XfN{r:Nat}{L:Nat→Bool}:∀{l:List (Oper×Option Eff)} {k:Nat} {s:St},X7K (s.rowv r)=false→(∀p∈l,nfE r p.2=true)→X7K ((X3q L k l s).rowv r)=false
 | [],_,_,h,_=>h
 | (o,x)::l,k,s,h,he=>by
   simp only[X3q]
   refine XfN ?_ fun p hp=>he p (List.mem_cons_of_mem _ hp)
   cases L k
   · exact h
   · exact XgD h (he (o,x) (by simp))
theorem Xhe{rows:List (Nat×X0f)}{c:X00}(h:∀r,Xim c=some r→X7K (look r rows)=false):Xcp rows c=c:=by
 cases c<;>first | rfl | skip
 · rename_i t r
   have h1:=h r rfl
   simp only[Xcp]
   split
   · rename_i hl;rw[hl]at h1;cases h1
   · rfl
 · rename_i t r lo hi
   have h1:=h r rfl
   simp only[Xcp]
   split
   · rename_i hl;rw[hl]at h1;cases h1
   · rfl
 · rename_i t l r ver p
   have h1:=h r rfl
   simp only[Xcp]
   split
   · rename_i hl;rw[hl]at h1;cases h1
   · rfl
theorem XaV{rows:List (Nat×X0f)}:∀{cs:List X00},(∀r∈X5D cs,X7K (look r rows)=false)→X54 rows cs=cs
 | [],_=>rfl
 | c::cs,h=>by
   simp only[X54]
   rw [Xhe fun r hr=>h r (X9u (by simp) hr),XaV fun r hr=>h r (by
    simp only[X5D];split
    · exact List.mem_cons_of_mem _ hr
    · exact hr)]
theorem Xfw{rows:List (Nat×X0f)}:∀{l:List (Bool×List X00)},(∀r∈XcL l,X7K (look r rows)=false)→resL rows l=l
 | [],_=>rfl
 | (a,cs)::l,h=>by
   simp only[resL]
   rw[XaV fun r hr=>h r (by simp[XcL,hr]),Xfw fun r hr=>h r (by simp[XcL,hr])]
theorem Xgq{rows:List (Nat×X0f)}{sv:Sv}(h:∀r∈X3m sv,X7K (look r rows)=false):X5w rows sv=sv:=by
 cases sv<;>first | rfl | skip
 · simp only[X5w];rw[XaV h]
 · simp only[X5w];rw[Xfw h]
 · rename_i cs r ver
   have h1:=h r (by simp[X3m])
   simp only[X5w]
   split
   · rename_i hl;rw[hl]at h1;cases h1
   · rfl
theorem X8p{α:Type}{l:List (Nat×α)}{r:Nat}:∀{ks:List Nat} {x:α},look r (pick l ks)=some x→look r l=some x
 | [],x,h=>by cases h
 | k::ks,x,h=>by
   simp only[pick]at h
   split at h
   · rename_i y hy
     rw[X01]at h
     split at h
     · rename_i e;subst e;cases h;exact hy
     · exact X8p h
   · exact X8p h
theorem Xaq{s:St}{x:Operand}(h:∀r∈opR s x,X7K (s.rowv r)=false):(X0Z s x).sv=match x with | .tmp t=>s.get t | .const v=>X7c v | .func f=>.fn f [] [] | .global _=>.und:=by
 cases x with
 | tmp t=>
   show X5w _ (s.get t)=s.get t
   refine Xgq fun r hr=>?_
   have h1:=h r (by simp[opR,hr])
   cases hl:look r (pick s.rows (X3m (s.get t)++X6E (pick s.boxes (X1u (s.get t))))) with
   | none=>rfl
   | some rv=>
     have h2:s.rowv r=some rv:=X8p hl
     rw[h2]at h1;exact h1
 | _=>rfl
theorem Xe6{o:Oper}{s s':St}(hm:Xau o=true)(h:∀x∈o.op.operands.toList,(X0Z s' x).sv=(X0Z s x).sv):X5z tab Γ o s'=X5z tab Γ o s:=by
 have gen:∀(x:Operand),(o.op=.move x∨o.op=.assign x)→∀st:St,X5z tab Γ o st=some ([],({sv:=X8S tab o.type (X0Z st x).sv}:Eff).frz []):=fun x hx st=>by
  rcases hx with hx | hx
  · have ho:o.op.operands.toList=[x]:=by rw[hx];rfl
    unfold X5z
    simp only[ho,List.map_cons,List.map_nil]
    have hc:X1E Γ o [X0Z st x]=none:=by unfold X1E;rw[hx]
    have hn:X3d tab Γ o [X0Z st x]=[]:=by unfold X3d;rw[hc,hx]
    rw[hn]
    show X6A tab Γ o [] [X0Z st x]=_
    unfold X6A
    rw[hc]
    simp only[List.map_nil,X2n,X73,hx]
  · have ho:o.op.operands.toList=[x]:=by rw[hx];rfl
    unfold X5z
    simp only[ho,List.map_cons,List.map_nil]
    have hc:X1E Γ o [X0Z st x]=none:=by unfold X1E;rw[hx]
    have hn:X3d tab Γ o [X0Z st x]=[]:=by unfold X3d;rw[hc,hx]
    rw[hn]
    show X6A tab Γ o [] [X0Z st x]=_
    unfold X6A
    rw[hc]
    simp only[List.map_nil,X2n,X73,hx]
 unfold Xau at hm
 split at hm
 · rename_i x hx
   rw[gen x (.inl hx) s',gen x (.inl hx) s,h x (by rw[hx];simp[Op.operands])]
 · rename_i x hx
   rw[gen x (.inr hx) s',gen x (.inr hx) s,h x (by rw[hx];simp[Op.operands])]
 · cases hm
def X7B(o:Oper):Bool:=match o.op with
 | .move _=>true
 | .assign _=>true
 | .nilCheck _=>true
 | .fieldAddr _ _ _=>true
 | .load _ _=>true
 | _=>false
def XcO(o:Oper):Bool:=match o.op with
 | .load _ _=>false
 | _=>true
def X8h(s:St)(o:Oper):Bool:=X7B o&&match o.op.operands.toList with
 | [.tmp t]=>match s.get t with
   | .box _ _=>XcO o
   | .pp _ _=>true
   | _=>false
 | _=>false
def XaF(zl:List (Oper×Option Eff))(s0 s:St)(o:Oper):List Nat:=match X8h s o||(Xau o&&nfB zl s0 (XeJ s o)) with
 | true=>[]
 | false=>XeJ s o
def X9y(s:St)(o:Oper):List Nat:=match X8h s o with
 | true=>[]
 | false=>Xhb s o
def Xet(o:Oper):Sv→Bool
 | .box _ _=>XcO o
 | .pp _ _=>true
 | _=>false
theorem Xch{s:St}{o:Oper}(h:X8h s o=true):X7B o=true∧∃t,o.op.operands.toList=[.tmp t]∧Xet o (s.get t)=true:=by
 unfold X8h at h
 rw[Bool.and_eq_true]at h
 obtain⟨h1,h2⟩:=h
 refine⟨h1,?_⟩
 split at h2
 · rename_i t ht
   refine⟨t,ht,?_⟩
   split at h2
   · rename_i k f hk;rw[hk];exact h2
   · rename_i k f hk;rw[hk];rfl
   · cases h2
 · cases h2
theorem Xf1{o:Oper}{x y:In}(hp:X7B o=true)(hx:Xet o x.sv=true)(hxy:y.sv=x.sv):X73 tab Γ o [y]=X73 tab Γ o [x]:=by
 unfold X7B at hp
 cases hsv:x.sv<;>rw[hsv]at hx<;>simp only[Xet]at hx<;>try (cases hx;done)
 all_goals
  rw[hsv]at hxy
  split at hp<;>rename_i hop<;>first
   | (cases hp;done)
   | (simp only[X73,hop,hsv,hxy];done)
   | (unfold XcO at hx;rw[hop]at hx;cases hx)
theorem Xf7{o:Oper}{s s':St}{t:Nat}(hp:X7B o=true)(hops:o.op.operands.toList=[.tmp t])(h:Xet o (s.get t)=true)(hs:s'.get t=s.get t):X5z tab Γ o s'=X5z tab Γ o s:=by
 have hin:∀st:St,Xet o (st.get t)=true→(X0Z st (.tmp t)).sv=st.get t:=fun st h=>by
  show X5w _ (st.get t)=st.get t
  cases hg:st.get t<;>rw[hg]at h<;>simp only[Xet]at h<;>first | rfl | (cases h;done)
 have gen:∀st:St,X5z tab Γ o st=match X73 tab Γ o [X0Z st (.tmp t)] with | some (ps,e)=>some (ps,e.frz []) | none=>none:=fun st=>by
  unfold X5z
  simp only[hops,List.map_cons,List.map_nil]
  have hc:X1E Γ o [X0Z st (.tmp t)]=none:=by
   unfold X7B at hp
   unfold X1E
   split at hp<;>rename_i hop<;>first | (cases hp;done) | (rw[hop])
  have hn:X3d tab Γ o [X0Z st (.tmp t)]=[]:=by
   unfold X7B at hp
   unfold X3d
   rw[hc]
   split at hp<;>rename_i hop<;>first | (cases hp;done) | (rw[hop])
  rw[hn]
  show X6A tab Γ o [] [X0Z st (.tmp t)]=_
  unfold X6A
  rw[hc]
  simp only[List.map_nil,X2n]
  rfl
 rw[gen s',gen s,Xf1 hp (x:=X0Z s (.tmp t)) (by rw[hin s h];exact h) (by rw[hin s h,hin s' (by rw[hs];exact h),hs])]
def XfS(all:List Oper)(ms:List Nat)(zl:List (Oper×Option Eff))(s0:St)(j:Nat)(o:Oper)(x:Option Eff):Bool:=
 XgH j o.after.toList&&(ms.getD j 0==Xht ms o.after.toList)&&decide (ms.getD j 0<2 ^ j)&&
 Xdl ms zl (X9S all o) (X9y (X0r (zl.take j) s0) o) (XaF zl s0 (X0r (zl.take j) s0) o) o x j zl.length&&
 (match x with | some e=>X10 e o.dst (X3q (fun i=>!(i==j||(ms.getD i 0).testBit j)) 0 (X9r zl) s0) | none=>true)
def Xgd(all:List Oper)(ms:List Nat)(zl:List (Oper×Option Eff))(s0:St):Nat→List (Oper×Option Eff)→Bool
 | _,[]=>true
 | j,(o,x)::l=>XfS all ms zl s0 j o x&&Xgd all ms zl s0 (j+1) l
theorem X8b{all:List Oper}{ms:List Nat}{zl:List (Oper×Option Eff)}{s0:St}:∀{l:List (Oper×Option Eff)} {k:Nat},Xgd all ms zl s0 k l=true→∀j o x,l[j]?=some (o,x)→XfS all ms zl s0 (k+j) o x=true
 | [],_,_,j,o,x,hj=>by simp at hj
 | (o,x)::l,k,h,j,o',x',hj=>by
   simp only[Xgd,Bool.and_eq_true]at h
   cases j with
   | zero=>simp at hj;obtain⟨rfl,rfl⟩:=hj;exact h.1
   | succ j=>rw[show k+(j+1)=k+1+j by omega];exact X8b h.2 j o' x' (by simpa using hj)
def Xa8(all:List Oper)(outs:List (Option Eff))(s0:St):Bool:=Xgd all (X6s all []) (all.zip outs) s0 0 (all.zip outs)
end Go.Proofs.Ytakllifahpfmpaa.Bv
namespace Go.Proofs.Ytakllifahpfmpaa.Bv
def X8y(nt:Nat):List Oper→Bool
 | []=>true
 | o::l=>(match o.dst with | some d=>decide (d<nt) | none=>true)&&X8y nt l
variable {P:Program} {base:World} {M0:Mem} {ios:Ios} {σ:Sg} {M:Mem} {w:World} {a:Act} {st:St} {tab:Tab} {Γ:Gam} {Q:Exit→Act→World→Prop}
theorem X6b{nt:Nat}:∀{l:List Oper},X8y nt l=true→∀o∈l,∀d,o.dst=some d→d<nt
 | [],_,o,ho,_,_=>by cases ho
 | o::l,h,o',ho',d,hd=>by
   simp only[X8y,Bool.and_eq_true]at h
   rcases List.mem_cons.1 ho' with e | e
   · subst e;rw[hd]at h;simpa using h.1
   · exact X6b h.2 o' e d hd
theorem X6N{ops:Array Oper}{o:Oper}{c:Bool}(hS:Sim P base M0 ios σ M w a st)(h:X6i ops.toList o st=some c):Region.wanted o (yielded ops a.tmps)=c:=by
 unfold X6i at h
 cases hg:o.guard with
 | none=>rw[hg]at h;cases h;simp[Region.wanted,hg]
 | some g=>
   obtain⟨j,wn⟩:=g
   rw[hg]at h
   simp only at h
   cases hj:X2x ops.toList j with
   | none=>rw[hj]at h;cases h
   | some d=>
     rw[hj]at h
     simp only at h
     split at h
     · rename_i b hb
       cases h
       simp only[Region.wanted,hg,XaC hj (hS.boolAt hb)]
       cases b<;>cases wn<;>rfl
     · rename_i hb
       cases h
       have hs:=hS.slots d
       rw[hb]at hs
       obtain⟨vs,hv,h2⟩:=hs
       have hvs:vs=#[]:=by
        have:vs.toList=[]:=by
         cases hl:vs.toList with
         | nil=>rfl
         | cons x l=>rw[hl]at h2;cases h2
        simpa using this
       rw[hvs]at hv
       simp only[Region.wanted,hg,X9c hj hv]
       rfl
     · cases h
theorem Xd6{L:Nat→Bool}:∀{l:List (Oper×Option Eff)} {k:Nat} {s:St},(X3q L k l s).nt=s.nt
 | [],_,_=>rfl
 | (o,x)::l,k,s=>by
   simp only[X3q,Xd6 (l:=l)]
   cases L k
   · rfl
   · exact X7x _ _ _
theorem X6t{L:Nat→Bool}:∀{l:List (Oper×Option Eff)} {k:Nat} {s:St},(∀i,k≤i→L i=false)→X3q L k l s=s
 | [],_,_,_=>rfl
 | (o,x)::l,k,s,h=>by
   simp only[X3q,h k (Nat.le_refl _),cond_false]
   exact X6t fun i hi=>h i (by omega)
theorem X7j:∀{l:List (Oper×Option Eff)} {j k:Nat} {s:St},X0r (l.take j) s=X3q (fun i=>decide (i<k+j)) k l s
 | [],j,k,s=>by simp[X0r,X3q]
 | (o,x)::l,0,k,s=>by
   rw[X6t (fun i hi=>by simp;omega)]
   rfl
 | (o,x)::l,j+1,k,s=>by
   rw[List.take_succ_cons,X2w]
   simp only[X3q,show decide (k<k+(j+1))=true by simp,cond_true]
   rw[X7j (k:=k+1)]
   congr 1
   funext i
   rw[show k+1+j=k+(j+1) by omega]
theorem Xbk{p q:Nat→Bool}:∀{l:List Nat},(∀x,q x=true→p x=true)→(∃x∈l,p x=true∧q x=false)→l.countP q<l.countP p
 | [],_,⟨x,hx,_⟩=>by cases hx
 | y::l,h,⟨x,hx,hp,hq⟩=>by
   have hle:l.countP q≤l.countP p:=List.countP_mono_left fun z _=>h z
   rcases List.mem_cons.1 hx with e | hx
   · subst e
     rw[List.countP_cons_of_pos hp,List.countP_cons_of_neg (by simp[hq])]
     omega
   · have ih:=Xbk h ⟨x,hx,hp,hq⟩
     by_cases hy:p y=true
     · rw[List.countP_cons_of_pos hy]
       by_cases hy':q y=true
       · rw[List.countP_cons_of_pos hy'];omega
       · rw[List.countP_cons_of_neg hy'];omega
     · rw[List.countP_cons_of_neg hy,List.countP_cons_of_neg (fun e=>hy (h y e))]
       exact ih
def unl(n:Nat)(listed:Array Bool):Nat:=(List.range n).countP fun i=>!listed.getD i false
theorem X5G{listed:Array Bool}{i:Nat}(h:i<listed.size)(b c:Bool):listed.getD i b=listed.getD i c:=by
 rw[Array.getD_eq_getD_getElem?,Array.getD_eq_getD_getElem?,Array.getElem?_eq_getElem h];rfl
theorem X3G{listed:Array Bool}{i:Nat}(h:i<listed.size)(j:Nat):(listed.setIfInBounds i true).getD j false=(listed.getD j false||j==i):=by
 by_cases hj:i=j
 · subst hj
   have:(listed.setIfInBounds i true).getD i false=true:=by
    rw[Array.getD_eq_getD_getElem?,Array.getElem?_setIfInBounds_self_of_lt h];rfl
   rw[this];simp
 · rw[getD_set_ne false hj]
   have:(j==i)=false:=by simp[Ne.symm hj]
   rw[this,Bool.or_false]
theorem X63{ops:Array Oper}{outs:List (Option Eff)}{st0:St}(hlen:outs.length=ops.toList.length)(hok:Xa8 ops.toList outs st0=true){listed:Array Bool}(hsz:listed.size=ops.size)(hcl:∀j,listed.getD j false=true→∀i,((X6s ops.toList []).getD j 0).testBit i=true→listed.getD i false=true){i:Nat}{o:Oper}{x:Option Eff}(hli:listed.getD i false=false)(hed:∀e∈o.after,Region.binds .any e=true→listed.getD e.on false=true)(hx:(ops.toList.zip outs)[i]?=some (o,x)):
 (∀k,((X6s ops.toList []).getD i 0).testBit k=true→listed.getD k false=true)∧
 (∀k o' x',(ops.toList.zip outs)[k]?=some (o',x')→k≠i→((k<i∧listed.getD k false=false)∨(i<k∧listed.getD k false=true))→XcI (X9S ops.toList o) (X9y (X0r ((ops.toList.zip outs).take i) st0) o) (XaF (ops.toList.zip outs) st0 (X0r ((ops.toList.zip outs).take i) st0) o) o' x'∧XbB o x o' x')∧
 X6k (X9S ops.toList o) (X9y (X0r ((ops.toList.zip outs).take i) st0) o) (XaF (ops.toList.zip outs) st0 (X0r ((ops.toList.zip outs).take i) st0) o) (X0r ((ops.toList.zip outs).take i) st0) (X3q (fun j=>listed.getD j false) 0 (ops.toList.zip outs) st0)∧
 (∀k,listed.getD k false=true→((X6s ops.toList []).getD k 0).testBit i=false)∧
 (∀e,x=some e→X10 e o.dst (X3q (fun k=>!(k==i||((X6s ops.toList []).getD k 0).testBit i)) 0 (X9r (ops.toList.zip outs)) st0)=true):=by
 have one:=fun(j:Nat) (o:Oper) (x:Option Eff) (hj:(ops.toList.zip outs)[j]?=some (o,x))=>by
  have:=X8b (k:=0) hok j o x hj
  rw[Nat.zero_add]at this
  exact this
 have h1:=one i o x hx
 simp only[XfS,Bool.and_eq_true,beq_iff_eq,decide_eq_true_eq]at h1
 obtain⟨⟨⟨⟨hback,hms⟩,hml⟩,hpair⟩,hfresh⟩:=h1
 have hanc:∀k,((X6s ops.toList []).getD i 0).testBit k=true→listed.getD k false=true:=by
  intro k hk
  rw[hms]at hk
  obtain⟨e,he,hb,h3⟩:=Xbi hk
  have hon:=hed e (by simpa using he) hb
  rcases h3 with h3 | h3
  · rw[←h3];exact hon
  · exact hcl _ hon k h3
 have hbits:∀k o' x',(ops.toList.zip outs)[k]?=some (o',x')→∀m,k≤m→((X6s ops.toList []).getD k 0).testBit m=false:=by
  intro k o' x' hk m hm
  have h2:=one k o' x' hk
  simp only[XfS,Bool.and_eq_true,decide_eq_true_eq]at h2
  exact Nat.testBit_lt_two_pow (Nat.lt_of_lt_of_le h2.1.1.2 (Nat.pow_le_pow_right (by omega) hm))
 have clear:∀k o' x',(ops.toList.zip outs)[k]?=some (o',x')→k≠i→((k<i∧listed.getD k false=false)∨(i<k∧listed.getD k false=true))→XcI (X9S ops.toList o) (X9y (X0r ((ops.toList.zip outs).take i) st0) o) (XaF (ops.toList.zip outs) st0 (X0r ((ops.toList.zip outs).take i) st0) o) o' x'∧XbB o x o' x':=by
  intro k o' x' hk hne hc
  refine X9p hpair k (List.getElem?_eq_some_iff.1 hk).1 hne ?_ ?_ o' x' hk
  · rcases hc with⟨_,h2⟩ | ⟨h2,_⟩
    · cases hb:((X6s ops.toList []).getD i 0).testBit k with
      | false=>rfl
      | true=>rw[hanc k hb]at h2;cases h2
    · exact hbits i o x hx k (by omega)
  · rcases hc with⟨h2,_⟩ | ⟨_,h2⟩
    · exact hbits k o' x' hk i (by omega)
    · cases hb:((X6s ops.toList []).getD k 0).testBit i with
      | false=>rfl
      | true=>have:=hcl k h2 i hb;rw[hli]at this;cases this
 refine⟨hanc,clear,?_,?_,fun e he=>by subst he;exact hfresh⟩
 · have e0:=X7j (l:=ops.toList.zip outs) (j:=i) (k:=0) (s:=st0)
   refine X6k.trans (s':=X3q (fun k=>decide (k<0+i)) 0 (ops.toList.zip outs) st0) (by rw[←e0];exact⟨fun _ _=>rfl,fun _ _=>rfl,fun _ _=>rfl⟩) ?_
   refine Xc5 (fun k o' x' hk hne=>?_) ⟨fun _ _=>rfl,fun _ _=>rfl,fun _ _=>rfl⟩
   simp only[Nat.zero_add]at hne
   have hki:k≠i:=by intro e;subst e;rw[hli]at hne;simp at hne
   refine(clear k o' x' hk hki ?_).1
   by_cases hlt2:k<i
   · left;refine⟨hlt2,?_⟩
     cases h4:listed.getD k false with
     | false=>rfl
     | true=>rw[h4]at hne;simp[hlt2]at hne
   · right;refine⟨by omega,?_⟩
     cases h4:listed.getD k false with
     | true=>rfl
     | false=>rw[h4]at hne;simp[hlt2]at hne
 · intro k hk
   cases hkb:((X6s ops.toList []).getD k 0).testBit i with
   | false=>rfl
   | true=>have:=hcl k hk i hkb;rw[hli]at this;cases this
theorem XbF(hT:X0q P tab)(hΓ:X72 P Γ){ops:Array Oper}{outs:List (Option Eff)}{st0:St}(past:Nat→Prop)(stop:Nat)(hdst:X8y st0.nt ops.toList=true)(hlen:outs.length=ops.toList.length)(hok:Xa8 ops.toList outs st0=true)(hlate:∀j,stop<j→j<ops.size→((X6s ops.toList []).getD j 0).testBit stop=true)(hgood:∀j o x,¬past j→j<stop→(ops.toList.zip outs)[j]?=some (o,x)→XfB tab Γ ops.toList (X0r ((ops.toList.zip outs).take j) st0) o x)(hq:ops.size≤stop→∀σ M w a,Sim P base M0 ios σ M w a (X0r (ops.toList.zip outs) st0)→Q .normal a w)(hst:∀(fuel:Nat) (listed:Array Bool) (σ:Sg) (M:Mem) (w:World) (a:Act) (o:Oper),listed.size=ops.size→unl ops.size listed≤fuel+1→
   (∀j,listed.getD j false=true→∀i,((X6s ops.toList []).getD j 0).testBit i=true→listed.getD i false=true)→(∀j,stop≤j→listed.getD j false=false)→
   ops[stop]?=some o→(∀e∈o.after,Region.binds .any e=true→listed.getD e.on false=true)→Sim P base M0 ios σ M w a (X3q (fun j=>listed.getD j false) 0 (ops.toList.zip outs) st0)→
   wpOp P ops Q stop (wpAny P .any ops Q fuel (listed.setIfInBounds stop true)) a w):
 ∀(fuel:Nat) (listed:Array Bool) (σ:Sg) (M:Mem) (w:World) (a:Act),listed.size=ops.size→unl ops.size listed≤fuel→
  (∀j,listed.getD j false=true→∀i,((X6s ops.toList []).getD j 0).testBit i=true→listed.getD i false=true)→(∀j,past j→listed.getD j false=true)→(∀j,stop≤j→listed.getD j false=false)→
  Sim P base M0 ios σ M w a (X3q (fun j=>listed.getD j false) 0 (ops.toList.zip outs) st0)→wpAny P .any ops Q fuel listed a w:=by
 have zlen:(ops.toList.zip outs).length=ops.size:=by simp[List.length_zip,hlen]
 have done:∀(listed:Array Bool) (σ:Sg) (M:Mem) (w:World) (a:Act),(∀j,j<ops.size→listed.getD j false=true)→(∀j,stop≤j→listed.getD j false=false)→Sim P base M0 ios σ M w a (X3q (fun j=>listed.getD j false) 0 (ops.toList.zip outs) st0)→Q .normal a w:=by
  intro listed σ M w a hall hsp hS
  refine hq (Nat.le_of_not_lt fun hlt=>by have:=hall stop hlt;rw[hsp stop (Nat.le_refl _)]at this;cases this) σ M w a ?_
  unfold X0r
  rw[X9N (L:=fun _=>true) (L':=fun j=>listed.getD j false) _ (fun i hi=>by rw[Nat.zero_add];exact(hall i (by omega)).symm)]
  exact hS
 have one:=fun(j:Nat) (o:Oper) (x:Option Eff) (hj:(ops.toList.zip outs)[j]?=some (o,x))=>by
  have:=X8b (k:=0) hok j o x hj
  rw[Nat.zero_add]at this
  exact this
 have nothing:∀(listed:Array Bool),listed.size=ops.size→Region.ready .any ops listed=[]→∀j,j<ops.size→listed.getD j false=true:=by
  intro listed hsz hr j
  induction j using Nat.strongRecOn with
  | _ j ih=>
    intro hj
    cases hl:listed.getD j false with
    | true=>rfl
    | false=>
      exfalso
      have:j∈Region.ready .any ops listed:=by
       refine mem_ready.2 ⟨by rw[X5G (by omega) true false];exact hl,ops[j],by simp[hj],fun e he hb=>?_⟩
       have hz:∃x,(ops.toList.zip outs)[j]?=some (ops[j],x):=by
        have:j<outs.length:=by simp at hlen;omega
        exact⟨outs[j],by rw[List.getElem?_zip_eq_some];simp[hj,this]⟩
       obtain⟨x,hx⟩:=hz
       have h1:=one j _ x hx
       simp only[XfS,Bool.and_eq_true]at h1
       have:=XaB h1.1.1.1.1 e (by simpa using he) hb
       exact ih e.on this (by omega)
      rw[hr]at this
      cases this
 intro fuel
 induction fuel with
 | zero=>
   intro listed σ M w a hsz hu hcl hpa hsp hS
   have hall:∀j,j<ops.size→listed.getD j false=true:=by
    intro j hj
    cases hl:listed.getD j false with
    | true=>rfl
    | false=>
      exfalso
      have:0<(List.range ops.size).countP fun i=>!listed.getD i false:=List.countP_pos_iff.2 ⟨j,by simpa using hj,by simp only[hl];rfl⟩
      unfold unl at hu
      omega
   refine⟨?_,done listed σ M w a hall hsp hS⟩
   cases hr:Region.ready .any ops listed with
   | nil=>rfl
   | cons i r=>
     have hi:i∈Region.ready .any ops listed:=by rw[hr];simp
     obtain⟨h1,o,ho,_⟩:=mem_ready.1 hi
     have hlt:=(Array.getElem?_eq_some_iff.1 ho).1
     rw[X5G (by omega) true false,hall i hlt]at h1
     cases h1
 | succ fuel ih=>
   intro listed σ M w a hsz hu hcl hpa hsp hS
   refine⟨fun hr=>done listed σ M w a (nothing listed hsz hr) hsp hS,fun i hi=>?_⟩
   obtain⟨hli,o,ho,hed⟩:=mem_ready.1 hi
   have hlt:=(Array.getElem?_eq_some_iff.1 ho).1
   rw[X5G (by omega) true false]at hli
   obtain⟨x,hx⟩:∃x,(ops.toList.zip outs)[i]?=some (o,x):=by
    have h2:i<outs.length:=by simp at hlen;omega
    have h3:ops[i]=o:=(Array.getElem?_eq_some_iff.1 ho).2
    exact⟨outs[i],by rw[List.getElem?_zip_eq_some];simp[hlt,h2,h3]⟩
   obtain⟨hanc,clear,hag,hdown,hfresh⟩:=X63 hlen hok hsz hcl hli hed hx
   rcases Nat.lt_trichotomy i stop with his | his | his
   rotate_left
   · subst his
     exact hst fuel listed σ M w a o hsz hu hcl hsp ho hed hS
   · have:=hanc stop (hlate i his hlt)
     rw[hsp stop (Nat.le_refl _)]at this;cases this
   have hins:X5z tab Γ o (X3q (fun j=>listed.getD j false) 0 (ops.toList.zip outs) st0)=X5z tab Γ o (X0r ((ops.toList.zip outs).take i) st0):=by
    cases hpm:X8h (X0r ((ops.toList.zip outs).take i) st0) o with
    | true=>
      obtain⟨hm1,t,hops,hget⟩:=Xch hpm
      exact Xf7 hm1 hops hget (hag.get t (by simp[X9S,hops,X5K])).symm
    | false=>
    have hbo:X9y (X0r ((ops.toList.zip outs).take i) st0) o=Xhb (X0r ((ops.toList.zip outs).take i) st0) o:=by unfold X9y;rw[hpm]
    rw[hbo]at hag
    cases hmv:Xau o&&nfB (ops.toList.zip outs) st0 (XeJ (X0r ((ops.toList.zip outs).take i) st0) o) with
    | false=>
      have hrr:∀r∈XeJ (X0r ((ops.toList.zip outs).take i) st0) o,(X0r ((ops.toList.zip outs).take i) st0).rowv r=(X3q (fun j=>listed.getD j false) 0 (ops.toList.zip outs) st0).rowv r:=fun r hr=>hag.row r (by unfold XaF;rw[hpm,hmv];exact hr)
      have hag2:=fun fz=>X9Z (fz:=fz) o.op.operands.toList (s:=X0r ((ops.toList.zip outs).take i) st0) (s':=X3q (fun j=>listed.getD j false) 0 (ops.toList.zip outs) st0) ⟨fun k hk=>hag.get k (by simp[X9S,hk]),hag.box,hrr⟩
      exact X9t (hag2 []).1 fun fz=>(hag2 fz).2
    | true=>
      rw[Bool.and_eq_true]at hmv
      have hnf:=XdI hmv.2
      have e0:=X7j (l:=ops.toList.zip outs) (j:=i) (k:=0) (s:=st0)
      have tm:∀(xs:List Operand) (x:Operand),x∈xs→(∀k∈X5K [x],k∈X5K xs)∧∀(s:St),(∀k∈opB s x,k∈Xgk s xs)∧∀r∈opR s x,r∈Xh2 s xs:=fun xs=>by
       induction xs with
       | nil=>intro x hx;cases hx
       | cons y ys ihx=>
         intro x hx
         rcases List.mem_cons.1 hx with e | hx
         · subst e
           refine⟨fun k hk=>?_,fun s=>⟨fun k hk=>by simp[Xgk,hk],fun r hr=>by simp[Xh2,hr]⟩⟩
           cases x<;>simp_all [X5K]
         · obtain⟨q1,q2⟩:=ihx x hx
           refine⟨fun k hk=>?_,fun s=>⟨fun k hk=>by simp[Xgk,(q2 s).1 k hk],fun r hr=>by simp[Xh2,(q2 s).2 r hr]⟩⟩
           have:=q1 k hk
           cases y<;>simp[X5K,this]
      refine Xe6 hmv.1 fun x hx=>?_
      obtain⟨t1,t2⟩:=tm _ x hx
      have hget:∀t,x=.tmp t→(X0r ((ops.toList.zip outs).take i) st0).get t=(X3q (fun j=>listed.getD j false) 0 (ops.toList.zip outs) st0).get t:=fun t ht=>hag.get t (by subst ht;simp[X9S,t1 t (by simp[X5K])])
      have hor:opR (X3q (fun j=>listed.getD j false) 0 (ops.toList.zip outs) st0) x=opR (X0r ((ops.toList.zip outs).take i) st0) x:=by
       cases x with
       | tmp t=>
         simp only[opR]
         rw[←hget t rfl]
         congr 2
         refine(X6V fun k hk=>?_).symm
         exact hag.box k ((t2 _).1 k (by simp only[opB];exact hk))
       | _=>rfl
      have nf1:∀r∈opR (X0r ((ops.toList.zip outs).take i) st0) x,X7K ((X0r ((ops.toList.zip outs).take i) st0).rowv r)=false∧X7K ((X3q (fun j=>listed.getD j false) 0 (ops.toList.zip outs) st0).rowv r)=false:=fun r hr=>by
       obtain⟨q1,q2⟩:=hnf r ((t2 _).2 r hr)
       refine⟨?_,XfN q1 q2⟩
       rw[e0]
       exact XfN q1 q2
      rw[Xaq fun r hr=>(nf1 r (hor▸hr)).2,Xaq fun r hr=>(nf1 r hr).1]
      cases x with
      | tmp t=>exact(hget t rfl).symm
      | _=>rfl
   have hwant:X6i ops.toList o (X3q (fun j=>listed.getD j false) 0 (ops.toList.zip outs) st0)=X6i ops.toList o (X0r ((ops.toList.zip outs).take i) st0):=by
    unfold X6i
    cases hg:o.guard with
    | none=>rfl
    | some g=>
      obtain⟨j,wn⟩:=g
      simp only
      cases hj:X2x ops.toList j with
      | none=>rfl
      | some d=>
        simp only
        rw[←hag.get d (by simp[X9S,XfH,hg,hj])]
   have hmore:Ext (X0o o x (X3q (fun j=>listed.getD j false) 0 (ops.toList.zip outs) st0)) (X3q (fun j=>(listed.setIfInBounds i true).getD j false) 0 (ops.toList.zip outs) st0):=by
    refine Xbo (j:=i) hx (by rw[Nat.zero_add];exact hli) (fun k=>by rw[X3G (by omega),Nat.zero_add]) (fun k o' x' hk hlt2 hl=>?_)
    rw[Nat.zero_add]at hl
    exact(clear k o' x' hk (by omega) (.inr ⟨hlt2,hl⟩)).2
   have next:∀(σ':Sg) (M':Mem) (w':World) (a':Act),Sim P base M0 ios σ' M' w' a' (X0o o x (X3q (fun j=>listed.getD j false) 0 (ops.toList.zip outs) st0))→wpAny P .any ops Q fuel (listed.setIfInBounds i true) a' w':=by
    intro σ' M' w' a' hS'
    refine ih _ σ' M' w' a' (by simp[hsz]) ?_ ?_ (fun j hj=>by rw[X3G (by omega),hpa j hj];rfl) (fun j hj=>by rw[X3G (by omega),hsp j hj,show(j==i)=false by simp;omega];rfl) (hS'.ext hmore)
    · have:unl ops.size (listed.setIfInBounds i true)<unl ops.size listed:=by
       unfold unl
       refine Xbk (fun k hk=>?_) ⟨i,by simpa using hlt,by rw[hli];rfl,by rw[X3G (by omega)];simp⟩
       rw[X3G (by omega)]at hk
       cases h4:listed.getD k false with
       | false=>rfl
       | true=>rw[h4]at hk;simp at hk
      omega
    · intro j hj k hk
      rw[X3G (by omega)]at hj ⊢
      have:listed.getD k false=true:=by
       by_cases hji:j=i
       · subst hji;exact hanc k hk
       · have:(j==i)=false:=by simp[hji]
         rw[this,Bool.or_false]at hj
         exact hcl j hj k hk
      rw[this];rfl
   unfold wpOp
   rw[ho]
   simp only
   have hg:=hgood i o x (fun hp=>by rw[hpa i hp]at hli;cases hli) his hx
   have hd':∀d,o.dst=some d→d<(X3q (fun j=>listed.getD j false) 0 (ops.toList.zip outs) st0).nt:=by
    intro d hd
    rw[Xd6]
    exact X6b hdst o (by rw[←Array.getElem?_toList]at ho;exact List.mem_of_getElem? ho) d hd
   cases x with
   | none=>
     have hw:=X6N (ops:=ops) hS (hwant.trans hg)
     rw[hw]
     simp only[Bool.false_eq_true,if_false]
     exact next σ M w _ (hS.skip hd')
   | some e=>
     obtain⟨hg1,ps,hg2,hps⟩:=hg
     have hw:=X6N (ops:=ops) hS (hwant.trans hg1)
     rw[hw]
     simp only[if_true]
     left
     refine Xcz hT hΓ hS hd' (by rw[hins];exact hg2) hps ?_ fun v σ' M' w' hS'=>next σ' M' w' _ hS'
     refine Sub.fresh (Sub.mix (L':=fun k=>!(k==i||((X6s ops.toList []).getD k 0).testBit i)) (fun k hk=>?_) ⟨fun _ h=>h,fun _ h=>h,fun _ h=>h⟩) (hfresh e rfl)
     have hki:(k==i)=false:=by
      cases hki:k==i with
      | false=>rfl
      | true=>
        have:k=i:=by simpa using hki
        subst this
        simp only[hli]at hk
        cases hk
     have hkb:=hdown k hk
     simp only[hki,hkb]
     rfl
theorem X9T(hT:X0q P tab)(hΓ:X72 P Γ){ops:Array Oper}{outs:List (Option Eff)}{st0:St}(past:Nat→Prop)(hdst:X8y st0.nt ops.toList=true)(hlen:outs.length=ops.toList.length)(hok:Xa8 ops.toList outs st0=true)(hgood:∀j o x,¬past j→(ops.toList.zip outs)[j]?=some (o,x)→XfB tab Γ ops.toList (X0r ((ops.toList.zip outs).take j) st0) o x)(hq:∀σ M w a,Sim P base M0 ios σ M w a (X0r (ops.toList.zip outs) st0)→Q .normal a w):
 ∀(fuel:Nat) (listed:Array Bool) (σ:Sg) (M:Mem) (w:World) (a:Act),listed.size=ops.size→unl ops.size listed≤fuel→
  (∀j,listed.getD j false=true→∀i,((X6s ops.toList []).getD j 0).testBit i=true→listed.getD i false=true)→(∀j,past j→listed.getD j false=true)→
  Sim P base M0 ios σ M w a (X3q (fun j=>listed.getD j false) 0 (ops.toList.zip outs) st0)→wpAny P .any ops Q fuel listed a w:=
 fun fuel listed σ M w a hsz hu hcl hpa hS=>XbF hT hΓ past ops.size hdst hlen hok (fun j h1 h2=>by omega) (fun j o x h1 _=>hgood j o x h1) (fun _=>hq)
  (fun _ _ _ _ _ _ o _ _ _ _ ho=>by simp at ho) fuel listed σ M w a hsz hu hcl hpa (fun j hj=>by
    rw[Array.getD_eq_getD_getElem?,Array.getElem?_eq_none (by omega)];rfl) hS
end Go.Proofs.Ytakllifahpfmpaa.Bv
namespace Go.Proofs.Ytakllifahpfmpaa.Bv
variable {P:Program} {base:World} {M0:Mem} {ios:Ios} {σ:Sg} {M:Mem} {w:World} {a:Act} {st:St} {tab:Tab} {Γ:Gam} {Q:Exit→Act→World→Prop}
def XhV(Γ:Gam)(o:Oper):Bool:=match o.op with
 | .call c=>match c.callee with
   | .value (.func n)=>match Γ.con n with
     | some con=>con.f.isNone
     | none=>false
   | _=>false
 | _=>false
def Xig(Γ:Gam):List Oper→Nat→Option Nat
 | [],_=>none
 | o::l,k=>match XhV Γ o with
   | true=>some k
   | false=>Xig Γ l (k+1)
def XgF(ms:List Nat)(m:Nat):Nat→Bool
 | 0=>true
 | i+1=>(Nat.ble i m||(ms.getD i 0).testBit m)&&XgF ms m i
def Xip(all:List Oper)(m:Nat)(outs:List (Option Eff))(s0:St):Bool:=Xa8 all (outs++List.replicate (all.length - m) none) s0&&XgF (X6s all []) m all.length
def vcG(all:List Oper)(o:Oper)(st:St)(K1 K0:St→Prop):Prop:=match o.guard with
 | none=>K1 st
 | some (j,X6i)=>match X2x all j with
   | some dj=>match st.get dj with
     | .val false [.bool b]=>X02 b (cond X6i (K1 (st.lit dj true)) (K0 (st.lit dj true))) (cond X6i (K0 (st.lit dj false)) (K1 (st.lit dj false)))
     | .tup []=>K0 st
     | _=>False
   | none=>False
def Xha(tab:Tab)(Γ:Gam)(all:List Oper)(m:Nat)(st:St)(K:List (Option Eff)→St→Prop):Prop:=
 match all[m]? with
 | some o=>match XhV Γ o with
   | true=>X7l tab Γ all (all.take m) st fun outsA st1=>match Xip all m outsA st with
     | true=>vcG all o st1
        (fun st2=>Xcc tab Γ o st2 fun e=>X7l tab Γ all (all.drop (m+1)) (e.apply o.dst st2) fun outs st'=>K (outsA++some e::outs) st')
        (fun st2=>X7l tab Γ all (all.drop (m+1)) (X2Z o st2) fun outs st'=>K (outsA++none::outs) st')
     | false=>False
   | false=>False
 | none=>False
def Xik(tab:Tab)(Γ:Gam)(all:List Oper)(st:St)(K:St→Prop):Prop:=match Xig Γ all 0 with
 | none=>X7l tab Γ all all st fun outs st'=>match Xa8 all outs st with
   | true=>K st'
   | false=>False
 | some m=>Xha tab Γ all m st fun outs st'=>match Xa8 all outs st with
   | true=>K st'
   | false=>False
theorem XaI{ms:List Nat}{m:Nat}:∀{n:Nat},XgF ms m n=true→∀j,m<j→j<n→(ms.getD j 0).testBit m=true
 | 0,_,j,_,h=>by omega
 | n+1,h,j,h1,h2=>by
   simp only[XgF,Bool.and_eq_true,Bool.or_eq_true]at h
   by_cases he:j=n
   · subst he
     rcases h.1 with h3 | h3
     · have:=Nat.le_of_ble_eq_true h3;omega
     · exact h3
   · exact XaI h.2 j h1 (by omega)
theorem Xg5{all:List Oper}{o:Oper}{K1 K0:St→Prop}(h:vcG all o st K1 K0):
 (X6i all o st=some true∧∃st2,Ext st2 st∧K1 st2)∨(X6i all o st=some false∧∃st2,Ext st2 st∧K0 st2):=by
 unfold vcG at h
 unfold X6i
 cases hg:o.guard with
 | none=>rw[hg]at h;exact .inl ⟨rfl,st,Ext.refl _,h⟩
 | some g=>
   obtain⟨j,wn⟩:=g
   rw[hg]at h
   simp only at h ⊢
   cases hj:X2x all j with
   | none=>rw[hj]at h;exact h.elim
   | some dj=>
     rw[hj]at h
     simp only at h ⊢
     split at h
     · rename_i b hb
       replace h:=X7r h
       cases hbb:b with
       | true=>
         have h1:=h.1 hbb
         cases wn with
         | true=>exact .inl ⟨by simp only[hb,hbb];rfl,_,X6C hb hbb,h1⟩
         | false=>exact .inr ⟨by simp only[hb,hbb];rfl,_,X6C hb hbb,h1⟩
       | false=>
         have h1:=h.2 hbb
         cases wn with
         | false=>exact .inl ⟨by simp only[hb,hbb];rfl,_,X6C hb hbb,h1⟩
         | true=>exact .inr ⟨by simp only[hb,hbb];rfl,_,X6C hb hbb,h1⟩
     · rename_i hb
       exact .inr ⟨by simp only[hb],_,Ext.refl _,h⟩
     · exact h.elim
theorem Xey{o:Oper}{s s':St}{K:Eff→Prop}(h0:o.op.operands.toList.map (X0Z s')=o.op.operands.toList.map (X0Z s))(hF:∀fz,o.op.operands.toList.map (X0Z (X2s fz s'))=o.op.operands.toList.map (X0Z (X2s fz s)))(hd:∀d,o.dst=some d→d<s'.nt)(h:Xcc tab Γ o s K)(hf:∀e,K e→X10 e o.dst s'=true):Xcc tab Γ o s' K:=by
 unfold Xcc at h ⊢
 split at h
 rotate_left
 · exact h.elim
 split
 rotate_left
 · rename_i hdd
   exfalso
   cases hdst:o.dst with
   | none=>rw[hdst]at hdd;cases hdd
   | some d=>rw[hdst]at hdd;have:=hd d hdst;simp only[decide_eq_false_iff_not]at hdd;exact hdd this
 · simp only[h0,X9K (hF _)]
   simp only at h
   generalize X2N ((o.op.operands.toList.map (X0Z s)).flatMap (·.rows)) (X3d tab Γ o (o.op.operands.toList.map (X0Z s)))=fz at h ⊢
   generalize X8P fz o s (o.op.operands.toList.map (X0Z s))=ins at h ⊢
   split at h
   · rename_i hnd
     split at h
     · rename_i con ts xs hc
       unfold X7z at h ⊢
       split at h
       · rename_i d x h1 h2 h3
         obtain⟨hpre,hpost⟩:=h
         refine⟨hpre,fun y hy=>?_⟩
         have h4:=hpost y hy
         split at h4
         · rename_i br hbr
           split at h4
           · rename_i hfr
             have:=X69 (hf _ h4)
             rw[h1]at this
             rw[this]
             exact h4
           · exact h4.elim
         · exact h4.elim
       · exact h.elim
     · split at h
       · exact h
       · split at h
         · rename_i ps e he
           split at h
           · obtain⟨h1,h2⟩:=X8a h
             rw[X69 (hf _ h2)]
             exact h
           · exact h.elim
         · exact h.elim
   · exact h.elim
theorem X7Z:∀(l l':List (Oper×Option Eff)) (s:St),X0r (l++l') s=X0r l' (X0r l s)
 | [],_,_=>rfl
 | (o,x)::l,l',s=>by rw[List.cons_append,X2w,X2w,X7Z l l']
theorem Xa1{L:Nat→Bool}:∀{l:List (Oper×Option Eff)} {k m:Nat} {s:St},(∀i,k+m≤i→L i=false)→X3q L k l s=X3q L k (l.take m) s
 | [],_,_,_,_=>by simp[X3q]
 | (o,x)::l,k,0,s,h=>by rw[X6t (fun i hi=>h i (by omega))];rfl
 | (o,x)::l,k,m+1,s,h=>by
   rw[List.take_succ_cons]
   simp only[X3q]
   exact Xa1 fun i hi=>h i (by omega)
theorem Xdv{s s':St}(h:Ext s s')(o:Oper):o.op.operands.toList.map (X0Z s')=o.op.operands.toList.map (X0Z s)∧∀fz,o.op.operands.toList.map (X0Z (X2s fz s'))=o.op.operands.toList.map (X0Z (X2s fz s)):=
 ⟨List.map_congr_left fun x _=>(X8T h x).symm,fun fz=>List.map_congr_left fun x _=>(X8T (XeO h) x).symm⟩
theorem XcV{o:Oper}(h:XhV Γ o=true):Xau o=false:=by
 unfold XhV at h
 unfold Xau
 split at h
 · rename_i c hc;rw[hc]
 · cases h
theorem Xeu{o:Oper}(h:XhV Γ o=true):X7B o=false:=by
 unfold XhV at h
 unfold X7B
 split at h
 · rename_i c hc;rw[hc]
 · cases h
theorem Xf5(hT:X0q P tab)(hΓ:X72 P Γ){ops:Array Oper}{m:Nat}{st0:St}{KK:St→Prop}(hdst:X8y st0.nt ops.toList=true)(h:Xha tab Γ ops.toList m st0 fun outs st'=>match Xa8 ops.toList outs st0 with | true=>KK st' | false=>False)(hq:∀σ M w a st',KK st'→Sim P base M0 ios σ M w a st'→Q .normal a w):
 ∀(fuel:Nat) (listed:Array Bool) (σ:Sg) (M:Mem) (w:World) (a:Act),listed.size=ops.size→unl ops.size listed≤fuel→
  (∀j,listed.getD j false=false)→Sim P base M0 ios σ M w a st0→wpAny P .any ops Q fuel listed a w:=by
 intro fuel listed σ M w a hsz hu hno hS
 unfold Xha at h
 split at h
 · rename_i o ho
   split at h
   · rename_i hrel
     obtain⟨outsA,st1,hlenA,hK,hext,hgood⟩:=X4T _ _ _ h
     split at hK
     · rename_i hro
       unfold Xip at hro
       rw[Bool.and_eq_true]at hro
       obtain⟨hok,hlate⟩:=hro
       have hm:m<ops.toList.length:=(List.getElem?_eq_some_iff.1 ho).1
       have hlA:outsA.length=m:=by rw[hlenA,List.length_take];omega
       have hoa:ops[m]?=some o:=by rw[←Array.getElem?_toList];exact ho
       have hsplit:ops.toList=ops.toList.take m++o::ops.toList.drop (m+1):=by
        have e:=(List.getElem?_eq_some_iff.1 ho).2
        rw[←e,List.getElem_cons_drop];exact(List.take_append_drop ..).symm
       have zlF:∀r,ops.toList.zip (outsA++r)=(ops.toList.take m).zip outsA++(o::ops.toList.drop (m+1)).zip r:=fun r=>by
        conv=>lhs;rw[hsplit]
        rw[List.zip_append (by rw[List.length_take];omega)]
       have zlen:((ops.toList.take m).zip outsA).length=m:=by rw[List.length_zip,List.length_take];omega
       have zt:∀r,(ops.toList.zip (outsA++r)).take m=(ops.toList.take m).zip outsA:=fun r=>by
        rw[zlF,List.take_append_of_le_length (by omega),List.take_of_length_le (by omega)]
       have ztj:∀r j,j<m→(ops.toList.zip (outsA++r)).take j=((ops.toList.take m).zip outsA).take j:=fun r j hj=>by
        rw[zlF,List.take_append_of_le_length (by omega)]
       have zj:∀r j,j<m→(ops.toList.zip (outsA++r))[j]?=((ops.toList.take m).zip outsA)[j]?:=fun r j hj=>by
        rw[zlF,List.getElem?_append_left (by omega)]
       have hlenF:(outsA++List.replicate (ops.toList.length - m) (none:Option Eff)).length=ops.toList.length:=by
        rw[List.length_append,List.length_replicate];omega
       refine XbF (outs:=outsA++List.replicate (ops.toList.length - m) none) hT hΓ (fun _=>False) m hdst hlenF hok (fun j h1 h2=>XaI hlate j h1 (by simpa using h2))
        (fun j o' x _ h1 hz=>by rw[ztj _ j h1];exact hgood j o' x (by rw[←zj _ j h1];exact hz)) (fun hle=>by simp at hm;omega) ?_
        fuel listed σ M w a hsz hu (fun j hj=>by rw[hno j]at hj;cases hj) (fun j hj=>hj.elim) (fun j _=>hno j) (by rw[X6t (fun i _=>hno i)];exact hS)
       clear hu hno hsz hS
       intro fuel listed σ M w a o' hsz hu hcl hsp ho' hed hS
       rw[hoa]at ho'
       cases ho'
       have hli:=hsp m (Nat.le_refl _)
       have hzA:(ops.toList.zip (outsA++List.replicate (ops.toList.length - m) (none:Option Eff)))[m]?=some (o,none):=by
        rw[zlF,List.getElem?_append_right (by omega),zlen,Nat.sub_self,show ops.toList.length - m=(ops.toList.length - m - 1)+1 by omega,List.replicate_succ,List.zip_cons_cons];rfl
       obtain⟨_,_,hag,_,_⟩:=X63 hlenF hok hsz hcl hli hed hzA
       have hdd:∀s:St,s.nt=st0.nt→∀d,o.dst=some d→d<s.nt:=fun s hs d hd=>by
        rw[hs];exact X6b hdst o (List.mem_of_getElem? ho) d hd
       rw[zt]at hag
       have hmix:∀r,X3q (fun j=>listed.getD j false) 0 (ops.toList.zip (outsA++List.replicate (ops.toList.length - m) none)) st0=X3q (fun j=>listed.getD j false) 0 (ops.toList.zip (outsA++r)) st0:=fun r=>by
        rw[Xa1 (m:=m) (fun i hi=>hsp i (by omega)),zt,Xa1 (m:=m) (l:=ops.toList.zip (outsA++r)) (fun i hi=>hsp i (by omega)),zt]
       have hagG:X6k (X9S ops.toList o) (Xhb (X0r ((ops.toList.take m).zip outsA) st0) o) (XeJ (X0r ((ops.toList.take m).zip outsA) st0) o) (X0r ((ops.toList.take m).zip outsA) st0) (X3q (fun j=>listed.getD j false) 0 (ops.toList.zip (outsA++List.replicate (ops.toList.length - m) none)) st0):=by
        unfold XaF X9y X8h at hag
        rw[XcV hrel,Xeu hrel]at hag
        simp only[Bool.false_and,Bool.false_or]at hag
        exact hag
       generalize hs':X3q (fun j=>listed.getD j false) 0 (ops.toList.zip (outsA++List.replicate (ops.toList.length - m) none)) st0=s' at hS hagG hmix
       have hnt:s'.nt=st0.nt:=by rw[←hs'];exact Xd6
       have hins:o.op.operands.toList.map (X0Z s')=o.op.operands.toList.map (X0Z st1)∧∀fz,o.op.operands.toList.map (X0Z (X2s fz s'))=o.op.operands.toList.map (X0Z (X2s fz st1)):=by
        have h1:=fun fz=>X9Z (fz:=fz) o.op.operands.toList (s:=X0r ((ops.toList.take m).zip outsA) st0) (s':=s') ⟨fun k hk=>hagG.get k (by simp[X9S,hk]),hagG.box,hagG.row⟩
        have h2:=Xdv hext o
        exact⟨(h1 []).1.trans h2.1,fun fz=>(h1 fz).2.trans (h2.2 fz)⟩
       have hwant:X6i ops.toList o s'=X6i ops.toList o st1:=by
        unfold X6i
        cases hg:o.guard with
        | none=>rfl
        | some g=>
          obtain⟨j,wn⟩:=g
          simp only
          cases hj:X2x ops.toList j with
          | none=>rfl
          | some d=>
            simp only
            rw[←hagG.get d (by simp[X9S,XfH,hg,hj]),hext.get]
       have after:∀(x:Option Eff) (st2:St) (outsB:List (Option Eff)) (st':St),Ext st2 (X0r ((ops.toList.take m).zip outsA) st0)→outsB.length=(ops.toList.drop (m+1)).length→Xa8 ops.toList (outsA++x::outsB) st0=true→KK st'→
        Ext st' (X0r ((ops.toList.drop (m+1)).zip outsB) (X0o o x st2))→
        (∀j o' x',((ops.toList.drop (m+1)).zip outsB)[j]?=some (o',x')→XfB tab Γ ops.toList (X0r (((ops.toList.drop (m+1)).zip outsB).take j) (X0o o x st2)) o' x')→
        ∀σ' M' w' a',Sim P base M0 ios σ' M' w' a' (X0o o x s')→wpAny P .any ops Q fuel (listed.setIfInBounds m true) a' w':=by
        intro x st2 outsB st' he hlB hokF hKK hex hgB σ' M' w' a' hS'
        have hlF:(outsA++x::outsB).length=ops.toList.length:=by
         rw[List.length_append,List.length_cons,hlB,List.length_drop];omega
        have hx2:Ext (X0o o x st2) (X0o o x (X0r ((ops.toList.take m).zip outsA) st0)):=X6Z he
        have hzF:(ops.toList.zip (outsA++x::outsB))[m]?=some (o,x):=by
         rw[zlF,List.getElem?_append_right (by omega),zlen,Nat.sub_self,List.zip_cons_cons];rfl
        have hrun:X0r (ops.toList.zip (outsA++x::outsB)) st0=X0r ((ops.toList.drop (m+1)).zip outsB) (X0o o x (X0r ((ops.toList.take m).zip outsA) st0)):=by
         rw[zlF,X7Z,List.zip_cons_cons,X2w]
        have hmore:Ext (X0o o x s') (X3q (fun j=>(listed.setIfInBounds m true).getD j false) 0 (ops.toList.zip (outsA++x::outsB)) st0):=by
         rw[hmix (x::outsB)]
         refine Xbo (j:=m) hzF (by rw[Nat.zero_add];exact hli) (fun k=>by rw[X3G (by simp at hm;omega),Nat.zero_add]) (fun k o' x' hk hlt2 hl=>?_)
         rw[Nat.zero_add]at hl
         rw[hsp k (by omega)]at hl;cases hl
        refine X9T (outs:=outsA++x::outsB) hT hΓ (fun j=>j=m) hdst hlF hokF (fun j o' x' hne hz=>?_) (fun σ M w a hS2=>hq σ M w a st' hKK (hS2.ext ?_)) fuel _ σ' M' w' a' (by simp[hsz]) ?_ ?_ ?_ (hS'.ext hmore)
        · rcases Nat.lt_trichotomy j m with hj | hj | hj
          · rw[ztj _ j hj];exact hgood j o' x' (by rw[←zj _ j hj];exact hz)
          · exact absurd hj hne
          · obtain⟨i,rfl⟩:∃i,j=m+1+i:=⟨j - m - 1,by omega⟩
            have e1:(ops.toList.zip (outsA++x::outsB)).take (m+1+i)=(ops.toList.take m).zip outsA++(o,x)::((ops.toList.drop (m+1)).zip outsB).take i:=by
             rw[zlF,List.zip_cons_cons,List.take_append,zlen,List.take_of_length_le (by omega),show m+1+i - m=i+1 by omega,List.take_succ_cons]
            rw[e1,X7Z,X2w]
            have hz2:((ops.toList.drop (m+1)).zip outsB)[i]?=some (o',x'):=by
             rw[zlF,List.getElem?_append_right (by omega),zlen,List.zip_cons_cons,show m+1+i - m=i+1 by omega,List.getElem?_cons_succ]at hz
             exact hz
            exact(hgB i o' x' hz2).ext (X4R hx2)
        · rw[hrun]
          exact(hex.trans (X4R hx2)).symm
        · have:unl ops.size (listed.setIfInBounds m true)<unl ops.size listed:=by
           unfold unl
           refine Xbk (fun k hk=>?_) ⟨m,by simp at hm;simpa using hm,by rw[hli];rfl,by rw[X3G (by simp at hm;omega)];simp⟩
           rw[X3G (by simp at hm;omega)]at hk
           cases h4:listed.getD k false with
           | false=>rfl
           | true=>rw[h4]at hk;simp at hk
          omega
        · intro j hj k hk
          rw[X3G (by simp at hm;omega)]at hj ⊢
          have:listed.getD k false=true:=by
           by_cases hji:j=m
           · subst hji
             exact(X63 hlenF hok hsz hcl hli hed hzA).1 k hk
           · have:(j==m)=false:=by simp[hji]
             rw[this,Bool.or_false]at hj
             exact hcl j hj k hk
          rw[this];rfl
        · intro j hj
          subst hj
          rw[X3G (by simp at hm;omega)];simp
       unfold wpOp
       rw[hoa]
       simp only
       rcases Xg5 hK with⟨hw,st2,he2,hK2⟩ | ⟨hw,st2,he2,hK2⟩
       · have hw':=X6N (ops:=ops) hS (hwant.trans hw)
         rw[hw']
         simp only[if_true]
         left
         have hi2:=Xdv he2 o
         have more:∀e,(X7l tab Γ ops.toList (ops.toList.drop (m+1)) (e.apply o.dst st2) fun outs st'=>match Xa8 ops.toList (outsA++some e::outs) st0 with | true=>KK st' | false=>False)→
          ∃outsB st',outsB.length=(ops.toList.drop (m+1)).length∧Xa8 ops.toList (outsA++some e::outsB) st0=true∧KK st'∧Ext st' (X0r ((ops.toList.drop (m+1)).zip outsB) (X0o o (some e) st2))∧
          (∀j o' x',((ops.toList.drop (m+1)).zip outsB)[j]?=some (o',x')→XfB tab Γ ops.toList (X0r (((ops.toList.drop (m+1)).zip outsB).take j) (X0o o (some e) st2)) o' x'):=fun e hr=>by
          obtain⟨outsB,st',h1,h2,h3,h4⟩:=X4T _ _ _ hr
          split at h2
          · rename_i hokF
            exact⟨outsB,st',h1,hokF,h2,h3,h4⟩
          · exact h2.elim
         refine X7a (tab:=tab) (Γ:=Γ) hT hΓ hS (Xey (s:=st2) ?_ ?_ (hdd s' hnt) hK2 ?_) (fun e hr v σ' M' w' hS'=>?_)
         · rw[hins.1];exact hi2.1
         · intro fz;rw[hins.2 fz];exact hi2.2 fz
         · intro e hr
           obtain⟨outsB,st',h1,hokF,h2,h3,h4⟩:=more e hr
           have hlF:(outsA++some e::outsB).length=ops.toList.length:=by
            rw[List.length_append,List.length_cons,h1,List.length_drop];omega
           have hzF:(ops.toList.zip (outsA++some e::outsB))[m]?=some (o,some e):=by
            rw[zlF,List.getElem?_append_right (by omega),zlen,Nat.sub_self,List.zip_cons_cons];rfl
           obtain⟨_,_,_,hdown,hfresh⟩:=X63 hlF hokF hsz hcl hli hed hzF
           refine Sub.fresh ?_ (hfresh e rfl)
           rw[hmix (some e::outsB)]
           refine Sub.mix (fun k hk=>?_) ⟨fun _ h=>h,fun _ h=>h,fun _ h=>h⟩
           have hki:(k==m)=false:=by
            cases hki:k==m with
            | false=>rfl
            | true=>
              have:k=m:=by simpa using hki
              subst this
              simp only[hli]at hk
              cases hk
           have hkb:=hdown k hk
           simp only[hki,hkb]
           rfl
         · obtain⟨outsB,st',h1,hokF,h2,h3,h4⟩:=more e hr
           exact after (some e) st2 outsB st' (he2.trans hext) h1 hokF h2 h3 h4 σ' M' w' _ hS'
       · have hw':=X6N (ops:=ops) hS (hwant.trans hw)
         rw[hw']
         simp only[Bool.false_eq_true,if_false]
         obtain⟨outsB,st',h1,h2,h3,h4⟩:=X4T _ _ _ hK2
         split at h2
         · rename_i hokF
           exact after none st2 outsB st' (he2.trans hext) h1 hokF h2 h3 h4 σ M w _ (hS.skip (hdd s' hnt))
         · exact h2.elim
     · exact hK.elim
   · exact h.elim
 · exact h.elim
end Go.Proofs.Ytakllifahpfmpaa.Bv
namespace Go.Proofs.Ytakllifahpfmpaa.Bv
structure X5B where
 bx:Bool:=false
 s:Nat
 i:Nat
 k:Nat
 e:TypeId
 hot:Bool
structure X8J where
 hold:List Nat:=[]
 slots:List Nat
 boxes:List Nat:=[]
 rows:List X5B:=[]
def XhF(st:St)(s i:Nat):Option X00:=match X5w st.rows (st.get s) with
 | .val _ cs=>cs[i]?
 | _=>none
def Xhz(st:St)(b i:Nat):Option X00:=match st.box b with
 | some cs=>(X54 st.rows cs)[i]?
 | none=>none
def X6h(st:St)(kr:X5B):Option X00:=match kr.bx with
 | true=>Xhz st kr.s kr.i
 | false=>XhF st kr.s kr.i
inductive Old where
 | bad
 | nil (t:Ty)
 | hot (r:Nat) (t:Ty) (l:List (El t))
 | cold (r:Nat)
 | cnil
def Xh1(st:St)(e:TypeId)(t:Ty)(r:Nat):Old:=match look r st.rows with
 | some (.hot e' t' l _ none _)=>if e'=e then if h:t'=t then .hot r t (X3t h l) else .bad else .bad
 | _=>.bad
def X57(st:St)(kr:X5B):Old:=match kr.hot,X6h st kr with
 | true,some (.own t r)=>Xh1 st kr.e t r
 | true,some (.lst t [] (some 0))=>.nil t
 | true,some (.emp t)=>.nil t
 | false,some (.lst _ _ (some 0))=>.cnil
 | false,some (.lst _ _ (some (r+1)))=>match X3o (r+1) st.rows with
   | some e=>if e=kr.e then .cold (r+1) else .bad
   | none=>.bad
 | _,_=>.bad
def rho(st:St):List X5B→List (Nat×Nat)
 | []=>[]
 | kr::l=>match X57 st kr with
   | .hot r _ _=>(r,kr.k)::rho st l
   | _=>rho st l
def X4i(st:St):List X5B→List Nat
 | []=>[]
 | kr::l=>match X57 st kr with
   | .cold r=>r::X4i st l
   | _=>X4i st l
def Xdg(st:St)(kr:X5B):Option X0f:=match X57 st kr with
 | .hot _ t l=>some (.hot kr.e t l 0 none false)
 | .nil t=>some (.hot kr.e t [] 0 none false)
 | .cold _=>some (.cold kr.e)
 | .cnil=>some (.cold kr.e)
 | .bad=>none
def Xap(st:St):List X5B→List (Nat×X0f)
 | []=>[]
 | kr::l=>match Xdg st kr with
   | some rv=>(kr.k,rv)::Xap st l
   | none=>Xap st l
def Xfx:List X5B→Bool→Nat→Nat→Option X5B
 | [],_,_,_=>none
 | kr::l,b,s,i=>if kr.bx=b∧kr.s=s∧kr.i=i then some kr else Xfx l b s i
def X81:List X5B→Nat→Option X5B
 | [],_=>none
 | kr::l,k=>if kr.k=k then some kr else X81 l k
def reC1(ρ:List (Nat×Nat)):X00→X00
 | .lst t l _=>.lst t l none
 | .own t r=>match look r ρ with
   | some k=>.own t k
   | none=>.und
 | .sub t r lo hi=>match look r ρ with
   | some k=>.sub t k lo hi
   | none=>.und
 | .bor ..=>.und
 | c=>c
def Xi3(kr:X5B):X00→X00
 | .own t _=>cond kr.hot (.own t kr.k) .und
 | .emp t=>cond kr.hot (.own t kr.k) .und
 | .lst t l _=>cond kr.hot (.own t kr.k) (.lst t l (some kr.k))
 | _=>.und
def XhQ(kp:X8J)(ρ:List (Nat×Nat))(bx:Bool)(s:Nat):Nat→List X00→List X00
 | _,[]=>[]
 | i,c::cs=>(match Xfx kp.rows bx s i with
    | some kr=>Xi3 kr c
    | none=>reC1 ρ c)::XhQ kp ρ bx s (i+1) cs
def unC:List X00→List X00
 | []=>[]
 | .lst t l _::cs=>.lst t l none::unC cs
 | .int k n::cs=>.int k n::unC cs
 | .bool b::cs=>.bool b::unC cs
 | .str s::cs=>.str s::unC cs
 | .emp t::cs=>.emp t::unC cs
 | _::cs=>.und::unC cs
def X6r(kp:X8J)(st:St):List Cap→Option (List Cap)
 | []=>some []
 | .box k off::l=>match kp.boxes.contains k&&(st.box k).isSome,X6r kp st l with
   | true,some r=>some (.box k off::r)
   | _,_=>none
 | .ptr cs::l=>match X6r kp st l with
   | some r=>some (.ptr (unC cs)::r)
   | none=>none
 | .pp k off::l=>match kp.boxes.contains k&&(st.box k).isSome,X6r kp st l with
   | true,some r=>some (.pp k off::r)
   | _,_=>none
 | .pptr cs::l=>match X6r kp st l with
   | some r=>some (.pptr (unC cs)::r)
   | none=>none
def reS(kp:X8J)(ρ:List (Nat×Nat))(st:St)(s:Nat):Sv→Sv
 | .val ag cs=>.val ag (XhQ kp ρ false s 0 cs)
 | .box k off=>match kp.boxes.contains k&&(st.box k).isSome with
   | true=>.box k off
   | false=>.und
 | .ptr cs=>.ptr (unC cs)
 | .pp k off=>match kp.boxes.contains k&&(st.box k).isSome with
   | true=>.pp k off
   | false=>.und
 | .pptr cs=>.pptr (unC cs)
 | .fn f a b=>match X6r kp st a,X6r kp st b with
   | some a',some b'=>.fn f a' b'
   | _,_=>.und
 | .hp t r i off=>match look r ρ with
   | some k=>.hp t k i off
   | none=>.und
 | .nil=>.nil
 | _=>.und
def X99(kp:X8J)(ρ:List (Nat×Nat))(st:St):List Nat→List (Nat×Sv)
 | []=>[]
 | s::l=>(s,reS kp ρ st s (X5w st.rows (st.get s)))::X99 kp ρ st l
def X7W(kp:X8J)(ρ:List (Nat×Nat))(st:St):List Nat→List (Nat×List X00)
 | []=>[]
 | b::l=>match st.box b with
   | some cs=>(b,XhQ kp ρ true b 0 (X54 st.rows cs))::X7W kp ρ st l
   | none=>X7W kp ρ st l
def rename(kp:X8J)(st:St):St:={nt:=st.nt,slots:=X99 kp (rho st kp.rows) st (kp.hold++kp.slots),boxes:=X7W kp (rho st kp.rows) st kp.boxes,rows:=Xap st kp.rows}
def Xef(tab:Tab)(st:St)(kr:X5B):Bool:=!(kr.k==0)&&match X57 st kr with
 | .bad=>false
 | .nil t=>(kr.k % 2==1)&&(match look kr.e tab with | some te=>decide (te.ty=t)&&decide (0<size t) | none=>false)
 | .hot r _ _=>kr.k % 2==1||r==kr.k
 | .cold r=>(kr.k % 2==1||r==kr.k)&&(look kr.e tab).isSome
 | .cnil=>(kr.k % 2==1)&&(look kr.e tab).isSome
def X8U(tab:Tab)(kp:X8J)(st:St):Bool:=kp.rows.all (Xef tab st)&&X2n (kp.rows.map (·.k))&&X2n ((rho st kp.rows).map (·.1))&&X2n (X4i st kp.rows)
def XeL(kp:X8J)(bx:Bool)(s:Nat)(ks:List Nat):Nat→List X00→List Nat
 | _,[]=>[]
 | i,c::cs=>(match Xfx kp.rows bx s i with
    | some kr=>(match kr.hot,c with
      | false,.own _ r=>[r]
      | _,_=>[])
    | none=>(match c with
      | .own _ r=>cond (X1C r ks) [r] []
      | .sub _ r _ _=>cond (X1C r ks) [r] []
      | .bor _ _ r _ _=>cond (X1C r ks) [r] []
      | _=>[]))++XeL kp bx s ks (i+1) cs
def Xh7(kp:X8J)(st:St)(ks:List Nat):List Nat→List Nat
 | []=>[]
 | s::l=>(match st.get s with
    | .val _ cs=>XeL kp false s ks 0 cs
    | .bptr _ r _=>cond (X1C r ks) [r] []
    | _=>[])++Xh7 kp st ks l
def XgW(kp:X8J)(st:St)(ks:List Nat):List Nat→List Nat
 | []=>[]
 | b::l=>(match st.box b with
    | some cs=>XeL kp true b ks 0 cs
    | none=>[])++XgW kp st ks l
def Xgr(kp:X8J)(st:St):List (Nat×X0f):=
 let ks:=(rho st kp.rows).map (·.1)
 X2N st.rows (X2v st.rows (Xh7 kp st ks (kp.hold++kp.slots)++XgW kp st ks kp.boxes))
def ready(kp:X8J)(st:St):St:=match Xgr kp st with
 | []=>st
 | fz=>X2s fz st
def weaken(kp:X8J)(st:St):St:=rename kp (ready kp st)
def XfJ(tab:Tab)(kp:X8J)(st:St):Bool:=X2n ((Xgr kp st).map (·.1))&&X8U tab kp (ready kp st)
end Go.Proofs.Ytakllifahpfmpaa.Bv
namespace Go.Proofs.Ytakllifahpfmpaa.Bv
variable {P:Program} {base:World} {M0:Mem} {ios:Ios} {σ:Sg} {M:Mem} {w:World} {a:Act} {st:St} {tab:Tab} {Γ:Gam}
def X8L(σ:Sg)(w:World)(a:Act)(kr:X5B):Value:=match kr.bx with
 | false=>(a.tmps.getD kr.s undef).cells.toList.getD kr.i undef
 | true=>match w.heap[σ.box kr.s]? with
   | some (.cells arr _ _)=>arr.toList.getD kr.i undef
   | _=>undef
theorem X7V{l:List Value}{i:Nat}{v:Value}(h:l[i]?=some v):l.getD i undef=v:=by rw[List.getD_eq_getElem?_getD,h];rfl
theorem X6F(hS:Sim P base M0 ios σ M w a st){kr:X5B}{c:X00}(h:X6h st kr=some c):RdT σ st.rows M (X8L σ w a kr) c:=by
 unfold X6h at h
 unfold X8L
 cases hb:kr.bx with
 | false=>
   rw[hb]at h
   simp only[XhF]at h ⊢
   have hs:=X9L hS (fun _ _ h=>h) (hS.slots kr.s)
   split at h
   · rename_i ag cs he
     rw[he]at hs
     obtain⟨v,hv,hr⟩:=hs.1.get h
     rw[X7V hv];exact hr
   · cases h
 | true=>
   rw[hb]at h
   simp only[Xhz]at h ⊢
   split at h
   · rename_i cs hk
     obtain⟨arr,E,h1,h2⟩:=hS.boxes kr.s cs hk
     obtain⟨v,hv,hr⟩:=(X5Z hS (fun _ _ h=>h) h2).get h
     rw[h1]
     simp only
     rw[X7V hv];exact hr
   · cases h
def OldOk(st:St)(kr:X5B):Old→Prop
 | .bad=>True
 | .hot r t l=>kr.hot=true∧X6h st kr=some (.own t r)∧∃ver z,look r st.rows=some (.hot kr.e t l ver none z)
 | .nil t=>kr.hot=true∧(X6h st kr=some (.lst t [] (some 0))∨X6h st kr=some (.emp t))
 | .cold r=>kr.hot=false∧r≠0∧∃t l,X6h st kr=some (.lst t l (some r))∧st.row r=some kr.e
 | .cnil=>kr.hot=false∧∃t l,X6h st kr=some (.lst t l (some 0))
theorem X2R(st:St)(kr:X5B):OldOk st kr (X57 st kr):=by
 unfold X57
 split
 · rename_i t r hh hp
   unfold Xh1
   split
   · rename_i e t' l ver z hl
     split
     · rename_i he
       split
       · rename_i ht
         subst ht;subst he
         exact⟨hh,hp,ver,z,hl⟩
       · trivial
     · trivial
   · trivial
 · rename_i t hh hp;exact⟨hh,.inl hp⟩
 · rename_i t hh hp;exact⟨hh,.inr hp⟩
 · rename_i t l hh hp;exact⟨hh,t,l,hp⟩
 · rename_i t l r hh hp
   split
   · rename_i e he
     split
     · rename_i h;subst h;exact⟨hh,by omega,t,l,hp,he⟩
     · trivial
   · trivial
 · trivial
theorem Xb6{r k:Nat}:∀{rows:List X5B},look r (rho st rows)=some k→∃kr∈rows,kr.k=k∧∃t l,X57 st kr=.hot r t l
 | [],h=>by cases h
 | kr::l,h=>by
   simp only[rho]at h
   split at h
   · rename_i r' t' l' ho
     rw[X01]at h
     split at h
     · rename_i e;subst e;cases h;exact⟨kr,by simp,rfl,t',l',ho⟩
     · obtain⟨kr',h1,h2⟩:=Xb6 h;exact⟨kr',List.mem_cons_of_mem _ h1,h2⟩
   · obtain⟨kr',h1,h2⟩:=Xb6 h;exact⟨kr',List.mem_cons_of_mem _ h1,h2⟩
theorem Xd4{kr:X5B}{r:Nat}{t:Ty}{l:List (El t)}(ho:X57 st kr=.hot r t l):∀{rows:List X5B},kr∈rows→r∈(rho st rows).map (·.1)
 | kr'::rows,h=>by
   simp only[rho]
   rcases List.mem_cons.1 h with e | h
   · subst e;rw[ho];simp
   · have:=Xd4 ho h
     split
     · exact List.mem_cons_of_mem _ this
     · exact this
theorem Xbr{kr:X5B}{r:Nat}(ho:X57 st kr=.cold r):∀{rows:List X5B},kr∈rows→r∈X4i st rows
 | kr'::rows,h=>by
   simp only[X4i]
   rcases List.mem_cons.1 h with e | h
   · subst e;rw[ho];simp
   · have:=Xbr ho h
     split
     · exact List.mem_cons_of_mem _ this
     · exact this
theorem XeT{r:Nat}{t t':Ty}{l:List (El t)}{l':List (El t')}{kr kr':X5B}:∀{rows:List X5B},((rho st rows).map (·.1)).Nodup→kr∈rows→kr'∈rows→X57 st kr=.hot r t l→X57 st kr'=.hot r t' l'→kr=kr'
 | k0::rows,hn,h,h',ho,ho'=>by
   rcases List.mem_cons.1 h with e | h1<;>rcases List.mem_cons.1 h' with e' | h1'
   · rw[e,e']
   · subst e
     simp only[rho,ho,List.map_cons,List.nodup_cons]at hn
     exact absurd (Xd4 ho' h1') hn.1
   · subst e'
     simp only[rho,ho',List.map_cons,List.nodup_cons]at hn
     exact absurd (Xd4 ho h1) hn.1
   · refine XeT (rows:=rows) ?_ h1 h1' ho ho'
     simp only[rho]at hn
     split at hn
     · exact(List.nodup_cons.1 hn).2
     · exact hn
theorem XdU{r:Nat}{kr kr':X5B}:∀{rows:List X5B},(X4i st rows).Nodup→kr∈rows→kr'∈rows→X57 st kr=.cold r→X57 st kr'=.cold r→kr=kr'
 | k0::rows,hn,h,h',ho,ho'=>by
   rcases List.mem_cons.1 h with e | h1<;>rcases List.mem_cons.1 h' with e' | h1'
   · rw[e,e']
   · subst e
     simp only[X4i,ho,List.nodup_cons]at hn
     exact absurd (Xbr ho' h1') hn.1
   · subst e'
     simp only[X4i,ho',List.nodup_cons]at hn
     exact absurd (Xbr ho h1) hn.1
   · refine XdU (rows:=rows) ?_ h1 h1' ho ho'
     simp only[X4i]at hn
     split at hn
     · exact(List.nodup_cons.1 hn).2
     · exact hn
theorem Xcn{b:Bool}{s i:Nat}{kr:X5B}:∀{rows:List X5B},Xfx rows b s i=some kr→kr∈rows∧kr.bx=b∧kr.s=s∧kr.i=i
 | [],h=>by cases h
 | k0::rows,h=>by
   simp only[Xfx]at h
   split at h
   · rename_i hc;cases h;exact⟨by simp,hc⟩
   · obtain⟨h1,h2⟩:=Xcn h;exact⟨List.mem_cons_of_mem _ h1,h2⟩
theorem Xa0{kr:X5B}:∀{rows:List X5B},(rows.map (·.k)).Nodup→kr∈rows→X81 rows kr.k=some kr
 | k0::rows,hn,h=>by
   simp only[List.map_cons,List.nodup_cons]at hn
   simp only[X81]
   rcases List.mem_cons.1 h with e | h
   · subst e;simp
   · have:k0.k≠kr.k:=fun e=>hn.1 (List.mem_map.2 ⟨kr,h,e.symm⟩)
     rw[if_neg this];exact Xa0 hn.2 h
theorem X6X{k:Nat}{rv:X0f}:∀{rows:List X5B},look k (Xap st rows)=some rv→∃kr∈rows,kr.k=k∧Xdg st kr=some rv
 | [],h=>by cases h
 | kr::rows,h=>by
   simp only[Xap]at h
   split at h
   · rename_i rv' hv
     rw[X01]at h
     split at h
     · rename_i e;cases h;exact⟨kr,by simp,e,hv⟩
     · obtain⟨kr',h1,h2⟩:=X6X h;exact⟨kr',List.mem_cons_of_mem _ h1,h2⟩
   · obtain⟨kr',h1,h2⟩:=X6X h;exact⟨kr',List.mem_cons_of_mem _ h1,h2⟩
theorem Xhf{rows rows':List (Nat×X0f)}{σ':Sg}{vs:List Value}{cs:List X00}(h:X0y (RdT σ rows M) vs cs):X0y (RdT σ' rows' M) vs (unC cs):=by
 induction h with
 | nil=>exact .nil
 | @cons v c vs cs hx hr ih=>
   cases c with
   | lst t l tag=>exact .cons ⟨hx.1,trivial⟩ ih
   | int k n=>exact .cons ⟨hx.1,trivial⟩ ih
   | bool b=>exact .cons ⟨hx.1,trivial⟩ ih
   | str s=>exact .cons ⟨hx.1,trivial⟩ ih
   | emp t=>exact .cons ⟨hx.1,hx.2⟩ ih
   | _=>exact .cons ⟨hx.1,trivial⟩ ih
theorem Xbq{rows rows':List (Nat×X0f)}{σ':Sg}{v:Value}{cs:List X00}(h:X5L σ rows M v cs):X5L σ' rows' M v (unC cs):=by
 obtain⟨ad,hv,hc⟩:=h
 obtain⟨vs,h1,h2⟩:=X5R (σ:=σ) (rows:=rows) (ad:=ad) (cs:=cs) (o:=0) (by simpa using hc)
 refine⟨ad,hv,fun j c hj=>?_⟩
 obtain⟨u,hu,hr⟩:=(Xhf (σ':=σ') (rows':=rows') h1).get hj
 exact⟨u,by simpa using h2 j u hu,hr⟩
theorem X6B(kp:X8J)(ρ:List (Nat×Nat))(st:St)(i:Nat):∀l,look i (X99 kp ρ st l)=if i∈l then some (reS kp ρ st i (X5w st.rows (st.get i))) else none
 | []=>rfl
 | s::l=>by
   simp only[X99,X01,X6B kp ρ st i l,List.mem_cons]
   by_cases h:s=i
   · subst h;simp
   · simp[h,Ne.symm h]
theorem X3l(kp:X8J)(ρ:List (Nat×Nat))(st:St)(k:Nat):∀l,look k (X7W kp ρ st l)=if k∈l then(st.box k).map (fun cs=>XhQ kp ρ true k 0 (X54 st.rows cs)) else none
 | []=>rfl
 | b::l=>by
   simp only[X7W]
   cases hb:st.box b with
   | none=>
     rw[X3l kp ρ st k l]
     by_cases h:k=b
     · subst h;simp[hb]
     · simp[h]
   | some cs=>
     rw[X01,X3l kp ρ st k l]
     by_cases h:b=k
     · subst h;simp[hb]
     · simp[h,Ne.symm h]
end Go.Proofs.Ytakllifahpfmpaa.Bv
namespace Go.Proofs.Ytakllifahpfmpaa.Bv
variable {P:Program} {base:World} {M0:Mem} {ios:Ios} {σ:Sg} {M:Mem} {w:World} {a:Act} {st:St} {tab:Tab} {Γ:Gam}
noncomputable def X7X(σ:Sg)(w:World)(a:Act)(st:St)(rows:List X5B):Sg where
 box:=σ.box
 row:=fun k=>match X81 rows k with | some kr=>X8L σ w a kr | none=>σ.row k
 foot:=fun k=>match X81 rows k with | some kr=>(match X57 st kr with | .hot r _ _=>σ.foot r | _=>[]) | none=>[]
 mem:=fun k=>match X81 rows k with | some kr=>(match X57 st kr with | .hot r _ _=>σ.mem r | _=>fun _=>none) | none=>fun _=>none
structure RenF (tab:Tab) (σ:Sg) (w:World) (a:Act) (st:St) (rows:List X5B):Prop where
 keys:(rows.map (·.k)).Nodup
 hots:((rho st rows).map (·.1)).Nodup
 colds:(X4i st rows).Nodup
 ok:∀kr∈rows,Xef tab st kr=true
 row:∀kr∈rows,(X7X σ w a st rows).row kr.k=X8L σ w a kr
 hotv:∀kr∈rows,∀r t l,X57 st kr=.hot r t l→X8L σ w a kr=σ.row r∧(X7X σ w a st rows).foot kr.k=σ.foot r∧(X7X σ w a st rows).mem kr.k=σ.mem r
 nilv:∀kr∈rows,∀t,X57 st kr=.nil t→(∃ad,X8L σ w a kr=.slice ad 0 0)∧(X7X σ w a st rows).foot kr.k=[]∧(X7X σ w a st rows).mem kr.k=fun _=>none
 coldv:∀kr∈rows,∀r,X57 st kr=.cold r→r≠0∧st.row r=some kr.e∧X8L σ w a kr=σ.row r
 cnilv:∀kr∈rows,X57 st kr=.cnil→X8L σ w a kr=.slice none 0 0
theorem renF(hS:Sim P base M0 ios σ M w a st){kp:X8J}(h:X8U tab kp st=true):RenF tab σ w a st kp.rows:=by
 unfold X8U at h
 simp only[Bool.and_eq_true,List.all_eq_true]at h
 obtain⟨⟨⟨h1,h2⟩,h3⟩,h4⟩:=h
 have hk:=X39 h2
 have fk:=fun kr (hm:kr∈kp.rows)=>Xa0 hk hm
 refine⟨hk,X39 h3,X39 h4,h1,fun kr hm=>?_,fun kr hm r t l ho=>⟨?_,?_,?_⟩,fun kr hm t ho=>⟨?_,?_,?_⟩,fun kr hm r ho=>?_,fun kr hm ho=>?_⟩
 · simp only[X7X,fk kr hm]
 · have hs:=X2R st kr
   rw[ho]at hs
   obtain⟨_,hp,ver,z,hl⟩:=hs
   exact(X6F hS hp).2 (by rw[hl];rfl)
 · simp only[X7X,fk kr hm,ho]
 · simp only[X7X,fk kr hm,ho]
 · have hs:=X2R st kr
   rw[ho]at hs
   rcases hs.2 with hp | hp
   · exact⟨none,by have:=(X6F hS hp).2;simpa [X59] using this⟩
   · exact(X6F hS hp).2
 · simp only[X7X,fk kr hm,ho]
 · simp only[X7X,fk kr hm,ho]
 · have hs:=X2R st kr
   rw[ho]at hs
   obtain⟨_,h0,t,l,hp,hr⟩:=hs
   refine⟨h0,hr,?_⟩
   have:=(X6F hS hp).2
   simp only[X59,if_neg h0]at this
   obtain⟨rv,hl,_⟩:=X2B hr
   exact this (by rw[hl];rfl)
 · have hs:=X2R st kr
   rw[ho]at hs
   obtain⟨_,t,l,hp⟩:=hs
   have:=(X6F hS hp).2
   simpa [X59] using this
theorem Xg7(hS:Sim P base M0 ios σ M w a st){rows:List X5B}(F:RenF tab σ w a st rows){rows':List (Nat×X0f)}{v:Value}{c:X00}(h:RdT σ st.rows M v c):RdT (X7X σ w a st rows) rows' M v (reC1 (rho st rows) c):=by
 have hk:∀{r k:Nat},look r (rho st rows)=some k→(X7X σ w a st rows).row k=σ.row r∧(look r st.rows).isSome=true:=fun {r k} hl=>by
  obtain⟨kr,hm,e,t,l,ho⟩:=Xb6 hl
  subst e
  have hs:=X2R st kr
  rw[ho]at hs
  obtain⟨_,_,ver,z,hl⟩:=hs
  exact⟨by rw[F.row kr hm,(F.hotv kr hm r t l ho).1],by rw[hl];rfl⟩
 cases c with
 | lst t l tag=>exact⟨h.1,trivial⟩
 | int k n=>exact⟨h.1,trivial⟩
 | bool b=>exact⟨h.1,trivial⟩
 | str s=>exact⟨h.1,trivial⟩
 | emp t=>exact⟨h.1,h.2⟩
 | und=>exact⟨h.1,trivial⟩
 | bor t l r ver p=>exact⟨h.1,trivial⟩
 | own t r=>
   simp only[reC1]
   split
   · rename_i k hl
     obtain⟨e1,e2⟩:=hk hl
     exact⟨h.1,fun _=>by rw[e1];exact h.2 e2⟩
   · exact⟨h.1,trivial⟩
 | sub t r lo hi=>
   simp only[reC1]
   split
   · rename_i k hl
     obtain⟨e1,e2⟩:=hk hl
     exact⟨h.1,fun _=>by rw[e1];exact h.2 e2⟩
   · exact⟨h.1,trivial⟩
theorem XgN{rows:List X5B}(F:RenF tab σ w a st rows){kr:X5B}(hm:kr∈rows){rows':List (Nat×X0f)}{v:Value}{c:X00}(hp:X6h st kr=some c)(hv:X8L σ w a kr=v)(h:RdT σ st.rows M v c):RdT (X7X σ w a st rows) rows' M v (Xi3 kr c):=by
 have hrow:v=(X7X σ w a st rows).row kr.k:=by rw[F.row kr hm,hv]
 have hk0:kr.k≠0:=by
  have:=F.ok kr hm
  simp only[Xef,Bool.and_eq_true,Bool.not_eq_true',beq_eq_false_iff_ne]at this
  exact this.1
 have hown:∀t,v.oneCell'=true→RdT (X7X σ w a st rows) rows' M v (.own t kr.k):=fun t h1=>⟨h1,fun _=>hrow⟩
 have h1:v.oneCell'=true:=h.1.oneCell
 cases c with
 | own t r=>
   simp only[Xi3]
   cases kr.hot
   · exact⟨h1,trivial⟩
   · exact hown t h1
 | emp t=>
   simp only[Xi3]
   cases kr.hot
   · exact⟨h1,trivial⟩
   · exact hown t h1
 | lst t l tag=>
   simp only[Xi3]
   cases kr.hot
   · refine⟨h.1,?_⟩
     simp only[cond_false,X59,if_neg hk0]
     exact fun _=>hrow
   · exact hown t h1
 | _=>exact⟨h1,trivial⟩
theorem Xdp(hS:Sim P base M0 ios σ M w a st){kp:X8J}(F:RenF tab σ w a st kp.rows){rows':List (Nat×X0f)}{b:Bool}{s:Nat}{vs:List Value}{cs:List X00}(h:X0y (RdT σ st.rows M) vs cs):∀(i:Nat),
 (∀(j:Nat) (kr:X5B) (v:Value) (c:X00),vs[j]?=some v→cs[j]?=some c→kr∈kp.rows→kr.bx=b→kr.s=s→kr.i=i+j→X6h st kr=some c∧X8L σ w a kr=v)→X0y (RdT (X7X σ w a st kp.rows) rows' M) vs (XhQ kp (rho st kp.rows) b s i cs):=by
 induction h with
 | nil=>intro i _;exact .nil
 | @cons v c vs cs hx hr ih=>
   intro i hk
   have ih':=ih (i+1) (fun j kr u d hu hd hm e1 e2 e3=>hk (j+1) kr u d (by simpa using hu) (by simpa using hd) hm e1 e2 (by omega))
   simp only[XhQ]
   refine .cons ?_ ih'
   split
   · rename_i kr hf
     obtain⟨hm,e1,e2,e3⟩:=Xcn hf
     obtain⟨h1,h2⟩:=hk 0 kr v c (by simp) (by simp) hm e1 e2 (by omega)
     exact XgN F hm h1 h2 hx
   · exact Xg7 hS F hx
theorem XaQ{kp:X8J}{σ':Sg}(hb:σ'.box=σ.box){rows':List (Nat×X0f)}{boxes':List (Nat×List X00)}(hbx:∀k,k∈kp.boxes→(st.box k).isSome=true→(look k boxes').isSome=true){vs:List Value}{l:List Cap}(h:X0y (X5Q σ st.rows st.boxes M) vs l):∀{l'},X6r kp st l=some l'→X0y (X5Q σ' rows' boxes' M) vs l':=by
 induction h with
 | nil=>intro l' e;cases e;exact .nil
 | @cons v c vs l hx hr ih=>
   intro l' e
   cases c with
   | box k off=>
     simp only[X6r]at e
     split at e
     · rename_i r hc h2
       cases e
       rw[Bool.and_eq_true]at hc
       exact .cons ⟨by rw[hb];exact hx.1,hbx k (by simpa using hc.1) hc.2⟩ (ih h2)
     · cases e
   | ptr cs=>
     simp only[X6r]at e
     split at e
     · rename_i r h2
       cases e
       exact .cons (Xbq hx) (ih h2)
     · cases e
   | pp k off=>
     simp only[X6r]at e
     split at e
     · rename_i r hc h2
       cases e
       rw[Bool.and_eq_true]at hc
       obtain⟨ad,q1,q2,q3⟩:=hx
       exact .cons ⟨ad,q1,by rw[hb];exact q2,hbx k (by simpa using hc.1) hc.2⟩ (ih h2)
     · cases e
   | pptr cs=>
     simp only[X6r]at e
     split at e
     · rename_i r h2
       cases e
       obtain⟨ad,u,q1,q2,q3⟩:=hx
       exact .cons ⟨ad,u,q1,q2,Xbq q3⟩ (ih h2)
     · cases e
theorem Sim.rename(hT:X0q P tab)(hS:Sim P base M0 ios σ M w a st){kp:X8J}(h:X8U tab kp st=true):∃σ',Sim P base M0 ios σ' M w a (Bv.rename kp st):=by
 have F:=renF hS h
 have hrowof:∀{k:Nat} {rv:X0f},look k (Xap st kp.rows)=some rv→∃kr∈kp.rows,kr.k=k∧Xdg st kr=some rv:=fun hl=>X6X hl
 have hbox:∀k,((Bv.rename kp st).box k).isSome=true→(st.box k).isSome=true:=fun k hs=>by
  have e:(Bv.rename kp st).box k=if k∈kp.boxes then _ else none:=X3l kp _ st k kp.boxes
  rw[e]at hs
  split at hs
  · simpa using hs
  · cases hs
 have hhot:∀{k:Nat},X0t k (Bv.rename kp st).rows→∃kr∈kp.rows,kr.k=k∧((∃r t l,X57 st kr=.hot r t l∧X0t r st.rows∧(X7X σ w a st kp.rows).foot k=σ.foot r)∨(X7X σ w a st kp.rows).foot k=[]):=fun {k} ⟨e,t,l,ver,hole,z,hl⟩=>by
  obtain⟨kr,hm,ek,hrr⟩:=hrowof hl
  subst ek
  refine⟨kr,hm,rfl,?_⟩
  unfold Xdg at hrr
  split at hrr
  · rename_i r t' l' ho
    have hs:=X2R st kr
    rw[ho]at hs
    obtain⟨_,_,ver,z,hl⟩:=hs
    exact .inl ⟨r,t',l',ho,⟨_,_,_,_,_,_,hl⟩,(F.hotv kr hm r t' l' ho).2.1⟩
  · rename_i t' ho;exact .inr (F.nilv kr hm t' ho).2.1
  · cases hrr
  · cases hrr
  · cases hrr
 have hcold:∀{k:Nat} {e:TypeId},(Bv.rename kp st).row k=some e→∃kr∈kp.rows,kr.k=k∧kr.e=e∧((∃r,X57 st kr=.cold r∧st.row r=some e∧(X7X σ w a st kp.rows).row k=σ.row r)∨((X7X σ w a st kp.rows).row k=.slice none 0 0∧(look e tab).isSome=true)):=fun {k e} hr=>by
  obtain⟨rv,hl,hc⟩:=X2B hr
  obtain⟨kr,hm,ek,hrr⟩:=hrowof hl
  subst ek
  unfold Xdg at hrr
  split at hrr
  · cases hrr;cases hc
  · cases hrr;cases hc
  · rename_i r ho
    cases hrr;cases hc
    obtain⟨_,h2,h3⟩:=F.coldv kr hm r ho
    exact⟨kr,hm,rfl,rfl,.inl ⟨r,ho,h2,by rw[F.row kr hm,h3]⟩⟩
  · rename_i ho
    cases hrr;cases hc
    have hok:=F.ok kr hm
    simp only[Xef,ho,Bool.and_eq_true]at hok
    exact⟨kr,hm,rfl,rfl,.inr ⟨by rw[F.row kr hm,F.cnilv kr hm ho],hok.2.2⟩⟩
  · cases hrr
 refine⟨X7X σ w a st kp.rows,?_⟩
 exact {
  mem:=hS.mem
  nt:=hS.nt
  slots:=fun i=>by
   have hget:(Bv.rename kp st).get i=if i∈kp.hold++kp.slots then reS kp (rho st kp.rows) st i (X5w st.rows (st.get i)) else .und:=by
    simp only[St.get,Bv.rename,X6B]
    split
    · rename_i sv hs
      split at hs
      · rename_i hm;rw[if_pos hm];cases hs;rfl
      · cases hs
    · rename_i hs
      split at hs
      · cases hs
      · rename_i hm;rw[if_neg hm]
   rw[hget]
   split
   · have hs:=X9L hS (fun _ _ h=>h) (hS.slots i)
     have hbx:∀k,k∈kp.boxes→(st.box k).isSome=true→(look k (Bv.rename kp st).boxes).isSome=true:=fun k h1 h2=>by
      have e:look k (Bv.rename kp st).boxes=if k∈kp.boxes then _ else none:=X3l kp _ st k kp.boxes
      rw[e,if_pos h1];simpa using h2
     cases hg:X5w st.rows (st.get i) with
     | und=>trivial
     | nil=>rw[hg]at hs;exact hs
     | tup l=>trivial
     | bptr cs r ver=>trivial
     | ptr cs=>rw[hg]at hs;exact Xbq hs
     | pptr cs=>
       rw[hg]at hs
       obtain⟨ad,u,q1,q2,q3⟩:=hs
       exact⟨ad,u,q1,q2,Xbq q3⟩
     | pp k off=>
       rw[hg]at hs
       obtain⟨ad,q1,q2,q3⟩:=hs
       simp only[reS]
       split
       · rename_i hc
         rw[Bool.and_eq_true]at hc
         exact⟨ad,q1,q2,hbx k (by simpa using hc.1) hc.2⟩
       · trivial
     | fn f x y=>
       rw[hg]at hs
       obtain⟨va,vb,hv,h1,h2⟩:=hs
       simp only[reS]
       split
       · rename_i x' y' e1 e2
         exact⟨va,vb,hv,XaQ (σ:=σ) (σ':=X7X σ w a st kp.rows) rfl hbx h1 e1,XaQ (σ:=σ) (σ':=X7X σ w a st kp.rows) rfl hbx h2 e2⟩
       · trivial
     | hp t r j off=>
       rw[hg]at hs
       simp only[reS]
       split
       · rename_i k hl
         obtain⟨kr,hm,e,t',l',ho⟩:=Xb6 hl
         subst e
         have hsp:=X2R st kr
         rw[ho]at hsp
         obtain⟨_,_,ver,z,hl⟩:=hsp
         intro _
         rw[F.row kr hm,(F.hotv kr hm r t' l' ho).1]
         exact hs (by rw[hl];rfl)
       · trivial
     | box k off=>
       rw[hg]at hs
       simp only[reS]
       split
       · rename_i hc
         rw[Bool.and_eq_true]at hc
         exact⟨hs.1,hbx k (by simpa using hc.1) hc.2⟩
       · trivial
     | val ag cs=>
       rw[hg]at hs
       refine⟨Xdp hS F hs.1 0 (fun j kr v c hv hc hm e1 e2 e3=>?_),hs.2⟩
       rw[Nat.zero_add]at e3
       subst e2;subst e3
       constructor
       · unfold X6h XhF
         rw[e1,hg];exact hc
       · unfold X8L
         rw[e1]
         exact X7V hv
   · trivial
  boxes:=fun k cs hk=>by
   have e:(Bv.rename kp st).box k=if k∈kp.boxes then _ else none:=X3l kp _ st k kp.boxes
   rw[e]at hk
   split at hk
   · cases hb:st.box k with
     | none=>rw[hb]at hk;cases hk
     | some cs'=>
       rw[hb]at hk
       cases hk
       obtain⟨arr,E,h1,h2⟩:=hS.boxes k cs' hb
       refine⟨arr,E,h1,Xdp hS F (X5Z hS (fun _ _ h=>h) h2) 0 (fun j kr v c hv hc hm e1 e2 e3=>?_)⟩
       rw[Nat.zero_add]at e3
       subst e2;subst e3
       constructor
       · unfold X6h Xhz
         rw[e1,hb];exact hc
       · unfold X8L
         rw[e1]
         simp only
         rw[h1]
         exact X7V hv
   · cases hk
  boxM:=fun k hk=>hS.boxM k (hbox k hk)
  boxInj:=fun k k' h1 h2=>hS.boxInj k k' (hbox k h1) (hbox k' h2)
  boxBase:=fun k hk=>hS.boxBase k (hbox k hk)
  rows:=fun k e hr=>by
   obtain⟨kr,hm,ek,ee,hv⟩:=hcold hr
   rcases hv with⟨r,_,h1,h2⟩ | ⟨h1,h2⟩
   · rw[h2];exact hS.rows r e h1
   · rw[h1]
     obtain⟨te,hte⟩:=Option.isSome_iff_exists.1 h2
     obtain⟨inf,z,hi,_⟩:=(hT e te hte).info
     exact⟨⟨0,[],inf,hi,X2J.nil _ _ _,fun g hg=>by cases hg⟩⟩
  rowBox:=fun k b hr hb=>by
   obtain⟨e,he⟩:=Option.isSome_iff_exists.1 hr
   obtain⟨kr,hm,ek,ee,hv⟩:=hcold he
   rcases hv with⟨r,_,h1,h2⟩ | ⟨h1,_⟩
   · rw[h2];exact hS.rowBox r b (by rw[h1];rfl) (hbox b hb)
   · rw[h1];intro h2;cases h2
  rowInj:=fun k k' h1 h2 hne=>by
   obtain⟨e,he⟩:=Option.isSome_iff_exists.1 h1
   obtain⟨e',he'⟩:=Option.isSome_iff_exists.1 h2
   obtain⟨kr,hm,ek,ee,hv⟩:=hcold he
   obtain⟨kr',hm',ek',ee',hv'⟩:=hcold he'
   rcases hv with⟨r,ho,hre,hv⟩ | ⟨hv,_⟩
   · rcases hv' with⟨r',ho',hre',hv'⟩ | ⟨hv',_⟩
     · rw[hv,hv']
       refine hS.rowInj r r' (by rw[hre];rfl) (by rw[hre'];rfl) (fun e2=>?_)
       subst e2
       have:=XdU F.colds hm hm' ho ho'
       subst this
       exact hne (ek.symm.trans ek')
     · rw[hv,hv']
       cases hb:(σ.row r).ownBlock with
       | none=>exact .inl rfl
       | some g=>right;intro h3;cases h3
   · rw[hv];exact .inl rfl
  hot:={
   ok:=fun k e t l ver hole z hl=>by
    obtain⟨kr,hm,ek,hrr⟩:=hrowof hl
    subst ek
    have hok:=F.ok kr hm
    unfold Xdg at hrr
    split at hrr
    · rename_i r t' l' ho
      cases hrr
      obtain⟨v1,v2,v3⟩:=F.hotv kr hm r _ _ ho
      have hs:=X2R st kr
      rw[ho]at hs
      obtain⟨_,_,ver',z',hl'⟩:=hs
      have hk:=hS.hotAt hl'
      have hrow:=F.row kr hm
      rw[v1]at hrow
      exact {
       info:=hk.info
       pos:=hk.pos
       own:=by show X21 w t ((X7X σ w a st kp.rows).row kr.k) l ((X7X σ w a st kp.rows).foot kr.k);rw[hrow,v2];exact hk.own
       nodup:=by rw[v2];exact hk.nodup
       mem:=fun ad u hu=>by rw[v3]at hu;rw[v2,hrow];exact hk.mem ad u hu
       full:=fun _ ad u h1 h2 h3=>by rw[v2]at h1;rw[hrow]at h2;rw[v3];exact hk.full rfl ad u h1 h2 h3
       z:=fun h=>by cases h}
    · rename_i t' ho
      cases hrr
      obtain⟨⟨ad,v1⟩,v2,v3⟩:=F.nilv kr hm _ ho
      have hrow:=F.row kr hm
      rw[v1]at hrow
      simp only[Xef,ho,Bool.and_eq_true]at hok
      have hok2:=hok.2.2
      split at hok2
      · rename_i te hte
        simp only[Bool.and_eq_true,decide_eq_true_eq]at hok2
        obtain⟨i,zz,hi,hs,_⟩:=(hT _ te hte).info
        exact {
         info:=⟨i,hi,by rw[hs,hok2.1]⟩
         pos:=hok2.2
         own:=by show X21 w t ((X7X σ w a st kp.rows).row kr.k) [] ((X7X σ w a st kp.rows).foot kr.k);rw[hrow,v2];exact X21.emp ad
         nodup:=by rw[v2];exact List.nodup_nil
         mem:=fun ad u hu=>by rw[v3]at hu;cases hu
         full:=fun _ ad u h1 h2 h3=>by rw[v2]at h1;cases h1
         z:=fun h=>by cases h}
      · cases hok2
    · cases hrr
    · cases hrr
    · cases hrr
   base:=fun k hk g hg=>by
    obtain⟨kr,hm,ek,hv⟩:=hhot hk
    rcases hv with⟨r,t,l,ho,hr,hf⟩ | hf
    · rw[hf]at hg;exact hS.hot.base r hr g hg
    · rw[hf]at hg;cases hg
   noM:=fun k hk g hg=>by
    obtain⟨kr,hm,ek,hv⟩:=hhot hk
    rcases hv with⟨r,t,l,ho,hr,hf⟩ | hf
    · rw[hf]at hg;exact hS.hot.noM r hr g hg
    · rw[hf]at hg;cases hg
   noBox:=fun k hk b hb hg=>by
    obtain⟨kr,hm,ek,hv⟩:=hhot hk
    rcases hv with⟨r,t,l,ho,hr,hf⟩ | hf
    · rw[hf]at hg;exact hS.hot.noBox r hr b (hbox b hb) hg
    · rw[hf]at hg;cases hg
   noRow:=fun k hk k' hk' g hg hgf=>by
    obtain⟨kr,hm,ek,hv⟩:=hhot hk
    obtain⟨e',he'⟩:=Option.isSome_iff_exists.1 hk'
    obtain⟨kr',hm',ek',ee',hv'⟩:=hcold he'
    rcases hv' with⟨r',_,hr',hv'⟩ | ⟨hv',_⟩
    · rw[hv']at hg
      rcases hv with⟨r,t,l,ho,hr,hf⟩ | hf
      · rw[hf]at hgf;exact hS.hot.noRow r hr r' (by rw[hr'];rfl) g hg hgf
      · rw[hf]at hgf;cases hgf
    · rw[hv']at hg;cases hg
   apart:=fun k k' hk hk' hne g hg hg'=>by
    obtain⟨kr,hm,ek,hv⟩:=hhot hk
    obtain⟨kr',hm',ek',hv'⟩:=hhot hk'
    rcases hv with⟨r,t,l,ho,hr,hf⟩ | hf
    · rcases hv' with⟨r',t',l',ho',hr',hf'⟩ | hf'
      · rw[hf]at hg
        rw[hf']at hg'
        refine hS.hot.apart r r' hr hr' (fun e=>?_) g hg hg'
        subst e
        have:=XeT F.hots hm hm' ho ho'
        subst this
        exact hne (ek.symm.trans ek')
      · rw[hf']at hg';cases hg'
    · rw[hf]at hg;cases hg
   lt:=fun k hk g hg=>by
    obtain⟨kr,hm,ek,hv⟩:=hhot hk
    rcases hv with⟨r,t,l,ho,hr,hf⟩ | hf
    · rw[hf]at hg;exact hS.hot.lt r hr g hg
    · rw[hf]at hg;cases hg
   frz:=fun k e t l ver z hl=>by
    obtain⟨kr,hm,ek,hrr⟩:=hrowof hl
    unfold Xdg at hrr
    split at hrr<;>cases hrr}
  fr:=hS.fr
  defers:=hS.defers
  old:=hS.old
  le:=hS.le
  pin:=hS.pin
  pins:=fun p hp hs=>by
   obtain⟨rv,hl⟩:=Option.isSome_iff_exists.1 hs
   obtain⟨kr,hm,ek,hrr⟩:=hrowof hl
   have heven:=ios.even p hp
   have hok:=F.ok kr hm
   have hrow:=F.row kr hm
   rw[←ek]
   rw[hrow]
   rw[←ek]at heven
   simp only[Xef,Bool.and_eq_true]at hok
   have hok2:=hok.2
   have hsp:=X2R st kr
   cases ho:X57 st kr with
   | bad=>rw[ho]at hok2;cases hok2
   | nil t=>rw[ho]at hok2;simp only[Bool.and_eq_true,beq_iff_eq]at hok2;omega
   | cnil=>rw[ho]at hok2;simp only[Bool.and_eq_true,beq_iff_eq]at hok2;omega
   | hot r t l=>
     rw[ho]at hok2 hsp
     simp only[Bool.or_eq_true,beq_iff_eq]at hok2
     obtain⟨_,_,ver,z,hl'⟩:=hsp
     have e:r=kr.k:=by omega
     rw[(F.hotv kr hm r t l ho).1,e]
     have:=hS.pins p hp (by rw[←ek,←e,hl'];rfl)
     rw[←ek]at this;exact this
   | cold r=>
     rw[ho]at hok2
     simp only[Bool.and_eq_true,Bool.or_eq_true,beq_iff_eq]at hok2
     have e:r=kr.k:=by omega
     obtain⟨_,h2,h3⟩:=F.coldv kr hm r ho
     rw[h3,e]
     obtain⟨rv',hl',_⟩:=X2B h2
     have:=hS.pins p hp (by rw[←ek,←e,hl'];rfl)
     rw[←ek]at this;exact this
  olds:=fun i hi=>by cases hi}
theorem Sim.weaken(hT:X0q P tab)(hS:Sim P base M0 ios σ M w a st){kp:X8J}(h:XfJ tab kp st=true):∃σ' M',Sim P base M0 ios σ' M' w a (Bv.weaken kp st):=by
 unfold XfJ at h
 rw[Bool.and_eq_true]at h
 obtain⟨h1,h2⟩:=h
 have hfz:∀p∈Xgr kp st,∃e t l ver z,p.2=.frz e t l ver z∧look p.1 st.rows=some (.hot e t l ver none z):=fun p hp=>X9f hp
 obtain⟨M',hS'⟩:=hS.freezes hfz (X39 h1)
 have:ready kp st=X2s (Xgr kp st) st:=by
  unfold ready
  split
  · rename_i he;rw[he];rfl
  · rfl
 unfold Bv.weaken
 rw[this]at h2 ⊢
 obtain⟨σ',hS2⟩:=hS'.rename hT h2
 exact⟨σ',M',hS2⟩
end Go.Proofs.Ytakllifahpfmpaa.Bv
namespace Go.Proofs.Ytakllifahpfmpaa.Bv
structure X0w where
 kp:X8J
 T:Ty
 I:St→El T→Prop
 μ:St→El T→Nat
def Xdu(st:St)(s i:Nat):Option X00:=match st.get s with
 | .val _ cs=>cs[i]?
 | .ptr cs=>cs[i]?
 | _=>none
def intC:Option X00→Int
 | some (.int _ n)=>n
 | _=>0
def X9e:X00→Bool
 | .int ..=>true
 | .bool _=>true
 | .str _=>true
 | .lst ..=>true
 | _=>false
def X9V:List X00→List X00
 | []=>[]
 | c::l=>match X9e c with
   | true=>c::X9V l
   | false=>X9V l
def X9k(s:St):List Nat→Option (List X00)
 | []=>some []
 | i::l=>match s.get i,X9k s l with
   | .val _ cs,some r=>some (X9V cs++r)
   | _,_=>none
def X9A(s:St):List Nat→Option (List X00)
 | []=>some []
 | b::l=>match s.box b,X9A s l with
   | some cs,some r=>some (X9V cs++r)
   | _,_=>none
def X9U(s:St):List X5B→Option (List X00)
 | []=>some []
 | kr::l=>match look kr.k s.rows,X9U s l with
   | some (.hot _ t l _ _ _),some r=>some (.lst t l none::r)
   | some (.cold _),some r=>some r
   | _,_=>none
def Xf2(kp:X8J)(s:St):Option (List X00):=match X9k s kp.slots,X9A s kp.boxes,X9U s kp.rows with
 | some a,some b,some c=>some (a++(b++c))
 | _,_,_=>none
def Xf0:X00→X00→Option X00
 | .int k _,.int k' n=>if k=k' then some (.int k n) else none
 | .bool _,.bool b=>some (.bool b)
 | .str _,.str s=>some (.str s)
 | .lst t _ tag,.lst t' l _=>if t=t' then some (.lst t' l tag) else none
 | _,_=>none
def X9b:List X00→List X00→Option (List X00×List X00)
 | [],cs=>some ([],cs)
 | c::sh,cs=>match X9e c with
   | true=>match cs with
     | v::cs=>match Xf0 c v,X9b sh cs with
       | some c',some (r,cs')=>some (c'::r,cs')
       | _,_=>none
     | []=>none
   | false=>match X9b sh cs with
     | some (r,cs')=>some (c::r,cs')
     | none=>none
def XgJ(s0:St):List Nat→List X00→Option (List (Nat×Sv)×List X00)
 | [],cs=>some ([],cs)
 | s::l,cs=>match s0.get s with
   | .val ag sh=>match X9b sh cs with
     | some (c,r)=>match XgJ s0 l r with
       | some (sl,r')=>some ((s,.val ag c)::sl,r')
       | none=>none
     | none=>none
   | _=>none
def XgK(s0:St):List Nat→List X00→Option (List (Nat×List X00)×List X00)
 | [],cs=>some ([],cs)
 | b::l,cs=>match s0.box b with
   | some sh=>match X9b sh cs with
     | some (c,r)=>match XgK s0 l r with
       | some (sl,r')=>some ((b,c)::sl,r')
       | none=>none
     | none=>none
   | _=>none
def XdY(s0:St):List X5B→List X00→Option (List (Nat×X0f)×List X00)
 | [],cs=>some ([],cs)
 | kr::l,cs=>match look kr.k s0.rows with
   | some (.hot e t _ ver hole z)=>match cs with
     | .lst t' x _::cs=>match decide (t'=t),XdY s0 l cs with
       | true,some (sl,r)=>some ((kr.k,.hot e t' x ver hole z)::sl,r)
       | _,_=>none
     | _=>none
   | some (.cold e)=>match XdY s0 l cs with
     | some (sl,r)=>some ((kr.k,.cold e)::sl,r)
     | none=>none
   | _=>none
def X7E(s:St):List Nat→List (Nat×Sv)
 | []=>[]
 | i::l=>(i,s.get i)::X7E s l
def XbX(kp:X8J)(s0:St)(cs:List X00):Option St:=match XgJ s0 kp.slots cs with
 | some (sl,r)=>match XgK s0 kp.boxes r with
   | some (bx,r')=>match XdY s0 kp.rows r' with
     | some (rw,[])=>some {nt:=s0.nt,slots:=X7E s0 kp.hold++sl,boxes:=bx,rows:=rw}
     | _=>none
   | _=>none
 | none=>none
def XfF:X00→X00→Bool
 | .int k _,.int k' _=>decide (k=k')
 | .bool _,.bool _=>true
 | .str _,.str _=>true
 | .lst t _ tag,.lst t' _ tag'=>decide (t=t')&&decide (tag=tag')
 | .own t r,.own t' r'=>decide (t=t')&&decide (r=r')
 | .sub t r lo hi,.sub t' r' lo' hi'=>decide (t=t')&&decide (r=r')&&decide (lo=lo')&&decide (hi=hi')
 | .emp t,.emp t'=>decide (t=t')
 | .und,.und=>true
 | _,_=>false
def X9B:List X00→List X00→Bool
 | [],[]=>true
 | a::l,b::r=>XfF a b&&X9B l r
 | _,_=>false
def XeM:Sv→Sv→Bool
 | .val ag cs,.val ag' cs'=>decide (ag=ag')&&X9B cs cs'
 | _,_=>false
def XeS(s0 s:St):List Nat→Bool
 | []=>true
 | i::l=>XeM (s0.get i) (s.get i)&&XeS s0 s l
def XeN(s0 s:St):List Nat→Bool
 | []=>true
 | b::l=>(match s0.box b,s.box b with
   | some c,some c'=>X9B c c'
   | _,_=>false)&&XeN s0 s l
def Xf9(s0 s:St):List X5B→Bool
 | []=>true
 | kr::l=>(match look kr.k s0.rows,look kr.k s.rows with
   | some (.hot e t _ ver hole z),some (.hot e' t' _ ver' hole' z')=>decide (e=e')&&decide (t=t')&&decide (ver=ver')&&decide (hole=hole')&&decide (z=z')
   | some (.cold e),some (.cold e')=>decide (e=e')
   | _,_=>false)&&Xf9 s0 s l
def Xgt(tab:Tab)(an:X0w)(s0 st:St)(Z:El an.T→Prop):Prop:=
 match XfJ tab an.kp st with
 | true=>
   let s:=weaken an.kp st
   match decide (s0.nt=s.nt)&&XeS s0 s an.kp.slots&&XeN s0 s an.kp.boxes&&Xf9 s0 s an.kp.rows,Xf2 an.kp s with
   | true,some cs=>match X0A an.T cs with
     | some (y,[])=>X7E s0 an.kp.hold=X7E s an.kp.hold∧Z y
     | _=>False
   | _,_=>False
 | false=>False
def Xia(an:X0w)(s0:St)(x:El an.T)(F:St→Prop):Prop:=match XbX an.kp s0 (flat an.T x) with
 | some st=>F st
 | none=>False
theorem Xd5{c d:X00}(h:XfF c d=true)(hl:X9e d=true):Xf0 c (unT d)=some d∧X9e c=true:=by
 cases c<;>cases d<;>simp[XfF]at h<;>simp[X9e]at hl
 all_goals simp[Xf0,unT,h,X9e]
theorem Xe7{c d:X00}(h:XfF c d=true)(hl:X9e d=false):c=d∧X9e c=false:=by
 cases c<;>cases d<;>simp[XfF]at h<;>simp[X9e]at hl
 all_goals simp[h,X9e]
theorem X68:∀{sh ds:List X00} (r:List X00),X9B sh ds=true→X9b sh ((X9V ds).map unT++r)=some (ds,r)
 | [],[],r,_=>rfl
 | c::sh,[],r,h=>by simp[X9B]at h
 | [],d::ds,r,h=>by simp[X9B]at h
 | c::sh,d::ds,r,h=>by
   simp only[X9B,Bool.and_eq_true]at h
   cases hl:X9e d with
   | true=>
     obtain⟨h1,h2⟩:=Xd5 h.1 hl
     simp only[X9V,hl,List.map_cons,List.cons_append,X9b,h2,h1,X68 r h.2]
   | false=>
     obtain⟨h1,h2⟩:=Xe7 h.1 hl
     simp only[X9V,hl,X9b,h2,X68 r h.2,h1]
theorem XaN{s0 s:St}:∀{l:List Nat} {cs:List X00} (r:List X00),XeS s0 s l=true→X9k s l=some cs→XgJ s0 l (cs.map unT++r)=some (X7E s l,r)
 | [],cs,r,_,e=>by simp only[X9k,Option.some.injEq]at e;subst e;rfl
 | i::l,cs,r,h,e=>by
   simp only[XeS,Bool.and_eq_true]at h
   simp only[X9k]at e
   split at e
   · rename_i ag c r' h1 h2
     cases e
     have hs:=h.1
     rw[h1]at hs
     cases hw:s0.get i with
     | val ag' sh=>
       rw[hw]at hs
       simp only[XeM,Bool.and_eq_true,decide_eq_true_eq]at hs
       obtain⟨rfl,hs⟩:=hs
       simp only[XgJ,hw,List.map_append,List.append_assoc,X68 _ hs,XaN r h.2 h2,X7E,h1]
     | _=>rw[hw]at hs;simp[XeM]at hs
   · cases e
def Xbj(s:St):List Nat→List (Nat×List X00)
 | []=>[]
 | b::l=>match s.box b with
   | some cs=>(b,cs)::Xbj s l
   | none=>Xbj s l
theorem Xax{s0 s:St}:∀{l:List Nat} {cs:List X00} (r:List X00),XeN s0 s l=true→X9A s l=some cs→XgK s0 l (cs.map unT++r)=some (Xbj s l,r)
 | [],cs,r,_,e=>by simp only[X9A,Option.some.injEq]at e;subst e;rfl
 | b::l,cs,r,h,e=>by
   simp only[XeN,Bool.and_eq_true]at h
   simp only[X9A]at e
   split at e
   · rename_i c r' h1 h2
     cases e
     have hs:=h.1
     rw[h1]at hs
     cases hw:s0.box b with
     | some sh=>
       rw[hw]at hs
       simp only at hs
       simp only[XgK,hw,List.map_append,List.append_assoc,X68 _ hs,Xax r h.2 h2,Xbj,h1]
     | none=>rw[hw]at hs;cases hs
   · cases e
def Xab(s:St):List X5B→List (Nat×X0f)
 | []=>[]
 | kr::l=>match look kr.k s.rows with
   | some rv=>(kr.k,rv)::Xab s l
   | none=>Xab s l
theorem X8e{s0 s:St}:∀{l:List X5B} {cs:List X00} (r:List X00),Xf9 s0 s l=true→X9U s l=some cs→XdY s0 l (cs.map unT++r)=some (Xab s l,r)
 | [],cs,r,_,e=>by simp only[X9U,Option.some.injEq]at e;subst e;rfl
 | kr::l,cs,r,h,e=>by
   simp only[Xf9,Bool.and_eq_true]at h
   simp only[X9U]at e
   split at e
   · rename_i e1 t x v ho z r' h1 h2
     cases e
     have hs:=h.1
     rw[h1]at hs
     split at hs
     · rename_i e0 t0 x0 v0 ho0 z0 e' t' x' v' ho' z' h3 h4
       cases h4
       simp only[Bool.and_eq_true,decide_eq_true_eq]at hs
       obtain⟨⟨⟨⟨q1,q2⟩,q3⟩,q4⟩,q5⟩:=hs
       subst q1;subst q2;subst q3;subst q4;subst q5
       simp only[List.map_cons,unT,List.cons_append,XdY,h3,decide_true,X8e r h.2 h2,Xab,h1]
     · rename_i h4;cases h4
     · cases hs
   · rename_i e1 r' h1 h2
     cases e
     have hs:=h.1
     rw[h1]at hs
     split at hs
     · rename_i h4;cases h4
     · rename_i e0 e2 h3 h4
       simp only[Option.some.injEq,X0f.cold.injEq]at h4
       subst h4
       have hs:=of_decide_eq_true hs
       subst hs
       simp only[XdY,h3,X8e r h.2 h2,Xab,h1]
     · cases hs
   · cases e
theorem Xar(s:St)(i:Nat):∀l,look i (X7E s l)=if i∈l then some (s.get i) else none
 | []=>rfl
 | j::l=>by
   simp only[X7E,X01,Xar s i l,List.mem_cons]
   by_cases h:j=i
   · subst h;simp
   · simp[h,Ne.symm h]
theorem X8d(s:St)(k:Nat):∀l,look k (Xbj s l)=if k∈l then s.box k else none
 | []=>rfl
 | b::l=>by
   simp only[Xbj]
   cases hb:s.box b with
   | none=>
     rw[X8d s k l]
     by_cases h:k=b
     · subst h;simp[hb]
     · simp[h]
   | some cs=>
     rw[X01,X8d s k l]
     by_cases h:b=k
     · subst h;simp[hb]
     · simp[h,Ne.symm h]
theorem X8n(s:St)(k:Nat):∀(l:List X5B),look k (Xab s l)=if k∈l.map (·.k) then look k s.rows else none
 | []=>rfl
 | kr::l=>by
   simp only[Xab]
   cases hb:look kr.k s.rows with
   | none=>
     rw[X8n s k l]
     by_cases h:k=kr.k
     · subst h;simp[hb]
     · simp[h]
   | some cs=>
     rw[X01,X8n s k l]
     by_cases h:kr.k=k
     · subst h;simp[hb]
     · simp[h,Ne.symm h]
theorem XcZ{kp:X8J}{s0 st s:St}{cs:List X00}(hs:s=weaken kp st)(hnt:s0.nt=s.nt)(h1:XeS s0 s kp.slots=true)(h2:XeN s0 s kp.boxes=true)(h3:Xf9 s0 s kp.rows=true)(hc:Xf2 kp s=some cs)(hh:X7E s0 kp.hold=X7E s kp.hold):∃s',XbX kp s0 (cs.map unT)=some s'∧Ext s s':=by
 unfold Xf2 at hc
 split at hc
 · rename_i ca cb cr ha hb hr
   cases hc
   have e3:=X8e [] h3 hr
   rw[List.append_nil]at e3
   refine⟨{nt:=s0.nt,slots:=X7E s0 kp.hold++X7E s kp.slots,boxes:=Xbj s kp.boxes,rows:=Xab s kp.rows},?_,?_⟩
   · unfold XbX
     rw[List.map_append,XaN _ h1 ha,List.map_append]
     simp only[Xax _ h2 hb,e3]
   · subst hs
     refine⟨hnt.symm,fun i=>?_,fun k=>?_,fun r=>?_,fun i=>Iff.rfl⟩
     · have e:(⟨s0.nt,X7E s0 kp.hold++X7E (weaken kp st) kp.slots,Xbj (weaken kp st) kp.boxes,Xab (weaken kp st) kp.rows,[]⟩:St).get i=if i∈kp.hold++kp.slots then(weaken kp st).get i else .und:=by
        simp only[St.get,hh,X24,Xar,List.mem_append]
        by_cases m1:i∈kp.hold
        · simp[m1]
        · by_cases m2:i∈kp.slots
          · simp[m1,m2]
          · simp[m1,m2]
       rw[e]
       by_cases m:i∈kp.hold++kp.slots
       · rw[if_pos m]
       · rw[if_neg m]
         show(match look i (X99 kp (rho (ready kp st) kp.rows) (ready kp st) (kp.hold++kp.slots)) with | some sv=>sv | none=>.und)=_
         rw[X6B,if_neg m]
     · show look k (weaken kp st).boxes=look k (Xbj (weaken kp st) kp.boxes)
       rw[X8d]
       split
       · rfl
       · rename_i m
         show look k (X7W kp _ _ kp.boxes)=_
         rw[X3l,if_neg m]
     · show look r (weaken kp st).rows=look r (Xab (weaken kp st) kp.rows)
       rw[X8n]
       split
       · rfl
       · rename_i m
         cases hl:look r (weaken kp st).rows with
         | none=>rfl
         | some rv=>
           obtain⟨kr,hm,e,_⟩:=X6X hl
           exact absurd (List.mem_map.2 ⟨kr,hm,e⟩) m
 · cases hc
variable {P:Program} {base:World} {M0:Mem} {ios:Ios} {σ:Sg} {M:Mem} {w:World} {a:Act} {st:St} {tab:Tab} {Γ:Gam}
theorem X9R(hT:X0q P tab){an:X0w}{s0:St}{Z:El an.T→Prop}(h:Xgt tab an s0 st Z)(hS:Sim P base M0 ios σ M w a st):
 ∃y s σ' M',Z y∧XbX an.kp s0 (flat an.T y)=some s∧Sim P base M0 ios σ' M' w a s:=by
 unfold Xgt at h
 split at h
 · rename_i hk
   simp only at h
   split at h
   · rename_i cs hb hl
     split at h
     · rename_i y hy
       simp only[Bool.and_eq_true,decide_eq_true_eq]at hb
       obtain⟨⟨⟨hnt,h1⟩,h2⟩,h3⟩:=hb
       have hu:=X27 _ _ _ _ hy
       simp only[List.map_nil,List.append_nil]at hu
       obtain⟨σ',M',hS'⟩:=hS.weaken hT hk
       obtain⟨s',e1,e2⟩:=XcZ rfl hnt h1 h2 h3 hl h.1
       exact⟨y,s',σ',M',h.2,by rw[←hu];exact e1,hS'.ext e2⟩
     · exact h.elim
   · exact h.elim
 · exact h.elim
def XiA(tab:Tab)(an:X0w)(st:St)(Z:St→El an.T→Prop):Prop:=Xgt tab an (weaken an.kp st) st (Z (weaken an.kp st))
end Go.Proofs.Ytakllifahpfmpaa.Bv
namespace Go.Proofs.Ytakllifahpfmpaa.Bv
inductive Ex where
 | normal
 | exit (id:Nat)
 | ret
def Xix(next:St→Prop)(K:Ex→St→Prop):Ex→St→Prop
 | .normal,st=>next st
 | .exit id,st=>K (.exit id) st
 | .ret,st=>K .ret st
def XgP(id:Nat)(K:Ex→St→Prop):Ex→St→Prop
 | .exit id',st=>if id'=id then K .normal st else K (.exit id') st
 | .normal,st=>K .normal st
 | .ret,st=>K .ret st
def Xgx(Γ:Gam)(ops:List Oper)(st:St):List Nat:=match Γ.tk with
 | []=>[]
 | tk=>ops.flatMap fun o=>match o.op,o.dst with
   | .move x,some d=>match tk.contains (d+1000000),(X0Z st x).sv with
     | true,.val false [.own _ r]=>[r]
     | _,_=>[]
   | _,_=>[]
def Xgc(K:St→Prop):List Nat→St→Prop
 | [],st=>K st
 | r::l,st=>match look r st.rows with
   | some (.hot e t L ver none _)=>0<L.length∧Xgc K l {st with rows:=(r,.frz e t L ver true)::st.rows}
   | _=>False
def vc(tab:Tab)(Γ:Gam)(L:Nat→Option X0w):Code→Nat→St→(Ex→St→Prop)→Prop
 | .skip,_,st,K=>K .normal st
 | .region _ ops false,_,st,K=>match X8y st.nt ops.toList with
   | true=>X9n tab Γ ops.toList ops.toList st (K .normal)
   | false=>False
 | .region _ ops true,_,st,K=>match X8y st.nt ops.toList with
   | true=>Xgc (fun st=>Xik tab Γ ops.toList st (K .normal)) (Xgx Γ ops.toList st) st
   | false=>False
 | .seq x y,p,st,K=>vc tab Γ L x (2*p) st (Xix (fun st'=>vc tab Γ L y (2*p+1) st' K) K)
 | .cond c x y,p,st,K=>match (X0Z st c).sv with
   | .val false [.bool b]=>X02 b (vc tab Γ L x (2*p) st K) (vc tab Γ L y (2*p+1) st K)
   | _=>False
 | .block id c,p,st,K=>vc tab Γ L c (2*p) st (XgP id K)
 | .loop c,p,st,K=>match L p with
   | some an=>XiA tab an st fun s0 x0=>an.I st x0∧∀x,an.I st x→Xia an s0 x fun s=>
      vc tab Γ L c (2*p) s (Xix (fun st'=>Xgt tab an s0 st' fun y=>an.I st y∧an.μ st y<an.μ st x) K)
   | none=>False
 | .exit id,_,st,K=>K (.exit id) st
 | .ret,_,st,K=>K .ret st
 | _,_,_,_=>False
def Xi2:Ex→Exit
 | .normal=>.normal
 | .exit id=>.exit id
 | .ret=>.ret
variable {P:Program} {base:World} {M0:Mem} {ios:Ios} {σ:Sg} {M:Mem} {w:World} {a:Act} {st:St} {tab:Tab} {Γ:Gam}
theorem Xif{α:Type}(R:α→Prop)(μ:α→Nat):∀n x,R x→μ x≤n→∃x,R x∧∀y,R y→μ x≤μ y:=by
 intro n
 induction n with
 | zero=>intro x hx hn;exact⟨x,hx,fun y _=>by omega⟩
 | succ n ih=>
   intro x hx hn
   by_cases h:∃y,R y∧μ y≤n
   · obtain⟨y,hy,hyn⟩:=h;exact ih y hy hyn
   · refine⟨x,hx,fun y hy=>?_⟩
     rcases Nat.lt_or_ge n (μ y) with h1 | h1
     · omega
     · exact absurd ⟨y,hy,h1⟩ h
open Classical in
theorem Xcy{α:Type}{c:Code}{Q:Exit→Act→World→Prop}(R:α→Act→World→Prop)(μ:α→Nat){x:α}(h0:R x a w)(round:∀x a w,R x a w→c.wp P (Exit.then (fun a' w'=>∃y,R y a' w'∧μ y<μ x) Q) a w):(Code.loop c).wp P Q a w:=by
 let m:Act→World→Nat:=fun a w=>if h:∃x,R x a w∧∀y,R y a w→μ x≤μ y then μ h.choose else 0
 refine wp_loop (fun a w=>∃x,R x a w) m ⟨x,h0⟩ fun a w ⟨x,hx⟩=>?_
 have hl:=Xif (fun x=>R x a w) μ _ x hx (Nat.le_refl _)
 have hm:m a w=μ hl.choose:=dif_pos hl
 refine wp_mono (round hl.choose a w hl.choose_spec.1) fun e a' w' hq=>?_
 cases e with
 | normal=>
   obtain⟨y,hy,hlt⟩:=hq
   refine⟨⟨y,hy⟩,?_⟩
   have hl':=Xif (fun x=>R x a' w') μ _ y hy (Nat.le_refl _)
   have hm':m a' w'=μ hl'.choose:=dif_pos hl'
   rw[hm,hm']
   exact Nat.lt_of_le_of_lt (hl'.choose_spec.2 y hy) hlt
 | _=>exact hq
theorem XbY{K:St→Prop}:∀(l:List Nat) {st:St} {M:Mem},Sim P base M0 ios σ M w a st→Xgc K l st→∃M' st',Sim P base M0 ios σ M' w a st'∧st'.nt=st.nt∧K st'
 | [],st,M,hS,h=>⟨M,st,hS,rfl,h⟩
 | r::l,st,M,hS,h=>by
   unfold Xgc at h
   split at h
   · rename_i e t L ver z hl
     obtain⟨M',st',h1,h2,h3⟩:=XbY l (hS.freezeZ (z2:=true) hl fun _=>.inr fun e=>by rw[e]at h;exact absurd h.1 (by simp)) h.2
     exact⟨M',st',h1,h2,h3⟩
   · exact h.elim
theorem Xg3{L:Nat→Option X0w}(hm:P.follows .mixedOrders=true)(hT:X0q P tab)(hΓ:X72 P Γ):∀(c:Code) (p:Nat) (st:St) (K:Ex→St→Prop) (Q:Exit→Act→World→Prop) (σ:Sg) (M:Mem) (w:World) (a:Act),Sim P base M0 ios σ M w a st→
 (∀e σ' M' w' a' st',Sim P base M0 ios σ' M' w' a' st'→K e st'→Q (Xi2 e) a' w')→vc tab Γ L c p st K→c.wp P Q a w:=by
 intro c
 induction c with
 | skip=>intro p st K Q σ M w a hS hq h;exact wp_skip (hq .normal _ _ _ _ _ hS h)
 | region id ops draw=>
   intro p st K Q σ M w a hS hq h
   cases draw with
   | true=>
     simp only[vc]at h
     split at h
     · rename_i hd
       obtain⟨M,st,hS,hnt,h⟩:=XbY _ hS h
       rw[←hnt]at hd
       unfold Xik at h
       have hl0:∀j,(Array.replicate ops.size false).getD j false=false:=fun j=>by
        rw[Array.getD_eq_getD_getElem?,Array.getElem?_replicate];split<;>rfl
       have hu0:unl ops.size (Array.replicate ops.size false)≤ops.size:=by
        unfold unl
        exact Nat.le_trans (List.countP_le_length) (by simp)
       split at h
       · obtain⟨outs,st',hlen,hK,hext,hgood⟩:=X4T _ _ _ h
         split at hK
         · rename_i hok
           refine wp_region_any hm (X9T hT hΓ (fun _=>False) hd hlen hok (fun j o x _ hz=>hgood j o x hz) (fun σ' M' w' a' hS'=>hq .normal _ _ _ _ _ (hS'.ext hext.symm) hK) _ _ σ M _ a (by simp) hu0 ?_ (fun j hj=>hj.elim) ?_)
           · intro j hj
             rw[hl0 j]at hj;cases hj
           · rw[X6t (fun i _=>hl0 i)]
             exact hS.sameHeap rfl rfl rfl rfl
         · exact hK.elim
       · exact wp_region_any hm (Xf5 hT hΓ hd h (fun σ' M' w' a' st' hKK hS'=>hq .normal σ' M' w' a' st' hS' hKK) _ _ σ M _ a (by simp) hu0 hl0 (hS.sameHeap rfl rfl rfl rfl))
     · exact h.elim
   | false=>
     simp only[vc]at h
     split at h
     · rename_i hd
       exact wp_region_list (X6e hT hΓ (fun σ' M' w' a' st' hS' hK=>hq .normal σ' M' w' a' st' hS' hK) _ _ _ _ _ _ (X6b hd) hS h)
     · exact h.elim
 | seq x y ihx ihy=>
   intro p st K Q σ M w a hS hq h
   refine wp_seq (ihx _ st _ _ σ M w a hS ?_ h)
   intro e σ' M' w' a' st' hS' hK
   cases e with
   | normal=>exact ihy _ st' K Q σ' M' w' a' hS' hq hK
   | exit id=>exact hq _ _ _ _ _ _ hS' hK
   | ret=>exact hq _ _ _ _ _ _ hS' hK
 | cond c x y ihx ihy=>
   intro p st K Q σ M w a hS hq h
   simp only[vc]at h
   split at h
   · rename_i b hb
     replace h:=X7r h
     have hr:=(X1g (M:=M) hS c).rep
     rw[hb]at hr
     have hc:a.eval c=.bool b:=(X0h.one hr).1
     refine wp_cond_split hc (fun e=>ihx _ st K Q σ M w a hS hq (h.1 e)) (fun e=>ihy _ st K Q σ M w a hS hq (h.2 e))
   · exact h.elim
 | block id c ih=>
   intro p st K Q σ M w a hS hq h
   refine wp_block (ih _ st _ _ σ M w a hS ?_ h)
   intro e σ' M' w' a' st' hS' hK
   cases e with
   | normal=>exact hq .normal _ _ _ _ _ hS' hK
   | exit id'=>
     simp only[XgP]at hK
     show(if id'=id then Q .normal a' w' else Q (.exit id') a' w')
     split at hK
     · rename_i e;rw[if_pos e];exact hq .normal _ _ _ _ _ hS' hK
     · rename_i e;rw[if_neg e];exact hq (.exit id') _ _ _ _ _ hS' hK
   | ret=>exact hq .ret _ _ _ _ _ hS' hK
 | loop c ih=>
   intro p st K Q σ M w a hS hq h
   simp only[vc]at h
   split at h
   · rename_i an _
     obtain⟨x0,s0,σ0,M0',⟨hI0,hround⟩,hs0,hS0⟩:=X9R hT h hS
     refine Xcy (fun x a w=>an.I st x∧∃s σ M,XbX an.kp (weaken an.kp st) (flat an.T x)=some s∧Sim P base M0 ios σ M w a s) (an.μ st) (x:=x0) ⟨hI0,s0,σ0,M0',hs0,hS0⟩ ?_
     rintro x a w ⟨hI,s,σ,M,hs,hS⟩
     have hb:=hround x hI
     unfold Xia at hb
     rw[hs]at hb
     refine ih _ _ _ _ σ M w a hS ?_ hb
     intro e σ' M' w' a' st' hS' hK
     cases e with
     | normal=>
       obtain⟨y,s',σ2,M2,⟨hIy,hlt⟩,hs',hS2⟩:=X9R hT hK hS'
       exact⟨y,⟨hIy,s',σ2,M2,hs',hS2⟩,hlt⟩
     | exit id=>exact hq _ _ _ _ _ _ hS' hK
     | ret=>exact hq _ _ _ _ _ _ hS' hK
   · exact h.elim
 | exit id=>intro p st K Q σ M w a hS hq h;exact wp_exit (hq (.exit id) _ _ _ _ _ hS h)
 | ret=>intro p st K Q σ M w a hS hq h;exact wp_ret (hq .ret _ _ _ _ _ hS h)
 | _=>intro p st K Q σ M w a hS hq h;exact h.elim
end Go.Proofs.Ytakllifahpfmpaa.Bv
namespace Go.Proofs.Ytakllifahpfmpaa.Bv
def X2G(tab:Tab)(st:St):List ResultVar→List TypeId→Option (List (Bool×List X00))
 | [],[]=>some []
 | .tmp t::rs,ty::tys=>match X8S tab ty (st.get t) with
   | .val ag cs=>(X2G tab st rs tys).bind fun l=>some ((ag,cs)::l)
   | _=>none
 | .cell ad ty::rs,_::tys=>match st.get ad,look ty tab with
   | .box k off,some ti=>match st.box k with
     | some cs=>if off+size ti.ty≤cs.length∧(ti.agg=true∨size ti.ty=1) then(X2G tab st rs tys).bind fun l=>some ((ti.agg,(cs.drop off).take (size ti.ty))::l) else none
     | none=>none
   | _,_=>none
 | _,_=>none
def X87:List (Bool×Nat)→List (Bool×List X00)→Bool
 | [],[]=>true
 | (ag,n)::s,(ag',cs)::l=>(ag==ag')&&(cs.length==n)&&X87 s l
 | _,_=>false
def cellsOf:List (Bool×List X00)→List X00
 | []=>[]
 | p::l=>p.2++cellsOf l
def X7I(rows:List (Nat×X0f)):List (Nat×TypeId)→Option (List X00)
 | []=>some []
 | (j,e)::l=>match look (X79 j) rows,X7I rows l with
   | some (.hot _ t x _ none _),some r=>some (.lst t x none::r)
   | _,_=>none
def Xd2(con:Con)(st:St):Option (List X00):=match con.io with
 | true=>st.box 0
 | false=>some []
def Xc6(con:Con):List Nat:=con.backA.map fun p=>X79 p.1
def XhR(tab:Tab)(con:Con)(rs:List ResultVar)(tys:List TypeId)(i:El con.I)(x:El con.A)(st:St):Prop:=
 match X2G tab st rs tys,Xd2 con st with
 | some l,some bc=>
   let fz:=X2N st.rows (X2v st.rows (X0p (X3C con.fresh 0 (cellsOf l))++X0p (X3C con.ownI 0 bc)))
   let rows:=fz++st.rows
   let cs:=X54 rows (cellsOf l)
   let ib:=X54 rows bc
   match X62 rows cs,X3s rows cs con.fresh,X62 rows ib,X3s rows ib con.ownI,X7I rows con.backA with
   | some cv,some ks,some iv,some iks,some bv=>match X0A con.R cv,X0A con.I iv,X0A con.B bv with
     | some (r,[]),some (i',[]),some (b',[])=>
       match X87 con.shR l&&X2n (fz.map (·.1))&&X2n (ks++(iks++Xc6 con))&&(X0p (X3C con.fresh 0 cs)).isEmpty&&(X0p (X3C con.ownI 0 ib)).isEmpty with
       | true=>con.Post i x (r,(i',b'))
       | false=>False
     | _,_,_=>False
   | _,_,_,_,_=>False
 | _,_=>False
def XhD(tab:Tab)(con:Con)(rs:List ResultVar)(tys:List TypeId)(i:El con.I)(x:El con.A):Ex→St→Prop
 | .normal,st=>XhR tab con rs tys i x st
 | .ret,st=>XhR tab con rs tys i x st
 | .exit _,_=>False
def XbN(tab:Tab)(own:List (Nat×TypeId))(cs:List X00):Bool:=own.all fun p=>match cs[p.1]?,look p.2 tab with
 | some (.lst t _ _),some te=>decide (te.ty=t)&&decide (0<size t)
 | _,_=>false
variable {P:Program} {base:World} {M0:Mem} {ios:Ios} {σ:Sg} {M:Mem} {w:World} {a:Act} {st:St} {tab:Tab} {Γ:Gam}
def tyC:X00→Option Ty
 | .lst t _ _=>some t
 | _=>none
theorem Xb8:∀(t:Ty) (x y:El t),(flat t x).map tyC=(flat t y).map tyC
 | .int _,_,_=>rfl
 | .bool,_,_=>rfl
 | .str,_,_=>rfl
 | .list _,_,_=>rfl
 | .unit,_,_=>rfl
 | .pair a b,x,y=>by simp[flat,Xb8 a x.1 y.1,Xb8 b x.2 y.2]
theorem X6O(hT:X0q P tab){own:List (Nat×TypeId)}{t:Ty}{x0:El t}(h:XbN tab own (flat t x0)=true)(x:El t):Xbf P own (flat t x):=fun j e hj t' l tag hc=>by
 have h1:=List.all_eq_true.1 h (j,e) (X1a hj)
 simp only at h1
 have hty:((flat t x0).map tyC)[j]?=some (some t'):=by rw[Xb8 t x0 x,List.getElem?_map,hc];rfl
 rw[List.getElem?_map]at hty
 split at h1
 · rename_i t0 l0 tag0 te hc0 hte
   rw[hc0]at hty
   have e1:t0=t':=by simpa [tyC] using hty
   subst e1
   simp only[Bool.and_eq_true,decide_eq_true_eq]at h1
   obtain⟨i,z,hi,hs,_⟩:=(hT e te hte).info
   exact⟨⟨i,hi,by rw[hs,h1.1]⟩,h1.2⟩
 · cases h1
def XbP(tmps:Array Value):ResultVar→Sem Value
 | .tmp t=>pure (tmps.getD t undef)
 | .cell ad t=>do loadVar t (←asAddr (tmps.getD ad undef))
theorem XfW(l:List Value):(if h:l.toArray.size=1 then l.toArray[0] else Value.tuple l.toArray)=X7F l:=by
 match l with
 | []=>rfl
 | [v]=>rfl
 | v::u::r=>
   rw[dif_neg (by simp)];rfl
theorem Xei(fn:Func)(tmps:Array Value):results fn tmps=(do let vs ←fn.results.toList.mapM (XbP tmps);pure (X7F vs)):=by
 have h:results fn tmps=(do
  let vs ←fn.results.mapM (XbP tmps)
  pure (if h:vs.size=1 then vs[0] else .tuple vs)):=by
  unfold results
  congr 1
 rw[h,Array.mapM_eq_mapM_toList,map_eq_pure_bind,bind_assoc]
 congr 1
 funext vs
 rw[pure_bind]
 congr 1
 exact XfW vs
theorem XcG(hT:X0q P tab)(hS:Sim P base M0 ios σ M w a st):∀(rs:List ResultVar) (tys:List TypeId) (l:List (Bool×List X00)),X2G tab st rs tys=some l→
 ∃vs,(rs.mapM (XbP a.tmps)).run P w=.ok vs w∧X0y (X0h σ st.rows M) vs l
 | [],[],l,h=>by
   simp only[X2G,Option.some.injEq]at h;subst h
   exact⟨[],by simp,.nil⟩
 | [],_::_,l,h=>by simp[X2G]at h
 | .tmp t::rs,[],l,h=>by simp[X2G]at h
 | .cell ad ty::rs,[],l,h=>by simp[X2G]at h
 | .tmp t::rs,ty::tys,l,h=>by
   simp only[X2G]at h
   split at h
   · rename_i ag cs hc
     obtain⟨r,hr,e⟩:=Option.bind_eq_some_iff.1 h
     cases e
     obtain⟨vs,h1,h2⟩:=XcG hT hS rs tys r hr
     have h3:=X55 (tab:=tab) ty (hS.slots t)
     rw[hc]at h3
     exact⟨a.tmps.getD t undef::vs,by simp only[List.mapM_cons,XbP,pure_bind,Sem.run_bind,h1,Result.andThen_ok,Sem.run_pure],.cons h3 h2⟩
   · cases h
 | .cell ad ty::rs,_::tys,l,h=>by
   simp only[X2G]at h
   split at h
   · rename_i k off ti hg ht
     split at h
     · rename_i cs hk
       split at h
       · rename_i hc
         obtain⟨r,hr,e⟩:=Option.bind_eq_some_iff.1 h
         cases e
         obtain⟨vs,h1,h2⟩:=XcG hT hS rs tys r hr
         have h3:=hS.slots ad
         rw[hg]at h3
         obtain⟨arr,E,hh,hcs⟩:=hS.boxes k cs hk
         have h4:=(hcs.drop off).take (size ti.ty)
         obtain⟨v,hv,hvc,hva⟩:=X2d (w:=w) hT ht hc.2 ((⟨σ.box k,0,none⟩:Addr).add off) ((arr.toList.drop off).take (size ti.ty))
          (by rw[List.length_take,List.length_drop,hcs.length];omega)
          (by
            intro j u hu
            rw[add_lit,add_lit,cell_of_row w (σ.box k) _ arr E (0,0) hh]
            rw[List.getElem?_take]at hu
            split at hu
            · rw[List.getElem?_drop]at hu;rw[Nat.zero_add];simpa using hu
            · cases hu)
          h4.one
         refine⟨v::vs,?_,.cons ⟨by rw[hvc];exact h4,hva⟩ h2⟩
         simp only[List.mapM_cons,XbP,h3.1,asAddr,pure_bind,Sem.run_bind,hv,h1,Result.andThen_ok,Sem.run_pure]
       · cases h
     · cases h
   · cases h
theorem X0y.flatten{vs:List Value}{l:List (Bool×List X00)}(h:X0y (X0h σ st.rows M) vs l):X0y (RdT σ st.rows M) (vs.flatMap fun v=>v.cells.toList) (cellsOf l):=by
 induction h with
 | nil=>exact .nil
 | cons hx _ ih=>rw[List.flatMap_cons];exact hx.1.append ih
theorem XfU{vs:List Value}{l:List (Bool×List X00)}(h:X0y (X0h σ st.rows M) vs l):∀{shs:List (Bool×Nat)},X87 shs l=true→X9g shs vs (vs.flatMap fun v=>v.cells.toList):=by
 induction h with
 | nil=>intro shs hs;cases shs with
   | nil=>exact .nil
   | cons sh shs=>simp[X87]at hs
 | @cons v p vs l hx hr ih=>
   intro shs hs
   cases shs with
   | nil=>simp[X87]at hs
   | cons sh shs=>
     obtain⟨ag,n⟩:=sh
     obtain⟨ag',cs⟩:=p
     simp only[X87,Bool.and_eq_true,beq_iff_eq]at hs
     rw[List.flatMap_cons]
     refine .cons ?_ ?_ (ih hs.2)
     · have:=hx.1.length;simp at this;omega
     · rw[hs.1.1];exact hx.2
theorem XaO{rows:List (Nat×X0f)}{cs:List X00}{own:List (Nat×TypeId)}{ks:List Nat}(h:X3s rows cs own=some ks):∀r∈ks,∃e t l ver z,look r rows=some (.hot e t l ver none z):=fun r hr=>by
 obtain⟨a1,a2⟩:=X2q h
 obtain⟨j,e,t,hm,hc⟩:=a2 r hr
 obtain⟨c,y,hc',hh,_⟩:=a1 j e hm
 rw[hc]at hc';cases hc'
 obtain⟨e',l,ver,z,hl⟩:=XbM hh
 exact⟨_,_,_,_,_,hl⟩
theorem X7D{rows:List (Nat×X0f)}:∀{own:List (Nat×TypeId)} {bv:List X00},X7I rows own=some bv→bv.length=own.length∧bv.map unT=bv∧∀(k j:Nat) (e:TypeId),own[k]?=some (j,e)→∃e0 t l ver z,bv[k]?=some (.lst t l none)∧look (X79 j) rows=some (.hot e0 t l ver none z)
 | [],bv,h=>by simp only[X7I,Option.some.injEq]at h;subst h;exact⟨rfl,rfl,fun k j e hk=>by simp at hk⟩
 | (j,e)::own,bv,h=>by
   simp only[X7I]at h
   split at h
   · rename_i e0 t x ver z r hl hr
     cases h
     obtain⟨h1,h2,h3⟩:=X7D hr
     refine⟨by simp[h1],by simp[unT,h2],fun k j' e' hk=>?_⟩
     cases k with
     | zero=>simp at hk;obtain⟨rfl,rfl⟩:=hk;exact⟨e0,t,x,ver,z,by simp,hl⟩
     | succ k=>simp at hk;obtain⟨e1,t1,l1,v1,z1,q1,q2⟩:=h3 k j' e' hk;exact⟨e1,t1,l1,v1,z1,by simpa using q1,q2⟩
   · cases h
theorem Xcm{own:List (Nat×TypeId)}(f:Nat→Nat):X3Z own (fun j=>σ.foot (f j))=X1D σ (own.map fun p=>f p.1):=by
 unfold X3Z X1D
 rw[List.map_map];rfl
end Go.Proofs.Ytakllifahpfmpaa.Bv
namespace Go.Proofs.Ytakllifahpfmpaa.Bv
variable {P:Program} {base:World} {M0:Mem} {ios:Ios} {σ:Sg} {M:Mem} {w w':World} {a:Act} {st:St} {tab:Tab} {Γ:Gam}
theorem X6J{fz:List (Nat×X0f)}:∀(rs:List ResultVar) (tys:List TypeId),X2G tab (X2s fz st) rs tys=X2G tab st rs tys
 | [],[]=>rfl
 | [],_::_=>rfl
 | .tmp t::rs,[]=>rfl
 | .cell ad ty::rs,[]=>rfl
 | .tmp t::rs,ty::tys=>by
   simp only[X2G,X6J rs tys]
   rfl
 | .cell ad ty::rs,t::tys=>by
   simp only[X2G,X6J rs tys]
   rfl
theorem XhC(hT:X0q P tab){con:Con}{fn:Func}{tys:List TypeId}{i:El con.I}{x:El con.A}{acs:List Value}(hpins:∀j e,(j,e)∈con.backA→∃u,acs[j]?=some u∧(X79 j,u)∈ios.rows)(hio:con.io=ios.box.isSome)(hnew:con.newR=false)(hR:XbN tab con.fresh (flat con.R (dfl con.R))=true)(hI:XbN tab con.ownI (flat con.I (dfl con.I))=true)(hS:Sim P base M0 ios σ M w' a st)(hK:XhR tab con fn.results.toList tys i x st):a.defers=[]∧∃v,(results fn a.tmps).run P w'=.ok v w'∧Ret P con base M0 ios.blk ios.box acs i x (.returned v) w':=by
 refine⟨hS.defers,?_⟩
 unfold XhR at hK
 split at hK
 case h_2=>exact hK.elim
 rename_i l bc hl hbc
 simp only at hK
 have hmem:∀p∈X2N st.rows (X2v st.rows (X0p (X3C con.fresh 0 (cellsOf l))++X0p (X3C con.ownI 0 bc))),∃e t l ver z,p.2=.frz e t l ver z∧look p.1 st.rows=some (.hot e t l ver none z):=fun p hp=>X9f hp
 generalize X2N st.rows (X2v st.rows (X0p (X3C con.fresh 0 (cellsOf l))++X0p (X3C con.ownI 0 bc)))=fz at hK hmem
 split at hK
 case h_2=>exact hK.elim
 rename_i cv ks iv iks bv e1 e2 e3 e4 e5
 split at hK
 case h_2=>exact hK.elim
 rename_i r i' b' u1 u2 u3
 split at hK
 case h_2=>exact hK.elim
 rename_i hc
 simp only[Bool.and_eq_true,List.isEmpty_iff]at hc
 obtain⟨⟨⟨⟨c1,c2⟩,c3⟩,c4⟩,c5⟩:=hc
 obtain⟨M2,hS2⟩:=hS.freezes hmem (X39 c2)
 obtain⟨vs,hv1,hv2⟩:=XcG (st:=X2s fz st) hT hS2 _ _ _ ((X6J _ _).trans hl)
 refine⟨X7F vs,?_,?_⟩
 · rw[Xei]
   simp only[Sem.run_bind,hv1,Result.andThen_ok,Sem.run_pure]
 have hrows:∀r rv,look r (fz++st.rows)=some rv→look r (X2s fz st).rows=some rv:=fun _ _ h=>h
 have hrd:=X5Z hS2 hrows hv2.flatten
 have hB:=X7D e5
 have hhot:∀r∈ks++(iks++Xc6 con),X0t r (X2s fz st).rows:=fun r hr=>by
  rcases List.mem_append.1 hr with h | h
  · obtain⟨e,t,l,ver,z,hl⟩:=XaO e2 r h;exact⟨_,_,_,_,_,_,hl⟩
  · rcases List.mem_append.1 h with h | h
    · obtain⟨e,t,l,ver,z,hl⟩:=XaO e4 r h;exact⟨_,_,_,_,_,_,hl⟩
    · obtain⟨p,hp,rfl⟩:=List.mem_map.1 h
      obtain⟨j,e⟩:=p
      obtain⟨k,hk⟩:=List.getElem?_of_mem hp
      obtain⟨e0,t,l,ver,z,_,q⟩:=hB.2.2 k j e hk
      exact⟨_,_,_,_,_,_,q⟩
 have hnd:=X50 hS2 (X39 c3) hhot
 rw[X2p,X2p]at hnd
 have hcvR:=X7O e1 u1
 have hivI:=X7O e3 u2
 have hbvB:bv=flat con.B b':=by
  have:=X27 _ _ _ _ u3
  rw[hB.2.1]at this;simpa using this
 obtain⟨a1,_⟩:=X2q e2
 obtain⟨b1,_⟩:=X2q e4
 have hblk:∀g,(∃r∈ks++(iks++Xc6 con),g∈σ.foot r)→(base.heap.size≤g∨(g∈ios.blk∧ios.box≠some g))∧g<w'.heap.size∧∀ad,ad.block=g→M2 ad=none:=fun g ⟨r,hr,hg⟩=>by
  have hh:=hhot r hr
  refine⟨?_,hS2.hot.lt r hh g hg,hS2.hot.noM r hh g hg⟩
  rcases hS2.hot.base r hh g hg with h | h
  · exact .inl h
  · by_cases hb:ios.box=some g
    ·
     have hbx:(X2s fz st).box 0=some bc:=by
      have:con.io=true:=by rw[hio,hb];rfl
      unfold Xd2 at hbc
      rw[this]at hbc
      exact hbc
     have:=hS2.hot.noBox r hh 0 (by rw[hbx];rfl)
     rw[hS2.pin g hb]at this
     exact absurd hg this
    · exact .inr ⟨h,hb⟩
 refine⟨vs,(r,(i',b')),vs.flatMap fun v=>v.cells.toList,M2,X4o σ (X54 (fz++st.rows) (cellsOf l)),X4o σ (X54 (fz++st.rows) bc),fun j=>σ.foot (X79 j),[],rfl,hK,hS2.le,hS2.mem,hS2.fr,hS2.old,?_,?_,?_,?_,X6O hT hR _,X6O hT hI _,?_,?_⟩
 · rw[hnew]
   exact⟨rfl,XfU hv2 c1⟩
 · rw[←hcvR]
   exact Xbu hS2 (Mem.le_refl _) hrows hrd e1 (fun j e hm=>by obtain⟨c,y,k1,k2,_⟩:=a1 j e hm;exact⟨c,y,k1,k2⟩) (fun r hb=>by rw[c4]at hb;cases hb)
 · intro g hg
   have hio':con.io=true:=by rw[hio,hg];rfl
   have hbx:(X2s fz st).box 0=some bc:=by
    unfold Xd2 at hbc
    rw[hio']at hbc
    exact hbc
   obtain⟨arr,E,h1,h2⟩:=hS2.boxes 0 bc hbx
   rw[hS2.pin g hg]at h1
   refine⟨arr,E,h1,?_,fun ad had=>hS2.boxM 0 (by rw[hbx];rfl) ad (by rw[had,hS2.pin g hg])⟩
   rw[←hivI]
   exact Xbu hS2 (Mem.le_refl _) hrows (X5Z hS2 hrows h2) e3 (fun j e hm=>by obtain⟨c,y,k1,k2,_⟩:=b1 j e hm;exact⟨c,y,k1,k2⟩) (fun r hb=>by rw[c5]at hb;cases hb)
 · refine⟨by rw[←hbvB];exact hB.1,fun k j e hk=>?_⟩
   obtain⟨e0,t,x',ver,z,q1,q2⟩:=hB.2.2 k j e hk
   obtain⟨u,hu,hp⟩:=hpins j e (List.mem_of_getElem? hk)
   have hrow:σ.row (X79 j)=u:=hS2.pins (X79 j,u) hp (by show(look (X79 j) (fz++st.rows)).isSome=true;rw[q2];rfl)
   refine⟨u,t,x',hu,by rw[←hbvB];exact q1,?_⟩
   rw[←hrow]
   exact(hS2.hotAt q2).own
 · rw[X2u e2]
   have hbk:X3Z con.backA (fun j=>σ.foot (X79 j))=X1D σ (Xc6 con):=Xcm X79
   rw[hbk]
   cases hb:ios.box with
   | none=>
     have h2:(X1D σ ks++X1D σ (Xc6 con)).Nodup:=hnd.sublist (List.Sublist.append_left (List.sublist_append_right _ _) _)
     simpa using h2
   | some g=>
     show([]++(X1D σ ks++(X3Z con.ownI (X4o σ (X54 (fz++st.rows) bc))++X1D σ (Xc6 con)))).Nodup
     rw[X2u e4]
     simpa using hnd
 · intro g hg
   refine hblk g ?_
   rw[X2u e2]at hg
   have hbk:X3Z con.backA (fun j=>σ.foot (X79 j))=X1D σ (Xc6 con):=Xcm X79
   rw[hbk]at hg
   have hg2:g∈X1D σ (ks++(iks++Xc6 con)):=by
    rw[X2p,X2p]
    simp only[List.nil_append]at hg
    rcases List.mem_append.1 hg with h | h
    · exact List.mem_append.2 (.inl h)
    · refine List.mem_append.2 (.inr ?_)
      rcases List.mem_append.1 h with h | h
      · cases hb:ios.box with
        | none=>rw[hb]at h;cases h
        | some g'=>
          rw[hb]at h
          have h':g∈X3Z con.ownI (X4o σ (X54 (fz++st.rows) bc)):=h
          rw[X2u e4]at h'
          exact List.mem_append.2 (.inl h')
      · exact List.mem_append.2 (.inr h)
   obtain⟨r,hr,hg3⟩:=X2y hg2
   exact⟨r,hr,hg3⟩
end Go.Proofs.Ytakllifahpfmpaa.Bv
namespace Go.Proofs.Ytakllifahpfmpaa.Bv
def X7S:List Nat→Nat
 | []=>0
 | n::ns=>n+X7S ns
def XeH:List Nat→List X00→List Cap
 | [],_=>[]
 | n::ns,cs=>.ptr (cs.take n)::XeH ns (cs.drop n)
def X1f:Nat→List Sh→List X00→List (Nat×Sv)
 | _,[],_=>[]
 | i,.one::shs,cs=>(i,.val false (cs.take 1))::X1f (i+1) shs (cs.drop 1)
 | i,.agg n::shs,cs=>(i,.val true (cs.take n))::X1f (i+1) shs (cs.drop n)
 | i,.ptr n::shs,cs=>(i,.ptr (cs.take n))::X1f (i+1) shs (cs.drop n)
 | i,.clo f ns::shs,cs=>(i,.fn f [] (XeH ns (cs.take (X7S ns))))::X1f (i+1) shs (cs.drop (X7S ns))
 | i,.pptr n::shs,cs=>(i,.pptr (cs.take n))::X1f (i+1) shs (cs.drop n)
 | i,.clop f n::shs,cs=>(i,.fn f [] [.pptr (cs.take n)])::X1f (i+1) shs (cs.drop n)
 | i,.self f false::shs,cs=>(i,.fn f [.box 0 0] [])::X1f (i+1) shs (cs.drop 0)
 | i,.self f true::shs,cs=>(i,.fn f [] [.pp 0 0])::X1f (i+1) shs (cs.drop 0)
 | i,.pself::shs,cs=>(i,.pp 0 0)::X1f (i+1) shs (cs.drop 0)
def Xck(slots:List (Nat×Sv)):List Nat:=(slots.map (·.1)).filter fun i=>match look i slots with
 | some (.val _ _)=>true
 | _=>false
def X98(con:Con)(x:El con.A):List X00:=X6l X79 (con.ownA++con.backA) 0 (flat con.A x)
def X41(con:Con)(x:El con.A):List (Nat×X0f):=X2r X79 (con.ownA++con.backA) 0 (flat con.A x)
def X7y(con:Con)(x:El con.A):List (Nat×Sv):=match con.hid with
 | true=>X1f 0 con.shA (X98 con x)
 | false=>(0,.box 0 0)::X1f 1 con.shA (X98 con x)
def X8u(con:Con)(nt:Nat)(i:El con.I)(x:El con.A):St:=match con.io with
 | true=>{nt,slots:=X7y con x,boxes:=[(0,X6l Xa2 con.ownI 0 (flat con.I i))],rows:=X41 con x++X2r Xa2 con.ownI 0 (flat con.I i),olds:=Xck (X7y con x)}
 | false=>{nt,slots:=X1f 0 con.shA (X98 con x),boxes:=[],rows:=X41 con x,olds:=Xck (X1f 0 con.shA (X98 con x))}
variable {P:Program} {base:World} {M0:Mem} {ios:Ios} {σ:Sg} {M:Mem} {w w':World} {a:Act} {st:St} {tab:Tab} {Γ:Gam}
theorem Xg4{ns:List Nat}{vs cs:List Value}(h:X7k M ns vs cs):cs.length=X7S ns:=by
 induction h with
 | nil=>rfl
 | cons hx _ ih=>rw[List.length_append,hx.1,ih];rfl
theorem XhJ{rows:List (Nat×X0f)}{boxes:List (Nat×List X00)}{ns:List Nat}{vs cs:List Value}(h:X7k M ns vs cs):∀{cvs:List X00},X0y (RdT σ rows M) cs cvs→X0y (X5Q σ rows boxes M) vs (XeH ns cvs):=by
 induction h with
 | nil=>intro cvs _;exact .nil
 | @cons n v c ns vs cs hx hr ih=>
   intro cvs hc
   obtain⟨hn,ad,hv,hM⟩:=hx
   have hc1:X0y (RdT σ rows M) c (cvs.take n):=by have:=hc.take n;rw[List.take_left' hn]at this;exact this
   have hc2:X0y (RdT σ rows M) cs (cvs.drop n):=by have:=hc.drop n;rw[List.drop_left' hn]at this;exact this
   refine .cons ⟨ad,hv,fun j cv hj=>?_⟩ (ih hc2)
   obtain⟨u,hu,hr⟩:=hc1.get hj
   exact⟨u,hM j u hu,hr⟩
theorem Xbz{rows:List (Nat×X0f)}{n:Nat}{u:Value}{c:List Value}{cvs:List X00}(hx:Xc7 M n u c)(hc:X0y (RdT σ rows M) c cvs):X5L σ rows M u cvs:=by
 obtain⟨hn,ad,hv,hM⟩:=hx
 refine⟨ad,hv,fun j cv hj=>?_⟩
 obtain⟨u,hu,hr⟩:=hc.get hj
 exact⟨u,hM j u hu,hr⟩
theorem Xdc{σ:Sg}{rows:List (Nat×X0f)}{boxes:List (Nat×List X00)}{shs:List Sh}{vs cs:List Value}{b:Option Nat}(hb:∀g,b=some g→σ.box 0=g∧(look 0 boxes).isSome=true)(h:X6M M b shs vs cs):
 ∀{cvs:List X00} (k:Nat),X0y (RdT σ rows M) cs cvs→∀i,match look i (X1f k shs cvs) with
  | some sv=>k≤i∧i - k<vs.length∧X17 σ rows boxes M (vs.getD (i - k) undef) sv
  | none=>True:=by
 induction h with
 | nil=>intro cvs k _ i;simp[X1f,look]
 | @cons sh v c shs vs cs hx hr ih=>
   intro cvs k hc i
   have hlen:c.length≤cvs.length:=by have:=hc.length;simp at this;omega
   have hc1:X0y (RdT σ rows M) c (cvs.take c.length):=by have:=hc.take c.length;simpa using this
   have hc2:X0y (RdT σ rows M) cs (cvs.drop c.length):=by have:=hc.drop c.length;simpa using this
   have step:∀(n:Nat) (sv:Sv),c.length=n→X17 σ rows boxes M v sv→match look i ((k,sv)::X1f (k+1) shs (cvs.drop n)) with
    | some sv=>k≤i∧i - k<(v::vs).length∧X17 σ rows boxes M ((v::vs).getD (i - k) undef) sv
    | none=>True:=by
    intro n sv hn hsv
    subst hn
    rw[X01]
    by_cases hki:k=i
    · subst hki;simp;exact hsv
    · rw[if_neg hki]
      have:=ih (k+1) hc2 i
      split at this
      · rename_i sv' hl
        obtain⟨h1,h2,h3⟩:=this
        refine⟨by omega,by simp;omega,?_⟩
        rw[show i - k=(i - (k+1))+1 by omega]
        simpa using h3
      · trivial
   cases sh with
   | one=>
     obtain⟨rfl,hag⟩:=hx
     refine step 1 _ rfl ⟨?_,hag⟩
     have:v.cells=#[v]:=by cases v<;>first | rfl | (simp[X4l]at hag)
     rw[this];exact hc1
   | agg n=>
     obtain⟨hn,vs',rfl,rfl⟩:=hx
     exact step n _ hn ⟨by rw[hn]at hc1;exact hc1,rfl⟩
   | ptr n=>
     obtain⟨hn,ad,rfl,hM⟩:=hx
     refine step n _ hn ⟨ad,rfl,fun j cv hj=>?_⟩
     rw[hn]at hc1
     obtain⟨u,hu,hr⟩:=hc1.get hj
     exact⟨u,hM j u hu,hr⟩
   | clo f ns=>
     obtain⟨vb,rfl,hcaps⟩:=hx
     have hn:c.length=X7S ns:=Xg4 hcaps
     refine step (X7S ns) _ hn ⟨#[],vb,rfl,.nil,?_⟩
     rw[hn]at hc1
     exact XhJ (σ:=σ) (rows:=rows) (boxes:=boxes) hcaps hc1
   | pptr n=>
     obtain⟨ad,u,rfl,hu,hp⟩:=hx
     have hn:=hp.1
     rw[hn]at hc1
     exact step n _ hn ⟨ad,u,rfl,hu,Xbz hp hc1⟩
   | clop f n=>
     obtain⟨x,rfl,ad,u,rfl,hu,hp⟩:=hx
     have hn:=hp.1
     rw[hn]at hc1
     exact step n _ hn ⟨#[],_,rfl,.nil,.cons ⟨ad,u,rfl,hu,Xbz hp hc1⟩ .nil⟩
   | self f m=>
     obtain⟨rfl,hs⟩:=hx
     cases m with
     | false=>
       cases hbb:b with
       | none=>rw[hbb]at hs;exact hs.elim
       | some g=>
         rw[hbb]at hs
         obtain⟨q1,q2⟩:=hb g hbb
         refine step 0 _ rfl ⟨_,#[],hs,.cons ⟨?_,q2⟩ .nil,.nil⟩
         rw[q1];simp[Addr.add]
     | true=>
       cases hbb:b with
       | none=>rw[hbb]at hs;exact hs.elim
       | some g=>
         rw[hbb]at hs
         obtain⟨q1,q2⟩:=hb g hbb
         obtain⟨ad,e1,e2⟩:=hs
         refine step 0 _ rfl ⟨#[],_,e1,.nil,.cons ⟨ad,rfl,?_,q2⟩ .nil⟩
         rw[e2,q1];simp[Addr.add]
   | pself=>
     obtain⟨rfl,g,ad,hbb,rfl,e2⟩:=hx
     obtain⟨q1,q2⟩:=hb g hbb
     refine step 0 _ rfl ⟨ad,rfl,?_,q2⟩
     rw[e2,q1];simp[Addr.add]
def Wf:(t:Ty)→El t→Prop
 | .list t,l=>List.length l≤maxLen∧∀x,x∈(show List (El t) from l)→Wf t x
 | .pair a b,x=>Wf a x.1∧Wf b x.2
 | _,_=>True
theorem RdC.wf:∀(t:Ty) (cs:List Value) (x:El t),RdC M t cs x→Wf t x
 | .int _,_,_,_=>trivial
 | .bool,_,_,_=>trivial
 | .str,_,_,_=>trivial
 | .unit,_,_,_=>trivial
 | .pair a b,_,_,⟨_,_,_,h1,h2⟩=>⟨RdC.wf a _ _ h1,RdC.wf b _ _ h2⟩
 | .list t,_,l,⟨_,_,_,h1,h2,h⟩=>by
   refine⟨Nat.le_trans h1 h2,fun x hx=>?_⟩
   obtain⟨i,hi,e⟩:=List.getElem_of_mem hx
   obtain⟨_,vs,_,_,_,h4⟩:=h i hi
   have:=RdC.wf t vs _ h4
   rw[←e];exact this
theorem XcK{b:Option Nat}{shs:List Sh}{vs cs:List Value}(h:X6M M b shs vs cs):vs.length=shs.length:=by
 induction h with
 | nil=>rfl
 | cons _ _ ih=>simp[ih]
theorem Xdx(args:List Value)(n i:Nat)(hi:i<args.length):((args.toArray++Array.replicate n undef).getD i undef)=args.getD i undef:=by
 rw[Array.getD_eq_getD_getElem?,List.getD_eq_getElem?_getD,Array.getElem?_append_left (by simpa using hi)]
 simp
end Go.Proofs.Ytakllifahpfmpaa.Bv
namespace Go.Proofs.Ytakllifahpfmpaa.Bv
variable {P:Program} {base:World} {M0:Mem} {ios:Ios} {σ:Sg} {M:Mem} {w w':World} {a:Act} {st:St} {tab:Tab} {Γ:Gam}
def conB(tab:Tab)(con:Con)(nt:Nat):Bool:=
 XbN tab (con.ownA++con.backA) (flat con.A (dfl con.A))&&XbN tab con.ownI (flat con.I (dfl con.I))&&XbN tab con.fresh (flat con.R (dfl con.R))&&!con.newR&&decide (size con.A≤4096)&&
 decide (con.shA.length+(match con.io with | true=>1 | false=>0)≤nt)
theorem Xbe{key:Nat→Nat}(hinj:∀i j,key i=key j→i=j){fr:List (Nat×TypeId)}{F:Nat→List Nat}:∀{vs:List Value} {cs:List X00} (i:Nat),((mkD key fr F i vs cs).map (·.key)).Nodup
 | [],_,i=>List.nodup_nil
 | _::_,[],i=>List.nodup_nil
 | u::vs,c::cs,i=>by
   have ih:=Xbe hinj (fr:=fr) (F:=F) (vs:=vs) (cs:=cs) (i+1)
   cases c with
   | lst t l tag=>
     simp only[mkD]
     cases hl:look i fr with
     | none=>exact ih
     | some e=>
       simp only[List.map_cons,List.nodup_cons]
       refine⟨fun hm=>?_,ih⟩
       obtain⟨x,hx,e1⟩:=List.mem_map.1 hm
       obtain⟨j,_,_,_,_,h4,_⟩:=XaU (i+1) hx
       rw[h4]at e1
       have:=hinj _ _ e1
       omega
   | _=>exact ih
theorem XdV(i j:Nat)(h:X79 i=X79 j):i=j:=by unfold X79 at h;omega
theorem XgL(i j:Nat)(h:Xa2 i=Xa2 j):i=j:=by unfold Xa2 at h;omega
theorem Xga{M:Mem}{own:List (Nat×TypeId)}{vs:List Value}{cs:List X00}{F:Nat→List Nat}(h:X7i w M own vs cs F)(hM:∀ad v,M ad=some v→w.cell? ad=some v)(hn:(X3Z own F).Nodup):∀(j:Nat) (u:Value) (c:X00),vs[j]?=some u→cs[j]?=some c→RdV (X8F w) u c:=fun j u c hu hc=>by
 cases hl:look j own with
 | none=>exact(h.rd j u c hl hu hc).mono hM
 | some e=>
   obtain⟨u',t,l,k1,k2,k3⟩:=h.own j e hl
   rw[hu]at k1;cases k1
   rw[hc]at k2;cases k2
   exact X21.rdTop k3 ((X6H hn).1 (j,e) (X1a hl)) fun ad u _ _ hu=>hu
theorem X0y.of_get{α β:Type}{R:α→β→Prop}:∀{as:List α} {bs:List β},as.length=bs.length→(∀(j:Nat) a b,as[j]?=some a→bs[j]?=some b→R a b)→X0y R as bs
 | [],[],_,_=>.nil
 | [],_::_,h,_=>by simp at h
 | _::_,[],h,_=>by simp at h
 | a::as,b::bs,h,hr=>.cons (hr 0 a b (by simp) (by simp)) (X0y.of_get (by simpa using h) fun j x y hx hy=>hr (j+1) x y (by simpa using hx) (by simpa using hy))
theorem XdN{M:Mem}{own:List (Nat×TypeId)}{vs:List Value}{t:Ty}{x:El t}{F:Nat→List Nat}(h:X7i w M own vs (flat t x) F)(hM:∀ad v,M ad=some v→w.cell? ad=some v)(hn:(X3Z own F).Nodup):Wf t x:=
 RdC.wf t vs x (X97 t vs x (X0y.of_get h.len fun j u c hu hc=>Xga h hM hn j u c hu hc))
def XgZ(n:Nat):Option Nat→List (Nat×List X00)
 | some _=>[(0,Xa3 n)]
 | none=>[]
def Xh5(con:Con)(FI:Nat→List Nat)(ivs:List Value)(i:El con.I):Option Nat→List X7p
 | some _=>mkD Xa2 con.ownI FI 0 ivs (flat con.I i)
 | none=>[]
def XhZ(K:St→Prop):Ex→St→Prop
 | .normal,st=>K st
 | .ret,st=>K st
 | .exit _,_=>False
theorem Xfl{con:Con}(K:El con.I→El con.A→St→Prop)(L:(i:El con.I)→El con.A→Nat→Option X0w){n:FuncId}{fn:Func}{c:Code}(hm:P.follows .mixedOrders=true)(hT:X0q P tab)(hΓ:X72 P Γ)(hf:P.funcs[n]?=some fn)(hb:fn.body=some c)(hA:XbN tab (con.ownA++con.backA) (flat con.A (dfl con.A))=true)(hI:XbN tab con.ownI (flat con.I (dfl con.I))=true)(hsz:size con.A≤4096)(hnt:con.shA.length+(match con.io with | true=>1 | false=>0)≤fn.ntmps)(hfin:∀(ios:Ios) (base:World) (M0:Mem) (acs:List Value) (i:El con.I) (x:El con.A) (σ:Sg) (M:Mem) (w':World) (a:Act) (st:St),(∀j e,(j,e)∈con.backA→∃u,acs[j]?=some u∧(X79 j,u)∈ios.rows)→con.io=ios.box.isSome→
   (con.io=false→con.ownA=[]→con.backA=[]→ios.blk=[])→Sim P base M0 ios σ M w' a st→K i x st→a.defers=[]∧∃v,(results fn a.tmps).run P w'=.ok v w'∧Ret P con base M0 ios.blk ios.box acs i x (.returned v) w')(h:∀i x,con.pre i x→(con.io=true→Wf con.I i)→Wf con.A x→vc tab Γ (L i x) c 1 (X8u con fn.ntmps i x) (XhZ (K i x))):X0z P n con:=by
 intro w M vs cs i x F FI b hM hargs hown hio hbx hnd hnone hpre
 have hlen:=XcK hargs
 have hcl:cs.length=size con.A:=by rw[hown.len,X0V]
 obtain⟨nd1,nd2,nd3⟩:=List.nodup_append.1 hnd
 have ndI:∀g,b=some g→(X3Z con.ownI FI).Nodup∧g∉X3Z con.ownI FI:=fun g hg=>by
  rw[hg]at nd1
  have:=List.nodup_cons.1 nd1
  exact⟨this.2,this.1⟩
 have inA:∀g∈X3Z (con.ownA++con.backA) F,g∈X2M con b F FI:=fun g hg=>List.mem_append.2 (.inr hg)
 have inI:∀g0,b=some g0→∀g∈X3Z con.ownI FI,g∈X2M con b F FI:=fun g0 hg0 g hg=>List.mem_append.2 (.inl (by rw[hg0];exact List.mem_cons_of_mem _ hg))
 have inB:∀g,b=some g→g∈X2M con b F FI:=fun g hg=>List.mem_append.2 (.inl (by rw[hg];exact List.mem_cons_self))
 obtain⟨ivs,hiv⟩:∃ivs:List Value,∀g,b=some g→∃arr E,w.heap[g]?=some (.cells arr E (0,0))∧arr.toList=ivs∧X7i w M con.ownI ivs (flat con.I i) FI:=by
  cases b with
  | none=>exact⟨[],fun g hg=>by cases hg⟩
  | some g=>
    obtain⟨arr,E,h1,h2⟩:=hbx g rfl
    exact⟨arr.toList,fun g' hg'=>by cases hg';exact⟨arr,E,h1,rfl,h2⟩⟩
 let ios:Ios:={blk:=X2M con b F FI,box:=b,rows:=con.backA.map fun p=>(X79 p.1,cs.getD p.1 undef),even:=fun p hp=>by obtain⟨q,_,rfl⟩:=List.mem_map.1 hp;unfold X79;omega}
 let pre:List Value:=XfQ con.hid b
 have hpl:pre.length≤(match con.io with | true=>1 | false=>0):=by
  simp only[pre];rw[hio];cases b<;>cases con.hid<;>simp[XfQ]
 have hle:(pre++vs).length≤fn.ntmps:=by rw[List.length_append,hlen];omega
 show Calls P n (pre++vs).toArray w _
 refine calls_of_wp hf hb ?_
 let σ0:Sg:=⟨fun _=>b.getD 0,fun _=>undef,fun _=>[],fun _ _=>none⟩
 let st0:St:={nt:=fn.ntmps,slots:=[],boxes:=XgZ ivs.length b,rows:=[]}
 have box0:∀k,(st0.box k).isSome=true→k=0∧∃g,b=some g:=fun k hk=>by
  cases hb':b with
  | none=>simp only[St.box,st0,hb',XgZ,look]at hk;cases hk
  | some g=>
    simp only[St.box,st0,hb',XgZ,look]at hk
    split at hk
    · rename_i e;exact⟨e.symm,g,rfl⟩
    · cases hk
 have hS0:Sim P w M ios σ0 M w {tmps:=(pre++vs).toArray++Array.replicate (fn.ntmps - (pre++vs).toArray.size) undef,defers:=[]} st0:={
  mem:=hM
  nt:=by simp at hle ⊢;simp only[st0];omega
  slots:=fun i=>trivial
  boxes:=fun k ds hk=>by
   obtain⟨e,g,hg⟩:=box0 k (by rw[hk];rfl)
   subst e
   obtain⟨arr,E,h1,h2,h3⟩:=hiv g hg
   have hd:ds=Xa3 ivs.length:=by
    simp only[St.box,st0,hg,XgZ,look,if_true,Option.some.injEq]at hk;exact hk.symm
   subst hd
   refine⟨arr,E,by show w.heap[b.getD 0]?=_;rw[hg];exact h1,?_⟩
   rw[h2]
   exact X9h h3.one
  boxM:=fun k hk ad had=>by
   obtain⟨e,g,hg⟩:=box0 k hk
   exact hnone g (inB g hg) ad (by rw[had];show b.getD 0=g;rw[hg];rfl)
  boxInj:=fun k k' h1 h2 _=>by rw[(box0 k h1).1,(box0 k' h2).1]
  boxBase:=fun k hk=>by
   obtain⟨e,g,hg⟩:=box0 k hk
   exact .inr (by show b.getD 0∈X2M con b F FI;have:=inB g hg;rw[hg]at this ⊢;exact this)
  rows:=fun r e he=>by cases he
  rowBox:=fun r k hr=>by cases hr
  rowInj:=fun r r' hr=>by cases hr
  hot:={
   ok:=fun r e t l ver hole z hl=>by cases hl
   base:=fun r ⟨_,_,_,_,_,_,hl⟩=>by cases hl
   noM:=fun r ⟨_,_,_,_,_,_,hl⟩=>by cases hl
   noBox:=fun r ⟨_,_,_,_,_,_,hl⟩=>by cases hl
   noRow:=fun r ⟨_,_,_,_,_,_,hl⟩=>by cases hl
   apart:=fun r r' ⟨_,_,_,_,_,_,hl⟩=>by cases hl
   lt:=fun r ⟨_,_,_,_,_,_,hl⟩=>by cases hl
   frz:=fun r e t l ver z hl=>by cases hl}
  fr:=Fr.refl _ _
  defers:=rfl
  old:=fun ad _ _ h=>h
  le:=Mem.le_refl _
  pin:=fun g hg=>by show b.getD 0=g;rw[show b=some g from hg];rfl
  pins:=fun p hp hs=>by cases hs
  olds:=fun j hj=>by cases hj}
 have tag0:∀r,noTag r st0=true:=fun r=>by
  unfold noTag
  have hu:∀n,X5D (Xa3 n)=[]:=fun n=>by
   unfold Xa3
   induction n with
   | zero=>rfl
   | succ n ih=>rw[List.replicate_succ];exact ih
  have:X2D r st0.boxes=true:=by
   cases hb':b with
   | none=>simp only[st0,hb',XgZ];rfl
   | some g=>
     simp only[st0,hb',XgZ,X2D,Xcd,hu]
     rfl
  rw[this];rfl
 have hDA:=fun y hy=>XdP (key:=X79) (x:=y) hown (X6O hT hA x) nd2 hy
 let D2:List X7p:=Xh5 con FI ivs i b
 have hDI:∀y∈D2,X21 w y.t y.v y.l y.fo∧(∃i,P.info? y.e=some i∧i.size=size y.t)∧0<size y.t∧y.fo.Nodup∧(∃j,y.key=Xa2 j∧(look j con.ownI).isSome=true∧y.fo=FI j)∧∃g,b=some g:=fun y hy=>by
  cases hb':b with
  | none=>simp only[D2,hb',Xh5]at hy;cases hy
  | some g=>
    simp only[D2,hb',Xh5]at hy
    obtain⟨arr,E,_,_,h3⟩:=hiv g hb'
    obtain⟨k1,k2,k3,k4,k5⟩:=XdP (key:=Xa2) h3 (X6O hT hI i) (ndI g hb').1 hy
    exact⟨k1,k2,k3,k4,k5,g,rfl⟩
 have idx:∀y∈mkD X79 (con.ownA++con.backA) F 0 cs (flat con.A x),∃j,y.key=X79 j∧j<4096∧cs[j]?=some y.v:=fun y hy=>by
  obtain⟨j,tag,h1,h2,h3,h4,h5⟩:=XaU 0 hy
  rw[Nat.zero_add]at h4
  have:=(List.getElem?_eq_some_iff.1 h1).1
  exact⟨j,h4,by omega,h1⟩
 have free:∀g∈X2M con b F FI,b≠some g→g<w.heap.size→Xbx w ios σ0 M w st0 g:=fun g hg hne hlt=>{
  base:=.inr hg
  noM:=hnone g hg
  noBox:=fun k hk e=>by
   obtain⟨_,g',hg'⟩:=box0 k hk
   have:b.getD 0=g:=e
   rw[hg']at this hne
   exact hne (by rw[←this];rfl)
  noRow:=fun r hr=>by cases hr
  noHot:=fun r ⟨_,_,_,_,_,_,hl⟩=>by cases hl
  lt:=hlt}
 have notBox:∀g0,b=some g0→g0∉X3Z (con.ownA++con.backA) F:=fun g0 hg0 hm=>nd3 g0 (by rw[hg0];exact List.mem_cons_self) g0 hm rfl
 obtain⟨σ1,hS1,r1,r2,r3⟩:=Sim.addHotsP (mkD X79 (con.ownA++con.backA) F 0 cs (flat con.A x)++D2) hS0 (fun y hy=>by
  have pinA:∀q∈ios.rows,q.1=y.key→y.v=q.2:=fun q hq e=>by
   obtain⟨p,hp,rfl⟩:=List.mem_map.1 hq
   obtain⟨j,e'⟩:=p
   have hp2:∃u,cs[j]?=some u:=by
    have:(look j (con.ownA++con.backA)).isSome=true:=X8m.2 ⟨e',List.mem_append.2 (.inr hp)⟩
    obtain⟨e2,he2⟩:=Option.isSome_iff_exists.1 this
    obtain⟨u,_,_,hu,_⟩:=hown.own j e2 he2
    exact⟨u,hu⟩
   obtain⟨u,hu⟩:=hp2
   have hj:j<cs.length:=(List.getElem?_eq_some_iff.1 hu).1
   rcases List.mem_append.1 hy with h1 | h1
   · obtain⟨j',k1,k2,k3⟩:=idx y h1
     have e2:X79 j=y.key:=e
     rw[k1]at e2
     have:=XdV _ _ e2
     subst this
     show y.v=cs.getD j undef
     rw[X7V k3]
   · obtain⟨_,_,_,_,⟨j',k1,_⟩,_⟩:=hDI y h1
     have e2:X79 j=y.key:=e
     rw[k1]at e2
     unfold X79 Xa2 at e2
     omega
  have more:X21 w y.t y.v y.l y.fo∧(∃i,P.info? y.e=some i∧i.size=size y.t)∧0<size y.t∧y.fo.Nodup∧∀g∈y.fo,g∈X2M con b F FI∧b≠some g:=by
   rcases List.mem_append.1 hy with h1 | h1
   · obtain⟨k1,k2,k3,k4,j,_,k5,k6⟩:=hDA y h1
     refine⟨k1,k2,k3,k4,fun g hg=>?_⟩
     have hg':=X4s k5 (k6▸hg)
     exact⟨inA g hg',fun e=>notBox g e hg'⟩
   · obtain⟨k1,k2,k3,k4,⟨j,_,k5,k6⟩,g0,hg0⟩:=hDI y h1
     refine⟨k1,k2,k3,k4,fun g hg=>?_⟩
     have hg':=X4s k5 (k6▸hg)
     exact⟨inI g0 hg0 g hg',fun e=>(ndI g e).2 hg'⟩
  refine⟨tag0 _,pinA,more.1,more.2.1,more.2.2.1,more.2.2.2.1,fun g hg=>free g (more.2.2.2.2 g hg).1 (more.2.2.2.2 g hg).2 (X0u.lt more.1 g hg)⟩) (by
  rw[List.map_append]
  refine List.nodup_append.2 ⟨Xbe XdV 0,?_,fun k hk k' hk' e=>?_⟩
  · cases hb':b with
    | none=>simp only[D2,hb',Xh5];exact List.nodup_nil
    | some g=>simp only[D2,hb',Xh5];exact Xbe XgL 0
  · obtain⟨y,hy,e1⟩:=List.mem_map.1 hk
    obtain⟨y',hy',e2⟩:=List.mem_map.1 hk'
    obtain⟨j,k1,k2,_⟩:=idx y hy
    obtain⟨_,_,_,_,⟨j',k1',_⟩,_⟩:=hDI y' hy'
    rw[←e1,←e2,k1,k1']at e
    unfold X79 Xa2 at e
    omega) (fun y hy z hz hne g hg hg'=>by
  rcases List.mem_append.1 hy with h1 | h1<;>rcases List.mem_append.1 hz with h2 | h2
  · obtain⟨_,_,_,_,j,q1,q2,q3⟩:=hDA y h1
    obtain⟨_,_,_,_,j',q1',q2',q3'⟩:=hDA z h2
    exact X6S nd2 q2 q2' (fun e1=>hne (by rw[q1,q1',e1])) g (q3▸hg) (q3'▸hg')
  · obtain⟨_,_,_,_,j,q1,q2,q3⟩:=hDA y h1
    obtain⟨_,_,_,_,⟨j',q1',q2',q3'⟩,g0,hg0⟩:=hDI z h2
    exact nd3 g (by rw[hg0];exact List.mem_cons_of_mem _ (X4s q2' (q3'▸hg'))) g (X4s q2 (q3▸hg)) rfl
  · obtain⟨_,_,_,_,⟨j,q1,q2,q3⟩,g0,hg0⟩:=hDI y h1
    obtain⟨_,_,_,_,j',q1',q2',q3'⟩:=hDA z h2
    exact nd3 g (by rw[hg0];exact List.mem_cons_of_mem _ (X4s q2 (q3▸hg))) g (X4s q2' (q3'▸hg')) rfl
  · obtain⟨_,_,_,_,⟨j,q1,q2,q3⟩,g0,hg0⟩:=hDI y h1
    obtain⟨_,_,_,_,⟨j',q1',q2',q3'⟩,_⟩:=hDI z h2
    exact X6S (ndI g0 hg0).1 q2 q2' (fun e1=>hne (by rw[q1,q1',e1])) g (q3▸hg) (q3'▸hg'))
 have hcsA:∀rows',X0y (RdT σ1 rows' M) cs (X98 con x):=fun rows'=>Xbs hown (.inr rfl) fun z hz=>(r1 z (List.mem_append.2 (.inl hz))).1
 have hrowsA:(mkD X79 (con.ownA++con.backA) F 0 cs (flat con.A x)).map X7p.row=X41 con x:=X7N 0 hown.len
 have frameS:∀{boxes:List (Nat×List X00)} {rows:List (Nat×X0f)} (h0:∀g,b=some g→(look 0 boxes).isSome=true) (j:Nat),X17 σ1 rows boxes M (((pre++vs).toArray++Array.replicate (fn.ntmps - (pre++vs).toArray.size) undef).getD j undef) (match look j (X1f pre.length con.shA (X98 con x)) with | some sv=>sv | none=>.und):=fun {boxes rows} h0 j=>by
  have:=Xdc (boxes:=boxes) (fun g hg=>⟨hS1.pin g hg,h0 g hg⟩) hargs pre.length (hcsA rows) j
  split
  · rename_i sv hl
    rw[hl]at this
    obtain⟨h1,h2,h3⟩:=this
    rw[Xdx _ _ _ (by simp;omega)]
    rw[List.getD_eq_getElem?_getD,List.getElem?_append_right h1,←List.getD_eq_getElem?_getD]
    exact h3
  · trivial
 have olds:∀{slots:List (Nat×Sv)} {boxes:List (Nat×List X00)} {rows:List (Nat×X0f)} {a:Act},(∀j,X17 σ1 rows boxes M (a.tmps.getD j undef) (match look j slots with | some sv=>sv | none=>.und))→∀j,j∈Xck slots→Xh0 M (a.tmps.getD j undef) (match look j slots with | some sv=>sv | none=>.und):=fun {slots boxes rows a} hs j hj=>by
  have hm:=(List.mem_filter.1 hj).2
  have hsj:=hs j
  split at hm
  · rename_i ag cs' hl
    rw[hl]at hsj ⊢
    exact hsj.1.imp fun _ _ h=>h.1
  · cases hm
 have hS:Sim P w M ios σ1 M w {tmps:=(pre++vs).toArray++Array.replicate (fn.ntmps - (pre++vs).toArray.size) undef,defers:=[]} (X8u con fn.ntmps i x):=by
  cases hb':b with
  | none=>
    have hio':con.io=false:=by rw[hio,hb'];rfl
    have hpre0:pre.length=0:=by simp only[pre,hb'];cases con.hid<;>rfl
    have e:X8u con fn.ntmps i x={nt:=fn.ntmps,slots:=X1f 0 con.shA (X98 con x),boxes:=[],rows:=X41 con x,olds:=Xck (X1f 0 con.shA (X98 con x))}:=by unfold X8u;rw[hio']
    rw[e]
    have e2:({st0 with rows:=(mkD X79 (con.ownA++con.backA) F 0 cs (flat con.A x)++D2).map X7p.row++st0.rows}:St)={nt:=fn.ntmps,slots:=[],boxes:=[],rows:=X41 con x}:=by
     simp only[st0,D2,hb',XgZ,Xh5,List.append_nil,hrowsA]
    rw[e2]at hS1
    have hfs:∀j,X17 σ1 (X41 con x) [] M (((pre++vs).toArray++Array.replicate (fn.ntmps - (pre++vs).toArray.size) undef).getD j undef) (match look j (X1f 0 con.shA (X98 con x)) with | some sv=>sv | none=>.und):=fun j=>by
     have:=frameS (boxes:=[]) (rows:=X41 con x) (fun g hg=>by rw[hb']at hg;cases hg) j
     rw[hpre0]at this;exact this
    exact {hS1 with
     slots:=hfs
     hot:=hS1.hot.still rfl fun _ h=>h
     olds:=olds (a:={tmps:=(pre++vs).toArray++Array.replicate (fn.ntmps - (pre++vs).toArray.size) undef,defers:=[]}) hfs}
  | some g=>
    have hio':con.io=true:=by rw[hio,hb'];rfl
    obtain⟨arr,E,q1,q2,q3⟩:=hiv g hb'
    have e:X8u con fn.ntmps i x={nt:=fn.ntmps,slots:=X7y con x,boxes:=[(0,X6l Xa2 con.ownI 0 (flat con.I i))],rows:=X41 con x++X2r Xa2 con.ownI 0 (flat con.I i),olds:=Xck (X7y con x)}:=by unfold X8u;rw[hio']
    rw[e]
    have e2:({st0 with rows:=(mkD X79 (con.ownA++con.backA) F 0 cs (flat con.A x)++D2).map X7p.row++st0.rows}:St)={nt:=fn.ntmps,slots:=[],boxes:=[(0,Xa3 ivs.length)],rows:=X41 con x++X2r Xa2 con.ownI 0 (flat con.I i)}:=by
     simp only[st0,D2,hb',XgZ,Xh5,List.append_nil,List.map_append,hrowsA,X7N 0 q3.len]
    rw[e2]at hS1
    have hsb:σ1.box 0=g:=by rw[r3];show b.getD 0=g;rw[hb'];rfl
    have hS2:=hS1.setBox (k:=0) (ds:=X6l Xa2 con.ownI 0 (flat con.I i)) (by simp[St.box,look]) (fun arr' E' ha=>by
     rw[hsb,q1]at ha;cases ha
     rw[q2]
     exact Xbs q3 (.inr rfl) fun z hz=>(r1 z (List.mem_append.2 (.inr (by simp only[D2,hb',Xh5];exact hz)))).1)
    have hE:∀(ds:List X00) (rows:List (Nat×X0f)),Ext {nt:=fn.ntmps,slots:=[],boxes:=[(0,ds),(0,Xa3 ivs.length)],rows:=rows} {nt:=fn.ntmps,slots:=[],boxes:=[(0,ds)],rows:=rows}:=fun ds rows=>⟨rfl,fun _=>rfl,fun k=>by simp only[St.box,look];split<;>rfl,fun _=>rfl,fun _=>Iff.rfl⟩
    have hS3:Sim P w M ios σ1 M w {tmps:=(pre++vs).toArray++Array.replicate (fn.ntmps - (pre++vs).toArray.size) undef,defers:=[]} {nt:=fn.ntmps,slots:=[],boxes:=[(0,X6l Xa2 con.ownI 0 (flat con.I i))],rows:=X41 con x++X2r Xa2 con.ownI 0 (flat con.I i)}:=Sim.ext (hE _ _) hS2
    have hfs:∀j,X17 σ1 (X41 con x++X2r Xa2 con.ownI 0 (flat con.I i)) [(0,X6l Xa2 con.ownI 0 (flat con.I i))] M (((pre++vs).toArray++Array.replicate (fn.ntmps - (pre++vs).toArray.size) undef).getD j undef) (match look j (X7y con x) with | some sv=>sv | none=>.und):=fun j=>by
     cases hh:con.hid with
     | true=>
      have hpre0:pre.length=0:=by simp only[pre,hb',hh];rfl
      have e3:X7y con x=X1f 0 con.shA (X98 con x):=by unfold X7y;rw[hh]
      rw[e3]
      have:=frameS (boxes:=[(0,X6l Xa2 con.ownI 0 (flat con.I i))]) (rows:=X41 con x++X2r Xa2 con.ownI 0 (flat con.I i)) (fun g hg=>rfl) j
      rw[hpre0]at this;exact this
     | false=>
      have hpre0:pre.length=1:=by simp only[pre,hb',hh];rfl
      have e3:X7y con x=(0,.box 0 0)::X1f 1 con.shA (X98 con x):=by unfold X7y;rw[hh]
      rw[e3,X01]
      by_cases hj:0=j
      · subst hj
        simp only[if_true]
        have hp:pre=[.pointer (some ⟨g,0,none⟩)]:=by simp only[pre,hb',hh];rfl
        rw[hp,Xdx _ _ _ (by simp)]
        exact⟨by rw[hsb];rfl,rfl⟩
      · rw[if_neg hj]
        have:=frameS (boxes:=[(0,X6l Xa2 con.ownI 0 (flat con.I i))]) (rows:=X41 con x++X2r Xa2 con.ownI 0 (flat con.I i)) (fun g hg=>rfl) j
        rw[hpre0]at this;exact this
    exact {hS3 with
     slots:=hfs
     hot:=hS3.hot.still rfl fun _ h=>h
     olds:=olds (a:={tmps:=(pre++vs).toArray++Array.replicate (fn.ntmps - (pre++vs).toArray.size) undef,defers:=[]}) hfs}
 have hpins:∀j e,(j,e)∈con.backA→∃u,cs[j]?=some u∧(X79 j,u)∈ios.rows:=fun j e hm=>by
  have:(look j (con.ownA++con.backA)).isSome=true:=X8m.2 ⟨e,List.mem_append.2 (.inr hm)⟩
  obtain⟨e2,he2⟩:=Option.isSome_iff_exists.1 this
  obtain⟨u,_,_,hu,_⟩:=hown.own j e2 he2
  exact⟨u,hu,List.mem_map.2 ⟨(j,e),hm,by rw[X7V hu]⟩⟩
 have fin:∀(σ':Sg) (M':Mem) (w':World) (a':Act) (st':St),Sim P w M ios σ' M' w' a' st'→K i x st'→
  a'.defers=[]∧∃v,(results fn a'.tmps).run P w'=.ok v w'∧Ret P con w M (X2M con b F FI) b cs i x (.returned v) w':=fun σ' M' w' a' st' hS' hK=>hfin ios w M cs i x σ' M' w' a' st' hpins hio (fun e1 e2 e3=>by
   show X2M con b F FI=[]
   have hb0:b=none:=by rw[e1]at hio;cases hb':b with | none=>rfl | some g=>rw[hb']at hio;cases hio
   rw[hb0];unfold X2M;rw[e2,e3];rfl) hS' hK
 refine Xg3 hm hT hΓ c _ _ _ _ σ1 M w _ hS ?_ (h i x hpre (fun hio'=>?_) (XdN hown hM nd2))
 · intro e σ' M' w' a' st' hS' hK
   cases e with
   | normal=>exact fin _ _ _ _ _ hS' hK
   | ret=>exact fin _ _ _ _ _ hS' hK
   | exit id=>exact hK.elim
 · cases hb':b with
   | none=>rw[hio,hb']at hio';cases hio'
   | some g=>
     obtain⟨arr,E,_,_,q3⟩:=hiv g hb'
     exact XdN q3 hM (ndI g hb').1
theorem Xhk{con:Con}{rs:List ResultVar}{tys:List TypeId}{i:El con.I}{x:El con.A}:XhD tab con rs tys i x=XhZ (XhR tab con rs tys i x):=by
 funext e st;cases e<;>rfl
theorem XcT{con:Con}(L:(i:El con.I)→El con.A→Nat→Option X0w){n:FuncId}{fn:Func}{c:Code}(hm:P.follows .mixedOrders=true)(hT:X0q P tab)(hΓ:X72 P Γ)(hf:P.funcs[n]?=some fn)(hb:fn.body=some c)(tys:List TypeId)(hB:conB tab con fn.ntmps=true)(h:∀i x,con.pre i x→(con.io=true→Wf con.I i)→Wf con.A x→vc tab Γ (L i x) c 1 (X8u con fn.ntmps i x) (XhD tab con fn.results.toList tys i x)):X0z P n con:=by
 unfold conB at hB
 simp only[Bool.and_eq_true,Bool.not_eq_true',decide_eq_true_eq]at hB
 obtain⟨⟨⟨⟨⟨hA,hI⟩,hR⟩,hnew⟩,hsz⟩,hnt⟩:=hB
 exact Xfl (fun i x st=>XhR tab con fn.results.toList tys i x st) L hm hT hΓ hf hb hA hI hsz hnt (fun ios base M0 acs i x σ M w' a st hpins hio _ hS hK=>XhC hT hpins hio hnew hR hI hS hK) (fun i x h1 h2 h3=>by rw[←Xhk];exact h i x h1 h2 h3)
end Go.Proofs.Ytakllifahpfmpaa.Bv
namespace Go.Proofs.Ytakllifahpfmpaa.Bv
def Xho:Value→Value→Bool
 | .int k n,.int k' n'=>decide (k=k')&&decide (n=n')
 | .bool b,.bool b'=>b==b'
 | .string s,.string s'=>decide (s.data.size=0)&&decide (s'.data.size=0)
 | .slice none 0 0,.slice none 0 0=>true
 | _,_=>false
def Xaz:List Value→List Value→Bool
 | [],[]=>true
 | a::l,b::r=>Xho a b&&Xaz l r
 | _,_=>false
theorem Xgn{a b:Value}(h:Xho a b=true):a=b:=by
 unfold Xho at h
 split at h
 · simp only[Bool.and_eq_true,decide_eq_true_eq]at h
   obtain⟨rfl,rfl⟩:=h;rfl
 · simp at h;subst h;rfl
 · rename_i s s'
   simp only[Bool.and_eq_true,decide_eq_true_eq]at h
   obtain⟨⟨d⟩⟩:=s
   obtain⟨⟨d'⟩⟩:=s'
   simp at h
   rw[h.1,h.2]
 · rfl
 · cases h
theorem XbK:∀{l r:List Value},Xaz l r=true→l=r
 | [],[],_=>rfl
 | [],_::_,h=>by simp[Xaz]at h
 | _::_,[],h=>by simp[Xaz]at h
 | a::l,b::r,h=>by
   simp only[Xaz,Bool.and_eq_true]at h
   rw[Xgn h.1,XbK h.2]
def Xev:List Field→List (Nat×TypeId)→Bool
 | [],[]=>true
 | f::l,p::r=>(f.offset==p.1)&&(f.type==p.2)&&Xev l r
 | _,_=>false
theorem Xdt:∀{l:List Field} {r:List (Nat×TypeId)},Xev l r=true→l.map (fun f=>(f.offset,f.type))=r
 | [],[],_=>rfl
 | [],_::_,h=>by simp[Xev]at h
 | _::_,[],h=>by simp[Xev]at h
 | f::l,p::r,h=>by
   simp only[Xev,Bool.and_eq_true,beq_iff_eq]at h
   simp[Xdt h.2,h.1.1,h.1.2]
def Xgz(tab:Tab)(ti:TI):Option TypeDesc→Bool
 | some (.struct fs)=>ti.agg&&Xev fs.toList ti.fields&&ti.fields.all (fun p=>(look p.2 tab).isSome)
 | some (.int k)=>!ti.agg&&(match ti.ty with | .int k'=>decide (k=k') | _=>false)
 | some .bool=>!ti.agg&&(match ti.ty with | .bool=>true | _=>false)
 | some .string=>!ti.agg&&(match ti.ty with | .str=>true | _=>false)
 | some (.slice e)=>!ti.agg&&(match ti.ty with | .list _=>e==ti.elem | _=>false)
 | _=>false
def Xft(ti:TI):Option TypeInfo→Bool
 | some i=>(i.size==size ti.ty)&&(i.bytes==ti.bytes)&&(match i.zero with | some z=>Xaz z.cells.toList (zeros ti.ty) | none=>false)
 | none=>false
def X8Z(P:Program)(tab:Tab):List (TypeId×TI)→Bool
 | []=>true
 | (t,ti)::l=>Xft ti (P.info? t)&&Xgz tab ti (P.underlying t)&&X8Z P tab l
theorem Xem{P:Program}{tab:Tab}{t:TypeId}{ti:TI}(h:Xgz tab ti (P.underlying t)=true):
 if ti.agg then ∃fs,P.underlying t=some (.struct fs)∧fs.toList.map (fun f=>(f.offset,f.type))=ti.fields∧(∀p∈ti.fields,(look p.2 tab).isSome=true)
 else match ti.ty with
  | .int k=>P.underlying t=some (.int k)
  | .bool=>P.underlying t=some .bool
  | .str=>P.underlying t=some .string
  | .list _=>P.underlying t=some (.slice ti.elem)
  | _=>False:=by
 unfold Xgz at h
 split at h
 · rename_i fs hu
   simp only[Bool.and_eq_true,List.all_eq_true]at h
   rw[if_pos h.1.1]
   exact⟨fs,hu,Xdt h.1.2,h.2⟩
 all_goals first
  | (rename_i hu
     simp only[Bool.and_eq_true,Bool.not_eq_true']at h
     rw[if_neg (by rw[h.1];simp)]
     obtain⟨_,h2⟩:=h
     split at h2
     · simp_all
     · cases h2)
  | cases h
theorem XgC{P:Program}{tab:Tab}(h:X8Z P tab tab=true):X0q P tab:=by
 intro t ti hl
 have key:∀l:List (TypeId×TI),X8Z P tab l=true→(t,ti)∈l→Xft ti (P.info? t)=true∧Xgz tab ti (P.underlying t)=true:=by
  intro l
  induction l with
  | nil=>intro _ hm;cases hm
  | cons p l ih=>
    intro hc hm
    obtain⟨t',ti'⟩:=p
    simp only[X8Z,Bool.and_eq_true]at hc
    rcases List.mem_cons.1 hm with e | hm
    · cases e;exact hc.1
    · exact ih hc.2 hm
 obtain⟨h1,h2⟩:=key tab h (X1a hl)
 refine⟨?_,Xem h2⟩
 unfold Xft at h1
 split at h1
 · rename_i i hi
   simp only[Bool.and_eq_true,beq_iff_eq]at h1
   obtain⟨⟨h3,h4⟩,h5⟩:=h1
   split at h5
   · rename_i z hz
     exact⟨i,z,hi,h3,h4,hz,XbK h5⟩
   · cases h5
 · cases h1
def gam(l:List (Nat×Con))(tk:List Nat)(eqs:List (TypeId×Ty)):Gam:={con:=fun n=>look n l,tk:=tk,eqs:=eqs}
theorem XhK(P:Program)(tk:List Nat){eqs:List (TypeId×Ty)}(he:Xfj P eqs):X72 P (gam [] tk eqs):=⟨(by intro n con h;cases h),he⟩
theorem XgM{P:Program}{m:Nat}{c:Con}{l:List (Nat×Con)}{tk:List Nat}{eqs:List (TypeId×Ty)}(hf:FnOk P m)(hc:X0z P m c)(h:X72 P (gam l tk eqs)):X72 P (gam ((m,c)::l) tk eqs):=by
 refine⟨?_,h.2⟩
 intro n con hn
 have hn':look n ((m,c)::l)=some con:=hn
 rw[X01]at hn'
 split at hn'
 · rename_i e;subst e;cases hn';exact⟨hf,hc⟩
 · exact h.1 n con hn'
theorem X04{b:Bool}{X Y:Prop}:X02 b X Y↔(b=true→X)∧(b=false→Y):=⟨X7r,fun h=>XgE h.1 h.2⟩
end Go.Proofs.Ytakllifahpfmpaa.Bv
namespace Go.Proofs.Ytakllifahpfmpaa.Bv
open Go.WideShapes Go.RowKit
def WfD:(t:Ty)→El t→Prop
 | .int k,n=>k.min≤n∧n≤k.max
 | .str,s=>List.length s≤maxLen
 | .list t,l=>List.length l≤maxLen∧∀x,x∈(show List (El t) from l)→WfD t x
 | .pair a b,x=>WfD a x.1∧WfD b x.2
 | _,_=>True
def X8w:List Ty→Ty
 | []=>.unit
 | [a]=>a
 | a::b::r=>.pair a (X8w (b::r))
def X8q(tab:Tab):Nat→List (Nat×TypeId)→Option (List Ty)
 | _,[]=>some []
 | off,(o,t)::r=>match look t tab with
   | some ti=>match decide (o=off),X8q tab (off+size ti.ty) r with
     | true,some l=>some (ti.ty::l)
     | _,_=>none
   | none=>none
def X5q(tab:Tab):List (TypeId×TI)→Bool
 | []=>true
 | (_,ti)::l=>(match ti.agg,ti.ty with
   | true,ty=>(match X8q tab 0 ti.fields with | some tys=>decide (ty=X8w tys) | none=>false)
   | false,.list τ=>(match look ti.elem tab with | some te=>decide (te.ty=τ) | none=>false)
   | _,_=>true)&&X5q tab l
variable {P:Program} {tab:Tab} {M:Mem} {w:World} {H:Type} {enc:TypeId×Value→H}
theorem X0y.at2{α β:Type}{R:α→β→Prop}{as:List α}{bs:List β}(h:X0y R as bs){j:Nat}{a:α}{b:β}(ha:as[j]?=some a)(hb:bs[j]?=some b):R a b:=by
 obtain⟨a',h1,h2⟩:=h.get hb
 rw[ha]at h1;cases h1;exact h2
theorem X9w:∀{l:List (TypeId×TI)},X5q tab l=true→∀{t ti},(t,ti)∈l→ti.agg=true→∃tys,X8q tab 0 ti.fields=some tys∧ti.ty=X8w tys
 | [],_,_,_,hm,_=>by cases hm
 | (t',ti')::l,h,t,ti,hm,ha=>by
   simp only[X5q,Bool.and_eq_true]at h
   rcases List.mem_cons.1 hm with e | hm
   · cases e
     have h1:=h.1
     rw[ha]at h1
     simp only at h1
     split at h1
     · rename_i tys htys;exact⟨tys,htys,by simpa using h1⟩
     · cases h1
   · exact X9w h.2 hm ha
theorem X8t:∀{l:List (TypeId×TI)},X5q tab l=true→∀{t ti τ},(t,ti)∈l→ti.agg=false→ti.ty=.list τ→∃te,look ti.elem tab=some te∧te.ty=τ
 | [],_,_,_,_,hm,_,_=>by cases hm
 | (t',ti')::l,h,t,ti,τ,hm,ha,ht=>by
   simp only[X5q,Bool.and_eq_true]at h
   rcases List.mem_cons.1 hm with e | hm
   · cases e
     have h1:=h.1
     rw[ha,ht]at h1
     simp only at h1
     split at h1
     · rename_i te hte;exact⟨te,hte,by simpa using h1⟩
     · cases h1
   · exact X8t h.2 hm ha ht
theorem X95{α:Type}{R:Nat→α→Prop}:∀{n:Nat},(∀i,i<n→∃x,R i x)→∃l:List α,l.length=n∧∀i x,l[i]?=some x→R i x
 | 0,_=>⟨[],rfl,fun i x h=>by simp at h⟩
 | n+1,h=>by
   obtain⟨l,hl,hr⟩:=X95 (n:=n) fun i hi=>h i (by omega)
   obtain⟨x,hx⟩:=h n (by omega)
   refine⟨l++[x],by simp[hl],fun i y hy=>?_⟩
   rw[List.getElem?_append]at hy
   split at hy
   · exact hr i y hy
   · rename_i hi
     have:i=l.length:=by
      have:=(List.getElem?_eq_some_iff.1 hy).1
      simp at this;omega
     subst this
     simp at hy
     subst hy
     rw[hl];exact hx
theorem X7m(hT:X0q P tab){t:TypeId}{ti:TI}(h:look t tab=some ti):P.cellsOf t=size ti.ty:=by
 obtain⟨i,_,hi,hs,_⟩:=(hT t ti h).info
 simp[Program.cellsOf,hi,hs]
def RdW(w:World)(τ:Ty)(cs:List Value):Prop:=∃x:El τ,RdC (fun ad=>w.cell? ad) τ cs x∧WfD τ x
theorem Xci{rec_:TypeId→List Value→Option (DataW H×List MemPlace)}(hT:X0q P tab)(hrec:∀t ti cs y,look t tab=some ti→rec_ t cs=some y→RdW w ti.ty cs){cs:List Value}:
 ∀{fs:List Field} {off:Nat} {tys:List Ty} {ys:List (DataW H×List MemPlace)},X8q tab off (fs.map fun f=>(f.offset,f.type))=some tys→
 fs.mapM (fun f=>rec_ f.type ((cs.drop f.offset).take (P.cellsOf f.type)))=some ys→cs.length=off+size (X8w tys)→RdW w (X8w tys) (cs.drop off)
 | [],off,tys,ys,h,_,hl=>by
   simp only[List.map_nil,X8q,Option.some.injEq]at h
   subst h
   refine⟨(),?_,trivial⟩
   show cs.drop off=[]
   simp only[X8w,size]at hl
   exact List.drop_eq_nil_of_le (by omega)
 | f::fs,off,tys,ys,h,hm,hl=>by
   simp only[List.map_cons,X8q]at h
   split at h
   · rename_i ti hti
     split at h
     · rename_i l ho hr
       cases h
       have hoff:f.offset=off:=by simpa using ho
       rw[List.mapM_cons]at hm
       cases hf:rec_ f.type ((cs.drop f.offset).take (P.cellsOf f.type)) with
       | none=>simp[hf]at hm
       | some y=>
         cases hms:fs.mapM (fun f=>rec_ f.type ((cs.drop f.offset).take (P.cellsOf f.type))) with
         | none=>simp[hf,hms]at hm
         | some ys'=>
           have h1:=hrec _ _ _ _ hti hf
           rw[hoff,X7m hT hti]at h1
           cases l with
           | nil=>
             simp only[X8w]at hl ⊢
             rw[List.take_of_length_le (by rw[List.length_drop];omega)]at h1
             exact h1
           | cons b r=>
             simp only[X8w,size]at hl ⊢
             have h2:=Xci hT hrec hr hms (by omega)
             obtain⟨x1,hx1,hw1⟩:=h1
             obtain⟨x2,hx2,hw2⟩:=h2
             refine⟨(x1,x2),⟨_,_,?_,hx1,hx2⟩,hw1,hw2⟩
             rw[←List.drop_drop,List.take_append_drop]
     · cases h
   · cases h
theorem XcB(hT:X0q P tab)(hc:X5q tab tab=true):∀(fuel:Nat) (t:TypeId) (ti:TI) (cs:List Value) (y:DataW H×List MemPlace),look t tab=some ti→
 DataW.trod enc P w 0 (fun _=>true) true fuel t cs=some y→RdW w ti.ty cs
 | 0,t,ti,cs,y,_,h=>by simp[DataW.trod]at h
 | fuel+1,t,ti,cs,y,hl,h=>by
   have hu:=(hT t ti hl).und
   have hmem:=X1a hl
   have hsz:=X7m hT hl
   have hor:=h
   unfold DataW.trod at h
   cases ha:ti.agg with
   | true=>
     rw[if_pos ha]at hu
     obtain⟨fs,hfs,hff,_⟩:=hu
     obtain⟨tys,htys,hty⟩:=X9w hc hmem ha
     rw[hfs]at h
     simp only at h
     split at h
     · rename_i hlen
       rw[Option.map_eq_some_iff]at h
       obtain⟨ys,hys,_⟩:=h
       rw[←hff]at htys
       rw[hty]at hsz ⊢
       have:=Xci (w:=w) (rec_:=fun t cs=>DataW.trod enc P w 0 (fun _=>true) true fuel t cs) hT (fun t ti cs y h1 h2=>XcB hT hc fuel t ti cs y h1 h2) (cs:=cs) htys hys (by rw[hlen,hsz,Nat.zero_add])
       rw[List.drop_zero]at this
       exact this
     · cases h
   | false=>
     rw[if_neg (by rw[ha];simp)]at hu
     cases hty:ti.ty with
     | int k=>
       rw[hty]at hu
       simp only at hu
       rw[hu]at h
       split at h<;>simp_all
       rename_i k' n _
       obtain⟨⟨rfl,hwf⟩,_⟩:=h
       refine⟨n,rfl,?_⟩
       simp only[Lit.wf,Bool.and_eq_true,decide_eq_true_eq]at hwf
       exact hwf
     | bool=>
       rw[hty]at hu
       simp only at hu
       rw[hu]at h
       split at h<;>simp_all
       exact⟨_,rfl,trivial⟩
     | str=>
       rw[hty]at hu
       simp only at hu
       rw[hu]at h
       split at h<;>simp_all
       rename_i s
       refine⟨s.data.toList,?_,?_⟩
       · simp[RdC]
       · obtain⟨d⟩:=s
         have:=h.1
         simpa [WfD,ByteArray.size] using this
     | list τ=>
       rw[hty]at hu
       simp only at hu
       obtain⟨te,hte,rfl⟩:=X8t hc hmem ha hty
       have hes:=X7m hT hte
       rcases DataW.trod_slice hu hor with⟨rfl,_⟩ | ⟨a,len,cap,elems,rest,n,hn,rfl,_,_,hle,hm,hlen,hel,_⟩
       · exact⟨[],RdC.nilSlice _ _,by simp[WfD]⟩
       · obtain rfl:n=fuel:=by omega
         obtain⟨l,hll,hR⟩:=X95 (n:=len) (R:=fun i x=>∃vs,w.cells? 0 (a.add (i*size te.ty)) (size te.ty)=some vs∧RdC (fun ad=>w.cell? ad) te.ty vs x∧WfD te.ty x) fun i hi=>by
          have h1:=hel i hi
          obtain⟨y',hy'⟩:∃y',elems[i]?=some y':=⟨elems[i],by simp[hlen,hi]⟩
          rw[hy',hes]at h1
          obtain⟨vs,hv1,hv2⟩:=Option.bind_eq_some_iff.1 h1
          obtain⟨x,hx,hwx⟩:=XcB hT hc n _ te vs y' hte hv2
          exact⟨x,vs,hv1,hx,hwx⟩
         refine⟨l,⟨some a,cap,by rw[hll],by omega,hm,fun i hi=>?_⟩,by simp[hll];omega,fun x hx=>?_⟩
         · obtain⟨vs,h1,h2,_⟩:=hR i _ (List.getElem?_eq_getElem hi)
           obtain⟨_,hvl,hvc⟩:=World.cells?_some h1
           refine⟨a,vs,rfl,hvl,fun j u hu=>?_,h2⟩
           have hj:=(List.getElem?_eq_some_iff.1 hu).1
           have:=hvc j (by omega)
           rw[hu]at this
           rw[←this]
           show w.cell? (a.add (i*size te.ty+j))=w.cell? ((a.add (i*size te.ty)).add j)
           rw[Addr.add_add]
         · obtain⟨i,hi,e⟩:=List.getElem_of_mem hx
           obtain⟨_,_,_,h3⟩:=hR i x (by rw[←e];exact List.getElem?_eq_getElem hi)
           exact h3
     | unit=>rw[hty]at hu;exact hu.elim
     | pair a b=>rw[hty]at hu;exact hu.elim
def shOf(ti:TI):Sh:=if ti.agg then .agg (size ti.ty) else .one
theorem Xhd(hT:X0q P tab)(hc:X5q tab tab=true){r:Reach}{b0:Nat}{t:TypeId}{ti:TI}{v:Value}{d:DataW H}{ps:List MemPlace}(hl:look t tab=some ti)(hval:Value.okWide P w r b0 t v)(h:DataW.Trod enc P w 0 (fun _=>true) true t v d ps):
 ∃x:El ti.ty,RdC (fun ad=>w.cell? ad) ti.ty v.cells.toList x∧WfD ti.ty x∧Xh3 (fun ad=>w.cell? ad) none (shOf ti) v v.cells.toList:=by
 obtain⟨fuel,hf⟩:=h
 obtain⟨x,hx,hw⟩:=XcB hT hc fuel t ti _ _ hl hf
 refine⟨x,hx,hw,?_⟩
 have hu:=(hT t ti hl).und
 unfold shOf
 cases ha:ti.agg with
 | true=>
   rw[if_pos ha]at hu
   obtain⟨fs,hfs,_⟩:=hu
   obtain⟨cs,rfl,_⟩:=okWide_struct hfs hval
   rw[if_pos rfl]
   exact⟨hx.length,cs,rfl,rfl⟩
 | false=>
   rw[if_neg (by rw[ha];simp)]at hu
   rw[if_neg (by simp)]
   have:X4l v=false∧v.cells.toList=[v]:=by
    cases hty:ti.ty with
    | int k=>rw[hty]at hu;obtain⟨n,rfl⟩:=okWide_int hu hval;exact⟨rfl,rfl⟩
    | bool=>rw[hty]at hu;obtain⟨n,rfl⟩:=okWide_bool hu hval;exact⟨rfl,rfl⟩
    | str=>rw[hty]at hu;obtain⟨n,rfl⟩:=okWide_string hu hval;exact⟨rfl,rfl⟩
    | list τ=>rw[hty]at hu;obtain⟨a,l,c,rfl⟩:=okWide_slice hu hval;exact⟨rfl,rfl⟩
    | unit=>rw[hty]at hu;exact hu.elim
    | pair a b=>rw[hty]at hu;exact hu.elim
   exact⟨this.2,this.1⟩
def XdD(A:Ty)(shA:List Sh):Con:={A:=A,shA:=shA,R:=.bool,shR:=[(false,1)],pre:=fun _ x=>WfD A x,f:=some fun _ _=>(true,((),()))}
theorem XhE{A:Ty}{shA:List Sh}{n:FuncId}(h:X0z P n (XdD A shA)){vs cs:List Value}{x:El A}(ha:X6M (fun ad=>w.cell? ad) none shA vs cs)(hx:RdC (fun ad=>w.cell? ad) A cs x)(hw:WfD A x):
 Calls P n vs.toArray w fun e w'=>e=.returned (.bool true)∧Below w.heap.size w w':=by
 have hrd:=X7e _ _ _ hx
 have:=h w (fun ad=>w.cell? ad) vs cs () x (fun _=>[]) (fun _=>[]) none (fun _ _ h=>h) ha ⟨hrd.length,fun j u c _ hu hc=>hrd.at2 hu hc,fun j e hj=>by cases hj⟩ rfl (fun g hg=>by cases hg) List.nodup_nil (fun g hg=>by cases hg) hw
 refine Calls.mono this ?_
 intro e w' hret
 obtain⟨rs,y,cs',M',FR,FI,FB,nb,he,hpost,_,_,hf,_,hnr,hown,_⟩:=hret.ex
 subst he
 obtain⟨_,hres⟩:=hnr
 have hy:y.1=true:=by have:y=(true,((),())):=hpost;rw[this]
 have hcs:cs'=[.bool true]:=by
  have hl:=hown.len
  have h0:(flat Ty.bool y.1)=[X00.bool true]:=by rw[hy];rfl
  have hl':cs'.length=1:=by rw[hl];rfl
  match cs',hl' with
  | [u],_=>
    have:=hown.rd 0 u (.bool true) rfl rfl (by show(flat Ty.bool y.1)[0]?=_;rw[h0];rfl)
    rw[show u=Value.bool true from this]
 subst hcs
 refine⟨?_,hf.os,hf.tape,hf.output,hf.size,fun k hk=>hf.block k hk (fun hm=>by cases hm)⟩
 have hres':X9g [(false,1)] rs [Value.bool true]:=hres
 generalize hs:[(false,1)]=shs at hres'
 generalize hc:[Value.bool true]=cs0 at hres'
 cases hres' with
 | nil=>cases hs
 | @cons ag m v shs' vs' cs2 h1 h2 h3=>
   cases hs
   cases h3
   have hv:v.cells.toList=[.bool true]:=by simpa using hc.symm
   have:v=.bool true:=by
    cases v<;>simp[Value.cells,X4l]at hv h2<;>simp[hv]
   rw[this];rfl
end Go.Proofs.Ytakllifahpfmpaa.Bv
