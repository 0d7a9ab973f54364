/- Walks of Go functions by value:the library,part 2 of 4. -/
import Derived.Test.YthpdkligbfbjeaaGreatWA
import Derived.Laws.Tables
import Derived.Laws.BytesString
import Derived.Laws.MakeOwn
set_option linter.unusedVariables false
set_option linter.unusedSimpArgs false
namespace Go.Proofs.YthpdkligbfbjeaaGreat.Bv
variable {P:Program} {base:World} {M0:Mem} {ios:Ios} {σ:Sg} {M:Mem} {w w':World} {a:Act} {st:St} {tab:Tab} {Γ:Gam} {o:Oper} {next:Act->World->Prop} {Q:Exit->Act->World->Prop} {k:Option Nat} {ks iks bks:List Nat} {H:Type} {enc:TypeId×Value->H}
theorem RdC.slice{τ:Ty}{l:List (El τ)}{ad:Option Addr}{n cap lo hi:Nat}(h:RdC M (.list τ) [.slice ad n cap] l)(h1:lo<=hi)(h2:hi<=l.length):
 RdC M (.list τ) [.slice (if cap=lo then ad else ad.map (·.add (lo*size τ))) (hi - lo) (cap - lo)] ((l.take hi).drop lo):=by
 obtain⟨ad',cap',e,hl,hm,hc⟩:=h;cases e;have hlen:((l.take hi).drop lo).length=hi - lo:=by rw[Yap,Yal];omega
 refine⟨_,cap - lo,by rw[hlen],by omega,by simp only[maxLen]at hm ⊢;omega,?_⟩;intro i hil;rw[hlen]at hil;obtain⟨ad0,vs,e1,e2,e3,e4⟩:=hc (lo+i) (by omega);refine⟨ad0.add (lo*size τ),vs,?_,e2,?_,?_⟩
 . rw[Yae (by omega),e1];rfl
 . intro j u hu;rw[Addr.add_add,show lo*size τ+(i*size τ+j)=(lo+i)*size τ+j by rw[Ya0];omega];exact e3 j u hu
 . have:((l.take hi).drop lo)[i]'(by rw[hlen];exact hil)=l[lo+i]'(by omega):=by simp
   show RdC M τ vs (((l.take hi).drop lo)[i]'(by rw[hlen];exact hil));rw[this];exact e4
structure Xgt (σ:Sg) (st:St) (M:Mem) (v:Value) (x:In):Prop where
 rep:X44 σ st.rows st.boxes M v x.sv
 box:∀k off,(x.sv=.box k off\/x.sv=.pp k off)->x.box=st.box k
 row:∀t l r,x.sv=.val false [.lst t l (some r)]->x.row=st.row r
 rows:∀r rv,look r x.rows=some rv->look r st.rows=some rv
 boxes:∀k cs,look k x.boxes=some cs->st.box k=some cs
theorem XbS{α:Type}(l:List (Nat×α))(k:Nat):∀ks,look k (pick l ks)=if k∈ks then look k l else none
 | []=>by simp[pick,look]
 | j::ks=>by
   simp only[pick];cases hj:look j l with
   | none=>
     simp only[XbS l k ks,Yak];by_cases e:k=j
     . subst e;simp[hj]
     . simp[e]
   | some x=>
     simp only[X08,XbS l k ks,Yak];by_cases e:j=k
     . subst e;simp[hj]
     . simp[e,YaK e]
theorem Xaz{α:Type}{l:List (Nat×α)}{k:Nat}{ks:List Nat}{x:α}(h:look k (pick l ks)=some x):look k l=some x:=by
 rw[XbS]at h;split at h
 . exact h
 . cases h
theorem Sim.frzAt(hS:Sim P base M0 ios σ M w a st){r:Nat}{e:TypeId}{t:Ty}{l:List (El t)}{ver:Nat}{z:Bool}(h:look r st.rows=some (.frz e t l ver z)):RdC M (.list t) [σ.row r] l/\(σ.mem r).le M:=hS.hot.frz r e t l ver z h
theorem Xkt.rd{τ:Ty}{v u:Value}{lo hi:Nat}{N:Mem}{l:List (El τ)}(h:Xkt τ v lo hi u)(hr:RdC N (.list τ) [v] l):RdC N (.list τ) [u] ((l.take hi).drop lo):=by
 obtain⟨ad,n,cap,ad',rfl,h1,h2,rfl,h3⟩:=h;have hn:n=List.length l:=by obtain⟨ad',cap',e,_⟩:=hr;cases e;rfl
 have hc:n<=cap:=by obtain⟨ad',cap',e,h,_⟩:=hr;cases e;exact h
 have hs:=RdC.slice hr h1 (by rw[<-hn];exact h2);by_cases hlt:lo<cap
 . rw[Yae (by omega)]at hs;rw[h3 hlt];exact hs
 . have:hi=lo:=by omega
   subst this;have hnil:(l.take hi).drop hi=([]:List (El τ)):=by rw[List.drop_eq_nil_iff,Yal];omega
   rw[hnil,Yb3];exact⟨ad',cap - hi,rfl,by simp,by simp;omega,λi hi=>by simp at hi⟩
theorem XpT(hS:Sim P base M0 ios σ M w a st){rows:List (Nat×X0L)}(hr:∀r rv,look r rows=some rv->look r st.rows=some rv){v:Value}{c:X02}(h:RdT σ st.rows M v c):RdT σ st.rows M v (Xo9 rows c):=by
 cases c with
 | own t r=>
   simp only[Xo9];split
   . rename_i e t' l ver z hl;have hl':=hr r _ hl;split
     . rename_i ht;subst ht;have hv:v=σ.row r:=h.2 (by rw[hl'];rfl);have hrd:=(hS.frzAt hl').1;refine⟨by show RdC M _ _ _;rw[hv];exact hrd,?_⟩;by_cases h0:r=0
       . subst h0;cases z<;>trivial
       . cases z
         . trivial
         . simp only[YaQ,show(!(r==0))=true by simp[h0],Ydx,Xc8,Yae h0];intro _;exact hv
     . exact h
   . exact h
 | sub t r lo hi=>
   simp only[Xo9];split
   . rename_i e t' l ver z hl;have hl':=hr r _ hl;split
     . rename_i ht;subst ht;have hv:=h.2 (by rw[hl'];rfl);exact⟨hv.rd (hS.frzAt hl').1,trivial⟩
     . exact h
   . exact h
 | bor t l r ver p=>
   simp only[Xo9];split
   . rename_i e t' l' ver' z hl;have hl':=hr r _ hl;cases hv:ver'==ver with
     | false=>exact h
     | true=>
       have:ver'=ver:=by simpa using hv
       subst this;obtain⟨h1,_⟩:=h.2 _ hl' rfl;exact⟨h1.mono (hS.frzAt hl').2,trivial⟩
   . exact h
 | _=>exact h
theorem Xd9(hS:Sim P base M0 ios σ M w a st){rows:List (Nat×X0L)}(hr:∀r rv,look r rows=some rv->look r st.rows=some rv){vs:List Value}{cs:List X02}(h:X27 (RdT σ st.rows M) vs cs):X27 (RdT σ st.rows M) vs (XbT rows cs):=by
 induction h with
 | nil=>exact .nil
 | cons x _ ih=>exact .cons (XpT hS hr x) ih
theorem XmY{rows:List (Nat×X0L)}:∀{cs:List X02} {i:Nat} {c:X02},(XbT rows cs)[i]?=some c->∃c0,cs[i]?=some c0/\c=Xo9 rows c0
 | [],i,c,h=>by simp[XbT]at h
 | x::cs,0,c,h=>by simp[XbT]at h;exact⟨x,by simp,h.symm⟩
 | x::cs,i+1,c,h=>by simp only[XbT,Ycb]at h ⊢;exact XmY h
theorem Xjd(hS:Sim P base M0 ios σ M w a st){rows:List (Nat×X0L)}(hr:∀r rv,look r rows=some rv->look r st.rows=some rv){v:Value}{sv:Sv}(h:X44 σ st.rows st.boxes M v sv):X44 σ st.rows st.boxes M v (Xd2 rows sv):=by
 cases sv with
 | val ag cs=>exact⟨Xd9 hS hr h.1,h.2⟩
 | tup l=>
   obtain⟨vs,hv,h⟩:=h;refine⟨vs,hv,?_⟩;generalize vs.toList=l1 at h
   induction h with
   | nil=>exact .nil
   | cons x _ ih=>exact .cons ⟨Xd9 hS hr x.1,x.2⟩ ih
 | bptr cs r ver=>
   simp only[Xd2];split
   . rename_i e t' l' ver' z hl;have hl':=hr r _ hl;cases hv:ver'==ver with
     | false=>exact h
     | true=>
       have:ver'=ver:=by simpa using hv
       subst this;obtain⟨ad,ha,hc⟩:=h _ hl' rfl;refine⟨ad,ha,λi c hi=>?_⟩;obtain⟨c0,h0,rfl⟩:=XmY hi;obtain⟨u,hu,hrd⟩:=hc i c0 h0;exact⟨u,(hS.frzAt hl').2 _ _ hu,XpT hS hr hrd⟩
   . exact h
 | _=>exact h
theorem XtQ{rows:List (Nat×X0L)}{c:X02}{t:Ty}{l:List (El t)}{r:Nat}(h:Xo9 rows c=.lst t l (some r)):Xyc c=some r:=by
 cases c with
 | own t' r'=>
   simp only[Xo9]at h;split at h
   . split at h
     . rename_i z _ ht;subst ht;injection h with _ _ h3;rw[YbU]at h3;split at h3
       . cases h3;rfl
       . cases h3
     . cases h
   . cases h
 | sub t' r' lo hi=>
   simp only[Xo9]at h;split at h
   . split at h
     . injection h with _ _ h3;cases h3
     . cases h
   . cases h
 | bor t' l' r' ver p=>
   simp only[Xo9]at h;split at h
   . rw[YbU]at h;split at h
     . cases h
     . cases h
   . cases h
 | lst t' l' tag=>simp only[Xo9]at h;cases h;rfl
 | _=>simp[Xo9]at h
theorem Xut(hS:Sim P base M0 ios σ M w a st){v:Value}{sv:Sv}(h:X44 σ st.rows st.boxes M v sv):Xgt σ st M v (Xrt st sv):=by
 have hr:∀r rv,look r (pick st.rows (X8N sv++XeM (pick st.boxes (X4I sv))))=some rv->look r st.rows=some rv:=λr rv hh=>Xaz hh;refine⟨Xjd hS hr h,?_,?_,hr,λk cs hk=>Xaz hk⟩
 . intro k off e;have e3:Xd2 (pick st.rows (X8N sv++XeM (pick st.boxes (X4I sv)))) sv=.box k off\/Xd2 (pick st.rows (X8N sv++XeM (pick st.boxes (X4I sv)))) sv=.pp k off:=e;have e1:(Xrt st sv).box=look k (pick st.boxes (X4I sv)):=by
    rcases e3 with e0 | e0<;>simp only[Xrt,e0]
   rw[e1];have e2:sv=.box k off\/sv=.pp k off:=by
    rcases e3 with e0 | e0<;>cases sv<;>simp only[Xd2]at e0<;>try (cases e0;done)
    . exact .inl e0
    . split at e0
      . rw[YbU]at e0;split at e0<;>cases e0
      . cases e0
    . split at e0
      . rw[YbU]at e0;split at e0<;>cases e0
      . cases e0
    . exact .inr e0
   rcases e2 with e2 | e2<;>subst e2<;>rw[XbS]<;>simp[X4I,St.box]
 . intro t l r e;have e0:Xd2 (pick st.rows (X8N sv++XeM (pick st.boxes (X4I sv)))) sv=.val false [.lst t l (some r)]:=e;have e1:(Xrt st sv).row=X8M r (pick st.rows (X8N sv++XeM (pick st.boxes (X4I sv)))):=by simp only[Xrt,e0]
   rw[e1];cases sv<;>simp only[Xd2]at e0<;>try (cases e0;done)
   . rename_i ag cs;injection e0 with e3 e4
     match cs,e4 with
     | [c],e4=>
       simp only[XbT,Ycr,Ybm]at e4;have hk:=XtQ e4;show X8M r _=X8M r st.rows;unfold X8M;rw[XbS,Yah];simp[X8N,XcV,hk]
     | [],e4=>simp[XbT]at e4
     | _::_::_,e4=>simp[XbT]at e4
   . split at e0
     . rw[YbU]at e0;split at e0<;>cases e0
     . cases e0
theorem Xom(σ:Sg)(st:St)(M:Mem)(v:Value):Xgt σ st M v {sv:=XfY v}:=by
 refine⟨?_,?_,?_,λr rv h=>(by cases h),λk cs h=>(by cases h)⟩
 . cases v with
   | int k n=>exact⟨.cons ⟨rfl,trivial⟩ .nil,rfl⟩
   | bool b=>exact⟨.cons ⟨rfl,trivial⟩ .nil,rfl⟩
   | string s=>exact⟨.cons ⟨by show Value.string s=.string ⟨s.data.toList.toArray⟩;simp,trivial⟩ .nil,rfl⟩
   | slice ad l c=>
     cases ad with
     | none=>
       match l,c with
       | 0,0=>rfl
       | 0,c+1=>trivial
       | l+1,c=>trivial
     | some x=>trivial
   | _=>trivial
 . intro k off h;cases v<;>simp[XfY]at h;rename_i ad l c;cases ad<;>(try (simp at h;done))
   match l,c with
   | 0,0=>simp at h
   | 0,c+1=>simp at h
   | l+1,c=>simp at h
 . intro t l r h;cases v<;>simp[XfY]at h;rename_i ad l c;cases ad<;>(try (simp at h;done))
   match l,c with
   | 0,0=>simp at h
   | 0,c+1=>simp at h
   | l+1,c=>simp at h
theorem X4u(hS:Sim P base M0 ios σ M w a st)(x:Operand):Xgt σ st M (a.eval x) (X3x st x):=by
 cases x with
 | tmp t=>exact Xut hS (hS.slots t)
 | const v=>exact Xom σ st M v
 | func f=>exact⟨⟨#[],#[],rfl,.nil,.nil⟩,λ_ _ e=>by(rcases e with e | e<;>cases e),λ_ _ _ e=>by(cases e),λr rv h=>(by cases h),λk cs h=>(by cases h)⟩
 | global g=>exact⟨trivial,λ_ _ e=>by(rcases e with e | e<;>cases e),λ_ _ _ e=>by(cases e),λr rv h=>(by cases h),λk cs h=>(by cases h)⟩
theorem Xc1{boxes:List (Nat×List X02)}{rows:List (Nat×X0L)}{v:Value}{sv:Sv}(t:TypeId)(h:X44 σ rows boxes M v sv):X44 σ rows boxes M v (Xii tab t sv):=by
 cases sv with
 | nil=>
   simp only[Xii];split
   . have hv:v=.slice none 0 0:=h;subst hv;exact⟨.cons ⟨RdC.nilSlice M _,by simp[Xc8]⟩ .nil,rfl⟩
   . trivial
 | _=>exact h
theorem X0Y.one{rows:List (Nat×X0L)}{v:Value}{c:X02}(h:X0Y σ rows M v (false,[c])):RdT σ rows M v c:=by
 obtain⟨h1,h2⟩:=h;cases v<;>simp[Value.cells,Xb2]at h1 h2 ⊢<;>(cases h1;assumption)
theorem X0Y.mk1{rows:List (Nat×X0L)}{v:Value}{c:X02}(h:RdT σ rows M v c)(hv:Xb2 v=false):X0Y σ rows M v (false,[c]):=by
 refine⟨?_,hv⟩;cases v<;>simp[Xb2,Value.cells]at hv ⊢<;>exact .cons h .nil
theorem X0Y.agg{rows:List (Nat×X0L)}{v:Value}{cs:List X02}(h:X0Y σ rows M v (true,cs)):∃vs,v=.agg vs/\X27 (RdT σ rows M) vs.toList cs:=by
 obtain⟨h1,h2⟩:=h;cases v<;>simp[Xb2]at h2;rename_i vs;exact⟨vs,rfl,h1⟩
theorem RdT.int{rows:List (Nat×X0L)}{v:Value}{k:IntKind}{n:Int}(h:RdT σ rows M v (.int k n)):v=.int k n:=h.1
theorem RdT.bool{rows:List (Nat×X0L)}{v:Value}{b:Bool}(h:RdT σ rows M v (.bool b)):v=.bool b:=h.1
theorem RdT.str{rows:List (Nat×X0L)}{v:Value}{s:List UInt8}(h:RdT σ rows M v (.str s)):v=.string ⟨s.toArray⟩:=h.1
theorem X8D{rows:List (Nat×X0L)}{boxes:List (Nat×List X02)}(k:IntKind)(n:Int):X44 σ rows boxes M (.int k n) (.val false [.int k n]):=⟨.cons ⟨rfl,trivial⟩ .nil,rfl⟩
theorem XcC{rows:List (Nat×X0L)}{boxes:List (Nat×List X02)}(b:Bool):X44 σ rows boxes M (.bool b) (.val false [.bool b]):=⟨.cons ⟨rfl,trivial⟩ .nil,rfl⟩
theorem XoU{rows:List (Nat×X0L)}{boxes:List (Nat×List X02)}(s:List UInt8):X44 σ rows boxes M (.string ⟨s.toArray⟩) (.val false [.str s]):=⟨.cons ⟨rfl,trivial⟩ .nil,rfl⟩
theorem Xh7(op:BinOp)(t:TypeId)(x y:Operand)(u v:Value)(hu:Xb2 u=false)(hn:u≠.nilIface):(eqGuard op t x y u v).run P w=.ok () w:=by
 cases u<;>first | (simp[Xb2]at hu;done) | (exact absurd rfl hn) | (cases op<;>cases v<;>simp[eqGuard])
theorem XeR(s:List UInt8):(⟨s.toArray⟩:ByteArray).toList=s:=by
 rw[ByteArray.toList_eq]
theorem XqP{rows:List (Nat×X0L)}{boxes:List (Nat×List X02)}{op:BinOp}{t:TypeId}{u v:Value}{x y c:X02}{ps:List Prop}(hx:RdT σ rows M u x)(hy:RdT σ rows M v y)(hb:(x matches .bool _)=true->P.underlying t=some .bool)(h:Xot op x y=some (ps,c))(hps:∀p∈ps,p):
 ∃r,(binOp op t u v).run P w=.ok r w/\X44 σ rows boxes M r (.val false [c]):=by
 cases x with
 | lst t l tag=>cases y<;>simp[Xot]at h
 | own t r=>cases y<;>simp[Xot]at h
 | sub t r lo hi=>cases y<;>simp[Xot]at h
 | bor t l r ver p=>cases y<;>simp[Xot]at h
 | emp t=>cases y<;>simp[Xot]at h
 | und=>cases y<;>simp[Xot]at h
 | int k m=>
   cases y with
   | int k' n=>
     have hu:=hx.int;have hv:=hy.int;subst hu;subst hv;cases op<;>simp only[Xot]at h
     case shl=>simp only[Yag,Yaa]at h;obtain⟨rfl,rfl⟩:=h
               have h0:0<=n:=hps _ (by simp);exact⟨_,by simp[binOp,Op.shift,show ¬n<0 by omega],X8D _ _⟩
     case shr=>simp only[Yag,Yaa]at h;obtain⟨rfl,rfl⟩:=h
               have h0:0<=n:=hps _ (by simp);exact⟨_,by simp[binOp,Op.shift,show ¬n<0 by omega],X8D _ _⟩
     all_goals
      by_cases hk:k=k'
      . subst hk;rw[Yah rfl]at h
        first
         | (cases h;done)
         | (simp only[Yag,Yaa]at h;obtain⟨rfl,rfl⟩:=h;refine⟨_,?_,X8D _ _⟩;simp[binOp,Op.intArith];done)
         | (simp only[Yag,Yaa]at h;obtain⟨rfl,rfl⟩:=h;refine⟨_,?_,XcC _⟩;simp[binOp,Op.intCmp];done)
         | (simp only[Yag,Yaa]at h;obtain⟨rfl,rfl⟩:=h;refine⟨_,?_,X8D _ _⟩;simp[binOp,Op.intBits];done)
         | (simp only[Yag,Yaa]at h;obtain⟨rfl,rfl⟩:=h
            have h0:n≠0:=hps _ (by simp);refine⟨_,?_,X8D _ _⟩;simp[binOp,Op.intDiv,h0];done)
      . rw[Yae hk]at h;cases h
   | _=>simp[Xot]at h
 | str s=>
   cases y with
   | str s'=>
     have hu:=hx.str;have hv:=hy.str;subst hu;subst hv;cases op<;>simp only[Xot]at h<;>first
      | (cases h;done)
      | (simp only[Yag,Yaa]at h
         obtain⟨rfl,rfl⟩:=h
         first
          | (refine ⟨_,?_,XcC _⟩;simp[binOp,Op.stringOp,XeR];done)
          | (have h0:s.length+s'.length<=9223372036854775807:=hps _ (by simp)
             refine⟨.string (⟨s.toArray⟩++⟨s'.toArray⟩),?_,?_⟩
             . simp only[binOp];exact run_string_add_sum w _ _ (by simpa [ByteArray.size] using h0)
             . have he:((⟨s.toArray⟩:ByteArray)++⟨s'.toArray⟩)=⟨(s++s').toArray⟩:=by
                apply Ydk;simp[Yc7]
               rw[he];exact XoU _))
   | _=>simp[Xot]at h
 | bool b=>
   cases y with
   | bool b'=>
     have hu:=hx.bool;have hv:=hy.bool;subst hu;subst hv;have ht:=hb rfl;cases op<;>simp only[Xot]at h<;>first
      | (cases h;done)
      | (simp only[Yag,Yaa]at h
         obtain⟨rfl,rfl⟩:=h;refine⟨_,?_,XcC _⟩;simp[binOp,run_equal_bool w t b b' ht])
   | _=>simp[Xot]at h
def X7O(P:Program)(base:World)(M0:Mem)(ios:Ios)(a:Act)(o:Oper)(st:St)(e:Eff)(next:Act->World->Prop):Prop:=
 ∀v σ' M' w',Sim P base M0 ios σ' M' w' (a.put o.dst v) (e.apply o.dst st)->next (a.put o.dst v) w'
theorem X1a{v:Value}{w':World}(hr:(execOp a.eval o).run P w=.ok (.value v) w')(h:next (a.put o.dst v) w'):o.wp P a w next Q:=by
 unfold Oper.wp;rw[hr];exact h
theorem Sim.putO(h:Sim P base M0 ios σ M w a st)(hd:∀d,o.dst=some d->d<st.nt){v:Value}{sv:Sv}(hv:X44 σ st.rows st.boxes M v sv):
 Sim P base M0 ios σ M w (a.put o.dst v) (Eff.apply {sv:=sv} o.dst st):=by
 cases hdst:o.dst with
 | none=>exact h
 | some d=>exact h.put (hd d hdst) hv
theorem Xn2(hT:X1E P tab){t:TypeId}{ti:TI}(h:look t tab=some ti)(w:World):∃z,(zeroValue t).run P w=.ok z w/\z.cells.toList=zeros ti.ty:=by
 obtain⟨i,z,hi,_,_,hz,hc⟩:=(hT t ti h).info;exact⟨z,by simp[zeroValue,typeInfo,hi,hz],hc⟩
theorem X5X(hT:X1E P tab){t:TypeId}{ti:TI}(h:look t tab=some ti)(w:World):(sizeOf t).run P w=.ok (size ti.ty) w:=by
 obtain⟨i,z,hi,hs,_,_,_⟩:=(hT t ti h).info;simp[sizeOf,typeInfo,hi,hs]
theorem Xf3(rows:List (Nat×X0L)):∀t:Ty,X27 (RdT σ rows M) (zeros t) (Xml t)
 | .int _=>.cons ⟨rfl,trivial⟩ .nil
 | .bool=>.cons ⟨rfl,trivial⟩ .nil
 | .str=>.cons ⟨rfl,trivial⟩ .nil
 | .list τ=>.cons ⟨RdC.nilSlice M τ,by simp[Xc8]⟩ .nil
 | .unit=>.nil
 | .pair x y=>(Xf3 rows x).append (Xf3 rows y)
theorem XuO(hT:X1E P tab)(hS:Sim P base M0 ios σ M w a st){t:TypeId}{ti:TI}{d:Nat}(ho:o.op=.alloc t)(hd:o.dst=some d)(hdn:d<st.nt)(ht:look t tab=some ti)(hf:noBox (d+1) st=true)(hn:X7O P base M0 ios a o st {sv:=.box (d+1) 0,nbox:=some (Xml ti.ty)} next):o.wp P a w next Q:=by
 obtain⟨z,hz,hzc⟩:=Xn2 hT ht w;refine X1a (v:=.pointer (some ⟨w.heap.size,0,none⟩)) (w':=w.alloc (.cells z.cells t)) ?_ ?_
 . simp[execOp,ho,Instr.alloc,hz,newVar,newRow,newObj,Sem.run]
 . have hS':=hS.allocBox (d:=d+1) (by omega) hf (arr:=z.cells) (E:=t) (cs:=Xml ti.ty) (by rw[hzc];exact Xf3 _ _);refine hn _ {σ with box:=λk=>if k=d+1 then w.heap.size else σ.box k} M _ ?_;have:=hS'.put (d:=d) (v:=.pointer (some ⟨w.heap.size,0,none⟩)) (sv:=.box (d+1) 0) hdn ⟨by simp[Addr.add],by simp[X08]⟩;rw[hd];exact this
theorem Xz2(hS:Sim P base M0 ios σ M w a st){t:TypeId}{x:Operand}{cs:List X02}{d:Nat}(ho:o.op=.box t x)(hd:o.dst=some d)(hdn:d<st.nt)(hx:X27 (RdT σ st.rows M) (a.eval x).cells.toList cs)(hf:noBox (d+1) st=true)(hn:X7O P base M0 ios a o st {sv:=.box (d+1) 0,nbox:=some cs} next):o.wp P a w next Q:=by
 refine X1a (v:=.pointer (some ⟨w.heap.size,0,none⟩)) (w':=w.alloc (.cells (a.eval x).cells t)) ?_ ?_
 . simp[execOp,ho,Instr.box,newVar,newRow,newObj,Sem.run]
 . have hS':=hS.allocBox (d:=d+1) (by omega) hf (E:=t) hx;refine hn _ {σ with box:=λk=>if k=d+1 then w.heap.size else σ.box k} M _ ?_;have:=hS'.put (d:=d) (v:=.pointer (some ⟨w.heap.size,0,none⟩)) (sv:=.box (d+1) 0) hdn ⟨by simp[Addr.add],by simp[X08]⟩;rw[hd];exact this
theorem Sim.allocFrz(hS:Sim P base M0 ios σ M w a st)(arr:Array Value)(E:TypeId):
 ∃M',M.le M'/\Sim P base M0 ios σ M' (w.alloc (.cells arr E)) a st/\∀u,arr.toList[0]?=some u->M' ⟨w.heap.size,0,none⟩=some u:=by
 have hg:=World.grownBy_alloc w (.cells arr E) none;have hlt:∀ad v,M ad=some v->ad.block<w.heap.size:=λad v h=>World.block_lt_of_cell? w ad (hS.mem ad v h);have h1:Sim P base M0 ios σ M (w.alloc (.cells arr E)) a st:=hS.grown hg
  (λad v h=>by rw[World.cell?_of_block (hg.block ad.block (hlt ad v h) (by simp))];exact hS.mem ad v h)
  (λk _=>by simp) (λr _=>by cases (σ.row r).ownBlock<;>simp) (λk e=>by cases e) (λr _ g e=>by cases e)
 refine⟨λad=>if ad.block=w.heap.size then(w.alloc (.cells arr E)).cell? ad else M ad,λad v h=>?_,h1.moreMem (λad v h=>?_) (λad v h=>?_) (λk hk ad had=>?_) (λad h2 h3 h4=>?_) (λr e he n xs i hi ho hm g hg' ad had hle=>?_) (λr hr g hg' ad had=>?_),λu hu=>?_⟩
 . simp only;rw[Yae (by have:=hlt ad v h;omega)];exact h
 . rw[Yae (by have:=hlt ad v h;omega)];exact h
 . split at h
   . exact h
   . exact h1.mem ad v h
 . rw[Yae (by have:=hS.box_lt hk;omega)];exact hS.boxM k hk ad had
 . rw[Yae (by have:=hS.fr.size;omega)];exact hS.old ad h2 h3 h4
 . obtain⟨n',xs',i',_,k2,_⟩:=(hS.rows r e he).own;have:=(k2.lt g hg').2;rw[Yae (by omega)];exact hm g hg' ad had hle
 . rw[Yae (by have:=hS.hot.lt r hr g hg';omega)];exact hS.hot.noM r hr g hg' ad had
 . simp only[Yci];have hh:(w.alloc (.cells arr E)).heap[w.heap.size]?=some (.cells arr E (0,0)):=heap_alloc_new w _;rw[cell_of_row _ w.heap.size 0 arr E (0,0) hh];simpa using hu
theorem Xlh(hS:Sim P base M0 ios σ M w a st){t:TypeId}{x:Operand}{sv:Sv}{d:Nat}{ad:Addr}(ho:o.op=.box t x)(hd:o.dst=some d)(hdn:d<st.nt)(hx:a.eval x=.pointer (some ad))(hr:∀M':Mem,M.le M'->M' ⟨w.heap.size,0,none⟩=some (.pointer (some ad))->X44 σ st.rows st.boxes M' (.pointer (some ⟨w.heap.size,0,none⟩)) sv)(hn:X7O P base M0 ios a o st {sv:=sv} next):o.wp P a w next Q:=by
 refine X1a (v:=.pointer (some ⟨w.heap.size,0,none⟩)) (w':=w.alloc (.cells (a.eval x).cells t)) ?_ ?_
 . simp[execOp,ho,Instr.box,newVar,newRow,newObj,Sem.run]
 . obtain⟨M',h1,h2,h3⟩:=hS.allocFrz (a.eval x).cells t;refine hn _ σ M' _ (h2.putO (λd' e=>by rw[hd]at e;cases e;exact hdn) (hr M' h1 (h3 _ ?_)));rw[hx];rfl
theorem XrM{t:TypeId}(h:Xq8 P t=true)(w:World):(isAgg t).run P w=.ok false w:=by
 unfold Xq8 at h;split at h
 . rename_i e hu;unfold isAgg;simp[run_underlying hu]
 . cases h
theorem Xln(hS:Sim P base M0 ios σ M w a st){t:TypeId}{x:Operand}{sv:Sv}{ad:Addr}{u:Value}(ho:o.op=.load t x)(hd:∀d,o.dst=some d->d<st.nt)(ht:Xq8 P t=true)(hx:a.eval x=.pointer (some ad))(hu:M ad=some u)(hr:X44 σ st.rows st.boxes M u sv)(hn:X7O P base M0 ios a o st {sv:=sv} next):o.wp P a w next Q:=by
 refine X1a (v:=u) (w':=w) ?_ (hn _ σ M w (hS.putO hd hr));have hc:=hS.mem ad u hu;have hl:(loadVar t ad).run P w=.ok u w:=by
  unfold loadVar;rw[Sem.run_bind,XrM ht];simp[load,Sem.run,hc]
 simp[execOp,ho,Instr.loadAt,Instr.sureAddr,hx,hl]
theorem XiY(hT:X1E P tab){t:TypeId}{ti:TI}(h:look t tab=some ti)(w:World):(isAgg t).run P w=.ok ti.agg w:=by
 have hu:=(hT t ti h).und;unfold isAgg;cases hg:ti.agg with
 | true=>
   rw[hg]at hu;simp only[Yci]at hu;obtain⟨fs,hfs,_⟩:=hu;simp[run_underlying hfs]
 | false=>
   rw[hg]at hu;simp only[Ycd,Ydu]at hu;cases hty:ti.ty<;>rw[hty]at hu<;>simp only at hu<;>first | exact hu.elim | simp[run_underlying hu]
theorem X5L(hT:X1E P tab){t:TypeId}{ti:TI}(h:look t tab=some ti)(hag:ti.agg=true\/size ti.ty=1)(ad:Addr)(vs:List Value)(hl:vs.length=size ti.ty)(hc:∀j u,vs[j]?=some u->w.cell? (ad.add j)=some u)(h1:∀u∈vs,u.oneCell'=true):
 ∃v,(loadVar t ad).run P w=.ok v w/\v.cells.toList=vs/\Xb2 v=ti.agg:=by
 unfold loadVar;rw[Sem.run_bind,XiY hT h];simp only[Result.andThen_ok];cases hg:ti.agg with
 | true=>
   simp only[Yci];have:=run_loadCells_list (P:=P) w ad vs hc;rw[hl]at this;exact⟨.agg vs.toArray,by simp[X5X hT h,this],by simp[Value.cells],rfl⟩
 | false=>
   rw[hg]at hag;have hs:size ti.ty=1:=by simpa using hag
   rw[hs]at hl
   match vs,hl with
   | [u],_=>
     have hu:=hc 0 u (by simp);have h1u:=h1 u (by simp);refine⟨u,?_,?_,?_⟩
     . simp only[Ycd,Ydu];have:w.cell? ad=some u:=by rw[Addr.add_zero']at hu;exact hu
       simp[load,Sem.run,this]
     . cases u<;>simp[Value.cells,Value.oneCell']at h1u ⊢
     . cases u<;>simp[Xb2,Value.oneCell']at h1u ⊢
theorem X27.getL{α β:Type}{R:α->β->Prop}{as:List α}{bs:List β}(h:X27 R as bs):∀{i:Nat} {x},as[i]?=some x->∃y,bs[i]?=some y/\R x y:=by
 induction h with
 | nil=>intro i b hb;simp at hb
 | cons x _ ih=>
   intro i b hb;cases i with
   | zero=>simp at hb;subst hb;exact⟨_,by simp,x⟩
   | succ i=>simp at hb;obtain⟨y,hy,hr⟩:=ih hb;exact⟨y,by simpa using hy,hr⟩
theorem X27.one{σ:Sg}{rows:List (Nat×X0L)}{M:Mem}{vs:List Value}{cs:List X02}(h:X27 (RdT σ rows M) vs cs):∀u∈vs,u.oneCell'=true:=by
 intro u hu;obtain⟨i,hi⟩:=Yc9 hu;obtain⟨c,_,hr⟩:=h.getL hi;exact hr.1.oneCell
theorem Xdz{rows:List (Nat×X0L)}{ad:Addr}{M:Mem}:∀{cs:List X02} {o:Nat},(∀i c,cs[i]?=some c->∃u,M (ad.add (o+i))=some u/\RdT σ rows M u c)->
 ∃vs,X27 (RdT σ rows M) vs cs/\∀j u,vs[j]?=some u->M (ad.add (o+j))=some u
 | [],o,_=>⟨[],.nil,λj u h=>by simp at h⟩
 | c::r,o,h=>by
   obtain⟨u,hu,hr⟩:=h 0 c (by simp);obtain⟨vs,h1,h2⟩:=Xdz (ad:=ad) (cs:=r) (o:=o+1) (λi c' hc=>by
    have:=h (i+1) c' (by simpa using hc)
    rwa [show o+(i+1)=o+1+i by omega]at this)
   refine⟨u::vs,.cons hr h1,?_⟩;intro j x hx;cases j with
   | zero=>simp at hx;subst hx;exact hu
   | succ j=>simp at hx;have:=h2 j x hx;rwa [show o+1+j=o+(j+1) by omega]at this
theorem Xp9(hT:X1E P tab)(hS:Sim P base M0 ios σ M w a st){t:TypeId}{ti:TI}{x:Operand}{k off:Nat}{cs:List X02}(ho:o.op=.load t x)(hd:∀d,o.dst=some d->d<st.nt)(ht:look t tab=some ti)(hx:a.eval x=.pointer (some ((⟨σ.box k,0,none⟩:Addr).add off)))(hk:st.box k=some cs)(hl:off+size ti.ty<=cs.length)(hag:ti.agg=true\/size ti.ty=1)(hn:X7O P base M0 ios a o st {sv:=.val ti.agg ((cs.drop off).take (size ti.ty))} next):o.wp P a w next Q:=by
 obtain⟨arr,E,hh,hc⟩:=hS.boxes k cs hk;have h2:=(hc.drop off).take (size ti.ty);obtain⟨v,hv,hvc,hva⟩:=X5L (w:=w) hT ht hag ((⟨σ.box k,0,none⟩:Addr).add off) ((arr.toList.drop off).take (size ti.ty))
  (by rw[Yal,Yap,hc.length];omega)
  (by
    intro j u hu;rw[add_lit,add_lit,cell_of_row w (σ.box k) _ arr E (0,0) hh];rw[YaE]at hu;split at hu
    . rw[Ybz]at hu;rw[YaU];simpa using hu
    . cases hu)
  h2.one
 refine X1a (v:=v) (w':=w) ?_ (hn _ σ M w (hS.putO hd ⟨by rw[hvc];exact h2,hva⟩));simp[execOp,ho,Instr.loadAt,Instr.sureAddr,hx,hv]
theorem XoD(hT:X1E P tab)(hS:Sim P base M0 ios σ M w a st){t:TypeId}{ti:TI}{x:Operand}{cs:List X02}(ho:o.op=.load t x)(hd:∀d,o.dst=some d->d<st.nt)(ht:look t tab=some ti)(hx:Xdk σ st.rows M (a.eval x) cs)(hl:size ti.ty<=cs.length)(hag:ti.agg=true\/size ti.ty=1)(hn:X7O P base M0 ios a o st {sv:=.val ti.agg (cs.take (size ti.ty))} next):o.wp P a w next Q:=by
 obtain⟨ad,hx,hc⟩:=hx;obtain⟨vs,h1,h2⟩:=Xdz (σ:=σ) (rows:=st.rows) (ad:=ad) (cs:=cs) (o:=0) (by simpa using hc);have h3:=h1.take (size ti.ty);obtain⟨v,hv,hvc,hva⟩:=X5L (w:=w) hT ht hag ad (vs.take (size ti.ty))
  (by rw[Yal,h1.length];omega)
  (by
    intro j u hu;rw[YaE]at hu;split at hu
    . exact hS.mem _ _ (by simpa using h2 j u hu)
    . cases hu)
  h3.one
 refine X1a (v:=v) (w':=w) ?_ (hn _ σ M w (hS.putO hd ⟨by rw[hvc];exact h3,hva⟩));simp[execOp,ho,Instr.loadAt,Instr.sureAddr,hx,hv]
theorem Xuf(hT:X1E P tab)(hS:Sim P base M0 ios σ M w a st){t:TypeId}{ti:TI}{x y:Operand}{k off:Nat}{cs ds:List X02}(ho:o.op=.store t x y)(hdn:o.dst=none)(ht:look t tab=some ti)(hx:a.eval x=.pointer (some ((⟨σ.box k,0,none⟩:Addr).add off)))(hk:st.box k=some cs)(hy:X27 (RdT σ st.rows M) (a.eval y).cells.toList ds)(hl:ds.length=size ti.ty)(hl2:off+ds.length<=cs.length)(hn:X7O P base M0 ios a o st {sv:=.und,sbox:=some (k,cs.take off++(ds++cs.drop (off+ds.length)))} next):o.wp P a w next Q:=by
 obtain⟨arr,E,hh,hc⟩:=hS.boxes k cs hk;have hsz:(a.eval y).cells.toList.length=ds.length:=hy.length;have hst:=run_storeCells_at P (σ.box k) off E (a.eval y).cells.toList 0 arr w hh (by rw[hsz,Ya6,<-Yaq,hc.length];exact hl2) hy.one;have hS':=hS.storeBox (ds:=cs.take off++(ds++cs.drop (off+ds.length))) (arr':=(arr.toList.take off++(a.eval y).cells.toList++arr.toList.drop (off+(a.eval y).cells.toList.length)).toArray) hk hh
  (by rw[hsz];simpa using ((hc.take off).append (hy.append (hc.drop (off+ds.length)))))
 have hgo:=hn undef σ M (w.setRow (σ.box k) (arr.toList.take off++(a.eval y).cells.toList++arr.toList.drop (off+(a.eval y).cells.toList.length)).toArray);rw[hdn]at hgo;unfold Oper.wp;have hrun:(execOp a.eval o).run P w=.ok .skip (w.setRow (σ.box k) (arr.toList.take off++(a.eval y).cells.toList++arr.toList.drop (off+(a.eval y).cells.toList.length)).toArray):=by
  simp only[Ya6]at hst;have hsz':(a.eval y).cells.size=size ti.ty:=by rw[<-Yaq,hsz,hl]
  have hx':a.eval x=.pointer (some ⟨σ.box k,off,none⟩):=by rw[hx,add_lit,YaU]
  simp[execOp,ho,Instr.storeAt,Instr.sureAddr,hx',storeVar,X5X hT ht,hsz'];simp only[Yaq,Yam]at hst;rw[hsz']at hst;simp[hst]
 rw[hrun];show next (a.put o.dst undef) _
 rw[hdn];exact hgo hS'
theorem X5t(hT:X1E P tab){t e:TypeId}{τ:Ty}{fs:List (Nat×TypeId)}{b:Nat}(h:look t tab=some ⟨.list τ,false,fs,e,b⟩):P.underlying t=some (.slice e):=by
 have:=(hT t _ h).und;simpa using this
theorem XoG(hT:X1E P tab){t e:TypeId}{fs:List (Nat×TypeId)}{b:Nat}(h:look t tab=some ⟨.str,false,fs,e,b⟩):P.underlying t=some .string:=by
 have:=(hT t _ h).und;simpa using this
theorem Xww(hT:X1E P tab){t e:TypeId}{k:IntKind}{fs:List (Nat×TypeId)}{b:Nat}(h:look t tab=some ⟨.int k,false,fs,e,b⟩):P.underlying t=some (.int k):=by
 have:=(hT t _ h).und;simpa using this
theorem XuV(hT:X1E P tab){t e:TypeId}{fs:List (Nat×TypeId)}{b:Nat}(h:look t tab=some ⟨.bool,false,fs,e,b⟩):P.underlying t=some .bool:=by
 have:=(hT t _ h).und;simpa using this
theorem Xuk(hT:X1E P tab){t:TypeId}{ti:TI}(h:look t tab=some ti):∃d,P.underlying t=some d:=by
 have hu:=(hT t ti h).und;cases hg:ti.agg with
 | true=>rw[hg]at hu;simp only[Yci]at hu;obtain⟨fs,hfs,_⟩:=hu;exact⟨_,hfs⟩
 | false=>
   rw[hg]at hu;simp only[Ycd,Ydu]at hu;cases hty:ti.ty<;>rw[hty]at hu<;>simp only at hu<;>first | exact hu.elim | exact⟨_,hu⟩
theorem Xh2(hT:X1E P tab){t:TypeId}{ti:TI}(h:look t tab=some ti)(hg:ti.agg=true):
 ∃fs,P.underlying t=some (.struct fs)/\fs.toList.map (λf=>(f.offset,f.type))=ti.fields/\∀p∈ti.fields,(look p.2 tab).isSome=true:=by
 have hu:=(hT t ti h).und;rw[hg]at hu;simpa using hu
theorem XdR(hT:X1E P tab){t tf:TypeId}{ti tif:TI}(h:look t tab=some ti)(hg:ti.agg=true){f off:Nat}(hf:ti.fields[f]?=some (off,tf))(htf:look tf tab=some tif)(hs:0<size tif.ty)(ad:Addr)(w:World):
 (Instr.fieldAt t (.pointer (some ad)) f).run P w=.ok (.pointer (some (ad.add off))) w:=by
 obtain⟨fs,hfs,hm,_⟩:=Xh2 hT h hg;rw[<-hm,Ycj]at hf;cases hx:fs.toList[f]? with
 | none=>rw[hx]at hf;simp at hf
 | some fl=>
   rw[hx]at hf;simp only[Ych,Yag,Yaa]at hf;obtain⟨ho,hty⟩:=hf;have hx':fs[f]?=some fl:=by simpa using hx
   have hsz:(sizeOf fl.type).run P w=.ok (size tif.ty) w:=by rw[hty];exact X5X hT htf w
   simp[Instr.fieldAt,run_underlying hfs,hx',Instr.sureAddr,fieldPlace,hsz,show size tif.ty≠0 by omega,ho]
theorem Xij(hT:X1E P tab)(hS:Sim P base M0 ios σ M w a st){t tf:TypeId}{ti tif:TI}{x:Operand}{f k oo off:Nat}(ho:o.op=.fieldAddr t x f)(hd:∀d,o.dst=some d->d<st.nt)(h:look t tab=some ti)(hg:ti.agg=true)(hf:ti.fields[f]?=some (off,tf))(htf:look tf tab=some tif)(hs:0<size tif.ty)(hx:X44 σ st.rows st.boxes M (a.eval x) (.box k oo))(hn:X7O P base M0 ios a o st {sv:=.box k (oo+off)} next):o.wp P a w next Q:=by
 obtain⟨hx,hb⟩:=hx;refine X1a (v:=.pointer (some ((⟨σ.box k,0,none⟩:Addr).add (oo+off)))) (w':=w) ?_ (hn _ σ M w (hS.putO hd ⟨rfl,hb⟩));have:=XdR hT h hg hf htf hs ((⟨σ.box k,0,none⟩:Addr).add oo) w;simp[execOp,ho,hx,this,Addr.add_add]
theorem Xia(hT:X1E P tab)(hS:Sim P base M0 ios σ M w a st){t tf:TypeId}{ti tif:TI}{x:Operand}{f off:Nat}{cs:List X02}(ho:o.op=.fieldAddr t x f)(hd:∀d,o.dst=some d->d<st.nt)(h:look t tab=some ti)(hg:ti.agg=true)(hf:ti.fields[f]?=some (off,tf))(htf:look tf tab=some tif)(hs:0<size tif.ty)(hx:X44 σ st.rows st.boxes M (a.eval x) (.ptr cs))(hn:X7O P base M0 ios a o st {sv:=.ptr (cs.drop off)} next):o.wp P a w next Q:=by
 obtain⟨ad,hx,hc⟩:=hx;refine X1a (v:=.pointer (some (ad.add off))) (w':=w) ?_ (hn _ σ M w (hS.putO hd ⟨ad.add off,rfl,?_⟩))
 . have:=XdR hT h hg hf htf hs ad w;simp[execOp,ho,hx,this]
 . intro i c hi;rw[Ybz]at hi;rw[Addr.add_add];exact hc _ c hi
theorem RdC.at{τ:Ty}{l:List (El τ)}{v:Value}(h:RdC M (.list τ) [v] l){i:Nat}(hi:i<l.length):
 ∃ad cap,v=.slice (some ad) l.length cap/\∃vs,vs.length=size τ/\(∀j u,vs[j]?=some u->M ((ad.add (i*size τ)).add j)=some u)/\RdC M τ vs (l.getD i (dflt τ)):=by
 obtain⟨ado,cap,e,_,_,hc⟩:=h;cases e;obtain⟨ad,vs,rfl,h1,h2,h3⟩:=hc i hi;refine⟨ad,cap,rfl,vs,h1,λj u hu=>by rw[Addr.add_add];exact h2 j u hu,?_⟩;rw[Yar,Yax hi];exact h3
theorem Xhl:∀(t:Ty) (x:El t) (c:X02),c∈flat t x->∀v,Xc8 σ st.rows v c
 | .int _,_,c,h,v=>by simp[flat]at h;subst h;trivial
 | .bool,_,c,h,v=>by simp[flat]at h;subst h;trivial
 | .str,_,c,h,v=>by simp[flat]at h;subst h;trivial
 | .list t,l,c,h,v=>by simp[flat]at h;subst h;trivial
 | .unit,_,c,h,v=>by simp[flat]at h
 | .pair a b,x,c,h,v=>by
   simp only[flat,Yaf]at h;rcases h with h | h
   . exact Xhl a x.1 c h v
   . exact Xhl b x.2 c h v
theorem XuJ{t:Ty}{cs:List Value}{x:El t}(h:RdC M t cs x):X27 (RdT σ st.rows M) cs (flat t x):=
 (Xg7 t cs x h).imp_mem λv c hc hv=>⟨hv,Xhl t x c hc v⟩
theorem XmG(hT:X1E P tab)(hS:Sim P base M0 ios σ M w a st){t e:TypeId}{te:TI}{τ0 τ:Ty}{fs:List (Nat×TypeId)}{b:Nat}{x y:Operand}{k:IntKind}{i:Int}{l:List (El τ)}{tag:Option Nat}(ho:o.op=.indexAddr t x y)(hd:∀d,o.dst=some d->d<st.nt)(h:look t tab=some ⟨.list τ0,false,fs,e,b⟩)(he:look e tab=some te)(hs:size te.ty=size τ)(hx:X44 σ st.rows st.boxes M (a.eval x) (.val false [.lst τ l tag]))(hy:X44 σ st.rows st.boxes M (a.eval y) (.val false [.int k i]))(h0:0<=i)(h1:i<l.length)(hn:X7O P base M0 ios a o st {sv:=.ptr (flat τ (l.getD i.toNat (dflt τ)))} next):o.wp P a w next Q:=by
 have hx':=(X0Y.one hx).1;have hy':=(X0Y.one hy).int;obtain⟨ad,cap,hv,vs,h2,h3,h4⟩:=RdC.at hx' (i:=i.toNat) (by omega);refine X1a (v:=.pointer (some (ad.add (i.toNat*size τ)))) (w':=w) ?_ (hn _ σ M w (hS.putO hd ⟨_,rfl,?_⟩))
 . have hu:=X5t hT h;have hsz:=X5X hT he w;rw[hs]at hsz;simp[execOp,ho,hv,hy',Instr.indexAt,asIntOf,run_underlying hu,h0,h1,hsz]
 . intro j c hj;obtain⟨u,hu,hr⟩:=(XuJ (σ:=σ) (st:=st) h4).get hj;exact⟨u,h3 j u hu,hr⟩
theorem XnS(hT:X1E P tab)(hS:Sim P base M0 ios σ M w a st){t e:TypeId}{fs:List (Nat×TypeId)}{b:Nat}{x y:Operand}{k:IntKind}{i:Int}{s:List UInt8}(ho:o.op=.index t x y)(hd:∀d,o.dst=some d->d<st.nt)(h:look t tab=some ⟨.str,false,fs,e,b⟩)(hx:X44 σ st.rows st.boxes M (a.eval x) (.val false [.str s]))(hy:X44 σ st.rows st.boxes M (a.eval y) (.val false [.int k i]))(h0:0<=i)(h1:i<s.length)(hn:X7O P base M0 ios a o st {sv:=.val false [.int .u8 (s.getD i.toNat 0).toNat]} next):o.wp P a w next Q:=by
 have hx':=(X0Y.one hx).str;have hy':=(X0Y.one hy).int;refine X1a (v:=.int .u8 (s.getD i.toNat 0).toNat) (w':=w) ?_ (hn _ σ M w (hS.putO hd (X8D _ _)));have hlt:i.toNat<s.length:=by omega
 have:=run_index_string (P:=P) w t ⟨s.toArray⟩ k i (XoG hT h);rw[dif_pos ⟨h0,by simpa [ByteArray.size] using h1⟩]at this;simp[execOp,ho,hx',hy',this,Yar,Yax hlt];rfl
def Xcs(x:Option Int):Nat:=match x with | some n=>n.toNat | none=>0
def Xc7(len:Nat)(x:Option Int):Nat:=match x with | some n=>n.toNat | none=>len
theorem Xh8{isS:Bool}{len cap:Nat}(lo hi:Option Int)(kl kh:IntKind)(h0:∀n,lo=some n->0<=n)(h1:∀n,hi=some n->0<=n)(h2:Xcs lo<=Xc7 len hi)(h3:Xc7 len hi<=cap)(w:World):
 (Instr.sliceBounds isS len cap (lo.map (Value.int kl)) (hi.map (Value.int kh)) none).run P w=.ok (Xcs lo,Xc7 len hi,cap) w:=by
 cases lo with
 | none=>cases hi with
   | none=>simp[Instr.sliceBounds,Xcs,Xc7]
   | some m=>
     have:=h1 m rfl;simp only[Xc7]at h3;simp[Instr.sliceBounds,Xcs,Xc7,Instr.sliceBound,asIntOf,this,show m<=(cap:Int) by omega]
 | some n=>cases hi with
   | none=>
     have:=h0 n rfl;simp only[Xcs,Xc7]at h2;simp[Instr.sliceBounds,Xcs,Xc7,Instr.sliceBound,asIntOf,this,show n<=(len:Int) by omega]
   | some m=>
     have hn:=h0 n rfl;have hm:=h1 m rfl;simp only[Xcs,Xc7]at h2 h3;simp[Instr.sliceBounds,Xcs,Xc7,Instr.sliceBound,asIntOf,hn,hm,show m<=(cap:Int) by omega,show n<=m by omega];omega
theorem XlV(hT:X1E P tab)(hS:Sim P base M0 ios σ M w a st){t:TypeId}{ti te:TI}{τ0 τ:Ty}{x:Operand}{lo hi:Option Operand}{l:List (El τ)}{tag:Option Nat}{n m:Option Int}{kl kh:IntKind}(ho:o.op=.slice t x lo hi none)(hd:∀d,o.dst=some d->d<st.nt)(h:look t tab=some ti)(hty:ti.ty=.list τ0)(hg:ti.agg=false)(he:look ti.elem tab=some te)(hs:size te.ty=size τ)(hx:X44 σ st.rows st.boxes M (a.eval x) (.val false [.lst τ l tag]))(hlo:lo.map a.eval=n.map (Value.int kl))(hhi:hi.map a.eval=m.map (Value.int kh))(h0:∀j,n=some j->0<=j)(h1:∀j,m=some j->0<=j)(h2:Xcs n<=Xc7 l.length m)(h3:Xc7 l.length m<=l.length)(hn:X7O P base M0 ios a o st {sv:=.val false [.lst τ ((l.take (Xc7 l.length m)).drop (Xcs n)) none]} next):o.wp P a w next Q:=by
 have hx':=(X0Y.one hx).1;have hr:=hx';obtain⟨ad,cap,e,hl,hm,hc⟩:=hr;have hv:a.eval x=.slice ad l.length cap:=YbX e;rw[hv]at hx';have hsl:=RdC.slice (M:=M) (τ:=τ) hx' h2 h3;refine X1a (v:=.slice (if cap=Xcs n then ad else ad.map (·.add (Xcs n*size τ))) (Xc7 l.length m - Xcs n) (cap - Xcs n)) (w':=w) ?_
  (hn _ σ M w (hS.putO hd (X0Y.mk1 ⟨hsl,trivial⟩ rfl)))
 have hu:P.underlying t=some (.slice ti.elem):=by have:=(hT t ti h).und;rw[hg,hty]at this;simpa using this
 have hb:=Xh8 (P:=P) (isS:=true) (len:=l.length) (cap:=cap) n m kl kh h0 h1 h2 (by omega) w;have hsz:=X5X hT he w;rw[hs]at hsz;rw[<-hlo,<-hhi]at hb;simp[execOp,ho,hv,Instr.sliceAt,run_underlying hu,Instr.slice,hb,hsz]
theorem Xcg(hT:X1E P tab)(hS:Sim P base M0 ios σ M w a st){t:TypeId}{ti:TI}{x:Operand}{lo hi:Option Operand}{s:List UInt8}{n m:Option Int}{kl kh:IntKind}(ho:o.op=.slice t x lo hi none)(hd:∀d,o.dst=some d->d<st.nt)(h:look t tab=some ti)(hty:ti.ty=.str)(hg:ti.agg=false)(hx:X44 σ st.rows st.boxes M (a.eval x) (.val false [.str s]))(hlo:lo.map a.eval=n.map (Value.int kl))(hhi:hi.map a.eval=m.map (Value.int kh))(h0:∀j,n=some j->0<=j)(h1:∀j,m=some j->0<=j)(h2:Xcs n<=Xc7 s.length m)(h3:Xc7 s.length m<=s.length)(hn:X7O P base M0 ios a o st {sv:=.val false [.str ((s.take (Xc7 s.length m)).drop (Xcs n))]} next):o.wp P a w next Q:=by
 have hv:=(X0Y.one hx).str;refine X1a (v:=.string ⟨((s.take (Xc7 s.length m)).drop (Xcs n)).toArray⟩) (w':=w) ?_ (hn _ σ M w (hS.putO hd (XoU _)));have hu:P.underlying t=some .string:=by have:=(hT t ti h).und;rw[hg,hty]at this;simpa using this
 have hb:=Xh8 (P:=P) (isS:=false) (len:=s.length) (cap:=s.length) n m kl kh h0 h1 h2 h3 w;rw[<-hlo,<-hhi]at hb;have hbs:(⟨s.toArray⟩:ByteArray).size=s.length:=by simp[ByteArray.size]
 have hex:((⟨s.toArray⟩:ByteArray).extract (Xcs n) (Xc7 s.length m))=⟨((s.take (Xc7 s.length m)).drop (Xcs n)).toArray⟩:=by
  apply Ydk;rw[ByteArray.data_extract];apply Yb4;simp[List.extract_eq_take_drop,YbQ]
 simp[execOp,ho,hv,Instr.sliceAt,run_underlying hu,Instr.slice,hbs,hb,hex]
theorem XnQ:∀(vs:List Value) (k off:Nat) (arr:Array Value),off+k+vs.length<=arr.size->
 ((vs.zipIdx k).foldl (fun(cs:Array Value) (p:Value×Nat)=>cs.setIfInBounds (off+p.2) p.1) arr).toList=arr.toList.take (off+k)++(vs++arr.toList.drop (off+k+vs.length))
 | [],k,off,arr,_=>by simp
 | v::vs,k,off,arr,h=>by
   simp only[Yad]at h;rw[List.zipIdx_cons,Ybr,XnQ vs (k+1) off _ (by simp;omega)];simp only[YcB,Yad];have hlt:off+k<arr.toList.length:=by simpa using (by omega:off+k<arr.size)
   apply Ydm;intro i;simp only[List.getElem?_append,YaE,List.getElem?_set,Yal,YaX,Ybz,List.getElem?_cons,Yad];by_cases h1:i<off+k
   . have:i<min (off+(k+1)) arr.toList.length:=by omega
     have h2:i<min (off+k) arr.toList.length:=by omega
     rw[Yah this,Yah h2,Yah (by omega),Yah h1,Yae (by omega)]
   . by_cases h2:i=off+k
     . subst h2;have:off+k<min (off+(k+1)) arr.toList.length:=by omega
       have h3:¬off+k<min (off+k) arr.toList.length:=by omega
       rw[Yah this,Yae h3,Yah (by omega)];have:off+k - min (off+k) arr.toList.length=0:=by omega
       rw[this];simp;omega
     . have h3:¬i<min (off+(k+1)) arr.toList.length:=by omega
       have h4:¬i<min (off+k) arr.toList.length:=by omega
       rw[Yae h3,Yae h4];have e1:min (off+(k+1)) arr.toList.length=off+k+1:=by omega
       have e2:min (off+k) arr.toList.length=off+k:=by omega
       rw[e1,e2];clear h3 h4 e1 e2;have h6:off+k<i:=by omega
       by_cases h5:i - (off+k+1)<vs.length
       . have h7:i - (off+k)<vs.length+1:=by omega
         have h8:¬i - (off+k)=0:=by omega
         rw[Yah h5,Yah h7,Yae h8];rw[show i - (off+k) - 1=i - (off+k+1) by omega]
       . have h7:¬i - (off+k)<vs.length+1:=by omega
         have h9:off+(k+1)+vs.length+(i - (off+k+1) - vs.length)=off+k+(vs.length+1)+(i - (off+k) - (vs.length+1)):=by omega
         rw[Yae h5,Yae h7,h9,Yae (by omega)]
theorem Xiz{place place':Nat->Option (Nat×Nat)}{rows:List (Nat×X0L)}:∀{parts:List (Nat×Value)} {ps:List (Nat×List X02)} {arr:Array Value} {cs cs':List X02},
 X27 (fun(p:Nat×Value) (q:Nat×List X02)=>p.1=q.1/\X27 (RdT σ rows M) p.2.cells.toList q.2) parts ps->X27 (RdT σ rows M) arr.toList cs->
 (∀i off sz,place i=some (off,sz)->place' i=some (off,sz))->Xko place cs ps=some cs'->
 ∃arr',Instr.fill place' arr parts=some arr'/\X27 (RdT σ rows M) arr'.toList cs'
 | _,_,arr,cs,cs',.nil,h,_,hf=>by simp only[Xko,Yag]at hf;subst hf;exact⟨arr,rfl,h⟩
 | _,_,arr,cs,cs',.cons (a:=p) (b:=q) (as:=ps) (bs:=qs) hp hr,h,hpl,hf=>by
   obtain⟨i,v⟩:=p;obtain⟨j,ds⟩:=q;obtain⟨rfl,hv⟩:=hp;simp only[Xko]at hf;cases hx:place i with
   | none=>rw[hx]at hf;cases hf
   | some os=>
     obtain⟨off,sz⟩:=os;rw[hx]at hf;simp only at hf;split at hf
     . rename_i hc;have hlen:=hv.length;have hcl:=h.length;rw[Yaq]at hlen hcl;have hset:=XnQ v.cells.toList 0 off arr (by rw[Ya6,Yaq,hlen,hcl];exact hc.2);simp only[Ya6,Yaq,hlen]at hset;have h2:=(h.take off).append (hv.append (h.drop (off+ds.length)));rw[<-hset]at h2;obtain⟨arr',ha,hr'⟩:=Xiz (place':=place') hr h2 hpl hf;refine⟨arr',?_,hr'⟩;unfold Instr.fill;rw[hpl i off sz hx];simp only;rw[Yae (by simp[hlen,hc.1,hcl];omega)];rw[<-ha]
       congr 1
       rw[<-Array.foldl_toList,Array.toList_zipIdx]
     . cases hf
theorem XiG(hT:X1E P tab):∀(fs:List Field),(∀f∈fs,(look f.type tab).isSome=true)->
 ∃places,fs.mapM (λf=>(P.info? f.type).map λi=>(f.offset,i.size))=some places/\∀(i off tf:Nat) (tif:TI),(fs.map (λf=>(f.offset,f.type)))[i]?=some (off,tf)->look tf tab=some tif->places[i]?=some (off,size tif.ty)
 | [],_=>⟨[],by simp,λi off tf tif h=>by simp at h⟩
 | f::fs,h=>by
   obtain⟨places,hp,hq⟩:=XiG hT fs λg hg=>h g (Yan _ hg);obtain⟨tif,htif⟩:=Yao.1 (h f (by simp));obtain⟨i,z,hi,hs,_⟩:=(hT f.type tif htif).info;refine⟨(f.offset,i.size)::places,by simp[Ycy,hi,hp],?_⟩;intro j off tf tif' hj htf;cases j with
   | zero=>
     simp at hj;obtain⟨rfl,rfl⟩:=hj;rw[htif]at htf;cases htf;simp[hs]
   | succ j=>simp only[Yas,Ycb]at hj ⊢;exact hq j off tf tif' hj htf
theorem Xup(hT:X1E P tab)(hS:Sim P base M0 ios σ M w a st){t:TypeId}{ti:TI}{parts:Array (Nat×Operand)}{ps:List (Nat×List X02)}{cs:List X02}(ho:o.op=.build t parts)(hd:∀d,o.dst=some d->d<st.nt)(h:look t tab=some ti)(hg:ti.agg=true)(hp:X27 (fun(p:Nat×Value) (q:Nat×List X02)=>p.1=q.1/\X27 (RdT σ st.rows M) p.2.cells.toList q.2) (parts.toList.map λp=>(p.1,a.eval p.2)) ps)(hf:Xko (λi=>(ti.fields[i]?).bind λf=>(look f.2 tab).bind λtf=>some (f.1,size tf.ty)) (Xml ti.ty) ps=some cs)(hn:X7O P base M0 ios a o st {sv:=.val true cs} next):o.wp P a w next Q:=by
 obtain⟨fs,hu,hfs,hall⟩:=Xh2 hT h hg;obtain⟨i,z,hi,_,_,hz,hzc⟩:=(hT t ti h).info;obtain⟨places,hpl,hpq⟩:=XiG hT fs.toList (λf hf'=>by
  have:=hall (f.offset,f.type) (by rw[<-hfs];exact YaN.2 ⟨f,hf',rfl⟩);exact this)
 obtain⟨arr',ha,hr⟩:=Xiz (σ:=σ) (M:=M) (place':=(places.toArray[·]?)) hp (arr:=z.cells) (by rw[hzc];exact Xf3 _ _) (λj off sz hj=>by
  cases hx:ti.fields[j]? with
  | none=>simp[hx]at hj
  | some p=>
    obtain⟨o1,t1⟩:=p;simp only[hx,Ycm]at hj;cases hy:look t1 tab with
    | none=>simp[hy]at hj
    | some tf=>
      simp only[hy,Ycm,Yag,Yaa]at hj;obtain⟨rfl,rfl⟩:=hj;have:=hpq j o1 t1 tf (by rw[hfs];exact hx) hy;simpa using this) hf
 have hb:P.built t (parts.toList.map λp=>(p.1,a.eval p.2))=some arr':=by
  unfold Program.built;rw[hi,hu];simp only[hz,hpl];exact ha
 have hrun:=run_build (P:=P) w t (parts.map λp=>(p.1,a.eval p.2)) arr' (by rw[<-hb];simp);refine X1a (v:=.agg arr') (w':=w) ?_ (hn _ σ M w (hS.putO hd ⟨hr,rfl⟩));simp only[execOp,ho];simp[hrun]
theorem Xkk{rows:List (Nat×X0L)}{τ:Ty}:∀{n:Nat} {vs:List Value} {cs rest:List X02} {l:List (El τ)},X27 (RdT σ rows M) vs cs->XbX τ n cs=some (l,rest)->
 ∃css vr,vs=css.flatten++vr/\X27 (RdC M τ) css l/\X27 (RdT σ rows M) vr rest/\l.length=n
 | 0,vs,cs,rest,l,h,e=>by
   simp only[XbX,Yag,Yaa]at e;obtain⟨rfl,rfl⟩:=e;exact⟨[],vs,rfl,.nil,h,rfl⟩
 | n+1,vs,cs,rest,l,h,e=>by
   simp only[XbX,Ybi,Yag,Yaa]at e;obtain⟨⟨x,r1⟩,e1,⟨xs,r2⟩,e2,e3,e4⟩:=e;obtain⟨c1,c2,hv,hx,hr⟩:=Xgn τ vs cs x r1 (h.imp λ_ _ h=>h.1) e1;have hdrop:∀(t:Ty) (cs:List X02) (x:El t) (rest:List X02),X2x t cs=some (x,rest)->rest=cs.drop (size t):=by
    intro t
    induction t with
    | int k=>intro cs x rest e;cases cs with
      | nil=>simp[X2x]at e
      | cons c r=>cases c<;>simp[X2x]at e;simp[size,e]
    | bool=>intro cs x rest e;cases cs with
      | nil=>simp[X2x]at e
      | cons c r=>cases c<;>simp[X2x]at e;simp[size,e]
    | str=>intro cs x rest e;cases cs with
      | nil=>simp[X2x]at e
      | cons c r=>cases c<;>simp[X2x]at e;simp[size,e]
    | list t _=>intro cs x rest e;cases cs with
      | nil=>simp[X2x]at e
      | cons c r=>cases c<;>simp[X2x]at e;simp[size,e.2]
    | unit=>intro cs x rest e;simp only[X2x,Yag,Yaa]at e;simp[size,e.2]
    | pair t1 t2 ih1 ih2=>
      intro cs x rest e;simp only[X2x,Ybi,Yag,Yaa]at e;obtain⟨⟨xa,ra⟩,ea,⟨xb,rb⟩,eb,_,er⟩:=e;have h1:=ih1 _ _ _ ea;have h2:=ih2 _ _ _ eb;simp only at er h2;subst er;subst h1;rw[h2,YaH];rfl
   have h1:=hdrop τ cs x r1 e1;have hlen:c1.length=size τ:=RdC.length τ _ _ hx;have hd:=h.drop (size τ);rw[<-h1,hv,<-hlen,Ya4]at hd;obtain⟨css,vr,f1,f2,f3,f4⟩:=Xkk (n:=n) hd e2;simp only at e4 e3;subst e4;subst e3;exact⟨c1::css,vr,by rw[hv,f1];simp,.cons hx f2,f3,by simp[f4]⟩
def Mem.row(M:Mem)(w:World)(g n:Nat):Mem:=λad=>match M ad with
 | some v=>some v
 | none=>if ad.block=g/\ad.spot=none/\ad.off<n then w.cell? ad else none
theorem Mem.le_row(M:Mem)(w:World)(g n:Nat):M.le (M.row w g n):=λad v h=>by simp[Mem.row,h]
theorem Mem.row_in{w:World}{g n:Nat}(h:∀ad v,M ad=some v->w.cell? ad=some v):∀ad v,M.row w g n ad=some v->w.cell? ad=some v:=by
 intro ad v hv;unfold Mem.row at hv;split at hv
 . rename_i u hu;cases hv;exact h ad _ hu
 . split at hv
   . exact hv
   . cases hv
theorem Mem.row_none{w:World}{g n:Nat}{ad:Addr}(h:M ad=none)(hb:ad.block≠g\/n<=ad.off):M.row w g n ad=none:=by
 unfold Mem.row;rw[h];simp only;rw[Yae];rintro⟨h1,_,h3⟩;rcases hb with hb | hb
 . exact hb h1
 . omega
theorem Mem.row_at{w:World}{g n j:Nat}(hMw:∀ad v,M ad=some v->w.cell? ad=some v)(hj:j<n){u:Value}(hu:w.cell? ⟨g,j,none⟩=some u):M.row w g n ⟨g,j,none⟩=some u:=by
 unfold Mem.row;split
 . rename_i v hv;rw[<-hu];exact(hMw _ _ hv).symm
 . rw[Yah ⟨rfl,rfl,hj⟩];exact hu
theorem X37(b o l c:Nat)(s:Option Nat):Value.ownBlock (.slice (some ⟨b,o,s⟩) l c)=some b:=rfl
theorem Sim.ownRow(h:Sim P base M0 ios σ M w a st){r n:Nat}{e:TypeId}{τ:Ty}{i:TypeInfo}{v:Value}{xs:List Value}{css:List (List Value)}{l:List (El τ)}(hr0:r≠0)(hpos:0<size τ)(hn:noTag r st=true)(hod:r % 2=1)(hh:∀r',X1G r' st.rows->∀g,v.ownBlock=some g->g∉σ.foot r')(hi:P.info? e=some i)(hs:i.size=size τ)(hown:X74 w (Xrd base ios) i.size v n xs)(hc:css.flatten=xs)(hl:X27 (RdC M τ) css l)(hfree:∀g,v.ownBlock=some g->∀ad,ad.block=g->Xo7 v+n*i.size<=ad.off->M ad=none)(hb:∀k,(st.box k).isSome=true->v.ownBlock≠some (σ.box k))(hr:∀r',(st.row r').isSome=true->(σ.row r').ownBlock=none\/(σ.row r').ownBlock≠v.ownBlock):
 ∃M',M.le M'/\Sim P base M0 ios {σ with row:=λk=>if k=r then v else σ.row k} M' w a {st with rows:=(r,.cold e)::st.rows}/\
  X44 {σ with row:=λk=>if k=r then v else σ.row k} ((r,.cold e)::st.rows) st.boxes M' v (.val false [.lst τ l (some r)]):=by
 have hlen:l.length=n:=by
  have h1:=X27.flatLen hl;rw[hc,hown.1,hs]at h1;exact(Nat.eq_of_mul_eq_mul_right hpos h1).symm
 rcases hown.2 with⟨rfl,hn0⟩ | ⟨g,o,cap,cur,E,rfl,hbg,hg,hnc,hcm,hcs,htake⟩
 ·
  have hl0:l=[]:=Ybt (by rw[hlen];exact hn0);subst hl0;refine⟨M,Mem.le_refl M,h.newRow hn hod ⟨n,xs,i,hi,hown,hfree⟩ hb hr hh,X0Y.mk1 ⟨RdC.nilSlice M τ,?_⟩ rfl⟩;simp only[Xc8,Yae hr0];intro _;simp
 . have hb':∀k,(st.box k).isSome=true->σ.box k≠g:=λk hk e=>hb k hk (by rw[X37,e]);have hM:Sim P base M0 ios σ (M.row w g (o+n*i.size)) w a st:=by
    refine h.moreMem (Mem.le_row _ _ _ _) (Mem.row_in h.mem) (λk hk ad had=>?_) (λad had hk hk2=>?_) (λr' e' he' n' xs' i' hi' ho' hm' g' hg' ad had hoff=>?_) (λr' hr' g' hg' ad had=>?_)
    . exact Mem.row_none (h.boxM k hk ad had) (.inl (by rw[had];exact hb' k hk))
    . exact Mem.row_none (h.old ad had hk hk2) (.inl λe2=>by
       rcases hbg with h0 | h0
       . omega
       . exact hk (by rw[e2];exact h0))
    . refine Mem.row_none (hm' g' hg' ad had hoff) (.inl ?_);intro e2;rcases hr r' (by rw[he'];rfl) with h0 | h0
      . rw[hg']at h0;cases h0
      . exact h0 (by rw[hg',X37];congr 1;omega)
    . exact Mem.row_none (h.hot.noM r' hr' g' hg' ad had) (.inl λe2=>hh r' hr' g (by rw[X37]) (by rw[<-e2,had];exact hg'))
   refine⟨M.row w g (o+n*i.size),Mem.le_row _ _ _ _,hM.newRow hn hod ⟨n,xs,i,hi,hown,?_⟩ hb hr hh,X0Y.mk1 ⟨?_,?_⟩ rfl⟩
   . intro g' hg' ad had hoff;rw[X37]at hg';cases hg';exact Mem.row_none (hfree g rfl ad had hoff) (.inr hoff)
   . show RdC _ (.list τ) [_] l;rw[<-hlen];refine RdC.ofCells (hl.imp λc x hx=>hx.mono (Mem.le_row _ _ _ _)) (by omega) hcm ?_;intro j u hu;rw[add_lit];have hjl:j<xs.length:=by rw[<-hc];exact(Ya3.1 hu).1
     refine Mem.row_at h.mem (by rw[hlen]at*;rw[hown.1]at hjl;omega) ?_;have:=hown.cells (g:=g) rfl j u (by rw[<-hc];exact hu);rw[add_lit]at this;exact this
   . simp only[Xc8,Yae hr0];intro _;simp
theorem Xc3(zs:List Value)(h:0<zs.length):∀n,(List.range (n*zs.length)).map (λi=>zs[i % zs.length]!)=(List.replicate n zs).flatten
 | 0=>by simp
 | n+1=>by
   rw[Ya0,Nat.one_mul,Nat.add_comm,List.range_add,Ya8,Ybx,Ybs,Ydr,<-Xc3 zs h n]
   congr 1
   . apply List.ext_getElem
     . simp
     . intro i h1 h2;simp at h1;simp[Ycl h1,h1]
   . apply YbE;intro i _;simp[Nat.add_mod_left]
theorem Xh0{rows:List (Nat×X0L)}(τ:Ty):∀n,X27 (RdT σ rows M) (List.replicate n (zeros τ)).flatten (XkQ τ n)
 | 0=>by simp;exact .nil
 | n+1=>by rw[Ybx,Ybs];exact(Xf3 rows τ).append (Xh0 τ n)
theorem X1q:∀t:Ty,(zeros t).length=size t
 | .int _=>rfl
 | .bool=>rfl
 | .str=>rfl
 | .list _=>rfl
 | .unit=>rfl
 | .pair a b=>by simp[zeros,size,X1q a,X1q b]
theorem XbI(e:Eff)(d:Nat)(st:St):e.apply (some d) st={nt:=st.nt,slots:=(d,e.sv)::st.slots,boxes:=(match e.sbox with
 | some p=>p::(match e.nbox with | some cs=>(d+1,cs)::st.boxes | none=>st.boxes)
 | none=>match e.nbox with | some cs=>(d+1,cs)::st.boxes | none=>st.boxes),rows:=e.nrow++X0A e.urow e.krow st.rows,olds:=st.olds.filter (λj=>!(j==d))}:=by
 unfold Eff.apply;rw[X5J];cases e.sbox<;>cases e.nbox<;>rfl
theorem XdC(d i:Nat):X0J d i % 2=1:=by unfold X0J;omega
theorem Xtm(d i:Nat):XkF d i % 2=1:=by unfold XkF;omega
theorem XnM(d i:Nat):X0J d i≠0:=by unfold X0J;omega
theorem XlI(hT:X1E P tab)(hS:Sim P base M0 ios σ M w a st){t e:TypeId}{te:TI}{τ:Ty}{fs:List (Nat×TypeId)}{b n d:Nat}{parts:Array (Nat×Operand)}{ps:List (Nat×List X02)}{cs:List X02}{l:List (El τ)}(ho:o.op=.buildSlice t n parts)(hd:o.dst=some d)(hdn:d<st.nt)(h:look t tab=some ⟨.list τ,false,fs,e,b⟩)(he:look e tab=some te)(hte:te.ty=τ)(hpos:0<size τ)(hlim:n*size τ<=16777216)(hp:X27 (fun(p:Nat×Value) (q:Nat×List X02)=>p.1=q.1/\X27 (RdT σ st.rows M) p.2.cells.toList q.2) (parts.toList.map λp=>(p.1,a.eval p.2)) ps)(hf:Xko (λi=>some (i*size τ,size τ)) (XkQ τ n) ps=some cs)(hu:XbX τ n cs=some (l,[]))(hfr:noTag (X0J d 0) st=true)(hn:X7O P base M0 ios a o st {sv:=.val false [.lst τ l (some (X0J d 0))],nrow:=[(X0J d 0,.cold e)]} next):o.wp P a w next Q:=by
 obtain⟨i,z,hi,hs,_,hz,hzc⟩:=(hT e te he).info;rw[hte]at hs hzc;have hzl:z.cells.size=size τ:=by rw[<-Yaq,hzc,X1q]
 let arr0:Array Value:=(Array.range (n*size τ)).map (λj=>z.cells[j % z.cells.size]!)
 have harr0:arr0.toList=(List.replicate n (zeros τ)).flatten:=by
  have h1:=Xc3 (zeros τ) (by rw[X1q];exact hpos) n;rw[X1q]at h1;rw[<-h1];show((Array.range (n*size τ)).map (λj=>z.cells[j % z.cells.size]!)).toList=_;rw[Yb5,YcI];apply YbE;intro j _;rw[hzl,<-hzc];simp only[getElem!_def,YbJ]
 obtain⟨arr',ha,hr⟩:=Xiz (σ:=σ) (M:=M) (rows:=st.rows) (place':=λi=>some (i*size τ,size τ)) hp (arr:=arr0) (by rw[harr0];exact Xh0 τ n) (λ_ _ _ h=>h) hf;obtain⟨css,vr,hv,hl,hvr,hln⟩:=Xkk hr hu;have hvr0:vr=[]:=by cases hvr;rfl
 subst hvr0;simp only[Ybd]at hv;have hsz:arr'.size=n*size τ:=by rw[<-Yaq,hv,X27.flatLen hl,hln]
 have hrun:(execOp a.eval o).run P w=.ok (.value (.slice (some ⟨w.heap.size,0,none⟩) n n)) (w.alloc (.cells arr' e)):=by
  have hue:=X5t hT h;have hzv:(zeroValue e).run P w=.ok z w:=by simp[zeroValue,typeInfo,hi,hz]
  have hso:(sizeOf e).run P w=.ok (size τ) w:=by simp[sizeOf,typeInfo,hi,hs]
  by_cases hn0:n=0
  . subst hn0;have he0:arr0=#[]:=by apply Yb4;simp[harr0]
    rw[he0]at ha;simp only[execOp,ho,Instr.buildSlice];simp[run_underlying hue,hso,newRow,newObj,Sem.run];rw[show(Array.map (λx=>(default:Value)) (Array.range 0))=#[] by apply Yb4;simp,ha];simp[Sem.run]
  . have hne:¬n*size τ=0:=by
     rw[Nat.mul_eq_zero];omega
    have hne':¬(n=0\/size τ=0):=by omega
    simp only[execOp,ho,Instr.buildSlice];simp[run_underlying hue,hso,newRow,newObj,Sem.run,show ¬16777216<n*size τ by omega,hne',hzv,show(Array.map (λx=>z.cells[x % z.cells.size]!) (Array.range (n*size τ)))=arr0 from rfl,ha];intro h0;exact absurd h0 hne
 refine X1a hrun ?_;have hg:w.grownBy (w.alloc (.cells arr' e)) none:=World.grownBy_alloc w _ none;have hS1:=hS.grown hg (λad v hv=>by rw[XdY (hS.mem_lt hv)];exact hS.mem ad v hv) (λk _ e=>by cases e) (λr _=>by cases (σ.row r).ownBlock<;>simp) (λk e=>by cases e) (λr hr g e=>by cases e);have hnl:n<=maxLen:=by
  have h1:n<=n*size τ:=Nat.le_mul_of_pos_right n hpos;simp only[maxLen];omega
 have hown:X74 (w.alloc (.cells arr' e)) (Xrd base ios) i.size (.slice (some ⟨w.heap.size,0,none⟩) n n) n css.flatten:=
  ⟨by rw[X27.flatLen hl,hln,hs],.inr ⟨w.heap.size,0,n,arr',e,rfl,.inl hS.fr.size,heap_alloc_new w _,YaC _,hnl,by rw[hsz,hs];omega,by rw[YbK,hs,<-hsz,<-hv,<-Yaq,Yat]⟩⟩
 obtain⟨M',hle,hS2,hrep⟩:=hS1.ownRow (r:=X0J d 0) (τ:=τ) (css:=css) (l:=l) (XnM d 0) hpos hfr (XdC d 0) (λr' hr' g hg hgf=>by rw[X37]at hg;have h2:=Ybv hg;have:=hS.hot.lt r' hr' g hgf;omega) hi hs hown rfl hl
  (fun g hg ad had hoff=>by
    rw[X37]at hg;have h2:=Ybv hg;cases hM:M ad with
    | none=>rfl
    | some v=>have:=hS.mem_lt hM;omega)
  (λk hk e=>by rw[X37]at e;have h2:=Ybv e;have:=hS.box_lt hk;omega)
  (fun r' hr'=>by
    rw[X37];cases hb:(σ.row r').ownBlock with
    | none=>exact .inl rfl
    | some g=>right;intro e;have h2:=Ybv e;have:=(hS.row_lt hr' hb).2;omega)
 have hfin:=hS2.put (d:=d) hdn hrep;unfold X7O at hn;rw[hd]at hn ⊢;refine hn _ {σ with row:=λk=>if k=X0J d 0 then .slice (some ⟨w.heap.size,0,none⟩) n n else σ.row k} M' _ ?_;rw[XbI];simp only[X8R];exact hfin
theorem Xq6{r r':Nat}(h:(({st with rows:=X0A [] [r] st.rows}:St).row r').isSome=true):r'≠r/\(st.row r').isSome=true:=by
 simp only[St.row,X8M,Xc0]at h;by_cases e:r'=r
 . subst e;simp[X51]at h
 . have:X51 r' [r]=true:=by simp[X51];exact λe2=>e e2.symm
   rw[Yah this]at h;exact⟨e,h⟩
theorem Xma{r r':Nat}(h:X1G r' (X0A [] [r] st.rows)):r'≠r/\X1G r' st.rows:=by
 obtain⟨e,t,l,ver,hole,z,hl⟩:=h;rw[Xc0]at hl;by_cases e2:r'=r
 . subst e2;simp[X51]at hl
 . have:X51 r' [r]=true:=by simp[X51];exact λe3=>e2 e3.symm
   rw[Yah this]at hl;exact⟨e2,e,t,l,ver,hole,z,hl⟩
structure Xys (base:World) (ios:Ios) (σ:Sg) (M:Mem) (w:World) (st:St) (r s:Nat) {τ:Ty} (v:Value) (l:List (El τ)) (css:List (List Value)):Prop where
 sl:∃ad cap,v=.slice ad l.length cap/\l.length<=cap
 cs:X27 (RdC M τ) css l
 own:X74 w (Xrd base ios) s v l.length css.flatten
 free:∀g,v.ownBlock=some g->∀ad,ad.block=g->Xo7 v+l.length*s<=ad.off->M ad=none
 bx:∀k,(st.box k).isSome=true->v.ownBlock≠some (σ.box k)
 rx:∀r',(st.row r').isSome=true->r'≠r->(σ.row r').ownBlock=none\/(σ.row r').ownBlock≠v.ownBlock
 hx:∀r',X1G r' st.rows->∀g,v.ownBlock=some g->g∉σ.foot r'
theorem XgO(hT:X1E P tab)(hS:Sim P base M0 ios σ M w a st){t e:TypeId}{te:TI}{τ:Ty}{fs:List (Nat×TypeId)}{b d r:Nat}{x y:Operand}{l l':List (El τ)}{tag:Option Nat}{i:TypeInfo}{z:Value}{cssx:List (List Value)}(ho:o.op=.call {callee:=.builtin .append,args:=#[x,y],argTypes:=#[t,t]})(hd:o.dst=some d)(hdn:d<st.nt)(h:look t tab=some ⟨.list τ,false,fs,e,b⟩)(hpos:0<size τ)(hi:P.info? e=some i)(hs:i.size=size τ)(hib:i.bytes=te.bytes)(hz:i.zero=some z)(hzl:z.cells.size=i.size)(hx:Xys base ios σ M w st r i.size (a.eval x) l cssx)(hy:X44 σ st.rows st.boxes M (a.eval y) (.val false [.lst τ l' tag]))(hlen:l.length+l'.length<=9223372036854775807)(hby:(l.length+l'.length)*te.bytes<=140737488355328)(hfr:noTag (X0J d 0) st=true)(hn:X7O P base M0 ios a o st {sv:=.val false [.lst τ (l++l') (some (X0J d 0))],nrow:=[(X0J d 0,.cold e)],krow:=[r]} next):o.wp P a w next Q:=by
 have hue:=X5t hT h;have hyr:=(X0Y.one hy)
 obtain⟨ady,capy,cssy,ey,hly,hmy,hcy,hay⟩:=RdC.cells hyr.1;obtain⟨⟨adx,capx,ex,hlx⟩,hcx,hown,hfree,hbx,hrx,hhx⟩:=hx;have hrun:∃v' w',(Builtin.append_ #[t,t] o.type #[a.eval x,a.eval y]).run P w=.ok v' w'/\X74 w' (Xrd base ios) i.size v' (l.length+l'.length) (cssx.flatten++cssy.flatten)/\w.grownBy w' (a.eval x).ownBlock/\
  (∀ad u,w.cell? ad=some u->((a.eval x).ownBlock=some ad.block->ad.off<Xo7 (a.eval x)+l.length*i.size)->w'.cell? ad=some u)/\
  ((v'.ownBlock=(a.eval x).ownBlock/\Xo7 v'=Xo7 (a.eval x))\/∃g,v'.ownBlock=some g/\w.heap.size<=g):=by
  rcases hay with hl' | ⟨ad,had,hay⟩
  . subst hl';cases hcy;refine⟨a.eval x,w,?_,by simpa using hown,⟨rfl,rfl,rfl,YaC _,λ_ _ _=>rfl⟩,λad u hu _=>hu,.inl ⟨rfl,rfl⟩⟩;rw[ex,ey];exact XbW t o.type e i hue hi adx l.length capx capy hlx ady
  . rw[ey,had];exact XjQ (Xrd base ios) t o.type e i z hue hi hz hzl (by rw[hs];exact hpos) (a.eval x) l.length cssx.flatten hown ad l'.length capy cssy.flatten (by rw[X27.flatLen hcy,hs])
     (λj u hu=>hS.mem _ _ (hay j u hu)) (X27.flatOne hcy) (by simp only[maxLen];omega) (by rw[hib];exact hby) (λg hg=>.inl (YaW hS.fr.size hg))
 obtain⟨v',w',hrun,hown',hgr,hkeep,hblk⟩:=hrun;refine X1a (v:=v') (w':=w') ?_ ?_
 . simp only[execOp,ho,resolve];simp[invoke,builtin,hrun]
 have hMk:∀ad v,M ad=some v->w'.cell? ad=some v:=λad v hv=>hkeep ad v (hS.mem ad v hv) (λhb=>by
  apply Nat.lt_of_not_le;intro hle;have:=hfree _ hb ad rfl hle;rw[this]at hv;cases hv)
 have hbase:∀k,(a.eval x).ownBlock=some k->Xrd base ios k:=λk hk=>(hown.lt k hk).1;have hS0:=hS.kill [r];have hS1:=hS0.grown hgr hMk (λk hk=>hbx k hk) (λr' hr'=>by
  have hr2:r'≠r/\(st.row r').isSome=true:=Xq6 hr';exact hrx r' hr2.2 hr2.1) hbase (λr' hr' g hg=>hhx r' (Xma hr').2 g hg)
 have hfr':noTag (X0J d 0) {st with rows:=X0A [] [r] st.rows}=true:=by
  unfold noTag at hfr ⊢;rw[Yac,Yac]at hfr ⊢;refine⟨hfr.1,?_⟩;have:=hfr.2;simp only[Xc0];split
  . exact this
  . rfl
 have hcat:X27 (RdC M τ) (cssx++cssy) (l++l'):=hcx.append hcy;obtain⟨M',hle,hS2,hrep⟩:=hS1.ownRow (r:=X0J d 0) (τ:=τ) (css:=cssx++cssy) (l:=l++l') (XnM d 0) hpos hfr' (XdC d 0) (λr' hr' g hg=>by
  rcases hblk with⟨hb,ho⟩ | ⟨g',hg',hge⟩
  . rw[hb]at hg;exact hhx r' (Xma hr').2 g hg
  . rw[hg']at hg;have h2:=Ybv hg;intro hgf;have:=hS.hot.lt r' (Xma hr').2 g hgf;omega) hi hs hown' (by rw[Yde]) hcat
  (fun g hg ad had hoff=>by
    rcases hblk with⟨hb,ho⟩ | ⟨g',hg',hge⟩
    . rw[hb]at hg;rw[ho]at hoff;have hmm:l.length*i.size<=(l.length+l'.length)*i.size:=YaY _ (by omega);exact hfree g hg ad had (by omega)
    . rw[hg']at hg;have h2:=Ybv hg;cases hM:M ad with
      | none=>rfl
      | some v=>have:=hS.mem_lt hM;omega)
  (fun k hk e=>by
    rcases hblk with⟨hb,ho⟩ | ⟨g',hg',hge⟩
    . rw[hb]at e;exact hbx k hk e
    . rw[hg']at e;have h2:=Ybv e;have:=hS.box_lt hk;omega)
  (fun r' hr'=>by
    have hr2:r'≠r/\(st.row r').isSome=true:=Xq6 hr';rcases hblk with⟨hb,ho⟩ | ⟨g',hg',hge⟩
    . rw[hb];exact hrx r' hr2.2 hr2.1
    . rw[hg'];cases hb:(σ.row r').ownBlock with
      | none=>exact .inl rfl
      | some g=>right;intro e;have h2:=Ybv e;have:=(hS.row_lt hr2.2 hb).2;omega)
 have hfin:=hS2.put (d:=d) hdn hrep;unfold X7O at hn;rw[hd]at hn ⊢;refine hn _ {σ with row:=λk=>if k=X0J d 0 then v' else σ.row k} M' _ ?_;rw[XbI];exact hfin
theorem Xso(hT:X1E P tab)(hS:Sim P base M0 ios σ M w a st){t u e ty:TypeId}{te:TI}{τ:Ty}{fs fs2:List (Nat×TypeId)}{b b2 d r:Nat}{x y:Operand}{l l':List (El τ)}{tag:Option Nat}(ho:o.op=.call {callee:=.builtin .append,args:=#[x,y],argTypes:=#[t,t]})(hd:o.dst=some d)(hdn:d<st.nt)(h:look t tab=some ⟨.list τ,false,fs,e,b⟩)(he:look e tab=some te)(hte:te.ty=τ)(hpos:0<size τ)(hx:X44 σ st.rows st.boxes M (a.eval x) (.val false [.lst τ l (some r)]))(hr:r=0\/st.row r=some e)(hy:X44 σ st.rows st.boxes M (a.eval y) (.val false [.lst τ l' tag]))(hlen:l.length+l'.length<=9223372036854775807)(hby:(l.length+l'.length)*te.bytes<=140737488355328)(hfr:noTag (X0J d 0) st=true)(hn:X7O P base M0 ios a o st {sv:=.val false [.lst τ (l++l') (some (X0J d 0))],nrow:=[(X0J d 0,.cold e)],krow:=[r]} next):o.wp P a w next Q:=by
 obtain⟨i,z,hi,hs,hib,hz,hzc⟩:=(hT e te he).info;rw[hte]at hs hzc;have hzl:z.cells.size=i.size:=by rw[<-Yaq,hzc,X1q,hs]
 have hue:=X5t hT h;have hxr:=(X0Y.one hx)
 have hyr:=(X0Y.one hy)
 obtain⟨adx,capx,cssx,ex,hlx,hmx,hcx,hax⟩:=RdC.cells hxr.1;obtain⟨ady,capy,cssy,ey,hly,hmy,hcy,hay⟩:=RdC.cells hyr.1;refine XgO (te:=te) (i:=i) (z:=z) (cssx:=cssx) hT hS ho hd hdn h hpos hi hs hib hz hzl ?_ hy hlen hby hfr hn;have hown:∃xs,X74 w (Xrd base ios) i.size (a.eval x) l.length xs/\cssx.flatten=xs/\(∀g,(a.eval x).ownBlock=some g->∀ad,ad.block=g->Xo7 (a.eval x)+l.length*i.size<=ad.off->M ad=none)/\
  (∀k,(st.box k).isSome=true->(a.eval x).ownBlock≠some (σ.box k))/\(∀r',(st.row r').isSome=true->r'≠r->(σ.row r').ownBlock=none\/(σ.row r').ownBlock≠(a.eval x).ownBlock)/\(∀r',X1G r' st.rows->∀g,(a.eval x).ownBlock=some g->g∉σ.foot r'):=by
  rcases Nat.eq_zero_or_pos r with h0 | h0
  . have hv:a.eval x=.slice none 0 0:=by have:=hxr.2;simp only[Xc8,Yah h0]at this;exact this
    have hl0:l.length=0:=by rw[hv]at ex;injection ex with _ e2 _;exact e2.symm
    have hl:l=[]:=Ybt hl0;subst hl;cases hcx;rw[hv];exact⟨[],X74.nil _ _ _,rfl,λg hg=>by simp[Value.ownBlock]at hg,λk _=>by simp[Value.ownBlock],λr' _ _=>(by show _\/_≠none;cases (σ.row r').ownBlock<;>simp),λr' _ g hg=>by simp[Value.ownBlock]at hg⟩
  . have hre:st.row r=some e:=by rcases hr with hr | hr;· omega
                                 . exact hr
    have hv:a.eval x=σ.row r:=by
     have:=hxr.2;simp only[Xc8,Yae (by omega:¬r=0)]at this;exact this (Xui (by rw[hre];rfl))
    obtain⟨n,xs,i',hi',ho',hm'⟩:=(hS.rows r e hre).own;rw[hi]at hi';cases hi';rw[<-hv]at ho' hm';have hn:n=l.length:=by
     rcases ho'.2 with⟨h1,h2⟩ | ⟨g,o',cap,cur,E,h1,_⟩
     . rw[h1]at ex;injection ex with _ e2 _;omega
     . rw[h1]at ex;injection ex with _ e2 _
    subst hn;refine⟨xs,ho',?_,hm',λk hk=>by rw[hv];exact hS.rowBox r k (by rw[hre];rfl) hk,λr' hr' hne=>?_,λr' hr' g hg=>by rw[hv]at hg;exact hS.hot.noRow r' hr' r (by rw[hre];rfl) g hg⟩
    ·
     rcases ho'.2 with⟨h1,h2⟩ | ⟨g,o',cap,cur,E,h1,_,hgg,_,_,_,htk⟩
     . have hl:l=[]:=Ybt h2;subst hl;cases hcx;have:xs=[]:=Ybt (by have:=ho'.1;simpa using this);simp[this]
     . have hfl:cssx.flatten.length=xs.length:=by rw[X27.flatLen hcx,ho'.1,hs]
       apply Ydm;intro j;by_cases hj:j<xs.length
       . have hu:cssx.flatten[j]?=some (cssx.flatten[j]'(by omega)):=Yax _;rcases hax with hl | ⟨ad,had,hax⟩
         . subst hl;cases hcx;simp at hfl;omega
         . have h2:=hS.mem _ _ (hax j _ hu);rw[h1]at ex;injection ex with e1 _ _;rw[had]at e1;cases e1;have h3:=ho'.cells (g:=g) (by rw[h1];rfl) j (xs[j]) (Yax hj);rw[show Xo7 (a.eval x)=o' by rw[h1];rfl]at h3;rw[h2]at h3;rw[hu,h3,Yax hj]
       . rw[Ycg (by omega),Ycg (by omega)]
    . rw[hv];exact hS.rowInj r' r hr' (by rw[hre];rfl) hne
 obtain⟨xs,hown,rfl,hfree,hbx,hrx,hhx⟩:=hown;exact⟨⟨adx,capx,ex,hlx⟩,hcx,hown,hfree,hbx,hrx,hhx⟩
theorem X74.ofCells{w:World}{B:Nat->Prop}{s g o n cap:Nat}{cur:Array Value}{E:TypeId}{xs:List Value}(hB:B g)(hg:w.heap[g]?=some (.cells cur E (0,0)))(h1:n<=cap)(h2:cap<=maxLen)(h3:o+cap*s<=cur.size)(hl:xs.length=n*s)(hc:∀j u,xs[j]?=some u->w.cell? ⟨g,o+j,none⟩=some u):X74 w B s (.slice (some ⟨g,o,none⟩) n cap) n xs:=by
 refine⟨hl,.inr ⟨g,o,cap,cur,E,rfl,hB,hg,h1,h2,h3,?_⟩⟩;have hn:n*s<=cap*s:=YaY _ h1;have ha:cur.toList.length=cur.size:=Yaq;apply Ydm;intro j;by_cases hj:j<xs.length
 . have h4:=hc j (xs[j]) (Yax hj);rw[cell_of_row w g (o+j) cur E (0,0) hg]at h4;rw[YaE,Yah (by omega),Ybz,Yax hj,<-h4];simp
 . have e2:xs[j]?=none:=Ycg (by omega);rw[e2];exact Ycg (by rw[Yal,Yap];omega)
theorem XkC(hT:X1E P tab)(hS:Sim P base M0 ios σ M w a st){t e:TypeId}{te:TI}{τ:Ty}{fs:List (Nat×TypeId)}{b d r lo hi ver:Nat}{x y:Operand}{L l':List (El τ)}{tag:Option Nat}(ho:o.op=.call {callee:=.builtin .append,args:=#[x,y],argTypes:=#[t,t]})(hd:o.dst=some d)(hdn:d<st.nt)(h:look t tab=some ⟨.list τ,false,fs,e,b⟩)(he:look e tab=some te)(hte:te.ty=τ)(hpos:0<size τ)(hr:look r st.rows=some (.frz e τ L ver true))(hx:Xkt τ (σ.row r) lo hi (a.eval x))(hlo:lo<L.length)(hhi:hi=L.length)(hy:X44 σ st.rows st.boxes M (a.eval y) (.val false [.lst τ l' tag]))(hlen:(L.drop lo).length+l'.length<=9223372036854775807)(hby:((L.drop lo).length+l'.length)*te.bytes<=140737488355328)(hfr:noTag (X0J d 0) st=true)(hn:X7O P base M0 ios a o st {sv:=.val false [.lst τ (L.drop lo++l') (some (X0J d 0))],nrow:=[(X0J d 0,.cold e)],krow:=[r]} next):o.wp P a w next Q:=by
 obtain⟨i,z,hi',hs,hib,hz,hzc⟩:=(hT e te he).info;rw[hte]at hs hzc;have hzl:z.cells.size=i.size:=by rw[<-Yaq,hzc,X1q,hs]
 have hre:st.row r=some e:=X9T hr rfl;obtain⟨hrd,_⟩:=hS.hot.frz r e τ L ver true hr;have hrx:=hx.rd hrd;subst hhi;rw[Yat]at hrx;obtain⟨n,xs,i2,hi2,hown,hfree⟩:=(hS.rows r e hre).own;rw[hi']at hi2;cases hi2;obtain⟨ad,cap,ev,hlc,hmc,_⟩:=hrd;have hv:σ.row r=.slice ad L.length cap:=YbX ev;obtain⟨ad2,n2,cap2,ad',hv2,k1,k2,k3,k4⟩:=hx;rw[hv]at hv2;injection hv2 with v1 v2 v3;subst v1 v2 v3;rcases hown.2 with⟨e1,_⟩ | ⟨g,o',cap',cur,E,e1,hB,hg,h1,h2,h3,h4⟩
 . rw[hv]at e1;injection e1 with _ e2 _;omega
 rw[hv]at e1;injection e1 with e2 e3 e4;subst e2 e3 e4;have ha':ad'=some ⟨g,o'+lo*size τ,none⟩:=by rw[k4 (by omega)];simp[Addr.add_lit]
 rw[ha']at k3;obtain⟨adx,capx,cssx,ex,hlx,hmx,hcx,hax⟩:=RdC.cells hrx;have hdl:(L.drop lo).length=L.length - lo:=Yap;have hmul:o'+lo*i.size+(L.length - lo)*i.size=o'+L.length*i.size:=by
  rw[Yca,<-Ya0];congr 2;omega
 have hmul2:o'+lo*i.size+(cap - lo)*i.size=o'+cap*i.size:=by
  rw[Yca,<-Ya0];congr 2;omega
 have hob:(a.eval x).ownBlock=(σ.row r).ownBlock:=by rw[k3,hv];rfl
 refine XgO (te:=te) (i:=i) (z:=z) (cssx:=cssx) (r:=r) hT hS ho hd hdn h hpos hi' hs hib hz hzl ⟨⟨_,cap - lo,by rw[k3,hdl],by rw[hdl];omega⟩,hcx,?_,?_,?_,?_,?_⟩ hy hlen hby hfr hn
 . rw[k3,hdl,<-hs];refine X74.ofCells hB hg (by omega) (by omega) (by rw[hmul2];exact h3) (by rw[X27.flatLen hcx,hdl,hs]) λj u hu=>?_;rcases hax with hl0 | ⟨ad3,had,hax⟩
   . rw[hl0]at hdl;simp at hdl;omega
   . rw[k3]at ex;injection ex with e5 _ _;rw[had]at e5;have e6:=Ybv e5;have:=hS.mem _ _ (hax j u hu);rw[<-e6,add_lit,<-hs]at this;exact this
 . intro g' hg' ad had hoff;rw[hob]at hg';refine hfree g' hg' ad had ?_;rw[k3,hdl]at hoff;rw[hv];simp only[Xo7]at hoff ⊢;rw[<-hs,hmul]at hoff;exact hoff
 . intro k hk;rw[hob];exact hS.rowBox r k (by rw[hre];rfl) hk
 . intro r' hr' hne;rw[hob];exact hS.rowInj r' r hr' (by rw[hre];rfl) hne
 . intro r' hr' g' hg';rw[hob]at hg';exact hS.hot.noRow r' hr' r (by rw[hre];rfl) g' hg'
section
def XhR(w:World):Mem:=λad=>w.cell? ad
theorem Sim.leAll(hS:Sim P base M0 ios σ M w a st):M.le (XhR w):=λad v h=>hS.mem ad v h
theorem Sim.hotAt(hS:Sim P base M0 ios σ M w a st){r:Nat}{e:TypeId}{t:Ty}{l:List (El t)}{ver:Nat}{hole:Option (Nat×Nat)}{z:Bool}(h:look r st.rows=some (.hot e t l ver hole z)):Xd3 P base σ w r e t l hole z:=hS.hot.ok r e t l ver hole z h
theorem Xd3.rd{r:Nat}{e:TypeId}{t:Ty}{l:List (El t)}{z:Bool}(h:Xd3 P base σ w r e t l none z):RdC (σ.mem r) (.list t) [σ.row r] l:=X4Q.rdTop h.own h.nodup λad u hb ht hu=>h.full rfl ad u hb ht hu
theorem Xd3.leAll{r:Nat}{e:TypeId}{t:Ty}{l:List (El t)}{hole:Option (Nat×Nat)}{z:Bool}(h:Xd3 P base σ w r e t l hole z):(σ.mem r).le (XhR w):=λad v hv=>(h.mem ad v hv).1
theorem Xd3.len{r:Nat}{e:TypeId}{t:Ty}{l:List (El t)}{hole:Option (Nat×Nat)}{z:Bool}(h:Xd3 P base σ w r e t l hole z):∃ad cap,σ.row r=.slice ad (List.length l) cap:=by
 have:=h.own;cases hole with
 | none=>obtain⟨ad,cap,h1,_⟩:=X4Q.slice this;exact⟨ad,cap,h1⟩
 | some p=>obtain⟨i,off⟩:=p;obtain⟨g,o,cap,arr,e,h1,_⟩:=this;exact⟨_,cap,h1⟩
theorem XpO(hS:Sim P base M0 ios σ M w a st){rows:List (Nat×X0L)}(hr:∀r rv,look r rows=some rv->look r st.rows=some rv){v:Value}{c c':X02}(h:RdT σ st.rows M v c)(hv:Xlq rows c=some c'):RdV (XhR w) v c':=by
 cases c with
 | int k n=>cases hv;exact h.1
 | bool b=>cases hv;exact h.1
 | str s=>cases hv;exact h.1
 | lst t l tag=>cases hv;exact RdC.mono hS.leAll (.list t) _ _ h.1
 | und=>cases hv
 | emp t=>
   cases hv;obtain⟨ad,rfl⟩:=h.2;exact⟨ad,0,rfl,by simp,by simp,λi hi=>by simp at hi⟩
 | own t r=>
   simp only[Xlq]at hv;split at hv
   . rename_i e t' l ver z hl;split at hv
     . rename_i ht;subst ht;cases hv;have hl':=hr r _ hl;have hok:=hS.hotAt hl';have:v=σ.row r:=h.2 (by rw[hl'];rfl);rw[this];exact RdC.mono hok.leAll (.list _) _ _ hok.rd
     . cases hv
   . cases hv
 | sub t r lo hi=>
   simp only[Xlq]at hv;split at hv
   . rename_i e t' l ver z hl;split at hv
     . rename_i ht;subst ht;cases hv;have hl':=hr r _ hl;have hok:=hS.hotAt hl';exact RdC.mono hok.leAll (.list _) _ _ ((show Xkt _ (σ.row r) lo hi v from h.2 (by rw[hl'];rfl)).rd hok.rd)
     . cases hv
   . cases hv
 | bor t l r ver p=>
   simp only[Xlq]at hv;split at hv
   . rename_i e t' l' ver' z hl;rw[YbU]at hv;split at hv
     . rename_i he;cases hv;have:ver'=ver:=by simpa using he
       subst this;have hl':=hr r _ hl;have hok:=hS.hotAt hl';exact RdC.mono hok.leAll (.list _) _ _ (h.2 _ hl' rfl).1
     . cases hv
   . cases hv
theorem Xd8(hS:Sim P base M0 ios σ M w a st){v:Value}{x:In}(hx:Xgt σ st M v x){τ:Ty}{l:List (El τ)}(h:listOf? x=some ⟨τ,l⟩):RdC (XhR w) (.list τ) [v] l/\Xb2 v=false:=by
 unfold listOf? at h;split at h
 . rename_i c hc;split at h
   . rename_i t l' tag hv;cases h;have hr:=hx.rep;rw[hc]at hr;exact⟨XpO hS hx.rows (X0Y.one hr) hv,hr.2⟩
   . cases h
 . cases h
open Classical in
noncomputable def XeS(w:World)(t:Ty)(v:Value)(bs:List Nat):Mem:=λad=>if ad.block∈bs/\Xql t v ad then w.cell? ad else none
theorem Xel{t:Ty}{v:Value}{bs:List Nat}{ad:Addr}{u:Value}(h:XeS w t v bs ad=some u):w.cell? ad=some u/\ad.block∈bs/\Xql t v ad:=by
 unfold XeS at h;split at h
 . rename_i hc;exact⟨h,hc⟩
 . cases h
theorem XgH{t:Ty}{v:Value}{bs:List Nat}{ad:Addr}(h1:ad.block∈bs)(h2:Xql t v ad):XeS w t v bs ad=w.cell? ad:=Yah ⟨h1,h2⟩
noncomputable def Sg.hot(σ:Sg)(w:World)(r:Nat)(t:Ty)(v:Value)(fo:List Nat):Sg:=
 {σ with row:=λk=>if k=r then v else σ.row k,foot:=λk=>if k=r then fo else σ.foot k,mem:=λk=>if k=r then XeS w t v fo else σ.mem k}
theorem XiV{r:Nat}{e:TypeId}{t:Ty}{l:List (El t)}{v:Value}{fo:List Nat}{z:Bool}(hi:∃i,P.info? e=some i/\i.size=size t)(hp:0<size t)(ho:X4Q w t v l fo)(hn:fo.Nodup)(hz:z=true->(∃n xs,w.ownsRow base.heap.size e (size t) v n xs)/\∀g,v.ownBlock=some g->g∈fo):Xd3 P base (σ.hot w r t v fo) w r e t l none z where
 info:=hi
 pos:=hp
 own:=by simp only[Sg.hot,Yah];exact ho
 nodup:=by simp only[Sg.hot,Yah];exact hn
 mem:=λad u hu=>by simp only[Sg.hot,Yah]at hu ⊢;exact Xel hu
 full:=λ_ ad u hb ht hu=>by simp only[Sg.hot,Yah]at hb ht ⊢;rw[XgH hb ht];exact hu
 z:=λh=>by simp only[Sg.hot,Yah];exact hz h
theorem XmA.fresh(h:Sim P base M0 ios σ M w a st){w':World}{g:Nat}(h1:w.heap.size<=g)(h2:g<w'.heap.size):XmA base ios σ M w' st g where
 base:=.inl (YaW h.fr.size h1)
 noM:=λad had=>by
  cases hm:M ad with
  | none=>rfl
  | some v=>have:=h.mem_lt hm;omega
 noBox:=λk hk e=>by have:=h.box_lt hk;omega
 noRow:=λr hr e=>by have:=(h.row_lt hr e).2;omega
 noHot:=λr hr hg=>by have:=h.hot.lt r hr g hg;omega
 lt:=h2
theorem X4y{upd:List (Nat×X0L)}{ks:List Nat}{rows:List (Nat×X0L)}{r:Nat}{rv:X0L}(h:look r (X0A upd ks rows)=some rv):r∉ks/\(look r upd=some rv\/(look r upd=none/\look r rows=some rv)):=by
 rw[Xc0]at h;split at h
 . rename_i hk;refine⟨X59.1 hk,?_⟩;cases hu:look r upd with
   | none=>rw[hu]at h;exact .inr ⟨rfl,h⟩
   | some x=>rw[hu]at h;exact .inl h
 . cases h
theorem XmA.ofKill(h:Sim P base M0 ios σ M w a st){w':World}(hsz:w.heap.size<=w'.heap.size){ks:List Nat}{r:Nat}{g:Nat}(hr:X1G r st.rows)(hk:r∈ks)(hg:g∈σ.foot r):XmA base ios σ M w' {st with rows:=X0A [] ks st.rows} g where
 base:=h.hot.base r hr g hg
 noM:=h.hot.noM r hr g hg
 noBox:=λk hk' e=>h.hot.noBox r hr k hk' (by rw[e];exact hg)
 noRow:=λr' hr' e=>by
  obtain⟨e',he'⟩:=Yao.1 hr';obtain⟨rv,h1,h2⟩:=X6w he';obtain⟨_,h3⟩:=X4y h1;rcases h3 with h3 | ⟨_,h3⟩
  . cases h3
  . exact h.hot.noRow r hr r' (by rw[show st.row r'=some e' from X9T h3 h2];rfl) g e hg
 noHot:=λr' ⟨e,t,l,ver,hole,z,hl⟩ hg'=>by
  obtain⟨h0,h1⟩:=X4y hl;rcases h1 with h1 | ⟨_,h1⟩
  . cases h1
  . exact h.hot.apart r r' hr ⟨e,t,l,ver,hole,z,h1⟩ (λe2=>h0 (by rw[<-e2];exact hk)) g hg hg'
 lt:=Ybe (h.hot.lt r hr g hg) hsz
theorem XmA.ofKillFresh(h:Sim P base M0 ios σ M w a st){w':World}{ks:List Nat}{g:Nat}(h1:w.heap.size<=g)(h2:g<w'.heap.size):XmA base ios σ M w' {st with rows:=X0A [] ks st.rows} g:=XmA.fresh (h.kill ks) h1 h2
theorem Xr4{r:Nat}{ks:List Nat}(h:noTag r st=true):noTag r {st with rows:=X0A [] ks st.rows}=true:=by
 have h0:=XdA h;unfold noTag at h ⊢;rw[Yac,Yac]at h ⊢;refine⟨h.1,?_⟩;simp only[Xc0]
 split<;>simp[h0,look]
theorem Xgz(hS:Sim P base M0 ios σ M w a st){w':World}{d:Nat}{ks:List Nat}{S:List Nat}{e:TypeId}{t:Ty}{l:List (El t)}{v:Value}{fo:List Nat}{z:Bool}(hd:o.dst=some d)(hdn:d<st.nt)(hsz:w.heap.size<=w'.heap.size)(hos:w'.os=w.os)(htp:w'.tape=w.tape)(hou:w'.output=w.output)(hkeep:∀k,k<w.heap.size->k∉S->w'.heap[k]?=w.heap[k]?)(hS':∀g∈S,∃r∈ks,X1G r st.rows/\g∈σ.foot r)(hfo:∀g∈fo,g<w'.heap.size/\(w.heap.size<=g\/∃r∈ks,X1G r st.rows/\g∈σ.foot r))(hi:∃i,P.info? e=some i/\i.size=size t)(hp:0<size t)(ho:X4Q w' t v l fo)(hn:fo.Nodup)(hz:z=true->(∃n xs,w'.ownsRow base.heap.size e (size t) v n xs)/\∀g,v.ownBlock=some g->g∈fo)(hfr:noTag (X0J d 0) st=true)(hgo:X7O P base M0 ios a o st {sv:=.val false [.own t (X0J d 0)],nrow:=[(X0J d 0,.hot e t l 0 none z)],krow:=ks} next):next (a.put o.dst v) w':=by
 have h1:Sim P base M0 ios σ M w' a {st with rows:=X0A [] ks st.rows}:=hS.step (upd:=[]) (S:=S) {sbox:=rfl,srow:=rfl,sfoot:=λ_ _=>⟨rfl,rfl⟩,size:=hsz,os:=hos,tape:=htp,output:=hou,keep:=hkeep,touched:=λg hg=>(by obtain⟨r,h1,h2,h3⟩:=hS' g hg;exact⟨r,h2,h3,.inl h1⟩),updOk:=λr rv hr=>(by cases hr),foot:=λr hr=>(by cases hr),apart:=λr r' hr=>(by cases hr)} rfl;have h2:=h1.newHot (r:=X0J d 0) (e:=e) (t:=t) (l:=l) (hole:=none) (z:=z) (v:=v) (fo:=fo) (m:=XeS w' t v fo) (Xr4 hfr) (XdC d 0) (λg hg=>by
  obtain⟨k1,k2⟩:=hfo g hg;rcases k2 with k2 | ⟨r,m1,m2,m3⟩
  . exact XmA.ofKillFresh hS k2 k1
  . exact XmA.ofKill hS hsz m2 m1 m3) (XiV (σ:=σ) hi hp ho hn hz)
 have h3:=h2.put (d:=d) (v:=v) (sv:=.val false [.own t (X0J d 0)]) hdn (X0Y.mk1 ⟨by
  obtain⟨ad,cap,e1,_⟩:=ho.slice;rw[e1];rfl,by intro _;simp⟩ (by obtain⟨ad,cap,e1,_⟩:=ho.slice;rw[e1];rfl))
 unfold X7O at hgo;rw[hd]at hgo ⊢;refine hgo v (σ.hot w' (X0J d 0) t v fo) M w' ?_;rw[XbI];exact h3
theorem Xit:∀t:Ty,zeros t=XiO t
 | .int _=>rfl
 | .bool=>rfl
 | .str=>rfl
 | .list _=>rfl
 | .unit=>rfl
 | .pair a b=>by simp[zeros,XiO,Xit a,Xit b]
theorem Xa6(zs:List Value):∀(n c:Nat),n<=c->((List.replicate c zs).flatten).take (n*zs.length)=(List.replicate n zs).flatten
 | 0,c,_=>by simp
 | n+1,0,h=>by omega
 | n+1,c+1,h=>by
   rw[Ybx,Ybs,Ybx,Ybs,Ya0,Nat.one_mul,Nat.add_comm (n*zs.length),Ydg,Xa6 zs n c (by omega)]
theorem Xnn(hT:X1E P tab)(hS:Sim P base M0 ios σ M w a st){t e:TypeId}{te:TI}{τ:Ty}{fs:List (Nat×TypeId)}{b d:Nat}{x y:Operand}{n m:Int}{kn km:IntKind}(ho:o.op=.makeSlice t x y)(hd:o.dst=some d)(hdn:d<st.nt)(h:look t tab=some ⟨.list τ,false,fs,e,b⟩)(he:look e tab=some te)(hte:te.ty=τ)(hpos:0<size τ)(hx:a.eval x=.int kn n)(hy:a.eval y=.int km m)(h0:0<=n)(h1:n<=m)(h63:m<=9223372036854775807)(hb:(te.bytes:Int)*m<=140737488355328)(hfr:noTag (X0J d 0) st=true)(hn:X7O P base M0 ios a o st {sv:=.val false [.own τ (X0J d 0)],nrow:=[(X0J d 0,.hot e τ (List.replicate n.toNat (dfl τ)) 0 none true)]} next):o.wp P a w next Q:=by
 obtain⟨i,z,hi,hs,hib,hz,hzc⟩:=(hT e te he).info;rw[hte]at hs hzc;have hzl:z.cells.size=size τ:=by rw[<-Yaq,hzc,X1q]
 have hrun:=run_make (P:=P) w t e i z (X5t hT h) hi hz kn km n m h0 h1 (by rw[hib];omega) h63;rw[hs]at hrun;refine X1a (v:=.slice (some ⟨w.heap.size,0,none⟩) n.toNat m.toNat) (w':=w.alloc (.cells (madeCells z.cells (m.toNat*size τ)) e)) (by simp[execOp,ho,hx,hy,hrun]) ?_;have harr:(madeCells z.cells (m.toNat*size τ)).toList=(List.replicate m.toNat (zeros τ)).flatten:=by
  have h1:=Xc3 (zeros τ) (by rw[X1q];exact hpos) m.toNat;rw[X1q]at h1;rw[<-h1];show((Array.range (m.toNat*size τ)).map (λj=>z.cells[j % z.cells.size]!)).toList=_;rw[Yb5,YcI];apply YbE;intro j _;rw[hzl,<-hzc];simp only[getElem!_def,YbJ]
 have hl:List.length (List.replicate n.toNat (dfl τ))=n.toNat:=YbS;have hmm:m.toNat<=maxLen:=by simp only[maxLen];omega
 have hsz:(madeCells z.cells (m.toNat*size τ)).size=m.toNat*size τ:=size_madeCells _ _;refine Xgz (S:=[]) (fo:=[w.heap.size]) (l:=List.replicate n.toNat (dfl τ)) (e:=e) (t:=τ) (z:=true) (ks:=[]) hS hd hdn (by simp) rfl rfl rfl (λk hk _=>heap_alloc_old w _ hk) (λg hg=>by cases hg) (λg hg=>by
  rw[YaP.1 hg];exact⟨by simp,.inl (YaC _)⟩) ⟨i,hi,hs⟩ hpos ?_ (by simp) ?_ hfr hn
 . have hmk:=X4Q.mk (t:=τ) (o:=0) (cap:=m.toNat) (l:=List.replicate n.toNat (dfl τ)) (b1:=[]) (heap_alloc_new w (.cells (madeCells z.cells (m.toNat*size τ)) e)) (by rw[hl];omega) hmm (by rw[hsz];omega) (by
    rw[hl,YbK,harr,show n.toNat*size τ=n.toNat*(zeros τ).length by rw[X1q],Xa6 _ _ _ (by omega),Xit];exact X1v.zerosN τ n.toNat)
   rw[hl]at hmk;exact hmk
 . intro _;refine⟨⟨n.toNat,_,?_,.inr ⟨w.heap.size,m.toNat,_,rfl,hS.fr.size,heap_alloc_new w _,by omega,hmm,hsz,rfl⟩⟩,λg hg=>by rw[X37]at hg;cases hg;simp⟩;rw[Yal,Yaq,hsz,Ya9 (YaY _ (by omega))]
end
def unT:X02->X02
 | .lst t l _=>.lst t l none
 | c=>c
theorem X5D:∀(t:Ty) (cs:List X02) (x:El t) (r:List X02),X2x t cs=some (x,r)->cs.map unT=flat t x++r.map unT
 | .unit,cs,x,r,e=>by simp only[X2x,Yag,Yaa]at e;obtain⟨_,rfl⟩:=e;rfl
 | .pair a b,cs,x,r,e=>by
   simp only[X2x,Ybi,Yag,Yaa]at e;obtain⟨⟨xa,ra⟩,ea,⟨xb,rb⟩,eb,ex,er⟩:=e;simp only at er ex;subst er;subst ex;rw[X5D a _ _ _ ea];simp only at eb;rw[X5D b _ _ _ eb];simp[flat]
 | .int k,cs,x,r,e=>by
   cases cs with
   | nil=>simp[X2x]at e
   | cons c cs=>cases c<;>simp[X2x]at e;obtain⟨rfl,rfl,rfl⟩:=e;rfl
 | .bool,cs,x,r,e=>by
   cases cs with
   | nil=>simp[X2x]at e
   | cons c cs=>cases c<;>simp[X2x]at e;obtain⟨rfl,rfl⟩:=e;rfl
 | .str,cs,x,r,e=>by
   cases cs with
   | nil=>simp[X2x]at e
   | cons c cs=>cases c<;>simp[X2x]at e;obtain⟨rfl,rfl⟩:=e;rfl
 | .list t,cs,x,r,e=>by
   cases cs with
   | nil=>simp[X2x]at e
   | cons c cs=>
     cases c<;>simp[X2x]at e;rename_i t' l tag;by_cases ht:t'=t
     . subst ht;simp at e;obtain⟨rfl,rfl⟩:=e;rfl
     . exact absurd e.1.1 ht
theorem XiC:∀(t:Ty) (x:El t),(flat t x).map unT=flat t x
 | .int _,_=>rfl
 | .bool,_=>rfl
 | .str,_=>rfl
 | .list _,_=>rfl
 | .unit,_=>rfl
 | .pair a b,x=>by simp[flat,XiC a,XiC b]
theorem XhI{t:Ty}:∀{n:Nat} {cs r:List X02} {l:List (El t)},XbX t n cs=some (l,r)->cs.map unT=X0o t l++r.map unT/\List.length l=n
 | 0,cs,r,l,h=>by
   simp only[XbX,Yag,Yaa]at h;obtain⟨rfl,rfl⟩:=h;exact⟨rfl,rfl⟩
 | n+1,cs,r,l,h=>by
   simp only[XbX,Ybi,Yag,Yaa]at h;obtain⟨⟨x,r1⟩,e1,⟨xs,r2⟩,e2,e3,e4⟩:=h;simp only at e2 e3 e4;subst e3;subst e4;obtain⟨h1,h2⟩:=XhI e2;rw[X5D t _ _ _ e1,h1,X3r,Yam];exact⟨rfl,by simp[h2]⟩
theorem Xcp{rows:List (Nat×X0L)}:∀{cs ps:List X02} {ks:List Nat},XcN rows cs=some (ps,ks)->ps.map unT=ps
 | [],ps,ks,h=>by simp only[XcN,Yag,Yaa]at h;rw[<-h.1];rfl
 | c::cs,ps,ks,h=>by
   cases c with
   | int k n=>simp only[XcN,YaD]at h;obtain⟨p,hp,e⟩:=h;cases e;simp only[Yas,unT,Xcp hp]
   | bool b=>simp only[XcN,YaD]at h;obtain⟨p,hp,e⟩:=h;cases e;simp only[Yas,unT,Xcp hp]
   | str s=>simp only[XcN,YaD]at h;obtain⟨p,hp,e⟩:=h;cases e;simp only[Yas,unT,Xcp hp]
   | emp t=>simp only[XcN,YaD]at h;obtain⟨p,hp,e⟩:=h;cases e;simp only[Yas,unT,Xcp hp]
   | lst t l tag=>match l,tag,h with
     | [],some 0,h=>simp only[XcN,YaD]at h;obtain⟨p,hp,e⟩:=h;cases e;simp only[Yas,unT,Xcp hp]
     | [],none,h=>simp[XcN]at h
     | [],some (k+1),h=>simp[XcN]at h
     | x::l,none,h=>simp[XcN]at h
     | x::l,some 0,h=>simp[XcN]at h
     | x::l,some (k+1),h=>simp[XcN]at h
   | own t r=>
     simp only[XcN]at h;split at h
     . split at h
       . simp only[YaD]at h;obtain⟨p,hp,e⟩:=h;cases e;simp only[Yas,unT,Xcp hp]
       . cases h
     . cases h
   | sub t r lo hi=>simp[XcN]at h
   | bor t l r ver p=>simp[XcN]at h
   | und=>simp[XcN]at h
def X56(σ:Sg)(ks:List Nat):List Nat:=(ks.map σ.foot).flatten
theorem X6x{σ:Sg}{ks:List Nat}{g:Nat}(h:g∈X56 σ ks):∃r∈ks,g∈σ.foot r:=by
 unfold X56 at h;simp only[Yds,YaN]at h;obtain⟨l,⟨r,hr,rfl⟩,hg⟩:=h;exact⟨r,hr,hg⟩
theorem X8a:∀{l:List Nat},X60 l=true->l.Nodup
 | [],_=>Ybg
 | k::l,h=>by
   simp only[X60,Yac]at h;exact YaB.2 ⟨X59.1 h.1,X8a h.2⟩
theorem XbU(hS:Sim P base M0 ios σ M w a st):∀{ks:List Nat},ks.Nodup->(∀r∈ks,X1G r st.rows)->(X56 σ ks).Nodup
 | [],_,_=>Ybg
 | r::ks,hn,hh=>by
   have hr:=hh r (by simp);obtain⟨e,t,l,ver,hole,z,hl⟩:=hr;show(σ.foot r++X56 σ ks).Nodup;rw[YaF];refine⟨(hS.hotAt hl).nodup,XbU hS (YaB.1 hn).2 λr' hr'=>hh r' (by simp[hr']),λx hx y hy e2=>?_⟩;subst e2;obtain⟨r',hr',hx'⟩:=X6x hy;exact hS.hot.apart r r' (hh r (by simp)) (hh r' (by simp[hr'])) (λe3=>(YaB.1 hn).1 (e3▸hr')) x hx hx'
theorem Xog(hS:Sim P base M0 ios σ M w a st){ks:List Nat}{r:Nat}(hr:X1G r st.rows)(hn:r∉ks)(hh:∀r∈ks,X1G r st.rows):∀x∈X56 σ ks,x∉σ.foot r:=λx hx hx'=>by
 obtain⟨r',hr',h1⟩:=X6x hx;exact hS.hot.apart r r' hr (hh r' hr') (λe=>hn (e▸hr')) x hx' h1
theorem Xpx(hS:Sim P base M0 ios σ M w a st){rows:List (Nat×X0L)}(hr:∀r rv,look r rows=some rv->look r st.rows=some rv){vs:List Value}{cs:List X02}(h:X27 (RdT σ st.rows M) vs cs):
 ∀{ps:List X02} {ks:List Nat},XcN rows cs=some (ps,ks)->X1v w vs ps (X56 σ ks)/\∀r∈ks,X1G r st.rows:=by
 induction h with
 | nil=>intro ps ks e;simp only[XcN,Yag,Yaa]at e;obtain⟨rfl,rfl⟩:=e;exact⟨.nil,by simp⟩
 | @cons v c vs cs hx hrs ih=>
   intro ps ks e;cases c with
   | int k n=>
     simp only[XcN,YaD]at e;obtain⟨p,hp,e⟩:=e;cases e;obtain⟨h1,h2⟩:=ih hp;have hv:v=.int k n:=hx.1;subst hv;exact⟨.int h1,h2⟩
   | bool b=>
     simp only[XcN,YaD]at e;obtain⟨p,hp,e⟩:=e;cases e;obtain⟨h1,h2⟩:=ih hp;have hv:v=.bool b:=hx.1;subst hv;exact⟨.bool h1,h2⟩
   | str s=>
     simp only[XcN,YaD]at e;obtain⟨p,hp,e⟩:=e;cases e;obtain⟨h1,h2⟩:=ih hp;have hv:v=.string ⟨s.toArray⟩:=hx.1;subst hv;exact⟨.str h1,h2⟩
   | lst t l tag=>
     match l,tag with
     | [],some 0=>
       simp only[XcN,YaD]at e;obtain⟨p,hp,e⟩:=e;cases e;obtain⟨h1,h2⟩:=ih hp;have hv:v=.slice none 0 0:=by have:=hx.2;simpa [Xc8] using this
       subst hv;exact⟨.emp h1,h2⟩
     | [],none=>simp[XcN]at e
     | [],some (k+1)=>simp[XcN]at e
     | x::l,none=>simp[XcN]at e
     | x::l,some 0=>simp[XcN]at e
     | x::l,some (k+1)=>simp[XcN]at e
   | emp t=>
     simp only[XcN,YaD]at e;obtain⟨p,hp,e⟩:=e;cases e;obtain⟨h1,h2⟩:=ih hp;obtain⟨ad,rfl⟩:=hx.2;exact⟨.emp h1,h2⟩
   | own t r=>
     simp only[XcN]at e;split at e
     . rename_i e' t' x ver z hl;split at e
       . rename_i ht;subst ht;simp only[YaD]at e;obtain⟨p,hp,e⟩:=e;cases e;obtain⟨h1,h2⟩:=ih hp;have hl':=hr r _ hl;have hv:v=σ.row r:=hx.2 (by rw[hl'];rfl);have ho:X1v w [σ.row r] [.lst _ x none] (σ.foot r):=(hS.hotAt hl').own;rw[<-hv]at ho;refine⟨ho.append h1,λr' hr'=>?_⟩;rcases Yak.1 hr' with rfl | hr'
         . exact⟨_,_,_,_,_,_,hl'⟩
         . exact h2 r' hr'
       . cases e
     . cases e
   | sub t r lo hi=>simp[XcN]at e
   | bor t l r ver p=>simp[XcN]at e
   | und=>simp[XcN]at e
theorem XfD(hT:X1E P tab){rows:List (Nat×X0L)}{t e:TypeId}{te:TI}{τ:Ty}{fs:List (Nat×TypeId)}{b n:Nat}{parts:Array (Nat×Operand)}{ps:List (Nat×List X02)}{cs:List X02}(ho:o.op=.buildSlice t n parts)(h:look t tab=some ⟨.list τ,false,fs,e,b⟩)(he:look e tab=some te)(hte:te.ty=τ)(hpos:0<size τ)(hlim:n*size τ<=16777216)(hp:X27 (fun(p:Nat×Value) (q:Nat×List X02)=>p.1=q.1/\X27 (RdT σ rows M) p.2.cells.toList q.2) (parts.toList.map λp=>(p.1,a.eval p.2)) ps)(hf:Xko (λi=>some (i*size τ,size τ)) (XkQ τ n) ps=some cs):
 ∃arr',(execOp a.eval o).run P w=.ok (.value (.slice (some ⟨w.heap.size,0,none⟩) n n)) (w.alloc (.cells arr' e))/\X27 (RdT σ rows M) arr'.toList cs:=by
 obtain⟨i,z,hi,hs,_,hz,hzc⟩:=(hT e te he).info;rw[hte]at hs hzc;have hzl:z.cells.size=size τ:=by rw[<-Yaq,hzc,X1q]
 let arr0:Array Value:=(Array.range (n*size τ)).map (λj=>z.cells[j % z.cells.size]!)
 have harr0:arr0.toList=(List.replicate n (zeros τ)).flatten:=by
  have h1:=Xc3 (zeros τ) (by rw[X1q];exact hpos) n;rw[X1q]at h1;rw[<-h1];show((Array.range (n*size τ)).map (λj=>z.cells[j % z.cells.size]!)).toList=_;rw[Yb5,YcI];apply YbE;intro j _;rw[hzl,<-hzc];simp only[getElem!_def,YbJ]
 obtain⟨arr',ha,hr⟩:=Xiz (σ:=σ) (M:=M) (rows:=rows) (place':=λi=>some (i*size τ,size τ)) hp (arr:=arr0) (by rw[harr0];exact Xh0 τ n) (λ_ _ _ h=>h) hf;have hrun:(execOp a.eval o).run P w=.ok (.value (.slice (some ⟨w.heap.size,0,none⟩) n n)) (w.alloc (.cells arr' e)):=by
  have hue:=X5t hT h;have hzv:(zeroValue e).run P w=.ok z w:=by simp[zeroValue,typeInfo,hi,hz]
  have hso:(sizeOf e).run P w=.ok (size τ) w:=by simp[sizeOf,typeInfo,hi,hs]
  by_cases hn0:n=0
  . subst hn0;have he0:arr0=#[]:=by apply Yb4;simp[harr0]
    rw[he0]at ha;simp only[execOp,ho,Instr.buildSlice];simp[run_underlying hue,hso,newRow,newObj,Sem.run];rw[show(Array.map (λx=>(default:Value)) (Array.range 0))=#[] by apply Yb4;simp,ha];simp[Sem.run]
  . have hne:¬n*size τ=0:=by
     rw[Nat.mul_eq_zero];omega
    have hne':¬(n=0\/size τ=0):=by omega
    simp only[execOp,ho,Instr.buildSlice];simp[run_underlying hue,hso,newRow,newObj,Sem.run,show ¬16777216<n*size τ by omega,hne',hzv,show(Array.map (λx=>z.cells[x % z.cells.size]!) (Array.range (n*size τ)))=arr0 from rfl,ha];intro h0;exact absurd h0 hne
 exact⟨arr',hrun,hr⟩
theorem Xhd(hT:X1E P tab)(hS:Sim P base M0 ios σ M w a st){t e:TypeId}{te:TI}{τ:Ty}{fs:List (Nat×TypeId)}{b n d:Nat}{parts:Array (Nat×Operand)}{ps:List (Nat×List X02)}{cs vs:List X02}{ks:List Nat}{l:List (El τ)}{rows:List (Nat×X0L)}(ho:o.op=.buildSlice t n parts)(hd:o.dst=some d)(hdn:d<st.nt)(h:look t tab=some ⟨.list τ,false,fs,e,b⟩)(he:look e tab=some te)(hte:te.ty=τ)(hpos:0<size τ)(hlim:n*size τ<=16777216)(hrows:∀r rv,look r rows=some rv->look r st.rows=some rv)(hp:X27 (fun(p:Nat×Value) (q:Nat×List X02)=>p.1=q.1/\X27 (RdT σ st.rows M) p.2.cells.toList q.2) (parts.toList.map λp=>(p.1,a.eval p.2)) ps)(hf:Xko (λi=>some (i*size τ,size τ)) (XkQ τ n) ps=some cs)(hown:XcN rows cs=some (vs,ks))(hks:X60 ks=true)(hu:XbX τ n vs=some (l,[]))(hfr:noTag (X0J d 0) st=true)(hn:X7O P base M0 ios a o st {sv:=.val false [.own τ (X0J d 0)],nrow:=[(X0J d 0,.hot e τ l 0 none true)],krow:=ks} next):o.wp P a w next Q:=by
 obtain⟨arr',hrun,hr⟩:=XfD (P:=P) (w:=w) (a:=a) (σ:=σ) (M:=M) hT ho h he hte hpos hlim hp hf;obtain⟨i,z,hi,hs,hib,hz,hzc⟩:=(hT e te he).info;rw[hte]at hs;obtain⟨h1,h2⟩:=Xpx hS hrows hr hown;have hvs:=Xcp hown;obtain⟨h3,h4⟩:=XhI hu;rw[hvs]at h3;simp only[YaI,Ybd]at h3;rw[h3]at h1;have hlen:arr'.toList.length=n*size τ:=by rw[h1.length,X0V,h4]
 have hsz:arr'.size=n*size τ:=by rw[<-Yaq];exact hlen
 have hnl:n<=maxLen:=by
  have h1:n<=n*size τ:=Nat.le_mul_of_pos_right n hpos;simp only[maxLen];omega
 have hnd:=XbU hS (X8a hks) h2;refine X1a hrun ?_;refine Xgz (S:=[]) (fo:=w.heap.size::X56 σ ks) (l:=l) (e:=e) (t:=τ) (z:=true) (ks:=ks) hS hd hdn (by simp) rfl rfl rfl (λk hk _=>heap_alloc_old w _ hk) (λg hg=>by cases hg) (λg hg=>?_) ⟨i,hi,hs⟩ hpos ?_ ?_ ?_ hfr hn
 . rcases Yak.1 hg with rfl | hg
   . exact⟨by simp,.inl (YaC _)⟩
   . obtain⟨r,k1,k2⟩:=X6x hg;exact⟨Ybe (hS.hot.lt r (h2 r k1) g k2) (by simp),.inr ⟨r,k1,h2 r k1,k2⟩⟩
 . have hmk:=X4Q.mk (t:=τ) (o:=0) (cap:=n) (l:=l) (heap_alloc_new w (.cells arr' e)) (by rw[h4];exact YaC _) hnl (by rw[hsz];omega) (b1:=X56 σ ks) (by
    rw[h4,YbK,Ya1 (by rw[hlen];exact YaC _)];exact h1.frame λg hg=>heap_alloc_old w _ (h1.lt g hg))
   rw[h4]at hmk;exact hmk
 . exact YaB.2 ⟨λhx=>Nat.lt_irrefl _ (h1.lt _ hx),hnd⟩
 . intro _;exact⟨⟨n,arr'.toList,hlen,.inr ⟨w.heap.size,n,arr',rfl,hS.fr.size,heap_alloc_new w _,YaC _,hnl,hsz,by rw[Ya1 (by rw[hlen];exact YaC _)]⟩⟩,λg hg=>by rw[X37]at hg;cases hg;simp⟩
inductive XeY (w:World) (τ:Ty) (vy:Value) (l2:List (El τ)) (b':List Nat):Prop
 | none {ad c}:vy=.slice ad 0 c->l2=[]->b'=[]->XeY w τ vy l2 b'
 | some {a c us}:vy=.slice (some a) (List.length l2) c->0<List.length l2->(∀j u,us[j]?=some u->w.cell? (a.add j)=some u)->X1v w us (X0o τ l2) b'->XeY w τ vy l2 b'
theorem XkZ{N:Mem}{τ:Ty}{css:List (List Value)}{l:List (El τ)}(h:X27 (RdC N τ) css l):X27 (RdV N) css.flatten (X0o τ l):=by
 induction h with
 | nil=>exact .nil
 | cons x _ ih=>rw[Ybs,X3r];exact(Xg7 _ _ _ x).append ih
theorem XeY.flat{τ:Ty}{vy:Value}{l2:List (El τ)}(hf:Xdc τ=true)(h:RdC (XhR w) (.list τ) [vy] l2):XeY w τ vy l2 []:=by
 obtain⟨ad,cap,css,rfl,_,_,h1,h2⟩:=RdC.cells h;rcases h2 with rfl | ⟨a,rfl,h2⟩
 . exact .none rfl rfl rfl
 . cases l2 with
   | nil=>exact .none rfl rfl rfl
   | cons x l2=>exact .some rfl (by simp) h2 (X1v.plain (XkZ h1) (XgL hf _))
theorem XeY.own{τ:Ty}{vy:Value}{l2:List (El τ)}{bs:List Nat}(h:X4Q w τ vy l2 bs)(hnd:bs.Nodup):∃b',XeY w τ vy l2 b'/\b'.Nodup/\∀x∈b',x∈bs:=by
 rcases h.cases with⟨ad,rfl,rfl,rfl⟩ | ⟨g,o,cap,arr,e,b1,rfl,rfl,hg,h2,h3,h4,h5⟩
 . exact⟨[],.none rfl rfl rfl,Ybg,by simp⟩
 . cases l2 with
   | nil=>exact⟨[],.none (by rfl) rfl rfl,Ybg,by simp⟩
   | cons x l2=>
     refine⟨b1,.some (us:=(arr.toList.drop o).take (List.length (x::l2)*size τ)) rfl (by simp) (λj u hu=>?_) h5,(YaB.1 hnd).2,λy hy=>by simp[hy]⟩;rw[X8S];rw[YaE]at hu;split at hu
     . exact X5z hg hu
     . cases hu
theorem XgQ(hT:X1E P tab)(hS:Sim P base M0 ios σ M w a st){t e:TypeId}{te:TI}{τ:Ty}{fs:List (Nat×TypeId)}{b d:Nat}{x y:Operand}{l l2:List (El τ)}{ks bs b':List Nat}(ho:o.op=.call {callee:=.builtin .append,args:=#[x,y],argTypes:=#[t,t]})(hd:o.dst=some d)(hdn:d<st.nt)(h:look t tab=some ⟨.list τ,false,fs,e,b⟩)(he:look e tab=some te)(hte:te.ty=τ)(hpos:0<size τ)(hx:X4Q w τ (a.eval x) l bs)(hbs:bs.Nodup)(hy:XeY w τ (a.eval y) l2 b')(hb':b'.Nodup)(hdis:∀g∈b',g∉bs)(hk1:∀g∈bs,∃r∈ks,X1G r st.rows/\g∈σ.foot r)(hk2:∀g∈b',∃r∈ks,X1G r st.rows/\g∈σ.foot r)(hlen:List.length l+List.length l2<=9223372036854775807)(hby:(List.length l+List.length l2)*te.bytes<=140737488355328)(hfr:noTag (X0J d 0) st=true)(hn:X7O P base M0 ios a o st {sv:=.val false [.own τ (X0J d 0)],nrow:=[(X0J d 0,.hot e τ (l++l2) 0 none false)],krow:=ks} next):o.wp P a w next Q:=by
 obtain⟨i,z,hi,hs,hib,hz,hzc⟩:=(hT e te he).info;rw[hte]at hs hzc;have hzl:z.cells.size=i.size:=by rw[<-Yaq,hzc,X1q,hs]
 have hue:=X5t hT h;cases hy with
 | @none ad c hv hl hb=>
   subst hl;subst hb;obtain⟨ax,cx,ex,hlx,hmx⟩:=hx.slice;have hrun:=XbW (P:=P) (w:=w) t o.type e i hue hi ax (List.length l) cx c hlx ad;refine X1a (v:=a.eval x) (w':=w) (by simp only[execOp,ho,resolve];simp[invoke,builtin,hv,ex,hrun]) ?_;refine Xgz (S:=[]) (fo:=bs) (l:=l++[]) (e:=e) (t:=τ) (z:=false) (ks:=ks) hS hd hdn (YaC _) rfl rfl rfl (λ_ _ _=>rfl) (λg hg=>by cases hg) (λg hg=>⟨X1v.lt hx g hg,.inr (hk1 g hg)⟩) ⟨i,hi,hs⟩ hpos (by simpa using hx) hbs (λh=>by cases h) hfr hn
 | @some ad c us hv h0 hus hu=>
   obtain⟨v',w',bs',hrun,hw',hst⟩:=Xar (P:=P) (ty:=o.type) hue hi hz hzl hs hpos hx hbs (a:=ad) (c:=c) hus hu hb' hdis h0 (by simp only[maxLen];omega) (by rw[hib];exact hby);refine X1a (v:=v') (w':=w') (by simp only[execOp,ho,resolve];simp[invoke,builtin,hv,hrun]) ?_;refine Xgz (S:=bs) (fo:=bs') (l:=l++l2) (e:=e) (t:=τ) (z:=false) (ks:=ks) hS hd hdn hst.size hst.os hst.tape hst.output hst.keep (λg hg=>hk1 g hg) (λg hg=>⟨X1v.lt hw' g hg,?_⟩) ⟨i,hi,hs⟩ hpos hw' hst.nodup (λh=>by cases h) hfr hn;rcases hst.sub g hg with h1 | h1 | h1
   . exact .inr (hk1 g h1)
   . exact .inr (hk2 g h1)
   . exact .inl h1
theorem Xd3.head{r:Nat}{e:TypeId}{t:Ty}{l:List (El t)}{hole:Option (Nat×Nat)}{z:Bool}(h:Xd3 P base σ w r e t l hole z)(h0:0<List.length l):∃g o cap,σ.row r=.slice (some ⟨g,o,none⟩) (List.length l) cap/\List.length l<=cap:=by
 have ho:=h.own;have key:∀{w':World} {bs:List Nat},X4Q w' t (σ.row r) l bs->∃g o cap,σ.row r=.slice (some ⟨g,o,none⟩) (List.length l) cap/\List.length l<=cap:=λh1=>by
  rcases h1.cases with⟨ad,_,rfl,_⟩ | ⟨g,o,cap,arr,e,b1,e1,_,_,k1,_⟩
  . simp at h0
  . exact⟨g,o,cap,e1,k1⟩
 cases hole with
 | none=>exact key ho
 | some p=>obtain⟨i,off⟩:=p;obtain⟨g,o,cap,arr,e,_,_,_,_,_,_,h7⟩:=ho;exact key h7
theorem Xil(hT:X1E P tab)(hS:Sim P base M0 ios σ M w a st){t e e0:TypeId}{te:TI}{τ0 τ:Ty}{fs:List (Nat×TypeId)}{b:Nat}{x y:Operand}{k:IntKind}{i:Int}{l:List (El τ)}{r ver:Nat}{hole:Option (Nat×Nat)}{z:Bool}(ho:o.op=.indexAddr t x y)(hd:∀d,o.dst=some d->d<st.nt)(h:look t tab=some ⟨.list τ0,false,fs,e,b⟩)(he:look e tab=some te)(hs:size te.ty=size τ)(hr:look r st.rows=some (.hot e0 τ l ver hole z))(hx:a.eval x=σ.row r)(hy:a.eval y=.int k i)(h0:0<=i)(h1:i<List.length l)(hn:X7O P base M0 ios a o st {sv:=.hp τ r i.toNat 0} next):o.wp P a w next Q:=by
 obtain⟨g,oo,cap,hv,hc⟩:=(hS.hotAt hr).head (by omega);refine X1a (v:=.pointer (some ((⟨g,oo,none⟩:Addr).add (i.toNat*size τ)))) (w':=w) ?_ (hn _ σ M w (hS.putO hd (λ_=>⟨_,⟨_,_,cap,hv,by omega,rfl⟩,by rw[Ya6]⟩)));have hu:=X5t hT h;have hsz:=X5X hT he w;rw[hs]at hsz;simp[execOp,ho,hx,hv,hy,Instr.indexAt,asIntOf,run_underlying hu,h0,h1,hsz]
theorem Xie(hT:X1E P tab)(hS:Sim P base M0 ios σ M w a st){t e e0:TypeId}{te:TI}{τ0 τ:Ty}{fs:List (Nat×TypeId)}{b:Nat}{x y:Operand}{k:IntKind}{i:Int}{l:List (El τ)}{r ver lo hi:Nat}{z:Bool}(ho:o.op=.indexAddr t x y)(hd:∀d,o.dst=some d->d<st.nt)(h:look t tab=some ⟨.list τ0,false,fs,e,b⟩)(he:look e tab=some te)(hs:size te.ty=size τ)(hr:look r st.rows=some (.hot e0 τ l ver none z))(hx:Xkt τ (σ.row r) lo hi (a.eval x))(hy:a.eval y=.int k i)(h0:0<=i)(h1:i<List.length ((l.take hi).drop lo))(hn:X7O P base M0 ios a o st {sv:=.hp τ r (lo+i.toNat) 0} next):o.wp P a w next Q:=by
 obtain⟨ad,n,cap,ad',hv,k1,k2,hxv,had⟩:=hx;have hlen:List.length ((l.take hi).drop lo)<=hi - lo:=by rw[Yap,Yal];omega
 have hl0:0<List.length l:=by
  cases l with
  | nil=>simp at h1;omega
  | cons y l=>simp
 obtain⟨g,oo,cap',hv',hc⟩:=(hS.hotAt hr).head hl0;rw[hv']at hv;injection hv with e1 e2 e3;subst e1;subst e3;have had:=had (by omega);subst had;simp only[Ych]at hxv;refine X1a (v:=.pointer (some ((⟨g,oo,none⟩:Addr).add ((lo+i.toNat)*size τ)))) (w':=w) ?_ (hn _ σ M w (hS.putO hd (λ_=>⟨_,⟨_,_,cap',hv',by omega,rfl⟩,by rw[Ya6]⟩)));have hu:=X5t hT h;have hsz:=X5X hT he w;rw[hs]at hsz;have hi1:i<((hi - lo:Nat):Int):=by omega
 simp[execOp,ho,hxv,hy,Instr.indexAt,asIntOf,run_underlying hu,h0,hi1,hsz,Addr.add_add,Ya0]
theorem XmT{N:Mem}{r ver:Nat}{p:Nat->Option (Nat×Nat)}{rows:List (Nat×X0L)}(hN:N=σ.mem r){vs:List Value}{cs:List X02}(h:X27 (RdV N) vs cs):∀(j:Nat),(∀c∈cs,(∃t l,c=.lst t l none)\/XfM c=true)->
 (∀i v t l,vs[i]?=some v->cs[i]?=some (.lst t l none)->∀i' off,p (j+i)=some (i',off)->∀rv,look r rows=some rv->rv.ver?=some ver->XtJ σ t l r rv i' off v)->X27 (RdT σ rows M) vs (XmX r ver p j cs):=by
 induction h with
 | nil=>intro j _ _;exact .nil
 | @cons v c vs cs hx hr ih=>
   intro j hpl hp;have ih':=ih (j+1) (λc hc=>hpl c (Yan _ hc)) (λi u t l hu hc i' off hp'=>hp (i+1) u t l (by simpa using hu) (by simpa using hc) i' off (by rw[show j+(i+1)=j+1+i by omega];exact hp'));rcases hpl c (by simp) with⟨t,l,rfl⟩ | hpc
   . simp only[XmX];refine .cons ⟨RdV.oneCell hx,λrv hl hv=>⟨by rw[<-hN];exact hx,λi off hp'=>hp 0 v t l (by simp) (by simp) i off (by simpa using hp') rv hl hv⟩⟩ ih'
   . cases c<;>simp[XfM]at hpc<;>exact .cons ⟨hx,trivial⟩ ih'
theorem Xdt:∀(t:Ty) (x:El t),∀c∈flat t x,(∃t' l,c=.lst t' l none)\/XfM c=true
 | .int _,x,c,h=>by simp[flat]at h;subst h;exact .inr rfl
 | .bool,x,c,h=>by simp[flat]at h;subst h;exact .inr rfl
 | .str,x,c,h=>by simp[flat]at h;subst h;exact .inr rfl
 | .list t,x,c,h=>by simp[flat]at h;subst h;exact .inl ⟨_,_,rfl⟩
 | .unit,x,c,h=>by simp[flat]at h
 | .pair a b,x,c,h=>by
   simp only[flat,Yaf]at h;rcases h with h | h
   . exact Xdt a x.1 c h
   . exact Xdt b x.2 c h
theorem Xib(hT:X1E P tab)(hS:Sim P base M0 ios σ M w a st){t e:TypeId}{te:TI}{τ0 τ:Ty}{fs:List (Nat×TypeId)}{b:Nat}{x y:Operand}{k:IntKind}{i:Int}{l:List (El τ)}{r ver:Nat}(ho:o.op=.indexAddr t x y)(hd:∀d,o.dst=some d->d<st.nt)(h:look t tab=some ⟨.list τ0,false,fs,e,b⟩)(he:look e tab=some te)(hs:size te.ty=size τ)(hx:RdC (σ.mem r) (.list τ) [a.eval x] l)(hy:a.eval y=.int k i)(h0:0<=i)(h1:i<List.length l)(hn:X7O P base M0 ios a o st {sv:=.bptr (XmX r ver (λ_=>none) 0 (flat τ (l.getD i.toNat (dfl τ)))) r ver} next):o.wp P a w next Q:=by
 obtain⟨ad,cap,hv,vs,h2,h3,h4⟩:=RdC.at hx (i:=i.toNat) (by omega);refine X1a (v:=.pointer (some (ad.add (i.toNat*size τ)))) (w':=w) ?_ (hn _ σ M w (hS.putO hd ?_))
 . have hu:=X5t hT h;have hsz:=X5X hT he w;rw[hs]at hsz;simp[execOp,ho,hv,hy,Instr.indexAt,asIntOf,run_underlying hu,h0,h1,hsz]
 . intro rv hl hver;refine⟨_,rfl,λj c hj=>?_⟩;have hb:=XmT (σ:=σ) (M:=M) (r:=r) (ver:=ver) (p:=λ_=>none) (rows:=st.rows) rfl (Xg7 _ _ _ h4) 0 (Xdt _ _) (λ_ _ _ _ _ _ _ _ hp=>by cases hp);obtain⟨u,hu,hr⟩:=hb.get hj;exact⟨u,h3 j u hu,hr⟩
theorem XjX(hT:X1E P tab)(hS:Sim P base M0 ios σ M w a st){t tf:TypeId}{ti tif:TI}{x:Operand}{f r i oo off:Nat}{τ:Ty}(ho:o.op=.fieldAddr t x f)(hd:∀d,o.dst=some d->d<st.nt)(h:look t tab=some ti)(hg:ti.agg=true)(hf:ti.fields[f]?=some (off,tf))(htf:look tf tab=some tif)(hs:0<size tif.ty)(hlive:(look r st.rows).isSome=true)(hx:X44 σ st.rows st.boxes M (a.eval x) (.hp τ r i oo))(hn:X7O P base M0 ios a o st {sv:=.hp τ r i (oo+off)} next):o.wp P a w next Q:=by
 obtain⟨ad,⟨ad0,n,cap,h1,h2,h3⟩,hx⟩:=hx hlive;refine X1a (v:=.pointer (some (ad.add off))) (w':=w) ?_ (hn _ σ M w (hS.putO hd (λ_=>⟨_,⟨ad0,n,cap,h1,h2,rfl⟩,by rw[h3,Addr.add_add,Yca]⟩)));have:=XdR hT h hg hf htf hs ad w;simp[execOp,ho,hx,this]
theorem Xho(hT:X1E P tab)(hS:Sim P base M0 ios σ M w a st){t tf:TypeId}{ti tif:TI}{x:Operand}{f r ver off:Nat}{cs:List X02}{rv:X0L}(ho:o.op=.fieldAddr t x f)(hd:∀d,o.dst=some d->d<st.nt)(h:look t tab=some ti)(hg:ti.agg=true)(hf:ti.fields[f]?=some (off,tf))(htf:look tf tab=some tif)(hs:0<size tif.ty)(hl:look r st.rows=some rv)(hv:rv.ver?=some ver)(hx:X44 σ st.rows st.boxes M (a.eval x) (.bptr cs r ver))(hn:X7O P base M0 ios a o st {sv:=.bptr (cs.drop off) r ver} next):o.wp P a w next Q:=by
 obtain⟨ad,hx,hc⟩:=hx rv hl hv;refine X1a (v:=.pointer (some (ad.add off))) (w':=w) ?_ (hn _ σ M w (hS.putO hd (λ_ _ _=>⟨ad.add off,rfl,λi c hi=>?_⟩)))
 . have:=XdR hT h hg hf htf hs ad w;simp[execOp,ho,hx,this]
 . rw[Ybz]at hi;rw[Addr.add_add];exact hc _ c hi
theorem XkX{rows:List (Nat×X0L)}{ad:Addr}{N:Mem}:∀{cs:List X02} {o:Nat},(∀i c,cs[i]?=some c->∃u,N (ad.add (o+i))=some u/\RdT σ rows M u c)->
 ∃vs,X27 (RdT σ rows M) vs cs/\∀j u,vs[j]?=some u->N (ad.add (o+j))=some u
 | [],o,_=>⟨[],.nil,λj u h=>by simp at h⟩
 | c::r,o,h=>by
   obtain⟨u,hu,hr⟩:=h 0 c (by simp);obtain⟨vs,h1,h2⟩:=XkX (ad:=ad) (N:=N) (cs:=r) (o:=o+1) (λi c' hc=>by
    have:=h (i+1) c' (by simpa using hc)
    rwa [show o+(i+1)=o+1+i by omega]at this)
   refine⟨u::vs,.cons hr h1,?_⟩;intro j x hx;cases j with
   | zero=>simp at hx;subst hx;exact hu
   | succ j=>simp at hx;have:=h2 j x hx;rwa [show o+1+j=o+(j+1) by omega]at this
theorem Xni(hT:X1E P tab)(hS:Sim P base M0 ios σ M w a st){t e0:TypeId}{ti:TI}{x:Operand}{cs:List X02}{r ver:Nat}{τ:Ty}{l:List (El τ)}{hole:Option (Nat×Nat)}{z:Bool}(ho:o.op=.load t x)(hd:∀d,o.dst=some d->d<st.nt)(ht:look t tab=some ti)(hr:look r st.rows=some (.hot e0 τ l ver hole z))(hx:X44 σ st.rows st.boxes M (a.eval x) (.bptr cs r ver))(hl:size ti.ty<=cs.length)(hag:ti.agg=true\/size ti.ty=1)(hn:X7O P base M0 ios a o st {sv:=.val ti.agg (cs.take (size ti.ty))} next):o.wp P a w next Q:=by
 obtain⟨ad,hx,hc⟩:=hx _ hr rfl;obtain⟨vs,h1,h2⟩:=XkX (σ:=σ) (rows:=st.rows) (M:=M) (N:=σ.mem r) (ad:=ad) (cs:=cs) (o:=0) (by simpa using hc);have h3:=h1.take (size ti.ty);obtain⟨v,hv,hvc,hva⟩:=X5L (w:=w) hT ht hag ad (vs.take (size ti.ty))
  (by rw[Yal,h1.length];omega)
  (by
    intro j u hu;rw[YaE]at hu;split at hu
    . exact((hS.hotAt hr).mem _ _ (by simpa using h2 j u hu)).1
    . cases hu)
  h3.one
 refine X1a (v:=v) (w':=w) ?_ (hn _ σ M w (hS.putO hd ⟨by rw[hvc];exact h3,hva⟩));simp[execOp,ho,Instr.loadAt,Instr.sureAddr,hx,hv]
theorem XqV(hT:X1E P tab)(hS:Sim P base M0 ios σ M w a st){t e0:TypeId}{ti:TI}{x:Operand}{r i off ver:Nat}{τ:Ty}{l:List (El τ)}{z:Bool}(ho:o.op=.load t x)(hd:∀d,o.dst=some d->d<st.nt)(ht:look t tab=some ti)(hr:look r st.rows=some (.hot e0 τ l ver none z))(hx:X44 σ st.rows st.boxes M (a.eval x) (.hp τ r i off))(hl:off+size ti.ty<=size τ)(hag:ti.agg=true\/size ti.ty=1)(hn:X7O P base M0 ios a o st {sv:=.val ti.agg (((XmX r ver (λj=>some (i,j)) 0 (flat τ (l.getD i (dfl τ)))).drop off).take (size ti.ty))} next):o.wp P a w next Q:=by
 have hok:=hS.hotAt hr;obtain⟨ad,⟨ad0,n,cap,h1,h2,h3⟩,hx⟩:=hx (by rw[hr];rfl);obtain⟨ax,cx,hlen⟩:=hok.len;have hn':n=List.length l:=by rw[hlen]at h1;injection h1 with _ e2;exact e2.symm
 obtain⟨ad1,cap1,hv1,vs,k1,k2,k3⟩:=RdC.at hok.rd (i:=i) (by omega);have e1:ad1=ad0:=by rw[h1]at hv1;injection hv1 with e1;injection e1 with e1;exact e1.symm
 subst e1;have hb:=XmT (σ:=σ) (M:=M) (r:=r) (ver:=ver) (p:=λj=>some (i,j)) (rows:=st.rows) rfl (Xg7 _ _ _ k3) 0 (Xdt _ _) (λj u t' l' hu hc i' off' hp rv hl hv=>by
  cases hp;rw[hr]at hl;cases hl;refine⟨by rw[YaU];exact hc,_,⟨ad1,n,cap,h1,h2,rfl⟩,?_⟩;rw[YaU,<-Addr.add_add];exact k2 j u hu)
 have hbl:=hb.length;have h4:=(hb.drop off).take (size ti.ty);obtain⟨v,hv,hvc,hva⟩:=X5L (w:=w) hT ht hag ad ((vs.drop off).take (size ti.ty))
  (by rw[Yal,Yap,k1];omega)
  (by
    intro j u hu;rw[YaE]at hu;split at hu
    . rw[Ybz]at hu;have:=(hok.mem _ _ (k2 _ u hu)).1;rw[h3,<-Addr.add_add,Addr.add_add];exact this
    . cases hu)
  h4.one
 refine X1a (v:=v) (w':=w) ?_ (hn _ σ M w (hS.putO hd ⟨by rw[hvc];exact h4,hva⟩));simp[execOp,ho,Instr.loadAt,Instr.sureAddr,hx,hv]
def X0K(arr:Array Value)(p:Nat)(us:List Value):Array Value:=(arr.toList.take p++us++arr.toList.drop (p+us.length)).toArray
theorem X5c{arr:Array Value}{p:Nat}{us:List Value}(h:p+us.length<=arr.size):(X0K arr p us).size=arr.size:=by
 simp only[X0K,YbI,Yab,Yal,Yap,Yaq];omega
theorem Xrb{arr:Array Value}{p:Nat}{us:List Value}{x:Value}(h:us.length=1)(hp:p<arr.size):X0K (arr.setIfInBounds p x) p us=X0K arr p us:=by
 unfold X0K
 congr 1
 rw[YcB,Yco (YaC _),Ycn (by omega)]
theorem Sim.putRow(hS:Sim P base M0 ios σ M w a st){e0:TypeId}{τ:Ty}{l l':List (El τ)}{r ver:Nat}{hole:Option (Nat×Nat)}{z:Bool}(hr:look r st.rows=some (.hot e0 τ l ver hole z)){us:List Value}{ps c1 c2 c3:List X02}{ks:List Nat}(hu:X1v w us ps (X56 σ ks))(hks:X60 ks=true)(hrk:r∉ks)(hkh:∀r∈ks,X1G r st.rows)(hc:X0o τ l=c1++(c2++c3))(hl:ps.length=c2.length)(hpos:0<c2.length)(hl':X0o τ l'=c1++(ps++c3))(hlen:List.length l'=List.length l)(hh:hole=none\/∃i off,hole=some (i,off)/\c1.length=i*size τ+off/\c2.length=1)(hv:noVers st [(r,.hot e0 τ l' (ver+1) none z)]=true):
 ∃g oo cap arr e',σ.row r=.slice (some ⟨g,oo,none⟩) (List.length l) cap/\w.heap[g]?=some (.cells arr e' (0,0))/\oo+c1.length+us.length<=arr.size/\
  ∃σ',Sim P base M0 ios σ' M (w.setRow g (X0K arr (oo+c1.length) us)) a {st with rows:=X0A [(r,.hot e0 τ l' (ver+1) none z)] ks st.rows}:=by
 have hok:=hS.hotAt hr;have hrh:X1G r st.rows:=⟨e0,τ,l,ver,hole,z,hr⟩
 have hnd':=XbU hS (X8a hks) hkh;have hdis:=Xog hS hrh hrk hkh;have key:∃g oo cap arr e' b1 b3,σ.row r=.slice (some ⟨g,oo,none⟩) (List.length l) cap/\w.heap[g]?=some (.cells arr e' (0,0))/\oo+c1.length+us.length<=arr.size/\g∈σ.foot r/\(∀x∈b1,x∈σ.foot r)/\(∀x∈b3,x∈σ.foot r)/\
  X4Q (w.setRow g (X0K arr (oo+c1.length) us)) τ (σ.row r) l' (g::(b1++(X56 σ ks++b3)))/\(g::(b1++(X56 σ ks++b3))).Nodup:=by
  have ho:=hok.own;rcases hh with rfl | ⟨i,off,rfl,hp1,hp2⟩
  . obtain⟨g,oo,cap,arr,e',b1,b2,b3,k1,k2,k3,k4,k5,k6,k7⟩:=X4Q.put ho hok.nodup hc hu hl hpos hl' hlen hdis hnd';exact⟨g,oo,cap,arr,e',b1,b3,k1,k2,k3,by rw[k4];simp,λx hx=>by rw[k4];simp[hx],λx hx=>by rw[k4];simp[hx],k6,k7⟩
  . obtain⟨g,oo,cap,arr,e',h1,h2,h3,h4,h5,_,h7⟩:=ho;have hgf:g∈σ.foot r:=by
     rcases h7.cases with⟨ad,k1,k2,_⟩ | ⟨g',o',cap',arr',e'',b1,k1,k2,_⟩
     . subst k2;simp at h3
     . rw[h1]at k1;injection k1 with k3;injection k3 with k4;injection k4 with k5;subst k5;rw[k2];simp
    have hu':X1v (w.setRow g (arr.setIfInBounds (oo+i*size τ+off) (.slice none 0 0))) us ps (X56 σ ks):=hu.frame λx hx=>setRow_other w g x _ (λe=>by subst e;exact hdis x hx hgf);obtain⟨g2,oo2,cap2,arr2,e2,b1,b2,b3,k1,k2,k3,k4,k5,k6,k7⟩:=X4Q.put h7 hok.nodup hc hu' hl hpos hl' hlen hdis hnd';rw[h1]at k1;injection k1 with m1 _ m3;injection m1 with m1;injection m1 with m1 m2 _;subst m1;subst m2;subst m3;rw[setRow_heap w g arr _ e' _ h2]at k2;have m4:arr.setIfInBounds (oo+i*size τ+off) (.slice none 0 0)=arr2:=by cases k2;rfl
    subst m4;simp only[Array.size_setIfInBounds]at k3;refine⟨g,oo,cap,arr,e',b1,b3,h1,h2,k3,hgf,λx hx=>by rw[k4];simp[hx],λx hx=>by rw[k4];simp[hx],?_,k7⟩;rw[h1]at k6 ⊢;refine k6.frame λx hx=>?_;by_cases hxg:x=g
    . subst hxg;have e1:X0K (arr.setIfInBounds (oo+i*size τ+off) (.slice none 0 0)) (oo+c1.length) us=X0K arr (oo+c1.length) us:=by
       rw[show oo+i*size τ+off=oo+c1.length by omega];exact Xrb (by rw[hu.length,hl];exact hp2) (by omega)
      rw[setRow_heap w x arr _ e' _ h2,<-e1];exact(setRow_heap _ x _ _ e' _ (setRow_heap w x arr _ e' _ h2)).symm
    . rw[setRow_other _ _ _ _ hxg,setRow_other _ _ _ _ hxg,setRow_other _ _ _ _ hxg]
 obtain⟨g,oo,cap,arr,e',b1,b3,k1,k2,k3,k4,k5,k6,k7,k8⟩:=key;refine⟨g,oo,cap,arr,e',k1,k2,k3,{σ with foot:=λk=>if k=r then g::(b1++(X56 σ ks++b3)) else σ.foot k,mem:=λk=>if k=r then XeS (w.setRow g (X0K arr (oo+c1.length) us)) τ (σ.row r) (g::(b1++(X56 σ ks++b3))) else σ.mem k},?_⟩;have hlk:∀r' rv,look r' [(r,X0L.hot e0 τ l' (ver+1) none z)]=some rv->r'=r/\rv=.hot e0 τ l' (ver+1) none z:=λr' rv hh=>by
  rw[X08]at hh;split at hh
  . rename_i e1;cases hh;exact⟨e1.symm,rfl⟩
  . cases hh
 have hls:∀r',(look r' [(r,X0L.hot e0 τ l' (ver+1) none z)]).isSome=true->r'=r:=λr' hh=>by
  obtain⟨rv,hrv⟩:=Yao.1 hh;exact(hlk r' rv hrv).1
 have hself:(look r [(r,X0L.hot e0 τ l' (ver+1) none z)]).isSome=true:=by simp[look]
 refine hS.step (S:=[g]) ?_ hv;exact {
  sbox:=rfl
  srow:=rfl
  sfoot:=λr' hn=>by
   have:r'≠r:=λe1=>by subst e1;simp[look]at hn
   simp[this]
  size:=by simp
  os:=by simp
  tape:=by simp
  output:=by simp
  keep:=λk hk hn=>setRow_other w g k _ (λe1=>hn (by simp[e1]))
  touched:=λx hx=>⟨r,hrh,by rw[YaP.1 hx];exact k4,.inr hself⟩
  updOk:=λr' rv hh=>by
   obtain⟨rfl,rfl⟩:=hlk r' rv hh;refine⟨hrk,hrh,_,_,_,_,_,_,rfl,?_⟩;exact {
    info:=hok.info
    pos:=hok.pos
    own:=by simp only[Yah];exact k7
    nodup:=by simp only[Yah];exact k8
    mem:=λad u hu=>by simp only[Yah]at hu ⊢;exact Xel hu
    full:=λ_ ad u hb ht hu=>by simp only[Yah]at hb ht ⊢;rw[XgH hb ht];exact hu
    z:=λhz=>by
     obtain⟨⟨n,xs,hw⟩,hb⟩:=hok.z hz;simp only[Yah];rcases hw.2 with⟨m1,_⟩ | ⟨g',cap',cur,m1,m2,m3,m4,m5,m6,m7⟩
     . rw[m1]at k1;cases k1
     . rw[k1]at m1;injection m1 with n1 n2 n3;injection n1 with n1;injection n1 with n1 n4 _;subst n1;subst n3;rw[k2]at m3;have n5:arr=cur:=by cases m3;rfl
       have n6:e'=e0:=by cases m3;rfl
       subst n5;subst n6;have hsz:=X5c (arr:=arr) (p:=oo+c1.length) (us:=us) k3;refine⟨⟨n,_,⟨?_,.inr ⟨g,cap,X0K arr (oo+c1.length) us,by rw[k1,n2,n4],m2,setRow_heap w g arr _ e' _ k2,m4,m5,by rw[hsz];exact m6,rfl⟩⟩⟩,λx hx=>by rw[k1,X37]at hx;cases hx;simp⟩;rw[Yal,Yaq,hsz,m6,Ya9 (YaY _ m4)]}
  foot:=λr' hh x hx=>by
   have e1:=hls r' hh;subst e1;simp only[Yah]at hx;refine⟨by rw[show(w.setRow g (X0K arr (oo+c1.length) us)).heap.size=w.heap.size by simp];simpa using X1v.lt k7 x hx,.inr ?_⟩;simp only[Yak,Yaf]at hx;rcases hx with rfl | hx | hx | hx
   . exact⟨r',hrh,k4,.inr hself⟩
   . exact⟨r',hrh,k5 x hx,.inr hself⟩
   . obtain⟨r2,m1,m2⟩:=X6x hx;exact⟨r2,hkh r2 m1,m2,.inl m1⟩
   . exact⟨r',hrh,k6 x hx,.inr hself⟩
  apart:=λr1 r2 h1 h2 hne=>absurd ((hls r1 h1).trans (hls r2 h2).symm) hne}
theorem Xhz{τ:Ty}{l:List (El τ)}{i:Nat}(hi:i<List.length l):X0o τ l=X0o τ (l.take i)++(flat τ (l.getD i (dfl τ))++X0o τ (l.drop (i+1))):=by
 have e1:l.getD i (dfl τ)=l[i]:=by rw[Yar,Yax hi];rfl
 rw[e1,<-X3r,<-YbD hi,<-X1f,YaJ]
theorem XjZ{τ:Ty}{l:List (El τ)}{i:Nat}{y:El τ}(hi:i<List.length l):X0o τ (l.set i y)=X0o τ (l.take i)++(flat τ y++X0o τ (l.drop (i+1))):=by
 rw[Xhz (l:=l.set i y) (i:=i) (by simpa using hi)];rw[Yco (YaC _),Ycn (by omega)]
 congr 2
 rw[Yar,Yb2 (by simpa using hi)];rfl
theorem Xki(hT:X1E P tab)(hS:Sim P base M0 ios σ M w a st){t e0:TypeId}{ti:TI}{x y:Operand}{r i off ver:Nat}{τ:Ty}{l l':List (El τ)}{hole:Option (Nat×Nat)}{z:Bool}{ds ps:List X02}{ks:List Nat}{rows:List (Nat×X0L)}(ho:o.op=.store t x y)(hdn:o.dst=none)(hrows:∀r rv,look r rows=some rv->look r st.rows=some rv)(ht:look t tab=some ti)(hr:look r st.rows=some (.hot e0 τ l ver hole z))(hx:X44 σ st.rows st.boxes M (a.eval x) (.hp τ r i off))(hy:X27 (RdT σ st.rows M) (a.eval y).cells.toList ds)(hown:XcN rows ds=some (ps,ks))(hrk:X51 r ks=true)(hks:X60 ks=true)(hl:ds.length=size ti.ty)(hoff:off+ds.length<=size τ)(hpos:0<ds.length)(hset:Xim τ l i off ps=some l')(hh:hole=none\/(hole=some (i,off)/\ds.length=1))(hv:noVers st [(r,.hot e0 τ l' (ver+1) none z)]=true)(hn:X7O P base M0 ios a o st {sv:=.und,krow:=ks,urow:=[(r,.hot e0 τ l' (ver+1) none z)]} next):o.wp P a w next Q:=by
 have hok:=hS.hotAt hr;obtain⟨ad,⟨ad0,n,cap,h1,h2,h3⟩,hx⟩:=hx (by rw[hr];rfl);obtain⟨ax,cx,hlen⟩:=hok.len;have hn':n=List.length l:=by rw[hlen]at h1;injection h1 with _ e2;exact e2.symm
 subst hn';obtain⟨hu,hkh⟩:=Xpx hS hrows hy hown;have hps:=Xcp hown;have hpl:ps.length=ds.length:=by have:=hu.length;rw[<-this,hy.length]
 unfold Xim at hset;split at hset
 . rename_i y' hy';cases hset;have hfl:=X5D _ _ _ _ hy';simp only[YaI,Ybd,Ya8,List.map_take,List.map_drop,XiC,hps]at hfl;have hfx:(flat τ (l.getD i (dfl τ))).length=size τ:=X3k _ _;have hc:X0o τ l=(X0o τ (l.take i)++(flat τ (l.getD i (dfl τ))).take off)++((((flat τ (l.getD i (dfl τ))).drop off).take ps.length)++((flat τ (l.getD i (dfl τ))).drop (off+ps.length)++X0o τ (l.drop (i+1)))):=by
    rw[Xhz h2];have e1:flat τ (l.getD i (dfl τ))=(flat τ (l.getD i (dfl τ))).take off++((((flat τ (l.getD i (dfl τ))).drop off).take ps.length)++(flat τ (l.getD i (dfl τ))).drop (off+ps.length)):=by
     rw[<-YaH,YaJ,YaJ]
    conv=>lhs;rw[e1]
    simp only[Yam]
   have hl':X0o τ (l.set i y')=(X0o τ (l.take i)++(flat τ (l.getD i (dfl τ))).take off)++(ps++((flat τ (l.getD i (dfl τ))).drop (off+ps.length)++X0o τ (l.drop (i+1)))):=by
    rw[XjZ h2,<-hfl];simp only[Yam]
   have hc2:(((flat τ (l.getD i (dfl τ))).drop off).take ps.length).length=ps.length:=by rw[Yal,Yap,hfx];omega
   have hc1:(X0o τ (l.take i)++(flat τ (l.getD i (dfl τ))).take off).length=i*size τ+off:=by
    rw[Yab,X0V,Yal,Yal,hfx,Ya9 (by omega),Ya9 (by omega)]
   obtain⟨g,oo,cap',arr,e',k1,k2,k3,σ',k4⟩:=hS.putRow hr hu hks (X59.1 hrk) hkh hc hc2.symm (by omega) hl' (by simp) (by
    rcases hh with h | ⟨h,h'⟩
    . exact .inl h
    . exact .inr ⟨i,off,h,hc1,by omega⟩) hv
   rw[hc1]at k3 k4;rw[k1]at h1;have e1:ad0=⟨g,oo,none⟩:=by injection h1 with e1;injection e1 with e1;exact e1.symm
   subst e1;have hst:=run_storeCells_at P g (oo+(i*size τ+off)) e' (a.eval y).cells.toList 0 arr w k2 (by rw[Ya6];exact k3) hy.one;simp only[Ya6]at hst;have hsz':(a.eval y).cells.size=size ti.ty:=by rw[<-Yaq,hy.length,hl]
   have hrun:(execOp a.eval o).run P w=.ok .skip (w.setRow g (X0K arr (oo+(i*size τ+off)) (a.eval y).cells.toList)):=by
    have hx':a.eval x=.pointer (some ⟨g,oo+(i*size τ+off),none⟩):=by rw[hx,h3,add_lit]
    simp[execOp,ho,Instr.storeAt,Instr.sureAddr,hx',storeVar,X5X hT ht,hsz',X0K];simp only[Yaq,Yam]at hst;rw[hsz']at hst;simp[hst]
   have hgo:=hn undef σ' M (w.setRow g (X0K arr (oo+(i*size τ+off)) (a.eval y).cells.toList));rw[hdn]at hgo;unfold Oper.wp;rw[hrun];show next (a.put o.dst undef) _
   rw[hdn];refine hgo ?_;show Sim P base M0 ios σ' M _ a (Eff.apply _ none st);unfold Eff.apply;simp only[X5J,YaV];exact k4
 . cases hset
section
theorem Sim.bump(hS:Sim P base M0 ios σ M w a st){e0:TypeId}{τ:Ty}{l:List (El τ)}{r ver:Nat}{z:Bool}(hr:look r st.rows=some (.hot e0 τ l ver none z))(hv:noVers st [(r,.hot e0 τ l (ver+1) none z)]=true):
 Sim P base M0 ios σ M w a {st with rows:=X0A [(r,.hot e0 τ l (ver+1) none z)] [] st.rows}:=by
 have hok:=hS.hotAt hr;have hrh:X1G r st.rows:=⟨e0,τ,l,ver,none,z,hr⟩
 have hlk:∀r' rv,look r' [(r,X0L.hot e0 τ l (ver+1) none z)]=some rv->r'=r/\rv=.hot e0 τ l (ver+1) none z:=λr' rv hh=>by
  rw[X08]at hh;split at hh
  . rename_i e1;cases hh;exact⟨e1.symm,rfl⟩
  . cases hh
 have hls:∀r',(look r' [(r,X0L.hot e0 τ l (ver+1) none z)]).isSome=true->r'=r:=λr' hh=>by
  obtain⟨rv,hrv⟩:=Yao.1 hh;exact(hlk r' rv hrv).1
 refine hS.step (S:=[]) ?_ hv;exact {
  sbox:=rfl
  srow:=rfl
  sfoot:=λr' hn=>⟨rfl,rfl⟩
  size:=YaC _
  os:=rfl
  tape:=rfl
  output:=rfl
  keep:=λk hk hn=>rfl
  touched:=λx hx=>(by cases hx)
  updOk:=λr' rv hh=>by
   obtain⟨rfl,rfl⟩:=hlk r' rv hh;exact⟨by simp,hrh,_,_,_,_,_,_,rfl,hok⟩
  foot:=λr' hh x hx=>by
   have e1:=hls r' hh;subst e1;exact⟨hS.hot.lt r' hrh x hx,.inr ⟨r',hrh,hx,.inr hh⟩⟩
  apart:=λr1 r2 h1 h2 hne=>absurd ((hls r1 h1).trans (hls r2 h2).symm) hne}
theorem XrA(σ:Sg):X56 σ []=[]:=rfl
theorem Sim.putRange(hS:Sim P base M0 ios σ M w a st){e0:TypeId}{τ:Ty}{l m:List (El τ)}{r ver lo:Nat}{z:Bool}(hr:look r st.rows=some (.hot e0 τ l ver none z)){us:List Value}(hu:X1v w us (X0o τ m) [])(hp:0<size τ)(h0:0<List.length m)(hlo:lo+List.length m<=List.length l)(hv:noVers st [(r,.hot e0 τ (l.take lo++(m++l.drop (lo+List.length m))) (ver+1) none z)]=true):
 ∃g oo cap arr e',σ.row r=.slice (some ⟨g,oo,none⟩) (List.length l) cap/\w.heap[g]?=some (.cells arr e' (0,0))/\oo+lo*size τ+us.length<=arr.size/\
  ∃σ',Sim P base M0 ios σ' M (w.setRow g (X0K arr (oo+lo*size τ) us)) a {st with rows:=X0A [(r,.hot e0 τ (l.take lo++(m++l.drop (lo+List.length m))) (ver+1) none z)] [] st.rows}:=by
 have hc:X0o τ l=X0o τ (l.take lo)++(X0o τ ((l.drop lo).take (List.length m))++X0o τ (l.drop (lo+List.length m))):=by
  rw[<-X1f,<-X1f,<-YaH,YaJ,YaJ]
 have hl2:(X0o τ ((l.drop lo).take (List.length m))).length=List.length m*size τ:=by rw[X0V,Yal,Yap,Ya9 (by omega)]
 have hc1:(X0o τ (l.take lo)).length=lo*size τ:=by rw[X0V,Yal,Ya9 (by omega)]
 obtain⟨g,oo,cap,arr,e',k1,k2,k3,σ',k4⟩:=hS.putRow (ks:=[]) hr (by rw[XrA];exact hu) rfl (by simp) (by simp) hc (by rw[hl2,X0V]) (by rw[hl2];exact Nat.mul_pos h0 hp) (by rw[X1f,X1f]) (by simp;omega) (.inl rfl) hv;rw[hc1]at k3 k4;exact⟨g,oo,cap,arr,e',k1,k2,k3,σ',k4⟩
def Xry(σ:Sg)(τ:Ty)(r lo hi:Nat)(n:Nat)(v:Value):Prop:=Xkt τ (σ.row r) lo hi v\/(v=σ.row r/\lo=0/\hi=n)
theorem Xry.slice{r lo hi:Nat}{τ:Ty}{l:List (El τ)}{v:Value}{e:TypeId}{z:Bool}(h:Xry σ τ r lo hi (List.length l) v)(hok:Xd3 P base σ w r e τ l none z):∃ad c,v=.slice ad (hi - lo) c/\(0<hi - lo->∀g oo cap,σ.row r=.slice (some ⟨g,oo,none⟩) (List.length l) cap->ad=some ⟨g,oo+lo*size τ,none⟩):=by
 obtain⟨ax,cx,hlen⟩:=hok.len;rcases h with⟨ad,n,cap,ad',h1,h2,h3,h4,h5⟩ | ⟨rfl,rfl,rfl⟩
 . have hn:n=List.length l:=by rw[hlen]at h1;injection h1 with _ e2;exact e2.symm
   subst hn;refine⟨_,_,h4,λh0 g oo cap' e1=>?_⟩;rw[e1]at h1;injection h1 with e2 _ e3;subst e2;subst e3;have hc:List.length l<=cap':=by
    have h6:0<List.length l:=by omega
    have ho:=hok.own;rcases X4Q.cases ho with⟨_,_,e6,_⟩ | ⟨_,_,cap2,_,_,_,e7,_,_,e8,_⟩
    . rw[e6]at h6;simp at h6
    . rw[e1]at e7;injection e7 with _ _ e9;omega
   rw[h5 (by omega)];simp only[Ych,add_lit]
 . refine⟨ax,cx,by rw[hlen,Nat.sub_zero],λh0 g oo cap' e1=>?_⟩;rw[hlen]at e1;injection e1 with e2 _ _;rw[e2,Nat.zero_mul,Ya6]
theorem Xwv(hT:X1E P tab)(hS:Sim P base M0 ios σ M w a st){tx ty e e0:TypeId}{te:TI}{τ:Ty}{fs:List (Nat×TypeId)}{b:Nat}{x y:Operand}{l l2:List (El τ)}{r ver lo hi:Nat}{z:Bool}(ho:o.op=.call {callee:=.builtin .copy,args:=#[x,y],argTypes:=#[tx,ty]})(hd:∀d,o.dst=some d->d<st.nt)(h:look tx tab=some ⟨.list τ,false,fs,e,b⟩)(he:look e tab=some te)(hte:te.ty=τ)(hp:0<size τ)(hf:Xdc τ=true)(hr:look r st.rows=some (.hot e0 τ l ver none z))(hx:Xry σ τ r lo hi (List.length l) (a.eval x))(hy:RdC (XhR w) (.list τ) [a.eval y] l2)(h1:lo<=hi)(h2:hi<=List.length l)(hv:noVers st [(r,.hot e0 τ (l.take lo++(l2.take (min (hi - lo) (List.length l2))++l.drop (lo+min (hi - lo) (List.length l2)))) (ver+1) none z)]=true)(hn:X7O P base M0 ios a o st {sv:=.val false [.int .i64 (min (hi - lo) (List.length l2):Nat)],urow:=[(r,.hot e0 τ (l.take lo++(l2.take (min (hi - lo) (List.length l2))++l.drop (lo+min (hi - lo) (List.length l2)))) (ver+1) none z)]} next):o.wp P a w next Q:=by
 have hok:=hS.hotAt hr;obtain⟨adx,cx,ex,hx2⟩:=hx.slice hok;obtain⟨ady,cy,css,ey,hly,hmy,hcs,hay⟩:=RdC.cells hy;have hu:=X5t hT h;have hsz:=X5X hT he w;rw[hte]at hsz;have hfin:∀(σ':Sg) (w':World),Sim P base M0 ios σ' M w' a {st with rows:=X0A [(r,.hot e0 τ (l.take lo++(l2.take (min (hi - lo) (List.length l2))++l.drop (lo+min (hi - lo) (List.length l2)))) (ver+1) none z)] [] st.rows}->
  (Builtin.copy_ #[tx,ty] o.type #[a.eval x,a.eval y]).run P w=.ok (goInt ((min (hi - lo) (List.length l2):Nat):Int)) w'->o.wp P a w next Q:=λσ' w' hS' hrun=>by
  refine X1a (v:=goInt ((min (hi - lo) (List.length l2):Nat):Int)) (w':=w') (by simp only[execOp,ho,resolve];simp[invoke,builtin,hrun]) ?_;refine hn _ σ' M w' ?_;have:=hS'.putO (o:=o) (sv:=.val false [.int .i64 (min (hi - lo) (List.length l2):Nat)]) hd (X8D _ _);cases hdst:o.dst with
  | none=>
    rw[hdst]at this;simp only[Eff.apply,X5J,X8R,YaV]at this ⊢;exact this
  | some d=>
    rw[hdst]at this;rw[XbI]at this ⊢;simp only[X8R,YaV]at this ⊢;exact this
 by_cases hk:min (hi - lo) (List.length l2)=0
 . have e1:l.take lo++(l2.take (min (hi - lo) (List.length l2))++l.drop (lo+min (hi - lo) (List.length l2)))=l:=by rw[hk];simp
   refine hfin σ w ?_ ?_
   . rw[e1]at hv ⊢;exact hS.bump hr hv
   . have hcl:(Builtin.firstCells (size τ) 0 (.slice ady (List.length l2) cy)).run P w=.ok #[] w:=by cases ady<;>simp[Builtin.firstCells,loadCells,loadCellsFrom]
     have hmin:Nat.min (List.length l2) (hi - lo)=0:=by rw[Nat.min_comm]at hk;exact hk
     rw[ex,ey,hk];cases adx<;>simp[Builtin.copy_,run_underlying hu,Builtin.lenOf,hsz,hmin,hcl,storeCells]
 . rcases hay with rfl | ⟨ay,rfl,hay⟩
   . simp at hk
   . have hml:List.length (l2.take (min (hi - lo) (List.length l2)))=min (hi - lo) (List.length l2):=by rw[Yal];omega
     have hus:=(X27.take (XkZ hcs) (min (hi - lo) (List.length l2)*size τ))
     rw[<-Xi6]at hus;have hown:=X1v.plain (w:=w) hus (XgL hf _);have hul:(css.flatten.take (min (hi - lo) (List.length l2)*size τ)).length=min (hi - lo) (List.length l2)*size τ:=by rw[hus.length,X0V,hml]
     have hput:=hS.putRange (lo:=lo) (m:=l2.take (min (hi - lo) (List.length l2))) hr hown hp (by omega) (by omega) (by rw[hml];exact hv);rw[hml]at hput;obtain⟨g,oo,cap,arr,e',k1,k2,k3,σ',k4⟩:=hput;refine hfin σ' _ k4 ?_;have hadx:=hx2 (by omega) g oo cap k1;have hst:=run_storeCells_at P g (oo+lo*size τ) e' _ 0 arr w k2 (by rw[Ya6];exact k3) hown.one;simp only[Ya6]at hst;have hfc:=run_firstCells_some (P:=P) w (size τ) (min (hi - lo) (List.length l2)) ay (List.length l2) cy _ hul (λj v hj=>by
      rw[YaE]at hj;split at hj
      . exact hay j v hj
      . cases hj)
     have hmin:Nat.min (List.length l2) (hi - lo)=min (hi - lo) (List.length l2):=Nat.min_comm _ _;rw[ex,ey,hadx];simp only[Builtin.copy_,Ycw,YcN,Ycb,Sem.run_bind,run_underlying hu,Builtin.lenOf,Sem.run_pure,Result.andThen_ok,hsz,hmin,hfc];simp only[hst,Result.andThen_ok,Sem.run_pure,X0K]
theorem Xkq{z:Array Value}{τ:Ty}(hz:z.toList=zeros τ)(hp:0<size τ)(n:Nat):(Builtin.zeroCells z n).toList=(List.replicate n (zeros τ)).flatten:=by
 have h1:=Xc3 (zeros τ) (by rw[X1q];exact hp) n;rw[<-h1,X1q];unfold Builtin.zeroCells;have hs:z.size=size τ:=by rw[<-Yaq,hz,X1q]
 rw[Yb5,YcI,hs];apply YbE;intro j _;rw[<-hz];simp only[getElem!_def,YbJ]
theorem Xux(hT:X1E P tab)(hS:Sim P base M0 ios σ M w a st){tx e e0:TypeId}{te:TI}{τ:Ty}{fs:List (Nat×TypeId)}{b:Nat}{x:Operand}{l:List (El τ)}{r ver lo hi:Nat}{z:Bool}(ho:o.op=.call {callee:=.builtin .clear,args:=#[x],argTypes:=#[tx]})(hd:∀d,o.dst=some d->d<st.nt)(h:look tx tab=some ⟨.list τ,false,fs,e,b⟩)(he:look e tab=some te)(hte:te.ty=τ)(hp:0<size τ)(hr:look r st.rows=some (.hot e0 τ l ver none z))(hx:Xry σ τ r lo hi (List.length l) (a.eval x))(h1:lo<=hi)(h2:hi<=List.length l)(hv:noVers st [(r,.hot e0 τ (l.take lo++(List.replicate (hi - lo) (dfl τ)++l.drop hi)) (ver+1) none z)]=true)(hn:X7O P base M0 ios a o st {sv:=.tup [],urow:=[(r,.hot e0 τ (l.take lo++(List.replicate (hi - lo) (dfl τ)++l.drop hi)) (ver+1) none z)]} next):o.wp P a w next Q:=by
 have hok:=hS.hotAt hr;obtain⟨adx,cx,ex,hx2⟩:=hx.slice hok;have hu:=X5t hT h;obtain⟨zz,hz,hzc⟩:=Xn2 hT he w;rw[hte]at hzc;have hfin:∀(σ':Sg) (w':World),Sim P base M0 ios σ' M w' a {st with rows:=X0A [(r,.hot e0 τ (l.take lo++(List.replicate (hi - lo) (dfl τ)++l.drop hi)) (ver+1) none z)] [] st.rows}->
  (Builtin.clear_ #[tx] o.type #[a.eval x]).run P w=.ok (.tuple #[]) w'->o.wp P a w next Q:=λσ' w' hS' hrun=>by
  refine X1a (v:=.tuple #[]) (w':=w') (by simp only[execOp,ho,resolve];simp[invoke,builtin,hrun]) ?_;refine hn _ σ' M w' ?_;have:=hS'.putO (o:=o) (v:=.tuple #[]) (sv:=.tup []) hd ⟨#[],rfl,.nil⟩;cases hdst:o.dst with
  | none=>
    rw[hdst]at this;simp only[Eff.apply,X5J,X8R,YaV]at this ⊢;exact this
  | some d=>
    rw[hdst]at this;rw[XbI]at this ⊢;simp only[X8R,YaV]at this ⊢;exact this
 by_cases hk:hi - lo=0
 . have e1:l.take lo++(List.replicate (hi - lo) (dfl τ)++l.drop hi)=l:=by rw[hk,show hi=lo by omega];simp
   refine hfin σ w ?_ ?_
   . rw[e1]at hv ⊢;exact hS.bump hr hv
   . rw[ex,hk];cases adx<;>simp[Builtin.clear_,run_underlying hu]
 . have hml:List.length (List.replicate (hi - lo) (dfl τ))=hi - lo:=YbS;have hown:=X1v.zerosN (w:=w) τ (hi - lo);have e2:lo+List.length (List.replicate (hi - lo) (dfl τ))=hi:=by rw[hml];omega
   have hput:=hS.putRange (lo:=lo) (m:=List.replicate (hi - lo) (dfl τ)) hr hown hp (by omega) (by omega) (by rw[e2];exact hv);rw[e2]at hput;obtain⟨g,oo,cap,arr,e',k1,k2,k3,σ',k4⟩:=hput;refine hfin σ' _ k4 ?_;have hadx:=hx2 (by omega) g oo cap k1;have hst:=run_storeCells_at P g (oo+lo*size τ) e' _ 0 arr w k2 (by rw[Ya6];exact k3) hown.one;simp only[Ya6]at hst;have hzl:=Xkq hzc hp (hi - lo);rw[Xit]at hzl;rw[ex,hadx];obtain⟨n,hn'⟩:∃n,hi - lo=n+1:=⟨hi - lo - 1,by omega⟩
   rw[hn']at hzl hst ⊢;simp only[Builtin.clear_,Ycw,YcN,Sem.run_bind,run_underlying hu,Sem.run_pure,Result.andThen_ok,hz,hzl];simp only[hst,Result.andThen_ok,Sem.run_pure,X0K]
theorem Xqn(hT:X1E P tab)(hS:Sim P base M0 ios σ M w a st){t e:TypeId}{τ0 τ:Ty}{fs:List (Nat×TypeId)}{b:Nat}{x:Operand}{l:List (El τ)}{N:Mem}(ho:o.op=.call {callee:=.builtin .len,args:=#[x],argTypes:=#[t]})(hd:∀d,o.dst=some d->d<st.nt)(h:look t tab=some ⟨.list τ0,false,fs,e,b⟩)(hx:RdC N (.list τ) [a.eval x] l)(hn:X7O P base M0 ios a o st {sv:=.val false [.int .i64 (List.length l)]} next):o.wp P a w next Q:=by
 obtain⟨ad,cap,e1,_,_,_⟩:=hx;have hv:a.eval x=.slice ad (List.length l) cap:=YbX e1;refine X1a (v:=.int .i64 (List.length l)) (w':=w) ?_ (hn _ σ M w (hS.putO hd (X8D _ _)));have hu:=X5t hT h;simp[execOp,ho,resolve,invoke,builtin,Builtin.len_,hv,run_underlying hu,goInt]
theorem Xqt(ns:List Int):∀(acc:ByteArray),ns.foldl (λr n=>r.push (UInt8.ofNat n.toNat)) acc=acc++⟨(ns.map λn=>UInt8.ofNat n.toNat).toArray⟩:=by
 induction ns with
 | nil=>intro acc;apply Ydk;simp[Yc7]
 | cons n ns ih=>
   intro acc;rw[Ybr,ih];apply Ydk;simp[Yc7,ByteArray.data_push]
theorem XqZ{N:Mem}{css:List (List Value)}{l:List Int}(h:X27 (RdC N (.int .u8)) css l):css.flatten=l.map (Value.int .u8):=by
 induction h with
 | nil=>rfl
 | @cons c n cs ns hx hr ih=>
   have:c=[.int .u8 n]:=hx;rw[this,Ybs,ih];rfl
theorem XkE(hT:X1E P tab)(hS:Sim P base M0 ios σ M w a st){s t e e':TypeId}{fs fs':List (Nat×TypeId)}{b b':Nat}{te:TI}{x:Operand}{l:List Int}(ho:o.op=.convert s t x)(hd:∀d,o.dst=some d->d<st.nt)(h:look t tab=some ⟨.str,false,fs,e,b⟩)(hs:look s tab=some ⟨.list (.int .u8),false,fs',e',b'⟩)(he:look e' tab=some te)(hte:te.ty=.int .u8)(hta:te.agg=false)(hx:RdC (XhR w) (.list (.int .u8)) [a.eval x] l)(hn:X7O P base M0 ios a o st {sv:=.val false [.str (l.map λn=>UInt8.ofNat n.toNat)]} next):o.wp P a w next Q:=by
 obtain⟨ad,cap,css,ev,hl,hm,hc,had⟩:=RdC.cells (τ:=.int .u8) hx;have hcs:css.flatten=l.map (Value.int .u8):=XqZ hc;have hue:P.underlying e'=some (.int .u8):=by have:=(hT e' te he).und;rw[hta,hte]at this;simpa using this
 have hconv:=run_convert_bytes_string (P:=P) w s t e' ad l.length cap (X5t hT hs) hue (XoG hT h);refine X1a (v:=.string ⟨(l.map λn=>UInt8.ofNat n.toNat).toArray⟩) (w':=w) ?_ (hn _ σ M w (hS.putO hd (XoU _)));simp only[execOp,ho,ev];rw[Sem.run_bind,hconv];rcases had with h0 | ⟨a0,e0,h2⟩
 . subst h0;cases ad with
   | none=>simp[Conv.bytesToString];rfl
   | some a1=>
     have:=run_bytesToString (P:=P) w a1 0 cap [] (by simp[loadCells,loadCellsFrom]);simp only[Yai];rw[this];rfl
 . subst e0;have hload:(loadCells a0 l.length).run P w=.ok (l.map (Value.int .u8)).toArray w:=by
    have:=run_loadCells_list (P:=P) w a0 (l.map (Value.int .u8)) (λj u hu=>h2 j u (by rw[hcs];exact hu));simpa using this
   rw[run_bytesToString w a0 l.length cap l hload,Xqt];simp only[Result.andThen_ok,Sem.run_pure]
   congr 3
theorem X9c(hT:X1E P tab){t:TypeId}{ti te:TI}{τ0 τ:Ty}{x:Operand}{lo hi:Option Operand}{len cap:Nat}{ad:Option Addr}{n m:Option Int}{kl kh:IntKind}(ho:o.op=.slice t x lo hi none)(h:look t tab=some ti)(hty:ti.ty=.list τ0)(hg:ti.agg=false)(he:look ti.elem tab=some te)(hs:size te.ty=size τ)(hv:a.eval x=.slice ad len cap)(hlo:lo.map a.eval=n.map (Value.int kl))(hhi:hi.map a.eval=m.map (Value.int kh))(h0:∀j,n=some j->0<=j)(h1:∀j,m=some j->0<=j)(h2:Xcs n<=Xc7 len m)(h3:Xc7 len m<=len)(hl:len<=cap):
 (execOp a.eval o).run P w=.ok (.value (.slice (if cap=Xcs n then ad else ad.map (·.add (Xcs n*size τ))) (Xc7 len m - Xcs n) (cap - Xcs n))) w:=by
 have hu:P.underlying t=some (.slice ti.elem):=by have:=(hT t ti h).und;rw[hg,hty]at this;simpa using this
 have hb:=Xh8 (P:=P) (isS:=true) (len:=len) (cap:=cap) n m kl kh h0 h1 h2 (by omega) w;have hsz:=X5X hT he w;rw[hs]at hsz;rw[<-hlo,<-hhi]at hb;simp[execOp,ho,hv,Instr.sliceAt,run_underlying hu,Instr.slice,hb,hsz]
theorem Xak{τ:Ty}{l:List (El τ)}{n m:Option Int}(h:∀p∈(X5n τ l n m).1,p):
 (∀j,n=some j->0<=j)/\(∀j,m=some j->0<=j)/\Xcs n<=Xc7 (List.length l) m/\Xc7 (List.length l) m<=List.length l/\(X5n τ l n m).2.1=(l.take (Xc7 (List.length l) m)).drop (Xcs n)/\(X5n τ l n m).2.2=(Xcs n,Xc7 (List.length l) m):=by
 cases n with
 | none=>cases m with
   | none=>exact⟨λ_ e=>(by cases e),λ_ e=>(by cases e),by simp[Xcs],by simp[Xc7],by simp[X5n,Xcs,Xc7],rfl⟩
   | some j=>
     have k1:0<=j:=h _ (by simp[X5n]);have k2:j<=(List.length l:Int):=h _ (by simp[X5n]);refine⟨λ_ e=>(by cases e),λ_ e=>(by cases e;exact k1),by simp[Xcs],(by simp only[Xc7];omega),by simp[X5n,Xcs,Xc7],rfl⟩
 | some i=>cases m with
   | none=>
     have k1:0<=i:=h _ (by simp[X5n]);have k2:i<=(List.length l:Int):=h _ (by simp[X5n]);exact⟨λ_ e=>(by cases e;exact k1),λ_ e=>(by cases e),(by simp only[Xcs,Xc7];omega),by simp[Xc7],by simp[X5n,Xcs,Xc7],rfl⟩
   | some j=>
     have k1:0<=i:=h _ (by simp[X5n]);have k2:i<=j:=h _ (by simp[X5n]);have k3:j<=(List.length l:Int):=h _ (by simp[X5n]);exact⟨λ_ e=>(by cases e;exact k1),λ_ e=>(by cases e;omega),(by simp only[Xcs,Xc7];omega),(by simp only[Xc7];omega),rfl,rfl⟩
theorem X4Q.cap{t:Ty}{v:Value}{l:List (El t)}{bs:List Nat}(h:X4Q w t v l bs){ad:Option Addr}{n cap:Nat}(hv:v=.slice ad n cap):n=List.length l/\n<=cap:=by
 obtain⟨ad',cap',e,h1,_⟩:=h.slice;rw[hv]at e;injection e with _ e2 e3;exact⟨e2,by omega⟩
structure Dec (w:World) (τ:Ty) (v:Value) (L:List (El τ)) (i off:Nat) (t:Ty) (l0:List (El t)) (u:Value) (fo pre mid post:List Nat):Prop where
 foot:fo=pre++(mid++post)
 own:X4Q w t u l0 mid
 back:∀(w':World) (l':List (El t)) (mid':List Nat) (L':List (El τ)),(∀g∈pre++post,w'.heap[g]?=w.heap[g]?)->X4Q w' t u l' mid'->Xim τ L i off [.lst t l' none]=some L'->X4Q w' τ v L' (pre++(mid'++post))
 hole:∀(w':World) (L':List (El τ)),(∀g∈pre++post,w'.heap[g]?=w.heap[g]?)->Xim τ L i off [.lst t [] none]=some L'->XxZ w' τ v L' (some (i,off)) (pre++post)
theorem Xlk{τ:Ty}{v:Value}{L:List (El τ)}{i off:Nat}{t:Ty}{l0:List (El t)}{u:Value}{fo:List Nat}(h:X4Q w τ v L fo)(hnd:fo.Nodup)(hf:(flat τ (L.getD i (dfl τ)))[off]?=some (.lst t l0 none)){ad:Addr}(hat:atOf τ v i off ad)(hu:w.cell? ad=some u):
 ∃p:List Nat×List Nat×List Nat,Dec w τ v L i off t l0 u fo p.1 p.2.1 p.2.2:=by
 obtain⟨ad0,n,cap0,hv,hi0,rfl⟩:=hat;rcases h.cases with⟨_,rfl,rfl,_⟩ | ⟨g,o,cap,arr,e,b,rfl,rfl,hg,h2,h3,h4,h5⟩
 . injection hv with _ e2 _;omega
 . injection hv with e1 e2 e3;injection e1 with e1;subst e1;subst e2;have hi:i<L.length:=hi0;have hoff:off<size τ:=by rw[<-X3k τ (L.getD i (dfl τ))];exact(Ya3.1 hf).1
   have hfx:(flat τ (L.getD i (dfl τ))).length=size τ:=X3k _ _;have e1:flat τ (L.getD i (dfl τ))=(flat τ (L.getD i (dfl τ))).take off++([.lst t l0 none]++(flat τ (L.getD i (dfl τ))).drop (off+1)):=by
    obtain⟨hlt,hge⟩:=Ya3.1 hf
    conv=>lhs;rw[<-YaJ off (flat τ (L.getD i (dfl τ)))]
    rw[YbD hlt,hge];rfl
   have hc:X0o τ L=(X0o τ (L.take i)++(flat τ (L.getD i (dfl τ))).take off)++([.lst t l0 none]++((flat τ (L.getD i (dfl τ))).drop (off+1)++X0o τ (L.drop (i+1)))):=by
    rw[Xhz hi]
    conv=>lhs;rw[e1]
    simp only[Yam]
   have hc1:(X0o τ (L.take i)++(flat τ (L.getD i (dfl τ))).take off).length=i*size τ+off:=by
    rw[Yab,X0V,Yal,Yal,hfx,Ya9 (by omega),Ya9 (by omega)]
   obtain⟨v1,v2,v3,b1,b2,b3,ev,rfl,k1,k2,k3⟩:=XfP h5 hc;have hl1:=k1.length;have hl2:=k2.length;obtain⟨u',rfl⟩:∃u',v2=[u']:=by
    match v2,hl2 with
    | [x],_=>exact⟨x,rfl⟩
   have hu':u'=u:=by
    have hx:((arr.toList.drop o).take (L.length*size τ))[i*size τ+off]?=some u':=by
     rw[ev,<-hc1,<-hl1,Ybb (YaC _),Yb3];rfl
    rw[YaE]at hx;split at hx
    . have:=X5z hg hx;rw[X8S]at hu;rw[this]at hu;injection hu
    . cases hx
   subst hu';have hL':∀(l':List (El t)) (L':List (El τ)),Xim τ L i off [.lst t l' none]=some L'->X0o τ L'=(X0o τ (L.take i)++(flat τ (L.getD i (dfl τ))).take off)++([.lst t l' none]++((flat τ (L.getD i (dfl τ))).drop (off+1)++X0o τ (L.drop (i+1))))/\L'.length=L.length/\(flat τ (L'.getD i (dfl τ)))[off]?=some (.lst t l' none):=λl' L' hset=>by
    unfold Xim at hset;split at hset
    . rename_i y' hy';cases hset;have hfl:=X5D _ _ _ _ hy';simp only[YaI,Ybd,Ya8,List.map_take,List.map_drop,XiC,Yas,unT]at hfl;refine⟨?_,by simp,?_⟩
      . rw[XjZ hi,<-hfl];simp only[Yam,Yad,Yai]
      . have e3:(L.set i y').getD i (dfl τ)=y':=by
         rw[Yar,Yb2 hi];rfl
        rw[e3,<-hfl];have e4:((flat τ (L.getD i (dfl τ))).take off).length=off:=by rw[Yal,hfx];omega
        rw[Ybb (by omega),e4,Yb3];rfl
    . cases hset
   refine⟨(g::b1,b2,b3),by simp,k2,λw' l' mid' L' hfr hown hset=>?_,λw' L' hfr hset=>?_⟩
   . obtain⟨hL1,hL2,_⟩:=hL' l' L' hset;have hw1:w'.heap[g]?=w.heap[g]?:=hfr g (by simp);rw[<-hL2]at h2 ev ⊢;have:=X4Q.mk (l:=L') (t:=τ) (g:=g) (o:=o) (cap:=cap) (arr:=arr) (e:=e) (b1:=b1++(mid'++b3)) (by rw[hw1];exact hg) h2 h3 h4 (by
      rw[ev,hL1];exact(k1.frame λx hx=>hfr x (by simp[hx])).append (X1v.append hown (k3.frame λx hx=>hfr x (by simp[hx]))))
     simpa using this
   . obtain⟨hL1,hL2,hL3⟩:=hL' [] L' hset;have hw1:w'.heap[g]?=some (.cells arr e (0,0)):=by rw[hfr g (by simp)];exact hg
     have hmul:(i+1)*size τ<=L.length*size τ:=YaY _ (by omega);have hmul2:L.length*size τ<=cap*size τ:=YaY _ h2;rw[Ya0,Nat.one_mul]at hmul;have hpos:o+i*size τ+off<arr.size:=by omega
     refine⟨g,o,cap,arr,e,by rw[hL2],hw1,by rw[hL2];exact hi,hoff,hpos,⟨t,hL3⟩,?_⟩;have hlp:=Xpf arr.toList [Value.slice none 0 0] v1 [u'] v3 o _ ev rfl (by have hsz:arr.toList.length=arr.size:=Yaq;omega);have hset':(arr.setIfInBounds (o+i*size τ+off) (.slice none 0 0)).toList=arr.toList.take (o+v1.length)++[Value.slice none 0 0]++arr.toList.drop (o+v1.length+[Value.slice none 0 0].length):=by
      rw[YcB,hl1,hc1,<-Yca];rw[YcX,Yah (by rw[Yaq];exact hpos)];simp
     have hnd':=hnd;simp only[YaB,Yaf,YcD]at hnd';have hfr2:∀(vs:List Value) (cs:List X02) (bb:List Nat),X1v w vs cs bb->(∀x∈bb,x≠g/\w'.heap[x]?=w.heap[x]?)->X1v (w'.setRow g (arr.setIfInBounds (o+i*size τ+off) (.slice none 0 0))) vs cs bb:=λvs cs bb hh hx=>
      hh.frame λx hxb=>by rw[setRow_other w' g x _ (hx x hxb).1];exact(hx x hxb).2
     rw[<-hL2]at h2 ev hlp ⊢;have:=X4Q.mk (w:=w'.setRow g (arr.setIfInBounds (o+i*size τ+off) (.slice none 0 0))) (l:=L') (t:=τ) (g:=g) (o:=o) (cap:=cap) (arr:=arr.setIfInBounds (o+i*size τ+off) (.slice none 0 0)) (e:=e) (b1:=b1++([]++b3)) (XiK w' g arr _ e hw1) h2 h3 (by rw[Array.size_setIfInBounds];exact h4) (by
      rw[hset',hlp,hL1];exact(hfr2 _ _ _ k1 λx hx=>⟨λe1=>hnd'.1.1 (e1▸hx),hfr x (by simp[hx])⟩).append (X1v.append (X1v.emp .nil) (hfr2 _ _ _ k3 λx hx=>⟨λe1=>hnd'.1.2.2 (e1▸hx),hfr x (by simp[hx])⟩)))
     simpa using this
open Classical in
noncomputable def X8K(w:World)(σ:Sg)(rows:List (Nat×X0L))(cs:List X02)(vs:List Value)(j:Nat):List Nat×List Nat×List Nat:=
 match cs[j]?,vs[j]? with
 | some (.bor t l r _ (some (i,off))),some u=>match look r rows with
   | some (.hot _ τ L _ _ _)=>if h:∃p:List Nat×List Nat×List Nat,Dec w τ (σ.row r) L i off t l u (σ.foot r) p.1 p.2.1 p.2.2 then Classical.choose h else([],[],[])
   | _=>([],[],[])
 | _,_=>([],[],[])
theorem Xl9(hS:Sim P base M0 ios σ M w a st){rows:List (Nat×X0L)}(hr:∀r rv,look r rows=some rv->look r st.rows=some rv){cs:List X02}{vs:List Value}{j r ver i off:Nat}{t:Ty}{l:List (El t)}{u:Value}{e:TypeId}{τ:Ty}{L:List (El τ)}{z:Bool}(hc:cs[j]?=some (.bor t l r ver (some (i,off))))(hu:vs[j]?=some u)(hl:look r rows=some (.hot e τ L ver none z))(hrd:RdT σ st.rows M u (.bor t l r ver (some (i,off)))):
 Dec w τ (σ.row r) L i off t l u (σ.foot r) (X8K w σ rows cs vs j).1 (X8K w σ rows cs vs j).2.1 (X8K w σ rows cs vs j).2.2:=by
 have hl':=hr r _ hl;have hok:=hS.hotAt hl';obtain⟨_,hp⟩:=hrd.2 _ hl' rfl;obtain⟨q1,ad,q2,q3⟩:=hp i off rfl;have hex:=Xlk hok.own hok.nodup q1 q2 (hok.mem _ _ q3).1;have he:X8K w σ rows cs vs j=Classical.choose hex:=by
  unfold X8K;simp only[hc,hu,hl];exact dif_pos hex
 rw[he];exact Classical.choose_spec hex
noncomputable def Xbn(w:World)(σ:Sg)(rows:List (Nat×X0L))(cs:List X02)(vs:List Value)(j:Nat):List Nat:=match cs[j]? with
 | some (.own _ r)=>σ.foot r
 | some (.bor _ _ _ _ (some _))=>(X8K w σ rows cs vs j).2.1
 | _=>[]
theorem Xpc(hS:Sim P base M0 ios σ M w a st){w':World}{d:Nat}{ks:List Nat}{S:List Nat}{e:TypeId}{t:Ty}{l l0:List (El t)}{v u:Value}{fo:List Nat}(hd:o.dst=some d)(hdn:d<st.nt){r ver i off:Nat}{e0:TypeId}{τ:Ty}{L L':List (El τ)}{z:Bool}{pre mid post:List Nat}(hl:look r st.rows=some (.hot e0 τ L ver none z))(hD:Dec w τ (σ.row r) L i off t l0 u (σ.foot r) pre mid post)(hset:Xim τ L i off [.lst t [] none]=some L')(hrk:r∉ks)(hsz:w.heap.size<=w'.heap.size)(hos:w'.os=w.os)(htp:w'.tape=w.tape)(hou:w'.output=w.output)(hkeep:∀k,k<w.heap.size->k∉S->w'.heap[k]?=w.heap[k]?)(hS':∀g∈S,g∈mid)(hfo:∀g∈fo,g<w'.heap.size/\(w.heap.size<=g\/g∈mid\/∃r∈ks,X1G r st.rows/\g∈σ.foot r))(hi:∃i,P.info? e=some i/\i.size=size t)(hp:0<size t)(ho:X4Q w' t v l fo)(hn:fo.Nodup)(hfr:noTag (X0J d 0) st=true)(hnv:noVers st [(r,.hot e0 τ L' (ver+1) (some (i,off)) false)]=true)(hgo:X7O P base M0 ios a o st {sv:=.val false [.own t (X0J d 0)],nrow:=[(X0J d 0,.hot e t l 0 none false)],krow:=ks,urow:=[(r,.hot e0 τ L' (ver+1) (some (i,off)) false)]} next):next (a.put o.dst v) w':=by
 have hok:=hS.hotAt hl;have hrh:X1G r st.rows:=⟨_,_,_,_,_,_,hl⟩
 have hnd:=hok.nodup;rw[hD.foot]at hnd;obtain⟨n1,n2,n3⟩:=YaF.1 hnd;obtain⟨n4,n5,n6⟩:=YaF.1 n2;have hsub:∀g∈pre++post,g∈σ.foot r:=λg hg=>by
  rw[hD.foot];rcases Yaf.1 hg with h | h
  . exact Yaf.2 (.inl h)
  . exact Yaf.2 (.inr (Yaf.2 (.inr h)))
 have hmid:∀g∈mid,g∈σ.foot r/\g∉pre++post:=λg hg=>by
  refine⟨by rw[hD.foot];exact Yaf.2 (.inr (Yaf.2 (.inl hg))),λh=>?_⟩;rcases Yaf.1 h with h | h
  . exact n3 g h g (Yaf.2 (.inl hg)) rfl
  . exact n6 g hg g h rfl
 have hlk:∀r' rv,look r' [(r,X0L.hot e0 τ L' (ver+1) (some (i,off)) false)]=some rv->r'=r/\rv=.hot e0 τ L' (ver+1) (some (i,off)) false:=λr' rv hh=>by
  rw[X08]at hh;split at hh
  . rename_i e1;cases hh;exact⟨e1.symm,rfl⟩
  . cases hh
 have hls:∀r',(look r' [(r,X0L.hot e0 τ L' (ver+1) (some (i,off)) false)]).isSome=true->r'=r:=λr' hh=>by
  obtain⟨rv,hrv⟩:=Yao.1 hh;exact(hlk r' rv hrv).1
 have hself:(look r [(r,X0L.hot e0 τ L' (ver+1) (some (i,off)) false)]).isSome=true:=by simp[look]
 have h1:Sim P base M0 ios {σ with foot:=λk=>if k=r then pre++post else σ.foot k,mem:=λk=>if k=r then λ_=>none else σ.mem k} M w' a {st with rows:=X0A [(r,.hot e0 τ L' (ver+1) (some (i,off)) false)] ks st.rows}:=by
  refine hS.step (S:=S) ?_ hnv;exact {
   sbox:=rfl
   srow:=rfl
   sfoot:=λr' hn=>by
    have:r'≠r:=λe1=>by subst e1;simp[look]at hn
    simp[this]
   size:=hsz
   os:=hos
   tape:=htp
   output:=hou
   keep:=hkeep
   touched:=λx hx=>⟨r,hrh,(hmid x (hS' x hx)).1,.inr hself⟩
   updOk:=λr' rv hh=>by
    obtain⟨rfl,rfl⟩:=hlk r' rv hh;refine⟨hrk,hrh,_,_,_,_,_,_,rfl,?_⟩;exact {
     info:=hok.info
     pos:=hok.pos
     own:=by
      simp only[Yah];exact hD.hole w' L' (λg hg=>hkeep g (hS.hot.lt r' hrh g (hsub g hg)) λhgS=>(hmid g (hS' g hgS)).2 hg) hset
     nodup:=by
      simp only[Yah];rw[YaF];exact⟨n1,n5,λx hx y hy e1=>n3 x hx y (Yaf.2 (.inr hy)) e1⟩
     mem:=λad u hu=>by simp only[Yah]at hu;cases hu
     full:=λh=>by cases h
     z:=λh=>by cases h}
   foot:=λr' hh x hx=>by
    have e1:=hls r' hh;subst e1;simp only[Yah]at hx;exact⟨Ybe (hS.hot.lt r' hrh x (hsub x hx)) hsz,.inr ⟨r',hrh,hsub x hx,.inr hself⟩⟩
   apart:=λr1 r2 h1 h2 hne=>absurd ((hls r1 h1).trans (hls r2 h2).symm) hne}
 have hhs:∀r',X1G r' (X0A [(r,.hot e0 τ L' (ver+1) (some (i,off)) false)] ks st.rows)->r'∉ks/\X1G r' st.rows:=λr' ⟨e',t',l',ver',hole',z',hl'⟩=>by
  obtain⟨k0,k1⟩:=X4y hl';refine⟨k0,?_⟩;rcases k1 with k1 | ⟨_,k1⟩
  . obtain⟨rfl,_⟩:=hlk r' _ k1;exact hrh
  . exact⟨_,_,_,_,_,_,k1⟩
 have h2:=h1.newHot (r:=X0J d 0) (e:=e) (t:=t) (l:=l) (hole:=none) (z:=false) (v:=v) (fo:=fo) (m:=XeS w' t v fo) (by
  have h0:=XdA hfr;unfold noTag at hfr ⊢;rw[Yac,Yac]at hfr ⊢;refine⟨hfr.1,?_⟩;have:look (X0J d 0) (X0A [(r,.hot e0 τ L' (ver+1) (some (i,off)) false)] ks st.rows)=none:=by
   cases hlq:look (X0J d 0) (X0A [(r,.hot e0 τ L' (ver+1) (some (i,off)) false)] ks st.rows) with
   | none=>rfl
   | some rv=>
     obtain⟨_,k1⟩:=X4y hlq;rcases k1 with k1 | ⟨_,k1⟩
     . obtain⟨e1,_⟩:=hlk _ _ k1;rw[e1,hl]at h0;cases h0
     . rw[h0]at k1;cases k1
  simp[this]) (XdC d 0) (λg hg=>by
  obtain⟨k1,k2⟩:=hfo g hg;have inside:∀r0,X1G r0 st.rows->g∈σ.foot r0->(∀r',X1G r' (X0A [(r,.hot e0 τ L' (ver+1) (some (i,off)) false)] ks st.rows)->g∉(if r'=r then pre++post else σ.foot r'))->XmA base ios {σ with foot:=λk=>if k=r then pre++post else σ.foot k,mem:=λk=>if k=r then λ_=>none else σ.mem k} M w' {st with rows:=X0A [(r,.hot e0 τ L' (ver+1) (some (i,off)) false)] ks st.rows} g:=λr0 q1 q2 q3=>{
   base:=hS.hot.base r0 q1 g q2
   noM:=hS.hot.noM r0 q1 g q2
   noBox:=λk hk' e=>hS.hot.noBox r0 q1 k hk' (by rw[show σ.box k=g from e];exact q2)
   noRow:=λr' hr' e=>by
    obtain⟨e',he'⟩:=Yao.1 hr';obtain⟨rv,m1,m2⟩:=X6w he';obtain⟨_,m3⟩:=X4y m1;rcases m3 with m3 | ⟨_,m3⟩
    . obtain⟨_,rfl⟩:=hlk r' rv m3;cases m2
    . exact hS.hot.noRow r0 q1 r' (by rw[show st.row r'=some e' from X9T m3 m2];rfl) g e q2
   noHot:=q3
   lt:=k1}
  rcases k2 with k2 | k2 | ⟨r0,m1,m2,m3⟩
  . exact {
     base:=.inl (YaW hS.fr.size k2)
     noM:=λad had=>by
      cases hm:M ad with
      | none=>rfl
      | some v=>have:=hS.mem_lt hm;omega
     noBox:=λk hk e1=>by have:=hS.box_lt hk;have e2:σ.box k=g:=e1;omega
     noRow:=λr' hr' e1=>by
      obtain⟨e',he'⟩:=Yao.1 hr';obtain⟨rv,m1,m2⟩:=X6w he';obtain⟨_,m3⟩:=X4y m1;rcases m3 with m3 | ⟨_,m3⟩
      . obtain⟨_,rfl⟩:=hlk r' rv m3;cases m2
      . have:=(hS.row_lt (by rw[show st.row r'=some e' from X9T m3 m2];rfl) e1).2;omega
     noHot:=λr' hh hg'=>by
      have hg2:g∈(if r'=r then pre++post else σ.foot r'):=hg';split at hg2
      . have:=hS.hot.lt r hrh g (hsub g hg2);omega
      . have:=hS.hot.lt r' (hhs r' hh).2 g hg2;omega
     lt:=k1}
  . refine inside r hrh (hmid g k2).1 λr' hh hg'=>?_;split at hg'
    . exact(hmid g k2).2 hg'
    . rename_i hne;exact hS.hot.apart r r' hrh (hhs r' hh).2 (YaK hne) g (hmid g k2).1 hg'
  . refine inside r0 m2 m3 λr' hh hg'=>?_;have hne0:r0≠r:=λe1=>hrk (e1▸m1);split at hg'
    . exact hS.hot.apart r0 r m2 hrh hne0 g m3 (hsub g hg')
    . exact hS.hot.apart r0 r' m2 (hhs r' hh).2 (λe1=>(hhs r' hh).1 (e1▸m1)) g m3 hg') (XiV (σ:={σ with foot:=λk=>if k=r then pre++post else σ.foot k,mem:=λk=>if k=r then λ_=>none else σ.mem k}) hi hp ho hn (λh=>by cases h))
 have h3:=h2.put (d:=d) (v:=v) (sv:=.val false [.own t (X0J d 0)]) hdn (X0Y.mk1 ⟨by
  obtain⟨ad,cap,e1,_⟩:=ho.slice;rw[e1];rfl,by intro _;simp⟩ (by obtain⟨ad,cap,e1,_⟩:=ho.slice;rw[e1];rfl))
 unfold X7O at hgo;rw[hd]at hgo ⊢;refine hgo v (Sg.hot {σ with foot:=λk=>if k=r then pre++post else σ.foot k,mem:=λk=>if k=r then λ_=>none else σ.mem k} w' (X0J d 0) t v fo) M w' ?_;rw[XbI];exact h3
theorem Xm9(hT:X1E P tab)(hS:Sim P base M0 ios σ M w a st){t e:TypeId}{te:TI}{τ:Ty}{fs:List (Nat×TypeId)}{b d:Nat}{x y:Operand}{l l2:List (El τ)}{ks b':List Nat}(ho:o.op=.call {callee:=.builtin .append,args:=#[x,y],argTypes:=#[t,t]})(hd:o.dst=some d)(hdn:d<st.nt)(h:look t tab=some ⟨.list τ,false,fs,e,b⟩)(he:look e tab=some te)(hte:te.ty=τ)(hpos:0<size τ){r ver i off:Nat}{e0:TypeId}{τ0:Ty}{L L':List (El τ0)}{z:Bool}{pre mid post:List Nat}(hl:look r st.rows=some (.hot e0 τ0 L ver none z))(hD:Dec w τ0 (σ.row r) L i off τ l (a.eval x) (σ.foot r) pre mid post)(hset:Xim τ0 L i off [.lst τ [] none]=some L')(hrk:r∉ks)(hy:XeY w τ (a.eval y) l2 b')(hb':b'.Nodup)(hk2:∀g∈b',∃r∈ks,X1G r st.rows/\g∈σ.foot r)(hlen:List.length l+List.length l2<=9223372036854775807)(hby:(List.length l+List.length l2)*te.bytes<=140737488355328)(hfr:noTag (X0J d 0) st=true)(hnv:noVers st [(r,.hot e0 τ0 L' (ver+1) (some (i,off)) false)]=true)(hn:X7O P base M0 ios a o st {sv:=.val false [.own τ (X0J d 0)],nrow:=[(X0J d 0,.hot e τ (l++l2) 0 none false)],krow:=ks,urow:=[(r,.hot e0 τ0 L' (ver+1) (some (i,off)) false)]} next):o.wp P a w next Q:=by
 obtain⟨i',z',hi,hs,hib,hz,hzc⟩:=(hT e te he).info;rw[hte]at hs hzc;have hzl:z'.cells.size=i'.size:=by rw[<-Yaq,hzc,X1q,hs]
 have hue:=X5t hT h;have hx:=hD.own;have hok:=hS.hotAt hl;have hrh:X1G r st.rows:=⟨_,_,_,_,_,_,hl⟩
 have hnd:=hok.nodup;rw[hD.foot]at hnd;have hbs:mid.Nodup:=(YaF.1 (YaF.1 hnd).2.1).1;have hmid:∀g∈mid,g∈σ.foot r:=λg hg=>by rw[hD.foot];exact Yaf.2 (.inr (Yaf.2 (.inl hg)))
 have hdis:∀g∈b',g∉mid:=λg hg hg'=>by
  obtain⟨r0,m1,m2,m3⟩:=hk2 g hg;exact hS.hot.apart r0 r m2 hrh (λe1=>hrk (e1▸m1)) g m3 (hmid g hg')
 cases hy with
 | @none ad c hv hl2 hb=>
   subst hl2;subst hb;obtain⟨ax,cx,ex,hlx,hmx⟩:=hx.slice;have hrun:=XbW (P:=P) (w:=w) t o.type e i' hue hi ax (List.length l) cx c hlx ad;refine X1a (v:=a.eval x) (w':=w) (by simp only[execOp,ho,resolve];simp[invoke,builtin,hv,ex,hrun]) ?_;exact Xpc (S:=[]) (fo:=mid) (l:=l++[]) (e:=e) (t:=τ) (ks:=ks) hS hd hdn hl hD hset hrk (YaC _) rfl rfl rfl (λ_ _ _=>rfl) (λg hg=>by cases hg) (λg hg=>⟨X1v.lt hx g hg,.inr (.inl hg)⟩) ⟨i',hi,hs⟩ hpos (by simpa using hx) hbs hfr hnv hn
 | @some ad c us hv h0 hus hu=>
   obtain⟨v',w',bs',hrun,hw',hst⟩:=Xar (P:=P) (ty:=o.type) hue hi hz hzl hs hpos hx hbs (a:=ad) (c:=c) hus hu hb' hdis h0 (by simp only[maxLen];omega) (by rw[hib];exact hby);refine X1a (v:=v') (w':=w') (by simp only[execOp,ho,resolve];simp[invoke,builtin,hv,hrun]) ?_;refine Xpc (S:=mid) (fo:=bs') (l:=l++l2) (e:=e) (t:=τ) (ks:=ks) hS hd hdn hl hD hset hrk hst.size hst.os hst.tape hst.output hst.keep (λg hg=>hg) (λg hg=>⟨X1v.lt hw' g hg,?_⟩) ⟨i',hi,hs⟩ hpos hw' hst.nodup hfr hnv hn;rcases hst.sub g hg with h1 | h1 | h1
   . exact .inr (.inl h1)
   . exact .inr (.inr (hk2 g h1))
   . exact .inl h1
end
def Xnm(M:Mem)(n:Nat)(v:Value)(cs:List Value):Prop:=cs.length=n/\∃ad,v=.pointer (some ad)/\∀j u,cs[j]?=some u->M (ad.add j)=some u
inductive Xg5 (M:Mem):List Nat->List Value->List Value->Prop
 | nil:Xg5 M [] [] []
 | cons {n v c ns vs cs}:Xnm M n v c->Xg5 M ns vs cs->Xg5 M (n::ns) (v::vs) (c++cs)
def XlN(M:Mem)(n:Nat)(v:Value)(cs:List Value):Prop:=∃ad u,v=.pointer (some ad)/\M ad=some u/\Xnm M n u cs
def XwB(M:Mem)(b:Option Nat)(f:Nat)(m:Bool)(v:Value):Prop:=match b,m with
 | some g,false=>v=.func (.func f) #[.pointer (some ⟨g,0,none⟩)] #[]
 | some g,true=>∃ad,v=.func (.func f) #[] #[.pointer (some ad)]/\M ad=some (.pointer (some ⟨g,0,none⟩))
 | none,_=>False
def XvS(M:Mem)(b:Option Nat):Sh->Value->List Value->Prop
 | .one,v,cs=>cs=[v]/\Xb2 v=false
 | .agg n,v,cs=>cs.length=n/\∃vs:Array Value,v=.agg vs/\vs.toList=cs
 | .ptr n,v,cs=>Xnm M n v cs
 | .clo f ns,v,cs=>∃vb,v=.func (.func f) #[] vb/\Xg5 M ns vb.toList cs
 | .pptr n,v,cs=>XlN M n v cs
 | .clop f n,v,cs=>∃u,v=.func (.func f) #[] #[u]/\XlN M n u cs
 | .self f m,v,cs=>cs=[]/\XwB M b f m v
inductive XeX (M:Mem) (b:Option Nat):List Sh->List Value->List Value->Prop
 | nil:XeX M b [] [] []
 | cons {sh v c shs vs cs}:XvS M b sh v c->XeX M b shs vs cs->XeX M b (sh::shs) (v::vs) (c++cs)
inductive Xdf:List (Bool×Nat)->List Value->List Value->Prop
 | nil:Xdf [] [] []
 | cons {ag n v shs vs cs}:v.cells.size=n->Xb2 v=ag->Xdf shs vs cs->Xdf ((ag,n)::shs) (v::vs) (v.cells.toList++cs)
def XgJ:List Value->Value
 | [v]=>v
 | l=>.tuple l.toArray
structure XfZ (w:World) (M:Mem) (own:List (Nat×TypeId)) (vs:List Value) (cs:List X02) (F:Nat->List Nat):Prop where
 len:vs.length=cs.length
 rd:∀j u c,look j own=none->vs[j]?=some u->cs[j]?=some c->RdV M u c
 own:∀j e,look j own=some e->∃u t l,vs[j]?=some u/\cs[j]?=some (.lst t l none)/\X4Q w t u l (F j)
def X98(own:List (Nat×TypeId))(F:Nat->List Nat):List Nat:=(own.map λp=>F p.1).flatten
theorem Xcz{own:List (Nat×TypeId)}{F:Nat->List Nat}{g:Nat}:g∈X98 own F↔∃p∈own,g∈F p.1:=by
 unfold X98;simp only[Yds,YaN];constructor
 . rintro⟨l,⟨p,hp,rfl⟩,hg⟩;exact⟨p,hp,hg⟩
 . rintro⟨p,hp,hg⟩;exact⟨_,⟨p,hp,rfl⟩,hg⟩
def Xmy(P:Program)(own:List (Nat×TypeId))(cs:List X02):Prop:=∀j e,look j own=some e->∀t l tag,cs[j]?=some (.lst t l tag)->(∃i,P.info? e=some i/\i.size=size t)/\0<size t
structure Back (w:World) (own:List (Nat×TypeId)) (vs:List Value) (bs:List X02) (F:Nat->List Nat):Prop where
 len:bs.length=own.length
 own:∀(k j:Nat) (e:TypeId),own[k]?=some (j,e)->∃(u:Value) (t:Ty) (l:List (El t)),vs[j]?=some u/\bs[k]?=some (X02.lst t l none)/\X4Q w t u l (F j)
structure Ret (P:Program) (con:Con) (w:World) (M:Mem) (blk:List Nat) (b:Option Nat) (cs:List Value) (i:El con.I) (x:El con.A) (e:Ending) (w':World):Prop where
 ex:∃rs y cs' M' FR FI FB nb,e=.returned (XgJ rs)/\con.Post i x y/\M.le M'/\(∀ad v,M' ad=some v->w'.cell? ad=some v)/\Fr blk w w'/\(∀ad,ad.block<w.heap.size->ad.block∉blk->M ad=none->M' ad=none)/\
  (match con.newR with
    | false=>nb=[]/\Xdf con.shR rs cs'
    | true=>∃g arr E,nb=[g]/\rs=[.pointer (some ⟨g,0,none⟩)]/\w'.heap[g]?=some (.cells arr E (0,0))/\arr.toList=cs'/\w.heap.size<=g)/\
  XfZ w' M' con.fresh cs' (flat con.R y.1) FR/\
  (∀g,b=some g->∃arr E,w'.heap[g]?=some (.cells arr E (0,0))/\XfZ w' M' con.ownI arr.toList (flat con.I y.2.1) FI/\∀ad,ad.block=g->M' ad=none)/\
  Back w' con.backA cs (flat con.B y.2.2) FB/\
  Xmy P con.fresh (flat con.R y.1)/\Xmy P con.ownI (flat con.I y.2.1)/\
  (nb++(X98 con.fresh FR++((match b with | some _=>X98 con.ownI FI | none=>[])++X98 con.backA FB))).Nodup/\
  ∀g∈nb++(X98 con.fresh FR++((match b with | some _=>X98 con.ownI FI | none=>[])++X98 con.backA FB)),(w.heap.size<=g\/(g∈blk/\b≠some g))/\g<w'.heap.size/\∀ad,ad.block=g->M' ad=none
def X5B(con:Con)(b:Option Nat)(F FI:Nat->List Nat):List Nat:=(match b with | some g=>g::X98 con.ownI FI | none=>[])++X98 (con.ownA++con.backA) F
def X0h(P:Program)(n:FuncId)(con:Con):Prop:=
 ∀(w:World) (M:Mem) (vs cs:List Value) (i:El con.I) (x:El con.A) (F FI:Nat->List Nat) (b:Option Nat),(∀ad v,M ad=some v->w.cell? ad=some v)->XeX M b con.shA vs cs->
  XfZ w M (con.ownA++con.backA) cs (flat con.A x) F->(con.io=b.isSome)->
  (∀g,b=some g->∃arr E,w.heap[g]?=some (.cells arr E (0,0))/\XfZ w M con.ownI arr.toList (flat con.I i) FI)->
  (X5B con b F FI).Nodup->(∀g∈X5B con b F FI,∀ad,ad.block=g->M ad=none)->con.pre i x->
  Calls P n ((match b with | some g=>[.pointer (some ⟨g,0,none⟩)] | none=>[])++vs).toArray w (Ret P con w M (X5B con b F FI) b cs i x)
def Xku(n:Nat):List X02:=List.replicate n .und
theorem XjV{rows:List (Nat×X0L)}{M:Mem}:∀{vs:List Value},(∀u∈vs,u.oneCell'=true)->X27 (RdT σ rows M) vs (Xku vs.length)
 | [],_=>.nil
 | v::vs,h=>.cons ⟨h v (by simp),trivial⟩ (XjV λu hu=>h u (by simp[hu]))
structure Xyx (P:Program) (base:World) (σ σ':Sg) (M M':Mem) (w w':World) (st:St) (upd:List (Nat×X0L)) (ks S:List Nat) (bk:Option Nat):Prop where
 le:M.le M'
 mem:∀ad v,M' ad=some v->w'.cell? ad=some v
 sbox:σ'.box=σ.box
 srow:σ'.row=σ.row
 sfoot:∀r,look r upd=none->σ'.foot r=σ.foot r/\σ'.mem r=σ.mem r
 size:w.heap.size<=w'.heap.size
 os:w'.os=w.os
 tape:w'.tape=w.tape
 output:w'.output=w.output
 keep:∀k,k<w.heap.size->k∉S->(∀b,bk=some b->k≠σ.box b)->w'.heap[k]?=w.heap[k]?
 hold:∀ad,ad.block<w.heap.size->ad.block∉S->M ad=none->M' ad=none
 touched:∀g∈S,∃r,X1G r st.rows/\g∈σ.foot r/\(r∈ks\/(look r upd).isSome=true)
 bx:∀b,bk=some b->(st.box b).isSome=true/\(∃arr E,w'.heap[σ.box b]?=some (.cells arr E (0,0))/\∀u∈arr.toList,u.oneCell'=true)
 updOk:∀r rv,look r upd=some rv->r∉ks/\X1G r st.rows/\∃e t l ver hole z,rv=.hot e t l ver hole z/\Xd3 P base σ' w' r e t l hole z
 foot:∀r,(look r upd).isSome=true->∀g∈σ'.foot r,g<w'.heap.size/\(∀ad,ad.block=g->M' ad=none)/\(w.heap.size<=g\/∃r0,X1G r0 st.rows/\g∈σ.foot r0/\(r0∈ks\/(look r0 upd).isSome=true))
 apart:∀r r',(look r upd).isSome=true->(look r' upd).isSome=true->r≠r'->∀g∈σ'.foot r,g∉σ'.foot r'
def X5H(w':World)(σ:Sg)(bk:Option Nat)(boxes:List (Nat×List X02)):List (Nat×List X02):=match bk with
 | some b=>(b,Xku (match w'.heap[σ.box b]? with | some (.cells arr _ _)=>arr.toList.length | _=>0))::boxes
 | none=>boxes
theorem Xq5{w':World}{bk:Option Nat}(h:∀b,bk=some b->(st.box b).isSome=true)(k:Nat):(look k (X5H w' σ bk st.boxes)).isSome=(st.box k).isSome:=by
 cases bk with
 | none=>rfl
 | some b=>
   simp only[X5H,X08];split
   . rename_i e;subst e;rw[h _ rfl];rfl
   . rfl
theorem Sim.stepC(h:Sim P base M0 ios σ M w a st){σ':Sg}{M':Mem}{w':World}{upd:List (Nat×X0L)}{ks S:List Nat}{bk:Option Nat}(hs:Xyx P base σ σ' M M' w w' st upd ks S bk)(hv:noVers st upd=true):
 Sim P base M0 ios σ' M' w' a {st with rows:=X0A upd ks st.rows,boxes:=X5H w' σ bk st.boxes}:=by
 have hhot:∀r rv,look r upd=some rv->∃e t l ver hole z,rv=.hot e t l ver hole z:=λr rv hr=>by
  obtain⟨_,_,e,t,l,ver,hole,z,e1,_⟩:=hs.updOk r rv hr;exact⟨e,t,l,ver,hole,z,e1⟩
 have hlook:∀r rv,look r (X0A upd ks st.rows)=some rv->r∉ks/\(look r upd=some rv\/(look r upd=none/\look r st.rows=some rv)):=λr rv hr=>X4y hr;have hsome:∀r,(look r (X0A upd ks st.rows)).isSome=true->(look r st.rows).isSome=true:=λr hr=>by
  obtain⟨rv,hrv⟩:=Yao.1 hr;rcases(hlook r rv hrv).2 with h1 | ⟨_,h1⟩
  . obtain⟨_,⟨_,_,_,_,_,_,h2⟩,_⟩:=hs.updOk r rv h1;rw[h2];rfl
  . rw[h1];rfl
 have hcold:∀r e,X8M r (X0A upd ks st.rows)=some e->st.row r=some e:=λr e hr=>by
  obtain⟨rv,h1,h2⟩:=X6w hr;rcases(hlook r rv h1).2 with h3 | ⟨_,h3⟩
  . obtain⟨_,_,_,_,_,_,rfl⟩:=hhot r rv h3;cases h2
  . exact X9T h3 h2
 have hca:Carry σ st.rows M σ' (X0A upd ks st.rows) M' (λ_=>True) (Xrf upd):=⟨hs.le,λr _ hr=>⟨hsome r hr,by rw[hs.srow]⟩,λr ver rv' _ ho hl hv'=>by
  rcases(hlook r rv' hl).2 with h1 | ⟨h0,h1⟩
  . exact absurd hv' (ho rv' h1)
  . exact⟨rv',h1,hv',by rw[(hs.sfoot r h0).2];exact Mem.le_refl _,.inl rfl⟩⟩
 have hbs:∀k,(look k (X5H w' σ bk st.boxes)).isSome=(st.box k).isSome:=Xq5 λb hb=>(hs.bx b hb).1;have boxS:∀k,(st.box k).isSome=true->σ.box k∉S:=λk hk hg=>by
  obtain⟨r,k1,k2,_⟩:=hs.touched _ hg;exact h.hot.noBox r k1 k hk k2
 have hM'box:∀k,(st.box k).isSome=true->∀ad,ad.block=σ.box k->M' ad=none:=λk hk ad had=>hs.hold ad (by rw[had];exact h.box_lt hk) (by rw[had];exact boxS k hk) (h.boxM k hk ad had);exact {
  mem:=hs.mem
  nt:=h.nt
  slots:=λi=>(h.slots i).carry hca (Xtz hhot hv i) (λk _=>⟨by rw[hs.sbox],λhk=>by rw[hbs];exact hk⟩)
  boxes:=λk cs hk=>by
   have hk':look k (X5H w' σ bk st.boxes)=some cs:=hk;rw[hs.sbox];cases hbk:bk with
   | none=>
     rw[hbk]at hk';obtain⟨arr,E,h1,h2⟩:=h.boxes k cs hk';refine⟨arr,E,?_,Xcm hca h2 (Xjs hhot hv hk')⟩;rw[hs.keep _ (YaO.1 h1).1 (boxS k (by show(look k st.boxes).isSome=true;have:look k st.boxes=some cs:=hk';rw[this];rfl)) (λb hb=>by rw[hbk]at hb;cases hb)];exact h1
   | some b=>
     rw[hbk]at hk';simp only[X5H,X08]at hk';obtain⟨hb1,arr,E,hb2,hb3⟩:=hs.bx b hbk;by_cases e:b=k
     . subst e;rw[Yah rfl,hb2]at hk';cases hk';exact⟨arr,E,hb2,XjV hb3⟩
     . rw[Yae e]at hk';obtain⟨arr,E,h1,h2⟩:=h.boxes k cs hk';have hks:(st.box k).isSome=true:=by show(look k st.boxes).isSome=true;rw[hk'];rfl
       refine⟨arr,E,?_,Xcm hca h2 (Xjs hhot hv hk')⟩;rw[hs.keep _ (YaO.1 h1).1 (boxS k hks) (λb' hb'=>by rw[hbk]at hb';cases hb';exact λe2=>e (h.boxInj b k hb1 hks e2.symm))];exact h1
  boxM:=λk hk ad had=>by
   have hk':(st.box k).isSome=true:=by rw[<-hbs k];exact hk
   exact hM'box k hk' ad (by rw[had,hs.sbox])
  boxInj:=λk k' h1 h2 he=>h.boxInj k k' (by rw[<-hbs k];exact h1) (by rw[<-hbs k'];exact h2) (by rw[hs.sbox]at he;exact he)
  boxBase:=λk hk=>by rw[hs.sbox];exact h.boxBase k (by rw[<-hbs k];exact hk)
  rows:=λr e hr=>by
   have hr':=hcold r e hr;obtain⟨n,xs,i,hi,ho,hm⟩:=(h.rows r e hr').own;rw[hs.srow];have nS:∀g,(σ.row r).ownBlock=some g->g∉S:=λg hg hgs=>by
    obtain⟨r0,k1,k2,_⟩:=hs.touched _ hgs;exact h.hot.noRow r0 k1 r (by rw[hr'];rfl) g hg k2
   refine⟨⟨n,xs,i,hi,ho.at λg hg=>hs.keep g (ho.lt g hg).2 (nS g hg) (λb hb e=>h.rowBox r b (by rw[hr'];rfl) (hs.bx b hb).1 (by rw[hg,e])),λg hg ad had hoff=>hs.hold ad (by rw[had];exact(ho.lt g hg).2) (by rw[had];exact nS g hg) (hm g hg ad had hoff)⟩⟩
  rowBox:=λr k hr hk=>by
   obtain⟨e,he⟩:=Yao.1 hr;rw[hs.srow,hs.sbox];exact h.rowBox r k (by rw[hcold r e he];rfl) (by rw[<-hbs k];exact hk)
  rowInj:=λr r' h1 h2 hne=>by
   obtain⟨e,he⟩:=Yao.1 h1;obtain⟨e',he'⟩:=Yao.1 h2;rw[hs.srow];exact h.rowInj r r' (by rw[hcold r e he];rfl) (by rw[hcold r' e' he'];rfl) hne
  hot:=by
   have cases':∀r,X1G r (X0A upd ks st.rows)->r∉ks/\((look r upd).isSome=true\/(look r upd=none/\X1G r st.rows/\σ'.foot r=σ.foot r/\σ'.mem r=σ.mem r)):=λr ⟨e,t,l,ver,hole,z,hl⟩=>by
    obtain⟨h0,h1⟩:=hlook r _ hl;refine⟨h0,?_⟩;rcases h1 with h1 | ⟨h1,h2⟩
    . exact .inl (by rw[h1];rfl)
    . exact .inr ⟨h1,⟨e,t,l,ver,hole,z,h2⟩,hs.sfoot r h1⟩
   have oldS:∀r,X1G r st.rows->r∉ks->look r upd=none->∀g∈σ.foot r,g∉S:=λr hr hk hu g hg hgs=>by
    obtain⟨r0,m1,m2,m3⟩:=hs.touched g hgs;refine h.hot.apart r r0 hr m1 (λe2=>?_) g hg m2;subst e2;rcases m3 with m3 | m3
    . exact hk m3
    . rw[hu]at m3;cases m3
   have from':∀r,X1G r (X0A upd ks st.rows)->∀g∈σ'.foot r,g<w'.heap.size/\(w.heap.size<=g\/∃r0,X1G r0 st.rows/\g∈σ.foot r0/\(r0=r\/r0∈ks\/(look r0 upd).isSome=true)):=λr hr g hg=>by
    rcases(cases' r hr).2 with h1 | ⟨_,h1,h2,_⟩
    . obtain⟨k1,_,k2⟩:=hs.foot r h1 g hg;refine⟨k1,k2.imp id λ⟨r0,m1,m2,m3⟩=>⟨r0,m1,m2,.inr m3⟩⟩
    . rw[h2]at hg;exact⟨Ybe (h.hot.lt r h1 g hg) hs.size,.inr ⟨r,h1,hg,.inl rfl⟩⟩
   exact {
    ok:=λr e t l ver hole z hl=>by
     obtain⟨h0,h1⟩:=hlook r _ hl;rcases h1 with h1 | ⟨h1,h2⟩
     . obtain⟨_,_,e',t',l',ver',hole',z',he,hok⟩:=hs.updOk r _ h1;cases he;exact hok
     . obtain⟨k1,k2⟩:=hs.sfoot r h1;have hh:X1G r st.rows:=⟨e,t,l,ver,hole,z,h2⟩
       exact(h.hot.ok r e t l ver hole z h2).frame (by rw[hs.srow]) k1 k2 λg hg=>hs.keep g (h.hot.lt r hh g hg) (oldS r hh h0 h1 g hg) (λb hb e=>h.hot.noBox r hh b (hs.bx b hb).1 (e▸hg))
    base:=λr hr g hg=>by
     obtain⟨_,h1⟩:=from' r hr g hg;rcases h1 with h1 | ⟨r0,m1,m2,_⟩
     . exact .inl (YaW h.fr.size h1)
     . exact h.hot.base r0 m1 g m2
    noM:=λr hr g hg ad had=>by
     obtain⟨hk,h1⟩:=cases' r hr;rcases h1 with h1 | ⟨hu,h1,h2,_⟩
     . exact(hs.foot r h1 g hg).2.1 ad had
     . rw[h2]at hg;exact hs.hold ad (by rw[had];exact h.hot.lt r h1 g hg) (by rw[had];exact oldS r h1 hk hu g hg) (h.hot.noM r h1 g hg ad had)
    noBox:=λr hr k hk hg=>by
     have hk':(st.box k).isSome=true:=by rw[<-hbs k];exact hk
     rw[hs.sbox]at hg;obtain⟨_,h1⟩:=from' r hr _ hg;rcases h1 with h1 | ⟨r0,m1,m2,_⟩
     . have:=h.box_lt hk';omega
     . exact h.hot.noBox r0 m1 k hk' m2
    noRow:=λr hr r' hr' g hg hgr=>by
     obtain⟨e,he⟩:=Yao.1 hr';have hr2:=hcold r' e he;rw[hs.srow]at hg;obtain⟨_,h1⟩:=from' r hr g hgr;rcases h1 with h1 | ⟨r0,m1,m2,_⟩
     . have:=(h.row_lt (by rw[hr2];rfl) hg).2;omega
     . exact h.hot.noRow r0 m1 r' (by rw[hr2];rfl) g hg m2
    apart:=λr r' h1 h2 hne g hg hg'=>by
     obtain⟨n1,c1⟩:=cases' r h1;obtain⟨n2,c2⟩:=cases' r' h2;rcases c1 with c1 | ⟨u1,c1,f1,_⟩<;>rcases c2 with c2 | ⟨u2,c2,f2,_⟩
     . exact hs.apart r r' c1 c2 hne g hg hg'
     . rw[f2]at hg';rcases(hs.foot r c1 g hg).2.2 with h3 | ⟨r0,m1,m2,m3⟩
       . have:=h.hot.lt r' c2 g hg';omega
       . refine h.hot.apart r0 r' m1 c2 (λe=>?_) g m2 hg';subst e;rcases m3 with m3 | m3
         . exact n2 m3
         . rw[u2]at m3;cases m3
     . rw[f1]at hg;rcases(hs.foot r' c2 g hg').2.2 with h3 | ⟨r0,m1,m2,m3⟩
       . have:=h.hot.lt r c1 g hg;omega
       . refine h.hot.apart r0 r m1 c1 (λe=>?_) g m2 hg;subst e;rcases m3 with m3 | m3
         . exact n1 m3
         . rw[u1]at m3;cases m3
     . rw[f1]at hg;rw[f2]at hg';exact h.hot.apart r r' c1 c2 hne g hg hg'
    lt:=λr hr g hg=>(from' r hr g hg).1
    frz:=λr e t l ver z hl=>by
     rcases(hlook r _ hl).2 with h1 | ⟨h0,h1⟩
     . obtain⟨_,_,_,_,_,_,e1⟩:=hhot r _ h1;cases e1
     . rw[hs.srow,(hs.sfoot r h0).2];obtain⟨k1,k2⟩:=h.hot.frz r e t l ver z h1;exact⟨k1.mono hs.le,Mem.le_trans k2 hs.le⟩}
  fr:=by
   refine⟨hs.os.trans h.fr.os,hs.tape.trans h.fr.tape,hs.output.trans h.fr.output,YaW h.fr.size hs.size,λk hk hn=>?_⟩;rw[hs.keep k (Ybe hk h.fr.size) (λhg=>?_) (λb hb e=>?_)]
   . exact h.fr.block k hk hn
   . obtain⟨r,k1,k2,_⟩:=hs.touched k hg;rcases h.hot.base r k1 k k2 with h2 | h2
     . omega
     . exact hn h2
   . rcases h.boxBase b (hs.bx b hb).1 with h2 | h2
     . omega
     . rw[e]at hn;exact hn h2
  defers:=h.defers
  old:=λad h1 h2 h3=>hs.hold ad (Ybe h1 h.fr.size) (λhg=>by
   obtain⟨r,k1,k2,_⟩:=hs.touched _ hg;rcases h.hot.base r k1 _ k2 with h4 | h4
   . omega
   . exact h2 h4) (h.old ad h1 h2 h3)
  le:=Mem.le_trans h.le hs.le
  pin:=λb hb=>by rw[hs.sbox];exact h.pin b hb
  pins:=λp hp hsm=>by rw[hs.srow];exact h.pins p hp (hsome _ hsm)
  olds:=h.olds}
theorem Sim.setBox(h:Sim P base M0 ios σ M w a st){k:Nat}{ds:List X02}(hk:(st.box k).isSome=true)(hd:∀arr E,w.heap[σ.box k]?=some (.cells arr E (0,0))->X27 (RdT σ st.rows M) arr.toList ds):Sim P base M0 ios σ M w a {st with boxes:=(k,ds)::st.boxes}:=by
 have hbs:∀k',(look k' ((k,ds)::st.boxes)).isSome=true->(st.box k').isSome=true:=λk' hk'=>by
  rw[X08]at hk';split at hk'
  . rename_i e;subst e;exact hk
  . exact hk'
 exact {h with
  slots:=λi=>X44.carry (boxes:=st.boxes) (Carry.same σ st.rows (Mem.le_refl M)) (h.slots i) (Xed _) (λk' _=>⟨rfl,λhs=>by rw[X08];split<;>first | rfl | exact hs⟩)
  boxes:=λk' cs hk'=>by
   have hk2:look k' ((k,ds)::st.boxes)=some cs:=hk';rw[X08]at hk2;split at hk2
   . rename_i e;subst e;cases hk2;obtain⟨cs0,hcs0⟩:=Yao.1 hk;obtain⟨arr,E,h1,_⟩:=h.boxes k cs0 hcs0;exact⟨arr,E,h1,hd arr E h1⟩
   . exact h.boxes k' cs hk2
  boxM:=λk' hk'=>h.boxM k' (hbs k' hk')
  boxInj:=λk1 k2 h1 h2=>h.boxInj k1 k2 (hbs k1 h1) (hbs k2 h2)
  boxBase:=λk' hk'=>h.boxBase k' (hbs k' hk')
  rowBox:=λr k' hr hk'=>h.rowBox r k' hr (hbs k' hk')
  hot:=h.hot.still rfl λk' hk'=>hbs k' hk'}
theorem Sim.adoptBox(h:Sim P base M0 ios σ M w a st){d g:Nat}(hd0:d≠0)(hnb:noBox d st=true){arr:Array Value}{E:TypeId}{cs:List X02}(hg:w.heap[g]?=some (.cells arr E (0,0)))(hf:XmA base ios σ M w st g)(hcs:X27 (RdT σ st.rows M) arr.toList cs):Sim P base M0 ios {σ with box:=λk=>if k=d then g else σ.box k} M w a {st with boxes:=(d,cs)::st.boxes}:=by
 have hca:Carry σ st.rows M {σ with box:=λk=>if k=d then g else σ.box k} st.rows M (λ_=>True) (λ_ _=>True):=⟨Mem.le_refl M,λr _ hr=>⟨hr,rfl⟩,λr ver rv' _ _ hl hv=>⟨rv',hl,hv,Mem.le_refl _,.inl rfl⟩⟩
 exact {h with
  slots:=λi=>by
   refine X44.carry (boxes:=st.boxes) hca (h.slots i) (Xed _) ?_;intro k hk;have hne:=Xq1 hnb hk;refine⟨by simp[hne],λhk=>?_⟩;rw[X08,Yae (YaK hne)];exact hk
  boxes:=λk cs' hk=>by
   simp only[St.box,X08]at hk;by_cases he:d=k
   . subst he;rw[Yah rfl]at hk;cases hk;exact⟨arr,E,by simp only[Yah];exact hg,Xcm hca hcs (λc _=>X65 c)⟩
   . rw[Yae he]at hk;obtain⟨arr',E',h1,h2⟩:=h.boxes k cs' hk;exact⟨arr',E',by simp only[Yae (YaK he)];exact h1,Xcm hca h2 (λc _=>X65 c)⟩
  boxM:=λk hk ad had=>by
   simp only[St.box,X08]at hk;by_cases he:d=k
   . subst he;simp only[Yah]at had;exact hf.noM ad had
   . rw[Yae he]at hk;simp only[Yae (YaK he)]at had;exact h.boxM k hk ad had
  boxInj:=λk k' hk hk' he=>by
   simp only[St.box,X08]at hk hk';by_cases e1:d=k<;>by_cases e2:d=k'
   . omega
   . subst e1;rw[Yae e2]at hk';simp only[Yah,Yae (YaK e2)]at he;exact absurd he.symm (hf.noBox k' hk')
   . subst e2;rw[Yae e1]at hk;simp only[Yah,Yae (YaK e1)]at he;exact absurd he (hf.noBox k hk)
   . rw[Yae e1]at hk;rw[Yae e2]at hk';simp only[Yae (YaK e1),Yae (YaK e2)]at he;exact h.boxInj k k' hk hk' he
  boxBase:=λk hk=>by
   simp only[St.box,X08]at hk;by_cases he:d=k
   . subst he;simp only[Yah];exact hf.base
   . rw[Yae he]at hk;simp only[Yae (YaK he)];exact h.boxBase k hk
  rowBox:=λr k hr hk=>by
   simp only[St.box,X08]at hk;by_cases he:d=k
   . subst he;simp only[Yah];exact hf.noRow r hr
   . rw[Yae he]at hk;simp only[Yae (YaK he)];exact h.rowBox r k hr hk
  hot:=by
   refine h.hot.keep (YaC _) (Mem.le_refl M) (λr rv v hl _=>⟨hl,rfl,rfl,rfl⟩) (λ_ _ _ _=>rfl) h.hot.noM (λr hr k hk=>?_) h.hot.noRow;simp only[St.box,X08]at hk;by_cases he:d=k
   . subst he;simp only[Yah];exact hf.noHot r hr
   . rw[Yae he]at hk;simp only[Yae (YaK he)];exact h.hot.noBox r hr k hk
  pin:=λb hb=>by show(if 0=d then _ else σ.box 0)=b;rw[Yae (YaK hd0)];exact h.pin b hb}
end Go.Proofs.YthpdkligbfbjeaaGreat.Bv
