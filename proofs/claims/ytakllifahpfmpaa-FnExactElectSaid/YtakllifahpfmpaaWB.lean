/- Walks of Go functions by value:the library,part 2 of 4. -/
import Derived.Test.YtakllifahpfmpaaWA
import Derived.Laws.Tables
import Derived.Laws.BytesString
import Derived.Laws.MakeOwn
set_option linter.unusedVariables false
set_option linter.unusedSimpArgs false
namespace Go.Proofs.Ytakllifahpfmpaa.Bv
variable {P:Program} {base:World} {M0:Mem} {ios:Ios} {σ:Sg} {M:Mem} {w:World} {a:Act} {st:St} {tab:Tab}
theorem RdC.slice{τ:Ty}{l:List (El τ)}{ad:Option Addr}{n cap lo hi:Nat}(h:RdC M (.list τ) [.slice ad n cap] l)(h1:lo≤hi)(h2:hi≤l.length):
 RdC M (.list τ) [.slice (if cap=lo then ad else ad.map (·.add (lo*size τ))) (hi - lo) (cap - lo)] ((l.take hi).drop lo):=by
 obtain⟨ad',cap',e,hl,hm,hc⟩:=h
 cases e
 have hlen:((l.take hi).drop lo).length=hi - lo:=by rw[List.length_drop,List.length_take];omega
 refine⟨_,cap - lo,by rw[hlen],by omega,by simp only[maxLen]at hm ⊢;omega,?_⟩
 intro i hil
 rw[hlen]at hil
 obtain⟨ad0,vs,e1,e2,e3,e4⟩:=hc (lo+i) (by omega)
 refine⟨ad0.add (lo*size τ),vs,?_,e2,?_,?_⟩
 · rw[if_neg (by omega),e1];rfl
 · intro j u hu
   rw[Addr.add_add,show lo*size τ+(i*size τ+j)=(lo+i)*size τ+j by rw[Nat.add_mul];omega]
   exact e3 j u hu
 · have:((l.take hi).drop lo)[i]'(by rw[hlen];exact hil)=l[lo+i]'(by omega):=by simp
   show RdC M τ vs (((l.take hi).drop lo)[i]'(by rw[hlen];exact hil))
   rw[this];exact e4
structure X7g (σ:Sg) (st:St) (M:Mem) (v:Value) (x:In):Prop where
 rep:X17 σ st.rows st.boxes M v x.sv
 box:∀k off,(x.sv=.box k off∨x.sv=.pp k off)→x.box=st.box k
 row:∀t l r,x.sv=.val false [.lst t l (some r)]→x.row=st.row r
 rows:∀r rv,look r x.rows=some rv→look r st.rows=some rv
 boxes:∀k cs,look k x.boxes=some cs→st.box k=some cs
theorem X4V{α:Type}(l:List (Nat×α))(k:Nat):∀ks,look k (pick l ks)=if k∈ks then look k l else none
 | []=>by simp[pick,look]
 | j::ks=>by
   simp only[pick]
   cases hj:look j l with
   | none=>
     simp only[X4V l k ks,List.mem_cons]
     by_cases e:k=j
     · subst e;simp[hj]
     · simp[e]
   | some x=>
     simp only[X01,X4V l k ks,List.mem_cons]
     by_cases e:j=k
     · subst e;simp[hj]
     · simp[e,Ne.symm e]
theorem X49{α:Type}{l:List (Nat×α)}{k:Nat}{ks:List Nat}{x:α}(h:look k (pick l ks)=some x):look k l=some x:=by
 rw[X4V]at h;split at h
 · exact h
 · cases h
theorem Sim.frzAt(hS:Sim P base M0 ios σ M w a st){r:Nat}{e:TypeId}{t:Ty}{l:List (El t)}{ver:Nat}{z:Bool}(h:look r st.rows=some (.frz e t l ver z)):RdC M (.list t) [σ.row r] l∧(σ.mem r).le M:=hS.hot.frz r e t l ver z h
theorem Xa7.rd{τ:Ty}{v u:Value}{lo hi:Nat}{N:Mem}{l:List (El τ)}(h:Xa7 τ v lo hi u)(hr:RdC N (.list τ) [v] l):RdC N (.list τ) [u] ((l.take hi).drop lo):=by
 obtain⟨ad,n,cap,ad',rfl,h1,h2,rfl,h3⟩:=h
 have hn:n=List.length l:=by obtain⟨ad',cap',e,_⟩:=hr;cases e;rfl
 have hc:n≤cap:=by obtain⟨ad',cap',e,h,_⟩:=hr;cases e;exact h
 have hs:=RdC.slice hr h1 (by rw[←hn];exact h2)
 by_cases hlt:lo<cap
 · rw[if_neg (by omega)]at hs
   rw[h3 hlt];exact hs
 · have:hi=lo:=by omega
   subst this
   have hnil:(l.take hi).drop hi=([]:List (El τ)):=by rw[List.drop_eq_nil_iff,List.length_take];omega
   rw[hnil,Nat.sub_self]
   exact⟨ad',cap - hi,rfl,by simp,by simp;omega,fun i hi=>by simp at hi⟩
theorem Xdi(hS:Sim P base M0 ios σ M w a st){rows:List (Nat×X0f)}(hr:∀r rv,look r rows=some rv→look r st.rows=some rv){v:Value}{c:X00}(h:RdT σ st.rows M v c):RdT σ st.rows M v (Xcp rows c):=by
 cases c with
 | own t r=>
   simp only[Xcp]
   split
   · rename_i e t' l ver z hl
     have hl':=hr r _ hl
     split
     · rename_i ht
       subst ht
       have hv:v=σ.row r:=h.2 (by rw[hl'];rfl)
       have hrd:=(hS.frzAt hl').1
       refine⟨by show RdC M _ _ _;rw[hv];exact hrd,?_⟩
       by_cases h0:r=0
       · subst h0;cases z<;>trivial
       · cases z
         · trivial
         · simp only[Bool.true_and,show(!(r==0))=true by simp[h0],cond_true,X59,if_neg h0]
           intro _;exact hv
     · exact h
   · exact h
 | sub t r lo hi=>
   simp only[Xcp]
   split
   · rename_i e t' l ver z hl
     have hl':=hr r _ hl
     split
     · rename_i ht
       subst ht
       have hv:=h.2 (by rw[hl'];rfl)
       exact⟨hv.rd (hS.frzAt hl').1,trivial⟩
     · exact h
   · exact h
 | bor t l r ver p=>
   simp only[Xcp]
   split
   · rename_i e t' l' ver' z hl
     have hl':=hr r _ hl
     cases hv:ver'==ver with
     | false=>exact h
     | true=>
       have:ver'=ver:=by simpa using hv
       subst this
       obtain⟨h1,_⟩:=h.2 _ hl' rfl
       exact⟨h1.mono (hS.frzAt hl').2,trivial⟩
   · exact h
 | _=>exact h
theorem X5Z(hS:Sim P base M0 ios σ M w a st){rows:List (Nat×X0f)}(hr:∀r rv,look r rows=some rv→look r st.rows=some rv){vs:List Value}{cs:List X00}(h:X0y (RdT σ st.rows M) vs cs):X0y (RdT σ st.rows M) vs (X54 rows cs):=by
 induction h with
 | nil=>exact .nil
 | cons x _ ih=>exact .cons (Xdi hS hr x) ih
theorem Xby{rows:List (Nat×X0f)}:∀{cs:List X00} {i:Nat} {c:X00},(X54 rows cs)[i]?=some c→∃c0,cs[i]?=some c0∧c=Xcp rows c0
 | [],i,c,h=>by simp[X54]at h
 | x::cs,0,c,h=>by simp[X54]at h;exact⟨x,by simp,h.symm⟩
 | x::cs,i+1,c,h=>by simp only[X54,List.getElem?_cons_succ]at h ⊢;exact Xby h
theorem X9L(hS:Sim P base M0 ios σ M w a st){rows:List (Nat×X0f)}(hr:∀r rv,look r rows=some rv→look r st.rows=some rv){v:Value}{sv:Sv}(h:X17 σ st.rows st.boxes M v sv):X17 σ st.rows st.boxes M v (X5w rows sv):=by
 cases sv with
 | val ag cs=>exact⟨X5Z hS hr h.1,h.2⟩
 | tup l=>
   obtain⟨vs,hv,h⟩:=h
   refine⟨vs,hv,?_⟩
   generalize vs.toList=l1 at h
   induction h with
   | nil=>exact .nil
   | cons x _ ih=>exact .cons ⟨X5Z hS hr x.1,x.2⟩ ih
 | bptr cs r ver=>
   simp only[X5w]
   split
   · rename_i e t' l' ver' z hl
     have hl':=hr r _ hl
     cases hv:ver'==ver with
     | false=>exact h
     | true=>
       have:ver'=ver:=by simpa using hv
       subst this
       obtain⟨ad,ha,hc⟩:=h _ hl' rfl
       refine⟨ad,ha,fun i c hi=>?_⟩
       obtain⟨c0,h0,rfl⟩:=Xby hi
       obtain⟨u,hu,hrd⟩:=hc i c0 h0
       exact⟨u,(hS.frzAt hl').2 _ _ hu,Xdi hS hr hrd⟩
   · exact h
 | _=>exact h
theorem Xgs{rows:List (Nat×X0f)}{c:X00}{t:Ty}{l:List (El t)}{r:Nat}(h:Xcp rows c=.lst t l (some r)):Xim c=some r:=by
 cases c with
 | own t' r'=>
   simp only[Xcp]at h
   split at h
   · split at h
     · rename_i z _ ht
       subst ht
       injection h with _ _ h3
       rw[Bool.cond_eq_ite]at h3
       split at h3
       · cases h3;rfl
       · cases h3
     · cases h
   · cases h
 | sub t' r' lo hi=>
   simp only[Xcp]at h
   split at h
   · split at h
     · injection h with _ _ h3;cases h3
     · cases h
   · cases h
 | bor t' l' r' ver p=>
   simp only[Xcp]at h
   split at h
   · rw[Bool.cond_eq_ite]at h
     split at h
     · cases h
     · cases h
   · cases h
 | lst t' l' tag=>simp only[Xcp]at h;cases h;rfl
 | _=>simp[Xcp]at h
theorem Xgw(hS:Sim P base M0 ios σ M w a st){v:Value}{sv:Sv}(h:X17 σ st.rows st.boxes M v sv):X7g σ st M v (XeB st sv):=by
 have hr:∀r rv,look r (pick st.rows (X3m sv++X6E (pick st.boxes (X1u sv))))=some rv→look r st.rows=some rv:=fun r rv hh=>X49 hh
 refine⟨X9L hS hr h,?_,?_,hr,fun k cs hk=>X49 hk⟩
 · intro k off e
   have e3:X5w (pick st.rows (X3m sv++X6E (pick st.boxes (X1u sv)))) sv=.box k off∨X5w (pick st.rows (X3m sv++X6E (pick st.boxes (X1u sv)))) sv=.pp k off:=e
   have e1:(XeB st sv).box=look k (pick st.boxes (X1u sv)):=by
    rcases e3 with e0 | e0<;>simp only[XeB,e0]
   rw[e1]
   have e2:sv=.box k off∨sv=.pp k off:=by
    rcases e3 with e0 | e0<;>cases sv<;>simp only[X5w]at e0<;>try (cases e0;done)
    · exact .inl e0
    · split at e0
      · rw[Bool.cond_eq_ite]at e0
        split at e0<;>cases e0
      · cases e0
    · split at e0
      · rw[Bool.cond_eq_ite]at e0
        split at e0<;>cases e0
      · cases e0
    · exact .inr e0
   rcases e2 with e2 | e2<;>subst e2<;>rw[X4V]<;>simp[X1u,St.box]
 · intro t l r e
   have e0:X5w (pick st.rows (X3m sv++X6E (pick st.boxes (X1u sv)))) sv=.val false [.lst t l (some r)]:=e
   have e1:(XeB st sv).row=X3o r (pick st.rows (X3m sv++X6E (pick st.boxes (X1u sv)))):=by simp only[XeB,e0]
   rw[e1]
   cases sv<;>simp only[X5w]at e0<;>try (cases e0;done)
   · rename_i ag cs
     injection e0 with e3 e4
     match cs,e4 with
     | [c],e4=>
       simp only[X54,List.cons.injEq,and_true]at e4
       have hk:=Xgs e4
       show X3o r _=X3o r st.rows
       unfold X3o
       rw[X4V,if_pos]
       simp[X3m,X5D,hk]
     | [],e4=>simp[X54]at e4
     | _::_::_,e4=>simp[X54]at e4
   · split at e0
     · rw[Bool.cond_eq_ite]at e0
       split at e0<;>cases e0
     · cases e0
theorem Xd1(σ:Sg)(st:St)(M:Mem)(v:Value):X7g σ st M v {sv:=X7c v}:=by
 refine⟨?_,?_,?_,fun r rv h=>(by cases h),fun k cs h=>(by cases h)⟩
 · cases v with
   | int k n=>exact⟨.cons ⟨rfl,trivial⟩ .nil,rfl⟩
   | bool b=>exact⟨.cons ⟨rfl,trivial⟩ .nil,rfl⟩
   | string s=>exact⟨.cons ⟨by show Value.string s=.string ⟨s.data.toList.toArray⟩;simp,trivial⟩ .nil,rfl⟩
   | slice ad l c=>
     cases ad with
     | none=>
       match l,c with
       | 0,0=>rfl
       | 0,c+1=>trivial
       | l+1,c=>trivial
     | some x=>trivial
   | _=>trivial
 · intro k off h
   cases v<;>simp[X7c]at h
   rename_i ad l c
   cases ad<;>(try (simp at h;done))
   match l,c with
   | 0,0=>simp at h
   | 0,c+1=>simp at h
   | l+1,c=>simp at h
 · intro t l r h
   cases v<;>simp[X7c]at h
   rename_i ad l c
   cases ad<;>(try (simp at h;done))
   match l,c with
   | 0,0=>simp at h
   | 0,c+1=>simp at h
   | l+1,c=>simp at h
theorem X1g(hS:Sim P base M0 ios σ M w a st)(x:Operand):X7g σ st M (a.eval x) (X0Z st x):=by
 cases x with
 | tmp t=>exact Xgw hS (hS.slots t)
 | const v=>exact Xd1 σ st M v
 | func f=>exact⟨⟨#[],#[],rfl,.nil,.nil⟩,fun _ _ e=>by(rcases e with e | e<;>cases e),fun _ _ _ e=>by(cases e),fun r rv h=>(by cases h),fun k cs h=>(by cases h)⟩
 | global g=>exact⟨trivial,fun _ _ e=>by(rcases e with e | e<;>cases e),fun _ _ _ e=>by(cases e),fun r rv h=>(by cases h),fun k cs h=>(by cases h)⟩
theorem X55{boxes:List (Nat×List X00)}{rows:List (Nat×X0f)}{v:Value}{sv:Sv}(t:TypeId)(h:X17 σ rows boxes M v sv):X17 σ rows boxes M v (X8S tab t sv):=by
 cases sv with
 | nil=>
   simp only[X8S]
   split
   · have hv:v=.slice none 0 0:=h
     subst hv
     exact⟨.cons ⟨RdC.nilSlice M _,by simp[X59]⟩ .nil,rfl⟩
   · trivial
 | _=>exact h
theorem X0h.one{rows:List (Nat×X0f)}{v:Value}{c:X00}(h:X0h σ rows M v (false,[c])):RdT σ rows M v c:=by
 obtain⟨h1,h2⟩:=h
 cases v<;>simp[Value.cells,X4l]at h1 h2 ⊢<;>(cases h1;assumption)
theorem X0h.mk1{rows:List (Nat×X0f)}{v:Value}{c:X00}(h:RdT σ rows M v c)(hv:X4l v=false):X0h σ rows M v (false,[c]):=by
 refine⟨?_,hv⟩
 cases v<;>simp[X4l,Value.cells]at hv ⊢<;>exact .cons h .nil
theorem X0h.agg{rows:List (Nat×X0f)}{v:Value}{cs:List X00}(h:X0h σ rows M v (true,cs)):∃vs,v=.agg vs∧X0y (RdT σ rows M) vs.toList cs:=by
 obtain⟨h1,h2⟩:=h
 cases v<;>simp[X4l]at h2
 rename_i vs
 exact⟨vs,rfl,h1⟩
theorem RdT.int{rows:List (Nat×X0f)}{v:Value}{k:IntKind}{n:Int}(h:RdT σ rows M v (.int k n)):v=.int k n:=h.1
theorem RdT.bool{rows:List (Nat×X0f)}{v:Value}{b:Bool}(h:RdT σ rows M v (.bool b)):v=.bool b:=h.1
theorem RdT.str{rows:List (Nat×X0f)}{v:Value}{s:List UInt8}(h:RdT σ rows M v (.str s)):v=.string ⟨s.toArray⟩:=h.1
theorem X3h{rows:List (Nat×X0f)}{boxes:List (Nat×List X00)}(k:IntKind)(n:Int):X17 σ rows boxes M (.int k n) (.val false [.int k n]):=⟨.cons ⟨rfl,trivial⟩ .nil,rfl⟩
theorem X5h{rows:List (Nat×X0f)}{boxes:List (Nat×List X00)}(b:Bool):X17 σ rows boxes M (.bool b) (.val false [.bool b]):=⟨.cons ⟨rfl,trivial⟩ .nil,rfl⟩
theorem Xd3{rows:List (Nat×X0f)}{boxes:List (Nat×List X00)}(s:List UInt8):X17 σ rows boxes M (.string ⟨s.toArray⟩) (.val false [.str s]):=⟨.cons ⟨rfl,trivial⟩ .nil,rfl⟩
theorem X8o(op:BinOp)(t:TypeId)(x y:Operand)(u v:Value)(hu:X4l u=false)(hn:u≠.nilIface):(eqGuard op t x y u v).run P w=.ok () w:=by
 cases u<;>first | (simp[X4l]at hu;done) | (exact absurd rfl hn) | (cases op<;>cases v<;>simp[eqGuard])
theorem XeX(s:List UInt8):(⟨s.toArray⟩:ByteArray).toList=s:=by
 rw[ByteArray.toList_eq]
theorem Xeb{rows:List (Nat×X0f)}{boxes:List (Nat×List X00)}{op:BinOp}{t:TypeId}{u v:Value}{x y c:X00}{ps:List Prop}(hx:RdT σ rows M u x)(hy:RdT σ rows M v y)(hb:(x matches .bool _)=true→P.underlying t=some .bool)(h:Xda op x y=some (ps,c))(hps:∀p∈ps,p):
 ∃r,(binOp op t u v).run P w=.ok r w∧X17 σ rows boxes M r (.val false [c]):=by
 cases x with
 | lst t l tag=>cases y<;>simp[Xda]at h
 | own t r=>cases y<;>simp[Xda]at h
 | sub t r lo hi=>cases y<;>simp[Xda]at h
 | bor t l r ver p=>cases y<;>simp[Xda]at h
 | emp t=>cases y<;>simp[Xda]at h
 | und=>cases y<;>simp[Xda]at h
 | int k m=>
   cases y with
   | int k' n=>
     have hu:=hx.int;have hv:=hy.int;subst hu;subst hv
     cases op<;>simp only[Xda]at h
     case shl=>simp only[Option.some.injEq,Prod.mk.injEq]at h;obtain⟨rfl,rfl⟩:=h
               have h0:0≤n:=hps _ (by simp)
               exact⟨_,by simp[binOp,Op.shift,show ¬n<0 by omega],X3h _ _⟩
     case shr=>simp only[Option.some.injEq,Prod.mk.injEq]at h;obtain⟨rfl,rfl⟩:=h
               have h0:0≤n:=hps _ (by simp)
               exact⟨_,by simp[binOp,Op.shift,show ¬n<0 by omega],X3h _ _⟩
     all_goals
      by_cases hk:k=k'
      · subst hk
        rw[if_pos rfl]at h
        first
         | (cases h;done)
         | (simp only[Option.some.injEq,Prod.mk.injEq]at h;obtain⟨rfl,rfl⟩:=h;refine⟨_,?_,X3h _ _⟩;simp[binOp,Op.intArith];done)
         | (simp only[Option.some.injEq,Prod.mk.injEq]at h;obtain⟨rfl,rfl⟩:=h;refine⟨_,?_,X5h _⟩;simp[binOp,Op.intCmp];done)
         | (simp only[Option.some.injEq,Prod.mk.injEq]at h;obtain⟨rfl,rfl⟩:=h;refine⟨_,?_,X3h _ _⟩;simp[binOp,Op.intBits];done)
         | (simp only[Option.some.injEq,Prod.mk.injEq]at h;obtain⟨rfl,rfl⟩:=h
            have h0:n≠0:=hps _ (by simp)
            refine⟨_,?_,X3h _ _⟩;simp[binOp,Op.intDiv,h0];done)
      · rw[if_neg hk]at h;cases h
   | _=>simp[Xda]at h
 | str s=>
   cases y with
   | str s'=>
     have hu:=hx.str;have hv:=hy.str;subst hu;subst hv
     cases op<;>simp only[Xda]at h<;>first
      | (cases h;done)
      | (simp only[Option.some.injEq,Prod.mk.injEq]at h
         obtain⟨rfl,rfl⟩:=h
         first
          | (refine ⟨_,?_,X5h _⟩;simp[binOp,Op.stringOp,XeX];done)
          | (have h0:s.length+s'.length≤9223372036854775807:=hps _ (by simp)
             refine⟨.string (⟨s.toArray⟩++⟨s'.toArray⟩),?_,?_⟩
             · simp only[binOp]
               exact run_string_add_sum w _ _ (by simpa [ByteArray.size] using h0)
             · have he:((⟨s.toArray⟩:ByteArray)++⟨s'.toArray⟩)=⟨(s++s').toArray⟩:=by
                apply ByteArray.ext;simp[ByteArray.data_append]
               rw[he];exact Xd3 _))
   | _=>simp[Xda]at h
 | bool b=>
   cases y with
   | bool b'=>
     have hu:=hx.bool;have hv:=hy.bool;subst hu;subst hv
     have ht:=hb rfl
     cases op<;>simp only[Xda]at h<;>first
      | (cases h;done)
      | (simp only[Option.some.injEq,Prod.mk.injEq]at h
         obtain⟨rfl,rfl⟩:=h
         refine⟨_,?_,X5h _⟩;simp[binOp,run_equal_bool w t b b' ht])
   | _=>simp[Xda]at h
end Go.Proofs.Ytakllifahpfmpaa.Bv
namespace Go.Proofs.Ytakllifahpfmpaa.Bv
variable {P:Program} {base:World} {M0:Mem} {ios:Ios} {σ:Sg} {M:Mem} {w:World} {a:Act} {st:St} {tab:Tab} {o:Oper} {next:Act→World→Prop} {Q:Exit→Act→World→Prop}
def X2Y(P:Program)(base:World)(M0:Mem)(ios:Ios)(a:Act)(o:Oper)(st:St)(e:Eff)(next:Act→World→Prop):Prop:=
 ∀v σ' M' w',Sim P base M0 ios σ' M' w' (a.put o.dst v) (e.apply o.dst st)→next (a.put o.dst v) w'
theorem X0i{v:Value}{w':World}(hr:(execOp a.eval o).run P w=.ok (.value v) w')(h:next (a.put o.dst v) w'):o.wp P a w next Q:=by
 unfold Oper.wp;rw[hr];exact h
theorem Sim.putO(h:Sim P base M0 ios σ M w a st)(hd:∀d,o.dst=some d→d<st.nt){v:Value}{sv:Sv}(hv:X17 σ st.rows st.boxes M v sv):
 Sim P base M0 ios σ M w (a.put o.dst v) (Eff.apply {sv:=sv} o.dst st):=by
 cases hdst:o.dst with
 | none=>exact h
 | some d=>exact h.put (hd d hdst) hv
theorem Xce(hT:X0q P tab){t:TypeId}{ti:TI}(h:look t tab=some ti)(w:World):∃z,(zeroValue t).run P w=.ok z w∧z.cells.toList=zeros ti.ty:=by
 obtain⟨i,z,hi,_,_,hz,hc⟩:=(hT t ti h).info
 exact⟨z,by simp[zeroValue,typeInfo,hi,hz],hc⟩
theorem X2e(hT:X0q P tab){t:TypeId}{ti:TI}(h:look t tab=some ti)(w:World):(sizeOf t).run P w=.ok (size ti.ty) w:=by
 obtain⟨i,z,hi,hs,_,_,_⟩:=(hT t ti h).info
 simp[sizeOf,typeInfo,hi,hs]
theorem X6G(rows:List (Nat×X0f)):∀t:Ty,X0y (RdT σ rows M) (zeros t) (XaY t)
 | .int _=>.cons ⟨rfl,trivial⟩ .nil
 | .bool=>.cons ⟨rfl,trivial⟩ .nil
 | .str=>.cons ⟨rfl,trivial⟩ .nil
 | .list τ=>.cons ⟨RdC.nilSlice M τ,by simp[X59]⟩ .nil
 | .unit=>.nil
 | .pair x y=>(X6G rows x).append (X6G rows y)
theorem Xg2(hT:X0q P tab)(hS:Sim P base M0 ios σ M w a st){t:TypeId}{ti:TI}{d:Nat}(ho:o.op=.alloc t)(hd:o.dst=some d)(hdn:d<st.nt)(ht:look t tab=some ti)(hf:noBox (d+1) st=true)(hn:X2Y P base M0 ios a o st {sv:=.box (d+1) 0,nbox:=some (XaY ti.ty)} next):o.wp P a w next Q:=by
 obtain⟨z,hz,hzc⟩:=Xce hT ht w
 refine X0i (v:=.pointer (some ⟨w.heap.size,0,none⟩)) (w':=w.alloc (.cells z.cells t)) ?_ ?_
 · simp[execOp,ho,Instr.alloc,hz,newVar,newRow,newObj,Sem.run]
 · have hS':=hS.allocBox (d:=d+1) (by omega) hf (arr:=z.cells) (E:=t) (cs:=XaY ti.ty) (by rw[hzc];exact X6G _ _)
   refine hn _ {σ with box:=fun k=>if k=d+1 then w.heap.size else σ.box k} M _ ?_
   have:=hS'.put (d:=d) (v:=.pointer (some ⟨w.heap.size,0,none⟩)) (sv:=.box (d+1) 0) hdn ⟨by simp[Addr.add],by simp[X01]⟩
   rw[hd]
   exact this
theorem XdQ{t:TypeId}(h:ptrI P t=true)(w:World):(zeroValue t).run P w=.ok (.pointer none) w∧(sizeOf t).run P w=.ok 1 w:=by
 unfold ptrI at h
 split at h
 · rename_i i hi
   rw[Bool.and_eq_true,beq_iff_eq]at h
   obtain⟨h1,h2⟩:=h
   split at h2
   · rename_i hz
     exact⟨by simp[zeroValue,typeInfo,hi,hz],by simp[sizeOf,typeInfo,hi,h1]⟩
   · cases h2
 · cases h
theorem XbO(hS:Sim P base M0 ios σ M w a st){t:TypeId}{d:Nat}(ho:o.op=.alloc t)(hd:o.dst=some d)(hdn:d<st.nt)(ht:ptrI P t=true)(hf:noBox (d+1) st=true)(hn:X2Y P base M0 ios a o st {sv:=.box (d+1) 0,nbox:=some [.und]} next):o.wp P a w next Q:=by
 obtain⟨hz,_⟩:=XdQ ht w
 refine X0i (v:=.pointer (some ⟨w.heap.size,0,none⟩)) (w':=w.alloc (.cells #[.pointer none] t)) ?_ ?_
 · simp[execOp,ho,Instr.alloc,hz,newVar,newRow,newObj,Sem.run,Value.cells]
 · have hS':=hS.allocBox (d:=d+1) (by omega) hf (arr:=#[.pointer none]) (E:=t) (cs:=[.und]) (.cons ⟨rfl,trivial⟩ .nil)
   refine hn _ {σ with box:=fun k=>if k=d+1 then w.heap.size else σ.box k} M _ ?_
   have:=hS'.put (d:=d) (v:=.pointer (some ⟨w.heap.size,0,none⟩)) (sv:=.box (d+1) 0) hdn ⟨by simp[Addr.add],by simp[X01]⟩
   rw[hd]
   exact this
theorem Xin(hS:Sim P base M0 ios σ M w a st){t:TypeId}{x:Operand}{cs:List X00}{d:Nat}(ho:o.op=.box t x)(hd:o.dst=some d)(hdn:d<st.nt)(hx:X0y (RdT σ st.rows M) (a.eval x).cells.toList cs)(hf:noBox (d+1) st=true)(hn:X2Y P base M0 ios a o st {sv:=.box (d+1) 0,nbox:=some cs} next):o.wp P a w next Q:=by
 refine X0i (v:=.pointer (some ⟨w.heap.size,0,none⟩)) (w':=w.alloc (.cells (a.eval x).cells t)) ?_ ?_
 · simp[execOp,ho,Instr.box,newVar,newRow,newObj,Sem.run]
 · have hS':=hS.allocBox (d:=d+1) (by omega) hf (E:=t) hx
   refine hn _ {σ with box:=fun k=>if k=d+1 then w.heap.size else σ.box k} M _ ?_
   have:=hS'.put (d:=d) (v:=.pointer (some ⟨w.heap.size,0,none⟩)) (sv:=.box (d+1) 0) hdn ⟨by simp[Addr.add],by simp[X01]⟩
   rw[hd]
   exact this
theorem Sim.allocFrz(hS:Sim P base M0 ios σ M w a st)(arr:Array Value)(E:TypeId):
 ∃M',M.le M'∧Sim P base M0 ios σ M' (w.alloc (.cells arr E)) a st∧∀u,arr.toList[0]?=some u→M' ⟨w.heap.size,0,none⟩=some u:=by
 have hg:=World.grownBy_alloc w (.cells arr E) none
 have hlt:∀ad v,M ad=some v→ad.block<w.heap.size:=fun ad v h=>World.block_lt_of_cell? w ad (hS.mem ad v h)
 have h1:Sim P base M0 ios σ M (w.alloc (.cells arr E)) a st:=hS.grown hg
  (fun ad v h=>by rw[World.cell?_of_block (hg.block ad.block (hlt ad v h) (by simp))];exact hS.mem ad v h)
  (fun k _=>by simp) (fun r _=>by cases (σ.row r).ownBlock<;>simp) (fun k e=>by cases e) (fun r _ g e=>by cases e)
 refine⟨fun ad=>if ad.block=w.heap.size then(w.alloc (.cells arr E)).cell? ad else M ad,fun ad v h=>?_,h1.moreMem (fun ad v h=>?_) (fun ad v h=>?_) (fun k hk ad had=>?_) (fun ad h2 h3 h4=>?_) (fun r e he n xs i hi ho hm g hg' ad had hle=>?_) (fun r hr g hg' ad had=>?_),fun u hu=>?_⟩
 · simp only;rw[if_neg (by have:=hlt ad v h;omega)];exact h
 · rw[if_neg (by have:=hlt ad v h;omega)];exact h
 · split at h
   · exact h
   · exact h1.mem ad v h
 · rw[if_neg (by have:=hS.box_lt hk;omega)];exact hS.boxM k hk ad had
 · rw[if_neg (by have:=hS.fr.size;omega)];exact hS.old ad h2 h3 h4
 · obtain⟨n',xs',i',_,k2,_⟩:=(hS.rows r e he).own
   have:=(k2.lt g hg').2
   rw[if_neg (by omega)];exact hm g hg' ad had hle
 · rw[if_neg (by have:=hS.hot.lt r hr g hg';omega)];exact hS.hot.noM r hr g hg' ad had
 · simp only[if_true]
   have hh:(w.alloc (.cells arr E)).heap[w.heap.size]?=some (.cells arr E (0,0)):=heap_alloc_new w _
   rw[cell_of_row _ w.heap.size 0 arr E (0,0) hh]
   simpa using hu
theorem XaK(hS:Sim P base M0 ios σ M w a st){t:TypeId}{x:Operand}{sv:Sv}{d:Nat}{ad:Addr}(ho:o.op=.box t x)(hd:o.dst=some d)(hdn:d<st.nt)(hx:a.eval x=.pointer (some ad))(hr:∀M':Mem,M.le M'→M' ⟨w.heap.size,0,none⟩=some (.pointer (some ad))→X17 σ st.rows st.boxes M' (.pointer (some ⟨w.heap.size,0,none⟩)) sv)(hn:X2Y P base M0 ios a o st {sv:=sv} next):o.wp P a w next Q:=by
 refine X0i (v:=.pointer (some ⟨w.heap.size,0,none⟩)) (w':=w.alloc (.cells (a.eval x).cells t)) ?_ ?_
 · simp[execOp,ho,Instr.box,newVar,newRow,newObj,Sem.run]
 · obtain⟨M',h1,h2,h3⟩:=hS.allocFrz (a.eval x).cells t
   refine hn _ σ M' _ (h2.putO (fun d' e=>by rw[hd]at e;cases e;exact hdn) (hr M' h1 (h3 _ ?_)))
   rw[hx];rfl
theorem XeW{t:TypeId}(h:XdC P t=true)(w:World):(isAgg t).run P w=.ok false w:=by
 unfold XdC at h
 split at h
 · rename_i e hu
   unfold isAgg
   simp[run_underlying hu]
 · cases h
theorem XaA(hS:Sim P base M0 ios σ M w a st){t:TypeId}{x:Operand}{sv:Sv}{ad:Addr}{u:Value}(ho:o.op=.load t x)(hd:∀d,o.dst=some d→d<st.nt)(ht:XdC P t=true)(hx:a.eval x=.pointer (some ad))(hu:M ad=some u)(hr:X17 σ st.rows st.boxes M u sv)(hn:X2Y P base M0 ios a o st {sv:=sv} next):o.wp P a w next Q:=by
 refine X0i (v:=u) (w':=w) ?_ (hn _ σ M w (hS.putO hd hr))
 have hc:=hS.mem ad u hu
 have hl:(loadVar t ad).run P w=.ok u w:=by
  unfold loadVar
  rw[Sem.run_bind,XeW ht]
  simp[load,Sem.run,hc]
 simp[execOp,ho,Instr.loadAt,Instr.sureAddr,hx,hl]
theorem X9s(hT:X0q P tab){t:TypeId}{ti:TI}(h:look t tab=some ti)(w:World):(isAgg t).run P w=.ok ti.agg w:=by
 have hu:=(hT t ti h).und
 unfold isAgg
 cases hg:ti.agg with
 | true=>
   rw[hg]at hu
   simp only[if_true]at hu
   obtain⟨fs,hfs,_⟩:=hu
   simp[run_underlying hfs]
 | false=>
   rw[hg]at hu
   simp only[Bool.false_eq_true,if_false]at hu
   cases hty:ti.ty<;>rw[hty]at hu<;>simp only at hu<;>first | exact hu.elim | simp[run_underlying hu]
theorem X2d(hT:X0q P tab){t:TypeId}{ti:TI}(h:look t tab=some ti)(hag:ti.agg=true∨size ti.ty=1)(ad:Addr)(vs:List Value)(hl:vs.length=size ti.ty)(hc:∀j u,vs[j]?=some u→w.cell? (ad.add j)=some u)(h1:∀u∈vs,u.oneCell'=true):
 ∃v,(loadVar t ad).run P w=.ok v w∧v.cells.toList=vs∧X4l v=ti.agg:=by
 unfold loadVar
 rw[Sem.run_bind,X9s hT h]
 simp only[Result.andThen_ok]
 cases hg:ti.agg with
 | true=>
   simp only[if_true]
   have:=run_loadCells_list (P:=P) w ad vs hc
   rw[hl]at this
   exact⟨.agg vs.toArray,by simp[X2e hT h,this],by simp[Value.cells],rfl⟩
 | false=>
   rw[hg]at hag
   have hs:size ti.ty=1:=by simpa using hag
   rw[hs]at hl
   match vs,hl with
   | [u],_=>
     have hu:=hc 0 u (by simp)
     have h1u:=h1 u (by simp)
     refine⟨u,?_,?_,?_⟩
     · simp only[Bool.false_eq_true,if_false]
       have:w.cell? ad=some u:=by rw[Addr.add_zero']at hu;exact hu
       simp[load,Sem.run,this]
     · cases u<;>simp[Value.cells,Value.oneCell']at h1u ⊢
     · cases u<;>simp[X4l,Value.oneCell']at h1u ⊢
theorem X0y.getL{α β:Type}{R:α→β→Prop}{as:List α}{bs:List β}(h:X0y R as bs):∀{i:Nat} {x},as[i]?=some x→∃y,bs[i]?=some y∧R x y:=by
 induction h with
 | nil=>intro i b hb;simp at hb
 | cons x _ ih=>
   intro i b hb
   cases i with
   | zero=>simp at hb;subst hb;exact⟨_,by simp,x⟩
   | succ i=>simp at hb;obtain⟨y,hy,hr⟩:=ih hb;exact⟨y,by simpa using hy,hr⟩
theorem X0y.one{σ:Sg}{rows:List (Nat×X0f)}{M:Mem}{vs:List Value}{cs:List X00}(h:X0y (RdT σ rows M) vs cs):∀u∈vs,u.oneCell'=true:=by
 intro u hu
 obtain⟨i,hi⟩:=List.getElem?_of_mem hu
 obtain⟨c,_,hr⟩:=h.getL hi
 exact hr.1.oneCell
theorem X5R{rows:List (Nat×X0f)}{ad:Addr}{M:Mem}:∀{cs:List X00} {o:Nat},(∀i c,cs[i]?=some c→∃u,M (ad.add (o+i))=some u∧RdT σ rows M u c)→
 ∃vs,X0y (RdT σ rows M) vs cs∧∀j u,vs[j]?=some u→M (ad.add (o+j))=some u
 | [],o,_=>⟨[],.nil,fun j u h=>by simp at h⟩
 | c::r,o,h=>by
   obtain⟨u,hu,hr⟩:=h 0 c (by simp)
   obtain⟨vs,h1,h2⟩:=X5R (ad:=ad) (cs:=r) (o:=o+1) (fun i c' hc=>by
    have:=h (i+1) c' (by simpa using hc)
    rwa [show o+(i+1)=o+1+i by omega]at this)
   refine⟨u::vs,.cons hr h1,?_⟩
   intro j x hx
   cases j with
   | zero=>simp at hx;subst hx;exact hu
   | succ j=>simp at hx;have:=h2 j x hx;rwa [show o+1+j=o+(j+1) by omega]at this
theorem XcN(hT:X0q P tab)(hS:Sim P base M0 ios σ M w a st){t:TypeId}{ti:TI}{x:Operand}{k off:Nat}{cs:List X00}(ho:o.op=.load t x)(hd:∀d,o.dst=some d→d<st.nt)(ht:look t tab=some ti)(hx:a.eval x=.pointer (some ((⟨σ.box k,0,none⟩:Addr).add off)))(hk:st.box k=some cs)(hl:off+size ti.ty≤cs.length)(hag:ti.agg=true∨size ti.ty=1)(hn:X2Y P base M0 ios a o st {sv:=.val ti.agg ((cs.drop off).take (size ti.ty))} next):o.wp P a w next Q:=by
 obtain⟨arr,E,hh,hc⟩:=hS.boxes k cs hk
 have h2:=(hc.drop off).take (size ti.ty)
 obtain⟨v,hv,hvc,hva⟩:=X2d (w:=w) hT ht hag ((⟨σ.box k,0,none⟩:Addr).add off) ((arr.toList.drop off).take (size ti.ty))
  (by rw[List.length_take,List.length_drop,hc.length];omega)
  (by
    intro j u hu
    rw[add_lit,add_lit,cell_of_row w (σ.box k) _ arr E (0,0) hh]
    rw[List.getElem?_take]at hu
    split at hu
    · rw[List.getElem?_drop]at hu;rw[Nat.zero_add];simpa using hu
    · cases hu)
  h2.one
 refine X0i (v:=v) (w':=w) ?_ (hn _ σ M w (hS.putO hd ⟨by rw[hvc];exact h2,hva⟩))
 simp[execOp,ho,Instr.loadAt,Instr.sureAddr,hx,hv]
theorem Xcu(hT:X0q P tab)(hS:Sim P base M0 ios σ M w a st){t:TypeId}{ti:TI}{x:Operand}{cs:List X00}(ho:o.op=.load t x)(hd:∀d,o.dst=some d→d<st.nt)(ht:look t tab=some ti)(hx:X5L σ st.rows M (a.eval x) cs)(hl:size ti.ty≤cs.length)(hag:ti.agg=true∨size ti.ty=1)(hn:X2Y P base M0 ios a o st {sv:=.val ti.agg (cs.take (size ti.ty))} next):o.wp P a w next Q:=by
 obtain⟨ad,hx,hc⟩:=hx
 obtain⟨vs,h1,h2⟩:=X5R (σ:=σ) (rows:=st.rows) (ad:=ad) (cs:=cs) (o:=0) (by simpa using hc)
 have h3:=h1.take (size ti.ty)
 obtain⟨v,hv,hvc,hva⟩:=X2d (w:=w) hT ht hag ad (vs.take (size ti.ty))
  (by rw[List.length_take,h1.length];omega)
  (by
    intro j u hu
    rw[List.getElem?_take]at hu
    split at hu
    · exact hS.mem _ _ (by simpa using h2 j u hu)
    · cases hu)
  h3.one
 refine X0i (v:=v) (w':=w) ?_ (hn _ σ M w (hS.putO hd ⟨by rw[hvc];exact h3,hva⟩))
 simp[execOp,ho,Instr.loadAt,Instr.sureAddr,hx,hv]
theorem Xg9(hT:X0q P tab)(hS:Sim P base M0 ios σ M w a st){t:TypeId}{ti:TI}{x y:Operand}{k off:Nat}{cs ds:List X00}(ho:o.op=.store t x y)(hdn:o.dst=none)(ht:look t tab=some ti)(hx:a.eval x=.pointer (some ((⟨σ.box k,0,none⟩:Addr).add off)))(hk:st.box k=some cs)(hy:X0y (RdT σ st.rows M) (a.eval y).cells.toList ds)(hl:ds.length=size ti.ty)(hl2:off+ds.length≤cs.length)(hn:X2Y P base M0 ios a o st {sv:=.und,sbox:=some (k,cs.take off++(ds++cs.drop (off+ds.length)))} next):o.wp P a w next Q:=by
 obtain⟨arr,E,hh,hc⟩:=hS.boxes k cs hk
 have hsz:(a.eval y).cells.toList.length=ds.length:=hy.length
 have hst:=run_storeCells_at P (σ.box k) off E (a.eval y).cells.toList 0 arr w hh (by rw[hsz,Nat.add_zero,←Array.length_toList,hc.length];exact hl2) hy.one
 have hS':=hS.storeBox (ds:=cs.take off++(ds++cs.drop (off+ds.length))) (arr':=(arr.toList.take off++(a.eval y).cells.toList++arr.toList.drop (off+(a.eval y).cells.toList.length)).toArray) hk hh
  (by rw[hsz];simpa using ((hc.take off).append (hy.append (hc.drop (off+ds.length)))))
 have hgo:=hn undef σ M (w.setRow (σ.box k) (arr.toList.take off++(a.eval y).cells.toList++arr.toList.drop (off+(a.eval y).cells.toList.length)).toArray)
 rw[hdn]at hgo
 unfold Oper.wp
 have hrun:(execOp a.eval o).run P w=.ok .skip (w.setRow (σ.box k) (arr.toList.take off++(a.eval y).cells.toList++arr.toList.drop (off+(a.eval y).cells.toList.length)).toArray):=by
  simp only[Nat.add_zero]at hst
  have hsz':(a.eval y).cells.size=size ti.ty:=by rw[←Array.length_toList,hsz,hl]
  have hx':a.eval x=.pointer (some ⟨σ.box k,off,none⟩):=by rw[hx,add_lit,Nat.zero_add]
  simp[execOp,ho,Instr.storeAt,Instr.sureAddr,hx',storeVar,X2e hT ht,hsz']
  simp only[Array.length_toList,List.append_assoc]at hst
  rw[hsz']at hst
  simp[hst]
 rw[hrun]
 show next (a.put o.dst undef) _
 rw[hdn]
 exact hgo hS'
end Go.Proofs.Ytakllifahpfmpaa.Bv
namespace Go.Proofs.Ytakllifahpfmpaa.Bv
variable {P:Program} {base:World} {M0:Mem} {ios:Ios} {σ:Sg} {M:Mem} {w:World} {a:Act} {st:St} {tab:Tab} {o:Oper} {next:Act→World→Prop} {Q:Exit→Act→World→Prop}
theorem X23(hT:X0q P tab){t e:TypeId}{τ:Ty}{fs:List (Nat×TypeId)}{b:Nat}(h:look t tab=some ⟨.list τ,false,fs,e,b⟩):P.underlying t=some (.slice e):=by
 have:=(hT t _ h).und;simpa using this
theorem Xcv(hT:X0q P tab){t e:TypeId}{fs:List (Nat×TypeId)}{b:Nat}(h:look t tab=some ⟨.str,false,fs,e,b⟩):P.underlying t=some .string:=by
 have:=(hT t _ h).und;simpa using this
theorem Xhv(hT:X0q P tab){t e:TypeId}{k:IntKind}{fs:List (Nat×TypeId)}{b:Nat}(h:look t tab=some ⟨.int k,false,fs,e,b⟩):P.underlying t=some (.int k):=by
 have:=(hT t _ h).und;simpa using this
theorem XgI(hT:X0q P tab){t e:TypeId}{fs:List (Nat×TypeId)}{b:Nat}(h:look t tab=some ⟨.bool,false,fs,e,b⟩):P.underlying t=some .bool:=by
 have:=(hT t _ h).und;simpa using this
theorem XgO(hT:X0q P tab){t:TypeId}{ti:TI}(h:look t tab=some ti):∃d,P.underlying t=some d:=by
 have hu:=(hT t ti h).und
 cases hg:ti.agg with
 | true=>rw[hg]at hu;simp only[if_true]at hu;obtain⟨fs,hfs,_⟩:=hu;exact⟨_,hfs⟩
 | false=>
   rw[hg]at hu;simp only[Bool.false_eq_true,if_false]at hu
   cases hty:ti.ty<;>rw[hty]at hu<;>simp only at hu<;>first | exact hu.elim | exact⟨_,hu⟩
theorem X8g(hT:X0q P tab){t:TypeId}{ti:TI}(h:look t tab=some ti)(hg:ti.agg=true):
 ∃fs,P.underlying t=some (.struct fs)∧fs.toList.map (fun f=>(f.offset,f.type))=ti.fields∧∀p∈ti.fields,(look p.2 tab).isSome=true:=by
 have hu:=(hT t ti h).und
 rw[hg]at hu;simpa using hu
theorem X6c(hT:X0q P tab){t tf:TypeId}{ti tif:TI}(h:look t tab=some ti)(hg:ti.agg=true){f off:Nat}(hf:ti.fields[f]?=some (off,tf))(htf:look tf tab=some tif)(hs:0<size tif.ty)(ad:Addr)(w:World):
 (Instr.fieldAt t (.pointer (some ad)) f).run P w=.ok (.pointer (some (ad.add off))) w:=by
 obtain⟨fs,hfs,hm,_⟩:=X8g hT h hg
 rw[←hm,List.getElem?_map]at hf
 cases hx:fs.toList[f]? with
 | none=>rw[hx]at hf;simp at hf
 | some fl=>
   rw[hx]at hf
   simp only[Option.map_some,Option.some.injEq,Prod.mk.injEq]at hf
   obtain⟨ho,hty⟩:=hf
   have hx':fs[f]?=some fl:=by simpa using hx
   have hsz:(sizeOf fl.type).run P w=.ok (size tif.ty) w:=by rw[hty];exact X2e hT htf w
   simp[Instr.fieldAt,run_underlying hfs,hx',Instr.sureAddr,fieldPlace,hsz,show size tif.ty≠0 by omega,ho]
theorem X8I(hT:X0q P tab)(hS:Sim P base M0 ios σ M w a st){t tf:TypeId}{ti tif:TI}{x:Operand}{f k oo off:Nat}(ho:o.op=.fieldAddr t x f)(hd:∀d,o.dst=some d→d<st.nt)(h:look t tab=some ti)(hg:ti.agg=true)(hf:ti.fields[f]?=some (off,tf))(htf:look tf tab=some tif)(hs:0<size tif.ty)(hx:X17 σ st.rows st.boxes M (a.eval x) (.box k oo))(hn:X2Y P base M0 ios a o st {sv:=.box k (oo+off)} next):o.wp P a w next Q:=by
 obtain⟨hx,hb⟩:=hx
 refine X0i (v:=.pointer (some ((⟨σ.box k,0,none⟩:Addr).add (oo+off)))) (w':=w) ?_ (hn _ σ M w (hS.putO hd ⟨rfl,hb⟩))
 have:=X6c hT h hg hf htf hs ((⟨σ.box k,0,none⟩:Addr).add oo) w
 simp[execOp,ho,hx,this,Addr.add_add]
theorem X8R(hT:X0q P tab)(hS:Sim P base M0 ios σ M w a st){t tf:TypeId}{ti tif:TI}{x:Operand}{f off:Nat}{cs:List X00}(ho:o.op=.fieldAddr t x f)(hd:∀d,o.dst=some d→d<st.nt)(h:look t tab=some ti)(hg:ti.agg=true)(hf:ti.fields[f]?=some (off,tf))(htf:look tf tab=some tif)(hs:0<size tif.ty)(hx:X17 σ st.rows st.boxes M (a.eval x) (.ptr cs))(hn:X2Y P base M0 ios a o st {sv:=.ptr (cs.drop off)} next):o.wp P a w next Q:=by
 obtain⟨ad,hx,hc⟩:=hx
 refine X0i (v:=.pointer (some (ad.add off))) (w':=w) ?_ (hn _ σ M w (hS.putO hd ⟨ad.add off,rfl,?_⟩))
 · have:=X6c hT h hg hf htf hs ad w
   simp[execOp,ho,hx,this]
 · intro i c hi
   rw[List.getElem?_drop]at hi
   rw[Addr.add_add]
   exact hc _ c hi
theorem RdC.at{τ:Ty}{l:List (El τ)}{v:Value}(h:RdC M (.list τ) [v] l){i:Nat}(hi:i<l.length):
 ∃ad cap,v=.slice (some ad) l.length cap∧∃vs,vs.length=size τ∧(∀j u,vs[j]?=some u→M ((ad.add (i*size τ)).add j)=some u)∧RdC M τ vs (l.getD i (dflt τ)):=by
 obtain⟨ado,cap,e,_,_,hc⟩:=h
 cases e
 obtain⟨ad,vs,rfl,h1,h2,h3⟩:=hc i hi
 refine⟨ad,cap,rfl,vs,h1,fun j u hu=>by rw[Addr.add_add];exact h2 j u hu,?_⟩
 rw[List.getD_eq_getElem?_getD,List.getElem?_eq_getElem hi]
 exact h3
theorem X85:∀(t:Ty) (x:El t) (c:X00),c∈flat t x→∀v,X59 σ st.rows v c
 | .int _,_,c,h,v=>by simp[flat]at h;subst h;trivial
 | .bool,_,c,h,v=>by simp[flat]at h;subst h;trivial
 | .str,_,c,h,v=>by simp[flat]at h;subst h;trivial
 | .list t,l,c,h,v=>by simp[flat]at h;subst h;trivial
 | .unit,_,c,h,v=>by simp[flat]at h
 | .pair a b,x,c,h,v=>by
   simp only[flat,List.mem_append]at h
   rcases h with h | h
   · exact X85 a x.1 c h v
   · exact X85 b x.2 c h v
theorem Xgy{t:Ty}{cs:List Value}{x:El t}(h:RdC M t cs x):X0y (RdT σ st.rows M) cs (flat t x):=
 (X7e t cs x h).imp_mem fun v c hc hv=>⟨hv,X85 t x c hc v⟩
theorem Xcl(hT:X0q P tab)(hS:Sim P base M0 ios σ M w a st){t e:TypeId}{te:TI}{τ0 τ:Ty}{fs:List (Nat×TypeId)}{b:Nat}{x y:Operand}{k:IntKind}{i:Int}{l:List (El τ)}{tag:Option Nat}(ho:o.op=.indexAddr t x y)(hd:∀d,o.dst=some d→d<st.nt)(h:look t tab=some ⟨.list τ0,false,fs,e,b⟩)(he:look e tab=some te)(hs:size te.ty=size τ)(hx:X17 σ st.rows st.boxes M (a.eval x) (.val false [.lst τ l tag]))(hy:X17 σ st.rows st.boxes M (a.eval y) (.val false [.int k i]))(h0:0≤i)(h1:i<l.length)(hn:X2Y P base M0 ios a o st {sv:=.ptr (flat τ (l.getD i.toNat (dflt τ)))} next):o.wp P a w next Q:=by
 have hx':=(X0h.one hx).1
 have hy':=(X0h.one hy).int
 obtain⟨ad,cap,hv,vs,h2,h3,h4⟩:=RdC.at hx' (i:=i.toNat) (by omega)
 refine X0i (v:=.pointer (some (ad.add (i.toNat*size τ)))) (w':=w) ?_ (hn _ σ M w (hS.putO hd ⟨_,rfl,?_⟩))
 · have hu:=X23 hT h
   have hsz:=X2e hT he w
   rw[hs]at hsz
   simp[execOp,ho,hv,hy',Instr.indexAt,asIntOf,run_underlying hu,h0,h1,hsz]
 · intro j c hj
   obtain⟨u,hu,hr⟩:=(Xgy (σ:=σ) (st:=st) h4).get hj
   exact⟨u,h3 j u hu,hr⟩
theorem XbA(hT:X0q P tab)(hS:Sim P base M0 ios σ M w a st){t e:TypeId}{fs:List (Nat×TypeId)}{b:Nat}{x y:Operand}{k:IntKind}{i:Int}{s:List UInt8}(ho:o.op=.index t x y)(hd:∀d,o.dst=some d→d<st.nt)(h:look t tab=some ⟨.str,false,fs,e,b⟩)(hx:X17 σ st.rows st.boxes M (a.eval x) (.val false [.str s]))(hy:X17 σ st.rows st.boxes M (a.eval y) (.val false [.int k i]))(h0:0≤i)(h1:i<s.length)(hn:X2Y P base M0 ios a o st {sv:=.val false [.int .u8 (s.getD i.toNat 0).toNat]} next):o.wp P a w next Q:=by
 have hx':=(X0h.one hx).str
 have hy':=(X0h.one hy).int
 refine X0i (v:=.int .u8 (s.getD i.toNat 0).toNat) (w':=w) ?_ (hn _ σ M w (hS.putO hd (X3h _ _)))
 have hlt:i.toNat<s.length:=by omega
 have:=run_index_string (P:=P) w t ⟨s.toArray⟩ k i (Xcv hT h)
 rw[dif_pos ⟨h0,by simpa [ByteArray.size] using h1⟩]at this
 simp[execOp,ho,hx',hy',this,List.getD_eq_getElem?_getD,List.getElem?_eq_getElem hlt]
 rfl
def X5j(x:Option Int):Nat:=match x with | some n=>n.toNat | none=>0
def X56(len:Nat)(x:Option Int):Nat:=match x with | some n=>n.toNat | none=>len
theorem X7U{isS:Bool}{len cap:Nat}(lo hi:Option Int)(kl kh:IntKind)(h0:∀n,lo=some n→0≤n)(h1:∀n,hi=some n→0≤n)(h2:X5j lo≤X56 len hi)(h3:X56 len hi≤cap)(w:World):
 (Instr.sliceBounds isS len cap (lo.map (Value.int kl)) (hi.map (Value.int kh)) none).run P w=.ok (X5j lo,X56 len hi,cap) w:=by
 cases lo with
 | none=>cases hi with
   | none=>simp[Instr.sliceBounds,X5j,X56]
   | some m=>
     have:=h1 m rfl
     simp only[X56]at h3
     simp[Instr.sliceBounds,X5j,X56,Instr.sliceBound,asIntOf,this,show m≤(cap:Int) by omega]
 | some n=>cases hi with
   | none=>
     have:=h0 n rfl
     simp only[X5j,X56]at h2
     simp[Instr.sliceBounds,X5j,X56,Instr.sliceBound,asIntOf,this,show n≤(len:Int) by omega]
   | some m=>
     have hn:=h0 n rfl
     have hm:=h1 m rfl
     simp only[X5j,X56]at h2 h3
     simp[Instr.sliceBounds,X5j,X56,Instr.sliceBound,asIntOf,hn,hm,show m≤(cap:Int) by omega,show n≤m by omega]
     omega
theorem Xbw(hT:X0q P tab)(hS:Sim P base M0 ios σ M w a st){t:TypeId}{ti te:TI}{τ0 τ:Ty}{x:Operand}{lo hi:Option Operand}{l:List (El τ)}{tag:Option Nat}{n m:Option Int}{kl kh:IntKind}(ho:o.op=.slice t x lo hi none)(hd:∀d,o.dst=some d→d<st.nt)(h:look t tab=some ti)(hty:ti.ty=.list τ0)(hg:ti.agg=false)(he:look ti.elem tab=some te)(hs:size te.ty=size τ)(hx:X17 σ st.rows st.boxes M (a.eval x) (.val false [.lst τ l tag]))(hlo:lo.map a.eval=n.map (Value.int kl))(hhi:hi.map a.eval=m.map (Value.int kh))(h0:∀j,n=some j→0≤j)(h1:∀j,m=some j→0≤j)(h2:X5j n≤X56 l.length m)(h3:X56 l.length m≤l.length)(hn:X2Y P base M0 ios a o st {sv:=.val false [.lst τ ((l.take (X56 l.length m)).drop (X5j n)) none]} next):o.wp P a w next Q:=by
 have hx':=(X0h.one hx).1
 have hr:=hx'
 obtain⟨ad,cap,e,hl,hm,hc⟩:=hr
 have hv:a.eval x=.slice ad l.length cap:=List.head_eq_of_cons_eq e
 rw[hv]at hx'
 have hsl:=RdC.slice (M:=M) (τ:=τ) hx' h2 h3
 refine X0i (v:=.slice (if cap=X5j n then ad else ad.map (·.add (X5j n*size τ))) (X56 l.length m - X5j n) (cap - X5j n)) (w':=w) ?_
  (hn _ σ M w (hS.putO hd (X0h.mk1 ⟨hsl,trivial⟩ rfl)))
 have hu:P.underlying t=some (.slice ti.elem):=by have:=(hT t ti h).und;rw[hg,hty]at this;simpa using this
 have hb:=X7U (P:=P) (isS:=true) (len:=l.length) (cap:=cap) n m kl kh h0 h1 h2 (by omega) w
 have hsz:=X2e hT he w
 rw[hs]at hsz
 rw[←hlo,←hhi]at hb
 simp[execOp,ho,hv,Instr.sliceAt,run_underlying hu,Instr.slice,hb,hsz]
theorem X5n(hT:X0q P tab)(hS:Sim P base M0 ios σ M w a st){t:TypeId}{ti:TI}{x:Operand}{lo hi:Option Operand}{s:List UInt8}{n m:Option Int}{kl kh:IntKind}(ho:o.op=.slice t x lo hi none)(hd:∀d,o.dst=some d→d<st.nt)(h:look t tab=some ti)(hty:ti.ty=.str)(hg:ti.agg=false)(hx:X17 σ st.rows st.boxes M (a.eval x) (.val false [.str s]))(hlo:lo.map a.eval=n.map (Value.int kl))(hhi:hi.map a.eval=m.map (Value.int kh))(h0:∀j,n=some j→0≤j)(h1:∀j,m=some j→0≤j)(h2:X5j n≤X56 s.length m)(h3:X56 s.length m≤s.length)(hn:X2Y P base M0 ios a o st {sv:=.val false [.str ((s.take (X56 s.length m)).drop (X5j n))]} next):o.wp P a w next Q:=by
 have hv:=(X0h.one hx).str
 refine X0i (v:=.string ⟨((s.take (X56 s.length m)).drop (X5j n)).toArray⟩) (w':=w) ?_ (hn _ σ M w (hS.putO hd (Xd3 _)))
 have hu:P.underlying t=some .string:=by have:=(hT t ti h).und;rw[hg,hty]at this;simpa using this
 have hb:=X7U (P:=P) (isS:=false) (len:=s.length) (cap:=s.length) n m kl kh h0 h1 h2 h3 w
 rw[←hlo,←hhi]at hb
 have hbs:(⟨s.toArray⟩:ByteArray).size=s.length:=by simp[ByteArray.size]
 have hex:((⟨s.toArray⟩:ByteArray).extract (X5j n) (X56 s.length m))=⟨((s.take (X56 s.length m)).drop (X5j n)).toArray⟩:=by
  apply ByteArray.ext
  rw[ByteArray.data_extract]
  apply Array.ext'
  simp[List.extract_eq_take_drop,List.drop_take]
 simp[execOp,ho,hv,Instr.sliceAt,run_underlying hu,Instr.slice,hbs,hb,hex]
end Go.Proofs.Ytakllifahpfmpaa.Bv
namespace Go.Proofs.Ytakllifahpfmpaa.Bv
variable {P:Program} {base:World} {M0:Mem} {ios:Ios} {σ:Sg} {M:Mem} {w:World} {a:Act} {st:St} {tab:Tab} {o:Oper} {next:Act→World→Prop} {Q:Exit→Act→World→Prop}
theorem XbI:∀(vs:List Value) (k off:Nat) (arr:Array Value),off+k+vs.length≤arr.size→
 ((vs.zipIdx k).foldl (fun(cs:Array Value) (p:Value×Nat)=>cs.setIfInBounds (off+p.2) p.1) arr).toList=arr.toList.take (off+k)++(vs++arr.toList.drop (off+k+vs.length))
 | [],k,off,arr,_=>by simp
 | v::vs,k,off,arr,h=>by
   simp only[List.length_cons]at h
   rw[List.zipIdx_cons,List.foldl_cons,XbI vs (k+1) off _ (by simp;omega)]
   simp only[Array.toList_setIfInBounds,List.length_cons]
   have hlt:off+k<arr.toList.length:=by simpa using (by omega:off+k<arr.size)
   apply List.ext_getElem?
   intro i
   simp only[List.getElem?_append,List.getElem?_take,List.getElem?_set,List.length_take,List.length_set,List.getElem?_drop,List.getElem?_cons,List.length_cons]
   by_cases h1:i<off+k
   · have:i<min (off+(k+1)) arr.toList.length:=by omega
     have h2:i<min (off+k) arr.toList.length:=by omega
     rw[if_pos this,if_pos h2,if_pos (by omega),if_pos h1,if_neg (by omega)]
   · by_cases h2:i=off+k
     · subst h2
       have:off+k<min (off+(k+1)) arr.toList.length:=by omega
       have h3:¬off+k<min (off+k) arr.toList.length:=by omega
       rw[if_pos this,if_neg h3,if_pos (by omega)]
       have:off+k - min (off+k) arr.toList.length=0:=by omega
       rw[this]
       simp;omega
     · have h3:¬i<min (off+(k+1)) arr.toList.length:=by omega
       have h4:¬i<min (off+k) arr.toList.length:=by omega
       rw[if_neg h3,if_neg h4]
       have e1:min (off+(k+1)) arr.toList.length=off+k+1:=by omega
       have e2:min (off+k) arr.toList.length=off+k:=by omega
       rw[e1,e2]
       clear h3 h4 e1 e2
       have h6:off+k<i:=by omega
       by_cases h5:i - (off+k+1)<vs.length
       · have h7:i - (off+k)<vs.length+1:=by omega
         have h8:¬i - (off+k)=0:=by omega
         rw[if_pos h5,if_pos h7,if_neg h8]
         rw[show i - (off+k) - 1=i - (off+k+1) by omega]
       · have h7:¬i - (off+k)<vs.length+1:=by omega
         have h9:off+(k+1)+vs.length+(i - (off+k+1) - vs.length)=off+k+(vs.length+1)+(i - (off+k) - (vs.length+1)):=by omega
         rw[if_neg h5,if_neg h7,h9,if_neg (by omega)]
theorem X8X{place place':Nat→Option (Nat×Nat)}{rows:List (Nat×X0f)}:∀{parts:List (Nat×Value)} {ps:List (Nat×List X00)} {arr:Array Value} {cs cs':List X00},
 X0y (fun(p:Nat×Value) (q:Nat×List X00)=>p.1=q.1∧X0y (RdT σ rows M) p.2.cells.toList q.2) parts ps→X0y (RdT σ rows M) arr.toList cs→
 (∀i off sz,place i=some (off,sz)→place' i=some (off,sz))→Xa4 place cs ps=some cs'→
 ∃arr',Instr.fill place' arr parts=some arr'∧X0y (RdT σ rows M) arr'.toList cs'
 | _,_,arr,cs,cs',.nil,h,_,hf=>by simp only[Xa4,Option.some.injEq]at hf;subst hf;exact⟨arr,rfl,h⟩
 | _,_,arr,cs,cs',.cons (a:=p) (b:=q) (as:=ps) (bs:=qs) hp hr,h,hpl,hf=>by
   obtain⟨i,v⟩:=p
   obtain⟨j,ds⟩:=q
   obtain⟨rfl,hv⟩:=hp
   simp only[Xa4]at hf
   cases hx:place i with
   | none=>rw[hx]at hf;cases hf
   | some os=>
     obtain⟨off,sz⟩:=os
     rw[hx]at hf
     simp only at hf
     split at hf
     · rename_i hc
       have hlen:=hv.length
       have hcl:=h.length
       rw[Array.length_toList]at hlen hcl
       have hset:=XbI v.cells.toList 0 off arr (by rw[Nat.add_zero,Array.length_toList,hlen,hcl];exact hc.2)
       simp only[Nat.add_zero,Array.length_toList,hlen]at hset
       have h2:=(h.take off).append (hv.append (h.drop (off+ds.length)))
       rw[←hset]at h2
       obtain⟨arr',ha,hr'⟩:=X8X (place':=place') hr h2 hpl hf
       refine⟨arr',?_,hr'⟩
       unfold Instr.fill
       rw[hpl i off sz hx]
       simp only
       rw[if_neg (by simp[hlen,hc.1,hcl];omega)]
       rw[←ha]
       congr 1
       rw[←Array.foldl_toList,Array.toList_zipIdx]
     · cases hf
theorem X94(hT:X0q P tab):∀(fs:List Field),(∀f∈fs,(look f.type tab).isSome=true)→
 ∃places,fs.mapM (fun f=>(P.info? f.type).map fun i=>(f.offset,i.size))=some places∧∀(i off tf:Nat) (tif:TI),(fs.map (fun f=>(f.offset,f.type)))[i]?=some (off,tf)→look tf tab=some tif→places[i]?=some (off,size tif.ty)
 | [],_=>⟨[],by simp,fun i off tf tif h=>by simp at h⟩
 | f::fs,h=>by
   obtain⟨places,hp,hq⟩:=X94 hT fs fun g hg=>h g (List.mem_cons_of_mem _ hg)
   obtain⟨tif,htif⟩:=Option.isSome_iff_exists.1 (h f (by simp))
   obtain⟨i,z,hi,hs,_⟩:=(hT f.type tif htif).info
   refine⟨(f.offset,i.size)::places,by simp[List.mapM_cons,hi,hp],?_⟩
   intro j off tf tif' hj htf
   cases j with
   | zero=>
     simp at hj;obtain⟨rfl,rfl⟩:=hj
     rw[htif]at htf;cases htf
     simp[hs]
   | succ j=>simp only[List.map_cons,List.getElem?_cons_succ]at hj ⊢;exact hq j off tf tif' hj htf
theorem Xgp(hT:X0q P tab)(hS:Sim P base M0 ios σ M w a st){t:TypeId}{ti:TI}{parts:Array (Nat×Operand)}{ps:List (Nat×List X00)}{cs:List X00}(ho:o.op=.build t parts)(hd:∀d,o.dst=some d→d<st.nt)(h:look t tab=some ti)(hg:ti.agg=true)(hp:X0y (fun(p:Nat×Value) (q:Nat×List X00)=>p.1=q.1∧X0y (RdT σ st.rows M) p.2.cells.toList q.2) (parts.toList.map fun p=>(p.1,a.eval p.2)) ps)(hf:Xa4 (fun i=>(ti.fields[i]?).bind fun f=>(look f.2 tab).bind fun tf=>some (f.1,size tf.ty)) (XaY ti.ty) ps=some cs)(hn:X2Y P base M0 ios a o st {sv:=.val true cs} next):o.wp P a w next Q:=by
 obtain⟨fs,hu,hfs,hall⟩:=X8g hT h hg
 obtain⟨i,z,hi,_,_,hz,hzc⟩:=(hT t ti h).info
 obtain⟨places,hpl,hpq⟩:=X94 hT fs.toList (fun f hf'=>by
  have:=hall (f.offset,f.type) (by rw[←hfs];exact List.mem_map.2 ⟨f,hf',rfl⟩)
  exact this)
 obtain⟨arr',ha,hr⟩:=X8X (σ:=σ) (M:=M) (place':=(places.toArray[·]?)) hp (arr:=z.cells) (by rw[hzc];exact X6G _ _) (fun j off sz hj=>by
  cases hx:ti.fields[j]? with
  | none=>simp[hx]at hj
  | some p=>
    obtain⟨o1,t1⟩:=p
    simp only[hx,Option.bind_some]at hj
    cases hy:look t1 tab with
    | none=>simp[hy]at hj
    | some tf=>
      simp only[hy,Option.bind_some,Option.some.injEq,Prod.mk.injEq]at hj
      obtain⟨rfl,rfl⟩:=hj
      have:=hpq j o1 t1 tf (by rw[hfs];exact hx) hy
      simpa using this) hf
 have hb:P.built t (parts.toList.map fun p=>(p.1,a.eval p.2))=some arr':=by
  unfold Program.built
  rw[hi,hu]
  simp only[hz,hpl]
  exact ha
 have hrun:=run_build (P:=P) w t (parts.map fun p=>(p.1,a.eval p.2)) arr' (by rw[←hb];simp)
 refine X0i (v:=.agg arr') (w':=w) ?_ (hn _ σ M w (hS.putO hd ⟨hr,rfl⟩))
 simp only[execOp,ho]
 simp[hrun]
theorem X92{rows:List (Nat×X0f)}{τ:Ty}:∀{n:Nat} {vs:List Value} {cs rest:List X00} {l:List (El τ)},X0y (RdT σ rows M) vs cs→X52 τ n cs=some (l,rest)→
 ∃css vr,vs=css.flatten++vr∧X0y (RdC M τ) css l∧X0y (RdT σ rows M) vr rest∧l.length=n
 | 0,vs,cs,rest,l,h,e=>by
   simp only[X52,Option.some.injEq,Prod.mk.injEq]at e
   obtain⟨rfl,rfl⟩:=e
   exact⟨[],vs,rfl,.nil,h,rfl⟩
 | n+1,vs,cs,rest,l,h,e=>by
   simp only[X52,Option.bind_eq_some_iff,Option.some.injEq,Prod.mk.injEq]at e
   obtain⟨⟨x,r1⟩,e1,⟨xs,r2⟩,e2,e3,e4⟩:=e
   obtain⟨c1,c2,hv,hx,hr⟩:=X7s τ vs cs x r1 (h.imp fun _ _ h=>h.1) e1
   have hdrop:∀(t:Ty) (cs:List X00) (x:El t) (rest:List X00),X0A t cs=some (x,rest)→rest=cs.drop (size t):=by
    intro t
    induction t with
    | int k=>intro cs x rest e;cases cs with
      | nil=>simp[X0A]at e
      | cons c r=>cases c<;>simp[X0A]at e;simp[size,e]
    | bool=>intro cs x rest e;cases cs with
      | nil=>simp[X0A]at e
      | cons c r=>cases c<;>simp[X0A]at e;simp[size,e]
    | str=>intro cs x rest e;cases cs with
      | nil=>simp[X0A]at e
      | cons c r=>cases c<;>simp[X0A]at e;simp[size,e]
    | list t _=>intro cs x rest e;cases cs with
      | nil=>simp[X0A]at e
      | cons c r=>cases c<;>simp[X0A]at e;simp[size,e.2]
    | unit=>intro cs x rest e;simp only[X0A,Option.some.injEq,Prod.mk.injEq]at e;simp[size,e.2]
    | pair t1 t2 ih1 ih2=>
      intro cs x rest e
      simp only[X0A,Option.bind_eq_some_iff,Option.some.injEq,Prod.mk.injEq]at e
      obtain⟨⟨xa,ra⟩,ea,⟨xb,rb⟩,eb,_,er⟩:=e
      have h1:=ih1 _ _ _ ea
      have h2:=ih2 _ _ _ eb
      simp only at er h2
      subst er;subst h1;rw[h2,List.drop_drop];rfl
   have h1:=hdrop τ cs x r1 e1
   have hlen:c1.length=size τ:=RdC.length τ _ _ hx
   have hd:=h.drop (size τ)
   rw[←h1,hv,←hlen,List.drop_left]at hd
   obtain⟨css,vr,f1,f2,f3,f4⟩:=X92 (n:=n) hd e2
   simp only at e4 e3
   subst e4;subst e3
   exact⟨c1::css,vr,by rw[hv,f1];simp,.cons hx f2,f3,by simp[f4]⟩
def Mem.row(M:Mem)(w:World)(g n:Nat):Mem:=fun ad=>match M ad with
 | some v=>some v
 | none=>if ad.block=g∧ad.spot=none∧ad.off<n then w.cell? ad else none
theorem Mem.le_row(M:Mem)(w:World)(g n:Nat):M.le (M.row w g n):=fun ad v h=>by simp[Mem.row,h]
theorem Mem.row_in{w:World}{g n:Nat}(h:∀ad v,M ad=some v→w.cell? ad=some v):∀ad v,M.row w g n ad=some v→w.cell? ad=some v:=by
 intro ad v hv
 unfold Mem.row at hv
 split at hv
 · rename_i u hu;cases hv;exact h ad _ hu
 · split at hv
   · exact hv
   · cases hv
theorem Mem.row_none{w:World}{g n:Nat}{ad:Addr}(h:M ad=none)(hb:ad.block≠g∨n≤ad.off):M.row w g n ad=none:=by
 unfold Mem.row
 rw[h]
 simp only
 rw[if_neg]
 rintro⟨h1,_,h3⟩
 rcases hb with hb | hb
 · exact hb h1
 · omega
theorem Mem.row_at{w:World}{g n j:Nat}(hMw:∀ad v,M ad=some v→w.cell? ad=some v)(hj:j<n){u:Value}(hu:w.cell? ⟨g,j,none⟩=some u):M.row w g n ⟨g,j,none⟩=some u:=by
 unfold Mem.row
 split
 · rename_i v hv;rw[←hu];exact(hMw _ _ hv).symm
 · rw[if_pos ⟨rfl,rfl,hj⟩];exact hu
theorem X0U(b o l c:Nat)(s:Option Nat):Value.ownBlock (.slice (some ⟨b,o,s⟩) l c)=some b:=rfl
theorem Sim.ownRow(h:Sim P base M0 ios σ M w a st){r n:Nat}{e:TypeId}{τ:Ty}{i:TypeInfo}{v:Value}{xs:List Value}{css:List (List Value)}{l:List (El τ)}(hr0:r≠0)(hpos:0<size τ)(hn:noTag r st=true)(hod:r % 2=1)(hh:∀r',X0t r' st.rows→∀g,v.ownBlock=some g→g∉σ.foot r')(hi:P.info? e=some i)(hs:i.size=size τ)(hown:X2J w (XeA base ios) i.size v n xs)(hc:css.flatten=xs)(hl:X0y (RdC M τ) css l)(hfree:∀g,v.ownBlock=some g→∀ad,ad.block=g→Xcq v+n*i.size≤ad.off→M ad=none)(hb:∀k,(st.box k).isSome=true→v.ownBlock≠some (σ.box k))(hr:∀r',(st.row r').isSome=true→(σ.row r').ownBlock=none∨(σ.row r').ownBlock≠v.ownBlock):
 ∃M',M.le M'∧Sim P base M0 ios {σ with row:=fun k=>if k=r then v else σ.row k} M' w a {st with rows:=(r,.cold e)::st.rows}∧
  X17 {σ with row:=fun k=>if k=r then v else σ.row k} ((r,.cold e)::st.rows) st.boxes M' v (.val false [.lst τ l (some r)]):=by
 have hlen:l.length=n:=by
  have h1:=X0y.flatLen hl
  rw[hc,hown.1,hs]at h1
  exact(Nat.eq_of_mul_eq_mul_right hpos h1).symm
 rcases hown.2 with⟨rfl,hn0⟩ | ⟨g,o,cap,cur,E,rfl,hbg,hg,hnc,hcm,hcs,htake⟩
 ·
  have hl0:l=[]:=List.eq_nil_of_length_eq_zero (by rw[hlen];exact hn0)
  subst hl0
  refine⟨M,Mem.le_refl M,h.newRow hn hod ⟨n,xs,i,hi,hown,hfree⟩ hb hr hh,X0h.mk1 ⟨RdC.nilSlice M τ,?_⟩ rfl⟩
  simp only[X59,if_neg hr0]
  intro _;simp
 · have hb':∀k,(st.box k).isSome=true→σ.box k≠g:=fun k hk e=>hb k hk (by rw[X0U,e])
   have hM:Sim P base M0 ios σ (M.row w g (o+n*i.size)) w a st:=by
    refine h.moreMem (Mem.le_row _ _ _ _) (Mem.row_in h.mem) (fun k hk ad had=>?_) (fun ad had hk hk2=>?_) (fun r' e' he' n' xs' i' hi' ho' hm' g' hg' ad had hoff=>?_) (fun r' hr' g' hg' ad had=>?_)
    · exact Mem.row_none (h.boxM k hk ad had) (.inl (by rw[had];exact hb' k hk))
    · exact Mem.row_none (h.old ad had hk hk2) (.inl fun e2=>by
       rcases hbg with h0 | h0
       · omega
       · exact hk (by rw[e2];exact h0))
    · refine Mem.row_none (hm' g' hg' ad had hoff) (.inl ?_)
      intro e2
      rcases hr r' (by rw[he'];rfl) with h0 | h0
      · rw[hg']at h0;cases h0
      · exact h0 (by rw[hg',X0U];congr 1;omega)
    · exact Mem.row_none (h.hot.noM r' hr' g' hg' ad had) (.inl fun e2=>hh r' hr' g (by rw[X0U]) (by rw[←e2,had];exact hg'))
   refine⟨M.row w g (o+n*i.size),Mem.le_row _ _ _ _,hM.newRow hn hod ⟨n,xs,i,hi,hown,?_⟩ hb hr hh,X0h.mk1 ⟨?_,?_⟩ rfl⟩
   · intro g' hg' ad had hoff
     rw[X0U]at hg';cases hg'
     exact Mem.row_none (hfree g rfl ad had hoff) (.inr hoff)
   · show RdC _ (.list τ) [_] l
     rw[←hlen]
     refine RdC.ofCells (hl.imp fun c x hx=>hx.mono (Mem.le_row _ _ _ _)) (by omega) hcm ?_
     intro j u hu
     rw[add_lit]
     have hjl:j<xs.length:=by rw[←hc];exact(List.getElem?_eq_some_iff.1 hu).1
     refine Mem.row_at h.mem (by rw[hlen]at*;rw[hown.1]at hjl;omega) ?_
     have:=hown.cells (g:=g) rfl j u (by rw[←hc];exact hu)
     rw[add_lit]at this
     exact this
   · simp only[X59,if_neg hr0]
     intro _;simp
end Go.Proofs.Ytakllifahpfmpaa.Bv
namespace Go.Proofs.Ytakllifahpfmpaa.Bv
variable {P:Program} {base:World} {M0:Mem} {ios:Ios} {σ:Sg} {M:Mem} {w:World} {a:Act} {st:St} {tab:Tab} {o:Oper} {next:Act→World→Prop} {Q:Exit→Act→World→Prop}
theorem X4W(zs:List Value)(h:0<zs.length):∀n,(List.range (n*zs.length)).map (fun i=>zs[i % zs.length]!)=(List.replicate n zs).flatten
 | 0=>by simp
 | n+1=>by
   rw[Nat.add_mul,Nat.one_mul,Nat.add_comm,List.range_add,List.map_append,List.replicate_succ,List.flatten_cons,List.map_map,←X4W zs h n]
   congr 1
   · apply List.ext_getElem
     · simp
     · intro i h1 h2
       simp at h1
       simp[Nat.mod_eq_of_lt h1,h1]
   · apply List.map_congr_left
     intro i _
     simp[Nat.add_mod_left]
theorem X7T{rows:List (Nat×X0f)}(τ:Ty):∀n,X0y (RdT σ rows M) (List.replicate n (zeros τ)).flatten (XaM τ n)
 | 0=>by simp;exact .nil
 | n+1=>by rw[List.replicate_succ,List.flatten_cons];exact(X6G rows τ).append (X7T τ n)
theorem X0l:∀t:Ty,(zeros t).length=size t
 | .int _=>rfl
 | .bool=>rfl
 | .str=>rfl
 | .list _=>rfl
 | .unit=>rfl
 | .pair a b=>by simp[zeros,size,X0l a,X0l b]
theorem X4U(e:Eff)(d:Nat)(st:St):e.apply (some d) st={nt:=st.nt,slots:=(d,e.sv)::st.slots,boxes:=(match e.sbox with
 | some p=>p::(match e.nbox with | some cs=>(d+1,cs)::st.boxes | none=>st.boxes)
 | none=>match e.nbox with | some cs=>(d+1,cs)::st.boxes | none=>st.boxes),rows:=e.nrow++X07 e.urow e.krow st.rows,olds:=st.olds.filter (fun j=>!(j==d))}:=by
 unfold Eff.apply
 rw[X2j]
 cases e.sbox<;>cases e.nbox<;>rfl
theorem X5V(d i:Nat):X0e d i % 2=1:=by unfold X0e;omega
theorem Xf8(d i:Nat):Xah d i % 2=1:=by unfold Xah;omega
theorem XbL(d i:Nat):X0e d i≠0:=by unfold X0e;omega
theorem Xbc(hT:X0q P tab)(hS:Sim P base M0 ios σ M w a st){t e:TypeId}{te:TI}{τ:Ty}{fs:List (Nat×TypeId)}{b n d:Nat}{parts:Array (Nat×Operand)}{ps:List (Nat×List X00)}{cs:List X00}{l:List (El τ)}(ho:o.op=.buildSlice t n parts)(hd:o.dst=some d)(hdn:d<st.nt)(h:look t tab=some ⟨.list τ,false,fs,e,b⟩)(he:look e tab=some te)(hte:te.ty=τ)(hpos:0<size τ)(hlim:n*size τ≤16777216)(hp:X0y (fun(p:Nat×Value) (q:Nat×List X00)=>p.1=q.1∧X0y (RdT σ st.rows M) p.2.cells.toList q.2) (parts.toList.map fun p=>(p.1,a.eval p.2)) ps)(hf:Xa4 (fun i=>some (i*size τ,size τ)) (XaM τ n) ps=some cs)(hu:X52 τ n cs=some (l,[]))(hfr:noTag (X0e d 0) st=true)(hn:X2Y P base M0 ios a o st {sv:=.val false [.lst τ l (some (X0e d 0))],nrow:=[(X0e d 0,.cold e)]} next):o.wp P a w next Q:=by
 obtain⟨i,z,hi,hs,_,hz,hzc⟩:=(hT e te he).info
 rw[hte]at hs hzc
 have hzl:z.cells.size=size τ:=by rw[←Array.length_toList,hzc,X0l]
 let arr0:Array Value:=(Array.range (n*size τ)).map (fun j=>z.cells[j % z.cells.size]!)
 have harr0:arr0.toList=(List.replicate n (zeros τ)).flatten:=by
  have h1:=X4W (zeros τ) (by rw[X0l];exact hpos) n
  rw[X0l]at h1
  rw[←h1]
  show((Array.range (n*size τ)).map (fun j=>z.cells[j % z.cells.size]!)).toList=_
  rw[Array.toList_map,Array.toList_range]
  apply List.map_congr_left
  intro j _
  rw[hzl,←hzc]
  simp only[getElem!_def,Array.getElem?_toList]
 obtain⟨arr',ha,hr⟩:=X8X (σ:=σ) (M:=M) (rows:=st.rows) (place':=fun i=>some (i*size τ,size τ)) hp (arr:=arr0) (by rw[harr0];exact X7T τ n) (fun _ _ _ h=>h) hf
 obtain⟨css,vr,hv,hl,hvr,hln⟩:=X92 hr hu
 have hvr0:vr=[]:=by cases hvr;rfl
 subst hvr0
 simp only[List.append_nil]at hv
 have hsz:arr'.size=n*size τ:=by rw[←Array.length_toList,hv,X0y.flatLen hl,hln]
 have hrun:(execOp a.eval o).run P w=.ok (.value (.slice (some ⟨w.heap.size,0,none⟩) n n)) (w.alloc (.cells arr' e)):=by
  have hue:=X23 hT h
  have hzv:(zeroValue e).run P w=.ok z w:=by simp[zeroValue,typeInfo,hi,hz]
  have hso:(sizeOf e).run P w=.ok (size τ) w:=by simp[sizeOf,typeInfo,hi,hs]
  by_cases hn0:n=0
  · subst hn0
    have he0:arr0=#[]:=by apply Array.ext';simp[harr0]
    rw[he0]at ha
    simp only[execOp,ho,Instr.buildSlice]
    simp[run_underlying hue,hso,newRow,newObj,Sem.run]
    rw[show(Array.map (fun x=>(default:Value)) (Array.range 0))=#[] by apply Array.ext';simp,ha]
    simp[Sem.run]
  · have hne:¬n*size τ=0:=by
     rw[Nat.mul_eq_zero];omega
    have hne':¬(n=0∨size τ=0):=by omega
    simp only[execOp,ho,Instr.buildSlice]
    simp[run_underlying hue,hso,newRow,newObj,Sem.run,show ¬16777216<n*size τ by omega,hne',hzv,show(Array.map (fun x=>z.cells[x % z.cells.size]!) (Array.range (n*size τ)))=arr0 from rfl,ha]
    intro h0
    exact absurd h0 hne
 refine X0i hrun ?_
 have hg:w.grownBy (w.alloc (.cells arr' e)) none:=World.grownBy_alloc w _ none
 have hS1:=hS.grown hg (fun ad v hv=>by rw[X67 (hS.mem_lt hv)];exact hS.mem ad v hv) (fun k _ e=>by cases e) (fun r _=>by cases (σ.row r).ownBlock<;>simp) (fun k e=>by cases e) (fun r hr g e=>by cases e)
 have hnl:n≤maxLen:=by
  have h1:n≤n*size τ:=Nat.le_mul_of_pos_right n hpos
  simp only[maxLen];omega
 have hown:X2J (w.alloc (.cells arr' e)) (XeA base ios) i.size (.slice (some ⟨w.heap.size,0,none⟩) n n) n css.flatten:=
  ⟨by rw[X0y.flatLen hl,hln,hs],.inr ⟨w.heap.size,0,n,arr',e,rfl,.inl hS.fr.size,heap_alloc_new w _,Nat.le_refl _,hnl,by rw[hsz,hs];omega,by rw[List.drop_zero,hs,←hsz,←hv,←Array.length_toList,List.take_length]⟩⟩
 obtain⟨M',hle,hS2,hrep⟩:=hS1.ownRow (r:=X0e d 0) (τ:=τ) (css:=css) (l:=l) (XbL d 0) hpos hfr (X5V d 0) (fun r' hr' g hg hgf=>by rw[X0U]at hg;have h2:=Option.some.inj hg;have:=hS.hot.lt r' hr' g hgf;omega) hi hs hown rfl hl
  (fun g hg ad had hoff=>by
    rw[X0U]at hg;have h2:=Option.some.inj hg
    cases hM:M ad with
    | none=>rfl
    | some v=>have:=hS.mem_lt hM;omega)
  (fun k hk e=>by rw[X0U]at e;have h2:=Option.some.inj e;have:=hS.box_lt hk;omega)
  (fun r' hr'=>by
    rw[X0U]
    cases hb:(σ.row r').ownBlock with
    | none=>exact .inl rfl
    | some g=>right;intro e;have h2:=Option.some.inj e;have:=(hS.row_lt hr' hb).2;omega)
 have hfin:=hS2.put (d:=d) hdn hrep
 unfold X2Y at hn
 rw[hd]at hn ⊢
 refine hn _ {σ with row:=fun k=>if k=X0e d 0 then .slice (some ⟨w.heap.size,0,none⟩) n n else σ.row k} M' _ ?_
 rw[X4U]
 simp only[X3p]
 exact hfin
theorem XdW{r r':Nat}(h:(({st with rows:=X07 [] [r] st.rows}:St).row r').isSome=true):r'≠r∧(st.row r').isSome=true:=by
 simp only[St.row,X3o,X51]at h
 by_cases e:r'=r
 · subst e;simp[X1C]at h
 · have:X1C r' [r]=true:=by simp[X1C];exact fun e2=>e e2.symm
   rw[if_pos this]at h
   exact⟨e,h⟩
theorem Xb2{r r':Nat}(h:X0t r' (X07 [] [r] st.rows)):r'≠r∧X0t r' st.rows:=by
 obtain⟨e,t,l,ver,hole,z,hl⟩:=h
 rw[X51]at hl
 by_cases e2:r'=r
 · subst e2;simp[X1C]at hl
 · have:X1C r' [r]=true:=by simp[X1C];exact fun e3=>e2 e3.symm
   rw[if_pos this]at hl
   exact⟨e2,e,t,l,ver,hole,z,hl⟩
structure Xi9 (base:World) (ios:Ios) (σ:Sg) (M:Mem) (w:World) (st:St) (r s:Nat) {τ:Ty} (v:Value) (l:List (El τ)) (css:List (List Value)):Prop where
 sl:∃ad cap,v=.slice ad l.length cap∧l.length≤cap
 cs:X0y (RdC M τ) css l
 own:X2J w (XeA base ios) s v l.length css.flatten
 free:∀g,v.ownBlock=some g→∀ad,ad.block=g→Xcq v+l.length*s≤ad.off→M ad=none
 bx:∀k,(st.box k).isSome=true→v.ownBlock≠some (σ.box k)
 rx:∀r',(st.row r').isSome=true→r'≠r→(σ.row r').ownBlock=none∨(σ.row r').ownBlock≠v.ownBlock
 hx:∀r',X0t r' st.rows→∀g,v.ownBlock=some g→g∉σ.foot r'
theorem X7R(hT:X0q P tab)(hS:Sim P base M0 ios σ M w a st){t e:TypeId}{te:TI}{τ:Ty}{fs:List (Nat×TypeId)}{b d r:Nat}{x y:Operand}{l l':List (El τ)}{tag:Option Nat}{i:TypeInfo}{z:Value}{cssx:List (List Value)}(ho:o.op=.call {callee:=.builtin .append,args:=#[x,y],argTypes:=#[t,t]})(hd:o.dst=some d)(hdn:d<st.nt)(h:look t tab=some ⟨.list τ,false,fs,e,b⟩)(hpos:0<size τ)(hi:P.info? e=some i)(hs:i.size=size τ)(hib:i.bytes=te.bytes)(hz:i.zero=some z)(hzl:z.cells.size=i.size)(hx:Xi9 base ios σ M w st r i.size (a.eval x) l cssx)(hy:X17 σ st.rows st.boxes M (a.eval y) (.val false [.lst τ l' tag]))(hlen:l.length+l'.length≤9223372036854775807)(hby:(l.length+l'.length)*te.bytes≤140737488355328)(hfr:noTag (X0e d 0) st=true)(hn:X2Y P base M0 ios a o st {sv:=.val false [.lst τ (l++l') (some (X0e d 0))],nrow:=[(X0e d 0,.cold e)],krow:=[r]} next):o.wp P a w next Q:=by
 have hue:=X23 hT h
 have hyr:=(X0h.one hy)
 obtain⟨ady,capy,cssy,ey,hly,hmy,hcy,hay⟩:=RdC.cells hyr.1
 obtain⟨⟨adx,capx,ex,hlx⟩,hcx,hown,hfree,hbx,hrx,hhx⟩:=hx
 have hrun:∃v' w',(Builtin.append_ #[t,t] o.type #[a.eval x,a.eval y]).run P w=.ok v' w'∧X2J w' (XeA base ios) i.size v' (l.length+l'.length) (cssx.flatten++cssy.flatten)∧w.grownBy w' (a.eval x).ownBlock∧
  (∀ad u,w.cell? ad=some u→((a.eval x).ownBlock=some ad.block→ad.off<Xcq (a.eval x)+l.length*i.size)→w'.cell? ad=some u)∧
  ((v'.ownBlock=(a.eval x).ownBlock∧Xcq v'=Xcq (a.eval x))∨∃g,v'.ownBlock=some g∧w.heap.size≤g):=by
  rcases hay with hl' | ⟨ad,had,hay⟩
  · subst hl'
    cases hcy
    refine⟨a.eval x,w,?_,by simpa using hown,⟨rfl,rfl,rfl,Nat.le_refl _,fun _ _ _=>rfl⟩,fun ad u hu _=>hu,.inl ⟨rfl,rfl⟩⟩
    rw[ex,ey]
    exact X4Z t o.type e i hue hi adx l.length capx capy hlx ady
  · rw[ey,had]
    exact X9P (XeA base ios) t o.type e i z hue hi hz hzl (by rw[hs];exact hpos) (a.eval x) l.length cssx.flatten hown ad l'.length capy cssy.flatten (by rw[X0y.flatLen hcy,hs])
     (fun j u hu=>hS.mem _ _ (hay j u hu)) (X0y.flatOne hcy) (by simp only[maxLen];omega) (by rw[hib];exact hby) (fun g hg=>.inl (Nat.le_trans hS.fr.size hg))
 obtain⟨v',w',hrun,hown',hgr,hkeep,hblk⟩:=hrun
 refine X0i (v:=v') (w':=w') ?_ ?_
 · simp only[execOp,ho,resolve]
   simp[invoke,builtin,hrun]
 have hMk:∀ad v,M ad=some v→w'.cell? ad=some v:=fun ad v hv=>hkeep ad v (hS.mem ad v hv) (fun hb=>by
  apply Nat.lt_of_not_le
  intro hle
  have:=hfree _ hb ad rfl hle
  rw[this]at hv;cases hv)
 have hbase:∀k,(a.eval x).ownBlock=some k→XeA base ios k:=fun k hk=>(hown.lt k hk).1
 have hS0:=hS.kill [r]
 have hS1:=hS0.grown hgr hMk (fun k hk=>hbx k hk) (fun r' hr'=>by
  have hr2:r'≠r∧(st.row r').isSome=true:=XdW hr'
  exact hrx r' hr2.2 hr2.1) hbase (fun r' hr' g hg=>hhx r' (Xb2 hr').2 g hg)
 have hfr':noTag (X0e d 0) {st with rows:=X07 [] [r] st.rows}=true:=by
  unfold noTag at hfr ⊢
  rw[Bool.and_eq_true,Bool.and_eq_true]at hfr ⊢
  refine⟨hfr.1,?_⟩
  have:=hfr.2
  simp only[X51]
  split
  · exact this
  · rfl
 have hcat:X0y (RdC M τ) (cssx++cssy) (l++l'):=hcx.append hcy
 obtain⟨M',hle,hS2,hrep⟩:=hS1.ownRow (r:=X0e d 0) (τ:=τ) (css:=cssx++cssy) (l:=l++l') (XbL d 0) hpos hfr' (X5V d 0) (fun r' hr' g hg=>by
  rcases hblk with⟨hb,ho⟩ | ⟨g',hg',hge⟩
  · rw[hb]at hg;exact hhx r' (Xb2 hr').2 g hg
  · rw[hg']at hg;have h2:=Option.some.inj hg;intro hgf;have:=hS.hot.lt r' (Xb2 hr').2 g hgf;omega) hi hs hown' (by rw[List.flatten_append]) hcat
  (fun g hg ad had hoff=>by
    rcases hblk with⟨hb,ho⟩ | ⟨g',hg',hge⟩
    · rw[hb]at hg
      rw[ho]at hoff
      have hmm:l.length*i.size≤(l.length+l'.length)*i.size:=Nat.mul_le_mul_right _ (by omega)
      exact hfree g hg ad had (by omega)
    · rw[hg']at hg;have h2:=Option.some.inj hg
      cases hM:M ad with
      | none=>rfl
      | some v=>have:=hS.mem_lt hM;omega)
  (fun k hk e=>by
    rcases hblk with⟨hb,ho⟩ | ⟨g',hg',hge⟩
    · rw[hb]at e;exact hbx k hk e
    · rw[hg']at e;have h2:=Option.some.inj e;have:=hS.box_lt hk;omega)
  (fun r' hr'=>by
    have hr2:r'≠r∧(st.row r').isSome=true:=XdW hr'
    rcases hblk with⟨hb,ho⟩ | ⟨g',hg',hge⟩
    · rw[hb];exact hrx r' hr2.2 hr2.1
    · rw[hg']
      cases hb:(σ.row r').ownBlock with
      | none=>exact .inl rfl
      | some g=>right;intro e;have h2:=Option.some.inj e;have:=(hS.row_lt hr2.2 hb).2;omega)
 have hfin:=hS2.put (d:=d) hdn hrep
 unfold X2Y at hn
 rw[hd]at hn ⊢
 refine hn _ {σ with row:=fun k=>if k=X0e d 0 then v' else σ.row k} M' _ ?_
 rw[X4U]
 exact hfin
theorem Xf3(hT:X0q P tab)(hS:Sim P base M0 ios σ M w a st){t u e ty:TypeId}{te:TI}{τ:Ty}{fs fs2:List (Nat×TypeId)}{b b2 d r:Nat}{x y:Operand}{l l':List (El τ)}{tag:Option Nat}(ho:o.op=.call {callee:=.builtin .append,args:=#[x,y],argTypes:=#[t,t]})(hd:o.dst=some d)(hdn:d<st.nt)(h:look t tab=some ⟨.list τ,false,fs,e,b⟩)(he:look e tab=some te)(hte:te.ty=τ)(hpos:0<size τ)(hx:X17 σ st.rows st.boxes M (a.eval x) (.val false [.lst τ l (some r)]))(hr:r=0∨st.row r=some e)(hy:X17 σ st.rows st.boxes M (a.eval y) (.val false [.lst τ l' tag]))(hlen:l.length+l'.length≤9223372036854775807)(hby:(l.length+l'.length)*te.bytes≤140737488355328)(hfr:noTag (X0e d 0) st=true)(hn:X2Y P base M0 ios a o st {sv:=.val false [.lst τ (l++l') (some (X0e d 0))],nrow:=[(X0e d 0,.cold e)],krow:=[r]} next):o.wp P a w next Q:=by
 obtain⟨i,z,hi,hs,hib,hz,hzc⟩:=(hT e te he).info
 rw[hte]at hs hzc
 have hzl:z.cells.size=i.size:=by rw[←Array.length_toList,hzc,X0l,hs]
 have hue:=X23 hT h
 have hxr:=(X0h.one hx)
 have hyr:=(X0h.one hy)
 obtain⟨adx,capx,cssx,ex,hlx,hmx,hcx,hax⟩:=RdC.cells hxr.1
 obtain⟨ady,capy,cssy,ey,hly,hmy,hcy,hay⟩:=RdC.cells hyr.1
 refine X7R (te:=te) (i:=i) (z:=z) (cssx:=cssx) hT hS ho hd hdn h hpos hi hs hib hz hzl ?_ hy hlen hby hfr hn
 have hown:∃xs,X2J w (XeA base ios) i.size (a.eval x) l.length xs∧cssx.flatten=xs∧(∀g,(a.eval x).ownBlock=some g→∀ad,ad.block=g→Xcq (a.eval x)+l.length*i.size≤ad.off→M ad=none)∧
  (∀k,(st.box k).isSome=true→(a.eval x).ownBlock≠some (σ.box k))∧(∀r',(st.row r').isSome=true→r'≠r→(σ.row r').ownBlock=none∨(σ.row r').ownBlock≠(a.eval x).ownBlock)∧(∀r',X0t r' st.rows→∀g,(a.eval x).ownBlock=some g→g∉σ.foot r'):=by
  rcases Nat.eq_zero_or_pos r with h0 | h0
  · have hv:a.eval x=.slice none 0 0:=by have:=hxr.2;simp only[X59,if_pos h0]at this;exact this
    have hl0:l.length=0:=by rw[hv]at ex;injection ex with _ e2 _;exact e2.symm
    have hl:l=[]:=List.eq_nil_of_length_eq_zero hl0
    subst hl
    cases hcx
    rw[hv]
    exact⟨[],X2J.nil _ _ _,rfl,fun g hg=>by simp[Value.ownBlock]at hg,fun k _=>by simp[Value.ownBlock],fun r' _ _=>(by show _∨_≠none;cases (σ.row r').ownBlock<;>simp),fun r' _ g hg=>by simp[Value.ownBlock]at hg⟩
  · have hre:st.row r=some e:=by rcases hr with hr | hr;· omega
                                 · exact hr
    have hv:a.eval x=σ.row r:=by
     have:=hxr.2;simp only[X59,if_neg (by omega:¬r=0)]at this
     exact this (Xg1 (by rw[hre];rfl))
    obtain⟨n,xs,i',hi',ho',hm'⟩:=(hS.rows r e hre).own
    rw[hi]at hi';cases hi'
    rw[←hv]at ho' hm'
    have hn:n=l.length:=by
     rcases ho'.2 with⟨h1,h2⟩ | ⟨g,o',cap,cur,E,h1,_⟩
     · rw[h1]at ex;injection ex with _ e2 _;omega
     · rw[h1]at ex;injection ex with _ e2 _
    subst hn
    refine⟨xs,ho',?_,hm',fun k hk=>by rw[hv];exact hS.rowBox r k (by rw[hre];rfl) hk,fun r' hr' hne=>?_,fun r' hr' g hg=>by rw[hv]at hg;exact hS.hot.noRow r' hr' r (by rw[hre];rfl) g hg⟩
    ·
     rcases ho'.2 with⟨h1,h2⟩ | ⟨g,o',cap,cur,E,h1,_,hgg,_,_,_,htk⟩
     · have hl:l=[]:=List.eq_nil_of_length_eq_zero h2
       subst hl;cases hcx
       have:xs=[]:=List.eq_nil_of_length_eq_zero (by have:=ho'.1;simpa using this)
       simp[this]
     · have hfl:cssx.flatten.length=xs.length:=by rw[X0y.flatLen hcx,ho'.1,hs]
       apply List.ext_getElem?
       intro j
       by_cases hj:j<xs.length
       · have hu:cssx.flatten[j]?=some (cssx.flatten[j]'(by omega)):=List.getElem?_eq_getElem _
         rcases hax with hl | ⟨ad,had,hax⟩
         · subst hl;cases hcx;simp at hfl;omega
         · have h2:=hS.mem _ _ (hax j _ hu)
           rw[h1]at ex
           injection ex with e1 _ _
           rw[had]at e1
           cases e1
           have h3:=ho'.cells (g:=g) (by rw[h1];rfl) j (xs[j]) (List.getElem?_eq_getElem hj)
           rw[show Xcq (a.eval x)=o' by rw[h1];rfl]at h3
           rw[h2]at h3
           rw[hu,h3,List.getElem?_eq_getElem hj]
       · rw[List.getElem?_eq_none (by omega),List.getElem?_eq_none (by omega)]
    · rw[hv];exact hS.rowInj r' r hr' (by rw[hre];rfl) hne
 obtain⟨xs,hown,rfl,hfree,hbx,hrx,hhx⟩:=hown
 exact⟨⟨adx,capx,ex,hlx⟩,hcx,hown,hfree,hbx,hrx,hhx⟩
theorem X2J.ofCells{w:World}{B:Nat→Prop}{s g o n cap:Nat}{cur:Array Value}{E:TypeId}{xs:List Value}(hB:B g)(hg:w.heap[g]?=some (.cells cur E (0,0)))(h1:n≤cap)(h2:cap≤maxLen)(h3:o+cap*s≤cur.size)(hl:xs.length=n*s)(hc:∀j u,xs[j]?=some u→w.cell? ⟨g,o+j,none⟩=some u):X2J w B s (.slice (some ⟨g,o,none⟩) n cap) n xs:=by
 refine⟨hl,.inr ⟨g,o,cap,cur,E,rfl,hB,hg,h1,h2,h3,?_⟩⟩
 have hn:n*s≤cap*s:=Nat.mul_le_mul_right _ h1
 have ha:cur.toList.length=cur.size:=Array.length_toList
 apply List.ext_getElem?
 intro j
 by_cases hj:j<xs.length
 · have h4:=hc j (xs[j]) (List.getElem?_eq_getElem hj)
   rw[cell_of_row w g (o+j) cur E (0,0) hg]at h4
   rw[List.getElem?_take,if_pos (by omega),List.getElem?_drop,List.getElem?_eq_getElem hj,←h4]
   simp
 · have e2:xs[j]?=none:=List.getElem?_eq_none (by omega)
   rw[e2]
   exact List.getElem?_eq_none (by rw[List.length_take,List.length_drop];omega)
theorem Xae(hT:X0q P tab)(hS:Sim P base M0 ios σ M w a st){t e:TypeId}{te:TI}{τ:Ty}{fs:List (Nat×TypeId)}{b d r lo hi ver:Nat}{x y:Operand}{L l':List (El τ)}{tag:Option Nat}(ho:o.op=.call {callee:=.builtin .append,args:=#[x,y],argTypes:=#[t,t]})(hd:o.dst=some d)(hdn:d<st.nt)(h:look t tab=some ⟨.list τ,false,fs,e,b⟩)(he:look e tab=some te)(hte:te.ty=τ)(hpos:0<size τ)(hr:look r st.rows=some (.frz e τ L ver true))(hx:Xa7 τ (σ.row r) lo hi (a.eval x))(hlo:lo<L.length)(hhi:hi=L.length)(hy:X17 σ st.rows st.boxes M (a.eval y) (.val false [.lst τ l' tag]))(hlen:(L.drop lo).length+l'.length≤9223372036854775807)(hby:((L.drop lo).length+l'.length)*te.bytes≤140737488355328)(hfr:noTag (X0e d 0) st=true)(hn:X2Y P base M0 ios a o st {sv:=.val false [.lst τ (L.drop lo++l') (some (X0e d 0))],nrow:=[(X0e d 0,.cold e)],krow:=[r]} next):o.wp P a w next Q:=by
 obtain⟨i,z,hi',hs,hib,hz,hzc⟩:=(hT e te he).info
 rw[hte]at hs hzc
 have hzl:z.cells.size=i.size:=by rw[←Array.length_toList,hzc,X0l,hs]
 have hre:st.row r=some e:=X3T hr rfl
 obtain⟨hrd,_⟩:=hS.hot.frz r e τ L ver true hr
 have hrx:=hx.rd hrd
 subst hhi
 rw[List.take_length]at hrx
 obtain⟨n,xs,i2,hi2,hown,hfree⟩:=(hS.rows r e hre).own
 rw[hi']at hi2;cases hi2
 obtain⟨ad,cap,ev,hlc,hmc,_⟩:=hrd
 have hv:σ.row r=.slice ad L.length cap:=List.head_eq_of_cons_eq ev
 obtain⟨ad2,n2,cap2,ad',hv2,k1,k2,k3,k4⟩:=hx
 rw[hv]at hv2
 injection hv2 with v1 v2 v3
 subst v1 v2 v3
 rcases hown.2 with⟨e1,_⟩ | ⟨g,o',cap',cur,E,e1,hB,hg,h1,h2,h3,h4⟩
 · rw[hv]at e1;injection e1 with _ e2 _;omega
 rw[hv]at e1
 injection e1 with e2 e3 e4
 subst e2 e3 e4
 have ha':ad'=some ⟨g,o'+lo*size τ,none⟩:=by rw[k4 (by omega)];simp[Addr.add_lit]
 rw[ha']at k3
 obtain⟨adx,capx,cssx,ex,hlx,hmx,hcx,hax⟩:=RdC.cells hrx
 have hdl:(L.drop lo).length=L.length - lo:=List.length_drop
 have hmul:o'+lo*i.size+(L.length - lo)*i.size=o'+L.length*i.size:=by
  rw[Nat.add_assoc,←Nat.add_mul];congr 2;omega
 have hmul2:o'+lo*i.size+(cap - lo)*i.size=o'+cap*i.size:=by
  rw[Nat.add_assoc,←Nat.add_mul];congr 2;omega
 have hob:(a.eval x).ownBlock=(σ.row r).ownBlock:=by rw[k3,hv];rfl
 refine X7R (te:=te) (i:=i) (z:=z) (cssx:=cssx) (r:=r) hT hS ho hd hdn h hpos hi' hs hib hz hzl ⟨⟨_,cap - lo,by rw[k3,hdl],by rw[hdl];omega⟩,hcx,?_,?_,?_,?_,?_⟩ hy hlen hby hfr hn
 · rw[k3,hdl,←hs]
   refine X2J.ofCells hB hg (by omega) (by omega) (by rw[hmul2];exact h3) (by rw[X0y.flatLen hcx,hdl,hs]) fun j u hu=>?_
   rcases hax with hl0 | ⟨ad3,had,hax⟩
   · rw[hl0]at hdl;simp at hdl;omega
   · rw[k3]at ex
     injection ex with e5 _ _
     rw[had]at e5
     have e6:=Option.some.inj e5
     have:=hS.mem _ _ (hax j u hu)
     rw[←e6,add_lit,←hs]at this
     exact this
 · intro g' hg' ad had hoff
   rw[hob]at hg'
   refine hfree g' hg' ad had ?_
   rw[k3,hdl]at hoff
   rw[hv]
   simp only[Xcq]at hoff ⊢
   rw[←hs,hmul]at hoff
   exact hoff
 · intro k hk;rw[hob];exact hS.rowBox r k (by rw[hre];rfl) hk
 · intro r' hr' hne;rw[hob];exact hS.rowInj r' r hr' (by rw[hre];rfl) hne
 · intro r' hr' g' hg';rw[hob]at hg';exact hS.hot.noRow r' hr' r (by rw[hre];rfl) g' hg'
end Go.Proofs.Ytakllifahpfmpaa.Bv
namespace Go.Proofs.Ytakllifahpfmpaa.Bv
variable {P:Program} {base:World} {M0:Mem} {ios:Ios} {σ:Sg} {M:Mem} {w:World} {a:Act} {st:St} {tab:Tab} {o:Oper} {next:Act→World→Prop} {Q:Exit→Act→World→Prop}
def X8F(w:World):Mem:=fun ad=>w.cell? ad
theorem Sim.leAll(hS:Sim P base M0 ios σ M w a st):M.le (X8F w):=fun ad v h=>hS.mem ad v h
theorem Sim.hotAt(hS:Sim P base M0 ios σ M w a st){r:Nat}{e:TypeId}{t:Ty}{l:List (El t)}{ver:Nat}{hole:Option (Nat×Nat)}{z:Bool}(h:look r st.rows=some (.hot e t l ver hole z)):X5C P base σ w r e t l hole z:=hS.hot.ok r e t l ver hole z h
theorem X5C.rd{r:Nat}{e:TypeId}{t:Ty}{l:List (El t)}{z:Bool}(h:X5C P base σ w r e t l none z):RdC (σ.mem r) (.list t) [σ.row r] l:=X21.rdTop h.own h.nodup fun ad u hb ht hu=>h.full rfl ad u hb ht hu
theorem X5C.leAll{r:Nat}{e:TypeId}{t:Ty}{l:List (El t)}{hole:Option (Nat×Nat)}{z:Bool}(h:X5C P base σ w r e t l hole z):(σ.mem r).le (X8F w):=fun ad v hv=>(h.mem ad v hv).1
theorem X5C.len{r:Nat}{e:TypeId}{t:Ty}{l:List (El t)}{hole:Option (Nat×Nat)}{z:Bool}(h:X5C P base σ w r e t l hole z):∃ad cap,σ.row r=.slice ad (List.length l) cap:=by
 have:=h.own
 cases hole with
 | none=>obtain⟨ad,cap,h1,_⟩:=X21.slice this;exact⟨ad,cap,h1⟩
 | some p=>obtain⟨i,off⟩:=p;obtain⟨g,o,cap,arr,e,h1,_⟩:=this;exact⟨_,cap,h1⟩
theorem XdS(hS:Sim P base M0 ios σ M w a st){rows:List (Nat×X0f)}(hr:∀r rv,look r rows=some rv→look r st.rows=some rv){v:Value}{c c':X00}(h:RdT σ st.rows M v c)(hv:Xam rows c=some c'):RdV (X8F w) v c':=by
 cases c with
 | int k n=>cases hv;exact h.1
 | bool b=>cases hv;exact h.1
 | str s=>cases hv;exact h.1
 | lst t l tag=>cases hv;exact RdC.mono hS.leAll (.list t) _ _ h.1
 | und=>cases hv
 | emp t=>
   cases hv
   obtain⟨ad,rfl⟩:=h.2
   exact⟨ad,0,rfl,by simp,by simp,fun i hi=>by simp at hi⟩
 | own t r=>
   simp only[Xam]at hv
   split at hv
   · rename_i e t' l ver z hl
     split at hv
     · rename_i ht
       subst ht
       cases hv
       have hl':=hr r _ hl
       have hok:=hS.hotAt hl'
       have:v=σ.row r:=h.2 (by rw[hl'];rfl)
       rw[this]
       exact RdC.mono hok.leAll (.list _) _ _ hok.rd
     · cases hv
   · cases hv
 | sub t r lo hi=>
   simp only[Xam]at hv
   split at hv
   · rename_i e t' l ver z hl
     split at hv
     · rename_i ht
       subst ht
       cases hv
       have hl':=hr r _ hl
       have hok:=hS.hotAt hl'
       exact RdC.mono hok.leAll (.list _) _ _ ((show Xa7 _ (σ.row r) lo hi v from h.2 (by rw[hl'];rfl)).rd hok.rd)
     · cases hv
   · cases hv
 | bor t l r ver p=>
   simp only[Xam]at hv
   split at hv
   · rename_i e t' l' ver' z hl
     rw[Bool.cond_eq_ite]at hv
     split at hv
     · rename_i he
       cases hv
       have:ver'=ver:=by simpa using he
       subst this
       have hl':=hr r _ hl
       have hok:=hS.hotAt hl'
       exact RdC.mono hok.leAll (.list _) _ _ (h.2 _ hl' rfl).1
     · cases hv
   · cases hv
theorem X5P(hS:Sim P base M0 ios σ M w a st){v:Value}{x:In}(hx:X7g σ st M v x){τ:Ty}{l:List (El τ)}(h:listOf? x=some ⟨τ,l⟩):RdC (X8F w) (.list τ) [v] l∧X4l v=false:=by
 unfold listOf? at h
 split at h
 · rename_i c hc
   split at h
   · rename_i t l' tag hv
     cases h
     have hr:=hx.rep
     rw[hc]at hr
     exact⟨XdS hS hx.rows (X0h.one hr) hv,hr.2⟩
   · cases h
 · cases h
open Classical in
noncomputable def X6p(w:World)(t:Ty)(v:Value)(bs:List Nat):Mem:=fun ad=>if ad.block∈bs∧Xeq t v ad then w.cell? ad else none
theorem X66{t:Ty}{v:Value}{bs:List Nat}{ad:Addr}{u:Value}(h:X6p w t v bs ad=some u):w.cell? ad=some u∧ad.block∈bs∧Xeq t v ad:=by
 unfold X6p at h;split at h
 · rename_i hc;exact⟨h,hc⟩
 · cases h
theorem X7H{t:Ty}{v:Value}{bs:List Nat}{ad:Addr}(h1:ad.block∈bs)(h2:Xeq t v ad):X6p w t v bs ad=w.cell? ad:=if_pos ⟨h1,h2⟩
noncomputable def Sg.hot(σ:Sg)(w:World)(r:Nat)(t:Ty)(v:Value)(fo:List Nat):Sg:=
 {σ with row:=fun k=>if k=r then v else σ.row k,foot:=fun k=>if k=r then fo else σ.foot k,mem:=fun k=>if k=r then X6p w t v fo else σ.mem k}
theorem X9E{r:Nat}{e:TypeId}{t:Ty}{l:List (El t)}{v:Value}{fo:List Nat}{z:Bool}(hi:∃i,P.info? e=some i∧i.size=size t)(hp:0<size t)(ho:X21 w t v l fo)(hn:fo.Nodup)(hz:z=true→(∃n xs,w.ownsRow base.heap.size e (size t) v n xs)∧∀g,v.ownBlock=some g→g∈fo):X5C P base (σ.hot w r t v fo) w r e t l none z where
 info:=hi
 pos:=hp
 own:=by simp only[Sg.hot,if_pos];exact ho
 nodup:=by simp only[Sg.hot,if_pos];exact hn
 mem:=fun ad u hu=>by simp only[Sg.hot,if_pos]at hu ⊢;exact X66 hu
 full:=fun _ ad u hb ht hu=>by simp only[Sg.hot,if_pos]at hb ht ⊢;rw[X7H hb ht];exact hu
 z:=fun h=>by simp only[Sg.hot,if_pos];exact hz h
theorem Xbx.fresh(h:Sim P base M0 ios σ M w a st){w':World}{g:Nat}(h1:w.heap.size≤g)(h2:g<w'.heap.size):Xbx base ios σ M w' st g where
 base:=.inl (Nat.le_trans h.fr.size h1)
 noM:=fun ad had=>by
  cases hm:M ad with
  | none=>rfl
  | some v=>have:=h.mem_lt hm;omega
 noBox:=fun k hk e=>by have:=h.box_lt hk;omega
 noRow:=fun r hr e=>by have:=(h.row_lt hr e).2;omega
 noHot:=fun r hr hg=>by have:=h.hot.lt r hr g hg;omega
 lt:=h2
theorem X1y{upd:List (Nat×X0f)}{ks:List Nat}{rows:List (Nat×X0f)}{r:Nat}{rv:X0f}(h:look r (X07 upd ks rows)=some rv):r∉ks∧(look r upd=some rv∨(look r upd=none∧look r rows=some rv)):=by
 rw[X51]at h
 split at h
 · rename_i hk
   refine⟨X1z.1 hk,?_⟩
   cases hu:look r upd with
   | none=>rw[hu]at h;exact .inr ⟨rfl,h⟩
   | some x=>rw[hu]at h;exact .inl h
 · cases h
theorem Xbx.ofKill(h:Sim P base M0 ios σ M w a st){w':World}(hsz:w.heap.size≤w'.heap.size){ks:List Nat}{r:Nat}{g:Nat}(hr:X0t r st.rows)(hk:r∈ks)(hg:g∈σ.foot r):Xbx base ios σ M w' {st with rows:=X07 [] ks st.rows} g where
 base:=h.hot.base r hr g hg
 noM:=h.hot.noM r hr g hg
 noBox:=fun k hk' e=>h.hot.noBox r hr k hk' (by rw[e];exact hg)
 noRow:=fun r' hr' e=>by
  obtain⟨e',he'⟩:=Option.isSome_iff_exists.1 hr'
  obtain⟨rv,h1,h2⟩:=X2B he'
  obtain⟨_,h3⟩:=X1y h1
  rcases h3 with h3 | ⟨_,h3⟩
  · cases h3
  · exact h.hot.noRow r hr r' (by rw[show st.row r'=some e' from X3T h3 h2];rfl) g e hg
 noHot:=fun r' ⟨e,t,l,ver,hole,z,hl⟩ hg'=>by
  obtain⟨h0,h1⟩:=X1y hl
  rcases h1 with h1 | ⟨_,h1⟩
  · cases h1
  · exact h.hot.apart r r' hr ⟨e,t,l,ver,hole,z,h1⟩ (fun e2=>h0 (by rw[←e2];exact hk)) g hg hg'
 lt:=Nat.lt_of_lt_of_le (h.hot.lt r hr g hg) hsz
theorem Xbx.ofKillFresh(h:Sim P base M0 ios σ M w a st){w':World}{ks:List Nat}{g:Nat}(h1:w.heap.size≤g)(h2:g<w'.heap.size):Xbx base ios σ M w' {st with rows:=X07 [] ks st.rows} g:=Xbx.fresh (h.kill ks) h1 h2
theorem Xec{r:Nat}{ks:List Nat}(h:noTag r st=true):noTag r {st with rows:=X07 [] ks st.rows}=true:=by
 have h0:=X5X h
 unfold noTag at h ⊢
 rw[Bool.and_eq_true,Bool.and_eq_true]at h ⊢
 refine⟨h.1,?_⟩
 simp only[X51]
 split<;>simp[h0,look]
theorem X7P(hS:Sim P base M0 ios σ M w a st){w':World}{d:Nat}{ks:List Nat}{S:List Nat}{e:TypeId}{t:Ty}{l:List (El t)}{v:Value}{fo:List Nat}{z:Bool}(hd:o.dst=some d)(hdn:d<st.nt)(hsz:w.heap.size≤w'.heap.size)(hos:w'.os=w.os)(htp:w'.tape=w.tape)(hou:w'.output=w.output)(hkeep:∀k,k<w.heap.size→k∉S→w'.heap[k]?=w.heap[k]?)(hS':∀g∈S,∃r∈ks,X0t r st.rows∧g∈σ.foot r)(hfo:∀g∈fo,g<w'.heap.size∧(w.heap.size≤g∨∃r∈ks,X0t r st.rows∧g∈σ.foot r))(hi:∃i,P.info? e=some i∧i.size=size t)(hp:0<size t)(ho:X21 w' t v l fo)(hn:fo.Nodup)(hz:z=true→(∃n xs,w'.ownsRow base.heap.size e (size t) v n xs)∧∀g,v.ownBlock=some g→g∈fo)(hfr:noTag (X0e d 0) st=true)(hgo:X2Y P base M0 ios a o st {sv:=.val false [.own t (X0e d 0)],nrow:=[(X0e d 0,.hot e t l 0 none z)],krow:=ks} next):next (a.put o.dst v) w':=by
 have h1:Sim P base M0 ios σ M w' a {st with rows:=X07 [] ks st.rows}:=hS.step (upd:=[]) (S:=S) {sbox:=rfl,srow:=rfl,sfoot:=fun _ _=>⟨rfl,rfl⟩,size:=hsz,os:=hos,tape:=htp,output:=hou,keep:=hkeep,touched:=fun g hg=>(by obtain⟨r,h1,h2,h3⟩:=hS' g hg;exact⟨r,h2,h3,.inl h1⟩),updOk:=fun r rv hr=>(by cases hr),foot:=fun r hr=>(by cases hr),apart:=fun r r' hr=>(by cases hr)} rfl
 have h2:=h1.newHot (r:=X0e d 0) (e:=e) (t:=t) (l:=l) (hole:=none) (z:=z) (v:=v) (fo:=fo) (m:=X6p w' t v fo) (Xec hfr) (X5V d 0) (fun g hg=>by
  obtain⟨k1,k2⟩:=hfo g hg
  rcases k2 with k2 | ⟨r,m1,m2,m3⟩
  · exact Xbx.ofKillFresh hS k2 k1
  · exact Xbx.ofKill hS hsz m2 m1 m3) (X9E (σ:=σ) hi hp ho hn hz)
 have h3:=h2.put (d:=d) (v:=v) (sv:=.val false [.own t (X0e d 0)]) hdn (X0h.mk1 ⟨by
  obtain⟨ad,cap,e1,_⟩:=ho.slice;rw[e1];rfl,by intro _;simp⟩ (by obtain⟨ad,cap,e1,_⟩:=ho.slice;rw[e1];rfl))
 unfold X2Y at hgo
 rw[hd]at hgo ⊢
 refine hgo v (σ.hot w' (X0e d 0) t v fo) M w' ?_
 rw[X4U]
 exact h3
theorem X8V:∀t:Ty,zeros t=X9a t
 | .int _=>rfl
 | .bool=>rfl
 | .str=>rfl
 | .list _=>rfl
 | .unit=>rfl
 | .pair a b=>by simp[zeros,X9a,X8V a,X8V b]
theorem X3X(zs:List Value):∀(n c:Nat),n≤c→((List.replicate c zs).flatten).take (n*zs.length)=(List.replicate n zs).flatten
 | 0,c,_=>by simp
 | n+1,0,h=>by omega
 | n+1,c+1,h=>by
   rw[List.replicate_succ,List.flatten_cons,List.replicate_succ,List.flatten_cons,Nat.add_mul,Nat.one_mul,Nat.add_comm (n*zs.length),List.take_length_add_append,X3X zs n c (by omega)]
theorem XbQ(hT:X0q P tab)(hS:Sim P base M0 ios σ M w a st){t e:TypeId}{te:TI}{τ:Ty}{fs:List (Nat×TypeId)}{b d:Nat}{x y:Operand}{n m:Int}{kn km:IntKind}(ho:o.op=.makeSlice t x y)(hd:o.dst=some d)(hdn:d<st.nt)(h:look t tab=some ⟨.list τ,false,fs,e,b⟩)(he:look e tab=some te)(hte:te.ty=τ)(hpos:0<size τ)(hx:a.eval x=.int kn n)(hy:a.eval y=.int km m)(h0:0≤n)(h1:n≤m)(h63:m≤9223372036854775807)(hb:(te.bytes:Int)*m≤140737488355328)(hfr:noTag (X0e d 0) st=true)(hn:X2Y P base M0 ios a o st {sv:=.val false [.own τ (X0e d 0)],nrow:=[(X0e d 0,.hot e τ (List.replicate n.toNat (dfl τ)) 0 none true)]} next):o.wp P a w next Q:=by
 obtain⟨i,z,hi,hs,hib,hz,hzc⟩:=(hT e te he).info
 rw[hte]at hs hzc
 have hzl:z.cells.size=size τ:=by rw[←Array.length_toList,hzc,X0l]
 have hrun:=run_make (P:=P) w t e i z (X23 hT h) hi hz kn km n m h0 h1 (by rw[hib];omega) h63
 rw[hs]at hrun
 refine X0i (v:=.slice (some ⟨w.heap.size,0,none⟩) n.toNat m.toNat) (w':=w.alloc (.cells (madeCells z.cells (m.toNat*size τ)) e)) (by simp[execOp,ho,hx,hy,hrun]) ?_
 have harr:(madeCells z.cells (m.toNat*size τ)).toList=(List.replicate m.toNat (zeros τ)).flatten:=by
  have h1:=X4W (zeros τ) (by rw[X0l];exact hpos) m.toNat
  rw[X0l]at h1
  rw[←h1]
  show((Array.range (m.toNat*size τ)).map (fun j=>z.cells[j % z.cells.size]!)).toList=_
  rw[Array.toList_map,Array.toList_range]
  apply List.map_congr_left
  intro j _
  rw[hzl,←hzc]
  simp only[getElem!_def,Array.getElem?_toList]
 have hl:List.length (List.replicate n.toNat (dfl τ))=n.toNat:=List.length_replicate
 have hmm:m.toNat≤maxLen:=by simp only[maxLen];omega
 have hsz:(madeCells z.cells (m.toNat*size τ)).size=m.toNat*size τ:=size_madeCells _ _
 refine X7P (S:=[]) (fo:=[w.heap.size]) (l:=List.replicate n.toNat (dfl τ)) (e:=e) (t:=τ) (z:=true) (ks:=[]) hS hd hdn (by simp) rfl rfl rfl (fun k hk _=>heap_alloc_old w _ hk) (fun g hg=>by cases hg) (fun g hg=>by
  rw[List.mem_singleton.1 hg];exact⟨by simp,.inl (Nat.le_refl _)⟩) ⟨i,hi,hs⟩ hpos ?_ (by simp) ?_ hfr hn
 · have hmk:=X21.mk (t:=τ) (o:=0) (cap:=m.toNat) (l:=List.replicate n.toNat (dfl τ)) (b1:=[]) (heap_alloc_new w (.cells (madeCells z.cells (m.toNat*size τ)) e)) (by rw[hl];omega) hmm (by rw[hsz];omega) (by
    rw[hl,List.drop_zero,harr,show n.toNat*size τ=n.toNat*(zeros τ).length by rw[X0l],X3X _ _ _ (by omega),X8V]
    exact X0u.zerosN τ n.toNat)
   rw[hl]at hmk
   exact hmk
 · intro _
   refine⟨⟨n.toNat,_,?_,.inr ⟨w.heap.size,m.toNat,_,rfl,hS.fr.size,heap_alloc_new w _,by omega,hmm,hsz,rfl⟩⟩,fun g hg=>by rw[X0U]at hg;cases hg;simp⟩
   rw[List.length_take,Array.length_toList,hsz,Nat.min_eq_left (Nat.mul_le_mul_right _ (by omega))]
end Go.Proofs.Ytakllifahpfmpaa.Bv
namespace Go.Proofs.Ytakllifahpfmpaa.Bv
variable {P:Program} {base:World} {M0:Mem} {ios:Ios} {σ:Sg} {M:Mem} {w:World} {a:Act} {st:St} {tab:Tab} {o:Oper} {next:Act→World→Prop} {Q:Exit→Act→World→Prop}
def unT:X00→X00
 | .lst t l _=>.lst t l none
 | c=>c
theorem X27:∀(t:Ty) (cs:List X00) (x:El t) (r:List X00),X0A t cs=some (x,r)→cs.map unT=flat t x++r.map unT
 | .unit,cs,x,r,e=>by simp only[X0A,Option.some.injEq,Prod.mk.injEq]at e;obtain⟨_,rfl⟩:=e;rfl
 | .pair a b,cs,x,r,e=>by
   simp only[X0A,Option.bind_eq_some_iff,Option.some.injEq,Prod.mk.injEq]at e
   obtain⟨⟨xa,ra⟩,ea,⟨xb,rb⟩,eb,ex,er⟩:=e
   simp only at er ex
   subst er;subst ex
   rw[X27 a _ _ _ ea]
   simp only at eb
   rw[X27 b _ _ _ eb]
   simp[flat]
 | .int k,cs,x,r,e=>by
   cases cs with
   | nil=>simp[X0A]at e
   | cons c cs=>cases c<;>simp[X0A]at e;obtain⟨rfl,rfl,rfl⟩:=e;rfl
 | .bool,cs,x,r,e=>by
   cases cs with
   | nil=>simp[X0A]at e
   | cons c cs=>cases c<;>simp[X0A]at e;obtain⟨rfl,rfl⟩:=e;rfl
 | .str,cs,x,r,e=>by
   cases cs with
   | nil=>simp[X0A]at e
   | cons c cs=>cases c<;>simp[X0A]at e;obtain⟨rfl,rfl⟩:=e;rfl
 | .list t,cs,x,r,e=>by
   cases cs with
   | nil=>simp[X0A]at e
   | cons c cs=>
     cases c<;>simp[X0A]at e
     rename_i t' l tag
     by_cases ht:t'=t
     · subst ht
       simp at e
       obtain⟨rfl,rfl⟩:=e
       rfl
     · exact absurd e.1.1 ht
theorem X90:∀(t:Ty) (x:El t),(flat t x).map unT=flat t x
 | .int _,_=>rfl
 | .bool,_=>rfl
 | .str,_=>rfl
 | .list _,_=>rfl
 | .unit,_=>rfl
 | .pair a b,x=>by simp[flat,X90 a,X90 b]
theorem X8C{t:Ty}:∀{n:Nat} {cs r:List X00} {l:List (El t)},X52 t n cs=some (l,r)→cs.map unT=X09 t l++r.map unT∧List.length l=n
 | 0,cs,r,l,h=>by
   simp only[X52,Option.some.injEq,Prod.mk.injEq]at h
   obtain⟨rfl,rfl⟩:=h
   exact⟨rfl,rfl⟩
 | n+1,cs,r,l,h=>by
   simp only[X52,Option.bind_eq_some_iff,Option.some.injEq,Prod.mk.injEq]at h
   obtain⟨⟨x,r1⟩,e1,⟨xs,r2⟩,e2,e3,e4⟩:=h
   simp only at e2 e3 e4
   subst e3;subst e4
   obtain⟨h1,h2⟩:=X8C e2
   rw[X27 t _ _ _ e1,h1,X0Y,List.append_assoc]
   exact⟨rfl,by simp[h2]⟩
theorem X5u{rows:List (Nat×X0f)}:∀{cs ps:List X00} {ks:List Nat},X5A rows cs=some (ps,ks)→ps.map unT=ps
 | [],ps,ks,h=>by simp only[X5A,Option.some.injEq,Prod.mk.injEq]at h;rw[←h.1];rfl
 | c::cs,ps,ks,h=>by
   cases c with
   | int k n=>simp only[X5A,Option.map_eq_some_iff]at h;obtain⟨p,hp,e⟩:=h;cases e;simp only[List.map_cons,unT,X5u hp]
   | bool b=>simp only[X5A,Option.map_eq_some_iff]at h;obtain⟨p,hp,e⟩:=h;cases e;simp only[List.map_cons,unT,X5u hp]
   | str s=>simp only[X5A,Option.map_eq_some_iff]at h;obtain⟨p,hp,e⟩:=h;cases e;simp only[List.map_cons,unT,X5u hp]
   | emp t=>simp only[X5A,Option.map_eq_some_iff]at h;obtain⟨p,hp,e⟩:=h;cases e;simp only[List.map_cons,unT,X5u hp]
   | lst t l tag=>match l,tag,h with
     | [],some 0,h=>simp only[X5A,Option.map_eq_some_iff]at h;obtain⟨p,hp,e⟩:=h;cases e;simp only[List.map_cons,unT,X5u hp]
     | [],none,h=>simp[X5A]at h
     | [],some (k+1),h=>simp[X5A]at h
     | x::l,none,h=>simp[X5A]at h
     | x::l,some 0,h=>simp[X5A]at h
     | x::l,some (k+1),h=>simp[X5A]at h
   | own t r=>
     simp only[X5A]at h
     split at h
     · split at h
       · simp only[Option.map_eq_some_iff]at h;obtain⟨p,hp,e⟩:=h;cases e;simp only[List.map_cons,unT,X5u hp]
       · cases h
     · cases h
   | sub t r lo hi=>simp[X5A]at h
   | bor t l r ver p=>simp[X5A]at h
   | und=>simp[X5A]at h
def X1D(σ:Sg)(ks:List Nat):List Nat:=(ks.map σ.foot).flatten
theorem X2y{σ:Sg}{ks:List Nat}{g:Nat}(h:g∈X1D σ ks):∃r∈ks,g∈σ.foot r:=by
 unfold X1D at h
 simp only[List.mem_flatten,List.mem_map]at h
 obtain⟨l,⟨r,hr,rfl⟩,hg⟩:=h
 exact⟨r,hr,hg⟩
theorem X39:∀{l:List Nat},X2n l=true→l.Nodup
 | [],_=>List.nodup_nil
 | k::l,h=>by
   simp only[X2n,Bool.and_eq_true]at h
   exact List.nodup_cons.2 ⟨X1z.1 h.1,X39 h.2⟩
theorem X50(hS:Sim P base M0 ios σ M w a st):∀{ks:List Nat},ks.Nodup→(∀r∈ks,X0t r st.rows)→(X1D σ ks).Nodup
 | [],_,_=>List.nodup_nil
 | r::ks,hn,hh=>by
   have hr:=hh r (by simp)
   obtain⟨e,t,l,ver,hole,z,hl⟩:=hr
   show(σ.foot r++X1D σ ks).Nodup
   rw[List.nodup_append]
   refine⟨(hS.hotAt hl).nodup,X50 hS (List.nodup_cons.1 hn).2 fun r' hr'=>hh r' (by simp[hr']),fun x hx y hy e2=>?_⟩
   subst e2
   obtain⟨r',hr',hx'⟩:=X2y hy
   exact hS.hot.apart r r' (hh r (by simp)) (hh r' (by simp[hr'])) (fun e3=>(List.nodup_cons.1 hn).1 (e3▸hr')) x hx hx'
theorem XcC(hS:Sim P base M0 ios σ M w a st){ks:List Nat}{r:Nat}(hr:X0t r st.rows)(hn:r∉ks)(hh:∀r∈ks,X0t r st.rows):∀x∈X1D σ ks,x∉σ.foot r:=fun x hx hx'=>by
 obtain⟨r',hr',h1⟩:=X2y hx
 exact hS.hot.apart r r' hr (hh r' hr') (fun e=>hn (e▸hr')) x hx' h1
theorem XdO(hS:Sim P base M0 ios σ M w a st){rows:List (Nat×X0f)}(hr:∀r rv,look r rows=some rv→look r st.rows=some rv){vs:List Value}{cs:List X00}(h:X0y (RdT σ st.rows M) vs cs):
 ∀{ps:List X00} {ks:List Nat},X5A rows cs=some (ps,ks)→X0u w vs ps (X1D σ ks)∧∀r∈ks,X0t r st.rows:=by
 induction h with
 | nil=>intro ps ks e;simp only[X5A,Option.some.injEq,Prod.mk.injEq]at e;obtain⟨rfl,rfl⟩:=e;exact⟨.nil,by simp⟩
 | @cons v c vs cs hx hrs ih=>
   intro ps ks e
   cases c with
   | int k n=>
     simp only[X5A,Option.map_eq_some_iff]at e
     obtain⟨p,hp,e⟩:=e;cases e
     obtain⟨h1,h2⟩:=ih hp
     have hv:v=.int k n:=hx.1
     subst hv;exact⟨.int h1,h2⟩
   | bool b=>
     simp only[X5A,Option.map_eq_some_iff]at e
     obtain⟨p,hp,e⟩:=e;cases e
     obtain⟨h1,h2⟩:=ih hp
     have hv:v=.bool b:=hx.1
     subst hv;exact⟨.bool h1,h2⟩
   | str s=>
     simp only[X5A,Option.map_eq_some_iff]at e
     obtain⟨p,hp,e⟩:=e;cases e
     obtain⟨h1,h2⟩:=ih hp
     have hv:v=.string ⟨s.toArray⟩:=hx.1
     subst hv;exact⟨.str h1,h2⟩
   | lst t l tag=>
     match l,tag with
     | [],some 0=>
       simp only[X5A,Option.map_eq_some_iff]at e
       obtain⟨p,hp,e⟩:=e;cases e
       obtain⟨h1,h2⟩:=ih hp
       have hv:v=.slice none 0 0:=by have:=hx.2;simpa [X59] using this
       subst hv;exact⟨.emp h1,h2⟩
     | [],none=>simp[X5A]at e
     | [],some (k+1)=>simp[X5A]at e
     | x::l,none=>simp[X5A]at e
     | x::l,some 0=>simp[X5A]at e
     | x::l,some (k+1)=>simp[X5A]at e
   | emp t=>
     simp only[X5A,Option.map_eq_some_iff]at e
     obtain⟨p,hp,e⟩:=e;cases e
     obtain⟨h1,h2⟩:=ih hp
     obtain⟨ad,rfl⟩:=hx.2
     exact⟨.emp h1,h2⟩
   | own t r=>
     simp only[X5A]at e
     split at e
     · rename_i e' t' x ver z hl
       split at e
       · rename_i ht
         subst ht
         simp only[Option.map_eq_some_iff]at e
         obtain⟨p,hp,e⟩:=e;cases e
         obtain⟨h1,h2⟩:=ih hp
         have hl':=hr r _ hl
         have hv:v=σ.row r:=hx.2 (by rw[hl'];rfl)
         have ho:X0u w [σ.row r] [.lst _ x none] (σ.foot r):=(hS.hotAt hl').own
         rw[←hv]at ho
         refine⟨ho.append h1,fun r' hr'=>?_⟩
         rcases List.mem_cons.1 hr' with rfl | hr'
         · exact⟨_,_,_,_,_,_,hl'⟩
         · exact h2 r' hr'
       · cases e
     · cases e
   | sub t r lo hi=>simp[X5A]at e
   | bor t l r ver p=>simp[X5A]at e
   | und=>simp[X5A]at e
theorem X71(hT:X0q P tab){rows:List (Nat×X0f)}{t e:TypeId}{te:TI}{τ:Ty}{fs:List (Nat×TypeId)}{b n:Nat}{parts:Array (Nat×Operand)}{ps:List (Nat×List X00)}{cs:List X00}(ho:o.op=.buildSlice t n parts)(h:look t tab=some ⟨.list τ,false,fs,e,b⟩)(he:look e tab=some te)(hte:te.ty=τ)(hpos:0<size τ)(hlim:n*size τ≤16777216)(hp:X0y (fun(p:Nat×Value) (q:Nat×List X00)=>p.1=q.1∧X0y (RdT σ rows M) p.2.cells.toList q.2) (parts.toList.map fun p=>(p.1,a.eval p.2)) ps)(hf:Xa4 (fun i=>some (i*size τ,size τ)) (XaM τ n) ps=some cs):
 ∃arr',(execOp a.eval o).run P w=.ok (.value (.slice (some ⟨w.heap.size,0,none⟩) n n)) (w.alloc (.cells arr' e))∧X0y (RdT σ rows M) arr'.toList cs:=by
 obtain⟨i,z,hi,hs,_,hz,hzc⟩:=(hT e te he).info
 rw[hte]at hs hzc
 have hzl:z.cells.size=size τ:=by rw[←Array.length_toList,hzc,X0l]
 let arr0:Array Value:=(Array.range (n*size τ)).map (fun j=>z.cells[j % z.cells.size]!)
 have harr0:arr0.toList=(List.replicate n (zeros τ)).flatten:=by
  have h1:=X4W (zeros τ) (by rw[X0l];exact hpos) n
  rw[X0l]at h1
  rw[←h1]
  show((Array.range (n*size τ)).map (fun j=>z.cells[j % z.cells.size]!)).toList=_
  rw[Array.toList_map,Array.toList_range]
  apply List.map_congr_left
  intro j _
  rw[hzl,←hzc]
  simp only[getElem!_def,Array.getElem?_toList]
 obtain⟨arr',ha,hr⟩:=X8X (σ:=σ) (M:=M) (rows:=rows) (place':=fun i=>some (i*size τ,size τ)) hp (arr:=arr0) (by rw[harr0];exact X7T τ n) (fun _ _ _ h=>h) hf
 have hrun:(execOp a.eval o).run P w=.ok (.value (.slice (some ⟨w.heap.size,0,none⟩) n n)) (w.alloc (.cells arr' e)):=by
  have hue:=X23 hT h
  have hzv:(zeroValue e).run P w=.ok z w:=by simp[zeroValue,typeInfo,hi,hz]
  have hso:(sizeOf e).run P w=.ok (size τ) w:=by simp[sizeOf,typeInfo,hi,hs]
  by_cases hn0:n=0
  · subst hn0
    have he0:arr0=#[]:=by apply Array.ext';simp[harr0]
    rw[he0]at ha
    simp only[execOp,ho,Instr.buildSlice]
    simp[run_underlying hue,hso,newRow,newObj,Sem.run]
    rw[show(Array.map (fun x=>(default:Value)) (Array.range 0))=#[] by apply Array.ext';simp,ha]
    simp[Sem.run]
  · have hne:¬n*size τ=0:=by
     rw[Nat.mul_eq_zero];omega
    have hne':¬(n=0∨size τ=0):=by omega
    simp only[execOp,ho,Instr.buildSlice]
    simp[run_underlying hue,hso,newRow,newObj,Sem.run,show ¬16777216<n*size τ by omega,hne',hzv,show(Array.map (fun x=>z.cells[x % z.cells.size]!) (Array.range (n*size τ)))=arr0 from rfl,ha]
    intro h0
    exact absurd h0 hne
 exact⟨arr',hrun,hr⟩
theorem X88(hT:X0q P tab)(hS:Sim P base M0 ios σ M w a st){t e:TypeId}{te:TI}{τ:Ty}{fs:List (Nat×TypeId)}{b n d:Nat}{parts:Array (Nat×Operand)}{ps:List (Nat×List X00)}{cs vs:List X00}{ks:List Nat}{l:List (El τ)}{rows:List (Nat×X0f)}(ho:o.op=.buildSlice t n parts)(hd:o.dst=some d)(hdn:d<st.nt)(h:look t tab=some ⟨.list τ,false,fs,e,b⟩)(he:look e tab=some te)(hte:te.ty=τ)(hpos:0<size τ)(hlim:n*size τ≤16777216)(hrows:∀r rv,look r rows=some rv→look r st.rows=some rv)(hp:X0y (fun(p:Nat×Value) (q:Nat×List X00)=>p.1=q.1∧X0y (RdT σ st.rows M) p.2.cells.toList q.2) (parts.toList.map fun p=>(p.1,a.eval p.2)) ps)(hf:Xa4 (fun i=>some (i*size τ,size τ)) (XaM τ n) ps=some cs)(hown:X5A rows cs=some (vs,ks))(hks:X2n ks=true)(hu:X52 τ n vs=some (l,[]))(hfr:noTag (X0e d 0) st=true)(hn:X2Y P base M0 ios a o st {sv:=.val false [.own τ (X0e d 0)],nrow:=[(X0e d 0,.hot e τ l 0 none true)],krow:=ks} next):o.wp P a w next Q:=by
 obtain⟨arr',hrun,hr⟩:=X71 (P:=P) (w:=w) (a:=a) (σ:=σ) (M:=M) hT ho h he hte hpos hlim hp hf
 obtain⟨i,z,hi,hs,hib,hz,hzc⟩:=(hT e te he).info
 rw[hte]at hs
 obtain⟨h1,h2⟩:=XdO hS hrows hr hown
 have hvs:=X5u hown
 obtain⟨h3,h4⟩:=X8C hu
 rw[hvs]at h3
 simp only[List.map_nil,List.append_nil]at h3
 rw[h3]at h1
 have hlen:arr'.toList.length=n*size τ:=by rw[h1.length,X0I,h4]
 have hsz:arr'.size=n*size τ:=by rw[←Array.length_toList];exact hlen
 have hnl:n≤maxLen:=by
  have h1:n≤n*size τ:=Nat.le_mul_of_pos_right n hpos
  simp only[maxLen];omega
 have hnd:=X50 hS (X39 hks) h2
 refine X0i hrun ?_
 refine X7P (S:=[]) (fo:=w.heap.size::X1D σ ks) (l:=l) (e:=e) (t:=τ) (z:=true) (ks:=ks) hS hd hdn (by simp) rfl rfl rfl (fun k hk _=>heap_alloc_old w _ hk) (fun g hg=>by cases hg) (fun g hg=>?_) ⟨i,hi,hs⟩ hpos ?_ ?_ ?_ hfr hn
 · rcases List.mem_cons.1 hg with rfl | hg
   · exact⟨by simp,.inl (Nat.le_refl _)⟩
   · obtain⟨r,k1,k2⟩:=X2y hg
     exact⟨Nat.lt_of_lt_of_le (hS.hot.lt r (h2 r k1) g k2) (by simp),.inr ⟨r,k1,h2 r k1,k2⟩⟩
 · have hmk:=X21.mk (t:=τ) (o:=0) (cap:=n) (l:=l) (heap_alloc_new w (.cells arr' e)) (by rw[h4];exact Nat.le_refl _) hnl (by rw[hsz];omega) (b1:=X1D σ ks) (by
    rw[h4,List.drop_zero,List.take_of_length_le (by rw[hlen];exact Nat.le_refl _)]
    exact h1.frame fun g hg=>heap_alloc_old w _ (h1.lt g hg))
   rw[h4]at hmk
   exact hmk
 · exact List.nodup_cons.2 ⟨fun hx=>Nat.lt_irrefl _ (h1.lt _ hx),hnd⟩
 · intro _
   exact⟨⟨n,arr'.toList,hlen,.inr ⟨w.heap.size,n,arr',rfl,hS.fr.size,heap_alloc_new w _,Nat.le_refl _,hnl,hsz,by rw[List.take_of_length_le (by rw[hlen];exact Nat.le_refl _)]⟩⟩,fun g hg=>by rw[X0U]at hg;cases hg;simp⟩
inductive X6u (w:World) (τ:Ty) (vy:Value) (l2:List (El τ)) (b':List Nat):Prop
 | none {ad c}:vy=.slice ad 0 c→l2=[]→b'=[]→X6u w τ vy l2 b'
 | some {a c us}:vy=.slice (some a) (List.length l2) c→0<List.length l2→(∀j u,us[j]?=some u→w.cell? (a.add j)=some u)→X0u w us (X09 τ l2) b'→X6u w τ vy l2 b'
theorem Xak{N:Mem}{τ:Ty}{css:List (List Value)}{l:List (El τ)}(h:X0y (RdC N τ) css l):X0y (RdV N) css.flatten (X09 τ l):=by
 induction h with
 | nil=>exact .nil
 | cons x _ ih=>rw[List.flatten_cons,X0Y];exact(X7e _ _ _ x).append ih
theorem X6u.flat{τ:Ty}{vy:Value}{l2:List (El τ)}(hf:X5Y τ=true)(h:RdC (X8F w) (.list τ) [vy] l2):X6u w τ vy l2 []:=by
 obtain⟨ad,cap,css,rfl,_,_,h1,h2⟩:=RdC.cells h
 rcases h2 with rfl | ⟨a,rfl,h2⟩
 · exact .none rfl rfl rfl
 · cases l2 with
   | nil=>exact .none rfl rfl rfl
   | cons x l2=>exact .some rfl (by simp) h2 (X0u.plain (Xak h1) (X7A hf _))
theorem X6u.own{τ:Ty}{vy:Value}{l2:List (El τ)}{bs:List Nat}(h:X21 w τ vy l2 bs)(hnd:bs.Nodup):∃b',X6u w τ vy l2 b'∧b'.Nodup∧∀x∈b',x∈bs:=by
 rcases h.cases with⟨ad,rfl,rfl,rfl⟩ | ⟨g,o,cap,arr,e,b1,rfl,rfl,hg,h2,h3,h4,h5⟩
 · exact⟨[],.none rfl rfl rfl,List.nodup_nil,by simp⟩
 · cases l2 with
   | nil=>exact⟨[],.none (by rfl) rfl rfl,List.nodup_nil,by simp⟩
   | cons x l2=>
     refine⟨b1,.some (us:=(arr.toList.drop o).take (List.length (x::l2)*size τ)) rfl (by simp) (fun j u hu=>?_) h5,(List.nodup_cons.1 hnd).2,fun y hy=>by simp[hy]⟩
     rw[X8x]
     rw[List.getElem?_take]at hu
     split at hu
     · exact X5M hg hu
     · cases hu
theorem X7v(hT:X0q P tab)(hS:Sim P base M0 ios σ M w a st){t e:TypeId}{te:TI}{τ:Ty}{fs:List (Nat×TypeId)}{b d:Nat}{x y:Operand}{l l2:List (El τ)}{ks bs b':List Nat}(ho:o.op=.call {callee:=.builtin .append,args:=#[x,y],argTypes:=#[t,t]})(hd:o.dst=some d)(hdn:d<st.nt)(h:look t tab=some ⟨.list τ,false,fs,e,b⟩)(he:look e tab=some te)(hte:te.ty=τ)(hpos:0<size τ)(hx:X21 w τ (a.eval x) l bs)(hbs:bs.Nodup)(hy:X6u w τ (a.eval y) l2 b')(hb':b'.Nodup)(hdis:∀g∈b',g∉bs)(hk1:∀g∈bs,∃r∈ks,X0t r st.rows∧g∈σ.foot r)(hk2:∀g∈b',∃r∈ks,X0t r st.rows∧g∈σ.foot r)(hlen:List.length l+List.length l2≤9223372036854775807)(hby:(List.length l+List.length l2)*te.bytes≤140737488355328)(hfr:noTag (X0e d 0) st=true)(hn:X2Y P base M0 ios a o st {sv:=.val false [.own τ (X0e d 0)],nrow:=[(X0e d 0,.hot e τ (l++l2) 0 none false)],krow:=ks} next):o.wp P a w next Q:=by
 obtain⟨i,z,hi,hs,hib,hz,hzc⟩:=(hT e te he).info
 rw[hte]at hs hzc
 have hzl:z.cells.size=i.size:=by rw[←Array.length_toList,hzc,X0l,hs]
 have hue:=X23 hT h
 cases hy with
 | @none ad c hv hl hb=>
   subst hl;subst hb
   obtain⟨ax,cx,ex,hlx,hmx⟩:=hx.slice
   have hrun:=X4Z (P:=P) (w:=w) t o.type e i hue hi ax (List.length l) cx c hlx ad
   refine X0i (v:=a.eval x) (w':=w) (by simp only[execOp,ho,resolve];simp[invoke,builtin,hv,ex,hrun]) ?_
   refine X7P (S:=[]) (fo:=bs) (l:=l++[]) (e:=e) (t:=τ) (z:=false) (ks:=ks) hS hd hdn (Nat.le_refl _) rfl rfl rfl (fun _ _ _=>rfl) (fun g hg=>by cases hg) (fun g hg=>⟨X0u.lt hx g hg,.inr (hk1 g hg)⟩) ⟨i,hi,hs⟩ hpos (by simpa using hx) hbs (fun h=>by cases h) hfr hn
 | @some ad c us hv h0 hus hu=>
   obtain⟨v',w',bs',hrun,hw',hst⟩:=X77 (P:=P) (ty:=o.type) hue hi hz hzl hs hpos hx hbs (a:=ad) (c:=c) hus hu hb' hdis h0 (by simp only[maxLen];omega) (by rw[hib];exact hby)
   refine X0i (v:=v') (w':=w') (by simp only[execOp,ho,resolve];simp[invoke,builtin,hv,hrun]) ?_
   refine X7P (S:=bs) (fo:=bs') (l:=l++l2) (e:=e) (t:=τ) (z:=false) (ks:=ks) hS hd hdn hst.size hst.os hst.tape hst.output hst.keep (fun g hg=>hk1 g hg) (fun g hg=>⟨X0u.lt hw' g hg,?_⟩) ⟨i,hi,hs⟩ hpos hw' hst.nodup (fun h=>by cases h) hfr hn
   rcases hst.sub g hg with h1 | h1 | h1
   · exact .inr (hk1 g h1)
   · exact .inr (hk2 g h1)
   · exact .inl h1
end Go.Proofs.Ytakllifahpfmpaa.Bv
namespace Go.Proofs.Ytakllifahpfmpaa.Bv
variable {P:Program} {base:World} {M0:Mem} {ios:Ios} {σ:Sg} {M:Mem} {w:World} {a:Act} {st:St} {tab:Tab} {o:Oper} {next:Act→World→Prop} {Q:Exit→Act→World→Prop}
theorem X5C.head{r:Nat}{e:TypeId}{t:Ty}{l:List (El t)}{hole:Option (Nat×Nat)}{z:Bool}(h:X5C P base σ w r e t l hole z)(h0:0<List.length l):∃g o cap,σ.row r=.slice (some ⟨g,o,none⟩) (List.length l) cap∧List.length l≤cap:=by
 have ho:=h.own
 have key:∀{w':World} {bs:List Nat},X21 w' t (σ.row r) l bs→∃g o cap,σ.row r=.slice (some ⟨g,o,none⟩) (List.length l) cap∧List.length l≤cap:=fun h1=>by
  rcases h1.cases with⟨ad,_,rfl,_⟩ | ⟨g,o,cap,arr,e,b1,e1,_,_,k1,_⟩
  · simp at h0
  · exact⟨g,o,cap,e1,k1⟩
 cases hole with
 | none=>exact key ho
 | some p=>obtain⟨i,off⟩:=p;obtain⟨g,o,cap,arr,e,_,_,_,_,_,_,h7⟩:=ho;exact key h7
theorem X8N(hT:X0q P tab)(hS:Sim P base M0 ios σ M w a st){t e e0:TypeId}{te:TI}{τ0 τ:Ty}{fs:List (Nat×TypeId)}{b:Nat}{x y:Operand}{k:IntKind}{i:Int}{l:List (El τ)}{r ver:Nat}{hole:Option (Nat×Nat)}{z:Bool}(ho:o.op=.indexAddr t x y)(hd:∀d,o.dst=some d→d<st.nt)(h:look t tab=some ⟨.list τ0,false,fs,e,b⟩)(he:look e tab=some te)(hs:size te.ty=size τ)(hr:look r st.rows=some (.hot e0 τ l ver hole z))(hx:a.eval x=σ.row r)(hy:a.eval y=.int k i)(h0:0≤i)(h1:i<List.length l)(hn:X2Y P base M0 ios a o st {sv:=.hp τ r i.toNat 0} next):o.wp P a w next Q:=by
 obtain⟨g,oo,cap,hv,hc⟩:=(hS.hotAt hr).head (by omega)
 refine X0i (v:=.pointer (some ((⟨g,oo,none⟩:Addr).add (i.toNat*size τ)))) (w':=w) ?_ (hn _ σ M w (hS.putO hd (fun _=>⟨_,⟨_,_,cap,hv,by omega,rfl⟩,by rw[Nat.add_zero]⟩)))
 have hu:=X23 hT h
 have hsz:=X2e hT he w
 rw[hs]at hsz
 simp[execOp,ho,hx,hv,hy,Instr.indexAt,asIntOf,run_underlying hu,h0,h1,hsz]
theorem X8O(hT:X0q P tab)(hS:Sim P base M0 ios σ M w a st){t e e0:TypeId}{te:TI}{τ0 τ:Ty}{fs:List (Nat×TypeId)}{b:Nat}{x y:Operand}{k:IntKind}{i:Int}{l:List (El τ)}{r ver lo hi:Nat}{z:Bool}(ho:o.op=.indexAddr t x y)(hd:∀d,o.dst=some d→d<st.nt)(h:look t tab=some ⟨.list τ0,false,fs,e,b⟩)(he:look e tab=some te)(hs:size te.ty=size τ)(hr:look r st.rows=some (.hot e0 τ l ver none z))(hx:Xa7 τ (σ.row r) lo hi (a.eval x))(hy:a.eval y=.int k i)(h0:0≤i)(h1:i<List.length ((l.take hi).drop lo))(hn:X2Y P base M0 ios a o st {sv:=.hp τ r (lo+i.toNat) 0} next):o.wp P a w next Q:=by
 obtain⟨ad,n,cap,ad',hv,k1,k2,hxv,had⟩:=hx
 have hlen:List.length ((l.take hi).drop lo)≤hi - lo:=by rw[List.length_drop,List.length_take];omega
 have hl0:0<List.length l:=by
  cases l with
  | nil=>simp at h1;omega
  | cons y l=>simp
 obtain⟨g,oo,cap',hv',hc⟩:=(hS.hotAt hr).head hl0
 rw[hv']at hv
 injection hv with e1 e2 e3
 subst e1;subst e3
 have had:=had (by omega)
 subst had
 simp only[Option.map_some]at hxv
 refine X0i (v:=.pointer (some ((⟨g,oo,none⟩:Addr).add ((lo+i.toNat)*size τ)))) (w':=w) ?_ (hn _ σ M w (hS.putO hd (fun _=>⟨_,⟨_,_,cap',hv',by omega,rfl⟩,by rw[Nat.add_zero]⟩)))
 have hu:=X23 hT h
 have hsz:=X2e hT he w
 rw[hs]at hsz
 have hi1:i<((hi - lo:Nat):Int):=by omega
 simp[execOp,ho,hxv,hy,Instr.indexAt,asIntOf,run_underlying hu,h0,hi1,hsz,Addr.add_add,Nat.add_mul]
theorem Xcf{N:Mem}{r ver:Nat}{p:Nat→Option (Nat×Nat)}{rows:List (Nat×X0f)}(hN:N=σ.mem r){vs:List Value}{cs:List X00}(h:X0y (RdV N) vs cs):∀(j:Nat),(∀c∈cs,(∃t l,c=.lst t l none)∨X76 c=true)→
 (∀i v t l,vs[i]?=some v→cs[i]?=some (.lst t l none)→∀i' off,p (j+i)=some (i',off)→∀rv,look r rows=some rv→rv.ver?=some ver→XfO σ t l r rv i' off v)→X0y (RdT σ rows M) vs (XbJ r ver p j cs):=by
 induction h with
 | nil=>intro j _ _;exact .nil
 | @cons v c vs cs hx hr ih=>
   intro j hpl hp
   have ih':=ih (j+1) (fun c hc=>hpl c (List.mem_cons_of_mem _ hc)) (fun i u t l hu hc i' off hp'=>hp (i+1) u t l (by simpa using hu) (by simpa using hc) i' off (by rw[show j+(i+1)=j+1+i by omega];exact hp'))
   rcases hpl c (by simp) with⟨t,l,rfl⟩ | hpc
   · simp only[XbJ]
     refine .cons ⟨RdV.oneCell hx,fun rv hl hv=>⟨by rw[←hN];exact hx,fun i off hp'=>hp 0 v t l (by simp) (by simp) i off (by simpa using hp') rv hl hv⟩⟩ ih'
   · cases c<;>simp[X76]at hpc<;>exact .cons ⟨hx,trivial⟩ ih'
theorem X5J:∀(t:Ty) (x:El t),∀c∈flat t x,(∃t' l,c=.lst t' l none)∨X76 c=true
 | .int _,x,c,h=>by simp[flat]at h;subst h;exact .inr rfl
 | .bool,x,c,h=>by simp[flat]at h;subst h;exact .inr rfl
 | .str,x,c,h=>by simp[flat]at h;subst h;exact .inr rfl
 | .list t,x,c,h=>by simp[flat]at h;subst h;exact .inl ⟨_,_,rfl⟩
 | .unit,x,c,h=>by simp[flat]at h
 | .pair a b,x,c,h=>by
   simp only[flat,List.mem_append]at h
   rcases h with h | h
   · exact X5J a x.1 c h
   · exact X5J b x.2 c h
theorem X8M(hT:X0q P tab)(hS:Sim P base M0 ios σ M w a st){t e:TypeId}{te:TI}{τ0 τ:Ty}{fs:List (Nat×TypeId)}{b:Nat}{x y:Operand}{k:IntKind}{i:Int}{l:List (El τ)}{r ver:Nat}(ho:o.op=.indexAddr t x y)(hd:∀d,o.dst=some d→d<st.nt)(h:look t tab=some ⟨.list τ0,false,fs,e,b⟩)(he:look e tab=some te)(hs:size te.ty=size τ)(hx:RdC (σ.mem r) (.list τ) [a.eval x] l)(hy:a.eval y=.int k i)(h0:0≤i)(h1:i<List.length l)(hn:X2Y P base M0 ios a o st {sv:=.bptr (XbJ r ver (fun _=>none) 0 (flat τ (l.getD i.toNat (dfl τ)))) r ver} next):o.wp P a w next Q:=by
 obtain⟨ad,cap,hv,vs,h2,h3,h4⟩:=RdC.at hx (i:=i.toNat) (by omega)
 refine X0i (v:=.pointer (some (ad.add (i.toNat*size τ)))) (w':=w) ?_ (hn _ σ M w (hS.putO hd ?_))
 · have hu:=X23 hT h
   have hsz:=X2e hT he w
   rw[hs]at hsz
   simp[execOp,ho,hv,hy,Instr.indexAt,asIntOf,run_underlying hu,h0,h1,hsz]
 · intro rv hl hver
   refine⟨_,rfl,fun j c hj=>?_⟩
   have hb:=Xcf (σ:=σ) (M:=M) (r:=r) (ver:=ver) (p:=fun _=>none) (rows:=st.rows) rfl (X7e _ _ _ h4) 0 (X5J _ _) (fun _ _ _ _ _ _ _ _ hp=>by cases hp)
   obtain⟨u,hu,hr⟩:=hb.get hj
   exact⟨u,h3 j u hu,hr⟩
theorem X9D(hT:X0q P tab)(hS:Sim P base M0 ios σ M w a st){t tf:TypeId}{ti tif:TI}{x:Operand}{f r i oo off:Nat}{τ:Ty}(ho:o.op=.fieldAddr t x f)(hd:∀d,o.dst=some d→d<st.nt)(h:look t tab=some ti)(hg:ti.agg=true)(hf:ti.fields[f]?=some (off,tf))(htf:look tf tab=some tif)(hs:0<size tif.ty)(hlive:(look r st.rows).isSome=true)(hx:X17 σ st.rows st.boxes M (a.eval x) (.hp τ r i oo))(hn:X2Y P base M0 ios a o st {sv:=.hp τ r i (oo+off)} next):o.wp P a w next Q:=by
 obtain⟨ad,⟨ad0,n,cap,h1,h2,h3⟩,hx⟩:=hx hlive
 refine X0i (v:=.pointer (some (ad.add off))) (w':=w) ?_ (hn _ σ M w (hS.putO hd (fun _=>⟨_,⟨ad0,n,cap,h1,h2,rfl⟩,by rw[h3,Addr.add_add,Nat.add_assoc]⟩)))
 have:=X6c hT h hg hf htf hs ad w
 simp[execOp,ho,hx,this]
theorem X86(hT:X0q P tab)(hS:Sim P base M0 ios σ M w a st){t tf:TypeId}{ti tif:TI}{x:Operand}{f r ver off:Nat}{cs:List X00}{rv:X0f}(ho:o.op=.fieldAddr t x f)(hd:∀d,o.dst=some d→d<st.nt)(h:look t tab=some ti)(hg:ti.agg=true)(hf:ti.fields[f]?=some (off,tf))(htf:look tf tab=some tif)(hs:0<size tif.ty)(hl:look r st.rows=some rv)(hv:rv.ver?=some ver)(hx:X17 σ st.rows st.boxes M (a.eval x) (.bptr cs r ver))(hn:X2Y P base M0 ios a o st {sv:=.bptr (cs.drop off) r ver} next):o.wp P a w next Q:=by
 obtain⟨ad,hx,hc⟩:=hx rv hl hv
 refine X0i (v:=.pointer (some (ad.add off))) (w':=w) ?_ (hn _ σ M w (hS.putO hd (fun _ _ _=>⟨ad.add off,rfl,fun i c hi=>?_⟩)))
 · have:=X6c hT h hg hf htf hs ad w
   simp[execOp,ho,hx,this]
 · rw[List.getElem?_drop]at hi
   rw[Addr.add_add]
   exact hc _ c hi
theorem XaJ{rows:List (Nat×X0f)}{ad:Addr}{N:Mem}:∀{cs:List X00} {o:Nat},(∀i c,cs[i]?=some c→∃u,N (ad.add (o+i))=some u∧RdT σ rows M u c)→
 ∃vs,X0y (RdT σ rows M) vs cs∧∀j u,vs[j]?=some u→N (ad.add (o+j))=some u
 | [],o,_=>⟨[],.nil,fun j u h=>by simp at h⟩
 | c::r,o,h=>by
   obtain⟨u,hu,hr⟩:=h 0 c (by simp)
   obtain⟨vs,h1,h2⟩:=XaJ (ad:=ad) (N:=N) (cs:=r) (o:=o+1) (fun i c' hc=>by
    have:=h (i+1) c' (by simpa using hc)
    rwa [show o+(i+1)=o+1+i by omega]at this)
   refine⟨u::vs,.cons hr h1,?_⟩
   intro j x hx
   cases j with
   | zero=>simp at hx;subst hx;exact hu
   | succ j=>simp at hx;have:=h2 j x hx;rwa [show o+1+j=o+(j+1) by omega]at this
theorem XbU(hT:X0q P tab)(hS:Sim P base M0 ios σ M w a st){t e0:TypeId}{ti:TI}{x:Operand}{cs:List X00}{r ver:Nat}{τ:Ty}{l:List (El τ)}{hole:Option (Nat×Nat)}{z:Bool}(ho:o.op=.load t x)(hd:∀d,o.dst=some d→d<st.nt)(ht:look t tab=some ti)(hr:look r st.rows=some (.hot e0 τ l ver hole z))(hx:X17 σ st.rows st.boxes M (a.eval x) (.bptr cs r ver))(hl:size ti.ty≤cs.length)(hag:ti.agg=true∨size ti.ty=1)(hn:X2Y P base M0 ios a o st {sv:=.val ti.agg (cs.take (size ti.ty))} next):o.wp P a w next Q:=by
 obtain⟨ad,hx,hc⟩:=hx _ hr rfl
 obtain⟨vs,h1,h2⟩:=XaJ (σ:=σ) (rows:=st.rows) (M:=M) (N:=σ.mem r) (ad:=ad) (cs:=cs) (o:=0) (by simpa using hc)
 have h3:=h1.take (size ti.ty)
 obtain⟨v,hv,hvc,hva⟩:=X2d (w:=w) hT ht hag ad (vs.take (size ti.ty))
  (by rw[List.length_take,h1.length];omega)
  (by
    intro j u hu
    rw[List.getElem?_take]at hu
    split at hu
    · exact((hS.hotAt hr).mem _ _ (by simpa using h2 j u hu)).1
    · cases hu)
  h3.one
 refine X0i (v:=v) (w':=w) ?_ (hn _ σ M w (hS.putO hd ⟨by rw[hvc];exact h3,hva⟩))
 simp[execOp,ho,Instr.loadAt,Instr.sureAddr,hx,hv]
theorem Xed(hT:X0q P tab)(hS:Sim P base M0 ios σ M w a st){t e0:TypeId}{ti:TI}{x:Operand}{r i off ver:Nat}{τ:Ty}{l:List (El τ)}{z:Bool}(ho:o.op=.load t x)(hd:∀d,o.dst=some d→d<st.nt)(ht:look t tab=some ti)(hr:look r st.rows=some (.hot e0 τ l ver none z))(hx:X17 σ st.rows st.boxes M (a.eval x) (.hp τ r i off))(hl:off+size ti.ty≤size τ)(hag:ti.agg=true∨size ti.ty=1)(hn:X2Y P base M0 ios a o st {sv:=.val ti.agg (((XbJ r ver (fun j=>some (i,j)) 0 (flat τ (l.getD i (dfl τ)))).drop off).take (size ti.ty))} next):o.wp P a w next Q:=by
 have hok:=hS.hotAt hr
 obtain⟨ad,⟨ad0,n,cap,h1,h2,h3⟩,hx⟩:=hx (by rw[hr];rfl)
 obtain⟨ax,cx,hlen⟩:=hok.len
 have hn':n=List.length l:=by rw[hlen]at h1;injection h1 with _ e2;exact e2.symm
 obtain⟨ad1,cap1,hv1,vs,k1,k2,k3⟩:=RdC.at hok.rd (i:=i) (by omega)
 have e1:ad1=ad0:=by rw[h1]at hv1;injection hv1 with e1;injection e1 with e1;exact e1.symm
 subst e1
 have hb:=Xcf (σ:=σ) (M:=M) (r:=r) (ver:=ver) (p:=fun j=>some (i,j)) (rows:=st.rows) rfl (X7e _ _ _ k3) 0 (X5J _ _) (fun j u t' l' hu hc i' off' hp rv hl hv=>by
  cases hp
  rw[hr]at hl;cases hl
  refine⟨by rw[Nat.zero_add];exact hc,_,⟨ad1,n,cap,h1,h2,rfl⟩,?_⟩
  rw[Nat.zero_add,←Addr.add_add]
  exact k2 j u hu)
 have hbl:=hb.length
 have h4:=(hb.drop off).take (size ti.ty)
 obtain⟨v,hv,hvc,hva⟩:=X2d (w:=w) hT ht hag ad ((vs.drop off).take (size ti.ty))
  (by rw[List.length_take,List.length_drop,k1];omega)
  (by
    intro j u hu
    rw[List.getElem?_take]at hu
    split at hu
    · rw[List.getElem?_drop]at hu
      have:=(hok.mem _ _ (k2 _ u hu)).1
      rw[h3,←Addr.add_add,Addr.add_add]
      exact this
    · cases hu)
  h4.one
 refine X0i (v:=v) (w':=w) ?_ (hn _ σ M w (hS.putO hd ⟨by rw[hvc];exact h4,hva⟩))
 simp[execOp,ho,Instr.loadAt,Instr.sureAddr,hx,hv]
end Go.Proofs.Ytakllifahpfmpaa.Bv
namespace Go.Proofs.Ytakllifahpfmpaa.Bv
variable {P:Program} {base:World} {M0:Mem} {ios:Ios} {σ:Sg} {M:Mem} {w:World} {a:Act} {st:St} {tab:Tab} {o:Oper} {next:Act→World→Prop} {Q:Exit→Act→World→Prop}
def X3Y(arr:Array Value)(p:Nat)(us:List Value):Array Value:=(arr.toList.take p++us++arr.toList.drop (p+us.length)).toArray
theorem XcD{arr:Array Value}{p:Nat}{us:List Value}(h:p+us.length≤arr.size):(X3Y arr p us).size=arr.size:=by
 simp only[X3Y,List.size_toArray,List.length_append,List.length_take,List.length_drop,Array.length_toList]
 omega
theorem Xez{arr:Array Value}{p:Nat}{us:List Value}{x:Value}(h:us.length=1)(hp:p<arr.size):X3Y (arr.setIfInBounds p x) p us=X3Y arr p us:=by
 unfold X3Y
 congr 1
 rw[Array.toList_setIfInBounds,List.take_set_of_le (Nat.le_refl _),List.drop_set_of_lt (by omega)]
theorem Sim.putRow(hS:Sim P base M0 ios σ M w a st){e0:TypeId}{τ:Ty}{l l':List (El τ)}{r ver:Nat}{hole:Option (Nat×Nat)}{z:Bool}(hr:look r st.rows=some (.hot e0 τ l ver hole z)){us:List Value}{ps c1 c2 c3:List X00}{ks:List Nat}(hu:X0u w us ps (X1D σ ks))(hks:X2n ks=true)(hrk:r∉ks)(hkh:∀r∈ks,X0t r st.rows)(hc:X09 τ l=c1++(c2++c3))(hl:ps.length=c2.length)(hpos:0<c2.length)(hl':X09 τ l'=c1++(ps++c3))(hlen:List.length l'=List.length l)(hh:hole=none∨∃i off,hole=some (i,off)∧c1.length=i*size τ+off∧c2.length=1)(hv:noVers st [(r,.hot e0 τ l' (ver+1) none z)]=true):
 ∃g oo cap arr e',σ.row r=.slice (some ⟨g,oo,none⟩) (List.length l) cap∧w.heap[g]?=some (.cells arr e' (0,0))∧oo+c1.length+us.length≤arr.size∧
  ∃σ',Sim P base M0 ios σ' M (w.setRow g (X3Y arr (oo+c1.length) us)) a {st with rows:=X07 [(r,.hot e0 τ l' (ver+1) none z)] ks st.rows}:=by
 have hok:=hS.hotAt hr
 have hrh:X0t r st.rows:=⟨e0,τ,l,ver,hole,z,hr⟩
 have hnd':=X50 hS (X39 hks) hkh
 have hdis:=XcC hS hrh hrk hkh
 have key:∃g oo cap arr e' b1 b3,σ.row r=.slice (some ⟨g,oo,none⟩) (List.length l) cap∧w.heap[g]?=some (.cells arr e' (0,0))∧oo+c1.length+us.length≤arr.size∧g∈σ.foot r∧(∀x∈b1,x∈σ.foot r)∧(∀x∈b3,x∈σ.foot r)∧
  X21 (w.setRow g (X3Y arr (oo+c1.length) us)) τ (σ.row r) l' (g::(b1++(X1D σ ks++b3)))∧(g::(b1++(X1D σ ks++b3))).Nodup:=by
  have ho:=hok.own
  rcases hh with rfl | ⟨i,off,rfl,hp1,hp2⟩
  · obtain⟨g,oo,cap,arr,e',b1,b2,b3,k1,k2,k3,k4,k5,k6,k7⟩:=X21.put ho hok.nodup hc hu hl hpos hl' hlen hdis hnd'
    exact⟨g,oo,cap,arr,e',b1,b3,k1,k2,k3,by rw[k4];simp,fun x hx=>by rw[k4];simp[hx],fun x hx=>by rw[k4];simp[hx],k6,k7⟩
  · obtain⟨g,oo,cap,arr,e',h1,h2,h3,h4,h5,_,h7⟩:=ho
    have hgf:g∈σ.foot r:=by
     rcases h7.cases with⟨ad,k1,k2,_⟩ | ⟨g',o',cap',arr',e'',b1,k1,k2,_⟩
     · subst k2;simp at h3
     · rw[h1]at k1;injection k1 with k3;injection k3 with k4;injection k4 with k5
       subst k5;rw[k2];simp
    have hu':X0u (w.setRow g (arr.setIfInBounds (oo+i*size τ+off) (.slice none 0 0))) us ps (X1D σ ks):=hu.frame fun x hx=>setRow_other w g x _ (fun e=>by subst e;exact hdis x hx hgf)
    obtain⟨g2,oo2,cap2,arr2,e2,b1,b2,b3,k1,k2,k3,k4,k5,k6,k7⟩:=X21.put h7 hok.nodup hc hu' hl hpos hl' hlen hdis hnd'
    rw[h1]at k1
    injection k1 with m1 _ m3
    injection m1 with m1
    injection m1 with m1 m2 _
    subst m1;subst m2;subst m3
    rw[setRow_heap w g arr _ e' _ h2]at k2
    have m4:arr.setIfInBounds (oo+i*size τ+off) (.slice none 0 0)=arr2:=by cases k2;rfl
    subst m4
    simp only[Array.size_setIfInBounds]at k3
    refine⟨g,oo,cap,arr,e',b1,b3,h1,h2,k3,hgf,fun x hx=>by rw[k4];simp[hx],fun x hx=>by rw[k4];simp[hx],?_,k7⟩
    rw[h1]at k6 ⊢
    refine k6.frame fun x hx=>?_
    by_cases hxg:x=g
    · subst hxg
      have e1:X3Y (arr.setIfInBounds (oo+i*size τ+off) (.slice none 0 0)) (oo+c1.length) us=X3Y arr (oo+c1.length) us:=by
       rw[show oo+i*size τ+off=oo+c1.length by omega]
       exact Xez (by rw[hu.length,hl];exact hp2) (by omega)
      rw[setRow_heap w x arr _ e' _ h2,←e1]
      exact(setRow_heap _ x _ _ e' _ (setRow_heap w x arr _ e' _ h2)).symm
    · rw[setRow_other _ _ _ _ hxg,setRow_other _ _ _ _ hxg,setRow_other _ _ _ _ hxg]
 obtain⟨g,oo,cap,arr,e',b1,b3,k1,k2,k3,k4,k5,k6,k7,k8⟩:=key
 refine⟨g,oo,cap,arr,e',k1,k2,k3,{σ with foot:=fun k=>if k=r then g::(b1++(X1D σ ks++b3)) else σ.foot k,mem:=fun k=>if k=r then X6p (w.setRow g (X3Y arr (oo+c1.length) us)) τ (σ.row r) (g::(b1++(X1D σ ks++b3))) else σ.mem k},?_⟩
 have hlk:∀r' rv,look r' [(r,X0f.hot e0 τ l' (ver+1) none z)]=some rv→r'=r∧rv=.hot e0 τ l' (ver+1) none z:=fun r' rv hh=>by
  rw[X01]at hh
  split at hh
  · rename_i e1;cases hh;exact⟨e1.symm,rfl⟩
  · cases hh
 have hls:∀r',(look r' [(r,X0f.hot e0 τ l' (ver+1) none z)]).isSome=true→r'=r:=fun r' hh=>by
  obtain⟨rv,hrv⟩:=Option.isSome_iff_exists.1 hh
  exact(hlk r' rv hrv).1
 have hself:(look r [(r,X0f.hot e0 τ l' (ver+1) none z)]).isSome=true:=by simp[look]
 refine hS.step (S:=[g]) ?_ hv
 exact {
  sbox:=rfl
  srow:=rfl
  sfoot:=fun r' hn=>by
   have:r'≠r:=fun e1=>by subst e1;simp[look]at hn
   simp[this]
  size:=by simp
  os:=by simp
  tape:=by simp
  output:=by simp
  keep:=fun k hk hn=>setRow_other w g k _ (fun e1=>hn (by simp[e1]))
  touched:=fun x hx=>⟨r,hrh,by rw[List.mem_singleton.1 hx];exact k4,.inr hself⟩
  updOk:=fun r' rv hh=>by
   obtain⟨rfl,rfl⟩:=hlk r' rv hh
   refine⟨hrk,hrh,_,_,_,_,_,_,rfl,?_⟩
   exact {
    info:=hok.info
    pos:=hok.pos
    own:=by simp only[if_pos];exact k7
    nodup:=by simp only[if_pos];exact k8
    mem:=fun ad u hu=>by simp only[if_pos]at hu ⊢;exact X66 hu
    full:=fun _ ad u hb ht hu=>by simp only[if_pos]at hb ht ⊢;rw[X7H hb ht];exact hu
    z:=fun hz=>by
     obtain⟨⟨n,xs,hw⟩,hb⟩:=hok.z hz
     simp only[if_pos]
     rcases hw.2 with⟨m1,_⟩ | ⟨g',cap',cur,m1,m2,m3,m4,m5,m6,m7⟩
     · rw[m1]at k1;cases k1
     · rw[k1]at m1
       injection m1 with n1 n2 n3
       injection n1 with n1
       injection n1 with n1 n4 _
       subst n1;subst n3
       rw[k2]at m3
       have n5:arr=cur:=by cases m3;rfl
       have n6:e'=e0:=by cases m3;rfl
       subst n5;subst n6
       have hsz:=XcD (arr:=arr) (p:=oo+c1.length) (us:=us) k3
       refine⟨⟨n,_,⟨?_,.inr ⟨g,cap,X3Y arr (oo+c1.length) us,by rw[k1,n2,n4],m2,setRow_heap w g arr _ e' _ k2,m4,m5,by rw[hsz];exact m6,rfl⟩⟩⟩,fun x hx=>by rw[k1,X0U]at hx;cases hx;simp⟩
       rw[List.length_take,Array.length_toList,hsz,m6,Nat.min_eq_left (Nat.mul_le_mul_right _ m4)]}
  foot:=fun r' hh x hx=>by
   have e1:=hls r' hh;subst e1
   simp only[if_pos]at hx
   refine⟨by rw[show(w.setRow g (X3Y arr (oo+c1.length) us)).heap.size=w.heap.size by simp];simpa using X0u.lt k7 x hx,.inr ?_⟩
   simp only[List.mem_cons,List.mem_append]at hx
   rcases hx with rfl | hx | hx | hx
   · exact⟨r',hrh,k4,.inr hself⟩
   · exact⟨r',hrh,k5 x hx,.inr hself⟩
   · obtain⟨r2,m1,m2⟩:=X2y hx
     exact⟨r2,hkh r2 m1,m2,.inl m1⟩
   · exact⟨r',hrh,k6 x hx,.inr hself⟩
  apart:=fun r1 r2 h1 h2 hne=>absurd ((hls r1 h1).trans (hls r2 h2).symm) hne}
theorem X8c{τ:Ty}{l:List (El τ)}{i:Nat}(hi:i<List.length l):X09 τ l=X09 τ (l.take i)++(flat τ (l.getD i (dfl τ))++X09 τ (l.drop (i+1))):=by
 have e1:l.getD i (dfl τ)=l[i]:=by rw[List.getD_eq_getElem?_getD,List.getElem?_eq_getElem hi];rfl
 rw[e1,←X0Y,←List.drop_eq_getElem_cons hi,←X15,List.take_append_drop]
theorem X9W{τ:Ty}{l:List (El τ)}{i:Nat}{y:El τ}(hi:i<List.length l):X09 τ (l.set i y)=X09 τ (l.take i)++(flat τ y++X09 τ (l.drop (i+1))):=by
 rw[X8c (l:=l.set i y) (i:=i) (by simpa using hi)]
 rw[List.take_set_of_le (Nat.le_refl _),List.drop_set_of_lt (by omega)]
 congr 2
 rw[List.getD_eq_getElem?_getD,List.getElem?_set_self (by simpa using hi)];rfl
theorem X9C(hT:X0q P tab)(hS:Sim P base M0 ios σ M w a st){t e0:TypeId}{ti:TI}{x y:Operand}{r i off ver:Nat}{τ:Ty}{l l':List (El τ)}{hole:Option (Nat×Nat)}{z:Bool}{ds ps:List X00}{ks:List Nat}{rows:List (Nat×X0f)}(ho:o.op=.store t x y)(hdn:o.dst=none)(hrows:∀r rv,look r rows=some rv→look r st.rows=some rv)(ht:look t tab=some ti)(hr:look r st.rows=some (.hot e0 τ l ver hole z))(hx:X17 σ st.rows st.boxes M (a.eval x) (.hp τ r i off))(hy:X0y (RdT σ st.rows M) (a.eval y).cells.toList ds)(hown:X5A rows ds=some (ps,ks))(hrk:X1C r ks=true)(hks:X2n ks=true)(hl:ds.length=size ti.ty)(hoff:off+ds.length≤size τ)(hpos:0<ds.length)(hset:X8K τ l i off ps=some l')(hh:hole=none∨(hole=some (i,off)∧ds.length=1))(hv:noVers st [(r,.hot e0 τ l' (ver+1) none z)]=true)(hn:X2Y P base M0 ios a o st {sv:=.und,krow:=ks,urow:=[(r,.hot e0 τ l' (ver+1) none z)]} next):o.wp P a w next Q:=by
 have hok:=hS.hotAt hr
 obtain⟨ad,⟨ad0,n,cap,h1,h2,h3⟩,hx⟩:=hx (by rw[hr];rfl)
 obtain⟨ax,cx,hlen⟩:=hok.len
 have hn':n=List.length l:=by rw[hlen]at h1;injection h1 with _ e2;exact e2.symm
 subst hn'
 obtain⟨hu,hkh⟩:=XdO hS hrows hy hown
 have hps:=X5u hown
 have hpl:ps.length=ds.length:=by have:=hu.length;rw[←this,hy.length]
 unfold X8K at hset
 split at hset
 · rename_i y' hy'
   cases hset
   have hfl:=X27 _ _ _ _ hy'
   simp only[List.map_nil,List.append_nil,List.map_append,List.map_take,List.map_drop,X90,hps]at hfl
   have hfx:(flat τ (l.getD i (dfl τ))).length=size τ:=X0V _ _
   have hc:X09 τ l=(X09 τ (l.take i)++(flat τ (l.getD i (dfl τ))).take off)++((((flat τ (l.getD i (dfl τ))).drop off).take ps.length)++((flat τ (l.getD i (dfl τ))).drop (off+ps.length)++X09 τ (l.drop (i+1)))):=by
    rw[X8c h2]
    have e1:flat τ (l.getD i (dfl τ))=(flat τ (l.getD i (dfl τ))).take off++((((flat τ (l.getD i (dfl τ))).drop off).take ps.length)++(flat τ (l.getD i (dfl τ))).drop (off+ps.length)):=by
     rw[←List.drop_drop,List.take_append_drop,List.take_append_drop]
    conv=>lhs;rw[e1]
    simp only[List.append_assoc]
   have hl':X09 τ (l.set i y')=(X09 τ (l.take i)++(flat τ (l.getD i (dfl τ))).take off)++(ps++((flat τ (l.getD i (dfl τ))).drop (off+ps.length)++X09 τ (l.drop (i+1)))):=by
    rw[X9W h2,←hfl]
    simp only[List.append_assoc]
   have hc2:(((flat τ (l.getD i (dfl τ))).drop off).take ps.length).length=ps.length:=by rw[List.length_take,List.length_drop,hfx];omega
   have hc1:(X09 τ (l.take i)++(flat τ (l.getD i (dfl τ))).take off).length=i*size τ+off:=by
    rw[List.length_append,X0I,List.length_take,List.length_take,hfx,Nat.min_eq_left (by omega),Nat.min_eq_left (by omega)]
   obtain⟨g,oo,cap',arr,e',k1,k2,k3,σ',k4⟩:=hS.putRow hr hu hks (X1z.1 hrk) hkh hc hc2.symm (by omega) hl' (by simp) (by
    rcases hh with h | ⟨h,h'⟩
    · exact .inl h
    · exact .inr ⟨i,off,h,hc1,by omega⟩) hv
   rw[hc1]at k3 k4
   rw[k1]at h1
   have e1:ad0=⟨g,oo,none⟩:=by injection h1 with e1;injection e1 with e1;exact e1.symm
   subst e1
   have hst:=run_storeCells_at P g (oo+(i*size τ+off)) e' (a.eval y).cells.toList 0 arr w k2 (by rw[Nat.add_zero];exact k3) hy.one
   simp only[Nat.add_zero]at hst
   have hsz':(a.eval y).cells.size=size ti.ty:=by rw[←Array.length_toList,hy.length,hl]
   have hrun:(execOp a.eval o).run P w=.ok .skip (w.setRow g (X3Y arr (oo+(i*size τ+off)) (a.eval y).cells.toList)):=by
    have hx':a.eval x=.pointer (some ⟨g,oo+(i*size τ+off),none⟩):=by rw[hx,h3,add_lit]
    simp[execOp,ho,Instr.storeAt,Instr.sureAddr,hx',storeVar,X2e hT ht,hsz',X3Y]
    simp only[Array.length_toList,List.append_assoc]at hst
    rw[hsz']at hst
    simp[hst]
   have hgo:=hn undef σ' M (w.setRow g (X3Y arr (oo+(i*size τ+off)) (a.eval y).cells.toList))
   rw[hdn]at hgo
   unfold Oper.wp
   rw[hrun]
   show next (a.put o.dst undef) _
   rw[hdn]
   refine hgo ?_
   show Sim P base M0 ios σ' M _ a (Eff.apply _ none st)
   unfold Eff.apply
   simp only[X2j,List.nil_append]
   exact k4
 · cases hset
end Go.Proofs.Ytakllifahpfmpaa.Bv
namespace Go.Proofs.Ytakllifahpfmpaa.Bv
variable {P:Program} {base:World} {M0:Mem} {ios:Ios} {σ:Sg} {M:Mem} {w:World} {a:Act} {st:St} {tab:Tab} {o:Oper} {next:Act→World→Prop} {Q:Exit→Act→World→Prop}
theorem Sim.bump(hS:Sim P base M0 ios σ M w a st){e0:TypeId}{τ:Ty}{l:List (El τ)}{r ver:Nat}{z:Bool}(hr:look r st.rows=some (.hot e0 τ l ver none z))(hv:noVers st [(r,.hot e0 τ l (ver+1) none z)]=true):
 Sim P base M0 ios σ M w a {st with rows:=X07 [(r,.hot e0 τ l (ver+1) none z)] [] st.rows}:=by
 have hok:=hS.hotAt hr
 have hrh:X0t r st.rows:=⟨e0,τ,l,ver,none,z,hr⟩
 have hlk:∀r' rv,look r' [(r,X0f.hot e0 τ l (ver+1) none z)]=some rv→r'=r∧rv=.hot e0 τ l (ver+1) none z:=fun r' rv hh=>by
  rw[X01]at hh
  split at hh
  · rename_i e1;cases hh;exact⟨e1.symm,rfl⟩
  · cases hh
 have hls:∀r',(look r' [(r,X0f.hot e0 τ l (ver+1) none z)]).isSome=true→r'=r:=fun r' hh=>by
  obtain⟨rv,hrv⟩:=Option.isSome_iff_exists.1 hh
  exact(hlk r' rv hrv).1
 refine hS.step (S:=[]) ?_ hv
 exact {
  sbox:=rfl
  srow:=rfl
  sfoot:=fun r' hn=>⟨rfl,rfl⟩
  size:=Nat.le_refl _
  os:=rfl
  tape:=rfl
  output:=rfl
  keep:=fun k hk hn=>rfl
  touched:=fun x hx=>(by cases hx)
  updOk:=fun r' rv hh=>by
   obtain⟨rfl,rfl⟩:=hlk r' rv hh
   exact⟨by simp,hrh,_,_,_,_,_,_,rfl,hok⟩
  foot:=fun r' hh x hx=>by
   have e1:=hls r' hh;subst e1
   exact⟨hS.hot.lt r' hrh x hx,.inr ⟨r',hrh,hx,.inr hh⟩⟩
  apart:=fun r1 r2 h1 h2 hne=>absurd ((hls r1 h1).trans (hls r2 h2).symm) hne}
theorem XfD(σ:Sg):X1D σ []=[]:=rfl
theorem Sim.putRange(hS:Sim P base M0 ios σ M w a st){e0:TypeId}{τ:Ty}{l m:List (El τ)}{r ver lo:Nat}{z:Bool}(hr:look r st.rows=some (.hot e0 τ l ver none z)){us:List Value}(hu:X0u w us (X09 τ m) [])(hp:0<size τ)(h0:0<List.length m)(hlo:lo+List.length m≤List.length l)(hv:noVers st [(r,.hot e0 τ (l.take lo++(m++l.drop (lo+List.length m))) (ver+1) none z)]=true):
 ∃g oo cap arr e',σ.row r=.slice (some ⟨g,oo,none⟩) (List.length l) cap∧w.heap[g]?=some (.cells arr e' (0,0))∧oo+lo*size τ+us.length≤arr.size∧
  ∃σ',Sim P base M0 ios σ' M (w.setRow g (X3Y arr (oo+lo*size τ) us)) a {st with rows:=X07 [(r,.hot e0 τ (l.take lo++(m++l.drop (lo+List.length m))) (ver+1) none z)] [] st.rows}:=by
 have hc:X09 τ l=X09 τ (l.take lo)++(X09 τ ((l.drop lo).take (List.length m))++X09 τ (l.drop (lo+List.length m))):=by
  rw[←X15,←X15,←List.drop_drop,List.take_append_drop,List.take_append_drop]
 have hl2:(X09 τ ((l.drop lo).take (List.length m))).length=List.length m*size τ:=by rw[X0I,List.length_take,List.length_drop,Nat.min_eq_left (by omega)]
 have hc1:(X09 τ (l.take lo)).length=lo*size τ:=by rw[X0I,List.length_take,Nat.min_eq_left (by omega)]
 obtain⟨g,oo,cap,arr,e',k1,k2,k3,σ',k4⟩:=hS.putRow (ks:=[]) hr (by rw[XfD];exact hu) rfl (by simp) (by simp) hc (by rw[hl2,X0I]) (by rw[hl2];exact Nat.mul_pos h0 hp) (by rw[X15,X15]) (by simp;omega) (.inl rfl) hv
 rw[hc1]at k3 k4
 exact⟨g,oo,cap,arr,e',k1,k2,k3,σ',k4⟩
def XfI(σ:Sg)(τ:Ty)(r lo hi:Nat)(n:Nat)(v:Value):Prop:=Xa7 τ (σ.row r) lo hi v∨(v=σ.row r∧lo=0∧hi=n)
theorem XfI.slice{r lo hi:Nat}{τ:Ty}{l:List (El τ)}{v:Value}{e:TypeId}{z:Bool}(h:XfI σ τ r lo hi (List.length l) v)(hok:X5C P base σ w r e τ l none z):∃ad c,v=.slice ad (hi - lo) c∧(0<hi - lo→∀g oo cap,σ.row r=.slice (some ⟨g,oo,none⟩) (List.length l) cap→ad=some ⟨g,oo+lo*size τ,none⟩):=by
 obtain⟨ax,cx,hlen⟩:=hok.len
 rcases h with⟨ad,n,cap,ad',h1,h2,h3,h4,h5⟩ | ⟨rfl,rfl,rfl⟩
 · have hn:n=List.length l:=by rw[hlen]at h1;injection h1 with _ e2;exact e2.symm
   subst hn
   refine⟨_,_,h4,fun h0 g oo cap' e1=>?_⟩
   rw[e1]at h1
   injection h1 with e2 _ e3
   subst e2;subst e3
   have hc:List.length l≤cap':=by
    have h6:0<List.length l:=by omega
    have ho:=hok.own
    rcases X21.cases ho with⟨_,_,e6,_⟩ | ⟨_,_,cap2,_,_,_,e7,_,_,e8,_⟩
    · rw[e6]at h6;simp at h6
    · rw[e1]at e7;injection e7 with _ _ e9;omega
   rw[h5 (by omega)]
   simp only[Option.map_some,add_lit]
 · refine⟨ax,cx,by rw[hlen,Nat.sub_zero],fun h0 g oo cap' e1=>?_⟩
   rw[hlen]at e1
   injection e1 with e2 _ _
   rw[e2,Nat.zero_mul,Nat.add_zero]
theorem Xhs(hT:X0q P tab)(hS:Sim P base M0 ios σ M w a st){tx ty e e0:TypeId}{te:TI}{τ:Ty}{fs:List (Nat×TypeId)}{b:Nat}{x y:Operand}{l l2:List (El τ)}{r ver lo hi:Nat}{z:Bool}(ho:o.op=.call {callee:=.builtin .copy,args:=#[x,y],argTypes:=#[tx,ty]})(hd:∀d,o.dst=some d→d<st.nt)(h:look tx tab=some ⟨.list τ,false,fs,e,b⟩)(he:look e tab=some te)(hte:te.ty=τ)(hp:0<size τ)(hf:X5Y τ=true)(hr:look r st.rows=some (.hot e0 τ l ver none z))(hx:XfI σ τ r lo hi (List.length l) (a.eval x))(hy:RdC (X8F w) (.list τ) [a.eval y] l2)(h1:lo≤hi)(h2:hi≤List.length l)(hv:noVers st [(r,.hot e0 τ (l.take lo++(l2.take (min (hi - lo) (List.length l2))++l.drop (lo+min (hi - lo) (List.length l2)))) (ver+1) none z)]=true)(hn:X2Y P base M0 ios a o st {sv:=.val false [.int .i64 (min (hi - lo) (List.length l2):Nat)],urow:=[(r,.hot e0 τ (l.take lo++(l2.take (min (hi - lo) (List.length l2))++l.drop (lo+min (hi - lo) (List.length l2)))) (ver+1) none z)]} next):o.wp P a w next Q:=by
 have hok:=hS.hotAt hr
 obtain⟨adx,cx,ex,hx2⟩:=hx.slice hok
 obtain⟨ady,cy,css,ey,hly,hmy,hcs,hay⟩:=RdC.cells hy
 have hu:=X23 hT h
 have hsz:=X2e hT he w
 rw[hte]at hsz
 have hfin:∀(σ':Sg) (w':World),Sim P base M0 ios σ' M w' a {st with rows:=X07 [(r,.hot e0 τ (l.take lo++(l2.take (min (hi - lo) (List.length l2))++l.drop (lo+min (hi - lo) (List.length l2)))) (ver+1) none z)] [] st.rows}→
  (Builtin.copy_ #[tx,ty] o.type #[a.eval x,a.eval y]).run P w=.ok (goInt ((min (hi - lo) (List.length l2):Nat):Int)) w'→o.wp P a w next Q:=fun σ' w' hS' hrun=>by
  refine X0i (v:=goInt ((min (hi - lo) (List.length l2):Nat):Int)) (w':=w') (by simp only[execOp,ho,resolve];simp[invoke,builtin,hrun]) ?_
  refine hn _ σ' M w' ?_
  have:=hS'.putO (o:=o) (sv:=.val false [.int .i64 (min (hi - lo) (List.length l2):Nat)]) hd (X3h _ _)
  cases hdst:o.dst with
  | none=>
    rw[hdst]at this
    simp only[Eff.apply,X2j,X3p,List.nil_append]at this ⊢
    exact this
  | some d=>
    rw[hdst]at this
    rw[X4U]at this ⊢
    simp only[X3p,List.nil_append]at this ⊢
    exact this
 by_cases hk:min (hi - lo) (List.length l2)=0
 · have e1:l.take lo++(l2.take (min (hi - lo) (List.length l2))++l.drop (lo+min (hi - lo) (List.length l2)))=l:=by rw[hk];simp
   refine hfin σ w ?_ ?_
   · rw[e1]at hv ⊢;exact hS.bump hr hv
   · have hcl:(Builtin.firstCells (size τ) 0 (.slice ady (List.length l2) cy)).run P w=.ok #[] w:=by cases ady<;>simp[Builtin.firstCells,loadCells,loadCellsFrom]
     have hmin:Nat.min (List.length l2) (hi - lo)=0:=by rw[Nat.min_comm]at hk;exact hk
     rw[ex,ey,hk]
     cases adx<;>simp[Builtin.copy_,run_underlying hu,Builtin.lenOf,hsz,hmin,hcl,storeCells]
 · rcases hay with rfl | ⟨ay,rfl,hay⟩
   · simp at hk
   · have hml:List.length (l2.take (min (hi - lo) (List.length l2)))=min (hi - lo) (List.length l2):=by rw[List.length_take];omega
     have hus:=(X0y.take (Xak hcs) (min (hi - lo) (List.length l2)*size τ))
     rw[←X8A]at hus
     have hown:=X0u.plain (w:=w) hus (X7A hf _)
     have hul:(css.flatten.take (min (hi - lo) (List.length l2)*size τ)).length=min (hi - lo) (List.length l2)*size τ:=by rw[hus.length,X0I,hml]
     have hput:=hS.putRange (lo:=lo) (m:=l2.take (min (hi - lo) (List.length l2))) hr hown hp (by omega) (by omega) (by rw[hml];exact hv)
     rw[hml]at hput
     obtain⟨g,oo,cap,arr,e',k1,k2,k3,σ',k4⟩:=hput
     refine hfin σ' _ k4 ?_
     have hadx:=hx2 (by omega) g oo cap k1
     have hst:=run_storeCells_at P g (oo+lo*size τ) e' _ 0 arr w k2 (by rw[Nat.add_zero];exact k3) hown.one
     simp only[Nat.add_zero]at hst
     have hfc:=run_firstCells_some (P:=P) w (size τ) (min (hi - lo) (List.length l2)) ay (List.length l2) cy _ hul (fun j v hj=>by
      rw[List.getElem?_take]at hj
      split at hj
      · exact hay j v hj
      · cases hj)
     have hmin:Nat.min (List.length l2) (hi - lo)=min (hi - lo) (List.length l2):=Nat.min_comm _ _
     rw[ex,ey,hadx]
     simp only[Builtin.copy_,List.getElem?_toArray,List.getElem?_cons_zero,List.getElem?_cons_succ,Sem.run_bind,run_underlying hu,Builtin.lenOf,Sem.run_pure,Result.andThen_ok,hsz,hmin,hfc]
     simp only[hst,Result.andThen_ok,Sem.run_pure,X3Y]
theorem Xac{z:Array Value}{τ:Ty}(hz:z.toList=zeros τ)(hp:0<size τ)(n:Nat):(Builtin.zeroCells z n).toList=(List.replicate n (zeros τ)).flatten:=by
 have h1:=X4W (zeros τ) (by rw[X0l];exact hp) n
 rw[←h1,X0l]
 unfold Builtin.zeroCells
 have hs:z.size=size τ:=by rw[←Array.length_toList,hz,X0l]
 rw[Array.toList_map,Array.toList_range,hs]
 apply List.map_congr_left
 intro j _
 rw[←hz]
 simp only[getElem!_def,Array.getElem?_toList]
theorem Xgv(hT:X0q P tab)(hS:Sim P base M0 ios σ M w a st){tx e e0:TypeId}{te:TI}{τ:Ty}{fs:List (Nat×TypeId)}{b:Nat}{x:Operand}{l:List (El τ)}{r ver lo hi:Nat}{z:Bool}(ho:o.op=.call {callee:=.builtin .clear,args:=#[x],argTypes:=#[tx]})(hd:∀d,o.dst=some d→d<st.nt)(h:look tx tab=some ⟨.list τ,false,fs,e,b⟩)(he:look e tab=some te)(hte:te.ty=τ)(hp:0<size τ)(hr:look r st.rows=some (.hot e0 τ l ver none z))(hx:XfI σ τ r lo hi (List.length l) (a.eval x))(h1:lo≤hi)(h2:hi≤List.length l)(hv:noVers st [(r,.hot e0 τ (l.take lo++(List.replicate (hi - lo) (dfl τ)++l.drop hi)) (ver+1) none z)]=true)(hn:X2Y P base M0 ios a o st {sv:=.tup [],urow:=[(r,.hot e0 τ (l.take lo++(List.replicate (hi - lo) (dfl τ)++l.drop hi)) (ver+1) none z)]} next):o.wp P a w next Q:=by
 have hok:=hS.hotAt hr
 obtain⟨adx,cx,ex,hx2⟩:=hx.slice hok
 have hu:=X23 hT h
 obtain⟨zz,hz,hzc⟩:=Xce hT he w
 rw[hte]at hzc
 have hfin:∀(σ':Sg) (w':World),Sim P base M0 ios σ' M w' a {st with rows:=X07 [(r,.hot e0 τ (l.take lo++(List.replicate (hi - lo) (dfl τ)++l.drop hi)) (ver+1) none z)] [] st.rows}→
  (Builtin.clear_ #[tx] o.type #[a.eval x]).run P w=.ok (.tuple #[]) w'→o.wp P a w next Q:=fun σ' w' hS' hrun=>by
  refine X0i (v:=.tuple #[]) (w':=w') (by simp only[execOp,ho,resolve];simp[invoke,builtin,hrun]) ?_
  refine hn _ σ' M w' ?_
  have:=hS'.putO (o:=o) (v:=.tuple #[]) (sv:=.tup []) hd ⟨#[],rfl,.nil⟩
  cases hdst:o.dst with
  | none=>
    rw[hdst]at this
    simp only[Eff.apply,X2j,X3p,List.nil_append]at this ⊢
    exact this
  | some d=>
    rw[hdst]at this
    rw[X4U]at this ⊢
    simp only[X3p,List.nil_append]at this ⊢
    exact this
 by_cases hk:hi - lo=0
 · have e1:l.take lo++(List.replicate (hi - lo) (dfl τ)++l.drop hi)=l:=by rw[hk,show hi=lo by omega];simp
   refine hfin σ w ?_ ?_
   · rw[e1]at hv ⊢;exact hS.bump hr hv
   · rw[ex,hk]
     cases adx<;>simp[Builtin.clear_,run_underlying hu]
 · have hml:List.length (List.replicate (hi - lo) (dfl τ))=hi - lo:=List.length_replicate
   have hown:=X0u.zerosN (w:=w) τ (hi - lo)
   have e2:lo+List.length (List.replicate (hi - lo) (dfl τ))=hi:=by rw[hml];omega
   have hput:=hS.putRange (lo:=lo) (m:=List.replicate (hi - lo) (dfl τ)) hr hown hp (by omega) (by omega) (by rw[e2];exact hv)
   rw[e2]at hput
   obtain⟨g,oo,cap,arr,e',k1,k2,k3,σ',k4⟩:=hput
   refine hfin σ' _ k4 ?_
   have hadx:=hx2 (by omega) g oo cap k1
   have hst:=run_storeCells_at P g (oo+lo*size τ) e' _ 0 arr w k2 (by rw[Nat.add_zero];exact k3) hown.one
   simp only[Nat.add_zero]at hst
   have hzl:=Xac hzc hp (hi - lo)
   rw[X8V]at hzl
   rw[ex,hadx]
   obtain⟨n,hn'⟩:∃n,hi - lo=n+1:=⟨hi - lo - 1,by omega⟩
   rw[hn']at hzl hst ⊢
   simp only[Builtin.clear_,List.getElem?_toArray,List.getElem?_cons_zero,Sem.run_bind,run_underlying hu,Sem.run_pure,Result.andThen_ok,hz,hzl]
   simp only[hst,Result.andThen_ok,Sem.run_pure,X3Y]
theorem Xeo(hT:X0q P tab)(hS:Sim P base M0 ios σ M w a st){t e:TypeId}{τ0 τ:Ty}{fs:List (Nat×TypeId)}{b:Nat}{x:Operand}{l:List (El τ)}{N:Mem}(ho:o.op=.call {callee:=.builtin .len,args:=#[x],argTypes:=#[t]})(hd:∀d,o.dst=some d→d<st.nt)(h:look t tab=some ⟨.list τ0,false,fs,e,b⟩)(hx:RdC N (.list τ) [a.eval x] l)(hn:X2Y P base M0 ios a o st {sv:=.val false [.int .i64 (List.length l)]} next):o.wp P a w next Q:=by
 obtain⟨ad,cap,e1,_,_,_⟩:=hx
 have hv:a.eval x=.slice ad (List.length l) cap:=List.head_eq_of_cons_eq e1
 refine X0i (v:=.int .i64 (List.length l)) (w':=w) ?_ (hn _ σ M w (hS.putO hd (X3h _ _)))
 have hu:=X23 hT h
 simp[execOp,ho,resolve,invoke,builtin,Builtin.len_,hv,run_underlying hu,goInt]
theorem XdX(ns:List Int):∀(acc:ByteArray),ns.foldl (fun r n=>r.push (UInt8.ofNat n.toNat)) acc=acc++⟨(ns.map fun n=>UInt8.ofNat n.toNat).toArray⟩:=by
 induction ns with
 | nil=>intro acc;apply ByteArray.ext;simp[ByteArray.data_append]
 | cons n ns ih=>
   intro acc
   rw[List.foldl_cons,ih]
   apply ByteArray.ext
   simp[ByteArray.data_append,ByteArray.data_push]
theorem XdZ{N:Mem}{css:List (List Value)}{l:List Int}(h:X0y (RdC N (.int .u8)) css l):css.flatten=l.map (Value.int .u8):=by
 induction h with
 | nil=>rfl
 | @cons c n cs ns hx hr ih=>
   have:c=[.int .u8 n]:=hx
   rw[this,List.flatten_cons,ih];rfl
theorem Xai(hT:X0q P tab)(hS:Sim P base M0 ios σ M w a st){s t e e':TypeId}{fs fs':List (Nat×TypeId)}{b b':Nat}{te:TI}{x:Operand}{l:List Int}(ho:o.op=.convert s t x)(hd:∀d,o.dst=some d→d<st.nt)(h:look t tab=some ⟨.str,false,fs,e,b⟩)(hs:look s tab=some ⟨.list (.int .u8),false,fs',e',b'⟩)(he:look e' tab=some te)(hte:te.ty=.int .u8)(hta:te.agg=false)(hx:RdC (X8F w) (.list (.int .u8)) [a.eval x] l)(hn:X2Y P base M0 ios a o st {sv:=.val false [.str (l.map fun n=>UInt8.ofNat n.toNat)]} next):o.wp P a w next Q:=by
 obtain⟨ad,cap,css,ev,hl,hm,hc,had⟩:=RdC.cells (τ:=.int .u8) hx
 have hcs:css.flatten=l.map (Value.int .u8):=XdZ hc
 have hue:P.underlying e'=some (.int .u8):=by have:=(hT e' te he).und;rw[hta,hte]at this;simpa using this
 have hconv:=run_convert_bytes_string (P:=P) w s t e' ad l.length cap (X23 hT hs) hue (Xcv hT h)
 refine X0i (v:=.string ⟨(l.map fun n=>UInt8.ofNat n.toNat).toArray⟩) (w':=w) ?_ (hn _ σ M w (hS.putO hd (Xd3 _)))
 simp only[execOp,ho,ev]
 rw[Sem.run_bind,hconv]
 rcases had with h0 | ⟨a0,e0,h2⟩
 · subst h0
   cases ad with
   | none=>simp[Conv.bytesToString];rfl
   | some a1=>
     have:=run_bytesToString (P:=P) w a1 0 cap [] (by simp[loadCells,loadCellsFrom])
     simp only[List.length_nil]
     rw[this];rfl
 · subst e0
   have hload:(loadCells a0 l.length).run P w=.ok (l.map (Value.int .u8)).toArray w:=by
    have:=run_loadCells_list (P:=P) w a0 (l.map (Value.int .u8)) (fun j u hu=>h2 j u (by rw[hcs];exact hu))
    simpa using this
   rw[run_bytesToString w a0 l.length cap l hload,XdX]
   simp only[Result.andThen_ok,Sem.run_pure]
   congr 3
theorem X3L(hT:X0q P tab){t:TypeId}{ti te:TI}{τ0 τ:Ty}{x:Operand}{lo hi:Option Operand}{len cap:Nat}{ad:Option Addr}{n m:Option Int}{kl kh:IntKind}(ho:o.op=.slice t x lo hi none)(h:look t tab=some ti)(hty:ti.ty=.list τ0)(hg:ti.agg=false)(he:look ti.elem tab=some te)(hs:size te.ty=size τ)(hv:a.eval x=.slice ad len cap)(hlo:lo.map a.eval=n.map (Value.int kl))(hhi:hi.map a.eval=m.map (Value.int kh))(h0:∀j,n=some j→0≤j)(h1:∀j,m=some j→0≤j)(h2:X5j n≤X56 len m)(h3:X56 len m≤len)(hl:len≤cap):
 (execOp a.eval o).run P w=.ok (.value (.slice (if cap=X5j n then ad else ad.map (·.add (X5j n*size τ))) (X56 len m - X5j n) (cap - X5j n))) w:=by
 have hu:P.underlying t=some (.slice ti.elem):=by have:=(hT t ti h).und;rw[hg,hty]at this;simpa using this
 have hb:=X7U (P:=P) (isS:=true) (len:=len) (cap:=cap) n m kl kh h0 h1 h2 (by omega) w
 have hsz:=X2e hT he w
 rw[hs]at hsz
 rw[←hlo,←hhi]at hb
 simp[execOp,ho,hv,Instr.sliceAt,run_underlying hu,Instr.slice,hb,hsz]
theorem X43{τ:Ty}{l:List (El τ)}{n m:Option Int}(h:∀p∈(X20 τ l n m).1,p):
 (∀j,n=some j→0≤j)∧(∀j,m=some j→0≤j)∧X5j n≤X56 (List.length l) m∧X56 (List.length l) m≤List.length l∧(X20 τ l n m).2.1=(l.take (X56 (List.length l) m)).drop (X5j n)∧(X20 τ l n m).2.2=(X5j n,X56 (List.length l) m):=by
 cases n with
 | none=>cases m with
   | none=>exact⟨fun _ e=>(by cases e),fun _ e=>(by cases e),by simp[X5j],by simp[X56],by simp[X20,X5j,X56],rfl⟩
   | some j=>
     have k1:0≤j:=h _ (by simp[X20])
     have k2:j≤(List.length l:Int):=h _ (by simp[X20])
     refine⟨fun _ e=>(by cases e),fun _ e=>(by cases e;exact k1),by simp[X5j],(by simp only[X56];omega),by simp[X20,X5j,X56],rfl⟩
 | some i=>cases m with
   | none=>
     have k1:0≤i:=h _ (by simp[X20])
     have k2:i≤(List.length l:Int):=h _ (by simp[X20])
     exact⟨fun _ e=>(by cases e;exact k1),fun _ e=>(by cases e),(by simp only[X5j,X56];omega),by simp[X56],by simp[X20,X5j,X56],rfl⟩
   | some j=>
     have k1:0≤i:=h _ (by simp[X20])
     have k2:i≤j:=h _ (by simp[X20])
     have k3:j≤(List.length l:Int):=h _ (by simp[X20])
     exact⟨fun _ e=>(by cases e;exact k1),fun _ e=>(by cases e;omega),(by simp only[X5j,X56];omega),(by simp only[X56];omega),rfl,rfl⟩
theorem X21.cap{t:Ty}{v:Value}{l:List (El t)}{bs:List Nat}(h:X21 w t v l bs){ad:Option Addr}{n cap:Nat}(hv:v=.slice ad n cap):n=List.length l∧n≤cap:=by
 obtain⟨ad',cap',e,h1,_⟩:=h.slice
 rw[hv]at e
 injection e with _ e2 e3
 exact⟨e2,by omega⟩
structure Dec (w:World) (τ:Ty) (v:Value) (L:List (El τ)) (i off:Nat) (t:Ty) (l0:List (El t)) (u:Value) (fo pre mid post:List Nat):Prop where
 foot:fo=pre++(mid++post)
 own:X21 w t u l0 mid
 back:∀(w':World) (l':List (El t)) (mid':List Nat) (L':List (El τ)),(∀g∈pre++post,w'.heap[g]?=w.heap[g]?)→X21 w' t u l' mid'→X8K τ L i off [.lst t l' none]=some L'→X21 w' τ v L' (pre++(mid'++post))
 hole:∀(w':World) (L':List (El τ)),(∀g∈pre++post,w'.heap[g]?=w.heap[g]?)→X8K τ L i off [.lst t [] none]=some L'→Xih w' τ v L' (some (i,off)) (pre++post)
theorem Xao{τ:Ty}{v:Value}{L:List (El τ)}{i off:Nat}{t:Ty}{l0:List (El t)}{u:Value}{fo:List Nat}(h:X21 w τ v L fo)(hnd:fo.Nodup)(hf:(flat τ (L.getD i (dfl τ)))[off]?=some (.lst t l0 none)){ad:Addr}(hat:atOf τ v i off ad)(hu:w.cell? ad=some u):
 ∃p:List Nat×List Nat×List Nat,Dec w τ v L i off t l0 u fo p.1 p.2.1 p.2.2:=by
 obtain⟨ad0,n,cap0,hv,hi0,rfl⟩:=hat
 rcases h.cases with⟨_,rfl,rfl,_⟩ | ⟨g,o,cap,arr,e,b,rfl,rfl,hg,h2,h3,h4,h5⟩
 · injection hv with _ e2 _
   omega
 · injection hv with e1 e2 e3
   injection e1 with e1
   subst e1;subst e2
   have hi:i<L.length:=hi0
   have hoff:off<size τ:=by rw[←X0V τ (L.getD i (dfl τ))];exact(List.getElem?_eq_some_iff.1 hf).1
   have hfx:(flat τ (L.getD i (dfl τ))).length=size τ:=X0V _ _
   have e1:flat τ (L.getD i (dfl τ))=(flat τ (L.getD i (dfl τ))).take off++([.lst t l0 none]++(flat τ (L.getD i (dfl τ))).drop (off+1)):=by
    obtain⟨hlt,hge⟩:=List.getElem?_eq_some_iff.1 hf
    conv=>lhs;rw[←List.take_append_drop off (flat τ (L.getD i (dfl τ)))]
    rw[List.drop_eq_getElem_cons hlt,hge]
    rfl
   have hc:X09 τ L=(X09 τ (L.take i)++(flat τ (L.getD i (dfl τ))).take off)++([.lst t l0 none]++((flat τ (L.getD i (dfl τ))).drop (off+1)++X09 τ (L.drop (i+1)))):=by
    rw[X8c hi]
    conv=>lhs;rw[e1]
    simp only[List.append_assoc]
   have hc1:(X09 τ (L.take i)++(flat τ (L.getD i (dfl τ))).take off).length=i*size τ+off:=by
    rw[List.length_append,X0I,List.length_take,List.length_take,hfx,Nat.min_eq_left (by omega),Nat.min_eq_left (by omega)]
   obtain⟨v1,v2,v3,b1,b2,b3,ev,rfl,k1,k2,k3⟩:=X7o h5 hc
   have hl1:=k1.length
   have hl2:=k2.length
   obtain⟨u',rfl⟩:∃u',v2=[u']:=by
    match v2,hl2 with
    | [x],_=>exact⟨x,rfl⟩
   have hu':u'=u:=by
    have hx:((arr.toList.drop o).take (L.length*size τ))[i*size τ+off]?=some u':=by
     rw[ev,←hc1,←hl1,List.getElem?_append_right (Nat.le_refl _),Nat.sub_self]
     rfl
    rw[List.getElem?_take]at hx
    split at hx
    · have:=X5M hg hx
      rw[X8x]at hu
      rw[this]at hu
      injection hu
    · cases hx
   subst hu'
   have hL':∀(l':List (El t)) (L':List (El τ)),X8K τ L i off [.lst t l' none]=some L'→X09 τ L'=(X09 τ (L.take i)++(flat τ (L.getD i (dfl τ))).take off)++([.lst t l' none]++((flat τ (L.getD i (dfl τ))).drop (off+1)++X09 τ (L.drop (i+1))))∧L'.length=L.length∧(flat τ (L'.getD i (dfl τ)))[off]?=some (.lst t l' none):=fun l' L' hset=>by
    unfold X8K at hset
    split at hset
    · rename_i y' hy'
      cases hset
      have hfl:=X27 _ _ _ _ hy'
      simp only[List.map_nil,List.append_nil,List.map_append,List.map_take,List.map_drop,X90,List.map_cons,unT]at hfl
      refine⟨?_,by simp,?_⟩
      · rw[X9W hi,←hfl]
        simp only[List.append_assoc,List.length_cons,List.length_nil]
      · have e3:(L.set i y').getD i (dfl τ)=y':=by
         rw[List.getD_eq_getElem?_getD,List.getElem?_set_self hi];rfl
        rw[e3,←hfl]
        have e4:((flat τ (L.getD i (dfl τ))).take off).length=off:=by rw[List.length_take,hfx];omega
        rw[List.getElem?_append_right (by omega),e4,Nat.sub_self]
        rfl
    · cases hset
   refine⟨(g::b1,b2,b3),by simp,k2,fun w' l' mid' L' hfr hown hset=>?_,fun w' L' hfr hset=>?_⟩
   · obtain⟨hL1,hL2,_⟩:=hL' l' L' hset
     have hw1:w'.heap[g]?=w.heap[g]?:=hfr g (by simp)
     rw[←hL2]at h2 ev ⊢
     have:=X21.mk (l:=L') (t:=τ) (g:=g) (o:=o) (cap:=cap) (arr:=arr) (e:=e) (b1:=b1++(mid'++b3)) (by rw[hw1];exact hg) h2 h3 h4 (by
      rw[ev,hL1]
      exact(k1.frame fun x hx=>hfr x (by simp[hx])).append (X0u.append hown (k3.frame fun x hx=>hfr x (by simp[hx]))))
     simpa using this
   · obtain⟨hL1,hL2,hL3⟩:=hL' [] L' hset
     have hw1:w'.heap[g]?=some (.cells arr e (0,0)):=by rw[hfr g (by simp)];exact hg
     have hmul:(i+1)*size τ≤L.length*size τ:=Nat.mul_le_mul_right _ (by omega)
     have hmul2:L.length*size τ≤cap*size τ:=Nat.mul_le_mul_right _ h2
     rw[Nat.add_mul,Nat.one_mul]at hmul
     have hpos:o+i*size τ+off<arr.size:=by omega
     refine⟨g,o,cap,arr,e,by rw[hL2],hw1,by rw[hL2];exact hi,hoff,hpos,⟨t,hL3⟩,?_⟩
     have hlp:=Xdz arr.toList [Value.slice none 0 0] v1 [u'] v3 o _ ev rfl (by have hsz:arr.toList.length=arr.size:=Array.length_toList;omega)
     have hset':(arr.setIfInBounds (o+i*size τ+off) (.slice none 0 0)).toList=arr.toList.take (o+v1.length)++[Value.slice none 0 0]++arr.toList.drop (o+v1.length+[Value.slice none 0 0].length):=by
      rw[Array.toList_setIfInBounds,hl1,hc1,←Nat.add_assoc]
      rw[List.set_eq_take_append_cons_drop,if_pos (by rw[Array.length_toList];exact hpos)]
      simp
     have hnd':=hnd
     simp only[List.nodup_cons,List.mem_append,not_or]at hnd'
     have hfr2:∀(vs:List Value) (cs:List X00) (bb:List Nat),X0u w vs cs bb→(∀x∈bb,x≠g∧w'.heap[x]?=w.heap[x]?)→X0u (w'.setRow g (arr.setIfInBounds (o+i*size τ+off) (.slice none 0 0))) vs cs bb:=fun vs cs bb hh hx=>
      hh.frame fun x hxb=>by rw[setRow_other w' g x _ (hx x hxb).1];exact(hx x hxb).2
     rw[←hL2]at h2 ev hlp ⊢
     have:=X21.mk (w:=w'.setRow g (arr.setIfInBounds (o+i*size τ+off) (.slice none 0 0))) (l:=L') (t:=τ) (g:=g) (o:=o) (cap:=cap) (arr:=arr.setIfInBounds (o+i*size τ+off) (.slice none 0 0)) (e:=e) (b1:=b1++([]++b3)) (X7M w' g arr _ e hw1) h2 h3 (by rw[Array.size_setIfInBounds];exact h4) (by
      rw[hset',hlp,hL1]
      exact(hfr2 _ _ _ k1 fun x hx=>⟨fun e1=>hnd'.1.1 (e1▸hx),hfr x (by simp[hx])⟩).append (X0u.append (X0u.emp .nil) (hfr2 _ _ _ k3 fun x hx=>⟨fun e1=>hnd'.1.2.2 (e1▸hx),hfr x (by simp[hx])⟩)))
     simpa using this
open Classical in
noncomputable def X3g(w:World)(σ:Sg)(rows:List (Nat×X0f))(cs:List X00)(vs:List Value)(j:Nat):List Nat×List Nat×List Nat:=
 match cs[j]?,vs[j]? with
 | some (.bor t l r _ (some (i,off))),some u=>match look r rows with
   | some (.hot _ τ L _ _ _)=>if h:∃p:List Nat×List Nat×List Nat,Dec w τ (σ.row r) L i off t l u (σ.foot r) p.1 p.2.1 p.2.2 then Classical.choose h else([],[],[])
   | _=>([],[],[])
 | _,_=>([],[],[])
theorem Xal(hS:Sim P base M0 ios σ M w a st){rows:List (Nat×X0f)}(hr:∀r rv,look r rows=some rv→look r st.rows=some rv){cs:List X00}{vs:List Value}{j r ver i off:Nat}{t:Ty}{l:List (El t)}{u:Value}{e:TypeId}{τ:Ty}{L:List (El τ)}{z:Bool}(hc:cs[j]?=some (.bor t l r ver (some (i,off))))(hu:vs[j]?=some u)(hl:look r rows=some (.hot e τ L ver none z))(hrd:RdT σ st.rows M u (.bor t l r ver (some (i,off)))):
 Dec w τ (σ.row r) L i off t l u (σ.foot r) (X3g w σ rows cs vs j).1 (X3g w σ rows cs vs j).2.1 (X3g w σ rows cs vs j).2.2:=by
 have hl':=hr r _ hl
 have hok:=hS.hotAt hl'
 obtain⟨_,hp⟩:=hrd.2 _ hl' rfl
 obtain⟨q1,ad,q2,q3⟩:=hp i off rfl
 have hex:=Xao hok.own hok.nodup q1 q2 (hok.mem _ _ q3).1
 have he:X3g w σ rows cs vs j=Classical.choose hex:=by
  unfold X3g
  simp only[hc,hu,hl]
  exact dif_pos hex
 rw[he]
 exact Classical.choose_spec hex
noncomputable def X4G(w:World)(σ:Sg)(rows:List (Nat×X0f))(cs:List X00)(vs:List Value)(j:Nat):List Nat:=match cs[j]? with
 | some (.own _ r)=>σ.foot r
 | some (.bor _ _ _ _ (some _))=>(X3g w σ rows cs vs j).2.1
 | _=>[]
theorem XdB(hS:Sim P base M0 ios σ M w a st){w':World}{d:Nat}{ks:List Nat}{S:List Nat}{e:TypeId}{t:Ty}{l l0:List (El t)}{v u:Value}{fo:List Nat}(hd:o.dst=some d)(hdn:d<st.nt){r ver i off:Nat}{e0:TypeId}{τ:Ty}{L L':List (El τ)}{z:Bool}{pre mid post:List Nat}(hl:look r st.rows=some (.hot e0 τ L ver none z))(hD:Dec w τ (σ.row r) L i off t l0 u (σ.foot r) pre mid post)(hset:X8K τ L i off [.lst t [] none]=some L')(hrk:r∉ks)(hsz:w.heap.size≤w'.heap.size)(hos:w'.os=w.os)(htp:w'.tape=w.tape)(hou:w'.output=w.output)(hkeep:∀k,k<w.heap.size→k∉S→w'.heap[k]?=w.heap[k]?)(hS':∀g∈S,g∈mid)(hfo:∀g∈fo,g<w'.heap.size∧(w.heap.size≤g∨g∈mid∨∃r∈ks,X0t r st.rows∧g∈σ.foot r))(hi:∃i,P.info? e=some i∧i.size=size t)(hp:0<size t)(ho:X21 w' t v l fo)(hn:fo.Nodup)(hfr:noTag (X0e d 0) st=true)(hnv:noVers st [(r,.hot e0 τ L' (ver+1) (some (i,off)) false)]=true)(hgo:X2Y P base M0 ios a o st {sv:=.val false [.own t (X0e d 0)],nrow:=[(X0e d 0,.hot e t l 0 none false)],krow:=ks,urow:=[(r,.hot e0 τ L' (ver+1) (some (i,off)) false)]} next):next (a.put o.dst v) w':=by
 have hok:=hS.hotAt hl
 have hrh:X0t r st.rows:=⟨_,_,_,_,_,_,hl⟩
 have hnd:=hok.nodup
 rw[hD.foot]at hnd
 obtain⟨n1,n2,n3⟩:=List.nodup_append.1 hnd
 obtain⟨n4,n5,n6⟩:=List.nodup_append.1 n2
 have hsub:∀g∈pre++post,g∈σ.foot r:=fun g hg=>by
  rw[hD.foot]
  rcases List.mem_append.1 hg with h | h
  · exact List.mem_append.2 (.inl h)
  · exact List.mem_append.2 (.inr (List.mem_append.2 (.inr h)))
 have hmid:∀g∈mid,g∈σ.foot r∧g∉pre++post:=fun g hg=>by
  refine⟨by rw[hD.foot];exact List.mem_append.2 (.inr (List.mem_append.2 (.inl hg))),fun h=>?_⟩
  rcases List.mem_append.1 h with h | h
  · exact n3 g h g (List.mem_append.2 (.inl hg)) rfl
  · exact n6 g hg g h rfl
 have hlk:∀r' rv,look r' [(r,X0f.hot e0 τ L' (ver+1) (some (i,off)) false)]=some rv→r'=r∧rv=.hot e0 τ L' (ver+1) (some (i,off)) false:=fun r' rv hh=>by
  rw[X01]at hh
  split at hh
  · rename_i e1;cases hh;exact⟨e1.symm,rfl⟩
  · cases hh
 have hls:∀r',(look r' [(r,X0f.hot e0 τ L' (ver+1) (some (i,off)) false)]).isSome=true→r'=r:=fun r' hh=>by
  obtain⟨rv,hrv⟩:=Option.isSome_iff_exists.1 hh
  exact(hlk r' rv hrv).1
 have hself:(look r [(r,X0f.hot e0 τ L' (ver+1) (some (i,off)) false)]).isSome=true:=by simp[look]
 have h1:Sim P base M0 ios {σ with foot:=fun k=>if k=r then pre++post else σ.foot k,mem:=fun k=>if k=r then fun _=>none else σ.mem k} M w' a {st with rows:=X07 [(r,.hot e0 τ L' (ver+1) (some (i,off)) false)] ks st.rows}:=by
  refine hS.step (S:=S) ?_ hnv
  exact {
   sbox:=rfl
   srow:=rfl
   sfoot:=fun r' hn=>by
    have:r'≠r:=fun e1=>by subst e1;simp[look]at hn
    simp[this]
   size:=hsz
   os:=hos
   tape:=htp
   output:=hou
   keep:=hkeep
   touched:=fun x hx=>⟨r,hrh,(hmid x (hS' x hx)).1,.inr hself⟩
   updOk:=fun r' rv hh=>by
    obtain⟨rfl,rfl⟩:=hlk r' rv hh
    refine⟨hrk,hrh,_,_,_,_,_,_,rfl,?_⟩
    exact {
     info:=hok.info
     pos:=hok.pos
     own:=by
      simp only[if_pos]
      exact hD.hole w' L' (fun g hg=>hkeep g (hS.hot.lt r' hrh g (hsub g hg)) fun hgS=>(hmid g (hS' g hgS)).2 hg) hset
     nodup:=by
      simp only[if_pos]
      rw[List.nodup_append]
      exact⟨n1,n5,fun x hx y hy e1=>n3 x hx y (List.mem_append.2 (.inr hy)) e1⟩
     mem:=fun ad u hu=>by simp only[if_pos]at hu;cases hu
     full:=fun h=>by cases h
     z:=fun h=>by cases h}
   foot:=fun r' hh x hx=>by
    have e1:=hls r' hh;subst e1
    simp only[if_pos]at hx
    exact⟨Nat.lt_of_lt_of_le (hS.hot.lt r' hrh x (hsub x hx)) hsz,.inr ⟨r',hrh,hsub x hx,.inr hself⟩⟩
   apart:=fun r1 r2 h1 h2 hne=>absurd ((hls r1 h1).trans (hls r2 h2).symm) hne}
 have hhs:∀r',X0t r' (X07 [(r,.hot e0 τ L' (ver+1) (some (i,off)) false)] ks st.rows)→r'∉ks∧X0t r' st.rows:=fun r' ⟨e',t',l',ver',hole',z',hl'⟩=>by
  obtain⟨k0,k1⟩:=X1y hl'
  refine⟨k0,?_⟩
  rcases k1 with k1 | ⟨_,k1⟩
  · obtain⟨rfl,_⟩:=hlk r' _ k1;exact hrh
  · exact⟨_,_,_,_,_,_,k1⟩
 have h2:=h1.newHot (r:=X0e d 0) (e:=e) (t:=t) (l:=l) (hole:=none) (z:=false) (v:=v) (fo:=fo) (m:=X6p w' t v fo) (by
  have h0:=X5X hfr
  unfold noTag at hfr ⊢
  rw[Bool.and_eq_true,Bool.and_eq_true]at hfr ⊢
  refine⟨hfr.1,?_⟩
  have:look (X0e d 0) (X07 [(r,.hot e0 τ L' (ver+1) (some (i,off)) false)] ks st.rows)=none:=by
   cases hlq:look (X0e d 0) (X07 [(r,.hot e0 τ L' (ver+1) (some (i,off)) false)] ks st.rows) with
   | none=>rfl
   | some rv=>
     obtain⟨_,k1⟩:=X1y hlq
     rcases k1 with k1 | ⟨_,k1⟩
     · obtain⟨e1,_⟩:=hlk _ _ k1;rw[e1,hl]at h0;cases h0
     · rw[h0]at k1;cases k1
  simp[this]) (X5V d 0) (fun g hg=>by
  obtain⟨k1,k2⟩:=hfo g hg
  have inside:∀r0,X0t r0 st.rows→g∈σ.foot r0→(∀r',X0t r' (X07 [(r,.hot e0 τ L' (ver+1) (some (i,off)) false)] ks st.rows)→g∉(if r'=r then pre++post else σ.foot r'))→Xbx base ios {σ with foot:=fun k=>if k=r then pre++post else σ.foot k,mem:=fun k=>if k=r then fun _=>none else σ.mem k} M w' {st with rows:=X07 [(r,.hot e0 τ L' (ver+1) (some (i,off)) false)] ks st.rows} g:=fun r0 q1 q2 q3=>{
   base:=hS.hot.base r0 q1 g q2
   noM:=hS.hot.noM r0 q1 g q2
   noBox:=fun k hk' e=>hS.hot.noBox r0 q1 k hk' (by rw[show σ.box k=g from e];exact q2)
   noRow:=fun r' hr' e=>by
    obtain⟨e',he'⟩:=Option.isSome_iff_exists.1 hr'
    obtain⟨rv,m1,m2⟩:=X2B he'
    obtain⟨_,m3⟩:=X1y m1
    rcases m3 with m3 | ⟨_,m3⟩
    · obtain⟨_,rfl⟩:=hlk r' rv m3;cases m2
    · exact hS.hot.noRow r0 q1 r' (by rw[show st.row r'=some e' from X3T m3 m2];rfl) g e q2
   noHot:=q3
   lt:=k1}
  rcases k2 with k2 | k2 | ⟨r0,m1,m2,m3⟩
  · exact {
     base:=.inl (Nat.le_trans hS.fr.size k2)
     noM:=fun ad had=>by
      cases hm:M ad with
      | none=>rfl
      | some v=>have:=hS.mem_lt hm;omega
     noBox:=fun k hk e1=>by have:=hS.box_lt hk;have e2:σ.box k=g:=e1;omega
     noRow:=fun r' hr' e1=>by
      obtain⟨e',he'⟩:=Option.isSome_iff_exists.1 hr'
      obtain⟨rv,m1,m2⟩:=X2B he'
      obtain⟨_,m3⟩:=X1y m1
      rcases m3 with m3 | ⟨_,m3⟩
      · obtain⟨_,rfl⟩:=hlk r' rv m3;cases m2
      · have:=(hS.row_lt (by rw[show st.row r'=some e' from X3T m3 m2];rfl) e1).2;omega
     noHot:=fun r' hh hg'=>by
      have hg2:g∈(if r'=r then pre++post else σ.foot r'):=hg'
      split at hg2
      · have:=hS.hot.lt r hrh g (hsub g hg2);omega
      · have:=hS.hot.lt r' (hhs r' hh).2 g hg2;omega
     lt:=k1}
  · refine inside r hrh (hmid g k2).1 fun r' hh hg'=>?_
    split at hg'
    · exact(hmid g k2).2 hg'
    · rename_i hne
      exact hS.hot.apart r r' hrh (hhs r' hh).2 (Ne.symm hne) g (hmid g k2).1 hg'
  · refine inside r0 m2 m3 fun r' hh hg'=>?_
    have hne0:r0≠r:=fun e1=>hrk (e1▸m1)
    split at hg'
    · exact hS.hot.apart r0 r m2 hrh hne0 g m3 (hsub g hg')
    · exact hS.hot.apart r0 r' m2 (hhs r' hh).2 (fun e1=>(hhs r' hh).1 (e1▸m1)) g m3 hg') (X9E (σ:={σ with foot:=fun k=>if k=r then pre++post else σ.foot k,mem:=fun k=>if k=r then fun _=>none else σ.mem k}) hi hp ho hn (fun h=>by cases h))
 have h3:=h2.put (d:=d) (v:=v) (sv:=.val false [.own t (X0e d 0)]) hdn (X0h.mk1 ⟨by
  obtain⟨ad,cap,e1,_⟩:=ho.slice;rw[e1];rfl,by intro _;simp⟩ (by obtain⟨ad,cap,e1,_⟩:=ho.slice;rw[e1];rfl))
 unfold X2Y at hgo
 rw[hd]at hgo ⊢
 refine hgo v (Sg.hot {σ with foot:=fun k=>if k=r then pre++post else σ.foot k,mem:=fun k=>if k=r then fun _=>none else σ.mem k} w' (X0e d 0) t v fo) M w' ?_
 rw[X4U]
 exact h3
theorem Xba(hT:X0q P tab)(hS:Sim P base M0 ios σ M w a st){t e:TypeId}{te:TI}{τ:Ty}{fs:List (Nat×TypeId)}{b d:Nat}{x y:Operand}{l l2:List (El τ)}{ks b':List Nat}(ho:o.op=.call {callee:=.builtin .append,args:=#[x,y],argTypes:=#[t,t]})(hd:o.dst=some d)(hdn:d<st.nt)(h:look t tab=some ⟨.list τ,false,fs,e,b⟩)(he:look e tab=some te)(hte:te.ty=τ)(hpos:0<size τ){r ver i off:Nat}{e0:TypeId}{τ0:Ty}{L L':List (El τ0)}{z:Bool}{pre mid post:List Nat}(hl:look r st.rows=some (.hot e0 τ0 L ver none z))(hD:Dec w τ0 (σ.row r) L i off τ l (a.eval x) (σ.foot r) pre mid post)(hset:X8K τ0 L i off [.lst τ [] none]=some L')(hrk:r∉ks)(hy:X6u w τ (a.eval y) l2 b')(hb':b'.Nodup)(hk2:∀g∈b',∃r∈ks,X0t r st.rows∧g∈σ.foot r)(hlen:List.length l+List.length l2≤9223372036854775807)(hby:(List.length l+List.length l2)*te.bytes≤140737488355328)(hfr:noTag (X0e d 0) st=true)(hnv:noVers st [(r,.hot e0 τ0 L' (ver+1) (some (i,off)) false)]=true)(hn:X2Y P base M0 ios a o st {sv:=.val false [.own τ (X0e d 0)],nrow:=[(X0e d 0,.hot e τ (l++l2) 0 none false)],krow:=ks,urow:=[(r,.hot e0 τ0 L' (ver+1) (some (i,off)) false)]} next):o.wp P a w next Q:=by
 obtain⟨i',z',hi,hs,hib,hz,hzc⟩:=(hT e te he).info
 rw[hte]at hs hzc
 have hzl:z'.cells.size=i'.size:=by rw[←Array.length_toList,hzc,X0l,hs]
 have hue:=X23 hT h
 have hx:=hD.own
 have hok:=hS.hotAt hl
 have hrh:X0t r st.rows:=⟨_,_,_,_,_,_,hl⟩
 have hnd:=hok.nodup
 rw[hD.foot]at hnd
 have hbs:mid.Nodup:=(List.nodup_append.1 (List.nodup_append.1 hnd).2.1).1
 have hmid:∀g∈mid,g∈σ.foot r:=fun g hg=>by rw[hD.foot];exact List.mem_append.2 (.inr (List.mem_append.2 (.inl hg)))
 have hdis:∀g∈b',g∉mid:=fun g hg hg'=>by
  obtain⟨r0,m1,m2,m3⟩:=hk2 g hg
  exact hS.hot.apart r0 r m2 hrh (fun e1=>hrk (e1▸m1)) g m3 (hmid g hg')
 cases hy with
 | @none ad c hv hl2 hb=>
   subst hl2;subst hb
   obtain⟨ax,cx,ex,hlx,hmx⟩:=hx.slice
   have hrun:=X4Z (P:=P) (w:=w) t o.type e i' hue hi ax (List.length l) cx c hlx ad
   refine X0i (v:=a.eval x) (w':=w) (by simp only[execOp,ho,resolve];simp[invoke,builtin,hv,ex,hrun]) ?_
   exact XdB (S:=[]) (fo:=mid) (l:=l++[]) (e:=e) (t:=τ) (ks:=ks) hS hd hdn hl hD hset hrk (Nat.le_refl _) rfl rfl rfl (fun _ _ _=>rfl) (fun g hg=>by cases hg) (fun g hg=>⟨X0u.lt hx g hg,.inr (.inl hg)⟩) ⟨i',hi,hs⟩ hpos (by simpa using hx) hbs hfr hnv hn
 | @some ad c us hv h0 hus hu=>
   obtain⟨v',w',bs',hrun,hw',hst⟩:=X77 (P:=P) (ty:=o.type) hue hi hz hzl hs hpos hx hbs (a:=ad) (c:=c) hus hu hb' hdis h0 (by simp only[maxLen];omega) (by rw[hib];exact hby)
   refine X0i (v:=v') (w':=w') (by simp only[execOp,ho,resolve];simp[invoke,builtin,hv,hrun]) ?_
   refine XdB (S:=mid) (fo:=bs') (l:=l++l2) (e:=e) (t:=τ) (ks:=ks) hS hd hdn hl hD hset hrk hst.size hst.os hst.tape hst.output hst.keep (fun g hg=>hg) (fun g hg=>⟨X0u.lt hw' g hg,?_⟩) ⟨i',hi,hs⟩ hpos hw' hst.nodup hfr hnv hn
   rcases hst.sub g hg with h1 | h1 | h1
   · exact .inr (.inl h1)
   · exact .inr (.inr (hk2 g h1))
   · exact .inl h1
end Go.Proofs.Ytakllifahpfmpaa.Bv
namespace Go.Proofs.Ytakllifahpfmpaa.Bv
variable {P:Program} {base:World} {M0:Mem} {ios:Ios} {σ:Sg} {M:Mem} {w:World} {a:Act} {st:St} {tab:Tab} {o:Oper} {next:Act→World→Prop} {Q:Exit→Act→World→Prop}
def Xc7(M:Mem)(n:Nat)(v:Value)(cs:List Value):Prop:=cs.length=n∧∃ad,v=.pointer (some ad)∧∀j u,cs[j]?=some u→M (ad.add j)=some u
inductive X7k (M:Mem):List Nat→List Value→List Value→Prop
 | nil:X7k M [] [] []
 | cons {n v c ns vs cs}:Xc7 M n v c→X7k M ns vs cs→X7k M (n::ns) (v::vs) (c++cs)
def XaW(M:Mem)(n:Nat)(v:Value)(cs:List Value):Prop:=∃ad u,v=.pointer (some ad)∧M ad=some u∧Xc7 M n u cs
def XhL(M:Mem)(b:Option Nat)(f:Nat)(m:Bool)(v:Value):Prop:=match b,m with
 | some g,false=>v=.func (.func f) #[.pointer (some ⟨g,0,none⟩)] #[]
 | some g,true=>∃ad,v=.func (.func f) #[] #[.pointer (some ad)]∧M ad=some (.pointer (some ⟨g,0,none⟩))
 | none,_=>False
def Xh3(M:Mem)(b:Option Nat):Sh→Value→List Value→Prop
 | .one,v,cs=>cs=[v]∧X4l v=false
 | .agg n,v,cs=>cs.length=n∧∃vs:Array Value,v=.agg vs∧vs.toList=cs
 | .ptr n,v,cs=>Xc7 M n v cs
 | .clo f ns,v,cs=>∃vb,v=.func (.func f) #[] vb∧X7k M ns vb.toList cs
 | .pptr n,v,cs=>XaW M n v cs
 | .clop f n,v,cs=>∃u,v=.func (.func f) #[] #[u]∧XaW M n u cs
 | .self f m,v,cs=>cs=[]∧XhL M b f m v
 | .pself,v,cs=>cs=[]∧∃g ad,b=some g∧v=.pointer (some ad)∧M ad=some (.pointer (some ⟨g,0,none⟩))
inductive X6M (M:Mem) (b:Option Nat):List Sh→List Value→List Value→Prop
 | nil:X6M M b [] [] []
 | cons {sh v c shs vs cs}:Xh3 M b sh v c→X6M M b shs vs cs→X6M M b (sh::shs) (v::vs) (c++cs)
inductive X9g:List (Bool×Nat)→List Value→List Value→Prop
 | nil:X9g [] [] []
 | cons {ag n v shs vs cs}:v.cells.size=n→X4l v=ag→X9g shs vs cs→X9g ((ag,n)::shs) (v::vs) (v.cells.toList++cs)
def X7F:List Value→Value
 | [v]=>v
 | l=>.tuple l.toArray
structure X7i (w:World) (M:Mem) (own:List (Nat×TypeId)) (vs:List Value) (cs:List X00) (F:Nat→List Nat):Prop where
 len:vs.length=cs.length
 rd:∀j u c,look j own=none→vs[j]?=some u→cs[j]?=some c→RdV M u c
 own:∀j e,look j own=some e→∃u t l,vs[j]?=some u∧cs[j]?=some (.lst t l none)∧X21 w t u l (F j)
def X3Z(own:List (Nat×TypeId))(F:Nat→List Nat):List Nat:=(own.map fun p=>F p.1).flatten
theorem X5k{own:List (Nat×TypeId)}{F:Nat→List Nat}{g:Nat}:g∈X3Z own F↔∃p∈own,g∈F p.1:=by
 unfold X3Z
 simp only[List.mem_flatten,List.mem_map]
 constructor
 · rintro⟨l,⟨p,hp,rfl⟩,hg⟩;exact⟨p,hp,hg⟩
 · rintro⟨p,hp,hg⟩;exact⟨_,⟨p,hp,rfl⟩,hg⟩
def Xbf(P:Program)(own:List (Nat×TypeId))(cs:List X00):Prop:=∀j e,look j own=some e→∀t l tag,cs[j]?=some (.lst t l tag)→(∃i,P.info? e=some i∧i.size=size t)∧0<size t
structure Back (w:World) (own:List (Nat×TypeId)) (vs:List Value) (bs:List X00) (F:Nat→List Nat):Prop where
 len:bs.length=own.length
 own:∀(k j:Nat) (e:TypeId),own[k]?=some (j,e)→∃(u:Value) (t:Ty) (l:List (El t)),vs[j]?=some u∧bs[k]?=some (X00.lst t l none)∧X21 w t u l (F j)
structure Ret (P:Program) (con:Con) (w:World) (M:Mem) (blk:List Nat) (b:Option Nat) (cs:List Value) (i:El con.I) (x:El con.A) (e:Ending) (w':World):Prop where
 ex:∃rs y cs' M' FR FI FB nb,e=.returned (X7F rs)∧con.Post i x y∧M.le M'∧(∀ad v,M' ad=some v→w'.cell? ad=some v)∧Fr blk w w'∧(∀ad,ad.block<w.heap.size→ad.block∉blk→M ad=none→M' ad=none)∧
  (match con.newR with
    | false=>nb=[]∧X9g con.shR rs cs'
    | true=>∃g arr E,nb=[g]∧rs=[.pointer (some ⟨g,0,none⟩)]∧w'.heap[g]?=some (.cells arr E (0,0))∧arr.toList=cs'∧w.heap.size≤g)∧
  X7i w' M' con.fresh cs' (flat con.R y.1) FR∧
  (∀g,b=some g→∃arr E,w'.heap[g]?=some (.cells arr E (0,0))∧X7i w' M' con.ownI arr.toList (flat con.I y.2.1) FI∧∀ad,ad.block=g→M' ad=none)∧
  Back w' con.backA cs (flat con.B y.2.2) FB∧
  Xbf P con.fresh (flat con.R y.1)∧Xbf P con.ownI (flat con.I y.2.1)∧
  (nb++(X3Z con.fresh FR++((match b with | some _=>X3Z con.ownI FI | none=>[])++X3Z con.backA FB))).Nodup∧
  ∀g∈nb++(X3Z con.fresh FR++((match b with | some _=>X3Z con.ownI FI | none=>[])++X3Z con.backA FB)),(w.heap.size≤g∨(g∈blk∧b≠some g))∧g<w'.heap.size∧∀ad,ad.block=g→M' ad=none
def X2M(con:Con)(b:Option Nat)(F FI:Nat→List Nat):List Nat:=(match b with | some g=>g::X3Z con.ownI FI | none=>[])++X3Z (con.ownA++con.backA) F
def XfQ:Bool→Option Nat→List Value
 | false,some g=>[.pointer (some ⟨g,0,none⟩)]
 | _,_=>[]
theorem Xe1(h:Bool):XfQ h none=[]:=by cases h<;>rfl
def X0z(P:Program)(n:FuncId)(con:Con):Prop:=
 ∀(w:World) (M:Mem) (vs cs:List Value) (i:El con.I) (x:El con.A) (F FI:Nat→List Nat) (b:Option Nat),(∀ad v,M ad=some v→w.cell? ad=some v)→X6M M b con.shA vs cs→
  X7i w M (con.ownA++con.backA) cs (flat con.A x) F→(con.io=b.isSome)→
  (∀g,b=some g→∃arr E,w.heap[g]?=some (.cells arr E (0,0))∧X7i w M con.ownI arr.toList (flat con.I i) FI)→
  (X2M con b F FI).Nodup→(∀g∈X2M con b F FI,∀ad,ad.block=g→M ad=none)→con.pre i x→
  Calls P n (XfQ con.hid b++vs).toArray w (Ret P con w M (X2M con b F FI) b cs i x)
end Go.Proofs.Ytakllifahpfmpaa.Bv
namespace Go.Proofs.Ytakllifahpfmpaa.Bv
variable {P:Program} {base:World} {M0:Mem} {ios:Ios} {σ:Sg} {M:Mem} {w:World} {a:Act} {st:St} {tab:Tab} {o:Oper} {next:Act→World→Prop} {Q:Exit→Act→World→Prop}
def Xa3(n:Nat):List X00:=List.replicate n .und
theorem X9h{rows:List (Nat×X0f)}{M:Mem}:∀{vs:List Value},(∀u∈vs,u.oneCell'=true)→X0y (RdT σ rows M) vs (Xa3 vs.length)
 | [],_=>.nil
 | v::vs,h=>.cons ⟨h v (by simp),trivial⟩ (X9h fun u hu=>h u (by simp[hu]))
structure XhX (P:Program) (base:World) (σ σ':Sg) (M M':Mem) (w w':World) (st:St) (upd:List (Nat×X0f)) (ks S:List Nat) (bk:Option Nat):Prop where
 le:M.le M'
 mem:∀ad v,M' ad=some v→w'.cell? ad=some v
 sbox:σ'.box=σ.box
 srow:σ'.row=σ.row
 sfoot:∀r,look r upd=none→σ'.foot r=σ.foot r∧σ'.mem r=σ.mem r
 size:w.heap.size≤w'.heap.size
 os:w'.os=w.os
 tape:w'.tape=w.tape
 output:w'.output=w.output
 keep:∀k,k<w.heap.size→k∉S→(∀b,bk=some b→k≠σ.box b)→w'.heap[k]?=w.heap[k]?
 hold:∀ad,ad.block<w.heap.size→ad.block∉S→M ad=none→M' ad=none
 touched:∀g∈S,∃r,X0t r st.rows∧g∈σ.foot r∧(r∈ks∨(look r upd).isSome=true)
 bx:∀b,bk=some b→(st.box b).isSome=true∧(∃arr E,w'.heap[σ.box b]?=some (.cells arr E (0,0))∧∀u∈arr.toList,u.oneCell'=true)
 updOk:∀r rv,look r upd=some rv→r∉ks∧X0t r st.rows∧∃e t l ver hole z,rv=.hot e t l ver hole z∧X5C P base σ' w' r e t l hole z
 foot:∀r,(look r upd).isSome=true→∀g∈σ'.foot r,g<w'.heap.size∧(∀ad,ad.block=g→M' ad=none)∧(w.heap.size≤g∨∃r0,X0t r0 st.rows∧g∈σ.foot r0∧(r0∈ks∨(look r0 upd).isSome=true))
 apart:∀r r',(look r upd).isSome=true→(look r' upd).isSome=true→r≠r'→∀g∈σ'.foot r,g∉σ'.foot r'
def X29(w':World)(σ:Sg)(bk:Option Nat)(boxes:List (Nat×List X00)):List (Nat×List X00):=match bk with
 | some b=>(b,Xa3 (match w'.heap[σ.box b]? with | some (.cells arr _ _)=>arr.toList.length | _=>0))::boxes
 | none=>boxes
theorem XdJ{w':World}{bk:Option Nat}(h:∀b,bk=some b→(st.box b).isSome=true)(k:Nat):(look k (X29 w' σ bk st.boxes)).isSome=(st.box k).isSome:=by
 cases bk with
 | none=>rfl
 | some b=>
   simp only[X29,X01]
   split
   · rename_i e;subst e;rw[h _ rfl];rfl
   · rfl
theorem Sim.stepC(h:Sim P base M0 ios σ M w a st){σ':Sg}{M':Mem}{w':World}{upd:List (Nat×X0f)}{ks S:List Nat}{bk:Option Nat}(hs:XhX P base σ σ' M M' w w' st upd ks S bk)(hv:noVers st upd=true):
 Sim P base M0 ios σ' M' w' a {st with rows:=X07 upd ks st.rows,boxes:=X29 w' σ bk st.boxes}:=by
 have hhot:∀r rv,look r upd=some rv→∃e t l ver hole z,rv=.hot e t l ver hole z:=fun r rv hr=>by
  obtain⟨_,_,e,t,l,ver,hole,z,e1,_⟩:=hs.updOk r rv hr;exact⟨e,t,l,ver,hole,z,e1⟩
 have hlook:∀r rv,look r (X07 upd ks st.rows)=some rv→r∉ks∧(look r upd=some rv∨(look r upd=none∧look r st.rows=some rv)):=fun r rv hr=>X1y hr
 have hsome:∀r,(look r (X07 upd ks st.rows)).isSome=true→(look r st.rows).isSome=true:=fun r hr=>by
  obtain⟨rv,hrv⟩:=Option.isSome_iff_exists.1 hr
  rcases(hlook r rv hrv).2 with h1 | ⟨_,h1⟩
  · obtain⟨_,⟨_,_,_,_,_,_,h2⟩,_⟩:=hs.updOk r rv h1;rw[h2];rfl
  · rw[h1];rfl
 have hcold:∀r e,X3o r (X07 upd ks st.rows)=some e→st.row r=some e:=fun r e hr=>by
  obtain⟨rv,h1,h2⟩:=X2B hr
  rcases(hlook r rv h1).2 with h3 | ⟨_,h3⟩
  · obtain⟨_,_,_,_,_,_,rfl⟩:=hhot r rv h3;cases h2
  · exact X3T h3 h2
 have hca:Carry σ st.rows M σ' (X07 upd ks st.rows) M' (fun _=>True) (Xe4 upd):=⟨hs.le,fun r _ hr=>⟨hsome r hr,by rw[hs.srow]⟩,fun r ver rv' _ ho hl hv'=>by
  rcases(hlook r rv' hl).2 with h1 | ⟨h0,h1⟩
  · exact absurd hv' (ho rv' h1)
  · exact⟨rv',h1,hv',by rw[(hs.sfoot r h0).2];exact Mem.le_refl _,.inl rfl⟩⟩
 have hbs:∀k,(look k (X29 w' σ bk st.boxes)).isSome=(st.box k).isSome:=XdJ fun b hb=>(hs.bx b hb).1
 have boxS:∀k,(st.box k).isSome=true→σ.box k∉S:=fun k hk hg=>by
  obtain⟨r,k1,k2,_⟩:=hs.touched _ hg
  exact h.hot.noBox r k1 k hk k2
 have hM'box:∀k,(st.box k).isSome=true→∀ad,ad.block=σ.box k→M' ad=none:=fun k hk ad had=>hs.hold ad (by rw[had];exact h.box_lt hk) (by rw[had];exact boxS k hk) (h.boxM k hk ad had)
 exact {
  mem:=hs.mem
  nt:=h.nt
  slots:=fun i=>(h.slots i).carry hca (XeP hhot hv i) (fun k _=>⟨by rw[hs.sbox],fun hk=>by rw[hbs];exact hk⟩)
  boxes:=fun k cs hk=>by
   have hk':look k (X29 w' σ bk st.boxes)=some cs:=hk
   rw[hs.sbox]
   cases hbk:bk with
   | none=>
     rw[hbk]at hk'
     obtain⟨arr,E,h1,h2⟩:=h.boxes k cs hk'
     refine⟨arr,E,?_,X5e hca h2 (X93 hhot hv hk')⟩
     rw[hs.keep _ (Array.getElem?_eq_some_iff.1 h1).1 (boxS k (by show(look k st.boxes).isSome=true;have:look k st.boxes=some cs:=hk';rw[this];rfl)) (fun b hb=>by rw[hbk]at hb;cases hb)]
     exact h1
   | some b=>
     rw[hbk]at hk'
     simp only[X29,X01]at hk'
     obtain⟨hb1,arr,E,hb2,hb3⟩:=hs.bx b hbk
     by_cases e:b=k
     · subst e
       rw[if_pos rfl,hb2]at hk'
       cases hk'
       exact⟨arr,E,hb2,X9h hb3⟩
     · rw[if_neg e]at hk'
       obtain⟨arr,E,h1,h2⟩:=h.boxes k cs hk'
       have hks:(st.box k).isSome=true:=by show(look k st.boxes).isSome=true;rw[hk'];rfl
       refine⟨arr,E,?_,X5e hca h2 (X93 hhot hv hk')⟩
       rw[hs.keep _ (Array.getElem?_eq_some_iff.1 h1).1 (boxS k hks) (fun b' hb'=>by rw[hbk]at hb';cases hb';exact fun e2=>e (h.boxInj b k hb1 hks e2.symm))]
       exact h1
  boxM:=fun k hk ad had=>by
   have hk':(st.box k).isSome=true:=by rw[←hbs k];exact hk
   exact hM'box k hk' ad (by rw[had,hs.sbox])
  boxInj:=fun k k' h1 h2 he=>h.boxInj k k' (by rw[←hbs k];exact h1) (by rw[←hbs k'];exact h2) (by rw[hs.sbox]at he;exact he)
  boxBase:=fun k hk=>by rw[hs.sbox];exact h.boxBase k (by rw[←hbs k];exact hk)
  rows:=fun r e hr=>by
   have hr':=hcold r e hr
   obtain⟨n,xs,i,hi,ho,hm⟩:=(h.rows r e hr').own
   rw[hs.srow]
   have nS:∀g,(σ.row r).ownBlock=some g→g∉S:=fun g hg hgs=>by
    obtain⟨r0,k1,k2,_⟩:=hs.touched _ hgs
    exact h.hot.noRow r0 k1 r (by rw[hr'];rfl) g hg k2
   refine⟨⟨n,xs,i,hi,ho.at fun g hg=>hs.keep g (ho.lt g hg).2 (nS g hg) (fun b hb e=>h.rowBox r b (by rw[hr'];rfl) (hs.bx b hb).1 (by rw[hg,e])),fun g hg ad had hoff=>hs.hold ad (by rw[had];exact(ho.lt g hg).2) (by rw[had];exact nS g hg) (hm g hg ad had hoff)⟩⟩
  rowBox:=fun r k hr hk=>by
   obtain⟨e,he⟩:=Option.isSome_iff_exists.1 hr
   rw[hs.srow,hs.sbox]
   exact h.rowBox r k (by rw[hcold r e he];rfl) (by rw[←hbs k];exact hk)
  rowInj:=fun r r' h1 h2 hne=>by
   obtain⟨e,he⟩:=Option.isSome_iff_exists.1 h1
   obtain⟨e',he'⟩:=Option.isSome_iff_exists.1 h2
   rw[hs.srow]
   exact h.rowInj r r' (by rw[hcold r e he];rfl) (by rw[hcold r' e' he'];rfl) hne
  hot:=by
   have cases':∀r,X0t r (X07 upd ks st.rows)→r∉ks∧((look r upd).isSome=true∨(look r upd=none∧X0t r st.rows∧σ'.foot r=σ.foot r∧σ'.mem r=σ.mem r)):=fun r ⟨e,t,l,ver,hole,z,hl⟩=>by
    obtain⟨h0,h1⟩:=hlook r _ hl
    refine⟨h0,?_⟩
    rcases h1 with h1 | ⟨h1,h2⟩
    · exact .inl (by rw[h1];rfl)
    · exact .inr ⟨h1,⟨e,t,l,ver,hole,z,h2⟩,hs.sfoot r h1⟩
   have oldS:∀r,X0t r st.rows→r∉ks→look r upd=none→∀g∈σ.foot r,g∉S:=fun r hr hk hu g hg hgs=>by
    obtain⟨r0,m1,m2,m3⟩:=hs.touched g hgs
    refine h.hot.apart r r0 hr m1 (fun e2=>?_) g hg m2
    subst e2
    rcases m3 with m3 | m3
    · exact hk m3
    · rw[hu]at m3;cases m3
   have from':∀r,X0t r (X07 upd ks st.rows)→∀g∈σ'.foot r,g<w'.heap.size∧(w.heap.size≤g∨∃r0,X0t r0 st.rows∧g∈σ.foot r0∧(r0=r∨r0∈ks∨(look r0 upd).isSome=true)):=fun r hr g hg=>by
    rcases(cases' r hr).2 with h1 | ⟨_,h1,h2,_⟩
    · obtain⟨k1,_,k2⟩:=hs.foot r h1 g hg
      refine⟨k1,k2.imp id fun ⟨r0,m1,m2,m3⟩=>⟨r0,m1,m2,.inr m3⟩⟩
    · rw[h2]at hg
      exact⟨Nat.lt_of_lt_of_le (h.hot.lt r h1 g hg) hs.size,.inr ⟨r,h1,hg,.inl rfl⟩⟩
   exact {
    ok:=fun r e t l ver hole z hl=>by
     obtain⟨h0,h1⟩:=hlook r _ hl
     rcases h1 with h1 | ⟨h1,h2⟩
     · obtain⟨_,_,e',t',l',ver',hole',z',he,hok⟩:=hs.updOk r _ h1
       cases he;exact hok
     · obtain⟨k1,k2⟩:=hs.sfoot r h1
       have hh:X0t r st.rows:=⟨e,t,l,ver,hole,z,h2⟩
       exact(h.hot.ok r e t l ver hole z h2).frame (by rw[hs.srow]) k1 k2 fun g hg=>hs.keep g (h.hot.lt r hh g hg) (oldS r hh h0 h1 g hg) (fun b hb e=>h.hot.noBox r hh b (hs.bx b hb).1 (e▸hg))
    base:=fun r hr g hg=>by
     obtain⟨_,h1⟩:=from' r hr g hg
     rcases h1 with h1 | ⟨r0,m1,m2,_⟩
     · exact .inl (Nat.le_trans h.fr.size h1)
     · exact h.hot.base r0 m1 g m2
    noM:=fun r hr g hg ad had=>by
     obtain⟨hk,h1⟩:=cases' r hr
     rcases h1 with h1 | ⟨hu,h1,h2,_⟩
     · exact(hs.foot r h1 g hg).2.1 ad had
     · rw[h2]at hg
       exact hs.hold ad (by rw[had];exact h.hot.lt r h1 g hg) (by rw[had];exact oldS r h1 hk hu g hg) (h.hot.noM r h1 g hg ad had)
    noBox:=fun r hr k hk hg=>by
     have hk':(st.box k).isSome=true:=by rw[←hbs k];exact hk
     rw[hs.sbox]at hg
     obtain⟨_,h1⟩:=from' r hr _ hg
     rcases h1 with h1 | ⟨r0,m1,m2,_⟩
     · have:=h.box_lt hk';omega
     · exact h.hot.noBox r0 m1 k hk' m2
    noRow:=fun r hr r' hr' g hg hgr=>by
     obtain⟨e,he⟩:=Option.isSome_iff_exists.1 hr'
     have hr2:=hcold r' e he
     rw[hs.srow]at hg
     obtain⟨_,h1⟩:=from' r hr g hgr
     rcases h1 with h1 | ⟨r0,m1,m2,_⟩
     · have:=(h.row_lt (by rw[hr2];rfl) hg).2;omega
     · exact h.hot.noRow r0 m1 r' (by rw[hr2];rfl) g hg m2
    apart:=fun r r' h1 h2 hne g hg hg'=>by
     obtain⟨n1,c1⟩:=cases' r h1
     obtain⟨n2,c2⟩:=cases' r' h2
     rcases c1 with c1 | ⟨u1,c1,f1,_⟩<;>rcases c2 with c2 | ⟨u2,c2,f2,_⟩
     · exact hs.apart r r' c1 c2 hne g hg hg'
     · rw[f2]at hg'
       rcases(hs.foot r c1 g hg).2.2 with h3 | ⟨r0,m1,m2,m3⟩
       · have:=h.hot.lt r' c2 g hg';omega
       · refine h.hot.apart r0 r' m1 c2 (fun e=>?_) g m2 hg'
         subst e
         rcases m3 with m3 | m3
         · exact n2 m3
         · rw[u2]at m3;cases m3
     · rw[f1]at hg
       rcases(hs.foot r' c2 g hg').2.2 with h3 | ⟨r0,m1,m2,m3⟩
       · have:=h.hot.lt r c1 g hg;omega
       · refine h.hot.apart r0 r m1 c1 (fun e=>?_) g m2 hg
         subst e
         rcases m3 with m3 | m3
         · exact n1 m3
         · rw[u1]at m3;cases m3
     · rw[f1]at hg;rw[f2]at hg'
       exact h.hot.apart r r' c1 c2 hne g hg hg'
    lt:=fun r hr g hg=>(from' r hr g hg).1
    frz:=fun r e t l ver z hl=>by
     rcases(hlook r _ hl).2 with h1 | ⟨h0,h1⟩
     · obtain⟨_,_,_,_,_,_,e1⟩:=hhot r _ h1;cases e1
     · rw[hs.srow,(hs.sfoot r h0).2]
       obtain⟨k1,k2⟩:=h.hot.frz r e t l ver z h1
       exact⟨k1.mono hs.le,Mem.le_trans k2 hs.le⟩}
  fr:=by
   refine⟨hs.os.trans h.fr.os,hs.tape.trans h.fr.tape,hs.output.trans h.fr.output,Nat.le_trans h.fr.size hs.size,fun k hk hn=>?_⟩
   rw[hs.keep k (Nat.lt_of_lt_of_le hk h.fr.size) (fun hg=>?_) (fun b hb e=>?_)]
   · exact h.fr.block k hk hn
   · obtain⟨r,k1,k2,_⟩:=hs.touched k hg
     rcases h.hot.base r k1 k k2 with h2 | h2
     · omega
     · exact hn h2
   · rcases h.boxBase b (hs.bx b hb).1 with h2 | h2
     · omega
     · rw[e]at hn;exact hn h2
  defers:=h.defers
  old:=fun ad h1 h2 h3=>hs.hold ad (Nat.lt_of_lt_of_le h1 h.fr.size) (fun hg=>by
   obtain⟨r,k1,k2,_⟩:=hs.touched _ hg
   rcases h.hot.base r k1 _ k2 with h4 | h4
   · omega
   · exact h2 h4) (h.old ad h1 h2 h3)
  le:=Mem.le_trans h.le hs.le
  pin:=fun b hb=>by rw[hs.sbox];exact h.pin b hb
  pins:=fun p hp hsm=>by rw[hs.srow];exact h.pins p hp (hsome _ hsm)
  olds:=h.olds}
theorem Sim.setBox(h:Sim P base M0 ios σ M w a st){k:Nat}{ds:List X00}(hk:(st.box k).isSome=true)(hd:∀arr E,w.heap[σ.box k]?=some (.cells arr E (0,0))→X0y (RdT σ st.rows M) arr.toList ds):Sim P base M0 ios σ M w a {st with boxes:=(k,ds)::st.boxes}:=by
 have hbs:∀k',(look k' ((k,ds)::st.boxes)).isSome=true→(st.box k').isSome=true:=fun k' hk'=>by
  rw[X01]at hk'
  split at hk'
  · rename_i e;subst e;exact hk
  · exact hk'
 exact {h with
  slots:=fun i=>X17.carry (boxes:=st.boxes) (Carry.same σ st.rows (Mem.le_refl M)) (h.slots i) (X5r _) (fun k' _=>⟨rfl,fun hs=>by rw[X01];split<;>first | rfl | exact hs⟩)
  boxes:=fun k' cs hk'=>by
   have hk2:look k' ((k,ds)::st.boxes)=some cs:=hk'
   rw[X01]at hk2
   split at hk2
   · rename_i e;subst e;cases hk2
     obtain⟨cs0,hcs0⟩:=Option.isSome_iff_exists.1 hk
     obtain⟨arr,E,h1,_⟩:=h.boxes k cs0 hcs0
     exact⟨arr,E,h1,hd arr E h1⟩
   · exact h.boxes k' cs hk2
  boxM:=fun k' hk'=>h.boxM k' (hbs k' hk')
  boxInj:=fun k1 k2 h1 h2=>h.boxInj k1 k2 (hbs k1 h1) (hbs k2 h2)
  boxBase:=fun k' hk'=>h.boxBase k' (hbs k' hk')
  rowBox:=fun r k' hr hk'=>h.rowBox r k' hr (hbs k' hk')
  hot:=h.hot.still rfl fun k' hk'=>hbs k' hk'}
theorem Sim.adoptBox(h:Sim P base M0 ios σ M w a st){d g:Nat}(hd0:d≠0)(hnb:noBox d st=true){arr:Array Value}{E:TypeId}{cs:List X00}(hg:w.heap[g]?=some (.cells arr E (0,0)))(hf:Xbx base ios σ M w st g)(hcs:X0y (RdT σ st.rows M) arr.toList cs):Sim P base M0 ios {σ with box:=fun k=>if k=d then g else σ.box k} M w a {st with boxes:=(d,cs)::st.boxes}:=by
 have hca:Carry σ st.rows M {σ with box:=fun k=>if k=d then g else σ.box k} st.rows M (fun _=>True) (fun _ _=>True):=⟨Mem.le_refl M,fun r _ hr=>⟨hr,rfl⟩,fun r ver rv' _ _ hl hv=>⟨rv',hl,hv,Mem.le_refl _,.inl rfl⟩⟩
 exact {h with
  slots:=fun i=>by
   refine X17.carry (boxes:=st.boxes) hca (h.slots i) (X5r _) ?_
   intro k hk
   have hne:=Xdn hnb hk
   refine⟨by simp[hne],fun hk=>?_⟩
   rw[X01,if_neg (Ne.symm hne)];exact hk
  boxes:=fun k cs' hk=>by
   simp only[St.box,X01]at hk
   by_cases he:d=k
   · subst he
     rw[if_pos rfl]at hk;cases hk
     exact⟨arr,E,by simp only[if_pos];exact hg,X5e hca hcs (fun c _=>X2t c)⟩
   · rw[if_neg he]at hk
     obtain⟨arr',E',h1,h2⟩:=h.boxes k cs' hk
     exact⟨arr',E',by simp only[if_neg (Ne.symm he)];exact h1,X5e hca h2 (fun c _=>X2t c)⟩
  boxM:=fun k hk ad had=>by
   simp only[St.box,X01]at hk
   by_cases he:d=k
   · subst he;simp only[if_pos]at had;exact hf.noM ad had
   · rw[if_neg he]at hk;simp only[if_neg (Ne.symm he)]at had;exact h.boxM k hk ad had
  boxInj:=fun k k' hk hk' he=>by
   simp only[St.box,X01]at hk hk'
   by_cases e1:d=k<;>by_cases e2:d=k'
   · omega
   · subst e1;rw[if_neg e2]at hk'
     simp only[if_pos,if_neg (Ne.symm e2)]at he
     exact absurd he.symm (hf.noBox k' hk')
   · subst e2;rw[if_neg e1]at hk
     simp only[if_pos,if_neg (Ne.symm e1)]at he
     exact absurd he (hf.noBox k hk)
   · rw[if_neg e1]at hk;rw[if_neg e2]at hk'
     simp only[if_neg (Ne.symm e1),if_neg (Ne.symm e2)]at he
     exact h.boxInj k k' hk hk' he
  boxBase:=fun k hk=>by
   simp only[St.box,X01]at hk
   by_cases he:d=k
   · subst he;simp only[if_pos];exact hf.base
   · rw[if_neg he]at hk;simp only[if_neg (Ne.symm he)];exact h.boxBase k hk
  rowBox:=fun r k hr hk=>by
   simp only[St.box,X01]at hk
   by_cases he:d=k
   · subst he;simp only[if_pos];exact hf.noRow r hr
   · rw[if_neg he]at hk;simp only[if_neg (Ne.symm he)];exact h.rowBox r k hr hk
  hot:=by
   refine h.hot.keep (Nat.le_refl _) (Mem.le_refl M) (fun r rv v hl _=>⟨hl,rfl,rfl,rfl⟩) (fun _ _ _ _=>rfl) h.hot.noM (fun r hr k hk=>?_) h.hot.noRow
   simp only[St.box,X01]at hk
   by_cases he:d=k
   · subst he;simp only[if_pos];exact hf.noHot r hr
   · rw[if_neg he]at hk;simp only[if_neg (Ne.symm he)];exact h.hot.noBox r hr k hk
  pin:=fun b hb=>by show(if 0=d then _ else σ.box 0)=b;rw[if_neg (Ne.symm hd0)];exact h.pin b hb}
end Go.Proofs.Ytakllifahpfmpaa.Bv
