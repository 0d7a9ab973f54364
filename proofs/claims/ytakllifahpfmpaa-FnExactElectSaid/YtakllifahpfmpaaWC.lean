/- Walks of Go functions by value:the library,part 3 of 4. -/
import Derived.Test.YtakllifahpfmpaaWB
import Derived.Laws.StructEq
import Derived.Laws.Cover3
import Derived.Orders
set_option linter.unusedVariables false
set_option linter.unusedSimpArgs false
namespace Go.Proofs.Ytakllifahpfmpaa.Bv
variable {P:Program} {base:World} {M0:Mem} {ios:Ios} {σ:Sg} {M:Mem} {w:World} {a:Act} {st:St} {tab:Tab} {o:Oper} {next:Act→World→Prop} {Q:Exit→Act→World→Prop}
structure X7p where
 key:Nat
 e:TypeId
 t:Ty
 l:List (El t)
 v:Value
 fo:List Nat
def X7p.row(x:X7p):Nat×X0f:=(x.key,.hot x.e x.t x.l 0 none false)
theorem Xe3{r:Nat}{nr:List (Nat×X0f)}(h:noTag r st=true)(hn:r∉nr.map (·.1)):noTag r {st with rows:=nr++st.rows}=true:=by
 have h0:=X5X h
 unfold noTag at h ⊢
 rw[Bool.and_eq_true,Bool.and_eq_true]at h ⊢
 refine⟨h.1,?_⟩
 have:look r (nr++st.rows)=none:=by
  rw[X24]
  have hx:look r nr=none:=by
   cases hl:look r nr with
   | none=>rfl
   | some x=>exact absurd (List.mem_map.2 ⟨(r,x),X1a hl,rfl⟩) hn
  rw[hx];exact h0
 simp[this]
theorem Xfe{nr:List (Nat×X0f)}{r:Nat}{rv:X0f}(h:look r (nr++st.rows)=some rv):(∃x∈nr,x.1=r∧x.2=rv)∨look r st.rows=some rv:=by
 rw[X24]at h
 cases hl:look r nr with
 | none=>rw[hl]at h;exact .inr h
 | some x=>rw[hl]at h;cases h;exact .inl ⟨_,X1a hl,rfl,rfl⟩
theorem Sim.addHotsP:∀(D:List X7p) {σ:Sg} {st:St},Sim P base M0 ios σ M w a st→(∀x∈D,noTag x.key st=true∧(∀q∈ios.rows,q.1=x.key→x.v=q.2)∧X21 w x.t x.v x.l x.fo∧(∃i,P.info? x.e=some i∧i.size=size x.t)∧0<size x.t∧x.fo.Nodup∧∀g∈x.fo,Xbx base ios σ M w st g)→
 (D.map (·.key)).Nodup→(∀x∈D,∀y∈D,x.key≠y.key→∀g∈x.fo,g∉y.fo)→
 ∃σ',Sim P base M0 ios σ' M w a {st with rows:=D.map X7p.row++st.rows}∧(∀x∈D,σ'.row x.key=x.v∧σ'.foot x.key=x.fo)∧(∀r,r∉D.map (·.key)→σ'.row r=σ.row r∧σ'.foot r=σ.foot r)∧σ'.box=σ.box
 | [],σ,st,h,_,_,_=>⟨σ,h,fun x hx=>by(cases hx),fun _ _=>⟨rfl,rfl⟩,rfl⟩
 | x::D,σ,st,h,hx,hnd,hap=>by
   simp only[List.map_cons,List.nodup_cons]at hnd
   obtain⟨σ1,h1,h2,h3,h4⟩:=Sim.addHotsP D h (fun y hy=>hx y (List.mem_cons_of_mem _ hy)) hnd.2 (fun y hy z hz=>hap y (List.mem_cons_of_mem _ hy) z (List.mem_cons_of_mem _ hz))
   obtain⟨k1,k2,k3,k4,k5,k6,k7⟩:=hx x (by simp)
   have hkey:x.key∉(D.map X7p.row).map (·.1):=by rw[List.map_map];exact hnd.1
   have hne:∀y∈D,x.key≠y.key:=fun y hy e=>hnd.1 (List.mem_map.2 ⟨y,hy,e.symm⟩)
   have hcold:∀r,(({st with rows:=D.map X7p.row++st.rows}:St).row r).isSome=true→r∉D.map (·.key)∧(st.row r).isSome=true:=fun r hr=>by
    obtain⟨e,he⟩:=Option.isSome_iff_exists.1 hr
    obtain⟨rv,hl,hc⟩:=X2B he
    have hl':look r (D.map X7p.row++st.rows)=some rv:=hl
    rw[X24]at hl'
    cases hd:look r (D.map X7p.row) with
    | none=>
      rw[hd]at hl'
      refine⟨fun hm=>?_,by rw[show st.row r=some e from X3T hl' hc];rfl⟩
      obtain⟨y,hy,e1⟩:=List.mem_map.1 hm
      have:(look r (D.map X7p.row)).isSome=true:=by
       have gen:∀(D:List X7p),y∈D→(look r (D.map X7p.row)).isSome=true:=fun D=>by
        induction D with
        | nil=>intro h;cases h
        | cons z D ih=>
          intro h
          simp only[List.map_cons,X7p.row,X01]
          split
          · rfl
          · rename_i hz
            rcases List.mem_cons.1 h with e2 | h2
            · subst e2;exact absurd e1 hz
            · exact ih h2
       exact gen D hy
      rw[hd]at this;cases this
    | some x'=>
      rw[hd]at hl';cases hl'
      obtain⟨y,hy,e1⟩:=List.mem_map.1 (X1a hd)
      simp only[X7p.row,Prod.mk.injEq]at e1
      rw[←e1.2]at hc;cases hc
   have h5:=h1.newHotP (r:=x.key) (e:=x.e) (t:=x.t) (l:=x.l) (hole:=none) (z:=false) (v:=x.v) (fo:=x.fo) (m:=X6p w x.t x.v x.fo) (Xe3 k1 hkey) k2 (fun g hg=>by
    have hf:=k7 g hg
    exact {
     base:=hf.base
     noM:=hf.noM
     noBox:=fun k hk=>by rw[h4];exact hf.noBox k hk
     noRow:=fun r hr=>by
      obtain⟨m1,m2⟩:=hcold r hr
      rw[(h3 r m1).1];exact hf.noRow r m2
     noHot:=fun r hr hgr=>by
      by_cases hm:r∈D.map (·.key)
      · obtain⟨y,hy,e1⟩:=List.mem_map.1 hm
        rw[←e1,(h2 y hy).2]at hgr
        exact hap x (by simp) y (List.mem_cons_of_mem _ hy) (hne y hy) g hg hgr
      · rw[(h3 r hm).2]at hgr
        obtain⟨e,t,l,ver,hole,z,hl⟩:=hr
        rcases Xfe hl with⟨y,hy,e1,e2⟩ | hl2
        · obtain⟨y',hy',e3⟩:=List.mem_map.1 hy
          exact hm (List.mem_map.2 ⟨y',hy',by rw[←e1,←e3];rfl⟩)
        · exact hf.noHot r ⟨e,t,l,ver,hole,z,hl2⟩ hgr
     lt:=hf.lt}) (X9E (σ:=σ1) k4 k5 k3 k6 (fun hz=>by cases hz))
   refine⟨_,h5,?_,?_,h4⟩
   · intro y hy
     rcases List.mem_cons.1 hy with rfl | hy
     · simp
     · have:=Ne.symm (hne y hy)
       simp only[if_neg this];exact h2 y hy
   · intro r hr
     simp only[List.map_cons,List.mem_cons,not_or]at hr
     simp only[if_neg hr.1]
     exact h3 r hr.2
theorem Sim.addHots:∀(D:List X7p) {σ:Sg} {st:St},Sim P base M0 ios σ M w a st→(∀x∈D,noTag x.key st=true∧x.key % 2=1∧X21 w x.t x.v x.l x.fo∧(∃i,P.info? x.e=some i∧i.size=size x.t)∧0<size x.t∧x.fo.Nodup∧∀g∈x.fo,Xbx base ios σ M w st g)→
 (D.map (·.key)).Nodup→(∀x∈D,∀y∈D,x.key≠y.key→∀g∈x.fo,g∉y.fo)→
 ∃σ',Sim P base M0 ios σ' M w a {st with rows:=D.map X7p.row++st.rows}∧(∀x∈D,σ'.row x.key=x.v∧σ'.foot x.key=x.fo)∧(∀r,r∉D.map (·.key)→σ'.row r=σ.row r∧σ'.foot r=σ.foot r)∧σ'.box=σ.box
 | D,σ,st,h,hx,hnd,hap=>Sim.addHotsP D h (fun x hm=>by obtain⟨k1,k2,k3⟩:=hx x hm;exact⟨k1,fun q hq e=>absurd (ios.even q hq) (by rw[e];omega),k3⟩) hnd hap
def mkD(key:Nat→Nat)(fr:List (Nat×TypeId))(F:Nat→List Nat):Nat→List Value→List X00→List X7p
 | i,u::vs,.lst t l _::cs=>match look i fr with
   | some e=>⟨key i,e,t,l,u,F i⟩::mkD key fr F (i+1) vs cs
   | none=>mkD key fr F (i+1) vs cs
 | i,_::vs,_::cs=>mkD key fr F (i+1) vs cs
 | _,_,_=>[]
theorem X7N{key:Nat→Nat}{fr:List (Nat×TypeId)}{F:Nat→List Nat}:∀{vs:List Value} {cs:List X00} (i:Nat),vs.length=cs.length→(mkD key fr F i vs cs).map X7p.row=X2r key fr i cs
 | [],[],i,_=>rfl
 | [],_::_,i,h=>by simp at h
 | _::_,[],i,h=>by simp at h
 | u::vs,c::cs,i,h=>by
   have ih:=X7N (key:=key) (fr:=fr) (F:=F) (vs:=vs) (cs:=cs) (i+1) (by simpa using h)
   cases c with
   | lst t l tag=>
     simp only[mkD,X2r]
     cases look i fr with
     | none=>exact ih
     | some e=>simp only[List.map_cons,ih,X7p.row]
   | _=>simp only[mkD,X2r,ih]
theorem XaU{key:Nat→Nat}{fr:List (Nat×TypeId)}{F:Nat→List Nat}{x:X7p}:∀{vs:List Value} {cs:List X00} (i:Nat),x∈mkD key fr F i vs cs→∃j tag,vs[j]?=some x.v∧cs[j]?=some (.lst x.t x.l tag)∧look (i+j) fr=some x.e∧x.key=key (i+j)∧x.fo=F (i+j)
 | [],_,i,h=>by simp[mkD]at h
 | _::_,[],i,h=>by simp[mkD]at h
 | u::vs,c::cs,i,h=>by
   have rec':x∈mkD key fr F (i+1) vs cs→∃j tag,(u::vs)[j]?=some x.v∧(c::cs)[j]?=some (.lst x.t x.l tag)∧look (i+j) fr=some x.e∧x.key=key (i+j)∧x.fo=F (i+j):=fun h=>by
    obtain⟨j,tag,h1,h2,h3,h4,h5⟩:=XaU (i+1) h
    exact⟨j+1,tag,by simpa using h1,by simpa using h2,by rw[←h3];congr 1;omega,by rw[h4];congr 1;omega,by rw[h5];congr 1;omega⟩
   cases c with
   | lst t l tag=>
     simp only[mkD]at h
     cases hl:look i fr with
     | none=>rw[hl]at h;exact rec' h
     | some e=>
       rw[hl]at h
       rcases List.mem_cons.1 h with rfl | h
       · exact⟨0,tag,by simp,by simp,by simpa using hl,by simp,by simp⟩
       · exact rec' h
   | _=>exact rec' h
theorem Xc9{key:Nat→Nat}{fr:List (Nat×TypeId)}{σ':Sg}{rows:List (Nat×X0f)}{F:Nat→List Nat}:∀{vs:List Value} {cs:List X00} (i:Nat),vs.length=cs.length→(∀c∈cs,(∃t l,c=.lst t l none)∨X76 c=true)→
 (∀(j:Nat) (u:Value) (c:X00),look (i+j) fr=none→vs[j]?=some u→cs[j]?=some c→RdV M u c)→(∀(j:Nat) (u:Value) (c:X00),(∀t l tag,c≠.lst t l tag)→vs[j]?=some u→cs[j]?=some c→RdV M u c)→
 (∀(j:Nat) (e:TypeId),look (i+j) fr=some e→∀(u:Value) (t:Ty) (l:List (El t)),vs[j]?=some u→cs[j]?=some (.lst t l none)→u.oneCell'=true∧σ'.row (key (i+j))=u)→X0y (RdT σ' rows M) vs (X6l key fr i cs)
 | [],[],i,_,_,_,_,_=>.nil
 | [],_::_,i,h,_,_,_,_=>by simp at h
 | _::_,[],i,h,_,_,_,_=>by simp at h
 | u::vs,c::cs,i,h,hpl,h1,h1',h2=>by
   have ih:=Xc9 (key:=key) (fr:=fr) (σ':=σ') (rows:=rows) (F:=F) (vs:=vs) (cs:=cs) (i+1) (by simpa using h) (fun c hc=>hpl c (List.mem_cons_of_mem _ hc))
    (fun j u c hl hu hc=>h1 (j+1) u c (by rw[←hl];congr 1;omega) (by simpa using hu) (by simpa using hc)) (fun j u c hn hu hc=>h1' (j+1) u c hn (by simpa using hu) (by simpa using hc))
    (fun j e hl u t l hu hc=>by
      have:=h2 (j+1) e (by rw[←hl];congr 1;omega) u t l (by simpa using hu) (by simpa using hc)
      rw[show i+1+j=i+(j+1) by omega];exact this)
   rcases hpl c (by simp) with⟨t,l,rfl⟩ | hp
   · simp only[X6l]
     cases hl:look i fr with
     | none=>exact .cons ⟨h1 0 u _ (by simpa using hl) (by simp) (by simp),trivial⟩ ih
     | some e=>
       obtain⟨k1,k2⟩:=h2 0 e (by simpa using hl) u t l (by simp) (by simp)
       exact .cons ⟨k1,fun _=>by simpa using k2.symm⟩ ih
   · have hr:=h1' 0 u c (fun t l tag e=>by subst e;simp[X76]at hp) (by simp) (by simp)
     cases c<;>simp[X76]at hp<;>exact .cons ⟨hr,trivial⟩ ih
theorem X6H{F:Nat→List Nat}:∀{own:List (Nat×TypeId)},(X3Z own F).Nodup→(∀p∈own,(F p.1).Nodup)∧∀p∈own,∀q∈own,p.1≠q.1→∀g∈F p.1,g∉F q.1
 | [],_=>⟨fun p hp=>(by cases hp),fun p hp=>(by cases hp)⟩
 | x::own,h=>by
   have h':(F x.1++X3Z own F).Nodup:=h
   rw[List.nodup_append]at h'
   obtain⟨h1,h2,h3⟩:=h'
   obtain⟨k1,k2⟩:=X6H h2
   refine⟨fun p hp=>?_,fun p hp q hq hne g hg hg'=>?_⟩
   · rcases List.mem_cons.1 hp with e | hp2
     · rw[e];exact h1
     · exact k1 p hp2
   · rcases List.mem_cons.1 hp with e | hp2<;>rcases List.mem_cons.1 hq with e' | hq2
     · rw[e,e']at hne;exact hne rfl
     · rw[e]at hg;exact h3 g hg g (X5k.2 ⟨q,hq2,hg'⟩) rfl
     · rw[e']at hg';exact h3 g hg' g (X5k.2 ⟨p,hp2,hg⟩) rfl
     · exact k2 p hp2 q hq2 hne g hg hg'
theorem X8m{α:Type}{k:Nat}:∀{l:List (Nat×α)},(look k l).isSome=true↔∃x,(k,x)∈l
 | []=>by simp[look]
 | (j,y)::l=>by
   rw[X01]
   split
   · rename_i h;subst h;simp
   · rename_i h
     rw[X8m]
     constructor
     · rintro⟨x,hx⟩;exact⟨x,List.mem_cons_of_mem _ hx⟩
     · rintro⟨x,hx⟩
       rcases List.mem_cons.1 hx with e | hx
       · cases e;exact absurd rfl h
       · exact⟨x,hx⟩
end Go.Proofs.Ytakllifahpfmpaa.Bv
namespace Go.Proofs.Ytakllifahpfmpaa.Bv
variable {P:Program} {base:World} {M0:Mem} {ios:Ios} {σ:Sg} {M:Mem} {w:World} {a:Act} {st:St} {tab:Tab} {o:Oper} {next:Act→World→Prop} {Q:Exit→Act→World→Prop}
theorem X9M(hS:Sim P base M0 ios σ M w a st){N:Mem}{k off n:Nat}{cs:List X00}(hk:st.box k=some cs)(hl:off+n≤cs.length)(hN:∀ad u,ad.block=σ.box k→w.cell? ad=some u→N ad=some u){v:Value}(hv:v=.pointer (some ((⟨σ.box k,0,none⟩:Addr).add off))):
 ∃vs,Xc7 N n v vs∧X0y (RdT σ st.rows M) vs ((cs.drop off).take n):=by
 obtain⟨arr,E,h1,h2⟩:=hS.boxes k cs hk
 have h3:=(h2.drop off).take n
 have hlen:=h2.length
 refine⟨(arr.toList.drop off).take n,⟨by rw[List.length_take,List.length_drop];omega,_,hv,fun j u hj=>?_⟩,h3⟩
 rw[List.getElem?_take]at hj
 split at hj
 · rw[X8x,X8x,Nat.zero_add]
   exact hN _ u rfl (X5M h1 hj)
 · cases hj
theorem X6K(hS:Sim P base M0 ios σ M w a st){N:Mem}(hMN:M.le N){boxes:List (Nat×List X00)}(hb:∀k cs,look k boxes=some cs→st.box k=some cs):∀{ns:List Nat} {l:List Cap} {vs:List Value} {p:List X00×List Nat},X0y (X5Q σ st.rows st.boxes M) vs l→X3H boxes ns l=some p→
 (∀k∈p.2,(st.box k).isSome=true→∀ad u,ad.block=σ.box k→w.cell? ad=some u→N ad=some u)→∃cs,X7k N ns vs cs∧X0y (RdT σ st.rows M) cs p.1
 | [],[],vs,p,h,e,_=>by cases h;simp only[X3H,Option.some.injEq]at e;subst e;exact⟨[],.nil,.nil⟩
 | [],_::_,vs,p,h,e,_=>by simp[X3H]at e
 | _::_,[],vs,p,h,e,_=>by simp[X3H]at e
 | n::ns,.ptr cs::l,vs,p,h,e,hN=>by
   cases h with
   | @cons v _ vs _ hx hr=>
     simp only[X3H]at e
     split at e
     · rename_i hn
       simp only[Option.map_eq_some_iff]at e
       obtain⟨q,hq,e⟩:=e;subst e
       obtain⟨cs',h1,h2⟩:=X6K hS hMN hb hr hq hN
       obtain⟨ad,hv,hc⟩:=hx
       obtain⟨us,k1,k2⟩:=X5R (σ:=σ) (rows:=st.rows) (ad:=ad) (cs:=cs) (o:=0) (by simpa using hc)
       refine⟨us.take n++cs',.cons ⟨by rw[List.length_take,k1.length];omega,ad,hv,fun j u hj=>?_⟩ h1,(k1.take n).append h2⟩
       rw[List.getElem?_take]at hj
       split at hj
       · exact hMN _ _ (by simpa using k2 j u hj)
       · cases hj
     · cases e
 | n::ns,.pp k off::l,vs,p,h,e,hN=>by simp[X3H]at e
 | n::ns,.pptr cs::l,vs,p,h,e,hN=>by simp[X3H]at e
 | n::ns,.box k off::l,vs,p,h,e,hN=>by
   cases h with
   | @cons v _ vs _ hx hr=>
     simp only[X3H]at e
     split at e
     · rename_i cs hk
       split at e
       · rename_i hn
         simp only[Option.map_eq_some_iff]at e
         obtain⟨q,hq,e⟩:=e;subst e
         obtain⟨cs',h1,h2⟩:=X6K hS hMN hb hr hq (fun k' hk'=>hN k' (by simp[hk']))
         obtain⟨us,k1,k2⟩:=X9M hS (N:=N) (hb k cs hk) hn (hN k (by simp) (by rw[hb k cs hk];rfl)) hx.1
         exact⟨us++cs',.cons k1 h1,k2.append h2⟩
       · cases e
     · cases e
theorem Xay{N:Mem}(hMN:M.le N){rows:List (Nat×X0f)}{v:Value}{cs:List X00}{n:Nat}(h:X6q σ rows M v cs)(hn:n≤cs.length):∃us,XaW N n v us∧X0y (RdT σ rows M) us (cs.take n):=by
 obtain⟨ad,u,hv,hu,ad2,hu2,hc⟩:=h
 obtain⟨us,k1,k2⟩:=X5R (σ:=σ) (rows:=rows) (ad:=ad2) (cs:=cs) (o:=0) (by simpa using hc)
 refine⟨us.take n,⟨ad,u,hv,hMN _ _ hu,by rw[List.length_take,k1.length];omega,ad2,hu2,fun j x hj=>?_⟩,k1.take n⟩
 rw[List.getElem?_take]at hj
 split at hj
 · exact hMN _ _ (by simpa using k2 j x hj)
 · cases hj
theorem Xdr(hS:Sim P base M0 ios σ M w a st){N:Mem}(hMN:M.le N){v:Value}{k off n:Nat}{cs:List X00}(hk:st.box k=some cs)(hl:off+n≤cs.length)(hN:∀ad u,ad.block=σ.box k→w.cell? ad=some u→N ad=some u)(h:Xc3 σ st.boxes M v k off):∃us,XaW N n v us∧X0y (RdT σ st.rows M) us ((cs.drop off).take n):=by
 obtain⟨ad,hv,hu,_⟩:=h
 obtain⟨us,k1,k2⟩:=X9M hS (N:=N) hk hl hN (v:=.pointer (some ((⟨σ.box k,0,none⟩:Addr).add off))) rfl
 exact⟨us,⟨ad,_,hv,hMN _ _ hu,k1⟩,k2⟩
theorem Xc8(hS:Sim P base M0 ios σ M w a st){N:Mem}(hMN:M.le N){vals:List Value}{ins:List In}(h:X0y (fun v i=>X7g σ st M v i) vals ins):
 ∀{ko:Option Nat} {shs:List Sh} {ts:List TypeId} {p:List X00×List Nat},X0k tab ko shs ts ins=some p→(∀k∈p.2,(st.box k).isSome=true→∀ad u,ad.block=σ.box k→w.cell? ad=some u→N ad=some u)→
 ∃cs,X6M N (ko.map σ.box) shs vals cs∧X0y (RdT σ st.rows M) cs p.1:=by
 induction h with
 | nil=>
   intro ko shs ts p h _
   cases shs with
   | nil=>cases ts with
     | nil=>simp only[X0k,Option.some.injEq]at h;subst h;exact⟨[],.nil,.nil⟩
     | cons t ts=>simp[X0k]at h
   | cons sh shs=>cases sh<;>cases ts<;>simp[X0k]at h
 | @cons v i vals ins hx hr ih=>
   intro ko shs ts p h hN
   cases shs with
   | nil=>cases ts<;>simp[X0k]at h
   | cons sh shs=>
     cases ts with
     | nil=>cases sh<;>simp[X0k]at h
     | cons t ts=>
       have ht:=X55 (tab:=tab) t hx.rep
       cases sh with
       | one=>
         simp only[X0k]at h
         split at h
         · rename_i c hc
           simp only[Option.map_eq_some_iff]at h
           obtain⟨q,hq,e⟩:=h;subst e
           obtain⟨cs,h1,h2⟩:=ih hq hN
           rw[hc]at ht
           exact⟨_,.cons (sh:=.one) (c:=[v]) ⟨rfl,ht.2⟩ h1,.cons (X0h.one ht) h2⟩
         · cases h
       | agg n=>
         simp only[X0k]at h
         split at h
         · rename_i cs0 hc
           split at h
           · rename_i hn
             simp only[Option.map_eq_some_iff]at h
             obtain⟨q,hq,e⟩:=h;subst e
             obtain⟨cs,h1,h2⟩:=ih hq hN
             rw[hc]at ht
             obtain⟨vs,hv,h3⟩:=X0h.agg ht
             exact⟨_,.cons (sh:=.agg n) (c:=vs.toList) ⟨by rw[h3.length];exact hn,vs,hv,rfl⟩ h1,h3.append h2⟩
           · cases h
         · cases h
       | ptr n=>
         simp only[X0k]at h
         have hp:=hx.rep
         split at h
         · rename_i cs0 hc
           split at h
           · rename_i hn
             simp only[Option.map_eq_some_iff]at h
             obtain⟨q,hq,e⟩:=h;subst e
             obtain⟨cs,h1,h2⟩:=ih hq hN
             rw[hc]at hp
             obtain⟨ad,hv,hcs⟩:=hp
             obtain⟨vs,h3,h4⟩:=X5R (σ:=σ) (rows:=st.rows) (ad:=ad) (cs:=cs0) (o:=0) (by simpa using hcs)
             refine⟨_,.cons (sh:=.ptr n) (c:=vs.take n) ⟨by rw[List.length_take,h3.length];omega,ad,hv,?_⟩ h1,(h3.take n).append h2⟩
             intro j u hu
             rw[List.getElem?_take]at hu
             split at hu
             · exact hMN _ _ (by simpa using h4 j u hu)
             · cases hu
           · cases h
         · rename_i k off hc
           have hb:=hx.box k off (.inl hc)
           rw[hb]at h
           split at h
           · rename_i cs0 hk
             split at h
             · rename_i hn
               simp only[Option.map_eq_some_iff]at h
               obtain⟨q,hq,e⟩:=h;subst e
               obtain⟨cs,h1,h2⟩:=ih hq (fun k' hk'=>hN k' (by simp[hk']))
               rw[hc]at hp
               obtain⟨us,k1,k2⟩:=X9M hS (N:=N) hk hn (hN k (by simp) (by rw[hk];rfl)) hp.1
               exact⟨_,.cons (sh:=.ptr n) k1 h1,k2.append h2⟩
             · cases h
           · cases h
         · cases h
       | clo f ns=>
         simp only[X0k]at h
         have hp:=hx.rep
         split at h
         · rename_i f' caps hc
           split at h
           · rename_i hf
             subst hf
             split at h
             · rename_i q0 hq0
               simp only[Option.map_eq_some_iff]at h
               obtain⟨q,hq,e⟩:=h;subst e
               obtain⟨cs,h1,h2⟩:=ih hq (fun k' hk'=>hN k' (by simp[hk']))
               rw[hc]at hp
               obtain⟨va,vb,hv,k1,k2⟩:=hp
               have hva:va=#[]:=by
                cases hl:va.toList with
                | nil=>simpa using hl
                | cons x l=>rw[hl]at k1;cases k1
               subst hva
               obtain⟨cs',m1,m2⟩:=X6K hS hMN hx.boxes k2 hq0 (fun k' hk'=>hN k' (by simp[hk']))
               exact⟨_,.cons (sh:=.clo f' ns) ⟨vb,hv,m1⟩ h1,m2.append h2⟩
             · cases h
           · cases h
         · cases h
       | pptr n=>
         simp only[X0k]at h
         have hp:=hx.rep
         split at h
         · rename_i cs0 hc
           split at h
           · rename_i hn
             simp only[Option.map_eq_some_iff]at h
             obtain⟨q,hq,e⟩:=h;subst e
             obtain⟨cs,h1,h2⟩:=ih hq hN
             rw[hc]at hp
             obtain⟨us,k1,k2⟩:=Xay hMN hp hn
             exact⟨_,.cons (sh:=.pptr n) k1 h1,k2.append h2⟩
           · cases h
         · rename_i k off hc
           have hb:=hx.box k off (.inr hc)
           rw[hb]at h
           split at h
           · rename_i cs0 hk
             split at h
             · rename_i hn
               simp only[Option.map_eq_some_iff]at h
               obtain⟨q,hq,e⟩:=h;subst e
               obtain⟨cs,h1,h2⟩:=ih hq (fun k' hk'=>hN k' (by simp[hk']))
               rw[hc]at hp
               obtain⟨us,k1,k2⟩:=Xdr hS hMN hk hn (hN k (by simp) (by rw[hk];rfl)) hp
               exact⟨_,.cons (sh:=.pptr n) k1 h1,k2.append h2⟩
             · cases h
           · cases h
         · cases h
       | clop f n=>
         simp only[X0k]at h
         have hp:=hx.rep
         have one:∀{f':Nat} {c:Cap},i.sv=.fn f' [] [c]→∃u,v=.func (.func f') #[] #[u]∧X5Q σ st.rows st.boxes M u c:=fun {f' c} hc=>by
          rw[hc]at hp
          obtain⟨va,vb,hv,k1,k2⟩:=hp
          have hva:va=#[]:=by
           cases hl:va.toList with
           | nil=>simpa using hl
           | cons x l=>rw[hl]at k1;cases k1
          subst hva
          cases hl:vb.toList with
          | nil=>rw[hl]at k2;cases k2
          | cons x l=>
            rw[hl]at k2
            cases k2 with
            | cons m1 m2=>
              cases m2
              have:vb=#[x]:=by apply Array.ext';rw[hl]
              exact⟨x,by rw[hv,this],m1⟩
         split at h
         · rename_i f' cs0 hc
           split at h
           · rename_i hf
             obtain⟨hf,hn⟩:=hf
             subst hf
             simp only[Option.map_eq_some_iff]at h
             obtain⟨q,hq,e⟩:=h;subst e
             obtain⟨cs,h1,h2⟩:=ih hq hN
             obtain⟨u,hv,hu⟩:=one hc
             obtain⟨us,k1,k2⟩:=Xay hMN hu hn
             exact⟨_,.cons (sh:=.clop f' n) ⟨u,hv,k1⟩ h1,k2.append h2⟩
           · cases h
         · rename_i f' k off hc
           split at h
           · rename_i cs0 hk
             split at h
             · rename_i hf
               obtain⟨hf,hn⟩:=hf
               subst hf
               simp only[Option.map_eq_some_iff]at h
               obtain⟨q,hq,e⟩:=h;subst e
               have hk':=hx.boxes k cs0 hk
               obtain⟨cs,h1,h2⟩:=ih hq (fun k' hk'=>hN k' (by simp[hk']))
               obtain⟨u,hv,hu⟩:=one hc
               obtain⟨us,k1,k2⟩:=Xdr hS hMN hk' hn (hN k (by simp) (by rw[hk'];rfl)) hu
               exact⟨_,.cons (sh:=.clop f' n) ⟨u,hv,k1⟩ h1,k2.append h2⟩
             · cases h
           · cases h
         · cases h
       | self f m=>
         simp only[X0k]at h
         have hp:=hx.rep
         split at h
         · rename_i f' k k' hc
           split at h
           · rename_i hf
             obtain⟨hf,hk⟩:=hf
             subst hf;subst hk
             obtain⟨cs,h1,h2⟩:=ih h hN
             rw[hc]at hp
             obtain⟨va,vb,hv,k1,k2⟩:=hp
             refine⟨_,.cons (sh:=.self f' false) (c:=[]) ⟨rfl,?_⟩ h1,by simpa using h2⟩
             cases hl:va.toList with
             | nil=>rw[hl]at k1;cases k1
             | cons x l=>
               rw[hl]at k1
               cases k1 with
               | cons m1 m2=>
                 cases m2
                 have e1:va=#[x]:=by apply Array.ext';rw[hl]
                 have e2:vb=#[]:=by
                  cases hl2:vb.toList with
                  | nil=>simpa using hl2
                  | cons x l=>rw[hl2]at k2;cases k2
                 have e3:x=.pointer (some ⟨σ.box k,0,none⟩):=by rw[m1.1];simp[Addr.add]
                 show v=_
                 rw[hv,e1,e2,e3]
           · cases h
         · rename_i f' k k' hc
           split at h
           · rename_i hf
             obtain⟨hf,hk⟩:=hf
             subst hf;subst hk
             obtain⟨cs,h1,h2⟩:=ih h hN
             rw[hc]at hp
             obtain⟨va,vb,hv,k1,k2⟩:=hp
             refine⟨_,.cons (sh:=.self f' true) (c:=[]) ⟨rfl,?_⟩ h1,by simpa using h2⟩
             cases hl:vb.toList with
             | nil=>rw[hl]at k2;cases k2
             | cons x l=>
               rw[hl]at k2
               cases k2 with
               | cons m1 m2=>
                 cases m2
                 have e1:vb=#[x]:=by apply Array.ext';rw[hl]
                 have e2:va=#[]:=by
                  cases hl2:va.toList with
                  | nil=>simpa using hl2
                  | cons x l=>rw[hl2]at k1;cases k1
                 obtain⟨ad,hx1,hx2,_⟩:=m1
                 refine⟨ad,by rw[hv,e1,e2,hx1],?_⟩
                 have:=hMN _ _ hx2
                 rw[this];simp[Addr.add]
           · cases h
         · cases h
       | pself=>
         simp only[X0k]at h
         have hp:=hx.rep
         split at h
         · rename_i k k' hc
           split at h
           · rename_i hk
             subst hk
             obtain⟨cs,h1,h2⟩:=ih h hN
             rw[hc]at hp
             obtain⟨ad,hx1,hx2,_⟩:=hp
             refine⟨_,.cons (sh:=.pself) (c:=[]) ⟨rfl,_,ad,rfl,hx1,?_⟩ h1,by simpa using h2⟩
             have:=hMN _ _ hx2
             rw[this];simp[Addr.add]
           · cases h
         · cases h
theorem XbZ{rows:List (Nat×X0f)}:∀{cs vs:List X00},X62 rows cs=some vs→vs.length=cs.length∧∀(j:Nat) (c:X00),cs[j]?=some c→∃c',vs[j]?=some c'∧Xam rows c=some c'
 | [],vs,h=>by simp only[X62,Option.some.injEq]at h;subst h;exact⟨rfl,fun j c hc=>by simp at hc⟩
 | c::cs,vs,h=>by
   simp only[X62]at h
   split at h
   · rename_i c' l' h1 h2
     cases h
     obtain⟨k1,k2⟩:=XbZ h2
     refine⟨by simp[k1],fun j d hd=>?_⟩
     cases j with
     | zero=>simp at hd;subst hd;exact⟨c',by simp,h1⟩
     | succ j=>simp at hd;simpa using k2 j d hd
   · cases h
theorem XgG{rows:List (Nat×X0f)}{c c':X00}(h:Xam rows c=some c'):unT c'=c':=by
 cases c<;>simp only[Xam]at h
 case int=>cases h;rfl
 case bool=>cases h;rfl
 case str=>cases h;rfl
 case lst=>cases h;rfl
 case emp=>cases h;rfl
 case und=>cases h
 case own=>
  split at h
  · split at h
    · rename_i ht;subst ht;cases h;rfl
    · cases h
  · cases h
 case sub=>
  split at h
  · split at h
    · cases h;rfl
    · cases h
  · cases h
 case bor=>
  split at h
  · rw[Bool.cond_eq_ite]at h
    split at h
    · cases h;rfl
    · cases h
  · cases h
theorem Xcj{rows:List (Nat×X0f)}:∀{cs vs:List X00},X62 rows cs=some vs→vs.map unT=vs
 | [],vs,h=>by simp only[X62,Option.some.injEq]at h;subst h;rfl
 | c::cs,vs,h=>by
   simp only[X62]at h
   split at h
   · rename_i c' l' h1 h2
     cases h
     simp only[List.map_cons,XgG h1,Xcj h2]
   · cases h
def borC:X00→Option Nat
 | .own _ r=>some r
 | .sub _ r _ _=>some r
 | .bor _ _ r _ _=>some r
 | _=>none
theorem X8G{c:X00}{r:Nat}(h:borC c=some r):∀{cs:List X00},c∈cs→r∈X0p cs
 | d::cs,hm=>by
   rcases List.mem_cons.1 hm with e | hm2
   · subst e
     cases c<;>simp only[borC]at h<;>first | (cases h;simp[X0p];done) | (cases h;done)
   · have:=X8G h hm2
     cases d<;>simp only[X0p]<;>first | exact this | exact List.mem_cons_of_mem _ this
theorem XbV{skip:List (Nat×TypeId)}{c:X00}:∀{cs:List X00} (i j:Nat),cs[j]?=some c→look (i+j) skip=none→c∈X3C skip i cs
 | [],i,j,h,_=>by simp at h
 | d::cs,i,0,h,hl=>by
   simp at h;subst h
   rw[Nat.add_zero]at hl
   simp[X3C,hl]
 | d::cs,i,j+1,h,hl=>by
   simp at h
   have:=XbV (skip:=skip) (i+1) j h (by rw[←hl];congr 1;omega)
   simp only[X3C]
   split
   · exact this
   · exact List.mem_cons_of_mem _ this
theorem Xfp(hS:Sim P base M0 ios σ M w a st){N:Mem}(hMN:M.le N){rows:List (Nat×X0f)}(hr:∀r rv,look r rows=some rv→look r st.rows=some rv){v:Value}{c c':X00}(h:RdT σ st.rows M v c)(hv:Xam rows c=some c')(hN:∀r,borC c=some r→X0t r st.rows→(σ.mem r).le N):RdV N v c':=by
 cases c with
 | int k n=>cases hv;exact h.1
 | bool b=>cases hv;exact h.1
 | str s=>cases hv;exact h.1
 | lst t l tag=>cases hv;exact RdC.mono hMN (.list t) _ _ h.1
 | und=>cases hv
 | emp t=>
   cases hv
   obtain⟨ad,rfl⟩:=h.2
   exact⟨ad,0,rfl,by simp,by simp,fun i hi=>by simp at hi⟩
 | own t r=>
   simp only[Xam]at hv
   split at hv
   · rename_i e t' l ver z hl
     split at hv
     · rename_i ht
       subst ht
       cases hv
       have hl':=hr r _ hl
       have:v=σ.row r:=h.2 (by rw[hl'];rfl)
       rw[this]
       exact RdC.mono (hN r rfl ⟨_,_,_,_,_,_,hl'⟩) (.list _) _ _ (hS.hotAt hl').rd
     · cases hv
   · cases hv
 | sub t r lo hi=>
   simp only[Xam]at hv
   split at hv
   · rename_i e t' l ver z hl
     split at hv
     · rename_i ht
       subst ht
       cases hv
       have hl':=hr r _ hl
       exact RdC.mono (hN r rfl ⟨_,_,_,_,_,_,hl'⟩) (.list _) _ _ ((show Xa7 _ (σ.row r) lo hi v from h.2 (by rw[hl'];rfl)).rd (hS.hotAt hl').rd)
     · cases hv
   · cases hv
 | bor t l r ver p=>
   simp only[Xam]at hv
   split at hv
   · rename_i e t' l' ver' z hl
     rw[Bool.cond_eq_ite]at hv
     split at hv
     · rename_i he
       cases hv
       have:ver'=ver:=by simpa using he
       subst this
       have hl':=hr r _ hl
       exact RdC.mono (hN r rfl ⟨_,_,_,_,_,_,hl'⟩) (.list _) _ _ (h.2 _ hl' rfl).1
     · cases hv
   · cases hv
def X4o(σ:Sg)(cs:List X00)(j:Nat):List Nat:=match cs[j]? with
 | some (.own _ r)=>σ.foot r
 | _=>[]
def X58(rows:List (Nat×X0f))(c:X00):Option (Option Nat):=match c with
 | .own t r=>match look r rows with
   | some (.hot _ t' _ _ none _)=>if t'=t then some (some r) else none
   | _=>none
 | .lst _ [] (some 0)=>some none
 | .emp _=>some none
 | _=>none
theorem Xfd(hS:Sim P base M0 ios σ M w a st){rows:List (Nat×X0f)}(hr:∀r rv,look r rows=some rv→look r st.rows=some rv){v:Value}{c c':X00}{x:Option Nat}(h:RdT σ st.rows M v c)(hv:Xam rows c=some c')(hh:X58 rows c=some x):
 ∃t l,c'=.lst t l none∧X21 w t v l (match x with | some r=>σ.foot r | none=>[])∧∀r,x=some r→X0t r st.rows∧∃t0,c=.own t0 r:=by
 cases c
 case int=>cases hh
 case bool=>cases hh
 case str=>cases hh
 case sub=>cases hh
 case bor=>cases hh
 case und=>cases hh
 case own t r=>
  cases hl:look r rows with
  | none=>simp[X58,hl]at hh
  | some rv=>
    cases rv with
    | hot e t' l ver hole z=>
      cases hole with
      | none=>
        by_cases ht:t'=t
        · subst ht
          simp only[X58,hl,if_true,Option.some.injEq]at hh
          subst hh
          simp only[Xam,hl,dif_pos]at hv
          cases hv
          have hl':=hr r _ hl
          have hv:v=σ.row r:=h.2 (by rw[hl'];rfl)
          exact⟨_,l,rfl,by rw[hv];exact(hS.hotAt hl').own,fun r' e=>by cases e;exact⟨⟨_,_,_,_,_,_,hl'⟩,_,rfl⟩⟩
        · simp[X58,hl,ht]at hh
      | some p=>simp[X58,hl]at hh
    | cold e=>simp[X58,hl]at hh
    | frz e t' l ver z=>simp[X58,hl]at hh
 case lst t l tag=>
  match l,tag with
  | [],some 0=>
    cases hh
    cases hv
    have hv:v=.slice none 0 0:=by have:=h.2;simpa [X59] using this
    exact⟨t,[],rfl,by rw[hv];exact X21.emp none,fun r e=>by cases e⟩
  | [],none=>simp[X58]at hh
  | [],some (k+1)=>simp[X58]at hh
  | _::_,none=>simp[X58]at hh
  | _::_,some k=>simp[X58]at hh
 case emp t=>
  cases hh
  cases hv
  obtain⟨ad,rfl⟩:=h.2
  exact⟨t,[],rfl,X21.emp ad,fun r e=>by cases e⟩
theorem X2q{rows:List (Nat×X0f)}{cs:List X00}:∀{own:List (Nat×TypeId)} {ks:List Nat},X3s rows cs own=some ks→(∀j e,(j,e)∈own→∃c x,cs[j]?=some c∧X58 rows c=some x∧∀r,x=some r→r∈ks)∧∀r∈ks,∃j e t,(j,e)∈own∧cs[j]?=some (.own t r)
 | [],ks,h=>by simp only[X3s,Option.some.injEq]at h;subst h;exact⟨fun j e hm=>by(cases hm),fun r hr=>by(cases hr)⟩
 | (j,e)::own,ks,h=>by
   simp only[X3s]at h
   split at h
   · rename_i t r ks' hc hk
     split at h
     · rename_i e0 t' l ver z hl
       split at h
       · rename_i ht
         cases h
         obtain⟨k1,k2⟩:=X2q hk
         refine⟨fun j' e' hm=>?_,fun r' hr'=>?_⟩
         · rcases List.mem_cons.1 hm with e1 | hm
           · cases e1
             exact⟨_,some r,hc,by simp[X58,hl,ht],fun r' e2=>by cases e2;simp⟩
           · obtain⟨c,x,m1,m2,m3⟩:=k1 j' e' hm
             exact⟨c,x,m1,m2,fun r' e2=>List.mem_cons_of_mem _ (m3 r' e2)⟩
         · rcases List.mem_cons.1 hr' with rfl | hr'
           · exact⟨j,e,t,by simp,hc⟩
           · obtain⟨j',e',t',m1,m2⟩:=k2 r' hr'
             exact⟨j',e',t',List.mem_cons_of_mem _ m1,m2⟩
       · cases h
     · cases h
   · rename_i t ks' hc hk
     cases h
     obtain⟨k1,k2⟩:=X2q hk
     refine⟨fun j' e' hm=>?_,fun r' hr'=>?_⟩
     · rcases List.mem_cons.1 hm with e1 | hm
       · cases e1
         exact⟨_,none,hc,rfl,fun r' e2=>by cases e2⟩
       · exact k1 j' e' hm
     · obtain⟨j',e',t',m1,m2⟩:=k2 r' hr'
       exact⟨j',e',t',List.mem_cons_of_mem _ m1,m2⟩
   · rename_i t ks' hc hk
     cases h
     obtain⟨k1,k2⟩:=X2q hk
     refine⟨fun j' e' hm=>?_,fun r' hr'=>?_⟩
     · rcases List.mem_cons.1 hm with e1 | hm
       · cases e1
         exact⟨_,none,hc,rfl,fun r' e2=>by cases e2⟩
       · exact k1 j' e' hm
     · obtain⟨j',e',t',m1,m2⟩:=k2 r' hr'
       exact⟨j',e',t',List.mem_cons_of_mem _ m1,m2⟩
   · cases h
def Xgm(rows:List (Nat×X0f))(bks:List Nat)(c:X00):Prop:=
 (∃x,X58 rows c=some x∧∀r,x=some r→r∈bks)∨∃t l r ver i off e τ L z,c=.bor t l r ver (some (i,off))∧look r rows=some (.hot e τ L ver none z)∧r∈bks
theorem Xgm.more{rows:List (Nat×X0f)}{b b':List Nat}{c:X00}(h:Xgm rows b c)(hs:∀r∈b,r∈b'):Xgm rows b' c:=by
 rcases h with⟨x,h1,h2⟩ | ⟨t,l,r,ver,i,off,e,τ,L,z,h1,h2,h3⟩
 · exact .inl ⟨x,h1,fun r e=>hs r (h2 r e)⟩
 · exact .inr ⟨t,l,r,ver,i,off,e,τ,L,z,h1,h2,hs r h3⟩
theorem X9d{rows:List (Nat×X0f)}{cs:List X00}:∀{own:List (Nat×TypeId)},XbR rows cs own=true→(∀j e,(j,e)∈own→∃c,cs[j]?=some c∧Xgm rows (X06 cs own) c)∧∀r∈X06 cs own,∃e t l ver z,look r rows=some (.hot e t l ver none z)
 | [],h=>⟨fun j e hm=>by(cases hm),fun r hr=>by(cases hr)⟩
 | (j,e)::own,h=>by
   simp only[XbR,Bool.and_eq_true]at h
   obtain⟨h1,h2⟩:=h
   obtain⟨k1,k2⟩:=X9d h2
   have more:∀r,r∈X06 cs own→r∈X06 cs ((j,e)::own):=fun r hr=>by
    simp only[X06]
    split
    · exact List.mem_cons_of_mem _ hr
    · exact List.mem_cons_of_mem _ hr
    · exact hr
   split at h1
   · rename_i t r hc
     split at h1
     · rename_i e0 t' l ver z hl
       have ht:t'=t:=by simpa using h1
       refine⟨fun j' e' hm=>?_,fun r' hr'=>?_⟩
       · rcases List.mem_cons.1 hm with e1 | hm
         · cases e1
           exact⟨_,hc,.inl ⟨some r,by simp[X58,hl,ht],fun r' e2=>by cases e2;simp[X06,hc]⟩⟩
         · obtain⟨c,m1,m2⟩:=k1 j' e' hm
           exact⟨c,m1,m2.more more⟩
       · simp only[X06,hc]at hr'
         rcases List.mem_cons.1 hr' with rfl | hr'
         · exact⟨_,_,_,_,_,hl⟩
         · exact k2 r' hr'
     · cases h1
   · rename_i t l r ver p hc
     split at h1
     · rename_i e0 t' l' ver' z hl
       have hv:ver'=ver:=by simpa using h1
       subst hv
       refine⟨fun j' e' hm=>?_,fun r' hr'=>?_⟩
       · rcases List.mem_cons.1 hm with e1 | hm
         · cases e1
           exact⟨_,hc,.inr ⟨t,l,r,ver',p.1,p.2,e0,t',l',z,rfl,hl,by simp[X06,hc]⟩⟩
         · obtain⟨c,m1,m2⟩:=k1 j' e' hm
           exact⟨c,m1,m2.more more⟩
       · simp only[X06,hc]at hr'
         rcases List.mem_cons.1 hr' with rfl | hr'
         · exact⟨_,_,_,_,_,hl⟩
         · exact k2 r' hr'
     · cases h1
   · rename_i t hc
     refine⟨fun j' e' hm=>?_,fun r' hr'=>?_⟩
     · rcases List.mem_cons.1 hm with e1 | hm
       · cases e1
         exact⟨_,hc,.inl ⟨none,rfl,fun r' e2=>by cases e2⟩⟩
       · obtain⟨c,m1,m2⟩:=k1 j' e' hm
         exact⟨c,m1,m2.more more⟩
     · simp only[X06,hc]at hr'
       exact k2 r' hr'
   · rename_i t hc
     refine⟨fun j' e' hm=>?_,fun r' hr'=>?_⟩
     · rcases List.mem_cons.1 hm with e1 | hm
       · cases e1
         exact⟨_,hc,.inl ⟨none,rfl,fun r' e2=>by cases e2⟩⟩
       · obtain⟨c,m1,m2⟩:=k1 j' e' hm
         exact⟨c,m1,m2.more more⟩
     · simp only[X06,hc]at hr'
       exact k2 r' hr'
   · cases h1
end Go.Proofs.Ytakllifahpfmpaa.Bv
namespace Go.Proofs.Ytakllifahpfmpaa.Bv
variable {P:Program} {base:World} {M0:Mem} {ios:Ios} {σ:Sg} {M:Mem} {w:World} {a:Act} {st:St} {tab:Tab} {o:Oper} {next:Act→World→Prop} {Q:Exit→Act→World→Prop}
structure Ext (s s':St):Prop where
 nt:s.nt=s'.nt
 get:∀i,s.get i=s'.get i
 box:∀k,s.box k=s'.box k
 row:∀r,s.rowv r=s'.rowv r
 olds:∀i,i∈s.olds↔i∈s'.olds
theorem Ext.refl(s:St):Ext s s:=⟨rfl,fun _=>rfl,fun _=>rfl,fun _=>rfl,fun _=>Iff.rfl⟩
theorem Ext.symm{s s':St}(h:Ext s s'):Ext s' s:=⟨h.nt.symm,fun i=>(h.get i).symm,fun i=>(h.box i).symm,fun i=>(h.row i).symm,fun i=>(h.olds i).symm⟩
theorem Ext.trans{s s' s'':St}(h:Ext s s')(k:Ext s' s''):Ext s s'':=⟨h.nt.trans k.nt,fun i=>(h.get i).trans (k.get i),fun i=>(h.box i).trans (k.box i),fun i=>(h.row i).trans (k.row i),fun i=>(h.olds i).trans (k.olds i)⟩
theorem Ext.cold{s s':St}(h:Ext s s')(r:Nat):s.row r=s'.row r:=by
 have:=h.row r
 simp only[St.rowv]at this
 simp only[St.row,X3o,this]
theorem Carry.ext{σ:Sg}{rows rows':List (Nat×X0f)}{M:Mem}(hr:∀r,look r rows=look r rows'):Carry σ rows M σ rows' M (fun _=>True) (fun _ _=>True):=
 ⟨Mem.le_refl M,fun r _ hs=>⟨by rw[hr];exact hs,rfl⟩,fun r ver rv' _ _ hl hv=>⟨rv',by rw[hr];exact hl,hv,Mem.le_refl _,.inl rfl⟩⟩
theorem Sim.ext{s s':St}(h:Ext s s')(hS:Sim P base M0 ios σ M w a s):Sim P base M0 ios σ M w a s':=by
 have hr:∀r,look r s.rows=look r s'.rows:=h.row
 have hh:∀r,X0t r s'.rows→X0t r s.rows:=fun r ⟨e,t,l,ver,hole,z,hl⟩=>⟨e,t,l,ver,hole,z,by rw[hr];exact hl⟩
 exact {
  mem:=hS.mem
  nt:=hS.nt.trans h.nt
  slots:=fun i=>by
   rw[←h.get i]
   exact X17.carry (boxes:=s.boxes) (Carry.ext hr) (hS.slots i) (X5r _) (fun k _=>⟨rfl,fun hk=>by have:=h.box k;simp only[St.box]at this;rw[←this];exact hk⟩)
  boxes:=fun k cs hk=>by
   rw[←h.box k]at hk
   obtain⟨arr,E,h1,h2⟩:=hS.boxes k cs hk
   exact⟨arr,E,h1,X5e (Carry.ext hr) h2 (fun c _=>X2t c)⟩
  boxM:=fun k hk=>hS.boxM k (by rw[h.box k];exact hk)
  boxInj:=fun k k' h1 h2=>hS.boxInj k k' (by rw[h.box k];exact h1) (by rw[h.box k'];exact h2)
  boxBase:=fun k hk=>hS.boxBase k (by rw[h.box k];exact hk)
  rows:=fun r e he=>hS.rows r e (by rw[h.cold r];exact he)
  rowBox:=fun r k h1 h2=>hS.rowBox r k (by rw[h.cold r];exact h1) (by rw[h.box k];exact h2)
  rowInj:=fun r r' h1 h2=>hS.rowInj r r' (by rw[h.cold r];exact h1) (by rw[h.cold r'];exact h2)
  hot:=hS.hot.keep (Nat.le_refl _) (Mem.le_refl M) (fun r rv v hl _=>⟨by rw[hr];exact hl,rfl,rfl,rfl⟩) (fun _ _ _ _=>rfl) (fun r h1=>hS.hot.noM r (hh r h1)) (fun r h1 k hk=>hS.hot.noBox r (hh r h1) k (by rw[h.box k];exact hk)) (fun r h1 r' h2=>hS.hot.noRow r (hh r h1) r' (by rw[h.cold r'];exact h2))
  fr:=hS.fr
  defers:=hS.defers
  old:=hS.old
  le:=hS.le
  pin:=hS.pin
  pins:=fun p hp hs=>hS.pins p hp (by rw[hr];exact hs)
  olds:=fun i hi=>by rw[←h.get i];exact hS.olds i ((h.olds i).2 hi)}
theorem X2p(σ:Sg)(a b:List Nat):X1D σ (a++b)=X1D σ a++X1D σ b:=by simp[X1D]
theorem X2u{rows:List (Nat×X0f)}{cs:List X00}:∀{own:List (Nat×TypeId)} {ks:List Nat},X3s rows cs own=some ks→X3Z own (X4o σ cs)=X1D σ ks
 | [],ks,h=>by simp only[X3s,Option.some.injEq]at h;subst h;rfl
 | (j,e)::own,ks,h=>by
   simp only[X3s]at h
   have hb:X3Z ((j,e)::own) (X4o σ cs)=X4o σ cs j++X3Z own (X4o σ cs):=rfl
   rw[hb]
   split at h
   · rename_i t r ks' hc hk
     split at h
     · split at h
       · cases h
         rw[X2u hk]
         simp only[X4o,hc];rfl
       · cases h
     · cases h
   · rename_i t ks' hc hk
     cases h
     rw[X2u hk]
     simp only[X4o,hc];rfl
   · rename_i t ks' hc hk
     cases h
     rw[X2u hk]
     simp only[X4o,hc];rfl
   · cases h
theorem X4n{rows0:List (Nat×X0f)}{vs:List Value}{rows:List (Nat×X0f)}{cs:List X00}:∀{own:List (Nat×TypeId)} {ks:List Nat},X3s rows cs own=some ks→X3Z own (X4G w σ rows0 cs vs)=X1D σ ks
 | [],ks,h=>by simp only[X3s,Option.some.injEq]at h;subst h;rfl
 | (j,e)::own,ks,h=>by
   simp only[X3s]at h
   have hb:X3Z ((j,e)::own) (X4G w σ rows0 cs vs)=X4G w σ rows0 cs vs j++X3Z own (X4G w σ rows0 cs vs):=rfl
   rw[hb]
   split at h
   · rename_i t r ks' hc hk
     split at h
     · split at h
       · cases h
         rw[X4n hk]
         simp only[X4G,hc];rfl
       · cases h
     · cases h
   · rename_i t ks' hc hk
     cases h
     rw[X4n hk]
     simp only[X4G,hc];rfl
   · rename_i t ks' hc hk
     cases h
     rw[X4n hk]
     simp only[X4G,hc];rfl
   · cases h
theorem XbT{rows:List (Nat×X0f)}{vs:List Value}{cs:List X00}:∀(own:List (Nat×TypeId)),(∀j e t l r ver p,(j,e)∈own→cs[j]?=some (.bor t l r ver (some p))→(X3g w σ rows cs vs j).2.1.Sublist (σ.foot r))→(X3Z own (X4G w σ rows cs vs)).Sublist (X1D σ (X06 cs own))
 | [],_=>.slnil
 | (j,e)::own,hd=>by
   have hb:X3Z ((j,e)::own) (X4G w σ rows cs vs)=X4G w σ rows cs vs j++X3Z own (X4G w σ rows cs vs):=rfl
   have ih:=XbT own fun j' e' t l r ver p hm hc=>hd j' e' t l r ver p (List.mem_cons_of_mem _ hm) hc
   rw[hb]
   simp only[X06,X4G]
   split
   · rename_i t r hc;simp only[hc];exact List.Sublist.append_left ih _
   · rename_i t l r ver p hc
     simp only[hc]
     exact List.Sublist.append (hd j e t l r ver p (by simp) hc) ih
   · rename_i hn hn2
     cases hc:cs[j]? with
     | none=>exact ih
     | some c=>
       cases c<;>first | exact ih | skip
       · rename_i t r;exact absurd hc (hn t r)
       · rename_i t l r ver p
         cases p with
         | none=>exact ih
         | some p=>exact absurd hc (hn2 t l r ver p)
theorem X9q(a b:List (Nat×TypeId))(F:Nat→List Nat):X3Z (a++b) F=X3Z a F++X3Z b F:=by simp[X3Z]
theorem X6y{ins:List In}{vals:List Value}(h:X0y (fun v i=>X7g σ st M v i) vals ins):∀r rv,look r (ins.flatMap (·.rows))=some rv→look r st.rows=some rv:=by
 induction h with
 | nil=>intro r rv hl;cases hl
 | cons hx _ ih=>
   intro r rv hl
   rw[List.flatMap_cons,X24]at hl
   split at hl
   · rename_i x he;cases hl;exact hx.rows r _ he
   · exact ih r rv hl
def X2K(cs:List X00)(D:Nat→List Nat×List Nat×List Nat)(FB:Nat→List Nat):List (Nat×TypeId)→List (Nat×List Nat)
 | []=>[]
 | (j,_)::l=>match cs[j]? with
   | some (.own _ r)=>(r,FB j)::X2K cs D FB l
   | some (.bor _ _ r _ (some _))=>(r,(D j).1++(FB j++(D j).2.2))::X2K cs D FB l
   | _=>X2K cs D FB l
inductive X8E (rows:List (Nat×X0f)) (cs:List X00) (own:List (Nat×TypeId)) (bs:List X00) (D:Nat→List Nat×List Nat×List Nat) (FB:Nat→List Nat) (r:Nat):X0f→List Nat→Prop
 | own {k j:Nat} {e:TypeId} {t0:Ty} {e0:TypeId} {t':Ty} {l':List (El t')} {ver:Nat} {x:List (El t')} {z:Bool} {tag:Option Nat} (h1:own[k]?=some (j,e)) (h2:cs[j]?=some (.own t0 r)) (h3:bs[k]?=some (.lst t' l' tag)) (h4:look r rows=some (.hot e0 t' x ver none z)):
    X8E rows cs own bs D FB r (.hot e0 t' l' (ver+1) none false) (FB j)
 | bor {k j:Nat} {e:TypeId} {t:Ty} {l0:List (El t)} {e0:TypeId} {τ:Ty} {L L':List (El τ)} {l':List (El t)} {ver i off:Nat} {z:Bool} {tag:Option Nat} (h1:own[k]?=some (j,e)) (h2:cs[j]?=some (.bor t l0 r ver (some (i,off)))) (h3:bs[k]?=some (.lst t l' tag)) (h4:look r rows=some (.hot e0 τ L ver none z))
    (h5:X8K τ L i off [.lst t l' none]=some L'):X8E rows cs own bs D FB r (.hot e0 τ L' (ver+1) none false) ((D j).1++(FB j++(D j).2.2))
theorem X8E.more{rows:List (Nat×X0f)}{cs:List X00}{own:List (Nat×TypeId)}{bs:List X00}{D:Nat→List Nat×List Nat×List Nat}{FB:Nat→List Nat}{r:Nat}{rv:X0f}{fo:List Nat}(q:Nat×TypeId)(b:X00)(h:X8E rows cs own bs D FB r rv fo):X8E rows cs (q::own) (b::bs) D FB r rv fo:=by
 cases h with
 | own h1 h2 h3 h4=>exact X8E.own (k:=_+1) (by simpa using h1) h2 (by simpa using h3) h4
 | bor h1 h2 h3 h4 h5=>exact X8E.bor (k:=_+1) (by simpa using h1) h2 (by simpa using h3) h4 h5
theorem X2Q{rows:List (Nat×X0f)}{cs:List X00}{D:Nat→List Nat×List Nat×List Nat}{FB:Nat→List Nat}:∀{own:List (Nat×TypeId)} {bs:List X00} {br:List (Nat×X0f)},X3b rows cs own bs=some br→
 (∀r rv,look r br=some rv→∃fo,look r (X2K cs D FB own)=some fo∧X8E rows cs own bs D FB r rv fo)∧
 (∀r,(look r br).isSome=(look r (X2K cs D FB own)).isSome)∧∀r,r∈X06 cs own→(look r br).isSome=true
 | [],[],br,h=>by simp only[X3b,Option.some.injEq]at h;subst h;exact⟨fun r rv hl=>by(cases hl),fun r=>rfl,fun r hr=>by(cases hr)⟩
 | [],_::_,br,h=>by simp[X3b]at h
 | _::_,[],br,h=>by simp[X3b]at h
 | (j,e)::own,b::bs,br,h=>by
   cases b with
   | lst t' l' tag=>
     simp only[X3b]at h
     split at h
     · rename_i t0 r0 ks hc hk
       split at h
       · rename_i e0 t1 x ver z hl
         split at h
         · rename_i ht
           subst ht
           cases h
           obtain⟨k1,k2,k3⟩:=X2Q (D:=D) (FB:=FB) hk
           refine⟨fun r rv hr=>?_,fun r=>?_,fun r hr=>?_⟩
           · simp only[X01]at hr
             split at hr
             · rename_i e1;subst e1;cases hr
               exact⟨FB j,by simp[X2K,hc,X01],.own (k:=0) (e:=e) rfl hc rfl hl⟩
             · rename_i e1
               obtain⟨fo,m1,m2⟩:=k1 r rv hr
               exact⟨fo,by simp only[X2K,hc,X01,if_neg e1];exact m1,m2.more _ _⟩
           · simp only[X2K,hc,X01]
             split
             · rfl
             · exact k2 r
           · simp only[X06,hc,List.mem_cons]at hr
             simp only[X01]
             split
             · rfl
             · rename_i e1
               rcases hr with e2 | hr
               · exact absurd e2.symm e1
               · exact k3 r hr
         · cases h
       · cases h
     · rename_i t0 l0 r0 ver i off ks hc hk
       split at h
       · rename_i e0 τ L ver' z hl
         split at h
         · rename_i ht
           obtain⟨rfl,rfl⟩:=ht
           split at h
           · rename_i L' hset
             cases h
             obtain⟨k1,k2,k3⟩:=X2Q (D:=D) (FB:=FB) hk
             refine⟨fun r rv hr=>?_,fun r=>?_,fun r hr=>?_⟩
             · simp only[X01]at hr
               split at hr
               · rename_i e1;subst e1;cases hr
                 exact⟨_,by simp[X2K,hc,X01],.bor (k:=0) (e:=e) rfl hc rfl hl hset⟩
               · rename_i e1
                 obtain⟨fo,m1,m2⟩:=k1 r rv hr
                 exact⟨fo,by simp only[X2K,hc,X01,if_neg e1];exact m1,m2.more _ _⟩
             · simp only[X2K,hc,X01]
               split
               · rfl
               · exact k2 r
             · simp only[X06,hc,List.mem_cons]at hr
               simp only[X01]
               split
               · rfl
               · rename_i e1
                 rcases hr with e2 | hr
                 · exact absurd e2.symm e1
                 · exact k3 r hr
           · cases h
         · cases h
       · cases h
     · rename_i t ks hc hk
       cases h
       obtain⟨k1,k2,k3⟩:=X2Q (D:=D) (FB:=FB) hk
       refine⟨fun r rv hr=>?_,fun r=>?_,fun r hr=>?_⟩
       · obtain⟨fo,m1,m2⟩:=k1 r rv hr
         exact⟨fo,by simp only[X2K,hc];exact m1,m2.more _ _⟩
       · simp only[X2K,hc];exact k2 r
       · simp only[X06,hc]at hr;exact k3 r hr
     · rename_i t ks hc hk
       cases h
       obtain⟨k1,k2,k3⟩:=X2Q (D:=D) (FB:=FB) hk
       refine⟨fun r rv hr=>?_,fun r=>?_,fun r hr=>?_⟩
       · obtain⟨fo,m1,m2⟩:=k1 r rv hr
         exact⟨fo,by simp only[X2K,hc];exact m1,m2.more _ _⟩
       · simp only[X2K,hc];exact k2 r
       · simp only[X06,hc]at hr;exact k3 r hr
     · cases h
   | _=>simp[X3b]at h
theorem X7i.one{M:Mem}{own:List (Nat×TypeId)}{vs:List Value}{cs:List X00}{F:Nat→List Nat}(h:X7i w M own vs cs F):∀u∈vs,u.oneCell'=true:=fun u hu=>by
 obtain⟨j,hj⟩:=List.getElem?_of_mem hu
 have hlt:j<cs.length:=by rw[←h.len];exact(List.getElem?_eq_some_iff.1 hj).1
 cases hl:look j own with
 | none=>exact RdV.oneCell (h.rd j u _ hl hj (List.getElem?_eq_getElem hlt))
 | some e=>
   obtain⟨u',t,l,h1,_,h3⟩:=h.own j e hl
   rw[hj]at h1;cases h1
   obtain⟨ad,cap,e1,_⟩:=h3.slice
   rw[e1];rfl
end Go.Proofs.Ytakllifahpfmpaa.Bv
namespace Go.Proofs.Ytakllifahpfmpaa.Bv
variable {P:Program} {base:World} {M0:Mem} {ios:Ios} {σ:Sg} {M:Mem} {w:World} {a:Act} {st:St} {tab:Tab} {o:Oper} {next:Act→World→Prop} {Q:Exit→Act→World→Prop}
structure X7Q (con:Con) (rows:List (Nat×X0f)) (p:List X00×List Nat) (k:Option Nat) (iks:List Nat) (x:XgB con):Prop where
 vals:∃vs ks,X62 rows p.1=some vs∧X3s rows p.1 con.ownA=some ks∧X0A con.A vs=some (x.a,[])∧x.kill=ks++iks∧X2n (ks++(iks++X06 p.1 con.backA))=true∧
  X7u (X0p (X3C (con.ownA++con.backA) 0 p.1)) (ks++(iks++X06 p.1 con.backA))=true
 back:XbR rows p.1 con.backA=true
 leans:con.leans=true→X0p (X3C (con.ownA++con.backA) 0 p.1)=[]∧p.2=[]
 kp:∀b,k=some b→b∉p.2
 k:x.k=k
 cs:x.cs=p.1
 rows:x.rows=rows
theorem XaT{con:Con}{rows:List (Nat×X0f)}{i:El con.I}{k:Option Nat}{iks:List Nat}{p:List X00×List Nat}{x:XgB con}(h:X9O con rows i k iks p=some x):X7Q con rows p k iks x∧x.i=i:=by
 unfold X9O at h
 split at h
 · rename_i vs ks h1 h2
   split at h
   · rename_i a h3
     split at h
     · rename_i hc
       cases h
       simp only[Bool.and_eq_true,Bool.or_eq_true,Bool.not_eq_true',List.isEmpty_iff]at hc
       obtain⟨⟨⟨⟨c1,c2⟩,c3⟩,c4⟩,c5⟩:=hc
       refine⟨⟨⟨vs,ks,h1,h2,h3,rfl,c1,c2⟩,c3,fun hl=>?_,fun b hb=>?_,rfl,rfl,rfl⟩,rfl⟩
       · rcases c4 with c4 | c4
         · rw[hl]at c4;cases c4
         · exact c4
       · subst hb;exact X1z.1 c5
     · cases h
   · cases h
 · cases h
theorem Xb9{con:Con}{ts:List TypeId}{args:List In}{x:XgB con}(h:X8Y tab con ts args=some x):
 (con.io=false∧∃p,X0k tab none con.shA ts args=some p∧X7Q con (args.flatMap (·.rows)) p none [] x)∨
 (con.io=true∧con.hid=true∧∃x0 k bc ic iks p,x0∈args∧x0.sv=.pp k 0∧x0.box=some bc∧X62 (args.flatMap (·.rows)) bc=some ic∧X3s (args.flatMap (·.rows)) bc con.ownI=some iks∧X0k tab (some k) con.shA ts args=some p∧
   X0A con.I ic=some (x.i,[])∧X0p (X3C con.ownI 0 bc)=[]∧X7Q con (args.flatMap (·.rows)) p (some k) iks x)∨
 (con.io=true∧con.hid=false∧∃x0 xs t0 ts' k bc ic iks p,args=x0::xs∧ts=t0::ts'∧x0.sv=.box k 0∧x0.box=some bc∧X62 (args.flatMap (·.rows)) bc=some ic∧X3s (args.flatMap (·.rows)) bc con.ownI=some iks∧X0k tab (some k) con.shA ts' xs=some p∧
   X0A con.I ic=some (x.i,[])∧X0p (X3C con.ownI 0 bc)=[]∧X7Q con (args.flatMap (·.rows)) p (some k) iks x):=by
 unfold X8Y at h
 split at h
 · rename_i hio
   split at h
   · rename_i hh
     refine .inr (.inl ⟨hio,hh,?_⟩)
     unfold XfM at h
     split at h
     · rename_i x0 hl
       split at h
       · rename_i k bc hsv hbx
         split at h
         · rename_i ic iks p h1 h2 h3
           split at h
           · rename_i i h4
             split at h
             · rename_i h5
               obtain⟨f,e⟩:=XaT h
               subst e
               exact⟨x0,k,bc,ic,iks,p,List.mem_of_getLast? hl,hsv,hbx,h1,h2,h3,h4,by simpa using h5,f⟩
             · cases h
           · cases h
         · cases h
       · cases h
     · cases h
   rename_i hh
   refine .inr (.inr ⟨hio,hh,?_⟩)
   split at h
   · rename_i x0 xs t0 ts'
     split at h
     · rename_i k bc hsv hbx
       split at h
       · rename_i ic iks p h1 h2 h3
         split at h
         · rename_i i h4
           split at h
           · rename_i h5
             obtain⟨f,e⟩:=XaT h
             subst e
             exact⟨x0,xs,t0,ts',k,bc,ic,iks,p,rfl,rfl,hsv,hbx,h1,h2,h3,h4,by simpa using h5,f⟩
           · cases h
         · cases h
       · cases h
     · cases h
   · cases h
 · rename_i hio
   refine .inl ⟨hio,?_⟩
   split at h
   · rename_i p h1
     exact⟨p,h1,(XaT h).1⟩
   · cases h
theorem XbG(hS:Sim P base M0 ios σ M w a st){N:Mem}(hMN:M.le N){rows:List (Nat×X0f)}(hr:∀r rv,look r rows=some rv→look r st.rows=some rv){acs:List Value}{cs vs:List X00}(h:X0y (RdT σ st.rows M) acs cs)(hv:X62 rows cs=some vs){own:List (Nat×TypeId)}{F:Nat→List Nat}(ho:∀j e,(j,e)∈own→∃c,cs[j]?=some c∧∀u c',acs[j]?=some u→RdT σ st.rows M u c→Xam rows c=some c'→∃t l,c'=.lst t l none∧X21 w t u l (F j))(hN:∀r∈X0p (X3C own 0 cs),X0t r st.rows→(σ.mem r).le N):X7i w N own acs vs F:=by
 obtain⟨hl,hg⟩:=XbZ hv
 refine⟨by rw[h.length,hl],fun j u c' hj hu hc'=>?_,fun j e hj=>?_⟩
 · obtain⟨c,hc,hrd⟩:=h.getL hu
   obtain⟨c2,h2,h3⟩:=hg j c hc
   rw[hc']at h2;cases h2
   exact Xfp hS hMN hr hrd h3 fun r hb hh=>hN r (X8G hb (XbV 0 j hc (by simpa using hj))) hh
 · obtain⟨c,hc,hx⟩:=ho j e (X1a hj)
   obtain⟨u,hu,hrd⟩:=h.get hc
   obtain⟨c',h2,h3⟩:=hg j c hc
   obtain⟨t,l,rfl,k1⟩:=hx u c' hu hrd h3
   exact⟨u,t,l,hu,h2,k1⟩
theorem Xav(hS:Sim P base M0 ios σ M w a st){rows:List (Nat×X0f)}(hr:∀r rv,look r rows=some rv→look r st.rows=some rv){cs:List X00}{j:Nat}{c:X00}{x:Option Nat}{F:Nat→List Nat}(hc:cs[j]?=some c)(hx:X58 rows c=some x)(hF1:∀t r,c=.own t r→F j=σ.foot r)(hF2:(∀t r,c≠.own t r)→F j=[]){u:Value}{c':X00}(hrd:RdT σ st.rows M u c)(h3:Xam rows c=some c'):∃t l,c'=.lst t l none∧X21 w t u l (F j):=by
 obtain⟨t,l,rfl,k1,k2⟩:=Xfd hS hr hrd h3 hx
 refine⟨t,l,rfl,?_⟩
 cases x with
 | none=>
   rw [hF2 fun t0 r0 e=>by
    subst e
    simp only[X58]at hx
    split at hx
    · split at hx
      · cases hx
      · cases hx
    · cases hx]
   exact k1
 | some r=>
   obtain⟨_,t0,rfl⟩:=k2 r rfl
   rw[hF1 _ _ rfl];exact k1
theorem Xbu(hS:Sim P base M0 ios σ M w a st){N:Mem}(hMN:M.le N){rows:List (Nat×X0f)}(hr:∀r rv,look r rows=some rv→look r st.rows=some rv){acs:List Value}{cs vs:List X00}(h:X0y (RdT σ st.rows M) acs cs)(hv:X62 rows cs=some vs){own:List (Nat×TypeId)}(ho:∀j e,(j,e)∈own→∃c x,cs[j]?=some c∧X58 rows c=some x)(hN:∀r∈X0p (X3C own 0 cs),X0t r st.rows→(σ.mem r).le N):X7i w N own acs vs (X4o σ cs):=
 XbG hS hMN hr h hv (fun j e hm=>by
  obtain⟨c,x,hc,hx⟩:=ho j e hm
  refine⟨c,hc,fun u c' _ hrd h3=>Xav hS hr hc hx (fun t r e1=>?_) (fun hn=>?_) hrd h3⟩
  · subst e1;simp only[X4o,hc]
  · unfold X4o
    rw[hc]
    cases c<;>first | rfl | skip
    exact absurd rfl (hn _ _)) hN
theorem X3e{l r:List Nat}(h:X7u l r=true):∀k∈l,k∉r:=fun k hk=>X1z.1 (List.all_eq_true.1 h k hk)
theorem X7g.capIn{v:Value}{sv:Sv}{c:Cap}(hm:c∈(match sv with | .fn _ a b=>a++b | _=>[]))(hS:Sim P base M0 ios σ M w a st)(hx:X5Q σ st.rows st.boxes M v c):X7g σ st M v (X1E.capIn (XeB st sv) c):=by
 have hrows:∀r rv,look r (XeB st sv).rows=some rv→look r st.rows=some rv:=fun r rv hl=>X49 hl
 have hboxes:∀k cs,look k (XeB st sv).boxes=some cs→st.box k=some cs:=fun k cs hl=>X49 hl
 cases c with
 | box k off=>
   refine⟨hx,fun k' off' e=>?_,fun t l r e=>(by cases e),hrows,hboxes⟩
   rcases e with e | e<;>cases e
   show look k (pick st.boxes (X1u sv))=look k st.boxes
   rw[X4V,if_pos]
   cases sv with
   | fn n x y=>
     simp only[X1u,List.mem_append]
     rcases List.mem_append.1 hm with h | h
     · exact .inl (X3n (.inl h))
     · exact .inr (X3n (.inl h))
   | _=>cases hm
 | ptr cs=>exact⟨hx,fun k off e=>(by rcases e with e | e<;>cases e),fun t l r e=>(by cases e),hrows,fun k cs hl=>(by cases hl)⟩
 | pp k off=>
   refine⟨hx,fun k' off' e=>?_,fun t l r e=>(by cases e),hrows,hboxes⟩
   rcases e with e | e<;>cases e
   show look k (pick st.boxes (X1u sv))=look k st.boxes
   rw[X4V,if_pos]
   cases sv with
   | fn n x y=>
     simp only[X1u,List.mem_append]
     rcases List.mem_append.1 hm with h | h
     · exact .inl (X3n (.inr h))
     · exact .inr (X3n (.inr h))
   | _=>cases hm
 | pptr cs=>exact⟨hx,fun k off e=>(by rcases e with e | e<;>cases e),fun t l r e=>(by cases e),hrows,fun k cs hl=>(by cases hl)⟩
end Go.Proofs.Ytakllifahpfmpaa.Bv
namespace Go.Proofs.Ytakllifahpfmpaa.Bv
variable {P:Program} {base:World} {M0:Mem} {ios:Ios} {σ:Sg} {M:Mem} {w:World} {a:Act} {st:St} {tab:Tab} {o:Oper} {next:Act→World→Prop} {Q:Exit→Act→World→Prop}
theorem XbM{rows:List (Nat×X0f)}{t:Ty}{r:Nat}{x:Option Nat}(h:X58 rows (.own t r)=some x):∃e l ver z,look r rows=some (.hot e t l ver none z):=by
 simp only[X58]at h
 split at h
 · rename_i e t' l ver z hl
   split at h
   · rename_i ht;subst ht;exact⟨e,l,ver,z,hl⟩
   · cases h
 · cases h
structure X7L (σ:Sg) (st:St) (k:Option Nat) (ks iks bks:List Nat):Prop where
 hot:∀r∈ks++(iks++bks),X0t r st.rows
 nodup:(ks++(iks++bks)).Nodup
 box:∀b,k=some b→(st.box b).isSome=true
 ik:k=none→iks=[]
def Xcr(σ:Sg)(k:Option Nat)(ks iks bks:List Nat):List Nat:=(match k with | some b=>σ.box b::X1D σ iks | none=>[])++(X1D σ ks++X1D σ bks)
theorem X6v{ks:List Nat}{r g:Nat}(hr:r∈ks)(hg:g∈σ.foot r):g∈X1D σ ks:=by
 unfold X1D
 exact List.mem_flatten.2 ⟨_,List.mem_map.2 ⟨r,hr,rfl⟩,hg⟩
variable {k:Option Nat} {ks iks bks:List Nat}
theorem X7L.mem(h:X7L σ st k ks iks bks){g:Nat}:g∈Xcr σ k ks iks bks↔(∃b,k=some b∧g=σ.box b)∨∃r∈ks++(iks++bks),g∈σ.foot r:=by
 unfold Xcr
 constructor
 · intro hg
   rcases List.mem_append.1 hg with h1 | h1
   · cases hk:k with
     | none=>rw[hk]at h1;cases h1
     | some b=>
       rw[hk]at h1
       rcases List.mem_cons.1 h1 with h2 | h2
       · exact .inl ⟨b,rfl,h2⟩
       · obtain⟨r,h3,h4⟩:=X2y h2;exact .inr ⟨r,by simp[h3],h4⟩
   · rcases List.mem_append.1 h1 with h2 | h2
     · obtain⟨r,h3,h4⟩:=X2y h2;exact .inr ⟨r,by simp[h3],h4⟩
     · obtain⟨r,h3,h4⟩:=X2y h2;exact .inr ⟨r,by simp[h3],h4⟩
 · rintro (⟨b,hb,hg⟩ | ⟨r,hr,hg⟩)
   · subst hb;exact List.mem_append.2 (.inl (by simp[hg]))
   · rcases List.mem_append.1 hr with h1 | h1
     · exact List.mem_append.2 (.inr (List.mem_append.2 (.inl (X6v h1 hg))))
     · rcases List.mem_append.1 h1 with h2 | h2
       · cases hk:k with
         | none=>rw[h.ik hk]at h2;cases h2
         | some b=>exact List.mem_append.2 (.inl (List.mem_cons_of_mem _ (X6v h2 hg)))
       · exact List.mem_append.2 (.inr (List.mem_append.2 (.inr (X6v h2 hg))))
theorem X7L.noM(h:X7L σ st k ks iks bks)(hS:Sim P base M0 ios σ M w a st){g:Nat}(hg:g∈Xcr σ k ks iks bks):∀ad,ad.block=g→M ad=none:=fun ad had=>by
 rcases h.mem.1 hg with⟨b,hb,e⟩ | ⟨r,hr,hg'⟩
 · exact hS.boxM b (h.box b hb) ad (by rw[had,e])
 · exact hS.hot.noM r (h.hot r hr) g hg' ad had
theorem X7L.foot_not(h:X7L σ st k ks iks bks)(hS:Sim P base M0 ios σ M w a st){r g:Nat}(hr:X0t r st.rows)(hn:r∉ks++(iks++bks))(hg:g∈σ.foot r):g∉Xcr σ k ks iks bks:=fun hm=>by
 rcases h.mem.1 hm with⟨b,hb,e⟩ | ⟨r',hr',hg'⟩
 · exact hS.hot.noBox r hr b (h.box b hb) (e▸hg)
 · exact hS.hot.apart r' r (h.hot r' hr') hr (fun e=>hn (e▸hr')) g hg' hg
theorem X7L.box_not(h:X7L σ st k ks iks bks)(hS:Sim P base M0 ios σ M w a st){b:Nat}(hb:(st.box b).isSome=true)(hn:k≠some b):σ.box b∉Xcr σ k ks iks bks:=fun hm=>by
 rcases h.mem.1 hm with⟨b',hb',e⟩ | ⟨r',hr',hg'⟩
 · exact hn (by rw[hb',hS.boxInj b' b (h.box b' hb') hb e.symm])
 · exact hS.hot.noBox r' (h.hot r' hr') b hb hg'
theorem X7L.blkNodup(h:X7L σ st k ks iks bks)(hS:Sim P base M0 ios σ M w a st):(Xcr σ k ks iks bks).Nodup:=by
 have h1:=X50 hS h.nodup h.hot
 rw[X2p,X2p]at h1
 unfold Xcr
 cases hk:k with
 | none=>
   rw[h.ik hk]at h1
   simpa [X1D] using h1
 | some b=>
   have hp:(X1D σ ks++(X1D σ iks++X1D σ bks)).Perm (X1D σ iks++(X1D σ ks++X1D σ bks)):=by
    rw[←List.append_assoc,←List.append_assoc]
    exact List.Perm.append_right _ List.perm_append_comm
   have h2:=hp.nodup_iff.1 h1
   show(σ.box b::(X1D σ iks++(X1D σ ks++X1D σ bks))).Nodup
   refine List.nodup_cons.2 ⟨fun hm=>?_,h2⟩
   have h3:=hp.mem_iff.2 hm
   have h4:σ.box b∈X1D σ (ks++(iks++bks)):=by rw[X2p,X2p];exact h3
   obtain⟨r,h5,h6⟩:=X2y h4
   exact hS.hot.noBox r (h.hot r h5) b (h.box b hk) h6
theorem X7O{t:Ty}{rows:List (Nat×X0f)}{cs vs:List X00}{x:El t}(hv:X62 rows cs=some vs)(h:X0A t vs=some (x,[])):vs=flat t x:=by
 have h1:=X27 t vs x [] h
 rw[Xcj hv]at h1
 simpa using h1
def XdR(cs:List X00)(j:Nat):Option Nat:=match cs[j]? with
 | some (.own _ r)=>some r
 | some (.bor _ _ r _ (some _))=>some r
 | _=>none
theorem X7q{cs:List X00}{j:Nat}{e:TypeId}{own:List (Nat×TypeId)}:X06 cs ((j,e)::own)=(match XdR cs j with | some r=>r::X06 cs own | none=>X06 cs own):=by
 simp only[X06,XdR]
 split
 · rename_i hc;simp only[hc]
 · rename_i hc;simp only[hc]
 · rename_i h1 h2
   cases hc:cs[j]? with
   | none=>rfl
   | some c=>
     cases c with
     | own t r=>exact absurd hc (h1 t r)
     | bor t l r ver p=>
       cases p with
       | none=>rfl
       | some p=>exact absurd hc (h2 t l r ver p)
     | _=>rfl
theorem X2o{cs:List X00}{r:Nat}:∀{own:List (Nat×TypeId)},r∈X06 cs own↔∃j e,(j,e)∈own∧XdR cs j=some r
 | []=>⟨fun h=>by(cases h),fun ⟨_,_,h,_⟩=>by cases h⟩
 | (j,e)::own=>by
   rw[X7q]
   constructor
   · intro h
     cases hk:XdR cs j with
     | none=>
       rw[hk]at h
       obtain⟨j',e',h1,h2⟩:=X2o.1 h
       exact⟨j',e',List.mem_cons_of_mem _ h1,h2⟩
     | some r0=>
       rw[hk]at h
       rcases List.mem_cons.1 h with rfl | h
       · exact⟨j,e,by simp,hk⟩
       · obtain⟨j',e',h1,h2⟩:=X2o.1 h
         exact⟨j',e',List.mem_cons_of_mem _ h1,h2⟩
   · rintro⟨j',e',h1,h2⟩
     rcases List.mem_cons.1 h1 with e1 | h1
     · cases e1;rw[h2];simp
     · have:=X2o.2 ⟨j',e',h1,h2⟩
       split
       · exact List.mem_cons_of_mem _ this
       · exact this
theorem X8D{cs:List X00}{r:Nat}:∀{own:List (Nat×TypeId)},(X06 cs own).Nodup→∀{j j':Nat} {e e':TypeId},(j,e)∈own→(j',e')∈own→XdR cs j=some r→XdR cs j'=some r→j=j'
 | [],_,_,_,_,_,h,_,_,_=>by cases h
 | (j0,e0)::own,hn,j,j',e,e',h1,h2,h3,h4=>by
   rw[X7q]at hn
   rcases List.mem_cons.1 h1 with q1 | q1
   · cases q1
     rcases List.mem_cons.1 h2 with q2 | q2
     · cases q2;rfl
     · rw[h3]at hn
       exact absurd (X2o.2 ⟨j',e',q2,h4⟩) (List.nodup_cons.1 hn).1
   · rcases List.mem_cons.1 h2 with q2 | q2
     · cases q2
       rw[h4]at hn
       exact absurd (X2o.2 ⟨j,e,q1,h3⟩) (List.nodup_cons.1 hn).1
     · refine X8D (own:=own) ?_ q1 q2 h3 h4
       split at hn
       · exact(List.nodup_cons.1 hn).2
       · exact hn
structure XgA (w:World) (σ:Sg) (k:Option Nat) (ks iks bks:List Nat) (rows:List (Nat×X0f)) (cs:List X00) (acs:List Value) (own:List (Nat×TypeId)) (hb:List Nat):Prop where
 sub:∀g∈hb,g∈Xcr σ k ks iks bks
 rest:∀(j:Nat) (e:TypeId) (t:Ty) (l:List (El t)) (r ver:Nat) (q:Nat×Nat),(j,e)∈own→cs[j]?=some (.bor t l r ver (some q))→∃u e0 τ L z,acs[j]?=some u∧look r rows=some (.hot e0 τ L ver none z)∧
  Dec w τ (σ.row r) L q.1 q.2 t l u (σ.foot r) (X3g w σ rows cs acs j).1 (X3g w σ rows cs acs j).2.1 (X3g w σ rows cs acs j).2.2∧∀g∈(X3g w σ rows cs acs j).1++(X3g w σ rows cs acs j).2.2,g∈σ.foot r∧g∉hb
theorem X83{con:Con}{rows:List (Nat×X0f)}{p:List X00×List Nat}{x:XgB con}{vs:List Value}{ins:List In}{ts:List TypeId}{bc:List X00}{n:FuncId}(hS:Sim P base M0 ios σ M w a st)(hr:∀r rv,look r rows=some rv→look r st.rows=some rv)(hins:X0y (fun v i=>X7g σ st M v i) vs ins)(hp:X0k tab k con.shA ts ins=some p)(f:X7Q con rows p k iks x)(hio:con.io=k.isSome)(hik:k=none→iks=[])(hk:∀b,k=some b→st.box b=some bc∧∃ic,X62 rows bc=some ic∧X3s rows bc con.ownI=some iks∧X0A con.I ic=some (x.i,[])∧X0p (X3C con.ownI 0 bc)=[])(hcon:X0z P n con)(hpre:con.pre x.i x.a):
 ∃ks acs N hb,x.kill=ks++iks∧X7L σ st k ks iks (X06 p.1 con.backA)∧X0y (RdT σ st.rows M) acs p.1∧M.le N∧(con.leans=true→N=M)∧XgA w σ k ks iks (X06 p.1 con.backA) rows p.1 acs con.backA hb∧
  Calls P n (XfQ con.hid (k.map σ.box)++vs).toArray w (Ret P con w N hb (k.map σ.box) acs x.i x.a):=by
 obtain⟨cv,ks,hcv,hks,hun,hkill,hnd,hnone⟩:=f.vals
 obtain⟨a1,a2⟩:=X2q hks
 obtain⟨b1,b2⟩:=X9d f.back
 have hotOf:∀{cs:List X00} {own:List (Nat×TypeId)} {ks:List Nat},(∀j e,(j,e)∈own→∃c x,cs[j]?=some c∧X58 rows c=some x∧∀r,x=some r→r∈ks)→(∀r∈ks,∃j e t,(j,e)∈own∧cs[j]?=some (.own t r))→∀r∈ks,X0t r st.rows:=fun h1 h2 r hrk=>by
  obtain⟨j,e,t,hm,hc⟩:=h2 r hrk
  obtain⟨c,y,hc',hh,_⟩:=h1 j e hm
  rw[hc]at hc';cases hc'
  obtain⟨e',l,ver,z,hl⟩:=XbM hh
  exact⟨_,_,_,_,_,_,hr r _ hl⟩
 have hH:X7L σ st k ks iks (X06 p.1 con.backA):=by
  refine⟨fun r hrm=>?_,X39 hnd,fun b hb=>by rw[(hk b hb).1];rfl,hik⟩
  rcases List.mem_append.1 hrm with h1 | h1
  · exact hotOf a1 a2 r h1
  · rcases List.mem_append.1 h1 with h2 | h2
    · cases hk':k with
      | none=>rw[hik hk']at h2;cases h2
      | some b=>
        obtain⟨_,ic,_,hi,_,_⟩:=hk b hk'
        obtain⟨i1,i2⟩:=X2q hi
        exact hotOf i1 i2 r h2
    · obtain⟨e',t',l',ver',z',hl'⟩:=b2 r h2
      exact⟨_,_,_,_,_,_,hr r _ hl'⟩
 have hN:∃N:Mem,M.le N∧(∀ad v,N ad=some v→w.cell? ad=some v)∧(∀g∈Xcr σ k ks iks (X06 p.1 con.backA),∀ad,ad.block=g→N ad=none)∧(con.leans=true→N=M)∧
  (con.leans=false→∀ad v,ad.block∉Xcr σ k ks iks (X06 p.1 con.backA)→w.cell? ad=some v→N ad=some v):=by
  cases hl:con.leans with
  | true=>exact⟨M,Mem.le_refl M,hS.mem,fun g hg=>hH.noM hS hg,fun _=>rfl,fun h=>by cases h⟩
  | false=>
    refine⟨fun ad=>if ad.block∈Xcr σ k ks iks (X06 p.1 con.backA) then none else w.cell? ad,fun ad v hv=>?_,fun ad v hv=>?_,fun g hg ad had=>?_,fun h=>(by cases h),fun _ ad v hn hv=>?_⟩
    · by_cases hm:ad.block∈Xcr σ k ks iks (X06 p.1 con.backA)
      · have:=hH.noM hS hm ad rfl
        rw[this]at hv;cases hv
      · simp only[if_neg hm];exact hS.mem ad v hv
    · by_cases hm:ad.block∈Xcr σ k ks iks (X06 p.1 con.backA)
      · simp only[if_pos hm]at hv;cases hv
      · simp only[if_neg hm]at hv;exact hv
    · have hm:ad.block∈Xcr σ k ks iks (X06 p.1 con.backA):=by rw[had];exact hg
      simp only[if_pos hm]
    · simp only[if_neg hn];exact hv
 obtain⟨N,n1,n2,n3,n4,n5⟩:=hN
 obtain⟨acs,c1,c2⟩:=Xc8 hS n1 hins hp (fun k' hk' hs' ad u had hu=>by
  cases hl:con.leans with
  | true=>rw[(f.leans hl).2]at hk';cases hk'
  | false=>exact n5 hl ad u (by rw[had];exact hH.box_not hS hs' (fun e=>f.kp k' e hk')) hu)
 have hcv':=X7O hcv hun
 have hrd:∀r,r∈X0p (X3C (con.ownA++con.backA) 0 p.1)→X0t r st.rows→(σ.mem r).le N:=fun r hb hh=>by
  cases hl:con.leans with
  | true=>rw[(f.leans hl).1]at hb;cases hb
  | false=>
    intro ad u hu
    obtain⟨e,t,l,ver,hole,z,hlk⟩:=hh
    obtain⟨m1,m2,_⟩:=(hS.hotAt hlk).mem ad u hu
    exact n5 hl ad u (hH.foot_not hS ⟨e,t,l,ver,hole,z,hlk⟩ (X3e hnone r hb) m2) m1
 have hdec:∀(j:Nat) (e:TypeId) (t:Ty) (l:List (El t)) (r ver:Nat) (q:Nat×Nat),(j,e)∈con.backA→p.1[j]?=some (.bor t l r ver (some q))→∃u e0 τ L z,acs[j]?=some u∧look r rows=some (.hot e0 τ L ver none z)∧Dec w τ (σ.row r) L q.1 q.2 t l u (σ.foot r) (X3g w σ rows p.1 acs j).1 (X3g w σ rows p.1 acs j).2.1 (X3g w σ rows p.1 acs j).2.2:=fun j e t l r ver q hm hc=>by
  obtain⟨c,hc',hB⟩:=b1 j e hm
  rw[hc]at hc';cases hc'
  rcases hB with⟨y,h1,_⟩ | ⟨t',l',r',ver',i',off',e0,τ,L,z,h1,h2,_⟩
  · cases h1
  · cases h1
    obtain⟨u,hu,hrd'⟩:=c2.get hc
    exact⟨u,e0,τ,L,z,hu,h2,Xal hS hr hc hu h2 hrd'⟩
 have hsl:(X3Z con.backA (X4G w σ rows p.1 acs)).Sublist (X1D σ (X06 p.1 con.backA)):=XbT con.backA fun j e t l r ver q hm hc=>by
  obtain⟨u,e0,τ,L,z,_,_,hd⟩:=hdec j e t l r ver q hm hc
  rw[hd.foot]
  exact(List.sublist_append_left _ _).trans (List.sublist_append_right _ _)
 have hblk:(X2M con (k.map σ.box) (X4G w σ rows p.1 acs) (X4o σ bc)).Sublist (Xcr σ k ks iks (X06 p.1 con.backA)):=by
  unfold X2M Xcr
  rw[X9q,X4n hks]
  refine List.Sublist.append ?_ (List.Sublist.append_left hsl _)
  cases hk':k with
  | none=>exact List.Sublist.refl _
  | some b=>
    obtain⟨_,ic,_,hi,_,_⟩:=hk b hk'
    simp only[Option.map_some]
    rw[X2u hi]
    exact List.Sublist.refl _
 have hown:X7i w N (con.ownA++con.backA) acs (flat con.A x.a) (X4G w σ rows p.1 acs):=by
  rw[←hcv']
  have hand1:∀(j:Nat) (c:X00) (y:Option Nat),p.1[j]?=some c→X58 rows c=some y→∀u c',RdT σ st.rows M u c→Xam rows c=some c'→∃t l,c'=.lst t l none∧X21 w t u l (X4G w σ rows p.1 acs j):=fun j c y k1 k2 u c' hrd' h3=>
   Xav hS hr k1 k2 (fun t r e1=>by subst e1;simp only[X4G,k1]) (fun hn=>by
    unfold X4G
    rw[k1]
    cases c<;>first | rfl | skip
    · exact absurd rfl (hn _ _)
    · cases k2) hrd' h3
  refine XbG hS n1 hr c2 hcv (fun j e hm=>?_) hrd
  rcases List.mem_append.1 hm with h1 | h1
  · obtain⟨c,y,k1,k2,_⟩:=a1 j e h1;exact⟨c,k1,fun u c' _=>hand1 j c y k1 k2 u c'⟩
  · obtain⟨c,k1,hB⟩:=b1 j e h1
    rcases hB with⟨y,k2,_⟩ | ⟨t',l',r',ver',i',off',e0,τ,L,z,rfl,h2,_⟩
    · exact⟨c,k1,fun u c' _=>hand1 j c y k1 k2 u c'⟩
    · refine⟨_,k1,fun u c' hu hrd' h3=>?_⟩
      have hd:=Xal hS hr k1 hu h2 hrd'
      simp only[Xam,h2,beq_self_eq_true,cond_true,Option.some.injEq]at h3
      subst h3
      refine⟨_,_,rfl,?_⟩
      have:X4G w σ rows p.1 acs j=(X3g w σ rows p.1 acs j).2.1:=by simp only[X4G,k1]
      rw[this];exact hd.own
 have hHB:XgA w σ k ks iks (X06 p.1 con.backA) rows p.1 acs con.backA (X2M con (k.map σ.box) (X4G w σ rows p.1 acs) (X4o σ bc)):=by
  refine⟨fun g hg=>hblk.subset hg,fun j e t l r ver q hm hc=>?_⟩
  obtain⟨u,e0,τ,L,z,hu,hl,hd⟩:=hdec j e t l r ver q hm hc
  have hrk:r∈X06 p.1 con.backA:=X2o.2 ⟨j,e,hm,by simp only[XdR,hc]⟩
  have hrh:X0t r st.rows:=⟨_,_,_,_,_,_,hr r _ hl⟩
  have hfn:=(hS.hotAt (hr r _ hl)).nodup
  rw[hd.foot]at hfn
  refine⟨u,e0,τ,L,z,hu,hl,hd,fun g hg=>?_⟩
  have hgf:g∈σ.foot r:=by
   rw[hd.foot]
   rcases List.mem_append.1 hg with h | h
   · exact List.mem_append.2 (.inl h)
   · exact List.mem_append.2 (.inr (List.mem_append.2 (.inr h)))
  refine⟨hgf,fun hgb=>?_⟩
  have hndk:=hH.nodup
  have other:∀r'∈ks++(iks++X06 p.1 con.backA),r'≠r→g∉σ.foot r':=fun r' hr' hne hg'=>hS.hot.apart r' r (hH.hot r' hr') hrh hne g hg' hgf
  have kne:∀r'∈ks++iks,r'≠r:=fun r' hr' e1=>by
   subst e1
   rw[←List.append_assoc,List.nodup_append]at hndk
   exact hndk.2.2 _ hr' _ hrk rfl
  unfold X2M at hgb
  rw[X9q,X4n hks]at hgb
  rcases List.mem_append.1 hgb with h1 | h1
  · cases hk':k with
    | none=>rw[hk']at h1;cases h1
    | some b=>
      obtain⟨hb,ic,_,hi,_,_⟩:=hk b hk'
      rw[hk']at h1
      simp only[Option.map_some]at h1
      rcases List.mem_cons.1 h1 with h2 | h2
      · exact hS.hot.noBox r hrh b (by rw[hb];rfl) (h2▸hgf)
      · rw[X2u hi]at h2
        obtain⟨r',m1,m2⟩:=X2y h2
        exact other r' (by simp[m1]) (kne r' (by simp[m1])) m2
  · rcases List.mem_append.1 h1 with h2 | h2
    · obtain⟨r',m1,m2⟩:=X2y h2
      exact other r' (by simp[m1]) (kne r' (by simp[m1])) m2
    · obtain⟨⟨j',e'⟩,m1,m2⟩:=X5k.1 h2
      obtain⟨r',hr',hg'⟩:∃r',XdR p.1 j'=some r'∧g∈σ.foot r':=by
       simp only[X4G]at m2
       split at m2
       · rename_i t0 r0 hc0;exact⟨r0,by simp only[XdR,hc0],m2⟩
       · rename_i t0 l0 r0 ver0 q0 hc0
         obtain⟨u0,_,_,_,_,_,_,hd0⟩:=hdec j' e' t0 l0 r0 ver0 q0 m1 hc0
         refine⟨r0,by simp only[XdR,hc0],?_⟩
         rw[hd0.foot]
         exact List.mem_append.2 (.inr (List.mem_append.2 (.inl m2)))
       · cases m2
      have hr'k:r'∈X06 p.1 con.backA:=X2o.2 ⟨j',e',m1,hr'⟩
      by_cases hne:r'=r
      · subst hne
        have hnb:(X06 p.1 con.backA).Nodup:=by
         rw[←List.append_assoc,List.nodup_append]at hndk
         exact hndk.2.1
        have hjj:=X8D hnb hm m1 (by simp only[XdR,hc]) hr'
        subst hjj
        have m3:g∈(X3g w σ rows p.1 acs j).2.1:=by simpa only[X4G,hc] using m2
        obtain⟨f1,f2,f3⟩:=List.nodup_append.1 hfn
        obtain⟨f4,f5,f6⟩:=List.nodup_append.1 f2
        rcases List.mem_append.1 hg with h | h
        · exact f3 g h g (List.mem_append.2 (.inl m3)) rfl
        · exact f6 g m3 g h rfl
      · exact other r' (by simp[hr'k]) hne hg'
 refine⟨ks,acs,N,_,hkill,hH,c2,n1,n4,hHB,?_⟩
 have:=hcon w N vs acs x.i x.a (X4G w σ rows p.1 acs) (X4o σ bc) (k.map σ.box) n2 c1 hown (by rw[hio];cases k<;>rfl) (fun g hg=>by
  cases hk':k with
  | none=>rw[hk']at hg;cases hg
  | some b=>
    rw[hk']at hg;cases hg
    obtain⟨hb,ic,h1,h2,h3,h4⟩:=hk b hk'
    obtain⟨arr,E,h5,h6⟩:=hS.boxes b bc hb
    refine⟨arr,E,h5,?_⟩
    rw[←X7O h1 h3]
    obtain⟨i1,_⟩:=X2q h2
    exact Xbu hS n1 hr h6 h1 (fun j e hm=>by obtain⟨c,y,k1,k2,_⟩:=i1 j e hm;exact⟨c,y,k1,k2⟩) (fun r hb=>by rw[h4]at hb;cases hb)) ((hH.blkNodup hS).sublist hblk) (fun g hg=>n3 g (hblk.subset hg)) hpre
 cases k with
 | none=>exact this
 | some b=>exact this
end Go.Proofs.Ytakllifahpfmpaa.Bv
namespace Go.Proofs.Ytakllifahpfmpaa.Bv
variable {P:Program} {base:World} {M0:Mem} {ios:Ios} {σ:Sg} {M:Mem} {w:World} {a:Act} {st:St} {tab:Tab} {o:Oper} {next:Act→World→Prop} {Q:Exit→Act→World→Prop}
variable {k:Option Nat} {ks iks bks:List Nat}
theorem Xbp{A B:Mem}(h:A.le B){ad:Addr}(hb:B ad=none):A ad=none:=by
 cases ha:A ad with
 | none=>rfl
 | some v=>have:=h ad v ha;rw[hb]at this;cases this
theorem Xex{rows:List (Nat×X0f)}{cs:List X00}{acs:List Value}{own:List (Nat×TypeId)}{bs:List X00}{br:List (Nat×X0f)}{FB:Nat→List Nat}{w':World}{M' M2:Mem}{hb:List Nat}(hS:Sim P base M0 ios σ M w a st)(hr:∀r rv,look r rows=some rv→look r st.rows=some rv)(hH:X7L σ st k ks iks (X06 cs own))(hB:XgA w σ k ks iks (X06 cs own) rows cs acs own hb)(hacs:X0y (RdT σ st.rows M) acs cs)(hle:M.le M2)(hle':M2.le M')(hmem:∀ad v,M' ad=some v→w'.cell? ad=some v)(hold:∀ad,ad.block<w.heap.size→ad.block∉hb→M ad=none→M2 ad=none)(hfr:Fr hb w w')(hbx:∀b,k=some b→(∃arr E,w'.heap[σ.box b]?=some (.cells arr E (0,0))∧∀u∈arr.toList,u.oneCell'=true)∧∀ad,ad.block=σ.box b→M' ad=none)(hback:Back w' own acs bs FB)(hbr:X3b rows cs own bs=some br)(hnd:(X3Z own FB).Nodup)(hall:∀g∈X3Z own FB,(w.heap.size≤g∨(g∈hb∧k.map σ.box≠some g))∧g<w'.heap.size∧∀ad,ad.block=g→M' ad=none):
 ∃σ2,XhX P base σ σ2 M M2 w w' st br (ks++iks) (X1D σ (ks++(iks++X06 cs own))) k∧∀r,(look r br).isSome=true→∀g∈σ2.foot r,(∃j e,(j,e)∈own∧g∈FB j)∨(g∈σ.foot r∧X0t r st.rows∧g∉hb):=by
 obtain⟨s1,s2,s3⟩:=X2Q (D:=X3g w σ rows cs acs) (FB:=FB) hbr
 obtain⟨f1,f2⟩:=X6H hnd
 have hinv:∀g,g∈hb→k.map σ.box≠some g→∃r∈ks++(iks++X06 cs own),g∈σ.foot r:=fun g hg hne=>by
  rcases hH.mem.1 (hB.sub g hg) with⟨b,hb,e⟩ | h
  · rw[hb,e]at hne;exact absurd rfl hne
  · exact h
 have hback3:∀r,r∈ks++(iks++X06 cs own)→r∈ks++iks∨(look r br).isSome=true:=fun r hrm=>by
  rw[←List.append_assoc]at hrm
  rcases List.mem_append.1 hrm with h | h
  · exact .inl h
  · exact .inr (s3 r h)
 have hbk:∀r,(look r br).isSome=true→∃j e fo,(j,e)∈own∧XdR cs j=some r∧look r (X2K cs (X3g w σ rows cs acs) FB own)=some fo∧X0t r st.rows∧fo.Nodup∧∀g∈fo,g∈FB j∨(g∈σ.foot r∧g∉hb):=fun r hrs=>by
  obtain⟨rv,hrv⟩:=Option.isSome_iff_exists.1 hrs
  obtain⟨fo,m6,hba⟩:=s1 r rv hrv
  cases hba with
  | @own i j e t0 e0 t' l' ver x z tag m1 m2 m3 m4=>
    have hm:=List.mem_of_getElem? m1
    exact⟨j,e,_,hm,by simp only[XdR,m2],m6,⟨_,_,_,_,_,_,hr r _ m4⟩,f1 (j,e) hm,fun g hg=>.inl hg⟩
  | @bor i j e t l0 e0 τ L L' l' ver ii off z tag m1 m2 m3 m4 m5=>
    have hm:=List.mem_of_getElem? m1
    obtain⟨u,e1,τ1,L1,z1,q1,q2,q3,q4⟩:=hB.rest j e t l0 r ver (ii,off) hm m2
    rw[m4]at q2;cases q2
    have hfn:=(hS.hotAt (hr r _ m4)).nodup
    rw[q3.foot]at hfn
    obtain⟨n1,n2,n3⟩:=List.nodup_append.1 hfn
    obtain⟨n4,n5,n6⟩:=List.nodup_append.1 n2
    have apart:∀g∈FB j,g∉(X3g w σ rows cs acs j).1++(X3g w σ rows cs acs j).2.2:=fun g hg hg'=>by
     obtain⟨k1,k2⟩:=q4 g hg'
     obtain⟨c1,_,_⟩:=hall g (X5k.2 ⟨(j,e),hm,hg⟩)
     rcases c1 with c1 | ⟨c1,_⟩
     · have:=hS.hot.lt r ⟨_,_,_,_,_,_,hr r _ m4⟩ g k1
       omega
     · exact k2 c1
    refine⟨j,e,_,hm,by simp only[XdR,m2],m6,⟨_,_,_,_,_,_,hr r _ m4⟩,?_,fun g hg=>?_⟩
    · rw[List.nodup_append]
      refine⟨n1,?_,fun x hx y hy e1=>?_⟩
      · rw[List.nodup_append]
        exact⟨f1 (j,e) hm,n5,fun x hx y hy e1=>by subst e1;exact apart x hx (List.mem_append.2 (.inr hy))⟩
      · subst e1
        rcases List.mem_append.1 hy with h | h
        · exact apart x h (List.mem_append.2 (.inl hx))
        · exact n3 x hx x (List.mem_append.2 (.inr h)) rfl
    · rcases List.mem_append.1 hg with h | h
      · exact .inr (q4 g (List.mem_append.2 (.inl h)))
      · rcases List.mem_append.1 h with h | h
        · exact .inl h
        · exact .inr (q4 g (List.mem_append.2 (.inr h)))
 have hbkk:∀r,(look r br).isSome=true→r∈X06 cs own:=fun r hrs=>by
  obtain⟨j,e,_,m1,m2,_⟩:=hbk r hrs
  exact X2o.2 ⟨j,e,m1,m2⟩
 let σ2:Sg:={σ with foot:=fun r=>match look r (X2K cs (X3g w σ rows cs acs) FB own) with | some fo=>fo | none=>σ.foot r,mem:=fun r=>match look r br with | some (.hot _ t _ _ _ _)=>X6p w' t (σ.row r) (match look r (X2K cs (X3g w σ rows cs acs) FB own) with | some fo=>fo | none=>σ.foot r) | _=>σ.mem r}
 have hfoot:∀r fo,look r (X2K cs (X3g w σ rows cs acs) FB own)=some fo→σ2.foot r=fo:=fun r fo h=>by show(match look r (X2K cs (X3g w σ rows cs acs) FB own) with | some fo=>fo | none=>σ.foot r)=fo;rw[h]
 have hnot:∀r,X0t r st.rows→∀g∈σ.foot r,g∉hb→∀ad,ad.block=g→M2 ad=none:=fun r hh g hg hn ad had=>by
  refine hold ad ?_ (by rw[had];exact hn) (hS.hot.noM r hh g hg ad had)
  rw[had];exact hS.hot.lt r hh g hg
 refine⟨σ2,{
  le:=hle
  mem:=fun ad v hv=>hmem ad v (hle' ad v hv)
  sbox:=rfl
  srow:=rfl
  sfoot:=fun r hrn=>by
   have h1:look r (X2K cs (X3g w σ rows cs acs) FB own)=none:=by
    have:=s2 r;rw[hrn]at this
    cases hx:look r (X2K cs (X3g w σ rows cs acs) FB own) with
    | none=>rfl
    | some y=>rw[hx]at this;cases this
   exact⟨by show(match look r (X2K cs (X3g w σ rows cs acs) FB own) with | some fo=>fo | none=>σ.foot r)=_;rw[h1],by show(match look r br with | some (.hot _ t _ _ _ _)=>_ | _=>σ.mem r)=_;rw[hrn]⟩
  size:=hfr.size
  os:=hfr.os
  tape:=hfr.tape
  output:=hfr.output
  keep:=fun g hg hn hbn=>hfr.block g hg fun hm=>by
   rcases hH.mem.1 (hB.sub g hm) with⟨b,hb',e⟩ | ⟨r,hr1,hr2⟩
   · exact hbn b hb' e
   · exact hn (X6v hr1 hr2)
  hold:=fun ad h1 h2 h3=>by
   by_cases hm:ad.block∈hb
   · rcases hH.mem.1 (hB.sub _ hm) with⟨b,hb',e⟩ | ⟨r,hr1,hr2⟩
     · exact Xbp hle' ((hbx b hb').2 ad e)
     · exact absurd (X6v hr1 hr2) h2
   · exact hold ad h1 hm h3
  touched:=fun g hg=>by
   obtain⟨r,h1,h2⟩:=X2y hg
   exact⟨r,hH.hot r h1,h2,hback3 r h1⟩
  bx:=fun b hb=>⟨hH.box b hb,(hbx b hb).1⟩
  updOk:=fun r rv hrv=>by
   have hrs:(look r br).isSome=true:=by rw[hrv];rfl
   obtain⟨fo,m6,hba⟩:=s1 r rv hrv
   have hkb:=hbkk r hrs
   have hh:=hH.hot r (by simp[hkb])
   have hkn:r∉ks++iks:=fun hm=>by
    have:=hH.nodup
    rw[←List.append_assoc,List.nodup_append]at this
    exact this.2.2 r hm r hkb rfl
   obtain⟨_,_,fo',_,_,m6',_,hfn,_⟩:=hbk r hrs
   rw[m6]at m6';cases m6'
   have hf2:σ2.foot r=fo:=hfoot r _ m6
   cases hba with
   | @own i j e t0 e0 t' l' ver x z tag m1 m2 m3 m4=>
     refine⟨hkn,hh,e0,t',l',ver+1,none,false,rfl,?_⟩
     have m4':=hr r _ m4
     have hok:=hS.hotAt m4'
     obtain⟨u,t,l,q1,q2,q3⟩:=hback.own i j e m1
     rw[m3]at q2;cases q2
     obtain⟨u',hu',hrd⟩:=hacs.get m2
     rw[q1]at hu';cases hu'
     have hu:u=σ.row r:=hrd.2 (by rw[m4'];rfl)
     subst hu
     have hm2:σ2.mem r=X6p w' t' (σ.row r) (FB j):=by
      show(match look r br with | some (.hot _ t _ _ _ _)=>_ | _=>σ.mem r)=_
      rw[hrv];simp only[m6]
     exact {
      info:=hok.info
      pos:=hok.pos
      own:=by show X21 w' t' (σ.row r) l' (σ2.foot r);rw[hf2];exact q3
      nodup:=by rw[hf2];exact hfn
      mem:=fun ad u hu=>by rw[hm2]at hu;rw[hf2];exact X66 hu
      full:=fun _ ad u h1 h2 h3=>by rw[hf2]at h1;rw[hm2,X7H h1 h2];exact h3
      z:=fun h=>by cases h}
   | @bor i j e t l0 e0 τ L L' l' ver ii off z tag m1 m2 m3 m4 m5=>
     refine⟨hkn,hh,e0,τ,L',ver+1,none,false,rfl,?_⟩
     have m4':=hr r _ m4
     have hok:=hS.hotAt m4'
     have hm:=List.mem_of_getElem? m1
     obtain⟨u0,e1,τ1,L1,z1,q1',q2',q3',q4'⟩:=hB.rest j e t l0 r ver (ii,off) hm m2
     rw[m4]at q2';cases q2'
     obtain⟨u,t2,l,q1,q2,q3⟩:=hback.own i j e m1
     rw[m3]at q2;cases q2
     rw[q1']at q1;cases q1
     have hm2:σ2.mem r=X6p w' τ (σ.row r) ((X3g w σ rows cs acs j).1++(FB j++(X3g w σ rows cs acs j).2.2)):=by
      show(match look r br with | some (.hot _ t _ _ _ _)=>_ | _=>σ.mem r)=_
      rw[hrv];simp only[m6]
     exact {
      info:=hok.info
      pos:=hok.pos
      own:=by
       show X21 w' τ (σ.row r) L' (σ2.foot r)
       rw[hf2]
       exact q3'.back w' l' (FB j) L' (fun g hg=>hfr.block g (hS.hot.lt r hh g (q4' g hg).1) (q4' g hg).2) q3 m5
      nodup:=by rw[hf2];exact hfn
      mem:=fun ad u hu=>by rw[hm2]at hu;rw[hf2];exact X66 hu
      full:=fun _ ad u h1 h2 h3=>by rw[hf2]at h1;rw[hm2,X7H h1 h2];exact h3
      z:=fun h=>by cases h}
  foot:=fun r hrs g hg=>by
   obtain⟨j,e,fo,m1,m2,m3,m4,m5,m6⟩:=hbk r hrs
   rw[hfoot r _ m3]at hg
   rcases m6 g hg with h | ⟨h1,h2⟩
   · obtain⟨q1,q2,q3⟩:=hall g (X5k.2 ⟨(j,e),m1,h⟩)
     refine⟨q2,fun ad had=>Xbp hle' (q3 ad had),?_⟩
     rcases q1 with q1 | ⟨q1,q4⟩
     · exact .inl q1
     · obtain⟨r0,h1,h2⟩:=hinv g q1 q4
       exact .inr ⟨r0,hH.hot r0 h1,h2,hback3 r0 h1⟩
   · exact⟨Nat.lt_of_lt_of_le (hS.hot.lt r m4 g h1) hfr.size,hnot r m4 g h1 h2,.inr ⟨r,m4,h1,.inr hrs⟩⟩
  apart:=fun r r' h1 h2 hne g hg hg'=>by
   obtain⟨j,e,fo,m1,m2,m3,m4,m5,m6⟩:=hbk r h1
   obtain⟨j',e',fo',m1',m2',m3',m4',m5',m6'⟩:=hbk r' h2
   rw[hfoot r _ m3]at hg
   rw[hfoot r' _ m3']at hg'
   have mixed:∀(r:Nat) (j:Nat) (e:TypeId),(j,e)∈own→X0t r st.rows→g∈FB j→g∈σ.foot r→g∉hb→False:=fun r j e hm hh q1 q2 q3=>by
    obtain⟨c1,_,_⟩:=hall g (X5k.2 ⟨(j,e),hm,q1⟩)
    rcases c1 with c1 | ⟨c1,_⟩
    · have:=hS.hot.lt r hh g q2;omega
    · exact q3 c1
   rcases m6 g hg with q | ⟨q1,q2⟩<;>rcases m6' g hg' with q' | ⟨q1',q2'⟩
   · refine f2 (j,e) m1 (j',e') m1' (fun ej=>?_) g q q'
     have ej':j=j':=ej
     subst ej'
     rw[m2]at m2';cases m2';exact hne rfl
   · exact mixed r' j e m1 m4' q q1' q2'
   · exact mixed r j' e' m1' m4 q' q1 q2
   · exact hS.hot.apart r r' m4 m4' hne g q1 q1'},fun r hrs g hg=>?_⟩
 obtain⟨j,e,fo,m1,m2,m3,m4,m5,m6⟩:=hbk r hrs
 rw[hfoot r _ m3]at hg
 rcases m6 g hg with h | ⟨h1,h2⟩
 · exact .inl ⟨j,e,m1,h⟩
 · exact .inr ⟨h1,m4,h2⟩
theorem Xd0{r:Nat}{w':World}{upd:List (Nat×X0f)}{ks':List Nat}(h:noTag r st=true)(hu:∀r,(look r upd).isSome=true→(look r st.rows).isSome=true):noTag r {st with rows:=X07 upd ks' st.rows,boxes:=X29 w' σ k st.boxes}=true:=by
 have h0:=X5X h
 unfold noTag at h ⊢
 rw[Bool.and_eq_true,Bool.and_eq_true]at h ⊢
 refine⟨⟨h.1.1,?_⟩,?_⟩
 · cases k with
   | none=>exact h.1.2
   | some b=>
     simp only[X29,X2D,Bool.and_eq_true]
     refine⟨?_,h.1.2⟩
     unfold Xcd
     have:∀n,X5D (Xa3 n)=[]:=fun n=>by
      unfold Xa3
      induction n with
      | zero=>rfl
      | succ n ih=>rw[List.replicate_succ];exact ih
     rw[this];rfl
 · have:look r (X07 upd ks' st.rows)=none:=by
    cases hl:look r (X07 upd ks' st.rows) with
    | none=>rfl
    | some rv=>
      rcases(X1y hl).2 with h1 | ⟨_,h1⟩
      · have:=hu r (by rw[h1];rfl);rw[h0]at this;cases this
      · rw[h0]at h1;cases h1
   simp[this]
end Go.Proofs.Ytakllifahpfmpaa.Bv
namespace Go.Proofs.Ytakllifahpfmpaa.Bv
variable {P:Program} {base:World} {M0:Mem} {ios:Ios} {σ:Sg} {M:Mem} {w:World} {a:Act} {st:St} {tab:Tab} {o:Oper} {next:Act→World→Prop} {Q:Exit→Act→World→Prop}
variable {k:Option Nat} {ks iks bks:List Nat}
theorem XaP{σ':Sg}{rows:List (Nat×X0f)}:∀{shs:List (Bool×Nat)} {rs cs:List Value} {cvs:List X00},X9g shs rs cs→X0y (RdT σ' rows M) cs cvs→X0y (X0h σ' rows M) rs (Xdj shs cvs)
 | _,_,_,_,.nil,_=>.nil
 | _,_,_,cvs,.cons (ag:=ag) (n:=n) (v:=v) (cs:=cs) hn ha hr,h=>by
   simp only[Xdj]
   have hlen:v.cells.toList.length=n:=by rw[Array.length_toList];exact hn
   have h1:=h.take n
   have h2:=h.drop n
   rw[←hlen]at h1 h2
   rw[List.take_left]at h1
   rw[List.drop_left]at h2
   rw[hlen]at h1 h2
   exact .cons ⟨h1,ha⟩ (XaP hr h2)
theorem Xeg{σ':Sg}{rows:List (Nat×X0f)}{boxes:List (Nat×List X00)}{rs:List Value}{l:List (Bool×List X00)}(h:X0y (X0h σ' rows M) rs l):X17 σ' rows boxes M (X7F rs) (XgV l):=by
 cases h with
 | nil=>exact⟨#[],rfl,.nil⟩
 | cons hx hr=>
   cases hr with
   | nil=>exact hx
   | cons hy hr'=>exact⟨_,rfl,by simpa using .cons hx (.cons hy hr')⟩
def Xh4:X00→Bool
 | .lst ..=>true
 | _=>false
theorem X6T:∀(t:Ty) (x y:El t),(flat t x).map Xh4=(flat t y).map Xh4
 | .int _,_,_=>rfl
 | .bool,_,_=>rfl
 | .str,_,_=>rfl
 | .list _,_,_=>rfl
 | .unit,_,_=>rfl
 | .pair a b,x,y=>by simp[flat,X6T a x.1 y.1,X6T b x.2 y.2]
theorem X6L{fr:List (Nat×TypeId)}:∀{cs ds:List X00} (i:Nat),cs.map Xh4=ds.map Xh4→X5d fr i cs=X5d fr i ds
 | [],[],i,_=>rfl
 | [],_::_,i,h=>by simp at h
 | _::_,[],i,h=>by simp at h
 | c::cs,d::ds,i,h=>by
   simp only[List.map_cons,List.cons.injEq]at h
   have ih:=X6L (fr:=fr) (i+1) h.2
   cases c<;>cases d<;>simp[Xh4]at h<;>simp[X5d,ih]
theorem X8H{fr:List (Nat×TypeId)}:∀{cs:List X00} (i j:Nat) {c:X00},X5d fr i cs=false→cs[j]?=some c→look (i+j) fr=none→Xh4 c=false
 | [],i,j,c,_,h,_=>by simp at h
 | d::cs,i,0,c,hl,h,hn=>by
   simp at h;subst h
   rw[Nat.add_zero]at hn
   cases d<;>first | rfl | simp[X5d,hn]at hl
 | d::cs,i,j+1,c,hl,h,hn=>by
   simp at h
   have:X5d fr (i+1) cs=false:=by
    cases d<;>simp only[X5d,Bool.or_eq_false_iff]at hl<;>first | exact hl.2 | exact hl
   exact X8H (i+1) j this h (by rw[←hn];congr 1;omega)
theorem RdV.mem{N:Mem}{v:Value}{c:X00}(h:RdV M v c)(hl:Xh4 c=false):RdV N v c:=by
 cases c<;>first | exact h | simp[Xh4]at hl
theorem XgS{key:Nat→Nat}{fr:List (Nat×TypeId)}{F:Nat→List Nat}{u:Value}{t:Ty}{l:List (El t)}{tag:Option Nat}{e:TypeId}:∀{vs:List Value} {cs:List X00} (i j:Nat),vs[j]?=some u→cs[j]?=some (.lst t l tag)→look (i+j) fr=some e→∃x∈mkD key fr F i vs cs,x.key=key (i+j)∧x.v=u
 | [],_,i,j,h,_,_=>by simp at h
 | _::_,[],i,j,_,h,_=>by simp at h
 | u0::vs,c::cs,i,0,hu,hc,hl=>by
   simp at hu hc;subst hu;subst hc
   rw[Nat.add_zero]at hl
   simp only[mkD,hl]
   exact⟨_,List.mem_cons_self,rfl,rfl⟩
 | u0::vs,c::cs,i,j+1,hu,hc,hl=>by
   simp at hu hc
   obtain⟨x,h1,h2,h3⟩:=XgS (key:=key) (fr:=fr) (F:=F) (i+1) j hu hc (by rw[←hl];congr 1;omega)
   have h2':x.key=key (i+(j+1)):=by rw[h2];congr 1;omega
   refine⟨x,?_,h2',h3⟩
   cases c<;>simp only[mkD]<;>first | exact h1 | skip
   split
   · exact List.mem_cons_of_mem _ h1
   · exact h1
theorem XdP{key:Nat→Nat}{fr:List (Nat×TypeId)}{F:Nat→List Nat}{vs:List Value}{cs:List X00}(h:X7i w M fr vs cs F)(he:Xbf P fr cs)(hn:(X3Z fr F).Nodup){x:X7p}(hx:x∈mkD key fr F 0 vs cs):
 X21 w x.t x.v x.l x.fo∧(∃i,P.info? x.e=some i∧i.size=size x.t)∧0<size x.t∧x.fo.Nodup∧(∃j,x.key=key j∧(look j fr).isSome=true∧x.fo=F j):=by
 obtain⟨j,tag,h1,h2,h3,h4,h5⟩:=XaU 0 hx
 rw[Nat.zero_add]at h3 h4 h5
 obtain⟨u,t,l,k1,k2,k3⟩:=h.own j _ h3
 rw[h1]at k1;cases k1
 rw[h2]at k2
 injection k2 with k2
 injection k2 with e1 e2 e3
 have hel:=he j _ h3 _ _ _ h2
 refine⟨?_,hel.1,hel.2,by rw[h5];exact(X6H hn).1 (j,x.e) (X1a h3),j,h4,by rw[h3];rfl,h5⟩
 rw[h5]
 have gen:∀(t':Ty) (l':List (El t')),t'=t→HEq l' l→X21 w t' x.v l' (F j):=fun t' l' e1 e2=>by
  subst e1;cases e2;exact k3
 exact gen _ _ e1 e2
theorem X4s{fr:List (Nat×TypeId)}{F:Nat→List Nat}{j g:Nat}(h:(look j fr).isSome=true)(hg:g∈F j):g∈X3Z fr F:=by
 obtain⟨e,he⟩:=Option.isSome_iff_exists.1 h
 exact X5k.2 ⟨(j,e),X1a he,hg⟩
theorem X6S{fr:List (Nat×TypeId)}{F:Nat→List Nat}(hn:(X3Z fr F).Nodup){i j:Nat}(hi:(look i fr).isSome=true)(hj:(look j fr).isSome=true)(hne:i≠j):∀g∈F i,g∉F j:=by
 obtain⟨e,he⟩:=Option.isSome_iff_exists.1 hi
 obtain⟨e',he'⟩:=Option.isSome_iff_exists.1 hj
 exact(X6H hn).2 (i,e) (X1a he) (j,e') (X1a he') hne
theorem Xbs{t:Ty}{x:El t}{key:Nat→Nat}{fr:List (Nat×TypeId)}{F:Nat→List Nat}{σ':Sg}{rows:List (Nat×X0f)}{vs:List Value}{M':Mem}(h:X7i w M' fr vs (flat t x) F)(hM:X5d fr 0 (flat t x)=false∨M=M')(hk:∀y∈mkD key fr F 0 vs (flat t x),σ'.row y.key=y.v):X0y (RdT σ' rows M) vs (X6l key fr 0 (flat t x)):=by
 have hrd:∀(j:Nat) (u:Value) (c:X00),look (0+j) fr=none→vs[j]?=some u→(flat t x)[j]?=some c→RdV M u c:=fun j u c hl hu hc=>by
  have hl':look j fr=none:=by rw[←hl];congr 1;omega
  have h0:=h.rd j u c hl' hu hc
  rcases hM with h1 | h1
  · exact h0.mem (X8H 0 j h1 hc hl)
  · rw[h1];exact h0
 refine Xc9 (F:=F) 0 h.len (X5J t x) hrd (fun j u c hnl hu hc=>?_) (fun j e hl u t' l hu hc=>?_)
 · cases hl:look (0+j) fr with
   | none=>exact hrd j u c hl hu hc
   | some e=>
     rw[Nat.zero_add]at hl
     obtain⟨u',t',l,_,k2,_⟩:=h.own j e hl
     rw[hc]at k2;cases k2
     exact absurd rfl (hnl _ _ _)
 · obtain⟨y,h1,h2,h3⟩:=XgS (key:=key) (F:=F) 0 j hu hc hl
   refine⟨h.one u (List.mem_of_getElem? hu),?_⟩
   rw[←h2,hk y h1,h3]
end Go.Proofs.Ytakllifahpfmpaa.Bv
namespace Go.Proofs.Ytakllifahpfmpaa.Bv
variable {P:Program} {base:World} {M0:Mem} {ios:Ios} {σ:Sg} {M:Mem} {w:World} {a:Act} {st:St} {tab:Tab} {o:Oper} {next:Act→World→Prop} {Q:Exit→Act→World→Prop}
variable {k:Option Nat} {ks iks:List Nat}
def ioD(d:Nat)(con:Con)(k:Option Nat)(FI:Nat→List Nat)(ivs:List Value)(i:El con.I):List X7p:=match k with
 | some _=>mkD (Xah d) con.ownI FI 0 ivs (flat con.I i)
 | none=>[]
theorem Xgf{d:Nat}{con:Con}{FI:Nat→List Nat}{ivs:List Value}{i:El con.I}(h:∀b,k=some b→ivs.length=(flat con.I i).length):(ioD d con k FI ivs i).map X7p.row=(match k with | some _=>X2r (Xah d) con.ownI 0 (flat con.I i) | none=>[]):=by
 cases k with
 | none=>rfl
 | some b=>exact X7N 0 (h b rfl)
theorem X89{con:Con}{rows:List (Nat×X0f)}{p:List X00×List Nat}{x:XgB con}{acs:List Value}{N:Mem}{d:Nat}{e:Ending}{w':World}{hb:List Nat}(hS:Sim P base M0 ios σ M w a st)(hr:∀r rv,look r rows=some rv→look r st.rows=some rv)(hH:X7L σ st k ks iks (X06 p.1 con.backA))(hkill:x.kill=ks++iks)(hxk:x.k=k)(hxr:x.rows=rows)(hxc:x.cs=p.1)(hacs:X0y (RdT σ st.rows M) acs p.1)(hMN:M.le N)(hNl:con.leans=true→N=M)(hHB:XgA w σ k ks iks (X06 p.1 con.backA) rows p.1 acs con.backA hb)(hd:o.dst=some d)(hdn:d<st.nt)(hio:con.io=k.isSome)(hnew:(con.newR&&con.io)=false)(hret:Ret P con w N hb (k.map σ.box) acs x.i x.a e w')(hgo:∀y,con.Post x.i x.a y→∃br,X3b x.rows x.cs con.backA (flat con.B y.2.2)=some br∧X10 (X11 con d x y br) (some d) st=true∧X2Y P base M0 ios a o st (X11 con d x y br) next):
 ∃v,e=.returned v∧next (a.put o.dst v) w':=by
 obtain⟨rs,y,cs',M',FR,FI,FB,nb,he,hpost,hle,hm,hf,hhold,hnr,hfresh,hbox,hback,hel1,hel2,hnd,hall⟩:=hret.ex
 obtain⟨br,hbr,hfe,hgoes⟩:=hgo y hpost
 rw[hxr,hxc]at hbr
 refine⟨X7F rs,he,?_⟩
 have hMM':=Mem.le_trans hMN hle
 obtain⟨M2,hle2,hle2',hhold2,hlean⟩:∃M2:Mem,M.le M2∧M2.le M'∧(∀ad,ad.block<w.heap.size→ad.block∉hb→M ad=none→M2 ad=none)∧(con.leans=false∨M2=M'):=by
  cases hl:con.leans with
  | true=>
    have:=hNl hl
    exact⟨M',hMM',Mem.le_refl _,fun ad h1 h2 h3=>hhold ad h1 h2 (by rw[this];exact h3),.inr rfl⟩
  | false=>exact⟨M,Mem.le_refl _,hMM',fun ad h1 h2 h3=>h3,.inl rfl⟩
 obtain⟨ivs,hiv⟩:∃ivs:List Value,∀b,k=some b→∃arr E,w'.heap[σ.box b]?=some (.cells arr E (0,0))∧arr.toList=ivs∧X7i w' M' con.ownI ivs (flat con.I y.2.1) FI∧∀ad,ad.block=σ.box b→M' ad=none:=by
  cases k with
  | none=>exact⟨[],fun b hb=>by cases hb⟩
  | some b=>
    obtain⟨arr,E,h1,h2,h3⟩:=hbox (σ.box b) rfl
    exact⟨arr.toList,fun b' hb'=>by cases hb';exact⟨arr,E,h1,rfl,h2,h3⟩⟩
 obtain⟨bi,hbiS,hnd,hall⟩:∃bi,(∀b,k=some b→bi=X3Z con.ownI FI)∧(nb++(X3Z con.fresh FR++(bi++X3Z con.backA FB))).Nodup∧∀g∈nb++(X3Z con.fresh FR++(bi++X3Z con.backA FB)),(w.heap.size≤g∨(g∈hb∧k.map σ.box≠some g))∧g<w'.heap.size∧∀ad,ad.block=g→M' ad=none:=by
  cases k with
  | none=>exact⟨[],fun b hb=>(by cases hb),hnd,hall⟩
  | some b=>exact⟨_,fun b hb=>rfl,hnd,hall⟩
 obtain⟨nd1,nd2,nd3⟩:=List.nodup_append.1 hnd
 obtain⟨nd4,nd5,nd6⟩:=List.nodup_append.1 nd2
 obtain⟨nd7,nd8,nd9⟩:=List.nodup_append.1 nd5
 obtain⟨σ2,hst,hσ2⟩:=Xex hS hr hH hHB hacs hle2 hle2' hm hhold2 hf (fun b hb=>by
  obtain⟨arr,E,h1,h2,h3,h4⟩:=hiv b hb
  exact⟨⟨arr,E,h1,by rw[h2];exact h3.one⟩,h4⟩) hback hbr nd8 (fun g hg=>hall g (by simp[hg]))
 unfold X10 at hfe
 simp only[Bool.and_eq_true]at hfe
 obtain⟨⟨⟨hfb,hft⟩,hfv⟩,hfn⟩:=hfe
 have hS2:=hS.stepC hst hfv
 have hbrs:∀r,(look r br).isSome=true→(look r st.rows).isSome=true:=fun r hrs=>by
  obtain⟨rv,hrv⟩:=Option.isSome_iff_exists.1 hrs
  obtain⟨_,⟨_,_,_,_,_,_,h⟩,_⟩:=hst.updOk r rv hrv
  rw[h];rfl
 have hfree:∀g∈nb++(X3Z con.fresh FR++(bi++X3Z con.backA FB)),g∉X3Z con.backA FB→Xbx base ios σ2 M2 w' {st with rows:=X07 br (ks++iks) st.rows,boxes:=X29 w' σ k st.boxes} g:=fun g hg hnb=>by
  obtain⟨q1,q2,q3⟩:=hall g hg
  have hq:w.heap.size≤g∨∃r∈ks++(iks++X06 p.1 con.backA),g∈σ.foot r:=by
   rcases q1 with q1 | ⟨q1,q4⟩
   · exact .inl q1
   · rcases hH.mem.1 (hHB.sub g q1) with⟨b,hb,e1⟩ | h
     · rw[hb,e1]at q4;exact absurd rfl q4
     · exact .inr h
  have hbs:∀k',(look k' (X29 w' σ k st.boxes)).isSome=(st.box k').isSome:=XdJ hH.box
  exact {
   base:=by
    rcases hq with h | ⟨r,h1,h2⟩
    · exact .inl (Nat.le_trans hS.fr.size h)
    · exact hS.hot.base r (hH.hot r h1) g h2
   noM:=fun ad had=>Xbp hle2' (q3 ad had)
   noBox:=fun k' hk' e1=>by
    have hk2:(st.box k').isSome=true:=by rw[←hbs k'];exact hk'
    rw[hst.sbox]at e1
    rcases hq with h | ⟨r,h1,h2⟩
    · have:=hS.box_lt hk2;omega
    · exact hS.hot.noBox r (hH.hot r h1) k' hk2 (e1▸h2)
   noRow:=fun r' hr' e1=>by
    obtain⟨e',he'⟩:=Option.isSome_iff_exists.1 hr'
    obtain⟨rv,h3,h4⟩:=X2B he'
    have hr2:(st.row r').isSome=true:=by
     rcases(X1y h3).2 with h5 | ⟨_,h5⟩
     · obtain⟨_,_,e2,t2,l2,v2,ho2,z2,e3,_⟩:=hst.updOk r' rv h5
       rw[e3]at h4;cases h4
     · rw[show st.row r'=some e' from X3T h5 h4];rfl
    rw[hst.srow]at e1
    rcases hq with h | ⟨r,h1,h2⟩
    · have:=(hS.row_lt hr2 e1).2;omega
    · exact hS.hot.noRow r (hH.hot r h1) r' hr2 g e1 h2
   noHot:=fun r hrh hgr=>by
    obtain⟨e2,t2,l2,v2,ho2,z2,hl⟩:=hrh
    obtain⟨hn,h3⟩:=X1y hl
    rcases h3 with h3 | ⟨h3,h4⟩
    · rcases hσ2 r (by rw[h3];rfl) g hgr with⟨j,e3,m1,m2⟩ | ⟨m1,m2,m3⟩
      · exact hnb (X5k.2 ⟨(j,e3),m1,m2⟩)
      · rcases q1 with q1 | ⟨q1,_⟩
        · have:=hS.hot.lt r m2 g m1;omega
        · exact m3 q1
    · rw[(hst.sfoot r h3).1]at hgr
      have hrh:X0t r st.rows:=⟨_,_,_,_,_,_,h4⟩
      rcases hq with h | ⟨r0,h1,h2⟩
      · have:=hS.hot.lt r hrh g hgr;omega
      · refine hS.hot.apart r0 r (hH.hot r0 h1) hrh (fun e1=>?_) g h2 hgr
        subst e1
        rw[←List.append_assoc]at h1
        rcases List.mem_append.1 h1 with h5 | h5
        · exact hn h5
        · obtain⟨_,_,s3⟩:=X2Q (D:=X3g w σ rows p.1 acs) (FB:=FB) hbr
          have:=s3 r0 h5
          rw[h3]at this;cases this
   lt:=q2}
 have hD1:=fun x hx=>XdP (key:=X0e d) (x:=x) hfresh hel1 nd4 hx
 have hD2:∀x∈ioD d con k FI ivs y.2.1,X21 w' x.t x.v x.l x.fo∧(∃i,P.info? x.e=some i∧i.size=size x.t)∧0<size x.t∧x.fo.Nodup∧(∃j,x.key=Xah d j∧(look j con.ownI).isSome=true∧x.fo=FI j)∧∃b,k=some b:=fun x hx=>by
  cases hk:k with
  | none=>rw[hk]at hx;cases hx
  | some b=>
    rw[hk]at hx
    obtain⟨_,_,_,_,h3,_⟩:=hiv b hk
    obtain⟨k1,k2,k3,k4,k5⟩:=XdP (key:=Xah d) h3 hel2 (by rw[←hbiS b hk];exact nd7) hx
    exact⟨k1,k2,k3,k4,k5,b,rfl⟩
 have hiv':∀b,k=some b→ivs.length=(flat con.I y.2.1).length:=fun b hb=>by obtain⟨_,_,_,_,h3,_⟩:=hiv b hb;exact h3.len
 have hrows:(mkD (X0e d) con.fresh FR 0 cs' (flat con.R y.1)++ioD d con k FI ivs y.2.1).map X7p.row=(X11 con d x y br).nrow:=by
  rw[List.map_append,X7N 0 hfresh.len,Xgf hiv']
  show _=X2r (X0e d) con.fresh 0 (flat con.R y.1)++(match x.k with | some _=>X2r (Xah d) con.ownI 0 (flat con.I y.2.1) | none=>[])
  rw[hxk];cases k<;>rfl
 have hkeys:(mkD (X0e d) con.fresh FR 0 cs' (flat con.R y.1)++ioD d con k FI ivs y.2.1).map (·.key)=(X11 con d x y br).nrow.map (·.1):=by
  rw[←hrows,List.map_map];rfl
 have hin:∀x∈mkD (X0e d) con.fresh FR 0 cs' (flat con.R y.1)++ioD d con k FI ivs y.2.1,∀g∈x.fo,g∈X3Z con.fresh FR∨((∃b,k=some b)∧g∈bi):=fun x hx g hg=>by
  rcases List.mem_append.1 hx with h | h
  · obtain⟨_,_,_,_,j,_,h1,h2⟩:=hD1 x h
    exact .inl (X4s h1 (h2▸hg))
  · obtain⟨_,_,_,_,⟨j,_,h1,h2⟩,b,hb⟩:=hD2 x h
    exact .inr ⟨⟨b,hb⟩,by rw[hbiS b hb];exact X4s h1 (h2▸hg)⟩
 obtain⟨σ3,hS3,r1,r2,r3⟩:=Sim.addHots (mkD (X0e d) con.fresh FR 0 cs' (flat con.R y.1)++ioD d con k FI ivs y.2.1) hS2 (fun q hq0=>by
  have htag:noTag q.key st=true:=by
   have:X7p.row q∈(X11 con d x y br).nrow:=by rw[←hrows];exact List.mem_map.2 ⟨q,hq0,rfl⟩
   exact Xen hft this
  have hodd:q.key % 2=1:=by
   rcases List.mem_append.1 hq0 with h | h
   · obtain⟨_,_,_,_,j,h1,_⟩:=hD1 q h;rw[h1];exact X5V d j
   · obtain⟨_,_,_,_,⟨j,h1,_⟩,_⟩:=hD2 q h;rw[h1];exact Xf8 d j
  have hmore:X21 w' q.t q.v q.l q.fo∧(∃i,P.info? q.e=some i∧i.size=size q.t)∧0<size q.t∧q.fo.Nodup:=by
   rcases List.mem_append.1 hq0 with h | h
   · obtain⟨k1,k2,k3,k4,_⟩:=hD1 q h;exact⟨k1,k2,k3,k4⟩
   · obtain⟨k1,k2,k3,k4,_⟩:=hD2 q h;exact⟨k1,k2,k3,k4⟩
  refine⟨Xd0 htag hbrs,hodd,hmore.1,hmore.2.1,hmore.2.2.1,hmore.2.2.2,fun g hg=>?_⟩
  rcases hin q hq0 g hg with h | ⟨_,h⟩
  · exact hfree g (by simp[h]) (fun h2=>nd6 g h g (by simp[h2]) rfl)
  · exact hfree g (by simp[h]) (fun h2=>nd9 g h g h2 rfl)) (by rw[hkeys];exact X39 hfn) (fun x hx z hz hne g hg hg'=>by
    rcases List.mem_append.1 hx with h | h<;>rcases List.mem_append.1 hz with h' | h'
    · obtain⟨_,_,_,_,j,q1,q2,q3⟩:=hD1 x h
      obtain⟨_,_,_,_,j',q1',q2',q3'⟩:=hD1 z h'
      exact X6S nd4 q2 q2' (fun e1=>hne (by rw[q1,q1',e1])) g (q3▸hg) (q3'▸hg')
    · obtain⟨_,_,_,_,j,q1,q2,q3⟩:=hD1 x h
      obtain⟨_,_,_,_,⟨j',q1',q2',q3'⟩,b,hb⟩:=hD2 z h'
      exact nd6 g (X4s q2 (q3▸hg)) g (List.mem_append.2 (.inl (by rw[hbiS b hb];exact X4s q2' (q3'▸hg')))) rfl
    · obtain⟨_,_,_,_,⟨j,q1,q2,q3⟩,b,hb⟩:=hD2 x h
      obtain⟨_,_,_,_,j',q1',q2',q3'⟩:=hD1 z h'
      exact nd6 g (X4s q2' (q3'▸hg')) g (List.mem_append.2 (.inl (by rw[hbiS b hb];exact X4s q2 (q3▸hg)))) rfl
    · obtain⟨_,_,_,_,⟨j,q1,q2,q3⟩,b,hb⟩:=hD2 x h
      obtain⟨_,_,_,_,⟨j',q1',q2',q3'⟩,_⟩:=hD2 z h'
      exact X6S (by rw[←hbiS b hb];exact nd7) q2 q2' (fun e1=>hne (by rw[q1,q1',e1])) g (q3▸hg) (q3'▸hg'))
 rw[hrows]at hS3
 have hlR:X5d con.fresh 0 (flat con.R y.1)=false∨M2=M':=hlean.imp (fun h=>by
  unfold Con.leans at h
  rw[Bool.or_eq_false_iff]at h
  rw[X6L 0 (X6T con.R y.1 (dfl con.R))];exact h.1) id
 have hlI:X5d con.ownI 0 (flat con.I y.2.1)=false∨M2=M':=hlean.imp (fun h=>by
  unfold Con.leans at h
  rw[Bool.or_eq_false_iff]at h
  rw[X6L 0 (X6T con.I y.2.1 (dfl con.I))];exact h.2) id
 have hrR:∀rows',X0y (RdT σ3 rows' M2) cs' (X6l (X0e d) con.fresh 0 (flat con.R y.1)):=fun rows'=>Xbs hfresh hlR fun z hz=>(r1 z (List.mem_append.2 (.inl hz))).1
 unfold X2Y at hgoes
 cases hnewR:con.newR with
 | false=>
   rw[hnewR]at hnr
   obtain⟨hnb,hres⟩:=hnr
   have hsv:X17 σ3 ((X11 con d x y br).nrow++X07 br (ks++iks) st.rows) (X29 w' σ k st.boxes) M2 (X7F rs) (X11 con d x y br).sv:=by
    simp only[X11,hnewR]
    exact Xeg (XaP hres (hrR _))
   have hS4:=hS3.put (d:=d) hdn hsv
   cases hk:k with
   | none=>
     subst hk
     refine hgoes _ σ3 M2 w' ?_
     rw[hd]at*
     refine Sim.ext ?_ hS4
     refine⟨rfl,fun i=>rfl,fun k'=>?_,fun r=>?_,fun i=>Iff.rfl⟩
     · simp only[St.box,St.put,Eff.apply,X11,hnewR,hxk,X29]
     · simp only[St.rowv,St.put,Eff.apply,X2j]
       rw[show(X11 con d x y br).urow=br from rfl,show(X11 con d x y br).krow=x.kill from rfl,hkill]
   | some b=>
     subst hk
     obtain⟨arr,E,i1,i2,i3,i4⟩:=hiv b rfl
     have hsb:σ3.box b=σ.box b:=by rw[r3,hst.sbox]
     have hS5:=hS4.setBox (k:=b) (ds:=X6l (Xah d) con.ownI 0 (flat con.I y.2.1)) (by simp[St.box,St.put,X29,X01]) (fun arr' E' ha=>by
      rw[hsb,i1]at ha;cases ha
      rw[i2]
      exact Xbs i3 hlI fun z hz=>(r1 z (List.mem_append.2 (.inr hz))).1)
     refine hgoes _ σ3 M2 w' ?_
     rw[hd]at*
     refine Sim.ext ?_ hS5
     refine⟨rfl,fun i=>rfl,fun k'=>?_,fun r=>?_,fun i=>Iff.rfl⟩
     · simp only[St.box,St.put,Eff.apply,X11,hnewR,hxk,X29,X01]
       split
       · rfl
       · rfl
     · simp only[St.rowv,St.put,Eff.apply,X2j]
       rw[show(X11 con d x y br).urow=br from rfl,show(X11 con d x y br).krow=x.kill from rfl,hkill]
 | true=>
   rw[hnewR]at hnr hnew
   have hk:k=none:=by
    cases k with
    | none=>rfl
    | some b=>rw[hio]at hnew;cases hnew
   subst hk
   obtain⟨g,arr,E,hnb,hrs,hg,harr,hgs⟩:=hnr
   subst hnb
   have hgn:g∉X3Z con.fresh FR++(bi++X3Z con.backA FB):=fun h=>nd3 g (by simp) g h rfl
   have hf2:=hfree g (by simp) (fun h=>hgn (by simp[h]))
   have hf3:Xbx base ios σ3 M2 w' {st with rows:=(X11 con d x y br).nrow++X07 br (ks++iks) st.rows,boxes:=X29 w' σ none st.boxes} g:={
    base:=hf2.base
    noM:=hf2.noM
    noBox:=fun k' hk'=>by rw[r3];exact hf2.noBox k' hk'
    noRow:=fun r hrs' e1=>by
     have hS3r:=hS3.row_lt hrs' e1
     obtain⟨e',he'⟩:=Option.isSome_iff_exists.1 hrs'
     obtain⟨rv,h3,h4⟩:=X2B he'
     have h3':look r ((X11 con d x y br).nrow++X07 br (ks++iks) st.rows)=some rv:=h3
     rw[X24]at h3'
     cases hl:look r (X11 con d x y br).nrow with
     | some rv'=>
       rw[hl]at h3';cases h3'
       have:=X1a hl
       rw[←hrows]at this
       obtain⟨z,_,e3⟩:=List.mem_map.1 this
       simp only[X7p.row,Prod.mk.injEq]at e3
       rw[←e3.2]at h4;cases h4
     | none=>
       rw[hl]at h3'
       have hrn:r∉(mkD (X0e d) con.fresh FR 0 cs' (flat con.R y.1)++ioD d con none FI ivs y.2.1).map (·.key):=fun hm=>by
        rw[hkeys]at hm
        obtain⟨q,hq,e3⟩:=List.mem_map.1 hm
        have:(look r (X11 con d x y br).nrow).isSome=true:=X8m.2 ⟨q.2,by rw[←e3];exact hq⟩
        rw[hl]at this;cases this
       rw[(r2 r hrn).1]at e1
       exact hf2.noRow r (by show(X3o r (X07 br (ks++iks) st.rows)).isSome=true;rw[show X3o r (X07 br (ks++iks) st.rows)=some e' from X3T h3' h4];rfl) e1
    noHot:=fun r hrh hgr=>by
     by_cases hm:r∈(mkD (X0e d) con.fresh FR 0 cs' (flat con.R y.1)++ioD d con none FI ivs y.2.1).map (·.key)
     · obtain⟨z,hz,e3⟩:=List.mem_map.1 hm
       rw[←e3,(r1 z hz).2]at hgr
       rcases hin z hz g hgr with h | ⟨⟨b,hb⟩,_⟩
       · exact hgn (by simp[h])
       · cases hb
     · rw[(r2 r hm).2]at hgr
       obtain⟨e2,t2,l2,v2,ho2,z2,hl⟩:=hrh
       have hl':look r ((X11 con d x y br).nrow++X07 br (ks++iks) st.rows)=some (.hot e2 t2 l2 v2 ho2 z2):=hl
       rw[X24]at hl'
       cases hq:look r (X11 con d x y br).nrow with
       | some rv'=>
         refine hm ?_
         rw[hkeys]
         exact List.mem_map.2 ⟨_,X1a hq,rfl⟩
       | none=>
         rw[hq]at hl'
         exact hf2.noHot r ⟨_,_,_,_,_,_,hl'⟩ hgr
    lt:=hf2.lt}
   have hfb':noBox (d+1) st=true:=by
    simp only[X11,hnewR]at hfb;exact hfb
   have hS4:=hS3.adoptBox (d:=d+1) (by omega) hfb' hg hf3 (by rw[harr];exact hrR _)
   have hS5:=hS4.put (d:=d) (v:=X7F rs) (sv:=.box (d+1) 0) hdn ⟨by rw[hrs];simp[X7F,Addr.add],by rw[X01,if_pos rfl];rfl⟩
   refine hgoes _ {σ3 with box:=fun k=>if k=d+1 then g else σ3.box k} M2 w' ?_
   rw[hd]at*
   refine Sim.ext ?_ hS5
   refine⟨rfl,fun i=>?_,fun k'=>?_,fun r=>?_,fun i=>Iff.rfl⟩
   · simp only[St.get,St.put,Eff.apply,X11,hnewR]
   · simp only[St.box,St.put,Eff.apply,X11,hnewR,hxk,X29]
   · simp only[St.rowv,St.put,Eff.apply,X2j]
     rw[show(X11 con d x y br).urow=br from rfl,show(X11 con d x y br).krow=x.kill from rfl,hkill]
end Go.Proofs.Ytakllifahpfmpaa.Bv
namespace Go.Proofs.Ytakllifahpfmpaa.Bv
variable {P:Program} {base:World} {M0:Mem} {ios:Ios} {σ:Sg} {M:Mem} {w:World} {a:Act} {st:St} {tab:Tab} {Γ:Gam} {o:Oper} {next:Act→World→Prop} {Q:Exit→Act→World→Prop}
def FnOk(P:Program)(n:FuncId):Prop:=∃fn,P.funcs[n]?=some fn∧(fn.name== "runtime.NumGoroutine")=false∧fn.body.isNone=false
def X72(P:Program)(Γ:Gam):Prop:=(∀n con,Γ.con n=some con→FnOk P n∧X0z P n con)∧Xfj P Γ.eqs
theorem Xf4{n:FuncId}(hf:FnOk P n){f:Operand}{xs:Array Operand}{ts:Array TypeId}{va vb:Array Value}(ho:o.op=.call {callee:=.value f,args:=xs,argTypes:=ts})(hv:a.eval f=.func (.func n) va vb):
 (execOp a.eval o).run P w=.ok (.enter n ((va++xs.map a.eval)++vb)) w:=by
 obtain⟨fn,h1,h2,h3⟩:=hf
 have h2':fn.name≠ "runtime.NumGoroutine":=by simpa using h2
 have h3':fn.body≠none:=by intro e;rw[e]at h3;simp at h3
 simp[execOp,ho,resolve,hv,Deferred.ofValue,invoke,callFunc,h1,h2',h3',program,Sem.run]
theorem Xbh(hS:Sim P base M0 ios σ M w a st):∀(l:List Operand),X0y (fun v i=>X7g σ st M v i) (l.map a.eval) (l.map (X0Z st))
 | []=>.nil
 | y::l=>.cons (X1g hS y) (Xbh hS l)
theorem Xfg(hS:Sim P base M0 ios σ M w a st){f:Operand}{n:Nat}{first caps:List Cap}(h:(X0Z st f).sv=.fn n first caps):∃va vb,a.eval f=.func (.func n) va vb∧X0y (fun v i=>X7g σ st M v i) va.toList (first.map (X1E.capIn (X0Z st f)))∧X0y (fun v i=>X7g σ st M v i) vb.toList (caps.map (X1E.capIn (X0Z st f))):=by
 have hr:=(X1g hS f).rep
 rw[h]at hr
 obtain⟨va,vb,hv,h1,h2⟩:=hr
 refine⟨va,vb,hv,?_⟩
 have one:∀(l:List Cap) (vs:List Value),(∀c∈l,c∈first++caps)→X0y (X5Q σ st.rows st.boxes M) vs l→X0y (fun v i=>X7g σ st M v i) vs (l.map (X1E.capIn (X0Z st f))):=fun l vs hm hl=>by
  induction hl with
  | nil=>exact .nil
  | @cons v c vs l hx hr ih=>
    refine .cons ?_ (ih fun c hc=>hm c (List.mem_cons_of_mem _ hc))
    have hc:=hm c (by simp)
    cases f with
    | tmp t=>
      have h':X5w _ (st.get t)=.fn n first caps:=h
      have hg:st.get t=.fn n first caps:=by
       cases hgt:st.get t<;>rw[hgt]at h'<;>simp only[X5w]at h'<;>first | (cases h';done) | (cases h';rfl) | skip
       split at h'
       · rw[Bool.cond_eq_ite]at h'
         split at h'<;>cases h'
       · cases h'
      exact X7g.capIn (sv:=st.get t) (by rw[hg];exact hc) hS hx
    | const v=>exfalso;have h':X7c v=.fn n first caps:=h;unfold X7c at h';split at h'<;>cases h'
    | func g=>have h':Sv.fn g [] []=.fn n first caps:=h;cases h';cases hc
    | global g=>have h':Sv.und=.fn n first caps:=h;cases h'
 exact⟨one first _ (fun c hc=>by simp[hc]) h1,one caps _ (fun c hc=>by simp[hc]) h2⟩
theorem X0y.append'{α β:Type}{R:α→β→Prop}{as as':List α}{bs bs':List β}(h:X0y R as bs)(h':X0y R as' bs'):X0y R (as++as') (bs++bs'):=by
 induction h with
 | nil=>exact h'
 | cons x _ ih=>exact .cons x ih
theorem Xe0(hΓ:X72 P Γ)(hS:Sim P base M0 ios σ M w a st)(hd:∀d,o.dst=some d→d<st.nt){con:Con}{ts:List TypeId}{xs:List In}(hc:X1E Γ o (o.op.operands.toList.map (X0Z st))=some (con,ts,xs)){K:Eff→Prop}(h:X7z tab con o ts xs st K)(hn:∀e,K e→X10 e o.dst st=true→X2Y P base M0 ios a o st e next):o.wp P a w next Q:=by
 unfold X7z at h
 split at h
 · rename_i d x hdst hx hnew
   obtain⟨hpre,hpost⟩:=h
   unfold X1E at hc
   split at hc
   · rename_i c f xs' hop hins
     obtain⟨callee,cargs,cts⟩:=c
     cases callee with
     | value fo=>
       have he:o.op.operands.toList=fo::cargs.toList:=by rw[hop];simp[Op.operands,Call.operands]
       rw[he,List.map_cons]at hins
       simp only[List.cons.injEq]at hins
       obtain⟨hf,hxs⟩:=hins
       subst hf;subst hxs
       simp only at hc
       split at hc
       · rename_i n first caps hsv
         split at hc
         · rename_i con' hg
           cases hc
           obtain⟨hfn,hcon⟩:=hΓ.1 n con hg
           obtain⟨va,vb,hv,h1,h2⟩:=Xfg hS hsv
           have hins:=h1.append' ((Xbh hS cargs.toList).append' h2)
           have hrows:=X6y hins
           have hgo:∀(y:El con.R×(El con.I×El con.B)),con.Post x.i x.a y→∃br,X3b x.rows x.cs con.backA (flat con.B y.2.2)=some br∧X10 (X11 con d x y br) (some d) st=true∧X2Y P base M0 ios a o st (X11 con d x y br) next:=fun y hy=>by
            have h3:=hpost y hy
            split at h3
            · rename_i br hbr
              split at h3
              · rename_i hfr
                exact⟨br,hbr,hfr,hn _ h3 (by rw[hdst];exact hfr)⟩
              · exact h3.elim
            · exact h3.elim
           unfold Oper.wp
           rw[Xf4 hfn hop hv,Oper.upon_enter]
           have hargs:((va++cargs.map a.eval)++vb)=(va.toList++(cargs.toList.map a.eval++vb.toList)).toArray:=by apply Array.ext';simp
           rw[hargs]
           rcases Xb9 hx with⟨hio,p,hp,hf⟩ | ⟨hio,hh,x0,k,bc,ic,iks,p,hx0,hsv0,hbx0,hic,hik,hp,hui,hbor,hf⟩ | ⟨hio,hh,x0,xs1,t0,ts',k,bc,ic,iks,p,hx1,ht1,hsv0,hbx0,hic,hik,hp,hui,hbor,hf⟩
           · obtain⟨ks,acs,N,hb,e1,hH,hacs,hMN,hNl,hHB,hcall⟩:=X83 (k:=none) (iks:=[]) (bc:=[]) hS hrows hins hp hf (by rw[hio];rfl) (fun _=>rfl) (fun b hb=>by cases hb) hcon hpre
             rw[Option.map_none,Xe1,List.nil_append]at hcall
             refine Calls.mono hcall ?_
             intro e w' hret
             obtain⟨v,hev,hnx⟩:=X89 hS hrows hH e1 hf.k hf.rows hf.cs hacs hMN hNl hHB hdst (hd d hdst) (by rw[hio];rfl) hnew hret hgo
             subst hev
             exact hnx
           · obtain⟨v0,hy⟩:∃v0,X7g σ st M v0 x0:=by
              obtain⟨j,hj,e⟩:=List.getElem_of_mem hx0
              obtain⟨v0,_,hv0⟩:=hins.get (show _[j]?=some x0 by rw[List.getElem?_eq_getElem hj,e])
              exact⟨v0,hv0⟩
             have hb0:st.box k=some bc:=by rw[←hy.box k 0 (.inr hsv0)];exact hbx0
             obtain⟨ks,acs,N,hb,e1,hH,hacs,hMN,hNl,hHB,hcall⟩:=X83 (k:=some k) (iks:=iks) (bc:=bc) hS hrows hins hp hf (by rw[hio];rfl) (fun h=>by cases h) (fun b hb=>by cases hb;exact⟨hb0,ic,hic,hik,hui,hbor⟩) hcon hpre
             rw[hh]at hcall
             refine Calls.mono hcall ?_
             intro e w' hret
             obtain⟨v,hev,hnx⟩:=X89 hS hrows hH e1 hf.k hf.rows hf.cs hacs hMN hNl hHB hdst (hd d hdst) (by rw[hio];rfl) hnew hret hgo
             subst hev
             exact hnx
           · rw[hx1]at hins
             rw[ht1]at hx
             generalize hvl:va.toList++(cargs.toList.map a.eval++vb.toList)=vals at hins ⊢
             cases hins with
             | @cons v0 _ vs _ hy hrest=>
               have hrep0:=hy.rep
               rw[hsv0]at hrep0
               have hb0:st.box k=some bc:=by rw[←hy.box k 0 (.inl hsv0)];exact hbx0
               have hv0:v0=.pointer (some ⟨σ.box k,0,none⟩):=by rw[hrep0.1];simp[Addr.add]
               rw[hx1]at hf hrows hic hik
               obtain⟨ks,acs,N,hb,e1,hH,hacs,hMN,hNl,hHB,hcall⟩:=X83 (k:=some k) (iks:=iks) (bc:=bc) hS hrows hrest hp hf (by rw[hio];rfl) (fun h=>by cases h) (fun b hb=>by cases hb;exact⟨hb0,ic,hic,hik,hui,hbor⟩) hcon hpre
               rw[hv0]
               rw[hh]at hcall
               refine Calls.mono hcall ?_
               intro e w' hret
               obtain⟨v,hev,hnx⟩:=X89 hS hrows hH e1 hf.k hf.rows hf.cs hacs hMN hNl hHB hdst (hd d hdst) (by rw[hio];rfl) hnew hret hgo
               subst hev
               exact hnx
         · cases hc
       · cases hc
     | _=>cases hc
   · cases hc
 · exact h.elim
end Go.Proofs.Ytakllifahpfmpaa.Bv
namespace Go.Proofs.Ytakllifahpfmpaa.Bv
variable {P:Program} {base:World} {M0:Mem} {ios:Ios} {σ:Sg} {M:Mem} {w:World} {a:Act} {st:St} {tab:Tab} {Γ:Gam} {o:Oper} {next:Act→World→Prop} {Q:Exit→Act→World→Prop}
theorem Xgh(hT:X0q P tab)(hS:Sim P base M0 ios σ M w a st){t tf:TypeId}{ti tif:TI}{x:Operand}{f off:Nat}{cs:List X00}(ho:o.op=.field t x f)(hd:∀d,o.dst=some d→d<st.nt)(h:look t tab=some ti)(hg:ti.agg=true)(hf:ti.fields[f]?=some (off,tf))(htf:look tf tab=some tif)(hx:X17 σ st.rows st.boxes M (a.eval x) (.val true cs))(hl:off+size tif.ty≤cs.length)(hag:tif.agg=true∨size tif.ty=1)(hn:X2Y P base M0 ios a o st {sv:=.val tif.agg ((cs.drop off).take (size tif.ty))} next):o.wp P a w next Q:=by
 obtain⟨vs,hv,hc⟩:=X0h.agg hx
 obtain⟨fs,hfs,hm,_⟩:=X8g hT h hg
 rw[←hm,List.getElem?_map]at hf
 cases hxf:fs.toList[f]? with
 | none=>rw[hxf]at hf;simp at hf
 | some fl=>
   rw[hxf]at hf
   simp only[Option.map_some,Option.some.injEq,Prod.mk.injEq]at hf
   obtain⟨hof,hty⟩:=hf
   have hx':fs[f]?=some fl:=by simpa using hxf
   have hcl:=(hc.drop off).take (size tif.ty)
   have hlen:=hc.length
   have hsz:vs.toList.length=vs.size:=Array.length_toList
   rw[hsz]at hlen
   cases hga:tif.agg with
   | true=>
     refine X0i (v:=.agg (vs.extract off (off+size tif.ty))) (w':=w) ?_ (hn _ σ M w (hS.putO hd ?_))
     · simp[execOp,ho,hv,Instr.field,run_underlying hfs,hx',asAgg,part,hty,hof,X9s hT htf,hga,X2e hT htf]
     · rw[hga]
       refine⟨?_,rfl⟩
       simp only[Value.cells,Array.toList_extract,List.extract_eq_take_drop,Nat.add_sub_cancel_left]
       exact hcl
   | false=>
     have hs1:size tif.ty=1:=by rw[hga]at hag;simpa using hag
     have hlt:off<vs.size:=by omega
     refine X0i (v:=vs[off]) (w':=w) ?_ (hn _ σ M w (hS.putO hd ?_))
     · simp[execOp,ho,hv,Instr.field,run_underlying hfs,hx',asAgg,part,hty,hof,X9s hT htf,hga,Array.getElem?_eq_getElem hlt]
     · rw[hga]
       rw[hs1]at hcl ⊢
       have e1:(vs.toList.drop off).take 1=[vs[off]]:=by
        rw[List.drop_eq_getElem_cons (by simpa using hlt)];simp
       rw[e1]at hcl
       cases hd':(cs.drop off).take 1 with
       | nil=>rw[hd']at hcl;cases hcl
       | cons c r=>
         rw[hd']at hcl
         cases hcl with
         | cons hx1 hr1=>cases hr1;exact X0h.mk1 hx1 (by have:=hx1.1.oneCell;cases h:vs[off]<;>rw[h]at this<;>simp[X4l,Value.oneCell']at this ⊢)
theorem Xek(hS:Sim P base M0 ios σ M w a st){x:Operand}{i:Nat}{l:List (Bool×List X00)}{p:Bool×List X00}(ho:o.op=.extract x i)(hd:∀d,o.dst=some d→d<st.nt)(hx:X17 σ st.rows st.boxes M (a.eval x) (.tup l))(hl:l[i]?=some p)(hn:X2Y P base M0 ios a o st {sv:=.val p.1 p.2} next):o.wp P a w next Q:=by
 obtain⟨vs,hv,h⟩:=hx
 obtain⟨v,hvi,hr⟩:=h.get hl
 refine X0i (v:=v) (w':=w) ?_ (hn _ σ M w (hS.putO hd hr))
 have:vs[i]?=some v:=by simpa using hvi
 simp[execOp,ho,hv,Instr.extract,this]
theorem bsize(s:List UInt8):(⟨s.toArray⟩:ByteArray).size=s.length:=by simp[ByteArray.size]
theorem Xer(hT:X0q P tab)(hS:Sim P base M0 ios σ M w a st){t e:TypeId}{fs:List (Nat×TypeId)}{b:Nat}{x:Operand}{s:List UInt8}(ho:o.op=.call {callee:=.builtin .len,args:=#[x],argTypes:=#[t]})(hd:∀d,o.dst=some d→d<st.nt)(h:look t tab=some ⟨.str,false,fs,e,b⟩)(hx:X17 σ st.rows st.boxes M (a.eval x) (.val false [.str s]))(hn:X2Y P base M0 ios a o st {sv:=.val false [.int .i64 s.length]} next):o.wp P a w next Q:=by
 have hv:=(X0h.one hx).str
 refine X0i (v:=.int .i64 s.length) (w':=w) ?_ (hn _ σ M w (hS.putO hd (X3h _ _)))
 have hu:=Xcv hT h
 simp[execOp,ho,resolve,invoke,builtin,Builtin.len_,hv,run_underlying hu,goInt,bsize]
theorem Xaf(hT:X0q P tab)(hS:Sim P base M0 ios σ M w a st){s t e:TypeId}{k k':IntKind}{fs:List (Nat×TypeId)}{b:Nat}{x:Operand}{n:Int}{ts:TI}(ho:o.op=.convert s t x)(hd:∀d,o.dst=some d→d<st.nt)(h:look t tab=some ⟨.int k,false,fs,e,b⟩)(hs:look s tab=some ts)(hx:X17 σ st.rows st.boxes M (a.eval x) (.val false [.int k' n]))(hn:X2Y P base M0 ios a o st {sv:=.val false [.int k (k.wrap n)]} next):o.wp P a w next Q:=by
 have hv:=(X0h.one hx).int
 refine X0i (v:=.int k (k.wrap n)) (w':=w) ?_ (hn _ σ M w (hS.putO hd (X3h _ _)))
 obtain⟨d1,hd1⟩:=XgO hT hs
 simp[execOp,ho,hv,convert,run_underlying hd1,run_underlying (Xhv hT h),Conv.intToInt]
theorem X6f{rows:List (Nat×X0f)}{boxes:List (Nat×List X00)}{v:Value}{sv:Sv}{t:TypeId}{cs:List X00}(h:X17 σ rows boxes M v sv)(hc:X4p tab t sv=some cs):X0y (RdT σ rows M) v.cells.toList cs:=by
 have ht:=X55 (tab:=tab) t h
 unfold X4p at hc
 split at hc
 · rename_i ag cs' he
   cases hc
   rw[he]at ht
   exact ht.1
 · cases hc
theorem XdG{parts:List (Nat×Operand)}(hS:Sim P base M0 ios σ M w a st){f:Nat→Option TypeId}:∀{ps:List (Nat×List X00)},
 (((parts.map (·.1)).zip ((parts.map (·.2)).map (X0Z st))).mapM fun p=>(f p.1).bind fun t=>(X4p tab t p.2.sv).bind fun cs=>some (p.1,cs))=some ps→
 X0y (fun(p:Nat×Value) (q:Nat×List X00)=>p.1=q.1∧X0y (RdT σ st.rows M) p.2.cells.toList q.2) (parts.map fun p=>(p.1,a.eval p.2)) ps:=by
 induction parts with
 | nil=>intro ps h;simp at h;subst h;exact .nil
 | cons p parts ih=>
   intro ps h
   simp only[List.map_cons,List.zip_cons_cons,List.mapM_cons,Option.bind_eq_bind,Option.pure_def,Option.bind_eq_some_iff]at h
   obtain⟨q,⟨t,ht,cs,hc,e⟩,qs,hq,e2⟩:=h
   cases e;cases e2
   exact .cons ⟨rfl,X6f (X1g hS p.2).rep hc⟩ (ih hq)
theorem X74(parts:Array (Nat×Operand)):(parts.toList.map (·.2)).toArray.toList=parts.toList.map (·.2):=by simp
theorem X4Y(hS:Sim P base M0 ios σ M w a st){y:Operand}{n:Int}(h:intOf? (X0Z st y)=some n):∃k,a.eval y=.int k n:=by
 have hr:=(X1g hS y).rep
 unfold intOf? at h
 split at h
 · rename_i k m hsv
   rw[hsv]at hr
   cases h
   exact⟨k,(X0h.one hr).int⟩
 · cases h
theorem Xca(hT:X0q P tab)(hS:Sim P base M0 ios σ M w a st){t e0:TypeId}{ti te:TI}{τ0 τ:Ty}{x:Operand}{lo hi:Option Operand}{l:List (El τ)}{r ver:Nat}{z:Bool}{n m:Option Int}{kl kh:IntKind}(ho:o.op=.slice t x lo hi none)(hd:∀d,o.dst=some d→d<st.nt)(h:look t tab=some ti)(hty:ti.ty=.list τ0)(hg:ti.agg=false)(he:look ti.elem tab=some te)(hs:size te.ty=size τ)(hr:look r st.rows=some (.hot e0 τ l ver none z))(hx:a.eval x=σ.row r)(hlo:lo.map a.eval=n.map (Value.int kl))(hhi:hi.map a.eval=m.map (Value.int kh))(hps:∀p∈(X20 τ l n m).1,p)(hn:X2Y P base M0 ios a o st {sv:=.val false [.sub τ r (X20 τ l n m).2.2.1 (X20 τ l n m).2.2.2]} next):o.wp P a w next Q:=by
 obtain⟨k1,k2,k3,k4,_,k6⟩:=X43 hps
 have hok:=hS.hotAt hr
 obtain⟨ad,cap,hv,hc,hm⟩:=X21.slice (show X21 w τ (σ.row r) l (σ.foot r) from hok.own)
 refine X0i (X3L (τ:=τ) hT ho h hty hg he hs (by rw[hx];exact hv) hlo hhi k1 k2 k3 k4 hc) (hn _ σ M w (hS.putO hd (X0h.mk1 ⟨rfl,fun _=>?_⟩ rfl)))
 rw[k6]
 exact⟨ad,_,cap,_,hv,k3,k4,rfl,fun hlt=>by rw[if_neg (by omega)]⟩
theorem Xbm(hT:X0q P tab)(hS:Sim P base M0 ios σ M w a st){t e0:TypeId}{ti te:TI}{τ0 τ:Ty}{x:Operand}{lo hi:Option Operand}{l:List (El τ)}{d r ver:Nat}{z:Bool}{n m:Option Int}{kl kh:IntKind}(ho:o.op=.slice t x lo hi none)(hd:o.dst=some d)(hdn:d<st.nt)(h:look t tab=some ti)(hty:ti.ty=.list τ0)(hg:ti.agg=false)(he:look ti.elem tab=some te)(hs:size te.ty=size τ)(hr:look r st.rows=some (.hot e0 τ l ver none z))(hx:a.eval x=σ.row r)(hlo:lo.map a.eval=n.map (Value.int kl))(hhi:hi.map a.eval=m.map (Value.int kh))(hps:∀p∈(X20 τ l n m).1,p)(hfr:noTag (X0e d 0) st=true)(hn:X2Y P base M0 ios a o st {sv:=.val false [.own τ (X0e d 0)],nrow:=[(X0e d 0,.hot e0 τ (X20 τ l n m).2.1 0 none false)],krow:=[r]} next):o.wp P a w next Q:=by
 obtain⟨k1,k2,k3,k4,k5,k6⟩:=X43 hps
 have hok:=hS.hotAt hr
 have hown:X21 w τ (σ.row r) l (σ.foot r):=hok.own
 obtain⟨ad,cap,hv,hc,hm⟩:=X21.slice hown
 obtain⟨bs',p1,p2,p3⟩:=X21.piece hown hok.nodup hv k3 k4
 refine X0i (X3L (τ:=τ) hT ho h hty hg he hs (by rw[hx];exact hv) hlo hhi k1 k2 k3 k4 hc) ?_
 refine X7P (S:=[]) (fo:=bs') (e:=e0) (t:=τ) (z:=false) (ks:=[r]) hS hd hdn (Nat.le_refl _) rfl rfl rfl (fun _ _ _=>rfl) (fun g hg=>by cases hg) (fun g hg=>⟨X0u.lt p1 g hg,.inr ⟨r,by simp,⟨_,_,_,_,_,_,hr⟩,p3 g hg⟩⟩) hok.info hok.pos (by rw[k5];exact p1) p2 (fun h=>by cases h) hfr hn
theorem XbS(hT:X0q P tab)(hS:Sim P base M0 ios σ M w a st){t e0:TypeId}{ti te:TI}{τ0 τ:Ty}{x:Operand}{lo hi:Option Operand}{l:List (El τ)}{r ver lo0 hi0:Nat}{z:Bool}{n m:Option Int}{kl kh:IntKind}(ho:o.op=.slice t x lo hi none)(hd:∀d,o.dst=some d→d<st.nt)(h:look t tab=some ti)(hty:ti.ty=.list τ0)(hg:ti.agg=false)(he:look ti.elem tab=some te)(hs:size te.ty=size τ)(hr:look r st.rows=some (.hot e0 τ l ver none z))(hx:Xa7 τ (σ.row r) lo0 hi0 (a.eval x))(hlo:lo.map a.eval=n.map (Value.int kl))(hhi:hi.map a.eval=m.map (Value.int kh))(hps:∀p∈(X20 τ ((l.take hi0).drop lo0) n m).1,p)(hn:X2Y P base M0 ios a o st {sv:=.val false [.sub τ r (lo0+(X20 τ ((l.take hi0).drop lo0) n m).2.2.1) (lo0+(X20 τ ((l.take hi0).drop lo0) n m).2.2.2)]} next):o.wp P a w next Q:=by
 obtain⟨k1,k2,k3,k4,_,k6⟩:=X43 hps
 have hok:=hS.hotAt hr
 obtain⟨ad,nn,cap,ad',hv,q1,q2,q3,q4⟩:=hx
 obtain⟨hnn,hc⟩:=X21.cap (show X21 w τ (σ.row r) l (σ.foot r) from hok.own) hv
 have hlen:List.length ((l.take hi0).drop lo0)=hi0 - lo0:=by rw[List.length_drop,List.length_take];omega
 rw[hlen]at k3 k4
 refine X0i (X3L (τ:=τ) hT ho h hty hg he hs q3 hlo hhi k1 k2 k3 k4 (by omega)) (hn _ σ M w (hS.putO hd (X0h.mk1 ⟨rfl,fun _=>?_⟩ rfl)))
 rw[k6,hlen]
 refine⟨ad,nn,cap,(if cap - lo0=X5j n then ad' else ad'.map (·.add (X5j n*size τ))),hv,by simp only;omega,by simp only;omega,?_,fun hlt=>?_⟩
 · simp only
   congr 1
   · omega
   · omega
 · simp only at hlt ⊢
   rw[if_neg (by omega),q4 (by omega)]
   cases ad with
   | none=>rfl
   | some ad=>simp[Addr.add_add,Nat.add_mul]
theorem Xc4(hT:X0q P tab)(hS:Sim P base M0 ios σ M w a st){t:TypeId}{ti te:TI}{τ0 τ:Ty}{x:Operand}{lo hi:Option Operand}{l:List (El τ)}{r ver:Nat}{p:Option (Nat×Nat)}{n m:Option Int}{kl kh:IntKind}{rv:X0f}(ho:o.op=.slice t x lo hi none)(hd:∀d,o.dst=some d→d<st.nt)(h:look t tab=some ti)(hty:ti.ty=.list τ0)(hg:ti.agg=false)(he:look ti.elem tab=some te)(hs:size te.ty=size τ)(hr:look r st.rows=some rv)(hver:rv.ver?=some ver)(hx:RdT σ st.rows M (a.eval x) (.bor τ l r ver p))(hlo:lo.map a.eval=n.map (Value.int kl))(hhi:hi.map a.eval=m.map (Value.int kh))(hps:∀p∈(X20 τ l n m).1,p)(hn:X2Y P base M0 ios a o st {sv:=.val false [.bor τ (X20 τ l n m).2.1 r ver none]} next):o.wp P a w next Q:=by
 obtain⟨k1,k2,k3,k4,k5,k6⟩:=X43 hps
 obtain⟨hrd,_⟩:=hx.2 rv hr hver
 have hrd':=hrd
 obtain⟨ad,cap,hv,hc,hm,_⟩:=hrd'
 have hv':a.eval x=.slice ad (List.length l) cap:=List.head_eq_of_cons_eq hv
 refine X0i (X3L (τ:=τ) hT ho h hty hg he hs hv' hlo hhi k1 k2 k3 k4 hc) (hn _ σ M w (hS.putO hd (X0h.mk1 ⟨rfl,fun rv' hr' hver'=>⟨?_,fun i off e=>by cases e⟩⟩ rfl)))
 rw[hv']at hrd
 rw[k5]
 exact RdC.slice hrd k3 k4
end Go.Proofs.Ytakllifahpfmpaa.Bv
namespace Go.Proofs.Ytakllifahpfmpaa.Bv
variable {P:Program} {base:World} {M0:Mem} {ios:Ios} {σ:Sg} {M:Mem} {w:World} {a:Act} {st:St} {tab:Tab} {Γ:Gam} {o:Oper} {next:Act→World→Prop} {Q:Exit→Act→World→Prop}
theorem XhN(hS:Sim P base M0 ios σ M w a st){x:Operand}{τ:Ty}{r:Nat}{rv:X0f}(hsv:(X0Z st x).sv=.val false [.own τ r])(hl:look r (X0Z st x).rows=some rv):look r st.rows=some rv∧a.eval x=σ.row r:=by
 have hx:=X1g (M:=M) hS x
 have hr:=hx.rep
 rw[hsv]at hr
 have hl':=hx.rows r rv hl
 exact⟨hl',(X0h.one hr).2 (by rw[hl'];rfl)⟩
theorem Xhy(hS:Sim P base M0 ios σ M w a st){x:Operand}{τ:Ty}{r lo hi:Nat}{rv:X0f}(hsv:(X0Z st x).sv=.val false [.sub τ r lo hi])(hl:look r (X0Z st x).rows=some rv):look r st.rows=some rv∧Xa7 τ (σ.row r) lo hi (a.eval x):=by
 have hx:=X1g (M:=M) hS x
 have hr:=hx.rep
 rw[hsv]at hr
 have hl':=hx.rows r rv hl
 exact⟨hl',(X0h.one hr).2 (by rw[hl'];rfl)⟩
theorem X1S{τ:Ty}(l:List (El τ)):X3t rfl l=l:=rfl
theorem Xee{τ:Ty}{tag:Option Nat}{rows:List (Nat×X0f)}{b:Option Int}{r:Nat}(h:Xh9 τ tag rows b=some r):∃e L ver,tag=some r∧look r rows=some (.frz e τ L ver true)∧r≠0:=by
 unfold Xh9 at h
 split at h
 · rename_i r'
   split at h
   · rename_i e τ' L ver hl
     split at h
     · rename_i hc
       obtain⟨rfl,h0⟩:=hc
       cases h
       exact⟨e,L,ver,rfl,hl,h0⟩
     · cases h
   · cases h
 · cases h
theorem Xb5(hT:X0q P tab)(hS:Sim P base M0 ios σ M w a st){t:TypeId}{ti te:TI}{τ0 τ:Ty}{x:Operand}{lo hi:Option Operand}{l:List (El τ)}{tag:Option Nat}{r:Nat}{n m:Option Int}{kl kh:IntKind}(ho:o.op=.slice t x lo hi none)(hd:∀d,o.dst=some d→d<st.nt)(h:look t tab=some ti)(hty:ti.ty=.list τ0)(hg:ti.agg=false)(he:look ti.elem tab=some te)(hs:size te.ty=size τ)(hx:X17 σ st.rows st.boxes M (a.eval x) (.val false [.lst τ l tag]))(hrow:a.eval x=σ.row r)(hlo:lo.map a.eval=n.map (Value.int kl))(hhi:hi.map a.eval=m.map (Value.int kh))(hps:∀p∈(X20 τ l n m).1,p)(hn:X2Y P base M0 ios a o st {sv:=.val false [.sub τ r (X20 τ l n m).2.2.1 (X20 τ l n m).2.2.2]} next):o.wp P a w next Q:=by
 obtain⟨k1,k2,k3,k4,_,k6⟩:=X43 hps
 have hx':=(X0h.one hx).1
 obtain⟨ad,cap,e,hc,hm,_⟩:=hx'
 have hv:a.eval x=.slice ad l.length cap:=List.head_eq_of_cons_eq e
 refine X0i (X3L (τ:=τ) hT ho h hty hg he hs hv hlo hhi k1 k2 k3 k4 hc) (hn _ σ M w (hS.putO hd (X0h.mk1 ⟨rfl,fun _=>?_⟩ rfl)))
 rw[k6]
 exact⟨ad,_,cap,_,by rw[←hrow];exact hv,k3,k4,rfl,fun hlt=>by rw[if_neg (by omega)]⟩
theorem X5t{t:TypeId}{ti:TI}{x:Operand}{lo hi:Option Operand}{n m:Option Int}{kl kh:IntKind}{ps:List Prop}{e:Eff}(hT:X0q P tab)(hS:Sim P base M0 ios σ M w a st)(hop:o.op=.slice t x lo hi none)(hd:∀d,o.dst=some d→d<st.nt)(ht:look t tab=some ti)(hlo:lo.map a.eval=n.map (Value.int kl))(hhi:hi.map a.eval=m.map (Value.int kh))(h:XaG tab Γ o ti (X0Z st x) n m=some (ps,e))(hps:∀p∈ps,p)(hf:noTags st e.nrow=true)(hn:X2Y P base M0 ios a o st e next):o.wp P a w next Q:=by
 have hr1:=(X1g (M:=M) hS x).rep
 unfold XaG at h
 split at h
 · rename_i s hsv hty hg
   rw[hsv]at hr1
   split at h<;>(simp only[Option.some.injEq,Prod.mk.injEq]at h;obtain⟨rfl,rfl⟩:=h)
   · exact X5n hT hS hop hd ht hty hg hr1 hlo hhi (fun _ e=>by cases e) (fun _ e=>by cases e) (by simp[X5j]) (by simp[X56]) (by simpa [X5j,X56] using hn)
   · rename_i j
     have h0:0≤j:=hps _ (by simp)
     have h1:j≤s.length:=hps _ (by simp)
     exact X5n hT hS hop hd ht hty hg hr1 hlo hhi (fun _ e=>by cases e;exact h0) (fun _ e=>by cases e) (by simp only[X5j,X56];omega) (by simp[X56]) (by simpa [X5j,X56] using hn)
   · rename_i j
     have h0:0≤j:=hps _ (by simp)
     have h1:j≤s.length:=hps _ (by simp)
     exact X5n hT hS hop hd ht hty hg hr1 hlo hhi (fun _ e=>by cases e) (fun _ e=>by cases e;exact h0) (by simp[X5j]) (by simp only[X56];omega) (by simpa [X5j,X56] using hn)
   · rename_i j j'
     have h0:0≤j:=hps _ (by simp)
     have h2:j≤j':=hps _ (by simp)
     have h1:j'≤s.length:=hps _ (by simp)
     exact X5n hT hS hop hd ht hty hg hr1 hlo hhi (fun _ e=>by cases e;exact h0) (fun _ e=>by cases e;omega) (by simp only[X5j,X56];omega) (by simp only[X56];omega) (by simpa [X5j,X56] using hn)
 · rename_i τ l tag τ0 hsv hty hg
   rw[hsv]at hr1
   split at h
   · rename_i te he
     split at h
     · rename_i hs
       simp only at h
       split at h
       · split at h
         · rename_i r htl
           simp only[Option.some.injEq,Prod.mk.injEq]at h
           obtain⟨rfl,rfl⟩:=h
           obtain⟨e',L,ver,h1,h2,h3⟩:=Xee htl
           have hl':=(X1g (M:=M) hS x).rows _ _ h2
           have htg:=(X0h.one hr1).2
           subst h1
           simp only[X59,if_neg h3]at htg
           exact Xb5 hT hS hop hd ht hty hg he hs hr1 (htg (by rw[hl'];rfl)) hlo hhi hps hn
         · cases h
       · simp only[Option.some.injEq,Prod.mk.injEq]at h
         obtain⟨rfl,rfl⟩:=h
         obtain⟨k1,k2,k3,k4,k5,k6⟩:=X43 hps
         rw[k5]at hn
         exact Xbw hT hS hop hd ht hty hg he hs hr1 hlo hhi k1 k2 k3 k4 hn
     · cases h
   · cases h
 · rename_i τ r τ0 hsv hty hg
   split at h
   · rename_i te e' τ' l ver z he hl
     obtain⟨hl',hx⟩:=XhN hS hsv hl
     split at h
     · rename_i hτ
       subst hτ
       split at h
       · rename_i hs
         simp only[X1S]at h
         split at h
         · rename_i d hdst htk
           simp only[Option.some.injEq,Prod.mk.injEq]at h
           obtain⟨rfl,rfl⟩:=h
           simp only[noTags,Bool.and_true]at hf
           exact Xbm hT hS hop hdst (hd d hdst) ht hty hg he hs hl' hx hlo hhi hps hf hn
         · simp only[Option.some.injEq,Prod.mk.injEq]at h
           obtain⟨rfl,rfl⟩:=h
           exact Xca hT hS hop hd ht hty hg he hs hl' hx hlo hhi hps hn
       · cases h
     · cases h
   · cases h
 · rename_i τ r lo0 hi0 τ0 hsv hty hg
   split at h
   · rename_i te e' τ' l ver z he hl
     obtain⟨hl',hx⟩:=Xhy hS hsv hl
     split at h
     · rename_i hτ
       subst hτ
       split at h
       · rename_i hs
         simp only[X1S,Option.some.injEq,Prod.mk.injEq]at h
         obtain⟨rfl,rfl⟩:=h
         exact XbS hT hS hop hd ht hty hg he hs hl' hx hlo hhi hps hn
       · cases h
     · cases h
   · cases h
 · rename_i τ l r ver p τ0 hsv hty hg
   split at h
   · rename_i te e' τ' l' ver' ho z he hl
     split at h
     · rename_i hv
       subst hv
       split at h
       · rename_i hs
         simp only[Option.some.injEq,Prod.mk.injEq]at h
         obtain⟨rfl,rfl⟩:=h
         rw[hsv]at hr1
         exact Xc4 hT hS hop hd ht hty hg he hs ((X1g (M:=M) hS x).rows _ _ hl) rfl (X0h.one hr1) hlo hhi hps hn
       · cases h
     · cases h
   · cases h
 · cases h
theorem XcE{t:TypeId}{x:Operand}{lo hi:Option Operand}{ps:List Prop}{e:Eff}(hT:X0q P tab)(hS:Sim P base M0 ios σ M w a st)(hop:o.op=.slice t x lo hi none)(hd:∀d,o.dst=some d→d<st.nt)(h:Xbv tab Γ o t lo hi (X0Z st x) ((lo.toList++hi.toList).map (X0Z st))=some (ps,e))(hps:∀p∈ps,p)(hf:noTags st e.nrow=true)(hn:X2Y P base M0 ios a o st e next):o.wp P a w next Q:=by
 unfold Xbv at h
 cases ht:look t tab with
 | none=>simp[ht]at h
 | some ti=>
   simp only[ht]at h
   cases lo with
   | none=>cases hi with
     | none=>exact X5t (n:=none) (m:=none) (kl:=.i64) (kh:=.i64) hT hS hop hd ht rfl rfl h hps hf hn
     | some z=>
       simp only[Option.toList_none,Option.toList_some,List.nil_append,List.map_cons,List.map_nil]at h
       cases hz:intOf? (X0Z st z) with
       | none=>simp[hz]at h
       | some m=>
         simp only[hz]at h
         obtain⟨k,hk⟩:=X4Y hS hz
         exact X5t (n:=none) (m:=some m) (kl:=.i64) (kh:=k) hT hS hop hd ht rfl (by simp[hk]) h hps hf hn
   | some y=>cases hi with
     | none=>
       simp only[Option.toList_none,Option.toList_some,List.append_nil,List.map_cons,List.map_nil]at h
       cases hy:intOf? (X0Z st y) with
       | none=>simp[hy]at h
       | some n=>
         simp only[hy]at h
         obtain⟨k,hk⟩:=X4Y hS hy
         exact X5t (n:=some n) (m:=none) (kl:=k) (kh:=.i64) hT hS hop hd ht (by simp[hk]) rfl h hps hf hn
     | some z=>
       simp only[Option.toList_some,List.cons_append,List.nil_append,List.map_cons,List.map_nil]at h
       cases hy:intOf? (X0Z st y) with
       | none=>simp[hy]at h
       | some n=>
         cases hz:intOf? (X0Z st z) with
         | none=>simp[hy,hz]at h
         | some m=>
           simp only[hy,hz]at h
           obtain⟨k,hk⟩:=X4Y hS hy
           obtain⟨k',hk'⟩:=X4Y hS hz
           exact X5t (n:=some n) (m:=some m) (kl:=k) (kh:=k') hT hS hop hd ht (by simp[hk]) (by simp[hk']) h hps hf hn
theorem Xeh(hS:Sim P base M0 ios σ M w a st){τ:Ty}{yc:X00}{yi:In}{v:Value}{l2:List (El τ)}{ks:List Nat}(hyr:∀r rv,look r yi.rows=some rv→look r st.rows=some rv)(hy:RdT σ st.rows M v yc)(hb:Xbn τ yc yi=some (l2,ks)):
 ∃b',X6u w τ v l2 b'∧b'.Nodup∧(∀g∈b',∃r∈ks,X0t r st.rows∧g∈σ.foot r):=by
 unfold Xbn at hb
 cases hfl:X5Y τ with
 | true=>
   simp only[hfl]at hb
   split at hb
   · rename_i t' l' tag hv
     split at hb
     · rename_i htt
       subst htt
       simp only[X1S,Option.some.injEq,Prod.mk.injEq]at hb
       obtain⟨rfl,rfl⟩:=hb
       exact⟨[],X6u.flat hfl (XdS hS hyr hy hv),List.nodup_nil,fun g hg=>by cases hg⟩
     · cases hb
   · cases hb
 | false=>
   simp only[hfl]at hb
   cases yc with
   | own t' r=>
     simp only at hb
     split at hb
     · rename_i e1 t1 l1 v1 z1 hl
       split at hb
       · rename_i h1
         subst h1
         split at hb
         · rename_i h2
           subst h2
           simp only[X1S,Option.some.injEq,Prod.mk.injEq]at hb
           obtain⟨rfl,rfl⟩:=hb
           have hl':=hyr _ _ hl
           have hok:=hS.hotAt hl'
           have hv:v=σ.row r:=hy.2 (by rw[hl'];rfl)
           obtain⟨b',k1,k2,k3⟩:=X6u.own (show X21 w _ (σ.row r) _ (σ.foot r) from hok.own) hok.nodup
           rw[hv]
           exact⟨b',k1,k2,fun g hg=>⟨r,by simp,⟨_,_,_,_,_,_,hl'⟩,k3 g hg⟩⟩
         · cases hb
       · cases hb
     · cases hb
   | lst t' l tag=>
     match l,tag,hy,hb with
     | [],some 0,hy,hb=>
       cases hb
       have hv:v=.slice none 0 0:=by have:=hy.2;simpa [X59] using this
       exact⟨[],.none hv rfl rfl,List.nodup_nil,fun g hg=>by cases hg⟩
     | [],none,hy,hb=>cases hb
     | [],some (k+1),hy,hb=>cases hb
     | _::_,none,hy,hb=>cases hb
     | _::_,some k,hy,hb=>cases hb
   | emp t'=>
     cases hb
     obtain⟨ad,hv⟩:=hy.2
     exact⟨[],.none hv rfl rfl,List.nodup_nil,fun g hg=>by cases hg⟩
   | _=>cases hb
theorem X9o{e:TypeId}{τ:Ty}{d:Nat}{xi yi:In}{xc yc:X00}{ps:List Prop}{ef:Eff}{t:TypeId}{te:TI}{fs:List (Nat×TypeId)}{b:Nat}{x y:Operand}(hT:X0q P tab)(hS:Sim P base M0 ios σ M w a st)(ho:o.op=.call {callee:=.builtin .append,args:=#[x,y],argTypes:=#[t,t]})(hd:o.dst=some d)(hdn:d<st.nt)(h:look t tab=some ⟨.list τ,false,fs,e,b⟩)(he:look e tab=some te)(hte:te.ty=τ)(hpos:0<size τ)(hxr:∀r rv,look r xi.rows=some rv→look r st.rows=some rv)(hyr:∀r rv,look r yi.rows=some rv→look r st.rows=some rv)(hx:RdT σ st.rows M (a.eval x) xc)(hy:RdT σ st.rows M (a.eval y) yc)(hh:X5W e τ te.bytes d xi xc yc yi=some (ps,ef))(hps:∀p∈ps,p)(hf:noTags st ef.nrow=true)(hnv:noVers st ef.urow=true)(hn:X2Y P base M0 ios a o st ef next):o.wp P a w next Q:=by
 unfold X5W at hh
 simp only at hh
 cases hbk:Xbn τ yc yi with
 | none=>simp[hbk]at hh
 | some pr=>
   obtain⟨l2,ks⟩:=pr
   simp only[hbk]at hh
   obtain⟨b',hb1,hb2,hb3⟩:=Xeh hS hyr hy hbk
   have nilCase:a.eval x=.slice none 0 0∨(∃ad,a.eval x=.slice ad 0 0)→some ([(([]:List (El τ)).length+l2.length≤9223372036854775807:Prop),(([]:List (El τ)).length+l2.length)*te.bytes≤140737488355328],({sv:=.val false [.own τ (X0e d 0)],nrow:=[(X0e d 0,.hot e τ ([]++l2) 0 none false)],krow:=ks,urow:=[]}:Eff))=some (ps,ef)→o.wp P a w next Q:=fun hv hh=>by
    simp only[Option.some.injEq,Prod.mk.injEq]at hh
    obtain⟨rfl,rfl⟩:=hh
    obtain⟨ad,hv⟩:∃ad,a.eval x=.slice ad 0 0:=by
     rcases hv with h | h
     · exact⟨none,h⟩
     · exact h
    simp only[noTags,Bool.and_true]at hf
    exact X7v (bs:=[]) (b':=b') (ks:=ks) (l:=[]) (l2:=l2) hT hS ho hd hdn h he hte hpos (by rw[hv];exact X21.emp ad) List.nodup_nil hb1 hb2 (fun g hg hg'=>by cases hg') (fun g hg=>by cases hg) hb3 (hps _ (by simp)) (hps _ (by simp)) hf hn
   cases xc with
   | own t' r=>
     simp only at hh
     split at hh
     · rename_i e1 t1 l1 v1 z1 hl
       split at hh
       · rename_i h1
         subst h1
         split at hh
         · rename_i h2
           subst h2
           split at hh
           · rename_i hnm
             simp only[X1S,Option.some.injEq,Prod.mk.injEq]at hh
             obtain⟨rfl,rfl⟩:=hh
             have hl':=hxr _ _ hl
             have hok:=hS.hotAt hl'
             have hv:a.eval x=σ.row r:=hx.2 (by rw[hl'];rfl)
             simp only[noTags,Bool.and_true]at hf
             have hrh:X0t r st.rows:=⟨_,_,_,_,_,_,hl'⟩
             refine X7v (bs:=σ.foot r) (b':=b') (ks:=r::ks) (l:=l1) (l2:=l2) hT hS ho hd hdn h he hte hpos (by rw[hv];exact hok.own) hok.nodup hb1 hb2 (fun g hg hg'=>?_) (fun g hg=>⟨r,by simp,hrh,hg⟩) (fun g hg=>?_) (hps _ (by simp)) (hps _ (by simp)) hf hn
             · obtain⟨r',m1,m2,m3⟩:=hb3 g hg
               exact hS.hot.apart r' r m2 hrh (fun e=>X1z.1 hnm (e▸m1)) g m3 hg'
             · obtain⟨r',m1,m2,m3⟩:=hb3 g hg
               exact⟨r',List.mem_cons_of_mem _ m1,m2,m3⟩
           · cases hh
         · cases hh
       · cases hh
     · cases hh
   | lst t' l tag=>
     match l,tag,hx,hh with
     | [],some 0,hx,hh=>exact nilCase (.inl (by have:=hx.2;simpa [X59] using this)) hh
     | [],none,hx,hh=>cases hh
     | [],some (k+1),hx,hh=>cases hh
     | _::_,none,hx,hh=>cases hh
     | _::_,some k,hx,hh=>cases hh
   | emp t'=>exact nilCase (.inr hx.2) hh
   | bor t' l r ver p=>
     cases p with
     | none=>cases hh
     | some p=>
       obtain⟨i,off⟩:=p
       simp only at hh
       split at hh
       · rename_i e0 τ0 L ver' z hl
         split at hh
         · rename_i h1
           subst h1
           split at hh
           · rename_i h2
             subst h2
             split at hh
             · rename_i L' hnm hset
               simp only[X1S,Option.some.injEq,Prod.mk.injEq]at hh
               obtain⟨rfl,rfl⟩:=hh
               have hl':=hxr _ _ hl
               have hok:=hS.hotAt hl'
               obtain⟨_,hp⟩:=hx.2 _ hl' rfl
               obtain⟨q1,ad,q2,q3⟩:=hp i off rfl
               obtain⟨p,hD⟩:=Xao hok.own hok.nodup q1 q2 (hok.mem _ _ q3).1
               simp only[noTags,Bool.and_true]at hf
               exact Xba hT hS ho hd hdn h he hte hpos hl' hD hset (X1z.1 hnm) hb1 hb2 hb3 (hps _ (by simp)) (hps _ (by simp)) hf hnv hn
             · cases hh
           · cases hh
         · cases hh
       · cases hh
   | _=>cases hh
end Go.Proofs.Ytakllifahpfmpaa.Bv
namespace Go.Proofs.Ytakllifahpfmpaa.Bv
variable {P:Program} {base:World} {M0:Mem} {ios:Ios} {σ:Sg} {M:Mem} {w:World} {a:Act} {st:St} {tab:Tab} {Γ:Gam} {o:Oper} {next:Act→World→Prop} {Q:Exit→Act→World→Prop}
theorem Xg6(hS:Sim P base M0 ios σ M w a st)(x:Operand):X17 σ st.rows st.boxes M (a.eval x) (X0Z st x).raw:=by
 cases x with
 | tmp t=>exact hS.slots t
 | func f=>exact(X1g (M:=M) hS (.func f)).rep
 | _=>trivial
theorem Xdb{τ:Ty}{e:TypeId}{x:In}{r lo hi:Nat}{L:List (El τ)}(h:Xfo τ e x=some (r,lo,hi,L)):∃ver,x.raw=.val false [.sub τ r lo hi]∧look r x.rows=some (.frz e τ L ver true)∧r≠0:=by
 unfold Xfo at h
 split at h
 · rename_i τ1 r' lo' hi' hraw
   split at h
   · rename_i e' τ' L' ver hl
     split at h
     · rename_i hτ
       subst hτ
       split at h
       · rename_i hc
         obtain⟨rfl,rfl,h0⟩:=hc
         simp only[X1S,Option.some.injEq,Prod.mk.injEq]at h
         obtain⟨rfl,rfl,rfl,rfl⟩:=h
         exact⟨ver,hraw,hl,h0⟩
       · cases h
     · cases h
   · cases h
 · cases h
theorem X9G{x y:Operand}{ts:Array TypeId}{ps:List Prop}{ef:Eff}(hT:X0q P tab)(hS:Sim P base M0 ios σ M w a st)(ho:o.op=.call {callee:=.builtin .append,args:=#[x,y],argTypes:=ts})(hd:∀d,o.dst=some d→d<st.nt)(hh:X9H tab o ts.toList (X0Z st x) (X0Z st y)=some (ps,ef))(hps:∀p∈ps,p)(hf:noTags st ef.nrow=true)(hnv:noVers st ef.urow=true)(hn:X2Y P base M0 ios a o st ef next):o.wp P a w next Q:=by
 have hx0:=X1g (M:=M) hS x
 have hy0:=X1g (M:=M) hS y
 unfold X9H at hh
 split at hh
 · rename_i d t u hdst hts
   obtain rfl:ts=#[t,u]:=Array.ext' hts
   split at hh
   · rename_i htu
     subst htu
     split at hh
     · rename_i τ fs e b xc yc hty hsx hsy
       have hx:=X55 (tab:=tab) t hx0.rep
       have hy:=X55 (tab:=tab) t hy0.rep
       rw[hsx]at hx
       rw[hsy]at hy
       split at hh
       · rename_i τe ag fs' el bytes he
         split at hh
         · rename_i hc
           obtain⟨hτe,hpos⟩:=hc
           have hot:X5W e τ bytes d (X0Z st x) xc yc (X0Z st y)=some (ps,ef)→o.wp P a w next Q:=fun hh=>
            X9o (te:=⟨τe,ag,fs',el,bytes⟩) hT hS ho hdst (hd d hdst) hty he hτe hpos hx0.rows hy0.rows (X0h.one hx) (X0h.one hy) hh hps hf hnv hn
           cases xc with
           | lst τ1 l tag=>
             cases tag with
             | none=>
               cases yc with
               | lst τ2 l' tag2=>
                 simp only at hh
                 split at hh
                 · rename_i r lo hi L htl
                   split at hh
                   · rename_i h2
                     subst h2
                     simp only[X1S,Option.some.injEq,Prod.mk.injEq]at hh
                     obtain⟨rfl,rfl⟩:=hh
                     simp only[noTags,Bool.and_true]at hf
                     obtain⟨ver,q1,q2,_⟩:=Xdb htl
                     have hl':=hx0.rows _ _ q2
                     have hraw:=Xg6 (M:=M) hS x
                     rw[q1]at hraw
                     exact Xae hT hS ho hdst (hd d hdst) hty he hτe hpos hl' ((X0h.one hraw).2 (by rw[hl'];rfl)) (hps _ (by simp)) (hps _ (by simp)) hy (hps _ (by simp)) (hps _ (by simp)) hf hn
                   · cases hh
                 · exact hot hh
               | _=>exact hot hh
             | some r=>
               cases yc with
               | lst τ2 l' tag2=>
                 simp only at hh
                 split at hh
                 · exact hot hh
                 · split at hh
                   · rename_i h1
                     subst h1
                     split at hh
                     · rename_i h2
                       subst h2
                       split at hh
                       · rename_i hr
                         simp only[X1S,Option.some.injEq,Prod.mk.injEq]at hh
                         obtain⟨rfl,rfl⟩:=hh
                         simp only[noTags,Bool.and_true]at hf
                         refine Xf3 (u:=t) (ty:=t) (fs2:=[]) (b2:=0) hT hS ho hdst (hd d hdst) hty he hτe hpos hx ?_ hy (hps _ (by simp)) (hps _ (by simp)) hf hn
                         rcases hr with h0 | h0
                         · exact .inl h0
                         · by_cases hr0:r=0
                           · exact .inl hr0
                           · right
                             have hne:(X0Z st x).sv=.val false [.lst τ2 l (some r)]:=by
                              cases hsv:(X0Z st x).sv with
                              | nil=>
                                rw[hsv]at hsx
                                simp only[X8S,hty]at hsx
                                injection hsx with _ e1
                                injection e1 with e2 _
                                injection e2 with _ _ e3
                                injection e3 with e4
                                exact absurd e4.symm hr0
                              | _=>rw[hsv]at hsx;exact hsx
                             rw[←hx0.row _ _ _ hne];exact h0
                       · cases hh
                     · cases hh
                   · cases hh
               | _=>exact hot hh
           | _=>exact hot hh
         · cases hh
       · cases hh
     · cases hh
   · cases hh
 · cases hh
theorem XbD(hS:Sim P base M0 ios σ M w a st){τ:Ty}{x:Operand}{p:Dst τ}(h:Xgl τ (X0Z st x)=some p):look p.r st.rows=some (.hot p.e τ p.l p.ver none p.z)∧XfI σ τ p.r p.lo p.hi (List.length p.l) (a.eval x):=by
 unfold Xgl at h
 split at h
 · rename_i τ1 r hsv
   split at h
   · rename_i e τ' l ver z hl
     obtain⟨h1,h2⟩:=XhN hS hsv hl
     split at h
     · rename_i ht
       subst ht
       split at h
       · rename_i ht
         subst ht
         simp only[X1S,Option.some.injEq]at h
         subst h
         exact⟨h1,.inr ⟨h2,rfl,rfl⟩⟩
       · cases h
     · cases h
   · cases h
 · rename_i τ1 r lo hi hsv
   split at h
   · rename_i e τ' l ver z hl
     obtain⟨h1,h2⟩:=Xhy hS hsv hl
     split at h
     · rename_i ht
       subst ht
       split at h
       · rename_i ht
         subst ht
         simp only[X1S,Option.some.injEq]at h
         subst h
         exact⟨h1,.inl h2⟩
       · cases h
     · cases h
   · cases h
 · cases h
theorem XaS{b:Builtin}{xs:Array Operand}{ts:Array TypeId}{ps:List Prop}{e:Eff}(hT:X0q P tab)(hS:Sim P base M0 ios σ M w a st)(hop:o.op=.call {callee:=.builtin b,args:=xs,argTypes:=ts})(hd:∀d,o.dst=some d→d<st.nt)(h:X80 tab b o ts.toList (xs.toList.map (X0Z st))=some (ps,e))(hps:∀p∈ps,p)(hn:X2Y P base M0 ios a o st e next):o.wp P a w next Q:=by
 have hrep:=fun x=>X1g (M:=M) hS x
 unfold X80 at h
 split at h
 ·
  rename_i x hx
  obtain⟨x',rfl,hxx⟩:∃x',xs=#[x']∧X0Z st x'=x:=by
   cases xs with
   | mk l=>match l,hx with
     | [y],hx=>exact⟨y,rfl,by simpa using hx⟩
  subst hxx
  have hr:=(hrep x').rep
  split at h
  · rename_i t ht
    obtain rfl:ts=#[t]:=Array.ext' ht
    split at h
    · rename_i fs e' b' s hty hsv
      rw[hsv]at hr
      simp only[Option.some.injEq,Prod.mk.injEq]at h
      obtain⟨rfl,rfl⟩:=h
      exact Xer hT hS hop hd hty hr hn
    · rename_i τ0 fs e' b' hty
      split at h
      · rename_i τ l hl
        simp only[Option.some.injEq,Prod.mk.injEq]at h
        obtain⟨rfl,rfl⟩:=h
        exact Xeo hT hS hop hd hty (X5P hS (hrep x') hl).1 hn
      · cases h
    · cases h
  · cases h
 ·
  rename_i x y hx
  obtain⟨x',y',rfl,hxx,hyy⟩:∃x' y',xs=#[x',y']∧X0Z st x'=x∧X0Z st y'=y:=by
   cases xs with
   | mk l=>match l,hx with
     | [u,v],hx=>exact⟨u,v,rfl,by simp at hx;exact hx.1,by simp at hx;exact hx.2⟩
  subst hxx;subst hyy
  split at h
  · rename_i k m k' n hsx hsy
    have h1:=(hrep x').rep;rw[hsx]at h1
    have h2:=(hrep y').rep;rw[hsy]at h2
    have e1:=(X0h.one h1).int
    have e2:=(X0h.one h2).int
    simp only[Option.some.injEq,Prod.mk.injEq]at h
    obtain⟨rfl,rfl⟩:=h
    exact X0i (w':=w) (by simp[execOp,hop,resolve,invoke,builtin,Builtin.min_,Builtin.min2,e1,e2]) (hn _ σ M w (hS.putO hd (X3h _ _)))
  · cases h
 ·
  rename_i x y hx
  obtain⟨x',y',rfl,hxx,hyy⟩:∃x' y',xs=#[x',y']∧X0Z st x'=x∧X0Z st y'=y:=by
   cases xs with
   | mk l=>match l,hx with
     | [u,v],hx=>exact⟨u,v,rfl,by simp at hx;exact hx.1,by simp at hx;exact hx.2⟩
  subst hxx;subst hyy
  split at h
  · rename_i k m k' n hsx hsy
    have h1:=(hrep x').rep;rw[hsx]at h1
    have h2:=(hrep y').rep;rw[hsy]at h2
    have e1:=(X0h.one h1).int
    have e2:=(X0h.one h2).int
    simp only[Option.some.injEq,Prod.mk.injEq]at h
    obtain⟨rfl,rfl⟩:=h
    exact X0i (w':=w) (by simp[execOp,hop,resolve,invoke,builtin,Builtin.max_,Builtin.max2,e1,e2]) (hn _ σ M w (hS.putO hd (X3h _ _)))
  · cases h
 · cases h
theorem XgT{xs:Array Operand}{x y:In}(hx:xs.toList.map (X0Z st)=[x,y]):∃x' y',xs=#[x',y']∧X0Z st x'=x∧X0Z st y'=y:=by
 cases xs with
 | mk l=>match l,hx with
   | [u,v],hx=>exact⟨u,v,rfl,by simp at hx;exact hx.1,by simp at hx;exact hx.2⟩
theorem XbC{b:Builtin}{xs:Array Operand}{ts:Array TypeId}{ps:List Prop}{e:Eff}(hT:X0q P tab)(hS:Sim P base M0 ios σ M w a st)(hop:o.op=.call {callee:=.builtin b,args:=xs,argTypes:=ts})(hd:∀d,o.dst=some d→d<st.nt)(h:Xc2 tab Γ o {callee:=.builtin b,args:=xs,argTypes:=ts} (xs.toList.map (X0Z st))=some (ps,e))(hps:∀p∈ps,p)(hf:noTags st e.nrow=true)(hv:noVers st e.urow=true)(hn:X2Y P base M0 ios a o st e next):o.wp P a w next Q:=by
 unfold Xc2 at h
 split at h
 · rename_i x y hb hx
   injection hb with hb
   subst hb
   obtain⟨x',y',rfl,rfl,rfl⟩:=XgT hx
   exact X9G hT hS hop hd h hps hf hv hn
 · rename_i x y hb hx
   injection hb with hb
   subst hb
   obtain⟨x',y',rfl,rfl,rfl⟩:=XgT hx
   split at h
   · rename_i tx ty hts
     obtain rfl:ts=#[tx,ty]:=Array.ext' hts
     split at h
     · rename_i τ fs el b' hty
       split at h
       · rename_i te he
         split at h
         · rename_i hc
           obtain⟨c1,c2,c3⟩:=hc
           split at h
           · rename_i p τ2 l2 hp hl2
             obtain⟨hr,hdst⟩:=XbD hS hp
             split at h
             · rename_i h2
               subst h2
               simp only[X1S,Option.some.injEq,Prod.mk.injEq]at h
               obtain⟨rfl,rfl⟩:=h
               exact Xhs hT hS hop hd hty he c1 c2 c3 hr hdst (X5P hS (X1g hS y') hl2).1 (hps _ (by simp)) (hps _ (by simp)) hv hn
             · cases h
           · cases h
         · cases h
       · cases h
     · cases h
   · cases h
 · rename_i x hb hx
   injection hb with hb
   subst hb
   obtain⟨x',rfl,rfl⟩:∃x',xs=#[x']∧X0Z st x'=x:=by
    cases xs with
    | mk l=>match l,hx with
      | [y],hx=>exact⟨y,rfl,by simpa using hx⟩
   split at h
   · rename_i tx hts
     obtain rfl:ts=#[tx]:=Array.ext' hts
     split at h
     · rename_i τ fs el b' hty
       split at h
       · rename_i te he
         split at h
         · rename_i hc
           obtain⟨c1,c2⟩:=hc
           split at h
           · rename_i p hp
             obtain⟨hr,hdst⟩:=XbD hS hp
             simp only[Option.some.injEq,Prod.mk.injEq]at h
             obtain⟨rfl,rfl⟩:=h
             exact Xgv hT hS hop hd hty he c1 c2 hr hdst (hps _ (by simp)) (hps _ (by simp)) hv hn
           · cases h
         · cases h
       · cases h
     · cases h
   · cases h
 · rename_i b2 hb _ _ _
   injection hb with hb
   subst hb
   exact XaS hT hS hop hd h hps hn
 · cases h
theorem XaX{t:TypeId}{ti:TI}{x y:Operand}{τ:Ty}{r i off:Nat}{ds:List X00}{ps:List Prop}{e:Eff}(hT:X0q P tab)(hS:Sim P base M0 ios σ M w a st)(hop:o.op=.store t x y)(hdn:o.dst=none)(ht:look t tab=some ti)(hsv:(X0Z st x).sv=.hp τ r i off)(hy:X0y (RdT σ st.rows M) (a.eval y).cells.toList ds)(h:XcJ tab ti τ r i off (X0Z st x) ds ((X0Z st x).rows++(X0Z st y).rows)=some (ps,e))(hps:∀p∈ps,p)(hv:noVers st e.urow=true)(hn:X2Y P base M0 ios a o st e next):o.wp P a w next Q:=by
 have hx:=X1g (M:=M) hS x
 have hrx:=hx.rep
 rw[hsv]at hrx
 have hrows:∀r rv,look r ((X0Z st x).rows++(X0Z st y).rows)=some rv→look r st.rows=some rv:=fun r rv hl=>by
  rw[X24]at hl
  split at hl
  · rename_i v he;cases hl;exact hx.rows r _ he
  · exact(X1g (M:=M) hS y).rows r rv hl
 unfold XcJ at h
 split at h
 · rename_i e0 τ' l ver hole z ps' ks hl hown
   split at h
   · rename_i hτ
     subst hτ
     split at h
     · rename_i hc
       obtain⟨c1,c2,c3⟩:=hc
       split at h
       · rename_i l' hk hset
         rw[Bool.and_eq_true]at hk
         have hl':=hx.rows r _ hl
         split at h
         · simp only[Option.some.injEq,Prod.mk.injEq]at h
           obtain⟨rfl,rfl⟩:=h
           exact X9C hT hS hop hdn hrows ht hl' hrx hy hown hk.1 hk.2 c1 c2 c3 hset (.inl rfl) hv hn
         · rename_i i' off'
           split at h
           · rename_i hoff
             simp only[Option.some.injEq,Prod.mk.injEq]at h
             obtain⟨rfl,rfl⟩:=h
             obtain⟨h1,h2⟩:=hoff
             subst h1
             have hi:i=i':=hps _ (by simp)
             subst hi
             exact X9C hT hS hop hdn hrows ht hl' hrx hy hown hk.1 hk.2 c1 c2 c3 hset (.inr ⟨rfl,h2⟩) hv hn
           · cases h
       · cases h
     · cases h
   · cases h
 · cases h
end Go.Proofs.Ytakllifahpfmpaa.Bv
namespace Go.Proofs.Ytakllifahpfmpaa.Bv
variable {P:Program} {base:World} {M0:Mem} {ios:Ios} {σ:Sg} {M:Mem} {w:World} {a:Act} {st:St} {tab:Tab} {Γ:Gam} {o:Oper} {next:Act→World→Prop} {Q:Exit→Act→World→Prop}
def XiB(x:In):Option Cap:=match x.sv with
 | .box k off=>some (.box k off)
 | .ptr cs=>some (.ptr cs)
 | .pp k off=>some (.pp k off)
 | .pptr cs=>some (.pptr cs)
 | _=>none
theorem XaZ(hS:Sim P base M0 ios σ M w a st):∀{xs:List Operand} {cs:List Cap},(xs.map (X0Z st)).mapM XiB=some cs→X0y (X5Q σ st.rows st.boxes M) (xs.map a.eval) cs
 | [],cs,h=>by simp at h;subst h;exact .nil
 | x::xs,cs,h=>by
   simp only[List.map_cons,List.mapM_cons,Option.bind_eq_bind,Option.pure_def,Option.bind_eq_some_iff]at h
   obtain⟨c,hc,cs',hcs,e⟩:=h
   cases e
   refine .cons ?_ (XaZ hS hcs)
   have hr:=(X1g (M:=M) hS x).rep
   unfold XiB at hc
   split at hc
   · rename_i k off hsv;cases hc;rw[hsv]at hr;exact hr
   · rename_i cs0 hsv;cases hc;rw[hsv]at hr;exact hr
   · rename_i k off hsv;cases hc;rw[hsv]at hr;exact hr
   · rename_i cs0 hsv;cases hc;rw[hsv]at hr;exact hr
   · cases hc
theorem Xb7(hT:X0q P tab)(hS:Sim P base M0 ios σ M w a st){t e:TypeId}{te:TI}{τ:Ty}{fs:List (Nat×TypeId)}{b len cap:Nat}{ad:Option Addr}{x hi m:Operand}{k k':IntKind}(ho:o.op=.slice t x none (some hi) (some m))(hd:∀d,o.dst=some d→d<st.nt)(h:look t tab=some ⟨.list τ,false,fs,e,b⟩)(he:look e tab=some te)(hv:a.eval x=.slice ad len cap)(h1:a.eval hi=.int k 0)(h2:a.eval m=.int k' 0)(hn:X2Y P base M0 ios a o st {sv:=.val false [.emp τ]} next):o.wp P a w next Q:=by
 have hu:=X23 hT h
 have hsz:=X2e hT he w
 refine X0i (v:=.slice ad 0 0) (w':=w) ?_ (hn _ σ M w (hS.putO hd (X0h.mk1 ⟨rfl,ad,rfl⟩ rfl)))
 have hb:(Instr.sliceBounds true len cap none (some (.int k 0)) (some (.int k' 0))).run P w=.ok (0,0,0) w:=by simp[Instr.sliceBounds,Instr.sliceBound,asIntOf]
 simp[execOp,ho,hv,h1,h2,Instr.sliceAt,run_underlying hu,Instr.slice,hsz,hb]
theorem Xea(c d:X00):Xfn (unT c) (unT d)=Xfn c d:=by
 cases c<;>cases d<;>rfl
theorem X9v:∀(cs ds:List X00),X8f (cs.map unT) (ds.map unT)=X8f cs ds
 | [],[]=>rfl
 | [],_::_=>rfl
 | _::_,[]=>rfl
 | c::cs,d::ds=>by simp only[List.map_cons,X8f,Xea,X9v cs ds]
theorem X9l{rows:List (Nat×X0f)}{u v:Value}{τ:Ty}{cs ds:List X00}{b:Bool}(hu:X0h σ rows M u (true,cs))(hv:X0h σ rows M v (true,ds))(h:Xe5 τ cs ds=some b):
 ∃x y:El τ,u=.agg (X8r τ x).toArray∧v=.agg (X8r τ y).toArray∧eqEl τ x y=b:=by
 unfold Xe5 at h
 split at h
 · rename_i x y hp hx hy
   have one:∀{u:Value} {cs:List X00} {x:El τ},X0h σ rows M u (true,cs)→X0A τ cs=some (x,[])→u=.agg (X8r τ x).toArray:=fun {u cs x} hu hx=>by
    obtain⟨vs,rfl,hvs⟩:=hu.agg
    have hrd:X0y (RdV M) vs.toList cs:=hvs.imp fun _ _ h=>h.1
    obtain⟨c1,c2,e,h1,h2⟩:=X7s τ _ _ _ _ hrd hx
    cases h2
    rw[List.append_nil]at e
    have:=RdC.vals hp h1
    rw[←this,←e]
   refine⟨x,y,one hu hx,one hv hy,?_⟩
   have e1:=X27 _ _ _ _ hx
   have e2:=X27 _ _ _ _ hy
   simp only[List.map_nil,List.append_nil]at e1 e2
   unfold eqEl
   rw[←e1,←e2,X9v,h]
 · cases h
set_option maxHeartbeats 4000000 in
theorem Xcw{ps:List Prop}{e:Eff}(hT:X0q P tab)(hE:Xfj P Γ.eqs)(hS:Sim P base M0 ios σ M w a st)(hd:∀d,o.dst=some d→d<st.nt)(h:X73 tab Γ o (o.op.operands.toList.map (X0Z st))=some (ps,e))(hps:∀p∈ps,p)(hf:X10 e o.dst st=true)(hn:X2Y P base M0 ios a o st e next):o.wp P a w next Q:=by
 have hrep:=fun x=>X1g (M:=M) hS x
 unfold X10 at hf
 simp only[Bool.and_eq_true]at hf
 obtain⟨⟨⟨hf1,hf2⟩,hf3⟩,hf4⟩:=hf
 unfold X73 at h
 cases hop:o.op with
 | move x=>
   rw[hop]at h
   simp only[Op.operands,List.map_cons,List.map_nil,Option.some.injEq,Prod.mk.injEq]at h
   obtain⟨rfl,rfl⟩:=h
   exact X0i (v:=a.eval x) (w':=w) (by simp[execOp,hop]) (hn _ σ M w (hS.putO hd (X55 o.type (hrep x).rep)))
 | assign x=>
   rw[hop]at h
   simp only[Op.operands,List.map_cons,List.map_nil,Option.some.injEq,Prod.mk.injEq]at h
   obtain⟨rfl,rfl⟩:=h
   exact X0i (v:=a.eval x) (w':=w) (by simp[execOp,hop]) (hn _ σ M w (hS.putO hd (X55 o.type (hrep x).rep)))
 | pick c x y=>
   rw[hop]at h
   simp only[Op.operands,List.map_cons,List.map_nil]at h
   split at h
   · rename_i c' hc
     have hv:=(X0h.one (show X0h σ st.rows M (a.eval c) (false,[.bool c']) by have:=(hrep c).rep;rw[hc]at this;exact this)).bool
     split at h<;>(simp only[Option.some.injEq,Prod.mk.injEq]at h;obtain⟨rfl,rfl⟩:=h)
     · exact X0i (v:=a.eval x) (w':=w) (by simp[execOp,hop,hv,asBool]) (hn _ σ M w (hS.putO hd (hrep x).rep))
     · exact X0i (v:=a.eval y) (w':=w) (by simp[execOp,hop,hv,asBool]) (hn _ σ M w (hS.putO hd (hrep y).rep))
   · cases h
 | alloc t=>
   rw[hop]at h
   simp only[Op.operands,List.map_nil]at h
   split at h
   · rename_i d ti hdst ht
     simp only[Option.some.injEq,Prod.mk.injEq]at h
     obtain⟨rfl,rfl⟩:=h
     rw[hdst]at hf1
     exact Xg2 hT hS hop hdst (hd d hdst) ht hf1 hn
   · rename_i d hdst ht
     split at h
     · rename_i hl
       simp only[Option.some.injEq,Prod.mk.injEq]at h
       obtain⟨rfl,rfl⟩:=h
       rw[hdst]at hf1
       exact XbO hS hop hdst (hd d hdst) ((hE t _ hl).1 rfl).2 hf1 hn
     · cases h
   · cases h
 | box t x=>
   rw[hop]at h
   simp only[Op.operands,List.map_cons,List.map_nil]at h
   have hr:=(hrep x).rep
   split at h
   · rename_i d k off hdst hsv
     simp only[Option.some.injEq,Prod.mk.injEq]at h
     obtain⟨rfl,rfl⟩:=h
     rw[hsv]at hr
     obtain⟨h1,h2⟩:=hr
     exact XaK (sv:=.pp k off) hS hop hdst (hd d hdst) h1 (fun M' hM hu=>⟨_,rfl,hu,h2⟩) hn
   · rename_i d cs hdst hsv
     simp only[Option.some.injEq,Prod.mk.injEq]at h
     obtain⟨rfl,rfl⟩:=h
     rw[hsv]at hr
     obtain⟨ad,h1,h2⟩:=hr
     exact XaK (sv:=.pptr cs) hS hop hdst (hd d hdst) h1 (fun M' hM hu=>⟨_,_,rfl,hu,X5L.carry (Carry.same σ st.rows hM) ⟨ad,rfl,h2⟩ (fun c _=>X2t c)⟩) hn
   · rename_i d hdst _ _
     split at h
     · rename_i cs hc
       simp only[Option.some.injEq,Prod.mk.injEq]at h
       obtain⟨rfl,rfl⟩:=h
       rw[hdst]at hf1
       exact Xin hS hop hdst (hd d hdst) (X6f (hrep x).rep hc) hf1 hn
     · cases h
   · cases h
 | build t parts=>
   rw[hop]at h
   simp only[Op.operands,X74]at h
   split at h
   · rename_i ti ht
     split at h
     · rename_i hg
       split at h
       · rename_i ps' hps'
         split at h
         · rename_i cs hcs
           simp only[Option.some.injEq,Prod.mk.injEq]at h
           obtain⟨rfl,rfl⟩:=h
           refine Xgp hT hS hop hd ht hg (XdG (tab:=tab) hS (f:=fun i=>(ti.fields[i]?).map (·.2)) (ps:=ps') ?_) hcs hn
           rw[←hps']
           congr 1
           funext p
           cases ti.fields[p.1]?<;>rfl
         · cases h
       · cases h
     · cases h
   · cases h
 | buildSlice t n parts=>
   rw[hop]at h
   simp only[Op.operands,X74]at h
   split at h
   · rename_i d τ fs e' b hdst ht
     split at h
     · rename_i te he
       split at h
       · rename_i hc
         split at h
         · rename_i ps' hps'
           have hz:=XdG (tab:=tab) hS (parts:=parts.toList) (f:=fun _=>some e') (ps:=ps') (by rw[←hps'];rfl)
           split at h
           · rename_i cs hcs
             split at h
             · rename_i vs ks hown
               split at h
               · rename_i l hks hl
                 simp only[Option.some.injEq,Prod.mk.injEq]at h
                 obtain⟨rfl,rfl⟩:=h
                 simp only[noTags,Bool.and_true]at hf2
                 exact X88 hT hS hop hdst (hd d hdst) ht he hc.1 hc.2.1 hc.2.2 (X6y (Xbh hS _)) hz hcs hown hks hl hf2 hn
               · cases h
             · split at h
               · rename_i l hl
                 simp only[Option.some.injEq,Prod.mk.injEq]at h
                 obtain⟨rfl,rfl⟩:=h
                 simp only[noTags,Bool.and_true]at hf2
                 exact Xbc hT hS hop hdst (hd d hdst) ht he hc.1 hc.2.1 hc.2.2 hz hcs hl hf2 hn
               · cases h
           · cases h
         · cases h
       · cases h
     · cases h
   · cases h
 | makeSlice t x y=>
   rw[hop]at h
   simp only[Op.operands,List.map_cons,List.map_nil]at h
   split at h
   · rename_i d τ fs e' b n m hdst ht hx hy
     split at h
     · rename_i te he
       split at h
       · rename_i hc
         simp only[Option.some.injEq,Prod.mk.injEq]at h
         obtain⟨rfl,rfl⟩:=h
         simp only[noTags,Bool.and_true]at hf2
         obtain⟨kn,hkn⟩:=X4Y hS hx
         obtain⟨km,hkm⟩:=X4Y hS hy
         exact XbQ hT hS hop hdst (hd d hdst) ht he hc.1 hc.2 hkn hkm (hps _ (by simp)) (hps _ (by simp)) (hps _ (by simp)) (hps _ (by simp)) hf2 hn
       · cases h
     · cases h
   · cases h
 | makeFunc fn first caught=>
   rw[hop]at h
   cases fn with
   | func f=>
     have he:(Op.makeFunc (.func f) first caught).operands.toList=first.toList++caught.toList:=by simp[Op.operands]
     rw[he]at h
     have hv:(execOp a.eval o).run P w=.ok (.value (.func (.func f) (first.map a.eval) (caught.map a.eval))) w:=by simp[execOp,hop,Instr.makeFunc]
     cases hl:(first.toList++caught.toList).map (X0Z st) with
     | nil=>
       rw[hl]at h
       simp only[Option.some.injEq,Prod.mk.injEq]at h
       obtain⟨rfl,rfl⟩:=h
       have h1:=List.map_eq_nil_iff.1 hl
       obtain⟨h2,h3⟩:=List.append_eq_nil_iff.1 h1
       refine X0i (w':=w) hv (hn _ σ M w (hS.putO hd ⟨_,_,rfl,?_,?_⟩))
       · rw[Array.toList_map,h2];exact .nil
       · rw[Array.toList_map,h3];exact .nil
     | cons y ys=>
       rw[hl]at h
       simp only at h
       rw[←hl]at h
       have e1:((first.toList++caught.toList).map (X0Z st)).take first.size=first.toList.map (X0Z st):=by
        have:first.size=(first.toList.map (X0Z st)).length:=by simp
        rw[List.map_append,this,List.take_left]
       have e2:((first.toList++caught.toList).map (X0Z st)).drop first.size=caught.toList.map (X0Z st):=by
        have:first.size=(first.toList.map (X0Z st)).length:=by simp
        rw[List.map_append,this,List.drop_left]
       rw[e1,e2]at h
       split at h
       · rename_i ca cb ha hb
         simp only[Option.some.injEq,Prod.mk.injEq]at h
         obtain⟨rfl,rfl⟩:=h
         refine X0i (w':=w) hv (hn _ σ M w (hS.putO hd ⟨_,_,rfl,?_,?_⟩))
         · rw[Array.toList_map];exact XaZ hS ha
         · rw[Array.toList_map];exact XaZ hS hb
       · cases h
   | _=>simp at h
 | load t x=>
   rw[hop]at h
   simp only[Op.operands,List.map_cons,List.map_nil]at h
   have hx:=hrep x
   cases ht:look t tab with
   | none=>
     simp only[ht]at h
     have hr:=hx.rep
     split at h
     · rename_i k off hl hsv
       simp only[Option.some.injEq,Prod.mk.injEq]at h
       obtain⟨rfl,rfl⟩:=h
       rw[hsv]at hr
       obtain⟨ad,h1,h2,h3⟩:=hr
       exact XaA (sv:=.box k off) hS hop hd ((hE t _ hl).1 rfl).1 h1 h2 ⟨rfl,h3⟩ hn
     · rename_i cs hl hsv
       simp only[Option.some.injEq,Prod.mk.injEq]at h
       obtain⟨rfl,rfl⟩:=h
       rw[hsv]at hr
       obtain⟨ad,u,h1,h2,h3⟩:=hr
       exact XaA (sv:=.ptr cs) hS hop hd ((hE t _ hl).1 rfl).1 h1 h2 h3 hn
     · cases h
   | some ti=>
     simp only[ht]at h
     cases hsv:(X0Z st x).sv<;>simp only[hsv]at h<;>try (cases h;done)
     · rename_i k off
       have hr:=hx.rep
       rw[hsv]at hr
       have hb:=hx.box k off (.inl hsv)
       rw[hb]at h
       cases hk:st.box k with
       | none=>simp[hk]at h
       | some cs=>
         simp only[hk]at h
         split at h
         · rename_i hc
           simp only[Option.some.injEq,Prod.mk.injEq]at h
           obtain⟨rfl,rfl⟩:=h
           exact XcN hT hS hop hd ht hr.1 hk hc.1 hc.2 hn
         · cases h
     · rename_i cs
       have hr:=hx.rep
       rw[hsv]at hr
       split at h
       · rename_i hc
         simp only[Option.some.injEq,Prod.mk.injEq]at h
         obtain⟨rfl,rfl⟩:=h
         exact Xcu hT hS hop hd ht hr hc.1 hc.2 hn
       · cases h
     · rename_i τ r i off
       have hr:=hx.rep
       rw[hsv]at hr
       split at h
       · rename_i e0 τ' l ver z hl
         split at h
         · rename_i hτ
           subst hτ
           split at h
           · rename_i hc
             simp only[X1S,Option.some.injEq,Prod.mk.injEq]at h
             obtain⟨rfl,rfl⟩:=h
             exact Xed hT hS hop hd ht (hx.rows r _ hl) hr hc.1 hc.2 hn
           · cases h
         · cases h
       · cases h
     · rename_i cs r ver
       have hr:=hx.rep
       rw[hsv]at hr
       split at h
       · rename_i e0 τ' l ver' ho z hl
         split at h
         · rename_i hc
           obtain⟨c1,c2,c3⟩:=hc
           subst c1
           simp only[Option.some.injEq,Prod.mk.injEq]at h
           obtain⟨rfl,rfl⟩:=h
           exact XbU hT hS hop hd ht (hx.rows r _ hl) hr c2 c3 hn
         · cases h
       · cases h
 | store t x y=>
   rw[hop]at h
   simp only[Op.operands,List.map_cons,List.map_nil]at h
   have hx:=hrep x
   split at h
   · rename_i ti ds ht hds hdn
     have hy:=X6f (hrep y).rep hds
     split at h
     · rename_i k off cs hsv hbx
       split at h
       · rename_i hc
         simp only[Option.some.injEq,Prod.mk.injEq]at h
         obtain⟨rfl,rfl⟩:=h
         have hr:=hx.rep
         rw[hsv]at hr
         have hb:=hx.box k off (.inl hsv)
         rw[hb]at hbx
         exact Xg9 hT hS hop hdn ht hr.1 hbx hy hc.1 hc.2 hn
       · cases h
     · rename_i τ r i off hsv
       exact XaX hT hS hop hdn ht hsv hy h hps hf3 hn
     · cases h
   · cases h
 | nilCheck x=>
   rw[hop]at h
   simp only[Op.operands,List.map_cons,List.map_nil]at h
   have hx:=hrep x
   have hr:=hx.rep
   split at h
   · rename_i k off hsv
     simp only[Option.some.injEq,Prod.mk.injEq]at h;obtain⟨rfl,rfl⟩:=h
     rw[hsv]at hr
     exact X0i (v:=a.eval x) (w':=w) (by simp[execOp,hop,hr.1]) (hn _ σ M w (hS.putO hd hr))
   · rename_i cs hsv
     simp only[Option.some.injEq,Prod.mk.injEq]at h;obtain⟨rfl,rfl⟩:=h
     rw[hsv]at hr
     obtain⟨ad,he,hc⟩:=hr
     exact X0i (v:=a.eval x) (w':=w) (by simp[execOp,hop,he]) (hn _ σ M w (hS.putO hd ⟨ad,he,hc⟩))
   · rename_i τ r i off hsv
     split at h
     · rename_i e0 τ' l ver ho z hl
       simp only[Option.some.injEq,Prod.mk.injEq]at h;obtain⟨rfl,rfl⟩:=h
       rw[hsv]at hr
       obtain⟨ad,h1,he⟩:=hr (by rw[hx.rows r _ hl];rfl)
       exact X0i (v:=a.eval x) (w':=w) (by simp[execOp,hop,he]) (hn _ σ M w (hS.putO hd hr))
     · cases h
   · rename_i cs r ver hsv
     split at h
     · rename_i e0 τ' l ver' ho z hl
       split at h
       · rename_i hv
         subst hv
         simp only[Option.some.injEq,Prod.mk.injEq]at h;obtain⟨rfl,rfl⟩:=h
         rw[hsv]at hr
         obtain⟨ad,he,_⟩:=hr _ (hx.rows r _ hl) rfl
         exact X0i (v:=a.eval x) (w':=w) (by simp[execOp,hop,he]) (hn _ σ M w (hS.putO hd hr))
       · cases h
     · cases h
   · cases h
 | binOp op t x y ty=>
   rw[hop]at h
   simp only[Op.operands,List.map_cons,List.map_nil]at h
   split at h
   · rename_i c1 c2 h1 h2
     split at h
     · rename_i ps' c hg hb
       simp only[Option.some.injEq,Prod.mk.injEq]at h
       obtain⟨rfl,rfl⟩:=h
       have hr1:=(hrep x).rep
       have hr2:=(hrep y).rep
       rw[h1]at hr1
       rw[h2]at hr2
       obtain⟨r,hrun,hrr⟩:=Xeb (boxes:=st.boxes) (w:=w) (P:=P) (t:=t) (X0h.one hr1) (X0h.one hr2) (fun hm=>by
        cases c1<;>simp at hm
        simp only at hg
        split at hg
        · rename_i hty;exact XgI hT hty
        · cases hg) hb hps
       refine X0i (v:=r) (w':=w) ?_ (hn _ σ M w (hS.putO hd hrr))
       have hagg:X4l (a.eval x)=false:=hr1.2
       have hnil:a.eval x≠.nilIface:=by
        intro e
        have h0:=(X0h.one hr1).1
        rw[e]at h0
        cases c1<;>first | (cases h0;done) | (obtain ⟨_,_,e2,_⟩:=h0;cases e2;done) | (simp[Xda]at hb;done)
       simp[execOp,hop,X8o op t x y _ (a.eval y) hagg hnil,hrun]
     · cases h
   · rename_i cs ds h1 h2
     have hr1:=(hrep x).rep
     have hr2:=(hrep y).rep
     rw[h1]at hr1
     rw[h2]at hr2
     split at h
     · rename_i τ hl
       split at h
       · rename_i b hb
         cases h
         obtain⟨x',y',e1,e2,e3⟩:=X9l hr1 hr2 hb
         obtain⟨hg,hrun⟩:=(hE t τ hl).2 (fun e=>by subst e;simp[Xe5,X61]at hb)
         refine X0i (v:=.bool b) (w':=w) ?_ (hn _ σ M w (hS.putO hd (X5h b)))
         simp[execOp,hop,e1,e2,run_eqGuard_agg w .eql t x y _ _ hg,run_eql_struct,hrun,e3]
       · cases h
     · rename_i τ hl
       split at h
       · rename_i b hb
         cases h
         obtain⟨x',y',e1,e2,e3⟩:=X9l hr1 hr2 hb
         obtain⟨hg,hrun⟩:=(hE t τ hl).2 (fun e=>by subst e;simp[Xe5,X61]at hb)
         refine X0i (v:=.bool (!b)) (w':=w) ?_ (hn _ σ M w (hS.putO hd (X5h (!b))))
         simp[execOp,hop,e1,e2,run_eqGuard_agg w .neq t x y _ _ hg,run_neq_struct,hrun,e3]
       · cases h
     · cases h
   · cases h
 | unOp op t x=>
   rw[hop]at h
   simp only[Op.operands,List.map_cons,List.map_nil]at h
   split at h
   · rename_i c1 h1
     have hr1:=(hrep x).rep
     rw[h1]at hr1
     split at h
     · rename_i c hu
       simp only[Option.some.injEq,Prod.mk.injEq]at h
       obtain⟨rfl,rfl⟩:=h
       cases c1 with
       | int k n=>
         have hv:=(X0h.one hr1).int
         cases op<;>simp only[unV]at hu<;>(try (cases hu;done))<;>cases hu
         · exact X0i (w':=w) (by simp[execOp,hop,hv,Op.unary,Op.intArith]) (hn _ σ M w (hS.putO hd (X3h _ _)))
         · exact X0i (w':=w) (by simp[execOp,hop,hv,Op.unary,Op.intBits]) (hn _ σ M w (hS.putO hd (X3h _ _)))
       | bool b=>
         have hv:=(X0h.one hr1).bool
         cases op<;>simp only[unV]at hu<;>(try (cases hu;done))<;>cases hu
         exact X0i (w':=w) (by simp[execOp,hop,hv,Op.unary]) (hn _ σ M w (hS.putO hd (X5h _)))
       | _=>simp[unV]at hu
     · cases h
   · cases h
 | convert s t x=>
   rw[hop]at h
   simp only[Op.operands,List.map_cons,List.map_nil]at h
   have hr1:=(hrep x).rep
   split at h
   · rename_i k fs e' b k' n ht h1
     rw[h1]at hr1
     split at h
     · rename_i hs
       simp only[Option.some.injEq,Prod.mk.injEq]at h
       obtain⟨rfl,rfl⟩:=h
       obtain⟨ts,hts⟩:=Option.isSome_iff_exists.1 hs
       exact Xaf hT hS hop hd ht hts hr1 hn
     · cases h
   · rename_i fs e' b ht
     split at h
     · rename_i fs2 e2 b2 hs
       split at h
       · rename_i fs3 e3 b3 τ l he hl
         split at h
         · rename_i hτ
           subst hτ
           simp only[Option.some.injEq,Prod.mk.injEq]at h
           obtain⟨rfl,rfl⟩:=h
           exact Xai hT hS hop hd ht hs he rfl rfl (X5P hS (hrep x) hl).1 hn
         · cases h
       · cases h
     · cases h
   · cases h
 | fieldAddr t x f=>
   rw[hop]at h
   simp only[Op.operands,List.map_cons,List.map_nil]at h
   have hx:=hrep x
   have hr1:=hx.rep
   split at h
   · rename_i ti ht
     split at h
     · rename_i hg
       split at h
       · rename_i off tf hf'
         split at h
         · rename_i τf ag fs e' b htf
           split at h
           · rename_i hs
             split at h
             · rename_i k oo h1
               rw[h1]at hr1
               simp only[Option.some.injEq,Prod.mk.injEq]at h
               obtain⟨rfl,rfl⟩:=h
               exact X8I hT hS hop hd ht hg hf' htf hs hr1 hn
             · rename_i cs h1
               rw[h1]at hr1
               split at h
               · simp only[Option.some.injEq,Prod.mk.injEq]at h
                 obtain⟨rfl,rfl⟩:=h
                 exact X8R hT hS hop hd ht hg hf' htf hs hr1 hn
               · cases h
             · rename_i τ r i oo h1
               rw[h1]at hr1
               split at h
               · rename_i hl
                 simp only[Option.some.injEq,Prod.mk.injEq]at h
                 obtain⟨rfl,rfl⟩:=h
                 exact X9D hT hS hop hd ht hg hf' htf hs (by rw[hx.rows r _ hl];rfl) hr1 hn
               · cases h
             · rename_i cs r ver h1
               rw[h1]at hr1
               split at h
               · rename_i e0 τ' l ver' ho z hl
                 split at h
                 · rename_i hc
                   obtain⟨c1,c2⟩:=hc
                   subst c1
                   simp only[Option.some.injEq,Prod.mk.injEq]at h
                   obtain⟨rfl,rfl⟩:=h
                   exact X86 hT hS hop hd ht hg hf' htf hs (hx.rows r _ hl) rfl hr1 hn
                 · cases h
               · cases h
             · cases h
           · cases h
         · cases h
       · cases h
     · cases h
   · cases h
 | field t x f=>
   rw[hop]at h
   simp only[Op.operands,List.map_cons,List.map_nil]at h
   have hr1:=(hrep x).rep
   split at h
   · rename_i ti ht
     split at h
     · rename_i hg
       split at h
       · rename_i off tf hf'
         split at h
         · rename_i tif htf
           split at h
           · rename_i cs h1
             rw[h1]at hr1
             split at h
             · rename_i hc
               simp only[Option.some.injEq,Prod.mk.injEq]at h
               obtain⟨rfl,rfl⟩:=h
               exact Xgh hT hS hop hd ht hg hf' htf hr1 hc.1 hc.2 hn
             · cases h
           · cases h
         · cases h
       · cases h
     · cases h
   · cases h
 | indexAddr t x y=>
   rw[hop]at h
   simp only[Op.operands,List.map_cons,List.map_nil]at h
   have hx:=hrep x
   have hr1:=hx.rep
   split at h
   · rename_i τ0 fs e' b c i ht h1 h2
     rw[h1]at hr1
     obtain⟨k,hk⟩:=X4Y hS h2
     split at h
     · rename_i te he
       cases c with
       | lst τ l tag=>
         simp only at h
         split at h
         · rename_i hs
           simp only[Option.some.injEq,Prod.mk.injEq]at h
           obtain⟨rfl,rfl⟩:=h
           exact Xcl (k:=k) hT hS hop hd ht he hs hr1 (by rw[hk];exact X3h _ _) (hps _ (by simp)) (hps _ (by simp)) hn
         · cases h
       | own τ r=>
         simp only at h
         split at h
         · rename_i e0 τ' l ver ho z hl
           obtain⟨h3,h4⟩:=XhN hS h1 hl
           split at h
           · rename_i hτ
             subst hτ
             split at h
             · rename_i hs
               simp only[X1S,Option.some.injEq,Prod.mk.injEq]at h
               obtain⟨rfl,rfl⟩:=h
               exact X8N hT hS hop hd ht he hs h3 h4 hk (hps _ (by simp)) (hps _ (by simp)) hn
             · cases h
           · cases h
         · cases h
       | sub τ r lo hi=>
         simp only at h
         split at h
         · rename_i e0 τ' l ver z hl
           obtain⟨h3,h4⟩:=Xhy hS h1 hl
           split at h
           · rename_i hτ
             subst hτ
             split at h
             · rename_i hs
               simp only[X1S,Option.some.injEq,Prod.mk.injEq]at h
               obtain⟨rfl,rfl⟩:=h
               exact X8O hT hS hop hd ht he hs h3 h4 hk (hps _ (by simp)) (hps _ (by simp)) hn
             · cases h
           · cases h
         · cases h
       | bor τ l r ver p=>
         simp only at h
         split at h
         · rename_i e0 τ' l' ver' ho z hl
           split at h
           · rename_i hv
             subst hv
             split at h
             · rename_i hs
               simp only[Option.some.injEq,Prod.mk.injEq]at h
               obtain⟨rfl,rfl⟩:=h
               exact X8M hT hS hop hd ht he hs ((X0h.one hr1).2 _ (hx.rows r _ hl) rfl).1 hk (hps _ (by simp)) (hps _ (by simp)) hn
             · cases h
           · cases h
         · cases h
       | emp τ=>
         simp only[Option.some.injEq,Prod.mk.injEq]at h
         obtain⟨rfl,rfl⟩:=h
         exact(hps False (by simp)).elim
       | _=>cases h
     · cases h
   · cases h
 | index t x y=>
   rw[hop]at h
   simp only[Op.operands,List.map_cons,List.map_nil]at h
   have hr1:=(hrep x).rep
   have hr2:=(hrep y).rep
   split at h
   · rename_i fs e' b s k i ht h1 h2
     rw[h1]at hr1
     rw[h2]at hr2
     simp only[Option.some.injEq,Prod.mk.injEq]at h
     obtain⟨rfl,rfl⟩:=h
     exact XbA hT hS hop hd ht hr1 hr2 (hps _ (by simp)) (hps _ (by simp)) hn
   · cases h
 | extract x i=>
   rw[hop]at h
   simp only[Op.operands,List.map_cons,List.map_nil]at h
   have hr1:=(hrep x).rep
   split at h
   · rename_i l h1
     rw[h1]at hr1
     split at h
     · rename_i ag cs hl
       simp only[Option.some.injEq,Prod.mk.injEq]at h
       obtain⟨rfl,rfl⟩:=h
       exact Xek hS hop hd hr1 hl hn
     · cases h
   · cases h
 | slice t x lo hi mx=>
   rw[hop]at h
   cases mx with
   | some m=>
     cases lo with
     | some lo=>simp at h
     | none=>
       cases hi with
       | none=>simp at h
       | some hi=>
         have he:(Op.slice t x none (some hi) (some m)).operands.toList=[x,hi,m]:=rfl
         rw[he]at h
         simp only[List.map_cons,List.map_nil]at h
         split at h
         · rename_i τ fs e' b τ' l k k' ht hl h1 h2
           split at h
           · rename_i te hte
             simp only[Option.some.injEq,Prod.mk.injEq]at h
             obtain⟨rfl,rfl⟩:=h
             have hr1:=(hrep hi).rep
             have hr2:=(hrep m).rep
             rw[h1]at hr1
             rw[h2]at hr2
             have hv1:=(X0h.one hr1).int
             have hv2:=(X0h.one hr2).int
             obtain⟨ad,cap,ev,hlc,hcm,_⟩:=(X5P hS (hrep x) hl).1
             have hv:a.eval x=.slice ad (List.length l) cap:=List.head_eq_of_cons_eq ev
             exact Xb7 hT hS hop hd ht hte hv hv1 hv2 hn
           · cases h
         · cases h
   | none=>
     have he:(Op.slice t x lo hi none).operands.toList=x::(lo.toList++hi.toList):=by
      cases lo<;>cases hi<;>rfl
     rw[he]at h
     simp only[List.map_cons]at h
     exact XcE hT hS hop hd h hps hf2 hn
 | call c=>
   rw[hop]at h
   obtain⟨callee,xs,ts⟩:=c
   cases callee with
   | builtin b=>
     have he:(Op.call {callee:=.builtin b,args:=xs,argTypes:=ts}).operands.toList=xs.toList:=by simp[Op.operands,Call.operands]
     rw[he]at h
     exact XbC hT hS hop hd h hps hf2 hf3 hn
   | invoke r m=>simp[Xc2]at h
   | value f=>simp[Xc2]at h
 | _=>rw[hop]at h;simp at h
end Go.Proofs.Ytakllifahpfmpaa.Bv
namespace Go.Proofs.Ytakllifahpfmpaa.Bv
variable {P:Program} {base:World} {M0:Mem} {ios:Ios} {σ:Sg} {M:Mem} {w:World} {a:Act} {st:St} {tab:Tab} {Γ:Gam} {o:Oper} {next:Act→World→Prop} {Q:Exit→Act→World→Prop}
theorem X9f{rows:List (Nat×X0f)}:∀{ks:List Nat} {p:Nat×X0f},p∈X2N rows ks→∃e t l ver z,p.2=.frz e t l ver z∧look p.1 rows=some (.hot e t l ver none z)
 | [],p,h=>by cases h
 | k::ks,p,h=>by
   simp only[X2N]at h
   split at h
   · rename_i e t x ver z hl
     rcases List.mem_cons.1 h with e1 | h
     · subst e1;exact⟨e,t,x,ver,z,rfl,hl⟩
     · exact X9f h
   · exact X9f h
theorem X7w{α:Type}{k:Nat}{l:List (Nat×α)}(h:k∉l.map (·.1)):look k l=none:=by
 cases hl:look k l with
 | none=>rfl
 | some x=>exact absurd (List.mem_map.2 ⟨(k,x),X1a hl,rfl⟩) h
theorem Sim.freezes(hS:Sim P base M0 ios σ M w a st):∀{fz:List (Nat×X0f)},(∀p∈fz,∃e t l ver z,p.2=.frz e t l ver z∧look p.1 st.rows=some (.hot e t l ver none z))→(fz.map (·.1)).Nodup→∃M',Sim P base M0 ios σ M' w a (X2s fz st)
 | [],_,_=>⟨M,hS⟩
 | p::fz,h,hn=>by
   simp only[List.map_cons,List.nodup_cons]at hn
   obtain⟨M1,h1⟩:=hS.freezes (fun q hq=>h q (List.mem_cons_of_mem _ hq)) hn.2
   obtain⟨e,t,l,ver,z,e1,e2⟩:=h p (by simp)
   obtain⟨k,rv⟩:=p
   simp only at e1 e2
   subst e1
   refine⟨_,h1.freeze (r:=k) (e:=e) (t:=t) (l:=l) (ver:=ver) (z:=z) ?_⟩
   show look k (fz++st.rows)=_
   rw[X24,X7w hn.1]
   exact e2
theorem Xff{fz:List (Nat×X0f)}{r:Nat}(hf:∀p∈fz,(look p.1 st.rows).isSome=true)(h:noTag r st=true):noTag r (X2s fz st)=true:=by
 have h0:=X5X h
 unfold noTag at h ⊢
 rw[Bool.and_eq_true,Bool.and_eq_true]at h ⊢
 refine⟨h.1,?_⟩
 have:look r (fz++st.rows)=none:=by
  rw[X24]
  cases hl:look r fz with
  | none=>exact h0
  | some x=>
    have:=hf _ (X1a hl)
    rw[h0]at this;cases this
 show(!(look r (fz++st.rows)).isSome)=true
 rw[this];rfl
theorem Xat{fz:List (Nat×X0f)}(hf:∀p∈fz,(look p.1 st.rows).isSome=true):∀{l:List (Nat×X0f)},noTags st l=true→noTags (X2s fz st) l=true
 | [],_=>rfl
 | p::l,h=>by
   simp only[noTags,Bool.and_eq_true]at h ⊢
   exact⟨Xff hf h.1,Xat hf h.2⟩
theorem X6P{fz:List (Nat×X0f)}:∀{l:List (Nat×X0f)},noVers st l=true→noVers (X2s fz st) l=true
 | [],_=>rfl
 | (r,.hot _ _ _ _ _ _)::l,h=>by
   simp only[noVers,Bool.and_eq_true]at h ⊢
   exact⟨h.1,X6P h.2⟩
 | (r,.cold _)::l,h=>by simp only[noVers]at h ⊢;exact X6P h
 | (r,.frz _ _ _ _ _)::l,h=>by simp only[noVers]at h ⊢;exact X6P h
theorem Xco{fz:List (Nat×X0f)}{e:Eff}{d:Option Nat}(hf:∀p∈fz,(look p.1 st.rows).isSome=true)(h:X10 e d st=true):X10 e d (X2s fz st)=true:=by
 unfold X10 at h ⊢
 simp only[Bool.and_eq_true]at h ⊢
 exact⟨⟨⟨h.1.1.1,Xat hf h.1.1.2⟩,X6P h.1.2⟩,h.2⟩
theorem Xfv{fz:List (Nat×X0f)}{e:Eff}{d:Option Nat}:e.apply d (X2s fz st)=(e.frz fz).apply d st:=by
 unfold Eff.apply
 rw[X2j,X2j]
 simp only[X2s,Eff.frz,X07,List.append_assoc]
theorem X8a{ps:List Prop}{X:Prop}(h:XhT ps X):(∀p∈ps,p)∧X:=by
 induction ps with
 | nil=>exact⟨fun p hp=>by simp at hp,h⟩
 | cons p ps ih=>
   obtain⟨h1,h2⟩:=ih h.2
   refine⟨fun q hq=>?_,h2⟩
   rcases List.mem_cons.1 hq with e | hq
   · subst e;exact h.1
   · exact h1 q hq
theorem XbE(hT:X0q P tab)(hS:Sim P base M0 ios σ M w a st)(hd:∀d,o.dst=some d→d<st.nt){neg:Bool}{em:Prop}(h:XaD tab o (o.op.operands.toList.map (X0Z st))=some (neg,em)):
 ∃b:Bool,(b=true→em)∧(X2Y P base M0 ios a o st {sv:=.val false [.bool (cond neg (!b) b)]} next→o.wp P a w next Q):=by
 unfold XaD at h
 split at h
 · rename_i op t x y ty xi yi hop hins
   rw[hop]at hins
   simp only[Op.operands,List.map_cons,List.map_nil,List.cons.injEq,and_true]at hins
   obtain⟨rfl,rfl⟩:=hins
   split at h
   · rename_i tl fs e b τ l hty hl hny
     obtain⟨hrd,hag⟩:=X5P hS (X1g (M:=M) hS x) hl
     have hy:a.eval y=.slice none 0 0:=by
      have:=(X1g (M:=M) hS y).rep
      rw[hny]at this;exact this
     obtain⟨ad,cap,e1,h2,h3,h4⟩:=hrd
     injection e1 with e1
     have hu:=X23 hT hty
     have hem:ad.isNone=true→l=[]:=fun hn=>by
      cases l with
      | nil=>rfl
      | cons z l=>
        obtain⟨a',_,e2,_⟩:=h4 0 (by simp)
        rw[e2]at hn;cases hn
     have hrun:=run_equal_slice_nil (P:=P) w t _ ad l.length cap hu
     have hgd:(eqGuard op t x y (.slice ad l.length cap) (.slice none 0 0)).run P w=.ok () w:=by cases op<;>simp[eqGuard]
     split at h
     · cases h
       refine⟨ad.isNone,hem,fun hn=>?_⟩
       refine X0i (v:=.bool ad.isNone) (w':=w) ?_ (hn _ σ M w (hS.putO hd (X5h _)))
       simp[execOp,hop,e1,hy,hgd,binOp,hrun]
     · cases h
       refine⟨ad.isNone,hem,fun hn=>?_⟩
       refine X0i (v:=.bool (!ad.isNone)) (w':=w) ?_ (hn _ σ M w (hS.putO hd (X5h _)))
       simp[execOp,hop,e1,hy,hgd,binOp,hrun]
     · cases h
   · cases h
 · cases h
theorem X7a(hT:X0q P tab)(hΓ:X72 P Γ)(hS:Sim P base M0 ios σ M w a st){K:Eff→Prop}(h:Xcc tab Γ o st K)(hn:∀e,K e→∀v σ' M' w',Sim P base M0 ios σ' M' w' (a.put o.dst v) (e.apply o.dst st)→next (a.put o.dst v) w'):o.wp P a w next Q:=by
 unfold Xcc at h
 split at h
 · rename_i hd
   have hd':∀d,o.dst=some d→d<st.nt:=fun d e2=>by rw[e2]at hd;simpa using hd
   simp only at h
   generalize hfz:X2N ((o.op.operands.toList.map (X0Z st)).flatMap (·.rows)) (X3d tab Γ o (o.op.operands.toList.map (X0Z st)))=fz at h
   have hmem:∀p∈fz,∃e t l ver z,p.2=.frz e t l ver z∧look p.1 st.rows=some (.hot e t l ver none z):=fun p hp=>by
    rw[←hfz]at hp
    obtain⟨e,t,l,ver,z,h1,h2⟩:=X9f hp
    exact⟨e,t,l,ver,z,h1,X6y (Xbh (M:=M) hS _) _ _ h2⟩
   have hsome:∀p∈fz,(look p.1 st.rows).isSome=true:=fun p hp=>by obtain⟨_,_,_,_,_,_,h2⟩:=hmem p hp;rw[h2];rfl
   split at h
   · rename_i hnd
     obtain⟨M1,hS1⟩:=hS.freezes hmem (X39 hnd)
     have hins:X8P fz o st (o.op.operands.toList.map (X0Z st))=o.op.operands.toList.map (X0Z (X2s fz st)):=by
      unfold X8P
      split
      · rfl
      · rfl
     rw[hins]at h
     have hgo:∀e,K (e.frz fz)→X2Y P base M0 ios a o (X2s fz st) e next:=fun e hK v σ' M' w' hS'=>by
      rw[Xfv]at hS'
      exact hn _ hK v σ' M' w' hS'
     split at h
     · rename_i con ts xs hc
       refine Xe0 (tab:=tab) hΓ hS1 hd' hc (K:=fun e=>K (e.frz fz)) ?_ (fun e he _=>hgo e he)
       unfold X7z at h ⊢
       split at h
       · rename_i d x h1 h2 h3
         obtain⟨hpre,hpost⟩:=h
         refine⟨hpre,fun y hy=>?_⟩
         have h4:=hpost y hy
         split at h4
         · rename_i br hbr
           split at h4
           · rename_i hfr
             simp only[hbr,Xco hsome hfr]
             exact h4
           · exact h4.elim
         · exact h4.elim
       · exact h.elim
     · split at h
       · rename_i neg em hnc
         obtain⟨b,hb,hgo'⟩:=XbE hT hS1 hd' hnc (Q:=Q) (next:=next)
         exact hgo' (hgo _ (h b hb))
       · split at h
         · rename_i ps e he
           split at h
           · rename_i hfr
             obtain⟨hps,hK⟩:=X8a h
             exact Xcw hT hΓ.2 hS1 hd' he hps (Xco hsome hfr) (hgo e hK)
           · exact h.elim
         · exact h.elim
   · exact h.elim
 · exact h.elim
theorem XaH(hT:X0q P tab)(hΓ:X72 P Γ)(hS:Sim P base M0 ios σ M w a st){K:St→Prop}(h:Xi5 tab Γ o st K)(hn:∀v σ' M' w' st',Sim P base M0 ios σ' M' w' (a.put o.dst v) st'→K st'→next (a.put o.dst v) w'):o.wp P a w next Q:=
 X7a hT hΓ hS h fun e he v σ' M' w' hS'=>hn v σ' M' w' _ hS' he
theorem Sim.boolAt(hS:Sim P base M0 ios σ M w a st){d:Nat}{b:Bool}(h:st.get d=.val false [.bool b]):a.tmps.getD d undef=.bool b:=by
 have:=hS.slots d
 rw[h]at this
 exact(X0h.one this).1
theorem Xfy(st:St)(d:Nat)(b:Bool)(i:Nat):(st.lit d b).get i=if d=i then .val false [.bool b] else st.get i:=by
 simp only[St.get,St.lit,X01]
 by_cases h:d=i
 · simp[h]
 · simp[h]
theorem Sim.boolAs(hS:Sim P base M0 ios σ M w a st){d:Nat}{b c:Bool}(h:st.get d=.val false [.bool b])(hc:b=c):Sim P base M0 ios σ M w a (st.lit d c):=by
 subst hc
 have hg:∀i,(st.lit d b).get i=st.get i:=fun i=>by
  rw[Xfy]
  split
  · rename_i e;subst e;exact h.symm
  · rfl
 exact {hS with
  slots:=fun i=>by rw[hg];exact hS.slots i
  hot:=hS.hot.still rfl fun _ h=>h
  olds:=fun i hi=>by rw[hg];exact hS.olds i hi}
theorem XaC{ops:Array Oper}{tmps:Array Value}{j d:Nat}{b:Bool}(hj:X2x ops.toList j=some d)(h:tmps.getD d undef=.bool b):yielded ops tmps j=some b:=by
 unfold X2x at hj
 unfold yielded
 rw[←Array.getElem?_toList]
 cases ho:ops.toList[j]? with
 | none=>rw[ho]at hj;cases hj
 | some o=>
   rw[ho]at hj
   simp only[Option.bind_some]
   have hj':o.dst=some d:=hj
   rw[hj']
   simp only[Option.bind_some]
   have:tmps[d]?=some (.bool b):=by
    rw[Array.getD_eq_getD_getElem?]at h
    cases ht:tmps[d]? with
    | none=>rw[ht]at h;cases h
    | some v=>rw[ht]at h;simp at h;rw[h]
   rw[this]
theorem X9c{ops:Array Oper}{tmps:Array Value}{j d:Nat}(hj:X2x ops.toList j=some d)(h:tmps.getD d undef=.tuple #[]):yielded ops tmps j=none:=by
 unfold X2x at hj
 unfold yielded
 rw[←Array.getElem?_toList]
 cases ho:ops.toList[j]? with
 | none=>rfl
 | some o=>
   rw[ho]at hj
   simp only[Option.bind_some]
   have hj':o.dst=some d:=hj
   rw[hj']
   simp only[Option.bind_some]
   rw[Array.getD_eq_getD_getElem?]at h
   cases ht:tmps[d]? with
   | none=>rfl
   | some v=>rw[ht]at h;simp at h;rw[h]
theorem Sim.skip(hS:Sim P base M0 ios σ M w a st)(hd:∀d,o.dst=some d→d<st.nt):Sim P base M0 ios σ M w (a.put o.dst undef) (X2Z o st):=by
 unfold X2Z
 cases h:o.dst with
 | none=>exact hS
 | some d=>exact hS.put (hd d h) ⟨#[],rfl,.nil⟩
theorem XeK(o:Oper)(st:St):(X2Z o st).nt=st.nt:=by unfold X2Z;cases o.dst<;>rfl
theorem X4X{α:Type}{k:Nat}:∀{l:List (Nat×α)} (j:Nat),look j (l.filter fun p=>!(p.1==k))=if j=k then none else look j l
 | [],j=>by simp[look]
 | (i,x)::l,j=>by
   have ih:=X4X (k:=k) (l:=l) j
   by_cases hi:i=k
   · subst hi
     rw[List.filter_cons_of_neg (by simp),ih,X01]
     by_cases hj:j=i
     · rw[if_pos hj,if_pos hj]
     · rw[if_neg hj,if_neg hj,if_neg (fun e=>hj e.symm)]
   · rw[List.filter_cons_of_pos (by simp[hi]),X01,X01,ih]
     by_cases hj:i=j
     · subst hj;simp[hi]
     · simp[hj]
theorem Sim.dropBox(h:Sim P base M0 ios σ M w a st){k x:Nat}(hn:X2V k (st.slots.filter fun p=>!(p.1==x))=true):Sim P base M0 ios σ M w a (Bv.dropBox k x .und st):=by
 have hbx:∀k',(Bv.dropBox k x .und st).box k'=if k'=k then none else st.box k':=fun k'=>X4X k'
 have hsub:∀k',((Bv.dropBox k x .und st).box k').isSome=true→k'≠k∧(st.box k').isSome=true:=fun k' hk'=>by
  rw[hbx]at hk'
  split at hk'
  · cases hk'
  · rename_i e;exact⟨e,hk'⟩
 have hget:∀i,(Bv.dropBox k x .und st).get i=if i=x then .und else st.get i:=fun i=>by
  simp only[St.get,Bv.dropBox,X01,X4X]
  by_cases e:x=i
  · subst e;simp
  · rw[if_neg e,if_neg (fun e'=>e e'.symm),if_neg (fun e'=>e e'.symm)]
 exact {h with
  slots:=fun i=>by
   rw[hget]
   split
   · trivial
   · rename_i hi
     refine(h.slots i).carry (Carry.same σ st.rows (Mem.le_refl M)) (X5r _) (fun k' hk'=>⟨rfl,fun hs=>?_⟩)
     have hne:k'≠k:=fun e=>by
      subst e
      rcases Xb0 (st:=st) (i:=i) with hg | hg
      · rw[hg]at hk';cases hk'
      · have:=X75 hn (List.mem_filter.2 ⟨hg,by simpa using hi⟩)
        exact X1z.1 this hk'
     show((Bv.dropBox k x .und st).box k').isSome=true
     rw[hbx,if_neg hne];exact hs
  boxes:=fun k' cs hk'=>h.boxes k' cs (by rw[hbx]at hk';split at hk';· cases hk'
                                          · exact hk')
  boxM:=fun k' hk'=>h.boxM k' (hsub k' hk').2
  boxInj:=fun k1 k2 h1 h2=>h.boxInj k1 k2 (hsub k1 h1).2 (hsub k2 h2).2
  boxBase:=fun k' hk'=>h.boxBase k' (hsub k' hk').2
  rowBox:=fun r k' hr hk'=>h.rowBox r k' hr (hsub k' hk').2
  hot:=h.hot.still rfl fun k' hk'=>(hsub k' hk').2
  olds:=fun i hi=>by
   have hm:=List.mem_filter.1 hi
   have:=h.olds i hm.1
   rw[hget,if_neg (by simpa using hm.2)];exact this}
theorem Xd7(hE:Xfj P Γ.eqs)(hS:Sim P base M0 ios σ M w a st){st':St}(h:Xgb Γ o st=some st')(hn:∀M' w',Sim P base M0 ios σ M' w' a st'→next a w'):o.wp P a w next Q:=by
 unfold Xgb at h
 split at h
 · rename_i t x y hop hdst
   split at h
   · rename_i k j off hl hx hy
     split at h
     · rename_i hk
       split at h
       · rename_i hc
         cases h
         rw[Bool.and_eq_true]at hc
         obtain⟨hkj,hnb⟩:=hc
         have hkj:k≠j:=by simpa using hkj
         have hpt:=hE t _ hl
         obtain⟨_,hsz⟩:=XdQ (hpt.1 rfl).2 w
         have hvx:=hS.slots x
         rw[hx]at hvx
         have hvy:=(X1g (M:=M) hS y).rep
         rw[hy]at hvy
         have ex:a.eval (.tmp x)=.pointer (some ⟨σ.box k,0,none⟩):=by
          show a.tmps.getD x undef=_
          rw[hvx.1];simp[Addr.add]
         obtain⟨arr,E,hh,hcs⟩:=hS.boxes k [.und] hk
         have hal:arr.toList.length=1:=hcs.length
         have hone:∀u∈(a.eval y).cells.toList,u.oneCell'=true:=by
          rw[hvy.1];intro u hu;simp[Value.cells]at hu;subst hu;rfl
         have hyc:(a.eval y).cells.toList=[a.eval y]:=by rw[hvy.1];rfl
         have hst:=run_storeCells_at P (σ.box k) 0 E (a.eval y).cells.toList 0 arr w hh (by rw[hyc];simp;have:=hal;simp at this;omega) hone
         have hdr:arr.toList.drop 1=[]:=List.drop_eq_nil_of_le (by omega)
         have hrow:(arr.toList.take 0++(a.eval y).cells.toList++arr.toList.drop (0+(a.eval y).cells.toList.length)).toArray=#[a.eval y]:=by
          rw[hyc];simp[hdr]
         have hS1:Sim P base M0 ios σ M (w.setRow (σ.box k) #[a.eval y]) a {st with boxes:=(k,[.und])::st.boxes}:=hS.storeBox (ds:=[.und]) (arr':=#[a.eval y]) hk hh (.cons ⟨hone _ (by rw[hyc];simp),trivial⟩ .nil)
         have hrun:(execOp a.eval o).run P w=.ok .skip (w.setRow (σ.box k) #[a.eval y]):=by
          have hsz':(a.eval y).cells.size=1:=by rw[←Array.length_toList,hyc];rfl
          simp[execOp,hop,Instr.storeAt,Instr.sureAddr,ex,storeVar,hsz,hsz']
          simp only[Nat.add_zero]at hst
          rw[hrow]at hst
          simp[hst]
         unfold Oper.wp
         rw[hrun]
         show next (a.put o.dst undef) _
         rw[hdst]
         show next a _
         generalize hw':w.setRow (σ.box k) #[a.eval y]=w' at hS1 ⊢
         have hheap:w'.heap[σ.box k]?=some (.cells #[a.eval y] E (0,0)):=by
          rw[←hw'];exact X7M w (σ.box k) _ _ _ hh
         have hk1:(({st with boxes:=(k,[.und])::st.boxes}:St).box k).isSome=true:=by simp[St.box,X01]
         have hS2:=hS1.dropBox (k:=k) (x:=x) hnb
         have hbx:∀k',((dropBox k x .und {st with boxes:=(k,[.und])::st.boxes}).box k').isSome=true→k'≠k∧(({st with boxes:=(k,[.und])::st.boxes}:St).box k').isSome=true:=fun k' hk'=>by
          have e:(dropBox k x .und {st with boxes:=(k,[.und])::st.boxes}).box k'=if k'=k then none else({st with boxes:=(k,[.und])::st.boxes}:St).box k':=X4X k'
          rw[e]at hk'
          split at hk'
          · cases hk'
          · rename_i e;exact⟨e,hk'⟩
         have hcell:w'.cell? ⟨σ.box k,0,none⟩=some (a.eval y):=by
          rw[cell_of_row w' (σ.box k) 0 #[a.eval y] E (0,0) hheap];rfl
         have hS3:=hS2.moreMem (M':=fun ad=>if ad.block=σ.box k then w'.cell? ad else M ad) (fun ad v hv=>by
          have hne:ad.block≠σ.box k:=fun e=>by have:=hS1.boxM k hk1 ad e;rw[this]at hv;cases hv
          show(if ad.block=σ.box k then w'.cell? ad else M ad)=some v
          rw[if_neg hne];exact hv)
          (fun ad v hv=>by
            have hv:(if ad.block=σ.box k then w'.cell? ad else M ad)=some v:=hv
            split at hv
            · exact hv
            · exact hS1.mem ad v hv)
          (fun k' hk' ad had=>by
            obtain⟨h1,h2⟩:=hbx k' hk'
            have hne:ad.block≠σ.box k:=fun e=>h1 (hS1.boxInj k' k h2 hk1 (by rw[←had,e]))
            simp only[if_neg hne];exact hS1.boxM k' h2 ad had)
          (fun ad h1 h2 h3=>by
            have hne:ad.block≠σ.box k:=fun e=>by
             rcases hS1.boxBase k hk1 with hb | hb
             · omega
             · exact h2 (e▸hb)
            simp only[if_neg hne];exact hS1.old ad h1 h2 h3)
          (fun r e he n xs i hi ho hm g hg ad had hle=>by
            have e2:({st with boxes:=(k,[.und])::st.boxes}:St).row r=some e:=he
            have e3:(({st with boxes:=(k,[.und])::st.boxes}:St).row r).isSome=true:=by rw[e2];rfl
            have hne:ad.block≠σ.box k:=fun e1=>hS1.rowBox r k e3 hk1 (by rw[hg,←had,e1])
            simp only[if_neg hne];exact hm g hg ad had hle)
          (fun r hr g hg ad had=>by
            have hne:ad.block≠σ.box k:=fun e1=>hS1.hot.noBox r hr k hk1 (by rw[←e1,had];exact hg)
            simp only[if_neg hne];exact hS1.hot.noM r hr g hg ad had)
         refine hn (fun ad=>if ad.block=σ.box k then w'.cell? ad else M ad) w' ?_
         have hjs:(look j st.boxes).isSome=true:=hvy.2
         have hfin:dropBox k x (.pp j off) st={dropBox k x .und {st with boxes:=(k,[.und])::st.boxes} with slots:=(x,.pp j off)::st.slots.filter fun p=>!(p.1==x)}:=by
          simp[dropBox]
         rw[hfin]
         exact {hS3 with
          slots:=fun i=>by
           by_cases e:x=i
           · subst e
             have hg:({dropBox k x .und {st with boxes:=(k,[.und])::st.boxes} with slots:=(x,.pp j off)::st.slots.filter fun p=>!(p.1==x)}:St).get x=.pp j off:=by simp[St.get,X01]
             rw[hg]
             refine⟨⟨σ.box k,0,none⟩,ex,?_,?_⟩
             · simp only[if_true];rw[hcell,hvy.1]
             · have e:look j (dropBox k x .und {st with boxes:=(k,[.und])::st.boxes}).boxes=if j=k then none else look j ((k,[.und])::st.boxes):=X4X j
               show(look j (dropBox k x .und {st with boxes:=(k,[.und])::st.boxes}).boxes).isSome=true
               rw[e,if_neg (fun e=>hkj e.symm),X01,if_neg hkj];exact hjs
           · have h1:=hS3.slots i
             have hg:({dropBox k x .und {st with boxes:=(k,[.und])::st.boxes} with slots:=(x,.pp j off)::st.slots.filter fun p=>!(p.1==x)}:St).get i=(dropBox k x .und {st with boxes:=(k,[.und])::st.boxes}).get i:=by simp[St.get,dropBox,X01,e]
             rw[hg];exact h1
          hot:=hS3.hot.still rfl fun _ h=>h
          olds:=fun i hi=>by
           have h1:=hS3.olds i hi
           have hne:i≠x:=by have:=(List.mem_filter.1 hi).2;simpa using this
           have hne2:¬x=i:=fun e=>hne e.symm
           have hg:({dropBox k x .und {st with boxes:=(k,[.und])::st.boxes} with slots:=(x,.pp j off)::st.slots.filter fun p=>!(p.1==x)}:St).get i=(dropBox k x .und {st with boxes:=(k,[.und])::st.boxes}).get i:=by simp[St.get,dropBox,X01,hne2]
           rw[hg];exact h1}
       · cases h
     · cases h
   · cases h
 · cases h
theorem XcW(hT:X0q P tab)(hΓ:X72 P Γ)(hS:Sim P base M0 ios σ M w a st){K:St→Prop}(h:Xhn tab Γ o st K)(hn:∀v σ' M' w' st',Sim P base M0 ios σ' M' w' (a.put o.dst v) st'→K st'→next (a.put o.dst v) w'):o.wp P a w next Q:=by
 unfold Xhn at h
 split at h
 · rename_i st' hp
   refine Xd7 hΓ.2 hS hp fun M' w' hS'=>?_
   have hdn:o.dst=none:=by
    unfold Xgb at hp
    split at hp
    · assumption
    · cases hp
   have:=hn undef σ M' w' st' (by rw[hdn];exact hS') h
   rw[hdn]at this;exact this
 · exact XaH hT hΓ hS h hn
theorem X6e(hT:X0q P tab)(hΓ:X72 P Γ){ops:Array Oper}{K:St→Prop}(hq:∀σ' M' w' a' st',Sim P base M0 ios σ' M' w' a' st'→K st'→Q .normal a' w'):
 ∀(l:List Oper) (st:St) (σ:Sg) (M:Mem) (w:World) (a:Act),(∀o∈l,∀d,o.dst=some d→d<st.nt)→Sim P base M0 ios σ M w a st→X9n tab Γ ops.toList l st K→wpList P ops Q l a w
 | [],st,σ,M,w,a,_,hS,h=>hq _ _ _ _ _ hS h
 | o::rest,st,σ,M,w,a,hd,hS,h=>by
   have hd0:∀d,o.dst=some d→d<st.nt:=hd o (by simp)
   have one:∀(st2:St),st2.nt=st.nt→Sim P base M0 ios σ M w a st2→Xi5 tab Γ o st2 (fun st'=>X9n tab Γ ops.toList rest st' K)→o.wp P a w (wpList P ops Q rest) Q:=by
    intro st2 hnt hS2 h2
    refine XaH hT hΓ hS2 h2 fun v σ' M' w' st' hS' hK=>?_
    refine X6e hT hΓ hq rest st' _ _ _ _ (fun o' ho' d hd'=>?_) hS' hK
    have e1:=hS'.nt
    have e2:=hS.nt
    have e3:(a.put o.dst v).tmps.size=a.tmps.size:=by cases o.dst<;>simp[Act.put]
    rw[←e1,e3,e2]
    exact hd o' (by simp[ho']) d hd'
   have skip:∀(st2:St),st2.nt=st.nt→Sim P base M0 ios σ M w a st2→X9n tab Γ ops.toList rest (X2Z o st2) K→wpList P ops Q rest (a.put o.dst undef) w:=by
    intro st2 hnt hS2 h2
    refine X6e hT hΓ hq rest _ _ _ _ _ (fun o' ho' d hd'=>?_) (hS2.skip (o:=o) fun d e=>by rw[hnt];exact hd0 d e) h2
    rw[XeK,hnt]
    exact hd o' (by simp[ho']) d hd'
   simp only[X9n]at h
   unfold wpList
   cases hg:o.guard with
   | none=>
     rw[hg]at h
     have hw:Region.wanted o (yielded ops a.tmps)=true:=by simp[Region.wanted,hg]
     rw[if_pos hw]
     refine .inl (XcW hT hΓ hS h fun v σ' M' w' st' hS' hK=>?_)
     refine X6e hT hΓ hq rest st' _ _ _ _ (fun o' ho' d hd'=>?_) hS' hK
     have e1:=hS'.nt
     have e2:=hS.nt
     have e3:(a.put o.dst v).tmps.size=a.tmps.size:=by cases o.dst<;>simp[Act.put]
     rw[←e1,e3,e2]
     exact hd o' (by simp[ho']) d hd'
   | some g=>
     obtain⟨j,X6i⟩:=g
     rw[hg]at h
     simp only at h
     cases hj:X2x ops.toList j with
     | none=>rw[hj]at h;exact h.elim
     | some dj=>
       rw[hj]at h
       simp only at h
       split at h
       · rename_i b hb
         replace h:=X7r h
         have hy:=XaC hj (hS.boolAt hb)
         have hw:Region.wanted o (yielded ops a.tmps)=(b==X6i):=by
          simp only[Region.wanted,hg,hy]
          cases b<;>cases X6i<;>rfl
         rw[hw]
         cases hbb:b with
         | true=>
           have h1:=h.1 hbb
           have hS1:=hS.boolAs hb hbb
           cases X6i with
           | true=>exact .inl (one (st.lit dj true) rfl hS1 h1)
           | false=>exact skip (st.lit dj true) rfl hS1 h1
         | false=>
           have h1:=h.2 hbb
           have hS1:=hS.boolAs hb hbb
           cases X6i with
           | false=>exact .inl (one (st.lit dj false) rfl hS1 h1)
           | true=>exact skip (st.lit dj false) rfl hS1 h1
       · rename_i hb
         have hs:=hS.slots dj
         rw[hb]at hs
         obtain⟨vs,hv,h2⟩:=hs
         have hvs:vs=#[]:=by
          have:vs.toList=[]:=by
           cases hl:vs.toList with
           | nil=>rfl
           | cons x l=>rw[hl]at h2;cases h2
          simpa using this
         rw[hvs]at hv
         have hw:Region.wanted o (yielded ops a.tmps)=false:=by
          simp only[Region.wanted,hg,X9c hj hv]
          rfl
         rw[hw]
         exact skip st rfl hS h
       · exact h.elim
end Go.Proofs.Ytakllifahpfmpaa.Bv
namespace Go.Proofs.Ytakllifahpfmpaa.Bv
variable {P:Program} {base:World} {M0:Mem} {ios:Ios} {σ:Sg} {M:Mem} {w:World} {a:Act} {st:St} {tab:Tab} {Γ:Gam}
theorem X6V{α:Type}{l l':List (Nat×α)}:∀{ks:List Nat},(∀k∈ks,look k l=look k l')→pick l ks=pick l' ks
 | [],_=>rfl
 | k::ks,h=>by
   simp only[pick,h k (by simp),X6V (ks:=ks) fun k' hk'=>h k' (List.mem_cons_of_mem _ hk')]
theorem X8k{s s':St}{sv:Sv}(h1:∀k∈X1u sv,look k s.boxes=look k s'.boxes)(h2:∀r∈X3m sv++X6E (pick s.boxes (X1u sv)),look r s.rows=look r s'.rows):XeB s sv=XeB s' sv:=by
 have e1:=X6V h1
 have e2:=X6V h2
 unfold XeB
 simp only[←e1,←e2]
theorem X8T{s s':St}(h:Ext s s')(x:Operand):X0Z s x=X0Z s' x:=by
 cases x with
 | tmp t=>
   simp only[X0Z,←h.get t]
   exact X8k (fun k _=>h.box k) (fun r _=>h.row r)
 | _=>rfl
def X0o(o:Oper)(x:Option Eff)(s:St):St:=match x with
 | some e=>e.apply o.dst s
 | none=>X2Z o s
def XhO:Option Eff→Sv
 | some e=>e.sv
 | none=>.tup []
theorem X7x(o:Oper)(x:Option Eff)(s:St):(X0o o x s).nt=s.nt:=by
 cases x with
 | some e=>rfl
 | none=>exact XeK o s
theorem X4S(o:Oper)(x:Option Eff)(s:St)(i:Nat):(X0o o x s).get i=if o.dst=some i then XhO x else s.get i:=by
 cases x with
 | some e=>
   simp only[X0o,Eff.apply,St.get,XhO]
   cases h:o.dst with
   | none=>simp
   | some d=>
     simp only[X01,Option.some.injEq]
     by_cases hd:d=i
     · simp[hd]
     · simp[hd]
 | none=>
   simp only[X0o,X2Z,XhO]
   cases h:o.dst with
   | none=>simp
   | some d=>
     simp only[Option.some.injEq,Xct]
     by_cases hd:d=i
     · subst hd;simp
     · simp[hd,Ne.symm hd]
theorem X7f(o:Oper)(x:Option Eff)(s:St)(i:Nat):i∈(X0o o x s).olds↔i∈s.olds∧o.dst≠some i:=by
 cases x with
 | some e=>
   simp only[X0o,Eff.apply]
   cases h:o.dst with
   | none=>simp
   | some d=>simp[List.mem_filter];intro _;exact⟨fun h e=>h e.symm,fun h e=>h e.symm⟩
 | none=>
   simp only[X0o,X2Z]
   cases h:o.dst with
   | none=>simp
   | some d=>simp[St.put,List.mem_filter];intro _;exact⟨fun h e=>h e.symm,fun h e=>h e.symm⟩
def tB(o:Oper):Option Eff→List Nat
 | none=>[]
 | some e=>(match e.sbox with | some p=>[p.1] | none=>[])++(match o.dst,e.nbox with | some d,some _=>[d+1] | _,_=>[])
def tR:Option Eff→List Nat
 | none=>[]
 | some e=>e.nrow.map (·.1)++(e.urow.map (·.1)++e.krow)
theorem X13{o:Oper}{x:Option Eff}{k:Nat}(h:k∉tB o x)(s:St):(X0o o x s).box k=s.box k:=by
 cases x with
 | none=>simp only[X0o,X2Z];cases o.dst<;>rfl
 | some e=>
   simp only[tB,List.mem_append,not_or]at h
   simp only[X0o,Eff.apply,St.box]
   cases hs:e.sbox with
   | none=>
     cases hd:o.dst with
     | none=>rfl
     | some d=>
       cases hn:e.nbox with
       | none=>rfl
       | some cs=>
         rw[hd,hn]at h
         simp only[List.mem_singleton]at h
         simp only[X01,if_neg (Ne.symm h.2)]
   | some p=>
     rw[hs]at h
     simp only[List.mem_singleton]at h
     obtain⟨pk,pc⟩:=p
     simp only[X01,if_neg (Ne.symm h.1)]
     cases hd:o.dst with
     | none=>rfl
     | some d=>
       cases hn:e.nbox with
       | none=>rfl
       | some cs=>
         rw[hd,hn]at h
         simp only[List.mem_singleton]at h
         simp only[X01,if_neg (Ne.symm h.2)]
theorem X4H{o:Oper}{x:Option Eff}{k:Nat}(h:k∈tB o x)(s s':St):(X0o o x s).box k=(X0o o x s').box k:=by
 cases x with
 | none=>simp[tB]at h
 | some e=>
   simp only[tB,List.mem_append]at h
   simp only[X0o,Eff.apply,St.box]
   cases hs:e.sbox with
   | none=>
     rw[hs]at h
     cases hd:o.dst with
     | none=>rw[hd]at h;simp at h
     | some d=>
       cases hn:e.nbox with
       | none=>rw[hd,hn]at h;simp at h
       | some cs=>
         rw[hd,hn]at h
         simp only[List.not_mem_nil,List.mem_singleton,false_or]at h
         simp[X01,h]
   | some p=>
     rw[hs]at h
     obtain⟨pk,pc⟩:=p
     simp only[X01]
     by_cases hk:pk=k
     · simp[hk]
     · simp only[if_neg hk]
       cases hd:o.dst with
       | none=>rw[hd]at h;simp[Ne.symm hk]at h
       | some d=>
         cases hn:e.nbox with
         | none=>rw[hd,hn]at h;simp[Ne.symm hk]at h
         | some cs=>
           rw[hd,hn]at h
           simp only[List.mem_singleton,Ne.symm hk,false_or]at h
           simp[X01,h]
theorem X9F{α:Type}{k:Nat}:∀{l:List (Nat×α)},k∈l.map (·.1)→∃x,look k l=some x
 | [],h=>by simp at h
 | (j,x)::l,h=>by
   rw[X01]
   split
   · exact⟨x,rfl⟩
   · rename_i hne
     simp only[List.map_cons,List.mem_cons]at h
     rcases h with h | h
     · exact absurd h.symm hne
     · exact X9F h
theorem X84(e:Eff)(d:Option Nat)(s:St)(r:Nat):(e.apply d s).rowv r=match look r e.nrow with
 | some x=>some x
 | none=>if X1C r e.krow=true then(match look r e.urow with | some x=>some x | none=>s.rowv r) else none:=by
 simp only[St.rowv,Eff.apply,X2j,X24,X51]
 cases look r e.nrow with
 | some x=>rfl
 | none=>
   cases X1C r e.krow with
   | false=>rfl
   | true=>cases look r e.urow<;>rfl
theorem X12{o:Oper}{x:Option Eff}{r:Nat}(h:r∉tR x)(s:St):(X0o o x s).rowv r=s.rowv r:=by
 cases x with
 | none=>simp only[X0o,X2Z];cases o.dst<;>rfl
 | some e=>
   simp only[tR,List.mem_append,not_or]at h
   show(e.apply o.dst s).rowv r=_
   rw[X84,X7w h.1,X7w h.2.1]
   simp only[X1z.2 h.2.2,if_true]
theorem X4Q{o:Oper}{x:Option Eff}{r:Nat}(h:r∈tR x)(s s':St):(X0o o x s).rowv r=(X0o o x s').rowv r:=by
 cases x with
 | none=>simp[tR]at h
 | some e=>
   simp only[tR,List.mem_append]at h
   show(e.apply o.dst s).rowv r=(e.apply o.dst s').rowv r
   rw[X84,X84]
   by_cases hn:r∈e.nrow.map (·.1)
   · obtain⟨v,hv⟩:=X9F hn
     simp[hv]
   · rw[X7w hn]
     simp only[hn,false_or]at h
     by_cases hk:r∈e.krow
     · have:¬(X1C r e.krow=true):=fun h'=>X1z.1 h' hk
       simp only[if_neg this]
     · simp only[hk,or_false]at h
       obtain⟨v,hv⟩:=X9F h
       simp[hv]
theorem X6Z{o:Oper}{x:Option Eff}{s s':St}(h:Ext s s'):Ext (X0o o x s) (X0o o x s') where
 nt:=by rw[X7x,X7x,h.nt]
 get:=fun i=>by rw[X4S,X4S,h.get]
 box:=fun k=>by
  by_cases hk:k∈tB o x
  · exact X4H hk _ _
  · rw[X13 hk,X13 hk,h.box]
 row:=fun r=>by
  by_cases hr:r∈tR x
  · exact X4Q hr _ _
  · rw[X12 hr,X12 hr,h.row]
 olds:=fun i=>by rw[X7f,X7f,h.olds]
structure XbB (o:Oper) (x:Option Eff) (o':Oper) (x':Option Eff):Prop where
 dst:∀d,o.dst=some d→o'.dst≠some d
 box:∀k,k∈tB o x→k∉tB o' x'
 row:∀r,r∈tR x→r∉tR x'
theorem XbB.swap{o o':Oper}{x x':Option Eff}(h:XbB o x o' x')(s:St):Ext (X0o o x (X0o o' x' s)) (X0o o' x' (X0o o x s)) where
 nt:=by simp only[X7x]
 get:=fun i=>by
  simp only[X4S]
  by_cases h1:o.dst=some i
  · have:=h.dst i h1
    simp[h1,this]
  · simp[h1]
 box:=fun k=>by
  by_cases hk:k∈tB o x
  · have:=h.box k hk
    rw[X13 this,X4H hk _ s]
  · rw[X13 hk]
    by_cases hk':k∈tB o' x'
    · exact X4H hk' _ _
    · rw[X13 hk',X13 hk',X13 hk]
 row:=fun r=>by
  by_cases hr:r∈tR x
  · have:=h.row r hr
    rw[X12 this,X4Q hr _ s]
  · rw[X12 hr]
    by_cases hr':r∈tR x'
    · exact X4Q hr' _ _
    · rw[X12 hr',X12 hr',X12 hr]
 olds:=fun i=>by
  simp only[X7f]
  constructor<;>(rintro ⟨⟨h1,h2⟩,h3⟩;exact⟨⟨h1,h3⟩,h2⟩)
def X3q(L:Nat→Bool):Nat→List (Oper×Option Eff)→St→St
 | _,[],s=>s
 | k,(o,x)::l,s=>X3q L (k+1) l (cond (L k) (X0o o x s) s)
theorem Xbd{L:Nat→Bool}:∀{l:List (Oper×Option Eff)} {k:Nat} {s s':St},Ext s s'→Ext (X3q L k l s) (X3q L k l s')
 | [],_,_,_,h=>h
 | (o,x)::l,k,s,s',h=>by
   simp only[X3q]
   refine Xbd ?_
   cases L k
   · exact h
   · exact X6Z h
theorem X9N{L L':Nat→Bool}:∀{l:List (Oper×Option Eff)} {k:Nat} (s:St),(∀i,i<l.length→L (k+i)=L' (k+i))→X3q L k l s=X3q L' k l s
 | [],_,_,_=>rfl
 | (o,x)::l,k,s,h=>by
   simp only[X3q]
   have h0:=h 0 (by simp)
   rw[Nat.add_zero]at h0
   rw[h0]
   exact X9N _ fun i hi=>by have:=h (i+1) (by simp;omega);rwa [show k+1+i=k+(i+1) by omega]
structure X6k (S B R:List Nat) (s s':St):Prop where
 get:∀i∈S,s.get i=s'.get i
 box:∀k∈B,s.box k=s'.box k
 row:∀r∈R,s.rowv r=s'.rowv r
structure XcI (S B R:List Nat) (o:Oper) (x:Option Eff):Prop where
 dst:∀d,o.dst=some d→d∉S
 box:∀k∈tB o x,k∉B
 row:∀r∈tR x,r∉R
theorem X6k.both{S B R:List Nat}{s s':St}{o:Oper}{x:Option Eff}(h:X6k S B R s s'):X6k S B R (X0o o x s) (X0o o x s') where
 get:=fun i hi=>by rw[X4S,X4S,h.get i hi]
 box:=fun k hk=>by
  by_cases hb:k∈tB o x
  · exact X4H hb _ _
  · rw[X13 hb,X13 hb,h.box k hk]
 row:=fun r hr=>by
  by_cases hb:r∈tR x
  · exact X4Q hb _ _
  · rw[X12 hb,X12 hb,h.row r hr]
theorem XcI.agree{S B R:List Nat}{o:Oper}{x:Option Eff}(h:XcI S B R o x)(s:St):X6k S B R (X0o o x s) s where
 get:=fun i hi=>by rw[X4S,if_neg fun e=>h.dst i e hi]
 box:=fun k hk=>X13 (fun hb=>h.box k hb hk) s
 row:=fun r hr=>X12 (fun hb=>h.row r hb hr) s
theorem X6k.symm{S B R:List Nat}{s s':St}(h:X6k S B R s s'):X6k S B R s' s:=⟨fun i hi=>(h.get i hi).symm,fun i hi=>(h.box i hi).symm,fun i hi=>(h.row i hi).symm⟩
theorem X6k.trans{S B R:List Nat}{s s' s'':St}(h:X6k S B R s s')(k:X6k S B R s' s''):X6k S B R s s'':=
 ⟨fun i hi=>(h.get i hi).trans (k.get i hi),fun i hi=>(h.box i hi).trans (k.box i hi),fun i hi=>(h.row i hi).trans (k.row i hi)⟩
theorem Xc5{S B R:List Nat}{L L':Nat→Bool}:∀{l:List (Oper×Option Eff)} {k:Nat} {s s':St},(∀j o x,l[j]?=some (o,x)→L (k+j)≠L' (k+j)→XcI S B R o x)→X6k S B R s s'→
 X6k S B R (X3q L k l s) (X3q L' k l s')
 | [],_,_,_,_,h=>h
 | (o,x)::l,k,s,s',hc,h=>by
   simp only[X3q]
   refine Xc5 (fun j o' x' hj hne=>hc (j+1) o' x' (by simpa using hj) (by rwa [show k+(j+1)=k+1+j by omega])) ?_
   have h0:=hc 0 o x (by simp)
   rw[Nat.add_zero]at h0
   cases hl:L k<;>cases hl':L' k
   · exact h
   · exact h.trans ((h0 (by rw[hl,hl'];simp)).agree s').symm
   · exact((h0 (by rw[hl,hl'];simp)).agree s).trans h
   · exact h.both
theorem XdF{L:Nat→Bool}{o:Oper}{x:Option Eff}:∀{l:List (Oper×Option Eff)} {k:Nat} {s:St},(∀j o' x',l[j]?=some (o',x')→L (k+j)=true→XbB o x o' x')→
 Ext (X0o o x (X3q L k l s)) (X3q L k l (X0o o x s))
 | [],_,_,_=>Ext.refl _
 | (o',x')::l,k,s,h=>by
   simp only[X3q]
   have h0:=h 0 o' x' (by simp)
   rw[Nat.add_zero]at h0
   refine(XdF (fun j o2 x2 hj hl=>h (j+1) o2 x2 (by simpa using hj) (by rwa [show k+(j+1)=k+1+j by omega]))).trans ?_
   cases hl:L k
   · exact Ext.refl _
   · exact Xbd ((h0 hl).swap s)
theorem Xbo{L L':Nat→Bool}{o:Oper}{x:Option Eff}:∀{l:List (Oper×Option Eff)} {k j:Nat} {s:St},l[j]?=some (o,x)→L (k+j)=false→(∀i,L' i=(L i||i==k+j))→
 (∀i o' x',l[i]?=some (o',x')→j<i→L (k+i)=true→XbB o x o' x')→Ext (X0o o x (X3q L k l s)) (X3q L' k l s)
 | [],_,_,_,hj,_,_,_=>by simp at hj
 | (o',x')::l,k,0,s,hj,hL,hL',h=>by
   simp at hj
   obtain⟨rfl,rfl⟩:=hj
   rw[Nat.add_zero]at hL hL'
   have hk':L' k=true:=by rw[hL'];simp
   simp only[X3q,hL,hk',cond_false,cond_true]
   rw[X9N (L:=L') (L':=L) _ (fun i _=>by rw[hL'];simp;omega)]
   exact XdF fun j o2 x2 hj hl=>h (j+1) o2 x2 (by simpa using hj) (by omega) (by rwa [show k+(j+1)=k+1+j by omega])
 | (o',x')::l,k,j+1,s,hj,hL,hL',h=>by
   simp only[X3q]
   have hk:L' k=L k:=by rw[hL'];simp
   rw[hk]
   refine Xbo (j:=j) (by simpa using hj) (by rwa [show k+1+j=k+(j+1) by omega]) (fun i=>by rw[hL',show k+(j+1)=k+1+j by omega]) (fun i o2 x2 hi hlt hl=>h (i+1) o2 x2 (by simpa using hi) (by omega) (by rwa [show k+(i+1)=k+1+i by omega]))
def X5K:List Operand→List Nat
 | []=>[]
 | .tmp t::l=>t::X5K l
 | _::l=>X5K l
def XfH(all:List Oper)(o:Oper):List Nat:=match o.guard with
 | some (j,_)=>(match X2x all j with | some d=>[d] | none=>[])
 | none=>[]
def opB(s:St):Operand→List Nat
 | .tmp t=>X1u (s.get t)
 | _=>[]
def opR(s:St):Operand→List Nat
 | .tmp t=>X3m (s.get t)++X6E (pick s.boxes (X1u (s.get t)))
 | _=>[]
def Xgk(s:St):List Operand→List Nat
 | []=>[]
 | x::l=>opB s x++Xgk s l
def Xh2(s:St):List Operand→List Nat
 | []=>[]
 | x::l=>opR s x++Xh2 s l
theorem X9Z{s s':St}{fz:List (Nat×X0f)}:∀(xs:List Operand),X6k (X5K xs) (Xgk s xs) (Xh2 s xs) s s'→xs.map (X0Z s')=xs.map (X0Z s)∧xs.map (X0Z (X2s fz s'))=xs.map (X0Z (X2s fz s))
 | [],_=>⟨rfl,rfl⟩
 | x::xs,h=>by
   have rest:X6k (X5K xs) (Xgk s xs) (Xh2 s xs) s s':=⟨fun i hi=>h.get i (by cases x<;>simp[X5K,hi]),fun k hk=>h.box k (by simp[Xgk,hk]),fun r hr=>h.row r (by simp[Xh2,hr])⟩
   obtain⟨e1,e2⟩:=X9Z (fz:=fz) xs rest
   have hx:X0Z s' x=X0Z s x∧X0Z (X2s fz s') x=X0Z (X2s fz s) x:=by
    cases x with
    | tmp t=>
      have hg:s.get t=s'.get t:=h.get t (by simp[X5K])
      have hgf:(X2s fz s').get t=s'.get t:=rfl
      have hgf':(X2s fz s).get t=s.get t:=rfl
      simp only[X0Z,hgf,hgf',←hg]
      have hb:∀k∈X1u (s.get t),look k s.boxes=look k s'.boxes:=fun k hk=>h.box k (by simp[Xgk,opB,hk])
      have hr:∀r∈X3m (s.get t)++X6E (pick s.boxes (X1u (s.get t))),look r s.rows=look r s'.rows:=fun r hr=>h.row r (List.mem_append.2 (.inl hr))
      refine⟨(X8k hb hr).symm,(X8k (s:=X2s fz s) (s':=X2s fz s') hb fun r hrm=>?_).symm⟩
      show look r (fz++s.rows)=look r (fz++s'.rows)
      rw[X24,X24,hr r hrm]
    | _=>exact⟨rfl,rfl⟩
   exact⟨by rw[List.map_cons,List.map_cons,hx.1,e1],by rw[List.map_cons,List.map_cons,hx.2,e2]⟩
end Go.Proofs.Ytakllifahpfmpaa.Bv
namespace Go.Proofs.Ytakllifahpfmpaa.Bv
variable {P:Program} {base:World} {M0:Mem} {ios:Ios} {σ:Sg} {M:Mem} {w:World} {a:Act} {st:St} {tab:Tab} {Γ:Gam} {o:Oper} {next:Act→World→Prop} {Q:Exit→Act→World→Prop}
def X6A(tab:Tab)(Γ:Gam)(o:Oper)(fz:List (Nat×X0f))(ins:List In):Option (List Prop×Eff):=
 match X2n (fz.map (·.1)) with
 | true=>match X1E Γ o ins with
   | some (con,ts,xs)=>match con.f,o.dst,X8Y tab con ts xs,con.newR&&con.io with
     | some f,some d,some x,false=>match X3b x.rows x.cs con.backA (flat con.B (f x.i x.a).2.2) with
       | some br=>some ([con.pre x.i x.a],(X11 con d x (f x.i x.a) br).frz fz)
       | none=>none
     | _,_,_,_=>none
   | none=>match X73 tab Γ o ins with
     | some (ps,e)=>some (ps,e.frz fz)
     | none=>none
 | false=>none
def X5z(tab:Tab)(Γ:Gam)(o:Oper)(st:St):Option (List Prop×Eff):=
 let ins0:=o.op.operands.toList.map (X0Z st)
 let fz:=X2N (ins0.flatMap (·.rows)) (X3d tab Γ o ins0)
 X6A tab Γ o fz (X8P fz o st ins0)
def Xew(tab:Tab)(Γ:Gam)(o:Oper)(st:St)(K:Eff→Prop):Prop:=
 match (match o.dst with | some d=>decide (d<st.nt) | none=>true) with
 | true=>
   let ins0:=o.op.operands.toList.map (X0Z st)
   let fz:=X2N (ins0.flatMap (·.rows)) (X3d tab Γ o ins0)
   let ins:=X8P fz o st ins0
   match X2n (fz.map (·.1)) with
   | true=>
     match X1E Γ o ins with
     | some (con,ts,xs)=>match con.f with
       | some _=>X7z tab con o ts xs st fun e=>K (e.frz fz)
       | none=>False
     | none=>match X73 tab Γ o ins with
       | some (ps,e)=>match X10 e o.dst st with
         | true=>XhT ps (K (e.frz fz))
         | false=>False
       | none=>False
   | false=>False
 | false=>False
theorem X6d{fz:List (Nat×X0f)}:∀{l:List (Nat×X0f)},noVers st (l++fz)=true→noVers st l=true
 | [],_=>rfl
 | (r,.hot _ _ _ _ _ _)::l,h=>by
   simp only[List.cons_append,noVers,Bool.and_eq_true]at h ⊢
   exact⟨h.1,X6d h.2⟩
 | (r,.cold _)::l,h=>by simp only[List.cons_append,noVers]at h ⊢;exact X6d h
 | (r,.frz _ _ _ _ _)::l,h=>by simp only[List.cons_append,noVers]at h ⊢;exact X6d h
theorem X69{fz:List (Nat×X0f)}{e:Eff}{d:Option Nat}(h:X10 (e.frz fz) d st=true):X10 e d st=true:=by
 unfold X10 at h ⊢
 simp only[Bool.and_eq_true]at h ⊢
 exact⟨⟨h.1.1,X6d h.1.2⟩,h.2⟩
theorem Xfh{ps:List Prop}{X:Prop}(h:∀p∈ps,p)(hx:X):XhT ps X:=by
 induction ps with
 | nil=>exact hx
 | cons p ps ih=>exact⟨h p (by simp),ih fun q hq=>h q (by simp[hq])⟩
theorem XcS{ins:List In}{x:List Prop×Eff}(h:X73 tab Γ o ins=some x):XaD tab o ins=none:=by
 unfold XaD
 split
 · rename_i op t x y ty xi yi hop
   split
   · rename_i hn
     exfalso
     unfold X73 at h
     rw[hop]at h
     simp only[hn]at h
     split at h<;>first | (cases h;done) | simp_all
   · rfl
 · rfl
theorem X9Y{ps:List Prop}{e:Eff}(h:X6A tab Γ o (X2N ((o.op.operands.toList.map (X0Z st)).flatMap (·.rows)) (X3d tab Γ o (o.op.operands.toList.map (X0Z st)))) (X8P (X2N ((o.op.operands.toList.map (X0Z st)).flatMap (·.rows)) (X3d tab Γ o (o.op.operands.toList.map (X0Z st)))) o st (o.op.operands.toList.map (X0Z st)))=some (ps,e))(hps:∀p∈ps,p)(hf:X10 e o.dst st=true):
 let ins0:=o.op.operands.toList.map (X0Z st)
 let fz:=X2N (ins0.flatMap (·.rows)) (X3d tab Γ o ins0)
 let ins:=X8P fz o st ins0
 match X2n (fz.map (·.1)) with
 | true=>
   match X1E Γ o ins with
   | some (con,ts,xs)=>X7z tab con o ts xs st fun e'=>e'.frz fz=e
   | none=>match XaD tab o ins with
     | some (neg,em)=>∀b:Bool,(b=true→em)→(({sv:=.val false [.bool (cond neg (!b) b)]}:Eff).frz fz)=e
     | none=>match X73 tab Γ o ins with
       | some (ps,e')=>match X10 e' o.dst st with
         | true=>XhT ps (e'.frz fz=e)
         | false=>False
       | none=>False
 | false=>False:=by
 intro ins0 fz ins
 have h':X6A tab Γ o fz ins=some (ps,e):=h
 clear h
 generalize fz=fz at*
 generalize ins=ins at*
 unfold X6A at h'
 cases hnd:X2n (fz.map (·.1)) with
 | false=>rw[hnd]at h';cases h'
 | true=>
   rw[hnd]at h'
   simp only at h' ⊢
   cases hc:X1E Γ o ins with
   | some t=>
     obtain⟨con,ts,xs⟩:=t
     rw[hc]at h'
     simp only at h' ⊢
     split at h'
     · rename_i f d x hcf hdst hx hnew
       split at h'
       · rename_i br hbr
         cases h'
         unfold X7z
         simp only[hdst,hx,hnew]
         refine⟨hps _ (by simp),fun y hy=>?_⟩
         have hy':y=f x.i x.a:=by simpa [Con.Post,hcf] using hy
         subst hy'
         simp only[hbr]
         rw[hdst]at hf
         simp only[X69 hf]
       · cases h'
     · cases h'
   | none=>
     rw[hc]at h'
     simp only at h' ⊢
     cases he:X73 tab Γ o ins with
     | none=>rw[he]at h';cases h'
     | some t=>
       obtain⟨ps',e'⟩:=t
       rw[he]at h'
       cases h'
       simp only[X69 hf,XcS he]
       exact Xfh hps trivial
theorem Xcz{ps:List Prop}{e:Eff}(hT:X0q P tab)(hΓ:X72 P Γ)(hS:Sim P base M0 ios σ M w a st)(hd:∀d,o.dst=some d→d<st.nt)(h:X5z tab Γ o st=some (ps,e))(hps:∀p∈ps,p)(hf:X10 e o.dst st=true)(hn:X2Y P base M0 ios a o st e next):o.wp P a w next Q:=by
 refine X7a (tab:=tab) (Γ:=Γ) (K:=fun e'=>e'=e) hT hΓ hS ?_ (fun e' he v σ' M' w' hS'=>by subst he;exact hn v σ' M' w' hS')
 unfold X5z at h
 unfold Xcc
 split
 · exact X9Y h hps hf
 · rename_i hdd
   exfalso
   cases hdst:o.dst with
   | none=>rw[hdst]at hdd;cases hdd
   | some d=>rw[hdst]at hdd;have:=hd d hdst;simp only[decide_eq_false_iff_not]at hdd;exact hdd this
theorem Xe9{K:Eff→Prop}(h:Xew tab Γ o st K):∃ps e,(∀d,o.dst=some d→d<st.nt)∧X5z tab Γ o st=some (ps,e)∧(∀p∈ps,p)∧K e:=by
 unfold Xew at h
 split at h
 · rename_i hd
   have hd':∀d,o.dst=some d→d<st.nt:=fun d e2=>by rw[e2]at hd;simpa using hd
   unfold X5z
   simp only at h ⊢
   generalize X2N ((o.op.operands.toList.map (X0Z st)).flatMap (·.rows)) (X3d tab Γ o (o.op.operands.toList.map (X0Z st)))=fz at h ⊢
   generalize X8P fz o st (o.op.operands.toList.map (X0Z st))=ins at h ⊢
   unfold X6A
   cases hnd:X2n (fz.map (·.1)) with
   | false=>rw[hnd]at h;exact h.elim
   | true=>
     rw[hnd]at h
     simp only at h ⊢
     cases hc:X1E Γ o ins with
     | some t=>
       obtain⟨con,ts,xs⟩:=t
       rw[hc]at h
       simp only at h ⊢
       split at h
       · rename_i f hcf
         unfold X7z at h
         split at h
         · rename_i d x hdst hx hnew
           obtain⟨hpre,hpost⟩:=h
           have h2:=hpost (f x.i x.a) (by simp[Con.Post,hcf])
           split at h2
           · rename_i br hbr
             split at h2
             · simp only[hcf,hdst,hx,hnew,hbr]
               rw[hdst]at hd'
               exact⟨_,_,hd',rfl,fun p hp=>by rw[List.mem_singleton.1 hp];exact hpre,h2⟩
             · exact h2.elim
           · exact h2.elim
         · exact h.elim
       · exact h.elim
     | none=>
       rw[hc]at h
       simp only at h ⊢
       cases he:X73 tab Γ o ins with
       | none=>rw[he]at h;exact h.elim
       | some t=>
         obtain⟨ps,e⟩:=t
         rw[he]at h
         simp only at h ⊢
         split at h
         · obtain⟨h1,h2⟩:=X8a h
           exact⟨ps,_,hd',rfl,h1,h2⟩
         · exact h.elim
 · exact h.elim
theorem X9K{s s':St}{fz:List (Nat×X0f)}{ins:List In}(h:o.op.operands.toList.map (X0Z (X2s fz s'))=o.op.operands.toList.map (X0Z (X2s fz s))):X8P fz o s' ins=X8P fz o s ins:=by
 unfold X8P
 split
 · rfl
 · exact h
theorem X9t{s s':St}(h0:o.op.operands.toList.map (X0Z s')=o.op.operands.toList.map (X0Z s))(h:∀fz,o.op.operands.toList.map (X0Z (X2s fz s'))=o.op.operands.toList.map (X0Z (X2s fz s))):X5z tab Γ o s'=X5z tab Γ o s:=by
 unfold X5z
 simp only[h0,X9K (h _)]
theorem XeO{s s':St}{fz:List (Nat×X0f)}(h:Ext s s'):Ext (X2s fz s) (X2s fz s'):=
 ⟨h.nt,h.get,h.box,fun r=>by
   have:=h.row r
   simp only[St.rowv]at this
   simp only[St.rowv,X2s,X24,this],h.olds⟩
theorem XfV{s s':St}(h:Ext s s'):X5z tab Γ o s'=X5z tab Γ o s:=
 X9t (List.map_congr_left fun x _=>(X8T h x).symm) fun fz=>List.map_congr_left fun x _=>(X8T (XeO h) x).symm
def X7l(tab:Tab)(Γ:Gam)(all:List Oper):List Oper→St→(List (Option Eff)→St→Prop)→Prop
 | [],st,K=>K [] st
 | o::rest,st,K=>match o.guard with
   | none=>Xew tab Γ o st fun e=>X7l tab Γ all rest (e.apply o.dst st) fun outs st'=>K (some e::outs) st'
   | some (j,X6i)=>match X2x all j with
     | some dj=>match st.get dj with
       | .val false [.bool b]=>X02 b
          (cond X6i (Xew tab Γ o (st.lit dj true) fun e=>X7l tab Γ all rest (e.apply o.dst (st.lit dj true)) fun outs st'=>K (some e::outs) st')
            (X7l tab Γ all rest (X2Z o (st.lit dj true)) fun outs st'=>K (none::outs) st'))
          (cond X6i (X7l tab Γ all rest (X2Z o (st.lit dj false)) fun outs st'=>K (none::outs) st')
            (Xew tab Γ o (st.lit dj false) fun e=>X7l tab Γ all rest (e.apply o.dst (st.lit dj false)) fun outs st'=>K (some e::outs) st'))
       | .tup []=>X7l tab Γ all rest (X2Z o st) fun outs st'=>K (none::outs) st'
       | _=>False
     | none=>False
def X6i(all:List Oper)(o:Oper)(s:St):Option Bool:=match o.guard with
 | none=>some true
 | some (j,wn)=>match X2x all j with
   | some d=>match s.get d with
     | .val false [.bool b]=>some (b==wn)
     | .tup []=>some false
     | _=>none
   | none=>none
def XfB(tab:Tab)(Γ:Gam)(all:List Oper)(s:St)(o:Oper):Option Eff→Prop
 | some e=>X6i all o s=some true∧∃ps,X5z tab Γ o s=some (ps,e)∧∀p∈ps,p
 | none=>X6i all o s=some false
theorem XfB.ext{all:List Oper}{s s':St}{o:Oper}{x:Option Eff}(h:Ext s s')(hg:XfB tab Γ all s o x):XfB tab Γ all s' o x:=by
 have hw:X6i all o s'=X6i all o s:=by
  unfold X6i
  split
  · rfl
  · split
    · rw[h.get]
    · rfl
 cases x with
 | some e=>
   obtain⟨h1,ps,h2,h3⟩:=hg
   exact⟨by rw[hw];exact h1,ps,by rw[XfV h];exact h2,h3⟩
 | none=>show X6i all o s'=some false;rw[hw];exact hg
def X0r(l:List (Oper×Option Eff))(s:St):St:=X3q (fun _=>true) 0 l s
theorem X2w(o:Oper)(x:Option Eff)(l:List (Oper×Option Eff))(s:St):X0r ((o,x)::l) s=X0r l (X0o o x s):=by
 unfold X0r
 simp only[X3q,cond_true]
 have:∀(l:List (Oper×Option Eff)) (k k':Nat) (s:St),X3q (fun _=>true) k l s=X3q (fun _=>true) k' l s:=by
  intro l
  induction l with
  | nil=>intros;rfl
  | cons p l ih=>intro k k' s;obtain⟨o,x⟩:=p;simp only[X3q];exact ih _ _ _
 exact this _ _ _ _
theorem X4R{l:List (Oper×Option Eff)}{s s':St}(h:Ext s s'):Ext (X0r l s) (X0r l s'):=Xbd h
theorem X6C{st:St}{d:Nat}{b c:Bool}(h:st.get d=.val false [.bool b])(hc:b=c):Ext (st.lit d c) st where
 nt:=rfl
 get:=fun i=>by
  rw[Xfy]
  split
  · rename_i e;subst e;subst hc;exact h.symm
  · rfl
 box:=fun _=>rfl
 row:=fun _=>rfl
 olds:=fun _=>Iff.rfl
theorem X4T{all:List Oper}:∀(l:List Oper) (st:St) (K:List (Option Eff)→St→Prop),X7l tab Γ all l st K→
 ∃outs st',outs.length=l.length∧K outs st'∧Ext st' (X0r (l.zip outs) st)∧∀j o x,(l.zip outs)[j]?=some (o,x)→XfB tab Γ all (X0r ((l.zip outs).take j) st) o x
 | [],st,K,h=>⟨[],st,rfl,h,Ext.refl _,fun j o x hj=>by simp at hj⟩
 | o::rest,st,K,h=>by
   have one:∀(st2:St),Ext st2 st→X6i all o st=some true→Xew tab Γ o st2 (fun e=>X7l tab Γ all rest (e.apply o.dst st2) fun outs st'=>K (some e::outs) st')→
    ∃outs st',outs.length=(o::rest).length∧K outs st'∧Ext st' (X0r ((o::rest).zip outs) st)∧∀j o' x,((o::rest).zip outs)[j]?=some (o',x)→XfB tab Γ all (X0r (((o::rest).zip outs).take j) st) o' x:=by
    intro st2 he hw h2
    obtain⟨ps,e,_,heq,hps,hK⟩:=Xe9 h2
    obtain⟨outs,st',h3,h4,h5,h6⟩:=X4T rest _ _ hK
    have hx:Ext (X0o o (some e) st2) (X0o o (some e) st):=X6Z he
    refine⟨some e::outs,st',by simp[h3],h4,?_,?_⟩
    · rw[List.zip_cons_cons,X2w]
      exact h5.trans (X4R hx)
    · intro j o' x hj
      rw[List.zip_cons_cons]at hj ⊢
      cases j with
      | zero=>
        simp at hj
        obtain⟨rfl,rfl⟩:=hj
        have:XfB tab Γ all st2 o (some e):=⟨by
         unfold X6i at hw ⊢
         split at hw
         · rfl
         · split at hw
           · rename_i d _;rw[he.get];exact hw
           · exact hw,ps,heq,hps⟩
        exact this.ext he
      | succ j=>
        rw[List.take_succ_cons,X2w]
        exact(h6 j o' x (by simpa using hj)).ext (X4R hx)
   have skip:∀(st2:St),Ext st2 st→X6i all o st=some false→X7l tab Γ all rest (X2Z o st2) (fun outs st'=>K (none::outs) st')→
    ∃outs st',outs.length=(o::rest).length∧K outs st'∧Ext st' (X0r ((o::rest).zip outs) st)∧∀j o' x,((o::rest).zip outs)[j]?=some (o',x)→XfB tab Γ all (X0r (((o::rest).zip outs).take j) st) o' x:=by
    intro st2 he hw h2
    obtain⟨outs,st',h3,h4,h5,h6⟩:=X4T rest _ _ h2
    have hx:Ext (X0o o none st2) (X0o o none st):=X6Z he
    refine⟨none::outs,st',by simp[h3],h4,?_,?_⟩
    · rw[List.zip_cons_cons,X2w]
      exact h5.trans (X4R hx)
    · intro j o' x hj
      rw[List.zip_cons_cons]at hj ⊢
      cases j with
      | zero=>simp at hj;obtain⟨rfl,rfl⟩:=hj;exact hw
      | succ j=>
        rw[List.take_succ_cons,X2w]
        exact(h6 j o' x (by simpa using hj)).ext (X4R hx)
   simp only[X7l]at h
   cases hg:o.guard with
   | none=>
     rw[hg]at h
     exact one st (Ext.refl _) (by unfold X6i;rw[hg]) h
   | some g=>
     obtain⟨j,wn⟩:=g
     rw[hg]at h
     simp only at h
     cases hj:X2x all j with
     | none=>rw[hj]at h;exact h.elim
     | some dj=>
       rw[hj]at h
       simp only at h
       split at h
       · rename_i b hb
         have hw:X6i all o st=some (b==wn):=by unfold X6i;rw[hg];simp only[hj,hb]
         replace h:=X7r h
         cases hbb:b with
         | true=>
           have h1:=h.1 hbb
           cases wn with
           | true=>exact one _ (X6C hb hbb) (by rw[hw,hbb];rfl) h1
           | false=>exact skip _ (X6C hb hbb) (by rw[hw,hbb];rfl) h1
         | false=>
           have h1:=h.2 hbb
           cases wn with
           | false=>exact one _ (X6C hb hbb) (by rw[hw,hbb];rfl) h1
           | true=>exact skip _ (X6C hb hbb) (by rw[hw,hbb];rfl) h1
       · rename_i hb
         exact skip st (Ext.refl _) (by unfold X6i;rw[hg];simp only[hj,hb]) h
       · exact h.elim
end Go.Proofs.Ytakllifahpfmpaa.Bv
