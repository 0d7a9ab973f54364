/- Walks of Go functions by value:the library,part 3 of 4. -/
import Derived.Test.YthpdkligbfbjeaaGreatWB
import Derived.Laws.StructEq
import Derived.Laws.Cover3
import Derived.Orders
set_option linter.unusedVariables false
set_option linter.unusedSimpArgs false
namespace Go.Proofs.YthpdkligbfbjeaaGreat.Bv
variable {P:Program} {base:World} {M0:Mem} {ios:Ios} {σ:Sg} {M:Mem} {w w':World} {a:Act} {st:St} {tab:Tab} {Γ:Gam} {o:Oper} {next:Act->World->Prop} {Q:Exit->Act->World->Prop} {k:Option Nat} {ks iks bks:List Nat} {H:Type} {enc:TypeId×Value->H}
structure Xgc where
 key:Nat
 e:TypeId
 t:Ty
 l:List (El t)
 v:Value
 fo:List Nat
def Xgc.row(x:Xgc):Nat×X0L:=(x.key,.hot x.e x.t x.l 0 none false)
theorem XqK{r:Nat}{nr:List (Nat×X0L)}(h:noTag r st=true)(hn:r∉nr.map (·.1)):noTag r {st with rows:=nr++st.rows}=true:=by
 have h0:=XdA h;unfold noTag at h ⊢;rw[Yac,Yac]at h ⊢;refine⟨h.1,?_⟩;have:look r (nr++st.rows)=none:=by
  rw[X5v];have hx:look r nr=none:=by
   cases hl:look r nr with
   | none=>rfl
   | some x=>exact absurd (YaN.2 ⟨(r,x),X3O hl,rfl⟩) hn
  rw[hx];exact h0
 simp[this]
theorem Xs5{nr:List (Nat×X0L)}{r:Nat}{rv:X0L}(h:look r (nr++st.rows)=some rv):(∃x∈nr,x.1=r/\x.2=rv)\/look r st.rows=some rv:=by
 rw[X5v]at h;cases hl:look r nr with
 | none=>rw[hl]at h;exact .inr h
 | some x=>rw[hl]at h;cases h;exact .inl ⟨_,X3O hl,rfl,rfl⟩
theorem Sim.addHotsP:∀(D:List Xgc) {σ:Sg} {st:St},Sim P base M0 ios σ M w a st->(∀x∈D,noTag x.key st=true/\(∀q∈ios.rows,q.1=x.key->x.v=q.2)/\X4Q w x.t x.v x.l x.fo/\(∃i,P.info? x.e=some i/\i.size=size x.t)/\0<size x.t/\x.fo.Nodup/\∀g∈x.fo,XmA base ios σ M w st g)->
 (D.map (·.key)).Nodup->(∀x∈D,∀y∈D,x.key≠y.key->∀g∈x.fo,g∉y.fo)->
 ∃σ',Sim P base M0 ios σ' M w a {st with rows:=D.map Xgc.row++st.rows}/\(∀x∈D,σ'.row x.key=x.v/\σ'.foot x.key=x.fo)/\(∀r,r∉D.map (·.key)->σ'.row r=σ.row r/\σ'.foot r=σ.foot r)/\σ'.box=σ.box
 | [],σ,st,h,_,_,_=>⟨σ,h,λx hx=>by(cases hx),λ_ _=>⟨rfl,rfl⟩,rfl⟩
 | x::D,σ,st,h,hx,hnd,hap=>by
   simp only[Yas,YaB]at hnd;obtain⟨σ1,h1,h2,h3,h4⟩:=Sim.addHotsP D h (λy hy=>hx y (Yan _ hy)) hnd.2 (λy hy z hz=>hap y (Yan _ hy) z (Yan _ hz));obtain⟨k1,k2,k3,k4,k5,k6,k7⟩:=hx x (by simp);have hkey:x.key∉(D.map Xgc.row).map (·.1):=by rw[Ydr];exact hnd.1
   have hne:∀y∈D,x.key≠y.key:=λy hy e=>hnd.1 (YaN.2 ⟨y,hy,e.symm⟩);have hcold:∀r,(({st with rows:=D.map Xgc.row++st.rows}:St).row r).isSome=true->r∉D.map (·.key)/\(st.row r).isSome=true:=λr hr=>by
    obtain⟨e,he⟩:=Yao.1 hr;obtain⟨rv,hl,hc⟩:=X6w he;have hl':look r (D.map Xgc.row++st.rows)=some rv:=hl;rw[X5v]at hl';cases hd:look r (D.map Xgc.row) with
    | none=>
      rw[hd]at hl';refine⟨λhm=>?_,by rw[show st.row r=some e from X9T hl' hc];rfl⟩;obtain⟨y,hy,e1⟩:=YaN.1 hm;have:(look r (D.map Xgc.row)).isSome=true:=by
       have gen:∀(D:List Xgc),y∈D->(look r (D.map Xgc.row)).isSome=true:=λD=>by
        induction D with
        | nil=>intro h;cases h
        | cons z D ih=>
          intro h;simp only[Yas,Xgc.row,X08];split
          . rfl
          . rename_i hz;rcases Yak.1 h with e2 | h2
            . subst e2;exact absurd e1 hz
            . exact ih h2
       exact gen D hy
      rw[hd]at this;cases this
    | some x'=>
      rw[hd]at hl';cases hl';obtain⟨y,hy,e1⟩:=YaN.1 (X3O hd);simp only[Xgc.row,Yaa]at e1;rw[<-e1.2]at hc;cases hc
   have h5:=h1.newHotP (r:=x.key) (e:=x.e) (t:=x.t) (l:=x.l) (hole:=none) (z:=false) (v:=x.v) (fo:=x.fo) (m:=XeS w x.t x.v x.fo) (XqK k1 hkey) k2 (λg hg=>by
    have hf:=k7 g hg;exact {
     base:=hf.base
     noM:=hf.noM
     noBox:=λk hk=>by rw[h4];exact hf.noBox k hk
     noRow:=λr hr=>by
      obtain⟨m1,m2⟩:=hcold r hr;rw[(h3 r m1).1];exact hf.noRow r m2
     noHot:=λr hr hgr=>by
      by_cases hm:r∈D.map (·.key)
      . obtain⟨y,hy,e1⟩:=YaN.1 hm;rw[<-e1,(h2 y hy).2]at hgr;exact hap x (by simp) y (Yan _ hy) (hne y hy) g hg hgr
      . rw[(h3 r hm).2]at hgr;obtain⟨e,t,l,ver,hole,z,hl⟩:=hr;rcases Xs5 hl with⟨y,hy,e1,e2⟩ | hl2
        . obtain⟨y',hy',e3⟩:=YaN.1 hy;exact hm (YaN.2 ⟨y',hy',by rw[<-e1,<-e3];rfl⟩)
        . exact hf.noHot r ⟨e,t,l,ver,hole,z,hl2⟩ hgr
     lt:=hf.lt}) (XiV (σ:=σ1) k4 k5 k3 k6 (λhz=>by cases hz))
   refine⟨_,h5,?_,?_,h4⟩
   . intro y hy;rcases Yak.1 hy with rfl | hy
     . simp
     . have:=YaK (hne y hy);simp only[Yae this];exact h2 y hy
   . intro r hr;simp only[Yas,Yak,YcD]at hr;simp only[Yae hr.1];exact h3 r hr.2
theorem Sim.addHots:∀(D:List Xgc) {σ:Sg} {st:St},Sim P base M0 ios σ M w a st->(∀x∈D,noTag x.key st=true/\x.key % 2=1/\X4Q w x.t x.v x.l x.fo/\(∃i,P.info? x.e=some i/\i.size=size x.t)/\0<size x.t/\x.fo.Nodup/\∀g∈x.fo,XmA base ios σ M w st g)->
 (D.map (·.key)).Nodup->(∀x∈D,∀y∈D,x.key≠y.key->∀g∈x.fo,g∉y.fo)->
 ∃σ',Sim P base M0 ios σ' M w a {st with rows:=D.map Xgc.row++st.rows}/\(∀x∈D,σ'.row x.key=x.v/\σ'.foot x.key=x.fo)/\(∀r,r∉D.map (·.key)->σ'.row r=σ.row r/\σ'.foot r=σ.foot r)/\σ'.box=σ.box
 | D,σ,st,h,hx,hnd,hap=>Sim.addHotsP D h (λx hm=>by obtain⟨k1,k2,k3⟩:=hx x hm;exact⟨k1,λq hq e=>absurd (ios.even q hq) (by rw[e];omega),k3⟩) hnd hap
def mkD(key:Nat->Nat)(fr:List (Nat×TypeId))(F:Nat->List Nat):Nat->List Value->List X02->List Xgc
 | i,u::vs,.lst t l _::cs=>match look i fr with
   | some e=>⟨key i,e,t,l,u,F i⟩::mkD key fr F (i+1) vs cs
   | none=>mkD key fr F (i+1) vs cs
 | i,_::vs,_::cs=>mkD key fr F (i+1) vs cs
 | _,_,_=>[]
theorem Xgh{key:Nat->Nat}{fr:List (Nat×TypeId)}{F:Nat->List Nat}:∀{vs:List Value} {cs:List X02} (i:Nat),vs.length=cs.length->(mkD key fr F i vs cs).map Xgc.row=X6C key fr i cs
 | [],[],i,_=>rfl
 | [],_::_,i,h=>by simp at h
 | _::_,[],i,h=>by simp at h
 | u::vs,c::cs,i,h=>by
   have ih:=Xgh (key:=key) (fr:=fr) (F:=F) (vs:=vs) (cs:=cs) (i+1) (by simpa using h);cases c with
   | lst t l tag=>
     simp only[mkD,X6C];cases look i fr with
     | none=>exact ih
     | some e=>simp only[Yas,ih,Xgc.row]
   | _=>simp only[mkD,X6C,ih]
theorem Xmp{key:Nat->Nat}{fr:List (Nat×TypeId)}{F:Nat->List Nat}{x:Xgc}:∀{vs:List Value} {cs:List X02} (i:Nat),x∈mkD key fr F i vs cs->∃j tag,vs[j]?=some x.v/\cs[j]?=some (.lst x.t x.l tag)/\look (i+j) fr=some x.e/\x.key=key (i+j)/\x.fo=F (i+j)
 | [],_,i,h=>by simp[mkD]at h
 | _::_,[],i,h=>by simp[mkD]at h
 | u::vs,c::cs,i,h=>by
   have rec':x∈mkD key fr F (i+1) vs cs->∃j tag,(u::vs)[j]?=some x.v/\(c::cs)[j]?=some (.lst x.t x.l tag)/\look (i+j) fr=some x.e/\x.key=key (i+j)/\x.fo=F (i+j):=λh=>by
    obtain⟨j,tag,h1,h2,h3,h4,h5⟩:=Xmp (i+1) h;exact⟨j+1,tag,by simpa using h1,by simpa using h2,by rw[<-h3];congr 1;omega,by rw[h4];congr 1;omega,by rw[h5];congr 1;omega⟩
   cases c with
   | lst t l tag=>
     simp only[mkD]at h;cases hl:look i fr with
     | none=>rw[hl]at h;exact rec' h
     | some e=>
       rw[hl]at h;rcases Yak.1 h with rfl | h
       . exact⟨0,tag,by simp,by simp,by simpa using hl,by simp,by simp⟩
       . exact rec' h
   | _=>exact rec' h
theorem XmN{key:Nat->Nat}{fr:List (Nat×TypeId)}{σ':Sg}{rows:List (Nat×X0L)}{F:Nat->List Nat}:∀{vs:List Value} {cs:List X02} (i:Nat),vs.length=cs.length->(∀c∈cs,(∃t l,c=.lst t l none)\/XfM c=true)->
 (∀(j:Nat) (u:Value) (c:X02),look (i+j) fr=none->vs[j]?=some u->cs[j]?=some c->RdV M u c)->(∀(j:Nat) (u:Value) (c:X02),(∀t l tag,c≠.lst t l tag)->vs[j]?=some u->cs[j]?=some c->RdV M u c)->
 (∀(j:Nat) (e:TypeId),look (i+j) fr=some e->∀(u:Value) (t:Ty) (l:List (El t)),vs[j]?=some u->cs[j]?=some (.lst t l none)->u.oneCell'=true/\σ'.row (key (i+j))=u)->X27 (RdT σ' rows M) vs (Xew key fr i cs)
 | [],[],i,_,_,_,_,_=>.nil
 | [],_::_,i,h,_,_,_,_=>by simp at h
 | _::_,[],i,h,_,_,_,_=>by simp at h
 | u::vs,c::cs,i,h,hpl,h1,h1',h2=>by
   have ih:=XmN (key:=key) (fr:=fr) (σ':=σ') (rows:=rows) (F:=F) (vs:=vs) (cs:=cs) (i+1) (by simpa using h) (λc hc=>hpl c (Yan _ hc))
    (λj u c hl hu hc=>h1 (j+1) u c (by rw[<-hl];congr 1;omega) (by simpa using hu) (by simpa using hc)) (λj u c hn hu hc=>h1' (j+1) u c hn (by simpa using hu) (by simpa using hc))
    (fun j e hl u t l hu hc=>by
      have:=h2 (j+1) e (by rw[<-hl];congr 1;omega) u t l (by simpa using hu) (by simpa using hc);rw[show i+1+j=i+(j+1) by omega];exact this)
   rcases hpl c (by simp) with⟨t,l,rfl⟩ | hp
   . simp only[Xew];cases hl:look i fr with
     | none=>exact .cons ⟨h1 0 u _ (by simpa using hl) (by simp) (by simp),trivial⟩ ih
     | some e=>
       obtain⟨k1,k2⟩:=h2 0 e (by simpa using hl) u t l (by simp) (by simp);exact .cons ⟨k1,λ_=>by simpa using k2.symm⟩ ih
   . have hr:=h1' 0 u c (λt l tag e=>by subst e;simp[XfM]at hp) (by simp) (by simp);cases c<;>simp[XfM]at hp<;>exact .cons ⟨hr,trivial⟩ ih
theorem XeU{F:Nat->List Nat}:∀{own:List (Nat×TypeId)},(X98 own F).Nodup->(∀p∈own,(F p.1).Nodup)/\∀p∈own,∀q∈own,p.1≠q.1->∀g∈F p.1,g∉F q.1
 | [],_=>⟨λp hp=>(by cases hp),λp hp=>(by cases hp)⟩
 | x::own,h=>by
   have h':(F x.1++X98 own F).Nodup:=h;rw[YaF]at h';obtain⟨h1,h2,h3⟩:=h';obtain⟨k1,k2⟩:=XeU h2;refine⟨λp hp=>?_,λp hp q hq hne g hg hg'=>?_⟩
   . rcases Yak.1 hp with e | hp2
     . rw[e];exact h1
     . exact k1 p hp2
   . rcases Yak.1 hp with e | hp2<;>rcases Yak.1 hq with e' | hq2
     . rw[e,e']at hne;exact hne rfl
     . rw[e]at hg;exact h3 g hg g (Xcz.2 ⟨q,hq2,hg'⟩) rfl
     . rw[e']at hg';exact h3 g hg' g (Xcz.2 ⟨p,hp2,hg⟩) rfl
     . exact k2 p hp2 q hq2 hne g hg hg'
theorem Xhw{α:Type}{k:Nat}:∀{l:List (Nat×α)},(look k l).isSome=true↔∃x,(k,x)∈l
 | []=>by simp[look]
 | (j,y)::l=>by
   rw[X08];split
   . rename_i h;subst h;simp
   . rename_i h;rw[Xhw];constructor
     . rintro⟨x,hx⟩;exact⟨x,Yan _ hx⟩
     . rintro⟨x,hx⟩;rcases Yak.1 hx with e | hx
       . cases e;exact absurd rfl h
       . exact⟨x,hx⟩
theorem XiL(hS:Sim P base M0 ios σ M w a st){N:Mem}{k off n:Nat}{cs:List X02}(hk:st.box k=some cs)(hl:off+n<=cs.length)(hN:∀ad u,ad.block=σ.box k->w.cell? ad=some u->N ad=some u){v:Value}(hv:v=.pointer (some ((⟨σ.box k,0,none⟩:Addr).add off))):
 ∃vs,Xnm N n v vs/\X27 (RdT σ st.rows M) vs ((cs.drop off).take n):=by
 obtain⟨arr,E,h1,h2⟩:=hS.boxes k cs hk;have h3:=(h2.drop off).take n;have hlen:=h2.length;refine⟨(arr.toList.drop off).take n,⟨by rw[Yal,Yap];omega,_,hv,λj u hj=>?_⟩,h3⟩;rw[YaE]at hj;split at hj
 . rw[X8S,X8S,YaU];exact hN _ u rfl (X5z h1 hj)
 . cases hj
theorem XeW(hS:Sim P base M0 ios σ M w a st){N:Mem}(hMN:M.le N){boxes:List (Nat×List X02)}(hb:∀k cs,look k boxes=some cs->st.box k=some cs):∀{ns:List Nat} {l:List Cap} {vs:List Value} {p:List X02×List Nat},X27 (Xdq σ st.rows st.boxes M) vs l->X9t boxes ns l=some p->
 (∀k∈p.2,(st.box k).isSome=true->∀ad u,ad.block=σ.box k->w.cell? ad=some u->N ad=some u)->∃cs,Xg5 N ns vs cs/\X27 (RdT σ st.rows M) cs p.1
 | [],[],vs,p,h,e,_=>by cases h;simp only[X9t,Yag]at e;subst e;exact⟨[],.nil,.nil⟩
 | [],_::_,vs,p,h,e,_=>by simp[X9t]at e
 | _::_,[],vs,p,h,e,_=>by simp[X9t]at e
 | n::ns,.ptr cs::l,vs,p,h,e,hN=>by
   cases h with
   | @cons v _ vs _ hx hr=>
     simp only[X9t]at e;split at e
     . rename_i hn;simp only[YaD]at e;obtain⟨q,hq,e⟩:=e;subst e;obtain⟨cs',h1,h2⟩:=XeW hS hMN hb hr hq hN;obtain⟨ad,hv,hc⟩:=hx;obtain⟨us,k1,k2⟩:=Xdz (σ:=σ) (rows:=st.rows) (ad:=ad) (cs:=cs) (o:=0) (by simpa using hc);refine⟨us.take n++cs',.cons ⟨by rw[Yal,k1.length];omega,ad,hv,λj u hj=>?_⟩ h1,(k1.take n).append h2⟩;rw[YaE]at hj;split at hj
       . exact hMN _ _ (by simpa using k2 j u hj)
       . cases hj
     . cases e
 | n::ns,.pp k off::l,vs,p,h,e,hN=>by simp[X9t]at e
 | n::ns,.pptr cs::l,vs,p,h,e,hN=>by simp[X9t]at e
 | n::ns,.box k off::l,vs,p,h,e,hN=>by
   cases h with
   | @cons v _ vs _ hx hr=>
     simp only[X9t]at e;split at e
     . rename_i cs hk;split at e
       . rename_i hn;simp only[YaD]at e;obtain⟨q,hq,e⟩:=e;subst e;obtain⟨cs',h1,h2⟩:=XeW hS hMN hb hr hq (λk' hk'=>hN k' (by simp[hk']));obtain⟨us,k1,k2⟩:=XiL hS (N:=N) (hb k cs hk) hn (hN k (by simp) (by rw[hb k cs hk];rfl)) hx.1;exact⟨us++cs',.cons k1 h1,k2.append h2⟩
       . cases e
     . cases e
theorem Xlo{N:Mem}(hMN:M.le N){rows:List (Nat×X0L)}{v:Value}{cs:List X02}{n:Nat}(h:XeL σ rows M v cs)(hn:n<=cs.length):∃us,XlN N n v us/\X27 (RdT σ rows M) us (cs.take n):=by
 obtain⟨ad,u,hv,hu,ad2,hu2,hc⟩:=h;obtain⟨us,k1,k2⟩:=Xdz (σ:=σ) (rows:=rows) (ad:=ad2) (cs:=cs) (o:=0) (by simpa using hc);refine⟨us.take n,⟨ad,u,hv,hMN _ _ hu,by rw[Yal,k1.length];omega,ad2,hu2,λj x hj=>?_⟩,k1.take n⟩;rw[YaE]at hj;split at hj
 . exact hMN _ _ (by simpa using k2 j x hj)
 . cases hj
theorem Xpv(hS:Sim P base M0 ios σ M w a st){N:Mem}(hMN:M.le N){v:Value}{k off n:Nat}{cs:List X02}(hk:st.box k=some cs)(hl:off+n<=cs.length)(hN:∀ad u,ad.block=σ.box k->w.cell? ad=some u->N ad=some u)(h:Xn3 σ st.boxes M v k off):∃us,XlN N n v us/\X27 (RdT σ st.rows M) us ((cs.drop off).take n):=by
 obtain⟨ad,hv,hu,_⟩:=h;obtain⟨us,k1,k2⟩:=XiL hS (N:=N) hk hl hN (v:=.pointer (some ((⟨σ.box k,0,none⟩:Addr).add off))) rfl;exact⟨us,⟨ad,_,hv,hMN _ _ hu,k1⟩,k2⟩
theorem Xn9(hS:Sim P base M0 ios σ M w a st){N:Mem}(hMN:M.le N){vals:List Value}{ins:List In}(h:X27 (λv i=>Xgt σ st M v i) vals ins):
 ∀{ko:Option Nat} {shs:List Sh} {ts:List TypeId} {p:List X02×List Nat},X2a tab ko shs ts ins=some p->(∀k∈p.2,(st.box k).isSome=true->∀ad u,ad.block=σ.box k->w.cell? ad=some u->N ad=some u)->
 ∃cs,XeX N (ko.map σ.box) shs vals cs/\X27 (RdT σ st.rows M) cs p.1:=by
 induction h with
 | nil=>
   intro ko shs ts p h _;cases shs with
   | nil=>cases ts with
     | nil=>simp only[X2a,Yag]at h;subst h;exact⟨[],.nil,.nil⟩
     | cons t ts=>simp[X2a]at h
   | cons sh shs=>cases sh<;>cases ts<;>simp[X2a]at h
 | @cons v i vals ins hx hr ih=>
   intro ko shs ts p h hN;cases shs with
   | nil=>cases ts<;>simp[X2a]at h
   | cons sh shs=>
     cases ts with
     | nil=>cases sh<;>simp[X2a]at h
     | cons t ts=>
       have ht:=Xc1 (tab:=tab) t hx.rep;cases sh with
       | one=>
         simp only[X2a]at h;split at h
         . rename_i c hc;simp only[YaD]at h;obtain⟨q,hq,e⟩:=h;subst e;obtain⟨cs,h1,h2⟩:=ih hq hN;rw[hc]at ht;exact⟨_,.cons (sh:=.one) (c:=[v]) ⟨rfl,ht.2⟩ h1,.cons (X0Y.one ht) h2⟩
         . cases h
       | agg n=>
         simp only[X2a]at h;split at h
         . rename_i cs0 hc;split at h
           . rename_i hn;simp only[YaD]at h;obtain⟨q,hq,e⟩:=h;subst e;obtain⟨cs,h1,h2⟩:=ih hq hN;rw[hc]at ht;obtain⟨vs,hv,h3⟩:=X0Y.agg ht;exact⟨_,.cons (sh:=.agg n) (c:=vs.toList) ⟨by rw[h3.length];exact hn,vs,hv,rfl⟩ h1,h3.append h2⟩
           . cases h
         . cases h
       | ptr n=>
         simp only[X2a]at h;have hp:=hx.rep;split at h
         . rename_i cs0 hc;split at h
           . rename_i hn;simp only[YaD]at h;obtain⟨q,hq,e⟩:=h;subst e;obtain⟨cs,h1,h2⟩:=ih hq hN;rw[hc]at hp;obtain⟨ad,hv,hcs⟩:=hp;obtain⟨vs,h3,h4⟩:=Xdz (σ:=σ) (rows:=st.rows) (ad:=ad) (cs:=cs0) (o:=0) (by simpa using hcs);refine⟨_,.cons (sh:=.ptr n) (c:=vs.take n) ⟨by rw[Yal,h3.length];omega,ad,hv,?_⟩ h1,(h3.take n).append h2⟩;intro j u hu;rw[YaE]at hu;split at hu
             . exact hMN _ _ (by simpa using h4 j u hu)
             . cases hu
           . cases h
         . rename_i k off hc;have hb:=hx.box k off (.inl hc);rw[hb]at h;split at h
           . rename_i cs0 hk;split at h
             . rename_i hn;simp only[YaD]at h;obtain⟨q,hq,e⟩:=h;subst e;obtain⟨cs,h1,h2⟩:=ih hq (λk' hk'=>hN k' (by simp[hk']));rw[hc]at hp;obtain⟨us,k1,k2⟩:=XiL hS (N:=N) hk hn (hN k (by simp) (by rw[hk];rfl)) hp.1;exact⟨_,.cons (sh:=.ptr n) k1 h1,k2.append h2⟩
             . cases h
           . cases h
         . cases h
       | clo f ns=>
         simp only[X2a]at h;have hp:=hx.rep;split at h
         . rename_i f' caps hc;split at h
           . rename_i hf;subst hf;split at h
             . rename_i q0 hq0;simp only[YaD]at h;obtain⟨q,hq,e⟩:=h;subst e;obtain⟨cs,h1,h2⟩:=ih hq (λk' hk'=>hN k' (by simp[hk']));rw[hc]at hp;obtain⟨va,vb,hv,k1,k2⟩:=hp;have hva:va=#[]:=by
                cases hl:va.toList with
                | nil=>simpa using hl
                | cons x l=>rw[hl]at k1;cases k1
               subst hva;obtain⟨cs',m1,m2⟩:=XeW hS hMN hx.boxes k2 hq0 (λk' hk'=>hN k' (by simp[hk']));exact⟨_,.cons (sh:=.clo f' ns) ⟨vb,hv,m1⟩ h1,m2.append h2⟩
             . cases h
           . cases h
         . cases h
       | pptr n=>
         simp only[X2a]at h;have hp:=hx.rep;split at h
         . rename_i cs0 hc;split at h
           . rename_i hn;simp only[YaD]at h;obtain⟨q,hq,e⟩:=h;subst e;obtain⟨cs,h1,h2⟩:=ih hq hN;rw[hc]at hp;obtain⟨us,k1,k2⟩:=Xlo hMN hp hn;exact⟨_,.cons (sh:=.pptr n) k1 h1,k2.append h2⟩
           . cases h
         . rename_i k off hc;have hb:=hx.box k off (.inr hc);rw[hb]at h;split at h
           . rename_i cs0 hk;split at h
             . rename_i hn;simp only[YaD]at h;obtain⟨q,hq,e⟩:=h;subst e;obtain⟨cs,h1,h2⟩:=ih hq (λk' hk'=>hN k' (by simp[hk']));rw[hc]at hp;obtain⟨us,k1,k2⟩:=Xpv hS hMN hk hn (hN k (by simp) (by rw[hk];rfl)) hp;exact⟨_,.cons (sh:=.pptr n) k1 h1,k2.append h2⟩
             . cases h
           . cases h
         . cases h
       | clop f n=>
         simp only[X2a]at h;have hp:=hx.rep;have one:∀{f':Nat} {c:Cap},i.sv=.fn f' [] [c]->∃u,v=.func (.func f') #[] #[u]/\Xdq σ st.rows st.boxes M u c:=λ{f' c} hc=>by
          rw[hc]at hp;obtain⟨va,vb,hv,k1,k2⟩:=hp;have hva:va=#[]:=by
           cases hl:va.toList with
           | nil=>simpa using hl
           | cons x l=>rw[hl]at k1;cases k1
          subst hva;cases hl:vb.toList with
          | nil=>rw[hl]at k2;cases k2
          | cons x l=>
            rw[hl]at k2;cases k2 with
            | cons m1 m2=>
              cases m2;have:vb=#[x]:=by apply Yb4;rw[hl]
              exact⟨x,by rw[hv,this],m1⟩
         split at h
         . rename_i f' cs0 hc;split at h
           . rename_i hf;obtain⟨hf,hn⟩:=hf;subst hf;simp only[YaD]at h;obtain⟨q,hq,e⟩:=h;subst e;obtain⟨cs,h1,h2⟩:=ih hq hN;obtain⟨u,hv,hu⟩:=one hc;obtain⟨us,k1,k2⟩:=Xlo hMN hu hn;exact⟨_,.cons (sh:=.clop f' n) ⟨u,hv,k1⟩ h1,k2.append h2⟩
           . cases h
         . rename_i f' k off hc;split at h
           . rename_i cs0 hk;split at h
             . rename_i hf;obtain⟨hf,hn⟩:=hf;subst hf;simp only[YaD]at h;obtain⟨q,hq,e⟩:=h;subst e;have hk':=hx.boxes k cs0 hk;obtain⟨cs,h1,h2⟩:=ih hq (λk' hk'=>hN k' (by simp[hk']));obtain⟨u,hv,hu⟩:=one hc;obtain⟨us,k1,k2⟩:=Xpv hS hMN hk' hn (hN k (by simp) (by rw[hk'];rfl)) hu;exact⟨_,.cons (sh:=.clop f' n) ⟨u,hv,k1⟩ h1,k2.append h2⟩
             . cases h
           . cases h
         . cases h
       | self f m=>
         simp only[X2a]at h;have hp:=hx.rep;split at h
         . rename_i f' k k' hc;split at h
           . rename_i hf;obtain⟨hf,hk⟩:=hf;subst hf;subst hk;obtain⟨cs,h1,h2⟩:=ih h hN;rw[hc]at hp;obtain⟨va,vb,hv,k1,k2⟩:=hp;refine⟨_,.cons (sh:=.self f' false) (c:=[]) ⟨rfl,?_⟩ h1,by simpa using h2⟩;cases hl:va.toList with
             | nil=>rw[hl]at k1;cases k1
             | cons x l=>
               rw[hl]at k1;cases k1 with
               | cons m1 m2=>
                 cases m2;have e1:va=#[x]:=by apply Yb4;rw[hl]
                 have e2:vb=#[]:=by
                  cases hl2:vb.toList with
                  | nil=>simpa using hl2
                  | cons x l=>rw[hl2]at k2;cases k2
                 have e3:x=.pointer (some ⟨σ.box k,0,none⟩):=by rw[m1.1];simp[Addr.add]
                 show v=_;rw[hv,e1,e2,e3]
           . cases h
         . rename_i f' k k' hc;split at h
           . rename_i hf;obtain⟨hf,hk⟩:=hf;subst hf;subst hk;obtain⟨cs,h1,h2⟩:=ih h hN;rw[hc]at hp;obtain⟨va,vb,hv,k1,k2⟩:=hp;refine⟨_,.cons (sh:=.self f' true) (c:=[]) ⟨rfl,?_⟩ h1,by simpa using h2⟩;cases hl:vb.toList with
             | nil=>rw[hl]at k2;cases k2
             | cons x l=>
               rw[hl]at k2;cases k2 with
               | cons m1 m2=>
                 cases m2;have e1:vb=#[x]:=by apply Yb4;rw[hl]
                 have e2:va=#[]:=by
                  cases hl2:va.toList with
                  | nil=>simpa using hl2
                  | cons x l=>rw[hl2]at k1;cases k1
                 obtain⟨ad,hx1,hx2,_⟩:=m1;refine⟨ad,by rw[hv,e1,e2,hx1],?_⟩;have:=hMN _ _ hx2;rw[this];simp[Addr.add]
           . cases h
         . cases h
theorem XnH{rows:List (Nat×X0L)}:∀{cs vs:List X02},XeP rows cs=some vs->vs.length=cs.length/\∀(j:Nat) (c:X02),cs[j]?=some c->∃c',vs[j]?=some c'/\Xlq rows c=some c'
 | [],vs,h=>by simp only[XeP,Yag]at h;subst h;exact⟨rfl,λj c hc=>by simp at hc⟩
 | c::cs,vs,h=>by
   simp only[XeP]at h;split at h
   . rename_i c' l' h1 h2;cases h;obtain⟨k1,k2⟩:=XnH h2;refine⟨by simp[k1],λj d hd=>?_⟩;cases j with
     | zero=>simp at hd;subst hd;exact⟨c',by simp,h1⟩
     | succ j=>simp at hd;simpa using k2 j d hd
   . cases h
theorem Xu4{rows:List (Nat×X0L)}{c c':X02}(h:Xlq rows c=some c'):unT c'=c':=by
 cases c<;>simp only[Xlq]at h
 case int=>cases h;rfl
 case bool=>cases h;rfl
 case str=>cases h;rfl
 case lst=>cases h;rfl
 case emp=>cases h;rfl
 case und=>cases h
 case own=>
  split at h
  . split at h
    . rename_i ht;subst ht;cases h;rfl
    . cases h
  . cases h
 case sub=>
  split at h
  . split at h
    . cases h;rfl
    . cases h
  . cases h
 case bor=>
  split at h
  . rw[YbU]at h;split at h
    . cases h;rfl
    . cases h
  . cases h
theorem XnA{rows:List (Nat×X0L)}:∀{cs vs:List X02},XeP rows cs=some vs->vs.map unT=vs
 | [],vs,h=>by simp only[XeP,Yag]at h;subst h;rfl
 | c::cs,vs,h=>by
   simp only[XeP]at h;split at h
   . rename_i c' l' h1 h2;cases h;simp only[Yas,Xu4 h1,XnA h2]
   . cases h
def borC:X02->Option Nat
 | .own _ r=>some r
 | .sub _ r _ _=>some r
 | .bor _ _ r _ _=>some r
 | _=>none
theorem XhK{c:X02}{r:Nat}(h:borC c=some r):∀{cs:List X02},c∈cs->r∈X21 cs
 | d::cs,hm=>by
   rcases Yak.1 hm with e | hm2
   . subst e;cases c<;>simp only[borC]at h<;>first | (cases h;simp[X21];done) | (cases h;done)
   . have:=XhK h hm2;cases d<;>simp only[X21]<;>first | exact this | exact Yan _ this
theorem Xnk{skip:List (Nat×TypeId)}{c:X02}:∀{cs:List X02} (i j:Nat),cs[j]?=some c->look (i+j) skip=none->c∈Xai skip i cs
 | [],i,j,h,_=>by simp at h
 | d::cs,i,0,h,hl=>by
   simp at h;subst h;rw[Ya6]at hl;simp[Xai,hl]
 | d::cs,i,j+1,h,hl=>by
   simp at h;have:=Xnk (skip:=skip) (i+1) j h (by rw[<-hl];congr 1;omega);simp only[Xai];split
   . exact this
   . exact Yan _ this
theorem XsI(hS:Sim P base M0 ios σ M w a st){N:Mem}(hMN:M.le N){rows:List (Nat×X0L)}(hr:∀r rv,look r rows=some rv->look r st.rows=some rv){v:Value}{c c':X02}(h:RdT σ st.rows M v c)(hv:Xlq rows c=some c')(hN:∀r,borC c=some r->X1G r st.rows->(σ.mem r).le N):RdV N v c':=by
 cases c with
 | int k n=>cases hv;exact h.1
 | bool b=>cases hv;exact h.1
 | str s=>cases hv;exact h.1
 | lst t l tag=>cases hv;exact RdC.mono hMN (.list t) _ _ h.1
 | und=>cases hv
 | emp t=>
   cases hv;obtain⟨ad,rfl⟩:=h.2;exact⟨ad,0,rfl,by simp,by simp,λi hi=>by simp at hi⟩
 | own t r=>
   simp only[Xlq]at hv;split at hv
   . rename_i e t' l ver z hl;split at hv
     . rename_i ht;subst ht;cases hv;have hl':=hr r _ hl;have:v=σ.row r:=h.2 (by rw[hl'];rfl);rw[this];exact RdC.mono (hN r rfl ⟨_,_,_,_,_,_,hl'⟩) (.list _) _ _ (hS.hotAt hl').rd
     . cases hv
   . cases hv
 | sub t r lo hi=>
   simp only[Xlq]at hv;split at hv
   . rename_i e t' l ver z hl;split at hv
     . rename_i ht;subst ht;cases hv;have hl':=hr r _ hl;exact RdC.mono (hN r rfl ⟨_,_,_,_,_,_,hl'⟩) (.list _) _ _ ((show Xkt _ (σ.row r) lo hi v from h.2 (by rw[hl'];rfl)).rd (hS.hotAt hl').rd)
     . cases hv
   . cases hv
 | bor t l r ver p=>
   simp only[Xlq]at hv;split at hv
   . rename_i e t' l' ver' z hl;rw[YbU]at hv;split at hv
     . rename_i he;cases hv;have:ver'=ver:=by simpa using he
       subst this;have hl':=hr r _ hl;exact RdC.mono (hN r rfl ⟨_,_,_,_,_,_,hl'⟩) (.list _) _ _ (h.2 _ hl' rfl).1
     . cases hv
   . cases hv
def Xb1(σ:Sg)(cs:List X02)(j:Nat):List Nat:=match cs[j]? with
 | some (.own _ r)=>σ.foot r
 | _=>[]
def Xcb(rows:List (Nat×X0L))(c:X02):Option (Option Nat):=match c with
 | .own t r=>match look r rows with
   | some (.hot _ t' _ _ none _)=>if t'=t then some (some r) else none
   | _=>none
 | .lst _ [] (some 0)=>some none
 | .emp _=>some none
 | _=>none
theorem Xs0(hS:Sim P base M0 ios σ M w a st){rows:List (Nat×X0L)}(hr:∀r rv,look r rows=some rv->look r st.rows=some rv){v:Value}{c c':X02}{x:Option Nat}(h:RdT σ st.rows M v c)(hv:Xlq rows c=some c')(hh:Xcb rows c=some x):
 ∃t l,c'=.lst t l none/\X4Q w t v l (match x with | some r=>σ.foot r | none=>[])/\∀r,x=some r->X1G r st.rows/\∃t0,c=.own t0 r:=by
 cases c
 case int=>cases hh
 case bool=>cases hh
 case str=>cases hh
 case sub=>cases hh
 case bor=>cases hh
 case und=>cases hh
 case own t r=>
  cases hl:look r rows with
  | none=>simp[Xcb,hl]at hh
  | some rv=>
    cases rv with
    | hot e t' l ver hole z=>
      cases hole with
      | none=>
        by_cases ht:t'=t
        . subst ht;simp only[Xcb,hl,Yci,Yag]at hh;subst hh;simp only[Xlq,hl,dif_pos]at hv;cases hv;have hl':=hr r _ hl;have hv:v=σ.row r:=h.2 (by rw[hl'];rfl);exact⟨_,l,rfl,by rw[hv];exact(hS.hotAt hl').own,λr' e=>by cases e;exact⟨⟨_,_,_,_,_,_,hl'⟩,_,rfl⟩⟩
        . simp[Xcb,hl,ht]at hh
      | some p=>simp[Xcb,hl]at hh
    | cold e=>simp[Xcb,hl]at hh
    | frz e t' l ver z=>simp[Xcb,hl]at hh
 case lst t l tag=>
  match l,tag with
  | [],some 0=>
    cases hh;cases hv;have hv:v=.slice none 0 0:=by have:=h.2;simpa [Xc8] using this
    exact⟨t,[],rfl,by rw[hv];exact X4Q.emp none,λr e=>by cases e⟩
  | [],none=>simp[Xcb]at hh
  | [],some (k+1)=>simp[Xcb]at hh
  | _::_,none=>simp[Xcb]at hh
  | _::_,some k=>simp[Xcb]at hh
 case emp t=>
  cases hh;cases hv;obtain⟨ad,rfl⟩:=h.2;exact⟨t,[],rfl,X4Q.emp ad,λr e=>by cases e⟩
theorem X67{rows:List (Nat×X0L)}{cs:List X02}:∀{own:List (Nat×TypeId)} {ks:List Nat},Xa4 rows cs own=some ks->(∀j e,(j,e)∈own->∃c x,cs[j]?=some c/\Xcb rows c=some x/\∀r,x=some r->r∈ks)/\∀r∈ks,∃j e t,(j,e)∈own/\cs[j]?=some (.own t r)
 | [],ks,h=>by simp only[Xa4,Yag]at h;subst h;exact⟨λj e hm=>by(cases hm),λr hr=>by(cases hr)⟩
 | (j,e)::own,ks,h=>by
   simp only[Xa4]at h;split at h
   . rename_i t r ks' hc hk;split at h
     . rename_i e0 t' l ver z hl;split at h
       . rename_i ht;cases h;obtain⟨k1,k2⟩:=X67 hk;refine⟨λj' e' hm=>?_,λr' hr'=>?_⟩
         . rcases Yak.1 hm with e1 | hm
           . cases e1;exact⟨_,some r,hc,by simp[Xcb,hl,ht],λr' e2=>by cases e2;simp⟩
           . obtain⟨c,x,m1,m2,m3⟩:=k1 j' e' hm;exact⟨c,x,m1,m2,λr' e2=>Yan _ (m3 r' e2)⟩
         . rcases Yak.1 hr' with rfl | hr'
           . exact⟨j,e,t,by simp,hc⟩
           . obtain⟨j',e',t',m1,m2⟩:=k2 r' hr';exact⟨j',e',t',Yan _ m1,m2⟩
       . cases h
     . cases h
   . rename_i t ks' hc hk;cases h;obtain⟨k1,k2⟩:=X67 hk;refine⟨λj' e' hm=>?_,λr' hr'=>?_⟩
     . rcases Yak.1 hm with e1 | hm
       . cases e1;exact⟨_,none,hc,rfl,λr' e2=>by cases e2⟩
       . exact k1 j' e' hm
     . obtain⟨j',e',t',m1,m2⟩:=k2 r' hr';exact⟨j',e',t',Yan _ m1,m2⟩
   . rename_i t ks' hc hk;cases h;obtain⟨k1,k2⟩:=X67 hk;refine⟨λj' e' hm=>?_,λr' hr'=>?_⟩
     . rcases Yak.1 hm with e1 | hm
       . cases e1;exact⟨_,none,hc,rfl,λr' e2=>by cases e2⟩
       . exact k1 j' e' hm
     . obtain⟨j',e',t',m1,m2⟩:=k2 r' hr';exact⟨j',e',t',Yan _ m1,m2⟩
   . cases h
def Xuz(rows:List (Nat×X0L))(bks:List Nat)(c:X02):Prop:=
 (∃x,Xcb rows c=some x/\∀r,x=some r->r∈bks)\/∃t l r ver i off e τ L z,c=.bor t l r ver (some (i,off))/\look r rows=some (.hot e τ L ver none z)/\r∈bks
theorem Xuz.more{rows:List (Nat×X0L)}{b b':List Nat}{c:X02}(h:Xuz rows b c)(hs:∀r∈b,r∈b'):Xuz rows b' c:=by
 rcases h with⟨x,h1,h2⟩ | ⟨t,l,r,ver,i,off,e,τ,L,z,h1,h2,h3⟩
 . exact .inl ⟨x,h1,λr e=>hs r (h2 r e)⟩
 . exact .inr ⟨t,l,r,ver,i,off,e,τ,L,z,h1,h2,hs r h3⟩
theorem Xju{rows:List (Nat×X0L)}{cs:List X02}:∀{own:List (Nat×TypeId)},XnJ rows cs own=true->(∀j e,(j,e)∈own->∃c,cs[j]?=some c/\Xuz rows (X0v cs own) c)/\∀r∈X0v cs own,∃e t l ver z,look r rows=some (.hot e t l ver none z)
 | [],h=>⟨λj e hm=>by(cases hm),λr hr=>by(cases hr)⟩
 | (j,e)::own,h=>by
   simp only[XnJ,Yac]at h;obtain⟨h1,h2⟩:=h;obtain⟨k1,k2⟩:=Xju h2;have more:∀r,r∈X0v cs own->r∈X0v cs ((j,e)::own):=λr hr=>by
    simp only[X0v];split
    . exact Yan _ hr
    . exact Yan _ hr
    . exact hr
   split at h1
   . rename_i t r hc;split at h1
     . rename_i e0 t' l ver z hl;have ht:t'=t:=by simpa using h1
       refine⟨λj' e' hm=>?_,λr' hr'=>?_⟩
       . rcases Yak.1 hm with e1 | hm
         . cases e1;exact⟨_,hc,.inl ⟨some r,by simp[Xcb,hl,ht],λr' e2=>by cases e2;simp[X0v,hc]⟩⟩
         . obtain⟨c,m1,m2⟩:=k1 j' e' hm;exact⟨c,m1,m2.more more⟩
       . simp only[X0v,hc]at hr';rcases Yak.1 hr' with rfl | hr'
         . exact⟨_,_,_,_,_,hl⟩
         . exact k2 r' hr'
     . cases h1
   . rename_i t l r ver p hc;split at h1
     . rename_i e0 t' l' ver' z hl;have hv:ver'=ver:=by simpa using h1
       subst hv;refine⟨λj' e' hm=>?_,λr' hr'=>?_⟩
       . rcases Yak.1 hm with e1 | hm
         . cases e1;exact⟨_,hc,.inr ⟨t,l,r,ver',p.1,p.2,e0,t',l',z,rfl,hl,by simp[X0v,hc]⟩⟩
         . obtain⟨c,m1,m2⟩:=k1 j' e' hm;exact⟨c,m1,m2.more more⟩
       . simp only[X0v,hc]at hr';rcases Yak.1 hr' with rfl | hr'
         . exact⟨_,_,_,_,_,hl⟩
         . exact k2 r' hr'
     . cases h1
   . rename_i t hc;refine⟨λj' e' hm=>?_,λr' hr'=>?_⟩
     . rcases Yak.1 hm with e1 | hm
       . cases e1;exact⟨_,hc,.inl ⟨none,rfl,λr' e2=>by cases e2⟩⟩
       . obtain⟨c,m1,m2⟩:=k1 j' e' hm;exact⟨c,m1,m2.more more⟩
     . simp only[X0v,hc]at hr';exact k2 r' hr'
   . rename_i t hc;refine⟨λj' e' hm=>?_,λr' hr'=>?_⟩
     . rcases Yak.1 hm with e1 | hm
       . cases e1;exact⟨_,hc,.inl ⟨none,rfl,λr' e2=>by cases e2⟩⟩
       . obtain⟨c,m1,m2⟩:=k1 j' e' hm;exact⟨c,m1,m2.more more⟩
     . simp only[X0v,hc]at hr';exact k2 r' hr'
   . cases h1
structure Ext (s s':St):Prop where
 nt:s.nt=s'.nt
 get:∀i,s.get i=s'.get i
 box:∀k,s.box k=s'.box k
 row:∀r,s.rowv r=s'.rowv r
 olds:∀i,i∈s.olds↔i∈s'.olds
theorem Ext.refl(s:St):Ext s s:=⟨rfl,λ_=>rfl,λ_=>rfl,λ_=>rfl,λ_=>Yc8⟩
theorem Ext.symm{s s':St}(h:Ext s s'):Ext s' s:=⟨h.nt.symm,λi=>(h.get i).symm,λi=>(h.box i).symm,λi=>(h.row i).symm,λi=>(h.olds i).symm⟩
theorem Ext.trans{s s' s'':St}(h:Ext s s')(k:Ext s' s''):Ext s s'':=⟨h.nt.trans k.nt,λi=>(h.get i).trans (k.get i),λi=>(h.box i).trans (k.box i),λi=>(h.row i).trans (k.row i),λi=>(h.olds i).trans (k.olds i)⟩
theorem Ext.cold{s s':St}(h:Ext s s')(r:Nat):s.row r=s'.row r:=by
 have:=h.row r;simp only[St.rowv]at this;simp only[St.row,X8M,this]
theorem Carry.ext{σ:Sg}{rows rows':List (Nat×X0L)}{M:Mem}(hr:∀r,look r rows=look r rows'):Carry σ rows M σ rows' M (λ_=>True) (λ_ _=>True):=
 ⟨Mem.le_refl M,λr _ hs=>⟨by rw[hr];exact hs,rfl⟩,λr ver rv' _ _ hl hv=>⟨rv',by rw[hr];exact hl,hv,Mem.le_refl _,.inl rfl⟩⟩
theorem Sim.ext{s s':St}(h:Ext s s')(hS:Sim P base M0 ios σ M w a s):Sim P base M0 ios σ M w a s':=by
 have hr:∀r,look r s.rows=look r s'.rows:=h.row;have hh:∀r,X1G r s'.rows->X1G r s.rows:=λr ⟨e,t,l,ver,hole,z,hl⟩=>⟨e,t,l,ver,hole,z,by rw[hr];exact hl⟩
 exact {
  mem:=hS.mem
  nt:=hS.nt.trans h.nt
  slots:=λi=>by
   rw[<-h.get i];exact X44.carry (boxes:=s.boxes) (Carry.ext hr) (hS.slots i) (Xed _) (λk _=>⟨rfl,λhk=>by have:=h.box k;simp only[St.box]at this;rw[<-this];exact hk⟩)
  boxes:=λk cs hk=>by
   rw[<-h.box k]at hk;obtain⟨arr,E,h1,h2⟩:=hS.boxes k cs hk;exact⟨arr,E,h1,Xcm (Carry.ext hr) h2 (λc _=>X65 c)⟩
  boxM:=λk hk=>hS.boxM k (by rw[h.box k];exact hk)
  boxInj:=λk k' h1 h2=>hS.boxInj k k' (by rw[h.box k];exact h1) (by rw[h.box k'];exact h2)
  boxBase:=λk hk=>hS.boxBase k (by rw[h.box k];exact hk)
  rows:=λr e he=>hS.rows r e (by rw[h.cold r];exact he)
  rowBox:=λr k h1 h2=>hS.rowBox r k (by rw[h.cold r];exact h1) (by rw[h.box k];exact h2)
  rowInj:=λr r' h1 h2=>hS.rowInj r r' (by rw[h.cold r];exact h1) (by rw[h.cold r'];exact h2)
  hot:=hS.hot.keep (YaC _) (Mem.le_refl M) (λr rv v hl _=>⟨by rw[hr];exact hl,rfl,rfl,rfl⟩) (λ_ _ _ _=>rfl) (λr h1=>hS.hot.noM r (hh r h1)) (λr h1 k hk=>hS.hot.noBox r (hh r h1) k (by rw[h.box k];exact hk)) (λr h1 r' h2=>hS.hot.noRow r (hh r h1) r' (by rw[h.cold r'];exact h2))
  fr:=hS.fr
  defers:=hS.defers
  old:=hS.old
  le:=hS.le
  pin:=hS.pin
  pins:=λp hp hs=>hS.pins p hp (by rw[hr];exact hs)
  olds:=λi hi=>by rw[<-h.get i];exact hS.olds i ((h.olds i).2 hi)}
theorem X61(σ:Sg)(a b:List Nat):X56 σ (a++b)=X56 σ a++X56 σ b:=by simp[X56]
theorem X6a{rows:List (Nat×X0L)}{cs:List X02}:∀{own:List (Nat×TypeId)} {ks:List Nat},Xa4 rows cs own=some ks->X98 own (Xb1 σ cs)=X56 σ ks
 | [],ks,h=>by simp only[Xa4,Yag]at h;subst h;rfl
 | (j,e)::own,ks,h=>by
   simp only[Xa4]at h;have hb:X98 ((j,e)::own) (Xb1 σ cs)=Xb1 σ cs j++X98 own (Xb1 σ cs):=rfl;rw[hb];split at h
   . rename_i t r ks' hc hk;split at h
     . split at h
       . cases h;rw[X6a hk];simp only[Xb1,hc];rfl
       . cases h
     . cases h
   . rename_i t ks' hc hk;cases h;rw[X6a hk];simp only[Xb1,hc];rfl
   . rename_i t ks' hc hk;cases h;rw[X6a hk];simp only[Xb1,hc];rfl
   . cases h
theorem Xba{rows0:List (Nat×X0L)}{vs:List Value}{rows:List (Nat×X0L)}{cs:List X02}:∀{own:List (Nat×TypeId)} {ks:List Nat},Xa4 rows cs own=some ks->X98 own (Xbn w σ rows0 cs vs)=X56 σ ks
 | [],ks,h=>by simp only[Xa4,Yag]at h;subst h;rfl
 | (j,e)::own,ks,h=>by
   simp only[Xa4]at h;have hb:X98 ((j,e)::own) (Xbn w σ rows0 cs vs)=Xbn w σ rows0 cs vs j++X98 own (Xbn w σ rows0 cs vs):=rfl;rw[hb];split at h
   . rename_i t r ks' hc hk;split at h
     . split at h
       . cases h;rw[Xba hk];simp only[Xbn,hc];rfl
       . cases h
     . cases h
   . rename_i t ks' hc hk;cases h;rw[Xba hk];simp only[Xbn,hc];rfl
   . rename_i t ks' hc hk;cases h;rw[Xba hk];simp only[Xbn,hc];rfl
   . cases h
theorem XnW{rows:List (Nat×X0L)}{vs:List Value}{cs:List X02}:∀(own:List (Nat×TypeId)),(∀j e t l r ver p,(j,e)∈own->cs[j]?=some (.bor t l r ver (some p))->(X8K w σ rows cs vs j).2.1.Sublist (σ.foot r))->(X98 own (Xbn w σ rows cs vs)).Sublist (X56 σ (X0v cs own))
 | [],_=>.slnil
 | (j,e)::own,hd=>by
   have hb:X98 ((j,e)::own) (Xbn w σ rows cs vs)=Xbn w σ rows cs vs j++X98 own (Xbn w σ rows cs vs):=rfl;have ih:=XnW own λj' e' t l r ver p hm hc=>hd j' e' t l r ver p (Yan _ hm) hc;rw[hb];simp only[X0v,Xbn];split
   . rename_i t r hc;simp only[hc];exact YcK ih _
   . rename_i t l r ver p hc;simp only[hc];exact List.Sublist.append (hd j e t l r ver p (by simp) hc) ih
   . rename_i hn hn2;cases hc:cs[j]? with
     | none=>exact ih
     | some c=>
       cases c<;>first | exact ih | skip
       . rename_i t r;exact absurd hc (hn t r)
       . rename_i t l r ver p;cases p with
         | none=>exact ih
         | some p=>exact absurd hc (hn2 t l r ver p)
theorem Xj5(a b:List (Nat×TypeId))(F:Nat->List Nat):X98 (a++b) F=X98 a F++X98 b F:=by simp[X98]
theorem Xey{ins:List In}{vals:List Value}(h:X27 (λv i=>Xgt σ st M v i) vals ins):∀r rv,look r (ins.flatMap (·.rows))=some rv->look r st.rows=some rv:=by
 induction h with
 | nil=>intro r rv hl;cases hl
 | cons hx _ ih=>
   intro r rv hl;rw[YcR,X5v]at hl;split at hl
   . rename_i x he;cases hl;exact hx.rows r _ he
   . exact ih r rv hl
def X7d(cs:List X02)(D:Nat->List Nat×List Nat×List Nat)(FB:Nat->List Nat):List (Nat×TypeId)->List (Nat×List Nat)
 | []=>[]
 | (j,_)::l=>match cs[j]? with
   | some (.own _ r)=>(r,FB j)::X7d cs D FB l
   | some (.bor _ _ r _ (some _))=>(r,(D j).1++(FB j++(D j).2.2))::X7d cs D FB l
   | _=>X7d cs D FB l
inductive XhV (rows:List (Nat×X0L)) (cs:List X02) (own:List (Nat×TypeId)) (bs:List X02) (D:Nat->List Nat×List Nat×List Nat) (FB:Nat->List Nat) (r:Nat):X0L->List Nat->Prop
 | own {k j:Nat} {e:TypeId} {t0:Ty} {e0:TypeId} {t':Ty} {l':List (El t')} {ver:Nat} {x:List (El t')} {z:Bool} {tag:Option Nat} (h1:own[k]?=some (j,e)) (h2:cs[j]?=some (.own t0 r)) (h3:bs[k]?=some (.lst t' l' tag)) (h4:look r rows=some (.hot e0 t' x ver none z)):
    XhV rows cs own bs D FB r (.hot e0 t' l' (ver+1) none false) (FB j)
 | bor {k j:Nat} {e:TypeId} {t:Ty} {l0:List (El t)} {e0:TypeId} {τ:Ty} {L L':List (El τ)} {l':List (El t)} {ver i off:Nat} {z:Bool} {tag:Option Nat} (h1:own[k]?=some (j,e)) (h2:cs[j]?=some (.bor t l0 r ver (some (i,off)))) (h3:bs[k]?=some (.lst t l' tag)) (h4:look r rows=some (.hot e0 τ L ver none z))
    (h5:Xim τ L i off [.lst t l' none]=some L'):XhV rows cs own bs D FB r (.hot e0 τ L' (ver+1) none false) ((D j).1++(FB j++(D j).2.2))
theorem XhV.more{rows:List (Nat×X0L)}{cs:List X02}{own:List (Nat×TypeId)}{bs:List X02}{D:Nat->List Nat×List Nat×List Nat}{FB:Nat->List Nat}{r:Nat}{rv:X0L}{fo:List Nat}(q:Nat×TypeId)(b:X02)(h:XhV rows cs own bs D FB r rv fo):XhV rows cs (q::own) (b::bs) D FB r rv fo:=by
 cases h with
 | own h1 h2 h3 h4=>exact XhV.own (k:=_+1) (by simpa using h1) h2 (by simpa using h3) h4
 | bor h1 h2 h3 h4 h5=>exact XhV.bor (k:=_+1) (by simpa using h1) h2 (by simpa using h3) h4 h5
theorem X7I{rows:List (Nat×X0L)}{cs:List X02}{D:Nat->List Nat×List Nat×List Nat}{FB:Nat->List Nat}:∀{own:List (Nat×TypeId)} {bs:List X02} {br:List (Nat×X0L)},X8r rows cs own bs=some br->
 (∀r rv,look r br=some rv->∃fo,look r (X7d cs D FB own)=some fo/\XhV rows cs own bs D FB r rv fo)/\
 (∀r,(look r br).isSome=(look r (X7d cs D FB own)).isSome)/\∀r,r∈X0v cs own->(look r br).isSome=true
 | [],[],br,h=>by simp only[X8r,Yag]at h;subst h;exact⟨λr rv hl=>by(cases hl),λr=>rfl,λr hr=>by(cases hr)⟩
 | [],_::_,br,h=>by simp[X8r]at h
 | _::_,[],br,h=>by simp[X8r]at h
 | (j,e)::own,b::bs,br,h=>by
   cases b with
   | lst t' l' tag=>
     simp only[X8r]at h;split at h
     . rename_i t0 r0 ks hc hk;split at h
       . rename_i e0 t1 x ver z hl;split at h
         . rename_i ht;subst ht;cases h;obtain⟨k1,k2,k3⟩:=X7I (D:=D) (FB:=FB) hk;refine⟨λr rv hr=>?_,λr=>?_,λr hr=>?_⟩
           . simp only[X08]at hr;split at hr
             . rename_i e1;subst e1;cases hr;exact⟨FB j,by simp[X7d,hc,X08],.own (k:=0) (e:=e) rfl hc rfl hl⟩
             . rename_i e1;obtain⟨fo,m1,m2⟩:=k1 r rv hr;exact⟨fo,by simp only[X7d,hc,X08,Yae e1];exact m1,m2.more _ _⟩
           . simp only[X7d,hc,X08];split
             . rfl
             . exact k2 r
           . simp only[X0v,hc,Yak]at hr;simp only[X08];split
             . rfl
             . rename_i e1;rcases hr with e2 | hr
               . exact absurd e2.symm e1
               . exact k3 r hr
         . cases h
       . cases h
     . rename_i t0 l0 r0 ver i off ks hc hk;split at h
       . rename_i e0 τ L ver' z hl;split at h
         . rename_i ht;obtain⟨rfl,rfl⟩:=ht;split at h
           . rename_i L' hset;cases h;obtain⟨k1,k2,k3⟩:=X7I (D:=D) (FB:=FB) hk;refine⟨λr rv hr=>?_,λr=>?_,λr hr=>?_⟩
             . simp only[X08]at hr;split at hr
               . rename_i e1;subst e1;cases hr;exact⟨_,by simp[X7d,hc,X08],.bor (k:=0) (e:=e) rfl hc rfl hl hset⟩
               . rename_i e1;obtain⟨fo,m1,m2⟩:=k1 r rv hr;exact⟨fo,by simp only[X7d,hc,X08,Yae e1];exact m1,m2.more _ _⟩
             . simp only[X7d,hc,X08];split
               . rfl
               . exact k2 r
             . simp only[X0v,hc,Yak]at hr;simp only[X08];split
               . rfl
               . rename_i e1;rcases hr with e2 | hr
                 . exact absurd e2.symm e1
                 . exact k3 r hr
           . cases h
         . cases h
       . cases h
     . rename_i t ks hc hk;cases h;obtain⟨k1,k2,k3⟩:=X7I (D:=D) (FB:=FB) hk;refine⟨λr rv hr=>?_,λr=>?_,λr hr=>?_⟩
       . obtain⟨fo,m1,m2⟩:=k1 r rv hr;exact⟨fo,by simp only[X7d,hc];exact m1,m2.more _ _⟩
       . simp only[X7d,hc];exact k2 r
       . simp only[X0v,hc]at hr;exact k3 r hr
     . rename_i t ks hc hk;cases h;obtain⟨k1,k2,k3⟩:=X7I (D:=D) (FB:=FB) hk;refine⟨λr rv hr=>?_,λr=>?_,λr hr=>?_⟩
       . obtain⟨fo,m1,m2⟩:=k1 r rv hr;exact⟨fo,by simp only[X7d,hc];exact m1,m2.more _ _⟩
       . simp only[X7d,hc];exact k2 r
       . simp only[X0v,hc]at hr;exact k3 r hr
     . cases h
   | _=>simp[X8r]at h
theorem XfZ.one{M:Mem}{own:List (Nat×TypeId)}{vs:List Value}{cs:List X02}{F:Nat->List Nat}(h:XfZ w M own vs cs F):∀u∈vs,u.oneCell'=true:=λu hu=>by
 obtain⟨j,hj⟩:=Yc9 hu;have hlt:j<cs.length:=by rw[<-h.len];exact(Ya3.1 hj).1
 cases hl:look j own with
 | none=>exact RdV.oneCell (h.rd j u _ hl hj (Yax hlt))
 | some e=>
   obtain⟨u',t,l,h1,_,h3⟩:=h.own j e hl;rw[hj]at h1;cases h1;obtain⟨ad,cap,e1,_⟩:=h3.slice;rw[e1];rfl
structure Xiu (con:Con) (rows:List (Nat×X0L)) (p:List X02×List Nat) (k:Option Nat) (iks:List Nat) (x:XvV con):Prop where
 vals:∃vs ks,XeP rows p.1=some vs/\Xa4 rows p.1 con.ownA=some ks/\X2x con.A vs=some (x.a,[])/\x.kill=ks++iks/\X60 (ks++(iks++X0v p.1 con.backA))=true/\
  Xgq (X21 (Xai (con.ownA++con.backA) 0 p.1)) (ks++(iks++X0v p.1 con.backA))=true
 back:XnJ rows p.1 con.backA=true
 leans:con.leans=true->X21 (Xai (con.ownA++con.backA) 0 p.1)=[]/\p.2=[]
 kp:∀b,k=some b->b∉p.2
 k:x.k=k
 cs:x.cs=p.1
 rows:x.rows=rows
theorem XpE{con:Con}{rows:List (Nat×X0L)}{i:El con.I}{k:Option Nat}{iks:List Nat}{p:List X02×List Nat}{x:XvV con}(h:Xmw con rows i k iks p=some x):Xiu con rows p k iks x/\x.i=i:=by
 unfold Xmw at h;split at h
 . rename_i vs ks h1 h2;split at h
   . rename_i a h3;split at h
     . rename_i hc;cases h;simp only[Yac,Ya5,YaS,Yc4]at hc;obtain⟨⟨⟨⟨c1,c2⟩,c3⟩,c4⟩,c5⟩:=hc;refine⟨⟨⟨vs,ks,h1,h2,h3,rfl,c1,c2⟩,c3,λhl=>?_,λb hb=>?_,rfl,rfl,rfl⟩,rfl⟩
       . rcases c4 with c4 | c4
         . rw[hl]at c4;cases c4
         . exact c4
       . subst hb;exact X59.1 c5
     . cases h
   . cases h
 . cases h
theorem XlR{con:Con}{ts:List TypeId}{args:List In}{x:XvV con}(h:Xix tab con ts args=some x):
 (con.io=false/\∃p,X2a tab none con.shA ts args=some p/\Xiu con (args.flatMap (·.rows)) p none [] x)\/
 (con.io=true/\∃x0 xs t0 ts' k bc ic iks p,args=x0::xs/\ts=t0::ts'/\x0.sv=.box k 0/\x0.box=some bc/\XeP (args.flatMap (·.rows)) bc=some ic/\Xa4 (args.flatMap (·.rows)) bc con.ownI=some iks/\X2a tab (some k) con.shA ts' xs=some p/\
   X2x con.I ic=some (x.i,[])/\X21 (Xai con.ownI 0 bc)=[]/\Xiu con (args.flatMap (·.rows)) p (some k) iks x):=by
 unfold Xix at h;split at h
 . rename_i hio;refine .inr ⟨hio,?_⟩;split at h
   . rename_i x0 xs t0 ts';split at h
     . rename_i k bc hsv hbx;split at h
       . rename_i ic iks p h1 h2 h3;split at h
         . rename_i i h4;split at h
           . rename_i h5;obtain⟨f,e⟩:=XpE h;subst e;exact⟨x0,xs,t0,ts',k,bc,ic,iks,p,rfl,rfl,hsv,hbx,h1,h2,h3,h4,by simpa using h5,f⟩
           . cases h
         . cases h
       . cases h
     . cases h
   . cases h
 . rename_i hio;refine .inl ⟨hio,?_⟩;split at h
   . rename_i p h1;exact⟨p,h1,(XpE h).1⟩
   . cases h
theorem Xna(hS:Sim P base M0 ios σ M w a st){N:Mem}(hMN:M.le N){rows:List (Nat×X0L)}(hr:∀r rv,look r rows=some rv->look r st.rows=some rv){acs:List Value}{cs vs:List X02}(h:X27 (RdT σ st.rows M) acs cs)(hv:XeP rows cs=some vs){own:List (Nat×TypeId)}{F:Nat->List Nat}(ho:∀j e,(j,e)∈own->∃c,cs[j]?=some c/\∀u c',acs[j]?=some u->RdT σ st.rows M u c->Xlq rows c=some c'->∃t l,c'=.lst t l none/\X4Q w t u l (F j))(hN:∀r∈X21 (Xai own 0 cs),X1G r st.rows->(σ.mem r).le N):XfZ w N own acs vs F:=by
 obtain⟨hl,hg⟩:=XnH hv;refine⟨by rw[h.length,hl],λj u c' hj hu hc'=>?_,λj e hj=>?_⟩
 . obtain⟨c,hc,hrd⟩:=h.getL hu;obtain⟨c2,h2,h3⟩:=hg j c hc;rw[hc']at h2;cases h2;exact XsI hS hMN hr hrd h3 λr hb hh=>hN r (XhK hb (Xnk 0 j hc (by simpa using hj))) hh
 . obtain⟨c,hc,hx⟩:=ho j e (X3O hj);obtain⟨u,hu,hrd⟩:=h.get hc;obtain⟨c',h2,h3⟩:=hg j c hc;obtain⟨t,l,rfl,k1⟩:=hx u c' hu hrd h3;exact⟨u,t,l,hu,h2,k1⟩
theorem Xlw(hS:Sim P base M0 ios σ M w a st){rows:List (Nat×X0L)}(hr:∀r rv,look r rows=some rv->look r st.rows=some rv){cs:List X02}{j:Nat}{c:X02}{x:Option Nat}{F:Nat->List Nat}(hc:cs[j]?=some c)(hx:Xcb rows c=some x)(hF1:∀t r,c=.own t r->F j=σ.foot r)(hF2:(∀t r,c≠.own t r)->F j=[]){u:Value}{c':X02}(hrd:RdT σ st.rows M u c)(h3:Xlq rows c=some c'):∃t l,c'=.lst t l none/\X4Q w t u l (F j):=by
 obtain⟨t,l,rfl,k1,k2⟩:=Xs0 hS hr hrd h3 hx;refine⟨t,l,rfl,?_⟩;cases x with
 | none=>
   rw [hF2 λt0 r0 e=>by
    subst e;simp only[Xcb]at hx;split at hx
    . split at hx
      . cases hx
      . cases hx
    . cases hx]
   exact k1
 | some r=>
   obtain⟨_,t0,rfl⟩:=k2 r rfl;rw[hF1 _ _ rfl];exact k1
theorem Xm8(hS:Sim P base M0 ios σ M w a st){N:Mem}(hMN:M.le N){rows:List (Nat×X0L)}(hr:∀r rv,look r rows=some rv->look r st.rows=some rv){acs:List Value}{cs vs:List X02}(h:X27 (RdT σ st.rows M) acs cs)(hv:XeP rows cs=some vs){own:List (Nat×TypeId)}(ho:∀j e,(j,e)∈own->∃c x,cs[j]?=some c/\Xcb rows c=some x)(hN:∀r∈X21 (Xai own 0 cs),X1G r st.rows->(σ.mem r).le N):XfZ w N own acs vs (Xb1 σ cs):=
 Xna hS hMN hr h hv (λj e hm=>by
  obtain⟨c,x,hc,hx⟩:=ho j e hm;refine⟨c,hc,λu c' _ hrd h3=>Xlw hS hr hc hx (λt r e1=>?_) (λhn=>?_) hrd h3⟩
  . subst e1;simp only[Xb1,hc]
  . unfold Xb1;rw[hc];cases c<;>first | rfl | skip
    exact absurd rfl (hn _ _)) hN
theorem X8z{l r:List Nat}(h:Xgq l r=true):∀k∈l,k∉r:=λk hk=>X59.1 (Ya7.1 h k hk)
theorem Xgt.capIn{v:Value}{sv:Sv}{c:Cap}(hm:c∈(match sv with | .fn _ a b=>a++b | _=>[]))(hS:Sim P base M0 ios σ M w a st)(hx:Xdq σ st.rows st.boxes M v c):Xgt σ st M v (X55.capIn (Xrt st sv) c):=by
 have hrows:∀r rv,look r (Xrt st sv).rows=some rv->look r st.rows=some rv:=λr rv hl=>Xaz hl;have hboxes:∀k cs,look k (Xrt st sv).boxes=some cs->st.box k=some cs:=λk cs hl=>Xaz hl;cases c with
 | box k off=>
   refine⟨hx,λk' off' e=>?_,λt l r e=>(by cases e),hrows,hboxes⟩;rcases e with e | e<;>cases e;show look k (pick st.boxes (X4I sv))=look k st.boxes;rw[XbS,Yah];cases sv with
   | fn n x y=>
     simp only[X4I,Yaf];rcases Yaf.1 hm with h | h
     . exact .inl (X8Z (.inl h))
     . exact .inr (X8Z (.inl h))
   | _=>cases hm
 | ptr cs=>exact⟨hx,λk off e=>(by rcases e with e | e<;>cases e),λt l r e=>(by cases e),hrows,λk cs hl=>(by cases hl)⟩
 | pp k off=>
   refine⟨hx,λk' off' e=>?_,λt l r e=>(by cases e),hrows,hboxes⟩;rcases e with e | e<;>cases e;show look k (pick st.boxes (X4I sv))=look k st.boxes;rw[XbS,Yah];cases sv with
   | fn n x y=>
     simp only[X4I,Yaf];rcases Yaf.1 hm with h | h
     . exact .inl (X8Z (.inr h))
     . exact .inr (X8Z (.inr h))
   | _=>cases hm
 | pptr cs=>exact⟨hx,λk off e=>(by rcases e with e | e<;>cases e),λt l r e=>(by cases e),hrows,λk cs hl=>(by cases hl)⟩
theorem Xn5{rows:List (Nat×X0L)}{t:Ty}{r:Nat}{x:Option Nat}(h:Xcb rows (.own t r)=some x):∃e l ver z,look r rows=some (.hot e t l ver none z):=by
 simp only[Xcb]at h;split at h
 . rename_i e t' l ver z hl;split at h
   . rename_i ht;subst ht;exact⟨e,l,ver,z,hl⟩
   . cases h
 . cases h
structure XgR (σ:Sg) (st:St) (k:Option Nat) (ks iks bks:List Nat):Prop where
 hot:∀r∈ks++(iks++bks),X1G r st.rows
 nodup:(ks++(iks++bks)).Nodup
 box:∀b,k=some b->(st.box b).isSome=true
 ik:k=none->iks=[]
def Xo5(σ:Sg)(k:Option Nat)(ks iks bks:List Nat):List Nat:=(match k with | some b=>σ.box b::X56 σ iks | none=>[])++(X56 σ ks++X56 σ bks)
theorem Xez{ks:List Nat}{r g:Nat}(hr:r∈ks)(hg:g∈σ.foot r):g∈X56 σ ks:=by
 unfold X56;exact Yds.2 ⟨_,YaN.2 ⟨r,hr,rfl⟩,hg⟩
theorem XgR.mem(h:XgR σ st k ks iks bks){g:Nat}:g∈Xo5 σ k ks iks bks↔(∃b,k=some b/\g=σ.box b)\/∃r∈ks++(iks++bks),g∈σ.foot r:=by
 unfold Xo5;constructor
 . intro hg;rcases Yaf.1 hg with h1 | h1
   . cases hk:k with
     | none=>rw[hk]at h1;cases h1
     | some b=>
       rw[hk]at h1;rcases Yak.1 h1 with h2 | h2
       . exact .inl ⟨b,rfl,h2⟩
       . obtain⟨r,h3,h4⟩:=X6x h2;exact .inr ⟨r,by simp[h3],h4⟩
   . rcases Yaf.1 h1 with h2 | h2
     . obtain⟨r,h3,h4⟩:=X6x h2;exact .inr ⟨r,by simp[h3],h4⟩
     . obtain⟨r,h3,h4⟩:=X6x h2;exact .inr ⟨r,by simp[h3],h4⟩
 . rintro (⟨b,hb,hg⟩ | ⟨r,hr,hg⟩)
   . subst hb;exact Yaf.2 (.inl (by simp[hg]))
   . rcases Yaf.1 hr with h1 | h1
     . exact Yaf.2 (.inr (Yaf.2 (.inl (Xez h1 hg))))
     . rcases Yaf.1 h1 with h2 | h2
       . cases hk:k with
         | none=>rw[h.ik hk]at h2;cases h2
         | some b=>exact Yaf.2 (.inl (Yan _ (Xez h2 hg)))
       . exact Yaf.2 (.inr (Yaf.2 (.inr (Xez h2 hg))))
theorem XgR.noM(h:XgR σ st k ks iks bks)(hS:Sim P base M0 ios σ M w a st){g:Nat}(hg:g∈Xo5 σ k ks iks bks):∀ad,ad.block=g->M ad=none:=λad had=>by
 rcases h.mem.1 hg with⟨b,hb,e⟩ | ⟨r,hr,hg'⟩
 . exact hS.boxM b (h.box b hb) ad (by rw[had,e])
 . exact hS.hot.noM r (h.hot r hr) g hg' ad had
theorem XgR.foot_not(h:XgR σ st k ks iks bks)(hS:Sim P base M0 ios σ M w a st){r g:Nat}(hr:X1G r st.rows)(hn:r∉ks++(iks++bks))(hg:g∈σ.foot r):g∉Xo5 σ k ks iks bks:=λhm=>by
 rcases h.mem.1 hm with⟨b,hb,e⟩ | ⟨r',hr',hg'⟩
 . exact hS.hot.noBox r hr b (h.box b hb) (e▸hg)
 . exact hS.hot.apart r' r (h.hot r' hr') hr (λe=>hn (e▸hr')) g hg' hg
theorem XgR.box_not(h:XgR σ st k ks iks bks)(hS:Sim P base M0 ios σ M w a st){b:Nat}(hb:(st.box b).isSome=true)(hn:k≠some b):σ.box b∉Xo5 σ k ks iks bks:=λhm=>by
 rcases h.mem.1 hm with⟨b',hb',e⟩ | ⟨r',hr',hg'⟩
 . exact hn (by rw[hb',hS.boxInj b' b (h.box b' hb') hb e.symm])
 . exact hS.hot.noBox r' (h.hot r' hr') b hb hg'
theorem XgR.blkNodup(h:XgR σ st k ks iks bks)(hS:Sim P base M0 ios σ M w a st):(Xo5 σ k ks iks bks).Nodup:=by
 have h1:=XbU hS h.nodup h.hot;rw[X61,X61]at h1;unfold Xo5;cases hk:k with
 | none=>
   rw[h.ik hk]at h1;simpa [X56] using h1
 | some b=>
   have hp:(X56 σ ks++(X56 σ iks++X56 σ bks)).Perm (X56 σ iks++(X56 σ ks++X56 σ bks)):=by
    rw[<-Yam,<-Yam];exact List.Perm.append_right _ List.perm_append_comm
   have h2:=hp.nodup_iff.1 h1;show(σ.box b::(X56 σ iks++(X56 σ ks++X56 σ bks))).Nodup;refine YaB.2 ⟨λhm=>?_,h2⟩;have h3:=hp.mem_iff.2 hm;have h4:σ.box b∈X56 σ (ks++(iks++bks)):=by rw[X61,X61];exact h3
   obtain⟨r,h5,h6⟩:=X6x h4;exact hS.hot.noBox r (h.hot r h5) b (h.box b hk) h6
theorem Xgo{t:Ty}{rows:List (Nat×X0L)}{cs vs:List X02}{x:El t}(hv:XeP rows cs=some vs)(h:X2x t vs=some (x,[])):vs=flat t x:=by
 have h1:=X5D t vs x [] h;rw[XnA hv]at h1;simpa using h1
def XxM(σ:Sg):Option Nat->List Value
 | some b=>[.pointer (some ⟨σ.box b,0,none⟩)]
 | none=>[]
def XpP(cs:List X02)(j:Nat):Option Nat:=match cs[j]? with
 | some (.own _ r)=>some r
 | some (.bor _ _ r _ (some _))=>some r
 | _=>none
theorem XgM{cs:List X02}{j:Nat}{e:TypeId}{own:List (Nat×TypeId)}:X0v cs ((j,e)::own)=(match XpP cs j with | some r=>r::X0v cs own | none=>X0v cs own):=by
 simp only[X0v,XpP];split
 . rename_i hc;simp only[hc]
 . rename_i hc;simp only[hc]
 . rename_i h1 h2;cases hc:cs[j]? with
   | none=>rfl
   | some c=>
     cases c with
     | own t r=>exact absurd hc (h1 t r)
     | bor t l r ver p=>
       cases p with
       | none=>rfl
       | some p=>exact absurd hc (h2 t l r ver p)
     | _=>rfl
theorem X62{cs:List X02}{r:Nat}:∀{own:List (Nat×TypeId)},r∈X0v cs own↔∃j e,(j,e)∈own/\XpP cs j=some r
 | []=>⟨λh=>by(cases h),λ⟨_,_,h,_⟩=>by cases h⟩
 | (j,e)::own=>by
   rw[XgM];constructor
   . intro h;cases hk:XpP cs j with
     | none=>
       rw[hk]at h;obtain⟨j',e',h1,h2⟩:=X62.1 h;exact⟨j',e',Yan _ h1,h2⟩
     | some r0=>
       rw[hk]at h;rcases Yak.1 h with rfl | h
       . exact⟨j,e,by simp,hk⟩
       . obtain⟨j',e',h1,h2⟩:=X62.1 h;exact⟨j',e',Yan _ h1,h2⟩
   . rintro⟨j',e',h1,h2⟩;rcases Yak.1 h1 with e1 | h1
     . cases e1;rw[h2];simp
     . have:=X62.2 ⟨j',e',h1,h2⟩;split
       . exact Yan _ this
       . exact this
theorem XhZ{cs:List X02}{r:Nat}:∀{own:List (Nat×TypeId)},(X0v cs own).Nodup->∀{j j':Nat} {e e':TypeId},(j,e)∈own->(j',e')∈own->XpP cs j=some r->XpP cs j'=some r->j=j'
 | [],_,_,_,_,_,h,_,_,_=>by cases h
 | (j0,e0)::own,hn,j,j',e,e',h1,h2,h3,h4=>by
   rw[XgM]at hn;rcases Yak.1 h1 with q1 | q1
   . cases q1;rcases Yak.1 h2 with q2 | q2
     . cases q2;rfl
     . rw[h3]at hn;exact absurd (X62.2 ⟨j',e',q2,h4⟩) (YaB.1 hn).1
   . rcases Yak.1 h2 with q2 | q2
     . cases q2;rw[h4]at hn;exact absurd (X62.2 ⟨j,e,q1,h3⟩) (YaB.1 hn).1
     . refine XhZ (own:=own) ?_ q1 q2 h3 h4;split at hn
       . exact(YaB.1 hn).2
       . exact hn
structure Xv7 (w:World) (σ:Sg) (k:Option Nat) (ks iks bks:List Nat) (rows:List (Nat×X0L)) (cs:List X02) (acs:List Value) (own:List (Nat×TypeId)) (hb:List Nat):Prop where
 sub:∀g∈hb,g∈Xo5 σ k ks iks bks
 rest:∀(j:Nat) (e:TypeId) (t:Ty) (l:List (El t)) (r ver:Nat) (q:Nat×Nat),(j,e)∈own->cs[j]?=some (.bor t l r ver (some q))->∃u e0 τ L z,acs[j]?=some u/\look r rows=some (.hot e0 τ L ver none z)/\
  Dec w τ (σ.row r) L q.1 q.2 t l u (σ.foot r) (X8K w σ rows cs acs j).1 (X8K w σ rows cs acs j).2.1 (X8K w σ rows cs acs j).2.2/\∀g∈(X8K w σ rows cs acs j).1++(X8K w σ rows cs acs j).2.2,g∈σ.foot r/\g∉hb
theorem Xlt{con:Con}{rows:List (Nat×X0L)}{p:List X02×List Nat}{x:XvV con}{vs:List Value}{ins:List In}{ts:List TypeId}{bc:List X02}{n:FuncId}(hS:Sim P base M0 ios σ M w a st)(hr:∀r rv,look r rows=some rv->look r st.rows=some rv)(hins:X27 (λv i=>Xgt σ st M v i) vs ins)(hp:X2a tab k con.shA ts ins=some p)(f:Xiu con rows p k iks x)(hio:con.io=k.isSome)(hik:k=none->iks=[])(hk:∀b,k=some b->st.box b=some bc/\∃ic,XeP rows bc=some ic/\Xa4 rows bc con.ownI=some iks/\X2x con.I ic=some (x.i,[])/\X21 (Xai con.ownI 0 bc)=[])(hcon:X0h P n con)(hpre:con.pre x.i x.a):
 ∃ks acs N hb,x.kill=ks++iks/\XgR σ st k ks iks (X0v p.1 con.backA)/\X27 (RdT σ st.rows M) acs p.1/\M.le N/\(con.leans=true->N=M)/\Xv7 w σ k ks iks (X0v p.1 con.backA) rows p.1 acs con.backA hb/\
  Calls P n (XxM σ k++vs).toArray w (Ret P con w N hb (k.map σ.box) acs x.i x.a):=by
 obtain⟨cv,ks,hcv,hks,hun,hkill,hnd,hnone⟩:=f.vals;obtain⟨a1,a2⟩:=X67 hks;obtain⟨b1,b2⟩:=Xju f.back;have hotOf:∀{cs:List X02} {own:List (Nat×TypeId)} {ks:List Nat},(∀j e,(j,e)∈own->∃c x,cs[j]?=some c/\Xcb rows c=some x/\∀r,x=some r->r∈ks)->(∀r∈ks,∃j e t,(j,e)∈own/\cs[j]?=some (.own t r))->∀r∈ks,X1G r st.rows:=λh1 h2 r hrk=>by
  obtain⟨j,e,t,hm,hc⟩:=h2 r hrk;obtain⟨c,y,hc',hh,_⟩:=h1 j e hm;rw[hc]at hc';cases hc';obtain⟨e',l,ver,z,hl⟩:=Xn5 hh;exact⟨_,_,_,_,_,_,hr r _ hl⟩
 have hH:XgR σ st k ks iks (X0v p.1 con.backA):=by
  refine⟨λr hrm=>?_,X8a hnd,λb hb=>by rw[(hk b hb).1];rfl,hik⟩;rcases Yaf.1 hrm with h1 | h1
  . exact hotOf a1 a2 r h1
  . rcases Yaf.1 h1 with h2 | h2
    . cases hk':k with
      | none=>rw[hik hk']at h2;cases h2
      | some b=>
        obtain⟨_,ic,_,hi,_,_⟩:=hk b hk';obtain⟨i1,i2⟩:=X67 hi;exact hotOf i1 i2 r h2
    . obtain⟨e',t',l',ver',z',hl'⟩:=b2 r h2;exact⟨_,_,_,_,_,_,hr r _ hl'⟩
 have hN:∃N:Mem,M.le N/\(∀ad v,N ad=some v->w.cell? ad=some v)/\(∀g∈Xo5 σ k ks iks (X0v p.1 con.backA),∀ad,ad.block=g->N ad=none)/\(con.leans=true->N=M)/\
  (con.leans=false->∀ad v,ad.block∉Xo5 σ k ks iks (X0v p.1 con.backA)->w.cell? ad=some v->N ad=some v):=by
  cases hl:con.leans with
  | true=>exact⟨M,Mem.le_refl M,hS.mem,λg hg=>hH.noM hS hg,λ_=>rfl,λh=>by cases h⟩
  | false=>
    refine⟨λad=>if ad.block∈Xo5 σ k ks iks (X0v p.1 con.backA) then none else w.cell? ad,λad v hv=>?_,λad v hv=>?_,λg hg ad had=>?_,λh=>(by cases h),λ_ ad v hn hv=>?_⟩
    . by_cases hm:ad.block∈Xo5 σ k ks iks (X0v p.1 con.backA)
      . have:=hH.noM hS hm ad rfl;rw[this]at hv;cases hv
      . simp only[Yae hm];exact hS.mem ad v hv
    . by_cases hm:ad.block∈Xo5 σ k ks iks (X0v p.1 con.backA)
      . simp only[Yah hm]at hv;cases hv
      . simp only[Yae hm]at hv;exact hv
    . have hm:ad.block∈Xo5 σ k ks iks (X0v p.1 con.backA):=by rw[had];exact hg
      simp only[Yah hm]
    . simp only[Yae hn];exact hv
 obtain⟨N,n1,n2,n3,n4,n5⟩:=hN;obtain⟨acs,c1,c2⟩:=Xn9 hS n1 hins hp (λk' hk' hs' ad u had hu=>by
  cases hl:con.leans with
  | true=>rw[(f.leans hl).2]at hk';cases hk'
  | false=>exact n5 hl ad u (by rw[had];exact hH.box_not hS hs' (λe=>f.kp k' e hk')) hu)
 have hcv':=Xgo hcv hun;have hrd:∀r,r∈X21 (Xai (con.ownA++con.backA) 0 p.1)->X1G r st.rows->(σ.mem r).le N:=λr hb hh=>by
  cases hl:con.leans with
  | true=>rw[(f.leans hl).1]at hb;cases hb
  | false=>
    intro ad u hu;obtain⟨e,t,l,ver,hole,z,hlk⟩:=hh;obtain⟨m1,m2,_⟩:=(hS.hotAt hlk).mem ad u hu;exact n5 hl ad u (hH.foot_not hS ⟨e,t,l,ver,hole,z,hlk⟩ (X8z hnone r hb) m2) m1
 have hdec:∀(j:Nat) (e:TypeId) (t:Ty) (l:List (El t)) (r ver:Nat) (q:Nat×Nat),(j,e)∈con.backA->p.1[j]?=some (.bor t l r ver (some q))->∃u e0 τ L z,acs[j]?=some u/\look r rows=some (.hot e0 τ L ver none z)/\Dec w τ (σ.row r) L q.1 q.2 t l u (σ.foot r) (X8K w σ rows p.1 acs j).1 (X8K w σ rows p.1 acs j).2.1 (X8K w σ rows p.1 acs j).2.2:=λj e t l r ver q hm hc=>by
  obtain⟨c,hc',hB⟩:=b1 j e hm;rw[hc]at hc';cases hc';rcases hB with⟨y,h1,_⟩ | ⟨t',l',r',ver',i',off',e0,τ,L,z,h1,h2,_⟩
  . cases h1
  . cases h1;obtain⟨u,hu,hrd'⟩:=c2.get hc;exact⟨u,e0,τ,L,z,hu,h2,Xl9 hS hr hc hu h2 hrd'⟩
 have hsl:(X98 con.backA (Xbn w σ rows p.1 acs)).Sublist (X56 σ (X0v p.1 con.backA)):=XnW con.backA λj e t l r ver q hm hc=>by
  obtain⟨u,e0,τ,L,z,_,_,hd⟩:=hdec j e t l r ver q hm hc;rw[hd.foot];exact(List.sublist_append_left _ _).trans (List.sublist_append_right _ _)
 have hblk:(X5B con (k.map σ.box) (Xbn w σ rows p.1 acs) (Xb1 σ bc)).Sublist (Xo5 σ k ks iks (X0v p.1 con.backA)):=by
  unfold X5B Xo5;rw[Xj5,Xba hks];refine List.Sublist.append ?_ (YcK hsl _);cases hk':k with
  | none=>exact List.Sublist.refl _
  | some b=>
    obtain⟨_,ic,_,hi,_,_⟩:=hk b hk';simp only[Ych];rw[X6a hi];exact List.Sublist.refl _
 have hown:XfZ w N (con.ownA++con.backA) acs (flat con.A x.a) (Xbn w σ rows p.1 acs):=by
  rw[<-hcv'];have hand1:∀(j:Nat) (c:X02) (y:Option Nat),p.1[j]?=some c->Xcb rows c=some y->∀u c',RdT σ st.rows M u c->Xlq rows c=some c'->∃t l,c'=.lst t l none/\X4Q w t u l (Xbn w σ rows p.1 acs j):=λj c y k1 k2 u c' hrd' h3=>
   Xlw hS hr k1 k2 (λt r e1=>by subst e1;simp only[Xbn,k1]) (λhn=>by
    unfold Xbn;rw[k1];cases c<;>first | rfl | skip
    . exact absurd rfl (hn _ _)
    . cases k2) hrd' h3
  refine Xna hS n1 hr c2 hcv (λj e hm=>?_) hrd;rcases Yaf.1 hm with h1 | h1
  . obtain⟨c,y,k1,k2,_⟩:=a1 j e h1;exact⟨c,k1,λu c' _=>hand1 j c y k1 k2 u c'⟩
  . obtain⟨c,k1,hB⟩:=b1 j e h1;rcases hB with⟨y,k2,_⟩ | ⟨t',l',r',ver',i',off',e0,τ,L,z,rfl,h2,_⟩
    . exact⟨c,k1,λu c' _=>hand1 j c y k1 k2 u c'⟩
    . refine⟨_,k1,λu c' hu hrd' h3=>?_⟩;have hd:=Xl9 hS hr k1 hu h2 hrd';simp only[Xlq,h2,beq_self_eq_true,Ydx,Yag]at h3;subst h3;refine⟨_,_,rfl,?_⟩;have:Xbn w σ rows p.1 acs j=(X8K w σ rows p.1 acs j).2.1:=by simp only[Xbn,k1]
      rw[this];exact hd.own
 have hHB:Xv7 w σ k ks iks (X0v p.1 con.backA) rows p.1 acs con.backA (X5B con (k.map σ.box) (Xbn w σ rows p.1 acs) (Xb1 σ bc)):=by
  refine⟨λg hg=>hblk.subset hg,λj e t l r ver q hm hc=>?_⟩;obtain⟨u,e0,τ,L,z,hu,hl,hd⟩:=hdec j e t l r ver q hm hc;have hrk:r∈X0v p.1 con.backA:=X62.2 ⟨j,e,hm,by simp only[XpP,hc]⟩;have hrh:X1G r st.rows:=⟨_,_,_,_,_,_,hr r _ hl⟩
  have hfn:=(hS.hotAt (hr r _ hl)).nodup;rw[hd.foot]at hfn;refine⟨u,e0,τ,L,z,hu,hl,hd,λg hg=>?_⟩;have hgf:g∈σ.foot r:=by
   rw[hd.foot];rcases Yaf.1 hg with h | h
   . exact Yaf.2 (.inl h)
   . exact Yaf.2 (.inr (Yaf.2 (.inr h)))
  refine⟨hgf,λhgb=>?_⟩;have hndk:=hH.nodup;have other:∀r'∈ks++(iks++X0v p.1 con.backA),r'≠r->g∉σ.foot r':=λr' hr' hne hg'=>hS.hot.apart r' r (hH.hot r' hr') hrh hne g hg' hgf;have kne:∀r'∈ks++iks,r'≠r:=λr' hr' e1=>by
   subst e1;rw[<-Yam,YaF]at hndk;exact hndk.2.2 _ hr' _ hrk rfl
  unfold X5B at hgb;rw[Xj5,Xba hks]at hgb;rcases Yaf.1 hgb with h1 | h1
  . cases hk':k with
    | none=>rw[hk']at h1;cases h1
    | some b=>
      obtain⟨hb,ic,_,hi,_,_⟩:=hk b hk';rw[hk']at h1;simp only[Ych]at h1;rcases Yak.1 h1 with h2 | h2
      . exact hS.hot.noBox r hrh b (by rw[hb];rfl) (h2▸hgf)
      . rw[X6a hi]at h2;obtain⟨r',m1,m2⟩:=X6x h2;exact other r' (by simp[m1]) (kne r' (by simp[m1])) m2
  . rcases Yaf.1 h1 with h2 | h2
    . obtain⟨r',m1,m2⟩:=X6x h2;exact other r' (by simp[m1]) (kne r' (by simp[m1])) m2
    . obtain⟨⟨j',e'⟩,m1,m2⟩:=Xcz.1 h2;obtain⟨r',hr',hg'⟩:∃r',XpP p.1 j'=some r'/\g∈σ.foot r':=by
       simp only[Xbn]at m2;split at m2
       . rename_i t0 r0 hc0;exact⟨r0,by simp only[XpP,hc0],m2⟩
       . rename_i t0 l0 r0 ver0 q0 hc0;obtain⟨u0,_,_,_,_,_,_,hd0⟩:=hdec j' e' t0 l0 r0 ver0 q0 m1 hc0;refine⟨r0,by simp only[XpP,hc0],?_⟩;rw[hd0.foot];exact Yaf.2 (.inr (Yaf.2 (.inl m2)))
       . cases m2
      have hr'k:r'∈X0v p.1 con.backA:=X62.2 ⟨j',e',m1,hr'⟩;by_cases hne:r'=r
      . subst hne;have hnb:(X0v p.1 con.backA).Nodup:=by
         rw[<-Yam,YaF]at hndk;exact hndk.2.1
        have hjj:=XhZ hnb hm m1 (by simp only[XpP,hc]) hr';subst hjj;have m3:g∈(X8K w σ rows p.1 acs j).2.1:=by simpa only[Xbn,hc] using m2
        obtain⟨f1,f2,f3⟩:=YaF.1 hfn;obtain⟨f4,f5,f6⟩:=YaF.1 f2;rcases Yaf.1 hg with h | h
        . exact f3 g h g (Yaf.2 (.inl m3)) rfl
        . exact f6 g m3 g h rfl
      . exact other r' (by simp[hr'k]) hne hg'
 refine⟨ks,acs,N,_,hkill,hH,c2,n1,n4,hHB,?_⟩;have:=hcon w N vs acs x.i x.a (Xbn w σ rows p.1 acs) (Xb1 σ bc) (k.map σ.box) n2 c1 hown (by rw[hio];cases k<;>rfl) (λg hg=>by
  cases hk':k with
  | none=>rw[hk']at hg;cases hg
  | some b=>
    rw[hk']at hg;cases hg;obtain⟨hb,ic,h1,h2,h3,h4⟩:=hk b hk';obtain⟨arr,E,h5,h6⟩:=hS.boxes b bc hb;refine⟨arr,E,h5,?_⟩;rw[<-Xgo h1 h3];obtain⟨i1,_⟩:=X67 h2;exact Xm8 hS n1 hr h6 h1 (λj e hm=>by obtain⟨c,y,k1,k2,_⟩:=i1 j e hm;exact⟨c,y,k1,k2⟩) (λr hb=>by rw[h4]at hb;cases hb)) ((hH.blkNodup hS).sublist hblk) (λg hg=>n3 g (hblk.subset hg)) hpre
 cases k with
 | none=>exact this
 | some b=>exact this
theorem Xmx{A B:Mem}(h:A.le B){ad:Addr}(hb:B ad=none):A ad=none:=by
 cases ha:A ad with
 | none=>rfl
 | some v=>have:=h ad v ha;rw[hb]at this;cases this
theorem XqY{rows:List (Nat×X0L)}{cs:List X02}{acs:List Value}{own:List (Nat×TypeId)}{bs:List X02}{br:List (Nat×X0L)}{FB:Nat->List Nat}{w':World}{M' M2:Mem}{hb:List Nat}(hS:Sim P base M0 ios σ M w a st)(hr:∀r rv,look r rows=some rv->look r st.rows=some rv)(hH:XgR σ st k ks iks (X0v cs own))(hB:Xv7 w σ k ks iks (X0v cs own) rows cs acs own hb)(hacs:X27 (RdT σ st.rows M) acs cs)(hle:M.le M2)(hle':M2.le M')(hmem:∀ad v,M' ad=some v->w'.cell? ad=some v)(hold:∀ad,ad.block<w.heap.size->ad.block∉hb->M ad=none->M2 ad=none)(hfr:Fr hb w w')(hbx:∀b,k=some b->(∃arr E,w'.heap[σ.box b]?=some (.cells arr E (0,0))/\∀u∈arr.toList,u.oneCell'=true)/\∀ad,ad.block=σ.box b->M' ad=none)(hback:Back w' own acs bs FB)(hbr:X8r rows cs own bs=some br)(hnd:(X98 own FB).Nodup)(hall:∀g∈X98 own FB,(w.heap.size<=g\/(g∈hb/\k.map σ.box≠some g))/\g<w'.heap.size/\∀ad,ad.block=g->M' ad=none):
 ∃σ2,Xyx P base σ σ2 M M2 w w' st br (ks++iks) (X56 σ (ks++(iks++X0v cs own))) k/\∀r,(look r br).isSome=true->∀g∈σ2.foot r,(∃j e,(j,e)∈own/\g∈FB j)\/(g∈σ.foot r/\X1G r st.rows/\g∉hb):=by
 obtain⟨s1,s2,s3⟩:=X7I (D:=X8K w σ rows cs acs) (FB:=FB) hbr;obtain⟨f1,f2⟩:=XeU hnd;have hinv:∀g,g∈hb->k.map σ.box≠some g->∃r∈ks++(iks++X0v cs own),g∈σ.foot r:=λg hg hne=>by
  rcases hH.mem.1 (hB.sub g hg) with⟨b,hb,e⟩ | h
  . rw[hb,e]at hne;exact absurd rfl hne
  . exact h
 have hback3:∀r,r∈ks++(iks++X0v cs own)->r∈ks++iks\/(look r br).isSome=true:=λr hrm=>by
  rw[<-Yam]at hrm;rcases Yaf.1 hrm with h | h
  . exact .inl h
  . exact .inr (s3 r h)
 have hbk:∀r,(look r br).isSome=true->∃j e fo,(j,e)∈own/\XpP cs j=some r/\look r (X7d cs (X8K w σ rows cs acs) FB own)=some fo/\X1G r st.rows/\fo.Nodup/\∀g∈fo,g∈FB j\/(g∈σ.foot r/\g∉hb):=λr hrs=>by
  obtain⟨rv,hrv⟩:=Yao.1 hrs;obtain⟨fo,m6,hba⟩:=s1 r rv hrv;cases hba with
  | @own i j e t0 e0 t' l' ver x z tag m1 m2 m3 m4=>
    have hm:=YbB m1;exact⟨j,e,_,hm,by simp only[XpP,m2],m6,⟨_,_,_,_,_,_,hr r _ m4⟩,f1 (j,e) hm,λg hg=>.inl hg⟩
  | @bor i j e t l0 e0 τ L L' l' ver ii off z tag m1 m2 m3 m4 m5=>
    have hm:=YbB m1;obtain⟨u,e1,τ1,L1,z1,q1,q2,q3,q4⟩:=hB.rest j e t l0 r ver (ii,off) hm m2;rw[m4]at q2;cases q2;have hfn:=(hS.hotAt (hr r _ m4)).nodup;rw[q3.foot]at hfn;obtain⟨n1,n2,n3⟩:=YaF.1 hfn;obtain⟨n4,n5,n6⟩:=YaF.1 n2;have apart:∀g∈FB j,g∉(X8K w σ rows cs acs j).1++(X8K w σ rows cs acs j).2.2:=λg hg hg'=>by
     obtain⟨k1,k2⟩:=q4 g hg';obtain⟨c1,_,_⟩:=hall g (Xcz.2 ⟨(j,e),hm,hg⟩);rcases c1 with c1 | ⟨c1,_⟩
     . have:=hS.hot.lt r ⟨_,_,_,_,_,_,hr r _ m4⟩ g k1;omega
     . exact k2 c1
    refine⟨j,e,_,hm,by simp only[XpP,m2],m6,⟨_,_,_,_,_,_,hr r _ m4⟩,?_,λg hg=>?_⟩
    . rw[YaF];refine⟨n1,?_,λx hx y hy e1=>?_⟩
      . rw[YaF];exact⟨f1 (j,e) hm,n5,λx hx y hy e1=>by subst e1;exact apart x hx (Yaf.2 (.inr hy))⟩
      . subst e1;rcases Yaf.1 hy with h | h
        . exact apart x h (Yaf.2 (.inl hx))
        . exact n3 x hx x (Yaf.2 (.inr h)) rfl
    . rcases Yaf.1 hg with h | h
      . exact .inr (q4 g (Yaf.2 (.inl h)))
      . rcases Yaf.1 h with h | h
        . exact .inl h
        . exact .inr (q4 g (Yaf.2 (.inr h)))
 have hbkk:∀r,(look r br).isSome=true->r∈X0v cs own:=λr hrs=>by
  obtain⟨j,e,_,m1,m2,_⟩:=hbk r hrs;exact X62.2 ⟨j,e,m1,m2⟩
 let σ2:Sg:={σ with foot:=λr=>match look r (X7d cs (X8K w σ rows cs acs) FB own) with | some fo=>fo | none=>σ.foot r,mem:=λr=>match look r br with | some (.hot _ t _ _ _ _)=>XeS w' t (σ.row r) (match look r (X7d cs (X8K w σ rows cs acs) FB own) with | some fo=>fo | none=>σ.foot r) | _=>σ.mem r}
 have hfoot:∀r fo,look r (X7d cs (X8K w σ rows cs acs) FB own)=some fo->σ2.foot r=fo:=λr fo h=>by show(match look r (X7d cs (X8K w σ rows cs acs) FB own) with | some fo=>fo | none=>σ.foot r)=fo;rw[h]
 have hnot:∀r,X1G r st.rows->∀g∈σ.foot r,g∉hb->∀ad,ad.block=g->M2 ad=none:=λr hh g hg hn ad had=>by
  refine hold ad ?_ (by rw[had];exact hn) (hS.hot.noM r hh g hg ad had);rw[had];exact hS.hot.lt r hh g hg
 refine⟨σ2,{
  le:=hle
  mem:=λad v hv=>hmem ad v (hle' ad v hv)
  sbox:=rfl
  srow:=rfl
  sfoot:=λr hrn=>by
   have h1:look r (X7d cs (X8K w σ rows cs acs) FB own)=none:=by
    have:=s2 r;rw[hrn]at this;cases hx:look r (X7d cs (X8K w σ rows cs acs) FB own) with
    | none=>rfl
    | some y=>rw[hx]at this;cases this
   exact⟨by show(match look r (X7d cs (X8K w σ rows cs acs) FB own) with | some fo=>fo | none=>σ.foot r)=_;rw[h1],by show(match look r br with | some (.hot _ t _ _ _ _)=>_ | _=>σ.mem r)=_;rw[hrn]⟩
  size:=hfr.size
  os:=hfr.os
  tape:=hfr.tape
  output:=hfr.output
  keep:=λg hg hn hbn=>hfr.block g hg λhm=>by
   rcases hH.mem.1 (hB.sub g hm) with⟨b,hb',e⟩ | ⟨r,hr1,hr2⟩
   . exact hbn b hb' e
   . exact hn (Xez hr1 hr2)
  hold:=λad h1 h2 h3=>by
   by_cases hm:ad.block∈hb
   . rcases hH.mem.1 (hB.sub _ hm) with⟨b,hb',e⟩ | ⟨r,hr1,hr2⟩
     . exact Xmx hle' ((hbx b hb').2 ad e)
     . exact absurd (Xez hr1 hr2) h2
   . exact hold ad h1 hm h3
  touched:=λg hg=>by
   obtain⟨r,h1,h2⟩:=X6x hg;exact⟨r,hH.hot r h1,h2,hback3 r h1⟩
  bx:=λb hb=>⟨hH.box b hb,(hbx b hb).1⟩
  updOk:=λr rv hrv=>by
   have hrs:(look r br).isSome=true:=by rw[hrv];rfl
   obtain⟨fo,m6,hba⟩:=s1 r rv hrv;have hkb:=hbkk r hrs;have hh:=hH.hot r (by simp[hkb]);have hkn:r∉ks++iks:=λhm=>by
    have:=hH.nodup;rw[<-Yam,YaF]at this;exact this.2.2 r hm r hkb rfl
   obtain⟨_,_,fo',_,_,m6',_,hfn,_⟩:=hbk r hrs;rw[m6]at m6';cases m6';have hf2:σ2.foot r=fo:=hfoot r _ m6;cases hba with
   | @own i j e t0 e0 t' l' ver x z tag m1 m2 m3 m4=>
     refine⟨hkn,hh,e0,t',l',ver+1,none,false,rfl,?_⟩;have m4':=hr r _ m4;have hok:=hS.hotAt m4';obtain⟨u,t,l,q1,q2,q3⟩:=hback.own i j e m1;rw[m3]at q2;cases q2;obtain⟨u',hu',hrd⟩:=hacs.get m2;rw[q1]at hu';cases hu';have hu:u=σ.row r:=hrd.2 (by rw[m4'];rfl);subst hu;have hm2:σ2.mem r=XeS w' t' (σ.row r) (FB j):=by
      show(match look r br with | some (.hot _ t _ _ _ _)=>_ | _=>σ.mem r)=_;rw[hrv];simp only[m6]
     exact {
      info:=hok.info
      pos:=hok.pos
      own:=by show X4Q w' t' (σ.row r) l' (σ2.foot r);rw[hf2];exact q3
      nodup:=by rw[hf2];exact hfn
      mem:=λad u hu=>by rw[hm2]at hu;rw[hf2];exact Xel hu
      full:=λ_ ad u h1 h2 h3=>by rw[hf2]at h1;rw[hm2,XgH h1 h2];exact h3
      z:=λh=>by cases h}
   | @bor i j e t l0 e0 τ L L' l' ver ii off z tag m1 m2 m3 m4 m5=>
     refine⟨hkn,hh,e0,τ,L',ver+1,none,false,rfl,?_⟩;have m4':=hr r _ m4;have hok:=hS.hotAt m4';have hm:=YbB m1;obtain⟨u0,e1,τ1,L1,z1,q1',q2',q3',q4'⟩:=hB.rest j e t l0 r ver (ii,off) hm m2;rw[m4]at q2';cases q2';obtain⟨u,t2,l,q1,q2,q3⟩:=hback.own i j e m1;rw[m3]at q2;cases q2;rw[q1']at q1;cases q1;have hm2:σ2.mem r=XeS w' τ (σ.row r) ((X8K w σ rows cs acs j).1++(FB j++(X8K w σ rows cs acs j).2.2)):=by
      show(match look r br with | some (.hot _ t _ _ _ _)=>_ | _=>σ.mem r)=_;rw[hrv];simp only[m6]
     exact {
      info:=hok.info
      pos:=hok.pos
      own:=by
       show X4Q w' τ (σ.row r) L' (σ2.foot r);rw[hf2];exact q3'.back w' l' (FB j) L' (λg hg=>hfr.block g (hS.hot.lt r hh g (q4' g hg).1) (q4' g hg).2) q3 m5
      nodup:=by rw[hf2];exact hfn
      mem:=λad u hu=>by rw[hm2]at hu;rw[hf2];exact Xel hu
      full:=λ_ ad u h1 h2 h3=>by rw[hf2]at h1;rw[hm2,XgH h1 h2];exact h3
      z:=λh=>by cases h}
  foot:=λr hrs g hg=>by
   obtain⟨j,e,fo,m1,m2,m3,m4,m5,m6⟩:=hbk r hrs;rw[hfoot r _ m3]at hg;rcases m6 g hg with h | ⟨h1,h2⟩
   . obtain⟨q1,q2,q3⟩:=hall g (Xcz.2 ⟨(j,e),m1,h⟩);refine⟨q2,λad had=>Xmx hle' (q3 ad had),?_⟩;rcases q1 with q1 | ⟨q1,q4⟩
     . exact .inl q1
     . obtain⟨r0,h1,h2⟩:=hinv g q1 q4;exact .inr ⟨r0,hH.hot r0 h1,h2,hback3 r0 h1⟩
   . exact⟨Ybe (hS.hot.lt r m4 g h1) hfr.size,hnot r m4 g h1 h2,.inr ⟨r,m4,h1,.inr hrs⟩⟩
  apart:=λr r' h1 h2 hne g hg hg'=>by
   obtain⟨j,e,fo,m1,m2,m3,m4,m5,m6⟩:=hbk r h1;obtain⟨j',e',fo',m1',m2',m3',m4',m5',m6'⟩:=hbk r' h2;rw[hfoot r _ m3]at hg;rw[hfoot r' _ m3']at hg';have mixed:∀(r:Nat) (j:Nat) (e:TypeId),(j,e)∈own->X1G r st.rows->g∈FB j->g∈σ.foot r->g∉hb->False:=λr j e hm hh q1 q2 q3=>by
    obtain⟨c1,_,_⟩:=hall g (Xcz.2 ⟨(j,e),hm,q1⟩);rcases c1 with c1 | ⟨c1,_⟩
    . have:=hS.hot.lt r hh g q2;omega
    . exact q3 c1
   rcases m6 g hg with q | ⟨q1,q2⟩<;>rcases m6' g hg' with q' | ⟨q1',q2'⟩
   . refine f2 (j,e) m1 (j',e') m1' (λej=>?_) g q q';have ej':j=j':=ej;subst ej';rw[m2]at m2';cases m2';exact hne rfl
   . exact mixed r' j e m1 m4' q q1' q2'
   . exact mixed r j' e' m1' m4 q' q1 q2
   . exact hS.hot.apart r r' m4 m4' hne g q1 q1'},λr hrs g hg=>?_⟩
 obtain⟨j,e,fo,m1,m2,m3,m4,m5,m6⟩:=hbk r hrs;rw[hfoot r _ m3]at hg;rcases m6 g hg with h | ⟨h1,h2⟩
 . exact .inl ⟨j,e,m1,h⟩
 . exact .inr ⟨h1,m4,h2⟩
theorem Xou{r:Nat}{w':World}{upd:List (Nat×X0L)}{ks':List Nat}(h:noTag r st=true)(hu:∀r,(look r upd).isSome=true->(look r st.rows).isSome=true):noTag r {st with rows:=X0A upd ks' st.rows,boxes:=X5H w' σ k st.boxes}=true:=by
 have h0:=XdA h;unfold noTag at h ⊢;rw[Yac,Yac]at h ⊢;refine⟨⟨h.1.1,?_⟩,?_⟩
 . cases k with
   | none=>exact h.1.2
   | some b=>
     simp only[X5H,X6z,Yac];refine⟨?_,h.1.2⟩;unfold XmW;have:∀n,XcV (Xku n)=[]:=λn=>by
      unfold Xku
      induction n with
      | zero=>rfl
      | succ n ih=>rw[Ybx];exact ih
     rw[this];rfl
 . have:look r (X0A upd ks' st.rows)=none:=by
    cases hl:look r (X0A upd ks' st.rows) with
    | none=>rfl
    | some rv=>
      rcases(X4y hl).2 with h1 | ⟨_,h1⟩
      . have:=hu r (by rw[h1];rfl);rw[h0]at this;cases this
      . rw[h0]at h1;cases h1
   simp[this]
theorem XkL{σ':Sg}{rows:List (Nat×X0L)}:∀{shs:List (Bool×Nat)} {rs cs:List Value} {cvs:List X02},Xdf shs rs cs->X27 (RdT σ' rows M) cs cvs->X27 (X0Y σ' rows M) rs (XpA shs cvs)
 | _,_,_,_,.nil,_=>.nil
 | _,_,_,cvs,.cons (ag:=ag) (n:=n) (v:=v) (cs:=cs) hn ha hr,h=>by
   simp only[XpA];have hlen:v.cells.toList.length=n:=by rw[Yaq];exact hn
   have h1:=h.take n;have h2:=h.drop n;rw[<-hlen]at h1 h2;rw[Ybl]at h1;rw[Ya4]at h2;rw[hlen]at h1 h2;exact .cons ⟨h1,ha⟩ (XkL hr h2)
theorem Xqm{σ':Sg}{rows:List (Nat×X0L)}{boxes:List (Nat×List X02)}{rs:List Value}{l:List (Bool×List X02)}(h:X27 (X0Y σ' rows M) rs l):X44 σ' rows boxes M (XgJ rs) (XvX l):=by
 cases h with
 | nil=>exact⟨#[],rfl,.nil⟩
 | cons hx hr=>
   cases hr with
   | nil=>exact hx
   | cons hy hr'=>exact⟨_,rfl,by simpa using .cons hx (.cons hy hr')⟩
def Xvh:X02->Bool
 | .lst ..=>true
 | _=>false
theorem Xfh:∀(t:Ty) (x y:El t),(flat t x).map Xvh=(flat t y).map Xvh
 | .int _,_,_=>rfl
 | .bool,_,_=>rfl
 | .str,_,_=>rfl
 | .list _,_,_=>rfl
 | .unit,_,_=>rfl
 | .pair a b,x,y=>by simp[flat,Xfh a x.1 y.1,Xfh b x.2 y.2]
theorem Xf1{fr:List (Nat×TypeId)}:∀{cs ds:List X02} (i:Nat),cs.map Xvh=ds.map Xvh->Xcq fr i cs=Xcq fr i ds
 | [],[],i,_=>rfl
 | [],_::_,i,h=>by simp at h
 | _::_,[],i,h=>by simp at h
 | c::cs,d::ds,i,h=>by
   simp only[Yas,Ycr]at h;have ih:=Xf1 (fr:=fr) (i+1) h.2;cases c<;>cases d<;>simp[Xvh]at h<;>simp[Xcq,ih]
theorem XhT{fr:List (Nat×TypeId)}:∀{cs:List X02} (i j:Nat) {c:X02},Xcq fr i cs=false->cs[j]?=some c->look (i+j) fr=none->Xvh c=false
 | [],i,j,c,_,h,_=>by simp at h
 | d::cs,i,0,c,hl,h,hn=>by
   simp at h;subst h;rw[Ya6]at hn;cases d<;>first | rfl | simp[Xcq,hn]at hl
 | d::cs,i,j+1,c,hl,h,hn=>by
   simp at h;have:Xcq fr (i+1) cs=false:=by
    cases d<;>simp only[Xcq,Ycz]at hl<;>first | exact hl.2 | exact hl
   exact XhT (i+1) j this h (by rw[<-hn];congr 1;omega)
theorem RdV.mem{N:Mem}{v:Value}{c:X02}(h:RdV M v c)(hl:Xvh c=false):RdV N v c:=by
 cases c<;>first | exact h | simp[Xvh]at hl
theorem Xvr{key:Nat->Nat}{fr:List (Nat×TypeId)}{F:Nat->List Nat}{u:Value}{t:Ty}{l:List (El t)}{tag:Option Nat}{e:TypeId}:∀{vs:List Value} {cs:List X02} (i j:Nat),vs[j]?=some u->cs[j]?=some (.lst t l tag)->look (i+j) fr=some e->∃x∈mkD key fr F i vs cs,x.key=key (i+j)/\x.v=u
 | [],_,i,j,h,_,_=>by simp at h
 | _::_,[],i,j,_,h,_=>by simp at h
 | u0::vs,c::cs,i,0,hu,hc,hl=>by
   simp at hu hc;subst hu;subst hc;rw[Ya6]at hl;simp only[mkD,hl];exact⟨_,Ycs,rfl,rfl⟩
 | u0::vs,c::cs,i,j+1,hu,hc,hl=>by
   simp at hu hc;obtain⟨x,h1,h2,h3⟩:=Xvr (key:=key) (fr:=fr) (F:=F) (i+1) j hu hc (by rw[<-hl];congr 1;omega);have h2':x.key=key (i+(j+1)):=by rw[h2];congr 1;omega
   refine⟨x,?_,h2',h3⟩;cases c<;>simp only[mkD]<;>first | exact h1 | skip
   split
   . exact Yan _ h1
   . exact h1
theorem Xpl{key:Nat->Nat}{fr:List (Nat×TypeId)}{F:Nat->List Nat}{vs:List Value}{cs:List X02}(h:XfZ w M fr vs cs F)(he:Xmy P fr cs)(hn:(X98 fr F).Nodup){x:Xgc}(hx:x∈mkD key fr F 0 vs cs):
 X4Q w x.t x.v x.l x.fo/\(∃i,P.info? x.e=some i/\i.size=size x.t)/\0<size x.t/\x.fo.Nodup/\(∃j,x.key=key j/\(look j fr).isSome=true/\x.fo=F j):=by
 obtain⟨j,tag,h1,h2,h3,h4,h5⟩:=Xmp 0 hx;rw[YaU]at h3 h4 h5;obtain⟨u,t,l,k1,k2,k3⟩:=h.own j _ h3;rw[h1]at k1;cases k1;rw[h2]at k2;injection k2 with k2;injection k2 with e1 e2 e3;have hel:=he j _ h3 _ _ _ h2;refine⟨?_,hel.1,hel.2,by rw[h5];exact(XeU hn).1 (j,x.e) (X3O h3),j,h4,by rw[h3];rfl,h5⟩;rw[h5];have gen:∀(t':Ty) (l':List (El t')),t'=t->HEq l' l->X4Q w t' x.v l' (F j):=λt' l' e1 e2=>by
  subst e1;cases e2;exact k3
 exact gen _ _ e1 e2
theorem Xbd{fr:List (Nat×TypeId)}{F:Nat->List Nat}{j g:Nat}(h:(look j fr).isSome=true)(hg:g∈F j):g∈X98 fr F:=by
 obtain⟨e,he⟩:=Yao.1 h;exact Xcz.2 ⟨(j,e),X3O he,hg⟩
theorem Xfr{fr:List (Nat×TypeId)}{F:Nat->List Nat}(hn:(X98 fr F).Nodup){i j:Nat}(hi:(look i fr).isSome=true)(hj:(look j fr).isSome=true)(hne:i≠j):∀g∈F i,g∉F j:=by
 obtain⟨e,he⟩:=Yao.1 hi;obtain⟨e',he'⟩:=Yao.1 hj;exact(XeU hn).2 (i,e) (X3O he) (j,e') (X3O he') hne
theorem Xmq{t:Ty}{x:El t}{key:Nat->Nat}{fr:List (Nat×TypeId)}{F:Nat->List Nat}{σ':Sg}{rows:List (Nat×X0L)}{vs:List Value}{M':Mem}(h:XfZ w M' fr vs (flat t x) F)(hM:Xcq fr 0 (flat t x)=false\/M=M')(hk:∀y∈mkD key fr F 0 vs (flat t x),σ'.row y.key=y.v):X27 (RdT σ' rows M) vs (Xew key fr 0 (flat t x)):=by
 have hrd:∀(j:Nat) (u:Value) (c:X02),look (0+j) fr=none->vs[j]?=some u->(flat t x)[j]?=some c->RdV M u c:=λj u c hl hu hc=>by
  have hl':look j fr=none:=by rw[<-hl];congr 1;omega
  have h0:=h.rd j u c hl' hu hc;rcases hM with h1 | h1
  . exact h0.mem (XhT 0 j h1 hc hl)
  . rw[h1];exact h0
 refine XmN (F:=F) 0 h.len (Xdt t x) hrd (λj u c hnl hu hc=>?_) (λj e hl u t' l hu hc=>?_)
 . cases hl:look (0+j) fr with
   | none=>exact hrd j u c hl hu hc
   | some e=>
     rw[YaU]at hl;obtain⟨u',t',l,_,k2,_⟩:=h.own j e hl;rw[hc]at k2;cases k2;exact absurd rfl (hnl _ _ _)
 . obtain⟨y,h1,h2,h3⟩:=Xvr (key:=key) (F:=F) 0 j hu hc hl;refine⟨h.one u (YbB hu),?_⟩;rw[<-h2,hk y h1,h3]
def ioD(d:Nat)(con:Con)(k:Option Nat)(FI:Nat->List Nat)(ivs:List Value)(i:El con.I):List Xgc:=match k with
 | some _=>mkD (XkF d) con.ownI FI 0 ivs (flat con.I i)
 | none=>[]
theorem XuM{d:Nat}{con:Con}{FI:Nat->List Nat}{ivs:List Value}{i:El con.I}(h:∀b,k=some b->ivs.length=(flat con.I i).length):(ioD d con k FI ivs i).map Xgc.row=(match k with | some _=>X6C (XkF d) con.ownI 0 (flat con.I i) | none=>[]):=by
 cases k with
 | none=>rfl
 | some b=>exact Xgh 0 (h b rfl)
theorem XkI{con:Con}{rows:List (Nat×X0L)}{p:List X02×List Nat}{x:XvV con}{acs:List Value}{N:Mem}{d:Nat}{e:Ending}{w':World}{hb:List Nat}(hS:Sim P base M0 ios σ M w a st)(hr:∀r rv,look r rows=some rv->look r st.rows=some rv)(hH:XgR σ st k ks iks (X0v p.1 con.backA))(hkill:x.kill=ks++iks)(hxk:x.k=k)(hxr:x.rows=rows)(hxc:x.cs=p.1)(hacs:X27 (RdT σ st.rows M) acs p.1)(hMN:M.le N)(hNl:con.leans=true->N=M)(hHB:Xv7 w σ k ks iks (X0v p.1 con.backA) rows p.1 acs con.backA hb)(hd:o.dst=some d)(hdn:d<st.nt)(hio:con.io=k.isSome)(hnew:(con.newR&&con.io)=false)(hret:Ret P con w N hb (k.map σ.box) acs x.i x.a e w')(hgo:∀y,con.Post x.i x.a y->∃br,X8r x.rows x.cs con.backA (flat con.B y.2.2)=some br/\X3y (X3z con d x y br) (some d) st=true/\X7O P base M0 ios a o st (X3z con d x y br) next):
 ∃v,e=.returned v/\next (a.put o.dst v) w':=by
 obtain⟨rs,y,cs',M',FR,FI,FB,nb,he,hpost,hle,hm,hf,hhold,hnr,hfresh,hbox,hback,hel1,hel2,hnd,hall⟩:=hret.ex;obtain⟨br,hbr,hfe,hgoes⟩:=hgo y hpost;rw[hxr,hxc]at hbr;refine⟨XgJ rs,he,?_⟩;have hMM':=Mem.le_trans hMN hle;obtain⟨M2,hle2,hle2',hhold2,hlean⟩:∃M2:Mem,M.le M2/\M2.le M'/\(∀ad,ad.block<w.heap.size->ad.block∉hb->M ad=none->M2 ad=none)/\(con.leans=false\/M2=M'):=by
  cases hl:con.leans with
  | true=>
    have:=hNl hl;exact⟨M',hMM',Mem.le_refl _,λad h1 h2 h3=>hhold ad h1 h2 (by rw[this];exact h3),.inr rfl⟩
  | false=>exact⟨M,Mem.le_refl _,hMM',λad h1 h2 h3=>h3,.inl rfl⟩
 obtain⟨ivs,hiv⟩:∃ivs:List Value,∀b,k=some b->∃arr E,w'.heap[σ.box b]?=some (.cells arr E (0,0))/\arr.toList=ivs/\XfZ w' M' con.ownI ivs (flat con.I y.2.1) FI/\∀ad,ad.block=σ.box b->M' ad=none:=by
  cases k with
  | none=>exact⟨[],λb hb=>by cases hb⟩
  | some b=>
    obtain⟨arr,E,h1,h2,h3⟩:=hbox (σ.box b) rfl;exact⟨arr.toList,λb' hb'=>by cases hb';exact⟨arr,E,h1,rfl,h2,h3⟩⟩
 obtain⟨bi,hbiS,hnd,hall⟩:∃bi,(∀b,k=some b->bi=X98 con.ownI FI)/\(nb++(X98 con.fresh FR++(bi++X98 con.backA FB))).Nodup/\∀g∈nb++(X98 con.fresh FR++(bi++X98 con.backA FB)),(w.heap.size<=g\/(g∈hb/\k.map σ.box≠some g))/\g<w'.heap.size/\∀ad,ad.block=g->M' ad=none:=by
  cases k with
  | none=>exact⟨[],λb hb=>(by cases hb),hnd,hall⟩
  | some b=>exact⟨_,λb hb=>rfl,hnd,hall⟩
 obtain⟨nd1,nd2,nd3⟩:=YaF.1 hnd;obtain⟨nd4,nd5,nd6⟩:=YaF.1 nd2;obtain⟨nd7,nd8,nd9⟩:=YaF.1 nd5;obtain⟨σ2,hst,hσ2⟩:=XqY hS hr hH hHB hacs hle2 hle2' hm hhold2 hf (λb hb=>by
  obtain⟨arr,E,h1,h2,h3,h4⟩:=hiv b hb;exact⟨⟨arr,E,h1,by rw[h2];exact h3.one⟩,h4⟩) hback hbr nd8 (λg hg=>hall g (by simp[hg]))
 unfold X3y at hfe;simp only[Yac]at hfe;obtain⟨⟨⟨hfb,hft⟩,hfv⟩,hfn⟩:=hfe;have hS2:=hS.stepC hst hfv;have hbrs:∀r,(look r br).isSome=true->(look r st.rows).isSome=true:=λr hrs=>by
  obtain⟨rv,hrv⟩:=Yao.1 hrs;obtain⟨_,⟨_,_,_,_,_,_,h⟩,_⟩:=hst.updOk r rv hrv;rw[h];rfl
 have hfree:∀g∈nb++(X98 con.fresh FR++(bi++X98 con.backA FB)),g∉X98 con.backA FB->XmA base ios σ2 M2 w' {st with rows:=X0A br (ks++iks) st.rows,boxes:=X5H w' σ k st.boxes} g:=λg hg hnb=>by
  obtain⟨q1,q2,q3⟩:=hall g hg;have hq:w.heap.size<=g\/∃r∈ks++(iks++X0v p.1 con.backA),g∈σ.foot r:=by
   rcases q1 with q1 | ⟨q1,q4⟩
   . exact .inl q1
   . rcases hH.mem.1 (hHB.sub g q1) with⟨b,hb,e1⟩ | h
     . rw[hb,e1]at q4;exact absurd rfl q4
     . exact .inr h
  have hbs:∀k',(look k' (X5H w' σ k st.boxes)).isSome=(st.box k').isSome:=Xq5 hH.box;exact {
   base:=by
    rcases hq with h | ⟨r,h1,h2⟩
    . exact .inl (YaW hS.fr.size h)
    . exact hS.hot.base r (hH.hot r h1) g h2
   noM:=λad had=>Xmx hle2' (q3 ad had)
   noBox:=λk' hk' e1=>by
    have hk2:(st.box k').isSome=true:=by rw[<-hbs k'];exact hk'
    rw[hst.sbox]at e1;rcases hq with h | ⟨r,h1,h2⟩
    . have:=hS.box_lt hk2;omega
    . exact hS.hot.noBox r (hH.hot r h1) k' hk2 (e1▸h2)
   noRow:=λr' hr' e1=>by
    obtain⟨e',he'⟩:=Yao.1 hr';obtain⟨rv,h3,h4⟩:=X6w he';have hr2:(st.row r').isSome=true:=by
     rcases(X4y h3).2 with h5 | ⟨_,h5⟩
     . obtain⟨_,_,e2,t2,l2,v2,ho2,z2,e3,_⟩:=hst.updOk r' rv h5;rw[e3]at h4;cases h4
     . rw[show st.row r'=some e' from X9T h5 h4];rfl
    rw[hst.srow]at e1;rcases hq with h | ⟨r,h1,h2⟩
    . have:=(hS.row_lt hr2 e1).2;omega
    . exact hS.hot.noRow r (hH.hot r h1) r' hr2 g e1 h2
   noHot:=λr hrh hgr=>by
    obtain⟨e2,t2,l2,v2,ho2,z2,hl⟩:=hrh;obtain⟨hn,h3⟩:=X4y hl;rcases h3 with h3 | ⟨h3,h4⟩
    . rcases hσ2 r (by rw[h3];rfl) g hgr with⟨j,e3,m1,m2⟩ | ⟨m1,m2,m3⟩
      . exact hnb (Xcz.2 ⟨(j,e3),m1,m2⟩)
      . rcases q1 with q1 | ⟨q1,_⟩
        . have:=hS.hot.lt r m2 g m1;omega
        . exact m3 q1
    . rw[(hst.sfoot r h3).1]at hgr;have hrh:X1G r st.rows:=⟨_,_,_,_,_,_,h4⟩
      rcases hq with h | ⟨r0,h1,h2⟩
      . have:=hS.hot.lt r hrh g hgr;omega
      . refine hS.hot.apart r0 r (hH.hot r0 h1) hrh (λe1=>?_) g h2 hgr;subst e1;rw[<-Yam]at h1;rcases Yaf.1 h1 with h5 | h5
        . exact hn h5
        . obtain⟨_,_,s3⟩:=X7I (D:=X8K w σ rows p.1 acs) (FB:=FB) hbr;have:=s3 r0 h5;rw[h3]at this;cases this
   lt:=q2}
 have hD1:=λx hx=>Xpl (key:=X0J d) (x:=x) hfresh hel1 nd4 hx;have hD2:∀x∈ioD d con k FI ivs y.2.1,X4Q w' x.t x.v x.l x.fo/\(∃i,P.info? x.e=some i/\i.size=size x.t)/\0<size x.t/\x.fo.Nodup/\(∃j,x.key=XkF d j/\(look j con.ownI).isSome=true/\x.fo=FI j)/\∃b,k=some b:=λx hx=>by
  cases hk:k with
  | none=>rw[hk]at hx;cases hx
  | some b=>
    rw[hk]at hx;obtain⟨_,_,_,_,h3,_⟩:=hiv b hk;obtain⟨k1,k2,k3,k4,k5⟩:=Xpl (key:=XkF d) h3 hel2 (by rw[<-hbiS b hk];exact nd7) hx;exact⟨k1,k2,k3,k4,k5,b,rfl⟩
 have hiv':∀b,k=some b->ivs.length=(flat con.I y.2.1).length:=λb hb=>by obtain⟨_,_,_,_,h3,_⟩:=hiv b hb;exact h3.len
 have hrows:(mkD (X0J d) con.fresh FR 0 cs' (flat con.R y.1)++ioD d con k FI ivs y.2.1).map Xgc.row=(X3z con d x y br).nrow:=by
  rw[Ya8,Xgh 0 hfresh.len,XuM hiv'];show _=X6C (X0J d) con.fresh 0 (flat con.R y.1)++(match x.k with | some _=>X6C (XkF d) con.ownI 0 (flat con.I y.2.1) | none=>[])
  rw[hxk];cases k<;>rfl
 have hkeys:(mkD (X0J d) con.fresh FR 0 cs' (flat con.R y.1)++ioD d con k FI ivs y.2.1).map (·.key)=(X3z con d x y br).nrow.map (·.1):=by
  rw[<-hrows,Ydr];rfl
 have hin:∀x∈mkD (X0J d) con.fresh FR 0 cs' (flat con.R y.1)++ioD d con k FI ivs y.2.1,∀g∈x.fo,g∈X98 con.fresh FR\/((∃b,k=some b)/\g∈bi):=λx hx g hg=>by
  rcases Yaf.1 hx with h | h
  . obtain⟨_,_,_,_,j,_,h1,h2⟩:=hD1 x h;exact .inl (Xbd h1 (h2▸hg))
  . obtain⟨_,_,_,_,⟨j,_,h1,h2⟩,b,hb⟩:=hD2 x h;exact .inr ⟨⟨b,hb⟩,by rw[hbiS b hb];exact Xbd h1 (h2▸hg)⟩
 obtain⟨σ3,hS3,r1,r2,r3⟩:=Sim.addHots (mkD (X0J d) con.fresh FR 0 cs' (flat con.R y.1)++ioD d con k FI ivs y.2.1) hS2 (λq hq0=>by
  have htag:noTag q.key st=true:=by
   have:Xgc.row q∈(X3z con d x y br).nrow:=by rw[<-hrows];exact YaN.2 ⟨q,hq0,rfl⟩
   exact XqR hft this
  have hodd:q.key % 2=1:=by
   rcases Yaf.1 hq0 with h | h
   . obtain⟨_,_,_,_,j,h1,_⟩:=hD1 q h;rw[h1];exact XdC d j
   . obtain⟨_,_,_,_,⟨j,h1,_⟩,_⟩:=hD2 q h;rw[h1];exact Xtm d j
  have hmore:X4Q w' q.t q.v q.l q.fo/\(∃i,P.info? q.e=some i/\i.size=size q.t)/\0<size q.t/\q.fo.Nodup:=by
   rcases Yaf.1 hq0 with h | h
   . obtain⟨k1,k2,k3,k4,_⟩:=hD1 q h;exact⟨k1,k2,k3,k4⟩
   . obtain⟨k1,k2,k3,k4,_⟩:=hD2 q h;exact⟨k1,k2,k3,k4⟩
  refine⟨Xou htag hbrs,hodd,hmore.1,hmore.2.1,hmore.2.2.1,hmore.2.2.2,λg hg=>?_⟩;rcases hin q hq0 g hg with h | ⟨_,h⟩
  . exact hfree g (by simp[h]) (λh2=>nd6 g h g (by simp[h2]) rfl)
  . exact hfree g (by simp[h]) (λh2=>nd9 g h g h2 rfl)) (by rw[hkeys];exact X8a hfn) (λx hx z hz hne g hg hg'=>by
    rcases Yaf.1 hx with h | h<;>rcases Yaf.1 hz with h' | h'
    . obtain⟨_,_,_,_,j,q1,q2,q3⟩:=hD1 x h;obtain⟨_,_,_,_,j',q1',q2',q3'⟩:=hD1 z h';exact Xfr nd4 q2 q2' (λe1=>hne (by rw[q1,q1',e1])) g (q3▸hg) (q3'▸hg')
    . obtain⟨_,_,_,_,j,q1,q2,q3⟩:=hD1 x h;obtain⟨_,_,_,_,⟨j',q1',q2',q3'⟩,b,hb⟩:=hD2 z h';exact nd6 g (Xbd q2 (q3▸hg)) g (Yaf.2 (.inl (by rw[hbiS b hb];exact Xbd q2' (q3'▸hg')))) rfl
    . obtain⟨_,_,_,_,⟨j,q1,q2,q3⟩,b,hb⟩:=hD2 x h;obtain⟨_,_,_,_,j',q1',q2',q3'⟩:=hD1 z h';exact nd6 g (Xbd q2' (q3'▸hg')) g (Yaf.2 (.inl (by rw[hbiS b hb];exact Xbd q2 (q3▸hg)))) rfl
    . obtain⟨_,_,_,_,⟨j,q1,q2,q3⟩,b,hb⟩:=hD2 x h;obtain⟨_,_,_,_,⟨j',q1',q2',q3'⟩,_⟩:=hD2 z h';exact Xfr (by rw[<-hbiS b hb];exact nd7) q2 q2' (λe1=>hne (by rw[q1,q1',e1])) g (q3▸hg) (q3'▸hg'))
 rw[hrows]at hS3;have hlR:Xcq con.fresh 0 (flat con.R y.1)=false\/M2=M':=hlean.imp (λh=>by
  unfold Con.leans at h;rw[Ycz]at h;rw[Xf1 0 (Xfh con.R y.1 (dfl con.R))];exact h.1) id
 have hlI:Xcq con.ownI 0 (flat con.I y.2.1)=false\/M2=M':=hlean.imp (λh=>by
  unfold Con.leans at h;rw[Ycz]at h;rw[Xf1 0 (Xfh con.I y.2.1 (dfl con.I))];exact h.2) id
 have hrR:∀rows',X27 (RdT σ3 rows' M2) cs' (Xew (X0J d) con.fresh 0 (flat con.R y.1)):=λrows'=>Xmq hfresh hlR λz hz=>(r1 z (Yaf.2 (.inl hz))).1;unfold X7O at hgoes;cases hnewR:con.newR with
 | false=>
   rw[hnewR]at hnr;obtain⟨hnb,hres⟩:=hnr;have hsv:X44 σ3 ((X3z con d x y br).nrow++X0A br (ks++iks) st.rows) (X5H w' σ k st.boxes) M2 (XgJ rs) (X3z con d x y br).sv:=by
    simp only[X3z,hnewR];exact Xqm (XkL hres (hrR _))
   have hS4:=hS3.put (d:=d) hdn hsv;cases hk:k with
   | none=>
     subst hk;refine hgoes _ σ3 M2 w' ?_;rw[hd]at*;refine Sim.ext ?_ hS4;refine⟨rfl,λi=>rfl,λk'=>?_,λr=>?_,λi=>Yc8⟩
     . simp only[St.box,St.put,Eff.apply,X3z,hnewR,hxk,X5H]
     . simp only[St.rowv,St.put,Eff.apply,X5J];rw[show(X3z con d x y br).urow=br from rfl,show(X3z con d x y br).krow=x.kill from rfl,hkill]
   | some b=>
     subst hk;obtain⟨arr,E,i1,i2,i3,i4⟩:=hiv b rfl;have hsb:σ3.box b=σ.box b:=by rw[r3,hst.sbox]
     have hS5:=hS4.setBox (k:=b) (ds:=Xew (XkF d) con.ownI 0 (flat con.I y.2.1)) (by simp[St.box,St.put,X5H,X08]) (λarr' E' ha=>by
      rw[hsb,i1]at ha;cases ha;rw[i2];exact Xmq i3 hlI λz hz=>(r1 z (Yaf.2 (.inr hz))).1)
     refine hgoes _ σ3 M2 w' ?_;rw[hd]at*;refine Sim.ext ?_ hS5;refine⟨rfl,λi=>rfl,λk'=>?_,λr=>?_,λi=>Yc8⟩
     . simp only[St.box,St.put,Eff.apply,X3z,hnewR,hxk,X5H,X08];split
       . rfl
       . rfl
     . simp only[St.rowv,St.put,Eff.apply,X5J];rw[show(X3z con d x y br).urow=br from rfl,show(X3z con d x y br).krow=x.kill from rfl,hkill]
 | true=>
   rw[hnewR]at hnr hnew;have hk:k=none:=by
    cases k with
    | none=>rfl
    | some b=>rw[hio]at hnew;cases hnew
   subst hk;obtain⟨g,arr,E,hnb,hrs,hg,harr,hgs⟩:=hnr;subst hnb;have hgn:g∉X98 con.fresh FR++(bi++X98 con.backA FB):=λh=>nd3 g (by simp) g h rfl;have hf2:=hfree g (by simp) (λh=>hgn (by simp[h]));have hf3:XmA base ios σ3 M2 w' {st with rows:=(X3z con d x y br).nrow++X0A br (ks++iks) st.rows,boxes:=X5H w' σ none st.boxes} g:={
    base:=hf2.base
    noM:=hf2.noM
    noBox:=λk' hk'=>by rw[r3];exact hf2.noBox k' hk'
    noRow:=λr hrs' e1=>by
     have hS3r:=hS3.row_lt hrs' e1;obtain⟨e',he'⟩:=Yao.1 hrs';obtain⟨rv,h3,h4⟩:=X6w he';have h3':look r ((X3z con d x y br).nrow++X0A br (ks++iks) st.rows)=some rv:=h3;rw[X5v]at h3';cases hl:look r (X3z con d x y br).nrow with
     | some rv'=>
       rw[hl]at h3';cases h3';have:=X3O hl;rw[<-hrows]at this;obtain⟨z,_,e3⟩:=YaN.1 this;simp only[Xgc.row,Yaa]at e3;rw[<-e3.2]at h4;cases h4
     | none=>
       rw[hl]at h3';have hrn:r∉(mkD (X0J d) con.fresh FR 0 cs' (flat con.R y.1)++ioD d con none FI ivs y.2.1).map (·.key):=λhm=>by
        rw[hkeys]at hm;obtain⟨q,hq,e3⟩:=YaN.1 hm;have:(look r (X3z con d x y br).nrow).isSome=true:=Xhw.2 ⟨q.2,by rw[<-e3];exact hq⟩;rw[hl]at this;cases this
       rw[(r2 r hrn).1]at e1;exact hf2.noRow r (by show(X8M r (X0A br (ks++iks) st.rows)).isSome=true;rw[show X8M r (X0A br (ks++iks) st.rows)=some e' from X9T h3' h4];rfl) e1
    noHot:=λr hrh hgr=>by
     by_cases hm:r∈(mkD (X0J d) con.fresh FR 0 cs' (flat con.R y.1)++ioD d con none FI ivs y.2.1).map (·.key)
     . obtain⟨z,hz,e3⟩:=YaN.1 hm;rw[<-e3,(r1 z hz).2]at hgr;rcases hin z hz g hgr with h | ⟨⟨b,hb⟩,_⟩
       . exact hgn (by simp[h])
       . cases hb
     . rw[(r2 r hm).2]at hgr;obtain⟨e2,t2,l2,v2,ho2,z2,hl⟩:=hrh;have hl':look r ((X3z con d x y br).nrow++X0A br (ks++iks) st.rows)=some (.hot e2 t2 l2 v2 ho2 z2):=hl;rw[X5v]at hl';cases hq:look r (X3z con d x y br).nrow with
       | some rv'=>
         refine hm ?_;rw[hkeys];exact YaN.2 ⟨_,X3O hq,rfl⟩
       | none=>
         rw[hq]at hl';exact hf2.noHot r ⟨_,_,_,_,_,_,hl'⟩ hgr
    lt:=hf2.lt}
   have hfb':noBox (d+1) st=true:=by
    simp only[X3z,hnewR]at hfb;exact hfb
   have hS4:=hS3.adoptBox (d:=d+1) (by omega) hfb' hg hf3 (by rw[harr];exact hrR _);have hS5:=hS4.put (d:=d) (v:=XgJ rs) (sv:=.box (d+1) 0) hdn ⟨by rw[hrs];simp[XgJ,Addr.add],by rw[X08,Yah rfl];rfl⟩;refine hgoes _ {σ3 with box:=λk=>if k=d+1 then g else σ3.box k} M2 w' ?_;rw[hd]at*;refine Sim.ext ?_ hS5;refine⟨rfl,λi=>?_,λk'=>?_,λr=>?_,λi=>Yc8⟩
   . simp only[St.get,St.put,Eff.apply,X3z,hnewR]
   . simp only[St.box,St.put,Eff.apply,X3z,hnewR,hxk,X5H]
   . simp only[St.rowv,St.put,Eff.apply,X5J];rw[show(X3z con d x y br).urow=br from rfl,show(X3z con d x y br).krow=x.kill from rfl,hkill]
def FnOk(P:Program)(n:FuncId):Prop:=∃fn,P.funcs[n]?=some fn/\(fn.name== "runtime.NumGoroutine")=false/\fn.body.isNone=false
def XfO(P:Program)(Γ:Gam):Prop:=(∀n con,Γ.con n=some con->FnOk P n/\X0h P n con)/\Xv6 P Γ.eqs
theorem XrP{n:FuncId}(hf:FnOk P n){f:Operand}{xs:Array Operand}{ts:Array TypeId}{va vb:Array Value}(ho:o.op=.call {callee:=.value f,args:=xs,argTypes:=ts})(hv:a.eval f=.func (.func n) va vb):
 (execOp a.eval o).run P w=.ok (.enter n ((va++xs.map a.eval)++vb)) w:=by
 obtain⟨fn,h1,h2,h3⟩:=hf;have h2':fn.name≠ "runtime.NumGoroutine":=by simpa using h2
 have h3':fn.body≠none:=by intro e;rw[e]at h3;simp at h3
 simp[execOp,ho,resolve,hv,Deferred.ofValue,invoke,callFunc,h1,h2',h3',program,Sem.run]
theorem XlC(hS:Sim P base M0 ios σ M w a st):∀(l:List Operand),X27 (λv i=>Xgt σ st M v i) (l.map a.eval) (l.map (X3x st))
 | []=>.nil
 | y::l=>.cons (X4u hS y) (XlC hS l)
theorem XsS(hS:Sim P base M0 ios σ M w a st){f:Operand}{n:Nat}{first caps:List Cap}(h:(X3x st f).sv=.fn n first caps):∃va vb,a.eval f=.func (.func n) va vb/\X27 (λv i=>Xgt σ st M v i) va.toList (first.map (X55.capIn (X3x st f)))/\X27 (λv i=>Xgt σ st M v i) vb.toList (caps.map (X55.capIn (X3x st f))):=by
 have hr:=(X4u hS f).rep;rw[h]at hr;obtain⟨va,vb,hv,h1,h2⟩:=hr;refine⟨va,vb,hv,?_⟩;have one:∀(l:List Cap) (vs:List Value),(∀c∈l,c∈first++caps)->X27 (Xdq σ st.rows st.boxes M) vs l->X27 (λv i=>Xgt σ st M v i) vs (l.map (X55.capIn (X3x st f))):=λl vs hm hl=>by
  induction hl with
  | nil=>exact .nil
  | @cons v c vs l hx hr ih=>
    refine .cons ?_ (ih λc hc=>hm c (Yan _ hc));have hc:=hm c (by simp);cases f with
    | tmp t=>
      have h':Xd2 _ (st.get t)=.fn n first caps:=h
      have hg:st.get t=.fn n first caps:=by
       cases hgt:st.get t<;>rw[hgt]at h'<;>simp only[Xd2]at h'<;>first | (cases h';done) | (cases h';rfl) | skip
       split at h'
       . rw[YbU]at h';split at h'<;>cases h'
       . cases h'
      exact Xgt.capIn (sv:=st.get t) (by rw[hg];exact hc) hS hx
    | const v=>exfalso;have h':XfY v=.fn n first caps:=h;unfold XfY at h';split at h'<;>cases h'
    | func g=>have h':Sv.fn g [] []=.fn n first caps:=h;cases h';cases hc
    | global g=>have h':Sv.und=.fn n first caps:=h;cases h'
 exact⟨one first _ (λc hc=>by simp[hc]) h1,one caps _ (λc hc=>by simp[hc]) h2⟩
theorem X27.append'{α β:Type}{R:α->β->Prop}{as as':List α}{bs bs':List β}(h:X27 R as bs)(h':X27 R as' bs'):X27 R (as++as') (bs++bs'):=by
 induction h with
 | nil=>exact h'
 | cons x _ ih=>exact .cons x ih
theorem Xr8(hΓ:XfO P Γ)(hS:Sim P base M0 ios σ M w a st)(hd:∀d,o.dst=some d->d<st.nt){con:Con}{ts:List TypeId}{xs:List In}(hc:X55 Γ o (o.op.operands.toList.map (X3x st))=some (con,ts,xs)){K:Eff->Prop}(h:Xgf tab con o ts xs st K)(hn:∀e,K e->X3y e o.dst st=true->X7O P base M0 ios a o st e next):o.wp P a w next Q:=by
 unfold Xgf at h;split at h
 . rename_i d x hdst hx hnew;obtain⟨hpre,hpost⟩:=h;unfold X55 at hc;split at hc
   . rename_i c f xs' hop hins;obtain⟨callee,cargs,cts⟩:=c;cases callee with
     | value fo=>
       have he:o.op.operands.toList=fo::cargs.toList:=by rw[hop];simp[Op.operands,Call.operands]
       rw[he,Yas]at hins;simp only[Ycr]at hins;obtain⟨hf,hxs⟩:=hins;subst hf;subst hxs;simp only at hc;split at hc
       . rename_i n first caps hsv
         split at hc
         . rename_i con' hg;cases hc;obtain⟨hfn,hcon⟩:=hΓ.1 n con hg;obtain⟨va,vb,hv,h1,h2⟩:=XsS hS hsv;have hins:=h1.append' ((XlC hS cargs.toList).append' h2);have hrows:=Xey hins;have hgo:∀(y:El con.R×(El con.I×El con.B)),con.Post x.i x.a y->∃br,X8r x.rows x.cs con.backA (flat con.B y.2.2)=some br/\X3y (X3z con d x y br) (some d) st=true/\X7O P base M0 ios a o st (X3z con d x y br) next:=λy hy=>by
            have h3:=hpost y hy;split at h3
            . rename_i br hbr;split at h3
              . rename_i hfr;exact⟨br,hbr,hfr,hn _ h3 (by rw[hdst];exact hfr)⟩
              . exact h3.elim
            . exact h3.elim
           unfold Oper.wp;rw[XrP hfn hop hv,Oper.upon_enter];have hargs:((va++cargs.map a.eval)++vb)=(va.toList++(cargs.toList.map a.eval++vb.toList)).toArray:=by apply Yb4;simp
           rw[hargs];rcases XlR hx with⟨hio,p,hp,hf⟩ | ⟨hio,x0,xs1,t0,ts',k,bc,ic,iks,p,hx1,ht1,hsv0,hbx0,hic,hik,hp,hui,hbor,hf⟩
           . obtain⟨ks,acs,N,hb,e1,hH,hacs,hMN,hNl,hHB,hcall⟩:=Xlt (k:=none) (iks:=[]) (bc:=[]) hS hrows hins hp hf (by rw[hio];rfl) (λ_=>rfl) (λb hb=>by cases hb) hcon hpre;refine Calls.mono hcall ?_;intro e w' hret;obtain⟨v,hev,hnx⟩:=XkI hS hrows hH e1 hf.k hf.rows hf.cs hacs hMN hNl hHB hdst (hd d hdst) (by rw[hio];rfl) hnew hret hgo;subst hev;exact hnx
           . rw[hx1]at hins;rw[ht1]at hx;generalize hvl:va.toList++(cargs.toList.map a.eval++vb.toList)=vals at hins ⊢;cases hins with
             | @cons v0 _ vs _ hy hrest=>
               have hrep0:=hy.rep;rw[hsv0]at hrep0;have hb0:st.box k=some bc:=by rw[<-hy.box k 0 (.inl hsv0)];exact hbx0
               have hv0:v0=.pointer (some ⟨σ.box k,0,none⟩):=by rw[hrep0.1];simp[Addr.add]
               rw[hx1]at hf hrows hic hik;obtain⟨ks,acs,N,hb,e1,hH,hacs,hMN,hNl,hHB,hcall⟩:=Xlt (k:=some k) (iks:=iks) (bc:=bc) hS hrows hrest hp hf (by rw[hio];rfl) (λh=>by cases h) (λb hb=>by cases hb;exact⟨hb0,ic,hic,hik,hui,hbor⟩) hcon hpre;rw[hv0];refine Calls.mono hcall ?_;intro e w' hret;obtain⟨v,hev,hnx⟩:=XkI hS hrows hH e1 hf.k hf.rows hf.cs hacs hMN hNl hHB hdst (hd d hdst) (by rw[hio];rfl) hnew hret hgo;subst hev;exact hnx
         . cases hc
       . cases hc
     | _=>cases hc
   . cases hc
 . exact h.elim
theorem XuD(hT:X1E P tab)(hS:Sim P base M0 ios σ M w a st){t tf:TypeId}{ti tif:TI}{x:Operand}{f off:Nat}{cs:List X02}(ho:o.op=.field t x f)(hd:∀d,o.dst=some d->d<st.nt)(h:look t tab=some ti)(hg:ti.agg=true)(hf:ti.fields[f]?=some (off,tf))(htf:look tf tab=some tif)(hx:X44 σ st.rows st.boxes M (a.eval x) (.val true cs))(hl:off+size tif.ty<=cs.length)(hag:tif.agg=true\/size tif.ty=1)(hn:X7O P base M0 ios a o st {sv:=.val tif.agg ((cs.drop off).take (size tif.ty))} next):o.wp P a w next Q:=by
 obtain⟨vs,hv,hc⟩:=X0Y.agg hx;obtain⟨fs,hfs,hm,_⟩:=Xh2 hT h hg;rw[<-hm,Ycj]at hf;cases hxf:fs.toList[f]? with
 | none=>rw[hxf]at hf;simp at hf
 | some fl=>
   rw[hxf]at hf;simp only[Ych,Yag,Yaa]at hf;obtain⟨hof,hty⟩:=hf;have hx':fs[f]?=some fl:=by simpa using hxf
   have hcl:=(hc.drop off).take (size tif.ty);have hlen:=hc.length;have hsz:vs.toList.length=vs.size:=Yaq;rw[hsz]at hlen;cases hga:tif.agg with
   | true=>
     refine X1a (v:=.agg (vs.extract off (off+size tif.ty))) (w':=w) ?_ (hn _ σ M w (hS.putO hd ?_))
     . simp[execOp,ho,hv,Instr.field,run_underlying hfs,hx',asAgg,part,hty,hof,XiY hT htf,hga,X5X hT htf]
     . rw[hga];refine⟨?_,rfl⟩;simp only[Value.cells,Array.toList_extract,List.extract_eq_take_drop,YbY];exact hcl
   | false=>
     have hs1:size tif.ty=1:=by rw[hga]at hag;simpa using hag
     have hlt:off<vs.size:=by omega
     refine X1a (v:=vs[off]) (w':=w) ?_ (hn _ σ M w (hS.putO hd ?_))
     . simp[execOp,ho,hv,Instr.field,run_underlying hfs,hx',asAgg,part,hty,hof,XiY hT htf,hga,Array.getElem?_eq_getElem hlt]
     . rw[hga];rw[hs1]at hcl ⊢;have e1:(vs.toList.drop off).take 1=[vs[off]]:=by
        rw[YbD (by simpa using hlt)];simp
       rw[e1]at hcl;cases hd':(cs.drop off).take 1 with
       | nil=>rw[hd']at hcl;cases hcl
       | cons c r=>
         rw[hd']at hcl;cases hcl with
         | cons hx1 hr1=>cases hr1;exact X0Y.mk1 hx1 (by have:=hx1.1.oneCell;cases h:vs[off]<;>rw[h]at this<;>simp[Xb2,Value.oneCell']at this ⊢)
theorem Xqu(hS:Sim P base M0 ios σ M w a st){x:Operand}{i:Nat}{l:List (Bool×List X02)}{p:Bool×List X02}(ho:o.op=.extract x i)(hd:∀d,o.dst=some d->d<st.nt)(hx:X44 σ st.rows st.boxes M (a.eval x) (.tup l))(hl:l[i]?=some p)(hn:X7O P base M0 ios a o st {sv:=.val p.1 p.2} next):o.wp P a w next Q:=by
 obtain⟨vs,hv,h⟩:=hx;obtain⟨v,hvi,hr⟩:=h.get hl;refine X1a (v:=v) (w':=w) ?_ (hn _ σ M w (hS.putO hd hr));have:vs[i]?=some v:=by simpa using hvi
 simp[execOp,ho,hv,Instr.extract,this]
theorem bsize(s:List UInt8):(⟨s.toArray⟩:ByteArray).size=s.length:=by simp[ByteArray.size]
theorem XqM(hT:X1E P tab)(hS:Sim P base M0 ios σ M w a st){t e:TypeId}{fs:List (Nat×TypeId)}{b:Nat}{x:Operand}{s:List UInt8}(ho:o.op=.call {callee:=.builtin .len,args:=#[x],argTypes:=#[t]})(hd:∀d,o.dst=some d->d<st.nt)(h:look t tab=some ⟨.str,false,fs,e,b⟩)(hx:X44 σ st.rows st.boxes M (a.eval x) (.val false [.str s]))(hn:X7O P base M0 ios a o st {sv:=.val false [.int .i64 s.length]} next):o.wp P a w next Q:=by
 have hv:=(X0Y.one hx).str;refine X1a (v:=.int .i64 s.length) (w':=w) ?_ (hn _ σ M w (hS.putO hd (X8D _ _)));have hu:=XoG hT h;simp[execOp,ho,resolve,invoke,builtin,Builtin.len_,hv,run_underlying hu,goInt,bsize]
theorem XkD(hT:X1E P tab)(hS:Sim P base M0 ios σ M w a st){s t e:TypeId}{k k':IntKind}{fs:List (Nat×TypeId)}{b:Nat}{x:Operand}{n:Int}{ts:TI}(ho:o.op=.convert s t x)(hd:∀d,o.dst=some d->d<st.nt)(h:look t tab=some ⟨.int k,false,fs,e,b⟩)(hs:look s tab=some ts)(hx:X44 σ st.rows st.boxes M (a.eval x) (.val false [.int k' n]))(hn:X7O P base M0 ios a o st {sv:=.val false [.int k (k.wrap n)]} next):o.wp P a w next Q:=by
 have hv:=(X0Y.one hx).int;refine X1a (v:=.int k (k.wrap n)) (w':=w) ?_ (hn _ σ M w (hS.putO hd (X8D _ _)));obtain⟨d1,hd1⟩:=Xuk hT hs;simp[execOp,ho,hv,convert,run_underlying hd1,run_underlying (Xww hT h),Conv.intToInt]
theorem Xeg{rows:List (Nat×X0L)}{boxes:List (Nat×List X02)}{v:Value}{sv:Sv}{t:TypeId}{cs:List X02}(h:X44 σ rows boxes M v sv)(hc:XaY tab t sv=some cs):X27 (RdT σ rows M) v.cells.toList cs:=by
 have ht:=Xc1 (tab:=tab) t h;unfold XaY at hc;split at hc
 . rename_i ag cs' he;cases hc;rw[he]at ht;exact ht.1
 . cases hc
theorem XpX{parts:List (Nat×Operand)}(hS:Sim P base M0 ios σ M w a st){f:Nat->Option TypeId}:∀{ps:List (Nat×List X02)},
 (((parts.map (·.1)).zip ((parts.map (·.2)).map (X3x st))).mapM λp=>(f p.1).bind λt=>(XaY tab t p.2.sv).bind λcs=>some (p.1,cs))=some ps->
 X27 (fun(p:Nat×Value) (q:Nat×List X02)=>p.1=q.1/\X27 (RdT σ st.rows M) p.2.cells.toList q.2) (parts.map λp=>(p.1,a.eval p.2)) ps:=by
 induction parts with
 | nil=>intro ps h;simp at h;subst h;exact .nil
 | cons p parts ih=>
   intro ps h;simp only[Yas,Ybp,Ycy,Option.bind_eq_bind,Option.pure_def,Ybi]at h;obtain⟨q,⟨t,ht,cs,hc,e⟩,qs,hq,e2⟩:=h;cases e;cases e2;exact .cons ⟨rfl,Xeg (X4u hS p.2).rep hc⟩ (ih hq)
theorem XfF(parts:Array (Nat×Operand)):(parts.toList.map (·.2)).toArray.toList=parts.toList.map (·.2):=by simp
theorem XbQ(hS:Sim P base M0 ios σ M w a st){y:Operand}{n:Int}(h:intOf? (X3x st y)=some n):∃k,a.eval y=.int k n:=by
 have hr:=(X4u hS y).rep;unfold intOf? at h;split at h
 . rename_i k m hsv;rw[hsv]at hr;cases h;exact⟨k,(X0Y.one hr).int⟩
 . cases h
theorem Xnd(hT:X1E P tab)(hS:Sim P base M0 ios σ M w a st){t e0:TypeId}{ti te:TI}{τ0 τ:Ty}{x:Operand}{lo hi:Option Operand}{l:List (El τ)}{r ver:Nat}{z:Bool}{n m:Option Int}{kl kh:IntKind}(ho:o.op=.slice t x lo hi none)(hd:∀d,o.dst=some d->d<st.nt)(h:look t tab=some ti)(hty:ti.ty=.list τ0)(hg:ti.agg=false)(he:look ti.elem tab=some te)(hs:size te.ty=size τ)(hr:look r st.rows=some (.hot e0 τ l ver none z))(hx:a.eval x=σ.row r)(hlo:lo.map a.eval=n.map (Value.int kl))(hhi:hi.map a.eval=m.map (Value.int kh))(hps:∀p∈(X5n τ l n m).1,p)(hn:X7O P base M0 ios a o st {sv:=.val false [.sub τ r (X5n τ l n m).2.2.1 (X5n τ l n m).2.2.2]} next):o.wp P a w next Q:=by
 obtain⟨k1,k2,k3,k4,_,k6⟩:=Xak hps;have hok:=hS.hotAt hr;obtain⟨ad,cap,hv,hc,hm⟩:=X4Q.slice (show X4Q w τ (σ.row r) l (σ.foot r) from hok.own);refine X1a (X9c (τ:=τ) hT ho h hty hg he hs (by rw[hx];exact hv) hlo hhi k1 k2 k3 k4 hc) (hn _ σ M w (hS.putO hd (X0Y.mk1 ⟨rfl,λ_=>?_⟩ rfl)));rw[k6];exact⟨ad,_,cap,_,hv,k3,k4,rfl,λhlt=>by rw[Yae (by omega)]⟩
theorem Xmk(hT:X1E P tab)(hS:Sim P base M0 ios σ M w a st){t e0:TypeId}{ti te:TI}{τ0 τ:Ty}{x:Operand}{lo hi:Option Operand}{l:List (El τ)}{d r ver:Nat}{z:Bool}{n m:Option Int}{kl kh:IntKind}(ho:o.op=.slice t x lo hi none)(hd:o.dst=some d)(hdn:d<st.nt)(h:look t tab=some ti)(hty:ti.ty=.list τ0)(hg:ti.agg=false)(he:look ti.elem tab=some te)(hs:size te.ty=size τ)(hr:look r st.rows=some (.hot e0 τ l ver none z))(hx:a.eval x=σ.row r)(hlo:lo.map a.eval=n.map (Value.int kl))(hhi:hi.map a.eval=m.map (Value.int kh))(hps:∀p∈(X5n τ l n m).1,p)(hfr:noTag (X0J d 0) st=true)(hn:X7O P base M0 ios a o st {sv:=.val false [.own τ (X0J d 0)],nrow:=[(X0J d 0,.hot e0 τ (X5n τ l n m).2.1 0 none false)],krow:=[r]} next):o.wp P a w next Q:=by
 obtain⟨k1,k2,k3,k4,k5,k6⟩:=Xak hps;have hok:=hS.hotAt hr;have hown:X4Q w τ (σ.row r) l (σ.foot r):=hok.own;obtain⟨ad,cap,hv,hc,hm⟩:=X4Q.slice hown;obtain⟨bs',p1,p2,p3⟩:=X4Q.piece hown hok.nodup hv k3 k4;refine X1a (X9c (τ:=τ) hT ho h hty hg he hs (by rw[hx];exact hv) hlo hhi k1 k2 k3 k4 hc) ?_;refine Xgz (S:=[]) (fo:=bs') (e:=e0) (t:=τ) (z:=false) (ks:=[r]) hS hd hdn (YaC _) rfl rfl rfl (λ_ _ _=>rfl) (λg hg=>by cases hg) (λg hg=>⟨X1v.lt p1 g hg,.inr ⟨r,by simp,⟨_,_,_,_,_,_,hr⟩,p3 g hg⟩⟩) hok.info hok.pos (by rw[k5];exact p1) p2 (λh=>by cases h) hfr hn
theorem Xnp(hT:X1E P tab)(hS:Sim P base M0 ios σ M w a st){t e0:TypeId}{ti te:TI}{τ0 τ:Ty}{x:Operand}{lo hi:Option Operand}{l:List (El τ)}{r ver lo0 hi0:Nat}{z:Bool}{n m:Option Int}{kl kh:IntKind}(ho:o.op=.slice t x lo hi none)(hd:∀d,o.dst=some d->d<st.nt)(h:look t tab=some ti)(hty:ti.ty=.list τ0)(hg:ti.agg=false)(he:look ti.elem tab=some te)(hs:size te.ty=size τ)(hr:look r st.rows=some (.hot e0 τ l ver none z))(hx:Xkt τ (σ.row r) lo0 hi0 (a.eval x))(hlo:lo.map a.eval=n.map (Value.int kl))(hhi:hi.map a.eval=m.map (Value.int kh))(hps:∀p∈(X5n τ ((l.take hi0).drop lo0) n m).1,p)(hn:X7O P base M0 ios a o st {sv:=.val false [.sub τ r (lo0+(X5n τ ((l.take hi0).drop lo0) n m).2.2.1) (lo0+(X5n τ ((l.take hi0).drop lo0) n m).2.2.2)]} next):o.wp P a w next Q:=by
 obtain⟨k1,k2,k3,k4,_,k6⟩:=Xak hps;have hok:=hS.hotAt hr;obtain⟨ad,nn,cap,ad',hv,q1,q2,q3,q4⟩:=hx;obtain⟨hnn,hc⟩:=X4Q.cap (show X4Q w τ (σ.row r) l (σ.foot r) from hok.own) hv;have hlen:List.length ((l.take hi0).drop lo0)=hi0 - lo0:=by rw[Yap,Yal];omega
 rw[hlen]at k3 k4;refine X1a (X9c (τ:=τ) hT ho h hty hg he hs q3 hlo hhi k1 k2 k3 k4 (by omega)) (hn _ σ M w (hS.putO hd (X0Y.mk1 ⟨rfl,λ_=>?_⟩ rfl)));rw[k6,hlen];refine⟨ad,nn,cap,(if cap - lo0=Xcs n then ad' else ad'.map (·.add (Xcs n*size τ))),hv,by simp only;omega,by simp only;omega,?_,λhlt=>?_⟩
 . simp only
   congr 1
   . omega
   . omega
 . simp only at hlt ⊢;rw[Yae (by omega),q4 (by omega)];cases ad with
   | none=>rfl
   | some ad=>simp[Addr.add_add,Ya0]
theorem Xnx(hT:X1E P tab)(hS:Sim P base M0 ios σ M w a st){t:TypeId}{ti te:TI}{τ0 τ:Ty}{x:Operand}{lo hi:Option Operand}{l:List (El τ)}{r ver:Nat}{p:Option (Nat×Nat)}{n m:Option Int}{kl kh:IntKind}{rv:X0L}(ho:o.op=.slice t x lo hi none)(hd:∀d,o.dst=some d->d<st.nt)(h:look t tab=some ti)(hty:ti.ty=.list τ0)(hg:ti.agg=false)(he:look ti.elem tab=some te)(hs:size te.ty=size τ)(hr:look r st.rows=some rv)(hver:rv.ver?=some ver)(hx:RdT σ st.rows M (a.eval x) (.bor τ l r ver p))(hlo:lo.map a.eval=n.map (Value.int kl))(hhi:hi.map a.eval=m.map (Value.int kh))(hps:∀p∈(X5n τ l n m).1,p)(hn:X7O P base M0 ios a o st {sv:=.val false [.bor τ (X5n τ l n m).2.1 r ver none]} next):o.wp P a w next Q:=by
 obtain⟨k1,k2,k3,k4,k5,k6⟩:=Xak hps;obtain⟨hrd,_⟩:=hx.2 rv hr hver;have hrd':=hrd;obtain⟨ad,cap,hv,hc,hm,_⟩:=hrd';have hv':a.eval x=.slice ad (List.length l) cap:=YbX hv;refine X1a (X9c (τ:=τ) hT ho h hty hg he hs hv' hlo hhi k1 k2 k3 k4 hc) (hn _ σ M w (hS.putO hd (X0Y.mk1 ⟨rfl,λrv' hr' hver'=>⟨?_,λi off e=>by cases e⟩⟩ rfl)));rw[hv']at hrd;rw[k5];exact RdC.slice hrd k3 k4
theorem Xw8(hS:Sim P base M0 ios σ M w a st){x:Operand}{τ:Ty}{r:Nat}{rv:X0L}(hsv:(X3x st x).sv=.val false [.own τ r])(hl:look r (X3x st x).rows=some rv):look r st.rows=some rv/\a.eval x=σ.row r:=by
 have hx:=X4u (M:=M) hS x;have hr:=hx.rep;rw[hsv]at hr;have hl':=hx.rows r rv hl;exact⟨hl',(X0Y.one hr).2 (by rw[hl'];rfl)⟩
theorem Xwj(hS:Sim P base M0 ios σ M w a st){x:Operand}{τ:Ty}{r lo hi:Nat}{rv:X0L}(hsv:(X3x st x).sv=.val false [.sub τ r lo hi])(hl:look r (X3x st x).rows=some rv):look r st.rows=some rv/\Xkt τ (σ.row r) lo hi (a.eval x):=by
 have hx:=X4u (M:=M) hS x;have hr:=hx.rep;rw[hsv]at hr;have hl':=hx.rows r rv hl;exact⟨hl',(X0Y.one hr).2 (by rw[hl'];rfl)⟩
theorem X5g{τ:Ty}(l:List (El τ)):X97 rfl l=l:=rfl
theorem Xqy{τ:Ty}{tag:Option Nat}{rows:List (Nat×X0L)}{b:Option Int}{r:Nat}(h:Xxh τ tag rows b=some r):∃e L ver,tag=some r/\look r rows=some (.frz e τ L ver true)/\r≠0:=by
 unfold Xxh at h;split at h
 . rename_i r';split at h
   . rename_i e τ' L ver hl;split at h
     . rename_i hc;obtain⟨rfl,h0⟩:=hc;cases h;exact⟨e,L,ver,rfl,hl,h0⟩
     . cases h
   . cases h
 . cases h
theorem XlL(hT:X1E P tab)(hS:Sim P base M0 ios σ M w a st){t:TypeId}{ti te:TI}{τ0 τ:Ty}{x:Operand}{lo hi:Option Operand}{l:List (El τ)}{tag:Option Nat}{r:Nat}{n m:Option Int}{kl kh:IntKind}(ho:o.op=.slice t x lo hi none)(hd:∀d,o.dst=some d->d<st.nt)(h:look t tab=some ti)(hty:ti.ty=.list τ0)(hg:ti.agg=false)(he:look ti.elem tab=some te)(hs:size te.ty=size τ)(hx:X44 σ st.rows st.boxes M (a.eval x) (.val false [.lst τ l tag]))(hrow:a.eval x=σ.row r)(hlo:lo.map a.eval=n.map (Value.int kl))(hhi:hi.map a.eval=m.map (Value.int kh))(hps:∀p∈(X5n τ l n m).1,p)(hn:X7O P base M0 ios a o st {sv:=.val false [.sub τ r (X5n τ l n m).2.2.1 (X5n τ l n m).2.2.2]} next):o.wp P a w next Q:=by
 obtain⟨k1,k2,k3,k4,_,k6⟩:=Xak hps;have hx':=(X0Y.one hx).1;obtain⟨ad,cap,e,hc,hm,_⟩:=hx';have hv:a.eval x=.slice ad l.length cap:=YbX e;refine X1a (X9c (τ:=τ) hT ho h hty hg he hs hv hlo hhi k1 k2 k3 k4 hc) (hn _ σ M w (hS.putO hd (X0Y.mk1 ⟨rfl,λ_=>?_⟩ rfl)));rw[k6];exact⟨ad,_,cap,_,by rw[<-hrow];exact hv,k3,k4,rfl,λhlt=>by rw[Yae (by omega)]⟩
theorem XcK{t:TypeId}{ti:TI}{x:Operand}{lo hi:Option Operand}{n m:Option Int}{kl kh:IntKind}{ps:List Prop}{e:Eff}(hT:X1E P tab)(hS:Sim P base M0 ios σ M w a st)(hop:o.op=.slice t x lo hi none)(hd:∀d,o.dst=some d->d<st.nt)(ht:look t tab=some ti)(hlo:lo.map a.eval=n.map (Value.int kl))(hhi:hi.map a.eval=m.map (Value.int kh))(h:Xl3 tab Γ o ti (X3x st x) n m=some (ps,e))(hps:∀p∈ps,p)(hf:noTags st e.nrow=true)(hn:X7O P base M0 ios a o st e next):o.wp P a w next Q:=by
 have hr1:=(X4u (M:=M) hS x).rep;unfold Xl3 at h;split at h
 . rename_i s hsv hty hg;rw[hsv]at hr1;split at h<;>(simp only[Yag,Yaa]at h;obtain⟨rfl,rfl⟩:=h)
   . exact Xcg hT hS hop hd ht hty hg hr1 hlo hhi (λ_ e=>by cases e) (λ_ e=>by cases e) (by simp[Xcs]) (by simp[Xc7]) (by simpa [Xcs,Xc7] using hn)
   . rename_i j;have h0:0<=j:=hps _ (by simp);have h1:j<=s.length:=hps _ (by simp);exact Xcg hT hS hop hd ht hty hg hr1 hlo hhi (λ_ e=>by cases e;exact h0) (λ_ e=>by cases e) (by simp only[Xcs,Xc7];omega) (by simp[Xc7]) (by simpa [Xcs,Xc7] using hn)
   . rename_i j;have h0:0<=j:=hps _ (by simp);have h1:j<=s.length:=hps _ (by simp);exact Xcg hT hS hop hd ht hty hg hr1 hlo hhi (λ_ e=>by cases e) (λ_ e=>by cases e;exact h0) (by simp[Xcs]) (by simp only[Xc7];omega) (by simpa [Xcs,Xc7] using hn)
   . rename_i j j';have h0:0<=j:=hps _ (by simp);have h2:j<=j':=hps _ (by simp);have h1:j'<=s.length:=hps _ (by simp);exact Xcg hT hS hop hd ht hty hg hr1 hlo hhi (λ_ e=>by cases e;exact h0) (λ_ e=>by cases e;omega) (by simp only[Xcs,Xc7];omega) (by simp only[Xc7];omega) (by simpa [Xcs,Xc7] using hn)
 . rename_i τ l tag τ0 hsv hty hg;rw[hsv]at hr1;split at h
   . rename_i te he;split at h
     . rename_i hs;simp only at h;split at h
       . split at h
         . rename_i r htl;simp only[Yag,Yaa]at h;obtain⟨rfl,rfl⟩:=h;obtain⟨e',L,ver,h1,h2,h3⟩:=Xqy htl;have hl':=(X4u (M:=M) hS x).rows _ _ h2;have htg:=(X0Y.one hr1).2;subst h1;simp only[Xc8,Yae h3]at htg;exact XlL hT hS hop hd ht hty hg he hs hr1 (htg (by rw[hl'];rfl)) hlo hhi hps hn
         . cases h
       . simp only[Yag,Yaa]at h;obtain⟨rfl,rfl⟩:=h;obtain⟨k1,k2,k3,k4,k5,k6⟩:=Xak hps;rw[k5]at hn;exact XlV hT hS hop hd ht hty hg he hs hr1 hlo hhi k1 k2 k3 k4 hn
     . cases h
   . cases h
 . rename_i τ r τ0 hsv hty hg;split at h
   . rename_i te e' τ' l ver z he hl;obtain⟨hl',hx⟩:=Xw8 hS hsv hl;split at h
     . rename_i hτ;subst hτ;split at h
       . rename_i hs;simp only[X5g]at h;split at h
         . rename_i d hdst htk;simp only[Yag,Yaa]at h;obtain⟨rfl,rfl⟩:=h;simp only[noTags,Ybu]at hf;exact Xmk hT hS hop hdst (hd d hdst) ht hty hg he hs hl' hx hlo hhi hps hf hn
         . simp only[Yag,Yaa]at h;obtain⟨rfl,rfl⟩:=h;exact Xnd hT hS hop hd ht hty hg he hs hl' hx hlo hhi hps hn
       . cases h
     . cases h
   . cases h
 . rename_i τ r lo0 hi0 τ0 hsv hty hg;split at h
   . rename_i te e' τ' l ver z he hl;obtain⟨hl',hx⟩:=Xwj hS hsv hl;split at h
     . rename_i hτ;subst hτ;split at h
       . rename_i hs;simp only[X5g,Yag,Yaa]at h;obtain⟨rfl,rfl⟩:=h;exact Xnp hT hS hop hd ht hty hg he hs hl' hx hlo hhi hps hn
       . cases h
     . cases h
   . cases h
 . rename_i τ l r ver p τ0 hsv hty hg;split at h
   . rename_i te e' τ' l' ver' ho z he hl;split at h
     . rename_i hv;subst hv;split at h
       . rename_i hs;simp only[Yag,Yaa]at h;obtain⟨rfl,rfl⟩:=h;rw[hsv]at hr1;exact Xnx hT hS hop hd ht hty hg he hs ((X4u (M:=M) hS x).rows _ _ hl) rfl (X0Y.one hr1) hlo hhi hps hn
       . cases h
     . cases h
   . cases h
 . cases h
theorem XoV{t:TypeId}{x:Operand}{lo hi:Option Operand}{ps:List Prop}{e:Eff}(hT:X1E P tab)(hS:Sim P base M0 ios σ M w a st)(hop:o.op=.slice t x lo hi none)(hd:∀d,o.dst=some d->d<st.nt)(h:XlJ tab Γ o t lo hi (X3x st x) ((lo.toList++hi.toList).map (X3x st))=some (ps,e))(hps:∀p∈ps,p)(hf:noTags st e.nrow=true)(hn:X7O P base M0 ios a o st e next):o.wp P a w next Q:=by
 unfold XlJ at h;cases ht:look t tab with
 | none=>simp[ht]at h
 | some ti=>
   simp only[ht]at h;cases lo with
   | none=>cases hi with
     | none=>exact XcK (n:=none) (m:=none) (kl:=.i64) (kh:=.i64) hT hS hop hd ht rfl rfl h hps hf hn
     | some z=>
       simp only[Option.toList_none,Ydh,YaV,Yas,YaI]at h;cases hz:intOf? (X3x st z) with
       | none=>simp[hz]at h
       | some m=>
         simp only[hz]at h;obtain⟨k,hk⟩:=XbQ hS hz;exact XcK (n:=none) (m:=some m) (kl:=.i64) (kh:=k) hT hS hop hd ht rfl (by simp[hk]) h hps hf hn
   | some y=>cases hi with
     | none=>
       simp only[Option.toList_none,Ydh,Ybd,Yas,YaI]at h;cases hy:intOf? (X3x st y) with
       | none=>simp[hy]at h
       | some n=>
         simp only[hy]at h;obtain⟨k,hk⟩:=XbQ hS hy;exact XcK (n:=some n) (m:=none) (kl:=k) (kh:=.i64) hT hS hop hd ht (by simp[hk]) rfl h hps hf hn
     | some z=>
       simp only[Ydh,Ybc,YaV,Yas,YaI]at h;cases hy:intOf? (X3x st y) with
       | none=>simp[hy]at h
       | some n=>
         cases hz:intOf? (X3x st z) with
         | none=>simp[hy,hz]at h
         | some m=>
           simp only[hy,hz]at h;obtain⟨k,hk⟩:=XbQ hS hy;obtain⟨k',hk'⟩:=XbQ hS hz;exact XcK (n:=some n) (m:=some m) (kl:=k) (kh:=k') hT hS hop hd ht (by simp[hk]) (by simp[hk']) h hps hf hn
theorem Xr7(hS:Sim P base M0 ios σ M w a st){τ:Ty}{yc:X02}{yi:In}{v:Value}{l2:List (El τ)}{ks:List Nat}(hyr:∀r rv,look r yi.rows=some rv->look r st.rows=some rv)(hy:RdT σ st.rows M v yc)(hb:Xms τ yc yi=some (l2,ks)):
 ∃b',XeY w τ v l2 b'/\b'.Nodup/\(∀g∈b',∃r∈ks,X1G r st.rows/\g∈σ.foot r):=by
 unfold Xms at hb;cases hfl:Xdc τ with
 | true=>
   simp only[hfl]at hb;split at hb
   . rename_i t' l' tag hv;split at hb
     . rename_i htt;subst htt;simp only[X5g,Yag,Yaa]at hb;obtain⟨rfl,rfl⟩:=hb;exact⟨[],XeY.flat hfl (XpO hS hyr hy hv),Ybg,λg hg=>by cases hg⟩
     . cases hb
   . cases hb
 | false=>
   simp only[hfl]at hb;cases yc with
   | own t' r=>
     simp only at hb;split at hb
     . rename_i e1 t1 l1 v1 z1 hl;split at hb
       . rename_i h1;subst h1;split at hb
         . rename_i h2;subst h2;simp only[X5g,Yag,Yaa]at hb;obtain⟨rfl,rfl⟩:=hb;have hl':=hyr _ _ hl;have hok:=hS.hotAt hl';have hv:v=σ.row r:=hy.2 (by rw[hl'];rfl);obtain⟨b',k1,k2,k3⟩:=XeY.own (show X4Q w _ (σ.row r) _ (σ.foot r) from hok.own) hok.nodup;rw[hv];exact⟨b',k1,k2,λg hg=>⟨r,by simp,⟨_,_,_,_,_,_,hl'⟩,k3 g hg⟩⟩
         . cases hb
       . cases hb
     . cases hb
   | lst t' l tag=>
     match l,tag,hy,hb with
     | [],some 0,hy,hb=>
       cases hb;have hv:v=.slice none 0 0:=by have:=hy.2;simpa [Xc8] using this
       exact⟨[],.none hv rfl rfl,Ybg,λg hg=>by cases hg⟩
     | [],none,hy,hb=>cases hb
     | [],some (k+1),hy,hb=>cases hb
     | _::_,none,hy,hb=>cases hb
     | _::_,some k,hy,hb=>cases hb
   | emp t'=>
     cases hb;obtain⟨ad,hv⟩:=hy.2;exact⟨[],.none hv rfl rfl,Ybg,λg hg=>by cases hg⟩
   | _=>cases hb
theorem Xjq{e:TypeId}{τ:Ty}{d:Nat}{xi yi:In}{xc yc:X02}{ps:List Prop}{ef:Eff}{t:TypeId}{te:TI}{fs:List (Nat×TypeId)}{b:Nat}{x y:Operand}(hT:X1E P tab)(hS:Sim P base M0 ios σ M w a st)(ho:o.op=.call {callee:=.builtin .append,args:=#[x,y],argTypes:=#[t,t]})(hd:o.dst=some d)(hdn:d<st.nt)(h:look t tab=some ⟨.list τ,false,fs,e,b⟩)(he:look e tab=some te)(hte:te.ty=τ)(hpos:0<size τ)(hxr:∀r rv,look r xi.rows=some rv->look r st.rows=some rv)(hyr:∀r rv,look r yi.rows=some rv->look r st.rows=some rv)(hx:RdT σ st.rows M (a.eval x) xc)(hy:RdT σ st.rows M (a.eval y) yc)(hh:Xdo e τ te.bytes d xi xc yc yi=some (ps,ef))(hps:∀p∈ps,p)(hf:noTags st ef.nrow=true)(hnv:noVers st ef.urow=true)(hn:X7O P base M0 ios a o st ef next):o.wp P a w next Q:=by
 unfold Xdo at hh;simp only at hh;cases hbk:Xms τ yc yi with
 | none=>simp[hbk]at hh
 | some pr=>
   obtain⟨l2,ks⟩:=pr;simp only[hbk]at hh;obtain⟨b',hb1,hb2,hb3⟩:=Xr7 hS hyr hy hbk;have nilCase:a.eval x=.slice none 0 0\/(∃ad,a.eval x=.slice ad 0 0)->some ([(([]:List (El τ)).length+l2.length<=9223372036854775807:Prop),(([]:List (El τ)).length+l2.length)*te.bytes<=140737488355328],({sv:=.val false [.own τ (X0J d 0)],nrow:=[(X0J d 0,.hot e τ ([]++l2) 0 none false)],krow:=ks,urow:=[]}:Eff))=some (ps,ef)->o.wp P a w next Q:=λhv hh=>by
    simp only[Yag,Yaa]at hh;obtain⟨rfl,rfl⟩:=hh;obtain⟨ad,hv⟩:∃ad,a.eval x=.slice ad 0 0:=by
     rcases hv with h | h
     . exact⟨none,h⟩
     . exact h
    simp only[noTags,Ybu]at hf;exact XgQ (bs:=[]) (b':=b') (ks:=ks) (l:=[]) (l2:=l2) hT hS ho hd hdn h he hte hpos (by rw[hv];exact X4Q.emp ad) Ybg hb1 hb2 (λg hg hg'=>by cases hg') (λg hg=>by cases hg) hb3 (hps _ (by simp)) (hps _ (by simp)) hf hn
   cases xc with
   | own t' r=>
     simp only at hh;split at hh
     . rename_i e1 t1 l1 v1 z1 hl;split at hh
       . rename_i h1;subst h1;split at hh
         . rename_i h2;subst h2;split at hh
           . rename_i hnm;simp only[X5g,Yag,Yaa]at hh;obtain⟨rfl,rfl⟩:=hh;have hl':=hxr _ _ hl;have hok:=hS.hotAt hl';have hv:a.eval x=σ.row r:=hx.2 (by rw[hl'];rfl);simp only[noTags,Ybu]at hf;have hrh:X1G r st.rows:=⟨_,_,_,_,_,_,hl'⟩
             refine XgQ (bs:=σ.foot r) (b':=b') (ks:=r::ks) (l:=l1) (l2:=l2) hT hS ho hd hdn h he hte hpos (by rw[hv];exact hok.own) hok.nodup hb1 hb2 (λg hg hg'=>?_) (λg hg=>⟨r,by simp,hrh,hg⟩) (λg hg=>?_) (hps _ (by simp)) (hps _ (by simp)) hf hn
             . obtain⟨r',m1,m2,m3⟩:=hb3 g hg;exact hS.hot.apart r' r m2 hrh (λe=>X59.1 hnm (e▸m1)) g m3 hg'
             . obtain⟨r',m1,m2,m3⟩:=hb3 g hg;exact⟨r',Yan _ m1,m2,m3⟩
           . cases hh
         . cases hh
       . cases hh
     . cases hh
   | lst t' l tag=>
     match l,tag,hx,hh with
     | [],some 0,hx,hh=>exact nilCase (.inl (by have:=hx.2;simpa [Xc8] using this)) hh
     | [],none,hx,hh=>cases hh
     | [],some (k+1),hx,hh=>cases hh
     | _::_,none,hx,hh=>cases hh
     | _::_,some k,hx,hh=>cases hh
   | emp t'=>exact nilCase (.inr hx.2) hh
   | bor t' l r ver p=>
     cases p with
     | none=>cases hh
     | some p=>
       obtain⟨i,off⟩:=p;simp only at hh;split at hh
       . rename_i e0 τ0 L ver' z hl;split at hh
         . rename_i h1;subst h1;split at hh
           . rename_i h2;subst h2;split at hh
             . rename_i L' hnm hset;simp only[X5g,Yag,Yaa]at hh;obtain⟨rfl,rfl⟩:=hh;have hl':=hxr _ _ hl;have hok:=hS.hotAt hl';obtain⟨_,hp⟩:=hx.2 _ hl' rfl;obtain⟨q1,ad,q2,q3⟩:=hp i off rfl;obtain⟨p,hD⟩:=Xlk hok.own hok.nodup q1 q2 (hok.mem _ _ q3).1;simp only[noTags,Ybu]at hf;exact Xm9 hT hS ho hd hdn h he hte hpos hl' hD hset (X59.1 hnm) hb1 hb2 hb3 (hps _ (by simp)) (hps _ (by simp)) hf hnv hn
             . cases hh
           . cases hh
         . cases hh
       . cases hh
   | _=>cases hh
theorem Xv3(hS:Sim P base M0 ios σ M w a st)(x:Operand):X44 σ st.rows st.boxes M (a.eval x) (X3x st x).raw:=by
 cases x with
 | tmp t=>exact hS.slots t
 | func f=>exact(X4u (M:=M) hS (.func f)).rep
 | _=>trivial
theorem Xp6{τ:Ty}{e:TypeId}{x:In}{r lo hi:Nat}{L:List (El τ)}(h:Xta τ e x=some (r,lo,hi,L)):∃ver,x.raw=.val false [.sub τ r lo hi]/\look r x.rows=some (.frz e τ L ver true)/\r≠0:=by
 unfold Xta at h;split at h
 . rename_i τ1 r' lo' hi' hraw;split at h
   . rename_i e' τ' L' ver hl;split at h
     . rename_i hτ;subst hτ;split at h
       . rename_i hc;obtain⟨rfl,rfl,h0⟩:=hc;simp only[X5g,Yag,Yaa]at h;obtain⟨rfl,rfl,rfl,rfl⟩:=h;exact⟨ver,hraw,hl,h0⟩
       . cases h
     . cases h
   . cases h
 . cases h
theorem Xjg{x y:Operand}{ts:Array TypeId}{ps:List Prop}{ef:Eff}(hT:X1E P tab)(hS:Sim P base M0 ios σ M w a st)(ho:o.op=.call {callee:=.builtin .append,args:=#[x,y],argTypes:=ts})(hd:∀d,o.dst=some d->d<st.nt)(hh:Xk9 tab o ts.toList (X3x st x) (X3x st y)=some (ps,ef))(hps:∀p∈ps,p)(hf:noTags st ef.nrow=true)(hnv:noVers st ef.urow=true)(hn:X7O P base M0 ios a o st ef next):o.wp P a w next Q:=by
 have hx0:=X4u (M:=M) hS x;have hy0:=X4u (M:=M) hS y;unfold Xk9 at hh;split at hh
 . rename_i d t u hdst hts;obtain rfl:ts=#[t,u]:=Yb4 hts;split at hh
   . rename_i htu;subst htu;split at hh
     . rename_i τ fs e b xc yc hty hsx hsy;have hx:=Xc1 (tab:=tab) t hx0.rep;have hy:=Xc1 (tab:=tab) t hy0.rep;rw[hsx]at hx;rw[hsy]at hy;split at hh
       . rename_i τe ag fs' el bytes he;split at hh
         . rename_i hc;obtain⟨hτe,hpos⟩:=hc;have hot:Xdo e τ bytes d (X3x st x) xc yc (X3x st y)=some (ps,ef)->o.wp P a w next Q:=λhh=>
            Xjq (te:=⟨τe,ag,fs',el,bytes⟩) hT hS ho hdst (hd d hdst) hty he hτe hpos hx0.rows hy0.rows (X0Y.one hx) (X0Y.one hy) hh hps hf hnv hn
           cases xc with
           | lst τ1 l tag=>
             cases tag with
             | none=>
               cases yc with
               | lst τ2 l' tag2=>
                 simp only at hh;split at hh
                 . rename_i r lo hi L htl;split at hh
                   . rename_i h2;subst h2;simp only[X5g,Yag,Yaa]at hh;obtain⟨rfl,rfl⟩:=hh;simp only[noTags,Ybu]at hf;obtain⟨ver,q1,q2,_⟩:=Xp6 htl;have hl':=hx0.rows _ _ q2;have hraw:=Xv3 (M:=M) hS x;rw[q1]at hraw;exact XkC hT hS ho hdst (hd d hdst) hty he hτe hpos hl' ((X0Y.one hraw).2 (by rw[hl'];rfl)) (hps _ (by simp)) (hps _ (by simp)) hy (hps _ (by simp)) (hps _ (by simp)) hf hn
                   . cases hh
                 . exact hot hh
               | _=>exact hot hh
             | some r=>
               cases yc with
               | lst τ2 l' tag2=>
                 simp only at hh;split at hh
                 . exact hot hh
                 . split at hh
                   . rename_i h1;subst h1;split at hh
                     . rename_i h2;subst h2;split at hh
                       . rename_i hr;simp only[X5g,Yag,Yaa]at hh;obtain⟨rfl,rfl⟩:=hh;simp only[noTags,Ybu]at hf;refine Xso (u:=t) (ty:=t) (fs2:=[]) (b2:=0) hT hS ho hdst (hd d hdst) hty he hτe hpos hx ?_ hy (hps _ (by simp)) (hps _ (by simp)) hf hn;rcases hr with h0 | h0
                         . exact .inl h0
                         . by_cases hr0:r=0
                           . exact .inl hr0
                           . right;have hne:(X3x st x).sv=.val false [.lst τ2 l (some r)]:=by
                              cases hsv:(X3x st x).sv with
                              | nil=>
                                rw[hsv]at hsx;simp only[Xii,hty]at hsx;injection hsx with _ e1;injection e1 with e2 _;injection e2 with _ _ e3;injection e3 with e4;exact absurd e4.symm hr0
                              | _=>rw[hsv]at hsx;exact hsx
                             rw[<-hx0.row _ _ _ hne];exact h0
                       . cases hh
                     . cases hh
                   . cases hh
               | _=>exact hot hh
           | _=>exact hot hh
         . cases hh
       . cases hh
     . cases hh
   . cases hh
 . cases hh
theorem XnE(hS:Sim P base M0 ios σ M w a st){τ:Ty}{x:Operand}{p:Dst τ}(h:XuU τ (X3x st x)=some p):look p.r st.rows=some (.hot p.e τ p.l p.ver none p.z)/\Xry σ τ p.r p.lo p.hi (List.length p.l) (a.eval x):=by
 unfold XuU at h;split at h
 . rename_i τ1 r hsv;split at h
   . rename_i e τ' l ver z hl;obtain⟨h1,h2⟩:=Xw8 hS hsv hl;split at h
     . rename_i ht;subst ht;split at h
       . rename_i ht;subst ht;simp only[X5g,Yag]at h;subst h;exact⟨h1,.inr ⟨h2,rfl,rfl⟩⟩
       . cases h
     . cases h
   . cases h
 . rename_i τ1 r lo hi hsv;split at h
   . rename_i e τ' l ver z hl;obtain⟨h1,h2⟩:=Xwj hS hsv hl;split at h
     . rename_i ht;subst ht;split at h
       . rename_i ht;subst ht;simp only[X5g,Yag]at h;subst h;exact⟨h1,.inl h2⟩
       . cases h
     . cases h
   . cases h
 . cases h
theorem Xm7{b:Builtin}{xs:Array Operand}{ts:Array TypeId}{ps:List Prop}{e:Eff}(hT:X1E P tab)(hS:Sim P base M0 ios σ M w a st)(hop:o.op=.call {callee:=.builtin b,args:=xs,argTypes:=ts})(hd:∀d,o.dst=some d->d<st.nt)(h:Xhy tab b o ts.toList (xs.toList.map (X3x st))=some (ps,e))(hps:∀p∈ps,p)(hn:X7O P base M0 ios a o st e next):o.wp P a w next Q:=by
 have hrep:=λx=>X4u (M:=M) hS x;unfold Xhy at h;split at h
 ·
  rename_i x hx;obtain⟨x',rfl,hxx⟩:∃x',xs=#[x']/\X3x st x'=x:=by
   cases xs with
   | mk l=>match l,hx with
     | [y],hx=>exact⟨y,rfl,by simpa using hx⟩
  subst hxx;have hr:=(hrep x').rep;split at h
  . rename_i t ht;obtain rfl:ts=#[t]:=Yb4 ht;split at h
    . rename_i fs e' b' s hty hsv;rw[hsv]at hr;simp only[Yag,Yaa]at h;obtain⟨rfl,rfl⟩:=h;exact XqM hT hS hop hd hty hr hn
    . rename_i τ0 fs e' b' hty;split at h
      . rename_i τ l hl;simp only[Yag,Yaa]at h;obtain⟨rfl,rfl⟩:=h;exact Xqn hT hS hop hd hty (Xd8 hS (hrep x') hl).1 hn
      . cases h
    . cases h
  . cases h
 ·
  rename_i x y hx;obtain⟨x',y',rfl,hxx,hyy⟩:∃x' y',xs=#[x',y']/\X3x st x'=x/\X3x st y'=y:=by
   cases xs with
   | mk l=>match l,hx with
     | [u,v],hx=>exact⟨u,v,rfl,by simp at hx;exact hx.1,by simp at hx;exact hx.2⟩
  subst hxx;subst hyy;split at h
  . rename_i k m k' n hsx hsy;have h1:=(hrep x').rep;rw[hsx]at h1;have h2:=(hrep y').rep;rw[hsy]at h2;have e1:=(X0Y.one h1).int;have e2:=(X0Y.one h2).int;simp only[Yag,Yaa]at h;obtain⟨rfl,rfl⟩:=h;exact X1a (w':=w) (by simp[execOp,hop,resolve,invoke,builtin,Builtin.min_,Builtin.min2,e1,e2]) (hn _ σ M w (hS.putO hd (X8D _ _)))
  . cases h
 ·
  rename_i x y hx;obtain⟨x',y',rfl,hxx,hyy⟩:∃x' y',xs=#[x',y']/\X3x st x'=x/\X3x st y'=y:=by
   cases xs with
   | mk l=>match l,hx with
     | [u,v],hx=>exact⟨u,v,rfl,by simp at hx;exact hx.1,by simp at hx;exact hx.2⟩
  subst hxx;subst hyy;split at h
  . rename_i k m k' n hsx hsy;have h1:=(hrep x').rep;rw[hsx]at h1;have h2:=(hrep y').rep;rw[hsy]at h2;have e1:=(X0Y.one h1).int;have e2:=(X0Y.one h2).int;simp only[Yag,Yaa]at h;obtain⟨rfl,rfl⟩:=h;exact X1a (w':=w) (by simp[execOp,hop,resolve,invoke,builtin,Builtin.max_,Builtin.max2,e1,e2]) (hn _ σ M w (hS.putO hd (X8D _ _)))
  . cases h
 . cases h
theorem Xvt{xs:Array Operand}{x y:In}(hx:xs.toList.map (X3x st)=[x,y]):∃x' y',xs=#[x',y']/\X3x st x'=x/\X3x st y'=y:=by
 cases xs with
 | mk l=>match l,hx with
   | [u,v],hx=>exact⟨u,v,rfl,by simp at hx;exact hx.1,by simp at hx;exact hx.2⟩
theorem Xnw{b:Builtin}{xs:Array Operand}{ts:Array TypeId}{ps:List Prop}{e:Eff}(hT:X1E P tab)(hS:Sim P base M0 ios σ M w a st)(hop:o.op=.call {callee:=.builtin b,args:=xs,argTypes:=ts})(hd:∀d,o.dst=some d->d<st.nt)(h:XnI tab Γ o {callee:=.builtin b,args:=xs,argTypes:=ts} (xs.toList.map (X3x st))=some (ps,e))(hps:∀p∈ps,p)(hf:noTags st e.nrow=true)(hv:noVers st e.urow=true)(hn:X7O P base M0 ios a o st e next):o.wp P a w next Q:=by
 unfold XnI at h;split at h
 . rename_i x y hb hx;injection hb with hb;subst hb;obtain⟨x',y',rfl,rfl,rfl⟩:=Xvt hx;exact Xjg hT hS hop hd h hps hf hv hn
 . rename_i x y hb hx;injection hb with hb;subst hb;obtain⟨x',y',rfl,rfl,rfl⟩:=Xvt hx;split at h
   . rename_i tx ty hts;obtain rfl:ts=#[tx,ty]:=Yb4 hts;split at h
     . rename_i τ fs el b' hty;split at h
       . rename_i te he;split at h
         . rename_i hc;obtain⟨c1,c2,c3⟩:=hc;split at h
           . rename_i p τ2 l2 hp hl2;obtain⟨hr,hdst⟩:=XnE hS hp;split at h
             . rename_i h2;subst h2;simp only[X5g,Yag,Yaa]at h;obtain⟨rfl,rfl⟩:=h;exact Xwv hT hS hop hd hty he c1 c2 c3 hr hdst (Xd8 hS (X4u hS y') hl2).1 (hps _ (by simp)) (hps _ (by simp)) hv hn
             . cases h
           . cases h
         . cases h
       . cases h
     . cases h
   . cases h
 . rename_i x hb hx;injection hb with hb;subst hb;obtain⟨x',rfl,rfl⟩:∃x',xs=#[x']/\X3x st x'=x:=by
    cases xs with
    | mk l=>match l,hx with
      | [y],hx=>exact⟨y,rfl,by simpa using hx⟩
   split at h
   . rename_i tx hts;obtain rfl:ts=#[tx]:=Yb4 hts;split at h
     . rename_i τ fs el b' hty;split at h
       . rename_i te he;split at h
         . rename_i hc;obtain⟨c1,c2⟩:=hc;split at h
           . rename_i p hp;obtain⟨hr,hdst⟩:=XnE hS hp;simp only[Yag,Yaa]at h;obtain⟨rfl,rfl⟩:=h;exact Xux hT hS hop hd hty he c1 c2 hr hdst (hps _ (by simp)) (hps _ (by simp)) hv hn
           . cases h
         . cases h
       . cases h
     . cases h
   . cases h
 . rename_i b2 hb _ _ _;injection hb with hb;subst hb;exact Xm7 hT hS hop hd h hps hn
 . cases h
theorem XlH{t:TypeId}{ti:TI}{x y:Operand}{τ:Ty}{r i off:Nat}{ds:List X02}{ps:List Prop}{e:Eff}(hT:X1E P tab)(hS:Sim P base M0 ios σ M w a st)(hop:o.op=.store t x y)(hdn:o.dst=none)(ht:look t tab=some ti)(hsv:(X3x st x).sv=.hp τ r i off)(hy:X27 (RdT σ st.rows M) (a.eval y).cells.toList ds)(h:Xod tab ti τ r i off (X3x st x) ds ((X3x st x).rows++(X3x st y).rows)=some (ps,e))(hps:∀p∈ps,p)(hv:noVers st e.urow=true)(hn:X7O P base M0 ios a o st e next):o.wp P a w next Q:=by
 have hx:=X4u (M:=M) hS x;have hrx:=hx.rep;rw[hsv]at hrx;have hrows:∀r rv,look r ((X3x st x).rows++(X3x st y).rows)=some rv->look r st.rows=some rv:=λr rv hl=>by
  rw[X5v]at hl;split at hl
  . rename_i v he;cases hl;exact hx.rows r _ he
  . exact(X4u (M:=M) hS y).rows r rv hl
 unfold Xod at h;split at h
 . rename_i e0 τ' l ver hole z ps' ks hl hown;split at h
   . rename_i hτ;subst hτ;split at h
     . rename_i hc;obtain⟨c1,c2,c3⟩:=hc;split at h
       . rename_i l' hk hset;rw[Yac]at hk;have hl':=hx.rows r _ hl;split at h
         . simp only[Yag,Yaa]at h;obtain⟨rfl,rfl⟩:=h;exact Xki hT hS hop hdn hrows ht hl' hrx hy hown hk.1 hk.2 c1 c2 c3 hset (.inl rfl) hv hn
         . rename_i i' off';split at h
           . rename_i hoff;simp only[Yag,Yaa]at h;obtain⟨rfl,rfl⟩:=h;obtain⟨h1,h2⟩:=hoff;subst h1;have hi:i=i':=hps _ (by simp);subst hi;exact Xki hT hS hop hdn hrows ht hl' hrx hy hown hk.1 hk.2 c1 c2 c3 hset (.inr ⟨rfl,h2⟩) hv hn
           . cases h
       . cases h
     . cases h
   . cases h
 . cases h
def XxN(x:In):Option Cap:=match x.sv with
 | .box k off=>some (.box k off)
 | .ptr cs=>some (.ptr cs)
 | .pp k off=>some (.pp k off)
 | .pptr cs=>some (.pptr cs)
 | _=>none
theorem Xmv(hS:Sim P base M0 ios σ M w a st):∀{xs:List Operand} {cs:List Cap},(xs.map (X3x st)).mapM XxN=some cs->X27 (Xdq σ st.rows st.boxes M) (xs.map a.eval) cs
 | [],cs,h=>by simp at h;subst h;exact .nil
 | x::xs,cs,h=>by
   simp only[Yas,Ycy,Option.bind_eq_bind,Option.pure_def,Ybi]at h;obtain⟨c,hc,cs',hcs,e⟩:=h;cases e;refine .cons ?_ (Xmv hS hcs);have hr:=(X4u (M:=M) hS x).rep;unfold XxN at hc;split at hc
   . rename_i k off hsv;cases hc;rw[hsv]at hr;exact hr
   . rename_i cs0 hsv;cases hc;rw[hsv]at hr;exact hr
   . rename_i k off hsv;cases hc;rw[hsv]at hr;exact hr
   . rename_i cs0 hsv;cases hc;rw[hsv]at hr;exact hr
   . cases hc
theorem Xmt(hT:X1E P tab)(hS:Sim P base M0 ios σ M w a st){t e:TypeId}{te:TI}{τ:Ty}{fs:List (Nat×TypeId)}{b len cap:Nat}{ad:Option Addr}{x hi m:Operand}{k k':IntKind}(ho:o.op=.slice t x none (some hi) (some m))(hd:∀d,o.dst=some d->d<st.nt)(h:look t tab=some ⟨.list τ,false,fs,e,b⟩)(he:look e tab=some te)(hv:a.eval x=.slice ad len cap)(h1:a.eval hi=.int k 0)(h2:a.eval m=.int k' 0)(hn:X7O P base M0 ios a o st {sv:=.val false [.emp τ]} next):o.wp P a w next Q:=by
 have hu:=X5t hT h;have hsz:=X5X hT he w;refine X1a (v:=.slice ad 0 0) (w':=w) ?_ (hn _ σ M w (hS.putO hd (X0Y.mk1 ⟨rfl,ad,rfl⟩ rfl)));have hb:(Instr.sliceBounds true len cap none (some (.int k 0)) (some (.int k' 0))).run P w=.ok (0,0,0) w:=by simp[Instr.sliceBounds,Instr.sliceBound,asIntOf]
 simp[execOp,ho,hv,h1,h2,Instr.sliceAt,run_underlying hu,Instr.slice,hsz,hb]
theorem Xr0(c d:X02):Xsr (unT c) (unT d)=Xsr c d:=by
 cases c<;>cases d<;>rfl
theorem XiJ:∀(cs ds:List X02),XhG (cs.map unT) (ds.map unT)=XhG cs ds
 | [],[]=>rfl
 | [],_::_=>rfl
 | _::_,[]=>rfl
 | c::cs,d::ds=>by simp only[Yas,XhG,Xr0,XiJ cs ds]
theorem Xjr{rows:List (Nat×X0L)}{u v:Value}{τ:Ty}{cs ds:List X02}{b:Bool}(hu:X0Y σ rows M u (true,cs))(hv:X0Y σ rows M v (true,ds))(h:XqB τ cs ds=some b):
 ∃x y:El τ,u=.agg (XhX τ x).toArray/\v=.agg (XhX τ y).toArray/\eqEl τ x y=b:=by
 unfold XqB at h;split at h
 . rename_i x y hp hx hy;have one:∀{u:Value} {cs:List X02} {x:El τ},X0Y σ rows M u (true,cs)->X2x τ cs=some (x,[])->u=.agg (XhX τ x).toArray:=λ{u cs x} hu hx=>by
    obtain⟨vs,rfl,hvs⟩:=hu.agg;have hrd:X27 (RdV M) vs.toList cs:=hvs.imp λ_ _ h=>h.1;obtain⟨c1,c2,e,h1,h2⟩:=Xgn τ _ _ _ _ hrd hx;cases h2;rw[Ybd]at e;have:=RdC.vals hp h1;rw[<-this,<-e]
   refine⟨x,y,one hu hx,one hv hy,?_⟩;have e1:=X5D _ _ _ _ hx;have e2:=X5D _ _ _ _ hy;simp only[YaI,Ybd]at e1 e2;unfold eqEl;rw[<-e1,<-e2,XiJ,h]
 . cases h
set_option maxHeartbeats 4000000 in
theorem Xp5{ps:List Prop}{e:Eff}(hT:X1E P tab)(hE:Xv6 P Γ.eqs)(hS:Sim P base M0 ios σ M w a st)(hd:∀d,o.dst=some d->d<st.nt)(h:XfA tab Γ o (o.op.operands.toList.map (X3x st))=some (ps,e))(hps:∀p∈ps,p)(hf:X3y e o.dst st=true)(hn:X7O P base M0 ios a o st e next):o.wp P a w next Q:=by
 have hrep:=λx=>X4u (M:=M) hS x;unfold X3y at hf;simp only[Yac]at hf;obtain⟨⟨⟨hf1,hf2⟩,hf3⟩,hf4⟩:=hf;unfold XfA at h;cases hop:o.op with
 | move x=>
   rw[hop]at h;simp only[Op.operands,Yas,YaI,Yag,Yaa]at h;obtain⟨rfl,rfl⟩:=h;exact X1a (v:=a.eval x) (w':=w) (by simp[execOp,hop]) (hn _ σ M w (hS.putO hd (Xc1 o.type (hrep x).rep)))
 | assign x=>
   rw[hop]at h;simp only[Op.operands,Yas,YaI,Yag,Yaa]at h;obtain⟨rfl,rfl⟩:=h;exact X1a (v:=a.eval x) (w':=w) (by simp[execOp,hop]) (hn _ σ M w (hS.putO hd (Xc1 o.type (hrep x).rep)))
 | pick c x y=>
   rw[hop]at h;simp only[Op.operands,Yas,YaI]at h;split at h
   . rename_i c' hc;have hv:=(X0Y.one (show X0Y σ st.rows M (a.eval c) (false,[.bool c']) by have:=(hrep c).rep;rw[hc]at this;exact this)).bool;split at h<;>(simp only[Yag,Yaa]at h;obtain⟨rfl,rfl⟩:=h)
     . exact X1a (v:=a.eval x) (w':=w) (by simp[execOp,hop,hv,asBool]) (hn _ σ M w (hS.putO hd (hrep x).rep))
     . exact X1a (v:=a.eval y) (w':=w) (by simp[execOp,hop,hv,asBool]) (hn _ σ M w (hS.putO hd (hrep y).rep))
   . cases h
 | alloc t=>
   rw[hop]at h;simp only[Op.operands,YaI]at h;split at h
   . rename_i d ti hdst ht;simp only[Yag,Yaa]at h;obtain⟨rfl,rfl⟩:=h;rw[hdst]at hf1;exact XuO hT hS hop hdst (hd d hdst) ht hf1 hn
   . cases h
 | box t x=>
   rw[hop]at h;simp only[Op.operands,Yas,YaI]at h;have hr:=(hrep x).rep;split at h
   . rename_i d k off hdst hsv;simp only[Yag,Yaa]at h;obtain⟨rfl,rfl⟩:=h;rw[hsv]at hr;obtain⟨h1,h2⟩:=hr;exact Xlh (sv:=.pp k off) hS hop hdst (hd d hdst) h1 (λM' hM hu=>⟨_,rfl,hu,h2⟩) hn
   . rename_i d cs hdst hsv;simp only[Yag,Yaa]at h;obtain⟨rfl,rfl⟩:=h;rw[hsv]at hr;obtain⟨ad,h1,h2⟩:=hr;exact Xlh (sv:=.pptr cs) hS hop hdst (hd d hdst) h1 (λM' hM hu=>⟨_,_,rfl,hu,Xdk.carry (Carry.same σ st.rows hM) ⟨ad,rfl,h2⟩ (λc _=>X65 c)⟩) hn
   . rename_i d hdst _ _;split at h
     . rename_i cs hc;simp only[Yag,Yaa]at h;obtain⟨rfl,rfl⟩:=h;rw[hdst]at hf1;exact Xz2 hS hop hdst (hd d hdst) (Xeg (hrep x).rep hc) hf1 hn
     . cases h
   . cases h
 | build t parts=>
   rw[hop]at h;simp only[Op.operands,XfF]at h;split at h
   . rename_i ti ht;split at h
     . rename_i hg;split at h
       . rename_i ps' hps';split at h
         . rename_i cs hcs;simp only[Yag,Yaa]at h;obtain⟨rfl,rfl⟩:=h;refine Xup hT hS hop hd ht hg (XpX (tab:=tab) hS (f:=λi=>(ti.fields[i]?).map (·.2)) (ps:=ps') ?_) hcs hn;rw[<-hps']
           congr 1
           funext p
           cases ti.fields[p.1]?<;>rfl
         . cases h
       . cases h
     . cases h
   . cases h
 | buildSlice t n parts=>
   rw[hop]at h;simp only[Op.operands,XfF]at h;split at h
   . rename_i d τ fs e' b hdst ht;split at h
     . rename_i te he;split at h
       . rename_i hc;split at h
         . rename_i ps' hps';have hz:=XpX (tab:=tab) hS (parts:=parts.toList) (f:=λ_=>some e') (ps:=ps') (by rw[<-hps'];rfl);split at h
           . rename_i cs hcs;split at h
             . rename_i vs ks hown;split at h
               . rename_i l hks hl;simp only[Yag,Yaa]at h;obtain⟨rfl,rfl⟩:=h;simp only[noTags,Ybu]at hf2;exact Xhd hT hS hop hdst (hd d hdst) ht he hc.1 hc.2.1 hc.2.2 (Xey (XlC hS _)) hz hcs hown hks hl hf2 hn
               . cases h
             . split at h
               . rename_i l hl;simp only[Yag,Yaa]at h;obtain⟨rfl,rfl⟩:=h;simp only[noTags,Ybu]at hf2;exact XlI hT hS hop hdst (hd d hdst) ht he hc.1 hc.2.1 hc.2.2 hz hcs hl hf2 hn
               . cases h
           . cases h
         . cases h
       . cases h
     . cases h
   . cases h
 | makeSlice t x y=>
   rw[hop]at h;simp only[Op.operands,Yas,YaI]at h;split at h
   . rename_i d τ fs e' b n m hdst ht hx hy;split at h
     . rename_i te he;split at h
       . rename_i hc;simp only[Yag,Yaa]at h;obtain⟨rfl,rfl⟩:=h;simp only[noTags,Ybu]at hf2;obtain⟨kn,hkn⟩:=XbQ hS hx;obtain⟨km,hkm⟩:=XbQ hS hy;exact Xnn hT hS hop hdst (hd d hdst) ht he hc.1 hc.2 hkn hkm (hps _ (by simp)) (hps _ (by simp)) (hps _ (by simp)) (hps _ (by simp)) hf2 hn
       . cases h
     . cases h
   . cases h
 | makeFunc fn first caught=>
   rw[hop]at h;cases fn with
   | func f=>
     have he:(Op.makeFunc (.func f) first caught).operands.toList=first.toList++caught.toList:=by simp[Op.operands]
     rw[he]at h;have hv:(execOp a.eval o).run P w=.ok (.value (.func (.func f) (first.map a.eval) (caught.map a.eval))) w:=by simp[execOp,hop,Instr.makeFunc]
     cases hl:(first.toList++caught.toList).map (X3x st) with
     | nil=>
       rw[hl]at h;simp only[Yag,Yaa]at h;obtain⟨rfl,rfl⟩:=h;have h1:=List.map_eq_nil_iff.1 hl;obtain⟨h2,h3⟩:=List.append_eq_nil_iff.1 h1;refine X1a (w':=w) hv (hn _ σ M w (hS.putO hd ⟨_,_,rfl,?_,?_⟩))
       . rw[Yb5,h2];exact .nil
       . rw[Yb5,h3];exact .nil
     | cons y ys=>
       rw[hl]at h;simp only at h;rw[<-hl]at h;have e1:((first.toList++caught.toList).map (X3x st)).take first.size=first.toList.map (X3x st):=by
        have:first.size=(first.toList.map (X3x st)).length:=by simp
        rw[Ya8,this,Ybl]
       have e2:((first.toList++caught.toList).map (X3x st)).drop first.size=caught.toList.map (X3x st):=by
        have:first.size=(first.toList.map (X3x st)).length:=by simp
        rw[Ya8,this,Ya4]
       rw[e1,e2]at h;split at h
       . rename_i ca cb ha hb;simp only[Yag,Yaa]at h;obtain⟨rfl,rfl⟩:=h;refine X1a (w':=w) hv (hn _ σ M w (hS.putO hd ⟨_,_,rfl,?_,?_⟩))
         . rw[Yb5];exact Xmv hS ha
         . rw[Yb5];exact Xmv hS hb
       . cases h
   | _=>simp at h
 | load t x=>
   rw[hop]at h;simp only[Op.operands,Yas,YaI]at h;have hx:=hrep x;cases ht:look t tab with
   | none=>
     simp only[ht]at h;have hr:=hx.rep;split at h
     . rename_i k off hl hsv;simp only[Yag,Yaa]at h;obtain⟨rfl,rfl⟩:=h;rw[hsv]at hr;obtain⟨ad,h1,h2,h3⟩:=hr;exact Xln (sv:=.box k off) hS hop hd ((hE t _ hl).1 rfl) h1 h2 ⟨rfl,h3⟩ hn
     . rename_i cs hl hsv;simp only[Yag,Yaa]at h;obtain⟨rfl,rfl⟩:=h;rw[hsv]at hr;obtain⟨ad,u,h1,h2,h3⟩:=hr;exact Xln (sv:=.ptr cs) hS hop hd ((hE t _ hl).1 rfl) h1 h2 h3 hn
     . cases h
   | some ti=>
     simp only[ht]at h;cases hsv:(X3x st x).sv<;>simp only[hsv]at h<;>try (cases h;done)
     . rename_i k off;have hr:=hx.rep;rw[hsv]at hr;have hb:=hx.box k off (.inl hsv);rw[hb]at h;cases hk:st.box k with
       | none=>simp[hk]at h
       | some cs=>
         simp only[hk]at h;split at h
         . rename_i hc;simp only[Yag,Yaa]at h;obtain⟨rfl,rfl⟩:=h;exact Xp9 hT hS hop hd ht hr.1 hk hc.1 hc.2 hn
         . cases h
     . rename_i cs;have hr:=hx.rep;rw[hsv]at hr;split at h
       . rename_i hc;simp only[Yag,Yaa]at h;obtain⟨rfl,rfl⟩:=h;exact XoD hT hS hop hd ht hr hc.1 hc.2 hn
       . cases h
     . rename_i τ r i off;have hr:=hx.rep;rw[hsv]at hr;split at h
       . rename_i e0 τ' l ver z hl;split at h
         . rename_i hτ;subst hτ;split at h
           . rename_i hc;simp only[X5g,Yag,Yaa]at h;obtain⟨rfl,rfl⟩:=h;exact XqV hT hS hop hd ht (hx.rows r _ hl) hr hc.1 hc.2 hn
           . cases h
         . cases h
       . cases h
     . rename_i cs r ver;have hr:=hx.rep;rw[hsv]at hr;split at h
       . rename_i e0 τ' l ver' ho z hl;split at h
         . rename_i hc;obtain⟨c1,c2,c3⟩:=hc;subst c1;simp only[Yag,Yaa]at h;obtain⟨rfl,rfl⟩:=h;exact Xni hT hS hop hd ht (hx.rows r _ hl) hr c2 c3 hn
         . cases h
       . cases h
 | store t x y=>
   rw[hop]at h;simp only[Op.operands,Yas,YaI]at h;have hx:=hrep x;split at h
   . rename_i ti ds ht hds hdn;have hy:=Xeg (hrep y).rep hds;split at h
     . rename_i k off cs hsv hbx;split at h
       . rename_i hc;simp only[Yag,Yaa]at h;obtain⟨rfl,rfl⟩:=h;have hr:=hx.rep;rw[hsv]at hr;have hb:=hx.box k off (.inl hsv);rw[hb]at hbx;exact Xuf hT hS hop hdn ht hr.1 hbx hy hc.1 hc.2 hn
       . cases h
     . rename_i τ r i off hsv;exact XlH hT hS hop hdn ht hsv hy h hps hf3 hn
     . cases h
   . cases h
 | nilCheck x=>
   rw[hop]at h;simp only[Op.operands,Yas,YaI]at h;have hx:=hrep x;have hr:=hx.rep;split at h
   . rename_i k off hsv;simp only[Yag,Yaa]at h;obtain⟨rfl,rfl⟩:=h;rw[hsv]at hr;exact X1a (v:=a.eval x) (w':=w) (by simp[execOp,hop,hr.1]) (hn _ σ M w (hS.putO hd hr))
   . rename_i cs hsv;simp only[Yag,Yaa]at h;obtain⟨rfl,rfl⟩:=h;rw[hsv]at hr;obtain⟨ad,he,hc⟩:=hr;exact X1a (v:=a.eval x) (w':=w) (by simp[execOp,hop,he]) (hn _ σ M w (hS.putO hd ⟨ad,he,hc⟩))
   . rename_i τ r i off hsv;split at h
     . rename_i e0 τ' l ver ho z hl;simp only[Yag,Yaa]at h;obtain⟨rfl,rfl⟩:=h;rw[hsv]at hr;obtain⟨ad,h1,he⟩:=hr (by rw[hx.rows r _ hl];rfl);exact X1a (v:=a.eval x) (w':=w) (by simp[execOp,hop,he]) (hn _ σ M w (hS.putO hd hr))
     . cases h
   . rename_i cs r ver hsv;split at h
     . rename_i e0 τ' l ver' ho z hl;split at h
       . rename_i hv;subst hv;simp only[Yag,Yaa]at h;obtain⟨rfl,rfl⟩:=h;rw[hsv]at hr;obtain⟨ad,he,_⟩:=hr _ (hx.rows r _ hl) rfl;exact X1a (v:=a.eval x) (w':=w) (by simp[execOp,hop,he]) (hn _ σ M w (hS.putO hd hr))
       . cases h
     . cases h
   . cases h
 | binOp op t x y ty=>
   rw[hop]at h;simp only[Op.operands,Yas,YaI]at h;split at h
   . rename_i c1 c2 h1 h2;split at h
     . rename_i ps' c hg hb;simp only[Yag,Yaa]at h;obtain⟨rfl,rfl⟩:=h;have hr1:=(hrep x).rep;have hr2:=(hrep y).rep;rw[h1]at hr1;rw[h2]at hr2;obtain⟨r,hrun,hrr⟩:=XqP (boxes:=st.boxes) (w:=w) (P:=P) (t:=t) (X0Y.one hr1) (X0Y.one hr2) (λhm=>by
        cases c1<;>simp at hm;simp only at hg;split at hg
        . rename_i hty;exact XuV hT hty
        . cases hg) hb hps
       refine X1a (v:=r) (w':=w) ?_ (hn _ σ M w (hS.putO hd hrr));have hagg:Xb2 (a.eval x)=false:=hr1.2;have hnil:a.eval x≠.nilIface:=by
        intro e;have h0:=(X0Y.one hr1).1;rw[e]at h0;cases c1<;>first | (cases h0;done) | (obtain ⟨_,_,e2,_⟩:=h0;cases e2;done) | (simp[Xot]at hb;done)
       simp[execOp,hop,Xh7 op t x y _ (a.eval y) hagg hnil,hrun]
     . cases h
   . rename_i cs ds h1 h2;have hr1:=(hrep x).rep;have hr2:=(hrep y).rep;rw[h1]at hr1;rw[h2]at hr2;split at h
     . rename_i τ hl;split at h
       . rename_i b hb;cases h;obtain⟨x',y',e1,e2,e3⟩:=Xjr hr1 hr2 hb;obtain⟨hg,hrun⟩:=(hE t τ hl).2 (λe=>by subst e;simp[XqB,Xe8]at hb);refine X1a (v:=.bool b) (w':=w) ?_ (hn _ σ M w (hS.putO hd (XcC b)));simp[execOp,hop,e1,e2,run_eqGuard_agg w .eql t x y _ _ hg,run_eql_struct,hrun,e3]
       . cases h
     . rename_i τ hl;split at h
       . rename_i b hb;cases h;obtain⟨x',y',e1,e2,e3⟩:=Xjr hr1 hr2 hb;obtain⟨hg,hrun⟩:=(hE t τ hl).2 (λe=>by subst e;simp[XqB,Xe8]at hb);refine X1a (v:=.bool (!b)) (w':=w) ?_ (hn _ σ M w (hS.putO hd (XcC (!b))));simp[execOp,hop,e1,e2,run_eqGuard_agg w .neq t x y _ _ hg,run_neq_struct,hrun,e3]
       . cases h
     . cases h
   . cases h
 | unOp op t x=>
   rw[hop]at h;simp only[Op.operands,Yas,YaI]at h;split at h
   . rename_i c1 h1;have hr1:=(hrep x).rep;rw[h1]at hr1;split at h
     . rename_i c hu;simp only[Yag,Yaa]at h;obtain⟨rfl,rfl⟩:=h;cases c1 with
       | int k n=>
         have hv:=(X0Y.one hr1).int;cases op<;>simp only[unV]at hu<;>(try (cases hu;done))<;>cases hu
         . exact X1a (w':=w) (by simp[execOp,hop,hv,Op.unary,Op.intArith]) (hn _ σ M w (hS.putO hd (X8D _ _)))
         . exact X1a (w':=w) (by simp[execOp,hop,hv,Op.unary,Op.intBits]) (hn _ σ M w (hS.putO hd (X8D _ _)))
       | bool b=>
         have hv:=(X0Y.one hr1).bool;cases op<;>simp only[unV]at hu<;>(try (cases hu;done))<;>cases hu;exact X1a (w':=w) (by simp[execOp,hop,hv,Op.unary]) (hn _ σ M w (hS.putO hd (XcC _)))
       | _=>simp[unV]at hu
     . cases h
   . cases h
 | convert s t x=>
   rw[hop]at h;simp only[Op.operands,Yas,YaI]at h;have hr1:=(hrep x).rep;split at h
   . rename_i k fs e' b k' n ht h1;rw[h1]at hr1;split at h
     . rename_i hs;simp only[Yag,Yaa]at h;obtain⟨rfl,rfl⟩:=h;obtain⟨ts,hts⟩:=Yao.1 hs;exact XkD hT hS hop hd ht hts hr1 hn
     . cases h
   . rename_i fs e' b ht;split at h
     . rename_i fs2 e2 b2 hs;split at h
       . rename_i fs3 e3 b3 τ l he hl;split at h
         . rename_i hτ;subst hτ;simp only[Yag,Yaa]at h;obtain⟨rfl,rfl⟩:=h;exact XkE hT hS hop hd ht hs he rfl rfl (Xd8 hS (hrep x) hl).1 hn
         . cases h
       . cases h
     . cases h
   . cases h
 | fieldAddr t x f=>
   rw[hop]at h;simp only[Op.operands,Yas,YaI]at h;have hx:=hrep x;have hr1:=hx.rep;split at h
   . rename_i ti ht;split at h
     . rename_i hg;split at h
       . rename_i off tf hf';split at h
         . rename_i τf ag fs e' b htf;split at h
           . rename_i hs;split at h
             . rename_i k oo h1;rw[h1]at hr1;simp only[Yag,Yaa]at h;obtain⟨rfl,rfl⟩:=h;exact Xij hT hS hop hd ht hg hf' htf hs hr1 hn
             . rename_i cs h1;rw[h1]at hr1;split at h
               . simp only[Yag,Yaa]at h;obtain⟨rfl,rfl⟩:=h;exact Xia hT hS hop hd ht hg hf' htf hs hr1 hn
               . cases h
             . rename_i τ r i oo h1;rw[h1]at hr1;split at h
               . rename_i hl;simp only[Yag,Yaa]at h;obtain⟨rfl,rfl⟩:=h;exact XjX hT hS hop hd ht hg hf' htf hs (by rw[hx.rows r _ hl];rfl) hr1 hn
               . cases h
             . rename_i cs r ver h1;rw[h1]at hr1;split at h
               . rename_i e0 τ' l ver' ho z hl;split at h
                 . rename_i hc;obtain⟨c1,c2⟩:=hc;subst c1;simp only[Yag,Yaa]at h;obtain⟨rfl,rfl⟩:=h;exact Xho hT hS hop hd ht hg hf' htf hs (hx.rows r _ hl) rfl hr1 hn
                 . cases h
               . cases h
             . cases h
           . cases h
         . cases h
       . cases h
     . cases h
   . cases h
 | field t x f=>
   rw[hop]at h;simp only[Op.operands,Yas,YaI]at h;have hr1:=(hrep x).rep;split at h
   . rename_i ti ht;split at h
     . rename_i hg;split at h
       . rename_i off tf hf';split at h
         . rename_i tif htf;split at h
           . rename_i cs h1;rw[h1]at hr1;split at h
             . rename_i hc;simp only[Yag,Yaa]at h;obtain⟨rfl,rfl⟩:=h;exact XuD hT hS hop hd ht hg hf' htf hr1 hc.1 hc.2 hn
             . cases h
           . cases h
         . cases h
       . cases h
     . cases h
   . cases h
 | indexAddr t x y=>
   rw[hop]at h;simp only[Op.operands,Yas,YaI]at h;have hx:=hrep x;have hr1:=hx.rep;split at h
   . rename_i τ0 fs e' b c i ht h1 h2;rw[h1]at hr1;obtain⟨k,hk⟩:=XbQ hS h2;split at h
     . rename_i te he;cases c with
       | lst τ l tag=>
         simp only at h;split at h
         . rename_i hs;simp only[Yag,Yaa]at h;obtain⟨rfl,rfl⟩:=h;exact XmG (k:=k) hT hS hop hd ht he hs hr1 (by rw[hk];exact X8D _ _) (hps _ (by simp)) (hps _ (by simp)) hn
         . cases h
       | own τ r=>
         simp only at h;split at h
         . rename_i e0 τ' l ver ho z hl;obtain⟨h3,h4⟩:=Xw8 hS h1 hl;split at h
           . rename_i hτ;subst hτ;split at h
             . rename_i hs;simp only[X5g,Yag,Yaa]at h;obtain⟨rfl,rfl⟩:=h;exact Xil hT hS hop hd ht he hs h3 h4 hk (hps _ (by simp)) (hps _ (by simp)) hn
             . cases h
           . cases h
         . cases h
       | sub τ r lo hi=>
         simp only at h;split at h
         . rename_i e0 τ' l ver z hl;obtain⟨h3,h4⟩:=Xwj hS h1 hl;split at h
           . rename_i hτ;subst hτ;split at h
             . rename_i hs;simp only[X5g,Yag,Yaa]at h;obtain⟨rfl,rfl⟩:=h;exact Xie hT hS hop hd ht he hs h3 h4 hk (hps _ (by simp)) (hps _ (by simp)) hn
             . cases h
           . cases h
         . cases h
       | bor τ l r ver p=>
         simp only at h;split at h
         . rename_i e0 τ' l' ver' ho z hl;split at h
           . rename_i hv;subst hv;split at h
             . rename_i hs;simp only[Yag,Yaa]at h;obtain⟨rfl,rfl⟩:=h;exact Xib hT hS hop hd ht he hs ((X0Y.one hr1).2 _ (hx.rows r _ hl) rfl).1 hk (hps _ (by simp)) (hps _ (by simp)) hn
             . cases h
           . cases h
         . cases h
       | emp τ=>
         simp only[Yag,Yaa]at h;obtain⟨rfl,rfl⟩:=h;exact(hps False (by simp)).elim
       | _=>cases h
     . cases h
   . cases h
 | index t x y=>
   rw[hop]at h;simp only[Op.operands,Yas,YaI]at h;have hr1:=(hrep x).rep;have hr2:=(hrep y).rep;split at h
   . rename_i fs e' b s k i ht h1 h2;rw[h1]at hr1;rw[h2]at hr2;simp only[Yag,Yaa]at h;obtain⟨rfl,rfl⟩:=h;exact XnS hT hS hop hd ht hr1 hr2 (hps _ (by simp)) (hps _ (by simp)) hn
   . cases h
 | extract x i=>
   rw[hop]at h;simp only[Op.operands,Yas,YaI]at h;have hr1:=(hrep x).rep;split at h
   . rename_i l h1;rw[h1]at hr1;split at h
     . rename_i ag cs hl;simp only[Yag,Yaa]at h;obtain⟨rfl,rfl⟩:=h;exact Xqu hS hop hd hr1 hl hn
     . cases h
   . cases h
 | slice t x lo hi mx=>
   rw[hop]at h;cases mx with
   | some m=>
     cases lo with
     | some lo=>simp at h
     | none=>
       cases hi with
       | none=>simp at h
       | some hi=>
         have he:(Op.slice t x none (some hi) (some m)).operands.toList=[x,hi,m]:=rfl;rw[he]at h;simp only[Yas,YaI]at h;split at h
         . rename_i τ fs e' b τ' l k k' ht hl h1 h2;split at h
           . rename_i te hte;simp only[Yag,Yaa]at h;obtain⟨rfl,rfl⟩:=h;have hr1:=(hrep hi).rep;have hr2:=(hrep m).rep;rw[h1]at hr1;rw[h2]at hr2;have hv1:=(X0Y.one hr1).int;have hv2:=(X0Y.one hr2).int;obtain⟨ad,cap,ev,hlc,hcm,_⟩:=(Xd8 hS (hrep x) hl).1;have hv:a.eval x=.slice ad (List.length l) cap:=YbX ev;exact Xmt hT hS hop hd ht hte hv hv1 hv2 hn
           . cases h
         . cases h
   | none=>
     have he:(Op.slice t x lo hi none).operands.toList=x::(lo.toList++hi.toList):=by
      cases lo<;>cases hi<;>rfl
     rw[he]at h;simp only[Yas]at h;exact XoV hT hS hop hd h hps hf2 hn
 | call c=>
   rw[hop]at h;obtain⟨callee,xs,ts⟩:=c;cases callee with
   | builtin b=>
     have he:(Op.call {callee:=.builtin b,args:=xs,argTypes:=ts}).operands.toList=xs.toList:=by simp[Op.operands,Call.operands]
     rw[he]at h;exact Xnw hT hS hop hd h hps hf2 hf3 hn
   | invoke r m=>simp[XnI]at h
   | value f=>simp[XnI]at h
 | _=>rw[hop]at h;simp at h
theorem XiP{rows:List (Nat×X0L)}:∀{ks:List Nat} {p:Nat×X0L},p∈X7i rows ks->∃e t l ver z,p.2=.frz e t l ver z/\look p.1 rows=some (.hot e t l ver none z)
 | [],p,h=>by cases h
 | k::ks,p,h=>by
   simp only[X7i]at h;split at h
   . rename_i e t x ver z hl;rcases Yak.1 h with e1 | h
     . subst e1;exact⟨e,t,x,ver,z,rfl,hl⟩
     . exact XiP h
   . exact XiP h
theorem Xgw{α:Type}{k:Nat}{l:List (Nat×α)}(h:k∉l.map (·.1)):look k l=none:=by
 cases hl:look k l with
 | none=>rfl
 | some x=>exact absurd (YaN.2 ⟨(k,x),X3O hl,rfl⟩) h
theorem Sim.freezes(hS:Sim P base M0 ios σ M w a st):∀{fz:List (Nat×X0L)},(∀p∈fz,∃e t l ver z,p.2=.frz e t l ver z/\look p.1 st.rows=some (.hot e t l ver none z))->(fz.map (·.1)).Nodup->∃M',Sim P base M0 ios σ M' w a (X6e fz st)
 | [],_,_=>⟨M,hS⟩
 | p::fz,h,hn=>by
   simp only[Yas,YaB]at hn;obtain⟨M1,h1⟩:=hS.freezes (λq hq=>h q (Yan _ hq)) hn.2;obtain⟨e,t,l,ver,z,e1,e2⟩:=h p (by simp);obtain⟨k,rv⟩:=p;simp only at e1 e2;subst e1;refine⟨_,h1.freeze (r:=k) (e:=e) (t:=t) (l:=l) (ver:=ver) (z:=z) ?_⟩;show look k (fz++st.rows)=_;rw[X5v,Xgw hn.1];exact e2
theorem Xs8{fz:List (Nat×X0L)}{r:Nat}(hf:∀p∈fz,(look p.1 st.rows).isSome=true)(h:noTag r st=true):noTag r (X6e fz st)=true:=by
 have h0:=XdA h;unfold noTag at h ⊢;rw[Yac,Yac]at h ⊢;refine⟨h.1,?_⟩;have:look r (fz++st.rows)=none:=by
  rw[X5v];cases hl:look r fz with
  | none=>exact h0
  | some x=>
    have:=hf _ (X3O hl);rw[h0]at this;cases this
 show(!(look r (fz++st.rows)).isSome)=true;rw[this];rfl
theorem Xl7{fz:List (Nat×X0L)}(hf:∀p∈fz,(look p.1 st.rows).isSome=true):∀{l:List (Nat×X0L)},noTags st l=true->noTags (X6e fz st) l=true
 | [],_=>rfl
 | p::l,h=>by
   simp only[noTags,Yac]at h ⊢;exact⟨Xs8 hf h.1,Xl7 hf h.2⟩
theorem Xfb{fz:List (Nat×X0L)}:∀{l:List (Nat×X0L)},noVers st l=true->noVers (X6e fz st) l=true
 | [],_=>rfl
 | (r,.hot _ _ _ _ _ _)::l,h=>by
   simp only[noVers,Yac]at h ⊢;exact⟨h.1,Xfb h.2⟩
 | (r,.cold _)::l,h=>by simp only[noVers]at h ⊢;exact Xfb h
 | (r,.frz _ _ _ _ _)::l,h=>by simp only[noVers]at h ⊢;exact Xfb h
theorem XnT{fz:List (Nat×X0L)}{e:Eff}{d:Option Nat}(hf:∀p∈fz,(look p.1 st.rows).isSome=true)(h:X3y e d st=true):X3y e d (X6e fz st)=true:=by
 unfold X3y at h ⊢;simp only[Yac]at h ⊢;exact⟨⟨⟨h.1.1.1,Xl7 hf h.1.1.2⟩,Xfb h.1.2⟩,h.2⟩
theorem XsL{fz:List (Nat×X0L)}{e:Eff}{d:Option Nat}:e.apply d (X6e fz st)=(e.frz fz).apply d st:=by
 unfold Eff.apply;rw[X5J,X5J];simp only[X6e,Eff.frz,X0A,Yam]
theorem Xh3{ps:List Prop}{X:Prop}(h:XxA ps X):(∀p∈ps,p)/\X:=by
 induction ps with
 | nil=>exact⟨λp hp=>by simp at hp,h⟩
 | cons p ps ih=>
   obtain⟨h1,h2⟩:=ih h.2;refine⟨λq hq=>?_,h2⟩;rcases Yak.1 hq with e | hq
   . subst e;exact h.1
   . exact h1 q hq
theorem XmK(hT:X1E P tab)(hS:Sim P base M0 ios σ M w a st)(hd:∀d,o.dst=some d->d<st.nt){neg:Bool}{em:Prop}(h:XkV tab o (o.op.operands.toList.map (X3x st))=some (neg,em)):
 ∃b:Bool,(b=true->em)/\(X7O P base M0 ios a o st {sv:=.val false [.bool (cond neg (!b) b)]} next->o.wp P a w next Q):=by
 unfold XkV at h;split at h
 . rename_i op t x y ty xi yi hop hins;rw[hop]at hins;simp only[Op.operands,Yas,YaI,Ycr,Ybm]at hins;obtain⟨rfl,rfl⟩:=hins;split at h
   . rename_i tl fs e b τ l hty hl hny;obtain⟨hrd,hag⟩:=Xd8 hS (X4u (M:=M) hS x) hl;have hy:a.eval y=.slice none 0 0:=by
      have:=(X4u (M:=M) hS y).rep;rw[hny]at this;exact this
     obtain⟨ad,cap,e1,h2,h3,h4⟩:=hrd;injection e1 with e1;have hu:=X5t hT hty;have hem:ad.isNone=true->l=[]:=λhn=>by
      cases l with
      | nil=>rfl
      | cons z l=>
        obtain⟨a',_,e2,_⟩:=h4 0 (by simp);rw[e2]at hn;cases hn
     have hrun:=run_equal_slice_nil (P:=P) w t _ ad l.length cap hu;have hgd:(eqGuard op t x y (.slice ad l.length cap) (.slice none 0 0)).run P w=.ok () w:=by cases op<;>simp[eqGuard]
     split at h
     . cases h;refine⟨ad.isNone,hem,λhn=>?_⟩;refine X1a (v:=.bool ad.isNone) (w':=w) ?_ (hn _ σ M w (hS.putO hd (XcC _)));simp[execOp,hop,e1,hy,hgd,binOp,hrun]
     . cases h;refine⟨ad.isNone,hem,λhn=>?_⟩;refine X1a (v:=.bool (!ad.isNone)) (w':=w) ?_ (hn _ σ M w (hS.putO hd (XcC _)));simp[execOp,hop,e1,hy,hgd,binOp,hrun]
     . cases h
   . cases h
 . cases h
theorem Xg3(hT:X1E P tab)(hΓ:XfO P Γ)(hS:Sim P base M0 ios σ M w a st){K:Eff->Prop}(h:XmV tab Γ o st K)(hn:∀e,K e->∀v σ' M' w',Sim P base M0 ios σ' M' w' (a.put o.dst v) (e.apply o.dst st)->next (a.put o.dst v) w'):o.wp P a w next Q:=by
 unfold XmV at h;split at h
 . rename_i hd;have hd':∀d,o.dst=some d->d<st.nt:=λd e2=>by rw[e2]at hd;simpa using hd
   simp only at h;generalize hfz:X7i ((o.op.operands.toList.map (X3x st)).flatMap (·.rows)) (X8I tab Γ o (o.op.operands.toList.map (X3x st)))=fz at h;have hmem:∀p∈fz,∃e t l ver z,p.2=.frz e t l ver z/\look p.1 st.rows=some (.hot e t l ver none z):=λp hp=>by
    rw[<-hfz]at hp;obtain⟨e,t,l,ver,z,h1,h2⟩:=XiP hp;exact⟨e,t,l,ver,z,h1,Xey (XlC (M:=M) hS _) _ _ h2⟩
   have hsome:∀p∈fz,(look p.1 st.rows).isSome=true:=λp hp=>by obtain⟨_,_,_,_,_,_,h2⟩:=hmem p hp;rw[h2];rfl
   split at h
   . rename_i hnd;obtain⟨M1,hS1⟩:=hS.freezes hmem (X8a hnd);have hins:Xic fz o st (o.op.operands.toList.map (X3x st))=o.op.operands.toList.map (X3x (X6e fz st)):=by
      unfold Xic;split
      . rfl
      . rfl
     rw[hins]at h;have hgo:∀e,K (e.frz fz)->X7O P base M0 ios a o (X6e fz st) e next:=λe hK v σ' M' w' hS'=>by
      rw[XsL]at hS';exact hn _ hK v σ' M' w' hS'
     split at h
     . rename_i con ts xs hc;refine Xr8 (tab:=tab) hΓ hS1 hd' hc (K:=λe=>K (e.frz fz)) ?_ (λe he _=>hgo e he);unfold Xgf at h ⊢;split at h
       . rename_i d x h1 h2 h3;obtain⟨hpre,hpost⟩:=h;refine⟨hpre,λy hy=>?_⟩;have h4:=hpost y hy;split at h4
         . rename_i br hbr;split at h4
           . rename_i hfr;simp only[hbr,XnT hsome hfr];exact h4
           . exact h4.elim
         . exact h4.elim
       . exact h.elim
     . split at h
       . rename_i neg em hnc;obtain⟨b,hb,hgo'⟩:=XmK hT hS1 hd' hnc (Q:=Q) (next:=next);exact hgo' (hgo _ (h b hb))
       . split at h
         . rename_i ps e he;split at h
           . rename_i hfr;obtain⟨hps,hK⟩:=Xh3 h;exact Xp5 hT hΓ.2 hS1 hd' he hps (XnT hsome hfr) (hgo e hK)
           . exact h.elim
         . exact h.elim
   . exact h.elim
 . exact h.elim
theorem Xqq(hT:X1E P tab)(hΓ:XfO P Γ)(hS:Sim P base M0 ios σ M w a st){K:St->Prop}(h:Xy3 tab Γ o st K)(hn:∀v σ' M' w' st',Sim P base M0 ios σ' M' w' (a.put o.dst v) st'->K st'->next (a.put o.dst v) w'):o.wp P a w next Q:=
 Xg3 hT hΓ hS h λe he v σ' M' w' hS'=>hn v σ' M' w' _ hS' he
theorem Sim.boolAt(hS:Sim P base M0 ios σ M w a st){d:Nat}{b:Bool}(h:st.get d=.val false [.bool b]):a.tmps.getD d undef=.bool b:=by
 have:=hS.slots d;rw[h]at this;exact(X0Y.one this).1
theorem XsB(st:St)(d:Nat)(b:Bool)(i:Nat):(st.lit d b).get i=if d=i then .val false [.bool b] else st.get i:=by
 simp only[St.get,St.lit,X08];by_cases h:d=i
 . simp[h]
 . simp[h]
theorem Sim.boolAs(hS:Sim P base M0 ios σ M w a st){d:Nat}{b c:Bool}(h:st.get d=.val false [.bool b])(hc:b=c):Sim P base M0 ios σ M w a (st.lit d c):=by
 subst hc;have hg:∀i,(st.lit d b).get i=st.get i:=λi=>by
  rw[XsB];split
  . rename_i e;subst e;exact h.symm
  . rfl
 exact {hS with
  slots:=λi=>by rw[hg];exact hS.slots i
  hot:=hS.hot.still rfl λ_ h=>h
  olds:=λi hi=>by rw[hg];exact hS.olds i hi}
theorem Xl2{ops:Array Oper}{tmps:Array Value}{j d:Nat}{b:Bool}(hj:X6i ops.toList j=some d)(h:tmps.getD d undef=.bool b):yielded ops tmps j=some b:=by
 unfold X6i at hj;unfold yielded;rw[<-YbJ];cases ho:ops.toList[j]? with
 | none=>rw[ho]at hj;cases hj
 | some o=>
   rw[ho]at hj;simp only[Ycm];have hj':o.dst=some d:=hj;rw[hj'];simp only[Ycm];have:tmps[d]?=some (.bool b):=by
    rw[Ybf]at h;cases ht:tmps[d]? with
    | none=>rw[ht]at h;cases h
    | some v=>rw[ht]at h;simp at h;rw[h]
   rw[this]
theorem Xjw{ops:Array Oper}{tmps:Array Value}{j d:Nat}(hj:X6i ops.toList j=some d)(h:tmps.getD d undef=.tuple #[]):yielded ops tmps j=none:=by
 unfold X6i at hj;unfold yielded;rw[<-YbJ];cases ho:ops.toList[j]? with
 | none=>rfl
 | some o=>
   rw[ho]at hj;simp only[Ycm];have hj':o.dst=some d:=hj;rw[hj'];simp only[Ycm];rw[Ybf]at h;cases ht:tmps[d]? with
   | none=>rfl
   | some v=>rw[ht]at h;simp at h;rw[h]
theorem Sim.skip(hS:Sim P base M0 ios σ M w a st)(hd:∀d,o.dst=some d->d<st.nt):Sim P base M0 ios σ M w (a.put o.dst undef) (X7S o st):=by
 unfold X7S;cases h:o.dst with
 | none=>exact hS
 | some d=>exact hS.put (hd d h) ⟨#[],rfl,.nil⟩
theorem Xt8(o:Oper)(st:St):(X7S o st).nt=st.nt:=by unfold X7S;cases o.dst<;>rfl
theorem XfS(hT:X1E P tab)(hΓ:XfO P Γ){ops:Array Oper}{K:St->Prop}(hq:∀σ' M' w' a' st',Sim P base M0 ios σ' M' w' a' st'->K st'->Q .normal a' w'):
 ∀(l:List Oper) (st:St) (σ:Sg) (M:Mem) (w:World) (a:Act),(∀o∈l,∀d,o.dst=some d->d<st.nt)->Sim P base M0 ios σ M w a st->Xk3 tab Γ ops.toList l st K->wpList P ops Q l a w
 | [],st,σ,M,w,a,_,hS,h=>hq _ _ _ _ _ hS h
 | o::rest,st,σ,M,w,a,hd,hS,h=>by
   have hd0:∀d,o.dst=some d->d<st.nt:=hd o (by simp);have one:∀(st2:St),st2.nt=st.nt->Sim P base M0 ios σ M w a st2->Xy3 tab Γ o st2 (λst'=>Xk3 tab Γ ops.toList rest st' K)->o.wp P a w (wpList P ops Q rest) Q:=by
    intro st2 hnt hS2 h2;refine Xqq hT hΓ hS2 h2 λv σ' M' w' st' hS' hK=>?_;refine XfS hT hΓ hq rest st' _ _ _ _ (λo' ho' d hd'=>?_) hS' hK;have e1:=hS'.nt;have e2:=hS.nt;have e3:(a.put o.dst v).tmps.size=a.tmps.size:=by cases o.dst<;>simp[Act.put]
    rw[<-e1,e3,e2];exact hd o' (by simp[ho']) d hd'
   have skip:∀(st2:St),st2.nt=st.nt->Sim P base M0 ios σ M w a st2->Xk3 tab Γ ops.toList rest (X7S o st2) K->wpList P ops Q rest (a.put o.dst undef) w:=by
    intro st2 hnt hS2 h2;refine XfS hT hΓ hq rest _ _ _ _ _ (λo' ho' d hd'=>?_) (hS2.skip (o:=o) λd e=>by rw[hnt];exact hd0 d e) h2;rw[Xt8,hnt];exact hd o' (by simp[ho']) d hd'
   simp only[Xk3]at h;unfold wpList;cases hg:o.guard with
   | none=>
     rw[hg]at h;have hw:Region.wanted o (yielded ops a.tmps)=true:=by simp[Region.wanted,hg]
     rw[Yah hw];exact .inl (one st rfl hS h)
   | some g=>
     obtain⟨j,Xep⟩:=g;rw[hg]at h;simp only at h;cases hj:X6i ops.toList j with
     | none=>rw[hj]at h;exact h.elim
     | some dj=>
       rw[hj]at h;simp only at h;split at h
       . rename_i b hb;replace h:=Xgy h;have hy:=Xl2 hj (hS.boolAt hb);have hw:Region.wanted o (yielded ops a.tmps)=(b==Xep):=by
          simp only[Region.wanted,hg,hy];cases b<;>cases Xep<;>rfl
         rw[hw];cases hbb:b with
         | true=>
           have h1:=h.1 hbb;have hS1:=hS.boolAs hb hbb;cases Xep with
           | true=>exact .inl (one (st.lit dj true) rfl hS1 h1)
           | false=>exact skip (st.lit dj true) rfl hS1 h1
         | false=>
           have h1:=h.2 hbb;have hS1:=hS.boolAs hb hbb;cases Xep with
           | false=>exact .inl (one (st.lit dj false) rfl hS1 h1)
           | true=>exact skip (st.lit dj false) rfl hS1 h1
       . rename_i hb;have hs:=hS.slots dj;rw[hb]at hs;obtain⟨vs,hv,h2⟩:=hs;have hvs:vs=#[]:=by
          have:vs.toList=[]:=by
           cases hl:vs.toList with
           | nil=>rfl
           | cons x l=>rw[hl]at h2;cases h2
          simpa using this
         rw[hvs]at hv;have hw:Region.wanted o (yielded ops a.tmps)=false:=by
          simp only[Region.wanted,hg,Xjw hj hv];rfl
         rw[hw];exact skip st rfl hS h
       . exact h.elim
theorem Xff{α:Type}{l l':List (Nat×α)}:∀{ks:List Nat},(∀k∈ks,look k l=look k l')->pick l ks=pick l' ks
 | [],_=>rfl
 | k::ks,h=>by
   simp only[pick,h k (by simp),Xff (ks:=ks) λk' hk'=>h k' (Yan _ hk')]
theorem Xhp{s s':St}{sv:Sv}(h1:∀k∈X4I sv,look k s.boxes=look k s'.boxes)(h2:∀r∈X8N sv++XeM (pick s.boxes (X4I sv)),look r s.rows=look r s'.rows):Xrt s sv=Xrt s' sv:=by
 have e1:=Xff h1;have e2:=Xff h2;unfold Xrt;simp only[<-e1,<-e2]
theorem Xis{s s':St}(h:Ext s s')(x:Operand):X3x s x=X3x s' x:=by
 cases x with
 | tmp t=>
   simp only[X3x,<-h.get t];exact Xhp (λk _=>h.box k) (λr _=>h.row r)
 | _=>rfl
def X1y(o:Oper)(x:Option Eff)(s:St):St:=match x with
 | some e=>e.apply o.dst s
 | none=>X7S o s
def XwD:Option Eff->Sv
 | some e=>e.sv
 | none=>.tup []
theorem Xgm(o:Oper)(x:Option Eff)(s:St):(X1y o x s).nt=s.nt:=by
 cases x with
 | some e=>rfl
 | none=>exact Xt8 o s
theorem XbJ(o:Oper)(x:Option Eff)(s:St)(i:Nat):(X1y o x s).get i=if o.dst=some i then XwD x else s.get i:=by
 cases x with
 | some e=>
   simp only[X1y,Eff.apply,St.get,XwD];cases h:o.dst with
   | none=>simp
   | some d=>
     simp only[X08,Yag];by_cases hd:d=i
     . simp[hd]
     . simp[hd]
 | none=>
   simp only[X1y,X7S,XwD];cases h:o.dst with
   | none=>simp
   | some d=>
     simp only[Yag,Xoj];by_cases hd:d=i
     . subst hd;simp
     . simp[hd,YaK hd]
theorem XfU(o:Oper)(x:Option Eff)(s:St)(i:Nat):i∈(X1y o x s).olds↔i∈s.olds/\o.dst≠some i:=by
 cases x with
 | some e=>
   simp only[X1y,Eff.apply];cases h:o.dst with
   | none=>simp
   | some d=>simp[YbA];intro _;exact⟨λh e=>h e.symm,λh e=>h e.symm⟩
 | none=>
   simp only[X1y,X7S];cases h:o.dst with
   | none=>simp
   | some d=>simp[St.put,YbA];intro _;exact⟨λh e=>h e.symm,λh e=>h e.symm⟩
def tB(o:Oper):Option Eff->List Nat
 | none=>[]
 | some e=>(match e.sbox with | some p=>[p.1] | none=>[])++(match o.dst,e.nbox with | some d,some _=>[d+1] | _,_=>[])
def tR:Option Eff->List Nat
 | none=>[]
 | some e=>e.nrow.map (·.1)++(e.urow.map (·.1)++e.krow)
theorem X3F{o:Oper}{x:Option Eff}{k:Nat}(h:k∉tB o x)(s:St):(X1y o x s).box k=s.box k:=by
 cases x with
 | none=>simp only[X1y,X7S];cases o.dst<;>rfl
 | some e=>
   simp only[tB,Yaf,YcD]at h;simp only[X1y,Eff.apply,St.box];cases hs:e.sbox with
   | none=>
     cases hd:o.dst with
     | none=>rfl
     | some d=>
       cases hn:e.nbox with
       | none=>rfl
       | some cs=>
         rw[hd,hn]at h;simp only[YaP]at h;simp only[X08,Yae (YaK h.2)]
   | some p=>
     rw[hs]at h;simp only[YaP]at h;obtain⟨pk,pc⟩:=p;simp only[X08,Yae (YaK h.1)];cases hd:o.dst with
     | none=>rfl
     | some d=>
       cases hn:e.nbox with
       | none=>rfl
       | some cs=>
         rw[hd,hn]at h;simp only[YaP]at h;simp only[X08,Yae (YaK h.2)]
theorem Xbq{o:Oper}{x:Option Eff}{k:Nat}(h:k∈tB o x)(s s':St):(X1y o x s).box k=(X1y o x s').box k:=by
 cases x with
 | none=>simp[tB]at h
 | some e=>
   simp only[tB,Yaf]at h;simp only[X1y,Eff.apply,St.box];cases hs:e.sbox with
   | none=>
     rw[hs]at h;cases hd:o.dst with
     | none=>rw[hd]at h;simp at h
     | some d=>
       cases hn:e.nbox with
       | none=>rw[hd,hn]at h;simp at h
       | some cs=>
         rw[hd,hn]at h;simp only[List.not_mem_nil,YaP,false_or]at h;simp[X08,h]
   | some p=>
     rw[hs]at h;obtain⟨pk,pc⟩:=p;simp only[X08];by_cases hk:pk=k
     . simp[hk]
     . simp only[Yae hk];cases hd:o.dst with
       | none=>rw[hd]at h;simp[YaK hk]at h
       | some d=>
         cases hn:e.nbox with
         | none=>rw[hd,hn]at h;simp[YaK hk]at h
         | some cs=>
           rw[hd,hn]at h;simp only[YaP,YaK hk,false_or]at h;simp[X08,h]
theorem Xjv{α:Type}{k:Nat}:∀{l:List (Nat×α)},k∈l.map (·.1)->∃x,look k l=some x
 | [],h=>by simp at h
 | (j,x)::l,h=>by
   rw[X08];split
   . exact⟨x,rfl⟩
   . rename_i hne;simp only[Yas,Yak]at h;rcases h with h | h
     . exact absurd h.symm hne
     . exact Xjv h
theorem XhF(e:Eff)(d:Option Nat)(s:St)(r:Nat):(e.apply d s).rowv r=match look r e.nrow with
 | some x=>some x
 | none=>if X51 r e.krow=true then(match look r e.urow with | some x=>some x | none=>s.rowv r) else none:=by
 simp only[St.rowv,Eff.apply,X5J,X5v,Xc0];cases look r e.nrow with
 | some x=>rfl
 | none=>
   cases X51 r e.krow with
   | false=>rfl
   | true=>cases look r e.urow<;>rfl
theorem X3G{o:Oper}{x:Option Eff}{r:Nat}(h:r∉tR x)(s:St):(X1y o x s).rowv r=s.rowv r:=by
 cases x with
 | none=>simp only[X1y,X7S];cases o.dst<;>rfl
 | some e=>
   simp only[tR,Yaf,YcD]at h;show(e.apply o.dst s).rowv r=_;rw[XhF,Xgw h.1,Xgw h.2.1];simp only[X59.2 h.2.2,Yci]
theorem XbB{o:Oper}{x:Option Eff}{r:Nat}(h:r∈tR x)(s s':St):(X1y o x s).rowv r=(X1y o x s').rowv r:=by
 cases x with
 | none=>simp[tR]at h
 | some e=>
   simp only[tR,Yaf]at h;show(e.apply o.dst s).rowv r=(e.apply o.dst s').rowv r;rw[XhF,XhF];by_cases hn:r∈e.nrow.map (·.1)
   . obtain⟨v,hv⟩:=Xjv hn;simp[hv]
   . rw[Xgw hn];simp only[hn,false_or]at h;by_cases hk:r∈e.krow
     . have:¬(X51 r e.krow=true):=λh'=>X59.1 h' hk;simp only[Yae this]
     . simp only[hk,or_false]at h;obtain⟨v,hv⟩:=Xjv h;simp[hv]
theorem Xfe{o:Oper}{x:Option Eff}{s s':St}(h:Ext s s'):Ext (X1y o x s) (X1y o x s') where
 nt:=by rw[Xgm,Xgm,h.nt]
 get:=λi=>by rw[XbJ,XbJ,h.get]
 box:=λk=>by
  by_cases hk:k∈tB o x
  . exact Xbq hk _ _
  . rw[X3F hk,X3F hk,h.box]
 row:=λr=>by
  by_cases hr:r∈tR x
  . exact XbB hr _ _
  . rw[X3G hr,X3G hr,h.row]
 olds:=λi=>by rw[XfU,XfU,h.olds]
structure Xn8 (o:Oper) (x:Option Eff) (o':Oper) (x':Option Eff):Prop where
 dst:∀d,o.dst=some d->o'.dst≠some d
 box:∀k,k∈tB o x->k∉tB o' x'
 row:∀r,r∈tR x->r∉tR x'
theorem Xn8.swap{o o':Oper}{x x':Option Eff}(h:Xn8 o x o' x')(s:St):Ext (X1y o x (X1y o' x' s)) (X1y o' x' (X1y o x s)) where
 nt:=by simp only[Xgm]
 get:=λi=>by
  simp only[XbJ];by_cases h1:o.dst=some i
  . have:=h.dst i h1;simp[h1,this]
  . simp[h1]
 box:=λk=>by
  by_cases hk:k∈tB o x
  . have:=h.box k hk;rw[X3F this,Xbq hk _ s]
  . rw[X3F hk];by_cases hk':k∈tB o' x'
    . exact Xbq hk' _ _
    . rw[X3F hk',X3F hk',X3F hk]
 row:=λr=>by
  by_cases hr:r∈tR x
  . have:=h.row r hr;rw[X3G this,XbB hr _ s]
  . rw[X3G hr];by_cases hr':r∈tR x'
    . exact XbB hr' _ _
    . rw[X3G hr',X3G hr',X3G hr]
 olds:=λi=>by
  simp only[XfU]
  constructor<;>(rintro ⟨⟨h1,h2⟩,h3⟩;exact⟨⟨h1,h3⟩,h2⟩)
def X8O(L:Nat->Bool):Nat->List (Oper×Option Eff)->St->St
 | _,[],s=>s
 | k,(o,x)::l,s=>X8O L (k+1) l (cond (L k) (X1y o x s) s)
theorem XlX{L:Nat->Bool}:∀{l:List (Oper×Option Eff)} {k:Nat} {s s':St},Ext s s'->Ext (X8O L k l s) (X8O L k l s')
 | [],_,_,_,h=>h
 | (o,x)::l,k,s,s',h=>by
   simp only[X8O];refine XlX ?_;cases L k
   . exact h
   . exact Xfe h
theorem XjD{L L':Nat->Bool}:∀{l:List (Oper×Option Eff)} {k:Nat} (s:St),(∀i,i<l.length->L (k+i)=L' (k+i))->X8O L k l s=X8O L' k l s
 | [],_,_,_=>rfl
 | (o,x)::l,k,s,h=>by
   simp only[X8O];have h0:=h 0 (by simp);rw[Ya6]at h0;rw[h0];exact XjD _ λi hi=>by have:=h (i+1) (by simp;omega);rwa [show k+1+i=k+(i+1) by omega]
structure Xeu (S B R:List Nat) (s s':St):Prop where
 get:∀i∈S,s.get i=s'.get i
 box:∀k∈B,s.box k=s'.box k
 row:∀r∈R,s.rowv r=s'.rowv r
structure Xp3 (S B R:List Nat) (o:Oper) (x:Option Eff):Prop where
 dst:∀d,o.dst=some d->d∉S
 box:∀k∈tB o x,k∉B
 row:∀r∈tR x,r∉R
theorem Xeu.both{S B R:List Nat}{s s':St}{o:Oper}{x:Option Eff}(h:Xeu S B R s s'):Xeu S B R (X1y o x s) (X1y o x s') where
 get:=λi hi=>by rw[XbJ,XbJ,h.get i hi]
 box:=λk hk=>by
  by_cases hb:k∈tB o x
  . exact Xbq hb _ _
  . rw[X3F hb,X3F hb,h.box k hk]
 row:=λr hr=>by
  by_cases hb:r∈tR x
  . exact XbB hb _ _
  . rw[X3G hb,X3G hb,h.row r hr]
theorem Xp3.agree{S B R:List Nat}{o:Oper}{x:Option Eff}(h:Xp3 S B R o x)(s:St):Xeu S B R (X1y o x s) s where
 get:=λi hi=>by rw[XbJ,Yae λe=>h.dst i e hi]
 box:=λk hk=>X3F (λhb=>h.box k hb hk) s
 row:=λr hr=>X3G (λhb=>h.row r hb hr) s
theorem Xeu.symm{S B R:List Nat}{s s':St}(h:Xeu S B R s s'):Xeu S B R s' s:=⟨λi hi=>(h.get i hi).symm,λi hi=>(h.box i hi).symm,λi hi=>(h.row i hi).symm⟩
theorem Xeu.trans{S B R:List Nat}{s s' s'':St}(h:Xeu S B R s s')(k:Xeu S B R s' s''):Xeu S B R s s'':=
 ⟨λi hi=>(h.get i hi).trans (k.get i hi),λi hi=>(h.box i hi).trans (k.box i hi),λi hi=>(h.row i hi).trans (k.row i hi)⟩
theorem XnL{S B R:List Nat}{L L':Nat->Bool}:∀{l:List (Oper×Option Eff)} {k:Nat} {s s':St},(∀j o x,l[j]?=some (o,x)->L (k+j)≠L' (k+j)->Xp3 S B R o x)->Xeu S B R s s'->
 Xeu S B R (X8O L k l s) (X8O L' k l s')
 | [],_,_,_,_,h=>h
 | (o,x)::l,k,s,s',hc,h=>by
   simp only[X8O];refine XnL (λj o' x' hj hne=>hc (j+1) o' x' (by simpa using hj) (by rwa [show k+(j+1)=k+1+j by omega])) ?_;have h0:=hc 0 o x (by simp);rw[Ya6]at h0;cases hl:L k<;>cases hl':L' k
   . exact h
   . exact h.trans ((h0 (by rw[hl,hl'];simp)).agree s').symm
   . exact((h0 (by rw[hl,hl'];simp)).agree s).trans h
   . exact h.both
theorem Xpy{L:Nat->Bool}{o:Oper}{x:Option Eff}:∀{l:List (Oper×Option Eff)} {k:Nat} {s:St},(∀j o' x',l[j]?=some (o',x')->L (k+j)=true->Xn8 o x o' x')->
 Ext (X1y o x (X8O L k l s)) (X8O L k l (X1y o x s))
 | [],_,_,_=>Ext.refl _
 | (o',x')::l,k,s,h=>by
   simp only[X8O];have h0:=h 0 o' x' (by simp);rw[Ya6]at h0;refine(Xpy (λj o2 x2 hj hl=>h (j+1) o2 x2 (by simpa using hj) (by rwa [show k+(j+1)=k+1+j by omega]))).trans ?_;cases hl:L k
   . exact Ext.refl _
   . exact XlX ((h0 hl).swap s)
theorem Xmi{L L':Nat->Bool}{o:Oper}{x:Option Eff}:∀{l:List (Oper×Option Eff)} {k j:Nat} {s:St},l[j]?=some (o,x)->L (k+j)=false->(∀i,L' i=(L i||i==k+j))->
 (∀i o' x',l[i]?=some (o',x')->j<i->L (k+i)=true->Xn8 o x o' x')->Ext (X1y o x (X8O L k l s)) (X8O L' k l s)
 | [],_,_,_,hj,_,_,_=>by simp at hj
 | (o',x')::l,k,0,s,hj,hL,hL',h=>by
   simp at hj;obtain⟨rfl,rfl⟩:=hj;rw[Ya6]at hL hL';have hk':L' k=true:=by rw[hL'];simp
   simp only[X8O,hL,hk',cond_false,Ydx];rw[XjD (L:=L') (L':=L) _ (λi _=>by rw[hL'];simp;omega)];exact Xpy λj o2 x2 hj hl=>h (j+1) o2 x2 (by simpa using hj) (by omega) (by rwa [show k+(j+1)=k+1+j by omega])
 | (o',x')::l,k,j+1,s,hj,hL,hL',h=>by
   simp only[X8O];have hk:L' k=L k:=by rw[hL'];simp
   rw[hk];refine Xmi (j:=j) (by simpa using hj) (by rwa [show k+1+j=k+(j+1) by omega]) (λi=>by rw[hL',show k+(j+1)=k+1+j by omega]) (λi o2 x2 hi hlt hl=>h (i+1) o2 x2 (by simpa using hi) (by omega) (by rwa [show k+(i+1)=k+1+i by omega]))
def Xd7:List Operand->List Nat
 | []=>[]
 | .tmp t::l=>t::Xd7 l
 | _::l=>Xd7 l
def Xtp(all:List Oper)(o:Oper):List Nat:=match o.guard with
 | some (j,_)=>(match X6i all j with | some d=>[d] | none=>[])
 | none=>[]
def opB(s:St):Operand->List Nat
 | .tmp t=>X4I (s.get t)
 | _=>[]
def opR(s:St):Operand->List Nat
 | .tmp t=>X8N (s.get t)++XeM (pick s.boxes (X4I (s.get t)))
 | _=>[]
def Xva(s:St):List Operand->List Nat
 | []=>[]
 | x::l=>opB s x++Xva s l
def Xvi(s:St):List Operand->List Nat
 | []=>[]
 | x::l=>opR s x++Xvi s l
theorem XiR{s s':St}{fz:List (Nat×X0L)}:∀(xs:List Operand),Xeu (Xd7 xs) (Xva s xs) (Xvi s xs) s s'->xs.map (X3x s')=xs.map (X3x s)/\xs.map (X3x (X6e fz s'))=xs.map (X3x (X6e fz s))
 | [],_=>⟨rfl,rfl⟩
 | x::xs,h=>by
   have rest:Xeu (Xd7 xs) (Xva s xs) (Xvi s xs) s s':=⟨λi hi=>h.get i (by cases x<;>simp[Xd7,hi]),λk hk=>h.box k (by simp[Xva,hk]),λr hr=>h.row r (by simp[Xvi,hr])⟩
   obtain⟨e1,e2⟩:=XiR (fz:=fz) xs rest;have hx:X3x s' x=X3x s x/\X3x (X6e fz s') x=X3x (X6e fz s) x:=by
    cases x with
    | tmp t=>
      have hg:s.get t=s'.get t:=h.get t (by simp[Xd7]);have hgf:(X6e fz s').get t=s'.get t:=rfl;have hgf':(X6e fz s).get t=s.get t:=rfl;simp only[X3x,hgf,hgf',<-hg];have hb:∀k∈X4I (s.get t),look k s.boxes=look k s'.boxes:=λk hk=>h.box k (by simp[Xva,opB,hk]);have hr:∀r∈X8N (s.get t)++XeM (pick s.boxes (X4I (s.get t))),look r s.rows=look r s'.rows:=λr hr=>h.row r (Yaf.2 (.inl hr));refine⟨(Xhp hb hr).symm,(Xhp (s:=X6e fz s) (s':=X6e fz s') hb λr hrm=>?_).symm⟩;show look r (fz++s.rows)=look r (fz++s'.rows);rw[X5v,X5v,hr r hrm]
    | _=>exact⟨rfl,rfl⟩
   exact⟨by rw[Yas,Yas,hx.1,e1],by rw[Yas,Yas,hx.2,e2]⟩
def Xf7(tab:Tab)(Γ:Gam)(o:Oper)(fz:List (Nat×X0L))(ins:List In):Option (List Prop×Eff):=
 match X60 (fz.map (·.1)) with
 | true=>match X55 Γ o ins with
   | some (con,ts,xs)=>match con.f,o.dst,Xix tab con ts xs,con.newR&&con.io with
     | some f,some d,some x,false=>match X8r x.rows x.cs con.backA (flat con.B (f x.i x.a).2.2) with
       | some br=>some ([con.pre x.i x.a],(X3z con d x (f x.i x.a) br).frz fz)
       | none=>none
     | _,_,_,_=>none
   | none=>match XfA tab Γ o ins with
     | some (ps,e)=>some (ps,e.frz fz)
     | none=>none
 | false=>none
def XcW(tab:Tab)(Γ:Gam)(o:Oper)(st:St):Option (List Prop×Eff):=
 let ins0:=o.op.operands.toList.map (X3x st)
 let fz:=X7i (ins0.flatMap (·.rows)) (X8I tab Γ o ins0)
 Xf7 tab Γ o fz (Xic fz o st ins0)
def XqO(tab:Tab)(Γ:Gam)(o:Oper)(st:St)(K:Eff->Prop):Prop:=
 match (match o.dst with | some d=>decide (d<st.nt) | none=>true) with
 | true=>
   let ins0:=o.op.operands.toList.map (X3x st)
   let fz:=X7i (ins0.flatMap (·.rows)) (X8I tab Γ o ins0)
   let ins:=Xic fz o st ins0
   match X60 (fz.map (·.1)) with
   | true=>
     match X55 Γ o ins with
     | some (con,ts,xs)=>match con.f with
       | some _=>Xgf tab con o ts xs st λe=>K (e.frz fz)
       | none=>False
     | none=>match XfA tab Γ o ins with
       | some (ps,e)=>match X3y e o.dst st with
         | true=>XxA ps (K (e.frz fz))
         | false=>False
       | none=>False
   | false=>False
 | false=>False
theorem XdV{fz:List (Nat×X0L)}:∀{l:List (Nat×X0L)},noVers st (l++fz)=true->noVers st l=true
 | [],_=>rfl
 | (r,.hot _ _ _ _ _ _)::l,h=>by
   simp only[Ybc,noVers,Yac]at h ⊢;exact⟨h.1,XdV h.2⟩
 | (r,.cold _)::l,h=>by simp only[Ybc,noVers]at h ⊢;exact XdV h
 | (r,.frz _ _ _ _ _)::l,h=>by simp only[Ybc,noVers]at h ⊢;exact XdV h
theorem XdO{fz:List (Nat×X0L)}{e:Eff}{d:Option Nat}(h:X3y (e.frz fz) d st=true):X3y e d st=true:=by
 unfold X3y at h ⊢;simp only[Yac]at h ⊢;exact⟨⟨h.1.1,XdV h.1.2⟩,h.2⟩
theorem XsZ{ps:List Prop}{X:Prop}(h:∀p∈ps,p)(hx:X):XxA ps X:=by
 induction ps with
 | nil=>exact hx
 | cons p ps ih=>exact⟨h p (by simp),ih λq hq=>h q (by simp[hq])⟩
theorem Xob{ins:List In}{x:List Prop×Eff}(h:XfA tab Γ o ins=some x):XkV tab o ins=none:=by
 unfold XkV;split
 . rename_i op t x y ty xi yi hop;split
   . rename_i hn;exfalso;unfold XfA at h;rw[hop]at h;simp only[hn]at h;split at h<;>first | (cases h;done) | simp_all
   . rfl
 . rfl
theorem XjW{ps:List Prop}{e:Eff}(h:Xf7 tab Γ o (X7i ((o.op.operands.toList.map (X3x st)).flatMap (·.rows)) (X8I tab Γ o (o.op.operands.toList.map (X3x st)))) (Xic (X7i ((o.op.operands.toList.map (X3x st)).flatMap (·.rows)) (X8I tab Γ o (o.op.operands.toList.map (X3x st)))) o st (o.op.operands.toList.map (X3x st)))=some (ps,e))(hps:∀p∈ps,p)(hf:X3y e o.dst st=true):
 let ins0:=o.op.operands.toList.map (X3x st)
 let fz:=X7i (ins0.flatMap (·.rows)) (X8I tab Γ o ins0)
 let ins:=Xic fz o st ins0
 match X60 (fz.map (·.1)) with
 | true=>
   match X55 Γ o ins with
   | some (con,ts,xs)=>Xgf tab con o ts xs st λe'=>e'.frz fz=e
   | none=>match XkV tab o ins with
     | some (neg,em)=>∀b:Bool,(b=true->em)->(({sv:=.val false [.bool (cond neg (!b) b)]}:Eff).frz fz)=e
     | none=>match XfA tab Γ o ins with
       | some (ps,e')=>match X3y e' o.dst st with
         | true=>XxA ps (e'.frz fz=e)
         | false=>False
       | none=>False
 | false=>False:=by
 intro ins0 fz ins;have h':Xf7 tab Γ o fz ins=some (ps,e):=h;clear h;generalize fz=fz at*;generalize ins=ins at*;unfold Xf7 at h';cases hnd:X60 (fz.map (·.1)) with
 | false=>rw[hnd]at h';cases h'
 | true=>
   rw[hnd]at h';simp only at h' ⊢;cases hc:X55 Γ o ins with
   | some t=>
     obtain⟨con,ts,xs⟩:=t;rw[hc]at h';simp only at h' ⊢;split at h'
     . rename_i f d x hcf hdst hx hnew;split at h'
       . rename_i br hbr;cases h';unfold Xgf;simp only[hdst,hx,hnew];refine⟨hps _ (by simp),λy hy=>?_⟩;have hy':y=f x.i x.a:=by simpa [Con.Post,hcf] using hy
         subst hy';simp only[hbr];rw[hdst]at hf;simp only[XdO hf]
       . cases h'
     . cases h'
   | none=>
     rw[hc]at h';simp only at h' ⊢;cases he:XfA tab Γ o ins with
     | none=>rw[he]at h';cases h'
     | some t=>
       obtain⟨ps',e'⟩:=t;rw[he]at h';cases h';simp only[XdO hf,Xob he];exact XsZ hps trivial
theorem Xov{ps:List Prop}{e:Eff}(hT:X1E P tab)(hΓ:XfO P Γ)(hS:Sim P base M0 ios σ M w a st)(hd:∀d,o.dst=some d->d<st.nt)(h:XcW tab Γ o st=some (ps,e))(hps:∀p∈ps,p)(hf:X3y e o.dst st=true)(hn:X7O P base M0 ios a o st e next):o.wp P a w next Q:=by
 refine Xg3 (tab:=tab) (Γ:=Γ) (K:=λe'=>e'=e) hT hΓ hS ?_ (λe' he v σ' M' w' hS'=>by subst he;exact hn v σ' M' w' hS');unfold XcW at h;unfold XmV;split
 . exact XjW h hps hf
 . rename_i hdd;exfalso;cases hdst:o.dst with
   | none=>rw[hdst]at hdd;cases hdd
   | some d=>rw[hdst]at hdd;have:=hd d hdst;simp only[Yaw]at hdd;exact hdd this
theorem Xr5{K:Eff->Prop}(h:XqO tab Γ o st K):∃ps e,(∀d,o.dst=some d->d<st.nt)/\XcW tab Γ o st=some (ps,e)/\(∀p∈ps,p)/\K e:=by
 unfold XqO at h;split at h
 . rename_i hd;have hd':∀d,o.dst=some d->d<st.nt:=λd e2=>by rw[e2]at hd;simpa using hd
   unfold XcW;simp only at h ⊢;generalize X7i ((o.op.operands.toList.map (X3x st)).flatMap (·.rows)) (X8I tab Γ o (o.op.operands.toList.map (X3x st)))=fz at h ⊢;generalize Xic fz o st (o.op.operands.toList.map (X3x st))=ins at h ⊢;unfold Xf7;cases hnd:X60 (fz.map (·.1)) with
   | false=>rw[hnd]at h;exact h.elim
   | true=>
     rw[hnd]at h;simp only at h ⊢;cases hc:X55 Γ o ins with
     | some t=>
       obtain⟨con,ts,xs⟩:=t;rw[hc]at h;simp only at h ⊢;split at h
       . rename_i f hcf;unfold Xgf at h;split at h
         . rename_i d x hdst hx hnew;obtain⟨hpre,hpost⟩:=h;have h2:=hpost (f x.i x.a) (by simp[Con.Post,hcf]);split at h2
           . rename_i br hbr;split at h2
             . simp only[hcf,hdst,hx,hnew,hbr];rw[hdst]at hd';exact⟨_,_,hd',rfl,λp hp=>by rw[YaP.1 hp];exact hpre,h2⟩
             . exact h2.elim
           . exact h2.elim
         . exact h.elim
       . exact h.elim
     | none=>
       rw[hc]at h;simp only at h ⊢;cases he:XfA tab Γ o ins with
       | none=>rw[he]at h;exact h.elim
       | some t=>
         obtain⟨ps,e⟩:=t;rw[he]at h;simp only at h ⊢;split at h
         . obtain⟨h1,h2⟩:=Xh3 h;exact⟨ps,_,hd',rfl,h1,h2⟩
         . exact h.elim
 . exact h.elim
theorem XiI{s s':St}{fz:List (Nat×X0L)}{ins:List In}(h:o.op.operands.toList.map (X3x (X6e fz s'))=o.op.operands.toList.map (X3x (X6e fz s))):Xic fz o s' ins=Xic fz o s ins:=by
 unfold Xic;split
 . rfl
 . exact h
theorem Xj3{s s':St}(h0:o.op.operands.toList.map (X3x s')=o.op.operands.toList.map (X3x s))(h:∀fz,o.op.operands.toList.map (X3x (X6e fz s'))=o.op.operands.toList.map (X3x (X6e fz s))):XcW tab Γ o s'=XcW tab Γ o s:=by
 unfold XcW;simp only[h0,XiI (h _)]
theorem XsJ{s s':St}{fz:List (Nat×X0L)}(h:Ext s s'):Ext (X6e fz s) (X6e fz s'):=
 ⟨h.nt,h.get,h.box,λr=>by
   have:=h.row r;simp only[St.rowv]at this;simp only[St.rowv,X6e,X5v,this],h.olds⟩
theorem Xtt{s s':St}(h:Ext s s'):XcW tab Γ o s'=XcW tab Γ o s:=
 Xj3 (YbE λx _=>(Xis h x).symm) λfz=>YbE λx _=>(Xis (XsJ h) x).symm
def Xg2(tab:Tab)(Γ:Gam)(all:List Oper):List Oper->St->(List (Option Eff)->St->Prop)->Prop
 | [],st,K=>K [] st
 | o::rest,st,K=>match o.guard with
   | none=>XqO tab Γ o st λe=>Xg2 tab Γ all rest (e.apply o.dst st) λouts st'=>K (some e::outs) st'
   | some (j,Xep)=>match X6i all j with
     | some dj=>match st.get dj with
       | .val false [.bool b]=>X00 b
          (cond Xep (XqO tab Γ o (st.lit dj true) λe=>Xg2 tab Γ all rest (e.apply o.dst (st.lit dj true)) λouts st'=>K (some e::outs) st')
            (Xg2 tab Γ all rest (X7S o (st.lit dj true)) λouts st'=>K (none::outs) st'))
          (cond Xep (Xg2 tab Γ all rest (X7S o (st.lit dj false)) λouts st'=>K (none::outs) st')
            (XqO tab Γ o (st.lit dj false) λe=>Xg2 tab Γ all rest (e.apply o.dst (st.lit dj false)) λouts st'=>K (some e::outs) st'))
       | .tup []=>Xg2 tab Γ all rest (X7S o st) λouts st'=>K (none::outs) st'
       | _=>False
     | none=>False
def Xep(all:List Oper)(o:Oper)(s:St):Option Bool:=match o.guard with
 | none=>some true
 | some (j,wn)=>match X6i all j with
   | some d=>match s.get d with
     | .val false [.bool b]=>some (b==wn)
     | .tup []=>some false
     | _=>none
   | none=>none
def Xfg(tab:Tab)(Γ:Gam)(all:List Oper)(s:St)(o:Oper):Option Eff->Prop
 | some e=>Xep all o s=some true/\∃ps,XcW tab Γ o s=some (ps,e)/\∀p∈ps,p
 | none=>Xep all o s=some false
theorem Xfg.ext{all:List Oper}{s s':St}{o:Oper}{x:Option Eff}(h:Ext s s')(hg:Xfg tab Γ all s o x):Xfg tab Γ all s' o x:=by
 have hw:Xep all o s'=Xep all o s:=by
  unfold Xep;split
  . rfl
  . split
    . rw[h.get]
    . rfl
 cases x with
 | some e=>
   obtain⟨h1,ps,h2,h3⟩:=hg;exact⟨by rw[hw];exact h1,ps,by rw[Xtt h];exact h2,h3⟩
 | none=>show Xep all o s'=some false;rw[hw];exact hg
def X1F(l:List (Oper×Option Eff))(s:St):St:=X8O (λ_=>true) 0 l s
theorem X6b(o:Oper)(x:Option Eff)(l:List (Oper×Option Eff))(s:St):X1F ((o,x)::l) s=X1F l (X1y o x s):=by
 unfold X1F;simp only[X8O,Ydx];have:∀(l:List (Oper×Option Eff)) (k k':Nat) (s:St),X8O (λ_=>true) k l s=X8O (λ_=>true) k' l s:=by
  intro l
  induction l with
  | nil=>intros;rfl
  | cons p l ih=>intro k k' s;obtain⟨o,x⟩:=p;simp only[X8O];exact ih _ _ _
 exact this _ _ _ _
theorem XbK{l:List (Oper×Option Eff)}{s s':St}(h:Ext s s'):Ext (X1F l s) (X1F l s'):=XlX h
theorem XeN{st:St}{d:Nat}{b c:Bool}(h:st.get d=.val false [.bool b])(hc:b=c):Ext (st.lit d c) st where
 nt:=rfl
 get:=λi=>by
  rw[XsB];split
  . rename_i e;subst e;subst hc;exact h.symm
  . rfl
 box:=λ_=>rfl
 row:=λ_=>rfl
 olds:=λ_=>Yc8
theorem XbH{all:List Oper}:∀(l:List Oper) (st:St) (K:List (Option Eff)->St->Prop),Xg2 tab Γ all l st K->
 ∃outs st',outs.length=l.length/\K outs st'/\Ext st' (X1F (l.zip outs) st)/\∀j o x,(l.zip outs)[j]?=some (o,x)->Xfg tab Γ all (X1F ((l.zip outs).take j) st) o x
 | [],st,K,h=>⟨[],st,rfl,h,Ext.refl _,λj o x hj=>by simp at hj⟩
 | o::rest,st,K,h=>by
   have one:∀(st2:St),Ext st2 st->Xep all o st=some true->XqO tab Γ o st2 (λe=>Xg2 tab Γ all rest (e.apply o.dst st2) λouts st'=>K (some e::outs) st')->
    ∃outs st',outs.length=(o::rest).length/\K outs st'/\Ext st' (X1F ((o::rest).zip outs) st)/\∀j o' x,((o::rest).zip outs)[j]?=some (o',x)->Xfg tab Γ all (X1F (((o::rest).zip outs).take j) st) o' x:=by
    intro st2 he hw h2;obtain⟨ps,e,_,heq,hps,hK⟩:=Xr5 h2;obtain⟨outs,st',h3,h4,h5,h6⟩:=XbH rest _ _ hK;have hx:Ext (X1y o (some e) st2) (X1y o (some e) st):=Xfe he;refine⟨some e::outs,st',by simp[h3],h4,?_,?_⟩
    . rw[Ybp,X6b];exact h5.trans (XbK hx)
    . intro j o' x hj;rw[Ybp]at hj ⊢;cases j with
      | zero=>
        simp at hj;obtain⟨rfl,rfl⟩:=hj;have:Xfg tab Γ all st2 o (some e):=⟨by
         unfold Xep at hw ⊢;split at hw
         . rfl
         . split at hw
           . rename_i d _;rw[he.get];exact hw
           . exact hw,ps,heq,hps⟩
        exact this.ext he
      | succ j=>
        rw[Yb1,X6b];exact(h6 j o' x (by simpa using hj)).ext (XbK hx)
   have skip:∀(st2:St),Ext st2 st->Xep all o st=some false->Xg2 tab Γ all rest (X7S o st2) (λouts st'=>K (none::outs) st')->
    ∃outs st',outs.length=(o::rest).length/\K outs st'/\Ext st' (X1F ((o::rest).zip outs) st)/\∀j o' x,((o::rest).zip outs)[j]?=some (o',x)->Xfg tab Γ all (X1F (((o::rest).zip outs).take j) st) o' x:=by
    intro st2 he hw h2;obtain⟨outs,st',h3,h4,h5,h6⟩:=XbH rest _ _ h2;have hx:Ext (X1y o none st2) (X1y o none st):=Xfe he;refine⟨none::outs,st',by simp[h3],h4,?_,?_⟩
    . rw[Ybp,X6b];exact h5.trans (XbK hx)
    . intro j o' x hj;rw[Ybp]at hj ⊢;cases j with
      | zero=>simp at hj;obtain⟨rfl,rfl⟩:=hj;exact hw
      | succ j=>
        rw[Yb1,X6b];exact(h6 j o' x (by simpa using hj)).ext (XbK hx)
   simp only[Xg2]at h;cases hg:o.guard with
   | none=>
     rw[hg]at h;exact one st (Ext.refl _) (by unfold Xep;rw[hg]) h
   | some g=>
     obtain⟨j,wn⟩:=g;rw[hg]at h;simp only at h;cases hj:X6i all j with
     | none=>rw[hj]at h;exact h.elim
     | some dj=>
       rw[hj]at h;simp only at h;split at h
       . rename_i b hb;have hw:Xep all o st=some (b==wn):=by unfold Xep;rw[hg];simp only[hj,hb]
         replace h:=Xgy h;cases hbb:b with
         | true=>
           have h1:=h.1 hbb;cases wn with
           | true=>exact one _ (XeN hb hbb) (by rw[hw,hbb];rfl) h1
           | false=>exact skip _ (XeN hb hbb) (by rw[hw,hbb];rfl) h1
         | false=>
           have h1:=h.2 hbb;cases wn with
           | false=>exact one _ (XeN hb hbb) (by rw[hw,hbb];rfl) h1
           | true=>exact skip _ (XeN hb hbb) (by rw[hw,hbb];rfl) h1
       . rename_i hb;exact skip st (Ext.refl _) (by unfold Xep;rw[hg];simp only[hj,hb]) h
       . exact h.elim
end Go.Proofs.YthpdkligbfbjeaaGreat.Bv
