/- slices.Insert at elements of two cells:what it leaves. -/
import Derived.Test.YtgmafgmjbaoomaaGreatWD
import Derived.Shelf.Spec.SlicesInsertGrow
set_option maxRecDepth 100000
set_option linter.unusedVariables false
set_option linter.unusedSimpArgs false
namespace Go.Proofs.YtgmafgmjbaoomaaGreat.B
open Go Go.Proofs.YtgmafgmjbaoomaaGreat.Bv Go.Proofs Go.Shelf Go.RowKit Go.Lib
structure Xdu (P:Program) (ρ:Ren):Prop where
 mixed:P.follows .mixedOrders=true
 f22:∃nm:String,(nm== "runtime.NumGoroutine")=false∧P.funcs[ρ.f 22]?=some {Body2.n22 ρ with name:=nm}
 f29:∃fo:Func,P.funcs[ρ.f 29]?=some fo∧(fo.name== "runtime.NumGoroutine")=false∧fo.body.isNone=true∧Extern.findNext fo=none∧Extern.find fo=some (Extern.SlicesOverlaps.overlaps #[ρ.t 24,ρ.t 24] #[ρ.t 4])
 t0:P.underlying (ρ.t 0)=some (TypeDesc.tuple #[])
 a0:∀w,(isAgg (ρ.t 0)).run P w=.ok false w
 z0:∀w,(Go.sizeOf (ρ.t 0)).run P w=.ok 1 w
 v0:∀w,(zeroValue (ρ.t 0)).run P w=.ok (Value.tuple #[]) w
 t3:P.underlying (ρ.t 3)=some (TypeDesc.int IntKind.i64)
 a3:∀w,(isAgg (ρ.t 3)).run P w=.ok false w
 z3:∀w,(Go.sizeOf (ρ.t 3)).run P w=.ok 1 w
 v3:∀w,(zeroValue (ρ.t 3)).run P w=.ok (Value.int IntKind.i64 0) w
 t4:P.underlying (ρ.t 4)=some (TypeDesc.bool)
 a4:∀w,(isAgg (ρ.t 4)).run P w=.ok false w
 z4:∀w,(Go.sizeOf (ρ.t 4)).run P w=.ok 1 w
 v4:∀w,(zeroValue (ρ.t 4)).run P w=.ok (Value.bool false) w
 z9:∀w,(Go.sizeOf (ρ.t 9)).run P w=.ok 2 w
 t24:P.underlying (ρ.t 24)=some (TypeDesc.slice (ρ.t 9))
 a24:∀w,(isAgg (ρ.t 24)).run P w=.ok false w
 z24:∀w,(Go.sizeOf (ρ.t 24)).run P w=.ok 1 w
 v24:∀w,(zeroValue (ρ.t 24)).run P w=.ok (Value.slice none 0 0) w
 i9:∃i z,P.info? (ρ.t 9)=some i∧i.zero=some z∧z.cells.size=i.size∧i.size=2
variable {P:Program} {ρ:Ren}
structure Xnj (w w':World):Prop where
 heap:w'.heap=w.heap
 os:w'.os=w.os
 tape:w'.tape=w.tape
 output:w'.output=w.output
theorem X9N(w:World){t t' ty e:TypeId}{k:Nat}(hu:P.underlying t=some (.slice e))(hsz:∀w,(Go.sizeOf e).run P w=.ok k w){g o nd dc ns sc q:Nat}{a:Addr}{us:List Value}{arr:Array Value}{E:TypeId}(hg:w.heap[g]?=some (.cells arr E (0,0)))(hul:us.length=q*k)(hq:Nat.min ns nd=q)(hsrc:∀j u,us[j]?=some u→w.cell? (a.add j)=some u)(hfit:o+us.length≤arr.size)(h1:∀u∈us,u.oneCell'=true):
 (Builtin.copy_ #[t,t'] ty #[.slice (some ⟨g,o,none⟩) nd dc,.slice (some a) ns sc]).run P w=.ok (goInt (q:Int)) (w.setRow g (X1k arr o us)):=by
 have hst:=run_storeCells_at P g o E us 0 arr w hg (by rw[Nat.add_zero];exact hfit) h1
 simp only[Nat.add_zero]at hst
 have hfc:=run_firstCells_some (P:=P) w k q a ns sc us hul hsrc
 simp only[Builtin.copy_,List.getElem?_toArray,List.getElem?_cons_zero,List.getElem?_cons_succ,Sem.run_bind,run_underlying hu,Builtin.lenOf,Sem.run_pure,Result.andThen_ok,hsz w,hq,hfc]
 simp only[hst,Result.andThen_ok,Sem.run_pure,X1k]
set_option maxHeartbeats 4000000 in
theorem XiQ(L:Xdu P ρ)(b off n c i vb voff m vc:Nat)(arr arrv:Array Value)(E Ev:TypeId)(us:List Value)(w:World)(hi:i<n)(hm:0<m)(hroom:n+m≤c)(hc63:c≤9223372036854775807)(hvb:vb≠b)(hb:w.heap[b]?=some (.cells arr E (0,0)))(hsz:off+c*2≤arr.size)(hv:w.heap[vb]?=some (.cells arrv Ev (0,0)))(hul:us.length=m*2)(hus:∀j u,us[j]?=some u→w.cell? ⟨vb,voff+j,none⟩=some u)(h1c:∀u∈(arr.toList.drop (off+i*2)).take ((n - i)*2),u.oneCell'=true)(h1v:∀u∈us,u.oneCell'=true):
 Calls P (ρ.f 22) #[.slice (some ⟨b,off,none⟩) n c,.int .i64 i,.slice (some ⟨vb,voff,none⟩) m vc] w fun e w'=>
  e=.returned (.slice (some ⟨b,off,none⟩) (n+m) c)∧Xnj (w.setRow b (X1k (X1k arr (off+(i+m)*2) ((arr.toList.drop (off+i*2)).take ((n - i)*2))) (off+i*2) us)) w':=by
 have t0:=L.t0;have a0:=L.a0;have z0:=L.z0;have v0:=L.v0;have t3:=L.t3;have a3:=L.a3;have z3:=L.z3;have v3:=L.v3;have t4:=L.t4;have a4:=L.a4;have z4:=L.z4;have v4:=L.v4;have z9:=L.z9;have t24:=L.t24;have a24:=L.a24;have z24:=L.z24;have v24:=L.v24
 have u0:=run_underlying L.t0;have u3:=run_underlying L.t3;have u4:=run_underlying L.t4;have u24:=run_underlying L.t24
 have hz1:¬((m:Int)=0):=by omega
 have hz2:¬((i:Int)=(n:Int)):=by omega
 have hov:∀lb cb,(callFunc (ρ.f 29) #[.slice (some ⟨vb,voff,none⟩) m vc,.slice (some ⟨b,off+(i+m)*2,none⟩) lb cb]).run P w=.ok (.value (.bool false)) w:=fun lb cb=>by
  obtain⟨fo,h1,h2,h3,h4,h5⟩:=L.f29
  rw [run_callFunc_extern h1 h2 h3 h4 h5,
   Lib.run_overlaps_apart w (ρ.t 24) (ρ.t 4) (ρ.t 9) L.t24 2 L.z9 ⟨vb,voff,none⟩ ⟨b,off+(i+m)*2,none⟩ m vc lb cb hvb Ev E arrv.size arr.size (by simp[World.shape?,hv]) (by simp[World.shape?,hb]) (by omega) (by simp[World.frozen?,hv]) (by simp[World.frozen?,hv])]
  rfl
 have mixed:=L.mixed
 have hw1:IntKind.i64.wrap ((i:Int)+(m:Int))=(i:Int)+(m:Int):=by rw[IntKind.wrap_i64];omega
 have hb1:(0:Int)≤(i:Int)+(m:Int):=by omega
 have hin:i≤n:=by omega
 have htn:((i:Int)+(m:Int)).toNat=i+m:=by omega
 have hb2:¬(c=i+m):=by omega
 have hb3:(i:Int)≤(n:Int)+(m:Int):=by omega
 have hb4:¬(c=i):=by omega
 obtain⟨cs,hcs⟩:∃cs,cs=(arr.toList.drop (off+i*2)).take ((n - i)*2):=⟨_,rfl⟩
 rw[←hcs]at h1c ⊢
 have hcl:cs.length=(n - i)*2:=by
  rw[hcs,List.length_take,List.length_drop,Array.length_toList];omega
 have hcp1:∀ty dc sc,(Builtin.copy_ #[(ρ.t 24),(ρ.t 24)] ty #[.slice (some ⟨b,off+(i+m)*2,none⟩) (n+m - (i+m)) dc,.slice (some ⟨b,off+i*2,none⟩) (n+m - i) sc]).run P w.drew=.ok (goInt ((n - i:Nat):Int)) (w.drew.setRow b (X1k arr (off+(i+m)*2) cs)):=fun ty dc sc=>
  X9N w.drew L.t24 L.z9 (by exact hb) hcl (by simp only[Nat.min_def];split<;>omega) (fun j u hj=>by
   rw[X6Q]
   rw[hcs,List.getElem?_take]at hj
   split at hj
   · exact X43 (w:=w.drew) hb hj
   · cases hj) (by rw[hcl];omega) h1c
 obtain⟨W1,hW1⟩:∃W1,W1=w.drew.setRow b (X1k arr (off+(i+m)*2) cs):=⟨_,rfl⟩
 have hA1:W1.heap[b]?=some (.cells (X1k arr (off+(i+m)*2) cs) E (0,0)):=by rw[hW1];exact setRow_heap w.drew b arr _ E _ hb
 have hs1:(X1k arr (off+(i+m)*2) cs).size=arr.size:=X5b (by rw[hcl];omega)
 have hcp2:∀(W:World),W.heap=W1.heap→∀ty dc,(Builtin.copy_ #[(ρ.t 24),(ρ.t 24)] ty #[.slice (some ⟨b,off+i*2,none⟩) (n+m - i) dc,.slice (some ⟨vb,voff,none⟩) m vc]).run P W=.ok (goInt (m:Int)) (W.setRow b (X1k (X1k arr (off+(i+m)*2) cs) (off+i*2) us)):=fun W hW ty dc=>
  X9N W L.t24 L.z9 (by rw[hW];exact hA1) hul (by simp only[Nat.min_def];split<;>omega) (fun j u hj=>by
   rw[X6Q]
   have h0:=hus j u hj
   have h2:W.heap[vb]?=w.heap[vb]?:=by rw[hW,hW1];exact setRow_other w.drew b vb _ hvb
   simp only[World.cell?]at h0 ⊢
   rw[h2];exact h0) (by rw[hs1,hul];omega) h1v
 rw[←hW1]at hcp1
 obtain⟨nm,hnm,F22⟩:=L.f22
 go_enter F22,Body2.n22_ntmps ρ
 go_wp2_with (simp only[hov])
 go_region_law_o (refine step_copy_runI rfl _ _ (ρ.t 24) (ρ.t 24) rfl _ _ (by simp[Act.eval,Act.put]) (by simp[Act.eval,Act.put]) (hcp1 _ _ _) ?_)
 go_wp2_with (at_builtin;refine wpList_copy_runI _ rfl _ _ (ρ.t 24) (ρ.t 24) rfl _ _ rfl rfl (hcp2 _ rfl _ _) ?_)
 go_ret
 refine⟨rfl,?_⟩
 rw[setRow_setRow,←hcs]
 exact⟨rfl,rfl,rfl,rfl⟩
set_option maxHeartbeats 4000000 in
theorem Xlr(L:Xdu P ρ)(b off n c i vb voff m vc:Nat)(arr arrv:Array Value)(E Ev:TypeId)(us:List Value)(w:World)(hi:i<n)(hm:0<m)(hnc:n≤c)(hroom:c<n+m)(bytes:Nat)(hby:∀i,P.info? (ρ.t 9)=some i→i.bytes=bytes)(hbig:(n+m)*bytes≤140737488355328)(hnm:n+m≤maxLen)(hvb:vb≠b)(hb:w.heap[b]?=some (.cells arr E (0,0)))(hsz:off+c*2≤arr.size)(hv:w.heap[vb]?=some (.cells arrv Ev (0,0)))(hul:us.length=m*2)(hus:∀j u,us[j]?=some u→w.cell? ⟨vb,voff+j,none⟩=some u)(h1c:∀u∈(arr.toList.drop off).take (n*2),u.oneCell'=true)(h1v:∀u∈us,u.oneCell'=true):
 Calls P (ρ.f 22) #[.slice (some ⟨b,off,none⟩) n c,.int .i64 i,.slice (some ⟨vb,voff,none⟩) m vc] w fun e w'=>
  ∃(G:Nat) (tl:List Value),n+m≤G∧G≤maxLen∧tl.length=(G - (n+m))*2∧e=.returned (.slice (some ⟨w.heap.size,0,none⟩) (n+m) G)∧
   Xnj (w.alloc (.cells ((arr.toList.drop off).take (i*2)++(us++((arr.toList.drop (off+i*2)).take ((n - i)*2)++tl))).toArray (ρ.t 9))) w':=by
 have t0:=L.t0;have a0:=L.a0;have z0:=L.z0;have v0:=L.v0;have t3:=L.t3;have a3:=L.a3;have z3:=L.z3;have v3:=L.v3;have t4:=L.t4;have a4:=L.a4;have z4:=L.z4;have v4:=L.v4;have z9:=L.z9;have t24:=L.t24;have a24:=L.a24;have z24:=L.z24;have v24:=L.v24
 have u0:=run_underlying L.t0;have u3:=run_underlying L.t3;have u4:=run_underlying L.t4;have u24:=run_underlying L.t24
 have mixed:=L.mixed
 obtain⟨i0,z,hi0,hz0,hzc,hzs⟩:=L.i9
 have hzb:=hby i0 hi0
 have hz2c:z.cells.size=2:=hzc.trans hzs
 have hz1:¬((m:Int)=0):=by omega
 have hz2:¬((i:Int)=(n:Int)):=by omega
 have hz3:(c:Int)<(n:Int)+(m:Int):=by omega
 have hbw:b<w.heap.size:=(Array.getElem?_eq_some_iff.1 hb).1
 have hvw:vb<w.heap.size:=(Array.getElem?_eq_some_iff.1 hv).1
 have hkk:(n:Int)+(m:Int) - (i:Int)=((n+m - i:Nat):Int):=by omega
 have hik:i+(n+m - i)=n+m:=by omega
 have hal:arr.toList.length=arr.size:=Array.length_toList
 obtain⟨os,hos⟩:∃os,os=(arr.toList.drop off).take (i*2):=⟨_,rfl⟩
 obtain⟨cs,hcs⟩:∃cs,cs=(arr.toList.drop (off+i*2)).take ((n - i)*2):=⟨_,rfl⟩
 have hol:os.length=i*2:=by rw[hos,List.length_take,List.length_drop];omega
 have hcl:cs.length=(n - i)*2:=by rw[hcs,List.length_take,List.length_drop];omega
 have h1cs:∀u∈cs,u.oneCell'=true:=fun u hu=>h1c u (by
  have e:(arr.toList.drop off).take (n*2)=os++cs:=by
   rw[hos,hcs,←List.drop_drop,←List.take_add];congr 1;omega
  rw[e];exact List.mem_append_right _ hu)
 have hold:(Builtin.firstCells i0.size i (.slice (some ⟨b,off,none⟩) i c)).run P w.drew=.ok os.toArray w.drew:=by
  rw[hzs]
  exact run_firstCells_some w.drew 2 i ⟨b,off,none⟩ i c os hol (fun j v hj=>by
   rw[X6Q]
   rw[hos,List.getElem?_take]at hj
   split at hj
   · exact X43 (w:=w.drew) hb hj
   · cases hj)
 have hrz:∀ty,(Builtin.append_ #[(ρ.t 24),(ρ.t 3)] ty #[.slice (some ⟨b,off,none⟩) i c,.int .i64 ((n:Int)+(m:Int) - (i:Int))]).run P w=
  .ok (.slice (some ⟨w.heap.size,0,none⟩) (n+m) (grownCap w (n+m) c (ρ.t 9))) (w.drew.alloc (.cells (os.toArray++Builtin.zeroCells z.cells (n+m - i)++Builtin.zeroCells z.cells (grownCap w (n+m) c (ρ.t 9) - (n+m))) (ρ.t 9))):=fun ty=>by
  have h:=Lib.run_append_grow_zeros w (ρ.t 24) (ρ.t 3) ty (ρ.t 9) i0 z .i64 .i64 L.t24 L.t3 hi0 hz0 (some ⟨b,off,none⟩) i c os hold (n+m - i) (by omega) (by omega) (by omega) (by simp only[maxLen]at hnm;omega) (by rw[hzb];exact Nat.le_trans (Nat.mul_le_mul_right _ (by omega)) (Nat.le_trans hbig (by decide))) (by rw[hzb,hik];exact growslice_fits hroom hbig)
  rw[hik]at h
  rw[hkk]
  exact h
 obtain⟨G,hG⟩:∃G,G=grownCap w (n+m) c (ρ.t 9):=⟨_,rfl⟩
 obtain⟨ROW,hROW⟩:∃ROW:Array Value,ROW=os.toArray++Builtin.zeroCells z.cells (n+m - i)++Builtin.zeroCells z.cells (G - (n+m)):=⟨_,rfl⟩
 rw[←hG]at hrz
 rw[←hROW]at hrz
 have hRl:ROW.size=i*2+(n+m - i)*2+(G - (n+m))*2:=by
  rw[hROW]
  simp only[Array.size_append,List.size_toArray,size_zeroCells,hz2c,hol]
 have hGn:n+m≤G:=by rw[hG];exact grownCap_ge w _ _ _
 have hGm:G≤maxLen:=by rw[hG];exact grownCap_le_maxLen w (n+m) c (ρ.t 9) hnm
 have hG63:G≤9223372036854775807:=by simp only[maxLen]at hGm;omega
 obtain⟨W1,hW1⟩:∃W1,W1=w.drew.alloc (.cells ROW (ρ.t 9)):=⟨_,rfl⟩
 rw[←hW1]at hrz
 have hH1:W1.heap[w.heap.size]?=some (.cells ROW (ρ.t 9) (0,0)):=by rw[hW1];exact heap_alloc_new w.drew _
 have hHo:∀k,k<w.heap.size→W1.heap[k]?=w.heap[k]?:=fun k hk=>by rw[hW1];exact heap_alloc_old w.drew _ hk
 have hcpA:∀(W:World),W.heap=W1.heap→∀ty dc,(Builtin.copy_ #[(ρ.t 24),(ρ.t 24)] ty #[.slice (some ⟨w.heap.size,i*2,none⟩) (n+m - i) dc,.slice (some ⟨vb,voff,none⟩) m vc]).run P W=.ok (goInt (m:Int)) (W.setRow w.heap.size (X1k ROW (i*2) us)):=fun W hW ty dc=>
  X9N W L.t24 L.z9 (by rw[hW];exact hH1) hul (by simp only[Nat.min_def];split<;>omega) (fun j u hj=>by
   rw[X6Q]
   have h0:=hus j u hj
   have h2:W.heap[vb]?=w.heap[vb]?:=by rw[hW];exact hHo vb hvw
   simp only[World.cell?]at h0 ⊢
   rw[h2];exact h0) (by rw[hRl,hul];omega) h1v
 have hsA:(X1k ROW (i*2) us).size=ROW.size:=X5b (by rw[hRl,hul];omega)
 obtain⟨W2,hW2⟩:∃W2,W2=W1.setRow w.heap.size (X1k ROW (i*2) us):=⟨_,rfl⟩
 have hH2:W2.heap[w.heap.size]?=some (.cells (X1k ROW (i*2) us) (ρ.t 9) (0,0)):=by rw[hW2];exact setRow_heap W1 _ ROW _ _ _ hH1
 have hbN:b≠w.heap.size:=by omega
 have hcpB:∀(W:World),W.heap=W2.heap→∀ty dc sc,(Builtin.copy_ #[(ρ.t 24),(ρ.t 24)] ty #[.slice (some ⟨w.heap.size,(i+m)*2,none⟩) (n+m - (i+m)) dc,.slice (some ⟨b,off+i*2,none⟩) (n - i) sc]).run P W=.ok (goInt ((n - i:Nat):Int)) (W.setRow w.heap.size (X1k (X1k ROW (i*2) us) ((i+m)*2) cs)):=fun W hW ty dc sc=>
  X9N W L.t24 L.z9 (by rw[hW];exact hH2) hcl (by simp only[Nat.min_def];split<;>omega) (fun j u hj=>by
   rw[X6Q]
   rw[hcs,List.getElem?_take]at hj
   split at hj
   · have h2:W.heap[b]?=some (.cells arr E (0,0)):=by rw[hW,hW2,setRow_other W1 _ b _ hbN,hHo b hbw];exact hb
     exact X43 (w:=W) h2 hj
   · cases hj) (by rw[hsA,hRl,hcl];omega) h1cs
 have hGi:¬(G=i):=by omega
 have hGim:¬(G=i+m):=by omega
 have hci:¬(c=i):=by omega
 have hw1:IntKind.i64.wrap ((i:Int)+(m:Int))=(i:Int)+(m:Int):=by rw[IntKind.wrap_i64];omega
 have hb1:(0:Int)≤(i:Int)+(m:Int):=by omega
 have hin:i≤n:=by omega
 have htn:((i:Int)+(m:Int)).toNat=i+m:=by omega
 have hb3:(i:Int)≤(n:Int):=by omega
 have hfin:(X1k (X1k ROW (i*2) us) ((i+m)*2) cs).toList=os++(us++(cs++ROW.toList.drop ((n+m)*2))):=by
  have hRL:ROW.toList.length=ROW.size:=Array.length_toList
  have e1:(X1k ROW (i*2) us).toList=os++(us++ROW.toList.drop (i*2+m*2)):=by
   simp only[X1k,hul,List.append_assoc]
   congr 1
   rw[hROW,Array.toList_append,Array.toList_append,List.append_assoc,List.take_left' hol]
  simp only[X1k]at e1 ⊢
  rw[e1]
  have e2:(os++(us++ROW.toList.drop (i*2+m*2))).take ((i+m)*2)=os++us:=by
   rw[←List.append_assoc,List.take_left' (by rw[List.length_append,hol,hul,Nat.add_mul])]
  have e3:(os++(us++ROW.toList.drop (i*2+m*2))).drop ((i+m)*2+cs.length)=ROW.toList.drop ((n+m)*2):=by
   rw[←List.append_assoc,←List.drop_drop,List.drop_left' (by rw[List.length_append,hol,hul,Nat.add_mul]),List.drop_drop]
   congr 1;omega
  rw[e2,e3,List.append_assoc,List.append_assoc]
 have htl:(ROW.toList.drop ((n+m)*2)).length=(G - (n+m))*2:=by rw[List.length_drop,Array.length_toList,hRl];omega
 obtain⟨A2,hA2⟩:∃A2,A2=X1k (X1k ROW (i*2) us) ((i+m)*2) cs:=⟨_,rfl⟩
 rw[←hA2]at hcpB hfin
 have hA2':A2=(os++(us++(cs++ROW.toList.drop ((n+m)*2)))).toArray:=by rw[←hfin]
 have hend:∀W':World,W'.heap=(W2.setRow w.heap.size A2).heap→W'.os=w.os→W'.tape=w.tape→W'.output=w.output→Xnj (w.alloc (.cells (os++(us++(cs++ROW.toList.drop ((n+m)*2)))).toArray (ρ.t 9))) W':=fun W' k1 k2 k3 k4=>by
  refine⟨?_,k2,k3,k4⟩
  rw[k1,hW2,setRow_setRow,←hA2',hW1]
  apply Array.ext_getElem?
  intro k
  by_cases hk:k=w.heap.size
  · subst hk
    rw[setRow_heap (w.drew.alloc (.cells ROW (ρ.t 9))) _ ROW _ _ _ (by exact heap_alloc_new w.drew _)]
    exact(heap_alloc_new w _).symm
  · rw[setRow_other _ _ k _ hk]
    by_cases hlt:k<w.heap.size
    · have q1:(w.drew.alloc (.cells ROW (ρ.t 9))).heap[k]?=w.heap[k]?:=heap_alloc_old w.drew _ hlt
      have q2:(w.alloc (.cells A2 (ρ.t 9))).heap[k]?=w.heap[k]?:=heap_alloc_old w _ hlt
      rw[q1,q2]
    · have s1:(w.drew.alloc (.cells ROW (ρ.t 9))).heap.size=w.heap.size+1:=Array.size_push ..
      have s2:(w.alloc (.cells A2 (ρ.t 9))).heap.size=w.heap.size+1:=Array.size_push ..
      rw[Array.getElem?_eq_none (by omega),Array.getElem?_eq_none (by omega)]
 rw[←hos,←hcs]
 obtain⟨nm,hnm2,F22⟩:=L.f22
 clear hkk hik hold hROW hG hfin hA2' hA2 hRl hsA
 go_enter F22,Body2.n22_ntmps ρ
 go_wp2_with (first
  | (at_builtin;refine Lib.wpList_append_run _ rfl _ _ _ _ rfl _ _ rfl rfl _ _ (hrz _) ?_)
  | (at_builtin;refine wpList_copy_runI _ rfl _ _ (ρ.t 24) (ρ.t 24) rfl _ _ rfl rfl (hcpA _ (by rw[hW1];rfl) _ _) ?_))
 go_region_law_o (refine step_copy_runI rfl _ _ (ρ.t 24) (ρ.t 24) rfl (.slice (some ⟨w.heap.size,(i+m)*2,none⟩) (n+m - (i+m)) (G - (i+m))) (.slice (some ⟨b,off+i*2,none⟩) (n - i) (c - i)) (by simp[Act.eval,Act.put]) (by simp[Act.eval,Act.put]) (hcpB _ (by rw[hW2,hW1];rfl) (ρ.t 3) (G - (i+m)) (c - i)) ?_)
 go_wp2
 go_ret
 refine⟨G,ROW.toList.drop ((n+m)*2),hGn,hGm,htl,rfl,hend _ ?_ ?_ ?_ ?_⟩
 · rw[hW2,hW1];rfl
 · rfl
 · rfl
 · rfl
set_option maxHeartbeats 4000000 in
theorem XnU(L:Xdu P ρ)(s v v':Value)(w w':World)(n m:Nat)(ad:Option Addr)(c:Nat)(ad2:Addr)(vc:Nat)(hs:s=.slice ad n c)(hv:v=.slice (some ad2) m vc)(hnil:ad=none→n=0)(hm:0<m)(hnc:n≤c)(hc63:c≤9223372036854775807)(hrun:∀ty,(Builtin.append_ #[ρ.t 24,ρ.t 24] ty #[s,v]).run P w=.ok v' w'):
 Calls P (ρ.f 22) #[s,.int .i64 n,v] w fun e w1=>e=.returned v'∧Xnj w' w1:=by
 have t0:=L.t0;have a0:=L.a0;have z0:=L.z0;have v0:=L.v0;have t3:=L.t3;have a3:=L.a3;have z3:=L.z3;have v3:=L.v3;have t4:=L.t4;have a4:=L.a4;have z4:=L.z4;have v4:=L.v4;have z9:=L.z9;have t24:=L.t24;have a24:=L.a24;have z24:=L.z24;have v24:=L.v24
 have u0:=run_underlying L.t0;have u3:=run_underlying L.t3;have u4:=run_underlying L.t4;have u24:=run_underlying L.t24
 have mixed:=L.mixed
 have hz1:¬((m:Int)=0):=by omega
 obtain⟨nm,hnm2,F22⟩:=L.f22
 subst hs
 subst hv
 go_enter F22,Body2.n22_ntmps ρ
 cases ad with
 | none=>
   have h0:=hnil rfl
   subst h0
   go_wp2_with (at_builtin;refine Lib.wpList_append_run _ rfl _ _ _ _ rfl _ _ rfl rfl _ _ (hrun _) ?_)
   all_goals (go_ret;exact⟨rfl,⟨rfl,rfl,rfl,rfl⟩⟩)
 | some a=>
   obtain⟨ab,ao,asp⟩:=a
   go_wp2_with (at_builtin;refine Lib.wpList_append_run _ rfl _ _ _ _ rfl _ _ rfl rfl _ _ (hrun _) ?_)
   all_goals (go_ret;exact⟨rfl,⟨rfl,rfl,rfl,rfl⟩⟩)
theorem Xnj.own{w w':World}(h:Xnj w w'){t:Ty}{v:Value}{l:List (El t)}{bs:List Nat}(ho:X2B w t v l bs):X2B w' t v l bs:=ho.frame fun g _=>by rw[h.heap]
theorem X9c.like{w w1 w2:World}{bs bs' more:List Nat}(h:X9c w w1 bs bs' more)(k:Xnj w1 w2):X9c w w2 bs bs' more:=
 ⟨h.nodup,h.sub,by rw[k.heap];exact h.size,fun x h1 h2=>by rw[k.heap];exact h.keep x h1 h2,k.os.trans h.os,k.tape.trans h.tape,k.output.trans h.output⟩
theorem XiL{a b1 b2 bv:List Nat}(h:(a++(b1++b2)).Nodup)(hv:bv.Nodup)(hd:∀x∈bv,x∉a++(b1++b2)):(a++(b1++(bv++b2))).Nodup:=by
 simp only[List.nodup_append,List.mem_append,not_or]at h hd ⊢
 obtain⟨h1,⟨h2,h3,h4⟩,h5⟩:=h
 refine⟨h1,⟨h2,⟨hv,h3,fun x hx y hy e=>?_⟩,fun x hx y hy e=>?_⟩,fun x hx y hy e=>?_⟩
 · subst e;exact(hd x hx).2.2 hy
 · subst e
   rcases hy with hy | hy
   · exact(hd x hy).2.1 hx
   · exact h4 x hx x hy rfl
 · subst e
   rcases hy with hy | hy | hy
   · exact h5 x hx x (.inl hy) rfl
   · exact(hd x hy).1 hx
   · exact h5 x hx x (.inr hy) rfl
theorem XmR(L:Xdu P ρ){τ:Ty}(hτ:size τ=2){bytes:Nat}(hby:∀i,P.info? (ρ.t 9)=some i→i.bytes=bytes)(w:World){s v:Value}{l lv:List (El τ)}{bs bv:List Nat}(hs:X2B w τ s l bs)(hv:X2B w τ v lv bv)(hnd:(bs++bv).Nodup)(i:Nat)(hi:i≤List.length l)(hlv:0<List.length lv)(h63:List.length l+List.length lv≤maxLen)(hbig:(List.length l+List.length lv)*bytes≤140737488355328):
 Calls P (ρ.f 22) #[s,.int .i64 i,v] w fun e w'=>∃s' bs',e=.returned s'∧X2B w' τ s' (l.take i++(lv++l.drop i)) bs'∧X9c w w' bs bs' bv:=by
 obtain⟨n1,n2,n3⟩:=List.nodup_append.1 hnd
 have hdis:∀x∈bv,x∉bs:=fun x hx hx'=>n3 x hx' x hx rfl
 rcases hv.cases with⟨_,_,rfl,_⟩ | ⟨vb,voff,vc,arrv,Ev,b1v,ev,rfl,hvb,k2,k3,k4,k5⟩
 · simp at hlv
 have n2':=List.nodup_cons.1 n2
 obtain⟨us,hus⟩:∃us,us=(arrv.toList.drop voff).take (List.length lv*size τ):=⟨_,rfl⟩
 rw[←hus]at k5
 have hul:us.length=List.length lv*2:=by rw[k5.length,X0K,hτ]
 have hsrc:∀j u,us[j]?=some u→w.cell? ⟨vb,voff+j,none⟩=some u:=fun j u hj=>by
  rw[hus,List.getElem?_take]at hj
  split at hj
  · exact X43 hvb hj
  · cases hj
 have hmaxc:maxLen≤9223372036854775807:=by decide
 by_cases hin:i=List.length l
 ·
  subst hin
  obtain⟨i0,z,hi0,hz0,hzc,hzs⟩:=L.i9
  have hrun:=fun ty=>X6S (ty:=ty) L.t24 hi0 hz0 hzc (hzs.trans hτ.symm) (by rw[hτ];decide) hs n1 (a:=⟨vb,voff,none⟩) (c:=vc) (fun j u hj=>by rw[X6Q];exact hsrc j u hj) k5 n2'.2 (fun x hx=>hdis x (List.mem_cons_of_mem _ hx)) hlv h63 (by rw[hby i0 hi0];exact hbig)
  have hty:∀ty ty',(Builtin.append_ #[ρ.t 24,ρ.t 24] ty #[s,v]).run P w=(Builtin.append_ #[ρ.t 24,ρ.t 24] ty' #[s,v]).run P w:=fun ty ty'=>rfl
  obtain⟨v',w',bs',r1,r2,r3⟩:=hrun (ρ.t 24)
  rw[←ev]at r1
  obtain⟨ad,c,es,c1,c2⟩:=hs.slice
  have hnil:ad=none→List.length l=0:=fun e=>by
   rcases hs.cases with⟨_,_,e2,_⟩ | ⟨_,_,_,_,_,_,e2,_⟩
   · rw[e2];rfl
   · rw[es,e]at e2;cases e2
  refine(XnU L s v v' w w' (List.length l) (List.length lv) ad c ⟨vb,voff,none⟩ vc es ev hnil hlv c1 (by omega) (fun ty=>(hty ty (ρ.t 24)).trans r1)).mono ?_
  rintro e w1 ⟨rfl,hk⟩
  refine⟨v',bs',rfl,?_,?_⟩
  · rw[List.take_length,List.drop_length,List.append_nil];exact hk.own r2
  · exact X9c.like ⟨r3.nodup,fun x hx=>(r3.sub x hx).imp id (Or.imp (List.mem_cons_of_mem _) id),r3.size,r3.keep,r3.os,r3.tape,r3.output⟩ hk
 have hilt:i<List.length l:=by omega
 rcases hs.cases with⟨_,_,rfl,_⟩ | ⟨b,off,c,arr,E,b1,es,rfl,hb,q2,q3,q4,q5⟩
 · simp at hilt
 have n1':=List.nodup_cons.1 n1
 have hvbb:vb≠b:=fun e=>hdis vb (by simp) (by simp[e])
 have hal:arr.toList.length=arr.size:=Array.length_toList
 rw[hτ]at q4 q5
 have hcm:List.length l*2≤c*2:=Nat.mul_le_mul_right 2 q2
 have hfl:X0h τ l=X0h τ (l.take i)++X0h τ (l.drop i):=by rw[←X1f,List.take_append_drop]
 obtain⟨v1,v2,b11,b12,e1,e2,o1,o2⟩:=q5.split hfl
 have hl1:v1.length=i*2:=by rw[o1.length,X0K,hτ,List.length_take,Nat.min_eq_left hi]
 have hl2:v2.length=(List.length l - i)*2:=by rw[o2.length,X0K,hτ,List.length_drop]
 have ev1:v1=(arr.toList.drop off).take (i*2):=by
  have:=congrArg (List.take (i*2)) e1
  rw[List.take_take,Nat.min_eq_left (by omega),List.take_left' hl1]at this
  exact this.symm
 have ev2:v2=(arr.toList.drop (off+i*2)).take ((List.length l - i)*2):=by
  have:=congrArg (List.drop (i*2)) e1
  rw[List.drop_left' hl1,List.drop_take,List.drop_drop]at this
  rw[←this];congr 1;omega
 have hone:∀u∈(arr.toList.drop off).take (List.length l*2),u.oneCell'=true:=q5.one
 have one2:∀u∈v2,u.oneCell'=true:=o2.one
 have hfa:X0h τ (l.take i++(lv++l.drop i))=X0h τ (l.take i)++(X0h τ lv++X0h τ (l.drop i)):=by rw[X1f,X1f]
 have hlen:List.length (l.take i++(lv++l.drop i))=List.length l+List.length lv:=by simp only[List.length_append,List.length_take,List.length_drop];omega
 have hnd3:(([b]:List Nat)++(b11++b12)).Nodup:=by rw[←e2];exact n1
 have hnd4:=XiL (bv:=b1v) hnd3 n2'.2 (fun x hx=>by rw[←e2];exact hdis x (List.mem_cons_of_mem _ hx))
 have hlt1:=o1.lt
 have hlt2:=o2.lt
 have hltv:=k5.lt
 have hlt:∀x∈b11++(b1v++b12),x<w.heap.size:=fun x hx=>by
  simp only[List.mem_append]at hx
  rcases hx with h | h | h
  · exact hlt1 x h
  · exact hltv x h
  · exact hlt2 x h
 by_cases hroom:List.length l+List.length lv≤c
 ·
  rw[es,ev]
  refine(XiQ L b off (List.length l) c i vb voff (List.length lv) vc arr arrv E Ev us w hilt hlv hroom (by omega) hvbb hb q4 hvb hul hsrc (by rw[←ev2];exact one2) k5.one).mono ?_
  rintro e w1 ⟨rfl,hk⟩
  rw[←ev2]at hk
  obtain⟨A,hA⟩:∃A,A=X1k (X1k arr (off+(i+List.length lv)*2) v2) (off+i*2) us:=⟨_,rfl⟩
  rw[←hA]at hk
  have hAs:A.size=arr.size:=by
   rw[hA,X5b (by rw[X5b (by rw[hl2];omega),hul];omega),X5b (by rw[hl2];omega)]
  have hAl:(A.toList.drop off).take ((List.length l+List.length lv)*2)=v1++(us++v2):=by
   have f1:(X1k arr (off+(i+List.length lv)*2) v2).toList=arr.toList.take (off+(i+List.length lv)*2)++(v2++arr.toList.drop (off+(i+List.length lv)*2+v2.length)):=by simp only[X1k,List.append_assoc]
   have f2:A.toList=arr.toList.take (off+i*2)++(us++(v2++arr.toList.drop (off+(i+List.length lv)*2+v2.length))):=by
    rw[hA]
    have:(X1k (X1k arr (off+(i+List.length lv)*2) v2) (off+i*2) us).toList=(X1k arr (off+(i+List.length lv)*2) v2).toList.take (off+i*2)++us++(X1k arr (off+(i+List.length lv)*2) v2).toList.drop (off+i*2+us.length):=rfl
    rw[this,f1]
    have lt1:(arr.toList.take (off+(i+List.length lv)*2)).length=off+(i+List.length lv)*2:=by rw[List.length_take];omega
    rw[List.take_append_of_le_length (by omega),List.take_take,Nat.min_eq_left (by omega),List.drop_left' (by rw[lt1,hul];omega),List.append_assoc]
   have g0:(arr.toList.take (off+i*2)).drop off=v1:=by rw[ev1,List.drop_take,Nat.add_sub_cancel_left]
   rw[f2,List.drop_append_of_le_length (by rw[List.length_take];omega),g0,←List.append_assoc us,←List.append_assoc v1,List.take_left' (by simp only[List.length_append,hl1,hul,hl2];omega)]
  have fr:∀{vs:List Value} {cs:List X01} {bb:List Nat},X0M w vs cs bb→b∉bb→X0M w1 vs cs bb:=fun hh hn=>hh.frame fun x hx=>by
   rw[hk.heap];exact setRow_other w b x _ (fun e=>by subst e;exact hn hx)
  have nb:b∉b11∧b∉b1v∧b∉b12:=by
   have:=(List.nodup_cons.1 (show(b::(b11++(b1v++b12))).Nodup from hnd4)).1
   simpa only[List.mem_append,not_or] using this
  refine⟨_,b::(b11++(b1v++b12)),rfl,?_,⟨hnd4,fun x hx=>?_,by rw[hk.heap];simp,fun k h1 h2=>?_,hk.os,hk.tape,hk.output⟩⟩
  · rw[←hlen]
    refine X2B.mk (arr:=A) (e:=E) (by rw[hk.heap];exact setRow_heap w b arr A E _ hb) (by rw[hlen];exact hroom) q3 (by rw[hAs,hτ];exact q4) ?_
    rw[hlen,hτ,hAl,hfa]
    exact(fr o1 nb.1).append ((fr k5 nb.2.1).append (fr o2 nb.2.2))
  · simp only[List.mem_cons,List.mem_append]at hx
    rcases hx with rfl | hx | hx | hx
    · exact .inl (by simp)
    · exact .inl (by rw[e2];simp[hx])
    · exact .inr (.inl (by simp[hx]))
    · exact .inl (by rw[e2];simp[hx])
  · rw[hk.heap];exact setRow_other w b k _ (fun e=>by subst e;exact h2 (by simp))
 ·
  rw[es,ev]
  refine(Xlr L b off (List.length l) c i vb voff (List.length lv) vc arr arrv E Ev us w hilt hlv q2 (by omega) bytes hby hbig h63 hvbb hb q4 hvb hul hsrc hone k5.one).mono ?_
  rintro e w1 ⟨G,tl,g1,g2,g3,rfl,hk⟩
  rw[←ev1,←ev2]at hk
  have hH:w1.heap[w.heap.size]?=some (.cells (v1++(us++(v2++tl))).toArray (ρ.t 9) (0,0)):=by rw[hk.heap];exact heap_alloc_new w _
  have hO:∀k,k<w.heap.size→w1.heap[k]?=w.heap[k]?:=fun k h=>by rw[hk.heap];exact heap_alloc_old w _ h
  refine⟨_,w.heap.size::(b11++(b1v++b12)),rfl,?_,⟨List.nodup_cons.2 ⟨fun h=>Nat.lt_irrefl _ (hlt _ h),(List.nodup_append.1 hnd4).2.1⟩,fun x hx=>?_,?_,fun k h1 _=>hO k h1,hk.os,hk.tape,hk.output⟩⟩
  · rw[←hlen]at g1 ⊢
    refine X2B.mk hH g1 g2 ?_ ?_
    · simp only[List.size_toArray,List.length_append,hl1,hul,hl2,g3,hτ]
      rw[hlen]at g1
      omega
    · rw[hlen,hτ,List.drop_zero,hfa]
      have f3:((v1++(us++(v2++tl))).toArray.toList).take ((List.length l+List.length lv)*2)=v1++(us++v2):=by
       show(v1++(us++(v2++tl))).take _=_
       rw[←List.append_assoc us,←List.append_assoc v1,List.take_left' (by simp only[List.length_append,hl1,hul,hl2];omega)]
      rw[f3]
      exact(o1.frame fun g h=>hO g (hlt1 g h)).append ((k5.frame fun g h=>hO g (hltv g h)).append (o2.frame fun g h=>hO g (hlt2 g h)))
  · simp only[List.mem_cons,List.mem_append]at hx
    rcases hx with rfl | hx | hx | hx
    · exact .inr (.inr (Nat.le_refl _))
    · exact .inl (by rw[e2];simp[hx])
    · exact .inr (.inl (by simp[hx]))
    · exact .inl (by rw[e2];simp[hx])
  · rw[hk.heap]
    have:(w.alloc (.cells (v1++(us++(v2++tl))).toArray (ρ.t 9))).heap.size=w.heap.size+1:=Array.size_push ..
    omega
def XaK(τ:Ty)(e:TypeId):Con:={A:=.pair (.list τ) (.pair (.int .i64) (.list τ)),shA:=[.one,.one,.one],ownA:=[(0,e),(2,e)],R:=.list τ,shR:=[(false,1)],fresh:=[(0,e)],pre:=fun _ a=>0≤a.2.1∧a.2.1≤a.1.length∧0<a.2.2.length∧a.1.length+a.2.2.length≤1099511627776,f:=some fun _ a=>(a.1.take a.2.1.toNat++(a.2.2++a.1.drop a.2.1.toNat),((),()))}
theorem Xpc(L:Xdu P ρ){τ:Ty}(hτ:size τ=2){bytes:Nat}(hby:∀i,P.info? (ρ.t 9)=some i→i.bytes=bytes)(hb:bytes≤128):X0o P (ρ.f 22) (XaK τ (ρ.t 9)):=by
 intro w M vs cs i x F FI b hM hargs hown hio hiv hnd hnone hpre
 obtain⟨p1',p2',p3,p4⟩:=hpre
 have p1:(0:Int)≤x.2.1:=p1'
 have p2:(show Int from x.2.1)≤((List.length x.1:Nat):Int):=p2'
 have hbn:b=none:=by cases b with | none=>rfl | some g=>cases hio
 subst hbn
 obtain⟨u0,u1,u2,rfl,rfl⟩:∃u0 u1 u2,vs=[u0,u1,u2]∧cs=[u0,u1,u2]:=by
  cases hargs with
  | cons h0 r0=>cases r0 with
    | cons h1 r1=>cases r1 with
      | cons h2 r2=>cases r2;obtain⟨rfl,_⟩:=h0;obtain⟨rfl,_⟩:=h1;obtain⟨rfl,_⟩:=h2;exact⟨_,_,_,rfl,rfl⟩
 have ho0:X2B w τ u0 x.1 (F 0):=by
  obtain⟨u,t,l,h1,h2,h3⟩:=hown.own 0 (ρ.t 9) rfl
  cases h1
  have h2':some (X01.lst τ x.1 none)=some (.lst t l none):=h2
  cases h2'
  exact h3
 have ho2:X2B w τ u2 x.2.2 (F 2):=by
  obtain⟨u,t,l,h1,h2,h3⟩:=hown.own 2 (ρ.t 9) rfl
  cases h1
  have h2':some (X01.lst τ x.2.2 none)=some (.lst t l none):=h2
  cases h2'
  exact h3
 have ho1:u1=.int .i64 x.2.1:=hown.rd 1 u1 (.int .i64 x.2.1) rfl rfl rfl
 have hblk:X3i (XaK τ (ρ.t 9)) none F FI=F 0++F 2:=by simp[X3i,XaK,X4X]
 rw[hblk]at hnd hnone
 have hx:((x.2.1.toNat:Nat):Int)=x.2.1:=by omega
 have hml:(1099511627776:Nat)≤maxLen:=by decide
 have hmul:(List.length x.1+List.length x.2.2)*bytes≤140737488355328:=Nat.le_trans (Nat.mul_le_mul p4 hb) (by decide)
 have hi1:(x.2.1:Int).toNat≤List.length x.1:=Int.toNat_le.2 p2'
 have h:=XmR L hτ hby w ho0 ho2 hnd x.2.1.toNat hi1 p3 (Nat.le_trans p4 hml) hmul
 rw[hx,←ho1]at h
 refine h.mono ?_
 rintro e w' ⟨s',bs',rfl,hO,hR⟩
 have hsub:∀g∈bs',(w.heap.size≤g∨g∈F 0++F 2):=fun g hg=>by
  rcases hR.sub g hg with k | k | k
  · exact .inr (List.mem_append_left _ k)
  · exact .inr (List.mem_append_right _ k)
  · exact .inl k
 have hMn:∀g∈bs',∀ad,ad.block=g→M ad=none:=fun g hg ad had=>by
  rcases hsub g hg with k | k
  · cases hm:M ad with
    | none=>rfl
    | some v=>
      have h1:=hM ad v hm
      have h2:=block_lt_of_cell h1
      omega
  · exact hnone g k ad had
 have hsl:∃ad c,s'=.slice ad (List.length (x.1.take x.2.1.toNat++(x.2.2++x.1.drop x.2.1.toNat))) c:=by
  obtain⟨ad,c,k,_⟩:=hO.slice;exact⟨ad,c,k⟩
 obtain⟨sad,sc,hsv⟩:=hsl
 refine⟨[s'],(x.1.take x.2.1.toNat++(x.2.2++x.1.drop x.2.1.toNat),((),())),[s'],M,fun _=>bs',fun _=>[],fun _=>[],[],rfl,rfl,Mem.le_refl _,fun ad v hm=>?_,⟨hR.os,hR.tape,hR.output,hR.size,fun k h1 h2=>hR.keep k h1 (fun h=>h2 (by rw[hblk];exact List.mem_append_left _ h))⟩,fun _ _ _ h=>h,?_,?_,(fun g hg=>by cases hg),?_,?_,?_,?_,?_⟩
 · have h1:=hM ad v hm
   have hlt:=block_lt_of_cell h1
   have hnb:ad.block∉F 0:=fun h=>by rw[hnone ad.block (List.mem_append_left _ h) ad rfl]at hm;cases hm
   have h2:=hR.keep ad.block hlt hnb
   simp only[World.cell?]at h1 ⊢
   rw[h2];exact h1
 · refine⟨rfl,?_⟩
   have:=X9x.cons (v:=s') (ag:=false) (n:=1) (by rw[hsv];rfl) (by rw[hsv];rfl) X9x.nil
   rw[hsv]at this ⊢
   exact this
 · refine⟨rfl,fun j u c hj h1 h2=>?_,fun j e' hj=>?_⟩
   · cases j with
     | zero=>cases hj
     | succ j=>simp at h1
   · cases j with
     | zero=>exact⟨s',τ,_,rfl,rfl,hO⟩
     | succ j=>exact absurd hj (by rw[show(XaK τ (ρ.t 9)).fresh=[(0,ρ.t 9)] from rfl,X05,if_neg (by omega)];exact fun h=>by cases h)
 · refine⟨rfl,fun k j e' hk=>by simp[XaK]at hk⟩
 · intro j e' hj t l tag hc
   obtain⟨i0,z,hi0,hz0,hzc,hzs⟩:=L.i9
   cases j with
   | zero=>
     have e1:e'=ρ.t 9:=by cases (show some (ρ.t 9)=some e' from hj);rfl
     have e2:some (X01.lst τ (x.1.take x.2.1.toNat++(x.2.2++x.1.drop x.2.1.toNat)) none)=some (.lst t l tag):=hc
     cases e2
     subst e1
     exact⟨⟨i0,hi0,hzs.trans hτ.symm⟩,by omega⟩
   | succ j=>exact absurd hj (by rw[show(XaK τ (ρ.t 9)).fresh=[(0,ρ.t 9)] from rfl,X05,if_neg (by omega)];exact fun h=>by cases h)
 · intro j e' hj;cases hj
 · simpa [XaK,X4X] using hR.nodup
 · intro g hg
   have hg':g∈bs':=by simpa [XaK,X4X] using hg
   refine⟨?_,?_,hMn g hg'⟩
   · rcases hsub g hg' with k | k
     · exact .inl k
     · exact .inr ⟨by rw[hblk];exact k,by simp⟩
   · exact X0M.lt hO g hg'
end Go.Proofs.YtgmafgmjbaoomaaGreat.B
