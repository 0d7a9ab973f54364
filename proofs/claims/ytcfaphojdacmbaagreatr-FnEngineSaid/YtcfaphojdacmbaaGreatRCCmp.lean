/- Strings compared. -/
import Derived.Test.YtcfaphojdacmbaaGreatRCMrg
import Derived.WalkKit
import Derived.Lib.Walk
import Derived.Lib.Bytealg
import Derived.Laws.Externs
set_option maxRecDepth 100000
set_option linter.unusedVariables false
set_option linter.unusedSimpArgs false
namespace Go.Proofs.YtcfaphojdacmbaaGreatR.B
open Go Go.Proofs.YtcfaphojdacmbaaGreatR.Bv Go.Proofs Go.RowKit Go.Lib
set_option maxHeartbeats 1000000 in
theorem Xs2(a b:ByteArray)(w:World):Calls Tryz.prog 228 #[.string a,.string b] w fun e w'=>e=.returned (.int .i64 (Lib.compareBytes a.data.toList b.data.toList))∧w'=w:=by
 have mixed:Tryz.prog.follows .mixedOrders=true:=rfl
 go_enter Tryz.func228,(show Tryz.f228.ntmps=8 from rfl)
 go_wp2
 rw[run_callFunc_extern Tryz.func255 (by kernel_rfl) (by kernel_rfl) (by kernel_rfl) (e:=Extern.BytealgCompare.compare) (by kernel_rfl),Lib.run_compareString]
 simp only[Result.andThen]
 rw[Oper.upon_value]
 go_wp2
 go_ret
 exact⟨rfl,rfl⟩
def X9J(a b:List UInt8):Int:=Lib.compareBytes a b
theorem Xmf:∀a b:List UInt8,X9J a b<0↔Op.bytesLess a b=true
 | [],[]=>by simp[X9J,Lib.compareBytes,Op.bytesLess]
 | [],_::_=>by simp[X9J,Lib.compareBytes,Op.bytesLess]
 | _::_,[]=>by simp[X9J,Lib.compareBytes,Op.bytesLess]
 | x::a,y::b=>by
   have ih:=Xmf a b
   rw[X5s]
   unfold X9J at ih ⊢
   rw[Lib.compareBytes]
   simp only[Bool.or_eq_true,Bool.and_eq_true,decide_eq_true_eq]
   by_cases h1:x<y
   · simp[h1]
   · by_cases h2:y<x
     · have:x≠y:=fun e=>by subst e;exact absurd h2 h1
       simp[h1,h2,this]
     · have:x=y:=by
        simp only[UInt8.lt_iff_toNat_lt]at h1 h2
        exact UInt8.toNat_inj.1 (by omega)
       simp[h1,h2,this,ih]
theorem XlY:∀a b:List UInt8,X9J a b=0↔a=b
 | [],[]=>by simp[X9J,Lib.compareBytes]
 | [],_::_=>by simp[X9J,Lib.compareBytes]
 | _::_,[]=>by simp[X9J,Lib.compareBytes]
 | x::a,y::b=>by
   have ih:=XlY a b
   unfold X9J at ih ⊢
   rw[Lib.compareBytes]
   by_cases h1:x<y
   · have:x≠y:=fun e=>by subst e;simp[UInt8.lt_iff_toNat_lt]at h1
     simp[h1,this]
   · by_cases h2:y<x
     · have:x≠y:=fun e=>by subst e;simp[UInt8.lt_iff_toNat_lt]at h2
       simp[h1,h2,this]
     · have:x=y:=by
        simp only[UInt8.lt_iff_toNat_lt]at h1 h2
        exact UInt8.toNat_inj.1 (by omega)
       simp[h1,h2,this,ih]
def X3W:Con:={A:=(.pair .str .str),shA:=[.one,.one],R:=(.int .i64),shR:=[(false,1)],pre:=fun _ _=>True,f:=some fun _ a=>((X9J a.1 a.2),((),()))}
theorem X37.ok:X0l Tryz.prog 228 X3W:=by
 intro w M vs cs i x F FI b hM hargs hown hio hiv hnd hnone hpre
 have hbn:b=none:=by cases b with | none=>rfl | some g=>cases hio
 subst hbn
 obtain⟨u0,u1,rfl,rfl⟩:∃u0 u1,vs=[u0,u1]∧cs=[u0,u1]:=by
  cases hargs with
  | cons h0 r0=>cases r0 with
    | cons h1 r1=>cases r1;obtain⟨rfl,_⟩:=h0;obtain⟨rfl,_⟩:=h1;exact⟨_,_,rfl,rfl⟩
 obtain rfl:u0=.string ⟨x.1.toArray⟩:=hown.rd 0 u0 (.str x.1) rfl rfl rfl
 obtain rfl:u1=.string ⟨x.2.toArray⟩:=hown.rd 1 u1 (.str x.2) rfl rfl rfl
 refine(Xs2 ⟨x.1.toArray⟩ ⟨x.2.toArray⟩ w).mono ?_
 rintro e w' ⟨rfl,rfl⟩
 refine⟨[.int .i64 (X9J x.1 x.2)],(X9J x.1 x.2,((),())),[.int .i64 (X9J x.1 x.2)],M,fun _=>[],fun _=>[],fun _=>[],[],rfl,rfl,Mem.le_refl _,hM,Fr.refl _ _,fun _ _ _ h=>h,⟨rfl,Xau.cons rfl rfl Xau.nil⟩,⟨rfl,fun j u c _ h1 h2=>?_,fun j e hj=>by cases hj⟩,(fun g hg=>by cases hg),⟨rfl,fun k j e hk=>by cases hk⟩,(fun j e hj=>by cases hj),(fun j e hj=>by cases hj),List.nodup_nil,(fun g hg=>by cases hg)⟩
 cases j with
 | zero=>cases h1;cases h2;rfl
 | succ j=>cases h1
def X37.e:GE:=⟨228,X3W,⟨_,Tryz.func228,rfl,rfl⟩,X37.ok⟩
def X5a:Con:={A:=(.pair .str .str),shA:=[.one,.one],R:=(.int .i64),shR:=[(false,1)],pre:=fun _ _=>True,f:=some fun _ a=>((X9J a.1 a.2),((),()))}
def X1R.F(a0:U5q)(a1:U5q):Prop:=(True∧∀r1,(Eq r1 ((X9J a0 a1),((),())))→(Eq (r1.1,((),())) ((X9J a0 a1),((),()))))
theorem X1R.pure(a0:U5q)(a1:U5q)(h:True)(hw:Wf X5a.A (a0,a1)):X1R.F a0 a1:=by
 unfold X1R.F
 simp only[Bs,B0,B1,Prod.mk.injEq,X01]
 repeat' (with_reducible (first | (refine And.intro ?_ ?_) | intro _))
 all_goals (try simp (disch:=omega) only[w64,wu8,tn0,tn1,tm1,tm2,List.length_append,List.length_cons,List.length_nil]at*)
 all_goals (try simp (disch:=omega) only[w64,wu8,tn0,tn1,tm1,tm2,List.length_append,List.length_cons,List.length_nil]at*)
 all_goals (try omega)
 all_goals (try grind[])
theorem X1R.eq:EqS X5a Tryz.f175 [3] [X37.e] [] noL (fun i x=>X1R.F x.1 x.2):=by intro i x;kernel_rfl
theorem X1R.ok:X0l Tryz.prog 175 X5a:=X2b X1R.eq Tryz.func175 rfl (by kernel_rfl) fun i x h hi hw=>X1R.pure x.1 x.2 h hw
def X1R.e:GE:=⟨175,X5a,⟨_,Tryz.func175,rfl,rfl⟩,X1R.ok⟩
end Go.Proofs.YtcfaphojdacmbaaGreatR.B
