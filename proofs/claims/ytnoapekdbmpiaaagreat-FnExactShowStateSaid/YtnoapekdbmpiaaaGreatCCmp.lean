/- Strings compared. -/
import Derived.Test.YtnoapekdbmpiaaaGreatCMrg
import Derived.WalkKit
import Derived.Lib.Walk
import Derived.Lib.Bytealg
import Derived.Laws.Externs
set_option linter.unusedVariables false
set_option linter.unusedSimpArgs false
namespace Go.Proofs.YtnoapekdbmpiaaaGreat.B
open Go Go.Proofs.YtnoapekdbmpiaaaGreat.Bv Go.Proofs Go.RowKit Go.Lib
set_option maxHeartbeats 1000000 in
set_option maxRecDepth 100000 in
theorem cmpStr (a b:ByteArray) (w:World):Calls Tryz.prog 172 #[.string a,.string b] w fun e w'=>e=.returned (.int .i64 (Lib.compareBytes a.data.toList b.data.toList))∧w'=w:=by
 have mixed:Tryz.prog.follows .mixedOrders=true:=rfl
 go_enter Tryz.func172,(show Tryz.f172.ntmps=8 from rfl)
 go_wp2
 rw [run_callFunc_extern Tryz.func198 (by kernel_rfl) (by kernel_rfl) (by kernel_rfl) (e:=Extern.BytealgCompare.compare) (by kernel_rfl),Lib.run_compareString]
 simp only [Result.andThen]
 rw [Oper.upon_value]
 go_wp2
 go_ret
 exact⟨rfl,rfl⟩
def fCmpS (a b:List UInt8):Int:=Lib.compareBytes a b
theorem cmpS_lt:∀a b:List UInt8,fCmpS a b<0↔Op.bytesLess a b=true
 | [],[]=>by simp [fCmpS,Lib.compareBytes,Op.bytesLess]
 | [],_::_=>by simp [fCmpS,Lib.compareBytes,Op.bytesLess]
 | _::_,[]=>by simp [fCmpS,Lib.compareBytes,Op.bytesLess]
 | x::a,y::b=>by
   have ih:=cmpS_lt a b
   rw [bytesLess_cons]
   unfold fCmpS at ih ⊢
   rw [Lib.compareBytes]
   simp only [Bool.or_eq_true,Bool.and_eq_true,decide_eq_true_eq]
   by_cases h1:x<y
   · simp [h1]
   · by_cases h2:y<x
     · have:x≠y:=fun e=>by subst e;exact absurd h2 h1
       simp [h1,h2,this]
     · have:x=y:=by
        simp only [UInt8.lt_iff_toNat_lt] at h1 h2
        exact UInt8.toNat_inj.1 (by omega)
       simp [h1,h2,this,ih]
theorem cmpS_eq:∀a b:List UInt8,fCmpS a b=0↔a=b
 | [],[]=>by simp [fCmpS,Lib.compareBytes]
 | [],_::_=>by simp [fCmpS,Lib.compareBytes]
 | _::_,[]=>by simp [fCmpS,Lib.compareBytes]
 | x::a,y::b=>by
   have ih:=cmpS_eq a b
   unfold fCmpS at ih ⊢
   rw [Lib.compareBytes]
   by_cases h1:x<y
   · have:x≠y:=fun e=>by subst e;simp [UInt8.lt_iff_toNat_lt] at h1
     simp [h1,this]
   · by_cases h2:y<x
     · have:x≠y:=fun e=>by subst e;simp [UInt8.lt_iff_toNat_lt] at h2
       simp [h1,h2,this]
     · have:x=y:=by
        simp only [UInt8.lt_iff_toNat_lt] at h1 h2
        exact UInt8.toNat_inj.1 (by omega)
       simp [h1,h2,this,ih]
def c_internal_bytealg_CompareString:Con:={A:=(.pair .str .str),shA:=[.one,.one],R:=(.int .i64),shR:=[(false,1)],pre:=fun _ _=>True,f:=some fun _ a=>((fCmpS a.1 a.2),((),()))}
theorem internal_bytealg_CompareString.ok:ConOk Tryz.prog 172 c_internal_bytealg_CompareString:=by
 intro w M vs cs i x F FI b hM hargs hown hio hiv hnd hnone hpre
 have hbn:b=none:=by cases b with | none=>rfl | some g=>cases hio
 subst hbn
 obtain⟨u0,u1,rfl,rfl⟩:∃u0 u1,vs=[u0,u1]∧cs=[u0,u1]:=by
  cases hargs with
  | cons h0 r0=>cases r0 with
    | cons h1 r1=>cases r1;obtain⟨rfl,_⟩:=h0;obtain⟨rfl,_⟩:=h1;exact⟨_,_,rfl,rfl⟩
 obtain rfl:u0=.string ⟨x.1.toArray⟩:=hown.rd 0 u0 (.str x.1) rfl rfl rfl
 obtain rfl:u1=.string ⟨x.2.toArray⟩:=hown.rd 1 u1 (.str x.2) rfl rfl rfl
 refine (cmpStr ⟨x.1.toArray⟩ ⟨x.2.toArray⟩ w).mono ?_
 rintro e w' ⟨rfl,rfl⟩
 refine⟨[.int .i64 (fCmpS x.1 x.2)],(fCmpS x.1 x.2,((),())),[.int .i64 (fCmpS x.1 x.2)],M,fun _=>[],fun _=>[],fun _=>[],[],rfl,rfl,Mem.le_refl _,hM,Fr.refl _ _,fun _ _ _ h=>h,⟨rfl,ResRep.cons rfl rfl ResRep.nil⟩,⟨rfl,fun j u c _ h1 h2=>?_,fun j e hj=>by cases hj⟩,(fun g hg=>by cases hg),⟨rfl,fun k j e hk=>by cases hk⟩,(fun j e hj=>by cases hj),(fun j e hj=>by cases hj),List.nodup_nil,(fun g hg=>by cases hg)⟩
 cases j with
 | zero=>cases h1;cases h2;rfl
 | succ j=>cases h1
def internal_bytealg_CompareString.e:GE:=⟨172,c_internal_bytealg_CompareString,⟨_,Tryz.func172,rfl,rfl⟩,internal_bytealg_CompareString.ok⟩
def c_strings_Compare:Con:={A:=(.pair .str .str),shA:=[.one,.one],R:=(.int .i64),shR:=[(false,1)],pre:=fun _ _=>True,f:=some fun _ a=>((fCmpS a.1 a.2),((),()))}
def strings_Compare.F (a0:U5q) (a1:U5q):Prop:=(True∧∀r1,(Eq r1 ((fCmpS a0 a1),((),())))→(Eq (r1.1,((),())) ((fCmpS a0 a1),((),()))))
theorem strings_Compare.pure (a0:U5q) (a1:U5q) (h:True) (hw:Wf c_strings_Compare.A (a0,a1)):strings_Compare.F a0 a1:=by
 unfold strings_Compare.F
 simp only [forall_eq,true_and,and_true,caseB_iff,Prod.mk.injEq,decide_eq_true_eq,decide_eq_false_iff_not,Bool.not_eq_true',Bool.not_eq_false',bne_iff_ne,ne_eq,beq_iff_eq,Bool.not_true,Bool.not_false,beq_eq_false_iff_ne,bne_eq_false_iff_eq,List.length_append,List.length_cons,List.length_nil,List.append_nil,Nat.zero_add,decide_true,decide_false,eq_self_iff_true]
 repeat' (with_reducible (first | (refine And.intro ?_ ?_) | intro _))
 all_goals (try simp (disch:=omega) only [w64,wu8,tn0,tn1,tm1,tm2,List.length_append,List.length_cons,List.length_nil] at*)
 all_goals (try simp (disch:=omega) only [w64,wu8,tn0,tn1,tm1,tm2,List.length_append,List.length_cons,List.length_nil] at*)
 all_goals (try omega)
 all_goals (try grind [])
set_option maxRecDepth 100000 in
theorem strings_Compare.eq:EqS c_strings_Compare Tryz.f134 [3] [internal_bytealg_CompareString.e] [] noL (fun i x=>strings_Compare.F x.1 x.2):=by intro i x;kernel_rfl
theorem strings_Compare.ok:ConOk Tryz.prog 134 c_strings_Compare:=okOf strings_Compare.eq Tryz.func134 rfl (by kernel_rfl) fun i x h hi hw=>strings_Compare.pure x.1 x.2 h hw
def strings_Compare.e:GE:=⟨134,c_strings_Compare,⟨_,Tryz.func134,rfl,rfl⟩,strings_Compare.ok⟩
end Go.Proofs.YtnoapekdbmpiaaaGreat.B
