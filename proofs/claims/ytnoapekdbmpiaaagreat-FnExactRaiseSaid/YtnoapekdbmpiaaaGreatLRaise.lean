/- The row of this law:what it is handed is opened,its contract is laid in,what it leaves is shut again. -/
import Derived.Test.YtnoapekdbmpiaaaGreatRows
import Derived.Test.YtnoapekdbmpiaaaGreatQRaise
import Derived.ChangeOld
namespace Go.Proofs.YtnoapekdbmpiaaaGreat.fnExactRaise
open Go.Proofs.YtnoapekdbmpiaaaGreat.B Go.ChangeShapes Go.WideShapes Go.ChangeAt Go.RowKit Go.Proofs.YtnoapekdbmpiaaaGreat.Bv
theorem own:ownKnob Tryz.prog.godebug=none:=by kernel_rfl
theorem laid:laidOutB Tryz.prog=true:=by kernel_rfl
set_option maxRecDepth 100000 in
theorem lifted (os:Os) (started:os.Started) (H:Type) (enc:TypeId×Value→H):
 ReturnsInHanded {} Tryz.checked os 5 .any (Rows.fnExactRaiseSpec.pre6 enc Tryz.prog Tryz.f5 Rows.fnExactRaiseRow.domain false) (Rows.fnExactRaiseSpec.post enc Tryz.prog Tryz.f5 false true false false):=by
 refine returnsInHanded_of_change_sized (C:=Tryz.checked) own started (by kernel_rfl) Tryz.func5
  (ChangeSpec.witness6 (enc:=enc) (C:=Tryz.checked) false ⟨#[],#[.agg #[.int .i64 0,.slice none 0 0,.slice none 0 0],.int .i64 0],[]⟩ 8 (by kernel_rfl) (by kernel_rfl) (by kernel_rfl) (by kernel_rfl)) ?_
 intro W base args ds gs before hval0 hW hcnd hsz0 _
 have hval:∀(j:Nat) t v,Tryz.f5.params[j]?=some t→args[j]?=some v→Value.okWide Tryz.prog W .any base t v:=hval0
 have hW':=hW
 obtain⟨p,q,hA0,hV,rfl,hfz,hnd⟩:=hW
 have hA:DataW.TrodAll enc Tryz.prog W 0 (fun _=>true) true Tryz.f5.params.toList args.toList ds p:=hA0
 rw [Tryz.params5] at hA hval
 obtain⟨v0,vs0,d0,ds0,p0,q0,hargs,rfl,rfl,h0,r0⟩:=trodAll_cons hA
 obtain⟨v1,vs1,d1,ds1,p1,q1,rfl,rfl,rfl,h1,r1⟩:=trodAll_cons r0
 obtain⟨rfl,rfl,rfl⟩:=trodAll_nil r1
 obtain rfl:args=#[v0,v1]:=by cases args;simp_all
 obtain⟨rfl,rfl⟩:=trodVars_none hV
 have hlt0:∀x∈p0,x.block<W.heap.size:=fun x hx=>by simpa using hW'.lt x (by simp [hx])
 have hlt1:∀x∈p1,x.block<W.heap.size:=fun x hx=>by simpa using hW'.lt x (by simp [hx])
 obtain⟨x0,hx0,hw0,ha0⟩:=arg_rep tabOk consist (t:=25) rfl (hval 0 25 v0 rfl rfl) h0
 obtain⟨x1,hx1,hw1,ha1⟩:=arg_rep tabOk consist (t:=3) rfl (hval 1 3 v1 rfl rfl) h1
 clear hA0 hval0 hsz0
 refine (law_run laws_FnExactRaise.ok (vs:=[v0,v1]) (x:=(x0,x1)) (.cons ha0 (.cons ha1 .nil)) ⟨_,_,rfl,hx0,(by rw [List.append_nil];exact hx1)⟩ ⟨hw0,hw1⟩).mono fun e W' ⟨he,bel⟩=>?_
 subst he
 exact⟨_,rfl,_,_,_,[],_,[],hW',trodAll_mk1 (shut_bool Tryz.underlying4 _),(trodAll_cons_mk (Below.trod laid (by kernel_rfl) (of_decide_eq_true (by kernel_rfl)) h0 bel hlt0) (trodAll_cons_mk (Below.trod laid (by kernel_rfl) (of_decide_eq_true (by kernel_rfl)) h1 bel hlt1) trodAll_mk0)),rfl,bel.frame _,fun h=>by cases h⟩
theorem over:Rows.fnExactRaiseRow.holds Tryz.pinned (OpenSpec.ofChange Rows.fnExactRaiseSpec):=
 OpenClaim.holds_of_wide 5 Tryz.f5 rfl rfl rfl rfl rfl rfl rfl ⟨rfl,rfl,rfl,rfl,rfl⟩ rfl rfl rfl rfl rfl (by kernel_rfl) Tryz.func5 (by kernel_rfl)
  (of_decide_eq_true (by kernel_rfl)) (by unfold Func.isWrapper;first | (rw [if_pos (by decide+kernel)];kernel_rfl) | (rw [if_neg (by decide+kernel)];exact⟨rfl,rfl⟩))
  (fun os started H enc _=>lifted os started H enc)
theorem proved:Rows.FnExactRaiseSaid:=over
end Go.Proofs.YtnoapekdbmpiaaaGreat.fnExactRaise
namespace Go.Proofs.YtnoapekdbmpiaaaGreat
theorem fnExactRaise_holds:Rows.FnExactRaiseSaid:=fnExactRaise.proved
#print axioms fnExactRaise_holds
end Go.Proofs.YtnoapekdbmpiaaaGreat
