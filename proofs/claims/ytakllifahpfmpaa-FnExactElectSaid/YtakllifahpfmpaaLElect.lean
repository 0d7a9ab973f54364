/- The row of this law:what it is handed is opened,its contract is laid in,what it leaves is shut again. -/
import Derived.Test.YtakllifahpfmpaaRows
import Derived.Test.YtakllifahpfmpaaQElect
import Derived.ChangeOld
namespace Go.Proofs.Ytakllifahpfmpaa.fnExactElect
open Go.Proofs.Ytakllifahpfmpaa.B Go.ChangeShapes Go.WideShapes Go.ChangeAt Go.RowKit Go.Proofs.Ytakllifahpfmpaa.Bv
theorem own:ownKnob Try.prog.godebug=none:=by kernel_rfl
theorem laid:laidOutB Try.prog=true:=by kernel_rfl
set_option maxRecDepth 100000 in
theorem Xi4(os:Os)(started:os.Started)(H:Type)(enc:TypeId×Value→H):
 ReturnsInHanded {} Try.checked os 3 .any (Rows.fnExactElectSpec.pre6 enc Try.prog Try.f3 Rows.fnExactElectRow.domain false) (Rows.fnExactElectSpec.post enc Try.prog Try.f3 false true false false):=by
 refine returnsInHanded_of_change_sized (C:=Try.checked) own started (by kernel_rfl) Try.func3
  (ChangeSpec.witness6 (enc:=enc) (C:=Try.checked) false ⟨#[],#[.agg #[.int .i64 0,.int .i64 0,.int .i64 0,.int .i64 0,.int .i64 0,.int .i64 0,.int .i64 0,.int .i64 0,.slice none 0 0,.int .i64 0,.slice none 0 0,.slice none 0 0,.slice none 0 0]],[]⟩ 8 (by kernel_rfl) (by kernel_rfl) (by kernel_rfl) (by kernel_rfl)) ?_
 intro W base args ds gs before hval0 hW hcnd hsz0 _
 have hval:∀(j:Nat) t v,Try.f3.params[j]?=some t→args[j]?=some v→Value.okWide Try.prog W .any base t v:=hval0
 have hW':=hW
 obtain⟨p,q,hA0,hV,rfl,hfz,hnd⟩:=hW
 have hA:DataW.TrodAll enc Try.prog W 0 (fun _=>true) true Try.f3.params.toList args.toList ds p:=hA0
 rw[Try.params3]at hA hval
 obtain⟨v0,vs0,d0,ds0,p0,q0,hargs,rfl,rfl,h0,r0⟩:=trodAll_cons hA
 obtain⟨rfl,rfl,rfl⟩:=trodAll_nil r0
 obtain rfl:args=#[v0]:=by cases args;simp_all
 obtain⟨rfl,rfl⟩:=trodVars_none hV
 have hlt0:∀x∈p0,x.block<W.heap.size:=fun x hx=>by simpa using hW'.lt x (by simp[hx])
 obtain⟨x0,hx0,hw0,ha0⟩:=Xhd Xiv XhG (t:=25) rfl (hval 0 25 v0 rfl rfl) h0
 clear hA0 hval0 hsz0
 refine(XhE X0L.ok (vs:=[v0]) (x:=x0) (.cons ha0 .nil) (by rw[List.append_nil];exact hx0) hw0).mono fun e W' ⟨he,bel⟩=>?_
 subst he
 exact⟨_,rfl,_,_,_,[],_,[],hW',trodAll_mk1 (shut_bool Try.underlying4 _),(trodAll_cons_mk (Below.trod laid (by kernel_rfl) (of_decide_eq_true (by kernel_rfl)) h0 bel hlt0) trodAll_mk0),rfl,bel.frame _,fun h=>by cases h⟩
theorem over:Rows.fnExactElectRow.holds Try.pinned (OpenSpec.ofChange Rows.fnExactElectSpec):=
 OpenClaim.holds_of_wide 3 Try.f3 rfl rfl rfl rfl rfl rfl rfl ⟨rfl,rfl,rfl,rfl,rfl⟩ rfl rfl rfl rfl rfl (by kernel_rfl) Try.func3 (by kernel_rfl)
  (of_decide_eq_true (by kernel_rfl)) (by unfold Func.isWrapper;first | (rw[if_pos (by decide+kernel)];kernel_rfl) | (rw[if_neg (by decide+kernel)];exact⟨rfl,rfl⟩))
  (fun os started H enc _=>Xi4 os started H enc)
theorem proved:Rows.FnExactElectSaid:=over
end Go.Proofs.Ytakllifahpfmpaa.fnExactElect
namespace Go.Proofs.Ytakllifahpfmpaa
theorem fnExactElect_holds:Rows.FnExactElectSaid:=fnExactElect.proved
#print axioms fnExactElect_holds
end Go.Proofs.Ytakllifahpfmpaa
