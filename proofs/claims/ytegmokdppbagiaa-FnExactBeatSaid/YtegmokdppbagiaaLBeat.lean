/- The row of this law:what it is handed is opened,its contract is laid in,what it leaves is shut again. -/
import Derived.Test.YtegmokdppbagiaaRows
import Derived.Test.YtegmokdppbagiaaQBeat
import Derived.ChangeOld
namespace Go.Proofs.Ytegmokdppbagiaa.fnExactBeat
open Go.Proofs.Ytegmokdppbagiaa.B Go.ChangeShapes Go.WideShapes Go.ChangeAt Go.RowKit Go.Proofs.Ytegmokdppbagiaa.Bv
theorem own:ownKnob Try.prog.godebug=none:=by kernel_rfl
theorem laid:laidOutB Try.prog=true:=by kernel_rfl
set_option maxRecDepth 100000 in
theorem Xh2(os:Os)(started:os.Started)(H:Type)(enc:TypeId×Value→H):
 ReturnsInHanded {} Try.checked os 4 .any (Rows.fnExactBeatSpec.pre6 enc Try.prog Try.f4 Rows.fnExactBeatRow.domain false) (Rows.fnExactBeatSpec.post enc Try.prog Try.f4 false true false false):=by
 refine returnsInHanded_of_change_sized (C:=Try.checked) own started (by kernel_rfl) Try.func4
  (ChangeSpec.witness6 (enc:=enc) (C:=Try.checked) false ⟨#[],#[.agg #[.int .i64 0,.int .i64 0,.int .i64 0,.int .i64 0,.int .i64 0,.int .i64 0,.int .i64 0,.int .i64 0,.slice none 0 0,.int .i64 0,.slice none 0 0,.slice none 0 0,.slice none 0 0]],[]⟩ 8 (by kernel_rfl) (by kernel_rfl) (by kernel_rfl) (by kernel_rfl)) ?_
 intro W base args ds gs before hval0 hW hcnd hsz0 _
 have hval:∀(j:Nat) t v,Try.f4.params[j]?=some t→args[j]?=some v→Value.okWide Try.prog W .any base t v:=hval0
 have hW':=hW
 obtain⟨p,q,hA0,hV,rfl,hfz,hnd⟩:=hW
 have hA:DataW.TrodAll enc Try.prog W 0 (fun _=>true) true Try.f4.params.toList args.toList ds p:=hA0
 rw[Try.params4]at hA hval
 obtain⟨v0,vs0,d0,ds0,p0,q0,hargs,rfl,rfl,h0,r0⟩:=trodAll_cons hA
 obtain⟨rfl,rfl,rfl⟩:=trodAll_nil r0
 obtain rfl:args=#[v0]:=by cases args;simp_all
 obtain⟨rfl,rfl⟩:=trodVars_none hV
 have hlt0:∀x∈p0,x.block<W.heap.size:=fun x hx=>by simpa using hW'.lt x (by simp[hx])
 obtain⟨x0,hx0,hw0,ha0⟩:=XfY Xh3 XfT (t:=45) rfl (hval 0 45 v0 rfl rfl) h0
 clear hA0 hval0 hsz0
 refine(Xgu X0M.ok (vs:=[v0]) (x:=x0) (.cons ha0 .nil) (by rw[List.append_nil];exact hx0) hw0).mono fun e W' ⟨he,bel⟩=>?_
 subst he
 exact⟨_,rfl,_,_,_,[],_,[],hW',trodAll_mk1 (shut_bool Try.underlying4 _),(trodAll_cons_mk (Below.trod laid (by kernel_rfl) (of_decide_eq_true (by kernel_rfl)) h0 bel hlt0) trodAll_mk0),rfl,bel.frame _,fun h=>by cases h⟩
theorem over:Rows.fnExactBeatRow.holds Try.pinned (OpenSpec.ofChange Rows.fnExactBeatSpec):=
 OpenClaim.holds_of_wide 4 Try.f4 rfl rfl rfl rfl rfl rfl rfl ⟨rfl,rfl,rfl,rfl,rfl⟩ rfl rfl rfl rfl rfl (by kernel_rfl) Try.func4 (by kernel_rfl)
  (of_decide_eq_true (by kernel_rfl)) (by unfold Func.isWrapper;first | (rw[if_pos (by decide+kernel)];kernel_rfl) | (rw[if_neg (by decide+kernel)];exact⟨rfl,rfl⟩))
  (fun os started H enc _=>Xh2 os started H enc)
theorem proved:Rows.FnExactBeatSaid:=over
end Go.Proofs.Ytegmokdppbagiaa.fnExactBeat
namespace Go.Proofs.Ytegmokdppbagiaa
theorem fnExactBeat_holds:Rows.FnExactBeatSaid:=fnExactBeat.proved
#print axioms fnExactBeat_holds
end Go.Proofs.Ytegmokdppbagiaa
