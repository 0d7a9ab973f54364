/- The row of this law:what it is handed is opened,its contract is laid in,what it leaves is shut again. -/
import Derived.Test.YtgmafgmjbaoomaaGreatRows
import Derived.Test.YtgmafgmjbaoomaaGreatQRoute
import Derived.ChangeOld
namespace Go.Proofs.YtgmafgmjbaoomaaGreat.fnRoute
open Go.Proofs.YtgmafgmjbaoomaaGreat.B Go.ChangeShapes Go.WideShapes Go.ChangeAt Go.RowKit Go.Proofs.YtgmafgmjbaoomaaGreat.Bv
theorem own:ownKnob Tryz.prog.godebug=none:=by kernel_rfl
theorem laid:laidOutB Tryz.prog=true:=by kernel_rfl
set_option maxRecDepth 100000 in
theorem XoF(os:Os)(started:os.Started)(H:Type)(enc:TypeId×Value→H):
 ReturnsInHanded {} Tryz.checked os 3 .any (Rows.fnRouteSpec.pre6 enc Tryz.prog Tryz.f3 Rows.fnRouteRow.domain false) (Rows.fnRouteSpec.post enc Tryz.prog Tryz.f3 false true false false):=by
 refine returnsInHanded_of_change_sized (C:=Tryz.checked) own started (by kernel_rfl) Tryz.func3
  (ChangeSpec.witness6 (enc:=enc) (C:=Tryz.checked) false ⟨#[],#[.slice none 0 0],[]⟩ 8 (by kernel_rfl) (by kernel_rfl) (by kernel_rfl) (by kernel_rfl)) ?_
 intro W base args ds gs before hval0 hW hcnd hsz0 _
 have hval:∀(j:Nat) t v,Tryz.f3.params[j]?=some t→args[j]?=some v→Value.okWide Tryz.prog W .any base t v:=hval0
 have hW':=hW
 obtain⟨p,q,hA0,hV,rfl,hfz,hnd⟩:=hW
 have hA:DataW.TrodAll enc Tryz.prog W 0 (fun _=>true) true Tryz.f3.params.toList args.toList ds p:=hA0
 rw[Tryz.params3]at hA hval
 obtain⟨v0,vs0,d0,ds0,p0,q0,hargs,rfl,rfl,h0,r0⟩:=trodAll_cons hA
 obtain⟨rfl,rfl,rfl⟩:=trodAll_nil r0
 obtain rfl:args=#[v0]:=by cases args;simp_all
 obtain⟨rfl,rfl⟩:=trodVars_none hV
 have hlt0:∀x∈p0,x.block<W.heap.size:=fun x hx=>by simpa using hW'.lt x (by simp[hx])
 obtain⟨x0,hx0,hw0,ha0⟩:=Xnc Xm2 Xnt (t:=22) rfl (hval 0 22 v0 rfl rfl) h0
 clear hA0 hval0 hsz0
 refine(Xn7 X2j.ok (vs:=[v0]) (x:=x0) (.cons ha0 .nil) (by rw[List.append_nil];exact hx0) hw0).mono fun e W' ⟨he,bel⟩=>?_
 subst he
 exact⟨_,rfl,_,_,_,[],_,[],hW',trodAll_mk1 (shut_bool Tryz.underlying4 _),(trodAll_cons_mk (Below.trod laid (by kernel_rfl) (of_decide_eq_true (by kernel_rfl)) h0 bel hlt0) trodAll_mk0),rfl,bel.frame _,fun h=>by cases h⟩
theorem over:Rows.fnRouteRow.holds Tryz.pinned (OpenSpec.ofChange Rows.fnRouteSpec):=
 OpenClaim.holds_of_wide 3 Tryz.f3 rfl rfl rfl rfl rfl rfl rfl ⟨rfl,rfl,rfl,rfl,rfl⟩ rfl rfl rfl rfl rfl (by kernel_rfl) Tryz.func3 (by kernel_rfl)
  (of_decide_eq_true (by kernel_rfl)) (by unfold Func.isWrapper;first | (rw[if_pos (by decide+kernel)];kernel_rfl) | (rw[if_neg (by decide+kernel)];exact⟨rfl,rfl⟩))
  (fun os started H enc _=>XoF os started H enc)
theorem proved:Rows.FnRouteSaid:=over
end Go.Proofs.YtgmafgmjbaoomaaGreat.fnRoute
namespace Go.Proofs.YtgmafgmjbaoomaaGreat
theorem fnRoute_holds:Rows.FnRouteSaid:=fnRoute.proved
#print axioms fnRoute_holds
end Go.Proofs.YtgmafgmjbaoomaaGreat
