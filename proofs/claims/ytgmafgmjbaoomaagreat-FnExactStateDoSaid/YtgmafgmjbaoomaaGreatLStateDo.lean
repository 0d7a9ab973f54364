/- The row of this law:what it is handed is opened,its contract is laid in,what it leaves is shut again. -/
import Derived.Test.YtgmafgmjbaoomaaGreatXD
import Derived.Test.YtgmafgmjbaoomaaGreatRows
import Derived.ChangeOld
namespace Go.Proofs.YtgmafgmjbaoomaaGreat.fnExactStateDo
open Go.Proofs.YtgmafgmjbaoomaaGreat.B Go.ChangeShapes Go.WideShapes Go.ChangeAt Go.RowKit Go.Proofs.YtgmafgmjbaoomaaGreat.Bv
theorem own:ownKnob Tryz.prog.godebug=none:=by kernel_rfl
theorem laid:laidOutB Tryz.prog=true:=by kernel_rfl
set_option maxRecDepth 100000 in
theorem XxO(os:Os)(started:os.Started)(H:Type)(enc:TypeId×Value->H):
 ReturnsInHanded {} Tryz.checked os 4 .any (Rows.fnExactStateDoSpec.pre6 enc Tryz.prog Tryz.f4 Rows.fnExactStateDoRow.domain false) (Rows.fnExactStateDoSpec.post enc Tryz.prog Tryz.f4 false true false false):=by
 refine returnsInHanded_of_change_sized (C:=Tryz.checked) own started (by kernel_rfl) Tryz.func4
  (ChangeSpec.witness6 (enc:=enc) (C:=Tryz.checked) false ⟨#[],#[.agg #[.int .i64 0,.int .i64 0,.int .i64 0,.slice none 0 0,.int .i64 0,.slice none 0 0,.slice none 0 0,.slice none 0 0],.agg #[.int .i64 0,.string ⟨#[]⟩,.int .i64 0,.int .i64 0,.string ⟨#[]⟩]],[]⟩ 8 (by kernel_rfl) (by kernel_rfl) (by kernel_rfl) (by kernel_rfl)) ?_
 intro W base args ds gs before hval0 hW hcnd hsz0 _
 have hval:∀(j:Nat) t v,Tryz.f4.params[j]?=some t->args[j]?=some v->Value.okWide Tryz.prog W .any base t v:=hval0
 have hW':=hW
 obtain⟨p,q,hA0,hV,rfl,hfz,hnd⟩:=hW
 have hA:DataW.TrodAll enc Tryz.prog W 0 (λ_=>true) true Tryz.f4.params.toList args.toList ds p:=hA0
 rw[Tryz.params4]at hA hval
 obtain⟨v0,vs0,d0,ds0,p0,q0,hargs,rfl,rfl,h0,r0⟩:=trodAll_cons hA
 obtain⟨v1,vs1,d1,ds1,p1,q1,rfl,rfl,rfl,h1,r1⟩:=trodAll_cons r0
 obtain⟨rfl,rfl,rfl⟩:=trodAll_nil r1
 obtain rfl:args=#[v0,v1]:=by cases args;simp_all
 obtain⟨rfl,rfl⟩:=trodVars_none hV
 have hlt0:∀x∈p0,x.block<W.heap.size:=λx hx=>by simpa using hW'.lt x (by simp[hx])
 have hlt1:∀x∈p1,x.block<W.heap.size:=λx hx=>by simpa using hW'.lt x (by simp[hx])
 obtain⟨x0,hx0,hw0,ha0⟩:=XqZ XlM Xsj (t:=52) rfl (hval 0 52 v0 rfl rfl) h0
 obtain⟨x1,hx1,hw1,ha1⟩:=XqZ XlM Xsj (t:=53) rfl (hval 1 53 v1 rfl rfl) h1
 clear hA0 hval0 hsz0
 refine(XvK X24.ok (vs:=[v0,v1]) (x:=(x0,x1)) (.cons ha0 (.cons ha1 .nil)) ⟨_,_,rfl,hx0,(by rw[List.append_nil];exact hx1)⟩ ⟨hw0,hw1⟩).mono λe W' ⟨he,bel⟩=>?_
 subst he
 exact⟨_,rfl,_,_,_,[],_,[],hW',trodAll_mk1 (shut_bool Tryz.underlying4 _),(trodAll_cons_mk (Below.trod laid (by kernel_rfl) (of_decide_eq_true (by kernel_rfl)) h0 bel hlt0) (trodAll_cons_mk (Below.trod laid (by kernel_rfl) (of_decide_eq_true (by kernel_rfl)) h1 bel hlt1) trodAll_mk0)),rfl,bel.frame _,λh=>by cases h⟩
theorem over:Rows.fnExactStateDoRow.holds Tryz.pinned (OpenSpec.ofChange Rows.fnExactStateDoSpec):=
 OpenClaim.holds_of_wide 4 Tryz.f4 rfl rfl rfl rfl rfl rfl rfl ⟨rfl,rfl,rfl,rfl,rfl⟩ rfl rfl rfl rfl rfl (by kernel_rfl) Tryz.func4 (by kernel_rfl)
  (of_decide_eq_true (by kernel_rfl)) (by unfold Func.isWrapper;first | (rw[if_pos (by decide+kernel)];kernel_rfl) | (rw[if_neg (by decide+kernel)];exact⟨rfl,rfl⟩))
  (λos started H enc _=>XxO os started H enc)
theorem proved:Rows.FnExactStateDoSaid:=over
end Go.Proofs.YtgmafgmjbaoomaaGreat.fnExactStateDo
namespace Go.Proofs.YtgmafgmjbaoomaaGreat
theorem fnExactStateDo_holds:Rows.FnExactStateDoSaid:=fnExactStateDo.proved
#print axioms fnExactStateDo_holds
end Go.Proofs.YtgmafgmjbaoomaaGreat
