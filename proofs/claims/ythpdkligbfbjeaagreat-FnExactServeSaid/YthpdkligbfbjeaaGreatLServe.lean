/- The row of this law:what it is handed is opened,its contract is laid in,what it leaves is shut again. -/
import Derived.Test.YthpdkligbfbjeaaGreatXD
import Derived.Test.YthpdkligbfbjeaaGreatRows
import Derived.ChangeOld
namespace Go.Proofs.YthpdkligbfbjeaaGreat.fnExactServe
open Go.Proofs.YthpdkligbfbjeaaGreat.B Go.ChangeShapes Go.WideShapes Go.ChangeAt Go.RowKit Go.Proofs.YthpdkligbfbjeaaGreat.Bv
theorem own:ownKnob Tryz.prog.godebug=none:=by kernel_rfl
theorem XxK:laidOutB Tryz.prog=true:=by kernel_rfl
set_option maxRecDepth 100000 in
theorem XxF(os:Os)(started:os.Started)(H:Type)(enc:TypeId×Value->H):
 ReturnsInHanded {} Tryz.checked os 3 .any (Rows.fnExactServeSpec.pre6 enc Tryz.prog Tryz.f3 Rows.fnExactServeRow.domain false) (Rows.fnExactServeSpec.post enc Tryz.prog Tryz.f3 false true false false):=by
 refine returnsInHanded_of_change_sized (C:=Tryz.checked) own started (by kernel_rfl) Tryz.func3
  (ChangeSpec.witness6 (enc:=enc) (C:=Tryz.checked) false ⟨#[],#[.agg #[.int .i64 0,.int .i64 0,.int .i64 0,.slice none 0 0,.int .i64 0,.slice none 0 0,.slice none 0 0,.slice none 0 0],.int .i64 0,.int .i64 0,.agg #[.int .i64 0,.string ⟨#[]⟩,.int .i64 0,.int .i64 0,.string ⟨#[]⟩],.int .i64 0],[]⟩ 8 (by kernel_rfl) (by kernel_rfl) (by kernel_rfl) (by kernel_rfl)) ?_
 intro W base args ds gs before hval0 hW hcnd hsz0 _
 have hval:∀(j:Nat) t v,Tryz.f3.params[j]?=some t->args[j]?=some v->Value.okWide Tryz.prog W .any base t v:=hval0
 have hW':=hW
 obtain⟨p,q,hA0,hV,rfl,hfz,hnd⟩:=hW
 have hA:DataW.TrodAll enc Tryz.prog W 0 (λ_=>true) true Tryz.f3.params.toList args.toList ds p:=hA0
 rw[Tryz.params3]at hA hval
 obtain⟨v0,vs0,d0,ds0,p0,q0,hargs,rfl,rfl,h0,r0⟩:=trodAll_cons hA
 obtain⟨v1,vs1,d1,ds1,p1,q1,rfl,rfl,rfl,h1,r1⟩:=trodAll_cons r0
 obtain⟨v2,vs2,d2,ds2,p2,q2,rfl,rfl,rfl,h2,r2⟩:=trodAll_cons r1
 obtain⟨v3,vs3,d3,ds3,p3,q3,rfl,rfl,rfl,h3,r3⟩:=trodAll_cons r2
 obtain⟨v4,vs4,d4,ds4,p4,q4,rfl,rfl,rfl,h4,r4⟩:=trodAll_cons r3
 obtain⟨rfl,rfl,rfl⟩:=trodAll_nil r4
 obtain rfl:args=#[v0,v1,v2,v3,v4]:=by cases args;simp_all
 obtain⟨rfl,rfl⟩:=trodVars_none hV
 have hlt0:∀x∈p0,x.block<W.heap.size:=λx hx=>by simpa using hW'.lt x (by simp[hx])
 have hlt1:∀x∈p1,x.block<W.heap.size:=λx hx=>by simpa using hW'.lt x (by simp[hx])
 have hlt2:∀x∈p2,x.block<W.heap.size:=λx hx=>by simpa using hW'.lt x (by simp[hx])
 have hlt3:∀x∈p3,x.block<W.heap.size:=λx hx=>by simpa using hW'.lt x (by simp[hx])
 have hlt4:∀x∈p4,x.block<W.heap.size:=λx hx=>by simpa using hW'.lt x (by simp[hx])
 obtain⟨x0,hx0,hw0,ha0⟩:=XjY XgY Xjp (t:=29) rfl (hval 0 29 v0 rfl rfl) h0
 obtain⟨x1,hx1,hw1,ha1⟩:=XjY XgY Xjp (t:=3) rfl (hval 1 3 v1 rfl rfl) h1
 obtain⟨x2,hx2,hw2,ha2⟩:=XjY XgY Xjp (t:=3) rfl (hval 2 3 v2 rfl rfl) h2
 obtain⟨x3,hx3,hw3,ha3⟩:=XjY XgY Xjp (t:=31) rfl (hval 3 31 v3 rfl rfl) h3
 obtain⟨x4,hx4,hw4,ha4⟩:=XjY XgY Xjp (t:=3) rfl (hval 4 3 v4 rfl rfl) h4
 clear hA0 hval0 hsz0
 refine(Xx5 X2R.ok (vs:=[v0,v1,v2,v3,v4]) (x:=(x0,x1,x2,x3,x4)) (.cons ha0 (.cons ha1 (.cons ha2 (.cons ha3 (.cons ha4 .nil))))) ⟨_,_,rfl,hx0,⟨_,_,rfl,hx1,⟨_,_,rfl,hx2,⟨_,_,rfl,hx3,(by rw[List.append_nil];exact hx4)⟩⟩⟩⟩ ⟨hw0,hw1,hw2,hw3,hw4⟩).mono λe W' ⟨he,bel⟩=>?_
 subst he
 exact⟨_,rfl,_,_,_,[],_,[],hW',trodAll_mk1 (shut_bool Tryz.underlying4 _),(trodAll_cons_mk (Below.trod XxK (by kernel_rfl) (of_decide_eq_true (by kernel_rfl)) h0 bel hlt0) (trodAll_cons_mk (Below.trod XxK (by kernel_rfl) (of_decide_eq_true (by kernel_rfl)) h1 bel hlt1) (trodAll_cons_mk (Below.trod XxK (by kernel_rfl) (of_decide_eq_true (by kernel_rfl)) h2 bel hlt2) (trodAll_cons_mk (Below.trod XxK (by kernel_rfl) (of_decide_eq_true (by kernel_rfl)) h3 bel hlt3) (trodAll_cons_mk (Below.trod XxK (by kernel_rfl) (of_decide_eq_true (by kernel_rfl)) h4 bel hlt4) trodAll_mk0))))),rfl,bel.frame _,λh=>by cases h⟩
theorem over:Rows.fnExactServeRow.holds Tryz.pinned (OpenSpec.ofChange Rows.fnExactServeSpec):=
 OpenClaim.holds_of_wide 3 Tryz.f3 rfl rfl rfl rfl rfl rfl rfl ⟨rfl,rfl,rfl,rfl,rfl⟩ rfl rfl rfl rfl rfl (by kernel_rfl) Tryz.func3 (by kernel_rfl)
  (of_decide_eq_true (by kernel_rfl)) (by unfold Func.isWrapper;first | (rw[if_pos (by decide+kernel)];kernel_rfl) | (rw[if_neg (by decide+kernel)];exact⟨rfl,rfl⟩))
  (λos started H enc _=>XxF os started H enc)
theorem proved:Rows.FnExactServeSaid:=over
end Go.Proofs.YthpdkligbfbjeaaGreat.fnExactServe
namespace Go.Proofs.YthpdkligbfbjeaaGreat
theorem fnExactServe_holds:Rows.FnExactServeSaid:=fnExactServe.proved
#print axioms fnExactServe_holds
end Go.Proofs.YthpdkligbfbjeaaGreat
