/- The row of this law:what it is handed is opened,its contract is laid in,what it leaves is shut again. -/
import Derived.Test.YtnoapekdbmpiaaaGreatRows
import Derived.Test.YtnoapekdbmpiaaaGreatQQuery
import Derived.ChangeOld
namespace Go.Proofs.YtnoapekdbmpiaaaGreat.fnExactQuery
open Go.Proofs.YtnoapekdbmpiaaaGreat.B Go.ChangeShapes Go.WideShapes Go.ChangeAt Go.RowKit Go.Proofs.YtnoapekdbmpiaaaGreat.Bv
theorem own:ownKnob Tryz.prog.godebug=none:=by kernel_rfl
theorem laid:laidOutB Tryz.prog=true:=by kernel_rfl
set_option maxRecDepth 100000 in
theorem lifted (os:Os) (started:os.Started) (H:Type) (enc:TypeId×Value→H):
 ReturnsInHanded {} Tryz.checked os 3 .any (Rows.fnExactQuerySpec.pre6 enc Tryz.prog Tryz.f3 Rows.fnExactQueryRow.domain false) (Rows.fnExactQuerySpec.post enc Tryz.prog Tryz.f3 false true false false):=by
 refine returnsInHanded_of_change_sized (C:=Tryz.checked) own started (by kernel_rfl) Tryz.func3
  (ChangeSpec.witness6 (enc:=enc) (C:=Tryz.checked) false ⟨#[],#[.agg #[.int .i64 0,.slice none 0 0,.slice none 0 0],.string ⟨#[]⟩,.int .i64 0,.int .i64 0],[]⟩ 8 (by kernel_rfl) (by kernel_rfl) (by kernel_rfl) (by kernel_rfl)) ?_
 intro W base args ds gs before hval0 hW hcnd hsz0 _
 have hval:∀(j:Nat) t v,Tryz.f3.params[j]?=some t→args[j]?=some v→Value.okWide Tryz.prog W .any base t v:=hval0
 have hW':=hW
 obtain⟨p,q,hA0,hV,rfl,hfz,hnd⟩:=hW
 have hA:DataW.TrodAll enc Tryz.prog W 0 (fun _=>true) true Tryz.f3.params.toList args.toList ds p:=hA0
 rw [Tryz.params3] at hA hval
 obtain⟨v0,vs0,d0,ds0,p0,q0,hargs,rfl,rfl,h0,r0⟩:=trodAll_cons hA
 obtain⟨v1,vs1,d1,ds1,p1,q1,rfl,rfl,rfl,h1,r1⟩:=trodAll_cons r0
 obtain⟨v2,vs2,d2,ds2,p2,q2,rfl,rfl,rfl,h2,r2⟩:=trodAll_cons r1
 obtain⟨v3,vs3,d3,ds3,p3,q3,rfl,rfl,rfl,h3,r3⟩:=trodAll_cons r2
 obtain⟨rfl,rfl,rfl⟩:=trodAll_nil r3
 obtain rfl:args=#[v0,v1,v2,v3]:=by cases args;simp_all
 obtain⟨rfl,rfl⟩:=trodVars_none hV
 have hlt0:∀x∈p0,x.block<W.heap.size:=fun x hx=>by simpa using hW'.lt x (by simp [hx])
 have hlt1:∀x∈p1,x.block<W.heap.size:=fun x hx=>by simpa using hW'.lt x (by simp [hx])
 have hlt2:∀x∈p2,x.block<W.heap.size:=fun x hx=>by simpa using hW'.lt x (by simp [hx])
 have hlt3:∀x∈p3,x.block<W.heap.size:=fun x hx=>by simpa using hW'.lt x (by simp [hx])
 obtain⟨x0,hx0,hw0,ha0⟩:=arg_rep tabOk consist (t:=25) rfl (hval 0 25 v0 rfl rfl) h0
 obtain⟨x1,hx1,hw1,ha1⟩:=arg_rep tabOk consist (t:=9) rfl (hval 1 9 v1 rfl rfl) h1
 obtain⟨x2,hx2,hw2,ha2⟩:=arg_rep tabOk consist (t:=3) rfl (hval 2 3 v2 rfl rfl) h2
 obtain⟨x3,hx3,hw3,ha3⟩:=arg_rep tabOk consist (t:=3) rfl (hval 3 3 v3 rfl rfl) h3
 clear hA0 hval0 hsz0
 refine (law_run laws_FnExactQuery.ok (vs:=[v0,v1,v2,v3]) (x:=(x0,x1,x2,x3)) (.cons ha0 (.cons ha1 (.cons ha2 (.cons ha3 .nil)))) ⟨_,_,rfl,hx0,⟨_,_,rfl,hx1,⟨_,_,rfl,hx2,(by rw [List.append_nil];exact hx3)⟩⟩⟩ ⟨hw0,hw1,hw2,hw3⟩).mono fun e W' ⟨he,bel⟩=>?_
 subst he
 exact⟨_,rfl,_,_,_,[],_,[],hW',trodAll_mk1 (shut_bool Tryz.underlying4 _),(trodAll_cons_mk (Below.trod laid (by kernel_rfl) (of_decide_eq_true (by kernel_rfl)) h0 bel hlt0) (trodAll_cons_mk (Below.trod laid (by kernel_rfl) (of_decide_eq_true (by kernel_rfl)) h1 bel hlt1) (trodAll_cons_mk (Below.trod laid (by kernel_rfl) (of_decide_eq_true (by kernel_rfl)) h2 bel hlt2) (trodAll_cons_mk (Below.trod laid (by kernel_rfl) (of_decide_eq_true (by kernel_rfl)) h3 bel hlt3) trodAll_mk0)))),rfl,bel.frame _,fun h=>by cases h⟩
theorem over:Rows.fnExactQueryRow.holds Tryz.pinned (OpenSpec.ofChange Rows.fnExactQuerySpec):=
 OpenClaim.holds_of_wide 3 Tryz.f3 rfl rfl rfl rfl rfl rfl rfl ⟨rfl,rfl,rfl,rfl,rfl⟩ rfl rfl rfl rfl rfl (by kernel_rfl) Tryz.func3 (by kernel_rfl)
  (of_decide_eq_true (by kernel_rfl)) (by unfold Func.isWrapper;first | (rw [if_pos (by decide+kernel)];kernel_rfl) | (rw [if_neg (by decide+kernel)];exact⟨rfl,rfl⟩))
  (fun os started H enc _=>lifted os started H enc)
theorem proved:Rows.FnExactQuerySaid:=over
end Go.Proofs.YtnoapekdbmpiaaaGreat.fnExactQuery
namespace Go.Proofs.YtnoapekdbmpiaaaGreat
theorem fnExactQuery_holds:Rows.FnExactQuerySaid:=fnExactQuery.proved
#print axioms fnExactQuery_holds
end Go.Proofs.YtnoapekdbmpiaaaGreat
