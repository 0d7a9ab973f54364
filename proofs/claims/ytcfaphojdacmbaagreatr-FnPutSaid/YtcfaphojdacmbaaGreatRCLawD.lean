/- Engines that laws draw. -/
import Derived.Test.YtcfaphojdacmbaaGreatRCDEng
import Derived.Test.YtcfaphojdacmbaaGreatRCSameS
import Derived.Test.YtcfaphojdacmbaaGreatRCEngU
set_option linter.unusedVariables false
set_option linter.unusedSimpArgs false
namespace Go.Proofs.YtcfaphojdacmbaaGreatR.B
open Go Go.Proofs.YtcfaphojdacmbaaGreatR.Bv
theorem XmC(l:List Ser):X9z l l=true:=by unfold X9z;simp
theorem XlM{l:List Pt}(h:XaI l):X13 l 0 1099511627777=l:=by
 unfold X13
 rw[List.filter_eq_self]
 intro x hx
 have:=h.2 x hx
 simp only[Bool.and_eq_true,decide_eq_true_eq];omega
theorem Xrk{l:List Ser}(h:XbV l){i:Nat}(hi:i<l.length):X2L l (l.getD i ([],[])).1=(l.getD i ([],[])).2:=((X7R h).1 (X0Y hi)).2
theorem XdC{e:Eng}(h:X1Q e=true)(k:Str):X5a e k 0 1099511627777=X2L (X0c e).1 k:=by
 obtain⟨g1,g2,g3,g4⟩:=X2g h
 unfold X5a
 rw[if_pos h,XlM (Xb6 (X16 g4).1.2 k)]
theorem Xjh{a b:List Pt}(h:a=b):X7d a b=true:=by unfold X7d;exact decide_eq_true h
structure PZ (key:Str) (p:List Pt) (was:List Ser) (e x:Eng):Prop where
 oe:X1Q e=true
 pe:X8M e
 ok:X1Q x=true
 px:X8M x
 w:was=(X0c e).1
 hp:X0u p=true
 pl:(X0c x).1=X2N (X0c e).1 [(key,p)]
theorem XoK{key:Str}{p:List Pt}{was:List Ser}{e x:Eng}(H:PZ key p was e x)(k:Str):X2L (X0c x).1 k=X2o (X2L (X0c e).1 k) (if key=k then p else []):=by
 obtain⟨g1,g2,g3,g4⟩:=X2g H.oe
 have hR:=(X16 g4).1
 have hpR:=(X6H H.hp).1
 rw[H.pl,X3V hR.1 (fun x hx=>by rw[List.mem_singleton.1 hx];exact hpR.1) (List.pairwise_singleton _ _),XiN]
theorem XrA{key:Str}{p:List Pt}{was:List Ser}{e x:Eng}(H:PZ key p was e x){i:Nat}(hi:i<was.length)(hk:¬(was.getD i ([],[])).1=key):
 X7d (X5a x (was.getD i ([],[])).1 0 1099511627777) (was.getD i ([],[])).2=true:=by
 obtain⟨g1,g2,g3,g4⟩:=X2g H.oe
 rw[XdC H.ok,XoK H,if_neg (Ne.symm hk)]
 have hw:=H.w
 refine Xjh ?_
 rw[←hw,Xrk (by rw[hw];exact(X16 g4).1.1) hi];rfl
theorem XqA{key:Str}{p:List Pt}{was:List Ser}{e x:Eng}(H:PZ key p was e x):
 (X7P (X5a e key 0 1099511627777) p).2=true∧X7d (X5a x key 0 1099511627777) (X7P (X5a e key 0 1099511627777) p).1=true:=by
 obtain⟨g1,g2,g3,g4⟩:=X2g H.oe
 obtain⟨x1,x2,x3,x4⟩:=X2g H.ok
 have hR:=(X16 g4).1
 have hm:=XoK H key
 rw[if_pos rfl]at hm
 have hok:∀{l:List Ser} (hl:X0y l=true) (k:Str),X0u (X2L l k)=true:=fun {l} hl k=>by
  cases hk:X5H l k with
  | false=>rw[X9v hk];decide
  | true=>
    obtain⟨z,hz,e1⟩:=X54.1 hk
    have:=((X7R (X16 hl).1.1).1 hz).2
    rw[e1]at this
    rw[this];exact((X16 hl).2.2.2 z hz).2.2
 have hl:=X4V (hok x4 key)
 rw[hm]at hl
 rw[XdC H.oe,XdC H.ok,hm]
 unfold X7P
 rw[if_pos ⟨hok g4 key,H.hp,hl⟩]
 exact⟨rfl,Xjh rfl⟩
end Go.Proofs.YtcfaphojdacmbaaGreatR.B
