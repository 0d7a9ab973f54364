/- Engines that laws draw. -/
import Derived.Test.YtcfaphojdacmbaaGreatRCDEng
import Derived.Test.YtcfaphojdacmbaaGreatRCSameS
import Derived.Test.YtcfaphojdacmbaaGreatRCEngU
set_option linter.unusedVariables false
set_option linter.unusedSimpArgs false
namespace Go.Proofs.YtcfaphojdacmbaaGreatR.B
open Go Go.Proofs.YtcfaphojdacmbaaGreatR.Bv
theorem Xmn{l:List Pt}(h:XaT l):X0Z l 0 1099511627777=l:=by
 unfold X0Z
 rw[List.filter_eq_self]
 intro x hx
 have:=h.2 x hx
 simp only[Bool.and_eq_true,decide_eq_true_eq];omega
theorem XmD{e:Eng}(h:X13 e=true)(k:Str):X3g e k 0 1099511627777=X2Q (X0c e).1 k:=by
 obtain⟨g1,g2,g3,g4⟩:=X30 h
 unfold X3g
 rw[if_pos h,Xmn (Xb9 (X1I g4).1.2 k)]
theorem XkS{e:Eng}(h:X13 e=true)(hp:X5P e):(X13 (X8Y e)=true∧X5P (X8Y e))∧X0c (X8Y e)=X0c e:=by
 obtain⟨⟨o1,o2⟩,o3,o4⟩:=Xqg h hp
 obtain⟨t1,t3,t4⟩:=XoU o1 o2 o3
 have eg:X8Y e=X7h (fFl e):=by unfold X8Y;rw[if_pos h]
 rw[eg]
 exact⟨t1,t4.trans o4⟩
theorem Xos{a b:List Pt}(h:a=b):X3f a b=true:=by unfold X3f;exact decide_eq_true h
structure PZ (key:Str) (p:List Pt) (was:List Ser) (e x:Eng):Prop where
 oe:X13 e=true
 pe:X5P e
 ok:X13 x=true
 px:X5P x
 w:was=(X0c e).1
 hp:X0s p=true
 pl:(X0c x).1=X2S (X0c e).1 [(key,p)]
theorem XrY{key:Str}{p:List Pt}{was:List Ser}{e x:Eng}(H:PZ key p was e x)(k:Str):X2Q (X0c x).1 k=X2i (X2Q (X0c e).1 k) (if key=k then p else []):=by
 obtain⟨g1,g2,g3,g4⟩:=X30 H.oe
 have hR:=(X1I g4).1
 have hpR:=(X6p H.hp).1
 rw[H.pl,X4u hR.1 (fun x hx=>by rw[List.mem_singleton.1 hx];exact hpR.1) (List.pairwise_singleton _ _),XiQ]
end Go.Proofs.YtcfaphojdacmbaaGreatR.B
