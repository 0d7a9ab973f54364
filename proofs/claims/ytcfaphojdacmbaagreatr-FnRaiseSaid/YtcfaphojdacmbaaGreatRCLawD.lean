/- Engines that laws draw. -/
import Derived.Test.YtcfaphojdacmbaaGreatRCDEng
import Derived.Test.YtcfaphojdacmbaaGreatRCSameS
import Derived.Test.YtcfaphojdacmbaaGreatRCEngU
set_option linter.unusedVariables false
set_option linter.unusedSimpArgs false
namespace Go.Proofs.YtcfaphojdacmbaaGreatR.B
open Go Go.Proofs.YtcfaphojdacmbaaGreatR.Bv
theorem XlR{l:List Pt}(h:Xas l):X0Z l 0 1099511627777=l:=by
 unfold X0Z
 rw[List.filter_eq_self]
 intro x hx
 have:=h.2 x hx
 simp only[Bool.and_eq_true,decide_eq_true_eq];omega
theorem XqB{l:List Ser}(h:Xbn l){i:Nat}(hi:i<l.length):X32 l (l.getD i ([],[])).1=(l.getD i ([],[])).2:=((X8N h).1 (X0S hi)).2
theorem Xh0{e:Eng}(h:X0L e=true)(k:Str):X6S e k 0 1099511627777=X32 (X0d e).1 k:=by
 obtain⟨g1,g2,g3,g4⟩:=X2t h
 unfold X6S
 rw[if_pos h,XlR (XaR (X1t g4).1.2 k)]
theorem Xq8{l:List Ser}(h:X0y l=true){i:Nat}(hi:i<l.length):X0x (l.getD i ([],[])).2=true∧Xbn l:=⟨((X1t h).2.2.2 _ (X0S hi)).2.2,(X1t h).1.1⟩
theorem Xa6{e:Eng}(h:X0L e=true)(hp:X55 e):(X0L (XaM e)=true∧X55 (XaM e))∧X0d (XaM e)=X0d e:=by
 obtain⟨⟨o1,o2⟩,o3,o4⟩:=XqN h hp
 obtain⟨t1,t3,t4⟩:=XoK o1 o2 o3
 have eg:XaM e=X72 (fFl e):=by unfold XaM;rw[if_pos h]
 rw[eg]
 exact⟨t1,t4.trans o4⟩
theorem XjC{a b:List Pt}(h:a=b):X6O a b=true:=by unfold X6O;exact decide_eq_true h
structure RZ (was:List Ser) (floor:Int) (x:Eng):Prop where
 ok:X0L x=true
 pe:X55 x
 fl:x.1=floor
 w:X0y was=true
 pl:(X0d x).1=X0s was floor
theorem XmL{was:List Ser}{floor:Int}{x:Eng}(H:RZ was floor x){i:Nat}(hi:i<was.length):
 X6O (X6S x (was.getD i ([],[])).1 0 1099511627777) (X6Z (was.getD i ([],[])).2 floor 1099511627777)=true∧
 X6O (X6S (XaM x) (was.getD i ([],[])).1 0 1099511627777) (X6Z (was.getD i ([],[])).2 floor 1099511627777)=true:=by
 obtain⟨a,b⟩:=Xq8 H.w hi
 obtain⟨⟨o,_⟩,e⟩:=Xa6 H.ok H.pe
 have hs:X6Z (was.getD i ([],[])).2 floor 1099511627777=X32 (X0s was floor) (was.getD i ([],[])).1:=by
  unfold X6Z
  rw[if_pos a,(X1m b floor _).1,XqB b hi]
 rw[Xh0 H.ok,Xh0 o,e,H.pl,hs]
 exact⟨XjC rfl,XjC rfl⟩
theorem Xmd{was:List Ser}{floor:Int}{x:Eng}(H:RZ was floor x):X7T x [99,112,117] [(floor - 1,1)]=(x,if floor=0 then 1 else 2):=by
 obtain⟨g1,g2,g3,g4⟩:=X2t H.ok
 obtain⟨k1,k2,k3,k4,k5⟩:=X4h g1
 have hf:=H.fl
 have hp:X0x [(floor - 1,1)]=decide (floor≠0):=by
  unfold X0x Xdv XcD fIn
  simp
  rw[Bool.eq_iff_iff]
  simp only[Bool.and_eq_true,decide_eq_true_eq]
  simp
  omega
 unfold X7T
 rw[if_pos H.ok,hp]
 by_cases h0:floor=0
 · rw[if_neg (by rintro⟨_,h,_⟩;simp[h0]at h),if_pos h0]
 · rw[if_pos ⟨by decide,by simpa using h0,by simp⟩,if_neg h0,if_pos (by simp;omega)]
theorem XoW{e:Eng}(h:X0L e=true)(hp:X55 e)(t:Int):RZ (Xa1 e) (flr e t) (X6Q e t):=by
 obtain⟨g1,g2,g3,g4⟩:=X2t h
 obtain⟨⟨a,b⟩,c,d⟩:=XjH h hp t
 have e1:X6Q e t=X4v e t:=by unfold X6Q;rw[if_pos h]
 have e2:Xa1 e=(X0d e).1:=by unfold Xa1;rw[if_pos h]
 rw[e1,e2]
 exact⟨a,b,c,g4,d⟩
end Go.Proofs.YtcfaphojdacmbaaGreatR.B
