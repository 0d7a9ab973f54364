/- Part 1 of the walk: contracts of functions, their formulas and proofs. -/
import Derived.Shelf.Spec.SlicesInsertGrow
import Derived.Test.YtgmafgmjbaoomaaGreatWD
import Derived.Test.YtgmafgmjbaoomaaGreatChecked
set_option maxRecDepth 100000
set_option linter.unusedVariables false
set_option linter.unusedSimpArgs false
namespace Go.Proofs.YtgmafgmjbaoomaaGreat.B
open Go Go.Proofs.YtgmafgmjbaoomaaGreat.Bv Go.Proofs.Tryz
abbrev T0q:Ty:=(.pair (.int .i64) (.int .i64))
abbrev U1q:Type:=(Int×(Int×(Int×((List (Int×Int))×((Int×((List ((List UInt8)×(List (Int×Int))))×(List (List UInt8))))×(List (Int×(Int×(Int×(Int×(Int×(List UInt8))))))))))))
abbrev T2q:Ty:=(.pair (.int .i64) (.pair (.int .i64) (.pair (.int .i64) (.pair (.int .i64) (.pair (.int .i64) .str)))))
abbrev U3q:Type:=((List UInt8)×(List (Int×Int)))
abbrev T4q:Ty:=(.pair (.int .i64) (.pair (.int .i64) (.pair (.int .i64) (.pair (.list T0q) (.pair (.pair (.int .i64) (.pair (.list (.pair .str (.list T0q))) (.list .str))) (.list T2q))))))
abbrev T5q:Ty:=(.pair .str (.list T0q))
abbrev U6q:Type:=(List UInt8)
abbrev U7q:Type:=(Int×(Int×(Int×(Int×(Int×U6q)))))
abbrev T8q:Ty:=(.pair (.int .i64) (.pair (.list T5q) (.list .str)))
abbrev U9q:Type:=(List (Int×Int))
abbrev X5E:Type:=(Int×((List U3q)×(List U6q)))
abbrev T11q:Ty:=(.pair (.int .i64) (.pair (.int .i64) .str))
abbrev Xc5:Type:=(Int×(U6q×(Int×(Int×U6q))))
abbrev T13q:Ty:=(.pair (.int .i64) (.pair (.int .i64) (.pair (.int .i64) (.pair (.int .i64) (.pair (.int .i64) (.pair (.int .i64) (.pair (.int .i64) (.pair (.int .i64) (.pair (.int .i64) (.pair (.list T5q) (.pair (.list .str) (.pair (.list T2q) (.pair (.int .i64) (.pair (.int .i64) (.pair (.int .i64) (.pair .str (.pair (.list T0q) (.pair (.list T0q) (.pair (.list T5q) (.pair (.list .str) (.pair (.list T2q) (.list T0q))))))))))))))))))))))
abbrev XjH:Ty:=(.pair (.int .i64) (.pair .str T11q))
abbrev X5m:Ty:=(.list T5q)
abbrev X7m:Ty:=(.list T0q)
abbrev T17q:Ty:=(.pair (.int .i64) (.pair (.int .i64) (.pair (.int .i64) (.pair (.int .i64) (.pair X7m (.pair (.int .i64) (.pair X5m (.pair (.list .str) (.list T2q)))))))))
abbrev Xfc:Ty:=(.list (.int .i64))
abbrev XjL:Type:=(Int×(Int×(Int×U6q)))
abbrev XkE:Ty:=(.pair (.int .i64) T11q)
abbrev Xof:Ty:=(.pair (.int .i64) X7m)
abbrev Xf4:Ty:=(.list .str)
abbrev XqA:Ty:=(.pair .str (.int .i64))
abbrev XrD:Ty:=(.pair (.int .i64) .bool)
abbrev U25q:Type:=(Int×(Int×(Int×(Int×(Int×(Int×(Int×(Int×(Int×((List U3q)×((List U6q)×((List U7q)×(Int×(Int×(Int×(U6q×(U9q×(U9q×((List U3q)×((List U6q)×((List U7q)×U9q)))))))))))))))))))))
abbrev Xnn:Type:=(Int×(Int×Int))
def tab:Tab:=[(2,{ty:=(.int .i64),agg:=false,fields:=[],elem:=0,bytes:=8}),(3,{ty:=(.int .i64),agg:=false,fields:=[],elem:=0,bytes:=8}),(4,{ty:=.bool,agg:=false,fields:=[],elem:=0,bytes:=1}),(5,{ty:=(.int .u8),agg:=false,fields:=[],elem:=0,bytes:=1}),(6,{ty:=(.int .u8),agg:=false,fields:=[],elem:=0,bytes:=1}),(7,{ty:=(.pair (.int .i64) (.pair (.int .i64) (.pair .bool (.int .u8)))),agg:=true,fields:=[(0,2),(1,3),(2,4),(3,6)],elem:=0,bytes:=24}),(8,{ty:=(.pair (.int .i64) (.pair (.int .i64) (.pair .bool (.int .u8)))),agg:=true,fields:=[(0,2),(1,3),(2,4),(3,6)],elem:=0,bytes:=24}),(9,{ty:=.str,agg:=false,fields:=[],elem:=0,bytes:=16}),(10,{ty:=.str,agg:=false,fields:=[],elem:=0,bytes:=16}),(11,{ty:=.str,agg:=false,fields:=[],elem:=0,bytes:=16}),(12,{ty:=(.int .u64),agg:=false,fields:=[],elem:=0,bytes:=8}),(13,{ty:=(.pair .str (.int .u64)),agg:=true,fields:=[(0,9),(1,12)],elem:=0,bytes:=24}),(14,{ty:=(.pair .str (.int .u64)),agg:=true,fields:=[(0,9),(1,12)],elem:=0,bytes:=24}),(21,{ty:=(.int .i32),agg:=false,fields:=[],elem:=0,bytes:=4}),(22,{ty:=(.list (.int .u8)),agg:=false,fields:=[],elem:=5,bytes:=24}),(24,{ty:=(.list (.pair (.int .i64) (.int .i64))),agg:=false,fields:=[],elem:=43,bytes:=24}),(25,{ty:=(.list (.pair .str (.list (.pair (.int .i64) (.int .i64))))),agg:=false,fields:=[],elem:=109,bytes:=24}),(26,{ty:=(.list .str),agg:=false,fields:=[],elem:=9,bytes:=24}),(27,{ty:=(.pair (.int .i64) (.pair (.list (.pair .str (.list (.pair (.int .i64) (.int .i64))))) (.list .str))),agg:=true,fields:=[(0,3),(1,25),(2,26)],elem:=0,bytes:=56}),(28,{ty:=(.pair (.int .i64) (.pair (.list (.pair .str (.list (.pair (.int .i64) (.int .i64))))) (.list .str))),agg:=true,fields:=[(0,3),(1,25),(2,26)],elem:=0,bytes:=56}),(29,{ty:=(.list (.pair (.int .i64) (.pair (.int .i64) (.pair (.int .i64) (.pair (.int .i64) (.pair (.int .i64) .str)))))),agg:=false,fields:=[],elem:=64,bytes:=24}),(30,{ty:=(.pair (.int .i64) (.pair (.int .i64) (.pair (.int .i64) (.pair (.list (.pair (.int .i64) (.int .i64))) (.pair (.pair (.int .i64) (.pair (.list (.pair .str (.list (.pair (.int .i64) (.int .i64))))) (.list .str))) (.list (.pair (.int .i64) (.pair (.int .i64) (.pair (.int .i64) (.pair (.int .i64) (.pair (.int .i64) .str))))))))))),agg:=true,fields:=[(0,3),(1,3),(2,3),(3,24),(4,28),(7,29)],elem:=0,bytes:=128}),(31,{ty:=(.pair (.int .i64) (.pair (.int .i64) (.pair (.int .i64) (.pair (.list (.pair (.int .i64) (.int .i64))) (.pair (.pair (.int .i64) (.pair (.list (.pair .str (.list (.pair (.int .i64) (.int .i64))))) (.list .str))) (.list (.pair (.int .i64) (.pair (.int .i64) (.pair (.int .i64) (.pair (.int .i64) (.pair (.int .i64) .str))))))))))),agg:=true,fields:=[(0,3),(1,3),(2,3),(3,24),(4,28),(7,29)],elem:=0,bytes:=128}),(35,{ty:=(.pair (.int .i64) (.pair .str (.pair (.int .i64) (.pair (.int .i64) .str)))),agg:=true,fields:=[(0,3),(1,9),(2,3),(3,3),(4,9)],elem:=0,bytes:=56}),(36,{ty:=(.pair (.int .i64) (.pair .str (.pair (.int .i64) (.pair (.int .i64) .str)))),agg:=true,fields:=[(0,3),(1,9),(2,3),(3,3),(4,9)],elem:=0,bytes:=56}),(37,{ty:=(.pair (.int .i64) (.pair (.int .i64) (.pair (.int .i64) .str))),agg:=true,fields:=[(0,3),(1,3),(2,3),(3,9)],elem:=0,bytes:=40}),(38,{ty:=(.pair (.int .i64) (.pair (.int .i64) (.pair (.int .i64) .str))),agg:=true,fields:=[(0,3),(1,3),(2,3),(3,9)],elem:=0,bytes:=40}),(42,{ty:=(.pair (.int .i64) (.int .i64)),agg:=true,fields:=[(0,3),(1,3)],elem:=0,bytes:=16}),(43,{ty:=(.pair (.int .i64) (.int .i64)),agg:=true,fields:=[(0,3),(1,3)],elem:=0,bytes:=16}),(46,{ty:=(.list (.pair (.int .i64) (.int .i64))),agg:=false,fields:=[],elem:=120,bytes:=24}),(47,{ty:=(.list (.pair .str (.list (.pair (.int .i64) (.int .i64))))),agg:=false,fields:=[],elem:=160,bytes:=24}),(48,{ty:=(.pair (.int .i64) (.pair (.list (.pair .str (.list (.pair (.int .i64) (.int .i64))))) (.list .str))),agg:=true,fields:=[(0,3),(1,47),(2,26)],elem:=0,bytes:=56}),(49,{ty:=(.pair (.int .i64) (.pair (.list (.pair .str (.list (.pair (.int .i64) (.int .i64))))) (.list .str))),agg:=true,fields:=[(0,3),(1,47),(2,26)],elem:=0,bytes:=56}),(50,{ty:=(.list (.pair (.int .i64) (.pair (.int .i64) (.pair (.int .i64) (.pair (.int .i64) (.pair (.int .i64) .str)))))),agg:=false,fields:=[],elem:=118,bytes:=24}),(51,{ty:=(.pair (.int .i64) (.pair (.int .i64) (.pair (.int .i64) (.pair (.list (.pair (.int .i64) (.int .i64))) (.pair (.pair (.int .i64) (.pair (.list (.pair .str (.list (.pair (.int .i64) (.int .i64))))) (.list .str))) (.list (.pair (.int .i64) (.pair (.int .i64) (.pair (.int .i64) (.pair (.int .i64) (.pair (.int .i64) .str))))))))))),agg:=true,fields:=[(0,3),(1,3),(2,3),(3,46),(4,49),(7,50)],elem:=0,bytes:=128}),(52,{ty:=(.pair (.int .i64) (.pair (.int .i64) (.pair (.int .i64) (.pair (.list (.pair (.int .i64) (.int .i64))) (.pair (.pair (.int .i64) (.pair (.list (.pair .str (.list (.pair (.int .i64) (.int .i64))))) (.list .str))) (.list (.pair (.int .i64) (.pair (.int .i64) (.pair (.int .i64) (.pair (.int .i64) (.pair (.int .i64) .str))))))))))),agg:=true,fields:=[(0,3),(1,3),(2,3),(3,46),(4,49),(7,50)],elem:=0,bytes:=128}),(53,{ty:=(.pair (.int .i64) (.pair .str (.pair (.int .i64) (.pair (.int .i64) .str)))),agg:=true,fields:=[(0,3),(1,9),(2,3),(3,3),(4,9)],elem:=0,bytes:=56}),(63,{ty:=(.pair (.int .i64) (.pair (.int .i64) (.pair (.int .i64) (.pair (.int .i64) (.pair (.int .i64) .str))))),agg:=true,fields:=[(0,3),(1,3),(2,38)],elem:=0,bytes:=56}),(64,{ty:=(.pair (.int .i64) (.pair (.int .i64) (.pair (.int .i64) (.pair (.int .i64) (.pair (.int .i64) .str))))),agg:=true,fields:=[(0,3),(1,3),(2,38)],elem:=0,bytes:=56}),(71,{ty:=(.pair .str .bool),agg:=true,fields:=[(0,9),(1,4)],elem:=0,bytes:=24}),(72,{ty:=(.pair .str .bool),agg:=true,fields:=[(0,9),(1,4)],elem:=0,bytes:=24}),(91,{ty:=(.list (.pair (.int .i64) (.int .i64))),agg:=false,fields:=[],elem:=107,bytes:=24}),(96,{ty:=(.list (.list (.pair .str (.list (.pair (.int .i64) (.int .i64)))))),agg:=false,fields:=[],elem:=25,bytes:=24}),(106,{ty:=(.pair (.int .i64) (.int .i64)),agg:=true,fields:=[(0,3),(1,3)],elem:=0,bytes:=16}),(107,{ty:=(.pair (.int .i64) (.int .i64)),agg:=true,fields:=[(0,3),(1,3)],elem:=0,bytes:=16}),(108,{ty:=(.pair .str (.list (.pair (.int .i64) (.int .i64)))),agg:=true,fields:=[(0,9),(1,91)],elem:=0,bytes:=40}),(109,{ty:=(.pair .str (.list (.pair (.int .i64) (.int .i64)))),agg:=true,fields:=[(0,9),(1,91)],elem:=0,bytes:=40}),(116,{ty:=(.pair (.int .i64) (.pair (.int .i64) (.pair (.int .i64) .str))),agg:=true,fields:=[(0,3),(1,3),(2,3),(3,9)],elem:=0,bytes:=40}),(117,{ty:=(.pair (.int .i64) (.pair (.int .i64) (.pair (.int .i64) (.pair (.int .i64) (.pair (.int .i64) .str))))),agg:=true,fields:=[(0,3),(1,3),(2,116)],elem:=0,bytes:=56}),(118,{ty:=(.pair (.int .i64) (.pair (.int .i64) (.pair (.int .i64) (.pair (.int .i64) (.pair (.int .i64) .str))))),agg:=true,fields:=[(0,3),(1,3),(2,116)],elem:=0,bytes:=56}),(120,{ty:=(.pair (.int .i64) (.int .i64)),agg:=true,fields:=[(0,3),(1,3)],elem:=0,bytes:=16}),(139,{ty:=(.list (.int .i64)),agg:=false,fields:=[],elem:=3,bytes:=24}),(158,{ty:=(.list (.pair (.int .i64) (.int .i64))),agg:=false,fields:=[],elem:=201,bytes:=24}),(159,{ty:=(.pair .str (.list (.pair (.int .i64) (.int .i64)))),agg:=true,fields:=[(0,9),(1,158)],elem:=0,bytes:=40}),(160,{ty:=(.pair .str (.list (.pair (.int .i64) (.int .i64)))),agg:=true,fields:=[(0,9),(1,158)],elem:=0,bytes:=40}),(201,{ty:=(.pair (.int .i64) (.int .i64)),agg:=true,fields:=[(0,3),(1,3)],elem:=0,bytes:=16}),(205,{ty:=(.int .u64),agg:=false,fields:=[],elem:=0,bytes:=8}),(207,{ty:=(.int .u32),agg:=false,fields:=[],elem:=0,bytes:=4}),(223,{ty:=(.int .u8),agg:=false,fields:=[],elem:=0,bytes:=1})]
theorem XlM:X1x Tryz.prog tab:=XtD (by kernel_rfl)
def eqs:List (TypeId×Ty):=[(36,(.pair (.int .i64) (.pair .str (.pair (.int .i64) (.pair (.int .i64) .str))))),(38,(.pair (.int .i64) (.pair (.int .i64) (.pair (.int .i64) .str)))),(43,(.pair (.int .i64) (.int .i64))),(135,.unit)]
theorem XvC:XwI Tryz.prog 135 .unit:=⟨λ_=>by kernel_rfl,λh=>absurd rfl h⟩
theorem Xx5:XwI Tryz.prog 36 (.pair (.int .i64) (.pair .str (.pair (.int .i64) (.pair (.int .i64) .str)))):=by
 refine⟨λe=>(by cases e),λ_=>⟨by kernel_rfl,λw x y=>?_⟩⟩
 show(Op.equalIn (9999+1) 36 (.agg #[.int .i64 x.1,.string ⟨x.2.1.toArray⟩,.int .i64 x.2.2.1,.int .i64 x.2.2.2.1,.string ⟨x.2.2.2.2.toArray⟩]) (.agg #[.int .i64 y.1,.string ⟨y.2.1.toArray⟩,.int .i64 y.2.2.1,.int .i64 y.2.2.2.1,.string ⟨y.2.2.2.2.toArray⟩])).run Tryz.prog w=.ok (x.1==y.1&&(x.2.1==y.2.1&&(x.2.2.1==y.2.2.1&&(x.2.2.2.1==y.2.2.2.1&&(x.2.2.2.2==y.2.2.2.2&&true))))) w
 rw[run_equalIn_struct w 9999 36 _ _ (by kernel_rfl) (by kernel_rfl),Xc6]
 have hf:((Tryz.prog.fieldsOf 36).toList.map λf=>(decide (f.name≠ "_"),f.type,f.offset))=[(true,3,0),(true,9,1),(true,3,2),(true,3,3),(true,9,4)]:=by kernel_rfl
 rw[hf]
 exact X96 (run_part_plain w (by kernel_rfl) rfl) (run_part_plain w (by kernel_rfl) rfl) (run_equalIn_int w 9998 3 .i64 .i64 _ _ (by kernel_rfl)) (X96 (run_part_plain w (by kernel_rfl) rfl) (run_part_plain w (by kernel_rfl) rfl) ((run_equalIn_string w 9998 9 _ _ (by kernel_rfl)).trans (by rw[Xbi,Xbi])) (X96 (run_part_plain w (by kernel_rfl) rfl) (run_part_plain w (by kernel_rfl) rfl) (run_equalIn_int w 9998 3 .i64 .i64 _ _ (by kernel_rfl)) (X96 (run_part_plain w (by kernel_rfl) rfl) (run_part_plain w (by kernel_rfl) rfl) (run_equalIn_int w 9998 3 .i64 .i64 _ _ (by kernel_rfl)) (X96 (run_part_plain w (by kernel_rfl) rfl) (run_part_plain w (by kernel_rfl) rfl) ((run_equalIn_string w 9998 9 _ _ (by kernel_rfl)).trans (by rw[Xbi,Xbi])) (rfl)))))
theorem XxR:XwI Tryz.prog 38 (.pair (.int .i64) (.pair (.int .i64) (.pair (.int .i64) .str))):=by
 refine⟨λe=>(by cases e),λ_=>⟨by kernel_rfl,λw x y=>?_⟩⟩
 show(Op.equalIn (9999+1) 38 (.agg #[.int .i64 x.1,.int .i64 x.2.1,.int .i64 x.2.2.1,.string ⟨x.2.2.2.toArray⟩]) (.agg #[.int .i64 y.1,.int .i64 y.2.1,.int .i64 y.2.2.1,.string ⟨y.2.2.2.toArray⟩])).run Tryz.prog w=.ok (x.1==y.1&&(x.2.1==y.2.1&&(x.2.2.1==y.2.2.1&&(x.2.2.2==y.2.2.2&&true)))) w
 rw[run_equalIn_struct w 9999 38 _ _ (by kernel_rfl) (by kernel_rfl),Xc6]
 have hf:((Tryz.prog.fieldsOf 38).toList.map λf=>(decide (f.name≠ "_"),f.type,f.offset))=[(true,3,0),(true,3,1),(true,3,2),(true,9,3)]:=by kernel_rfl
 rw[hf]
 exact X96 (run_part_plain w (by kernel_rfl) rfl) (run_part_plain w (by kernel_rfl) rfl) (run_equalIn_int w 9998 3 .i64 .i64 _ _ (by kernel_rfl)) (X96 (run_part_plain w (by kernel_rfl) rfl) (run_part_plain w (by kernel_rfl) rfl) (run_equalIn_int w 9998 3 .i64 .i64 _ _ (by kernel_rfl)) (X96 (run_part_plain w (by kernel_rfl) rfl) (run_part_plain w (by kernel_rfl) rfl) (run_equalIn_int w 9998 3 .i64 .i64 _ _ (by kernel_rfl)) (X96 (run_part_plain w (by kernel_rfl) rfl) (run_part_plain w (by kernel_rfl) rfl) ((run_equalIn_string w 9998 9 _ _ (by kernel_rfl)).trans (by rw[Xbi,Xbi])) (rfl))))
theorem Xxu:XwI Tryz.prog 43 (.pair (.int .i64) (.int .i64)):=by
 refine⟨λe=>(by cases e),λ_=>⟨by kernel_rfl,λw x y=>?_⟩⟩
 show(Op.equalIn (9999+1) 43 (.agg #[.int .i64 x.1,.int .i64 x.2]) (.agg #[.int .i64 y.1,.int .i64 y.2])).run Tryz.prog w=.ok (x.1==y.1&&(x.2==y.2&&true)) w
 rw[run_equalIn_struct w 9999 43 _ _ (by kernel_rfl) (by kernel_rfl),Xc6]
 have hf:((Tryz.prog.fieldsOf 43).toList.map λf=>(decide (f.name≠ "_"),f.type,f.offset))=[(true,3,0),(true,3,1)]:=by kernel_rfl
 rw[hf]
 exact X96 (run_part_plain w (by kernel_rfl) rfl) (run_part_plain w (by kernel_rfl) rfl) (run_equalIn_int w 9998 3 .i64 .i64 _ _ (by kernel_rfl)) (X96 (run_part_plain w (by kernel_rfl) rfl) (run_part_plain w (by kernel_rfl) rfl) (run_equalIn_int w 9998 3 .i64 .i64 _ _ (by kernel_rfl)) (rfl))
theorem eqsOk:Xt9 Tryz.prog eqs:=λt τ h=>by
 unfold eqs at h
 simp only[X07]at h
 split at h
 . rename_i e;subst e;cases h;exact Xx5
 split at h
 . rename_i e;subst e;cases h;exact XxR
 split at h
 . rename_i e;subst e;cases h;exact Xxu
 split at h
 . rename_i e;subst e;cases h;exact XvC
 . cases h
theorem Xsj:XbR tab tab=true:=by kernel_rfl
abbrev ln{α:Type}(l:List α):Int:=((List.length l:Nat):Int)
abbrev tN(i:Int):Nat:=Int.toNat i
abbrev wI(i:Int):Int:=IntKind.wrap .i64 i
abbrev eS(a b:List (Nat×Sv)):Prop:=a=b
theorem B0:(∀{p:Prop},(True/\p)↔p)/\(∀{p:Prop},(p/\True)↔p)/\(∀{p:Prop}[Decidable p],(decide p=true)=p)/\(∀{p:Prop}[Decidable p],decide p=false↔¬p)/\(∀{b:Bool},((!b)=true)=(b=false))/\(∀{b:Bool},((!b)=false)=(b=true))/\((!true)=false)/\((!false)=true)/\(∀n:Nat,0+n=n)/\(∀h:Decidable True,@decide True h=true)/\(∀h:Decidable False,@decide False h=false):=
 ⟨by simp,by simp,Yaj,Yay,by simp,by simp,rfl,rfl,YaS,decide_true,decide_false⟩
theorem Bs.{u}:(∀{α:Sort u}{p:α->Prop}{b:α},(∀a,a=b->p a)↔p b)/\(∀{α:Sort u}(a b:α),(a≠b)=¬a=b)/\(∀{α:Sort u}(a:α),(a=a)=True):=⟨YbJ,λ_ _=>rfl,eq_self⟩
theorem B1.{u}:(∀{α:Type u}[BEq α][LawfulBEq α]{a b:α},(a != b)=true↔a≠b)/\(∀{α:Type u}[BEq α][LawfulBEq α]{a b:α},(a==b)=true↔a=b)/\(∀{α:Type u}[BEq α][LawfulBEq α]{a b:α},(a==b)=false↔a≠b)/\(∀{α:Type u}[BEq α][LawfulBEq α]{a b:α},(a != b)=false↔a=b)/\(∀{α:Type u}{a b:List α},(a++b).length=a.length+b.length)/\(∀{α:Type u}{a:α}{l:List α},(a::l).length=l.length+1)/\(∀{α:Type u},([]:List α).length=0)/\(∀{α:Type u}(l:List α),l++[]=l):=
 ⟨bne_iff_ne,YbS,YbF,bne_eq_false_iff_eq,Yab,rfl,rfl,Ybe⟩
def XuR(fn:Func):Code:=match fn.body with | some c=>c | none=>.skip
structure GE where
 n:Nat
 con:Con
 fn:FnOk Tryz.prog n
 ok:X0g Tryz.prog n con
def XwF(l:List GE)(tk:List Nat):Gam:=gam (l.map λe=>(e.n,e.con)) tk eqs
theorem Xp3(tk:List Nat):∀l:List GE,Xfz Tryz.prog (XwF l tk)
 | []=>XvS _ _ eqsOk
 | e::l=>Xt3 e.fn e.ok (Xp3 tk l)
def noL{α β:Type}(_:α)(_:β):Nat->Option X0e:=λ_=>none
def EqS(con:Con)(fn:Func)(tys:List TypeId)(g:List GE)(tk:List Nat)(L:(i:El con.I)->El con.A->Nat->Option X0e)(F:El con.I->El con.A->Prop):Prop:=
 ∀i x,vc tab (XwF g tk) (L i x) (XuR fn) 1 (Xhw con fn.ntmps i x) (Xvt tab con fn.results.toList tys i x)=F i x
theorem X0S{con:Con}{fn:Func}{tys:List TypeId}{g:List GE}{tk:List Nat}{L:(i:El con.I)->El con.A->Nat->Option X0e}{F:El con.I->El con.A->Prop}{n:FuncId}(he:EqS con fn tys g tk L F)(hf:Tryz.prog.funcs[n]?=some fn)(hb:fn.body=some (XuR fn))(hB:conB tab con fn.ntmps=true)(h:∀i x,con.pre i x->(con.io=true->Wf con.I i)->Wf con.A x->F i x):X0g Tryz.prog n con:=
 XnR L rfl XlM (Xp3 tk g) hf hb tys hB λi x h1 h2 h3=>by rw[he];exact h i x h1 h2 h3
def mE(con:Con){fn:Func}{n:FuncId}(hf:Tryz.prog.funcs[n]?=some fn)(tys:List TypeId)(g:List GE)(tk:List Nat)(L:(i:El con.I)->El con.A->Nat->Option X0e)(F:El con.I->El con.A->Prop)(h:∀i x,con.pre i x->(con.io=true->Wf con.I i)->Wf con.A x->F i x)(he:EqS con fn tys g tk L F:=by intro i x;kernel_rfl)(hB:conB tab con fn.ntmps=true:=by kernel_rfl)(hb:fn.body=some (XuR fn):=by rfl)(h1:(fn.name== "runtime.NumGoroutine")=false:=by rfl)(h2:fn.body.isNone=false:=by rfl):GE:=⟨n,con,⟨_,hf,h1,h2⟩,X0S he hf hb hB h⟩
abbrev XLK(l:List (Nat×X0e)):Nat->Option X0e:=λq=>Go.Proofs.YtgmafgmjbaoomaaGreat.Bv.look q l
def kA(s i k e:Nat):Xcp:=⟨true,s,i,k,e,true⟩
def kB(s i k e:Nat):Xcp:=⟨true,s,i,k,e,false⟩
def kC(s i k e:Nat):Xcp:=⟨false,s,i,k,e,true⟩
def kD(s i k e:Nat):Xcp:=⟨false,s,i,k,e,false⟩
def cQ(A:Ty)(s:List Sh)(R:Ty)(r:List (Bool×Nat))(p:El A->Prop)(f:El A->El R):Con:={A:=A,shA:=s,R:=R,shR:=r,pre:=λ_ a=>p a,f:=some λ_ a=>(f a,((),()))}
def cW(A:Ty)(s:List Sh)(R:Ty)(r:List (Bool×Nat))(h:List (Nat×TypeId))(p:El A->Prop)(f:El A->El R):Con:={A:=A,shA:=s,R:=R,shR:=r,fresh:=h,pre:=λ_ a=>p a,f:=some λ_ a=>(f a,((),()))}
theorem w64{x:Int}(h:-9223372036854775808<=x)(h':x<=9223372036854775807):IntKind.wrap .i64 x=x:=Yau _ ⟨h,h'⟩
theorem wu8{x:Int}(h:0<=x)(h':x<=255):IntKind.wrap .u8 x=x:=Ycu _ ⟨h,h'⟩
theorem tn0(n:Nat):((n:Int)).toNat=n:=rfl
theorem tn1{i:Int}(h:0<=i):(i+1).toNat=i.toNat+1:=by omega
theorem tm1{i:Int}(h:1<=i):(i - 1).toNat=i.toNat - 1:=by omega
theorem tm2{i:Int}(h:2<=i):(i - 2).toNat=i.toNat - 2:=by omega
theorem X0O{α:Type}{l:List α}{i:Nat}{d:α}(h:i<l.length):l.getD i d=l[i]:=by rw[Yap,Yav h];rfl
theorem X1a{α:Type}{l:List α}{i:Nat}{d:α}(h:i<l.length):l.getD i d∈l:=by rw[X0O h];exact YcX h
theorem X0J{α:Type}{l:List α}{i:Nat}(d:α)(h:i<l.length):l.take (i+1)=l.take i++[l.getD i d]:=by
 rw[X0O h,Ydm,Yav h];rfl
theorem X3U{α:Type}{l:List α}{i:Nat}(d:α)(h:i<l.length):l.drop i=l.getD i d::l.drop (i+1):=by
 rw[X0O h];exact YbC h
def fIn(a l h:Int):Bool:=decide (l<=a)&&decide (a<=h)
def X6A(t:Int):Int:=if fIn t 0 1099511627776 then t / 100 else -1
def Xf3(a:Int)(n:Nat):List Int:=(List.range n).map fun(j:Nat)=>a+(j:Int)
theorem XfJ(a:Int)(n:Nat):(Xf3 a n).length=n:=by simp[Xf3]
theorem Xo4(a:Int)(n:Nat):Xf3 a (n+1)=Xf3 a n++[a+(n:Int)]:=by simp[Xf3,List.range_succ]
def X3k(a b:Int):List Int:=if a<0\/b<=a\/b>1099511627776\/(b - 1) / 100 - a / 100>=8 then [] else Xf3 (a / 100) ((b - 1) / 100 - a / 100+1).toNat
def XrT(a b k:Int)(out:List Int):Prop:=0<=a/\a<b/\b<=1099511627776/\(b - 1) / 100 - a / 100<8/\a / 100<=k/\k<=(b - 1) / 100+1/\out=Xf3 (a / 100) (k - a / 100).toNat
def Xtc(a b k:Int)(out:List Int):Nat:=((b - 1) / 100+1 - k).toNat
theorem Xox{a b k:Int}{out:List Int}(h:XrT a b k out)(hk:k<=(b - 1) / 100):
 out.length<=8/\IntKind.wrap .i64 (k+1)=k+1/\XrT a b (k+1) (out++[k])/\Xtc a b (k+1) (out++[k])<Xtc a b k out:=by
 obtain⟨h1,h2,h3,h4,h5,h6,h7⟩:=h
 refine⟨by rw[h7,XfJ];omega,Yau _ (by omega),⟨h1,h2,h3,h4,by omega,by omega,?_⟩,by unfold Xtc;omega⟩
 have e:(k+1 - a / 100).toNat=(k - a / 100).toNat+1:=by omega
 rw[e,Xo4,h7]
 congr 2
 omega
theorem Xrt{a b k:Int}{out:List Int}(h:XrT a b k out)(hk:¬k<=(b - 1) / 100):out=X3k a b:=by
 obtain⟨h1,h2,h3,h4,h5,h6,h7⟩:=h
 unfold X3k
 rw[Yae (by omega),h7]
 congr 2
 omega
def Xdx:Con:=cQ (.pair (.int .i64) T0q) [.one,.one,.one] .bool [(false,1)] (λ_=>True) λa=>(fIn a.1 a.2.1 a.2.2)
def X29.F(a0:Int)(a1:Int)(a2:Int):Prop:=(X00 (decide (a0>=a1)) (Eq ((decide (a0<=a2)),((),())) ((fIn a0 a1 a2),((),()))) (Eq (false,((),())) ((fIn a0 a1 a2),((),()))))
theorem X29.p(a0:Int)(a1:Int)(a2:Int)(h:True):X29.F a0 a1 a2:=by
 unfold X29.F fIn
 simp only[X01,Ybn,Yaj,Yay,Yaa]
 exact⟨λh=>by simp[h],λh=>by simp[h]⟩
def X29.e:GE:=mE Xdx func24 [4] [] [] noL (λi x=>X29.F x.1 x.2.1 x.2.2) λi x h _ _=>X29.p x.1 x.2.1 x.2.2 h
def XdF:Con:=cQ (.pair (.int .i64) T0q) [.one,.one,.one] .bool [(false,1)] (λ_=>True) λa=>(fIn a.1 a.2.1 a.2.2)
def X0V.F(a0:Int)(a1:Int)(a2:Int):Prop:=(X00 (decide (a0>=a1)) (Eq ((decide (a0<=a2)),((),())) ((fIn a0 a1 a2),((),()))) (Eq (false,((),())) ((fIn a0 a1 a2),((),()))))
theorem X0V.p(a0:Int)(a1:Int)(a2:Int)(h:True):X0V.F a0 a1 a2:=by
 unfold X0V.F fIn
 simp only[X01,Ybn,Yaj,Yay,Yaa]
 exact⟨λh=>by simp[h],λh=>by simp[h]⟩
def X0V.e:GE:=mE XdF func48 [4] [] [] noL (λi x=>X0V.F x.1 x.2.1 x.2.2) λi x h _ _=>X0V.p x.1 x.2.1 x.2.2 h
def X99:Con:=cQ (.int .i64) [.one] (.int .i64) [(false,1)] (λ_=>True) λa=>(X6A a)
def X3a.F(a0:Int):Prop:=(True/\∀r1,(Eq r1 ((fIn a0 0 1099511627776),((),())))->(X00 (!r1.1) (Eq ((-1),((),())) ((X6A a0),((),()))) ((100:Int)≠0/\(Eq ((wI (Int.tdiv a0 (100:Int))),((),())) ((X6A a0),((),()))))))
theorem X3a.p(a0:Int)(h:True):X3a.F a0:=by
 unfold X3a.F X6A
 simp only[YbJ,Ybw,Ybn,X01,Yaa,YaP,Ybl]
 refine⟨λh1=>by simp[h1],λh1=>⟨by omega,?_⟩⟩
 have h2:=h1
 simp only[fIn,Yac,Yaj]at h2
 rw[Yah h1,Ya9 h2.1]
 exact Yau _ (by omega)
def X3a.e:GE:=mE X99 func27 [3] [X29.e] [] noL (λi x=>X3a.F x) λi x h _ _=>X3a.p x h
def Xce:Con:=cW T0q [.one,.one] Xfc [(false,1)] [(0,3)] (λ_=>True) λa=>(X3k a.1 a.2)
def X4X.F(a0:Int)(a1:Int):Prop:=(X00 (decide (a0<(0:Int))) (Eq (([]:(List Int)),((),())) ((X3k a0 a1),((),()))) (X00 (decide (a1<=a0)) (Eq (([]:(List Int)),((),())) ((X3k a0 a1),((),()))) (X00 (decide (a1>(1099511627776:Int))) (Eq (([]:(List Int)),((),())) ((X3k a0 a1),((),()))) (True/\∀r1,(Eq r1 ((X6A a0),((),())))->(True/\∀r2,(Eq r2 ((X6A (wI (a1 - (1:Int)))),((),())))->(X00 (decide ((wI (r2.1 - r1.1))>=(8:Int))) (Eq (([]:(List Int)),((),())) ((X3k a0 a1),((),()))) (eS [(7,.val false [.int .i64 r2.1])] [(7,.val false [.int .i64 r2.1])]/\((XrT a0 a1 r1.1 ([]:List Int))/\∀(y3:(Int×(List Int))),(XrT a0 a1 y3.1 y3.2)->(X00 (decide (y3.1<=r2.1)) (List.length y3.2+List.length [y3.1]<=9223372036854775807/\((List.length y3.2+List.length [y3.1])*8<=140737488355328/\(eS [(7,.val false [.int .i64 r2.1])] [(7,.val false [.int .i64 r2.1])]/\(XrT a0 a1 (wI (y3.1+(1:Int))) (y3.2++[y3.1]))/\(Xtc a0 a1 (wI (y3.1+(1:Int))) (y3.2++[y3.1]))<(Xtc a0 a1 y3.1 y3.2)))) (Eq (y3.2,((),())) ((X3k a0 a1),((),()))))))))))))
def X4X.L(a0:Int)(a1:Int):Nat->Option X0e:=XLK [(1018,⟨⟨[7],[5,8],[],[kC 5 0 1000643 3]⟩,(.pair (.int .i64) Xfc),λst y=>XrT a0 a1 y.1 y.2,λst y=>Xtc a0 a1 y.1 y.2⟩)]
theorem X4X.p(a0:Int)(a1:Int)(h:True):X4X.F a0 a1:=by
 delta X4X.F wI eS
 simp only[YbJ,Ybw,Ybn,X01,Yaa,Yaj,Yay]
 refine⟨λh1=>by simp[X3k,h1],λh1=>⟨λh2=>by simp[X3k,h2],λh2=>⟨λh3=>by simp[X3k,h3],λh3=>?_⟩⟩⟩
 have e0:IntKind.wrap .i64 (a1 - 1)=a1 - 1:=Yau _ (by omega)
 have e1:X6A a0=a0 / 100:=by unfold X6A fIn;rw[Yah (by simp;omega)]
 have e2:X6A (a1 - 1)=(a1 - 1) / 100:=by unfold X6A fIn;rw[Yah (by simp;omega)]
 have e3:IntKind.wrap .i64 ((a1 - 1) / 100 - a0 / 100)=(a1 - 1) / 100 - a0 / 100:=Yau _ (by omega)
 simp only[e0,e1,e2,e3]
 refine⟨λh4=>by unfold X3k;rw[Yah (by omega)],λh4=>⟨⟨by omega,by omega,by omega,by omega,by omega,by omega,by simp[Xf3]⟩,?_⟩⟩
 rintro⟨k,out⟩ hI
 simp only at hI ⊢
 refine⟨λhk=>?_,λhk=>Xrt hI hk⟩
 obtain⟨h5,h6,h7,h8⟩:=Xox hI hk
 rw[h6]
 exact⟨by simp;omega,by simp;omega,h7,h8⟩
def X4X.e:GE:=mE Xce func107 [139] [X3a.e] [] (λi x=>X4X.L x.1 x.2) (λi x=>X4X.F x.1 x.2) λi x h _ _=>X4X.p x.1 x.2 h
def Xca:Con:=cW T0q [.one,.one] Xfc [(false,1)] [(0,3)] (λ_=>True) λa=>(X3k a.1 a.2)
def X4V.F(a0:Int)(a1:Int):Prop:=(X00 (decide (a0<(0:Int))) (Eq (([]:(List Int)),((),())) ((X3k a0 a1),((),()))) (X00 (decide (a1<=a0)) (Eq (([]:(List Int)),((),())) ((X3k a0 a1),((),()))) (X00 (decide (a1>(1099511627776:Int))) (Eq (([]:(List Int)),((),())) ((X3k a0 a1),((),()))) ((100:Int)≠0/\((100:Int)≠0/\(X00 (decide ((wI ((wI (Int.tdiv (wI (a1 - (1:Int))) (100:Int))) - (wI (Int.tdiv a0 (100:Int)))))>=(8:Int))) (Eq (([]:(List Int)),((),())) ((X3k a0 a1),((),()))) (eS [(6,.val false [.int .i64 (wI (Int.tdiv (wI (a1 - (1:Int))) (100:Int)))])] [(6,.val false [.int .i64 (wI (Int.tdiv (wI (a1 - (1:Int))) (100:Int)))])]/\((XrT a0 a1 (wI (Int.tdiv a0 (100:Int))) ([]:List Int))/\∀(y1:(Int×(List Int))),(XrT a0 a1 y1.1 y1.2)->(X00 (decide (y1.1<=(wI (Int.tdiv (wI (a1 - (1:Int))) (100:Int))))) (List.length y1.2+List.length [y1.1]<=9223372036854775807/\((List.length y1.2+List.length [y1.1])*8<=140737488355328/\(eS [(6,.val false [.int .i64 (wI (Int.tdiv (wI (a1 - (1:Int))) (100:Int)))])] [(6,.val false [.int .i64 (wI (Int.tdiv (wI (a1 - (1:Int))) (100:Int)))])]/\(XrT a0 a1 (wI (y1.1+(1:Int))) (y1.2++[y1.1]))/\(Xtc a0 a1 (wI (y1.1+(1:Int))) (y1.2++[y1.1]))<(Xtc a0 a1 y1.1 y1.2)))) (Eq (y1.2,((),())) ((X3k a0 a1),((),()))))))))))))
def X4V.L(a0:Int)(a1:Int):Nat->Option X0e:=XLK [(506,⟨⟨[6],[7,8],[],[kC 7 0 1000899 3]⟩,(.pair (.int .i64) Xfc),λst y=>XrT a0 a1 y.1 y.2,λst y=>Xtc a0 a1 y.1 y.2⟩)]
theorem X4V.p(a0:Int)(a1:Int)(h:True):X4V.F a0 a1:=by
 delta X4V.F wI eS
 simp only[YbJ,Ybw,Ybn,X01,Yaa,Yaj,Yay]
 refine⟨λh1=>by simp[X3k,h1],λh1=>⟨λh2=>by simp[X3k,h2],λh2=>⟨λh3=>by simp[X3k,h3],λh3=>⟨by omega,by omega,?_⟩⟩⟩⟩
 have e0:IntKind.wrap .i64 (a1 - 1)=a1 - 1:=Yau _ (by omega)
 have e1:IntKind.wrap .i64 (Int.tdiv a0 100)=a0 / 100:=by rw[Ya9 (by omega)];exact Yau _ (by omega)
 have e2:IntKind.wrap .i64 (Int.tdiv (a1 - 1) 100)=(a1 - 1) / 100:=by rw[Ya9 (by omega)];exact Yau _ (by omega)
 have e3:IntKind.wrap .i64 ((a1 - 1) / 100 - a0 / 100)=(a1 - 1) / 100 - a0 / 100:=Yau _ (by omega)
 simp only[e0,e1,e2,e3]
 refine⟨λh4=>by unfold X3k;rw[Yah (by omega)],λh4=>⟨⟨by omega,by omega,by omega,by omega,by omega,by omega,by simp[Xf3]⟩,?_⟩⟩
 rintro⟨k,out⟩ hI
 simp only at hI ⊢
 refine⟨λhk=>?_,λhk=>Xrt hI hk⟩
 obtain⟨h5,h6,h7,h8⟩:=Xox hI hk
 rw[h6]
 exact⟨by simp;omega,by simp;omega,h7,h8⟩
def X4V.e:GE:=mE Xca func143 [139] [] [] (λi x=>X4V.L x.1 x.2) (λi x=>X4V.F x.1 x.2) λi x h _ _=>X4V.p x.1 x.2 h
def Xqb{α:Type}(n:α->Nat)(l:List α)(i:Nat):Nat:=((l.take i).map n).sum
theorem Xji{α:Type}(n:α->Nat)(l:List α):Xqb n l 0=0:=by simp[Xqb]
theorem Xip{α:Type}(n:α->Nat)(l:List α)(d:α){i:Nat}(h:i<l.length):Xqb n l (i+1)=Xqb n l i+n (l.getD i d):=by
 unfold Xqb;rw[X0J d h,Ya8,List.sum_append];simp
theorem Xoa{α:Type}(n:α->Nat)(l:List α)(i:Nat):Xqb n l i<=Xqb n l l.length:=by
 have h:l.take l.length=l.take i++l.drop i:=by rw[Yat,YaJ]
 unfold Xqb;rw[h,Ya8,List.sum_append];omega
def nL{α:Type}(n:α->Nat)(l:List α):Nat:=l.length+Xqb n l l.length
theorem Xs4{α:Type}(n:α->Nat){x:α}:∀{l:List α},x∈l->n x<=(l.map n).sum
 | y::l,h=>by
   rw[Yaq,List.sum_cons]
   rcases Yak.1 h with rfl | h
   . omega
   . have:=Xs4 n h;omega
theorem Xup{α:Type}(n:α->Nat){l:List α}{x:α}(h:x∈l):n x+1<=nL n l:=by
 have h1:=Xs4 n h
 have h2:0<l.length:=List.length_pos_of_mem h
 unfold nL Xqb;rw[Yat];omega
def fSz(n:Nat)(left:Int):Int:=if left<n then -1 else left - n
theorem XdQ{n:Nat}{left:Int}(h:left<n):fSz n left= -1:=Yah h
theorem Xe4{n:Nat}{left:Int}(h:¬left<n):fSz n left=left - n:=Yae h
def Xqy{α:Type}(n:α->Nat)(a:List α)(left0 left i:Int):Prop:=0<=i/\i<=a.length/\0<=left/\left0=left+a.length+Xqb n a i.toNat
def Xqu{α:Type}(a:List α)(left0 left i:Int):Nat:=(a.length - i).toNat
def cpI{α:Type}(d:α)(a:List α)(i:Int)(out:List α):Prop:=0<=i/\i<=a.length/\out=a.take i.toNat++List.replicate (a.length - i.toNat) d
def cpM{α:Type}(a:List α)(i:Int)(out:List α):Nat:=(a.length - i).toNat
theorem Xmi{α:Type}{d:α}{a:List α}{i:Int}{out:List α}(h:cpI d a i out):out.length=a.length:=by
 obtain⟨h1,h2,h3⟩:=h
 rw[h3,Yab,Yal,YbM];omega
theorem Xim{α:Type}{d:α}{a:List α}{i:Int}{out:List α}(h:cpI d a i out)(hi:i<a.length):cpI d a (i+1) (out.set i.toNat (a.getD i.toNat d)):=by
 obtain⟨h1,h2,h3⟩:=h
 refine⟨by omega,by omega,?_⟩
 rw[tn1 h1,h3,X0J d (by omega:i.toNat<a.length)]
 have e:a.length - i.toNat=(a.length - (i.toNat+1))+1:=by omega
 have hl:(a.take i.toNat).length=i.toNat:=by rw[Yal];omega
 rw[e,Ybv,List.set_append_right _ _ (by omega),hl,YbY,List.set_cons_zero,Yam]
 rfl
theorem Xmh{α:Type}{d:α}{a:List α}{i:Int}{out:List α}(h:cpI d a i out)(hi:¬i<a.length):out=a:=by
 obtain⟨h1,h2,h3⟩:=h
 have e:i.toNat=a.length:=by omega
 rw[h3,e,Yat,YbY];simp
def Xjc{α:Type}(a b:List α)(i:Int):Prop:=0<=i/\i<=a.length/\a.length=b.length/\a.take i.toNat=b.take i.toNat
def Xkc{α:Type}(a b:List α)(i:Int):Nat:=(a.length - i).toNat
theorem XfG{α:Type}{d:α}{a b:List α}{i:Int}(h:Xjc a b i)(hi:i<a.length)(he:a.getD i.toNat d=b.getD i.toNat d):Xjc a b (i+1):=by
 obtain⟨h1,h2,h3,h4⟩:=h
 refine⟨by omega,by omega,h3,?_⟩
 rw[tn1 h1,X0J d (by omega),X0J d (by omega),h4,he]
theorem XiV{α:Type}{a b:List α}{i:Int}(h:Xjc a b i)(hi:¬i<a.length):a=b:=by
 obtain⟨h1,h2,h3,h4⟩:=h
 have e:i.toNat=a.length:=by omega
 rw[e,Yat,h3,Yat]at h4
 exact h4
def cL{α:Type}(c:α->Int)(l:List α):Int:=(l.map c).sum
def mL{α:Type}(c:α->Int)(m:α->Int->α):List α->Int->List α
 | [],_=>[]
 | x::l,k=>m x k::mL c m l (k+c x)
def oL{α:Type}(c:α->Int)(o:α->Int->Bool):List α->Int->Bool
 | [],_=>true
 | x::l,k=>o x k&&oL c o l (k+c x)
def fHd(c:Int)(o:Bool)(k:Int):Int:=if o=true then k+c else -1
theorem X5a{c k:Int}{o:Bool}(h0:0<=c)(h1:0<=k):fHd c o k<0↔o=false:=by
 unfold fHd;cases o<;>simp;omega
theorem X4U{c k:Int}{o:Bool}(h:o=true):fHd c o k=k+c:=Yah h
theorem XwT{α:Type}(c:α->Int):cL c []=0:=rfl
theorem X4y{α:Type}(c:α->Int)(x:α)(l:List α):cL c (x::l)=c x+cL c l:=by simp[cL]
theorem XcO{α:Type}(c:α->Int)(l r:List α):cL c (l++r)=cL c l+cL c r:=by simp[cL]
theorem X46{α:Type}{c:α->Int}(h:∀x,0<=c x):∀l,0<=cL c l
 | []=>by simp[cL]
 | x::l=>by have:=X46 h l;have:=h x;rw[X4y];omega
theorem X5i{α:Type}(c:α->Int)(d:α){l:List α}{i:Nat}(h:i<l.length):cL c (l.take (i+1))=cL c (l.take i)+c (l.getD i d)/\cL c l=cL c (l.take i)+(c (l.getD i d)+cL c (l.drop (i+1))):=by
 constructor
 . rw[X0J d h,XcO];simp[cL]
 . conv=>lhs;rw[<-YaJ i l,XcO,X3U d h,X4y]
theorem XfH{α:Type}(c:α->Int)(m:α->Int->α):∀l k,(mL c m l k).length=l.length
 | [],_=>rfl
 | x::l,k=>by simp[mL,XfH c m l]
theorem Xmb{α:Type}(c:α->Int)(m:α->Int->α):∀l r k,mL c m (l++r) k=mL c m l k++mL c m r (k+cL c l)
 | [],r,k=>by simp[mL,cL]
 | x::l,r,k=>by simp only[Ybb,mL,Xmb c m l r,X4y];rw[Int.add_assoc]
theorem Xja{α:Type}{c:α->Int}{m:α->Int->α}{o:α->Int->Bool}(h:∀x k,o (m x k) k=true/\c (m x k)=c x):∀l k,oL c o (mL c m l k) k=true/\cL c (mL c m l k)=cL c l
 | [],k=>⟨rfl,rfl⟩
 | x::l,k=>by
   obtain⟨h1,h2⟩:=h x k
   obtain⟨h3,h4⟩:=Xja h l (k+c x)
   simp only[mL,oL,X4y,h1,h2,h3,h4,Bool.and_self,and_self]
structure mkI {α:Type} (c:α->Int) (m:α->Int->α) (a:List α) (k0 k i:Int) (l:List α):Prop where
 h1:0<=i
 h2:i<=a.length
 h3:k=k0+cL c (a.take i.toNat)
 h4:l=mL c m (a.take i.toNat) k0++a.drop i.toNat
def mkM{α:Type}(a:List α)(k0 k i:Int)(l:List α):Nat:=(a.length - i).toNat
theorem XmL{α:Type}{c:α->Int}{m:α->Int->α}{a:List α}{k0 k i:Int}{l:List α}(h:mkI c m a k0 k i l):l.length=a.length:=by
 obtain⟨h1,h2,h3,h4⟩:=h
 rw[h4,Yab,XfH,Yal,Yar];omega
theorem XrO{α:Type}{c:α->Int}{m:α->Int->α}{a:List α}{k0 k i:Int}{l:List α}{d:α}(h:mkI c m a k0 k i l)(hi:i<a.length):l.getD i.toNat d=a.getD i.toNat d:=by
 obtain⟨h1,h2,h3,h4⟩:=h
 have hl:(mL c m (a.take i.toNat) k0).length=i.toNat:=by rw[XfH,Yal];omega
 rw[h4,Yap,Yba (by omega),hl,YbY,X3U d (by omega)]
 rfl
theorem Xi7{α:Type}{c:α->Int}{m:α->Int->α}{a:List α}{k0 k i:Int}{l:List α}{d x':α}{k':Int}(h:mkI c m a k0 k i l)(hi:i<a.length)(hx:x'=m (a.getD i.toNat d) k)(hk:k'=k+c (a.getD i.toNat d)):mkI c m a k0 k' (i+1) (l.set i.toNat x'):=by
 obtain⟨h1,h2,h3,h4⟩:=h
 have hi':i.toNat<a.length:=by omega
 have hl:(mL c m (a.take i.toNat) k0).length=i.toNat:=by rw[XfH,Yal];omega
 refine⟨by omega,by omega,?_,?_⟩
 . rw[tn1 h1,(X5i c d hi').1,hk,h3];omega
 . rw[tn1 h1,h4,X0J d hi',Xmb,List.set_append_right _ _ (by omega),hl,YbY,X3U d hi',List.set_cons_zero,Yam,hx,h3]
   rfl
theorem Xna{α:Type}{c:α->Int}{m:α->Int->α}{a:List α}{k0 k i:Int}{l:List α}(h:mkI c m a k0 k i l)(hi:¬i<a.length):k=k0+cL c a/\l=mL c m a k0:=by
 obtain⟨h1,h2,h3,h4⟩:=h
 have e:i.toNat=a.length:=by omega
 rw[e,Yat]at h3 h4
 exact⟨h3,by rw[h4,YbO,Ybe]⟩
structure hdI {α:Type} (c:α->Int) (o:α->Int->Bool) (a:List α) (k0 k i:Int):Prop where
 h1:0<=i
 h2:i<=a.length
 h3:k=k0+cL c (a.take i.toNat)
 h4:oL c o a k0=oL c o (a.drop i.toNat) k
def hdM{α:Type}(a:List α)(k0 k i:Int):Nat:=(a.length - i).toNat
theorem Xii{α:Type}{c:α->Int}{o:α->Int->Bool}{a:List α}{k0 k i k':Int}(d:α)(h:hdI c o a k0 k i)(hi:i<a.length)(ho:o (a.getD i.toNat d) k=true)(hk:k'=k+c (a.getD i.toNat d)):hdI c o a k0 k' (i+1):=by
 obtain⟨h1,h2,h3,h4⟩:=h
 have hi':i.toNat<a.length:=by omega
 refine⟨by omega,by omega,?_,?_⟩
 . rw[tn1 h1,(X5i c d hi').1,hk,h3];omega
 . rw[tn1 h1,h4,X3U d hi'];simp only[oL,ho,YaT,hk]
theorem XrJ{α:Type}{c:α->Int}{o:α->Int->Bool}{a:List α}{k0 k i:Int}(d:α)(h:hdI c o a k0 k i)(hi:i<a.length)(ho:o (a.getD i.toNat d) k=false):-1=fHd (cL c a) (oL c o a k0) k0:=by
 obtain⟨h1,h2,h3,h4⟩:=h
 rw[h4,X3U d (by omega)]
 show -1=fHd _ (o (a.getD i.toNat d) k&&oL c o _ _) _
 rw[ho,Ybs];rfl
theorem Xnj{α:Type}{c:α->Int}{o:α->Int->Bool}{a:List α}{k0 k i:Int}(h:hdI c o a k0 k i)(hi:¬i<a.length):k=fHd (cL c a) (oL c o a k0) k0:=by
 obtain⟨h1,h2,h3,h4⟩:=h
 have e:i.toNat=a.length:=by omega
 rw[e,Yat]at h3
 rw[e,YbO]at h4
 rw[h4]
 show k=fHd (cL c a) true k0
 rw[X4U rfl,h3]
theorem X22{α:Type}{l:List α}{i:Nat}{v d:α}(h:i<l.length):List.getD (List.set l i v) i d=v:=by
 rw[Yap,YbX h];rfl
def XvQ(n:Nat)(out:List UInt8):List UInt8:=if n=0 then out else XvQ (n / 10) (UInt8.ofNat (48+n % 10)::out)
termination_by n
decreasing_by omega
def pMT(k:Int):Prop:=k<=4611686018427387904
def fMT(k:Int):List UInt8:=if k<=0 then [109,48] else 109::XvQ k.toNat []
def mtI(k0 k:Int)(out:List UInt8):Prop:=0<=k/\0<k0/\out.length+k<=k0/\k0<=4611686018427387904/\XvQ k.toNat out=XvQ k0.toNat []
def mtM(k0 k:Int)(out:List UInt8):Nat:=k.toNat
def X9e:Con:=cQ (.int .i64) [.one] .str [(false,1)] (λa=>(pMT a)) λa=>(fMT a)
def X15.F(a0:Int):Prop:=(X00 (decide (a0<=(0:Int))) (Eq ([109,48],((),())) ((fMT a0),((),()))) (eS [] []/\((mtI a0 a0 [])/\∀(y1:(Int×U6q)),(mtI a0 y1.1 y1.2)->(X00 (decide (y1.1>(0:Int))) ((10:Int)≠0/\(List.length (List.map (λn=>UInt8.ofNat (Int.toNat n)) [(IntKind.wrap .u8 (wI ((48:Int)+(Int.tmod y1.1 (10:Int)))))])+List.length y1.2<=9223372036854775807/\((10:Int)≠0/\(eS [] []/\(mtI a0 (wI (Int.tdiv y1.1 (10:Int))) ((List.map (λn=>UInt8.ofNat (Int.toNat n)) [(IntKind.wrap .u8 (wI ((48:Int)+(Int.tmod y1.1 (10:Int)))))])++y1.2))/\(mtM a0 (wI (Int.tdiv y1.1 (10:Int))) ((List.map (λn=>UInt8.ofNat (Int.toNat n)) [(IntKind.wrap .u8 (wI ((48:Int)+(Int.tmod y1.1 (10:Int)))))])++y1.2))<(mtM a0 y1.1 y1.2))))) (List.length [109]+List.length y1.2<=9223372036854775807/\(Eq (([109]++y1.2),((),())) ((fMT a0),((),()))))))))
def X15.L(a0:Int):Nat->Option X0e:=XLK [(60,⟨⟨[],[0,3],[],[]⟩,(.pair (.int .i64) .str),λst y=>mtI a0 y.1 y.2,λst y=>mtM a0 y.1 y.2⟩)]
theorem X15.p(a0:Int)(h:(pMT a0)):X15.F a0:=by
 delta X15.F wI eS
 simp only[Bs,B0,B1,Yaa,X01]
 have hp:a0<=4611686018427387904:=h
 refine⟨λh1=>by simp[fMT,h1],λh1=>⟨⟨by omega,by omega,by simp,hp,rfl⟩,?_⟩⟩
 rintro⟨k,out⟩ ⟨h2,h3,h4,h5,h6⟩
 simp only at h2 h3 h4 h5 h6 ⊢
 refine⟨λhk=>?_,λhk=>?_⟩
 . have e1:Int.tmod k 10=k % 10:=Yax h2
   have e2:Int.tdiv k 10=k / 10:=Ya9 h2
   rw[e1,e2,w64 (x:=48+k % 10) (by omega) (by omega),wu8 (by omega) (by omega),w64 (x:=k / 10) (by omega) (by omega)]
   rw[XvQ,Yae (by omega)]at h6
   refine⟨by omega,by simp;omega,by omega,⟨by omega,h3,by simp;omega,h5,?_⟩,by unfold mtM;omega⟩
   have e3:(k / 10).toNat=k.toNat / 10:=by omega
   have e4:(48+k % 10).toNat=48+k.toNat % 10:=by omega
   rw[<-h6,e3]
   show XvQ _ (UInt8.ofNat (48+k % 10).toNat::out)=_
   rw[e4]
 . have e:k=0:=by omega
   subst e
   rw[show Int.toNat 0=0 from rfl,XvQ,Yah rfl]at h6
   refine⟨by omega,?_⟩
   unfold fMT
   rw[Yae h1,<-h6]
   rfl
def X15.e:GE:=mE X9e func84 [9] [] [] (λi x=>X15.L x) (λi x=>X15.F x) λi x h _ _=>X15.p x h
def XdE(x:List UInt8):Int:=1
def X7w(x:List UInt8)(k:Int):List UInt8:=fMT k
def X70(x:List UInt8)(k:Int):Bool:=decide (x=fMT k)
theorem Xmz:∀(x:List UInt8) (k:Int),X70 (X7w x k) k=true/\XdE (X7w x k)=XdE x:=λx k=>⟨by simp[X70,X7w],rfl⟩
theorem X6c:∀x:List UInt8,0<=XdE x:=λx=>by simp[XdE]
def Xdi(x:List U6q)(left:Int):Prop:=WfD Xf4 x/\0<=left/\left<=1048576
def X8i(x:List U6q)(left:Int):Int:=fSz (nL (λs=>List.length s) x) left
def X7S:Con:=cQ (.pair Xf4 (.int .i64)) [.one,.one] (.int .i64) [(false,1)] (λa=>(Xdi a.1 a.2)) λa=>(X8i a.1 a.2)
def X2o.F(a0:(List U6q))(a1:Int):Prop:=(X00 (decide ((wI (a1 - (ln a0)))<(0:Int))) (Eq ((-1),((),())) ((X8i a0 a1),((),()))) (eS [(0,.val false [.lst .str a0 none])] [(0,.val false [.lst .str a0 none])]/\((Xqy (λs:List UInt8=>List.length s) a0 a1 (wI (a1 - (ln a0))) 0)/\∀(y1:(Int×Int)),(Xqy (λs:List UInt8=>List.length s) a0 a1 y1.1 y1.2)->(X00 (decide (y1.2<(ln a0))) (0<=y1.2/\(y1.2<(ln a0)/\(X00 (decide ((wI (y1.1 - (ln (List.getD a0 (tN y1.2) []))))<(0:Int))) (Eq ((-1),((),())) ((X8i a0 a1),((),()))) (eS [(0,.val false [.lst .str a0 none])] [(0,.val false [.lst .str a0 none])]/\(Xqy (λs:List UInt8=>List.length s) a0 a1 (wI (y1.1 - (ln (List.getD a0 (tN y1.2) [])))) (wI (y1.2+(1:Int))))/\(Xqu a0 a1 (wI (y1.1 - (ln (List.getD a0 (tN y1.2) [])))) (wI (y1.2+(1:Int))))<(Xqu a0 a1 y1.1 y1.2))))) (Eq (y1.1,((),())) ((X8i a0 a1),((),())))))))
def X2o.L(a0:(List U6q))(a1:Int):Nat->Option X0e:=XLK [(122,⟨⟨[0],[1,5],[],[]⟩,T0q,λst y=>Xqy (λs:List UInt8=>List.length s) a0 a1 y.1 y.2,λst y=>Xqu a0 a1 y.1 y.2⟩)]
theorem X2o.p(a0:(List U6q))(a1:Int)(h:(Xdi a0 a1)):X2o.F a0 a1:=by
 delta X2o.F ln tN wI eS
 obtain⟨hwf,p1,p2⟩:=h
 have hw1:a0.length<=9223372036854775807:=hwf.1
 simp only[Bs,B0,B1,Yaa,X01,X8i]
 rw[w64 (x:=a1 - (a0.length:Int)) (by omega) (by omega)]
 refine⟨λh1=>(XdQ (by unfold nL;omega)).symm,λh1=>⟨⟨by omega,by omega,by omega,by rw[show Int.toNat 0=0 from rfl,Xji];omega⟩,?_⟩⟩
 rintro⟨left,i⟩ ⟨h2,h3,h4,h5⟩
 simp only at h2 h3 h4 h5 ⊢
 refine⟨λhi=>?_,λhi=>?_⟩
 . have hm:a0.getD i.toNat ([]:U6q)∈a0:=X1a (by omega)
   have s1:=Xip (λs:List UInt8=>List.length s) a0 ([]:U6q) (i:=i.toNat) (by omega)
   have s2:=Xoa (λs:List UInt8=>List.length s) a0 (i.toNat+1)
   have hwx:(a0.getD i.toNat ([]:U6q)).length<=9223372036854775807:=hwf.2 _ hm
   rw[w64 (x:=left - ((a0.getD i.toNat ([]:U6q)).length:Int)) (by omega) (by omega),w64 (x:=i+1) (by omega) (by omega)]
   refine⟨h2,hi,λh6=>(XdQ (by unfold nL;omega)).symm,λh6=>⟨⟨by omega,by omega,by omega,by rw[tn1 h2];omega⟩,by unfold Xqu;omega⟩⟩
 . have e:i.toNat=a0.length:=by omega
   rw[e]at h5
   rw[Xe4 (by unfold nL;omega)]
   unfold nL;omega
def X2o.e:GE:=mE X7S func72 [3] [] [] (λi x=>X2o.L x.1 x.2) (λi x=>X2o.F x.1 x.2) λi x h _ _=>X2o.p x.1 x.2 h
def Xdd(x:List U6q):Prop:=nL (λs=>List.length s) x<=1048576
def Xbq(x:List U6q):List U6q:=x
def X7u:Con:=cW Xf4 [.one] Xf4 [(false,1)] [(0,9)] (λa=>(Xdd a)) λa=>(Xbq a)
def X2j.F(a0:(List U6q)):Prop:=(0<=(ln a0)/\((ln a0)<=(ln a0)/\((ln a0)<=9223372036854775807/\(((16:Nat):Int)*(ln a0)<=140737488355328/\(eS [(0,.val false [.lst .str a0 none]),(3,.val false [.own .str 1000387])] [(0,.val false [.lst .str a0 none]),(3,.val false [.own .str 1000387])]/\((cpI ([]:U6q) a0 0 (List.replicate (tN (ln a0)) ([]:U6q)))/\∀(y1:(Int×(List U6q))),(cpI ([]:U6q) a0 y1.1 y1.2)->(X00 (decide (y1.1<(ln a0))) (0<=y1.1/\(y1.1<(ln a0)/\(0<=y1.1/\(y1.1<(ln y1.2)/\(eS [(0,.val false [.lst .str a0 none]),(3,.val false [.own .str 1000387])] [(0,.val false [.lst .str a0 none]),(3,.val false [.own .str 1000387])]/\(cpI ([]:U6q) a0 (wI (y1.1+(1:Int))) (List.set y1.2 (tN y1.1) (List.getD a0 (tN y1.1) [])))/\(cpM a0 (wI (y1.1+(1:Int))) (List.set y1.2 (tN y1.1) (List.getD a0 (tN y1.1) [])))<(cpM a0 y1.1 y1.2)))))) (Eq (y1.2,((),())) ((Xbq a0),((),()))))))))))
def X2j.L(a0:(List U6q)):Nat->Option X0e:=XLK [(58,⟨⟨[0,3],[4],[],[kC 3 0 1000387 9]⟩,(.pair (.int .i64) Xf4),λst y=>cpI ([]:U6q) a0 y.1 y.2,λst y=>cpM a0 y.1 y.2⟩)]
theorem X2j.p(a0:(List U6q))(h:(Xdd a0)):X2j.F a0:=by
 delta X2j.F ln tN wI eS
 have hb:a0.length<=1048576:=by have h1:nL (λs=>List.length s) a0<=1048576:=h;unfold nL at h1;omega
 simp only[Bs,B0,B1,Yaa,X01,Xbq]
 refine⟨by omega,by omega,by omega,by omega,⟨by omega,by omega,by simp⟩,?_⟩
 rintro⟨i,out⟩ hI
 simp only at hI ⊢
 refine⟨λhi=>?_,λhi=>Xmh hI hi⟩
 have hl:=Xmi hI
 have h3:=hI.2.1
 have h2:=hI.1
 rw[w64 (x:=i+1) (by omega) (by omega)]
 simp only[hl]
 exact⟨h2,hi,h2,hi,Xim hI hi,by unfold cpM;omega⟩
def X2j.e:GE:=mE X7u func76 [26] [] [] (λi x=>X2j.L x) (λi x=>X2j.F x) λi x h _ _=>X2j.p x h
def X5P(a b:List U6q):Bool:=decide (a=b)
def X7T:Con:=cQ (.pair Xf4 Xf4) [.one,.one] .bool [(false,1)] (λ_=>True) λa=>(X5P a.1 a.2)
def X2i.F(a0:(List U6q))(a1:(List U6q)):Prop:=(X00 ((ln a0)!=(ln a1)) (Eq (false,((),())) ((X5P a0 a1),((),()))) (eS [(0,.val false [.lst .str a0 none]),(1,.val false [.lst .str a1 none])] [(0,.val false [.lst .str a0 none]),(1,.val false [.lst .str a1 none])]/\((Xjc a0 a1 0)/\∀(y1:Int),(Xjc a0 a1 y1)->(X00 (decide (y1<(ln a0))) (0<=y1/\(y1<(ln a0)/\(0<=y1/\(y1<(ln a1)/\(X00 (!((List.getD a0 (tN y1) [])==(List.getD a1 (tN y1) []))) (Eq (false,((),())) ((X5P a0 a1),((),()))) (eS [(0,.val false [.lst .str a0 none]),(1,.val false [.lst .str a1 none])] [(0,.val false [.lst .str a0 none]),(1,.val false [.lst .str a1 none])]/\(Xjc a0 a1 (wI (y1+(1:Int))))/\(Xkc a0 a1 (wI (y1+(1:Int))))<(Xkc a0 a1 y1))))))) (Eq (true,((),())) ((X5P a0 a1),((),())))))))
def X2i.L(a0:(List U6q))(a1:(List U6q)):Nat->Option X0e:=XLK [(58,⟨⟨[0,1],[5],[],[]⟩,(.int .i64),λst y=>Xjc a0 a1 y,λst y=>Xkc a0 a1 y⟩)]
theorem X2i.p(a0:(List U6q))(a1:(List U6q))(h:True)(hw:Wf X7T.A (a0,a1)):X2i.F a0 a1:=by
 delta X2i.F ln tN wI eS
 have hw1:a0.length<=9223372036854775807:=hw.1.1
 simp only[Bs,B0,B1,Yaa,X01]
 refine⟨λh1=>?_,λh1=>?_⟩
 . have:a0≠a1:=λe=>by subst e;simp at h1
   simp[X5P,this]
 have hl:a0.length=a1.length:=by omega
 refine⟨⟨by omega,by omega,hl,by simp⟩,?_⟩
 rintro i hI
 have h2:=hI.1
 have h3:=hI.2.1
 refine⟨λhi=>⟨h2,hi,h2,by omega,λhne=>?_,λhe=>?_⟩,λhi=>?_⟩
 . have:a0≠a1:=λe=>by subst e;simp at hne
   simp[X5P,this]
 . have hg:a0.getD i.toNat ([]:U6q)=a1.getD i.toNat ([]:U6q):=by simpa using he
   rw[w64 (x:=i+1) (by omega) (by omega)]
   exact⟨XfG hI hi hg,by unfold Xkc;omega⟩
 . have h6:=XiV hI hi
   simp[X5P,h6]
def X2i.e:GE:=mE X7T func80 [4] [] [] (λi x=>X2i.L x.1 x.2) (λi x=>X2i.F x.1 x.2) λi x h _ hw=>X2i.p x.1 x.2 h hw
def X6D(l:List U6q)(k:Int):Prop:=0<=k/\k+cL XdE l<=4611686018427387904
def X8m(l:List U6q)(k:Int):Int×List U6q:=(k+cL XdE l,mL XdE X7w l k)
def X6k:Con:={A:=(.pair Xf4 (.int .i64)),shA:=[.one,.one],backA:=[(0,9)],B:=Xf4,R:=(.int .i64),shR:=[(false,1)],pre:=λ_ a=>(X6D a.1 a.2),f:=some λ_ a=>((X8m a.1 a.2).1,((),(X8m a.1 a.2).2))}
def X1d.F(a0:(List U6q))(a1:Int):Prop:=(eS [(0,.val false [.own .str 2])] [(0,.val false [.own .str 2])]/\((mkI XdE X7w a0 a1 a1 0 a0)/\∀(y1:(Int×(Int×(List U6q)))),(mkI XdE X7w a0 a1 y1.1 y1.2.1 y1.2.2)->(X00 (decide (y1.2.1<(ln y1.2.2))) ((pMT y1.1)/\∀r2,(Eq r2 ((fMT y1.1),((),())))->(0<=y1.2.1/\(y1.2.1<(ln y1.2.2)/\(eS [(0,.val false [.own .str 2])] [(0,.val false [.own .str 2])]/\(mkI XdE X7w a0 a1 (wI (y1.1+(1:Int))) (wI (y1.2.1+(1:Int))) (List.set y1.2.2 (tN y1.2.1) r2.1))/\(mkM a0 a1 (wI (y1.1+(1:Int))) (wI (y1.2.1+(1:Int))) (List.set y1.2.2 (tN y1.2.1) r2.1))<(mkM a0 a1 y1.1 y1.2.1 y1.2.2))))) (Eq (y1.1,((),y1.2.2)) ((X8m a0 a1).1,((),(X8m a0 a1).2))))))
def X1d.L(a0:(List U6q))(a1:Int):Nat->Option X0e:=XLK [(26,⟨⟨[0],[1,5],[],[kC 0 0 2 9]⟩,(.pair (.int .i64) (.pair (.int .i64) Xf4)),λst y=>mkI XdE X7w a0 a1 y.1 y.2.1 y.2.2,λst y=>mkM a0 a1 y.1 y.2.1 y.2.2⟩)]
theorem X1d.p(a0:(List U6q))(a1:Int)(h:(X6D a0 a1))(hw:Wf X6k.A (a0,a1)):X1d.F a0 a1:=by
 delta X1d.F ln tN wI eS
 obtain⟨p1,p2⟩:=h
 have hw1:a0.length<=9223372036854775807:=hw.1.1
 simp only[Bs,B0,B1,Yaa,X01]
 refine⟨⟨by omega,by omega,by simp[cL],by simp[mL]⟩,?_⟩
 rintro⟨k,i,l⟩ hI
 simp only at hI ⊢
 have hl:=XmL hI
 have h2:=hI.1
 have h3:=hI.2
 refine⟨λhi0=>?_,λhi0=>?_⟩
 . have hi:i<(a0.length:Int):=by omega
   have hi':i.toNat<l.length:=by omega
   have hg:=XrO (d:=([]:U6q)) hI hi
   have hs:=X5i XdE ([]:U6q) (l:=a0) (i:=i.toNat) (by omega)
   have hk:=hI.3
   have c1:=X46 X6c (a0.take i.toNat)
   have c2:=X46 X6c (a0.drop (i.toNat+1))
   have c3:=X6c (a0.getD i.toNat ([]:U6q))
   have hmod:Int.tmod k 3=k % 3:=Yax (by omega)
   have hc:XdE (a0.getD i.toNat ([]:U6q))=XdE (a0.getD i.toNat ([]:U6q)):=rfl
   conv at hc=>rhs;unfold XdE
   try simp only[hg,X22 hi',YbB,YaV]
   try simp (disch:=first | omega | simp_all) only[X22,YbB,YaV,hg,w64,pMT]
   repeat' (with_reducible (first | (refine And.intro ?_ ?_) | intro _))
   all_goals (try simp+zetaDelta (disch:=first | omega | simp_all) only[hg,X22,YbB,YaV,w64,pMT])
   all_goals (first | omega | exact Xi7 (d:=([]:U6q)) hI hi (by simp (disch:=omega) [X7w,hmod,Yax]<;>rfl) (by omega) | (unfold mkM;omega) | skip)
 . obtain⟨e1,e2⟩:=Xna hI (by omega)
   exact⟨e1,e2⟩
def X1d.e:GE:=mE X6k func83 [3] [X15.e] [] (λi x=>X1d.L x.1 x.2) (λi x=>X1d.F x.1 x.2) λi x h _ hw=>X1d.p x.1 x.2 h hw
def X9W(l:List U6q)(k:Int):Int:=fHd (cL XdE l) (oL XdE X70 l k) k
def X6n:Con:=cQ (.pair Xf4 (.int .i64)) [.one,.one] (.int .i64) [(false,1)] (λa=>(X6D a.1 a.2)) λa=>(X9W a.1 a.2)
def X1g.F(a0:(List U6q))(a1:Int):Prop:=(eS [(0,.val false [.lst .str a0 none])] [(0,.val false [.lst .str a0 none])]/\((hdI XdE X70 a0 a1 a1 0)/\∀(y1:(Int×Int)),(hdI XdE X70 a0 a1 y1.1 y1.2)->(X00 (decide (y1.2<(ln a0))) (0<=y1.2/\(y1.2<(ln a0)/\((pMT y1.1)/\∀r2,(Eq r2 ((fMT y1.1),((),())))->(X00 (!((List.getD a0 (tN y1.2) [])==r2.1)) (Eq ((-1),((),())) ((X9W a0 a1),((),()))) (eS [(0,.val false [.lst .str a0 none])] [(0,.val false [.lst .str a0 none])]/\(hdI XdE X70 a0 a1 (wI (y1.1+(1:Int))) (wI (y1.2+(1:Int))))/\(hdM a0 a1 (wI (y1.1+(1:Int))) (wI (y1.2+(1:Int))))<(hdM a0 a1 y1.1 y1.2)))))) (Eq (y1.1,((),())) ((X9W a0 a1),((),()))))))
def X1g.L(a0:(List U6q))(a1:Int):Nat->Option X0e:=XLK [(26,⟨⟨[0],[1,5],[],[]⟩,T0q,λst y=>hdI XdE X70 a0 a1 y.1 y.2,λst y=>hdM a0 a1 y.1 y.2⟩)]
theorem X1g.p(a0:(List U6q))(a1:Int)(h:(X6D a0 a1))(hw:Wf X6n.A (a0,a1)):X1g.F a0 a1:=by
 delta X1g.F ln tN wI eS
 obtain⟨p1,p2⟩:=h
 have hw1:a0.length<=9223372036854775807:=hw.1.1
 simp only[Bs,B0,B1,Yaa,X01]
 refine⟨⟨by omega,by omega,by simp[cL],by simp⟩,?_⟩
 rintro⟨k,i⟩ hI
 simp only at hI ⊢
 have h2:=hI.1
 have h3:=hI.2
 refine⟨λhi=>?_,λhi=>Xnj hI hi⟩
 . have hs:=X5i XdE ([]:U6q) (l:=a0) (i:=i.toNat) (by omega)
   have hk:=hI.3
   have c1:=X46 X6c (a0.take i.toNat)
   have c2:=X46 X6c (a0.drop (i.toNat+1))
   have c3:=X6c (a0.getD i.toNat ([]:U6q))
   have hmod:Int.tmod k 3=k % 3:=Yax (by omega)
   have no:X70 (a0.getD i.toNat ([]:U6q)) k=false->-1=X9W a0 a1:=λho=>XrJ ([]:U6q) hI hi ho
   have yes:X70 (a0.getD i.toNat ([]:U6q)) k=true->hdI XdE X70 a0 a1 (k+XdE (a0.getD i.toNat ([]:U6q))) (i+1):=λho=>Xii ([]:U6q) hI hi ho rfl
   generalize a0.getD i.toNat ([]:U6q)=x at*
   have hc:XdE x=XdE x:=rfl
   conv at hc=>rhs;unfold XdE
   simp only[X70]at no yes
   simp (disch:=omega) only[w64,pMT]
   repeat' (with_reducible (first | (refine And.intro ?_ ?_) | intro _))
   all_goals (first | omega | (unfold hdM;omega) | skip)
   all_goals (try simp (disch:=first | omega | assumption) only[X5a,X4U,w64,YaO]at*)
   all_goals (try simp (disch:=first | omega | assumption) only[X5a,X4U,w64,YaO]at*)
   all_goals (first | omega | grind)
def X1g.e:GE:=mE X6n func86 [3] [X15.e] [] (λi x=>X1g.L x.1 x.2) (λi x=>X1g.F x.1 x.2) λi x h _ hw=>X1g.p x.1 x.2 h hw
theorem Xs8{n:Nat}(h:¬fSz n 1048576<0):n<=1048576:=by
 by_cases hc:(1048576:Int)<(n:Int)
 . rw[XdQ hc]at h;exact absurd (by decide) h
 . omega
def XeC(x:(Int×Int)):Nat:=0
def XdK(x:List (Int×Int))(left:Int):Prop:=WfD X7m x/\0<=left/\left<=1048576
def X9R(x:List (Int×Int))(left:Int):Int:=fSz (List.length x) left
def X7V:Con:=cQ (.pair X7m (.int .i64)) [.one,.one] (.int .i64) [(false,1)] (λa=>(XdK a.1 a.2)) λa=>(X9R a.1 a.2)
def X32.F(a0:U9q)(a1:Int):Prop:=(X00 (decide ((wI (a1 - (ln a0)))<(0:Int))) (Eq ((-1),((),())) ((X9R a0 a1),((),()))) (Eq ((wI (a1 - (ln a0))),((),())) ((X9R a0 a1),((),()))))
theorem X32.p(a0:U9q)(a1:Int)(h:(XdK a0 a1)):X32.F a0 a1:=by
 delta X32.F ln wI
 obtain⟨hwf,p1,p2⟩:=h
 have hw1:a0.length<=9223372036854775807:=hwf.1
 simp only[Bs,B0,B1,Yaa,X01,X9R]
 rw[w64 (x:=a1 - (a0.length:Int)) (by omega) (by omega)]
 exact⟨λh1=>(XdQ (by omega)).symm,λh1=>(Xe4 (by omega)).symm⟩
def X32.e:GE:=mE X7V func32 [3] [] [] noL (λi x=>X32.F x.1 x.2) λi x h _ _=>X32.p x.1 x.2 h
def XcD(x:(Int×Int)):Prop:=XeC x<=1048576
def XcE(x:(Int×Int)):(Int×Int):=x
def X9b:Con:=cQ T0q [.agg 2] T0q [(true,2)] (λa=>(XcD a)) λa=>(XcE a)
def X3A.F(a0:(Int×Int)):Prop:=(Eq ((a0.1,a0.2),((),())) ((XcE a0),((),())))
theorem X3A.p(a0:(Int×Int))(h:(XcD a0))(hw:Wf X9b.A a0):X3A.F a0:=by
 unfold X3A.F
 have hp:XeC a0<=1048576:=h
 simp only[XeC]at hp
 simp only[Bs,B0,B1,Yaa,X01,XeC,XcE,XcD]
 repeat' (with_reducible (first | (refine And.intro ?_ ?_) | intro _))
 all_goals (try simp (disch:=omega) only[w64,wu8,tn0,tn1,tm1,tm2,Yab,Yad,Yai]at*)
 all_goals (try simp (disch:=omega) only[w64,wu8,tn0,tn1,tm1,tm2,Yab,Yad,Yai]at*)
 all_goals (try omega)
 all_goals (try grind[])
def X3A.e:GE:=mE X9b func74 [43] [] [] noL (λi x=>X3A.F x) λi x h _ hw=>X3A.p x h hw
def Xd8(x:List (Int×Int)):Prop:=List.length x<=1048576
def Xbm(x:List (Int×Int)):List (Int×Int):=x
def X7F:Con:=cW X7m [.one] X7m [(false,1)] [(0,43)] (λa=>(Xd8 a)) λa=>(Xbm a)
def X2d.F(a0:U9q):Prop:=(0<=(ln a0)/\((ln a0)<=(ln a0)/\((ln a0)<=9223372036854775807/\(((16:Nat):Int)*(ln a0)<=140737488355328/\(eS [(0,.val false [.lst T0q a0 none]),(3,.val false [.own T0q 1000387])] [(0,.val false [.lst T0q a0 none]),(3,.val false [.own T0q 1000387])]/\((cpI ((0:Int),(0:Int)) a0 0 (List.replicate (tN (ln a0)) ((0:Int),(0:Int))))/\∀(y1:(Int×U9q)),(cpI ((0:Int),(0:Int)) a0 y1.1 y1.2)->(X00 (decide (y1.1<(ln a0))) (0<=y1.1/\(y1.1<(ln a0)/\((XcD ((List.getD a0 (tN y1.1) (0,0)).1,(List.getD a0 (tN y1.1) (0,0)).2))/\∀r2,(Eq r2 ((XcE ((List.getD a0 (tN y1.1) (0,0)).1,(List.getD a0 (tN y1.1) (0,0)).2)),((),())))->(0<=y1.1/\(y1.1<(ln y1.2)/\(eS [(0,.val false [.lst T0q a0 none]),(3,.val false [.own T0q 1000387])] [(0,.val false [.lst T0q a0 none]),(3,.val false [.own T0q 1000387])]/\(cpI ((0:Int),(0:Int)) a0 (wI (y1.1+(1:Int))) (List.set y1.2 (tN y1.1) (r2.1.1,r2.1.2)))/\(cpM a0 (wI (y1.1+(1:Int))) (List.set y1.2 (tN y1.1) (r2.1.1,r2.1.2)))<(cpM a0 y1.1 y1.2))))))) (Eq (y1.2,((),())) ((Xbm a0),((),()))))))))))
def X2d.L(a0:U9q):Nat->Option X0e:=XLK [(58,⟨⟨[0,3],[4],[],[kC 3 0 1000387 43]⟩,Xof,λst y=>cpI ((0:Int),(0:Int)) a0 y.1 y.2,λst y=>cpM a0 y.1 y.2⟩)]
theorem X2d.p(a0:U9q)(h:(Xd8 a0)):X2d.F a0:=by
 delta X2d.F ln tN wI eS
 have hb:a0.length<=1048576:=by have h1:List.length a0<=1048576:=h;exact h1
 simp only[Bs,B0,B1,Yaa,X01,Xbm]
 refine⟨by omega,by omega,by omega,by omega,⟨by omega,by omega,by simp⟩,?_⟩
 rintro⟨i,out⟩ hI
 simp only at hI ⊢
 refine⟨λhi=>?_,λhi=>Xmh hI hi⟩
 have hl:=Xmi hI
 have h3:=hI.2.1
 have h2:=hI.1
 have hp:XcD (a0.getD i.toNat ((0:Int),(0:Int))):=by
  have h1:List.length a0<=1048576:=h
  have hm:a0.getD i.toNat ((0:Int),(0:Int))∈a0:=X1a (by omega)
  show XeC _<=1048576
  simp[XeC]
 rw[w64 (x:=i+1) (by omega) (by omega)]
 simp only[XcE,hl]
 exact⟨h2,hi,hp,h2,hi,Xim hI hi,by unfold cpM;omega⟩
def X2d.e:GE:=mE X7F func35 [24] [X3A.e] [] (λi x=>X2d.L x) (λi x=>X2d.F x) λi x h _ _=>X2d.p x h
instance dec_Bucket:DecidableEq (Int×Int):=by(iterate 20 (all_goals (first | infer_instance | refine @instDecidableEqProd _ _ ?_ ?_)))
def X8s(a b:(Int×Int)):Bool:=decide (a=b)
def X8V:Con:=cQ (.pair T0q T0q) [.agg 2,.agg 2] .bool [(false,1)] (λ_=>True) λa=>(X8s a.1 a.2)
def X3D.F(a0:(Int×Int))(a1:(Int×Int)):Prop:=(X00 (a0.1 !=a1.1) (Eq (false,((),())) ((X8s a0 a1),((),()))) (X00 (a0.2 !=a1.2) (Eq (false,((),())) ((X8s a0 a1),((),()))) (Eq (true,((),())) ((X8s a0 a1),((),())))))
theorem X3D.p(a0:(Int×Int))(a1:(Int×Int))(h:True):X3D.F a0 a1:=by
 unfold X3D.F
 obtain⟨x1,x2⟩:=a0
 obtain⟨y1,y2⟩:=a1
 simp only[Bs,B0,B1,Yaa,X01,X8s]
 repeat' (first | (refine And.intro ?_ ?_) | intro _)
 all_goals simp_all
def X3D.e:GE:=mE X8V func78 [4] [] [] noL (λi x=>X3D.F x.1 x.2) λi x h _ _=>X3D.p x.1 x.2 h
def X5W(a b:List (Int×Int)):Bool:=decide (a=b)
def X7P:Con:=cQ (.pair X7m X7m) [.one,.one] .bool [(false,1)] (λ_=>True) λa=>(X5W a.1 a.2)
def X2g.F(a0:U9q)(a1:U9q):Prop:=(X00 ((ln a0)!=(ln a1)) (Eq (false,((),())) ((X5W a0 a1),((),()))) (eS [(0,.val false [.lst T0q a0 none]),(1,.val false [.lst T0q a1 none])] [(0,.val false [.lst T0q a0 none]),(1,.val false [.lst T0q a1 none])]/\((Xjc a0 a1 0)/\∀(y1:Int),(Xjc a0 a1 y1)->(X00 (decide (y1<(ln a0))) (0<=y1/\(y1<(ln a0)/\(0<=y1/\(y1<(ln a1)/\(True/\∀r2,(Eq r2 ((X8s ((List.getD a0 (tN y1) (0,0)).1,(List.getD a0 (tN y1) (0,0)).2) ((List.getD a1 (tN y1) (0,0)).1,(List.getD a1 (tN y1) (0,0)).2)),((),())))->(X00 (!r2.1) (Eq (false,((),())) ((X5W a0 a1),((),()))) (eS [(0,.val false [.lst T0q a0 none]),(1,.val false [.lst T0q a1 none])] [(0,.val false [.lst T0q a0 none]),(1,.val false [.lst T0q a1 none])]/\(Xjc a0 a1 (wI (y1+(1:Int))))/\(Xkc a0 a1 (wI (y1+(1:Int))))<(Xkc a0 a1 y1)))))))) (Eq (true,((),())) ((X5W a0 a1),((),())))))))
def X2g.L(a0:U9q)(a1:U9q):Nat->Option X0e:=XLK [(58,⟨⟨[0,1],[5],[],[]⟩,(.int .i64),λst y=>Xjc a0 a1 y,λst y=>Xkc a0 a1 y⟩)]
theorem X2g.p(a0:U9q)(a1:U9q)(h:True)(hw:Wf X7P.A (a0,a1)):X2g.F a0 a1:=by
 delta X2g.F ln tN wI eS
 have hw1:a0.length<=9223372036854775807:=hw.1.1
 simp only[Bs,B0,B1,Yaa,X01]
 refine⟨λh1=>?_,λh1=>?_⟩
 . have:a0≠a1:=λe=>by subst e;simp at h1
   simp[X5W,this]
 have hl:a0.length=a1.length:=by omega
 refine⟨⟨by omega,by omega,hl,by simp⟩,?_⟩
 rintro i hI
 have h2:=hI.1
 have h3:=hI.2.1
 refine⟨λhi=>⟨h2,hi,h2,by omega,λhne=>?_,λhe=>?_⟩,λhi=>?_⟩
 . have:a0≠a1:=λe=>by subst e;simp[X8s]at hne
   simp[X5W,this]
 . have hg:a0.getD i.toNat ((0:Int),(0:Int))=a1.getD i.toNat ((0:Int),(0:Int)):=by simpa only[X8s,Yaj] using he
   rw[w64 (x:=i+1) (by omega) (by omega)]
   exact⟨XfG hI hi hg,by unfold Xkc;omega⟩
 . have h6:=XiV hI hi
   simp[X5W,h6]
def X2g.e:GE:=mE X7P func38 [4] [X3D.e] [] (λi x=>X2g.L x.1 x.2) (λi x=>X2g.F x.1 x.2) λi x h _ hw=>X2g.p x.1 x.2 h hw
def X0B(x:(Int×Int)):Int:=1+1
def X9o(x:(Int×Int))(k:Int):(Int×Int):=(k,(k+1))
def X7C(x:(Int×Int))(k:Int):Bool:=(decide (x.1=k))&&(decide (x.2=(k+1)))
theorem Xn9:∀(x:(Int×Int)) (k:Int),X7C (X9o x k) k=true/\X0B (X9o x k)=X0B x:=λx k=>by
 simp[X7C,X9o,X0B]
theorem X8B:∀x:(Int×Int),0<=X0B x:=λx=>by
 unfold X0B;omega
def X6Q(l:List (Int×Int))(k:Int):Prop:=0<=k/\k+cL X0B l<=4611686018427387904
def X8e(l:List (Int×Int))(k:Int):Int×List (Int×Int):=(k+cL X0B l,mL X0B X9o l k)
def X6r:Con:={A:=(.pair X7m (.int .i64)),shA:=[.one,.one],backA:=[(0,43)],B:=X7m,R:=(.int .i64),shR:=[(false,1)],pre:=λ_ a=>(X6Q a.1 a.2),f:=some λ_ a=>((X8e a.1 a.2).1,((),(X8e a.1 a.2).2))}
def X1i.F(a0:U9q)(a1:Int):Prop:=(eS [(0,.val false [.own T0q 2])] [(0,.val false [.own T0q 2])]/\((mkI X0B X9o a0 a1 a1 0 a0)/\∀(y1:(Int×(Int×U9q))),(mkI X0B X9o a0 a1 y1.1 y1.2.1 y1.2.2)->(X00 (decide (y1.2.1<(ln y1.2.2))) (0<=y1.2.1/\(y1.2.1<(ln y1.2.2)/\(0<=y1.2.1/\(y1.2.1<(ln (List.set y1.2.2 (tN y1.2.1) (y1.1,(List.getD y1.2.2 (tN y1.2.1) (0,0)).2)))/\(eS [(0,.val false [.own T0q 2])] [(0,.val false [.own T0q 2])]/\(mkI X0B X9o a0 a1 (wI ((wI (y1.1+(1:Int)))+(1:Int))) (wI (y1.2.1+(1:Int))) (List.set (List.set y1.2.2 (tN y1.2.1) (y1.1,(List.getD y1.2.2 (tN y1.2.1) (0,0)).2)) (tN y1.2.1) ((List.getD (List.set y1.2.2 (tN y1.2.1) (y1.1,(List.getD y1.2.2 (tN y1.2.1) (0,0)).2)) (tN y1.2.1) (0,0)).1,(wI (y1.1+(1:Int))))))/\(mkM a0 a1 (wI ((wI (y1.1+(1:Int)))+(1:Int))) (wI (y1.2.1+(1:Int))) (List.set (List.set y1.2.2 (tN y1.2.1) (y1.1,(List.getD y1.2.2 (tN y1.2.1) (0,0)).2)) (tN y1.2.1) ((List.getD (List.set y1.2.2 (tN y1.2.1) (y1.1,(List.getD y1.2.2 (tN y1.2.1) (0,0)).2)) (tN y1.2.1) (0,0)).1,(wI (y1.1+(1:Int))))))<(mkM a0 a1 y1.1 y1.2.1 y1.2.2)))))) (Eq (y1.1,((),y1.2.2)) ((X8e a0 a1).1,((),(X8e a0 a1).2))))))
def X1i.L(a0:U9q)(a1:Int):Nat->Option X0e:=XLK [(26,⟨⟨[0],[1,5],[],[kC 0 0 2 43]⟩,(.pair (.int .i64) Xof),λst y=>mkI X0B X9o a0 a1 y.1 y.2.1 y.2.2,λst y=>mkM a0 a1 y.1 y.2.1 y.2.2⟩)]
theorem X1i.p(a0:U9q)(a1:Int)(h:(X6Q a0 a1))(hw:Wf X6r.A (a0,a1)):X1i.F a0 a1:=by
 delta X1i.F ln tN wI eS
 obtain⟨p1,p2⟩:=h
 have hw1:a0.length<=9223372036854775807:=hw.1.1
 simp only[Bs,B0,B1,Yaa,X01]
 refine⟨⟨by omega,by omega,by simp[cL],by simp[mL]⟩,?_⟩
 rintro⟨k,i,l⟩ hI
 simp only at hI ⊢
 have hl:=XmL hI
 have h2:=hI.1
 have h3:=hI.2
 refine⟨λhi0=>?_,λhi0=>?_⟩
 . have hi:i<(a0.length:Int):=by omega
   have hi':i.toNat<l.length:=by omega
   have hg:=XrO (d:=((0:Int),(0:Int))) hI hi
   have hs:=X5i X0B ((0:Int),(0:Int)) (l:=a0) (i:=i.toNat) (by omega)
   have hk:=hI.3
   have c1:=X46 X8B (a0.take i.toNat)
   have c2:=X46 X8B (a0.drop (i.toNat+1))
   have c3:=X8B (a0.getD i.toNat ((0:Int),(0:Int)))
   have hmod:Int.tmod k 3=k % 3:=Yax (by omega)
   have hc:X0B (a0.getD i.toNat ((0:Int),(0:Int)))=X0B (a0.getD i.toNat ((0:Int),(0:Int))):=rfl
   conv at hc=>rhs;unfold X0B
   try simp only[hg,X22 hi',YbB,YaV]
   try simp (disch:=first | omega | simp_all) only[X22,YbB,YaV,hg,w64,pMT]
   repeat' (with_reducible (first | (refine And.intro ?_ ?_) | intro _))
   all_goals (try simp+zetaDelta (disch:=first | omega | simp_all) only[hg,X22,YbB,YaV,w64,pMT])
   all_goals (first | omega | exact Xi7 (d:=((0:Int),(0:Int))) hI hi (by simp (disch:=omega) [X9o,hmod,Yax]<;>rfl) (by omega) | (unfold mkM;omega) | skip)
 . obtain⟨e1,e2⟩:=Xna hI (by omega)
   exact⟨e1,e2⟩
def X1i.e:GE:=mE X6r func41 [3] [] [] (λi x=>X1i.L x.1 x.2) (λi x=>X1i.F x.1 x.2) λi x h _ hw=>X1i.p x.1 x.2 h hw
def X89(l:List (Int×Int))(k:Int):Int:=fHd (cL X0B l) (oL X0B X7C l k) k
def X6p:Con:=cQ (.pair X7m (.int .i64)) [.one,.one] (.int .i64) [(false,1)] (λa=>(X6Q a.1 a.2)) λa=>(X89 a.1 a.2)
def X1h.F(a0:U9q)(a1:Int):Prop:=(eS [(0,.val false [.lst T0q a0 none])] [(0,.val false [.lst T0q a0 none])]/\((hdI X0B X7C a0 a1 a1 0)/\∀(y1:(Int×Int)),(hdI X0B X7C a0 a1 y1.1 y1.2)->(X00 (decide (y1.2<(ln a0))) (0<=y1.2/\(y1.2<(ln a0)/\(X00 (((List.getD a0 (tN y1.2) (0,0)).1)!=y1.1) (Eq ((-1),((),())) ((X89 a0 a1),((),()))) (0<=y1.2/\(y1.2<(ln a0)/\(X00 (((List.getD a0 (tN y1.2) (0,0)).2)!=(wI (y1.1+(1:Int)))) (Eq ((-1),((),())) ((X89 a0 a1),((),()))) (eS [(0,.val false [.lst T0q a0 none])] [(0,.val false [.lst T0q a0 none])]/\(hdI X0B X7C a0 a1 (wI ((wI (y1.1+(1:Int)))+(1:Int))) (wI (y1.2+(1:Int))))/\(hdM a0 a1 (wI ((wI (y1.1+(1:Int)))+(1:Int))) (wI (y1.2+(1:Int))))<(hdM a0 a1 y1.1 y1.2)))))))) (Eq (y1.1,((),())) ((X89 a0 a1),((),()))))))
def X1h.L(a0:U9q)(a1:Int):Nat->Option X0e:=XLK [(26,⟨⟨[0],[1,5],[],[]⟩,T0q,λst y=>hdI X0B X7C a0 a1 y.1 y.2,λst y=>hdM a0 a1 y.1 y.2⟩)]
theorem X1h.p(a0:U9q)(a1:Int)(h:(X6Q a0 a1))(hw:Wf X6p.A (a0,a1)):X1h.F a0 a1:=by
 delta X1h.F ln tN wI eS
 obtain⟨p1,p2⟩:=h
 have hw1:a0.length<=9223372036854775807:=hw.1.1
 simp only[Bs,B0,B1,Yaa,X01]
 refine⟨⟨by omega,by omega,by simp[cL],by simp⟩,?_⟩
 rintro⟨k,i⟩ hI
 simp only at hI ⊢
 have h2:=hI.1
 have h3:=hI.2
 refine⟨λhi=>?_,λhi=>Xnj hI hi⟩
 . have hs:=X5i X0B ((0:Int),(0:Int)) (l:=a0) (i:=i.toNat) (by omega)
   have hk:=hI.3
   have c1:=X46 X8B (a0.take i.toNat)
   have c2:=X46 X8B (a0.drop (i.toNat+1))
   have c3:=X8B (a0.getD i.toNat ((0:Int),(0:Int)))
   have hmod:Int.tmod k 3=k % 3:=Yax (by omega)
   have no:X7C (a0.getD i.toNat ((0:Int),(0:Int))) k=false->-1=X89 a0 a1:=λho=>XrJ ((0:Int),(0:Int)) hI hi ho
   have yes:X7C (a0.getD i.toNat ((0:Int),(0:Int))) k=true->hdI X0B X7C a0 a1 (k+X0B (a0.getD i.toNat ((0:Int),(0:Int)))) (i+1):=λho=>Xii ((0:Int),(0:Int)) hI hi ho rfl
   generalize a0.getD i.toNat ((0:Int),(0:Int))=x at*
   have hc:X0B x=X0B x:=rfl
   conv at hc=>rhs;unfold X0B
   simp only[X7C]at no yes
   simp (disch:=omega) only[w64,pMT]
   repeat' (with_reducible (first | (refine And.intro ?_ ?_) | intro _))
   all_goals (first | omega | (unfold hdM;omega) | skip)
   all_goals (try simp (disch:=first | omega | assumption) only[X5a,X4U,w64,YaO]at*)
   all_goals (try simp (disch:=first | omega | assumption) only[X5a,X4U,w64,YaO]at*)
   all_goals (first | omega | grind)
def X1h.e:GE:=mE X6p func44 [3] [] [] (λi x=>X1h.L x.1 x.2) (λi x=>X1h.F x.1 x.2) λi x h _ hw=>X1h.p x.1 x.2 h hw
def Xh1(x:(Int×Int)):Nat:=0
def XeK(x:List (Int×Int))(left:Int):Prop:=WfD X7m x/\0<=left/\left<=1048576
def Xbg(x:List (Int×Int))(left:Int):Int:=fSz (List.length x) left
def X8K:Con:=cQ (.pair X7m (.int .i64)) [.one,.one] (.int .i64) [(false,1)] (λa=>(XeK a.1 a.2)) λa=>(Xbg a.1 a.2)
def X3V.F(a0:U9q)(a1:Int):Prop:=(X00 (decide ((wI (a1 - (ln a0)))<(0:Int))) (Eq ((-1),((),())) ((Xbg a0 a1),((),()))) (Eq ((wI (a1 - (ln a0))),((),())) ((Xbg a0 a1),((),()))))
theorem X3V.p(a0:U9q)(a1:Int)(h:(XeK a0 a1)):X3V.F a0 a1:=by
 delta X3V.F ln wI
 obtain⟨hwf,p1,p2⟩:=h
 have hw1:a0.length<=9223372036854775807:=hwf.1
 simp only[Bs,B0,B1,Yaa,X01,Xbg]
 rw[w64 (x:=a1 - (a0.length:Int)) (by omega) (by omega)]
 exact⟨λh1=>(XdQ (by omega)).symm,λh1=>(Xe4 (by omega)).symm⟩
def X3V.e:GE:=mE X8K func171 [3] [] [] noL (λi x=>X3V.F x.1 x.2) λi x h _ _=>X3V.p x.1 x.2 h
def Xek(x:(Int×Int)):Prop:=Xh1 x<=1048576
def Xet(x:(Int×Int)):(Int×Int):=x
def Xak:Con:=cQ T0q [.agg 2] T0q [(true,2)] (λa=>(Xek a)) λa=>(Xet a)
def X4B.F(a0:(Int×Int)):Prop:=(Eq ((a0.1,a0.2),((),())) ((Xet a0),((),())))
theorem X4B.p(a0:(Int×Int))(h:(Xek a0))(hw:Wf Xak.A a0):X4B.F a0:=by
 unfold X4B.F
 have hp:Xh1 a0<=1048576:=h
 simp only[Xh1]at hp
 simp only[Bs,B0,B1,Yaa,X01,Xh1,Xet,Xek]
 repeat' (with_reducible (first | (refine And.intro ?_ ?_) | intro _))
 all_goals (try simp (disch:=omega) only[w64,wu8,tn0,tn1,tm1,tm2,Yab,Yad,Yai]at*)
 all_goals (try simp (disch:=omega) only[w64,wu8,tn0,tn1,tm1,tm2,Yab,Yad,Yai]at*)
 all_goals (try omega)
 all_goals (try grind[])
def X4B.e:GE:=mE Xak func199 [107] [] [] noL (λi x=>X4B.F x) λi x h _ hw=>X4B.p x h hw
def XeN(x:List (Int×Int)):Prop:=List.length x<=1048576
def XcL(x:List (Int×Int)):List (Int×Int):=x
def X98:Con:=cW X7m [.one] X7m [(false,1)] [(0,107)] (λa=>(XeN a)) λa=>(XcL a)
def X2I.F(a0:U9q):Prop:=(0<=(ln a0)/\((ln a0)<=(ln a0)/\((ln a0)<=9223372036854775807/\(((16:Nat):Int)*(ln a0)<=140737488355328/\(eS [(0,.val false [.lst T0q a0 none]),(3,.val false [.own T0q 1000387])] [(0,.val false [.lst T0q a0 none]),(3,.val false [.own T0q 1000387])]/\((cpI ((0:Int),(0:Int)) a0 0 (List.replicate (tN (ln a0)) ((0:Int),(0:Int))))/\∀(y1:(Int×U9q)),(cpI ((0:Int),(0:Int)) a0 y1.1 y1.2)->(X00 (decide (y1.1<(ln a0))) (0<=y1.1/\(y1.1<(ln a0)/\((Xek ((List.getD a0 (tN y1.1) (0,0)).1,(List.getD a0 (tN y1.1) (0,0)).2))/\∀r2,(Eq r2 ((Xet ((List.getD a0 (tN y1.1) (0,0)).1,(List.getD a0 (tN y1.1) (0,0)).2)),((),())))->(0<=y1.1/\(y1.1<(ln y1.2)/\(eS [(0,.val false [.lst T0q a0 none]),(3,.val false [.own T0q 1000387])] [(0,.val false [.lst T0q a0 none]),(3,.val false [.own T0q 1000387])]/\(cpI ((0:Int),(0:Int)) a0 (wI (y1.1+(1:Int))) (List.set y1.2 (tN y1.1) (r2.1.1,r2.1.2)))/\(cpM a0 (wI (y1.1+(1:Int))) (List.set y1.2 (tN y1.1) (r2.1.1,r2.1.2)))<(cpM a0 y1.1 y1.2))))))) (Eq (y1.2,((),())) ((XcL a0),((),()))))))))))
def X2I.L(a0:U9q):Nat->Option X0e:=XLK [(58,⟨⟨[0,3],[4],[],[kC 3 0 1000387 107]⟩,Xof,λst y=>cpI ((0:Int),(0:Int)) a0 y.1 y.2,λst y=>cpM a0 y.1 y.2⟩)]
theorem X2I.p(a0:U9q)(h:(XeN a0)):X2I.F a0:=by
 delta X2I.F ln tN wI eS
 have hb:a0.length<=1048576:=by have h1:List.length a0<=1048576:=h;exact h1
 simp only[Bs,B0,B1,Yaa,X01,XcL]
 refine⟨by omega,by omega,by omega,by omega,⟨by omega,by omega,by simp⟩,?_⟩
 rintro⟨i,out⟩ hI
 simp only at hI ⊢
 refine⟨λhi=>?_,λhi=>Xmh hI hi⟩
 have hl:=Xmi hI
 have h3:=hI.2.1
 have h2:=hI.1
 have hp:Xek (a0.getD i.toNat ((0:Int),(0:Int))):=by
  have h1:List.length a0<=1048576:=h
  have hm:a0.getD i.toNat ((0:Int),(0:Int))∈a0:=X1a (by omega)
  show Xh1 _<=1048576
  simp[Xh1]
 rw[w64 (x:=i+1) (by omega) (by omega)]
 simp only[Xet,hl]
 exact⟨h2,hi,hp,h2,hi,Xim hI hi,by unfold cpM;omega⟩
def X2I.e:GE:=mE X98 func172 [91] [X4B.e] [] (λi x=>X2I.L x) (λi x=>X2I.F x) λi x h _ _=>X2I.p x h
instance dec_Point:DecidableEq (Int×Int):=by(iterate 20 (all_goals (first | infer_instance | refine @instDecidableEqProd _ _ ?_ ?_)))
def Xaw(a b:(Int×Int)):Bool:=decide (a=b)
def Xad:Con:=cQ (.pair T0q T0q) [.agg 2,.agg 2] .bool [(false,1)] (λ_=>True) λa=>(Xaw a.1 a.2)
def X4k.F(a0:(Int×Int))(a1:(Int×Int)):Prop:=(X00 (a0.1 !=a1.1) (Eq (false,((),())) ((Xaw a0 a1),((),()))) (X00 (a0.2 !=a1.2) (Eq (false,((),())) ((Xaw a0 a1),((),()))) (Eq (true,((),())) ((Xaw a0 a1),((),())))))
theorem X4k.p(a0:(Int×Int))(a1:(Int×Int))(h:True):X4k.F a0 a1:=by
 unfold X4k.F
 obtain⟨x1,x2⟩:=a0
 obtain⟨y1,y2⟩:=a1
 simp only[Bs,B0,B1,Yaa,X01,Xaw]
 repeat' (first | (refine And.intro ?_ ?_) | intro _)
 all_goals simp_all
def X4k.e:GE:=mE Xad func200 [4] [] [] noL (λi x=>X4k.F x.1 x.2) λi x h _ _=>X4k.p x.1 x.2 h
def X7c(a b:List (Int×Int)):Bool:=decide (a=b)
def X8U:Con:=cQ (.pair X7m X7m) [.one,.one] .bool [(false,1)] (λ_=>True) λa=>(X7c a.1 a.2)
def X2L.F(a0:U9q)(a1:U9q):Prop:=(X00 ((ln a0)!=(ln a1)) (Eq (false,((),())) ((X7c a0 a1),((),()))) (eS [(0,.val false [.lst T0q a0 none]),(1,.val false [.lst T0q a1 none])] [(0,.val false [.lst T0q a0 none]),(1,.val false [.lst T0q a1 none])]/\((Xjc a0 a1 0)/\∀(y1:Int),(Xjc a0 a1 y1)->(X00 (decide (y1<(ln a0))) (0<=y1/\(y1<(ln a0)/\(0<=y1/\(y1<(ln a1)/\(True/\∀r2,(Eq r2 ((Xaw ((List.getD a0 (tN y1) (0,0)).1,(List.getD a0 (tN y1) (0,0)).2) ((List.getD a1 (tN y1) (0,0)).1,(List.getD a1 (tN y1) (0,0)).2)),((),())))->(X00 (!r2.1) (Eq (false,((),())) ((X7c a0 a1),((),()))) (eS [(0,.val false [.lst T0q a0 none]),(1,.val false [.lst T0q a1 none])] [(0,.val false [.lst T0q a0 none]),(1,.val false [.lst T0q a1 none])]/\(Xjc a0 a1 (wI (y1+(1:Int))))/\(Xkc a0 a1 (wI (y1+(1:Int))))<(Xkc a0 a1 y1)))))))) (Eq (true,((),())) ((X7c a0 a1),((),())))))))
def X2L.L(a0:U9q)(a1:U9q):Nat->Option X0e:=XLK [(58,⟨⟨[0,1],[5],[],[]⟩,(.int .i64),λst y=>Xjc a0 a1 y,λst y=>Xkc a0 a1 y⟩)]
theorem X2L.p(a0:U9q)(a1:U9q)(h:True)(hw:Wf X8U.A (a0,a1)):X2L.F a0 a1:=by
 delta X2L.F ln tN wI eS
 have hw1:a0.length<=9223372036854775807:=hw.1.1
 simp only[Bs,B0,B1,Yaa,X01]
 refine⟨λh1=>?_,λh1=>?_⟩
 . have:a0≠a1:=λe=>by subst e;simp at h1
   simp[X7c,this]
 have hl:a0.length=a1.length:=by omega
 refine⟨⟨by omega,by omega,hl,by simp⟩,?_⟩
 rintro i hI
 have h2:=hI.1
 have h3:=hI.2.1
 refine⟨λhi=>⟨h2,hi,h2,by omega,λhne=>?_,λhe=>?_⟩,λhi=>?_⟩
 . have:a0≠a1:=λe=>by subst e;simp[Xaw]at hne
   simp[X7c,this]
 . have hg:a0.getD i.toNat ((0:Int),(0:Int))=a1.getD i.toNat ((0:Int),(0:Int)):=by simpa only[Xaw,Yaj] using he
   rw[w64 (x:=i+1) (by omega) (by omega)]
   exact⟨XfG hI hi hg,by unfold Xkc;omega⟩
 . have h6:=XiV hI hi
   simp[X7c,h6]
def X2L.e:GE:=mE X8U func173 [4] [X4k.e] [] (λi x=>X2L.L x.1 x.2) (λi x=>X2L.F x.1 x.2) λi x h _ hw=>X2L.p x.1 x.2 h hw
def X1u(x:(Int×Int)):Int:=1+1
def Xct(x:(Int×Int))(k:Int):(Int×Int):=(k,(k+1))
def XaH(x:(Int×Int))(k:Int):Bool:=(decide (x.1=k))&&(decide (x.2=(k+1)))
theorem Xpb:∀(x:(Int×Int)) (k:Int),XaH (Xct x k) k=true/\X1u (Xct x k)=X1u x:=λx k=>by
 simp[XaH,Xct,X1u]
theorem X9s:∀x:(Int×Int),0<=X1u x:=λx=>by
 unfold X1u;omega
def X8r(l:List (Int×Int))(k:Int):Prop:=0<=k/\k+cL X1u l<=4611686018427387904
def X9L(l:List (Int×Int))(k:Int):Int×List (Int×Int):=(k+cL X1u l,mL X1u Xct l k)
def X7e:Con:={A:=(.pair X7m (.int .i64)),shA:=[.one,.one],backA:=[(0,107)],B:=X7m,R:=(.int .i64),shR:=[(false,1)],pre:=λ_ a=>(X8r a.1 a.2),f:=some λ_ a=>((X9L a.1 a.2).1,((),(X9L a.1 a.2).2))}
def X1Q.F(a0:U9q)(a1:Int):Prop:=(eS [(0,.val false [.own T0q 2])] [(0,.val false [.own T0q 2])]/\((mkI X1u Xct a0 a1 a1 0 a0)/\∀(y1:(Int×(Int×U9q))),(mkI X1u Xct a0 a1 y1.1 y1.2.1 y1.2.2)->(X00 (decide (y1.2.1<(ln y1.2.2))) (0<=y1.2.1/\(y1.2.1<(ln y1.2.2)/\(0<=y1.2.1/\(y1.2.1<(ln (List.set y1.2.2 (tN y1.2.1) (y1.1,(List.getD y1.2.2 (tN y1.2.1) (0,0)).2)))/\(eS [(0,.val false [.own T0q 2])] [(0,.val false [.own T0q 2])]/\(mkI X1u Xct a0 a1 (wI ((wI (y1.1+(1:Int)))+(1:Int))) (wI (y1.2.1+(1:Int))) (List.set (List.set y1.2.2 (tN y1.2.1) (y1.1,(List.getD y1.2.2 (tN y1.2.1) (0,0)).2)) (tN y1.2.1) ((List.getD (List.set y1.2.2 (tN y1.2.1) (y1.1,(List.getD y1.2.2 (tN y1.2.1) (0,0)).2)) (tN y1.2.1) (0,0)).1,(wI (y1.1+(1:Int))))))/\(mkM a0 a1 (wI ((wI (y1.1+(1:Int)))+(1:Int))) (wI (y1.2.1+(1:Int))) (List.set (List.set y1.2.2 (tN y1.2.1) (y1.1,(List.getD y1.2.2 (tN y1.2.1) (0,0)).2)) (tN y1.2.1) ((List.getD (List.set y1.2.2 (tN y1.2.1) (y1.1,(List.getD y1.2.2 (tN y1.2.1) (0,0)).2)) (tN y1.2.1) (0,0)).1,(wI (y1.1+(1:Int))))))<(mkM a0 a1 y1.1 y1.2.1 y1.2.2)))))) (Eq (y1.1,((),y1.2.2)) ((X9L a0 a1).1,((),(X9L a0 a1).2))))))
def X1Q.L(a0:U9q)(a1:Int):Nat->Option X0e:=XLK [(26,⟨⟨[0],[1,5],[],[kC 0 0 2 107]⟩,(.pair (.int .i64) Xof),λst y=>mkI X1u Xct a0 a1 y.1 y.2.1 y.2.2,λst y=>mkM a0 a1 y.1 y.2.1 y.2.2⟩)]
theorem X1Q.p(a0:U9q)(a1:Int)(h:(X8r a0 a1))(hw:Wf X7e.A (a0,a1)):X1Q.F a0 a1:=by
 delta X1Q.F ln tN wI eS
 obtain⟨p1,p2⟩:=h
 have hw1:a0.length<=9223372036854775807:=hw.1.1
 simp only[Bs,B0,B1,Yaa,X01]
 refine⟨⟨by omega,by omega,by simp[cL],by simp[mL]⟩,?_⟩
 rintro⟨k,i,l⟩ hI
 simp only at hI ⊢
 have hl:=XmL hI
 have h2:=hI.1
 have h3:=hI.2
 refine⟨λhi0=>?_,λhi0=>?_⟩
 . have hi:i<(a0.length:Int):=by omega
   have hi':i.toNat<l.length:=by omega
   have hg:=XrO (d:=((0:Int),(0:Int))) hI hi
   have hs:=X5i X1u ((0:Int),(0:Int)) (l:=a0) (i:=i.toNat) (by omega)
   have hk:=hI.3
   have c1:=X46 X9s (a0.take i.toNat)
   have c2:=X46 X9s (a0.drop (i.toNat+1))
   have c3:=X9s (a0.getD i.toNat ((0:Int),(0:Int)))
   have hmod:Int.tmod k 3=k % 3:=Yax (by omega)
   have hc:X1u (a0.getD i.toNat ((0:Int),(0:Int)))=X1u (a0.getD i.toNat ((0:Int),(0:Int))):=rfl
   conv at hc=>rhs;unfold X1u
   try simp only[hg,X22 hi',YbB,YaV]
   try simp (disch:=first | omega | simp_all) only[X22,YbB,YaV,hg,w64,pMT]
   repeat' (with_reducible (first | (refine And.intro ?_ ?_) | intro _))
   all_goals (try simp+zetaDelta (disch:=first | omega | simp_all) only[hg,X22,YbB,YaV,w64,pMT])
   all_goals (first | omega | exact Xi7 (d:=((0:Int),(0:Int))) hI hi (by simp (disch:=omega) [Xct,hmod,Yax]<;>rfl) (by omega) | (unfold mkM;omega) | skip)
 . obtain⟨e1,e2⟩:=Xna hI (by omega)
   exact⟨e1,e2⟩
def X1Q.e:GE:=mE X7e func131 [3] [] [] (λi x=>X1Q.L x.1 x.2) (λi x=>X1Q.F x.1 x.2) λi x h _ hw=>X1Q.p x.1 x.2 h hw
def X9P(l:List (Int×Int))(k:Int):Int:=fHd (cL X1u l) (oL X1u XaH l k) k
def X76:Con:=cQ (.pair X7m (.int .i64)) [.one,.one] (.int .i64) [(false,1)] (λa=>(X8r a.1 a.2)) λa=>(X9P a.1 a.2)
def X1P.F(a0:U9q)(a1:Int):Prop:=(eS [(0,.val false [.lst T0q a0 none])] [(0,.val false [.lst T0q a0 none])]/\((hdI X1u XaH a0 a1 a1 0)/\∀(y1:(Int×Int)),(hdI X1u XaH a0 a1 y1.1 y1.2)->(X00 (decide (y1.2<(ln a0))) (0<=y1.2/\(y1.2<(ln a0)/\(X00 (((List.getD a0 (tN y1.2) (0,0)).1)!=y1.1) (Eq ((-1),((),())) ((X9P a0 a1),((),()))) (0<=y1.2/\(y1.2<(ln a0)/\(X00 (((List.getD a0 (tN y1.2) (0,0)).2)!=(wI (y1.1+(1:Int)))) (Eq ((-1),((),())) ((X9P a0 a1),((),()))) (eS [(0,.val false [.lst T0q a0 none])] [(0,.val false [.lst T0q a0 none])]/\(hdI X1u XaH a0 a1 (wI ((wI (y1.1+(1:Int)))+(1:Int))) (wI (y1.2+(1:Int))))/\(hdM a0 a1 (wI ((wI (y1.1+(1:Int)))+(1:Int))) (wI (y1.2+(1:Int))))<(hdM a0 a1 y1.1 y1.2)))))))) (Eq (y1.1,((),())) ((X9P a0 a1),((),()))))))
def X1P.L(a0:U9q)(a1:Int):Nat->Option X0e:=XLK [(26,⟨⟨[0],[1,5],[],[]⟩,T0q,λst y=>hdI X1u XaH a0 a1 y.1 y.2,λst y=>hdM a0 a1 y.1 y.2⟩)]
theorem X1P.p(a0:U9q)(a1:Int)(h:(X8r a0 a1))(hw:Wf X76.A (a0,a1)):X1P.F a0 a1:=by
 delta X1P.F ln tN wI eS
 obtain⟨p1,p2⟩:=h
 have hw1:a0.length<=9223372036854775807:=hw.1.1
 simp only[Bs,B0,B1,Yaa,X01]
 refine⟨⟨by omega,by omega,by simp[cL],by simp⟩,?_⟩
 rintro⟨k,i⟩ hI
 simp only at hI ⊢
 have h2:=hI.1
 have h3:=hI.2
 refine⟨λhi=>?_,λhi=>Xnj hI hi⟩
 . have hs:=X5i X1u ((0:Int),(0:Int)) (l:=a0) (i:=i.toNat) (by omega)
   have hk:=hI.3
   have c1:=X46 X9s (a0.take i.toNat)
   have c2:=X46 X9s (a0.drop (i.toNat+1))
   have c3:=X9s (a0.getD i.toNat ((0:Int),(0:Int)))
   have hmod:Int.tmod k 3=k % 3:=Yax (by omega)
   have no:XaH (a0.getD i.toNat ((0:Int),(0:Int))) k=false->-1=X9P a0 a1:=λho=>XrJ ((0:Int),(0:Int)) hI hi ho
   have yes:XaH (a0.getD i.toNat ((0:Int),(0:Int))) k=true->hdI X1u XaH a0 a1 (k+X1u (a0.getD i.toNat ((0:Int),(0:Int)))) (i+1):=λho=>Xii ((0:Int),(0:Int)) hI hi ho rfl
   generalize a0.getD i.toNat ((0:Int),(0:Int))=x at*
   have hc:X1u x=X1u x:=rfl
   conv at hc=>rhs;unfold X1u
   simp only[XaH]at no yes
   simp (disch:=omega) only[w64,pMT]
   repeat' (with_reducible (first | (refine And.intro ?_ ?_) | intro _))
   all_goals (first | omega | (unfold hdM;omega) | skip)
   all_goals (try simp (disch:=first | omega | assumption) only[X5a,X4U,w64,YaO]at*)
   all_goals (try simp (disch:=first | omega | assumption) only[X5a,X4U,w64,YaO]at*)
   all_goals (first | omega | grind)
def X1P.e:GE:=mE X76 func132 [3] [] [] (λi x=>X1P.L x.1 x.2) (λi x=>X1P.F x.1 x.2) λi x h _ hw=>X1P.p x.1 x.2 h hw
def X35(x:U3q):Nat:=(x.1.length)+(List.length x.2)
def XgZ(x:U3q)(left:Int):Prop:=WfD T5q x/\0<=left/\left<=1048576
def X9N(x:U3q)(left:Int):Int:=fSz (X35 x) left
def X8Z:Con:=cQ (.pair T5q (.int .i64)) [.agg 2,.one] (.int .i64) [(false,1)] (λa=>(XgZ a.1 a.2)) λa=>(X9N a.1 a.2)
def X3w.F(a0:U3q)(a1:Int):Prop:=(X00 (decide ((wI (a1 - (ln a0.1)))<(0:Int))) (Eq ((-1),((),())) ((X9N a0 a1),((),()))) ((XeK a0.2 (wI (a1 - (ln a0.1))))/\∀r1,(Eq r1 ((Xbg a0.2 (wI (a1 - (ln a0.1)))),((),())))->(X00 (decide (r1.1<(0:Int))) (Eq ((-1),((),())) ((X9N a0 a1),((),()))) (Eq (r1.1,((),())) ((X9N a0 a1),((),()))))))
theorem X3w.p(a0:U3q)(a1:Int)(h:(XgZ a0 a1))(hw:Wf X8Z.A (a0,a1)):X3w.F a0 a1:=by
 delta X3w.F ln wI
 obtain⟨hwf,p1,p2⟩:=h
 have w0:a0.1.length<=9223372036854775807:=hwf.1
 have w1:WfD X7m a0.2:=hwf.2
 simp only[Bs,B0,B1,Yaa,X01,X35,X9N,XeK,Xbg]
 repeat' (with_reducible (first | (refine And.intro ?_ ?_) | intro _))
 all_goals (try simp (disch:=omega) only[w64,wu8,tn0,tn1,tm1,tm2,Yab,Yad,Yai]at*)
 all_goals (try simp (disch:=omega) only[w64,wu8,tn0,tn1,tm1,tm2,Yab,Yad,Yai]at*)
 all_goals (try omega)
 all_goals (try grind[fSz])
def X3w.e:GE:=mE X8Z func126 [3] [X3V.e] [] noL (λi x=>X3w.F x.1 x.2) λi x h _ hw=>X3w.p x.1 x.2 h hw
def XdL(x:List U3q)(left:Int):Prop:=WfD X5m x/\0<=left/\left<=1048576
def X8f(x:List U3q)(left:Int):Int:=fSz (nL X35 x) left
def X84:Con:=cQ (.pair X5m (.int .i64)) [.one,.one] (.int .i64) [(false,1)] (λa=>(XdL a.1 a.2)) λa=>(X8f a.1 a.2)
def X2h.F(a0:(List U3q))(a1:Int):Prop:=(X00 (decide ((wI (a1 - (ln a0)))<(0:Int))) (Eq ((-1),((),())) ((X8f a0 a1),((),()))) (eS [(0,.val false [.lst T5q a0 none])] [(0,.val false [.lst T5q a0 none])]/\((Xqy X35 a0 a1 (wI (a1 - (ln a0))) 0)/\∀(y1:(Int×Int)),(Xqy X35 a0 a1 y1.1 y1.2)->(X00 (decide (y1.2<(ln a0))) (0<=y1.2/\(y1.2<(ln a0)/\((XgZ ((List.getD a0 (tN y1.2) ([],[])).1,(List.getD a0 (tN y1.2) ([],[])).2) y1.1)/\∀r2,(Eq r2 ((X9N ((List.getD a0 (tN y1.2) ([],[])).1,(List.getD a0 (tN y1.2) ([],[])).2) y1.1),((),())))->(X00 (decide (r2.1<(0:Int))) (Eq ((-1),((),())) ((X8f a0 a1),((),()))) (eS [(0,.val false [.lst T5q a0 none])] [(0,.val false [.lst T5q a0 none])]/\(Xqy X35 a0 a1 r2.1 (wI (y1.2+(1:Int))))/\(Xqu a0 a1 r2.1 (wI (y1.2+(1:Int))))<(Xqu a0 a1 y1.1 y1.2)))))) (Eq (y1.1,((),())) ((X8f a0 a1),((),())))))))
def X2h.L(a0:(List U3q))(a1:Int):Nat->Option X0e:=XLK [(122,⟨⟨[0],[1,5],[],[]⟩,T0q,λst y=>Xqy X35 a0 a1 y.1 y.2,λst y=>Xqu a0 a1 y.1 y.2⟩)]
theorem X2h.p(a0:(List U3q))(a1:Int)(h:(XdL a0 a1)):X2h.F a0 a1:=by
 delta X2h.F ln tN wI eS
 obtain⟨hwf,p1,p2⟩:=h
 have hw1:a0.length<=9223372036854775807:=hwf.1
 simp only[Bs,B0,B1,Yaa,X01,X8f]
 rw[w64 (x:=a1 - (a0.length:Int)) (by omega) (by omega)]
 refine⟨λh1=>(XdQ (by unfold nL;omega)).symm,λh1=>⟨⟨by omega,by omega,by omega,by rw[show Int.toNat 0=0 from rfl,Xji];omega⟩,?_⟩⟩
 rintro⟨left,i⟩ ⟨h2,h3,h4,h5⟩
 simp only at h2 h3 h4 h5 ⊢
 refine⟨λhi=>?_,λhi=>?_⟩
 . have hm:a0.getD i.toNat (([]:U6q),([]:U9q))∈a0:=X1a (by omega)
   have s1:=Xip X35 a0 (([]:U6q),([]:U9q)) (i:=i.toNat) (by omega)
   have s2:=Xoa X35 a0 (i.toNat+1)
   have hwx:WfD T5q (a0.getD i.toNat (([]:U6q),([]:U9q))):=hwf.2 _ hm
   rw[w64 (x:=i+1) (by omega) (by omega)]
   simp only[X9N]
   by_cases hc:left<(X35 (a0.getD i.toNat (([]:U6q),([]:U9q))):Int)
   . rw[XdQ hc]
     exact⟨h2,hi,⟨hwx,h4,by omega⟩,λh6=>(XdQ (by unfold nL;omega)).symm,λh6=>absurd (by decide) h6⟩
   . rw[Xe4 hc]
     exact⟨h2,hi,⟨hwx,h4,by omega⟩,λh6=>by omega,λh6=>⟨⟨by omega,by omega,by omega,by rw[tn1 h2];omega⟩,by unfold Xqu;omega⟩⟩
 . have e:i.toNat=a0.length:=by omega
   rw[e]at h5
   rw[Xe4 (by unfold nL;omega)]
   unfold nL;omega
def X2h.e:GE:=mE X84 func71 [3] [X3w.e] [] (λi x=>X2h.L x.1 x.2) (λi x=>X2h.F x.1 x.2) λi x h _ _=>X2h.p x.1 x.2 h
def XcW(x:U3q):Prop:=X35 x<=1048576
def Xcz(x:U3q):U3q:=x
def X8P:Con:=cW T5q [.agg 2] T5q [(true,2)] [(1,107)] (λa=>(XcW a)) λa=>(Xcz a)
def X3F.F(a0:U3q):Prop:=((XeN a0.2)/\∀r1,(Eq r1 ((XcL a0.2),((),())))->(Eq ((a0.1,r1.1),((),())) ((Xcz a0),((),()))))
theorem X3F.p(a0:U3q)(h:(XcW a0))(hw:Wf X8P.A a0):X3F.F a0:=by
 unfold X3F.F
 have hp:X35 a0<=1048576:=h
 simp only[X35]at hp
 simp only[Bs,B0,B1,Yaa,X01,X35,Xcz,XcW,XeN,XcL]
 repeat' (with_reducible (first | (refine And.intro ?_ ?_) | intro _))
 all_goals (try simp (disch:=omega) only[w64,wu8,tn0,tn1,tm1,tm2,Yab,Yad,Yai]at*)
 all_goals (try simp (disch:=omega) only[w64,wu8,tn0,tn1,tm1,tm2,Yab,Yad,Yai]at*)
 all_goals (try omega)
 all_goals (try grind[])
def X3F.e:GE:=mE X8P func128 [109] [X2I.e] [] noL (λi x=>X3F.F x) λi x h _ hw=>X3F.p x h hw
def Xde(x:List U3q):Prop:=nL X35 x<=1048576
def Xbx(x:List U3q):List U3q:=x
def X7U:Con:=cW X5m [.one] X5m [(false,1)] [(0,109)] (λa=>(Xde a)) λa=>(Xbx a)
def X2p.F(a0:(List U3q)):Prop:=(0<=(ln a0)/\((ln a0)<=(ln a0)/\((ln a0)<=9223372036854775807/\(((40:Nat):Int)*(ln a0)<=140737488355328/\(eS [(0,.val false [.lst T5q a0 none]),(3,.val false [.own T5q 1000387])] [(0,.val false [.lst T5q a0 none]),(3,.val false [.own T5q 1000387])]/\((cpI (([]:U6q),([]:U9q)) a0 0 (List.replicate (tN (ln a0)) (([]:U6q),([]:U9q))))/\∀(y1:(Int×(List U3q))),(cpI (([]:U6q),([]:U9q)) a0 y1.1 y1.2)->(X00 (decide (y1.1<(ln a0))) (0<=y1.1/\(y1.1<(ln a0)/\((XcW ((List.getD a0 (tN y1.1) ([],[])).1,(List.getD a0 (tN y1.1) ([],[])).2))/\∀r2,(Eq r2 ((Xcz ((List.getD a0 (tN y1.1) ([],[])).1,(List.getD a0 (tN y1.1) ([],[])).2)),((),())))->(0<=y1.1/\(y1.1<(ln y1.2)/\(eS [(0,.val false [.lst T5q a0 none]),(3,.val false [.own T5q 1000387])] [(0,.val false [.lst T5q a0 none]),(3,.val false [.own T5q 1000387])]/\(cpI (([]:U6q),([]:U9q)) a0 (wI (y1.1+(1:Int))) (List.set y1.2 (tN y1.1) (r2.1.1,r2.1.2)))/\(cpM a0 (wI (y1.1+(1:Int))) (List.set y1.2 (tN y1.1) (r2.1.1,r2.1.2)))<(cpM a0 y1.1 y1.2))))))) (Eq (y1.2,((),())) ((Xbx a0),((),()))))))))))
def X2p.L(a0:(List U3q)):Nat->Option X0e:=XLK [(58,⟨⟨[0,3],[4],[],[kC 3 0 1000387 109]⟩,(.pair (.int .i64) X5m),λst y=>cpI (([]:U6q),([]:U9q)) a0 y.1 y.2,λst y=>cpM a0 y.1 y.2⟩)]
theorem X2p.p(a0:(List U3q))(h:(Xde a0)):X2p.F a0:=by
 delta X2p.F ln tN wI eS
 have hb:a0.length<=1048576:=by have h1:nL X35 a0<=1048576:=h;unfold nL at h1;omega
 simp only[Bs,B0,B1,Yaa,X01,Xbx]
 refine⟨by omega,by omega,by omega,by omega,⟨by omega,by omega,by simp⟩,?_⟩
 rintro⟨i,out⟩ hI
 simp only at hI ⊢
 refine⟨λhi=>?_,λhi=>Xmh hI hi⟩
 have hl:=Xmi hI
 have h3:=hI.2.1
 have h2:=hI.1
 have hp:XcW (a0.getD i.toNat (([]:U6q),([]:U9q))):=by
  have h1:nL X35 a0<=1048576:=h
  have hm:a0.getD i.toNat (([]:U6q),([]:U9q))∈a0:=X1a (by omega)
  show X35 _<=1048576
  have:=Xup X35 hm;omega
 rw[w64 (x:=i+1) (by omega) (by omega)]
 simp only[Xcz,hl]
 exact⟨h2,hi,hp,h2,hi,Xim hI hi,by unfold cpM;omega⟩
def X2p.e:GE:=mE X7U func75 [25] [X3F.e] [] (λi x=>X2p.L x) (λi x=>X2p.F x) λi x h _ _=>X2p.p x h
instance dec_Series:DecidableEq U3q:=by(iterate 20 (all_goals (first | infer_instance | refine @instDecidableEqProd _ _ ?_ ?_)))
def X8n(a b:U3q):Bool:=decide (a=b)
def X8G:Con:=cQ (.pair T5q T5q) [.agg 2,.agg 2] .bool [(false,1)] (λ_=>True) λa=>(X8n a.1 a.2)
def X3E.F(a0:U3q)(a1:U3q):Prop:=(X00 (!(a0.1==a1.1)) (Eq (false,((),())) ((X8n a0 a1),((),()))) (True/\∀r1,(Eq r1 ((X7c a0.2 a1.2),((),())))->(X00 (!r1.1) (Eq (false,((),())) ((X8n a0 a1),((),()))) (Eq (true,((),())) ((X8n a0 a1),((),()))))))
theorem X3E.p(a0:U3q)(a1:U3q)(h:True):X3E.F a0 a1:=by
 unfold X3E.F
 obtain⟨x1,x2⟩:=a0
 obtain⟨y1,y2⟩:=a1
 simp only[Bs,B0,B1,Yaa,X01,X8n,X7c]
 repeat' (first | (refine And.intro ?_ ?_) | intro _)
 all_goals simp_all
def X3E.e:GE:=mE X8G func130 [4] [X2L.e] [] noL (λi x=>X3E.F x.1 x.2) λi x h _ _=>X3E.p x.1 x.2 h
def X5Q(a b:List U3q):Bool:=decide (a=b)
def X7B:Con:=cQ (.pair X5m X5m) [.one,.one] .bool [(false,1)] (λ_=>True) λa=>(X5Q a.1 a.2)
def X2k.F(a0:(List U3q))(a1:(List U3q)):Prop:=(X00 ((ln a0)!=(ln a1)) (Eq (false,((),())) ((X5Q a0 a1),((),()))) (eS [(0,.val false [.lst T5q a0 none]),(1,.val false [.lst T5q a1 none])] [(0,.val false [.lst T5q a0 none]),(1,.val false [.lst T5q a1 none])]/\((Xjc a0 a1 0)/\∀(y1:Int),(Xjc a0 a1 y1)->(X00 (decide (y1<(ln a0))) (0<=y1/\(y1<(ln a0)/\(0<=y1/\(y1<(ln a1)/\(True/\∀r2,(Eq r2 ((X8n ((List.getD a0 (tN y1) ([],[])).1,(List.getD a0 (tN y1) ([],[])).2) ((List.getD a1 (tN y1) ([],[])).1,(List.getD a1 (tN y1) ([],[])).2)),((),())))->(X00 (!r2.1) (Eq (false,((),())) ((X5Q a0 a1),((),()))) (eS [(0,.val false [.lst T5q a0 none]),(1,.val false [.lst T5q a1 none])] [(0,.val false [.lst T5q a0 none]),(1,.val false [.lst T5q a1 none])]/\(Xjc a0 a1 (wI (y1+(1:Int))))/\(Xkc a0 a1 (wI (y1+(1:Int))))<(Xkc a0 a1 y1)))))))) (Eq (true,((),())) ((X5Q a0 a1),((),())))))))
def X2k.L(a0:(List U3q))(a1:(List U3q)):Nat->Option X0e:=XLK [(58,⟨⟨[0,1],[5],[],[]⟩,(.int .i64),λst y=>Xjc a0 a1 y,λst y=>Xkc a0 a1 y⟩)]
theorem X2k.p(a0:(List U3q))(a1:(List U3q))(h:True)(hw:Wf X7B.A (a0,a1)):X2k.F a0 a1:=by
 delta X2k.F ln tN wI eS
 have hw1:a0.length<=9223372036854775807:=hw.1.1
 simp only[Bs,B0,B1,Yaa,X01]
 refine⟨λh1=>?_,λh1=>?_⟩
 . have:a0≠a1:=λe=>by subst e;simp at h1
   simp[X5Q,this]
 have hl:a0.length=a1.length:=by omega
 refine⟨⟨by omega,by omega,hl,by simp⟩,?_⟩
 rintro i hI
 have h2:=hI.1
 have h3:=hI.2.1
 refine⟨λhi=>⟨h2,hi,h2,by omega,λhne=>?_,λhe=>?_⟩,λhi=>?_⟩
 . have:a0≠a1:=λe=>by subst e;simp[X8n]at hne
   simp[X5Q,this]
 . have hg:a0.getD i.toNat (([]:U6q),([]:U9q))=a1.getD i.toNat (([]:U6q),([]:U9q)):=by simpa only[X8n,Yaj] using he
   rw[w64 (x:=i+1) (by omega) (by omega)]
   exact⟨XfG hI hi hg,by unfold Xkc;omega⟩
 . have h6:=XiV hI hi
   simp[X5Q,h6]
def X2k.e:GE:=mE X7B func79 [4] [X3E.e] [] (λi x=>X2k.L x.1 x.2) (λi x=>X2k.F x.1 x.2) λi x h _ hw=>X2k.p x.1 x.2 h hw
def X0v(x:U3q):Int:=1+cL X1u x.2
def X87(x:U3q)(k:Int):U3q:=((fMT k),(mL X1u Xct x.2 (k+1)))
def X71(x:U3q)(k:Int):Bool:=(decide (x.1=fMT k))&&(oL X1u XaH x.2 (k+1))
theorem XmU:∀(x:U3q) (k:Int),X71 (X87 x k) k=true/\X0v (X87 x k)=X0v x:=λx k=>by
 simp[X71,X87,X0v,(Xja Xpb _ _).1,(Xja Xpb _ _).2]
theorem X6b:∀x:U3q,0<=X0v x:=λx=>by
 have p0:=λl=>X46 X9s l
 have q0:=p0 x.2
 unfold X0v;omega
def X6O(l:List U3q)(k:Int):Prop:=0<=k/\k+cL X0v l<=4611686018427387904
def X8c(l:List U3q)(k:Int):Int×List U3q:=(k+cL X0v l,mL X0v X87 l k)
def X6j:Con:={A:=(.pair X5m (.int .i64)),shA:=[.one,.one],backA:=[(0,109)],B:=X5m,R:=(.int .i64),shR:=[(false,1)],pre:=λ_ a=>(X6O a.1 a.2),f:=some λ_ a=>((X8c a.1 a.2).1,((),(X8c a.1 a.2).2))}
def X1f.F(a0:(List U3q))(a1:Int):Prop:=(eS [(0,.val false [.own T5q 2])] [(0,.val false [.own T5q 2])]/\((mkI X0v X87 a0 a1 a1 0 a0)/\∀(y1:(Int×(Int×(List U3q)))),(mkI X0v X87 a0 a1 y1.1 y1.2.1 y1.2.2)->(X00 (decide (y1.2.1<(ln y1.2.2))) ((pMT y1.1)/\∀r2,(Eq r2 ((fMT y1.1),((),())))->(0<=y1.2.1/\(y1.2.1<(ln y1.2.2)/\(0<=y1.2.1/\(y1.2.1<(ln (List.set y1.2.2 (tN y1.2.1) (r2.1,(List.getD y1.2.2 (tN y1.2.1) ([],[])).2)))/\((X8r ((List.getD (List.set y1.2.2 (tN y1.2.1) (r2.1,(List.getD y1.2.2 (tN y1.2.1) ([],[])).2)) (tN y1.2.1) ([],[])).2) (wI (y1.1+(1:Int))))/\∀r3,(Eq r3 ((X9L ((List.getD (List.set y1.2.2 (tN y1.2.1) (r2.1,(List.getD y1.2.2 (tN y1.2.1) ([],[])).2)) (tN y1.2.1) ([],[])).2) (wI (y1.1+(1:Int)))).1,((),(X9L ((List.getD (List.set y1.2.2 (tN y1.2.1) (r2.1,(List.getD y1.2.2 (tN y1.2.1) ([],[])).2)) (tN y1.2.1) ([],[])).2) (wI (y1.1+(1:Int)))).2)))->(eS [(0,.val false [.own T5q 2])] [(0,.val false [.own T5q 2])]/\(mkI X0v X87 a0 a1 r3.1 (wI (y1.2.1+(1:Int))) (List.set (List.set y1.2.2 (tN y1.2.1) (r2.1,(List.getD y1.2.2 (tN y1.2.1) ([],[])).2)) (tN y1.2.1) ((List.getD (List.set y1.2.2 (tN y1.2.1) (r2.1,(List.getD y1.2.2 (tN y1.2.1) ([],[])).2)) (tN y1.2.1) ([],[])).1,r3.2.2)))/\(mkM a0 a1 r3.1 (wI (y1.2.1+(1:Int))) (List.set (List.set y1.2.2 (tN y1.2.1) (r2.1,(List.getD y1.2.2 (tN y1.2.1) ([],[])).2)) (tN y1.2.1) ((List.getD (List.set y1.2.2 (tN y1.2.1) (r2.1,(List.getD y1.2.2 (tN y1.2.1) ([],[])).2)) (tN y1.2.1) ([],[])).1,r3.2.2)))<(mkM a0 a1 y1.1 y1.2.1 y1.2.2)))))))) (Eq (y1.1,((),y1.2.2)) ((X8c a0 a1).1,((),(X8c a0 a1).2))))))
def X1f.L(a0:(List U3q))(a1:Int):Nat->Option X0e:=XLK [(26,⟨⟨[0],[1,5],[],[kC 0 0 2 109]⟩,(.pair (.int .i64) (.pair (.int .i64) X5m)),λst y=>mkI X0v X87 a0 a1 y.1 y.2.1 y.2.2,λst y=>mkM a0 a1 y.1 y.2.1 y.2.2⟩)]
theorem X1f.p(a0:(List U3q))(a1:Int)(h:(X6O a0 a1))(hw:Wf X6j.A (a0,a1)):X1f.F a0 a1:=by
 delta X1f.F ln tN wI eS
 obtain⟨p1,p2⟩:=h
 have hw1:a0.length<=9223372036854775807:=hw.1.1
 simp only[Bs,B0,B1,Yaa,X01]
 refine⟨⟨by omega,by omega,by simp[cL],by simp[mL]⟩,?_⟩
 rintro⟨k,i,l⟩ hI
 simp only at hI ⊢
 have hl:=XmL hI
 have h2:=hI.1
 have h3:=hI.2
 refine⟨λhi0=>?_,λhi0=>?_⟩
 . have hi:i<(a0.length:Int):=by omega
   have hi':i.toNat<l.length:=by omega
   have hg:=XrO (d:=(([]:U6q),([]:U9q))) hI hi
   have hs:=X5i X0v (([]:U6q),([]:U9q)) (l:=a0) (i:=i.toNat) (by omega)
   have hk:=hI.3
   have c1:=X46 X6b (a0.take i.toNat)
   have c2:=X46 X6b (a0.drop (i.toNat+1))
   have c3:=X6b (a0.getD i.toNat (([]:U6q),([]:U9q)))
   have q0:=X46 X9s
   have r0:=q0 (a0.getD i.toNat (([]:U6q),([]:U9q))).2
   have hmod:Int.tmod k 3=k % 3:=Yax (by omega)
   have hc:X0v (a0.getD i.toNat (([]:U6q),([]:U9q)))=X0v (a0.getD i.toNat (([]:U6q),([]:U9q))):=rfl
   conv at hc=>rhs;unfold X0v
   try simp only[hg,X22 hi',YbB,YaV,X9L,X8r]
   try simp (disch:=first | omega | simp_all) only[X22,YbB,YaV,hg,w64,pMT]
   repeat' (with_reducible (first | (refine And.intro ?_ ?_) | intro _))
   all_goals (try simp+zetaDelta (disch:=first | omega | simp_all) only[hg,X22,YbB,YaV,w64,pMT])
   all_goals (first | omega | exact Xi7 (d:=(([]:U6q),([]:U9q))) hI hi (by simp (disch:=omega) [X87,hmod,Yax]<;>rfl) (by omega) | (unfold mkM;omega) | skip)
 . obtain⟨e1,e2⟩:=Xna hI (by omega)
   exact⟨e1,e2⟩
def X1f.e:GE:=mE X6j func82 [3] [X15.e,X1Q.e] [] (λi x=>X1f.L x.1 x.2) (λi x=>X1f.F x.1 x.2) λi x h _ hw=>X1f.p x.1 x.2 h hw
def X8l(l:List U3q)(k:Int):Int:=fHd (cL X0v l) (oL X0v X71 l k) k
def X6o:Con:=cQ (.pair X5m (.int .i64)) [.one,.one] (.int .i64) [(false,1)] (λa=>(X6O a.1 a.2)) λa=>(X8l a.1 a.2)
def X1e.F(a0:(List U3q))(a1:Int):Prop:=(eS [(0,.val false [.lst T5q a0 none])] [(0,.val false [.lst T5q a0 none])]/\((hdI X0v X71 a0 a1 a1 0)/\∀(y1:(Int×Int)),(hdI X0v X71 a0 a1 y1.1 y1.2)->(X00 (decide (y1.2<(ln a0))) (0<=y1.2/\(y1.2<(ln a0)/\((pMT y1.1)/\∀r2,(Eq r2 ((fMT y1.1),((),())))->(X00 (!(((List.getD a0 (tN y1.2) ([],[])).1)==r2.1)) (Eq ((-1),((),())) ((X8l a0 a1),((),()))) (0<=y1.2/\(y1.2<(ln a0)/\((X8r ((List.getD a0 (tN y1.2) ([],[])).2) (wI (y1.1+(1:Int))))/\∀r3,(Eq r3 ((X9P ((List.getD a0 (tN y1.2) ([],[])).2) (wI (y1.1+(1:Int)))),((),())))->(X00 (decide (r3.1<(0:Int))) (Eq ((-1),((),())) ((X8l a0 a1),((),()))) (eS [(0,.val false [.lst T5q a0 none])] [(0,.val false [.lst T5q a0 none])]/\(hdI X0v X71 a0 a1 r3.1 (wI (y1.2+(1:Int))))/\(hdM a0 a1 r3.1 (wI (y1.2+(1:Int))))<(hdM a0 a1 y1.1 y1.2)))))))))) (Eq (y1.1,((),())) ((X8l a0 a1),((),()))))))
def X1e.L(a0:(List U3q))(a1:Int):Nat->Option X0e:=XLK [(26,⟨⟨[0],[1,5],[],[]⟩,T0q,λst y=>hdI X0v X71 a0 a1 y.1 y.2,λst y=>hdM a0 a1 y.1 y.2⟩)]
theorem X1e.p(a0:(List U3q))(a1:Int)(h:(X6O a0 a1))(hw:Wf X6o.A (a0,a1)):X1e.F a0 a1:=by
 delta X1e.F ln tN wI eS
 obtain⟨p1,p2⟩:=h
 have hw1:a0.length<=9223372036854775807:=hw.1.1
 simp only[Bs,B0,B1,Yaa,X01]
 refine⟨⟨by omega,by omega,by simp[cL],by simp⟩,?_⟩
 rintro⟨k,i⟩ hI
 simp only at hI ⊢
 have h2:=hI.1
 have h3:=hI.2
 refine⟨λhi=>?_,λhi=>Xnj hI hi⟩
 . have hs:=X5i X0v (([]:U6q),([]:U9q)) (l:=a0) (i:=i.toNat) (by omega)
   have hk:=hI.3
   have c1:=X46 X6b (a0.take i.toNat)
   have c2:=X46 X6b (a0.drop (i.toNat+1))
   have c3:=X6b (a0.getD i.toNat (([]:U6q),([]:U9q)))
   have q0:=X46 X9s
   have r0:=q0 (a0.getD i.toNat (([]:U6q),([]:U9q))).2
   have hmod:Int.tmod k 3=k % 3:=Yax (by omega)
   have no:X71 (a0.getD i.toNat (([]:U6q),([]:U9q))) k=false->-1=X8l a0 a1:=λho=>XrJ (([]:U6q),([]:U9q)) hI hi ho
   have yes:X71 (a0.getD i.toNat (([]:U6q),([]:U9q))) k=true->hdI X0v X71 a0 a1 (k+X0v (a0.getD i.toNat (([]:U6q),([]:U9q)))) (i+1):=λho=>Xii (([]:U6q),([]:U9q)) hI hi ho rfl
   generalize a0.getD i.toNat (([]:U6q),([]:U9q))=x at*
   have hc:X0v x=X0v x:=rfl
   conv at hc=>rhs;unfold X0v
   simp only[X71]at no yes
   simp (disch:=omega) only[w64,pMT,X9P,X8r]
   repeat' (with_reducible (first | (refine And.intro ?_ ?_) | intro _))
   all_goals (first | omega | (unfold hdM;omega) | skip)
   all_goals (try simp (disch:=first | omega | assumption) only[X5a,X4U,w64,YaO]at*)
   all_goals (try simp (disch:=first | omega | assumption) only[X5a,X4U,w64,YaO]at*)
   all_goals (first | omega | grind)
def X1e.e:GE:=mE X6o func85 [3] [X15.e,X1P.e] [] (λi x=>X1e.L x.1 x.2) (λi x=>X1e.F x.1 x.2) λi x h _ hw=>X1e.p x.1 x.2 h hw
def X7G(x:X5E):Nat:=(nL X35 x.2.1)+(nL (λs=>List.length s) x.2.2)
def XeD(x:X5E)(left:Int):Prop:=WfD T8q x/\0<=left/\left<=1048576
def X9O(x:X5E)(left:Int):Int:=fSz (X7G x) left
def X9x:Con:=cQ (.pair T8q (.int .i64)) [.agg 3,.one] (.int .i64) [(false,1)] (λa=>(XeD a.1 a.2)) λa=>(X9O a.1 a.2)
def X3Q.F(a0:X5E)(a1:Int):Prop:=((XdL a0.2.1 a1)/\∀r1,(Eq r1 ((X8f a0.2.1 a1),((),())))->(X00 (decide (r1.1<(0:Int))) (Eq ((-1),((),())) ((X9O a0 a1),((),()))) ((Xdi a0.2.2 r1.1)/\∀r2,(Eq r2 ((X8i a0.2.2 r1.1),((),())))->(X00 (decide (r2.1<(0:Int))) (Eq ((-1),((),())) ((X9O a0 a1),((),()))) (Eq (r2.1,((),())) ((X9O a0 a1),((),())))))))
theorem X3Q.p(a0:X5E)(a1:Int)(h:(XeD a0 a1))(hw:Wf X9x.A (a0,a1)):X3Q.F a0 a1:=by
 unfold X3Q.F
 obtain⟨hwf,p1,p2⟩:=h
 have w1:WfD X5m a0.2.1:=hwf.2.1
 have w2:WfD Xf4 a0.2.2:=hwf.2.2
 simp only[Bs,B0,B1,Yaa,X01,X7G,X9O,XdL,X8f,Xdi,X8i]
 repeat' (with_reducible (first | (refine And.intro ?_ ?_) | intro _))
 all_goals (try simp (disch:=omega) only[w64,wu8,tn0,tn1,tm1,tm2,Yab,Yad,Yai]at*)
 all_goals (try simp (disch:=omega) only[w64,wu8,tn0,tn1,tm1,tm2,Yab,Yad,Yai]at*)
 all_goals (try omega)
 all_goals (try grind[fSz])
def X3Q.e:GE:=mE X9x func33 [3] [X2h.e,X2o.e] [] noL (λi x=>X3Q.F x.1 x.2) λi x h _ hw=>X3Q.p x.1 x.2 h hw
def XcP(x:X5E):Prop:=X7G x<=1048576
def XcT(x:X5E):X5E:=x
def X9c:Con:=cW T8q [.agg 3] T8q [(true,3)] [(1,109),(2,9)] (λa=>(XcP a)) λa=>(XcT a)
def X3J.F(a0:X5E):Prop:=((Xde a0.2.1)/\∀r1,(Eq r1 ((Xbx a0.2.1),((),())))->((Xdd a0.2.2)/\∀r2,(Eq r2 ((Xbq a0.2.2),((),())))->(Eq ((a0.1,(r1.1,r2.1)),((),())) ((XcT a0),((),())))))
theorem X3J.p(a0:X5E)(h:(XcP a0))(hw:Wf X9c.A a0):X3J.F a0:=by
 unfold X3J.F
 have hp:X7G a0<=1048576:=h
 simp only[X7G]at hp
 simp only[Bs,B0,B1,Yaa,X01,X7G,XcT,XcP,Xde,Xbx,Xdd,Xbq]
 repeat' (with_reducible (first | (refine And.intro ?_ ?_) | intro _))
 all_goals (try simp (disch:=omega) only[w64,wu8,tn0,tn1,tm1,tm2,Yab,Yad,Yai]at*)
 all_goals (try simp (disch:=omega) only[w64,wu8,tn0,tn1,tm1,tm2,Yab,Yad,Yai]at*)
 all_goals (try omega)
 all_goals (try grind[])
def X3J.e:GE:=mE X9c func36 [28] [X2p.e,X2j.e] [] noL (λi x=>X3J.F x) λi x h _ hw=>X3J.p x h hw
instance dec_Engine:DecidableEq X5E:=by(iterate 20 (all_goals (first | infer_instance | refine @instDecidableEqProd _ _ ?_ ?_)))
def X8x(a b:X5E):Bool:=decide (a=b)
def X9v:Con:=cQ (.pair T8q T8q) [.agg 3,.agg 3] .bool [(false,1)] (λ_=>True) λa=>(X8x a.1 a.2)
def X3Y.F(a0:X5E)(a1:X5E):Prop:=(X00 (a0.1 !=a1.1) (Eq (false,((),())) ((X8x a0 a1),((),()))) (True/\∀r1,(Eq r1 ((X5Q a0.2.1 a1.2.1),((),())))->(X00 (!r1.1) (Eq (false,((),())) ((X8x a0 a1),((),()))) (True/\∀r2,(Eq r2 ((X5P a0.2.2 a1.2.2),((),())))->(X00 (!r2.1) (Eq (false,((),())) ((X8x a0 a1),((),()))) (Eq (true,((),())) ((X8x a0 a1),((),()))))))))
theorem X3Y.p(a0:X5E)(a1:X5E)(h:True):X3Y.F a0 a1:=by
 unfold X3Y.F
 obtain⟨x1,x2,x3⟩:=a0
 obtain⟨y1,y2,y3⟩:=a1
 simp only[Bs,B0,B1,Yaa,X01,X8x,X5Q,X5P]
 repeat' (first | (refine And.intro ?_ ?_) | intro _)
 all_goals simp_all
def X3Y.e:GE:=mE X9v func39 [4] [X2k.e,X2i.e] [] noL (λi x=>X3Y.F x.1 x.2) λi x h _ _=>X3Y.p x.1 x.2 h
def X6I(x:X5E):Int:=cL X0v x.2.1+cL XdE x.2.2
def XiB(x:X5E)(k:Int):((List U3q)×(List U6q)):=(mL X0v X87 x.2.1 k,mL XdE X7w x.2.2 (k+cL X0v x.2.1))
def XhZ(x:X5E)(k:Int):Bool:=oL X0v X71 x.2.1 k&&oL XdE X70 x.2.2 (k+cL X0v x.2.1)
def X8z(x:X5E)(k:Int):Prop:=0<=k/\k+X6I x<=4611686018427387904
def X8q(x:X5E)(k:Int):Int×((List U3q)×(List U6q)):=(k+X6I x,XiB x k)
def X7h:Con:={A:=(.pair T8q (.int .i64)),shA:=[.agg 3,.one],backA:=[(1,109),(2,9)],B:=(.pair X5m Xf4),R:=(.int .i64),shR:=[(false,1)],pre:=λ_ a=>(X8z a.1 a.2),f:=some λ_ a=>((X8q a.1 a.2).1,((),(X8q a.1 a.2).2))}
def X2y.F(a0:X5E)(a1:Int):Prop:=((X6O a0.2.1 a1)/\∀r1,(Eq r1 ((X8c a0.2.1 a1).1,((),(X8c a0.2.1 a1).2)))->((X6D a0.2.2 r1.1)/\∀r2,(Eq r2 ((X8m a0.2.2 r1.1).1,((),(X8m a0.2.2 r1.1).2)))->(Eq (r2.1,((),(r1.2.2,r2.2.2))) ((X8q a0 a1).1,((),(X8q a0 a1).2)))))
theorem X2y.p(a0:X5E)(a1:Int)(h:(X8z a0 a1)):X2y.F a0 a1:=by
 unfold X2y.F
 obtain⟨p1,p2⟩:=h
 simp only[X6I]at p2
 have p3:=X46 X6b a0.2.1
 have p4:=X46 X6c a0.2.2
 simp only[Bs,B0,B1,Yaa,X01,X8c,X6O,X8m,X6D,X6I,XiB,X8q]
 repeat' (with_reducible (first | (refine And.intro ?_ ?_) | intro _))
 all_goals (try simp only[<-Int.add_assoc])
 all_goals (first | omega | rfl | (refine Prod.ext ?_ rfl;simp only;omega) | skip)
def X2y.e:GE:=mE X7h func42 [3] [X1f.e,X1d.e] [] noL (λi x=>X2y.F x.1 x.2) λi x h _ _=>X2y.p x.1 x.2 h
def X9S(x:X5E)(k:Int):Int:=fHd (X6I x) (XhZ x k) k
def X7d:Con:=cQ (.pair T8q (.int .i64)) [.agg 3,.one] (.int .i64) [(false,1)] (λa=>(X8z a.1 a.2)) λa=>(X9S a.1 a.2)
def X2z.F(a0:X5E)(a1:Int):Prop:=((X6O a0.2.1 a1)/\∀r1,(Eq r1 ((X8l a0.2.1 a1),((),())))->(X00 (decide (r1.1<(0:Int))) (Eq ((-1),((),())) ((X9S a0 a1),((),()))) ((X6D a0.2.2 r1.1)/\∀r2,(Eq r2 ((X9W a0.2.2 r1.1),((),())))->(X00 (decide (r2.1<(0:Int))) (Eq ((-1),((),())) ((X9S a0 a1),((),()))) (Eq (r2.1,((),())) ((X9S a0 a1),((),())))))))
theorem X2z.p(a0:X5E)(a1:Int)(h:(X8z a0 a1))(hw:Wf X7d.A (a0,a1)):X2z.F a0 a1:=by
 unfold X2z.F
 obtain⟨p1,p2⟩:=h
 simp only[X6I]at p2
 have p3:=X46 X6b a0.2.1
 have p4:=X46 X6c a0.2.2
 simp only[Bs,B0,B1,Yaa,X01,X9S,X6O,X8l,X6D,X9W,X6I,XhZ]
 repeat' (with_reducible (first | (refine And.intro ?_ ?_) | intro _))
 all_goals (try simp (disch:=first | omega | assumption) only[X5a,X4U,YaO]at*)
 all_goals (try simp (disch:=first | omega | assumption) only[X5a,X4U,YaO]at*)
 all_goals (try simp (disch:=first | omega | assumption) only[X5a,X4U,YaO]at*)
 all_goals (try simp (disch:=first | omega | assumption) only[X5a,X4U,YaO]at*)
 all_goals (try simp (disch:=first | omega | assumption) only[X5a,X4U,YaO]at*)
 all_goals (try simp (disch:=first | omega | assumption) only[X5a,X4U,YaO]at*)
 all_goals (first | omega | (unfold fHd;grind) | skip)
def X2z.e:GE:=mE X7d func45 [3] [X1e.e,X1g.e] [] noL (λi x=>X2z.F x.1 x.2) λi x h _ hw=>X2z.p x.1 x.2 h hw
def Xdv(x:XjL):Nat:=(x.2.2.2.length)
def XeA(x:XjL)(left:Int):Prop:=WfD XkE x/\0<=left/\left<=1048576
def Xbh(x:XjL)(left:Int):Int:=fSz (Xdv x) left
def X94:Con:=cQ (.pair XkE (.int .i64)) [.agg 4,.one] (.int .i64) [(false,1)] (λa=>(XeA a.1 a.2)) λa=>(Xbh a.1 a.2)
def X3G.F(a0:XjL)(a1:Int):Prop:=(X00 (decide ((wI (a1 - (ln a0.2.2.2)))<(0:Int))) (Eq ((-1),((),())) ((Xbh a0 a1),((),()))) (Eq ((wI (a1 - (ln a0.2.2.2))),((),())) ((Xbh a0 a1),((),()))))
theorem X3G.p(a0:XjL)(a1:Int)(h:(XeA a0 a1))(hw:Wf X94.A (a0,a1)):X3G.F a0 a1:=by
 delta X3G.F ln wI
 obtain⟨hwf,p1,p2⟩:=h
 have w3:a0.2.2.2.length<=9223372036854775807:=hwf.2.2.2
 simp only[Bs,B0,B1,Yaa,X01,Xdv,Xbh]
 repeat' (with_reducible (first | (refine And.intro ?_ ?_) | intro _))
 all_goals (try simp (disch:=omega) only[w64,wu8,tn0,tn1,tm1,tm2,Yab,Yad,Yai]at*)
 all_goals (try simp (disch:=omega) only[w64,wu8,tn0,tn1,tm1,tm2,Yab,Yad,Yai]at*)
 all_goals (try omega)
 all_goals (try grind[fSz])
def X3G.e:GE:=mE X94 func127 [3] [] [] noL (λi x=>X3G.F x.1 x.2) λi x h _ hw=>X3G.p x.1 x.2 h hw
def Xd6(x:XjL):Prop:=Xdv x<=1048576
def XcY(x:XjL):XjL:=x
def X90:Con:=cQ XkE [.agg 4] XkE [(true,4)] (λa=>(Xd6 a)) λa=>(XcY a)
def X3H.F(a0:XjL):Prop:=(Eq ((a0.1,(a0.2.1,(a0.2.2.1,a0.2.2.2))),((),())) ((XcY a0),((),())))
theorem X3H.p(a0:XjL)(h:(Xd6 a0))(hw:Wf X90.A a0):X3H.F a0:=by
 unfold X3H.F
 have hp:Xdv a0<=1048576:=h
 simp only[Xdv]at hp
 simp only[Bs,B0,B1,Yaa,X01,Xdv,XcY,Xd6]
 repeat' (with_reducible (first | (refine And.intro ?_ ?_) | intro _))
 all_goals (try simp (disch:=omega) only[w64,wu8,tn0,tn1,tm1,tm2,Yab,Yad,Yai]at*)
 all_goals (try simp (disch:=omega) only[w64,wu8,tn0,tn1,tm1,tm2,Yab,Yad,Yai]at*)
 all_goals (try omega)
 all_goals (try grind[])
def X3H.e:GE:=mE X90 func129 [38] [] [] noL (λi x=>X3H.F x) λi x h _ hw=>X3H.p x h hw
instance dec_Answer:DecidableEq XjL:=by(iterate 20 (all_goals (first | infer_instance | refine @instDecidableEqProd _ _ ?_ ?_)))
def X4J(a b:XjL):Bool:=decide (a=b)
def X8R:Con:=cQ (.pair XkE XkE) [.agg 4,.agg 4] .bool [(false,1)] (λ_=>True) λa=>(X4J a.1 a.2)
def X36.F(a0:XjL)(a1:XjL):Prop:=(X00 (a0.1 !=a1.1) (Eq (false,((),())) ((X4J a0 a1),((),()))) (X00 (a0.2.1 !=a1.2.1) (Eq (false,((),())) ((X4J a0 a1),((),()))) (X00 (a0.2.2.1 !=a1.2.2.1) (Eq (false,((),())) ((X4J a0 a1),((),()))) (X00 (!(a0.2.2.2==a1.2.2.2)) (Eq (false,((),())) ((X4J a0 a1),((),()))) (Eq (true,((),())) ((X4J a0 a1),((),())))))))
theorem X36.p(a0:XjL)(a1:XjL)(h:True):X36.F a0 a1:=by
 unfold X36.F
 obtain⟨x1,x2,x3,x4⟩:=a0
 obtain⟨y1,y2,y3,y4⟩:=a1
 simp only[Bs,B0,B1,Yaa,X01,X4J]
 repeat' (first | (refine And.intro ?_ ?_) | intro _)
 all_goals simp_all
def X36.e:GE:=mE X8R func17 [4] [] [] noL (λi x=>X36.F x.1 x.2) λi x h _ _=>X36.p x.1 x.2 h
def X2U(x:U7q):Nat:=(Xdv x.2.2)
def Xfr(x:U7q)(left:Int):Prop:=WfD T2q x/\0<=left/\left<=1048576
def X9M(x:U7q)(left:Int):Int:=fSz (X2U x) left
def X7Q:Con:=cQ (.pair T2q (.int .i64)) [.agg 6,.one] (.int .i64) [(false,1)] (λa=>(Xfr a.1 a.2)) λa=>(X9M a.1 a.2)
def X2Y.F(a0:U7q)(a1:Int):Prop:=((XeA (a0.2.2.1,(a0.2.2.2.1,(a0.2.2.2.2.1,a0.2.2.2.2.2))) a1)/\∀r1,(Eq r1 ((Xbh (a0.2.2.1,(a0.2.2.2.1,(a0.2.2.2.2.1,a0.2.2.2.2.2))) a1),((),())))->(X00 (decide (r1.1<(0:Int))) (Eq ((-1),((),())) ((X9M a0 a1),((),()))) (Eq (r1.1,((),())) ((X9M a0 a1),((),())))))
theorem X2Y.p(a0:U7q)(a1:Int)(h:(Xfr a0 a1))(hw:Wf X7Q.A (a0,a1)):X2Y.F a0 a1:=by
 unfold X2Y.F
 obtain⟨hwf,p1,p2⟩:=h
 have w2:WfD XkE a0.2.2:=hwf.2.2
 simp only[Bs,B0,B1,Yaa,X01,X2U,X9M,XeA,Xbh]
 repeat' (with_reducible (first | (refine And.intro ?_ ?_) | intro _))
 all_goals (try simp (disch:=omega) only[w64,wu8,tn0,tn1,tm1,tm2,Yab,Yad,Yai]at*)
 all_goals (try simp (disch:=omega) only[w64,wu8,tn0,tn1,tm1,tm2,Yab,Yad,Yai]at*)
 all_goals (try omega)
 all_goals (try grind[fSz])
def X2Y.e:GE:=mE X7Q func73 [3] [X3G.e] [] noL (λi x=>X2Y.F x.1 x.2) λi x h _ hw=>X2Y.p x.1 x.2 h hw
def XbH(x:List U7q)(left:Int):Prop:=WfD (.list T2q) x/\0<=left/\left<=1048576
def X6H(x:List U7q)(left:Int):Int:=fSz (nL X2U x) left
def X7i:Con:=cQ (.pair (.list T2q) (.int .i64)) [.one,.one] (.int .i64) [(false,1)] (λa=>(XbH a.1 a.2)) λa=>(X6H a.1 a.2)
def X1I.F(a0:(List U7q))(a1:Int):Prop:=(X00 (decide ((wI (a1 - (ln a0)))<(0:Int))) (Eq ((-1),((),())) ((X6H a0 a1),((),()))) (eS [(0,.val false [.lst T2q a0 none])] [(0,.val false [.lst T2q a0 none])]/\((Xqy X2U a0 a1 (wI (a1 - (ln a0))) 0)/\∀(y1:(Int×Int)),(Xqy X2U a0 a1 y1.1 y1.2)->(X00 (decide (y1.2<(ln a0))) (0<=y1.2/\(y1.2<(ln a0)/\((Xfr ((List.getD a0 (tN y1.2) (0,(0,(0,(0,(0,[])))))).1,((List.getD a0 (tN y1.2) (0,(0,(0,(0,(0,[])))))).2.1,((List.getD a0 (tN y1.2) (0,(0,(0,(0,(0,[])))))).2.2.1,((List.getD a0 (tN y1.2) (0,(0,(0,(0,(0,[])))))).2.2.2.1,((List.getD a0 (tN y1.2) (0,(0,(0,(0,(0,[])))))).2.2.2.2.1,(List.getD a0 (tN y1.2) (0,(0,(0,(0,(0,[])))))).2.2.2.2.2))))) y1.1)/\∀r2,(Eq r2 ((X9M ((List.getD a0 (tN y1.2) (0,(0,(0,(0,(0,[])))))).1,((List.getD a0 (tN y1.2) (0,(0,(0,(0,(0,[])))))).2.1,((List.getD a0 (tN y1.2) (0,(0,(0,(0,(0,[])))))).2.2.1,((List.getD a0 (tN y1.2) (0,(0,(0,(0,(0,[])))))).2.2.2.1,((List.getD a0 (tN y1.2) (0,(0,(0,(0,(0,[])))))).2.2.2.2.1,(List.getD a0 (tN y1.2) (0,(0,(0,(0,(0,[])))))).2.2.2.2.2))))) y1.1),((),())))->(X00 (decide (r2.1<(0:Int))) (Eq ((-1),((),())) ((X6H a0 a1),((),()))) (eS [(0,.val false [.lst T2q a0 none])] [(0,.val false [.lst T2q a0 none])]/\(Xqy X2U a0 a1 r2.1 (wI (y1.2+(1:Int))))/\(Xqu a0 a1 r2.1 (wI (y1.2+(1:Int))))<(Xqu a0 a1 y1.1 y1.2)))))) (Eq (y1.1,((),())) ((X6H a0 a1),((),())))))))
def X1I.L(a0:(List U7q))(a1:Int):Nat->Option X0e:=XLK [(122,⟨⟨[0],[1,5],[],[]⟩,T0q,λst y=>Xqy X2U a0 a1 y.1 y.2,λst y=>Xqu a0 a1 y.1 y.2⟩)]
theorem X1I.p(a0:(List U7q))(a1:Int)(h:(XbH a0 a1)):X1I.F a0 a1:=by
 delta X1I.F ln tN wI eS
 obtain⟨hwf,p1,p2⟩:=h
 have hw1:a0.length<=9223372036854775807:=hwf.1
 simp only[Bs,B0,B1,Yaa,X01,X6H]
 rw[w64 (x:=a1 - (a0.length:Int)) (by omega) (by omega)]
 refine⟨λh1=>(XdQ (by unfold nL;omega)).symm,λh1=>⟨⟨by omega,by omega,by omega,by rw[show Int.toNat 0=0 from rfl,Xji];omega⟩,?_⟩⟩
 rintro⟨left,i⟩ ⟨h2,h3,h4,h5⟩
 simp only at h2 h3 h4 h5 ⊢
 refine⟨λhi=>?_,λhi=>?_⟩
 . have hm:a0.getD i.toNat ((0:Int),((0:Int),((0:Int),((0:Int),((0:Int),([]:U6q))))))∈a0:=X1a (by omega)
   have s1:=Xip X2U a0 ((0:Int),((0:Int),((0:Int),((0:Int),((0:Int),([]:U6q)))))) (i:=i.toNat) (by omega)
   have s2:=Xoa X2U a0 (i.toNat+1)
   have hwx:WfD T2q (a0.getD i.toNat ((0:Int),((0:Int),((0:Int),((0:Int),((0:Int),([]:U6q))))))):=hwf.2 _ hm
   rw[w64 (x:=i+1) (by omega) (by omega)]
   simp only[X9M]
   by_cases hc:left<(X2U (a0.getD i.toNat ((0:Int),((0:Int),((0:Int),((0:Int),((0:Int),([]:U6q))))))):Int)
   . rw[XdQ hc]
     exact⟨h2,hi,⟨hwx,h4,by omega⟩,λh6=>(XdQ (by unfold nL;omega)).symm,λh6=>absurd (by decide) h6⟩
   . rw[Xe4 hc]
     exact⟨h2,hi,⟨hwx,h4,by omega⟩,λh6=>by omega,λh6=>⟨⟨by omega,by omega,by omega,by rw[tn1 h2];omega⟩,by unfold Xqu;omega⟩⟩
 . have e:i.toNat=a0.length:=by omega
   rw[e]at h5
   rw[Xe4 (by unfold nL;omega)]
   unfold nL;omega
def X1I.e:GE:=mE X7i func34 [3] [X2Y.e] [] (λi x=>X1I.L x.1 x.2) (λi x=>X1I.F x.1 x.2) λi x h _ _=>X1I.p x.1 x.2 h
def Xbr(x:U7q):Prop:=X2U x<=1048576
def Xbw(x:U7q):U7q:=x
def X7H:Con:=cQ T2q [.agg 6] T2q [(true,6)] (λa=>(Xbr a)) λa=>(Xbw a)
def X34.F(a0:U7q):Prop:=((Xd6 (a0.2.2.1,(a0.2.2.2.1,(a0.2.2.2.2.1,a0.2.2.2.2.2))))/\∀r1,(Eq r1 ((XcY (a0.2.2.1,(a0.2.2.2.1,(a0.2.2.2.2.1,a0.2.2.2.2.2)))),((),())))->(Eq ((a0.1,(a0.2.1,(r1.1.1,(r1.1.2.1,(r1.1.2.2.1,r1.1.2.2.2))))),((),())) ((Xbw a0),((),()))))
theorem X34.p(a0:U7q)(h:(Xbr a0))(hw:Wf X7H.A a0):X34.F a0:=by
 unfold X34.F
 have hp:X2U a0<=1048576:=h
 simp only[X2U]at hp
 simp only[Bs,B0,B1,Yaa,X01,X2U,Xbw,Xbr,Xd6,XcY]
 repeat' (with_reducible (first | (refine And.intro ?_ ?_) | intro _))
 all_goals (try simp (disch:=omega) only[w64,wu8,tn0,tn1,tm1,tm2,Yab,Yad,Yai]at*)
 all_goals (try simp (disch:=omega) only[w64,wu8,tn0,tn1,tm1,tm2,Yab,Yad,Yai]at*)
 all_goals (try omega)
 all_goals (try grind[])
def X34.e:GE:=mE X7H func77 [64] [X3H.e] [] noL (λi x=>X34.F x) λi x h _ hw=>X34.p x h hw
def XbM(x:List U7q):Prop:=nL X2U x<=1048576
def XaE(x:List U7q):List U7q:=x
def X6Z:Con:=cW (.list T2q) [.one] (.list T2q) [(false,1)] [(0,64)] (λa=>(XbM a)) λa=>(XaE a)
def X1L.F(a0:(List U7q)):Prop:=(0<=(ln a0)/\((ln a0)<=(ln a0)/\((ln a0)<=9223372036854775807/\(((56:Nat):Int)*(ln a0)<=140737488355328/\(eS [(0,.val false [.lst T2q a0 none]),(3,.val false [.own T2q 1000387])] [(0,.val false [.lst T2q a0 none]),(3,.val false [.own T2q 1000387])]/\((cpI ((0:Int),((0:Int),((0:Int),((0:Int),((0:Int),([]:U6q)))))) a0 0 (List.replicate (tN (ln a0)) ((0:Int),((0:Int),((0:Int),((0:Int),((0:Int),([]:U6q))))))))/\∀(y1:(Int×(List U7q))),(cpI ((0:Int),((0:Int),((0:Int),((0:Int),((0:Int),([]:U6q)))))) a0 y1.1 y1.2)->(X00 (decide (y1.1<(ln a0))) (0<=y1.1/\(y1.1<(ln a0)/\((Xbr ((List.getD a0 (tN y1.1) (0,(0,(0,(0,(0,[])))))).1,((List.getD a0 (tN y1.1) (0,(0,(0,(0,(0,[])))))).2.1,((List.getD a0 (tN y1.1) (0,(0,(0,(0,(0,[])))))).2.2.1,((List.getD a0 (tN y1.1) (0,(0,(0,(0,(0,[])))))).2.2.2.1,((List.getD a0 (tN y1.1) (0,(0,(0,(0,(0,[])))))).2.2.2.2.1,(List.getD a0 (tN y1.1) (0,(0,(0,(0,(0,[])))))).2.2.2.2.2))))))/\∀r2,(Eq r2 ((Xbw ((List.getD a0 (tN y1.1) (0,(0,(0,(0,(0,[])))))).1,((List.getD a0 (tN y1.1) (0,(0,(0,(0,(0,[])))))).2.1,((List.getD a0 (tN y1.1) (0,(0,(0,(0,(0,[])))))).2.2.1,((List.getD a0 (tN y1.1) (0,(0,(0,(0,(0,[])))))).2.2.2.1,((List.getD a0 (tN y1.1) (0,(0,(0,(0,(0,[])))))).2.2.2.2.1,(List.getD a0 (tN y1.1) (0,(0,(0,(0,(0,[])))))).2.2.2.2.2)))))),((),())))->(0<=y1.1/\(y1.1<(ln y1.2)/\(eS [(0,.val false [.lst T2q a0 none]),(3,.val false [.own T2q 1000387])] [(0,.val false [.lst T2q a0 none]),(3,.val false [.own T2q 1000387])]/\(cpI ((0:Int),((0:Int),((0:Int),((0:Int),((0:Int),([]:U6q)))))) a0 (wI (y1.1+(1:Int))) (List.set y1.2 (tN y1.1) (r2.1.1,(r2.1.2.1,(r2.1.2.2.1,(r2.1.2.2.2.1,(r2.1.2.2.2.2.1,r2.1.2.2.2.2.2)))))))/\(cpM a0 (wI (y1.1+(1:Int))) (List.set y1.2 (tN y1.1) (r2.1.1,(r2.1.2.1,(r2.1.2.2.1,(r2.1.2.2.2.1,(r2.1.2.2.2.2.1,r2.1.2.2.2.2.2)))))))<(cpM a0 y1.1 y1.2))))))) (Eq (y1.2,((),())) ((XaE a0),((),()))))))))))
def X1L.L(a0:(List U7q)):Nat->Option X0e:=XLK [(58,⟨⟨[0,3],[4],[],[kC 3 0 1000387 64]⟩,(.pair (.int .i64) (.list T2q)),λst y=>cpI ((0:Int),((0:Int),((0:Int),((0:Int),((0:Int),([]:U6q)))))) a0 y.1 y.2,λst y=>cpM a0 y.1 y.2⟩)]
theorem X1L.p(a0:(List U7q))(h:(XbM a0)):X1L.F a0:=by
 delta X1L.F ln tN wI eS
 have hb:a0.length<=1048576:=by have h1:nL X2U a0<=1048576:=h;unfold nL at h1;omega
 simp only[Bs,B0,B1,Yaa,X01,XaE]
 refine⟨by omega,by omega,by omega,by omega,⟨by omega,by omega,by simp⟩,?_⟩
 rintro⟨i,out⟩ hI
 simp only at hI ⊢
 refine⟨λhi=>?_,λhi=>Xmh hI hi⟩
 have hl:=Xmi hI
 have h3:=hI.2.1
 have h2:=hI.1
 have hp:Xbr (a0.getD i.toNat ((0:Int),((0:Int),((0:Int),((0:Int),((0:Int),([]:U6q))))))):=by
  have h1:nL X2U a0<=1048576:=h
  have hm:a0.getD i.toNat ((0:Int),((0:Int),((0:Int),((0:Int),((0:Int),([]:U6q))))))∈a0:=X1a (by omega)
  show X2U _<=1048576
  have:=Xup X2U hm;omega
 rw[w64 (x:=i+1) (by omega) (by omega)]
 simp only[Xbw,hl]
 exact⟨h2,hi,hp,h2,hi,Xim hI hi,by unfold cpM;omega⟩
def X1L.e:GE:=mE X6Z func37 [29] [X34.e] [] (λi x=>X1L.L x) (λi x=>X1L.F x) λi x h _ _=>X1L.p x h
instance dec_Session:DecidableEq U7q:=by(iterate 20 (all_goals (first | infer_instance | refine @instDecidableEqProd _ _ ?_ ?_)))
def X5L(a b:U7q):Bool:=decide (a=b)
def X88:Con:=cQ (.pair T2q T2q) [.agg 6,.agg 6] .bool [(false,1)] (λ_=>True) λa=>(X5L a.1 a.2)
def X2Z.F(a0:U7q)(a1:U7q):Prop:=(X00 (a0.1 !=a1.1) (Eq (false,((),())) ((X5L a0 a1),((),()))) (X00 (a0.2.1 !=a1.2.1) (Eq (false,((),())) ((X5L a0 a1),((),()))) (True/\∀r1,(Eq r1 ((X4J (a0.2.2.1,(a0.2.2.2.1,(a0.2.2.2.2.1,a0.2.2.2.2.2))) (a1.2.2.1,(a1.2.2.2.1,(a1.2.2.2.2.1,a1.2.2.2.2.2)))),((),())))->(X00 (!r1.1) (Eq (false,((),())) ((X5L a0 a1),((),()))) (Eq (true,((),())) ((X5L a0 a1),((),())))))))
theorem X2Z.p(a0:U7q)(a1:U7q)(h:True):X2Z.F a0 a1:=by
 unfold X2Z.F
 obtain⟨x1,x2,⟨x3,x4,x5,x6⟩⟩:=a0
 obtain⟨y1,y2,⟨y3,y4,y5,y6⟩⟩:=a1
 simp only[Bs,B0,B1,Yaa,X01,X5L,X4J]
 repeat' (first | (refine And.intro ?_ ?_) | intro _)
 all_goals simp_all
def X2Z.e:GE:=mE X88 func81 [4] [X36.e] [] noL (λi x=>X2Z.F x.1 x.2) λi x h _ _=>X2Z.p x.1 x.2 h
def X5j(a b:List U7q):Bool:=decide (a=b)
def X79:Con:=cQ (.pair (.list T2q) (.list T2q)) [.one,.one] .bool [(false,1)] (λ_=>True) λa=>(X5j a.1 a.2)
def X1J.F(a0:(List U7q))(a1:(List U7q)):Prop:=(X00 ((ln a0)!=(ln a1)) (Eq (false,((),())) ((X5j a0 a1),((),()))) (eS [(0,.val false [.lst T2q a0 none]),(1,.val false [.lst T2q a1 none])] [(0,.val false [.lst T2q a0 none]),(1,.val false [.lst T2q a1 none])]/\((Xjc a0 a1 0)/\∀(y1:Int),(Xjc a0 a1 y1)->(X00 (decide (y1<(ln a0))) (0<=y1/\(y1<(ln a0)/\(0<=y1/\(y1<(ln a1)/\(True/\∀r2,(Eq r2 ((X5L ((List.getD a0 (tN y1) (0,(0,(0,(0,(0,[])))))).1,((List.getD a0 (tN y1) (0,(0,(0,(0,(0,[])))))).2.1,((List.getD a0 (tN y1) (0,(0,(0,(0,(0,[])))))).2.2.1,((List.getD a0 (tN y1) (0,(0,(0,(0,(0,[])))))).2.2.2.1,((List.getD a0 (tN y1) (0,(0,(0,(0,(0,[])))))).2.2.2.2.1,(List.getD a0 (tN y1) (0,(0,(0,(0,(0,[])))))).2.2.2.2.2))))) ((List.getD a1 (tN y1) (0,(0,(0,(0,(0,[])))))).1,((List.getD a1 (tN y1) (0,(0,(0,(0,(0,[])))))).2.1,((List.getD a1 (tN y1) (0,(0,(0,(0,(0,[])))))).2.2.1,((List.getD a1 (tN y1) (0,(0,(0,(0,(0,[])))))).2.2.2.1,((List.getD a1 (tN y1) (0,(0,(0,(0,(0,[])))))).2.2.2.2.1,(List.getD a1 (tN y1) (0,(0,(0,(0,(0,[])))))).2.2.2.2.2)))))),((),())))->(X00 (!r2.1) (Eq (false,((),())) ((X5j a0 a1),((),()))) (eS [(0,.val false [.lst T2q a0 none]),(1,.val false [.lst T2q a1 none])] [(0,.val false [.lst T2q a0 none]),(1,.val false [.lst T2q a1 none])]/\(Xjc a0 a1 (wI (y1+(1:Int))))/\(Xkc a0 a1 (wI (y1+(1:Int))))<(Xkc a0 a1 y1)))))))) (Eq (true,((),())) ((X5j a0 a1),((),())))))))
def X1J.L(a0:(List U7q))(a1:(List U7q)):Nat->Option X0e:=XLK [(58,⟨⟨[0,1],[5],[],[]⟩,(.int .i64),λst y=>Xjc a0 a1 y,λst y=>Xkc a0 a1 y⟩)]
theorem X1J.p(a0:(List U7q))(a1:(List U7q))(h:True)(hw:Wf X79.A (a0,a1)):X1J.F a0 a1:=by
 delta X1J.F ln tN wI eS
 have hw1:a0.length<=9223372036854775807:=hw.1.1
 simp only[Bs,B0,B1,Yaa,X01]
 refine⟨λh1=>?_,λh1=>?_⟩
 . have:a0≠a1:=λe=>by subst e;simp at h1
   simp[X5j,this]
 have hl:a0.length=a1.length:=by omega
 refine⟨⟨by omega,by omega,hl,by simp⟩,?_⟩
 rintro i hI
 have h2:=hI.1
 have h3:=hI.2.1
 refine⟨λhi=>⟨h2,hi,h2,by omega,λhne=>?_,λhe=>?_⟩,λhi=>?_⟩
 . have:a0≠a1:=λe=>by subst e;simp[X5L]at hne
   simp[X5j,this]
 . have hg:a0.getD i.toNat ((0:Int),((0:Int),((0:Int),((0:Int),((0:Int),([]:U6q))))))=a1.getD i.toNat ((0:Int),((0:Int),((0:Int),((0:Int),((0:Int),([]:U6q)))))):=by simpa only[X5L,Yaj] using he
   rw[w64 (x:=i+1) (by omega) (by omega)]
   exact⟨XfG hI hi hg,by unfold Xkc;omega⟩
 . have h6:=XiV hI hi
   simp[X5j,h6]
def X1J.e:GE:=mE X79 func40 [4] [X2Z.e] [] (λi x=>X1J.L x.1 x.2) (λi x=>X1J.F x.1 x.2) λi x h _ hw=>X1J.p x.1 x.2 h hw
def X0E(x:U7q):Int:=1+1+1+1+1+1
def X6J(x:U7q)(k:Int):U7q:=(k,(k+1),(((k+1)+1),(((k+1)+1)+1),((((k+1)+1)+1)+1),(fMT (((((k+1)+1)+1)+1)+1))))
def X61(x:U7q)(k:Int):Bool:=(decide (x.1=k))&&(decide (x.2.1=(k+1)))&&(decide (x.2.2.1=((k+1)+1)))&&(decide (x.2.2.2.1=(((k+1)+1)+1)))&&(decide (x.2.2.2.2.1=((((k+1)+1)+1)+1)))&&(decide (x.2.2.2.2.2=fMT (((((k+1)+1)+1)+1)+1)))
theorem Xk7:∀(x:U7q) (k:Int),X61 (X6J x k) k=true/\X0E (X6J x k)=X0E x:=λx k=>by
 simp[X61,X6J,X0E]
theorem X6G:∀x:U7q,0<=X0E x:=λx=>by
 unfold X0E;omega
def X5H(l:List U7q)(k:Int):Prop:=0<=k/\k+cL X0E l<=4611686018427387904
def X6N(l:List U7q)(k:Int):Int×List U7q:=(k+cL X0E l,mL X0E X6J l k)
def X5S:Con:={A:=(.pair (.list T2q) (.int .i64)),shA:=[.one,.one],backA:=[(0,64)],B:=(.list T2q),R:=(.int .i64),shR:=[(false,1)],pre:=λ_ a=>(X5H a.1 a.2),f:=some λ_ a=>((X6N a.1 a.2).1,((),(X6N a.1 a.2).2))}
def X0Y.F(a0:(List U7q))(a1:Int):Prop:=(eS [(0,.val false [.own T2q 2])] [(0,.val false [.own T2q 2])]/\((mkI X0E X6J a0 a1 a1 0 a0)/\∀(y1:(Int×(Int×(List U7q)))),(mkI X0E X6J a0 a1 y1.1 y1.2.1 y1.2.2)->(X00 (decide (y1.2.1<(ln y1.2.2))) (0<=y1.2.1/\(y1.2.1<(ln y1.2.2)/\(let l2:List U7q:=(List.set y1.2.2 (tN y1.2.1) (y1.1,((List.getD y1.2.2 (tN y1.2.1) (0,(0,(0,(0,(0,[])))))).2.1,((List.getD y1.2.2 (tN y1.2.1) (0,(0,(0,(0,(0,[])))))).2.2.1,((List.getD y1.2.2 (tN y1.2.1) (0,(0,(0,(0,(0,[])))))).2.2.2.1,((List.getD y1.2.2 (tN y1.2.1) (0,(0,(0,(0,(0,[])))))).2.2.2.2.1,(List.getD y1.2.2 (tN y1.2.1) (0,(0,(0,(0,(0,[])))))).2.2.2.2.2))))));(0<=y1.2.1/\(y1.2.1<(ln l2)/\(let l3:List U7q:=(List.set l2 (tN y1.2.1) ((List.getD l2 (tN y1.2.1) (0,(0,(0,(0,(0,[])))))).1,((wI (y1.1+(1:Int))),((List.getD l2 (tN y1.2.1) (0,(0,(0,(0,(0,[])))))).2.2.1,((List.getD l2 (tN y1.2.1) (0,(0,(0,(0,(0,[])))))).2.2.2.1,((List.getD l2 (tN y1.2.1) (0,(0,(0,(0,(0,[])))))).2.2.2.2.1,(List.getD l2 (tN y1.2.1) (0,(0,(0,(0,(0,[])))))).2.2.2.2.2))))));(0<=y1.2.1/\(y1.2.1<(ln l3)/\(let l4:List U7q:=(List.set l3 (tN y1.2.1) ((List.getD l3 (tN y1.2.1) (0,(0,(0,(0,(0,[])))))).1,((List.getD l3 (tN y1.2.1) (0,(0,(0,(0,(0,[])))))).2.1,((wI ((wI (y1.1+(1:Int)))+(1:Int))),((List.getD l3 (tN y1.2.1) (0,(0,(0,(0,(0,[])))))).2.2.2.1,((List.getD l3 (tN y1.2.1) (0,(0,(0,(0,(0,[])))))).2.2.2.2.1,(List.getD l3 (tN y1.2.1) (0,(0,(0,(0,(0,[])))))).2.2.2.2.2))))));(0<=y1.2.1/\(y1.2.1<(ln l4)/\(let l5:List U7q:=(List.set l4 (tN y1.2.1) ((List.getD l4 (tN y1.2.1) (0,(0,(0,(0,(0,[])))))).1,((List.getD l4 (tN y1.2.1) (0,(0,(0,(0,(0,[])))))).2.1,((List.getD l4 (tN y1.2.1) (0,(0,(0,(0,(0,[])))))).2.2.1,((wI ((wI ((wI (y1.1+(1:Int)))+(1:Int)))+(1:Int))),((List.getD l4 (tN y1.2.1) (0,(0,(0,(0,(0,[])))))).2.2.2.2.1,(List.getD l4 (tN y1.2.1) (0,(0,(0,(0,(0,[])))))).2.2.2.2.2))))));(0<=y1.2.1/\(y1.2.1<(ln l5)/\(let l6:List U7q:=(List.set l5 (tN y1.2.1) ((List.getD l5 (tN y1.2.1) (0,(0,(0,(0,(0,[])))))).1,((List.getD l5 (tN y1.2.1) (0,(0,(0,(0,(0,[])))))).2.1,((List.getD l5 (tN y1.2.1) (0,(0,(0,(0,(0,[])))))).2.2.1,((List.getD l5 (tN y1.2.1) (0,(0,(0,(0,(0,[])))))).2.2.2.1,((wI ((wI ((wI ((wI (y1.1+(1:Int)))+(1:Int)))+(1:Int)))+(1:Int))),(List.getD l5 (tN y1.2.1) (0,(0,(0,(0,(0,[])))))).2.2.2.2.2))))));((pMT (wI ((wI ((wI ((wI ((wI (y1.1+(1:Int)))+(1:Int)))+(1:Int)))+(1:Int)))+(1:Int))))/\∀r7,(Eq r7 ((fMT (wI ((wI ((wI ((wI ((wI (y1.1+(1:Int)))+(1:Int)))+(1:Int)))+(1:Int)))+(1:Int)))),((),())))->(0<=y1.2.1/\(y1.2.1<(ln l6)/\(let l8:List U7q:=(List.set l6 (tN y1.2.1) ((List.getD l6 (tN y1.2.1) (0,(0,(0,(0,(0,[])))))).1,((List.getD l6 (tN y1.2.1) (0,(0,(0,(0,(0,[])))))).2.1,((List.getD l6 (tN y1.2.1) (0,(0,(0,(0,(0,[])))))).2.2.1,((List.getD l6 (tN y1.2.1) (0,(0,(0,(0,(0,[])))))).2.2.2.1,((List.getD l6 (tN y1.2.1) (0,(0,(0,(0,(0,[])))))).2.2.2.2.1,r7.1))))));(eS [(0,.val false [.own T2q 2])] [(0,.val false [.own T2q 2])]/\(mkI X0E X6J a0 a1 (wI ((wI ((wI ((wI ((wI ((wI (y1.1+(1:Int)))+(1:Int)))+(1:Int)))+(1:Int)))+(1:Int)))+(1:Int))) (wI (y1.2.1+(1:Int))) l8)/\(mkM a0 a1 (wI ((wI ((wI ((wI ((wI ((wI (y1.1+(1:Int)))+(1:Int)))+(1:Int)))+(1:Int)))+(1:Int)))+(1:Int))) (wI (y1.2.1+(1:Int))) l8)<(mkM a0 a1 y1.1 y1.2.1 y1.2.2))))))))))))))))))))) (Eq (y1.1,((),y1.2.2)) ((X6N a0 a1).1,((),(X6N a0 a1).2))))))
def X0Y.L(a0:(List U7q))(a1:Int):Nat->Option X0e:=XLK [(26,⟨⟨[0],[1,5],[],[kC 0 0 2 64]⟩,(.pair (.int .i64) (.pair (.int .i64) (.list T2q))),λst y=>mkI X0E X6J a0 a1 y.1 y.2.1 y.2.2,λst y=>mkM a0 a1 y.1 y.2.1 y.2.2⟩)]
theorem X0Y.p(a0:(List U7q))(a1:Int)(h:(X5H a0 a1))(hw:Wf X5S.A (a0,a1)):X0Y.F a0 a1:=by
 delta X0Y.F ln tN wI eS
 obtain⟨p1,p2⟩:=h
 have hw1:a0.length<=9223372036854775807:=hw.1.1
 simp only[Bs,B0,B1,Yaa,X01]
 refine⟨⟨by omega,by omega,by simp[cL],by simp[mL]⟩,?_⟩
 rintro⟨k,i,l⟩ hI
 simp only at hI ⊢
 have hl:=XmL hI
 have h2:=hI.1
 have h3:=hI.2
 refine⟨λhi0=>?_,λhi0=>?_⟩
 . have hi:i<(a0.length:Int):=by omega
   have hi':i.toNat<l.length:=by omega
   have hg:=XrO (d:=((0:Int),((0:Int),((0:Int),((0:Int),((0:Int),([]:U6q))))))) hI hi
   have hs:=X5i X0E ((0:Int),((0:Int),((0:Int),((0:Int),((0:Int),([]:U6q)))))) (l:=a0) (i:=i.toNat) (by omega)
   have hk:=hI.3
   have c1:=X46 X6G (a0.take i.toNat)
   have c2:=X46 X6G (a0.drop (i.toNat+1))
   have c3:=X6G (a0.getD i.toNat ((0:Int),((0:Int),((0:Int),((0:Int),((0:Int),([]:U6q)))))))
   have hmod:Int.tmod k 3=k % 3:=Yax (by omega)
   have hc:X0E (a0.getD i.toNat ((0:Int),((0:Int),((0:Int),((0:Int),((0:Int),([]:U6q)))))))=X0E (a0.getD i.toNat ((0:Int),((0:Int),((0:Int),((0:Int),((0:Int),([]:U6q))))))):=rfl
   conv at hc=>rhs;unfold X0E
   try simp only[hg,X22 hi',YbB,YaV]
   try simp (disch:=first | omega | simp_all) only[X22,YbB,YaV,hg,w64,pMT]
   repeat' (with_reducible (first | (refine And.intro ?_ ?_) | intro _))
   all_goals (try simp+zetaDelta (disch:=first | omega | simp_all) only[hg,X22,YbB,YaV,w64,pMT])
   all_goals (first | omega | exact Xi7 (d:=((0:Int),((0:Int),((0:Int),((0:Int),((0:Int),([]:U6q))))))) hI hi (by simp (disch:=omega) [X6J,hmod,Yax]<;>rfl) (by omega) | (unfold mkM;omega) | skip)
 . obtain⟨e1,e2⟩:=Xna hI (by omega)
   exact⟨e1,e2⟩
def X0Y.e:GE:=mE X5S func43 [3] [X15.e] [] (λi x=>X0Y.L x.1 x.2) (λi x=>X0Y.F x.1 x.2) λi x h _ hw=>X0Y.p x.1 x.2 h hw
def X4x(l:List U7q)(k:Int):Int:=fHd (cL X0E l) (oL X0E X61 l k) k
def X5J:Con:=cQ (.pair (.list T2q) (.int .i64)) [.one,.one] (.int .i64) [(false,1)] (λa=>(X5H a.1 a.2)) λa=>(X4x a.1 a.2)
def X10.F(a0:(List U7q))(a1:Int):Prop:=(eS [(0,.val false [.lst T2q a0 none])] [(0,.val false [.lst T2q a0 none])]/\((hdI X0E X61 a0 a1 a1 0)/\∀(y1:(Int×Int)),(hdI X0E X61 a0 a1 y1.1 y1.2)->(X00 (decide (y1.2<(ln a0))) (0<=y1.2/\(y1.2<(ln a0)/\(X00 (((List.getD a0 (tN y1.2) (0,(0,(0,(0,(0,[])))))).1)!=y1.1) (Eq ((-1),((),())) ((X4x a0 a1),((),()))) (0<=y1.2/\(y1.2<(ln a0)/\(X00 (((List.getD a0 (tN y1.2) (0,(0,(0,(0,(0,[])))))).2.1)!=(wI (y1.1+(1:Int)))) (Eq ((-1),((),())) ((X4x a0 a1),((),()))) (0<=y1.2/\(y1.2<(ln a0)/\(X00 (((List.getD a0 (tN y1.2) (0,(0,(0,(0,(0,[])))))).2.2.1)!=(wI ((wI (y1.1+(1:Int)))+(1:Int)))) (Eq ((-1),((),())) ((X4x a0 a1),((),()))) (0<=y1.2/\(y1.2<(ln a0)/\(X00 (((List.getD a0 (tN y1.2) (0,(0,(0,(0,(0,[])))))).2.2.2.1)!=(wI ((wI ((wI (y1.1+(1:Int)))+(1:Int)))+(1:Int)))) (Eq ((-1),((),())) ((X4x a0 a1),((),()))) (0<=y1.2/\(y1.2<(ln a0)/\(X00 (((List.getD a0 (tN y1.2) (0,(0,(0,(0,(0,[])))))).2.2.2.2.1)!=(wI ((wI ((wI ((wI (y1.1+(1:Int)))+(1:Int)))+(1:Int)))+(1:Int)))) (Eq ((-1),((),())) ((X4x a0 a1),((),()))) (0<=y1.2/\(y1.2<(ln a0)/\((pMT (wI ((wI ((wI ((wI ((wI (y1.1+(1:Int)))+(1:Int)))+(1:Int)))+(1:Int)))+(1:Int))))/\∀r2,(Eq r2 ((fMT (wI ((wI ((wI ((wI ((wI (y1.1+(1:Int)))+(1:Int)))+(1:Int)))+(1:Int)))+(1:Int)))),((),())))->(X00 (!(((List.getD a0 (tN y1.2) (0,(0,(0,(0,(0,[])))))).2.2.2.2.2)==r2.1)) (Eq ((-1),((),())) ((X4x a0 a1),((),()))) (eS [(0,.val false [.lst T2q a0 none])] [(0,.val false [.lst T2q a0 none])]/\(hdI X0E X61 a0 a1 (wI ((wI ((wI ((wI ((wI ((wI (y1.1+(1:Int)))+(1:Int)))+(1:Int)))+(1:Int)))+(1:Int)))+(1:Int))) (wI (y1.2+(1:Int))))/\(hdM a0 a1 (wI ((wI ((wI ((wI ((wI ((wI (y1.1+(1:Int)))+(1:Int)))+(1:Int)))+(1:Int)))+(1:Int)))+(1:Int))) (wI (y1.2+(1:Int))))<(hdM a0 a1 y1.1 y1.2))))))))))))))))))))) (Eq (y1.1,((),())) ((X4x a0 a1),((),()))))))
def X10.L(a0:(List U7q))(a1:Int):Nat->Option X0e:=XLK [(26,⟨⟨[0],[1,5],[],[]⟩,T0q,λst y=>hdI X0E X61 a0 a1 y.1 y.2,λst y=>hdM a0 a1 y.1 y.2⟩)]
theorem X10.p(a0:(List U7q))(a1:Int)(h:(X5H a0 a1))(hw:Wf X5J.A (a0,a1)):X10.F a0 a1:=by
 delta X10.F ln tN wI eS
 obtain⟨p1,p2⟩:=h
 have hw1:a0.length<=9223372036854775807:=hw.1.1
 simp only[Bs,B0,B1,Yaa,X01]
 refine⟨⟨by omega,by omega,by simp[cL],by simp⟩,?_⟩
 rintro⟨k,i⟩ hI
 simp only at hI ⊢
 have h2:=hI.1
 have h3:=hI.2
 refine⟨λhi=>?_,λhi=>Xnj hI hi⟩
 . have hs:=X5i X0E ((0:Int),((0:Int),((0:Int),((0:Int),((0:Int),([]:U6q)))))) (l:=a0) (i:=i.toNat) (by omega)
   have hk:=hI.3
   have c1:=X46 X6G (a0.take i.toNat)
   have c2:=X46 X6G (a0.drop (i.toNat+1))
   have c3:=X6G (a0.getD i.toNat ((0:Int),((0:Int),((0:Int),((0:Int),((0:Int),([]:U6q)))))))
   have hmod:Int.tmod k 3=k % 3:=Yax (by omega)
   have no:X61 (a0.getD i.toNat ((0:Int),((0:Int),((0:Int),((0:Int),((0:Int),([]:U6q))))))) k=false->-1=X4x a0 a1:=λho=>XrJ ((0:Int),((0:Int),((0:Int),((0:Int),((0:Int),([]:U6q)))))) hI hi ho
   have yes:X61 (a0.getD i.toNat ((0:Int),((0:Int),((0:Int),((0:Int),((0:Int),([]:U6q))))))) k=true->hdI X0E X61 a0 a1 (k+X0E (a0.getD i.toNat ((0:Int),((0:Int),((0:Int),((0:Int),((0:Int),([]:U6q)))))))) (i+1):=λho=>Xii ((0:Int),((0:Int),((0:Int),((0:Int),((0:Int),([]:U6q)))))) hI hi ho rfl
   generalize a0.getD i.toNat ((0:Int),((0:Int),((0:Int),((0:Int),((0:Int),([]:U6q))))))=x at*
   have hc:X0E x=X0E x:=rfl
   conv at hc=>rhs;unfold X0E
   simp only[X61]at no yes
   simp (disch:=omega) only[w64,pMT]
   repeat' (with_reducible (first | (refine And.intro ?_ ?_) | intro _))
   all_goals (first | omega | (unfold hdM;omega) | skip)
   all_goals (try simp (disch:=first | omega | assumption) only[X5a,X4U,w64,YaO]at*)
   all_goals (try simp (disch:=first | omega | assumption) only[X5a,X4U,w64,YaO]at*)
   all_goals (first | omega | grind)
def X10.e:GE:=mE X5J func46 [3] [X15.e] [] (λi x=>X10.L x.1 x.2) (λi x=>X10.F x.1 x.2) λi x h _ hw=>X10.p x.1 x.2 h hw
def Xcx(x:U1q):Nat:=(List.length x.2.2.2.1)+(X7G x.2.2.2.2.1)+(nL X2U x.2.2.2.2.2)
def XiT(x:U1q)(left:Int):Prop:=WfD T4q x/\0<=left/\left<=1048576
def XaD(x:U1q)(left:Int):Int:=fSz (Xcx x) left
def Xan:Con:=cQ (.pair T4q (.int .i64)) [.agg 8,.one] (.int .i64) [(false,1)] (λa=>(XiT a.1 a.2)) λa=>(XaD a.1 a.2)
def X4v.F(a0:U1q)(a1:Int):Prop:=((XdK a0.2.2.2.1 a1)/\∀r1,(Eq r1 ((X9R a0.2.2.2.1 a1),((),())))->(X00 (decide (r1.1<(0:Int))) (Eq ((-1),((),())) ((XaD a0 a1),((),()))) ((XeD (a0.2.2.2.2.1.1,(a0.2.2.2.2.1.2.1,a0.2.2.2.2.1.2.2)) r1.1)/\∀r2,(Eq r2 ((X9O (a0.2.2.2.2.1.1,(a0.2.2.2.2.1.2.1,a0.2.2.2.2.1.2.2)) r1.1),((),())))->(X00 (decide (r2.1<(0:Int))) (Eq ((-1),((),())) ((XaD a0 a1),((),()))) ((XbH a0.2.2.2.2.2 r2.1)/\∀r3,(Eq r3 ((X6H a0.2.2.2.2.2 r2.1),((),())))->(X00 (decide (r3.1<(0:Int))) (Eq ((-1),((),())) ((XaD a0 a1),((),()))) (Eq (r3.1,((),())) ((XaD a0 a1),((),())))))))))
theorem X4v.p(a0:U1q)(a1:Int)(h:(XiT a0 a1))(hw:Wf Xan.A (a0,a1)):X4v.F a0 a1:=by
 unfold X4v.F
 obtain⟨hwf,p1,p2⟩:=h
 have w3:WfD X7m a0.2.2.2.1:=hwf.2.2.2.1
 have w4:WfD T8q a0.2.2.2.2.1:=hwf.2.2.2.2.1
 have w5:WfD (.list T2q) a0.2.2.2.2.2:=hwf.2.2.2.2.2
 simp only[Bs,B0,B1,Yaa,X01,Xcx,XaD,XdK,X9R,XeD,X9O,XbH,X6H]
 repeat' (with_reducible (first | (refine And.intro ?_ ?_) | intro _))
 all_goals (try simp (disch:=omega) only[w64,wu8,tn0,tn1,tm1,tm2,Yab,Yad,Yai]at*)
 all_goals (try simp (disch:=omega) only[w64,wu8,tn0,tn1,tm1,tm2,Yab,Yad,Yai]at*)
 all_goals (try omega)
 all_goals (try grind[fSz])
def X4v.e:GE:=mE Xan func12 [3] [X32.e,X3Q.e,X1I.e] [] noL (λi x=>X4v.F x.1 x.2) λi x h _ hw=>X4v.p x.1 x.2 h hw
def Xax(x:U1q):Prop:=Xcx x<=1048576
def XaB(x:U1q):U1q:=x
def Xae:Con:=cW T4q [.agg 8] T4q [(true,8)] [(3,43),(5,109),(6,9),(7,64)] (λa=>(Xax a)) λa=>(XaB a)
def X4A.F(a0:U1q):Prop:=((Xd8 a0.2.2.2.1)/\∀r1,(Eq r1 ((Xbm a0.2.2.2.1),((),())))->((XcP (a0.2.2.2.2.1.1,(a0.2.2.2.2.1.2.1,a0.2.2.2.2.1.2.2)))/\∀r2,(Eq r2 ((XcT (a0.2.2.2.2.1.1,(a0.2.2.2.2.1.2.1,a0.2.2.2.2.1.2.2))),((),())))->((XbM a0.2.2.2.2.2)/\∀r3,(Eq r3 ((XaE a0.2.2.2.2.2),((),())))->(Eq ((a0.1,(a0.2.1,(a0.2.2.1,(r1.1,((r2.1.1,(r2.1.2.1,r2.1.2.2)),r3.1))))),((),())) ((XaB a0),((),()))))))
theorem X4A.p(a0:U1q)(h:(Xax a0))(hw:Wf Xae.A a0):X4A.F a0:=by
 unfold X4A.F
 have hp:Xcx a0<=1048576:=h
 simp only[Xcx]at hp
 simp only[Bs,B0,B1,Yaa,X01,Xcx,XaB,Xax,Xd8,Xbm,XcP,XcT,XbM,XaE]
 repeat' (with_reducible (first | (refine And.intro ?_ ?_) | intro _))
 all_goals (try simp (disch:=omega) only[w64,wu8,tn0,tn1,tm1,tm2,Yab,Yad,Yai]at*)
 all_goals (try simp (disch:=omega) only[w64,wu8,tn0,tn1,tm1,tm2,Yab,Yad,Yai]at*)
 all_goals (try omega)
 all_goals (try grind[])
def X4A.e:GE:=mE Xae func14 [31] [X2d.e,X3J.e,X1L.e] [] noL (λi x=>X4A.F x) λi x h _ hw=>X4A.p x h hw
instance dec_State:DecidableEq U1q:=by(iterate 20 (all_goals (first | infer_instance | refine @instDecidableEqProd _ _ ?_ ?_)))
def X56(a b:U1q):Bool:=decide (a=b)
def Xa0:Con:=cQ (.pair T4q T4q) [.agg 8,.agg 8] .bool [(false,1)] (λ_=>True) λa=>(X56 a.1 a.2)
def X4z.F(a0:U1q)(a1:U1q):Prop:=(X00 (a0.1 !=a1.1) (Eq (false,((),())) ((X56 a0 a1),((),()))) (X00 (a0.2.1 !=a1.2.1) (Eq (false,((),())) ((X56 a0 a1),((),()))) (X00 (a0.2.2.1 !=a1.2.2.1) (Eq (false,((),())) ((X56 a0 a1),((),()))) (True/\∀r1,(Eq r1 ((X5W a0.2.2.2.1 a1.2.2.2.1),((),())))->(X00 (!r1.1) (Eq (false,((),())) ((X56 a0 a1),((),()))) (True/\∀r2,(Eq r2 ((X8x (a0.2.2.2.2.1.1,(a0.2.2.2.2.1.2.1,a0.2.2.2.2.1.2.2)) (a1.2.2.2.2.1.1,(a1.2.2.2.2.1.2.1,a1.2.2.2.2.1.2.2))),((),())))->(X00 (!r2.1) (Eq (false,((),())) ((X56 a0 a1),((),()))) (True/\∀r3,(Eq r3 ((X5j a0.2.2.2.2.2 a1.2.2.2.2.2),((),())))->(X00 (!r3.1) (Eq (false,((),())) ((X56 a0 a1),((),()))) (Eq (true,((),())) ((X56 a0 a1),((),()))))))))))))
theorem X4z.p(a0:U1q)(a1:U1q)(h:True):X4z.F a0 a1:=by
 unfold X4z.F
 obtain⟨x1,x2,x3,x4,⟨x5,x6,x7⟩,x8⟩:=a0
 obtain⟨y1,y2,y3,y4,⟨y5,y6,y7⟩,y8⟩:=a1
 simp only[Bs,B0,B1,Yaa,X01,X56,X5W,X8x,X5j]
 repeat' (first | (refine And.intro ?_ ?_) | intro _)
 all_goals simp_all
def X4z.e:GE:=mE Xa0 func16 [4] [X2g.e,X3Y.e,X1J.e] [] noL (λi x=>X4z.F x.1 x.2) λi x h _ _=>X4z.p x.1 x.2 h
def X5g(x:U1q):Int:=cL X0B x.2.2.2.1+cL X0v x.2.2.2.2.1.2.1+cL XdE x.2.2.2.2.1.2.2+cL X0E x.2.2.2.2.2
def XlT(x:U1q)(k:Int):(U9q×((List U3q)×((List U6q)×(List U7q)))):=(mL X0B X9o x.2.2.2.1 k,(mL X0v X87 x.2.2.2.2.1.2.1 (k+cL X0B x.2.2.2.1),(mL XdE X7w x.2.2.2.2.1.2.2 (k+cL X0B x.2.2.2.1+cL X0v x.2.2.2.2.1.2.1),mL X0E X6J x.2.2.2.2.2 (k+cL X0B x.2.2.2.1+cL X0v x.2.2.2.2.1.2.1+cL XdE x.2.2.2.2.1.2.2))))
def XhO(x:U1q)(k:Int):Bool:=oL X0B X7C x.2.2.2.1 k&&oL X0v X71 x.2.2.2.2.1.2.1 (k+cL X0B x.2.2.2.1)&&oL XdE X70 x.2.2.2.2.1.2.2 (k+cL X0B x.2.2.2.1+cL X0v x.2.2.2.2.1.2.1)&&oL X0E X61 x.2.2.2.2.2 (k+cL X0B x.2.2.2.1+cL X0v x.2.2.2.2.1.2.1+cL XdE x.2.2.2.2.1.2.2)
def XeM(x:U1q)(k:Int):U1q:=(x.1,(x.2.1,(x.2.2.1,(mL X0B X9o x.2.2.2.1 k,((x.2.2.2.2.1.1,(mL X0v X87 x.2.2.2.2.1.2.1 (k+cL X0B x.2.2.2.1),mL XdE X7w x.2.2.2.2.1.2.2 (k+cL X0B x.2.2.2.1+cL X0v x.2.2.2.2.1.2.1))),mL X0E X6J x.2.2.2.2.2 (k+cL X0B x.2.2.2.1+cL X0v x.2.2.2.2.1.2.1+cL XdE x.2.2.2.2.1.2.2))))))
theorem XrB(x:U1q)(k:Int):XhO (XeM x k) k=true/\X5g (XeM x k)=X5g x:=by
 simp[XhO,XeM,X5g,(Xja Xn9 _ _).1,(Xja Xn9 _ _).2,(Xja XmU _ _).1,(Xja XmU _ _).2,(Xja Xmz _ _).1,(Xja Xmz _ _).2,(Xja Xk7 _ _).1,(Xja Xk7 _ _).2]
def X6E(x:U1q)(k:Int):Prop:=0<=k/\k+X5g x<=4611686018427387904
def X7r(x:U1q)(k:Int):Int×(U9q×((List U3q)×((List U6q)×(List U7q)))):=(k+X5g x,XlT x k)
def X83:Con:={A:=(.pair T4q (.int .i64)),shA:=[.agg 8,.one],backA:=[(3,43),(5,109),(6,9),(7,64)],B:=(.pair X7m (.pair X5m (.pair Xf4 (.list T2q)))),R:=(.int .i64),shR:=[(false,1)],pre:=λ_ a=>(X6E a.1 a.2),f:=some λ_ a=>((X7r a.1 a.2).1,((),(X7r a.1 a.2).2))}
def X2X.F(a0:U1q)(a1:Int):Prop:=((X6Q a0.2.2.2.1 a1)/\∀r1,(Eq r1 ((X8e a0.2.2.2.1 a1).1,((),(X8e a0.2.2.2.1 a1).2)))->((X8z (a0.2.2.2.2.1.1,(a0.2.2.2.2.1.2.1,a0.2.2.2.2.1.2.2)) r1.1)/\∀r2,(Eq r2 ((X8q (a0.2.2.2.2.1.1,(a0.2.2.2.2.1.2.1,a0.2.2.2.2.1.2.2)) r1.1).1,((),(X8q (a0.2.2.2.2.1.1,(a0.2.2.2.2.1.2.1,a0.2.2.2.2.1.2.2)) r1.1).2)))->((X5H a0.2.2.2.2.2 r2.1)/\∀r3,(Eq r3 ((X6N a0.2.2.2.2.2 r2.1).1,((),(X6N a0.2.2.2.2.2 r2.1).2)))->(Eq (r3.1,((),(r1.2.2,(r2.2.2.1,(r2.2.2.2,r3.2.2))))) ((X7r a0 a1).1,((),(X7r a0 a1).2))))))
theorem X2X.p(a0:U1q)(a1:Int)(h:(X6E a0 a1)):X2X.F a0 a1:=by
 unfold X2X.F
 obtain⟨p1,p2⟩:=h
 simp only[X5g,X6I]at p2
 have p3:=X46 X8B a0.2.2.2.1
 have p4:=X46 X6b a0.2.2.2.2.1.2.1
 have p5:=X46 X6c a0.2.2.2.2.1.2.2
 have p6:=X46 X6G a0.2.2.2.2.2
 simp only[Bs,B0,B1,Yaa,X01,X8e,X6Q,X8q,X8z,X6I,XiB,X6N,X5H,X5g,XlT,X7r]
 repeat' (with_reducible (first | (refine And.intro ?_ ?_) | intro _))
 all_goals (try simp only[<-Int.add_assoc])
 all_goals (first | omega | rfl | (refine Prod.ext ?_ rfl;simp only;omega) | skip)
def X2X.e:GE:=mE X83 func18 [3] [X1i.e,X2y.e,X0Y.e] [] noL (λi x=>X2X.F x.1 x.2) λi x h _ _=>X2X.p x.1 x.2 h
def X7t(x:U1q)(k:Int):Int:=fHd (X5g x) (XhO x k) k
def X7N:Con:=cQ (.pair T4q (.int .i64)) [.agg 8,.one] (.int .i64) [(false,1)] (λa=>(X6E a.1 a.2)) λa=>(X7t a.1 a.2)
def X31.F(a0:U1q)(a1:Int):Prop:=((X6Q a0.2.2.2.1 a1)/\∀r1,(Eq r1 ((X89 a0.2.2.2.1 a1),((),())))->(X00 (decide (r1.1<(0:Int))) (Eq ((-1),((),())) ((X7t a0 a1),((),()))) ((X8z (a0.2.2.2.2.1.1,(a0.2.2.2.2.1.2.1,a0.2.2.2.2.1.2.2)) r1.1)/\∀r2,(Eq r2 ((X9S (a0.2.2.2.2.1.1,(a0.2.2.2.2.1.2.1,a0.2.2.2.2.1.2.2)) r1.1),((),())))->(X00 (decide (r2.1<(0:Int))) (Eq ((-1),((),())) ((X7t a0 a1),((),()))) ((X5H a0.2.2.2.2.2 r2.1)/\∀r3,(Eq r3 ((X4x a0.2.2.2.2.2 r2.1),((),())))->(X00 (decide (r3.1<(0:Int))) (Eq ((-1),((),())) ((X7t a0 a1),((),()))) (Eq (r3.1,((),())) ((X7t a0 a1),((),())))))))))
theorem X31.p(a0:U1q)(a1:Int)(h:(X6E a0 a1))(hw:Wf X7N.A (a0,a1)):X31.F a0 a1:=by
 unfold X31.F
 obtain⟨p1,p2⟩:=h
 simp only[X5g,X6I]at p2
 have p3:=X46 X8B a0.2.2.2.1
 have p4:=X46 X6b a0.2.2.2.2.1.2.1
 have p5:=X46 X6c a0.2.2.2.2.1.2.2
 have p6:=X46 X6G a0.2.2.2.2.2
 simp only[Bs,B0,B1,Yaa,X01,X7t,X6Q,X89,X8z,X9S,X6I,XhZ,X5H,X4x,X5g,XhO]
 repeat' (with_reducible (first | (refine And.intro ?_ ?_) | intro _))
 all_goals (try simp (disch:=first | omega | assumption) only[X5a,X4U,YaO]at*)
 all_goals (try simp (disch:=first | omega | assumption) only[X5a,X4U,YaO]at*)
 all_goals (try simp (disch:=first | omega | assumption) only[X5a,X4U,YaO]at*)
 all_goals (try simp (disch:=first | omega | assumption) only[X5a,X4U,YaO]at*)
 all_goals (try simp (disch:=first | omega | assumption) only[X5a,X4U,YaO]at*)
 all_goals (try simp (disch:=first | omega | assumption) only[X5a,X4U,YaO]at*)
 all_goals (first | omega | (unfold fHd;grind) | skip)
def X31.e:GE:=mE X7N func19 [3] [X1h.e,X2z.e,X10.e] [] noL (λi x=>X31.F x.1 x.2) λi x h _ hw=>X31.p x.1 x.2 h hw
abbrev Pt:=Int×Int
abbrev Ser:=List UInt8×List (Int×Int)
def Xau(a:Int):Bool:=fIn a 0 1099511627776
def Xha(p:Nat->Bool)(n:Nat):Bool:=(List.range n).all p
theorem Xcs{p:Nat->Bool}{n:Nat}(h:∀j,j<n->p j=true):Xha p n=true:=by
 simp only[Xha,Ya6,YbQ];exact h
theorem Xnh{p:Nat->Bool}{n j:Nat}(h:j<n)(hp:p j=false):Xha p n=false:=by
 cases e:Xha p n with
 | false=>rfl
 | true=>
   simp only[Xha,Ya6,YbQ]at e
   rw[e j h]at hp;cases hp
theorem XbG{p:Nat->Bool}{i:Int}(h0:0<=i)(h:∀j,j<i.toNat->p j=true)(hp:p i.toNat=true):∀j,j<(i+1).toNat->p j=true:=λj hj=>by
 by_cases e:j=i.toNat
 . rw[e];exact hp
 . exact h j (by omega)
def Xhz(l:List Pt)(i:Nat):Bool:=fIn (l.getD i (0,0)).1 0 1099511627776&&(fIn (l.getD i (0,0)).2 (-1099511627776) 1099511627776&&(decide (i=0)||decide ((l.getD (i - 1) (0,0)).1<(l.getD i (0,0)).1)))
def X0K(l:List Pt):Bool:=decide (l.length<=60)&&Xha (Xhz l) l.length
def ptI(l:List Pt)(i:Int):Prop:=0<=i/\i<=l.length/\∀j,j<i.toNat->Xhz l j=true
def ptM(l:List Pt)(i:Int):Nat:=(l.length - i).toNat
theorem Xuq{l:List Pt}{j:Nat}(h:j<l.length)(hp:Xhz l j=false):false=X0K l:=by simp[X0K,Xnh h hp]
def XpQ(s:List UInt8)(i:Nat):Bool:=decide ((97:Int)<=((s.getD i 0).toNat:Int))&&decide (((s.getD i 0).toNat:Int)<=122)
def X6w(s:List UInt8):Bool:=fIn s.length 1 8&&Xha (XpQ s) s.length
def chI(s:List UInt8)(i:Int):Prop:=0<=i/\i<=s.length/\∀j,j<i.toNat->XpQ s j=true
def chM(s:List UInt8)(i:Int):Nat:=(s.length - i).toNat
theorem XuD{s:List UInt8}{j:Nat}(h:j<s.length)(hp:XpQ s j=false):false=X6w s:=by simp[X6w,Xnh h hp]
def Xmd(l:List Ser)(i:Nat):Bool:=X6w (l.getD i ([],[])).1&&((decide (i=0)||Op.bytesLess (l.getD (i - 1) ([],[])).1 (l.getD i ([],[])).1)&&(decide ((l.getD i ([],[])).2.length≠0)&&X0K (l.getD i ([],[])).2))
def X0M(l:List Ser):Bool:=decide (l.length<=5)&&Xha (Xmd l) l.length
def srI(l:List Ser)(i:Int):Prop:=0<=i/\i<=l.length/\∀j,j<i.toNat->Xmd l j=true
def srM(l:List Ser)(i:Int):Nat:=(l.length - i).toNat
theorem XuY{l:List Ser}{j:Nat}(h:j<l.length)(hp:Xmd l j=false):false=X0M l:=by simp[X0M,Xnh h hp]
def Xb9:Con:=cQ (.int .i64) [.one] .bool [(false,1)] (λ_=>True) λa=>(Xau a)
def X4d.F(a0:Int):Prop:=(True/\∀r1,(Eq r1 ((fIn a0 0 1099511627776),((),())))->(Eq (r1.1,((),())) ((Xau a0),((),()))))
theorem X4d.p(a0:Int)(h:True):X4d.F a0:=by
 unfold X4d.F
 simp only[YbJ,Ybw,Ybn,Yaa]
 rfl
def X4d.e:GE:=mE Xb9 func49 [4] [X0V.e] [] noL (λi x=>X4d.F x) λi x h _ _=>X4d.p x h
def X9n:Con:=cQ X7m [.one] .bool [(false,1)] (λ_=>True) λa=>(X0K a)
def X1C.F(a0:U9q):Prop:=(X00 (decide ((ln a0)>(60:Int))) (Eq (false,((),())) ((X0K a0),((),()))) (eS [(0,.val false [.lst T0q a0 none])] [(0,.val false [.lst T0q a0 none])]/\((ptI a0 0)/\∀(y1:Int),(ptI a0 y1)->(X00 (decide (y1<(ln a0))) (0<=y1/\(y1<(ln a0)/\(True/\∀r2,(Eq r2 ((fIn ((List.getD a0 (tN y1) (0,0)).1) 0 1099511627776),((),())))->(X00 (!r2.1) (Eq (false,((),())) ((X0K a0),((),()))) (0<=y1/\(y1<(ln a0)/\(True/\∀r3,(Eq r3 ((fIn ((List.getD a0 (tN y1) (0,0)).2) (-1099511627776) 1099511627776),((),())))->(X00 (!r3.1) (Eq (false,((),())) ((X0K a0),((),()))) (X00 (decide (y1>(0:Int))) (0<=(wI (y1 - (1:Int)))/\((wI (y1 - (1:Int)))<(ln a0)/\(0<=y1/\(y1<(ln a0)/\(X00 (decide (((List.getD a0 (tN (wI (y1 - (1:Int)))) (0,0)).1)>=((List.getD a0 (tN y1) (0,0)).1))) (Eq (false,((),())) ((X0K a0),((),()))) (eS [(0,.val false [.lst T0q a0 none])] [(0,.val false [.lst T0q a0 none])]/\(ptI a0 (wI (y1+(1:Int))))/\(ptM a0 (wI (y1+(1:Int))))<(ptM a0 y1))))))) (eS [(0,.val false [.lst T0q a0 none])] [(0,.val false [.lst T0q a0 none])]/\(ptI a0 (wI (y1+(1:Int))))/\(ptM a0 (wI (y1+(1:Int))))<(ptM a0 y1))))))))))) (Eq (true,((),())) ((X0K a0),((),())))))))
def X1C.L(a0:U9q):Nat->Option X0e:=XLK [(58,⟨⟨[0],[3],[],[]⟩,(.int .i64),λst y=>ptI a0 y,λst y=>ptM a0 y⟩)]
theorem X1C.p(a0:U9q)(h:True)(hw:Wf X9n.A a0):X1C.F a0:=by
 delta X1C.F ln tN wI eS
 have hw1:a0.length<=maxLen:=hw.1
 unfold maxLen at hw1
 simp only[YbJ,Ybw,Ybn,X01,Yaa,Yaj,Yay,YaP,Ybl]
 refine⟨λh1=>?_,λh1=>⟨⟨by omega,by omega,λj hj=>absurd hj (by simp)⟩,?_⟩⟩
 . have:¬a0.length<=60:=by omega
   simp[X0K,this]
 rintro i ⟨h2,h3,h4⟩
 have fin:¬i<(a0.length:Int)->true=X0K a0:=λhi=>by
  have:Xha (Xhz a0) a0.length=true:=Xcs λj hj=>h4 j (by omega)
  have h60:a0.length<=60:=by omega
  simp[X0K,this,h60]
 refine⟨?_,fin⟩
 intro hi
 have e2:IntKind.wrap .i64 (i+1)=i+1:=Yau _ (by omega)
 have e1:IntKind.wrap .i64 (i - 1)=i - 1:=Yau _ (by omega)
 have e3:(i - 1).toNat=i.toNat - 1:=by omega
 rw[e1,e2,e3]
 have no:Xhz a0 i.toNat=false->false=X0K a0:=λhp=>Xuq (by omega) hp
 have yes:Xhz a0 i.toNat=true->ptI a0 (i+1)/\ptM a0 (i+1)<ptM a0 i:=λhp=>⟨⟨by omega,by omega,XbG h2 h4 hp⟩,by unfold ptM;omega⟩
 refine⟨h2,hi,λt1=>no (by unfold Xhz;rw[t1];rfl),λt1=>⟨h2,hi,?_,λt2=>⟨λhp=>⟨by omega,by omega,h2,hi,?_,?_⟩,λhp=>?_⟩⟩⟩
 . intro t2;exact no (by unfold Xhz;rw[t1,t2];rfl)
 . intro t3;exact no (by unfold Xhz;rw[t1,t2,Yaw (by omega:¬i.toNat=0),Yaw (by omega)];rfl)
 . intro t3;exact yes (by unfold Xhz;rw[t1,t2,Yaz (by omega:(a0.getD (i.toNat - 1) (0,0)).1<(a0.getD i.toNat (0,0)).1),Ycp];rfl)
 . exact yes (by unfold Xhz;rw[t1,t2,Yaz (by omega:i.toNat=0)];rfl)
def X1C.e:GE:=mE X9n func115 [4] [X29.e] [] (λi x=>X1C.L x) (λi x=>X1C.F x) λi x h _ hw=>X1C.p x h hw
def X8X:Con:=cQ X7m [.one] .bool [(false,1)] (λ_=>True) λa=>(X0K a)
def X27.F(a0:U9q):Prop:=(eS [(0,.val false [.lst T0q a0 none]),(5,.val false [.lst T0q a0 none]),(6,.val false [.int .i64 (ln a0)])] [(0,.val false [.lst T0q a0 none]),(5,.val false [.lst T0q a0 none]),(6,.val false [.int .i64 (ln a0)])]/\((ptI a0 0)/\∀(y1:Int),(ptI a0 y1)->(X00 (decide (y1<(ln a0))) (0<=y1/\(y1<(ln a0)/\(True/\∀r2,(Eq r2 ((fIn ((List.getD a0 (tN y1) (0,0)).1) 0 1099511627776),((),())))->(X00 (!r2.1) (Eq (false,((),())) ((X0K a0),((),()))) (True/\∀r3,(Eq r3 ((fIn ((List.getD a0 (tN y1) (0,0)).2) (-1099511627776) 1099511627776),((),())))->(X00 (!r3.1) (Eq (false,((),())) ((X0K a0),((),()))) (X00 (decide (y1>(0:Int))) (0<=(wI (y1 - (1:Int)))/\((wI (y1 - (1:Int)))<(ln a0)/\(X00 (decide (((List.getD a0 (tN (wI (y1 - (1:Int)))) (0,0)).1)>=((List.getD a0 (tN y1) (0,0)).1))) (Eq (false,((),())) ((X0K a0),((),()))) (eS [(0,.val false [.lst T0q a0 none]),(5,.val false [.lst T0q a0 none]),(6,.val false [.int .i64 (ln a0)])] [(0,.val false [.lst T0q a0 none]),(5,.val false [.lst T0q a0 none]),(6,.val false [.int .i64 (ln a0)])]/\(ptI a0 (wI (y1+(1:Int))))/\(ptM a0 (wI (y1+(1:Int))))<(ptM a0 y1))))) (eS [(0,.val false [.lst T0q a0 none]),(5,.val false [.lst T0q a0 none]),(6,.val false [.int .i64 (ln a0)])] [(0,.val false [.lst T0q a0 none]),(5,.val false [.lst T0q a0 none]),(6,.val false [.int .i64 (ln a0)])]/\(ptI a0 (wI (y1+(1:Int))))/\(ptM a0 (wI (y1+(1:Int))))<(ptM a0 y1))))))))) (Eq ((decide ((ln a0)<=(60:Int))),((),())) ((X0K a0),((),()))))))
def X27.L(a0:U9q):Nat->Option X0e:=XLK [(26,⟨⟨[0,5,6],[7],[],[]⟩,(.int .i64),λst y=>ptI a0 y,λst y=>ptM a0 y⟩)]
theorem X27.p(a0:U9q)(h:True)(hw:Wf X8X.A a0):X27.F a0:=by
 delta X27.F ln tN wI eS
 have hw1:a0.length<=maxLen:=hw.1
 unfold maxLen at hw1
 simp only[YbJ,Ybw,Ybn,X01,Yaa,Yaj,Yay,YaP,Ybl]
 refine⟨⟨by omega,by omega,λj hj=>absurd hj (by simp)⟩,?_⟩
 rintro i ⟨h2,h3,h4⟩
 have fin:¬i<(a0.length:Int)->decide ((a0.length:Int)<=60)=X0K a0:=λhi=>by
  have:Xha (Xhz a0) a0.length=true:=Xcs λj hj=>h4 j (by omega)
  simp[X0K,this];omega
 refine⟨?_,fin⟩
 intro hi
 have e2:IntKind.wrap .i64 (i+1)=i+1:=Yau _ (by omega)
 have e1:IntKind.wrap .i64 (i - 1)=i - 1:=Yau _ (by omega)
 have e3:(i - 1).toNat=i.toNat - 1:=by omega
 rw[e1,e2,e3]
 have no:Xhz a0 i.toNat=false->false=X0K a0:=λhp=>Xuq (by omega) hp
 have yes:Xhz a0 i.toNat=true->ptI a0 (i+1)/\ptM a0 (i+1)<ptM a0 i:=λhp=>⟨⟨by omega,by omega,XbG h2 h4 hp⟩,by unfold ptM;omega⟩
 refine⟨h2,hi,λt1=>no (by unfold Xhz;rw[t1];rfl),λt1=>⟨?_,λt2=>⟨λhp=>⟨by omega,by omega,?_,?_⟩,λhp=>?_⟩⟩⟩
 . intro t2;exact no (by unfold Xhz;rw[t1,t2];rfl)
 . intro t3;exact no (by unfold Xhz;rw[t1,t2,Yaw (by omega:¬i.toNat=0),Yaw (by omega)];rfl)
 . intro t3;exact yes (by unfold Xhz;rw[t1,t2,Yaz (by omega:(a0.getD (i.toNat - 1) (0,0)).1<(a0.getD i.toNat (0,0)).1),Ycp];rfl)
 . exact yes (by unfold Xhz;rw[t1,t2,Yaz (by omega:i.toNat=0)];rfl)
def X27.e:GE:=mE X8X func152 [4] [X0V.e] [] (λi x=>X27.L x) (λi x=>X27.F x) λi x h _ hw=>X27.p x h hw
def XfD(s:List UInt8):Prop:=s.length<=maxLen
def Xcd:Con:=cQ .str [.one] .bool [(false,1)] (λa=>(XfD a)) λa=>(X6w a)
def X41.F(a0:U6q):Prop:=(True/\∀r1,(Eq r1 ((fIn (ln a0) 1 8),((),())))->(X00 (!r1.1) (Eq (false,((),())) ((X6w a0),((),()))) (eS [(0,.val false [.str a0])] [(0,.val false [.str a0])]/\((chI a0 0)/\∀(y2:Int),(chI a0 y2)->(X00 (decide (y2<(ln a0))) (0<=y2/\(y2<(ln a0)/\(X00 (decide (((UInt8.toNat (List.getD a0 (tN y2) 0):Nat):Int)<(97:Int))) (Eq (false,((),())) ((X6w a0),((),()))) (0<=y2/\(y2<(ln a0)/\(X00 (decide (((UInt8.toNat (List.getD a0 (tN y2) 0):Nat):Int)>(122:Int))) (Eq (false,((),())) ((X6w a0),((),()))) (eS [(0,.val false [.str a0])] [(0,.val false [.str a0])]/\(chI a0 (wI (y2+(1:Int))))/\(chM a0 (wI (y2+(1:Int))))<(chM a0 y2)))))))) (Eq (true,((),())) ((X6w a0),((),()))))))))
def X41.L(a0:U6q):Nat->Option X0e:=XLK [(58,⟨⟨[0],[3],[],[]⟩,(.int .i64),λst y=>chI a0 y,λst y=>chM a0 y⟩)]
theorem X41.p(a0:U6q)(h:(XfD a0)):X41.F a0:=by
 delta X41.F ln tN wI eS
 have hw1:a0.length<=maxLen:=h
 unfold maxLen at hw1
 simp only[YbJ,Ybw,Ybn,X01,Yaa,Yaj,Yay,YaP,Ybl]
 refine⟨λh1=>by simp[X6w,h1],λh1=>⟨⟨by omega,by omega,λj hj=>absurd hj (by simp)⟩,?_⟩⟩
 have hin:¬(a0.length:Int)>8:=by
  simp only[fIn,Yac,Yaj]at h1;omega
 rintro i ⟨h2,h3,h4⟩
 have fin:¬i<(a0.length:Int)->true=X6w a0:=λhi=>by
  have:Xha (XpQ a0) a0.length=true:=Xcs λj hj=>h4 j (by omega)
  simp[X6w,this,h1]
 refine⟨?_,fin⟩
 intro hi
 have e2:IntKind.wrap .i64 (i+1)=i+1:=Yau _ (by omega)
 rw[e2]
 have no:XpQ a0 i.toNat=false->false=X6w a0:=λhp=>XuD (by omega) hp
 refine⟨h2,hi,λt1=>no (by unfold XpQ;rw[Yaw (by omega)];rfl),λt1=>⟨h2,hi,λt2=>no (by unfold XpQ;rw[Yaw (p:=_<=(122:Int)) (by omega),YbK]),λt2=>?_⟩⟩
 exact⟨⟨by omega,by omega,XbG h2 h4 (by unfold XpQ;rw[Yaz (by omega),Yaz (by omega)];rfl)⟩,by unfold chM;omega⟩
def X41.e:GE:=mE Xcd func106 [4] [X29.e] [] (λi x=>X41.L x) (λi x=>X41.F x) λi x h _ _=>X41.p x h
def Xc1:Con:=cQ .str [.one] .bool [(false,1)] (λa=>(XfD a)) λa=>(X6w a)
def X4c.F(a0:U6q):Prop:=(eS [(0,.val false [.str a0]),(5,.val false [.int .i64 (ln a0)])] [(0,.val false [.str a0]),(5,.val false [.int .i64 (ln a0)])]/\((chI a0 0)/\∀(y1:Int),(chI a0 y1)->(X00 (decide (y1<(ln a0))) (0<=y1/\(y1<(ln a0)/\(X00 (decide (((UInt8.toNat (List.getD a0 (tN y1) 0):Nat):Int)<(97:Int))) (Eq (false,((),())) ((X6w a0),((),()))) (0<=y1/\(y1<(ln a0)/\(X00 (decide (((UInt8.toNat (List.getD a0 (tN y1) 0):Nat):Int)>(122:Int))) (Eq (false,((),())) ((X6w a0),((),()))) (eS [(0,.val false [.str a0]),(5,.val false [.int .i64 (ln a0)])] [(0,.val false [.str a0]),(5,.val false [.int .i64 (ln a0)])]/\(chI a0 (wI (y1+(1:Int))))/\(chM a0 (wI (y1+(1:Int))))<(chM a0 y1)))))))) (True/\∀r2,(Eq r2 ((fIn (ln a0) 1 8),((),())))->(Eq (r2.1,((),())) ((X6w a0),((),())))))))
def X4c.L(a0:U6q):Nat->Option X0e:=XLK [(26,⟨⟨[0,5],[6],[],[]⟩,(.int .i64),λst y=>chI a0 y,λst y=>chM a0 y⟩)]
theorem X4c.p(a0:U6q)(h:(XfD a0)):X4c.F a0:=by
 delta X4c.F ln tN wI eS
 have hw1:a0.length<=maxLen:=h
 unfold maxLen at hw1
 simp only[YbJ,Ybw,Ybn,X01,Yaa,Yaj,Yay,YaP,Ybl]
 refine⟨⟨by omega,by omega,λj hj=>absurd hj (by simp)⟩,?_⟩
 rintro i ⟨h2,h3,h4⟩
 have fin:¬i<(a0.length:Int)->fIn (a0.length:Int) 1 8=X6w a0:=λhi=>by
  have:Xha (XpQ a0) a0.length=true:=Xcs λj hj=>h4 j (by omega)
  simp[X6w,this]
 refine⟨?_,fin⟩
 intro hi
 have e2:IntKind.wrap .i64 (i+1)=i+1:=Yau _ (by omega)
 rw[e2]
 have no:XpQ a0 i.toNat=false->false=X6w a0:=λhp=>XuD (by omega) hp
 refine⟨h2,hi,λt1=>no (by unfold XpQ;rw[Yaw (by omega)];rfl),λt1=>⟨h2,hi,λt2=>no (by unfold XpQ;rw[Yaw (p:=_<=(122:Int)) (by omega),YbK]),λt2=>?_⟩⟩
 exact⟨⟨by omega,by omega,XbG h2 h4 (by unfold XpQ;rw[Yaz (by omega),Yaz (by omega)];rfl)⟩,by unfold chM;omega⟩
def X4c.e:GE:=mE Xc1 func97 [4] [X0V.e] [] (λi x=>X4c.L x) (λi x=>X4c.F x) λi x h _ _=>X4c.p x h
def X3s(l:List Ser):Prop:=∀s∈l,s.1.length<=maxLen
theorem XrP{l:List Ser}(h:X3s l){i:Int}(h0:0<=i)(hi:i<l.length):XfD (l.getD i.toNat ([],[])).1:=by
 have hlt:i.toNat<l.length:=by omega
 rw[Yap,Yav hlt]
 exact h _ (YcX hlt)
def X9d:Con:=cQ X5m [.one] .bool [(false,1)] (λa=>(X3s a)) λa=>(X0M a)
def X1z.F(a0:(List U3q)):Prop:=(X00 (decide ((ln a0)>(5:Int))) (Eq (false,((),())) ((X0M a0),((),()))) (eS [(0,.val false [.lst T5q a0 none])] [(0,.val false [.lst T5q a0 none])]/\((srI a0 0)/\∀(y1:Int),(srI a0 y1)->(X00 (decide (y1<(ln a0))) (0<=y1/\(y1<(ln a0)/\((XfD ((List.getD a0 (tN y1) ([],[])).1))/\∀r2,(Eq r2 ((X6w ((List.getD a0 (tN y1) ([],[])).1)),((),())))->(X00 (!r2.1) (Eq (false,((),())) ((X0M a0),((),()))) (X00 (decide (y1>(0:Int))) (0<=(wI (y1 - (1:Int)))/\((wI (y1 - (1:Int)))<(ln a0)/\(0<=y1/\(y1<(ln a0)/\(X00 (!Op.bytesLess ((List.getD a0 (tN (wI (y1 - (1:Int)))) ([],[])).1) ((List.getD a0 (tN y1) ([],[])).1)) (Eq (false,((),())) ((X0M a0),((),()))) (0<=y1/\(y1<(ln a0)/\(X00 ((ln ((List.getD a0 (tN y1) ([],[])).2))==(0:Int)) (Eq (false,((),())) ((X0M a0),((),()))) (0<=y1/\(y1<(ln a0)/\(True/\∀r3,(Eq r3 ((X0K ((List.getD a0 (tN y1) ([],[])).2)),((),())))->(X00 (!r3.1) (Eq (false,((),())) ((X0M a0),((),()))) (eS [(0,.val false [.lst T5q a0 none])] [(0,.val false [.lst T5q a0 none])]/\(srI a0 (wI (y1+(1:Int))))/\(srM a0 (wI (y1+(1:Int))))<(srM a0 y1)))))))))))))) (0<=y1/\(y1<(ln a0)/\(X00 ((ln ((List.getD a0 (tN y1) ([],[])).2))==(0:Int)) (Eq (false,((),())) ((X0M a0),((),()))) (0<=y1/\(y1<(ln a0)/\(True/\∀r4,(Eq r4 ((X0K ((List.getD a0 (tN y1) ([],[])).2)),((),())))->(X00 (!r4.1) (Eq (false,((),())) ((X0M a0),((),()))) (eS [(0,.val false [.lst T5q a0 none])] [(0,.val false [.lst T5q a0 none])]/\(srI a0 (wI (y1+(1:Int))))/\(srM a0 (wI (y1+(1:Int))))<(srM a0 y1)))))))))))))) (Eq (true,((),())) ((X0M a0),((),())))))))
def X1z.L(a0:(List U3q)):Nat->Option X0e:=XLK [(58,⟨⟨[0],[3],[],[]⟩,(.int .i64),λst y=>srI a0 y,λst y=>srM a0 y⟩)]
theorem X1z.p(a0:(List U3q))(h:(X3s a0))(hw:Wf X9d.A a0):X1z.F a0:=by
 delta X1z.F ln tN wI eS
 have hw1:a0.length<=maxLen:=hw.1
 unfold maxLen at hw1
 simp only[YbJ,Ybw,Ybn,X01,Yaa,Yaj,Yay,YaP,Ybl]
 refine⟨λh1=>?_,λh1=>⟨⟨by omega,by omega,λj hj=>absurd hj (by simp)⟩,?_⟩⟩
 . have:¬a0.length<=5:=by omega
   simp[X0M,this]
 rintro i ⟨h2,h3,h4⟩
 have fin:¬i<(a0.length:Int)->true=X0M a0:=λhi=>by
  have:Xha (Xmd a0) a0.length=true:=Xcs λj hj=>h4 j (by omega)
  have h60:a0.length<=5:=by omega
  simp[X0M,this,h60]
 refine⟨?_,fin⟩
 intro hi
 have e2:IntKind.wrap .i64 (i+1)=i+1:=Yau _ (by omega)
 have e1:IntKind.wrap .i64 (i - 1)=i - 1:=Yau _ (by omega)
 have e3:(i - 1).toNat=i.toNat - 1:=by omega
 rw[e1,e2,e3]
 have no:Xmd a0 i.toNat=false->false=X0M a0:=λhp=>XuY (by omega) hp
 have yes:Xmd a0 i.toNat=true->srI a0 (i+1)/\srM a0 (i+1)<srM a0 i:=λhp=>⟨⟨by omega,by omega,XbG h2 h4 hp⟩,by unfold srM;omega⟩
 have hk:=XrP h h2 hi
 generalize hx:a0.getD i.toNat ([],[])=x at*
 generalize hy:a0.getD (i.toNat - 1) ([],[])=y at*
 have hsr:Xmd a0 i.toNat=(X6w x.1&&((decide (i.toNat=0)||Op.bytesLess y.1 x.1)&&(decide (x.2.length≠0)&&X0K x.2))):=by unfold Xmd;rw[hx,hy]
 refine⟨h2,hi,hk,λt1=>no (by rw[hsr,t1];rfl),λt1=>⟨λhp=>⟨by omega,by omega,h2,hi,λt2=>no ?_,λt2=>⟨h2,hi,λt3=>no ?_,λt3=>⟨h2,hi,λt4=>no ?_,λt4=>yes ?_⟩⟩⟩,λhp=>⟨h2,hi,λt3=>no ?_,λt3=>⟨h2,hi,λt4=>no ?_,λt4=>yes ?_⟩⟩⟩⟩
 . rw[hsr,t1,Yaw (by omega),t2];rfl
 . rw[hsr,Yaw (p:=x.2.length≠0) (by simp at t3;simp[t3])];simp
 . rw[hsr,t4];simp
 . have t5:x.2.length≠0:=by simp at t3;simpa using t3
   rw[hsr,t1,t2,t4,Yaz t5];simp
 . rw[hsr,Yaw (p:=x.2.length≠0) (by simp at t3;simp[t3])];simp
 . rw[hsr,t4];simp
 . have t5:x.2.length≠0:=by simp at t3;simpa using t3
   rw[hsr,t1,t4,Yaz t5,Yaz (by omega:i.toNat=0)];simp
def X1z.e:GE:=mE X9d func67 [4] [X41.e,X1C.e] [] (λi x=>X1z.L x) (λi x=>X1z.F x) λi x h _ hw=>X1z.p x h hw
def X8T:Con:=cQ X5m [.one] .bool [(false,1)] (λa=>(X3s a)) λa=>(X0M a)
def X28.F(a0:(List U3q)):Prop:=(eS [(0,.val false [.lst T5q a0 none]),(5,.val false [.lst T5q a0 none]),(6,.val false [.int .i64 (ln a0)])] [(0,.val false [.lst T5q a0 none]),(5,.val false [.lst T5q a0 none]),(6,.val false [.int .i64 (ln a0)])]/\((srI a0 0)/\∀(y1:Int),(srI a0 y1)->(X00 (decide (y1<(ln a0))) (0<=y1/\(y1<(ln a0)/\((XfD ((List.getD a0 (tN y1) ([],[])).1))/\∀r2,(Eq r2 ((X6w ((List.getD a0 (tN y1) ([],[])).1)),((),())))->(X00 (!r2.1) (Eq (false,((),())) ((X0M a0),((),()))) (True/\∀r3,(Eq r3 ((X0K ((List.getD a0 (tN y1) ([],[])).2)),((),())))->(X00 (!r3.1) (Eq (false,((),())) ((X0M a0),((),()))) (X00 ((ln ((List.getD a0 (tN y1) ([],[])).2))==(0:Int)) (Eq (false,((),())) ((X0M a0),((),()))) (X00 (decide (y1>(0:Int))) (0<=(wI (y1 - (1:Int)))/\((wI (y1 - (1:Int)))<(ln a0)/\(X00 (!Op.bytesLess ((List.getD a0 (tN (wI (y1 - (1:Int)))) ([],[])).1) ((List.getD a0 (tN y1) ([],[])).1)) (Eq (false,((),())) ((X0M a0),((),()))) (eS [(0,.val false [.lst T5q a0 none]),(5,.val false [.lst T5q a0 none]),(6,.val false [.int .i64 (ln a0)])] [(0,.val false [.lst T5q a0 none]),(5,.val false [.lst T5q a0 none]),(6,.val false [.int .i64 (ln a0)])]/\(srI a0 (wI (y1+(1:Int))))/\(srM a0 (wI (y1+(1:Int))))<(srM a0 y1))))) (eS [(0,.val false [.lst T5q a0 none]),(5,.val false [.lst T5q a0 none]),(6,.val false [.int .i64 (ln a0)])] [(0,.val false [.lst T5q a0 none]),(5,.val false [.lst T5q a0 none]),(6,.val false [.int .i64 (ln a0)])]/\(srI a0 (wI (y1+(1:Int))))/\(srM a0 (wI (y1+(1:Int))))<(srM a0 y1)))))))))) (Eq ((decide ((ln a0)<=(5:Int))),((),())) ((X0M a0),((),()))))))
def X28.L(a0:(List U3q)):Nat->Option X0e:=XLK [(26,⟨⟨[0,5,6],[7],[],[]⟩,(.int .i64),λst y=>srI a0 y,λst y=>srM a0 y⟩)]
theorem X28.p(a0:(List U3q))(h:(X3s a0))(hw:Wf X8T.A a0):X28.F a0:=by
 delta X28.F ln tN wI eS
 have hw1:a0.length<=maxLen:=hw.1
 unfold maxLen at hw1
 simp only[YbJ,Ybw,Ybn,X01,Yaa,Yaj,Yay,YaP,Ybl]
 refine⟨⟨by omega,by omega,λj hj=>absurd hj (by simp)⟩,?_⟩
 rintro i ⟨h2,h3,h4⟩
 have fin:¬i<(a0.length:Int)->decide ((a0.length:Int)<=5)=X0M a0:=λhi=>by
  have:Xha (Xmd a0) a0.length=true:=Xcs λj hj=>h4 j (by omega)
  simp[X0M,this];omega
 refine⟨?_,fin⟩
 intro hi
 have e2:IntKind.wrap .i64 (i+1)=i+1:=Yau _ (by omega)
 have e1:IntKind.wrap .i64 (i - 1)=i - 1:=Yau _ (by omega)
 have e3:(i - 1).toNat=i.toNat - 1:=by omega
 rw[e1,e2,e3]
 have no:Xmd a0 i.toNat=false->false=X0M a0:=λhp=>XuY (by omega) hp
 have yes:Xmd a0 i.toNat=true->srI a0 (i+1)/\srM a0 (i+1)<srM a0 i:=λhp=>⟨⟨by omega,by omega,XbG h2 h4 hp⟩,by unfold srM;omega⟩
 have hk:=XrP h h2 hi
 generalize hx:a0.getD i.toNat ([],[])=x at*
 generalize hy:a0.getD (i.toNat - 1) ([],[])=y at*
 have hsr:Xmd a0 i.toNat=(X6w x.1&&((decide (i.toNat=0)||Op.bytesLess y.1 x.1)&&(decide (x.2.length≠0)&&X0K x.2))):=by unfold Xmd;rw[hx,hy]
 refine⟨h2,hi,hk,λt1=>no (by rw[hsr,t1];rfl),λt1=>⟨λt4=>no ?_,λt4=>⟨λt3=>no ?_,λt3=>⟨λhp=>⟨by omega,by omega,λt2=>no ?_,λt2=>yes ?_⟩,λhp=>yes ?_⟩⟩⟩⟩
 . rw[hsr,t4];simp
 . rw[hsr,Yaw (p:=x.2.length≠0) (by simp at t3;simp[t3])];simp
 . rw[hsr,t1,Yaw (by omega),t2];rfl
 . have t5:x.2.length≠0:=by simp at t3;simpa using t3
   rw[hsr,t1,t2,t4,Yaz t5];simp
 . have t5:x.2.length≠0:=by simp at t3;simpa using t3
   rw[hsr,t1,t4,Yaz t5,Yaz (by omega:i.toNat=0)];simp
def X28.e:GE:=mE X8T func133 [4] [X4c.e,X27.e] [] (λi x=>X28.L x) (λi x=>X28.F x) λi x h _ hw=>X28.p x h hw
structure Xwp {K:Type} (lt:K->K->Bool):Prop where
 irr:∀a,lt a a=false
 tr:∀a b c,lt a b=true->lt b c=true->lt a c=true
 tri:∀a b,lt a b=true\/a=b\/lt b a=true
def Asc{K α:Type}(lt:K->K->Bool)(key:α->K)(l:List α):Prop:=l.Pairwise λx y=>lt (key x) (key y)=true
section
variable {K α:Type} {lt:K->K->Bool} {key:α->K}
theorem Xif(o:Xwp lt):∀{l r:List α},Asc lt key l->Asc lt key r->(∀x,x∈l↔x∈r)->l=r
 | [],[],_,_,_=>rfl
 | [],y::r,_,_,h=>absurd ((h y).2 (by simp)) (by simp)
 | x::l,[],_,_,h=>absurd ((h x).1 (by simp)) (by simp)
 | x::l,y::r,hl,hr,h=>by
   obtain⟨h1,h2⟩:=YaR.1 hl
   obtain⟨h3,h4⟩:=YaR.1 hr
   have e:x=y:=by
    rcases Yak.1 ((h x).1 (by simp)) with e | hx
    . exact e
    . rcases Yak.1 ((h y).2 (by simp)) with e | hy
      . exact e.symm
      . have:=o.tr _ _ _ (h1 y hy) (h3 x hx)
        rw[o.irr]at this;cases this
   subst e
   rw[Xif o h2 h4 λz=>⟨λhz=>?_,λhz=>?_⟩]
   . rcases Yak.1 ((h z).1 (by simp[hz])) with e | hz'
     . subst e;have:=h1 z hz;rw[o.irr]at this;cases this
     . exact hz'
   . rcases Yak.1 ((h z).2 (by simp[hz])) with e | hz'
     . subst e;have:=h3 z hz;rw[o.irr]at this;cases this
     . exact hz'
def pos(lt:K->K->Bool)(key:α->K)(k:K)(l:List α):Nat:=(l.takeWhile λx=>lt (key x) k).length
theorem Xpx(k:K)(l:List α):pos lt key k l<=l.length:=by
 unfold pos
 induction l with
 | nil=>simp
 | cons x l ih=>rw[YbE];split<;>simp;omega
theorem XsJ(k:K)(d:α):∀(l:List α) (i:Nat),i<pos lt key k l->lt (key (l.getD i d)) k=true
 | [],i,h=>by simp[pos]at h
 | x::l,i,h=>by
   unfold pos at h
   rw[YbE]at h
   split at h
   . rename_i hx
     cases i with
     | zero=>simpa using hx
     | succ i=>simp at h;simpa using XsJ k d l i h
   . simp at h
theorem Xra(k:K)(d:α):∀(l:List α),pos lt key k l<l.length->lt (key (l.getD (pos lt key k l) d)) k=false
 | [],h=>by simp at h
 | x::l,h=>by
   by_cases hx:lt (key x) k=true
   . have e:pos lt key k (x::l)=pos lt key k l+1:=by unfold pos;rw[YbE,Yah hx];rfl
     rw[e]at h ⊢
     simp at h
     simpa using Xra k d l h
   . have e:pos lt key k (x::l)=0:=by unfold pos;rw[YbE,Yae hx];rfl
     rw[e];simpa using hx
theorem XqL{k:K}{l:List α}{i:Nat}(d:α)(hi:i<=l.length)(h1:∀j,j<i->lt (key (l.getD j d)) k=true)(h2:∀j,i<=j->j<l.length->lt (key (l.getD j d)) k=false):pos lt key k l=i:=by
 rcases YcN (pos lt key k l) i with h | h | h
 . have a:=h1 _ h
   rw[Xra (lt:=lt) (key:=key) k d l (by omega)]at a;cases a
 . exact h
 . have a:=XsJ (lt:=lt) (key:=key) k d l i h
   have:=Xpx (lt:=lt) (key:=key) k l
   rw[h2 i (YaB _) (by omega)]at a;cases a
theorem X86(d:α){l:List α}(h:Asc lt key l){i j:Nat}(hij:i<j)(hj:j<l.length):lt (key (l.getD i d)) (key (l.getD j d))=true:=by
 have:=Yce.1 h i j (by omega) hj hij
 rw[X0O (by omega),X0O hj];exact this
theorem Xhe{k:K}{l:List α}{x:α}(h:x∈l.take (pos lt key k l)):lt (key x) k=true:=by
 obtain⟨i,hi,e⟩:=YaQ h
 rw[Yal]at hi
 have:=XsJ (lt:=lt) (key:=key) k x l i (by omega)
 rw[X0O (by omega)]at this
 rw[YcM]at e
 rw[<-e];exact this
theorem Xhf(o:Xwp lt){k:K}{l:List α}(ha:Asc lt key l){x:α}(h:x∈l.drop (pos lt key k l)):lt (key x) k=false:=by
 obtain⟨i,hi,e⟩:=YaQ h
 rw[Yar]at hi
 rw[List.getElem_drop]at e
 have hp:pos lt key k l<l.length:=by omega
 have h0:=Xra (lt:=lt) (key:=key) k x l hp
 cases i with
 | zero=>rw[X0O hp]at h0;rw[<-e];exact h0
 | succ i=>
   have h1:=X86 x ha (i:=pos lt key k l) (j:=pos lt key k l+(i+1)) (by omega) (by omega)
   rw[X0O (i:=pos lt key k l+(i+1)) (by omega)]at h1
   rw[e]at h1
   cases hx:lt (key x) k with
   | false=>rfl
   | true=>rw[o.tr _ _ _ h1 hx]at h0;cases h0
theorem Xuc{l:List α}(h:Asc lt key l)(n:Nat):Asc lt key (l.take n):=Yb9 (List.take_sublist n l) h
theorem XtP{l:List α}(h:Asc lt key l)(n:Nat):Asc lt key (l.drop n):=Yb9 (List.drop_sublist n l) h
theorem Xsv(o:Xwp lt){l:List α}(ha:Asc lt key l){p:α}(hp:∀x∈l,key x≠key p):Asc lt key (l.take (pos lt key (key p) l)++(p::l.drop (pos lt key (key p) l))):=by
 refine Yc7.2 ⟨Xuc ha _,YaR.2 ⟨λx hx=>?_,XtP ha _⟩,λx hx y hy=>?_⟩
 . have h1:=Xhf o ha hx
   rcases o.tri (key x) (key p) with h | h | h
   . rw[h]at h1;cases h1
   . exact absurd h (hp x (Yc6 hx))
   . exact h
 . have h1:=Xhe hx
   rcases Yak.1 hy with e | hy
   . subst e;exact h1
   . have h2:=Xhf o ha hy
     rcases o.tri (key y) (key p) with h | h | h
     . rw[h]at h2;cases h2
     . exact absurd h (hp y (Yc6 hy))
     . exact o.tr _ _ _ h1 h
theorem Xrp{l:List α}{n:Nat}{p x:α}:x∈l.take n++(p::l.drop n)↔x=p\/x∈l:=by
 conv=>rhs;rw[<-YaJ n l]
 simp only[Yaf,Yak]
 constructor
 . rintro (h | h | h)
   . exact .inr (.inl h)
   . exact .inl h
   . exact .inr (.inr h)
 . rintro (h | h | h)
   . exact .inr (.inl h)
   . exact .inl h
   . exact .inr (.inr h)
end
theorem XmE:Xwp (λa b:Int=>decide (a<b)):=⟨λa=>by simp,λa b c h1 h2=>by simp at*;omega,λa b=>by simp;omega⟩
theorem X7q(a b:UInt8)(x y:List UInt8):Op.bytesLess (a::x) (b::y)=(decide (a<b)||(decide (a=b)&&Op.bytesLess x y)):=by
 simp only[Op.bytesLess]
 rw[show(a==b)=decide (a=b) from by rw[YbI];simp]
theorem X6B:Xwp Op.bytesLess:=by
 refine⟨λa=>?_,λa=>?_,λa=>?_⟩
 . induction a with
   | nil=>rfl
   | cons x a ih=>rw[X7q,ih];simp
 . induction a with
   | nil=>intro b c h1 h2;cases b with
     | nil=>simp[Op.bytesLess]at h1
     | cons y b=>cases c with
       | nil=>simp[Op.bytesLess]at h2
       | cons z c=>rfl
   | cons x a ih=>intro b c h1 h2;cases b with
     | nil=>simp[Op.bytesLess]at h1
     | cons y b=>cases c with
       | nil=>simp[Op.bytesLess]at h2
       | cons z c=>
         rw[X7q]at*
         simp only[Ya7,Yac,Yaj]at*
         rcases h1 with h1 | ⟨rfl,h1⟩
         . rcases h2 with h2 | ⟨rfl,h2⟩
           . exact .inl (UInt8.lt_trans h1 h2)
           . exact .inl h1
         . rcases h2 with h2 | ⟨rfl,h2⟩
           . exact .inl h2
           . exact .inr ⟨rfl,ih _ _ h1 h2⟩
 . induction a with
   | nil=>intro b;cases b with
     | nil=>exact .inr (.inl rfl)
     | cons y b=>exact .inl rfl
   | cons x a ih=>intro b;cases b with
     | nil=>exact .inr (.inr rfl)
     | cons y b=>
       rw[X7q,X7q]
       simp only[Ya7,Yac,Yaj]
       rcases YcN x.toNat y.toNat with h | h | h
       . exact .inl (.inl (Yb3.2 h))
       . have h:=Ydv.1 h
         subst h
         rcases ih b with h | rfl | h
         . exact .inl (.inr ⟨rfl,h⟩)
         . exact .inr (.inl rfl)
         . exact .inr (.inr (.inr ⟨rfl,h⟩))
       . exact .inr (.inr (.inl (Yb3.2 h)))
abbrev ltI(a b:Int):Bool:=decide (a<b)
abbrev Xjn(l:List Pt):Prop:=Asc ltI Prod.fst l
def Xpl(l:List Pt)(t:Int):Bool:=l.any λx=>decide (x.1=t)
theorem XeP{l:List Pt}{t:Int}:Xpl l t=true↔∃x∈l,x.1=t:=by simp[Xpl]
def XlU(o:List Pt)(p:Pt):List Pt:=if Xpl o p.1 then o else o.take (pos ltI Prod.fst p.1 o)++(p::o.drop (pos ltI Prod.fst p.1 o))
theorem XlS{o:List Pt}(h:Xjn o)(p:Pt):Xjn (XlU o p):=by
 unfold XlU;split
 . exact h
 . rename_i hh
   refine Xsv XmE h λx hx e=>hh (XeP.2 ⟨x,hx,e⟩)
theorem Xdb{o:List Pt}{p x:Pt}:x∈XlU o p↔x∈o\/(x=p/\Xpl o p.1=false):=by
 unfold XlU;split
 . rename_i hh;simp[hh]
 . rename_i hh;rw[Xrp];simp only[YcU]at hh;simp[hh];exact Or.comm
theorem Xin(o:List Pt)(p:Pt):(XlU o p).length<=o.length+1:=by
 unfold XlU;split
 . omega
 . simp;omega
def Xlx(p:Pt):List Pt->List Pt
 | []=>[p]
 | x::l=>if p.1<=x.1 then p::(x::l).filter (λy=>!(y.1==p.1)) else x::Xlx p l
theorem Xlb{p x:Pt}:∀{l:List Pt},x∈Xlx p l↔x=p\/(x∈l/\x.1≠p.1)
 | []=>by simp[Xlx]
 | y::l=>by
   rw[Xlx];split
   . simp only[Yak,Ybz,YaP,YbF,ne_eq]
   . rename_i h
     simp only[Yak,Xlb (l:=l)]
     have:y.1≠p.1:=by omega
     constructor
     . rintro (rfl | rfl | ⟨h1,h2⟩)
       . exact .inr ⟨.inl rfl,this⟩
       . exact .inl rfl
       . exact .inr ⟨.inr h1,h2⟩
     . rintro (rfl | ⟨rfl | h1,h2⟩)
       . exact .inr (.inl rfl)
       . exact .inl rfl
       . exact .inr (.inr ⟨h1,h2⟩)
theorem XoW{p:Pt}:∀{l:List Pt},Xjn l->Xjn (Xlx p l)
 | [],_=>YcJ _ _
 | y::l,h=>by
   obtain⟨h1,h2⟩:=YaR.1 h
   rw[Xlx];split
   . rename_i hy
     refine YaR.2 ⟨λx hx=>?_,Yb9 Yc9 h⟩
     simp only[Ybz,Yak,YaP,YbF,ne_eq]at hx
     obtain⟨hx,hne⟩:=hx
     simp only[ltI,Yaj]at h1 ⊢
     rcases hx with rfl | hx
     . omega
     . have:=h1 x hx;omega
   . rename_i hy
     refine YaR.2 ⟨λx hx=>?_,XoW h2⟩
     rcases Xlb.1 hx with rfl | ⟨hx,_⟩
     . simp only[ltI,Yaj];omega
     . exact h1 x hx
theorem Xfn(p:Pt):∀l:List Pt,(Xlx p l).length<=l.length+1
 | []=>by simp[Xlx]
 | y::l=>by
   rw[Xlx];split
   . have:=Ycr (λy:Pt=>!(y.1==p.1)) (y::l)
     rw[Yad];omega
   . have:=Xfn p l
     simp only[Yad];omega
def X4f(a b:List Pt):List Pt:=b.foldl (λo p=>Xlx p o) a
theorem XiS(a:List Pt)(p:Pt)(b:List Pt):X4f a (p::b)=X4f (Xlx p a) b:=rfl
theorem X8C:∀{b a:List Pt},Xjn a->Xjn (X4f a b)
 | [],_,h=>h
 | p::b,a,h=>X8C (b:=b) (XoW h)
theorem X40{x:Pt}:∀{b a:List Pt},Xjn b->(x∈X4f a b↔x∈b\/(x∈a/\∀y∈b,y.1≠x.1))
 | [],a,_=>by simp[X4f]
 | p::b,a,h=>by
   obtain⟨h1,h2⟩:=YaR.1 h
   rw[XiS,X40 h2,Xlb]
   have hp:∀y∈b,y.1≠p.1:=λy hy=>by have:=h1 y hy;simp only[ltI,Yaj]at this;omega
   constructor
   . rintro (h3 | ⟨rfl | ⟨h3,h4⟩,h5⟩)
     . exact .inl (by simp[h3])
     . exact .inl (by simp)
     . exact .inr ⟨h3,λy hy=>by
        rcases Yak.1 hy with rfl | hy
        . exact λe=>h4 e.symm
        . exact h5 y hy⟩
   . rintro (h3 | ⟨h3,h4⟩)
     . rcases Yak.1 h3 with rfl | h3
       . exact .inr ⟨.inl rfl,hp⟩
       . exact .inl h3
     . exact .inr ⟨.inr ⟨h3,λe=>h4 p (by simp) e.symm⟩,λy hy=>h4 y (by simp[hy])⟩
theorem Xdp:∀(b a:List Pt),(X4f a b).length<=a.length+b.length
 | [],a=>by simp[X4f]
 | p::b,a=>by
   have h1:=Xdp b (Xlx p a)
   have h2:=Xfn p a
   rw[XiS,Yad];omega
theorem Xg9:∀{a b:List Pt},Xjn b->Xjn (a.foldl XlU b)
 | [],_,h=>h
 | p::a,b,h=>Xg9 (a:=a) (XlS h p)
theorem Xgl{x:Pt}:∀{a b:List Pt},Xjn a->(x∈a.foldl XlU b↔x∈b\/(x∈a/\Xpl b x.1=false))
 | [],b,_=>by simp
 | p::a,b,h=>by
   obtain⟨h1,h2⟩:=YaR.1 h
   rw[Ybp,Xgl h2,Xdb]
   have hp:∀y∈a,y.1≠p.1:=λy hy=>by have:=h1 y hy;simp only[ltI,Yaj]at this;omega
   have key:∀y∈a,(Xpl (XlU b p) y.1=false↔Xpl b y.1=false):=λy hy=>by
    rw[<-YcU,<-YcU,XeP,XeP]
    refine not_congr ⟨λ⟨z,hz,e⟩=>?_,λ⟨z,hz,e⟩=>⟨z,Xdb.2 (.inl hz),e⟩⟩
    rcases Xdb.1 hz with hz | ⟨rfl,_⟩
    . exact⟨z,hz,e⟩
    . exact absurd e.symm (hp y hy)
   constructor
   . rintro ((h3 | ⟨rfl,h3⟩) | ⟨h3,h4⟩)
     . exact .inl h3
     . exact .inr ⟨by simp,h3⟩
     . exact .inr ⟨by simp[h3],(key x h3).1 h4⟩
   . rintro (h3 | ⟨h3,h4⟩)
     . exact .inl (.inl h3)
     . rcases Yak.1 h3 with rfl | h3
       . exact .inl (.inr ⟨rfl,h4⟩)
       . exact .inr ⟨h3,(key x h3).2 h4⟩
theorem XsM{a b:List Pt}(ha:Xjn a)(hb:Xjn b):a.foldl XlU b=X4f a b:=by
 refine Xif XmE (Xg9 hb) (X8C ha) λx=>?_
 rw[Xgl ha,X40 hb,<-YcU,XeP]
 refine or_congr Yc2 (and_congr Yc2 ⟨λh y hy e=>h ⟨y,hy,e⟩,λh ⟨y,hy,e⟩=>h y hy e⟩)
def Xf2(l:List Pt):Prop:=Xjn l/\∀x∈l,0<=x.1/\x.1<=1099511627776
theorem Xdw{l:List Pt}(h:X0K l=true):Xf2 l/\l.length<=60:=by
 simp only[X0K,Yac,Yaj,Xha,Ya6,YbQ]at h
 obtain⟨h1,h2⟩:=h
 have hb:∀i,i<l.length->(0<=(l.getD i (0,0)).1/\(l.getD i (0,0)).1<=1099511627776)/\(i=0\/(l.getD (i - 1) (0,0)).1<(l.getD i (0,0)).1):=λi hi=>by
  have:=h2 i hi
  simp only[Xhz,Yac,Ya7,Yaj,fIn]at this
  exact⟨this.1,this.2.2⟩
 refine⟨⟨?_,λx hx=>?_⟩,h1⟩
 . have hs:∀(d:Nat) (i:Nat),i+d+1<l.length->(l.getD i (0,0)).1<(l.getD (i+d+1) (0,0)).1:=by
    intro d
    induction d with
    | zero=>intro i hi;have:=(hb (i+1) hi).2;simp at this;exact this
    | succ d ih=>
      intro i hi
      have a:=ih i (by omega)
      have c:=(hb (i+(d+1)+1) hi).2
      simp only[YcE]at c
      rcases c with c | c
      . omega
      . exact Int.lt_trans a c
   refine Yce.2 λi j hi hj hij=>?_
   have:=hs (j - i - 1) i (by omega)
   rw[show i+(j - i - 1)+1=j by omega,X0O hi,X0O hj]at this
   simpa using this
 . obtain⟨i,hi,e⟩:=YaQ hx
   have:=(hb i hi).1
   rw[X0O hi,e]at this
   exact this
theorem Xqq{a b:List Pt}(ha:Xf2 a)(hb:Xf2 b):Xf2 (X4f a b):=⟨X8C ha.1,λx hx=>by
 rcases(X40 hb.1).1 hx with h | ⟨h,_⟩
 . exact hb.2 x h
 . exact ha.2 x h⟩
def X1Z(l:List Pt)(lo hi:Int):List Pt:=l.filter λp=>decide (lo<=p.1)&&decide (p.1<hi)
theorem XeU{l:List Pt}{lo hi:Int}{x:Pt}:x∈X1Z l lo hi↔x∈l/\lo<=x.1/\x.1<hi:=by simp[X1Z]
theorem XgU{l:List Pt}(h:Xjn l)(lo hi:Int):Xjn (X1Z l lo hi):=Yb9 Yc9 h
abbrev Xgt(l:List Ser):Prop:=Asc Op.bytesLess Prod.fst l
def X8F(l:List Ser)(k:List UInt8):Bool:=l.any λx=>decide (x.1=k)
theorem X7J{l:List Ser}{k:List UInt8}:X8F l k=true↔∃x∈l,x.1=k:=by simp[X8F]
def X4M(l:List Ser)(k:List UInt8):List Pt:=match l.find? λx=>decide (x.1=k) with
 | some x=>x.2
 | none=>[]
theorem XmC(k:List UInt8):X4M [] k=[]:=rfl
theorem X3l(x:Ser)(l:List Ser)(k:List UInt8):X4M (x::l) k=if x.1=k then x.2 else X4M l k:=by
 unfold X4M
 rw[List.find?_cons]
 by_cases h:x.1=k<;>simp[h]
theorem XeS{l:List Ser}{k:List UInt8}(h:X8F l k=false):X4M l k=[]:=by
 induction l with
 | nil=>rfl
 | cons x l ih=>
   simp only[X8F,List.any_cons,Yct,Yay]at h
   rw[X3l,Yae h.1];exact ih h.2
theorem XdX{l:List Ser}(h:Xgt l){x:Ser}:x∈l↔X8F l x.1=true/\X4M l x.1=x.2:=by
 induction l with
 | nil=>simp[X8F]
 | cons y l ih=>
   obtain⟨h1,h2⟩:=YaR.1 h
   rw[Yak,ih h2,X3l,X7J,X7J]
   constructor
   . rintro (rfl | ⟨⟨z,hz,e⟩,h4⟩)
     . exact⟨⟨x,by simp,rfl⟩,by simp⟩
     . have:y.1≠x.1:=λe2=>by have:=h1 z hz;rw[e,<-e2,X6B.irr]at this;cases this
       exact⟨⟨z,by simp[hz],e⟩,by rw[Yae this];exact h4⟩
   . rintro⟨⟨z,hz,e⟩,h4⟩
     by_cases hy:y.1=x.1
     . rw[Yah hy]at h4
       exact .inl (Prod.ext hy.symm h4.symm)
     . rw[Yae hy]at h4
       rcases Yak.1 hz with rfl | hz
       . exact absurd e hy
       . exact .inr ⟨⟨z,hz,e⟩,h4⟩
theorem XlD{l r:List Ser}(hl:Xgt l)(hr:Xgt r)(h1:∀k,X8F l k=X8F r k)(h2:∀k,X4M l k=X4M r k):l=r:=
 Xif X6B hl hr λx=>by rw[XdX hl,XdX hr,h1,h2]
theorem Xrn{l:List Ser}{k:List UInt8}{p:Pt}(h:p∈X4M l k):∃x∈l,x.1=k/\p∈x.2:=by
 induction l with
 | nil=>cases h
 | cons x l ih=>
   rw[X3l]at h
   split at h
   . exact⟨x,by simp,‹_›,h⟩
   . obtain⟨y,hy,e⟩:=ih h;exact⟨y,by simp[hy],e⟩
theorem XkX{l:List Ser}(h:∀x∈l,Xf2 x.2)(k:List UInt8):Xf2 (X4M l k):=by
 induction l with
 | nil=>exact⟨List.Pairwise.nil,λx hx=>by cases hx⟩
 | cons x l ih=>
   rw[X3l];split
   . exact h x (by simp)
   . exact ih λy hy=>h y (by simp[hy])
theorem Xgf(a:List Pt):X4f a []=a:=rfl
theorem Xn1{b:List Pt}(h:Xjn b):X4f [] b=b:=Xif XmE (X8C List.Pairwise.nil) h λx=>by rw[X40 h];simp
def Xj2(l:List Ser)(s:Ser):List Ser:=if X8F l s.1 then l.set (pos Op.bytesLess Prod.fst s.1 l) ((l.getD (pos Op.bytesLess Prod.fst s.1 l) ([],[])).1,X4f (l.getD (pos Op.bytesLess Prod.fst s.1 l) ([],[])).2 s.2)
 else l.take (pos Op.bytesLess Prod.fst s.1 l)++(s::l.drop (pos Op.bytesLess Prod.fst s.1 l))
theorem XgL{l:List Ser}(ha:Xgt l){k:List UInt8}(h:X8F l k=true):pos Op.bytesLess Prod.fst k l<l.length/\(l.getD (pos Op.bytesLess Prod.fst k l) ([],[])).1=k:=by
 obtain⟨x,hx,e⟩:=X7J.1 h
 obtain⟨i,hi,e2⟩:=YaQ hx
 have hg:(l.getD i ([],[])).1=k:=by rw[X0O hi,e2];exact e
 have hp:pos Op.bytesLess Prod.fst k l=i:=by
  refine XqL ([],[]) (Nat.le_of_lt hi) (λj hj=>?_) (λj hj hjl=>?_)
  . have:=X86 ([],[]) ha hj hi
    rw[hg]at this;exact this
  . rcases Nat.lt_or_eq_of_le hj with hj | rfl
    . have:=X86 ([],[]) ha hj hjl
      rw[hg]at this
      cases hx2:Op.bytesLess (l.getD j ([],[])).1 k with
      | false=>rfl
      | true=>have:=X6B.tr _ _ _ this hx2;rw[X6B.irr]at this;cases this
    . rw[hg];exact X6B.irr _
 rw[hp];exact⟨hi,hg⟩
theorem Xnf{α:Type}(l:List α)(i:Nat)(d y:α)(h:i<l.length):l=l.take i++l.getD i d::l.drop (i+1)/\l.set i y=l.take i++y::l.drop (i+1):=by
 refine⟨?_,by rw[YcS,Yah h]⟩
 conv=>lhs;rw[<-YaJ i l,X3U d h]
theorem X8Y(x:Ser)(b:List Ser)(k:List UInt8):X8F (x::b) k=(decide (x.1=k)||X8F b k):=by simp[X8F]
theorem XbN(a b:List Ser)(k:List UInt8):X4M (a++b) k=if X8F a k then X4M a k else X4M b k:=by
 induction a with
 | nil=>simp[X8F]
 | cons x a ih=>
   rw[Ybb,X3l,X3l,ih,X8Y]
   by_cases h:x.1=k
   . simp[h]
   . simp[h]
theorem Xj0(a b:List Ser)(k:List UInt8):X8F (a++b) k=(X8F a k||X8F b k):=by simp[X8F]
theorem Xwd{a b:List Ser}{x y:Ser}(h:Xgt (a++x::b))(e:y.1=x.1):Xgt (a++y::b):=by
 simp only[Xgt,Asc,Yc7,YaR,Yak]at h ⊢
 obtain⟨h1,⟨h2,h3⟩,h4⟩:=h
 refine⟨h1,⟨λz hz=>by rw[e];exact h2 z hz,h3⟩,λp hp q hq=>?_⟩
 rcases hq with rfl | hq
 . rw[e];exact h4 p hp x (.inl rfl)
 . exact h4 p hp q (.inr hq)
theorem Xih{l:List Ser}(ha:Xgt l){s:Ser}(hs:Xjn s.2):Xgt (Xj2 l s)/\(∀k,X8F (Xj2 l s) k=(X8F l k||decide (s.1=k)))/\∀k,X4M (Xj2 l s) k=if s.1=k then X4f (X4M l k) s.2 else X4M l k:=by
 unfold Xj2
 split
 . rename_i h
   obtain⟨h1,h2⟩:=XgL ha h
   generalize pos Op.bytesLess Prod.fst s.1 l=i at*
   obtain⟨e1,e2⟩:=Xnf l i ([],[]) ((l.getD i ([],[])).1,X4f (l.getD i ([],[])).2 s.2) h1
   rw[e2]
   generalize l.getD i ([],[])=x at*
   generalize l.take i=a at*
   generalize l.drop (i+1)=b at*
   subst e1
   refine⟨Xwd ha rfl,λk=>?_,λk=>?_⟩
   . simp only[Xj0,X8Y,h2]
     cases X8F a k<;>cases decide (s.1=k)<;>cases X8F b k<;>rfl
   . rw[XbN,XbN,X3l,X3l]
     simp only[h2]
     by_cases hk:s.1=k
     . subst hk
       have hna:X8F a s.1=false:=by
        rw[Ybk];intro hh
        obtain⟨z,hz,e⟩:=X7J.1 hh
        have:=(Yc7.1 ha).2.2 z hz x (by simp)
        rw[e,h2,X6B.irr]at this;cases this
       simp[hna]
     . simp[hk]
 . rename_i h
   have hno:X8F l s.1=false:=by simpa using h
   have hp:∀x∈l,x.1≠s.1:=λx hx e=>by rw[X7J.2 ⟨x,hx,e⟩]at hno;cases hno
   refine⟨Xsv X6B ha hp,λk=>?_,λk=>?_⟩
   . conv=>rhs;rw[<-YaJ (pos Op.bytesLess Prod.fst s.1 l) l]
     simp only[Xj0,X8Y]
     cases X8F (l.take (pos Op.bytesLess Prod.fst s.1 l)) k<;>cases decide (s.1=k)<;>cases X8F (l.drop (pos Op.bytesLess Prod.fst s.1 l)) k<;>rfl
   . have e0:=XbN (l.take (pos Op.bytesLess Prod.fst s.1 l)) (l.drop (pos Op.bytesLess Prod.fst s.1 l)) k
     rw[YaJ]at e0
     rw[XbN,X3l,e0]
     by_cases hk:s.1=k
     . subst hk
       have hna:X8F (l.take (pos Op.bytesLess Prod.fst s.1 l)) s.1=false:=by
        rw[Ybk];intro hh
        obtain⟨z,hz,e⟩:=X7J.1 hh
        exact hp z (List.mem_of_mem_take hz) e
       have hnb:X8F (l.drop (pos Op.bytesLess Prod.fst s.1 l)) s.1=false:=by
        rw[Ybk];intro hh
        obtain⟨z,hz,e⟩:=X7J.1 hh
        exact hp z (Yc6 hz) e
       simp[hna,XeS hnb,Xn1 hs]
     . simp[hk]
def Xd0(l:List Ser):Prop:=Xgt l/\∀x∈l,Xf2 x.2
def cS(x:Ser):Int:=(x.2.length:Int)+1
theorem XsT(x:Ser):0<=cS x:=by unfold cS;omega
def tot(l:List Ser):Int:=cL cS l
theorem Xei(l:List Ser):0<=tot l:=X46 XsT l
theorem XaG(l:List Ser):(l.length:Int)<=tot l:=by
 unfold tot
 induction l with
 | nil=>simp[cL]
 | cons x l ih=>have e:cS x=(x.2.length:Int)+1:=rfl;rw[X4y,Yad];omega
theorem Xft{l:List Ser}{x:Ser}(h:x∈l):(x.2.length:Int)+1<=tot l:=by
 induction l with
 | nil=>cases h
 | cons y l ih=>
   have h1:=Xei l
   have h2:=XsT y
   unfold tot at*
   rw[X4y]
   rcases Yak.1 h with rfl | h
   . have e:cS x=(x.2.length:Int)+1:=rfl;omega
   . have:=ih h;omega
theorem XlC{l:List Ser}{s x:Ser}(h:x∈Xj2 l s):x∈l\/x=s\/∃y∈l,x=(y.1,X4f y.2 s.2):=by
 unfold Xj2 at h
 split at h
 . rename_i hh
   rcases List.mem_or_eq_of_mem_set h with h | h
   . exact .inl h
   . by_cases hi:pos Op.bytesLess Prod.fst s.1 l<l.length
     . exact .inr (.inr ⟨_,X1a hi,h⟩)
     . rw[List.set_eq_of_length_le (by omega)]at*
       exact .inl ‹_›
 . rcases Xrp.1 h with h | h
   . exact .inr (.inl h)
   . exact .inl h
theorem Xs0{l:List Ser}(h:Xd0 l){s:Ser}(hs:Xf2 s.2):Xd0 (Xj2 l s):=⟨(Xih h.1 hs.1).1,λx hx=>by
 rcases XlC hx with hx | rfl | ⟨y,hy,rfl⟩
 . exact h.2 x hx
 . exact hs
 . exact Xqq (h.2 y hy) hs⟩
theorem XoL{l:List Ser}(ha:Xgt l)(s:Ser):tot (Xj2 l s)<=tot l+cS s:=by
 unfold Xj2
 split
 . rename_i h
   obtain⟨h1,_⟩:=XgL ha h
   generalize pos Op.bytesLess Prod.fst s.1 l=i at*
   obtain⟨e1,e2⟩:=Xnf l i ([],[]) ((l.getD i ([],[])).1,X4f (l.getD i ([],[])).2 s.2) h1
   rw[e2]
   have hl:=Xdp s.2 (l.getD i ([],[])).2
   generalize l.getD i ([],[])=x at*
   generalize l.take i=a at*
   generalize l.drop (i+1)=b at*
   subst e1
   unfold tot
   simp only[XcO,X4y,cS];omega
 . have e0:tot l=cL cS (l.take (pos Op.bytesLess Prod.fst s.1 l))+cL cS (l.drop (pos Op.bytesLess Prod.fst s.1 l)):=by
    rw[<-XcO,YaJ];rfl
   rw[e0]
   unfold tot
   simp only[XcO,X4y];omega
def X4D(l top:List Ser):List Ser:=top.foldl Xj2 l
theorem XgT(l:List Ser)(s:Ser)(t:List Ser):X4D l (s::t)=X4D (Xj2 l s) t:=rfl
theorem X7l:∀{t l:List Ser},Xd0 l->(∀x∈t,Xf2 x.2)->Xd0 (X4D l t)
 | [],_,h,_=>h
 | s::t,l,h,ht=>X7l (t:=t) (Xs0 h (ht s (by simp))) λx hx=>ht x (by simp[hx])
theorem Xd1:∀{t l:List Ser},Xd0 l->(∀x∈t,Xf2 x.2)->tot (X4D l t)<=tot l+tot t
 | [],_,_,_=>by simp[X4D,tot,cL]
 | s::t,l,h,ht=>by
   have h1:=Xd1 (t:=t) (Xs0 h (ht s (by simp))) λx hx=>ht x (by simp[hx])
   have h2:=XoL h.1 s
   have h3:tot (s::t)=cS s+tot t:=X4y ..
   rw[XgT];omega
theorem X7n:∀{t l:List Ser},Xgt l->(∀x∈t,Xjn x.2)->Xgt t->∀k,X4M (X4D l t) k=X4f (X4M l k) (X4M t k)
 | [],_,_,_,_,k=>rfl
 | s::t,l,h,ht,ha,k=>by
   obtain⟨h1,h2⟩:=YaR.1 ha
   obtain⟨a1,a2,a3⟩:=Xih h (ht s (by simp))
   rw[XgT,X7n a1 (λx hx=>ht x (by simp[hx])) h2,a3,X3l]
   by_cases hk:s.1=k
   . subst hk
     have:X4M t s.1=[]:=XeS (by
      rw[Ybk];intro hh
      obtain⟨z,hz,e⟩:=X7J.1 hh
      have:=h1 z hz
      rw[e,X6B.irr]at this;cases this)
     rw[Yah rfl,Yah rfl,this,Xgf]
   . rw[Yae hk,Yae hk]
def X0X(l:List Ser)(f:Int):List Ser:=(l.map λx=>(x.1,X1Z x.2 f 1099511627777)).filter λx=>!x.2.isEmpty
theorem XgN(lo hi:Int):X1Z [] lo hi=[]:=rfl
theorem X5t{l:List Ser}(h:Xgt l)(f:Int):Xgt (X0X l f):=by
 refine Yb9 Yc9 ?_
 exact Ydl.2 h
theorem X4E{l:List Ser}(h:Xgt l)(f:Int)(k:List UInt8):X4M (X0X l f) k=X1Z (X4M l k) f 1099511627777/\X8F (X0X l f) k=!(X1Z (X4M l k) f 1099511627777).isEmpty:=by
 induction l with
 | nil=>exact⟨rfl,rfl⟩
 | cons x l ih=>
   obtain⟨h1,h2⟩:=YaR.1 h
   obtain⟨i1,i2⟩:=ih h2
   have hx:x.1=k->X8F l k=false:=λe=>by
    rw[Ybk];intro hh
    obtain⟨z,hz,e2⟩:=X7J.1 hh
    have:=h1 z hz
    rw[e,e2,X6B.irr]at this;cases this
   have e0:X0X (x::l) f=if (X1Z x.2 f 1099511627777).isEmpty then X0X l f else(x.1,X1Z x.2 f 1099511627777)::X0X l f:=by
    unfold X0X
    rw[Yaq,YcV]
    cases (X1Z x.2 f 1099511627777).isEmpty<;>rfl
   rw[e0,X3l]
   by_cases hk:x.1=k
   . have hn:=XeS (hx hk)
     rw[Yah hk]
     cases he:(X1Z x.2 f 1099511627777).isEmpty with
     | true=>
       rw[Yah rfl,i1,i2,hn,XgN]
       refine⟨(YcY.1 he).symm,rfl⟩
     | false=>
       rw[Yae (by decide),X3l,Yah hk,X8Y]
       exact⟨rfl,by simp[hk]⟩
   . rw[Yae hk]
     cases he:(X1Z x.2 f 1099511627777).isEmpty with
     | true=>rw[Yah rfl];exact⟨i1,i2⟩
     | false=>rw[Yae (by decide),X3l,Yae hk,X8Y,i1,i2];simp[hk]
theorem XkI{l:List Ser}{f:Int}{x:Ser}(h:x∈X0X l f):∃y∈l,x=(y.1,X1Z y.2 f 1099511627777):=by
 obtain⟨y,hy,e⟩:=YaM.1 (Ybz.1 h).1
 exact⟨y,hy,e.symm⟩
theorem XvE{l:List Pt}(h:Xf2 l)(lo hi:Int):Xf2 (X1Z l lo hi):=⟨XgU h.1 lo hi,λx hx=>h.2 x (XeU.1 hx).1⟩
theorem Xpw{l:List Ser}(h:Xd0 l)(f:Int):Xd0 (X0X l f):=⟨X5t h.1 f,λx hx=>by
 obtain⟨y,hy,rfl⟩:=XkI hx
 exact XvE (h.2 y hy) _ _⟩
theorem Xlr(l:List Pt)(lo hi:Int):(X1Z l lo hi).length<=l.length:=Ycr ..
theorem XkK:∀(l:List Ser) (f:Int),tot (X0X l f)<=tot l
 | [],f=>by simp[X0X,tot,cL]
 | x::l,f=>by
   have h1:=XkK l f
   have h2:=Xlr x.2 f 1099511627777
   have e0:X0X (x::l) f=if (X1Z x.2 f 1099511627777).isEmpty then X0X l f else(x.1,X1Z x.2 f 1099511627777)::X0X l f:=by
    unfold X0X
    rw[Yaq,YcV]
    cases (X1Z x.2 f 1099511627777).isEmpty<;>rfl
   have h3:tot (x::l)=cS x+tot l:=X4y ..
   have h4:tot ((x.1,X1Z x.2 f 1099511627777)::X0X l f)=cS (x.1,X1Z x.2 f 1099511627777)+tot (X0X l f):=X4y ..
   have h5:=XsT x
   rw[e0]
   split
   . omega
   . rw[h4];simp only[cS]at*;omega
def X4w(ls:List (List Ser)):List Ser:=ls.foldl X4D []
def XuQ(ls:List (List Ser))(k:List UInt8):List Pt:=ls.foldl (λo l=>X4f o (X4M l k)) []
theorem Xh2:∀(ls:List (List Ser)) (l:List Ser),Xd0 l->(∀x∈ls,Xd0 x)->∀k,X4M (ls.foldl X4D l) k=ls.foldl (λo l=>X4f o (X4M l k)) (X4M l k)
 | [],l,_,_,k=>rfl
 | t::ls,l,h,ht,k=>by
   have ht0:=ht t (by simp)
   rw[Ybp,Ybp,Xh2 ls (X4D l t) (X7l h ht0.2) (λx hx=>ht x (by simp[hx])),X7n h.1 (λx hx=>(ht0.2 x hx).1) ht0.1]
theorem XdJ:∀(ls:List (List Ser)) (l:List Ser),Xd0 l->(∀x∈ls,Xd0 x)->Xd0 (ls.foldl X4D l)
 | [],l,h,_=>h
 | t::ls,l,h,ht=>XdJ ls (X4D l t) (X7l h (ht t (by simp)).2) λx hx=>ht x (by simp[hx])
theorem Xgk:Xd0 []:=⟨List.Pairwise.nil,λx hx=>by cases hx⟩
theorem X39{l:List Ser}(h:X0M l=true):Xd0 l/\tot l<=305/\l.length<=5/\∀x∈l,x.1.length<=8/\x.2≠[]/\X0K x.2=true:=by
 simp only[X0M,Yac,Yaj,Xha,Ya6,YbQ]at h
 obtain⟨h5,h⟩:=h
 have hx:∀i,i<l.length->(l.getD i ([],[])).1.length<=8/\(i=0\/Op.bytesLess (l.getD (i - 1) ([],[])).1 (l.getD i ([],[])).1=true)/\(l.getD i ([],[])).2≠[]/\X0K (l.getD i ([],[])).2=true:=λi hi=>by
  have:=h i hi
  simp only[Xmd,Yac,Ya7,Yaj,X6w,fIn]at this
  refine⟨by omega,this.2.1,λe=>?_,this.2.2.2⟩
  rw[e]at this;simp at this
 have hm:∀x∈l,x.1.length<=8/\x.2≠[]/\X0K x.2=true:=λx hxl=>by
  obtain⟨i,hi,e⟩:=YaQ hxl
  have:=hx i hi
  rw[X0O hi,e]at this
  exact⟨this.1,this.2.2⟩
 refine⟨⟨?_,λx hxl=>(Xdw (hm x hxl).2.2).1⟩,?_,h5,hm⟩
 . have hs:∀(d:Nat) (i:Nat),i+d+1<l.length->Op.bytesLess (l.getD i ([],[])).1 (l.getD (i+d+1) ([],[])).1=true:=by
    intro d
    induction d with
    | zero=>intro i hi;have:=(hx (i+1) hi).2.1;simp at this;simpa using this
    | succ d ih=>
      intro i hi
      have a:=ih i (by omega)
      have c:=(hx (i+(d+1)+1) hi).2.1
      simp only[YcE]at c
      rcases c with c | c
      . omega
      . exact X6B.tr _ _ _ a c
   refine Yce.2 λi j hi hj hij=>?_
   have:=hs (j - i - 1) i (by omega)
   rw[show i+(j - i - 1)+1=j by omega,X0O hi,X0O hj]at this
   exact this
 . have:∀l:List Ser,(∀x∈l,X0K x.2=true)->tot l<=61*l.length:=λl=>by
    induction l with
    | nil=>intro _;simp[tot,cL]
    | cons x l ih=>
      intro hh
      have h1:=ih λy hy=>hh y (by simp[hy])
      have h2:=(Xdw (hh x (by simp))).2
      have h3:tot (x::l)=cS x+tot l:=X4y ..
      rw[h3,Yad];simp only[cS];omega
   have:=this l λx hxl=>(hm x hxl).2.2
   omega
theorem wu64{x:Int}(h:0<=x)(h':x<=18446744073709551615):IntKind.wrap .u64 x=x:=Go.IntWalk.u64_in _ ⟨h,h'⟩
def XjG(l:List Pt):Prop:=l.length<=1099511627776
def Xqz(l:List Pt):List Pt:=l
def XhB(x:Pt)(t:Int):Int:=IntKind.wrap .i64 (x.1 - t)
def pBs(l:List Pt)(t:Int)(u:Unit):Prop:=Xf2 l/\0<=t/\t<=1099511627776/\l.length<=1099511627776
def fBs(l:List Pt)(t:Int)(u:Unit):Int×Bool:=((pos ltI Prod.fst t l:Nat),Xpl l t)
structure bsI (l:List Pt) (t:Int) (u:Unit) (i j:Int):Prop where
 h1:0<=i
 h2:i<=j
 h3:j<=l.length
 h4:∀k,k<i.toNat->ltI (l.getD k (0,0)).1 t=true
 h5:∀k,j.toNat<=k->k<l.length->ltI (l.getD k (0,0)).1 t=false
def bsM(l:List Pt)(t:Int)(u:Unit)(i j:Int):Nat:=(j - i).toNat
theorem Xq5{l:List Pt}(h:Xf2 l){i:Nat}(hi:i<l.length):0<=(l.getD i (0,0)).1/\(l.getD i (0,0)).1<=1099511627776:=h.2 _ (X1a hi)
theorem Xwl{l:List Pt}{t:Int}{u:Unit}{i j k:Int}(h:Xf2 l)(hI:bsI l t u i j)(h1:i<=k)(h2:k<j)(hk:(l.getD k.toNat (0,0)).1<t):bsI l t u (k+1) j:=by
 obtain⟨q1,q2,q3,q4,q5⟩:=hI
 refine⟨by omega,by omega,q3,λx hx=>?_,q5⟩
 by_cases e:x=k.toNat
 . subst e;simpa using hk
 . have:=X86 (0,0) h.1 (i:=x) (j:=k.toNat) (by omega) (by omega)
   simp only[ltI,Yaj]at this ⊢;omega
theorem Xwa{l:List Pt}{t:Int}{u:Unit}{i j k:Int}(h:Xf2 l)(hI:bsI l t u i j)(h1:i<=k)(h2:k<j)(hk:¬(l.getD k.toNat (0,0)).1<t):bsI l t u i k:=by
 obtain⟨q1,q2,q3,q4,q5⟩:=hI
 refine⟨q1,h1,by omega,q4,λx hx hl=>?_⟩
 by_cases e:x=k.toNat
 . subst e;simpa using hk
 . have:=X86 (0,0) h.1 (i:=k.toNat) (j:=x) (by omega) hl
   simp only[ltI,Yaj,Yay]at this ⊢;omega
theorem Xp7{l:List Pt}{t:Int}{u:Unit}{i j:Int}(h:Xf2 l)(hI:bsI l t u i j)(hij:¬i<j):pos ltI Prod.fst t l=i.toNat/\Xpl l t=(decide (i<l.length)&&decide ((l.getD i.toNat (0,0)).1=t)):=by
 obtain⟨q1,q2,q3,q4,q5⟩:=hI
 have e:i=j:=by omega
 subst e
 refine⟨XqL (0,0) (by omega) q4 q5,?_⟩
 rw[YbI,XeP,Yac,Yaj,Yaj]
 constructor
 . rintro⟨x,hx,hxt⟩
   obtain⟨k,hk,e⟩:=YaQ hx
   rw[<-X0O (d:=(0,0)) hk]at e
   have a1:¬k<i.toNat:=λhh=>by have:=q4 k hh;rw[e]at this;simp at this;omega
   have a2:¬i.toNat<k:=λhh=>by
    have:=X86 (0,0) h.1 hh hk
    have a3:=q5 i.toNat (YaB _) (by omega)
    simp only[ltI,Yaj,Yay]at this a3
    rw[e]at this;omega
   have a4:k=i.toNat:=by omega
   subst a4
   exact⟨by omega,by rw[e];exact hxt⟩
 . rintro⟨h1,h2⟩
   exact⟨_,X1a (by omega),h2⟩
theorem half{a:Int}(h:0<=a)(h2:a<=4611686018427387904):Int.fdiv a (2 ^ min (Int.toNat 1) (IntKind.bits .u64))=a / 2:=by
 rw[show(2 ^ min (Int.toNat 1) (IntKind.bits .u64):Int)=2 from by decide]
 exact Ycw _ (by decide)
def X1T:Con:=cW X7m [.one] X7m [(false,1)] [(0,107)] (λa=>(XjG a)) λa=>(Xqz a)
def X0f.F(a0:U9q):Prop:=(∀(b1:Bool),(b1=true->a0=[])->(X00 b1 (Eq (([]:U9q),((),())) ((Xqz a0),((),()))) (List.length ([]:List (Int×Int))+List.length a0<=9223372036854775807/\((List.length ([]:List (Int×Int))+List.length a0)*16<=140737488355328/\(Eq ((([]:List (Int×Int))++a0),((),())) ((Xqz a0),((),())))))))
theorem X0f.p(a0:U9q)(h:(XjG a0))(hw:Wf X1T.A a0):X0f.F a0:=by
 unfold X0f.F
 have hp:a0.length<=1099511627776:=h
 simp only[Bs,B0,B1,Yaa,X01,Xqz,XjG]
 repeat' (with_reducible (first | (refine And.intro ?_ ?_) | intro _))
 all_goals (try simp (disch:=omega) only[w64,wu8,tn0,tn1,tm1,tm2,Yab,Yad,Yai]at*)
 all_goals (try simp (disch:=omega) only[w64,wu8,tn0,tn1,tm1,tm2,Yab,Yad,Yai]at*)
 all_goals (try omega)
 all_goals (try grind[])
 all_goals (try simp_all)
def X0f.e:GE:=mE X1T func177 [91] [] [] noL (λi x=>X0f.F x) λi x h _ hw=>X0f.p x h hw
def X9h:Con:=cQ (.pair T0q (.int .i64)) [.agg 2,.one] (.int .i64) [(false,1)] (λ_=>True) λa=>(XhB a.1 a.2)
def X38.F(a0:(Int×Int))(a1:Int):Prop:=(Eq ((wI (a0.1 - a1)),((),())) ((XhB a0 a1),((),())))
theorem X38.p(a0:(Int×Int))(a1:Int)(h:True)(hw:Wf X9h.A (a0,a1)):X38.F a0 a1:=by
 delta X38.F wI
 simp only[Bs,B0,B1,Yaa,X01,XhB,YaA]
 repeat' (with_reducible (first | (refine And.intro ?_ ?_) | intro _))
 all_goals (try simp (disch:=omega) only[w64,wu8,tn0,tn1,tm1,tm2,Yab,Yad,Yai]at*)
 all_goals (try simp (disch:=omega) only[w64,wu8,tn0,tn1,tm1,tm2,Yab,Yad,Yai]at*)
 all_goals (try omega)
 all_goals (try grind[])
def X38.e:GE:=mE X9h func212 [3] [] [] noL (λi x=>X38.F x.1 x.2) λi x h _ hw=>X38.p x.1 x.2 h hw
def X0F:Con:=cQ (.pair X7m (.pair (.int .i64) .unit)) [.one,.one,.clo 212 []] XrD [(false,1),(false,1)] (λa=>(pBs a.1 a.2.1 a.2.2)) λa=>(fBs a.1 a.2.1 a.2.2)
def X06.F(a0:U9q)(a1:Int)(a2:Unit):Prop:=(eS [(0,.val false [.lst T0q a0 none]),(1,.val false [.int .i64 a1]),(2,.fn 212 [] []),(8,.val false [.int .i64 (ln a0)])] [(0,.val false [.lst T0q a0 none]),(1,.val false [.int .i64 a1]),(2,.fn 212 [] []),(8,.val false [.int .i64 (ln a0)])]/\((bsI a0 a1 a2 0 (ln a0))/\∀(y1:(Int×Int)),(bsI a0 a1 a2 y1.1 y1.2)->(X00 (decide (y1.1<y1.2)) (0<=(1:Int)/\(0<=(wI (Int.fdiv (IntKind.wrap .u64 (wI (y1.1+y1.2))) (2 ^ (min (tN (1:Int)) (IntKind.bits .u64)))))/\((wI (Int.fdiv (IntKind.wrap .u64 (wI (y1.1+y1.2))) (2 ^ (min (tN (1:Int)) (IntKind.bits .u64)))))<(ln a0)/\(True/\∀r2,(Eq r2 ((XhB ((List.getD a0 (tN (wI (Int.fdiv (IntKind.wrap .u64 (wI (y1.1+y1.2))) (2 ^ (min (tN (1:Int)) (IntKind.bits .u64)))))) (0,0)).1,(List.getD a0 (tN (wI (Int.fdiv (IntKind.wrap .u64 (wI (y1.1+y1.2))) (2 ^ (min (tN (1:Int)) (IntKind.bits .u64)))))) (0,0)).2) a1),((),())))->(X00 (decide (r2.1<(0:Int))) (eS [(0,.val false [.lst T0q a0 none]),(1,.val false [.int .i64 a1]),(2,.fn 212 [] []),(8,.val false [.int .i64 (ln a0)])] [(0,.val false [.lst T0q a0 none]),(1,.val false [.int .i64 a1]),(2,.fn 212 [] []),(8,.val false [.int .i64 (ln a0)])]/\(bsI a0 a1 a2 (wI ((wI (Int.fdiv (IntKind.wrap .u64 (wI (y1.1+y1.2))) (2 ^ (min (tN (1:Int)) (IntKind.bits .u64)))))+(1:Int))) y1.2)/\(bsM a0 a1 a2 (wI ((wI (Int.fdiv (IntKind.wrap .u64 (wI (y1.1+y1.2))) (2 ^ (min (tN (1:Int)) (IntKind.bits .u64)))))+(1:Int))) y1.2)<(bsM a0 a1 a2 y1.1 y1.2)) (eS [(0,.val false [.lst T0q a0 none]),(1,.val false [.int .i64 a1]),(2,.fn 212 [] []),(8,.val false [.int .i64 (ln a0)])] [(0,.val false [.lst T0q a0 none]),(1,.val false [.int .i64 a1]),(2,.fn 212 [] []),(8,.val false [.int .i64 (ln a0)])]/\(bsI a0 a1 a2 y1.1 (wI (Int.fdiv (IntKind.wrap .u64 (wI (y1.1+y1.2))) (2 ^ (min (tN (1:Int)) (IntKind.bits .u64))))))/\(bsM a0 a1 a2 y1.1 (wI (Int.fdiv (IntKind.wrap .u64 (wI (y1.1+y1.2))) (2 ^ (min (tN (1:Int)) (IntKind.bits .u64))))))<(bsM a0 a1 a2 y1.1 y1.2))))))) (X00 (decide (y1.1<(ln a0))) (0<=y1.1/\(y1.1<(ln a0)/\(True/\∀r3,(Eq r3 ((XhB ((List.getD a0 (tN y1.1) (0,0)).1,(List.getD a0 (tN y1.1) (0,0)).2) a1),((),())))->(Eq ((y1.1,(r3.1==(0:Int))),((),())) ((fBs a0 a1 a2),((),())))))) (Eq ((y1.1,false),((),())) ((fBs a0 a1 a2),((),())))))))
def X06.L(a0:U9q)(a1:Int)(a2:Unit):Nat->Option X0e:=XLK [(60,⟨⟨[0,1,2,8],[9,10],[],[]⟩,T0q,λst y=>bsI a0 a1 a2 y.1 y.2,λst y=>bsM a0 a1 a2 y.1 y.2⟩)]
theorem X06.p(a0:U9q)(a1:Int)(a2:Unit)(h:(pBs a0 a1 a2)):X06.F a0 a1 a2:=by
 delta X06.F ln tN wI eS
 simp only[Bs,B0,B1,Yaa,X01,XhB,YaA]
 obtain⟨hp,ht0,ht1,hl⟩:=h
 refine⟨⟨by omega,by omega,by omega,by simp,λk h1 h2=>by omega⟩,?_⟩
 rintro⟨i,j⟩ hI
 simp only at hI ⊢
 have q1:=hI.h1
 have q2:=hI.h2
 have q3:=hI.h3
 refine⟨λhij=>?_,λhij=>?_⟩
 . rw[w64 (x:=i+j) (by omega) (by omega),wu64 (x:=i+j) (by omega) (by omega),half (by omega) (by omega),w64 (x:=(i+j) / 2) (by omega) (by omega)]
   have hk:=Xq5 hp (i:=((i+j) / 2).toNat) (by omega)
   rw[w64 (x:=(a0.getD ((i+j) / 2).toNat (0,0)).1 - a1) (by omega) (by omega),w64 (x:=(i+j) / 2+1) (by omega) (by omega)]
   refine⟨by omega,by omega,by omega,λh1=>⟨Xwl hp hI (by omega) (by omega) (by omega),by unfold bsM;omega⟩,λh1=>⟨Xwa hp hI (by omega) (by omega) (by omega),by unfold bsM;omega⟩⟩
 . obtain⟨e1,e2⟩:=Xp7 hp hI hij
   have e3:((i.toNat:Nat):Int)=i:=by omega
   refine⟨λh1=>⟨by omega,by omega,?_⟩,λh1=>?_⟩
   . have hk:=Xq5 hp (i:=i.toNat) (by omega)
     rw[w64 (by omega) (by omega)]
     simp only[fBs,e1,e2,e3,Yaz h1,YaT,Yaa,Ybw,Ybn]
     rw[YbI];simp;omega
   . simp only[fBs,e1,e2,e3,Yaw h1,Ybs]
def X06.e:GE:=mE X0F func211 [3,4] [X38.e] [] (λi x=>X06.L x.1 x.2.1 x.2.2) (λi x=>X06.F x.1 x.2.1 x.2.2) λi x h _ _=>X06.p x.1 x.2.1 x.2.2 h
section
open Go Go.Proofs.YtgmafgmjbaoomaaGreat.Bv Go.Proofs Go.Shelf Go.RowKit Go.Lib
structure Xhr (P:Program) (ρ:Ren):Prop where
 mixed:P.follows .mixedOrders=true
 f22:∃nm:String,(nm== "runtime.NumGoroutine")=false/\P.funcs[ρ.f 22]?=some {Body2.n22 ρ with name:=nm}
 f29:∃fo:Func,P.funcs[ρ.f 29]?=some fo/\(fo.name== "runtime.NumGoroutine")=false/\fo.body.isNone=true/\Extern.findNext fo=none/\Extern.find fo=some (Extern.SlicesOverlaps.overlaps #[ρ.t 24,ρ.t 24] #[ρ.t 4])
 t0:P.underlying (ρ.t 0)=some (TypeDesc.tuple #[])
 a0:∀w,(isAgg (ρ.t 0)).run P w=.ok false w
 z0:∀w,(Go.sizeOf (ρ.t 0)).run P w=.ok 1 w
 v0:∀w,(zeroValue (ρ.t 0)).run P w=.ok (Value.tuple #[]) w
 t3:P.underlying (ρ.t 3)=some (TypeDesc.int IntKind.i64)
 a3:∀w,(isAgg (ρ.t 3)).run P w=.ok false w
 z3:∀w,(Go.sizeOf (ρ.t 3)).run P w=.ok 1 w
 v3:∀w,(zeroValue (ρ.t 3)).run P w=.ok (Value.int IntKind.i64 0) w
 t4:P.underlying (ρ.t 4)=some (TypeDesc.bool)
 a4:∀w,(isAgg (ρ.t 4)).run P w=.ok false w
 z4:∀w,(Go.sizeOf (ρ.t 4)).run P w=.ok 1 w
 v4:∀w,(zeroValue (ρ.t 4)).run P w=.ok (Value.bool false) w
 z9:∀w,(Go.sizeOf (ρ.t 9)).run P w=.ok 2 w
 t24:P.underlying (ρ.t 24)=some (TypeDesc.slice (ρ.t 9))
 a24:∀w,(isAgg (ρ.t 24)).run P w=.ok false w
 z24:∀w,(Go.sizeOf (ρ.t 24)).run P w=.ok 1 w
 v24:∀w,(zeroValue (ρ.t 24)).run P w=.ok (Value.slice none 0 0) w
 i9:∃i z,P.info? (ρ.t 9)=some i/\i.zero=some z/\z.cells.size=i.size/\i.size=2
variable {P:Program} {ρ:Ren}
structure XvF (w w':World):Prop where
 heap:w'.heap=w.heap
 os:w'.os=w.os
 tape:w'.tape=w.tape
 output:w'.output=w.output
theorem XfZ(w:World){t t' ty e:TypeId}{k:Nat}(hu:P.underlying t=some (.slice e))(hsz:∀w,(Go.sizeOf e).run P w=.ok k w){g o nd dc ns sc q:Nat}{a:Addr}{us:List Value}{arr:Array Value}{E:TypeId}(hg:w.heap[g]?=some (.cells arr E (0,0)))(hul:us.length=q*k)(hq:Nat.min ns nd=q)(hsrc:∀j u,us[j]?=some u->w.cell? (a.add j)=some u)(hfit:o+us.length<=arr.size)(h1:∀u∈us,u.oneCell'=true):
 (Builtin.copy_ #[t,t'] ty #[.slice (some ⟨g,o,none⟩) nd dc,.slice (some a) ns sc]).run P w=.ok (goInt (q:Int)) (w.setRow g (X2s arr o us)):=by
 have hst:=run_storeCells_at P g o E us 0 arr w hg (by rw[Ya4];exact hfit) h1
 simp only[Ya4]at hst
 have hfc:=run_firstCells_some (P:=P) w k q a ns sc us hul hsrc
 simp only[Builtin.copy_,Ycq,YcI,Yb6,Sem.run_bind,run_underlying hu,Builtin.lenOf,Sem.run_pure,Result.andThen_ok,hsz w,hq,hfc]
 simp only[hst,Result.andThen_ok,Sem.run_pure,X2s]
set_option maxHeartbeats 4000000 in
theorem XqR(L:Xhr P ρ)(b off n c i vb voff m vc:Nat)(arr arrv:Array Value)(E Ev:TypeId)(us:List Value)(w:World)(hi:i<n)(hm:0<m)(hroom:n+m<=c)(hc63:c<=9223372036854775807)(hvb:vb≠b)(hb:w.heap[b]?=some (.cells arr E (0,0)))(hsz:off+c*2<=arr.size)(hv:w.heap[vb]?=some (.cells arrv Ev (0,0)))(hul:us.length=m*2)(hus:∀j u,us[j]?=some u->w.cell? ⟨vb,voff+j,none⟩=some u)(h1c:∀u∈(arr.toList.drop (off+i*2)).take ((n - i)*2),u.oneCell'=true)(h1v:∀u∈us,u.oneCell'=true):
 Calls P (ρ.f 22) #[.slice (some ⟨b,off,none⟩) n c,.int .i64 i,.slice (some ⟨vb,voff,none⟩) m vc] w λe w'=>
  e=.returned (.slice (some ⟨b,off,none⟩) (n+m) c)/\XvF (w.setRow b (X2s (X2s arr (off+(i+m)*2) ((arr.toList.drop (off+i*2)).take ((n - i)*2))) (off+i*2) us)) w':=by
 have t0:=L.t0;have a0:=L.a0;have z0:=L.z0;have v0:=L.v0;have t3:=L.t3;have a3:=L.a3;have z3:=L.z3;have v3:=L.v3;have t4:=L.t4;have a4:=L.a4;have z4:=L.z4;have v4:=L.v4;have z9:=L.z9;have t24:=L.t24;have a24:=L.a24;have z24:=L.z24;have v24:=L.v24
 have u0:=run_underlying L.t0;have u3:=run_underlying L.t3;have u4:=run_underlying L.t4;have u24:=run_underlying L.t24
 have hz1:¬((m:Int)=0):=by omega
 have hz2:¬((i:Int)=(n:Int)):=by omega
 have hov:∀lb cb,(callFunc (ρ.f 29) #[.slice (some ⟨vb,voff,none⟩) m vc,.slice (some ⟨b,off+(i+m)*2,none⟩) lb cb]).run P w=.ok (.value (.bool false)) w:=λlb cb=>by
  obtain⟨fo,h1,h2,h3,h4,h5⟩:=L.f29
  rw [run_callFunc_extern h1 h2 h3 h4 h5,
   Lib.run_overlaps_apart w (ρ.t 24) (ρ.t 4) (ρ.t 9) L.t24 2 L.z9 ⟨vb,voff,none⟩ ⟨b,off+(i+m)*2,none⟩ m vc lb cb hvb Ev E arrv.size arr.size (by simp[World.shape?,hv]) (by simp[World.shape?,hb]) (by omega) (by simp[World.frozen?,hv]) (by simp[World.frozen?,hv])]
  rfl
 have mixed:=L.mixed
 have hw1:IntKind.i64.wrap ((i:Int)+(m:Int))=(i:Int)+(m:Int):=by rw[IntKind.wrap_i64];omega
 have hb1:(0:Int)<=(i:Int)+(m:Int):=by omega
 have hin:i<=n:=by omega
 have htn:((i:Int)+(m:Int)).toNat=i+m:=by omega
 have hb2:¬(c=i+m):=by omega
 have hb3:(i:Int)<=(n:Int)+(m:Int):=by omega
 have hb4:¬(c=i):=by omega
 obtain⟨cs,hcs⟩:∃cs,cs=(arr.toList.drop (off+i*2)).take ((n - i)*2):=⟨_,rfl⟩
 rw[<-hcs]at h1c ⊢
 have hcl:cs.length=(n - i)*2:=by
  rw[hcs,Yal,Yar,Yas];omega
 have hcp1:∀ty dc sc,(Builtin.copy_ #[(ρ.t 24),(ρ.t 24)] ty #[.slice (some ⟨b,off+(i+m)*2,none⟩) (n+m - (i+m)) dc,.slice (some ⟨b,off+i*2,none⟩) (n+m - i) sc]).run P w.drew=.ok (goInt ((n - i:Nat):Int)) (w.drew.setRow b (X2s arr (off+(i+m)*2) cs)):=λty dc sc=>
  XfZ w.drew L.t24 L.z9 (by exact hb) hcl (by simp only[Ydx];split<;>omega) (λj u hj=>by
   rw[XbO]
   rw[hcs,YaH]at hj
   split at hj
   . exact X7s (w:=w.drew) hb hj
   . cases hj) (by rw[hcl];omega) h1c
 obtain⟨W1,hW1⟩:∃W1,W1=w.drew.setRow b (X2s arr (off+(i+m)*2) cs):=⟨_,rfl⟩
 have hA1:W1.heap[b]?=some (.cells (X2s arr (off+(i+m)*2) cs) E (0,0)):=by rw[hW1];exact setRow_heap w.drew b arr _ E _ hb
 have hs1:(X2s arr (off+(i+m)*2) cs).size=arr.size:=X9T (by rw[hcl];omega)
 have hcp2:∀(W:World),W.heap=W1.heap->∀ty dc,(Builtin.copy_ #[(ρ.t 24),(ρ.t 24)] ty #[.slice (some ⟨b,off+i*2,none⟩) (n+m - i) dc,.slice (some ⟨vb,voff,none⟩) m vc]).run P W=.ok (goInt (m:Int)) (W.setRow b (X2s (X2s arr (off+(i+m)*2) cs) (off+i*2) us)):=λW hW ty dc=>
  XfZ W L.t24 L.z9 (by rw[hW];exact hA1) hul (by simp only[Ydx];split<;>omega) (λj u hj=>by
   rw[XbO]
   have h0:=hus j u hj
   have h2:W.heap[vb]?=w.heap[vb]?:=by rw[hW,hW1];exact setRow_other w.drew b vb _ hvb
   simp only[World.cell?]at h0 ⊢
   rw[h2];exact h0) (by rw[hs1,hul];omega) h1v
 rw[<-hW1]at hcp1
 obtain⟨nm,hnm,F22⟩:=L.f22
 go_enter F22,Body2.n22_ntmps ρ
 go_wp2_with (simp only[hov])
 go_region_law_o (refine step_copy_runI rfl _ _ (ρ.t 24) (ρ.t 24) rfl _ _ (by simp[Act.eval,Act.put]) (by simp[Act.eval,Act.put]) (hcp1 _ _ _) ?_)
 go_wp2_with (at_builtin;refine wpList_copy_runI _ rfl _ _ (ρ.t 24) (ρ.t 24) rfl _ _ rfl rfl (hcp2 _ rfl _ _) ?_)
 go_ret
 refine⟨rfl,?_⟩
 rw[setRow_setRow,<-hcs]
 exact⟨rfl,rfl,rfl,rfl⟩
set_option maxHeartbeats 4000000 in
theorem XtV(L:Xhr P ρ)(b off n c i vb voff m vc:Nat)(arr arrv:Array Value)(E Ev:TypeId)(us:List Value)(w:World)(hi:i<n)(hm:0<m)(hnc:n<=c)(hroom:c<n+m)(bytes:Nat)(hby:∀i,P.info? (ρ.t 9)=some i->i.bytes=bytes)(hbig:(n+m)*bytes<=140737488355328)(hnm:n+m<=maxLen)(hvb:vb≠b)(hb:w.heap[b]?=some (.cells arr E (0,0)))(hsz:off+c*2<=arr.size)(hv:w.heap[vb]?=some (.cells arrv Ev (0,0)))(hul:us.length=m*2)(hus:∀j u,us[j]?=some u->w.cell? ⟨vb,voff+j,none⟩=some u)(h1c:∀u∈(arr.toList.drop off).take (n*2),u.oneCell'=true)(h1v:∀u∈us,u.oneCell'=true):
 Calls P (ρ.f 22) #[.slice (some ⟨b,off,none⟩) n c,.int .i64 i,.slice (some ⟨vb,voff,none⟩) m vc] w λe w'=>
  ∃(G:Nat) (tl:List Value),n+m<=G/\G<=maxLen/\tl.length=(G - (n+m))*2/\e=.returned (.slice (some ⟨w.heap.size,0,none⟩) (n+m) G)/\
   XvF (w.alloc (.cells ((arr.toList.drop off).take (i*2)++(us++((arr.toList.drop (off+i*2)).take ((n - i)*2)++tl))).toArray (ρ.t 9))) w':=by
 have t0:=L.t0;have a0:=L.a0;have z0:=L.z0;have v0:=L.v0;have t3:=L.t3;have a3:=L.a3;have z3:=L.z3;have v3:=L.v3;have t4:=L.t4;have a4:=L.a4;have z4:=L.z4;have v4:=L.v4;have z9:=L.z9;have t24:=L.t24;have a24:=L.a24;have z24:=L.z24;have v24:=L.v24
 have u0:=run_underlying L.t0;have u3:=run_underlying L.t3;have u4:=run_underlying L.t4;have u24:=run_underlying L.t24
 have mixed:=L.mixed
 obtain⟨i0,z,hi0,hz0,hzc,hzs⟩:=L.i9
 have hzb:=hby i0 hi0
 have hz2c:z.cells.size=2:=hzc.trans hzs
 have hz1:¬((m:Int)=0):=by omega
 have hz2:¬((i:Int)=(n:Int)):=by omega
 have hz3:(c:Int)<(n:Int)+(m:Int):=by omega
 have hbw:b<w.heap.size:=(YaU.1 hb).1
 have hvw:vb<w.heap.size:=(YaU.1 hv).1
 have hkk:(n:Int)+(m:Int) - (i:Int)=((n+m - i:Nat):Int):=by omega
 have hik:i+(n+m - i)=n+m:=by omega
 have hal:arr.toList.length=arr.size:=Yas
 obtain⟨os,hos⟩:∃os,os=(arr.toList.drop off).take (i*2):=⟨_,rfl⟩
 obtain⟨cs,hcs⟩:∃cs,cs=(arr.toList.drop (off+i*2)).take ((n - i)*2):=⟨_,rfl⟩
 have hol:os.length=i*2:=by rw[hos,Yal,Yar];omega
 have hcl:cs.length=(n - i)*2:=by rw[hcs,Yal,Yar];omega
 have h1cs:∀u∈cs,u.oneCell'=true:=λu hu=>h1c u (by
  have e:(arr.toList.drop off).take (n*2)=os++cs:=by
   rw[hos,hcs,<-YaI,<-Ydh];congr 1;omega
  rw[e];exact List.mem_append_right _ hu)
 have hold:(Builtin.firstCells i0.size i (.slice (some ⟨b,off,none⟩) i c)).run P w.drew=.ok os.toArray w.drew:=by
  rw[hzs]
  exact run_firstCells_some w.drew 2 i ⟨b,off,none⟩ i c os hol (λj v hj=>by
   rw[XbO]
   rw[hos,YaH]at hj
   split at hj
   . exact X7s (w:=w.drew) hb hj
   . cases hj)
 have hrz:∀ty,(Builtin.append_ #[(ρ.t 24),(ρ.t 3)] ty #[.slice (some ⟨b,off,none⟩) i c,.int .i64 ((n:Int)+(m:Int) - (i:Int))]).run P w=
  .ok (.slice (some ⟨w.heap.size,0,none⟩) (n+m) (grownCap w (n+m) c (ρ.t 9))) (w.drew.alloc (.cells (os.toArray++Builtin.zeroCells z.cells (n+m - i)++Builtin.zeroCells z.cells (grownCap w (n+m) c (ρ.t 9) - (n+m))) (ρ.t 9))):=λty=>by
  have h:=Lib.run_append_grow_zeros w (ρ.t 24) (ρ.t 3) ty (ρ.t 9) i0 z .i64 .i64 L.t24 L.t3 hi0 hz0 (some ⟨b,off,none⟩) i c os hold (n+m - i) (by omega) (by omega) (by omega) (by simp only[maxLen]at hnm;omega) (by rw[hzb];exact Ya5 (Ya3 _ (by omega)) (Ya5 hbig (by decide))) (by rw[hzb,hik];exact growslice_fits hroom hbig)
  rw[hik]at h
  rw[hkk]
  exact h
 obtain⟨G,hG⟩:∃G,G=grownCap w (n+m) c (ρ.t 9):=⟨_,rfl⟩
 obtain⟨ROW,hROW⟩:∃ROW:Array Value,ROW=os.toArray++Builtin.zeroCells z.cells (n+m - i)++Builtin.zeroCells z.cells (G - (n+m)):=⟨_,rfl⟩
 rw[<-hG]at hrz
 rw[<-hROW]at hrz
 have hRl:ROW.size=i*2+(n+m - i)*2+(G - (n+m))*2:=by
  rw[hROW]
  simp only[Ydi,YbU,size_zeroCells,hz2c,hol]
 have hGn:n+m<=G:=by rw[hG];exact grownCap_ge w _ _ _
 have hGm:G<=maxLen:=by rw[hG];exact grownCap_le_maxLen w (n+m) c (ρ.t 9) hnm
 have hG63:G<=9223372036854775807:=by simp only[maxLen]at hGm;omega
 obtain⟨W1,hW1⟩:∃W1,W1=w.drew.alloc (.cells ROW (ρ.t 9)):=⟨_,rfl⟩
 rw[<-hW1]at hrz
 have hH1:W1.heap[w.heap.size]?=some (.cells ROW (ρ.t 9) (0,0)):=by rw[hW1];exact heap_alloc_new w.drew _
 have hHo:∀k,k<w.heap.size->W1.heap[k]?=w.heap[k]?:=λk hk=>by rw[hW1];exact heap_alloc_old w.drew _ hk
 have hcpA:∀(W:World),W.heap=W1.heap->∀ty dc,(Builtin.copy_ #[(ρ.t 24),(ρ.t 24)] ty #[.slice (some ⟨w.heap.size,i*2,none⟩) (n+m - i) dc,.slice (some ⟨vb,voff,none⟩) m vc]).run P W=.ok (goInt (m:Int)) (W.setRow w.heap.size (X2s ROW (i*2) us)):=λW hW ty dc=>
  XfZ W L.t24 L.z9 (by rw[hW];exact hH1) hul (by simp only[Ydx];split<;>omega) (λj u hj=>by
   rw[XbO]
   have h0:=hus j u hj
   have h2:W.heap[vb]?=w.heap[vb]?:=by rw[hW];exact hHo vb hvw
   simp only[World.cell?]at h0 ⊢
   rw[h2];exact h0) (by rw[hRl,hul];omega) h1v
 have hsA:(X2s ROW (i*2) us).size=ROW.size:=X9T (by rw[hRl,hul];omega)
 obtain⟨W2,hW2⟩:∃W2,W2=W1.setRow w.heap.size (X2s ROW (i*2) us):=⟨_,rfl⟩
 have hH2:W2.heap[w.heap.size]?=some (.cells (X2s ROW (i*2) us) (ρ.t 9) (0,0)):=by rw[hW2];exact setRow_heap W1 _ ROW _ _ _ hH1
 have hbN:b≠w.heap.size:=by omega
 have hcpB:∀(W:World),W.heap=W2.heap->∀ty dc sc,(Builtin.copy_ #[(ρ.t 24),(ρ.t 24)] ty #[.slice (some ⟨w.heap.size,(i+m)*2,none⟩) (n+m - (i+m)) dc,.slice (some ⟨b,off+i*2,none⟩) (n - i) sc]).run P W=.ok (goInt ((n - i:Nat):Int)) (W.setRow w.heap.size (X2s (X2s ROW (i*2) us) ((i+m)*2) cs)):=λW hW ty dc sc=>
  XfZ W L.t24 L.z9 (by rw[hW];exact hH2) hcl (by simp only[Ydx];split<;>omega) (λj u hj=>by
   rw[XbO]
   rw[hcs,YaH]at hj
   split at hj
   . have h2:W.heap[b]?=some (.cells arr E (0,0)):=by rw[hW,hW2,setRow_other W1 _ b _ hbN,hHo b hbw];exact hb
     exact X7s (w:=W) h2 hj
   . cases hj) (by rw[hsA,hRl,hcl];omega) h1cs
 have hGi:¬(G=i):=by omega
 have hGim:¬(G=i+m):=by omega
 have hci:¬(c=i):=by omega
 have hw1:IntKind.i64.wrap ((i:Int)+(m:Int))=(i:Int)+(m:Int):=by rw[IntKind.wrap_i64];omega
 have hb1:(0:Int)<=(i:Int)+(m:Int):=by omega
 have hin:i<=n:=by omega
 have htn:((i:Int)+(m:Int)).toNat=i+m:=by omega
 have hb3:(i:Int)<=(n:Int):=by omega
 have hfin:(X2s (X2s ROW (i*2) us) ((i+m)*2) cs).toList=os++(us++(cs++ROW.toList.drop ((n+m)*2))):=by
  have hRL:ROW.toList.length=ROW.size:=Yas
  have e1:(X2s ROW (i*2) us).toList=os++(us++ROW.toList.drop (i*2+m*2)):=by
   simp only[X2s,hul,Yam]
   congr 1
   rw[hROW,Yci,Yci,Yam,Yco hol]
  simp only[X2s]at e1 ⊢
  rw[e1]
  have e2:(os++(us++ROW.toList.drop (i*2+m*2))).take ((i+m)*2)=os++us:=by
   rw[<-Yam,Yco (by rw[Yab,hol,hul,Ya0])]
  have e3:(os++(us++ROW.toList.drop (i*2+m*2))).drop ((i+m)*2+cs.length)=ROW.toList.drop ((n+m)*2):=by
   rw[<-Yam,<-YaI,Yc3 (by rw[Yab,hol,hul,Ya0]),YaI]
   congr 1;omega
  rw[e2,e3,Yam,Yam]
 have htl:(ROW.toList.drop ((n+m)*2)).length=(G - (n+m))*2:=by rw[Yar,Yas,hRl];omega
 obtain⟨A2,hA2⟩:∃A2,A2=X2s (X2s ROW (i*2) us) ((i+m)*2) cs:=⟨_,rfl⟩
 rw[<-hA2]at hcpB hfin
 have hA2':A2=(os++(us++(cs++ROW.toList.drop ((n+m)*2)))).toArray:=by rw[<-hfin]
 have hend:∀W':World,W'.heap=(W2.setRow w.heap.size A2).heap->W'.os=w.os->W'.tape=w.tape->W'.output=w.output->XvF (w.alloc (.cells (os++(us++(cs++ROW.toList.drop ((n+m)*2)))).toArray (ρ.t 9))) W':=λW' k1 k2 k3 k4=>by
  refine⟨?_,k2,k3,k4⟩
  rw[k1,hW2,setRow_setRow,<-hA2',hW1]
  apply Array.ext_getElem?
  intro k
  by_cases hk:k=w.heap.size
  . subst hk
    rw[setRow_heap (w.drew.alloc (.cells ROW (ρ.t 9))) _ ROW _ _ _ (by exact heap_alloc_new w.drew _)]
    exact(heap_alloc_new w _).symm
  . rw[setRow_other _ _ k _ hk]
    by_cases hlt:k<w.heap.size
    . have q1:(w.drew.alloc (.cells ROW (ρ.t 9))).heap[k]?=w.heap[k]?:=heap_alloc_old w.drew _ hlt
      have q2:(w.alloc (.cells A2 (ρ.t 9))).heap[k]?=w.heap[k]?:=heap_alloc_old w _ hlt
      rw[q1,q2]
    . have s1:(w.drew.alloc (.cells ROW (ρ.t 9))).heap.size=w.heap.size+1:=Ydt ..
      have s2:(w.alloc (.cells A2 (ρ.t 9))).heap.size=w.heap.size+1:=Ydt ..
      rw[YcO (by omega),YcO (by omega)]
 rw[<-hos,<-hcs]
 obtain⟨nm,hnm2,F22⟩:=L.f22
 clear hkk hik hold hROW hG hfin hA2' hA2 hRl hsA
 go_enter F22,Body2.n22_ntmps ρ
 go_wp2_with (first
  | (at_builtin;refine Lib.wpList_append_run _ rfl _ _ _ _ rfl _ _ rfl rfl _ _ (hrz _) ?_)
  | (at_builtin;refine wpList_copy_runI _ rfl _ _ (ρ.t 24) (ρ.t 24) rfl _ _ rfl rfl (hcpA _ (by rw[hW1];rfl) _ _) ?_))
 go_region_law_o (refine step_copy_runI rfl _ _ (ρ.t 24) (ρ.t 24) rfl (.slice (some ⟨w.heap.size,(i+m)*2,none⟩) (n+m - (i+m)) (G - (i+m))) (.slice (some ⟨b,off+i*2,none⟩) (n - i) (c - i)) (by simp[Act.eval,Act.put]) (by simp[Act.eval,Act.put]) (hcpB _ (by rw[hW2,hW1];rfl) (ρ.t 3) (G - (i+m)) (c - i)) ?_)
 go_wp2
 go_ret
 refine⟨G,ROW.toList.drop ((n+m)*2),hGn,hGm,htl,rfl,hend _ ?_ ?_ ?_ ?_⟩
 . rw[hW2,hW1];rfl
 . rfl
 . rfl
 . rfl
set_option maxHeartbeats 4000000 in
theorem Xwc(L:Xhr P ρ)(s v v':Value)(w w':World)(n m:Nat)(ad:Option Addr)(c:Nat)(ad2:Addr)(vc:Nat)(hs:s=.slice ad n c)(hv:v=.slice (some ad2) m vc)(hnil:ad=none->n=0)(hm:0<m)(hnc:n<=c)(hc63:c<=9223372036854775807)(hrun:∀ty,(Builtin.append_ #[ρ.t 24,ρ.t 24] ty #[s,v]).run P w=.ok v' w'):
 Calls P (ρ.f 22) #[s,.int .i64 n,v] w λe w1=>e=.returned v'/\XvF w' w1:=by
 have t0:=L.t0;have a0:=L.a0;have z0:=L.z0;have v0:=L.v0;have t3:=L.t3;have a3:=L.a3;have z3:=L.z3;have v3:=L.v3;have t4:=L.t4;have a4:=L.a4;have z4:=L.z4;have v4:=L.v4;have z9:=L.z9;have t24:=L.t24;have a24:=L.a24;have z24:=L.z24;have v24:=L.v24
 have u0:=run_underlying L.t0;have u3:=run_underlying L.t3;have u4:=run_underlying L.t4;have u24:=run_underlying L.t24
 have mixed:=L.mixed
 have hz1:¬((m:Int)=0):=by omega
 obtain⟨nm,hnm2,F22⟩:=L.f22
 subst hs
 subst hv
 go_enter F22,Body2.n22_ntmps ρ
 cases ad with
 | none=>
   have h0:=hnil rfl
   subst h0
   go_wp2_with (at_builtin;refine Lib.wpList_append_run _ rfl _ _ _ _ rfl _ _ rfl rfl _ _ (hrun _) ?_)
   all_goals (go_ret;exact⟨rfl,⟨rfl,rfl,rfl,rfl⟩⟩)
 | some a=>
   obtain⟨ab,ao,asp⟩:=a
   go_wp2_with (at_builtin;refine Lib.wpList_append_run _ rfl _ _ _ _ rfl _ _ rfl rfl _ _ (hrun _) ?_)
   all_goals (go_ret;exact⟨rfl,⟨rfl,rfl,rfl,rfl⟩⟩)
theorem XvF.own{w w':World}(h:XvF w w'){t:Ty}{v:Value}{l:List (El t)}{bs:List Nat}(ho:X4Q w t v l bs):X4Q w' t v l bs:=ho.frame λg _=>by rw[h.heap]
theorem Xfo.like{w w1 w2:World}{bs bs' more:List Nat}(h:Xfo w w1 bs bs' more)(k:XvF w1 w2):Xfo w w2 bs bs' more:=
 ⟨h.nodup,h.sub,by rw[k.heap];exact h.size,λx h1 h2=>by rw[k.heap];exact h.keep x h1 h2,k.os.trans h.os,k.tape.trans h.tape,k.output.trans h.output⟩
theorem Xs5{a b1 b2 bv:List Nat}(h:(a++(b1++b2)).Nodup)(hv:bv.Nodup)(hd:∀x∈bv,x∉a++(b1++b2)):(a++(b1++(bv++b2))).Nodup:=by
 simp only[YaF,Yaf,YcF]at h hd ⊢
 obtain⟨h1,⟨h2,h3,h4⟩,h5⟩:=h
 refine⟨h1,⟨h2,⟨hv,h3,λx hx y hy e=>?_⟩,λx hx y hy e=>?_⟩,λx hx y hy e=>?_⟩
 . subst e;exact(hd x hx).2.2 hy
 . subst e
   rcases hy with hy | hy
   . exact(hd x hy).2.1 hx
   . exact h4 x hx x hy rfl
 . subst e
   rcases hy with hy | hy | hy
   . exact h5 x hx x (.inl hy) rfl
   . exact(hd x hy).1 hx
   . exact h5 x hx x (.inr hy) rfl
theorem Xvv(L:Xhr P ρ){τ:Ty}(hτ:size τ=2){bytes:Nat}(hby:∀i,P.info? (ρ.t 9)=some i->i.bytes=bytes)(w:World){s v:Value}{l lv:List (El τ)}{bs bv:List Nat}(hs:X4Q w τ s l bs)(hv:X4Q w τ v lv bv)(hnd:(bs++bv).Nodup)(i:Nat)(hi:i<=List.length l)(hlv:0<List.length lv)(h63:List.length l+List.length lv<=maxLen)(hbig:(List.length l+List.length lv)*bytes<=140737488355328):
 Calls P (ρ.f 22) #[s,.int .i64 i,v] w λe w'=>∃s' bs',e=.returned s'/\X4Q w' τ s' (l.take i++(lv++l.drop i)) bs'/\Xfo w w' bs bs' bv:=by
 obtain⟨n1,n2,n3⟩:=YaF.1 hnd
 have hdis:∀x∈bv,x∉bs:=λx hx hx'=>n3 x hx' x hx rfl
 rcases hv.cases with⟨_,_,rfl,_⟩ | ⟨vb,voff,vc,arrv,Ev,b1v,ev,rfl,hvb,k2,k3,k4,k5⟩
 . simp at hlv
 have n2':=YaD.1 n2
 obtain⟨us,hus⟩:∃us,us=(arrv.toList.drop voff).take (List.length lv*size τ):=⟨_,rfl⟩
 rw[<-hus]at k5
 have hul:us.length=List.length lv*2:=by rw[k5.length,X1s,hτ]
 have hsrc:∀j u,us[j]?=some u->w.cell? ⟨vb,voff+j,none⟩=some u:=λj u hj=>by
  rw[hus,YaH]at hj
  split at hj
  . exact X7s hvb hj
  . cases hj
 have hmaxc:maxLen<=9223372036854775807:=by decide
 by_cases hin:i=List.length l
 ·
  subst hin
  obtain⟨i0,z,hi0,hz0,hzc,hzs⟩:=L.i9
  have hrun:=λty=>Xck (ty:=ty) L.t24 hi0 hz0 hzc (hzs.trans hτ.symm) (by rw[hτ];decide) hs n1 (a:=⟨vb,voff,none⟩) (c:=vc) (λj u hj=>by rw[XbO];exact hsrc j u hj) k5 n2'.2 (λx hx=>hdis x (Yan _ hx)) hlv h63 (by rw[hby i0 hi0];exact hbig)
  have hty:∀ty ty',(Builtin.append_ #[ρ.t 24,ρ.t 24] ty #[s,v]).run P w=(Builtin.append_ #[ρ.t 24,ρ.t 24] ty' #[s,v]).run P w:=λty ty'=>rfl
  obtain⟨v',w',bs',r1,r2,r3⟩:=hrun (ρ.t 24)
  rw[<-ev]at r1
  obtain⟨ad,c,es,c1,c2⟩:=hs.slice
  have hnil:ad=none->List.length l=0:=λe=>by
   rcases hs.cases with⟨_,_,e2,_⟩ | ⟨_,_,_,_,_,_,e2,_⟩
   . rw[e2];rfl
   . rw[es,e]at e2;cases e2
  refine(Xwc L s v v' w w' (List.length l) (List.length lv) ad c ⟨vb,voff,none⟩ vc es ev hnil hlv c1 (by omega) (λty=>(hty ty (ρ.t 24)).trans r1)).mono ?_
  rintro e w1 ⟨rfl,hk⟩
  refine⟨v',bs',rfl,?_,?_⟩
  . rw[Yat,YbO,Ybe];exact hk.own r2
  . exact Xfo.like ⟨r3.nodup,λx hx=>(r3.sub x hx).imp id (Or.imp (Yan _) id),r3.size,r3.keep,r3.os,r3.tape,r3.output⟩ hk
 have hilt:i<List.length l:=by omega
 rcases hs.cases with⟨_,_,rfl,_⟩ | ⟨b,off,c,arr,E,b1,es,rfl,hb,q2,q3,q4,q5⟩
 . simp at hilt
 have n1':=YaD.1 n1
 have hvbb:vb≠b:=λe=>hdis vb (by simp) (by simp[e])
 have hal:arr.toList.length=arr.size:=Yas
 rw[hτ]at q4 q5
 have hcm:List.length l*2<=c*2:=Ya3 2 q2
 have hfl:X0q τ l=X0q τ (l.take i)++X0q τ (l.drop i):=by rw[<-X2c,YaJ]
 obtain⟨v1,v2,b11,b12,e1,e2,o1,o2⟩:=q5.split hfl
 have hl1:v1.length=i*2:=by rw[o1.length,X1s,hτ,Yal,Ybi hi]
 have hl2:v2.length=(List.length l - i)*2:=by rw[o2.length,X1s,hτ,Yar]
 have ev1:v1=(arr.toList.drop off).take (i*2):=by
  have:=Ybo (List.take (i*2)) e1
  rw[YbR,Ybi (by omega),Yco hl1]at this
  exact this.symm
 have ev2:v2=(arr.toList.drop (off+i*2)).take ((List.length l - i)*2):=by
  have:=Ybo (List.drop (i*2)) e1
  rw[Yc3 hl1,Yb2,YaI]at this
  rw[<-this];congr 1;omega
 have hone:∀u∈(arr.toList.drop off).take (List.length l*2),u.oneCell'=true:=q5.one
 have one2:∀u∈v2,u.oneCell'=true:=o2.one
 have hfa:X0q τ (l.take i++(lv++l.drop i))=X0q τ (l.take i)++(X0q τ lv++X0q τ (l.drop i)):=by rw[X2c,X2c]
 have hlen:List.length (l.take i++(lv++l.drop i))=List.length l+List.length lv:=by simp only[Yab,Yal,Yar];omega
 have hnd3:(([b]:List Nat)++(b11++b12)).Nodup:=by rw[<-e2];exact n1
 have hnd4:=Xs5 (bv:=b1v) hnd3 n2'.2 (λx hx=>by rw[<-e2];exact hdis x (Yan _ hx))
 have hlt1:=o1.lt
 have hlt2:=o2.lt
 have hltv:=k5.lt
 have hlt:∀x∈b11++(b1v++b12),x<w.heap.size:=λx hx=>by
  simp only[Yaf]at hx
  rcases hx with h | h | h
  . exact hlt1 x h
  . exact hltv x h
  . exact hlt2 x h
 by_cases hroom:List.length l+List.length lv<=c
 ·
  rw[es,ev]
  refine(XqR L b off (List.length l) c i vb voff (List.length lv) vc arr arrv E Ev us w hilt hlv hroom (by omega) hvbb hb q4 hvb hul hsrc (by rw[<-ev2];exact one2) k5.one).mono ?_
  rintro e w1 ⟨rfl,hk⟩
  rw[<-ev2]at hk
  obtain⟨A,hA⟩:∃A,A=X2s (X2s arr (off+(i+List.length lv)*2) v2) (off+i*2) us:=⟨_,rfl⟩
  rw[<-hA]at hk
  have hAs:A.size=arr.size:=by
   rw[hA,X9T (by rw[X9T (by rw[hl2];omega),hul];omega),X9T (by rw[hl2];omega)]
  have hAl:(A.toList.drop off).take ((List.length l+List.length lv)*2)=v1++(us++v2):=by
   have f1:(X2s arr (off+(i+List.length lv)*2) v2).toList=arr.toList.take (off+(i+List.length lv)*2)++(v2++arr.toList.drop (off+(i+List.length lv)*2+v2.length)):=by simp only[X2s,Yam]
   have f2:A.toList=arr.toList.take (off+i*2)++(us++(v2++arr.toList.drop (off+(i+List.length lv)*2+v2.length))):=by
    rw[hA]
    have:(X2s (X2s arr (off+(i+List.length lv)*2) v2) (off+i*2) us).toList=(X2s arr (off+(i+List.length lv)*2) v2).toList.take (off+i*2)++us++(X2s arr (off+(i+List.length lv)*2) v2).toList.drop (off+i*2+us.length):=rfl
    rw[this,f1]
    have lt1:(arr.toList.take (off+(i+List.length lv)*2)).length=off+(i+List.length lv)*2:=by rw[Yal];omega
    rw[Ya2 (by omega),YbR,Ybi (by omega),Yc3 (by rw[lt1,hul];omega),Yam]
   have g0:(arr.toList.take (off+i*2)).drop off=v1:=by rw[ev1,Yb2,Yb7]
   rw[f2,Yb5 (by rw[Yal];omega),g0,<-Yam us,<-Yam v1,Yco (by simp only[Yab,hl1,hul,hl2];omega)]
  have fr:∀{vs:List Value} {cs:List X02} {bb:List Nat},X1w w vs cs bb->b∉bb->X1w w1 vs cs bb:=λhh hn=>hh.frame λx hx=>by
   rw[hk.heap];exact setRow_other w b x _ (λe=>by subst e;exact hn hx)
  have nb:b∉b11/\b∉b1v/\b∉b12:=by
   have:=(YaD.1 (show(b::(b11++(b1v++b12))).Nodup from hnd4)).1
   simpa only[Yaf,YcF] using this
  refine⟨_,b::(b11++(b1v++b12)),rfl,?_,⟨hnd4,λx hx=>?_,by rw[hk.heap];simp,λk h1 h2=>?_,hk.os,hk.tape,hk.output⟩⟩
  . rw[<-hlen]
    refine X4Q.mk (arr:=A) (e:=E) (by rw[hk.heap];exact setRow_heap w b arr A E _ hb) (by rw[hlen];exact hroom) q3 (by rw[hAs,hτ];exact q4) ?_
    rw[hlen,hτ,hAl,hfa]
    exact(fr o1 nb.1).append ((fr k5 nb.2.1).append (fr o2 nb.2.2))
  . simp only[Yak,Yaf]at hx
    rcases hx with rfl | hx | hx | hx
    . exact .inl (by simp)
    . exact .inl (by rw[e2];simp[hx])
    . exact .inr (.inl (by simp[hx]))
    . exact .inl (by rw[e2];simp[hx])
  . rw[hk.heap];exact setRow_other w b k _ (λe=>by subst e;exact h2 (by simp))
 ·
  rw[es,ev]
  refine(XtV L b off (List.length l) c i vb voff (List.length lv) vc arr arrv E Ev us w hilt hlv q2 (by omega) bytes hby hbig h63 hvbb hb q4 hvb hul hsrc hone k5.one).mono ?_
  rintro e w1 ⟨G,tl,g1,g2,g3,rfl,hk⟩
  rw[<-ev1,<-ev2]at hk
  have hH:w1.heap[w.heap.size]?=some (.cells (v1++(us++(v2++tl))).toArray (ρ.t 9) (0,0)):=by rw[hk.heap];exact heap_alloc_new w _
  have hO:∀k,k<w.heap.size->w1.heap[k]?=w.heap[k]?:=λk h=>by rw[hk.heap];exact heap_alloc_old w _ h
  refine⟨_,w.heap.size::(b11++(b1v++b12)),rfl,?_,⟨YaD.2 ⟨λh=>Nat.lt_irrefl _ (hlt _ h),(YaF.1 hnd4).2.1⟩,λx hx=>?_,?_,λk h1 _=>hO k h1,hk.os,hk.tape,hk.output⟩⟩
  . rw[<-hlen]at g1 ⊢
    refine X4Q.mk hH g1 g2 ?_ ?_
    . simp only[YbU,Yab,hl1,hul,hl2,g3,hτ]
      rw[hlen]at g1
      omega
    . rw[hlen,hτ,YbP,hfa]
      have f3:((v1++(us++(v2++tl))).toArray.toList).take ((List.length l+List.length lv)*2)=v1++(us++v2):=by
       show(v1++(us++(v2++tl))).take _=_
       rw[<-Yam us,<-Yam v1,Yco (by simp only[Yab,hl1,hul,hl2];omega)]
      rw[f3]
      exact(o1.frame λg h=>hO g (hlt1 g h)).append ((k5.frame λg h=>hO g (hltv g h)).append (o2.frame λg h=>hO g (hlt2 g h)))
  . simp only[Yak,Yaf]at hx
    rcases hx with rfl | hx | hx | hx
    . exact .inr (.inr (YaB _))
    . exact .inl (by rw[e2];simp[hx])
    . exact .inr (.inl (by simp[hx]))
    . exact .inl (by rw[e2];simp[hx])
  . rw[hk.heap]
    have:(w.alloc (.cells (v1++(us++(v2++tl))).toArray (ρ.t 9))).heap.size=w.heap.size+1:=Ydt ..
    omega
def Xhd(τ:Ty)(e:TypeId):Con:={A:=.pair (.list τ) (.pair (.int .i64) (.list τ)),shA:=[.one,.one,.one],ownA:=[(0,e),(2,e)],R:=.list τ,shR:=[(false,1)],fresh:=[(0,e)],pre:=λ_ a=>0<=a.2.1/\a.2.1<=a.1.length/\0<a.2.2.length/\a.1.length+a.2.2.length<=1099511627776,f:=some λ_ a=>(a.1.take a.2.1.toNat++(a.2.2++a.1.drop a.2.1.toNat),((),()))}
theorem Xr9(L:Xhr P ρ){τ:Ty}(hτ:size τ=2){bytes:Nat}(hby:∀i,P.info? (ρ.t 9)=some i->i.bytes=bytes)(hb:bytes<=128):X0g P (ρ.f 22) (Xhd τ (ρ.t 9)):=by
 intro w M vs cs i x F FI b hM hargs hown hio hiv hnd hnone hpre
 obtain⟨p1',p2',p3,p4⟩:=hpre
 have p1:(0:Int)<=x.2.1:=p1'
 have p2:(show Int from x.2.1)<=((List.length x.1:Nat):Int):=p2'
 have hbn:b=none:=by cases b with | none=>rfl | some g=>cases hio
 subst hbn
 obtain⟨u0,u1,u2,rfl,rfl⟩:∃u0 u1 u2,vs=[u0,u1,u2]/\cs=[u0,u1,u2]:=by
  cases hargs with
  | cons h0 r0=>cases r0 with
    | cons h1 r1=>cases r1 with
      | cons h2 r2=>cases r2;obtain⟨rfl,_⟩:=h0;obtain⟨rfl,_⟩:=h1;obtain⟨rfl,_⟩:=h2;exact⟨_,_,_,rfl,rfl⟩
 have ho0:X4Q w τ u0 x.1 (F 0):=by
  obtain⟨u,t,l,h1,h2,h3⟩:=hown.own 0 (ρ.t 9) rfl
  cases h1
  have h2':some (X02.lst τ x.1 none)=some (.lst t l none):=h2
  cases h2'
  exact h3
 have ho2:X4Q w τ u2 x.2.2 (F 2):=by
  obtain⟨u,t,l,h1,h2,h3⟩:=hown.own 2 (ρ.t 9) rfl
  cases h1
  have h2':some (X02.lst τ x.2.2 none)=some (.lst t l none):=h2
  cases h2'
  exact h3
 have ho1:u1=.int .i64 x.2.1:=hown.rd 1 u1 (.int .i64 x.2.1) rfl rfl rfl
 have hblk:X5V (Xhd τ (ρ.t 9)) none F FI=F 0++F 2:=by simp[X5V,Xhd,X9z]
 rw[hblk]at hnd hnone
 have hx:((x.2.1.toNat:Nat):Int)=x.2.1:=by omega
 have hml:(1099511627776:Nat)<=maxLen:=by decide
 have hmul:(List.length x.1+List.length x.2.2)*bytes<=140737488355328:=Ya5 (Nat.mul_le_mul p4 hb) (by decide)
 have hi1:(x.2.1:Int).toNat<=List.length x.1:=Int.toNat_le.2 p2'
 have h:=Xvv L hτ hby w ho0 ho2 hnd x.2.1.toNat hi1 p3 (Ya5 p4 hml) hmul
 rw[hx,<-ho1]at h
 refine h.mono ?_
 rintro e w' ⟨s',bs',rfl,hO,hR⟩
 have hsub:∀g∈bs',(w.heap.size<=g\/g∈F 0++F 2):=λg hg=>by
  rcases hR.sub g hg with k | k | k
  . exact .inr (Yc5 _ k)
  . exact .inr (List.mem_append_right _ k)
  . exact .inl k
 have hMn:∀g∈bs',∀ad,ad.block=g->M ad=none:=λg hg ad had=>by
  rcases hsub g hg with k | k
  . cases hm:M ad with
    | none=>rfl
    | some v=>
      have h1:=hM ad v hm
      have h2:=block_lt_of_cell h1
      omega
  . exact hnone g k ad had
 have hsl:∃ad c,s'=.slice ad (List.length (x.1.take x.2.1.toNat++(x.2.2++x.1.drop x.2.1.toNat))) c:=by
  obtain⟨ad,c,k,_⟩:=hO.slice;exact⟨ad,c,k⟩
 obtain⟨sad,sc,hsv⟩:=hsl
 refine⟨[s'],(x.1.take x.2.1.toNat++(x.2.2++x.1.drop x.2.1.toNat),((),())),[s'],M,λ_=>bs',λ_=>[],λ_=>[],[],rfl,rfl,Mem.le_refl _,λad v hm=>?_,⟨hR.os,hR.tape,hR.output,hR.size,λk h1 h2=>hR.keep k h1 (λh=>h2 (by rw[hblk];exact Yc5 _ h))⟩,λ_ _ _ h=>h,?_,?_,(λg hg=>by cases hg),?_,?_,?_,?_,?_⟩
 . have h1:=hM ad v hm
   have hlt:=block_lt_of_cell h1
   have hnb:ad.block∉F 0:=λh=>by rw[hnone ad.block (Yc5 _ h) ad rfl]at hm;cases hm
   have h2:=hR.keep ad.block hlt hnb
   simp only[World.cell?]at h1 ⊢
   rw[h2];exact h1
 . refine⟨rfl,?_⟩
   have:=Xef.cons (v:=s') (ag:=false) (n:=1) (by rw[hsv];rfl) (by rw[hsv];rfl) Xef.nil
   rw[hsv]at this ⊢
   exact this
 . refine⟨rfl,λj u c hj h1 h2=>?_,λj e' hj=>?_⟩
   . cases j with
     | zero=>cases hj
     | succ j=>simp at h1
   . cases j with
     | zero=>exact⟨s',τ,_,rfl,rfl,hO⟩
     | succ j=>exact absurd hj (by rw[show(Xhd τ (ρ.t 9)).fresh=[(0,ρ.t 9)] from rfl,X07,Yae (by omega)];exact λh=>by cases h)
 . refine⟨rfl,λk j e' hk=>by simp[Xhd]at hk⟩
 . intro j e' hj t l tag hc
   obtain⟨i0,z,hi0,hz0,hzc,hzs⟩:=L.i9
   cases j with
   | zero=>
     have e1:e'=ρ.t 9:=by cases (show some (ρ.t 9)=some e' from hj);rfl
     have e2:some (X02.lst τ (x.1.take x.2.1.toNat++(x.2.2++x.1.drop x.2.1.toNat)) none)=some (.lst t l tag):=hc
     cases e2
     subst e1
     exact⟨⟨i0,hi0,hzs.trans hτ.symm⟩,by omega⟩
   | succ j=>exact absurd hj (by rw[show(Xhd τ (ρ.t 9)).fresh=[(0,ρ.t 9)] from rfl,X07,Yae (by omega)];exact λh=>by cases h)
 . intro j e' hj;cases hj
 . simpa [Xhd,X9z] using hR.nodup
 . intro g hg
   have hg':g∈bs':=by simpa [Xhd,X9z] using hg
   refine⟨?_,?_,hMn g hg'⟩
   . rcases hsub g hg' with k | k
     . exact .inl k
     . exact .inr ⟨by rw[hblk];exact k,by simp⟩
   . exact X1w.lt hO g hg'
end
section
open Go Go.Proofs.YtgmafgmjbaoomaaGreat.Bv Go.Proofs Go.Shelf Go.RowKit Go.Lib
def X1k:Ren:=⟨λn=>if n=22 then 213 else if n=29 then 219 else if n=30 then 220 else n,λn=>if n=24 then 91 else if n=9 then 107 else n,λn=>n⟩
set_option maxRecDepth 100000 in
theorem X6t:Tryz.f213={Body2.n22 X1k with name:=Tryz.f213.name}:=by kernel_rfl
theorem X6F:Xhr Tryz.prog X1k where
 mixed:=rfl
 f22:=⟨Tryz.f213.name,by kernel_rfl,by rw[<-X6t];exact func213⟩
 f29:=⟨Tryz.f219,func219,by kernel_rfl,by kernel_rfl,by kernel_rfl,by kernel_rfl⟩
 t0:=by kernel_rfl
 a0:=λw=>by kernel_rfl
 z0:=λw=>by kernel_rfl
 v0:=λw=>by kernel_rfl
 t3:=by kernel_rfl
 a3:=λw=>by kernel_rfl
 z3:=λw=>by kernel_rfl
 v3:=λw=>by kernel_rfl
 t4:=by kernel_rfl
 a4:=λw=>by kernel_rfl
 z4:=λw=>by kernel_rfl
 v4:=λw=>by kernel_rfl
 t24:=by kernel_rfl
 a24:=λw=>by kernel_rfl
 z24:=λw=>by kernel_rfl
 v24:=λw=>by kernel_rfl
 z9:=λw=>by kernel_rfl
 i9:=by
  obtain⟨i,z,h1,h2,h3,h4,h5⟩:=(XlM 107 _ rfl).info
  have h6:z.cells.size=2:=by rw[<-Yas,h5];rfl
  exact⟨i,z,h1,h4,h6.trans h2.symm,h2⟩
theorem X7b:∀i,Tryz.prog.info? (X1k.t 9)=some i->i.bytes=16:=λi hi=>by
 obtain⟨i',z,h1,h2,h3,h4,h5⟩:=(XlM 107 _ rfl).info
 have h1':Tryz.prog.info? (X1k.t 9)=some i':=h1
 rw[h1']at hi;cases hi;exact h3
def X2v(l:List (Int×Int))(i:Int)(v:List (Int×Int)):List (Int×Int):=l.take i.toNat++(v++l.drop i.toNat)
def X4g(l:List (Int×Int))(i:Int)(v:List (Int×Int)):Prop:=0<=i/\i<=l.length/\0<v.length/\l.length+v.length<=1099511627776
def X4N:Con:={A:=(.pair X7m Xof),shA:=[.one,.one,.one],ownA:=[(0,107),(2,107)],R:=X7m,shR:=[(false,1)],fresh:=[(0,107)],pre:=λ_ a=>(X4g a.1 a.2.1 a.2.2),f:=some λ_ a=>((X2v a.1 a.2.1 a.2.2),((),()))}
theorem X3b.ok:X0g Tryz.prog 213 X4N:=Xr9 (τ:=T0q) X6F rfl X7b (by decide)
def X3b.e:GE:=⟨213,X4N,⟨_,func213,rfl,rfl⟩,X3b.ok⟩
end
end Go.Proofs.YtgmafgmjbaoomaaGreat.B
