/- Part 1 of the walk: contracts of functions, their formulas and proofs. -/
import Derived.Shelf.Spec.SlicesInsertGrow
import Derived.Test.YthpdkligbfbjeaaGreatWD
import Derived.Test.YthpdkligbfbjeaaGreatChecked
set_option maxRecDepth 100000
set_option linter.unusedVariables false
set_option linter.unusedSimpArgs false
namespace Go.Proofs.YthpdkligbfbjeaaGreat.B
open Go Go.Proofs.YthpdkligbfbjeaaGreat.Bv Go.Proofs.Tryz
abbrev T0q:Ty:=(.pair (.int .i64) (.int .i64))
abbrev T1q:Ty:=(.pair (.int .i64) (.pair (.int .i64) (.pair (.int .i64) (.pair (.int .i64) (.pair (.int .i64) .str)))))
abbrev U2q:Type:=(Int×(Int×(Int×((List (Int×Int))×((Int×((List ((List UInt8)×(List (Int×Int))))×(List (List UInt8))))×(List (Int×(Int×(Int×(Int×(Int×(List UInt8))))))))))))
abbrev U3q:Type:=((List UInt8)×(List (Int×Int)))
abbrev T4q:Ty:=(.pair (.int .i64) (.pair (.int .i64) (.pair (.int .i64) (.pair (.list T0q) (.pair (.pair (.int .i64) (.pair (.list (.pair .str (.list T0q))) (.list .str))) (.list T1q))))))
abbrev T5q:Ty:=(.pair .str (.list T0q))
abbrev U6q:Type:=(Int×(Int×(Int×(Int×(Int×(List UInt8))))))
abbrev U7q:Type:=(List UInt8)
abbrev U8q:Type:=(List (Int×Int))
abbrev T9q:Ty:=(.pair (.int .i64) (.pair (.list T5q) (.list .str)))
abbrev X5Y:Type:=(Int×((List U3q)×(List U7q)))
abbrev T11q:Ty:=(.pair (.int .i64) (.pair (.int .i64) .str))
abbrev XbM:Type:=(Int×(U7q×(Int×(Int×U7q))))
abbrev T13q:Ty:=(.pair (.int .i64) (.pair (.int .i64) (.pair (.int .i64) (.pair (.int .i64) (.pair (.int .i64) (.pair (.int .i64) (.pair (.int .i64) (.pair (.int .i64) (.pair (.int .i64) (.pair (.list T5q) (.pair (.list .str) (.pair (.list T1q) (.pair (.int .i64) (.pair (.int .i64) (.pair (.int .i64) (.pair .str (.pair (.list T0q) (.pair (.list T0q) (.pair (.list T5q) (.pair (.list .str) (.pair (.list T1q) (.list T0q))))))))))))))))))))))
abbrev XnR:Ty:=(.pair (.int .i64) (.pair .str T11q))
abbrev XyI:Ty:=(.pair (.int .i64) (.pair (.int .i64) (.pair (.int .i64) (.pair (.int .i64) (.pair (.list T0q) (.pair (.int .i64) (.pair (.list T5q) (.pair (.list .str) (.list T1q)))))))))
abbrev X5C:Ty:=(.list T5q)
abbrev XvK:Ty:=(.pair T4q (.pair (.int .i64) (.pair (.int .i64) (.pair XnR (.int .i64)))))
abbrev X7N:Ty:=(.list T0q)
abbrev Xiy:Ty:=(.pair (.int .i64) T11q)
abbrev XfJ:Ty:=(.list (.int .i64))
abbrev XkG:Type:=(Int×(Int×(Int×U7q)))
abbrev Xoh:Ty:=(.pair (.int .i64) X7N)
abbrev Xpe:Ty:=(.pair (.int .i64) .bool)
abbrev XfH:Ty:=(.list .str)
abbrev Xrr:Ty:=(.pair .str (.int .i64))
abbrev U26q:Type:=(Int×(Int×(Int×(Int×(Int×(Int×(Int×(Int×(Int×((List U3q)×((List U7q)×((List U6q)×(Int×(Int×(Int×(U7q×(U8q×(U8q×((List U3q)×((List U7q)×((List U6q)×U8q)))))))))))))))))))))
abbrev Xo8:Type:=(Int×(Int×Int))
def tab:Tab:=[(2,{ty:=(.int .i64),agg:=false,fields:=[],elem:=0,bytes:=8}),(3,{ty:=(.int .i64),agg:=false,fields:=[],elem:=0,bytes:=8}),(4,{ty:=.bool,agg:=false,fields:=[],elem:=0,bytes:=1}),(5,{ty:=(.int .u8),agg:=false,fields:=[],elem:=0,bytes:=1}),(6,{ty:=(.int .u8),agg:=false,fields:=[],elem:=0,bytes:=1}),(7,{ty:=(.pair (.int .i64) (.pair (.int .i64) (.pair .bool (.int .u8)))),agg:=true,fields:=[(0,2),(1,3),(2,4),(3,6)],elem:=0,bytes:=24}),(8,{ty:=(.pair (.int .i64) (.pair (.int .i64) (.pair .bool (.int .u8)))),agg:=true,fields:=[(0,2),(1,3),(2,4),(3,6)],elem:=0,bytes:=24}),(9,{ty:=.str,agg:=false,fields:=[],elem:=0,bytes:=16}),(10,{ty:=.str,agg:=false,fields:=[],elem:=0,bytes:=16}),(11,{ty:=.str,agg:=false,fields:=[],elem:=0,bytes:=16}),(12,{ty:=(.int .u64),agg:=false,fields:=[],elem:=0,bytes:=8}),(13,{ty:=(.pair .str (.int .u64)),agg:=true,fields:=[(0,9),(1,12)],elem:=0,bytes:=24}),(14,{ty:=(.pair .str (.int .u64)),agg:=true,fields:=[(0,9),(1,12)],elem:=0,bytes:=24}),(21,{ty:=(.int .i32),agg:=false,fields:=[],elem:=0,bytes:=4}),(22,{ty:=(.list (.pair (.int .i64) (.int .i64))),agg:=false,fields:=[],elem:=89,bytes:=24}),(23,{ty:=(.list (.pair .str (.list (.pair (.int .i64) (.int .i64))))),agg:=false,fields:=[],elem:=107,bytes:=24}),(24,{ty:=(.list .str),agg:=false,fields:=[],elem:=9,bytes:=24}),(25,{ty:=(.pair (.int .i64) (.pair (.list (.pair .str (.list (.pair (.int .i64) (.int .i64))))) (.list .str))),agg:=true,fields:=[(0,3),(1,23),(2,24)],elem:=0,bytes:=56}),(26,{ty:=(.pair (.int .i64) (.pair (.list (.pair .str (.list (.pair (.int .i64) (.int .i64))))) (.list .str))),agg:=true,fields:=[(0,3),(1,23),(2,24)],elem:=0,bytes:=56}),(27,{ty:=(.list (.pair (.int .i64) (.pair (.int .i64) (.pair (.int .i64) (.pair (.int .i64) (.pair (.int .i64) .str)))))),agg:=false,fields:=[],elem:=71,bytes:=24}),(28,{ty:=(.pair (.int .i64) (.pair (.int .i64) (.pair (.int .i64) (.pair (.list (.pair (.int .i64) (.int .i64))) (.pair (.pair (.int .i64) (.pair (.list (.pair .str (.list (.pair (.int .i64) (.int .i64))))) (.list .str))) (.list (.pair (.int .i64) (.pair (.int .i64) (.pair (.int .i64) (.pair (.int .i64) (.pair (.int .i64) .str))))))))))),agg:=true,fields:=[(0,3),(1,3),(2,3),(3,22),(4,26),(7,27)],elem:=0,bytes:=128}),(29,{ty:=(.pair (.int .i64) (.pair (.int .i64) (.pair (.int .i64) (.pair (.list (.pair (.int .i64) (.int .i64))) (.pair (.pair (.int .i64) (.pair (.list (.pair .str (.list (.pair (.int .i64) (.int .i64))))) (.list .str))) (.list (.pair (.int .i64) (.pair (.int .i64) (.pair (.int .i64) (.pair (.int .i64) (.pair (.int .i64) .str))))))))))),agg:=true,fields:=[(0,3),(1,3),(2,3),(3,22),(4,26),(7,27)],elem:=0,bytes:=128}),(30,{ty:=(.pair (.int .i64) (.pair .str (.pair (.int .i64) (.pair (.int .i64) .str)))),agg:=true,fields:=[(0,3),(1,9),(2,3),(3,3),(4,9)],elem:=0,bytes:=56}),(31,{ty:=(.pair (.int .i64) (.pair .str (.pair (.int .i64) (.pair (.int .i64) .str)))),agg:=true,fields:=[(0,3),(1,9),(2,3),(3,3),(4,9)],elem:=0,bytes:=56}),(34,{ty:=(.list (.pair (.int .i64) (.int .i64))),agg:=false,fields:=[],elem:=78,bytes:=24}),(35,{ty:=(.list (.pair .str (.list (.pair (.int .i64) (.int .i64))))),agg:=false,fields:=[],elem:=115,bytes:=24}),(36,{ty:=(.pair (.int .i64) (.pair (.list (.pair .str (.list (.pair (.int .i64) (.int .i64))))) (.list .str))),agg:=true,fields:=[(0,3),(1,35),(2,24)],elem:=0,bytes:=56}),(37,{ty:=(.pair (.int .i64) (.pair (.list (.pair .str (.list (.pair (.int .i64) (.int .i64))))) (.list .str))),agg:=true,fields:=[(0,3),(1,35),(2,24)],elem:=0,bytes:=56}),(38,{ty:=(.list (.pair (.int .i64) (.pair (.int .i64) (.pair (.int .i64) (.pair (.int .i64) (.pair (.int .i64) .str)))))),agg:=false,fields:=[],elem:=73,bytes:=24}),(39,{ty:=(.pair (.int .i64) (.pair (.int .i64) (.pair (.int .i64) (.pair (.list (.pair (.int .i64) (.int .i64))) (.pair (.pair (.int .i64) (.pair (.list (.pair .str (.list (.pair (.int .i64) (.int .i64))))) (.list .str))) (.list (.pair (.int .i64) (.pair (.int .i64) (.pair (.int .i64) (.pair (.int .i64) (.pair (.int .i64) .str))))))))))),agg:=true,fields:=[(0,3),(1,3),(2,3),(3,34),(4,37),(7,38)],elem:=0,bytes:=128}),(40,{ty:=(.pair (.int .i64) (.pair (.int .i64) (.pair (.int .i64) (.pair (.list (.pair (.int .i64) (.int .i64))) (.pair (.pair (.int .i64) (.pair (.list (.pair .str (.list (.pair (.int .i64) (.int .i64))))) (.list .str))) (.list (.pair (.int .i64) (.pair (.int .i64) (.pair (.int .i64) (.pair (.int .i64) (.pair (.int .i64) .str))))))))))),agg:=true,fields:=[(0,3),(1,3),(2,3),(3,34),(4,37),(7,38)],elem:=0,bytes:=128}),(41,{ty:=(.pair (.int .i64) (.pair (.int .i64) (.pair (.int .i64) .str))),agg:=true,fields:=[(0,3),(1,3),(2,3),(3,9)],elem:=0,bytes:=40}),(42,{ty:=(.pair (.int .i64) (.pair (.int .i64) (.pair (.int .i64) .str))),agg:=true,fields:=[(0,3),(1,3),(2,3),(3,9)],elem:=0,bytes:=40}),(46,{ty:=(.pair (.int .i64) (.pair .str (.pair (.int .i64) (.pair (.int .i64) .str)))),agg:=true,fields:=[(0,3),(1,9),(2,3),(3,3),(4,9)],elem:=0,bytes:=56}),(69,{ty:=(.pair (.int .i64) (.pair (.int .i64) (.pair (.int .i64) .str))),agg:=true,fields:=[(0,3),(1,3),(2,3),(3,9)],elem:=0,bytes:=40}),(70,{ty:=(.pair (.int .i64) (.pair (.int .i64) (.pair (.int .i64) (.pair (.int .i64) (.pair (.int .i64) .str))))),agg:=true,fields:=[(0,3),(1,3),(2,69)],elem:=0,bytes:=56}),(71,{ty:=(.pair (.int .i64) (.pair (.int .i64) (.pair (.int .i64) (.pair (.int .i64) (.pair (.int .i64) .str))))),agg:=true,fields:=[(0,3),(1,3),(2,69)],elem:=0,bytes:=56}),(72,{ty:=(.pair (.int .i64) (.pair (.int .i64) (.pair (.int .i64) (.pair (.int .i64) (.pair (.int .i64) .str))))),agg:=true,fields:=[(0,3),(1,3),(2,42)],elem:=0,bytes:=56}),(73,{ty:=(.pair (.int .i64) (.pair (.int .i64) (.pair (.int .i64) (.pair (.int .i64) (.pair (.int .i64) .str))))),agg:=true,fields:=[(0,3),(1,3),(2,42)],elem:=0,bytes:=56}),(77,{ty:=(.pair (.int .i64) (.int .i64)),agg:=true,fields:=[(0,3),(1,3)],elem:=0,bytes:=16}),(78,{ty:=(.pair (.int .i64) (.int .i64)),agg:=true,fields:=[(0,3),(1,3)],elem:=0,bytes:=16}),(89,{ty:=(.pair (.int .i64) (.int .i64)),agg:=true,fields:=[(0,3),(1,3)],elem:=0,bytes:=16}),(105,{ty:=(.list (.pair (.int .i64) (.int .i64))),agg:=false,fields:=[],elem:=180,bytes:=24}),(106,{ty:=(.pair .str (.list (.pair (.int .i64) (.int .i64)))),agg:=true,fields:=[(0,9),(1,105)],elem:=0,bytes:=40}),(107,{ty:=(.pair .str (.list (.pair (.int .i64) (.int .i64)))),agg:=true,fields:=[(0,9),(1,105)],elem:=0,bytes:=40}),(111,{ty:=(.pair (.int .i64) (.int .i64)),agg:=true,fields:=[(0,3),(1,3)],elem:=0,bytes:=16}),(112,{ty:=(.pair (.int .i64) (.int .i64)),agg:=true,fields:=[(0,3),(1,3)],elem:=0,bytes:=16}),(113,{ty:=(.list (.pair (.int .i64) (.int .i64))),agg:=false,fields:=[],elem:=112,bytes:=24}),(114,{ty:=(.pair .str (.list (.pair (.int .i64) (.int .i64)))),agg:=true,fields:=[(0,9),(1,113)],elem:=0,bytes:=40}),(115,{ty:=(.pair .str (.list (.pair (.int .i64) (.int .i64)))),agg:=true,fields:=[(0,9),(1,113)],elem:=0,bytes:=40}),(116,{ty:=(.list (.list (.pair .str (.list (.pair (.int .i64) (.int .i64)))))),agg:=false,fields:=[],elem:=35,bytes:=24}),(141,{ty:=(.list (.int .u8)),agg:=false,fields:=[],elem:=5,bytes:=24}),(147,{ty:=(.list (.int .i64)),agg:=false,fields:=[],elem:=3,bytes:=24}),(171,{ty:=(.int .u64),agg:=false,fields:=[],elem:=0,bytes:=8}),(180,{ty:=(.pair (.int .i64) (.int .i64)),agg:=true,fields:=[(0,3),(1,3)],elem:=0,bytes:=16}),(194,{ty:=(.pair .str .bool),agg:=true,fields:=[(0,9),(1,4)],elem:=0,bytes:=24}),(216,{ty:=(.int .u32),agg:=false,fields:=[],elem:=0,bytes:=4}),(228,{ty:=(.int .u8),agg:=false,fields:=[],elem:=0,bytes:=1})]
theorem XgY:X1E Tryz.prog tab:=XtR (by kernel_rfl)
def eqs:List (TypeId×Ty):=[(46,(.pair (.int .i64) (.pair .str (.pair (.int .i64) (.pair (.int .i64) .str))))),(167,.unit)]
theorem Xw9:EqOk Tryz.prog 167 .unit:=⟨λ_=>by kernel_rfl,λh=>absurd rfl h⟩
set_option maxRecDepth 100000 in
theorem XyS:EqOk Tryz.prog 46 (.pair (.int .i64) (.pair .str (.pair (.int .i64) (.pair (.int .i64) .str)))):=by
 refine⟨λe=>(by cases e),λ_=>⟨by kernel_rfl,λw x y=>?_⟩⟩;show(Op.equalIn (9999+1) 46 (.agg #[.int .i64 x.1,.string ⟨x.2.1.toArray⟩,.int .i64 x.2.2.1,.int .i64 x.2.2.2.1,.string ⟨x.2.2.2.2.toArray⟩]) (.agg #[.int .i64 y.1,.string ⟨y.2.1.toArray⟩,.int .i64 y.2.2.1,.int .i64 y.2.2.2.1,.string ⟨y.2.2.2.2.toArray⟩])).run Tryz.prog w=.ok (x.1==y.1&&(x.2.1==y.2.1&&(x.2.2.1==y.2.2.1&&(x.2.2.2.1==y.2.2.2.1&&(x.2.2.2.2==y.2.2.2.2&&true))))) w;rw[run_equalIn_struct w 9999 46 _ _ (by kernel_rfl) (by kernel_rfl),Xi8];have hf:((Tryz.prog.fieldsOf 46).toList.map λf=>(decide (f.name≠ "_"),f.type,f.offset))=[(true,3,0),(true,9,1),(true,3,2),(true,3,3),(true,9,4)]:=by kernel_rfl
 rw[hf];exact XgB (run_part_plain w (by kernel_rfl) rfl) (run_part_plain w (by kernel_rfl) rfl) (run_equalIn_int w 9998 3 .i64 .i64 _ _ (by kernel_rfl)) (XgB (run_part_plain w (by kernel_rfl) rfl) (run_part_plain w (by kernel_rfl) rfl) ((run_equalIn_string w 9998 9 _ _ (by kernel_rfl)).trans (by rw[XeR,XeR])) (XgB (run_part_plain w (by kernel_rfl) rfl) (run_part_plain w (by kernel_rfl) rfl) (run_equalIn_int w 9998 3 .i64 .i64 _ _ (by kernel_rfl)) (XgB (run_part_plain w (by kernel_rfl) rfl) (run_part_plain w (by kernel_rfl) rfl) (run_equalIn_int w 9998 3 .i64 .i64 _ _ (by kernel_rfl)) (XgB (run_part_plain w (by kernel_rfl) rfl) (run_part_plain w (by kernel_rfl) rfl) ((run_equalIn_string w 9998 9 _ _ (by kernel_rfl)).trans (by rw[XeR,XeR])) (rfl)))))
theorem eqsOk:Xv6 Tryz.prog eqs:=λt τ h=>by
 unfold eqs at h;simp only[X08]at h;split at h
 . rename_i e;subst e;cases h;exact XyS
 split at h
 . rename_i e;subst e;cases h;exact Xw9
 . cases h
theorem Xjp:XcF tab tab=true:=by kernel_rfl
abbrev ln{α:Type}(l:List α):Int:=((List.length l:Nat):Int)
abbrev tN(i:Int):Nat:=Int.toNat i
abbrev wI(i:Int):Int:=IntKind.wrap .i64 i
abbrev eS(a b:List (Nat×Sv)):Prop:=a=b
abbrev rE{α:Type}(a b:α):Prop:=(a,((),()))=(b,((),()))
abbrev rU{α:Type}(r:α×(Unit×Unit))(v:α):Prop:=r=(v,((),()))
abbrev dC(p:Prop)[Decidable p](A B:Prop):Prop:=X00 (decide p) A B
abbrev gA{α:Type}(l:List α)(i:Int)(d:α):α:=List.getD l (tN i) d
abbrev lE{α:Type}(x y:List α):Prop:=List.length x+List.length y<=9223372036854775807
abbrev iB{α:Type}(i:Int)(l:List α)(Q:Prop):Prop:=0<=i/\(i<ln l/\Q)
abbrev eQ(a:List (Nat×Sv)):Prop:=a=a
abbrev vI(x:Int):Sv:=.val false [.int .i64 x]
abbrev vS(x:List UInt8):Sv:=.val false [.str x]
abbrev vL(t:Ty)(x:List (El t)):Sv:=.val false [.lst t x none]
theorem B0:(∀{p:Prop},(True/\p)↔p)/\(∀{p:Prop},(p/\True)↔p)/\(∀{p:Prop}[Decidable p],(decide p=true)=p)/\(∀{p:Prop}[Decidable p],decide p=false↔¬p)/\(∀{b:Bool},((!b)=true)=(b=false))/\(∀{b:Bool},((!b)=false)=(b=true))/\((!true)=false)/\((!false)=true)/\(∀n:Nat,0+n=n)/\(∀h:Decidable True,@decide True h=true)/\(∀h:Decidable False,@decide False h=false):=
 ⟨by simp,by simp,Yaj,Yaw,by simp,by simp,rfl,rfl,YaU,decide_true,decide_false⟩
theorem Bs.{u}:(∀{α:Sort u}{p:α->Prop}{b:α},(∀a,a=b->p a)↔p b)/\(∀{α:Sort u}(a b:α),(a≠b)=¬a=b)/\(∀{α:Sort u}(a:α),(a=a)=True):=⟨YbN,λ_ _=>rfl,eq_self⟩
theorem B1.{u}:(∀{α:Type u}[BEq α][LawfulBEq α]{a b:α},(a != b)=true↔a≠b)/\(∀{α:Type u}[BEq α][LawfulBEq α]{a b:α},(a==b)=true↔a=b)/\(∀{α:Type u}[BEq α][LawfulBEq α]{a b:α},(a==b)=false↔a≠b)/\(∀{α:Type u}[BEq α][LawfulBEq α]{a b:α},(a != b)=false↔a=b)/\(∀{α:Type u}{a b:List α},(a++b).length=a.length+b.length)/\(∀{α:Type u}{a:α}{l:List α},(a::l).length=l.length+1)/\(∀{α:Type u},([]:List α).length=0)/\(∀{α:Type u}(l:List α),l++[]=l):=
 ⟨bne_iff_ne,YbW,YbG,bne_eq_false_iff_eq,Yab,rfl,rfl,Ybd⟩
def Xvm(fn:Func):Code:=match fn.body with | some c=>c | none=>.skip
structure GE where
 n:Nat
 con:Con
 fn:FnOk Tryz.prog n
 ok:X0h Tryz.prog n con
def XxU(l:List GE)(tk:List Nat):Gam:=gam (l.map λe=>(e.n,e.con)) tk eqs
theorem Xpz(tk:List Nat):∀l:List GE,XfO Tryz.prog (XxU l tk)
 | []=>Xx8 _ _ eqsOk
 | e::l=>Xue e.fn e.ok (Xpz tk l)
def noL{α β:Type}(_:α)(_:β):Nat->Option X0f:=λ_=>none
def EqS(con:Con)(fn:Func)(tys:List TypeId)(g:List GE)(tk:List Nat)(L:(i:El con.I)->El con.A->Nat->Option X0f)(F:El con.I->El con.A->Prop):Prop:=
 ∀i x,vc tab (XxU g tk) (L i x) (Xvm fn) 1 (Xi9 con fn.ntmps i x) (Xw1 tab con fn.results.toList tys i x)=F i x
theorem X0S{con:Con}{fn:Func}{tys:List TypeId}{g:List GE}{tk:List Nat}{L:(i:El con.I)->El con.A->Nat->Option X0f}{F:El con.I->El con.A->Prop}{n:FuncId}(he:EqS con fn tys g tk L F)(hf:Tryz.prog.funcs[n]?=some fn)(hb:fn.body=some (Xvm fn))(hB:conB tab con fn.ntmps=true)(h:∀i x,con.pre i x->(con.io=true->Wf con.I i)->Wf con.A x->F i x):X0h Tryz.prog n con:=
 Xp7 L rfl XgY (Xpz tk g) hf hb tys hB λi x h1 h2 h3=>by rw[he];exact h i x h1 h2 h3
def mE(con:Con){fn:Func}{n:FuncId}(hf:Tryz.prog.funcs[n]?=some fn)(tys:List TypeId)(g:List GE)(tk:List Nat)(L:(i:El con.I)->El con.A->Nat->Option X0f)(F:El con.I->El con.A->Prop)(h:∀i x,con.pre i x->(con.io=true->Wf con.I i)->Wf con.A x->F i x)(he:EqS con fn tys g tk L F:=by intro i x;kernel_rfl)(hB:conB tab con fn.ntmps=true:=by kernel_rfl)(hb:fn.body=some (Xvm fn):=by rfl)(h1:(fn.name== "runtime.NumGoroutine")=false:=by rfl)(h2:fn.body.isNone=false:=by rfl):GE:=⟨n,con,⟨_,hf,h1,h2⟩,X0S he hf hb hB h⟩
abbrev XLK(l:List (Nat×X0f)):Nat->Option X0f:=λq=>Go.Proofs.YthpdkligbfbjeaaGreat.Bv.look q l
def kA(s i k e:Nat):XcO:=⟨true,s,i,k,e,true⟩
def kB(s i k e:Nat):XcO:=⟨true,s,i,k,e,false⟩
def kC(s i k e:Nat):XcO:=⟨false,s,i,k,e,true⟩
def kD(s i k e:Nat):XcO:=⟨false,s,i,k,e,false⟩
def cQ(A:Ty)(s:List Sh)(R:Ty)(r:List (Bool×Nat))(p:El A->Prop)(f:El A->El R):Con:={A:=A,shA:=s,R:=R,shR:=r,pre:=λ_ a=>p a,f:=some λ_ a=>(f a,((),()))}
def cW(A:Ty)(s:List Sh)(R:Ty)(r:List (Bool×Nat))(h:List (Nat×TypeId))(p:El A->Prop)(f:El A->El R):Con:={A:=A,shA:=s,R:=R,shR:=r,fresh:=h,pre:=λ_ a=>p a,f:=some λ_ a=>(f a,((),()))}
theorem w64{x:Int}(h:-9223372036854775808<=x)(h':x<=9223372036854775807):IntKind.wrap .i64 x=x:=Yau _ ⟨h,h'⟩
theorem wu8{x:Int}(h:0<=x)(h':x<=255):IntKind.wrap .u8 x=x:=YcA _ ⟨h,h'⟩
theorem tn0(n:Nat):((n:Int)).toNat=n:=rfl
theorem tn1{i:Int}(h:0<=i):(i+1).toNat=i.toNat+1:=by omega
theorem tm1{i:Int}(h:1<=i):(i - 1).toNat=i.toNat - 1:=by omega
theorem tm2{i:Int}(h:2<=i):(i - 2).toNat=i.toNat - 2:=by omega
theorem X0O{α:Type}{l:List α}{i:Nat}{d:α}(h:i<l.length):l.getD i d=l[i]:=by rw[Yar,Yax h];rfl
theorem X10{α:Type}{l:List α}{i:Nat}{d:α}(h:i<l.length):l.getD i d∈l:=by rw[X0O h];exact Yc3 h
theorem X0M{α:Type}{l:List α}{i:Nat}(d:α)(h:i<l.length):l.take (i+1)=l.take i++[l.getD i d]:=by
 rw[X0O h,Ydo,Yax h];rfl
theorem X3J{α:Type}{l:List α}{i:Nat}(d:α)(h:i<l.length):l.drop i=l.getD i d::l.drop (i+1):=by
 rw[X0O h];exact YbD h
def fIn(a l h:Int):Bool:=decide (l<=a)&&decide (a<=h)
def X7j(t:Int):Int:=if fIn t 0 1099511627776 then t / 100 else -1
def XfN(a:Int)(n:Nat):List Int:=(List.range n).map fun(j:Nat)=>a+(j:Int)
theorem Xgj(a:Int)(n:Nat):(XfN a n).length=n:=by simp[XfN]
theorem Xoo(a:Int)(n:Nat):XfN a (n+1)=XfN a n++[a+(n:Int)]:=by simp[XfN,List.range_succ]
def X3v(a b:Int):List Int:=if a<0\/b<=a\/b>1099511627776\/(b - 1) / 100 - a / 100>=8 then [] else XfN (a / 100) ((b - 1) / 100 - a / 100+1).toNat
def XtF(a b k:Int)(out:List Int):Prop:=0<=a/\a<b/\b<=1099511627776/\(b - 1) / 100 - a / 100<8/\a / 100<=k/\k<=(b - 1) / 100+1/\out=XfN (a / 100) (k - a / 100).toNat
def Xv2(a b k:Int)(out:List Int):Nat:=((b - 1) / 100+1 - k).toNat
theorem Xpg{a b k:Int}{out:List Int}(h:XtF a b k out)(hk:k<=(b - 1) / 100):
 out.length<=8/\IntKind.wrap .i64 (k+1)=k+1/\XtF a b (k+1) (out++[k])/\Xv2 a b (k+1) (out++[k])<Xv2 a b k out:=by
 obtain⟨h1,h2,h3,h4,h5,h6,h7⟩:=h;refine⟨by rw[h7,Xgj];omega,Yau _ (by omega),⟨h1,h2,h3,h4,by omega,by omega,?_⟩,by unfold Xv2;omega⟩;have e:(k+1 - a / 100).toNat=(k - a / 100).toNat+1:=by omega
 rw[e,Xoo,h7]
 congr 2
 omega
theorem Xs1{a b k:Int}{out:List Int}(h:XtF a b k out)(hk:¬k<=(b - 1) / 100):out=X3v a b:=by
 obtain⟨h1,h2,h3,h4,h5,h6,h7⟩:=h;unfold X3v;rw[Yae (by omega),h7]
 congr 2
 omega
def XdP:Con:=cQ (.pair (.int .i64) T0q) [.one,.one,.one] .bool [(false,1)] (λ_=>True) λa=>(fIn a.1 a.2.1 a.2.2)
def X26.F(a0:Int)(a1:Int)(a2:Int):Prop:=X00 (decide (a0>=a1)) (Eq (decide (a0<=a2),(),()) (fIn a0 a1 a2,(),())) (Eq (false,(),()) (fIn a0 a1 a2,(),()))
theorem X26.p(a0:Int)(a1:Int)(a2:Int)(h:True):X26.F a0 a1 a2:=by
 unfold X26.F fIn;simp only[X01,Ybm,Yaj,Yaw,Yaa];exact⟨λh=>by simp[h],λh=>by simp[h]⟩
def X26.e:GE:=mE XdP func37 [4] [] [] noL (λi x=>X26.F x.1 x.2.1 x.2.2) λi x h _ _=>X26.p x.1 x.2.1 x.2.2 h
def XdU:Con:=cQ (.pair (.int .i64) T0q) [.one,.one,.one] .bool [(false,1)] (λ_=>True) λa=>(fIn a.1 a.2.1 a.2.2)
def X0X.F(a0:Int)(a1:Int)(a2:Int):Prop:=X00 (decide (a0>=a1)) (Eq (decide (a0<=a2),(),()) (fIn a0 a1 a2,(),())) (Eq (false,(),()) (fIn a0 a1 a2,(),()))
theorem X0X.p(a0:Int)(a1:Int)(a2:Int)(h:True):X0X.F a0 a1 a2:=by
 unfold X0X.F fIn;simp only[X01,Ybm,Yaj,Yaw,Yaa];exact⟨λh=>by simp[h],λh=>by simp[h]⟩
def X0X.e:GE:=mE XdU func52 [4] [] [] noL (λi x=>X0X.F x.1 x.2.1 x.2.2) λi x h _ _=>X0X.p x.1 x.2.1 x.2.2 h
def X9d:Con:=cQ (.int .i64) [.one] (.int .i64) [(false,1)] (λ_=>True) λa=>(X7j a)
def X3g.F(a0:Int):Prop:=True/\∀r1,Eq r1 (fIn a0 0 1099511627776,(),())->X00 (!r1.1) (Eq (-1,(),()) (X7j a0,(),())) ((100:Int)≠0/\Eq (wI (Int.tdiv a0 (100:Int)),(),()) (X7j a0,(),()))
theorem X3g.p(a0:Int)(h:True):X3g.F a0:=by
 unfold X3g.F X7j;simp only[YbN,Ybw,Ybm,X01,Yaa,YaS,Ybo];refine⟨λh1=>by simp[h1],λh1=>⟨by omega,?_⟩⟩;have h2:=h1;simp only[fIn,Yac,Yaj]at h2;rw[Yah h1,Yba h2.1];exact Yau _ (by omega)
def X3g.e:GE:=mE X9d func40 [3] [X26.e] [] noL (λi x=>X3g.F x) λi x h _ _=>X3g.p x h
def Xcf:Con:=cW T0q [.one,.one] XfJ [(false,1)] [(0,3)] (λ_=>True) λa=>(X3v a.1 a.2)
def X58.F(a0:Int)(a1:Int):Prop:=X00 (decide (a0<(0:Int))) (Eq (([]:List Int),(),()) (X3v a0 a1,(),())) (X00 (decide (a1<=a0)) (Eq (([]:List Int),(),()) (X3v a0 a1,(),())) (X00 (decide (a1>(1099511627776:Int))) (Eq (([]:List Int),(),()) (X3v a0 a1,(),())) (True/\∀r1,Eq r1 (X7j a0,(),())->True/\∀r2,Eq r2 (X7j (wI (a1 - (1:Int))),(),())->X00 (decide (wI (r2.1 - r1.1)>=(8:Int))) (Eq (([]:List Int),(),()) (X3v a0 a1,(),())) (eS [(7,.val false [.int .i64 r2.1])] [(7,.val false [.int .i64 r2.1])]/\XtF a0 a1 r1.1 ([]:List Int)/\∀(y3:Int×List Int),XtF a0 a1 y3.1 y3.2->X00 (decide (y3.1<=r2.1)) (List.length y3.2+List.length [y3.1]<=9223372036854775807/\(List.length y3.2+List.length [y3.1])*8<=140737488355328/\eS [(7,.val false [.int .i64 r2.1])] [(7,.val false [.int .i64 r2.1])]/\XtF a0 a1 (wI (y3.1+(1:Int))) (y3.2++[y3.1])/\Xv2 a0 a1 (wI (y3.1+(1:Int))) (y3.2++[y3.1])<Xv2 a0 a1 y3.1 y3.2) (Eq (y3.2,(),()) (X3v a0 a1,(),()))))))
def X58.L(a0:Int)(a1:Int):Nat->Option X0f:=XLK [(1018,⟨⟨[7],[5,8],[],[kC 5 0 1000643 3]⟩,(.pair (.int .i64) XfJ),λst y=>XtF a0 a1 y.1 y.2,λst y=>Xv2 a0 a1 y.1 y.2⟩)]
theorem X58.p(a0:Int)(a1:Int)(h:True):X58.F a0 a1:=by
 delta X58.F wI eS;simp only[YbN,Ybw,Ybm,X01,Yaa,Yaj,Yaw];refine⟨λh1=>by simp[X3v,h1],λh1=>⟨λh2=>by simp[X3v,h2],λh2=>⟨λh3=>by simp[X3v,h3],λh3=>?_⟩⟩⟩;have e0:IntKind.wrap .i64 (a1 - 1)=a1 - 1:=Yau _ (by omega);have e1:X7j a0=a0 / 100:=by unfold X7j fIn;rw[Yah (by simp;omega)]
 have e2:X7j (a1 - 1)=(a1 - 1) / 100:=by unfold X7j fIn;rw[Yah (by simp;omega)]
 have e3:IntKind.wrap .i64 ((a1 - 1) / 100 - a0 / 100)=(a1 - 1) / 100 - a0 / 100:=Yau _ (by omega);simp only[e0,e1,e2,e3];refine⟨λh4=>by unfold X3v;rw[Yah (by omega)],λh4=>⟨⟨by omega,by omega,by omega,by omega,by omega,by omega,by simp[XfN]⟩,?_⟩⟩;rintro⟨k,out⟩ hI;simp only at hI ⊢;refine⟨λhk=>?_,λhk=>Xs1 hI hk⟩;obtain⟨h5,h6,h7,h8⟩:=Xpg hI hk;rw[h6];exact⟨by simp;omega,by simp;omega,h7,h8⟩
def X58.e:GE:=mE Xcf func111 [147] [X3g.e] [] (λi x=>X58.L x.1 x.2) (λi x=>X58.F x.1 x.2) λi x h _ _=>X58.p x.1 x.2 h
def XcH:Con:=cW T0q [.one,.one] XfJ [(false,1)] [(0,3)] (λ_=>True) λa=>(X3v a.1 a.2)
def X5a.F(a0:Int)(a1:Int):Prop:=X00 (decide (a0<(0:Int))) (Eq (([]:List Int),(),()) (X3v a0 a1,(),())) (X00 (decide (a1<=a0)) (Eq (([]:List Int),(),()) (X3v a0 a1,(),())) (X00 (decide (a1>(1099511627776:Int))) (Eq (([]:List Int),(),()) (X3v a0 a1,(),())) ((100:Int)≠0/\(100:Int)≠0/\X00 (decide (wI (wI (Int.tdiv (wI (a1 - (1:Int))) (100:Int)) - wI (Int.tdiv a0 (100:Int)))>=(8:Int))) (Eq (([]:List Int),(),()) (X3v a0 a1,(),())) (eS [(6,.val false [.int .i64 (wI (Int.tdiv (wI (a1 - (1:Int))) (100:Int)))])] [(6,.val false [.int .i64 (wI (Int.tdiv (wI (a1 - (1:Int))) (100:Int)))])]/\XtF a0 a1 (wI (Int.tdiv a0 (100:Int))) ([]:List Int)/\∀(y1:Int×List Int),XtF a0 a1 y1.1 y1.2->X00 (decide (y1.1<=wI (Int.tdiv (wI (a1 - (1:Int))) (100:Int)))) (List.length y1.2+List.length [y1.1]<=9223372036854775807/\(List.length y1.2+List.length [y1.1])*8<=140737488355328/\eS [(6,.val false [.int .i64 (wI (Int.tdiv (wI (a1 - (1:Int))) (100:Int)))])] [(6,.val false [.int .i64 (wI (Int.tdiv (wI (a1 - (1:Int))) (100:Int)))])]/\XtF a0 a1 (wI (y1.1+(1:Int))) (y1.2++[y1.1])/\Xv2 a0 a1 (wI (y1.1+(1:Int))) (y1.2++[y1.1])<Xv2 a0 a1 y1.1 y1.2) (Eq (y1.2,(),()) (X3v a0 a1,(),()))))))
def X5a.L(a0:Int)(a1:Int):Nat->Option X0f:=XLK [(506,⟨⟨[6],[7,8],[],[kC 7 0 1000899 3]⟩,(.pair (.int .i64) XfJ),λst y=>XtF a0 a1 y.1 y.2,λst y=>Xv2 a0 a1 y.1 y.2⟩)]
theorem X5a.p(a0:Int)(a1:Int)(h:True):X5a.F a0 a1:=by
 delta X5a.F wI eS;simp only[YbN,Ybw,Ybm,X01,Yaa,Yaj,Yaw];refine⟨λh1=>by simp[X3v,h1],λh1=>⟨λh2=>by simp[X3v,h2],λh2=>⟨λh3=>by simp[X3v,h3],λh3=>⟨by omega,by omega,?_⟩⟩⟩⟩;have e0:IntKind.wrap .i64 (a1 - 1)=a1 - 1:=Yau _ (by omega);have e1:IntKind.wrap .i64 (Int.tdiv a0 100)=a0 / 100:=by rw[Yba (by omega)];exact Yau _ (by omega)
 have e2:IntKind.wrap .i64 (Int.tdiv (a1 - 1) 100)=(a1 - 1) / 100:=by rw[Yba (by omega)];exact Yau _ (by omega)
 have e3:IntKind.wrap .i64 ((a1 - 1) / 100 - a0 / 100)=(a1 - 1) / 100 - a0 / 100:=Yau _ (by omega);simp only[e0,e1,e2,e3];refine⟨λh4=>by unfold X3v;rw[Yah (by omega)],λh4=>⟨⟨by omega,by omega,by omega,by omega,by omega,by omega,by simp[XfN]⟩,?_⟩⟩;rintro⟨k,out⟩ hI;simp only at hI ⊢;refine⟨λhk=>?_,λhk=>Xs1 hI hk⟩;obtain⟨h5,h6,h7,h8⟩:=Xpg hI hk;rw[h6];exact⟨by simp;omega,by simp;omega,h7,h8⟩
def X5a.e:GE:=mE XcH func170 [147] [] [] (λi x=>X5a.L x.1 x.2) (λi x=>X5a.F x.1 x.2) λi x h _ _=>X5a.p x.1 x.2 h
def XqI{α:Type}(n:α->Nat)(l:List α)(i:Nat):Nat:=((l.take i).map n).sum
theorem Xj0{α:Type}(n:α->Nat)(l:List α):XqI n l 0=0:=by simp[XqI]
theorem XjI{α:Type}(n:α->Nat)(l:List α)(d:α){i:Nat}(h:i<l.length):XqI n l (i+1)=XqI n l i+n (l.getD i d):=by
 unfold XqI;rw[X0M d h,Ya8,List.sum_append];simp
theorem XoB{α:Type}(n:α->Nat)(l:List α)(i:Nat):XqI n l i<=XqI n l l.length:=by
 have h:l.take l.length=l.take i++l.drop i:=by rw[Yat,YaJ]
 unfold XqI;rw[h,Ya8,List.sum_append];omega
def nL{α:Type}(n:α->Nat)(l:List α):Nat:=l.length+XqI n l l.length
theorem XrW{α:Type}(n:α->Nat){x:α}:∀{l:List α},x∈l->n x<=(l.map n).sum
 | y::l,h=>by
   rw[Yas,List.sum_cons];rcases Yak.1 h with rfl | h
   . omega
   . have:=XrW n h;omega
theorem XvW{α:Type}(n:α->Nat){l:List α}{x:α}(h:x∈l):n x+1<=nL n l:=by
 have h1:=XrW n h;have h2:0<l.length:=List.length_pos_of_mem h;unfold nL XqI;rw[Yat];omega
def fSz(n:Nat)(left:Int):Int:=if left<n then -1 else left - n
theorem Xen{n:Nat}{left:Int}(h:left<n):fSz n left= -1:=Yah h
theorem Xf0{n:Nat}{left:Int}(h:¬left<n):fSz n left=left - n:=Yae h
def Xrl{α:Type}(n:α->Nat)(a:List α)(left0 left i:Int):Prop:=0<=i/\i<=a.length/\0<=left/\left0=left+a.length+XqI n a i.toNat
def Xro{α:Type}(a:List α)(left0 left i:Int):Nat:=(a.length - i).toNat
def cpI{α:Type}(d:α)(a:List α)(i:Int)(out:List α):Prop:=0<=i/\i<=a.length/\out=a.take i.toNat++List.replicate (a.length - i.toNat) d
def cpM{α:Type}(a:List α)(i:Int)(out:List α):Nat:=(a.length - i).toNat
theorem XnG{α:Type}{d:α}{a:List α}{i:Int}{out:List α}(h:cpI d a i out):out.length=a.length:=by
 obtain⟨h1,h2,h3⟩:=h;rw[h3,Yab,Yal,YbS];omega
theorem Xk5{α:Type}{d:α}{a:List α}{i:Int}{out:List α}(h:cpI d a i out)(hi:i<a.length):cpI d a (i+1) (out.set i.toNat (a.getD i.toNat d)):=by
 obtain⟨h1,h2,h3⟩:=h;refine⟨by omega,by omega,?_⟩;rw[tn1 h1,h3,X0M d (by omega:i.toNat<a.length)];have e:a.length - i.toNat=(a.length - (i.toNat+1))+1:=by omega
 have hl:(a.take i.toNat).length=i.toNat:=by rw[Yal];omega
 rw[e,Ybx,List.set_append_right _ _ (by omega),hl,Yb3,List.set_cons_zero,Yam];rfl
theorem Xn0{α:Type}{d:α}{a:List α}{i:Int}{out:List α}(h:cpI d a i out)(hi:¬i<a.length):out=a:=by
 obtain⟨h1,h2,h3⟩:=h;have e:i.toNat=a.length:=by omega
 rw[h3,e,Yat,Yb3];simp
def XiM{α:Type}(a b:List α)(i:Int):Prop:=0<=i/\i<=a.length/\a.length=b.length/\a.take i.toNat=b.take i.toNat
def Xlp{α:Type}(a b:List α)(i:Int):Nat:=(a.length - i).toNat
theorem XgE{α:Type}{d:α}{a b:List α}{i:Int}(h:XiM a b i)(hi:i<a.length)(he:a.getD i.toNat d=b.getD i.toNat d):XiM a b (i+1):=by
 obtain⟨h1,h2,h3,h4⟩:=h;refine⟨by omega,by omega,h3,?_⟩;rw[tn1 h1,X0M d (by omega),X0M d (by omega),h4,he]
theorem XiS{α:Type}{a b:List α}{i:Int}(h:XiM a b i)(hi:¬i<a.length):a=b:=by
 obtain⟨h1,h2,h3,h4⟩:=h;have e:i.toNat=a.length:=by omega
 rw[e,Yat,h3,Yat]at h4;exact h4
def cL{α:Type}(c:α->Int)(l:List α):Int:=(l.map c).sum
def mL{α:Type}(c:α->Int)(m:α->Int->α):List α->Int->List α
 | [],_=>[]
 | x::l,k=>m x k::mL c m l (k+c x)
def oL{α:Type}(c:α->Int)(o:α->Int->Bool):List α->Int->Bool
 | [],_=>true
 | x::l,k=>o x k&&oL c o l (k+c x)
def fHd(c:Int)(o:Bool)(k:Int):Int:=if o=true then k+c else -1
theorem X5o{c k:Int}{o:Bool}(h0:0<=c)(h1:0<=k):fHd c o k<0↔o=false:=by
 unfold fHd;cases o<;>simp;omega
theorem X54{c k:Int}{o:Bool}(h:o=true):fHd c o k=k+c:=Yah h
theorem Xya{α:Type}(c:α->Int):cL c []=0:=rfl
theorem X4C{α:Type}(c:α->Int)(x:α)(l:List α):cL c (x::l)=c x+cL c l:=by simp[cL]
theorem XdE{α:Type}(c:α->Int)(l r:List α):cL c (l++r)=cL c l+cL c r:=by simp[cL]
theorem X4c{α:Type}{c:α->Int}(h:∀x,0<=c x):∀l,0<=cL c l
 | []=>by simp[cL]
 | x::l=>by have:=X4c h l;have:=h x;rw[X4C];omega
theorem X5w{α:Type}(c:α->Int)(d:α){l:List α}{i:Nat}(h:i<l.length):cL c (l.take (i+1))=cL c (l.take i)+c (l.getD i d)/\cL c l=cL c (l.take i)+(c (l.getD i d)+cL c (l.drop (i+1))):=by
 constructor
 . rw[X0M d h,XdE];simp[cL]
 . conv=>lhs;rw[<-YaJ i l,XdE,X3J d h,X4C]
theorem Xgi{α:Type}(c:α->Int)(m:α->Int->α):∀l k,(mL c m l k).length=l.length
 | [],_=>rfl
 | x::l,k=>by simp[mL,Xgi c m l]
theorem XmJ{α:Type}(c:α->Int)(m:α->Int->α):∀l r k,mL c m (l++r) k=mL c m l k++mL c m r (k+cL c l)
 | [],r,k=>by simp[mL,cL]
 | x::l,r,k=>by simp only[Ybc,mL,XmJ c m l r,X4C];rw[Int.add_assoc]
theorem XiN{α:Type}{c:α->Int}{m:α->Int->α}{o:α->Int->Bool}(h:∀x k,o (m x k) k=true/\c (m x k)=c x):∀l k,oL c o (mL c m l k) k=true/\cL c (mL c m l k)=cL c l
 | [],k=>⟨rfl,rfl⟩
 | x::l,k=>by
   obtain⟨h1,h2⟩:=h x k;obtain⟨h3,h4⟩:=XiN h l (k+c x);simp only[mL,oL,X4C,h1,h2,h3,h4,Bool.and_self,and_self]
structure mkI {α:Type} (c:α->Int) (m:α->Int->α) (a:List α) (k0 k i:Int) (l:List α):Prop where
 h1:0<=i
 h2:i<=a.length
 h3:k=k0+cL c (a.take i.toNat)
 h4:l=mL c m (a.take i.toNat) k0++a.drop i.toNat
def mkM{α:Type}(a:List α)(k0 k i:Int)(l:List α):Nat:=(a.length - i).toNat
theorem XnD{α:Type}{c:α->Int}{m:α->Int->α}{a:List α}{k0 k i:Int}{l:List α}(h:mkI c m a k0 k i l):l.length=a.length:=by
 obtain⟨h1,h2,h3,h4⟩:=h;rw[h4,Yab,Xgi,Yal,Yap];omega
theorem XsM{α:Type}{c:α->Int}{m:α->Int->α}{a:List α}{k0 k i:Int}{l:List α}{d:α}(h:mkI c m a k0 k i l)(hi:i<a.length):l.getD i.toNat d=a.getD i.toNat d:=by
 obtain⟨h1,h2,h3,h4⟩:=h;have hl:(mL c m (a.take i.toNat) k0).length=i.toNat:=by rw[Xgi,Yal];omega
 rw[h4,Yar,Ybb (by omega),hl,Yb3,X3J d (by omega)];rfl
theorem XiF{α:Type}{c:α->Int}{m:α->Int->α}{a:List α}{k0 k i:Int}{l:List α}{d x':α}{k':Int}(h:mkI c m a k0 k i l)(hi:i<a.length)(hx:x'=m (a.getD i.toNat d) k)(hk:k'=k+c (a.getD i.toNat d)):mkI c m a k0 k' (i+1) (l.set i.toNat x'):=by
 obtain⟨h1,h2,h3,h4⟩:=h;have hi':i.toNat<a.length:=by omega
 have hl:(mL c m (a.take i.toNat) k0).length=i.toNat:=by rw[Xgi,Yal];omega
 refine⟨by omega,by omega,?_,?_⟩
 . rw[tn1 h1,(X5w c d hi').1,hk,h3];omega
 . rw[tn1 h1,h4,X0M d hi',XmJ,List.set_append_right _ _ (by omega),hl,Yb3,X3J d hi',List.set_cons_zero,Yam,hx,h3];rfl
theorem Xo4{α:Type}{c:α->Int}{m:α->Int->α}{a:List α}{k0 k i:Int}{l:List α}(h:mkI c m a k0 k i l)(hi:¬i<a.length):k=k0+cL c a/\l=mL c m a k0:=by
 obtain⟨h1,h2,h3,h4⟩:=h;have e:i.toNat=a.length:=by omega
 rw[e,Yat]at h3 h4;exact⟨h3,by rw[h4,YbO,Ybd]⟩
structure hdI {α:Type} (c:α->Int) (o:α->Int->Bool) (a:List α) (k0 k i:Int):Prop where
 h1:0<=i
 h2:i<=a.length
 h3:k=k0+cL c (a.take i.toNat)
 h4:oL c o a k0=oL c o (a.drop i.toNat) k
def hdM{α:Type}(a:List α)(k0 k i:Int):Nat:=(a.length - i).toNat
theorem Xkm{α:Type}{c:α->Int}{o:α->Int->Bool}{a:List α}{k0 k i k':Int}(d:α)(h:hdI c o a k0 k i)(hi:i<a.length)(ho:o (a.getD i.toNat d) k=true)(hk:k'=k+c (a.getD i.toNat d)):hdI c o a k0 k' (i+1):=by
 obtain⟨h1,h2,h3,h4⟩:=h;have hi':i.toNat<a.length:=by omega
 refine⟨by omega,by omega,?_,?_⟩
 . rw[tn1 h1,(X5w c d hi').1,hk,h3];omega
 . rw[tn1 h1,h4,X3J d hi'];simp only[oL,ho,YaQ,hk]
theorem XrF{α:Type}{c:α->Int}{o:α->Int->Bool}{a:List α}{k0 k i:Int}(d:α)(h:hdI c o a k0 k i)(hi:i<a.length)(ho:o (a.getD i.toNat d) k=false):-1=fHd (cL c a) (oL c o a k0) k0:=by
 obtain⟨h1,h2,h3,h4⟩:=h;rw[h4,X3J d (by omega)];show -1=fHd _ (o (a.getD i.toNat d) k&&oL c o _ _) _;rw[ho,Ybk];rfl
theorem XmO{α:Type}{c:α->Int}{o:α->Int->Bool}{a:List α}{k0 k i:Int}(h:hdI c o a k0 k i)(hi:¬i<a.length):k=fHd (cL c a) (oL c o a k0) k0:=by
 obtain⟨h1,h2,h3,h4⟩:=h;have e:i.toNat=a.length:=by omega
 rw[e,Yat]at h3;rw[e,YbO]at h4;rw[h4];show k=fHd (cL c a) true k0;rw[X54 rfl,h3]
theorem X2d{α:Type}{l:List α}{i:Nat}{v d:α}(h:i<l.length):List.getD (List.set l i v) i d=v:=by
 rw[Yar,Yb2 h];rfl
def XwO(n:Nat)(out:List UInt8):List UInt8:=if n=0 then out else XwO (n / 10) (UInt8.ofNat (48+n % 10)::out)
termination_by n
decreasing_by omega
def pMT(k:Int):Prop:=k<=4611686018427387904
def fMT(k:Int):List UInt8:=if k<=0 then [109,48] else 109::XwO k.toNat []
def mtI(k0 k:Int)(out:List UInt8):Prop:=0<=k/\0<k0/\out.length+k<=k0/\k0<=4611686018427387904/\XwO k.toNat out=XwO k0.toNat []
def mtM(k0 k:Int)(out:List UInt8):Nat:=k.toNat
def X9Q:Con:=cQ (.int .i64) [.one] .str [(false,1)] (λa=>(pMT a)) λa=>(fMT a)
def X1e.F(a0:Int):Prop:=X00 (decide (a0<=(0:Int))) (Eq ([109,48],(),()) (fMT a0,(),())) (eS [] []/\mtI a0 a0 []/\∀(y1:Int×U7q),mtI a0 y1.1 y1.2->X00 (decide (y1.1>(0:Int))) ((10:Int)≠0/\List.length (List.map (λn=>UInt8.ofNat (Int.toNat n)) [IntKind.wrap .u8 (wI ((48:Int)+Int.tmod y1.1 (10:Int)))])+List.length y1.2<=9223372036854775807/\(10:Int)≠0/\eS [] []/\mtI a0 (wI (Int.tdiv y1.1 (10:Int))) (List.map (λn=>UInt8.ofNat (Int.toNat n)) [IntKind.wrap .u8 (wI ((48:Int)+Int.tmod y1.1 (10:Int)))]++y1.2)/\mtM a0 (wI (Int.tdiv y1.1 (10:Int))) (List.map (λn=>UInt8.ofNat (Int.toNat n)) [IntKind.wrap .u8 (wI ((48:Int)+Int.tmod y1.1 (10:Int)))]++y1.2)<mtM a0 y1.1 y1.2) (List.length [109]+List.length y1.2<=9223372036854775807/\Eq ([109]++y1.2,(),()) (fMT a0,(),())))
def X1e.L(a0:Int):Nat->Option X0f:=XLK [(60,⟨⟨[],[0,3],[],[]⟩,(.pair (.int .i64) .str),λst y=>mtI a0 y.1 y.2,λst y=>mtM a0 y.1 y.2⟩)]
theorem X1e.p(a0:Int)(h:(pMT a0)):X1e.F a0:=by
 delta X1e.F wI eS;simp only[Bs,B0,B1,Yaa,X01];have hp:a0<=4611686018427387904:=h;refine⟨λh1=>by simp[fMT,h1],λh1=>⟨⟨by omega,by omega,by simp,hp,rfl⟩,?_⟩⟩;rintro⟨k,out⟩ ⟨h2,h3,h4,h5,h6⟩;simp only at h2 h3 h4 h5 h6 ⊢;refine⟨λhk=>?_,λhk=>?_⟩
 . have e1:Int.tmod k 10=k % 10:=YaA h2;have e2:Int.tdiv k 10=k / 10:=Yba h2;rw[e1,e2,w64 (x:=48+k % 10) (by omega) (by omega),wu8 (by omega) (by omega),w64 (x:=k / 10) (by omega) (by omega)];rw[XwO,Yae (by omega)]at h6;refine⟨by omega,by simp;omega,by omega,⟨by omega,h3,by simp;omega,h5,?_⟩,by unfold mtM;omega⟩;have e3:(k / 10).toNat=k.toNat / 10:=by omega
   have e4:(48+k % 10).toNat=48+k.toNat % 10:=by omega
   rw[<-h6,e3];show XwO _ (UInt8.ofNat (48+k % 10).toNat::out)=_;rw[e4]
 . have e:k=0:=by omega
   subst e;rw[show Int.toNat 0=0 from rfl,XwO,Yah rfl]at h6;refine⟨by omega,?_⟩;unfold fMT;rw[Yae h1,<-h6];rfl
def X1e.e:GE:=mE X9Q func69 [9] [] [] (λi x=>X1e.L x) (λi x=>X1e.F x) λi x h _ _=>X1e.p x h
def XdX(x:List UInt8):Int:=1
def X83(x:List UInt8)(k:Int):List UInt8:=fMT k
def X7C(x:List UInt8)(k:Int):Bool:=decide (x=fMT k)
theorem Xny:∀(x:List UInt8) (k:Int),X7C (X83 x k) k=true/\XdX (X83 x k)=XdX x:=λx k=>⟨by simp[X7C,X83],rfl⟩
theorem X6A:∀x:List UInt8,0<=XdX x:=λx=>by simp[XdX]
def Xe0(x:List U7q)(left:Int):Prop:=WfD XfH x/\0<=left/\left<=1048576
def X8C(x:List U7q)(left:Int):Int:=fSz (nL (λs=>List.length s) x) left
def X84:Con:=cQ (.pair XfH (.int .i64)) [.one,.one] (.int .i64) [(false,1)] (λa=>(Xe0 a.1 a.2)) λa=>(X8C a.1 a.2)
def X2u.F(a0:(List U7q))(a1:Int):Prop:=dC (wI (a1 - ln a0)<0) (rE (-1) (X8C a0 a1)) (eQ [(0,vL .str a0)]/\Xrl (λs:List UInt8=>List.length s) a0 a1 (wI (a1 - ln a0)) 0/\∀(y1:Int×Int),Xrl (λs:List UInt8=>List.length s) a0 a1 y1.1 y1.2->dC (y1.2<ln a0) (iB y1.2 a0 (dC (wI (y1.1 - ln (gA a0 y1.2 []))<0) (rE (-1) (X8C a0 a1)) (eQ [(0,vL .str a0)]/\Xrl (λs:List UInt8=>List.length s) a0 a1 (wI (y1.1 - ln (gA a0 y1.2 []))) (wI (y1.2+1))/\Xro a0 a1 (wI (y1.1 - ln (gA a0 y1.2 []))) (wI (y1.2+1))<Xro a0 a1 y1.1 y1.2))) (rE y1.1 (X8C a0 a1)))
def X2u.L(a0:(List U7q))(a1:Int):Nat->Option X0f:=XLK [(122,⟨⟨[0],[1,5],[],[]⟩,T0q,λst y=>Xrl (λs:List UInt8=>List.length s) a0 a1 y.1 y.2,λst y=>Xro a0 a1 y.1 y.2⟩)]
theorem X2u.p(a0:(List U7q))(a1:Int)(h:(Xe0 a0 a1)):X2u.F a0 a1:=by
 delta X2u.F ln wI dC eQ gA iB rE vL tN;obtain⟨hwf,p1,p2⟩:=h;have hw1:a0.length<=9223372036854775807:=hwf.1;simp only[Bs,B0,B1,Yaa,X01,X8C];rw[w64 (x:=a1 - (a0.length:Int)) (by omega) (by omega)];refine⟨λh1=>(Xen (by unfold nL;omega)).symm,λh1=>⟨⟨by omega,by omega,by omega,by rw[show Int.toNat 0=0 from rfl,Xj0];omega⟩,?_⟩⟩;rintro⟨left,i⟩ ⟨h2,h3,h4,h5⟩;simp only at h2 h3 h4 h5 ⊢;refine⟨λhi=>?_,λhi=>?_⟩
 . have hm:a0.getD i.toNat ([]:U7q)∈a0:=X10 (by omega);have s1:=XjI (λs:List UInt8=>List.length s) a0 ([]:U7q) (i:=i.toNat) (by omega);have s2:=XoB (λs:List UInt8=>List.length s) a0 (i.toNat+1);have hwx:(a0.getD i.toNat ([]:U7q)).length<=9223372036854775807:=hwf.2 _ hm;rw[w64 (x:=left - ((a0.getD i.toNat ([]:U7q)).length:Int)) (by omega) (by omega),w64 (x:=i+1) (by omega) (by omega)];refine⟨h2,hi,λh6=>(Xen (by unfold nL;omega)).symm,λh6=>⟨⟨by omega,by omega,by omega,by rw[tn1 h2];omega⟩,by unfold Xro;omega⟩⟩
 . have e:i.toNat=a0.length:=by omega
   rw[e]at h5;rw[Xf0 (by unfold nL;omega)];unfold nL;omega
def X2u.e:GE:=mE X84 func35 [3] [] [] (λi x=>X2u.L x.1 x.2) (λi x=>X2u.F x.1 x.2) λi x h _ _=>X2u.p x.1 x.2 h
def XdM(x:List U7q):Prop:=nL (λs=>List.length s) x<=1048576
def XbR(x:List U7q):List U7q:=x
def X85:Con:=cW XfH [.one] XfH [(false,1)] [(0,9)] (λa=>(XdM a)) λa=>(XbR a)
def X2r.F(a0:(List U7q)):Prop:=0<=ln a0/\ln a0<=ln a0/\ln a0<=9223372036854775807/\((16:Nat):Int)*ln a0<=140737488355328/\eQ [(0,vL .str a0),(3,.val false [.own .str 1000387])]/\cpI ([]:U7q) a0 0 (List.replicate (tN (ln a0)) ([]:U7q))/\∀(y1:Int×List U7q),cpI ([]:U7q) a0 y1.1 y1.2->dC (y1.1<ln a0) (iB y1.1 a0 (iB y1.1 y1.2 (eQ [(0,vL .str a0),(3,.val false [.own .str 1000387])]/\cpI ([]:U7q) a0 (wI (y1.1+1)) (List.set y1.2 (tN y1.1) (gA a0 y1.1 []))/\cpM a0 (wI (y1.1+1)) (List.set y1.2 (tN y1.1) (gA a0 y1.1 []))<cpM a0 y1.1 y1.2))) (rE y1.2 (XbR a0))
def X2r.L(a0:(List U7q)):Nat->Option X0f:=XLK [(58,⟨⟨[0,3],[4],[],[kC 3 0 1000387 9]⟩,(.pair (.int .i64) XfH),λst y=>cpI ([]:U7q) a0 y.1 y.2,λst y=>cpM a0 y.1 y.2⟩)]
theorem X2r.p(a0:(List U7q))(h:(XdM a0)):X2r.F a0:=by
 delta X2r.F ln tN wI dC eQ gA iB rE vL;have hb:a0.length<=1048576:=by have h1:nL (λs=>List.length s) a0<=1048576:=h;unfold nL at h1;omega
 simp only[Bs,B0,B1,Yaa,X01,XbR];refine⟨by omega,by omega,by omega,by omega,⟨by omega,by omega,by simp⟩,?_⟩;rintro⟨i,out⟩ hI;simp only at hI ⊢;refine⟨λhi=>?_,λhi=>Xn0 hI hi⟩;have hl:=XnG hI;have h3:=hI.2.1;have h2:=hI.1;rw[w64 (x:=i+1) (by omega) (by omega)];simp only[hl];exact⟨h2,hi,h2,hi,Xk5 hI hi,by unfold cpM;omega⟩
def X2r.e:GE:=mE X85 func49 [24] [] [] (λi x=>X2r.L x) (λi x=>X2r.F x) λi x h _ _=>X2r.p x h
def X66(a b:List U7q):Bool:=decide (a=b)
def X8j:Con:=cQ (.pair XfH XfH) [.one,.one] .bool [(false,1)] (λ_=>True) λa=>(X66 a.1 a.2)
def X2p.F(a0:(List U7q))(a1:(List U7q)):Prop:=X00 (ln a0 !=ln a1) (rE false (X66 a0 a1)) (eQ [(0,vL .str a0),(1,vL .str a1)]/\XiM a0 a1 0/\∀(y1:Int),XiM a0 a1 y1->dC (y1<ln a0) (iB y1 a0 (iB y1 a1 (X00 (!gA a0 y1 []==gA a1 y1 []) (rE false (X66 a0 a1)) (eQ [(0,vL .str a0),(1,vL .str a1)]/\XiM a0 a1 (wI (y1+1))/\Xlp a0 a1 (wI (y1+1))<Xlp a0 a1 y1)))) (rE true (X66 a0 a1)))
def X2p.L(a0:(List U7q))(a1:(List U7q)):Nat->Option X0f:=XLK [(58,⟨⟨[0,1],[5],[],[]⟩,(.int .i64),λst y=>XiM a0 a1 y,λst y=>Xlp a0 a1 y⟩)]
theorem X2p.p(a0:(List U7q))(a1:(List U7q))(h:True)(hw:Wf X8j.A (a0,a1)):X2p.F a0 a1:=by
 delta X2p.F ln wI dC eQ gA iB rE vL tN;have hw1:a0.length<=9223372036854775807:=hw.1.1;simp only[Bs,B0,B1,Yaa,X01];refine⟨λh1=>?_,λh1=>?_⟩
 . have:a0≠a1:=λe=>by subst e;simp at h1
   simp[X66,this]
 have hl:a0.length=a1.length:=by omega
 refine⟨⟨by omega,by omega,hl,by simp⟩,?_⟩;rintro i hI;have h2:=hI.1;have h3:=hI.2.1;refine⟨λhi=>⟨h2,hi,h2,by omega,λhne=>?_,λhe=>?_⟩,λhi=>?_⟩
 . have:a0≠a1:=λe=>by subst e;simp at hne
   simp[X66,this]
 . have hg:a0.getD i.toNat ([]:U7q)=a1.getD i.toNat ([]:U7q):=by simpa using he
   rw[w64 (x:=i+1) (by omega) (by omega)];exact⟨XgE hI hi hg,by unfold Xlp;omega⟩
 . have h6:=XiS hI hi;simp[X66,h6]
def X2p.e:GE:=mE X8j func65 [4] [] [] (λi x=>X2p.L x.1 x.2) (λi x=>X2p.F x.1 x.2) λi x h _ hw=>X2p.p x.1 x.2 h hw
def X6Z(l:List U7q)(k:Int):Prop:=0<=k/\k+cL XdX l<=4611686018427387904
def X8H(l:List U7q)(k:Int):Int×List U7q:=(k+cL XdX l,mL XdX X83 l k)
def X6H:Con:={A:=(.pair XfH (.int .i64)),shA:=[.one,.one],backA:=[(0,9)],B:=XfH,R:=(.int .i64),shR:=[(false,1)],pre:=λ_ a=>(X6Z a.1 a.2),f:=some λ_ a=>((X8H a.1 a.2).1,((),(X8H a.1 a.2).2))}
def X1o.F(a0:(List U7q))(a1:Int):Prop:=eQ [(0,.val false [.own .str 2])]/\mkI XdX X83 a0 a1 a1 0 a0/\∀(y1:Int×Int×List U7q),mkI XdX X83 a0 a1 y1.1 y1.2.1 y1.2.2->dC (y1.2.1<ln y1.2.2) (pMT y1.1/\∀r2,rU r2 (fMT y1.1)->iB y1.2.1 y1.2.2 (eQ [(0,.val false [.own .str 2])]/\mkI XdX X83 a0 a1 (wI (y1.1+1)) (wI (y1.2.1+1)) (List.set y1.2.2 (tN y1.2.1) r2.1)/\mkM a0 a1 (wI (y1.1+1)) (wI (y1.2.1+1)) (List.set y1.2.2 (tN y1.2.1) r2.1)<mkM a0 a1 y1.1 y1.2.1 y1.2.2)) (Eq (y1.1,(),y1.2.2) ((X8H a0 a1).1,(),(X8H a0 a1).2))
def X1o.L(a0:(List U7q))(a1:Int):Nat->Option X0f:=XLK [(26,⟨⟨[0],[1,5],[],[kC 0 0 2 9]⟩,(.pair (.int .i64) (.pair (.int .i64) XfH)),λst y=>mkI XdX X83 a0 a1 y.1 y.2.1 y.2.2,λst y=>mkM a0 a1 y.1 y.2.1 y.2.2⟩)]
theorem X1o.p(a0:(List U7q))(a1:Int)(h:(X6Z a0 a1))(hw:Wf X6H.A (a0,a1)):X1o.F a0 a1:=by
 delta X1o.F ln tN wI dC eQ iB rU;obtain⟨p1,p2⟩:=h;have hw1:a0.length<=9223372036854775807:=hw.1.1;simp only[Bs,B0,B1,Yaa,X01];refine⟨⟨by omega,by omega,by simp[cL],by simp[mL]⟩,?_⟩;rintro⟨k,i,l⟩ hI;simp only at hI ⊢;have hl:=XnD hI;have h2:=hI.1;have h3:=hI.2;refine⟨λhi0=>?_,λhi0=>?_⟩
 . have hi:i<(a0.length:Int):=by omega
   have hi':i.toNat<l.length:=by omega
   have hg:=XsM (d:=([]:U7q)) hI hi;have hs:=X5w XdX ([]:U7q) (l:=a0) (i:=i.toNat) (by omega);have hk:=hI.3;have c1:=X4c X6A (a0.take i.toNat);have c2:=X4c X6A (a0.drop (i.toNat+1));have c3:=X6A (a0.getD i.toNat ([]:U7q));have hmod:Int.tmod k 3=k % 3:=YaA (by omega);have hc:XdX (a0.getD i.toNat ([]:U7q))=XdX (a0.getD i.toNat ([]:U7q)):=rfl
   conv at hc=>rhs;unfold XdX
   try simp only[hg,X2d hi',YbC,YaX]
   try simp (disch:=first | omega | simp_all) only[X2d,YbC,YaX,hg,w64,pMT]
   repeat' (with_reducible (first | (refine And.intro ?_ ?_) | intro _))
   all_goals (try simp+zetaDelta (disch:=first | omega | simp_all) only[hg,X2d,YbC,YaX,w64,pMT])
   all_goals (first | omega | exact XiF (d:=([]:U7q)) hI hi (by simp (disch:=omega) [X83,hmod,YaA]<;>rfl) (by omega) | (unfold mkM;omega) | skip)
 . obtain⟨e1,e2⟩:=Xo4 hI (by omega);exact⟨e1,e2⟩
def X1o.e:GE:=mE X6H func68 [3] [X1e.e] [] (λi x=>X1o.L x.1 x.2) (λi x=>X1o.F x.1 x.2) λi x h _ hw=>X1o.p x.1 x.2 h hw
def Xab(l:List U7q)(k:Int):Int:=fHd (cL XdX l) (oL XdX X7C l k) k
def X6E:Con:=cQ (.pair XfH (.int .i64)) [.one,.one] (.int .i64) [(false,1)] (λa=>(X6Z a.1 a.2)) λa=>(Xab a.1 a.2)
def X1j.F(a0:(List U7q))(a1:Int):Prop:=eQ [(0,vL .str a0)]/\hdI XdX X7C a0 a1 a1 0/\∀(y1:Int×Int),hdI XdX X7C a0 a1 y1.1 y1.2->dC (y1.2<ln a0) (iB y1.2 a0 (pMT y1.1/\∀r2,rU r2 (fMT y1.1)->X00 (!gA a0 y1.2 []==r2.1) (rE (-1) (Xab a0 a1)) (eQ [(0,vL .str a0)]/\hdI XdX X7C a0 a1 (wI (y1.1+1)) (wI (y1.2+1))/\hdM a0 a1 (wI (y1.1+1)) (wI (y1.2+1))<hdM a0 a1 y1.1 y1.2))) (rE y1.1 (Xab a0 a1))
def X1j.L(a0:(List U7q))(a1:Int):Nat->Option X0f:=XLK [(26,⟨⟨[0],[1,5],[],[]⟩,T0q,λst y=>hdI XdX X7C a0 a1 y.1 y.2,λst y=>hdM a0 a1 y.1 y.2⟩)]
theorem X1j.p(a0:(List U7q))(a1:Int)(h:(X6Z a0 a1))(hw:Wf X6E.A (a0,a1)):X1j.F a0 a1:=by
 delta X1j.F ln wI dC eQ gA iB rE rU vL tN;obtain⟨p1,p2⟩:=h;have hw1:a0.length<=9223372036854775807:=hw.1.1;simp only[Bs,B0,B1,Yaa,X01];refine⟨⟨by omega,by omega,by simp[cL],by simp⟩,?_⟩;rintro⟨k,i⟩ hI;simp only at hI ⊢;have h2:=hI.1;have h3:=hI.2;refine⟨λhi=>?_,λhi=>XmO hI hi⟩
 . have hs:=X5w XdX ([]:U7q) (l:=a0) (i:=i.toNat) (by omega);have hk:=hI.3;have c1:=X4c X6A (a0.take i.toNat);have c2:=X4c X6A (a0.drop (i.toNat+1));have c3:=X6A (a0.getD i.toNat ([]:U7q));have hmod:Int.tmod k 3=k % 3:=YaA (by omega);have no:X7C (a0.getD i.toNat ([]:U7q)) k=false->-1=Xab a0 a1:=λho=>XrF ([]:U7q) hI hi ho;have yes:X7C (a0.getD i.toNat ([]:U7q)) k=true->hdI XdX X7C a0 a1 (k+XdX (a0.getD i.toNat ([]:U7q))) (i+1):=λho=>Xkm ([]:U7q) hI hi ho rfl;generalize a0.getD i.toNat ([]:U7q)=x at*;have hc:XdX x=XdX x:=rfl
   conv at hc=>rhs;unfold XdX
   simp only[X7C]at no yes;simp (disch:=omega) only[w64,pMT]
   repeat' (with_reducible (first | (refine And.intro ?_ ?_) | intro _))
   all_goals (first | omega | (unfold hdM;omega) | skip)
   all_goals (try simp (disch:=first | omega | assumption) only[X5o,X54,w64,YaR]at*)
   all_goals (try simp (disch:=first | omega | assumption) only[X5o,X54,w64,YaR]at*)
   all_goals (first | omega | grind)
def X1j.e:GE:=mE X6E func71 [3] [X1e.e] [] (λi x=>X1j.L x.1 x.2) (λi x=>X1j.F x.1 x.2) λi x h _ hw=>X1j.p x.1 x.2 h hw
theorem Xsp{n:Nat}(h:¬fSz n 1048576<0):n<=1048576:=by
 by_cases hc:(1048576:Int)<(n:Int)
 . rw[Xen hc]at h;exact absurd (by decide) h
 . omega
def Xfu(x:(Int×Int)):Nat:=0
def Xe9(x:List (Int×Int))(left:Int):Prop:=WfD X7N x/\0<=left/\left<=1048576
def Xaa(x:List (Int×Int))(left:Int):Int:=fSz (List.length x) left
def X86:Con:=cQ (.pair X7N (.int .i64)) [.one,.one] (.int .i64) [(false,1)] (λa=>(Xe9 a.1 a.2)) λa=>(Xaa a.1 a.2)
def X39.F(a0:U8q)(a1:Int):Prop:=X00 (decide (wI (a1 - ln a0)<(0:Int))) (Eq (-1,(),()) (Xaa a0 a1,(),())) (Eq (wI (a1 - ln a0),(),()) (Xaa a0 a1,(),()))
theorem X39.p(a0:U8q)(a1:Int)(h:(Xe9 a0 a1)):X39.F a0 a1:=by
 delta X39.F ln wI;obtain⟨hwf,p1,p2⟩:=h;have hw1:a0.length<=9223372036854775807:=hwf.1;simp only[Bs,B0,B1,Yaa,X01,Xaa];rw[w64 (x:=a1 - (a0.length:Int)) (by omega) (by omega)];exact⟨λh1=>(Xen (by omega)).symm,λh1=>(Xf0 (by omega)).symm⟩
def X39.e:GE:=mE X86 func14 [3] [] [] noL (λi x=>X39.F x.1 x.2) λi x h _ _=>X39.p x.1 x.2 h
def Xdd(x:(Int×Int)):Prop:=Xfu x<=1048576
def Xdb(x:(Int×Int)):(Int×Int):=x
def X9A:Con:=cQ T0q [.agg 2] T0q [(true,2)] (λa=>(Xdd a)) λa=>(Xdb a)
def X41.F(a0:(Int×Int)):Prop:=Eq ((a0.1,a0.2),(),()) (Xdb a0,(),())
theorem X41.p(a0:(Int×Int))(h:(Xdd a0))(hw:Wf X9A.A a0):X41.F a0:=by
 unfold X41.F;have hp:Xfu a0<=1048576:=h;simp only[Xfu]at hp;simp only[Bs,B0,B1,Yaa,X01,Xfu,Xdb,Xdd]
 repeat' (with_reducible (first | (refine And.intro ?_ ?_) | intro _))
 all_goals (try simp (disch:=omega) only[w64,wu8,tn0,tn1,tm1,tm2,Yab,Yad,Yai]at*)
 all_goals (try simp (disch:=omega) only[w64,wu8,tn0,tn1,tm1,tm2,Yab,Yad,Yai]at*)
 all_goals (try omega)
 all_goals (try grind[])
def X41.e:GE:=mE X9A func47 [78] [] [] noL (λi x=>X41.F x) λi x h _ hw=>X41.p x h hw
def Xe2(x:List (Int×Int)):Prop:=List.length x<=1048576
def Xc4(x:List (Int×Int)):List (Int×Int):=x
def X8i:Con:=cW X7N [.one] X7N [(false,1)] [(0,78)] (λa=>(Xe2 a)) λa=>(Xc4 a)
def X2j.F(a0:U8q):Prop:=0<=ln a0/\ln a0<=ln a0/\ln a0<=9223372036854775807/\((16:Nat):Int)*ln a0<=140737488355328/\eQ [(0,vL T0q a0),(3,.val false [.own T0q 1000387])]/\cpI ((0:Int),(0:Int)) a0 0 (List.replicate (tN (ln a0)) ((0:Int),(0:Int)))/\∀(y1:Int×U8q),cpI ((0:Int),(0:Int)) a0 y1.1 y1.2->dC (y1.1<ln a0) (iB y1.1 a0 (Xdd ((gA a0 y1.1 (0,0)).1,(gA a0 y1.1 (0,0)).2)/\∀r2,rU r2 (Xdb ((gA a0 y1.1 (0,0)).1,(gA a0 y1.1 (0,0)).2))->iB y1.1 y1.2 (eQ [(0,vL T0q a0),(3,.val false [.own T0q 1000387])]/\cpI ((0:Int),(0:Int)) a0 (wI (y1.1+1)) (List.set y1.2 (tN y1.1) r2.1)/\cpM a0 (wI (y1.1+1)) (List.set y1.2 (tN y1.1) r2.1)<cpM a0 y1.1 y1.2))) (rE y1.2 (Xc4 a0))
def X2j.L(a0:U8q):Nat->Option X0f:=XLK [(58,⟨⟨[0,3],[4],[],[kC 3 0 1000387 78]⟩,Xoh,λst y=>cpI ((0:Int),(0:Int)) a0 y.1 y.2,λst y=>cpM a0 y.1 y.2⟩)]
theorem X2j.p(a0:U8q)(h:(Xe2 a0)):X2j.F a0:=by
 delta X2j.F ln tN wI dC eQ gA iB rE rU vL;have hb:a0.length<=1048576:=by have h1:List.length a0<=1048576:=h;exact h1
 simp only[Bs,B0,B1,Yaa,X01,Xc4];refine⟨by omega,by omega,by omega,by omega,⟨by omega,by omega,by simp⟩,?_⟩;rintro⟨i,out⟩ hI;simp only at hI ⊢;refine⟨λhi=>?_,λhi=>Xn0 hI hi⟩;have hl:=XnG hI;have h3:=hI.2.1;have h2:=hI.1;have hp:Xdd (a0.getD i.toNat ((0:Int),(0:Int))):=by
  have h1:List.length a0<=1048576:=h;have hm:a0.getD i.toNat ((0:Int),(0:Int))∈a0:=X10 (by omega);show Xfu _<=1048576;simp[Xfu]
 rw[w64 (x:=i+1) (by omega) (by omega)];simp only[Xdb,hl];exact⟨h2,hi,hp,h2,hi,Xk5 hI hi,by unfold cpM;omega⟩
def X2j.e:GE:=mE X8i func20 [34] [X41.e] [] (λi x=>X2j.L x) (λi x=>X2j.F x) λi x h _ _=>X2j.p x h
instance dec_Bucket:DecidableEq (Int×Int):=by(iterate 20 (all_goals (first | infer_instance | refine @instDecidableEqProd _ _ ?_ ?_)))
def X92(a b:(Int×Int)):Bool:=decide (a=b)
def X9v:Con:=cQ (.pair T0q T0q) [.agg 2,.agg 2] .bool [(false,1)] (λ_=>True) λa=>(X92 a.1 a.2)
def X3P.F(a0:(Int×Int))(a1:(Int×Int)):Prop:=X00 (a0.1 !=a1.1) (Eq (false,(),()) (X92 a0 a1,(),())) (X00 (a0.2 !=a1.2) (Eq (false,(),()) (X92 a0 a1,(),())) (Eq (true,(),()) (X92 a0 a1,(),())))
theorem X3P.p(a0:(Int×Int))(a1:(Int×Int))(h:True):X3P.F a0 a1:=by
 unfold X3P.F;obtain⟨x1,x2⟩:=a0;obtain⟨y1,y2⟩:=a1;simp only[Bs,B0,B1,Yaa,X01,X92]
 repeat' (first | (refine And.intro ?_ ?_) | intro _)
 all_goals simp_all
def X3P.e:GE:=mE X9v func63 [4] [] [] noL (λi x=>X3P.F x.1 x.2) λi x h _ _=>X3P.p x.1 x.2 h
def X6j(a b:List (Int×Int)):Bool:=decide (a=b)
def X8o:Con:=cQ (.pair X7N X7N) [.one,.one] .bool [(false,1)] (λ_=>True) λa=>(X6j a.1 a.2)
def X2s.F(a0:U8q)(a1:U8q):Prop:=X00 (ln a0 !=ln a1) (rE false (X6j a0 a1)) (eQ [(0,vL T0q a0),(1,vL T0q a1)]/\XiM a0 a1 0/\∀(y1:Int),XiM a0 a1 y1->dC (y1<ln a0) (iB y1 a0 (iB y1 a1 (True/\∀r2,rU r2 (X92 ((gA a0 y1 (0,0)).1,(gA a0 y1 (0,0)).2) ((gA a1 y1 (0,0)).1,(gA a1 y1 (0,0)).2))->X00 (!r2.1) (rE false (X6j a0 a1)) (eQ [(0,vL T0q a0),(1,vL T0q a1)]/\XiM a0 a1 (wI (y1+1))/\Xlp a0 a1 (wI (y1+1))<Xlp a0 a1 y1)))) (rE true (X6j a0 a1)))
def X2s.L(a0:U8q)(a1:U8q):Nat->Option X0f:=XLK [(58,⟨⟨[0,1],[5],[],[]⟩,(.int .i64),λst y=>XiM a0 a1 y,λst y=>Xlp a0 a1 y⟩)]
theorem X2s.p(a0:U8q)(a1:U8q)(h:True)(hw:Wf X8o.A (a0,a1)):X2s.F a0 a1:=by
 delta X2s.F ln wI dC eQ gA iB rE rU vL tN;have hw1:a0.length<=9223372036854775807:=hw.1.1;simp only[Bs,B0,B1,Yaa,X01];refine⟨λh1=>?_,λh1=>?_⟩
 . have:a0≠a1:=λe=>by subst e;simp at h1
   simp[X6j,this]
 have hl:a0.length=a1.length:=by omega
 refine⟨⟨by omega,by omega,hl,by simp⟩,?_⟩;rintro i hI;have h2:=hI.1;have h3:=hI.2.1;refine⟨λhi=>⟨h2,hi,h2,by omega,λhne=>?_,λhe=>?_⟩,λhi=>?_⟩
 . have:a0≠a1:=λe=>by subst e;simp[X92]at hne
   simp[X6j,this]
 . have hg:a0.getD i.toNat ((0:Int),(0:Int))=a1.getD i.toNat ((0:Int),(0:Int)):=by simpa only[X92,Yaj] using he
   rw[w64 (x:=i+1) (by omega) (by omega)];exact⟨XgE hI hi hg,by unfold Xlp;omega⟩
 . have h6:=XiS hI hi;simp[X6j,h6]
def X2s.e:GE:=mE X8o func25 [4] [X3P.e] [] (λi x=>X2s.L x.1 x.2) (λi x=>X2s.F x.1 x.2) λi x h _ hw=>X2s.p x.1 x.2 h hw
def X0C(x:(Int×Int)):Int:=1+1
def X9F(x:(Int×Int))(k:Int):(Int×Int):=(k,(k+1))
def X8s(x:(Int×Int))(k:Int):Bool:=(decide (x.1=k))&&(decide (x.2=(k+1)))
theorem Xo0:∀(x:(Int×Int)) (k:Int),X8s (X9F x k) k=true/\X0C (X9F x k)=X0C x:=λx k=>by
 simp[X8s,X9F,X0C]
theorem X8X:∀x:(Int×Int),0<=X0C x:=λx=>by
 unfold X0C;omega
def X7e(l:List (Int×Int))(k:Int):Prop:=0<=k/\k+cL X0C l<=4611686018427387904
def X8F(l:List (Int×Int))(k:Int):Int×List (Int×Int):=(k+cL X0C l,mL X0C X9F l k)
def X6L:Con:={A:=(.pair X7N (.int .i64)),shA:=[.one,.one],backA:=[(0,78)],B:=X7N,R:=(.int .i64),shR:=[(false,1)],pre:=λ_ a=>(X7e a.1 a.2),f:=some λ_ a=>((X8F a.1 a.2).1,((),(X8F a.1 a.2).2))}
def X1p.F(a0:U8q)(a1:Int):Prop:=eQ [(0,.val false [.own T0q 2])]/\mkI X0C X9F a0 a1 a1 0 a0/\∀(y1:Int×Int×U8q),mkI X0C X9F a0 a1 y1.1 y1.2.1 y1.2.2->dC (y1.2.1<ln y1.2.2) (iB y1.2.1 y1.2.2 (iB y1.2.1 (List.set y1.2.2 (tN y1.2.1) (y1.1,(gA y1.2.2 y1.2.1 (0,0)).2)) (eQ [(0,.val false [.own T0q 2])]/\mkI X0C X9F a0 a1 (wI (wI (y1.1+1)+1)) (wI (y1.2.1+1)) (List.set (List.set y1.2.2 (tN y1.2.1) (y1.1,(gA y1.2.2 y1.2.1 (0,0)).2)) (tN y1.2.1) ((gA (List.set y1.2.2 (tN y1.2.1) (y1.1,(gA y1.2.2 y1.2.1 (0,0)).2)) y1.2.1 (0,0)).1,wI (y1.1+1)))/\mkM a0 a1 (wI (wI (y1.1+1)+1)) (wI (y1.2.1+1)) (List.set (List.set y1.2.2 (tN y1.2.1) (y1.1,(gA y1.2.2 y1.2.1 (0,0)).2)) (tN y1.2.1) ((gA (List.set y1.2.2 (tN y1.2.1) (y1.1,(gA y1.2.2 y1.2.1 (0,0)).2)) y1.2.1 (0,0)).1,wI (y1.1+1)))<mkM a0 a1 y1.1 y1.2.1 y1.2.2))) (Eq (y1.1,(),y1.2.2) ((X8F a0 a1).1,(),(X8F a0 a1).2))
def X1p.L(a0:U8q)(a1:Int):Nat->Option X0f:=XLK [(26,⟨⟨[0],[1,5],[],[kC 0 0 2 78]⟩,(.pair (.int .i64) Xoh),λst y=>mkI X0C X9F a0 a1 y.1 y.2.1 y.2.2,λst y=>mkM a0 a1 y.1 y.2.1 y.2.2⟩)]
theorem X1p.p(a0:U8q)(a1:Int)(h:(X7e a0 a1))(hw:Wf X6L.A (a0,a1)):X1p.F a0 a1:=by
 delta X1p.F ln tN wI dC eQ gA iB;obtain⟨p1,p2⟩:=h;have hw1:a0.length<=9223372036854775807:=hw.1.1;simp only[Bs,B0,B1,Yaa,X01];refine⟨⟨by omega,by omega,by simp[cL],by simp[mL]⟩,?_⟩;rintro⟨k,i,l⟩ hI;simp only at hI ⊢;have hl:=XnD hI;have h2:=hI.1;have h3:=hI.2;refine⟨λhi0=>?_,λhi0=>?_⟩
 . have hi:i<(a0.length:Int):=by omega
   have hi':i.toNat<l.length:=by omega
   have hg:=XsM (d:=((0:Int),(0:Int))) hI hi;have hs:=X5w X0C ((0:Int),(0:Int)) (l:=a0) (i:=i.toNat) (by omega);have hk:=hI.3;have c1:=X4c X8X (a0.take i.toNat);have c2:=X4c X8X (a0.drop (i.toNat+1));have c3:=X8X (a0.getD i.toNat ((0:Int),(0:Int)));have hmod:Int.tmod k 3=k % 3:=YaA (by omega);have hc:X0C (a0.getD i.toNat ((0:Int),(0:Int)))=X0C (a0.getD i.toNat ((0:Int),(0:Int))):=rfl
   conv at hc=>rhs;unfold X0C
   try simp only[hg,X2d hi',YbC,YaX]
   try simp (disch:=first | omega | simp_all) only[X2d,YbC,YaX,hg,w64,pMT]
   repeat' (with_reducible (first | (refine And.intro ?_ ?_) | intro _))
   all_goals (try simp+zetaDelta (disch:=first | omega | simp_all) only[hg,X2d,YbC,YaX,w64,pMT])
   all_goals (first | omega | exact XiF (d:=((0:Int),(0:Int))) hI hi (by simp (disch:=omega) [X9F,hmod,YaA]<;>rfl) (by omega) | (unfold mkM;omega) | skip)
 . obtain⟨e1,e2⟩:=Xo4 hI (by omega);exact⟨e1,e2⟩
def X1p.e:GE:=mE X6L func28 [3] [] [] (λi x=>X1p.L x.1 x.2) (λi x=>X1p.F x.1 x.2) λi x h _ hw=>X1p.p x.1 x.2 h hw
def X8B(l:List (Int×Int))(k:Int):Int:=fHd (cL X0C l) (oL X0C X8s l k) k
def X6K:Con:=cQ (.pair X7N (.int .i64)) [.one,.one] (.int .i64) [(false,1)] (λa=>(X7e a.1 a.2)) λa=>(X8B a.1 a.2)
def X1l.F(a0:U8q)(a1:Int):Prop:=eQ [(0,vL T0q a0)]/\hdI X0C X8s a0 a1 a1 0/\∀(y1:Int×Int),hdI X0C X8s a0 a1 y1.1 y1.2->dC (y1.2<ln a0) (iB y1.2 a0 (X00 ((gA a0 y1.2 (0,0)).1 !=y1.1) (rE (-1) (X8B a0 a1)) (iB y1.2 a0 (X00 ((gA a0 y1.2 (0,0)).2 !=wI (y1.1+1)) (rE (-1) (X8B a0 a1)) (eQ [(0,vL T0q a0)]/\hdI X0C X8s a0 a1 (wI (wI (y1.1+1)+1)) (wI (y1.2+1))/\hdM a0 a1 (wI (wI (y1.1+1)+1)) (wI (y1.2+1))<hdM a0 a1 y1.1 y1.2))))) (rE y1.1 (X8B a0 a1))
def X1l.L(a0:U8q)(a1:Int):Nat->Option X0f:=XLK [(26,⟨⟨[0],[1,5],[],[]⟩,T0q,λst y=>hdI X0C X8s a0 a1 y.1 y.2,λst y=>hdM a0 a1 y.1 y.2⟩)]
theorem X1l.p(a0:U8q)(a1:Int)(h:(X7e a0 a1))(hw:Wf X6K.A (a0,a1)):X1l.F a0 a1:=by
 delta X1l.F ln wI dC eQ gA iB rE vL tN;obtain⟨p1,p2⟩:=h;have hw1:a0.length<=9223372036854775807:=hw.1.1;simp only[Bs,B0,B1,Yaa,X01];refine⟨⟨by omega,by omega,by simp[cL],by simp⟩,?_⟩;rintro⟨k,i⟩ hI;simp only at hI ⊢;have h2:=hI.1;have h3:=hI.2;refine⟨λhi=>?_,λhi=>XmO hI hi⟩
 . have hs:=X5w X0C ((0:Int),(0:Int)) (l:=a0) (i:=i.toNat) (by omega);have hk:=hI.3;have c1:=X4c X8X (a0.take i.toNat);have c2:=X4c X8X (a0.drop (i.toNat+1));have c3:=X8X (a0.getD i.toNat ((0:Int),(0:Int)));have hmod:Int.tmod k 3=k % 3:=YaA (by omega);have no:X8s (a0.getD i.toNat ((0:Int),(0:Int))) k=false->-1=X8B a0 a1:=λho=>XrF ((0:Int),(0:Int)) hI hi ho;have yes:X8s (a0.getD i.toNat ((0:Int),(0:Int))) k=true->hdI X0C X8s a0 a1 (k+X0C (a0.getD i.toNat ((0:Int),(0:Int)))) (i+1):=λho=>Xkm ((0:Int),(0:Int)) hI hi ho rfl;generalize a0.getD i.toNat ((0:Int),(0:Int))=x at*;have hc:X0C x=X0C x:=rfl
   conv at hc=>rhs;unfold X0C
   simp only[X8s]at no yes;simp (disch:=omega) only[w64,pMT]
   repeat' (with_reducible (first | (refine And.intro ?_ ?_) | intro _))
   all_goals (first | omega | (unfold hdM;omega) | skip)
   all_goals (try simp (disch:=first | omega | assumption) only[X5o,X54,w64,YaR]at*)
   all_goals (try simp (disch:=first | omega | assumption) only[X5o,X54,w64,YaR]at*)
   all_goals (first | omega | grind)
def X1l.e:GE:=mE X6K func31 [3] [] [] (λi x=>X1l.L x.1 x.2) (λi x=>X1l.F x.1 x.2) λi x h _ hw=>X1l.p x.1 x.2 h hw
def Xhx(x:(Int×Int)):Nat:=0
def Xfj(x:List (Int×Int))(left:Int):Prop:=WfD X7N x/\0<=left/\left<=1048576
def XbL(x:List (Int×Int))(left:Int):Int:=fSz (List.length x) left
def X9C:Con:=cQ (.pair X7N (.int .i64)) [.one,.one] (.int .i64) [(false,1)] (λa=>(Xfj a.1 a.2)) λa=>(XbL a.1 a.2)
def X3Z.F(a0:U8q)(a1:Int):Prop:=X00 (decide (wI (a1 - ln a0)<(0:Int))) (Eq (-1,(),()) (XbL a0 a1,(),())) (Eq (wI (a1 - ln a0),(),()) (XbL a0 a1,(),()))
theorem X3Z.p(a0:U8q)(a1:Int)(h:(Xfj a0 a1)):X3Z.F a0 a1:=by
 delta X3Z.F ln wI;obtain⟨hwf,p1,p2⟩:=h;have hw1:a0.length<=9223372036854775807:=hwf.1;simp only[Bs,B0,B1,Yaa,X01,XbL];rw[w64 (x:=a1 - (a0.length:Int)) (by omega) (by omega)];exact⟨λh1=>(Xen (by omega)).symm,λh1=>(Xf0 (by omega)).symm⟩
def X3Z.e:GE:=mE X9C func106 [3] [] [] noL (λi x=>X3Z.F x.1 x.2) λi x h _ _=>X3Z.p x.1 x.2 h
def XeH(x:(Int×Int)):Prop:=Xhx x<=1048576
def XeB(x:(Int×Int)):(Int×Int):=x
def Xas:Con:=cQ T0q [.agg 2] T0q [(true,2)] (λa=>(XeH a)) λa=>(XeB a)
def X4G.F(a0:(Int×Int)):Prop:=Eq ((a0.1,a0.2),(),()) (XeB a0,(),())
theorem X4G.p(a0:(Int×Int))(h:(XeH a0))(hw:Wf Xas.A a0):X4G.F a0:=by
 unfold X4G.F;have hp:Xhx a0<=1048576:=h;simp only[Xhx]at hp;simp only[Bs,B0,B1,Yaa,X01,Xhx,XeB,XeH]
 repeat' (with_reducible (first | (refine And.intro ?_ ?_) | intro _))
 all_goals (try simp (disch:=omega) only[w64,wu8,tn0,tn1,tm1,tm2,Yab,Yad,Yai]at*)
 all_goals (try simp (disch:=omega) only[w64,wu8,tn0,tn1,tm1,tm2,Yab,Yad,Yai]at*)
 all_goals (try omega)
 all_goals (try grind[])
def X4G.e:GE:=mE Xas func159 [112] [] [] noL (λi x=>X4G.F x) λi x h _ hw=>X4G.p x h hw
def Xfa(x:List (Int×Int)):Prop:=List.length x<=1048576
def Xds(x:List (Int×Int)):List (Int×Int):=x
def X9q:Con:=cW X7N [.one] X7N [(false,1)] [(0,112)] (λa=>(Xfa a)) λa=>(Xds a)
def X2P.F(a0:U8q):Prop:=0<=ln a0/\ln a0<=ln a0/\ln a0<=9223372036854775807/\((16:Nat):Int)*ln a0<=140737488355328/\eQ [(0,vL T0q a0),(3,.val false [.own T0q 1000387])]/\cpI ((0:Int),(0:Int)) a0 0 (List.replicate (tN (ln a0)) ((0:Int),(0:Int)))/\∀(y1:Int×U8q),cpI ((0:Int),(0:Int)) a0 y1.1 y1.2->dC (y1.1<ln a0) (iB y1.1 a0 (XeH ((gA a0 y1.1 (0,0)).1,(gA a0 y1.1 (0,0)).2)/\∀r2,rU r2 (XeB ((gA a0 y1.1 (0,0)).1,(gA a0 y1.1 (0,0)).2))->iB y1.1 y1.2 (eQ [(0,vL T0q a0),(3,.val false [.own T0q 1000387])]/\cpI ((0:Int),(0:Int)) a0 (wI (y1.1+1)) (List.set y1.2 (tN y1.1) r2.1)/\cpM a0 (wI (y1.1+1)) (List.set y1.2 (tN y1.1) r2.1)<cpM a0 y1.1 y1.2))) (rE y1.2 (Xds a0))
def X2P.L(a0:U8q):Nat->Option X0f:=XLK [(58,⟨⟨[0,3],[4],[],[kC 3 0 1000387 112]⟩,Xoh,λst y=>cpI ((0:Int),(0:Int)) a0 y.1 y.2,λst y=>cpM a0 y.1 y.2⟩)]
theorem X2P.p(a0:U8q)(h:(Xfa a0)):X2P.F a0:=by
 delta X2P.F ln tN wI dC eQ gA iB rE rU vL;have hb:a0.length<=1048576:=by have h1:List.length a0<=1048576:=h;exact h1
 simp only[Bs,B0,B1,Yaa,X01,Xds];refine⟨by omega,by omega,by omega,by omega,⟨by omega,by omega,by simp⟩,?_⟩;rintro⟨i,out⟩ hI;simp only at hI ⊢;refine⟨λhi=>?_,λhi=>Xn0 hI hi⟩;have hl:=XnG hI;have h3:=hI.2.1;have h2:=hI.1;have hp:XeH (a0.getD i.toNat ((0:Int),(0:Int))):=by
  have h1:List.length a0<=1048576:=h;have hm:a0.getD i.toNat ((0:Int),(0:Int))∈a0:=X10 (by omega);show Xhx _<=1048576;simp[Xhx]
 rw[w64 (x:=i+1) (by omega) (by omega)];simp only[XeB,hl];exact⟨h2,hi,hp,h2,hi,Xk5 hI hi,by unfold cpM;omega⟩
def X2P.e:GE:=mE X9q func127 [113] [X4G.e] [] (λi x=>X2P.L x) (λi x=>X2P.F x) λi x h _ _=>X2P.p x h
instance dec_Point:DecidableEq (Int×Int):=by(iterate 20 (all_goals (first | infer_instance | refine @instDecidableEqProd _ _ ?_ ?_)))
def Xb9(a b:(Int×Int)):Bool:=decide (a=b)
def XaP:Con:=cQ (.pair T0q T0q) [.agg 2,.agg 2] .bool [(false,1)] (λ_=>True) λa=>(Xb9 a.1 a.2)
def X4F.F(a0:(Int×Int))(a1:(Int×Int)):Prop:=X00 (a0.1 !=a1.1) (Eq (false,(),()) (Xb9 a0 a1,(),())) (X00 (a0.2 !=a1.2) (Eq (false,(),()) (Xb9 a0 a1,(),())) (Eq (true,(),()) (Xb9 a0 a1,(),())))
theorem X4F.p(a0:(Int×Int))(a1:(Int×Int))(h:True):X4F.F a0 a1:=by
 unfold X4F.F;obtain⟨x1,x2⟩:=a0;obtain⟨y1,y2⟩:=a1;simp only[Bs,B0,B1,Yaa,X01,Xb9]
 repeat' (first | (refine And.intro ?_ ?_) | intro _)
 all_goals simp_all
def X4F.e:GE:=mE XaP func186 [4] [] [] noL (λi x=>X4F.F x.1 x.2) λi x h _ _=>X4F.p x.1 x.2 h
def X7k(a b:List (Int×Int)):Bool:=decide (a=b)
def Xa2:Con:=cQ (.pair X7N X7N) [.one,.one] .bool [(false,1)] (λ_=>True) λa=>(X7k a.1 a.2)
def X2S.F(a0:U8q)(a1:U8q):Prop:=X00 (ln a0 !=ln a1) (rE false (X7k a0 a1)) (eQ [(0,vL T0q a0),(1,vL T0q a1)]/\XiM a0 a1 0/\∀(y1:Int),XiM a0 a1 y1->dC (y1<ln a0) (iB y1 a0 (iB y1 a1 (True/\∀r2,rU r2 (Xb9 ((gA a0 y1 (0,0)).1,(gA a0 y1 (0,0)).2) ((gA a1 y1 (0,0)).1,(gA a1 y1 (0,0)).2))->X00 (!r2.1) (rE false (X7k a0 a1)) (eQ [(0,vL T0q a0),(1,vL T0q a1)]/\XiM a0 a1 (wI (y1+1))/\Xlp a0 a1 (wI (y1+1))<Xlp a0 a1 y1)))) (rE true (X7k a0 a1)))
def X2S.L(a0:U8q)(a1:U8q):Nat->Option X0f:=XLK [(58,⟨⟨[0,1],[5],[],[]⟩,(.int .i64),λst y=>XiM a0 a1 y,λst y=>Xlp a0 a1 y⟩)]
theorem X2S.p(a0:U8q)(a1:U8q)(h:True)(hw:Wf Xa2.A (a0,a1)):X2S.F a0 a1:=by
 delta X2S.F ln wI dC eQ gA iB rE rU vL tN;have hw1:a0.length<=9223372036854775807:=hw.1.1;simp only[Bs,B0,B1,Yaa,X01];refine⟨λh1=>?_,λh1=>?_⟩
 . have:a0≠a1:=λe=>by subst e;simp at h1
   simp[X7k,this]
 have hl:a0.length=a1.length:=by omega
 refine⟨⟨by omega,by omega,hl,by simp⟩,?_⟩;rintro i hI;have h2:=hI.1;have h3:=hI.2.1;refine⟨λhi=>⟨h2,hi,h2,by omega,λhne=>?_,λhe=>?_⟩,λhi=>?_⟩
 . have:a0≠a1:=λe=>by subst e;simp[Xb9]at hne
   simp[X7k,this]
 . have hg:a0.getD i.toNat ((0:Int),(0:Int))=a1.getD i.toNat ((0:Int),(0:Int)):=by simpa only[Xb9,Yaj] using he
   rw[w64 (x:=i+1) (by omega) (by omega)];exact⟨XgE hI hi hg,by unfold Xlp;omega⟩
 . have h6:=XiS hI hi;simp[X7k,h6]
def X2S.e:GE:=mE Xa2 func147 [4] [X4F.e] [] (λi x=>X2S.L x.1 x.2) (λi x=>X2S.F x.1 x.2) λi x h _ hw=>X2S.p x.1 x.2 h hw
def X1C(x:(Int×Int)):Int:=1+1
def XcS(x:(Int×Int))(k:Int):(Int×Int):=(k,(k+1))
def Xbb(x:(Int×Int))(k:Int):Bool:=(decide (x.1=k))&&(decide (x.2=(k+1)))
theorem XpZ:∀(x:(Int×Int)) (k:Int),Xbb (XcS x k) k=true/\X1C (XcS x k)=X1C x:=λx k=>by
 simp[Xbb,XcS,X1C]
theorem X9a:∀x:(Int×Int),0<=X1C x:=λx=>by
 unfold X1C;omega
def X8Q(l:List (Int×Int))(k:Int):Prop:=0<=k/\k+cL X1C l<=4611686018427387904
def Xa9(l:List (Int×Int))(k:Int):Int×List (Int×Int):=(k+cL X1C l,mL X1C XcS l k)
def X7l:Con:={A:=(.pair X7N (.int .i64)),shA:=[.one,.one],backA:=[(0,112)],B:=X7N,R:=(.int .i64),shR:=[(false,1)],pre:=λ_ a=>(X8Q a.1 a.2),f:=some λ_ a=>((Xa9 a.1 a.2).1,((),(Xa9 a.1 a.2).2))}
def X1V.F(a0:U8q)(a1:Int):Prop:=eQ [(0,.val false [.own T0q 2])]/\mkI X1C XcS a0 a1 a1 0 a0/\∀(y1:Int×Int×U8q),mkI X1C XcS a0 a1 y1.1 y1.2.1 y1.2.2->dC (y1.2.1<ln y1.2.2) (iB y1.2.1 y1.2.2 (iB y1.2.1 (List.set y1.2.2 (tN y1.2.1) (y1.1,(gA y1.2.2 y1.2.1 (0,0)).2)) (eQ [(0,.val false [.own T0q 2])]/\mkI X1C XcS a0 a1 (wI (wI (y1.1+1)+1)) (wI (y1.2.1+1)) (List.set (List.set y1.2.2 (tN y1.2.1) (y1.1,(gA y1.2.2 y1.2.1 (0,0)).2)) (tN y1.2.1) ((gA (List.set y1.2.2 (tN y1.2.1) (y1.1,(gA y1.2.2 y1.2.1 (0,0)).2)) y1.2.1 (0,0)).1,wI (y1.1+1)))/\mkM a0 a1 (wI (wI (y1.1+1)+1)) (wI (y1.2.1+1)) (List.set (List.set y1.2.2 (tN y1.2.1) (y1.1,(gA y1.2.2 y1.2.1 (0,0)).2)) (tN y1.2.1) ((gA (List.set y1.2.2 (tN y1.2.1) (y1.1,(gA y1.2.2 y1.2.1 (0,0)).2)) y1.2.1 (0,0)).1,wI (y1.1+1)))<mkM a0 a1 y1.1 y1.2.1 y1.2.2))) (Eq (y1.1,(),y1.2.2) ((Xa9 a0 a1).1,(),(Xa9 a0 a1).2))
def X1V.L(a0:U8q)(a1:Int):Nat->Option X0f:=XLK [(26,⟨⟨[0],[1,5],[],[kC 0 0 2 112]⟩,(.pair (.int .i64) Xoh),λst y=>mkI X1C XcS a0 a1 y.1 y.2.1 y.2.2,λst y=>mkM a0 a1 y.1 y.2.1 y.2.2⟩)]
theorem X1V.p(a0:U8q)(a1:Int)(h:(X8Q a0 a1))(hw:Wf X7l.A (a0,a1)):X1V.F a0 a1:=by
 delta X1V.F ln tN wI dC eQ gA iB;obtain⟨p1,p2⟩:=h;have hw1:a0.length<=9223372036854775807:=hw.1.1;simp only[Bs,B0,B1,Yaa,X01];refine⟨⟨by omega,by omega,by simp[cL],by simp[mL]⟩,?_⟩;rintro⟨k,i,l⟩ hI;simp only at hI ⊢;have hl:=XnD hI;have h2:=hI.1;have h3:=hI.2;refine⟨λhi0=>?_,λhi0=>?_⟩
 . have hi:i<(a0.length:Int):=by omega
   have hi':i.toNat<l.length:=by omega
   have hg:=XsM (d:=((0:Int),(0:Int))) hI hi;have hs:=X5w X1C ((0:Int),(0:Int)) (l:=a0) (i:=i.toNat) (by omega);have hk:=hI.3;have c1:=X4c X9a (a0.take i.toNat);have c2:=X4c X9a (a0.drop (i.toNat+1));have c3:=X9a (a0.getD i.toNat ((0:Int),(0:Int)));have hmod:Int.tmod k 3=k % 3:=YaA (by omega);have hc:X1C (a0.getD i.toNat ((0:Int),(0:Int)))=X1C (a0.getD i.toNat ((0:Int),(0:Int))):=rfl
   conv at hc=>rhs;unfold X1C
   try simp only[hg,X2d hi',YbC,YaX]
   try simp (disch:=first | omega | simp_all) only[X2d,YbC,YaX,hg,w64,pMT]
   repeat' (with_reducible (first | (refine And.intro ?_ ?_) | intro _))
   all_goals (try simp+zetaDelta (disch:=first | omega | simp_all) only[hg,X2d,YbC,YaX,w64,pMT])
   all_goals (first | omega | exact XiF (d:=((0:Int),(0:Int))) hI hi (by simp (disch:=omega) [XcS,hmod,YaA]<;>rfl) (by omega) | (unfold mkM;omega) | skip)
 . obtain⟨e1,e2⟩:=Xo4 hI (by omega);exact⟨e1,e2⟩
def X1V.e:GE:=mE X7l func104 [3] [] [] (λi x=>X1V.L x.1 x.2) (λi x=>X1V.F x.1 x.2) λi x h _ hw=>X1V.p x.1 x.2 h hw
def Xah(l:List (Int×Int))(k:Int):Int:=fHd (cL X1C l) (oL X1C Xbb l k) k
def X7H:Con:=cQ (.pair X7N (.int .i64)) [.one,.one] (.int .i64) [(false,1)] (λa=>(X8Q a.1 a.2)) λa=>(Xah a.1 a.2)
def X1P.F(a0:U8q)(a1:Int):Prop:=eQ [(0,vL T0q a0)]/\hdI X1C Xbb a0 a1 a1 0/\∀(y1:Int×Int),hdI X1C Xbb a0 a1 y1.1 y1.2->dC (y1.2<ln a0) (iB y1.2 a0 (X00 ((gA a0 y1.2 (0,0)).1 !=y1.1) (rE (-1) (Xah a0 a1)) (iB y1.2 a0 (X00 ((gA a0 y1.2 (0,0)).2 !=wI (y1.1+1)) (rE (-1) (Xah a0 a1)) (eQ [(0,vL T0q a0)]/\hdI X1C Xbb a0 a1 (wI (wI (y1.1+1)+1)) (wI (y1.2+1))/\hdM a0 a1 (wI (wI (y1.1+1)+1)) (wI (y1.2+1))<hdM a0 a1 y1.1 y1.2))))) (rE y1.1 (Xah a0 a1))
def X1P.L(a0:U8q)(a1:Int):Nat->Option X0f:=XLK [(26,⟨⟨[0],[1,5],[],[]⟩,T0q,λst y=>hdI X1C Xbb a0 a1 y.1 y.2,λst y=>hdM a0 a1 y.1 y.2⟩)]
theorem X1P.p(a0:U8q)(a1:Int)(h:(X8Q a0 a1))(hw:Wf X7H.A (a0,a1)):X1P.F a0 a1:=by
 delta X1P.F ln wI dC eQ gA iB rE vL tN;obtain⟨p1,p2⟩:=h;have hw1:a0.length<=9223372036854775807:=hw.1.1;simp only[Bs,B0,B1,Yaa,X01];refine⟨⟨by omega,by omega,by simp[cL],by simp⟩,?_⟩;rintro⟨k,i⟩ hI;simp only at hI ⊢;have h2:=hI.1;have h3:=hI.2;refine⟨λhi=>?_,λhi=>XmO hI hi⟩
 . have hs:=X5w X1C ((0:Int),(0:Int)) (l:=a0) (i:=i.toNat) (by omega);have hk:=hI.3;have c1:=X4c X9a (a0.take i.toNat);have c2:=X4c X9a (a0.drop (i.toNat+1));have c3:=X9a (a0.getD i.toNat ((0:Int),(0:Int)));have hmod:Int.tmod k 3=k % 3:=YaA (by omega);have no:Xbb (a0.getD i.toNat ((0:Int),(0:Int))) k=false->-1=Xah a0 a1:=λho=>XrF ((0:Int),(0:Int)) hI hi ho;have yes:Xbb (a0.getD i.toNat ((0:Int),(0:Int))) k=true->hdI X1C Xbb a0 a1 (k+X1C (a0.getD i.toNat ((0:Int),(0:Int)))) (i+1):=λho=>Xkm ((0:Int),(0:Int)) hI hi ho rfl;generalize a0.getD i.toNat ((0:Int),(0:Int))=x at*;have hc:X1C x=X1C x:=rfl
   conv at hc=>rhs;unfold X1C
   simp only[Xbb]at no yes;simp (disch:=omega) only[w64,pMT]
   repeat' (with_reducible (first | (refine And.intro ?_ ?_) | intro _))
   all_goals (first | omega | (unfold hdM;omega) | skip)
   all_goals (try simp (disch:=first | omega | assumption) only[X5o,X54,w64,YaR]at*)
   all_goals (try simp (disch:=first | omega | assumption) only[X5o,X54,w64,YaR]at*)
   all_goals (first | omega | grind)
def X1P.e:GE:=mE X7H func105 [3] [] [] (λi x=>X1P.L x.1 x.2) (λi x=>X1P.F x.1 x.2) λi x h _ hw=>X1P.p x.1 x.2 h hw
def X3d(x:U3q):Nat:=(x.1.length)+(List.length x.2)
def Xh1(x:U3q)(left:Int):Prop:=WfD T5q x/\0<=left/\left<=1048576
def Xao(x:U3q)(left:Int):Int:=fSz (X3d x) left
def X9i:Con:=cQ (.pair T5q (.int .i64)) [.agg 2,.one] (.int .i64) [(false,1)] (λa=>(Xh1 a.1 a.2)) λa=>(Xao a.1 a.2)
def X43.F(a0:U3q)(a1:Int):Prop:=X00 (decide (wI (a1 - ln a0.1)<(0:Int))) (Eq (-1,(),()) (Xao a0 a1,(),())) (Xfj a0.2 (wI (a1 - ln a0.1))/\∀r1,Eq r1 (XbL a0.2 (wI (a1 - ln a0.1)),(),())->X00 (decide (r1.1<(0:Int))) (Eq (-1,(),()) (Xao a0 a1,(),())) (Eq (r1.1,(),()) (Xao a0 a1,(),())))
theorem X43.p(a0:U3q)(a1:Int)(h:(Xh1 a0 a1))(hw:Wf X9i.A (a0,a1)):X43.F a0 a1:=by
 delta X43.F ln wI;obtain⟨hwf,p1,p2⟩:=h;have w0:a0.1.length<=9223372036854775807:=hwf.1;have w1:WfD X7N a0.2:=hwf.2;simp only[Bs,B0,B1,Yaa,X01,X3d,Xao,Xfj,XbL]
 repeat' (with_reducible (first | (refine And.intro ?_ ?_) | intro _))
 all_goals (try simp (disch:=omega) only[w64,wu8,tn0,tn1,tm1,tm2,Yab,Yad,Yai]at*)
 all_goals (try simp (disch:=omega) only[w64,wu8,tn0,tn1,tm1,tm2,Yab,Yad,Yai]at*)
 all_goals (try omega)
 all_goals (try grind[fSz])
def X43.e:GE:=mE X9i func72 [3] [X3Z.e] [] noL (λi x=>X43.F x.1 x.2) λi x h _ hw=>X43.p x.1 x.2 h hw
def Xej(x:List U3q)(left:Int):Prop:=WfD X5C x/\0<=left/\left<=1048576
def X8E(x:List U3q)(left:Int):Int:=fSz (nL X3d x) left
def X87:Con:=cQ (.pair X5C (.int .i64)) [.one,.one] (.int .i64) [(false,1)] (λa=>(Xej a.1 a.2)) λa=>(X8E a.1 a.2)
def X2q.F(a0:(List U3q))(a1:Int):Prop:=dC (wI (a1 - ln a0)<0) (rE (-1) (X8E a0 a1)) (eQ [(0,vL T5q a0)]/\Xrl X3d a0 a1 (wI (a1 - ln a0)) 0/\∀(y1:Int×Int),Xrl X3d a0 a1 y1.1 y1.2->dC (y1.2<ln a0) (iB y1.2 a0 (Xh1 ((gA a0 y1.2 ([],[])).1,(gA a0 y1.2 ([],[])).2) y1.1/\∀r2,rU r2 (Xao ((gA a0 y1.2 ([],[])).1,(gA a0 y1.2 ([],[])).2) y1.1)->dC (r2.1<0) (rE (-1) (X8E a0 a1)) (eQ [(0,vL T5q a0)]/\Xrl X3d a0 a1 r2.1 (wI (y1.2+1))/\Xro a0 a1 r2.1 (wI (y1.2+1))<Xro a0 a1 y1.1 y1.2))) (rE y1.1 (X8E a0 a1)))
def X2q.L(a0:(List U3q))(a1:Int):Nat->Option X0f:=XLK [(122,⟨⟨[0],[1,5],[],[]⟩,T0q,λst y=>Xrl X3d a0 a1 y.1 y.2,λst y=>Xro a0 a1 y.1 y.2⟩)]
theorem X2q.p(a0:(List U3q))(a1:Int)(h:(Xej a0 a1)):X2q.F a0 a1:=by
 delta X2q.F ln wI dC eQ gA iB rE rU vL tN;obtain⟨hwf,p1,p2⟩:=h;have hw1:a0.length<=9223372036854775807:=hwf.1;simp only[Bs,B0,B1,Yaa,X01,X8E];rw[w64 (x:=a1 - (a0.length:Int)) (by omega) (by omega)];refine⟨λh1=>(Xen (by unfold nL;omega)).symm,λh1=>⟨⟨by omega,by omega,by omega,by rw[show Int.toNat 0=0 from rfl,Xj0];omega⟩,?_⟩⟩;rintro⟨left,i⟩ ⟨h2,h3,h4,h5⟩;simp only at h2 h3 h4 h5 ⊢;refine⟨λhi=>?_,λhi=>?_⟩
 . have hm:a0.getD i.toNat (([]:U7q),([]:U8q))∈a0:=X10 (by omega);have s1:=XjI X3d a0 (([]:U7q),([]:U8q)) (i:=i.toNat) (by omega);have s2:=XoB X3d a0 (i.toNat+1);have hwx:WfD T5q (a0.getD i.toNat (([]:U7q),([]:U8q))):=hwf.2 _ hm;rw[w64 (x:=i+1) (by omega) (by omega)];simp only[Xao];by_cases hc:left<(X3d (a0.getD i.toNat (([]:U7q),([]:U8q))):Int)
   . rw[Xen hc];exact⟨h2,hi,⟨hwx,h4,by omega⟩,λh6=>(Xen (by unfold nL;omega)).symm,λh6=>absurd (by decide) h6⟩
   . rw[Xf0 hc];exact⟨h2,hi,⟨hwx,h4,by omega⟩,λh6=>by omega,λh6=>⟨⟨by omega,by omega,by omega,by rw[tn1 h2];omega⟩,by unfold Xro;omega⟩⟩
 . have e:i.toNat=a0.length:=by omega
   rw[e]at h5;rw[Xf0 (by unfold nL;omega)];unfold nL;omega
def X2q.e:GE:=mE X87 func34 [3] [X43.e] [] (λi x=>X2q.L x.1 x.2) (λi x=>X2q.F x.1 x.2) λi x h _ _=>X2q.p x.1 x.2 h
def XdF(x:U3q):Prop:=X3d x<=1048576
def Xdu(x:U3q):U3q:=x
def X9m:Con:=cW T5q [.agg 2] T5q [(true,2)] [(1,112)] (λa=>(XdF a)) λa=>(Xdu a)
def X3V.F(a0:U3q):Prop:=Xfa a0.2/\∀r1,Eq r1 (Xds a0.2,(),())->Eq ((a0.1,r1.1),(),()) (Xdu a0,(),())
theorem X3V.p(a0:U3q)(h:(XdF a0))(hw:Wf X9m.A a0):X3V.F a0:=by
 unfold X3V.F;have hp:X3d a0<=1048576:=h;simp only[X3d]at hp;simp only[Bs,B0,B1,Yaa,X01,X3d,Xdu,XdF,Xfa,Xds]
 repeat' (with_reducible (first | (refine And.intro ?_ ?_) | intro _))
 all_goals (try simp (disch:=omega) only[w64,wu8,tn0,tn1,tm1,tm2,Yab,Yad,Yai]at*)
 all_goals (try simp (disch:=omega) only[w64,wu8,tn0,tn1,tm1,tm2,Yab,Yad,Yai]at*)
 all_goals (try omega)
 all_goals (try grind[])
def X3V.e:GE:=mE X9m func87 [115] [X2P.e] [] noL (λi x=>X3V.F x) λi x h _ hw=>X3V.p x h hw
def XdN(x:List U3q):Prop:=nL X3d x<=1048576
def XbY(x:List U3q):List U3q:=x
def X80:Con:=cW X5C [.one] X5C [(false,1)] [(0,115)] (λa=>(XdN a)) λa=>(XbY a)
def X2k.F(a0:(List U3q)):Prop:=0<=ln a0/\ln a0<=ln a0/\ln a0<=9223372036854775807/\((40:Nat):Int)*ln a0<=140737488355328/\eQ [(0,vL T5q a0),(3,.val false [.own T5q 1000387])]/\cpI (([]:U7q),([]:U8q)) a0 0 (List.replicate (tN (ln a0)) (([]:U7q),([]:U8q)))/\∀(y1:Int×List U3q),cpI (([]:U7q),([]:U8q)) a0 y1.1 y1.2->dC (y1.1<ln a0) (iB y1.1 a0 (XdF ((gA a0 y1.1 ([],[])).1,(gA a0 y1.1 ([],[])).2)/\∀r2,rU r2 (Xdu ((gA a0 y1.1 ([],[])).1,(gA a0 y1.1 ([],[])).2))->iB y1.1 y1.2 (eQ [(0,vL T5q a0),(3,.val false [.own T5q 1000387])]/\cpI (([]:U7q),([]:U8q)) a0 (wI (y1.1+1)) (List.set y1.2 (tN y1.1) r2.1)/\cpM a0 (wI (y1.1+1)) (List.set y1.2 (tN y1.1) r2.1)<cpM a0 y1.1 y1.2))) (rE y1.2 (XbY a0))
def X2k.L(a0:(List U3q)):Nat->Option X0f:=XLK [(58,⟨⟨[0,3],[4],[],[kC 3 0 1000387 115]⟩,(.pair (.int .i64) X5C),λst y=>cpI (([]:U7q),([]:U8q)) a0 y.1 y.2,λst y=>cpM a0 y.1 y.2⟩)]
theorem X2k.p(a0:(List U3q))(h:(XdN a0)):X2k.F a0:=by
 delta X2k.F ln tN wI dC eQ gA iB rE rU vL;have hb:a0.length<=1048576:=by have h1:nL X3d a0<=1048576:=h;unfold nL at h1;omega
 simp only[Bs,B0,B1,Yaa,X01,XbY];refine⟨by omega,by omega,by omega,by omega,⟨by omega,by omega,by simp⟩,?_⟩;rintro⟨i,out⟩ hI;simp only at hI ⊢;refine⟨λhi=>?_,λhi=>Xn0 hI hi⟩;have hl:=XnG hI;have h3:=hI.2.1;have h2:=hI.1;have hp:XdF (a0.getD i.toNat (([]:U7q),([]:U8q))):=by
  have h1:nL X3d a0<=1048576:=h;have hm:a0.getD i.toNat (([]:U7q),([]:U8q))∈a0:=X10 (by omega);show X3d _<=1048576;have:=XvW X3d hm;omega
 rw[w64 (x:=i+1) (by omega) (by omega)];simp only[Xdu,hl];exact⟨h2,hi,hp,h2,hi,Xk5 hI hi,by unfold cpM;omega⟩
def X2k.e:GE:=mE X80 func48 [35] [X3V.e] [] (λi x=>X2k.L x) (λi x=>X2k.F x) λi x h _ _=>X2k.p x h
instance dec_Series:DecidableEq U3q:=by(iterate 20 (all_goals (first | infer_instance | refine @instDecidableEqProd _ _ ?_ ?_)))
def X91(a b:U3q):Bool:=decide (a=b)
def X9h:Con:=cQ (.pair T5q T5q) [.agg 2,.agg 2] .bool [(false,1)] (λ_=>True) λa=>(X91 a.1 a.2)
def X3R.F(a0:U3q)(a1:U3q):Prop:=X00 (!a0.1==a1.1) (Eq (false,(),()) (X91 a0 a1,(),())) (True/\∀r1,Eq r1 (X7k a0.2 a1.2,(),())->X00 (!r1.1) (Eq (false,(),()) (X91 a0 a1,(),())) (Eq (true,(),()) (X91 a0 a1,(),())))
theorem X3R.p(a0:U3q)(a1:U3q)(h:True):X3R.F a0 a1:=by
 unfold X3R.F;obtain⟨x1,x2⟩:=a0;obtain⟨y1,y2⟩:=a1;simp only[Bs,B0,B1,Yaa,X01,X91,X7k]
 repeat' (first | (refine And.intro ?_ ?_) | intro _)
 all_goals simp_all
def X3R.e:GE:=mE X9h func103 [4] [X2S.e] [] noL (λi x=>X3R.F x.1 x.2) λi x h _ _=>X3R.p x.1 x.2 h
def X6f(a b:List U3q):Bool:=decide (a=b)
def X8w:Con:=cQ (.pair X5C X5C) [.one,.one] .bool [(false,1)] (λ_=>True) λa=>(X6f a.1 a.2)
def X2t.F(a0:(List U3q))(a1:(List U3q)):Prop:=X00 (ln a0 !=ln a1) (rE false (X6f a0 a1)) (eQ [(0,vL T5q a0),(1,vL T5q a1)]/\XiM a0 a1 0/\∀(y1:Int),XiM a0 a1 y1->dC (y1<ln a0) (iB y1 a0 (iB y1 a1 (True/\∀r2,rU r2 (X91 ((gA a0 y1 ([],[])).1,(gA a0 y1 ([],[])).2) ((gA a1 y1 ([],[])).1,(gA a1 y1 ([],[])).2))->X00 (!r2.1) (rE false (X6f a0 a1)) (eQ [(0,vL T5q a0),(1,vL T5q a1)]/\XiM a0 a1 (wI (y1+1))/\Xlp a0 a1 (wI (y1+1))<Xlp a0 a1 y1)))) (rE true (X6f a0 a1)))
def X2t.L(a0:(List U3q))(a1:(List U3q)):Nat->Option X0f:=XLK [(58,⟨⟨[0,1],[5],[],[]⟩,(.int .i64),λst y=>XiM a0 a1 y,λst y=>Xlp a0 a1 y⟩)]
theorem X2t.p(a0:(List U3q))(a1:(List U3q))(h:True)(hw:Wf X8w.A (a0,a1)):X2t.F a0 a1:=by
 delta X2t.F ln wI dC eQ gA iB rE rU vL tN;have hw1:a0.length<=9223372036854775807:=hw.1.1;simp only[Bs,B0,B1,Yaa,X01];refine⟨λh1=>?_,λh1=>?_⟩
 . have:a0≠a1:=λe=>by subst e;simp at h1
   simp[X6f,this]
 have hl:a0.length=a1.length:=by omega
 refine⟨⟨by omega,by omega,hl,by simp⟩,?_⟩;rintro i hI;have h2:=hI.1;have h3:=hI.2.1;refine⟨λhi=>⟨h2,hi,h2,by omega,λhne=>?_,λhe=>?_⟩,λhi=>?_⟩
 . have:a0≠a1:=λe=>by subst e;simp[X91]at hne
   simp[X6f,this]
 . have hg:a0.getD i.toNat (([]:U7q),([]:U8q))=a1.getD i.toNat (([]:U7q),([]:U8q)):=by simpa only[X91,Yaj] using he
   rw[w64 (x:=i+1) (by omega) (by omega)];exact⟨XgE hI hi hg,by unfold Xlp;omega⟩
 . have h6:=XiS hI hi;simp[X6f,h6]
def X2t.e:GE:=mE X8w func64 [4] [X3R.e] [] (λi x=>X2t.L x.1 x.2) (λi x=>X2t.F x.1 x.2) λi x h _ hw=>X2t.p x.1 x.2 h hw
def X0w(x:U3q):Int:=1+cL X1C x.2
def X8d(x:U3q)(k:Int):U3q:=((fMT k),(mL X1C XcS x.2 (k+1)))
def X7x(x:U3q)(k:Int):Bool:=(decide (x.1=fMT k))&&(oL X1C Xbb x.2 (k+1))
theorem XmI:∀(x:U3q) (k:Int),X7x (X8d x k) k=true/\X0w (X8d x k)=X0w x:=λx k=>by
 simp[X7x,X8d,X0w,(XiN XpZ _ _).1,(XiN XpZ _ _).2]
theorem X6y:∀x:U3q,0<=X0w x:=λx=>by
 have p0:=λl=>X4c X9a l;have q0:=p0 x.2;unfold X0w;omega
def X77(l:List U3q)(k:Int):Prop:=0<=k/\k+cL X0w l<=4611686018427387904
def X8J(l:List U3q)(k:Int):Int×List U3q:=(k+cL X0w l,mL X0w X8d l k)
def X6I:Con:={A:=(.pair X5C (.int .i64)),shA:=[.one,.one],backA:=[(0,115)],B:=X5C,R:=(.int .i64),shR:=[(false,1)],pre:=λ_ a=>(X77 a.1 a.2),f:=some λ_ a=>((X8J a.1 a.2).1,((),(X8J a.1 a.2).2))}
def X1n.F(a0:(List U3q))(a1:Int):Prop:=eQ [(0,.val false [.own T5q 2])]/\mkI X0w X8d a0 a1 a1 0 a0/\∀(y1:Int×Int×List U3q),mkI X0w X8d a0 a1 y1.1 y1.2.1 y1.2.2->dC (y1.2.1<ln y1.2.2) (pMT y1.1/\∀r2,rU r2 (fMT y1.1)->iB y1.2.1 y1.2.2 (iB y1.2.1 (List.set y1.2.2 (tN y1.2.1) (r2.1,(gA y1.2.2 y1.2.1 ([],[])).2)) (X8Q (gA (List.set y1.2.2 (tN y1.2.1) (r2.1,(gA y1.2.2 y1.2.1 ([],[])).2)) y1.2.1 ([],[])).2 (wI (y1.1+1))/\∀r3,Eq r3 ((Xa9 (gA (List.set y1.2.2 (tN y1.2.1) (r2.1,(gA y1.2.2 y1.2.1 ([],[])).2)) y1.2.1 ([],[])).2 (wI (y1.1+1))).1,(),(Xa9 (gA (List.set y1.2.2 (tN y1.2.1) (r2.1,(gA y1.2.2 y1.2.1 ([],[])).2)) y1.2.1 ([],[])).2 (wI (y1.1+1))).2)->eQ [(0,.val false [.own T5q 2])]/\mkI X0w X8d a0 a1 r3.1 (wI (y1.2.1+1)) (List.set (List.set y1.2.2 (tN y1.2.1) (r2.1,(gA y1.2.2 y1.2.1 ([],[])).2)) (tN y1.2.1) ((gA (List.set y1.2.2 (tN y1.2.1) (r2.1,(gA y1.2.2 y1.2.1 ([],[])).2)) y1.2.1 ([],[])).1,r3.2.2))/\mkM a0 a1 r3.1 (wI (y1.2.1+1)) (List.set (List.set y1.2.2 (tN y1.2.1) (r2.1,(gA y1.2.2 y1.2.1 ([],[])).2)) (tN y1.2.1) ((gA (List.set y1.2.2 (tN y1.2.1) (r2.1,(gA y1.2.2 y1.2.1 ([],[])).2)) y1.2.1 ([],[])).1,r3.2.2))<mkM a0 a1 y1.1 y1.2.1 y1.2.2))) (Eq (y1.1,(),y1.2.2) ((X8J a0 a1).1,(),(X8J a0 a1).2))
def X1n.L(a0:(List U3q))(a1:Int):Nat->Option X0f:=XLK [(26,⟨⟨[0],[1,5],[],[kC 0 0 2 115]⟩,(.pair (.int .i64) (.pair (.int .i64) X5C)),λst y=>mkI X0w X8d a0 a1 y.1 y.2.1 y.2.2,λst y=>mkM a0 a1 y.1 y.2.1 y.2.2⟩)]
theorem X1n.p(a0:(List U3q))(a1:Int)(h:(X77 a0 a1))(hw:Wf X6I.A (a0,a1)):X1n.F a0 a1:=by
 delta X1n.F ln tN wI dC eQ gA iB rU;obtain⟨p1,p2⟩:=h;have hw1:a0.length<=9223372036854775807:=hw.1.1;simp only[Bs,B0,B1,Yaa,X01];refine⟨⟨by omega,by omega,by simp[cL],by simp[mL]⟩,?_⟩;rintro⟨k,i,l⟩ hI;simp only at hI ⊢;have hl:=XnD hI;have h2:=hI.1;have h3:=hI.2;refine⟨λhi0=>?_,λhi0=>?_⟩
 . have hi:i<(a0.length:Int):=by omega
   have hi':i.toNat<l.length:=by omega
   have hg:=XsM (d:=(([]:U7q),([]:U8q))) hI hi;have hs:=X5w X0w (([]:U7q),([]:U8q)) (l:=a0) (i:=i.toNat) (by omega);have hk:=hI.3;have c1:=X4c X6y (a0.take i.toNat);have c2:=X4c X6y (a0.drop (i.toNat+1));have c3:=X6y (a0.getD i.toNat (([]:U7q),([]:U8q)));have q0:=X4c X9a;have r0:=q0 (a0.getD i.toNat (([]:U7q),([]:U8q))).2;have hmod:Int.tmod k 3=k % 3:=YaA (by omega);have hc:X0w (a0.getD i.toNat (([]:U7q),([]:U8q)))=X0w (a0.getD i.toNat (([]:U7q),([]:U8q))):=rfl
   conv at hc=>rhs;unfold X0w
   try simp only[hg,X2d hi',YbC,YaX,Xa9,X8Q]
   try simp (disch:=first | omega | simp_all) only[X2d,YbC,YaX,hg,w64,pMT]
   repeat' (with_reducible (first | (refine And.intro ?_ ?_) | intro _))
   all_goals (try simp+zetaDelta (disch:=first | omega | simp_all) only[hg,X2d,YbC,YaX,w64,pMT])
   all_goals (first | omega | exact XiF (d:=(([]:U7q),([]:U8q))) hI hi (by simp (disch:=omega) [X8d,hmod,YaA]<;>rfl) (by omega) | (unfold mkM;omega) | skip)
 . obtain⟨e1,e2⟩:=Xo4 hI (by omega);exact⟨e1,e2⟩
def X1n.e:GE:=mE X6I func67 [3] [X1e.e,X1V.e] [] (λi x=>X1n.L x.1 x.2) (λi x=>X1n.F x.1 x.2) λi x h _ hw=>X1n.p x.1 x.2 h hw
def X8A(l:List U3q)(k:Int):Int:=fHd (cL X0w l) (oL X0w X7x l k) k
def X6G:Con:=cQ (.pair X5C (.int .i64)) [.one,.one] (.int .i64) [(false,1)] (λa=>(X77 a.1 a.2)) λa=>(X8A a.1 a.2)
def X1k.F(a0:(List U3q))(a1:Int):Prop:=eQ [(0,vL T5q a0)]/\hdI X0w X7x a0 a1 a1 0/\∀(y1:Int×Int),hdI X0w X7x a0 a1 y1.1 y1.2->dC (y1.2<ln a0) (iB y1.2 a0 (pMT y1.1/\∀r2,rU r2 (fMT y1.1)->X00 (!(gA a0 y1.2 ([],[])).1==r2.1) (rE (-1) (X8A a0 a1)) (iB y1.2 a0 (X8Q (gA a0 y1.2 ([],[])).2 (wI (y1.1+1))/\∀r3,rU r3 (Xah (gA a0 y1.2 ([],[])).2 (wI (y1.1+1)))->dC (r3.1<0) (rE (-1) (X8A a0 a1)) (eQ [(0,vL T5q a0)]/\hdI X0w X7x a0 a1 r3.1 (wI (y1.2+1))/\hdM a0 a1 r3.1 (wI (y1.2+1))<hdM a0 a1 y1.1 y1.2))))) (rE y1.1 (X8A a0 a1))
def X1k.L(a0:(List U3q))(a1:Int):Nat->Option X0f:=XLK [(26,⟨⟨[0],[1,5],[],[]⟩,T0q,λst y=>hdI X0w X7x a0 a1 y.1 y.2,λst y=>hdM a0 a1 y.1 y.2⟩)]
theorem X1k.p(a0:(List U3q))(a1:Int)(h:(X77 a0 a1))(hw:Wf X6G.A (a0,a1)):X1k.F a0 a1:=by
 delta X1k.F ln wI dC eQ gA iB rE rU vL tN;obtain⟨p1,p2⟩:=h;have hw1:a0.length<=9223372036854775807:=hw.1.1;simp only[Bs,B0,B1,Yaa,X01];refine⟨⟨by omega,by omega,by simp[cL],by simp⟩,?_⟩;rintro⟨k,i⟩ hI;simp only at hI ⊢;have h2:=hI.1;have h3:=hI.2;refine⟨λhi=>?_,λhi=>XmO hI hi⟩
 . have hs:=X5w X0w (([]:U7q),([]:U8q)) (l:=a0) (i:=i.toNat) (by omega);have hk:=hI.3;have c1:=X4c X6y (a0.take i.toNat);have c2:=X4c X6y (a0.drop (i.toNat+1));have c3:=X6y (a0.getD i.toNat (([]:U7q),([]:U8q)));have q0:=X4c X9a;have r0:=q0 (a0.getD i.toNat (([]:U7q),([]:U8q))).2;have hmod:Int.tmod k 3=k % 3:=YaA (by omega);have no:X7x (a0.getD i.toNat (([]:U7q),([]:U8q))) k=false->-1=X8A a0 a1:=λho=>XrF (([]:U7q),([]:U8q)) hI hi ho;have yes:X7x (a0.getD i.toNat (([]:U7q),([]:U8q))) k=true->hdI X0w X7x a0 a1 (k+X0w (a0.getD i.toNat (([]:U7q),([]:U8q)))) (i+1):=λho=>Xkm (([]:U7q),([]:U8q)) hI hi ho rfl;generalize a0.getD i.toNat (([]:U7q),([]:U8q))=x at*;have hc:X0w x=X0w x:=rfl
   conv at hc=>rhs;unfold X0w
   simp only[X7x]at no yes;simp (disch:=omega) only[w64,pMT,Xah,X8Q]
   repeat' (with_reducible (first | (refine And.intro ?_ ?_) | intro _))
   all_goals (first | omega | (unfold hdM;omega) | skip)
   all_goals (try simp (disch:=first | omega | assumption) only[X5o,X54,w64,YaR]at*)
   all_goals (try simp (disch:=first | omega | assumption) only[X5o,X54,w64,YaR]at*)
   all_goals (first | omega | grind)
def X1k.e:GE:=mE X6G func70 [3] [X1e.e,X1P.e] [] (λi x=>X1k.L x.1 x.2) (λi x=>X1k.F x.1 x.2) λi x h _ hw=>X1k.p x.1 x.2 h hw
def X8n(x:X5Y):Nat:=(nL X3d x.2.1)+(nL (λs=>List.length s) x.2.2)
def Xfw(x:X5Y)(left:Int):Prop:=WfD T9q x/\0<=left/\left<=1048576
def Xap(x:X5Y)(left:Int):Int:=fSz (X8n x) left
def X9b:Con:=cQ (.pair T9q (.int .i64)) [.agg 3,.one] (.int .i64) [(false,1)] (λa=>(Xfw a.1 a.2)) λa=>(Xap a.1 a.2)
def X3Q.F(a0:X5Y)(a1:Int):Prop:=Xej a0.2.1 a1/\∀r1,Eq r1 (X8E a0.2.1 a1,(),())->X00 (decide (r1.1<(0:Int))) (Eq (-1,(),()) (Xap a0 a1,(),())) (Xe0 a0.2.2 r1.1/\∀r2,Eq r2 (X8C a0.2.2 r1.1,(),())->X00 (decide (r2.1<(0:Int))) (Eq (-1,(),()) (Xap a0 a1,(),())) (Eq (r2.1,(),()) (Xap a0 a1,(),())))
theorem X3Q.p(a0:X5Y)(a1:Int)(h:(Xfw a0 a1))(hw:Wf X9b.A (a0,a1)):X3Q.F a0 a1:=by
 unfold X3Q.F;obtain⟨hwf,p1,p2⟩:=h;have w1:WfD X5C a0.2.1:=hwf.2.1;have w2:WfD XfH a0.2.2:=hwf.2.2;simp only[Bs,B0,B1,Yaa,X01,X8n,Xap,Xej,X8E,Xe0,X8C]
 repeat' (with_reducible (first | (refine And.intro ?_ ?_) | intro _))
 all_goals (try simp (disch:=omega) only[w64,wu8,tn0,tn1,tm1,tm2,Yab,Yad,Yai]at*)
 all_goals (try simp (disch:=omega) only[w64,wu8,tn0,tn1,tm1,tm2,Yab,Yad,Yai]at*)
 all_goals (try omega)
 all_goals (try grind[fSz])
def X3Q.e:GE:=mE X9b func15 [3] [X2q.e,X2u.e] [] noL (λi x=>X3Q.F x.1 x.2) λi x h _ hw=>X3Q.p x.1 x.2 h hw
def Xdh(x:X5Y):Prop:=X8n x<=1048576
def XdD(x:X5Y):X5Y:=x
def X9D:Con:=cW T9q [.agg 3] T9q [(true,3)] [(1,115),(2,9)] (λa=>(Xdh a)) λa=>(XdD a)
def X3K.F(a0:X5Y):Prop:=XdN a0.2.1/\∀r1,Eq r1 (XbY a0.2.1,(),())->XdM a0.2.2/\∀r2,Eq r2 (XbR a0.2.2,(),())->Eq ((a0.1,r1.1,r2.1),(),()) (XdD a0,(),())
theorem X3K.p(a0:X5Y)(h:(Xdh a0))(hw:Wf X9D.A a0):X3K.F a0:=by
 unfold X3K.F;have hp:X8n a0<=1048576:=h;simp only[X8n]at hp;simp only[Bs,B0,B1,Yaa,X01,X8n,XdD,Xdh,XdN,XbY,XdM,XbR]
 repeat' (with_reducible (first | (refine And.intro ?_ ?_) | intro _))
 all_goals (try simp (disch:=omega) only[w64,wu8,tn0,tn1,tm1,tm2,Yab,Yad,Yai]at*)
 all_goals (try simp (disch:=omega) only[w64,wu8,tn0,tn1,tm1,tm2,Yab,Yad,Yai]at*)
 all_goals (try omega)
 all_goals (try grind[])
def X3K.e:GE:=mE X9D func21 [37] [X2k.e,X2r.e] [] noL (λi x=>X3K.F x) λi x h _ hw=>X3K.p x h hw
instance dec_Engine:DecidableEq X5Y:=by(iterate 20 (all_goals (first | infer_instance | refine @instDecidableEqProd _ _ ?_ ?_)))
def X94(a b:X5Y):Bool:=decide (a=b)
def X9o:Con:=cQ (.pair T9q T9q) [.agg 3,.agg 3] .bool [(false,1)] (λ_=>True) λa=>(X94 a.1 a.2)
def X42.F(a0:X5Y)(a1:X5Y):Prop:=X00 (a0.1 !=a1.1) (Eq (false,(),()) (X94 a0 a1,(),())) (True/\∀r1,Eq r1 (X6f a0.2.1 a1.2.1,(),())->X00 (!r1.1) (Eq (false,(),()) (X94 a0 a1,(),())) (True/\∀r2,Eq r2 (X66 a0.2.2 a1.2.2,(),())->X00 (!r2.1) (Eq (false,(),()) (X94 a0 a1,(),())) (Eq (true,(),()) (X94 a0 a1,(),()))))
theorem X42.p(a0:X5Y)(a1:X5Y)(h:True):X42.F a0 a1:=by
 unfold X42.F;obtain⟨x1,x2,x3⟩:=a0;obtain⟨y1,y2,y3⟩:=a1;simp only[Bs,B0,B1,Yaa,X01,X94,X6f,X66]
 repeat' (first | (refine And.intro ?_ ?_) | intro _)
 all_goals simp_all
def X42.e:GE:=mE X9o func26 [4] [X2t.e,X2p.e] [] noL (λi x=>X42.F x.1 x.2) λi x h _ _=>X42.p x.1 x.2 h
def X6Y(x:X5Y):Int:=cL X0w x.2.1+cL XdX x.2.2
def Xj7(x:X5Y)(k:Int):((List U3q)×(List U7q)):=(mL X0w X8d x.2.1 k,mL XdX X83 x.2.2 (k+cL X0w x.2.1))
def XjR(x:X5Y)(k:Int):Bool:=oL X0w X7x x.2.1 k&&oL XdX X7C x.2.2 (k+cL X0w x.2.1)
def X8T(x:X5Y)(k:Int):Prop:=0<=k/\k+X6Y x<=4611686018427387904
def X8P(x:X5Y)(k:Int):Int×((List U3q)×(List U7q)):=(k+X6Y x,Xj7 x k)
def X7F:Con:={A:=(.pair T9q (.int .i64)),shA:=[.agg 3,.one],backA:=[(1,115),(2,9)],B:=(.pair X5C XfH),R:=(.int .i64),shR:=[(false,1)],pre:=λ_ a=>(X8T a.1 a.2),f:=some λ_ a=>((X8P a.1 a.2).1,((),(X8P a.1 a.2).2))}
def X2E.F(a0:X5Y)(a1:Int):Prop:=X77 a0.2.1 a1/\∀r1,Eq r1 ((X8J a0.2.1 a1).1,(),(X8J a0.2.1 a1).2)->X6Z a0.2.2 r1.1/\∀r2,Eq r2 ((X8H a0.2.2 r1.1).1,(),(X8H a0.2.2 r1.1).2)->Eq (r2.1,(),r1.2.2,r2.2.2) ((X8P a0 a1).1,(),(X8P a0 a1).2)
theorem X2E.p(a0:X5Y)(a1:Int)(h:(X8T a0 a1)):X2E.F a0 a1:=by
 unfold X2E.F;obtain⟨p1,p2⟩:=h;simp only[X6Y]at p2;have p3:=X4c X6y a0.2.1;have p4:=X4c X6A a0.2.2;simp only[Bs,B0,B1,Yaa,X01,X8J,X77,X8H,X6Z,X6Y,Xj7,X8P]
 repeat' (with_reducible (first | (refine And.intro ?_ ?_) | intro _))
 all_goals (try simp only[<-Int.add_assoc])
 all_goals (first | omega | rfl | (refine Prod.ext ?_ rfl;simp only;omega) | skip)
def X2E.e:GE:=mE X7F func29 [3] [X1n.e,X1o.e] [] noL (λi x=>X2E.F x.1 x.2) λi x h _ _=>X2E.p x.1 x.2 h
def Xan(x:X5Y)(k:Int):Int:=fHd (X6Y x) (XjR x k) k
def X7K:Con:=cQ (.pair T9q (.int .i64)) [.agg 3,.one] (.int .i64) [(false,1)] (λa=>(X8T a.1 a.2)) λa=>(Xan a.1 a.2)
def X2C.F(a0:X5Y)(a1:Int):Prop:=X77 a0.2.1 a1/\∀r1,Eq r1 (X8A a0.2.1 a1,(),())->X00 (decide (r1.1<(0:Int))) (Eq (-1,(),()) (Xan a0 a1,(),())) (X6Z a0.2.2 r1.1/\∀r2,Eq r2 (Xab a0.2.2 r1.1,(),())->X00 (decide (r2.1<(0:Int))) (Eq (-1,(),()) (Xan a0 a1,(),())) (Eq (r2.1,(),()) (Xan a0 a1,(),())))
theorem X2C.p(a0:X5Y)(a1:Int)(h:(X8T a0 a1))(hw:Wf X7K.A (a0,a1)):X2C.F a0 a1:=by
 unfold X2C.F;obtain⟨p1,p2⟩:=h;simp only[X6Y]at p2;have p3:=X4c X6y a0.2.1;have p4:=X4c X6A a0.2.2;simp only[Bs,B0,B1,Yaa,X01,Xan,X77,X8A,X6Z,Xab,X6Y,XjR]
 repeat' (with_reducible (first | (refine And.intro ?_ ?_) | intro _))
 all_goals (try simp (disch:=first | omega | assumption) only[X5o,X54,YaR]at*)
 all_goals (try simp (disch:=first | omega | assumption) only[X5o,X54,YaR]at*)
 all_goals (try simp (disch:=first | omega | assumption) only[X5o,X54,YaR]at*)
 all_goals (try simp (disch:=first | omega | assumption) only[X5o,X54,YaR]at*)
 all_goals (try simp (disch:=first | omega | assumption) only[X5o,X54,YaR]at*)
 all_goals (try simp (disch:=first | omega | assumption) only[X5o,X54,YaR]at*)
 all_goals (first | omega | (unfold fHd;grind) | skip)
def X2C.e:GE:=mE X7K func32 [3] [X1k.e,X1j.e] [] noL (λi x=>X2C.F x.1 x.2) λi x h _ hw=>X2C.p x.1 x.2 h hw
def XdZ(x:XkG):Nat:=(x.2.2.2.length)
def Xfp(x:XkG)(left:Int):Prop:=WfD Xiy x/\0<=left/\left<=1048576
def XbP(x:XkG)(left:Int):Int:=fSz (XdZ x) left
def X9j:Con:=cQ (.pair Xiy (.int .i64)) [.agg 4,.one] (.int .i64) [(false,1)] (λa=>(Xfp a.1 a.2)) λa=>(XbP a.1 a.2)
def X46.F(a0:XkG)(a1:Int):Prop:=X00 (decide (wI (a1 - ln a0.2.2.2)<(0:Int))) (Eq (-1,(),()) (XbP a0 a1,(),())) (Eq (wI (a1 - ln a0.2.2.2),(),()) (XbP a0 a1,(),()))
theorem X46.p(a0:XkG)(a1:Int)(h:(Xfp a0 a1))(hw:Wf X9j.A (a0,a1)):X46.F a0 a1:=by
 delta X46.F ln wI;obtain⟨hwf,p1,p2⟩:=h;have w3:a0.2.2.2.length<=9223372036854775807:=hwf.2.2.2;simp only[Bs,B0,B1,Yaa,X01,XdZ,XbP]
 repeat' (with_reducible (first | (refine And.intro ?_ ?_) | intro _))
 all_goals (try simp (disch:=omega) only[w64,wu8,tn0,tn1,tm1,tm2,Yab,Yad,Yai]at*)
 all_goals (try simp (disch:=omega) only[w64,wu8,tn0,tn1,tm1,tm2,Yab,Yad,Yai]at*)
 all_goals (try omega)
 all_goals (try grind[fSz])
def X46.e:GE:=mE X9j func73 [3] [] [] noL (λi x=>X46.F x.1 x.2) λi x h _ hw=>X46.p x.1 x.2 h hw
def Xdx(x:XkG):Prop:=XdZ x<=1048576
def Xdn(x:XkG):XkG:=x
def X9z:Con:=cQ Xiy [.agg 4] Xiy [(true,4)] (λa=>(Xdx a)) λa=>(Xdn a)
def X3H.F(a0:XkG):Prop:=Eq ((a0.1,a0.2.1,a0.2.2.1,a0.2.2.2),(),()) (Xdn a0,(),())
theorem X3H.p(a0:XkG)(h:(Xdx a0))(hw:Wf X9z.A a0):X3H.F a0:=by
 unfold X3H.F;have hp:XdZ a0<=1048576:=h;simp only[XdZ]at hp;simp only[Bs,B0,B1,Yaa,X01,XdZ,Xdn,Xdx]
 repeat' (with_reducible (first | (refine And.intro ?_ ?_) | intro _))
 all_goals (try simp (disch:=omega) only[w64,wu8,tn0,tn1,tm1,tm2,Yab,Yad,Yai]at*)
 all_goals (try simp (disch:=omega) only[w64,wu8,tn0,tn1,tm1,tm2,Yab,Yad,Yai]at*)
 all_goals (try omega)
 all_goals (try grind[])
def X3H.e:GE:=mE X9z func88 [42] [] [] noL (λi x=>X3H.F x) λi x h _ hw=>X3H.p x h hw
instance dec_Answer:DecidableEq XkG:=by(iterate 20 (all_goals (first | infer_instance | refine @instDecidableEqProd _ _ ?_ ?_)))
def X4T(a b:XkG):Bool:=decide (a=b)
def X9y:Con:=cQ (.pair Xiy Xiy) [.agg 4,.agg 4] .bool [(false,1)] (λ_=>True) λa=>(X4T a.1 a.2)
def X3f.F(a0:XkG)(a1:XkG):Prop:=X00 (a0.1 !=a1.1) (Eq (false,(),()) (X4T a0 a1,(),())) (X00 (a0.2.1 !=a1.2.1) (Eq (false,(),()) (X4T a0 a1,(),())) (X00 (a0.2.2.1 !=a1.2.2.1) (Eq (false,(),()) (X4T a0 a1,(),())) (X00 (!a0.2.2.2==a1.2.2.2) (Eq (false,(),()) (X4T a0 a1,(),())) (Eq (true,(),()) (X4T a0 a1,(),())))))
theorem X3f.p(a0:XkG)(a1:XkG)(h:True):X3f.F a0 a1:=by
 unfold X3f.F;obtain⟨x1,x2,x3,x4⟩:=a0;obtain⟨y1,y2,y3,y4⟩:=a1;simp only[Bs,B0,B1,Yaa,X01,X4T]
 repeat' (first | (refine And.intro ?_ ?_) | intro _)
 all_goals simp_all
def X3f.e:GE:=mE X9y func11 [4] [] [] noL (λi x=>X3f.F x.1 x.2) λi x h _ _=>X3f.p x.1 x.2 h
def X33(x:U6q):Nat:=(XdZ x.2.2)
def Xg1(x:U6q)(left:Int):Prop:=WfD T1q x/\0<=left/\left<=1048576
def Xal(x:U6q)(left:Int):Int:=fSz (X33 x) left
def X8f:Con:=cQ (.pair T1q (.int .i64)) [.agg 6,.one] (.int .i64) [(false,1)] (λa=>(Xg1 a.1 a.2)) λa=>(Xal a.1 a.2)
def X31.F(a0:U6q)(a1:Int):Prop:=Xfp (a0.2.2.1,a0.2.2.2.1,a0.2.2.2.2.1,a0.2.2.2.2.2) a1/\∀r1,Eq r1 (XbP (a0.2.2.1,a0.2.2.2.1,a0.2.2.2.2.1,a0.2.2.2.2.2) a1,(),())->X00 (decide (r1.1<(0:Int))) (Eq (-1,(),()) (Xal a0 a1,(),())) (Eq (r1.1,(),()) (Xal a0 a1,(),()))
theorem X31.p(a0:U6q)(a1:Int)(h:(Xg1 a0 a1))(hw:Wf X8f.A (a0,a1)):X31.F a0 a1:=by
 unfold X31.F;obtain⟨hwf,p1,p2⟩:=h;have w2:WfD Xiy a0.2.2:=hwf.2.2;simp only[Bs,B0,B1,Yaa,X01,X33,Xal,Xfp,XbP]
 repeat' (with_reducible (first | (refine And.intro ?_ ?_) | intro _))
 all_goals (try simp (disch:=omega) only[w64,wu8,tn0,tn1,tm1,tm2,Yab,Yad,Yai]at*)
 all_goals (try simp (disch:=omega) only[w64,wu8,tn0,tn1,tm1,tm2,Yab,Yad,Yai]at*)
 all_goals (try omega)
 all_goals (try grind[fSz])
def X31.e:GE:=mE X8f func36 [3] [X46.e] [] noL (λi x=>X31.F x.1 x.2) λi x h _ hw=>X31.p x.1 x.2 h hw
def Xcw(x:List U6q)(left:Int):Prop:=WfD (.list T1q) x/\0<=left/\left<=1048576
def X79(x:List U6q)(left:Int):Int:=fSz (nL X33 x) left
def X7r:Con:=cQ (.pair (.list T1q) (.int .i64)) [.one,.one] (.int .i64) [(false,1)] (λa=>(Xcw a.1 a.2)) λa=>(X79 a.1 a.2)
def X1Y.F(a0:(List U6q))(a1:Int):Prop:=dC (wI (a1 - ln a0)<0) (rE (-1) (X79 a0 a1)) (eQ [(0,vL T1q a0)]/\Xrl X33 a0 a1 (wI (a1 - ln a0)) 0/\∀(y1:Int×Int),Xrl X33 a0 a1 y1.1 y1.2->dC (y1.2<ln a0) (iB y1.2 a0 (Xg1 ((gA a0 y1.2 (0,0,0,0,0,[])).1,(gA a0 y1.2 (0,0,0,0,0,[])).2.1,(gA a0 y1.2 (0,0,0,0,0,[])).2.2.1,(gA a0 y1.2 (0,0,0,0,0,[])).2.2.2.1,(gA a0 y1.2 (0,0,0,0,0,[])).2.2.2.2.1,(gA a0 y1.2 (0,0,0,0,0,[])).2.2.2.2.2) y1.1/\∀r2,rU r2 (Xal ((gA a0 y1.2 (0,0,0,0,0,[])).1,(gA a0 y1.2 (0,0,0,0,0,[])).2.1,(gA a0 y1.2 (0,0,0,0,0,[])).2.2.1,(gA a0 y1.2 (0,0,0,0,0,[])).2.2.2.1,(gA a0 y1.2 (0,0,0,0,0,[])).2.2.2.2.1,(gA a0 y1.2 (0,0,0,0,0,[])).2.2.2.2.2) y1.1)->dC (r2.1<0) (rE (-1) (X79 a0 a1)) (eQ [(0,vL T1q a0)]/\Xrl X33 a0 a1 r2.1 (wI (y1.2+1))/\Xro a0 a1 r2.1 (wI (y1.2+1))<Xro a0 a1 y1.1 y1.2))) (rE y1.1 (X79 a0 a1)))
def X1Y.L(a0:(List U6q))(a1:Int):Nat->Option X0f:=XLK [(122,⟨⟨[0],[1,5],[],[]⟩,T0q,λst y=>Xrl X33 a0 a1 y.1 y.2,λst y=>Xro a0 a1 y.1 y.2⟩)]
theorem X1Y.p(a0:(List U6q))(a1:Int)(h:(Xcw a0 a1)):X1Y.F a0 a1:=by
 delta X1Y.F ln wI dC eQ gA iB rE rU vL tN;obtain⟨hwf,p1,p2⟩:=h;have hw1:a0.length<=9223372036854775807:=hwf.1;simp only[Bs,B0,B1,Yaa,X01,X79];rw[w64 (x:=a1 - (a0.length:Int)) (by omega) (by omega)];refine⟨λh1=>(Xen (by unfold nL;omega)).symm,λh1=>⟨⟨by omega,by omega,by omega,by rw[show Int.toNat 0=0 from rfl,Xj0];omega⟩,?_⟩⟩;rintro⟨left,i⟩ ⟨h2,h3,h4,h5⟩;simp only at h2 h3 h4 h5 ⊢;refine⟨λhi=>?_,λhi=>?_⟩
 . have hm:a0.getD i.toNat ((0:Int),((0:Int),((0:Int),((0:Int),((0:Int),([]:U7q))))))∈a0:=X10 (by omega);have s1:=XjI X33 a0 ((0:Int),((0:Int),((0:Int),((0:Int),((0:Int),([]:U7q)))))) (i:=i.toNat) (by omega);have s2:=XoB X33 a0 (i.toNat+1);have hwx:WfD T1q (a0.getD i.toNat ((0:Int),((0:Int),((0:Int),((0:Int),((0:Int),([]:U7q))))))):=hwf.2 _ hm;rw[w64 (x:=i+1) (by omega) (by omega)];simp only[Xal];by_cases hc:left<(X33 (a0.getD i.toNat ((0:Int),((0:Int),((0:Int),((0:Int),((0:Int),([]:U7q))))))):Int)
   . rw[Xen hc];exact⟨h2,hi,⟨hwx,h4,by omega⟩,λh6=>(Xen (by unfold nL;omega)).symm,λh6=>absurd (by decide) h6⟩
   . rw[Xf0 hc];exact⟨h2,hi,⟨hwx,h4,by omega⟩,λh6=>by omega,λh6=>⟨⟨by omega,by omega,by omega,by rw[tn1 h2];omega⟩,by unfold Xro;omega⟩⟩
 . have e:i.toNat=a0.length:=by omega
   rw[e]at h5;rw[Xf0 (by unfold nL;omega)];unfold nL;omega
def X1Y.e:GE:=mE X7r func16 [3] [X31.e] [] (λi x=>X1Y.L x.1 x.2) (λi x=>X1Y.F x.1 x.2) λi x h _ _=>X1Y.p x.1 x.2 h
def Xc2(x:U6q):Prop:=X33 x<=1048576
def Xc5(x:U6q):U6q:=x
def X7W:Con:=cQ T1q [.agg 6] T1q [(true,6)] (λa=>(Xc2 a)) λa=>(Xc5 a)
def X36.F(a0:U6q):Prop:=Xdx (a0.2.2.1,a0.2.2.2.1,a0.2.2.2.2.1,a0.2.2.2.2.2)/\∀r1,Eq r1 (Xdn (a0.2.2.1,a0.2.2.2.1,a0.2.2.2.2.1,a0.2.2.2.2.2),(),())->Eq ((a0.1,a0.2.1,r1.1.1,r1.1.2.1,r1.1.2.2.1,r1.1.2.2.2),(),()) (Xc5 a0,(),())
theorem X36.p(a0:U6q)(h:(Xc2 a0))(hw:Wf X7W.A a0):X36.F a0:=by
 unfold X36.F;have hp:X33 a0<=1048576:=h;simp only[X33]at hp;simp only[Bs,B0,B1,Yaa,X01,X33,Xc5,Xc2,Xdx,Xdn]
 repeat' (with_reducible (first | (refine And.intro ?_ ?_) | intro _))
 all_goals (try simp (disch:=omega) only[w64,wu8,tn0,tn1,tm1,tm2,Yab,Yad,Yai]at*)
 all_goals (try simp (disch:=omega) only[w64,wu8,tn0,tn1,tm1,tm2,Yab,Yad,Yai]at*)
 all_goals (try omega)
 all_goals (try grind[])
def X36.e:GE:=mE X7W func50 [73] [X3H.e] [] noL (λi x=>X36.F x) λi x h _ hw=>X36.p x h hw
def XcM(x:List U6q):Prop:=nL X33 x<=1048576
def Xb8(x:List U6q):List U6q:=x
def X7s:Con:=cW (.list T1q) [.one] (.list T1q) [(false,1)] [(0,73)] (λa=>(XcM a)) λa=>(Xb8 a)
def X1U.F(a0:(List U6q)):Prop:=0<=ln a0/\ln a0<=ln a0/\ln a0<=9223372036854775807/\((56:Nat):Int)*ln a0<=140737488355328/\eQ [(0,vL T1q a0),(3,.val false [.own T1q 1000387])]/\cpI ((0:Int),(0:Int),(0:Int),(0:Int),(0:Int),([]:U7q)) a0 0 (List.replicate (tN (ln a0)) ((0:Int),(0:Int),(0:Int),(0:Int),(0:Int),([]:U7q)))/\∀(y1:Int×List U6q),cpI ((0:Int),(0:Int),(0:Int),(0:Int),(0:Int),([]:U7q)) a0 y1.1 y1.2->dC (y1.1<ln a0) (iB y1.1 a0 (Xc2 ((gA a0 y1.1 (0,0,0,0,0,[])).1,(gA a0 y1.1 (0,0,0,0,0,[])).2.1,(gA a0 y1.1 (0,0,0,0,0,[])).2.2.1,(gA a0 y1.1 (0,0,0,0,0,[])).2.2.2.1,(gA a0 y1.1 (0,0,0,0,0,[])).2.2.2.2.1,(gA a0 y1.1 (0,0,0,0,0,[])).2.2.2.2.2)/\∀r2,rU r2 (Xc5 ((gA a0 y1.1 (0,0,0,0,0,[])).1,(gA a0 y1.1 (0,0,0,0,0,[])).2.1,(gA a0 y1.1 (0,0,0,0,0,[])).2.2.1,(gA a0 y1.1 (0,0,0,0,0,[])).2.2.2.1,(gA a0 y1.1 (0,0,0,0,0,[])).2.2.2.2.1,(gA a0 y1.1 (0,0,0,0,0,[])).2.2.2.2.2))->iB y1.1 y1.2 (eQ [(0,vL T1q a0),(3,.val false [.own T1q 1000387])]/\cpI ((0:Int),(0:Int),(0:Int),(0:Int),(0:Int),([]:U7q)) a0 (wI (y1.1+1)) (List.set y1.2 (tN y1.1) r2.1)/\cpM a0 (wI (y1.1+1)) (List.set y1.2 (tN y1.1) r2.1)<cpM a0 y1.1 y1.2))) (rE y1.2 (Xb8 a0))
def X1U.L(a0:(List U6q)):Nat->Option X0f:=XLK [(58,⟨⟨[0,3],[4],[],[kC 3 0 1000387 73]⟩,(.pair (.int .i64) (.list T1q)),λst y=>cpI ((0:Int),((0:Int),((0:Int),((0:Int),((0:Int),([]:U7q)))))) a0 y.1 y.2,λst y=>cpM a0 y.1 y.2⟩)]
theorem X1U.p(a0:(List U6q))(h:(XcM a0)):X1U.F a0:=by
 delta X1U.F ln tN wI dC eQ gA iB rE rU vL;have hb:a0.length<=1048576:=by have h1:nL X33 a0<=1048576:=h;unfold nL at h1;omega
 simp only[Bs,B0,B1,Yaa,X01,Xb8];refine⟨by omega,by omega,by omega,by omega,⟨by omega,by omega,by simp⟩,?_⟩;rintro⟨i,out⟩ hI;simp only at hI ⊢;refine⟨λhi=>?_,λhi=>Xn0 hI hi⟩;have hl:=XnG hI;have h3:=hI.2.1;have h2:=hI.1;have hp:Xc2 (a0.getD i.toNat ((0:Int),((0:Int),((0:Int),((0:Int),((0:Int),([]:U7q))))))):=by
  have h1:nL X33 a0<=1048576:=h;have hm:a0.getD i.toNat ((0:Int),((0:Int),((0:Int),((0:Int),((0:Int),([]:U7q))))))∈a0:=X10 (by omega);show X33 _<=1048576;have:=XvW X33 hm;omega
 rw[w64 (x:=i+1) (by omega) (by omega)];simp only[Xc5,hl];exact⟨h2,hi,hp,h2,hi,Xk5 hI hi,by unfold cpM;omega⟩
def X1U.e:GE:=mE X7s func22 [38] [X36.e] [] (λi x=>X1U.L x) (λi x=>X1U.F x) λi x h _ _=>X1U.p x h
instance dec_Session:DecidableEq U6q:=by(iterate 20 (all_goals (first | infer_instance | refine @instDecidableEqProd _ _ ?_ ?_)))
def X6h(a b:U6q):Bool:=decide (a=b)
def X8g:Con:=cQ (.pair T1q T1q) [.agg 6,.agg 6] .bool [(false,1)] (λ_=>True) λa=>(X6h a.1 a.2)
def X32.F(a0:U6q)(a1:U6q):Prop:=X00 (a0.1 !=a1.1) (Eq (false,(),()) (X6h a0 a1,(),())) (X00 (a0.2.1 !=a1.2.1) (Eq (false,(),()) (X6h a0 a1,(),())) (True/\∀r1,Eq r1 (X4T (a0.2.2.1,a0.2.2.2.1,a0.2.2.2.2.1,a0.2.2.2.2.2) (a1.2.2.1,a1.2.2.2.1,a1.2.2.2.2.1,a1.2.2.2.2.2),(),())->X00 (!r1.1) (Eq (false,(),()) (X6h a0 a1,(),())) (Eq (true,(),()) (X6h a0 a1,(),()))))
theorem X32.p(a0:U6q)(a1:U6q)(h:True):X32.F a0 a1:=by
 unfold X32.F;obtain⟨x1,x2,⟨x3,x4,x5,x6⟩⟩:=a0;obtain⟨y1,y2,⟨y3,y4,y5,y6⟩⟩:=a1;simp only[Bs,B0,B1,Yaa,X01,X6h,X4T]
 repeat' (first | (refine And.intro ?_ ?_) | intro _)
 all_goals simp_all
def X32.e:GE:=mE X8g func66 [4] [X3f.e] [] noL (λi x=>X32.F x.1 x.2) λi x h _ _=>X32.p x.1 x.2 h
def X5x(a b:List U6q):Bool:=decide (a=b)
def X7G:Con:=cQ (.pair (.list T1q) (.list T1q)) [.one,.one] .bool [(false,1)] (λ_=>True) λa=>(X5x a.1 a.2)
def X1R.F(a0:(List U6q))(a1:(List U6q)):Prop:=X00 (ln a0 !=ln a1) (rE false (X5x a0 a1)) (eQ [(0,vL T1q a0),(1,vL T1q a1)]/\XiM a0 a1 0/\∀(y1:Int),XiM a0 a1 y1->dC (y1<ln a0) (iB y1 a0 (iB y1 a1 (True/\∀r2,rU r2 (X6h ((gA a0 y1 (0,0,0,0,0,[])).1,(gA a0 y1 (0,0,0,0,0,[])).2.1,(gA a0 y1 (0,0,0,0,0,[])).2.2.1,(gA a0 y1 (0,0,0,0,0,[])).2.2.2.1,(gA a0 y1 (0,0,0,0,0,[])).2.2.2.2.1,(gA a0 y1 (0,0,0,0,0,[])).2.2.2.2.2) ((gA a1 y1 (0,0,0,0,0,[])).1,(gA a1 y1 (0,0,0,0,0,[])).2.1,(gA a1 y1 (0,0,0,0,0,[])).2.2.1,(gA a1 y1 (0,0,0,0,0,[])).2.2.2.1,(gA a1 y1 (0,0,0,0,0,[])).2.2.2.2.1,(gA a1 y1 (0,0,0,0,0,[])).2.2.2.2.2))->X00 (!r2.1) (rE false (X5x a0 a1)) (eQ [(0,vL T1q a0),(1,vL T1q a1)]/\XiM a0 a1 (wI (y1+1))/\Xlp a0 a1 (wI (y1+1))<Xlp a0 a1 y1)))) (rE true (X5x a0 a1)))
def X1R.L(a0:(List U6q))(a1:(List U6q)):Nat->Option X0f:=XLK [(58,⟨⟨[0,1],[5],[],[]⟩,(.int .i64),λst y=>XiM a0 a1 y,λst y=>Xlp a0 a1 y⟩)]
theorem X1R.p(a0:(List U6q))(a1:(List U6q))(h:True)(hw:Wf X7G.A (a0,a1)):X1R.F a0 a1:=by
 delta X1R.F ln wI dC eQ gA iB rE rU vL tN;have hw1:a0.length<=9223372036854775807:=hw.1.1;simp only[Bs,B0,B1,Yaa,X01];refine⟨λh1=>?_,λh1=>?_⟩
 . have:a0≠a1:=λe=>by subst e;simp at h1
   simp[X5x,this]
 have hl:a0.length=a1.length:=by omega
 refine⟨⟨by omega,by omega,hl,by simp⟩,?_⟩;rintro i hI;have h2:=hI.1;have h3:=hI.2.1;refine⟨λhi=>⟨h2,hi,h2,by omega,λhne=>?_,λhe=>?_⟩,λhi=>?_⟩
 . have:a0≠a1:=λe=>by subst e;simp[X6h]at hne
   simp[X5x,this]
 . have hg:a0.getD i.toNat ((0:Int),((0:Int),((0:Int),((0:Int),((0:Int),([]:U7q))))))=a1.getD i.toNat ((0:Int),((0:Int),((0:Int),((0:Int),((0:Int),([]:U7q)))))):=by simpa only[X6h,Yaj] using he
   rw[w64 (x:=i+1) (by omega) (by omega)];exact⟨XgE hI hi hg,by unfold Xlp;omega⟩
 . have h6:=XiS hI hi;simp[X5x,h6]
def X1R.e:GE:=mE X7G func27 [4] [X32.e] [] (λi x=>X1R.L x.1 x.2) (λi x=>X1R.F x.1 x.2) λi x h _ hw=>X1R.p x.1 x.2 h hw
def X0G(x:U6q):Int:=1+1+1+1+1+1
def X70(x:U6q)(k:Int):U6q:=(k,(k+1),(((k+1)+1),(((k+1)+1)+1),((((k+1)+1)+1)+1),(fMT (((((k+1)+1)+1)+1)+1))))
def X6u(x:U6q)(k:Int):Bool:=(decide (x.1=k))&&(decide (x.2.1=(k+1)))&&(decide (x.2.2.1=((k+1)+1)))&&(decide (x.2.2.2.1=(((k+1)+1)+1)))&&(decide (x.2.2.2.2.1=((((k+1)+1)+1)+1)))&&(decide (x.2.2.2.2.2=fMT (((((k+1)+1)+1)+1)+1)))
theorem Xl1:∀(x:U6q) (k:Int),X6u (X70 x k) k=true/\X0G (X70 x k)=X0G x:=λx k=>by
 simp[X6u,X70,X0G]
theorem X6V:∀x:U6q,0<=X0G x:=λx=>by
 unfold X0G;omega
def X63(l:List U6q)(k:Int):Prop:=0<=k/\k+cL X0G l<=4611686018427387904
def X7f(l:List U6q)(k:Int):Int×List U6q:=(k+cL X0G l,mL X0G X70 l k)
def X6k:Con:={A:=(.pair (.list T1q) (.int .i64)),shA:=[.one,.one],backA:=[(0,73)],B:=(.list T1q),R:=(.int .i64),shR:=[(false,1)],pre:=λ_ a=>(X63 a.1 a.2),f:=some λ_ a=>((X7f a.1 a.2).1,((),(X7f a.1 a.2).2))}
def X13.F(a0:(List U6q))(a1:Int):Prop:=eQ [(0,.val false [.own T1q 2])]/\mkI X0G X70 a0 a1 a1 0 a0/\∀(y1:Int×Int×List U6q),mkI X0G X70 a0 a1 y1.1 y1.2.1 y1.2.2->dC (y1.2.1<ln y1.2.2) (iB y1.2.1 y1.2.2 (let l2:List U6q:=List.set y1.2.2 (tN y1.2.1) (y1.1,(gA y1.2.2 y1.2.1 (0,0,0,0,0,[])).2.1,(gA y1.2.2 y1.2.1 (0,0,0,0,0,[])).2.2.1,(gA y1.2.2 y1.2.1 (0,0,0,0,0,[])).2.2.2.1,(gA y1.2.2 y1.2.1 (0,0,0,0,0,[])).2.2.2.2.1,(gA y1.2.2 y1.2.1 (0,0,0,0,0,[])).2.2.2.2.2);iB y1.2.1 l2 (let l3:List U6q:=List.set l2 (tN y1.2.1) ((gA l2 y1.2.1 (0,0,0,0,0,[])).1,wI (y1.1+1),(gA l2 y1.2.1 (0,0,0,0,0,[])).2.2.1,(gA l2 y1.2.1 (0,0,0,0,0,[])).2.2.2.1,(gA l2 y1.2.1 (0,0,0,0,0,[])).2.2.2.2.1,(gA l2 y1.2.1 (0,0,0,0,0,[])).2.2.2.2.2);iB y1.2.1 l3 (let l4:List U6q:=List.set l3 (tN y1.2.1) ((gA l3 y1.2.1 (0,0,0,0,0,[])).1,(gA l3 y1.2.1 (0,0,0,0,0,[])).2.1,wI (wI (y1.1+1)+1),(gA l3 y1.2.1 (0,0,0,0,0,[])).2.2.2.1,(gA l3 y1.2.1 (0,0,0,0,0,[])).2.2.2.2.1,(gA l3 y1.2.1 (0,0,0,0,0,[])).2.2.2.2.2);iB y1.2.1 l4 (let l5:List U6q:=List.set l4 (tN y1.2.1) ((gA l4 y1.2.1 (0,0,0,0,0,[])).1,(gA l4 y1.2.1 (0,0,0,0,0,[])).2.1,(gA l4 y1.2.1 (0,0,0,0,0,[])).2.2.1,wI (wI (wI (y1.1+1)+1)+1),(gA l4 y1.2.1 (0,0,0,0,0,[])).2.2.2.2.1,(gA l4 y1.2.1 (0,0,0,0,0,[])).2.2.2.2.2);iB y1.2.1 l5 (let l6:List U6q:=List.set l5 (tN y1.2.1) ((gA l5 y1.2.1 (0,0,0,0,0,[])).1,(gA l5 y1.2.1 (0,0,0,0,0,[])).2.1,(gA l5 y1.2.1 (0,0,0,0,0,[])).2.2.1,(gA l5 y1.2.1 (0,0,0,0,0,[])).2.2.2.1,wI (wI (wI (wI (y1.1+1)+1)+1)+1),(gA l5 y1.2.1 (0,0,0,0,0,[])).2.2.2.2.2);pMT (wI (wI (wI (wI (wI (y1.1+1)+1)+1)+1)+1))/\∀r7,rU r7 (fMT (wI (wI (wI (wI (wI (y1.1+1)+1)+1)+1)+1)))->iB y1.2.1 l6 (let l8:List U6q:=List.set l6 (tN y1.2.1) ((gA l6 y1.2.1 (0,0,0,0,0,[])).1,(gA l6 y1.2.1 (0,0,0,0,0,[])).2.1,(gA l6 y1.2.1 (0,0,0,0,0,[])).2.2.1,(gA l6 y1.2.1 (0,0,0,0,0,[])).2.2.2.1,(gA l6 y1.2.1 (0,0,0,0,0,[])).2.2.2.2.1,r7.1);eQ [(0,.val false [.own T1q 2])]/\mkI X0G X70 a0 a1 (wI (wI (wI (wI (wI (wI (y1.1+1)+1)+1)+1)+1)+1)) (wI (y1.2.1+1)) l8/\mkM a0 a1 (wI (wI (wI (wI (wI (wI (y1.1+1)+1)+1)+1)+1)+1)) (wI (y1.2.1+1)) l8<mkM a0 a1 y1.1 y1.2.1 y1.2.2))))))) (Eq (y1.1,(),y1.2.2) ((X7f a0 a1).1,(),(X7f a0 a1).2))
def X13.L(a0:(List U6q))(a1:Int):Nat->Option X0f:=XLK [(26,⟨⟨[0],[1,5],[],[kC 0 0 2 73]⟩,(.pair (.int .i64) (.pair (.int .i64) (.list T1q))),λst y=>mkI X0G X70 a0 a1 y.1 y.2.1 y.2.2,λst y=>mkM a0 a1 y.1 y.2.1 y.2.2⟩)]
theorem X13.p(a0:(List U6q))(a1:Int)(h:(X63 a0 a1))(hw:Wf X6k.A (a0,a1)):X13.F a0 a1:=by
 delta X13.F ln tN wI dC eQ gA iB rU;obtain⟨p1,p2⟩:=h;have hw1:a0.length<=9223372036854775807:=hw.1.1;simp only[Bs,B0,B1,Yaa,X01];refine⟨⟨by omega,by omega,by simp[cL],by simp[mL]⟩,?_⟩;rintro⟨k,i,l⟩ hI;simp only at hI ⊢;have hl:=XnD hI;have h2:=hI.1;have h3:=hI.2;refine⟨λhi0=>?_,λhi0=>?_⟩
 . have hi:i<(a0.length:Int):=by omega
   have hi':i.toNat<l.length:=by omega
   have hg:=XsM (d:=((0:Int),((0:Int),((0:Int),((0:Int),((0:Int),([]:U7q))))))) hI hi;have hs:=X5w X0G ((0:Int),((0:Int),((0:Int),((0:Int),((0:Int),([]:U7q)))))) (l:=a0) (i:=i.toNat) (by omega);have hk:=hI.3;have c1:=X4c X6V (a0.take i.toNat);have c2:=X4c X6V (a0.drop (i.toNat+1));have c3:=X6V (a0.getD i.toNat ((0:Int),((0:Int),((0:Int),((0:Int),((0:Int),([]:U7q)))))));have hmod:Int.tmod k 3=k % 3:=YaA (by omega);have hc:X0G (a0.getD i.toNat ((0:Int),((0:Int),((0:Int),((0:Int),((0:Int),([]:U7q)))))))=X0G (a0.getD i.toNat ((0:Int),((0:Int),((0:Int),((0:Int),((0:Int),([]:U7q))))))):=rfl
   conv at hc=>rhs;unfold X0G
   try simp only[hg,X2d hi',YbC,YaX]
   try simp (disch:=first | omega | simp_all) only[X2d,YbC,YaX,hg,w64,pMT]
   repeat' (with_reducible (first | (refine And.intro ?_ ?_) | intro _))
   all_goals (try simp+zetaDelta (disch:=first | omega | simp_all) only[hg,X2d,YbC,YaX,w64,pMT])
   all_goals (first | omega | exact XiF (d:=((0:Int),((0:Int),((0:Int),((0:Int),((0:Int),([]:U7q))))))) hI hi (by simp (disch:=omega) [X70,hmod,YaA]<;>rfl) (by omega) | (unfold mkM;omega) | skip)
 . obtain⟨e1,e2⟩:=Xo4 hI (by omega);exact⟨e1,e2⟩
def X13.e:GE:=mE X6k func30 [3] [X1e.e] [] (λi x=>X13.L x.1 x.2) (λi x=>X13.F x.1 x.2) λi x h _ hw=>X13.p x.1 x.2 h hw
def X4B(l:List U6q)(k:Int):Int:=fHd (cL X0G l) (oL X0G X6u l k) k
def X69:Con:=cQ (.pair (.list T1q) (.int .i64)) [.one,.one] (.int .i64) [(false,1)] (λa=>(X63 a.1 a.2)) λa=>(X4B a.1 a.2)
def X16.F(a0:(List U6q))(a1:Int):Prop:=eQ [(0,vL T1q a0)]/\hdI X0G X6u a0 a1 a1 0/\∀(y1:Int×Int),hdI X0G X6u a0 a1 y1.1 y1.2->dC (y1.2<ln a0) (iB y1.2 a0 (X00 ((gA a0 y1.2 (0,0,0,0,0,[])).1 !=y1.1) (rE (-1) (X4B a0 a1)) (iB y1.2 a0 (X00 ((gA a0 y1.2 (0,0,0,0,0,[])).2.1 !=wI (y1.1+1)) (rE (-1) (X4B a0 a1)) (iB y1.2 a0 (X00 ((gA a0 y1.2 (0,0,0,0,0,[])).2.2.1 !=wI (wI (y1.1+1)+1)) (rE (-1) (X4B a0 a1)) (iB y1.2 a0 (X00 ((gA a0 y1.2 (0,0,0,0,0,[])).2.2.2.1 !=wI (wI (wI (y1.1+1)+1)+1)) (rE (-1) (X4B a0 a1)) (iB y1.2 a0 (X00 ((gA a0 y1.2 (0,0,0,0,0,[])).2.2.2.2.1 !=wI (wI (wI (wI (y1.1+1)+1)+1)+1)) (rE (-1) (X4B a0 a1)) (iB y1.2 a0 (pMT (wI (wI (wI (wI (wI (y1.1+1)+1)+1)+1)+1))/\∀r2,rU r2 (fMT (wI (wI (wI (wI (wI (y1.1+1)+1)+1)+1)+1)))->X00 (!(gA a0 y1.2 (0,0,0,0,0,[])).2.2.2.2.2==r2.1) (rE (-1) (X4B a0 a1)) (eQ [(0,vL T1q a0)]/\hdI X0G X6u a0 a1 (wI (wI (wI (wI (wI (wI (y1.1+1)+1)+1)+1)+1)+1)) (wI (y1.2+1))/\hdM a0 a1 (wI (wI (wI (wI (wI (wI (y1.1+1)+1)+1)+1)+1)+1)) (wI (y1.2+1))<hdM a0 a1 y1.1 y1.2))))))))))))) (rE y1.1 (X4B a0 a1))
def X16.L(a0:(List U6q))(a1:Int):Nat->Option X0f:=XLK [(26,⟨⟨[0],[1,5],[],[]⟩,T0q,λst y=>hdI X0G X6u a0 a1 y.1 y.2,λst y=>hdM a0 a1 y.1 y.2⟩)]
theorem X16.p(a0:(List U6q))(a1:Int)(h:(X63 a0 a1))(hw:Wf X69.A (a0,a1)):X16.F a0 a1:=by
 delta X16.F ln wI dC eQ gA iB rE rU vL tN;obtain⟨p1,p2⟩:=h;have hw1:a0.length<=9223372036854775807:=hw.1.1;simp only[Bs,B0,B1,Yaa,X01];refine⟨⟨by omega,by omega,by simp[cL],by simp⟩,?_⟩;rintro⟨k,i⟩ hI;simp only at hI ⊢;have h2:=hI.1;have h3:=hI.2;refine⟨λhi=>?_,λhi=>XmO hI hi⟩
 . have hs:=X5w X0G ((0:Int),((0:Int),((0:Int),((0:Int),((0:Int),([]:U7q)))))) (l:=a0) (i:=i.toNat) (by omega);have hk:=hI.3;have c1:=X4c X6V (a0.take i.toNat);have c2:=X4c X6V (a0.drop (i.toNat+1));have c3:=X6V (a0.getD i.toNat ((0:Int),((0:Int),((0:Int),((0:Int),((0:Int),([]:U7q)))))));have hmod:Int.tmod k 3=k % 3:=YaA (by omega);have no:X6u (a0.getD i.toNat ((0:Int),((0:Int),((0:Int),((0:Int),((0:Int),([]:U7q))))))) k=false->-1=X4B a0 a1:=λho=>XrF ((0:Int),((0:Int),((0:Int),((0:Int),((0:Int),([]:U7q)))))) hI hi ho;have yes:X6u (a0.getD i.toNat ((0:Int),((0:Int),((0:Int),((0:Int),((0:Int),([]:U7q))))))) k=true->hdI X0G X6u a0 a1 (k+X0G (a0.getD i.toNat ((0:Int),((0:Int),((0:Int),((0:Int),((0:Int),([]:U7q)))))))) (i+1):=λho=>Xkm ((0:Int),((0:Int),((0:Int),((0:Int),((0:Int),([]:U7q)))))) hI hi ho rfl;generalize a0.getD i.toNat ((0:Int),((0:Int),((0:Int),((0:Int),((0:Int),([]:U7q))))))=x at*;have hc:X0G x=X0G x:=rfl
   conv at hc=>rhs;unfold X0G
   simp only[X6u]at no yes;simp (disch:=omega) only[w64,pMT]
   repeat' (with_reducible (first | (refine And.intro ?_ ?_) | intro _))
   all_goals (first | omega | (unfold hdM;omega) | skip)
   all_goals (try simp (disch:=first | omega | assumption) only[X5o,X54,w64,YaR]at*)
   all_goals (try simp (disch:=first | omega | assumption) only[X5o,X54,w64,YaR]at*)
   all_goals (first | omega | grind)
def X16.e:GE:=mE X69 func33 [3] [X1e.e] [] (λi x=>X16.L x.1 x.2) (λi x=>X16.F x.1 x.2) λi x h _ hw=>X16.p x.1 x.2 h hw
def XcZ(x:U2q):Nat:=(List.length x.2.2.2.1)+(X8n x.2.2.2.2.1)+(nL X33 x.2.2.2.2.2)
def Xjk(x:U2q)(left:Int):Prop:=WfD T4q x/\0<=left/\left<=1048576
def Xb6(x:U2q)(left:Int):Int:=fSz (XcZ x) left
def Xat:Con:=cQ (.pair T4q (.int .i64)) [.agg 8,.one] (.int .i64) [(false,1)] (λa=>(Xjk a.1 a.2)) λa=>(Xb6 a.1 a.2)
def X4L.F(a0:U2q)(a1:Int):Prop:=Xe9 a0.2.2.2.1 a1/\∀r1,Eq r1 (Xaa a0.2.2.2.1 a1,(),())->X00 (decide (r1.1<(0:Int))) (Eq (-1,(),()) (Xb6 a0 a1,(),())) (Xfw (a0.2.2.2.2.1.1,a0.2.2.2.2.1.2.1,a0.2.2.2.2.1.2.2) r1.1/\∀r2,Eq r2 (Xap (a0.2.2.2.2.1.1,a0.2.2.2.2.1.2.1,a0.2.2.2.2.1.2.2) r1.1,(),())->X00 (decide (r2.1<(0:Int))) (Eq (-1,(),()) (Xb6 a0 a1,(),())) (Xcw a0.2.2.2.2.2 r2.1/\∀r3,Eq r3 (X79 a0.2.2.2.2.2 r2.1,(),())->X00 (decide (r3.1<(0:Int))) (Eq (-1,(),()) (Xb6 a0 a1,(),())) (Eq (r3.1,(),()) (Xb6 a0 a1,(),()))))
theorem X4L.p(a0:U2q)(a1:Int)(h:(Xjk a0 a1))(hw:Wf Xat.A (a0,a1)):X4L.F a0 a1:=by
 unfold X4L.F;obtain⟨hwf,p1,p2⟩:=h;have w3:WfD X7N a0.2.2.2.1:=hwf.2.2.2.1;have w4:WfD T9q a0.2.2.2.2.1:=hwf.2.2.2.2.1;have w5:WfD (.list T1q) a0.2.2.2.2.2:=hwf.2.2.2.2.2;simp only[Bs,B0,B1,Yaa,X01,XcZ,Xb6,Xe9,Xaa,Xfw,Xap,Xcw,X79]
 repeat' (with_reducible (first | (refine And.intro ?_ ?_) | intro _))
 all_goals (try simp (disch:=omega) only[w64,wu8,tn0,tn1,tm1,tm2,Yab,Yad,Yai]at*)
 all_goals (try simp (disch:=omega) only[w64,wu8,tn0,tn1,tm1,tm2,Yab,Yad,Yai]at*)
 all_goals (try omega)
 all_goals (try grind[fSz])
def X4L.e:GE:=mE Xat func4 [3] [X39.e,X3Q.e,X1Y.e] [] noL (λi x=>X4L.F x.1 x.2) λi x h _ hw=>X4L.p x.1 x.2 h hw
def Xb7(x:U2q):Prop:=XcZ x<=1048576
def XaX(x:U2q):U2q:=x
def XaR:Con:=cW T4q [.agg 8] T4q [(true,8)] [(3,78),(5,115),(6,9),(7,73)] (λa=>(Xb7 a)) λa=>(XaX a)
def X4E.F(a0:U2q):Prop:=Xe2 a0.2.2.2.1/\∀r1,Eq r1 (Xc4 a0.2.2.2.1,(),())->Xdh (a0.2.2.2.2.1.1,a0.2.2.2.2.1.2.1,a0.2.2.2.2.1.2.2)/\∀r2,Eq r2 (XdD (a0.2.2.2.2.1.1,a0.2.2.2.2.1.2.1,a0.2.2.2.2.1.2.2),(),())->XcM a0.2.2.2.2.2/\∀r3,Eq r3 (Xb8 a0.2.2.2.2.2,(),())->Eq ((a0.1,a0.2.1,a0.2.2.1,r1.1,(r2.1.1,r2.1.2.1,r2.1.2.2),r3.1),(),()) (XaX a0,(),())
theorem X4E.p(a0:U2q)(h:(Xb7 a0))(hw:Wf XaR.A a0):X4E.F a0:=by
 unfold X4E.F;have hp:XcZ a0<=1048576:=h;simp only[XcZ]at hp;simp only[Bs,B0,B1,Yaa,X01,XcZ,XaX,Xb7,Xe2,Xc4,Xdh,XdD,XcM,Xb8]
 repeat' (with_reducible (first | (refine And.intro ?_ ?_) | intro _))
 all_goals (try simp (disch:=omega) only[w64,wu8,tn0,tn1,tm1,tm2,Yab,Yad,Yai]at*)
 all_goals (try simp (disch:=omega) only[w64,wu8,tn0,tn1,tm1,tm2,Yab,Yad,Yai]at*)
 all_goals (try omega)
 all_goals (try grind[])
def X4E.e:GE:=mE XaR func7 [40] [X2j.e,X3K.e,X1U.e] [] noL (λi x=>X4E.F x) λi x h _ hw=>X4E.p x h hw
instance dec_State:DecidableEq U2q:=by(iterate 20 (all_goals (first | infer_instance | refine @instDecidableEqProd _ _ ?_ ?_)))
def X5k(a b:U2q):Bool:=decide (a=b)
def XaI:Con:=cQ (.pair T4q T4q) [.agg 8,.agg 8] .bool [(false,1)] (λ_=>True) λa=>(X5k a.1 a.2)
def X4D.F(a0:U2q)(a1:U2q):Prop:=X00 (a0.1 !=a1.1) (Eq (false,(),()) (X5k a0 a1,(),())) (X00 (a0.2.1 !=a1.2.1) (Eq (false,(),()) (X5k a0 a1,(),())) (X00 (a0.2.2.1 !=a1.2.2.1) (Eq (false,(),()) (X5k a0 a1,(),())) (True/\∀r1,Eq r1 (X6j a0.2.2.2.1 a1.2.2.2.1,(),())->X00 (!r1.1) (Eq (false,(),()) (X5k a0 a1,(),())) (True/\∀r2,Eq r2 (X94 (a0.2.2.2.2.1.1,a0.2.2.2.2.1.2.1,a0.2.2.2.2.1.2.2) (a1.2.2.2.2.1.1,a1.2.2.2.2.1.2.1,a1.2.2.2.2.1.2.2),(),())->X00 (!r2.1) (Eq (false,(),()) (X5k a0 a1,(),())) (True/\∀r3,Eq r3 (X5x a0.2.2.2.2.2 a1.2.2.2.2.2,(),())->X00 (!r3.1) (Eq (false,(),()) (X5k a0 a1,(),())) (Eq (true,(),()) (X5k a0 a1,(),())))))))
theorem X4D.p(a0:U2q)(a1:U2q)(h:True):X4D.F a0 a1:=by
 unfold X4D.F;obtain⟨x1,x2,x3,x4,⟨x5,x6,x7⟩,x8⟩:=a0;obtain⟨y1,y2,y3,y4,⟨y5,y6,y7⟩,y8⟩:=a1;simp only[Bs,B0,B1,Yaa,X01,X5k,X6j,X94,X5x]
 repeat' (first | (refine And.intro ?_ ?_) | intro _)
 all_goals simp_all
def X4D.e:GE:=mE XaI func10 [4] [X2s.e,X42.e,X1R.e] [] noL (λi x=>X4D.F x.1 x.2) λi x h _ _=>X4D.p x.1 x.2 h
def X5s(x:U2q):Int:=cL X0C x.2.2.2.1+cL X0w x.2.2.2.2.1.2.1+cL XdX x.2.2.2.2.1.2.2+cL X0G x.2.2.2.2.2
def Xmn(x:U2q)(k:Int):(U8q×((List U3q)×((List U7q)×(List U6q)))):=(mL X0C X9F x.2.2.2.1 k,(mL X0w X8d x.2.2.2.2.1.2.1 (k+cL X0C x.2.2.2.1),(mL XdX X83 x.2.2.2.2.1.2.2 (k+cL X0C x.2.2.2.1+cL X0w x.2.2.2.2.1.2.1),mL X0G X70 x.2.2.2.2.2 (k+cL X0C x.2.2.2.1+cL X0w x.2.2.2.2.1.2.1+cL XdX x.2.2.2.2.1.2.2))))
def XiA(x:U2q)(k:Int):Bool:=oL X0C X8s x.2.2.2.1 k&&oL X0w X7x x.2.2.2.2.1.2.1 (k+cL X0C x.2.2.2.1)&&oL XdX X7C x.2.2.2.2.1.2.2 (k+cL X0C x.2.2.2.1+cL X0w x.2.2.2.2.1.2.1)&&oL X0G X6u x.2.2.2.2.2 (k+cL X0C x.2.2.2.1+cL X0w x.2.2.2.2.1.2.1+cL XdX x.2.2.2.2.1.2.2)
def Xfo(x:U2q)(k:Int):U2q:=(x.1,(x.2.1,(x.2.2.1,(mL X0C X9F x.2.2.2.1 k,((x.2.2.2.2.1.1,(mL X0w X8d x.2.2.2.2.1.2.1 (k+cL X0C x.2.2.2.1),mL XdX X83 x.2.2.2.2.1.2.2 (k+cL X0C x.2.2.2.1+cL X0w x.2.2.2.2.1.2.1))),mL X0G X70 x.2.2.2.2.2 (k+cL X0C x.2.2.2.1+cL X0w x.2.2.2.2.1.2.1+cL XdX x.2.2.2.2.1.2.2))))))
theorem Xsx(x:U2q)(k:Int):XiA (Xfo x k) k=true/\X5s (Xfo x k)=X5s x:=by
 simp[XiA,Xfo,X5s,(XiN Xo0 _ _).1,(XiN Xo0 _ _).2,(XiN XmI _ _).1,(XiN XmI _ _).2,(XiN Xny _ _).1,(XiN Xny _ _).2,(XiN Xl1 _ _).1,(XiN Xl1 _ _).2]
def X7c(x:U2q)(k:Int):Prop:=0<=k/\k+X5s x<=4611686018427387904
def X7P(x:U2q)(k:Int):Int×(U8q×((List U3q)×((List U7q)×(List U6q)))):=(k+X5s x,Xmn x k)
def X8x:Con:={A:=(.pair T4q (.int .i64)),shA:=[.agg 8,.one],backA:=[(3,78),(5,115),(6,9),(7,73)],B:=(.pair X7N (.pair X5C (.pair XfH (.list T1q)))),R:=(.int .i64),shR:=[(false,1)],pre:=λ_ a=>(X7c a.1 a.2),f:=some λ_ a=>((X7P a.1 a.2).1,((),(X7P a.1 a.2).2))}
def X34.F(a0:U2q)(a1:Int):Prop:=X7e a0.2.2.2.1 a1/\∀r1,Eq r1 ((X8F a0.2.2.2.1 a1).1,(),(X8F a0.2.2.2.1 a1).2)->X8T (a0.2.2.2.2.1.1,a0.2.2.2.2.1.2.1,a0.2.2.2.2.1.2.2) r1.1/\∀r2,Eq r2 ((X8P (a0.2.2.2.2.1.1,a0.2.2.2.2.1.2.1,a0.2.2.2.2.1.2.2) r1.1).1,(),(X8P (a0.2.2.2.2.1.1,a0.2.2.2.2.1.2.1,a0.2.2.2.2.1.2.2) r1.1).2)->X63 a0.2.2.2.2.2 r2.1/\∀r3,Eq r3 ((X7f a0.2.2.2.2.2 r2.1).1,(),(X7f a0.2.2.2.2.2 r2.1).2)->Eq (r3.1,(),r1.2.2,r2.2.2.1,r2.2.2.2,r3.2.2) ((X7P a0 a1).1,(),(X7P a0 a1).2)
theorem X34.p(a0:U2q)(a1:Int)(h:(X7c a0 a1)):X34.F a0 a1:=by
 unfold X34.F;obtain⟨p1,p2⟩:=h;simp only[X5s,X6Y]at p2;have p3:=X4c X8X a0.2.2.2.1;have p4:=X4c X6y a0.2.2.2.2.1.2.1;have p5:=X4c X6A a0.2.2.2.2.1.2.2;have p6:=X4c X6V a0.2.2.2.2.2;simp only[Bs,B0,B1,Yaa,X01,X8F,X7e,X8P,X8T,X6Y,Xj7,X7f,X63,X5s,Xmn,X7P]
 repeat' (with_reducible (first | (refine And.intro ?_ ?_) | intro _))
 all_goals (try simp only[<-Int.add_assoc])
 all_goals (first | omega | rfl | (refine Prod.ext ?_ rfl;simp only;omega) | skip)
def X34.e:GE:=mE X8x func12 [3] [X1p.e,X2E.e,X13.e] [] noL (λi x=>X34.F x.1 x.2) λi x h _ _=>X34.p x.1 x.2 h
def X7R(x:U2q)(k:Int):Int:=fHd (X5s x) (XiA x k) k
def X8t:Con:=cQ (.pair T4q (.int .i64)) [.agg 8,.one] (.int .i64) [(false,1)] (λa=>(X7c a.1 a.2)) λa=>(X7R a.1 a.2)
def X35.F(a0:U2q)(a1:Int):Prop:=X7e a0.2.2.2.1 a1/\∀r1,Eq r1 (X8B a0.2.2.2.1 a1,(),())->X00 (decide (r1.1<(0:Int))) (Eq (-1,(),()) (X7R a0 a1,(),())) (X8T (a0.2.2.2.2.1.1,a0.2.2.2.2.1.2.1,a0.2.2.2.2.1.2.2) r1.1/\∀r2,Eq r2 (Xan (a0.2.2.2.2.1.1,a0.2.2.2.2.1.2.1,a0.2.2.2.2.1.2.2) r1.1,(),())->X00 (decide (r2.1<(0:Int))) (Eq (-1,(),()) (X7R a0 a1,(),())) (X63 a0.2.2.2.2.2 r2.1/\∀r3,Eq r3 (X4B a0.2.2.2.2.2 r2.1,(),())->X00 (decide (r3.1<(0:Int))) (Eq (-1,(),()) (X7R a0 a1,(),())) (Eq (r3.1,(),()) (X7R a0 a1,(),()))))
theorem X35.p(a0:U2q)(a1:Int)(h:(X7c a0 a1))(hw:Wf X8t.A (a0,a1)):X35.F a0 a1:=by
 unfold X35.F;obtain⟨p1,p2⟩:=h;simp only[X5s,X6Y]at p2;have p3:=X4c X8X a0.2.2.2.1;have p4:=X4c X6y a0.2.2.2.2.1.2.1;have p5:=X4c X6A a0.2.2.2.2.1.2.2;have p6:=X4c X6V a0.2.2.2.2.2;simp only[Bs,B0,B1,Yaa,X01,X7R,X7e,X8B,X8T,Xan,X6Y,XjR,X63,X4B,X5s,XiA]
 repeat' (with_reducible (first | (refine And.intro ?_ ?_) | intro _))
 all_goals (try simp (disch:=first | omega | assumption) only[X5o,X54,YaR]at*)
 all_goals (try simp (disch:=first | omega | assumption) only[X5o,X54,YaR]at*)
 all_goals (try simp (disch:=first | omega | assumption) only[X5o,X54,YaR]at*)
 all_goals (try simp (disch:=first | omega | assumption) only[X5o,X54,YaR]at*)
 all_goals (try simp (disch:=first | omega | assumption) only[X5o,X54,YaR]at*)
 all_goals (try simp (disch:=first | omega | assumption) only[X5o,X54,YaR]at*)
 all_goals (first | omega | (unfold fHd;grind) | skip)
def X35.e:GE:=mE X8t func13 [3] [X1l.e,X2C.e,X16.e] [] noL (λi x=>X35.F x.1 x.2) λi x h _ hw=>X35.p x.1 x.2 h hw
abbrev Pt:=Int×Int
abbrev Ser:=List UInt8×List (Int×Int)
def Xb3(a:Int):Bool:=fIn a 0 1099511627776
def XhU(p:Nat->Bool)(n:Nat):Bool:=(List.range n).all p
theorem XcR{p:Nat->Bool}{n:Nat}(h:∀j,j<n->p j=true):XhU p n=true:=by
 simp only[XhU,Ya7,YbV];exact h
theorem XnV{p:Nat->Bool}{n j:Nat}(h:j<n)(hp:p j=false):XhU p n=false:=by
 cases e:XhU p n with
 | false=>rfl
 | true=>
   simp only[XhU,Ya7,YbV]at e;rw[e j h]at hp;cases hp
theorem Xci{p:Nat->Bool}{i:Int}(h0:0<=i)(h:∀j,j<i.toNat->p j=true)(hp:p i.toNat=true):∀j,j<(i+1).toNat->p j=true:=λj hj=>by
 by_cases e:j=i.toNat
 . rw[e];exact hp
 . exact h j (by omega)
def Xig(l:List Pt)(i:Nat):Bool:=fIn (l.getD i (0,0)).1 0 1099511627776&&(fIn (l.getD i (0,0)).2 (-1099511627776) 1099511627776&&(decide (i=0)||decide ((l.getD (i - 1) (0,0)).1<(l.getD i (0,0)).1)))
def X0N(l:List Pt):Bool:=decide (l.length<=60)&&XhU (Xig l) l.length
def ptI(l:List Pt)(i:Int):Prop:=0<=i/\i<=l.length/\∀j,j<i.toNat->Xig l j=true
def ptM(l:List Pt)(i:Int):Nat:=(l.length - i).toNat
theorem XvL{l:List Pt}{j:Nat}(h:j<l.length)(hp:Xig l j=false):false=X0N l:=by simp[X0N,XnV h hp]
def Xre(s:List UInt8)(i:Nat):Bool:=decide ((97:Int)<=((s.getD i 0).toNat:Int))&&decide (((s.getD i 0).toNat:Int)<=122)
def X6U(s:List UInt8):Bool:=fIn s.length 1 8&&XhU (Xre s) s.length
def chI(s:List UInt8)(i:Int):Prop:=0<=i/\i<=s.length/\∀j,j<i.toNat->Xre s j=true
def chM(s:List UInt8)(i:Int):Nat:=(s.length - i).toNat
theorem Xvy{s:List UInt8}{j:Nat}(h:j<s.length)(hp:Xre s j=false):false=X6U s:=by simp[X6U,XnV h hp]
def XnN(l:List Ser)(i:Nat):Bool:=X6U (l.getD i ([],[])).1&&((decide (i=0)||Op.bytesLess (l.getD (i - 1) ([],[])).1 (l.getD i ([],[])).1)&&(decide ((l.getD i ([],[])).2.length≠0)&&X0N (l.getD i ([],[])).2))
def X0Q(l:List Ser):Bool:=decide (l.length<=5)&&XhU (XnN l) l.length
def srI(l:List Ser)(i:Int):Prop:=0<=i/\i<=l.length/\∀j,j<i.toNat->XnN l j=true
def srM(l:List Ser)(i:Int):Nat:=(l.length - i).toNat
theorem Xvn{l:List Ser}{j:Nat}(h:j<l.length)(hp:XnN l j=false):false=X0Q l:=by simp[X0Q,XnV h hp]
def Xbt:Con:=cQ (.int .i64) [.one] .bool [(false,1)] (λ_=>True) λa=>(Xb3 a)
def X4o.F(a0:Int):Prop:=True/\∀r1,Eq r1 (fIn a0 0 1099511627776,(),())->Eq (r1.1,(),()) (Xb3 a0,(),())
theorem X4o.p(a0:Int)(h:True):X4o.F a0:=by
 unfold X4o.F;simp only[YbN,Ybw,Ybm,Yaa];rfl
def X4o.e:GE:=mE Xbt func53 [4] [X0X.e] [] noL (λi x=>X4o.F x) λi x h _ _=>X4o.p x h
def X9W:Con:=cQ X7N [.one] .bool [(false,1)] (λ_=>True) λa=>(X0N a)
def X1H.F(a0:U8q):Prop:=dC (ln a0>60) (rE false (X0N a0)) (eQ [(0,vL T0q a0)]/\ptI a0 0/\∀(y1:Int),ptI a0 y1->dC (y1<ln a0) (iB y1 a0 (True/\∀r2,rU r2 (fIn (gA a0 y1 (0,0)).1 0 1099511627776)->X00 (!r2.1) (rE false (X0N a0)) (iB y1 a0 (True/\∀r3,rU r3 (fIn (gA a0 y1 (0,0)).2 (-1099511627776) 1099511627776)->X00 (!r3.1) (rE false (X0N a0)) (dC (y1>0) (iB (wI (y1 - 1)) a0 (iB y1 a0 (dC ((gA a0 (wI (y1 - 1)) (0,0)).1>=(gA a0 y1 (0,0)).1) (rE false (X0N a0)) (eQ [(0,vL T0q a0)]/\ptI a0 (wI (y1+1))/\ptM a0 (wI (y1+1))<ptM a0 y1)))) (eQ [(0,vL T0q a0)]/\ptI a0 (wI (y1+1))/\ptM a0 (wI (y1+1))<ptM a0 y1)))))) (rE true (X0N a0)))
def X1H.L(a0:U8q):Nat->Option X0f:=XLK [(58,⟨⟨[0],[3],[],[]⟩,(.int .i64),λst y=>ptI a0 y,λst y=>ptM a0 y⟩)]
theorem X1H.p(a0:U8q)(h:True)(hw:Wf X9W.A a0):X1H.F a0:=by
 delta X1H.F ln wI dC eQ gA iB rE rU vL tN;have hw1:a0.length<=maxLen:=hw.1;unfold maxLen at hw1;simp only[YbN,Ybw,Ybm,X01,Yaa,Yaj,Yaw,YaS,Ybo];refine⟨λh1=>?_,λh1=>⟨⟨by omega,by omega,λj hj=>absurd hj (by simp)⟩,?_⟩⟩
 . have:¬a0.length<=60:=by omega
   simp[X0N,this]
 rintro i ⟨h2,h3,h4⟩;have fin:¬i<(a0.length:Int)->true=X0N a0:=λhi=>by
  have:XhU (Xig a0) a0.length=true:=XcR λj hj=>h4 j (by omega);have h60:a0.length<=60:=by omega
  simp[X0N,this,h60]
 refine⟨?_,fin⟩;intro hi;have e2:IntKind.wrap .i64 (i+1)=i+1:=Yau _ (by omega);have e1:IntKind.wrap .i64 (i - 1)=i - 1:=Yau _ (by omega);have e3:(i - 1).toNat=i.toNat - 1:=by omega
 rw[e1,e2,e3];have no:Xig a0 i.toNat=false->false=X0N a0:=λhp=>XvL (by omega) hp;have yes:Xig a0 i.toNat=true->ptI a0 (i+1)/\ptM a0 (i+1)<ptM a0 i:=λhp=>⟨⟨by omega,by omega,Xci h2 h4 hp⟩,by unfold ptM;omega⟩
 refine⟨h2,hi,λt1=>no (by unfold Xig;rw[t1];rfl),λt1=>⟨h2,hi,?_,λt2=>⟨λhp=>⟨by omega,by omega,h2,hi,?_,?_⟩,λhp=>?_⟩⟩⟩
 . intro t2;exact no (by unfold Xig;rw[t1,t2];rfl)
 . intro t3;exact no (by unfold Xig;rw[t1,t2,Yav (by omega:¬i.toNat=0),Yav (by omega)];rfl)
 . intro t3;exact yes (by unfold Xig;rw[t1,t2,Yaz (by omega:(a0.getD (i.toNat - 1) (0,0)).1<(a0.getD i.toNat (0,0)).1),Ycv];rfl)
 . exact yes (by unfold Xig;rw[t1,t2,Yaz (by omega:i.toNat=0)];rfl)
def X1H.e:GE:=mE X9W func108 [4] [X26.e] [] (λi x=>X1H.L x) (λi x=>X1H.F x) λi x h _ hw=>X1H.p x h hw
def X9n:Con:=cQ X7N [.one] .bool [(false,1)] (λ_=>True) λa=>(X0N a)
def X29.F(a0:U8q):Prop:=eQ [(0,vL T0q a0),(5,vL T0q a0),(6,vI (ln a0))]/\ptI a0 0/\∀(y1:Int),ptI a0 y1->dC (y1<ln a0) (iB y1 a0 (True/\∀r2,rU r2 (fIn (gA a0 y1 (0,0)).1 0 1099511627776)->X00 (!r2.1) (rE false (X0N a0)) (True/\∀r3,rU r3 (fIn (gA a0 y1 (0,0)).2 (-1099511627776) 1099511627776)->X00 (!r3.1) (rE false (X0N a0)) (dC (y1>0) (iB (wI (y1 - 1)) a0 (dC ((gA a0 (wI (y1 - 1)) (0,0)).1>=(gA a0 y1 (0,0)).1) (rE false (X0N a0)) (eQ [(0,vL T0q a0),(5,vL T0q a0),(6,vI (ln a0))]/\ptI a0 (wI (y1+1))/\ptM a0 (wI (y1+1))<ptM a0 y1))) (eQ [(0,vL T0q a0),(5,vL T0q a0),(6,vI (ln a0))]/\ptI a0 (wI (y1+1))/\ptM a0 (wI (y1+1))<ptM a0 y1))))) (rE (decide (ln a0<=60)) (X0N a0))
def X29.L(a0:U8q):Nat->Option X0f:=XLK [(26,⟨⟨[0,5,6],[7],[],[]⟩,(.int .i64),λst y=>ptI a0 y,λst y=>ptM a0 y⟩)]
theorem X29.p(a0:U8q)(h:True)(hw:Wf X9n.A a0):X29.F a0:=by
 delta X29.F ln wI dC eQ gA iB rE rU vI vL tN;have hw1:a0.length<=maxLen:=hw.1;unfold maxLen at hw1;simp only[YbN,Ybw,Ybm,X01,Yaa,Yaj,Yaw,YaS,Ybo];refine⟨⟨by omega,by omega,λj hj=>absurd hj (by simp)⟩,?_⟩;rintro i ⟨h2,h3,h4⟩;have fin:¬i<(a0.length:Int)->decide ((a0.length:Int)<=60)=X0N a0:=λhi=>by
  have:XhU (Xig a0) a0.length=true:=XcR λj hj=>h4 j (by omega);simp[X0N,this];omega
 refine⟨?_,fin⟩;intro hi;have e2:IntKind.wrap .i64 (i+1)=i+1:=Yau _ (by omega);have e1:IntKind.wrap .i64 (i - 1)=i - 1:=Yau _ (by omega);have e3:(i - 1).toNat=i.toNat - 1:=by omega
 rw[e1,e2,e3];have no:Xig a0 i.toNat=false->false=X0N a0:=λhp=>XvL (by omega) hp;have yes:Xig a0 i.toNat=true->ptI a0 (i+1)/\ptM a0 (i+1)<ptM a0 i:=λhp=>⟨⟨by omega,by omega,Xci h2 h4 hp⟩,by unfold ptM;omega⟩
 refine⟨h2,hi,λt1=>no (by unfold Xig;rw[t1];rfl),λt1=>⟨?_,λt2=>⟨λhp=>⟨by omega,by omega,?_,?_⟩,λhp=>?_⟩⟩⟩
 . intro t2;exact no (by unfold Xig;rw[t1,t2];rfl)
 . intro t3;exact no (by unfold Xig;rw[t1,t2,Yav (by omega:¬i.toNat=0),Yav (by omega)];rfl)
 . intro t3;exact yes (by unfold Xig;rw[t1,t2,Yaz (by omega:(a0.getD (i.toNat - 1) (0,0)).1<(a0.getD i.toNat (0,0)).1),Ycv];rfl)
 . exact yes (by unfold Xig;rw[t1,t2,Yaz (by omega:i.toNat=0)];rfl)
def X29.e:GE:=mE X9n func160 [4] [X0X.e] [] (λi x=>X29.L x) (λi x=>X29.F x) λi x h _ hw=>X29.p x h hw
def Xgb(s:List UInt8):Prop:=s.length<=maxLen
def XcJ:Con:=cQ .str [.one] .bool [(false,1)] (λa=>(Xgb a)) λa=>(X6U a)
def X49.F(a0:U7q):Prop:=True/\∀r1,rU r1 (fIn (ln a0) 1 8)->X00 (!r1.1) (rE false (X6U a0)) (eQ [(0,vS a0)]/\chI a0 0/\∀(y2:Int),chI a0 y2->dC (y2<ln a0) (iB y2 a0 (dC (((UInt8.toNat (gA a0 y2 0):Nat):Int)<(97:Int)) (rE false (X6U a0)) (iB y2 a0 (dC (((UInt8.toNat (gA a0 y2 0):Nat):Int)>(122:Int)) (rE false (X6U a0)) (eQ [(0,vS a0)]/\chI a0 (wI (y2+1))/\chM a0 (wI (y2+1))<chM a0 y2))))) (rE true (X6U a0)))
def X49.L(a0:U7q):Nat->Option X0f:=XLK [(58,⟨⟨[0],[3],[],[]⟩,(.int .i64),λst y=>chI a0 y,λst y=>chM a0 y⟩)]
theorem X49.p(a0:U7q)(h:(Xgb a0)):X49.F a0:=by
 delta X49.F ln wI dC eQ gA iB rE rU vS tN;have hw1:a0.length<=maxLen:=h;unfold maxLen at hw1;simp only[YbN,Ybw,Ybm,X01,Yaa,Yaj,Yaw,YaS,Ybo];refine⟨λh1=>by simp[X6U,h1],λh1=>⟨⟨by omega,by omega,λj hj=>absurd hj (by simp)⟩,?_⟩⟩;have hin:¬(a0.length:Int)>8:=by
  simp only[fIn,Yac,Yaj]at h1;omega
 rintro i ⟨h2,h3,h4⟩;have fin:¬i<(a0.length:Int)->true=X6U a0:=λhi=>by
  have:XhU (Xre a0) a0.length=true:=XcR λj hj=>h4 j (by omega);simp[X6U,this,h1]
 refine⟨?_,fin⟩;intro hi;have e2:IntKind.wrap .i64 (i+1)=i+1:=Yau _ (by omega);rw[e2];have no:Xre a0 i.toNat=false->false=X6U a0:=λhp=>Xvy (by omega) hp;refine⟨h2,hi,λt1=>no (by unfold Xre;rw[Yav (by omega)];rfl),λt1=>⟨h2,hi,λt2=>no (by unfold Xre;rw[Yav (p:=_<=(122:Int)) (by omega),YbP]),λt2=>?_⟩⟩;exact⟨⟨by omega,by omega,Xci h2 h4 (by unfold Xre;rw[Yaz (by omega),Yaz (by omega)];rfl)⟩,by unfold chM;omega⟩
def X49.e:GE:=mE XcJ func107 [4] [X26.e] [] (λi x=>X49.L x) (λi x=>X49.F x) λi x h _ _=>X49.p x h
def XcB:Con:=cQ .str [.one] .bool [(false,1)] (λa=>(Xgb a)) λa=>(X6U a)
def X4j.F(a0:U7q):Prop:=eQ [(0,vS a0),(5,vI (ln a0))]/\chI a0 0/\∀(y1:Int),chI a0 y1->dC (y1<ln a0) (iB y1 a0 (dC (((UInt8.toNat (gA a0 y1 0):Nat):Int)<(97:Int)) (rE false (X6U a0)) (iB y1 a0 (dC (((UInt8.toNat (gA a0 y1 0):Nat):Int)>(122:Int)) (rE false (X6U a0)) (eQ [(0,vS a0),(5,vI (ln a0))]/\chI a0 (wI (y1+1))/\chM a0 (wI (y1+1))<chM a0 y1))))) (True/\∀r2,rU r2 (fIn (ln a0) 1 8)->rE r2.1 (X6U a0))
def X4j.L(a0:U7q):Nat->Option X0f:=XLK [(26,⟨⟨[0,5],[6],[],[]⟩,(.int .i64),λst y=>chI a0 y,λst y=>chM a0 y⟩)]
theorem X4j.p(a0:U7q)(h:(Xgb a0)):X4j.F a0:=by
 delta X4j.F ln wI dC eQ gA iB rE rU vI vS tN;have hw1:a0.length<=maxLen:=h;unfold maxLen at hw1;simp only[YbN,Ybw,Ybm,X01,Yaa,Yaj,Yaw,YaS,Ybo];refine⟨⟨by omega,by omega,λj hj=>absurd hj (by simp)⟩,?_⟩;rintro i ⟨h2,h3,h4⟩;have fin:¬i<(a0.length:Int)->fIn (a0.length:Int) 1 8=X6U a0:=λhi=>by
  have:XhU (Xre a0) a0.length=true:=XcR λj hj=>h4 j (by omega);simp[X6U,this]
 refine⟨?_,fin⟩;intro hi;have e2:IntKind.wrap .i64 (i+1)=i+1:=Yau _ (by omega);rw[e2];have no:Xre a0 i.toNat=false->false=X6U a0:=λhp=>Xvy (by omega) hp;refine⟨h2,hi,λt1=>no (by unfold Xre;rw[Yav (by omega)];rfl),λt1=>⟨h2,hi,λt2=>no (by unfold Xre;rw[Yav (p:=_<=(122:Int)) (by omega),YbP]),λt2=>?_⟩⟩;exact⟨⟨by omega,by omega,Xci h2 h4 (by unfold Xre;rw[Yaz (by omega),Yaz (by omega)];rfl)⟩,by unfold chM;omega⟩
def X4j.e:GE:=mE XcB func137 [4] [X0X.e] [] (λi x=>X4j.L x) (λi x=>X4j.F x) λi x h _ _=>X4j.p x h
def X3C(l:List Ser):Prop:=∀s∈l,s.1.length<=maxLen
theorem Xsb{l:List Ser}(h:X3C l){i:Int}(h0:0<=i)(hi:i<l.length):Xgb (l.getD i.toNat ([],[])).1:=by
 have hlt:i.toNat<l.length:=by omega
 rw[Yar,Yax hlt];exact h _ (Yc3 hlt)
def X9R:Con:=cQ X5C [.one] .bool [(false,1)] (λa=>(X3C a)) λa=>(X0Q a)
def X1J.F(a0:(List U3q)):Prop:=dC (ln a0>5) (rE false (X0Q a0)) (eQ [(0,vL T5q a0)]/\srI a0 0/\∀(y1:Int),srI a0 y1->dC (y1<ln a0) (iB y1 a0 (Xgb (gA a0 y1 ([],[])).1/\∀r2,rU r2 (X6U (gA a0 y1 ([],[])).1)->X00 (!r2.1) (rE false (X0Q a0)) (dC (y1>0) (iB (wI (y1 - 1)) a0 (iB y1 a0 (X00 (!Op.bytesLess (gA a0 (wI (y1 - 1)) ([],[])).1 (gA a0 y1 ([],[])).1) (rE false (X0Q a0)) (iB y1 a0 (X00 (ln (gA a0 y1 ([],[])).2==0) (rE false (X0Q a0)) (iB y1 a0 (True/\∀r3,rU r3 (X0N (gA a0 y1 ([],[])).2)->X00 (!r3.1) (rE false (X0Q a0)) (eQ [(0,vL T5q a0)]/\srI a0 (wI (y1+1))/\srM a0 (wI (y1+1))<srM a0 y1)))))))) (iB y1 a0 (X00 (ln (gA a0 y1 ([],[])).2==0) (rE false (X0Q a0)) (iB y1 a0 (True/\∀r4,rU r4 (X0N (gA a0 y1 ([],[])).2)->X00 (!r4.1) (rE false (X0Q a0)) (eQ [(0,vL T5q a0)]/\srI a0 (wI (y1+1))/\srM a0 (wI (y1+1))<srM a0 y1)))))))) (rE true (X0Q a0)))
def X1J.L(a0:(List U3q)):Nat->Option X0f:=XLK [(58,⟨⟨[0],[3],[],[]⟩,(.int .i64),λst y=>srI a0 y,λst y=>srM a0 y⟩)]
theorem X1J.p(a0:(List U3q))(h:(X3C a0))(hw:Wf X9R.A a0):X1J.F a0:=by
 delta X1J.F ln wI dC eQ gA iB rE rU vL tN;have hw1:a0.length<=maxLen:=hw.1;unfold maxLen at hw1;simp only[YbN,Ybw,Ybm,X01,Yaa,Yaj,Yaw,YaS,Ybo];refine⟨λh1=>?_,λh1=>⟨⟨by omega,by omega,λj hj=>absurd hj (by simp)⟩,?_⟩⟩
 . have:¬a0.length<=5:=by omega
   simp[X0Q,this]
 rintro i ⟨h2,h3,h4⟩;have fin:¬i<(a0.length:Int)->true=X0Q a0:=λhi=>by
  have:XhU (XnN a0) a0.length=true:=XcR λj hj=>h4 j (by omega);have h60:a0.length<=5:=by omega
  simp[X0Q,this,h60]
 refine⟨?_,fin⟩;intro hi;have e2:IntKind.wrap .i64 (i+1)=i+1:=Yau _ (by omega);have e1:IntKind.wrap .i64 (i - 1)=i - 1:=Yau _ (by omega);have e3:(i - 1).toNat=i.toNat - 1:=by omega
 rw[e1,e2,e3];have no:XnN a0 i.toNat=false->false=X0Q a0:=λhp=>Xvn (by omega) hp;have yes:XnN a0 i.toNat=true->srI a0 (i+1)/\srM a0 (i+1)<srM a0 i:=λhp=>⟨⟨by omega,by omega,Xci h2 h4 hp⟩,by unfold srM;omega⟩
 have hk:=Xsb h h2 hi;generalize hx:a0.getD i.toNat ([],[])=x at*;generalize hy:a0.getD (i.toNat - 1) ([],[])=y at*;have hsr:XnN a0 i.toNat=(X6U x.1&&((decide (i.toNat=0)||Op.bytesLess y.1 x.1)&&(decide (x.2.length≠0)&&X0N x.2))):=by unfold XnN;rw[hx,hy]
 refine⟨h2,hi,hk,λt1=>no (by rw[hsr,t1];rfl),λt1=>⟨λhp=>⟨by omega,by omega,h2,hi,λt2=>no ?_,λt2=>⟨h2,hi,λt3=>no ?_,λt3=>⟨h2,hi,λt4=>no ?_,λt4=>yes ?_⟩⟩⟩,λhp=>⟨h2,hi,λt3=>no ?_,λt3=>⟨h2,hi,λt4=>no ?_,λt4=>yes ?_⟩⟩⟩⟩
 . rw[hsr,t1,Yav (by omega),t2];rfl
 . rw[hsr,Yav (p:=x.2.length≠0) (by simp at t3;simp[t3])];simp
 . rw[hsr,t4];simp
 . have t5:x.2.length≠0:=by simp at t3;simpa using t3
   rw[hsr,t1,t2,t4,Yaz t5];simp
 . rw[hsr,Yav (p:=x.2.length≠0) (by simp at t3;simp[t3])];simp
 . rw[hsr,t4];simp
 . have t5:x.2.length≠0:=by simp at t3;simpa using t3
   rw[hsr,t1,t4,Yaz t5,Yaz (by omega:i.toNat=0)];simp
def X1J.e:GE:=mE X9R func74 [4] [X49.e,X1H.e] [] (λi x=>X1J.L x) (λi x=>X1J.F x) λi x h _ hw=>X1J.p x h hw
def X9P:Con:=cQ X5C [.one] .bool [(false,1)] (λa=>(X3C a)) λa=>(X0Q a)
def X2c.F(a0:(List U3q)):Prop:=eQ [(0,vL T5q a0),(5,vL T5q a0),(6,vI (ln a0))]/\srI a0 0/\∀(y1:Int),srI a0 y1->dC (y1<ln a0) (iB y1 a0 (Xgb (gA a0 y1 ([],[])).1/\∀r2,rU r2 (X6U (gA a0 y1 ([],[])).1)->X00 (!r2.1) (rE false (X0Q a0)) (True/\∀r3,rU r3 (X0N (gA a0 y1 ([],[])).2)->X00 (!r3.1) (rE false (X0Q a0)) (X00 (ln (gA a0 y1 ([],[])).2==0) (rE false (X0Q a0)) (dC (y1>0) (iB (wI (y1 - 1)) a0 (X00 (!Op.bytesLess (gA a0 (wI (y1 - 1)) ([],[])).1 (gA a0 y1 ([],[])).1) (rE false (X0Q a0)) (eQ [(0,vL T5q a0),(5,vL T5q a0),(6,vI (ln a0))]/\srI a0 (wI (y1+1))/\srM a0 (wI (y1+1))<srM a0 y1))) (eQ [(0,vL T5q a0),(5,vL T5q a0),(6,vI (ln a0))]/\srI a0 (wI (y1+1))/\srM a0 (wI (y1+1))<srM a0 y1)))))) (rE (decide (ln a0<=5)) (X0Q a0))
def X2c.L(a0:(List U3q)):Nat->Option X0f:=XLK [(26,⟨⟨[0,5,6],[7],[],[]⟩,(.int .i64),λst y=>srI a0 y,λst y=>srM a0 y⟩)]
theorem X2c.p(a0:(List U3q))(h:(X3C a0))(hw:Wf X9P.A a0):X2c.F a0:=by
 delta X2c.F ln wI dC eQ gA iB rE rU vI vL tN;have hw1:a0.length<=maxLen:=hw.1;unfold maxLen at hw1;simp only[YbN,Ybw,Ybm,X01,Yaa,Yaj,Yaw,YaS,Ybo];refine⟨⟨by omega,by omega,λj hj=>absurd hj (by simp)⟩,?_⟩;rintro i ⟨h2,h3,h4⟩;have fin:¬i<(a0.length:Int)->decide ((a0.length:Int)<=5)=X0Q a0:=λhi=>by
  have:XhU (XnN a0) a0.length=true:=XcR λj hj=>h4 j (by omega);simp[X0Q,this];omega
 refine⟨?_,fin⟩;intro hi;have e2:IntKind.wrap .i64 (i+1)=i+1:=Yau _ (by omega);have e1:IntKind.wrap .i64 (i - 1)=i - 1:=Yau _ (by omega);have e3:(i - 1).toNat=i.toNat - 1:=by omega
 rw[e1,e2,e3];have no:XnN a0 i.toNat=false->false=X0Q a0:=λhp=>Xvn (by omega) hp;have yes:XnN a0 i.toNat=true->srI a0 (i+1)/\srM a0 (i+1)<srM a0 i:=λhp=>⟨⟨by omega,by omega,Xci h2 h4 hp⟩,by unfold srM;omega⟩
 have hk:=Xsb h h2 hi;generalize hx:a0.getD i.toNat ([],[])=x at*;generalize hy:a0.getD (i.toNat - 1) ([],[])=y at*;have hsr:XnN a0 i.toNat=(X6U x.1&&((decide (i.toNat=0)||Op.bytesLess y.1 x.1)&&(decide (x.2.length≠0)&&X0N x.2))):=by unfold XnN;rw[hx,hy]
 refine⟨h2,hi,hk,λt1=>no (by rw[hsr,t1];rfl),λt1=>⟨λt4=>no ?_,λt4=>⟨λt3=>no ?_,λt3=>⟨λhp=>⟨by omega,by omega,λt2=>no ?_,λt2=>yes ?_⟩,λhp=>yes ?_⟩⟩⟩⟩
 . rw[hsr,t4];simp
 . rw[hsr,Yav (p:=x.2.length≠0) (by simp at t3;simp[t3])];simp
 . rw[hsr,t1,Yav (by omega),t2];rfl
 . have t5:x.2.length≠0:=by simp at t3;simpa using t3
   rw[hsr,t1,t2,t4,Yaz t5];simp
 . have t5:x.2.length≠0:=by simp at t3;simpa using t3
   rw[hsr,t1,t4,Yaz t5,Yaz (by omega:i.toNat=0)];simp
def X2c.e:GE:=mE X9P func128 [4] [X4j.e,X29.e] [] (λi x=>X2c.L x) (λi x=>X2c.F x) λi x h _ hw=>X2c.p x h hw
structure Xxt {K:Type} (lt:K->K->Bool):Prop where
 irr:∀a,lt a a=false
 tr:∀a b c,lt a b=true->lt b c=true->lt a c=true
 tri:∀a b,lt a b=true\/a=b\/lt b a=true
def Asc{K α:Type}(lt:K->K->Bool)(key:α->K)(l:List α):Prop:=l.Pairwise λx y=>lt (key x) (key y)=true
section
variable {K α:Type} {lt:K->K->Bool} {key:α->K}
theorem Xj1(o:Xxt lt):∀{l r:List α},Asc lt key l->Asc lt key r->(∀x,x∈l↔x∈r)->l=r
 | [],[],_,_,_=>rfl
 | [],y::r,_,_,h=>absurd ((h y).2 (by simp)) (by simp)
 | x::l,[],_,_,h=>absurd ((h x).1 (by simp)) (by simp)
 | x::l,y::r,hl,hr,h=>by
   obtain⟨h1,h2⟩:=YaT.1 hl;obtain⟨h3,h4⟩:=YaT.1 hr;have e:x=y:=by
    rcases Yak.1 ((h x).1 (by simp)) with e | hx
    . exact e
    . rcases Yak.1 ((h y).2 (by simp)) with e | hy
      . exact e.symm
      . have:=o.tr _ _ _ (h1 y hy) (h3 x hx);rw[o.irr]at this;cases this
   subst e;rw[Xj1 o h2 h4 λz=>⟨λhz=>?_,λhz=>?_⟩]
   . rcases Yak.1 ((h z).1 (by simp[hz])) with e | hz'
     . subst e;have:=h1 z hz;rw[o.irr]at this;cases this
     . exact hz'
   . rcases Yak.1 ((h z).2 (by simp[hz])) with e | hz'
     . subst e;have:=h3 z hz;rw[o.irr]at this;cases this
     . exact hz'
def pos(lt:K->K->Bool)(key:α->K)(k:K)(l:List α):Nat:=(l.takeWhile λx=>lt (key x) k).length
theorem Xne(k:K)(l:List α):pos lt key k l<=l.length:=by
 unfold pos
 induction l with
 | nil=>simp
 | cons x l ih=>rw[YbF];split<;>simp;omega
theorem Xss(k:K)(d:α):∀(l:List α) (i:Nat),i<pos lt key k l->lt (key (l.getD i d)) k=true
 | [],i,h=>by simp[pos]at h
 | x::l,i,h=>by
   unfold pos at h;rw[YbF]at h;split at h
   . rename_i hx;cases i with
     | zero=>simpa using hx
     | succ i=>simp at h;simpa using Xss k d l i h
   . simp at h
theorem XrO(k:K)(d:α):∀(l:List α),pos lt key k l<l.length->lt (key (l.getD (pos lt key k l) d)) k=false
 | [],h=>by simp at h
 | x::l,h=>by
   by_cases hx:lt (key x) k=true
   . have e:pos lt key k (x::l)=pos lt key k l+1:=by unfold pos;rw[YbF,Yah hx];rfl
     rw[e]at h ⊢;simp at h;simpa using XrO k d l h
   . have e:pos lt key k (x::l)=0:=by unfold pos;rw[YbF,Yae hx];rfl
     rw[e];simpa using hx
theorem Xpu{k:K}{l:List α}{i:Nat}(d:α)(hi:i<=l.length)(h1:∀j,j<i->lt (key (l.getD j d)) k=true)(h2:∀j,i<=j->j<l.length->lt (key (l.getD j d)) k=false):pos lt key k l=i:=by
 rcases YcT (pos lt key k l) i with h | h | h
 . have a:=h1 _ h;rw[XrO (lt:=lt) (key:=key) k d l (by omega)]at a;cases a
 . exact h
 . have a:=Xss (lt:=lt) (key:=key) k d l i h;have:=Xne (lt:=lt) (key:=key) k l;rw[h2 i (YaC _) (by omega)]at a;cases a
theorem X6g(d:α){l:List α}(h:Asc lt key l){i j:Nat}(hij:i<j)(hj:j<l.length):lt (key (l.getD i d)) (key (l.getD j d))=true:=by
 have:=Yb8.1 h i j (by omega) hj hij;rw[X0O (by omega),X0O hj];exact this
theorem Xf5{k:K}{l:List α}{x:α}(h:x∈l.take (pos lt key k l)):lt (key x) k=true:=by
 obtain⟨i,hi,e⟩:=YaM h;rw[Yal]at hi;have:=Xss (lt:=lt) (key:=key) k x l i (by omega);rw[X0O (by omega)]at this;rw[YcS]at e;rw[<-e];exact this
theorem Xi7(o:Xxt lt){k:K}{l:List α}(ha:Asc lt key l){x:α}(h:x∈l.drop (pos lt key k l)):lt (key x) k=false:=by
 obtain⟨i,hi,e⟩:=YaM h;rw[Yap]at hi;rw[List.getElem_drop]at e;have hp:pos lt key k l<l.length:=by omega
 have h0:=XrO (lt:=lt) (key:=key) k x l hp;cases i with
 | zero=>rw[X0O hp]at h0;rw[<-e];exact h0
 | succ i=>
   have h1:=X6g x ha (i:=pos lt key k l) (j:=pos lt key k l+(i+1)) (by omega) (by omega);rw[X0O (i:=pos lt key k l+(i+1)) (by omega)]at h1;rw[e]at h1;cases hx:lt (key x) k with
   | false=>rfl
   | true=>rw[o.tr _ _ _ h1 hx]at h0;cases h0
theorem XuB{l:List α}(h:Asc lt key l)(n:Nat):Asc lt key (l.take n):=Yce (List.take_sublist n l) h
theorem Xub{l:List α}(h:Asc lt key l)(n:Nat):Asc lt key (l.drop n):=Yce (List.drop_sublist n l) h
theorem XtK(o:Xxt lt){l:List α}(ha:Asc lt key l){p:α}(hp:∀x∈l,key x≠key p):Asc lt key (l.take (pos lt key (key p) l)++(p::l.drop (pos lt key (key p) l))):=by
 refine Ydb.2 ⟨XuB ha _,YaT.2 ⟨λx hx=>?_,Xub ha _⟩,λx hx y hy=>?_⟩
 . have h1:=Xi7 o ha hx;rcases o.tri (key x) (key p) with h | h | h
   . rw[h]at h1;cases h1
   . exact absurd h (hp x (Yda hx))
   . exact h
 . have h1:=Xf5 hx;rcases Yak.1 hy with e | hy
   . subst e;exact h1
   . have h2:=Xi7 o ha hy;rcases o.tri (key y) (key p) with h | h | h
     . rw[h]at h2;cases h2
     . exact absurd h (hp y (Yda hy))
     . exact o.tr _ _ _ h1 h
theorem XrE{l:List α}{n:Nat}{p x:α}:x∈l.take n++(p::l.drop n)↔x=p\/x∈l:=by
 conv=>rhs;rw[<-YaJ n l]
 simp only[Yaf,Yak];constructor
 . rintro (h | h | h)
   . exact .inr (.inl h)
   . exact .inl h
   . exact .inr (.inr h)
 . rintro (h | h | h)
   . exact .inr (.inl h)
   . exact .inl h
   . exact .inr (.inr h)
end
theorem Xnb:Xxt (λa b:Int=>decide (a<b)):=⟨λa=>by simp,λa b c h1 h2=>by simp at*;omega,λa b=>by simp;omega⟩
theorem X7T(a b:UInt8)(x y:List UInt8):Op.bytesLess (a::x) (b::y)=(decide (a<b)||(decide (a=b)&&Op.bytesLess x y)):=by
 simp only[Op.bytesLess];rw[show(a==b)=decide (a=b) from by rw[Ybq];simp]
theorem X71:Xxt Op.bytesLess:=by
 refine⟨λa=>?_,λa=>?_,λa=>?_⟩
 . induction a with
   | nil=>rfl
   | cons x a ih=>rw[X7T,ih];simp
 . induction a with
   | nil=>intro b c h1 h2;cases b with
     | nil=>simp[Op.bytesLess]at h1
     | cons y b=>cases c with
       | nil=>simp[Op.bytesLess]at h2
       | cons z c=>rfl
   | cons x a ih=>intro b c h1 h2;cases b with
     | nil=>simp[Op.bytesLess]at h1
     | cons y b=>cases c with
       | nil=>simp[Op.bytesLess]at h2
       | cons z c=>
         rw[X7T]at*;simp only[Ya5,Yac,Yaj]at*;rcases h1 with h1 | ⟨rfl,h1⟩
         . rcases h2 with h2 | ⟨rfl,h2⟩
           . exact .inl (UInt8.lt_trans h1 h2)
           . exact .inl h1
         . rcases h2 with h2 | ⟨rfl,h2⟩
           . exact .inl h2
           . exact .inr ⟨rfl,ih _ _ h1 h2⟩
 . induction a with
   | nil=>intro b;cases b with
     | nil=>exact .inr (.inl rfl)
     | cons y b=>exact .inl rfl
   | cons x a ih=>intro b;cases b with
     | nil=>exact .inr (.inr rfl)
     | cons y b=>
       rw[X7T,X7T];simp only[Ya5,Yac,Yaj];rcases YcT x.toNat y.toNat with h | h | h
       . exact .inl (.inl (Yb7.2 h))
       . have h:=Ydw.1 h;subst h;rcases ih b with h | rfl | h
         . exact .inl (.inr ⟨rfl,h⟩)
         . exact .inr (.inl rfl)
         . exact .inr (.inr (.inr ⟨rfl,h⟩))
       . exact .inr (.inr (.inl (Yb7.2 h)))
abbrev ltI(a b:Int):Bool:=decide (a<b)
abbrev Xk7(l:List Pt):Prop:=Asc ltI Prod.fst l
def Xqe(l:List Pt)(t:Int):Bool:=l.any λx=>decide (x.1=t)
theorem Xf9{l:List Pt}{t:Int}:Xqe l t=true↔∃x∈l,x.1=t:=by simp[Xqe]
def XmC(o:List Pt)(p:Pt):List Pt:=if Xqe o p.1 then o else o.take (pos ltI Prod.fst p.1 o)++(p::o.drop (pos ltI Prod.fst p.1 o))
theorem XlD{o:List Pt}(h:Xk7 o)(p:Pt):Xk7 (XmC o p):=by
 unfold XmC;split
 . exact h
 . rename_i hh;refine XtK Xnb h λx hx e=>hh (Xf9.2 ⟨x,hx,e⟩)
theorem Xeh{o:List Pt}{p x:Pt}:x∈XmC o p↔x∈o\/(x=p/\Xqe o p.1=false):=by
 unfold XmC;split
 . rename_i hh;simp[hh]
 . rename_i hh;rw[XrE];simp only[Yc0]at hh;simp[hh];exact Or.comm
theorem XjC(o:List Pt)(p:Pt):(XmC o p).length<=o.length+1:=by
 unfold XmC;split
 . omega
 . simp;omega
def XlQ(p:Pt):List Pt->List Pt
 | []=>[p]
 | x::l=>if p.1<=x.1 then p::(x::l).filter (λy=>!(y.1==p.1)) else x::XlQ p l
theorem Xm6{p x:Pt}:∀{l:List Pt},x∈XlQ p l↔x=p\/(x∈l/\x.1≠p.1)
 | []=>by simp[XlQ]
 | y::l=>by
   rw[XlQ];split
   . simp only[Yak,YbA,YaS,YbG,ne_eq]
   . rename_i h;simp only[Yak,Xm6 (l:=l)];have:y.1≠p.1:=by omega
     constructor
     . rintro (rfl | rfl | ⟨h1,h2⟩)
       . exact .inr ⟨.inl rfl,this⟩
       . exact .inl rfl
       . exact .inr ⟨.inr h1,h2⟩
     . rintro (rfl | ⟨rfl | h1,h2⟩)
       . exact .inr (.inl rfl)
       . exact .inl rfl
       . exact .inr (.inr ⟨h1,h2⟩)
theorem Xpd{p:Pt}:∀{l:List Pt},Xk7 l->Xk7 (XlQ p l)
 | [],_=>YcO _ _
 | y::l,h=>by
   obtain⟨h1,h2⟩:=YaT.1 h;rw[XlQ];split
   . rename_i hy;refine YaT.2 ⟨λx hx=>?_,Yce Ydd h⟩;simp only[YbA,Yak,YaS,YbG,ne_eq]at hx;obtain⟨hx,hne⟩:=hx;simp only[ltI,Yaj]at h1 ⊢;rcases hx with rfl | hx
     . omega
     . have:=h1 x hx;omega
   . rename_i hy;refine YaT.2 ⟨λx hx=>?_,Xpd h2⟩;rcases Xm6.1 hx with rfl | ⟨hx,_⟩
     . simp only[ltI,Yaj];omega
     . exact h1 x hx
theorem Xg6(p:Pt):∀l:List Pt,(XlQ p l).length<=l.length+1
 | []=>by simp[XlQ]
 | y::l=>by
   rw[XlQ];split
   . have:=Ycx (λy:Pt=>!(y.1==p.1)) (y::l);rw[Yad];omega
   . have:=Xg6 p l;simp only[Yad];omega
def X4r(a b:List Pt):List Pt:=b.foldl (λo p=>XlQ p o) a
theorem Xkh(a:List Pt)(p:Pt)(b:List Pt):X4r a (p::b)=X4r (XlQ p a) b:=rfl
theorem X8W:∀{b a:List Pt},Xk7 a->Xk7 (X4r a b)
 | [],_,h=>h
 | p::b,a,h=>X8W (b:=b) (Xpd h)
theorem X48{x:Pt}:∀{b a:List Pt},Xk7 b->(x∈X4r a b↔x∈b\/(x∈a/\∀y∈b,y.1≠x.1))
 | [],a,_=>by simp[X4r]
 | p::b,a,h=>by
   obtain⟨h1,h2⟩:=YaT.1 h;rw[Xkh,X48 h2,Xm6];have hp:∀y∈b,y.1≠p.1:=λy hy=>by have:=h1 y hy;simp only[ltI,Yaj]at this;omega
   constructor
   . rintro (h3 | ⟨rfl | ⟨h3,h4⟩,h5⟩)
     . exact .inl (by simp[h3])
     . exact .inl (by simp)
     . exact .inr ⟨h3,λy hy=>by
        rcases Yak.1 hy with rfl | hy
        . exact λe=>h4 e.symm
        . exact h5 y hy⟩
   . rintro (h3 | ⟨h3,h4⟩)
     . rcases Yak.1 h3 with rfl | h3
       . exact .inr ⟨.inl rfl,hp⟩
       . exact .inl h3
     . exact .inr ⟨.inr ⟨h3,λe=>h4 p (by simp) e.symm⟩,λy hy=>h4 y (by simp[hy])⟩
theorem XdK:∀(b a:List Pt),(X4r a b).length<=a.length+b.length
 | [],a=>by simp[X4r]
 | p::b,a=>by
   have h1:=XdK b (XlQ p a);have h2:=Xg6 p a;rw[Xkh,Yad];omega
theorem Xgk:∀{a b:List Pt},Xk7 b->Xk7 (a.foldl XmC b)
 | [],_,h=>h
 | p::a,b,h=>Xgk (a:=a) (XlD h p)
theorem XgU{x:Pt}:∀{a b:List Pt},Xk7 a->(x∈a.foldl XmC b↔x∈b\/(x∈a/\Xqe b x.1=false))
 | [],b,_=>by simp
 | p::a,b,h=>by
   obtain⟨h1,h2⟩:=YaT.1 h;rw[Ybr,XgU h2,Xeh];have hp:∀y∈a,y.1≠p.1:=λy hy=>by have:=h1 y hy;simp only[ltI,Yaj]at this;omega
   have key:∀y∈a,(Xqe (XmC b p) y.1=false↔Xqe b y.1=false):=λy hy=>by
    rw[<-Yc0,<-Yc0,Xf9,Xf9];refine not_congr ⟨λ⟨z,hz,e⟩=>?_,λ⟨z,hz,e⟩=>⟨z,Xeh.2 (.inl hz),e⟩⟩;rcases Xeh.1 hz with hz | ⟨rfl,_⟩
    . exact⟨z,hz,e⟩
    . exact absurd e.symm (hp y hy)
   constructor
   . rintro ((h3 | ⟨rfl,h3⟩) | ⟨h3,h4⟩)
     . exact .inl h3
     . exact .inr ⟨by simp,h3⟩
     . exact .inr ⟨by simp[h3],(key x h3).1 h4⟩
   . rintro (h3 | ⟨h3,h4⟩)
     . exact .inl (.inl h3)
     . rcases Yak.1 h3 with rfl | h3
       . exact .inl (.inr ⟨rfl,h4⟩)
       . exact .inr ⟨h3,(key x h3).2 h4⟩
theorem Xtq{a b:List Pt}(ha:Xk7 a)(hb:Xk7 b):a.foldl XmC b=X4r a b:=by
 refine Xj1 Xnb (Xgk hb) (X8W ha) λx=>?_;rw[XgU ha,X48 hb,<-Yc0,Xf9];refine or_congr Yc8 (and_congr Yc8 ⟨λh y hy e=>h ⟨y,hy,e⟩,λh ⟨y,hy,e⟩=>h y hy e⟩)
def XfB(l:List Pt):Prop:=Xk7 l/\∀x∈l,0<=x.1/\x.1<=1099511627776
theorem Xee{l:List Pt}(h:X0N l=true):XfB l/\l.length<=60:=by
 simp only[X0N,Yac,Yaj,XhU,Ya7,YbV]at h;obtain⟨h1,h2⟩:=h;have hb:∀i,i<l.length->(0<=(l.getD i (0,0)).1/\(l.getD i (0,0)).1<=1099511627776)/\(i=0\/(l.getD (i - 1) (0,0)).1<(l.getD i (0,0)).1):=λi hi=>by
  have:=h2 i hi;simp only[Xig,Yac,Ya5,Yaj,fIn]at this;exact⟨this.1,this.2.2⟩
 refine⟨⟨?_,λx hx=>?_⟩,h1⟩
 . have hs:∀(d:Nat) (i:Nat),i+d+1<l.length->(l.getD i (0,0)).1<(l.getD (i+d+1) (0,0)).1:=by
    intro d
    induction d with
    | zero=>intro i hi;have:=(hb (i+1) hi).2;simp at this;exact this
    | succ d ih=>
      intro i hi;have a:=ih i (by omega);have c:=(hb (i+(d+1)+1) hi).2;simp only[Yct]at c;rcases c with c | c
      . omega
      . exact Int.lt_trans a c
   refine Yb8.2 λi j hi hj hij=>?_;have:=hs (j - i - 1) i (by omega);rw[show i+(j - i - 1)+1=j by omega,X0O hi,X0O hj]at this;simpa using this
 . obtain⟨i,hi,e⟩:=YaM hx;have:=(hb i hi).1;rw[X0O hi,e]at this;exact this
theorem XqT{a b:List Pt}(ha:XfB a)(hb:XfB b):XfB (X4r a b):=⟨X8W ha.1,λx hx=>by
 rcases(X48 hb.1).1 hx with h | ⟨h,_⟩
 . exact hb.2 x h
 . exact ha.2 x h⟩
def X25(l:List Pt)(lo hi:Int):List Pt:=l.filter λp=>decide (lo<=p.1)&&decide (p.1<hi)
theorem Xfz{l:List Pt}{lo hi:Int}{x:Pt}:x∈X25 l lo hi↔x∈l/\lo<=x.1/\x.1<hi:=by simp[X25]
theorem XhD{l:List Pt}(h:Xk7 l)(lo hi:Int):Xk7 (X25 l lo hi):=Yce Ydd h
abbrev Xht(l:List Ser):Prop:=Asc Op.bytesLess Prod.fst l
def X99(l:List Ser)(k:List UInt8):Bool:=l.any λx=>decide (x.1=k)
theorem X7X{l:List Ser}{k:List UInt8}:X99 l k=true↔∃x∈l,x.1=k:=by simp[X99]
def X50(l:List Ser)(k:List UInt8):List Pt:=match l.find? λx=>decide (x.1=k) with
 | some x=>x.2
 | none=>[]
theorem XmH(k:List UInt8):X50 [] k=[]:=rfl
theorem X3p(x:Ser)(l:List Ser)(k:List UInt8):X50 (x::l) k=if x.1=k then x.2 else X50 l k:=by
 unfold X50;rw[List.find?_cons];by_cases h:x.1=k<;>simp[h]
theorem Xfk{l:List Ser}{k:List UInt8}(h:X99 l k=false):X50 l k=[]:=by
 induction l with
 | nil=>rfl
 | cons x l ih=>
   simp only[X99,List.any_cons,Ycz,Yaw]at h;rw[X3p,Yae h.1];exact ih h.2
theorem XeI{l:List Ser}(h:Xht l){x:Ser}:x∈l↔X99 l x.1=true/\X50 l x.1=x.2:=by
 induction l with
 | nil=>simp[X99]
 | cons y l ih=>
   obtain⟨h1,h2⟩:=YaT.1 h;rw[Yak,ih h2,X3p,X7X,X7X];constructor
   . rintro (rfl | ⟨⟨z,hz,e⟩,h4⟩)
     . exact⟨⟨x,by simp,rfl⟩,by simp⟩
     . have:y.1≠x.1:=λe2=>by have:=h1 z hz;rw[e,<-e2,X71.irr]at this;cases this
       exact⟨⟨z,by simp[hz],e⟩,by rw[Yae this];exact h4⟩
   . rintro⟨⟨z,hz,e⟩,h4⟩;by_cases hy:y.1=x.1
     . rw[Yah hy]at h4;exact .inl (Prod.ext hy.symm h4.symm)
     . rw[Yae hy]at h4;rcases Yak.1 hz with rfl | hz
       . exact absurd e hy
       . exact .inr ⟨⟨z,hz,e⟩,h4⟩
theorem Xme{l r:List Ser}(hl:Xht l)(hr:Xht r)(h1:∀k,X99 l k=X99 r k)(h2:∀k,X50 l k=X50 r k):l=r:=
 Xj1 X71 hl hr λx=>by rw[XeI hl,XeI hr,h1,h2]
theorem XrD{l:List Ser}{k:List UInt8}{p:Pt}(h:p∈X50 l k):∃x∈l,x.1=k/\p∈x.2:=by
 induction l with
 | nil=>cases h
 | cons x l ih=>
   rw[X3p]at h;split at h
   . exact⟨x,by simp,‹_›,h⟩
   . obtain⟨y,hy,e⟩:=ih h;exact⟨y,by simp[hy],e⟩
theorem XlW{l:List Ser}(h:∀x∈l,XfB x.2)(k:List UInt8):XfB (X50 l k):=by
 induction l with
 | nil=>exact⟨List.Pairwise.nil,λx hx=>by cases hx⟩
 | cons x l ih=>
   rw[X3p];split
   . exact h x (by simp)
   . exact ih λy hy=>h y (by simp[hy])
theorem Xgg(a:List Pt):X4r a []=a:=rfl
theorem XmU{b:List Pt}(h:Xk7 b):X4r [] b=b:=Xj1 Xnb (X8W List.Pairwise.nil) h λx=>by rw[X48 h];simp
def Xjb(l:List Ser)(s:Ser):List Ser:=if X99 l s.1 then l.set (pos Op.bytesLess Prod.fst s.1 l) ((l.getD (pos Op.bytesLess Prod.fst s.1 l) ([],[])).1,X4r (l.getD (pos Op.bytesLess Prod.fst s.1 l) ([],[])).2 s.2)
 else l.take (pos Op.bytesLess Prod.fst s.1 l)++(s::l.drop (pos Op.bytesLess Prod.fst s.1 l))
theorem Xhj{l:List Ser}(ha:Xht l){k:List UInt8}(h:X99 l k=true):pos Op.bytesLess Prod.fst k l<l.length/\(l.getD (pos Op.bytesLess Prod.fst k l) ([],[])).1=k:=by
 obtain⟨x,hx,e⟩:=X7X.1 h;obtain⟨i,hi,e2⟩:=YaM hx;have hg:(l.getD i ([],[])).1=k:=by rw[X0O hi,e2];exact e
 have hp:pos Op.bytesLess Prod.fst k l=i:=by
  refine Xpu ([],[]) (Nat.le_of_lt hi) (λj hj=>?_) (λj hj hjl=>?_)
  . have:=X6g ([],[]) ha hj hi;rw[hg]at this;exact this
  . rcases Nat.lt_or_eq_of_le hj with hj | rfl
    . have:=X6g ([],[]) ha hj hjl;rw[hg]at this;cases hx2:Op.bytesLess (l.getD j ([],[])).1 k with
      | false=>rfl
      | true=>have:=X71.tr _ _ _ this hx2;rw[X71.irr]at this;cases this
    . rw[hg];exact X71.irr _
 rw[hp];exact⟨hi,hg⟩
theorem XmF{α:Type}(l:List α)(i:Nat)(d y:α)(h:i<l.length):l=l.take i++l.getD i d::l.drop (i+1)/\l.set i y=l.take i++y::l.drop (i+1):=by
 refine⟨?_,by rw[YcX,Yah h]⟩
 conv=>lhs;rw[<-YaJ i l,X3J d h]
theorem X9w(x:Ser)(b:List Ser)(k:List UInt8):X99 (x::b) k=(decide (x.1=k)||X99 b k):=by simp[X99]
theorem Xcv(a b:List Ser)(k:List UInt8):X50 (a++b) k=if X99 a k then X50 a k else X50 b k:=by
 induction a with
 | nil=>simp[X99]
 | cons x a ih=>
   rw[Ybc,X3p,X3p,ih,X9w];by_cases h:x.1=k
   . simp[h]
   . simp[h]
theorem XjO(a b:List Ser)(k:List UInt8):X99 (a++b) k=(X99 a k||X99 b k):=by simp[X99]
theorem Xwc{a b:List Ser}{x y:Ser}(h:Xht (a++x::b))(e:y.1=x.1):Xht (a++y::b):=by
 simp only[Xht,Asc,Ydb,YaT,Yak]at h ⊢;obtain⟨h1,⟨h2,h3⟩,h4⟩:=h;refine⟨h1,⟨λz hz=>by rw[e];exact h2 z hz,h3⟩,λp hp q hq=>?_⟩;rcases hq with rfl | hq
 . rw[e];exact h4 p hp x (.inl rfl)
 . exact h4 p hp q (.inr hq)
theorem Xji{l:List Ser}(ha:Xht l){s:Ser}(hs:Xk7 s.2):Xht (Xjb l s)/\(∀k,X99 (Xjb l s) k=(X99 l k||decide (s.1=k)))/\∀k,X50 (Xjb l s) k=if s.1=k then X4r (X50 l k) s.2 else X50 l k:=by
 unfold Xjb;split
 . rename_i h;obtain⟨h1,h2⟩:=Xhj ha h;generalize pos Op.bytesLess Prod.fst s.1 l=i at*;obtain⟨e1,e2⟩:=XmF l i ([],[]) ((l.getD i ([],[])).1,X4r (l.getD i ([],[])).2 s.2) h1;rw[e2];generalize l.getD i ([],[])=x at*;generalize l.take i=a at*;generalize l.drop (i+1)=b at*;subst e1;refine⟨Xwc ha rfl,λk=>?_,λk=>?_⟩
   . simp only[XjO,X9w,h2];cases X99 a k<;>cases decide (s.1=k)<;>cases X99 b k<;>rfl
   . rw[Xcv,Xcv,X3p,X3p];simp only[h2];by_cases hk:s.1=k
     . subst hk;have hna:X99 a s.1=false:=by
        rw[Ybn];intro hh;obtain⟨z,hz,e⟩:=X7X.1 hh;have:=(Ydb.1 ha).2.2 z hz x (by simp);rw[e,h2,X71.irr]at this;cases this
       simp[hna]
     . simp[hk]
 . rename_i h;have hno:X99 l s.1=false:=by simpa using h
   have hp:∀x∈l,x.1≠s.1:=λx hx e=>by rw[X7X.2 ⟨x,hx,e⟩]at hno;cases hno
   refine⟨XtK X71 ha hp,λk=>?_,λk=>?_⟩
   . conv=>rhs;rw[<-YaJ (pos Op.bytesLess Prod.fst s.1 l) l]
     simp only[XjO,X9w];cases X99 (l.take (pos Op.bytesLess Prod.fst s.1 l)) k<;>cases decide (s.1=k)<;>cases X99 (l.drop (pos Op.bytesLess Prod.fst s.1 l)) k<;>rfl
   . have e0:=Xcv (l.take (pos Op.bytesLess Prod.fst s.1 l)) (l.drop (pos Op.bytesLess Prod.fst s.1 l)) k;rw[YaJ]at e0;rw[Xcv,X3p,e0];by_cases hk:s.1=k
     . subst hk;have hna:X99 (l.take (pos Op.bytesLess Prod.fst s.1 l)) s.1=false:=by
        rw[Ybn];intro hh;obtain⟨z,hz,e⟩:=X7X.1 hh;exact hp z (List.mem_of_mem_take hz) e
       have hnb:X99 (l.drop (pos Op.bytesLess Prod.fst s.1 l)) s.1=false:=by
        rw[Ybn];intro hh;obtain⟨z,hz,e⟩:=X7X.1 hh;exact hp z (Yda hz) e
       simp[hna,Xfk hnb,XmU hs]
     . simp[hk]
def Xdr(l:List Ser):Prop:=Xht l/\∀x∈l,XfB x.2
def cS(x:Ser):Int:=(x.2.length:Int)+1
theorem XrZ(x:Ser):0<=cS x:=by unfold cS;omega
def tot(l:List Ser):Int:=cL cS l
theorem XeD(l:List Ser):0<=tot l:=X4c XrZ l
theorem Xbc(l:List Ser):(l.length:Int)<=tot l:=by
 unfold tot
 induction l with
 | nil=>simp[cL]
 | cons x l ih=>have e:cS x=(x.2.length:Int)+1:=rfl;rw[X4C,Yad];omega
theorem Xg0{l:List Ser}{x:Ser}(h:x∈l):(x.2.length:Int)+1<=tot l:=by
 induction l with
 | nil=>cases h
 | cons y l ih=>
   have h1:=XeD l;have h2:=XrZ y;unfold tot at*;rw[X4C];rcases Yak.1 h with rfl | h
   . have e:cS x=(x.2.length:Int)+1:=rfl;omega
   . have:=ih h;omega
theorem Xmd{l:List Ser}{s x:Ser}(h:x∈Xjb l s):x∈l\/x=s\/∃y∈l,x=(y.1,X4r y.2 s.2):=by
 unfold Xjb at h;split at h
 . rename_i hh;rcases List.mem_or_eq_of_mem_set h with h | h
   . exact .inl h
   . by_cases hi:pos Op.bytesLess Prod.fst s.1 l<l.length
     . exact .inr (.inr ⟨_,X10 hi,h⟩)
     . rw[List.set_eq_of_length_le (by omega)]at*;exact .inl ‹_›
 . rcases XrE.1 h with h | h
   . exact .inr (.inl h)
   . exact .inl h
theorem XrQ{l:List Ser}(h:Xdr l){s:Ser}(hs:XfB s.2):Xdr (Xjb l s):=⟨(Xji h.1 hs.1).1,λx hx=>by
 rcases Xmd hx with hx | rfl | ⟨y,hy,rfl⟩
 . exact h.2 x hx
 . exact hs
 . exact XqT (h.2 y hy) hs⟩
theorem Xpk{l:List Ser}(ha:Xht l)(s:Ser):tot (Xjb l s)<=tot l+cS s:=by
 unfold Xjb;split
 . rename_i h;obtain⟨h1,_⟩:=Xhj ha h;generalize pos Op.bytesLess Prod.fst s.1 l=i at*;obtain⟨e1,e2⟩:=XmF l i ([],[]) ((l.getD i ([],[])).1,X4r (l.getD i ([],[])).2 s.2) h1;rw[e2];have hl:=XdK s.2 (l.getD i ([],[])).2;generalize l.getD i ([],[])=x at*;generalize l.take i=a at*;generalize l.drop (i+1)=b at*;subst e1;unfold tot;simp only[XdE,X4C,cS];omega
 . have e0:tot l=cL cS (l.take (pos Op.bytesLess Prod.fst s.1 l))+cL cS (l.drop (pos Op.bytesLess Prod.fst s.1 l)):=by
    rw[<-XdE,YaJ];rfl
   rw[e0];unfold tot;simp only[XdE,X4C];omega
def X4R(l top:List Ser):List Ser:=top.foldl Xjb l
theorem XhA(l:List Ser)(s:Ser)(t:List Ser):X4R l (s::t)=X4R (Xjb l s) t:=rfl
theorem X7M:∀{t l:List Ser},Xdr l->(∀x∈t,XfB x.2)->Xdr (X4R l t)
 | [],_,h,_=>h
 | s::t,l,h,ht=>X7M (t:=t) (XrQ h (ht s (by simp))) λx hx=>ht x (by simp[hx])
theorem Xdg:∀{t l:List Ser},Xdr l->(∀x∈t,XfB x.2)->tot (X4R l t)<=tot l+tot t
 | [],_,_,_=>by simp[X4R,tot,cL]
 | s::t,l,h,ht=>by
   have h1:=Xdg (t:=t) (XrQ h (ht s (by simp))) λx hx=>ht x (by simp[hx]);have h2:=Xpk h.1 s;have h3:tot (s::t)=cS s+tot t:=X4C ..;rw[XhA];omega
theorem X7Q:∀{t l:List Ser},Xht l->(∀x∈t,Xk7 x.2)->Xht t->∀k,X50 (X4R l t) k=X4r (X50 l k) (X50 t k)
 | [],_,_,_,_,k=>rfl
 | s::t,l,h,ht,ha,k=>by
   obtain⟨h1,h2⟩:=YaT.1 ha;obtain⟨a1,a2,a3⟩:=Xji h (ht s (by simp));rw[XhA,X7Q a1 (λx hx=>ht x (by simp[hx])) h2,a3,X3p];by_cases hk:s.1=k
   . subst hk;have:X50 t s.1=[]:=Xfk (by
      rw[Ybn];intro hh;obtain⟨z,hz,e⟩:=X7X.1 hh;have:=h1 z hz;rw[e,X71.irr]at this;cases this)
     rw[Yah rfl,Yah rfl,this,Xgg]
   . rw[Yae hk,Yae hk]
def X15(l:List Ser)(f:Int):List Ser:=(l.map λx=>(x.1,X25 x.2 f 1099511627777)).filter λx=>!x.2.isEmpty
theorem Xhs(lo hi:Int):X25 [] lo hi=[]:=rfl
theorem X5O{l:List Ser}(h:Xht l)(f:Int):Xht (X15 l f):=by
 refine Yce Ydd ?_;exact Ydn.2 h
theorem X4U{l:List Ser}(h:Xht l)(f:Int)(k:List UInt8):X50 (X15 l f) k=X25 (X50 l k) f 1099511627777/\X99 (X15 l f) k=!(X25 (X50 l k) f 1099511627777).isEmpty:=by
 induction l with
 | nil=>exact⟨rfl,rfl⟩
 | cons x l ih=>
   obtain⟨h1,h2⟩:=YaT.1 h;obtain⟨i1,i2⟩:=ih h2;have hx:x.1=k->X99 l k=false:=λe=>by
    rw[Ybn];intro hh;obtain⟨z,hz,e2⟩:=X7X.1 hh;have:=h1 z hz;rw[e,e2,X71.irr]at this;cases this
   have e0:X15 (x::l) f=if (X25 x.2 f 1099511627777).isEmpty then X15 l f else(x.1,X25 x.2 f 1099511627777)::X15 l f:=by
    unfold X15;rw[Yas,Yc1];cases (X25 x.2 f 1099511627777).isEmpty<;>rfl
   rw[e0,X3p];by_cases hk:x.1=k
   . have hn:=Xfk (hx hk);rw[Yah hk];cases he:(X25 x.2 f 1099511627777).isEmpty with
     | true=>
       rw[Yah rfl,i1,i2,hn,Xhs];refine⟨(Yc4.1 he).symm,rfl⟩
     | false=>
       rw[Yae (by decide),X3p,Yah hk,X9w];exact⟨rfl,by simp[hk]⟩
   . rw[Yae hk];cases he:(X25 x.2 f 1099511627777).isEmpty with
     | true=>rw[Yah rfl];exact⟨i1,i2⟩
     | false=>rw[Yae (by decide),X3p,Yae hk,X9w,i1,i2];simp[hk]
theorem Xlj{l:List Ser}{f:Int}{x:Ser}(h:x∈X15 l f):∃y∈l,x=(y.1,X25 y.2 f 1099511627777):=by
 obtain⟨y,hy,e⟩:=YaN.1 (YbA.1 h).1;exact⟨y,hy,e.symm⟩
theorem Xxa{l:List Pt}(h:XfB l)(lo hi:Int):XfB (X25 l lo hi):=⟨XhD h.1 lo hi,λx hx=>h.2 x (Xfz.1 hx).1⟩
theorem Xpj{l:List Ser}(h:Xdr l)(f:Int):Xdr (X15 l f):=⟨X5O h.1 f,λx hx=>by
 obtain⟨y,hy,rfl⟩:=Xlj hx;exact Xxa (h.2 y hy) _ _⟩
theorem XlF(l:List Pt)(lo hi:Int):(X25 l lo hi).length<=l.length:=Ycx ..
theorem XkJ:∀(l:List Ser) (f:Int),tot (X15 l f)<=tot l
 | [],f=>by simp[X15,tot,cL]
 | x::l,f=>by
   have h1:=XkJ l f;have h2:=XlF x.2 f 1099511627777;have e0:X15 (x::l) f=if (X25 x.2 f 1099511627777).isEmpty then X15 l f else(x.1,X25 x.2 f 1099511627777)::X15 l f:=by
    unfold X15;rw[Yas,Yc1];cases (X25 x.2 f 1099511627777).isEmpty<;>rfl
   have h3:tot (x::l)=cS x+tot l:=X4C ..;have h4:tot ((x.1,X25 x.2 f 1099511627777)::X15 l f)=cS (x.1,X25 x.2 f 1099511627777)+tot (X15 l f):=X4C ..;have h5:=XrZ x;rw[e0];split
   . omega
   . rw[h4];simp only[cS]at*;omega
def X4x(ls:List (List Ser)):List Ser:=ls.foldl X4R []
def XvU(ls:List (List Ser))(k:List UInt8):List Pt:=ls.foldl (λo l=>X4r o (X50 l k)) []
theorem Xhr:∀(ls:List (List Ser)) (l:List Ser),Xdr l->(∀x∈ls,Xdr x)->∀k,X50 (ls.foldl X4R l) k=ls.foldl (λo l=>X4r o (X50 l k)) (X50 l k)
 | [],l,_,_,k=>rfl
 | t::ls,l,h,ht,k=>by
   have ht0:=ht t (by simp);rw[Ybr,Ybr,Xhr ls (X4R l t) (X7M h ht0.2) (λx hx=>ht x (by simp[hx])),X7Q h.1 (λx hx=>(ht0.2 x hx).1) ht0.1]
theorem XdW:∀(ls:List (List Ser)) (l:List Ser),Xdr l->(∀x∈ls,Xdr x)->Xdr (ls.foldl X4R l)
 | [],l,h,_=>h
 | t::ls,l,h,ht=>XdW ls (X4R l t) (X7M h (ht t (by simp)).2) λx hx=>ht x (by simp[hx])
theorem Xgv:Xdr []:=⟨List.Pairwise.nil,λx hx=>by cases hx⟩
theorem X3i{l:List Ser}(h:X0Q l=true):Xdr l/\tot l<=305/\l.length<=5/\∀x∈l,x.1.length<=8/\x.2≠[]/\X0N x.2=true:=by
 simp only[X0Q,Yac,Yaj,XhU,Ya7,YbV]at h;obtain⟨h5,h⟩:=h;have hx:∀i,i<l.length->(l.getD i ([],[])).1.length<=8/\(i=0\/Op.bytesLess (l.getD (i - 1) ([],[])).1 (l.getD i ([],[])).1=true)/\(l.getD i ([],[])).2≠[]/\X0N (l.getD i ([],[])).2=true:=λi hi=>by
  have:=h i hi;simp only[XnN,Yac,Ya5,Yaj,X6U,fIn]at this;refine⟨by omega,this.2.1,λe=>?_,this.2.2.2⟩;rw[e]at this;simp at this
 have hm:∀x∈l,x.1.length<=8/\x.2≠[]/\X0N x.2=true:=λx hxl=>by
  obtain⟨i,hi,e⟩:=YaM hxl;have:=hx i hi;rw[X0O hi,e]at this;exact⟨this.1,this.2.2⟩
 refine⟨⟨?_,λx hxl=>(Xee (hm x hxl).2.2).1⟩,?_,h5,hm⟩
 . have hs:∀(d:Nat) (i:Nat),i+d+1<l.length->Op.bytesLess (l.getD i ([],[])).1 (l.getD (i+d+1) ([],[])).1=true:=by
    intro d
    induction d with
    | zero=>intro i hi;have:=(hx (i+1) hi).2.1;simp at this;simpa using this
    | succ d ih=>
      intro i hi;have a:=ih i (by omega);have c:=(hx (i+(d+1)+1) hi).2.1;simp only[Yct]at c;rcases c with c | c
      . omega
      . exact X71.tr _ _ _ a c
   refine Yb8.2 λi j hi hj hij=>?_;have:=hs (j - i - 1) i (by omega);rw[show i+(j - i - 1)+1=j by omega,X0O hi,X0O hj]at this;exact this
 . have:∀l:List Ser,(∀x∈l,X0N x.2=true)->tot l<=61*l.length:=λl=>by
    induction l with
    | nil=>intro _;simp[tot,cL]
    | cons x l ih=>
      intro hh;have h1:=ih λy hy=>hh y (by simp[hy]);have h2:=(Xee (hh x (by simp))).2;have h3:tot (x::l)=cS x+tot l:=X4C ..;rw[h3,Yad];simp only[cS];omega
   have:=this l λx hxl=>(hm x hxl).2.2;omega
theorem wu64{x:Int}(h:0<=x)(h':x<=18446744073709551615):IntKind.wrap .u64 x=x:=Go.IntWalk.u64_in _ ⟨h,h'⟩
def Xk1(l:List Pt):Prop:=l.length<=1099511627776
def Xrm(l:List Pt):List Pt:=l
def Xik(x:Pt)(t:Int):Int:=IntKind.wrap .i64 (x.1 - t)
def pBs(l:List Pt)(t:Int)(u:Unit):Prop:=XfB l/\0<=t/\t<=1099511627776/\l.length<=1099511627776
def fBs(l:List Pt)(t:Int)(u:Unit):Int×Bool:=((pos ltI Prod.fst t l:Nat),Xqe l t)
structure bsI (l:List Pt) (t:Int) (u:Unit) (i j:Int):Prop where
 h1:0<=i
 h2:i<=j
 h3:j<=l.length
 h4:∀k,k<i.toNat->ltI (l.getD k (0,0)).1 t=true
 h5:∀k,j.toNat<=k->k<l.length->ltI (l.getD k (0,0)).1 t=false
def bsM(l:List Pt)(t:Int)(u:Unit)(i j:Int):Nat:=(j - i).toNat
theorem Xqs{l:List Pt}(h:XfB l){i:Nat}(hi:i<l.length):0<=(l.getD i (0,0)).1/\(l.getD i (0,0)).1<=1099511627776:=h.2 _ (X10 hi)
theorem Xx9{l:List Pt}{t:Int}{u:Unit}{i j k:Int}(h:XfB l)(hI:bsI l t u i j)(h1:i<=k)(h2:k<j)(hk:(l.getD k.toNat (0,0)).1<t):bsI l t u (k+1) j:=by
 obtain⟨q1,q2,q3,q4,q5⟩:=hI;refine⟨by omega,by omega,q3,λx hx=>?_,q5⟩;by_cases e:x=k.toNat
 . subst e;simpa using hk
 . have:=X6g (0,0) h.1 (i:=x) (j:=k.toNat) (by omega) (by omega);simp only[ltI,Yaj]at this ⊢;omega
theorem Xw6{l:List Pt}{t:Int}{u:Unit}{i j k:Int}(h:XfB l)(hI:bsI l t u i j)(h1:i<=k)(h2:k<j)(hk:¬(l.getD k.toNat (0,0)).1<t):bsI l t u i k:=by
 obtain⟨q1,q2,q3,q4,q5⟩:=hI;refine⟨q1,h1,by omega,q4,λx hx hl=>?_⟩;by_cases e:x=k.toNat
 . subst e;simpa using hk
 . have:=X6g (0,0) h.1 (i:=k.toNat) (j:=x) (by omega) hl;simp only[ltI,Yaj,Yaw]at this ⊢;omega
theorem Xqj{l:List Pt}{t:Int}{u:Unit}{i j:Int}(h:XfB l)(hI:bsI l t u i j)(hij:¬i<j):pos ltI Prod.fst t l=i.toNat/\Xqe l t=(decide (i<l.length)&&decide ((l.getD i.toNat (0,0)).1=t)):=by
 obtain⟨q1,q2,q3,q4,q5⟩:=hI;have e:i=j:=by omega
 subst e;refine⟨Xpu (0,0) (by omega) q4 q5,?_⟩;rw[Ybq,Xf9,Yac,Yaj,Yaj];constructor
 . rintro⟨x,hx,hxt⟩;obtain⟨k,hk,e⟩:=YaM hx;rw[<-X0O (d:=(0,0)) hk]at e;have a1:¬k<i.toNat:=λhh=>by have:=q4 k hh;rw[e]at this;simp at this;omega
   have a2:¬i.toNat<k:=λhh=>by
    have:=X6g (0,0) h.1 hh hk;have a3:=q5 i.toNat (YaC _) (by omega);simp only[ltI,Yaj,Yaw]at this a3;rw[e]at this;omega
   have a4:k=i.toNat:=by omega
   subst a4;exact⟨by omega,by rw[e];exact hxt⟩
 . rintro⟨h1,h2⟩;exact⟨_,X10 (by omega),h2⟩
theorem half{a:Int}(h:0<=a)(h2:a<=4611686018427387904):Int.fdiv a (2 ^ min (Int.toNat 1) (IntKind.bits .u64))=a / 2:=by
 rw[show(2 ^ min (Int.toNat 1) (IntKind.bits .u64):Int)=2 from by decide];exact YcC _ (by decide)
def X23:Con:=cW X7N [.one] X7N [(false,1)] [(0,112)] (λa=>(Xk1 a)) λa=>(Xrm a)
def X0g.F(a0:U8q):Prop:=∀(b1:Bool),(b1=true->a0=[])->X00 b1 (Eq (([]:U8q),(),()) (Xrm a0,(),())) (List.length ([]:List (Int×Int))+List.length a0<=9223372036854775807/\(List.length ([]:List (Int×Int))+List.length a0)*16<=140737488355328/\Eq (([]:List (Int×Int))++a0,(),()) (Xrm a0,(),()))
theorem X0g.p(a0:U8q)(h:(Xk1 a0))(hw:Wf X23.A a0):X0g.F a0:=by
 unfold X0g.F;have hp:a0.length<=1099511627776:=h;simp only[Bs,B0,B1,Yaa,X01,Xrm,Xk1]
 repeat' (with_reducible (first | (refine And.intro ?_ ?_) | intro _))
 all_goals (try simp (disch:=omega) only[w64,wu8,tn0,tn1,tm1,tm2,Yab,Yad,Yai]at*)
 all_goals (try simp (disch:=omega) only[w64,wu8,tn0,tn1,tm1,tm2,Yab,Yad,Yai]at*)
 all_goals (try omega)
 all_goals (try grind[])
 all_goals (try simp_all)
def X0g.e:GE:=mE X23 func165 [113] [] [] noL (λi x=>X0g.F x) λi x h _ hw=>X0g.p x h hw
def X9l:Con:=cQ (.pair T0q (.int .i64)) [.agg 2,.one] (.int .i64) [(false,1)] (λ_=>True) λa=>(Xik a.1 a.2)
def X3c.F(a0:(Int×Int))(a1:Int):Prop:=Eq (wI (a0.1 - a1),(),()) (Xik a0 a1,(),())
theorem X3c.p(a0:(Int×Int))(a1:Int)(h:True)(hw:Wf X9l.A (a0,a1)):X3c.F a0 a1:=by
 delta X3c.F wI;simp only[Bs,B0,B1,Yaa,X01,Xik,Yay]
 repeat' (with_reducible (first | (refine And.intro ?_ ?_) | intro _))
 all_goals (try simp (disch:=omega) only[w64,wu8,tn0,tn1,tm1,tm2,Yab,Yad,Yai]at*)
 all_goals (try simp (disch:=omega) only[w64,wu8,tn0,tn1,tm1,tm2,Yab,Yad,Yai]at*)
 all_goals (try omega)
 all_goals (try grind[])
def X3c.e:GE:=mE X9l func214 [3] [] [] noL (λi x=>X3c.F x.1 x.2) λi x h _ hw=>X3c.p x.1 x.2 h hw
def X0H:Con:=cQ (.pair X7N (.pair (.int .i64) .unit)) [.one,.one,.clo 214 []] Xpe [(false,1),(false,1)] (λa=>(pBs a.1 a.2.1 a.2.2)) λa=>(fBs a.1 a.2.1 a.2.2)
def X07.F(a0:U8q)(a1:Int)(a2:Unit):Prop:=eQ [(0,vL T0q a0),(1,vI a1),(2,.fn 214 [] []),(8,vI (ln a0))]/\bsI a0 a1 a2 0 (ln a0)/\∀(y1:Int×Int),bsI a0 a1 a2 y1.1 y1.2->dC (y1.1<y1.2) (0<=(1:Int)/\iB (wI (Int.fdiv (IntKind.wrap .u64 (wI (y1.1+y1.2))) (2^min (tN 1) (IntKind.bits .u64)))) a0 (True/\∀r2,rU r2 (Xik ((gA a0 (wI (Int.fdiv (IntKind.wrap .u64 (wI (y1.1+y1.2))) (2^min (tN 1) (IntKind.bits .u64)))) (0,0)).1,(gA a0 (wI (Int.fdiv (IntKind.wrap .u64 (wI (y1.1+y1.2))) (2^min (tN 1) (IntKind.bits .u64)))) (0,0)).2) a1)->dC (r2.1<0) (eQ [(0,vL T0q a0),(1,vI a1),(2,.fn 214 [] []),(8,vI (ln a0))]/\bsI a0 a1 a2 (wI (wI (Int.fdiv (IntKind.wrap .u64 (wI (y1.1+y1.2))) (2^min (tN 1) (IntKind.bits .u64)))+1)) y1.2/\bsM a0 a1 a2 (wI (wI (Int.fdiv (IntKind.wrap .u64 (wI (y1.1+y1.2))) (2^min (tN 1) (IntKind.bits .u64)))+1)) y1.2<bsM a0 a1 a2 y1.1 y1.2) (eQ [(0,vL T0q a0),(1,vI a1),(2,.fn 214 [] []),(8,vI (ln a0))]/\bsI a0 a1 a2 y1.1 (wI (Int.fdiv (IntKind.wrap .u64 (wI (y1.1+y1.2))) (2^min (tN 1) (IntKind.bits .u64))))/\bsM a0 a1 a2 y1.1 (wI (Int.fdiv (IntKind.wrap .u64 (wI (y1.1+y1.2))) (2^min (tN 1) (IntKind.bits .u64))))<bsM a0 a1 a2 y1.1 y1.2))) (dC (y1.1<ln a0) (iB y1.1 a0 (True/\∀r3,rU r3 (Xik ((gA a0 y1.1 (0,0)).1,(gA a0 y1.1 (0,0)).2) a1)->rE (y1.1,r3.1==0) (fBs a0 a1 a2))) (rE (y1.1,false) (fBs a0 a1 a2)))
def X07.L(a0:U8q)(a1:Int)(a2:Unit):Nat->Option X0f:=XLK [(60,⟨⟨[0,1,2,8],[9,10],[],[]⟩,T0q,λst y=>bsI a0 a1 a2 y.1 y.2,λst y=>bsM a0 a1 a2 y.1 y.2⟩)]
theorem X07.p(a0:U8q)(a1:Int)(a2:Unit)(h:(pBs a0 a1 a2)):X07.F a0 a1 a2:=by
 delta X07.F ln tN wI dC eQ gA iB rE rU vI vL;simp only[Bs,B0,B1,Yaa,X01,Xik,Yay];obtain⟨hp,ht0,ht1,hl⟩:=h;refine⟨⟨by omega,by omega,by omega,by simp,λk h1 h2=>by omega⟩,?_⟩;rintro⟨i,j⟩ hI;simp only at hI ⊢;have q1:=hI.h1;have q2:=hI.h2;have q3:=hI.h3;refine⟨λhij=>?_,λhij=>?_⟩
 . rw[w64 (x:=i+j) (by omega) (by omega),wu64 (x:=i+j) (by omega) (by omega),half (by omega) (by omega),w64 (x:=(i+j) / 2) (by omega) (by omega)];have hk:=Xqs hp (i:=((i+j) / 2).toNat) (by omega);rw[w64 (x:=(a0.getD ((i+j) / 2).toNat (0,0)).1 - a1) (by omega) (by omega),w64 (x:=(i+j) / 2+1) (by omega) (by omega)];refine⟨by omega,by omega,by omega,λh1=>⟨Xx9 hp hI (by omega) (by omega) (by omega),by unfold bsM;omega⟩,λh1=>⟨Xw6 hp hI (by omega) (by omega) (by omega),by unfold bsM;omega⟩⟩
 . obtain⟨e1,e2⟩:=Xqj hp hI hij;have e3:((i.toNat:Nat):Int)=i:=by omega
   refine⟨λh1=>⟨by omega,by omega,?_⟩,λh1=>?_⟩
   . have hk:=Xqs hp (i:=i.toNat) (by omega);rw[w64 (by omega) (by omega)];simp only[fBs,e1,e2,e3,Yaz h1,YaQ,Yaa,Ybw,Ybm];rw[Ybq];simp;omega
   . simp only[fBs,e1,e2,e3,Yav h1,Ybk]
def X07.e:GE:=mE X0H func213 [3,4] [X3c.e] [] (λi x=>X07.L x.1 x.2.1 x.2.2) (λi x=>X07.F x.1 x.2.1 x.2.2) λi x h _ _=>X07.p x.1 x.2.1 x.2.2 h
section
open Go Go.Proofs.YthpdkligbfbjeaaGreat.Bv Go.Proofs Go.Shelf Go.RowKit Go.Lib
structure Xi1 (P:Program) (ρ:Ren):Prop where
 mixed:P.follows .mixedOrders=true
 f22:∃nm:String,(nm== "runtime.NumGoroutine")=false/\P.funcs[ρ.f 22]?=some {Body2.n22 ρ with name:=nm}
 f29:∃fo:Func,P.funcs[ρ.f 29]?=some fo/\(fo.name== "runtime.NumGoroutine")=false/\fo.body.isNone=true/\Extern.findNext fo=none/\Extern.find fo=some (Extern.SlicesOverlaps.overlaps #[ρ.t 24,ρ.t 24] #[ρ.t 4])
 t0:P.underlying (ρ.t 0)=some (TypeDesc.tuple #[])
 a0:∀w,(isAgg (ρ.t 0)).run P w=.ok false w
 z0:∀w,(Go.sizeOf (ρ.t 0)).run P w=.ok 1 w
 v0:∀w,(zeroValue (ρ.t 0)).run P w=.ok (Value.tuple #[]) w
 t3:P.underlying (ρ.t 3)=some (TypeDesc.int IntKind.i64)
 a3:∀w,(isAgg (ρ.t 3)).run P w=.ok false w
 z3:∀w,(Go.sizeOf (ρ.t 3)).run P w=.ok 1 w
 v3:∀w,(zeroValue (ρ.t 3)).run P w=.ok (Value.int IntKind.i64 0) w
 t4:P.underlying (ρ.t 4)=some (TypeDesc.bool)
 a4:∀w,(isAgg (ρ.t 4)).run P w=.ok false w
 z4:∀w,(Go.sizeOf (ρ.t 4)).run P w=.ok 1 w
 v4:∀w,(zeroValue (ρ.t 4)).run P w=.ok (Value.bool false) w
 z9:∀w,(Go.sizeOf (ρ.t 9)).run P w=.ok 2 w
 t24:P.underlying (ρ.t 24)=some (TypeDesc.slice (ρ.t 9))
 a24:∀w,(isAgg (ρ.t 24)).run P w=.ok false w
 z24:∀w,(Go.sizeOf (ρ.t 24)).run P w=.ok 1 w
 v24:∀w,(zeroValue (ρ.t 24)).run P w=.ok (Value.slice none 0 0) w
 i9:∃i z,P.info? (ρ.t 9)=some i/\i.zero=some z/\z.cells.size=i.size/\i.size=2
variable {P:Program} {ρ:Ren}
structure Xs9 (w w':World):Prop where
 heap:w'.heap=w.heap
 os:w'.os=w.os
 tape:w'.tape=w.tape
 output:w'.output=w.output
theorem Xb4(w:World){t t' ty e:TypeId}{k:Nat}(hu:P.underlying t=some (.slice e))(hsz:∀w,(Go.sizeOf e).run P w=.ok k w){g o nd dc ns sc q:Nat}{a:Addr}{us:List Value}{arr:Array Value}{E:TypeId}(hg:w.heap[g]?=some (.cells arr E (0,0)))(hul:us.length=q*k)(hq:Nat.min ns nd=q)(hsrc:∀j u,us[j]?=some u->w.cell? (a.add j)=some u)(hfit:o+us.length<=arr.size)(h1:∀u∈us,u.oneCell'=true):
 (Builtin.copy_ #[t,t'] ty #[.slice (some ⟨g,o,none⟩) nd dc,.slice (some a) ns sc]).run P w=.ok (goInt (q:Int)) (w.setRow g (X0K arr o us)):=by
 have hst:=run_storeCells_at P g o E us 0 arr w hg (by rw[Ya6];exact hfit) h1;simp only[Ya6]at hst;have hfc:=run_firstCells_some (P:=P) w k q a ns sc us hul hsrc;simp only[Builtin.copy_,Ycw,YcN,Ycb,Sem.run_bind,run_underlying hu,Builtin.lenOf,Sem.run_pure,Result.andThen_ok,hsz w,hq,hfc];simp only[hst,Result.andThen_ok,Sem.run_pure,X0K]
set_option maxHeartbeats 4000000 in
theorem Xsh(L:Xi1 P ρ)(b off n c i vb voff m vc:Nat)(arr arrv:Array Value)(E Ev:TypeId)(us:List Value)(w:World)(hi:i<n)(hm:0<m)(hroom:n+m<=c)(hc63:c<=9223372036854775807)(hvb:vb≠b)(hb:w.heap[b]?=some (.cells arr E (0,0)))(hsz:off+c*2<=arr.size)(hv:w.heap[vb]?=some (.cells arrv Ev (0,0)))(hul:us.length=m*2)(hus:∀j u,us[j]?=some u->w.cell? ⟨vb,voff+j,none⟩=some u)(h1c:∀u∈(arr.toList.drop (off+i*2)).take ((n - i)*2),u.oneCell'=true)(h1v:∀u∈us,u.oneCell'=true):
 Calls P (ρ.f 22) #[.slice (some ⟨b,off,none⟩) n c,.int .i64 i,.slice (some ⟨vb,voff,none⟩) m vc] w λe w'=>
  e=.returned (.slice (some ⟨b,off,none⟩) (n+m) c)/\Xs9 (w.setRow b (X0K (X0K arr (off+(i+m)*2) ((arr.toList.drop (off+i*2)).take ((n - i)*2))) (off+i*2) us)) w':=by
 have t0:=L.t0;have a0:=L.a0;have z0:=L.z0;have v0:=L.v0;have t3:=L.t3;have a3:=L.a3;have z3:=L.z3;have v3:=L.v3;have t4:=L.t4;have a4:=L.a4;have z4:=L.z4;have v4:=L.v4;have z9:=L.z9;have t24:=L.t24;have a24:=L.a24;have z24:=L.z24;have v24:=L.v24;have u0:=run_underlying L.t0;have u3:=run_underlying L.t3;have u4:=run_underlying L.t4;have u24:=run_underlying L.t24;have hz1:¬((m:Int)=0):=by omega
 have hz2:¬((i:Int)=(n:Int)):=by omega
 have hov:∀lb cb,(callFunc (ρ.f 29) #[.slice (some ⟨vb,voff,none⟩) m vc,.slice (some ⟨b,off+(i+m)*2,none⟩) lb cb]).run P w=.ok (.value (.bool false)) w:=λlb cb=>by
  obtain⟨fo,h1,h2,h3,h4,h5⟩:=L.f29;rw [run_callFunc_extern h1 h2 h3 h4 h5,
   Lib.run_overlaps_apart w (ρ.t 24) (ρ.t 4) (ρ.t 9) L.t24 2 L.z9 ⟨vb,voff,none⟩ ⟨b,off+(i+m)*2,none⟩ m vc lb cb hvb Ev E arrv.size arr.size (by simp[World.shape?,hv]) (by simp[World.shape?,hb]) (by omega) (by simp[World.frozen?,hv]) (by simp[World.frozen?,hv])]
  rfl
 have mixed:=L.mixed;have hw1:IntKind.i64.wrap ((i:Int)+(m:Int))=(i:Int)+(m:Int):=by rw[IntKind.wrap_i64];omega
 have hb1:(0:Int)<=(i:Int)+(m:Int):=by omega
 have hin:i<=n:=by omega
 have htn:((i:Int)+(m:Int)).toNat=i+m:=by omega
 have hb2:¬(c=i+m):=by omega
 have hb3:(i:Int)<=(n:Int)+(m:Int):=by omega
 have hb4:¬(c=i):=by omega
 obtain⟨cs,hcs⟩:∃cs,cs=(arr.toList.drop (off+i*2)).take ((n - i)*2):=⟨_,rfl⟩
 rw[<-hcs]at h1c ⊢;have hcl:cs.length=(n - i)*2:=by
  rw[hcs,Yal,Yap,Yaq];omega
 have hcp1:∀ty dc sc,(Builtin.copy_ #[(ρ.t 24),(ρ.t 24)] ty #[.slice (some ⟨b,off+(i+m)*2,none⟩) (n+m - (i+m)) dc,.slice (some ⟨b,off+i*2,none⟩) (n+m - i) sc]).run P w.drew=.ok (goInt ((n - i:Nat):Int)) (w.drew.setRow b (X0K arr (off+(i+m)*2) cs)):=λty dc sc=>
  Xb4 w.drew L.t24 L.z9 (by exact hb) hcl (by simp only[Ycu];split<;>omega) (λj u hj=>by
   rw[X8S];rw[hcs,YaE]at hj;split at hj
   . exact X5z (w:=w.drew) hb hj
   . cases hj) (by rw[hcl];omega) h1c
 obtain⟨W1,hW1⟩:∃W1,W1=w.drew.setRow b (X0K arr (off+(i+m)*2) cs):=⟨_,rfl⟩
 have hA1:W1.heap[b]?=some (.cells (X0K arr (off+(i+m)*2) cs) E (0,0)):=by rw[hW1];exact setRow_heap w.drew b arr _ E _ hb
 have hs1:(X0K arr (off+(i+m)*2) cs).size=arr.size:=X5c (by rw[hcl];omega);have hcp2:∀(W:World),W.heap=W1.heap->∀ty dc,(Builtin.copy_ #[(ρ.t 24),(ρ.t 24)] ty #[.slice (some ⟨b,off+i*2,none⟩) (n+m - i) dc,.slice (some ⟨vb,voff,none⟩) m vc]).run P W=.ok (goInt (m:Int)) (W.setRow b (X0K (X0K arr (off+(i+m)*2) cs) (off+i*2) us)):=λW hW ty dc=>
  Xb4 W L.t24 L.z9 (by rw[hW];exact hA1) hul (by simp only[Ycu];split<;>omega) (λj u hj=>by
   rw[X8S];have h0:=hus j u hj;have h2:W.heap[vb]?=w.heap[vb]?:=by rw[hW,hW1];exact setRow_other w.drew b vb _ hvb
   simp only[World.cell?]at h0 ⊢;rw[h2];exact h0) (by rw[hs1,hul];omega) h1v
 rw[<-hW1]at hcp1;obtain⟨nm,hnm,F22⟩:=L.f22
 go_enter F22,Body2.n22_ntmps ρ
 go_wp2_with (simp only[hov])
 go_region_law_o (refine step_copy_runI rfl _ _ (ρ.t 24) (ρ.t 24) rfl _ _ (by simp[Act.eval,Act.put]) (by simp[Act.eval,Act.put]) (hcp1 _ _ _) ?_)
 go_wp2_with (at_builtin;refine wpList_copy_runI _ rfl _ _ (ρ.t 24) (ρ.t 24) rfl _ _ rfl rfl (hcp2 _ rfl _ _) ?_)
 go_ret
 refine⟨rfl,?_⟩;rw[setRow_setRow,<-hcs];exact⟨rfl,rfl,rfl,rfl⟩
set_option maxHeartbeats 4000000 in
theorem Xv0(L:Xi1 P ρ)(b off n c i vb voff m vc:Nat)(arr arrv:Array Value)(E Ev:TypeId)(us:List Value)(w:World)(hi:i<n)(hm:0<m)(hnc:n<=c)(hroom:c<n+m)(bytes:Nat)(hby:∀i,P.info? (ρ.t 9)=some i->i.bytes=bytes)(hbig:(n+m)*bytes<=140737488355328)(hnm:n+m<=maxLen)(hvb:vb≠b)(hb:w.heap[b]?=some (.cells arr E (0,0)))(hsz:off+c*2<=arr.size)(hv:w.heap[vb]?=some (.cells arrv Ev (0,0)))(hul:us.length=m*2)(hus:∀j u,us[j]?=some u->w.cell? ⟨vb,voff+j,none⟩=some u)(h1c:∀u∈(arr.toList.drop off).take (n*2),u.oneCell'=true)(h1v:∀u∈us,u.oneCell'=true):
 Calls P (ρ.f 22) #[.slice (some ⟨b,off,none⟩) n c,.int .i64 i,.slice (some ⟨vb,voff,none⟩) m vc] w λe w'=>
  ∃(G:Nat) (tl:List Value),n+m<=G/\G<=maxLen/\tl.length=(G - (n+m))*2/\e=.returned (.slice (some ⟨w.heap.size,0,none⟩) (n+m) G)/\
   Xs9 (w.alloc (.cells ((arr.toList.drop off).take (i*2)++(us++((arr.toList.drop (off+i*2)).take ((n - i)*2)++tl))).toArray (ρ.t 9))) w':=by
 have t0:=L.t0;have a0:=L.a0;have z0:=L.z0;have v0:=L.v0;have t3:=L.t3;have a3:=L.a3;have z3:=L.z3;have v3:=L.v3;have t4:=L.t4;have a4:=L.a4;have z4:=L.z4;have v4:=L.v4;have z9:=L.z9;have t24:=L.t24;have a24:=L.a24;have z24:=L.z24;have v24:=L.v24;have u0:=run_underlying L.t0;have u3:=run_underlying L.t3;have u4:=run_underlying L.t4;have u24:=run_underlying L.t24;have mixed:=L.mixed;obtain⟨i0,z,hi0,hz0,hzc,hzs⟩:=L.i9;have hzb:=hby i0 hi0;have hz2c:z.cells.size=2:=hzc.trans hzs;have hz1:¬((m:Int)=0):=by omega
 have hz2:¬((i:Int)=(n:Int)):=by omega
 have hz3:(c:Int)<(n:Int)+(m:Int):=by omega
 have hbw:b<w.heap.size:=(YaO.1 hb).1;have hvw:vb<w.heap.size:=(YaO.1 hv).1;have hkk:(n:Int)+(m:Int) - (i:Int)=((n+m - i:Nat):Int):=by omega
 have hik:i+(n+m - i)=n+m:=by omega
 have hal:arr.toList.length=arr.size:=Yaq;obtain⟨os,hos⟩:∃os,os=(arr.toList.drop off).take (i*2):=⟨_,rfl⟩
 obtain⟨cs,hcs⟩:∃cs,cs=(arr.toList.drop (off+i*2)).take ((n - i)*2):=⟨_,rfl⟩
 have hol:os.length=i*2:=by rw[hos,Yal,Yap];omega
 have hcl:cs.length=(n - i)*2:=by rw[hcs,Yal,Yap];omega
 have h1cs:∀u∈cs,u.oneCell'=true:=λu hu=>h1c u (by
  have e:(arr.toList.drop off).take (n*2)=os++cs:=by
   rw[hos,hcs,<-YaH,<-YcY];congr 1;omega
  rw[e];exact List.mem_append_right _ hu)
 have hold:(Builtin.firstCells i0.size i (.slice (some ⟨b,off,none⟩) i c)).run P w.drew=.ok os.toArray w.drew:=by
  rw[hzs];exact run_firstCells_some w.drew 2 i ⟨b,off,none⟩ i c os hol (λj v hj=>by
   rw[X8S];rw[hos,YaE]at hj;split at hj
   . exact X5z (w:=w.drew) hb hj
   . cases hj)
 have hrz:∀ty,(Builtin.append_ #[(ρ.t 24),(ρ.t 3)] ty #[.slice (some ⟨b,off,none⟩) i c,.int .i64 ((n:Int)+(m:Int) - (i:Int))]).run P w=
  .ok (.slice (some ⟨w.heap.size,0,none⟩) (n+m) (grownCap w (n+m) c (ρ.t 9))) (w.drew.alloc (.cells (os.toArray++Builtin.zeroCells z.cells (n+m - i)++Builtin.zeroCells z.cells (grownCap w (n+m) c (ρ.t 9) - (n+m))) (ρ.t 9))):=λty=>by
  have h:=Lib.run_append_grow_zeros w (ρ.t 24) (ρ.t 3) ty (ρ.t 9) i0 z .i64 .i64 L.t24 L.t3 hi0 hz0 (some ⟨b,off,none⟩) i c os hold (n+m - i) (by omega) (by omega) (by omega) (by simp only[maxLen]at hnm;omega) (by rw[hzb];exact YaW (YaY _ (by omega)) (YaW hbig (by decide))) (by rw[hzb,hik];exact growslice_fits hroom hbig);rw[hik]at h;rw[hkk];exact h
 obtain⟨G,hG⟩:∃G,G=grownCap w (n+m) c (ρ.t 9):=⟨_,rfl⟩
 obtain⟨ROW,hROW⟩:∃ROW:Array Value,ROW=os.toArray++Builtin.zeroCells z.cells (n+m - i)++Builtin.zeroCells z.cells (G - (n+m)):=⟨_,rfl⟩
 rw[<-hG]at hrz;rw[<-hROW]at hrz;have hRl:ROW.size=i*2+(n+m - i)*2+(G - (n+m))*2:=by
  rw[hROW];simp only[YcP,YbI,size_zeroCells,hz2c,hol]
 have hGn:n+m<=G:=by rw[hG];exact grownCap_ge w _ _ _
 have hGm:G<=maxLen:=by rw[hG];exact grownCap_le_maxLen w (n+m) c (ρ.t 9) hnm
 have hG63:G<=9223372036854775807:=by simp only[maxLen]at hGm;omega
 obtain⟨W1,hW1⟩:∃W1,W1=w.drew.alloc (.cells ROW (ρ.t 9)):=⟨_,rfl⟩
 rw[<-hW1]at hrz;have hH1:W1.heap[w.heap.size]?=some (.cells ROW (ρ.t 9) (0,0)):=by rw[hW1];exact heap_alloc_new w.drew _
 have hHo:∀k,k<w.heap.size->W1.heap[k]?=w.heap[k]?:=λk hk=>by rw[hW1];exact heap_alloc_old w.drew _ hk
 have hcpA:∀(W:World),W.heap=W1.heap->∀ty dc,(Builtin.copy_ #[(ρ.t 24),(ρ.t 24)] ty #[.slice (some ⟨w.heap.size,i*2,none⟩) (n+m - i) dc,.slice (some ⟨vb,voff,none⟩) m vc]).run P W=.ok (goInt (m:Int)) (W.setRow w.heap.size (X0K ROW (i*2) us)):=λW hW ty dc=>
  Xb4 W L.t24 L.z9 (by rw[hW];exact hH1) hul (by simp only[Ycu];split<;>omega) (λj u hj=>by
   rw[X8S];have h0:=hus j u hj;have h2:W.heap[vb]?=w.heap[vb]?:=by rw[hW];exact hHo vb hvw
   simp only[World.cell?]at h0 ⊢;rw[h2];exact h0) (by rw[hRl,hul];omega) h1v
 have hsA:(X0K ROW (i*2) us).size=ROW.size:=X5c (by rw[hRl,hul];omega);obtain⟨W2,hW2⟩:∃W2,W2=W1.setRow w.heap.size (X0K ROW (i*2) us):=⟨_,rfl⟩
 have hH2:W2.heap[w.heap.size]?=some (.cells (X0K ROW (i*2) us) (ρ.t 9) (0,0)):=by rw[hW2];exact setRow_heap W1 _ ROW _ _ _ hH1
 have hbN:b≠w.heap.size:=by omega
 have hcpB:∀(W:World),W.heap=W2.heap->∀ty dc sc,(Builtin.copy_ #[(ρ.t 24),(ρ.t 24)] ty #[.slice (some ⟨w.heap.size,(i+m)*2,none⟩) (n+m - (i+m)) dc,.slice (some ⟨b,off+i*2,none⟩) (n - i) sc]).run P W=.ok (goInt ((n - i:Nat):Int)) (W.setRow w.heap.size (X0K (X0K ROW (i*2) us) ((i+m)*2) cs)):=λW hW ty dc sc=>
  Xb4 W L.t24 L.z9 (by rw[hW];exact hH2) hcl (by simp only[Ycu];split<;>omega) (λj u hj=>by
   rw[X8S];rw[hcs,YaE]at hj;split at hj
   . have h2:W.heap[b]?=some (.cells arr E (0,0)):=by rw[hW,hW2,setRow_other W1 _ b _ hbN,hHo b hbw];exact hb
     exact X5z (w:=W) h2 hj
   . cases hj) (by rw[hsA,hRl,hcl];omega) h1cs
 have hGi:¬(G=i):=by omega
 have hGim:¬(G=i+m):=by omega
 have hci:¬(c=i):=by omega
 have hw1:IntKind.i64.wrap ((i:Int)+(m:Int))=(i:Int)+(m:Int):=by rw[IntKind.wrap_i64];omega
 have hb1:(0:Int)<=(i:Int)+(m:Int):=by omega
 have hin:i<=n:=by omega
 have htn:((i:Int)+(m:Int)).toNat=i+m:=by omega
 have hb3:(i:Int)<=(n:Int):=by omega
 have hfin:(X0K (X0K ROW (i*2) us) ((i+m)*2) cs).toList=os++(us++(cs++ROW.toList.drop ((n+m)*2))):=by
  have hRL:ROW.toList.length=ROW.size:=Yaq;have e1:(X0K ROW (i*2) us).toList=os++(us++ROW.toList.drop (i*2+m*2)):=by
   simp only[X0K,hul,Yam]
   congr 1
   rw[hROW,YbZ,YbZ,Yam,YbM hol]
  simp only[X0K]at e1 ⊢;rw[e1];have e2:(os++(us++ROW.toList.drop (i*2+m*2))).take ((i+m)*2)=os++us:=by
   rw[<-Yam,YbM (by rw[Yab,hol,hul,Ya0])]
  have e3:(os++(us++ROW.toList.drop (i*2+m*2))).drop ((i+m)*2+cs.length)=ROW.toList.drop ((n+m)*2):=by
   rw[<-Yam,<-YaH,Ycf (by rw[Yab,hol,hul,Ya0]),YaH]
   congr 1;omega
  rw[e2,e3,Yam,Yam]
 have htl:(ROW.toList.drop ((n+m)*2)).length=(G - (n+m))*2:=by rw[Yap,Yaq,hRl];omega
 obtain⟨A2,hA2⟩:∃A2,A2=X0K (X0K ROW (i*2) us) ((i+m)*2) cs:=⟨_,rfl⟩
 rw[<-hA2]at hcpB hfin;have hA2':A2=(os++(us++(cs++ROW.toList.drop ((n+m)*2)))).toArray:=by rw[<-hfin]
 have hend:∀W':World,W'.heap=(W2.setRow w.heap.size A2).heap->W'.os=w.os->W'.tape=w.tape->W'.output=w.output->Xs9 (w.alloc (.cells (os++(us++(cs++ROW.toList.drop ((n+m)*2)))).toArray (ρ.t 9))) W':=λW' k1 k2 k3 k4=>by
  refine⟨?_,k2,k3,k4⟩;rw[k1,hW2,setRow_setRow,<-hA2',hW1];apply Array.ext_getElem?;intro k;by_cases hk:k=w.heap.size
  . subst hk;rw[setRow_heap (w.drew.alloc (.cells ROW (ρ.t 9))) _ ROW _ _ _ (by exact heap_alloc_new w.drew _)];exact(heap_alloc_new w _).symm
  . rw[setRow_other _ _ k _ hk];by_cases hlt:k<w.heap.size
    . have q1:(w.drew.alloc (.cells ROW (ρ.t 9))).heap[k]?=w.heap[k]?:=heap_alloc_old w.drew _ hlt;have q2:(w.alloc (.cells A2 (ρ.t 9))).heap[k]?=w.heap[k]?:=heap_alloc_old w _ hlt;rw[q1,q2]
    . have s1:(w.drew.alloc (.cells ROW (ρ.t 9))).heap.size=w.heap.size+1:=Ycq ..;have s2:(w.alloc (.cells A2 (ρ.t 9))).heap.size=w.heap.size+1:=Ycq ..;rw[Ycc (by omega),Ycc (by omega)]
 rw[<-hos,<-hcs];obtain⟨nm,hnm2,F22⟩:=L.f22;clear hkk hik hold hROW hG hfin hA2' hA2 hRl hsA
 go_enter F22,Body2.n22_ntmps ρ
 go_wp2_with (first
  | (at_builtin;refine Lib.wpList_append_run _ rfl _ _ _ _ rfl _ _ rfl rfl _ _ (hrz _) ?_)
  | (at_builtin;refine wpList_copy_runI _ rfl _ _ (ρ.t 24) (ρ.t 24) rfl _ _ rfl rfl (hcpA _ (by rw[hW1];rfl) _ _) ?_))
 go_region_law_o (refine step_copy_runI rfl _ _ (ρ.t 24) (ρ.t 24) rfl (.slice (some ⟨w.heap.size,(i+m)*2,none⟩) (n+m - (i+m)) (G - (i+m))) (.slice (some ⟨b,off+i*2,none⟩) (n - i) (c - i)) (by simp[Act.eval,Act.put]) (by simp[Act.eval,Act.put]) (hcpB _ (by rw[hW2,hW1];rfl) (ρ.t 3) (G - (i+m)) (c - i)) ?_)
 go_wp2
 go_ret
 refine⟨G,ROW.toList.drop ((n+m)*2),hGn,hGm,htl,rfl,hend _ ?_ ?_ ?_ ?_⟩
 . rw[hW2,hW1];rfl
 . rfl
 . rfl
 . rfl
set_option maxHeartbeats 4000000 in
theorem Xw4(L:Xi1 P ρ)(s v v':Value)(w w':World)(n m:Nat)(ad:Option Addr)(c:Nat)(ad2:Addr)(vc:Nat)(hs:s=.slice ad n c)(hv:v=.slice (some ad2) m vc)(hnil:ad=none->n=0)(hm:0<m)(hnc:n<=c)(hc63:c<=9223372036854775807)(hrun:∀ty,(Builtin.append_ #[ρ.t 24,ρ.t 24] ty #[s,v]).run P w=.ok v' w'):
 Calls P (ρ.f 22) #[s,.int .i64 n,v] w λe w1=>e=.returned v'/\Xs9 w' w1:=by
 have t0:=L.t0;have a0:=L.a0;have z0:=L.z0;have v0:=L.v0;have t3:=L.t3;have a3:=L.a3;have z3:=L.z3;have v3:=L.v3;have t4:=L.t4;have a4:=L.a4;have z4:=L.z4;have v4:=L.v4;have z9:=L.z9;have t24:=L.t24;have a24:=L.a24;have z24:=L.z24;have v24:=L.v24;have u0:=run_underlying L.t0;have u3:=run_underlying L.t3;have u4:=run_underlying L.t4;have u24:=run_underlying L.t24;have mixed:=L.mixed;have hz1:¬((m:Int)=0):=by omega
 obtain⟨nm,hnm2,F22⟩:=L.f22;subst hs;subst hv
 go_enter F22,Body2.n22_ntmps ρ
 cases ad with
 | none=>
   have h0:=hnil rfl;subst h0
   go_wp2_with (at_builtin;refine Lib.wpList_append_run _ rfl _ _ _ _ rfl _ _ rfl rfl _ _ (hrun _) ?_)
   all_goals (go_ret;exact⟨rfl,⟨rfl,rfl,rfl,rfl⟩⟩)
 | some a=>
   obtain⟨ab,ao,asp⟩:=a
   go_wp2_with (at_builtin;refine Lib.wpList_append_run _ rfl _ _ _ _ rfl _ _ rfl rfl _ _ (hrun _) ?_)
   all_goals (go_ret;exact⟨rfl,⟨rfl,rfl,rfl,rfl⟩⟩)
theorem Xs9.own{w w':World}(h:Xs9 w w'){t:Ty}{v:Value}{l:List (El t)}{bs:List Nat}(ho:X4Q w t v l bs):X4Q w' t v l bs:=ho.frame λg _=>by rw[h.heap]
theorem Xei.like{w w1 w2:World}{bs bs' more:List Nat}(h:Xei w w1 bs bs' more)(k:Xs9 w1 w2):Xei w w2 bs bs' more:=
 ⟨h.nodup,h.sub,by rw[k.heap];exact h.size,λx h1 h2=>by rw[k.heap];exact h.keep x h1 h2,k.os.trans h.os,k.tape.trans h.tape,k.output.trans h.output⟩
theorem XmQ{a b1 b2 bv:List Nat}(h:(a++(b1++b2)).Nodup)(hv:bv.Nodup)(hd:∀x∈bv,x∉a++(b1++b2)):(a++(b1++(bv++b2))).Nodup:=by
 simp only[YaF,Yaf,YcD]at h hd ⊢;obtain⟨h1,⟨h2,h3,h4⟩,h5⟩:=h;refine⟨h1,⟨h2,⟨hv,h3,λx hx y hy e=>?_⟩,λx hx y hy e=>?_⟩,λx hx y hy e=>?_⟩
 . subst e;exact(hd x hx).2.2 hy
 . subst e;rcases hy with hy | hy
   . exact(hd x hy).2.1 hx
   . exact h4 x hx x hy rfl
 . subst e;rcases hy with hy | hy | hy
   . exact h5 x hx x (.inl hy) rfl
   . exact(hd x hy).1 hx
   . exact h5 x hx x (.inr hy) rfl
theorem XwS(L:Xi1 P ρ){τ:Ty}(hτ:size τ=2){bytes:Nat}(hby:∀i,P.info? (ρ.t 9)=some i->i.bytes=bytes)(w:World){s v:Value}{l lv:List (El τ)}{bs bv:List Nat}(hs:X4Q w τ s l bs)(hv:X4Q w τ v lv bv)(hnd:(bs++bv).Nodup)(i:Nat)(hi:i<=List.length l)(hlv:0<List.length lv)(h63:List.length l+List.length lv<=maxLen)(hbig:(List.length l+List.length lv)*bytes<=140737488355328):
 Calls P (ρ.f 22) #[s,.int .i64 i,v] w λe w'=>∃s' bs',e=.returned s'/\X4Q w' τ s' (l.take i++(lv++l.drop i)) bs'/\Xei w w' bs bs' bv:=by
 obtain⟨n1,n2,n3⟩:=YaF.1 hnd;have hdis:∀x∈bv,x∉bs:=λx hx hx'=>n3 x hx' x hx rfl;rcases hv.cases with⟨_,_,rfl,_⟩ | ⟨vb,voff,vc,arrv,Ev,b1v,ev,rfl,hvb,k2,k3,k4,k5⟩
 . simp at hlv
 have n2':=YaB.1 n2;obtain⟨us,hus⟩:∃us,us=(arrv.toList.drop voff).take (List.length lv*size τ):=⟨_,rfl⟩
 rw[<-hus]at k5;have hul:us.length=List.length lv*2:=by rw[k5.length,X0V,hτ]
 have hsrc:∀j u,us[j]?=some u->w.cell? ⟨vb,voff+j,none⟩=some u:=λj u hj=>by
  rw[hus,YaE]at hj;split at hj
  . exact X5z hvb hj
  . cases hj
 have hmaxc:maxLen<=9223372036854775807:=by decide
 by_cases hin:i=List.length l
 ·
  subst hin;obtain⟨i0,z,hi0,hz0,hzc,hzs⟩:=L.i9;have hrun:=λty=>Xar (ty:=ty) L.t24 hi0 hz0 hzc (hzs.trans hτ.symm) (by rw[hτ];decide) hs n1 (a:=⟨vb,voff,none⟩) (c:=vc) (λj u hj=>by rw[X8S];exact hsrc j u hj) k5 n2'.2 (λx hx=>hdis x (Yan _ hx)) hlv h63 (by rw[hby i0 hi0];exact hbig);have hty:∀ty ty',(Builtin.append_ #[ρ.t 24,ρ.t 24] ty #[s,v]).run P w=(Builtin.append_ #[ρ.t 24,ρ.t 24] ty' #[s,v]).run P w:=λty ty'=>rfl;obtain⟨v',w',bs',r1,r2,r3⟩:=hrun (ρ.t 24);rw[<-ev]at r1;obtain⟨ad,c,es,c1,c2⟩:=hs.slice;have hnil:ad=none->List.length l=0:=λe=>by
   rcases hs.cases with⟨_,_,e2,_⟩ | ⟨_,_,_,_,_,_,e2,_⟩
   . rw[e2];rfl
   . rw[es,e]at e2;cases e2
  refine(Xw4 L s v v' w w' (List.length l) (List.length lv) ad c ⟨vb,voff,none⟩ vc es ev hnil hlv c1 (by omega) (λty=>(hty ty (ρ.t 24)).trans r1)).mono ?_;rintro e w1 ⟨rfl,hk⟩;refine⟨v',bs',rfl,?_,?_⟩
  . rw[Yat,YbO,Ybd];exact hk.own r2
  . exact Xei.like ⟨r3.nodup,λx hx=>(r3.sub x hx).imp id (Or.imp (Yan _) id),r3.size,r3.keep,r3.os,r3.tape,r3.output⟩ hk
 have hilt:i<List.length l:=by omega
 rcases hs.cases with⟨_,_,rfl,_⟩ | ⟨b,off,c,arr,E,b1,es,rfl,hb,q2,q3,q4,q5⟩
 . simp at hilt
 have n1':=YaB.1 n1;have hvbb:vb≠b:=λe=>hdis vb (by simp) (by simp[e]);have hal:arr.toList.length=arr.size:=Yaq;rw[hτ]at q4 q5;have hcm:List.length l*2<=c*2:=YaY 2 q2;have hfl:X0o τ l=X0o τ (l.take i)++X0o τ (l.drop i):=by rw[<-X1f,YaJ]
 obtain⟨v1,v2,b11,b12,e1,e2,o1,o2⟩:=q5.split hfl;have hl1:v1.length=i*2:=by rw[o1.length,X0V,hτ,Yal,Ya9 hi]
 have hl2:v2.length=(List.length l - i)*2:=by rw[o2.length,X0V,hτ,Yap]
 have ev1:v1=(arr.toList.drop off).take (i*2):=by
  have:=Ybh (List.take (i*2)) e1;rw[YbL,Ya9 (by omega),YbM hl1]at this;exact this.symm
 have ev2:v2=(arr.toList.drop (off+i*2)).take ((List.length l - i)*2):=by
  have:=Ybh (List.drop (i*2)) e1;rw[Ycf hl1,YbQ,YaH]at this;rw[<-this];congr 1;omega
 have hone:∀u∈(arr.toList.drop off).take (List.length l*2),u.oneCell'=true:=q5.one;have one2:∀u∈v2,u.oneCell'=true:=o2.one;have hfa:X0o τ (l.take i++(lv++l.drop i))=X0o τ (l.take i)++(X0o τ lv++X0o τ (l.drop i)):=by rw[X1f,X1f]
 have hlen:List.length (l.take i++(lv++l.drop i))=List.length l+List.length lv:=by simp only[Yab,Yal,Yap];omega
 have hnd3:(([b]:List Nat)++(b11++b12)).Nodup:=by rw[<-e2];exact n1
 have hnd4:=XmQ (bv:=b1v) hnd3 n2'.2 (λx hx=>by rw[<-e2];exact hdis x (Yan _ hx));have hlt1:=o1.lt;have hlt2:=o2.lt;have hltv:=k5.lt;have hlt:∀x∈b11++(b1v++b12),x<w.heap.size:=λx hx=>by
  simp only[Yaf]at hx;rcases hx with h | h | h
  . exact hlt1 x h
  . exact hltv x h
  . exact hlt2 x h
 by_cases hroom:List.length l+List.length lv<=c
 ·
  rw[es,ev];refine(Xsh L b off (List.length l) c i vb voff (List.length lv) vc arr arrv E Ev us w hilt hlv hroom (by omega) hvbb hb q4 hvb hul hsrc (by rw[<-ev2];exact one2) k5.one).mono ?_;rintro e w1 ⟨rfl,hk⟩;rw[<-ev2]at hk;obtain⟨A,hA⟩:∃A,A=X0K (X0K arr (off+(i+List.length lv)*2) v2) (off+i*2) us:=⟨_,rfl⟩
  rw[<-hA]at hk;have hAs:A.size=arr.size:=by
   rw[hA,X5c (by rw[X5c (by rw[hl2];omega),hul];omega),X5c (by rw[hl2];omega)]
  have hAl:(A.toList.drop off).take ((List.length l+List.length lv)*2)=v1++(us++v2):=by
   have f1:(X0K arr (off+(i+List.length lv)*2) v2).toList=arr.toList.take (off+(i+List.length lv)*2)++(v2++arr.toList.drop (off+(i+List.length lv)*2+v2.length)):=by simp only[X0K,Yam]
   have f2:A.toList=arr.toList.take (off+i*2)++(us++(v2++arr.toList.drop (off+(i+List.length lv)*2+v2.length))):=by
    rw[hA];have:(X0K (X0K arr (off+(i+List.length lv)*2) v2) (off+i*2) us).toList=(X0K arr (off+(i+List.length lv)*2) v2).toList.take (off+i*2)++us++(X0K arr (off+(i+List.length lv)*2) v2).toList.drop (off+i*2+us.length):=rfl;rw[this,f1];have lt1:(arr.toList.take (off+(i+List.length lv)*2)).length=off+(i+List.length lv)*2:=by rw[Yal];omega
    rw[YaZ (by omega),YbL,Ya9 (by omega),Ycf (by rw[lt1,hul];omega),Yam]
   have g0:(arr.toList.take (off+i*2)).drop off=v1:=by rw[ev1,YbQ,YbY]
   rw[f2,YbT (by rw[Yal];omega),g0,<-Yam us,<-Yam v1,YbM (by simp only[Yab,hl1,hul,hl2];omega)]
  have fr:∀{vs:List Value} {cs:List X02} {bb:List Nat},X1v w vs cs bb->b∉bb->X1v w1 vs cs bb:=λhh hn=>hh.frame λx hx=>by
   rw[hk.heap];exact setRow_other w b x _ (λe=>by subst e;exact hn hx)
  have nb:b∉b11/\b∉b1v/\b∉b12:=by
   have:=(YaB.1 (show(b::(b11++(b1v++b12))).Nodup from hnd4)).1;simpa only[Yaf,YcD] using this
  refine⟨_,b::(b11++(b1v++b12)),rfl,?_,⟨hnd4,λx hx=>?_,by rw[hk.heap];simp,λk h1 h2=>?_,hk.os,hk.tape,hk.output⟩⟩
  . rw[<-hlen];refine X4Q.mk (arr:=A) (e:=E) (by rw[hk.heap];exact setRow_heap w b arr A E _ hb) (by rw[hlen];exact hroom) q3 (by rw[hAs,hτ];exact q4) ?_;rw[hlen,hτ,hAl,hfa];exact(fr o1 nb.1).append ((fr k5 nb.2.1).append (fr o2 nb.2.2))
  . simp only[Yak,Yaf]at hx;rcases hx with rfl | hx | hx | hx
    . exact .inl (by simp)
    . exact .inl (by rw[e2];simp[hx])
    . exact .inr (.inl (by simp[hx]))
    . exact .inl (by rw[e2];simp[hx])
  . rw[hk.heap];exact setRow_other w b k _ (λe=>by subst e;exact h2 (by simp))
 ·
  rw[es,ev];refine(Xv0 L b off (List.length l) c i vb voff (List.length lv) vc arr arrv E Ev us w hilt hlv q2 (by omega) bytes hby hbig h63 hvbb hb q4 hvb hul hsrc hone k5.one).mono ?_;rintro e w1 ⟨G,tl,g1,g2,g3,rfl,hk⟩;rw[<-ev1,<-ev2]at hk;have hH:w1.heap[w.heap.size]?=some (.cells (v1++(us++(v2++tl))).toArray (ρ.t 9) (0,0)):=by rw[hk.heap];exact heap_alloc_new w _
  have hO:∀k,k<w.heap.size->w1.heap[k]?=w.heap[k]?:=λk h=>by rw[hk.heap];exact heap_alloc_old w _ h
  refine⟨_,w.heap.size::(b11++(b1v++b12)),rfl,?_,⟨YaB.2 ⟨λh=>Nat.lt_irrefl _ (hlt _ h),(YaF.1 hnd4).2.1⟩,λx hx=>?_,?_,λk h1 _=>hO k h1,hk.os,hk.tape,hk.output⟩⟩
  . rw[<-hlen]at g1 ⊢;refine X4Q.mk hH g1 g2 ?_ ?_
    . simp only[YbI,Yab,hl1,hul,hl2,g3,hτ];rw[hlen]at g1;omega
    . rw[hlen,hτ,YbK,hfa];have f3:((v1++(us++(v2++tl))).toArray.toList).take ((List.length l+List.length lv)*2)=v1++(us++v2):=by
       show(v1++(us++(v2++tl))).take _=_;rw[<-Yam us,<-Yam v1,YbM (by simp only[Yab,hl1,hul,hl2];omega)]
      rw[f3];exact(o1.frame λg h=>hO g (hlt1 g h)).append ((k5.frame λg h=>hO g (hltv g h)).append (o2.frame λg h=>hO g (hlt2 g h)))
  . simp only[Yak,Yaf]at hx;rcases hx with rfl | hx | hx | hx
    . exact .inr (.inr (YaC _))
    . exact .inl (by rw[e2];simp[hx])
    . exact .inr (.inl (by simp[hx]))
    . exact .inl (by rw[e2];simp[hx])
  . rw[hk.heap];have:(w.alloc (.cells (v1++(us++(v2++tl))).toArray (ρ.t 9))).heap.size=w.heap.size+1:=Ycq ..;omega
def Xbh(τ:Ty)(e:TypeId):Con:={A:=.pair (.list τ) (.pair (.int .i64) (.list τ)),shA:=[.one,.one,.one],ownA:=[(0,e),(2,e)],R:=.list τ,shR:=[(false,1)],fresh:=[(0,e)],pre:=λ_ a=>0<=a.2.1/\a.2.1<=a.1.length/\0<a.2.2.length/\a.1.length+a.2.2.length<=1099511627776,f:=some λ_ a=>(a.1.take a.2.1.toNat++(a.2.2++a.1.drop a.2.1.toNat),((),()))}
theorem XtI(L:Xi1 P ρ){τ:Ty}(hτ:size τ=2){bytes:Nat}(hby:∀i,P.info? (ρ.t 9)=some i->i.bytes=bytes)(hb:bytes<=128):X0h P (ρ.f 22) (Xbh τ (ρ.t 9)):=by
 intro w M vs cs i x F FI b hM hargs hown hio hiv hnd hnone hpre;obtain⟨p1',p2',p3,p4⟩:=hpre;have p1:(0:Int)<=x.2.1:=p1';have p2:(show Int from x.2.1)<=((List.length x.1:Nat):Int):=p2';have hbn:b=none:=by cases b with | none=>rfl | some g=>cases hio
 subst hbn;obtain⟨u0,u1,u2,rfl,rfl⟩:∃u0 u1 u2,vs=[u0,u1,u2]/\cs=[u0,u1,u2]:=by
  cases hargs with
  | cons h0 r0=>cases r0 with
    | cons h1 r1=>cases r1 with
      | cons h2 r2=>cases r2;obtain⟨rfl,_⟩:=h0;obtain⟨rfl,_⟩:=h1;obtain⟨rfl,_⟩:=h2;exact⟨_,_,_,rfl,rfl⟩
 have ho0:X4Q w τ u0 x.1 (F 0):=by
  obtain⟨u,t,l,h1,h2,h3⟩:=hown.own 0 (ρ.t 9) rfl;cases h1;have h2':some (X02.lst τ x.1 none)=some (.lst t l none):=h2;cases h2';exact h3
 have ho2:X4Q w τ u2 x.2.2 (F 2):=by
  obtain⟨u,t,l,h1,h2,h3⟩:=hown.own 2 (ρ.t 9) rfl;cases h1;have h2':some (X02.lst τ x.2.2 none)=some (.lst t l none):=h2;cases h2';exact h3
 have ho1:u1=.int .i64 x.2.1:=hown.rd 1 u1 (.int .i64 x.2.1) rfl rfl rfl;have hblk:X5B (Xbh τ (ρ.t 9)) none F FI=F 0++F 2:=by simp[X5B,Xbh,X98]
 rw[hblk]at hnd hnone;have hx:((x.2.1.toNat:Nat):Int)=x.2.1:=by omega
 have hml:(1099511627776:Nat)<=maxLen:=by decide
 have hmul:(List.length x.1+List.length x.2.2)*bytes<=140737488355328:=YaW (Nat.mul_le_mul p4 hb) (by decide);have hi1:(x.2.1:Int).toNat<=List.length x.1:=Int.toNat_le.2 p2';have h:=XwS L hτ hby w ho0 ho2 hnd x.2.1.toNat hi1 p3 (YaW p4 hml) hmul;rw[hx,<-ho1]at h;refine h.mono ?_;rintro e w' ⟨s',bs',rfl,hO,hR⟩;have hsub:∀g∈bs',(w.heap.size<=g\/g∈F 0++F 2):=λg hg=>by
  rcases hR.sub g hg with k | k | k
  . exact .inr (Yb9 _ k)
  . exact .inr (List.mem_append_right _ k)
  . exact .inl k
 have hMn:∀g∈bs',∀ad,ad.block=g->M ad=none:=λg hg ad had=>by
  rcases hsub g hg with k | k
  . cases hm:M ad with
    | none=>rfl
    | some v=>
      have h1:=hM ad v hm;have h2:=block_lt_of_cell h1;omega
  . exact hnone g k ad had
 have hsl:∃ad c,s'=.slice ad (List.length (x.1.take x.2.1.toNat++(x.2.2++x.1.drop x.2.1.toNat))) c:=by
  obtain⟨ad,c,k,_⟩:=hO.slice;exact⟨ad,c,k⟩
 obtain⟨sad,sc,hsv⟩:=hsl;refine⟨[s'],(x.1.take x.2.1.toNat++(x.2.2++x.1.drop x.2.1.toNat),((),())),[s'],M,λ_=>bs',λ_=>[],λ_=>[],[],rfl,rfl,Mem.le_refl _,λad v hm=>?_,⟨hR.os,hR.tape,hR.output,hR.size,λk h1 h2=>hR.keep k h1 (λh=>h2 (by rw[hblk];exact Yb9 _ h))⟩,λ_ _ _ h=>h,?_,?_,(λg hg=>by cases hg),?_,?_,?_,?_,?_⟩
 . have h1:=hM ad v hm;have hlt:=block_lt_of_cell h1;have hnb:ad.block∉F 0:=λh=>by rw[hnone ad.block (Yb9 _ h) ad rfl]at hm;cases hm
   have h2:=hR.keep ad.block hlt hnb;simp only[World.cell?]at h1 ⊢;rw[h2];exact h1
 . refine⟨rfl,?_⟩;have:=Xdf.cons (v:=s') (ag:=false) (n:=1) (by rw[hsv];rfl) (by rw[hsv];rfl) Xdf.nil;rw[hsv]at this ⊢;exact this
 . refine⟨rfl,λj u c hj h1 h2=>?_,λj e' hj=>?_⟩
   . cases j with
     | zero=>cases hj
     | succ j=>simp at h1
   . cases j with
     | zero=>exact⟨s',τ,_,rfl,rfl,hO⟩
     | succ j=>exact absurd hj (by rw[show(Xbh τ (ρ.t 9)).fresh=[(0,ρ.t 9)] from rfl,X08,Yae (by omega)];exact λh=>by cases h)
 . refine⟨rfl,λk j e' hk=>by simp[Xbh]at hk⟩
 . intro j e' hj t l tag hc;obtain⟨i0,z,hi0,hz0,hzc,hzs⟩:=L.i9;cases j with
   | zero=>
     have e1:e'=ρ.t 9:=by cases (show some (ρ.t 9)=some e' from hj);rfl
     have e2:some (X02.lst τ (x.1.take x.2.1.toNat++(x.2.2++x.1.drop x.2.1.toNat)) none)=some (.lst t l tag):=hc;cases e2;subst e1;exact⟨⟨i0,hi0,hzs.trans hτ.symm⟩,by omega⟩
   | succ j=>exact absurd hj (by rw[show(Xbh τ (ρ.t 9)).fresh=[(0,ρ.t 9)] from rfl,X08,Yae (by omega)];exact λh=>by cases h)
 . intro j e' hj;cases hj
 . simpa [Xbh,X98] using hR.nodup
 . intro g hg;have hg':g∈bs':=by simpa [Xbh,X98] using hg
   refine⟨?_,?_,hMn g hg'⟩
   . rcases hsub g hg' with k | k
     . exact .inl k
     . exact .inr ⟨by rw[hblk];exact k,by simp⟩
   . exact X1v.lt hO g hg'
end
section
open Go Go.Proofs.YthpdkligbfbjeaaGreat.Bv Go.Proofs Go.Shelf Go.RowKit Go.Lib
def X1x:Ren:=⟨λn=>if n=22 then 215 else if n=29 then 224 else if n=30 then 225 else n,λn=>if n=24 then 113 else if n=9 then 112 else n,λn=>n⟩
set_option maxRecDepth 100000 in
theorem X6R:Tryz.f215={Body2.n22 X1x with name:=Tryz.f215.name}:=by kernel_rfl
theorem X7h:Xi1 Tryz.prog X1x where
 mixed:=rfl
 f22:=⟨Tryz.f215.name,by kernel_rfl,by rw[<-X6R];exact func215⟩
 f29:=⟨Tryz.f224,func224,by kernel_rfl,by kernel_rfl,by kernel_rfl,by kernel_rfl⟩
 t0:=by kernel_rfl
 a0:=λw=>by kernel_rfl
 z0:=λw=>by kernel_rfl
 v0:=λw=>by kernel_rfl
 t3:=by kernel_rfl
 a3:=λw=>by kernel_rfl
 z3:=λw=>by kernel_rfl
 v3:=λw=>by kernel_rfl
 t4:=by kernel_rfl
 a4:=λw=>by kernel_rfl
 z4:=λw=>by kernel_rfl
 v4:=λw=>by kernel_rfl
 t24:=by kernel_rfl
 a24:=λw=>by kernel_rfl
 z24:=λw=>by kernel_rfl
 v24:=λw=>by kernel_rfl
 z9:=λw=>by kernel_rfl
 i9:=by
  obtain⟨i,z,h1,h2,h3,h4,h5⟩:=(XgY 112 _ rfl).info;have h6:z.cells.size=2:=by rw[<-Yaq,h5];rfl
  exact⟨i,z,h1,h4,h6.trans h2.symm,h2⟩
theorem X7o:∀i,Tryz.prog.info? (X1x.t 9)=some i->i.bytes=16:=λi hi=>by
 obtain⟨i',z,h1,h2,h3,h4,h5⟩:=(XgY 112 _ rfl).info;have h1':Tryz.prog.info? (X1x.t 9)=some i':=h1;rw[h1']at hi;cases hi;exact h3
def X2A(l:List (Int×Int))(i:Int)(v:List (Int×Int)):List (Int×Int):=l.take i.toNat++(v++l.drop i.toNat)
def X4s(l:List (Int×Int))(i:Int)(v:List (Int×Int)):Prop:=0<=i/\i<=l.length/\0<v.length/\l.length+v.length<=1099511627776
def X52:Con:={A:=(.pair X7N Xoh),shA:=[.one,.one,.one],ownA:=[(0,112),(2,112)],R:=X7N,shR:=[(false,1)],fresh:=[(0,112)],pre:=λ_ a=>(X4s a.1 a.2.1 a.2.2),f:=some λ_ a=>((X2A a.1 a.2.1 a.2.2),((),()))}
theorem X3m.ok:X0h Tryz.prog 215 X52:=XtI (τ:=T0q) X7h rfl X7o (by decide)
def X3m.e:GE:=⟨215,X52,⟨_,func215,rfl,rfl⟩,X3m.ok⟩
end
end Go.Proofs.YthpdkligbfbjeaaGreat.B
