/- The table of the types that are met. -/
import Derived.Test.YtcfaphojdacmbaaGreatRWD
import Derived.Test.YtcfaphojdacmbaaGreatRChecked
set_option maxRecDepth 100000
set_option linter.unusedVariables false
set_option linter.unusedSimpArgs false
namespace Go.Proofs.YtcfaphojdacmbaaGreatR.B
open Go Go.Proofs.YtcfaphojdacmbaaGreatR.Bv
abbrev T0q:Ty:=(.pair (.int .i64) (.int .i64))
abbrev U1q:Type:=((List UInt8)×(List (Int×Int)))
abbrev T2q:Ty:=(.pair .str (.list T0q))
abbrev U3q:Type:=(Int×((List U1q)×(List (List UInt8))))
abbrev T4q:Ty:=(.pair (.int .i64) (.pair (.list T2q) (.list .str)))
abbrev U5q:Type:=(List UInt8)
abbrev U6q:Type:=(List (Int×Int))
abbrev U7q:Type:=((List Int)×(Int×Int))
abbrev T8q:Ty:=(.list (.int .u8))
abbrev T9q:Ty:=(.list T2q)
abbrev Xp9:Type:=(Int×(Int×((List U1q)×((List U5q)×((List Int)×(Int×(Int×U6q)))))))
abbrev Xc7:Ty:=(.list (.int .i64))
abbrev X9z:Ty:=(.list T0q)
abbrev XoW:Type:=((List Int)×(Int×(Int×(List Int))))
abbrev Xli:Ty:=(.pair .str (.int .i64))
abbrev Xlq:Ty:=(.pair (.int .i64) X9z)
abbrev Xgs:Ty:=(.pair T8q T0q)
def tab:Tab:=[(2,{ty:=(.int .i64),agg:=false,fields:=[],elem:=0,bytes:=8}),(3,{ty:=(.int .i64),agg:=false,fields:=[],elem:=0,bytes:=8}),(4,{ty:=.bool,agg:=false,fields:=[],elem:=0,bytes:=1}),(5,{ty:=(.int .u8),agg:=false,fields:=[],elem:=0,bytes:=1}),(6,{ty:=(.int .u8),agg:=false,fields:=[],elem:=0,bytes:=1}),(7,{ty:=(.pair (.int .i64) (.pair (.int .i64) (.pair .bool (.int .u8)))),agg:=true,fields:=[(0,2),(1,3),(2,4),(3,6)],elem:=0,bytes:=24}),(8,{ty:=(.pair (.int .i64) (.pair (.int .i64) (.pair .bool (.int .u8)))),agg:=true,fields:=[(0,2),(1,3),(2,4),(3,6)],elem:=0,bytes:=24}),(9,{ty:=.str,agg:=false,fields:=[],elem:=0,bytes:=16}),(10,{ty:=.str,agg:=false,fields:=[],elem:=0,bytes:=16}),(11,{ty:=.str,agg:=false,fields:=[],elem:=0,bytes:=16}),(12,{ty:=(.int .u64),agg:=false,fields:=[],elem:=0,bytes:=8}),(13,{ty:=(.pair .str (.int .u64)),agg:=true,fields:=[(0,9),(1,12)],elem:=0,bytes:=24}),(14,{ty:=(.pair .str (.int .u64)),agg:=true,fields:=[(0,9),(1,12)],elem:=0,bytes:=24}),(21,{ty:=(.int .i32),agg:=false,fields:=[],elem:=0,bytes:=4}),(22,{ty:=(.list (.int .u8)),agg:=false,fields:=[],elem:=5,bytes:=24}),(24,{ty:=(.list (.pair (.int .i64) (.int .i64))),agg:=false,fields:=[],elem:=43,bytes:=24}),(25,{ty:=(.list (.pair .str (.list (.pair (.int .i64) (.int .i64))))),agg:=false,fields:=[],elem:=83,bytes:=24}),(26,{ty:=(.list .str),agg:=false,fields:=[],elem:=9,bytes:=24}),(27,{ty:=(.pair (.int .i64) (.pair (.list (.pair .str (.list (.pair (.int .i64) (.int .i64))))) (.list .str))),agg:=true,fields:=[(0,3),(1,25),(2,26)],elem:=0,bytes:=56}),(28,{ty:=(.pair (.int .i64) (.pair (.list (.pair .str (.list (.pair (.int .i64) (.int .i64))))) (.list .str))),agg:=true,fields:=[(0,3),(1,25),(2,26)],elem:=0,bytes:=56}),(29,{ty:=(.list (.pair (.int .i64) (.pair (.int .i64) (.pair (.int .i64) (.pair (.int .i64) (.pair (.int .i64) .str)))))),agg:=false,fields:=[],elem:=88,bytes:=24}),(30,{ty:=(.pair (.int .i64) (.pair (.int .i64) (.pair (.int .i64) (.pair (.list (.pair (.int .i64) (.int .i64))) (.pair (.pair (.int .i64) (.pair (.list (.pair .str (.list (.pair (.int .i64) (.int .i64))))) (.list .str))) (.list (.pair (.int .i64) (.pair (.int .i64) (.pair (.int .i64) (.pair (.int .i64) (.pair (.int .i64) .str))))))))))),agg:=true,fields:=[(0,3),(1,3),(2,3),(3,24),(4,28),(7,29)],elem:=0,bytes:=128}),(31,{ty:=(.pair (.int .i64) (.pair (.int .i64) (.pair (.int .i64) (.pair (.list (.pair (.int .i64) (.int .i64))) (.pair (.pair (.int .i64) (.pair (.list (.pair .str (.list (.pair (.int .i64) (.int .i64))))) (.list .str))) (.list (.pair (.int .i64) (.pair (.int .i64) (.pair (.int .i64) (.pair (.int .i64) (.pair (.int .i64) .str))))))))))),agg:=true,fields:=[(0,3),(1,3),(2,3),(3,24),(4,28),(7,29)],elem:=0,bytes:=128}),(35,{ty:=(.pair (.int .i64) (.pair .str (.pair (.int .i64) (.pair (.int .i64) .str)))),agg:=true,fields:=[(0,3),(1,9),(2,3),(3,3),(4,9)],elem:=0,bytes:=56}),(36,{ty:=(.pair (.int .i64) (.pair .str (.pair (.int .i64) (.pair (.int .i64) .str)))),agg:=true,fields:=[(0,3),(1,9),(2,3),(3,3),(4,9)],elem:=0,bytes:=56}),(37,{ty:=(.pair (.int .i64) (.pair (.int .i64) (.pair (.int .i64) .str))),agg:=true,fields:=[(0,3),(1,3),(2,3),(3,9)],elem:=0,bytes:=40}),(38,{ty:=(.pair (.int .i64) (.pair (.int .i64) (.pair (.int .i64) .str))),agg:=true,fields:=[(0,3),(1,3),(2,3),(3,9)],elem:=0,bytes:=40}),(42,{ty:=(.pair (.int .i64) (.int .i64)),agg:=true,fields:=[(0,3),(1,3)],elem:=0,bytes:=16}),(43,{ty:=(.pair (.int .i64) (.int .i64)),agg:=true,fields:=[(0,3),(1,3)],elem:=0,bytes:=16}),(50,{ty:=(.list (.pair (.int .i64) (.int .i64))),agg:=false,fields:=[],elem:=169,bytes:=24}),(51,{ty:=(.list (.pair .str (.list (.pair (.int .i64) (.int .i64))))),agg:=false,fields:=[],elem:=214,bytes:=24}),(52,{ty:=(.pair (.int .i64) (.pair (.list (.pair .str (.list (.pair (.int .i64) (.int .i64))))) (.list .str))),agg:=true,fields:=[(0,3),(1,51),(2,26)],elem:=0,bytes:=56}),(53,{ty:=(.pair (.int .i64) (.pair (.list (.pair .str (.list (.pair (.int .i64) (.int .i64))))) (.list .str))),agg:=true,fields:=[(0,3),(1,51),(2,26)],elem:=0,bytes:=56}),(54,{ty:=(.list (.pair (.int .i64) (.pair (.int .i64) (.pair (.int .i64) (.pair (.int .i64) (.pair (.int .i64) .str)))))),agg:=false,fields:=[],elem:=167,bytes:=24}),(55,{ty:=(.pair (.int .i64) (.pair (.int .i64) (.pair (.int .i64) (.pair (.list (.pair (.int .i64) (.int .i64))) (.pair (.pair (.int .i64) (.pair (.list (.pair .str (.list (.pair (.int .i64) (.int .i64))))) (.list .str))) (.list (.pair (.int .i64) (.pair (.int .i64) (.pair (.int .i64) (.pair (.int .i64) (.pair (.int .i64) .str))))))))))),agg:=true,fields:=[(0,3),(1,3),(2,3),(3,50),(4,53),(7,54)],elem:=0,bytes:=128}),(56,{ty:=(.pair (.int .i64) (.pair (.int .i64) (.pair (.int .i64) (.pair (.list (.pair (.int .i64) (.int .i64))) (.pair (.pair (.int .i64) (.pair (.list (.pair .str (.list (.pair (.int .i64) (.int .i64))))) (.list .str))) (.list (.pair (.int .i64) (.pair (.int .i64) (.pair (.int .i64) (.pair (.int .i64) (.pair (.int .i64) .str))))))))))),agg:=true,fields:=[(0,3),(1,3),(2,3),(3,50),(4,53),(7,54)],elem:=0,bytes:=128}),(57,{ty:=(.pair (.int .i64) (.pair .str (.pair (.int .i64) (.pair (.int .i64) .str)))),agg:=true,fields:=[(0,3),(1,9),(2,3),(3,3),(4,9)],elem:=0,bytes:=56}),(64,{ty:=(.list (.pair (.int .i64) (.int .i64))),agg:=false,fields:=[],elem:=85,bytes:=24}),(82,{ty:=(.pair .str (.list (.pair (.int .i64) (.int .i64)))),agg:=true,fields:=[(0,9),(1,64)],elem:=0,bytes:=40}),(83,{ty:=(.pair .str (.list (.pair (.int .i64) (.int .i64)))),agg:=true,fields:=[(0,9),(1,64)],elem:=0,bytes:=40}),(84,{ty:=(.pair (.int .i64) (.int .i64)),agg:=true,fields:=[(0,3),(1,3)],elem:=0,bytes:=16}),(85,{ty:=(.pair (.int .i64) (.int .i64)),agg:=true,fields:=[(0,3),(1,3)],elem:=0,bytes:=16}),(87,{ty:=(.pair (.int .i64) (.pair (.int .i64) (.pair (.int .i64) (.pair (.int .i64) (.pair (.int .i64) .str))))),agg:=true,fields:=[(0,3),(1,3),(2,38)],elem:=0,bytes:=56}),(88,{ty:=(.pair (.int .i64) (.pair (.int .i64) (.pair (.int .i64) (.pair (.int .i64) (.pair (.int .i64) .str))))),agg:=true,fields:=[(0,3),(1,3),(2,38)],elem:=0,bytes:=56}),(94,{ty:=(.pair .str .bool),agg:=true,fields:=[(0,9),(1,4)],elem:=0,bytes:=24}),(95,{ty:=(.pair .str .bool),agg:=true,fields:=[(0,9),(1,4)],elem:=0,bytes:=24}),(132,{ty:=(.list (.list (.pair .str (.list (.pair (.int .i64) (.int .i64)))))),agg:=false,fields:=[],elem:=25,bytes:=24}),(138,{ty:=(.list (.int .i64)),agg:=false,fields:=[],elem:=3,bytes:=24}),(165,{ty:=(.pair (.int .i64) (.pair (.int .i64) (.pair (.int .i64) .str))),agg:=true,fields:=[(0,3),(1,3),(2,3),(3,9)],elem:=0,bytes:=40}),(166,{ty:=(.pair (.int .i64) (.pair (.int .i64) (.pair (.int .i64) (.pair (.int .i64) (.pair (.int .i64) .str))))),agg:=true,fields:=[(0,3),(1,3),(2,165)],elem:=0,bytes:=56}),(167,{ty:=(.pair (.int .i64) (.pair (.int .i64) (.pair (.int .i64) (.pair (.int .i64) (.pair (.int .i64) .str))))),agg:=true,fields:=[(0,3),(1,3),(2,165)],elem:=0,bytes:=56}),(169,{ty:=(.pair (.int .i64) (.int .i64)),agg:=true,fields:=[(0,3),(1,3)],elem:=0,bytes:=16}),(174,{ty:=(.pair (.list (.int .u8)) (.pair (.int .i64) (.int .i64))),agg:=true,fields:=[(0,22),(1,3),(2,3)],elem:=0,bytes:=40}),(208,{ty:=(.int .u64),agg:=false,fields:=[],elem:=0,bytes:=8}),(212,{ty:=(.list (.pair (.int .i64) (.int .i64))),agg:=false,fields:=[],elem:=244,bytes:=24}),(213,{ty:=(.pair .str (.list (.pair (.int .i64) (.int .i64)))),agg:=true,fields:=[(0,9),(1,212)],elem:=0,bytes:=40}),(214,{ty:=(.pair .str (.list (.pair (.int .i64) (.int .i64)))),agg:=true,fields:=[(0,9),(1,212)],elem:=0,bytes:=40}),(230,{ty:=(.int .u32),agg:=false,fields:=[],elem:=0,bytes:=4}),(244,{ty:=(.pair (.int .i64) (.int .i64)),agg:=true,fields:=[(0,3),(1,3)],elem:=0,bytes:=16}),(254,{ty:=(.int .u8),agg:=false,fields:=[],elem:=0,bytes:=1})]
theorem XiH:X0W Tryz.prog tab:=Xou (by kernel_rfl)
def eqs:List (TypeId×Ty):=[(36,(.pair (.int .i64) (.pair .str (.pair (.int .i64) (.pair (.int .i64) .str))))),(38,(.pair (.int .i64) (.pair (.int .i64) (.pair (.int .i64) .str)))),(43,(.pair (.int .i64) (.int .i64))),(85,(.pair (.int .i64) (.int .i64)))]
theorem Xrn:XrR Tryz.prog 36 (.pair (.int .i64) (.pair .str (.pair (.int .i64) (.pair (.int .i64) .str)))):=by
 refine⟨by kernel_rfl,fun w x y=>?_⟩
 show(Op.equalIn (9999+1) 36 (.agg #[.int .i64 x.1,.string ⟨x.2.1.toArray⟩,.int .i64 x.2.2.1,.int .i64 x.2.2.2.1,.string ⟨x.2.2.2.2.toArray⟩]) (.agg #[.int .i64 y.1,.string ⟨y.2.1.toArray⟩,.int .i64 y.2.2.1,.int .i64 y.2.2.2.1,.string ⟨y.2.2.2.2.toArray⟩])).run Tryz.prog w=.ok (x.1==y.1&&(x.2.1==y.2.1&&(x.2.2.1==y.2.2.1&&(x.2.2.2.1==y.2.2.2.1&&(x.2.2.2.2==y.2.2.2.2&&true))))) w
 rw[run_equalIn_struct w 9999 36 _ _ (by kernel_rfl) (by kernel_rfl),X7e]
 have hf:((Tryz.prog.fieldsOf 36).toList.map fun f=>(decide (f.name≠ "_"),f.type,f.offset))=[(true,3,0),(true,9,1),(true,3,2),(true,3,3),(true,9,4)]:=by kernel_rfl
 rw[hf]
 exact X5h (run_part_plain w (by kernel_rfl) rfl) (run_part_plain w (by kernel_rfl) rfl) (run_equalIn_int w 9998 3 .i64 .i64 _ _ (by kernel_rfl)) (X5h (run_part_plain w (by kernel_rfl) rfl) (run_part_plain w (by kernel_rfl) rfl) ((run_equalIn_string w 9998 9 _ _ (by kernel_rfl)).trans (by rw[X81,X81])) (X5h (run_part_plain w (by kernel_rfl) rfl) (run_part_plain w (by kernel_rfl) rfl) (run_equalIn_int w 9998 3 .i64 .i64 _ _ (by kernel_rfl)) (X5h (run_part_plain w (by kernel_rfl) rfl) (run_part_plain w (by kernel_rfl) rfl) (run_equalIn_int w 9998 3 .i64 .i64 _ _ (by kernel_rfl)) (X5h (run_part_plain w (by kernel_rfl) rfl) (run_part_plain w (by kernel_rfl) rfl) ((run_equalIn_string w 9998 9 _ _ (by kernel_rfl)).trans (by rw[X81,X81])) (rfl)))))
theorem XrD:XrR Tryz.prog 38 (.pair (.int .i64) (.pair (.int .i64) (.pair (.int .i64) .str))):=by
 refine⟨by kernel_rfl,fun w x y=>?_⟩
 show(Op.equalIn (9999+1) 38 (.agg #[.int .i64 x.1,.int .i64 x.2.1,.int .i64 x.2.2.1,.string ⟨x.2.2.2.toArray⟩]) (.agg #[.int .i64 y.1,.int .i64 y.2.1,.int .i64 y.2.2.1,.string ⟨y.2.2.2.toArray⟩])).run Tryz.prog w=.ok (x.1==y.1&&(x.2.1==y.2.1&&(x.2.2.1==y.2.2.1&&(x.2.2.2==y.2.2.2&&true)))) w
 rw[run_equalIn_struct w 9999 38 _ _ (by kernel_rfl) (by kernel_rfl),X7e]
 have hf:((Tryz.prog.fieldsOf 38).toList.map fun f=>(decide (f.name≠ "_"),f.type,f.offset))=[(true,3,0),(true,3,1),(true,3,2),(true,9,3)]:=by kernel_rfl
 rw[hf]
 exact X5h (run_part_plain w (by kernel_rfl) rfl) (run_part_plain w (by kernel_rfl) rfl) (run_equalIn_int w 9998 3 .i64 .i64 _ _ (by kernel_rfl)) (X5h (run_part_plain w (by kernel_rfl) rfl) (run_part_plain w (by kernel_rfl) rfl) (run_equalIn_int w 9998 3 .i64 .i64 _ _ (by kernel_rfl)) (X5h (run_part_plain w (by kernel_rfl) rfl) (run_part_plain w (by kernel_rfl) rfl) (run_equalIn_int w 9998 3 .i64 .i64 _ _ (by kernel_rfl)) (X5h (run_part_plain w (by kernel_rfl) rfl) (run_part_plain w (by kernel_rfl) rfl) ((run_equalIn_string w 9998 9 _ _ (by kernel_rfl)).trans (by rw[X81,X81])) (rfl))))
theorem XrM:XrR Tryz.prog 43 (.pair (.int .i64) (.int .i64)):=by
 refine⟨by kernel_rfl,fun w x y=>?_⟩
 show(Op.equalIn (9999+1) 43 (.agg #[.int .i64 x.1,.int .i64 x.2]) (.agg #[.int .i64 y.1,.int .i64 y.2])).run Tryz.prog w=.ok (x.1==y.1&&(x.2==y.2&&true)) w
 rw[run_equalIn_struct w 9999 43 _ _ (by kernel_rfl) (by kernel_rfl),X7e]
 have hf:((Tryz.prog.fieldsOf 43).toList.map fun f=>(decide (f.name≠ "_"),f.type,f.offset))=[(true,3,0),(true,3,1)]:=by kernel_rfl
 rw[hf]
 exact X5h (run_part_plain w (by kernel_rfl) rfl) (run_part_plain w (by kernel_rfl) rfl) (run_equalIn_int w 9998 3 .i64 .i64 _ _ (by kernel_rfl)) (X5h (run_part_plain w (by kernel_rfl) rfl) (run_part_plain w (by kernel_rfl) rfl) (run_equalIn_int w 9998 3 .i64 .i64 _ _ (by kernel_rfl)) (rfl))
theorem Xru:XrR Tryz.prog 85 (.pair (.int .i64) (.int .i64)):=by
 refine⟨by kernel_rfl,fun w x y=>?_⟩
 show(Op.equalIn (9999+1) 85 (.agg #[.int .i64 x.1,.int .i64 x.2]) (.agg #[.int .i64 y.1,.int .i64 y.2])).run Tryz.prog w=.ok (x.1==y.1&&(x.2==y.2&&true)) w
 rw[run_equalIn_struct w 9999 85 _ _ (by kernel_rfl) (by kernel_rfl),X7e]
 have hf:((Tryz.prog.fieldsOf 85).toList.map fun f=>(decide (f.name≠ "_"),f.type,f.offset))=[(true,3,0),(true,3,1)]:=by kernel_rfl
 rw[hf]
 exact X5h (run_part_plain w (by kernel_rfl) rfl) (run_part_plain w (by kernel_rfl) rfl) (run_equalIn_int w 9998 3 .i64 .i64 _ _ (by kernel_rfl)) (X5h (run_part_plain w (by kernel_rfl) rfl) (run_part_plain w (by kernel_rfl) rfl) (run_equalIn_int w 9998 3 .i64 .i64 _ _ (by kernel_rfl)) (rfl))
theorem eqsOk:Xo1 Tryz.prog eqs:=fun t τ h=>by
 unfold eqs at h
 simp only[X06]at h
 split at h
 · rename_i e;subst e;cases h;exact Xrn
 split at h
 · rename_i e;subst e;cases h;exact XrD
 split at h
 · rename_i e;subst e;cases h;exact XrM
 split at h
 · rename_i e;subst e;cases h;exact Xru
 · cases h
theorem Xqk:X8C tab tab=true:=by kernel_rfl
end Go.Proofs.YtcfaphojdacmbaaGreatR.B
