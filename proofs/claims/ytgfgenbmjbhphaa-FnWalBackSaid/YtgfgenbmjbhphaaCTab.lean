/- The table of the types that are met. -/
import Derived.Test.YtgfgenbmjbhphaaWD
import Derived.Test.YtgfgenbmjbhphaaChecked
namespace Go.Proofs.Ytgfgenbmjbhphaa.B
set_option linter.unusedVariables false
set_option linter.unusedSimpArgs false
open Go Go.Proofs.Ytgfgenbmjbhphaa.Bv
def tab:Tab:=[(2,{ty:=(.int .i64),agg:=false,fields:=[],elem:=0,bytes:=8}),(3,{ty:=(.int .i64),agg:=false,fields:=[],elem:=0,bytes:=8}),(4,{ty:=.bool,agg:=false,fields:=[],elem:=0,bytes:=1}),(5,{ty:=(.int .u8),agg:=false,fields:=[],elem:=0,bytes:=1}),(6,{ty:=(.int .u8),agg:=false,fields:=[],elem:=0,bytes:=1}),(7,{ty:=(.pair (.int .i64) (.pair (.int .i64) (.pair .bool (.int .u8)))),agg:=true,fields:=[(0,2),(1,3),(2,4),(3,6)],elem:=0,bytes:=24}),(8,{ty:=(.pair (.int .i64) (.pair (.int .i64) (.pair .bool (.int .u8)))),agg:=true,fields:=[(0,2),(1,3),(2,4),(3,6)],elem:=0,bytes:=24}),(9,{ty:=.str,agg:=false,fields:=[],elem:=0,bytes:=16}),(10,{ty:=.str,agg:=false,fields:=[],elem:=0,bytes:=16}),(11,{ty:=.str,agg:=false,fields:=[],elem:=0,bytes:=16}),(12,{ty:=(.int .u64),agg:=false,fields:=[],elem:=0,bytes:=8}),(13,{ty:=(.pair .str (.int .u64)),agg:=true,fields:=[(0,9),(1,12)],elem:=0,bytes:=24}),(14,{ty:=(.pair .str (.int .u64)),agg:=true,fields:=[(0,9),(1,12)],elem:=0,bytes:=24}),(21,{ty:=(.int .i32),agg:=false,fields:=[],elem:=0,bytes:=4}),(22,{ty:=(.list (.int .u8)),agg:=false,fields:=[],elem:=5,bytes:=24}),(24,{ty:=(.list (.pair (.int .i64) .str)),agg:=false,fields:=[],elem:=53,bytes:=24}),(25,{ty:=(.pair (.int .i64) (.pair (.int .i64) (.pair (.int .i64) (.pair (.int .i64) (.list (.pair (.int .i64) .str)))))),agg:=true,fields:=[(0,3),(1,3),(2,3),(3,3),(4,24)],elem:=0,bytes:=56}),(26,{ty:=(.pair (.int .i64) (.pair (.int .i64) (.pair (.int .i64) (.pair (.int .i64) (.list (.pair (.int .i64) .str)))))),agg:=true,fields:=[(0,3),(1,3),(2,3),(3,3),(4,24)],elem:=0,bytes:=56}),(29,{ty:=(.list (.pair (.int .i64) (.pair (.int .i64) (.pair (.int .i64) (.pair (.int .i64) .str))))),agg:=false,fields:=[],elem:=35,bytes:=24}),(34,{ty:=(.pair (.int .i64) (.pair (.int .i64) (.pair (.int .i64) (.pair (.int .i64) .str)))),agg:=true,fields:=[(0,3),(1,3),(2,3),(3,3),(4,9)],elem:=0,bytes:=48}),(35,{ty:=(.pair (.int .i64) (.pair (.int .i64) (.pair (.int .i64) (.pair (.int .i64) .str)))),agg:=true,fields:=[(0,3),(1,3),(2,3),(3,3),(4,9)],elem:=0,bytes:=48}),(52,{ty:=(.pair (.int .i64) .str),agg:=true,fields:=[(0,3),(1,9)],elem:=0,bytes:=24}),(53,{ty:=(.pair (.int .i64) .str),agg:=true,fields:=[(0,3),(1,9)],elem:=0,bytes:=24}),(61,{ty:=(.pair .str .bool),agg:=true,fields:=[(0,9),(1,4)],elem:=0,bytes:=24}),(62,{ty:=(.pair .str .bool),agg:=true,fields:=[(0,9),(1,4)],elem:=0,bytes:=24}),(67,{ty:=(.list .str),agg:=false,fields:=[],elem:=9,bytes:=24}),(70,{ty:=(.pair (.list (.int .u8)) (.pair (.int .i64) (.int .i64))),agg:=true,fields:=[(0,22),(1,3),(2,3)],elem:=0,bytes:=40}),(71,{ty:=(.pair (.list (.int .u8)) (.pair (.int .i64) (.int .i64))),agg:=true,fields:=[(0,22),(1,3),(2,3)],elem:=0,bytes:=40}),(74,{ty:=(.list (.int .i64)),agg:=false,fields:=[],elem:=3,bytes:=24}),(90,{ty:=(.int .u64),agg:=false,fields:=[],elem:=0,bytes:=8}),(91,{ty:=(.int .u32),agg:=false,fields:=[],elem:=0,bytes:=4}),(98,{ty:=(.int .u8),agg:=false,fields:=[],elem:=0,bytes:=1}),(99,{ty:=(.int .u8),agg:=false,fields:=[],elem:=0,bytes:=1}),(103,{ty:=(.int .i32),agg:=false,fields:=[],elem:=0,bytes:=4})]
theorem tabOk:TabOk Try.prog tab:=tabOk_of (by kernel_rfl)
def eqs:List (TypeId×Ty):=[(35,(.pair (.int .i64) (.pair (.int .i64) (.pair (.int .i64) (.pair (.int .i64) .str))))),(53,(.pair (.int .i64) .str))]
set_option maxRecDepth 100000 in
theorem eqOk35:EqOk Try.prog 35 (.pair (.int .i64) (.pair (.int .i64) (.pair (.int .i64) (.pair (.int .i64) .str)))):=by
 refine⟨by kernel_rfl,fun w x y=>?_⟩
 show (Op.equalIn (9999+1) 35 (.agg #[.int .i64 x.1,.int .i64 x.2.1,.int .i64 x.2.2.1,.int .i64 x.2.2.2.1,.string ⟨x.2.2.2.2.toArray⟩]) (.agg #[.int .i64 y.1,.int .i64 y.2.1,.int .i64 y.2.2.1,.int .i64 y.2.2.2.1,.string ⟨y.2.2.2.2.toArray⟩])).run Try.prog w=.ok (x.1==y.1&&(x.2.1==y.2.1&&(x.2.2.1==y.2.2.1&&(x.2.2.2.1==y.2.2.2.1&&(x.2.2.2.2==y.2.2.2.2&&true))))) w
 rw [run_equalIn_struct w 9999 35 _ _ (by kernel_rfl) (by kernel_rfl),eqFields_map]
 have hf:((Try.prog.fieldsOf 35).toList.map fun f=>(decide (f.name≠ "_"),f.type,f.offset))=[(true,3,0),(true,3,1),(true,3,2),(true,3,3),(true,9,4)]:=by kernel_rfl
 rw [hf]
 exact eqF_step (run_part_plain w (by kernel_rfl) rfl) (run_part_plain w (by kernel_rfl) rfl) (run_equalIn_int w 9998 3 .i64 .i64 _ _ (by kernel_rfl)) (eqF_step (run_part_plain w (by kernel_rfl) rfl) (run_part_plain w (by kernel_rfl) rfl) (run_equalIn_int w 9998 3 .i64 .i64 _ _ (by kernel_rfl)) (eqF_step (run_part_plain w (by kernel_rfl) rfl) (run_part_plain w (by kernel_rfl) rfl) (run_equalIn_int w 9998 3 .i64 .i64 _ _ (by kernel_rfl)) (eqF_step (run_part_plain w (by kernel_rfl) rfl) (run_part_plain w (by kernel_rfl) rfl) (run_equalIn_int w 9998 3 .i64 .i64 _ _ (by kernel_rfl)) (eqF_step (run_part_plain w (by kernel_rfl) rfl) (run_part_plain w (by kernel_rfl) rfl) ((run_equalIn_string w 9998 9 _ _ (by kernel_rfl)).trans (by rw [toList_mk,toList_mk])) (rfl)))))
set_option maxRecDepth 100000 in
theorem eqOk53:EqOk Try.prog 53 (.pair (.int .i64) .str):=by
 refine⟨by kernel_rfl,fun w x y=>?_⟩
 show (Op.equalIn (9999+1) 53 (.agg #[.int .i64 x.1,.string ⟨x.2.toArray⟩]) (.agg #[.int .i64 y.1,.string ⟨y.2.toArray⟩])).run Try.prog w=.ok (x.1==y.1&&(x.2==y.2&&true)) w
 rw [run_equalIn_struct w 9999 53 _ _ (by kernel_rfl) (by kernel_rfl),eqFields_map]
 have hf:((Try.prog.fieldsOf 53).toList.map fun f=>(decide (f.name≠ "_"),f.type,f.offset))=[(true,3,0),(true,9,1)]:=by kernel_rfl
 rw [hf]
 exact eqF_step (run_part_plain w (by kernel_rfl) rfl) (run_part_plain w (by kernel_rfl) rfl) (run_equalIn_int w 9998 3 .i64 .i64 _ _ (by kernel_rfl)) (eqF_step (run_part_plain w (by kernel_rfl) rfl) (run_part_plain w (by kernel_rfl) rfl) ((run_equalIn_string w 9998 9 _ _ (by kernel_rfl)).trans (by rw [toList_mk,toList_mk])) (rfl))
theorem eqsOk:EqsOk Try.prog eqs:=fun t τ h=>by
 unfold eqs at h
 simp only [look_cons] at h
 split at h
 · rename_i e;subst e;cases h;exact eqOk35
 split at h
 · rename_i e;subst e;cases h;exact eqOk53
 · cases h
theorem consist:consistB tab tab=true:=by kernel_rfl
end Go.Proofs.Ytgfgenbmjbhphaa.B
