import Derived.Test.YtaffjcaohbkmoaaQFnBundlesx0
import Derived.Test.YtaffjcaohbkmoaaQFnBundlesx17
import Derived.Test.YtaffjcaohbkmoaaQFnBundlesx18
import Derived.Test.YtaffjcaohbkmoaaQFnBundlesx19
namespace Go.Proofs.Ytaffjcaohbkmoaa.QFnBundles
open Go.RowKit Go.Proofs.YtaffjcaohbkmoaaW.PrintWords Go.Proofs.YtaffjcaohbkmoaaW.PrintLast Go.Proofs.YtaffjcaohbkmoaaW.PrintMore
attribute [local go_sem] max2_int min2_int max_two min_two max_three min_three max_four min_four   -- for this text's walks alone
set_option linter.unusedVariables false
set_option linter.unusedSimpArgs false
theorem spec_ReadBundle.calls (k : Nat) (a0 : ByteArray) (r1 : Int) (r2 : Int) (r3 : Bool) (r4 : Int) (r5 : Int) (r6 : Int) (r7 : Int) (r8 : Int) (r9 : Int) (r10 : ByteArray) (r11 : Bool) (w : World) (h : spec_ReadBundle.f k a0 = some (r1, r2, r3, r4, r5, r6, r7, r8, r9, r10, r11)) :
 Calls Try.prog 22 #[.string a0] w fun e w' => e = .returned (.tuple #[.agg #[.int .i64 r1, .int .i64 r2, .bool r3, .int .i64 r4, .int .i64 r5, .int .i64 r6, .int .i64 r7, .int .i64 r8, .int .i64 r9, .string r10], .bool r11]) ∧ Below w.heap.size w w' := by
 cases hrb : r11 with
 | true => subst hrb; exact spec_ReadBundle.calls_T k a0 r1 r2 r3 r4 r5 r6 r7 r8 r9 r10 true w rfl h
 | false => subst hrb; exact spec_ReadBundle.calls_F k a0 r1 r2 r3 r4 r5 r6 r7 r8 r9 r10 false w rfl h
end Go.Proofs.Ytaffjcaohbkmoaa.QFnBundles
