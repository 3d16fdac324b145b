/- The abstract machine's tables for this seat, and that they say what the program is: printed by a program of ours (AmEnv.lean). -/
import Derived.Test.YtihmliblbhjlaaaAmB
import Derived.Test.YtihmliblbhjlaaaChecked
namespace Go.Proofs.Ytihmliblbhjlaaa
open Go.Am
noncomputable def E.tyTr : Tr Ty := (.node none (.node (some ⟨0, 1, 8, [.nilf], 0, 0, [], .i64⟩) (.node (some ⟨1, 1, 8, [(.int .i64 0)], 0, 0, [], .i64⟩) (.node (some ⟨6, 4, 24, [(.int .i64 0), (.int .i64 0), (.bool false), (.int .u8 0)], 0, 0, [(0, 2, 1), (1, 3, 1), (2, 4, 1), (3, 6, 1)], .i64⟩) (.node (some ⟨7, 1, 8, [.nilp], 225, 0, [], .i64⟩) (.node none (.node (some ⟨0, 1, 8, [.nilf], 0, 0, [], .i64⟩) (.node (some ⟨0, 1, 8, [.nilf], 0, 0, [], .i64⟩) .nil .nil) (.node (some ⟨0, 1, 8, [.nilf], 0, 0, [], .i64⟩) .nil .nil)) (.node (some ⟨0, 1, 8, [.nilf], 0, 0, [], .i64⟩) (.node (some ⟨0, 1, 8, [.nilf], 0, 0, [], .i64⟩) .nil .nil) (.node (some ⟨0, 1, 8, [.nilf], 0, 0, [], .i64⟩) .nil .nil))) (.node (some ⟨0, 1, 8, [.nilf], 0, 0, [], .i64⟩) (.node (some ⟨6, 2, 32, [(.int .i64 0), .nils], 0, 0, [(0, 3, 1), (1, 78, 1)], .i64⟩) (.node (some ⟨0, 1, 8, [.undef], 0, 0, [], .i64⟩) .nil .nil) (.node (some ⟨0, 1, 8, [.nilf], 0, 0, [], .i64⟩) .nil .nil)) (.node (some ⟨0, 1, 8, [.nilf], 0, 0, [], .i64⟩) (.node (some ⟨0, 1, 8, [.nilf], 0, 0, [], .i64⟩) .nil .nil) .nil))) (.node (some ⟨6, 2, 48, [.nils, .nils], 0, 0, [(0, 22, 1), (1, 22, 1)], .i64⟩) (.node (some ⟨0, 1, 8, [.nilf], 0, 0, [], .i64⟩) (.node (some ⟨0, 1, 8, [.nilf], 0, 0, [], .i64⟩) (.node (some ⟨0, 1, 8, [.undef], 0, 0, [], .i64⟩) .nil .nil) (.node (some ⟨0, 1, 8, [.nilf], 0, 0, [], .i64⟩) .nil .nil)) (.node (some ⟨4, 1, 24, [.nils], 167, 0, [], .i64⟩) (.node (some ⟨6, 2, 16, [(.int .i64 0), (.int .i64 0)], 0, 0, [(0, 3, 1), (1, 3, 1)], .i64⟩) .nil .nil) (.node (some ⟨1, 1, 1, [(.int .u8 0)], 0, 0, [], .u8⟩) .nil .nil))) (.node (some ⟨0, 1, 8, [.nilf], 0, 0, [], .i64⟩) (.node (some ⟨0, 1, 8, [.nilf], 0, 0, [], .i64⟩) (.node (some ⟨1, 1, 8, [(.int .u64 0)], 0, 0, [], .u64⟩) .nil .nil) (.node (some ⟨0, 1, 8, [.nilf], 0, 0, [], .i64⟩) .nil .nil)) (.node (some ⟨6, 3, 24, [(.int .i64 0), (.int .i64 0), (.int .i64 0)], 0, 0, [(0, 3, 1), (1, 3, 1), (2, 3, 1)], .i64⟩) .nil .nil)))) (.node (some ⟨3, 1, 16, [(.str [])], 0, 0, [], .i64⟩) (.node none (.node (some ⟨0, 1, 8, [.nilf], 0, 0, [], .i64⟩) (.node (some ⟨0, 1, 8, [.nilf], 0, 0, [], .i64⟩) (.node (some ⟨0, 1, 8, [.nilf], 0, 0, [], .i64⟩) .nil .nil) (.node (some ⟨0, 1, 8, [.nilf], 0, 0, [], .i64⟩) .nil .nil)) (.node (some ⟨0, 1, 8, [.nilf], 0, 0, [], .i64⟩) (.node (some ⟨0, 1, 8, [.nilf], 0, 0, [], .i64⟩) .nil .nil) .nil)) (.node none (.node (some ⟨0, 1, 8, [.nilf], 0, 0, [], .i64⟩) (.node (some ⟨0, 1, 8, [.nilf], 0, 0, [], .i64⟩) .nil .nil) (.node (some ⟨0, 1, 8, [.nilf], 0, 0, [], .i64⟩) .nil .nil)) (.node (some ⟨6, 4, 24, [(.int .i64 0), (.int .i64 0), (.bool false), (.bool false)], 0, 0, [(0, 3, 1), (1, 3, 1), (2, 4, 1), (3, 4, 1)], .i64⟩) (.node (some ⟨0, 1, 8, [.nilf], 0, 0, [], .i64⟩) .nil .nil) .nil))) (.node (some ⟨1, 1, 8, [(.int .i64 0)], 0, 0, [], .i64⟩) (.node (some ⟨0, 1, 8, [.nilf], 0, 0, [], .i64⟩) (.node (some ⟨0, 1, 8, [.nilf], 0, 0, [], .i64⟩) (.node (some ⟨0, 1, 8, [.nilf], 0, 0, [], .i64⟩) .nil .nil) (.node (some ⟨0, 1, 8, [.nilf], 0, 0, [], .i64⟩) .nil .nil)) (.node (some ⟨0, 1, 8, [.nilf], 0, 0, [], .i64⟩) (.node (some ⟨0, 1, 8, [.nilf], 0, 0, [], .i64⟩) .nil .nil) (.node (some ⟨1, 1, 4, [(.int .i32 0)], 0, 0, [], .i32⟩) .nil .nil))) (.node (some ⟨0, 1, 8, [.nilf], 0, 0, [], .i64⟩) (.node (some ⟨0, 1, 8, [.nilf], 0, 0, [], .i64⟩) (.node (some ⟨0, 1, 8, [.nilf], 0, 0, [], .i64⟩) .nil .nil) (.node (some ⟨0, 1, 8, [.nilf], 0, 0, [], .i64⟩) .nil .nil)) (.node (some ⟨7, 1, 8, [.nilp], 115, 0, [], .i64⟩) (.node (some ⟨0, 1, 8, [.nilf], 0, 0, [], .i64⟩) .nil .nil) .nil))))) (.node (some ⟨1, 1, 1, [(.int .u8 0)], 0, 0, [], .u8⟩) (.node (some ⟨3, 1, 16, [(.str [])], 0, 0, [], .i64⟩) (.node (some ⟨7, 1, 8, [.nilp], 237, 0, [], .i64⟩) (.node (some ⟨0, 1, 8, [.nilf], 0, 0, [], .i64⟩) (.node (some ⟨0, 1, 8, [.nilf], 0, 0, [], .i64⟩) (.node (some ⟨0, 1, 8, [.nilf], 0, 0, [], .i64⟩) .nil .nil) (.node (some ⟨0, 1, 8, [.nilf], 0, 0, [], .i64⟩) .nil .nil)) (.node (some ⟨0, 1, 8, [.nilf], 0, 0, [], .i64⟩) (.node (some ⟨4, 1, 24, [.nils], 27, 0, [], .i64⟩) .nil .nil) .nil)) (.node (some ⟨6, 2, 48, [.nils, .nils], 0, 0, [(0, 48, 1), (1, 48, 1)], .i64⟩) (.node none (.node (some ⟨0, 1, 8, [.nilf], 0, 0, [], .i64⟩) .nil .nil) (.node (some ⟨0, 1, 8, [.nilf], 0, 0, [], .i64⟩) .nil .nil)) (.node (some ⟨4, 1, 24, [.nils], 117, 0, [], .i64⟩) (.node (some ⟨0, 1, 8, [.nilf], 0, 0, [], .i64⟩) .nil .nil) .nil))) (.node (some ⟨6, 2, 16, [(.int .i64 0), (.int .i64 0)], 0, 0, [(0, 3, 1), (1, 3, 1)], .i64⟩) (.node (some ⟨4, 1, 24, [.nils], 119, 0, [], .i64⟩) (.node (some ⟨0, 1, 8, [.nilf], 0, 0, [], .i64⟩) (.node (some ⟨5, 2, 16, [(.int .i64 0), (.int .i64 0)], 3, 2, [], .i64⟩) .nil .nil) (.node (some ⟨1, 1, 8, [(.int .u64 0)], 0, 0, [], .u64⟩) .nil .nil)) (.node (some ⟨0, 1, 8, [.nilf], 0, 0, [], .i64⟩) (.node (some ⟨0, 1, 8, [.nilf], 0, 0, [], .i64⟩) .nil .nil) (.node (some ⟨7, 1, 8, [.nilp], 5, 0, [], .i64⟩) .nil .nil))) (.node (some ⟨0, 1, 8, [.nilf], 0, 0, [], .i64⟩) (.node (some ⟨0, 1, 8, [.nilf], 0, 0, [], .i64⟩) (.node (some ⟨0, 1, 8, [.nilf], 0, 0, [], .i64⟩) .nil .nil) (.node (some ⟨0, 1, 8, [.nilf], 0, 0, [], .i64⟩) .nil .nil)) (.node (some ⟨0, 1, 8, [.nilf], 0, 0, [], .i64⟩) (.node (some ⟨0, 1, 8, [.nilf], 0, 0, [], .i64⟩) .nil .nil) .nil)))) (.node none (.node (some ⟨1, 1, 4, [(.int .i32 0)], 0, 0, [], .i32⟩) (.node (some ⟨0, 1, 8, [.nilf], 0, 0, [], .i64⟩) (.node none (.node (some ⟨0, 1, 8, [.nilf], 0, 0, [], .i64⟩) .nil .nil) (.node (some ⟨0, 1, 8, [.nilf], 0, 0, [], .i64⟩) .nil .nil)) (.node (some ⟨0, 1, 8, [.nilf], 0, 0, [], .i64⟩) (.node (some ⟨0, 1, 8, [.nilf], 0, 0, [], .i64⟩) .nil .nil) (.node (some ⟨0, 1, 8, [.nilf], 0, 0, [], .i64⟩) .nil .nil))) (.node none (.node (some ⟨0, 1, 8, [.nilf], 0, 0, [], .i64⟩) (.node (some ⟨0, 1, 8, [.nilf], 0, 0, [], .i64⟩) .nil .nil) (.node (some ⟨0, 1, 8, [.nilf], 0, 0, [], .i64⟩) .nil .nil)) (.node (some ⟨6, 5, 32, [(.int .i64 0), (.int .i64 0), (.bool false), (.bool false), (.int .i64 0)], 0, 0, [(0, 115, 4), (4, 3, 1)], .i64⟩) (.node (some ⟨0, 1, 8, [.nilf], 0, 0, [], .i64⟩) .nil .nil) .nil))) (.node (some ⟨0, 1, 8, [.nilf], 0, 0, [], .i64⟩) (.node none (.node (some ⟨0, 1, 8, [.nilf], 0, 0, [], .i64⟩) (.node (some ⟨5, 6, 48, (List.replicate 6 (.int .i64 0)), 3, 6, [], .i64⟩) .nil .nil) (.node (some ⟨7, 1, 8, [.nilp], 3, 0, [], .i64⟩) .nil .nil)) (.node (some ⟨0, 1, 8, [.nilf], 0, 0, [], .i64⟩) (.node (some ⟨0, 1, 8, [.nilf], 0, 0, [], .i64⟩) .nil .nil) .nil)) (.node none (.node (some ⟨0, 1, 8, [.nilf], 0, 0, [], .i64⟩) (.node (some ⟨0, 1, 8, [.nilf], 0, 0, [], .i64⟩) .nil .nil) (.node (some ⟨0, 1, 8, [.nilf], 0, 0, [], .i64⟩) .nil .nil)) (.node none (.node (some ⟨0, 1, 8, [.nilf], 0, 0, [], .i64⟩) .nil .nil) .nil)))))) (.node (some ⟨1, 1, 8, [(.int .i64 0)], 0, 0, [], .i64⟩) (.node (some ⟨2, 1, 1, [(.bool false)], 0, 0, [], .i64⟩) (.node (some ⟨6, 4, 24, [(.int .i64 0), (.int .i64 0), (.bool false), (.int .u8 0)], 0, 0, [(0, 2, 1), (1, 3, 1), (2, 4, 1), (3, 6, 1)], .i64⟩) (.node (some ⟨7, 1, 8, [.nilp], 228, 0, [], .i64⟩) (.node (some ⟨0, 1, 8, [.nilf], 0, 0, [], .i64⟩) (.node (some ⟨0, 1, 8, [.nilf], 0, 0, [], .i64⟩) (.node (some ⟨0, 1, 8, [.nilf], 0, 0, [], .i64⟩) .nil .nil) (.node (some ⟨0, 1, 8, [.nilf], 0, 0, [], .i64⟩) .nil .nil)) (.node (some ⟨0, 1, 8, [.nilf], 0, 0, [], .i64⟩) (.node (some ⟨0, 1, 8, [.nilf], 0, 0, [], .i64⟩) .nil .nil) .nil)) (.node (some ⟨4, 1, 24, [.nils], 22, 0, [], .i64⟩) (.node (some ⟨6, 2, 32, [(.int .i64 0), .nils], 0, 0, [(0, 3, 1), (1, 78, 1)], .i64⟩) (.node (some ⟨0, 1, 8, [.nilf], 0, 0, [], .i64⟩) .nil .nil) (.node (some ⟨0, 1, 8, [.nilf], 0, 0, [], .i64⟩) .nil .nil)) (.node (some ⟨0, 1, 8, [.nilf], 0, 0, [], .i64⟩) (.node (some ⟨0, 1, 8, [.nilf], 0, 0, [], .i64⟩) .nil .nil) .nil))) (.node (some ⟨6, 2, 48, [.nils, .nils], 0, 0, [(0, 22, 1), (1, 22, 1)], .i64⟩) (.node (some ⟨4, 1, 24, [.nils], 115, 0, [], .i64⟩) (.node (some ⟨0, 1, 8, [.nilf], 0, 0, [], .i64⟩) .nil (.node (some ⟨0, 1, 8, [.nilf], 0, 0, [], .i64⟩) .nil .nil)) (.node none (.node (some ⟨0, 1, 8, [.nilf], 0, 0, [], .i64⟩) .nil .nil) (.node (some ⟨0, 1, 8, [.nilf], 0, 0, [], .i64⟩) .nil .nil))) (.node (some ⟨0, 1, 8, [.nilf], 0, 0, [], .i64⟩) (.node (some ⟨0, 1, 8, [.nilf], 0, 0, [], .i64⟩) (.node (some ⟨1, 1, 8, [(.int .u64 0)], 0, 0, [], .u64⟩) .nil .nil) (.node (some ⟨7, 1, 8, [.nilp], 201, 0, [], .i64⟩) .nil .nil)) (.node (some ⟨0, 1, 8, [.nilf], 0, 0, [], .i64⟩) (.node (some ⟨0, 1, 8, [.nilf], 0, 0, [], .i64⟩) .nil .nil) .nil)))) (.node (some ⟨1, 1, 8, [(.int .u64 0)], 0, 0, [], .u64⟩) (.node (some ⟨0, 1, 16, [.undef], 0, 0, [], .i64⟩) (.node (some ⟨0, 1, 8, [.nilf], 0, 0, [], .i64⟩) (.node (some ⟨0, 1, 8, [.nilf], 0, 0, [], .i64⟩) (.node (some ⟨0, 1, 8, [.nilf], 0, 0, [], .i64⟩) .nil .nil) (.node (some ⟨0, 1, 8, [.nilf], 0, 0, [], .i64⟩) .nil .nil)) (.node (some ⟨0, 1, 8, [.nilf], 0, 0, [], .i64⟩) (.node (some ⟨0, 1, 8, [.nilf], 0, 0, [], .i64⟩) .nil .nil) .nil)) (.node (some ⟨0, 1, 8, [.nilf], 0, 0, [], .i64⟩) (.node none (.node (some ⟨0, 1, 8, [.nilf], 0, 0, [], .i64⟩) .nil .nil) (.node (some ⟨0, 1, 8, [.nilf], 0, 0, [], .i64⟩) .nil .nil)) (.node (some ⟨6, 5, 32, [(.int .i64 0), (.int .i64 0), (.bool false), (.bool false), (.int .i64 0)], 0, 0, [(0, 115, 4), (4, 3, 1)], .i64⟩) (.node (some ⟨0, 1, 8, [.nilf], 0, 0, [], .i64⟩) .nil .nil) .nil))) (.node none (.node (some ⟨0, 1, 8, [.nilf], 0, 0, [], .i64⟩) (.node (some ⟨0, 1, 8, [.nilf], 0, 0, [], .i64⟩) (.node (some ⟨0, 1, 8, [.nilf], 0, 0, [], .i64⟩) .nil .nil) (.node (some ⟨0, 1, 8, [.nilf], 0, 0, [], .i64⟩) .nil .nil)) (.node (some ⟨0, 1, 8, [.nilf], 0, 0, [], .i64⟩) (.node (some ⟨0, 1, 8, [.nilf], 0, 0, [], .i64⟩) .nil .nil) .nil)) (.node (some ⟨0, 1, 8, [.nilf], 0, 0, [], .i64⟩) (.node (some ⟨0, 1, 8, [.nilf], 0, 0, [], .i64⟩) (.node (some ⟨4, 1, 24, [.nils], 78, 0, [], .i64⟩) .nil .nil) (.node (some ⟨0, 1, 8, [.nilf], 0, 0, [], .i64⟩) .nil .nil)) (.node (some ⟨0, 1, 8, [.nilf], 0, 0, [], .i64⟩) (.node (some ⟨0, 1, 8, [.nilf], 0, 0, [], .i64⟩) .nil .nil) .nil))))) (.node (some ⟨1, 1, 1, [(.int .u8 0)], 0, 0, [], .u8⟩) (.node (some ⟨3, 1, 16, [(.str [])], 0, 0, [], .i64⟩) (.node none (.node none (.node (some ⟨0, 1, 8, [.nilf], 0, 0, [], .i64⟩) (.node (some ⟨5, 10, 10, (List.replicate 10 (.bool false)), 4, 10, [], .i64⟩) .nil .nil) (.node (some ⟨0, 1, 8, [.nilf], 0, 0, [], .i64⟩) .nil .nil)) (.node (some ⟨0, 1, 8, [.nilf], 0, 0, [], .i64⟩) (.node (some ⟨0, 1, 8, [.nilf], 0, 0, [], .i64⟩) .nil .nil) (.node (some ⟨5, 0, 0, [], 16, 0, [], .i64⟩) .nil .nil))) (.node (some ⟨6, 2, 48, [.nils, .nils], 0, 0, [(0, 48, 1), (1, 48, 1)], .i64⟩) (.node (some ⟨0, 1, 8, [.nilf], 0, 0, [], .i64⟩) (.node (some ⟨0, 1, 8, [.nilf], 0, 0, [], .i64⟩) .nil .nil) (.node (some ⟨0, 1, 8, [.nilf], 0, 0, [], .i64⟩) .nil .nil)) (.node (some ⟨6, 4, 24, [(.int .i64 0), (.int .i64 0), (.bool false), (.bool false)], 0, 0, [(0, 3, 1), (1, 3, 1), (2, 4, 1), (3, 4, 1)], .i64⟩) (.node (some ⟨0, 1, 8, [.nilf], 0, 0, [], .i64⟩) .nil .nil) .nil))) (.node (some ⟨6, 2, 16, [(.int .i64 0), (.int .i64 0)], 0, 0, [(0, 3, 1), (1, 3, 1)], .i64⟩) (.node none (.node (some ⟨0, 1, 8, [.nilf], 0, 0, [], .i64⟩) (.node (some ⟨0, 1, 8, [.nilf], 0, 0, [], .i64⟩) .nil .nil) (.node (some ⟨0, 1, 8, [.nilf], 0, 0, [], .i64⟩) .nil .nil)) (.node none (.node (some ⟨7, 1, 8, [.nilp], 117, 0, [], .i64⟩) .nil .nil) (.node (some ⟨1, 1, 4, [(.int .i32 0)], 0, 0, [], .i32⟩) .nil .nil))) (.node (some ⟨0, 1, 8, [.nilf], 0, 0, [], .i64⟩) (.node (some ⟨0, 1, 8, [.nilf], 0, 0, [], .i64⟩) (.node (some ⟨0, 1, 8, [.nilf], 0, 0, [], .i64⟩) .nil .nil) (.node (some ⟨0, 1, 8, [.nilf], 0, 0, [], .i64⟩) .nil .nil)) (.node (some ⟨0, 1, 8, [.nilf], 0, 0, [], .i64⟩) (.node (some ⟨0, 1, 8, [.nilf], 0, 0, [], .i64⟩) .nil .nil) .nil)))) (.node none (.node (some ⟨4, 1, 24, [.nils], 3, 0, [], .i64⟩) (.node (some ⟨0, 1, 8, [.nilf], 0, 0, [], .i64⟩) (.node (some ⟨0, 1, 8, [.nilf], 0, 0, [], .i64⟩) (.node (some ⟨5, 41, 328, (List.replicate 41 (.int .i64 0)), 3, 41, [], .i64⟩) .nil .nil) (.node (some ⟨0, 1, 8, [.nilf], 0, 0, [], .i64⟩) .nil .nil)) (.node (some ⟨4, 1, 24, [.nils], 5, 0, [], .i64⟩) (.node (some ⟨6, 2, 16, [(.int .i64 0), (.int .i64 0)], 0, 0, [(0, 3, 1), (1, 3, 1)], .i64⟩) .nil .nil) (.node (some ⟨1, 1, 1, [(.int .u8 0)], 0, 0, [], .u8⟩) .nil .nil))) (.node (some ⟨0, 1, 8, [.nilf], 0, 0, [], .i64⟩) (.node (some ⟨1, 1, 4, [(.int .u32 0)], 0, 0, [], .u32⟩) (.node (some ⟨0, 1, 8, [.nilf], 0, 0, [], .i64⟩) .nil .nil) (.node (some ⟨0, 1, 8, [.nilf], 0, 0, [], .i64⟩) .nil .nil)) (.node (some ⟨6, 3, 24, [(.int .i64 0), (.int .i64 0), (.int .i64 0)], 0, 0, [(0, 3, 1), (1, 3, 1), (2, 3, 1)], .i64⟩) (.node (some ⟨1, 1, 8, [(.int .i64 0)], 0, 0, [], .i64⟩) .nil .nil) .nil))) (.node (some ⟨0, 1, 8, [.nilf], 0, 0, [], .i64⟩) (.node (some ⟨0, 1, 8, [.nilf], 0, 0, [], .i64⟩) (.node (some ⟨4, 1, 24, [.nils], 9, 0, [], .i64⟩) (.node (some ⟨0, 1, 8, [.nilf], 0, 0, [], .i64⟩) .nil .nil) (.node (some ⟨0, 1, 8, [.nilf], 0, 0, [], .i64⟩) .nil .nil)) (.node (some ⟨0, 1, 8, [.nilf], 0, 0, [], .i64⟩) (.node (some ⟨0, 1, 8, [.nilf], 0, 0, [], .i64⟩) .nil .nil) (.node (some ⟨0, 1, 8, [.nilp], 0, 0, [], .i64⟩) .nil .nil))) (.node (some ⟨0, 1, 8, [.nilf], 0, 0, [], .i64⟩) (.node (some ⟨0, 1, 8, [.nilf], 0, 0, [], .i64⟩) (.node (some ⟨0, 1, 8, [.nilf], 0, 0, [], .i64⟩) .nil .nil) (.node (some ⟨0, 1, 8, [.nilf], 0, 0, [], .i64⟩) .nil .nil)) (.node (some ⟨0, 1, 8, [.nilf], 0, 0, [], .i64⟩) (.node (some ⟨0, 1, 8, [.nilf], 0, 0, [], .i64⟩) .nil .nil) .nil)))))))
noncomputable def E.fnTr : Tr Fi := (.node none (.node none (.node (some ⟨245, (Try.f3.body.getD .skip), Try.f3.results.toList, [18]⟩) (.node (some ⟨142, (Try.f7.body.getD .skip), Try.f7.results.toList, []⟩) (.node (some ⟨72, (Try.f15.body.getD .skip), Try.f15.results.toList, [1000014]⟩) (.node (some ⟨17, (Try.f31.body.getD .skip), Try.f31.results.toList, []⟩) (.node (some ⟨9, (Try.f63.body.getD .skip), Try.f63.results.toList, []⟩) (.node (some ⟨43, (Try.f127.body.getD .skip), Try.f127.results.toList, []⟩) .nil .nil) (.node (some ⟨34, (Try.f191.body.getD .skip), Try.f191.results.toList, []⟩) .nil .nil)) (.node (some ⟨21, (Try.f95.body.getD .skip), Try.f95.results.toList, []⟩) (.node (some ⟨8, (Try.f159.body.getD .skip), Try.f159.results.toList, []⟩) .nil .nil) .nil)) (.node (some ⟨9, (Try.f47.body.getD .skip), Try.f47.results.toList, []⟩) (.node (some ⟨13, (Try.f79.body.getD .skip), Try.f79.results.toList, []⟩) (.node (some ⟨6, (Try.f143.body.getD .skip), Try.f143.results.toList, []⟩) .nil .nil) (.node (some ⟨41, (Try.f207.body.getD .skip), Try.f207.results.toList, []⟩) .nil .nil)) (.node (some ⟨8, (Try.f111.body.getD .skip), Try.f111.results.toList, []⟩) (.node (some ⟨90, (Try.f175.body.getD .skip), Try.f175.results.toList, []⟩) .nil .nil) .nil))) (.node (some ⟨86, (Try.f23.body.getD .skip), Try.f23.results.toList, []⟩) (.node (some ⟨56, (Try.f39.body.getD .skip), Try.f39.results.toList, []⟩) (.node (some ⟨8, (Try.f71.body.getD .skip), Try.f71.results.toList, []⟩) (.node (some ⟨14, (Try.f135.body.getD .skip), Try.f135.results.toList, []⟩) .nil .nil) (.node (some ⟨33, (Try.f199.body.getD .skip), Try.f199.results.toList, []⟩) .nil .nil)) (.node (some ⟨19, (Try.f103.body.getD .skip), Try.f103.results.toList, []⟩) (.node (some ⟨6, (Try.f167.body.getD .skip), Try.f167.results.toList, []⟩) .nil .nil) .nil)) (.node (some ⟨59, (Try.f55.body.getD .skip), Try.f55.results.toList, []⟩) (.node (some ⟨35, (Try.f87.body.getD .skip), Try.f87.results.toList, []⟩) (.node (some ⟨17, (Try.f151.body.getD .skip), Try.f151.results.toList, []⟩) .nil .nil) (.node (some ⟨178, (Try.f215.body.getD .skip), Try.f215.results.toList, []⟩) .nil .nil)) (.node (some ⟨45, (Try.f119.body.getD .skip), Try.f119.results.toList, []⟩) (.node (some ⟨32, (Try.f183.body.getD .skip), Try.f183.results.toList, []⟩) .nil .nil) .nil)))) (.node (some ⟨219, (Try.f11.body.getD .skip), Try.f11.results.toList, []⟩) (.node (some ⟨14, (Try.f19.body.getD .skip), Try.f19.results.toList, []⟩) (.node (some ⟨10, (Try.f35.body.getD .skip), Try.f35.results.toList, []⟩) (.node (some ⟨44, (Try.f67.body.getD .skip), Try.f67.results.toList, []⟩) (.node (some ⟨24, (Try.f131.body.getD .skip), Try.f131.results.toList, []⟩) .nil .nil) (.node (some ⟨148, (Try.f195.body.getD .skip), Try.f195.results.toList, []⟩) .nil .nil)) (.node (some ⟨25, (Try.f99.body.getD .skip), Try.f99.results.toList, []⟩) (.node (some ⟨13, (Try.f163.body.getD .skip), Try.f163.results.toList, []⟩) .nil .nil) .nil)) (.node (some ⟨58, (Try.f51.body.getD .skip), Try.f51.results.toList, []⟩) (.node (some ⟨134, (Try.f83.body.getD .skip), Try.f83.results.toList, []⟩) (.node (some ⟨17, (Try.f147.body.getD .skip), Try.f147.results.toList, []⟩) .nil .nil) (.node (some ⟨63, (Try.f211.body.getD .skip), Try.f211.results.toList, []⟩) .nil .nil)) (.node (some ⟨28, (Try.f115.body.getD .skip), Try.f115.results.toList, []⟩) (.node (some ⟨49, (Try.f179.body.getD .skip), Try.f179.results.toList, []⟩) .nil .nil) .nil))) (.node (some ⟨54, (Try.f27.body.getD .skip), Try.f27.results.toList, [1000012]⟩) (.node (some ⟨29, (Try.f43.body.getD .skip), Try.f43.results.toList, []⟩) (.node (some ⟨47, (Try.f75.body.getD .skip), Try.f75.results.toList, []⟩) (.node (some ⟨29, (Try.f139.body.getD .skip), Try.f139.results.toList, []⟩) .nil .nil) (.node (some ⟨15, (Try.f203.body.getD .skip), Try.f203.results.toList, []⟩) .nil .nil)) (.node (some ⟨9, (Try.f107.body.getD .skip), Try.f107.results.toList, []⟩) (.node (some ⟨67, (Try.f171.body.getD .skip), Try.f171.results.toList, []⟩) .nil .nil) .nil)) (.node (some ⟨35, (Try.f59.body.getD .skip), Try.f59.results.toList, [9]⟩) (.node (some ⟨4, (Try.f91.body.getD .skip), Try.f91.results.toList, []⟩) (.node (some ⟨8, (Try.f155.body.getD .skip), Try.f155.results.toList, []⟩) .nil .nil) (.node (some ⟨82, (Try.f219.body.getD .skip), Try.f219.results.toList, []⟩) .nil .nil)) (.node (some ⟨9, (Try.f123.body.getD .skip), Try.f123.results.toList, []⟩) (.node (some ⟨53, (Try.f187.body.getD .skip), Try.f187.results.toList, []⟩) .nil .nil) .nil))))) (.node (some ⟨108, (Try.f5.body.getD .skip), Try.f5.results.toList, [3, 6, 15]⟩) (.node (some ⟨78, (Try.f9.body.getD .skip), Try.f9.results.toList, []⟩) (.node (some ⟨53, (Try.f17.body.getD .skip), Try.f17.results.toList, []⟩) (.node (some ⟨67, (Try.f33.body.getD .skip), Try.f33.results.toList, []⟩) (.node (some ⟨8, (Try.f65.body.getD .skip), Try.f65.results.toList, []⟩) (.node (some ⟨20, (Try.f129.body.getD .skip), Try.f129.results.toList, []⟩) .nil .nil) (.node (some ⟨90, (Try.f193.body.getD .skip), Try.f193.results.toList, []⟩) .nil .nil)) (.node (some ⟨40, (Try.f97.body.getD .skip), Try.f97.results.toList, []⟩) (.node (some ⟨14, (Try.f161.body.getD .skip), Try.f161.results.toList, []⟩) .nil .nil) .nil)) (.node (some ⟨42, (Try.f49.body.getD .skip), Try.f49.results.toList, []⟩) (.node (some ⟨12, (Try.f81.body.getD .skip), Try.f81.results.toList, []⟩) (.node (some ⟨8, (Try.f145.body.getD .skip), Try.f145.results.toList, []⟩) .nil .nil) (.node (some ⟨60, (Try.f209.body.getD .skip), Try.f209.results.toList, []⟩) .nil .nil)) (.node (some ⟨45, (Try.f113.body.getD .skip), Try.f113.results.toList, [7]⟩) (.node (some ⟨19, (Try.f177.body.getD .skip), Try.f177.results.toList, []⟩) .nil .nil) .nil))) (.node (some ⟨153, (Try.f25.body.getD .skip), Try.f25.results.toList, [24]⟩) (.node (some ⟨38, (Try.f41.body.getD .skip), Try.f41.results.toList, []⟩) (.node (some ⟨31, (Try.f73.body.getD .skip), Try.f73.results.toList, []⟩) (.node (some ⟨40, (Try.f137.body.getD .skip), Try.f137.results.toList, []⟩) .nil .nil) (.node (some ⟨41, (Try.f201.body.getD .skip), Try.f201.results.toList, []⟩) .nil .nil)) (.node (some ⟨17, (Try.f105.body.getD .skip), Try.f105.results.toList, []⟩) (.node (some ⟨53, (Try.f169.body.getD .skip), Try.f169.results.toList, []⟩) .nil .nil) .nil)) (.node (some ⟨27, (Try.f57.body.getD .skip), Try.f57.results.toList, []⟩) (.node (some ⟨4, (Try.f89.body.getD .skip), Try.f89.results.toList, []⟩) (.node (some ⟨54, (Try.f153.body.getD .skip), Try.f153.results.toList, []⟩) .nil .nil) (.node (some ⟨28, (Try.f217.body.getD .skip), Try.f217.results.toList, []⟩) .nil .nil)) (.node (some ⟨36, (Try.f121.body.getD .skip), Try.f121.results.toList, []⟩) (.node (some ⟨84, (Try.f185.body.getD .skip), Try.f185.results.toList, []⟩) .nil .nil) .nil)))) (.node (some ⟨51, (Try.f13.body.getD .skip), Try.f13.results.toList, []⟩) (.node (some ⟨26, (Try.f21.body.getD .skip), Try.f21.results.toList, []⟩) (.node (some ⟨40, (Try.f37.body.getD .skip), Try.f37.results.toList, []⟩) (.node (some ⟨36, (Try.f69.body.getD .skip), Try.f69.results.toList, []⟩) (.node (some ⟨27, (Try.f133.body.getD .skip), Try.f133.results.toList, []⟩) .nil .nil) (.node (some ⟨82, (Try.f197.body.getD .skip), Try.f197.results.toList, []⟩) .nil .nil)) (.node (some ⟨31, (Try.f101.body.getD .skip), Try.f101.results.toList, []⟩) (.node (some ⟨18, (Try.f165.body.getD .skip), Try.f165.results.toList, []⟩) .nil .nil) .nil)) (.node (some ⟨17, (Try.f53.body.getD .skip), Try.f53.results.toList, []⟩) (.node (some ⟨37, (Try.f85.body.getD .skip), Try.f85.results.toList, []⟩) (.node (some ⟨33, (Try.f149.body.getD .skip), Try.f149.results.toList, []⟩) .nil .nil) (.node (some ⟨141, (Try.f213.body.getD .skip), Try.f213.results.toList, []⟩) .nil .nil)) (.node (some ⟨33, (Try.f117.body.getD .skip), Try.f117.results.toList, []⟩) (.node (some ⟨65, (Try.f181.body.getD .skip), Try.f181.results.toList, []⟩) .nil .nil) .nil))) (.node (some ⟨106, (Try.f29.body.getD .skip), Try.f29.results.toList, []⟩) (.node (some ⟨8, (Try.f45.body.getD .skip), Try.f45.results.toList, []⟩) (.node (some ⟨47, (Try.f77.body.getD .skip), Try.f77.results.toList, [7, 1000007, 2000077]⟩) (.node (some ⟨5, (Try.f141.body.getD .skip), Try.f141.results.toList, []⟩) .nil .nil) (.node (some ⟨82, (Try.f205.body.getD .skip), Try.f205.results.toList, []⟩) .nil .nil)) (.node (some ⟨8, (Try.f109.body.getD .skip), Try.f109.results.toList, []⟩) (.node (some ⟨34, (Try.f173.body.getD .skip), Try.f173.results.toList, []⟩) .nil .nil) .nil)) (.node (some ⟨29, (Try.f61.body.getD .skip), Try.f61.results.toList, []⟩) (.node (some ⟨7, (Try.f93.body.getD .skip), Try.f93.results.toList, []⟩) (.node (some ⟨148, (Try.f157.body.getD .skip), Try.f157.results.toList, []⟩) .nil .nil) (.node (some ⟨41, (Try.f221.body.getD .skip), Try.f221.results.toList, []⟩) .nil .nil)) (.node (some ⟨23, (Try.f125.body.getD .skip), Try.f125.results.toList, []⟩) (.node (some ⟨67, (Try.f189.body.getD .skip), Try.f189.results.toList, []⟩) .nil .nil) .nil)))))) (.node none (.node (some ⟨71, (Try.f4.body.getD .skip), Try.f4.results.toList, []⟩) (.node (some ⟨205, (Try.f8.body.getD .skip), Try.f8.results.toList, [15, 26]⟩) (.node (some ⟨65, (Try.f16.body.getD .skip), Try.f16.results.toList, []⟩) (.node (some ⟨17, (Try.f32.body.getD .skip), Try.f32.results.toList, []⟩) (.node (some ⟨6, (Try.f64.body.getD .skip), Try.f64.results.toList, []⟩) (.node (some ⟨27, (Try.f128.body.getD .skip), Try.f128.results.toList, []⟩) .nil .nil) (.node (some ⟨141, (Try.f192.body.getD .skip), Try.f192.results.toList, []⟩) .nil .nil)) (.node (some ⟨76, (Try.f96.body.getD .skip), Try.f96.results.toList, []⟩) (.node (some ⟨8, (Try.f160.body.getD .skip), Try.f160.results.toList, []⟩) .nil .nil) .nil)) (.node (some ⟨6, (Try.f48.body.getD .skip), Try.f48.results.toList, []⟩) (.node (some ⟨73, (Try.f80.body.getD .skip), Try.f80.results.toList, []⟩) (.node (some ⟨81, (Try.f144.body.getD .skip), Try.f144.results.toList, []⟩) .nil .nil) (.node (some ⟨53, (Try.f208.body.getD .skip), Try.f208.results.toList, []⟩) .nil .nil)) (.node (some ⟨8, (Try.f112.body.getD .skip), Try.f112.results.toList, []⟩) (.node (some ⟨178, (Try.f176.body.getD .skip), Try.f176.results.toList, []⟩) .nil .nil) .nil))) (.node (some ⟨93, (Try.f24.body.getD .skip), Try.f24.results.toList, []⟩) (.node (some ⟨13, (Try.f40.body.getD .skip), Try.f40.results.toList, []⟩) (.node (some ⟨12, (Try.f72.body.getD .skip), Try.f72.results.toList, []⟩) (.node (some ⟨14, (Try.f136.body.getD .skip), Try.f136.results.toList, []⟩) .nil .nil) (.node (some ⟨18, (Try.f200.body.getD .skip), Try.f200.results.toList, []⟩) .nil .nil)) (.node (some ⟨19, (Try.f104.body.getD .skip), Try.f104.results.toList, []⟩) (.node (some ⟨6, (Try.f168.body.getD .skip), Try.f168.results.toList, []⟩) .nil .nil) .nil)) (.node (some ⟨32, (Try.f56.body.getD .skip), Try.f56.results.toList, []⟩) (.node (some ⟨29, (Try.f88.body.getD .skip), Try.f88.results.toList, [5]⟩) (.node (some ⟨19, (Try.f152.body.getD .skip), Try.f152.results.toList, []⟩) .nil .nil) (.node (some ⟨32, (Try.f216.body.getD .skip), Try.f216.results.toList, []⟩) .nil .nil)) (.node (some ⟨14, (Try.f120.body.getD .skip), Try.f120.results.toList, []⟩) (.node (some ⟨133, (Try.f184.body.getD .skip), Try.f184.results.toList, []⟩) .nil .nil) .nil)))) (.node (some ⟨18, (Try.f12.body.getD .skip), Try.f12.results.toList, [4]⟩) (.node (some ⟨58, (Try.f20.body.getD .skip), Try.f20.results.toList, []⟩) (.node (some ⟨55, (Try.f36.body.getD .skip), Try.f36.results.toList, []⟩) (.node (some ⟨44, (Try.f68.body.getD .skip), Try.f68.results.toList, []⟩) (.node (some ⟨29, (Try.f132.body.getD .skip), Try.f132.results.toList, []⟩) .nil .nil) (.node (some ⟨27, (Try.f196.body.getD .skip), Try.f196.results.toList, []⟩) .nil .nil)) (.node (some ⟨24, (Try.f100.body.getD .skip), Try.f100.results.toList, []⟩) (.node (some ⟨19, (Try.f164.body.getD .skip), Try.f164.results.toList, []⟩) .nil .nil) .nil)) (.node (some ⟨61, (Try.f52.body.getD .skip), Try.f52.results.toList, []⟩) (.node (some ⟨51, (Try.f84.body.getD .skip), Try.f84.results.toList, []⟩) (.node (some ⟨60, (Try.f148.body.getD .skip), Try.f148.results.toList, []⟩) .nil .nil) (.node (some ⟨34, (Try.f212.body.getD .skip), Try.f212.results.toList, []⟩) .nil .nil)) (.node (some ⟨19, (Try.f116.body.getD .skip), Try.f116.results.toList, []⟩) (.node (some ⟨56, (Try.f180.body.getD .skip), Try.f180.results.toList, []⟩) .nil .nil) .nil))) (.node (some ⟨149, (Try.f28.body.getD .skip), Try.f28.results.toList, [17]⟩) (.node (some ⟨61, (Try.f44.body.getD .skip), Try.f44.results.toList, []⟩) (.node (some ⟨6, (Try.f76.body.getD .skip), Try.f76.results.toList, []⟩) (.node (some ⟨9, (Try.f140.body.getD .skip), Try.f140.results.toList, []⟩) .nil .nil) (.node (some ⟨36, (Try.f204.body.getD .skip), Try.f204.results.toList, []⟩) .nil .nil)) (.node (some ⟨52, (Try.f108.body.getD .skip), Try.f108.results.toList, []⟩) (.node (some ⟨63, (Try.f172.body.getD .skip), Try.f172.results.toList, []⟩) .nil .nil) .nil)) (.node (some ⟨45, (Try.f60.body.getD .skip), Try.f60.results.toList, []⟩) (.node (some ⟨6, (Try.f92.body.getD .skip), Try.f92.results.toList, []⟩) (.node (some ⟨134, (Try.f156.body.getD .skip), Try.f156.results.toList, []⟩) .nil .nil) (.node (some ⟨18, (Try.f220.body.getD .skip), Try.f220.results.toList, []⟩) .nil .nil)) (.node (some ⟨13, (Try.f124.body.getD .skip), Try.f124.results.toList, []⟩) (.node (some ⟨60, (Try.f188.body.getD .skip), Try.f188.results.toList, []⟩) .nil .nil) .nil))))) (.node (some ⟨147, (Try.f6.body.getD .skip), Try.f6.results.toList, []⟩) (.node (some ⟨75, (Try.f10.body.getD .skip), Try.f10.results.toList, []⟩) (.node (some ⟨31, (Try.f18.body.getD .skip), Try.f18.results.toList, []⟩) (.node (some ⟨32, (Try.f34.body.getD .skip), Try.f34.results.toList, []⟩) (.node (some ⟨51, (Try.f66.body.getD .skip), Try.f66.results.toList, []⟩) (.node (some ⟨19, (Try.f130.body.getD .skip), Try.f130.results.toList, []⟩) .nil .nil) (.node (some ⟨178, (Try.f194.body.getD .skip), Try.f194.results.toList, []⟩) .nil .nil)) (.node (some ⟨8, (Try.f98.body.getD .skip), Try.f98.results.toList, []⟩) (.node (some ⟨61, (Try.f162.body.getD .skip), Try.f162.results.toList, []⟩) .nil .nil) .nil)) (.node (some ⟨77, (Try.f50.body.getD .skip), Try.f50.results.toList, []⟩) (.node (some ⟨70, (Try.f82.body.getD .skip), Try.f82.results.toList, []⟩) (.node (some ⟨32, (Try.f146.body.getD .skip), Try.f146.results.toList, []⟩) .nil .nil) (.node (some ⟨67, (Try.f210.body.getD .skip), Try.f210.results.toList, []⟩) .nil .nil)) (.node (some ⟨11, (Try.f114.body.getD .skip), Try.f114.results.toList, []⟩) (.node (some ⟨25, (Try.f178.body.getD .skip), Try.f178.results.toList, []⟩) .nil .nil) .nil))) (.node (some ⟨8, (Try.f26.body.getD .skip), Try.f26.results.toList, []⟩) (.node (some ⟨36, (Try.f42.body.getD .skip), Try.f42.results.toList, []⟩) (.node (some ⟨62, (Try.f74.body.getD .skip), Try.f74.results.toList, []⟩) (.node (some ⟨33, (Try.f138.body.getD .skip), Try.f138.results.toList, []⟩) .nil .nil) (.node (some ⟨76, (Try.f202.body.getD .skip), Try.f202.results.toList, []⟩) .nil .nil)) (.node (some ⟨21, (Try.f106.body.getD .skip), Try.f106.results.toList, []⟩) (.node (some ⟨60, (Try.f170.body.getD .skip), Try.f170.results.toList, []⟩) .nil .nil) .nil)) (.node (some ⟨29, (Try.f58.body.getD .skip), Try.f58.results.toList, []⟩) (.node (some ⟨3, (Try.f90.body.getD .skip), Try.f90.results.toList, []⟩) (.node (some ⟨148, (Try.f154.body.getD .skip), Try.f154.results.toList, []⟩) .nil .nil) (.node (some ⟨32, (Try.f218.body.getD .skip), Try.f218.results.toList, []⟩) .nil .nil)) (.node (some ⟨43, (Try.f122.body.getD .skip), Try.f122.results.toList, []⟩) (.node (some ⟨168, (Try.f186.body.getD .skip), Try.f186.results.toList, []⟩) .nil .nil) .nil)))) (.node (some ⟨21, (Try.f14.body.getD .skip), Try.f14.results.toList, [4]⟩) (.node (some ⟨103, (Try.f22.body.getD .skip), Try.f22.results.toList, []⟩) (.node (some ⟨51, (Try.f38.body.getD .skip), Try.f38.results.toList, []⟩) (.node (some ⟨9, (Try.f70.body.getD .skip), Try.f70.results.toList, []⟩) (.node (some ⟨19, (Try.f134.body.getD .skip), Try.f134.results.toList, []⟩) .nil .nil) (.node (some ⟨7, (Try.f198.body.getD .skip), Try.f198.results.toList, []⟩) .nil .nil)) (.node (some ⟨55, (Try.f102.body.getD .skip), Try.f102.results.toList, []⟩) (.node (some ⟨16, (Try.f166.body.getD .skip), Try.f166.results.toList, []⟩) .nil .nil) .nil)) (.node (some ⟨32, (Try.f54.body.getD .skip), Try.f54.results.toList, []⟩) (.node (some ⟨26, (Try.f86.body.getD .skip), Try.f86.results.toList, []⟩) (.node (some ⟨7, (Try.f150.body.getD .skip), Try.f150.results.toList, []⟩) .nil .nil) (.node (some ⟨90, (Try.f214.body.getD .skip), Try.f214.results.toList, []⟩) .nil .nil)) (.node (some ⟨8, (Try.f118.body.getD .skip), Try.f118.results.toList, []⟩) (.node (some ⟨57, (Try.f182.body.getD .skip), Try.f182.results.toList, []⟩) .nil .nil) .nil))) (.node (some ⟨84, (Try.f30.body.getD .skip), Try.f30.results.toList, []⟩) (.node (some ⟨33, (Try.f46.body.getD .skip), Try.f46.results.toList, []⟩) (.node (some ⟨88, (Try.f78.body.getD .skip), Try.f78.results.toList, []⟩) (.node (some ⟨61, (Try.f142.body.getD .skip), Try.f142.results.toList, []⟩) .nil .nil) (.node (some ⟨18, (Try.f206.body.getD .skip), Try.f206.results.toList, []⟩) .nil .nil)) (.node (some ⟨14, (Try.f110.body.getD .skip), Try.f110.results.toList, []⟩) (.node (some ⟨141, (Try.f174.body.getD .skip), Try.f174.results.toList, []⟩) .nil .nil) .nil)) (.node (some ⟨31, (Try.f62.body.getD .skip), Try.f62.results.toList, []⟩) (.node (some ⟨33, (Try.f94.body.getD .skip), Try.f94.results.toList, []⟩) (.node (some ⟨20, (Try.f158.body.getD .skip), Try.f158.results.toList, []⟩) .nil .nil) (.node (some ⟨32, (Try.f222.body.getD .skip), Try.f222.results.toList, []⟩) .nil .nil)) (.node (some ⟨66, (Try.f126.body.getD .skip), Try.f126.results.toList, []⟩) (.node (some ⟨63, (Try.f190.body.getD .skip), Try.f190.results.toList, []⟩) .nil .nil) .nil)))))))
noncomputable def E : Env := ⟨E.tyTr.get, E.fnTr.get⟩
theorem E.ty1 : E.ty 1 = some ⟨0, 1, 8, [.nilf], 0, 0, [], .i64⟩ := rfl
theorem E.to1 : TyOk Try.prog 1 ⟨0, 1, 8, [.nilf], 0, 0, [], .i64⟩ := tyOk_of_mkTy (by kernel_rfl)
theorem E.ty2 : E.ty 2 = some ⟨1, 1, 8, [(.int .i64 0)], 0, 0, [], .i64⟩ := rfl
theorem E.to2 : TyOk Try.prog 2 ⟨1, 1, 8, [(.int .i64 0)], 0, 0, [], .i64⟩ := tyOk_of_mkTy (by kernel_rfl)
theorem E.ty3 : E.ty 3 = some ⟨1, 1, 8, [(.int .i64 0)], 0, 0, [], .i64⟩ := rfl
theorem E.to3 : TyOk Try.prog 3 ⟨1, 1, 8, [(.int .i64 0)], 0, 0, [], .i64⟩ := tyOk_of_mkTy (by kernel_rfl)
theorem E.ty4 : E.ty 4 = some ⟨2, 1, 1, [(.bool false)], 0, 0, [], .i64⟩ := rfl
theorem E.to4 : TyOk Try.prog 4 ⟨2, 1, 1, [(.bool false)], 0, 0, [], .i64⟩ := tyOk_of_mkTy (by kernel_rfl)
theorem E.ty5 : E.ty 5 = some ⟨1, 1, 1, [(.int .u8 0)], 0, 0, [], .u8⟩ := rfl
theorem E.to5 : TyOk Try.prog 5 ⟨1, 1, 1, [(.int .u8 0)], 0, 0, [], .u8⟩ := tyOk_of_mkTy (by kernel_rfl)
theorem E.ty6 : E.ty 6 = some ⟨1, 1, 1, [(.int .u8 0)], 0, 0, [], .u8⟩ := rfl
theorem E.to6 : TyOk Try.prog 6 ⟨1, 1, 1, [(.int .u8 0)], 0, 0, [], .u8⟩ := tyOk_of_mkTy (by kernel_rfl)
theorem E.ty7 : E.ty 7 = some ⟨6, 4, 24, [(.int .i64 0), (.int .i64 0), (.bool false), (.int .u8 0)], 0, 0, [(0, 2, 1), (1, 3, 1), (2, 4, 1), (3, 6, 1)], .i64⟩ := rfl
theorem E.to7 : TyOk Try.prog 7 ⟨6, 4, 24, [(.int .i64 0), (.int .i64 0), (.bool false), (.int .u8 0)], 0, 0, [(0, 2, 1), (1, 3, 1), (2, 4, 1), (3, 6, 1)], .i64⟩ := tyOk_of_mkTy (by kernel_rfl)
theorem E.ty8 : E.ty 8 = some ⟨6, 4, 24, [(.int .i64 0), (.int .i64 0), (.bool false), (.int .u8 0)], 0, 0, [(0, 2, 1), (1, 3, 1), (2, 4, 1), (3, 6, 1)], .i64⟩ := rfl
theorem E.to8 : TyOk Try.prog 8 ⟨6, 4, 24, [(.int .i64 0), (.int .i64 0), (.bool false), (.int .u8 0)], 0, 0, [(0, 2, 1), (1, 3, 1), (2, 4, 1), (3, 6, 1)], .i64⟩ := tyOk_of_mkTy (by kernel_rfl)
theorem E.ty9 : E.ty 9 = some ⟨3, 1, 16, [(.str [])], 0, 0, [], .i64⟩ := rfl
theorem E.to9 : TyOk Try.prog 9 ⟨3, 1, 16, [(.str [])], 0, 0, [], .i64⟩ := tyOk_of_mkTy (by kernel_rfl)
theorem E.ty10 : E.ty 10 = some ⟨3, 1, 16, [(.str [])], 0, 0, [], .i64⟩ := rfl
theorem E.to10 : TyOk Try.prog 10 ⟨3, 1, 16, [(.str [])], 0, 0, [], .i64⟩ := tyOk_of_mkTy (by kernel_rfl)
theorem E.ty11 : E.ty 11 = some ⟨3, 1, 16, [(.str [])], 0, 0, [], .i64⟩ := rfl
theorem E.to11 : TyOk Try.prog 11 ⟨3, 1, 16, [(.str [])], 0, 0, [], .i64⟩ := tyOk_of_mkTy (by kernel_rfl)
theorem E.ty12 : E.ty 12 = some ⟨1, 1, 8, [(.int .u64 0)], 0, 0, [], .u64⟩ := rfl
theorem E.to12 : TyOk Try.prog 12 ⟨1, 1, 8, [(.int .u64 0)], 0, 0, [], .u64⟩ := tyOk_of_mkTy (by kernel_rfl)
theorem E.ty15 : E.ty 15 = some ⟨7, 1, 8, [.nilp], 225, 0, [], .i64⟩ := rfl
theorem E.to15 : TyOk Try.prog 15 ⟨7, 1, 8, [.nilp], 225, 0, [], .i64⟩ := tyOk_of_mkTy (by kernel_rfl)
theorem E.ty16 : E.ty 16 = some ⟨7, 1, 8, [.nilp], 228, 0, [], .i64⟩ := rfl
theorem E.to16 : TyOk Try.prog 16 ⟨7, 1, 8, [.nilp], 228, 0, [], .i64⟩ := tyOk_of_mkTy (by kernel_rfl)
theorem E.ty17 : E.ty 17 = some ⟨7, 1, 8, [.nilp], 237, 0, [], .i64⟩ := rfl
theorem E.to17 : TyOk Try.prog 17 ⟨7, 1, 8, [.nilp], 237, 0, [], .i64⟩ := tyOk_of_mkTy (by kernel_rfl)
theorem E.ty20 : E.ty 20 = some ⟨0, 1, 16, [.undef], 0, 0, [], .i64⟩ := rfl
theorem E.to20 : TyOk Try.prog 20 ⟨0, 1, 16, [.undef], 0, 0, [], .i64⟩ := tyOk_of_mkTy (by kernel_rfl)
theorem E.ty21 : E.ty 21 = some ⟨1, 1, 4, [(.int .i32 0)], 0, 0, [], .i32⟩ := rfl
theorem E.to21 : TyOk Try.prog 21 ⟨1, 1, 4, [(.int .i32 0)], 0, 0, [], .i32⟩ := tyOk_of_mkTy (by kernel_rfl)
theorem E.ty22 : E.ty 22 = some ⟨4, 1, 24, [.nils], 3, 0, [], .i64⟩ := rfl
theorem E.to22 : TyOk Try.prog 22 ⟨4, 1, 24, [.nils], 3, 0, [], .i64⟩ := tyOk_of_mkTy (by kernel_rfl)
theorem E.ty23 : E.ty 23 = some ⟨6, 2, 48, [.nils, .nils], 0, 0, [(0, 22, 1), (1, 22, 1)], .i64⟩ := rfl
theorem E.to23 : TyOk Try.prog 23 ⟨6, 2, 48, [.nils, .nils], 0, 0, [(0, 22, 1), (1, 22, 1)], .i64⟩ := tyOk_of_mkTy (by kernel_rfl)
theorem E.ty24 : E.ty 24 = some ⟨6, 2, 48, [.nils, .nils], 0, 0, [(0, 22, 1), (1, 22, 1)], .i64⟩ := rfl
theorem E.to24 : TyOk Try.prog 24 ⟨6, 2, 48, [.nils, .nils], 0, 0, [(0, 22, 1), (1, 22, 1)], .i64⟩ := tyOk_of_mkTy (by kernel_rfl)
theorem E.ty25 : E.ty 25 = some ⟨6, 2, 16, [(.int .i64 0), (.int .i64 0)], 0, 0, [(0, 3, 1), (1, 3, 1)], .i64⟩ := rfl
theorem E.to25 : TyOk Try.prog 25 ⟨6, 2, 16, [(.int .i64 0), (.int .i64 0)], 0, 0, [(0, 3, 1), (1, 3, 1)], .i64⟩ := tyOk_of_mkTy (by kernel_rfl)
theorem E.ty26 : E.ty 26 = some ⟨6, 2, 16, [(.int .i64 0), (.int .i64 0)], 0, 0, [(0, 3, 1), (1, 3, 1)], .i64⟩ := rfl
theorem E.to26 : TyOk Try.prog 26 ⟨6, 2, 16, [(.int .i64 0), (.int .i64 0)], 0, 0, [(0, 3, 1), (1, 3, 1)], .i64⟩ := tyOk_of_mkTy (by kernel_rfl)
theorem E.ty27 : E.ty 27 = some ⟨1, 1, 8, [(.int .i64 0)], 0, 0, [], .i64⟩ := rfl
theorem E.to27 : TyOk Try.prog 27 ⟨1, 1, 8, [(.int .i64 0)], 0, 0, [], .i64⟩ := tyOk_of_mkTy (by kernel_rfl)
theorem E.ty29 : E.ty 29 = some ⟨0, 1, 8, [.nilf], 0, 0, [], .i64⟩ := rfl
theorem E.to29 : TyOk Try.prog 29 ⟨0, 1, 8, [.nilf], 0, 0, [], .i64⟩ := tyOk_of_mkTy (by kernel_rfl)
theorem E.ty30 : E.ty 30 = some ⟨0, 1, 8, [.nilf], 0, 0, [], .i64⟩ := rfl
theorem E.to30 : TyOk Try.prog 30 ⟨0, 1, 8, [.nilf], 0, 0, [], .i64⟩ := tyOk_of_mkTy (by kernel_rfl)
theorem E.ty32 : E.ty 32 = some ⟨0, 1, 8, [.nilf], 0, 0, [], .i64⟩ := rfl
theorem E.to32 : TyOk Try.prog 32 ⟨0, 1, 8, [.nilf], 0, 0, [], .i64⟩ := tyOk_of_mkTy (by kernel_rfl)
theorem E.ty33 : E.ty 33 = some ⟨0, 1, 8, [.nilf], 0, 0, [], .i64⟩ := rfl
theorem E.to33 : TyOk Try.prog 33 ⟨0, 1, 8, [.nilf], 0, 0, [], .i64⟩ := tyOk_of_mkTy (by kernel_rfl)
theorem E.ty35 : E.ty 35 = some ⟨0, 1, 8, [.nilf], 0, 0, [], .i64⟩ := rfl
theorem E.to35 : TyOk Try.prog 35 ⟨0, 1, 8, [.nilf], 0, 0, [], .i64⟩ := tyOk_of_mkTy (by kernel_rfl)
theorem E.ty36 : E.ty 36 = some ⟨0, 1, 8, [.nilf], 0, 0, [], .i64⟩ := rfl
theorem E.to36 : TyOk Try.prog 36 ⟨0, 1, 8, [.nilf], 0, 0, [], .i64⟩ := tyOk_of_mkTy (by kernel_rfl)
theorem E.ty37 : E.ty 37 = some ⟨0, 1, 8, [.nilf], 0, 0, [], .i64⟩ := rfl
theorem E.to37 : TyOk Try.prog 37 ⟨0, 1, 8, [.nilf], 0, 0, [], .i64⟩ := tyOk_of_mkTy (by kernel_rfl)
theorem E.ty38 : E.ty 38 = some ⟨0, 1, 8, [.nilf], 0, 0, [], .i64⟩ := rfl
theorem E.to38 : TyOk Try.prog 38 ⟨0, 1, 8, [.nilf], 0, 0, [], .i64⟩ := tyOk_of_mkTy (by kernel_rfl)
theorem E.ty39 : E.ty 39 = some ⟨0, 1, 8, [.nilf], 0, 0, [], .i64⟩ := rfl
theorem E.to39 : TyOk Try.prog 39 ⟨0, 1, 8, [.nilf], 0, 0, [], .i64⟩ := tyOk_of_mkTy (by kernel_rfl)
theorem E.ty40 : E.ty 40 = some ⟨4, 1, 24, [.nils], 115, 0, [], .i64⟩ := rfl
theorem E.to40 : TyOk Try.prog 40 ⟨4, 1, 24, [.nils], 115, 0, [], .i64⟩ := tyOk_of_mkTy (by kernel_rfl)
theorem E.ty41 : E.ty 41 = some ⟨4, 1, 24, [.nils], 119, 0, [], .i64⟩ := rfl
theorem E.to41 : TyOk Try.prog 41 ⟨4, 1, 24, [.nils], 119, 0, [], .i64⟩ := tyOk_of_mkTy (by kernel_rfl)
theorem E.ty43 : E.ty 43 = some ⟨0, 1, 8, [.nilf], 0, 0, [], .i64⟩ := rfl
theorem E.to43 : TyOk Try.prog 43 ⟨0, 1, 8, [.nilf], 0, 0, [], .i64⟩ := tyOk_of_mkTy (by kernel_rfl)
theorem E.ty44 : E.ty 44 = some ⟨0, 1, 8, [.nilf], 0, 0, [], .i64⟩ := rfl
theorem E.to44 : TyOk Try.prog 44 ⟨0, 1, 8, [.nilf], 0, 0, [], .i64⟩ := tyOk_of_mkTy (by kernel_rfl)
theorem E.ty46 : E.ty 46 = some ⟨0, 1, 8, [.nilf], 0, 0, [], .i64⟩ := rfl
theorem E.to46 : TyOk Try.prog 46 ⟨0, 1, 8, [.nilf], 0, 0, [], .i64⟩ := tyOk_of_mkTy (by kernel_rfl)
theorem E.ty47 : E.ty 47 = some ⟨0, 1, 8, [.nilf], 0, 0, [], .i64⟩ := rfl
theorem E.to47 : TyOk Try.prog 47 ⟨0, 1, 8, [.nilf], 0, 0, [], .i64⟩ := tyOk_of_mkTy (by kernel_rfl)
theorem E.ty48 : E.ty 48 = some ⟨4, 1, 24, [.nils], 22, 0, [], .i64⟩ := rfl
theorem E.to48 : TyOk Try.prog 48 ⟨4, 1, 24, [.nils], 22, 0, [], .i64⟩ := tyOk_of_mkTy (by kernel_rfl)
theorem E.ty49 : E.ty 49 = some ⟨6, 2, 48, [.nils, .nils], 0, 0, [(0, 48, 1), (1, 48, 1)], .i64⟩ := rfl
theorem E.to49 : TyOk Try.prog 49 ⟨6, 2, 48, [.nils, .nils], 0, 0, [(0, 48, 1), (1, 48, 1)], .i64⟩ := tyOk_of_mkTy (by kernel_rfl)
theorem E.ty50 : E.ty 50 = some ⟨6, 2, 48, [.nils, .nils], 0, 0, [(0, 48, 1), (1, 48, 1)], .i64⟩ := rfl
theorem E.to50 : TyOk Try.prog 50 ⟨6, 2, 48, [.nils, .nils], 0, 0, [(0, 48, 1), (1, 48, 1)], .i64⟩ := tyOk_of_mkTy (by kernel_rfl)
theorem E.ty52 : E.ty 52 = some ⟨0, 1, 8, [.nilf], 0, 0, [], .i64⟩ := rfl
theorem E.to52 : TyOk Try.prog 52 ⟨0, 1, 8, [.nilf], 0, 0, [], .i64⟩ := tyOk_of_mkTy (by kernel_rfl)
theorem E.ty54 : E.ty 54 = some ⟨0, 1, 8, [.nilf], 0, 0, [], .i64⟩ := rfl
theorem E.to54 : TyOk Try.prog 54 ⟨0, 1, 8, [.nilf], 0, 0, [], .i64⟩ := tyOk_of_mkTy (by kernel_rfl)
theorem E.ty55 : E.ty 55 = some ⟨0, 1, 8, [.nilf], 0, 0, [], .i64⟩ := rfl
theorem E.to55 : TyOk Try.prog 55 ⟨0, 1, 8, [.nilf], 0, 0, [], .i64⟩ := tyOk_of_mkTy (by kernel_rfl)
theorem E.ty56 : E.ty 56 = some ⟨0, 1, 8, [.nilf], 0, 0, [], .i64⟩ := rfl
theorem E.to56 : TyOk Try.prog 56 ⟨0, 1, 8, [.nilf], 0, 0, [], .i64⟩ := tyOk_of_mkTy (by kernel_rfl)
theorem E.ty57 : E.ty 57 = some ⟨0, 1, 8, [.nilf], 0, 0, [], .i64⟩ := rfl
theorem E.to57 : TyOk Try.prog 57 ⟨0, 1, 8, [.nilf], 0, 0, [], .i64⟩ := tyOk_of_mkTy (by kernel_rfl)
theorem E.ty58 : E.ty 58 = some ⟨0, 1, 8, [.nilf], 0, 0, [], .i64⟩ := rfl
theorem E.to58 : TyOk Try.prog 58 ⟨0, 1, 8, [.nilf], 0, 0, [], .i64⟩ := tyOk_of_mkTy (by kernel_rfl)
theorem E.ty59 : E.ty 59 = some ⟨0, 1, 8, [.nilf], 0, 0, [], .i64⟩ := rfl
theorem E.to59 : TyOk Try.prog 59 ⟨0, 1, 8, [.nilf], 0, 0, [], .i64⟩ := tyOk_of_mkTy (by kernel_rfl)
theorem E.ty60 : E.ty 60 = some ⟨0, 1, 8, [.nilf], 0, 0, [], .i64⟩ := rfl
theorem E.to60 : TyOk Try.prog 60 ⟨0, 1, 8, [.nilf], 0, 0, [], .i64⟩ := tyOk_of_mkTy (by kernel_rfl)
theorem E.ty62 : E.ty 62 = some ⟨0, 1, 8, [.nilf], 0, 0, [], .i64⟩ := rfl
theorem E.to62 : TyOk Try.prog 62 ⟨0, 1, 8, [.nilf], 0, 0, [], .i64⟩ := tyOk_of_mkTy (by kernel_rfl)
theorem E.ty63 : E.ty 63 = some ⟨0, 1, 8, [.nilf], 0, 0, [], .i64⟩ := rfl
theorem E.to63 : TyOk Try.prog 63 ⟨0, 1, 8, [.nilf], 0, 0, [], .i64⟩ := tyOk_of_mkTy (by kernel_rfl)
theorem E.ty64 : E.ty 64 = some ⟨0, 1, 8, [.nilf], 0, 0, [], .i64⟩ := rfl
theorem E.to64 : TyOk Try.prog 64 ⟨0, 1, 8, [.nilf], 0, 0, [], .i64⟩ := tyOk_of_mkTy (by kernel_rfl)
theorem E.ty65 : E.ty 65 = some ⟨0, 1, 8, [.nilf], 0, 0, [], .i64⟩ := rfl
theorem E.to65 : TyOk Try.prog 65 ⟨0, 1, 8, [.nilf], 0, 0, [], .i64⟩ := tyOk_of_mkTy (by kernel_rfl)
theorem E.ty66 : E.ty 66 = some ⟨0, 1, 8, [.nilf], 0, 0, [], .i64⟩ := rfl
theorem E.to66 : TyOk Try.prog 66 ⟨0, 1, 8, [.nilf], 0, 0, [], .i64⟩ := tyOk_of_mkTy (by kernel_rfl)
theorem E.ty67 : E.ty 67 = some ⟨0, 1, 8, [.nilf], 0, 0, [], .i64⟩ := rfl
theorem E.to67 : TyOk Try.prog 67 ⟨0, 1, 8, [.nilf], 0, 0, [], .i64⟩ := tyOk_of_mkTy (by kernel_rfl)
theorem E.ty68 : E.ty 68 = some ⟨0, 1, 8, [.nilf], 0, 0, [], .i64⟩ := rfl
theorem E.to68 : TyOk Try.prog 68 ⟨0, 1, 8, [.nilf], 0, 0, [], .i64⟩ := tyOk_of_mkTy (by kernel_rfl)
theorem E.ty70 : E.ty 70 = some ⟨0, 1, 8, [.nilf], 0, 0, [], .i64⟩ := rfl
theorem E.to70 : TyOk Try.prog 70 ⟨0, 1, 8, [.nilf], 0, 0, [], .i64⟩ := tyOk_of_mkTy (by kernel_rfl)
theorem E.ty71 : E.ty 71 = some ⟨0, 1, 8, [.nilf], 0, 0, [], .i64⟩ := rfl
theorem E.to71 : TyOk Try.prog 71 ⟨0, 1, 8, [.nilf], 0, 0, [], .i64⟩ := tyOk_of_mkTy (by kernel_rfl)
theorem E.ty72 : E.ty 72 = some ⟨0, 1, 8, [.nilf], 0, 0, [], .i64⟩ := rfl
theorem E.to72 : TyOk Try.prog 72 ⟨0, 1, 8, [.nilf], 0, 0, [], .i64⟩ := tyOk_of_mkTy (by kernel_rfl)
theorem E.ty73 : E.ty 73 = some ⟨0, 1, 8, [.nilf], 0, 0, [], .i64⟩ := rfl
theorem E.to73 : TyOk Try.prog 73 ⟨0, 1, 8, [.nilf], 0, 0, [], .i64⟩ := tyOk_of_mkTy (by kernel_rfl)
theorem E.ty74 : E.ty 74 = some ⟨0, 1, 8, [.nilf], 0, 0, [], .i64⟩ := rfl
theorem E.to74 : TyOk Try.prog 74 ⟨0, 1, 8, [.nilf], 0, 0, [], .i64⟩ := tyOk_of_mkTy (by kernel_rfl)
theorem E.ty75 : E.ty 75 = some ⟨0, 1, 8, [.nilf], 0, 0, [], .i64⟩ := rfl
theorem E.to75 : TyOk Try.prog 75 ⟨0, 1, 8, [.nilf], 0, 0, [], .i64⟩ := tyOk_of_mkTy (by kernel_rfl)
theorem E.ty76 : E.ty 76 = some ⟨0, 1, 8, [.nilf], 0, 0, [], .i64⟩ := rfl
theorem E.to76 : TyOk Try.prog 76 ⟨0, 1, 8, [.nilf], 0, 0, [], .i64⟩ := tyOk_of_mkTy (by kernel_rfl)
theorem E.ty77 : E.ty 77 = some ⟨0, 1, 8, [.nilf], 0, 0, [], .i64⟩ := rfl
theorem E.to77 : TyOk Try.prog 77 ⟨0, 1, 8, [.nilf], 0, 0, [], .i64⟩ := tyOk_of_mkTy (by kernel_rfl)
theorem E.ty78 : E.ty 78 = some ⟨4, 1, 24, [.nils], 9, 0, [], .i64⟩ := rfl
theorem E.to78 : TyOk Try.prog 78 ⟨4, 1, 24, [.nils], 9, 0, [], .i64⟩ := tyOk_of_mkTy (by kernel_rfl)
theorem E.ty79 : E.ty 79 = some ⟨6, 2, 32, [(.int .i64 0), .nils], 0, 0, [(0, 3, 1), (1, 78, 1)], .i64⟩ := rfl
theorem E.to79 : TyOk Try.prog 79 ⟨6, 2, 32, [(.int .i64 0), .nils], 0, 0, [(0, 3, 1), (1, 78, 1)], .i64⟩ := tyOk_of_mkTy (by kernel_rfl)
theorem E.ty80 : E.ty 80 = some ⟨6, 2, 32, [(.int .i64 0), .nils], 0, 0, [(0, 3, 1), (1, 78, 1)], .i64⟩ := rfl
theorem E.to80 : TyOk Try.prog 80 ⟨6, 2, 32, [(.int .i64 0), .nils], 0, 0, [(0, 3, 1), (1, 78, 1)], .i64⟩ := tyOk_of_mkTy (by kernel_rfl)
theorem E.ty82 : E.ty 82 = some ⟨0, 1, 8, [.nilf], 0, 0, [], .i64⟩ := rfl
theorem E.to82 : TyOk Try.prog 82 ⟨0, 1, 8, [.nilf], 0, 0, [], .i64⟩ := tyOk_of_mkTy (by kernel_rfl)
theorem E.ty83 : E.ty 83 = some ⟨0, 1, 8, [.nilf], 0, 0, [], .i64⟩ := rfl
theorem E.to83 : TyOk Try.prog 83 ⟨0, 1, 8, [.nilf], 0, 0, [], .i64⟩ := tyOk_of_mkTy (by kernel_rfl)
theorem E.ty85 : E.ty 85 = some ⟨0, 1, 8, [.nilf], 0, 0, [], .i64⟩ := rfl
theorem E.to85 : TyOk Try.prog 85 ⟨0, 1, 8, [.nilf], 0, 0, [], .i64⟩ := tyOk_of_mkTy (by kernel_rfl)
theorem E.ty86 : E.ty 86 = some ⟨1, 1, 4, [(.int .u32 0)], 0, 0, [], .u32⟩ := rfl
theorem E.to86 : TyOk Try.prog 86 ⟨1, 1, 4, [(.int .u32 0)], 0, 0, [], .u32⟩ := tyOk_of_mkTy (by kernel_rfl)
theorem E.ty87 : E.ty 87 = some ⟨0, 1, 8, [.nilf], 0, 0, [], .i64⟩ := rfl
theorem E.to87 : TyOk Try.prog 87 ⟨0, 1, 8, [.nilf], 0, 0, [], .i64⟩ := tyOk_of_mkTy (by kernel_rfl)
theorem E.ty88 : E.ty 88 = some ⟨0, 1, 8, [.nilf], 0, 0, [], .i64⟩ := rfl
theorem E.to88 : TyOk Try.prog 88 ⟨0, 1, 8, [.nilf], 0, 0, [], .i64⟩ := tyOk_of_mkTy (by kernel_rfl)
theorem E.ty89 : E.ty 89 = some ⟨0, 1, 8, [.nilf], 0, 0, [], .i64⟩ := rfl
theorem E.to89 : TyOk Try.prog 89 ⟨0, 1, 8, [.nilf], 0, 0, [], .i64⟩ := tyOk_of_mkTy (by kernel_rfl)
theorem E.ty90 : E.ty 90 = some ⟨0, 1, 8, [.nilf], 0, 0, [], .i64⟩ := rfl
theorem E.to90 : TyOk Try.prog 90 ⟨0, 1, 8, [.nilf], 0, 0, [], .i64⟩ := tyOk_of_mkTy (by kernel_rfl)
theorem E.ty91 : E.ty 91 = some ⟨0, 1, 8, [.nilf], 0, 0, [], .i64⟩ := rfl
theorem E.to91 : TyOk Try.prog 91 ⟨0, 1, 8, [.nilf], 0, 0, [], .i64⟩ := tyOk_of_mkTy (by kernel_rfl)
theorem E.ty92 : E.ty 92 = some ⟨0, 1, 8, [.nilf], 0, 0, [], .i64⟩ := rfl
theorem E.to92 : TyOk Try.prog 92 ⟨0, 1, 8, [.nilf], 0, 0, [], .i64⟩ := tyOk_of_mkTy (by kernel_rfl)
theorem E.ty93 : E.ty 93 = some ⟨0, 1, 8, [.nilf], 0, 0, [], .i64⟩ := rfl
theorem E.to93 : TyOk Try.prog 93 ⟨0, 1, 8, [.nilf], 0, 0, [], .i64⟩ := tyOk_of_mkTy (by kernel_rfl)
theorem E.ty94 : E.ty 94 = some ⟨0, 1, 8, [.nilf], 0, 0, [], .i64⟩ := rfl
theorem E.to94 : TyOk Try.prog 94 ⟨0, 1, 8, [.nilf], 0, 0, [], .i64⟩ := tyOk_of_mkTy (by kernel_rfl)
theorem E.ty95 : E.ty 95 = some ⟨0, 1, 8, [.nilf], 0, 0, [], .i64⟩ := rfl
theorem E.to95 : TyOk Try.prog 95 ⟨0, 1, 8, [.nilf], 0, 0, [], .i64⟩ := tyOk_of_mkTy (by kernel_rfl)
theorem E.ty96 : E.ty 96 = some ⟨0, 1, 8, [.nilf], 0, 0, [], .i64⟩ := rfl
theorem E.to96 : TyOk Try.prog 96 ⟨0, 1, 8, [.nilf], 0, 0, [], .i64⟩ := tyOk_of_mkTy (by kernel_rfl)
theorem E.ty97 : E.ty 97 = some ⟨0, 1, 8, [.nilf], 0, 0, [], .i64⟩ := rfl
theorem E.to97 : TyOk Try.prog 97 ⟨0, 1, 8, [.nilf], 0, 0, [], .i64⟩ := tyOk_of_mkTy (by kernel_rfl)
theorem E.ty98 : E.ty 98 = some ⟨0, 1, 8, [.nilf], 0, 0, [], .i64⟩ := rfl
theorem E.to98 : TyOk Try.prog 98 ⟨0, 1, 8, [.nilf], 0, 0, [], .i64⟩ := tyOk_of_mkTy (by kernel_rfl)
theorem E.ty99 : E.ty 99 = some ⟨0, 1, 8, [.nilf], 0, 0, [], .i64⟩ := rfl
theorem E.to99 : TyOk Try.prog 99 ⟨0, 1, 8, [.nilf], 0, 0, [], .i64⟩ := tyOk_of_mkTy (by kernel_rfl)
theorem E.ty100 : E.ty 100 = some ⟨0, 1, 8, [.nilf], 0, 0, [], .i64⟩ := rfl
theorem E.to100 : TyOk Try.prog 100 ⟨0, 1, 8, [.nilf], 0, 0, [], .i64⟩ := tyOk_of_mkTy (by kernel_rfl)
theorem E.ty101 : E.ty 101 = some ⟨0, 1, 8, [.nilf], 0, 0, [], .i64⟩ := rfl
theorem E.to101 : TyOk Try.prog 101 ⟨0, 1, 8, [.nilf], 0, 0, [], .i64⟩ := tyOk_of_mkTy (by kernel_rfl)
theorem E.ty102 : E.ty 102 = some ⟨4, 1, 24, [.nils], 5, 0, [], .i64⟩ := rfl
theorem E.to102 : TyOk Try.prog 102 ⟨4, 1, 24, [.nils], 5, 0, [], .i64⟩ := tyOk_of_mkTy (by kernel_rfl)
theorem E.ty103 : E.ty 103 = some ⟨4, 1, 24, [.nils], 167, 0, [], .i64⟩ := rfl
theorem E.to103 : TyOk Try.prog 103 ⟨4, 1, 24, [.nils], 167, 0, [], .i64⟩ := tyOk_of_mkTy (by kernel_rfl)
theorem E.ty105 : E.ty 105 = some ⟨0, 1, 8, [.nilf], 0, 0, [], .i64⟩ := rfl
theorem E.to105 : TyOk Try.prog 105 ⟨0, 1, 8, [.nilf], 0, 0, [], .i64⟩ := tyOk_of_mkTy (by kernel_rfl)
theorem E.ty107 : E.ty 107 = some ⟨0, 1, 8, [.nilf], 0, 0, [], .i64⟩ := rfl
theorem E.to107 : TyOk Try.prog 107 ⟨0, 1, 8, [.nilf], 0, 0, [], .i64⟩ := tyOk_of_mkTy (by kernel_rfl)
theorem E.ty108 : E.ty 108 = some ⟨0, 1, 8, [.nilf], 0, 0, [], .i64⟩ := rfl
theorem E.to108 : TyOk Try.prog 108 ⟨0, 1, 8, [.nilf], 0, 0, [], .i64⟩ := tyOk_of_mkTy (by kernel_rfl)
theorem E.ty109 : E.ty 109 = some ⟨0, 1, 8, [.nilf], 0, 0, [], .i64⟩ := rfl
theorem E.to109 : TyOk Try.prog 109 ⟨0, 1, 8, [.nilf], 0, 0, [], .i64⟩ := tyOk_of_mkTy (by kernel_rfl)
theorem E.ty110 : E.ty 110 = some ⟨0, 1, 8, [.nilf], 0, 0, [], .i64⟩ := rfl
theorem E.to110 : TyOk Try.prog 110 ⟨0, 1, 8, [.nilf], 0, 0, [], .i64⟩ := tyOk_of_mkTy (by kernel_rfl)
theorem E.ty111 : E.ty 111 = some ⟨0, 1, 8, [.nilf], 0, 0, [], .i64⟩ := rfl
theorem E.to111 : TyOk Try.prog 111 ⟨0, 1, 8, [.nilf], 0, 0, [], .i64⟩ := tyOk_of_mkTy (by kernel_rfl)
theorem E.ty112 : E.ty 112 = some ⟨0, 1, 8, [.nilf], 0, 0, [], .i64⟩ := rfl
theorem E.to112 : TyOk Try.prog 112 ⟨0, 1, 8, [.nilf], 0, 0, [], .i64⟩ := tyOk_of_mkTy (by kernel_rfl)
theorem E.ty113 : E.ty 113 = some ⟨4, 1, 24, [.nils], 117, 0, [], .i64⟩ := rfl
theorem E.to113 : TyOk Try.prog 113 ⟨4, 1, 24, [.nils], 117, 0, [], .i64⟩ := tyOk_of_mkTy (by kernel_rfl)
theorem E.ty114 : E.ty 114 = some ⟨6, 4, 24, [(.int .i64 0), (.int .i64 0), (.bool false), (.bool false)], 0, 0, [(0, 3, 1), (1, 3, 1), (2, 4, 1), (3, 4, 1)], .i64⟩ := rfl
theorem E.to114 : TyOk Try.prog 114 ⟨6, 4, 24, [(.int .i64 0), (.int .i64 0), (.bool false), (.bool false)], 0, 0, [(0, 3, 1), (1, 3, 1), (2, 4, 1), (3, 4, 1)], .i64⟩ := tyOk_of_mkTy (by kernel_rfl)
theorem E.ty115 : E.ty 115 = some ⟨6, 4, 24, [(.int .i64 0), (.int .i64 0), (.bool false), (.bool false)], 0, 0, [(0, 3, 1), (1, 3, 1), (2, 4, 1), (3, 4, 1)], .i64⟩ := rfl
theorem E.to115 : TyOk Try.prog 115 ⟨6, 4, 24, [(.int .i64 0), (.int .i64 0), (.bool false), (.bool false)], 0, 0, [(0, 3, 1), (1, 3, 1), (2, 4, 1), (3, 4, 1)], .i64⟩ := tyOk_of_mkTy (by kernel_rfl)
theorem E.ty116 : E.ty 116 = some ⟨6, 5, 32, [(.int .i64 0), (.int .i64 0), (.bool false), (.bool false), (.int .i64 0)], 0, 0, [(0, 115, 4), (4, 3, 1)], .i64⟩ := rfl
theorem E.to116 : TyOk Try.prog 116 ⟨6, 5, 32, [(.int .i64 0), (.int .i64 0), (.bool false), (.bool false), (.int .i64 0)], 0, 0, [(0, 115, 4), (4, 3, 1)], .i64⟩ := tyOk_of_mkTy (by kernel_rfl)
theorem E.ty117 : E.ty 117 = some ⟨6, 5, 32, [(.int .i64 0), (.int .i64 0), (.bool false), (.bool false), (.int .i64 0)], 0, 0, [(0, 115, 4), (4, 3, 1)], .i64⟩ := rfl
theorem E.to117 : TyOk Try.prog 117 ⟨6, 5, 32, [(.int .i64 0), (.int .i64 0), (.bool false), (.bool false), (.int .i64 0)], 0, 0, [(0, 115, 4), (4, 3, 1)], .i64⟩ := tyOk_of_mkTy (by kernel_rfl)
theorem E.ty118 : E.ty 118 = some ⟨6, 3, 24, [(.int .i64 0), (.int .i64 0), (.int .i64 0)], 0, 0, [(0, 3, 1), (1, 3, 1), (2, 3, 1)], .i64⟩ := rfl
theorem E.to118 : TyOk Try.prog 118 ⟨6, 3, 24, [(.int .i64 0), (.int .i64 0), (.int .i64 0)], 0, 0, [(0, 3, 1), (1, 3, 1), (2, 3, 1)], .i64⟩ := tyOk_of_mkTy (by kernel_rfl)
theorem E.ty119 : E.ty 119 = some ⟨6, 3, 24, [(.int .i64 0), (.int .i64 0), (.int .i64 0)], 0, 0, [(0, 3, 1), (1, 3, 1), (2, 3, 1)], .i64⟩ := rfl
theorem E.to119 : TyOk Try.prog 119 ⟨6, 3, 24, [(.int .i64 0), (.int .i64 0), (.int .i64 0)], 0, 0, [(0, 3, 1), (1, 3, 1), (2, 3, 1)], .i64⟩ := tyOk_of_mkTy (by kernel_rfl)
theorem E.ty120 : E.ty 120 = some ⟨0, 1, 8, [.nilf], 0, 0, [], .i64⟩ := rfl
theorem E.to120 : TyOk Try.prog 120 ⟨0, 1, 8, [.nilf], 0, 0, [], .i64⟩ := tyOk_of_mkTy (by kernel_rfl)
theorem E.ty121 : E.ty 121 = some ⟨0, 1, 8, [.nilf], 0, 0, [], .i64⟩ := rfl
theorem E.to121 : TyOk Try.prog 121 ⟨0, 1, 8, [.nilf], 0, 0, [], .i64⟩ := tyOk_of_mkTy (by kernel_rfl)
theorem E.ty122 : E.ty 122 = some ⟨0, 1, 8, [.nilf], 0, 0, [], .i64⟩ := rfl
theorem E.to122 : TyOk Try.prog 122 ⟨0, 1, 8, [.nilf], 0, 0, [], .i64⟩ := tyOk_of_mkTy (by kernel_rfl)
theorem E.ty123 : E.ty 123 = some ⟨7, 1, 8, [.nilp], 115, 0, [], .i64⟩ := rfl
theorem E.to123 : TyOk Try.prog 123 ⟨7, 1, 8, [.nilp], 115, 0, [], .i64⟩ := tyOk_of_mkTy (by kernel_rfl)
theorem E.ty124 : E.ty 124 = some ⟨0, 1, 8, [.nilf], 0, 0, [], .i64⟩ := rfl
theorem E.to124 : TyOk Try.prog 124 ⟨0, 1, 8, [.nilf], 0, 0, [], .i64⟩ := tyOk_of_mkTy (by kernel_rfl)
theorem E.ty126 : E.ty 126 = some ⟨0, 1, 8, [.nilf], 0, 0, [], .i64⟩ := rfl
theorem E.to126 : TyOk Try.prog 126 ⟨0, 1, 8, [.nilf], 0, 0, [], .i64⟩ := tyOk_of_mkTy (by kernel_rfl)
theorem E.ty127 : E.ty 127 = some ⟨0, 1, 8, [.nilf], 0, 0, [], .i64⟩ := rfl
theorem E.to127 : TyOk Try.prog 127 ⟨0, 1, 8, [.nilf], 0, 0, [], .i64⟩ := tyOk_of_mkTy (by kernel_rfl)
theorem E.ty128 : E.ty 128 = some ⟨0, 1, 8, [.nilf], 0, 0, [], .i64⟩ := rfl
theorem E.to128 : TyOk Try.prog 128 ⟨0, 1, 8, [.nilf], 0, 0, [], .i64⟩ := tyOk_of_mkTy (by kernel_rfl)
theorem E.ty129 : E.ty 129 = some ⟨0, 1, 8, [.nilf], 0, 0, [], .i64⟩ := rfl
theorem E.to129 : TyOk Try.prog 129 ⟨0, 1, 8, [.nilf], 0, 0, [], .i64⟩ := tyOk_of_mkTy (by kernel_rfl)
theorem E.ty130 : E.ty 130 = some ⟨5, 10, 10, (List.replicate 10 (.bool false)), 4, 10, [], .i64⟩ := rfl
theorem E.to130 : TyOk Try.prog 130 ⟨5, 10, 10, (List.replicate 10 (.bool false)), 4, 10, [], .i64⟩ := tyOk_of_mkTy (by kernel_rfl)
theorem E.ty131 : E.ty 131 = some ⟨0, 1, 8, [.nilf], 0, 0, [], .i64⟩ := rfl
theorem E.to131 : TyOk Try.prog 131 ⟨0, 1, 8, [.nilf], 0, 0, [], .i64⟩ := tyOk_of_mkTy (by kernel_rfl)
theorem E.ty132 : E.ty 132 = some ⟨0, 1, 8, [.nilf], 0, 0, [], .i64⟩ := rfl
theorem E.to132 : TyOk Try.prog 132 ⟨0, 1, 8, [.nilf], 0, 0, [], .i64⟩ := tyOk_of_mkTy (by kernel_rfl)
theorem E.ty133 : E.ty 133 = some ⟨0, 1, 8, [.nilf], 0, 0, [], .i64⟩ := rfl
theorem E.to133 : TyOk Try.prog 133 ⟨0, 1, 8, [.nilf], 0, 0, [], .i64⟩ := tyOk_of_mkTy (by kernel_rfl)
theorem E.ty134 : E.ty 134 = some ⟨5, 41, 328, (List.replicate 41 (.int .i64 0)), 3, 41, [], .i64⟩ := rfl
theorem E.to134 : TyOk Try.prog 134 ⟨5, 41, 328, (List.replicate 41 (.int .i64 0)), 3, 41, [], .i64⟩ := tyOk_of_mkTy (by kernel_rfl)
theorem E.ty135 : E.ty 135 = some ⟨0, 1, 8, [.undef], 0, 0, [], .i64⟩ := rfl
theorem E.to135 : TyOk Try.prog 135 ⟨0, 1, 8, [.undef], 0, 0, [], .i64⟩ := tyOk_of_mkTy (by kernel_rfl)
theorem E.ty137 : E.ty 137 = some ⟨5, 2, 16, [(.int .i64 0), (.int .i64 0)], 3, 2, [], .i64⟩ := rfl
theorem E.to137 : TyOk Try.prog 137 ⟨5, 2, 16, [(.int .i64 0), (.int .i64 0)], 3, 2, [], .i64⟩ := tyOk_of_mkTy (by kernel_rfl)
theorem E.ty138 : E.ty 138 = some ⟨0, 1, 8, [.nilf], 0, 0, [], .i64⟩ := rfl
theorem E.to138 : TyOk Try.prog 138 ⟨0, 1, 8, [.nilf], 0, 0, [], .i64⟩ := tyOk_of_mkTy (by kernel_rfl)
theorem E.ty139 : E.ty 139 = some ⟨0, 1, 8, [.nilf], 0, 0, [], .i64⟩ := rfl
theorem E.to139 : TyOk Try.prog 139 ⟨0, 1, 8, [.nilf], 0, 0, [], .i64⟩ := tyOk_of_mkTy (by kernel_rfl)
theorem E.ty140 : E.ty 140 = some ⟨0, 1, 8, [.nilf], 0, 0, [], .i64⟩ := rfl
theorem E.to140 : TyOk Try.prog 140 ⟨0, 1, 8, [.nilf], 0, 0, [], .i64⟩ := tyOk_of_mkTy (by kernel_rfl)
theorem E.ty141 : E.ty 141 = some ⟨5, 6, 48, (List.replicate 6 (.int .i64 0)), 3, 6, [], .i64⟩ := rfl
theorem E.to141 : TyOk Try.prog 141 ⟨5, 6, 48, (List.replicate 6 (.int .i64 0)), 3, 6, [], .i64⟩ := tyOk_of_mkTy (by kernel_rfl)
theorem E.ty142 : E.ty 142 = some ⟨0, 1, 8, [.nilf], 0, 0, [], .i64⟩ := rfl
theorem E.to142 : TyOk Try.prog 142 ⟨0, 1, 8, [.nilf], 0, 0, [], .i64⟩ := tyOk_of_mkTy (by kernel_rfl)
theorem E.ty143 : E.ty 143 = some ⟨0, 1, 8, [.undef], 0, 0, [], .i64⟩ := rfl
theorem E.to143 : TyOk Try.prog 143 ⟨0, 1, 8, [.undef], 0, 0, [], .i64⟩ := tyOk_of_mkTy (by kernel_rfl)
theorem E.ty144 : E.ty 144 = some ⟨0, 1, 8, [.nilf], 0, 0, [], .i64⟩ := rfl
theorem E.to144 : TyOk Try.prog 144 ⟨0, 1, 8, [.nilf], 0, 0, [], .i64⟩ := tyOk_of_mkTy (by kernel_rfl)
theorem E.ty145 : E.ty 145 = some ⟨0, 1, 8, [.nilf], 0, 0, [], .i64⟩ := rfl
theorem E.to145 : TyOk Try.prog 145 ⟨0, 1, 8, [.nilf], 0, 0, [], .i64⟩ := tyOk_of_mkTy (by kernel_rfl)
theorem E.ty146 : E.ty 146 = some ⟨0, 1, 8, [.nilf], 0, 0, [], .i64⟩ := rfl
theorem E.to146 : TyOk Try.prog 146 ⟨0, 1, 8, [.nilf], 0, 0, [], .i64⟩ := tyOk_of_mkTy (by kernel_rfl)
theorem E.ty147 : E.ty 147 = some ⟨0, 1, 8, [.nilf], 0, 0, [], .i64⟩ := rfl
theorem E.to147 : TyOk Try.prog 147 ⟨0, 1, 8, [.nilf], 0, 0, [], .i64⟩ := tyOk_of_mkTy (by kernel_rfl)
theorem E.ty148 : E.ty 148 = some ⟨0, 1, 8, [.nilf], 0, 0, [], .i64⟩ := rfl
theorem E.to148 : TyOk Try.prog 148 ⟨0, 1, 8, [.nilf], 0, 0, [], .i64⟩ := tyOk_of_mkTy (by kernel_rfl)
theorem E.ty149 : E.ty 149 = some ⟨0, 1, 8, [.nilf], 0, 0, [], .i64⟩ := rfl
theorem E.to149 : TyOk Try.prog 149 ⟨0, 1, 8, [.nilf], 0, 0, [], .i64⟩ := tyOk_of_mkTy (by kernel_rfl)
theorem E.ty150 : E.ty 150 = some ⟨0, 1, 8, [.nilf], 0, 0, [], .i64⟩ := rfl
theorem E.to150 : TyOk Try.prog 150 ⟨0, 1, 8, [.nilf], 0, 0, [], .i64⟩ := tyOk_of_mkTy (by kernel_rfl)
theorem E.ty151 : E.ty 151 = some ⟨1, 1, 8, [(.int .u64 0)], 0, 0, [], .u64⟩ := rfl
theorem E.to151 : TyOk Try.prog 151 ⟨1, 1, 8, [(.int .u64 0)], 0, 0, [], .u64⟩ := tyOk_of_mkTy (by kernel_rfl)
theorem E.ty152 : E.ty 152 = some ⟨1, 1, 8, [(.int .u64 0)], 0, 0, [], .u64⟩ := rfl
theorem E.to152 : TyOk Try.prog 152 ⟨1, 1, 8, [(.int .u64 0)], 0, 0, [], .u64⟩ := tyOk_of_mkTy (by kernel_rfl)
theorem E.ty153 : E.ty 153 = some ⟨0, 1, 8, [.nilf], 0, 0, [], .i64⟩ := rfl
theorem E.to153 : TyOk Try.prog 153 ⟨0, 1, 8, [.nilf], 0, 0, [], .i64⟩ := tyOk_of_mkTy (by kernel_rfl)
theorem E.ty154 : E.ty 154 = some ⟨0, 1, 8, [.nilf], 0, 0, [], .i64⟩ := rfl
theorem E.to154 : TyOk Try.prog 154 ⟨0, 1, 8, [.nilf], 0, 0, [], .i64⟩ := tyOk_of_mkTy (by kernel_rfl)
theorem E.ty155 : E.ty 155 = some ⟨0, 1, 8, [.nilf], 0, 0, [], .i64⟩ := rfl
theorem E.to155 : TyOk Try.prog 155 ⟨0, 1, 8, [.nilf], 0, 0, [], .i64⟩ := tyOk_of_mkTy (by kernel_rfl)
theorem E.ty156 : E.ty 156 = some ⟨4, 1, 24, [.nils], 78, 0, [], .i64⟩ := rfl
theorem E.to156 : TyOk Try.prog 156 ⟨4, 1, 24, [.nils], 78, 0, [], .i64⟩ := tyOk_of_mkTy (by kernel_rfl)
theorem E.ty157 : E.ty 157 = some ⟨0, 1, 8, [.nilf], 0, 0, [], .i64⟩ := rfl
theorem E.to157 : TyOk Try.prog 157 ⟨0, 1, 8, [.nilf], 0, 0, [], .i64⟩ := tyOk_of_mkTy (by kernel_rfl)
theorem E.ty158 : E.ty 158 = some ⟨0, 1, 8, [.nilf], 0, 0, [], .i64⟩ := rfl
theorem E.to158 : TyOk Try.prog 158 ⟨0, 1, 8, [.nilf], 0, 0, [], .i64⟩ := tyOk_of_mkTy (by kernel_rfl)
theorem E.ty159 : E.ty 159 = some ⟨0, 1, 8, [.nilf], 0, 0, [], .i64⟩ := rfl
theorem E.to159 : TyOk Try.prog 159 ⟨0, 1, 8, [.nilf], 0, 0, [], .i64⟩ := tyOk_of_mkTy (by kernel_rfl)
theorem E.ty160 : E.ty 160 = some ⟨0, 1, 8, [.nilf], 0, 0, [], .i64⟩ := rfl
theorem E.to160 : TyOk Try.prog 160 ⟨0, 1, 8, [.nilf], 0, 0, [], .i64⟩ := tyOk_of_mkTy (by kernel_rfl)
theorem E.ty161 : E.ty 161 = some ⟨4, 1, 24, [.nils], 27, 0, [], .i64⟩ := rfl
theorem E.to161 : TyOk Try.prog 161 ⟨4, 1, 24, [.nils], 27, 0, [], .i64⟩ := tyOk_of_mkTy (by kernel_rfl)
theorem E.ty162 : E.ty 162 = some ⟨0, 1, 8, [.nilf], 0, 0, [], .i64⟩ := rfl
theorem E.to162 : TyOk Try.prog 162 ⟨0, 1, 8, [.nilf], 0, 0, [], .i64⟩ := tyOk_of_mkTy (by kernel_rfl)
theorem E.ty163 : E.ty 163 = some ⟨0, 1, 8, [.nilf], 0, 0, [], .i64⟩ := rfl
theorem E.to163 : TyOk Try.prog 163 ⟨0, 1, 8, [.nilf], 0, 0, [], .i64⟩ := tyOk_of_mkTy (by kernel_rfl)
theorem E.ty164 : E.ty 164 = some ⟨0, 1, 8, [.nilf], 0, 0, [], .i64⟩ := rfl
theorem E.to164 : TyOk Try.prog 164 ⟨0, 1, 8, [.nilf], 0, 0, [], .i64⟩ := tyOk_of_mkTy (by kernel_rfl)
theorem E.ty165 : E.ty 165 = some ⟨0, 1, 8, [.nilf], 0, 0, [], .i64⟩ := rfl
theorem E.to165 : TyOk Try.prog 165 ⟨0, 1, 8, [.nilf], 0, 0, [], .i64⟩ := tyOk_of_mkTy (by kernel_rfl)
theorem E.ty166 : E.ty 166 = some ⟨6, 2, 16, [(.int .i64 0), (.int .i64 0)], 0, 0, [(0, 3, 1), (1, 3, 1)], .i64⟩ := rfl
theorem E.to166 : TyOk Try.prog 166 ⟨6, 2, 16, [(.int .i64 0), (.int .i64 0)], 0, 0, [(0, 3, 1), (1, 3, 1)], .i64⟩ := tyOk_of_mkTy (by kernel_rfl)
theorem E.ty167 : E.ty 167 = some ⟨6, 2, 16, [(.int .i64 0), (.int .i64 0)], 0, 0, [(0, 3, 1), (1, 3, 1)], .i64⟩ := rfl
theorem E.to167 : TyOk Try.prog 167 ⟨6, 2, 16, [(.int .i64 0), (.int .i64 0)], 0, 0, [(0, 3, 1), (1, 3, 1)], .i64⟩ := tyOk_of_mkTy (by kernel_rfl)
theorem E.ty168 : E.ty 168 = some ⟨0, 1, 8, [.nilf], 0, 0, [], .i64⟩ := rfl
theorem E.to168 : TyOk Try.prog 168 ⟨0, 1, 8, [.nilf], 0, 0, [], .i64⟩ := tyOk_of_mkTy (by kernel_rfl)
theorem E.ty169 : E.ty 169 = some ⟨0, 1, 8, [.nilf], 0, 0, [], .i64⟩ := rfl
theorem E.to169 : TyOk Try.prog 169 ⟨0, 1, 8, [.nilf], 0, 0, [], .i64⟩ := tyOk_of_mkTy (by kernel_rfl)
theorem E.ty170 : E.ty 170 = some ⟨7, 1, 8, [.nilp], 117, 0, [], .i64⟩ := rfl
theorem E.to170 : TyOk Try.prog 170 ⟨7, 1, 8, [.nilp], 117, 0, [], .i64⟩ := tyOk_of_mkTy (by kernel_rfl)
theorem E.ty171 : E.ty 171 = some ⟨0, 1, 8, [.nilf], 0, 0, [], .i64⟩ := rfl
theorem E.to171 : TyOk Try.prog 171 ⟨0, 1, 8, [.nilf], 0, 0, [], .i64⟩ := tyOk_of_mkTy (by kernel_rfl)
theorem E.ty172 : E.ty 172 = some ⟨0, 1, 8, [.nilf], 0, 0, [], .i64⟩ := rfl
theorem E.to172 : TyOk Try.prog 172 ⟨0, 1, 8, [.nilf], 0, 0, [], .i64⟩ := tyOk_of_mkTy (by kernel_rfl)
theorem E.ty173 : E.ty 173 = some ⟨0, 1, 8, [.nilf], 0, 0, [], .i64⟩ := rfl
theorem E.to173 : TyOk Try.prog 173 ⟨0, 1, 8, [.nilf], 0, 0, [], .i64⟩ := tyOk_of_mkTy (by kernel_rfl)
theorem E.ty174 : E.ty 174 = some ⟨0, 1, 8, [.nilf], 0, 0, [], .i64⟩ := rfl
theorem E.to174 : TyOk Try.prog 174 ⟨0, 1, 8, [.nilf], 0, 0, [], .i64⟩ := tyOk_of_mkTy (by kernel_rfl)
theorem E.ty175 : E.ty 175 = some ⟨0, 1, 8, [.nilf], 0, 0, [], .i64⟩ := rfl
theorem E.to175 : TyOk Try.prog 175 ⟨0, 1, 8, [.nilf], 0, 0, [], .i64⟩ := tyOk_of_mkTy (by kernel_rfl)
theorem E.ty176 : E.ty 176 = some ⟨0, 1, 8, [.nilf], 0, 0, [], .i64⟩ := rfl
theorem E.to176 : TyOk Try.prog 176 ⟨0, 1, 8, [.nilf], 0, 0, [], .i64⟩ := tyOk_of_mkTy (by kernel_rfl)
theorem E.ty177 : E.ty 177 = some ⟨0, 1, 8, [.nilf], 0, 0, [], .i64⟩ := rfl
theorem E.to177 : TyOk Try.prog 177 ⟨0, 1, 8, [.nilf], 0, 0, [], .i64⟩ := tyOk_of_mkTy (by kernel_rfl)
theorem E.ty178 : E.ty 178 = some ⟨0, 1, 8, [.nilf], 0, 0, [], .i64⟩ := rfl
theorem E.to178 : TyOk Try.prog 178 ⟨0, 1, 8, [.nilf], 0, 0, [], .i64⟩ := tyOk_of_mkTy (by kernel_rfl)
theorem E.ty179 : E.ty 179 = some ⟨0, 1, 8, [.nilf], 0, 0, [], .i64⟩ := rfl
theorem E.to179 : TyOk Try.prog 179 ⟨0, 1, 8, [.nilf], 0, 0, [], .i64⟩ := tyOk_of_mkTy (by kernel_rfl)
theorem E.ty180 : E.ty 180 = some ⟨0, 1, 8, [.nilf], 0, 0, [], .i64⟩ := rfl
theorem E.to180 : TyOk Try.prog 180 ⟨0, 1, 8, [.nilf], 0, 0, [], .i64⟩ := tyOk_of_mkTy (by kernel_rfl)
theorem E.ty181 : E.ty 181 = some ⟨0, 1, 8, [.nilf], 0, 0, [], .i64⟩ := rfl
theorem E.to181 : TyOk Try.prog 181 ⟨0, 1, 8, [.nilf], 0, 0, [], .i64⟩ := tyOk_of_mkTy (by kernel_rfl)
theorem E.ty182 : E.ty 182 = some ⟨1, 1, 8, [(.int .i64 0)], 0, 0, [], .i64⟩ := rfl
theorem E.to182 : TyOk Try.prog 182 ⟨1, 1, 8, [(.int .i64 0)], 0, 0, [], .i64⟩ := tyOk_of_mkTy (by kernel_rfl)
theorem E.ty184 : E.ty 184 = some ⟨0, 1, 8, [.nilf], 0, 0, [], .i64⟩ := rfl
theorem E.to184 : TyOk Try.prog 184 ⟨0, 1, 8, [.nilf], 0, 0, [], .i64⟩ := tyOk_of_mkTy (by kernel_rfl)
theorem E.ty185 : E.ty 185 = some ⟨0, 1, 8, [.nilf], 0, 0, [], .i64⟩ := rfl
theorem E.to185 : TyOk Try.prog 185 ⟨0, 1, 8, [.nilf], 0, 0, [], .i64⟩ := tyOk_of_mkTy (by kernel_rfl)
theorem E.ty186 : E.ty 186 = some ⟨0, 1, 8, [.nilf], 0, 0, [], .i64⟩ := rfl
theorem E.to186 : TyOk Try.prog 186 ⟨0, 1, 8, [.nilf], 0, 0, [], .i64⟩ := tyOk_of_mkTy (by kernel_rfl)
theorem E.ty187 : E.ty 187 = some ⟨0, 1, 8, [.nilf], 0, 0, [], .i64⟩ := rfl
theorem E.to187 : TyOk Try.prog 187 ⟨0, 1, 8, [.nilf], 0, 0, [], .i64⟩ := tyOk_of_mkTy (by kernel_rfl)
theorem E.ty188 : E.ty 188 = some ⟨0, 1, 8, [.nilf], 0, 0, [], .i64⟩ := rfl
theorem E.to188 : TyOk Try.prog 188 ⟨0, 1, 8, [.nilf], 0, 0, [], .i64⟩ := tyOk_of_mkTy (by kernel_rfl)
theorem E.ty189 : E.ty 189 = some ⟨0, 1, 8, [.nilf], 0, 0, [], .i64⟩ := rfl
theorem E.to189 : TyOk Try.prog 189 ⟨0, 1, 8, [.nilf], 0, 0, [], .i64⟩ := tyOk_of_mkTy (by kernel_rfl)
theorem E.ty190 : E.ty 190 = some ⟨0, 1, 8, [.nilf], 0, 0, [], .i64⟩ := rfl
theorem E.to190 : TyOk Try.prog 190 ⟨0, 1, 8, [.nilf], 0, 0, [], .i64⟩ := tyOk_of_mkTy (by kernel_rfl)
theorem E.ty191 : E.ty 191 = some ⟨0, 1, 8, [.nilf], 0, 0, [], .i64⟩ := rfl
theorem E.to191 : TyOk Try.prog 191 ⟨0, 1, 8, [.nilf], 0, 0, [], .i64⟩ := tyOk_of_mkTy (by kernel_rfl)
theorem E.ty192 : E.ty 192 = some ⟨0, 1, 8, [.nilf], 0, 0, [], .i64⟩ := rfl
theorem E.to192 : TyOk Try.prog 192 ⟨0, 1, 8, [.nilf], 0, 0, [], .i64⟩ := tyOk_of_mkTy (by kernel_rfl)
theorem E.ty193 : E.ty 193 = some ⟨0, 1, 8, [.nilf], 0, 0, [], .i64⟩ := rfl
theorem E.to193 : TyOk Try.prog 193 ⟨0, 1, 8, [.nilf], 0, 0, [], .i64⟩ := tyOk_of_mkTy (by kernel_rfl)
theorem E.ty194 : E.ty 194 = some ⟨0, 1, 8, [.nilf], 0, 0, [], .i64⟩ := rfl
theorem E.to194 : TyOk Try.prog 194 ⟨0, 1, 8, [.nilf], 0, 0, [], .i64⟩ := tyOk_of_mkTy (by kernel_rfl)
theorem E.ty195 : E.ty 195 = some ⟨0, 1, 8, [.nilf], 0, 0, [], .i64⟩ := rfl
theorem E.to195 : TyOk Try.prog 195 ⟨0, 1, 8, [.nilf], 0, 0, [], .i64⟩ := tyOk_of_mkTy (by kernel_rfl)
theorem E.ty196 : E.ty 196 = some ⟨0, 1, 8, [.nilf], 0, 0, [], .i64⟩ := rfl
theorem E.to196 : TyOk Try.prog 196 ⟨0, 1, 8, [.nilf], 0, 0, [], .i64⟩ := tyOk_of_mkTy (by kernel_rfl)
theorem E.ty197 : E.ty 197 = some ⟨0, 1, 8, [.nilf], 0, 0, [], .i64⟩ := rfl
theorem E.to197 : TyOk Try.prog 197 ⟨0, 1, 8, [.nilf], 0, 0, [], .i64⟩ := tyOk_of_mkTy (by kernel_rfl)
theorem E.ty198 : E.ty 198 = some ⟨0, 1, 8, [.nilf], 0, 0, [], .i64⟩ := rfl
theorem E.to198 : TyOk Try.prog 198 ⟨0, 1, 8, [.nilf], 0, 0, [], .i64⟩ := tyOk_of_mkTy (by kernel_rfl)
theorem E.ty199 : E.ty 199 = some ⟨0, 1, 8, [.nilf], 0, 0, [], .i64⟩ := rfl
theorem E.to199 : TyOk Try.prog 199 ⟨0, 1, 8, [.nilf], 0, 0, [], .i64⟩ := tyOk_of_mkTy (by kernel_rfl)
theorem E.ty200 : E.ty 200 = some ⟨0, 1, 8, [.nilf], 0, 0, [], .i64⟩ := rfl
theorem E.to200 : TyOk Try.prog 200 ⟨0, 1, 8, [.nilf], 0, 0, [], .i64⟩ := tyOk_of_mkTy (by kernel_rfl)
theorem E.ty201 : E.ty 201 = some ⟨1, 1, 8, [(.int .u64 0)], 0, 0, [], .u64⟩ := rfl
theorem E.to201 : TyOk Try.prog 201 ⟨1, 1, 8, [(.int .u64 0)], 0, 0, [], .u64⟩ := tyOk_of_mkTy (by kernel_rfl)
theorem E.ty202 : E.ty 202 = some ⟨0, 1, 8, [.nilf], 0, 0, [], .i64⟩ := rfl
theorem E.to202 : TyOk Try.prog 202 ⟨0, 1, 8, [.nilf], 0, 0, [], .i64⟩ := tyOk_of_mkTy (by kernel_rfl)
theorem E.ty203 : E.ty 203 = some ⟨0, 1, 8, [.nilf], 0, 0, [], .i64⟩ := rfl
theorem E.to203 : TyOk Try.prog 203 ⟨0, 1, 8, [.nilf], 0, 0, [], .i64⟩ := tyOk_of_mkTy (by kernel_rfl)
theorem E.ty204 : E.ty 204 = some ⟨0, 1, 8, [.nilf], 0, 0, [], .i64⟩ := rfl
theorem E.to204 : TyOk Try.prog 204 ⟨0, 1, 8, [.nilf], 0, 0, [], .i64⟩ := tyOk_of_mkTy (by kernel_rfl)
theorem E.ty205 : E.ty 205 = some ⟨7, 1, 8, [.nilp], 3, 0, [], .i64⟩ := rfl
theorem E.to205 : TyOk Try.prog 205 ⟨7, 1, 8, [.nilp], 3, 0, [], .i64⟩ := tyOk_of_mkTy (by kernel_rfl)
theorem E.ty206 : E.ty 206 = some ⟨0, 1, 8, [.nilf], 0, 0, [], .i64⟩ := rfl
theorem E.to206 : TyOk Try.prog 206 ⟨0, 1, 8, [.nilf], 0, 0, [], .i64⟩ := tyOk_of_mkTy (by kernel_rfl)
theorem E.ty207 : E.ty 207 = some ⟨0, 1, 8, [.nilf], 0, 0, [], .i64⟩ := rfl
theorem E.to207 : TyOk Try.prog 207 ⟨0, 1, 8, [.nilf], 0, 0, [], .i64⟩ := tyOk_of_mkTy (by kernel_rfl)
theorem E.ty208 : E.ty 208 = some ⟨0, 1, 8, [.nilf], 0, 0, [], .i64⟩ := rfl
theorem E.to208 : TyOk Try.prog 208 ⟨0, 1, 8, [.nilf], 0, 0, [], .i64⟩ := tyOk_of_mkTy (by kernel_rfl)
theorem E.ty209 : E.ty 209 = some ⟨0, 1, 8, [.nilf], 0, 0, [], .i64⟩ := rfl
theorem E.to209 : TyOk Try.prog 209 ⟨0, 1, 8, [.nilf], 0, 0, [], .i64⟩ := tyOk_of_mkTy (by kernel_rfl)
theorem E.ty210 : E.ty 210 = some ⟨0, 1, 8, [.nilf], 0, 0, [], .i64⟩ := rfl
theorem E.to210 : TyOk Try.prog 210 ⟨0, 1, 8, [.nilf], 0, 0, [], .i64⟩ := tyOk_of_mkTy (by kernel_rfl)
theorem E.ty211 : E.ty 211 = some ⟨0, 1, 8, [.nilf], 0, 0, [], .i64⟩ := rfl
theorem E.to211 : TyOk Try.prog 211 ⟨0, 1, 8, [.nilf], 0, 0, [], .i64⟩ := tyOk_of_mkTy (by kernel_rfl)
theorem E.ty212 : E.ty 212 = some ⟨0, 1, 8, [.nilf], 0, 0, [], .i64⟩ := rfl
theorem E.to212 : TyOk Try.prog 212 ⟨0, 1, 8, [.nilf], 0, 0, [], .i64⟩ := tyOk_of_mkTy (by kernel_rfl)
theorem E.ty213 : E.ty 213 = some ⟨0, 1, 8, [.nilf], 0, 0, [], .i64⟩ := rfl
theorem E.to213 : TyOk Try.prog 213 ⟨0, 1, 8, [.nilf], 0, 0, [], .i64⟩ := tyOk_of_mkTy (by kernel_rfl)
theorem E.ty214 : E.ty 214 = some ⟨0, 1, 8, [.nilf], 0, 0, [], .i64⟩ := rfl
theorem E.to214 : TyOk Try.prog 214 ⟨0, 1, 8, [.nilf], 0, 0, [], .i64⟩ := tyOk_of_mkTy (by kernel_rfl)
theorem E.ty215 : E.ty 215 = some ⟨0, 1, 8, [.nilf], 0, 0, [], .i64⟩ := rfl
theorem E.to215 : TyOk Try.prog 215 ⟨0, 1, 8, [.nilf], 0, 0, [], .i64⟩ := tyOk_of_mkTy (by kernel_rfl)
theorem E.ty216 : E.ty 216 = some ⟨7, 1, 8, [.nilp], 201, 0, [], .i64⟩ := rfl
theorem E.to216 : TyOk Try.prog 216 ⟨7, 1, 8, [.nilp], 201, 0, [], .i64⟩ := tyOk_of_mkTy (by kernel_rfl)
theorem E.ty217 : E.ty 217 = some ⟨0, 1, 8, [.nilf], 0, 0, [], .i64⟩ := rfl
theorem E.to217 : TyOk Try.prog 217 ⟨0, 1, 8, [.nilf], 0, 0, [], .i64⟩ := tyOk_of_mkTy (by kernel_rfl)
theorem E.ty218 : E.ty 218 = some ⟨0, 1, 8, [.nilf], 0, 0, [], .i64⟩ := rfl
theorem E.to218 : TyOk Try.prog 218 ⟨0, 1, 8, [.nilf], 0, 0, [], .i64⟩ := tyOk_of_mkTy (by kernel_rfl)
theorem E.ty219 : E.ty 219 = some ⟨0, 1, 8, [.nilf], 0, 0, [], .i64⟩ := rfl
theorem E.to219 : TyOk Try.prog 219 ⟨0, 1, 8, [.nilf], 0, 0, [], .i64⟩ := tyOk_of_mkTy (by kernel_rfl)
theorem E.ty220 : E.ty 220 = some ⟨0, 1, 8, [.nilf], 0, 0, [], .i64⟩ := rfl
theorem E.to220 : TyOk Try.prog 220 ⟨0, 1, 8, [.nilf], 0, 0, [], .i64⟩ := tyOk_of_mkTy (by kernel_rfl)
theorem E.ty221 : E.ty 221 = some ⟨0, 1, 8, [.nilf], 0, 0, [], .i64⟩ := rfl
theorem E.to221 : TyOk Try.prog 221 ⟨0, 1, 8, [.nilf], 0, 0, [], .i64⟩ := tyOk_of_mkTy (by kernel_rfl)
theorem E.ty222 : E.ty 222 = some ⟨0, 1, 8, [.nilf], 0, 0, [], .i64⟩ := rfl
theorem E.to222 : TyOk Try.prog 222 ⟨0, 1, 8, [.nilf], 0, 0, [], .i64⟩ := tyOk_of_mkTy (by kernel_rfl)
theorem E.ty223 : E.ty 223 = some ⟨0, 1, 8, [.nilf], 0, 0, [], .i64⟩ := rfl
theorem E.to223 : TyOk Try.prog 223 ⟨0, 1, 8, [.nilf], 0, 0, [], .i64⟩ := tyOk_of_mkTy (by kernel_rfl)
theorem E.ty226 : E.ty 226 = some ⟨5, 0, 0, [], 16, 0, [], .i64⟩ := rfl
theorem E.to226 : TyOk Try.prog 226 ⟨5, 0, 0, [], 16, 0, [], .i64⟩ := tyOk_of_mkTy (by kernel_rfl)
theorem E.ty229 : E.ty 229 = some ⟨0, 1, 8, [.nilf], 0, 0, [], .i64⟩ := rfl
theorem E.to229 : TyOk Try.prog 229 ⟨0, 1, 8, [.nilf], 0, 0, [], .i64⟩ := tyOk_of_mkTy (by kernel_rfl)
theorem E.ty230 : E.ty 230 = some ⟨1, 1, 1, [(.int .u8 0)], 0, 0, [], .u8⟩ := rfl
theorem E.to230 : TyOk Try.prog 230 ⟨1, 1, 1, [(.int .u8 0)], 0, 0, [], .u8⟩ := tyOk_of_mkTy (by kernel_rfl)
theorem E.ty231 : E.ty 231 = some ⟨1, 1, 1, [(.int .u8 0)], 0, 0, [], .u8⟩ := rfl
theorem E.to231 : TyOk Try.prog 231 ⟨1, 1, 1, [(.int .u8 0)], 0, 0, [], .u8⟩ := tyOk_of_mkTy (by kernel_rfl)
theorem E.ty232 : E.ty 232 = some ⟨0, 1, 8, [.nilf], 0, 0, [], .i64⟩ := rfl
theorem E.to232 : TyOk Try.prog 232 ⟨0, 1, 8, [.nilf], 0, 0, [], .i64⟩ := tyOk_of_mkTy (by kernel_rfl)
theorem E.ty233 : E.ty 233 = some ⟨7, 1, 8, [.nilp], 5, 0, [], .i64⟩ := rfl
theorem E.to233 : TyOk Try.prog 233 ⟨7, 1, 8, [.nilp], 5, 0, [], .i64⟩ := tyOk_of_mkTy (by kernel_rfl)
theorem E.ty234 : E.ty 234 = some ⟨1, 1, 4, [(.int .i32 0)], 0, 0, [], .i32⟩ := rfl
theorem E.to234 : TyOk Try.prog 234 ⟨1, 1, 4, [(.int .i32 0)], 0, 0, [], .i32⟩ := tyOk_of_mkTy (by kernel_rfl)
theorem E.ty235 : E.ty 235 = some ⟨1, 1, 4, [(.int .i32 0)], 0, 0, [], .i32⟩ := rfl
theorem E.to235 : TyOk Try.prog 235 ⟨1, 1, 4, [(.int .i32 0)], 0, 0, [], .i32⟩ := tyOk_of_mkTy (by kernel_rfl)
theorem E.ty238 : E.ty 238 = some ⟨0, 1, 8, [.nilp], 0, 0, [], .i64⟩ := rfl
theorem E.to238 : TyOk Try.prog 238 ⟨0, 1, 8, [.nilp], 0, 0, [], .i64⟩ := tyOk_of_mkTy (by kernel_rfl)
theorem E.fo3 : FnOk Try.prog 3 ⟨245, (Try.f3.body.getD .skip), Try.f3.results.toList, [18]⟩ := ⟨Try.f3, Try.func3, rfl, rfl, rfl, by kernel_rfl, by kernel_rfl, by kernel_rfl⟩
theorem E.fo4 : FnOk Try.prog 4 ⟨71, (Try.f4.body.getD .skip), Try.f4.results.toList, []⟩ := ⟨Try.f4, Try.func4, rfl, rfl, rfl, by kernel_rfl, by kernel_rfl, by kernel_rfl⟩
theorem E.fo5 : FnOk Try.prog 5 ⟨108, (Try.f5.body.getD .skip), Try.f5.results.toList, [3, 6, 15]⟩ := ⟨Try.f5, Try.func5, rfl, rfl, rfl, by kernel_rfl, by kernel_rfl, by kernel_rfl⟩
theorem E.fo6 : FnOk Try.prog 6 ⟨147, (Try.f6.body.getD .skip), Try.f6.results.toList, []⟩ := ⟨Try.f6, Try.func6, rfl, rfl, rfl, by kernel_rfl, by kernel_rfl, by kernel_rfl⟩
theorem E.fo7 : FnOk Try.prog 7 ⟨142, (Try.f7.body.getD .skip), Try.f7.results.toList, []⟩ := ⟨Try.f7, Try.func7, rfl, rfl, rfl, by kernel_rfl, by kernel_rfl, by kernel_rfl⟩
theorem E.fo8 : FnOk Try.prog 8 ⟨205, (Try.f8.body.getD .skip), Try.f8.results.toList, [15, 26]⟩ := ⟨Try.f8, Try.func8, rfl, rfl, rfl, by kernel_rfl, by kernel_rfl, by kernel_rfl⟩
theorem E.fo9 : FnOk Try.prog 9 ⟨78, (Try.f9.body.getD .skip), Try.f9.results.toList, []⟩ := ⟨Try.f9, Try.func9, rfl, rfl, rfl, by kernel_rfl, by kernel_rfl, by kernel_rfl⟩
theorem E.fo10 : FnOk Try.prog 10 ⟨75, (Try.f10.body.getD .skip), Try.f10.results.toList, []⟩ := ⟨Try.f10, Try.func10, rfl, rfl, rfl, by kernel_rfl, by kernel_rfl, by kernel_rfl⟩
theorem E.fo11 : FnOk Try.prog 11 ⟨219, (Try.f11.body.getD .skip), Try.f11.results.toList, []⟩ := ⟨Try.f11, Try.func11, rfl, rfl, rfl, by kernel_rfl, by kernel_rfl, by kernel_rfl⟩
theorem E.fo12 : FnOk Try.prog 12 ⟨18, (Try.f12.body.getD .skip), Try.f12.results.toList, [4]⟩ := ⟨Try.f12, Try.func12, rfl, rfl, rfl, by kernel_rfl, by kernel_rfl, by kernel_rfl⟩
theorem E.fo13 : FnOk Try.prog 13 ⟨51, (Try.f13.body.getD .skip), Try.f13.results.toList, []⟩ := ⟨Try.f13, Try.func13, rfl, rfl, rfl, by kernel_rfl, by kernel_rfl, by kernel_rfl⟩
theorem E.fo14 : FnOk Try.prog 14 ⟨21, (Try.f14.body.getD .skip), Try.f14.results.toList, [4]⟩ := ⟨Try.f14, Try.func14, rfl, rfl, rfl, by kernel_rfl, by kernel_rfl, by kernel_rfl⟩
-- dyn 15 14 [(6, 8), (6, 10), (6, 13), (6, 15), (6, 18), (6, 20)]
theorem E.fo15 : FnOk Try.prog 15 ⟨72, (Try.f15.body.getD .skip), Try.f15.results.toList, [1000014]⟩ := ⟨Try.f15, Try.func15, rfl, rfl, rfl, by kernel_rfl, by kernel_rfl, by kernel_rfl⟩
theorem E.fo16 : FnOk Try.prog 16 ⟨65, (Try.f16.body.getD .skip), Try.f16.results.toList, []⟩ := ⟨Try.f16, Try.func16, rfl, rfl, rfl, by kernel_rfl, by kernel_rfl, by kernel_rfl⟩
theorem E.fo17 : FnOk Try.prog 17 ⟨53, (Try.f17.body.getD .skip), Try.f17.results.toList, []⟩ := ⟨Try.f17, Try.func17, rfl, rfl, rfl, by kernel_rfl, by kernel_rfl, by kernel_rfl⟩
theorem E.fo18 : FnOk Try.prog 18 ⟨31, (Try.f18.body.getD .skip), Try.f18.results.toList, []⟩ := ⟨Try.f18, Try.func18, rfl, rfl, rfl, by kernel_rfl, by kernel_rfl, by kernel_rfl⟩
theorem E.fo19 : FnOk Try.prog 19 ⟨14, (Try.f19.body.getD .skip), Try.f19.results.toList, []⟩ := ⟨Try.f19, Try.func19, rfl, rfl, rfl, by kernel_rfl, by kernel_rfl, by kernel_rfl⟩
theorem E.fo20 : FnOk Try.prog 20 ⟨58, (Try.f20.body.getD .skip), Try.f20.results.toList, []⟩ := ⟨Try.f20, Try.func20, rfl, rfl, rfl, by kernel_rfl, by kernel_rfl, by kernel_rfl⟩
theorem E.fo21 : FnOk Try.prog 21 ⟨26, (Try.f21.body.getD .skip), Try.f21.results.toList, []⟩ := ⟨Try.f21, Try.func21, rfl, rfl, rfl, by kernel_rfl, by kernel_rfl, by kernel_rfl⟩
theorem E.fo22 : FnOk Try.prog 22 ⟨103, (Try.f22.body.getD .skip), Try.f22.results.toList, []⟩ := ⟨Try.f22, Try.func22, rfl, rfl, rfl, by kernel_rfl, by kernel_rfl, by kernel_rfl⟩
theorem E.fo23 : FnOk Try.prog 23 ⟨86, (Try.f23.body.getD .skip), Try.f23.results.toList, []⟩ := ⟨Try.f23, Try.func23, rfl, rfl, rfl, by kernel_rfl, by kernel_rfl, by kernel_rfl⟩
theorem E.fo24 : FnOk Try.prog 24 ⟨93, (Try.f24.body.getD .skip), Try.f24.results.toList, []⟩ := ⟨Try.f24, Try.func24, rfl, rfl, rfl, by kernel_rfl, by kernel_rfl, by kernel_rfl⟩
theorem E.fo25 : FnOk Try.prog 25 ⟨153, (Try.f25.body.getD .skip), Try.f25.results.toList, [24]⟩ := ⟨Try.f25, Try.func25, rfl, rfl, rfl, by kernel_rfl, by kernel_rfl, by kernel_rfl⟩
theorem E.fo26 : FnOk Try.prog 26 ⟨8, (Try.f26.body.getD .skip), Try.f26.results.toList, []⟩ := ⟨Try.f26, Try.func26, rfl, rfl, rfl, by kernel_rfl, by kernel_rfl, by kernel_rfl⟩
-- dyn 27 12 [(1, 10)]
theorem E.fo27 : FnOk Try.prog 27 ⟨54, (Try.f27.body.getD .skip), Try.f27.results.toList, [1000012]⟩ := ⟨Try.f27, Try.func27, rfl, rfl, rfl, by kernel_rfl, by kernel_rfl, by kernel_rfl⟩
theorem E.fo28 : FnOk Try.prog 28 ⟨149, (Try.f28.body.getD .skip), Try.f28.results.toList, [17]⟩ := ⟨Try.f28, Try.func28, rfl, rfl, rfl, by kernel_rfl, by kernel_rfl, by kernel_rfl⟩
theorem E.fo29 : FnOk Try.prog 29 ⟨106, (Try.f29.body.getD .skip), Try.f29.results.toList, []⟩ := ⟨Try.f29, Try.func29, rfl, rfl, rfl, by kernel_rfl, by kernel_rfl, by kernel_rfl⟩
theorem E.fo30 : FnOk Try.prog 30 ⟨84, (Try.f30.body.getD .skip), Try.f30.results.toList, []⟩ := ⟨Try.f30, Try.func30, rfl, rfl, rfl, by kernel_rfl, by kernel_rfl, by kernel_rfl⟩
theorem E.fo31 : FnOk Try.prog 31 ⟨17, (Try.f31.body.getD .skip), Try.f31.results.toList, []⟩ := ⟨Try.f31, Try.func31, rfl, rfl, rfl, by kernel_rfl, by kernel_rfl, by kernel_rfl⟩
theorem E.fo32 : FnOk Try.prog 32 ⟨17, (Try.f32.body.getD .skip), Try.f32.results.toList, []⟩ := ⟨Try.f32, Try.func32, rfl, rfl, rfl, by kernel_rfl, by kernel_rfl, by kernel_rfl⟩
theorem E.fo33 : FnOk Try.prog 33 ⟨67, (Try.f33.body.getD .skip), Try.f33.results.toList, []⟩ := ⟨Try.f33, Try.func33, rfl, rfl, rfl, by kernel_rfl, by kernel_rfl, by kernel_rfl⟩
theorem E.fo34 : FnOk Try.prog 34 ⟨32, (Try.f34.body.getD .skip), Try.f34.results.toList, []⟩ := ⟨Try.f34, Try.func34, rfl, rfl, rfl, by kernel_rfl, by kernel_rfl, by kernel_rfl⟩
theorem E.fo35 : FnOk Try.prog 35 ⟨10, (Try.f35.body.getD .skip), Try.f35.results.toList, []⟩ := ⟨Try.f35, Try.func35, rfl, rfl, rfl, by kernel_rfl, by kernel_rfl, by kernel_rfl⟩
theorem E.fo36 : FnOk Try.prog 36 ⟨55, (Try.f36.body.getD .skip), Try.f36.results.toList, []⟩ := ⟨Try.f36, Try.func36, rfl, rfl, rfl, by kernel_rfl, by kernel_rfl, by kernel_rfl⟩
theorem E.fo37 : FnOk Try.prog 37 ⟨40, (Try.f37.body.getD .skip), Try.f37.results.toList, []⟩ := ⟨Try.f37, Try.func37, rfl, rfl, rfl, by kernel_rfl, by kernel_rfl, by kernel_rfl⟩
theorem E.fo38 : FnOk Try.prog 38 ⟨51, (Try.f38.body.getD .skip), Try.f38.results.toList, []⟩ := ⟨Try.f38, Try.func38, rfl, rfl, rfl, by kernel_rfl, by kernel_rfl, by kernel_rfl⟩
theorem E.fo39 : FnOk Try.prog 39 ⟨56, (Try.f39.body.getD .skip), Try.f39.results.toList, []⟩ := ⟨Try.f39, Try.func39, rfl, rfl, rfl, by kernel_rfl, by kernel_rfl, by kernel_rfl⟩
theorem E.fo40 : FnOk Try.prog 40 ⟨13, (Try.f40.body.getD .skip), Try.f40.results.toList, []⟩ := ⟨Try.f40, Try.func40, rfl, rfl, rfl, by kernel_rfl, by kernel_rfl, by kernel_rfl⟩
theorem E.fo41 : FnOk Try.prog 41 ⟨38, (Try.f41.body.getD .skip), Try.f41.results.toList, []⟩ := ⟨Try.f41, Try.func41, rfl, rfl, rfl, by kernel_rfl, by kernel_rfl, by kernel_rfl⟩
theorem E.fo42 : FnOk Try.prog 42 ⟨36, (Try.f42.body.getD .skip), Try.f42.results.toList, []⟩ := ⟨Try.f42, Try.func42, rfl, rfl, rfl, by kernel_rfl, by kernel_rfl, by kernel_rfl⟩
theorem E.fo43 : FnOk Try.prog 43 ⟨29, (Try.f43.body.getD .skip), Try.f43.results.toList, []⟩ := ⟨Try.f43, Try.func43, rfl, rfl, rfl, by kernel_rfl, by kernel_rfl, by kernel_rfl⟩
theorem E.fo44 : FnOk Try.prog 44 ⟨61, (Try.f44.body.getD .skip), Try.f44.results.toList, []⟩ := ⟨Try.f44, Try.func44, rfl, rfl, rfl, by kernel_rfl, by kernel_rfl, by kernel_rfl⟩
theorem E.fo45 : FnOk Try.prog 45 ⟨8, (Try.f45.body.getD .skip), Try.f45.results.toList, []⟩ := ⟨Try.f45, Try.func45, rfl, rfl, rfl, by kernel_rfl, by kernel_rfl, by kernel_rfl⟩
theorem E.fo46 : FnOk Try.prog 46 ⟨33, (Try.f46.body.getD .skip), Try.f46.results.toList, []⟩ := ⟨Try.f46, Try.func46, rfl, rfl, rfl, by kernel_rfl, by kernel_rfl, by kernel_rfl⟩
theorem E.fo47 : FnOk Try.prog 47 ⟨9, (Try.f47.body.getD .skip), Try.f47.results.toList, []⟩ := ⟨Try.f47, Try.func47, rfl, rfl, rfl, by kernel_rfl, by kernel_rfl, by kernel_rfl⟩
theorem E.fo48 : FnOk Try.prog 48 ⟨6, (Try.f48.body.getD .skip), Try.f48.results.toList, []⟩ := ⟨Try.f48, Try.func48, rfl, rfl, rfl, by kernel_rfl, by kernel_rfl, by kernel_rfl⟩
theorem E.fo49 : FnOk Try.prog 49 ⟨42, (Try.f49.body.getD .skip), Try.f49.results.toList, []⟩ := ⟨Try.f49, Try.func49, rfl, rfl, rfl, by kernel_rfl, by kernel_rfl, by kernel_rfl⟩
theorem E.fo50 : FnOk Try.prog 50 ⟨77, (Try.f50.body.getD .skip), Try.f50.results.toList, []⟩ := ⟨Try.f50, Try.func50, rfl, rfl, rfl, by kernel_rfl, by kernel_rfl, by kernel_rfl⟩
theorem E.fo51 : FnOk Try.prog 51 ⟨58, (Try.f51.body.getD .skip), Try.f51.results.toList, []⟩ := ⟨Try.f51, Try.func51, rfl, rfl, rfl, by kernel_rfl, by kernel_rfl, by kernel_rfl⟩
theorem E.fo52 : FnOk Try.prog 52 ⟨61, (Try.f52.body.getD .skip), Try.f52.results.toList, []⟩ := ⟨Try.f52, Try.func52, rfl, rfl, rfl, by kernel_rfl, by kernel_rfl, by kernel_rfl⟩
theorem E.fo53 : FnOk Try.prog 53 ⟨17, (Try.f53.body.getD .skip), Try.f53.results.toList, []⟩ := ⟨Try.f53, Try.func53, rfl, rfl, rfl, by kernel_rfl, by kernel_rfl, by kernel_rfl⟩
theorem E.fo54 : FnOk Try.prog 54 ⟨32, (Try.f54.body.getD .skip), Try.f54.results.toList, []⟩ := ⟨Try.f54, Try.func54, rfl, rfl, rfl, by kernel_rfl, by kernel_rfl, by kernel_rfl⟩
theorem E.fo55 : FnOk Try.prog 55 ⟨59, (Try.f55.body.getD .skip), Try.f55.results.toList, []⟩ := ⟨Try.f55, Try.func55, rfl, rfl, rfl, by kernel_rfl, by kernel_rfl, by kernel_rfl⟩
theorem E.fo56 : FnOk Try.prog 56 ⟨32, (Try.f56.body.getD .skip), Try.f56.results.toList, []⟩ := ⟨Try.f56, Try.func56, rfl, rfl, rfl, by kernel_rfl, by kernel_rfl, by kernel_rfl⟩
theorem E.fo57 : FnOk Try.prog 57 ⟨27, (Try.f57.body.getD .skip), Try.f57.results.toList, []⟩ := ⟨Try.f57, Try.func57, rfl, rfl, rfl, by kernel_rfl, by kernel_rfl, by kernel_rfl⟩
theorem E.fo58 : FnOk Try.prog 58 ⟨29, (Try.f58.body.getD .skip), Try.f58.results.toList, []⟩ := ⟨Try.f58, Try.func58, rfl, rfl, rfl, by kernel_rfl, by kernel_rfl, by kernel_rfl⟩
theorem E.fo59 : FnOk Try.prog 59 ⟨35, (Try.f59.body.getD .skip), Try.f59.results.toList, [9]⟩ := ⟨Try.f59, Try.func59, rfl, rfl, rfl, by kernel_rfl, by kernel_rfl, by kernel_rfl⟩
theorem E.fo60 : FnOk Try.prog 60 ⟨45, (Try.f60.body.getD .skip), Try.f60.results.toList, []⟩ := ⟨Try.f60, Try.func60, rfl, rfl, rfl, by kernel_rfl, by kernel_rfl, by kernel_rfl⟩
theorem E.fo61 : FnOk Try.prog 61 ⟨29, (Try.f61.body.getD .skip), Try.f61.results.toList, []⟩ := ⟨Try.f61, Try.func61, rfl, rfl, rfl, by kernel_rfl, by kernel_rfl, by kernel_rfl⟩
theorem E.fo62 : FnOk Try.prog 62 ⟨31, (Try.f62.body.getD .skip), Try.f62.results.toList, []⟩ := ⟨Try.f62, Try.func62, rfl, rfl, rfl, by kernel_rfl, by kernel_rfl, by kernel_rfl⟩
theorem E.fo63 : FnOk Try.prog 63 ⟨9, (Try.f63.body.getD .skip), Try.f63.results.toList, []⟩ := ⟨Try.f63, Try.func63, rfl, rfl, rfl, by kernel_rfl, by kernel_rfl, by kernel_rfl⟩
theorem E.fo64 : FnOk Try.prog 64 ⟨6, (Try.f64.body.getD .skip), Try.f64.results.toList, []⟩ := ⟨Try.f64, Try.func64, rfl, rfl, rfl, by kernel_rfl, by kernel_rfl, by kernel_rfl⟩
theorem E.fo65 : FnOk Try.prog 65 ⟨8, (Try.f65.body.getD .skip), Try.f65.results.toList, []⟩ := ⟨Try.f65, Try.func65, rfl, rfl, rfl, by kernel_rfl, by kernel_rfl, by kernel_rfl⟩
theorem E.fo66 : FnOk Try.prog 66 ⟨51, (Try.f66.body.getD .skip), Try.f66.results.toList, []⟩ := ⟨Try.f66, Try.func66, rfl, rfl, rfl, by kernel_rfl, by kernel_rfl, by kernel_rfl⟩
theorem E.fo67 : FnOk Try.prog 67 ⟨44, (Try.f67.body.getD .skip), Try.f67.results.toList, []⟩ := ⟨Try.f67, Try.func67, rfl, rfl, rfl, by kernel_rfl, by kernel_rfl, by kernel_rfl⟩
theorem E.fo68 : FnOk Try.prog 68 ⟨44, (Try.f68.body.getD .skip), Try.f68.results.toList, []⟩ := ⟨Try.f68, Try.func68, rfl, rfl, rfl, by kernel_rfl, by kernel_rfl, by kernel_rfl⟩
theorem E.fo69 : FnOk Try.prog 69 ⟨36, (Try.f69.body.getD .skip), Try.f69.results.toList, []⟩ := ⟨Try.f69, Try.func69, rfl, rfl, rfl, by kernel_rfl, by kernel_rfl, by kernel_rfl⟩
theorem E.fo70 : FnOk Try.prog 70 ⟨9, (Try.f70.body.getD .skip), Try.f70.results.toList, []⟩ := ⟨Try.f70, Try.func70, rfl, rfl, rfl, by kernel_rfl, by kernel_rfl, by kernel_rfl⟩
theorem E.fo71 : FnOk Try.prog 71 ⟨8, (Try.f71.body.getD .skip), Try.f71.results.toList, []⟩ := ⟨Try.f71, Try.func71, rfl, rfl, rfl, by kernel_rfl, by kernel_rfl, by kernel_rfl⟩
theorem E.fo72 : FnOk Try.prog 72 ⟨12, (Try.f72.body.getD .skip), Try.f72.results.toList, []⟩ := ⟨Try.f72, Try.func72, rfl, rfl, rfl, by kernel_rfl, by kernel_rfl, by kernel_rfl⟩
theorem E.fo73 : FnOk Try.prog 73 ⟨31, (Try.f73.body.getD .skip), Try.f73.results.toList, []⟩ := ⟨Try.f73, Try.func73, rfl, rfl, rfl, by kernel_rfl, by kernel_rfl, by kernel_rfl⟩
theorem E.fo74 : FnOk Try.prog 74 ⟨62, (Try.f74.body.getD .skip), Try.f74.results.toList, []⟩ := ⟨Try.f74, Try.func74, rfl, rfl, rfl, by kernel_rfl, by kernel_rfl, by kernel_rfl⟩
theorem E.fo75 : FnOk Try.prog 75 ⟨47, (Try.f75.body.getD .skip), Try.f75.results.toList, []⟩ := ⟨Try.f75, Try.func75, rfl, rfl, rfl, by kernel_rfl, by kernel_rfl, by kernel_rfl⟩
theorem E.fo76 : FnOk Try.prog 76 ⟨6, (Try.f76.body.getD .skip), Try.f76.results.toList, []⟩ := ⟨Try.f76, Try.func76, rfl, rfl, rfl, by kernel_rfl, by kernel_rfl, by kernel_rfl⟩
-- dyn 77 7 [(0, 9)]
theorem E.fo77 : FnOk Try.prog 77 ⟨47, (Try.f77.body.getD .skip), Try.f77.results.toList, [7, 1000007, 2000077]⟩ := ⟨Try.f77, Try.func77, rfl, rfl, rfl, by kernel_rfl, by kernel_rfl, by kernel_rfl⟩
theorem E.fo78 : FnOk Try.prog 78 ⟨88, (Try.f78.body.getD .skip), Try.f78.results.toList, []⟩ := ⟨Try.f78, Try.func78, rfl, rfl, rfl, by kernel_rfl, by kernel_rfl, by kernel_rfl⟩
theorem E.fo79 : FnOk Try.prog 79 ⟨13, (Try.f79.body.getD .skip), Try.f79.results.toList, []⟩ := ⟨Try.f79, Try.func79, rfl, rfl, rfl, by kernel_rfl, by kernel_rfl, by kernel_rfl⟩
theorem E.fo80 : FnOk Try.prog 80 ⟨73, (Try.f80.body.getD .skip), Try.f80.results.toList, []⟩ := ⟨Try.f80, Try.func80, rfl, rfl, rfl, by kernel_rfl, by kernel_rfl, by kernel_rfl⟩
theorem E.fo81 : FnOk Try.prog 81 ⟨12, (Try.f81.body.getD .skip), Try.f81.results.toList, []⟩ := ⟨Try.f81, Try.func81, rfl, rfl, rfl, by kernel_rfl, by kernel_rfl, by kernel_rfl⟩
theorem E.fo82 : FnOk Try.prog 82 ⟨70, (Try.f82.body.getD .skip), Try.f82.results.toList, []⟩ := ⟨Try.f82, Try.func82, rfl, rfl, rfl, by kernel_rfl, by kernel_rfl, by kernel_rfl⟩
theorem E.fo83 : FnOk Try.prog 83 ⟨134, (Try.f83.body.getD .skip), Try.f83.results.toList, []⟩ := ⟨Try.f83, Try.func83, rfl, rfl, rfl, by kernel_rfl, by kernel_rfl, by kernel_rfl⟩
theorem E.fo84 : FnOk Try.prog 84 ⟨51, (Try.f84.body.getD .skip), Try.f84.results.toList, []⟩ := ⟨Try.f84, Try.func84, rfl, rfl, rfl, by kernel_rfl, by kernel_rfl, by kernel_rfl⟩
theorem E.fo85 : FnOk Try.prog 85 ⟨37, (Try.f85.body.getD .skip), Try.f85.results.toList, []⟩ := ⟨Try.f85, Try.func85, rfl, rfl, rfl, by kernel_rfl, by kernel_rfl, by kernel_rfl⟩
theorem E.fo86 : FnOk Try.prog 86 ⟨26, (Try.f86.body.getD .skip), Try.f86.results.toList, []⟩ := ⟨Try.f86, Try.func86, rfl, rfl, rfl, by kernel_rfl, by kernel_rfl, by kernel_rfl⟩
theorem E.fo87 : FnOk Try.prog 87 ⟨35, (Try.f87.body.getD .skip), Try.f87.results.toList, []⟩ := ⟨Try.f87, Try.func87, rfl, rfl, rfl, by kernel_rfl, by kernel_rfl, by kernel_rfl⟩
theorem E.fo88 : FnOk Try.prog 88 ⟨29, (Try.f88.body.getD .skip), Try.f88.results.toList, [5]⟩ := ⟨Try.f88, Try.func88, rfl, rfl, rfl, by kernel_rfl, by kernel_rfl, by kernel_rfl⟩
theorem E.fo89 : FnOk Try.prog 89 ⟨4, (Try.f89.body.getD .skip), Try.f89.results.toList, []⟩ := ⟨Try.f89, Try.func89, rfl, rfl, rfl, by kernel_rfl, by kernel_rfl, by kernel_rfl⟩
theorem E.fo90 : FnOk Try.prog 90 ⟨3, (Try.f90.body.getD .skip), Try.f90.results.toList, []⟩ := ⟨Try.f90, Try.func90, rfl, rfl, rfl, by kernel_rfl, by kernel_rfl, by kernel_rfl⟩
theorem E.fo91 : FnOk Try.prog 91 ⟨4, (Try.f91.body.getD .skip), Try.f91.results.toList, []⟩ := ⟨Try.f91, Try.func91, rfl, rfl, rfl, by kernel_rfl, by kernel_rfl, by kernel_rfl⟩
theorem E.fo92 : FnOk Try.prog 92 ⟨6, (Try.f92.body.getD .skip), Try.f92.results.toList, []⟩ := ⟨Try.f92, Try.func92, rfl, rfl, rfl, by kernel_rfl, by kernel_rfl, by kernel_rfl⟩
theorem E.fo93 : FnOk Try.prog 93 ⟨7, (Try.f93.body.getD .skip), Try.f93.results.toList, []⟩ := ⟨Try.f93, Try.func93, rfl, rfl, rfl, by kernel_rfl, by kernel_rfl, by kernel_rfl⟩
theorem E.fo94 : FnOk Try.prog 94 ⟨33, (Try.f94.body.getD .skip), Try.f94.results.toList, []⟩ := ⟨Try.f94, Try.func94, rfl, rfl, rfl, by kernel_rfl, by kernel_rfl, by kernel_rfl⟩
theorem E.fo95 : FnOk Try.prog 95 ⟨21, (Try.f95.body.getD .skip), Try.f95.results.toList, []⟩ := ⟨Try.f95, Try.func95, rfl, rfl, rfl, by kernel_rfl, by kernel_rfl, by kernel_rfl⟩
theorem E.fo96 : FnOk Try.prog 96 ⟨76, (Try.f96.body.getD .skip), Try.f96.results.toList, []⟩ := ⟨Try.f96, Try.func96, rfl, rfl, rfl, by kernel_rfl, by kernel_rfl, by kernel_rfl⟩
theorem E.fo97 : FnOk Try.prog 97 ⟨40, (Try.f97.body.getD .skip), Try.f97.results.toList, []⟩ := ⟨Try.f97, Try.func97, rfl, rfl, rfl, by kernel_rfl, by kernel_rfl, by kernel_rfl⟩
theorem E.fo98 : FnOk Try.prog 98 ⟨8, (Try.f98.body.getD .skip), Try.f98.results.toList, []⟩ := ⟨Try.f98, Try.func98, rfl, rfl, rfl, by kernel_rfl, by kernel_rfl, by kernel_rfl⟩
theorem E.fo99 : FnOk Try.prog 99 ⟨25, (Try.f99.body.getD .skip), Try.f99.results.toList, []⟩ := ⟨Try.f99, Try.func99, rfl, rfl, rfl, by kernel_rfl, by kernel_rfl, by kernel_rfl⟩
theorem E.fo100 : FnOk Try.prog 100 ⟨24, (Try.f100.body.getD .skip), Try.f100.results.toList, []⟩ := ⟨Try.f100, Try.func100, rfl, rfl, rfl, by kernel_rfl, by kernel_rfl, by kernel_rfl⟩
theorem E.fo101 : FnOk Try.prog 101 ⟨31, (Try.f101.body.getD .skip), Try.f101.results.toList, []⟩ := ⟨Try.f101, Try.func101, rfl, rfl, rfl, by kernel_rfl, by kernel_rfl, by kernel_rfl⟩
theorem E.fo102 : FnOk Try.prog 102 ⟨55, (Try.f102.body.getD .skip), Try.f102.results.toList, []⟩ := ⟨Try.f102, Try.func102, rfl, rfl, rfl, by kernel_rfl, by kernel_rfl, by kernel_rfl⟩
theorem E.fo103 : FnOk Try.prog 103 ⟨19, (Try.f103.body.getD .skip), Try.f103.results.toList, []⟩ := ⟨Try.f103, Try.func103, rfl, rfl, rfl, by kernel_rfl, by kernel_rfl, by kernel_rfl⟩
theorem E.fo104 : FnOk Try.prog 104 ⟨19, (Try.f104.body.getD .skip), Try.f104.results.toList, []⟩ := ⟨Try.f104, Try.func104, rfl, rfl, rfl, by kernel_rfl, by kernel_rfl, by kernel_rfl⟩
theorem E.fo105 : FnOk Try.prog 105 ⟨17, (Try.f105.body.getD .skip), Try.f105.results.toList, []⟩ := ⟨Try.f105, Try.func105, rfl, rfl, rfl, by kernel_rfl, by kernel_rfl, by kernel_rfl⟩
theorem E.fo106 : FnOk Try.prog 106 ⟨21, (Try.f106.body.getD .skip), Try.f106.results.toList, []⟩ := ⟨Try.f106, Try.func106, rfl, rfl, rfl, by kernel_rfl, by kernel_rfl, by kernel_rfl⟩
theorem E.fo107 : FnOk Try.prog 107 ⟨9, (Try.f107.body.getD .skip), Try.f107.results.toList, []⟩ := ⟨Try.f107, Try.func107, rfl, rfl, rfl, by kernel_rfl, by kernel_rfl, by kernel_rfl⟩
theorem E.fo108 : FnOk Try.prog 108 ⟨52, (Try.f108.body.getD .skip), Try.f108.results.toList, []⟩ := ⟨Try.f108, Try.func108, rfl, rfl, rfl, by kernel_rfl, by kernel_rfl, by kernel_rfl⟩
theorem E.fo109 : FnOk Try.prog 109 ⟨8, (Try.f109.body.getD .skip), Try.f109.results.toList, []⟩ := ⟨Try.f109, Try.func109, rfl, rfl, rfl, by kernel_rfl, by kernel_rfl, by kernel_rfl⟩
theorem E.fo110 : FnOk Try.prog 110 ⟨14, (Try.f110.body.getD .skip), Try.f110.results.toList, []⟩ := ⟨Try.f110, Try.func110, rfl, rfl, rfl, by kernel_rfl, by kernel_rfl, by kernel_rfl⟩
theorem E.fo111 : FnOk Try.prog 111 ⟨8, (Try.f111.body.getD .skip), Try.f111.results.toList, []⟩ := ⟨Try.f111, Try.func111, rfl, rfl, rfl, by kernel_rfl, by kernel_rfl, by kernel_rfl⟩
theorem E.fo112 : FnOk Try.prog 112 ⟨8, (Try.f112.body.getD .skip), Try.f112.results.toList, []⟩ := ⟨Try.f112, Try.func112, rfl, rfl, rfl, by kernel_rfl, by kernel_rfl, by kernel_rfl⟩
theorem E.fo113 : FnOk Try.prog 113 ⟨45, (Try.f113.body.getD .skip), Try.f113.results.toList, [7]⟩ := ⟨Try.f113, Try.func113, rfl, rfl, rfl, by kernel_rfl, by kernel_rfl, by kernel_rfl⟩
theorem E.fo114 : FnOk Try.prog 114 ⟨11, (Try.f114.body.getD .skip), Try.f114.results.toList, []⟩ := ⟨Try.f114, Try.func114, rfl, rfl, rfl, by kernel_rfl, by kernel_rfl, by kernel_rfl⟩
theorem E.fo115 : FnOk Try.prog 115 ⟨28, (Try.f115.body.getD .skip), Try.f115.results.toList, []⟩ := ⟨Try.f115, Try.func115, rfl, rfl, rfl, by kernel_rfl, by kernel_rfl, by kernel_rfl⟩
theorem E.fo116 : FnOk Try.prog 116 ⟨19, (Try.f116.body.getD .skip), Try.f116.results.toList, []⟩ := ⟨Try.f116, Try.func116, rfl, rfl, rfl, by kernel_rfl, by kernel_rfl, by kernel_rfl⟩
theorem E.fo117 : FnOk Try.prog 117 ⟨33, (Try.f117.body.getD .skip), Try.f117.results.toList, []⟩ := ⟨Try.f117, Try.func117, rfl, rfl, rfl, by kernel_rfl, by kernel_rfl, by kernel_rfl⟩
theorem E.fo118 : FnOk Try.prog 118 ⟨8, (Try.f118.body.getD .skip), Try.f118.results.toList, []⟩ := ⟨Try.f118, Try.func118, rfl, rfl, rfl, by kernel_rfl, by kernel_rfl, by kernel_rfl⟩
theorem E.fo119 : FnOk Try.prog 119 ⟨45, (Try.f119.body.getD .skip), Try.f119.results.toList, []⟩ := ⟨Try.f119, Try.func119, rfl, rfl, rfl, by kernel_rfl, by kernel_rfl, by kernel_rfl⟩
theorem E.fo120 : FnOk Try.prog 120 ⟨14, (Try.f120.body.getD .skip), Try.f120.results.toList, []⟩ := ⟨Try.f120, Try.func120, rfl, rfl, rfl, by kernel_rfl, by kernel_rfl, by kernel_rfl⟩
theorem E.fo121 : FnOk Try.prog 121 ⟨36, (Try.f121.body.getD .skip), Try.f121.results.toList, []⟩ := ⟨Try.f121, Try.func121, rfl, rfl, rfl, by kernel_rfl, by kernel_rfl, by kernel_rfl⟩
theorem E.fo122 : FnOk Try.prog 122 ⟨43, (Try.f122.body.getD .skip), Try.f122.results.toList, []⟩ := ⟨Try.f122, Try.func122, rfl, rfl, rfl, by kernel_rfl, by kernel_rfl, by kernel_rfl⟩
theorem E.fo123 : FnOk Try.prog 123 ⟨9, (Try.f123.body.getD .skip), Try.f123.results.toList, []⟩ := ⟨Try.f123, Try.func123, rfl, rfl, rfl, by kernel_rfl, by kernel_rfl, by kernel_rfl⟩
theorem E.fo124 : FnOk Try.prog 124 ⟨13, (Try.f124.body.getD .skip), Try.f124.results.toList, []⟩ := ⟨Try.f124, Try.func124, rfl, rfl, rfl, by kernel_rfl, by kernel_rfl, by kernel_rfl⟩
theorem E.fo125 : FnOk Try.prog 125 ⟨23, (Try.f125.body.getD .skip), Try.f125.results.toList, []⟩ := ⟨Try.f125, Try.func125, rfl, rfl, rfl, by kernel_rfl, by kernel_rfl, by kernel_rfl⟩
theorem E.fo126 : FnOk Try.prog 126 ⟨66, (Try.f126.body.getD .skip), Try.f126.results.toList, []⟩ := ⟨Try.f126, Try.func126, rfl, rfl, rfl, by kernel_rfl, by kernel_rfl, by kernel_rfl⟩
theorem E.fo127 : FnOk Try.prog 127 ⟨43, (Try.f127.body.getD .skip), Try.f127.results.toList, []⟩ := ⟨Try.f127, Try.func127, rfl, rfl, rfl, by kernel_rfl, by kernel_rfl, by kernel_rfl⟩
theorem E.fo128 : FnOk Try.prog 128 ⟨27, (Try.f128.body.getD .skip), Try.f128.results.toList, []⟩ := ⟨Try.f128, Try.func128, rfl, rfl, rfl, by kernel_rfl, by kernel_rfl, by kernel_rfl⟩
theorem E.fo129 : FnOk Try.prog 129 ⟨20, (Try.f129.body.getD .skip), Try.f129.results.toList, []⟩ := ⟨Try.f129, Try.func129, rfl, rfl, rfl, by kernel_rfl, by kernel_rfl, by kernel_rfl⟩
theorem E.fo130 : FnOk Try.prog 130 ⟨19, (Try.f130.body.getD .skip), Try.f130.results.toList, []⟩ := ⟨Try.f130, Try.func130, rfl, rfl, rfl, by kernel_rfl, by kernel_rfl, by kernel_rfl⟩
theorem E.fo131 : FnOk Try.prog 131 ⟨24, (Try.f131.body.getD .skip), Try.f131.results.toList, []⟩ := ⟨Try.f131, Try.func131, rfl, rfl, rfl, by kernel_rfl, by kernel_rfl, by kernel_rfl⟩
theorem E.fo132 : FnOk Try.prog 132 ⟨29, (Try.f132.body.getD .skip), Try.f132.results.toList, []⟩ := ⟨Try.f132, Try.func132, rfl, rfl, rfl, by kernel_rfl, by kernel_rfl, by kernel_rfl⟩
theorem E.fo133 : FnOk Try.prog 133 ⟨27, (Try.f133.body.getD .skip), Try.f133.results.toList, []⟩ := ⟨Try.f133, Try.func133, rfl, rfl, rfl, by kernel_rfl, by kernel_rfl, by kernel_rfl⟩
theorem E.fo134 : FnOk Try.prog 134 ⟨19, (Try.f134.body.getD .skip), Try.f134.results.toList, []⟩ := ⟨Try.f134, Try.func134, rfl, rfl, rfl, by kernel_rfl, by kernel_rfl, by kernel_rfl⟩
theorem E.fo135 : FnOk Try.prog 135 ⟨14, (Try.f135.body.getD .skip), Try.f135.results.toList, []⟩ := ⟨Try.f135, Try.func135, rfl, rfl, rfl, by kernel_rfl, by kernel_rfl, by kernel_rfl⟩
theorem E.fo136 : FnOk Try.prog 136 ⟨14, (Try.f136.body.getD .skip), Try.f136.results.toList, []⟩ := ⟨Try.f136, Try.func136, rfl, rfl, rfl, by kernel_rfl, by kernel_rfl, by kernel_rfl⟩
theorem E.fo137 : FnOk Try.prog 137 ⟨40, (Try.f137.body.getD .skip), Try.f137.results.toList, []⟩ := ⟨Try.f137, Try.func137, rfl, rfl, rfl, by kernel_rfl, by kernel_rfl, by kernel_rfl⟩
theorem E.fo138 : FnOk Try.prog 138 ⟨33, (Try.f138.body.getD .skip), Try.f138.results.toList, []⟩ := ⟨Try.f138, Try.func138, rfl, rfl, rfl, by kernel_rfl, by kernel_rfl, by kernel_rfl⟩
theorem E.fo139 : FnOk Try.prog 139 ⟨29, (Try.f139.body.getD .skip), Try.f139.results.toList, []⟩ := ⟨Try.f139, Try.func139, rfl, rfl, rfl, by kernel_rfl, by kernel_rfl, by kernel_rfl⟩
theorem E.fo140 : FnOk Try.prog 140 ⟨9, (Try.f140.body.getD .skip), Try.f140.results.toList, []⟩ := ⟨Try.f140, Try.func140, rfl, rfl, rfl, by kernel_rfl, by kernel_rfl, by kernel_rfl⟩
theorem E.fo141 : FnOk Try.prog 141 ⟨5, (Try.f141.body.getD .skip), Try.f141.results.toList, []⟩ := ⟨Try.f141, Try.func141, rfl, rfl, rfl, by kernel_rfl, by kernel_rfl, by kernel_rfl⟩
theorem E.fo142 : FnOk Try.prog 142 ⟨61, (Try.f142.body.getD .skip), Try.f142.results.toList, []⟩ := ⟨Try.f142, Try.func142, rfl, rfl, rfl, by kernel_rfl, by kernel_rfl, by kernel_rfl⟩
theorem E.fo143 : FnOk Try.prog 143 ⟨6, (Try.f143.body.getD .skip), Try.f143.results.toList, []⟩ := ⟨Try.f143, Try.func143, rfl, rfl, rfl, by kernel_rfl, by kernel_rfl, by kernel_rfl⟩
theorem E.fo144 : FnOk Try.prog 144 ⟨81, (Try.f144.body.getD .skip), Try.f144.results.toList, []⟩ := ⟨Try.f144, Try.func144, rfl, rfl, rfl, by kernel_rfl, by kernel_rfl, by kernel_rfl⟩
theorem E.fo145 : FnOk Try.prog 145 ⟨8, (Try.f145.body.getD .skip), Try.f145.results.toList, []⟩ := ⟨Try.f145, Try.func145, rfl, rfl, rfl, by kernel_rfl, by kernel_rfl, by kernel_rfl⟩
theorem E.fo146 : FnOk Try.prog 146 ⟨32, (Try.f146.body.getD .skip), Try.f146.results.toList, []⟩ := ⟨Try.f146, Try.func146, rfl, rfl, rfl, by kernel_rfl, by kernel_rfl, by kernel_rfl⟩
theorem E.fo147 : FnOk Try.prog 147 ⟨17, (Try.f147.body.getD .skip), Try.f147.results.toList, []⟩ := ⟨Try.f147, Try.func147, rfl, rfl, rfl, by kernel_rfl, by kernel_rfl, by kernel_rfl⟩
theorem E.fo148 : FnOk Try.prog 148 ⟨60, (Try.f148.body.getD .skip), Try.f148.results.toList, []⟩ := ⟨Try.f148, Try.func148, rfl, rfl, rfl, by kernel_rfl, by kernel_rfl, by kernel_rfl⟩
theorem E.fo149 : FnOk Try.prog 149 ⟨33, (Try.f149.body.getD .skip), Try.f149.results.toList, []⟩ := ⟨Try.f149, Try.func149, rfl, rfl, rfl, by kernel_rfl, by kernel_rfl, by kernel_rfl⟩
theorem E.fo150 : FnOk Try.prog 150 ⟨7, (Try.f150.body.getD .skip), Try.f150.results.toList, []⟩ := ⟨Try.f150, Try.func150, rfl, rfl, rfl, by kernel_rfl, by kernel_rfl, by kernel_rfl⟩
theorem E.fo151 : FnOk Try.prog 151 ⟨17, (Try.f151.body.getD .skip), Try.f151.results.toList, []⟩ := ⟨Try.f151, Try.func151, rfl, rfl, rfl, by kernel_rfl, by kernel_rfl, by kernel_rfl⟩
theorem E.fo152 : FnOk Try.prog 152 ⟨19, (Try.f152.body.getD .skip), Try.f152.results.toList, []⟩ := ⟨Try.f152, Try.func152, rfl, rfl, rfl, by kernel_rfl, by kernel_rfl, by kernel_rfl⟩
theorem E.fo153 : FnOk Try.prog 153 ⟨54, (Try.f153.body.getD .skip), Try.f153.results.toList, []⟩ := ⟨Try.f153, Try.func153, rfl, rfl, rfl, by kernel_rfl, by kernel_rfl, by kernel_rfl⟩
theorem E.fo154 : FnOk Try.prog 154 ⟨148, (Try.f154.body.getD .skip), Try.f154.results.toList, []⟩ := ⟨Try.f154, Try.func154, rfl, rfl, rfl, by kernel_rfl, by kernel_rfl, by kernel_rfl⟩
theorem E.fo155 : FnOk Try.prog 155 ⟨8, (Try.f155.body.getD .skip), Try.f155.results.toList, []⟩ := ⟨Try.f155, Try.func155, rfl, rfl, rfl, by kernel_rfl, by kernel_rfl, by kernel_rfl⟩
theorem E.fo156 : FnOk Try.prog 156 ⟨134, (Try.f156.body.getD .skip), Try.f156.results.toList, []⟩ := ⟨Try.f156, Try.func156, rfl, rfl, rfl, by kernel_rfl, by kernel_rfl, by kernel_rfl⟩
theorem E.fo157 : FnOk Try.prog 157 ⟨148, (Try.f157.body.getD .skip), Try.f157.results.toList, []⟩ := ⟨Try.f157, Try.func157, rfl, rfl, rfl, by kernel_rfl, by kernel_rfl, by kernel_rfl⟩
theorem E.fo158 : FnOk Try.prog 158 ⟨20, (Try.f158.body.getD .skip), Try.f158.results.toList, []⟩ := ⟨Try.f158, Try.func158, rfl, rfl, rfl, by kernel_rfl, by kernel_rfl, by kernel_rfl⟩
theorem E.fo159 : FnOk Try.prog 159 ⟨8, (Try.f159.body.getD .skip), Try.f159.results.toList, []⟩ := ⟨Try.f159, Try.func159, rfl, rfl, rfl, by kernel_rfl, by kernel_rfl, by kernel_rfl⟩
theorem E.fo160 : FnOk Try.prog 160 ⟨8, (Try.f160.body.getD .skip), Try.f160.results.toList, []⟩ := ⟨Try.f160, Try.func160, rfl, rfl, rfl, by kernel_rfl, by kernel_rfl, by kernel_rfl⟩
theorem E.fo161 : FnOk Try.prog 161 ⟨14, (Try.f161.body.getD .skip), Try.f161.results.toList, []⟩ := ⟨Try.f161, Try.func161, rfl, rfl, rfl, by kernel_rfl, by kernel_rfl, by kernel_rfl⟩
theorem E.fo162 : FnOk Try.prog 162 ⟨61, (Try.f162.body.getD .skip), Try.f162.results.toList, []⟩ := ⟨Try.f162, Try.func162, rfl, rfl, rfl, by kernel_rfl, by kernel_rfl, by kernel_rfl⟩
theorem E.fo163 : FnOk Try.prog 163 ⟨13, (Try.f163.body.getD .skip), Try.f163.results.toList, []⟩ := ⟨Try.f163, Try.func163, rfl, rfl, rfl, by kernel_rfl, by kernel_rfl, by kernel_rfl⟩
theorem E.fo164 : FnOk Try.prog 164 ⟨19, (Try.f164.body.getD .skip), Try.f164.results.toList, []⟩ := ⟨Try.f164, Try.func164, rfl, rfl, rfl, by kernel_rfl, by kernel_rfl, by kernel_rfl⟩
theorem E.fo165 : FnOk Try.prog 165 ⟨18, (Try.f165.body.getD .skip), Try.f165.results.toList, []⟩ := ⟨Try.f165, Try.func165, rfl, rfl, rfl, by kernel_rfl, by kernel_rfl, by kernel_rfl⟩
theorem E.fo166 : FnOk Try.prog 166 ⟨16, (Try.f166.body.getD .skip), Try.f166.results.toList, []⟩ := ⟨Try.f166, Try.func166, rfl, rfl, rfl, by kernel_rfl, by kernel_rfl, by kernel_rfl⟩
theorem E.fo167 : FnOk Try.prog 167 ⟨6, (Try.f167.body.getD .skip), Try.f167.results.toList, []⟩ := ⟨Try.f167, Try.func167, rfl, rfl, rfl, by kernel_rfl, by kernel_rfl, by kernel_rfl⟩
theorem E.fo168 : FnOk Try.prog 168 ⟨6, (Try.f168.body.getD .skip), Try.f168.results.toList, []⟩ := ⟨Try.f168, Try.func168, rfl, rfl, rfl, by kernel_rfl, by kernel_rfl, by kernel_rfl⟩
theorem E.fo169 : FnOk Try.prog 169 ⟨53, (Try.f169.body.getD .skip), Try.f169.results.toList, []⟩ := ⟨Try.f169, Try.func169, rfl, rfl, rfl, by kernel_rfl, by kernel_rfl, by kernel_rfl⟩
theorem E.fo170 : FnOk Try.prog 170 ⟨60, (Try.f170.body.getD .skip), Try.f170.results.toList, []⟩ := ⟨Try.f170, Try.func170, rfl, rfl, rfl, by kernel_rfl, by kernel_rfl, by kernel_rfl⟩
theorem E.fo171 : FnOk Try.prog 171 ⟨67, (Try.f171.body.getD .skip), Try.f171.results.toList, []⟩ := ⟨Try.f171, Try.func171, rfl, rfl, rfl, by kernel_rfl, by kernel_rfl, by kernel_rfl⟩
theorem E.fo172 : FnOk Try.prog 172 ⟨63, (Try.f172.body.getD .skip), Try.f172.results.toList, []⟩ := ⟨Try.f172, Try.func172, rfl, rfl, rfl, by kernel_rfl, by kernel_rfl, by kernel_rfl⟩
theorem E.fo173 : FnOk Try.prog 173 ⟨34, (Try.f173.body.getD .skip), Try.f173.results.toList, []⟩ := ⟨Try.f173, Try.func173, rfl, rfl, rfl, by kernel_rfl, by kernel_rfl, by kernel_rfl⟩
theorem E.fo174 : FnOk Try.prog 174 ⟨141, (Try.f174.body.getD .skip), Try.f174.results.toList, []⟩ := ⟨Try.f174, Try.func174, rfl, rfl, rfl, by kernel_rfl, by kernel_rfl, by kernel_rfl⟩
theorem E.fo175 : FnOk Try.prog 175 ⟨90, (Try.f175.body.getD .skip), Try.f175.results.toList, []⟩ := ⟨Try.f175, Try.func175, rfl, rfl, rfl, by kernel_rfl, by kernel_rfl, by kernel_rfl⟩
theorem E.fo176 : FnOk Try.prog 176 ⟨178, (Try.f176.body.getD .skip), Try.f176.results.toList, []⟩ := ⟨Try.f176, Try.func176, rfl, rfl, rfl, by kernel_rfl, by kernel_rfl, by kernel_rfl⟩
theorem E.fo177 : FnOk Try.prog 177 ⟨19, (Try.f177.body.getD .skip), Try.f177.results.toList, []⟩ := ⟨Try.f177, Try.func177, rfl, rfl, rfl, by kernel_rfl, by kernel_rfl, by kernel_rfl⟩
theorem E.fo178 : FnOk Try.prog 178 ⟨25, (Try.f178.body.getD .skip), Try.f178.results.toList, []⟩ := ⟨Try.f178, Try.func178, rfl, rfl, rfl, by kernel_rfl, by kernel_rfl, by kernel_rfl⟩
theorem E.fo179 : FnOk Try.prog 179 ⟨49, (Try.f179.body.getD .skip), Try.f179.results.toList, []⟩ := ⟨Try.f179, Try.func179, rfl, rfl, rfl, by kernel_rfl, by kernel_rfl, by kernel_rfl⟩
theorem E.fo180 : FnOk Try.prog 180 ⟨56, (Try.f180.body.getD .skip), Try.f180.results.toList, []⟩ := ⟨Try.f180, Try.func180, rfl, rfl, rfl, by kernel_rfl, by kernel_rfl, by kernel_rfl⟩
theorem E.fo181 : FnOk Try.prog 181 ⟨65, (Try.f181.body.getD .skip), Try.f181.results.toList, []⟩ := ⟨Try.f181, Try.func181, rfl, rfl, rfl, by kernel_rfl, by kernel_rfl, by kernel_rfl⟩
theorem E.fo182 : FnOk Try.prog 182 ⟨57, (Try.f182.body.getD .skip), Try.f182.results.toList, []⟩ := ⟨Try.f182, Try.func182, rfl, rfl, rfl, by kernel_rfl, by kernel_rfl, by kernel_rfl⟩
theorem E.fo183 : FnOk Try.prog 183 ⟨32, (Try.f183.body.getD .skip), Try.f183.results.toList, []⟩ := ⟨Try.f183, Try.func183, rfl, rfl, rfl, by kernel_rfl, by kernel_rfl, by kernel_rfl⟩
theorem E.fo184 : FnOk Try.prog 184 ⟨133, (Try.f184.body.getD .skip), Try.f184.results.toList, []⟩ := ⟨Try.f184, Try.func184, rfl, rfl, rfl, by kernel_rfl, by kernel_rfl, by kernel_rfl⟩
theorem E.fo185 : FnOk Try.prog 185 ⟨84, (Try.f185.body.getD .skip), Try.f185.results.toList, []⟩ := ⟨Try.f185, Try.func185, rfl, rfl, rfl, by kernel_rfl, by kernel_rfl, by kernel_rfl⟩
theorem E.fo186 : FnOk Try.prog 186 ⟨168, (Try.f186.body.getD .skip), Try.f186.results.toList, []⟩ := ⟨Try.f186, Try.func186, rfl, rfl, rfl, by kernel_rfl, by kernel_rfl, by kernel_rfl⟩
theorem E.fo187 : FnOk Try.prog 187 ⟨53, (Try.f187.body.getD .skip), Try.f187.results.toList, []⟩ := ⟨Try.f187, Try.func187, rfl, rfl, rfl, by kernel_rfl, by kernel_rfl, by kernel_rfl⟩
theorem E.fo188 : FnOk Try.prog 188 ⟨60, (Try.f188.body.getD .skip), Try.f188.results.toList, []⟩ := ⟨Try.f188, Try.func188, rfl, rfl, rfl, by kernel_rfl, by kernel_rfl, by kernel_rfl⟩
theorem E.fo189 : FnOk Try.prog 189 ⟨67, (Try.f189.body.getD .skip), Try.f189.results.toList, []⟩ := ⟨Try.f189, Try.func189, rfl, rfl, rfl, by kernel_rfl, by kernel_rfl, by kernel_rfl⟩
theorem E.fo190 : FnOk Try.prog 190 ⟨63, (Try.f190.body.getD .skip), Try.f190.results.toList, []⟩ := ⟨Try.f190, Try.func190, rfl, rfl, rfl, by kernel_rfl, by kernel_rfl, by kernel_rfl⟩
theorem E.fo191 : FnOk Try.prog 191 ⟨34, (Try.f191.body.getD .skip), Try.f191.results.toList, []⟩ := ⟨Try.f191, Try.func191, rfl, rfl, rfl, by kernel_rfl, by kernel_rfl, by kernel_rfl⟩
theorem E.fo192 : FnOk Try.prog 192 ⟨141, (Try.f192.body.getD .skip), Try.f192.results.toList, []⟩ := ⟨Try.f192, Try.func192, rfl, rfl, rfl, by kernel_rfl, by kernel_rfl, by kernel_rfl⟩
theorem E.fo193 : FnOk Try.prog 193 ⟨90, (Try.f193.body.getD .skip), Try.f193.results.toList, []⟩ := ⟨Try.f193, Try.func193, rfl, rfl, rfl, by kernel_rfl, by kernel_rfl, by kernel_rfl⟩
theorem E.fo194 : FnOk Try.prog 194 ⟨178, (Try.f194.body.getD .skip), Try.f194.results.toList, []⟩ := ⟨Try.f194, Try.func194, rfl, rfl, rfl, by kernel_rfl, by kernel_rfl, by kernel_rfl⟩
theorem E.fo195 : FnOk Try.prog 195 ⟨148, (Try.f195.body.getD .skip), Try.f195.results.toList, []⟩ := ⟨Try.f195, Try.func195, rfl, rfl, rfl, by kernel_rfl, by kernel_rfl, by kernel_rfl⟩
theorem E.fo196 : FnOk Try.prog 196 ⟨27, (Try.f196.body.getD .skip), Try.f196.results.toList, []⟩ := ⟨Try.f196, Try.func196, rfl, rfl, rfl, by kernel_rfl, by kernel_rfl, by kernel_rfl⟩
theorem E.fo197 : FnOk Try.prog 197 ⟨82, (Try.f197.body.getD .skip), Try.f197.results.toList, []⟩ := ⟨Try.f197, Try.func197, rfl, rfl, rfl, by kernel_rfl, by kernel_rfl, by kernel_rfl⟩
theorem E.fo198 : FnOk Try.prog 198 ⟨7, (Try.f198.body.getD .skip), Try.f198.results.toList, []⟩ := ⟨Try.f198, Try.func198, rfl, rfl, rfl, by kernel_rfl, by kernel_rfl, by kernel_rfl⟩
theorem E.fo199 : FnOk Try.prog 199 ⟨33, (Try.f199.body.getD .skip), Try.f199.results.toList, []⟩ := ⟨Try.f199, Try.func199, rfl, rfl, rfl, by kernel_rfl, by kernel_rfl, by kernel_rfl⟩
theorem E.fo200 : FnOk Try.prog 200 ⟨18, (Try.f200.body.getD .skip), Try.f200.results.toList, []⟩ := ⟨Try.f200, Try.func200, rfl, rfl, rfl, by kernel_rfl, by kernel_rfl, by kernel_rfl⟩
theorem E.fo201 : FnOk Try.prog 201 ⟨41, (Try.f201.body.getD .skip), Try.f201.results.toList, []⟩ := ⟨Try.f201, Try.func201, rfl, rfl, rfl, by kernel_rfl, by kernel_rfl, by kernel_rfl⟩
theorem E.fo202 : FnOk Try.prog 202 ⟨76, (Try.f202.body.getD .skip), Try.f202.results.toList, []⟩ := ⟨Try.f202, Try.func202, rfl, rfl, rfl, by kernel_rfl, by kernel_rfl, by kernel_rfl⟩
theorem E.fo203 : FnOk Try.prog 203 ⟨15, (Try.f203.body.getD .skip), Try.f203.results.toList, []⟩ := ⟨Try.f203, Try.func203, rfl, rfl, rfl, by kernel_rfl, by kernel_rfl, by kernel_rfl⟩
theorem E.fo204 : FnOk Try.prog 204 ⟨36, (Try.f204.body.getD .skip), Try.f204.results.toList, []⟩ := ⟨Try.f204, Try.func204, rfl, rfl, rfl, by kernel_rfl, by kernel_rfl, by kernel_rfl⟩
theorem E.fo205 : FnOk Try.prog 205 ⟨82, (Try.f205.body.getD .skip), Try.f205.results.toList, []⟩ := ⟨Try.f205, Try.func205, rfl, rfl, rfl, by kernel_rfl, by kernel_rfl, by kernel_rfl⟩
theorem E.fo206 : FnOk Try.prog 206 ⟨18, (Try.f206.body.getD .skip), Try.f206.results.toList, []⟩ := ⟨Try.f206, Try.func206, rfl, rfl, rfl, by kernel_rfl, by kernel_rfl, by kernel_rfl⟩
theorem E.fo207 : FnOk Try.prog 207 ⟨41, (Try.f207.body.getD .skip), Try.f207.results.toList, []⟩ := ⟨Try.f207, Try.func207, rfl, rfl, rfl, by kernel_rfl, by kernel_rfl, by kernel_rfl⟩
theorem E.fo208 : FnOk Try.prog 208 ⟨53, (Try.f208.body.getD .skip), Try.f208.results.toList, []⟩ := ⟨Try.f208, Try.func208, rfl, rfl, rfl, by kernel_rfl, by kernel_rfl, by kernel_rfl⟩
theorem E.fo209 : FnOk Try.prog 209 ⟨60, (Try.f209.body.getD .skip), Try.f209.results.toList, []⟩ := ⟨Try.f209, Try.func209, rfl, rfl, rfl, by kernel_rfl, by kernel_rfl, by kernel_rfl⟩
theorem E.fo210 : FnOk Try.prog 210 ⟨67, (Try.f210.body.getD .skip), Try.f210.results.toList, []⟩ := ⟨Try.f210, Try.func210, rfl, rfl, rfl, by kernel_rfl, by kernel_rfl, by kernel_rfl⟩
theorem E.fo211 : FnOk Try.prog 211 ⟨63, (Try.f211.body.getD .skip), Try.f211.results.toList, []⟩ := ⟨Try.f211, Try.func211, rfl, rfl, rfl, by kernel_rfl, by kernel_rfl, by kernel_rfl⟩
theorem E.fo212 : FnOk Try.prog 212 ⟨34, (Try.f212.body.getD .skip), Try.f212.results.toList, []⟩ := ⟨Try.f212, Try.func212, rfl, rfl, rfl, by kernel_rfl, by kernel_rfl, by kernel_rfl⟩
theorem E.fo213 : FnOk Try.prog 213 ⟨141, (Try.f213.body.getD .skip), Try.f213.results.toList, []⟩ := ⟨Try.f213, Try.func213, rfl, rfl, rfl, by kernel_rfl, by kernel_rfl, by kernel_rfl⟩
theorem E.fo214 : FnOk Try.prog 214 ⟨90, (Try.f214.body.getD .skip), Try.f214.results.toList, []⟩ := ⟨Try.f214, Try.func214, rfl, rfl, rfl, by kernel_rfl, by kernel_rfl, by kernel_rfl⟩
theorem E.fo215 : FnOk Try.prog 215 ⟨178, (Try.f215.body.getD .skip), Try.f215.results.toList, []⟩ := ⟨Try.f215, Try.func215, rfl, rfl, rfl, by kernel_rfl, by kernel_rfl, by kernel_rfl⟩
theorem E.fo216 : FnOk Try.prog 216 ⟨32, (Try.f216.body.getD .skip), Try.f216.results.toList, []⟩ := ⟨Try.f216, Try.func216, rfl, rfl, rfl, by kernel_rfl, by kernel_rfl, by kernel_rfl⟩
theorem E.fo217 : FnOk Try.prog 217 ⟨28, (Try.f217.body.getD .skip), Try.f217.results.toList, []⟩ := ⟨Try.f217, Try.func217, rfl, rfl, rfl, by kernel_rfl, by kernel_rfl, by kernel_rfl⟩
theorem E.fo218 : FnOk Try.prog 218 ⟨32, (Try.f218.body.getD .skip), Try.f218.results.toList, []⟩ := ⟨Try.f218, Try.func218, rfl, rfl, rfl, by kernel_rfl, by kernel_rfl, by kernel_rfl⟩
theorem E.fo219 : FnOk Try.prog 219 ⟨82, (Try.f219.body.getD .skip), Try.f219.results.toList, []⟩ := ⟨Try.f219, Try.func219, rfl, rfl, rfl, by kernel_rfl, by kernel_rfl, by kernel_rfl⟩
theorem E.fo220 : FnOk Try.prog 220 ⟨18, (Try.f220.body.getD .skip), Try.f220.results.toList, []⟩ := ⟨Try.f220, Try.func220, rfl, rfl, rfl, by kernel_rfl, by kernel_rfl, by kernel_rfl⟩
theorem E.fo221 : FnOk Try.prog 221 ⟨41, (Try.f221.body.getD .skip), Try.f221.results.toList, []⟩ := ⟨Try.f221, Try.func221, rfl, rfl, rfl, by kernel_rfl, by kernel_rfl, by kernel_rfl⟩
theorem E.fo222 : FnOk Try.prog 222 ⟨32, (Try.f222.body.getD .skip), Try.f222.results.toList, []⟩ := ⟨Try.f222, Try.func222, rfl, rfl, rfl, by kernel_rfl, by kernel_rfl, by kernel_rfl⟩
theorem E.tyAll : TrAll (TyOk Try.prog) E.tyTr id := (.none (.some E.to1 (.some E.to3 (.some E.to7 (.some E.to15 (.none (.some E.to63 (.some E.to127 .nil .nil) (.some E.to191 .nil .nil)) (.some E.to95 (.some E.to159 .nil .nil) (.some E.to223 .nil .nil))) (.some E.to47 (.some E.to79 (.some E.to143 .nil .nil) (.some E.to207 .nil .nil)) (.some E.to111 (.some E.to175 .nil .nil) .nil))) (.some E.to23 (.some E.to39 (.some E.to71 (.some E.to135 .nil .nil) (.some E.to199 .nil .nil)) (.some E.to103 (.some E.to167 .nil .nil) (.some E.to231 .nil .nil))) (.some E.to55 (.some E.to87 (.some E.to151 .nil .nil) (.some E.to215 .nil .nil)) (.some E.to119 .nil .nil)))) (.some E.to11 (.none (.some E.to35 (.some E.to67 (.some E.to131 .nil .nil) (.some E.to195 .nil .nil)) (.some E.to99 (.some E.to163 .nil .nil) .nil)) (.none (.some E.to83 (.some E.to147 .nil .nil) (.some E.to211 .nil .nil)) (.some E.to115 (.some E.to179 .nil .nil) .nil))) (.some E.to27 (.some E.to43 (.some E.to75 (.some E.to139 .nil .nil) (.some E.to203 .nil .nil)) (.some E.to107 (.some E.to171 .nil .nil) (.some E.to235 .nil .nil))) (.some E.to59 (.some E.to91 (.some E.to155 .nil .nil) (.some E.to219 .nil .nil)) (.some E.to123 (.some E.to187 .nil .nil) .nil))))) (.some E.to5 (.some E.to9 (.some E.to17 (.some E.to33 (.some E.to65 (.some E.to129 .nil .nil) (.some E.to193 .nil .nil)) (.some E.to97 (.some E.to161 .nil .nil) .nil)) (.some E.to49 (.none (.some E.to145 .nil .nil) (.some E.to209 .nil .nil)) (.some E.to113 (.some E.to177 .nil .nil) .nil))) (.some E.to25 (.some E.to41 (.some E.to73 (.some E.to137 .nil .nil) (.some E.to201 .nil .nil)) (.some E.to105 (.some E.to169 .nil .nil) (.some E.to233 .nil .nil))) (.some E.to57 (.some E.to89 (.some E.to153 .nil .nil) (.some E.to217 .nil .nil)) (.some E.to121 (.some E.to185 .nil .nil) .nil)))) (.none (.some E.to21 (.some E.to37 (.none (.some E.to133 .nil .nil) (.some E.to197 .nil .nil)) (.some E.to101 (.some E.to165 .nil .nil) (.some E.to229 .nil .nil))) (.none (.some E.to85 (.some E.to149 .nil .nil) (.some E.to213 .nil .nil)) (.some E.to117 (.some E.to181 .nil .nil) .nil))) (.some E.to29 (.none (.some E.to77 (.some E.to141 .nil .nil) (.some E.to205 .nil .nil)) (.some E.to109 (.some E.to173 .nil .nil) .nil)) (.none (.some E.to93 (.some E.to157 .nil .nil) (.some E.to221 .nil .nil)) (.none (.some E.to189 .nil .nil) .nil)))))) (.some E.to2 (.some E.to4 (.some E.to8 (.some E.to16 (.some E.to32 (.some E.to64 (.some E.to128 .nil .nil) (.some E.to192 .nil .nil)) (.some E.to96 (.some E.to160 .nil .nil) .nil)) (.some E.to48 (.some E.to80 (.some E.to144 .nil .nil) (.some E.to208 .nil .nil)) (.some E.to112 (.some E.to176 .nil .nil) .nil))) (.some E.to24 (.some E.to40 (.some E.to72 .nil (.some E.to200 .nil .nil)) (.none (.some E.to168 .nil .nil) (.some E.to232 .nil .nil))) (.some E.to56 (.some E.to88 (.some E.to152 .nil .nil) (.some E.to216 .nil .nil)) (.some E.to120 (.some E.to184 .nil .nil) .nil)))) (.some E.to12 (.some E.to20 (.some E.to36 (.some E.to68 (.some E.to132 .nil .nil) (.some E.to196 .nil .nil)) (.some E.to100 (.some E.to164 .nil .nil) .nil)) (.some E.to52 (.none (.some E.to148 .nil .nil) (.some E.to212 .nil .nil)) (.some E.to116 (.some E.to180 .nil .nil) .nil))) (.none (.some E.to44 (.some E.to76 (.some E.to140 .nil .nil) (.some E.to204 .nil .nil)) (.some E.to108 (.some E.to172 .nil .nil) .nil)) (.some E.to60 (.some E.to92 (.some E.to156 .nil .nil) (.some E.to220 .nil .nil)) (.some E.to124 (.some E.to188 .nil .nil) .nil))))) (.some E.to6 (.some E.to10 (.none (.none (.some E.to66 (.some E.to130 .nil .nil) (.some E.to194 .nil .nil)) (.some E.to98 (.some E.to162 .nil .nil) (.some E.to226 .nil .nil))) (.some E.to50 (.some E.to82 (.some E.to146 .nil .nil) (.some E.to210 .nil .nil)) (.some E.to114 (.some E.to178 .nil .nil) .nil))) (.some E.to26 (.none (.some E.to74 (.some E.to138 .nil .nil) (.some E.to202 .nil .nil)) (.none (.some E.to170 .nil .nil) (.some E.to234 .nil .nil))) (.some E.to58 (.some E.to90 (.some E.to154 .nil .nil) (.some E.to218 .nil .nil)) (.some E.to122 (.some E.to186 .nil .nil) .nil)))) (.none (.some E.to22 (.some E.to38 (.some E.to70 (.some E.to134 .nil .nil) (.some E.to198 .nil .nil)) (.some E.to102 (.some E.to166 .nil .nil) (.some E.to230 .nil .nil))) (.some E.to54 (.some E.to86 (.some E.to150 .nil .nil) (.some E.to214 .nil .nil)) (.some E.to118 (.some E.to182 .nil .nil) .nil))) (.some E.to30 (.some E.to46 (.some E.to78 (.some E.to142 .nil .nil) (.some E.to206 .nil .nil)) (.some E.to110 (.some E.to174 .nil .nil) (.some E.to238 .nil .nil))) (.some E.to62 (.some E.to94 (.some E.to158 .nil .nil) (.some E.to222 .nil .nil)) (.some E.to126 (.some E.to190 .nil .nil) .nil)))))))
theorem E.fnAll : TrAll (FnOk Try.prog) E.fnTr id := (.none (.none (.some E.fo3 (.some E.fo7 (.some E.fo15 (.some E.fo31 (.some E.fo63 (.some E.fo127 .nil .nil) (.some E.fo191 .nil .nil)) (.some E.fo95 (.some E.fo159 .nil .nil) .nil)) (.some E.fo47 (.some E.fo79 (.some E.fo143 .nil .nil) (.some E.fo207 .nil .nil)) (.some E.fo111 (.some E.fo175 .nil .nil) .nil))) (.some E.fo23 (.some E.fo39 (.some E.fo71 (.some E.fo135 .nil .nil) (.some E.fo199 .nil .nil)) (.some E.fo103 (.some E.fo167 .nil .nil) .nil)) (.some E.fo55 (.some E.fo87 (.some E.fo151 .nil .nil) (.some E.fo215 .nil .nil)) (.some E.fo119 (.some E.fo183 .nil .nil) .nil)))) (.some E.fo11 (.some E.fo19 (.some E.fo35 (.some E.fo67 (.some E.fo131 .nil .nil) (.some E.fo195 .nil .nil)) (.some E.fo99 (.some E.fo163 .nil .nil) .nil)) (.some E.fo51 (.some E.fo83 (.some E.fo147 .nil .nil) (.some E.fo211 .nil .nil)) (.some E.fo115 (.some E.fo179 .nil .nil) .nil))) (.some E.fo27 (.some E.fo43 (.some E.fo75 (.some E.fo139 .nil .nil) (.some E.fo203 .nil .nil)) (.some E.fo107 (.some E.fo171 .nil .nil) .nil)) (.some E.fo59 (.some E.fo91 (.some E.fo155 .nil .nil) (.some E.fo219 .nil .nil)) (.some E.fo123 (.some E.fo187 .nil .nil) .nil))))) (.some E.fo5 (.some E.fo9 (.some E.fo17 (.some E.fo33 (.some E.fo65 (.some E.fo129 .nil .nil) (.some E.fo193 .nil .nil)) (.some E.fo97 (.some E.fo161 .nil .nil) .nil)) (.some E.fo49 (.some E.fo81 (.some E.fo145 .nil .nil) (.some E.fo209 .nil .nil)) (.some E.fo113 (.some E.fo177 .nil .nil) .nil))) (.some E.fo25 (.some E.fo41 (.some E.fo73 (.some E.fo137 .nil .nil) (.some E.fo201 .nil .nil)) (.some E.fo105 (.some E.fo169 .nil .nil) .nil)) (.some E.fo57 (.some E.fo89 (.some E.fo153 .nil .nil) (.some E.fo217 .nil .nil)) (.some E.fo121 (.some E.fo185 .nil .nil) .nil)))) (.some E.fo13 (.some E.fo21 (.some E.fo37 (.some E.fo69 (.some E.fo133 .nil .nil) (.some E.fo197 .nil .nil)) (.some E.fo101 (.some E.fo165 .nil .nil) .nil)) (.some E.fo53 (.some E.fo85 (.some E.fo149 .nil .nil) (.some E.fo213 .nil .nil)) (.some E.fo117 (.some E.fo181 .nil .nil) .nil))) (.some E.fo29 (.some E.fo45 (.some E.fo77 (.some E.fo141 .nil .nil) (.some E.fo205 .nil .nil)) (.some E.fo109 (.some E.fo173 .nil .nil) .nil)) (.some E.fo61 (.some E.fo93 (.some E.fo157 .nil .nil) (.some E.fo221 .nil .nil)) (.some E.fo125 (.some E.fo189 .nil .nil) .nil)))))) (.none (.some E.fo4 (.some E.fo8 (.some E.fo16 (.some E.fo32 (.some E.fo64 (.some E.fo128 .nil .nil) (.some E.fo192 .nil .nil)) (.some E.fo96 (.some E.fo160 .nil .nil) .nil)) (.some E.fo48 (.some E.fo80 (.some E.fo144 .nil .nil) (.some E.fo208 .nil .nil)) (.some E.fo112 (.some E.fo176 .nil .nil) .nil))) (.some E.fo24 (.some E.fo40 (.some E.fo72 (.some E.fo136 .nil .nil) (.some E.fo200 .nil .nil)) (.some E.fo104 (.some E.fo168 .nil .nil) .nil)) (.some E.fo56 (.some E.fo88 (.some E.fo152 .nil .nil) (.some E.fo216 .nil .nil)) (.some E.fo120 (.some E.fo184 .nil .nil) .nil)))) (.some E.fo12 (.some E.fo20 (.some E.fo36 (.some E.fo68 (.some E.fo132 .nil .nil) (.some E.fo196 .nil .nil)) (.some E.fo100 (.some E.fo164 .nil .nil) .nil)) (.some E.fo52 (.some E.fo84 (.some E.fo148 .nil .nil) (.some E.fo212 .nil .nil)) (.some E.fo116 (.some E.fo180 .nil .nil) .nil))) (.some E.fo28 (.some E.fo44 (.some E.fo76 (.some E.fo140 .nil .nil) (.some E.fo204 .nil .nil)) (.some E.fo108 (.some E.fo172 .nil .nil) .nil)) (.some E.fo60 (.some E.fo92 (.some E.fo156 .nil .nil) (.some E.fo220 .nil .nil)) (.some E.fo124 (.some E.fo188 .nil .nil) .nil))))) (.some E.fo6 (.some E.fo10 (.some E.fo18 (.some E.fo34 (.some E.fo66 (.some E.fo130 .nil .nil) (.some E.fo194 .nil .nil)) (.some E.fo98 (.some E.fo162 .nil .nil) .nil)) (.some E.fo50 (.some E.fo82 (.some E.fo146 .nil .nil) (.some E.fo210 .nil .nil)) (.some E.fo114 (.some E.fo178 .nil .nil) .nil))) (.some E.fo26 (.some E.fo42 (.some E.fo74 (.some E.fo138 .nil .nil) (.some E.fo202 .nil .nil)) (.some E.fo106 (.some E.fo170 .nil .nil) .nil)) (.some E.fo58 (.some E.fo90 (.some E.fo154 .nil .nil) (.some E.fo218 .nil .nil)) (.some E.fo122 (.some E.fo186 .nil .nil) .nil)))) (.some E.fo14 (.some E.fo22 (.some E.fo38 (.some E.fo70 (.some E.fo134 .nil .nil) (.some E.fo198 .nil .nil)) (.some E.fo102 (.some E.fo166 .nil .nil) .nil)) (.some E.fo54 (.some E.fo86 (.some E.fo150 .nil .nil) (.some E.fo214 .nil .nil)) (.some E.fo118 (.some E.fo182 .nil .nil) .nil))) (.some E.fo30 (.some E.fo46 (.some E.fo78 (.some E.fo142 .nil .nil) (.some E.fo206 .nil .nil)) (.some E.fo110 (.some E.fo174 .nil .nil) .nil)) (.some E.fo62 (.some E.fo94 (.some E.fo158 .nil .nil) (.some E.fo222 .nil .nil)) (.some E.fo126 (.some E.fo190 .nil .nil) .nil)))))))
theorem E.ok : EnvOk Try.prog E := ⟨fun t y h => TrAll.get E.tyAll t y h, by kernel_rfl⟩
theorem E.fns : ∀ f fi, E.fn f = some fi → FnOk Try.prog f fi := fun f fi h => TrAll.get E.fnAll f fi h
end Go.Proofs.Ytihmliblbhjlaaa
