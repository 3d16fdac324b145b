/- The abstract machine's tables for this seat, and that they say what the program is: printed by a program of ours (AmEnv.lean). -/
import Derived.Test.YtcjdiakgckhkdaaAm13
import Derived.Test.YtcjdiakgckhkdaaChecked
namespace Go.Proofs.Ytcjdiakgckhkdaa
open Go.Am
noncomputable def E.tyTr : Tr Ty := (.node none (.node (some ⟨0, 1, 8, [.nilf], 0, 0, [], .i64⟩) (.node (some ⟨1, 1, 8, [(.int .i64 0)], 0, 0, [], .i64⟩) (.node (some ⟨6, 4, 24, [(.int .i64 0), (.int .i64 0), (.bool false), (.int .u8 0)], 0, 0, [(0, 2, 1), (1, 3, 1), (2, 4, 1), (3, 6, 1)], .i64⟩) (.node (some ⟨7, 1, 8, [.nilp], 310, 0, [], .i64⟩) (.node (some ⟨0, 1, 8, [.nilf], 0, 0, [], .i64⟩) (.node (some ⟨0, 1, 8, [.nilf], 0, 0, [], .i64⟩) (.node (some ⟨0, 1, 8, [.nilf], 0, 0, [], .i64⟩) (.node (some ⟨0, 1, 8, [.nilf], 0, 0, [], .i64⟩) .nil .nil) .nil) (.node (some ⟨0, 1, 8, [.nilf], 0, 0, [], .i64⟩) (.node (some ⟨1, 1, 4, [(.int .i32 0)], 0, 0, [], .i32⟩) .nil .nil) .nil)) (.node (some ⟨6, 2, 16, [(.int .i64 0), (.int .i64 0)], 0, 0, [(0, 3, 1), (1, 3, 1)], .i64⟩) (.node (some ⟨0, 1, 8, [.nilf], 0, 0, [], .i64⟩) (.node (some ⟨0, 1, 8, [.nilf], 0, 0, [], .i64⟩) .nil .nil) .nil) (.node (some ⟨6, 4, 24, [(.int .i64 0), (.int .i64 0), (.bool false), (.bool false)], 0, 0, [(0, 3, 1), (1, 3, 1), (2, 4, 1), (3, 4, 1)], .i64⟩) .nil .nil))) (.node none (.node (some ⟨0, 1, 8, [.nilf], 0, 0, [], .i64⟩) (.node (some ⟨0, 1, 8, [.nilf], 0, 0, [], .i64⟩) (.node (some ⟨0, 1, 8, [.nilf], 0, 0, [], .i64⟩) .nil .nil) .nil) (.node (some ⟨0, 1, 8, [.nilf], 0, 0, [], .i64⟩) .nil .nil)) (.node (some ⟨0, 1, 8, [.nilf], 0, 0, [], .i64⟩) (.node none (.node (some ⟨0, 1, 8, [.nilf], 0, 0, [], .i64⟩) .nil .nil) .nil) (.node (some ⟨0, 1, 8, [.nilf], 0, 0, [], .i64⟩) .nil .nil)))) (.node (some ⟨0, 1, 8, [.nilf], 0, 0, [], .i64⟩) (.node (some ⟨7, 1, 8, [.nilp], 203, 0, [], .i64⟩) (.node (some ⟨0, 1, 8, [.nilf], 0, 0, [], .i64⟩) (.node (some ⟨0, 1, 8, [.nilf], 0, 0, [], .i64⟩) (.node (some ⟨0, 1, 8, [.nilf], 0, 0, [], .i64⟩) .nil .nil) .nil) (.node (some ⟨0, 1, 8, [.nilf], 0, 0, [], .i64⟩) .nil .nil)) (.node (some ⟨0, 1, 8, [.nilf], 0, 0, [], .i64⟩) (.node (some ⟨0, 1, 8, [.nilf], 0, 0, [], .i64⟩) (.node (some ⟨0, 1, 8, [.nilf], 0, 0, [], .i64⟩) .nil .nil) .nil) (.node (some ⟨7, 1, 8, [.nilp], 223, 0, [], .i64⟩) .nil .nil))) (.node (some ⟨0, 1, 8, [.nilf], 0, 0, [], .i64⟩) (.node (some ⟨0, 1, 8, [.nilf], 0, 0, [], .i64⟩) (.node (some ⟨0, 1, 8, [.nilf], 0, 0, [], .i64⟩) (.node (some ⟨7, 1, 8, [.nilp], 3, 0, [], .i64⟩) .nil .nil) .nil) (.node (some ⟨0, 1, 8, [.nilf], 0, 0, [], .i64⟩) .nil .nil)) (.node (some ⟨0, 1, 8, [.nilf], 0, 0, [], .i64⟩) (.node (some ⟨0, 1, 8, [.nilf], 0, 0, [], .i64⟩) (.node (some ⟨5, 0, 0, [], 16, 0, [], .i64⟩) .nil .nil) .nil) (.node (some ⟨0, 1, 8, [.nilf], 0, 0, [], .i64⟩) .nil .nil))))) (.node (some ⟨3, 1, 16, [(.str [])], 0, 0, [], .i64⟩) (.node none (.node (some ⟨0, 1, 8, [.nilf], 0, 0, [], .i64⟩) (.node none (.node (some ⟨0, 1, 8, [.nilf], 0, 0, [], .i64⟩) (.node (some ⟨0, 1, 8, [.nilf], 0, 0, [], .i64⟩) .nil .nil) .nil) (.node (some ⟨0, 1, 8, [.nilf], 0, 0, [], .i64⟩) (.node (some ⟨0, 1, 8, [.nilp], 0, 0, [], .i64⟩) .nil .nil) .nil)) (.node (some ⟨0, 1, 8, [.nilf], 0, 0, [], .i64⟩) (.node (some ⟨0, 1, 8, [.nilf], 0, 0, [], .i64⟩) (.node (some ⟨0, 1, 8, [.nilf], 0, 0, [], .i64⟩) .nil .nil) .nil) (.node (some ⟨6, 3, 24, [(.int .i64 0), (.int .i64 0), (.int .i64 0)], 0, 0, [(0, 3, 1), (1, 3, 1), (2, 3, 1)], .i64⟩) .nil .nil))) (.node (some ⟨0, 1, 8, [.nilf], 0, 0, [], .i64⟩) (.node none (.node (some ⟨0, 1, 8, [.nilf], 0, 0, [], .i64⟩) (.node (some ⟨1, 1, 8, [(.int .u64 0)], 0, 0, [], .u64⟩) .nil .nil) .nil) (.node (some ⟨4, 1, 24, [.nils], 26, 0, [], .i64⟩) .nil .nil)) (.node (some ⟨0, 1, 8, [.nilf], 0, 0, [], .i64⟩) (.node (some ⟨1, 1, 4, [(.int .u32 0)], 0, 0, [], .u32⟩) (.node (some ⟨0, 1, 8, [.nilf], 0, 0, [], .i64⟩) .nil .nil) .nil) (.node (some ⟨0, 1, 8, [.nilf], 0, 0, [], .i64⟩) .nil .nil)))) (.node none (.node (some ⟨0, 1, 8, [.nilf], 0, 0, [], .i64⟩) (.node (some ⟨0, 1, 8, [.nilf], 0, 0, [], .i64⟩) (.node (some ⟨0, 1, 8, [.nilf], 0, 0, [], .i64⟩) (.node (some ⟨0, 1, 8, [.nilf], 0, 0, [], .i64⟩) .nil .nil) .nil) (.node (some ⟨6, 1, 24, [.nils], 0, 0, [(0, 22, 1)], .i64⟩) .nil .nil)) (.node (some ⟨0, 1, 8, [.nilf], 0, 0, [], .i64⟩) (.node (some ⟨0, 1, 8, [.nilf], 0, 0, [], .i64⟩) (.node (some ⟨0, 1, 8, [.nilf], 0, 0, [], .i64⟩) .nil .nil) .nil) (.node (some ⟨0, 1, 8, [.nilf], 0, 0, [], .i64⟩) .nil .nil))) (.node none (.node (some ⟨0, 1, 8, [.nilf], 0, 0, [], .i64⟩) (.node (some ⟨0, 1, 8, [.nilf], 0, 0, [], .i64⟩) (.node (some ⟨0, 1, 8, [.nilf], 0, 0, [], .i64⟩) .nil .nil) .nil) (.node (some ⟨0, 1, 8, [.nilf], 0, 0, [], .i64⟩) .nil .nil)) (.node (some ⟨6, 2, 48, [.nils, .nils], 0, 0, [(0, 72, 1), (1, 72, 1)], .i64⟩) (.node (some ⟨0, 1, 8, [.nilf], 0, 0, [], .i64⟩) (.node (some ⟨1, 1, 1, [(.int .u8 0)], 0, 0, [], .u8⟩) .nil .nil) .nil) (.node (some ⟨5, 6, 48, (List.replicate 6 (.int .i64 0)), 3, 6, [], .i64⟩) .nil .nil)))))) (.node (some ⟨1, 1, 1, [(.int .u8 0)], 0, 0, [], .u8⟩) (.node (some ⟨3, 1, 16, [(.str [])], 0, 0, [], .i64⟩) (.node (some ⟨7, 1, 8, [.nilp], 322, 0, [], .i64⟩) (.node (some ⟨0, 1, 8, [.nilf], 0, 0, [], .i64⟩) (.node (some ⟨0, 1, 8, [.nilf], 0, 0, [], .i64⟩) (.node (some ⟨6, 2, 48, [.nils, .nils], 0, 0, [(0, 22, 1), (1, 22, 1)], .i64⟩) (.node (some ⟨0, 1, 8, [.nilf], 0, 0, [], .i64⟩) .nil .nil) .nil) (.node (some ⟨0, 1, 8, [.nilf], 0, 0, [], .i64⟩) .nil .nil)) (.node (some ⟨0, 1, 8, [.nilf], 0, 0, [], .i64⟩) (.node (some ⟨4, 1, 24, [.nils], 58, 0, [], .i64⟩) (.node (some ⟨0, 1, 8, [.nilf], 0, 0, [], .i64⟩) .nil .nil) .nil) (.node (some ⟨6, 5, 32, [(.int .i64 0), (.int .i64 0), (.bool false), (.bool false), (.int .i64 0)], 0, 0, [(0, 223, 4), (4, 3, 1)], .i64⟩) .nil .nil))) (.node (some ⟨0, 1, 8, [.nilf], 0, 0, [], .i64⟩) (.node (some ⟨0, 1, 8, [.nilf], 0, 0, [], .i64⟩) (.node none (.node (some ⟨0, 1, 8, [.nilf], 0, 0, [], .i64⟩) .nil .nil) .nil) (.node (some ⟨0, 1, 8, [.nilf], 0, 0, [], .i64⟩) .nil .nil)) (.node (some ⟨0, 1, 8, [.nilf], 0, 0, [], .i64⟩) (.node (some ⟨0, 1, 8, [.nilf], 0, 0, [], .i64⟩) (.node (some ⟨0, 1, 8, [.nilf], 0, 0, [], .i64⟩) .nil .nil) .nil) (.node (some ⟨0, 1, 8, [.nilf], 0, 0, [], .i64⟩) .nil .nil)))) (.node (some ⟨1, 1, 2, [(.int .u16 0)], 0, 0, [], .u16⟩) (.node (some ⟨0, 1, 8, [.nilf], 0, 0, [], .i64⟩) (.node (some ⟨0, 1, 8, [.nilf], 0, 0, [], .i64⟩) (.node (some ⟨0, 1, 8, [.nilf], 0, 0, [], .i64⟩) .nil .nil) (.node (some ⟨1, 1, 8, [(.int .u64 0)], 0, 0, [], .u64⟩) .nil .nil)) (.node (some ⟨0, 1, 8, [.nilf], 0, 0, [], .i64⟩) (.node (some ⟨0, 1, 8, [.nilf], 0, 0, [], .i64⟩) (.node (some ⟨0, 1, 8, [.nilf], 0, 0, [], .i64⟩) .nil .nil) .nil) (.node (some ⟨0, 1, 8, [.nilf], 0, 0, [], .i64⟩) .nil .nil))) (.node (some ⟨6, 2, 16, [(.int .i64 0), (.int .i64 0)], 0, 0, [(0, 3, 1), (1, 3, 1)], .i64⟩) (.node (some ⟨4, 1, 24, [.nils], 95, 0, [], .i64⟩) (.node (some ⟨0, 1, 8, [.nilf], 0, 0, [], .i64⟩) (.node (some ⟨0, 1, 8, [.nilf], 0, 0, [], .i64⟩) .nil .nil) .nil) (.node (some ⟨0, 1, 8, [.nilf], 0, 0, [], .i64⟩) .nil .nil)) (.node (some ⟨0, 1, 8, [.nilf], 0, 0, [], .i64⟩) (.node (some ⟨0, 1, 8, [.nilf], 0, 0, [], .i64⟩) .nil .nil) (.node (some ⟨0, 1, 8, [.undef], 0, 0, [], .i64⟩) .nil .nil))))) (.node none (.node (some ⟨1, 1, 4, [(.int .i32 0)], 0, 0, [], .i32⟩) (.node (some ⟨0, 1, 8, [.nilf], 0, 0, [], .i64⟩) (.node (some ⟨0, 1, 8, [.nilf], 0, 0, [], .i64⟩) (.node none (.node (some ⟨7, 1, 8, [.nilp], 225, 0, [], .i64⟩) .nil .nil) .nil) (.node (some ⟨0, 1, 8, [.nilf], 0, 0, [], .i64⟩) .nil .nil)) (.node (some ⟨0, 1, 8, [.nilf], 0, 0, [], .i64⟩) (.node (some ⟨0, 1, 8, [.nilf], 0, 0, [], .i64⟩) (.node (some ⟨0, 1, 8, [.nilf], 0, 0, [], .i64⟩) .nil .nil) .nil) (.node (some ⟨0, 1, 8, [.nilf], 0, 0, [], .i64⟩) .nil .nil))) (.node (some ⟨0, 1, 8, [.nilf], 0, 0, [], .i64⟩) (.node none (.node (some ⟨0, 1, 8, [.nilf], 0, 0, [], .i64⟩) (.node (some ⟨0, 1, 8, [.nilf], 0, 0, [], .i64⟩) .nil .nil) .nil) (.node (some ⟨0, 1, 8, [.nilf], 0, 0, [], .i64⟩) .nil .nil)) (.node (some ⟨0, 1, 8, [.nilf], 0, 0, [], .i64⟩) (.node (some ⟨0, 1, 8, [.nilf], 0, 0, [], .i64⟩) .nil .nil) (.node (some ⟨0, 1, 8, [.nilf], 0, 0, [], .i64⟩) .nil .nil)))) (.node (some ⟨4, 1, 24, [.nils], 25, 0, [], .i64⟩) (.node (some ⟨0, 1, 8, [.nilf], 0, 0, [], .i64⟩) (.node (some ⟨0, 1, 8, [.nilf], 0, 0, [], .i64⟩) (.node (some ⟨4, 1, 24, [.nils], 227, 0, [], .i64⟩) (.node (some ⟨0, 1, 8, [.nilf], 0, 0, [], .i64⟩) .nil .nil) .nil) (.node (some ⟨0, 1, 8, [.nilf], 0, 0, [], .i64⟩) .nil .nil)) (.node (some ⟨0, 1, 8, [.nilf], 0, 0, [], .i64⟩) (.node (some ⟨6, 2, 32, [(.int .i64 0), .nils], 0, 0, [(0, 3, 1), (1, 172, 1)], .i64⟩) (.node (some ⟨0, 1, 8, [.nilf], 0, 0, [], .i64⟩) .nil .nil) .nil) (.node (some ⟨0, 1, 8, [.nilf], 0, 0, [], .i64⟩) .nil .nil))) (.node (some ⟨0, 1, 8, [.nilf], 0, 0, [], .i64⟩) (.node (some ⟨0, 1, 8, [.nilf], 0, 0, [], .i64⟩) (.node (some ⟨0, 1, 8, [.nilf], 0, 0, [], .i64⟩) (.node (some ⟨0, 1, 8, [.nilf], 0, 0, [], .i64⟩) .nil .nil) .nil) (.node (some ⟨4, 1, 24, [.nils], 225, 0, [], .i64⟩) .nil .nil)) (.node (some ⟨0, 1, 8, [.nilf], 0, 0, [], .i64⟩) (.node (some ⟨0, 1, 8, [.nilf], 0, 0, [], .i64⟩) (.node (some ⟨0, 1, 8, [.nilf], 0, 0, [], .i64⟩) .nil .nil) .nil) (.node (some ⟨0, 1, 8, [.undef], 0, 0, [], .i64⟩) .nil .nil))))))) (.node (some ⟨1, 1, 8, [(.int .i64 0)], 0, 0, [], .i64⟩) (.node (some ⟨2, 1, 1, [(.bool false)], 0, 0, [], .i64⟩) (.node (some ⟨6, 4, 24, [(.int .i64 0), (.int .i64 0), (.bool false), (.int .u8 0)], 0, 0, [(0, 2, 1), (1, 3, 1), (2, 4, 1), (3, 6, 1)], .i64⟩) (.node (some ⟨7, 1, 8, [.nilp], 313, 0, [], .i64⟩) (.node (some ⟨0, 1, 8, [.nilf], 0, 0, [], .i64⟩) (.node (some ⟨0, 1, 8, [.nilf], 0, 0, [], .i64⟩) (.node (some ⟨0, 1, 8, [.nilf], 0, 0, [], .i64⟩) (.node (some ⟨0, 1, 8, [.nilf], 0, 0, [], .i64⟩) .nil .nil) .nil) (.node (some ⟨0, 1, 8, [.nilf], 0, 0, [], .i64⟩) (.node (some ⟨1, 1, 4, [(.int .i32 0)], 0, 0, [], .i32⟩) .nil .nil) .nil)) (.node none (.node (some ⟨0, 1, 8, [.nilf], 0, 0, [], .i64⟩) (.node (some ⟨0, 1, 8, [.nilf], 0, 0, [], .i64⟩) .nil .nil) .nil) (.node (some ⟨6, 5, 32, [(.int .i64 0), (.int .i64 0), (.bool false), (.bool false), (.int .i64 0)], 0, 0, [(0, 223, 4), (4, 3, 1)], .i64⟩) .nil .nil))) (.node (some ⟨0, 1, 8, [.nilf], 0, 0, [], .i64⟩) (.node (some ⟨0, 1, 8, [.nilf], 0, 0, [], .i64⟩) (.node (some ⟨0, 1, 8, [.nilf], 0, 0, [], .i64⟩) (.node (some ⟨0, 1, 8, [.nilf], 0, 0, [], .i64⟩) .nil .nil) .nil) (.node (some ⟨0, 1, 8, [.nilf], 0, 0, [], .i64⟩) .nil .nil)) (.node (some ⟨0, 1, 8, [.nilf], 0, 0, [], .i64⟩) (.node (some ⟨0, 1, 8, [.nilf], 0, 0, [], .i64⟩) (.node (some ⟨0, 1, 8, [.nilf], 0, 0, [], .i64⟩) .nil .nil) .nil) (.node (some ⟨1, 1, 8, [(.int .u64 0)], 0, 0, [], .u64⟩) .nil .nil)))) (.node (some ⟨0, 1, 8, [.nilf], 0, 0, [], .i64⟩) (.node none (.node (some ⟨4, 1, 24, [.nils], 22, 0, [], .i64⟩) (.node none (.node (some ⟨1, 1, 8, [(.int .i64 0)], 0, 0, [], .i64⟩) .nil .nil) .nil) (.node (some ⟨0, 1, 8, [.nilf], 0, 0, [], .i64⟩) .nil .nil)) (.node (some ⟨0, 1, 8, [.nilf], 0, 0, [], .i64⟩) (.node (some ⟨0, 1, 8, [.nilf], 0, 0, [], .i64⟩) (.node (some ⟨0, 1, 8, [.nilf], 0, 0, [], .i64⟩) .nil .nil) .nil) (.node (some ⟨0, 1, 8, [.nilf], 0, 0, [], .i64⟩) .nil .nil))) (.node (some ⟨0, 1, 8, [.nilf], 0, 0, [], .i64⟩) (.node (some ⟨0, 1, 8, [.nilf], 0, 0, [], .i64⟩) (.node (some ⟨0, 1, 8, [.nilf], 0, 0, [], .i64⟩) (.node (some ⟨0, 1, 8, [.nilf], 0, 0, [], .i64⟩) .nil .nil) .nil) (.node (some ⟨0, 1, 8, [.nilf], 0, 0, [], .i64⟩) .nil .nil)) (.node (some ⟨0, 1, 8, [.nilf], 0, 0, [], .i64⟩) (.node (some ⟨0, 1, 8, [.nilf], 0, 0, [], .i64⟩) .nil .nil) (.node (some ⟨5, 41, 328, (List.replicate 41 (.int .i64 0)), 3, 41, [], .i64⟩) .nil .nil))))) (.node (some ⟨1, 1, 8, [(.int .u64 0)], 0, 0, [], .u64⟩) (.node (some ⟨0, 1, 16, [.undef], 0, 0, [], .i64⟩) (.node (some ⟨0, 1, 8, [.nilf], 0, 0, [], .i64⟩) (.node (some ⟨0, 1, 8, [.nilf], 0, 0, [], .i64⟩) (.node (some ⟨0, 1, 8, [.nilf], 0, 0, [], .i64⟩) (.node (some ⟨0, 1, 8, [.nilf], 0, 0, [], .i64⟩) .nil .nil) .nil) (.node (some ⟨0, 1, 8, [.nilf], 0, 0, [], .i64⟩) .nil .nil)) (.node (some ⟨0, 1, 8, [.nilf], 0, 0, [], .i64⟩) (.node (some ⟨0, 1, 8, [.nilf], 0, 0, [], .i64⟩) (.node (some ⟨7, 1, 8, [.nilp], 275, 0, [], .i64⟩) .nil .nil) .nil) (.node (some ⟨0, 1, 8, [.nilf], 0, 0, [], .i64⟩) .nil .nil))) (.node none (.node (some ⟨0, 1, 8, [.nilf], 0, 0, [], .i64⟩) (.node (some ⟨0, 1, 8, [.nilf], 0, 0, [], .i64⟩) (.node (some ⟨0, 1, 8, [.nilf], 0, 0, [], .i64⟩) .nil .nil) .nil) (.node (some ⟨0, 1, 8, [.nilf], 0, 0, [], .i64⟩) .nil .nil)) (.node (some ⟨0, 1, 8, [.nilf], 0, 0, [], .i64⟩) (.node (some ⟨0, 1, 8, [.nilf], 0, 0, [], .i64⟩) (.node (some ⟨0, 1, 8, [.nilf], 0, 0, [], .i64⟩) .nil .nil) .nil) (.node (some ⟨4, 1, 24, [.nils], 172, 0, [], .i64⟩) .nil .nil)))) (.node (some ⟨0, 1, 8, [.nilf], 0, 0, [], .i64⟩) (.node (some ⟨0, 1, 8, [.nilf], 0, 0, [], .i64⟩) (.node (some ⟨0, 1, 8, [.nilf], 0, 0, [], .i64⟩) (.node (some ⟨4, 1, 24, [.nils], 223, 0, [], .i64⟩) (.node (some ⟨0, 1, 8, [.nilf], 0, 0, [], .i64⟩) .nil .nil) .nil) (.node (some ⟨0, 1, 8, [.nilf], 0, 0, [], .i64⟩) .nil .nil)) (.node (some ⟨0, 1, 8, [.nilf], 0, 0, [], .i64⟩) (.node (some ⟨4, 1, 24, [.nils], 9, 0, [], .i64⟩) (.node (some ⟨0, 1, 8, [.nilf], 0, 0, [], .i64⟩) .nil .nil) .nil) (.node (some ⟨0, 1, 8, [.nilf], 0, 0, [], .i64⟩) .nil .nil))) (.node (some ⟨0, 1, 8, [.nilf], 0, 0, [], .i64⟩) (.node (some ⟨0, 1, 8, [.nilf], 0, 0, [], .i64⟩) (.node (some ⟨0, 1, 8, [.nilf], 0, 0, [], .i64⟩) (.node (some ⟨0, 1, 8, [.nilf], 0, 0, [], .i64⟩) .nil .nil) .nil) (.node (some ⟨0, 1, 8, [.nilf], 0, 0, [], .i64⟩) .nil .nil)) (.node none (.node (some ⟨0, 1, 8, [.nilf], 0, 0, [], .i64⟩) (.node (some ⟨1, 1, 1, [(.int .u8 0)], 0, 0, [], .u8⟩) .nil .nil) .nil) (.node (some ⟨0, 1, 8, [.nilf], 0, 0, [], .i64⟩) .nil .nil)))))) (.node (some ⟨1, 1, 1, [(.int .u8 0)], 0, 0, [], .u8⟩) (.node (some ⟨3, 1, 16, [(.str [])], 0, 0, [], .i64⟩) (.node none (.node (some ⟨0, 1, 8, [.nilf], 0, 0, [], .i64⟩) (.node (some ⟨0, 1, 8, [.nilf], 0, 0, [], .i64⟩) (.node (some ⟨6, 2, 48, [.nils, .nils], 0, 0, [(0, 22, 1), (1, 22, 1)], .i64⟩) (.node (some ⟨0, 1, 8, [.nilf], 0, 0, [], .i64⟩) .nil .nil) .nil) (.node (some ⟨0, 1, 8, [.nilf], 0, 0, [], .i64⟩) .nil .nil)) (.node (some ⟨0, 1, 8, [.nilf], 0, 0, [], .i64⟩) (.node none (.node (some ⟨0, 1, 8, [.nilf], 0, 0, [], .i64⟩) .nil .nil) .nil) (.node (some ⟨6, 3, 24, [(.int .i64 0), (.int .i64 0), (.int .i64 0)], 0, 0, [(0, 3, 1), (1, 3, 1), (2, 3, 1)], .i64⟩) .nil .nil))) (.node (some ⟨0, 1, 8, [.nilf], 0, 0, [], .i64⟩) (.node (some ⟨4, 1, 24, [.nils], 5, 0, [], .i64⟩) (.node (some ⟨0, 1, 8, [.nilf], 0, 0, [], .i64⟩) (.node (some ⟨0, 1, 8, [.nilf], 0, 0, [], .i64⟩) .nil .nil) .nil) (.node (some ⟨0, 1, 8, [.nilf], 0, 0, [], .i64⟩) .nil .nil)) (.node (some ⟨0, 1, 8, [.nilf], 0, 0, [], .i64⟩) (.node (some ⟨0, 1, 8, [.nilf], 0, 0, [], .i64⟩) (.node (some ⟨0, 1, 8, [.nilf], 0, 0, [], .i64⟩) .nil .nil) .nil) (.node (some ⟨0, 1, 8, [.nilf], 0, 0, [], .i64⟩) .nil .nil)))) (.node (some ⟨1, 1, 8, [(.int .i64 0)], 0, 0, [], .i64⟩) (.node (some ⟨5, 2, 16, [(.int .i64 0), (.int .i64 0)], 3, 2, [], .i64⟩) (.node (some ⟨0, 1, 8, [.nilf], 0, 0, [], .i64⟩) (.node (some ⟨0, 1, 8, [.nilf], 0, 0, [], .i64⟩) (.node (some ⟨0, 1, 8, [.nilf], 0, 0, [], .i64⟩) .nil .nil) .nil) (.node (some ⟨6, 1, 24, [.nils], 0, 0, [(0, 22, 1)], .i64⟩) .nil .nil)) (.node (some ⟨0, 1, 8, [.nilf], 0, 0, [], .i64⟩) (.node (some ⟨0, 1, 8, [.nilf], 0, 0, [], .i64⟩) (.node (some ⟨0, 1, 8, [.nilf], 0, 0, [], .i64⟩) .nil .nil) .nil) (.node (some ⟨5, 10, 10, (List.replicate 10 (.bool false)), 4, 10, [], .i64⟩) .nil .nil))) (.node (some ⟨6, 2, 16, [(.int .i64 0), (.int .i64 0)], 0, 0, [(0, 3, 1), (1, 3, 1)], .i64⟩) (.node none (.node (some ⟨0, 1, 8, [.nilf], 0, 0, [], .i64⟩) (.node (some ⟨0, 1, 8, [.nilf], 0, 0, [], .i64⟩) .nil .nil) .nil) .nil) (.node (some ⟨6, 2, 48, [.nils, .nils], 0, 0, [(0, 72, 1), (1, 72, 1)], .i64⟩) (.node (some ⟨0, 1, 8, [.nilf], 0, 0, [], .i64⟩) (.node (some ⟨0, 1, 8, [.nilf], 0, 0, [], .i64⟩) .nil .nil) .nil) .nil)))) (.node none (.node (some ⟨4, 1, 24, [.nils], 3, 0, [], .i64⟩) (.node (some ⟨4, 1, 24, [.nils], 42, 0, [], .i64⟩) (.node (some ⟨0, 1, 8, [.nilf], 0, 0, [], .i64⟩) (.node (some ⟨0, 1, 8, [.nilf], 0, 0, [], .i64⟩) (.node (some ⟨0, 1, 8, [.nilf], 0, 0, [], .i64⟩) .nil .nil) .nil) (.node (some ⟨0, 1, 8, [.nilf], 0, 0, [], .i64⟩) .nil .nil)) (.node none (.node (some ⟨0, 1, 8, [.nilf], 0, 0, [], .i64⟩) (.node (some ⟨0, 1, 8, [.nilf], 0, 0, [], .i64⟩) .nil .nil) .nil) (.node (some ⟨0, 1, 8, [.nilf], 0, 0, [], .i64⟩) .nil .nil))) (.node (some ⟨0, 1, 8, [.nilf], 0, 0, [], .i64⟩) (.node (some ⟨0, 1, 8, [.nilf], 0, 0, [], .i64⟩) (.node (some ⟨0, 1, 8, [.nilf], 0, 0, [], .i64⟩) (.node (some ⟨0, 1, 8, [.nilf], 0, 0, [], .i64⟩) .nil .nil) .nil) (.node (some ⟨0, 1, 8, [.nilf], 0, 0, [], .i64⟩) .nil .nil)) (.node none (.node (some ⟨0, 1, 8, [.nilf], 0, 0, [], .i64⟩) .nil .nil) (.node (some ⟨0, 1, 8, [.nilf], 0, 0, [], .i64⟩) .nil .nil)))) (.node none (.node (some ⟨0, 1, 8, [.nilf], 0, 0, [], .i64⟩) (.node (some ⟨0, 1, 8, [.nilf], 0, 0, [], .i64⟩) (.node none (.node (some ⟨0, 1, 8, [.nilf], 0, 0, [], .i64⟩) .nil .nil) .nil) (.node (some ⟨0, 1, 8, [.nilf], 0, 0, [], .i64⟩) .nil .nil)) (.node (some ⟨0, 1, 8, [.nilf], 0, 0, [], .i64⟩) (.node (some ⟨6, 2, 32, [(.int .i64 0), .nils], 0, 0, [(0, 3, 1), (1, 172, 1)], .i64⟩) (.node (some ⟨0, 1, 8, [.nilf], 0, 0, [], .i64⟩) .nil .nil) .nil) (.node (some ⟨0, 1, 8, [.nilf], 0, 0, [], .i64⟩) .nil .nil))) (.node none (.node (some ⟨6, 2, 16, [(.int .i64 0), (.int .i64 0)], 0, 0, [(0, 3, 1), (1, 3, 1)], .i64⟩) (.node (some ⟨0, 1, 8, [.nilf], 0, 0, [], .i64⟩) (.node (some ⟨0, 1, 8, [.nilf], 0, 0, [], .i64⟩) .nil .nil) .nil) (.node (some ⟨6, 4, 24, [(.int .i64 0), (.int .i64 0), (.bool false), (.bool false)], 0, 0, [(0, 3, 1), (1, 3, 1), (2, 4, 1), (3, 4, 1)], .i64⟩) .nil .nil)) (.node (some ⟨0, 1, 8, [.nilf], 0, 0, [], .i64⟩) (.node none (.node (some ⟨7, 1, 8, [.nilp], 5, 0, [], .i64⟩) .nil .nil) .nil) (.node (some ⟨0, 1, 8, [.nilf], 0, 0, [], .i64⟩) .nil .nil))))))))
noncomputable def E.fnTr : Tr Fi := (.node none (.node none (.node (some ⟨6, (Try.f3.body.getD .skip), Try.f3.results.toList, []⟩) (.node (some ⟨152, (Try.f7.body.getD .skip), Try.f7.results.toList, []⟩) (.node (some ⟨183, (Try.f15.body.getD .skip), Try.f15.results.toList, []⟩) (.node (some ⟨205, (Try.f31.body.getD .skip), Try.f31.results.toList, [15, 26]⟩) (.node (some ⟨35, (Try.f63.body.getD .skip), Try.f63.results.toList, []⟩) (.node (some ⟨32, (Try.f127.body.getD .skip), Try.f127.results.toList, []⟩) (.node (some ⟨81, (Try.f255.body.getD .skip), Try.f255.results.toList, []⟩) .nil .nil) (.node (some ⟨41, (Try.f383.body.getD .skip), Try.f383.results.toList, []⟩) .nil .nil)) (.node (some ⟨40, (Try.f191.body.getD .skip), Try.f191.results.toList, []⟩) (.node (some ⟨9, (Try.f319.body.getD .skip), Try.f319.results.toList, []⟩) .nil .nil) .nil)) (.node (some ⟨8, (Try.f95.body.getD .skip), Try.f95.results.toList, []⟩) (.node (some ⟨65, (Try.f159.body.getD .skip), Try.f159.results.toList, []⟩) (.node (some ⟨40, (Try.f287.body.getD .skip), Try.f287.results.toList, []⟩) .nil .nil) .nil) (.node (some ⟨21, (Try.f223.body.getD .skip), Try.f223.results.toList, []⟩) (.node (some ⟨36, (Try.f351.body.getD .skip), Try.f351.results.toList, []⟩) .nil .nil) .nil))) (.node (some ⟨20, (Try.f47.body.getD .skip), Try.f47.results.toList, []⟩) (.node (some ⟨29, (Try.f79.body.getD .skip), Try.f79.results.toList, []⟩) (.node (some ⟨22, (Try.f143.body.getD .skip), Try.f143.results.toList, []⟩) (.node (some ⟨25, (Try.f271.body.getD .skip), Try.f271.results.toList, []⟩) .nil .nil) .nil) (.node (some ⟨29, (Try.f207.body.getD .skip), Try.f207.results.toList, []⟩) (.node (some ⟨84, (Try.f335.body.getD .skip), Try.f335.results.toList, []⟩) .nil .nil) .nil)) (.node (some ⟨32, (Try.f111.body.getD .skip), Try.f111.results.toList, []⟩) (.node (some ⟨84, (Try.f175.body.getD .skip), Try.f175.results.toList, [21]⟩) (.node (some ⟨8, (Try.f303.body.getD .skip), Try.f303.results.toList, []⟩) .nil .nil) .nil) (.node (some ⟨77, (Try.f239.body.getD .skip), Try.f239.results.toList, []⟩) (.node (some ⟨90, (Try.f367.body.getD .skip), Try.f367.results.toList, []⟩) .nil .nil) .nil)))) (.node (some ⟨245, (Try.f23.body.getD .skip), Try.f23.results.toList, [18]⟩) (.node (some ⟨37, (Try.f39.body.getD .skip), Try.f39.results.toList, []⟩) (.node (some ⟨25, (Try.f71.body.getD .skip), Try.f71.results.toList, []⟩) (.node (some ⟨68, (Try.f135.body.getD .skip), Try.f135.results.toList, []⟩) (.node (some ⟨42, (Try.f263.body.getD .skip), Try.f263.results.toList, []⟩) .nil .nil) .nil) (.node (some ⟨32, (Try.f199.body.getD .skip), Try.f199.results.toList, []⟩) (.node (some ⟨7, (Try.f327.body.getD .skip), Try.f327.results.toList, []⟩) .nil .nil) .nil)) (.node (some ⟨8, (Try.f103.body.getD .skip), Try.f103.results.toList, []⟩) (.node (some ⟨46, (Try.f167.body.getD .skip), Try.f167.results.toList, []⟩) (.node (some ⟨52, (Try.f295.body.getD .skip), Try.f295.results.toList, []⟩) .nil .nil) .nil) (.node (some ⟨13, (Try.f231.body.getD .skip), Try.f231.results.toList, []⟩) (.node (some ⟨90, (Try.f359.body.getD .skip), Try.f359.results.toList, []⟩) .nil .nil) .nil))) (.node (some ⟨18, (Try.f55.body.getD .skip), Try.f55.results.toList, []⟩) (.node (some ⟨8, (Try.f87.body.getD .skip), Try.f87.results.toList, []⟩) (.node (some ⟨72, (Try.f151.body.getD .skip), Try.f151.results.toList, []⟩) (.node (some ⟨14, (Try.f279.body.getD .skip), Try.f279.results.toList, []⟩) .nil .nil) .nil) (.node (some ⟨36, (Try.f215.body.getD .skip), Try.f215.results.toList, []⟩) (.node (some ⟨6, (Try.f343.body.getD .skip), Try.f343.results.toList, []⟩) .nil .nil) .nil)) (.node (some ⟨56, (Try.f119.body.getD .skip), Try.f119.results.toList, []⟩) (.node (some ⟨106, (Try.f183.body.getD .skip), Try.f183.results.toList, []⟩) (.node (some ⟨8, (Try.f311.body.getD .skip), Try.f311.results.toList, []⟩) .nil .nil) .nil) (.node (some ⟨26, (Try.f247.body.getD .skip), Try.f247.results.toList, []⟩) (.node (some ⟨141, (Try.f375.body.getD .skip), Try.f375.results.toList, []⟩) .nil .nil) .nil))))) (.node (some ⟨88, (Try.f11.body.getD .skip), Try.f11.results.toList, []⟩) (.node (some ⟨259, (Try.f19.body.getD .skip), Try.f19.results.toList, []⟩) (.node (some ⟨219, (Try.f35.body.getD .skip), Try.f35.results.toList, []⟩) (.node (some ⟨24, (Try.f67.body.getD .skip), Try.f67.results.toList, []⟩) (.node (some ⟨18, (Try.f131.body.getD .skip), Try.f131.results.toList, []⟩) (.node (some ⟨7, (Try.f259.body.getD .skip), Try.f259.results.toList, []⟩) .nil .nil) (.node (some ⟨32, (Try.f387.body.getD .skip), Try.f387.results.toList, []⟩) .nil .nil)) (.node none (.node (some ⟨74, (Try.f323.body.getD .skip), Try.f323.results.toList, []⟩) .nil .nil) .nil)) (.node (some ⟨18, (Try.f99.body.getD .skip), Try.f99.results.toList, []⟩) (.node (some ⟨103, (Try.f163.body.getD .skip), Try.f163.results.toList, []⟩) (.node (some ⟨9, (Try.f291.body.getD .skip), Try.f291.results.toList, []⟩) .nil .nil) .nil) (.node (some ⟨55, (Try.f227.body.getD .skip), Try.f227.results.toList, []⟩) (.node (some ⟨67, (Try.f355.body.getD .skip), Try.f355.results.toList, []⟩) .nil .nil) .nil))) (.node (some ⟨36, (Try.f51.body.getD .skip), Try.f51.results.toList, []⟩) (.node (some ⟨6, (Try.f83.body.getD .skip), Try.f83.results.toList, []⟩) (.node none (.node (some ⟨19, (Try.f275.body.getD .skip), Try.f275.results.toList, []⟩) .nil .nil) .nil) (.node (some ⟨8, (Try.f211.body.getD .skip), Try.f211.results.toList, []⟩) (.node (some ⟨8, (Try.f339.body.getD .skip), Try.f339.results.toList, []⟩) .nil .nil) .nil)) (.node none (.node (some ⟨23, (Try.f179.body.getD .skip), Try.f179.results.toList, []⟩) (.node (some ⟨29, (Try.f307.body.getD .skip), Try.f307.results.toList, []⟩) .nil .nil) .nil) (.node (some ⟨32, (Try.f243.body.getD .skip), Try.f243.results.toList, []⟩) (.node (some ⟨60, (Try.f371.body.getD .skip), Try.f371.results.toList, []⟩) .nil .nil) .nil)))) (.node (some ⟨169, (Try.f27.body.getD .skip), Try.f27.results.toList, []⟩) (.node (some ⟨36, (Try.f43.body.getD .skip), Try.f43.results.toList, []⟩) (.node (some ⟨31, (Try.f75.body.getD .skip), Try.f75.results.toList, []⟩) (.node (some ⟨57, (Try.f139.body.getD .skip), Try.f139.results.toList, []⟩) (.node (some ⟨14, (Try.f267.body.getD .skip), Try.f267.results.toList, []⟩) .nil .nil) .nil) (.node (some ⟨11, (Try.f203.body.getD .skip), Try.f203.results.toList, []⟩) (.node (some ⟨65, (Try.f331.body.getD .skip), Try.f331.results.toList, []⟩) .nil .nil) .nil)) (.node (some ⟨134, (Try.f107.body.getD .skip), Try.f107.results.toList, []⟩) (.node (some ⟨89, (Try.f171.body.getD .skip), Try.f171.results.toList, []⟩) (.node (some ⟨54, (Try.f299.body.getD .skip), Try.f299.results.toList, []⟩) .nil .nil) .nil) (.node (some ⟨61, (Try.f235.body.getD .skip), Try.f235.results.toList, []⟩) (.node (some ⟨67, (Try.f363.body.getD .skip), Try.f363.results.toList, []⟩) .nil .nil) .nil))) (.node (some ⟨47, (Try.f59.body.getD .skip), Try.f59.results.toList, []⟩) (.node (some ⟨31, (Try.f91.body.getD .skip), Try.f91.results.toList, []⟩) (.node (some ⟨18, (Try.f155.body.getD .skip), Try.f155.results.toList, [4]⟩) (.node (some ⟨4, (Try.f283.body.getD .skip), Try.f283.results.toList, []⟩) .nil .nil) .nil) (.node (some ⟨43, (Try.f219.body.getD .skip), Try.f219.results.toList, []⟩) (.node (some ⟨76, (Try.f347.body.getD .skip), Try.f347.results.toList, []⟩) .nil .nil) .nil)) (.node (some ⟨30, (Try.f123.body.getD .skip), Try.f123.results.toList, []⟩) (.node (some ⟨32, (Try.f187.body.getD .skip), Try.f187.results.toList, []⟩) (.node (some ⟨45, (Try.f315.body.getD .skip), Try.f315.results.toList, [7]⟩) .nil .nil) .nil) (.node (some ⟨33, (Try.f251.body.getD .skip), Try.f251.results.toList, []⟩) (.node (some ⟨18, (Try.f379.body.getD .skip), Try.f379.results.toList, []⟩) .nil .nil) .nil)))))) (.node (some ⟨34, (Try.f5.body.getD .skip), Try.f5.results.toList, []⟩) (.node (some ⟨224, (Try.f9.body.getD .skip), Try.f9.results.toList, [12]⟩) (.node (some ⟨163, (Try.f17.body.getD .skip), Try.f17.results.toList, []⟩) (.node (some ⟨147, (Try.f33.body.getD .skip), Try.f33.results.toList, []⟩) (.node (some ⟨27, (Try.f65.body.getD .skip), Try.f65.results.toList, []⟩) (.node (some ⟨57, (Try.f129.body.getD .skip), Try.f129.results.toList, []⟩) (.node (some ⟨8, (Try.f257.body.getD .skip), Try.f257.results.toList, []⟩) .nil .nil) (.node (some ⟨18, (Try.f385.body.getD .skip), Try.f385.results.toList, []⟩) .nil .nil)) (.node (some ⟨25, (Try.f193.body.getD .skip), Try.f193.results.toList, []⟩) (.node (some ⟨66, (Try.f321.body.getD .skip), Try.f321.results.toList, []⟩) .nil .nil) .nil)) (.node (some ⟨9, (Try.f97.body.getD .skip), Try.f97.results.toList, []⟩) (.node (some ⟨31, (Try.f161.body.getD .skip), Try.f161.results.toList, []⟩) (.node (some ⟨25, (Try.f289.body.getD .skip), Try.f289.results.toList, []⟩) .nil .nil) .nil) (.node (some ⟨43, (Try.f225.body.getD .skip), Try.f225.results.toList, []⟩) (.node (some ⟨53, (Try.f353.body.getD .skip), Try.f353.results.toList, []⟩) .nil .nil) .nil))) (.node (some ⟨23, (Try.f49.body.getD .skip), Try.f49.results.toList, []⟩) (.node (some ⟨12, (Try.f81.body.getD .skip), Try.f81.results.toList, []⟩) (.node (some ⟨31, (Try.f145.body.getD .skip), Try.f145.results.toList, []⟩) (.node (some ⟨9, (Try.f273.body.getD .skip), Try.f273.results.toList, []⟩) .nil .nil) .nil) (.node (some ⟨9, (Try.f209.body.getD .skip), Try.f209.results.toList, []⟩) (.node (some ⟨19, (Try.f337.body.getD .skip), Try.f337.results.toList, []⟩) .nil .nil) .nil)) (.node (some ⟨12, (Try.f113.body.getD .skip), Try.f113.results.toList, []⟩) (.node (some ⟨60, (Try.f177.body.getD .skip), Try.f177.results.toList, []⟩) (.node (some ⟨19, (Try.f305.body.getD .skip), Try.f305.results.toList, []⟩) .nil .nil) .nil) (.node (some ⟨61, (Try.f241.body.getD .skip), Try.f241.results.toList, []⟩) (.node (some ⟨28, (Try.f369.body.getD .skip), Try.f369.results.toList, []⟩) .nil .nil) .nil)))) (.node (some ⟨223, (Try.f25.body.getD .skip), Try.f25.results.toList, []⟩) (.node (some ⟨7, (Try.f41.body.getD .skip), Try.f41.results.toList, []⟩) (.node (some ⟨33, (Try.f73.body.getD .skip), Try.f73.results.toList, []⟩) (.node (some ⟨21, (Try.f137.body.getD .skip), Try.f137.results.toList, []⟩) (.node (some ⟨9, (Try.f265.body.getD .skip), Try.f265.results.toList, []⟩) .nil .nil) .nil) (.node (some ⟨31, (Try.f201.body.getD .skip), Try.f201.results.toList, []⟩) (.node (some ⟨49, (Try.f329.body.getD .skip), Try.f329.results.toList, []⟩) .nil .nil) .nil)) (.node (some ⟨66, (Try.f105.body.getD .skip), Try.f105.results.toList, []⟩) (.node (some ⟨10, (Try.f169.body.getD .skip), Try.f169.results.toList, []⟩) (.node (some ⟨17, (Try.f297.body.getD .skip), Try.f297.results.toList, []⟩) .nil .nil) .nil) (.node (some ⟨36, (Try.f233.body.getD .skip), Try.f233.results.toList, []⟩) (.node (some ⟨53, (Try.f361.body.getD .skip), Try.f361.results.toList, []⟩) .nil .nil) .nil))) (.node (some ⟨24, (Try.f57.body.getD .skip), Try.f57.results.toList, []⟩) (.node (some ⟨8, (Try.f89.body.getD .skip), Try.f89.results.toList, []⟩) (.node (some ⟨40, (Try.f153.body.getD .skip), Try.f153.results.toList, []⟩) (.node (some ⟨4, (Try.f281.body.getD .skip), Try.f281.results.toList, []⟩) .nil .nil) .nil) (.node (some ⟨45, (Try.f217.body.getD .skip), Try.f217.results.toList, []⟩) (.node (some ⟨20, (Try.f345.body.getD .skip), Try.f345.results.toList, []⟩) .nil .nil) .nil)) (.node (some ⟨21, (Try.f121.body.getD .skip), Try.f121.results.toList, []⟩) (.node (some ⟨17, (Try.f185.body.getD .skip), Try.f185.results.toList, []⟩) (.node (some ⟨8, (Try.f313.body.getD .skip), Try.f313.results.toList, []⟩) .nil .nil) .nil) (.node (some ⟨26, (Try.f249.body.getD .skip), Try.f249.results.toList, []⟩) (.node (some ⟨178, (Try.f377.body.getD .skip), Try.f377.results.toList, []⟩) .nil .nil) .nil))))) (.node (some ⟨133, (Try.f13.body.getD .skip), Try.f13.results.toList, []⟩) (.node (some ⟨75, (Try.f21.body.getD .skip), Try.f21.results.toList, []⟩) (.node (some ⟨26, (Try.f37.body.getD .skip), Try.f37.results.toList, []⟩) (.node (some ⟨27, (Try.f69.body.getD .skip), Try.f69.results.toList, []⟩) (.node (some ⟨24, (Try.f133.body.getD .skip), Try.f133.results.toList, []⟩) (.node (some ⟨14, (Try.f261.body.getD .skip), Try.f261.results.toList, []⟩) .nil .nil) (.node (some ⟨32, (Try.f389.body.getD .skip), Try.f389.results.toList, []⟩) .nil .nil)) (.node (some ⟨39, (Try.f197.body.getD .skip), Try.f197.results.toList, []⟩) (.node (some ⟨19, (Try.f325.body.getD .skip), Try.f325.results.toList, []⟩) .nil .nil) .nil)) (.node (some ⟨51, (Try.f101.body.getD .skip), Try.f101.results.toList, []⟩) (.node (some ⟨93, (Try.f165.body.getD .skip), Try.f165.results.toList, []⟩) (.node (some ⟨19, (Try.f293.body.getD .skip), Try.f293.results.toList, []⟩) .nil .nil) .nil) (.node (some ⟨51, (Try.f229.body.getD .skip), Try.f229.results.toList, []⟩) (.node (some ⟨34, (Try.f357.body.getD .skip), Try.f357.results.toList, []⟩) .nil .nil) .nil))) (.node (some ⟨17, (Try.f53.body.getD .skip), Try.f53.results.toList, []⟩) (.node (some ⟨8, (Try.f85.body.getD .skip), Try.f85.results.toList, []⟩) (.node none (.node (some ⟨55, (Try.f277.body.getD .skip), Try.f277.results.toList, []⟩) .nil .nil) .nil) (.node (some ⟨44, (Try.f213.body.getD .skip), Try.f213.results.toList, []⟩) (.node (some ⟨61, (Try.f341.body.getD .skip), Try.f341.results.toList, []⟩) .nil .nil) .nil)) (.node (some ⟨13, (Try.f117.body.getD .skip), Try.f117.results.toList, []⟩) (.node (some ⟨33, (Try.f181.body.getD .skip), Try.f181.results.toList, []⟩) (.node (some ⟨19, (Try.f309.body.getD .skip), Try.f309.results.toList, []⟩) .nil .nil) .nil) (.node (some ⟨32, (Try.f245.body.getD .skip), Try.f245.results.toList, []⟩) (.node (some ⟨63, (Try.f373.body.getD .skip), Try.f373.results.toList, []⟩) .nil .nil) .nil)))) (.node (some ⟨196, (Try.f29.body.getD .skip), Try.f29.results.toList, []⟩) (.node (some ⟨15, (Try.f45.body.getD .skip), Try.f45.results.toList, []⟩) (.node (some ⟨32, (Try.f77.body.getD .skip), Try.f77.results.toList, []⟩) (.node (some ⟨45, (Try.f141.body.getD .skip), Try.f141.results.toList, [7]⟩) (.node (some ⟨5, (Try.f269.body.getD .skip), Try.f269.results.toList, []⟩) .nil .nil) .nil) (.node (some ⟨35, (Try.f205.body.getD .skip), Try.f205.results.toList, [9]⟩) (.node (some ⟨32, (Try.f333.body.getD .skip), Try.f333.results.toList, []⟩) .nil .nil) .nil)) (.node (some ⟨37, (Try.f109.body.getD .skip), Try.f109.results.toList, []⟩) (.node (some ⟨24, (Try.f173.body.getD .skip), Try.f173.results.toList, []⟩) (.node (some ⟨14, (Try.f301.body.getD .skip), Try.f301.results.toList, []⟩) .nil .nil) .nil) (.node (some ⟨6, (Try.f237.body.getD .skip), Try.f237.results.toList, []⟩) (.node (some ⟨34, (Try.f365.body.getD .skip), Try.f365.results.toList, []⟩) .nil .nil) .nil))) (.node (some ⟨17, (Try.f61.body.getD .skip), Try.f61.results.toList, []⟩) (.node (some ⟨39, (Try.f93.body.getD .skip), Try.f93.results.toList, []⟩) (.node (some ⟨21, (Try.f157.body.getD .skip), Try.f157.results.toList, [4]⟩) (.node (some ⟨7, (Try.f285.body.getD .skip), Try.f285.results.toList, []⟩) .nil .nil) .nil) (.node (some ⟨40, (Try.f221.body.getD .skip), Try.f221.results.toList, []⟩) (.node (some ⟨33, (Try.f349.body.getD .skip), Try.f349.results.toList, []⟩) .nil .nil) .nil)) (.node (some ⟨32, (Try.f125.body.getD .skip), Try.f125.results.toList, []⟩) (.node none (.node (some ⟨14, (Try.f317.body.getD .skip), Try.f317.results.toList, []⟩) .nil .nil) .nil) (.node (some ⟨21, (Try.f253.body.getD .skip), Try.f253.results.toList, []⟩) (.node (some ⟨82, (Try.f381.body.getD .skip), Try.f381.results.toList, []⟩) .nil .nil) .nil))))))) (.node none (.node (some ⟨110, (Try.f4.body.getD .skip), Try.f4.results.toList, []⟩) (.node (some ⟨132, (Try.f8.body.getD .skip), Try.f8.results.toList, []⟩) (.node (some ⟨78, (Try.f16.body.getD .skip), Try.f16.results.toList, []⟩) (.node (some ⟨178, (Try.f32.body.getD .skip), Try.f32.results.toList, []⟩) (.node (some ⟨33, (Try.f64.body.getD .skip), Try.f64.results.toList, []⟩) (.node (some ⟨37, (Try.f128.body.getD .skip), Try.f128.results.toList, []⟩) (.node (some ⟨8, (Try.f256.body.getD .skip), Try.f256.results.toList, []⟩) .nil .nil) (.node (some ⟨82, (Try.f384.body.getD .skip), Try.f384.results.toList, []⟩) .nil .nil)) (.node (some ⟨78, (Try.f192.body.getD .skip), Try.f192.results.toList, []⟩) (.node (some ⟨13, (Try.f320.body.getD .skip), Try.f320.results.toList, []⟩) .nil .nil) .nil)) (.node (some ⟨9, (Try.f96.body.getD .skip), Try.f96.results.toList, []⟩) (.node (some ⟨53, (Try.f160.body.getD .skip), Try.f160.results.toList, []⟩) (.node (some ⟨8, (Try.f288.body.getD .skip), Try.f288.results.toList, []⟩) .nil .nil) .nil) (.node (some ⟨23, (Try.f224.body.getD .skip), Try.f224.results.toList, []⟩) (.node (some ⟨148, (Try.f352.body.getD .skip), Try.f352.results.toList, []⟩) .nil .nil) .nil))) (.node (some ⟨57, (Try.f48.body.getD .skip), Try.f48.results.toList, []⟩) (.node (some ⟨12, (Try.f80.body.getD .skip), Try.f80.results.toList, []⟩) (.node (some ⟨38, (Try.f144.body.getD .skip), Try.f144.results.toList, []⟩) (.node (some ⟨9, (Try.f272.body.getD .skip), Try.f272.results.toList, []⟩) .nil .nil) .nil) (.node (some ⟨31, (Try.f208.body.getD .skip), Try.f208.results.toList, []⟩) (.node (some ⟨168, (Try.f336.body.getD .skip), Try.f336.results.toList, []⟩) .nil .nil) .nil)) (.node (some ⟨79, (Try.f112.body.getD .skip), Try.f112.results.toList, []⟩) (.node (some ⟨36, (Try.f176.body.getD .skip), Try.f176.results.toList, []⟩) (.node (some ⟨20, (Try.f304.body.getD .skip), Try.f304.results.toList, []⟩) .nil .nil) .nil) (.node (some ⟨58, (Try.f240.body.getD .skip), Try.f240.results.toList, []⟩) (.node (some ⟨178, (Try.f368.body.getD .skip), Try.f368.results.toList, []⟩) .nil .nil) .nil)))) (.node (some ⟨71, (Try.f24.body.getD .skip), Try.f24.results.toList, []⟩) (.node (some ⟨14, (Try.f40.body.getD .skip), Try.f40.results.toList, []⟩) (.node (some ⟨19, (Try.f72.body.getD .skip), Try.f72.results.toList, []⟩) (.node (some ⟨46, (Try.f136.body.getD .skip), Try.f136.results.toList, []⟩) (.node (some ⟨9, (Try.f264.body.getD .skip), Try.f264.results.toList, []⟩) .nil .nil) .nil) (.node (some ⟨31, (Try.f200.body.getD .skip), Try.f200.results.toList, []⟩) (.node (some ⟨54, (Try.f328.body.getD .skip), Try.f328.results.toList, []⟩) .nil .nil) .nil)) (.node (some ⟨17, (Try.f104.body.getD .skip), Try.f104.results.toList, []⟩) (.node (some ⟨34, (Try.f168.body.getD .skip), Try.f168.results.toList, []⟩) (.node (some ⟨8, (Try.f296.body.getD .skip), Try.f296.results.toList, []⟩) .nil .nil) .nil) (.node (some ⟨38, (Try.f232.body.getD .skip), Try.f232.results.toList, []⟩) (.node (some ⟨178, (Try.f360.body.getD .skip), Try.f360.results.toList, []⟩) .nil .nil) .nil))) (.node (some ⟨50, (Try.f56.body.getD .skip), Try.f56.results.toList, []⟩) (.node (some ⟨59, (Try.f88.body.getD .skip), Try.f88.results.toList, []⟩) (.node (some ⟨86, (Try.f152.body.getD .skip), Try.f152.results.toList, []⟩) (.node (some ⟨29, (Try.f280.body.getD .skip), Try.f280.results.toList, [5]⟩) .nil .nil) .nil) (.node (some ⟨9, (Try.f216.body.getD .skip), Try.f216.results.toList, []⟩) (.node (some ⟨148, (Try.f344.body.getD .skip), Try.f344.results.toList, []⟩) .nil .nil) .nil)) (.node (some ⟨68, (Try.f120.body.getD .skip), Try.f120.results.toList, []⟩) (.node (some ⟨84, (Try.f184.body.getD .skip), Try.f184.results.toList, []⟩) (.node (some ⟨17, (Try.f312.body.getD .skip), Try.f312.results.toList, []⟩) .nil .nil) .nil) (.node (some ⟨9, (Try.f248.body.getD .skip), Try.f248.results.toList, []⟩) (.node (some ⟨90, (Try.f376.body.getD .skip), Try.f376.results.toList, []⟩) .nil .nil) .nil))))) (.node (some ⟨105, (Try.f12.body.getD .skip), Try.f12.results.toList, []⟩) (.node (some ⟨184, (Try.f20.body.getD .skip), Try.f20.results.toList, []⟩) (.node (some ⟨78, (Try.f36.body.getD .skip), Try.f36.results.toList, []⟩) (.node (some ⟨14, (Try.f68.body.getD .skip), Try.f68.results.toList, []⟩) (.node (some ⟨26, (Try.f132.body.getD .skip), Try.f132.results.toList, []⟩) (.node (some ⟨62, (Try.f260.body.getD .skip), Try.f260.results.toList, []⟩) .nil .nil) (.node (some ⟨32, (Try.f388.body.getD .skip), Try.f388.results.toList, []⟩) .nil .nil)) (.node (some ⟨8, (Try.f196.body.getD .skip), Try.f196.results.toList, []⟩) (.node (some ⟨19, (Try.f324.body.getD .skip), Try.f324.results.toList, []⟩) .nil .nil) .nil)) (.node (some ⟨60, (Try.f100.body.getD .skip), Try.f100.results.toList, []⟩) (.node (some ⟨86, (Try.f164.body.getD .skip), Try.f164.results.toList, []⟩) (.node (some ⟨19, (Try.f292.body.getD .skip), Try.f292.results.toList, []⟩) .nil .nil) .nil) (.node (some ⟨40, (Try.f228.body.getD .skip), Try.f228.results.toList, []⟩) (.node (some ⟨63, (Try.f356.body.getD .skip), Try.f356.results.toList, []⟩) .nil .nil) .nil))) (.node (some ⟨13, (Try.f52.body.getD .skip), Try.f52.results.toList, []⟩) (.node (some ⟨8, (Try.f84.body.getD .skip), Try.f84.results.toList, []⟩) (.node (some ⟨73, (Try.f148.body.getD .skip), Try.f148.results.toList, []⟩) (.node (some ⟨33, (Try.f276.body.getD .skip), Try.f276.results.toList, []⟩) .nil .nil) .nil) (.node (some ⟨51, (Try.f212.body.getD .skip), Try.f212.results.toList, []⟩) (.node (some ⟨14, (Try.f340.body.getD .skip), Try.f340.results.toList, []⟩) .nil .nil) .nil)) (.node (some ⟨8, (Try.f116.body.getD .skip), Try.f116.results.toList, []⟩) (.node (some ⟨23, (Try.f180.body.getD .skip), Try.f180.results.toList, []⟩) (.node (some ⟨27, (Try.f308.body.getD .skip), Try.f308.results.toList, []⟩) .nil .nil) .nil) (.node (some ⟨59, (Try.f244.body.getD .skip), Try.f244.results.toList, []⟩) (.node (some ⟨67, (Try.f372.body.getD .skip), Try.f372.results.toList, []⟩) .nil .nil) .nil)))) (.node (some ⟨108, (Try.f28.body.getD .skip), Try.f28.results.toList, [3, 6, 15]⟩) (.node (some ⟨61, (Try.f44.body.getD .skip), Try.f44.results.toList, []⟩) (.node (some ⟨38, (Try.f76.body.getD .skip), Try.f76.results.toList, []⟩) (.node (some ⟨25, (Try.f140.body.getD .skip), Try.f140.results.toList, []⟩) (.node (some ⟨9, (Try.f268.body.getD .skip), Try.f268.results.toList, []⟩) .nil .nil) .nil) (.node (some ⟨29, (Try.f204.body.getD .skip), Try.f204.results.toList, []⟩) (.node (some ⟨57, (Try.f332.body.getD .skip), Try.f332.results.toList, []⟩) .nil .nil) .nil)) (.node (some ⟨103, (Try.f108.body.getD .skip), Try.f108.results.toList, []⟩) (.node (some ⟨52, (Try.f172.body.getD .skip), Try.f172.results.toList, []⟩) (.node (some ⟨26, (Try.f300.body.getD .skip), Try.f300.results.toList, []⟩) .nil .nil) .nil) (.node (some ⟨33, (Try.f236.body.getD .skip), Try.f236.results.toList, []⟩) (.node (some ⟨63, (Try.f364.body.getD .skip), Try.f364.results.toList, []⟩) .nil .nil) .nil))) (.node (some ⟨27, (Try.f60.body.getD .skip), Try.f60.results.toList, []⟩) (.node (some ⟨71, (Try.f92.body.getD .skip), Try.f92.results.toList, []⟩) (.node (some ⟨51, (Try.f156.body.getD .skip), Try.f156.results.toList, []⟩) (.node (some ⟨6, (Try.f284.body.getD .skip), Try.f284.results.toList, []⟩) .nil .nil) .nil) (.node (some ⟨21, (Try.f220.body.getD .skip), Try.f220.results.toList, []⟩) (.node (some ⟨7, (Try.f348.body.getD .skip), Try.f348.results.toList, []⟩) .nil .nil) .nil)) (.node (some ⟨31, (Try.f124.body.getD .skip), Try.f124.results.toList, []⟩) (.node (some ⟨10, (Try.f188.body.getD .skip), Try.f188.results.toList, []⟩) (.node (some ⟨8, (Try.f316.body.getD .skip), Try.f316.results.toList, []⟩) .nil .nil) .nil) (.node (some ⟨13, (Try.f252.body.getD .skip), Try.f252.results.toList, []⟩) (.node (some ⟨41, (Try.f380.body.getD .skip), Try.f380.results.toList, []⟩) .nil .nil) .nil)))))) (.node (some ⟨202, (Try.f6.body.getD .skip), Try.f6.results.toList, []⟩) (.node (some ⟨149, (Try.f10.body.getD .skip), Try.f10.results.toList, []⟩) (.node (some ⟨226, (Try.f18.body.getD .skip), Try.f18.results.toList, [14, 21, 41]⟩) (.node (some ⟨142, (Try.f34.body.getD .skip), Try.f34.results.toList, []⟩) (.node (some ⟨41, (Try.f66.body.getD .skip), Try.f66.results.toList, []⟩) (.node (some ⟨42, (Try.f130.body.getD .skip), Try.f130.results.toList, []⟩) (.node (some ⟨19, (Try.f258.body.getD .skip), Try.f258.results.toList, []⟩) .nil .nil) (.node (some ⟨41, (Try.f386.body.getD .skip), Try.f386.results.toList, []⟩) .nil .nil)) (.node (some ⟨9, (Try.f194.body.getD .skip), Try.f194.results.toList, []⟩) (.node (some ⟨27, (Try.f322.body.getD .skip), Try.f322.results.toList, []⟩) .nil .nil) .nil)) (.node (some ⟨79, (Try.f98.body.getD .skip), Try.f98.results.toList, []⟩) (.node (some ⟨58, (Try.f162.body.getD .skip), Try.f162.results.toList, []⟩) (.node (some ⟨24, (Try.f290.body.getD .skip), Try.f290.results.toList, []⟩) .nil .nil) .nil) (.node (some ⟨16, (Try.f226.body.getD .skip), Try.f226.results.toList, []⟩) (.node (some ⟨60, (Try.f354.body.getD .skip), Try.f354.results.toList, []⟩) .nil .nil) .nil))) (.node (some ⟨45, (Try.f50.body.getD .skip), Try.f50.results.toList, []⟩) (.node (some ⟨42, (Try.f82.body.getD .skip), Try.f82.results.toList, []⟩) (.node (some ⟨27, (Try.f146.body.getD .skip), Try.f146.results.toList, []⟩) (.node (some ⟨10, (Try.f274.body.getD .skip), Try.f274.results.toList, []⟩) .nil .nil) .nil) (.node (some ⟨6, (Try.f210.body.getD .skip), Try.f210.results.toList, []⟩) (.node (some ⟨25, (Try.f338.body.getD .skip), Try.f338.results.toList, []⟩) .nil .nil) .nil)) (.node (some ⟨6, (Try.f114.body.getD .skip), Try.f114.results.toList, []⟩) (.node (some ⟨53, (Try.f178.body.getD .skip), Try.f178.results.toList, []⟩) (.node (some ⟨24, (Try.f306.body.getD .skip), Try.f306.results.toList, []⟩) .nil .nil) .nil) (.node (some ⟨17, (Try.f242.body.getD .skip), Try.f242.results.toList, []⟩) (.node (some ⟨53, (Try.f370.body.getD .skip), Try.f370.results.toList, []⟩) .nil .nil) .nil)))) (.node (some ⟨144, (Try.f26.body.getD .skip), Try.f26.results.toList, []⟩) (.node (some ⟨88, (Try.f42.body.getD .skip), Try.f42.results.toList, []⟩) (.node (some ⟨62, (Try.f74.body.getD .skip), Try.f74.results.toList, []⟩) (.node (some ⟨40, (Try.f138.body.getD .skip), Try.f138.results.toList, []⟩) (.node (some ⟨5, (Try.f266.body.getD .skip), Try.f266.results.toList, []⟩) .nil .nil) .nil) (.node (some ⟨37, (Try.f202.body.getD .skip), Try.f202.results.toList, []⟩) (.node (some ⟨56, (Try.f330.body.getD .skip), Try.f330.results.toList, []⟩) .nil .nil) .nil)) (.node (some ⟨42, (Try.f106.body.getD .skip), Try.f106.results.toList, []⟩) (.node (some ⟨38, (Try.f170.body.getD .skip), Try.f170.results.toList, [11]⟩) (.node (some ⟨9, (Try.f298.body.getD .skip), Try.f298.results.toList, []⟩) .nil .nil) .nil) (.node (some ⟨29, (Try.f234.body.getD .skip), Try.f234.results.toList, []⟩) (.node (some ⟨60, (Try.f362.body.getD .skip), Try.f362.results.toList, []⟩) .nil .nil) .nil))) (.node (some ⟨29, (Try.f58.body.getD .skip), Try.f58.results.toList, []⟩) (.node (some ⟨39, (Try.f90.body.getD .skip), Try.f90.results.toList, []⟩) (.node (some ⟨55, (Try.f154.body.getD .skip), Try.f154.results.toList, []⟩) (.node (some ⟨3, (Try.f282.body.getD .skip), Try.f282.results.toList, []⟩) .nil .nil) .nil) (.node (some ⟨29, (Try.f218.body.getD .skip), Try.f218.results.toList, []⟩) (.node (some ⟨6, (Try.f346.body.getD .skip), Try.f346.results.toList, []⟩) .nil .nil) .nil)) (.node (some ⟨37, (Try.f122.body.getD .skip), Try.f122.results.toList, []⟩) (.node (some ⟨67, (Try.f186.body.getD .skip), Try.f186.results.toList, []⟩) (.node (some ⟨8, (Try.f314.body.getD .skip), Try.f314.results.toList, []⟩) .nil .nil) .nil) (.node (some ⟨24, (Try.f250.body.getD .skip), Try.f250.results.toList, []⟩) (.node (some ⟨82, (Try.f378.body.getD .skip), Try.f378.results.toList, []⟩) .nil .nil) .nil))))) (.node (some ⟨148, (Try.f14.body.getD .skip), Try.f14.results.toList, []⟩) (.node (some ⟨173, (Try.f22.body.getD .skip), Try.f22.results.toList, [21]⟩) (.node (some ⟨15, (Try.f38.body.getD .skip), Try.f38.results.toList, []⟩) (.node (some ⟨27, (Try.f70.body.getD .skip), Try.f70.results.toList, []⟩) (.node (some ⟨41, (Try.f134.body.getD .skip), Try.f134.results.toList, []⟩) (.node (some ⟨17, (Try.f262.body.getD .skip), Try.f262.results.toList, []⟩) .nil .nil) .nil) (.node (some ⟨18, (Try.f198.body.getD .skip), Try.f198.results.toList, []⟩) (.node (some ⟨19, (Try.f326.body.getD .skip), Try.f326.results.toList, []⟩) .nil .nil) .nil)) (.node (some ⟨10, (Try.f102.body.getD .skip), Try.f102.results.toList, []⟩) (.node (some ⟨153, (Try.f166.body.getD .skip), Try.f166.results.toList, [24]⟩) (.node (some ⟨17, (Try.f294.body.getD .skip), Try.f294.results.toList, []⟩) .nil .nil) .nil) (.node (some ⟨56, (Try.f230.body.getD .skip), Try.f230.results.toList, []⟩) (.node (some ⟨141, (Try.f358.body.getD .skip), Try.f358.results.toList, []⟩) .nil .nil) .nil))) (.node (some ⟨23, (Try.f54.body.getD .skip), Try.f54.results.toList, []⟩) (.node (some ⟨61, (Try.f86.body.getD .skip), Try.f86.results.toList, []⟩) (.node (some ⟨70, (Try.f150.body.getD .skip), Try.f150.results.toList, []⟩) (.node (some ⟨28, (Try.f278.body.getD .skip), Try.f278.results.toList, []⟩) .nil .nil) .nil) (.node (some ⟨44, (Try.f214.body.getD .skip), Try.f214.results.toList, []⟩) (.node (some ⟨148, (Try.f342.body.getD .skip), Try.f342.results.toList, []⟩) .nil .nil) .nil)) (.node (some ⟨38, (Try.f118.body.getD .skip), Try.f118.results.toList, []⟩) (.node (some ⟨149, (Try.f182.body.getD .skip), Try.f182.results.toList, [17]⟩) (.node (some ⟨14, (Try.f310.body.getD .skip), Try.f310.results.toList, []⟩) .nil .nil) .nil) (.node (some ⟨27, (Try.f246.body.getD .skip), Try.f246.results.toList, []⟩) (.node (some ⟨34, (Try.f374.body.getD .skip), Try.f374.results.toList, []⟩) .nil .nil) .nil)))) (.node (some ⟨129, (Try.f30.body.getD .skip), Try.f30.results.toList, []⟩) (.node (some ⟨70, (Try.f46.body.getD .skip), Try.f46.results.toList, []⟩) (.node (some ⟨44, (Try.f78.body.getD .skip), Try.f78.results.toList, []⟩) (.node (some ⟨35, (Try.f142.body.getD .skip), Try.f142.results.toList, []⟩) (.node (some ⟨61, (Try.f270.body.getD .skip), Try.f270.results.toList, []⟩) .nil .nil) .nil) (.node (some ⟨45, (Try.f206.body.getD .skip), Try.f206.results.toList, []⟩) (.node (some ⟨133, (Try.f334.body.getD .skip), Try.f334.results.toList, []⟩) .nil .nil) .nil)) (.node (some ⟨34, (Try.f110.body.getD .skip), Try.f110.results.toList, []⟩) (.node (some ⟨40, (Try.f174.body.getD .skip), Try.f174.results.toList, []⟩) (.node (some ⟨134, (Try.f302.body.getD .skip), Try.f302.results.toList, []⟩) .nil .nil) .nil) (.node (some ⟨42, (Try.f238.body.getD .skip), Try.f238.results.toList, []⟩) (.node (some ⟨141, (Try.f366.body.getD .skip), Try.f366.results.toList, []⟩) .nil .nil) .nil))) (.node (some ⟨29, (Try.f62.body.getD .skip), Try.f62.results.toList, []⟩) (.node (some ⟨49, (Try.f94.body.getD .skip), Try.f94.results.toList, []⟩) (.node none (.node (some ⟨76, (Try.f286.body.getD .skip), Try.f286.results.toList, []⟩) .nil .nil) .nil) (.node (some ⟨31, (Try.f222.body.getD .skip), Try.f222.results.toList, []⟩) (.node (some ⟨15, (Try.f350.body.getD .skip), Try.f350.results.toList, []⟩) .nil .nil) .nil)) (.node (some ⟨27, (Try.f126.body.getD .skip), Try.f126.results.toList, []⟩) (.node (some ⟨27, (Try.f190.body.getD .skip), Try.f190.results.toList, []⟩) (.node (some ⟨36, (Try.f318.body.getD .skip), Try.f318.results.toList, []⟩) .nil .nil) .nil) (.node (some ⟨16, (Try.f254.body.getD .skip), Try.f254.results.toList, []⟩) (.node (some ⟨18, (Try.f382.body.getD .skip), Try.f382.results.toList, []⟩) .nil .nil) .nil))))))))
noncomputable def E : Env := ⟨E.tyTr.get, E.fnTr.get⟩
theorem E.ty1 : E.ty 1 = some ⟨0, 1, 8, [.nilf], 0, 0, [], .i64⟩ := rfl
theorem E.to1 : TyOk Try.prog 1 ⟨0, 1, 8, [.nilf], 0, 0, [], .i64⟩ := tyOk_of_mkTy (by kernel_rfl)
theorem E.ty2 : E.ty 2 = some ⟨1, 1, 8, [(.int .i64 0)], 0, 0, [], .i64⟩ := rfl
theorem E.to2 : TyOk Try.prog 2 ⟨1, 1, 8, [(.int .i64 0)], 0, 0, [], .i64⟩ := tyOk_of_mkTy (by kernel_rfl)
theorem E.ty3 : E.ty 3 = some ⟨1, 1, 8, [(.int .i64 0)], 0, 0, [], .i64⟩ := rfl
theorem E.to3 : TyOk Try.prog 3 ⟨1, 1, 8, [(.int .i64 0)], 0, 0, [], .i64⟩ := tyOk_of_mkTy (by kernel_rfl)
theorem E.ty4 : E.ty 4 = some ⟨2, 1, 1, [(.bool false)], 0, 0, [], .i64⟩ := rfl
theorem E.to4 : TyOk Try.prog 4 ⟨2, 1, 1, [(.bool false)], 0, 0, [], .i64⟩ := tyOk_of_mkTy (by kernel_rfl)
theorem E.ty5 : E.ty 5 = some ⟨1, 1, 1, [(.int .u8 0)], 0, 0, [], .u8⟩ := rfl
theorem E.to5 : TyOk Try.prog 5 ⟨1, 1, 1, [(.int .u8 0)], 0, 0, [], .u8⟩ := tyOk_of_mkTy (by kernel_rfl)
theorem E.ty6 : E.ty 6 = some ⟨1, 1, 1, [(.int .u8 0)], 0, 0, [], .u8⟩ := rfl
theorem E.to6 : TyOk Try.prog 6 ⟨1, 1, 1, [(.int .u8 0)], 0, 0, [], .u8⟩ := tyOk_of_mkTy (by kernel_rfl)
theorem E.ty7 : E.ty 7 = some ⟨6, 4, 24, [(.int .i64 0), (.int .i64 0), (.bool false), (.int .u8 0)], 0, 0, [(0, 2, 1), (1, 3, 1), (2, 4, 1), (3, 6, 1)], .i64⟩ := rfl
theorem E.to7 : TyOk Try.prog 7 ⟨6, 4, 24, [(.int .i64 0), (.int .i64 0), (.bool false), (.int .u8 0)], 0, 0, [(0, 2, 1), (1, 3, 1), (2, 4, 1), (3, 6, 1)], .i64⟩ := tyOk_of_mkTy (by kernel_rfl)
theorem E.ty8 : E.ty 8 = some ⟨6, 4, 24, [(.int .i64 0), (.int .i64 0), (.bool false), (.int .u8 0)], 0, 0, [(0, 2, 1), (1, 3, 1), (2, 4, 1), (3, 6, 1)], .i64⟩ := rfl
theorem E.to8 : TyOk Try.prog 8 ⟨6, 4, 24, [(.int .i64 0), (.int .i64 0), (.bool false), (.int .u8 0)], 0, 0, [(0, 2, 1), (1, 3, 1), (2, 4, 1), (3, 6, 1)], .i64⟩ := tyOk_of_mkTy (by kernel_rfl)
theorem E.ty9 : E.ty 9 = some ⟨3, 1, 16, [(.str [])], 0, 0, [], .i64⟩ := rfl
theorem E.to9 : TyOk Try.prog 9 ⟨3, 1, 16, [(.str [])], 0, 0, [], .i64⟩ := tyOk_of_mkTy (by kernel_rfl)
theorem E.ty10 : E.ty 10 = some ⟨3, 1, 16, [(.str [])], 0, 0, [], .i64⟩ := rfl
theorem E.to10 : TyOk Try.prog 10 ⟨3, 1, 16, [(.str [])], 0, 0, [], .i64⟩ := tyOk_of_mkTy (by kernel_rfl)
theorem E.ty11 : E.ty 11 = some ⟨3, 1, 16, [(.str [])], 0, 0, [], .i64⟩ := rfl
theorem E.to11 : TyOk Try.prog 11 ⟨3, 1, 16, [(.str [])], 0, 0, [], .i64⟩ := tyOk_of_mkTy (by kernel_rfl)
theorem E.ty12 : E.ty 12 = some ⟨1, 1, 8, [(.int .u64 0)], 0, 0, [], .u64⟩ := rfl
theorem E.to12 : TyOk Try.prog 12 ⟨1, 1, 8, [(.int .u64 0)], 0, 0, [], .u64⟩ := tyOk_of_mkTy (by kernel_rfl)
theorem E.ty15 : E.ty 15 = some ⟨7, 1, 8, [.nilp], 310, 0, [], .i64⟩ := rfl
theorem E.to15 : TyOk Try.prog 15 ⟨7, 1, 8, [.nilp], 310, 0, [], .i64⟩ := tyOk_of_mkTy (by kernel_rfl)
theorem E.ty16 : E.ty 16 = some ⟨7, 1, 8, [.nilp], 313, 0, [], .i64⟩ := rfl
theorem E.to16 : TyOk Try.prog 16 ⟨7, 1, 8, [.nilp], 313, 0, [], .i64⟩ := tyOk_of_mkTy (by kernel_rfl)
theorem E.ty17 : E.ty 17 = some ⟨7, 1, 8, [.nilp], 322, 0, [], .i64⟩ := rfl
theorem E.to17 : TyOk Try.prog 17 ⟨7, 1, 8, [.nilp], 322, 0, [], .i64⟩ := tyOk_of_mkTy (by kernel_rfl)
theorem E.ty20 : E.ty 20 = some ⟨0, 1, 16, [.undef], 0, 0, [], .i64⟩ := rfl
theorem E.to20 : TyOk Try.prog 20 ⟨0, 1, 16, [.undef], 0, 0, [], .i64⟩ := tyOk_of_mkTy (by kernel_rfl)
theorem E.ty21 : E.ty 21 = some ⟨1, 1, 4, [(.int .i32 0)], 0, 0, [], .i32⟩ := rfl
theorem E.to21 : TyOk Try.prog 21 ⟨1, 1, 4, [(.int .i32 0)], 0, 0, [], .i32⟩ := tyOk_of_mkTy (by kernel_rfl)
theorem E.ty22 : E.ty 22 = some ⟨4, 1, 24, [.nils], 3, 0, [], .i64⟩ := rfl
theorem E.to22 : TyOk Try.prog 22 ⟨4, 1, 24, [.nils], 3, 0, [], .i64⟩ := tyOk_of_mkTy (by kernel_rfl)
theorem E.ty23 : E.ty 23 = some ⟨0, 1, 8, [.nilf], 0, 0, [], .i64⟩ := rfl
theorem E.to23 : TyOk Try.prog 23 ⟨0, 1, 8, [.nilf], 0, 0, [], .i64⟩ := tyOk_of_mkTy (by kernel_rfl)
theorem E.ty24 : E.ty 24 = some ⟨0, 1, 8, [.nilf], 0, 0, [], .i64⟩ := rfl
theorem E.to24 : TyOk Try.prog 24 ⟨0, 1, 8, [.nilf], 0, 0, [], .i64⟩ := tyOk_of_mkTy (by kernel_rfl)
theorem E.ty25 : E.ty 25 = some ⟨1, 1, 2, [(.int .u16 0)], 0, 0, [], .u16⟩ := rfl
theorem E.to25 : TyOk Try.prog 25 ⟨1, 1, 2, [(.int .u16 0)], 0, 0, [], .u16⟩ := tyOk_of_mkTy (by kernel_rfl)
theorem E.ty26 : E.ty 26 = some ⟨1, 1, 8, [(.int .i64 0)], 0, 0, [], .i64⟩ := rfl
theorem E.to26 : TyOk Try.prog 26 ⟨1, 1, 8, [(.int .i64 0)], 0, 0, [], .i64⟩ := tyOk_of_mkTy (by kernel_rfl)
theorem E.ty28 : E.ty 28 = some ⟨0, 1, 8, [.nilf], 0, 0, [], .i64⟩ := rfl
theorem E.to28 : TyOk Try.prog 28 ⟨0, 1, 8, [.nilf], 0, 0, [], .i64⟩ := tyOk_of_mkTy (by kernel_rfl)
theorem E.ty29 : E.ty 29 = some ⟨4, 1, 24, [.nils], 25, 0, [], .i64⟩ := rfl
theorem E.to29 : TyOk Try.prog 29 ⟨4, 1, 24, [.nils], 25, 0, [], .i64⟩ := tyOk_of_mkTy (by kernel_rfl)
theorem E.ty31 : E.ty 31 = some ⟨0, 1, 8, [.nilf], 0, 0, [], .i64⟩ := rfl
theorem E.to31 : TyOk Try.prog 31 ⟨0, 1, 8, [.nilf], 0, 0, [], .i64⟩ := tyOk_of_mkTy (by kernel_rfl)
theorem E.ty32 : E.ty 32 = some ⟨0, 1, 8, [.nilf], 0, 0, [], .i64⟩ := rfl
theorem E.to32 : TyOk Try.prog 32 ⟨0, 1, 8, [.nilf], 0, 0, [], .i64⟩ := tyOk_of_mkTy (by kernel_rfl)
theorem E.ty33 : E.ty 33 = some ⟨0, 1, 8, [.nilf], 0, 0, [], .i64⟩ := rfl
theorem E.to33 : TyOk Try.prog 33 ⟨0, 1, 8, [.nilf], 0, 0, [], .i64⟩ := tyOk_of_mkTy (by kernel_rfl)
theorem E.ty34 : E.ty 34 = some ⟨0, 1, 8, [.nilf], 0, 0, [], .i64⟩ := rfl
theorem E.to34 : TyOk Try.prog 34 ⟨0, 1, 8, [.nilf], 0, 0, [], .i64⟩ := tyOk_of_mkTy (by kernel_rfl)
theorem E.ty35 : E.ty 35 = some ⟨0, 1, 8, [.nilf], 0, 0, [], .i64⟩ := rfl
theorem E.to35 : TyOk Try.prog 35 ⟨0, 1, 8, [.nilf], 0, 0, [], .i64⟩ := tyOk_of_mkTy (by kernel_rfl)
theorem E.ty36 : E.ty 36 = some ⟨0, 1, 8, [.nilf], 0, 0, [], .i64⟩ := rfl
theorem E.to36 : TyOk Try.prog 36 ⟨0, 1, 8, [.nilf], 0, 0, [], .i64⟩ := tyOk_of_mkTy (by kernel_rfl)
theorem E.ty37 : E.ty 37 = some ⟨0, 1, 8, [.nilf], 0, 0, [], .i64⟩ := rfl
theorem E.to37 : TyOk Try.prog 37 ⟨0, 1, 8, [.nilf], 0, 0, [], .i64⟩ := tyOk_of_mkTy (by kernel_rfl)
theorem E.ty38 : E.ty 38 = some ⟨4, 1, 24, [.nils], 42, 0, [], .i64⟩ := rfl
theorem E.to38 : TyOk Try.prog 38 ⟨4, 1, 24, [.nils], 42, 0, [], .i64⟩ := tyOk_of_mkTy (by kernel_rfl)
theorem E.ty39 : E.ty 39 = some ⟨7, 1, 8, [.nilp], 203, 0, [], .i64⟩ := rfl
theorem E.to39 : TyOk Try.prog 39 ⟨7, 1, 8, [.nilp], 203, 0, [], .i64⟩ := tyOk_of_mkTy (by kernel_rfl)
theorem E.ty41 : E.ty 41 = some ⟨0, 1, 8, [.nilf], 0, 0, [], .i64⟩ := rfl
theorem E.to41 : TyOk Try.prog 41 ⟨0, 1, 8, [.nilf], 0, 0, [], .i64⟩ := tyOk_of_mkTy (by kernel_rfl)
theorem E.ty42 : E.ty 42 = some ⟨5, 2, 16, [(.int .i64 0), (.int .i64 0)], 3, 2, [], .i64⟩ := rfl
theorem E.to42 : TyOk Try.prog 42 ⟨5, 2, 16, [(.int .i64 0), (.int .i64 0)], 3, 2, [], .i64⟩ := tyOk_of_mkTy (by kernel_rfl)
theorem E.ty43 : E.ty 43 = some ⟨0, 1, 8, [.nilf], 0, 0, [], .i64⟩ := rfl
theorem E.to43 : TyOk Try.prog 43 ⟨0, 1, 8, [.nilf], 0, 0, [], .i64⟩ := tyOk_of_mkTy (by kernel_rfl)
theorem E.ty44 : E.ty 44 = some ⟨0, 1, 8, [.nilf], 0, 0, [], .i64⟩ := rfl
theorem E.to44 : TyOk Try.prog 44 ⟨0, 1, 8, [.nilf], 0, 0, [], .i64⟩ := tyOk_of_mkTy (by kernel_rfl)
theorem E.ty45 : E.ty 45 = some ⟨0, 1, 8, [.nilf], 0, 0, [], .i64⟩ := rfl
theorem E.to45 : TyOk Try.prog 45 ⟨0, 1, 8, [.nilf], 0, 0, [], .i64⟩ := tyOk_of_mkTy (by kernel_rfl)
theorem E.ty46 : E.ty 46 = some ⟨0, 1, 8, [.nilf], 0, 0, [], .i64⟩ := rfl
theorem E.to46 : TyOk Try.prog 46 ⟨0, 1, 8, [.nilf], 0, 0, [], .i64⟩ := tyOk_of_mkTy (by kernel_rfl)
theorem E.ty48 : E.ty 48 = some ⟨0, 1, 8, [.nilf], 0, 0, [], .i64⟩ := rfl
theorem E.to48 : TyOk Try.prog 48 ⟨0, 1, 8, [.nilf], 0, 0, [], .i64⟩ := tyOk_of_mkTy (by kernel_rfl)
theorem E.ty49 : E.ty 49 = some ⟨0, 1, 8, [.nilf], 0, 0, [], .i64⟩ := rfl
theorem E.to49 : TyOk Try.prog 49 ⟨0, 1, 8, [.nilf], 0, 0, [], .i64⟩ := tyOk_of_mkTy (by kernel_rfl)
theorem E.ty50 : E.ty 50 = some ⟨0, 1, 8, [.nilf], 0, 0, [], .i64⟩ := rfl
theorem E.to50 : TyOk Try.prog 50 ⟨0, 1, 8, [.nilf], 0, 0, [], .i64⟩ := tyOk_of_mkTy (by kernel_rfl)
theorem E.ty51 : E.ty 51 = some ⟨0, 1, 8, [.nilf], 0, 0, [], .i64⟩ := rfl
theorem E.to51 : TyOk Try.prog 51 ⟨0, 1, 8, [.nilf], 0, 0, [], .i64⟩ := tyOk_of_mkTy (by kernel_rfl)
theorem E.ty53 : E.ty 53 = some ⟨0, 1, 8, [.nilf], 0, 0, [], .i64⟩ := rfl
theorem E.to53 : TyOk Try.prog 53 ⟨0, 1, 8, [.nilf], 0, 0, [], .i64⟩ := tyOk_of_mkTy (by kernel_rfl)
theorem E.ty54 : E.ty 54 = some ⟨0, 1, 8, [.nilf], 0, 0, [], .i64⟩ := rfl
theorem E.to54 : TyOk Try.prog 54 ⟨0, 1, 8, [.nilf], 0, 0, [], .i64⟩ := tyOk_of_mkTy (by kernel_rfl)
theorem E.ty55 : E.ty 55 = some ⟨0, 1, 8, [.nilf], 0, 0, [], .i64⟩ := rfl
theorem E.to55 : TyOk Try.prog 55 ⟨0, 1, 8, [.nilf], 0, 0, [], .i64⟩ := tyOk_of_mkTy (by kernel_rfl)
theorem E.ty56 : E.ty 56 = some ⟨0, 1, 8, [.nilf], 0, 0, [], .i64⟩ := rfl
theorem E.to56 : TyOk Try.prog 56 ⟨0, 1, 8, [.nilf], 0, 0, [], .i64⟩ := tyOk_of_mkTy (by kernel_rfl)
theorem E.ty57 : E.ty 57 = some ⟨6, 2, 16, [(.int .i64 0), (.int .i64 0)], 0, 0, [(0, 3, 1), (1, 3, 1)], .i64⟩ := rfl
theorem E.to57 : TyOk Try.prog 57 ⟨6, 2, 16, [(.int .i64 0), (.int .i64 0)], 0, 0, [(0, 3, 1), (1, 3, 1)], .i64⟩ := tyOk_of_mkTy (by kernel_rfl)
theorem E.ty58 : E.ty 58 = some ⟨6, 2, 16, [(.int .i64 0), (.int .i64 0)], 0, 0, [(0, 3, 1), (1, 3, 1)], .i64⟩ := rfl
theorem E.to58 : TyOk Try.prog 58 ⟨6, 2, 16, [(.int .i64 0), (.int .i64 0)], 0, 0, [(0, 3, 1), (1, 3, 1)], .i64⟩ := tyOk_of_mkTy (by kernel_rfl)
theorem E.ty60 : E.ty 60 = some ⟨0, 1, 8, [.nilf], 0, 0, [], .i64⟩ := rfl
theorem E.to60 : TyOk Try.prog 60 ⟨0, 1, 8, [.nilf], 0, 0, [], .i64⟩ := tyOk_of_mkTy (by kernel_rfl)
theorem E.ty61 : E.ty 61 = some ⟨0, 1, 8, [.nilf], 0, 0, [], .i64⟩ := rfl
theorem E.to61 : TyOk Try.prog 61 ⟨0, 1, 8, [.nilf], 0, 0, [], .i64⟩ := tyOk_of_mkTy (by kernel_rfl)
theorem E.ty63 : E.ty 63 = some ⟨0, 1, 8, [.nilf], 0, 0, [], .i64⟩ := rfl
theorem E.to63 : TyOk Try.prog 63 ⟨0, 1, 8, [.nilf], 0, 0, [], .i64⟩ := tyOk_of_mkTy (by kernel_rfl)
theorem E.ty64 : E.ty 64 = some ⟨0, 1, 8, [.nilf], 0, 0, [], .i64⟩ := rfl
theorem E.to64 : TyOk Try.prog 64 ⟨0, 1, 8, [.nilf], 0, 0, [], .i64⟩ := tyOk_of_mkTy (by kernel_rfl)
theorem E.ty65 : E.ty 65 = some ⟨0, 1, 8, [.nilf], 0, 0, [], .i64⟩ := rfl
theorem E.to65 : TyOk Try.prog 65 ⟨0, 1, 8, [.nilf], 0, 0, [], .i64⟩ := tyOk_of_mkTy (by kernel_rfl)
theorem E.ty66 : E.ty 66 = some ⟨0, 1, 8, [.nilf], 0, 0, [], .i64⟩ := rfl
theorem E.to66 : TyOk Try.prog 66 ⟨0, 1, 8, [.nilf], 0, 0, [], .i64⟩ := tyOk_of_mkTy (by kernel_rfl)
theorem E.ty68 : E.ty 68 = some ⟨0, 1, 8, [.nilf], 0, 0, [], .i64⟩ := rfl
theorem E.to68 : TyOk Try.prog 68 ⟨0, 1, 8, [.nilf], 0, 0, [], .i64⟩ := tyOk_of_mkTy (by kernel_rfl)
theorem E.ty69 : E.ty 69 = some ⟨0, 1, 8, [.nilf], 0, 0, [], .i64⟩ := rfl
theorem E.to69 : TyOk Try.prog 69 ⟨0, 1, 8, [.nilf], 0, 0, [], .i64⟩ := tyOk_of_mkTy (by kernel_rfl)
theorem E.ty70 : E.ty 70 = some ⟨0, 1, 8, [.nilf], 0, 0, [], .i64⟩ := rfl
theorem E.to70 : TyOk Try.prog 70 ⟨0, 1, 8, [.nilf], 0, 0, [], .i64⟩ := tyOk_of_mkTy (by kernel_rfl)
theorem E.ty71 : E.ty 71 = some ⟨0, 1, 8, [.nilf], 0, 0, [], .i64⟩ := rfl
theorem E.to71 : TyOk Try.prog 71 ⟨0, 1, 8, [.nilf], 0, 0, [], .i64⟩ := tyOk_of_mkTy (by kernel_rfl)
theorem E.ty72 : E.ty 72 = some ⟨4, 1, 24, [.nils], 22, 0, [], .i64⟩ := rfl
theorem E.to72 : TyOk Try.prog 72 ⟨4, 1, 24, [.nils], 22, 0, [], .i64⟩ := tyOk_of_mkTy (by kernel_rfl)
theorem E.ty73 : E.ty 73 = some ⟨0, 1, 8, [.nilf], 0, 0, [], .i64⟩ := rfl
theorem E.to73 : TyOk Try.prog 73 ⟨0, 1, 8, [.nilf], 0, 0, [], .i64⟩ := tyOk_of_mkTy (by kernel_rfl)
theorem E.ty74 : E.ty 74 = some ⟨0, 1, 8, [.nilf], 0, 0, [], .i64⟩ := rfl
theorem E.to74 : TyOk Try.prog 74 ⟨0, 1, 8, [.nilf], 0, 0, [], .i64⟩ := tyOk_of_mkTy (by kernel_rfl)
theorem E.ty75 : E.ty 75 = some ⟨0, 1, 8, [.nilf], 0, 0, [], .i64⟩ := rfl
theorem E.to75 : TyOk Try.prog 75 ⟨0, 1, 8, [.nilf], 0, 0, [], .i64⟩ := tyOk_of_mkTy (by kernel_rfl)
theorem E.ty76 : E.ty 76 = some ⟨0, 1, 8, [.nilf], 0, 0, [], .i64⟩ := rfl
theorem E.to76 : TyOk Try.prog 76 ⟨0, 1, 8, [.nilf], 0, 0, [], .i64⟩ := tyOk_of_mkTy (by kernel_rfl)
theorem E.ty77 : E.ty 77 = some ⟨0, 1, 8, [.nilf], 0, 0, [], .i64⟩ := rfl
theorem E.to77 : TyOk Try.prog 77 ⟨0, 1, 8, [.nilf], 0, 0, [], .i64⟩ := tyOk_of_mkTy (by kernel_rfl)
theorem E.ty78 : E.ty 78 = some ⟨0, 1, 8, [.nilf], 0, 0, [], .i64⟩ := rfl
theorem E.to78 : TyOk Try.prog 78 ⟨0, 1, 8, [.nilf], 0, 0, [], .i64⟩ := tyOk_of_mkTy (by kernel_rfl)
theorem E.ty79 : E.ty 79 = some ⟨0, 1, 8, [.nilf], 0, 0, [], .i64⟩ := rfl
theorem E.to79 : TyOk Try.prog 79 ⟨0, 1, 8, [.nilf], 0, 0, [], .i64⟩ := tyOk_of_mkTy (by kernel_rfl)
theorem E.ty80 : E.ty 80 = some ⟨0, 1, 8, [.nilf], 0, 0, [], .i64⟩ := rfl
theorem E.to80 : TyOk Try.prog 80 ⟨0, 1, 8, [.nilf], 0, 0, [], .i64⟩ := tyOk_of_mkTy (by kernel_rfl)
theorem E.ty81 : E.ty 81 = some ⟨0, 1, 8, [.nilf], 0, 0, [], .i64⟩ := rfl
theorem E.to81 : TyOk Try.prog 81 ⟨0, 1, 8, [.nilf], 0, 0, [], .i64⟩ := tyOk_of_mkTy (by kernel_rfl)
theorem E.ty82 : E.ty 82 = some ⟨4, 1, 24, [.nils], 5, 0, [], .i64⟩ := rfl
theorem E.to82 : TyOk Try.prog 82 ⟨4, 1, 24, [.nils], 5, 0, [], .i64⟩ := tyOk_of_mkTy (by kernel_rfl)
theorem E.ty84 : E.ty 84 = some ⟨0, 1, 8, [.nilf], 0, 0, [], .i64⟩ := rfl
theorem E.to84 : TyOk Try.prog 84 ⟨0, 1, 8, [.nilf], 0, 0, [], .i64⟩ := tyOk_of_mkTy (by kernel_rfl)
theorem E.ty86 : E.ty 86 = some ⟨0, 1, 8, [.nilf], 0, 0, [], .i64⟩ := rfl
theorem E.to86 : TyOk Try.prog 86 ⟨0, 1, 8, [.nilf], 0, 0, [], .i64⟩ := tyOk_of_mkTy (by kernel_rfl)
theorem E.ty87 : E.ty 87 = some ⟨0, 1, 8, [.nilf], 0, 0, [], .i64⟩ := rfl
theorem E.to87 : TyOk Try.prog 87 ⟨0, 1, 8, [.nilf], 0, 0, [], .i64⟩ := tyOk_of_mkTy (by kernel_rfl)
theorem E.ty88 : E.ty 88 = some ⟨0, 1, 8, [.nilf], 0, 0, [], .i64⟩ := rfl
theorem E.to88 : TyOk Try.prog 88 ⟨0, 1, 8, [.nilf], 0, 0, [], .i64⟩ := tyOk_of_mkTy (by kernel_rfl)
theorem E.ty89 : E.ty 89 = some ⟨4, 1, 24, [.nils], 95, 0, [], .i64⟩ := rfl
theorem E.to89 : TyOk Try.prog 89 ⟨4, 1, 24, [.nils], 95, 0, [], .i64⟩ := tyOk_of_mkTy (by kernel_rfl)
theorem E.ty91 : E.ty 91 = some ⟨0, 1, 8, [.nilf], 0, 0, [], .i64⟩ := rfl
theorem E.to91 : TyOk Try.prog 91 ⟨0, 1, 8, [.nilf], 0, 0, [], .i64⟩ := tyOk_of_mkTy (by kernel_rfl)
theorem E.ty92 : E.ty 92 = some ⟨0, 1, 8, [.nilf], 0, 0, [], .i64⟩ := rfl
theorem E.to92 : TyOk Try.prog 92 ⟨0, 1, 8, [.nilf], 0, 0, [], .i64⟩ := tyOk_of_mkTy (by kernel_rfl)
theorem E.ty93 : E.ty 93 = some ⟨0, 1, 8, [.nilf], 0, 0, [], .i64⟩ := rfl
theorem E.to93 : TyOk Try.prog 93 ⟨0, 1, 8, [.nilf], 0, 0, [], .i64⟩ := tyOk_of_mkTy (by kernel_rfl)
theorem E.ty94 : E.ty 94 = some ⟨6, 2, 16, [(.int .i64 0), (.int .i64 0)], 0, 0, [(0, 3, 1), (1, 3, 1)], .i64⟩ := rfl
theorem E.to94 : TyOk Try.prog 94 ⟨6, 2, 16, [(.int .i64 0), (.int .i64 0)], 0, 0, [(0, 3, 1), (1, 3, 1)], .i64⟩ := tyOk_of_mkTy (by kernel_rfl)
theorem E.ty95 : E.ty 95 = some ⟨6, 2, 16, [(.int .i64 0), (.int .i64 0)], 0, 0, [(0, 3, 1), (1, 3, 1)], .i64⟩ := rfl
theorem E.to95 : TyOk Try.prog 95 ⟨6, 2, 16, [(.int .i64 0), (.int .i64 0)], 0, 0, [(0, 3, 1), (1, 3, 1)], .i64⟩ := tyOk_of_mkTy (by kernel_rfl)
theorem E.ty97 : E.ty 97 = some ⟨0, 1, 8, [.nilf], 0, 0, [], .i64⟩ := rfl
theorem E.to97 : TyOk Try.prog 97 ⟨0, 1, 8, [.nilf], 0, 0, [], .i64⟩ := tyOk_of_mkTy (by kernel_rfl)
theorem E.ty98 : E.ty 98 = some ⟨0, 1, 8, [.nilf], 0, 0, [], .i64⟩ := rfl
theorem E.to98 : TyOk Try.prog 98 ⟨0, 1, 8, [.nilf], 0, 0, [], .i64⟩ := tyOk_of_mkTy (by kernel_rfl)
theorem E.ty99 : E.ty 99 = some ⟨0, 1, 8, [.nilf], 0, 0, [], .i64⟩ := rfl
theorem E.to99 : TyOk Try.prog 99 ⟨0, 1, 8, [.nilf], 0, 0, [], .i64⟩ := tyOk_of_mkTy (by kernel_rfl)
theorem E.ty100 : E.ty 100 = some ⟨0, 1, 8, [.nilf], 0, 0, [], .i64⟩ := rfl
theorem E.to100 : TyOk Try.prog 100 ⟨0, 1, 8, [.nilf], 0, 0, [], .i64⟩ := tyOk_of_mkTy (by kernel_rfl)
theorem E.ty101 : E.ty 101 = some ⟨0, 1, 8, [.nilf], 0, 0, [], .i64⟩ := rfl
theorem E.to101 : TyOk Try.prog 101 ⟨0, 1, 8, [.nilf], 0, 0, [], .i64⟩ := tyOk_of_mkTy (by kernel_rfl)
theorem E.ty103 : E.ty 103 = some ⟨0, 1, 8, [.nilf], 0, 0, [], .i64⟩ := rfl
theorem E.to103 : TyOk Try.prog 103 ⟨0, 1, 8, [.nilf], 0, 0, [], .i64⟩ := tyOk_of_mkTy (by kernel_rfl)
theorem E.ty104 : E.ty 104 = some ⟨0, 1, 8, [.nilf], 0, 0, [], .i64⟩ := rfl
theorem E.to104 : TyOk Try.prog 104 ⟨0, 1, 8, [.nilf], 0, 0, [], .i64⟩ := tyOk_of_mkTy (by kernel_rfl)
theorem E.ty105 : E.ty 105 = some ⟨0, 1, 8, [.nilf], 0, 0, [], .i64⟩ := rfl
theorem E.to105 : TyOk Try.prog 105 ⟨0, 1, 8, [.nilf], 0, 0, [], .i64⟩ := tyOk_of_mkTy (by kernel_rfl)
theorem E.ty106 : E.ty 106 = some ⟨0, 1, 8, [.nilf], 0, 0, [], .i64⟩ := rfl
theorem E.to106 : TyOk Try.prog 106 ⟨0, 1, 8, [.nilf], 0, 0, [], .i64⟩ := tyOk_of_mkTy (by kernel_rfl)
theorem E.ty107 : E.ty 107 = some ⟨0, 1, 8, [.nilf], 0, 0, [], .i64⟩ := rfl
theorem E.to107 : TyOk Try.prog 107 ⟨0, 1, 8, [.nilf], 0, 0, [], .i64⟩ := tyOk_of_mkTy (by kernel_rfl)
theorem E.ty108 : E.ty 108 = some ⟨0, 1, 8, [.nilf], 0, 0, [], .i64⟩ := rfl
theorem E.to108 : TyOk Try.prog 108 ⟨0, 1, 8, [.nilf], 0, 0, [], .i64⟩ := tyOk_of_mkTy (by kernel_rfl)
theorem E.ty109 : E.ty 109 = some ⟨0, 1, 8, [.nilf], 0, 0, [], .i64⟩ := rfl
theorem E.to109 : TyOk Try.prog 109 ⟨0, 1, 8, [.nilf], 0, 0, [], .i64⟩ := tyOk_of_mkTy (by kernel_rfl)
theorem E.ty110 : E.ty 110 = some ⟨0, 1, 8, [.nilf], 0, 0, [], .i64⟩ := rfl
theorem E.to110 : TyOk Try.prog 110 ⟨0, 1, 8, [.nilf], 0, 0, [], .i64⟩ := tyOk_of_mkTy (by kernel_rfl)
theorem E.ty111 : E.ty 111 = some ⟨0, 1, 8, [.nilf], 0, 0, [], .i64⟩ := rfl
theorem E.to111 : TyOk Try.prog 111 ⟨0, 1, 8, [.nilf], 0, 0, [], .i64⟩ := tyOk_of_mkTy (by kernel_rfl)
theorem E.ty112 : E.ty 112 = some ⟨0, 1, 8, [.nilf], 0, 0, [], .i64⟩ := rfl
theorem E.to112 : TyOk Try.prog 112 ⟨0, 1, 8, [.nilf], 0, 0, [], .i64⟩ := tyOk_of_mkTy (by kernel_rfl)
theorem E.ty113 : E.ty 113 = some ⟨0, 1, 8, [.nilf], 0, 0, [], .i64⟩ := rfl
theorem E.to113 : TyOk Try.prog 113 ⟨0, 1, 8, [.nilf], 0, 0, [], .i64⟩ := tyOk_of_mkTy (by kernel_rfl)
theorem E.ty114 : E.ty 114 = some ⟨0, 1, 8, [.nilf], 0, 0, [], .i64⟩ := rfl
theorem E.to114 : TyOk Try.prog 114 ⟨0, 1, 8, [.nilf], 0, 0, [], .i64⟩ := tyOk_of_mkTy (by kernel_rfl)
theorem E.ty115 : E.ty 115 = some ⟨0, 1, 8, [.nilf], 0, 0, [], .i64⟩ := rfl
theorem E.to115 : TyOk Try.prog 115 ⟨0, 1, 8, [.nilf], 0, 0, [], .i64⟩ := tyOk_of_mkTy (by kernel_rfl)
theorem E.ty116 : E.ty 116 = some ⟨0, 1, 8, [.nilf], 0, 0, [], .i64⟩ := rfl
theorem E.to116 : TyOk Try.prog 116 ⟨0, 1, 8, [.nilf], 0, 0, [], .i64⟩ := tyOk_of_mkTy (by kernel_rfl)
theorem E.ty117 : E.ty 117 = some ⟨0, 1, 8, [.nilf], 0, 0, [], .i64⟩ := rfl
theorem E.to117 : TyOk Try.prog 117 ⟨0, 1, 8, [.nilf], 0, 0, [], .i64⟩ := tyOk_of_mkTy (by kernel_rfl)
theorem E.ty119 : E.ty 119 = some ⟨0, 1, 8, [.nilf], 0, 0, [], .i64⟩ := rfl
theorem E.to119 : TyOk Try.prog 119 ⟨0, 1, 8, [.nilf], 0, 0, [], .i64⟩ := tyOk_of_mkTy (by kernel_rfl)
theorem E.ty120 : E.ty 120 = some ⟨0, 1, 8, [.nilf], 0, 0, [], .i64⟩ := rfl
theorem E.to120 : TyOk Try.prog 120 ⟨0, 1, 8, [.nilf], 0, 0, [], .i64⟩ := tyOk_of_mkTy (by kernel_rfl)
theorem E.ty121 : E.ty 121 = some ⟨0, 1, 8, [.nilf], 0, 0, [], .i64⟩ := rfl
theorem E.to121 : TyOk Try.prog 121 ⟨0, 1, 8, [.nilf], 0, 0, [], .i64⟩ := tyOk_of_mkTy (by kernel_rfl)
theorem E.ty122 : E.ty 122 = some ⟨6, 2, 48, [.nils, .nils], 0, 0, [(0, 72, 1), (1, 72, 1)], .i64⟩ := rfl
theorem E.to122 : TyOk Try.prog 122 ⟨6, 2, 48, [.nils, .nils], 0, 0, [(0, 72, 1), (1, 72, 1)], .i64⟩ := tyOk_of_mkTy (by kernel_rfl)
theorem E.ty123 : E.ty 123 = some ⟨6, 2, 48, [.nils, .nils], 0, 0, [(0, 72, 1), (1, 72, 1)], .i64⟩ := rfl
theorem E.to123 : TyOk Try.prog 123 ⟨6, 2, 48, [.nils, .nils], 0, 0, [(0, 72, 1), (1, 72, 1)], .i64⟩ := tyOk_of_mkTy (by kernel_rfl)
theorem E.ty125 : E.ty 125 = some ⟨0, 1, 8, [.nilf], 0, 0, [], .i64⟩ := rfl
theorem E.to125 : TyOk Try.prog 125 ⟨0, 1, 8, [.nilf], 0, 0, [], .i64⟩ := tyOk_of_mkTy (by kernel_rfl)
theorem E.ty126 : E.ty 126 = some ⟨0, 1, 8, [.nilf], 0, 0, [], .i64⟩ := rfl
theorem E.to126 : TyOk Try.prog 126 ⟨0, 1, 8, [.nilf], 0, 0, [], .i64⟩ := tyOk_of_mkTy (by kernel_rfl)
theorem E.ty127 : E.ty 127 = some ⟨0, 1, 8, [.nilf], 0, 0, [], .i64⟩ := rfl
theorem E.to127 : TyOk Try.prog 127 ⟨0, 1, 8, [.nilf], 0, 0, [], .i64⟩ := tyOk_of_mkTy (by kernel_rfl)
theorem E.ty128 : E.ty 128 = some ⟨0, 1, 8, [.nilf], 0, 0, [], .i64⟩ := rfl
theorem E.to128 : TyOk Try.prog 128 ⟨0, 1, 8, [.nilf], 0, 0, [], .i64⟩ := tyOk_of_mkTy (by kernel_rfl)
theorem E.ty129 : E.ty 129 = some ⟨6, 2, 48, [.nils, .nils], 0, 0, [(0, 22, 1), (1, 22, 1)], .i64⟩ := rfl
theorem E.to129 : TyOk Try.prog 129 ⟨6, 2, 48, [.nils, .nils], 0, 0, [(0, 22, 1), (1, 22, 1)], .i64⟩ := tyOk_of_mkTy (by kernel_rfl)
theorem E.ty130 : E.ty 130 = some ⟨6, 2, 48, [.nils, .nils], 0, 0, [(0, 22, 1), (1, 22, 1)], .i64⟩ := rfl
theorem E.to130 : TyOk Try.prog 130 ⟨6, 2, 48, [.nils, .nils], 0, 0, [(0, 22, 1), (1, 22, 1)], .i64⟩ := tyOk_of_mkTy (by kernel_rfl)
theorem E.ty131 : E.ty 131 = some ⟨0, 1, 8, [.nilf], 0, 0, [], .i64⟩ := rfl
theorem E.to131 : TyOk Try.prog 131 ⟨0, 1, 8, [.nilf], 0, 0, [], .i64⟩ := tyOk_of_mkTy (by kernel_rfl)
theorem E.ty132 : E.ty 132 = some ⟨0, 1, 8, [.nilf], 0, 0, [], .i64⟩ := rfl
theorem E.to132 : TyOk Try.prog 132 ⟨0, 1, 8, [.nilf], 0, 0, [], .i64⟩ := tyOk_of_mkTy (by kernel_rfl)
theorem E.ty134 : E.ty 134 = some ⟨0, 1, 8, [.nilf], 0, 0, [], .i64⟩ := rfl
theorem E.to134 : TyOk Try.prog 134 ⟨0, 1, 8, [.nilf], 0, 0, [], .i64⟩ := tyOk_of_mkTy (by kernel_rfl)
theorem E.ty135 : E.ty 135 = some ⟨0, 1, 8, [.nilf], 0, 0, [], .i64⟩ := rfl
theorem E.to135 : TyOk Try.prog 135 ⟨0, 1, 8, [.nilf], 0, 0, [], .i64⟩ := tyOk_of_mkTy (by kernel_rfl)
theorem E.ty137 : E.ty 137 = some ⟨0, 1, 8, [.nilf], 0, 0, [], .i64⟩ := rfl
theorem E.to137 : TyOk Try.prog 137 ⟨0, 1, 8, [.nilf], 0, 0, [], .i64⟩ := tyOk_of_mkTy (by kernel_rfl)
theorem E.ty138 : E.ty 138 = some ⟨0, 1, 8, [.nilf], 0, 0, [], .i64⟩ := rfl
theorem E.to138 : TyOk Try.prog 138 ⟨0, 1, 8, [.nilf], 0, 0, [], .i64⟩ := tyOk_of_mkTy (by kernel_rfl)
theorem E.ty139 : E.ty 139 = some ⟨0, 1, 8, [.nilf], 0, 0, [], .i64⟩ := rfl
theorem E.to139 : TyOk Try.prog 139 ⟨0, 1, 8, [.nilf], 0, 0, [], .i64⟩ := tyOk_of_mkTy (by kernel_rfl)
theorem E.ty140 : E.ty 140 = some ⟨4, 1, 24, [.nils], 223, 0, [], .i64⟩ := rfl
theorem E.to140 : TyOk Try.prog 140 ⟨4, 1, 24, [.nils], 223, 0, [], .i64⟩ := tyOk_of_mkTy (by kernel_rfl)
theorem E.ty141 : E.ty 141 = some ⟨4, 1, 24, [.nils], 227, 0, [], .i64⟩ := rfl
theorem E.to141 : TyOk Try.prog 141 ⟨4, 1, 24, [.nils], 227, 0, [], .i64⟩ := tyOk_of_mkTy (by kernel_rfl)
theorem E.ty143 : E.ty 143 = some ⟨0, 1, 8, [.nilf], 0, 0, [], .i64⟩ := rfl
theorem E.to143 : TyOk Try.prog 143 ⟨0, 1, 8, [.nilf], 0, 0, [], .i64⟩ := tyOk_of_mkTy (by kernel_rfl)
theorem E.ty144 : E.ty 144 = some ⟨0, 1, 8, [.nilf], 0, 0, [], .i64⟩ := rfl
theorem E.to144 : TyOk Try.prog 144 ⟨0, 1, 8, [.nilf], 0, 0, [], .i64⟩ := tyOk_of_mkTy (by kernel_rfl)
theorem E.ty146 : E.ty 146 = some ⟨0, 1, 8, [.nilf], 0, 0, [], .i64⟩ := rfl
theorem E.to146 : TyOk Try.prog 146 ⟨0, 1, 8, [.nilf], 0, 0, [], .i64⟩ := tyOk_of_mkTy (by kernel_rfl)
theorem E.ty147 : E.ty 147 = some ⟨0, 1, 8, [.nilf], 0, 0, [], .i64⟩ := rfl
theorem E.to147 : TyOk Try.prog 147 ⟨0, 1, 8, [.nilf], 0, 0, [], .i64⟩ := tyOk_of_mkTy (by kernel_rfl)
theorem E.ty148 : E.ty 148 = some ⟨0, 1, 8, [.nilf], 0, 0, [], .i64⟩ := rfl
theorem E.to148 : TyOk Try.prog 148 ⟨0, 1, 8, [.nilf], 0, 0, [], .i64⟩ := tyOk_of_mkTy (by kernel_rfl)
theorem E.ty149 : E.ty 149 = some ⟨0, 1, 8, [.nilf], 0, 0, [], .i64⟩ := rfl
theorem E.to149 : TyOk Try.prog 149 ⟨0, 1, 8, [.nilf], 0, 0, [], .i64⟩ := tyOk_of_mkTy (by kernel_rfl)
theorem E.ty150 : E.ty 150 = some ⟨0, 1, 8, [.nilf], 0, 0, [], .i64⟩ := rfl
theorem E.to150 : TyOk Try.prog 150 ⟨0, 1, 8, [.nilf], 0, 0, [], .i64⟩ := tyOk_of_mkTy (by kernel_rfl)
theorem E.ty151 : E.ty 151 = some ⟨0, 1, 8, [.nilf], 0, 0, [], .i64⟩ := rfl
theorem E.to151 : TyOk Try.prog 151 ⟨0, 1, 8, [.nilf], 0, 0, [], .i64⟩ := tyOk_of_mkTy (by kernel_rfl)
theorem E.ty152 : E.ty 152 = some ⟨0, 1, 8, [.nilf], 0, 0, [], .i64⟩ := rfl
theorem E.to152 : TyOk Try.prog 152 ⟨0, 1, 8, [.nilf], 0, 0, [], .i64⟩ := tyOk_of_mkTy (by kernel_rfl)
theorem E.ty153 : E.ty 153 = some ⟨0, 1, 8, [.nilf], 0, 0, [], .i64⟩ := rfl
theorem E.to153 : TyOk Try.prog 153 ⟨0, 1, 8, [.nilf], 0, 0, [], .i64⟩ := tyOk_of_mkTy (by kernel_rfl)
theorem E.ty154 : E.ty 154 = some ⟨0, 1, 8, [.nilf], 0, 0, [], .i64⟩ := rfl
theorem E.to154 : TyOk Try.prog 154 ⟨0, 1, 8, [.nilf], 0, 0, [], .i64⟩ := tyOk_of_mkTy (by kernel_rfl)
theorem E.ty155 : E.ty 155 = some ⟨0, 1, 8, [.nilf], 0, 0, [], .i64⟩ := rfl
theorem E.to155 : TyOk Try.prog 155 ⟨0, 1, 8, [.nilf], 0, 0, [], .i64⟩ := tyOk_of_mkTy (by kernel_rfl)
theorem E.ty156 : E.ty 156 = some ⟨0, 1, 8, [.nilf], 0, 0, [], .i64⟩ := rfl
theorem E.to156 : TyOk Try.prog 156 ⟨0, 1, 8, [.nilf], 0, 0, [], .i64⟩ := tyOk_of_mkTy (by kernel_rfl)
theorem E.ty157 : E.ty 157 = some ⟨0, 1, 8, [.nilf], 0, 0, [], .i64⟩ := rfl
theorem E.to157 : TyOk Try.prog 157 ⟨0, 1, 8, [.nilf], 0, 0, [], .i64⟩ := tyOk_of_mkTy (by kernel_rfl)
theorem E.ty158 : E.ty 158 = some ⟨0, 1, 8, [.nilf], 0, 0, [], .i64⟩ := rfl
theorem E.to158 : TyOk Try.prog 158 ⟨0, 1, 8, [.nilf], 0, 0, [], .i64⟩ := tyOk_of_mkTy (by kernel_rfl)
theorem E.ty159 : E.ty 159 = some ⟨0, 1, 8, [.nilf], 0, 0, [], .i64⟩ := rfl
theorem E.to159 : TyOk Try.prog 159 ⟨0, 1, 8, [.nilf], 0, 0, [], .i64⟩ := tyOk_of_mkTy (by kernel_rfl)
theorem E.ty160 : E.ty 160 = some ⟨0, 1, 8, [.nilf], 0, 0, [], .i64⟩ := rfl
theorem E.to160 : TyOk Try.prog 160 ⟨0, 1, 8, [.nilf], 0, 0, [], .i64⟩ := tyOk_of_mkTy (by kernel_rfl)
theorem E.ty161 : E.ty 161 = some ⟨4, 1, 24, [.nils], 58, 0, [], .i64⟩ := rfl
theorem E.to161 : TyOk Try.prog 161 ⟨4, 1, 24, [.nils], 58, 0, [], .i64⟩ := tyOk_of_mkTy (by kernel_rfl)
theorem E.ty163 : E.ty 163 = some ⟨0, 1, 8, [.nilf], 0, 0, [], .i64⟩ := rfl
theorem E.to163 : TyOk Try.prog 163 ⟨0, 1, 8, [.nilf], 0, 0, [], .i64⟩ := tyOk_of_mkTy (by kernel_rfl)
theorem E.ty164 : E.ty 164 = some ⟨0, 1, 8, [.nilf], 0, 0, [], .i64⟩ := rfl
theorem E.to164 : TyOk Try.prog 164 ⟨0, 1, 8, [.nilf], 0, 0, [], .i64⟩ := tyOk_of_mkTy (by kernel_rfl)
theorem E.ty165 : E.ty 165 = some ⟨0, 1, 8, [.nilf], 0, 0, [], .i64⟩ := rfl
theorem E.to165 : TyOk Try.prog 165 ⟨0, 1, 8, [.nilf], 0, 0, [], .i64⟩ := tyOk_of_mkTy (by kernel_rfl)
theorem E.ty166 : E.ty 166 = some ⟨0, 1, 8, [.nilf], 0, 0, [], .i64⟩ := rfl
theorem E.to166 : TyOk Try.prog 166 ⟨0, 1, 8, [.nilf], 0, 0, [], .i64⟩ := tyOk_of_mkTy (by kernel_rfl)
theorem E.ty167 : E.ty 167 = some ⟨0, 1, 8, [.nilf], 0, 0, [], .i64⟩ := rfl
theorem E.to167 : TyOk Try.prog 167 ⟨0, 1, 8, [.nilf], 0, 0, [], .i64⟩ := tyOk_of_mkTy (by kernel_rfl)
theorem E.ty168 : E.ty 168 = some ⟨0, 1, 8, [.nilf], 0, 0, [], .i64⟩ := rfl
theorem E.to168 : TyOk Try.prog 168 ⟨0, 1, 8, [.nilf], 0, 0, [], .i64⟩ := tyOk_of_mkTy (by kernel_rfl)
theorem E.ty169 : E.ty 169 = some ⟨0, 1, 8, [.nilf], 0, 0, [], .i64⟩ := rfl
theorem E.to169 : TyOk Try.prog 169 ⟨0, 1, 8, [.nilf], 0, 0, [], .i64⟩ := tyOk_of_mkTy (by kernel_rfl)
theorem E.ty170 : E.ty 170 = some ⟨0, 1, 8, [.nilf], 0, 0, [], .i64⟩ := rfl
theorem E.to170 : TyOk Try.prog 170 ⟨0, 1, 8, [.nilf], 0, 0, [], .i64⟩ := tyOk_of_mkTy (by kernel_rfl)
theorem E.ty171 : E.ty 171 = some ⟨0, 1, 8, [.nilf], 0, 0, [], .i64⟩ := rfl
theorem E.to171 : TyOk Try.prog 171 ⟨0, 1, 8, [.nilf], 0, 0, [], .i64⟩ := tyOk_of_mkTy (by kernel_rfl)
theorem E.ty172 : E.ty 172 = some ⟨4, 1, 24, [.nils], 9, 0, [], .i64⟩ := rfl
theorem E.to172 : TyOk Try.prog 172 ⟨4, 1, 24, [.nils], 9, 0, [], .i64⟩ := tyOk_of_mkTy (by kernel_rfl)
theorem E.ty173 : E.ty 173 = some ⟨6, 2, 32, [(.int .i64 0), .nils], 0, 0, [(0, 3, 1), (1, 172, 1)], .i64⟩ := rfl
theorem E.to173 : TyOk Try.prog 173 ⟨6, 2, 32, [(.int .i64 0), .nils], 0, 0, [(0, 3, 1), (1, 172, 1)], .i64⟩ := tyOk_of_mkTy (by kernel_rfl)
theorem E.ty174 : E.ty 174 = some ⟨6, 2, 32, [(.int .i64 0), .nils], 0, 0, [(0, 3, 1), (1, 172, 1)], .i64⟩ := rfl
theorem E.to174 : TyOk Try.prog 174 ⟨6, 2, 32, [(.int .i64 0), .nils], 0, 0, [(0, 3, 1), (1, 172, 1)], .i64⟩ := tyOk_of_mkTy (by kernel_rfl)
theorem E.ty176 : E.ty 176 = some ⟨0, 1, 8, [.nilf], 0, 0, [], .i64⟩ := rfl
theorem E.to176 : TyOk Try.prog 176 ⟨0, 1, 8, [.nilf], 0, 0, [], .i64⟩ := tyOk_of_mkTy (by kernel_rfl)
theorem E.ty177 : E.ty 177 = some ⟨0, 1, 8, [.nilf], 0, 0, [], .i64⟩ := rfl
theorem E.to177 : TyOk Try.prog 177 ⟨0, 1, 8, [.nilf], 0, 0, [], .i64⟩ := tyOk_of_mkTy (by kernel_rfl)
theorem E.ty178 : E.ty 178 = some ⟨0, 1, 8, [.nilf], 0, 0, [], .i64⟩ := rfl
theorem E.to178 : TyOk Try.prog 178 ⟨0, 1, 8, [.nilf], 0, 0, [], .i64⟩ := tyOk_of_mkTy (by kernel_rfl)
theorem E.ty179 : E.ty 179 = some ⟨1, 1, 4, [(.int .u32 0)], 0, 0, [], .u32⟩ := rfl
theorem E.to179 : TyOk Try.prog 179 ⟨1, 1, 4, [(.int .u32 0)], 0, 0, [], .u32⟩ := tyOk_of_mkTy (by kernel_rfl)
theorem E.ty180 : E.ty 180 = some ⟨0, 1, 8, [.nilf], 0, 0, [], .i64⟩ := rfl
theorem E.to180 : TyOk Try.prog 180 ⟨0, 1, 8, [.nilf], 0, 0, [], .i64⟩ := tyOk_of_mkTy (by kernel_rfl)
theorem E.ty181 : E.ty 181 = some ⟨0, 1, 8, [.nilf], 0, 0, [], .i64⟩ := rfl
theorem E.to181 : TyOk Try.prog 181 ⟨0, 1, 8, [.nilf], 0, 0, [], .i64⟩ := tyOk_of_mkTy (by kernel_rfl)
theorem E.ty182 : E.ty 182 = some ⟨0, 1, 8, [.nilf], 0, 0, [], .i64⟩ := rfl
theorem E.to182 : TyOk Try.prog 182 ⟨0, 1, 8, [.nilf], 0, 0, [], .i64⟩ := tyOk_of_mkTy (by kernel_rfl)
theorem E.ty183 : E.ty 183 = some ⟨0, 1, 8, [.nilf], 0, 0, [], .i64⟩ := rfl
theorem E.to183 : TyOk Try.prog 183 ⟨0, 1, 8, [.nilf], 0, 0, [], .i64⟩ := tyOk_of_mkTy (by kernel_rfl)
theorem E.ty184 : E.ty 184 = some ⟨0, 1, 8, [.nilf], 0, 0, [], .i64⟩ := rfl
theorem E.to184 : TyOk Try.prog 184 ⟨0, 1, 8, [.nilf], 0, 0, [], .i64⟩ := tyOk_of_mkTy (by kernel_rfl)
theorem E.ty185 : E.ty 185 = some ⟨0, 1, 8, [.nilf], 0, 0, [], .i64⟩ := rfl
theorem E.to185 : TyOk Try.prog 185 ⟨0, 1, 8, [.nilf], 0, 0, [], .i64⟩ := tyOk_of_mkTy (by kernel_rfl)
theorem E.ty186 : E.ty 186 = some ⟨0, 1, 8, [.nilf], 0, 0, [], .i64⟩ := rfl
theorem E.to186 : TyOk Try.prog 186 ⟨0, 1, 8, [.nilf], 0, 0, [], .i64⟩ := tyOk_of_mkTy (by kernel_rfl)
theorem E.ty187 : E.ty 187 = some ⟨0, 1, 8, [.nilf], 0, 0, [], .i64⟩ := rfl
theorem E.to187 : TyOk Try.prog 187 ⟨0, 1, 8, [.nilf], 0, 0, [], .i64⟩ := tyOk_of_mkTy (by kernel_rfl)
theorem E.ty188 : E.ty 188 = some ⟨0, 1, 8, [.nilf], 0, 0, [], .i64⟩ := rfl
theorem E.to188 : TyOk Try.prog 188 ⟨0, 1, 8, [.nilf], 0, 0, [], .i64⟩ := tyOk_of_mkTy (by kernel_rfl)
theorem E.ty189 : E.ty 189 = some ⟨0, 1, 8, [.nilf], 0, 0, [], .i64⟩ := rfl
theorem E.to189 : TyOk Try.prog 189 ⟨0, 1, 8, [.nilf], 0, 0, [], .i64⟩ := tyOk_of_mkTy (by kernel_rfl)
theorem E.ty191 : E.ty 191 = some ⟨0, 1, 8, [.nilf], 0, 0, [], .i64⟩ := rfl
theorem E.to191 : TyOk Try.prog 191 ⟨0, 1, 8, [.nilf], 0, 0, [], .i64⟩ := tyOk_of_mkTy (by kernel_rfl)
theorem E.ty192 : E.ty 192 = some ⟨0, 1, 8, [.nilf], 0, 0, [], .i64⟩ := rfl
theorem E.to192 : TyOk Try.prog 192 ⟨0, 1, 8, [.nilf], 0, 0, [], .i64⟩ := tyOk_of_mkTy (by kernel_rfl)
theorem E.ty193 : E.ty 193 = some ⟨0, 1, 8, [.nilf], 0, 0, [], .i64⟩ := rfl
theorem E.to193 : TyOk Try.prog 193 ⟨0, 1, 8, [.nilf], 0, 0, [], .i64⟩ := tyOk_of_mkTy (by kernel_rfl)
theorem E.ty194 : E.ty 194 = some ⟨0, 1, 8, [.nilf], 0, 0, [], .i64⟩ := rfl
theorem E.to194 : TyOk Try.prog 194 ⟨0, 1, 8, [.nilf], 0, 0, [], .i64⟩ := tyOk_of_mkTy (by kernel_rfl)
theorem E.ty195 : E.ty 195 = some ⟨0, 1, 8, [.nilf], 0, 0, [], .i64⟩ := rfl
theorem E.to195 : TyOk Try.prog 195 ⟨0, 1, 8, [.nilf], 0, 0, [], .i64⟩ := tyOk_of_mkTy (by kernel_rfl)
theorem E.ty196 : E.ty 196 = some ⟨0, 1, 8, [.nilf], 0, 0, [], .i64⟩ := rfl
theorem E.to196 : TyOk Try.prog 196 ⟨0, 1, 8, [.nilf], 0, 0, [], .i64⟩ := tyOk_of_mkTy (by kernel_rfl)
theorem E.ty197 : E.ty 197 = some ⟨0, 1, 8, [.nilf], 0, 0, [], .i64⟩ := rfl
theorem E.to197 : TyOk Try.prog 197 ⟨0, 1, 8, [.nilf], 0, 0, [], .i64⟩ := tyOk_of_mkTy (by kernel_rfl)
theorem E.ty198 : E.ty 198 = some ⟨0, 1, 8, [.nilf], 0, 0, [], .i64⟩ := rfl
theorem E.to198 : TyOk Try.prog 198 ⟨0, 1, 8, [.nilf], 0, 0, [], .i64⟩ := tyOk_of_mkTy (by kernel_rfl)
theorem E.ty199 : E.ty 199 = some ⟨0, 1, 8, [.nilf], 0, 0, [], .i64⟩ := rfl
theorem E.to199 : TyOk Try.prog 199 ⟨0, 1, 8, [.nilf], 0, 0, [], .i64⟩ := tyOk_of_mkTy (by kernel_rfl)
theorem E.ty200 : E.ty 200 = some ⟨0, 1, 8, [.nilf], 0, 0, [], .i64⟩ := rfl
theorem E.to200 : TyOk Try.prog 200 ⟨0, 1, 8, [.nilf], 0, 0, [], .i64⟩ := tyOk_of_mkTy (by kernel_rfl)
theorem E.ty201 : E.ty 201 = some ⟨1, 1, 8, [(.int .u64 0)], 0, 0, [], .u64⟩ := rfl
theorem E.to201 : TyOk Try.prog 201 ⟨1, 1, 8, [(.int .u64 0)], 0, 0, [], .u64⟩ := tyOk_of_mkTy (by kernel_rfl)
theorem E.ty202 : E.ty 202 = some ⟨6, 1, 24, [.nils], 0, 0, [(0, 22, 1)], .i64⟩ := rfl
theorem E.to202 : TyOk Try.prog 202 ⟨6, 1, 24, [.nils], 0, 0, [(0, 22, 1)], .i64⟩ := tyOk_of_mkTy (by kernel_rfl)
theorem E.ty203 : E.ty 203 = some ⟨6, 1, 24, [.nils], 0, 0, [(0, 22, 1)], .i64⟩ := rfl
theorem E.to203 : TyOk Try.prog 203 ⟨6, 1, 24, [.nils], 0, 0, [(0, 22, 1)], .i64⟩ := tyOk_of_mkTy (by kernel_rfl)
theorem E.ty204 : E.ty 204 = some ⟨0, 1, 8, [.nilf], 0, 0, [], .i64⟩ := rfl
theorem E.to204 : TyOk Try.prog 204 ⟨0, 1, 8, [.nilf], 0, 0, [], .i64⟩ := tyOk_of_mkTy (by kernel_rfl)
theorem E.ty205 : E.ty 205 = some ⟨0, 1, 8, [.nilf], 0, 0, [], .i64⟩ := rfl
theorem E.to205 : TyOk Try.prog 205 ⟨0, 1, 8, [.nilf], 0, 0, [], .i64⟩ := tyOk_of_mkTy (by kernel_rfl)
theorem E.ty206 : E.ty 206 = some ⟨0, 1, 8, [.nilf], 0, 0, [], .i64⟩ := rfl
theorem E.to206 : TyOk Try.prog 206 ⟨0, 1, 8, [.nilf], 0, 0, [], .i64⟩ := tyOk_of_mkTy (by kernel_rfl)
theorem E.ty207 : E.ty 207 = some ⟨0, 1, 8, [.nilf], 0, 0, [], .i64⟩ := rfl
theorem E.to207 : TyOk Try.prog 207 ⟨0, 1, 8, [.nilf], 0, 0, [], .i64⟩ := tyOk_of_mkTy (by kernel_rfl)
theorem E.ty208 : E.ty 208 = some ⟨0, 1, 8, [.nilf], 0, 0, [], .i64⟩ := rfl
theorem E.to208 : TyOk Try.prog 208 ⟨0, 1, 8, [.nilf], 0, 0, [], .i64⟩ := tyOk_of_mkTy (by kernel_rfl)
theorem E.ty209 : E.ty 209 = some ⟨0, 1, 8, [.nilf], 0, 0, [], .i64⟩ := rfl
theorem E.to209 : TyOk Try.prog 209 ⟨0, 1, 8, [.nilf], 0, 0, [], .i64⟩ := tyOk_of_mkTy (by kernel_rfl)
theorem E.ty210 : E.ty 210 = some ⟨0, 1, 8, [.nilf], 0, 0, [], .i64⟩ := rfl
theorem E.to210 : TyOk Try.prog 210 ⟨0, 1, 8, [.nilf], 0, 0, [], .i64⟩ := tyOk_of_mkTy (by kernel_rfl)
theorem E.ty211 : E.ty 211 = some ⟨4, 1, 24, [.nils], 26, 0, [], .i64⟩ := rfl
theorem E.to211 : TyOk Try.prog 211 ⟨4, 1, 24, [.nils], 26, 0, [], .i64⟩ := tyOk_of_mkTy (by kernel_rfl)
theorem E.ty212 : E.ty 212 = some ⟨0, 1, 8, [.nilf], 0, 0, [], .i64⟩ := rfl
theorem E.to212 : TyOk Try.prog 212 ⟨0, 1, 8, [.nilf], 0, 0, [], .i64⟩ := tyOk_of_mkTy (by kernel_rfl)
theorem E.ty213 : E.ty 213 = some ⟨0, 1, 8, [.nilf], 0, 0, [], .i64⟩ := rfl
theorem E.to213 : TyOk Try.prog 213 ⟨0, 1, 8, [.nilf], 0, 0, [], .i64⟩ := tyOk_of_mkTy (by kernel_rfl)
theorem E.ty214 : E.ty 214 = some ⟨0, 1, 8, [.nilf], 0, 0, [], .i64⟩ := rfl
theorem E.to214 : TyOk Try.prog 214 ⟨0, 1, 8, [.nilf], 0, 0, [], .i64⟩ := tyOk_of_mkTy (by kernel_rfl)
theorem E.ty215 : E.ty 215 = some ⟨0, 1, 8, [.nilf], 0, 0, [], .i64⟩ := rfl
theorem E.to215 : TyOk Try.prog 215 ⟨0, 1, 8, [.nilf], 0, 0, [], .i64⟩ := tyOk_of_mkTy (by kernel_rfl)
theorem E.ty216 : E.ty 216 = some ⟨0, 1, 8, [.nilf], 0, 0, [], .i64⟩ := rfl
theorem E.to216 : TyOk Try.prog 216 ⟨0, 1, 8, [.nilf], 0, 0, [], .i64⟩ := tyOk_of_mkTy (by kernel_rfl)
theorem E.ty217 : E.ty 217 = some ⟨0, 1, 8, [.nilf], 0, 0, [], .i64⟩ := rfl
theorem E.to217 : TyOk Try.prog 217 ⟨0, 1, 8, [.nilf], 0, 0, [], .i64⟩ := tyOk_of_mkTy (by kernel_rfl)
theorem E.ty219 : E.ty 219 = some ⟨0, 1, 8, [.nilf], 0, 0, [], .i64⟩ := rfl
theorem E.to219 : TyOk Try.prog 219 ⟨0, 1, 8, [.nilf], 0, 0, [], .i64⟩ := tyOk_of_mkTy (by kernel_rfl)
theorem E.ty220 : E.ty 220 = some ⟨0, 1, 8, [.nilf], 0, 0, [], .i64⟩ := rfl
theorem E.to220 : TyOk Try.prog 220 ⟨0, 1, 8, [.nilf], 0, 0, [], .i64⟩ := tyOk_of_mkTy (by kernel_rfl)
theorem E.ty221 : E.ty 221 = some ⟨4, 1, 24, [.nils], 225, 0, [], .i64⟩ := rfl
theorem E.to221 : TyOk Try.prog 221 ⟨4, 1, 24, [.nils], 225, 0, [], .i64⟩ := tyOk_of_mkTy (by kernel_rfl)
theorem E.ty222 : E.ty 222 = some ⟨6, 4, 24, [(.int .i64 0), (.int .i64 0), (.bool false), (.bool false)], 0, 0, [(0, 3, 1), (1, 3, 1), (2, 4, 1), (3, 4, 1)], .i64⟩ := rfl
theorem E.to222 : TyOk Try.prog 222 ⟨6, 4, 24, [(.int .i64 0), (.int .i64 0), (.bool false), (.bool false)], 0, 0, [(0, 3, 1), (1, 3, 1), (2, 4, 1), (3, 4, 1)], .i64⟩ := tyOk_of_mkTy (by kernel_rfl)
theorem E.ty223 : E.ty 223 = some ⟨6, 4, 24, [(.int .i64 0), (.int .i64 0), (.bool false), (.bool false)], 0, 0, [(0, 3, 1), (1, 3, 1), (2, 4, 1), (3, 4, 1)], .i64⟩ := rfl
theorem E.to223 : TyOk Try.prog 223 ⟨6, 4, 24, [(.int .i64 0), (.int .i64 0), (.bool false), (.bool false)], 0, 0, [(0, 3, 1), (1, 3, 1), (2, 4, 1), (3, 4, 1)], .i64⟩ := tyOk_of_mkTy (by kernel_rfl)
theorem E.ty224 : E.ty 224 = some ⟨6, 5, 32, [(.int .i64 0), (.int .i64 0), (.bool false), (.bool false), (.int .i64 0)], 0, 0, [(0, 223, 4), (4, 3, 1)], .i64⟩ := rfl
theorem E.to224 : TyOk Try.prog 224 ⟨6, 5, 32, [(.int .i64 0), (.int .i64 0), (.bool false), (.bool false), (.int .i64 0)], 0, 0, [(0, 223, 4), (4, 3, 1)], .i64⟩ := tyOk_of_mkTy (by kernel_rfl)
theorem E.ty225 : E.ty 225 = some ⟨6, 5, 32, [(.int .i64 0), (.int .i64 0), (.bool false), (.bool false), (.int .i64 0)], 0, 0, [(0, 223, 4), (4, 3, 1)], .i64⟩ := rfl
theorem E.to225 : TyOk Try.prog 225 ⟨6, 5, 32, [(.int .i64 0), (.int .i64 0), (.bool false), (.bool false), (.int .i64 0)], 0, 0, [(0, 223, 4), (4, 3, 1)], .i64⟩ := tyOk_of_mkTy (by kernel_rfl)
theorem E.ty226 : E.ty 226 = some ⟨6, 3, 24, [(.int .i64 0), (.int .i64 0), (.int .i64 0)], 0, 0, [(0, 3, 1), (1, 3, 1), (2, 3, 1)], .i64⟩ := rfl
theorem E.to226 : TyOk Try.prog 226 ⟨6, 3, 24, [(.int .i64 0), (.int .i64 0), (.int .i64 0)], 0, 0, [(0, 3, 1), (1, 3, 1), (2, 3, 1)], .i64⟩ := tyOk_of_mkTy (by kernel_rfl)
theorem E.ty227 : E.ty 227 = some ⟨6, 3, 24, [(.int .i64 0), (.int .i64 0), (.int .i64 0)], 0, 0, [(0, 3, 1), (1, 3, 1), (2, 3, 1)], .i64⟩ := rfl
theorem E.to227 : TyOk Try.prog 227 ⟨6, 3, 24, [(.int .i64 0), (.int .i64 0), (.int .i64 0)], 0, 0, [(0, 3, 1), (1, 3, 1), (2, 3, 1)], .i64⟩ := tyOk_of_mkTy (by kernel_rfl)
theorem E.ty228 : E.ty 228 = some ⟨0, 1, 8, [.nilf], 0, 0, [], .i64⟩ := rfl
theorem E.to228 : TyOk Try.prog 228 ⟨0, 1, 8, [.nilf], 0, 0, [], .i64⟩ := tyOk_of_mkTy (by kernel_rfl)
theorem E.ty229 : E.ty 229 = some ⟨0, 1, 8, [.nilf], 0, 0, [], .i64⟩ := rfl
theorem E.to229 : TyOk Try.prog 229 ⟨0, 1, 8, [.nilf], 0, 0, [], .i64⟩ := tyOk_of_mkTy (by kernel_rfl)
theorem E.ty230 : E.ty 230 = some ⟨0, 1, 8, [.nilf], 0, 0, [], .i64⟩ := rfl
theorem E.to230 : TyOk Try.prog 230 ⟨0, 1, 8, [.nilf], 0, 0, [], .i64⟩ := tyOk_of_mkTy (by kernel_rfl)
theorem E.ty231 : E.ty 231 = some ⟨7, 1, 8, [.nilp], 223, 0, [], .i64⟩ := rfl
theorem E.to231 : TyOk Try.prog 231 ⟨7, 1, 8, [.nilp], 223, 0, [], .i64⟩ := tyOk_of_mkTy (by kernel_rfl)
theorem E.ty232 : E.ty 232 = some ⟨0, 1, 8, [.nilf], 0, 0, [], .i64⟩ := rfl
theorem E.to232 : TyOk Try.prog 232 ⟨0, 1, 8, [.nilf], 0, 0, [], .i64⟩ := tyOk_of_mkTy (by kernel_rfl)
theorem E.ty233 : E.ty 233 = some ⟨0, 1, 8, [.nilf], 0, 0, [], .i64⟩ := rfl
theorem E.to233 : TyOk Try.prog 233 ⟨0, 1, 8, [.nilf], 0, 0, [], .i64⟩ := tyOk_of_mkTy (by kernel_rfl)
theorem E.ty234 : E.ty 234 = some ⟨5, 10, 10, (List.replicate 10 (.bool false)), 4, 10, [], .i64⟩ := rfl
theorem E.to234 : TyOk Try.prog 234 ⟨5, 10, 10, (List.replicate 10 (.bool false)), 4, 10, [], .i64⟩ := tyOk_of_mkTy (by kernel_rfl)
theorem E.ty235 : E.ty 235 = some ⟨0, 1, 8, [.nilf], 0, 0, [], .i64⟩ := rfl
theorem E.to235 : TyOk Try.prog 235 ⟨0, 1, 8, [.nilf], 0, 0, [], .i64⟩ := tyOk_of_mkTy (by kernel_rfl)
theorem E.ty236 : E.ty 236 = some ⟨0, 1, 8, [.nilf], 0, 0, [], .i64⟩ := rfl
theorem E.to236 : TyOk Try.prog 236 ⟨0, 1, 8, [.nilf], 0, 0, [], .i64⟩ := tyOk_of_mkTy (by kernel_rfl)
theorem E.ty237 : E.ty 237 = some ⟨0, 1, 8, [.nilf], 0, 0, [], .i64⟩ := rfl
theorem E.to237 : TyOk Try.prog 237 ⟨0, 1, 8, [.nilf], 0, 0, [], .i64⟩ := tyOk_of_mkTy (by kernel_rfl)
theorem E.ty238 : E.ty 238 = some ⟨0, 1, 8, [.nilf], 0, 0, [], .i64⟩ := rfl
theorem E.to238 : TyOk Try.prog 238 ⟨0, 1, 8, [.nilf], 0, 0, [], .i64⟩ := tyOk_of_mkTy (by kernel_rfl)
theorem E.ty239 : E.ty 239 = some ⟨0, 1, 8, [.nilf], 0, 0, [], .i64⟩ := rfl
theorem E.to239 : TyOk Try.prog 239 ⟨0, 1, 8, [.nilf], 0, 0, [], .i64⟩ := tyOk_of_mkTy (by kernel_rfl)
theorem E.ty240 : E.ty 240 = some ⟨1, 1, 8, [(.int .u64 0)], 0, 0, [], .u64⟩ := rfl
theorem E.to240 : TyOk Try.prog 240 ⟨1, 1, 8, [(.int .u64 0)], 0, 0, [], .u64⟩ := tyOk_of_mkTy (by kernel_rfl)
theorem E.ty241 : E.ty 241 = some ⟨0, 1, 8, [.nilf], 0, 0, [], .i64⟩ := rfl
theorem E.to241 : TyOk Try.prog 241 ⟨0, 1, 8, [.nilf], 0, 0, [], .i64⟩ := tyOk_of_mkTy (by kernel_rfl)
theorem E.ty242 : E.ty 242 = some ⟨0, 1, 8, [.nilf], 0, 0, [], .i64⟩ := rfl
theorem E.to242 : TyOk Try.prog 242 ⟨0, 1, 8, [.nilf], 0, 0, [], .i64⟩ := tyOk_of_mkTy (by kernel_rfl)
theorem E.ty243 : E.ty 243 = some ⟨0, 1, 8, [.nilf], 0, 0, [], .i64⟩ := rfl
theorem E.to243 : TyOk Try.prog 243 ⟨0, 1, 8, [.nilf], 0, 0, [], .i64⟩ := tyOk_of_mkTy (by kernel_rfl)
theorem E.ty244 : E.ty 244 = some ⟨4, 1, 24, [.nils], 172, 0, [], .i64⟩ := rfl
theorem E.to244 : TyOk Try.prog 244 ⟨4, 1, 24, [.nils], 172, 0, [], .i64⟩ := tyOk_of_mkTy (by kernel_rfl)
theorem E.ty245 : E.ty 245 = some ⟨0, 1, 8, [.nilf], 0, 0, [], .i64⟩ := rfl
theorem E.to245 : TyOk Try.prog 245 ⟨0, 1, 8, [.nilf], 0, 0, [], .i64⟩ := tyOk_of_mkTy (by kernel_rfl)
theorem E.ty246 : E.ty 246 = some ⟨0, 1, 8, [.nilf], 0, 0, [], .i64⟩ := rfl
theorem E.to246 : TyOk Try.prog 246 ⟨0, 1, 8, [.nilf], 0, 0, [], .i64⟩ := tyOk_of_mkTy (by kernel_rfl)
theorem E.ty247 : E.ty 247 = some ⟨0, 1, 8, [.nilf], 0, 0, [], .i64⟩ := rfl
theorem E.to247 : TyOk Try.prog 247 ⟨0, 1, 8, [.nilf], 0, 0, [], .i64⟩ := tyOk_of_mkTy (by kernel_rfl)
theorem E.ty248 : E.ty 248 = some ⟨5, 41, 328, (List.replicate 41 (.int .i64 0)), 3, 41, [], .i64⟩ := rfl
theorem E.to248 : TyOk Try.prog 248 ⟨5, 41, 328, (List.replicate 41 (.int .i64 0)), 3, 41, [], .i64⟩ := tyOk_of_mkTy (by kernel_rfl)
theorem E.ty249 : E.ty 249 = some ⟨0, 1, 8, [.undef], 0, 0, [], .i64⟩ := rfl
theorem E.to249 : TyOk Try.prog 249 ⟨0, 1, 8, [.undef], 0, 0, [], .i64⟩ := tyOk_of_mkTy (by kernel_rfl)
theorem E.ty251 : E.ty 251 = some ⟨5, 6, 48, (List.replicate 6 (.int .i64 0)), 3, 6, [], .i64⟩ := rfl
theorem E.to251 : TyOk Try.prog 251 ⟨5, 6, 48, (List.replicate 6 (.int .i64 0)), 3, 6, [], .i64⟩ := tyOk_of_mkTy (by kernel_rfl)
theorem E.ty252 : E.ty 252 = some ⟨0, 1, 8, [.nilf], 0, 0, [], .i64⟩ := rfl
theorem E.to252 : TyOk Try.prog 252 ⟨0, 1, 8, [.nilf], 0, 0, [], .i64⟩ := tyOk_of_mkTy (by kernel_rfl)
theorem E.ty253 : E.ty 253 = some ⟨0, 1, 8, [.undef], 0, 0, [], .i64⟩ := rfl
theorem E.to253 : TyOk Try.prog 253 ⟨0, 1, 8, [.undef], 0, 0, [], .i64⟩ := tyOk_of_mkTy (by kernel_rfl)
theorem E.ty254 : E.ty 254 = some ⟨0, 1, 8, [.nilf], 0, 0, [], .i64⟩ := rfl
theorem E.to254 : TyOk Try.prog 254 ⟨0, 1, 8, [.nilf], 0, 0, [], .i64⟩ := tyOk_of_mkTy (by kernel_rfl)
theorem E.ty255 : E.ty 255 = some ⟨0, 1, 8, [.nilf], 0, 0, [], .i64⟩ := rfl
theorem E.to255 : TyOk Try.prog 255 ⟨0, 1, 8, [.nilf], 0, 0, [], .i64⟩ := tyOk_of_mkTy (by kernel_rfl)
theorem E.ty256 : E.ty 256 = some ⟨0, 1, 8, [.nilf], 0, 0, [], .i64⟩ := rfl
theorem E.to256 : TyOk Try.prog 256 ⟨0, 1, 8, [.nilf], 0, 0, [], .i64⟩ := tyOk_of_mkTy (by kernel_rfl)
theorem E.ty257 : E.ty 257 = some ⟨0, 1, 8, [.nilf], 0, 0, [], .i64⟩ := rfl
theorem E.to257 : TyOk Try.prog 257 ⟨0, 1, 8, [.nilf], 0, 0, [], .i64⟩ := tyOk_of_mkTy (by kernel_rfl)
theorem E.ty258 : E.ty 258 = some ⟨0, 1, 8, [.nilf], 0, 0, [], .i64⟩ := rfl
theorem E.to258 : TyOk Try.prog 258 ⟨0, 1, 8, [.nilf], 0, 0, [], .i64⟩ := tyOk_of_mkTy (by kernel_rfl)
theorem E.ty259 : E.ty 259 = some ⟨0, 1, 8, [.nilf], 0, 0, [], .i64⟩ := rfl
theorem E.to259 : TyOk Try.prog 259 ⟨0, 1, 8, [.nilf], 0, 0, [], .i64⟩ := tyOk_of_mkTy (by kernel_rfl)
theorem E.ty260 : E.ty 260 = some ⟨0, 1, 8, [.nilf], 0, 0, [], .i64⟩ := rfl
theorem E.to260 : TyOk Try.prog 260 ⟨0, 1, 8, [.nilf], 0, 0, [], .i64⟩ := tyOk_of_mkTy (by kernel_rfl)
theorem E.ty261 : E.ty 261 = some ⟨7, 1, 8, [.nilp], 225, 0, [], .i64⟩ := rfl
theorem E.to261 : TyOk Try.prog 261 ⟨7, 1, 8, [.nilp], 225, 0, [], .i64⟩ := tyOk_of_mkTy (by kernel_rfl)
theorem E.ty262 : E.ty 262 = some ⟨0, 1, 8, [.nilf], 0, 0, [], .i64⟩ := rfl
theorem E.to262 : TyOk Try.prog 262 ⟨0, 1, 8, [.nilf], 0, 0, [], .i64⟩ := tyOk_of_mkTy (by kernel_rfl)
theorem E.ty263 : E.ty 263 = some ⟨0, 1, 8, [.nilf], 0, 0, [], .i64⟩ := rfl
theorem E.to263 : TyOk Try.prog 263 ⟨0, 1, 8, [.nilf], 0, 0, [], .i64⟩ := tyOk_of_mkTy (by kernel_rfl)
theorem E.ty264 : E.ty 264 = some ⟨1, 1, 8, [(.int .i64 0)], 0, 0, [], .i64⟩ := rfl
theorem E.to264 : TyOk Try.prog 264 ⟨1, 1, 8, [(.int .i64 0)], 0, 0, [], .i64⟩ := tyOk_of_mkTy (by kernel_rfl)
theorem E.ty266 : E.ty 266 = some ⟨0, 1, 8, [.nilf], 0, 0, [], .i64⟩ := rfl
theorem E.to266 : TyOk Try.prog 266 ⟨0, 1, 8, [.nilf], 0, 0, [], .i64⟩ := tyOk_of_mkTy (by kernel_rfl)
theorem E.ty267 : E.ty 267 = some ⟨0, 1, 8, [.nilf], 0, 0, [], .i64⟩ := rfl
theorem E.to267 : TyOk Try.prog 267 ⟨0, 1, 8, [.nilf], 0, 0, [], .i64⟩ := tyOk_of_mkTy (by kernel_rfl)
theorem E.ty268 : E.ty 268 = some ⟨0, 1, 8, [.nilf], 0, 0, [], .i64⟩ := rfl
theorem E.to268 : TyOk Try.prog 268 ⟨0, 1, 8, [.nilf], 0, 0, [], .i64⟩ := tyOk_of_mkTy (by kernel_rfl)
theorem E.ty269 : E.ty 269 = some ⟨0, 1, 8, [.nilf], 0, 0, [], .i64⟩ := rfl
theorem E.to269 : TyOk Try.prog 269 ⟨0, 1, 8, [.nilf], 0, 0, [], .i64⟩ := tyOk_of_mkTy (by kernel_rfl)
theorem E.ty270 : E.ty 270 = some ⟨0, 1, 8, [.nilf], 0, 0, [], .i64⟩ := rfl
theorem E.to270 : TyOk Try.prog 270 ⟨0, 1, 8, [.nilf], 0, 0, [], .i64⟩ := tyOk_of_mkTy (by kernel_rfl)
theorem E.ty271 : E.ty 271 = some ⟨0, 1, 8, [.nilf], 0, 0, [], .i64⟩ := rfl
theorem E.to271 : TyOk Try.prog 271 ⟨0, 1, 8, [.nilf], 0, 0, [], .i64⟩ := tyOk_of_mkTy (by kernel_rfl)
theorem E.ty272 : E.ty 272 = some ⟨0, 1, 8, [.nilf], 0, 0, [], .i64⟩ := rfl
theorem E.to272 : TyOk Try.prog 272 ⟨0, 1, 8, [.nilf], 0, 0, [], .i64⟩ := tyOk_of_mkTy (by kernel_rfl)
theorem E.ty273 : E.ty 273 = some ⟨0, 1, 8, [.nilf], 0, 0, [], .i64⟩ := rfl
theorem E.to273 : TyOk Try.prog 273 ⟨0, 1, 8, [.nilf], 0, 0, [], .i64⟩ := tyOk_of_mkTy (by kernel_rfl)
theorem E.ty274 : E.ty 274 = some ⟨0, 1, 8, [.nilf], 0, 0, [], .i64⟩ := rfl
theorem E.to274 : TyOk Try.prog 274 ⟨0, 1, 8, [.nilf], 0, 0, [], .i64⟩ := tyOk_of_mkTy (by kernel_rfl)
theorem E.ty275 : E.ty 275 = some ⟨1, 1, 8, [(.int .u64 0)], 0, 0, [], .u64⟩ := rfl
theorem E.to275 : TyOk Try.prog 275 ⟨1, 1, 8, [(.int .u64 0)], 0, 0, [], .u64⟩ := tyOk_of_mkTy (by kernel_rfl)
theorem E.ty276 : E.ty 276 = some ⟨0, 1, 8, [.nilf], 0, 0, [], .i64⟩ := rfl
theorem E.to276 : TyOk Try.prog 276 ⟨0, 1, 8, [.nilf], 0, 0, [], .i64⟩ := tyOk_of_mkTy (by kernel_rfl)
theorem E.ty277 : E.ty 277 = some ⟨0, 1, 8, [.nilf], 0, 0, [], .i64⟩ := rfl
theorem E.to277 : TyOk Try.prog 277 ⟨0, 1, 8, [.nilf], 0, 0, [], .i64⟩ := tyOk_of_mkTy (by kernel_rfl)
theorem E.ty278 : E.ty 278 = some ⟨0, 1, 8, [.nilf], 0, 0, [], .i64⟩ := rfl
theorem E.to278 : TyOk Try.prog 278 ⟨0, 1, 8, [.nilf], 0, 0, [], .i64⟩ := tyOk_of_mkTy (by kernel_rfl)
theorem E.ty279 : E.ty 279 = some ⟨7, 1, 8, [.nilp], 3, 0, [], .i64⟩ := rfl
theorem E.to279 : TyOk Try.prog 279 ⟨7, 1, 8, [.nilp], 3, 0, [], .i64⟩ := tyOk_of_mkTy (by kernel_rfl)
theorem E.ty280 : E.ty 280 = some ⟨0, 1, 8, [.nilf], 0, 0, [], .i64⟩ := rfl
theorem E.to280 : TyOk Try.prog 280 ⟨0, 1, 8, [.nilf], 0, 0, [], .i64⟩ := tyOk_of_mkTy (by kernel_rfl)
theorem E.ty281 : E.ty 281 = some ⟨0, 1, 8, [.nilf], 0, 0, [], .i64⟩ := rfl
theorem E.to281 : TyOk Try.prog 281 ⟨0, 1, 8, [.nilf], 0, 0, [], .i64⟩ := tyOk_of_mkTy (by kernel_rfl)
theorem E.ty282 : E.ty 282 = some ⟨0, 1, 8, [.nilf], 0, 0, [], .i64⟩ := rfl
theorem E.to282 : TyOk Try.prog 282 ⟨0, 1, 8, [.nilf], 0, 0, [], .i64⟩ := tyOk_of_mkTy (by kernel_rfl)
theorem E.ty283 : E.ty 283 = some ⟨0, 1, 8, [.nilf], 0, 0, [], .i64⟩ := rfl
theorem E.to283 : TyOk Try.prog 283 ⟨0, 1, 8, [.nilf], 0, 0, [], .i64⟩ := tyOk_of_mkTy (by kernel_rfl)
theorem E.ty284 : E.ty 284 = some ⟨0, 1, 8, [.nilf], 0, 0, [], .i64⟩ := rfl
theorem E.to284 : TyOk Try.prog 284 ⟨0, 1, 8, [.nilf], 0, 0, [], .i64⟩ := tyOk_of_mkTy (by kernel_rfl)
theorem E.ty285 : E.ty 285 = some ⟨0, 1, 8, [.nilf], 0, 0, [], .i64⟩ := rfl
theorem E.to285 : TyOk Try.prog 285 ⟨0, 1, 8, [.nilf], 0, 0, [], .i64⟩ := tyOk_of_mkTy (by kernel_rfl)
theorem E.ty286 : E.ty 286 = some ⟨0, 1, 8, [.nilf], 0, 0, [], .i64⟩ := rfl
theorem E.to286 : TyOk Try.prog 286 ⟨0, 1, 8, [.nilf], 0, 0, [], .i64⟩ := tyOk_of_mkTy (by kernel_rfl)
theorem E.ty287 : E.ty 287 = some ⟨0, 1, 8, [.nilf], 0, 0, [], .i64⟩ := rfl
theorem E.to287 : TyOk Try.prog 287 ⟨0, 1, 8, [.nilf], 0, 0, [], .i64⟩ := tyOk_of_mkTy (by kernel_rfl)
theorem E.ty288 : E.ty 288 = some ⟨0, 1, 8, [.nilf], 0, 0, [], .i64⟩ := rfl
theorem E.to288 : TyOk Try.prog 288 ⟨0, 1, 8, [.nilf], 0, 0, [], .i64⟩ := tyOk_of_mkTy (by kernel_rfl)
theorem E.ty289 : E.ty 289 = some ⟨0, 1, 8, [.nilf], 0, 0, [], .i64⟩ := rfl
theorem E.to289 : TyOk Try.prog 289 ⟨0, 1, 8, [.nilf], 0, 0, [], .i64⟩ := tyOk_of_mkTy (by kernel_rfl)
theorem E.ty290 : E.ty 290 = some ⟨0, 1, 8, [.nilf], 0, 0, [], .i64⟩ := rfl
theorem E.to290 : TyOk Try.prog 290 ⟨0, 1, 8, [.nilf], 0, 0, [], .i64⟩ := tyOk_of_mkTy (by kernel_rfl)
theorem E.ty291 : E.ty 291 = some ⟨0, 1, 8, [.nilf], 0, 0, [], .i64⟩ := rfl
theorem E.to291 : TyOk Try.prog 291 ⟨0, 1, 8, [.nilf], 0, 0, [], .i64⟩ := tyOk_of_mkTy (by kernel_rfl)
theorem E.ty292 : E.ty 292 = some ⟨7, 1, 8, [.nilp], 275, 0, [], .i64⟩ := rfl
theorem E.to292 : TyOk Try.prog 292 ⟨7, 1, 8, [.nilp], 275, 0, [], .i64⟩ := tyOk_of_mkTy (by kernel_rfl)
theorem E.ty293 : E.ty 293 = some ⟨0, 1, 8, [.nilf], 0, 0, [], .i64⟩ := rfl
theorem E.to293 : TyOk Try.prog 293 ⟨0, 1, 8, [.nilf], 0, 0, [], .i64⟩ := tyOk_of_mkTy (by kernel_rfl)
theorem E.ty294 : E.ty 294 = some ⟨0, 1, 8, [.nilf], 0, 0, [], .i64⟩ := rfl
theorem E.to294 : TyOk Try.prog 294 ⟨0, 1, 8, [.nilf], 0, 0, [], .i64⟩ := tyOk_of_mkTy (by kernel_rfl)
theorem E.ty295 : E.ty 295 = some ⟨0, 1, 8, [.nilf], 0, 0, [], .i64⟩ := rfl
theorem E.to295 : TyOk Try.prog 295 ⟨0, 1, 8, [.nilf], 0, 0, [], .i64⟩ := tyOk_of_mkTy (by kernel_rfl)
theorem E.ty296 : E.ty 296 = some ⟨0, 1, 8, [.nilf], 0, 0, [], .i64⟩ := rfl
theorem E.to296 : TyOk Try.prog 296 ⟨0, 1, 8, [.nilf], 0, 0, [], .i64⟩ := tyOk_of_mkTy (by kernel_rfl)
theorem E.ty297 : E.ty 297 = some ⟨0, 1, 8, [.nilf], 0, 0, [], .i64⟩ := rfl
theorem E.to297 : TyOk Try.prog 297 ⟨0, 1, 8, [.nilf], 0, 0, [], .i64⟩ := tyOk_of_mkTy (by kernel_rfl)
theorem E.ty298 : E.ty 298 = some ⟨0, 1, 8, [.nilf], 0, 0, [], .i64⟩ := rfl
theorem E.to298 : TyOk Try.prog 298 ⟨0, 1, 8, [.nilf], 0, 0, [], .i64⟩ := tyOk_of_mkTy (by kernel_rfl)
theorem E.ty299 : E.ty 299 = some ⟨0, 1, 8, [.nilf], 0, 0, [], .i64⟩ := rfl
theorem E.to299 : TyOk Try.prog 299 ⟨0, 1, 8, [.nilf], 0, 0, [], .i64⟩ := tyOk_of_mkTy (by kernel_rfl)
theorem E.ty300 : E.ty 300 = some ⟨0, 1, 8, [.nilf], 0, 0, [], .i64⟩ := rfl
theorem E.to300 : TyOk Try.prog 300 ⟨0, 1, 8, [.nilf], 0, 0, [], .i64⟩ := tyOk_of_mkTy (by kernel_rfl)
theorem E.ty301 : E.ty 301 = some ⟨0, 1, 8, [.nilf], 0, 0, [], .i64⟩ := rfl
theorem E.to301 : TyOk Try.prog 301 ⟨0, 1, 8, [.nilf], 0, 0, [], .i64⟩ := tyOk_of_mkTy (by kernel_rfl)
theorem E.ty302 : E.ty 302 = some ⟨0, 1, 8, [.nilf], 0, 0, [], .i64⟩ := rfl
theorem E.to302 : TyOk Try.prog 302 ⟨0, 1, 8, [.nilf], 0, 0, [], .i64⟩ := tyOk_of_mkTy (by kernel_rfl)
theorem E.ty303 : E.ty 303 = some ⟨0, 1, 8, [.nilf], 0, 0, [], .i64⟩ := rfl
theorem E.to303 : TyOk Try.prog 303 ⟨0, 1, 8, [.nilf], 0, 0, [], .i64⟩ := tyOk_of_mkTy (by kernel_rfl)
theorem E.ty304 : E.ty 304 = some ⟨0, 1, 8, [.nilf], 0, 0, [], .i64⟩ := rfl
theorem E.to304 : TyOk Try.prog 304 ⟨0, 1, 8, [.nilf], 0, 0, [], .i64⟩ := tyOk_of_mkTy (by kernel_rfl)
theorem E.ty305 : E.ty 305 = some ⟨0, 1, 8, [.nilf], 0, 0, [], .i64⟩ := rfl
theorem E.to305 : TyOk Try.prog 305 ⟨0, 1, 8, [.nilf], 0, 0, [], .i64⟩ := tyOk_of_mkTy (by kernel_rfl)
theorem E.ty306 : E.ty 306 = some ⟨0, 1, 8, [.nilf], 0, 0, [], .i64⟩ := rfl
theorem E.to306 : TyOk Try.prog 306 ⟨0, 1, 8, [.nilf], 0, 0, [], .i64⟩ := tyOk_of_mkTy (by kernel_rfl)
theorem E.ty307 : E.ty 307 = some ⟨0, 1, 8, [.nilf], 0, 0, [], .i64⟩ := rfl
theorem E.to307 : TyOk Try.prog 307 ⟨0, 1, 8, [.nilf], 0, 0, [], .i64⟩ := tyOk_of_mkTy (by kernel_rfl)
theorem E.ty308 : E.ty 308 = some ⟨0, 1, 8, [.nilf], 0, 0, [], .i64⟩ := rfl
theorem E.to308 : TyOk Try.prog 308 ⟨0, 1, 8, [.nilf], 0, 0, [], .i64⟩ := tyOk_of_mkTy (by kernel_rfl)
theorem E.ty311 : E.ty 311 = some ⟨5, 0, 0, [], 16, 0, [], .i64⟩ := rfl
theorem E.to311 : TyOk Try.prog 311 ⟨5, 0, 0, [], 16, 0, [], .i64⟩ := tyOk_of_mkTy (by kernel_rfl)
theorem E.ty314 : E.ty 314 = some ⟨0, 1, 8, [.nilf], 0, 0, [], .i64⟩ := rfl
theorem E.to314 : TyOk Try.prog 314 ⟨0, 1, 8, [.nilf], 0, 0, [], .i64⟩ := tyOk_of_mkTy (by kernel_rfl)
theorem E.ty315 : E.ty 315 = some ⟨1, 1, 1, [(.int .u8 0)], 0, 0, [], .u8⟩ := rfl
theorem E.to315 : TyOk Try.prog 315 ⟨1, 1, 1, [(.int .u8 0)], 0, 0, [], .u8⟩ := tyOk_of_mkTy (by kernel_rfl)
theorem E.ty316 : E.ty 316 = some ⟨1, 1, 1, [(.int .u8 0)], 0, 0, [], .u8⟩ := rfl
theorem E.to316 : TyOk Try.prog 316 ⟨1, 1, 1, [(.int .u8 0)], 0, 0, [], .u8⟩ := tyOk_of_mkTy (by kernel_rfl)
theorem E.ty317 : E.ty 317 = some ⟨0, 1, 8, [.nilf], 0, 0, [], .i64⟩ := rfl
theorem E.to317 : TyOk Try.prog 317 ⟨0, 1, 8, [.nilf], 0, 0, [], .i64⟩ := tyOk_of_mkTy (by kernel_rfl)
theorem E.ty318 : E.ty 318 = some ⟨7, 1, 8, [.nilp], 5, 0, [], .i64⟩ := rfl
theorem E.to318 : TyOk Try.prog 318 ⟨7, 1, 8, [.nilp], 5, 0, [], .i64⟩ := tyOk_of_mkTy (by kernel_rfl)
theorem E.ty319 : E.ty 319 = some ⟨1, 1, 4, [(.int .i32 0)], 0, 0, [], .i32⟩ := rfl
theorem E.to319 : TyOk Try.prog 319 ⟨1, 1, 4, [(.int .i32 0)], 0, 0, [], .i32⟩ := tyOk_of_mkTy (by kernel_rfl)
theorem E.ty320 : E.ty 320 = some ⟨1, 1, 4, [(.int .i32 0)], 0, 0, [], .i32⟩ := rfl
theorem E.to320 : TyOk Try.prog 320 ⟨1, 1, 4, [(.int .i32 0)], 0, 0, [], .i32⟩ := tyOk_of_mkTy (by kernel_rfl)
theorem E.ty323 : E.ty 323 = some ⟨0, 1, 8, [.nilp], 0, 0, [], .i64⟩ := rfl
theorem E.to323 : TyOk Try.prog 323 ⟨0, 1, 8, [.nilp], 0, 0, [], .i64⟩ := tyOk_of_mkTy (by kernel_rfl)
theorem E.fo3 : FnOk Try.prog 3 ⟨6, (Try.f3.body.getD .skip), Try.f3.results.toList, []⟩ := ⟨Try.f3, Try.func3, rfl, rfl, rfl, by kernel_rfl, by kernel_rfl, by kernel_rfl⟩
theorem E.fo4 : FnOk Try.prog 4 ⟨110, (Try.f4.body.getD .skip), Try.f4.results.toList, []⟩ := ⟨Try.f4, Try.func4, rfl, rfl, rfl, by kernel_rfl, by kernel_rfl, by kernel_rfl⟩
theorem E.fo5 : FnOk Try.prog 5 ⟨34, (Try.f5.body.getD .skip), Try.f5.results.toList, []⟩ := ⟨Try.f5, Try.func5, rfl, rfl, rfl, by kernel_rfl, by kernel_rfl, by kernel_rfl⟩
theorem E.fo6 : FnOk Try.prog 6 ⟨202, (Try.f6.body.getD .skip), Try.f6.results.toList, []⟩ := ⟨Try.f6, Try.func6, rfl, rfl, rfl, by kernel_rfl, by kernel_rfl, by kernel_rfl⟩
theorem E.fo7 : FnOk Try.prog 7 ⟨152, (Try.f7.body.getD .skip), Try.f7.results.toList, []⟩ := ⟨Try.f7, Try.func7, rfl, rfl, rfl, by kernel_rfl, by kernel_rfl, by kernel_rfl⟩
theorem E.fo8 : FnOk Try.prog 8 ⟨132, (Try.f8.body.getD .skip), Try.f8.results.toList, []⟩ := ⟨Try.f8, Try.func8, rfl, rfl, rfl, by kernel_rfl, by kernel_rfl, by kernel_rfl⟩
theorem E.fo9 : FnOk Try.prog 9 ⟨224, (Try.f9.body.getD .skip), Try.f9.results.toList, [12]⟩ := ⟨Try.f9, Try.func9, rfl, rfl, rfl, by kernel_rfl, by kernel_rfl, by kernel_rfl⟩
theorem E.fo10 : FnOk Try.prog 10 ⟨149, (Try.f10.body.getD .skip), Try.f10.results.toList, []⟩ := ⟨Try.f10, Try.func10, rfl, rfl, rfl, by kernel_rfl, by kernel_rfl, by kernel_rfl⟩
theorem E.fo11 : FnOk Try.prog 11 ⟨88, (Try.f11.body.getD .skip), Try.f11.results.toList, []⟩ := ⟨Try.f11, Try.func11, rfl, rfl, rfl, by kernel_rfl, by kernel_rfl, by kernel_rfl⟩
theorem E.fo12 : FnOk Try.prog 12 ⟨105, (Try.f12.body.getD .skip), Try.f12.results.toList, []⟩ := ⟨Try.f12, Try.func12, rfl, rfl, rfl, by kernel_rfl, by kernel_rfl, by kernel_rfl⟩
theorem E.fo13 : FnOk Try.prog 13 ⟨133, (Try.f13.body.getD .skip), Try.f13.results.toList, []⟩ := ⟨Try.f13, Try.func13, rfl, rfl, rfl, by kernel_rfl, by kernel_rfl, by kernel_rfl⟩
theorem E.fo14 : FnOk Try.prog 14 ⟨148, (Try.f14.body.getD .skip), Try.f14.results.toList, []⟩ := ⟨Try.f14, Try.func14, rfl, rfl, rfl, by kernel_rfl, by kernel_rfl, by kernel_rfl⟩
theorem E.fo15 : FnOk Try.prog 15 ⟨183, (Try.f15.body.getD .skip), Try.f15.results.toList, []⟩ := ⟨Try.f15, Try.func15, rfl, rfl, rfl, by kernel_rfl, by kernel_rfl, by kernel_rfl⟩
theorem E.fo16 : FnOk Try.prog 16 ⟨78, (Try.f16.body.getD .skip), Try.f16.results.toList, []⟩ := ⟨Try.f16, Try.func16, rfl, rfl, rfl, by kernel_rfl, by kernel_rfl, by kernel_rfl⟩
theorem E.fo17 : FnOk Try.prog 17 ⟨163, (Try.f17.body.getD .skip), Try.f17.results.toList, []⟩ := ⟨Try.f17, Try.func17, rfl, rfl, rfl, by kernel_rfl, by kernel_rfl, by kernel_rfl⟩
theorem E.fo18 : FnOk Try.prog 18 ⟨226, (Try.f18.body.getD .skip), Try.f18.results.toList, [14, 21, 41]⟩ := ⟨Try.f18, Try.func18, rfl, rfl, rfl, by kernel_rfl, by kernel_rfl, by kernel_rfl⟩
theorem E.fo19 : FnOk Try.prog 19 ⟨259, (Try.f19.body.getD .skip), Try.f19.results.toList, []⟩ := ⟨Try.f19, Try.func19, rfl, rfl, rfl, by kernel_rfl, by kernel_rfl, by kernel_rfl⟩
theorem E.fo20 : FnOk Try.prog 20 ⟨184, (Try.f20.body.getD .skip), Try.f20.results.toList, []⟩ := ⟨Try.f20, Try.func20, rfl, rfl, rfl, by kernel_rfl, by kernel_rfl, by kernel_rfl⟩
theorem E.fo21 : FnOk Try.prog 21 ⟨75, (Try.f21.body.getD .skip), Try.f21.results.toList, []⟩ := ⟨Try.f21, Try.func21, rfl, rfl, rfl, by kernel_rfl, by kernel_rfl, by kernel_rfl⟩
theorem E.fo22 : FnOk Try.prog 22 ⟨173, (Try.f22.body.getD .skip), Try.f22.results.toList, [21]⟩ := ⟨Try.f22, Try.func22, rfl, rfl, rfl, by kernel_rfl, by kernel_rfl, by kernel_rfl⟩
theorem E.fo23 : FnOk Try.prog 23 ⟨245, (Try.f23.body.getD .skip), Try.f23.results.toList, [18]⟩ := ⟨Try.f23, Try.func23, rfl, rfl, rfl, by kernel_rfl, by kernel_rfl, by kernel_rfl⟩
theorem E.fo24 : FnOk Try.prog 24 ⟨71, (Try.f24.body.getD .skip), Try.f24.results.toList, []⟩ := ⟨Try.f24, Try.func24, rfl, rfl, rfl, by kernel_rfl, by kernel_rfl, by kernel_rfl⟩
theorem E.fo25 : FnOk Try.prog 25 ⟨223, (Try.f25.body.getD .skip), Try.f25.results.toList, []⟩ := ⟨Try.f25, Try.func25, rfl, rfl, rfl, by kernel_rfl, by kernel_rfl, by kernel_rfl⟩
theorem E.fo26 : FnOk Try.prog 26 ⟨144, (Try.f26.body.getD .skip), Try.f26.results.toList, []⟩ := ⟨Try.f26, Try.func26, rfl, rfl, rfl, by kernel_rfl, by kernel_rfl, by kernel_rfl⟩
theorem E.fo27 : FnOk Try.prog 27 ⟨169, (Try.f27.body.getD .skip), Try.f27.results.toList, []⟩ := ⟨Try.f27, Try.func27, rfl, rfl, rfl, by kernel_rfl, by kernel_rfl, by kernel_rfl⟩
theorem E.fo28 : FnOk Try.prog 28 ⟨108, (Try.f28.body.getD .skip), Try.f28.results.toList, [3, 6, 15]⟩ := ⟨Try.f28, Try.func28, rfl, rfl, rfl, by kernel_rfl, by kernel_rfl, by kernel_rfl⟩
theorem E.fo29 : FnOk Try.prog 29 ⟨196, (Try.f29.body.getD .skip), Try.f29.results.toList, []⟩ := ⟨Try.f29, Try.func29, rfl, rfl, rfl, by kernel_rfl, by kernel_rfl, by kernel_rfl⟩
theorem E.fo30 : FnOk Try.prog 30 ⟨129, (Try.f30.body.getD .skip), Try.f30.results.toList, []⟩ := ⟨Try.f30, Try.func30, rfl, rfl, rfl, by kernel_rfl, by kernel_rfl, by kernel_rfl⟩
theorem E.fo31 : FnOk Try.prog 31 ⟨205, (Try.f31.body.getD .skip), Try.f31.results.toList, [15, 26]⟩ := ⟨Try.f31, Try.func31, rfl, rfl, rfl, by kernel_rfl, by kernel_rfl, by kernel_rfl⟩
theorem E.fo32 : FnOk Try.prog 32 ⟨178, (Try.f32.body.getD .skip), Try.f32.results.toList, []⟩ := ⟨Try.f32, Try.func32, rfl, rfl, rfl, by kernel_rfl, by kernel_rfl, by kernel_rfl⟩
theorem E.fo33 : FnOk Try.prog 33 ⟨147, (Try.f33.body.getD .skip), Try.f33.results.toList, []⟩ := ⟨Try.f33, Try.func33, rfl, rfl, rfl, by kernel_rfl, by kernel_rfl, by kernel_rfl⟩
theorem E.fo34 : FnOk Try.prog 34 ⟨142, (Try.f34.body.getD .skip), Try.f34.results.toList, []⟩ := ⟨Try.f34, Try.func34, rfl, rfl, rfl, by kernel_rfl, by kernel_rfl, by kernel_rfl⟩
theorem E.fo35 : FnOk Try.prog 35 ⟨219, (Try.f35.body.getD .skip), Try.f35.results.toList, []⟩ := ⟨Try.f35, Try.func35, rfl, rfl, rfl, by kernel_rfl, by kernel_rfl, by kernel_rfl⟩
theorem E.fo36 : FnOk Try.prog 36 ⟨78, (Try.f36.body.getD .skip), Try.f36.results.toList, []⟩ := ⟨Try.f36, Try.func36, rfl, rfl, rfl, by kernel_rfl, by kernel_rfl, by kernel_rfl⟩
theorem E.fo37 : FnOk Try.prog 37 ⟨26, (Try.f37.body.getD .skip), Try.f37.results.toList, []⟩ := ⟨Try.f37, Try.func37, rfl, rfl, rfl, by kernel_rfl, by kernel_rfl, by kernel_rfl⟩
theorem E.fo38 : FnOk Try.prog 38 ⟨15, (Try.f38.body.getD .skip), Try.f38.results.toList, []⟩ := ⟨Try.f38, Try.func38, rfl, rfl, rfl, by kernel_rfl, by kernel_rfl, by kernel_rfl⟩
theorem E.fo39 : FnOk Try.prog 39 ⟨37, (Try.f39.body.getD .skip), Try.f39.results.toList, []⟩ := ⟨Try.f39, Try.func39, rfl, rfl, rfl, by kernel_rfl, by kernel_rfl, by kernel_rfl⟩
theorem E.fo40 : FnOk Try.prog 40 ⟨14, (Try.f40.body.getD .skip), Try.f40.results.toList, []⟩ := ⟨Try.f40, Try.func40, rfl, rfl, rfl, by kernel_rfl, by kernel_rfl, by kernel_rfl⟩
theorem E.fo41 : FnOk Try.prog 41 ⟨7, (Try.f41.body.getD .skip), Try.f41.results.toList, []⟩ := ⟨Try.f41, Try.func41, rfl, rfl, rfl, by kernel_rfl, by kernel_rfl, by kernel_rfl⟩
theorem E.fo42 : FnOk Try.prog 42 ⟨88, (Try.f42.body.getD .skip), Try.f42.results.toList, []⟩ := ⟨Try.f42, Try.func42, rfl, rfl, rfl, by kernel_rfl, by kernel_rfl, by kernel_rfl⟩
theorem E.fo43 : FnOk Try.prog 43 ⟨36, (Try.f43.body.getD .skip), Try.f43.results.toList, []⟩ := ⟨Try.f43, Try.func43, rfl, rfl, rfl, by kernel_rfl, by kernel_rfl, by kernel_rfl⟩
theorem E.fo44 : FnOk Try.prog 44 ⟨61, (Try.f44.body.getD .skip), Try.f44.results.toList, []⟩ := ⟨Try.f44, Try.func44, rfl, rfl, rfl, by kernel_rfl, by kernel_rfl, by kernel_rfl⟩
theorem E.fo45 : FnOk Try.prog 45 ⟨15, (Try.f45.body.getD .skip), Try.f45.results.toList, []⟩ := ⟨Try.f45, Try.func45, rfl, rfl, rfl, by kernel_rfl, by kernel_rfl, by kernel_rfl⟩
theorem E.fo46 : FnOk Try.prog 46 ⟨70, (Try.f46.body.getD .skip), Try.f46.results.toList, []⟩ := ⟨Try.f46, Try.func46, rfl, rfl, rfl, by kernel_rfl, by kernel_rfl, by kernel_rfl⟩
theorem E.fo47 : FnOk Try.prog 47 ⟨20, (Try.f47.body.getD .skip), Try.f47.results.toList, []⟩ := ⟨Try.f47, Try.func47, rfl, rfl, rfl, by kernel_rfl, by kernel_rfl, by kernel_rfl⟩
theorem E.fo48 : FnOk Try.prog 48 ⟨57, (Try.f48.body.getD .skip), Try.f48.results.toList, []⟩ := ⟨Try.f48, Try.func48, rfl, rfl, rfl, by kernel_rfl, by kernel_rfl, by kernel_rfl⟩
theorem E.fo49 : FnOk Try.prog 49 ⟨23, (Try.f49.body.getD .skip), Try.f49.results.toList, []⟩ := ⟨Try.f49, Try.func49, rfl, rfl, rfl, by kernel_rfl, by kernel_rfl, by kernel_rfl⟩
theorem E.fo50 : FnOk Try.prog 50 ⟨45, (Try.f50.body.getD .skip), Try.f50.results.toList, []⟩ := ⟨Try.f50, Try.func50, rfl, rfl, rfl, by kernel_rfl, by kernel_rfl, by kernel_rfl⟩
theorem E.fo51 : FnOk Try.prog 51 ⟨36, (Try.f51.body.getD .skip), Try.f51.results.toList, []⟩ := ⟨Try.f51, Try.func51, rfl, rfl, rfl, by kernel_rfl, by kernel_rfl, by kernel_rfl⟩
theorem E.fo52 : FnOk Try.prog 52 ⟨13, (Try.f52.body.getD .skip), Try.f52.results.toList, []⟩ := ⟨Try.f52, Try.func52, rfl, rfl, rfl, by kernel_rfl, by kernel_rfl, by kernel_rfl⟩
theorem E.fo53 : FnOk Try.prog 53 ⟨17, (Try.f53.body.getD .skip), Try.f53.results.toList, []⟩ := ⟨Try.f53, Try.func53, rfl, rfl, rfl, by kernel_rfl, by kernel_rfl, by kernel_rfl⟩
theorem E.fo54 : FnOk Try.prog 54 ⟨23, (Try.f54.body.getD .skip), Try.f54.results.toList, []⟩ := ⟨Try.f54, Try.func54, rfl, rfl, rfl, by kernel_rfl, by kernel_rfl, by kernel_rfl⟩
theorem E.fo55 : FnOk Try.prog 55 ⟨18, (Try.f55.body.getD .skip), Try.f55.results.toList, []⟩ := ⟨Try.f55, Try.func55, rfl, rfl, rfl, by kernel_rfl, by kernel_rfl, by kernel_rfl⟩
theorem E.fo56 : FnOk Try.prog 56 ⟨50, (Try.f56.body.getD .skip), Try.f56.results.toList, []⟩ := ⟨Try.f56, Try.func56, rfl, rfl, rfl, by kernel_rfl, by kernel_rfl, by kernel_rfl⟩
theorem E.fo57 : FnOk Try.prog 57 ⟨24, (Try.f57.body.getD .skip), Try.f57.results.toList, []⟩ := ⟨Try.f57, Try.func57, rfl, rfl, rfl, by kernel_rfl, by kernel_rfl, by kernel_rfl⟩
theorem E.fo58 : FnOk Try.prog 58 ⟨29, (Try.f58.body.getD .skip), Try.f58.results.toList, []⟩ := ⟨Try.f58, Try.func58, rfl, rfl, rfl, by kernel_rfl, by kernel_rfl, by kernel_rfl⟩
theorem E.fo59 : FnOk Try.prog 59 ⟨47, (Try.f59.body.getD .skip), Try.f59.results.toList, []⟩ := ⟨Try.f59, Try.func59, rfl, rfl, rfl, by kernel_rfl, by kernel_rfl, by kernel_rfl⟩
theorem E.fo60 : FnOk Try.prog 60 ⟨27, (Try.f60.body.getD .skip), Try.f60.results.toList, []⟩ := ⟨Try.f60, Try.func60, rfl, rfl, rfl, by kernel_rfl, by kernel_rfl, by kernel_rfl⟩
theorem E.fo61 : FnOk Try.prog 61 ⟨17, (Try.f61.body.getD .skip), Try.f61.results.toList, []⟩ := ⟨Try.f61, Try.func61, rfl, rfl, rfl, by kernel_rfl, by kernel_rfl, by kernel_rfl⟩
theorem E.fo62 : FnOk Try.prog 62 ⟨29, (Try.f62.body.getD .skip), Try.f62.results.toList, []⟩ := ⟨Try.f62, Try.func62, rfl, rfl, rfl, by kernel_rfl, by kernel_rfl, by kernel_rfl⟩
theorem E.fo63 : FnOk Try.prog 63 ⟨35, (Try.f63.body.getD .skip), Try.f63.results.toList, []⟩ := ⟨Try.f63, Try.func63, rfl, rfl, rfl, by kernel_rfl, by kernel_rfl, by kernel_rfl⟩
theorem E.fo64 : FnOk Try.prog 64 ⟨33, (Try.f64.body.getD .skip), Try.f64.results.toList, []⟩ := ⟨Try.f64, Try.func64, rfl, rfl, rfl, by kernel_rfl, by kernel_rfl, by kernel_rfl⟩
theorem E.fo65 : FnOk Try.prog 65 ⟨27, (Try.f65.body.getD .skip), Try.f65.results.toList, []⟩ := ⟨Try.f65, Try.func65, rfl, rfl, rfl, by kernel_rfl, by kernel_rfl, by kernel_rfl⟩
theorem E.fo66 : FnOk Try.prog 66 ⟨41, (Try.f66.body.getD .skip), Try.f66.results.toList, []⟩ := ⟨Try.f66, Try.func66, rfl, rfl, rfl, by kernel_rfl, by kernel_rfl, by kernel_rfl⟩
theorem E.fo67 : FnOk Try.prog 67 ⟨24, (Try.f67.body.getD .skip), Try.f67.results.toList, []⟩ := ⟨Try.f67, Try.func67, rfl, rfl, rfl, by kernel_rfl, by kernel_rfl, by kernel_rfl⟩
theorem E.fo68 : FnOk Try.prog 68 ⟨14, (Try.f68.body.getD .skip), Try.f68.results.toList, []⟩ := ⟨Try.f68, Try.func68, rfl, rfl, rfl, by kernel_rfl, by kernel_rfl, by kernel_rfl⟩
theorem E.fo69 : FnOk Try.prog 69 ⟨27, (Try.f69.body.getD .skip), Try.f69.results.toList, []⟩ := ⟨Try.f69, Try.func69, rfl, rfl, rfl, by kernel_rfl, by kernel_rfl, by kernel_rfl⟩
theorem E.fo70 : FnOk Try.prog 70 ⟨27, (Try.f70.body.getD .skip), Try.f70.results.toList, []⟩ := ⟨Try.f70, Try.func70, rfl, rfl, rfl, by kernel_rfl, by kernel_rfl, by kernel_rfl⟩
theorem E.fo71 : FnOk Try.prog 71 ⟨25, (Try.f71.body.getD .skip), Try.f71.results.toList, []⟩ := ⟨Try.f71, Try.func71, rfl, rfl, rfl, by kernel_rfl, by kernel_rfl, by kernel_rfl⟩
theorem E.fo72 : FnOk Try.prog 72 ⟨19, (Try.f72.body.getD .skip), Try.f72.results.toList, []⟩ := ⟨Try.f72, Try.func72, rfl, rfl, rfl, by kernel_rfl, by kernel_rfl, by kernel_rfl⟩
theorem E.fo73 : FnOk Try.prog 73 ⟨33, (Try.f73.body.getD .skip), Try.f73.results.toList, []⟩ := ⟨Try.f73, Try.func73, rfl, rfl, rfl, by kernel_rfl, by kernel_rfl, by kernel_rfl⟩
theorem E.fo74 : FnOk Try.prog 74 ⟨62, (Try.f74.body.getD .skip), Try.f74.results.toList, []⟩ := ⟨Try.f74, Try.func74, rfl, rfl, rfl, by kernel_rfl, by kernel_rfl, by kernel_rfl⟩
theorem E.fo75 : FnOk Try.prog 75 ⟨31, (Try.f75.body.getD .skip), Try.f75.results.toList, []⟩ := ⟨Try.f75, Try.func75, rfl, rfl, rfl, by kernel_rfl, by kernel_rfl, by kernel_rfl⟩
theorem E.fo76 : FnOk Try.prog 76 ⟨38, (Try.f76.body.getD .skip), Try.f76.results.toList, []⟩ := ⟨Try.f76, Try.func76, rfl, rfl, rfl, by kernel_rfl, by kernel_rfl, by kernel_rfl⟩
theorem E.fo77 : FnOk Try.prog 77 ⟨32, (Try.f77.body.getD .skip), Try.f77.results.toList, []⟩ := ⟨Try.f77, Try.func77, rfl, rfl, rfl, by kernel_rfl, by kernel_rfl, by kernel_rfl⟩
theorem E.fo78 : FnOk Try.prog 78 ⟨44, (Try.f78.body.getD .skip), Try.f78.results.toList, []⟩ := ⟨Try.f78, Try.func78, rfl, rfl, rfl, by kernel_rfl, by kernel_rfl, by kernel_rfl⟩
theorem E.fo79 : FnOk Try.prog 79 ⟨29, (Try.f79.body.getD .skip), Try.f79.results.toList, []⟩ := ⟨Try.f79, Try.func79, rfl, rfl, rfl, by kernel_rfl, by kernel_rfl, by kernel_rfl⟩
theorem E.fo80 : FnOk Try.prog 80 ⟨12, (Try.f80.body.getD .skip), Try.f80.results.toList, []⟩ := ⟨Try.f80, Try.func80, rfl, rfl, rfl, by kernel_rfl, by kernel_rfl, by kernel_rfl⟩
theorem E.fo81 : FnOk Try.prog 81 ⟨12, (Try.f81.body.getD .skip), Try.f81.results.toList, []⟩ := ⟨Try.f81, Try.func81, rfl, rfl, rfl, by kernel_rfl, by kernel_rfl, by kernel_rfl⟩
theorem E.fo82 : FnOk Try.prog 82 ⟨42, (Try.f82.body.getD .skip), Try.f82.results.toList, []⟩ := ⟨Try.f82, Try.func82, rfl, rfl, rfl, by kernel_rfl, by kernel_rfl, by kernel_rfl⟩
theorem E.fo83 : FnOk Try.prog 83 ⟨6, (Try.f83.body.getD .skip), Try.f83.results.toList, []⟩ := ⟨Try.f83, Try.func83, rfl, rfl, rfl, by kernel_rfl, by kernel_rfl, by kernel_rfl⟩
theorem E.fo84 : FnOk Try.prog 84 ⟨8, (Try.f84.body.getD .skip), Try.f84.results.toList, []⟩ := ⟨Try.f84, Try.func84, rfl, rfl, rfl, by kernel_rfl, by kernel_rfl, by kernel_rfl⟩
theorem E.fo85 : FnOk Try.prog 85 ⟨8, (Try.f85.body.getD .skip), Try.f85.results.toList, []⟩ := ⟨Try.f85, Try.func85, rfl, rfl, rfl, by kernel_rfl, by kernel_rfl, by kernel_rfl⟩
theorem E.fo86 : FnOk Try.prog 86 ⟨61, (Try.f86.body.getD .skip), Try.f86.results.toList, []⟩ := ⟨Try.f86, Try.func86, rfl, rfl, rfl, by kernel_rfl, by kernel_rfl, by kernel_rfl⟩
theorem E.fo87 : FnOk Try.prog 87 ⟨8, (Try.f87.body.getD .skip), Try.f87.results.toList, []⟩ := ⟨Try.f87, Try.func87, rfl, rfl, rfl, by kernel_rfl, by kernel_rfl, by kernel_rfl⟩
theorem E.fo88 : FnOk Try.prog 88 ⟨59, (Try.f88.body.getD .skip), Try.f88.results.toList, []⟩ := ⟨Try.f88, Try.func88, rfl, rfl, rfl, by kernel_rfl, by kernel_rfl, by kernel_rfl⟩
theorem E.fo89 : FnOk Try.prog 89 ⟨8, (Try.f89.body.getD .skip), Try.f89.results.toList, []⟩ := ⟨Try.f89, Try.func89, rfl, rfl, rfl, by kernel_rfl, by kernel_rfl, by kernel_rfl⟩
theorem E.fo90 : FnOk Try.prog 90 ⟨39, (Try.f90.body.getD .skip), Try.f90.results.toList, []⟩ := ⟨Try.f90, Try.func90, rfl, rfl, rfl, by kernel_rfl, by kernel_rfl, by kernel_rfl⟩
theorem E.fo91 : FnOk Try.prog 91 ⟨31, (Try.f91.body.getD .skip), Try.f91.results.toList, []⟩ := ⟨Try.f91, Try.func91, rfl, rfl, rfl, by kernel_rfl, by kernel_rfl, by kernel_rfl⟩
theorem E.fo92 : FnOk Try.prog 92 ⟨71, (Try.f92.body.getD .skip), Try.f92.results.toList, []⟩ := ⟨Try.f92, Try.func92, rfl, rfl, rfl, by kernel_rfl, by kernel_rfl, by kernel_rfl⟩
theorem E.fo93 : FnOk Try.prog 93 ⟨39, (Try.f93.body.getD .skip), Try.f93.results.toList, []⟩ := ⟨Try.f93, Try.func93, rfl, rfl, rfl, by kernel_rfl, by kernel_rfl, by kernel_rfl⟩
theorem E.fo94 : FnOk Try.prog 94 ⟨49, (Try.f94.body.getD .skip), Try.f94.results.toList, []⟩ := ⟨Try.f94, Try.func94, rfl, rfl, rfl, by kernel_rfl, by kernel_rfl, by kernel_rfl⟩
theorem E.fo95 : FnOk Try.prog 95 ⟨8, (Try.f95.body.getD .skip), Try.f95.results.toList, []⟩ := ⟨Try.f95, Try.func95, rfl, rfl, rfl, by kernel_rfl, by kernel_rfl, by kernel_rfl⟩
theorem E.fo96 : FnOk Try.prog 96 ⟨9, (Try.f96.body.getD .skip), Try.f96.results.toList, []⟩ := ⟨Try.f96, Try.func96, rfl, rfl, rfl, by kernel_rfl, by kernel_rfl, by kernel_rfl⟩
theorem E.fo97 : FnOk Try.prog 97 ⟨9, (Try.f97.body.getD .skip), Try.f97.results.toList, []⟩ := ⟨Try.f97, Try.func97, rfl, rfl, rfl, by kernel_rfl, by kernel_rfl, by kernel_rfl⟩
theorem E.fo98 : FnOk Try.prog 98 ⟨79, (Try.f98.body.getD .skip), Try.f98.results.toList, []⟩ := ⟨Try.f98, Try.func98, rfl, rfl, rfl, by kernel_rfl, by kernel_rfl, by kernel_rfl⟩
theorem E.fo99 : FnOk Try.prog 99 ⟨18, (Try.f99.body.getD .skip), Try.f99.results.toList, []⟩ := ⟨Try.f99, Try.func99, rfl, rfl, rfl, by kernel_rfl, by kernel_rfl, by kernel_rfl⟩
theorem E.fo100 : FnOk Try.prog 100 ⟨60, (Try.f100.body.getD .skip), Try.f100.results.toList, []⟩ := ⟨Try.f100, Try.func100, rfl, rfl, rfl, by kernel_rfl, by kernel_rfl, by kernel_rfl⟩
theorem E.fo101 : FnOk Try.prog 101 ⟨51, (Try.f101.body.getD .skip), Try.f101.results.toList, []⟩ := ⟨Try.f101, Try.func101, rfl, rfl, rfl, by kernel_rfl, by kernel_rfl, by kernel_rfl⟩
theorem E.fo102 : FnOk Try.prog 102 ⟨10, (Try.f102.body.getD .skip), Try.f102.results.toList, []⟩ := ⟨Try.f102, Try.func102, rfl, rfl, rfl, by kernel_rfl, by kernel_rfl, by kernel_rfl⟩
theorem E.fo103 : FnOk Try.prog 103 ⟨8, (Try.f103.body.getD .skip), Try.f103.results.toList, []⟩ := ⟨Try.f103, Try.func103, rfl, rfl, rfl, by kernel_rfl, by kernel_rfl, by kernel_rfl⟩
theorem E.fo104 : FnOk Try.prog 104 ⟨17, (Try.f104.body.getD .skip), Try.f104.results.toList, []⟩ := ⟨Try.f104, Try.func104, rfl, rfl, rfl, by kernel_rfl, by kernel_rfl, by kernel_rfl⟩
theorem E.fo105 : FnOk Try.prog 105 ⟨66, (Try.f105.body.getD .skip), Try.f105.results.toList, []⟩ := ⟨Try.f105, Try.func105, rfl, rfl, rfl, by kernel_rfl, by kernel_rfl, by kernel_rfl⟩
theorem E.fo106 : FnOk Try.prog 106 ⟨42, (Try.f106.body.getD .skip), Try.f106.results.toList, []⟩ := ⟨Try.f106, Try.func106, rfl, rfl, rfl, by kernel_rfl, by kernel_rfl, by kernel_rfl⟩
theorem E.fo107 : FnOk Try.prog 107 ⟨134, (Try.f107.body.getD .skip), Try.f107.results.toList, []⟩ := ⟨Try.f107, Try.func107, rfl, rfl, rfl, by kernel_rfl, by kernel_rfl, by kernel_rfl⟩
theorem E.fo108 : FnOk Try.prog 108 ⟨103, (Try.f108.body.getD .skip), Try.f108.results.toList, []⟩ := ⟨Try.f108, Try.func108, rfl, rfl, rfl, by kernel_rfl, by kernel_rfl, by kernel_rfl⟩
theorem E.fo109 : FnOk Try.prog 109 ⟨37, (Try.f109.body.getD .skip), Try.f109.results.toList, []⟩ := ⟨Try.f109, Try.func109, rfl, rfl, rfl, by kernel_rfl, by kernel_rfl, by kernel_rfl⟩
theorem E.fo110 : FnOk Try.prog 110 ⟨34, (Try.f110.body.getD .skip), Try.f110.results.toList, []⟩ := ⟨Try.f110, Try.func110, rfl, rfl, rfl, by kernel_rfl, by kernel_rfl, by kernel_rfl⟩
theorem E.fo111 : FnOk Try.prog 111 ⟨32, (Try.f111.body.getD .skip), Try.f111.results.toList, []⟩ := ⟨Try.f111, Try.func111, rfl, rfl, rfl, by kernel_rfl, by kernel_rfl, by kernel_rfl⟩
theorem E.fo112 : FnOk Try.prog 112 ⟨79, (Try.f112.body.getD .skip), Try.f112.results.toList, []⟩ := ⟨Try.f112, Try.func112, rfl, rfl, rfl, by kernel_rfl, by kernel_rfl, by kernel_rfl⟩
theorem E.fo113 : FnOk Try.prog 113 ⟨12, (Try.f113.body.getD .skip), Try.f113.results.toList, []⟩ := ⟨Try.f113, Try.func113, rfl, rfl, rfl, by kernel_rfl, by kernel_rfl, by kernel_rfl⟩
theorem E.fo114 : FnOk Try.prog 114 ⟨6, (Try.f114.body.getD .skip), Try.f114.results.toList, []⟩ := ⟨Try.f114, Try.func114, rfl, rfl, rfl, by kernel_rfl, by kernel_rfl, by kernel_rfl⟩
theorem E.fo116 : FnOk Try.prog 116 ⟨8, (Try.f116.body.getD .skip), Try.f116.results.toList, []⟩ := ⟨Try.f116, Try.func116, rfl, rfl, rfl, by kernel_rfl, by kernel_rfl, by kernel_rfl⟩
theorem E.fo117 : FnOk Try.prog 117 ⟨13, (Try.f117.body.getD .skip), Try.f117.results.toList, []⟩ := ⟨Try.f117, Try.func117, rfl, rfl, rfl, by kernel_rfl, by kernel_rfl, by kernel_rfl⟩
theorem E.fo118 : FnOk Try.prog 118 ⟨38, (Try.f118.body.getD .skip), Try.f118.results.toList, []⟩ := ⟨Try.f118, Try.func118, rfl, rfl, rfl, by kernel_rfl, by kernel_rfl, by kernel_rfl⟩
theorem E.fo119 : FnOk Try.prog 119 ⟨56, (Try.f119.body.getD .skip), Try.f119.results.toList, []⟩ := ⟨Try.f119, Try.func119, rfl, rfl, rfl, by kernel_rfl, by kernel_rfl, by kernel_rfl⟩
theorem E.fo120 : FnOk Try.prog 120 ⟨68, (Try.f120.body.getD .skip), Try.f120.results.toList, []⟩ := ⟨Try.f120, Try.func120, rfl, rfl, rfl, by kernel_rfl, by kernel_rfl, by kernel_rfl⟩
theorem E.fo121 : FnOk Try.prog 121 ⟨21, (Try.f121.body.getD .skip), Try.f121.results.toList, []⟩ := ⟨Try.f121, Try.func121, rfl, rfl, rfl, by kernel_rfl, by kernel_rfl, by kernel_rfl⟩
theorem E.fo122 : FnOk Try.prog 122 ⟨37, (Try.f122.body.getD .skip), Try.f122.results.toList, []⟩ := ⟨Try.f122, Try.func122, rfl, rfl, rfl, by kernel_rfl, by kernel_rfl, by kernel_rfl⟩
theorem E.fo123 : FnOk Try.prog 123 ⟨30, (Try.f123.body.getD .skip), Try.f123.results.toList, []⟩ := ⟨Try.f123, Try.func123, rfl, rfl, rfl, by kernel_rfl, by kernel_rfl, by kernel_rfl⟩
theorem E.fo124 : FnOk Try.prog 124 ⟨31, (Try.f124.body.getD .skip), Try.f124.results.toList, []⟩ := ⟨Try.f124, Try.func124, rfl, rfl, rfl, by kernel_rfl, by kernel_rfl, by kernel_rfl⟩
theorem E.fo125 : FnOk Try.prog 125 ⟨32, (Try.f125.body.getD .skip), Try.f125.results.toList, []⟩ := ⟨Try.f125, Try.func125, rfl, rfl, rfl, by kernel_rfl, by kernel_rfl, by kernel_rfl⟩
theorem E.fo126 : FnOk Try.prog 126 ⟨27, (Try.f126.body.getD .skip), Try.f126.results.toList, []⟩ := ⟨Try.f126, Try.func126, rfl, rfl, rfl, by kernel_rfl, by kernel_rfl, by kernel_rfl⟩
theorem E.fo127 : FnOk Try.prog 127 ⟨32, (Try.f127.body.getD .skip), Try.f127.results.toList, []⟩ := ⟨Try.f127, Try.func127, rfl, rfl, rfl, by kernel_rfl, by kernel_rfl, by kernel_rfl⟩
theorem E.fo128 : FnOk Try.prog 128 ⟨37, (Try.f128.body.getD .skip), Try.f128.results.toList, []⟩ := ⟨Try.f128, Try.func128, rfl, rfl, rfl, by kernel_rfl, by kernel_rfl, by kernel_rfl⟩
theorem E.fo129 : FnOk Try.prog 129 ⟨57, (Try.f129.body.getD .skip), Try.f129.results.toList, []⟩ := ⟨Try.f129, Try.func129, rfl, rfl, rfl, by kernel_rfl, by kernel_rfl, by kernel_rfl⟩
theorem E.fo130 : FnOk Try.prog 130 ⟨42, (Try.f130.body.getD .skip), Try.f130.results.toList, []⟩ := ⟨Try.f130, Try.func130, rfl, rfl, rfl, by kernel_rfl, by kernel_rfl, by kernel_rfl⟩
theorem E.fo131 : FnOk Try.prog 131 ⟨18, (Try.f131.body.getD .skip), Try.f131.results.toList, []⟩ := ⟨Try.f131, Try.func131, rfl, rfl, rfl, by kernel_rfl, by kernel_rfl, by kernel_rfl⟩
theorem E.fo132 : FnOk Try.prog 132 ⟨26, (Try.f132.body.getD .skip), Try.f132.results.toList, []⟩ := ⟨Try.f132, Try.func132, rfl, rfl, rfl, by kernel_rfl, by kernel_rfl, by kernel_rfl⟩
theorem E.fo133 : FnOk Try.prog 133 ⟨24, (Try.f133.body.getD .skip), Try.f133.results.toList, []⟩ := ⟨Try.f133, Try.func133, rfl, rfl, rfl, by kernel_rfl, by kernel_rfl, by kernel_rfl⟩
theorem E.fo134 : FnOk Try.prog 134 ⟨41, (Try.f134.body.getD .skip), Try.f134.results.toList, []⟩ := ⟨Try.f134, Try.func134, rfl, rfl, rfl, by kernel_rfl, by kernel_rfl, by kernel_rfl⟩
theorem E.fo135 : FnOk Try.prog 135 ⟨68, (Try.f135.body.getD .skip), Try.f135.results.toList, []⟩ := ⟨Try.f135, Try.func135, rfl, rfl, rfl, by kernel_rfl, by kernel_rfl, by kernel_rfl⟩
theorem E.fo136 : FnOk Try.prog 136 ⟨46, (Try.f136.body.getD .skip), Try.f136.results.toList, []⟩ := ⟨Try.f136, Try.func136, rfl, rfl, rfl, by kernel_rfl, by kernel_rfl, by kernel_rfl⟩
theorem E.fo137 : FnOk Try.prog 137 ⟨21, (Try.f137.body.getD .skip), Try.f137.results.toList, []⟩ := ⟨Try.f137, Try.func137, rfl, rfl, rfl, by kernel_rfl, by kernel_rfl, by kernel_rfl⟩
theorem E.fo138 : FnOk Try.prog 138 ⟨40, (Try.f138.body.getD .skip), Try.f138.results.toList, []⟩ := ⟨Try.f138, Try.func138, rfl, rfl, rfl, by kernel_rfl, by kernel_rfl, by kernel_rfl⟩
theorem E.fo139 : FnOk Try.prog 139 ⟨57, (Try.f139.body.getD .skip), Try.f139.results.toList, []⟩ := ⟨Try.f139, Try.func139, rfl, rfl, rfl, by kernel_rfl, by kernel_rfl, by kernel_rfl⟩
theorem E.fo140 : FnOk Try.prog 140 ⟨25, (Try.f140.body.getD .skip), Try.f140.results.toList, []⟩ := ⟨Try.f140, Try.func140, rfl, rfl, rfl, by kernel_rfl, by kernel_rfl, by kernel_rfl⟩
theorem E.fo141 : FnOk Try.prog 141 ⟨45, (Try.f141.body.getD .skip), Try.f141.results.toList, [7]⟩ := ⟨Try.f141, Try.func141, rfl, rfl, rfl, by kernel_rfl, by kernel_rfl, by kernel_rfl⟩
theorem E.fo142 : FnOk Try.prog 142 ⟨35, (Try.f142.body.getD .skip), Try.f142.results.toList, []⟩ := ⟨Try.f142, Try.func142, rfl, rfl, rfl, by kernel_rfl, by kernel_rfl, by kernel_rfl⟩
theorem E.fo143 : FnOk Try.prog 143 ⟨22, (Try.f143.body.getD .skip), Try.f143.results.toList, []⟩ := ⟨Try.f143, Try.func143, rfl, rfl, rfl, by kernel_rfl, by kernel_rfl, by kernel_rfl⟩
theorem E.fo144 : FnOk Try.prog 144 ⟨38, (Try.f144.body.getD .skip), Try.f144.results.toList, []⟩ := ⟨Try.f144, Try.func144, rfl, rfl, rfl, by kernel_rfl, by kernel_rfl, by kernel_rfl⟩
theorem E.fo145 : FnOk Try.prog 145 ⟨31, (Try.f145.body.getD .skip), Try.f145.results.toList, []⟩ := ⟨Try.f145, Try.func145, rfl, rfl, rfl, by kernel_rfl, by kernel_rfl, by kernel_rfl⟩
theorem E.fo146 : FnOk Try.prog 146 ⟨27, (Try.f146.body.getD .skip), Try.f146.results.toList, []⟩ := ⟨Try.f146, Try.func146, rfl, rfl, rfl, by kernel_rfl, by kernel_rfl, by kernel_rfl⟩
theorem E.fo148 : FnOk Try.prog 148 ⟨73, (Try.f148.body.getD .skip), Try.f148.results.toList, []⟩ := ⟨Try.f148, Try.func148, rfl, rfl, rfl, by kernel_rfl, by kernel_rfl, by kernel_rfl⟩
theorem E.fo150 : FnOk Try.prog 150 ⟨70, (Try.f150.body.getD .skip), Try.f150.results.toList, []⟩ := ⟨Try.f150, Try.func150, rfl, rfl, rfl, by kernel_rfl, by kernel_rfl, by kernel_rfl⟩
theorem E.fo151 : FnOk Try.prog 151 ⟨72, (Try.f151.body.getD .skip), Try.f151.results.toList, []⟩ := ⟨Try.f151, Try.func151, rfl, rfl, rfl, by kernel_rfl, by kernel_rfl, by kernel_rfl⟩
theorem E.fo152 : FnOk Try.prog 152 ⟨86, (Try.f152.body.getD .skip), Try.f152.results.toList, []⟩ := ⟨Try.f152, Try.func152, rfl, rfl, rfl, by kernel_rfl, by kernel_rfl, by kernel_rfl⟩
theorem E.fo153 : FnOk Try.prog 153 ⟨40, (Try.f153.body.getD .skip), Try.f153.results.toList, []⟩ := ⟨Try.f153, Try.func153, rfl, rfl, rfl, by kernel_rfl, by kernel_rfl, by kernel_rfl⟩
theorem E.fo154 : FnOk Try.prog 154 ⟨55, (Try.f154.body.getD .skip), Try.f154.results.toList, []⟩ := ⟨Try.f154, Try.func154, rfl, rfl, rfl, by kernel_rfl, by kernel_rfl, by kernel_rfl⟩
theorem E.fo155 : FnOk Try.prog 155 ⟨18, (Try.f155.body.getD .skip), Try.f155.results.toList, [4]⟩ := ⟨Try.f155, Try.func155, rfl, rfl, rfl, by kernel_rfl, by kernel_rfl, by kernel_rfl⟩
theorem E.fo156 : FnOk Try.prog 156 ⟨51, (Try.f156.body.getD .skip), Try.f156.results.toList, []⟩ := ⟨Try.f156, Try.func156, rfl, rfl, rfl, by kernel_rfl, by kernel_rfl, by kernel_rfl⟩
theorem E.fo157 : FnOk Try.prog 157 ⟨21, (Try.f157.body.getD .skip), Try.f157.results.toList, [4]⟩ := ⟨Try.f157, Try.func157, rfl, rfl, rfl, by kernel_rfl, by kernel_rfl, by kernel_rfl⟩
theorem E.fo159 : FnOk Try.prog 159 ⟨65, (Try.f159.body.getD .skip), Try.f159.results.toList, []⟩ := ⟨Try.f159, Try.func159, rfl, rfl, rfl, by kernel_rfl, by kernel_rfl, by kernel_rfl⟩
theorem E.fo160 : FnOk Try.prog 160 ⟨53, (Try.f160.body.getD .skip), Try.f160.results.toList, []⟩ := ⟨Try.f160, Try.func160, rfl, rfl, rfl, by kernel_rfl, by kernel_rfl, by kernel_rfl⟩
theorem E.fo161 : FnOk Try.prog 161 ⟨31, (Try.f161.body.getD .skip), Try.f161.results.toList, []⟩ := ⟨Try.f161, Try.func161, rfl, rfl, rfl, by kernel_rfl, by kernel_rfl, by kernel_rfl⟩
theorem E.fo162 : FnOk Try.prog 162 ⟨58, (Try.f162.body.getD .skip), Try.f162.results.toList, []⟩ := ⟨Try.f162, Try.func162, rfl, rfl, rfl, by kernel_rfl, by kernel_rfl, by kernel_rfl⟩
theorem E.fo163 : FnOk Try.prog 163 ⟨103, (Try.f163.body.getD .skip), Try.f163.results.toList, []⟩ := ⟨Try.f163, Try.func163, rfl, rfl, rfl, by kernel_rfl, by kernel_rfl, by kernel_rfl⟩
theorem E.fo164 : FnOk Try.prog 164 ⟨86, (Try.f164.body.getD .skip), Try.f164.results.toList, []⟩ := ⟨Try.f164, Try.func164, rfl, rfl, rfl, by kernel_rfl, by kernel_rfl, by kernel_rfl⟩
theorem E.fo165 : FnOk Try.prog 165 ⟨93, (Try.f165.body.getD .skip), Try.f165.results.toList, []⟩ := ⟨Try.f165, Try.func165, rfl, rfl, rfl, by kernel_rfl, by kernel_rfl, by kernel_rfl⟩
theorem E.fo166 : FnOk Try.prog 166 ⟨153, (Try.f166.body.getD .skip), Try.f166.results.toList, [24]⟩ := ⟨Try.f166, Try.func166, rfl, rfl, rfl, by kernel_rfl, by kernel_rfl, by kernel_rfl⟩
theorem E.fo167 : FnOk Try.prog 167 ⟨46, (Try.f167.body.getD .skip), Try.f167.results.toList, []⟩ := ⟨Try.f167, Try.func167, rfl, rfl, rfl, by kernel_rfl, by kernel_rfl, by kernel_rfl⟩
theorem E.fo168 : FnOk Try.prog 168 ⟨34, (Try.f168.body.getD .skip), Try.f168.results.toList, []⟩ := ⟨Try.f168, Try.func168, rfl, rfl, rfl, by kernel_rfl, by kernel_rfl, by kernel_rfl⟩
theorem E.fo169 : FnOk Try.prog 169 ⟨10, (Try.f169.body.getD .skip), Try.f169.results.toList, []⟩ := ⟨Try.f169, Try.func169, rfl, rfl, rfl, by kernel_rfl, by kernel_rfl, by kernel_rfl⟩
theorem E.fo170 : FnOk Try.prog 170 ⟨38, (Try.f170.body.getD .skip), Try.f170.results.toList, [11]⟩ := ⟨Try.f170, Try.func170, rfl, rfl, rfl, by kernel_rfl, by kernel_rfl, by kernel_rfl⟩
theorem E.fo171 : FnOk Try.prog 171 ⟨89, (Try.f171.body.getD .skip), Try.f171.results.toList, []⟩ := ⟨Try.f171, Try.func171, rfl, rfl, rfl, by kernel_rfl, by kernel_rfl, by kernel_rfl⟩
theorem E.fo172 : FnOk Try.prog 172 ⟨52, (Try.f172.body.getD .skip), Try.f172.results.toList, []⟩ := ⟨Try.f172, Try.func172, rfl, rfl, rfl, by kernel_rfl, by kernel_rfl, by kernel_rfl⟩
theorem E.fo173 : FnOk Try.prog 173 ⟨24, (Try.f173.body.getD .skip), Try.f173.results.toList, []⟩ := ⟨Try.f173, Try.func173, rfl, rfl, rfl, by kernel_rfl, by kernel_rfl, by kernel_rfl⟩
theorem E.fo174 : FnOk Try.prog 174 ⟨40, (Try.f174.body.getD .skip), Try.f174.results.toList, []⟩ := ⟨Try.f174, Try.func174, rfl, rfl, rfl, by kernel_rfl, by kernel_rfl, by kernel_rfl⟩
theorem E.fo175 : FnOk Try.prog 175 ⟨84, (Try.f175.body.getD .skip), Try.f175.results.toList, [21]⟩ := ⟨Try.f175, Try.func175, rfl, rfl, rfl, by kernel_rfl, by kernel_rfl, by kernel_rfl⟩
theorem E.fo176 : FnOk Try.prog 176 ⟨36, (Try.f176.body.getD .skip), Try.f176.results.toList, []⟩ := ⟨Try.f176, Try.func176, rfl, rfl, rfl, by kernel_rfl, by kernel_rfl, by kernel_rfl⟩
theorem E.fo177 : FnOk Try.prog 177 ⟨60, (Try.f177.body.getD .skip), Try.f177.results.toList, []⟩ := ⟨Try.f177, Try.func177, rfl, rfl, rfl, by kernel_rfl, by kernel_rfl, by kernel_rfl⟩
theorem E.fo178 : FnOk Try.prog 178 ⟨53, (Try.f178.body.getD .skip), Try.f178.results.toList, []⟩ := ⟨Try.f178, Try.func178, rfl, rfl, rfl, by kernel_rfl, by kernel_rfl, by kernel_rfl⟩
theorem E.fo179 : FnOk Try.prog 179 ⟨23, (Try.f179.body.getD .skip), Try.f179.results.toList, []⟩ := ⟨Try.f179, Try.func179, rfl, rfl, rfl, by kernel_rfl, by kernel_rfl, by kernel_rfl⟩
theorem E.fo180 : FnOk Try.prog 180 ⟨23, (Try.f180.body.getD .skip), Try.f180.results.toList, []⟩ := ⟨Try.f180, Try.func180, rfl, rfl, rfl, by kernel_rfl, by kernel_rfl, by kernel_rfl⟩
theorem E.fo181 : FnOk Try.prog 181 ⟨33, (Try.f181.body.getD .skip), Try.f181.results.toList, []⟩ := ⟨Try.f181, Try.func181, rfl, rfl, rfl, by kernel_rfl, by kernel_rfl, by kernel_rfl⟩
theorem E.fo182 : FnOk Try.prog 182 ⟨149, (Try.f182.body.getD .skip), Try.f182.results.toList, [17]⟩ := ⟨Try.f182, Try.func182, rfl, rfl, rfl, by kernel_rfl, by kernel_rfl, by kernel_rfl⟩
theorem E.fo183 : FnOk Try.prog 183 ⟨106, (Try.f183.body.getD .skip), Try.f183.results.toList, []⟩ := ⟨Try.f183, Try.func183, rfl, rfl, rfl, by kernel_rfl, by kernel_rfl, by kernel_rfl⟩
theorem E.fo184 : FnOk Try.prog 184 ⟨84, (Try.f184.body.getD .skip), Try.f184.results.toList, []⟩ := ⟨Try.f184, Try.func184, rfl, rfl, rfl, by kernel_rfl, by kernel_rfl, by kernel_rfl⟩
theorem E.fo185 : FnOk Try.prog 185 ⟨17, (Try.f185.body.getD .skip), Try.f185.results.toList, []⟩ := ⟨Try.f185, Try.func185, rfl, rfl, rfl, by kernel_rfl, by kernel_rfl, by kernel_rfl⟩
theorem E.fo186 : FnOk Try.prog 186 ⟨67, (Try.f186.body.getD .skip), Try.f186.results.toList, []⟩ := ⟨Try.f186, Try.func186, rfl, rfl, rfl, by kernel_rfl, by kernel_rfl, by kernel_rfl⟩
theorem E.fo187 : FnOk Try.prog 187 ⟨32, (Try.f187.body.getD .skip), Try.f187.results.toList, []⟩ := ⟨Try.f187, Try.func187, rfl, rfl, rfl, by kernel_rfl, by kernel_rfl, by kernel_rfl⟩
theorem E.fo188 : FnOk Try.prog 188 ⟨10, (Try.f188.body.getD .skip), Try.f188.results.toList, []⟩ := ⟨Try.f188, Try.func188, rfl, rfl, rfl, by kernel_rfl, by kernel_rfl, by kernel_rfl⟩
theorem E.fo190 : FnOk Try.prog 190 ⟨27, (Try.f190.body.getD .skip), Try.f190.results.toList, []⟩ := ⟨Try.f190, Try.func190, rfl, rfl, rfl, by kernel_rfl, by kernel_rfl, by kernel_rfl⟩
theorem E.fo191 : FnOk Try.prog 191 ⟨40, (Try.f191.body.getD .skip), Try.f191.results.toList, []⟩ := ⟨Try.f191, Try.func191, rfl, rfl, rfl, by kernel_rfl, by kernel_rfl, by kernel_rfl⟩
theorem E.fo192 : FnOk Try.prog 192 ⟨78, (Try.f192.body.getD .skip), Try.f192.results.toList, []⟩ := ⟨Try.f192, Try.func192, rfl, rfl, rfl, by kernel_rfl, by kernel_rfl, by kernel_rfl⟩
theorem E.fo193 : FnOk Try.prog 193 ⟨25, (Try.f193.body.getD .skip), Try.f193.results.toList, []⟩ := ⟨Try.f193, Try.func193, rfl, rfl, rfl, by kernel_rfl, by kernel_rfl, by kernel_rfl⟩
theorem E.fo194 : FnOk Try.prog 194 ⟨9, (Try.f194.body.getD .skip), Try.f194.results.toList, []⟩ := ⟨Try.f194, Try.func194, rfl, rfl, rfl, by kernel_rfl, by kernel_rfl, by kernel_rfl⟩
theorem E.fo196 : FnOk Try.prog 196 ⟨8, (Try.f196.body.getD .skip), Try.f196.results.toList, []⟩ := ⟨Try.f196, Try.func196, rfl, rfl, rfl, by kernel_rfl, by kernel_rfl, by kernel_rfl⟩
theorem E.fo197 : FnOk Try.prog 197 ⟨39, (Try.f197.body.getD .skip), Try.f197.results.toList, []⟩ := ⟨Try.f197, Try.func197, rfl, rfl, rfl, by kernel_rfl, by kernel_rfl, by kernel_rfl⟩
theorem E.fo198 : FnOk Try.prog 198 ⟨18, (Try.f198.body.getD .skip), Try.f198.results.toList, []⟩ := ⟨Try.f198, Try.func198, rfl, rfl, rfl, by kernel_rfl, by kernel_rfl, by kernel_rfl⟩
theorem E.fo199 : FnOk Try.prog 199 ⟨32, (Try.f199.body.getD .skip), Try.f199.results.toList, []⟩ := ⟨Try.f199, Try.func199, rfl, rfl, rfl, by kernel_rfl, by kernel_rfl, by kernel_rfl⟩
theorem E.fo200 : FnOk Try.prog 200 ⟨31, (Try.f200.body.getD .skip), Try.f200.results.toList, []⟩ := ⟨Try.f200, Try.func200, rfl, rfl, rfl, by kernel_rfl, by kernel_rfl, by kernel_rfl⟩
theorem E.fo201 : FnOk Try.prog 201 ⟨31, (Try.f201.body.getD .skip), Try.f201.results.toList, []⟩ := ⟨Try.f201, Try.func201, rfl, rfl, rfl, by kernel_rfl, by kernel_rfl, by kernel_rfl⟩
theorem E.fo202 : FnOk Try.prog 202 ⟨37, (Try.f202.body.getD .skip), Try.f202.results.toList, []⟩ := ⟨Try.f202, Try.func202, rfl, rfl, rfl, by kernel_rfl, by kernel_rfl, by kernel_rfl⟩
theorem E.fo203 : FnOk Try.prog 203 ⟨11, (Try.f203.body.getD .skip), Try.f203.results.toList, []⟩ := ⟨Try.f203, Try.func203, rfl, rfl, rfl, by kernel_rfl, by kernel_rfl, by kernel_rfl⟩
theorem E.fo204 : FnOk Try.prog 204 ⟨29, (Try.f204.body.getD .skip), Try.f204.results.toList, []⟩ := ⟨Try.f204, Try.func204, rfl, rfl, rfl, by kernel_rfl, by kernel_rfl, by kernel_rfl⟩
theorem E.fo205 : FnOk Try.prog 205 ⟨35, (Try.f205.body.getD .skip), Try.f205.results.toList, [9]⟩ := ⟨Try.f205, Try.func205, rfl, rfl, rfl, by kernel_rfl, by kernel_rfl, by kernel_rfl⟩
theorem E.fo206 : FnOk Try.prog 206 ⟨45, (Try.f206.body.getD .skip), Try.f206.results.toList, []⟩ := ⟨Try.f206, Try.func206, rfl, rfl, rfl, by kernel_rfl, by kernel_rfl, by kernel_rfl⟩
theorem E.fo207 : FnOk Try.prog 207 ⟨29, (Try.f207.body.getD .skip), Try.f207.results.toList, []⟩ := ⟨Try.f207, Try.func207, rfl, rfl, rfl, by kernel_rfl, by kernel_rfl, by kernel_rfl⟩
theorem E.fo208 : FnOk Try.prog 208 ⟨31, (Try.f208.body.getD .skip), Try.f208.results.toList, []⟩ := ⟨Try.f208, Try.func208, rfl, rfl, rfl, by kernel_rfl, by kernel_rfl, by kernel_rfl⟩
theorem E.fo209 : FnOk Try.prog 209 ⟨9, (Try.f209.body.getD .skip), Try.f209.results.toList, []⟩ := ⟨Try.f209, Try.func209, rfl, rfl, rfl, by kernel_rfl, by kernel_rfl, by kernel_rfl⟩
theorem E.fo210 : FnOk Try.prog 210 ⟨6, (Try.f210.body.getD .skip), Try.f210.results.toList, []⟩ := ⟨Try.f210, Try.func210, rfl, rfl, rfl, by kernel_rfl, by kernel_rfl, by kernel_rfl⟩
theorem E.fo211 : FnOk Try.prog 211 ⟨8, (Try.f211.body.getD .skip), Try.f211.results.toList, []⟩ := ⟨Try.f211, Try.func211, rfl, rfl, rfl, by kernel_rfl, by kernel_rfl, by kernel_rfl⟩
theorem E.fo212 : FnOk Try.prog 212 ⟨51, (Try.f212.body.getD .skip), Try.f212.results.toList, []⟩ := ⟨Try.f212, Try.func212, rfl, rfl, rfl, by kernel_rfl, by kernel_rfl, by kernel_rfl⟩
theorem E.fo213 : FnOk Try.prog 213 ⟨44, (Try.f213.body.getD .skip), Try.f213.results.toList, []⟩ := ⟨Try.f213, Try.func213, rfl, rfl, rfl, by kernel_rfl, by kernel_rfl, by kernel_rfl⟩
theorem E.fo214 : FnOk Try.prog 214 ⟨44, (Try.f214.body.getD .skip), Try.f214.results.toList, []⟩ := ⟨Try.f214, Try.func214, rfl, rfl, rfl, by kernel_rfl, by kernel_rfl, by kernel_rfl⟩
theorem E.fo215 : FnOk Try.prog 215 ⟨36, (Try.f215.body.getD .skip), Try.f215.results.toList, []⟩ := ⟨Try.f215, Try.func215, rfl, rfl, rfl, by kernel_rfl, by kernel_rfl, by kernel_rfl⟩
theorem E.fo216 : FnOk Try.prog 216 ⟨9, (Try.f216.body.getD .skip), Try.f216.results.toList, []⟩ := ⟨Try.f216, Try.func216, rfl, rfl, rfl, by kernel_rfl, by kernel_rfl, by kernel_rfl⟩
theorem E.fo217 : FnOk Try.prog 217 ⟨45, (Try.f217.body.getD .skip), Try.f217.results.toList, []⟩ := ⟨Try.f217, Try.func217, rfl, rfl, rfl, by kernel_rfl, by kernel_rfl, by kernel_rfl⟩
theorem E.fo218 : FnOk Try.prog 218 ⟨29, (Try.f218.body.getD .skip), Try.f218.results.toList, []⟩ := ⟨Try.f218, Try.func218, rfl, rfl, rfl, by kernel_rfl, by kernel_rfl, by kernel_rfl⟩
theorem E.fo219 : FnOk Try.prog 219 ⟨43, (Try.f219.body.getD .skip), Try.f219.results.toList, []⟩ := ⟨Try.f219, Try.func219, rfl, rfl, rfl, by kernel_rfl, by kernel_rfl, by kernel_rfl⟩
theorem E.fo220 : FnOk Try.prog 220 ⟨21, (Try.f220.body.getD .skip), Try.f220.results.toList, []⟩ := ⟨Try.f220, Try.func220, rfl, rfl, rfl, by kernel_rfl, by kernel_rfl, by kernel_rfl⟩
theorem E.fo221 : FnOk Try.prog 221 ⟨40, (Try.f221.body.getD .skip), Try.f221.results.toList, []⟩ := ⟨Try.f221, Try.func221, rfl, rfl, rfl, by kernel_rfl, by kernel_rfl, by kernel_rfl⟩
theorem E.fo222 : FnOk Try.prog 222 ⟨31, (Try.f222.body.getD .skip), Try.f222.results.toList, []⟩ := ⟨Try.f222, Try.func222, rfl, rfl, rfl, by kernel_rfl, by kernel_rfl, by kernel_rfl⟩
theorem E.fo223 : FnOk Try.prog 223 ⟨21, (Try.f223.body.getD .skip), Try.f223.results.toList, []⟩ := ⟨Try.f223, Try.func223, rfl, rfl, rfl, by kernel_rfl, by kernel_rfl, by kernel_rfl⟩
theorem E.fo224 : FnOk Try.prog 224 ⟨23, (Try.f224.body.getD .skip), Try.f224.results.toList, []⟩ := ⟨Try.f224, Try.func224, rfl, rfl, rfl, by kernel_rfl, by kernel_rfl, by kernel_rfl⟩
theorem E.fo225 : FnOk Try.prog 225 ⟨43, (Try.f225.body.getD .skip), Try.f225.results.toList, []⟩ := ⟨Try.f225, Try.func225, rfl, rfl, rfl, by kernel_rfl, by kernel_rfl, by kernel_rfl⟩
theorem E.fo226 : FnOk Try.prog 226 ⟨16, (Try.f226.body.getD .skip), Try.f226.results.toList, []⟩ := ⟨Try.f226, Try.func226, rfl, rfl, rfl, by kernel_rfl, by kernel_rfl, by kernel_rfl⟩
theorem E.fo227 : FnOk Try.prog 227 ⟨55, (Try.f227.body.getD .skip), Try.f227.results.toList, []⟩ := ⟨Try.f227, Try.func227, rfl, rfl, rfl, by kernel_rfl, by kernel_rfl, by kernel_rfl⟩
theorem E.fo228 : FnOk Try.prog 228 ⟨40, (Try.f228.body.getD .skip), Try.f228.results.toList, []⟩ := ⟨Try.f228, Try.func228, rfl, rfl, rfl, by kernel_rfl, by kernel_rfl, by kernel_rfl⟩
theorem E.fo229 : FnOk Try.prog 229 ⟨51, (Try.f229.body.getD .skip), Try.f229.results.toList, []⟩ := ⟨Try.f229, Try.func229, rfl, rfl, rfl, by kernel_rfl, by kernel_rfl, by kernel_rfl⟩
theorem E.fo230 : FnOk Try.prog 230 ⟨56, (Try.f230.body.getD .skip), Try.f230.results.toList, []⟩ := ⟨Try.f230, Try.func230, rfl, rfl, rfl, by kernel_rfl, by kernel_rfl, by kernel_rfl⟩
theorem E.fo231 : FnOk Try.prog 231 ⟨13, (Try.f231.body.getD .skip), Try.f231.results.toList, []⟩ := ⟨Try.f231, Try.func231, rfl, rfl, rfl, by kernel_rfl, by kernel_rfl, by kernel_rfl⟩
theorem E.fo232 : FnOk Try.prog 232 ⟨38, (Try.f232.body.getD .skip), Try.f232.results.toList, []⟩ := ⟨Try.f232, Try.func232, rfl, rfl, rfl, by kernel_rfl, by kernel_rfl, by kernel_rfl⟩
theorem E.fo233 : FnOk Try.prog 233 ⟨36, (Try.f233.body.getD .skip), Try.f233.results.toList, []⟩ := ⟨Try.f233, Try.func233, rfl, rfl, rfl, by kernel_rfl, by kernel_rfl, by kernel_rfl⟩
theorem E.fo234 : FnOk Try.prog 234 ⟨29, (Try.f234.body.getD .skip), Try.f234.results.toList, []⟩ := ⟨Try.f234, Try.func234, rfl, rfl, rfl, by kernel_rfl, by kernel_rfl, by kernel_rfl⟩
theorem E.fo235 : FnOk Try.prog 235 ⟨61, (Try.f235.body.getD .skip), Try.f235.results.toList, []⟩ := ⟨Try.f235, Try.func235, rfl, rfl, rfl, by kernel_rfl, by kernel_rfl, by kernel_rfl⟩
theorem E.fo236 : FnOk Try.prog 236 ⟨33, (Try.f236.body.getD .skip), Try.f236.results.toList, []⟩ := ⟨Try.f236, Try.func236, rfl, rfl, rfl, by kernel_rfl, by kernel_rfl, by kernel_rfl⟩
theorem E.fo237 : FnOk Try.prog 237 ⟨6, (Try.f237.body.getD .skip), Try.f237.results.toList, []⟩ := ⟨Try.f237, Try.func237, rfl, rfl, rfl, by kernel_rfl, by kernel_rfl, by kernel_rfl⟩
theorem E.fo238 : FnOk Try.prog 238 ⟨42, (Try.f238.body.getD .skip), Try.f238.results.toList, []⟩ := ⟨Try.f238, Try.func238, rfl, rfl, rfl, by kernel_rfl, by kernel_rfl, by kernel_rfl⟩
theorem E.fo239 : FnOk Try.prog 239 ⟨77, (Try.f239.body.getD .skip), Try.f239.results.toList, []⟩ := ⟨Try.f239, Try.func239, rfl, rfl, rfl, by kernel_rfl, by kernel_rfl, by kernel_rfl⟩
theorem E.fo240 : FnOk Try.prog 240 ⟨58, (Try.f240.body.getD .skip), Try.f240.results.toList, []⟩ := ⟨Try.f240, Try.func240, rfl, rfl, rfl, by kernel_rfl, by kernel_rfl, by kernel_rfl⟩
theorem E.fo241 : FnOk Try.prog 241 ⟨61, (Try.f241.body.getD .skip), Try.f241.results.toList, []⟩ := ⟨Try.f241, Try.func241, rfl, rfl, rfl, by kernel_rfl, by kernel_rfl, by kernel_rfl⟩
theorem E.fo242 : FnOk Try.prog 242 ⟨17, (Try.f242.body.getD .skip), Try.f242.results.toList, []⟩ := ⟨Try.f242, Try.func242, rfl, rfl, rfl, by kernel_rfl, by kernel_rfl, by kernel_rfl⟩
theorem E.fo243 : FnOk Try.prog 243 ⟨32, (Try.f243.body.getD .skip), Try.f243.results.toList, []⟩ := ⟨Try.f243, Try.func243, rfl, rfl, rfl, by kernel_rfl, by kernel_rfl, by kernel_rfl⟩
theorem E.fo244 : FnOk Try.prog 244 ⟨59, (Try.f244.body.getD .skip), Try.f244.results.toList, []⟩ := ⟨Try.f244, Try.func244, rfl, rfl, rfl, by kernel_rfl, by kernel_rfl, by kernel_rfl⟩
theorem E.fo245 : FnOk Try.prog 245 ⟨32, (Try.f245.body.getD .skip), Try.f245.results.toList, []⟩ := ⟨Try.f245, Try.func245, rfl, rfl, rfl, by kernel_rfl, by kernel_rfl, by kernel_rfl⟩
theorem E.fo246 : FnOk Try.prog 246 ⟨27, (Try.f246.body.getD .skip), Try.f246.results.toList, []⟩ := ⟨Try.f246, Try.func246, rfl, rfl, rfl, by kernel_rfl, by kernel_rfl, by kernel_rfl⟩
theorem E.fo247 : FnOk Try.prog 247 ⟨26, (Try.f247.body.getD .skip), Try.f247.results.toList, []⟩ := ⟨Try.f247, Try.func247, rfl, rfl, rfl, by kernel_rfl, by kernel_rfl, by kernel_rfl⟩
theorem E.fo248 : FnOk Try.prog 248 ⟨9, (Try.f248.body.getD .skip), Try.f248.results.toList, []⟩ := ⟨Try.f248, Try.func248, rfl, rfl, rfl, by kernel_rfl, by kernel_rfl, by kernel_rfl⟩
theorem E.fo249 : FnOk Try.prog 249 ⟨26, (Try.f249.body.getD .skip), Try.f249.results.toList, []⟩ := ⟨Try.f249, Try.func249, rfl, rfl, rfl, by kernel_rfl, by kernel_rfl, by kernel_rfl⟩
theorem E.fo250 : FnOk Try.prog 250 ⟨24, (Try.f250.body.getD .skip), Try.f250.results.toList, []⟩ := ⟨Try.f250, Try.func250, rfl, rfl, rfl, by kernel_rfl, by kernel_rfl, by kernel_rfl⟩
theorem E.fo251 : FnOk Try.prog 251 ⟨33, (Try.f251.body.getD .skip), Try.f251.results.toList, []⟩ := ⟨Try.f251, Try.func251, rfl, rfl, rfl, by kernel_rfl, by kernel_rfl, by kernel_rfl⟩
theorem E.fo252 : FnOk Try.prog 252 ⟨13, (Try.f252.body.getD .skip), Try.f252.results.toList, []⟩ := ⟨Try.f252, Try.func252, rfl, rfl, rfl, by kernel_rfl, by kernel_rfl, by kernel_rfl⟩
theorem E.fo253 : FnOk Try.prog 253 ⟨21, (Try.f253.body.getD .skip), Try.f253.results.toList, []⟩ := ⟨Try.f253, Try.func253, rfl, rfl, rfl, by kernel_rfl, by kernel_rfl, by kernel_rfl⟩
theorem E.fo254 : FnOk Try.prog 254 ⟨16, (Try.f254.body.getD .skip), Try.f254.results.toList, []⟩ := ⟨Try.f254, Try.func254, rfl, rfl, rfl, by kernel_rfl, by kernel_rfl, by kernel_rfl⟩
theorem E.fo255 : FnOk Try.prog 255 ⟨81, (Try.f255.body.getD .skip), Try.f255.results.toList, []⟩ := ⟨Try.f255, Try.func255, rfl, rfl, rfl, by kernel_rfl, by kernel_rfl, by kernel_rfl⟩
theorem E.fo256 : FnOk Try.prog 256 ⟨8, (Try.f256.body.getD .skip), Try.f256.results.toList, []⟩ := ⟨Try.f256, Try.func256, rfl, rfl, rfl, by kernel_rfl, by kernel_rfl, by kernel_rfl⟩
theorem E.fo257 : FnOk Try.prog 257 ⟨8, (Try.f257.body.getD .skip), Try.f257.results.toList, []⟩ := ⟨Try.f257, Try.func257, rfl, rfl, rfl, by kernel_rfl, by kernel_rfl, by kernel_rfl⟩
theorem E.fo258 : FnOk Try.prog 258 ⟨19, (Try.f258.body.getD .skip), Try.f258.results.toList, []⟩ := ⟨Try.f258, Try.func258, rfl, rfl, rfl, by kernel_rfl, by kernel_rfl, by kernel_rfl⟩
theorem E.fo259 : FnOk Try.prog 259 ⟨7, (Try.f259.body.getD .skip), Try.f259.results.toList, []⟩ := ⟨Try.f259, Try.func259, rfl, rfl, rfl, by kernel_rfl, by kernel_rfl, by kernel_rfl⟩
theorem E.fo260 : FnOk Try.prog 260 ⟨62, (Try.f260.body.getD .skip), Try.f260.results.toList, []⟩ := ⟨Try.f260, Try.func260, rfl, rfl, rfl, by kernel_rfl, by kernel_rfl, by kernel_rfl⟩
theorem E.fo261 : FnOk Try.prog 261 ⟨14, (Try.f261.body.getD .skip), Try.f261.results.toList, []⟩ := ⟨Try.f261, Try.func261, rfl, rfl, rfl, by kernel_rfl, by kernel_rfl, by kernel_rfl⟩
theorem E.fo262 : FnOk Try.prog 262 ⟨17, (Try.f262.body.getD .skip), Try.f262.results.toList, []⟩ := ⟨Try.f262, Try.func262, rfl, rfl, rfl, by kernel_rfl, by kernel_rfl, by kernel_rfl⟩
theorem E.fo263 : FnOk Try.prog 263 ⟨42, (Try.f263.body.getD .skip), Try.f263.results.toList, []⟩ := ⟨Try.f263, Try.func263, rfl, rfl, rfl, by kernel_rfl, by kernel_rfl, by kernel_rfl⟩
theorem E.fo264 : FnOk Try.prog 264 ⟨9, (Try.f264.body.getD .skip), Try.f264.results.toList, []⟩ := ⟨Try.f264, Try.func264, rfl, rfl, rfl, by kernel_rfl, by kernel_rfl, by kernel_rfl⟩
theorem E.fo265 : FnOk Try.prog 265 ⟨9, (Try.f265.body.getD .skip), Try.f265.results.toList, []⟩ := ⟨Try.f265, Try.func265, rfl, rfl, rfl, by kernel_rfl, by kernel_rfl, by kernel_rfl⟩
theorem E.fo266 : FnOk Try.prog 266 ⟨5, (Try.f266.body.getD .skip), Try.f266.results.toList, []⟩ := ⟨Try.f266, Try.func266, rfl, rfl, rfl, by kernel_rfl, by kernel_rfl, by kernel_rfl⟩
theorem E.fo267 : FnOk Try.prog 267 ⟨14, (Try.f267.body.getD .skip), Try.f267.results.toList, []⟩ := ⟨Try.f267, Try.func267, rfl, rfl, rfl, by kernel_rfl, by kernel_rfl, by kernel_rfl⟩
theorem E.fo268 : FnOk Try.prog 268 ⟨9, (Try.f268.body.getD .skip), Try.f268.results.toList, []⟩ := ⟨Try.f268, Try.func268, rfl, rfl, rfl, by kernel_rfl, by kernel_rfl, by kernel_rfl⟩
theorem E.fo269 : FnOk Try.prog 269 ⟨5, (Try.f269.body.getD .skip), Try.f269.results.toList, []⟩ := ⟨Try.f269, Try.func269, rfl, rfl, rfl, by kernel_rfl, by kernel_rfl, by kernel_rfl⟩
theorem E.fo270 : FnOk Try.prog 270 ⟨61, (Try.f270.body.getD .skip), Try.f270.results.toList, []⟩ := ⟨Try.f270, Try.func270, rfl, rfl, rfl, by kernel_rfl, by kernel_rfl, by kernel_rfl⟩
theorem E.fo271 : FnOk Try.prog 271 ⟨25, (Try.f271.body.getD .skip), Try.f271.results.toList, []⟩ := ⟨Try.f271, Try.func271, rfl, rfl, rfl, by kernel_rfl, by kernel_rfl, by kernel_rfl⟩
theorem E.fo272 : FnOk Try.prog 272 ⟨9, (Try.f272.body.getD .skip), Try.f272.results.toList, []⟩ := ⟨Try.f272, Try.func272, rfl, rfl, rfl, by kernel_rfl, by kernel_rfl, by kernel_rfl⟩
theorem E.fo273 : FnOk Try.prog 273 ⟨9, (Try.f273.body.getD .skip), Try.f273.results.toList, []⟩ := ⟨Try.f273, Try.func273, rfl, rfl, rfl, by kernel_rfl, by kernel_rfl, by kernel_rfl⟩
theorem E.fo274 : FnOk Try.prog 274 ⟨10, (Try.f274.body.getD .skip), Try.f274.results.toList, []⟩ := ⟨Try.f274, Try.func274, rfl, rfl, rfl, by kernel_rfl, by kernel_rfl, by kernel_rfl⟩
theorem E.fo275 : FnOk Try.prog 275 ⟨19, (Try.f275.body.getD .skip), Try.f275.results.toList, []⟩ := ⟨Try.f275, Try.func275, rfl, rfl, rfl, by kernel_rfl, by kernel_rfl, by kernel_rfl⟩
theorem E.fo276 : FnOk Try.prog 276 ⟨33, (Try.f276.body.getD .skip), Try.f276.results.toList, []⟩ := ⟨Try.f276, Try.func276, rfl, rfl, rfl, by kernel_rfl, by kernel_rfl, by kernel_rfl⟩
theorem E.fo277 : FnOk Try.prog 277 ⟨55, (Try.f277.body.getD .skip), Try.f277.results.toList, []⟩ := ⟨Try.f277, Try.func277, rfl, rfl, rfl, by kernel_rfl, by kernel_rfl, by kernel_rfl⟩
theorem E.fo278 : FnOk Try.prog 278 ⟨28, (Try.f278.body.getD .skip), Try.f278.results.toList, []⟩ := ⟨Try.f278, Try.func278, rfl, rfl, rfl, by kernel_rfl, by kernel_rfl, by kernel_rfl⟩
theorem E.fo279 : FnOk Try.prog 279 ⟨14, (Try.f279.body.getD .skip), Try.f279.results.toList, []⟩ := ⟨Try.f279, Try.func279, rfl, rfl, rfl, by kernel_rfl, by kernel_rfl, by kernel_rfl⟩
theorem E.fo280 : FnOk Try.prog 280 ⟨29, (Try.f280.body.getD .skip), Try.f280.results.toList, [5]⟩ := ⟨Try.f280, Try.func280, rfl, rfl, rfl, by kernel_rfl, by kernel_rfl, by kernel_rfl⟩
theorem E.fo281 : FnOk Try.prog 281 ⟨4, (Try.f281.body.getD .skip), Try.f281.results.toList, []⟩ := ⟨Try.f281, Try.func281, rfl, rfl, rfl, by kernel_rfl, by kernel_rfl, by kernel_rfl⟩
theorem E.fo282 : FnOk Try.prog 282 ⟨3, (Try.f282.body.getD .skip), Try.f282.results.toList, []⟩ := ⟨Try.f282, Try.func282, rfl, rfl, rfl, by kernel_rfl, by kernel_rfl, by kernel_rfl⟩
theorem E.fo283 : FnOk Try.prog 283 ⟨4, (Try.f283.body.getD .skip), Try.f283.results.toList, []⟩ := ⟨Try.f283, Try.func283, rfl, rfl, rfl, by kernel_rfl, by kernel_rfl, by kernel_rfl⟩
theorem E.fo284 : FnOk Try.prog 284 ⟨6, (Try.f284.body.getD .skip), Try.f284.results.toList, []⟩ := ⟨Try.f284, Try.func284, rfl, rfl, rfl, by kernel_rfl, by kernel_rfl, by kernel_rfl⟩
theorem E.fo285 : FnOk Try.prog 285 ⟨7, (Try.f285.body.getD .skip), Try.f285.results.toList, []⟩ := ⟨Try.f285, Try.func285, rfl, rfl, rfl, by kernel_rfl, by kernel_rfl, by kernel_rfl⟩
theorem E.fo286 : FnOk Try.prog 286 ⟨76, (Try.f286.body.getD .skip), Try.f286.results.toList, []⟩ := ⟨Try.f286, Try.func286, rfl, rfl, rfl, by kernel_rfl, by kernel_rfl, by kernel_rfl⟩
theorem E.fo287 : FnOk Try.prog 287 ⟨40, (Try.f287.body.getD .skip), Try.f287.results.toList, []⟩ := ⟨Try.f287, Try.func287, rfl, rfl, rfl, by kernel_rfl, by kernel_rfl, by kernel_rfl⟩
theorem E.fo288 : FnOk Try.prog 288 ⟨8, (Try.f288.body.getD .skip), Try.f288.results.toList, []⟩ := ⟨Try.f288, Try.func288, rfl, rfl, rfl, by kernel_rfl, by kernel_rfl, by kernel_rfl⟩
theorem E.fo289 : FnOk Try.prog 289 ⟨25, (Try.f289.body.getD .skip), Try.f289.results.toList, []⟩ := ⟨Try.f289, Try.func289, rfl, rfl, rfl, by kernel_rfl, by kernel_rfl, by kernel_rfl⟩
theorem E.fo290 : FnOk Try.prog 290 ⟨24, (Try.f290.body.getD .skip), Try.f290.results.toList, []⟩ := ⟨Try.f290, Try.func290, rfl, rfl, rfl, by kernel_rfl, by kernel_rfl, by kernel_rfl⟩
theorem E.fo291 : FnOk Try.prog 291 ⟨9, (Try.f291.body.getD .skip), Try.f291.results.toList, []⟩ := ⟨Try.f291, Try.func291, rfl, rfl, rfl, by kernel_rfl, by kernel_rfl, by kernel_rfl⟩
theorem E.fo292 : FnOk Try.prog 292 ⟨19, (Try.f292.body.getD .skip), Try.f292.results.toList, []⟩ := ⟨Try.f292, Try.func292, rfl, rfl, rfl, by kernel_rfl, by kernel_rfl, by kernel_rfl⟩
theorem E.fo293 : FnOk Try.prog 293 ⟨19, (Try.f293.body.getD .skip), Try.f293.results.toList, []⟩ := ⟨Try.f293, Try.func293, rfl, rfl, rfl, by kernel_rfl, by kernel_rfl, by kernel_rfl⟩
theorem E.fo294 : FnOk Try.prog 294 ⟨17, (Try.f294.body.getD .skip), Try.f294.results.toList, []⟩ := ⟨Try.f294, Try.func294, rfl, rfl, rfl, by kernel_rfl, by kernel_rfl, by kernel_rfl⟩
theorem E.fo295 : FnOk Try.prog 295 ⟨52, (Try.f295.body.getD .skip), Try.f295.results.toList, []⟩ := ⟨Try.f295, Try.func295, rfl, rfl, rfl, by kernel_rfl, by kernel_rfl, by kernel_rfl⟩
theorem E.fo296 : FnOk Try.prog 296 ⟨8, (Try.f296.body.getD .skip), Try.f296.results.toList, []⟩ := ⟨Try.f296, Try.func296, rfl, rfl, rfl, by kernel_rfl, by kernel_rfl, by kernel_rfl⟩
theorem E.fo297 : FnOk Try.prog 297 ⟨17, (Try.f297.body.getD .skip), Try.f297.results.toList, []⟩ := ⟨Try.f297, Try.func297, rfl, rfl, rfl, by kernel_rfl, by kernel_rfl, by kernel_rfl⟩
theorem E.fo298 : FnOk Try.prog 298 ⟨9, (Try.f298.body.getD .skip), Try.f298.results.toList, []⟩ := ⟨Try.f298, Try.func298, rfl, rfl, rfl, by kernel_rfl, by kernel_rfl, by kernel_rfl⟩
theorem E.fo299 : FnOk Try.prog 299 ⟨54, (Try.f299.body.getD .skip), Try.f299.results.toList, []⟩ := ⟨Try.f299, Try.func299, rfl, rfl, rfl, by kernel_rfl, by kernel_rfl, by kernel_rfl⟩
theorem E.fo300 : FnOk Try.prog 300 ⟨26, (Try.f300.body.getD .skip), Try.f300.results.toList, []⟩ := ⟨Try.f300, Try.func300, rfl, rfl, rfl, by kernel_rfl, by kernel_rfl, by kernel_rfl⟩
theorem E.fo301 : FnOk Try.prog 301 ⟨14, (Try.f301.body.getD .skip), Try.f301.results.toList, []⟩ := ⟨Try.f301, Try.func301, rfl, rfl, rfl, by kernel_rfl, by kernel_rfl, by kernel_rfl⟩
theorem E.fo302 : FnOk Try.prog 302 ⟨134, (Try.f302.body.getD .skip), Try.f302.results.toList, []⟩ := ⟨Try.f302, Try.func302, rfl, rfl, rfl, by kernel_rfl, by kernel_rfl, by kernel_rfl⟩
theorem E.fo303 : FnOk Try.prog 303 ⟨8, (Try.f303.body.getD .skip), Try.f303.results.toList, []⟩ := ⟨Try.f303, Try.func303, rfl, rfl, rfl, by kernel_rfl, by kernel_rfl, by kernel_rfl⟩
theorem E.fo304 : FnOk Try.prog 304 ⟨20, (Try.f304.body.getD .skip), Try.f304.results.toList, []⟩ := ⟨Try.f304, Try.func304, rfl, rfl, rfl, by kernel_rfl, by kernel_rfl, by kernel_rfl⟩
theorem E.fo305 : FnOk Try.prog 305 ⟨19, (Try.f305.body.getD .skip), Try.f305.results.toList, []⟩ := ⟨Try.f305, Try.func305, rfl, rfl, rfl, by kernel_rfl, by kernel_rfl, by kernel_rfl⟩
theorem E.fo306 : FnOk Try.prog 306 ⟨24, (Try.f306.body.getD .skip), Try.f306.results.toList, []⟩ := ⟨Try.f306, Try.func306, rfl, rfl, rfl, by kernel_rfl, by kernel_rfl, by kernel_rfl⟩
theorem E.fo307 : FnOk Try.prog 307 ⟨29, (Try.f307.body.getD .skip), Try.f307.results.toList, []⟩ := ⟨Try.f307, Try.func307, rfl, rfl, rfl, by kernel_rfl, by kernel_rfl, by kernel_rfl⟩
theorem E.fo308 : FnOk Try.prog 308 ⟨27, (Try.f308.body.getD .skip), Try.f308.results.toList, []⟩ := ⟨Try.f308, Try.func308, rfl, rfl, rfl, by kernel_rfl, by kernel_rfl, by kernel_rfl⟩
theorem E.fo309 : FnOk Try.prog 309 ⟨19, (Try.f309.body.getD .skip), Try.f309.results.toList, []⟩ := ⟨Try.f309, Try.func309, rfl, rfl, rfl, by kernel_rfl, by kernel_rfl, by kernel_rfl⟩
theorem E.fo310 : FnOk Try.prog 310 ⟨14, (Try.f310.body.getD .skip), Try.f310.results.toList, []⟩ := ⟨Try.f310, Try.func310, rfl, rfl, rfl, by kernel_rfl, by kernel_rfl, by kernel_rfl⟩
theorem E.fo311 : FnOk Try.prog 311 ⟨8, (Try.f311.body.getD .skip), Try.f311.results.toList, []⟩ := ⟨Try.f311, Try.func311, rfl, rfl, rfl, by kernel_rfl, by kernel_rfl, by kernel_rfl⟩
theorem E.fo312 : FnOk Try.prog 312 ⟨17, (Try.f312.body.getD .skip), Try.f312.results.toList, []⟩ := ⟨Try.f312, Try.func312, rfl, rfl, rfl, by kernel_rfl, by kernel_rfl, by kernel_rfl⟩
theorem E.fo313 : FnOk Try.prog 313 ⟨8, (Try.f313.body.getD .skip), Try.f313.results.toList, []⟩ := ⟨Try.f313, Try.func313, rfl, rfl, rfl, by kernel_rfl, by kernel_rfl, by kernel_rfl⟩
theorem E.fo314 : FnOk Try.prog 314 ⟨8, (Try.f314.body.getD .skip), Try.f314.results.toList, []⟩ := ⟨Try.f314, Try.func314, rfl, rfl, rfl, by kernel_rfl, by kernel_rfl, by kernel_rfl⟩
theorem E.fo315 : FnOk Try.prog 315 ⟨45, (Try.f315.body.getD .skip), Try.f315.results.toList, [7]⟩ := ⟨Try.f315, Try.func315, rfl, rfl, rfl, by kernel_rfl, by kernel_rfl, by kernel_rfl⟩
theorem E.fo316 : FnOk Try.prog 316 ⟨8, (Try.f316.body.getD .skip), Try.f316.results.toList, []⟩ := ⟨Try.f316, Try.func316, rfl, rfl, rfl, by kernel_rfl, by kernel_rfl, by kernel_rfl⟩
theorem E.fo317 : FnOk Try.prog 317 ⟨14, (Try.f317.body.getD .skip), Try.f317.results.toList, []⟩ := ⟨Try.f317, Try.func317, rfl, rfl, rfl, by kernel_rfl, by kernel_rfl, by kernel_rfl⟩
theorem E.fo318 : FnOk Try.prog 318 ⟨36, (Try.f318.body.getD .skip), Try.f318.results.toList, []⟩ := ⟨Try.f318, Try.func318, rfl, rfl, rfl, by kernel_rfl, by kernel_rfl, by kernel_rfl⟩
theorem E.fo319 : FnOk Try.prog 319 ⟨9, (Try.f319.body.getD .skip), Try.f319.results.toList, []⟩ := ⟨Try.f319, Try.func319, rfl, rfl, rfl, by kernel_rfl, by kernel_rfl, by kernel_rfl⟩
theorem E.fo320 : FnOk Try.prog 320 ⟨13, (Try.f320.body.getD .skip), Try.f320.results.toList, []⟩ := ⟨Try.f320, Try.func320, rfl, rfl, rfl, by kernel_rfl, by kernel_rfl, by kernel_rfl⟩
theorem E.fo321 : FnOk Try.prog 321 ⟨66, (Try.f321.body.getD .skip), Try.f321.results.toList, []⟩ := ⟨Try.f321, Try.func321, rfl, rfl, rfl, by kernel_rfl, by kernel_rfl, by kernel_rfl⟩
theorem E.fo322 : FnOk Try.prog 322 ⟨27, (Try.f322.body.getD .skip), Try.f322.results.toList, []⟩ := ⟨Try.f322, Try.func322, rfl, rfl, rfl, by kernel_rfl, by kernel_rfl, by kernel_rfl⟩
theorem E.fo323 : FnOk Try.prog 323 ⟨74, (Try.f323.body.getD .skip), Try.f323.results.toList, []⟩ := ⟨Try.f323, Try.func323, rfl, rfl, rfl, by kernel_rfl, by kernel_rfl, by kernel_rfl⟩
theorem E.fo324 : FnOk Try.prog 324 ⟨19, (Try.f324.body.getD .skip), Try.f324.results.toList, []⟩ := ⟨Try.f324, Try.func324, rfl, rfl, rfl, by kernel_rfl, by kernel_rfl, by kernel_rfl⟩
theorem E.fo325 : FnOk Try.prog 325 ⟨19, (Try.f325.body.getD .skip), Try.f325.results.toList, []⟩ := ⟨Try.f325, Try.func325, rfl, rfl, rfl, by kernel_rfl, by kernel_rfl, by kernel_rfl⟩
theorem E.fo326 : FnOk Try.prog 326 ⟨19, (Try.f326.body.getD .skip), Try.f326.results.toList, []⟩ := ⟨Try.f326, Try.func326, rfl, rfl, rfl, by kernel_rfl, by kernel_rfl, by kernel_rfl⟩
theorem E.fo327 : FnOk Try.prog 327 ⟨7, (Try.f327.body.getD .skip), Try.f327.results.toList, []⟩ := ⟨Try.f327, Try.func327, rfl, rfl, rfl, by kernel_rfl, by kernel_rfl, by kernel_rfl⟩
theorem E.fo328 : FnOk Try.prog 328 ⟨54, (Try.f328.body.getD .skip), Try.f328.results.toList, []⟩ := ⟨Try.f328, Try.func328, rfl, rfl, rfl, by kernel_rfl, by kernel_rfl, by kernel_rfl⟩
theorem E.fo329 : FnOk Try.prog 329 ⟨49, (Try.f329.body.getD .skip), Try.f329.results.toList, []⟩ := ⟨Try.f329, Try.func329, rfl, rfl, rfl, by kernel_rfl, by kernel_rfl, by kernel_rfl⟩
theorem E.fo330 : FnOk Try.prog 330 ⟨56, (Try.f330.body.getD .skip), Try.f330.results.toList, []⟩ := ⟨Try.f330, Try.func330, rfl, rfl, rfl, by kernel_rfl, by kernel_rfl, by kernel_rfl⟩
theorem E.fo331 : FnOk Try.prog 331 ⟨65, (Try.f331.body.getD .skip), Try.f331.results.toList, []⟩ := ⟨Try.f331, Try.func331, rfl, rfl, rfl, by kernel_rfl, by kernel_rfl, by kernel_rfl⟩
theorem E.fo332 : FnOk Try.prog 332 ⟨57, (Try.f332.body.getD .skip), Try.f332.results.toList, []⟩ := ⟨Try.f332, Try.func332, rfl, rfl, rfl, by kernel_rfl, by kernel_rfl, by kernel_rfl⟩
theorem E.fo333 : FnOk Try.prog 333 ⟨32, (Try.f333.body.getD .skip), Try.f333.results.toList, []⟩ := ⟨Try.f333, Try.func333, rfl, rfl, rfl, by kernel_rfl, by kernel_rfl, by kernel_rfl⟩
theorem E.fo334 : FnOk Try.prog 334 ⟨133, (Try.f334.body.getD .skip), Try.f334.results.toList, []⟩ := ⟨Try.f334, Try.func334, rfl, rfl, rfl, by kernel_rfl, by kernel_rfl, by kernel_rfl⟩
theorem E.fo335 : FnOk Try.prog 335 ⟨84, (Try.f335.body.getD .skip), Try.f335.results.toList, []⟩ := ⟨Try.f335, Try.func335, rfl, rfl, rfl, by kernel_rfl, by kernel_rfl, by kernel_rfl⟩
theorem E.fo336 : FnOk Try.prog 336 ⟨168, (Try.f336.body.getD .skip), Try.f336.results.toList, []⟩ := ⟨Try.f336, Try.func336, rfl, rfl, rfl, by kernel_rfl, by kernel_rfl, by kernel_rfl⟩
theorem E.fo337 : FnOk Try.prog 337 ⟨19, (Try.f337.body.getD .skip), Try.f337.results.toList, []⟩ := ⟨Try.f337, Try.func337, rfl, rfl, rfl, by kernel_rfl, by kernel_rfl, by kernel_rfl⟩
theorem E.fo338 : FnOk Try.prog 338 ⟨25, (Try.f338.body.getD .skip), Try.f338.results.toList, []⟩ := ⟨Try.f338, Try.func338, rfl, rfl, rfl, by kernel_rfl, by kernel_rfl, by kernel_rfl⟩
theorem E.fo339 : FnOk Try.prog 339 ⟨8, (Try.f339.body.getD .skip), Try.f339.results.toList, []⟩ := ⟨Try.f339, Try.func339, rfl, rfl, rfl, by kernel_rfl, by kernel_rfl, by kernel_rfl⟩
theorem E.fo340 : FnOk Try.prog 340 ⟨14, (Try.f340.body.getD .skip), Try.f340.results.toList, []⟩ := ⟨Try.f340, Try.func340, rfl, rfl, rfl, by kernel_rfl, by kernel_rfl, by kernel_rfl⟩
theorem E.fo341 : FnOk Try.prog 341 ⟨61, (Try.f341.body.getD .skip), Try.f341.results.toList, []⟩ := ⟨Try.f341, Try.func341, rfl, rfl, rfl, by kernel_rfl, by kernel_rfl, by kernel_rfl⟩
theorem E.fo342 : FnOk Try.prog 342 ⟨148, (Try.f342.body.getD .skip), Try.f342.results.toList, []⟩ := ⟨Try.f342, Try.func342, rfl, rfl, rfl, by kernel_rfl, by kernel_rfl, by kernel_rfl⟩
theorem E.fo343 : FnOk Try.prog 343 ⟨6, (Try.f343.body.getD .skip), Try.f343.results.toList, []⟩ := ⟨Try.f343, Try.func343, rfl, rfl, rfl, by kernel_rfl, by kernel_rfl, by kernel_rfl⟩
theorem E.fo344 : FnOk Try.prog 344 ⟨148, (Try.f344.body.getD .skip), Try.f344.results.toList, []⟩ := ⟨Try.f344, Try.func344, rfl, rfl, rfl, by kernel_rfl, by kernel_rfl, by kernel_rfl⟩
theorem E.fo345 : FnOk Try.prog 345 ⟨20, (Try.f345.body.getD .skip), Try.f345.results.toList, []⟩ := ⟨Try.f345, Try.func345, rfl, rfl, rfl, by kernel_rfl, by kernel_rfl, by kernel_rfl⟩
theorem E.fo346 : FnOk Try.prog 346 ⟨6, (Try.f346.body.getD .skip), Try.f346.results.toList, []⟩ := ⟨Try.f346, Try.func346, rfl, rfl, rfl, by kernel_rfl, by kernel_rfl, by kernel_rfl⟩
theorem E.fo347 : FnOk Try.prog 347 ⟨76, (Try.f347.body.getD .skip), Try.f347.results.toList, []⟩ := ⟨Try.f347, Try.func347, rfl, rfl, rfl, by kernel_rfl, by kernel_rfl, by kernel_rfl⟩
theorem E.fo348 : FnOk Try.prog 348 ⟨7, (Try.f348.body.getD .skip), Try.f348.results.toList, []⟩ := ⟨Try.f348, Try.func348, rfl, rfl, rfl, by kernel_rfl, by kernel_rfl, by kernel_rfl⟩
theorem E.fo349 : FnOk Try.prog 349 ⟨33, (Try.f349.body.getD .skip), Try.f349.results.toList, []⟩ := ⟨Try.f349, Try.func349, rfl, rfl, rfl, by kernel_rfl, by kernel_rfl, by kernel_rfl⟩
theorem E.fo350 : FnOk Try.prog 350 ⟨15, (Try.f350.body.getD .skip), Try.f350.results.toList, []⟩ := ⟨Try.f350, Try.func350, rfl, rfl, rfl, by kernel_rfl, by kernel_rfl, by kernel_rfl⟩
theorem E.fo351 : FnOk Try.prog 351 ⟨36, (Try.f351.body.getD .skip), Try.f351.results.toList, []⟩ := ⟨Try.f351, Try.func351, rfl, rfl, rfl, by kernel_rfl, by kernel_rfl, by kernel_rfl⟩
theorem E.fo352 : FnOk Try.prog 352 ⟨148, (Try.f352.body.getD .skip), Try.f352.results.toList, []⟩ := ⟨Try.f352, Try.func352, rfl, rfl, rfl, by kernel_rfl, by kernel_rfl, by kernel_rfl⟩
theorem E.fo353 : FnOk Try.prog 353 ⟨53, (Try.f353.body.getD .skip), Try.f353.results.toList, []⟩ := ⟨Try.f353, Try.func353, rfl, rfl, rfl, by kernel_rfl, by kernel_rfl, by kernel_rfl⟩
theorem E.fo354 : FnOk Try.prog 354 ⟨60, (Try.f354.body.getD .skip), Try.f354.results.toList, []⟩ := ⟨Try.f354, Try.func354, rfl, rfl, rfl, by kernel_rfl, by kernel_rfl, by kernel_rfl⟩
theorem E.fo355 : FnOk Try.prog 355 ⟨67, (Try.f355.body.getD .skip), Try.f355.results.toList, []⟩ := ⟨Try.f355, Try.func355, rfl, rfl, rfl, by kernel_rfl, by kernel_rfl, by kernel_rfl⟩
theorem E.fo356 : FnOk Try.prog 356 ⟨63, (Try.f356.body.getD .skip), Try.f356.results.toList, []⟩ := ⟨Try.f356, Try.func356, rfl, rfl, rfl, by kernel_rfl, by kernel_rfl, by kernel_rfl⟩
theorem E.fo357 : FnOk Try.prog 357 ⟨34, (Try.f357.body.getD .skip), Try.f357.results.toList, []⟩ := ⟨Try.f357, Try.func357, rfl, rfl, rfl, by kernel_rfl, by kernel_rfl, by kernel_rfl⟩
theorem E.fo358 : FnOk Try.prog 358 ⟨141, (Try.f358.body.getD .skip), Try.f358.results.toList, []⟩ := ⟨Try.f358, Try.func358, rfl, rfl, rfl, by kernel_rfl, by kernel_rfl, by kernel_rfl⟩
theorem E.fo359 : FnOk Try.prog 359 ⟨90, (Try.f359.body.getD .skip), Try.f359.results.toList, []⟩ := ⟨Try.f359, Try.func359, rfl, rfl, rfl, by kernel_rfl, by kernel_rfl, by kernel_rfl⟩
theorem E.fo360 : FnOk Try.prog 360 ⟨178, (Try.f360.body.getD .skip), Try.f360.results.toList, []⟩ := ⟨Try.f360, Try.func360, rfl, rfl, rfl, by kernel_rfl, by kernel_rfl, by kernel_rfl⟩
theorem E.fo361 : FnOk Try.prog 361 ⟨53, (Try.f361.body.getD .skip), Try.f361.results.toList, []⟩ := ⟨Try.f361, Try.func361, rfl, rfl, rfl, by kernel_rfl, by kernel_rfl, by kernel_rfl⟩
theorem E.fo362 : FnOk Try.prog 362 ⟨60, (Try.f362.body.getD .skip), Try.f362.results.toList, []⟩ := ⟨Try.f362, Try.func362, rfl, rfl, rfl, by kernel_rfl, by kernel_rfl, by kernel_rfl⟩
theorem E.fo363 : FnOk Try.prog 363 ⟨67, (Try.f363.body.getD .skip), Try.f363.results.toList, []⟩ := ⟨Try.f363, Try.func363, rfl, rfl, rfl, by kernel_rfl, by kernel_rfl, by kernel_rfl⟩
theorem E.fo364 : FnOk Try.prog 364 ⟨63, (Try.f364.body.getD .skip), Try.f364.results.toList, []⟩ := ⟨Try.f364, Try.func364, rfl, rfl, rfl, by kernel_rfl, by kernel_rfl, by kernel_rfl⟩
theorem E.fo365 : FnOk Try.prog 365 ⟨34, (Try.f365.body.getD .skip), Try.f365.results.toList, []⟩ := ⟨Try.f365, Try.func365, rfl, rfl, rfl, by kernel_rfl, by kernel_rfl, by kernel_rfl⟩
theorem E.fo366 : FnOk Try.prog 366 ⟨141, (Try.f366.body.getD .skip), Try.f366.results.toList, []⟩ := ⟨Try.f366, Try.func366, rfl, rfl, rfl, by kernel_rfl, by kernel_rfl, by kernel_rfl⟩
theorem E.fo367 : FnOk Try.prog 367 ⟨90, (Try.f367.body.getD .skip), Try.f367.results.toList, []⟩ := ⟨Try.f367, Try.func367, rfl, rfl, rfl, by kernel_rfl, by kernel_rfl, by kernel_rfl⟩
theorem E.fo368 : FnOk Try.prog 368 ⟨178, (Try.f368.body.getD .skip), Try.f368.results.toList, []⟩ := ⟨Try.f368, Try.func368, rfl, rfl, rfl, by kernel_rfl, by kernel_rfl, by kernel_rfl⟩
theorem E.fo369 : FnOk Try.prog 369 ⟨28, (Try.f369.body.getD .skip), Try.f369.results.toList, []⟩ := ⟨Try.f369, Try.func369, rfl, rfl, rfl, by kernel_rfl, by kernel_rfl, by kernel_rfl⟩
theorem E.fo370 : FnOk Try.prog 370 ⟨53, (Try.f370.body.getD .skip), Try.f370.results.toList, []⟩ := ⟨Try.f370, Try.func370, rfl, rfl, rfl, by kernel_rfl, by kernel_rfl, by kernel_rfl⟩
theorem E.fo371 : FnOk Try.prog 371 ⟨60, (Try.f371.body.getD .skip), Try.f371.results.toList, []⟩ := ⟨Try.f371, Try.func371, rfl, rfl, rfl, by kernel_rfl, by kernel_rfl, by kernel_rfl⟩
theorem E.fo372 : FnOk Try.prog 372 ⟨67, (Try.f372.body.getD .skip), Try.f372.results.toList, []⟩ := ⟨Try.f372, Try.func372, rfl, rfl, rfl, by kernel_rfl, by kernel_rfl, by kernel_rfl⟩
theorem E.fo373 : FnOk Try.prog 373 ⟨63, (Try.f373.body.getD .skip), Try.f373.results.toList, []⟩ := ⟨Try.f373, Try.func373, rfl, rfl, rfl, by kernel_rfl, by kernel_rfl, by kernel_rfl⟩
theorem E.fo374 : FnOk Try.prog 374 ⟨34, (Try.f374.body.getD .skip), Try.f374.results.toList, []⟩ := ⟨Try.f374, Try.func374, rfl, rfl, rfl, by kernel_rfl, by kernel_rfl, by kernel_rfl⟩
theorem E.fo375 : FnOk Try.prog 375 ⟨141, (Try.f375.body.getD .skip), Try.f375.results.toList, []⟩ := ⟨Try.f375, Try.func375, rfl, rfl, rfl, by kernel_rfl, by kernel_rfl, by kernel_rfl⟩
theorem E.fo376 : FnOk Try.prog 376 ⟨90, (Try.f376.body.getD .skip), Try.f376.results.toList, []⟩ := ⟨Try.f376, Try.func376, rfl, rfl, rfl, by kernel_rfl, by kernel_rfl, by kernel_rfl⟩
theorem E.fo377 : FnOk Try.prog 377 ⟨178, (Try.f377.body.getD .skip), Try.f377.results.toList, []⟩ := ⟨Try.f377, Try.func377, rfl, rfl, rfl, by kernel_rfl, by kernel_rfl, by kernel_rfl⟩
theorem E.fo378 : FnOk Try.prog 378 ⟨82, (Try.f378.body.getD .skip), Try.f378.results.toList, []⟩ := ⟨Try.f378, Try.func378, rfl, rfl, rfl, by kernel_rfl, by kernel_rfl, by kernel_rfl⟩
theorem E.fo379 : FnOk Try.prog 379 ⟨18, (Try.f379.body.getD .skip), Try.f379.results.toList, []⟩ := ⟨Try.f379, Try.func379, rfl, rfl, rfl, by kernel_rfl, by kernel_rfl, by kernel_rfl⟩
theorem E.fo380 : FnOk Try.prog 380 ⟨41, (Try.f380.body.getD .skip), Try.f380.results.toList, []⟩ := ⟨Try.f380, Try.func380, rfl, rfl, rfl, by kernel_rfl, by kernel_rfl, by kernel_rfl⟩
theorem E.fo381 : FnOk Try.prog 381 ⟨82, (Try.f381.body.getD .skip), Try.f381.results.toList, []⟩ := ⟨Try.f381, Try.func381, rfl, rfl, rfl, by kernel_rfl, by kernel_rfl, by kernel_rfl⟩
theorem E.fo382 : FnOk Try.prog 382 ⟨18, (Try.f382.body.getD .skip), Try.f382.results.toList, []⟩ := ⟨Try.f382, Try.func382, rfl, rfl, rfl, by kernel_rfl, by kernel_rfl, by kernel_rfl⟩
theorem E.fo383 : FnOk Try.prog 383 ⟨41, (Try.f383.body.getD .skip), Try.f383.results.toList, []⟩ := ⟨Try.f383, Try.func383, rfl, rfl, rfl, by kernel_rfl, by kernel_rfl, by kernel_rfl⟩
theorem E.fo384 : FnOk Try.prog 384 ⟨82, (Try.f384.body.getD .skip), Try.f384.results.toList, []⟩ := ⟨Try.f384, Try.func384, rfl, rfl, rfl, by kernel_rfl, by kernel_rfl, by kernel_rfl⟩
theorem E.fo385 : FnOk Try.prog 385 ⟨18, (Try.f385.body.getD .skip), Try.f385.results.toList, []⟩ := ⟨Try.f385, Try.func385, rfl, rfl, rfl, by kernel_rfl, by kernel_rfl, by kernel_rfl⟩
theorem E.fo386 : FnOk Try.prog 386 ⟨41, (Try.f386.body.getD .skip), Try.f386.results.toList, []⟩ := ⟨Try.f386, Try.func386, rfl, rfl, rfl, by kernel_rfl, by kernel_rfl, by kernel_rfl⟩
theorem E.fo387 : FnOk Try.prog 387 ⟨32, (Try.f387.body.getD .skip), Try.f387.results.toList, []⟩ := ⟨Try.f387, Try.func387, rfl, rfl, rfl, by kernel_rfl, by kernel_rfl, by kernel_rfl⟩
theorem E.fo388 : FnOk Try.prog 388 ⟨32, (Try.f388.body.getD .skip), Try.f388.results.toList, []⟩ := ⟨Try.f388, Try.func388, rfl, rfl, rfl, by kernel_rfl, by kernel_rfl, by kernel_rfl⟩
theorem E.fo389 : FnOk Try.prog 389 ⟨32, (Try.f389.body.getD .skip), Try.f389.results.toList, []⟩ := ⟨Try.f389, Try.func389, rfl, rfl, rfl, by kernel_rfl, by kernel_rfl, by kernel_rfl⟩
theorem E.tyAll : TrAll (TyOk Try.prog) E.tyTr id := (.none (.some E.to1 (.some E.to3 (.some E.to7 (.some E.to15 (.some E.to31 (.some E.to63 (.some E.to127 (.some E.to255 .nil .nil) .nil) (.some E.to191 (.some E.to319 .nil .nil) .nil)) (.some E.to95 (.some E.to159 (.some E.to287 .nil .nil) .nil) (.some E.to223 .nil .nil))) (.none (.some E.to79 (.some E.to143 (.some E.to271 .nil .nil) .nil) (.some E.to207 .nil .nil)) (.some E.to111 (.none (.some E.to303 .nil .nil) .nil) (.some E.to239 .nil .nil)))) (.some E.to23 (.some E.to39 (.some E.to71 (.some E.to135 (.some E.to263 .nil .nil) .nil) (.some E.to199 .nil .nil)) (.some E.to103 (.some E.to167 (.some E.to295 .nil .nil) .nil) (.some E.to231 .nil .nil))) (.some E.to55 (.some E.to87 (.some E.to151 (.some E.to279 .nil .nil) .nil) (.some E.to215 .nil .nil)) (.some E.to119 (.some E.to183 (.some E.to311 .nil .nil) .nil) (.some E.to247 .nil .nil))))) (.some E.to11 (.none (.some E.to35 (.none (.some E.to131 (.some E.to259 .nil .nil) .nil) (.some E.to195 (.some E.to323 .nil .nil) .nil)) (.some E.to99 (.some E.to163 (.some E.to291 .nil .nil) .nil) (.some E.to227 .nil .nil))) (.some E.to51 (.none (.some E.to147 (.some E.to275 .nil .nil) .nil) (.some E.to211 .nil .nil)) (.some E.to115 (.some E.to179 (.some E.to307 .nil .nil) .nil) (.some E.to243 .nil .nil)))) (.none (.some E.to43 (.some E.to75 (.some E.to139 (.some E.to267 .nil .nil) .nil) (.some E.to203 .nil .nil)) (.some E.to107 (.some E.to171 (.some E.to299 .nil .nil) .nil) (.some E.to235 .nil .nil))) (.none (.some E.to91 (.some E.to155 (.some E.to283 .nil .nil) .nil) (.some E.to219 .nil .nil)) (.some E.to123 (.some E.to187 (.some E.to315 .nil .nil) .nil) (.some E.to251 .nil .nil)))))) (.some E.to5 (.some E.to9 (.some E.to17 (.some E.to33 (.some E.to65 (.some E.to129 (.some E.to257 .nil .nil) .nil) (.some E.to193 .nil .nil)) (.some E.to97 (.some E.to161 (.some E.to289 .nil .nil) .nil) (.some E.to225 .nil .nil))) (.some E.to49 (.some E.to81 (.none (.some E.to273 .nil .nil) .nil) (.some E.to209 .nil .nil)) (.some E.to113 (.some E.to177 (.some E.to305 .nil .nil) .nil) (.some E.to241 .nil .nil)))) (.some E.to25 (.some E.to41 (.some E.to73 (.some E.to137 .nil .nil) (.some E.to201 .nil .nil)) (.some E.to105 (.some E.to169 (.some E.to297 .nil .nil) .nil) (.some E.to233 .nil .nil))) (.some E.to57 (.some E.to89 (.some E.to153 (.some E.to281 .nil .nil) .nil) (.some E.to217 .nil .nil)) (.some E.to121 (.some E.to185 .nil .nil) (.some E.to249 .nil .nil))))) (.none (.some E.to21 (.some E.to37 (.some E.to69 (.none (.some E.to261 .nil .nil) .nil) (.some E.to197 .nil .nil)) (.some E.to101 (.some E.to165 (.some E.to293 .nil .nil) .nil) (.some E.to229 .nil .nil))) (.some E.to53 (.none (.some E.to149 (.some E.to277 .nil .nil) .nil) (.some E.to213 .nil .nil)) (.some E.to117 (.some E.to181 .nil .nil) (.some E.to245 .nil .nil)))) (.some E.to29 (.some E.to45 (.some E.to77 (.some E.to141 (.some E.to269 .nil .nil) .nil) (.some E.to205 .nil .nil)) (.some E.to109 (.some E.to173 (.some E.to301 .nil .nil) .nil) (.some E.to237 .nil .nil))) (.some E.to61 (.some E.to93 (.some E.to157 (.some E.to285 .nil .nil) .nil) (.some E.to221 .nil .nil)) (.some E.to125 (.some E.to189 (.some E.to317 .nil .nil) .nil) (.some E.to253 .nil .nil))))))) (.some E.to2 (.some E.to4 (.some E.to8 (.some E.to16 (.some E.to32 (.some E.to64 (.some E.to128 (.some E.to256 .nil .nil) .nil) (.some E.to192 (.some E.to320 .nil .nil) .nil)) (.none (.some E.to160 (.some E.to288 .nil .nil) .nil) (.some E.to224 .nil .nil))) (.some E.to48 (.some E.to80 (.some E.to144 (.some E.to272 .nil .nil) .nil) (.some E.to208 .nil .nil)) (.some E.to112 (.some E.to176 (.some E.to304 .nil .nil) .nil) (.some E.to240 .nil .nil)))) (.some E.to24 (.none (.some E.to72 (.none (.some E.to264 .nil .nil) .nil) (.some E.to200 .nil .nil)) (.some E.to104 (.some E.to168 (.some E.to296 .nil .nil) .nil) (.some E.to232 .nil .nil))) (.some E.to56 (.some E.to88 (.some E.to152 (.some E.to280 .nil .nil) .nil) (.some E.to216 .nil .nil)) (.some E.to120 (.some E.to184 .nil .nil) (.some E.to248 .nil .nil))))) (.some E.to12 (.some E.to20 (.some E.to36 (.some E.to68 (.some E.to132 (.some E.to260 .nil .nil) .nil) (.some E.to196 .nil .nil)) (.some E.to100 (.some E.to164 (.some E.to292 .nil .nil) .nil) (.some E.to228 .nil .nil))) (.none (.some E.to84 (.some E.to148 (.some E.to276 .nil .nil) .nil) (.some E.to212 .nil .nil)) (.some E.to116 (.some E.to180 (.some E.to308 .nil .nil) .nil) (.some E.to244 .nil .nil)))) (.some E.to28 (.some E.to44 (.some E.to76 (.some E.to140 (.some E.to268 .nil .nil) .nil) (.some E.to204 .nil .nil)) (.some E.to108 (.some E.to172 (.some E.to300 .nil .nil) .nil) (.some E.to236 .nil .nil))) (.some E.to60 (.some E.to92 (.some E.to156 (.some E.to284 .nil .nil) .nil) (.some E.to220 .nil .nil)) (.none (.some E.to188 (.some E.to316 .nil .nil) .nil) (.some E.to252 .nil .nil)))))) (.some E.to6 (.some E.to10 (.none (.some E.to34 (.some E.to66 (.some E.to130 (.some E.to258 .nil .nil) .nil) (.some E.to194 .nil .nil)) (.some E.to98 (.none (.some E.to290 .nil .nil) .nil) (.some E.to226 .nil .nil))) (.some E.to50 (.some E.to82 (.some E.to146 (.some E.to274 .nil .nil) .nil) (.some E.to210 .nil .nil)) (.some E.to114 (.some E.to178 (.some E.to306 .nil .nil) .nil) (.some E.to242 .nil .nil)))) (.some E.to26 (.some E.to42 (.some E.to74 (.some E.to138 (.some E.to266 .nil .nil) .nil) (.some E.to202 .nil .nil)) (.some E.to106 (.some E.to170 (.some E.to298 .nil .nil) .nil) (.some E.to234 .nil .nil))) (.some E.to58 (.none (.some E.to154 (.some E.to282 .nil .nil) .nil) .nil) (.some E.to122 (.some E.to186 (.some E.to314 .nil .nil) .nil) .nil)))) (.none (.some E.to22 (.some E.to38 (.some E.to70 (.some E.to134 (.some E.to262 .nil .nil) .nil) (.some E.to198 .nil .nil)) (.none (.some E.to166 (.some E.to294 .nil .nil) .nil) (.some E.to230 .nil .nil))) (.some E.to54 (.some E.to86 (.some E.to150 (.some E.to278 .nil .nil) .nil) (.some E.to214 .nil .nil)) (.none (.some E.to182 .nil .nil) (.some E.to246 .nil .nil)))) (.none (.some E.to46 (.some E.to78 (.none (.some E.to270 .nil .nil) .nil) (.some E.to206 .nil .nil)) (.some E.to110 (.some E.to174 (.some E.to302 .nil .nil) .nil) (.some E.to238 .nil .nil))) (.none (.some E.to94 (.some E.to158 (.some E.to286 .nil .nil) .nil) (.some E.to222 .nil .nil)) (.some E.to126 (.none (.some E.to318 .nil .nil) .nil) (.some E.to254 .nil .nil))))))))
theorem E.fnAll : TrAll (FnOk Try.prog) E.fnTr id := (.none (.none (.some E.fo3 (.some E.fo7 (.some E.fo15 (.some E.fo31 (.some E.fo63 (.some E.fo127 (.some E.fo255 .nil .nil) (.some E.fo383 .nil .nil)) (.some E.fo191 (.some E.fo319 .nil .nil) .nil)) (.some E.fo95 (.some E.fo159 (.some E.fo287 .nil .nil) .nil) (.some E.fo223 (.some E.fo351 .nil .nil) .nil))) (.some E.fo47 (.some E.fo79 (.some E.fo143 (.some E.fo271 .nil .nil) .nil) (.some E.fo207 (.some E.fo335 .nil .nil) .nil)) (.some E.fo111 (.some E.fo175 (.some E.fo303 .nil .nil) .nil) (.some E.fo239 (.some E.fo367 .nil .nil) .nil)))) (.some E.fo23 (.some E.fo39 (.some E.fo71 (.some E.fo135 (.some E.fo263 .nil .nil) .nil) (.some E.fo199 (.some E.fo327 .nil .nil) .nil)) (.some E.fo103 (.some E.fo167 (.some E.fo295 .nil .nil) .nil) (.some E.fo231 (.some E.fo359 .nil .nil) .nil))) (.some E.fo55 (.some E.fo87 (.some E.fo151 (.some E.fo279 .nil .nil) .nil) (.some E.fo215 (.some E.fo343 .nil .nil) .nil)) (.some E.fo119 (.some E.fo183 (.some E.fo311 .nil .nil) .nil) (.some E.fo247 (.some E.fo375 .nil .nil) .nil))))) (.some E.fo11 (.some E.fo19 (.some E.fo35 (.some E.fo67 (.some E.fo131 (.some E.fo259 .nil .nil) (.some E.fo387 .nil .nil)) (.none (.some E.fo323 .nil .nil) .nil)) (.some E.fo99 (.some E.fo163 (.some E.fo291 .nil .nil) .nil) (.some E.fo227 (.some E.fo355 .nil .nil) .nil))) (.some E.fo51 (.some E.fo83 (.none (.some E.fo275 .nil .nil) .nil) (.some E.fo211 (.some E.fo339 .nil .nil) .nil)) (.none (.some E.fo179 (.some E.fo307 .nil .nil) .nil) (.some E.fo243 (.some E.fo371 .nil .nil) .nil)))) (.some E.fo27 (.some E.fo43 (.some E.fo75 (.some E.fo139 (.some E.fo267 .nil .nil) .nil) (.some E.fo203 (.some E.fo331 .nil .nil) .nil)) (.some E.fo107 (.some E.fo171 (.some E.fo299 .nil .nil) .nil) (.some E.fo235 (.some E.fo363 .nil .nil) .nil))) (.some E.fo59 (.some E.fo91 (.some E.fo155 (.some E.fo283 .nil .nil) .nil) (.some E.fo219 (.some E.fo347 .nil .nil) .nil)) (.some E.fo123 (.some E.fo187 (.some E.fo315 .nil .nil) .nil) (.some E.fo251 (.some E.fo379 .nil .nil) .nil)))))) (.some E.fo5 (.some E.fo9 (.some E.fo17 (.some E.fo33 (.some E.fo65 (.some E.fo129 (.some E.fo257 .nil .nil) (.some E.fo385 .nil .nil)) (.some E.fo193 (.some E.fo321 .nil .nil) .nil)) (.some E.fo97 (.some E.fo161 (.some E.fo289 .nil .nil) .nil) (.some E.fo225 (.some E.fo353 .nil .nil) .nil))) (.some E.fo49 (.some E.fo81 (.some E.fo145 (.some E.fo273 .nil .nil) .nil) (.some E.fo209 (.some E.fo337 .nil .nil) .nil)) (.some E.fo113 (.some E.fo177 (.some E.fo305 .nil .nil) .nil) (.some E.fo241 (.some E.fo369 .nil .nil) .nil)))) (.some E.fo25 (.some E.fo41 (.some E.fo73 (.some E.fo137 (.some E.fo265 .nil .nil) .nil) (.some E.fo201 (.some E.fo329 .nil .nil) .nil)) (.some E.fo105 (.some E.fo169 (.some E.fo297 .nil .nil) .nil) (.some E.fo233 (.some E.fo361 .nil .nil) .nil))) (.some E.fo57 (.some E.fo89 (.some E.fo153 (.some E.fo281 .nil .nil) .nil) (.some E.fo217 (.some E.fo345 .nil .nil) .nil)) (.some E.fo121 (.some E.fo185 (.some E.fo313 .nil .nil) .nil) (.some E.fo249 (.some E.fo377 .nil .nil) .nil))))) (.some E.fo13 (.some E.fo21 (.some E.fo37 (.some E.fo69 (.some E.fo133 (.some E.fo261 .nil .nil) (.some E.fo389 .nil .nil)) (.some E.fo197 (.some E.fo325 .nil .nil) .nil)) (.some E.fo101 (.some E.fo165 (.some E.fo293 .nil .nil) .nil) (.some E.fo229 (.some E.fo357 .nil .nil) .nil))) (.some E.fo53 (.some E.fo85 (.none (.some E.fo277 .nil .nil) .nil) (.some E.fo213 (.some E.fo341 .nil .nil) .nil)) (.some E.fo117 (.some E.fo181 (.some E.fo309 .nil .nil) .nil) (.some E.fo245 (.some E.fo373 .nil .nil) .nil)))) (.some E.fo29 (.some E.fo45 (.some E.fo77 (.some E.fo141 (.some E.fo269 .nil .nil) .nil) (.some E.fo205 (.some E.fo333 .nil .nil) .nil)) (.some E.fo109 (.some E.fo173 (.some E.fo301 .nil .nil) .nil) (.some E.fo237 (.some E.fo365 .nil .nil) .nil))) (.some E.fo61 (.some E.fo93 (.some E.fo157 (.some E.fo285 .nil .nil) .nil) (.some E.fo221 (.some E.fo349 .nil .nil) .nil)) (.some E.fo125 (.none (.some E.fo317 .nil .nil) .nil) (.some E.fo253 (.some E.fo381 .nil .nil) .nil))))))) (.none (.some E.fo4 (.some E.fo8 (.some E.fo16 (.some E.fo32 (.some E.fo64 (.some E.fo128 (.some E.fo256 .nil .nil) (.some E.fo384 .nil .nil)) (.some E.fo192 (.some E.fo320 .nil .nil) .nil)) (.some E.fo96 (.some E.fo160 (.some E.fo288 .nil .nil) .nil) (.some E.fo224 (.some E.fo352 .nil .nil) .nil))) (.some E.fo48 (.some E.fo80 (.some E.fo144 (.some E.fo272 .nil .nil) .nil) (.some E.fo208 (.some E.fo336 .nil .nil) .nil)) (.some E.fo112 (.some E.fo176 (.some E.fo304 .nil .nil) .nil) (.some E.fo240 (.some E.fo368 .nil .nil) .nil)))) (.some E.fo24 (.some E.fo40 (.some E.fo72 (.some E.fo136 (.some E.fo264 .nil .nil) .nil) (.some E.fo200 (.some E.fo328 .nil .nil) .nil)) (.some E.fo104 (.some E.fo168 (.some E.fo296 .nil .nil) .nil) (.some E.fo232 (.some E.fo360 .nil .nil) .nil))) (.some E.fo56 (.some E.fo88 (.some E.fo152 (.some E.fo280 .nil .nil) .nil) (.some E.fo216 (.some E.fo344 .nil .nil) .nil)) (.some E.fo120 (.some E.fo184 (.some E.fo312 .nil .nil) .nil) (.some E.fo248 (.some E.fo376 .nil .nil) .nil))))) (.some E.fo12 (.some E.fo20 (.some E.fo36 (.some E.fo68 (.some E.fo132 (.some E.fo260 .nil .nil) (.some E.fo388 .nil .nil)) (.some E.fo196 (.some E.fo324 .nil .nil) .nil)) (.some E.fo100 (.some E.fo164 (.some E.fo292 .nil .nil) .nil) (.some E.fo228 (.some E.fo356 .nil .nil) .nil))) (.some E.fo52 (.some E.fo84 (.some E.fo148 (.some E.fo276 .nil .nil) .nil) (.some E.fo212 (.some E.fo340 .nil .nil) .nil)) (.some E.fo116 (.some E.fo180 (.some E.fo308 .nil .nil) .nil) (.some E.fo244 (.some E.fo372 .nil .nil) .nil)))) (.some E.fo28 (.some E.fo44 (.some E.fo76 (.some E.fo140 (.some E.fo268 .nil .nil) .nil) (.some E.fo204 (.some E.fo332 .nil .nil) .nil)) (.some E.fo108 (.some E.fo172 (.some E.fo300 .nil .nil) .nil) (.some E.fo236 (.some E.fo364 .nil .nil) .nil))) (.some E.fo60 (.some E.fo92 (.some E.fo156 (.some E.fo284 .nil .nil) .nil) (.some E.fo220 (.some E.fo348 .nil .nil) .nil)) (.some E.fo124 (.some E.fo188 (.some E.fo316 .nil .nil) .nil) (.some E.fo252 (.some E.fo380 .nil .nil) .nil)))))) (.some E.fo6 (.some E.fo10 (.some E.fo18 (.some E.fo34 (.some E.fo66 (.some E.fo130 (.some E.fo258 .nil .nil) (.some E.fo386 .nil .nil)) (.some E.fo194 (.some E.fo322 .nil .nil) .nil)) (.some E.fo98 (.some E.fo162 (.some E.fo290 .nil .nil) .nil) (.some E.fo226 (.some E.fo354 .nil .nil) .nil))) (.some E.fo50 (.some E.fo82 (.some E.fo146 (.some E.fo274 .nil .nil) .nil) (.some E.fo210 (.some E.fo338 .nil .nil) .nil)) (.some E.fo114 (.some E.fo178 (.some E.fo306 .nil .nil) .nil) (.some E.fo242 (.some E.fo370 .nil .nil) .nil)))) (.some E.fo26 (.some E.fo42 (.some E.fo74 (.some E.fo138 (.some E.fo266 .nil .nil) .nil) (.some E.fo202 (.some E.fo330 .nil .nil) .nil)) (.some E.fo106 (.some E.fo170 (.some E.fo298 .nil .nil) .nil) (.some E.fo234 (.some E.fo362 .nil .nil) .nil))) (.some E.fo58 (.some E.fo90 (.some E.fo154 (.some E.fo282 .nil .nil) .nil) (.some E.fo218 (.some E.fo346 .nil .nil) .nil)) (.some E.fo122 (.some E.fo186 (.some E.fo314 .nil .nil) .nil) (.some E.fo250 (.some E.fo378 .nil .nil) .nil))))) (.some E.fo14 (.some E.fo22 (.some E.fo38 (.some E.fo70 (.some E.fo134 (.some E.fo262 .nil .nil) .nil) (.some E.fo198 (.some E.fo326 .nil .nil) .nil)) (.some E.fo102 (.some E.fo166 (.some E.fo294 .nil .nil) .nil) (.some E.fo230 (.some E.fo358 .nil .nil) .nil))) (.some E.fo54 (.some E.fo86 (.some E.fo150 (.some E.fo278 .nil .nil) .nil) (.some E.fo214 (.some E.fo342 .nil .nil) .nil)) (.some E.fo118 (.some E.fo182 (.some E.fo310 .nil .nil) .nil) (.some E.fo246 (.some E.fo374 .nil .nil) .nil)))) (.some E.fo30 (.some E.fo46 (.some E.fo78 (.some E.fo142 (.some E.fo270 .nil .nil) .nil) (.some E.fo206 (.some E.fo334 .nil .nil) .nil)) (.some E.fo110 (.some E.fo174 (.some E.fo302 .nil .nil) .nil) (.some E.fo238 (.some E.fo366 .nil .nil) .nil))) (.some E.fo62 (.some E.fo94 (.none (.some E.fo286 .nil .nil) .nil) (.some E.fo222 (.some E.fo350 .nil .nil) .nil)) (.some E.fo126 (.some E.fo190 (.some E.fo318 .nil .nil) .nil) (.some E.fo254 (.some E.fo382 .nil .nil) .nil))))))))
theorem E.ok : EnvOk Try.prog E := ⟨fun t y h => TrAll.get E.tyAll t y h, by kernel_rfl⟩
theorem E.fns : ∀ f fi, E.fn f = some fi → FnOk Try.prog f fi := fun f fi h => TrAll.get E.fnAll f fi h
end Go.Proofs.Ytcjdiakgckhkdaa
