/- The abstract machine's tables for this seat, and that they say what the program is: printed by a program of ours (AmEnv.lean). -/
import Derived.Test.YtdkmepeolmdccaaAmB
import Derived.Test.YtdkmepeolmdccaaChecked
namespace Go.Proofs.Ytdkmepeolmdccaa
open Go.Am
noncomputable def E.tyTr : Tr Ty := (.node none (.node (some ⟨0, 1, 8, [.nilf], 0, 0, [], .i64⟩) (.node (some ⟨1, 1, 8, [(.int .i64 0)], 0, 0, [], .i64⟩) (.node (some ⟨6, 4, 24, [(.int .i64 0), (.int .i64 0), (.bool false), (.int .u8 0)], 0, 0, [(0, 2, 1), (1, 3, 1), (2, 4, 1), (3, 6, 1)], .i64⟩) (.node (some ⟨7, 1, 8, [.nilp], 182, 0, [], .i64⟩) (.node none (.node (some ⟨0, 1, 8, [.nilf], 0, 0, [], .i64⟩) (.node (some ⟨6, 4, 24, [(.int .i64 0), (.int .i64 0), (.bool false), (.bool false)], 0, 0, [(0, 3, 1), (1, 3, 1), (2, 4, 1), (3, 4, 1)], .i64⟩) .nil .nil) (.node (some ⟨1, 1, 4, [(.int .i32 0)], 0, 0, [], .i32⟩) .nil .nil)) .nil) (.node (some ⟨0, 1, 8, [.nilf], 0, 0, [], .i64⟩) (.node (some ⟨0, 1, 8, [.nilf], 0, 0, [], .i64⟩) (.node (some ⟨0, 1, 8, [.nilf], 0, 0, [], .i64⟩) .nil .nil) .nil) (.node (some ⟨0, 1, 8, [.nilf], 0, 0, [], .i64⟩) (.node (some ⟨0, 1, 8, [.nilf], 0, 0, [], .i64⟩) .nil .nil) .nil))) (.node (some ⟨1, 1, 2, [(.int .u16 0)], 0, 0, [], .u16⟩) (.node (some ⟨0, 1, 8, [.nilf], 0, 0, [], .i64⟩) (.node (some ⟨4, 1, 24, [.nils], 127, 0, [], .i64⟩) (.node (some ⟨7, 1, 8, [.nilp], 127, 0, [], .i64⟩) .nil .nil) .nil) (.node (some ⟨4, 1, 24, [.nils], 26, 0, [], .i64⟩) (.node (some ⟨0, 1, 8, [.nilf], 0, 0, [], .i64⟩) .nil .nil) .nil)) (.node (some ⟨0, 1, 8, [.nilf], 0, 0, [], .i64⟩) (.node none (.node (some ⟨0, 1, 8, [.nilf], 0, 0, [], .i64⟩) .nil .nil) .nil) (.node (some ⟨0, 1, 8, [.nilf], 0, 0, [], .i64⟩) (.node (some ⟨5, 0, 0, [], 16, 0, [], .i64⟩) .nil .nil) .nil)))) (.node (some ⟨3, 1, 16, [(.str [])], 0, 0, [], .i64⟩) (.node none (.node (some ⟨0, 1, 8, [.nilf], 0, 0, [], .i64⟩) (.node none (.node (some ⟨6, 3, 24, [(.int .i64 0), (.int .i64 0), (.int .i64 0)], 0, 0, [(0, 3, 1), (1, 3, 1), (2, 3, 1)], .i64⟩) .nil .nil) (.node (some ⟨0, 1, 8, [.nilp], 0, 0, [], .i64⟩) .nil .nil)) (.node (some ⟨0, 1, 8, [.nilf], 0, 0, [], .i64⟩) (.node (some ⟨1, 1, 8, [(.int .i64 0)], 0, 0, [], .i64⟩) .nil .nil) .nil)) (.node (some ⟨0, 1, 8, [.nilf], 0, 0, [], .i64⟩) (.node (some ⟨0, 1, 8, [.nilf], 0, 0, [], .i64⟩) (.node (some ⟨0, 1, 8, [.nilf], 0, 0, [], .i64⟩) .nil .nil) .nil) (.node (some ⟨0, 1, 8, [.nilf], 0, 0, [], .i64⟩) (.node (some ⟨0, 1, 8, [.nilf], 0, 0, [], .i64⟩) .nil .nil) .nil))) (.node (some ⟨1, 1, 8, [(.int .i64 0)], 0, 0, [], .i64⟩) (.node (some ⟨0, 1, 8, [.nilf], 0, 0, [], .i64⟩) (.node (some ⟨0, 1, 8, [.nilf], 0, 0, [], .i64⟩) .nil .nil) (.node (some ⟨0, 1, 8, [.nilf], 0, 0, [], .i64⟩) (.node (some ⟨1, 1, 8, [(.int .u64 0)], 0, 0, [], .u64⟩) .nil .nil) .nil)) (.node (some ⟨0, 1, 8, [.nilf], 0, 0, [], .i64⟩) (.node (some ⟨0, 1, 8, [.nilf], 0, 0, [], .i64⟩) (.node (some ⟨0, 1, 8, [.nilf], 0, 0, [], .i64⟩) .nil .nil) .nil) (.node (some ⟨0, 1, 8, [.nilf], 0, 0, [], .i64⟩) (.node (some ⟨1, 1, 1, [(.int .u8 0)], 0, 0, [], .u8⟩) .nil .nil) .nil))))) (.node (some ⟨1, 1, 1, [(.int .u8 0)], 0, 0, [], .u8⟩) (.node (some ⟨3, 1, 16, [(.str [])], 0, 0, [], .i64⟩) (.node (some ⟨7, 1, 8, [.nilp], 194, 0, [], .i64⟩) (.node (some ⟨0, 1, 8, [.nilf], 0, 0, [], .i64⟩) (.node (some ⟨0, 1, 8, [.nilf], 0, 0, [], .i64⟩) (.node (some ⟨6, 5, 32, [(.int .i64 0), (.int .i64 0), (.bool false), (.bool false), (.int .i64 0)], 0, 0, [(0, 127, 4), (4, 3, 1)], .i64⟩) .nil .nil) .nil) (.node (some ⟨0, 1, 8, [.nilf], 0, 0, [], .i64⟩) (.node (some ⟨0, 1, 8, [.nilf], 0, 0, [], .i64⟩) .nil .nil) .nil)) (.node (some ⟨0, 1, 8, [.nilf], 0, 0, [], .i64⟩) (.node (some ⟨0, 1, 8, [.nilf], 0, 0, [], .i64⟩) (.node (some ⟨0, 1, 8, [.nilf], 0, 0, [], .i64⟩) .nil .nil) .nil) (.node (some ⟨0, 1, 8, [.nilf], 0, 0, [], .i64⟩) (.node (some ⟨0, 1, 8, [.nilf], 0, 0, [], .i64⟩) .nil .nil) .nil))) (.node (some ⟨6, 2, 16, [(.int .i64 0), (.int .i64 0)], 0, 0, [(0, 3, 1), (1, 3, 1)], .i64⟩) (.node none (.node none (.node (some ⟨0, 1, 8, [.nilf], 0, 0, [], .i64⟩) .nil .nil) .nil) (.node (some ⟨0, 1, 8, [.nilf], 0, 0, [], .i64⟩) (.node (some ⟨1, 1, 4, [(.int .u32 0)], 0, 0, [], .u32⟩) .nil .nil) .nil)) (.node (some ⟨0, 1, 8, [.nilf], 0, 0, [], .i64⟩) (.node (some ⟨0, 1, 8, [.nilf], 0, 0, [], .i64⟩) (.node (some ⟨1, 1, 8, [(.int .u64 0)], 0, 0, [], .u64⟩) .nil .nil) .nil) (.node (some ⟨0, 1, 8, [.nilf], 0, 0, [], .i64⟩) .nil .nil)))) (.node none (.node (some ⟨1, 1, 4, [(.int .i32 0)], 0, 0, [], .i32⟩) (.node (some ⟨0, 1, 8, [.nilf], 0, 0, [], .i64⟩) (.node (some ⟨0, 1, 8, [.nilf], 0, 0, [], .i64⟩) (.node (some ⟨0, 1, 8, [.nilf], 0, 0, [], .i64⟩) .nil .nil) .nil) (.node (some ⟨0, 1, 8, [.nilf], 0, 0, [], .i64⟩) (.node (some ⟨0, 1, 8, [.nilf], 0, 0, [], .i64⟩) .nil .nil) .nil)) (.node none (.node (some ⟨0, 1, 8, [.nilf], 0, 0, [], .i64⟩) (.node (some ⟨0, 1, 8, [.nilf], 0, 0, [], .i64⟩) .nil .nil) .nil) (.node (some ⟨0, 1, 8, [.nilf], 0, 0, [], .i64⟩) .nil .nil))) (.node (some ⟨0, 1, 8, [.nilf], 0, 0, [], .i64⟩) (.node (some ⟨0, 1, 8, [.nilf], 0, 0, [], .i64⟩) (.node (some ⟨0, 1, 8, [.nilf], 0, 0, [], .i64⟩) .nil .nil) (.node (some ⟨0, 1, 8, [.nilf], 0, 0, [], .i64⟩) (.node (some ⟨0, 1, 8, [.nilf], 0, 0, [], .i64⟩) .nil .nil) .nil)) (.node (some ⟨6, 2, 48, [.nils, .nils], 0, 0, [(0, 22, 1), (1, 22, 1)], .i64⟩) (.node (some ⟨6, 2, 48, [.nils, .nils], 0, 0, [(0, 92, 1), (1, 92, 1)], .i64⟩) (.node (some ⟨0, 1, 8, [.nilf], 0, 0, [], .i64⟩) .nil .nil) .nil) (.node (some ⟨4, 1, 24, [.nils], 129, 0, [], .i64⟩) (.node (some ⟨0, 1, 8, [.nilf], 0, 0, [], .i64⟩) .nil .nil) .nil)))))) (.node (some ⟨1, 1, 8, [(.int .i64 0)], 0, 0, [], .i64⟩) (.node (some ⟨2, 1, 1, [(.bool false)], 0, 0, [], .i64⟩) (.node (some ⟨6, 4, 24, [(.int .i64 0), (.int .i64 0), (.bool false), (.int .u8 0)], 0, 0, [(0, 2, 1), (1, 3, 1), (2, 4, 1), (3, 6, 1)], .i64⟩) (.node (some ⟨7, 1, 8, [.nilp], 185, 0, [], .i64⟩) (.node (some ⟨0, 1, 8, [.nilf], 0, 0, [], .i64⟩) (.node none (.node (some ⟨6, 5, 32, [(.int .i64 0), (.int .i64 0), (.bool false), (.bool false), (.int .i64 0)], 0, 0, [(0, 127, 4), (4, 3, 1)], .i64⟩) .nil .nil) (.node (some ⟨1, 1, 4, [(.int .i32 0)], 0, 0, [], .i32⟩) .nil .nil)) (.node (some ⟨0, 1, 8, [.nilf], 0, 0, [], .i64⟩) (.node (some ⟨0, 1, 8, [.nilf], 0, 0, [], .i64⟩) .nil .nil) .nil)) (.node (some ⟨0, 1, 8, [.nilf], 0, 0, [], .i64⟩) (.node (some ⟨0, 1, 8, [.nilf], 0, 0, [], .i64⟩) (.node (some ⟨0, 1, 8, [.nilf], 0, 0, [], .i64⟩) .nil .nil) .nil) (.node (some ⟨0, 1, 8, [.nilf], 0, 0, [], .i64⟩) (.node (some ⟨7, 1, 8, [.nilp], 3, 0, [], .i64⟩) .nil .nil) .nil))) (.node (some ⟨4, 1, 24, [.nils], 23, 0, [], .i64⟩) (.node (some ⟨0, 1, 8, [.nilf], 0, 0, [], .i64⟩) (.node (some ⟨4, 1, 24, [.nils], 131, 0, [], .i64⟩) (.node (some ⟨0, 1, 8, [.nilf], 0, 0, [], .i64⟩) .nil .nil) .nil) (.node none (.node (some ⟨0, 1, 8, [.nilf], 0, 0, [], .i64⟩) .nil .nil) .nil)) (.node (some ⟨0, 1, 8, [.nilf], 0, 0, [], .i64⟩) (.node (some ⟨0, 1, 8, [.nilf], 0, 0, [], .i64⟩) (.node (some ⟨0, 1, 8, [.nilf], 0, 0, [], .i64⟩) .nil .nil) .nil) (.node (some ⟨0, 1, 8, [.nilf], 0, 0, [], .i64⟩) .nil .nil)))) (.node (some ⟨1, 1, 8, [(.int .u64 0)], 0, 0, [], .u64⟩) (.node (some ⟨0, 1, 16, [.undef], 0, 0, [], .i64⟩) (.node (some ⟨0, 1, 8, [.nilf], 0, 0, [], .i64⟩) (.node (some ⟨0, 1, 8, [.nilf], 0, 0, [], .i64⟩) (.node (some ⟨0, 1, 8, [.nilf], 0, 0, [], .i64⟩) .nil .nil) .nil) (.node (some ⟨0, 1, 8, [.nilf], 0, 0, [], .i64⟩) .nil .nil)) (.node (some ⟨0, 1, 8, [.nilf], 0, 0, [], .i64⟩) (.node (some ⟨0, 1, 8, [.nilf], 0, 0, [], .i64⟩) (.node (some ⟨0, 1, 8, [.nilf], 0, 0, [], .i64⟩) .nil .nil) .nil) (.node (some ⟨0, 1, 8, [.nilf], 0, 0, [], .i64⟩) (.node (some ⟨0, 1, 8, [.nilf], 0, 0, [], .i64⟩) .nil .nil) .nil))) (.node none (.node (some ⟨0, 1, 8, [.nilf], 0, 0, [], .i64⟩) (.node none (.node (some ⟨0, 1, 8, [.nilf], 0, 0, [], .i64⟩) .nil .nil) .nil) (.node (some ⟨0, 1, 8, [.nilf], 0, 0, [], .i64⟩) (.node (some ⟨1, 1, 8, [(.int .u64 0)], 0, 0, [], .u64⟩) .nil .nil) .nil)) (.node (some ⟨6, 2, 48, [.nils, .nils], 0, 0, [(0, 22, 1), (1, 22, 1)], .i64⟩) (.node (some ⟨4, 1, 24, [.nils], 22, 0, [], .i64⟩) (.node (some ⟨7, 1, 8, [.nilp], 129, 0, [], .i64⟩) .nil .nil) .nil) (.node (some ⟨0, 1, 8, [.nilf], 0, 0, [], .i64⟩) (.node (some ⟨1, 1, 1, [(.int .u8 0)], 0, 0, [], .u8⟩) .nil .nil) .nil))))) (.node (some ⟨1, 1, 1, [(.int .u8 0)], 0, 0, [], .u8⟩) (.node (some ⟨3, 1, 16, [(.str [])], 0, 0, [], .i64⟩) (.node none (.node (some ⟨0, 1, 8, [.nilf], 0, 0, [], .i64⟩) (.node (some ⟨0, 1, 8, [.nilf], 0, 0, [], .i64⟩) (.node (some ⟨6, 3, 24, [(.int .i64 0), (.int .i64 0), (.int .i64 0)], 0, 0, [(0, 3, 1), (1, 3, 1), (2, 3, 1)], .i64⟩) .nil .nil) .nil) (.node (some ⟨0, 1, 8, [.nilf], 0, 0, [], .i64⟩) (.node (some ⟨0, 1, 8, [.nilf], 0, 0, [], .i64⟩) .nil .nil) .nil)) (.node (some ⟨0, 1, 8, [.nilf], 0, 0, [], .i64⟩) (.node (some ⟨0, 1, 8, [.nilf], 0, 0, [], .i64⟩) (.node (some ⟨5, 10, 10, (List.replicate 10 (.bool false)), 4, 10, [], .i64⟩) .nil .nil) .nil) (.node (some ⟨0, 1, 8, [.nilf], 0, 0, [], .i64⟩) (.node (some ⟨7, 1, 8, [.nilp], 172, 0, [], .i64⟩) .nil .nil) .nil))) (.node (some ⟨6, 2, 16, [(.int .i64 0), (.int .i64 0)], 0, 0, [(0, 3, 1), (1, 3, 1)], .i64⟩) (.node (some ⟨0, 1, 8, [.nilf], 0, 0, [], .i64⟩) (.node (some ⟨0, 1, 8, [.nilf], 0, 0, [], .i64⟩) (.node (some ⟨0, 1, 8, [.nilf], 0, 0, [], .i64⟩) .nil .nil) .nil) (.node (some ⟨0, 1, 8, [.nilf], 0, 0, [], .i64⟩) (.node (some ⟨0, 1, 8, [.nilf], 0, 0, [], .i64⟩) .nil .nil) .nil)) (.node (some ⟨0, 1, 8, [.nilf], 0, 0, [], .i64⟩) (.node (some ⟨0, 1, 8, [.nilf], 0, 0, [], .i64⟩) (.node (some ⟨0, 1, 8, [.nilf], 0, 0, [], .i64⟩) .nil .nil) .nil) (.node (some ⟨0, 1, 8, [.nilf], 0, 0, [], .i64⟩) (.node (some ⟨0, 1, 8, [.nilf], 0, 0, [], .i64⟩) .nil .nil) .nil)))) (.node none (.node (some ⟨4, 1, 24, [.nils], 3, 0, [], .i64⟩) (.node none (.node (some ⟨0, 1, 8, [.nilf], 0, 0, [], .i64⟩) (.node (some ⟨0, 1, 8, [.nilf], 0, 0, [], .i64⟩) .nil .nil) .nil) (.node (some ⟨0, 1, 8, [.nilf], 0, 0, [], .i64⟩) (.node (some ⟨0, 1, 8, [.nilf], 0, 0, [], .i64⟩) .nil .nil) .nil)) (.node (some ⟨0, 1, 8, [.nilf], 0, 0, [], .i64⟩) (.node (some ⟨4, 1, 24, [.nils], 5, 0, [], .i64⟩) (.node (some ⟨0, 1, 8, [.nilf], 0, 0, [], .i64⟩) .nil .nil) .nil) (.node (some ⟨0, 1, 8, [.nilf], 0, 0, [], .i64⟩) .nil .nil))) (.node (some ⟨0, 1, 8, [.nilf], 0, 0, [], .i64⟩) (.node (some ⟨0, 1, 8, [.nilf], 0, 0, [], .i64⟩) (.node (some ⟨0, 1, 8, [.nilf], 0, 0, [], .i64⟩) (.node (some ⟨0, 1, 8, [.nilf], 0, 0, [], .i64⟩) .nil .nil) .nil) (.node (some ⟨0, 1, 8, [.nilf], 0, 0, [], .i64⟩) (.node (some ⟨0, 1, 8, [.nilf], 0, 0, [], .i64⟩) .nil .nil) .nil)) (.node (some ⟨0, 1, 8, [.nilf], 0, 0, [], .i64⟩) (.node (some ⟨6, 2, 48, [.nils, .nils], 0, 0, [(0, 92, 1), (1, 92, 1)], .i64⟩) (.node (some ⟨0, 1, 8, [.nilf], 0, 0, [], .i64⟩) .nil .nil) .nil) (.node (some ⟨6, 4, 24, [(.int .i64 0), (.int .i64 0), (.bool false), (.bool false)], 0, 0, [(0, 3, 1), (1, 3, 1), (2, 4, 1), (3, 4, 1)], .i64⟩) (.node (some ⟨7, 1, 8, [.nilp], 5, 0, [], .i64⟩) .nil .nil) .nil)))))))
noncomputable def E.fnTr : Tr Fi := (.node none (.node none (.node (some ⟨226, (Try.f3.body.getD .skip), Try.f3.results.toList, [14, 21, 41]⟩) (.node (some ⟨245, (Try.f7.body.getD .skip), Try.f7.results.toList, [18]⟩) (.node (some ⟨27, (Try.f15.body.getD .skip), Try.f15.results.toList, []⟩) (.node (some ⟨26, (Try.f31.body.getD .skip), Try.f31.results.toList, []⟩) (.node (some ⟨12, (Try.f63.body.getD .skip), Try.f63.results.toList, []⟩) (.node (some ⟨21, (Try.f127.body.getD .skip), Try.f127.results.toList, []⟩) .nil .nil) .nil) (.node (some ⟨25, (Try.f95.body.getD .skip), Try.f95.results.toList, []⟩) (.node (some ⟨8, (Try.f159.body.getD .skip), Try.f159.results.toList, []⟩) .nil .nil) .nil)) (.node (some ⟨25, (Try.f47.body.getD .skip), Try.f47.results.toList, []⟩) (.node (some ⟨8, (Try.f79.body.getD .skip), Try.f79.results.toList, []⟩) (.node (some ⟨55, (Try.f143.body.getD .skip), Try.f143.results.toList, []⟩) .nil .nil) .nil) (.node (some ⟨9, (Try.f111.body.getD .skip), Try.f111.results.toList, []⟩) (.node (some ⟨32, (Try.f175.body.getD .skip), Try.f175.results.toList, []⟩) .nil .nil) .nil))) (.node (some ⟨24, (Try.f23.body.getD .skip), Try.f23.results.toList, []⟩) (.node (some ⟨31, (Try.f39.body.getD .skip), Try.f39.results.toList, []⟩) (.node (some ⟨40, (Try.f71.body.getD .skip), Try.f71.results.toList, []⟩) (.node (some ⟨14, (Try.f135.body.getD .skip), Try.f135.results.toList, []⟩) .nil .nil) .nil) (.node (some ⟨32, (Try.f103.body.getD .skip), Try.f103.results.toList, []⟩) (.node (some ⟨17, (Try.f167.body.getD .skip), Try.f167.results.toList, []⟩) .nil .nil) .nil)) (.node (some ⟨58, (Try.f55.body.getD .skip), Try.f55.results.toList, []⟩) (.node (some ⟨32, (Try.f87.body.getD .skip), Try.f87.results.toList, []⟩) (.node (some ⟨17, (Try.f151.body.getD .skip), Try.f151.results.toList, []⟩) .nil .nil) .nil) (.node (some ⟨27, (Try.f119.body.getD .skip), Try.f119.results.toList, []⟩) (.node (some ⟨6, (Try.f183.body.getD .skip), Try.f183.results.toList, []⟩) .nil .nil) .nil)))) (.node (some ⟨169, (Try.f11.body.getD .skip), Try.f11.results.toList, []⟩) (.node (some ⟨42, (Try.f19.body.getD .skip), Try.f19.results.toList, []⟩) (.node (some ⟨45, (Try.f35.body.getD .skip), Try.f35.results.toList, [7]⟩) (.node (some ⟨38, (Try.f67.body.getD .skip), Try.f67.results.toList, [11]⟩) (.node (some ⟨25, (Try.f131.body.getD .skip), Try.f131.results.toList, []⟩) .nil .nil) .nil) (.node (some ⟨97, (Try.f99.body.getD .skip), Try.f99.results.toList, []⟩) (.node (some ⟨60, (Try.f163.body.getD .skip), Try.f163.results.toList, []⟩) .nil .nil) .nil)) (.node none (.node (some ⟨106, (Try.f83.body.getD .skip), Try.f83.results.toList, []⟩) (.node (some ⟨21, (Try.f147.body.getD .skip), Try.f147.results.toList, []⟩) .nil .nil) .nil) (.node (some ⟨9, (Try.f115.body.getD .skip), Try.f115.results.toList, []⟩) (.node (some ⟨19, (Try.f179.body.getD .skip), Try.f179.results.toList, []⟩) .nil .nil) .nil))) (.node (some ⟨8, (Try.f27.body.getD .skip), Try.f27.results.toList, []⟩) (.node (some ⟨86, (Try.f43.body.getD .skip), Try.f43.results.toList, []⟩) (.node (some ⟨53, (Try.f75.body.getD .skip), Try.f75.results.toList, []⟩) (.node (some ⟨51, (Try.f139.body.getD .skip), Try.f139.results.toList, []⟩) .nil .nil) .nil) (.node (some ⟨37, (Try.f107.body.getD .skip), Try.f107.results.toList, []⟩) (.node (some ⟨49, (Try.f171.body.getD .skip), Try.f171.results.toList, []⟩) .nil .nil) .nil)) (.node (some ⟨153, (Try.f59.body.getD .skip), Try.f59.results.toList, [24]⟩) (.node (some ⟨71, (Try.f91.body.getD .skip), Try.f91.results.toList, []⟩) (.node (some ⟨19, (Try.f155.body.getD .skip), Try.f155.results.toList, []⟩) .nil .nil) .nil) (.node (some ⟨3, (Try.f123.body.getD .skip), Try.f123.results.toList, []⟩) (.node (some ⟨15, (Try.f187.body.getD .skip), Try.f187.results.toList, []⟩) .nil .nil) .nil))))) (.node (some ⟨184, (Try.f5.body.getD .skip), Try.f5.results.toList, []⟩) (.node (some ⟨223, (Try.f9.body.getD .skip), Try.f9.results.toList, []⟩) (.node (some ⟨37, (Try.f17.body.getD .skip), Try.f17.results.toList, []⟩) (.node (some ⟨57, (Try.f33.body.getD .skip), Try.f33.results.toList, []⟩) (.node (some ⟨10, (Try.f65.body.getD .skip), Try.f65.results.toList, []⟩) (.node (some ⟨40, (Try.f129.body.getD .skip), Try.f129.results.toList, []⟩) .nil .nil) .nil) (.node (some ⟨9, (Try.f97.body.getD .skip), Try.f97.results.toList, []⟩) (.node (some ⟨19, (Try.f161.body.getD .skip), Try.f161.results.toList, []⟩) .nil .nil) .nil)) (.node (some ⟨51, (Try.f49.body.getD .skip), Try.f49.results.toList, []⟩) (.node none (.node (some ⟨19, (Try.f145.body.getD .skip), Try.f145.results.toList, []⟩) .nil .nil) .nil) (.node (some ⟨10, (Try.f113.body.getD .skip), Try.f113.results.toList, []⟩) (.node (some ⟨84, (Try.f177.body.getD .skip), Try.f177.results.toList, []⟩) .nil .nil) .nil))) (.node (some ⟨68, (Try.f25.body.getD .skip), Try.f25.results.toList, []⟩) (.node (some ⟨39, (Try.f41.body.getD .skip), Try.f41.results.toList, [5]⟩) (.node (some ⟨36, (Try.f73.body.getD .skip), Try.f73.results.toList, []⟩) (.node (some ⟨9, (Try.f137.body.getD .skip), Try.f137.results.toList, []⟩) .nil .nil) .nil) (.node (some ⟨31, (Try.f105.body.getD .skip), Try.f105.results.toList, []⟩) (.node (some ⟨16, (Try.f169.body.getD .skip), Try.f169.results.toList, []⟩) .nil .nil) .nil)) (.node (some ⟨86, (Try.f57.body.getD .skip), Try.f57.results.toList, []⟩) (.node (some ⟨118, (Try.f89.body.getD .skip), Try.f89.results.toList, []⟩) (.node (some ⟨9, (Try.f153.body.getD .skip), Try.f153.results.toList, []⟩) .nil .nil) .nil) (.node (some ⟨29, (Try.f121.body.getD .skip), Try.f121.results.toList, [5]⟩) (.node (some ⟨7, (Try.f185.body.getD .skip), Try.f185.results.toList, []⟩) .nil .nil) .nil)))) (.node (some ⟨196, (Try.f13.body.getD .skip), Try.f13.results.toList, []⟩) (.node (some ⟨14, (Try.f21.body.getD .skip), Try.f21.results.toList, []⟩) (.node (some ⟨22, (Try.f37.body.getD .skip), Try.f37.results.toList, []⟩) (.node (some ⟨52, (Try.f69.body.getD .skip), Try.f69.results.toList, []⟩) (.node (some ⟨31, (Try.f133.body.getD .skip), Try.f133.results.toList, []⟩) .nil .nil) .nil) (.node (some ⟨39, (Try.f101.body.getD .skip), Try.f101.results.toList, []⟩) (.node (some ⟨10, (Try.f165.body.getD .skip), Try.f165.results.toList, []⟩) .nil .nil) .nil)) (.node (some ⟨53, (Try.f53.body.getD .skip), Try.f53.results.toList, []⟩) (.node (some ⟨17, (Try.f85.body.getD .skip), Try.f85.results.toList, []⟩) (.node (some ⟨8, (Try.f149.body.getD .skip), Try.f149.results.toList, []⟩) .nil .nil) .nil) (.node (some ⟨9, (Try.f117.body.getD .skip), Try.f117.results.toList, []⟩) (.node (some ⟨18, (Try.f181.body.getD .skip), Try.f181.results.toList, []⟩) .nil .nil) .nil))) (.node (some ⟨40, (Try.f29.body.getD .skip), Try.f29.results.toList, []⟩) (.node (some ⟨55, (Try.f45.body.getD .skip), Try.f45.results.toList, []⟩) (.node (some ⟨23, (Try.f77.body.getD .skip), Try.f77.results.toList, []⟩) (.node (some ⟨5, (Try.f141.body.getD .skip), Try.f141.results.toList, []⟩) .nil .nil) .nil) (.node (some ⟨35, (Try.f109.body.getD .skip), Try.f109.results.toList, []⟩) (.node (some ⟨65, (Try.f173.body.getD .skip), Try.f173.results.toList, []⟩) .nil .nil) .nil)) (.node (some ⟨34, (Try.f61.body.getD .skip), Try.f61.results.toList, []⟩) (.node (some ⟨40, (Try.f93.body.getD .skip), Try.f93.results.toList, []⟩) (.node (some ⟨14, (Try.f157.body.getD .skip), Try.f157.results.toList, []⟩) .nil .nil) .nil) (.node (some ⟨6, (Try.f125.body.getD .skip), Try.f125.results.toList, []⟩) (.node (some ⟨28, (Try.f189.body.getD .skip), Try.f189.results.toList, []⟩) .nil .nil) .nil)))))) (.node none (.node (some ⟨259, (Try.f4.body.getD .skip), Try.f4.results.toList, []⟩) (.node (some ⟨71, (Try.f8.body.getD .skip), Try.f8.results.toList, []⟩) (.node (some ⟨32, (Try.f16.body.getD .skip), Try.f16.results.toList, []⟩) (.node (some ⟨8, (Try.f32.body.getD .skip), Try.f32.results.toList, []⟩) (.node (some ⟨73, (Try.f64.body.getD .skip), Try.f64.results.toList, []⟩) (.node (some ⟨76, (Try.f128.body.getD .skip), Try.f128.results.toList, []⟩) .nil .nil) .nil) (.node (some ⟨9, (Try.f96.body.getD .skip), Try.f96.results.toList, []⟩) (.node (some ⟨33, (Try.f160.body.getD .skip), Try.f160.results.toList, []⟩) .nil .nil) .nil)) (.node (some ⟨18, (Try.f48.body.getD .skip), Try.f48.results.toList, [4]⟩) (.node (some ⟨42, (Try.f80.body.getD .skip), Try.f80.results.toList, []⟩) (.node (some ⟨19, (Try.f144.body.getD .skip), Try.f144.results.toList, []⟩) .nil .nil) .nil) (.node (some ⟨9, (Try.f112.body.getD .skip), Try.f112.results.toList, []⟩) (.node (some ⟨133, (Try.f176.body.getD .skip), Try.f176.results.toList, []⟩) .nil .nil) .nil))) (.node (some ⟨41, (Try.f24.body.getD .skip), Try.f24.results.toList, []⟩) (.node (some ⟨27, (Try.f40.body.getD .skip), Try.f40.results.toList, []⟩) (.node (some ⟨84, (Try.f72.body.getD .skip), Try.f72.results.toList, [21]⟩) (.node (some ⟨33, (Try.f136.body.getD .skip), Try.f136.results.toList, []⟩) .nil .nil) .nil) (.node (some ⟨50, (Try.f104.body.getD .skip), Try.f104.results.toList, []⟩) (.node (some ⟨54, (Try.f168.body.getD .skip), Try.f168.results.toList, []⟩) .nil .nil) .nil)) (.node (some ⟨103, (Try.f56.body.getD .skip), Try.f56.results.toList, []⟩) (.node (some ⟨10, (Try.f88.body.getD .skip), Try.f88.results.toList, []⟩) (.node (some ⟨17, (Try.f152.body.getD .skip), Try.f152.results.toList, []⟩) .nil .nil) .nil) (.node (some ⟨33, (Try.f120.body.getD .skip), Try.f120.results.toList, []⟩) (.node (some ⟨76, (Try.f184.body.getD .skip), Try.f184.results.toList, []⟩) .nil .nil) .nil)))) (.node (some ⟨108, (Try.f12.body.getD .skip), Try.f12.results.toList, [3, 6, 15]⟩) (.node (some ⟨18, (Try.f20.body.getD .skip), Try.f20.results.toList, []⟩) (.node (some ⟨35, (Try.f36.body.getD .skip), Try.f36.results.toList, []⟩) (.node (some ⟨89, (Try.f68.body.getD .skip), Try.f68.results.toList, []⟩) (.node (some ⟨24, (Try.f132.body.getD .skip), Try.f132.results.toList, []⟩) .nil .nil) .nil) (.node (some ⟨8, (Try.f100.body.getD .skip), Try.f100.results.toList, []⟩) (.node (some ⟨19, (Try.f164.body.getD .skip), Try.f164.results.toList, []⟩) .nil .nil) .nil)) (.node (some ⟨65, (Try.f52.body.getD .skip), Try.f52.results.toList, []⟩) (.node (some ⟨84, (Try.f84.body.getD .skip), Try.f84.results.toList, []⟩) (.node (some ⟨52, (Try.f148.body.getD .skip), Try.f148.results.toList, []⟩) .nil .nil) .nil) (.node (some ⟨19, (Try.f116.body.getD .skip), Try.f116.results.toList, []⟩) (.node (some ⟨25, (Try.f180.body.getD .skip), Try.f180.results.toList, []⟩) .nil .nil) .nil))) (.node (some ⟨21, (Try.f28.body.getD .skip), Try.f28.results.toList, []⟩) (.node (some ⟨40, (Try.f44.body.getD .skip), Try.f44.results.toList, []⟩) (.node (some ⟨23, (Try.f76.body.getD .skip), Try.f76.results.toList, []⟩) (.node (some ⟨9, (Try.f140.body.getD .skip), Try.f140.results.toList, []⟩) .nil .nil) .nil) (.node (some ⟨11, (Try.f108.body.getD .skip), Try.f108.results.toList, []⟩) (.node (some ⟨56, (Try.f172.body.getD .skip), Try.f172.results.toList, []⟩) .nil .nil) .nil)) (.node (some ⟨46, (Try.f60.body.getD .skip), Try.f60.results.toList, []⟩) (.node (some ⟨27, (Try.f92.body.getD .skip), Try.f92.results.toList, []⟩) (.node (some ⟨26, (Try.f156.body.getD .skip), Try.f156.results.toList, []⟩) .nil .nil) .nil) (.node (some ⟨4, (Try.f124.body.getD .skip), Try.f124.results.toList, []⟩) (.node (some ⟨36, (Try.f188.body.getD .skip), Try.f188.results.toList, []⟩) .nil .nil) .nil))))) (.node (some ⟨173, (Try.f6.body.getD .skip), Try.f6.results.toList, [21]⟩) (.node (some ⟨144, (Try.f10.body.getD .skip), Try.f10.results.toList, []⟩) (.node (some ⟨57, (Try.f18.body.getD .skip), Try.f18.results.toList, []⟩) (.node (some ⟨25, (Try.f34.body.getD .skip), Try.f34.results.toList, []⟩) (.node (some ⟨17, (Try.f66.body.getD .skip), Try.f66.results.toList, []⟩) (.node (some ⟨8, (Try.f130.body.getD .skip), Try.f130.results.toList, []⟩) .nil .nil) .nil) (.node (some ⟨27, (Try.f98.body.getD .skip), Try.f98.results.toList, []⟩) (.node (some ⟨13, (Try.f162.body.getD .skip), Try.f162.results.toList, []⟩) .nil .nil) .nil)) (.node (some ⟨21, (Try.f50.body.getD .skip), Try.f50.results.toList, [4]⟩) (.node (some ⟨149, (Try.f82.body.getD .skip), Try.f82.results.toList, [17]⟩) (.node (some ⟨17, (Try.f146.body.getD .skip), Try.f146.results.toList, []⟩) .nil .nil) .nil) (.node (some ⟨33, (Try.f114.body.getD .skip), Try.f114.results.toList, []⟩) (.node (some ⟨168, (Try.f178.body.getD .skip), Try.f178.results.toList, []⟩) .nil .nil) .nil))) (.node (some ⟨46, (Try.f26.body.getD .skip), Try.f26.results.toList, []⟩) (.node (some ⟨72, (Try.f42.body.getD .skip), Try.f42.results.toList, []⟩) (.node (some ⟨60, (Try.f74.body.getD .skip), Try.f74.results.toList, []⟩) (.node (some ⟨17, (Try.f138.body.getD .skip), Try.f138.results.toList, []⟩) .nil .nil) .nil) (.node (some ⟨31, (Try.f106.body.getD .skip), Try.f106.results.toList, []⟩) (.node (some ⟨74, (Try.f170.body.getD .skip), Try.f170.results.toList, []⟩) .nil .nil) .nil)) (.node (some ⟨93, (Try.f58.body.getD .skip), Try.f58.results.toList, []⟩) (.node (some ⟨39, (Try.f90.body.getD .skip), Try.f90.results.toList, []⟩) (.node (some ⟨54, (Try.f154.body.getD .skip), Try.f154.results.toList, []⟩) .nil .nil) .nil) (.node (some ⟨4, (Try.f122.body.getD .skip), Try.f122.results.toList, []⟩) (.node (some ⟨33, (Try.f186.body.getD .skip), Try.f186.results.toList, []⟩) .nil .nil) .nil)))) (.node (some ⟨129, (Try.f14.body.getD .skip), Try.f14.results.toList, []⟩) (.node (some ⟨26, (Try.f22.body.getD .skip), Try.f22.results.toList, []⟩) (.node (some ⟨38, (Try.f38.body.getD .skip), Try.f38.results.toList, []⟩) (.node (some ⟨24, (Try.f70.body.getD .skip), Try.f70.results.toList, []⟩) (.node (some ⟨28, (Try.f134.body.getD .skip), Try.f134.results.toList, []⟩) .nil .nil) .nil) (.node (some ⟨18, (Try.f102.body.getD .skip), Try.f102.results.toList, []⟩) (.node (some ⟨7, (Try.f166.body.getD .skip), Try.f166.results.toList, []⟩) .nil .nil) .nil)) (.node (some ⟨31, (Try.f54.body.getD .skip), Try.f54.results.toList, []⟩) (.node (some ⟨67, (Try.f86.body.getD .skip), Try.f86.results.toList, []⟩) (.node (some ⟨27, (Try.f150.body.getD .skip), Try.f150.results.toList, []⟩) .nil .nil) .nil) (.node (some ⟨14, (Try.f118.body.getD .skip), Try.f118.results.toList, []⟩) (.node (some ⟨6, (Try.f182.body.getD .skip), Try.f182.results.toList, []⟩) .nil .nil) .nil))) (.node (some ⟨8, (Try.f30.body.getD .skip), Try.f30.results.toList, []⟩) (.node (some ⟨19, (Try.f46.body.getD .skip), Try.f46.results.toList, []⟩) (.node (some ⟨33, (Try.f78.body.getD .skip), Try.f78.results.toList, []⟩) (.node (some ⟨66, (Try.f142.body.getD .skip), Try.f142.results.toList, []⟩) .nil .nil) .nil) (.node (some ⟨25, (Try.f110.body.getD .skip), Try.f110.results.toList, []⟩) (.node (some ⟨57, (Try.f174.body.getD .skip), Try.f174.results.toList, []⟩) .nil .nil) .nil)) (.node (some ⟨70, (Try.f62.body.getD .skip), Try.f62.results.toList, []⟩) (.node (some ⟨78, (Try.f94.body.getD .skip), Try.f94.results.toList, []⟩) (.node (some ⟨134, (Try.f158.body.getD .skip), Try.f158.results.toList, []⟩) .nil .nil) .nil) (.node (some ⟨7, (Try.f126.body.getD .skip), Try.f126.results.toList, []⟩) .nil .nil)))))))
noncomputable def E : Env := ⟨E.tyTr.get, E.fnTr.get⟩
theorem E.ty1 : E.ty 1 = some ⟨0, 1, 8, [.nilf], 0, 0, [], .i64⟩ := rfl
theorem E.to1 : TyOk Try.prog 1 ⟨0, 1, 8, [.nilf], 0, 0, [], .i64⟩ := tyOk_of_mkTy (by kernel_rfl)
theorem E.ty2 : E.ty 2 = some ⟨1, 1, 8, [(.int .i64 0)], 0, 0, [], .i64⟩ := rfl
theorem E.to2 : TyOk Try.prog 2 ⟨1, 1, 8, [(.int .i64 0)], 0, 0, [], .i64⟩ := tyOk_of_mkTy (by kernel_rfl)
theorem E.ty3 : E.ty 3 = some ⟨1, 1, 8, [(.int .i64 0)], 0, 0, [], .i64⟩ := rfl
theorem E.to3 : TyOk Try.prog 3 ⟨1, 1, 8, [(.int .i64 0)], 0, 0, [], .i64⟩ := tyOk_of_mkTy (by kernel_rfl)
theorem E.ty4 : E.ty 4 = some ⟨2, 1, 1, [(.bool false)], 0, 0, [], .i64⟩ := rfl
theorem E.to4 : TyOk Try.prog 4 ⟨2, 1, 1, [(.bool false)], 0, 0, [], .i64⟩ := tyOk_of_mkTy (by kernel_rfl)
theorem E.ty5 : E.ty 5 = some ⟨1, 1, 1, [(.int .u8 0)], 0, 0, [], .u8⟩ := rfl
theorem E.to5 : TyOk Try.prog 5 ⟨1, 1, 1, [(.int .u8 0)], 0, 0, [], .u8⟩ := tyOk_of_mkTy (by kernel_rfl)
theorem E.ty6 : E.ty 6 = some ⟨1, 1, 1, [(.int .u8 0)], 0, 0, [], .u8⟩ := rfl
theorem E.to6 : TyOk Try.prog 6 ⟨1, 1, 1, [(.int .u8 0)], 0, 0, [], .u8⟩ := tyOk_of_mkTy (by kernel_rfl)
theorem E.ty7 : E.ty 7 = some ⟨6, 4, 24, [(.int .i64 0), (.int .i64 0), (.bool false), (.int .u8 0)], 0, 0, [(0, 2, 1), (1, 3, 1), (2, 4, 1), (3, 6, 1)], .i64⟩ := rfl
theorem E.to7 : TyOk Try.prog 7 ⟨6, 4, 24, [(.int .i64 0), (.int .i64 0), (.bool false), (.int .u8 0)], 0, 0, [(0, 2, 1), (1, 3, 1), (2, 4, 1), (3, 6, 1)], .i64⟩ := tyOk_of_mkTy (by kernel_rfl)
theorem E.ty8 : E.ty 8 = some ⟨6, 4, 24, [(.int .i64 0), (.int .i64 0), (.bool false), (.int .u8 0)], 0, 0, [(0, 2, 1), (1, 3, 1), (2, 4, 1), (3, 6, 1)], .i64⟩ := rfl
theorem E.to8 : TyOk Try.prog 8 ⟨6, 4, 24, [(.int .i64 0), (.int .i64 0), (.bool false), (.int .u8 0)], 0, 0, [(0, 2, 1), (1, 3, 1), (2, 4, 1), (3, 6, 1)], .i64⟩ := tyOk_of_mkTy (by kernel_rfl)
theorem E.ty9 : E.ty 9 = some ⟨3, 1, 16, [(.str [])], 0, 0, [], .i64⟩ := rfl
theorem E.to9 : TyOk Try.prog 9 ⟨3, 1, 16, [(.str [])], 0, 0, [], .i64⟩ := tyOk_of_mkTy (by kernel_rfl)
theorem E.ty10 : E.ty 10 = some ⟨3, 1, 16, [(.str [])], 0, 0, [], .i64⟩ := rfl
theorem E.to10 : TyOk Try.prog 10 ⟨3, 1, 16, [(.str [])], 0, 0, [], .i64⟩ := tyOk_of_mkTy (by kernel_rfl)
theorem E.ty11 : E.ty 11 = some ⟨3, 1, 16, [(.str [])], 0, 0, [], .i64⟩ := rfl
theorem E.to11 : TyOk Try.prog 11 ⟨3, 1, 16, [(.str [])], 0, 0, [], .i64⟩ := tyOk_of_mkTy (by kernel_rfl)
theorem E.ty12 : E.ty 12 = some ⟨1, 1, 8, [(.int .u64 0)], 0, 0, [], .u64⟩ := rfl
theorem E.to12 : TyOk Try.prog 12 ⟨1, 1, 8, [(.int .u64 0)], 0, 0, [], .u64⟩ := tyOk_of_mkTy (by kernel_rfl)
theorem E.ty15 : E.ty 15 = some ⟨7, 1, 8, [.nilp], 182, 0, [], .i64⟩ := rfl
theorem E.to15 : TyOk Try.prog 15 ⟨7, 1, 8, [.nilp], 182, 0, [], .i64⟩ := tyOk_of_mkTy (by kernel_rfl)
theorem E.ty16 : E.ty 16 = some ⟨7, 1, 8, [.nilp], 185, 0, [], .i64⟩ := rfl
theorem E.to16 : TyOk Try.prog 16 ⟨7, 1, 8, [.nilp], 185, 0, [], .i64⟩ := tyOk_of_mkTy (by kernel_rfl)
theorem E.ty17 : E.ty 17 = some ⟨7, 1, 8, [.nilp], 194, 0, [], .i64⟩ := rfl
theorem E.to17 : TyOk Try.prog 17 ⟨7, 1, 8, [.nilp], 194, 0, [], .i64⟩ := tyOk_of_mkTy (by kernel_rfl)
theorem E.ty20 : E.ty 20 = some ⟨0, 1, 16, [.undef], 0, 0, [], .i64⟩ := rfl
theorem E.to20 : TyOk Try.prog 20 ⟨0, 1, 16, [.undef], 0, 0, [], .i64⟩ := tyOk_of_mkTy (by kernel_rfl)
theorem E.ty21 : E.ty 21 = some ⟨1, 1, 4, [(.int .i32 0)], 0, 0, [], .i32⟩ := rfl
theorem E.to21 : TyOk Try.prog 21 ⟨1, 1, 4, [(.int .i32 0)], 0, 0, [], .i32⟩ := tyOk_of_mkTy (by kernel_rfl)
theorem E.ty22 : E.ty 22 = some ⟨4, 1, 24, [.nils], 3, 0, [], .i64⟩ := rfl
theorem E.to22 : TyOk Try.prog 22 ⟨4, 1, 24, [.nils], 3, 0, [], .i64⟩ := tyOk_of_mkTy (by kernel_rfl)
theorem E.ty23 : E.ty 23 = some ⟨1, 1, 2, [(.int .u16 0)], 0, 0, [], .u16⟩ := rfl
theorem E.to23 : TyOk Try.prog 23 ⟨1, 1, 2, [(.int .u16 0)], 0, 0, [], .u16⟩ := tyOk_of_mkTy (by kernel_rfl)
theorem E.ty24 : E.ty 24 = some ⟨4, 1, 24, [.nils], 23, 0, [], .i64⟩ := rfl
theorem E.to24 : TyOk Try.prog 24 ⟨4, 1, 24, [.nils], 23, 0, [], .i64⟩ := tyOk_of_mkTy (by kernel_rfl)
theorem E.ty25 : E.ty 25 = some ⟨6, 2, 16, [(.int .i64 0), (.int .i64 0)], 0, 0, [(0, 3, 1), (1, 3, 1)], .i64⟩ := rfl
theorem E.to25 : TyOk Try.prog 25 ⟨6, 2, 16, [(.int .i64 0), (.int .i64 0)], 0, 0, [(0, 3, 1), (1, 3, 1)], .i64⟩ := tyOk_of_mkTy (by kernel_rfl)
theorem E.ty26 : E.ty 26 = some ⟨6, 2, 16, [(.int .i64 0), (.int .i64 0)], 0, 0, [(0, 3, 1), (1, 3, 1)], .i64⟩ := rfl
theorem E.to26 : TyOk Try.prog 26 ⟨6, 2, 16, [(.int .i64 0), (.int .i64 0)], 0, 0, [(0, 3, 1), (1, 3, 1)], .i64⟩ := tyOk_of_mkTy (by kernel_rfl)
theorem E.ty27 : E.ty 27 = some ⟨1, 1, 8, [(.int .i64 0)], 0, 0, [], .i64⟩ := rfl
theorem E.to27 : TyOk Try.prog 27 ⟨1, 1, 8, [(.int .i64 0)], 0, 0, [], .i64⟩ := tyOk_of_mkTy (by kernel_rfl)
theorem E.ty29 : E.ty 29 = some ⟨0, 1, 8, [.nilf], 0, 0, [], .i64⟩ := rfl
theorem E.to29 : TyOk Try.prog 29 ⟨0, 1, 8, [.nilf], 0, 0, [], .i64⟩ := tyOk_of_mkTy (by kernel_rfl)
theorem E.ty30 : E.ty 30 = some ⟨0, 1, 8, [.nilf], 0, 0, [], .i64⟩ := rfl
theorem E.to30 : TyOk Try.prog 30 ⟨0, 1, 8, [.nilf], 0, 0, [], .i64⟩ := tyOk_of_mkTy (by kernel_rfl)
theorem E.ty32 : E.ty 32 = some ⟨0, 1, 8, [.nilf], 0, 0, [], .i64⟩ := rfl
theorem E.to32 : TyOk Try.prog 32 ⟨0, 1, 8, [.nilf], 0, 0, [], .i64⟩ := tyOk_of_mkTy (by kernel_rfl)
theorem E.ty33 : E.ty 33 = some ⟨0, 1, 8, [.nilf], 0, 0, [], .i64⟩ := rfl
theorem E.to33 : TyOk Try.prog 33 ⟨0, 1, 8, [.nilf], 0, 0, [], .i64⟩ := tyOk_of_mkTy (by kernel_rfl)
theorem E.ty34 : E.ty 34 = some ⟨0, 1, 8, [.nilf], 0, 0, [], .i64⟩ := rfl
theorem E.to34 : TyOk Try.prog 34 ⟨0, 1, 8, [.nilf], 0, 0, [], .i64⟩ := tyOk_of_mkTy (by kernel_rfl)
theorem E.ty35 : E.ty 35 = some ⟨0, 1, 8, [.nilf], 0, 0, [], .i64⟩ := rfl
theorem E.to35 : TyOk Try.prog 35 ⟨0, 1, 8, [.nilf], 0, 0, [], .i64⟩ := tyOk_of_mkTy (by kernel_rfl)
theorem E.ty36 : E.ty 36 = some ⟨0, 1, 8, [.nilf], 0, 0, [], .i64⟩ := rfl
theorem E.to36 : TyOk Try.prog 36 ⟨0, 1, 8, [.nilf], 0, 0, [], .i64⟩ := tyOk_of_mkTy (by kernel_rfl)
theorem E.ty37 : E.ty 37 = some ⟨0, 1, 8, [.nilf], 0, 0, [], .i64⟩ := rfl
theorem E.to37 : TyOk Try.prog 37 ⟨0, 1, 8, [.nilf], 0, 0, [], .i64⟩ := tyOk_of_mkTy (by kernel_rfl)
theorem E.ty39 : E.ty 39 = some ⟨0, 1, 8, [.nilf], 0, 0, [], .i64⟩ := rfl
theorem E.to39 : TyOk Try.prog 39 ⟨0, 1, 8, [.nilf], 0, 0, [], .i64⟩ := tyOk_of_mkTy (by kernel_rfl)
theorem E.ty40 : E.ty 40 = some ⟨0, 1, 8, [.nilf], 0, 0, [], .i64⟩ := rfl
theorem E.to40 : TyOk Try.prog 40 ⟨0, 1, 8, [.nilf], 0, 0, [], .i64⟩ := tyOk_of_mkTy (by kernel_rfl)
theorem E.ty42 : E.ty 42 = some ⟨0, 1, 8, [.nilf], 0, 0, [], .i64⟩ := rfl
theorem E.to42 : TyOk Try.prog 42 ⟨0, 1, 8, [.nilf], 0, 0, [], .i64⟩ := tyOk_of_mkTy (by kernel_rfl)
theorem E.ty43 : E.ty 43 = some ⟨0, 1, 8, [.nilf], 0, 0, [], .i64⟩ := rfl
theorem E.to43 : TyOk Try.prog 43 ⟨0, 1, 8, [.nilf], 0, 0, [], .i64⟩ := tyOk_of_mkTy (by kernel_rfl)
theorem E.ty44 : E.ty 44 = some ⟨0, 1, 8, [.nilf], 0, 0, [], .i64⟩ := rfl
theorem E.to44 : TyOk Try.prog 44 ⟨0, 1, 8, [.nilf], 0, 0, [], .i64⟩ := tyOk_of_mkTy (by kernel_rfl)
theorem E.ty45 : E.ty 45 = some ⟨0, 1, 8, [.nilf], 0, 0, [], .i64⟩ := rfl
theorem E.to45 : TyOk Try.prog 45 ⟨0, 1, 8, [.nilf], 0, 0, [], .i64⟩ := tyOk_of_mkTy (by kernel_rfl)
theorem E.ty46 : E.ty 46 = some ⟨0, 1, 8, [.nilf], 0, 0, [], .i64⟩ := rfl
theorem E.to46 : TyOk Try.prog 46 ⟨0, 1, 8, [.nilf], 0, 0, [], .i64⟩ := tyOk_of_mkTy (by kernel_rfl)
theorem E.ty47 : E.ty 47 = some ⟨0, 1, 8, [.nilf], 0, 0, [], .i64⟩ := rfl
theorem E.to47 : TyOk Try.prog 47 ⟨0, 1, 8, [.nilf], 0, 0, [], .i64⟩ := tyOk_of_mkTy (by kernel_rfl)
theorem E.ty48 : E.ty 48 = some ⟨0, 1, 8, [.nilf], 0, 0, [], .i64⟩ := rfl
theorem E.to48 : TyOk Try.prog 48 ⟨0, 1, 8, [.nilf], 0, 0, [], .i64⟩ := tyOk_of_mkTy (by kernel_rfl)
theorem E.ty49 : E.ty 49 = some ⟨0, 1, 8, [.nilf], 0, 0, [], .i64⟩ := rfl
theorem E.to49 : TyOk Try.prog 49 ⟨0, 1, 8, [.nilf], 0, 0, [], .i64⟩ := tyOk_of_mkTy (by kernel_rfl)
theorem E.ty50 : E.ty 50 = some ⟨0, 1, 8, [.nilf], 0, 0, [], .i64⟩ := rfl
theorem E.to50 : TyOk Try.prog 50 ⟨0, 1, 8, [.nilf], 0, 0, [], .i64⟩ := tyOk_of_mkTy (by kernel_rfl)
theorem E.ty51 : E.ty 51 = some ⟨0, 1, 8, [.nilf], 0, 0, [], .i64⟩ := rfl
theorem E.to51 : TyOk Try.prog 51 ⟨0, 1, 8, [.nilf], 0, 0, [], .i64⟩ := tyOk_of_mkTy (by kernel_rfl)
theorem E.ty52 : E.ty 52 = some ⟨0, 1, 8, [.nilf], 0, 0, [], .i64⟩ := rfl
theorem E.to52 : TyOk Try.prog 52 ⟨0, 1, 8, [.nilf], 0, 0, [], .i64⟩ := tyOk_of_mkTy (by kernel_rfl)
theorem E.ty54 : E.ty 54 = some ⟨0, 1, 8, [.nilf], 0, 0, [], .i64⟩ := rfl
theorem E.to54 : TyOk Try.prog 54 ⟨0, 1, 8, [.nilf], 0, 0, [], .i64⟩ := tyOk_of_mkTy (by kernel_rfl)
theorem E.ty55 : E.ty 55 = some ⟨0, 1, 8, [.nilf], 0, 0, [], .i64⟩ := rfl
theorem E.to55 : TyOk Try.prog 55 ⟨0, 1, 8, [.nilf], 0, 0, [], .i64⟩ := tyOk_of_mkTy (by kernel_rfl)
theorem E.ty56 : E.ty 56 = some ⟨0, 1, 8, [.nilf], 0, 0, [], .i64⟩ := rfl
theorem E.to56 : TyOk Try.prog 56 ⟨0, 1, 8, [.nilf], 0, 0, [], .i64⟩ := tyOk_of_mkTy (by kernel_rfl)
theorem E.ty57 : E.ty 57 = some ⟨0, 1, 8, [.nilf], 0, 0, [], .i64⟩ := rfl
theorem E.to57 : TyOk Try.prog 57 ⟨0, 1, 8, [.nilf], 0, 0, [], .i64⟩ := tyOk_of_mkTy (by kernel_rfl)
theorem E.ty58 : E.ty 58 = some ⟨0, 1, 8, [.nilf], 0, 0, [], .i64⟩ := rfl
theorem E.to58 : TyOk Try.prog 58 ⟨0, 1, 8, [.nilf], 0, 0, [], .i64⟩ := tyOk_of_mkTy (by kernel_rfl)
theorem E.ty59 : E.ty 59 = some ⟨0, 1, 8, [.nilf], 0, 0, [], .i64⟩ := rfl
theorem E.to59 : TyOk Try.prog 59 ⟨0, 1, 8, [.nilf], 0, 0, [], .i64⟩ := tyOk_of_mkTy (by kernel_rfl)
theorem E.ty60 : E.ty 60 = some ⟨6, 2, 48, [.nils, .nils], 0, 0, [(0, 22, 1), (1, 22, 1)], .i64⟩ := rfl
theorem E.to60 : TyOk Try.prog 60 ⟨6, 2, 48, [.nils, .nils], 0, 0, [(0, 22, 1), (1, 22, 1)], .i64⟩ := tyOk_of_mkTy (by kernel_rfl)
theorem E.ty61 : E.ty 61 = some ⟨6, 2, 48, [.nils, .nils], 0, 0, [(0, 22, 1), (1, 22, 1)], .i64⟩ := rfl
theorem E.to61 : TyOk Try.prog 61 ⟨6, 2, 48, [.nils, .nils], 0, 0, [(0, 22, 1), (1, 22, 1)], .i64⟩ := tyOk_of_mkTy (by kernel_rfl)
theorem E.ty62 : E.ty 62 = some ⟨0, 1, 8, [.nilf], 0, 0, [], .i64⟩ := rfl
theorem E.to62 : TyOk Try.prog 62 ⟨0, 1, 8, [.nilf], 0, 0, [], .i64⟩ := tyOk_of_mkTy (by kernel_rfl)
theorem E.ty63 : E.ty 63 = some ⟨0, 1, 8, [.nilf], 0, 0, [], .i64⟩ := rfl
theorem E.to63 : TyOk Try.prog 63 ⟨0, 1, 8, [.nilf], 0, 0, [], .i64⟩ := tyOk_of_mkTy (by kernel_rfl)
theorem E.ty65 : E.ty 65 = some ⟨0, 1, 8, [.nilf], 0, 0, [], .i64⟩ := rfl
theorem E.to65 : TyOk Try.prog 65 ⟨0, 1, 8, [.nilf], 0, 0, [], .i64⟩ := tyOk_of_mkTy (by kernel_rfl)
theorem E.ty66 : E.ty 66 = some ⟨0, 1, 8, [.nilf], 0, 0, [], .i64⟩ := rfl
theorem E.to66 : TyOk Try.prog 66 ⟨0, 1, 8, [.nilf], 0, 0, [], .i64⟩ := tyOk_of_mkTy (by kernel_rfl)
theorem E.ty68 : E.ty 68 = some ⟨0, 1, 8, [.nilf], 0, 0, [], .i64⟩ := rfl
theorem E.to68 : TyOk Try.prog 68 ⟨0, 1, 8, [.nilf], 0, 0, [], .i64⟩ := tyOk_of_mkTy (by kernel_rfl)
theorem E.ty69 : E.ty 69 = some ⟨0, 1, 8, [.nilf], 0, 0, [], .i64⟩ := rfl
theorem E.to69 : TyOk Try.prog 69 ⟨0, 1, 8, [.nilf], 0, 0, [], .i64⟩ := tyOk_of_mkTy (by kernel_rfl)
theorem E.ty70 : E.ty 70 = some ⟨0, 1, 8, [.nilf], 0, 0, [], .i64⟩ := rfl
theorem E.to70 : TyOk Try.prog 70 ⟨0, 1, 8, [.nilf], 0, 0, [], .i64⟩ := tyOk_of_mkTy (by kernel_rfl)
theorem E.ty71 : E.ty 71 = some ⟨4, 1, 24, [.nils], 127, 0, [], .i64⟩ := rfl
theorem E.to71 : TyOk Try.prog 71 ⟨4, 1, 24, [.nils], 127, 0, [], .i64⟩ := tyOk_of_mkTy (by kernel_rfl)
theorem E.ty72 : E.ty 72 = some ⟨4, 1, 24, [.nils], 131, 0, [], .i64⟩ := rfl
theorem E.to72 : TyOk Try.prog 72 ⟨4, 1, 24, [.nils], 131, 0, [], .i64⟩ := tyOk_of_mkTy (by kernel_rfl)
theorem E.ty74 : E.ty 74 = some ⟨0, 1, 8, [.nilf], 0, 0, [], .i64⟩ := rfl
theorem E.to74 : TyOk Try.prog 74 ⟨0, 1, 8, [.nilf], 0, 0, [], .i64⟩ := tyOk_of_mkTy (by kernel_rfl)
theorem E.ty75 : E.ty 75 = some ⟨0, 1, 8, [.nilf], 0, 0, [], .i64⟩ := rfl
theorem E.to75 : TyOk Try.prog 75 ⟨0, 1, 8, [.nilf], 0, 0, [], .i64⟩ := tyOk_of_mkTy (by kernel_rfl)
theorem E.ty77 : E.ty 77 = some ⟨0, 1, 8, [.nilf], 0, 0, [], .i64⟩ := rfl
theorem E.to77 : TyOk Try.prog 77 ⟨0, 1, 8, [.nilf], 0, 0, [], .i64⟩ := tyOk_of_mkTy (by kernel_rfl)
theorem E.ty78 : E.ty 78 = some ⟨0, 1, 8, [.nilf], 0, 0, [], .i64⟩ := rfl
theorem E.to78 : TyOk Try.prog 78 ⟨0, 1, 8, [.nilf], 0, 0, [], .i64⟩ := tyOk_of_mkTy (by kernel_rfl)
theorem E.ty79 : E.ty 79 = some ⟨0, 1, 8, [.nilf], 0, 0, [], .i64⟩ := rfl
theorem E.to79 : TyOk Try.prog 79 ⟨0, 1, 8, [.nilf], 0, 0, [], .i64⟩ := tyOk_of_mkTy (by kernel_rfl)
theorem E.ty80 : E.ty 80 = some ⟨0, 1, 8, [.nilf], 0, 0, [], .i64⟩ := rfl
theorem E.to80 : TyOk Try.prog 80 ⟨0, 1, 8, [.nilf], 0, 0, [], .i64⟩ := tyOk_of_mkTy (by kernel_rfl)
theorem E.ty81 : E.ty 81 = some ⟨0, 1, 8, [.nilf], 0, 0, [], .i64⟩ := rfl
theorem E.to81 : TyOk Try.prog 81 ⟨0, 1, 8, [.nilf], 0, 0, [], .i64⟩ := tyOk_of_mkTy (by kernel_rfl)
theorem E.ty82 : E.ty 82 = some ⟨0, 1, 8, [.nilf], 0, 0, [], .i64⟩ := rfl
theorem E.to82 : TyOk Try.prog 82 ⟨0, 1, 8, [.nilf], 0, 0, [], .i64⟩ := tyOk_of_mkTy (by kernel_rfl)
theorem E.ty83 : E.ty 83 = some ⟨0, 1, 8, [.nilf], 0, 0, [], .i64⟩ := rfl
theorem E.to83 : TyOk Try.prog 83 ⟨0, 1, 8, [.nilf], 0, 0, [], .i64⟩ := tyOk_of_mkTy (by kernel_rfl)
theorem E.ty84 : E.ty 84 = some ⟨0, 1, 8, [.nilf], 0, 0, [], .i64⟩ := rfl
theorem E.to84 : TyOk Try.prog 84 ⟨0, 1, 8, [.nilf], 0, 0, [], .i64⟩ := tyOk_of_mkTy (by kernel_rfl)
theorem E.ty85 : E.ty 85 = some ⟨0, 1, 8, [.nilf], 0, 0, [], .i64⟩ := rfl
theorem E.to85 : TyOk Try.prog 85 ⟨0, 1, 8, [.nilf], 0, 0, [], .i64⟩ := tyOk_of_mkTy (by kernel_rfl)
theorem E.ty86 : E.ty 86 = some ⟨4, 1, 24, [.nils], 5, 0, [], .i64⟩ := rfl
theorem E.to86 : TyOk Try.prog 86 ⟨4, 1, 24, [.nils], 5, 0, [], .i64⟩ := tyOk_of_mkTy (by kernel_rfl)
theorem E.ty88 : E.ty 88 = some ⟨0, 1, 8, [.nilf], 0, 0, [], .i64⟩ := rfl
theorem E.to88 : TyOk Try.prog 88 ⟨0, 1, 8, [.nilf], 0, 0, [], .i64⟩ := tyOk_of_mkTy (by kernel_rfl)
theorem E.ty89 : E.ty 89 = some ⟨0, 1, 8, [.nilf], 0, 0, [], .i64⟩ := rfl
theorem E.to89 : TyOk Try.prog 89 ⟨0, 1, 8, [.nilf], 0, 0, [], .i64⟩ := tyOk_of_mkTy (by kernel_rfl)
theorem E.ty90 : E.ty 90 = some ⟨0, 1, 8, [.nilf], 0, 0, [], .i64⟩ := rfl
theorem E.to90 : TyOk Try.prog 90 ⟨0, 1, 8, [.nilf], 0, 0, [], .i64⟩ := tyOk_of_mkTy (by kernel_rfl)
theorem E.ty91 : E.ty 91 = some ⟨0, 1, 8, [.nilf], 0, 0, [], .i64⟩ := rfl
theorem E.to91 : TyOk Try.prog 91 ⟨0, 1, 8, [.nilf], 0, 0, [], .i64⟩ := tyOk_of_mkTy (by kernel_rfl)
theorem E.ty92 : E.ty 92 = some ⟨4, 1, 24, [.nils], 22, 0, [], .i64⟩ := rfl
theorem E.to92 : TyOk Try.prog 92 ⟨4, 1, 24, [.nils], 22, 0, [], .i64⟩ := tyOk_of_mkTy (by kernel_rfl)
theorem E.ty93 : E.ty 93 = some ⟨6, 2, 48, [.nils, .nils], 0, 0, [(0, 92, 1), (1, 92, 1)], .i64⟩ := rfl
theorem E.to93 : TyOk Try.prog 93 ⟨6, 2, 48, [.nils, .nils], 0, 0, [(0, 92, 1), (1, 92, 1)], .i64⟩ := tyOk_of_mkTy (by kernel_rfl)
theorem E.ty94 : E.ty 94 = some ⟨6, 2, 48, [.nils, .nils], 0, 0, [(0, 92, 1), (1, 92, 1)], .i64⟩ := rfl
theorem E.to94 : TyOk Try.prog 94 ⟨6, 2, 48, [.nils, .nils], 0, 0, [(0, 92, 1), (1, 92, 1)], .i64⟩ := tyOk_of_mkTy (by kernel_rfl)
theorem E.ty96 : E.ty 96 = some ⟨0, 1, 8, [.nilf], 0, 0, [], .i64⟩ := rfl
theorem E.to96 : TyOk Try.prog 96 ⟨0, 1, 8, [.nilf], 0, 0, [], .i64⟩ := tyOk_of_mkTy (by kernel_rfl)
theorem E.ty97 : E.ty 97 = some ⟨0, 1, 8, [.nilf], 0, 0, [], .i64⟩ := rfl
theorem E.to97 : TyOk Try.prog 97 ⟨0, 1, 8, [.nilf], 0, 0, [], .i64⟩ := tyOk_of_mkTy (by kernel_rfl)
theorem E.ty98 : E.ty 98 = some ⟨0, 1, 8, [.nilf], 0, 0, [], .i64⟩ := rfl
theorem E.to98 : TyOk Try.prog 98 ⟨0, 1, 8, [.nilf], 0, 0, [], .i64⟩ := tyOk_of_mkTy (by kernel_rfl)
theorem E.ty99 : E.ty 99 = some ⟨0, 1, 8, [.nilf], 0, 0, [], .i64⟩ := rfl
theorem E.to99 : TyOk Try.prog 99 ⟨0, 1, 8, [.nilf], 0, 0, [], .i64⟩ := tyOk_of_mkTy (by kernel_rfl)
theorem E.ty100 : E.ty 100 = some ⟨0, 1, 8, [.nilf], 0, 0, [], .i64⟩ := rfl
theorem E.to100 : TyOk Try.prog 100 ⟨0, 1, 8, [.nilf], 0, 0, [], .i64⟩ := tyOk_of_mkTy (by kernel_rfl)
theorem E.ty101 : E.ty 101 = some ⟨0, 1, 8, [.nilf], 0, 0, [], .i64⟩ := rfl
theorem E.to101 : TyOk Try.prog 101 ⟨0, 1, 8, [.nilf], 0, 0, [], .i64⟩ := tyOk_of_mkTy (by kernel_rfl)
theorem E.ty102 : E.ty 102 = some ⟨0, 1, 8, [.nilf], 0, 0, [], .i64⟩ := rfl
theorem E.to102 : TyOk Try.prog 102 ⟨0, 1, 8, [.nilf], 0, 0, [], .i64⟩ := tyOk_of_mkTy (by kernel_rfl)
theorem E.ty103 : E.ty 103 = some ⟨4, 1, 24, [.nils], 26, 0, [], .i64⟩ := rfl
theorem E.to103 : TyOk Try.prog 103 ⟨4, 1, 24, [.nils], 26, 0, [], .i64⟩ := tyOk_of_mkTy (by kernel_rfl)
theorem E.ty105 : E.ty 105 = some ⟨0, 1, 8, [.nilf], 0, 0, [], .i64⟩ := rfl
theorem E.to105 : TyOk Try.prog 105 ⟨0, 1, 8, [.nilf], 0, 0, [], .i64⟩ := tyOk_of_mkTy (by kernel_rfl)
theorem E.ty106 : E.ty 106 = some ⟨0, 1, 8, [.nilf], 0, 0, [], .i64⟩ := rfl
theorem E.to106 : TyOk Try.prog 106 ⟨0, 1, 8, [.nilf], 0, 0, [], .i64⟩ := tyOk_of_mkTy (by kernel_rfl)
theorem E.ty107 : E.ty 107 = some ⟨0, 1, 8, [.nilf], 0, 0, [], .i64⟩ := rfl
theorem E.to107 : TyOk Try.prog 107 ⟨0, 1, 8, [.nilf], 0, 0, [], .i64⟩ := tyOk_of_mkTy (by kernel_rfl)
theorem E.ty108 : E.ty 108 = some ⟨0, 1, 8, [.nilf], 0, 0, [], .i64⟩ := rfl
theorem E.to108 : TyOk Try.prog 108 ⟨0, 1, 8, [.nilf], 0, 0, [], .i64⟩ := tyOk_of_mkTy (by kernel_rfl)
theorem E.ty109 : E.ty 109 = some ⟨0, 1, 8, [.nilf], 0, 0, [], .i64⟩ := rfl
theorem E.to109 : TyOk Try.prog 109 ⟨0, 1, 8, [.nilf], 0, 0, [], .i64⟩ := tyOk_of_mkTy (by kernel_rfl)
theorem E.ty110 : E.ty 110 = some ⟨0, 1, 8, [.nilf], 0, 0, [], .i64⟩ := rfl
theorem E.to110 : TyOk Try.prog 110 ⟨0, 1, 8, [.nilf], 0, 0, [], .i64⟩ := tyOk_of_mkTy (by kernel_rfl)
theorem E.ty111 : E.ty 111 = some ⟨0, 1, 8, [.nilf], 0, 0, [], .i64⟩ := rfl
theorem E.to111 : TyOk Try.prog 111 ⟨0, 1, 8, [.nilf], 0, 0, [], .i64⟩ := tyOk_of_mkTy (by kernel_rfl)
theorem E.ty112 : E.ty 112 = some ⟨0, 1, 8, [.nilf], 0, 0, [], .i64⟩ := rfl
theorem E.to112 : TyOk Try.prog 112 ⟨0, 1, 8, [.nilf], 0, 0, [], .i64⟩ := tyOk_of_mkTy (by kernel_rfl)
theorem E.ty113 : E.ty 113 = some ⟨0, 1, 8, [.nilf], 0, 0, [], .i64⟩ := rfl
theorem E.to113 : TyOk Try.prog 113 ⟨0, 1, 8, [.nilf], 0, 0, [], .i64⟩ := tyOk_of_mkTy (by kernel_rfl)
theorem E.ty114 : E.ty 114 = some ⟨0, 1, 8, [.nilf], 0, 0, [], .i64⟩ := rfl
theorem E.to114 : TyOk Try.prog 114 ⟨0, 1, 8, [.nilf], 0, 0, [], .i64⟩ := tyOk_of_mkTy (by kernel_rfl)
theorem E.ty115 : E.ty 115 = some ⟨0, 1, 8, [.nilf], 0, 0, [], .i64⟩ := rfl
theorem E.to115 : TyOk Try.prog 115 ⟨0, 1, 8, [.nilf], 0, 0, [], .i64⟩ := tyOk_of_mkTy (by kernel_rfl)
theorem E.ty116 : E.ty 116 = some ⟨0, 1, 8, [.nilf], 0, 0, [], .i64⟩ := rfl
theorem E.to116 : TyOk Try.prog 116 ⟨0, 1, 8, [.nilf], 0, 0, [], .i64⟩ := tyOk_of_mkTy (by kernel_rfl)
theorem E.ty117 : E.ty 117 = some ⟨0, 1, 8, [.nilf], 0, 0, [], .i64⟩ := rfl
theorem E.to117 : TyOk Try.prog 117 ⟨0, 1, 8, [.nilf], 0, 0, [], .i64⟩ := tyOk_of_mkTy (by kernel_rfl)
theorem E.ty118 : E.ty 118 = some ⟨0, 1, 8, [.nilf], 0, 0, [], .i64⟩ := rfl
theorem E.to118 : TyOk Try.prog 118 ⟨0, 1, 8, [.nilf], 0, 0, [], .i64⟩ := tyOk_of_mkTy (by kernel_rfl)
theorem E.ty119 : E.ty 119 = some ⟨0, 1, 8, [.nilf], 0, 0, [], .i64⟩ := rfl
theorem E.to119 : TyOk Try.prog 119 ⟨0, 1, 8, [.nilf], 0, 0, [], .i64⟩ := tyOk_of_mkTy (by kernel_rfl)
theorem E.ty120 : E.ty 120 = some ⟨0, 1, 8, [.nilf], 0, 0, [], .i64⟩ := rfl
theorem E.to120 : TyOk Try.prog 120 ⟨0, 1, 8, [.nilf], 0, 0, [], .i64⟩ := tyOk_of_mkTy (by kernel_rfl)
theorem E.ty121 : E.ty 121 = some ⟨0, 1, 8, [.nilf], 0, 0, [], .i64⟩ := rfl
theorem E.to121 : TyOk Try.prog 121 ⟨0, 1, 8, [.nilf], 0, 0, [], .i64⟩ := tyOk_of_mkTy (by kernel_rfl)
theorem E.ty122 : E.ty 122 = some ⟨0, 1, 8, [.nilf], 0, 0, [], .i64⟩ := rfl
theorem E.to122 : TyOk Try.prog 122 ⟨0, 1, 8, [.nilf], 0, 0, [], .i64⟩ := tyOk_of_mkTy (by kernel_rfl)
theorem E.ty123 : E.ty 123 = some ⟨0, 1, 8, [.nilf], 0, 0, [], .i64⟩ := rfl
theorem E.to123 : TyOk Try.prog 123 ⟨0, 1, 8, [.nilf], 0, 0, [], .i64⟩ := tyOk_of_mkTy (by kernel_rfl)
theorem E.ty124 : E.ty 124 = some ⟨0, 1, 8, [.nilf], 0, 0, [], .i64⟩ := rfl
theorem E.to124 : TyOk Try.prog 124 ⟨0, 1, 8, [.nilf], 0, 0, [], .i64⟩ := tyOk_of_mkTy (by kernel_rfl)
theorem E.ty125 : E.ty 125 = some ⟨4, 1, 24, [.nils], 129, 0, [], .i64⟩ := rfl
theorem E.to125 : TyOk Try.prog 125 ⟨4, 1, 24, [.nils], 129, 0, [], .i64⟩ := tyOk_of_mkTy (by kernel_rfl)
theorem E.ty126 : E.ty 126 = some ⟨6, 4, 24, [(.int .i64 0), (.int .i64 0), (.bool false), (.bool false)], 0, 0, [(0, 3, 1), (1, 3, 1), (2, 4, 1), (3, 4, 1)], .i64⟩ := rfl
theorem E.to126 : TyOk Try.prog 126 ⟨6, 4, 24, [(.int .i64 0), (.int .i64 0), (.bool false), (.bool false)], 0, 0, [(0, 3, 1), (1, 3, 1), (2, 4, 1), (3, 4, 1)], .i64⟩ := tyOk_of_mkTy (by kernel_rfl)
theorem E.ty127 : E.ty 127 = some ⟨6, 4, 24, [(.int .i64 0), (.int .i64 0), (.bool false), (.bool false)], 0, 0, [(0, 3, 1), (1, 3, 1), (2, 4, 1), (3, 4, 1)], .i64⟩ := rfl
theorem E.to127 : TyOk Try.prog 127 ⟨6, 4, 24, [(.int .i64 0), (.int .i64 0), (.bool false), (.bool false)], 0, 0, [(0, 3, 1), (1, 3, 1), (2, 4, 1), (3, 4, 1)], .i64⟩ := tyOk_of_mkTy (by kernel_rfl)
theorem E.ty128 : E.ty 128 = some ⟨6, 5, 32, [(.int .i64 0), (.int .i64 0), (.bool false), (.bool false), (.int .i64 0)], 0, 0, [(0, 127, 4), (4, 3, 1)], .i64⟩ := rfl
theorem E.to128 : TyOk Try.prog 128 ⟨6, 5, 32, [(.int .i64 0), (.int .i64 0), (.bool false), (.bool false), (.int .i64 0)], 0, 0, [(0, 127, 4), (4, 3, 1)], .i64⟩ := tyOk_of_mkTy (by kernel_rfl)
theorem E.ty129 : E.ty 129 = some ⟨6, 5, 32, [(.int .i64 0), (.int .i64 0), (.bool false), (.bool false), (.int .i64 0)], 0, 0, [(0, 127, 4), (4, 3, 1)], .i64⟩ := rfl
theorem E.to129 : TyOk Try.prog 129 ⟨6, 5, 32, [(.int .i64 0), (.int .i64 0), (.bool false), (.bool false), (.int .i64 0)], 0, 0, [(0, 127, 4), (4, 3, 1)], .i64⟩ := tyOk_of_mkTy (by kernel_rfl)
theorem E.ty130 : E.ty 130 = some ⟨6, 3, 24, [(.int .i64 0), (.int .i64 0), (.int .i64 0)], 0, 0, [(0, 3, 1), (1, 3, 1), (2, 3, 1)], .i64⟩ := rfl
theorem E.to130 : TyOk Try.prog 130 ⟨6, 3, 24, [(.int .i64 0), (.int .i64 0), (.int .i64 0)], 0, 0, [(0, 3, 1), (1, 3, 1), (2, 3, 1)], .i64⟩ := tyOk_of_mkTy (by kernel_rfl)
theorem E.ty131 : E.ty 131 = some ⟨6, 3, 24, [(.int .i64 0), (.int .i64 0), (.int .i64 0)], 0, 0, [(0, 3, 1), (1, 3, 1), (2, 3, 1)], .i64⟩ := rfl
theorem E.to131 : TyOk Try.prog 131 ⟨6, 3, 24, [(.int .i64 0), (.int .i64 0), (.int .i64 0)], 0, 0, [(0, 3, 1), (1, 3, 1), (2, 3, 1)], .i64⟩ := tyOk_of_mkTy (by kernel_rfl)
theorem E.ty132 : E.ty 132 = some ⟨0, 1, 8, [.nilf], 0, 0, [], .i64⟩ := rfl
theorem E.to132 : TyOk Try.prog 132 ⟨0, 1, 8, [.nilf], 0, 0, [], .i64⟩ := tyOk_of_mkTy (by kernel_rfl)
theorem E.ty133 : E.ty 133 = some ⟨0, 1, 8, [.nilf], 0, 0, [], .i64⟩ := rfl
theorem E.to133 : TyOk Try.prog 133 ⟨0, 1, 8, [.nilf], 0, 0, [], .i64⟩ := tyOk_of_mkTy (by kernel_rfl)
theorem E.ty134 : E.ty 134 = some ⟨0, 1, 8, [.nilf], 0, 0, [], .i64⟩ := rfl
theorem E.to134 : TyOk Try.prog 134 ⟨0, 1, 8, [.nilf], 0, 0, [], .i64⟩ := tyOk_of_mkTy (by kernel_rfl)
theorem E.ty135 : E.ty 135 = some ⟨7, 1, 8, [.nilp], 127, 0, [], .i64⟩ := rfl
theorem E.to135 : TyOk Try.prog 135 ⟨7, 1, 8, [.nilp], 127, 0, [], .i64⟩ := tyOk_of_mkTy (by kernel_rfl)
theorem E.ty136 : E.ty 136 = some ⟨0, 1, 8, [.nilf], 0, 0, [], .i64⟩ := rfl
theorem E.to136 : TyOk Try.prog 136 ⟨0, 1, 8, [.nilf], 0, 0, [], .i64⟩ := tyOk_of_mkTy (by kernel_rfl)
theorem E.ty137 : E.ty 137 = some ⟨0, 1, 8, [.nilf], 0, 0, [], .i64⟩ := rfl
theorem E.to137 : TyOk Try.prog 137 ⟨0, 1, 8, [.nilf], 0, 0, [], .i64⟩ := tyOk_of_mkTy (by kernel_rfl)
theorem E.ty138 : E.ty 138 = some ⟨0, 1, 8, [.nilf], 0, 0, [], .i64⟩ := rfl
theorem E.to138 : TyOk Try.prog 138 ⟨0, 1, 8, [.nilf], 0, 0, [], .i64⟩ := tyOk_of_mkTy (by kernel_rfl)
theorem E.ty140 : E.ty 140 = some ⟨0, 1, 8, [.nilf], 0, 0, [], .i64⟩ := rfl
theorem E.to140 : TyOk Try.prog 140 ⟨0, 1, 8, [.nilf], 0, 0, [], .i64⟩ := tyOk_of_mkTy (by kernel_rfl)
theorem E.ty142 : E.ty 142 = some ⟨0, 1, 8, [.nilf], 0, 0, [], .i64⟩ := rfl
theorem E.to142 : TyOk Try.prog 142 ⟨0, 1, 8, [.nilf], 0, 0, [], .i64⟩ := tyOk_of_mkTy (by kernel_rfl)
theorem E.ty143 : E.ty 143 = some ⟨0, 1, 8, [.nilf], 0, 0, [], .i64⟩ := rfl
theorem E.to143 : TyOk Try.prog 143 ⟨0, 1, 8, [.nilf], 0, 0, [], .i64⟩ := tyOk_of_mkTy (by kernel_rfl)
theorem E.ty144 : E.ty 144 = some ⟨0, 1, 8, [.nilf], 0, 0, [], .i64⟩ := rfl
theorem E.to144 : TyOk Try.prog 144 ⟨0, 1, 8, [.nilf], 0, 0, [], .i64⟩ := tyOk_of_mkTy (by kernel_rfl)
theorem E.ty145 : E.ty 145 = some ⟨0, 1, 8, [.nilf], 0, 0, [], .i64⟩ := rfl
theorem E.to145 : TyOk Try.prog 145 ⟨0, 1, 8, [.nilf], 0, 0, [], .i64⟩ := tyOk_of_mkTy (by kernel_rfl)
theorem E.ty146 : E.ty 146 = some ⟨5, 10, 10, (List.replicate 10 (.bool false)), 4, 10, [], .i64⟩ := rfl
theorem E.to146 : TyOk Try.prog 146 ⟨5, 10, 10, (List.replicate 10 (.bool false)), 4, 10, [], .i64⟩ := tyOk_of_mkTy (by kernel_rfl)
theorem E.ty147 : E.ty 147 = some ⟨0, 1, 8, [.nilf], 0, 0, [], .i64⟩ := rfl
theorem E.to147 : TyOk Try.prog 147 ⟨0, 1, 8, [.nilf], 0, 0, [], .i64⟩ := tyOk_of_mkTy (by kernel_rfl)
theorem E.ty148 : E.ty 148 = some ⟨0, 1, 8, [.nilf], 0, 0, [], .i64⟩ := rfl
theorem E.to148 : TyOk Try.prog 148 ⟨0, 1, 8, [.nilf], 0, 0, [], .i64⟩ := tyOk_of_mkTy (by kernel_rfl)
theorem E.ty149 : E.ty 149 = some ⟨0, 1, 8, [.nilf], 0, 0, [], .i64⟩ := rfl
theorem E.to149 : TyOk Try.prog 149 ⟨0, 1, 8, [.nilf], 0, 0, [], .i64⟩ := tyOk_of_mkTy (by kernel_rfl)
theorem E.ty150 : E.ty 150 = some ⟨0, 1, 8, [.nilf], 0, 0, [], .i64⟩ := rfl
theorem E.to150 : TyOk Try.prog 150 ⟨0, 1, 8, [.nilf], 0, 0, [], .i64⟩ := tyOk_of_mkTy (by kernel_rfl)
theorem E.ty151 : E.ty 151 = some ⟨0, 1, 8, [.nilf], 0, 0, [], .i64⟩ := rfl
theorem E.to151 : TyOk Try.prog 151 ⟨0, 1, 8, [.nilf], 0, 0, [], .i64⟩ := tyOk_of_mkTy (by kernel_rfl)
theorem E.ty152 : E.ty 152 = some ⟨0, 1, 8, [.nilf], 0, 0, [], .i64⟩ := rfl
theorem E.to152 : TyOk Try.prog 152 ⟨0, 1, 8, [.nilf], 0, 0, [], .i64⟩ := tyOk_of_mkTy (by kernel_rfl)
theorem E.ty153 : E.ty 153 = some ⟨1, 1, 8, [(.int .u64 0)], 0, 0, [], .u64⟩ := rfl
theorem E.to153 : TyOk Try.prog 153 ⟨1, 1, 8, [(.int .u64 0)], 0, 0, [], .u64⟩ := tyOk_of_mkTy (by kernel_rfl)
theorem E.ty154 : E.ty 154 = some ⟨0, 1, 8, [.nilf], 0, 0, [], .i64⟩ := rfl
theorem E.to154 : TyOk Try.prog 154 ⟨0, 1, 8, [.nilf], 0, 0, [], .i64⟩ := tyOk_of_mkTy (by kernel_rfl)
theorem E.ty155 : E.ty 155 = some ⟨0, 1, 8, [.nilf], 0, 0, [], .i64⟩ := rfl
theorem E.to155 : TyOk Try.prog 155 ⟨0, 1, 8, [.nilf], 0, 0, [], .i64⟩ := tyOk_of_mkTy (by kernel_rfl)
theorem E.ty156 : E.ty 156 = some ⟨7, 1, 8, [.nilp], 129, 0, [], .i64⟩ := rfl
theorem E.to156 : TyOk Try.prog 156 ⟨7, 1, 8, [.nilp], 129, 0, [], .i64⟩ := tyOk_of_mkTy (by kernel_rfl)
theorem E.ty157 : E.ty 157 = some ⟨0, 1, 8, [.nilf], 0, 0, [], .i64⟩ := rfl
theorem E.to157 : TyOk Try.prog 157 ⟨0, 1, 8, [.nilf], 0, 0, [], .i64⟩ := tyOk_of_mkTy (by kernel_rfl)
theorem E.ty158 : E.ty 158 = some ⟨0, 1, 8, [.nilf], 0, 0, [], .i64⟩ := rfl
theorem E.to158 : TyOk Try.prog 158 ⟨0, 1, 8, [.nilf], 0, 0, [], .i64⟩ := tyOk_of_mkTy (by kernel_rfl)
theorem E.ty160 : E.ty 160 = some ⟨0, 1, 8, [.nilf], 0, 0, [], .i64⟩ := rfl
theorem E.to160 : TyOk Try.prog 160 ⟨0, 1, 8, [.nilf], 0, 0, [], .i64⟩ := tyOk_of_mkTy (by kernel_rfl)
theorem E.ty161 : E.ty 161 = some ⟨0, 1, 8, [.nilf], 0, 0, [], .i64⟩ := rfl
theorem E.to161 : TyOk Try.prog 161 ⟨0, 1, 8, [.nilf], 0, 0, [], .i64⟩ := tyOk_of_mkTy (by kernel_rfl)
theorem E.ty162 : E.ty 162 = some ⟨0, 1, 8, [.nilf], 0, 0, [], .i64⟩ := rfl
theorem E.to162 : TyOk Try.prog 162 ⟨0, 1, 8, [.nilf], 0, 0, [], .i64⟩ := tyOk_of_mkTy (by kernel_rfl)
theorem E.ty163 : E.ty 163 = some ⟨1, 1, 8, [(.int .i64 0)], 0, 0, [], .i64⟩ := rfl
theorem E.to163 : TyOk Try.prog 163 ⟨1, 1, 8, [(.int .i64 0)], 0, 0, [], .i64⟩ := tyOk_of_mkTy (by kernel_rfl)
theorem E.ty165 : E.ty 165 = some ⟨0, 1, 8, [.nilf], 0, 0, [], .i64⟩ := rfl
theorem E.to165 : TyOk Try.prog 165 ⟨0, 1, 8, [.nilf], 0, 0, [], .i64⟩ := tyOk_of_mkTy (by kernel_rfl)
theorem E.ty166 : E.ty 166 = some ⟨0, 1, 8, [.nilf], 0, 0, [], .i64⟩ := rfl
theorem E.to166 : TyOk Try.prog 166 ⟨0, 1, 8, [.nilf], 0, 0, [], .i64⟩ := tyOk_of_mkTy (by kernel_rfl)
theorem E.ty167 : E.ty 167 = some ⟨0, 1, 8, [.nilf], 0, 0, [], .i64⟩ := rfl
theorem E.to167 : TyOk Try.prog 167 ⟨0, 1, 8, [.nilf], 0, 0, [], .i64⟩ := tyOk_of_mkTy (by kernel_rfl)
theorem E.ty168 : E.ty 168 = some ⟨0, 1, 8, [.nilf], 0, 0, [], .i64⟩ := rfl
theorem E.to168 : TyOk Try.prog 168 ⟨0, 1, 8, [.nilf], 0, 0, [], .i64⟩ := tyOk_of_mkTy (by kernel_rfl)
theorem E.ty169 : E.ty 169 = some ⟨1, 1, 4, [(.int .u32 0)], 0, 0, [], .u32⟩ := rfl
theorem E.to169 : TyOk Try.prog 169 ⟨1, 1, 4, [(.int .u32 0)], 0, 0, [], .u32⟩ := tyOk_of_mkTy (by kernel_rfl)
theorem E.ty170 : E.ty 170 = some ⟨0, 1, 8, [.nilf], 0, 0, [], .i64⟩ := rfl
theorem E.to170 : TyOk Try.prog 170 ⟨0, 1, 8, [.nilf], 0, 0, [], .i64⟩ := tyOk_of_mkTy (by kernel_rfl)
theorem E.ty171 : E.ty 171 = some ⟨1, 1, 8, [(.int .u64 0)], 0, 0, [], .u64⟩ := rfl
theorem E.to171 : TyOk Try.prog 171 ⟨1, 1, 8, [(.int .u64 0)], 0, 0, [], .u64⟩ := tyOk_of_mkTy (by kernel_rfl)
theorem E.ty172 : E.ty 172 = some ⟨1, 1, 8, [(.int .u64 0)], 0, 0, [], .u64⟩ := rfl
theorem E.to172 : TyOk Try.prog 172 ⟨1, 1, 8, [(.int .u64 0)], 0, 0, [], .u64⟩ := tyOk_of_mkTy (by kernel_rfl)
theorem E.ty173 : E.ty 173 = some ⟨0, 1, 8, [.nilf], 0, 0, [], .i64⟩ := rfl
theorem E.to173 : TyOk Try.prog 173 ⟨0, 1, 8, [.nilf], 0, 0, [], .i64⟩ := tyOk_of_mkTy (by kernel_rfl)
theorem E.ty174 : E.ty 174 = some ⟨0, 1, 8, [.nilf], 0, 0, [], .i64⟩ := rfl
theorem E.to174 : TyOk Try.prog 174 ⟨0, 1, 8, [.nilf], 0, 0, [], .i64⟩ := tyOk_of_mkTy (by kernel_rfl)
theorem E.ty175 : E.ty 175 = some ⟨0, 1, 8, [.nilf], 0, 0, [], .i64⟩ := rfl
theorem E.to175 : TyOk Try.prog 175 ⟨0, 1, 8, [.nilf], 0, 0, [], .i64⟩ := tyOk_of_mkTy (by kernel_rfl)
theorem E.ty176 : E.ty 176 = some ⟨7, 1, 8, [.nilp], 3, 0, [], .i64⟩ := rfl
theorem E.to176 : TyOk Try.prog 176 ⟨7, 1, 8, [.nilp], 3, 0, [], .i64⟩ := tyOk_of_mkTy (by kernel_rfl)
theorem E.ty177 : E.ty 177 = some ⟨0, 1, 8, [.nilf], 0, 0, [], .i64⟩ := rfl
theorem E.to177 : TyOk Try.prog 177 ⟨0, 1, 8, [.nilf], 0, 0, [], .i64⟩ := tyOk_of_mkTy (by kernel_rfl)
theorem E.ty178 : E.ty 178 = some ⟨7, 1, 8, [.nilp], 172, 0, [], .i64⟩ := rfl
theorem E.to178 : TyOk Try.prog 178 ⟨7, 1, 8, [.nilp], 172, 0, [], .i64⟩ := tyOk_of_mkTy (by kernel_rfl)
theorem E.ty179 : E.ty 179 = some ⟨0, 1, 8, [.nilf], 0, 0, [], .i64⟩ := rfl
theorem E.to179 : TyOk Try.prog 179 ⟨0, 1, 8, [.nilf], 0, 0, [], .i64⟩ := tyOk_of_mkTy (by kernel_rfl)
theorem E.ty180 : E.ty 180 = some ⟨0, 1, 8, [.nilf], 0, 0, [], .i64⟩ := rfl
theorem E.to180 : TyOk Try.prog 180 ⟨0, 1, 8, [.nilf], 0, 0, [], .i64⟩ := tyOk_of_mkTy (by kernel_rfl)
theorem E.ty183 : E.ty 183 = some ⟨5, 0, 0, [], 16, 0, [], .i64⟩ := rfl
theorem E.to183 : TyOk Try.prog 183 ⟨5, 0, 0, [], 16, 0, [], .i64⟩ := tyOk_of_mkTy (by kernel_rfl)
theorem E.ty186 : E.ty 186 = some ⟨0, 1, 8, [.nilf], 0, 0, [], .i64⟩ := rfl
theorem E.to186 : TyOk Try.prog 186 ⟨0, 1, 8, [.nilf], 0, 0, [], .i64⟩ := tyOk_of_mkTy (by kernel_rfl)
theorem E.ty187 : E.ty 187 = some ⟨1, 1, 1, [(.int .u8 0)], 0, 0, [], .u8⟩ := rfl
theorem E.to187 : TyOk Try.prog 187 ⟨1, 1, 1, [(.int .u8 0)], 0, 0, [], .u8⟩ := tyOk_of_mkTy (by kernel_rfl)
theorem E.ty188 : E.ty 188 = some ⟨1, 1, 1, [(.int .u8 0)], 0, 0, [], .u8⟩ := rfl
theorem E.to188 : TyOk Try.prog 188 ⟨1, 1, 1, [(.int .u8 0)], 0, 0, [], .u8⟩ := tyOk_of_mkTy (by kernel_rfl)
theorem E.ty189 : E.ty 189 = some ⟨0, 1, 8, [.nilf], 0, 0, [], .i64⟩ := rfl
theorem E.to189 : TyOk Try.prog 189 ⟨0, 1, 8, [.nilf], 0, 0, [], .i64⟩ := tyOk_of_mkTy (by kernel_rfl)
theorem E.ty190 : E.ty 190 = some ⟨7, 1, 8, [.nilp], 5, 0, [], .i64⟩ := rfl
theorem E.to190 : TyOk Try.prog 190 ⟨7, 1, 8, [.nilp], 5, 0, [], .i64⟩ := tyOk_of_mkTy (by kernel_rfl)
theorem E.ty191 : E.ty 191 = some ⟨1, 1, 4, [(.int .i32 0)], 0, 0, [], .i32⟩ := rfl
theorem E.to191 : TyOk Try.prog 191 ⟨1, 1, 4, [(.int .i32 0)], 0, 0, [], .i32⟩ := tyOk_of_mkTy (by kernel_rfl)
theorem E.ty192 : E.ty 192 = some ⟨1, 1, 4, [(.int .i32 0)], 0, 0, [], .i32⟩ := rfl
theorem E.to192 : TyOk Try.prog 192 ⟨1, 1, 4, [(.int .i32 0)], 0, 0, [], .i32⟩ := tyOk_of_mkTy (by kernel_rfl)
theorem E.ty195 : E.ty 195 = some ⟨0, 1, 8, [.nilp], 0, 0, [], .i64⟩ := rfl
theorem E.to195 : TyOk Try.prog 195 ⟨0, 1, 8, [.nilp], 0, 0, [], .i64⟩ := tyOk_of_mkTy (by kernel_rfl)
theorem E.fo3 : FnOk Try.prog 3 ⟨226, (Try.f3.body.getD .skip), Try.f3.results.toList, [14, 21, 41]⟩ := ⟨Try.f3, Try.func3, rfl, rfl, rfl, by kernel_rfl, by kernel_rfl, by kernel_rfl⟩
theorem E.fo4 : FnOk Try.prog 4 ⟨259, (Try.f4.body.getD .skip), Try.f4.results.toList, []⟩ := ⟨Try.f4, Try.func4, rfl, rfl, rfl, by kernel_rfl, by kernel_rfl, by kernel_rfl⟩
theorem E.fo5 : FnOk Try.prog 5 ⟨184, (Try.f5.body.getD .skip), Try.f5.results.toList, []⟩ := ⟨Try.f5, Try.func5, rfl, rfl, rfl, by kernel_rfl, by kernel_rfl, by kernel_rfl⟩
theorem E.fo6 : FnOk Try.prog 6 ⟨173, (Try.f6.body.getD .skip), Try.f6.results.toList, [21]⟩ := ⟨Try.f6, Try.func6, rfl, rfl, rfl, by kernel_rfl, by kernel_rfl, by kernel_rfl⟩
theorem E.fo7 : FnOk Try.prog 7 ⟨245, (Try.f7.body.getD .skip), Try.f7.results.toList, [18]⟩ := ⟨Try.f7, Try.func7, rfl, rfl, rfl, by kernel_rfl, by kernel_rfl, by kernel_rfl⟩
theorem E.fo8 : FnOk Try.prog 8 ⟨71, (Try.f8.body.getD .skip), Try.f8.results.toList, []⟩ := ⟨Try.f8, Try.func8, rfl, rfl, rfl, by kernel_rfl, by kernel_rfl, by kernel_rfl⟩
theorem E.fo9 : FnOk Try.prog 9 ⟨223, (Try.f9.body.getD .skip), Try.f9.results.toList, []⟩ := ⟨Try.f9, Try.func9, rfl, rfl, rfl, by kernel_rfl, by kernel_rfl, by kernel_rfl⟩
theorem E.fo10 : FnOk Try.prog 10 ⟨144, (Try.f10.body.getD .skip), Try.f10.results.toList, []⟩ := ⟨Try.f10, Try.func10, rfl, rfl, rfl, by kernel_rfl, by kernel_rfl, by kernel_rfl⟩
theorem E.fo11 : FnOk Try.prog 11 ⟨169, (Try.f11.body.getD .skip), Try.f11.results.toList, []⟩ := ⟨Try.f11, Try.func11, rfl, rfl, rfl, by kernel_rfl, by kernel_rfl, by kernel_rfl⟩
theorem E.fo12 : FnOk Try.prog 12 ⟨108, (Try.f12.body.getD .skip), Try.f12.results.toList, [3, 6, 15]⟩ := ⟨Try.f12, Try.func12, rfl, rfl, rfl, by kernel_rfl, by kernel_rfl, by kernel_rfl⟩
theorem E.fo13 : FnOk Try.prog 13 ⟨196, (Try.f13.body.getD .skip), Try.f13.results.toList, []⟩ := ⟨Try.f13, Try.func13, rfl, rfl, rfl, by kernel_rfl, by kernel_rfl, by kernel_rfl⟩
theorem E.fo14 : FnOk Try.prog 14 ⟨129, (Try.f14.body.getD .skip), Try.f14.results.toList, []⟩ := ⟨Try.f14, Try.func14, rfl, rfl, rfl, by kernel_rfl, by kernel_rfl, by kernel_rfl⟩
theorem E.fo15 : FnOk Try.prog 15 ⟨27, (Try.f15.body.getD .skip), Try.f15.results.toList, []⟩ := ⟨Try.f15, Try.func15, rfl, rfl, rfl, by kernel_rfl, by kernel_rfl, by kernel_rfl⟩
theorem E.fo16 : FnOk Try.prog 16 ⟨32, (Try.f16.body.getD .skip), Try.f16.results.toList, []⟩ := ⟨Try.f16, Try.func16, rfl, rfl, rfl, by kernel_rfl, by kernel_rfl, by kernel_rfl⟩
theorem E.fo17 : FnOk Try.prog 17 ⟨37, (Try.f17.body.getD .skip), Try.f17.results.toList, []⟩ := ⟨Try.f17, Try.func17, rfl, rfl, rfl, by kernel_rfl, by kernel_rfl, by kernel_rfl⟩
theorem E.fo18 : FnOk Try.prog 18 ⟨57, (Try.f18.body.getD .skip), Try.f18.results.toList, []⟩ := ⟨Try.f18, Try.func18, rfl, rfl, rfl, by kernel_rfl, by kernel_rfl, by kernel_rfl⟩
theorem E.fo19 : FnOk Try.prog 19 ⟨42, (Try.f19.body.getD .skip), Try.f19.results.toList, []⟩ := ⟨Try.f19, Try.func19, rfl, rfl, rfl, by kernel_rfl, by kernel_rfl, by kernel_rfl⟩
theorem E.fo20 : FnOk Try.prog 20 ⟨18, (Try.f20.body.getD .skip), Try.f20.results.toList, []⟩ := ⟨Try.f20, Try.func20, rfl, rfl, rfl, by kernel_rfl, by kernel_rfl, by kernel_rfl⟩
theorem E.fo21 : FnOk Try.prog 21 ⟨14, (Try.f21.body.getD .skip), Try.f21.results.toList, []⟩ := ⟨Try.f21, Try.func21, rfl, rfl, rfl, by kernel_rfl, by kernel_rfl, by kernel_rfl⟩
theorem E.fo22 : FnOk Try.prog 22 ⟨26, (Try.f22.body.getD .skip), Try.f22.results.toList, []⟩ := ⟨Try.f22, Try.func22, rfl, rfl, rfl, by kernel_rfl, by kernel_rfl, by kernel_rfl⟩
theorem E.fo23 : FnOk Try.prog 23 ⟨24, (Try.f23.body.getD .skip), Try.f23.results.toList, []⟩ := ⟨Try.f23, Try.func23, rfl, rfl, rfl, by kernel_rfl, by kernel_rfl, by kernel_rfl⟩
theorem E.fo24 : FnOk Try.prog 24 ⟨41, (Try.f24.body.getD .skip), Try.f24.results.toList, []⟩ := ⟨Try.f24, Try.func24, rfl, rfl, rfl, by kernel_rfl, by kernel_rfl, by kernel_rfl⟩
theorem E.fo25 : FnOk Try.prog 25 ⟨68, (Try.f25.body.getD .skip), Try.f25.results.toList, []⟩ := ⟨Try.f25, Try.func25, rfl, rfl, rfl, by kernel_rfl, by kernel_rfl, by kernel_rfl⟩
theorem E.fo26 : FnOk Try.prog 26 ⟨46, (Try.f26.body.getD .skip), Try.f26.results.toList, []⟩ := ⟨Try.f26, Try.func26, rfl, rfl, rfl, by kernel_rfl, by kernel_rfl, by kernel_rfl⟩
theorem E.fo27 : FnOk Try.prog 27 ⟨8, (Try.f27.body.getD .skip), Try.f27.results.toList, []⟩ := ⟨Try.f27, Try.func27, rfl, rfl, rfl, by kernel_rfl, by kernel_rfl, by kernel_rfl⟩
theorem E.fo28 : FnOk Try.prog 28 ⟨21, (Try.f28.body.getD .skip), Try.f28.results.toList, []⟩ := ⟨Try.f28, Try.func28, rfl, rfl, rfl, by kernel_rfl, by kernel_rfl, by kernel_rfl⟩
theorem E.fo29 : FnOk Try.prog 29 ⟨40, (Try.f29.body.getD .skip), Try.f29.results.toList, []⟩ := ⟨Try.f29, Try.func29, rfl, rfl, rfl, by kernel_rfl, by kernel_rfl, by kernel_rfl⟩
theorem E.fo30 : FnOk Try.prog 30 ⟨8, (Try.f30.body.getD .skip), Try.f30.results.toList, []⟩ := ⟨Try.f30, Try.func30, rfl, rfl, rfl, by kernel_rfl, by kernel_rfl, by kernel_rfl⟩
theorem E.fo31 : FnOk Try.prog 31 ⟨26, (Try.f31.body.getD .skip), Try.f31.results.toList, []⟩ := ⟨Try.f31, Try.func31, rfl, rfl, rfl, by kernel_rfl, by kernel_rfl, by kernel_rfl⟩
theorem E.fo32 : FnOk Try.prog 32 ⟨8, (Try.f32.body.getD .skip), Try.f32.results.toList, []⟩ := ⟨Try.f32, Try.func32, rfl, rfl, rfl, by kernel_rfl, by kernel_rfl, by kernel_rfl⟩
theorem E.fo33 : FnOk Try.prog 33 ⟨57, (Try.f33.body.getD .skip), Try.f33.results.toList, []⟩ := ⟨Try.f33, Try.func33, rfl, rfl, rfl, by kernel_rfl, by kernel_rfl, by kernel_rfl⟩
theorem E.fo34 : FnOk Try.prog 34 ⟨25, (Try.f34.body.getD .skip), Try.f34.results.toList, []⟩ := ⟨Try.f34, Try.func34, rfl, rfl, rfl, by kernel_rfl, by kernel_rfl, by kernel_rfl⟩
theorem E.fo35 : FnOk Try.prog 35 ⟨45, (Try.f35.body.getD .skip), Try.f35.results.toList, [7]⟩ := ⟨Try.f35, Try.func35, rfl, rfl, rfl, by kernel_rfl, by kernel_rfl, by kernel_rfl⟩
theorem E.fo36 : FnOk Try.prog 36 ⟨35, (Try.f36.body.getD .skip), Try.f36.results.toList, []⟩ := ⟨Try.f36, Try.func36, rfl, rfl, rfl, by kernel_rfl, by kernel_rfl, by kernel_rfl⟩
theorem E.fo37 : FnOk Try.prog 37 ⟨22, (Try.f37.body.getD .skip), Try.f37.results.toList, []⟩ := ⟨Try.f37, Try.func37, rfl, rfl, rfl, by kernel_rfl, by kernel_rfl, by kernel_rfl⟩
theorem E.fo38 : FnOk Try.prog 38 ⟨38, (Try.f38.body.getD .skip), Try.f38.results.toList, []⟩ := ⟨Try.f38, Try.func38, rfl, rfl, rfl, by kernel_rfl, by kernel_rfl, by kernel_rfl⟩
theorem E.fo39 : FnOk Try.prog 39 ⟨31, (Try.f39.body.getD .skip), Try.f39.results.toList, []⟩ := ⟨Try.f39, Try.func39, rfl, rfl, rfl, by kernel_rfl, by kernel_rfl, by kernel_rfl⟩
theorem E.fo40 : FnOk Try.prog 40 ⟨27, (Try.f40.body.getD .skip), Try.f40.results.toList, []⟩ := ⟨Try.f40, Try.func40, rfl, rfl, rfl, by kernel_rfl, by kernel_rfl, by kernel_rfl⟩
theorem E.fo41 : FnOk Try.prog 41 ⟨39, (Try.f41.body.getD .skip), Try.f41.results.toList, [5]⟩ := ⟨Try.f41, Try.func41, rfl, rfl, rfl, by kernel_rfl, by kernel_rfl, by kernel_rfl⟩
theorem E.fo42 : FnOk Try.prog 42 ⟨72, (Try.f42.body.getD .skip), Try.f42.results.toList, []⟩ := ⟨Try.f42, Try.func42, rfl, rfl, rfl, by kernel_rfl, by kernel_rfl, by kernel_rfl⟩
theorem E.fo43 : FnOk Try.prog 43 ⟨86, (Try.f43.body.getD .skip), Try.f43.results.toList, []⟩ := ⟨Try.f43, Try.func43, rfl, rfl, rfl, by kernel_rfl, by kernel_rfl, by kernel_rfl⟩
theorem E.fo44 : FnOk Try.prog 44 ⟨40, (Try.f44.body.getD .skip), Try.f44.results.toList, []⟩ := ⟨Try.f44, Try.func44, rfl, rfl, rfl, by kernel_rfl, by kernel_rfl, by kernel_rfl⟩
theorem E.fo45 : FnOk Try.prog 45 ⟨55, (Try.f45.body.getD .skip), Try.f45.results.toList, []⟩ := ⟨Try.f45, Try.func45, rfl, rfl, rfl, by kernel_rfl, by kernel_rfl, by kernel_rfl⟩
theorem E.fo46 : FnOk Try.prog 46 ⟨19, (Try.f46.body.getD .skip), Try.f46.results.toList, []⟩ := ⟨Try.f46, Try.func46, rfl, rfl, rfl, by kernel_rfl, by kernel_rfl, by kernel_rfl⟩
theorem E.fo47 : FnOk Try.prog 47 ⟨25, (Try.f47.body.getD .skip), Try.f47.results.toList, []⟩ := ⟨Try.f47, Try.func47, rfl, rfl, rfl, by kernel_rfl, by kernel_rfl, by kernel_rfl⟩
theorem E.fo48 : FnOk Try.prog 48 ⟨18, (Try.f48.body.getD .skip), Try.f48.results.toList, [4]⟩ := ⟨Try.f48, Try.func48, rfl, rfl, rfl, by kernel_rfl, by kernel_rfl, by kernel_rfl⟩
theorem E.fo49 : FnOk Try.prog 49 ⟨51, (Try.f49.body.getD .skip), Try.f49.results.toList, []⟩ := ⟨Try.f49, Try.func49, rfl, rfl, rfl, by kernel_rfl, by kernel_rfl, by kernel_rfl⟩
theorem E.fo50 : FnOk Try.prog 50 ⟨21, (Try.f50.body.getD .skip), Try.f50.results.toList, [4]⟩ := ⟨Try.f50, Try.func50, rfl, rfl, rfl, by kernel_rfl, by kernel_rfl, by kernel_rfl⟩
theorem E.fo52 : FnOk Try.prog 52 ⟨65, (Try.f52.body.getD .skip), Try.f52.results.toList, []⟩ := ⟨Try.f52, Try.func52, rfl, rfl, rfl, by kernel_rfl, by kernel_rfl, by kernel_rfl⟩
theorem E.fo53 : FnOk Try.prog 53 ⟨53, (Try.f53.body.getD .skip), Try.f53.results.toList, []⟩ := ⟨Try.f53, Try.func53, rfl, rfl, rfl, by kernel_rfl, by kernel_rfl, by kernel_rfl⟩
theorem E.fo54 : FnOk Try.prog 54 ⟨31, (Try.f54.body.getD .skip), Try.f54.results.toList, []⟩ := ⟨Try.f54, Try.func54, rfl, rfl, rfl, by kernel_rfl, by kernel_rfl, by kernel_rfl⟩
theorem E.fo55 : FnOk Try.prog 55 ⟨58, (Try.f55.body.getD .skip), Try.f55.results.toList, []⟩ := ⟨Try.f55, Try.func55, rfl, rfl, rfl, by kernel_rfl, by kernel_rfl, by kernel_rfl⟩
theorem E.fo56 : FnOk Try.prog 56 ⟨103, (Try.f56.body.getD .skip), Try.f56.results.toList, []⟩ := ⟨Try.f56, Try.func56, rfl, rfl, rfl, by kernel_rfl, by kernel_rfl, by kernel_rfl⟩
theorem E.fo57 : FnOk Try.prog 57 ⟨86, (Try.f57.body.getD .skip), Try.f57.results.toList, []⟩ := ⟨Try.f57, Try.func57, rfl, rfl, rfl, by kernel_rfl, by kernel_rfl, by kernel_rfl⟩
theorem E.fo58 : FnOk Try.prog 58 ⟨93, (Try.f58.body.getD .skip), Try.f58.results.toList, []⟩ := ⟨Try.f58, Try.func58, rfl, rfl, rfl, by kernel_rfl, by kernel_rfl, by kernel_rfl⟩
theorem E.fo59 : FnOk Try.prog 59 ⟨153, (Try.f59.body.getD .skip), Try.f59.results.toList, [24]⟩ := ⟨Try.f59, Try.func59, rfl, rfl, rfl, by kernel_rfl, by kernel_rfl, by kernel_rfl⟩
theorem E.fo60 : FnOk Try.prog 60 ⟨46, (Try.f60.body.getD .skip), Try.f60.results.toList, []⟩ := ⟨Try.f60, Try.func60, rfl, rfl, rfl, by kernel_rfl, by kernel_rfl, by kernel_rfl⟩
theorem E.fo61 : FnOk Try.prog 61 ⟨34, (Try.f61.body.getD .skip), Try.f61.results.toList, []⟩ := ⟨Try.f61, Try.func61, rfl, rfl, rfl, by kernel_rfl, by kernel_rfl, by kernel_rfl⟩
theorem E.fo62 : FnOk Try.prog 62 ⟨70, (Try.f62.body.getD .skip), Try.f62.results.toList, []⟩ := ⟨Try.f62, Try.func62, rfl, rfl, rfl, by kernel_rfl, by kernel_rfl, by kernel_rfl⟩
theorem E.fo63 : FnOk Try.prog 63 ⟨12, (Try.f63.body.getD .skip), Try.f63.results.toList, []⟩ := ⟨Try.f63, Try.func63, rfl, rfl, rfl, by kernel_rfl, by kernel_rfl, by kernel_rfl⟩
theorem E.fo64 : FnOk Try.prog 64 ⟨73, (Try.f64.body.getD .skip), Try.f64.results.toList, []⟩ := ⟨Try.f64, Try.func64, rfl, rfl, rfl, by kernel_rfl, by kernel_rfl, by kernel_rfl⟩
theorem E.fo65 : FnOk Try.prog 65 ⟨10, (Try.f65.body.getD .skip), Try.f65.results.toList, []⟩ := ⟨Try.f65, Try.func65, rfl, rfl, rfl, by kernel_rfl, by kernel_rfl, by kernel_rfl⟩
theorem E.fo66 : FnOk Try.prog 66 ⟨17, (Try.f66.body.getD .skip), Try.f66.results.toList, []⟩ := ⟨Try.f66, Try.func66, rfl, rfl, rfl, by kernel_rfl, by kernel_rfl, by kernel_rfl⟩
theorem E.fo67 : FnOk Try.prog 67 ⟨38, (Try.f67.body.getD .skip), Try.f67.results.toList, [11]⟩ := ⟨Try.f67, Try.func67, rfl, rfl, rfl, by kernel_rfl, by kernel_rfl, by kernel_rfl⟩
theorem E.fo68 : FnOk Try.prog 68 ⟨89, (Try.f68.body.getD .skip), Try.f68.results.toList, []⟩ := ⟨Try.f68, Try.func68, rfl, rfl, rfl, by kernel_rfl, by kernel_rfl, by kernel_rfl⟩
theorem E.fo69 : FnOk Try.prog 69 ⟨52, (Try.f69.body.getD .skip), Try.f69.results.toList, []⟩ := ⟨Try.f69, Try.func69, rfl, rfl, rfl, by kernel_rfl, by kernel_rfl, by kernel_rfl⟩
theorem E.fo70 : FnOk Try.prog 70 ⟨24, (Try.f70.body.getD .skip), Try.f70.results.toList, []⟩ := ⟨Try.f70, Try.func70, rfl, rfl, rfl, by kernel_rfl, by kernel_rfl, by kernel_rfl⟩
theorem E.fo71 : FnOk Try.prog 71 ⟨40, (Try.f71.body.getD .skip), Try.f71.results.toList, []⟩ := ⟨Try.f71, Try.func71, rfl, rfl, rfl, by kernel_rfl, by kernel_rfl, by kernel_rfl⟩
theorem E.fo72 : FnOk Try.prog 72 ⟨84, (Try.f72.body.getD .skip), Try.f72.results.toList, [21]⟩ := ⟨Try.f72, Try.func72, rfl, rfl, rfl, by kernel_rfl, by kernel_rfl, by kernel_rfl⟩
theorem E.fo73 : FnOk Try.prog 73 ⟨36, (Try.f73.body.getD .skip), Try.f73.results.toList, []⟩ := ⟨Try.f73, Try.func73, rfl, rfl, rfl, by kernel_rfl, by kernel_rfl, by kernel_rfl⟩
theorem E.fo74 : FnOk Try.prog 74 ⟨60, (Try.f74.body.getD .skip), Try.f74.results.toList, []⟩ := ⟨Try.f74, Try.func74, rfl, rfl, rfl, by kernel_rfl, by kernel_rfl, by kernel_rfl⟩
theorem E.fo75 : FnOk Try.prog 75 ⟨53, (Try.f75.body.getD .skip), Try.f75.results.toList, []⟩ := ⟨Try.f75, Try.func75, rfl, rfl, rfl, by kernel_rfl, by kernel_rfl, by kernel_rfl⟩
theorem E.fo76 : FnOk Try.prog 76 ⟨23, (Try.f76.body.getD .skip), Try.f76.results.toList, []⟩ := ⟨Try.f76, Try.func76, rfl, rfl, rfl, by kernel_rfl, by kernel_rfl, by kernel_rfl⟩
theorem E.fo77 : FnOk Try.prog 77 ⟨23, (Try.f77.body.getD .skip), Try.f77.results.toList, []⟩ := ⟨Try.f77, Try.func77, rfl, rfl, rfl, by kernel_rfl, by kernel_rfl, by kernel_rfl⟩
theorem E.fo78 : FnOk Try.prog 78 ⟨33, (Try.f78.body.getD .skip), Try.f78.results.toList, []⟩ := ⟨Try.f78, Try.func78, rfl, rfl, rfl, by kernel_rfl, by kernel_rfl, by kernel_rfl⟩
theorem E.fo79 : FnOk Try.prog 79 ⟨8, (Try.f79.body.getD .skip), Try.f79.results.toList, []⟩ := ⟨Try.f79, Try.func79, rfl, rfl, rfl, by kernel_rfl, by kernel_rfl, by kernel_rfl⟩
theorem E.fo80 : FnOk Try.prog 80 ⟨42, (Try.f80.body.getD .skip), Try.f80.results.toList, []⟩ := ⟨Try.f80, Try.func80, rfl, rfl, rfl, by kernel_rfl, by kernel_rfl, by kernel_rfl⟩
theorem E.fo82 : FnOk Try.prog 82 ⟨149, (Try.f82.body.getD .skip), Try.f82.results.toList, [17]⟩ := ⟨Try.f82, Try.func82, rfl, rfl, rfl, by kernel_rfl, by kernel_rfl, by kernel_rfl⟩
theorem E.fo83 : FnOk Try.prog 83 ⟨106, (Try.f83.body.getD .skip), Try.f83.results.toList, []⟩ := ⟨Try.f83, Try.func83, rfl, rfl, rfl, by kernel_rfl, by kernel_rfl, by kernel_rfl⟩
theorem E.fo84 : FnOk Try.prog 84 ⟨84, (Try.f84.body.getD .skip), Try.f84.results.toList, []⟩ := ⟨Try.f84, Try.func84, rfl, rfl, rfl, by kernel_rfl, by kernel_rfl, by kernel_rfl⟩
theorem E.fo85 : FnOk Try.prog 85 ⟨17, (Try.f85.body.getD .skip), Try.f85.results.toList, []⟩ := ⟨Try.f85, Try.func85, rfl, rfl, rfl, by kernel_rfl, by kernel_rfl, by kernel_rfl⟩
theorem E.fo86 : FnOk Try.prog 86 ⟨67, (Try.f86.body.getD .skip), Try.f86.results.toList, []⟩ := ⟨Try.f86, Try.func86, rfl, rfl, rfl, by kernel_rfl, by kernel_rfl, by kernel_rfl⟩
theorem E.fo87 : FnOk Try.prog 87 ⟨32, (Try.f87.body.getD .skip), Try.f87.results.toList, []⟩ := ⟨Try.f87, Try.func87, rfl, rfl, rfl, by kernel_rfl, by kernel_rfl, by kernel_rfl⟩
theorem E.fo88 : FnOk Try.prog 88 ⟨10, (Try.f88.body.getD .skip), Try.f88.results.toList, []⟩ := ⟨Try.f88, Try.func88, rfl, rfl, rfl, by kernel_rfl, by kernel_rfl, by kernel_rfl⟩
theorem E.fo89 : FnOk Try.prog 89 ⟨118, (Try.f89.body.getD .skip), Try.f89.results.toList, []⟩ := ⟨Try.f89, Try.func89, rfl, rfl, rfl, by kernel_rfl, by kernel_rfl, by kernel_rfl⟩
theorem E.fo90 : FnOk Try.prog 90 ⟨39, (Try.f90.body.getD .skip), Try.f90.results.toList, []⟩ := ⟨Try.f90, Try.func90, rfl, rfl, rfl, by kernel_rfl, by kernel_rfl, by kernel_rfl⟩
theorem E.fo91 : FnOk Try.prog 91 ⟨71, (Try.f91.body.getD .skip), Try.f91.results.toList, []⟩ := ⟨Try.f91, Try.func91, rfl, rfl, rfl, by kernel_rfl, by kernel_rfl, by kernel_rfl⟩
theorem E.fo92 : FnOk Try.prog 92 ⟨27, (Try.f92.body.getD .skip), Try.f92.results.toList, []⟩ := ⟨Try.f92, Try.func92, rfl, rfl, rfl, by kernel_rfl, by kernel_rfl, by kernel_rfl⟩
theorem E.fo93 : FnOk Try.prog 93 ⟨40, (Try.f93.body.getD .skip), Try.f93.results.toList, []⟩ := ⟨Try.f93, Try.func93, rfl, rfl, rfl, by kernel_rfl, by kernel_rfl, by kernel_rfl⟩
theorem E.fo94 : FnOk Try.prog 94 ⟨78, (Try.f94.body.getD .skip), Try.f94.results.toList, []⟩ := ⟨Try.f94, Try.func94, rfl, rfl, rfl, by kernel_rfl, by kernel_rfl, by kernel_rfl⟩
theorem E.fo95 : FnOk Try.prog 95 ⟨25, (Try.f95.body.getD .skip), Try.f95.results.toList, []⟩ := ⟨Try.f95, Try.func95, rfl, rfl, rfl, by kernel_rfl, by kernel_rfl, by kernel_rfl⟩
theorem E.fo96 : FnOk Try.prog 96 ⟨9, (Try.f96.body.getD .skip), Try.f96.results.toList, []⟩ := ⟨Try.f96, Try.func96, rfl, rfl, rfl, by kernel_rfl, by kernel_rfl, by kernel_rfl⟩
theorem E.fo97 : FnOk Try.prog 97 ⟨9, (Try.f97.body.getD .skip), Try.f97.results.toList, []⟩ := ⟨Try.f97, Try.func97, rfl, rfl, rfl, by kernel_rfl, by kernel_rfl, by kernel_rfl⟩
theorem E.fo98 : FnOk Try.prog 98 ⟨27, (Try.f98.body.getD .skip), Try.f98.results.toList, []⟩ := ⟨Try.f98, Try.func98, rfl, rfl, rfl, by kernel_rfl, by kernel_rfl, by kernel_rfl⟩
theorem E.fo99 : FnOk Try.prog 99 ⟨97, (Try.f99.body.getD .skip), Try.f99.results.toList, []⟩ := ⟨Try.f99, Try.func99, rfl, rfl, rfl, by kernel_rfl, by kernel_rfl, by kernel_rfl⟩
theorem E.fo100 : FnOk Try.prog 100 ⟨8, (Try.f100.body.getD .skip), Try.f100.results.toList, []⟩ := ⟨Try.f100, Try.func100, rfl, rfl, rfl, by kernel_rfl, by kernel_rfl, by kernel_rfl⟩
theorem E.fo101 : FnOk Try.prog 101 ⟨39, (Try.f101.body.getD .skip), Try.f101.results.toList, []⟩ := ⟨Try.f101, Try.func101, rfl, rfl, rfl, by kernel_rfl, by kernel_rfl, by kernel_rfl⟩
theorem E.fo102 : FnOk Try.prog 102 ⟨18, (Try.f102.body.getD .skip), Try.f102.results.toList, []⟩ := ⟨Try.f102, Try.func102, rfl, rfl, rfl, by kernel_rfl, by kernel_rfl, by kernel_rfl⟩
theorem E.fo103 : FnOk Try.prog 103 ⟨32, (Try.f103.body.getD .skip), Try.f103.results.toList, []⟩ := ⟨Try.f103, Try.func103, rfl, rfl, rfl, by kernel_rfl, by kernel_rfl, by kernel_rfl⟩
theorem E.fo104 : FnOk Try.prog 104 ⟨50, (Try.f104.body.getD .skip), Try.f104.results.toList, []⟩ := ⟨Try.f104, Try.func104, rfl, rfl, rfl, by kernel_rfl, by kernel_rfl, by kernel_rfl⟩
theorem E.fo105 : FnOk Try.prog 105 ⟨31, (Try.f105.body.getD .skip), Try.f105.results.toList, []⟩ := ⟨Try.f105, Try.func105, rfl, rfl, rfl, by kernel_rfl, by kernel_rfl, by kernel_rfl⟩
theorem E.fo106 : FnOk Try.prog 106 ⟨31, (Try.f106.body.getD .skip), Try.f106.results.toList, []⟩ := ⟨Try.f106, Try.func106, rfl, rfl, rfl, by kernel_rfl, by kernel_rfl, by kernel_rfl⟩
theorem E.fo107 : FnOk Try.prog 107 ⟨37, (Try.f107.body.getD .skip), Try.f107.results.toList, []⟩ := ⟨Try.f107, Try.func107, rfl, rfl, rfl, by kernel_rfl, by kernel_rfl, by kernel_rfl⟩
theorem E.fo108 : FnOk Try.prog 108 ⟨11, (Try.f108.body.getD .skip), Try.f108.results.toList, []⟩ := ⟨Try.f108, Try.func108, rfl, rfl, rfl, by kernel_rfl, by kernel_rfl, by kernel_rfl⟩
theorem E.fo109 : FnOk Try.prog 109 ⟨35, (Try.f109.body.getD .skip), Try.f109.results.toList, []⟩ := ⟨Try.f109, Try.func109, rfl, rfl, rfl, by kernel_rfl, by kernel_rfl, by kernel_rfl⟩
theorem E.fo110 : FnOk Try.prog 110 ⟨25, (Try.f110.body.getD .skip), Try.f110.results.toList, []⟩ := ⟨Try.f110, Try.func110, rfl, rfl, rfl, by kernel_rfl, by kernel_rfl, by kernel_rfl⟩
theorem E.fo111 : FnOk Try.prog 111 ⟨9, (Try.f111.body.getD .skip), Try.f111.results.toList, []⟩ := ⟨Try.f111, Try.func111, rfl, rfl, rfl, by kernel_rfl, by kernel_rfl, by kernel_rfl⟩
theorem E.fo112 : FnOk Try.prog 112 ⟨9, (Try.f112.body.getD .skip), Try.f112.results.toList, []⟩ := ⟨Try.f112, Try.func112, rfl, rfl, rfl, by kernel_rfl, by kernel_rfl, by kernel_rfl⟩
theorem E.fo113 : FnOk Try.prog 113 ⟨10, (Try.f113.body.getD .skip), Try.f113.results.toList, []⟩ := ⟨Try.f113, Try.func113, rfl, rfl, rfl, by kernel_rfl, by kernel_rfl, by kernel_rfl⟩
theorem E.fo114 : FnOk Try.prog 114 ⟨33, (Try.f114.body.getD .skip), Try.f114.results.toList, []⟩ := ⟨Try.f114, Try.func114, rfl, rfl, rfl, by kernel_rfl, by kernel_rfl, by kernel_rfl⟩
theorem E.fo115 : FnOk Try.prog 115 ⟨9, (Try.f115.body.getD .skip), Try.f115.results.toList, []⟩ := ⟨Try.f115, Try.func115, rfl, rfl, rfl, by kernel_rfl, by kernel_rfl, by kernel_rfl⟩
theorem E.fo116 : FnOk Try.prog 116 ⟨19, (Try.f116.body.getD .skip), Try.f116.results.toList, []⟩ := ⟨Try.f116, Try.func116, rfl, rfl, rfl, by kernel_rfl, by kernel_rfl, by kernel_rfl⟩
theorem E.fo117 : FnOk Try.prog 117 ⟨9, (Try.f117.body.getD .skip), Try.f117.results.toList, []⟩ := ⟨Try.f117, Try.func117, rfl, rfl, rfl, by kernel_rfl, by kernel_rfl, by kernel_rfl⟩
theorem E.fo118 : FnOk Try.prog 118 ⟨14, (Try.f118.body.getD .skip), Try.f118.results.toList, []⟩ := ⟨Try.f118, Try.func118, rfl, rfl, rfl, by kernel_rfl, by kernel_rfl, by kernel_rfl⟩
theorem E.fo119 : FnOk Try.prog 119 ⟨27, (Try.f119.body.getD .skip), Try.f119.results.toList, []⟩ := ⟨Try.f119, Try.func119, rfl, rfl, rfl, by kernel_rfl, by kernel_rfl, by kernel_rfl⟩
theorem E.fo120 : FnOk Try.prog 120 ⟨33, (Try.f120.body.getD .skip), Try.f120.results.toList, []⟩ := ⟨Try.f120, Try.func120, rfl, rfl, rfl, by kernel_rfl, by kernel_rfl, by kernel_rfl⟩
theorem E.fo121 : FnOk Try.prog 121 ⟨29, (Try.f121.body.getD .skip), Try.f121.results.toList, [5]⟩ := ⟨Try.f121, Try.func121, rfl, rfl, rfl, by kernel_rfl, by kernel_rfl, by kernel_rfl⟩
theorem E.fo122 : FnOk Try.prog 122 ⟨4, (Try.f122.body.getD .skip), Try.f122.results.toList, []⟩ := ⟨Try.f122, Try.func122, rfl, rfl, rfl, by kernel_rfl, by kernel_rfl, by kernel_rfl⟩
theorem E.fo123 : FnOk Try.prog 123 ⟨3, (Try.f123.body.getD .skip), Try.f123.results.toList, []⟩ := ⟨Try.f123, Try.func123, rfl, rfl, rfl, by kernel_rfl, by kernel_rfl, by kernel_rfl⟩
theorem E.fo124 : FnOk Try.prog 124 ⟨4, (Try.f124.body.getD .skip), Try.f124.results.toList, []⟩ := ⟨Try.f124, Try.func124, rfl, rfl, rfl, by kernel_rfl, by kernel_rfl, by kernel_rfl⟩
theorem E.fo125 : FnOk Try.prog 125 ⟨6, (Try.f125.body.getD .skip), Try.f125.results.toList, []⟩ := ⟨Try.f125, Try.func125, rfl, rfl, rfl, by kernel_rfl, by kernel_rfl, by kernel_rfl⟩
theorem E.fo126 : FnOk Try.prog 126 ⟨7, (Try.f126.body.getD .skip), Try.f126.results.toList, []⟩ := ⟨Try.f126, Try.func126, rfl, rfl, rfl, by kernel_rfl, by kernel_rfl, by kernel_rfl⟩
theorem E.fo127 : FnOk Try.prog 127 ⟨21, (Try.f127.body.getD .skip), Try.f127.results.toList, []⟩ := ⟨Try.f127, Try.func127, rfl, rfl, rfl, by kernel_rfl, by kernel_rfl, by kernel_rfl⟩
theorem E.fo128 : FnOk Try.prog 128 ⟨76, (Try.f128.body.getD .skip), Try.f128.results.toList, []⟩ := ⟨Try.f128, Try.func128, rfl, rfl, rfl, by kernel_rfl, by kernel_rfl, by kernel_rfl⟩
theorem E.fo129 : FnOk Try.prog 129 ⟨40, (Try.f129.body.getD .skip), Try.f129.results.toList, []⟩ := ⟨Try.f129, Try.func129, rfl, rfl, rfl, by kernel_rfl, by kernel_rfl, by kernel_rfl⟩
theorem E.fo130 : FnOk Try.prog 130 ⟨8, (Try.f130.body.getD .skip), Try.f130.results.toList, []⟩ := ⟨Try.f130, Try.func130, rfl, rfl, rfl, by kernel_rfl, by kernel_rfl, by kernel_rfl⟩
theorem E.fo131 : FnOk Try.prog 131 ⟨25, (Try.f131.body.getD .skip), Try.f131.results.toList, []⟩ := ⟨Try.f131, Try.func131, rfl, rfl, rfl, by kernel_rfl, by kernel_rfl, by kernel_rfl⟩
theorem E.fo132 : FnOk Try.prog 132 ⟨24, (Try.f132.body.getD .skip), Try.f132.results.toList, []⟩ := ⟨Try.f132, Try.func132, rfl, rfl, rfl, by kernel_rfl, by kernel_rfl, by kernel_rfl⟩
theorem E.fo133 : FnOk Try.prog 133 ⟨31, (Try.f133.body.getD .skip), Try.f133.results.toList, []⟩ := ⟨Try.f133, Try.func133, rfl, rfl, rfl, by kernel_rfl, by kernel_rfl, by kernel_rfl⟩
theorem E.fo134 : FnOk Try.prog 134 ⟨28, (Try.f134.body.getD .skip), Try.f134.results.toList, []⟩ := ⟨Try.f134, Try.func134, rfl, rfl, rfl, by kernel_rfl, by kernel_rfl, by kernel_rfl⟩
theorem E.fo135 : FnOk Try.prog 135 ⟨14, (Try.f135.body.getD .skip), Try.f135.results.toList, []⟩ := ⟨Try.f135, Try.func135, rfl, rfl, rfl, by kernel_rfl, by kernel_rfl, by kernel_rfl⟩
theorem E.fo136 : FnOk Try.prog 136 ⟨33, (Try.f136.body.getD .skip), Try.f136.results.toList, []⟩ := ⟨Try.f136, Try.func136, rfl, rfl, rfl, by kernel_rfl, by kernel_rfl, by kernel_rfl⟩
theorem E.fo137 : FnOk Try.prog 137 ⟨9, (Try.f137.body.getD .skip), Try.f137.results.toList, []⟩ := ⟨Try.f137, Try.func137, rfl, rfl, rfl, by kernel_rfl, by kernel_rfl, by kernel_rfl⟩
theorem E.fo138 : FnOk Try.prog 138 ⟨17, (Try.f138.body.getD .skip), Try.f138.results.toList, []⟩ := ⟨Try.f138, Try.func138, rfl, rfl, rfl, by kernel_rfl, by kernel_rfl, by kernel_rfl⟩
theorem E.fo139 : FnOk Try.prog 139 ⟨51, (Try.f139.body.getD .skip), Try.f139.results.toList, []⟩ := ⟨Try.f139, Try.func139, rfl, rfl, rfl, by kernel_rfl, by kernel_rfl, by kernel_rfl⟩
theorem E.fo140 : FnOk Try.prog 140 ⟨9, (Try.f140.body.getD .skip), Try.f140.results.toList, []⟩ := ⟨Try.f140, Try.func140, rfl, rfl, rfl, by kernel_rfl, by kernel_rfl, by kernel_rfl⟩
theorem E.fo141 : FnOk Try.prog 141 ⟨5, (Try.f141.body.getD .skip), Try.f141.results.toList, []⟩ := ⟨Try.f141, Try.func141, rfl, rfl, rfl, by kernel_rfl, by kernel_rfl, by kernel_rfl⟩
theorem E.fo142 : FnOk Try.prog 142 ⟨66, (Try.f142.body.getD .skip), Try.f142.results.toList, []⟩ := ⟨Try.f142, Try.func142, rfl, rfl, rfl, by kernel_rfl, by kernel_rfl, by kernel_rfl⟩
theorem E.fo143 : FnOk Try.prog 143 ⟨55, (Try.f143.body.getD .skip), Try.f143.results.toList, []⟩ := ⟨Try.f143, Try.func143, rfl, rfl, rfl, by kernel_rfl, by kernel_rfl, by kernel_rfl⟩
theorem E.fo144 : FnOk Try.prog 144 ⟨19, (Try.f144.body.getD .skip), Try.f144.results.toList, []⟩ := ⟨Try.f144, Try.func144, rfl, rfl, rfl, by kernel_rfl, by kernel_rfl, by kernel_rfl⟩
theorem E.fo145 : FnOk Try.prog 145 ⟨19, (Try.f145.body.getD .skip), Try.f145.results.toList, []⟩ := ⟨Try.f145, Try.func145, rfl, rfl, rfl, by kernel_rfl, by kernel_rfl, by kernel_rfl⟩
theorem E.fo146 : FnOk Try.prog 146 ⟨17, (Try.f146.body.getD .skip), Try.f146.results.toList, []⟩ := ⟨Try.f146, Try.func146, rfl, rfl, rfl, by kernel_rfl, by kernel_rfl, by kernel_rfl⟩
theorem E.fo147 : FnOk Try.prog 147 ⟨21, (Try.f147.body.getD .skip), Try.f147.results.toList, []⟩ := ⟨Try.f147, Try.func147, rfl, rfl, rfl, by kernel_rfl, by kernel_rfl, by kernel_rfl⟩
theorem E.fo148 : FnOk Try.prog 148 ⟨52, (Try.f148.body.getD .skip), Try.f148.results.toList, []⟩ := ⟨Try.f148, Try.func148, rfl, rfl, rfl, by kernel_rfl, by kernel_rfl, by kernel_rfl⟩
theorem E.fo149 : FnOk Try.prog 149 ⟨8, (Try.f149.body.getD .skip), Try.f149.results.toList, []⟩ := ⟨Try.f149, Try.func149, rfl, rfl, rfl, by kernel_rfl, by kernel_rfl, by kernel_rfl⟩
theorem E.fo150 : FnOk Try.prog 150 ⟨27, (Try.f150.body.getD .skip), Try.f150.results.toList, []⟩ := ⟨Try.f150, Try.func150, rfl, rfl, rfl, by kernel_rfl, by kernel_rfl, by kernel_rfl⟩
theorem E.fo151 : FnOk Try.prog 151 ⟨17, (Try.f151.body.getD .skip), Try.f151.results.toList, []⟩ := ⟨Try.f151, Try.func151, rfl, rfl, rfl, by kernel_rfl, by kernel_rfl, by kernel_rfl⟩
theorem E.fo152 : FnOk Try.prog 152 ⟨17, (Try.f152.body.getD .skip), Try.f152.results.toList, []⟩ := ⟨Try.f152, Try.func152, rfl, rfl, rfl, by kernel_rfl, by kernel_rfl, by kernel_rfl⟩
theorem E.fo153 : FnOk Try.prog 153 ⟨9, (Try.f153.body.getD .skip), Try.f153.results.toList, []⟩ := ⟨Try.f153, Try.func153, rfl, rfl, rfl, by kernel_rfl, by kernel_rfl, by kernel_rfl⟩
theorem E.fo154 : FnOk Try.prog 154 ⟨54, (Try.f154.body.getD .skip), Try.f154.results.toList, []⟩ := ⟨Try.f154, Try.func154, rfl, rfl, rfl, by kernel_rfl, by kernel_rfl, by kernel_rfl⟩
theorem E.fo155 : FnOk Try.prog 155 ⟨19, (Try.f155.body.getD .skip), Try.f155.results.toList, []⟩ := ⟨Try.f155, Try.func155, rfl, rfl, rfl, by kernel_rfl, by kernel_rfl, by kernel_rfl⟩
theorem E.fo156 : FnOk Try.prog 156 ⟨26, (Try.f156.body.getD .skip), Try.f156.results.toList, []⟩ := ⟨Try.f156, Try.func156, rfl, rfl, rfl, by kernel_rfl, by kernel_rfl, by kernel_rfl⟩
theorem E.fo157 : FnOk Try.prog 157 ⟨14, (Try.f157.body.getD .skip), Try.f157.results.toList, []⟩ := ⟨Try.f157, Try.func157, rfl, rfl, rfl, by kernel_rfl, by kernel_rfl, by kernel_rfl⟩
theorem E.fo158 : FnOk Try.prog 158 ⟨134, (Try.f158.body.getD .skip), Try.f158.results.toList, []⟩ := ⟨Try.f158, Try.func158, rfl, rfl, rfl, by kernel_rfl, by kernel_rfl, by kernel_rfl⟩
theorem E.fo159 : FnOk Try.prog 159 ⟨8, (Try.f159.body.getD .skip), Try.f159.results.toList, []⟩ := ⟨Try.f159, Try.func159, rfl, rfl, rfl, by kernel_rfl, by kernel_rfl, by kernel_rfl⟩
theorem E.fo160 : FnOk Try.prog 160 ⟨33, (Try.f160.body.getD .skip), Try.f160.results.toList, []⟩ := ⟨Try.f160, Try.func160, rfl, rfl, rfl, by kernel_rfl, by kernel_rfl, by kernel_rfl⟩
theorem E.fo161 : FnOk Try.prog 161 ⟨19, (Try.f161.body.getD .skip), Try.f161.results.toList, []⟩ := ⟨Try.f161, Try.func161, rfl, rfl, rfl, by kernel_rfl, by kernel_rfl, by kernel_rfl⟩
theorem E.fo162 : FnOk Try.prog 162 ⟨13, (Try.f162.body.getD .skip), Try.f162.results.toList, []⟩ := ⟨Try.f162, Try.func162, rfl, rfl, rfl, by kernel_rfl, by kernel_rfl, by kernel_rfl⟩
theorem E.fo163 : FnOk Try.prog 163 ⟨60, (Try.f163.body.getD .skip), Try.f163.results.toList, []⟩ := ⟨Try.f163, Try.func163, rfl, rfl, rfl, by kernel_rfl, by kernel_rfl, by kernel_rfl⟩
theorem E.fo164 : FnOk Try.prog 164 ⟨19, (Try.f164.body.getD .skip), Try.f164.results.toList, []⟩ := ⟨Try.f164, Try.func164, rfl, rfl, rfl, by kernel_rfl, by kernel_rfl, by kernel_rfl⟩
theorem E.fo165 : FnOk Try.prog 165 ⟨10, (Try.f165.body.getD .skip), Try.f165.results.toList, []⟩ := ⟨Try.f165, Try.func165, rfl, rfl, rfl, by kernel_rfl, by kernel_rfl, by kernel_rfl⟩
theorem E.fo166 : FnOk Try.prog 166 ⟨7, (Try.f166.body.getD .skip), Try.f166.results.toList, []⟩ := ⟨Try.f166, Try.func166, rfl, rfl, rfl, by kernel_rfl, by kernel_rfl, by kernel_rfl⟩
theorem E.fo167 : FnOk Try.prog 167 ⟨17, (Try.f167.body.getD .skip), Try.f167.results.toList, []⟩ := ⟨Try.f167, Try.func167, rfl, rfl, rfl, by kernel_rfl, by kernel_rfl, by kernel_rfl⟩
theorem E.fo168 : FnOk Try.prog 168 ⟨54, (Try.f168.body.getD .skip), Try.f168.results.toList, []⟩ := ⟨Try.f168, Try.func168, rfl, rfl, rfl, by kernel_rfl, by kernel_rfl, by kernel_rfl⟩
theorem E.fo169 : FnOk Try.prog 169 ⟨16, (Try.f169.body.getD .skip), Try.f169.results.toList, []⟩ := ⟨Try.f169, Try.func169, rfl, rfl, rfl, by kernel_rfl, by kernel_rfl, by kernel_rfl⟩
theorem E.fo170 : FnOk Try.prog 170 ⟨74, (Try.f170.body.getD .skip), Try.f170.results.toList, []⟩ := ⟨Try.f170, Try.func170, rfl, rfl, rfl, by kernel_rfl, by kernel_rfl, by kernel_rfl⟩
theorem E.fo171 : FnOk Try.prog 171 ⟨49, (Try.f171.body.getD .skip), Try.f171.results.toList, []⟩ := ⟨Try.f171, Try.func171, rfl, rfl, rfl, by kernel_rfl, by kernel_rfl, by kernel_rfl⟩
theorem E.fo172 : FnOk Try.prog 172 ⟨56, (Try.f172.body.getD .skip), Try.f172.results.toList, []⟩ := ⟨Try.f172, Try.func172, rfl, rfl, rfl, by kernel_rfl, by kernel_rfl, by kernel_rfl⟩
theorem E.fo173 : FnOk Try.prog 173 ⟨65, (Try.f173.body.getD .skip), Try.f173.results.toList, []⟩ := ⟨Try.f173, Try.func173, rfl, rfl, rfl, by kernel_rfl, by kernel_rfl, by kernel_rfl⟩
theorem E.fo174 : FnOk Try.prog 174 ⟨57, (Try.f174.body.getD .skip), Try.f174.results.toList, []⟩ := ⟨Try.f174, Try.func174, rfl, rfl, rfl, by kernel_rfl, by kernel_rfl, by kernel_rfl⟩
theorem E.fo175 : FnOk Try.prog 175 ⟨32, (Try.f175.body.getD .skip), Try.f175.results.toList, []⟩ := ⟨Try.f175, Try.func175, rfl, rfl, rfl, by kernel_rfl, by kernel_rfl, by kernel_rfl⟩
theorem E.fo176 : FnOk Try.prog 176 ⟨133, (Try.f176.body.getD .skip), Try.f176.results.toList, []⟩ := ⟨Try.f176, Try.func176, rfl, rfl, rfl, by kernel_rfl, by kernel_rfl, by kernel_rfl⟩
theorem E.fo177 : FnOk Try.prog 177 ⟨84, (Try.f177.body.getD .skip), Try.f177.results.toList, []⟩ := ⟨Try.f177, Try.func177, rfl, rfl, rfl, by kernel_rfl, by kernel_rfl, by kernel_rfl⟩
theorem E.fo178 : FnOk Try.prog 178 ⟨168, (Try.f178.body.getD .skip), Try.f178.results.toList, []⟩ := ⟨Try.f178, Try.func178, rfl, rfl, rfl, by kernel_rfl, by kernel_rfl, by kernel_rfl⟩
theorem E.fo179 : FnOk Try.prog 179 ⟨19, (Try.f179.body.getD .skip), Try.f179.results.toList, []⟩ := ⟨Try.f179, Try.func179, rfl, rfl, rfl, by kernel_rfl, by kernel_rfl, by kernel_rfl⟩
theorem E.fo180 : FnOk Try.prog 180 ⟨25, (Try.f180.body.getD .skip), Try.f180.results.toList, []⟩ := ⟨Try.f180, Try.func180, rfl, rfl, rfl, by kernel_rfl, by kernel_rfl, by kernel_rfl⟩
theorem E.fo181 : FnOk Try.prog 181 ⟨18, (Try.f181.body.getD .skip), Try.f181.results.toList, []⟩ := ⟨Try.f181, Try.func181, rfl, rfl, rfl, by kernel_rfl, by kernel_rfl, by kernel_rfl⟩
theorem E.fo182 : FnOk Try.prog 182 ⟨6, (Try.f182.body.getD .skip), Try.f182.results.toList, []⟩ := ⟨Try.f182, Try.func182, rfl, rfl, rfl, by kernel_rfl, by kernel_rfl, by kernel_rfl⟩
theorem E.fo183 : FnOk Try.prog 183 ⟨6, (Try.f183.body.getD .skip), Try.f183.results.toList, []⟩ := ⟨Try.f183, Try.func183, rfl, rfl, rfl, by kernel_rfl, by kernel_rfl, by kernel_rfl⟩
theorem E.fo184 : FnOk Try.prog 184 ⟨76, (Try.f184.body.getD .skip), Try.f184.results.toList, []⟩ := ⟨Try.f184, Try.func184, rfl, rfl, rfl, by kernel_rfl, by kernel_rfl, by kernel_rfl⟩
theorem E.fo185 : FnOk Try.prog 185 ⟨7, (Try.f185.body.getD .skip), Try.f185.results.toList, []⟩ := ⟨Try.f185, Try.func185, rfl, rfl, rfl, by kernel_rfl, by kernel_rfl, by kernel_rfl⟩
theorem E.fo186 : FnOk Try.prog 186 ⟨33, (Try.f186.body.getD .skip), Try.f186.results.toList, []⟩ := ⟨Try.f186, Try.func186, rfl, rfl, rfl, by kernel_rfl, by kernel_rfl, by kernel_rfl⟩
theorem E.fo187 : FnOk Try.prog 187 ⟨15, (Try.f187.body.getD .skip), Try.f187.results.toList, []⟩ := ⟨Try.f187, Try.func187, rfl, rfl, rfl, by kernel_rfl, by kernel_rfl, by kernel_rfl⟩
theorem E.fo188 : FnOk Try.prog 188 ⟨36, (Try.f188.body.getD .skip), Try.f188.results.toList, []⟩ := ⟨Try.f188, Try.func188, rfl, rfl, rfl, by kernel_rfl, by kernel_rfl, by kernel_rfl⟩
theorem E.fo189 : FnOk Try.prog 189 ⟨28, (Try.f189.body.getD .skip), Try.f189.results.toList, []⟩ := ⟨Try.f189, Try.func189, rfl, rfl, rfl, by kernel_rfl, by kernel_rfl, by kernel_rfl⟩
theorem E.tyAll : TrAll (TyOk Try.prog) E.tyTr id := (.none (.some E.to1 (.some E.to3 (.some E.to7 (.some E.to15 (.none (.some E.to63 (.some E.to127 .nil .nil) (.some E.to191 .nil .nil)) .nil) (.some E.to47 (.some E.to79 (.some E.to143 .nil .nil) .nil) (.some E.to111 (.some E.to175 .nil .nil) .nil))) (.some E.to23 (.some E.to39 (.some E.to71 (.some E.to135 .nil .nil) .nil) (.some E.to103 (.some E.to167 .nil .nil) .nil)) (.some E.to55 (.none (.some E.to151 .nil .nil) .nil) (.some E.to119 (.some E.to183 .nil .nil) .nil)))) (.some E.to11 (.none (.some E.to35 (.none (.some E.to131 .nil .nil) (.some E.to195 .nil .nil)) (.some E.to99 (.some E.to163 .nil .nil) .nil)) (.some E.to51 (.some E.to83 (.some E.to147 .nil .nil) .nil) (.some E.to115 (.some E.to179 .nil .nil) .nil))) (.some E.to27 (.some E.to43 (.some E.to75 .nil .nil) (.some E.to107 (.some E.to171 .nil .nil) .nil)) (.some E.to59 (.some E.to91 (.some E.to155 .nil .nil) .nil) (.some E.to123 (.some E.to187 .nil .nil) .nil))))) (.some E.to5 (.some E.to9 (.some E.to17 (.some E.to33 (.some E.to65 (.some E.to129 .nil .nil) .nil) (.some E.to97 (.some E.to161 .nil .nil) .nil)) (.some E.to49 (.some E.to81 (.some E.to145 .nil .nil) .nil) (.some E.to113 (.some E.to177 .nil .nil) .nil))) (.some E.to25 (.none (.none (.some E.to137 .nil .nil) .nil) (.some E.to105 (.some E.to169 .nil .nil) .nil)) (.some E.to57 (.some E.to89 (.some E.to153 .nil .nil) .nil) (.some E.to121 .nil .nil)))) (.none (.some E.to21 (.some E.to37 (.some E.to69 (.some E.to133 .nil .nil) .nil) (.some E.to101 (.some E.to165 .nil .nil) .nil)) (.none (.some E.to85 (.some E.to149 .nil .nil) .nil) (.some E.to117 .nil .nil))) (.some E.to29 (.some E.to45 (.some E.to77 .nil .nil) (.some E.to109 (.some E.to173 .nil .nil) .nil)) (.some E.to61 (.some E.to93 (.some E.to157 .nil .nil) .nil) (.some E.to125 (.some E.to189 .nil .nil) .nil)))))) (.some E.to2 (.some E.to4 (.some E.to8 (.some E.to16 (.some E.to32 (.none (.some E.to128 .nil .nil) (.some E.to192 .nil .nil)) (.some E.to96 (.some E.to160 .nil .nil) .nil)) (.some E.to48 (.some E.to80 (.some E.to144 .nil .nil) .nil) (.some E.to112 (.some E.to176 .nil .nil) .nil))) (.some E.to24 (.some E.to40 (.some E.to72 (.some E.to136 .nil .nil) .nil) (.none (.some E.to168 .nil .nil) .nil)) (.some E.to56 (.some E.to88 (.some E.to152 .nil .nil) .nil) (.some E.to120 .nil .nil)))) (.some E.to12 (.some E.to20 (.some E.to36 (.some E.to68 (.some E.to132 .nil .nil) .nil) (.some E.to100 .nil .nil)) (.some E.to52 (.some E.to84 (.some E.to148 .nil .nil) .nil) (.some E.to116 (.some E.to180 .nil .nil) .nil))) (.none (.some E.to44 (.none (.some E.to140 .nil .nil) .nil) (.some E.to108 (.some E.to172 .nil .nil) .nil)) (.some E.to60 (.some E.to92 (.some E.to156 .nil .nil) .nil) (.some E.to124 (.some E.to188 .nil .nil) .nil))))) (.some E.to6 (.some E.to10 (.none (.some E.to34 (.some E.to66 (.some E.to130 .nil .nil) .nil) (.some E.to98 (.some E.to162 .nil .nil) .nil)) (.some E.to50 (.some E.to82 (.some E.to146 .nil .nil) .nil) (.some E.to114 (.some E.to178 .nil .nil) .nil))) (.some E.to26 (.some E.to42 (.some E.to74 (.some E.to138 .nil .nil) .nil) (.some E.to106 (.some E.to170 .nil .nil) .nil)) (.some E.to58 (.some E.to90 (.some E.to154 .nil .nil) .nil) (.some E.to122 (.some E.to186 .nil .nil) .nil)))) (.none (.some E.to22 (.none (.some E.to70 (.some E.to134 .nil .nil) .nil) (.some E.to102 (.some E.to166 .nil .nil) .nil)) (.some E.to54 (.some E.to86 (.some E.to150 .nil .nil) .nil) (.some E.to118 .nil .nil))) (.some E.to30 (.some E.to46 (.some E.to78 (.some E.to142 .nil .nil) .nil) (.some E.to110 (.some E.to174 .nil .nil) .nil)) (.some E.to62 (.some E.to94 (.some E.to158 .nil .nil) .nil) (.some E.to126 (.some E.to190 .nil .nil) .nil)))))))
theorem E.fnAll : TrAll (FnOk Try.prog) E.fnTr id := (.none (.none (.some E.fo3 (.some E.fo7 (.some E.fo15 (.some E.fo31 (.some E.fo63 (.some E.fo127 .nil .nil) .nil) (.some E.fo95 (.some E.fo159 .nil .nil) .nil)) (.some E.fo47 (.some E.fo79 (.some E.fo143 .nil .nil) .nil) (.some E.fo111 (.some E.fo175 .nil .nil) .nil))) (.some E.fo23 (.some E.fo39 (.some E.fo71 (.some E.fo135 .nil .nil) .nil) (.some E.fo103 (.some E.fo167 .nil .nil) .nil)) (.some E.fo55 (.some E.fo87 (.some E.fo151 .nil .nil) .nil) (.some E.fo119 (.some E.fo183 .nil .nil) .nil)))) (.some E.fo11 (.some E.fo19 (.some E.fo35 (.some E.fo67 (.some E.fo131 .nil .nil) .nil) (.some E.fo99 (.some E.fo163 .nil .nil) .nil)) (.none (.some E.fo83 (.some E.fo147 .nil .nil) .nil) (.some E.fo115 (.some E.fo179 .nil .nil) .nil))) (.some E.fo27 (.some E.fo43 (.some E.fo75 (.some E.fo139 .nil .nil) .nil) (.some E.fo107 (.some E.fo171 .nil .nil) .nil)) (.some E.fo59 (.some E.fo91 (.some E.fo155 .nil .nil) .nil) (.some E.fo123 (.some E.fo187 .nil .nil) .nil))))) (.some E.fo5 (.some E.fo9 (.some E.fo17 (.some E.fo33 (.some E.fo65 (.some E.fo129 .nil .nil) .nil) (.some E.fo97 (.some E.fo161 .nil .nil) .nil)) (.some E.fo49 (.none (.some E.fo145 .nil .nil) .nil) (.some E.fo113 (.some E.fo177 .nil .nil) .nil))) (.some E.fo25 (.some E.fo41 (.some E.fo73 (.some E.fo137 .nil .nil) .nil) (.some E.fo105 (.some E.fo169 .nil .nil) .nil)) (.some E.fo57 (.some E.fo89 (.some E.fo153 .nil .nil) .nil) (.some E.fo121 (.some E.fo185 .nil .nil) .nil)))) (.some E.fo13 (.some E.fo21 (.some E.fo37 (.some E.fo69 (.some E.fo133 .nil .nil) .nil) (.some E.fo101 (.some E.fo165 .nil .nil) .nil)) (.some E.fo53 (.some E.fo85 (.some E.fo149 .nil .nil) .nil) (.some E.fo117 (.some E.fo181 .nil .nil) .nil))) (.some E.fo29 (.some E.fo45 (.some E.fo77 (.some E.fo141 .nil .nil) .nil) (.some E.fo109 (.some E.fo173 .nil .nil) .nil)) (.some E.fo61 (.some E.fo93 (.some E.fo157 .nil .nil) .nil) (.some E.fo125 (.some E.fo189 .nil .nil) .nil)))))) (.none (.some E.fo4 (.some E.fo8 (.some E.fo16 (.some E.fo32 (.some E.fo64 (.some E.fo128 .nil .nil) .nil) (.some E.fo96 (.some E.fo160 .nil .nil) .nil)) (.some E.fo48 (.some E.fo80 (.some E.fo144 .nil .nil) .nil) (.some E.fo112 (.some E.fo176 .nil .nil) .nil))) (.some E.fo24 (.some E.fo40 (.some E.fo72 (.some E.fo136 .nil .nil) .nil) (.some E.fo104 (.some E.fo168 .nil .nil) .nil)) (.some E.fo56 (.some E.fo88 (.some E.fo152 .nil .nil) .nil) (.some E.fo120 (.some E.fo184 .nil .nil) .nil)))) (.some E.fo12 (.some E.fo20 (.some E.fo36 (.some E.fo68 (.some E.fo132 .nil .nil) .nil) (.some E.fo100 (.some E.fo164 .nil .nil) .nil)) (.some E.fo52 (.some E.fo84 (.some E.fo148 .nil .nil) .nil) (.some E.fo116 (.some E.fo180 .nil .nil) .nil))) (.some E.fo28 (.some E.fo44 (.some E.fo76 (.some E.fo140 .nil .nil) .nil) (.some E.fo108 (.some E.fo172 .nil .nil) .nil)) (.some E.fo60 (.some E.fo92 (.some E.fo156 .nil .nil) .nil) (.some E.fo124 (.some E.fo188 .nil .nil) .nil))))) (.some E.fo6 (.some E.fo10 (.some E.fo18 (.some E.fo34 (.some E.fo66 (.some E.fo130 .nil .nil) .nil) (.some E.fo98 (.some E.fo162 .nil .nil) .nil)) (.some E.fo50 (.some E.fo82 (.some E.fo146 .nil .nil) .nil) (.some E.fo114 (.some E.fo178 .nil .nil) .nil))) (.some E.fo26 (.some E.fo42 (.some E.fo74 (.some E.fo138 .nil .nil) .nil) (.some E.fo106 (.some E.fo170 .nil .nil) .nil)) (.some E.fo58 (.some E.fo90 (.some E.fo154 .nil .nil) .nil) (.some E.fo122 (.some E.fo186 .nil .nil) .nil)))) (.some E.fo14 (.some E.fo22 (.some E.fo38 (.some E.fo70 (.some E.fo134 .nil .nil) .nil) (.some E.fo102 (.some E.fo166 .nil .nil) .nil)) (.some E.fo54 (.some E.fo86 (.some E.fo150 .nil .nil) .nil) (.some E.fo118 (.some E.fo182 .nil .nil) .nil))) (.some E.fo30 (.some E.fo46 (.some E.fo78 (.some E.fo142 .nil .nil) .nil) (.some E.fo110 (.some E.fo174 .nil .nil) .nil)) (.some E.fo62 (.some E.fo94 (.some E.fo158 .nil .nil) .nil) (.some E.fo126 .nil .nil)))))))
theorem E.ok : EnvOk Try.prog E := ⟨fun t y h => TrAll.get E.tyAll t y h, by kernel_rfl⟩
theorem E.fns : ∀ f fi, E.fn f = some fi → FnOk Try.prog f fi := fun f fi h => TrAll.get E.fnAll f fi h
end Go.Proofs.Ytdkmepeolmdccaa
