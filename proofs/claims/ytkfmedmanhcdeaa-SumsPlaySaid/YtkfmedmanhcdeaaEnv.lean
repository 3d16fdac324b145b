/- The abstract machine's tables for this seat, and that they say what the program is: printed by a program of ours (AmEnv.lean). -/
import Derived.Test.YtkfmedmanhcdeaaAmB
import Derived.Test.YtkfmedmanhcdeaaChecked
namespace Go.Proofs.Ytkfmedmanhcdeaa
open Go.Am
noncomputable def E.tyTr : Tr Ty := (.node none (.node (some ⟨0, 1, 8, [.nilf], 0, 0, [], .i64⟩) (.node (some ⟨1, 1, 8, [(.int .i64 0)], 0, 0, [], .i64⟩) (.node (some ⟨6, 4, 24, [(.int .i64 0), (.int .i64 0), (.bool false), (.int .u8 0)], 0, 0, [(0, 2, 1), (1, 3, 1), (2, 4, 1), (3, 6, 1)], .i64⟩) (.node (some ⟨7, 1, 8, [.nilp], 117, 0, [], .i64⟩) (.node (some ⟨4, 1, 24, [.nils], 3, 0, [], .i64⟩) (.node (some ⟨0, 1, 8, [.nilf], 0, 0, [], .i64⟩) (.node (some ⟨1, 1, 4, [(.int .i32 0)], 0, 0, [], .i32⟩) .nil .nil) .nil) .nil) (.node (some ⟨0, 1, 8, [.nilf], 0, 0, [], .i64⟩) (.node (some ⟨0, 1, 8, [.nilf], 0, 0, [], .i64⟩) .nil .nil) (.node (some ⟨0, 1, 8, [.nilf], 0, 0, [], .i64⟩) .nil .nil))) (.node (some ⟨1, 1, 8, [(.int .i64 0)], 0, 0, [], .i64⟩) (.node (some ⟨0, 1, 8, [.nilf], 0, 0, [], .i64⟩) (.node (some ⟨0, 1, 8, [.nilf], 0, 0, [], .i64⟩) .nil .nil) (.node (some ⟨1, 1, 4, [(.int .u32 0)], 0, 0, [], .u32⟩) .nil .nil)) (.node (some ⟨6, 2, 16, [(.int .i64 0), (.int .i64 0)], 0, 0, [(0, 3, 1), (1, 3, 1)], .i64⟩) (.node (some ⟨0, 1, 8, [.nilf], 0, 0, [], .i64⟩) .nil .nil) .nil))) (.node (some ⟨3, 1, 16, [(.str [])], 0, 0, [], .i64⟩) (.node none (.node (some ⟨0, 1, 8, [.nilf], 0, 0, [], .i64⟩) (.node (some ⟨0, 1, 8, [.nilf], 0, 0, [], .i64⟩) .nil .nil) (.node (some ⟨0, 1, 8, [.nilf], 0, 0, [], .i64⟩) .nil .nil)) (.node (some ⟨0, 1, 8, [.nilf], 0, 0, [], .i64⟩) (.node (some ⟨0, 1, 8, [.nilf], 0, 0, [], .i64⟩) .nil .nil) (.node (some ⟨0, 1, 8, [.nilf], 0, 0, [], .i64⟩) .nil .nil))) (.node none (.node (some ⟨0, 1, 8, [.nilf], 0, 0, [], .i64⟩) (.node (some ⟨0, 1, 8, [.nilf], 0, 0, [], .i64⟩) .nil .nil) (.node (some ⟨0, 1, 8, [.nilf], 0, 0, [], .i64⟩) .nil .nil)) (.node (some ⟨0, 1, 8, [.nilf], 0, 0, [], .i64⟩) .nil (.node (some ⟨1, 1, 1, [(.int .u8 0)], 0, 0, [], .u8⟩) .nil .nil))))) (.node (some ⟨1, 1, 1, [(.int .u8 0)], 0, 0, [], .u8⟩) (.node (some ⟨3, 1, 16, [(.str [])], 0, 0, [], .i64⟩) (.node (some ⟨7, 1, 8, [.nilp], 129, 0, [], .i64⟩) (.node (some ⟨0, 1, 8, [.nilf], 0, 0, [], .i64⟩) .nil (.node (some ⟨0, 1, 8, [.nilf], 0, 0, [], .i64⟩) .nil .nil)) (.node (some ⟨0, 1, 8, [.nilf], 0, 0, [], .i64⟩) (.node (some ⟨0, 1, 8, [.nilf], 0, 0, [], .i64⟩) .nil .nil) (.node (some ⟨0, 1, 8, [.nilf], 0, 0, [], .i64⟩) .nil .nil))) (.node (some ⟨0, 1, 8, [.nilf], 0, 0, [], .i64⟩) (.node (some ⟨0, 1, 8, [.nilf], 0, 0, [], .i64⟩) (.node (some ⟨0, 1, 8, [.nilf], 0, 0, [], .i64⟩) .nil .nil) (.node (some ⟨0, 1, 8, [.nilf], 0, 0, [], .i64⟩) .nil .nil)) (.node none (.node (some ⟨6, 2, 16, [(.int .i64 0), (.int .i64 0)], 0, 0, [(0, 3, 1), (1, 3, 1)], .i64⟩) .nil .nil) (.node (some ⟨0, 1, 8, [.nilf], 0, 0, [], .i64⟩) .nil .nil)))) (.node none (.node (some ⟨1, 1, 4, [(.int .i32 0)], 0, 0, [], .i32⟩) (.node (some ⟨7, 1, 8, [.nilp], 102, 0, [], .i64⟩) (.node (some ⟨0, 1, 8, [.nilf], 0, 0, [], .i64⟩) .nil .nil) (.node (some ⟨6, 1, 24, [.nils], 0, 0, [(0, 31, 1)], .i64⟩) .nil .nil)) (.node (some ⟨0, 1, 8, [.nilf], 0, 0, [], .i64⟩) .nil .nil)) (.node (some ⟨0, 1, 8, [.nilf], 0, 0, [], .i64⟩) (.node none (.node (some ⟨4, 1, 24, [.nils], 5, 0, [], .i64⟩) .nil .nil) (.node (some ⟨4, 1, 24, [.nils], 31, 0, [], .i64⟩) .nil .nil)) (.node (some ⟨0, 1, 8, [.nilf], 0, 0, [], .i64⟩) (.node (some ⟨0, 1, 8, [.nilf], 0, 0, [], .i64⟩) .nil .nil) (.node (some ⟨7, 1, 8, [.nilp], 5, 0, [], .i64⟩) .nil .nil)))))) (.node (some ⟨1, 1, 8, [(.int .i64 0)], 0, 0, [], .i64⟩) (.node (some ⟨2, 1, 1, [(.bool false)], 0, 0, [], .i64⟩) (.node (some ⟨6, 4, 24, [(.int .i64 0), (.int .i64 0), (.bool false), (.int .u8 0)], 0, 0, [(0, 2, 1), (1, 3, 1), (2, 4, 1), (3, 6, 1)], .i64⟩) (.node (some ⟨7, 1, 8, [.nilp], 120, 0, [], .i64⟩) (.node (some ⟨0, 1, 8, [.nilf], 0, 0, [], .i64⟩) (.node (some ⟨0, 1, 8, [.nilf], 0, 0, [], .i64⟩) .nil .nil) (.node (some ⟨0, 1, 8, [.nilf], 0, 0, [], .i64⟩) .nil .nil)) (.node (some ⟨0, 1, 8, [.nilf], 0, 0, [], .i64⟩) .nil (.node (some ⟨5, 10, 10, (List.replicate 10 (.bool false)), 4, 10, [], .i64⟩) .nil .nil))) (.node none (.node (some ⟨5, 2, 16, [(.int .i64 0), (.int .i64 0)], 3, 2, [], .i64⟩) (.node (some ⟨0, 1, 8, [.nilf], 0, 0, [], .i64⟩) .nil .nil) (.node (some ⟨0, 1, 8, [.nilf], 0, 0, [], .i64⟩) .nil .nil)) (.node (some ⟨6, 2, 16, [(.int .i64 0), (.int .i64 0)], 0, 0, [(0, 3, 1), (1, 3, 1)], .i64⟩) (.node (some ⟨0, 1, 8, [.nilf], 0, 0, [], .i64⟩) .nil .nil) .nil))) (.node (some ⟨1, 1, 8, [(.int .u64 0)], 0, 0, [], .u64⟩) (.node (some ⟨0, 1, 16, [.undef], 0, 0, [], .i64⟩) (.node (some ⟨4, 1, 24, [.nils], 40, 0, [], .i64⟩) (.node (some ⟨0, 1, 8, [.nilf], 0, 0, [], .i64⟩) .nil .nil) (.node (some ⟨1, 1, 8, [(.int .u64 0)], 0, 0, [], .u64⟩) .nil .nil)) (.node (some ⟨0, 1, 8, [.nilf], 0, 0, [], .i64⟩) (.node (some ⟨4, 1, 24, [.nils], 90, 0, [], .i64⟩) .nil .nil) .nil)) (.node (some ⟨0, 1, 8, [.nilf], 0, 0, [], .i64⟩) (.node (some ⟨0, 1, 8, [.nilf], 0, 0, [], .i64⟩) (.node (some ⟨0, 1, 8, [.nilf], 0, 0, [], .i64⟩) .nil .nil) (.node (some ⟨0, 1, 8, [.nilf], 0, 0, [], .i64⟩) .nil .nil)) (.node none (.node (some ⟨0, 1, 8, [.nilf], 0, 0, [], .i64⟩) .nil .nil) (.node (some ⟨0, 1, 8, [.nilf], 0, 0, [], .i64⟩) .nil .nil))))) (.node (some ⟨1, 1, 1, [(.int .u8 0)], 0, 0, [], .u8⟩) (.node (some ⟨3, 1, 16, [(.str [])], 0, 0, [], .i64⟩) (.node none (.node (some ⟨0, 1, 8, [.nilf], 0, 0, [], .i64⟩) (.node (some ⟨0, 1, 8, [.nilf], 0, 0, [], .i64⟩) (.node (some ⟨0, 1, 8, [.nilp], 0, 0, [], .i64⟩) .nil .nil) .nil) (.node (some ⟨0, 1, 8, [.nilf], 0, 0, [], .i64⟩) .nil .nil)) (.node none (.node (some ⟨0, 1, 8, [.nilf], 0, 0, [], .i64⟩) .nil .nil) (.node (some ⟨0, 1, 8, [.nilf], 0, 0, [], .i64⟩) .nil .nil))) (.node (some ⟨4, 1, 24, [.nils], 22, 0, [], .i64⟩) (.node (some ⟨0, 1, 8, [.nilf], 0, 0, [], .i64⟩) (.node (some ⟨0, 1, 8, [.nilf], 0, 0, [], .i64⟩) .nil .nil) (.node (some ⟨0, 1, 8, [.nilf], 0, 0, [], .i64⟩) .nil .nil)) (.node (some ⟨0, 1, 8, [.nilf], 0, 0, [], .i64⟩) (.node (some ⟨6, 2, 16, [(.int .i64 0), (.int .i64 0)], 0, 0, [(0, 3, 1), (1, 3, 1)], .i64⟩) .nil .nil) (.node (some ⟨1, 1, 1, [(.int .u8 0)], 0, 0, [], .u8⟩) .nil .nil)))) (.node none (.node (some ⟨1, 1, 2, [(.int .u16 0)], 0, 0, [], .u16⟩) (.node none (.node (some ⟨0, 1, 8, [.nilf], 0, 0, [], .i64⟩) .nil .nil) (.node (some ⟨6, 1, 24, [.nils], 0, 0, [(0, 31, 1)], .i64⟩) .nil .nil)) (.node (some ⟨0, 1, 8, [.nilf], 0, 0, [], .i64⟩) (.node (some ⟨0, 1, 8, [.nilf], 0, 0, [], .i64⟩) .nil .nil) (.node (some ⟨5, 0, 0, [], 16, 0, [], .i64⟩) .nil .nil))) (.node (some ⟨0, 1, 8, [.nilf], 0, 0, [], .i64⟩) (.node (some ⟨0, 1, 8, [.nilf], 0, 0, [], .i64⟩) .nil (.node (some ⟨0, 1, 8, [.nilf], 0, 0, [], .i64⟩) .nil .nil)) (.node (some ⟨0, 1, 8, [.nilf], 0, 0, [], .i64⟩) (.node (some ⟨0, 1, 8, [.nilf], 0, 0, [], .i64⟩) .nil .nil) (.node (some ⟨1, 1, 4, [(.int .i32 0)], 0, 0, [], .i32⟩) .nil .nil)))))))
noncomputable def E.fnTr : Tr Fi := (.node none (.node none (.node (some ⟨110, (Try.f3.body.getD .skip), Try.f3.results.toList, []⟩) (.node (some ⟨132, (Try.f7.body.getD .skip), Try.f7.results.toList, []⟩) (.node (some ⟨15, (Try.f15.body.getD .skip), Try.f15.results.toList, []⟩) (.node (some ⟨23, (Try.f31.body.getD .skip), Try.f31.results.toList, []⟩) (.node (some ⟨61, (Try.f63.body.getD .skip), Try.f63.results.toList, []⟩) .nil .nil) (.node (some ⟨8, (Try.f95.body.getD .skip), Try.f95.results.toList, []⟩) .nil .nil)) (.node (some ⟨27, (Try.f47.body.getD .skip), Try.f47.results.toList, []⟩) (.node (some ⟨42, (Try.f79.body.getD .skip), Try.f79.results.toList, []⟩) .nil .nil) (.node (some ⟨26, (Try.f111.body.getD .skip), Try.f111.results.toList, []⟩) .nil .nil))) (.node (some ⟨70, (Try.f23.body.getD .skip), Try.f23.results.toList, []⟩) (.node (some ⟨29, (Try.f39.body.getD .skip), Try.f39.results.toList, []⟩) (.node (some ⟨79, (Try.f71.body.getD .skip), Try.f71.results.toList, []⟩) .nil .nil) (.node (some ⟨21, (Try.f103.body.getD .skip), Try.f103.results.toList, []⟩) .nil .nil)) (.node (some ⟨44, (Try.f55.body.getD .skip), Try.f55.results.toList, []⟩) (.node (some ⟨38, (Try.f87.body.getD .skip), Try.f87.results.toList, []⟩) .nil .nil) (.node (some ⟨19, (Try.f119.body.getD .skip), Try.f119.results.toList, []⟩) .nil .nil)))) (.node (some ⟨133, (Try.f11.body.getD .skip), Try.f11.results.toList, []⟩) (.node (some ⟨88, (Try.f19.body.getD .skip), Try.f19.results.toList, []⟩) (.node (some ⟨29, (Try.f35.body.getD .skip), Try.f35.results.toList, []⟩) (.node (some ⟨49, (Try.f67.body.getD .skip), Try.f67.results.toList, []⟩) .nil .nil) (.node (some ⟨9, (Try.f99.body.getD .skip), Try.f99.results.toList, []⟩) .nil .nil)) (.node (some ⟨62, (Try.f51.body.getD .skip), Try.f51.results.toList, []⟩) (.node (some ⟨34, (Try.f83.body.getD .skip), Try.f83.results.toList, []⟩) .nil .nil) (.node (some ⟨9, (Try.f115.body.getD .skip), Try.f115.results.toList, []⟩) .nil .nil))) (.node (some ⟨45, (Try.f27.body.getD .skip), Try.f27.results.toList, []⟩) (.node (some ⟨41, (Try.f43.body.getD .skip), Try.f43.results.toList, []⟩) (.node (some ⟨10, (Try.f75.body.getD .skip), Try.f75.results.toList, []⟩) .nil .nil) (.node (some ⟨8, (Try.f107.body.getD .skip), Try.f107.results.toList, []⟩) .nil .nil)) (.node (some ⟨42, (Try.f59.body.getD .skip), Try.f59.results.toList, []⟩) (.node (some ⟨37, (Try.f91.body.getD .skip), Try.f91.results.toList, []⟩) .nil .nil) .nil)))) (.node (some ⟨202, (Try.f5.body.getD .skip), Try.f5.results.toList, []⟩) (.node (some ⟨149, (Try.f9.body.getD .skip), Try.f9.results.toList, []⟩) (.node (some ⟨14, (Try.f17.body.getD .skip), Try.f17.results.toList, []⟩) (.node (some ⟨50, (Try.f33.body.getD .skip), Try.f33.results.toList, []⟩) (.node (some ⟨59, (Try.f65.body.getD .skip), Try.f65.results.toList, []⟩) .nil .nil) (.node (some ⟨24, (Try.f97.body.getD .skip), Try.f97.results.toList, []⟩) .nil .nil)) (.node (some ⟨19, (Try.f49.body.getD .skip), Try.f49.results.toList, []⟩) (.node (some ⟨103, (Try.f81.body.getD .skip), Try.f81.results.toList, []⟩) .nil .nil) (.node (some ⟨42, (Try.f113.body.getD .skip), Try.f113.results.toList, []⟩) .nil .nil))) (.node (some ⟨57, (Try.f25.body.getD .skip), Try.f25.results.toList, []⟩) (.node (some ⟨33, (Try.f41.body.getD .skip), Try.f41.results.toList, []⟩) (.node (some ⟨60, (Try.f73.body.getD .skip), Try.f73.results.toList, []⟩) .nil .nil) (.node (some ⟨81, (Try.f105.body.getD .skip), Try.f105.results.toList, []⟩) .nil .nil)) (.node (some ⟨12, (Try.f57.body.getD .skip), Try.f57.results.toList, []⟩) (.node (some ⟨68, (Try.f89.body.getD .skip), Try.f89.results.toList, []⟩) .nil .nil) .nil))) (.node (some ⟨183, (Try.f13.body.getD .skip), Try.f13.results.toList, []⟩) (.node (some ⟨61, (Try.f21.body.getD .skip), Try.f21.results.toList, []⟩) (.node (some ⟨27, (Try.f37.body.getD .skip), Try.f37.results.toList, []⟩) (.node (some ⟨9, (Try.f69.body.getD .skip), Try.f69.results.toList, []⟩) .nil .nil) (.node (some ⟨33, (Try.f101.body.getD .skip), Try.f101.results.toList, []⟩) .nil .nil)) (.node (some ⟨38, (Try.f53.body.getD .skip), Try.f53.results.toList, []⟩) (.node (some ⟨79, (Try.f85.body.getD .skip), Try.f85.results.toList, []⟩) .nil .nil) (.node (some ⟨61, (Try.f117.body.getD .skip), Try.f117.results.toList, []⟩) .nil .nil))) (.node (some ⟨13, (Try.f29.body.getD .skip), Try.f29.results.toList, []⟩) (.node (some ⟨14, (Try.f45.body.getD .skip), Try.f45.results.toList, []⟩) (.node (some ⟨17, (Try.f77.body.getD .skip), Try.f77.results.toList, []⟩) .nil .nil) (.node (some ⟨7, (Try.f109.body.getD .skip), Try.f109.results.toList, []⟩) .nil .nil)) (.node (some ⟨8, (Try.f61.body.getD .skip), Try.f61.results.toList, []⟩) (.node (some ⟨31, (Try.f93.body.getD .skip), Try.f93.results.toList, []⟩) .nil .nil) .nil))))) (.node none (.node (some ⟨34, (Try.f4.body.getD .skip), Try.f4.results.toList, []⟩) (.node (some ⟨224, (Try.f8.body.getD .skip), Try.f8.results.toList, [12]⟩) (.node (some ⟨37, (Try.f16.body.getD .skip), Try.f16.results.toList, []⟩) (.node (some ⟨18, (Try.f32.body.getD .skip), Try.f32.results.toList, []⟩) (.node (some ⟨8, (Try.f64.body.getD .skip), Try.f64.results.toList, []⟩) .nil .nil) (.node (some ⟨26, (Try.f96.body.getD .skip), Try.f96.results.toList, []⟩) .nil .nil)) (.node (some ⟨25, (Try.f48.body.getD .skip), Try.f48.results.toList, []⟩) (.node (some ⟨134, (Try.f80.body.getD .skip), Try.f80.results.toList, []⟩) .nil .nil) (.node (some ⟨21, (Try.f112.body.getD .skip), Try.f112.results.toList, []⟩) .nil .nil))) (.node (some ⟨20, (Try.f24.body.getD .skip), Try.f24.results.toList, []⟩) (.node (some ⟨35, (Try.f40.body.getD .skip), Try.f40.results.toList, []⟩) (.node (some ⟨18, (Try.f72.body.getD .skip), Try.f72.results.toList, []⟩) .nil .nil) (.node (some ⟨16, (Try.f104.body.getD .skip), Try.f104.results.toList, []⟩) .nil .nil)) (.node (some ⟨29, (Try.f56.body.getD .skip), Try.f56.results.toList, []⟩) (.node (some ⟨56, (Try.f88.body.getD .skip), Try.f88.results.toList, []⟩) .nil .nil) .nil))) (.node (some ⟨148, (Try.f12.body.getD .skip), Try.f12.results.toList, []⟩) (.node (some ⟨36, (Try.f20.body.getD .skip), Try.f20.results.toList, []⟩) (.node (some ⟨47, (Try.f36.body.getD .skip), Try.f36.results.toList, []⟩) (.node (some ⟨8, (Try.f68.body.getD .skip), Try.f68.results.toList, []⟩) .nil .nil) (.node (some ⟨10, (Try.f100.body.getD .skip), Try.f100.results.toList, []⟩) .nil .nil)) (.node (some ⟨31, (Try.f52.body.getD .skip), Try.f52.results.toList, []⟩) (.node (some ⟨32, (Try.f84.body.getD .skip), Try.f84.results.toList, []⟩) .nil .nil) (.node (some ⟨5, (Try.f116.body.getD .skip), Try.f116.results.toList, []⟩) .nil .nil))) (.node (some ⟨36, (Try.f28.body.getD .skip), Try.f28.results.toList, []⟩) (.node (some ⟨24, (Try.f44.body.getD .skip), Try.f44.results.toList, []⟩) (.node (some ⟨8, (Try.f76.body.getD .skip), Try.f76.results.toList, []⟩) .nil .nil) (.node (some ⟨19, (Try.f108.body.getD .skip), Try.f108.results.toList, []⟩) .nil .nil)) (.node (some ⟨6, (Try.f60.body.getD .skip), Try.f60.results.toList, []⟩) (.node (some ⟨30, (Try.f92.body.getD .skip), Try.f92.results.toList, []⟩) .nil .nil) .nil)))) (.node (some ⟨152, (Try.f6.body.getD .skip), Try.f6.results.toList, []⟩) (.node (some ⟨88, (Try.f10.body.getD .skip), Try.f10.results.toList, []⟩) (.node (some ⟨7, (Try.f18.body.getD .skip), Try.f18.results.toList, []⟩) (.node (some ⟨24, (Try.f34.body.getD .skip), Try.f34.results.toList, []⟩) (.node (some ⟨39, (Try.f66.body.getD .skip), Try.f66.results.toList, []⟩) .nil .nil) (.node (some ⟨31, (Try.f98.body.getD .skip), Try.f98.results.toList, []⟩) .nil .nil)) (.node (some ⟨33, (Try.f50.body.getD .skip), Try.f50.results.toList, []⟩) (.node (some ⟨37, (Try.f82.body.getD .skip), Try.f82.results.toList, []⟩) .nil .nil) (.node (some ⟨9, (Try.f114.body.getD .skip), Try.f114.results.toList, []⟩) .nil .nil))) (.node (some ⟨23, (Try.f26.body.getD .skip), Try.f26.results.toList, []⟩) (.node (some ⟨27, (Try.f42.body.getD .skip), Try.f42.results.toList, []⟩) (.node (some ⟨51, (Try.f74.body.getD .skip), Try.f74.results.toList, []⟩) .nil .nil) (.node (some ⟨8, (Try.f106.body.getD .skip), Try.f106.results.toList, []⟩) .nil .nil)) (.node (some ⟨12, (Try.f58.body.getD .skip), Try.f58.results.toList, []⟩) (.node (some ⟨21, (Try.f90.body.getD .skip), Try.f90.results.toList, []⟩) .nil .nil) .nil))) (.node (some ⟨163, (Try.f14.body.getD .skip), Try.f14.results.toList, []⟩) (.node (some ⟨15, (Try.f22.body.getD .skip), Try.f22.results.toList, []⟩) (.node (some ⟨17, (Try.f38.body.getD .skip), Try.f38.results.toList, []⟩) (.node (some ⟨9, (Try.f70.body.getD .skip), Try.f70.results.toList, []⟩) .nil .nil) (.node (some ⟨13, (Try.f102.body.getD .skip), Try.f102.results.toList, []⟩) .nil .nil)) (.node (some ⟨32, (Try.f54.body.getD .skip), Try.f54.results.toList, []⟩) (.node (some ⟨13, (Try.f86.body.getD .skip), Try.f86.results.toList, []⟩) .nil .nil) (.node (some ⟨19, (Try.f118.body.getD .skip), Try.f118.results.toList, []⟩) .nil .nil))) (.node (some ⟨17, (Try.f30.body.getD .skip), Try.f30.results.toList, []⟩) (.node (some ⟨27, (Try.f46.body.getD .skip), Try.f46.results.toList, []⟩) (.node (some ⟨66, (Try.f78.body.getD .skip), Try.f78.results.toList, []⟩) .nil .nil) (.node (some ⟨62, (Try.f110.body.getD .skip), Try.f110.results.toList, []⟩) .nil .nil)) (.node (some ⟨8, (Try.f62.body.getD .skip), Try.f62.results.toList, []⟩) (.node (some ⟨32, (Try.f94.body.getD .skip), Try.f94.results.toList, []⟩) .nil .nil) .nil))))))
noncomputable def E : Env := ⟨E.tyTr.get, E.fnTr.get⟩
theorem E.ty1 : E.ty 1 = some ⟨0, 1, 8, [.nilf], 0, 0, [], .i64⟩ := rfl
theorem E.to1 : TyOk Try.prog 1 ⟨0, 1, 8, [.nilf], 0, 0, [], .i64⟩ := tyOk_of_mkTy (by kernel_rfl)
theorem E.ty2 : E.ty 2 = some ⟨1, 1, 8, [(.int .i64 0)], 0, 0, [], .i64⟩ := rfl
theorem E.to2 : TyOk Try.prog 2 ⟨1, 1, 8, [(.int .i64 0)], 0, 0, [], .i64⟩ := tyOk_of_mkTy (by kernel_rfl)
theorem E.ty3 : E.ty 3 = some ⟨1, 1, 8, [(.int .i64 0)], 0, 0, [], .i64⟩ := rfl
theorem E.to3 : TyOk Try.prog 3 ⟨1, 1, 8, [(.int .i64 0)], 0, 0, [], .i64⟩ := tyOk_of_mkTy (by kernel_rfl)
theorem E.ty4 : E.ty 4 = some ⟨2, 1, 1, [(.bool false)], 0, 0, [], .i64⟩ := rfl
theorem E.to4 : TyOk Try.prog 4 ⟨2, 1, 1, [(.bool false)], 0, 0, [], .i64⟩ := tyOk_of_mkTy (by kernel_rfl)
theorem E.ty5 : E.ty 5 = some ⟨1, 1, 1, [(.int .u8 0)], 0, 0, [], .u8⟩ := rfl
theorem E.to5 : TyOk Try.prog 5 ⟨1, 1, 1, [(.int .u8 0)], 0, 0, [], .u8⟩ := tyOk_of_mkTy (by kernel_rfl)
theorem E.ty6 : E.ty 6 = some ⟨1, 1, 1, [(.int .u8 0)], 0, 0, [], .u8⟩ := rfl
theorem E.to6 : TyOk Try.prog 6 ⟨1, 1, 1, [(.int .u8 0)], 0, 0, [], .u8⟩ := tyOk_of_mkTy (by kernel_rfl)
theorem E.ty7 : E.ty 7 = some ⟨6, 4, 24, [(.int .i64 0), (.int .i64 0), (.bool false), (.int .u8 0)], 0, 0, [(0, 2, 1), (1, 3, 1), (2, 4, 1), (3, 6, 1)], .i64⟩ := rfl
theorem E.to7 : TyOk Try.prog 7 ⟨6, 4, 24, [(.int .i64 0), (.int .i64 0), (.bool false), (.int .u8 0)], 0, 0, [(0, 2, 1), (1, 3, 1), (2, 4, 1), (3, 6, 1)], .i64⟩ := tyOk_of_mkTy (by kernel_rfl)
theorem E.ty8 : E.ty 8 = some ⟨6, 4, 24, [(.int .i64 0), (.int .i64 0), (.bool false), (.int .u8 0)], 0, 0, [(0, 2, 1), (1, 3, 1), (2, 4, 1), (3, 6, 1)], .i64⟩ := rfl
theorem E.to8 : TyOk Try.prog 8 ⟨6, 4, 24, [(.int .i64 0), (.int .i64 0), (.bool false), (.int .u8 0)], 0, 0, [(0, 2, 1), (1, 3, 1), (2, 4, 1), (3, 6, 1)], .i64⟩ := tyOk_of_mkTy (by kernel_rfl)
theorem E.ty9 : E.ty 9 = some ⟨3, 1, 16, [(.str [])], 0, 0, [], .i64⟩ := rfl
theorem E.to9 : TyOk Try.prog 9 ⟨3, 1, 16, [(.str [])], 0, 0, [], .i64⟩ := tyOk_of_mkTy (by kernel_rfl)
theorem E.ty10 : E.ty 10 = some ⟨3, 1, 16, [(.str [])], 0, 0, [], .i64⟩ := rfl
theorem E.to10 : TyOk Try.prog 10 ⟨3, 1, 16, [(.str [])], 0, 0, [], .i64⟩ := tyOk_of_mkTy (by kernel_rfl)
theorem E.ty11 : E.ty 11 = some ⟨3, 1, 16, [(.str [])], 0, 0, [], .i64⟩ := rfl
theorem E.to11 : TyOk Try.prog 11 ⟨3, 1, 16, [(.str [])], 0, 0, [], .i64⟩ := tyOk_of_mkTy (by kernel_rfl)
theorem E.ty12 : E.ty 12 = some ⟨1, 1, 8, [(.int .u64 0)], 0, 0, [], .u64⟩ := rfl
theorem E.to12 : TyOk Try.prog 12 ⟨1, 1, 8, [(.int .u64 0)], 0, 0, [], .u64⟩ := tyOk_of_mkTy (by kernel_rfl)
theorem E.ty15 : E.ty 15 = some ⟨7, 1, 8, [.nilp], 117, 0, [], .i64⟩ := rfl
theorem E.to15 : TyOk Try.prog 15 ⟨7, 1, 8, [.nilp], 117, 0, [], .i64⟩ := tyOk_of_mkTy (by kernel_rfl)
theorem E.ty16 : E.ty 16 = some ⟨7, 1, 8, [.nilp], 120, 0, [], .i64⟩ := rfl
theorem E.to16 : TyOk Try.prog 16 ⟨7, 1, 8, [.nilp], 120, 0, [], .i64⟩ := tyOk_of_mkTy (by kernel_rfl)
theorem E.ty17 : E.ty 17 = some ⟨7, 1, 8, [.nilp], 129, 0, [], .i64⟩ := rfl
theorem E.to17 : TyOk Try.prog 17 ⟨7, 1, 8, [.nilp], 129, 0, [], .i64⟩ := tyOk_of_mkTy (by kernel_rfl)
theorem E.ty20 : E.ty 20 = some ⟨0, 1, 16, [.undef], 0, 0, [], .i64⟩ := rfl
theorem E.to20 : TyOk Try.prog 20 ⟨0, 1, 16, [.undef], 0, 0, [], .i64⟩ := tyOk_of_mkTy (by kernel_rfl)
theorem E.ty21 : E.ty 21 = some ⟨1, 1, 4, [(.int .i32 0)], 0, 0, [], .i32⟩ := rfl
theorem E.to21 : TyOk Try.prog 21 ⟨1, 1, 4, [(.int .i32 0)], 0, 0, [], .i32⟩ := tyOk_of_mkTy (by kernel_rfl)
theorem E.ty22 : E.ty 22 = some ⟨1, 1, 2, [(.int .u16 0)], 0, 0, [], .u16⟩ := rfl
theorem E.to22 : TyOk Try.prog 22 ⟨1, 1, 2, [(.int .u16 0)], 0, 0, [], .u16⟩ := tyOk_of_mkTy (by kernel_rfl)
theorem E.ty23 : E.ty 23 = some ⟨1, 1, 8, [(.int .i64 0)], 0, 0, [], .i64⟩ := rfl
theorem E.to23 : TyOk Try.prog 23 ⟨1, 1, 8, [(.int .i64 0)], 0, 0, [], .i64⟩ := tyOk_of_mkTy (by kernel_rfl)
theorem E.ty25 : E.ty 25 = some ⟨0, 1, 8, [.nilf], 0, 0, [], .i64⟩ := rfl
theorem E.to25 : TyOk Try.prog 25 ⟨0, 1, 8, [.nilf], 0, 0, [], .i64⟩ := tyOk_of_mkTy (by kernel_rfl)
theorem E.ty26 : E.ty 26 = some ⟨4, 1, 24, [.nils], 22, 0, [], .i64⟩ := rfl
theorem E.to26 : TyOk Try.prog 26 ⟨4, 1, 24, [.nils], 22, 0, [], .i64⟩ := tyOk_of_mkTy (by kernel_rfl)
theorem E.ty28 : E.ty 28 = some ⟨0, 1, 8, [.nilf], 0, 0, [], .i64⟩ := rfl
theorem E.to28 : TyOk Try.prog 28 ⟨0, 1, 8, [.nilf], 0, 0, [], .i64⟩ := tyOk_of_mkTy (by kernel_rfl)
theorem E.ty29 : E.ty 29 = some ⟨0, 1, 8, [.nilf], 0, 0, [], .i64⟩ := rfl
theorem E.to29 : TyOk Try.prog 29 ⟨0, 1, 8, [.nilf], 0, 0, [], .i64⟩ := tyOk_of_mkTy (by kernel_rfl)
theorem E.ty30 : E.ty 30 = some ⟨0, 1, 8, [.nilf], 0, 0, [], .i64⟩ := rfl
theorem E.to30 : TyOk Try.prog 30 ⟨0, 1, 8, [.nilf], 0, 0, [], .i64⟩ := tyOk_of_mkTy (by kernel_rfl)
theorem E.ty31 : E.ty 31 = some ⟨4, 1, 24, [.nils], 3, 0, [], .i64⟩ := rfl
theorem E.to31 : TyOk Try.prog 31 ⟨4, 1, 24, [.nils], 3, 0, [], .i64⟩ := tyOk_of_mkTy (by kernel_rfl)
theorem E.ty32 : E.ty 32 = some ⟨0, 1, 8, [.nilf], 0, 0, [], .i64⟩ := rfl
theorem E.to32 : TyOk Try.prog 32 ⟨0, 1, 8, [.nilf], 0, 0, [], .i64⟩ := tyOk_of_mkTy (by kernel_rfl)
theorem E.ty33 : E.ty 33 = some ⟨0, 1, 8, [.nilf], 0, 0, [], .i64⟩ := rfl
theorem E.to33 : TyOk Try.prog 33 ⟨0, 1, 8, [.nilf], 0, 0, [], .i64⟩ := tyOk_of_mkTy (by kernel_rfl)
theorem E.ty34 : E.ty 34 = some ⟨0, 1, 8, [.nilf], 0, 0, [], .i64⟩ := rfl
theorem E.to34 : TyOk Try.prog 34 ⟨0, 1, 8, [.nilf], 0, 0, [], .i64⟩ := tyOk_of_mkTy (by kernel_rfl)
theorem E.ty35 : E.ty 35 = some ⟨0, 1, 8, [.nilf], 0, 0, [], .i64⟩ := rfl
theorem E.to35 : TyOk Try.prog 35 ⟨0, 1, 8, [.nilf], 0, 0, [], .i64⟩ := tyOk_of_mkTy (by kernel_rfl)
theorem E.ty36 : E.ty 36 = some ⟨4, 1, 24, [.nils], 40, 0, [], .i64⟩ := rfl
theorem E.to36 : TyOk Try.prog 36 ⟨4, 1, 24, [.nils], 40, 0, [], .i64⟩ := tyOk_of_mkTy (by kernel_rfl)
theorem E.ty37 : E.ty 37 = some ⟨7, 1, 8, [.nilp], 102, 0, [], .i64⟩ := rfl
theorem E.to37 : TyOk Try.prog 37 ⟨7, 1, 8, [.nilp], 102, 0, [], .i64⟩ := tyOk_of_mkTy (by kernel_rfl)
theorem E.ty39 : E.ty 39 = some ⟨0, 1, 8, [.nilf], 0, 0, [], .i64⟩ := rfl
theorem E.to39 : TyOk Try.prog 39 ⟨0, 1, 8, [.nilf], 0, 0, [], .i64⟩ := tyOk_of_mkTy (by kernel_rfl)
theorem E.ty40 : E.ty 40 = some ⟨5, 2, 16, [(.int .i64 0), (.int .i64 0)], 3, 2, [], .i64⟩ := rfl
theorem E.to40 : TyOk Try.prog 40 ⟨5, 2, 16, [(.int .i64 0), (.int .i64 0)], 3, 2, [], .i64⟩ := tyOk_of_mkTy (by kernel_rfl)
theorem E.ty41 : E.ty 41 = some ⟨0, 1, 8, [.nilf], 0, 0, [], .i64⟩ := rfl
theorem E.to41 : TyOk Try.prog 41 ⟨0, 1, 8, [.nilf], 0, 0, [], .i64⟩ := tyOk_of_mkTy (by kernel_rfl)
theorem E.ty42 : E.ty 42 = some ⟨0, 1, 8, [.nilf], 0, 0, [], .i64⟩ := rfl
theorem E.to42 : TyOk Try.prog 42 ⟨0, 1, 8, [.nilf], 0, 0, [], .i64⟩ := tyOk_of_mkTy (by kernel_rfl)
theorem E.ty43 : E.ty 43 = some ⟨0, 1, 8, [.nilf], 0, 0, [], .i64⟩ := rfl
theorem E.to43 : TyOk Try.prog 43 ⟨0, 1, 8, [.nilf], 0, 0, [], .i64⟩ := tyOk_of_mkTy (by kernel_rfl)
theorem E.ty44 : E.ty 44 = some ⟨0, 1, 8, [.nilf], 0, 0, [], .i64⟩ := rfl
theorem E.to44 : TyOk Try.prog 44 ⟨0, 1, 8, [.nilf], 0, 0, [], .i64⟩ := tyOk_of_mkTy (by kernel_rfl)
theorem E.ty46 : E.ty 46 = some ⟨0, 1, 8, [.nilf], 0, 0, [], .i64⟩ := rfl
theorem E.to46 : TyOk Try.prog 46 ⟨0, 1, 8, [.nilf], 0, 0, [], .i64⟩ := tyOk_of_mkTy (by kernel_rfl)
theorem E.ty47 : E.ty 47 = some ⟨0, 1, 8, [.nilf], 0, 0, [], .i64⟩ := rfl
theorem E.to47 : TyOk Try.prog 47 ⟨0, 1, 8, [.nilf], 0, 0, [], .i64⟩ := tyOk_of_mkTy (by kernel_rfl)
theorem E.ty48 : E.ty 48 = some ⟨0, 1, 8, [.nilf], 0, 0, [], .i64⟩ := rfl
theorem E.to48 : TyOk Try.prog 48 ⟨0, 1, 8, [.nilf], 0, 0, [], .i64⟩ := tyOk_of_mkTy (by kernel_rfl)
theorem E.ty49 : E.ty 49 = some ⟨0, 1, 8, [.nilf], 0, 0, [], .i64⟩ := rfl
theorem E.to49 : TyOk Try.prog 49 ⟨0, 1, 8, [.nilf], 0, 0, [], .i64⟩ := tyOk_of_mkTy (by kernel_rfl)
theorem E.ty51 : E.ty 51 = some ⟨0, 1, 8, [.nilf], 0, 0, [], .i64⟩ := rfl
theorem E.to51 : TyOk Try.prog 51 ⟨0, 1, 8, [.nilf], 0, 0, [], .i64⟩ := tyOk_of_mkTy (by kernel_rfl)
theorem E.ty52 : E.ty 52 = some ⟨0, 1, 8, [.nilf], 0, 0, [], .i64⟩ := rfl
theorem E.to52 : TyOk Try.prog 52 ⟨0, 1, 8, [.nilf], 0, 0, [], .i64⟩ := tyOk_of_mkTy (by kernel_rfl)
theorem E.ty53 : E.ty 53 = some ⟨0, 1, 8, [.nilf], 0, 0, [], .i64⟩ := rfl
theorem E.to53 : TyOk Try.prog 53 ⟨0, 1, 8, [.nilf], 0, 0, [], .i64⟩ := tyOk_of_mkTy (by kernel_rfl)
theorem E.ty54 : E.ty 54 = some ⟨0, 1, 8, [.nilf], 0, 0, [], .i64⟩ := rfl
theorem E.to54 : TyOk Try.prog 54 ⟨0, 1, 8, [.nilf], 0, 0, [], .i64⟩ := tyOk_of_mkTy (by kernel_rfl)
theorem E.ty55 : E.ty 55 = some ⟨6, 2, 16, [(.int .i64 0), (.int .i64 0)], 0, 0, [(0, 3, 1), (1, 3, 1)], .i64⟩ := rfl
theorem E.to55 : TyOk Try.prog 55 ⟨6, 2, 16, [(.int .i64 0), (.int .i64 0)], 0, 0, [(0, 3, 1), (1, 3, 1)], .i64⟩ := tyOk_of_mkTy (by kernel_rfl)
theorem E.ty56 : E.ty 56 = some ⟨6, 2, 16, [(.int .i64 0), (.int .i64 0)], 0, 0, [(0, 3, 1), (1, 3, 1)], .i64⟩ := rfl
theorem E.to56 : TyOk Try.prog 56 ⟨6, 2, 16, [(.int .i64 0), (.int .i64 0)], 0, 0, [(0, 3, 1), (1, 3, 1)], .i64⟩ := tyOk_of_mkTy (by kernel_rfl)
theorem E.ty58 : E.ty 58 = some ⟨0, 1, 8, [.nilf], 0, 0, [], .i64⟩ := rfl
theorem E.to58 : TyOk Try.prog 58 ⟨0, 1, 8, [.nilf], 0, 0, [], .i64⟩ := tyOk_of_mkTy (by kernel_rfl)
theorem E.ty59 : E.ty 59 = some ⟨0, 1, 8, [.nilf], 0, 0, [], .i64⟩ := rfl
theorem E.to59 : TyOk Try.prog 59 ⟨0, 1, 8, [.nilf], 0, 0, [], .i64⟩ := tyOk_of_mkTy (by kernel_rfl)
theorem E.ty61 : E.ty 61 = some ⟨0, 1, 8, [.nilf], 0, 0, [], .i64⟩ := rfl
theorem E.to61 : TyOk Try.prog 61 ⟨0, 1, 8, [.nilf], 0, 0, [], .i64⟩ := tyOk_of_mkTy (by kernel_rfl)
theorem E.ty62 : E.ty 62 = some ⟨0, 1, 8, [.nilf], 0, 0, [], .i64⟩ := rfl
theorem E.to62 : TyOk Try.prog 62 ⟨0, 1, 8, [.nilf], 0, 0, [], .i64⟩ := tyOk_of_mkTy (by kernel_rfl)
theorem E.ty63 : E.ty 63 = some ⟨0, 1, 8, [.nilf], 0, 0, [], .i64⟩ := rfl
theorem E.to63 : TyOk Try.prog 63 ⟨0, 1, 8, [.nilf], 0, 0, [], .i64⟩ := tyOk_of_mkTy (by kernel_rfl)
theorem E.ty64 : E.ty 64 = some ⟨0, 1, 8, [.nilf], 0, 0, [], .i64⟩ := rfl
theorem E.to64 : TyOk Try.prog 64 ⟨0, 1, 8, [.nilf], 0, 0, [], .i64⟩ := tyOk_of_mkTy (by kernel_rfl)
theorem E.ty66 : E.ty 66 = some ⟨0, 1, 8, [.nilf], 0, 0, [], .i64⟩ := rfl
theorem E.to66 : TyOk Try.prog 66 ⟨0, 1, 8, [.nilf], 0, 0, [], .i64⟩ := tyOk_of_mkTy (by kernel_rfl)
theorem E.ty67 : E.ty 67 = some ⟨0, 1, 8, [.nilf], 0, 0, [], .i64⟩ := rfl
theorem E.to67 : TyOk Try.prog 67 ⟨0, 1, 8, [.nilf], 0, 0, [], .i64⟩ := tyOk_of_mkTy (by kernel_rfl)
theorem E.ty68 : E.ty 68 = some ⟨0, 1, 8, [.nilf], 0, 0, [], .i64⟩ := rfl
theorem E.to68 : TyOk Try.prog 68 ⟨0, 1, 8, [.nilf], 0, 0, [], .i64⟩ := tyOk_of_mkTy (by kernel_rfl)
theorem E.ty69 : E.ty 69 = some ⟨0, 1, 8, [.nilf], 0, 0, [], .i64⟩ := rfl
theorem E.to69 : TyOk Try.prog 69 ⟨0, 1, 8, [.nilf], 0, 0, [], .i64⟩ := tyOk_of_mkTy (by kernel_rfl)
theorem E.ty70 : E.ty 70 = some ⟨0, 1, 8, [.nilf], 0, 0, [], .i64⟩ := rfl
theorem E.to70 : TyOk Try.prog 70 ⟨0, 1, 8, [.nilf], 0, 0, [], .i64⟩ := tyOk_of_mkTy (by kernel_rfl)
theorem E.ty71 : E.ty 71 = some ⟨0, 1, 8, [.nilf], 0, 0, [], .i64⟩ := rfl
theorem E.to71 : TyOk Try.prog 71 ⟨0, 1, 8, [.nilf], 0, 0, [], .i64⟩ := tyOk_of_mkTy (by kernel_rfl)
theorem E.ty72 : E.ty 72 = some ⟨0, 1, 8, [.nilf], 0, 0, [], .i64⟩ := rfl
theorem E.to72 : TyOk Try.prog 72 ⟨0, 1, 8, [.nilf], 0, 0, [], .i64⟩ := tyOk_of_mkTy (by kernel_rfl)
theorem E.ty73 : E.ty 73 = some ⟨0, 1, 8, [.nilf], 0, 0, [], .i64⟩ := rfl
theorem E.to73 : TyOk Try.prog 73 ⟨0, 1, 8, [.nilf], 0, 0, [], .i64⟩ := tyOk_of_mkTy (by kernel_rfl)
theorem E.ty74 : E.ty 74 = some ⟨0, 1, 8, [.nilf], 0, 0, [], .i64⟩ := rfl
theorem E.to74 : TyOk Try.prog 74 ⟨0, 1, 8, [.nilf], 0, 0, [], .i64⟩ := tyOk_of_mkTy (by kernel_rfl)
theorem E.ty75 : E.ty 75 = some ⟨0, 1, 8, [.nilf], 0, 0, [], .i64⟩ := rfl
theorem E.to75 : TyOk Try.prog 75 ⟨0, 1, 8, [.nilf], 0, 0, [], .i64⟩ := tyOk_of_mkTy (by kernel_rfl)
theorem E.ty76 : E.ty 76 = some ⟨0, 1, 8, [.nilf], 0, 0, [], .i64⟩ := rfl
theorem E.to76 : TyOk Try.prog 76 ⟨0, 1, 8, [.nilf], 0, 0, [], .i64⟩ := tyOk_of_mkTy (by kernel_rfl)
theorem E.ty77 : E.ty 77 = some ⟨4, 1, 24, [.nils], 5, 0, [], .i64⟩ := rfl
theorem E.to77 : TyOk Try.prog 77 ⟨4, 1, 24, [.nils], 5, 0, [], .i64⟩ := tyOk_of_mkTy (by kernel_rfl)
theorem E.ty79 : E.ty 79 = some ⟨0, 1, 8, [.nilf], 0, 0, [], .i64⟩ := rfl
theorem E.to79 : TyOk Try.prog 79 ⟨0, 1, 8, [.nilf], 0, 0, [], .i64⟩ := tyOk_of_mkTy (by kernel_rfl)
theorem E.ty81 : E.ty 81 = some ⟨0, 1, 8, [.nilf], 0, 0, [], .i64⟩ := rfl
theorem E.to81 : TyOk Try.prog 81 ⟨0, 1, 8, [.nilf], 0, 0, [], .i64⟩ := tyOk_of_mkTy (by kernel_rfl)
theorem E.ty82 : E.ty 82 = some ⟨0, 1, 8, [.nilf], 0, 0, [], .i64⟩ := rfl
theorem E.to82 : TyOk Try.prog 82 ⟨0, 1, 8, [.nilf], 0, 0, [], .i64⟩ := tyOk_of_mkTy (by kernel_rfl)
theorem E.ty83 : E.ty 83 = some ⟨0, 1, 8, [.nilf], 0, 0, [], .i64⟩ := rfl
theorem E.to83 : TyOk Try.prog 83 ⟨0, 1, 8, [.nilf], 0, 0, [], .i64⟩ := tyOk_of_mkTy (by kernel_rfl)
theorem E.ty84 : E.ty 84 = some ⟨4, 1, 24, [.nils], 90, 0, [], .i64⟩ := rfl
theorem E.to84 : TyOk Try.prog 84 ⟨4, 1, 24, [.nils], 90, 0, [], .i64⟩ := tyOk_of_mkTy (by kernel_rfl)
theorem E.ty86 : E.ty 86 = some ⟨0, 1, 8, [.nilf], 0, 0, [], .i64⟩ := rfl
theorem E.to86 : TyOk Try.prog 86 ⟨0, 1, 8, [.nilf], 0, 0, [], .i64⟩ := tyOk_of_mkTy (by kernel_rfl)
theorem E.ty87 : E.ty 87 = some ⟨0, 1, 8, [.nilf], 0, 0, [], .i64⟩ := rfl
theorem E.to87 : TyOk Try.prog 87 ⟨0, 1, 8, [.nilf], 0, 0, [], .i64⟩ := tyOk_of_mkTy (by kernel_rfl)
theorem E.ty88 : E.ty 88 = some ⟨0, 1, 8, [.nilf], 0, 0, [], .i64⟩ := rfl
theorem E.to88 : TyOk Try.prog 88 ⟨0, 1, 8, [.nilf], 0, 0, [], .i64⟩ := tyOk_of_mkTy (by kernel_rfl)
theorem E.ty89 : E.ty 89 = some ⟨6, 2, 16, [(.int .i64 0), (.int .i64 0)], 0, 0, [(0, 3, 1), (1, 3, 1)], .i64⟩ := rfl
theorem E.to89 : TyOk Try.prog 89 ⟨6, 2, 16, [(.int .i64 0), (.int .i64 0)], 0, 0, [(0, 3, 1), (1, 3, 1)], .i64⟩ := tyOk_of_mkTy (by kernel_rfl)
theorem E.ty90 : E.ty 90 = some ⟨6, 2, 16, [(.int .i64 0), (.int .i64 0)], 0, 0, [(0, 3, 1), (1, 3, 1)], .i64⟩ := rfl
theorem E.to90 : TyOk Try.prog 90 ⟨6, 2, 16, [(.int .i64 0), (.int .i64 0)], 0, 0, [(0, 3, 1), (1, 3, 1)], .i64⟩ := tyOk_of_mkTy (by kernel_rfl)
theorem E.ty92 : E.ty 92 = some ⟨0, 1, 8, [.nilf], 0, 0, [], .i64⟩ := rfl
theorem E.to92 : TyOk Try.prog 92 ⟨0, 1, 8, [.nilf], 0, 0, [], .i64⟩ := tyOk_of_mkTy (by kernel_rfl)
theorem E.ty93 : E.ty 93 = some ⟨0, 1, 8, [.nilf], 0, 0, [], .i64⟩ := rfl
theorem E.to93 : TyOk Try.prog 93 ⟨0, 1, 8, [.nilf], 0, 0, [], .i64⟩ := tyOk_of_mkTy (by kernel_rfl)
theorem E.ty94 : E.ty 94 = some ⟨0, 1, 8, [.nilf], 0, 0, [], .i64⟩ := rfl
theorem E.to94 : TyOk Try.prog 94 ⟨0, 1, 8, [.nilf], 0, 0, [], .i64⟩ := tyOk_of_mkTy (by kernel_rfl)
theorem E.ty96 : E.ty 96 = some ⟨0, 1, 8, [.nilf], 0, 0, [], .i64⟩ := rfl
theorem E.to96 : TyOk Try.prog 96 ⟨0, 1, 8, [.nilf], 0, 0, [], .i64⟩ := tyOk_of_mkTy (by kernel_rfl)
theorem E.ty97 : E.ty 97 = some ⟨0, 1, 8, [.nilf], 0, 0, [], .i64⟩ := rfl
theorem E.to97 : TyOk Try.prog 97 ⟨0, 1, 8, [.nilf], 0, 0, [], .i64⟩ := tyOk_of_mkTy (by kernel_rfl)
theorem E.ty98 : E.ty 98 = some ⟨0, 1, 8, [.nilf], 0, 0, [], .i64⟩ := rfl
theorem E.to98 : TyOk Try.prog 98 ⟨0, 1, 8, [.nilf], 0, 0, [], .i64⟩ := tyOk_of_mkTy (by kernel_rfl)
theorem E.ty99 : E.ty 99 = some ⟨0, 1, 8, [.nilf], 0, 0, [], .i64⟩ := rfl
theorem E.to99 : TyOk Try.prog 99 ⟨0, 1, 8, [.nilf], 0, 0, [], .i64⟩ := tyOk_of_mkTy (by kernel_rfl)
theorem E.ty100 : E.ty 100 = some ⟨1, 1, 8, [(.int .u64 0)], 0, 0, [], .u64⟩ := rfl
theorem E.to100 : TyOk Try.prog 100 ⟨1, 1, 8, [(.int .u64 0)], 0, 0, [], .u64⟩ := tyOk_of_mkTy (by kernel_rfl)
theorem E.ty101 : E.ty 101 = some ⟨6, 1, 24, [.nils], 0, 0, [(0, 31, 1)], .i64⟩ := rfl
theorem E.to101 : TyOk Try.prog 101 ⟨6, 1, 24, [.nils], 0, 0, [(0, 31, 1)], .i64⟩ := tyOk_of_mkTy (by kernel_rfl)
theorem E.ty102 : E.ty 102 = some ⟨6, 1, 24, [.nils], 0, 0, [(0, 31, 1)], .i64⟩ := rfl
theorem E.to102 : TyOk Try.prog 102 ⟨6, 1, 24, [.nils], 0, 0, [(0, 31, 1)], .i64⟩ := tyOk_of_mkTy (by kernel_rfl)
theorem E.ty103 : E.ty 103 = some ⟨1, 1, 4, [(.int .u32 0)], 0, 0, [], .u32⟩ := rfl
theorem E.to103 : TyOk Try.prog 103 ⟨1, 1, 4, [(.int .u32 0)], 0, 0, [], .u32⟩ := tyOk_of_mkTy (by kernel_rfl)
theorem E.ty104 : E.ty 104 = some ⟨0, 1, 8, [.nilf], 0, 0, [], .i64⟩ := rfl
theorem E.to104 : TyOk Try.prog 104 ⟨0, 1, 8, [.nilf], 0, 0, [], .i64⟩ := tyOk_of_mkTy (by kernel_rfl)
theorem E.ty105 : E.ty 105 = some ⟨0, 1, 8, [.nilf], 0, 0, [], .i64⟩ := rfl
theorem E.to105 : TyOk Try.prog 105 ⟨0, 1, 8, [.nilf], 0, 0, [], .i64⟩ := tyOk_of_mkTy (by kernel_rfl)
theorem E.ty106 : E.ty 106 = some ⟨0, 1, 8, [.nilf], 0, 0, [], .i64⟩ := rfl
theorem E.to106 : TyOk Try.prog 106 ⟨0, 1, 8, [.nilf], 0, 0, [], .i64⟩ := tyOk_of_mkTy (by kernel_rfl)
theorem E.ty107 : E.ty 107 = some ⟨0, 1, 8, [.nilf], 0, 0, [], .i64⟩ := rfl
theorem E.to107 : TyOk Try.prog 107 ⟨0, 1, 8, [.nilf], 0, 0, [], .i64⟩ := tyOk_of_mkTy (by kernel_rfl)
theorem E.ty108 : E.ty 108 = some ⟨0, 1, 8, [.nilf], 0, 0, [], .i64⟩ := rfl
theorem E.to108 : TyOk Try.prog 108 ⟨0, 1, 8, [.nilf], 0, 0, [], .i64⟩ := tyOk_of_mkTy (by kernel_rfl)
theorem E.ty109 : E.ty 109 = some ⟨4, 1, 24, [.nils], 31, 0, [], .i64⟩ := rfl
theorem E.to109 : TyOk Try.prog 109 ⟨4, 1, 24, [.nils], 31, 0, [], .i64⟩ := tyOk_of_mkTy (by kernel_rfl)
theorem E.ty110 : E.ty 110 = some ⟨0, 1, 8, [.nilf], 0, 0, [], .i64⟩ := rfl
theorem E.to110 : TyOk Try.prog 110 ⟨0, 1, 8, [.nilf], 0, 0, [], .i64⟩ := tyOk_of_mkTy (by kernel_rfl)
theorem E.ty111 : E.ty 111 = some ⟨0, 1, 8, [.nilf], 0, 0, [], .i64⟩ := rfl
theorem E.to111 : TyOk Try.prog 111 ⟨0, 1, 8, [.nilf], 0, 0, [], .i64⟩ := tyOk_of_mkTy (by kernel_rfl)
theorem E.ty112 : E.ty 112 = some ⟨5, 10, 10, (List.replicate 10 (.bool false)), 4, 10, [], .i64⟩ := rfl
theorem E.to112 : TyOk Try.prog 112 ⟨5, 10, 10, (List.replicate 10 (.bool false)), 4, 10, [], .i64⟩ := tyOk_of_mkTy (by kernel_rfl)
theorem E.ty113 : E.ty 113 = some ⟨0, 1, 8, [.nilf], 0, 0, [], .i64⟩ := rfl
theorem E.to113 : TyOk Try.prog 113 ⟨0, 1, 8, [.nilf], 0, 0, [], .i64⟩ := tyOk_of_mkTy (by kernel_rfl)
theorem E.ty114 : E.ty 114 = some ⟨0, 1, 8, [.nilf], 0, 0, [], .i64⟩ := rfl
theorem E.to114 : TyOk Try.prog 114 ⟨0, 1, 8, [.nilf], 0, 0, [], .i64⟩ := tyOk_of_mkTy (by kernel_rfl)
theorem E.ty115 : E.ty 115 = some ⟨0, 1, 8, [.nilf], 0, 0, [], .i64⟩ := rfl
theorem E.to115 : TyOk Try.prog 115 ⟨0, 1, 8, [.nilf], 0, 0, [], .i64⟩ := tyOk_of_mkTy (by kernel_rfl)
theorem E.ty118 : E.ty 118 = some ⟨5, 0, 0, [], 16, 0, [], .i64⟩ := rfl
theorem E.to118 : TyOk Try.prog 118 ⟨5, 0, 0, [], 16, 0, [], .i64⟩ := tyOk_of_mkTy (by kernel_rfl)
theorem E.ty121 : E.ty 121 = some ⟨0, 1, 8, [.nilf], 0, 0, [], .i64⟩ := rfl
theorem E.to121 : TyOk Try.prog 121 ⟨0, 1, 8, [.nilf], 0, 0, [], .i64⟩ := tyOk_of_mkTy (by kernel_rfl)
theorem E.ty122 : E.ty 122 = some ⟨1, 1, 1, [(.int .u8 0)], 0, 0, [], .u8⟩ := rfl
theorem E.to122 : TyOk Try.prog 122 ⟨1, 1, 1, [(.int .u8 0)], 0, 0, [], .u8⟩ := tyOk_of_mkTy (by kernel_rfl)
theorem E.ty123 : E.ty 123 = some ⟨1, 1, 1, [(.int .u8 0)], 0, 0, [], .u8⟩ := rfl
theorem E.to123 : TyOk Try.prog 123 ⟨1, 1, 1, [(.int .u8 0)], 0, 0, [], .u8⟩ := tyOk_of_mkTy (by kernel_rfl)
theorem E.ty124 : E.ty 124 = some ⟨0, 1, 8, [.nilf], 0, 0, [], .i64⟩ := rfl
theorem E.to124 : TyOk Try.prog 124 ⟨0, 1, 8, [.nilf], 0, 0, [], .i64⟩ := tyOk_of_mkTy (by kernel_rfl)
theorem E.ty125 : E.ty 125 = some ⟨7, 1, 8, [.nilp], 5, 0, [], .i64⟩ := rfl
theorem E.to125 : TyOk Try.prog 125 ⟨7, 1, 8, [.nilp], 5, 0, [], .i64⟩ := tyOk_of_mkTy (by kernel_rfl)
theorem E.ty126 : E.ty 126 = some ⟨1, 1, 4, [(.int .i32 0)], 0, 0, [], .i32⟩ := rfl
theorem E.to126 : TyOk Try.prog 126 ⟨1, 1, 4, [(.int .i32 0)], 0, 0, [], .i32⟩ := tyOk_of_mkTy (by kernel_rfl)
theorem E.ty127 : E.ty 127 = some ⟨1, 1, 4, [(.int .i32 0)], 0, 0, [], .i32⟩ := rfl
theorem E.to127 : TyOk Try.prog 127 ⟨1, 1, 4, [(.int .i32 0)], 0, 0, [], .i32⟩ := tyOk_of_mkTy (by kernel_rfl)
theorem E.ty130 : E.ty 130 = some ⟨0, 1, 8, [.nilp], 0, 0, [], .i64⟩ := rfl
theorem E.to130 : TyOk Try.prog 130 ⟨0, 1, 8, [.nilp], 0, 0, [], .i64⟩ := tyOk_of_mkTy (by kernel_rfl)
theorem E.fo3 : FnOk Try.prog 3 ⟨110, (Try.f3.body.getD .skip), Try.f3.results.toList, []⟩ := ⟨Try.f3, Try.func3, rfl, rfl, rfl, by kernel_rfl, by kernel_rfl, by kernel_rfl⟩
theorem E.fo4 : FnOk Try.prog 4 ⟨34, (Try.f4.body.getD .skip), Try.f4.results.toList, []⟩ := ⟨Try.f4, Try.func4, rfl, rfl, rfl, by kernel_rfl, by kernel_rfl, by kernel_rfl⟩
theorem E.fo5 : FnOk Try.prog 5 ⟨202, (Try.f5.body.getD .skip), Try.f5.results.toList, []⟩ := ⟨Try.f5, Try.func5, rfl, rfl, rfl, by kernel_rfl, by kernel_rfl, by kernel_rfl⟩
theorem E.fo6 : FnOk Try.prog 6 ⟨152, (Try.f6.body.getD .skip), Try.f6.results.toList, []⟩ := ⟨Try.f6, Try.func6, rfl, rfl, rfl, by kernel_rfl, by kernel_rfl, by kernel_rfl⟩
theorem E.fo7 : FnOk Try.prog 7 ⟨132, (Try.f7.body.getD .skip), Try.f7.results.toList, []⟩ := ⟨Try.f7, Try.func7, rfl, rfl, rfl, by kernel_rfl, by kernel_rfl, by kernel_rfl⟩
theorem E.fo8 : FnOk Try.prog 8 ⟨224, (Try.f8.body.getD .skip), Try.f8.results.toList, [12]⟩ := ⟨Try.f8, Try.func8, rfl, rfl, rfl, by kernel_rfl, by kernel_rfl, by kernel_rfl⟩
theorem E.fo9 : FnOk Try.prog 9 ⟨149, (Try.f9.body.getD .skip), Try.f9.results.toList, []⟩ := ⟨Try.f9, Try.func9, rfl, rfl, rfl, by kernel_rfl, by kernel_rfl, by kernel_rfl⟩
theorem E.fo10 : FnOk Try.prog 10 ⟨88, (Try.f10.body.getD .skip), Try.f10.results.toList, []⟩ := ⟨Try.f10, Try.func10, rfl, rfl, rfl, by kernel_rfl, by kernel_rfl, by kernel_rfl⟩
theorem E.fo11 : FnOk Try.prog 11 ⟨133, (Try.f11.body.getD .skip), Try.f11.results.toList, []⟩ := ⟨Try.f11, Try.func11, rfl, rfl, rfl, by kernel_rfl, by kernel_rfl, by kernel_rfl⟩
theorem E.fo12 : FnOk Try.prog 12 ⟨148, (Try.f12.body.getD .skip), Try.f12.results.toList, []⟩ := ⟨Try.f12, Try.func12, rfl, rfl, rfl, by kernel_rfl, by kernel_rfl, by kernel_rfl⟩
theorem E.fo13 : FnOk Try.prog 13 ⟨183, (Try.f13.body.getD .skip), Try.f13.results.toList, []⟩ := ⟨Try.f13, Try.func13, rfl, rfl, rfl, by kernel_rfl, by kernel_rfl, by kernel_rfl⟩
theorem E.fo14 : FnOk Try.prog 14 ⟨163, (Try.f14.body.getD .skip), Try.f14.results.toList, []⟩ := ⟨Try.f14, Try.func14, rfl, rfl, rfl, by kernel_rfl, by kernel_rfl, by kernel_rfl⟩
theorem E.fo15 : FnOk Try.prog 15 ⟨15, (Try.f15.body.getD .skip), Try.f15.results.toList, []⟩ := ⟨Try.f15, Try.func15, rfl, rfl, rfl, by kernel_rfl, by kernel_rfl, by kernel_rfl⟩
theorem E.fo16 : FnOk Try.prog 16 ⟨37, (Try.f16.body.getD .skip), Try.f16.results.toList, []⟩ := ⟨Try.f16, Try.func16, rfl, rfl, rfl, by kernel_rfl, by kernel_rfl, by kernel_rfl⟩
theorem E.fo17 : FnOk Try.prog 17 ⟨14, (Try.f17.body.getD .skip), Try.f17.results.toList, []⟩ := ⟨Try.f17, Try.func17, rfl, rfl, rfl, by kernel_rfl, by kernel_rfl, by kernel_rfl⟩
theorem E.fo18 : FnOk Try.prog 18 ⟨7, (Try.f18.body.getD .skip), Try.f18.results.toList, []⟩ := ⟨Try.f18, Try.func18, rfl, rfl, rfl, by kernel_rfl, by kernel_rfl, by kernel_rfl⟩
theorem E.fo19 : FnOk Try.prog 19 ⟨88, (Try.f19.body.getD .skip), Try.f19.results.toList, []⟩ := ⟨Try.f19, Try.func19, rfl, rfl, rfl, by kernel_rfl, by kernel_rfl, by kernel_rfl⟩
theorem E.fo20 : FnOk Try.prog 20 ⟨36, (Try.f20.body.getD .skip), Try.f20.results.toList, []⟩ := ⟨Try.f20, Try.func20, rfl, rfl, rfl, by kernel_rfl, by kernel_rfl, by kernel_rfl⟩
theorem E.fo21 : FnOk Try.prog 21 ⟨61, (Try.f21.body.getD .skip), Try.f21.results.toList, []⟩ := ⟨Try.f21, Try.func21, rfl, rfl, rfl, by kernel_rfl, by kernel_rfl, by kernel_rfl⟩
theorem E.fo22 : FnOk Try.prog 22 ⟨15, (Try.f22.body.getD .skip), Try.f22.results.toList, []⟩ := ⟨Try.f22, Try.func22, rfl, rfl, rfl, by kernel_rfl, by kernel_rfl, by kernel_rfl⟩
theorem E.fo23 : FnOk Try.prog 23 ⟨70, (Try.f23.body.getD .skip), Try.f23.results.toList, []⟩ := ⟨Try.f23, Try.func23, rfl, rfl, rfl, by kernel_rfl, by kernel_rfl, by kernel_rfl⟩
theorem E.fo24 : FnOk Try.prog 24 ⟨20, (Try.f24.body.getD .skip), Try.f24.results.toList, []⟩ := ⟨Try.f24, Try.func24, rfl, rfl, rfl, by kernel_rfl, by kernel_rfl, by kernel_rfl⟩
theorem E.fo25 : FnOk Try.prog 25 ⟨57, (Try.f25.body.getD .skip), Try.f25.results.toList, []⟩ := ⟨Try.f25, Try.func25, rfl, rfl, rfl, by kernel_rfl, by kernel_rfl, by kernel_rfl⟩
theorem E.fo26 : FnOk Try.prog 26 ⟨23, (Try.f26.body.getD .skip), Try.f26.results.toList, []⟩ := ⟨Try.f26, Try.func26, rfl, rfl, rfl, by kernel_rfl, by kernel_rfl, by kernel_rfl⟩
theorem E.fo27 : FnOk Try.prog 27 ⟨45, (Try.f27.body.getD .skip), Try.f27.results.toList, []⟩ := ⟨Try.f27, Try.func27, rfl, rfl, rfl, by kernel_rfl, by kernel_rfl, by kernel_rfl⟩
theorem E.fo28 : FnOk Try.prog 28 ⟨36, (Try.f28.body.getD .skip), Try.f28.results.toList, []⟩ := ⟨Try.f28, Try.func28, rfl, rfl, rfl, by kernel_rfl, by kernel_rfl, by kernel_rfl⟩
theorem E.fo29 : FnOk Try.prog 29 ⟨13, (Try.f29.body.getD .skip), Try.f29.results.toList, []⟩ := ⟨Try.f29, Try.func29, rfl, rfl, rfl, by kernel_rfl, by kernel_rfl, by kernel_rfl⟩
theorem E.fo30 : FnOk Try.prog 30 ⟨17, (Try.f30.body.getD .skip), Try.f30.results.toList, []⟩ := ⟨Try.f30, Try.func30, rfl, rfl, rfl, by kernel_rfl, by kernel_rfl, by kernel_rfl⟩
theorem E.fo31 : FnOk Try.prog 31 ⟨23, (Try.f31.body.getD .skip), Try.f31.results.toList, []⟩ := ⟨Try.f31, Try.func31, rfl, rfl, rfl, by kernel_rfl, by kernel_rfl, by kernel_rfl⟩
theorem E.fo32 : FnOk Try.prog 32 ⟨18, (Try.f32.body.getD .skip), Try.f32.results.toList, []⟩ := ⟨Try.f32, Try.func32, rfl, rfl, rfl, by kernel_rfl, by kernel_rfl, by kernel_rfl⟩
theorem E.fo33 : FnOk Try.prog 33 ⟨50, (Try.f33.body.getD .skip), Try.f33.results.toList, []⟩ := ⟨Try.f33, Try.func33, rfl, rfl, rfl, by kernel_rfl, by kernel_rfl, by kernel_rfl⟩
theorem E.fo34 : FnOk Try.prog 34 ⟨24, (Try.f34.body.getD .skip), Try.f34.results.toList, []⟩ := ⟨Try.f34, Try.func34, rfl, rfl, rfl, by kernel_rfl, by kernel_rfl, by kernel_rfl⟩
theorem E.fo35 : FnOk Try.prog 35 ⟨29, (Try.f35.body.getD .skip), Try.f35.results.toList, []⟩ := ⟨Try.f35, Try.func35, rfl, rfl, rfl, by kernel_rfl, by kernel_rfl, by kernel_rfl⟩
theorem E.fo36 : FnOk Try.prog 36 ⟨47, (Try.f36.body.getD .skip), Try.f36.results.toList, []⟩ := ⟨Try.f36, Try.func36, rfl, rfl, rfl, by kernel_rfl, by kernel_rfl, by kernel_rfl⟩
theorem E.fo37 : FnOk Try.prog 37 ⟨27, (Try.f37.body.getD .skip), Try.f37.results.toList, []⟩ := ⟨Try.f37, Try.func37, rfl, rfl, rfl, by kernel_rfl, by kernel_rfl, by kernel_rfl⟩
theorem E.fo38 : FnOk Try.prog 38 ⟨17, (Try.f38.body.getD .skip), Try.f38.results.toList, []⟩ := ⟨Try.f38, Try.func38, rfl, rfl, rfl, by kernel_rfl, by kernel_rfl, by kernel_rfl⟩
theorem E.fo39 : FnOk Try.prog 39 ⟨29, (Try.f39.body.getD .skip), Try.f39.results.toList, []⟩ := ⟨Try.f39, Try.func39, rfl, rfl, rfl, by kernel_rfl, by kernel_rfl, by kernel_rfl⟩
theorem E.fo40 : FnOk Try.prog 40 ⟨35, (Try.f40.body.getD .skip), Try.f40.results.toList, []⟩ := ⟨Try.f40, Try.func40, rfl, rfl, rfl, by kernel_rfl, by kernel_rfl, by kernel_rfl⟩
theorem E.fo41 : FnOk Try.prog 41 ⟨33, (Try.f41.body.getD .skip), Try.f41.results.toList, []⟩ := ⟨Try.f41, Try.func41, rfl, rfl, rfl, by kernel_rfl, by kernel_rfl, by kernel_rfl⟩
theorem E.fo42 : FnOk Try.prog 42 ⟨27, (Try.f42.body.getD .skip), Try.f42.results.toList, []⟩ := ⟨Try.f42, Try.func42, rfl, rfl, rfl, by kernel_rfl, by kernel_rfl, by kernel_rfl⟩
theorem E.fo43 : FnOk Try.prog 43 ⟨41, (Try.f43.body.getD .skip), Try.f43.results.toList, []⟩ := ⟨Try.f43, Try.func43, rfl, rfl, rfl, by kernel_rfl, by kernel_rfl, by kernel_rfl⟩
theorem E.fo44 : FnOk Try.prog 44 ⟨24, (Try.f44.body.getD .skip), Try.f44.results.toList, []⟩ := ⟨Try.f44, Try.func44, rfl, rfl, rfl, by kernel_rfl, by kernel_rfl, by kernel_rfl⟩
theorem E.fo45 : FnOk Try.prog 45 ⟨14, (Try.f45.body.getD .skip), Try.f45.results.toList, []⟩ := ⟨Try.f45, Try.func45, rfl, rfl, rfl, by kernel_rfl, by kernel_rfl, by kernel_rfl⟩
theorem E.fo46 : FnOk Try.prog 46 ⟨27, (Try.f46.body.getD .skip), Try.f46.results.toList, []⟩ := ⟨Try.f46, Try.func46, rfl, rfl, rfl, by kernel_rfl, by kernel_rfl, by kernel_rfl⟩
theorem E.fo47 : FnOk Try.prog 47 ⟨27, (Try.f47.body.getD .skip), Try.f47.results.toList, []⟩ := ⟨Try.f47, Try.func47, rfl, rfl, rfl, by kernel_rfl, by kernel_rfl, by kernel_rfl⟩
theorem E.fo48 : FnOk Try.prog 48 ⟨25, (Try.f48.body.getD .skip), Try.f48.results.toList, []⟩ := ⟨Try.f48, Try.func48, rfl, rfl, rfl, by kernel_rfl, by kernel_rfl, by kernel_rfl⟩
theorem E.fo49 : FnOk Try.prog 49 ⟨19, (Try.f49.body.getD .skip), Try.f49.results.toList, []⟩ := ⟨Try.f49, Try.func49, rfl, rfl, rfl, by kernel_rfl, by kernel_rfl, by kernel_rfl⟩
theorem E.fo50 : FnOk Try.prog 50 ⟨33, (Try.f50.body.getD .skip), Try.f50.results.toList, []⟩ := ⟨Try.f50, Try.func50, rfl, rfl, rfl, by kernel_rfl, by kernel_rfl, by kernel_rfl⟩
theorem E.fo51 : FnOk Try.prog 51 ⟨62, (Try.f51.body.getD .skip), Try.f51.results.toList, []⟩ := ⟨Try.f51, Try.func51, rfl, rfl, rfl, by kernel_rfl, by kernel_rfl, by kernel_rfl⟩
theorem E.fo52 : FnOk Try.prog 52 ⟨31, (Try.f52.body.getD .skip), Try.f52.results.toList, []⟩ := ⟨Try.f52, Try.func52, rfl, rfl, rfl, by kernel_rfl, by kernel_rfl, by kernel_rfl⟩
theorem E.fo53 : FnOk Try.prog 53 ⟨38, (Try.f53.body.getD .skip), Try.f53.results.toList, []⟩ := ⟨Try.f53, Try.func53, rfl, rfl, rfl, by kernel_rfl, by kernel_rfl, by kernel_rfl⟩
theorem E.fo54 : FnOk Try.prog 54 ⟨32, (Try.f54.body.getD .skip), Try.f54.results.toList, []⟩ := ⟨Try.f54, Try.func54, rfl, rfl, rfl, by kernel_rfl, by kernel_rfl, by kernel_rfl⟩
theorem E.fo55 : FnOk Try.prog 55 ⟨44, (Try.f55.body.getD .skip), Try.f55.results.toList, []⟩ := ⟨Try.f55, Try.func55, rfl, rfl, rfl, by kernel_rfl, by kernel_rfl, by kernel_rfl⟩
theorem E.fo56 : FnOk Try.prog 56 ⟨29, (Try.f56.body.getD .skip), Try.f56.results.toList, []⟩ := ⟨Try.f56, Try.func56, rfl, rfl, rfl, by kernel_rfl, by kernel_rfl, by kernel_rfl⟩
theorem E.fo57 : FnOk Try.prog 57 ⟨12, (Try.f57.body.getD .skip), Try.f57.results.toList, []⟩ := ⟨Try.f57, Try.func57, rfl, rfl, rfl, by kernel_rfl, by kernel_rfl, by kernel_rfl⟩
theorem E.fo58 : FnOk Try.prog 58 ⟨12, (Try.f58.body.getD .skip), Try.f58.results.toList, []⟩ := ⟨Try.f58, Try.func58, rfl, rfl, rfl, by kernel_rfl, by kernel_rfl, by kernel_rfl⟩
theorem E.fo59 : FnOk Try.prog 59 ⟨42, (Try.f59.body.getD .skip), Try.f59.results.toList, []⟩ := ⟨Try.f59, Try.func59, rfl, rfl, rfl, by kernel_rfl, by kernel_rfl, by kernel_rfl⟩
theorem E.fo60 : FnOk Try.prog 60 ⟨6, (Try.f60.body.getD .skip), Try.f60.results.toList, []⟩ := ⟨Try.f60, Try.func60, rfl, rfl, rfl, by kernel_rfl, by kernel_rfl, by kernel_rfl⟩
theorem E.fo61 : FnOk Try.prog 61 ⟨8, (Try.f61.body.getD .skip), Try.f61.results.toList, []⟩ := ⟨Try.f61, Try.func61, rfl, rfl, rfl, by kernel_rfl, by kernel_rfl, by kernel_rfl⟩
theorem E.fo62 : FnOk Try.prog 62 ⟨8, (Try.f62.body.getD .skip), Try.f62.results.toList, []⟩ := ⟨Try.f62, Try.func62, rfl, rfl, rfl, by kernel_rfl, by kernel_rfl, by kernel_rfl⟩
theorem E.fo63 : FnOk Try.prog 63 ⟨61, (Try.f63.body.getD .skip), Try.f63.results.toList, []⟩ := ⟨Try.f63, Try.func63, rfl, rfl, rfl, by kernel_rfl, by kernel_rfl, by kernel_rfl⟩
theorem E.fo64 : FnOk Try.prog 64 ⟨8, (Try.f64.body.getD .skip), Try.f64.results.toList, []⟩ := ⟨Try.f64, Try.func64, rfl, rfl, rfl, by kernel_rfl, by kernel_rfl, by kernel_rfl⟩
theorem E.fo65 : FnOk Try.prog 65 ⟨59, (Try.f65.body.getD .skip), Try.f65.results.toList, []⟩ := ⟨Try.f65, Try.func65, rfl, rfl, rfl, by kernel_rfl, by kernel_rfl, by kernel_rfl⟩
theorem E.fo66 : FnOk Try.prog 66 ⟨39, (Try.f66.body.getD .skip), Try.f66.results.toList, []⟩ := ⟨Try.f66, Try.func66, rfl, rfl, rfl, by kernel_rfl, by kernel_rfl, by kernel_rfl⟩
theorem E.fo67 : FnOk Try.prog 67 ⟨49, (Try.f67.body.getD .skip), Try.f67.results.toList, []⟩ := ⟨Try.f67, Try.func67, rfl, rfl, rfl, by kernel_rfl, by kernel_rfl, by kernel_rfl⟩
theorem E.fo68 : FnOk Try.prog 68 ⟨8, (Try.f68.body.getD .skip), Try.f68.results.toList, []⟩ := ⟨Try.f68, Try.func68, rfl, rfl, rfl, by kernel_rfl, by kernel_rfl, by kernel_rfl⟩
theorem E.fo69 : FnOk Try.prog 69 ⟨9, (Try.f69.body.getD .skip), Try.f69.results.toList, []⟩ := ⟨Try.f69, Try.func69, rfl, rfl, rfl, by kernel_rfl, by kernel_rfl, by kernel_rfl⟩
theorem E.fo70 : FnOk Try.prog 70 ⟨9, (Try.f70.body.getD .skip), Try.f70.results.toList, []⟩ := ⟨Try.f70, Try.func70, rfl, rfl, rfl, by kernel_rfl, by kernel_rfl, by kernel_rfl⟩
theorem E.fo71 : FnOk Try.prog 71 ⟨79, (Try.f71.body.getD .skip), Try.f71.results.toList, []⟩ := ⟨Try.f71, Try.func71, rfl, rfl, rfl, by kernel_rfl, by kernel_rfl, by kernel_rfl⟩
theorem E.fo72 : FnOk Try.prog 72 ⟨18, (Try.f72.body.getD .skip), Try.f72.results.toList, []⟩ := ⟨Try.f72, Try.func72, rfl, rfl, rfl, by kernel_rfl, by kernel_rfl, by kernel_rfl⟩
theorem E.fo73 : FnOk Try.prog 73 ⟨60, (Try.f73.body.getD .skip), Try.f73.results.toList, []⟩ := ⟨Try.f73, Try.func73, rfl, rfl, rfl, by kernel_rfl, by kernel_rfl, by kernel_rfl⟩
theorem E.fo74 : FnOk Try.prog 74 ⟨51, (Try.f74.body.getD .skip), Try.f74.results.toList, []⟩ := ⟨Try.f74, Try.func74, rfl, rfl, rfl, by kernel_rfl, by kernel_rfl, by kernel_rfl⟩
theorem E.fo75 : FnOk Try.prog 75 ⟨10, (Try.f75.body.getD .skip), Try.f75.results.toList, []⟩ := ⟨Try.f75, Try.func75, rfl, rfl, rfl, by kernel_rfl, by kernel_rfl, by kernel_rfl⟩
theorem E.fo76 : FnOk Try.prog 76 ⟨8, (Try.f76.body.getD .skip), Try.f76.results.toList, []⟩ := ⟨Try.f76, Try.func76, rfl, rfl, rfl, by kernel_rfl, by kernel_rfl, by kernel_rfl⟩
theorem E.fo77 : FnOk Try.prog 77 ⟨17, (Try.f77.body.getD .skip), Try.f77.results.toList, []⟩ := ⟨Try.f77, Try.func77, rfl, rfl, rfl, by kernel_rfl, by kernel_rfl, by kernel_rfl⟩
theorem E.fo78 : FnOk Try.prog 78 ⟨66, (Try.f78.body.getD .skip), Try.f78.results.toList, []⟩ := ⟨Try.f78, Try.func78, rfl, rfl, rfl, by kernel_rfl, by kernel_rfl, by kernel_rfl⟩
theorem E.fo79 : FnOk Try.prog 79 ⟨42, (Try.f79.body.getD .skip), Try.f79.results.toList, []⟩ := ⟨Try.f79, Try.func79, rfl, rfl, rfl, by kernel_rfl, by kernel_rfl, by kernel_rfl⟩
theorem E.fo80 : FnOk Try.prog 80 ⟨134, (Try.f80.body.getD .skip), Try.f80.results.toList, []⟩ := ⟨Try.f80, Try.func80, rfl, rfl, rfl, by kernel_rfl, by kernel_rfl, by kernel_rfl⟩
theorem E.fo81 : FnOk Try.prog 81 ⟨103, (Try.f81.body.getD .skip), Try.f81.results.toList, []⟩ := ⟨Try.f81, Try.func81, rfl, rfl, rfl, by kernel_rfl, by kernel_rfl, by kernel_rfl⟩
theorem E.fo82 : FnOk Try.prog 82 ⟨37, (Try.f82.body.getD .skip), Try.f82.results.toList, []⟩ := ⟨Try.f82, Try.func82, rfl, rfl, rfl, by kernel_rfl, by kernel_rfl, by kernel_rfl⟩
theorem E.fo83 : FnOk Try.prog 83 ⟨34, (Try.f83.body.getD .skip), Try.f83.results.toList, []⟩ := ⟨Try.f83, Try.func83, rfl, rfl, rfl, by kernel_rfl, by kernel_rfl, by kernel_rfl⟩
theorem E.fo84 : FnOk Try.prog 84 ⟨32, (Try.f84.body.getD .skip), Try.f84.results.toList, []⟩ := ⟨Try.f84, Try.func84, rfl, rfl, rfl, by kernel_rfl, by kernel_rfl, by kernel_rfl⟩
theorem E.fo85 : FnOk Try.prog 85 ⟨79, (Try.f85.body.getD .skip), Try.f85.results.toList, []⟩ := ⟨Try.f85, Try.func85, rfl, rfl, rfl, by kernel_rfl, by kernel_rfl, by kernel_rfl⟩
theorem E.fo86 : FnOk Try.prog 86 ⟨13, (Try.f86.body.getD .skip), Try.f86.results.toList, []⟩ := ⟨Try.f86, Try.func86, rfl, rfl, rfl, by kernel_rfl, by kernel_rfl, by kernel_rfl⟩
theorem E.fo87 : FnOk Try.prog 87 ⟨38, (Try.f87.body.getD .skip), Try.f87.results.toList, []⟩ := ⟨Try.f87, Try.func87, rfl, rfl, rfl, by kernel_rfl, by kernel_rfl, by kernel_rfl⟩
theorem E.fo88 : FnOk Try.prog 88 ⟨56, (Try.f88.body.getD .skip), Try.f88.results.toList, []⟩ := ⟨Try.f88, Try.func88, rfl, rfl, rfl, by kernel_rfl, by kernel_rfl, by kernel_rfl⟩
theorem E.fo89 : FnOk Try.prog 89 ⟨68, (Try.f89.body.getD .skip), Try.f89.results.toList, []⟩ := ⟨Try.f89, Try.func89, rfl, rfl, rfl, by kernel_rfl, by kernel_rfl, by kernel_rfl⟩
theorem E.fo90 : FnOk Try.prog 90 ⟨21, (Try.f90.body.getD .skip), Try.f90.results.toList, []⟩ := ⟨Try.f90, Try.func90, rfl, rfl, rfl, by kernel_rfl, by kernel_rfl, by kernel_rfl⟩
theorem E.fo91 : FnOk Try.prog 91 ⟨37, (Try.f91.body.getD .skip), Try.f91.results.toList, []⟩ := ⟨Try.f91, Try.func91, rfl, rfl, rfl, by kernel_rfl, by kernel_rfl, by kernel_rfl⟩
theorem E.fo92 : FnOk Try.prog 92 ⟨30, (Try.f92.body.getD .skip), Try.f92.results.toList, []⟩ := ⟨Try.f92, Try.func92, rfl, rfl, rfl, by kernel_rfl, by kernel_rfl, by kernel_rfl⟩
theorem E.fo93 : FnOk Try.prog 93 ⟨31, (Try.f93.body.getD .skip), Try.f93.results.toList, []⟩ := ⟨Try.f93, Try.func93, rfl, rfl, rfl, by kernel_rfl, by kernel_rfl, by kernel_rfl⟩
theorem E.fo94 : FnOk Try.prog 94 ⟨32, (Try.f94.body.getD .skip), Try.f94.results.toList, []⟩ := ⟨Try.f94, Try.func94, rfl, rfl, rfl, by kernel_rfl, by kernel_rfl, by kernel_rfl⟩
theorem E.fo95 : FnOk Try.prog 95 ⟨8, (Try.f95.body.getD .skip), Try.f95.results.toList, []⟩ := ⟨Try.f95, Try.func95, rfl, rfl, rfl, by kernel_rfl, by kernel_rfl, by kernel_rfl⟩
theorem E.fo96 : FnOk Try.prog 96 ⟨26, (Try.f96.body.getD .skip), Try.f96.results.toList, []⟩ := ⟨Try.f96, Try.func96, rfl, rfl, rfl, by kernel_rfl, by kernel_rfl, by kernel_rfl⟩
theorem E.fo97 : FnOk Try.prog 97 ⟨24, (Try.f97.body.getD .skip), Try.f97.results.toList, []⟩ := ⟨Try.f97, Try.func97, rfl, rfl, rfl, by kernel_rfl, by kernel_rfl, by kernel_rfl⟩
theorem E.fo98 : FnOk Try.prog 98 ⟨31, (Try.f98.body.getD .skip), Try.f98.results.toList, []⟩ := ⟨Try.f98, Try.func98, rfl, rfl, rfl, by kernel_rfl, by kernel_rfl, by kernel_rfl⟩
theorem E.fo99 : FnOk Try.prog 99 ⟨9, (Try.f99.body.getD .skip), Try.f99.results.toList, []⟩ := ⟨Try.f99, Try.func99, rfl, rfl, rfl, by kernel_rfl, by kernel_rfl, by kernel_rfl⟩
theorem E.fo100 : FnOk Try.prog 100 ⟨10, (Try.f100.body.getD .skip), Try.f100.results.toList, []⟩ := ⟨Try.f100, Try.func100, rfl, rfl, rfl, by kernel_rfl, by kernel_rfl, by kernel_rfl⟩
theorem E.fo101 : FnOk Try.prog 101 ⟨33, (Try.f101.body.getD .skip), Try.f101.results.toList, []⟩ := ⟨Try.f101, Try.func101, rfl, rfl, rfl, by kernel_rfl, by kernel_rfl, by kernel_rfl⟩
theorem E.fo102 : FnOk Try.prog 102 ⟨13, (Try.f102.body.getD .skip), Try.f102.results.toList, []⟩ := ⟨Try.f102, Try.func102, rfl, rfl, rfl, by kernel_rfl, by kernel_rfl, by kernel_rfl⟩
theorem E.fo103 : FnOk Try.prog 103 ⟨21, (Try.f103.body.getD .skip), Try.f103.results.toList, []⟩ := ⟨Try.f103, Try.func103, rfl, rfl, rfl, by kernel_rfl, by kernel_rfl, by kernel_rfl⟩
theorem E.fo104 : FnOk Try.prog 104 ⟨16, (Try.f104.body.getD .skip), Try.f104.results.toList, []⟩ := ⟨Try.f104, Try.func104, rfl, rfl, rfl, by kernel_rfl, by kernel_rfl, by kernel_rfl⟩
theorem E.fo105 : FnOk Try.prog 105 ⟨81, (Try.f105.body.getD .skip), Try.f105.results.toList, []⟩ := ⟨Try.f105, Try.func105, rfl, rfl, rfl, by kernel_rfl, by kernel_rfl, by kernel_rfl⟩
theorem E.fo106 : FnOk Try.prog 106 ⟨8, (Try.f106.body.getD .skip), Try.f106.results.toList, []⟩ := ⟨Try.f106, Try.func106, rfl, rfl, rfl, by kernel_rfl, by kernel_rfl, by kernel_rfl⟩
theorem E.fo107 : FnOk Try.prog 107 ⟨8, (Try.f107.body.getD .skip), Try.f107.results.toList, []⟩ := ⟨Try.f107, Try.func107, rfl, rfl, rfl, by kernel_rfl, by kernel_rfl, by kernel_rfl⟩
theorem E.fo108 : FnOk Try.prog 108 ⟨19, (Try.f108.body.getD .skip), Try.f108.results.toList, []⟩ := ⟨Try.f108, Try.func108, rfl, rfl, rfl, by kernel_rfl, by kernel_rfl, by kernel_rfl⟩
theorem E.fo109 : FnOk Try.prog 109 ⟨7, (Try.f109.body.getD .skip), Try.f109.results.toList, []⟩ := ⟨Try.f109, Try.func109, rfl, rfl, rfl, by kernel_rfl, by kernel_rfl, by kernel_rfl⟩
theorem E.fo110 : FnOk Try.prog 110 ⟨62, (Try.f110.body.getD .skip), Try.f110.results.toList, []⟩ := ⟨Try.f110, Try.func110, rfl, rfl, rfl, by kernel_rfl, by kernel_rfl, by kernel_rfl⟩
theorem E.fo111 : FnOk Try.prog 111 ⟨26, (Try.f111.body.getD .skip), Try.f111.results.toList, []⟩ := ⟨Try.f111, Try.func111, rfl, rfl, rfl, by kernel_rfl, by kernel_rfl, by kernel_rfl⟩
theorem E.fo112 : FnOk Try.prog 112 ⟨21, (Try.f112.body.getD .skip), Try.f112.results.toList, []⟩ := ⟨Try.f112, Try.func112, rfl, rfl, rfl, by kernel_rfl, by kernel_rfl, by kernel_rfl⟩
theorem E.fo113 : FnOk Try.prog 113 ⟨42, (Try.f113.body.getD .skip), Try.f113.results.toList, []⟩ := ⟨Try.f113, Try.func113, rfl, rfl, rfl, by kernel_rfl, by kernel_rfl, by kernel_rfl⟩
theorem E.fo114 : FnOk Try.prog 114 ⟨9, (Try.f114.body.getD .skip), Try.f114.results.toList, []⟩ := ⟨Try.f114, Try.func114, rfl, rfl, rfl, by kernel_rfl, by kernel_rfl, by kernel_rfl⟩
theorem E.fo115 : FnOk Try.prog 115 ⟨9, (Try.f115.body.getD .skip), Try.f115.results.toList, []⟩ := ⟨Try.f115, Try.func115, rfl, rfl, rfl, by kernel_rfl, by kernel_rfl, by kernel_rfl⟩
theorem E.fo116 : FnOk Try.prog 116 ⟨5, (Try.f116.body.getD .skip), Try.f116.results.toList, []⟩ := ⟨Try.f116, Try.func116, rfl, rfl, rfl, by kernel_rfl, by kernel_rfl, by kernel_rfl⟩
theorem E.fo117 : FnOk Try.prog 117 ⟨61, (Try.f117.body.getD .skip), Try.f117.results.toList, []⟩ := ⟨Try.f117, Try.func117, rfl, rfl, rfl, by kernel_rfl, by kernel_rfl, by kernel_rfl⟩
theorem E.fo118 : FnOk Try.prog 118 ⟨19, (Try.f118.body.getD .skip), Try.f118.results.toList, []⟩ := ⟨Try.f118, Try.func118, rfl, rfl, rfl, by kernel_rfl, by kernel_rfl, by kernel_rfl⟩
theorem E.fo119 : FnOk Try.prog 119 ⟨19, (Try.f119.body.getD .skip), Try.f119.results.toList, []⟩ := ⟨Try.f119, Try.func119, rfl, rfl, rfl, by kernel_rfl, by kernel_rfl, by kernel_rfl⟩
theorem E.tyAll : TrAll (TyOk Try.prog) E.tyTr id := (.none (.some E.to1 (.some E.to3 (.some E.to7 (.some E.to15 (.some E.to31 (.some E.to63 (.some E.to127 .nil .nil) .nil) .nil) (.some E.to47 (.some E.to79 .nil .nil) (.some E.to111 .nil .nil))) (.some E.to23 (.some E.to39 (.some E.to71 .nil .nil) (.some E.to103 .nil .nil)) (.some E.to55 (.some E.to87 .nil .nil) .nil))) (.some E.to11 (.none (.some E.to35 (.some E.to67 .nil .nil) (.some E.to99 .nil .nil)) (.some E.to51 (.some E.to83 .nil .nil) (.some E.to115 .nil .nil))) (.none (.some E.to43 (.some E.to75 .nil .nil) (.some E.to107 .nil .nil)) (.some E.to59 .nil (.some E.to123 .nil .nil))))) (.some E.to5 (.some E.to9 (.some E.to17 (.some E.to33 .nil (.some E.to97 .nil .nil)) (.some E.to49 (.some E.to81 .nil .nil) (.some E.to113 .nil .nil))) (.some E.to25 (.some E.to41 (.some E.to73 .nil .nil) (.some E.to105 .nil .nil)) (.none (.some E.to89 .nil .nil) (.some E.to121 .nil .nil)))) (.none (.some E.to21 (.some E.to37 (.some E.to69 .nil .nil) (.some E.to101 .nil .nil)) (.some E.to53 .nil .nil)) (.some E.to29 (.none (.some E.to77 .nil .nil) (.some E.to109 .nil .nil)) (.some E.to61 (.some E.to93 .nil .nil) (.some E.to125 .nil .nil)))))) (.some E.to2 (.some E.to4 (.some E.to8 (.some E.to16 (.some E.to32 (.some E.to64 .nil .nil) (.some E.to96 .nil .nil)) (.some E.to48 .nil (.some E.to112 .nil .nil))) (.none (.some E.to40 (.some E.to72 .nil .nil) (.some E.to104 .nil .nil)) (.some E.to56 (.some E.to88 .nil .nil) .nil))) (.some E.to12 (.some E.to20 (.some E.to36 (.some E.to68 .nil .nil) (.some E.to100 .nil .nil)) (.some E.to52 (.some E.to84 .nil .nil) .nil)) (.some E.to28 (.some E.to44 (.some E.to76 .nil .nil) (.some E.to108 .nil .nil)) (.none (.some E.to92 .nil .nil) (.some E.to124 .nil .nil))))) (.some E.to6 (.some E.to10 (.none (.some E.to34 (.some E.to66 (.some E.to130 .nil .nil) .nil) (.some E.to98 .nil .nil)) (.none (.some E.to82 .nil .nil) (.some E.to114 .nil .nil))) (.some E.to26 (.some E.to42 (.some E.to74 .nil .nil) (.some E.to106 .nil .nil)) (.some E.to58 (.some E.to90 .nil .nil) (.some E.to122 .nil .nil)))) (.none (.some E.to22 (.none (.some E.to70 .nil .nil) (.some E.to102 .nil .nil)) (.some E.to54 (.some E.to86 .nil .nil) (.some E.to118 .nil .nil))) (.some E.to30 (.some E.to46 .nil (.some E.to110 .nil .nil)) (.some E.to62 (.some E.to94 .nil .nil) (.some E.to126 .nil .nil)))))))
theorem E.fnAll : TrAll (FnOk Try.prog) E.fnTr id := (.none (.none (.some E.fo3 (.some E.fo7 (.some E.fo15 (.some E.fo31 (.some E.fo63 .nil .nil) (.some E.fo95 .nil .nil)) (.some E.fo47 (.some E.fo79 .nil .nil) (.some E.fo111 .nil .nil))) (.some E.fo23 (.some E.fo39 (.some E.fo71 .nil .nil) (.some E.fo103 .nil .nil)) (.some E.fo55 (.some E.fo87 .nil .nil) (.some E.fo119 .nil .nil)))) (.some E.fo11 (.some E.fo19 (.some E.fo35 (.some E.fo67 .nil .nil) (.some E.fo99 .nil .nil)) (.some E.fo51 (.some E.fo83 .nil .nil) (.some E.fo115 .nil .nil))) (.some E.fo27 (.some E.fo43 (.some E.fo75 .nil .nil) (.some E.fo107 .nil .nil)) (.some E.fo59 (.some E.fo91 .nil .nil) .nil)))) (.some E.fo5 (.some E.fo9 (.some E.fo17 (.some E.fo33 (.some E.fo65 .nil .nil) (.some E.fo97 .nil .nil)) (.some E.fo49 (.some E.fo81 .nil .nil) (.some E.fo113 .nil .nil))) (.some E.fo25 (.some E.fo41 (.some E.fo73 .nil .nil) (.some E.fo105 .nil .nil)) (.some E.fo57 (.some E.fo89 .nil .nil) .nil))) (.some E.fo13 (.some E.fo21 (.some E.fo37 (.some E.fo69 .nil .nil) (.some E.fo101 .nil .nil)) (.some E.fo53 (.some E.fo85 .nil .nil) (.some E.fo117 .nil .nil))) (.some E.fo29 (.some E.fo45 (.some E.fo77 .nil .nil) (.some E.fo109 .nil .nil)) (.some E.fo61 (.some E.fo93 .nil .nil) .nil))))) (.none (.some E.fo4 (.some E.fo8 (.some E.fo16 (.some E.fo32 (.some E.fo64 .nil .nil) (.some E.fo96 .nil .nil)) (.some E.fo48 (.some E.fo80 .nil .nil) (.some E.fo112 .nil .nil))) (.some E.fo24 (.some E.fo40 (.some E.fo72 .nil .nil) (.some E.fo104 .nil .nil)) (.some E.fo56 (.some E.fo88 .nil .nil) .nil))) (.some E.fo12 (.some E.fo20 (.some E.fo36 (.some E.fo68 .nil .nil) (.some E.fo100 .nil .nil)) (.some E.fo52 (.some E.fo84 .nil .nil) (.some E.fo116 .nil .nil))) (.some E.fo28 (.some E.fo44 (.some E.fo76 .nil .nil) (.some E.fo108 .nil .nil)) (.some E.fo60 (.some E.fo92 .nil .nil) .nil)))) (.some E.fo6 (.some E.fo10 (.some E.fo18 (.some E.fo34 (.some E.fo66 .nil .nil) (.some E.fo98 .nil .nil)) (.some E.fo50 (.some E.fo82 .nil .nil) (.some E.fo114 .nil .nil))) (.some E.fo26 (.some E.fo42 (.some E.fo74 .nil .nil) (.some E.fo106 .nil .nil)) (.some E.fo58 (.some E.fo90 .nil .nil) .nil))) (.some E.fo14 (.some E.fo22 (.some E.fo38 (.some E.fo70 .nil .nil) (.some E.fo102 .nil .nil)) (.some E.fo54 (.some E.fo86 .nil .nil) (.some E.fo118 .nil .nil))) (.some E.fo30 (.some E.fo46 (.some E.fo78 .nil .nil) (.some E.fo110 .nil .nil)) (.some E.fo62 (.some E.fo94 .nil .nil) .nil))))))
theorem E.ok : EnvOk Try.prog E := ⟨fun t y h => TrAll.get E.tyAll t y h, by kernel_rfl⟩
theorem E.fns : ∀ f fi, E.fn f = some fi → FnOk Try.prog f fi := fun f fi h => TrAll.get E.fnAll f fi h
end Go.Proofs.Ytkfmedmanhcdeaa
