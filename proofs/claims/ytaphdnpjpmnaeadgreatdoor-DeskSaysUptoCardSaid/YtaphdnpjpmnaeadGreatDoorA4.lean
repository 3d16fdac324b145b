/- Towards castlaw.DeskSays, part 4: joined by a program of ours. -/
import Derived.Test.YtaphdnpjpmnaeadGreatDoorA3
set_option linter.unusedVariables false
set_option linter.unusedSimpArgs false
set_option linter.unusedSectionVars false
namespace Go.Proofs.YtaphdnpjpmnaeadGreatDoor
open Go.Am
abbrev fi (n:Nat) (f:Func) (l:List Nat):Fi:=⟨n,f.body.getD .skip,f.results.toList,l⟩
theorem fk {i n:Nat} {f:Func} {l:List Nat} (h:Tryz.prog.funcs[i]? = some f) (hb:f.body = some (f.body.getD .skip)) (hn:f.ntmps = n) (hk:((!(f.name == "runtime.NumGoroutine")) && codeOk l (f.body.getD .skip) && dstOk n (f.body.getD .skip)) = true):FnOk Tryz.prog i (fi n f l):=by
 simp only [Bool.and_eq_true,Bool.not_eq_true'] at hk
 exact ⟨f,h,hb,hn,rfl,hk.1.1,hk.1.2,hk.2⟩
noncomputable def E.tyTr:Tr Ty:=(.node none (.node (some ⟨0,1,8,[.nilf],0,0,[],.i64⟩) (.node (some ⟨1,1,8,[(.int .i64 0)],0,0,[],.i64⟩) (.node none (.node none .nil (.node none (.node none (.node (some ⟨5,256,256,(List.replicate 256 (.bool false)),4,256,[],.i64⟩) .nil .nil) .nil) .nil)) (.node (some ⟨1,1,8,[(.int .i64 0)],0,0,[],.i64⟩) .nil .nil)) (.node none (.node none (.node (some ⟨4,1,24,[.nils],59,0,[],.i64⟩) (.node (some ⟨6,4,48,[(.int .i64 0),(.int .i64 0),(.str []),(.str [])],0,0,[(0,3,1),(1,3,1),(2,9,1),(3,9,1)],.i64⟩) .nil (.node (some ⟨5,10,10,(List.replicate 10 (.bool false)),4,10,[],.i64⟩) .nil .nil)) (.node (some ⟨6,2,16,[(.int .i64 0),(.int .i64 0)],0,0,[(0,3,1),(1,3,1)],.i64⟩) .nil .nil)) (.node none (.node none (.node (some ⟨7,1,8,[.nilp],143,0,[],.i64⟩) .nil .nil) .nil) .nil)) (.node none (.node (some ⟨4,1,24,[.nils],168,0,[],.i64⟩) (.node (some ⟨4,1,24,[.nils],5,0,[],.i64⟩) .nil .nil) .nil) (.node (some ⟨6,3,32,[(.str []),(.int .i64 0),(.int .i64 0)],0,0,[(0,9,1),(1,3,1),(2,3,1)],.i64⟩) .nil (.node (some ⟨0,1,8,[.nilf],0,0,[],.i64⟩) .nil .nil))))) (.node (some ⟨1,1,1,[(.int .u8 0)],0,0,[],.u8⟩) (.node (some ⟨3,1,16,[(.str [])],0,0,[],.i64⟩) (.node none (.node (some ⟨6,1,8,[.nilp],0,0,[(0,30,1)],.i64⟩) (.node none (.node (some ⟨0,1,8,[.nilf],0,0,[],.i64⟩) .nil .nil) .nil) .nil) .nil) (.node none (.node none .nil (.node none (.node (some ⟨0,1,8,[.nilf],0,0,[],.i64⟩) .nil .nil) .nil)) .nil)) (.node none (.node none (.node none (.node (some ⟨6,2,24,[(.str []),(.int .i64 0)],0,0,[(0,9,1),(1,3,1)],.i64⟩) .nil .nil) (.node none (.node (some ⟨0,1,8,[.nilf],0,0,[],.i64⟩) .nil .nil) .nil)) (.node none (.node (some ⟨6,3,32,[(.str []),(.int .i64 0),(.int .i64 0)],0,0,[(0,9,1),(1,3,1),(2,3,1)],.i64⟩) .nil .nil) .nil)) (.node (some ⟨7,1,8,[.nilp],33,0,[],.i64⟩) (.node (some ⟨6,2,48,[.nils,.nils],0,0,[(0,42,1),(1,43,1)],.i64⟩) .nil .nil) (.node (some ⟨4,1,24,[.nils],3,0,[],.i64⟩) .nil .nil))))) (.node (some ⟨1,1,8,[(.int .i64 0)],0,0,[],.i64⟩) (.node (some ⟨2,1,1,[(.bool false)],0,0,[],.i64⟩) (.node none (.node none .nil (.node (some ⟨6,1,8,[(.int .i64 0)],0,0,[(0,23,1)],.i64⟩) (.node (some ⟨0,1,16,[.undef],0,0,[],.i64⟩) .nil .nil) .nil)) (.node none (.node none .nil (.node none (.node (some ⟨6,3,40,[(.str []),(.str []),(.int .i64 0)],0,0,[(0,9,1),(1,9,1),(2,3,1)],.i64⟩) .nil .nil) .nil)) (.node (some ⟨0,1,8,[.nilf],0,0,[],.i64⟩) (.node none (.node (some ⟨0,1,8,[.nilf],0,0,[],.i64⟩) .nil .nil) .nil) .nil))) (.node none (.node (some ⟨0,1,16,[.undef],0,0,[],.i64⟩) (.node (some ⟨4,1,24,[.nils],118,0,[],.i64⟩) .nil .nil) .nil) (.node none .nil (.node (some ⟨0,1,8,[.undef],0,0,[],.i64⟩) .nil .nil)))) (.node none (.node none .nil (.node none (.node (some ⟨4,1,24,[.nils],85,0,[],.i64⟩) .nil .nil) .nil)) (.node none (.node (some ⟨4,1,24,[.nils],9,0,[],.i64⟩) (.node (some ⟨6,2,48,[.nils,.nils],0,0,[(0,35,1),(1,36,1)],.i64⟩) .nil .nil) (.node none .nil (.node (some ⟨6,3,40,[(.str []),(.str []),(.int .i64 0)],0,0,[(0,9,1),(1,9,1),(2,3,1)],.i64⟩) .nil .nil))) (.node (some ⟨7,1,8,[.nilp],45,0,[],.i64⟩) (.node none .nil (.node (some ⟨0,1,8,[.nilf],0,0,[],.i64⟩) .nil .nil)) (.node (some ⟨0,1,8,[.undef],0,0,[],.i64⟩) .nil (.node (some ⟨0,1,8,[.nilf],0,0,[],.i64⟩) .nil .nil)))))))
noncomputable def E.fnTr:Tr Fi:=(.node none (.node none (.node (some (fi 25 Tryz.f3 [])) (.node none (.node (some (fi 7 Tryz.f15 [])) (.node none (.node (some (fi 5 Tryz.f63 [])) (.node (some (fi 8 Tryz.f127 [])) .nil .nil) .nil) (.node (some (fi 17 Tryz.f95 [])) .nil .nil)) (.node (some (fi 26 Tryz.f47 [])) (.node (some (fi 39 Tryz.f79 [])) .nil .nil) (.node (some (fi 19 Tryz.f111 [])) .nil .nil))) (.node (some (fi 25 Tryz.f23 [])) (.node (some (fi 40 Tryz.f39 [])) (.node none (.node (some (fi 27 Tryz.f135 [])) .nil .nil) .nil) .nil) (.node (some (fi 32 Tryz.f55 [])) (.node (some (fi 12 Tryz.f87 [])) .nil .nil) .nil))) (.node (some (fi 26 Tryz.f11 [])) (.node (some (fi 160 Tryz.f19 [])) (.node (some (fi 34 Tryz.f35 [])) (.node (some (fi 42 Tryz.f67 [])) (.node (some (fi 68 Tryz.f131 [])) .nil .nil) .nil) (.node (some (fi 22 Tryz.f99 [])) .nil .nil)) (.node (some (fi 38 Tryz.f51 [])) (.node (some (fi 31 Tryz.f83 [])) .nil .nil) .nil)) (.node none (.node (some (fi 33 Tryz.f43 [])) .nil (.node (some (fi 33 Tryz.f107 [])) .nil .nil)) (.node (some (fi 8 Tryz.f59 [])) (.node (some (fi 13 Tryz.f91 [])) .nil .nil) (.node (some (fi 24 Tryz.f123 [])) .nil .nil))))) (.node (some (fi 43 Tryz.f5 [1000011])) (.node (some (fi 59 Tryz.f9 [])) (.node (some (fi 22 Tryz.f17 [])) (.node (some (fi 37 Tryz.f33 [])) (.node (some (fi 15 Tryz.f65 [])) (.node (some (fi 14 Tryz.f129 [])) .nil .nil) .nil) (.node (some (fi 21 Tryz.f97 [])) .nil .nil)) (.node (some (fi 10 Tryz.f49 [])) (.node (some (fi 11 Tryz.f81 [])) (.node (some (fi 21 Tryz.f145 [])) .nil .nil) .nil) .nil)) (.node (some (fi 364 Tryz.f25 [1,1000004,1000016,1000018,1000020,1000024,1000026,1000028,1000030,1000032,1000039,1000045,1000047,1000049,1000051,1000068,1000070,1000071])) (.node (some (fi 56 Tryz.f41 [])) .nil (.node (some (fi 8 Tryz.f105 [])) .nil .nil)) (.node (some (fi 14 Tryz.f57 [])) (.node (some (fi 33 Tryz.f89 [])) (.node (some (fi 19 Tryz.f153 [])) .nil .nil) .nil) .nil))) (.node none (.node none (.node (some (fi 20 Tryz.f37 [])) (.node none (.node (some (fi 31 Tryz.f133 [])) .nil .nil) .nil) .nil) (.node (some (fi 36 Tryz.f53 [])) (.node (some (fi 122 Tryz.f85 [7])) .nil .nil) .nil)) (.node none (.node none (.node (some (fi 41 Tryz.f77 [])) .nil .nil) (.node (some (fi 19 Tryz.f109 [])) .nil .nil)) (.node (some (fi 40 Tryz.f61 [])) (.node (some (fi 33 Tryz.f93 [])) .nil .nil) (.node (some (fi 42 Tryz.f125 [])) .nil .nil)))))) (.node none (.node (some (fi 38 Tryz.f4 [])) (.node (some (fi 3 Tryz.f8 [])) (.node none (.node none (.node (some (fi 79 Tryz.f64 [])) (.node (some (fi 9 Tryz.f128 [])) .nil .nil) .nil) (.node (some (fi 23 Tryz.f96 [])) .nil .nil)) (.node (some (fi 38 Tryz.f48 [11])) (.node (some (fi 27 Tryz.f80 [])) (.node (some (fi 19 Tryz.f144 [])) .nil .nil) .nil) .nil)) (.node (some (fi 192 Tryz.f24 [7,21,33])) (.node (some (fi 88 Tryz.f40 [])) (.node none (.node (some (fi 10 Tryz.f136 [])) .nil .nil) .nil) (.node (some (fi 9 Tryz.f104 [])) .nil .nil)) (.node (some (fi 25 Tryz.f56 [])) (.node (some (fi 14 Tryz.f88 [])) .nil .nil) .nil))) (.node none (.node none (.node (some (fi 19 Tryz.f36 [])) (.node (some (fi 6 Tryz.f68 [])) (.node (some (fi 33 Tryz.f132 [])) .nil .nil) .nil) .nil) (.node (some (fi 29 Tryz.f52 [])) (.node (some (fi 75 Tryz.f84 [6,2000081])) .nil .nil) .nil)) (.node none (.node (some (fi 43 Tryz.f44 [])) (.node (some (fi 40 Tryz.f76 [])) .nil .nil) (.node (some (fi 19 Tryz.f108 [])) .nil .nil)) (.node (some (fi 28 Tryz.f60 [1000005])) (.node (some (fi 61 Tryz.f92 [])) .nil .nil) (.node (some (fi 21 Tryz.f124 [])) .nil .nil))))) (.node (some (fi 8 Tryz.f6 [])) (.node (some (fi 167 Tryz.f10 [3,12,17,23,29,33,43,46,1000046])) (.node (some (fi 99 Tryz.f18 [10,12,1000012,26,2000034])) (.node (some (fi 113 Tryz.f34 [5,3000023,3000028,3000030,2000076,2000081,2000085])) (.node (some (fi 9 Tryz.f66 [])) (.node (some (fi 33 Tryz.f130 [])) .nil .nil) .nil) (.node (some (fi 16 Tryz.f98 [])) .nil .nil)) (.node (some (fi 42 Tryz.f50 [])) (.node (some (fi 37 Tryz.f82 [])) .nil .nil) .nil)) (.node none (.node (some (fi 35 Tryz.f42 [])) .nil (.node (some (fi 50 Tryz.f106 [])) .nil .nil)) (.node (some (fi 8 Tryz.f58 [])) (.node (some (fi 36 Tryz.f90 [])) .nil .nil) .nil))) (.node none (.node (some (fi 6 Tryz.f22 [])) (.node (some (fi 73 Tryz.f38 [])) (.node none (.node (some (fi 16 Tryz.f134 [])) .nil .nil) .nil) .nil) (.node (some (fi 61 Tryz.f54 [])) (.node (some (fi 46 Tryz.f86 [])) .nil .nil) .nil)) (.node none (.node (some (fi 17 Tryz.f46 [])) (.node (some (fi 22 Tryz.f78 [])) .nil .nil) (.node (some (fi 8 Tryz.f110 [])) .nil .nil)) (.node (some (fi 9 Tryz.f62 [])) (.node (some (fi 13 Tryz.f94 [])) .nil .nil) (.node (some (fi 19 Tryz.f126 [])) .nil .nil)))))))
noncomputable def E.mpTr:Tr Mt:=(.node none .nil (.node none (.node none .nil (.node none .nil (.node none .nil (.node (some ⟨3,.i64,1,(.int .i64 0)⟩) .nil .nil)))) (.node none .nil (.node none .nil (.node none .nil (.node (some ⟨1,.i64,1,(.int .i64 0)⟩) .nil .nil))))))
noncomputable def E:Env:={ ty:=E.tyTr.get,fn:=E.fnTr.get,mp:=E.mpTr.get,ext:=strOut sno Fs,wc:=tab }
theorem E.to1:TyOk Tryz.prog 1 ⟨0,1,8,[.nilf],0,0,[],.i64⟩:=tyOk_of_mkTy (by kernel_rfl)
theorem E.to2:TyOk Tryz.prog 2 ⟨1,1,8,[(.int .i64 0)],0,0,[],.i64⟩:=tyOk_of_mkTy (by kernel_rfl)
theorem E.to3:TyOk Tryz.prog 3 ⟨1,1,8,[(.int .i64 0)],0,0,[],.i64⟩:=tyOk_of_mkTy (by kernel_rfl)
theorem E.to4:TyOk Tryz.prog 4 ⟨2,1,1,[(.bool false)],0,0,[],.i64⟩:=tyOk_of_mkTy (by kernel_rfl)
theorem E.to5:TyOk Tryz.prog 5 ⟨1,1,1,[(.int .u8 0)],0,0,[],.u8⟩:=tyOk_of_mkTy (by kernel_rfl)
theorem E.to9:TyOk Tryz.prog 9 ⟨3,1,16,[(.str [])],0,0,[],.i64⟩:=tyOk_of_mkTy (by kernel_rfl)
theorem E.to20:TyOk Tryz.prog 20 ⟨0,1,16,[.undef],0,0,[],.i64⟩:=tyOk_of_mkTy (by kernel_rfl)
theorem E.to22:TyOk Tryz.prog 22 ⟨4,1,24,[.nils],9,0,[],.i64⟩:=tyOk_of_mkTy (by kernel_rfl)
theorem E.to23:TyOk Tryz.prog 23 ⟨1,1,8,[(.int .i64 0)],0,0,[],.i64⟩:=tyOk_of_mkTy (by kernel_rfl)
theorem E.to29:TyOk Tryz.prog 29 ⟨7,1,8,[.nilp],33,0,[],.i64⟩:=tyOk_of_mkTy (by kernel_rfl)
theorem E.to30:TyOk Tryz.prog 30 ⟨7,1,8,[.nilp],45,0,[],.i64⟩:=tyOk_of_mkTy (by kernel_rfl)
theorem E.to33:TyOk Tryz.prog 33 ⟨6,1,8,[.nilp],0,0,[(0,30,1)],.i64⟩:=tyOk_of_mkTy (by kernel_rfl)
theorem E.to35:TyOk Tryz.prog 35 ⟨4,1,24,[.nils],59,0,[],.i64⟩:=tyOk_of_mkTy (by kernel_rfl)
theorem E.to36:TyOk Tryz.prog 36 ⟨4,1,24,[.nils],118,0,[],.i64⟩:=tyOk_of_mkTy (by kernel_rfl)
theorem E.to38:TyOk Tryz.prog 38 ⟨6,2,48,[.nils,.nils],0,0,[(0,35,1),(1,36,1)],.i64⟩:=tyOk_of_mkTy (by kernel_rfl)
theorem E.to42:TyOk Tryz.prog 42 ⟨4,1,24,[.nils],85,0,[],.i64⟩:=tyOk_of_mkTy (by kernel_rfl)
theorem E.to43:TyOk Tryz.prog 43 ⟨4,1,24,[.nils],168,0,[],.i64⟩:=tyOk_of_mkTy (by kernel_rfl)
theorem E.to45:TyOk Tryz.prog 45 ⟨6,2,48,[.nils,.nils],0,0,[(0,42,1),(1,43,1)],.i64⟩:=tyOk_of_mkTy (by kernel_rfl)
theorem E.to48:TyOk Tryz.prog 48 ⟨6,1,8,[(.int .i64 0)],0,0,[(0,23,1)],.i64⟩:=tyOk_of_mkTy (by kernel_rfl)
theorem E.to56:TyOk Tryz.prog 56 ⟨0,1,8,[.nilf],0,0,[],.i64⟩:=tyOk_of_mkTy (by kernel_rfl)
theorem E.to59:TyOk Tryz.prog 59 ⟨6,3,32,[(.str []),(.int .i64 0),(.int .i64 0)],0,0,[(0,9,1),(1,3,1),(2,3,1)],.i64⟩:=tyOk_of_mkTy (by kernel_rfl)
theorem E.to60:TyOk Tryz.prog 60 ⟨0,1,8,[.undef],0,0,[],.i64⟩:=tyOk_of_mkTy (by kernel_rfl)
theorem E.to61:TyOk Tryz.prog 61 ⟨4,1,24,[.nils],3,0,[],.i64⟩:=tyOk_of_mkTy (by kernel_rfl)
theorem E.to62:TyOk Tryz.prog 62 ⟨0,1,8,[.undef],0,0,[],.i64⟩:=tyOk_of_mkTy (by kernel_rfl)
theorem E.to67:TyOk Tryz.prog 67 ⟨6,4,48,[(.int .i64 0),(.int .i64 0),(.str []),(.str [])],0,0,[(0,3,1),(1,3,1),(2,9,1),(3,9,1)],.i64⟩:=tyOk_of_mkTy (by kernel_rfl)
theorem E.to69:TyOk Tryz.prog 69 ⟨6,2,24,[(.str []),(.int .i64 0)],0,0,[(0,9,1),(1,3,1)],.i64⟩:=tyOk_of_mkTy (by kernel_rfl)
theorem E.to75:TyOk Tryz.prog 75 ⟨4,1,24,[.nils],5,0,[],.i64⟩:=tyOk_of_mkTy (by kernel_rfl)
theorem E.to80:TyOk Tryz.prog 80 ⟨0,1,16,[.undef],0,0,[],.i64⟩:=tyOk_of_mkTy (by kernel_rfl)
theorem E.to85:TyOk Tryz.prog 85 ⟨6,3,32,[(.str []),(.int .i64 0),(.int .i64 0)],0,0,[(0,9,1),(1,3,1),(2,3,1)],.i64⟩:=tyOk_of_mkTy (by kernel_rfl)
theorem E.to99:TyOk Tryz.prog 99 ⟨6,2,16,[(.int .i64 0),(.int .i64 0)],0,0,[(0,3,1),(1,3,1)],.i64⟩:=tyOk_of_mkTy (by kernel_rfl)
theorem E.to110:TyOk Tryz.prog 110 ⟨0,1,8,[.nilf],0,0,[],.i64⟩:=tyOk_of_mkTy (by kernel_rfl)
theorem E.to118:TyOk Tryz.prog 118 ⟨6,3,40,[(.str []),(.str []),(.int .i64 0)],0,0,[(0,9,1),(1,9,1),(2,3,1)],.i64⟩:=tyOk_of_mkTy (by kernel_rfl)
theorem E.to123:TyOk Tryz.prog 123 ⟨0,1,8,[.nilf],0,0,[],.i64⟩:=tyOk_of_mkTy (by kernel_rfl)
theorem E.to126:TyOk Tryz.prog 126 ⟨0,1,8,[.nilf],0,0,[],.i64⟩:=tyOk_of_mkTy (by kernel_rfl)
theorem E.to129:TyOk Tryz.prog 129 ⟨0,1,8,[.nilf],0,0,[],.i64⟩:=tyOk_of_mkTy (by kernel_rfl)
theorem E.to143:TyOk Tryz.prog 143 ⟨5,256,256,(List.replicate 256 (.bool false)),4,256,[],.i64⟩:=tyOk_of_mkTy (by kernel_rfl)
theorem E.to147:TyOk Tryz.prog 147 ⟨7,1,8,[.nilp],143,0,[],.i64⟩:=tyOk_of_mkTy (by kernel_rfl)
theorem E.to152:TyOk Tryz.prog 152 ⟨0,1,8,[.nilf],0,0,[],.i64⟩:=tyOk_of_mkTy (by kernel_rfl)
theorem E.to165:TyOk Tryz.prog 165 ⟨0,1,8,[.nilf],0,0,[],.i64⟩:=tyOk_of_mkTy (by kernel_rfl)
theorem E.to168:TyOk Tryz.prog 168 ⟨6,3,40,[(.str []),(.str []),(.int .i64 0)],0,0,[(0,9,1),(1,9,1),(2,3,1)],.i64⟩:=tyOk_of_mkTy (by kernel_rfl)
theorem E.to169:TyOk Tryz.prog 169 ⟨0,1,8,[.nilf],0,0,[],.i64⟩:=tyOk_of_mkTy (by kernel_rfl)
theorem E.to195:TyOk Tryz.prog 195 ⟨5,10,10,(List.replicate 10 (.bool false)),4,10,[],.i64⟩:=tyOk_of_mkTy (by kernel_rfl)
theorem E.mt60:E.mp 60 = some ⟨3,.i64,1,(.int .i64 0)⟩:=rfl
theorem E.mo60:MtOk Tryz.prog 60 ⟨3,.i64,1,(.int .i64 0)⟩:=mtOk_of_mkMt (by kernel_rfl)
theorem E.mt62:E.mp 62 = some ⟨1,.i64,1,(.int .i64 0)⟩:=rfl
theorem E.mo62:MtOk Tryz.prog 62 ⟨1,.i64,1,(.int .i64 0)⟩:=mtOk_of_mkMt (by kernel_rfl)
theorem E.fo3:FnOk Tryz.prog 3 (fi 25 Tryz.f3 []):=fk Tryz.func3 rfl rfl (by kernel_rfl)
theorem E.fo4:FnOk Tryz.prog 4 (fi 38 Tryz.f4 []):=fk Tryz.func4 rfl rfl (by kernel_rfl)
theorem E.fo5:FnOk Tryz.prog 5 (fi 43 Tryz.f5 [1000011]):=fk Tryz.func5 rfl rfl (by kernel_rfl)
theorem E.fo6:FnOk Tryz.prog 6 (fi 8 Tryz.f6 []):=fk Tryz.func6 rfl rfl (by kernel_rfl)
theorem E.fo8:FnOk Tryz.prog 8 (fi 3 Tryz.f8 []):=fk Tryz.func8 rfl rfl (by kernel_rfl)
theorem E.fo9:FnOk Tryz.prog 9 (fi 59 Tryz.f9 []):=fk Tryz.func9 rfl rfl (by kernel_rfl)
theorem E.fo10:FnOk Tryz.prog 10 (fi 167 Tryz.f10 [3,12,17,23,29,33,43,46,1000046]):=fk Tryz.func10 rfl rfl (by kernel_rfl)
theorem E.fo11:FnOk Tryz.prog 11 (fi 26 Tryz.f11 []):=fk Tryz.func11 rfl rfl (by kernel_rfl)
theorem E.fo15:FnOk Tryz.prog 15 (fi 7 Tryz.f15 []):=fk Tryz.func15 rfl rfl (by kernel_rfl)
theorem E.fo17:FnOk Tryz.prog 17 (fi 22 Tryz.f17 []):=fk Tryz.func17 rfl rfl (by kernel_rfl)
theorem E.fo18:FnOk Tryz.prog 18 (fi 99 Tryz.f18 [10,12,1000012,26,2000034]):=fk Tryz.func18 rfl rfl (by kernel_rfl)
theorem E.fo19:FnOk Tryz.prog 19 (fi 160 Tryz.f19 []):=fk Tryz.func19 rfl rfl (by kernel_rfl)
theorem E.fo22:FnOk Tryz.prog 22 (fi 6 Tryz.f22 []):=fk Tryz.func22 rfl rfl (by kernel_rfl)
theorem E.fo23:FnOk Tryz.prog 23 (fi 25 Tryz.f23 []):=fk Tryz.func23 rfl rfl (by kernel_rfl)
theorem E.fo24:FnOk Tryz.prog 24 (fi 192 Tryz.f24 [7,21,33]):=fk Tryz.func24 rfl rfl (by kernel_rfl)
theorem E.fo25:FnOk Tryz.prog 25 (fi 364 Tryz.f25 [1,1000004,1000016,1000018,1000020,1000024,1000026,1000028,1000030,1000032,1000039,1000045,1000047,1000049,1000051,1000068,1000070,1000071]):=fk Tryz.func25 rfl rfl (by kernel_rfl)
theorem E.fo33:FnOk Tryz.prog 33 (fi 37 Tryz.f33 []):=fk Tryz.func33 rfl rfl (by kernel_rfl)
theorem E.fo34:FnOk Tryz.prog 34 (fi 113 Tryz.f34 [5,3000023,3000028,3000030,2000076,2000081,2000085]):=fk Tryz.func34 rfl rfl (by kernel_rfl)
theorem E.fo35:FnOk Tryz.prog 35 (fi 34 Tryz.f35 []):=fk Tryz.func35 rfl rfl (by kernel_rfl)
theorem E.fo36:FnOk Tryz.prog 36 (fi 19 Tryz.f36 []):=fk Tryz.func36 rfl rfl (by kernel_rfl)
theorem E.fo37:FnOk Tryz.prog 37 (fi 20 Tryz.f37 []):=fk Tryz.func37 rfl rfl (by kernel_rfl)
theorem E.fo38:FnOk Tryz.prog 38 (fi 73 Tryz.f38 []):=fk Tryz.func38 rfl rfl (by kernel_rfl)
theorem E.fo39:FnOk Tryz.prog 39 (fi 40 Tryz.f39 []):=fk Tryz.func39 rfl rfl (by kernel_rfl)
theorem E.fo40:FnOk Tryz.prog 40 (fi 88 Tryz.f40 []):=fk Tryz.func40 rfl rfl (by kernel_rfl)
theorem E.fo41:FnOk Tryz.prog 41 (fi 56 Tryz.f41 []):=fk Tryz.func41 rfl rfl (by kernel_rfl)
theorem E.fo42:FnOk Tryz.prog 42 (fi 35 Tryz.f42 []):=fk Tryz.func42 rfl rfl (by kernel_rfl)
theorem E.fo43:FnOk Tryz.prog 43 (fi 33 Tryz.f43 []):=fk Tryz.func43 rfl rfl (by kernel_rfl)
theorem E.fo44:FnOk Tryz.prog 44 (fi 43 Tryz.f44 []):=fk Tryz.func44 rfl rfl (by kernel_rfl)
theorem E.fo46:FnOk Tryz.prog 46 (fi 17 Tryz.f46 []):=fk Tryz.func46 rfl rfl (by kernel_rfl)
theorem E.fo47:FnOk Tryz.prog 47 (fi 26 Tryz.f47 []):=fk Tryz.func47 rfl rfl (by kernel_rfl)
theorem E.fo48:FnOk Tryz.prog 48 (fi 38 Tryz.f48 [11]):=fk Tryz.func48 rfl rfl (by kernel_rfl)
theorem E.fo49:FnOk Tryz.prog 49 (fi 10 Tryz.f49 []):=fk Tryz.func49 rfl rfl (by kernel_rfl)
theorem E.fo50:FnOk Tryz.prog 50 (fi 42 Tryz.f50 []):=fk Tryz.func50 rfl rfl (by kernel_rfl)
theorem E.fo51:FnOk Tryz.prog 51 (fi 38 Tryz.f51 []):=fk Tryz.func51 rfl rfl (by kernel_rfl)
theorem E.fo52:FnOk Tryz.prog 52 (fi 29 Tryz.f52 []):=fk Tryz.func52 rfl rfl (by kernel_rfl)
theorem E.fo53:FnOk Tryz.prog 53 (fi 36 Tryz.f53 []):=fk Tryz.func53 rfl rfl (by kernel_rfl)
theorem E.fo54:FnOk Tryz.prog 54 (fi 61 Tryz.f54 []):=fk Tryz.func54 rfl rfl (by kernel_rfl)
theorem E.fo55:FnOk Tryz.prog 55 (fi 32 Tryz.f55 []):=fk Tryz.func55 rfl rfl (by kernel_rfl)
theorem E.fo56:FnOk Tryz.prog 56 (fi 25 Tryz.f56 []):=fk Tryz.func56 rfl rfl (by kernel_rfl)
theorem E.fo57:FnOk Tryz.prog 57 (fi 14 Tryz.f57 []):=fk Tryz.func57 rfl rfl (by kernel_rfl)
theorem E.fo58:FnOk Tryz.prog 58 (fi 8 Tryz.f58 []):=fk Tryz.func58 rfl rfl (by kernel_rfl)
theorem E.fo59:FnOk Tryz.prog 59 (fi 8 Tryz.f59 []):=fk Tryz.func59 rfl rfl (by kernel_rfl)
theorem E.fo60:FnOk Tryz.prog 60 (fi 28 Tryz.f60 [1000005]):=fk Tryz.func60 rfl rfl (by kernel_rfl)
theorem E.fo61:FnOk Tryz.prog 61 (fi 40 Tryz.f61 []):=fk Tryz.func61 rfl rfl (by kernel_rfl)
theorem E.fo62:FnOk Tryz.prog 62 (fi 9 Tryz.f62 []):=fk Tryz.func62 rfl rfl (by kernel_rfl)
theorem E.fo63:FnOk Tryz.prog 63 (fi 5 Tryz.f63 []):=fk Tryz.func63 rfl rfl (by kernel_rfl)
theorem E.fo64:FnOk Tryz.prog 64 (fi 79 Tryz.f64 []):=fk Tryz.func64 rfl rfl (by kernel_rfl)
theorem E.fo65:FnOk Tryz.prog 65 (fi 15 Tryz.f65 []):=fk Tryz.func65 rfl rfl (by kernel_rfl)
theorem E.fo66:FnOk Tryz.prog 66 (fi 9 Tryz.f66 []):=fk Tryz.func66 rfl rfl (by kernel_rfl)
theorem E.fo67:FnOk Tryz.prog 67 (fi 42 Tryz.f67 []):=fk Tryz.func67 rfl rfl (by kernel_rfl)
theorem E.fo68:FnOk Tryz.prog 68 (fi 6 Tryz.f68 []):=fk Tryz.func68 rfl rfl (by kernel_rfl)
theorem E.fo76:FnOk Tryz.prog 76 (fi 40 Tryz.f76 []):=fk Tryz.func76 rfl rfl (by kernel_rfl)
theorem E.fo77:FnOk Tryz.prog 77 (fi 41 Tryz.f77 []):=fk Tryz.func77 rfl rfl (by kernel_rfl)
theorem E.fo78:FnOk Tryz.prog 78 (fi 22 Tryz.f78 []):=fk Tryz.func78 rfl rfl (by kernel_rfl)
theorem E.fo79:FnOk Tryz.prog 79 (fi 39 Tryz.f79 []):=fk Tryz.func79 rfl rfl (by kernel_rfl)
theorem E.fo80:FnOk Tryz.prog 80 (fi 27 Tryz.f80 []):=fk Tryz.func80 rfl rfl (by kernel_rfl)
theorem E.fo81:FnOk Tryz.prog 81 (fi 11 Tryz.f81 []):=fk Tryz.func81 rfl rfl (by kernel_rfl)
theorem E.fo82:FnOk Tryz.prog 82 (fi 37 Tryz.f82 []):=fk Tryz.func82 rfl rfl (by kernel_rfl)
theorem E.fo83:FnOk Tryz.prog 83 (fi 31 Tryz.f83 []):=fk Tryz.func83 rfl rfl (by kernel_rfl)
theorem E.fo84:FnOk Tryz.prog 84 (fi 75 Tryz.f84 [6,2000081]):=fk Tryz.func84 rfl rfl (by kernel_rfl)
theorem E.fo85:FnOk Tryz.prog 85 (fi 122 Tryz.f85 [7]):=fk Tryz.func85 rfl rfl (by kernel_rfl)
theorem E.fo86:FnOk Tryz.prog 86 (fi 46 Tryz.f86 []):=fk Tryz.func86 rfl rfl (by kernel_rfl)
theorem E.fo87:FnOk Tryz.prog 87 (fi 12 Tryz.f87 []):=fk Tryz.func87 rfl rfl (by kernel_rfl)
theorem E.fo88:FnOk Tryz.prog 88 (fi 14 Tryz.f88 []):=fk Tryz.func88 rfl rfl (by kernel_rfl)
theorem E.fo89:FnOk Tryz.prog 89 (fi 33 Tryz.f89 []):=fk Tryz.func89 rfl rfl (by kernel_rfl)
theorem E.fo90:FnOk Tryz.prog 90 (fi 36 Tryz.f90 []):=fk Tryz.func90 rfl rfl (by kernel_rfl)
theorem E.fo91:FnOk Tryz.prog 91 (fi 13 Tryz.f91 []):=fk Tryz.func91 rfl rfl (by kernel_rfl)
theorem E.fo92:FnOk Tryz.prog 92 (fi 61 Tryz.f92 []):=fk Tryz.func92 rfl rfl (by kernel_rfl)
theorem E.fo93:FnOk Tryz.prog 93 (fi 33 Tryz.f93 []):=fk Tryz.func93 rfl rfl (by kernel_rfl)
theorem E.fo94:FnOk Tryz.prog 94 (fi 13 Tryz.f94 []):=fk Tryz.func94 rfl rfl (by kernel_rfl)
theorem E.fo95:FnOk Tryz.prog 95 (fi 17 Tryz.f95 []):=fk Tryz.func95 rfl rfl (by kernel_rfl)
theorem E.fo96:FnOk Tryz.prog 96 (fi 23 Tryz.f96 []):=fk Tryz.func96 rfl rfl (by kernel_rfl)
theorem E.fo97:FnOk Tryz.prog 97 (fi 21 Tryz.f97 []):=fk Tryz.func97 rfl rfl (by kernel_rfl)
theorem E.fo98:FnOk Tryz.prog 98 (fi 16 Tryz.f98 []):=fk Tryz.func98 rfl rfl (by kernel_rfl)
theorem E.fo99:FnOk Tryz.prog 99 (fi 22 Tryz.f99 []):=fk Tryz.func99 rfl rfl (by kernel_rfl)
theorem E.fo104:FnOk Tryz.prog 104 (fi 9 Tryz.f104 []):=fk Tryz.func104 rfl rfl (by kernel_rfl)
theorem E.fo105:FnOk Tryz.prog 105 (fi 8 Tryz.f105 []):=fk Tryz.func105 rfl rfl (by kernel_rfl)
theorem E.fo106:FnOk Tryz.prog 106 (fi 50 Tryz.f106 []):=fk Tryz.func106 rfl rfl (by kernel_rfl)
theorem E.fo107:FnOk Tryz.prog 107 (fi 33 Tryz.f107 []):=fk Tryz.func107 rfl rfl (by kernel_rfl)
theorem E.fo108:FnOk Tryz.prog 108 (fi 19 Tryz.f108 []):=fk Tryz.func108 rfl rfl (by kernel_rfl)
theorem E.fo109:FnOk Tryz.prog 109 (fi 19 Tryz.f109 []):=fk Tryz.func109 rfl rfl (by kernel_rfl)
theorem E.fo110:FnOk Tryz.prog 110 (fi 8 Tryz.f110 []):=fk Tryz.func110 rfl rfl (by kernel_rfl)
theorem E.fo111:FnOk Tryz.prog 111 (fi 19 Tryz.f111 []):=fk Tryz.func111 rfl rfl (by kernel_rfl)
theorem E.fo123:FnOk Tryz.prog 123 (fi 24 Tryz.f123 []):=fk Tryz.func123 rfl rfl (by kernel_rfl)
theorem E.fo124:FnOk Tryz.prog 124 (fi 21 Tryz.f124 []):=fk Tryz.func124 rfl rfl (by kernel_rfl)
theorem E.fo125:FnOk Tryz.prog 125 (fi 42 Tryz.f125 []):=fk Tryz.func125 rfl rfl (by kernel_rfl)
theorem E.fo126:FnOk Tryz.prog 126 (fi 19 Tryz.f126 []):=fk Tryz.func126 rfl rfl (by kernel_rfl)
theorem E.fo127:FnOk Tryz.prog 127 (fi 8 Tryz.f127 []):=fk Tryz.func127 rfl rfl (by kernel_rfl)
theorem E.fo128:FnOk Tryz.prog 128 (fi 9 Tryz.f128 []):=fk Tryz.func128 rfl rfl (by kernel_rfl)
theorem E.fo129:FnOk Tryz.prog 129 (fi 14 Tryz.f129 []):=fk Tryz.func129 rfl rfl (by kernel_rfl)
theorem E.fo130:FnOk Tryz.prog 130 (fi 33 Tryz.f130 []):=fk Tryz.func130 rfl rfl (by kernel_rfl)
theorem E.fo131:FnOk Tryz.prog 131 (fi 68 Tryz.f131 []):=fk Tryz.func131 rfl rfl (by kernel_rfl)
theorem E.fo132:FnOk Tryz.prog 132 (fi 33 Tryz.f132 []):=fk Tryz.func132 rfl rfl (by kernel_rfl)
theorem E.fo133:FnOk Tryz.prog 133 (fi 31 Tryz.f133 []):=fk Tryz.func133 rfl rfl (by kernel_rfl)
theorem E.fo134:FnOk Tryz.prog 134 (fi 16 Tryz.f134 []):=fk Tryz.func134 rfl rfl (by kernel_rfl)
theorem E.fo135:FnOk Tryz.prog 135 (fi 27 Tryz.f135 []):=fk Tryz.func135 rfl rfl (by kernel_rfl)
theorem E.fo136:FnOk Tryz.prog 136 (fi 10 Tryz.f136 []):=fk Tryz.func136 rfl rfl (by kernel_rfl)
theorem E.fo144:FnOk Tryz.prog 144 (fi 19 Tryz.f144 []):=fk Tryz.func144 rfl rfl (by kernel_rfl)
theorem E.fo145:FnOk Tryz.prog 145 (fi 21 Tryz.f145 []):=fk Tryz.func145 rfl rfl (by kernel_rfl)
theorem E.fo153:FnOk Tryz.prog 153 (fi 19 Tryz.f153 []):=fk Tryz.func153 rfl rfl (by kernel_rfl)
theorem E.mpAll:TrAll (MtOk Tryz.prog) E.mpTr id:=(.none .nil (.none (.none .nil (.none .nil (.none .nil (.some E.mo60 .nil .nil)))) (.none .nil (.none .nil (.none .nil (.some E.mo62 .nil .nil))))))
theorem E.tyAll:TrAll (TyOk Tryz.prog) E.tyTr id:=(.none (.some E.to1 (.some E.to3 (.none (.none .nil (.none (.none (.some E.to143 .nil .nil) .nil) .nil)) (.some E.to23 .nil .nil)) (.none (.none (.some E.to35 (.some E.to67 .nil (.some E.to195 .nil .nil)) (.some E.to99 .nil .nil)) (.none (.none (.some E.to147 .nil .nil) .nil) .nil)) (.none (.some E.to43 (.some E.to75 .nil .nil) .nil) (.some E.to59 .nil (.some E.to123 .nil .nil))))) (.some E.to5 (.some E.to9 (.none (.some E.to33 (.none (.some E.to129 .nil .nil) .nil) .nil) .nil) (.none (.none .nil (.none (.some E.to169 .nil .nil) .nil)) .nil)) (.none (.none (.none (.some E.to69 .nil .nil) (.none (.some E.to165 .nil .nil) .nil)) (.none (.some E.to85 .nil .nil) .nil)) (.some E.to29 (.some E.to45 .nil .nil) (.some E.to61 .nil .nil))))) (.some E.to2 (.some E.to4 (.none (.none .nil (.some E.to48 (.some E.to80 .nil .nil) .nil)) (.none (.none .nil (.none (.some E.to168 .nil .nil) .nil)) (.some E.to56 (.none (.some E.to152 .nil .nil) .nil) .nil))) (.none (.some E.to20 (.some E.to36 .nil .nil) .nil) (.none .nil (.some E.to60 .nil .nil)))) (.none (.none .nil (.none (.some E.to42 .nil .nil) .nil)) (.none (.some E.to22 (.some E.to38 .nil .nil) (.none .nil (.some E.to118 .nil .nil))) (.some E.to30 (.none .nil (.some E.to110 .nil .nil)) (.some E.to62 .nil (.some E.to126 .nil .nil)))))))
theorem E.fnAll:TrAll (FnOk Tryz.prog) E.fnTr id:=(.none (.none (.some E.fo3 (.none (.some E.fo15 (.none (.some E.fo63 (.some E.fo127 .nil .nil) .nil) (.some E.fo95 .nil .nil)) (.some E.fo47 (.some E.fo79 .nil .nil) (.some E.fo111 .nil .nil))) (.some E.fo23 (.some E.fo39 (.none (.some E.fo135 .nil .nil) .nil) .nil) (.some E.fo55 (.some E.fo87 .nil .nil) .nil))) (.some E.fo11 (.some E.fo19 (.some E.fo35 (.some E.fo67 (.some E.fo131 .nil .nil) .nil) (.some E.fo99 .nil .nil)) (.some E.fo51 (.some E.fo83 .nil .nil) .nil)) (.none (.some E.fo43 .nil (.some E.fo107 .nil .nil)) (.some E.fo59 (.some E.fo91 .nil .nil) (.some E.fo123 .nil .nil))))) (.some E.fo5 (.some E.fo9 (.some E.fo17 (.some E.fo33 (.some E.fo65 (.some E.fo129 .nil .nil) .nil) (.some E.fo97 .nil .nil)) (.some E.fo49 (.some E.fo81 (.some E.fo145 .nil .nil) .nil) .nil)) (.some E.fo25 (.some E.fo41 .nil (.some E.fo105 .nil .nil)) (.some E.fo57 (.some E.fo89 (.some E.fo153 .nil .nil) .nil) .nil))) (.none (.none (.some E.fo37 (.none (.some E.fo133 .nil .nil) .nil) .nil) (.some E.fo53 (.some E.fo85 .nil .nil) .nil)) (.none (.none (.some E.fo77 .nil .nil) (.some E.fo109 .nil .nil)) (.some E.fo61 (.some E.fo93 .nil .nil) (.some E.fo125 .nil .nil)))))) (.none (.some E.fo4 (.some E.fo8 (.none (.none (.some E.fo64 (.some E.fo128 .nil .nil) .nil) (.some E.fo96 .nil .nil)) (.some E.fo48 (.some E.fo80 (.some E.fo144 .nil .nil) .nil) .nil)) (.some E.fo24 (.some E.fo40 (.none (.some E.fo136 .nil .nil) .nil) (.some E.fo104 .nil .nil)) (.some E.fo56 (.some E.fo88 .nil .nil) .nil))) (.none (.none (.some E.fo36 (.some E.fo68 (.some E.fo132 .nil .nil) .nil) .nil) (.some E.fo52 (.some E.fo84 .nil .nil) .nil)) (.none (.some E.fo44 (.some E.fo76 .nil .nil) (.some E.fo108 .nil .nil)) (.some E.fo60 (.some E.fo92 .nil .nil) (.some E.fo124 .nil .nil))))) (.some E.fo6 (.some E.fo10 (.some E.fo18 (.some E.fo34 (.some E.fo66 (.some E.fo130 .nil .nil) .nil) (.some E.fo98 .nil .nil)) (.some E.fo50 (.some E.fo82 .nil .nil) .nil)) (.none (.some E.fo42 .nil (.some E.fo106 .nil .nil)) (.some E.fo58 (.some E.fo90 .nil .nil) .nil))) (.none (.some E.fo22 (.some E.fo38 (.none (.some E.fo134 .nil .nil) .nil) .nil) (.some E.fo54 (.some E.fo86 .nil .nil) .nil)) (.none (.some E.fo46 (.some E.fo78 .nil .nil) (.some E.fo110 .nil .nil)) (.some E.fo62 (.some E.fo94 .nil .nil) (.some E.fo126 .nil .nil)))))))
theorem E.ok (hx:∀ fl0 w0,tab w0→CallOk Tryz.prog w0.heap.size fl0 w0 E.ext.f):EnvOk Tryz.prog E:=⟨fun t y h=>TrAll.get E.tyAll t y h,by kernel_rfl,fun t y h=>TrAll.get E.mpAll t y h,hx⟩
theorem E.fns:∀ f fi,E.fn f = some fi→FnOk Tryz.prog f fi:=fun f fi h=>TrAll.get E.fnAll f fi h
end Go.Proofs.YtaphdnpjpmnaeadGreatDoor
namespace Go.Proofs.YtaphdnpjpmnaeadGreatDoor
set_option maxRecDepth 20000
set_option maxHeartbeats 4000000
open Go.Am
theorem F15.fn:E.fn 15 = some (fi 7 Tryz.f15 []):=rfl
theorem F15_ok {F:Nat} {m:Mem} {n:Nat} {r:Unit} {t0:Int} (h:F15 F t0 = some r) :Ret E n 15 [.sc (.int .i64 t0)] m n (fun v m' n'=>v = .tup []):=by
 unfold F15 at h
 refine Ret.walk F15.fn ?_
 refine WC.start fun S0 em en hz=>?_
 refine go ?_
 refine ci h (fun q1 h=>?_) fun q1 h=>?_
 ·refine go ?_;cases h
 cases h;refine go ?_
 exact fn
open Go.Am
theorem F33.fn:E.fn 33 = some (fi 37 Tryz.f33 []):=rfl
theorem F33_ok {F:Nat} {m:Mem} {n:Nat} {r:Int} {t0:List UInt8} (h:F33 F t0 = some r) :Ret E n 33 [.sc (.str t0)] m n (fun v m' n'=>v = .sc (.int .i64 r)):=by
 unfold F33 at h
 refine Ret.walk F33.fn ?_
 refine WC.start fun S0 em en hz=>?_
 refine go ?_
 refine WO.cutB (d:=13) 4 ((decide ((t0.length:Int) < 1)) || (decide ((t0.length:Int) > 6))) (fun q1=>?_) (fun q1=>?_) ?_
 ·refine go ?_;exact cu
 ·refine go ?_;exact cu
 obtain ⟨b7,e8,h⟩:=bindS h
 refine go ?_
 refine WC.mono (Q':=(fun b e l' m' n'=>e = .normal∧∃ S9:Cx n,S9.m = m'∧S9.n = n'∧Cov l' [(0,.sc (.str t0))]) b7) ?_ ?_
 ·have h:=e8
  dsimp only at h ⊢
  refine ci h (fun q2 h=>?_) fun q2 h=>?_
  ·obtain ⟨r3,e4,h⟩:=bindS h
   refine go ?_
   refine WO.callE rfl rfl (F15_ok e4) (fun S5 c6=>?_)
   cases h;refine go ?_
   exact fn
  cases h;refine go ?_
  exact fn
 dsimp only
 rintro _ _ _ _ ⟨rfl,⟨S10,rfl,rfl,hc11⟩⟩
 obtain ⟨L12,e13,h⟩:=bindS h
 refine go ?_
 refine WO.cvB 2 rfl e13 rfl rfl rfl rfl rfl rfl rfl rfl rfl (fun v14 S15 c16 ho17=>?_)
 obtain ⟨b32,e33,h⟩:=bindS h
 refine go ?_
 refine WC.loopD e33 (fun s18 l' m' n'=>∃ S19:Cx n,S19.m = m'∧S19.n = n'∧Cov l' [(3,.sc (.int .i64 s18.1)),(16,.sc v14),(17,.sc (.int .i64 ((L12.length:Int)))),(18,.sc (.int .i64 s18.2))]∧Ow Y5 S19 2 v14 L12) (fun b e l' m' n'=>e = .exit 0∧∃ S20:Cx n,S20.m = m'∧S20.n = n'∧Cov l' [(3,.sc (.int .i64 b))]) fn ?_ ?_
 ·rintro s18 q _ _ _ ⟨S21,rfl,rfl,hc22,ho17⟩ h
  unfold F33_l0 at h
  refine go ?_
  refine ci h (fun q23 h=>?_) fun q23 h=>?_
  ·obtain ⟨x24,e25,h⟩:=bindS h
   refine go ?_
   refine WO.cutB (d:=27) 3 ((decide (x24 < 48)) || (decide (x24 > 57))) (fun q26=>?_) (fun q26=>?_) ?_
   ·refine go ?_;exact cu
   ·refine go ?_;exact cu
   refine go ?_
   refine ci h (fun q27 h=>?_) fun q27 h=>?_
   ·obtain ⟨r28,e29,h⟩:=bindS h
    refine go ?_
    refine WO.callE rfl rfl (F15_ok e29) (fun S30 c31=>?_)
    cases h;refine go ?_
    exact fn
   cases h;refine go ?_
   exact fn
  cases h;refine go ?_
  exact fn
 rintro _ _ _ _ ⟨rfl,⟨S34,rfl,rfl,hc35⟩⟩
 cases h;refine go ?_
 exact fn
open Go.Am
theorem F36.fn:E.fn 36 = some (fi 19 Tryz.f36 []):=rfl
theorem F36_ok {F:Nat} {m:Mem} {n:Nat} {r:(List Int)} {t0:List (List UInt8)} {vt0:SV} (h:F36 F t0 = some r) (kt0:Vw Y9 n m vt0 t0):Ret E n 36 [.sc vt0] m n (fun v m' n'=>∃ w,v = .sc w∧Fr Y3 n m' n' w r):=by
 unfold F36 at h
 refine Ret.walk F36.fn ?_
 refine WC.start fun S0 em en hz=>?_
 have hot0:=kt0.rdS em hz
 obtain ⟨b27,e28,h⟩:=bindS h
 refine go ?_
 refine WC.loopD e28 (fun s1 l' m' n'=>∃ S3:Cx n,∃ v4:SV,S3.m = m'∧S3.n = n'∧Cov l' [(3,.sc v4),(6,.sc vt0),(7,.sc (.int .i64 ((t0.length:Int)))),(8,.sc (.int .i64 s1.2))]∧Rd Y9 S3 vt0 t0∧Ow Y3 S3 2 v4 s1.1) (fun b e l' m' n'=>e = .exit 0∧∃ S5:Cx n,∃ v6:SV,S5.m = m'∧S5.n = n'∧Cov l' [(3,.sc v6)]∧Ow Y3 S5 2 v6 b) fn ?_ ?_
 ·rintro s1 q _ _ _ ⟨S7,v8,rfl,rfl,hc9,hot0,ho3⟩ h
  unfold F36_l0 at h
  refine go ?_
  refine ci h (fun q10 h=>?_) fun q10 h=>?_
  ·obtain ⟨x11,e12,h⟩:=bindS h
   obtain ⟨r13,e14,h⟩:=bindS h
   refine go ?_
   refine WO.callE rfl rfl (F33_ok e14) (fun S15 c16=>?_)
   refine WO.bsS (A:=Y3) (M:=[r13]) (cs:=[.int .i64 r13]) 3 rfl rfl rfl ⟨[.int .i64 r13],_,rfl,rfl,rfl⟩ rfl (fun v17 S18 c19 ho20=>?_)
   obtain ⟨L21,e22,h⟩:=bindS h
   refine WO.appS rfl rfl tr ro e22 rfl rfl (fun v23 S24 c25 ho26=>?_)
   cases h;refine go ?_
   exact fn
  cases h;refine go ?_
  exact fn
 rintro _ _ _ _ ⟨rfl,⟨S29,v30,rfl,rfl,hc31,ho3⟩⟩
 cases h;refine go ?_
 exact fn
open Go.Am
def numL:Int→List UInt8→Option Int
 | a,[]=>some a
 | a,c :: r=>if (decide ((c.toNat:Int) < 48)) || (decide ((c.toNat:Int) > 57)) then none else numL (wrapA .i64 ((wrapA .i64 (10 * a)) + (wrapA .i64 (wrapA .u8 ((c.toNat:Int) - 48))))) r
theorem numL_cons (a:Int) (c:UInt8) (r:List UInt8):numL a (c :: r) = if (decide ((c.toNat:Int) < 48)) || (decide ((c.toNat:Int) > 57)) then none else numL (wrapA .i64 ((wrapA .i64 (10 * a)) + (wrapA .i64 (wrapA .u8 ((c.toNat:Int) - 48))))) r:=rfl
def num (s:List UInt8):Option Int:=if (decide ((s.length:Int) < 1)) || (decide ((s.length:Int) > 6)) then none else numL 0 s
def XN:Option Int→XR
 | some a=>.ok (.sc (.int .i64 a))
 | none=>.pan 10
theorem F33_it {F:Nat} (hF:0 < F) {s:List UInt8} {a v:Int} (k f:Nat) (h:numL a (s.drop k) = some v) (hk:k≤s.length) (hf:s.length - k < f) (hs:s.length≤6):iter (F33_l0 F (s.map fun b=>(b.toNat:Int))) f (a,(k:Int)) = some v:=by
 induction f generalizing a k with
 | zero=>omega
 | succ f ih=>
  have hl:(s.map fun b=>(b.toNat:Int)).length = s.length:=List.length_map _
  by_cases hlt:k < s.length
  ·rw [List.drop_eq_getElem_cons hlt,numL_cons] at h
   have e1:at? (s.map fun b=>(b.toNat:Int)) (k:Int) = some ((s[k]).toNat:Int):=by
    unfold at?
    rw [if_pos (by omega),Int.toNat_natCast,List.getElem?_map,List.getElem?_eq_getElem hlt];rfl
   split at h
   ·cases h
   ·rename_i hq
    have st:F33_l0 F (s.map fun b=>(b.toNat:Int)) (a,(k:Int)) = some (.more ((wrapA .i64 ((wrapA .i64 (10 * a)) + (wrapA .i64 (wrapA .u8 (((s[k]).toNat:Int) - 48))))),((k + 1:Nat):Int))):=by
     unfold F33_l0
     simp only [hl]
     rw [if_pos (decide_eq_true (by omega)),e1,Option.bind_some,if_neg hq,show wrapA .i64 ((k:Int) + 1) = ((k + 1:Nat):Int) from by rw [wrapA_id] <;> omega]
    simp only [iter,st]
    exact ih (k + 1) h (by omega) (by omega)
  ·have:k = s.length:=by omega
   subst this
   rw [List.drop_length] at h
   cases h
   have st:F33_l0 F (s.map fun b=>(b.toNat:Int)) (v,(s.length:Int)) = some (.stop v):=by
    unfold F33_l0
    simp only [hl]
    rw [if_neg (by simp)]
   simp only [iter,st]
theorem F33_num {s:List UInt8} {v:Int} (h:num s = some v):F33 8 s = some v:=by
 unfold num at h
 split at h
 ·cases h
 ·rename_i hq
  have hlen:1≤s.length∧s.length≤6:=by
   simp only [Bool.or_eq_true,decide_eq_true_eq] at hq;omega
  unfold F33
  rw [if_neg hq]
  have hb:bytes? s = some (s.map fun b=>(b.toNat:Int)):=by unfold bytes?;rw [if_pos (by omega)]
  rw [Option.bind_some,hb,Option.bind_some,show iter (F33_l0 8 (s.map fun b=>(b.toNat:Int))) 8 (0,0) = some v from F33_it (by decide) 0 8 h (by omega) (by omega) hlen.2];rfl
section
variable {B fl0:Nat} {w0:World} (hE:EnvOk Tryz.prog E) (hW:E.wc w0∧B = w0.heap.size)
def mustR (c:Int):XR:=if c = 0 then .ok (.tup []) else .pan c
theorem must_k (c:Int) {m:Mem} {n:Nat}:CX Tryz.prog pv B fl0 w0 15 [.sc (.int .i64 c)] m n fun x m' n'=>Keeps n n m m' n'∧x = mustR c:=
 (must_cx c).mono fun x m' n' ⟨h1,h2,h3⟩=>by subst h1;subst h2;exact ⟨Keeps.refl _ _ _,h3⟩
include hE hW
theorem F33x (s:List UInt8) {m:Mem} {n:Nat}:CX Tryz.prog pv B fl0 w0 33 [.sc (.str s)] m n fun x m' n'=>Keeps n n m m' n'∧x = XN (num s):=by
 refine CX.walkF hE E.fns F33.fn fun h0=>?_
 have hF:=E.fns
 refine WX.start fun S0 em en hz=>?_
 subst em
 have hk:=Kp.refl S0
 refine gx ?_
 refine WO.cutB (d:=13) 4 ((decide ((s.length:Int) < 1)) || (decide ((s.length:Int) > 6))) (fun q1=>?_) (fun q1=>?_) ?_
 ·refine go ?_;exact cu
 ·refine go ?_;exact cu
 refine go ?_
 refine gx ?_
 refine WX.cond rfl (fun q=>?_) (fun q=>?_)
 ·refine WX.region ?_
  refine WXO.callK rfl rfl rfl (must_k 10) (fun v S1 c1 e=>by cases e) (fun c S1 c1 e=>?_)
  cases e
  refine gx ?_
  refine ⟨Kp.ks trKp hz en,?_⟩
  unfold num;rw [if_pos q];rfl
 have hlen:1≤s.length∧s.length≤6:=by
  simp only [Bool.or_eq_false_iff,decide_eq_false_iff_not] at q;omega
 have hnum:num s = numL 0 s:=by unfold num;rw [if_neg (by rw [q];decide)]
 have hb:bytes? s = some (s.map fun b=>(b.toNat:Int)):=by unfold bytes?;rw [if_pos (by omega)]
 refine gx ?_
 refine WO.cvB 2 rfl hb rfl rfl rfl rfl rfl rfl rfl rfl rfl (fun v14 S2 c2 ho=>?_)
 refine go ?_
 refine gx ?_
 have hl:(s.map fun b=>(b.toNat:Int)).length = s.length:=List.length_map _
 refine WX.loop (fun i l m' n'=>∃ (k:Nat) (a:Int) (S:Cx n),i + k = s.length∧S.m = m'∧S.n = n'∧Kp S0 S∧Cov l [(3,.sc (.int .i64 a)),(16,.sc v14),(17,.sc (.int .i64 (s.length:Int))),(18,.sc (.int .i64 (k:Int)))]∧Ow Y5 S 2 v14 (s.map fun b=>(b.toNat:Int))∧numL a (s.drop k) = numL 0 s) ?_ (i:=s.length) ⟨0,0,S2,rfl,rfl,rfl,trKp,by rw [← hl];exact cv,ho,rfl⟩
 rintro i l m' n' ⟨k,a,S3,hi,rfl,rfl,hk3,hc,ho3,hn⟩
 refine gx ?_
 refine WX.cond rfl (fun q=>?_) (fun q=>?_)
 ·have q:=of_decide_eq_true q
  have hk4:k < s.length:=by omega
  have e1:at? (s.map fun b=>(b.toNat:Int)) (k:Int) = some ((s[k]).toNat:Int):=by
   unfold at?
   rw [if_pos (by omega),Int.toNat_natCast,List.getElem?_map,List.getElem?_eq_getElem hk4];rfl
  have e2:s.drop k = s[k] :: s.drop (k + 1):=List.drop_eq_getElem_cons hk4
  rw [e2] at hn
  refine gx ?_
  refine WO.cutB (d:=27) 3 ((decide (((s[k]).toNat:Int) < 48)) || (decide (((s[k]).toNat:Int) > 57))) (fun q26=>?_) (fun q26=>?_) ?_
  ·refine go ?_;exact cu
  ·refine go ?_;exact cu
  refine go ?_
  refine gx ?_
  refine WX.cond rfl (fun q2=>?_) (fun q2=>?_)
  ·refine WX.region ?_
   refine WXO.callK rfl rfl rfl (must_k 10) (fun v S1 c1 e=>by cases e) (fun c S1 c1 e=>?_)
   cases e
   refine gx ?_
   refine ⟨Kp.ks trKp hz en,?_⟩
   rw [numL_cons,if_pos q2] at hn
   rw [hnum,← hn];rfl
  rw [numL_cons,if_neg (by rw [q2];decide)] at hn
  refine gx ?_
  refine ⟨i - 1,by omega,k + 1,_,S3,by omega,rfl,rfl,trKp,?_,ho3,hn⟩
  rw [show ((k + 1:Nat):Int) = wrapA .i64 ((k:Int) + 1) from by rw [wrapA_id] <;> omega]
  exact cv
 refine gx ?_
 have q:=of_decide_eq_false q
 have hk4:k = s.length:=by omega
 subst hk4
 rw [List.drop_length] at hn
 refine gx ?_
 refine ⟨.inr rfl,_,_,rk,rfl,Kp.ks trKp hz en,?_⟩
 rw [hnum,← hn];rfl
theorem F36x {t0:List (List UInt8)} {vt0:SV} {m:Mem} {n:Nat} (kt:Vw Y9 n m vt0 t0) (hlen:t0.length≤100000):CX Tryz.prog pv B fl0 w0 36 [.sc vt0] m n fun x m' n'=>Keeps n n m m' n'∧match t0.mapM num with | some L=>∃ w,x = .ok (.sc w)∧Fr Y3 n m' n' w L | none=>x = .pan 10:=by
 refine CX.walkF hE E.fns F36.fn fun h0=>?_
 have hF:=E.fns
 refine WX.start fun S0 em en hz=>?_
 have hot0:=kt.rdS em hz
 subst em
 have hk:=Kp.refl S0
 refine gx ?_
 refine WX.loop (fun i l m' n'=>∃ (k:Nat) (acc:List Int) (v3:SV) (S:Cx n),i + k = t0.length∧S.m = m'∧S.n = n'∧Kp S0 S∧Cov l [(3,.sc v3),(6,.sc vt0),(7,.sc (.int .i64 (t0.length:Int))),(8,.sc (.int .i64 (k:Int)))]∧Ow Y3 S 2 v3 acc∧Rd Y9 S vt0 t0∧acc.length = k∧((t0.drop k).mapM num).map (acc ++ ·) = t0.mapM num) ?_ (i:=t0.length) ⟨0,[],.nils,S0,rfl,rfl,rfl,hk,cv,Ow.nil,hot0,rfl,by simp⟩
 rintro i l m' n' ⟨k,acc,v3,S3,hi,rfl,rfl,hk3,hc,ho3,hot0,ha,hn⟩
 refine gx ?_
 refine WX.cond rfl (fun q=>?_) (fun q=>?_)
 ·have q:=of_decide_eq_true q
  have hk4:k < t0.length:=by omega
  have e1:at? t0 (k:Int) = some t0[k]:=by
   unfold at?
   rw [if_pos (by omega),Int.toNat_natCast,List.getElem?_eq_getElem hk4]
  rw [List.drop_eq_getElem_cons hk4,List.mapM_cons] at hn
  refine gx ?_
  refine WX.region ?_
  refine WXO.pre hE hF hW h0 2 (by decide) (go ?_)
  refine WXO.callK rfl rfl rfl (F33x hE hW t0[k]) (fun v S1 c1 e=>?_) (fun c S1 c1 e=>?_)
  ·cases hx:num t0[k] with
   | none=>rw [hx] at e;cases e
   | some a=>
    rw [hx] at e hn
    cases e
    have e2:app? acc [a] = some (acc ++ [a]):=by unfold app?;rw [if_pos (by simp;omega)]
    refine WXO.pre hE hF hW h0 3 (by decide) ?_
    refine WO.bsS (A:=Y3) (M:=[a]) (cs:=[.int .i64 a]) 4 rfl rfl rfl ⟨[.int .i64 a],_,rfl,rfl,rfl⟩ rfl (fun v4 S4 c4 ho4=>?_)
    refine WO.appS rfl rfl tr ro e2 rfl rfl (fun v5 S5 c5 ho5=>?_)
    refine go ?_
    refine WXO.done (by decide) ?_
    refine gx ?_
    refine ⟨i - 1,by omega,k + 1,acc ++ [a],v5,_,by omega,rfl,rfl,?_,?_,?_,?_,by simp [ha],?_⟩
    rotate_left
    ·rw [show ((k + 1:Nat):Int) = wrapA .i64 ((k:Int) + 1) from by rw [wrapA_id] <;> omega]
     exact cv
    ·exact ho5
    ·exact trR
    ·rw [← hn]
     cases (t0.drop (k + 1)).mapM num with
     | none=>rfl
     | some L=>simp
    ·exact trKp
  ·cases hx:num t0[k] with
   | some a=>rw [hx] at e;cases e
   | none=>
    rw [hx] at e hn
    cases e
    refine gx ?_
    refine ⟨Kp.ks trKp hz en,?_⟩
    rw [← hn];rfl
 refine gx ?_
 have q:=of_decide_eq_false q
 have hk4:k = t0.length:=by omega
 subst hk4
 refine gx ?_
 rw [List.drop_length] at hn
 refine ⟨.inr rfl,_,_,rk,rfl,Kp.ks trKp hz en,?_⟩
 rw [← hn]
 exact ⟨_,rfl,by simpa using fr'⟩
end
open Go.Am
theorem F133.fn:E.fn 133 = some (fi 31 Tryz.f133 []):=rfl
theorem F133_ok {F:Nat} {m:Mem} {n:Nat} {r:Int} {t0:List Int} {vt0:SV} (h:F133 F t0 = some r) (kt0:Vw Y3 n m vt0 t0):Ret E n 133 [.sc vt0] m n (fun v m' n'=>v = .sc (.int .i64 r)):=by
 unfold F133 at h
 refine Ret.walk F133.fn ?_
 refine WC.start fun S0 em en hz=>?_
 have hot0:=kt0.rdS em hz
 refine go ?_
 refine ci h (fun q1 h=>?_) fun q1 h=>?_
 ·cases h;refine go ?_
  exact fn
 refine go ?_
 refine WO.alS (A:=Y195) (z0:=(List.replicate 10 false)) 2 rfl ⟨rfl,rfl⟩ rfl (fun v2 S3 c4 ho5=>?_)
 obtain ⟨b27,e28,h⟩:=bindS h
 refine go ?_
 refine WC.loopD e28 (fun s6 l' m' n'=>∃ S7:Cx n,S7.m = m'∧S7.n = n'∧Cov l' [(0,.sc vt0),(3,.sc v2),(9,.sc vt0),(10,.sc (.int .i64 ((t0.length:Int)))),(11,.sc (.int .i64 s6.1))]∧Rd Y3 S7 vt0 t0∧Bk Y195 S7 2 v2 s6.2) (fun b e l' m' n'=>(match b with | .inl b8=>e = .exit 0∧∃ S9:Cx n,S9.m = m'∧S9.n = n'∧Cov l' [] | .inr b8=>e = .ret∧∃ S10:Cx n,S10.m = m'∧S10.n = n'∧Cov l' [(2,.sc (.int .i64 b8))])) fn ?_ ?_
 ·rintro s6 q _ _ _ ⟨S11,rfl,rfl,hc12,hot0,ho5⟩ h
  unfold F133_l0 at h
  refine go ?_
  refine ci h (fun q13 h=>?_) fun q13 h=>?_
  ·obtain ⟨x14,e15,h⟩:=bindS h
   refine go ?_
   refine WO.cutB (d:=22) 5 ((decide (x14 < 0)) || (decide (x14 ≥ (t0.length:Int)))) (fun q16=>?_) (fun q16=>?_) ?_
   ·refine go ?_;exact cu
   ·refine go ?_;exact cu
   obtain ⟨y20,e21,h⟩:=bindS h
   refine go ?_
   refine WO.cutB (d:=27) 4 y20 (fun q19=>?_) (fun q19=>?_) ?_
   ·have h:=e21
    have h:=iteT q19 h
    cases h;refine go ?_
    exact cu
   ·have h:=e21
    have h:=iteF q19 h
    obtain ⟨x17,e18,h⟩:=bindS h
    cases h;refine go ?_
    exact cu
   refine go ?_
   refine ci h (fun q22 h=>?_) fun q22 h=>?_
   ·cases h;refine go ?_
    exact fn
   obtain ⟨u23,e24,h⟩:=bindS h
   refine go ?_
   refine WO.stR rfl rfl rfl tr ntl (by rfl) (by rfl) (fun S25 c26 ho5=>?_)
   cases h;refine go ?_
   exact fn
  cases h;refine go ?_
  exact fn
 cases b27 with
 | inl b29=>
  simp only at h
  rintro _ _ _ _ ⟨rfl,⟨S30,rfl,rfl,hc31⟩⟩
  cases h;refine go ?_
  exact fn
 | inr b29=>
  simp only at h
  rintro _ _ _ _ ⟨rfl,⟨S32,rfl,rfl,hc33⟩⟩
  cases h;refine go ?_
  exact fn
open Go.Am
theorem F86.fn:E.fn 86 = some (fi 46 Tryz.f86 []):=rfl
theorem F86_ok {F:Nat} {m:Mem} {n:Nat} {r:(List Int) × Int} {t0:List Int} {vt0:SV} (h:F86 F t0 = some r) (kt0:Vw Y3 n m vt0 t0):Ret E n 86 [.sc vt0] m n (fun v m' n'=>∃ w,v = .tup [.sc w,.sc (.int .i64 r.2)]∧Fr Y3 n m' n' w r.1):=by
 unfold F86 at h
 refine Ret.walk F86.fn ?_
 refine WC.start fun S0 em en hz=>?_
 have hot0:=kt0.rdS em hz
 obtain ⟨r1,e2,h⟩:=bindS h
 refine go ?_
 refine WO.callE rfl rfl (F133_ok e2 vw) (fun S3 c4=>?_)
 refine go ?_
 refine ci h (fun q5 h=>?_) fun q5 h=>?_
 ·cases h;refine go ?_
  exact fn
 obtain ⟨L6,e7,h⟩:=bindS h
 refine go ?_
 refine WO.mkS (A:=Y3) 2 rfl rfl e7 rfl rfl rfl (fun v8 S9 c10 ho11=>?_)
 obtain ⟨b43,e44,h⟩:=bindS h
 refine go ?_
 refine WC.loopD e44 (fun s12 l' m' n'=>∃ S13:Cx n,S13.m = m'∧S13.n = n'∧Cov l' [(0,.sc vt0),(5,.sc v8),(18,.sc vt0),(19,.sc (.int .i64 ((t0.length:Int)))),(20,.sc (.int .i64 s12.1))]∧Rd Y3 S13 vt0 t0∧Ow Y3 S13 2 v8 s12.2) (fun b e l' m' n'=>e = .exit 0∧∃ S14:Cx n,S14.m = m'∧S14.n = n'∧Cov l' [(5,.sc v8)]∧Ow Y3 S14 2 v8 b) fn ?_ ?_
 ·rintro s12 q _ _ _ ⟨S15,rfl,rfl,hc16,hot0,ho11⟩ h
  unfold F86_l1 at h
  refine go ?_
  refine ci h (fun q17 h=>?_) fun q17 h=>?_
  ·obtain ⟨x18,e19,h⟩:=bindS h
   obtain ⟨L20,e21,h⟩:=bindS h
   refine go ?_
   refine WO.slc (k':=.i64) rfl (.inl ⟨_,rfl,rfl⟩) (.inr ⟨rfl,rfl⟩) (trR (S:=S15)) e21 rfl (fun v22 ho23=>?_)
   have ho23:Rd Y3 S15 v22 L20:=ho23
   obtain ⟨b39,e40,h⟩:=bindS h
   refine go ?_
   refine WC.loopD e40 (fun s24 l' m' n'=>∃ S25:Cx n,S25.m = m'∧S25.n = n'∧Cov l' [(0,.sc vt0),(5,.sc v8),(6,.sc (.int .i64 s12.1)),(7,.sc (.int .i64 x18)),(18,.sc vt0),(19,.sc (.int .i64 ((t0.length:Int)))),(20,.sc (.int .i64 s12.1)),(28,.sc v22),(29,.sc (.int .i64 ((L20.length:Int)))),(30,.sc (.int .i64 s24.1))]∧Rd Y3 S25 vt0 t0∧Ow Y3 S25 2 v8 s24.2∧Rd Y3 S25 v22 L20) (fun b e l' m' n'=>e = .exit 2∧∃ S26:Cx n,S26.m = m'∧S26.n = n'∧Cov l' [(0,.sc vt0),(5,.sc v8),(18,.sc vt0),(19,.sc (.int .i64 ((t0.length:Int)))),(20,.sc (.int .i64 s12.1))]∧Rd Y3 S26 vt0 t0∧Ow Y3 S26 2 v8 b) fn ?_ ?_
   ·rintro s24 q _ _ _ ⟨S27,rfl,rfl,hc28,hot0,ho11,ho23⟩ h
    unfold F86_l0 at h
    refine go ?_
    refine ci h (fun q29 h=>?_) fun q29 h=>?_
    ·obtain ⟨x30,e31,h⟩:=bindS h
     refine go ?_
     refine ci h (fun q32 h=>?_) fun q32 h=>?_
     ·obtain ⟨x33,e34,h⟩:=bindS h
      obtain ⟨u35,e36,h⟩:=bindS h
      refine go ?_
      refine WO.st1 (u':=(wrapA .i64 (x33 + 1))) rfl rfl tr ntl (by rfl) (by rfl) (fun S37 c38 ho11=>?_)
      cases h;refine go ?_
      exact fn
     cases h;refine go ?_
     exact fn
    cases h;refine go ?_
    exact fn
   rintro _ _ _ _ ⟨rfl,⟨S41,rfl,rfl,hc42,hot0,ho11⟩⟩
   cases h;refine go ?_
   exact fn
  cases h;refine go ?_
  exact fn
 rintro _ _ _ _ ⟨rfl,⟨S45,rfl,rfl,hc46,ho11⟩⟩
 cases h;refine go ?_
 exact fn
open Go.Am
theorem F35.fn:E.fn 35 = some (fi 34 Tryz.f35 []):=rfl
theorem F35_ok {F:Nat} {m:Mem} {n:Nat} {r:Int × Int} {t0:List Int} {vt0:SV} (h:F35 F t0 = some r) (kt0:Vw Y3 n m vt0 t0):Ret E n 35 [.sc vt0] m n (fun v m' n'=>v = .tup [.sc (.int .i64 r.1),.sc (.int .i64 r.2)]):=by
 unfold F35 at h
 refine Ret.walk F35.fn ?_
 refine WC.start fun S0 em en hz=>?_
 have hot0:=kt0.rdS em hz
 obtain ⟨r1,e2,h⟩:=bindS h
 refine go ?_
 refine WO.callF 2 rfl rfl (F86_ok e2 vw) Lay.flat_fl (fun v3 S5 c6 ho4=>?_)
 refine go ?_
 refine ci h (fun q7 h=>?_) fun q7 h=>?_
 ·cases h;refine go ?_
  exact fn
 obtain ⟨b16,e17,h⟩:=bindS h
 refine go ?_
 refine WC.loopD e17 (fun s8 l' m' n'=>∃ S9:Cx n,S9.m = m'∧S9.n = n'∧Cov l' [(4,.sc v3),(6,.sc (.int .i64 s8.1)),(17,.sc v3),(18,.sc (.int .i64 ((r1.1.length:Int)))),(19,.sc (.int .i64 s8.2))]∧Ow Y3 S9 2 v3 r1.1) (fun b e l' m' n'=>e = .exit 0∧∃ S10:Cx n,S10.m = m'∧S10.n = n'∧Cov l' [(6,.sc (.int .i64 b))]) fn ?_ ?_
 ·rintro s8 q _ _ _ ⟨S11,rfl,rfl,hc12,ho4⟩ h
  unfold F35_l0 at h
  refine go ?_
  refine ci h (fun q13 h=>?_) fun q13 h=>?_
  ·obtain ⟨x14,e15,h⟩:=bindS h
   cases h;refine go ?_
   exact fn
  cases h;refine go ?_
  exact fn
 rintro _ _ _ _ ⟨rfl,⟨S18,rfl,rfl,hc19⟩⟩
 cases h;refine go ?_
 exact fn
open Go.Am
theorem F14_ok {F:Nat} {m:Mem} {n:Nat} {r:List UInt8} {t0:Int} (h:F14 F t0 = some r):Ret E n 14 [.sc (.int .i64 t0)] m n (fun v m' n'=>v = .sc (.str r)):=ext_itoa (k:=sno) (Fs:=Fs) h rfl rfl (by decide)
open Go.Am
theorem F37.fn:E.fn 37 = some (fi 20 Tryz.f37 []):=rfl
theorem F37_ok {F:Nat} {m:Mem} {n:Nat} {r:(List UInt8)} {t0:List Int} {vt0:SV} (h:F37 F t0 = some r) (kt0:Vw Y3 n m vt0 t0):Ret E n 37 [.sc vt0] m n (fun v m' n'=>v = .sc (.str r)):=by
 unfold F37 at h
 refine Ret.walk F37.fn ?_
 refine WC.start fun S0 em en hz=>?_
 have hot0:=kt0.rdS em hz
 obtain ⟨b17,e18,h⟩:=bindS h
 refine go ?_
 refine WC.loopD e18 (fun s1 l' m' n'=>∃ S2:Cx n,S2.m = m'∧S2.n = n'∧Cov l' [(3,.sc (.str s1.1)),(6,.sc vt0),(7,.sc (.int .i64 ((t0.length:Int)))),(8,.sc (.int .i64 s1.2))]∧Rd Y3 S2 vt0 t0) (fun b e l' m' n'=>e = .exit 0∧∃ S3:Cx n,S3.m = m'∧S3.n = n'∧Cov l' [(3,.sc (.str b))]) fn ?_ ?_
 ·rintro s1 q _ _ _ ⟨S4,rfl,rfl,hc5,hot0⟩ h
  unfold F37_l0 at h
  refine go ?_
  refine ci h (fun q6 h=>?_) fun q6 h=>?_
  ·obtain ⟨x7,e8,h⟩:=bindS h
   obtain ⟨r9,e10,h⟩:=bindS h
   refine go ?_
   refine WO.callE rfl rfl (F14_ok e10) (fun S11 c12=>?_)
   obtain ⟨x13,e14,h⟩:=bindS h
   obtain ⟨x15,e16,h⟩:=bindS h
   cases h;refine go ?_
   exact fn
  cases h;refine go ?_
  exact fn
 rintro _ _ _ _ ⟨rfl,⟨S19,rfl,rfl,hc20⟩⟩
 obtain ⟨x21,e22,h⟩:=bindS h
 cases h;refine go ?_
 exact fn
open Go.Am
theorem F88.fn:E.fn 88 = some (fi 14 Tryz.f88 []):=rfl
theorem F88_ok {F:Nat} {m:Mem} {n:Nat} {r:Int} {t0:Int} (h:F88 F t0 = some r) :Ret E n 88 [.sc (.int .i64 t0)] m n (fun v m' n'=>v = .sc (.int .i64 r)):=by
 unfold F88 at h
 refine Ret.walk F88.fn ?_
 refine WC.start fun S0 em en hz=>?_
 obtain ⟨b7,e8,h⟩:=bindS h
 refine go ?_
 refine WC.loopD e8 (fun s1 l' m' n'=>∃ S2:Cx n,S2.m = m'∧S2.n = n'∧Cov l' [(0,.sc (.int .i64 t0)),(3,.sc (.int .i64 s1.1)),(4,.sc (.int .i64 s1.2))]) (fun b e l' m' n'=>e = .exit 0∧∃ S3:Cx n,S3.m = m'∧S3.n = n'∧Cov l' [(3,.sc (.int .i64 b))]) fn ?_ ?_
 ·rintro s1 q _ _ _ ⟨S4,rfl,rfl,hc5⟩ h
  unfold F88_l0 at h
  refine go ?_
  refine ci h (fun q6 h=>?_) fun q6 h=>?_
  ·cases h;refine go ?_
   exact fn
  cases h;refine go ?_
  exact fn
 rintro _ _ _ _ ⟨rfl,⟨S9,rfl,rfl,hc10⟩⟩
 cases h;refine go ?_
 exact fn
open Go.Am
theorem F87.fn:E.fn 87 = some (fi 12 Tryz.f87 []):=rfl
theorem F87_ok {F:Nat} {m:Mem} {n:Nat} {r:Int × Int} {t0:Int} (h:F87 F t0 = some r) :Ret E n 87 [.sc (.int .i64 t0)] m n (fun v m' n'=>v = .tup [.sc (.int .i64 r.1),.sc (.int .i64 r.2)]):=by
 unfold F87 at h
 refine Ret.walk F87.fn ?_
 refine WC.start fun S0 em en hz=>?_
 refine go ?_
 refine WO.cutB (d:=9) 3 ((decide (t0 < 0)) || (decide (t0 > 10))) (fun q1=>?_) (fun q1=>?_) ?_
 ·refine go ?_;exact cu
 ·refine go ?_;exact cu
 refine go ?_
 refine ci h (fun q2 h=>?_) fun q2 h=>?_
 ·cases h;refine go ?_
  exact fn
 obtain ⟨r3,e4,h⟩:=bindS h
 refine go ?_
 refine WO.callE rfl rfl (F88_ok e4) (fun S5 c6=>?_)
 cases h;refine go ?_
 exact fn
open Go.Am
theorem F89.fn:E.fn 89 = some (fi 33 Tryz.f89 []):=rfl
theorem F89_ok {F:Nat} {fl n b:Nat} {m:Mem} {v:SV} {t0 M:(List Int)} {t1 t2:Int} (h:F89 F t0 t1 t2 = some M) (hfl:fl≤n) (kt0:Ov Y3 fl n b m v t0):Ret E fl 89 [.sc v,.sc (.int .i64 t1),.sc (.int .i64 t2)] m n (fun v' m' n'=>∃ w,v' = .sc w∧Oq Y3 n b m m' w M):=by
 unfold F89 at h
 replace h:delB? 17592186044416 t0 t1 t2 = some M:=by split at h;exact h;cases h
 obtain ⟨⟨hq0,hq1,hq2,hq3,hq4⟩,rfl⟩:=delB?_some h
 obtain ⟨c,cs,rfl,h1,h2,h3,h4,h5,h6⟩:=kt0
 have h5:cs.length = c * 1:=h5
 have hsz:Y3.sz = 1:=rfl
 refine Ret.walk F89.fn ?_
 repeat (first | refine WC.seq ?_ | refine thenL_n ?_ | refine thenL_r ?_ | refine WC.region ?_ | refine WO.nil ?_ | refine WC.skip ?_ | refine WC.ret ?_ | refine WO.asg rfl ?_ | refine WO.mv rfl ?_)
 refine WO.lenS rfl (.inr ⟨b,0,c,rfl,h1⟩) rfl ?_
 refine WO.slH3 rfl rfl rfl rfl ⟨hq0,hq1,hq2,by omega⟩ rfl (fun w0=>?_)
 repeat (first | refine WC.seq ?_ | refine thenL_n ?_ | refine thenL_r ?_ | refine WC.region ?_ | refine WO.nil ?_ | refine WC.skip ?_ | refine WC.ret ?_ | refine WO.asg rfl ?_ | refine WO.mv rfl ?_)
 refine WO.bin rfl rfl (by decide) (by decide) rfl ?_
 repeat (first | refine WC.seq ?_ | refine thenL_n ?_ | refine thenL_r ?_ | refine WC.region ?_ | refine WO.nil ?_ | refine WC.skip ?_ | refine WC.ret ?_ | refine WO.asg rfl ?_ | refine WO.mv rfl ?_)
 refine WC.cond rfl (fun q=>?_) (fun q=>?_)
 ·repeat (first | refine WC.seq ?_ | refine thenL_n ?_ | refine thenL_r ?_ | refine WC.region ?_ | refine WO.nil ?_ | refine WC.skip ?_ | refine WC.ret ?_ | refine WO.asg rfl ?_ | refine WO.mv rfl ?_)
  have e:t1 = t2:=by simpa using q
  subst e
  have eL:t0.take t1.toNat ++ t0.drop t1.toNat = t0:=List.take_append_drop _ _
  exact ⟨.inr rfl,_,_,rfl,rfl,_,rfl,fun _ _ _=>rfl,c,cs,by rw [eL],by rw [eL];exact h1,h4,h5,by rw [eL];exact h6⟩
 ·have e:¬ t1 = t2:=by simpa using q
  repeat (first | refine WC.seq ?_ | refine thenL_n ?_ | refine thenL_r ?_ | refine WC.region ?_ | refine WO.nil ?_ | refine WC.skip ?_ | refine WC.ret ?_ | refine WO.asg rfl ?_ | refine WO.mv rfl ?_)
  refine WO.lenS rfl (.inr ⟨b,0,c,rfl,h1⟩) rfl ?_
  repeat (first | refine WC.seq ?_ | refine thenL_n ?_ | refine thenL_r ?_ | refine WC.region ?_ | refine WO.nil ?_ | refine WC.skip ?_ | refine WC.ret ?_ | refine WO.asg rfl ?_ | refine WO.mv rfl ?_)
  refine WC.drawN rfl rfl ?_
  repeat (first | refine WC.seq ?_ | refine thenL_n ?_ | refine thenL_r ?_ | refine WC.region ?_ | refine WO.nil ?_ | refine WC.skip ?_ | refine WC.ret ?_ | refine WO.asg rfl ?_ | refine WO.mv rfl ?_)
  refine WO.slHto rfl rfl ⟨by omega,by omega⟩ rfl ?_
  repeat (first | refine WC.seq ?_ | refine thenL_n ?_ | refine thenL_r ?_ | refine WC.region ?_ | refine WO.nil ?_ | refine WC.skip ?_ | refine WC.ret ?_ | refine WO.asg rfl ?_ | refine WO.mv rfl ?_)
  refine WO.slHfrom rfl rfl ⟨by omega,by omega,h1⟩ h4 (by show 0 + t0.length * 1≤cs.length;omega) rfl (fun w1 hw1=>?_)
  refine WO.appHB (bnd:=17592186044416) rfl rfl hw1 h4 (by show 0 + c * 1≤cs.length;omega) (by omega) (by omega) rfl h2 rfl ?_
  repeat (first | refine WC.seq ?_ | refine thenL_n ?_ | refine thenL_r ?_ | refine WC.region ?_ | refine WO.nil ?_ | refine WC.skip ?_ | refine WC.ret ?_ | refine WO.asg rfl ?_ | refine WO.mv rfl ?_)
  refine WO.lenS rfl (.inr ⟨b,0,c,rfl,by omega⟩) rfl ?_
  repeat (first | refine WC.seq ?_ | refine thenL_n ?_ | refine thenL_r ?_ | refine WC.region ?_ | refine WO.nil ?_ | refine WC.skip ?_ | refine WC.ret ?_ | refine WO.asg rfl ?_ | refine WO.mv rfl ?_)
  refine WO.slHmid rfl rfl rfl ⟨by omega,by omega,by omega,by omega⟩ rfl ?_
  refine WO.clrH rfl (Tr.get_set_same _ _ _) ?_ h2 rfl (fun z hz=>?_)
  ·show _≤(splice cs (0 + t1.toNat * 1) _).length
   simp only [splice,List.length_append,List.length_take,List.length_drop,Int.toNat_natCast,hsz,Nat.zero_add]
   omega
  ·repeat (first | refine WC.seq ?_ | refine thenL_n ?_ | refine thenL_r ?_ | refine WC.region ?_ | refine WO.nil ?_ | refine WC.skip ?_ | refine WC.ret ?_ | refine WO.asg rfl ?_ | refine WO.mv rfl ?_)
   have hl:(t0.take t1.toNat ++ t0.drop t2.toNat).length = t1.toNat + (t0.length - t2.toNat):=by simp;omega
   refine ⟨.inr rfl,_,_,rfl,rfl,_,rfl,fun i _ hb=>by rw [Tr.get_set_ne _ _ hb,Tr.get_set_ne _ _ hb],c,_,by rw [hl],by rw [hl];omega,Tr.get_set_same _ _ _,?_,?_⟩
   ·simp only [splice,List.length_append,List.length_take,List.length_drop,Int.toNat_natCast,hz,hsz,Nat.zero_add]
    omega
   ·have hR:RL Y3 (fun i=>i < n∧i≠b) m _ _:=del_RL (zz:=z) (p:=t1.toNat) (r:=t2.toNat) (lo:=t1.toNat + (t0.length - t2.toNat)) h6 (by omega) (by omega) (by rw [hsz];omega) rfl
    exact RL.fl Lay.flat_fl hR
open Go.Am
theorem F38.fn:E.fn 38 = some (fi 73 Tryz.f38 []):=rfl
theorem F38_ok {F:Nat} {m:Mem} {n:Nat} {r:(List Int) × Int} {t0:Int} {t1:Int} (h:F38 F t0 t1 = some r) :Ret E n 38 [.sc (.int .i64 t0),.sc (.int .i64 t1)] m n (fun v m' n'=>∃ w,v = .tup [.sc w,.sc (.int .i64 r.2)]∧Fr Y3 n m' n' w r.1):=by
 unfold F38 at h
 refine Ret.walk F38.fn ?_
 refine WC.start fun S0 em en hz=>?_
 obtain ⟨r1,e2,h⟩:=bindS h
 refine go ?_
 refine WO.callE rfl rfl (F87_ok e2) (fun S3 c4=>?_)
 refine go ?_
 refine WO.cutB (d:=23) 3 ((r1.2 != 0) || (decide (t1 < 0))) (fun q5=>?_) (fun q5=>?_) ?_
 ·refine go ?_;exact cu
 ·refine go ?_;exact cu
 refine go ?_
 refine WO.cutB (d:=28) 4 (((r1.2 != 0) || (decide (t1 < 0))) || (decide (t1 ≥ r1.1))) (fun q6=>?_) (fun q6=>?_) ?_
 ·refine go ?_;exact cu
 ·refine go ?_;exact cu
 refine go ?_
 refine ci h (fun q7 h=>?_) fun q7 h=>?_
 ·cases h;refine go ?_
  exact fn
 obtain ⟨L8,e9,h⟩:=bindS h
 refine go ?_
 refine WO.mkS (A:=Y3) 2 rfl rfl e9 rfl rfl rfl (fun v10 S11 c12 ho13=>?_)
 obtain ⟨b24,e25,h⟩:=bindS h
 refine go ?_
 refine WC.loopD e25 (fun s14 l' m' n'=>∃ S15:Cx n,S15.m = m'∧S15.n = n'∧Cov l' [(0,.sc (.int .i64 t0)),(1,.sc (.int .i64 t1)),(8,.sc v10),(32,.sc (.int .i64 ((L8.length:Int)))),(33,.sc (.int .i64 s14.1))]∧Ow Y3 S15 2 v10 s14.2) (fun b e l' m' n'=>e = .exit 0∧∃ S16:Cx n,S16.m = m'∧S16.n = n'∧Cov l' [(0,.sc (.int .i64 t0)),(1,.sc (.int .i64 t1)),(8,.sc v10)]∧Ow Y3 S16 2 v10 b) fn ?_ ?_
 ·rintro s14 q _ _ _ ⟨S17,rfl,rfl,hc18,ho13⟩ h
  unfold F38_l0 at h
  refine go ?_
  refine ci h (fun q19 h=>?_) fun q19 h=>?_
  ·obtain ⟨u20,e21,h⟩:=bindS h
   refine go ?_
   refine WO.st1 (u':=s14.1) rfl rfl tr ntl (by rfl) (by rfl) (fun S22 c23 ho13=>?_)
   cases h;refine go ?_
   exact fn
  cases h;refine go ?_
  exact fn
 rintro _ _ _ _ ⟨rfl,⟨S26,rfl,rfl,hc27,ho13⟩⟩
 obtain ⟨L28,e29,h⟩:=bindS h
 refine go ?_
 refine WO.mkC (A:=Y3) 3 rfl rfl e29 rfl rfl rfl (fun v30 S31 c32 ho33=>?_)
 obtain ⟨b77,e78,h⟩:=bindS h
 refine go ?_
 refine WC.loopD e78 (fun s34 l' m' n'=>∃ S37:Cx n,∃ v38 v39:SV,S37.m = m'∧S37.n = n'∧Cov l' [(1,.sc (.int .i64 s34.1)),(8,.sc v38),(10,.sc v39),(11,.sc (.int .i64 s34.2.2.2))]∧Ow Y3 S37 2 v38 s34.2.1∧Ow Y3 S37 3 v39 s34.2.2.1) (fun b e l' m' n'=>e = .exit 2∧∃ S40:Cx n,∃ v41:SV,S40.m = m'∧S40.n = n'∧Cov l' [(10,.sc v41)]∧Ow Y3 S40 3 v41 b) fn ?_ ?_
 ·rintro s34 q _ _ _ ⟨S42,v43,v44,rfl,rfl,hc45,ho8,ho10⟩ h
  unfold F38_l1 at h
  refine go ?_
  refine ci h (fun q46 h=>?_) fun q46 h=>?_
  ·obtain ⟨r47,e48,h⟩:=bindS h
   refine go ?_
   refine WO.callE rfl rfl (F88_ok e48) (fun S49 c50=>?_)
   obtain ⟨x51,e52,h⟩:=bindS h
   obtain ⟨x53,e54,h⟩:=bindS h
   refine go ?_
   refine WO.bsS (A:=Y3) (M:=[x53]) (cs:=[.int .i64 x53]) 4 rfl rfl rfl ⟨[.int .i64 x53],_,rfl,rfl,rfl⟩ rfl (fun v55 S56 c57 ho58=>?_)
   obtain ⟨L59,e60,h⟩:=bindS h
   refine WO.appS rfl rfl tr ro e60 rfl rfl (fun v61 S62 c63 ho64=>?_)
   have h:=bindE e52 h
   have h:=bindE e52 h
   obtain ⟨r69,e70,h⟩:=bindS h
   refine go ?_
   refine WO.callO tr (delB?_ne e70) rfl rfl (fun bq hI=>F89_ok e70 S62.le hI) Lay.flat_fl (fun v71 S72 c73 ho74=>?_)
   obtain ⟨x75,e76,h⟩:=bindS h
   cases h;refine go ?_
   exact fn
  cases h;refine go ?_
  exact fn
 rintro _ _ _ _ ⟨rfl,⟨S79,v80,rfl,rfl,hc81,ho10⟩⟩
 cases h;refine go ?_
 exact fn
open Go.Am
theorem F90.fn:E.fn 90 = some (fi 36 Tryz.f90 []):=rfl
theorem F90_ok {F:Nat} {m:Mem} {n:Nat} {r:Int} {t0:List Int} {vt0:SV} (h:F90 F t0 = some r) (kt0:Vw Y3 n m vt0 t0):Ret E n 90 [.sc vt0] m n (fun v m' n'=>v = .sc (.int .i64 r)):=by
 unfold F90 at h
 refine Ret.walk F90.fn ?_
 refine WC.start fun S0 em en hz=>?_
 have hot0:=kt0.rdS em hz
 obtain ⟨b20,e21,h⟩:=bindS h
 refine go ?_
 refine WC.loopD e21 (fun s1 l' m' n'=>∃ S2:Cx n,S2.m = m'∧S2.n = n'∧Cov l' [(0,.sc vt0),(3,.sc (.int .i64 s1.1)),(6,.sc vt0),(7,.sc (.int .i64 ((t0.length:Int)))),(8,.sc (.int .i64 s1.2))]∧Rd Y3 S2 vt0 t0) (fun b e l' m' n'=>(match b with | .inl b3=>e = .exit 0∧∃ S4:Cx n,S4.m = m'∧S4.n = n'∧Cov l' [] | .inr b3=>e = .ret∧∃ S5:Cx n,S5.m = m'∧S5.n = n'∧Cov l' [(2,.sc (.int .i64 b3))])) fn ?_ ?_
 ·rintro s1 q _ _ _ ⟨S6,rfl,rfl,hc7,hot0⟩ h
  unfold F90_l0 at h
  refine go ?_
  refine ci h (fun q8 h=>?_) fun q8 h=>?_
  ·obtain ⟨x9,e10,h⟩:=bindS h
   refine go ?_
   refine WO.cutB (d:=18) 3 ((decide (x9 < 1)) || (decide (x9 > 40))) (fun q11=>?_) (fun q11=>?_) ?_
   ·refine go ?_;exact cu
   ·refine go ?_;exact cu
   refine go ?_
   refine ci h (fun q12 h=>?_) fun q12 h=>?_
   ·cases h;refine go ?_
    exact fn
   obtain ⟨y16,e17,h⟩:=bindS h
   refine go ?_
   refine WO.cutB (d:=29) 8 y16 (fun q15=>?_) (fun q15=>?_) ?_
   ·have h:=e17
    have h:=iteT q15 h
    obtain ⟨x13,e14,h⟩:=bindS h
    cases h;refine go ?_
    exact cu
   ·have h:=e17
    have h:=iteF q15 h
    cases h;refine go ?_
    exact cu
   refine go ?_
   refine ci h (fun q18 h=>?_) fun q18 h=>?_
   ·cases h;refine go ?_
    exact fn
   refine go ?_
   refine ci h (fun q19 h=>?_) fun q19 h=>?_
   ·cases h;refine go ?_
    exact fn
   cases h;refine go ?_
   exact fn
  cases h;refine go ?_
  exact fn
 cases b20 with
 | inl b22=>
  simp only at h
  rintro _ _ _ _ ⟨rfl,⟨S23,rfl,rfl,hc24⟩⟩
  cases h;refine go ?_
  exact fn
 | inr b22=>
  simp only at h
  rintro _ _ _ _ ⟨rfl,⟨S25,rfl,rfl,hc26⟩⟩
  cases h;refine go ?_
  exact fn
open Go.Am
theorem F39.fn:E.fn 39 = some (fi 40 Tryz.f39 []):=rfl
theorem F39_ok {F:Nat} {m:Mem} {n:Nat} {r:(List Int) × Int} {t0:List Int} {vt0:SV} (h:F39 F t0 = some r) (kt0:Vw Y3 n m vt0 t0):Ret E n 39 [.sc vt0] m n (fun v m' n'=>∃ w,v = .tup [.sc w,.sc (.int .i64 r.2)]∧Fr Y3 n m' n' w r.1):=by
 unfold F39 at h
 refine Ret.walk F39.fn ?_
 refine WC.start fun S0 em en hz=>?_
 have hot0:=kt0.rdS em hz
 obtain ⟨r1,e2,h⟩:=bindS h
 refine go ?_
 refine WO.callE rfl rfl (F90_ok e2 vw) (fun S3 c4=>?_)
 refine go ?_
 refine ci h (fun q5 h=>?_) fun q5 h=>?_
 ·cases h;refine go ?_
  exact fn
 obtain ⟨b59,e60,h⟩:=bindS h
 refine go ?_
 refine WC.loopD e60 (fun s6 l' m' n'=>∃ S8:Cx n,∃ v9:SV,S8.m = m'∧S8.n = n'∧Cov l' [(5,.sc v9),(14,.sc vt0),(15,.sc (.int .i64 ((t0.length:Int)))),(16,.sc (.int .i64 s6.2))]∧Rd Y3 S8 vt0 t0∧Ow Y3 S8 2 v9 s6.1) (fun b e l' m' n'=>e = .exit 0∧∃ S10:Cx n,∃ v11:SV,S10.m = m'∧S10.n = n'∧Cov l' [(5,.sc v11)]∧Ow Y3 S10 2 v11 b) fn ?_ ?_
 ·rintro s6 q _ _ _ ⟨S12,v13,rfl,rfl,hc14,hot0,ho5⟩ h
  unfold F39_l2 at h
  refine go ?_
  refine ci h (fun q15 h=>?_) fun q15 h=>?_
  ·obtain ⟨x16,e17,h⟩:=bindS h
   obtain ⟨b38,e39,h⟩:=bindS h
   refine go ?_
   refine WC.loopD e39 (fun s18 l' m' n'=>∃ S20:Cx n,∃ v21:SV,S20.m = m'∧S20.n = n'∧Cov l' [(5,.sc v21),(7,.sc (.int .i64 x16)),(14,.sc vt0),(15,.sc (.int .i64 ((t0.length:Int)))),(16,.sc (.int .i64 s6.2))]∧Rd Y3 S20 vt0 t0∧Ow Y3 S20 2 v21 s18) (fun b e l' m' n'=>e = .exit 2∧∃ S22:Cx n,∃ v23:SV,S22.m = m'∧S22.n = n'∧Cov l' [(5,.sc v23),(7,.sc (.int .i64 x16)),(14,.sc vt0),(15,.sc (.int .i64 ((t0.length:Int)))),(16,.sc (.int .i64 s6.2))]∧Rd Y3 S22 vt0 t0∧Ow Y3 S22 2 v23 b) fn ?_ ?_
   ·rintro s18 q _ _ _ ⟨S24,v25,rfl,rfl,hc26,hot0,ho5⟩ h
    unfold F39_l0 at h
    refine go ?_
    refine ci h (fun q27 h=>?_) fun q27 h=>?_
    ·refine go ?_
     refine WO.bsS (A:=Y3) (M:=[0]) (cs:=[.int .i64 0]) 3 rfl rfl rfl ⟨[.int .i64 0],_,rfl,rfl,rfl⟩ rfl (fun v28 S29 c30 ho31=>?_)
     obtain ⟨L32,e33,h⟩:=bindS h
     refine WO.appS rfl rfl tr ro e33 rfl rfl (fun v34 S35 c36 ho37=>?_)
     cases h;refine go ?_
     exact fn
    cases h;refine go ?_
    exact fn
   rintro _ _ _ _ ⟨rfl,⟨S40,v41,rfl,rfl,hc42,hot0,ho5⟩⟩
   obtain ⟨b55,e56,h⟩:=bindS h
   refine go ?_
   refine WC.loopD e56 (fun s43 l' m' n'=>∃ S44:Cx n,S44.m = m'∧S44.n = n'∧Cov l' [(5,.sc v41),(14,.sc vt0),(15,.sc (.int .i64 ((t0.length:Int)))),(16,.sc (.int .i64 s6.2)),(27,.sc (.int .i64 x16)),(28,.sc (.int .i64 s43.1))]∧Ow Y3 S44 2 v41 s43.2∧Rd Y3 S44 vt0 t0) (fun b e l' m' n'=>e = .exit 4∧∃ S45:Cx n,S45.m = m'∧S45.n = n'∧Cov l' [(5,.sc v41),(14,.sc vt0),(15,.sc (.int .i64 ((t0.length:Int)))),(16,.sc (.int .i64 s6.2))]∧Ow Y3 S45 2 v41 b∧Rd Y3 S45 vt0 t0) fn ?_ ?_
   ·rintro s43 q _ _ _ ⟨S46,rfl,rfl,hc47,ho5,hot0⟩ h
    unfold F39_l1 at h
    refine go ?_
    refine ci h (fun q48 h=>?_) fun q48 h=>?_
    ·obtain ⟨x49,e50,h⟩:=bindS h
     obtain ⟨u51,e52,h⟩:=bindS h
     refine go ?_
     refine WO.st1 (u':=(wrapA .i64 (x49 + 1))) rfl rfl tr ntl (by rfl) (by rfl) (fun S53 c54 ho5=>?_)
     cases h;refine go ?_
     exact fn
    cases h;refine go ?_
    exact fn
   rintro _ _ _ _ ⟨rfl,⟨S57,rfl,rfl,hc58,ho5,hot0⟩⟩
   cases h;refine go ?_
   exact fn
  cases h;refine go ?_
  exact fn
 rintro _ _ _ _ ⟨rfl,⟨S61,v62,rfl,rfl,hc63,ho5⟩⟩
 cases h;refine go ?_
 exact fn
open Go.Am
theorem F40.fn:E.fn 40 = some (fi 88 Tryz.f40 []):=rfl
theorem F40_ok {F:Nat} {m:Mem} {n:Nat} {r:Int × Int} {t0:List Int} {vt0:SV} (h:F40 F t0 = some r) (kt0:Vw Y3 n m vt0 t0):Ret E n 40 [.sc vt0] m n (fun v m' n'=>v = .tup [.sc (.int .i64 r.1),.sc (.int .i64 r.2)]):=by
 unfold F40 at h
 refine Ret.walk F40.fn ?_
 refine WC.start fun S0 em en hz=>?_
 have hot0:=kt0.rdS em hz
 obtain ⟨b20,e21,h⟩:=bindS h
 refine go ?_
 refine WC.loopD e21 (fun s1 l' m' n'=>∃ S2:Cx n,S2.m = m'∧S2.n = n'∧Cov l' [(0,.sc vt0),(4,.sc (.int .i64 s1.1)),(15,.sc vt0),(16,.sc (.int .i64 ((t0.length:Int)))),(17,.sc (.int .i64 s1.2))]∧Rd Y3 S2 vt0 t0) (fun b e l' m' n'=>(match b with | .inl b3=>e = .exit 0∧∃ S4:Cx n,S4.m = m'∧S4.n = n'∧Cov l' [(0,.sc vt0),(4,.sc (.int .i64 b3))]∧Rd Y3 S4 vt0 t0 | .inr b3=>e = .ret∧∃ S5:Cx n,S5.m = m'∧S5.n = n'∧Cov l' [(2,.sc (.int .i64 b3.1)),(3,.sc (.int .i64 b3.2))])) fn ?_ ?_
 ·rintro s1 q _ _ _ ⟨S6,rfl,rfl,hc7,hot0⟩ h
  unfold F40_l0 at h
  refine go ?_
  refine ci h (fun q8 h=>?_) fun q8 h=>?_
  ·obtain ⟨x9,e10,h⟩:=bindS h
   refine go ?_
   refine WO.cutB (d:=27) 3 ((decide (x9 < 1)) || (decide (x9 > 12))) (fun q11=>?_) (fun q11=>?_) ?_
   ·refine go ?_;exact cu
   ·refine go ?_;exact cu
   refine go ?_
   refine ci h (fun q12 h=>?_) fun q12 h=>?_
   ·cases h;refine go ?_
    exact fn
   obtain ⟨y16,e17,h⟩:=bindS h
   refine go ?_
   refine WO.cutB (d:=38) 8 y16 (fun q15=>?_) (fun q15=>?_) ?_
   ·have h:=e17
    have h:=iteT q15 h
    obtain ⟨x13,e14,h⟩:=bindS h
    cases h;refine go ?_
    exact cu
   ·have h:=e17
    have h:=iteF q15 h
    cases h;refine go ?_
    exact cu
   refine go ?_
   refine ci h (fun q18 h=>?_) fun q18 h=>?_
   ·cases h;refine go ?_
    exact fn
   refine go ?_
   refine ci h (fun q19 h=>?_) fun q19 h=>?_
   ·cases h;refine go ?_
    exact fn
   cases h;refine go ?_
   exact fn
  cases h;refine go ?_
  exact fn
 cases b20 with
 | inl b22=>
  simp only at h
  rintro _ _ _ _ ⟨rfl,⟨S23,rfl,rfl,hc24,hot0⟩⟩
  obtain ⟨b31,e32,h⟩:=bindS h
  refine go ?_
  refine WC.loopD e32 (fun s25 l' m' n'=>∃ S26:Cx n,S26.m = m'∧S26.n = n'∧Cov l' [(0,.sc vt0),(4,.sc (.int .i64 b22)),(7,.sc (.int .i64 s25.1)),(8,.sc (.int .i64 s25.2))]∧Rd Y3 S26 vt0 t0) (fun b e l' m' n'=>e = .exit 2∧∃ S27:Cx n,S27.m = m'∧S27.n = n'∧Cov l' [(0,.sc vt0),(7,.sc (.int .i64 b))]∧Rd Y3 S27 vt0 t0) fn ?_ ?_
  ·rintro s25 q _ _ _ ⟨S28,rfl,rfl,hc29,hot0⟩ h
   unfold F40_l1 at h
   refine go ?_
   refine ci h (fun q30 h=>?_) fun q30 h=>?_
   ·cases h;refine go ?_
    exact fn
   cases h;refine go ?_
   exact fn
  rintro _ _ _ _ ⟨rfl,⟨S33,rfl,rfl,hc34,hot0⟩⟩
  obtain ⟨b72,e73,h⟩:=bindS h
  refine go ?_
  refine WC.loopD e73 (fun s35 l' m' n'=>∃ S36:Cx n,S36.m = m'∧S36.n = n'∧Cov l' [(0,.sc vt0),(7,.sc (.int .i64 s35.1)),(53,.sc vt0),(54,.sc (.int .i64 ((t0.length:Int)))),(55,.sc (.int .i64 s35.2))]∧Rd Y3 S36 vt0 t0) (fun b e l' m' n'=>e = .exit 4∧∃ S37:Cx n,S37.m = m'∧S37.n = n'∧Cov l' [(7,.sc (.int .i64 b))]) fn ?_ ?_
  ·rintro s35 q _ _ _ ⟨S38,rfl,rfl,hc39,hot0⟩ h
   unfold F40_l4 at h
   refine go ?_
   refine ci h (fun q40 h=>?_) fun q40 h=>?_
   ·obtain ⟨x41,e42,h⟩:=bindS h
    obtain ⟨b68,e69,h⟩:=bindS h
    refine go ?_
    refine WC.loopD e69 (fun s43 l' m' n'=>∃ S44:Cx n,S44.m = m'∧S44.n = n'∧Cov l' [(0,.sc vt0),(7,.sc (.int .i64 s43.1)),(9,.sc (.int .i64 s35.2)),(10,.sc (.int .i64 x41)),(53,.sc vt0),(54,.sc (.int .i64 ((t0.length:Int)))),(55,.sc (.int .i64 s35.2)),(60,.sc (.int .i64 x41)),(61,.sc (.int .i64 s43.2))]∧Rd Y3 S44 vt0 t0) (fun b e l' m' n'=>e = .exit 6∧∃ S45:Cx n,S45.m = m'∧S45.n = n'∧Cov l' [(0,.sc vt0),(7,.sc (.int .i64 b)),(53,.sc vt0),(54,.sc (.int .i64 ((t0.length:Int)))),(55,.sc (.int .i64 s35.2))]∧Rd Y3 S45 vt0 t0) fn ?_ ?_
    ·rintro s43 q _ _ _ ⟨S46,rfl,rfl,hc47,hot0⟩ h
     unfold F40_l3 at h
     refine go ?_
     refine ci h (fun q48 h=>?_) fun q48 h=>?_
     ·obtain ⟨L49,e50,h⟩:=bindS h
      refine go ?_
      refine WO.slc (k':=.i64) rfl (.inl ⟨_,rfl,rfl⟩) (.inr ⟨rfl,rfl⟩) (trR (S:=S46)) e50 rfl (fun v51 ho52=>?_)
      have ho52:Rd Y3 S46 v51 L49:=ho52
      obtain ⟨b62,e63,h⟩:=bindS h
      refine go ?_
      refine WC.loopD e63 (fun s53 l' m' n'=>∃ S54:Cx n,S54.m = m'∧S54.n = n'∧Cov l' [(0,.sc vt0),(7,.sc (.int .i64 s43.1)),(9,.sc (.int .i64 s35.2)),(10,.sc (.int .i64 x41)),(11,.sc (.int .i64 s43.2)),(12,.sc (.int .i64 s53.1)),(53,.sc vt0),(54,.sc (.int .i64 ((t0.length:Int)))),(55,.sc (.int .i64 s35.2)),(60,.sc (.int .i64 x41)),(61,.sc (.int .i64 s43.2)),(70,.sc v51),(71,.sc (.int .i64 ((L49.length:Int)))),(72,.sc (.int .i64 s53.2))]∧Rd Y3 S54 vt0 t0∧Rd Y3 S54 v51 L49) (fun b e l' m' n'=>e = .exit 8∧∃ S55:Cx n,S55.m = m'∧S55.n = n'∧Cov l' [(0,.sc vt0),(7,.sc (.int .i64 s43.1)),(9,.sc (.int .i64 s35.2)),(10,.sc (.int .i64 x41)),(12,.sc (.int .i64 b)),(53,.sc vt0),(54,.sc (.int .i64 ((t0.length:Int)))),(55,.sc (.int .i64 s35.2)),(60,.sc (.int .i64 x41)),(61,.sc (.int .i64 s43.2))]∧Rd Y3 S55 vt0 t0) fn ?_ ?_
      ·rintro s53 q _ _ _ ⟨S56,rfl,rfl,hc57,hot0,ho52⟩ h
       unfold F40_l2 at h
       refine go ?_
       refine ci h (fun q58 h=>?_) fun q58 h=>?_
       ·obtain ⟨x59,e60,h⟩:=bindS h
        refine go ?_
        refine ci h (fun q61 h=>?_) fun q61 h=>?_
        ·cases h;refine go ?_
         exact fn
        cases h;refine go ?_
        exact fn
       cases h;refine go ?_
       exact fn
      rintro _ _ _ _ ⟨rfl,⟨S64,rfl,rfl,hc65,hot0⟩⟩
      obtain ⟨x66,e67,h⟩:=bindS h
      cases h;refine go ?_
      exact fn
     cases h;refine go ?_
     exact fn
    rintro _ _ _ _ ⟨rfl,⟨S70,rfl,rfl,hc71,hot0⟩⟩
    cases h;refine go ?_
    exact fn
   cases h;refine go ?_
   exact fn
  rintro _ _ _ _ ⟨rfl,⟨S74,rfl,rfl,hc75⟩⟩
  cases h;refine go ?_
  exact fn
 | inr b22=>
  simp only at h
  rintro _ _ _ _ ⟨rfl,⟨S76,rfl,rfl,hc77⟩⟩
  cases h;refine go ?_
  exact fn
open Go.Am
theorem F92.fn:E.fn 92 = some (fi 61 Tryz.f92 []):=rfl
theorem F92_ok {F:Nat} {m:Mem} {n:Nat} {r:Int} {t0:Int} {t1:Int} (h:F92 F t0 t1 = some r) :Ret E n 92 [.sc (.int .i64 t0),.sc (.int .i64 t1)] m n (fun v m' n'=>v = .sc (.int .i64 r)):=by
 unfold F92 at h
 refine Ret.walk F92.fn ?_
 refine WC.start fun S0 em en hz=>?_
 obtain ⟨L1,e2,h⟩:=bindS h
 refine go ?_
 refine WO.mkS (A:=Y3) 2 rfl rfl e2 rfl rfl rfl (fun v3 S4 c5 ho6=>?_)
 obtain ⟨u7,e8,h⟩:=bindS h
 refine go ?_
 refine WO.st1 (u':=1) rfl rfl tr ntl (by rfl) (by rfl) (fun S9 c10 ho6=>?_)
 obtain ⟨b58,e59,h⟩:=bindS h
 refine go ?_
 refine WC.loopD e59 (fun s11 l' m' n'=>∃ S13:Cx n,∃ v14:SV,S13.m = m'∧S13.n = n'∧Cov l' [(0,.sc (.int .i64 t0)),(1,.sc (.int .i64 t1)),(5,.sc v14),(14,.sc (.int .i64 t1)),(15,.sc (.int .i64 s11.2))]∧Ow Y3 S13 2 v14 s11.1) (fun b e l' m' n'=>e = .exit 0∧∃ S15:Cx n,∃ v16:SV,S15.m = m'∧S15.n = n'∧Cov l' [(0,.sc (.int .i64 t0)),(5,.sc v16)]∧Ow Y3 S15 2 v16 b) fn ?_ ?_
 ·rintro s11 q _ _ _ ⟨S17,v18,rfl,rfl,hc19,ho5⟩ h
  unfold F92_l1 at h
  refine go ?_
  refine ci h (fun q20 h=>?_) fun q20 h=>?_
  ·obtain ⟨L21,e22,h⟩:=bindS h
   refine go ?_
   refine WO.mkS (A:=Y3) 3 rfl rfl e22 rfl rfl rfl (fun v23 S24 c25 ho26=>?_)
   obtain ⟨b54,e55,h⟩:=bindS h
   refine go ?_
   refine WC.loopD e55 (fun s27 l' m' n'=>∃ S28:Cx n,S28.m = m'∧S28.n = n'∧Cov l' [(0,.sc (.int .i64 t0)),(1,.sc (.int .i64 t1)),(6,.sc v23),(14,.sc (.int .i64 t1)),(15,.sc (.int .i64 s11.2)),(20,.sc v18),(21,.sc (.int .i64 ((s11.1.length:Int)))),(22,.sc (.int .i64 s27.1))]∧Ow Y3 S28 3 v23 s27.2∧Ow Y3 S28 2 v18 s11.1) (fun b e l' m' n'=>e = .exit 2∧∃ S29:Cx n,S29.m = m'∧S29.n = n'∧Cov l' [(0,.sc (.int .i64 t0)),(1,.sc (.int .i64 t1)),(6,.sc v23),(14,.sc (.int .i64 t1)),(15,.sc (.int .i64 s11.2))]∧Ow Y3 S29 3 v23 b) fn ?_ ?_
   ·rintro s27 q _ _ _ ⟨S30,rfl,rfl,hc31,ho26,ho5⟩ h
    unfold F92_l0 at h
    refine go ?_
    refine ci h (fun q32 h=>?_) fun q32 h=>?_
    ·obtain ⟨x33,e34,h⟩:=bindS h
     obtain ⟨b42,e43,h⟩:=bindS h
     refine go ?_
     refine WC.mono (Q':=(fun b e l' m' n'=>e = .normal∧∃ S44:Cx n,S44.m = m'∧S44.n = n'∧Cov l' [(0,.sc (.int .i64 t0)),(1,.sc (.int .i64 t1)),(6,.sc v23),(7,.sc (.int .i64 s27.1)),(8,.sc (.int .i64 x33)),(14,.sc (.int .i64 t1)),(15,.sc (.int .i64 s11.2)),(20,.sc v18),(21,.sc (.int .i64 ((s11.1.length:Int)))),(22,.sc (.int .i64 s27.1))]∧Ow Y3 S44 3 v23 b∧Ow Y3 S44 2 v18 s11.1) b42) ?_ ?_
     ·have h:=e43
      dsimp only at h ⊢
      refine ci h (fun q35 h=>?_) fun q35 h=>?_
      ·obtain ⟨x36,e37,h⟩:=bindS h
       obtain ⟨u38,e39,h⟩:=bindS h
       refine go ?_
       refine WO.st1 (u':=(wrapA .i64 (x36 + x33))) rfl rfl tr ntl (by rfl) (by rfl) (fun S40 c41 ho26=>?_)
       cases h;refine go ?_
       exact fn
      cases h;refine go ?_
      exact fn
     dsimp only
     rintro _ _ _ _ ⟨rfl,⟨S45,rfl,rfl,hc46,ho26,ho5⟩⟩
     refine go ?_
     refine ci h (fun q47 h=>?_) fun q47 h=>?_
     ·obtain ⟨x48,e49,h⟩:=bindS h
      obtain ⟨u50,e51,h⟩:=bindS h
      refine go ?_
      refine WO.st1 (u':=(wrapA .i64 (x48 + x33))) rfl rfl tr ntl (by rfl) (by rfl) (fun S52 c53 ho26=>?_)
      cases h;refine go ?_
      exact fn
     cases h;refine go ?_
     exact fn
    cases h;refine go ?_
    exact fn
   rintro _ _ _ _ ⟨rfl,⟨S56,rfl,rfl,hc57,ho26⟩⟩
   cases h;refine go ?_
   exact ⟨_,rfl,sx (S56.ren 3 2)⟩
  cases h;refine go ?_
  exact fn
 rintro _ _ _ _ ⟨rfl,⟨S60,v61,rfl,rfl,hc62,ho5⟩⟩
 refine go ?_
 refine ci h (fun q63 h=>?_) fun q63 h=>?_
 ·cases h;refine go ?_
  exact fn
 obtain ⟨x64,e65,h⟩:=bindS h
 cases h;refine go ?_
 exact fn
open Go.Am
theorem F91.fn:E.fn 91 = some (fi 13 Tryz.f91 []):=rfl
theorem F91_ok {F:Nat} {m:Mem} {n:Nat} {r:Int × Int} {t0:Int} (h:F91 F t0 = some r) :Ret E n 91 [.sc (.int .i64 t0)] m n (fun v m' n'=>v = .tup [.sc (.int .i64 r.1),.sc (.int .i64 r.2)]):=by
 unfold F91 at h
 refine Ret.walk F91.fn ?_
 refine WC.start fun S0 em en hz=>?_
 refine go ?_
 refine WO.cutB (d:=9) 3 ((decide (t0 < 0)) || (decide (t0 > 15))) (fun q1=>?_) (fun q1=>?_) ?_
 ·refine go ?_;exact cu
 ·refine go ?_;exact cu
 refine go ?_
 refine ci h (fun q2 h=>?_) fun q2 h=>?_
 ·cases h;refine go ?_
  exact fn
 obtain ⟨r3,e4,h⟩:=bindS h
 refine go ?_
 refine WO.callE rfl rfl (F92_ok e4) (fun S5 c6=>?_)
 cases h;refine go ?_
 exact fn
open Go.Am
theorem F41.fn:E.fn 41 = some (fi 56 Tryz.f41 []):=rfl
theorem F41_ok {F:Nat} {m:Mem} {n:Nat} {r:(List UInt8) × Int} {t0:Int} {t1:Int} (h:F41 F t0 t1 = some r) :Ret E n 41 [.sc (.int .i64 t0),.sc (.int .i64 t1)] m n (fun v m' n'=>v = .tup [.sc (.str r.1),.sc (.int .i64 r.2)]):=by
 unfold F41 at h
 refine Ret.walk F41.fn ?_
 refine WC.start fun S0 em en hz=>?_
 obtain ⟨r1,e2,h⟩:=bindS h
 refine go ?_
 refine WO.callE rfl rfl (F91_ok e2) (fun S3 c4=>?_)
 refine go ?_
 refine WO.cutB (d:=21) 3 ((r1.2 != 0) || (decide (t1 < 0))) (fun q5=>?_) (fun q5=>?_) ?_
 ·refine go ?_;exact cu
 ·refine go ?_;exact cu
 refine go ?_
 refine WO.cutB (d:=26) 4 (((r1.2 != 0) || (decide (t1 < 0))) || (decide (t1 ≥ r1.1))) (fun q6=>?_) (fun q6=>?_) ?_
 ·refine go ?_;exact cu
 ·refine go ?_;exact cu
 refine go ?_
 refine ci h (fun q7 h=>?_) fun q7 h=>?_
 ·cases h;refine go ?_
  exact fn
 obtain ⟨b23,e24,h⟩:=bindS h
 refine go ?_
 refine WC.loopD e24 (fun s8 l' m' n'=>∃ S9:Cx n,S9.m = m'∧S9.n = n'∧Cov l' [(0,.sc (.int .i64 t0)),(1,.sc (.int .i64 s8.1)),(8,.sc (.str s8.2.1)),(9,.sc (.int .i64 s8.2.2))]) (fun b e l' m' n'=>e = .exit 0∧∃ S10:Cx n,S10.m = m'∧S10.n = n'∧Cov l' [(8,.sc (.str b))]) fn ?_ ?_
 ·rintro s8 q _ _ _ ⟨S11,rfl,rfl,hc12⟩ h
  unfold F41_l0 at h
  refine go ?_
  refine ci h (fun q13 h=>?_) fun q13 h=>?_
  ·obtain ⟨r14,e15,h⟩:=bindS h
   refine go ?_
   refine WO.callE rfl rfl (F92_ok e15) (fun S16 c17=>?_)
   refine go ?_
   refine ci h (fun q18 h=>?_) fun q18 h=>?_
   ·obtain ⟨x19,e20,h⟩:=bindS h
    cases h;refine go ?_
    exact fn
   obtain ⟨x21,e22,h⟩:=bindS h
   cases h;refine go ?_
   exact fn
  cases h;refine go ?_
  exact fn
 rintro _ _ _ _ ⟨rfl,⟨S25,rfl,rfl,hc26⟩⟩
 cases h;refine go ?_
 exact fn
open Go.Am
theorem F134.fn:E.fn 134 = some (fi 16 Tryz.f134 []):=rfl
theorem F134_ok {F:Nat} {m:Mem} {n:Nat} {r:Int} {t0:Int} {t1:Int} (h:F134 F t0 t1 = some r) :Ret E n 134 [.sc (.int .i64 t0),.sc (.int .i64 t1)] m n (fun v m' n'=>v = .sc (.int .i64 r)):=by
 unfold F134 at h
 refine Ret.walk F134.fn ?_
 refine WC.start fun S0 em en hz=>?_
 obtain ⟨b9,e10,h⟩:=bindS h
 refine go ?_
 refine WC.loopD e10 (fun s1 l' m' n'=>∃ S2:Cx n,S2.m = m'∧S2.n = n'∧Cov l' [(0,.sc (.int .i64 s1.1)),(1,.sc (.int .i64 s1.2))]) (fun b e l' m' n'=>e = .exit 0∧∃ S3:Cx n,S3.m = m'∧S3.n = n'∧Cov l' [(0,.sc (.int .i64 b))]) fn ?_ ?_
 ·rintro s1 q _ _ _ ⟨S4,rfl,rfl,hc5⟩ h
  unfold F134_l0 at h
  refine go ?_
  refine ci h (fun q6 h=>?_) fun q6 h=>?_
  ·obtain ⟨x7,e8,h⟩:=bindS h
   cases h;refine go ?_
   exact fn
  cases h;refine go ?_
  exact fn
 rintro _ _ _ _ ⟨rfl,⟨S11,rfl,rfl,hc12⟩⟩
 cases h;refine go ?_
 exact fn
open Go.Am
theorem F93.fn:E.fn 93 = some (fi 33 Tryz.f93 []):=rfl
theorem F93_ok {F:Nat} {m:Mem} {n:Nat} {r:(Int × Int) × Int} {t0:Int} {t1:Int} (h:F93 F t0 t1 = some r) :Ret E n 93 [.sc (.int .i64 t0),.sc (.int .i64 t1)] m n (fun v m' n'=>v = .tup [.agg [.int .i64 r.1.1,.int .i64 r.1.2],.sc (.int .i64 r.2)]):=by
 unfold F93 at h
 refine Ret.walk F93.fn ?_
 refine WC.start fun S0 em en hz=>?_
 refine go ?_
 refine WO.alS (A:=Y99) (z0:=((0,0):Int × Int)) 2 rfl rfl rfl (fun v1 S2 c3 ho4=>?_)
 obtain ⟨r5,e6,h⟩:=bindS h
 refine go ?_
 refine WO.callE rfl rfl (F134_ok e6) (fun S7 c8=>?_)
 obtain ⟨x9,e10,h⟩:=bindS h
 obtain ⟨x11,e12,h⟩:=bindS h
 refine go ?_
 refine WO.alS (A:=Y99) (z0:=((0,0):Int × Int)) 3 rfl rfl rfl (fun v13 S14 c15 ho16=>?_)
 refine WO.stBA (u':=(x9,x11)) rfl pa rfl tr rfl rfl (fun S17 c18 ho16=>?_)
 refine go ?_
 refine WO.cutB (d:=25) 4 ((decide (((x9,x11)).2 > 1000000000)) || (decide (((x9,x11)).1 < (-1000000000)))) (fun q19=>?_) (fun q19=>?_) ?_
 ·refine go ?_;exact cu
 ·refine go ?_;exact cu
 refine go ?_
 refine WO.cutB (d:=30) 4 (((decide (((x9,x11)).2 > 1000000000)) || (decide (((x9,x11)).1 < (-1000000000)))) || (decide (((x9,x11)).1 > 1000000000))) (fun q20=>?_) (fun q20=>?_) ?_
 ·refine go ?_;exact cu
 ·refine go ?_;exact cu
 refine go ?_
 refine ci h (fun q21 h=>?_) fun q21 h=>?_
 ·refine go ?_
  refine WO.stBA (u':=((0,0):Int × Int)) rfl pa rfl tr rfl rfl (fun S22 c23 ho4=>?_)
  cases h;refine go ?_
  exact fn
 refine go ?_
 refine WO.stBA (u':=(((x9,x11)).1,((x9,x11)).2)) rfl pa rfl tr rfl rfl (fun S24 c25 ho4=>?_)
 cases h;refine go ?_
 exact fn
open Go.Am
theorem F42.fn:E.fn 42 = some (fi 35 Tryz.f42 []):=rfl
theorem F42_ok {F:Nat} {m:Mem} {n:Nat} {r:(Int × Int) × Int} {t0:Int} {t1:Int} (h:F42 F t0 t1 = some r) :Ret E n 42 [.sc (.int .i64 t0),.sc (.int .i64 t1)] m n (fun v m' n'=>v = .tup [.agg [.int .i64 r.1.1,.int .i64 r.1.2],.sc (.int .i64 r.2)]):=by
 unfold F42 at h
 refine Ret.walk F42.fn ?_
 refine WC.start fun S0 em en hz=>?_
 refine go ?_
 refine WO.alS (A:=Y99) (z0:=((0,0):Int × Int)) 2 rfl rfl rfl (fun v1 S2 c3 ho4=>?_)
 refine go ?_
 refine WO.cutB (d:=11) 3 ((decide (t0 < (-1000000000))) || (decide (t0 > 1000000000))) (fun q5=>?_) (fun q5=>?_) ?_
 ·refine go ?_;exact cu
 ·refine go ?_;exact cu
 refine go ?_
 refine WO.cutB (d:=15) 3 (((decide (t0 < (-1000000000))) || (decide (t0 > 1000000000))) || (decide (t1 < (-1000000000)))) (fun q6=>?_) (fun q6=>?_) ?_
 ·refine go ?_;exact cu
 ·refine go ?_;exact cu
 refine go ?_
 refine WO.cutB (d:=19) 3 ((((decide (t0 < (-1000000000))) || (decide (t0 > 1000000000))) || (decide (t1 < (-1000000000)))) || (decide (t1 > 1000000000))) (fun q7=>?_) (fun q7=>?_) ?_
 ·refine go ?_;exact cu
 ·refine go ?_;exact cu
 refine go ?_
 refine ci h (fun q8 h=>?_) fun q8 h=>?_
 ·refine go ?_
  refine WO.stBA (u':=((0,0):Int × Int)) rfl pa rfl tr rfl rfl (fun S9 c10 ho4=>?_)
  cases h;refine go ?_
  exact fn
 refine go ?_
 refine ci h (fun q11 h=>?_) fun q11 h=>?_
 ·refine go ?_
  refine WO.stBA (u':=((0,0):Int × Int)) rfl pa rfl tr rfl rfl (fun S12 c13 ho4=>?_)
  cases h;refine go ?_
  exact fn
 refine go ?_
 refine ci h (fun q14 h=>?_) fun q14 h=>?_
 ·obtain ⟨r15,e16,h⟩:=bindS h
  refine go ?_
  refine WO.callE rfl rfl (F93_ok e16) (fun S17 c18=>?_)
  refine go ?_
  refine WO.stBA (u':=(r15.1.1,r15.1.2)) rfl pa rfl tr rfl rfl (fun S19 c20 ho4=>?_)
  cases h;refine go ?_
  exact fn
 obtain ⟨r21,e22,h⟩:=bindS h
 refine go ?_
 refine WO.callE rfl rfl (F93_ok e22) (fun S23 c24=>?_)
 refine go ?_
 refine WO.stBA (u':=(r21.1.1,r21.1.2)) rfl pa rfl tr rfl rfl (fun S25 c26 ho4=>?_)
 cases h;refine go ?_
 exact fn
open Go.Am
theorem F135.fn:E.fn 135 = some (fi 27 Tryz.f135 []):=rfl
theorem F135_ok {F:Nat} {m:Mem} {n:Nat} {r:Int} {t0:Int × Int} (h:F135 F t0 = some r) :Ret E n 135 [.agg [.int .i64 t0.1,.int .i64 t0.2]] m n (fun v m' n'=>v = .sc (.int .i64 r)):=by
 unfold F135 at h
 refine Ret.walk F135.fn ?_
 refine WC.start fun S0 em en hz=>?_
 refine go ?_
 refine WO.bxS (A:=Y99) (u:=(t0.1,t0.2)) 2 rfl rfl rfl rfl (fun v1 S2 c3 ho4=>?_)
 refine go ?_
 refine WO.cutB (d:=10) 4 ((decide (((t0.1,t0.2)).2 < 1)) || (decide (((t0.1,t0.2)).2 > 1000000000))) (fun q5=>?_) (fun q5=>?_) ?_
 ·refine go ?_;exact cu
 ·refine go ?_;exact cu
 refine go ?_
 refine WO.cutB (d:=15) 4 (((decide (((t0.1,t0.2)).2 < 1)) || (decide (((t0.1,t0.2)).2 > 1000000000))) || (decide (((t0.1,t0.2)).1 < (-1000000000)))) (fun q6=>?_) (fun q6=>?_) ?_
 ·refine go ?_;exact cu
 ·refine go ?_;exact cu
 refine go ?_
 refine WO.cutB (d:=20) 4 ((((decide (((t0.1,t0.2)).2 < 1)) || (decide (((t0.1,t0.2)).2 > 1000000000))) || (decide (((t0.1,t0.2)).1 < (-1000000000)))) || (decide (((t0.1,t0.2)).1 > 1000000000))) (fun q7=>?_) (fun q7=>?_) ?_
 ·refine go ?_;exact cu
 ·refine go ?_;exact cu
 refine go ?_
 refine ci h (fun q8 h=>?_) fun q8 h=>?_
 ·cases h;refine go ?_
  exact fn
 obtain ⟨r9,e10,h⟩:=bindS h
 refine go ?_
 refine WO.callE rfl rfl (F134_ok e10) (fun S11 c12=>?_)
 refine go ?_
 refine ci h (fun q13 h=>?_) fun q13 h=>?_
 ·cases h;refine go ?_
  exact fn
 cases h;refine go ?_
 exact fn
open Go.Am
theorem F94.fn:E.fn 94 = some (fi 13 Tryz.f94 []):=rfl
theorem F94_ok {F:Nat} {m:Mem} {n:Nat} {r:Int} {t0:Int × Int} {t1:Int × Int} (h:F94 F t0 t1 = some r) :Ret E n 94 [.agg [.int .i64 t0.1,.int .i64 t0.2],.agg [.int .i64 t1.1,.int .i64 t1.2]] m n (fun v m' n'=>v = .sc (.int .i64 r)):=by
 unfold F94 at h
 refine Ret.walk F94.fn ?_
 refine WC.start fun S0 em en hz=>?_
 refine go ?_
 refine WO.bxS (A:=Y99) (u:=(t0.1,t0.2)) 2 rfl rfl rfl rfl (fun v1 S2 c3 ho4=>?_)
 refine WO.bxS (A:=Y99) (u:=(t1.1,t1.2)) 3 rfl rfl rfl rfl (fun v5 S6 c7 ho8=>?_)
 obtain ⟨r9,e10,h⟩:=bindS h
 refine go ?_
 refine WO.callE rfl rfl (F135_ok e10) (fun S11 c12=>?_)
 refine go ?_
 refine ci h (fun q13 h=>?_) fun q13 h=>?_
 ·cases h;refine go ?_
  exact fn
 obtain ⟨r14,e15,h⟩:=bindS h
 refine go ?_
 refine WO.callE rfl rfl (F135_ok e15) (fun S16 c17=>?_)
 cases h;refine go ?_
 exact fn
open Go.Am
theorem F43.fn:E.fn 43 = some (fi 33 Tryz.f43 []):=rfl
theorem F43_ok {F:Nat} {m:Mem} {n:Nat} {r:(Int × Int) × Int} {t0:Int × Int} {t1:Int × Int} (h:F43 F t0 t1 = some r) :Ret E n 43 [.agg [.int .i64 t0.1,.int .i64 t0.2],.agg [.int .i64 t1.1,.int .i64 t1.2]] m n (fun v m' n'=>v = .tup [.agg [.int .i64 r.1.1,.int .i64 r.1.2],.sc (.int .i64 r.2)]):=by
 unfold F43 at h
 refine Ret.walk F43.fn ?_
 refine WC.start fun S0 em en hz=>?_
 refine go ?_
 refine WO.bxS (A:=Y99) (u:=(t0.1,t0.2)) 2 rfl rfl rfl rfl (fun v1 S2 c3 ho4=>?_)
 refine WO.bxS (A:=Y99) (u:=(t1.1,t1.2)) 3 rfl rfl rfl rfl (fun v5 S6 c7 ho8=>?_)
 refine WO.alS (A:=Y99) (z0:=((0,0):Int × Int)) 4 rfl rfl rfl (fun v9 S10 c11 ho12=>?_)
 obtain ⟨r13,e14,h⟩:=bindS h
 refine go ?_
 refine WO.callE rfl rfl (F94_ok e14) (fun S15 c16=>?_)
 refine go ?_
 refine ci h (fun q17 h=>?_) fun q17 h=>?_
 ·refine go ?_
  refine WO.stBA (u':=((0,0):Int × Int)) rfl pa rfl tr rfl rfl (fun S18 c19 ho12=>?_)
  cases h;refine go ?_
  exact fn
 obtain ⟨r20,e21,h⟩:=bindS h
 refine go ?_
 refine WO.callE rfl rfl (F93_ok e21) (fun S22 c23=>?_)
 refine go ?_
 refine WO.stBA (u':=(r20.1.1,r20.1.2)) rfl pa rfl tr rfl rfl (fun S24 c25 ho12=>?_)
 cases h;refine go ?_
 exact fn
open Go.Am
theorem F19.fn:E.fn 19 = some (fi 160 Tryz.f19 []):=rfl
theorem F19_ok {F:Nat} {m:Mem} {n:Nat} {r:(List UInt8)} {t0:List UInt8} {t1:List (List UInt8)} {vt1:SV} (h:F19 F t0 t1 = some r) (kt1:Vw Y9 n m vt1 t1):Ret E n 19 [.sc (.str t0),.sc vt1] m n (fun v m' n'=>v = .sc (.str r)):=by
 unfold F19 at h
 refine Ret.walk F19.fn ?_
 refine WC.start fun S0 em en hz=>?_
 have hot1:=kt1.rdS em hz
 refine go ?_
 refine ci h (fun q1 h=>?_) fun q1 h=>?_
 ·obtain ⟨r2,e3,h⟩:=bindS h
  refine go ?_
  refine WO.callF 2 rfl rfl (F36_ok e3 vw) Lay.flat_fl (fun v4 S6 c7 ho5=>?_)
  obtain ⟨r8,e9,h⟩:=bindS h
  refine WO.callE rfl rfl (F35_ok e9 vw) (fun S10 c11=>?_)
  obtain ⟨r12,e13,h⟩:=bindS h
  refine go ?_
  refine WO.callE rfl rfl (F15_ok e13) (fun S14 c15=>?_)
  refine go ?_
  refine WO.bsS (A:=Y3) (M:=[r8.1]) (cs:=[.int .i64 r8.1]) 3 rfl rfl rfl ⟨[.int .i64 r8.1],_,rfl,rfl,rfl⟩ rfl (fun v16 S17 c18 ho19=>?_)
  obtain ⟨r20,e21,h⟩:=bindS h
  refine WO.callE rfl rfl (F37_ok e21 vw) (fun S22 c23=>?_)
  cases h;refine go ?_
  exact fn
 refine go ?_
 refine WO.cutB (d:=43) 4 ((t0 == [111,114,100,101,114]) && ((t1.length:Int) == 2)) (fun q24=>?_) (fun q24=>?_) ?_
 ·refine go ?_;exact cu
 ·refine go ?_;exact cu
 refine go ?_
 refine ci h (fun q25 h=>?_) fun q25 h=>?_
 ·obtain ⟨r26,e27,h⟩:=bindS h
  refine go ?_
  refine WO.callF 4 rfl rfl (F36_ok e27 vw) Lay.flat_fl (fun v28 S30 c31 ho29=>?_)
  obtain ⟨x32,e33,h⟩:=bindS h
  obtain ⟨x34,e35,h⟩:=bindS h
  obtain ⟨r36,e37,h⟩:=bindS h
  refine go ?_
  refine WO.callF 5 rfl rfl (F38_ok e37) Lay.flat_fl (fun v38 S40 c41 ho39=>?_)
  obtain ⟨r42,e43,h⟩:=bindS h
  refine go ?_
  refine WO.callE rfl rfl (F15_ok e43) (fun S44 c45=>?_)
  obtain ⟨r46,e47,h⟩:=bindS h
  refine go ?_
  refine WO.callE rfl rfl (F37_ok e47 vw) (fun S48 c49=>?_)
  cases h;refine go ?_
  exact fn
 refine go ?_
 refine ci h (fun q50 h=>?_) fun q50 h=>?_
 ·obtain ⟨r51,e52,h⟩:=bindS h
  refine go ?_
  refine WO.callF 6 rfl rfl (F36_ok e52 vw) Lay.flat_fl (fun v53 S55 c56 ho54=>?_)
  obtain ⟨r57,e58,h⟩:=bindS h
  refine WO.callF 7 rfl rfl (F39_ok e58 vw) Lay.flat_fl (fun v59 S61 c62 ho60=>?_)
  obtain ⟨r63,e64,h⟩:=bindS h
  refine go ?_
  refine WO.callE rfl rfl (F15_ok e64) (fun S65 c66=>?_)
  obtain ⟨r67,e68,h⟩:=bindS h
  refine go ?_
  refine WO.callE rfl rfl (F37_ok e68 vw) (fun S69 c70=>?_)
  cases h;refine go ?_
  exact fn
 refine go ?_
 refine ci h (fun q71 h=>?_) fun q71 h=>?_
 ·obtain ⟨r72,e73,h⟩:=bindS h
  refine go ?_
  refine WO.callF 8 rfl rfl (F36_ok e73 vw) Lay.flat_fl (fun v74 S76 c77 ho75=>?_)
  obtain ⟨r78,e79,h⟩:=bindS h
  refine WO.callE rfl rfl (F40_ok e79 vw) (fun S80 c81=>?_)
  obtain ⟨r82,e83,h⟩:=bindS h
  refine go ?_
  refine WO.callE rfl rfl (F15_ok e83) (fun S84 c85=>?_)
  refine go ?_
  refine WO.bsS (A:=Y3) (M:=[r78.1]) (cs:=[.int .i64 r78.1]) 9 rfl rfl rfl ⟨[.int .i64 r78.1],_,rfl,rfl,rfl⟩ rfl (fun v86 S87 c88 ho89=>?_)
  obtain ⟨r90,e91,h⟩:=bindS h
  refine WO.callE rfl rfl (F37_ok e91 vw) (fun S92 c93=>?_)
  cases h;refine go ?_
  exact fn
 refine go ?_
 refine WO.cutB (d:=94) 4 ((t0 == [110,101,115,116]) && ((t1.length:Int) == 2)) (fun q94=>?_) (fun q94=>?_) ?_
 ·refine go ?_;exact cu
 ·refine go ?_;exact cu
 refine go ?_
 refine ci h (fun q95 h=>?_) fun q95 h=>?_
 ·obtain ⟨r96,e97,h⟩:=bindS h
  refine go ?_
  refine WO.callF 10 rfl rfl (F36_ok e97 vw) Lay.flat_fl (fun v98 S100 c101 ho99=>?_)
  obtain ⟨x102,e103,h⟩:=bindS h
  obtain ⟨x104,e105,h⟩:=bindS h
  obtain ⟨r106,e107,h⟩:=bindS h
  refine go ?_
  refine WO.callE rfl rfl (F41_ok e107) (fun S108 c109=>?_)
  obtain ⟨r110,e111,h⟩:=bindS h
  refine go ?_
  refine WO.callE rfl rfl (F15_ok e111) (fun S112 c113=>?_)
  obtain ⟨x114,e115,h⟩:=bindS h
  cases h;refine go ?_
  exact fn
 refine go ?_
 refine WO.cutB (d:=118) 4 ((t0 == [115,117,109]) && ((t1.length:Int) == 4)) (fun q116=>?_) (fun q116=>?_) ?_
 ·refine go ?_;exact cu
 ·refine go ?_;exact cu
 refine go ?_
 refine ci h (fun q117 h=>?_) fun q117 h=>?_
 ·obtain ⟨r118,e119,h⟩:=bindS h
  refine go ?_
  refine WO.callF 11 rfl rfl (F36_ok e119 vw) Lay.flat_fl (fun v120 S122 c123 ho121=>?_)
  obtain ⟨x124,e125,h⟩:=bindS h
  obtain ⟨x126,e127,h⟩:=bindS h
  obtain ⟨r128,e129,h⟩:=bindS h
  refine go ?_
  refine WO.callE rfl rfl (F42_ok e129) (fun S130 c131=>?_)
  refine go ?_
  refine WO.alS (A:=Y99) (z0:=((0,0):Int × Int)) 12 rfl rfl rfl (fun v132 S133 c134 ho135=>?_)
  refine WO.stBA (u':=(r128.1.1,r128.1.2)) rfl pa rfl tr rfl rfl (fun S136 c137 ho135=>?_)
  obtain ⟨r138,e139,h⟩:=bindS h
  refine go ?_
  refine WO.callE rfl rfl (F15_ok e139) (fun S140 c141=>?_)
  obtain ⟨x142,e143,h⟩:=bindS h
  obtain ⟨x144,e145,h⟩:=bindS h
  obtain ⟨r146,e147,h⟩:=bindS h
  refine go ?_
  refine WO.callE rfl rfl (F42_ok e147) (fun S148 c149=>?_)
  refine go ?_
  refine WO.alS (A:=Y99) (z0:=((0,0):Int × Int)) 13 rfl rfl rfl (fun v150 S151 c152 ho153=>?_)
  refine WO.stBA (u':=(r146.1.1,r146.1.2)) rfl pa rfl tr rfl rfl (fun S154 c155 ho153=>?_)
  obtain ⟨r156,e157,h⟩:=bindS h
  refine go ?_
  refine WO.callE rfl rfl (F15_ok e157) (fun S158 c159=>?_)
  obtain ⟨r160,e161,h⟩:=bindS h
  refine go ?_
  refine WO.callE rfl rfl (F43_ok e161) (fun S162 c163=>?_)
  refine go ?_
  refine WO.alS (A:=Y99) (z0:=((0,0):Int × Int)) 14 rfl rfl rfl (fun v164 S165 c166 ho167=>?_)
  refine WO.stBA (u':=(r160.1.1,r160.1.2)) rfl pa rfl tr rfl rfl (fun S168 c169 ho167=>?_)
  obtain ⟨r170,e171,h⟩:=bindS h
  refine go ?_
  refine WO.callE rfl rfl (F15_ok e171) (fun S172 c173=>?_)
  refine go ?_
  refine WO.bsS (A:=Y3) (M:=[((r160.1.1,r160.1.2)).1,((r160.1.1,r160.1.2)).2]) (cs:=[.int .i64 (((r160.1.1,r160.1.2)).1),.int .i64 (((r160.1.1,r160.1.2)).2)]) 15 rfl rfl rfl ⟨[.int .i64 (((r160.1.1,r160.1.2)).1)],_,rfl,rfl,⟨[.int .i64 (((r160.1.1,r160.1.2)).2)],_,rfl,rfl,rfl⟩⟩ rfl (fun v174 S175 c176 ho177=>?_)
  obtain ⟨r178,e179,h⟩:=bindS h
  refine WO.callE rfl rfl (F37_ok e179 vw) (fun S180 c181=>?_)
  cases h;refine go ?_
  exact fn
 obtain ⟨r182,e183,h⟩:=bindS h
 refine go ?_
 refine WO.callE rfl rfl (F15_ok e183) (fun S184 c185=>?_)
 cases h;refine go ?_
 exact fn
open Go.Am
abbrev Xr (α:Type):=Option (Int ⊕ α)
def mst {α:Type} (e:Int) (k:Xr α):Xr α:=if e = 0 then k else some (.inl e)
def nms {α:Type} (l:List (List UInt8)) (k:List Int→Xr α):Xr α:=match l.mapM num with
 | none=>some (.inl 10)
 | some L=>k L
def XS:Int ⊕ List UInt8→XR
 | .inl c=>.pan c
 | .inr s=>.ok (.sc (.str s))
def X19 (F:Nat) (t0:List UInt8) (t1:List (List UInt8)):Xr (List UInt8):=
 if (t0 == [114,97,110,107]) then nms t1 fun r2=>(F35 F r2).bind fun r8=>mst r8.2 ((F37 F ([r8.1])).bind fun r20=>some (.inr r20))
 else if ((t0 == [111,114,100,101,114]) && ((t1.length:Int) == 2)) then nms t1 fun r26=>(at? r26 0).bind fun x32=>(at? r26 1).bind fun x34=>(F38 F x32 x34).bind fun r36=>mst r36.2 ((F37 F r36.1).bind fun r46=>some (.inr r46))
 else if (t0 == [116,117,114,110,101,100]) then nms t1 fun r51=>(F39 F r51).bind fun r57=>mst r57.2 ((F37 F r57.1).bind fun r67=>some (.inr r67))
 else if (t0 == [115,104,97,112,101,115]) then nms t1 fun r72=>(F40 F r72).bind fun r78=>mst r78.2 ((F37 F ([r78.1])).bind fun r90=>some (.inr r90))
 else if ((t0 == [110,101,115,116]) && ((t1.length:Int) == 2)) then nms t1 fun r96=>(at? r96 0).bind fun x102=>(at? r96 1).bind fun x104=>(F41 F x102 x104).bind fun r106=>mst r106.2 ((cat? [58] r106.1).bind fun x114=>some (.inr x114))
 else if ((t0 == [115,117,109]) && ((t1.length:Int) == 4)) then nms t1 fun r118=>(at? r118 0).bind fun x124=>(at? r118 1).bind fun x126=>(F42 F x124 x126).bind fun r128=>mst r128.2 ((at? r118 2).bind fun x142=>(at? r118 3).bind fun x144=>(F42 F x142 x144).bind fun r146=>mst r146.2 ((F43 F r128.1 r146.1).bind fun r160=>mst r160.2 ((F37 F ([r160.1.1,r160.1.2])).bind fun r178=>some (.inr r178))))
 else some (.inl 10)
theorem XS_pan {r:Int ⊕ List UInt8} {c:Int} (h:r = .inl c):XR.pan c = XS r:=by subst h;rfl
theorem px {p:Prop} (h:p:=by
 refine gx ?_
 exact ⟨Kp.ks trKp (by assumption) (by assumption),by first | rfl | exact XS_pan (by assumption)⟩):p:=h
theorem rx {p:Prop} (h:p:=by
 refine go ?_
 refine gx ?_
 exact ⟨.inr rfl,_,_,rk,rfl,Kp.ks trKp (by assumption) (by assumption),rfl⟩):p:=h
section
variable {B fl0:Nat} {w0:World} (hE:EnvOk Tryz.prog E) (hW:E.wc w0∧B = w0.heap.size)
variable {D:List Deferred} {N:Nat} {lo:List Nat} {fl:Nat} {l:LE} {Q:XQ} {ops:Array Oper} {j:Nat} {S:Cx fl} {α:Type} {r:Int ⊕ α} {d:Option Tmp} {ty:TypeId} {pos:String} {af:Array Edge} {f:Operand} {xs:Array Operand} {ats:Array TypeId}
theorem wx_must {e:Int} {k:Xr α} (h:mst e k = some r) (ho:ops[j]? = some ⟨d,.call ⟨.value f,xs,ats⟩,ty,pos,af,none⟩) (hf:evK l f = some (.sc (.fn 15 []))) (ha:xs.toList.mapM (evK l) = some [.sc (.int .i64 e)])
 (k1:k = some r→∀ S',Ch 1 S S'→WXO Tryz.prog pv D B fl0 w0 N ops (j + 1) (putX d (.tup []) l) S'.m S'.n Q) (k2:r = .inl e→∀ S',Ch 1 S S'→Q (.pan e) l S'.m S'.n):WXO Tryz.prog pv D B fl0 w0 N ops j l S.m S.n Q:=by
 unfold mst at h
 refine WXO.callK ho hf ha (must_k e) (fun v S1 c1 q=>?_) (fun c S1 c1 q=>?_)
 ·unfold mustR at q
  split at q
  ·rename_i e0;rw [if_pos e0] at h;cases q;exact k1 h S1 c1
  ·cases q
 ·unfold mustR at q
  split at q
  ·cases q
  ·rename_i e0;rw [if_neg e0] at h;cases q;cases h;exact k2 rfl S1 c1
include hE hW
theorem wx_nums {t1:List (List UInt8)} {vt:SV} (id:Nat) {k:List Int→Xr α} (h:nms t1 k = some r) (ho:ops[j]? = some ⟨d,.call ⟨.value f,xs,ats⟩,ty,pos,af,none⟩) (hf:evK l f = some (.sc (.fn 36 []))) (ha:xs.toList.mapM (evK l) = some [.sc vt]) (kt:Vw Y9 S.n S.m vt t1) (hlen:t1.length≤100000)
 (k1:∀ L w S',k L = some r→Ch id S S'→Ow Y3 S' id w L→WXO Tryz.prog pv D B fl0 w0 N ops (j + 1) (putX d (.sc w) l) S'.m S'.n Q) (k2:r = .inl 10→∀ S',Ch 1 S S'→Q (.pan 10) l S'.m S'.n):WXO Tryz.prog pv D B fl0 w0 N ops j l S.m S.n Q:=by
 have hx:=F36x (fl0:=fl0) hE hW kt hlen
 unfold nms at h
 cases hm:t1.mapM num with
 | none=>
  rw [hm] at h hx
  cases h
  exact WXO.callN (A:=Y3) (L:=[]) (e:=some 10) id ho hf ha Lay.flat_fl hx (fun _ _ e _ _=>by cases e) (fun c S1 e c1=>by cases e;exact k2 rfl S1 c1)
 | some L=>
  rw [hm] at h hx
  exact WXO.callN (A:=Y3) (L:=L) (e:=none) id ho hf ha Lay.flat_fl hx (fun w S1 _ c1 o1=>k1 L w S1 h c1 o1) (fun c S1 e c1=>by cases e)
theorem F19x {F:Nat} {t0:List UInt8} {t1:List (List UInt8)} {vt1:SV} {r:Int ⊕ List UInt8} {m:Mem} {n:Nat} (h:X19 F t0 t1 = some r) (kt1:Vw Y9 n m vt1 t1) (hlen:t1.length≤100000):CX Tryz.prog pv B fl0 w0 19 [.sc (.str t0),.sc vt1] m n fun x m' n'=>Keeps n n m m' n'∧x = XS r:=by
 refine CX.walkF hE E.fns F19.fn fun h0=>?_
 have hF:=E.fns
 refine WX.start fun S0 em en hz=>?_
 have hot1:=kt1.rdS em hz
 subst em
 have hk:=Kp.refl S0
 unfold X19 at h
 refine gx ?_
 refine xci h (fun q h=>?_) fun q h=>?_
 ·refine gx ?_
  refine WX.region ?_
  refine WXO.pre hE hF hW h0 1 (by decide) (go ?_)
  refine wx_nums hE hW 2 h rfl rfl rfl vw hlen (fun L w S2 h c2 ho2=>?_) fun h S2 c2=>px
  obtain ⟨r8,e9,h⟩:=bindS h
  refine WXO.pre hE hF hW h0 6 (by decide) ?_
  refine WO.callE rfl rfl (F35_ok e9 vw) (fun S3 c3=>?_)
  refine go ?_
  refine WXO.done (by decide) ?_
  refine gx ?_
  refine WX.region ?_
  refine WXO.pre hE hF hW h0 1 (by decide) (go ?_)
  refine wx_must h rfl rfl rfl (fun h S4 c4=>?_) fun h S4 c4=>px
  refine WXO.done (by decide) ?_
  refine gx ?_
  refine WO.bsS (A:=Y3) (M:=[r8.1]) (cs:=[.int .i64 r8.1]) 5 rfl rfl rfl ⟨[.int .i64 r8.1],_,rfl,rfl,rfl⟩ rfl (fun v5 S5 c5 ho5=>?_)
  obtain ⟨r6,e6,h⟩:=bindS h
  refine WO.callE rfl rfl (F37_ok e6 vw) (fun S6 c6=>?_)
  cases h;exact rx
 refine gx ?_
 refine WO.cutB (d:=43) 4 ((t0 == [111,114,100,101,114]) && ((t1.length:Int) == 2)) (fun q=>?_) (fun q=>?_) ?_
 ·refine go ?_;exact cu
 ·refine go ?_;exact cu
 refine go ?_
 refine gx ?_
 refine xci h (fun q h=>?_) fun q h=>?_
 ·refine gx ?_
  refine WX.region ?_
  refine WXO.pre hE hF hW h0 1 (by decide) (go ?_)
  refine wx_nums hE hW 2 h rfl rfl rfl vw hlen (fun L w S2 h c2 ho2=>?_) fun h S2 c2=>px
  refine WXO.pre hE hF hW h0 1 (by decide) (go ?_)
  refine WXO.done (by decide) ?_
  obtain ⟨x1,e1,h⟩:=bindS h
  obtain ⟨x2,e2,h⟩:=bindS h
  obtain ⟨r8,e9,h⟩:=bindS h
  refine gx ?_
  refine WO.callF 3 rfl rfl (F38_ok e9) Lay.flat_fl (fun v3 S3 c3 ho3=>?_)
  refine go ?_
  refine gx ?_
  refine WX.region ?_
  refine WXO.pre hE hF hW h0 1 (by decide) (go ?_)
  refine wx_must h rfl rfl rfl (fun h S4 c4=>?_) fun h S4 c4=>px
  refine WXO.done (by decide) ?_
  refine gx ?_
  obtain ⟨r6,e6,h⟩:=bindS h
  refine WO.callE rfl rfl (F37_ok e6 vw) (fun S6 c6=>?_)
  cases h;exact rx
 refine gx ?_
 refine xci h (fun q h=>?_) fun q h=>?_
 ·refine gx ?_
  refine WX.region ?_
  refine WXO.pre hE hF hW h0 1 (by decide) (go ?_)
  refine wx_nums hE hW 2 h rfl rfl rfl vw hlen (fun L w S2 h c2 ho2=>?_) fun h S2 c2=>px
  obtain ⟨r8,e9,h⟩:=bindS h
  refine WXO.pre hE hF hW h0 6 (by decide) ?_
  refine WO.callF 3 rfl rfl (F39_ok e9 vw) Lay.flat_fl (fun v3 S3 c3 ho3=>?_)
  refine go ?_
  refine WXO.done (by decide) ?_
  refine gx ?_
  refine WX.region ?_
  refine WXO.pre hE hF hW h0 1 (by decide) (go ?_)
  refine wx_must h rfl rfl rfl (fun h S4 c4=>?_) fun h S4 c4=>px
  refine WXO.done (by decide) ?_
  refine gx ?_
  obtain ⟨r6,e6,h⟩:=bindS h
  refine WO.callE rfl rfl (F37_ok e6 vw) (fun S6 c6=>?_)
  cases h;exact rx
 refine gx ?_
 refine xci h (fun q h=>?_) fun q h=>?_
 ·refine gx ?_
  refine WX.region ?_
  refine WXO.pre hE hF hW h0 1 (by decide) (go ?_)
  refine wx_nums hE hW 2 h rfl rfl rfl vw hlen (fun L w S2 h c2 ho2=>?_) fun h S2 c2=>px
  obtain ⟨r8,e9,h⟩:=bindS h
  refine WXO.pre hE hF hW h0 6 (by decide) ?_
  refine WO.callE rfl rfl (F40_ok e9 vw) (fun S3 c3=>?_)
  refine go ?_
  refine WXO.done (by decide) ?_
  refine gx ?_
  refine WX.region ?_
  refine WXO.pre hE hF hW h0 1 (by decide) (go ?_)
  refine wx_must h rfl rfl rfl (fun h S4 c4=>?_) fun h S4 c4=>px
  refine WXO.done (by decide) ?_
  refine gx ?_
  refine WO.bsS (A:=Y3) (M:=[r8.1]) (cs:=[.int .i64 r8.1]) 5 rfl rfl rfl ⟨[.int .i64 r8.1],_,rfl,rfl,rfl⟩ rfl (fun v5 S5 c5 ho5=>?_)
  obtain ⟨r6,e6,h⟩:=bindS h
  refine WO.callE rfl rfl (F37_ok e6 vw) (fun S6 c6=>?_)
  cases h;exact rx
 refine gx ?_
 refine WO.cutB (d:=94) 4 ((t0 == [110,101,115,116]) && ((t1.length:Int) == 2)) (fun q=>?_) (fun q=>?_) ?_
 ·refine go ?_;exact cu
 ·refine go ?_;exact cu
 refine go ?_
 refine gx ?_
 refine xci h (fun q h=>?_) fun q h=>?_
 ·refine gx ?_
  refine WX.region ?_
  refine WXO.pre hE hF hW h0 1 (by decide) (go ?_)
  refine wx_nums hE hW 2 h rfl rfl rfl vw hlen (fun L w S2 h c2 ho2=>?_) fun h S2 c2=>px
  refine WXO.pre hE hF hW h0 1 (by decide) (go ?_)
  refine WXO.done (by decide) ?_
  obtain ⟨x1,e1,h⟩:=bindS h
  obtain ⟨x2,e2,h⟩:=bindS h
  obtain ⟨r8,e9,h⟩:=bindS h
  refine gx ?_
  refine WO.callE rfl rfl (F41_ok e9) (fun S3 c3=>?_)
  refine go ?_
  refine gx ?_
  refine WX.region ?_
  refine WXO.pre hE hF hW h0 1 (by decide) (go ?_)
  refine wx_must h rfl rfl rfl (fun h S4 c4=>?_) fun h S4 c4=>px
  refine WXO.done (by decide) ?_
  refine gx ?_
  obtain ⟨x6,e6,h⟩:=bindS h
  cases h;exact rx
 refine gx ?_
 refine WO.cutB (d:=118) 4 ((t0 == [115,117,109]) && ((t1.length:Int) == 4)) (fun q=>?_) (fun q=>?_) ?_
 ·refine go ?_;exact cu
 ·refine go ?_;exact cu
 refine go ?_
 refine gx ?_
 refine xci h (fun q h=>?_) fun q h=>?_
 ·refine gx ?_
  refine WX.region ?_
  refine WXO.pre hE hF hW h0 1 (by decide) (go ?_)
  refine wx_nums hE hW 2 h rfl rfl rfl vw hlen (fun L w S2 h c2 ho2=>?_) fun h S2 c2=>px
  refine WXO.pre hE hF hW h0 1 (by decide) (go ?_)
  refine WXO.done (by decide) ?_
  obtain ⟨x1,e1,h⟩:=bindS h
  obtain ⟨x2,e2,h⟩:=bindS h
  obtain ⟨r8,e9,h⟩:=bindS h
  refine gx ?_
  refine WO.callE rfl rfl (F42_ok e9) (fun S3 c3=>?_)
  refine go ?_
  refine WO.alS (A:=Y99) (z0:=((0,0):Int × Int)) 12 rfl rfl rfl (fun v10 S10 c10 ho10=>?_)
  refine WO.stBA (u':=(r8.1.1,r8.1.2)) rfl pa rfl tr rfl rfl (fun S11 c11 ho10=>?_)
  refine go ?_
  refine gx ?_
  refine WX.region ?_
  refine WXO.pre hE hF hW h0 1 (by decide) (go ?_)
  refine wx_must h rfl rfl rfl (fun h S4 c4=>?_) fun h S4 c4=>px
  refine WXO.done (by decide) ?_
  refine gx ?_
  obtain ⟨x3,e3,h⟩:=bindS h
  obtain ⟨x4,e4,h⟩:=bindS h
  obtain ⟨r5,e5,h⟩:=bindS h
  refine go ?_
  refine WO.callE rfl rfl (F42_ok e5) (fun S5 c5=>?_)
  refine go ?_
  refine WO.alS (A:=Y99) (z0:=((0,0):Int × Int)) 13 rfl rfl rfl (fun v12 S12 c12 ho12=>?_)
  refine WO.stBA (u':=(r5.1.1,r5.1.2)) rfl pa rfl tr rfl rfl (fun S13 c13 ho12=>?_)
  refine go ?_
  refine gx ?_
  refine WX.region ?_
  refine WXO.pre hE hF hW h0 1 (by decide) (go ?_)
  refine wx_must h rfl rfl rfl (fun h S14 c14=>?_) fun h S14 c14=>px
  refine WXO.done (by decide) ?_
  refine gx ?_
  obtain ⟨r6,e6,h⟩:=bindS h
  refine WO.callE rfl rfl (F43_ok e6) (fun S6 c6=>?_)
  refine go ?_
  refine WO.alS (A:=Y99) (z0:=((0,0):Int × Int)) 14 rfl rfl rfl (fun v15 S15 c15 ho15=>?_)
  refine WO.stBA (u':=(r6.1.1,r6.1.2)) rfl pa rfl tr rfl rfl (fun S16 c16 ho15=>?_)
  refine go ?_
  refine gx ?_
  refine WX.region ?_
  refine WXO.pre hE hF hW h0 1 (by decide) (go ?_)
  refine wx_must h rfl rfl rfl (fun h S17 c17=>?_) fun h S17 c17=>px
  refine WXO.done (by decide) ?_
  refine gx ?_
  refine WO.bsS (A:=Y3) (M:=[r6.1.1,r6.1.2]) (cs:=[.int .i64 r6.1.1,.int .i64 r6.1.2]) 15 rfl rfl rfl ⟨[.int .i64 r6.1.1],_,rfl,rfl,⟨[.int .i64 r6.1.2],_,rfl,rfl,rfl⟩⟩ rfl (fun v18 S18 c18 ho18=>?_)
  obtain ⟨r7,e7,h⟩:=bindS h
  refine WO.callE rfl rfl (F37_ok e7 vw) (fun S19 c19=>?_)
  cases h;exact rx
 refine gx ?_
 refine WX.region ?_
 refine WXO.callK rfl rfl rfl (must_k 10) (fun v S1 c1 e=>by cases e) (fun c S1 c1 e=>?_)
 cases e;cases h;exact px
end
open Go.Am
theorem F76.fn:E.fn 76 = some (fi 40 Tryz.f76 []):=rfl
theorem F76_ok {F:Nat} {fl:Nat} {S0:Cx fl} {r:((List UInt8) × Int) × Int × ((List ((List UInt8) × Int × Int)) × (List ((List UInt8) × (List UInt8) × Int)))} {t0:(List ((List UInt8) × Int × Int)) × (List ((List UInt8) × (List UInt8) × Int))} {t1:Int} {t2:Int} {bt0:Nat} {vt0_0:SV} {vt0_1:SV} (h:F76 F t0 t1 t2 = some r) (hot0:Bw S0 2 (.ptr bt0 0) [vt0_0,vt0_1]) (hot0_0:Ow Y85 S0 3 vt0_0 t0.1) (hot0_1:Ow Y168 S0 4 vt0_1 t0.2):Ret E fl 76 [.sc (.ptr bt0 0),.sc (.int .i64 t1),.sc (.int .i64 t2)] S0.m S0.n (fun v m' n'=>∃ S':Cx fl,S'.m = m'∧S'.n = n'∧ChM S0 S'∧(∃ w22 w23:SV,v = .tup [.agg [.str r.1.1,.int .i64 r.1.2],.sc (.int .i64 r.2.1)]∧Bw S' 2 (.ptr bt0 0) [w22,w23]∧Ow Y85 S' 3 w22 r.2.2.1∧Ow Y168 S' 4 w23 r.2.2.2)):=by
 unfold F76 at h
 refine Ret.walk F76.fn ?_
 have hM:=ChM.refl S0
 refine go ?_
 refine WO.alS (A:=Y69) (z0:=(([],0):(List UInt8) × Int)) 5 rfl rfl rfl (fun v1 S2 c3 ho4=>?_)
 refine go ?_
 refine ci h (fun q5 h=>?_) fun q5 h=>?_
 ·refine go ?_
  refine WO.stBA (u':=(([],0):(List UInt8) × Int)) rfl pa rfl tr rfl rfl (fun S6 c7 ho4=>?_)
  cases h;refine go ?_
  exact fn
 obtain ⟨x9,e10,h⟩:=bindS h
 have h:=bindE e10 h
 refine go ?_
 refine WO.stF (q:=2) (u':=(x9.1,x9.2.1,(wrapA .i64 (x9.2.2 + 1)))) rfl rfl tr gt (by rfl) (by decide) (by rfl) (by rfl) (fun S13 c14 hot0_0=>?_)
 obtain ⟨x15,e16,h⟩:=bindS h
 have h:=bindE e16 h
 refine go ?_
 refine WO.stBA (u':=(x15.1,x15.2.2)) rfl pa rfl tr rfl rfl (fun S19 c20 ho4=>?_)
 cases h;refine go ?_
 exact fn
open Go.Am
theorem F124.fn:E.fn 124 = some (fi 21 Tryz.f124 []):=rfl
theorem F124_ok {F:Nat} {m:Mem} {n:Nat} {r:Int} {t0:List Int} {vt0:SV} (h:F124 F t0 = some r) (kt0:Vw Y3 n m vt0 t0):Ret E n 124 [.sc vt0] m n (fun v m' n'=>v = .sc (.int .i64 r)):=by
 unfold F124 at h
 refine Ret.walk F124.fn ?_
 refine WC.start fun S0 em en hz=>?_
 have hot0:=kt0.rdS em hz
 refine go ?_
 refine ci h (fun q1 h=>?_) fun q1 h=>?_
 ·cases h;refine go ?_
  exact fn
 obtain ⟨b14,e15,h⟩:=bindS h
 refine go ?_
 refine WC.loopD e15 (fun s2 l' m' n'=>∃ S3:Cx n,S3.m = m'∧S3.n = n'∧Cov l' [(8,.sc vt0),(9,.sc (.int .i64 ((t0.length:Int)))),(10,.sc (.int .i64 s2))]∧Rd Y3 S3 vt0 t0) (fun b e l' m' n'=>(match b with | .inl b4=>e = .exit 0∧∃ S5:Cx n,S5.m = m'∧S5.n = n'∧Cov l' [] | .inr b4=>e = .ret∧∃ S6:Cx n,S6.m = m'∧S6.n = n'∧Cov l' [(2,.sc (.int .i64 b4))])) fn ?_ ?_
 ·rintro s2 q _ _ _ ⟨S7,rfl,rfl,hc8,hot0⟩ h
  unfold F124_l0 at h
  refine go ?_
  refine ci h (fun q9 h=>?_) fun q9 h=>?_
  ·obtain ⟨x10,e11,h⟩:=bindS h
   refine go ?_
   refine WO.cutB (d:=19) 3 ((decide (x10 < 0)) || (decide (x10 > 100))) (fun q12=>?_) (fun q12=>?_) ?_
   ·refine go ?_;exact cu
   ·refine go ?_;exact cu
   refine go ?_
   refine ci h (fun q13 h=>?_) fun q13 h=>?_
   ·cases h;refine go ?_
    exact fn
   cases h;refine go ?_
   exact fn
  cases h;refine go ?_
  exact fn
 cases b14 with
 | inl b16=>
  simp only at h
  rintro _ _ _ _ ⟨rfl,⟨S17,rfl,rfl,hc18⟩⟩
  cases h;refine go ?_
  exact fn
 | inr b16=>
  simp only at h
  rintro _ _ _ _ ⟨rfl,⟨S19,rfl,rfl,hc20⟩⟩
  cases h;refine go ?_
  exact fn
open Go.Am
theorem F123.fn:E.fn 123 = some (fi 24 Tryz.f123 []):=rfl
theorem F123_ok {F:Nat} {m:Mem} {n:Nat} {r:Int × Int} {t0:List Int} {vt0:SV} (h:F123 F t0 = some r) (kt0:Vw Y3 n m vt0 t0):Ret E n 123 [.sc vt0] m n (fun v m' n'=>v = .tup [.sc (.int .i64 r.1),.sc (.int .i64 r.2)]):=by
 unfold F123 at h
 refine Ret.walk F123.fn ?_
 refine WC.start fun S0 em en hz=>?_
 have hot0:=kt0.rdS em hz
 obtain ⟨r1,e2,h⟩:=bindS h
 refine go ?_
 refine WO.callE rfl rfl (F124_ok e2 vw) (fun S3 c4=>?_)
 refine go ?_
 refine ci h (fun q5 h=>?_) fun q5 h=>?_
 ·cases h;refine go ?_
  exact fn
 obtain ⟨b14,e15,h⟩:=bindS h
 refine go ?_
 refine WC.loopD e15 (fun s6 l' m' n'=>∃ S7:Cx n,S7.m = m'∧S7.n = n'∧Cov l' [(5,.sc (.int .i64 s6.1)),(13,.sc vt0),(14,.sc (.int .i64 ((t0.length:Int)))),(15,.sc (.int .i64 s6.2))]∧Rd Y3 S7 vt0 t0) (fun b e l' m' n'=>e = .exit 0∧∃ S8:Cx n,S8.m = m'∧S8.n = n'∧Cov l' [(5,.sc (.int .i64 b))]) fn ?_ ?_
 ·rintro s6 q _ _ _ ⟨S9,rfl,rfl,hc10,hot0⟩ h
  unfold F123_l0 at h
  refine go ?_
  refine ci h (fun q11 h=>?_) fun q11 h=>?_
  ·obtain ⟨x12,e13,h⟩:=bindS h
   cases h;refine go ?_
   exact fn
  cases h;refine go ?_
  exact fn
 rintro _ _ _ _ ⟨rfl,⟨S16,rfl,rfl,hc17⟩⟩
 cases h;refine go ?_
 exact fn
open Go.Am
theorem F77.fn:E.fn 77 = some (fi 41 Tryz.f77 []):=rfl
theorem F77_ok {F:Nat} {m:Mem} {n:Nat} {r:Int × Int} {t0:List Int} {t1:Int} {vt0:SV} (h:F77 F t0 t1 = some r) (kt0:Vw Y3 n m vt0 t0):Ret E n 77 [.sc vt0,.sc (.int .i64 t1)] m n (fun v m' n'=>v = .tup [.sc (.int .i64 r.1),.sc (.int .i64 r.2)]):=by
 unfold F77 at h
 refine Ret.walk F77.fn ?_
 refine WC.start fun S0 em en hz=>?_
 have hot0:=kt0.rdS em hz
 obtain ⟨r1,e2,h⟩:=bindS h
 refine go ?_
 refine WO.callE rfl rfl (F123_ok e2 vw) (fun S3 c4=>?_)
 refine go ?_
 refine ci h (fun q5 h=>?_) fun q5 h=>?_
 ·cases h;refine go ?_
  exact fn
 refine go ?_
 refine ci h (fun q6 h=>?_) fun q6 h=>?_
 ·cases h;refine go ?_
  exact fn
 refine go ?_
 refine WO.cutB (d:=25) 4 ((decide (t1 < 0)) || (decide (t1 ≥ r1.1))) (fun q7=>?_) (fun q7=>?_) ?_
 ·refine go ?_;exact cu
 ·refine go ?_;exact cu
 refine go ?_
 refine ci h (fun q8 h=>?_) fun q8 h=>?_
 ·cases h;refine go ?_
  exact fn
 obtain ⟨b19,e20,h⟩:=bindS h
 refine go ?_
 refine WC.loopD e20 (fun s9 l' m' n'=>∃ S10:Cx n,S10.m = m'∧S10.n = n'∧Cov l' [(0,.sc vt0),(1,.sc (.int .i64 s9.1)),(8,.sc (.int .i64 s9.2))]∧Rd Y3 S10 vt0 t0) (fun b e l' m' n'=>e = .exit 0∧∃ S11:Cx n,S11.m = m'∧S11.n = n'∧Cov l' [(8,.sc (.int .i64 b))]) fn ?_ ?_
 ·rintro s9 q _ _ _ ⟨S12,rfl,rfl,hc13,hot0⟩ h
  unfold F77_l0 at h
  obtain ⟨x14,e15,h⟩:=bindS h
  refine go ?_
  refine ci h (fun q16 h=>?_) fun q16 h=>?_
  ·have h:=bindE e15 h
   cases h;refine go ?_
   exact fn
  cases h;refine go ?_
  exact fn
 rintro _ _ _ _ ⟨rfl,⟨S21,rfl,rfl,hc22⟩⟩
 cases h;refine go ?_
 exact fn
open Go.Am
theorem F78.fn:E.fn 78 = some (fi 22 Tryz.f78 []):=rfl
theorem F78_ok {F:Nat} {m:Mem} {n:Nat} {r:(List Int)} {t0:(List ((List UInt8) × Int × Int)) × (List ((List UInt8) × (List UInt8) × Int))} {bt0:Nat} {vt0_0:SV} {vt0_1:SV} (h:F78 F t0 = some r) (kt0:Pw n m (.ptr bt0 0) [vt0_0,vt0_1]) (kt0_0:Vw Y85 n m vt0_0 t0.1) (kt0_1:Vw Y168 n m vt0_1 t0.2):Ret E n 78 [.sc (.ptr bt0 0)] m n (fun v m' n'=>∃ w,v = .sc w∧Fr Y3 n m' n' w r):=by
 unfold F78 at h
 refine Ret.walk F78.fn ?_
 refine WC.start fun S0 em en hz=>?_
 have hot0_0:=kt0_0.rdS em hz
 have hot0_1:=kt0_1.rdS em hz
 have hot0:=kt0.rwS em hz
 obtain ⟨b29,e30,h⟩:=bindS h
 refine go ?_
 refine WC.loopD e30 (fun s1 l' m' n'=>∃ S3:Cx n,∃ v4:SV,S3.m = m'∧S3.n = n'∧Cov l' [(3,.sc v4),(9,.sc vt0_0),(10,.sc (.int .i64 ((t0.1.length:Int)))),(11,.sc (.int .i64 s1.2))]∧Rd Y85 S3 vt0_0 t0.1∧Ow Y3 S3 2 v4 s1.1) (fun b e l' m' n'=>e = .exit 0∧∃ S5:Cx n,∃ v6:SV,S5.m = m'∧S5.n = n'∧Cov l' [(3,.sc v6)]∧Ow Y3 S5 2 v6 b) fn ?_ ?_
 ·rintro s1 q _ _ _ ⟨S7,v8,rfl,rfl,hc9,hot0_0,ho3⟩ h
  unfold F78_l0 at h
  refine go ?_
  refine ci h (fun q10 h=>?_) fun q10 h=>?_
  ·obtain ⟨x11,e12,h⟩:=bindS h
   refine go ?_
   refine WO.alS (A:=Y85) (z0:=(([],0,0):(List UInt8) × Int × Int)) 3 rfl rfl rfl (fun v13 S14 c15 ho16=>?_)
   refine WO.stBA (u':=(x11.1,x11.2.1,x11.2.2)) rfl pa rfl tr rfl rfl (fun S17 c18 ho16=>?_)
   refine go ?_
   refine WO.bsS (A:=Y3) (M:=[((x11.1,x11.2.1,x11.2.2)).2.1]) (cs:=[.int .i64 (((x11.1,x11.2.1,x11.2.2)).2.1)]) 4 rfl rfl rfl ⟨[.int .i64 (((x11.1,x11.2.1,x11.2.2)).2.1)],_,rfl,rfl,rfl⟩ rfl (fun v19 S20 c21 ho22=>?_)
   obtain ⟨L23,e24,h⟩:=bindS h
   refine WO.appS rfl rfl tr ro e24 rfl rfl (fun v25 S26 c27 ho28=>?_)
   cases h;refine go ?_
   exact fn
  cases h;refine go ?_
  exact fn
 rintro _ _ _ _ ⟨rfl,⟨S31,v32,rfl,rfl,hc33,ho3⟩⟩
 cases h;refine go ?_
 exact fn
open Go.Am
theorem F125.fn:E.fn 125 = some (fi 42 Tryz.f125 []):=rfl
theorem F125_ok {F:Nat} {m:Mem} {n:Nat} {r:Int} {t0:List Int} {t1:List Int} {vt0:SV} {vt1:SV} (h:F125 F t0 t1 = some r) (kt0:Vw Y3 n m vt0 t0) (kt1:Vw Y3 n m vt1 t1):Ret E n 125 [.sc vt0,.sc vt1] m n (fun v m' n'=>v = .sc (.int .i64 r)):=by
 unfold F125 at h
 refine Ret.walk F125.fn ?_
 refine WC.start fun S0 em en hz=>?_
 have hot0:=kt0.rdS em hz
 have hot1:=kt1.rdS em hz
 obtain ⟨b22,e23,h⟩:=bindS h
 refine go ?_
 refine WC.loopD e23 (fun s1 l' m' n'=>∃ S2:Cx n,S2.m = m'∧S2.n = n'∧Cov l' [(0,.sc vt0),(1,.sc vt1),(5,.sc (.int .i64 s1.1)),(8,.sc vt0),(9,.sc (.int .i64 ((t0.length:Int)))),(10,.sc (.int .i64 s1.2))]∧Rd Y3 S2 vt0 t0∧Rd Y3 S2 vt1 t1) (fun b e l' m' n'=>e = .exit 0∧∃ S3:Cx n,S3.m = m'∧S3.n = n'∧Cov l' [(5,.sc (.int .i64 b))]) fn ?_ ?_
 ·rintro s1 q _ _ _ ⟨S4,rfl,rfl,hc5,hot0,hot1⟩ h
  unfold F125_l0 at h
  refine go ?_
  refine ci h (fun q6 h=>?_) fun q6 h=>?_
  ·obtain ⟨x7,e8,h⟩:=bindS h
   obtain ⟨y19,e20,h⟩:=bindS h
   refine go ?_
   refine WO.cutB (d:=38) 21 y19 (fun q18=>?_) (fun q18=>?_) ?_
   ·have h:=e20
    have h:=iteT q18 h
    obtain ⟨y16,e17,h⟩:=bindS h
    refine go ?_
    refine WO.cutB (d:=37) 17 y16 (fun q15=>?_) (fun q15=>?_) ?_
    ·have h:=e17
     have h:=iteT q15 h
     cases h;refine go ?_
     exact cu
    ·have h:=e17
     have h:=iteF q15 h
     obtain ⟨x9,e10,h⟩:=bindS h
     obtain ⟨x11,e12,h⟩:=bindS h
     obtain ⟨x13,e14,h⟩:=bindS h
     cases h;refine go ?_
     exact cu
    cases h;refine go ?_
    exact cu
   ·have h:=e20
    have h:=iteF q18 h
    cases h;refine go ?_
    exact cu
   refine go ?_
   refine ci h (fun q21 h=>?_) fun q21 h=>?_
   ·cases h;refine go ?_
    exact fn
   cases h;refine go ?_
   exact fn
  cases h;refine go ?_
  exact fn
 rintro _ _ _ _ ⟨rfl,⟨S24,rfl,rfl,hc25⟩⟩
 cases h;refine go ?_
 exact fn
open Go.Am
theorem F79.fn:E.fn 79 = some (fi 39 Tryz.f79 []):=rfl
theorem F79_ok {F:Nat} {m:Mem} {n:Nat} {r:Int × Int} {t0:List Int} {t1:List Int} {vt0:SV} {vt1:SV} (h:F79 F t0 t1 = some r) (kt0:Vw Y3 n m vt0 t0) (kt1:Vw Y3 n m vt1 t1):Ret E n 79 [.sc vt0,.sc vt1] m n (fun v m' n'=>v = .tup [.sc (.int .i64 r.1),.sc (.int .i64 r.2)]):=by
 unfold F79 at h
 refine Ret.walk F79.fn ?_
 refine WC.start fun S0 em en hz=>?_
 have hot0:=kt0.rdS em hz
 have hot1:=kt1.rdS em hz
 obtain ⟨r1,e2,h⟩:=bindS h
 refine go ?_
 refine WO.callE rfl rfl (F124_ok e2 vw) (fun S3 c4=>?_)
 refine go ?_
 refine ci h (fun q5 h=>?_) fun q5 h=>?_
 ·cases h;refine go ?_
  exact fn
 refine go ?_
 refine ci h (fun q6 h=>?_) fun q6 h=>?_
 ·cases h;refine go ?_
  exact fn
 obtain ⟨b19,e20,h⟩:=bindS h
 refine go ?_
 refine WC.loopD e20 (fun s7 l' m' n'=>∃ S8:Cx n,S8.m = m'∧S8.n = n'∧Cov l' [(0,.sc vt0),(1,.sc vt1),(20,.sc vt1),(21,.sc (.int .i64 ((t1.length:Int)))),(22,.sc (.int .i64 s7))]∧Rd Y3 S8 vt0 t0∧Rd Y3 S8 vt1 t1) (fun b e l' m' n'=>(match b with | .inl b9=>e = .exit 0∧∃ S10:Cx n,S10.m = m'∧S10.n = n'∧Cov l' [(0,.sc vt0),(1,.sc vt1)]∧Rd Y3 S10 vt0 t0∧Rd Y3 S10 vt1 t1 | .inr b9=>e = .ret∧∃ S11:Cx n,S11.m = m'∧S11.n = n'∧Cov l' [(4,.sc (.int .i64 b9.1)),(5,.sc (.int .i64 b9.2))])) fn ?_ ?_
 ·rintro s7 q _ _ _ ⟨S12,rfl,rfl,hc13,hot0,hot1⟩ h
  unfold F79_l0 at h
  refine go ?_
  refine ci h (fun q14 h=>?_) fun q14 h=>?_
  ·obtain ⟨x15,e16,h⟩:=bindS h
   refine go ?_
   refine WO.cutB (d:=31) 3 ((decide (x15 < 0)) || (decide (x15 > 1000000000))) (fun q17=>?_) (fun q17=>?_) ?_
   ·refine go ?_;exact cu
   ·refine go ?_;exact cu
   refine go ?_
   refine ci h (fun q18 h=>?_) fun q18 h=>?_
   ·cases h;refine go ?_
    exact fn
   cases h;refine go ?_
   exact fn
  cases h;refine go ?_
  exact fn
 cases b19 with
 | inl b21=>
  simp only at h
  rintro _ _ _ _ ⟨rfl,⟨S22,rfl,rfl,hc23,hot0,hot1⟩⟩
  obtain ⟨r24,e25,h⟩:=bindS h
  refine go ?_
  refine WO.callE rfl rfl (F125_ok e25 vw vw) (fun S26 c27=>?_)
  refine go ?_
  refine ci h (fun q28 h=>?_) fun q28 h=>?_
  ·cases h;refine go ?_
   exact fn
  cases h;refine go ?_
  exact fn
 | inr b21=>
  simp only at h
  rintro _ _ _ _ ⟨rfl,⟨S29,rfl,rfl,hc30⟩⟩
  cases h;refine go ?_
  exact fn
open Go.Am
theorem F80.fn:E.fn 80 = some (fi 27 Tryz.f80 []):=rfl
theorem F80_ok {F:Nat} {m:Mem} {n:Nat} {r:Bool} {t0:List UInt8} (h:F80 F t0 = some r) :Ret E n 80 [.sc (.str t0)] m n (fun v m' n'=>v = .sc (.bool r)):=by
 unfold F80 at h
 refine Ret.walk F80.fn ?_
 refine WC.start fun S0 em en hz=>?_
 obtain ⟨L1,e2,h⟩:=bindS h
 refine go ?_
 refine WO.cvB 2 rfl e2 rfl rfl rfl rfl rfl rfl rfl rfl rfl (fun v3 S4 c5 ho6=>?_)
 obtain ⟨b19,e20,h⟩:=bindS h
 refine go ?_
 refine WC.loopD e20 (fun s7 l' m' n'=>∃ S8:Cx n,S8.m = m'∧S8.n = n'∧Cov l' [(0,.sc (.str t0)),(6,.sc v3),(7,.sc (.int .i64 ((L1.length:Int)))),(8,.sc (.int .i64 s7))]∧Ow Y5 S8 2 v3 L1) (fun b e l' m' n'=>(match b with | .inl b9=>e = .exit 0∧∃ S10:Cx n,S10.m = m'∧S10.n = n'∧Cov l' [(0,.sc (.str t0))] | .inr b9=>e = .ret∧∃ S11:Cx n,S11.m = m'∧S11.n = n'∧Cov l' [(2,.sc (.bool b9))])) fn ?_ ?_
 ·rintro s7 q _ _ _ ⟨S12,rfl,rfl,hc13,ho6⟩ h
  unfold F80_l0 at h
  refine go ?_
  refine ci h (fun q14 h=>?_) fun q14 h=>?_
  ·obtain ⟨x15,e16,h⟩:=bindS h
   refine go ?_
   refine WO.cutB (d:=17) 3 ((decide (x15 < 97)) || (decide (x15 > 122))) (fun q17=>?_) (fun q17=>?_) ?_
   ·refine go ?_;exact cu
   ·refine go ?_;exact cu
   refine go ?_
   refine ci h (fun q18 h=>?_) fun q18 h=>?_
   ·cases h;refine go ?_
    exact fn
   cases h;refine go ?_
   exact fn
  cases h;refine go ?_
  exact fn
 cases b19 with
 | inl b21=>
  simp only at h
  rintro _ _ _ _ ⟨rfl,⟨S22,rfl,rfl,hc23⟩⟩
  refine go ?_
  refine WO.cutB (d:=26) 4 ((decide ((t0.length:Int) > 0)) && (decide ((t0.length:Int)≤12))) (fun q24=>?_) (fun q24=>?_) ?_
  ·refine go ?_;exact cu
  ·refine go ?_;exact cu
  cases h;refine go ?_
  exact fn
 | inr b21=>
  simp only at h
  rintro _ _ _ _ ⟨rfl,⟨S25,rfl,rfl,hc26⟩⟩
  cases h;refine go ?_
  exact fn
open Go.Am
theorem F127.fn:E.fn 127 = some (fi 8 Tryz.f127 []):=rfl
theorem F127_ok {F:Nat} {m:Mem} {n:Nat} {r:Bool} {t0:(List UInt8) × Int × Int} {c0:List UInt8} {bc0:Nat} (h:F127 F t0 c0 = some r) (kc0:Pv Y9 n m bc0 c0):Ret E n 127 [.agg [.str t0.1,.int .i64 t0.2.1,.int .i64 t0.2.2],.sc (.ptr bc0 0)] m n (fun v m' n'=>v = .sc (.bool r)):=by
 unfold F127 at h
 refine Ret.walk F127.fn ?_
 refine WC.start fun S0 em en hz=>?_
 have hoc0:=kc0.rpS em hz
 refine go ?_
 refine WO.bxS (A:=Y85) (u:=(t0.1,t0.2.1,t0.2.2)) 2 rfl rfl rfl rfl (fun v1 S2 c3 ho4=>?_)
 cases h;refine go ?_
 exact fn
open Go.Am
theorem F126_127.fn:E.fn 126 = some (fi 19 Tryz.f126 []):=rfl
theorem F126_127_ok {F:Nat} {m:Mem} {n:Nat} {r:Int} {t0:List ((List UInt8) × Int × Int)} {t1c0:List UInt8} {vt0:SV} {bt1c0:Nat} (h:F126_127 F t0 t1c0 = some r) (kt0:Vw Y85 n m vt0 t0) (kt1c0:Pv Y9 n m bt1c0 t1c0):Ret E n 126 [.sc vt0,.sc (.fn 127 [(bt1c0,0)])] m n (fun v m' n'=>v = .sc (.int .i64 r)):=by
 unfold F126_127 at h
 refine Ret.walk F126_127.fn ?_
 refine WC.start fun S0 em en hz=>?_
 have hot0:=kt0.rdS em hz
 have hot1c0:=kt1c0.rpS em hz
 obtain ⟨b16,e17,h⟩:=bindS h
 refine go ?_
 refine WC.loopD e17 (fun s1 l' m' n'=>∃ S2:Cx n,S2.m = m'∧S2.n = n'∧Cov l' [(0,.sc vt0),(1,.sc (.fn 127 [(bt1c0,0)])),(7,.sc (.int .i64 ((t0.length:Int)))),(8,.sc (.int .i64 s1))]∧Rd Y85 S2 vt0 t0∧Rp Y9 S2 (.ptr bt1c0 0) t1c0) (fun b e l' m' n'=>(match b with | .inl b3=>e = .exit 0∧∃ S4:Cx n,S4.m = m'∧S4.n = n'∧Cov l' [] | .inr b3=>e = .ret∧∃ S5:Cx n,S5.m = m'∧S5.n = n'∧Cov l' [(4,.sc (.int .i64 b3))])) fn ?_ ?_
 ·rintro s1 q _ _ _ ⟨S6,rfl,rfl,hc7,hot0,hot1c0⟩ h
  unfold F126_127_l0 at h
  refine go ?_
  refine ci h (fun q8 h=>?_) fun q8 h=>?_
  ·obtain ⟨x9,e10,h⟩:=bindS h
   obtain ⟨r11,e12,h⟩:=bindS h
   refine go ?_
   refine WO.callE rfl rfl (F127_ok e12 pv') (fun S13 c14=>?_)
   refine go ?_
   refine ci h (fun q15 h=>?_) fun q15 h=>?_
   ·cases h;refine go ?_
    exact fn
   cases h;refine go ?_
   exact fn
  cases h;refine go ?_
  exact fn
 cases b16 with
 | inl b18=>
  simp only at h
  rintro _ _ _ _ ⟨rfl,⟨S19,rfl,rfl,hc20⟩⟩
  cases h;refine go ?_
  exact fn
 | inr b18=>
  simp only at h
  rintro _ _ _ _ ⟨rfl,⟨S21,rfl,rfl,hc22⟩⟩
  cases h;refine go ?_
  exact fn
open Go.Am
theorem F81.fn:E.fn 81 = some (fi 11 Tryz.f81 []):=rfl
theorem F81_ok {F:Nat} {m:Mem} {n:Nat} {r:Int} {t0:(List ((List UInt8) × Int × Int)) × (List ((List UInt8) × (List UInt8) × Int))} {t1:List UInt8} {bt0:Nat} {vt0_0:SV} {vt0_1:SV} (h:F81 F t0 t1 = some r) (kt0:Pw n m (.ptr bt0 0) [vt0_0,vt0_1]) (kt0_0:Vw Y85 n m vt0_0 t0.1) (kt0_1:Vw Y168 n m vt0_1 t0.2):Ret E n 81 [.sc (.ptr bt0 0),.sc (.str t1)] m n (fun v m' n'=>v = .sc (.int .i64 r)):=by
 unfold F81 at h
 refine Ret.walk F81.fn ?_
 refine WC.start fun S0 em en hz=>?_
 have hot0_0:=kt0_0.rdS em hz
 have hot0_1:=kt0_1.rdS em hz
 have hot0:=kt0.rwS em hz
 refine go ?_
 refine WO.bxS (A:=Y9) (u:=t1) 2 rfl rfl rfl rfl (fun v1 S2 c3 ho4=>?_)
 refine go ?_
 obtain ⟨b5,rfl⟩:=ho4.isp
 obtain ⟨r6,e7,h⟩:=bindS h
 refine go ?_
 refine WO.callE rfl rfl (F126_127_ok e7 vw pv') (fun S8 c9=>?_)
 cases h;refine go ?_
 exact fn
open Go.Am
theorem F82.fn:E.fn 82 = some (fi 37 Tryz.f82 []):=rfl
theorem F82_ok {F:Nat} {fl:Nat} {S0:Cx fl} {r:Int × ((List ((List UInt8) × Int × Int)) × (List ((List UInt8) × (List UInt8) × Int)))} {t0:(List ((List UInt8) × Int × Int)) × (List ((List UInt8) × (List UInt8) × Int))} {t1:Int} {t2:Int × Int × (List UInt8) × (List UInt8)} {bt0:Nat} {vt0_0:SV} {vt0_1:SV} (h:F82 F t0 t1 t2 = some r) (hot0:Bw S0 2 (.ptr bt0 0) [vt0_0,vt0_1]) (hot0_0:Ow Y85 S0 3 vt0_0 t0.1) (hot0_1:Ow Y168 S0 4 vt0_1 t0.2):Ret E fl 82 [.sc (.ptr bt0 0),.sc (.int .i64 t1),.agg [.int .i64 t2.1,.int .i64 t2.2.1,.str t2.2.2.1,.str t2.2.2.2]] S0.m S0.n (fun v m' n'=>∃ S':Cx fl,S'.m = m'∧S'.n = n'∧ChM S0 S'∧(∃ w21 w22:SV,v = .sc (.int .i64 r.1)∧Bw S' 2 (.ptr bt0 0) [w21,w22]∧Ow Y85 S' 3 w21 r.2.1∧Ow Y168 S' 4 w22 r.2.2)):=by
 unfold F82 at h
 refine Ret.walk F82.fn ?_
 have hM:=ChM.refl S0
 refine go ?_
 refine WO.bxS (A:=Y67) (u:=(t2.1,t2.2.1,t2.2.2.1,t2.2.2.2)) 5 rfl rfl rfl rfl (fun v1 S2 c3 ho4=>?_)
 refine go ?_
 refine ci h (fun q5 h=>?_) fun q5 h=>?_
 ·cases h;refine go ?_
  exact fn
 refine go ?_
 refine WO.cutB (d:=16) 4 ((decide (((t2.1,t2.2.1,t2.2.2.1,t2.2.2.2)).2.1 < 0)) || (decide (((t2.1,t2.2.1,t2.2.2.1,t2.2.2.2)).2.1 > 100))) (fun q6=>?_) (fun q6=>?_) ?_
 ·refine go ?_;exact cu
 ·refine go ?_;exact cu
 refine go ?_
 refine ci h (fun q7 h=>?_) fun q7 h=>?_
 ·cases h;refine go ?_
  exact fn
 refine go ?_
 refine ci h (fun q8 h=>?_) fun q8 h=>?_
 ·cases h;refine go ?_
  exact fn
 refine go ?_
 refine WO.bsS (A:=Y85) (M:=[(((t2.1,t2.2.1,t2.2.2.1,t2.2.2.2)).2.2.1,((t2.1,t2.2.1,t2.2.2.1,t2.2.2.2)).2.1,0)]) (cs:=[.str (((t2.1,t2.2.1,t2.2.2.1,t2.2.2.2)).2.2.1),.int .i64 (((t2.1,t2.2.1,t2.2.2.1,t2.2.2.2)).2.1),.int .i64 0]) 6 rfl rfl rfl ⟨[.str (((t2.1,t2.2.1,t2.2.2.1,t2.2.2.2)).2.2.1),.int .i64 (((t2.1,t2.2.1,t2.2.2.1,t2.2.2.2)).2.1),.int .i64 0],_,rfl,rfl,rfl⟩ rfl (fun v9 S10 c11 ho12=>?_)
 obtain ⟨L13,e14,h⟩:=bindS h
 refine WO.appSB rfl rfl tr ro e14 rfl rfl rfl (fun v15 S16 c17 ho18=>?_)
 refine go ?_
 refine WO.stW (r:=[v15,vt0_1]) rfl rfl rfl rfl tr rfl rfl rfl rfl rfl (fun S19 c20 hot0=>?_)
 cases h;refine go ?_
 exact fn
open Go.Am
theorem F129.fn:E.fn 129 = some (fi 14 Tryz.f129 []):=rfl
theorem F129_ok {F:Nat} {m:Mem} {n:Nat} {r:Bool} {t0:(List UInt8) × (List UInt8) × Int} {c0:List UInt8} {bc0:Nat} (h:F129 F t0 c0 = some r) (kc0:Pv Y9 n m bc0 c0):Ret E n 129 [.agg [.str t0.1,.str t0.2.1,.int .i64 t0.2.2],.sc (.ptr bc0 0)] m n (fun v m' n'=>v = .sc (.bool r)):=by
 unfold F129 at h
 refine Ret.walk F129.fn ?_
 refine WC.start fun S0 em en hz=>?_
 have hoc0:=kc0.rpS em hz
 refine go ?_
 refine WO.bxS (A:=Y168) (u:=(t0.1,t0.2.1,t0.2.2)) 2 rfl rfl rfl rfl (fun v1 S2 c3 ho4=>?_)
 refine go ?_
 refine WO.cutB (d:=13) 5 ((((t0.1,t0.2.1,t0.2.2)).1 == c0) || (((t0.1,t0.2.1,t0.2.2)).2.1 == c0)) (fun q5=>?_) (fun q5=>?_) ?_
 ·refine go ?_;exact cu
 ·refine go ?_;exact cu
 cases h;refine go ?_
 exact fn
open Go.Am
theorem F153_129.fn:E.fn 153 = some (fi 19 Tryz.f153 []):=rfl
theorem F153_129_ok {F:Nat} {m:Mem} {n:Nat} {r:Int} {t0:List ((List UInt8) × (List UInt8) × Int)} {t1c0:List UInt8} {vt0:SV} {bt1c0:Nat} (h:F153_129 F t0 t1c0 = some r) (kt0:Vw Y168 n m vt0 t0) (kt1c0:Pv Y9 n m bt1c0 t1c0):Ret E n 153 [.sc vt0,.sc (.fn 129 [(bt1c0,0)])] m n (fun v m' n'=>v = .sc (.int .i64 r)):=by
 unfold F153_129 at h
 refine Ret.walk F153_129.fn ?_
 refine WC.start fun S0 em en hz=>?_
 have hot0:=kt0.rdS em hz
 have hot1c0:=kt1c0.rpS em hz
 obtain ⟨b16,e17,h⟩:=bindS h
 refine go ?_
 refine WC.loopD e17 (fun s1 l' m' n'=>∃ S2:Cx n,S2.m = m'∧S2.n = n'∧Cov l' [(0,.sc vt0),(1,.sc (.fn 129 [(bt1c0,0)])),(7,.sc (.int .i64 ((t0.length:Int)))),(8,.sc (.int .i64 s1))]∧Rd Y168 S2 vt0 t0∧Rp Y9 S2 (.ptr bt1c0 0) t1c0) (fun b e l' m' n'=>(match b with | .inl b3=>e = .exit 0∧∃ S4:Cx n,S4.m = m'∧S4.n = n'∧Cov l' [] | .inr b3=>e = .ret∧∃ S5:Cx n,S5.m = m'∧S5.n = n'∧Cov l' [(4,.sc (.int .i64 b3))])) fn ?_ ?_
 ·rintro s1 q _ _ _ ⟨S6,rfl,rfl,hc7,hot0,hot1c0⟩ h
  unfold F153_129_l0 at h
  refine go ?_
  refine ci h (fun q8 h=>?_) fun q8 h=>?_
  ·obtain ⟨x9,e10,h⟩:=bindS h
   obtain ⟨r11,e12,h⟩:=bindS h
   refine go ?_
   refine WO.callE rfl rfl (F129_ok e12 pv') (fun S13 c14=>?_)
   refine go ?_
   refine ci h (fun q15 h=>?_) fun q15 h=>?_
   ·cases h;refine go ?_
    exact fn
   cases h;refine go ?_
   exact fn
  cases h;refine go ?_
  exact fn
 cases b16 with
 | inl b18=>
  simp only at h
  rintro _ _ _ _ ⟨rfl,⟨S19,rfl,rfl,hc20⟩⟩
  cases h;refine go ?_
  exact fn
 | inr b18=>
  simp only at h
  rintro _ _ _ _ ⟨rfl,⟨S21,rfl,rfl,hc22⟩⟩
  cases h;refine go ?_
  exact fn
open Go.Am
theorem F128_129.fn:E.fn 128 = some (fi 9 Tryz.f128 []):=rfl
theorem F128_129_ok {F:Nat} {m:Mem} {n:Nat} {r:Bool} {t0:List ((List UInt8) × (List UInt8) × Int)} {t1c0:List UInt8} {vt0:SV} {bt1c0:Nat} (h:F128_129 F t0 t1c0 = some r) (kt0:Vw Y168 n m vt0 t0) (kt1c0:Pv Y9 n m bt1c0 t1c0):Ret E n 128 [.sc vt0,.sc (.fn 129 [(bt1c0,0)])] m n (fun v m' n'=>v = .sc (.bool r)):=by
 unfold F128_129 at h
 refine Ret.walk F128_129.fn ?_
 refine WC.start fun S0 em en hz=>?_
 have hot0:=kt0.rdS em hz
 have hot1c0:=kt1c0.rpS em hz
 obtain ⟨r1,e2,h⟩:=bindS h
 refine go ?_
 refine WO.callE rfl rfl (F153_129_ok e2 vw pv') (fun S3 c4=>?_)
 cases h;refine go ?_
 exact fn
open Go.Am
theorem F130.fn:E.fn 130 = some (fi 33 Tryz.f130 []):=rfl
theorem F130_ok {F:Nat} {fl n b:Nat} {m:Mem} {v:SV} {t0 M:(List ((List UInt8) × Int × Int))} {t1 t2:Int} (h:F130 F t0 t1 t2 = some M) (hfl:fl≤n) (kt0:Ov Y85 fl n b m v t0):Ret E fl 130 [.sc v,.sc (.int .i64 t1),.sc (.int .i64 t2)] m n (fun v' m' n'=>∃ w,v' = .sc w∧Oq Y85 n b m m' w M):=by
 unfold F130 at h
 replace h:delB? 4398046511104 t0 t1 t2 = some M:=by split at h;exact h;cases h
 obtain ⟨⟨hq0,hq1,hq2,hq3,hq4⟩,rfl⟩:=delB?_some h
 obtain ⟨c,cs,rfl,h1,h2,h3,h4,h5,h6⟩:=kt0
 have h5:cs.length = c * 3:=h5
 have hsz:Y85.sz = 3:=rfl
 refine Ret.walk F130.fn ?_
 repeat (first | refine WC.seq ?_ | refine thenL_n ?_ | refine thenL_r ?_ | refine WC.region ?_ | refine WO.nil ?_ | refine WC.skip ?_ | refine WC.ret ?_ | refine WO.asg rfl ?_ | refine WO.mv rfl ?_)
 refine WO.lenS rfl (.inr ⟨b,0,c,rfl,h1⟩) rfl ?_
 refine WO.slH3 rfl rfl rfl rfl ⟨hq0,hq1,hq2,by omega⟩ rfl (fun w0=>?_)
 repeat (first | refine WC.seq ?_ | refine thenL_n ?_ | refine thenL_r ?_ | refine WC.region ?_ | refine WO.nil ?_ | refine WC.skip ?_ | refine WC.ret ?_ | refine WO.asg rfl ?_ | refine WO.mv rfl ?_)
 refine WO.bin rfl rfl (by decide) (by decide) rfl ?_
 repeat (first | refine WC.seq ?_ | refine thenL_n ?_ | refine thenL_r ?_ | refine WC.region ?_ | refine WO.nil ?_ | refine WC.skip ?_ | refine WC.ret ?_ | refine WO.asg rfl ?_ | refine WO.mv rfl ?_)
 refine WC.cond rfl (fun q=>?_) (fun q=>?_)
 ·repeat (first | refine WC.seq ?_ | refine thenL_n ?_ | refine thenL_r ?_ | refine WC.region ?_ | refine WO.nil ?_ | refine WC.skip ?_ | refine WC.ret ?_ | refine WO.asg rfl ?_ | refine WO.mv rfl ?_)
  have e:t1 = t2:=by simpa using q
  subst e
  have eL:t0.take t1.toNat ++ t0.drop t1.toNat = t0:=List.take_append_drop _ _
  exact ⟨.inr rfl,_,_,rfl,rfl,_,rfl,fun _ _ _=>rfl,c,cs,by rw [eL],by rw [eL];exact h1,h4,h5,by rw [eL];exact h6⟩
 ·have e:¬ t1 = t2:=by simpa using q
  repeat (first | refine WC.seq ?_ | refine thenL_n ?_ | refine thenL_r ?_ | refine WC.region ?_ | refine WO.nil ?_ | refine WC.skip ?_ | refine WC.ret ?_ | refine WO.asg rfl ?_ | refine WO.mv rfl ?_)
  refine WO.lenS rfl (.inr ⟨b,0,c,rfl,h1⟩) rfl ?_
  repeat (first | refine WC.seq ?_ | refine thenL_n ?_ | refine thenL_r ?_ | refine WC.region ?_ | refine WO.nil ?_ | refine WC.skip ?_ | refine WC.ret ?_ | refine WO.asg rfl ?_ | refine WO.mv rfl ?_)
  refine WC.drawN rfl rfl ?_
  repeat (first | refine WC.seq ?_ | refine thenL_n ?_ | refine thenL_r ?_ | refine WC.region ?_ | refine WO.nil ?_ | refine WC.skip ?_ | refine WC.ret ?_ | refine WO.asg rfl ?_ | refine WO.mv rfl ?_)
  refine WO.slHto rfl rfl ⟨by omega,by omega⟩ rfl ?_
  repeat (first | refine WC.seq ?_ | refine thenL_n ?_ | refine thenL_r ?_ | refine WC.region ?_ | refine WO.nil ?_ | refine WC.skip ?_ | refine WC.ret ?_ | refine WO.asg rfl ?_ | refine WO.mv rfl ?_)
  refine WO.slHfrom rfl rfl ⟨by omega,by omega,h1⟩ h4 (by show 0 + t0.length * 3≤cs.length;omega) rfl (fun w1 hw1=>?_)
  refine WO.appHB (bnd:=4398046511104) rfl rfl hw1 h4 (by show 0 + c * 3≤cs.length;omega) (by omega) (by omega) rfl h2 rfl ?_
  repeat (first | refine WC.seq ?_ | refine thenL_n ?_ | refine thenL_r ?_ | refine WC.region ?_ | refine WO.nil ?_ | refine WC.skip ?_ | refine WC.ret ?_ | refine WO.asg rfl ?_ | refine WO.mv rfl ?_)
  refine WO.lenS rfl (.inr ⟨b,0,c,rfl,by omega⟩) rfl ?_
  repeat (first | refine WC.seq ?_ | refine thenL_n ?_ | refine thenL_r ?_ | refine WC.region ?_ | refine WO.nil ?_ | refine WC.skip ?_ | refine WC.ret ?_ | refine WO.asg rfl ?_ | refine WO.mv rfl ?_)
  refine WO.slHmid rfl rfl rfl ⟨by omega,by omega,by omega,by omega⟩ rfl ?_
  refine WO.clrH rfl (Tr.get_set_same _ _ _) ?_ h2 rfl (fun z hz=>?_)
  ·show _≤(splice cs (0 + t1.toNat * 3) _).length
   simp only [splice,List.length_append,List.length_take,List.length_drop,Int.toNat_natCast,hsz,Nat.zero_add]
   omega
  ·repeat (first | refine WC.seq ?_ | refine thenL_n ?_ | refine thenL_r ?_ | refine WC.region ?_ | refine WO.nil ?_ | refine WC.skip ?_ | refine WC.ret ?_ | refine WO.asg rfl ?_ | refine WO.mv rfl ?_)
   have hl:(t0.take t1.toNat ++ t0.drop t2.toNat).length = t1.toNat + (t0.length - t2.toNat):=by simp;omega
   refine ⟨.inr rfl,_,_,rfl,rfl,_,rfl,fun i _ hb=>by rw [Tr.get_set_ne _ _ hb,Tr.get_set_ne _ _ hb],c,_,by rw [hl],by rw [hl];omega,Tr.get_set_same _ _ _,?_,?_⟩
   ·simp only [splice,List.length_append,List.length_take,List.length_drop,Int.toNat_natCast,hz,hsz,Nat.zero_add]
    omega
   ·have hR:RL Y85 (fun i=>i < n∧i≠b) m _ _:=del_RL (zz:=z) (p:=t1.toNat) (r:=t2.toNat) (lo:=t1.toNat + (t0.length - t2.toNat)) h6 (by omega) (by omega) (by rw [hsz];omega) rfl
    exact RL.fl Lay.flat_fl hR
open Go.Am
theorem F83.fn:E.fn 83 = some (fi 31 Tryz.f83 []):=rfl
theorem F83_ok {F:Nat} {fl:Nat} {S0:Cx fl} {r:Int × ((List ((List UInt8) × Int × Int)) × (List ((List UInt8) × (List UInt8) × Int)))} {t0:(List ((List UInt8) × Int × Int)) × (List ((List UInt8) × (List UInt8) × Int))} {t1:Int} {bt0:Nat} {vt0_0:SV} {vt0_1:SV} (h:F83 F t0 t1 = some r) (hot0:Bw S0 2 (.ptr bt0 0) [vt0_0,vt0_1]) (hot0_0:Ow Y85 S0 3 vt0_0 t0.1) (hot0_1:Ow Y168 S0 4 vt0_1 t0.2):Ret E fl 83 [.sc (.ptr bt0 0),.sc (.int .i64 t1)] S0.m S0.n (fun v m' n'=>∃ S':Cx fl,S'.m = m'∧S'.n = n'∧ChM S0 S'∧(∃ w23 w24:SV,v = .sc (.int .i64 r.1)∧Bw S' 2 (.ptr bt0 0) [w23,w24]∧Ow Y85 S' 3 w23 r.2.1∧Ow Y168 S' 4 w24 r.2.2)):=by
 unfold F83 at h
 refine Ret.walk F83.fn ?_
 have hM:=ChM.refl S0
 obtain ⟨x1,e2,h⟩:=bindS h
 refine go ?_
 refine WO.alS (A:=Y9) (z0:=[]) 5 rfl rfl rfl (fun v3 S4 c5 ho6=>?_)
 refine WO.stB (j:=0) (q:=0) (u':=x1.1) rfl pa rfl tr (by rfl) (by decide) (by rfl) (by rfl) (fun S7 c8 ho6=>?_)
 refine go ?_
 obtain ⟨b9,rfl⟩:=ho6.isp
 obtain ⟨r10,e11,h⟩:=bindS h
 refine go ?_
 refine WO.callE rfl rfl (F128_129_ok e11 vw pv') (fun S12 c13=>?_)
 refine go ?_
 refine ci h (fun q14 h=>?_) fun q14 h=>?_
 ·cases h;refine go ?_
  exact fn
 obtain ⟨r15,e16,h⟩:=bindS h
 refine go ?_
 refine WO.callO tr (delB?_ne e16) rfl rfl (fun bq hI=>F130_ok e16 S12.le hI) Lay.flat_fl (fun v17 S18 c19 ho20=>?_)
 refine go ?_
 refine WO.stW (r:=[v17,vt0_1]) rfl rfl rfl rfl tr rfl rfl rfl rfl rfl (fun S21 c22 hot0=>?_)
 cases h;refine go ?_
 exact fn
open Go.Am
theorem F131.fn:E.fn 131 = some (fi 68 Tryz.f131 []):=rfl
theorem F131_ok {F:Nat} {m:Mem} {n:Nat} {r:(List Int) × Int} {t0:List Int} {t1:Int} {t2:Int} {t3:Int} {vt0:SV} (h:F131 F t0 t1 t2 t3 = some r) (kt0:Vw Y3 n m vt0 t0):Ret E n 131 [.sc vt0,.sc (.int .i64 t1),.sc (.int .i64 t2),.sc (.int .i64 t3)] m n (fun v m' n'=>∃ w,v = .tup [.sc w,.sc (.int .i64 r.2)]∧Fr Y3 n m' n' w r.1):=by
 unfold F131 at h
 refine Ret.walk F131.fn ?_
 refine WC.start fun S0 em en hz=>?_
 have hot0:=kt0.rdS em hz
 obtain ⟨r1,e2,h⟩:=bindS h
 refine go ?_
 refine WO.callE rfl rfl (F124_ok e2 vw) (fun S3 c4=>?_)
 refine go ?_
 refine ci h (fun q5 h=>?_) fun q5 h=>?_
 ·cases h;refine go ?_
  exact fn
 refine go ?_
 refine WO.cutB (d:=24) 5 ((decide (t1 < 0)) || (decide (t1 ≥ (t0.length:Int)))) (fun q6=>?_) (fun q6=>?_) ?_
 ·refine go ?_;exact cu
 ·refine go ?_;exact cu
 refine go ?_
 refine WO.cutB (d:=28) 3 (((decide (t1 < 0)) || (decide (t1 ≥ (t0.length:Int)))) || (decide (t2 < 0))) (fun q7=>?_) (fun q7=>?_) ?_
 ·refine go ?_;exact cu
 ·refine go ?_;exact cu
 refine go ?_
 refine WO.cutB (d:=34) 5 ((((decide (t1 < 0)) || (decide (t1 ≥ (t0.length:Int)))) || (decide (t2 < 0))) || (decide (t2 ≥ (t0.length:Int)))) (fun q8=>?_) (fun q8=>?_) ?_
 ·refine go ?_;exact cu
 ·refine go ?_;exact cu
 refine go ?_
 refine WO.cutB (d:=38) 3 (((((decide (t1 < 0)) || (decide (t1 ≥ (t0.length:Int)))) || (decide (t2 < 0))) || (decide (t2 ≥ (t0.length:Int)))) || (decide (t3 < 0))) (fun q9=>?_) (fun q9=>?_) ?_
 ·refine go ?_;exact cu
 ·refine go ?_;exact cu
 refine go ?_
 refine ci h (fun q10 h=>?_) fun q10 h=>?_
 ·cases h;refine go ?_
  exact fn
 obtain ⟨x11,e12,h⟩:=bindS h
 refine go ?_
 refine ci h (fun q13 h=>?_) fun q13 h=>?_
 ·cases h;refine go ?_
  exact fn
 refine go ?_
 refine WO.bsS (A:=Y3) (M:=[]) (cs:=[]) 2 rfl rfl rfl rfl rfl (fun v14 S15 c16 ho17=>?_)
 obtain ⟨L18,e19,h⟩:=bindS h
 refine go ?_
 refine WO.appS rfl rfl tr ro e19 rfl rfl (fun v20 S21 c22 ho23=>?_)
 obtain ⟨x24,e25,h⟩:=bindS h
 obtain ⟨u26,e27,h⟩:=bindS h
 refine go ?_
 refine WO.st1 (u':=(wrapA .i64 (x24 - t3))) rfl rfl tr ntl (by rfl) (by rfl) (fun S28 c29 ho23=>?_)
 obtain ⟨x30,e31,h⟩:=bindS h
 obtain ⟨u32,e33,h⟩:=bindS h
 refine go ?_
 refine WO.st1 (u':=(wrapA .i64 (x30 + t3))) rfl rfl tr ntl (by rfl) (by rfl) (fun S34 c35 ho23=>?_)
 obtain ⟨x36,e37,h⟩:=bindS h
 refine go ?_
 refine ci h (fun q38 h=>?_) fun q38 h=>?_
 ·cases h;refine go ?_
  exact fn
 cases h;refine go ?_
 exact fn
open Go.Am
theorem F84.fn:E.fn 84 = some (fi 75 Tryz.f84 [6,2000081]):=rfl
theorem F84_ok {F:Nat} {fl:Nat} {S0:Cx fl} {r:Int × ((List ((List UInt8) × Int × Int)) × (List ((List UInt8) × (List UInt8) × Int)))} {t0:(List ((List UInt8) × Int × Int)) × (List ((List UInt8) × (List UInt8) × Int))} {t1:Int} {t2:Int × Int × (List UInt8) × (List UInt8)} {bt0:Nat} {vt0_0:SV} {vt0_1:SV} (h:F84 F t0 t1 t2 = some r) (hot0:Bw S0 2 (.ptr bt0 0) [vt0_0,vt0_1]) (hot0_0:Ow Y85 S0 3 vt0_0 t0.1) (hot0_1:Ow Y168 S0 4 vt0_1 t0.2):Ret E fl 84 [.sc (.ptr bt0 0),.sc (.int .i64 t1),.agg [.int .i64 t2.1,.int .i64 t2.2.1,.str t2.2.2.1,.str t2.2.2.2]] S0.m S0.n (fun v m' n'=>∃ S':Cx fl,S'.m = m'∧S'.n = n'∧ChM S0 S'∧(∃ w49 w50:SV,v = .sc (.int .i64 r.1)∧Bw S' 2 (.ptr bt0 0) [w49,w50]∧Ow Y85 S' 3 w49 r.2.1∧Ow Y168 S' 4 w50 r.2.2)):=by
 unfold F84 at h
 refine Ret.walk F84.fn ?_
 have hM:=ChM.refl S0
 refine go ?_
 refine WO.bxS (A:=Y67) (u:=(t2.1,t2.2.1,t2.2.2.1,t2.2.2.2)) 5 rfl rfl rfl rfl (fun v1 S2 c3 ho4=>?_)
 obtain ⟨r5,e6,h⟩:=bindS h
 refine go ?_
 refine WO.callE rfl rfl (F81_ok e6 pw vw vw) (fun S7 c8=>?_)
 refine go ?_
 refine ci h (fun q9 h=>?_) fun q9 h=>?_
 ·cases h;refine go ?_
  exact fn
 refine go ?_
 refine WO.cutB (d:=23) 4 ((r5 == t1) || (decide (((t2.1,t2.2.1,t2.2.2.1,t2.2.2.2)).2.1 < 1))) (fun q10=>?_) (fun q10=>?_) ?_
 ·refine go ?_;exact cu
 ·refine go ?_;exact cu
 refine go ?_
 refine ci h (fun q11 h=>?_) fun q11 h=>?_
 ·cases h;refine go ?_
  exact fn
 obtain ⟨r12,e13,h⟩:=bindS h
 refine go ?_
 refine WO.callF 6 rfl rfl (F78_ok e13 pw vw vw) Lay.flat_fl (fun v14 S16 c17 ho15=>?_)
 obtain ⟨r18,e19,h⟩:=bindS h
 refine go ?_
 refine WO.callF 7 rfl rfl (F131_ok e19 vw) Lay.flat_fl (fun v20 S22 c23 ho21=>?_)
 refine go ?_
 refine ci h (fun q24 h=>?_) fun q24 h=>?_
 ·cases h;refine go ?_
  exact fn
 obtain ⟨x25,e26,h⟩:=bindS h
 obtain ⟨x27,e28,h⟩:=bindS h
 obtain ⟨x29,e30,h⟩:=bindS h
 refine go ?_
 refine WO.stF (q:=1) (u':=(x29.1,x25,x29.2.2)) rfl rfl tr gt (by rfl) (by decide) (by rfl) (by rfl) (fun S31 c32 hot0_0=>?_)
 obtain ⟨x33,e34,h⟩:=bindS h
 refine go ?_
 refine WO.stF (q:=1) (u':=(x33.1,x27,x33.2.2)) rfl rfl tr gt (by rfl) (by decide) (by rfl) (by rfl) (fun S35 c36 hot0_0=>?_)
 refine go ?_
 refine WO.bsS (A:=Y168) (M:=[(((t2.1,t2.2.1,t2.2.2.1,t2.2.2.2)).2.2.1,((t2.1,t2.2.1,t2.2.2.1,t2.2.2.2)).2.2.2,((t2.1,t2.2.1,t2.2.2.1,t2.2.2.2)).2.1)]) (cs:=[.str (((t2.1,t2.2.1,t2.2.2.1,t2.2.2.2)).2.2.1),.str (((t2.1,t2.2.1,t2.2.2.1,t2.2.2.2)).2.2.2),.int .i64 (((t2.1,t2.2.1,t2.2.2.1,t2.2.2.2)).2.1)]) 8 rfl rfl rfl ⟨[.str (((t2.1,t2.2.1,t2.2.2.1,t2.2.2.2)).2.2.1),.str (((t2.1,t2.2.1,t2.2.2.1,t2.2.2.2)).2.2.2),.int .i64 (((t2.1,t2.2.1,t2.2.2.1,t2.2.2.2)).2.1)],_,rfl,rfl,rfl⟩ rfl (fun v37 S38 c39 ho40=>?_)
 obtain ⟨L41,e42,h⟩:=bindS h
 refine WO.appSB rfl rfl tr ro e42 rfl rfl rfl (fun v43 S44 c45 ho46=>?_)
 refine go ?_
 refine WO.stW (r:=[vt0_0,v43]) rfl rfl rfl rfl tr rfl rfl rfl rfl rfl (fun S47 c48 hot0=>?_)
 cases h;refine go ?_
 exact fn
open Go.Am
theorem F132.fn:E.fn 132 = some (fi 33 Tryz.f132 []):=rfl
theorem F132_ok {F:Nat} {fl n b:Nat} {m:Mem} {v:SV} {t0 M:(List ((List UInt8) × (List UInt8) × Int))} {t1 t2:Int} (h:F132 F t0 t1 t2 = some M) (hfl:fl≤n) (kt0:Ov Y168 fl n b m v t0):Ret E fl 132 [.sc v,.sc (.int .i64 t1),.sc (.int .i64 t2)] m n (fun v' m' n'=>∃ w,v' = .sc w∧Oq Y168 n b m m' w M):=by
 unfold F132 at h
 replace h:delB? 3518437208883 t0 t1 t2 = some M:=by split at h;exact h;cases h
 obtain ⟨⟨hq0,hq1,hq2,hq3,hq4⟩,rfl⟩:=delB?_some h
 obtain ⟨c,cs,rfl,h1,h2,h3,h4,h5,h6⟩:=kt0
 have h5:cs.length = c * 3:=h5
 have hsz:Y168.sz = 3:=rfl
 refine Ret.walk F132.fn ?_
 repeat (first | refine WC.seq ?_ | refine thenL_n ?_ | refine thenL_r ?_ | refine WC.region ?_ | refine WO.nil ?_ | refine WC.skip ?_ | refine WC.ret ?_ | refine WO.asg rfl ?_ | refine WO.mv rfl ?_)
 refine WO.lenS rfl (.inr ⟨b,0,c,rfl,h1⟩) rfl ?_
 refine WO.slH3 rfl rfl rfl rfl ⟨hq0,hq1,hq2,by omega⟩ rfl (fun w0=>?_)
 repeat (first | refine WC.seq ?_ | refine thenL_n ?_ | refine thenL_r ?_ | refine WC.region ?_ | refine WO.nil ?_ | refine WC.skip ?_ | refine WC.ret ?_ | refine WO.asg rfl ?_ | refine WO.mv rfl ?_)
 refine WO.bin rfl rfl (by decide) (by decide) rfl ?_
 repeat (first | refine WC.seq ?_ | refine thenL_n ?_ | refine thenL_r ?_ | refine WC.region ?_ | refine WO.nil ?_ | refine WC.skip ?_ | refine WC.ret ?_ | refine WO.asg rfl ?_ | refine WO.mv rfl ?_)
 refine WC.cond rfl (fun q=>?_) (fun q=>?_)
 ·repeat (first | refine WC.seq ?_ | refine thenL_n ?_ | refine thenL_r ?_ | refine WC.region ?_ | refine WO.nil ?_ | refine WC.skip ?_ | refine WC.ret ?_ | refine WO.asg rfl ?_ | refine WO.mv rfl ?_)
  have e:t1 = t2:=by simpa using q
  subst e
  have eL:t0.take t1.toNat ++ t0.drop t1.toNat = t0:=List.take_append_drop _ _
  exact ⟨.inr rfl,_,_,rfl,rfl,_,rfl,fun _ _ _=>rfl,c,cs,by rw [eL],by rw [eL];exact h1,h4,h5,by rw [eL];exact h6⟩
 ·have e:¬ t1 = t2:=by simpa using q
  repeat (first | refine WC.seq ?_ | refine thenL_n ?_ | refine thenL_r ?_ | refine WC.region ?_ | refine WO.nil ?_ | refine WC.skip ?_ | refine WC.ret ?_ | refine WO.asg rfl ?_ | refine WO.mv rfl ?_)
  refine WO.lenS rfl (.inr ⟨b,0,c,rfl,h1⟩) rfl ?_
  repeat (first | refine WC.seq ?_ | refine thenL_n ?_ | refine thenL_r ?_ | refine WC.region ?_ | refine WO.nil ?_ | refine WC.skip ?_ | refine WC.ret ?_ | refine WO.asg rfl ?_ | refine WO.mv rfl ?_)
  refine WC.drawN rfl rfl ?_
  repeat (first | refine WC.seq ?_ | refine thenL_n ?_ | refine thenL_r ?_ | refine WC.region ?_ | refine WO.nil ?_ | refine WC.skip ?_ | refine WC.ret ?_ | refine WO.asg rfl ?_ | refine WO.mv rfl ?_)
  refine WO.slHto rfl rfl ⟨by omega,by omega⟩ rfl ?_
  repeat (first | refine WC.seq ?_ | refine thenL_n ?_ | refine thenL_r ?_ | refine WC.region ?_ | refine WO.nil ?_ | refine WC.skip ?_ | refine WC.ret ?_ | refine WO.asg rfl ?_ | refine WO.mv rfl ?_)
  refine WO.slHfrom rfl rfl ⟨by omega,by omega,h1⟩ h4 (by show 0 + t0.length * 3≤cs.length;omega) rfl (fun w1 hw1=>?_)
  refine WO.appHB (bnd:=3518437208883) rfl rfl hw1 h4 (by show 0 + c * 3≤cs.length;omega) (by omega) (by omega) rfl h2 rfl ?_
  repeat (first | refine WC.seq ?_ | refine thenL_n ?_ | refine thenL_r ?_ | refine WC.region ?_ | refine WO.nil ?_ | refine WC.skip ?_ | refine WC.ret ?_ | refine WO.asg rfl ?_ | refine WO.mv rfl ?_)
  refine WO.lenS rfl (.inr ⟨b,0,c,rfl,by omega⟩) rfl ?_
  repeat (first | refine WC.seq ?_ | refine thenL_n ?_ | refine thenL_r ?_ | refine WC.region ?_ | refine WO.nil ?_ | refine WC.skip ?_ | refine WC.ret ?_ | refine WO.asg rfl ?_ | refine WO.mv rfl ?_)
  refine WO.slHmid rfl rfl rfl ⟨by omega,by omega,by omega,by omega⟩ rfl ?_
  refine WO.clrH rfl (Tr.get_set_same _ _ _) ?_ h2 rfl (fun z hz=>?_)
  ·show _≤(splice cs (0 + t1.toNat * 3) _).length
   simp only [splice,List.length_append,List.length_take,List.length_drop,Int.toNat_natCast,hsz,Nat.zero_add]
   omega
  ·repeat (first | refine WC.seq ?_ | refine thenL_n ?_ | refine thenL_r ?_ | refine WC.region ?_ | refine WO.nil ?_ | refine WC.skip ?_ | refine WC.ret ?_ | refine WO.asg rfl ?_ | refine WO.mv rfl ?_)
   have hl:(t0.take t1.toNat ++ t0.drop t2.toNat).length = t1.toNat + (t0.length - t2.toNat):=by simp;omega
   refine ⟨.inr rfl,_,_,rfl,rfl,_,rfl,fun i _ hb=>by rw [Tr.get_set_ne _ _ hb,Tr.get_set_ne _ _ hb],c,_,by rw [hl],by rw [hl];omega,Tr.get_set_same _ _ _,?_,?_⟩
   ·simp only [splice,List.length_append,List.length_take,List.length_drop,Int.toNat_natCast,hz,hsz,Nat.zero_add]
    omega
   ·have hR:RL Y168 (fun i=>i < n∧i≠b) m _ _:=del_RL (zz:=z) (p:=t1.toNat) (r:=t2.toNat) (lo:=t1.toNat + (t0.length - t2.toNat)) h6 (by omega) (by omega) (by rw [hsz];omega) rfl
    exact RL.fl Lay.flat_fl hR
open Go.Am
theorem F85.fn:E.fn 85 = some (fi 122 Tryz.f85 [7]):=rfl
theorem F85_ok {F:Nat} {fl:Nat} {S0:Cx fl} {r:((List UInt8) × Int) × ((List ((List UInt8) × Int × Int)) × (List ((List UInt8) × (List UInt8) × Int)))} {t0:(List ((List UInt8) × Int × Int)) × (List ((List UInt8) × (List UInt8) × Int))} {t1:List UInt8} {bt0:Nat} {vt0_0:SV} {vt0_1:SV} (h:F85 F t0 t1 = some r) (hot0:Bw S0 2 (.ptr bt0 0) [vt0_0,vt0_1]) (hot0_0:Ow Y85 S0 3 vt0_0 t0.1) (hot0_1:Ow Y168 S0 4 vt0_1 t0.2):Ret E fl 85 [.sc (.ptr bt0 0),.sc (.str t1)] S0.m S0.n (fun v m' n'=>∃ S':Cx fl,S'.m = m'∧S'.n = n'∧ChM S0 S'∧(∃ w78 w79:SV,v = .agg [.str r.1.1,.int .i64 r.1.2]∧Bw S' 2 (.ptr bt0 0) [w78,w79]∧Ow Y85 S' 3 w78 r.2.1∧Ow Y168 S' 4 w79 r.2.2)):=by
 unfold F85 at h
 refine Ret.walk F85.fn ?_
 have hM:=ChM.refl S0
 refine go ?_
 refine WO.alS (A:=Y69) (z0:=(([],0):(List UInt8) × Int)) 5 rfl rfl rfl (fun v1 S2 c3 ho4=>?_)
 obtain ⟨b69,e70,h⟩:=bindS h
 refine go ?_
 refine WC.loopD e70 (fun s5 l' m' n'=>∃ S8:Cx fl,∃ v9 v10:SV,S8.m = m'∧S8.n = n'∧Cov l' [(0,.sc ((.ptr bt0 0))),(1,.sc (.str t1)),(4,.sc v1),(5,.sc (.int .i64 s5.1)),(6,.sc (.int .i64 s5.2.1))]∧ChM S0 S8∧Bw S8 2 (.ptr bt0 0) [v9,v10]∧Bk Y69 S8 5 v1 ((([],0):(List UInt8) × Int))∧Ow Y85 S8 3 v9 s5.2.2.1∧Ow Y168 S8 4 v10 s5.2.2.2) (fun b e l' m' n'=>e = .exit 0∧∃ S11:Cx fl,∃ v12 v13:SV,S11.m = m'∧S11.n = n'∧Cov l' [(0,.sc ((.ptr bt0 0))),(1,.sc (.str t1)),(4,.sc v1),(5,.sc (.int .i64 b.1))]∧ChM S0 S11∧Bw S11 2 (.ptr bt0 0) [v12,v13]∧Bk Y69 S11 5 v1 ((([],0):(List UInt8) × Int))∧Ow Y85 S11 3 v12 b.2.1∧Ow Y168 S11 4 v13 b.2.2) fn ?_ ?_
 ·rintro s5 q _ _ _ ⟨S14,v15,v16,rfl,rfl,hc17,hM,hot0,ho4,hot0c0,hot0c1⟩ h
  unfold F85_l0 at h
  refine go ?_
  refine ci h (fun q18 h=>?_) fun q18 h=>?_
  ·obtain ⟨x19,e20,h⟩:=bindS h
   refine go ?_
   refine WO.alS (A:=Y168) (z0:=(([],[],0):(List UInt8) × (List UInt8) × Int)) 6 rfl rfl rfl (fun v21 S22 c23 ho24=>?_)
   refine WO.stBA (u':=(x19.1,x19.2.1,x19.2.2)) rfl pa rfl tr rfl rfl (fun S25 c26 ho24=>?_)
   refine go ?_
   refine ci h (fun q27 h=>?_) fun q27 h=>?_
   ·cases h;refine go ?_
    exact fn
   obtain ⟨r28,e29,h⟩:=bindS h
   refine go ?_
   refine WO.callE rfl rfl (F81_ok e29 pw vw vw) (fun S30 c31=>?_)
   obtain ⟨r32,e33,h⟩:=bindS h
   refine go ?_
   refine WO.callE rfl rfl (F81_ok e33 pw vw vw) (fun S34 c35=>?_)
   obtain ⟨x36,e37,h⟩:=bindS h
   obtain ⟨x38,e39,h⟩:=bindS h
   have h:=bindE e37 h
   have h:=bindE e37 h
   refine go ?_
   refine WO.stF (q:=1) (u':=(x36.1,(wrapA .i64 (x36.2.1 - (minI (minI ((x19.1,x19.2.1,x19.2.2)).2.2 x36.2.1) (wrapA .i64 (100 - x38.2.1))))),x36.2.2)) rfl rfl tr gt (by rfl) (by decide) (by rfl) (by rfl) (fun S44 c45 hot0c0=>?_)
   obtain ⟨x46,e47,h⟩:=bindS h
   have h:=bindE e47 h
   refine go ?_
   refine WO.stF (q:=1) (u':=(x46.1,(wrapA .i64 (x46.2.1 + (minI (minI ((x19.1,x19.2.1,x19.2.2)).2.2 x36.2.1) (wrapA .i64 (100 - x38.2.1))))),x46.2.2)) rfl rfl tr gt (by rfl) (by decide) (by rfl) (by rfl) (fun S50 c51 hot0c0=>?_)
   have h:=bindE e20 h
   have h:=bindE e20 h
   refine go ?_
   refine WO.stF (q:=2) (u':=(x19.1,x19.2.1,(wrapA .i64 (x19.2.2 - (minI (minI ((x19.1,x19.2.1,x19.2.2)).2.2 x36.2.1) (wrapA .i64 (100 - x38.2.1))))))) rfl rfl tr gt (by rfl) (by decide) (by rfl) (by rfl) (fun S56 c57 hot0c1=>?_)
   obtain ⟨x58,e59,h⟩:=bindS h
   refine go ?_
   refine ci h (fun q60 h=>?_) fun q60 h=>?_
   ·obtain ⟨r61,e62,h⟩:=bindS h
    refine go ?_
    refine WO.callO tr (delB?_ne e62) rfl rfl (fun bq hI=>F132_ok e62 S56.le hI) Lay.flat_fl (fun v63 S64 c65 ho66=>?_)
    refine go ?_
    refine WO.stW (r:=[v15,v63]) rfl rfl rfl rfl tr rfl rfl rfl rfl rfl (fun S67 c68 hot0=>?_)
    cases h;refine go ?_
    exact fn
   cases h;refine go ?_
   exact fn
  cases h;refine go ?_
  exact fn
 rintro _ _ _ _ ⟨rfl,⟨S71,v72,v73,rfl,rfl,hc74,hM,hot0,ho4,hot0c0,hot0c1⟩⟩
 refine go ?_
 refine WO.stBA (u':=(t1,b69.1)) rfl pa rfl tr rfl rfl (fun S75 c76 ho4=>?_)
 cases h;refine go ?_
 exact fn
open Go.Am
theorem F34.fn:E.fn 34 = some (fi 113 Tryz.f34 [5,3000023,3000028,3000030,2000076,2000081,2000085]):=rfl
theorem F34_ok {F:Nat} {fl:Nat} {S0:Cx fl} {r:((List UInt8) × Int) × Int × ((List ((List UInt8) × Int × Int)) × (List ((List UInt8) × (List UInt8) × Int)))} {t0:(List ((List UInt8) × Int × Int)) × (List ((List UInt8) × (List UInt8) × Int))} {t1:Int × Int × (List UInt8) × (List UInt8)} {bt0:Nat} {vt0_0:SV} {vt0_1:SV} (h:F34 F t0 t1 = some r) (hot0:Bw S0 2 (.ptr bt0 0) [vt0_0,vt0_1]) (hot0_0:Ow Y85 S0 3 vt0_0 t0.1) (hot0_1:Ow Y168 S0 4 vt0_1 t0.2):Ret E fl 34 [.sc (.ptr bt0 0),.agg [.int .i64 t1.1,.int .i64 t1.2.1,.str t1.2.2.1,.str t1.2.2.2]] S0.m S0.n (fun v m' n'=>∃ S':Cx fl,S'.m = m'∧S'.n = n'∧ChM S0 S'∧(∃ w197 w198:SV,v = .tup [.agg [.str r.1.1,.int .i64 r.1.2],.sc (.int .i64 r.2.1)]∧Bw S' 2 (.ptr bt0 0) [w197,w198]∧Ow Y85 S' 3 w197 r.2.2.1∧Ow Y168 S' 4 w198 r.2.2.2)):=by
 unfold F34 at h
 refine Ret.walk F34.fn ?_
 have hM:=ChM.refl S0
 refine go ?_
 refine WO.bxS (A:=Y67) (u:=(t1.1,t1.2.1,t1.2.2.1,t1.2.2.2)) 5 rfl rfl rfl rfl (fun v1 S2 c3 ho4=>?_)
 refine WO.alS (A:=Y69) (z0:=(([],0):(List UInt8) × Int)) 6 rfl rfl rfl (fun v5 S6 c7 ho8=>?_)
 refine go ?_
 refine WO.alS (A:=Y69) (z0:=(([],0):(List UInt8) × Int)) 7 rfl rfl rfl (fun v9 S10 c11 ho12=>?_)
 refine WO.stBA (u':=(([],0):(List UInt8) × Int)) rfl pa rfl tr rfl rfl (fun S13 c14 ho12=>?_)
 refine go ?_
 refine ci h (fun q15 h=>?_) fun q15 h=>?_
 ·obtain ⟨r16,e17,h⟩:=bindS h
  refine go ?_
  refine WO.callF 8 rfl rfl (F78_ok e17 pw vw vw) Lay.flat_fl (fun v18 S20 c21 ho19=>?_)
  obtain ⟨r22,e23,h⟩:=bindS h
  refine go ?_
  refine WO.callE rfl rfl (F77_ok e23 vw) (fun S24 c25=>?_)
  obtain ⟨r26,e27,h⟩:=bindS h
  refine go ?_
  refine WO.callG (S:=S24) [(2,2),(3,3),(4,4)] [(2,2),(3,3),(4,4)] rfl rfl (F76_ok (S0:=S24.mp [(2,2),(3,3),(4,4)]) e27 mq mq mq) (fun _ S32 S33 hb hR=>?_)
  obtain ⟨v28,v30,rfl,hR0,hR1,hR2⟩:=hR
  have c34:=Cx.mg_ch S24 3 2
  have c35:=Cx.mg_ch (S24.mg 3 2) 4 2
  have c36:Ch 2 ((S24.mg 3 2).mg 4 2) S33:=hb.ch [3,4] 2
  have hot0:=hR0.bk (k:=2) hb rfl
  have ho29:=hR1.bkF (k:=3) hb rfl Lay.flat_fl
  have ho31:=hR2.bkF (k:=4) hb rfl Lay.flat_fl
  refine go ?_
  refine WO.stBA (u':=(r26.1.1,r26.1.2)) rfl pa rfl tr rfl rfl (fun S37 c38 ho8=>?_)
  cases h;refine go ?_
  exact fn
 refine go ?_
 refine ci h (fun q40 h=>?_) fun q40 h=>?_
 ·obtain ⟨b69,e70,h⟩:=bindS h
  refine go ?_
  refine WC.loopD e70 (fun s41 l' m' n'=>∃ S43:Cx fl,∃ v44:SV,S43.m = m'∧S43.n = n'∧Cov l' [(0,.sc ((.ptr bt0 0))),(4,.sc v5),(7,.sc v44),(33,.sc vt0_0),(34,.sc (.int .i64 ((t0.1.length:Int)))),(35,.sc (.int .i64 s41.2))]∧ChM S0 S43∧Bw S43 2 (.ptr bt0 0) [vt0_0,vt0_1]∧Ow Y85 S43 3 vt0_0 t0.1∧Ow Y168 S43 4 vt0_1 t0.2∧Bk Y69 S43 6 v5 ((([],0):(List UInt8) × Int))∧Ow Y3 S43 11 v44 s41.1) (fun b e l' m' n'=>e = .exit 1∧∃ S45:Cx fl,∃ v46:SV,S45.m = m'∧S45.n = n'∧Cov l' [(0,.sc ((.ptr bt0 0))),(4,.sc v5),(7,.sc v46)]∧ChM S0 S45∧Bw S45 2 (.ptr bt0 0) [vt0_0,vt0_1]∧Ow Y85 S45 3 vt0_0 t0.1∧Ow Y168 S45 4 vt0_1 t0.2∧Bk Y69 S45 6 v5 ((([],0):(List UInt8) × Int))∧Ow Y3 S45 11 v46 b) fn ?_ ?_
  ·rintro s41 q _ _ _ ⟨S47,v48,rfl,rfl,hc49,hM,hot0,hot0_0,hot0_1,ho8,ho7⟩ h
   unfold F34_l0 at h
   refine go ?_
   refine ci h (fun q50 h=>?_) fun q50 h=>?_
   ·obtain ⟨x51,e52,h⟩:=bindS h
    refine go ?_
    refine WO.alS (A:=Y85) (z0:=(([],0,0):(List UInt8) × Int × Int)) 12 rfl rfl rfl (fun v53 S54 c55 ho56=>?_)
    refine WO.stBA (u':=(x51.1,x51.2.1,x51.2.2)) rfl pa rfl tr rfl rfl (fun S57 c58 ho56=>?_)
    refine go ?_
    refine WO.bsS (A:=Y3) (M:=[((x51.1,x51.2.1,x51.2.2)).2.2]) (cs:=[.int .i64 (((x51.1,x51.2.1,x51.2.2)).2.2)]) 13 rfl rfl rfl ⟨[.int .i64 (((x51.1,x51.2.1,x51.2.2)).2.2)],_,rfl,rfl,rfl⟩ rfl (fun v59 S60 c61 ho62=>?_)
    obtain ⟨L63,e64,h⟩:=bindS h
    refine WO.appS rfl rfl tr ro e64 rfl rfl (fun v65 S66 c67 ho68=>?_)
    cases h;refine go ?_
    exact fn
   cases h;refine go ?_
   exact fn
  rintro _ _ _ _ ⟨rfl,⟨S71,v72,rfl,rfl,hc73,hM,hot0,hot0_0,hot0_1,ho8,ho7⟩⟩
  obtain ⟨r74,e75,h⟩:=bindS h
  refine go ?_
  refine WO.callF 14 rfl rfl (F78_ok e75 pw vw vw) Lay.flat_fl (fun v76 S78 c79 ho77=>?_)
  obtain ⟨r80,e81,h⟩:=bindS h
  refine go ?_
  refine WO.callE rfl rfl (F79_ok e81 vw vw) (fun S82 c83=>?_)
  obtain ⟨r84,e85,h⟩:=bindS h
  refine go ?_
  refine WO.callG (S:=S82) [(2,2),(3,3),(4,4)] [(2,2),(3,3),(4,4)] rfl rfl (F76_ok (S0:=S82.mp [(2,2),(3,3),(4,4)]) e85 mq mq mq) (fun _ S90 S91 hb hR=>?_)
  obtain ⟨v86,v88,rfl,hR0,hR1,hR2⟩:=hR
  have c92:=Cx.mg_ch S82 3 2
  have c93:=Cx.mg_ch (S82.mg 3 2) 4 2
  have c94:Ch 2 ((S82.mg 3 2).mg 4 2) S91:=hb.ch [3,4] 2
  have hot0:=hR0.bk (k:=2) hb rfl
  have ho87:=hR1.bkF (k:=3) hb rfl Lay.flat_fl
  have ho89:=hR2.bkF (k:=4) hb rfl Lay.flat_fl
  refine go ?_
  refine WO.stBA (u':=(r84.1.1,r84.1.2)) rfl pa rfl tr rfl rfl (fun S95 c96 ho8=>?_)
  cases h;refine go ?_
  exact fn
 obtain ⟨b102,e103,h⟩:=bindS h
 refine go ?_
 refine WC.mono (Q':=(fun b e l' m' n'=>e = .normal∧∃ S104:Cx fl,S104.m = m'∧S104.n = n'∧Cov l' [(0,.sc ((.ptr bt0 0))),(3,.sc v1),(4,.sc v5),(6,.sc v9),(55,.sc (.bool b))]∧ChM S0 S104∧Bw S104 2 (.ptr bt0 0) [vt0_0,vt0_1]∧Ow Y85 S104 3 vt0_0 t0.1∧Ow Y168 S104 4 vt0_1 t0.2∧Bk Y67 S104 5 v1 ((t1.1,t1.2.1,t1.2.2.1,t1.2.2.2))∧Bk Y69 S104 6 v5 ((([],0):(List UInt8) × Int))∧Bk Y69 S104 7 v9 ((([],0):(List UInt8) × Int))) b102) ?_ ?_
 ·have h:=e103
  dsimp only at h ⊢
  refine ci h (fun q98 h=>?_) fun q98 h=>?_
  ·cases h;refine go ?_
   exact fn
  refine go ?_
  refine ci h (fun q99 h=>?_) fun q99 h=>?_
  ·cases h;refine go ?_
   exact fn
  refine go ?_
  refine ci h (fun q100 h=>?_) fun q100 h=>?_
  ·cases h;refine go ?_
   exact fn
  refine go ?_
  refine ci h (fun q101 h=>?_) fun q101 h=>?_
  ·cases h;refine go ?_
   exact fn
  cases h;refine go ?_
  exact fn
 dsimp only
 rintro _ _ _ _ ⟨rfl,⟨S105,rfl,rfl,hc106,hM,hot0,hot0_0,hot0_1,ho4,ho8,ho12⟩⟩
 refine go ?_
 refine ci h (fun q107 h=>?_) fun q107 h=>?_
 ·obtain ⟨r108,e109,h⟩:=bindS h
  refine go ?_
  refine WO.callE rfl rfl (F80_ok e109) (fun S110 c111=>?_)
  refine go ?_
  refine ci h (fun q112 h=>?_) fun q112 h=>?_
  ·refine go ?_
   refine WO.stBA (u':=((((([],0):(List UInt8) × Int)).1,((([],0):(List UInt8) × Int)).2):(List UInt8) × Int)) rfl pa rfl tr rfl rfl (fun S113 c114 ho8=>?_)
   cases h;refine go ?_
   exact fn
  obtain ⟨r116,e117,h⟩:=bindS h
  refine go ?_
  refine WO.callE rfl rfl (F81_ok e117 pw vw vw) (fun S118 c119=>?_)
  refine go ?_
  refine ci h (fun q120 h=>?_) fun q120 h=>?_
  ·refine go ?_
   obtain ⟨b121,rfl⟩:=ho12.isp
   obtain ⟨b122,rfl⟩:=ho4.isp
   refine WC.drawG [b121,b122] rfl rfl rfl (fun t ht=>rdB_in ht rfl (by simp [SV.blk])) ?_
   refine WOG.split 4 rfl ?_
   obtain ⟨r123,e124,h⟩:=bindS h
   refine go ?_
   refine WOG.callG (S:=S118) [(2,2),(3,3),(4,4)] [(2,2),(3,3),(4,4)] ap rfl rfl (F82_ok (S0:=S118.mp [(2,2),(3,3),(4,4)]) e124 mq mq mq) (fun _ S129 S130 hb hR=>?_)
   obtain ⟨v125,v127,rfl,hR0,hR1,hR2⟩:=hR
   have c131:=Cx.mg_ch S118 3 2
   have c132:=Cx.mg_ch (S118.mg 3 2) 4 2
   have c133:Ch 2 ((S118.mg 3 2).mg 4 2) S130:=hb.ch [3,4] 2
   have hot0:=hR0.bk (k:=2) hb rfl
   have ho126:=hR1.bkF (k:=3) hb rfl Lay.flat_fl
   have ho128:=hR2.bkF (k:=4) hb rfl Lay.flat_fl
   refine WOG.split 2 rfl ?_
   refine WO.stBA (u':=((((([],0):(List UInt8) × Int)).1,((([],0):(List UInt8) × Int)).2):(List UInt8) × Int)) rfl pa rfl tr rfl rfl (fun S134 c135 ho8=>?_)
   refine go ?_
   refine WOG.nil ?_
   cases h;refine go ?_
   exact fn
  refine go ?_
  refine ci h (fun q137 h=>?_) fun q137 h=>?_
  ·refine go ?_
   refine WO.stBA (u':=((((([],0):(List UInt8) × Int)).1,((([],0):(List UInt8) × Int)).2):(List UInt8) × Int)) rfl pa rfl tr rfl rfl (fun S138 c139 ho8=>?_)
   cases h;refine go ?_
   exact fn
  refine go ?_
  refine ci h (fun q141 h=>?_) fun q141 h=>?_
  ·refine go ?_
   obtain ⟨b142,rfl⟩:=ho12.isp
   refine WC.drawG [b142] rfl rfl rfl (fun t ht=>rdB_in ht rfl (by simp [SV.blk])) ?_
   refine WOG.split 3 rfl ?_
   obtain ⟨r143,e144,h⟩:=bindS h
   refine go ?_
   refine WOG.callG (S:=S118) [(2,2),(3,3),(4,4)] [(2,2),(3,3),(4,4)] ap rfl rfl (F83_ok (S0:=S118.mp [(2,2),(3,3),(4,4)]) e144 mq mq mq) (fun _ S149 S150 hb hR=>?_)
   obtain ⟨v145,v147,rfl,hR0,hR1,hR2⟩:=hR
   have c151:=Cx.mg_ch S118 3 2
   have c152:=Cx.mg_ch (S118.mg 3 2) 4 2
   have c153:Ch 2 ((S118.mg 3 2).mg 4 2) S150:=hb.ch [3,4] 2
   have hot0:=hR0.bk (k:=2) hb rfl
   have ho146:=hR1.bkF (k:=3) hb rfl Lay.flat_fl
   have ho148:=hR2.bkF (k:=4) hb rfl Lay.flat_fl
   refine WOG.split 2 rfl ?_
   refine WO.stBA (u':=((((([],0):(List UInt8) × Int)).1,((([],0):(List UInt8) × Int)).2):(List UInt8) × Int)) rfl pa rfl tr rfl rfl (fun S154 c155 ho8=>?_)
   refine go ?_
   refine WOG.nil ?_
   cases h;refine go ?_
   exact fn
  refine go ?_
  refine ci h (fun q157 h=>?_) fun q157 h=>?_
  ·refine go ?_
   obtain ⟨b158,rfl⟩:=ho12.isp
   obtain ⟨b159,rfl⟩:=ho4.isp
   refine WC.drawG [b158,b159] rfl rfl rfl (fun t ht=>rdB_in ht rfl (by simp [SV.blk])) ?_
   refine WOG.split 4 rfl ?_
   obtain ⟨r160,e161,h⟩:=bindS h
   refine go ?_
   refine WOG.callG (S:=S118) [(2,2),(3,3),(4,4)] [(2,2),(3,3),(4,4)] ap rfl rfl (F84_ok (S0:=S118.mp [(2,2),(3,3),(4,4)]) e161 mq mq mq) (fun _ S166 S167 hb hR=>?_)
   obtain ⟨v162,v164,rfl,hR0,hR1,hR2⟩:=hR
   have c168:=Cx.mg_ch S118 3 2
   have c169:=Cx.mg_ch (S118.mg 3 2) 4 2
   have c170:Ch 2 ((S118.mg 3 2).mg 4 2) S167:=hb.ch [3,4] 2
   have hot0:=hR0.bk (k:=2) hb rfl
   have ho163:=hR1.bkF (k:=3) hb rfl Lay.flat_fl
   have ho165:=hR2.bkF (k:=4) hb rfl Lay.flat_fl
   refine WOG.split 2 rfl ?_
   refine WO.stBA (u':=((((([],0):(List UInt8) × Int)).1,((([],0):(List UInt8) × Int)).2):(List UInt8) × Int)) rfl pa rfl tr rfl rfl (fun S171 c172 ho8=>?_)
   refine go ?_
   refine WOG.nil ?_
   cases h;refine go ?_
   exact fn
  refine go ?_
  refine ci h (fun q174 h=>?_) fun q174 h=>?_
  ·obtain ⟨r175,e176,h⟩:=bindS h
   refine go ?_
   refine WO.callG (S:=S118) [(2,2),(3,3),(4,4)] [(2,2),(3,3),(4,4)] rfl rfl (F85_ok (S0:=S118.mp [(2,2),(3,3),(4,4)]) e176 mq mq mq) (fun _ S181 S182 hb hR=>?_)
   obtain ⟨v177,v179,rfl,hR0,hR1,hR2⟩:=hR
   have c183:=Cx.mg_ch S118 3 2
   have c184:=Cx.mg_ch (S118.mg 3 2) 4 2
   have c185:Ch 2 ((S118.mg 3 2).mg 4 2) S182:=hb.ch [3,4] 2
   have hot0:=hR0.bk (k:=2) hb rfl
   have ho178:=hR1.bkF (k:=3) hb rfl Lay.flat_fl
   have ho180:=hR2.bkF (k:=4) hb rfl Lay.flat_fl
   refine WO.stBA (u':=(r175.1.1,r175.1.2)) rfl pa rfl tr rfl rfl (fun S186 c187 ho8=>?_)
   cases h;refine go ?_
   exact fn
  obtain ⟨x189,e190,h⟩:=bindS h
  refine go ?_
  refine WO.stBA (u':=(((t1.1,t1.2.1,t1.2.2.1,t1.2.2.2)).2.2.1,x189.2.2)) rfl pa rfl tr rfl rfl (fun S191 c192 ho8=>?_)
  cases h;refine go ?_
  exact fn
 refine go ?_
 refine WO.stBA (u':=((((([],0):(List UInt8) × Int)).1,((([],0):(List UInt8) × Int)).2):(List UInt8) × Int)) rfl pa rfl tr rfl rfl (fun S194 c195 ho8=>?_)
 cases h;refine go ?_
 exact fn
open Go.Am
abbrev HL:=(List ((List UInt8) × Int × Int)) × (List ((List UInt8) × (List UInt8) × Int))
abbrev Dd:=Int × Int × (List UInt8) × (List UInt8)
def KM:List (List UInt8 × Int):=mput (mput (mput (mput (mput (mput (mput (([]:List (List UInt8 × Int))) ([106,111,105,110]:List UInt8) 1) ([108,101,97,118,101]:List UInt8) 2) ([108,101,110,100]:List UInt8) 3) ([98,97,99,107]:List UInt8) 4) ([100,114,97,119]:List UInt8) 5) ([116,101,108,108]:List UInt8) 6) ([102,97,105,114]:List UInt8) 7
def WM:List (List UInt8 × Int):=mput (mput (mput (mput (mput (mput (mput (([]:List (List UInt8 × Int))) ([106,111,105,110]:List UInt8) 3) ([108,101,97,118,101]:List UInt8) 2) ([108,101,110,100]:List UInt8) 4) ([98,97,99,107]:List UInt8) 2) ([100,114,97,119]:List UInt8) 2) ([116,101,108,108]:List UInt8) 2) ([102,97,105,114]:List UInt8) 1
def XD:Int ⊕ ((List UInt8) × Bool)→XR
 | .inl c=>.pan c
 | .inr s=>.ok (.tup [.sc (.str s.1),.sc (.bool s.2)])
def nmx {α:Type} (s:List UInt8) (k:Int→α):Xr α:=match num s with
 | none=>some (.inl 10)
 | some a=>some (.inr (k a))
def deedX (l:List (List UInt8)) (k:Int):Xr Dd:=
 if (k == 1) then (at? l 1).bind fun a=>(at? l 2).bind fun b=>nmx b fun n=>(k,n,a,[])
 else if (k == 3) then (at? l 1).bind fun a=>(at? l 2).bind fun b=>(at? l 3).bind fun c=>nmx c fun n=>(k,n,a,b)
 else if (k == 5) then (at? l 1).bind fun a=>nmx a fun n=>(k,n,[],[])
 else if (k == 2) then (at? l 1).bind fun a=>some (.inr (k,0,a,[]))
 else if (k == 4) then (at? l 1).bind fun a=>some (.inr (k,0,a,[]))
 else if (k == 6) then (at? l 1).bind fun a=>some (.inr (k,0,a,[]))
 else some (.inr (k,0,[],[]))
def X18 (F:Nat) (H:HL) (l:List (List UInt8)):Option (HL × (Int ⊕ ((List UInt8) × Bool))):=
 (at? l 0).bind fun w=>
 if ((mget KM w).getD 0 == 0) then some (H,.inr ([],false))
 else if ((l.length:Int) != (mget WM w).getD 0) then some (H,.inl 10)
 else (deedX l ((mget KM w).getD 0)).bind fun y=>match y with
  | .inl c=>some (H,.inl c)
  | .inr x=>(F34 F H x).bind fun r=>
   if r.2.1 = 0 then
    if ((mget KM w).getD 0 == 1) then some (r.2.2,.inr ([111,107],true)) else if ((mget KM w).getD 0 == 2) then some (r.2.2,.inr ([111,107],true)) else if ((mget KM w).getD 0 == 3) then some (r.2.2,.inr ([111,107],true))
    else (cat? r.1.1 [32]).bind fun a=>(itoa? r.1.2).bind fun b=>(cat? a b).bind fun c=>some (r.2.2,.inr (c,true))
   else some (r.2.2,.inl r.2.1)
theorem F18.fn:E.fn 18 = some (fi 99 Tryz.f18 [10,12,1000012,26,2000034]):=rfl
section
variable {B fl0:Nat} {w0:World} (hE:EnvOk Tryz.prog E) (hW:E.wc w0∧B = w0.heap.size)
include hE hW
theorem F18x {F fl:Nat} {S0:Cx fl} {H:HL} {l:List (List UInt8)} {vt1 v0 v1:SV} {bd bh:Nat} {r:HL × (Int ⊕ ((List UInt8) × Bool))} (hfl:fl0≤fl) (h:X18 F H l = some r) (hd:Rw S0 (.ptr bd 0) [.ptr bh 0])
 (hot0:Bw S0 2 (.ptr bh 0) [v0,v1]) (hot0_0:Ow Y85 S0 3 v0 H.1) (hot0_1:Ow Y168 S0 4 v1 H.2) (hot1:Rd Y9 S0 vt1 l) (hl:∀ s∈l,s.length≤100000):
 CX Tryz.prog pv B fl0 w0 18 [.sc (.ptr bd 0),.sc vt1] S0.m S0.n fun x m' n'=>∃ S':Cx fl,S'.m = m'∧S'.n = n'∧ChM S0 S'∧x = XD r.2∧∃ w1 w2,Bw S' 2 (.ptr bh 0) [w1,w2]∧Ow Y85 S' 3 w1 r.1.1∧Ow Y168 S' 4 w2 r.1.2:=by
 refine CX.walk hE E.fns F18.fn ?_
 have hF:=E.fns
 have hM:=ChM.refl S0
 unfold X18 at h
 obtain ⟨w,e1,h⟩:=bindS h
 have hw:keyS? w = some ():=by
  have:=List.mem_of_getElem? (at?_get e1)
  unfold keyS?;rw [if_pos (by have:=hl w this;omega)]
 refine gx ?_
 refine WO.mkMp (mlS) 10 E.mt60 rfl (fun v10 S1000 c1000 h10=>?_)
 refine WO.inS (q:=([106,111,105,110]:List UInt8)) (u:=1) rfl h10 rfl rfl E.mt60 (keyS?_ok (u:=()) rfl) rfl (fun S1001 c1001 h10=>?_)
 refine WO.inS (q:=([108,101,97,118,101]:List UInt8)) (u:=2) rfl h10 rfl rfl E.mt60 (keyS?_ok (u:=()) rfl) rfl (fun S1002 c1002 h10=>?_)
 refine WO.inS (q:=([108,101,110,100]:List UInt8)) (u:=3) rfl h10 rfl rfl E.mt60 (keyS?_ok (u:=()) rfl) rfl (fun S1003 c1003 h10=>?_)
 refine WO.inS (q:=([98,97,99,107]:List UInt8)) (u:=4) rfl h10 rfl rfl E.mt60 (keyS?_ok (u:=()) rfl) rfl (fun S1004 c1004 h10=>?_)
 refine WO.inS (q:=([100,114,97,119]:List UInt8)) (u:=5) rfl h10 rfl rfl E.mt60 (keyS?_ok (u:=()) rfl) rfl (fun S1005 c1005 h10=>?_)
 refine WO.inS (q:=([116,101,108,108]:List UInt8)) (u:=6) rfl h10 rfl rfl E.mt60 (keyS?_ok (u:=()) rfl) rfl (fun S1006 c1006 h10=>?_)
 refine WO.inS (q:=([102,97,105,114]:List UInt8)) (u:=7) rfl h10 rfl rfl E.mt60 (keyS?_ok (u:=()) rfl) rfl (fun S1007 c1007 h10=>?_)
 replace h10:Mp mlS S1007 10 v10 KM:=h10
 refine go ?_
 refine WO.mkMp (mlS) 11 E.mt60 rfl (fun v11 S1100 c1100 h11=>?_)
 refine WO.inS (q:=([106,111,105,110]:List UInt8)) (u:=3) rfl h11 rfl rfl E.mt60 (keyS?_ok (u:=()) rfl) rfl (fun S1101 c1101 h11=>?_)
 refine WO.inS (q:=([108,101,97,118,101]:List UInt8)) (u:=2) rfl h11 rfl rfl E.mt60 (keyS?_ok (u:=()) rfl) rfl (fun S1102 c1102 h11=>?_)
 refine WO.inS (q:=([108,101,110,100]:List UInt8)) (u:=4) rfl h11 rfl rfl E.mt60 (keyS?_ok (u:=()) rfl) rfl (fun S1103 c1103 h11=>?_)
 refine WO.inS (q:=([98,97,99,107]:List UInt8)) (u:=2) rfl h11 rfl rfl E.mt60 (keyS?_ok (u:=()) rfl) rfl (fun S1104 c1104 h11=>?_)
 refine WO.inS (q:=([100,114,97,119]:List UInt8)) (u:=2) rfl h11 rfl rfl E.mt60 (keyS?_ok (u:=()) rfl) rfl (fun S1105 c1105 h11=>?_)
 refine WO.inS (q:=([116,101,108,108]:List UInt8)) (u:=2) rfl h11 rfl rfl E.mt60 (keyS?_ok (u:=()) rfl) rfl (fun S1106 c1106 h11=>?_)
 refine WO.inS (q:=([102,97,105,114]:List UInt8)) (u:=1) rfl h11 rfl rfl E.mt60 (keyS?_ok (u:=()) rfl) rfl (fun S1107 c1107 h11=>?_)
 replace h11:Mp mlS S1107 11 v11 WM:=h11
 refine go ?_
 refine gx ?_
 refine WO.lkS (q:=w) rfl (trQ (L:=KM)) rfl E.mt60 (keyS?_ok hw) ?_
 refine go ?_
 refine gx ?_
 refine xci h (fun q h=>?_) fun q h=>?_
 ·cases h
  refine gx ?_
  exact ⟨.inr rfl,_,_,rk,rfl,fn⟩
 refine gx ?_
 refine WO.lkS (q:=w) rfl (trQ (L:=WM)) rfl E.mt60 (keyS?_ok hw) ?_
 refine go ?_
 refine gx ?_
 refine xci h (fun q2 h=>?_) fun q2 h=>?_
 ·cases h
  refine WX.region ?_
  refine WXO.callK rfl rfl rfl (must_k 10) (fun v S1 c1 e=>by cases e) (fun c S1 c1 e=>?_)
  cases e
  refine gx ?_
  exact fn
 obtain ⟨y,ey,h⟩:=bindS h
 refine gx ?_
 refine WO.alS (A:=Y67) (z0:=((0,0,[],[]):Int × Int × (List UInt8) × (List UInt8))) 12 rfl rfl rfl (fun v12 S12 c12 ho12=>?_)
 refine WO.stBA (u':=((mget KM w).getD 0,(0:Int),([]:List UInt8),([]:List UInt8))) rfl pa rfl tr rfl rfl (fun S13 c13 ho12=>?_)
 refine go ?_
 refine gx ?_
 refine WX.mono (Q:=fun x l m' n'=>∃ S:Cx fl,S.m = m'∧S.n = n'∧ChM S0 S∧Bw S 2 (.ptr bh 0) [v0,v1]∧Ow Y85 S 3 v0 H.1∧Ow Y168 S 4 v1 H.2∧Rw S (.ptr bd 0) [.ptr bh 0]∧match x with
  | .e .normal=>∃ z,y = .inr z∧Cov l [(0,.sc (.ptr bd 0)),(8,.sc (.int .i64 ((mget KM w).getD 0))),(9,.sc v12)]∧Bk Y67 S 12 v12 z
  | .pan c=>y = .inl c
  | _=>False) ?_ ?_
 ·unfold deedX at ey
  refine xci ey (fun q ey=>?_) fun q ey=>?_
  ·obtain ⟨a,ea,ey⟩:=bindS ey
   obtain ⟨b,eb,ey⟩:=bindS ey
   unfold nmx at ey
   cases hn:num b with
   | none=>
    rw [hn] at ey
    cases ey
    have hx:=F33x (B:=B) (fl0:=fl0) (w0:=w0) hE hW b (m:=S13.m) (n:=S13.n)
    rw [hn] at hx
    refine WX.drawPan (R:=fun x m' n'=>Keeps S13.n S13.n S13.m m' n'∧x = .pan 10) (ops:=_) (j:=6) hE hfl [(44,.sc (ptrAt v12 0 (0 + 2))),(42,.sc (.str b)),(41,.sc (ptrAt vt1 2 0)),(40,.sc vt1),(39,.sc (.str a)),(38,.sc (ptrAt vt1 1 0)),(37,.sc vt1)] [0,1,2,3,4,5,7] (by kernel_rfl) rfl ?_ ?_ rfl hx ?_
    ·intro p hp
     simp only [List.mem_cons,List.not_mem_nil,or_false] at hp
     rcases hp with rfl | rfl | rfl | rfl | rfl | rfl | rfl
     ·exact ⟨7,_,rfl,rfl⟩
     ·exact ⟨5,_,rfl,rfl⟩
     ·exact ⟨4,_,rfl,rfl⟩
     ·exact ⟨3,_,rfl,rfl⟩
     ·exact ⟨2,_,rfl,rfl⟩
     ·exact ⟨1,_,rfl,rfl⟩
     ·exact ⟨0,_,rfl,rfl⟩
    ·have hR:Rd Y9 S13 vt1 l:=trR
     intro i hi o ho
     simp only [List.mem_cons,List.not_mem_nil,or_false] at hi
     rcases hi with rfl | rfl | rfl | rfl | rfl | rfl | rfl
     all_goals cases ho
     ·exact ⟨_,_,rfl,rfl,rfl,rfl⟩
     ·exact ⟨_,_,rfl,rfl,rfl,opA_of (loose:=fun _=>true) (ops:=#[]) (ty:=0) (pos:= "") (af:=#[]) (d:=38) (fun _=>rfl) rfl (WO.ixS rfl rfl hR.slv (at?_lt ea) rfl (WO.nil ⟨rfl,rfl,rfl⟩))⟩
     ·exact ⟨_,_,rfl,rfl,rfl,opA_of (loose:=fun _=>true) (ops:=#[]) (ty:=0) (pos:= "") (af:=#[]) (d:=39) (fun _=>rfl) rfl (WO.ldF rfl hR.ro (fun _ h=>h) (at?_get ea) rfl rfl (limLe_self _) (WO.nil ⟨rfl,rfl,rfl⟩))⟩
     ·exact ⟨_,_,rfl,rfl,rfl,rfl⟩
     ·exact ⟨_,_,rfl,rfl,rfl,opA_of (loose:=fun _=>true) (ops:=#[]) (ty:=0) (pos:= "") (af:=#[]) (d:=41) (fun _=>rfl) rfl (WO.ixS rfl rfl hR.slv (at?_lt eb) rfl (WO.nil ⟨rfl,rfl,rfl⟩))⟩
     ·exact ⟨_,_,rfl,rfl,rfl,opA_of (loose:=fun _=>true) (ops:=#[]) (ty:=0) (pos:= "") (af:=#[]) (d:=42) (fun _=>rfl) rfl (WO.ldF rfl hR.ro (fun _ h=>h) (at?_get eb) rfl rfl (limLe_self _) (WO.nil ⟨rfl,rfl,rfl⟩))⟩
     ·exact ⟨_,_,rfl,rfl,rfl,opA_of (loose:=fun _=>true) (ops:=#[]) (ty:=0) (pos:= "") (af:=#[]) (d:=44) (fun _=>rfl) rfl (WO.fldS rfl ho12.at0 ho12.ptr rfl rfl rfl (by decide) (WO.nil ⟨rfl,rfl,rfl⟩))⟩
    ·rintro x m' n' ⟨hk,rfl⟩
     obtain ⟨S',rfl,rfl,hc,_⟩:=S13.next hk 1 S13.n (Nat.le_refl _)
     exact ⟨10,rfl,fn⟩
   | some n=>
    rw [hn] at ey
    cases ey
    refine WX.ofQ hE hF hW hfl (WC.drawN rfl rfl (go ?_))
    refine WO.callE rfl rfl (F33_ok (F33_num hn)) (fun S14 c14=>?_)
    refine go ?_
    refine WO.stB (u':=((mget KM w).getD 0,(0:Int),a,([]:List UInt8))) rfl rfl rfl tr (by rfl) (by decide) rfl (by rfl) (fun S15 c15 ho12=>?_)
    refine go ?_
    refine WO.stB (u':=((mget KM w).getD 0,n,a,([]:List UInt8))) rfl rfl rfl tr (by rfl) (by decide) rfl (by rfl) (fun S16 c16 ho12=>?_)
    refine go ?_
    exact fn
  refine gx ?_
  refine xci ey (fun q ey=>?_) fun q ey=>?_
  ·obtain ⟨a,ea,ey⟩:=bindS ey
   obtain ⟨b,eb,ey⟩:=bindS ey
   obtain ⟨c,ec,ey⟩:=bindS ey
   unfold nmx at ey
   cases hn:num c with
   | none=>
    rw [hn] at ey
    cases ey
    have hx:=F33x (B:=B) (fl0:=fl0) (w0:=w0) hE hW c (m:=S13.m) (n:=S13.n)
    rw [hn] at hx
    refine WX.drawPan (R:=fun x m' n'=>Keeps S13.n S13.n S13.m m' n'∧x = .pan 10) (ops:=_) (j:=9) hE hfl [(58,.sc (ptrAt v12 0 (0 + 2))),(56,.sc (.str c)),(55,.sc (ptrAt vt1 3 0)),(54,.sc vt1),(53,.sc (.str b)),(52,.sc (ptrAt vt1 2 0)),(51,.sc vt1),(50,.sc (.str a)),(49,.sc (ptrAt vt1 1 0)),(48,.sc vt1)] [0,1,2,3,4,5,6,7,8,10] (by kernel_rfl) rfl ?_ ?_ rfl hx ?_
    ·intro p hp
     simp only [List.mem_cons,List.not_mem_nil,or_false] at hp
     rcases hp with rfl | rfl | rfl | rfl | rfl | rfl | rfl | rfl | rfl | rfl
     ·exact ⟨10,_,rfl,rfl⟩
     ·exact ⟨8,_,rfl,rfl⟩
     ·exact ⟨7,_,rfl,rfl⟩
     ·exact ⟨6,_,rfl,rfl⟩
     ·exact ⟨5,_,rfl,rfl⟩
     ·exact ⟨4,_,rfl,rfl⟩
     ·exact ⟨3,_,rfl,rfl⟩
     ·exact ⟨2,_,rfl,rfl⟩
     ·exact ⟨1,_,rfl,rfl⟩
     ·exact ⟨0,_,rfl,rfl⟩
    ·have hR:Rd Y9 S13 vt1 l:=trR
     intro i hi o ho
     simp only [List.mem_cons,List.not_mem_nil,or_false] at hi
     rcases hi with rfl | rfl | rfl | rfl | rfl | rfl | rfl | rfl | rfl | rfl
     all_goals cases ho
     ·exact ⟨_,_,rfl,rfl,rfl,rfl⟩
     ·exact ⟨_,_,rfl,rfl,rfl,opA_of (loose:=fun _=>true) (ops:=#[]) (ty:=0) (pos:= "") (af:=#[]) (d:=49) (fun _=>rfl) rfl (WO.ixS rfl rfl hR.slv (at?_lt ea) rfl (WO.nil ⟨rfl,rfl,rfl⟩))⟩
     ·exact ⟨_,_,rfl,rfl,rfl,opA_of (loose:=fun _=>true) (ops:=#[]) (ty:=0) (pos:= "") (af:=#[]) (d:=50) (fun _=>rfl) rfl (WO.ldF rfl hR.ro (fun _ h=>h) (at?_get ea) rfl rfl (limLe_self _) (WO.nil ⟨rfl,rfl,rfl⟩))⟩
     ·exact ⟨_,_,rfl,rfl,rfl,rfl⟩
     ·exact ⟨_,_,rfl,rfl,rfl,opA_of (loose:=fun _=>true) (ops:=#[]) (ty:=0) (pos:= "") (af:=#[]) (d:=52) (fun _=>rfl) rfl (WO.ixS rfl rfl hR.slv (at?_lt eb) rfl (WO.nil ⟨rfl,rfl,rfl⟩))⟩
     ·exact ⟨_,_,rfl,rfl,rfl,opA_of (loose:=fun _=>true) (ops:=#[]) (ty:=0) (pos:= "") (af:=#[]) (d:=53) (fun _=>rfl) rfl (WO.ldF rfl hR.ro (fun _ h=>h) (at?_get eb) rfl rfl (limLe_self _) (WO.nil ⟨rfl,rfl,rfl⟩))⟩
     ·exact ⟨_,_,rfl,rfl,rfl,rfl⟩
     ·exact ⟨_,_,rfl,rfl,rfl,opA_of (loose:=fun _=>true) (ops:=#[]) (ty:=0) (pos:= "") (af:=#[]) (d:=55) (fun _=>rfl) rfl (WO.ixS rfl rfl hR.slv (at?_lt ec) rfl (WO.nil ⟨rfl,rfl,rfl⟩))⟩
     ·exact ⟨_,_,rfl,rfl,rfl,opA_of (loose:=fun _=>true) (ops:=#[]) (ty:=0) (pos:= "") (af:=#[]) (d:=56) (fun _=>rfl) rfl (WO.ldF rfl hR.ro (fun _ h=>h) (at?_get ec) rfl rfl (limLe_self _) (WO.nil ⟨rfl,rfl,rfl⟩))⟩
     ·exact ⟨_,_,rfl,rfl,rfl,opA_of (loose:=fun _=>true) (ops:=#[]) (ty:=0) (pos:= "") (af:=#[]) (d:=58) (fun _=>rfl) rfl (WO.fldS rfl ho12.at0 ho12.ptr rfl rfl rfl (by decide) (WO.nil ⟨rfl,rfl,rfl⟩))⟩
    ·rintro x m' n' ⟨hk,rfl⟩
     obtain ⟨S',rfl,rfl,hc,_⟩:=S13.next hk 1 S13.n (Nat.le_refl _)
     exact ⟨10,rfl,fn⟩
   | some n=>
    rw [hn] at ey
    cases ey
    refine WX.ofQ hE hF hW hfl (WC.drawDN rfl (go ?_))
    refine WO.callE rfl rfl (F33_ok (F33_num hn)) (fun S14 c14=>?_)
    refine go ?_
    refine WO.stB (u':=((mget KM w).getD 0,(0:Int),a,([]:List UInt8))) rfl rfl rfl tr (by rfl) (by decide) rfl (by rfl) (fun S15 c15 ho12=>?_)
    refine go ?_
    refine WO.stB (u':=((mget KM w).getD 0,(0:Int),a,b)) rfl rfl rfl tr (by rfl) (by decide) rfl (by rfl) (fun S16 c16 ho12=>?_)
    refine go ?_
    refine WO.stB (u':=((mget KM w).getD 0,n,a,b)) rfl rfl rfl tr (by rfl) (by decide) rfl (by rfl) (fun S17 c17 ho12=>?_)
    refine go ?_
    refine dy S13 S17 [(5,11)] ?_
    exact fn
  refine gx ?_
  refine xci ey (fun q ey=>?_) fun q ey=>?_
  ·obtain ⟨a,ea,ey⟩:=bindS ey
   unfold nmx at ey
   refine WX.region ?_
   refine WXO.pre hE hF hW hfl 3 (by decide) (go ?_)
   refine WXO.callK rfl rfl rfl (F33x hE hW a) (fun v S14 c14 e=>?_) (fun c S14 c14 e=>?_)
   ·cases hn:num a with
    | none=>rw [hn] at e;cases e
    | some n=>
     rw [hn] at e ey
     cases e
     cases ey
     refine WXO.pre hE hF hW hfl 2 (by decide) (go ?_)
     refine WO.stB (u':=((mget KM w).getD 0,n,([]:List UInt8),([]:List UInt8))) rfl rfl rfl tr (by rfl) (by decide) rfl (by rfl) (fun S15 c15 ho12=>?_)
     refine go ?_
     refine WXO.done (by decide) ?_
     exact fn
   ·cases hn:num a with
    | some n=>rw [hn] at e;cases e
    | none=>
     rw [hn] at e ey
     cases e
     cases ey
     exact fn
  refine gx ?_
  refine xci ey (fun q ey=>?_) fun q ey=>?_
  ·refine gx ?_
   refine WX.cond rfl (fun _=>?_) (fun q'=>by rw [q] at q';cases q')
   obtain ⟨a,ea,ey⟩:=bindS ey
   cases ey
   refine gx ?_
   refine WO.stB (u':=((mget KM w).getD 0,(0:Int),a,([]:List UInt8))) rfl rfl rfl tr (by rfl) (by decide) rfl (by rfl) (fun S15 c15 ho12=>?_)
   refine go ?_
   exact fn
  refine gx ?_
  refine xci ey (fun q ey=>?_) fun q ey=>?_
  ·refine gx ?_
   refine WX.cond rfl (fun _=>?_) (fun q'=>by rw [q] at q';cases q')
   obtain ⟨a,ea,ey⟩:=bindS ey
   cases ey
   refine gx ?_
   refine WO.stB (u':=((mget KM w).getD 0,(0:Int),a,([]:List UInt8))) rfl rfl rfl tr (by rfl) (by decide) rfl (by rfl) (fun S15 c15 ho12=>?_)
   refine go ?_
   exact fn
  refine gx ?_
  refine xci ey (fun q ey=>?_) fun q ey=>?_
  ·obtain ⟨a,ea,ey⟩:=bindS ey
   cases ey
   refine gx ?_
   refine WO.stB (u':=((mget KM w).getD 0,(0:Int),a,([]:List UInt8))) rfl rfl rfl tr (by rfl) (by decide) rfl (by rfl) (fun S15 c15 ho12=>?_)
   refine go ?_
   exact fn
  refine gx ?_
  cases ey
  exact fn
 rintro x l2 _ _ ⟨S14,rfl,rfl,hM,hot0,hot0_0,hot0_1,hd,hx⟩
 cases x with
 | pan c=>
  subst hx
  cases h
  refine gx ?_
  exact fn
 | e a=>
  cases a with
  | exit b=>exact hx.elim
  | ret=>exact hx.elim
  | normal=>
   obtain ⟨z,rfl,hc,ho12⟩:=hx
   obtain ⟨r9,e9,h⟩:=bindS h
   refine gx ?_
   refine WO.callG (S:=S14) [(2,2),(3,3),(4,4)] [(2,2),(3,3),(4,4)] rfl rfl (F34_ok (S0:=S14.mp [(2,2),(3,3),(4,4)]) e9 mq mq mq) (fun _ S15 S16 hb hR=>?_)
   obtain ⟨w1,w2,rfl,hR0,hR1,hR2⟩:=hR
   have c1:=Cx.mg_ch S14 3 2
   have c2:=Cx.mg_ch (S14.mg 3 2) 4 2
   have c3:Ch 2 ((S14.mg 3 2).mg 4 2) S16:=hb.ch [3,4] 2
   have hot0:=hR0.bk (k:=2) hb rfl
   have hot0_0:=hR1.bkF (k:=3) hb rfl Lay.flat_fl
   have hot0_1:=hR2.bkF (k:=4) hb rfl Lay.flat_fl
   refine go ?_
   refine WO.alS (A:=Y69) (z0:=(([],0):(List UInt8) × Int)) 17 rfl rfl rfl (fun v17 S17 c17 ho17=>?_)
   refine WO.stBA (u':=(r9.1.1,r9.1.2)) rfl pa rfl tr rfl rfl (fun S18 c18 ho17=>?_)
   refine go ?_
   refine gx ?_
   refine WX.region ?_
   refine WXO.pre hE hF hW hfl 1 (by decide) (go ?_)
   refine WXO.callK rfl rfl rfl (must_k r9.2.1) (fun v S19 c19 e=>?_) (fun c S19 c19 e=>?_)
   rotate_left
   ·have e0:r9.2.1≠0∧c = r9.2.1:=by
     unfold mustR at e
     split at e
     ·cases e
     ·cases e;exact ⟨‹_›,rfl⟩
    rw [if_neg e0.1] at h
    cases h
    obtain ⟨_,rfl⟩:=e0
    refine gx ?_
    exact fn
   have e0:r9.2.1 = 0∧v = .tup []:=by
    unfold mustR at e
    split at e
    ·cases e;exact ⟨‹_›,rfl⟩
    ·cases e
   rw [if_pos e0.1] at h
   obtain ⟨_,rfl⟩:=e0
   refine WXO.done (by decide) ?_
   refine gx ?_
   refine xci h (fun q h=>?_) fun q h=>?_
   ·refine gx ?_
    refine WX.cond rfl (fun _=>?_) (fun q'=>by rw [q] at q';cases q')
    cases h
    refine gx ?_
    exact ⟨.inr rfl,_,_,rk,rfl,fn⟩
   refine gx ?_
   refine xci h (fun q h=>?_) fun q h=>?_
   ·refine gx ?_
    refine WX.cond rfl (fun _=>?_) (fun q'=>by rw [q] at q';cases q')
    cases h
    refine gx ?_
    exact ⟨.inr rfl,_,_,rk,rfl,fn⟩
   refine gx ?_
   refine xci h (fun q h=>?_) fun q h=>?_
   ·cases h
    refine gx ?_
    exact ⟨.inr rfl,_,_,rk,rfl,fn⟩
   obtain ⟨a,ea,h⟩:=bindS h
   obtain ⟨b,eb,h⟩:=bindS h
   obtain ⟨c,ec,h⟩:=bindS h
   cases h
   refine gx ?_
   refine WO.callE rfl rfl (F14_ok (F:=0) eb) (fun S20 c20=>?_)
   refine go ?_
   refine gx ?_
   exact ⟨.inr rfl,_,_,rk,rfl,fn⟩
end
open Go.RowKit Go.Am
noncomputable def rest9:Code:=match (Tryz.f9.body.getD .skip) with | .seq _ (.seq _ c)=>c | _=>.skip
noncomputable def reg9 (i:Nat):Code:=match (Tryz.f9.body.getD .skip) with | .seq a (.seq b _)=>if i = 0 then a else b | _=>.skip
theorem f9_eq:Tryz.f9.body.getD .skip = .seq (reg9 0) (.seq (reg9 1) rest9):=rfl
def dfr (p:Addr):List Deferred:=[{ target:=.fn (.func 13) #[.pointer (some p)],args:=#[] }]
theorem reg9_1 {a:Act} {w:World} {p:Addr} {Q:Exit→Act→World→Prop} (hp:a.eval (.tmp 4) = .pointer (some p)) (hs:11≤a.tmps.size) (hd:a.defers = [])
 (h:Q .normal ⟨a.tmps.setIfInBounds 10 (.func (.func 13) #[] #[.pointer (some p)]),dfr p⟩ w):(reg9 1).wp Tryz.prog Q a w:=by
 obtain ⟨tm,df⟩:=a
 simp only at hs hd
 subst hd
 have hp':tm[4]?.getD undef = .pointer (some p):=by rw [← Array.getD_eq_getD_getElem?];exact hp
 have h10:10 < tm.size:=by omega
 show Code.wp _ (.region _ _ _) _ _ _
 refine wp_region ?_
 simp [wpOps,wpOp,wpOps_cons,Oper.wp,Oper.upon,execOp,go_sem,hp',h10,List.range,List.range.loop]
 exact .inl (.inl h)
theorem cell_turn {B fl0 b:Nat} {w0 w:World} {ρ:Rho} {m:Mem} {x:SV} {p:Pl} (hm:MemRel B fl0 w0 ρ m w) (hi:m.get b = some [x]) (hfl:fl0≤b) (hp:ρ b = some p) (hle:p.base≤p.cs):
 ((∃ v0,w.cell? ⟨p.b,p.base + 0,none⟩ = some v0)∧w.frozen? ⟨p.b,p.base + 0,none⟩ = false)∧∀ r:List UInt8,MemRel B fl0 w0 ρ (m.set b [.str r]) (w.setCell ⟨p.b,p.base + 0,none⟩ (.string ⟨r.toArray⟩)):=by
 obtain ⟨q,hq,hb,_⟩:=hm.mem b _ hi
 rw [hp] at hq;cases hq
 obtain ⟨arr,T,fz,h1,h2,h3,h4,h5⟩:=(hb.cells hle).at_
 have h5:=h5 (by simpa using hfl)
 have h3:p.base + 1≤p.cs:=h3
 refine ⟨⟨⟨arr[p.base + 0]'(by omega),by rw [cell?_of h1];simp⟩,?_⟩,fun r=>?_⟩
 ·simp only [World.frozen?,h1]
  have:=h5 (p.base + 0) (by omega)
  simp only [Bool.and_eq_false_iff,decide_eq_false_iff_not]
  omega
 ·have hT:=turned_setCell w h1 (p.base + 0) (.string ⟨r.toArray⟩)
  refine hm.turn hfl hi hp _ T fz hT.here (by simpa using h2) h3 h5 ?_ hT.os hT.tape hT.output (Nat.le_of_eq hT.size.symm) fun k hk _=>hT.other k hk
  have e:(((arr.setIfInBounds (p.base + 0) (.string ⟨r.toArray⟩)).toList.drop p.base).take 1) = [.string ⟨r.toArray⟩]:=by
   rw [Array.toList_setIfInBounds,List.drop_set,if_neg (by omega)]
   have:p.base < arr.toList.length:=by simp;omega
   rw [List.drop_eq_getElem_cons this]
   simp
  show All2 _ _ (List.take 1 _)
  rw [e]
  exact ⟨rfl,trivial⟩
theorem F9.fn:E.fn 9 = some ⟨59,(Tryz.f9.body.getD .skip),Tryz.f9.results.toList,[]⟩:=rfl
section
variable {B fl0:Nat} {w0:World} (hE:EnvOk Tryz.prog E) (hW:E.wc w0∧B = w0.heap.size)
include hE hW
theorem reg9_0 {fl:Nat} {S0:Cx fl} {N:Nat} {lo:List Nat} {a0 a1:AV} (hfl:fl0≤fl):WX Tryz.prog pv [] B fl0 w0 N lo (reg9 0) [(0,a0),(1,a1)] S0.m S0.n fun x l m' n'=>x = .e .normal∧∃ b,∃ S1:Cx fl,S1.m = m'∧S1.n = n'∧Ch 20 S0 S1∧Bw S1 20 (.ptr b 0) [.str []]∧l = [(4,.sc (.ptr b 0)),(0,a0),(1,a1)]:=by
 have hF:=E.fns
 show WX _ _ _ _ _ _ _ _ (.region _ _ _) _ _ _ _
 refine gx ?_
 refine WO.alW (cs:=[.str []]) 20 rfl rfl rfl (fun b S1 c1 ho=>?_)
 refine WO.nil ?_
 exact ⟨rfl,b,S1,rfl,rfl,c1,ho,rfl⟩
theorem CX.guard {fl:Nat} {S0:Cx fl} {a0 a1:AV} {R:XR→Mem→Nat→Prop} (hfl:fl0≤fl)
 (h:∀ b (S1:Cx fl) D,Ch 20 S0 S1→Bw S1 20 (.ptr b 0) [.str []]→WX Tryz.prog pv D B fl0 w0 59 [] rest9 [(4,.sc (.ptr b 0)),(0,a0),(1,a1)] S1.m S1.n fun x l m' n'=>∃ S:Cx fl,S.m = m'∧S.n = n'∧lk l 4 = some (.sc (.ptr b 0))∧match x with
   | .e a=>(a = .normal∨a = .ret)∧∃ s,Bw S 20 (.ptr b 0) [.str s]∧R (.ok (.sc (.str s))) S.m S.n
   | .pan c=>∃ r,F22 0 c = some r∧∃ s,Bw S 20 (.ptr b 0) [.str s]∧∀ S',Ch 20 S S'→R (.ok (.sc (.str r))) S'.m S'.n):CX Tryz.prog pv B fl0 w0 9 [a0,a1] S0.m S0.n R:=by
 intro ρ w vals h0 hm ha hfr
 obtain ⟨fn,hfn,hb,hnt,hres,hname,hco,hdo⟩:=(E.fns 9 _ F9.fn).h
 obtain rfl:Tryz.f9 = fn:=by have:=Tryz.func9.symm.trans hfn;cases this;rfl
 refine ⟨⟨_,hfn,hname,by rw [hb];rfl⟩,calls_of_wp_defers hfn hb ?_⟩
 obtain ⟨hrel,hs⟩:=enter_rel h0 hm ha hnt
 have f9_eq:=f9_eq
 rw [f9_eq] at hco hdo ⊢
 simp only [codeOk,dstOk,Bool.and_eq_true] at hco hdo
 refine wp_seq (wp_mono ((reg9_0 hE hW hfl).ok _ ρ _ w hs hrel hfr hco.1 hdo.1) ?_)
 rintro ex a' w' ⟨x,l,t,_,_,ρ',⟨rfl,b,S1,rfl,rfl,c1,hb1,rfl⟩,k2,k3,k4,k5,k6,k7⟩
 obtain rfl:=k2
 obtain ⟨b',e,hb2,hb3,hb4,hb5⟩:=id hb1
 cases e
 have hp:=k7.ev (.tmp 4)
 rw [evK_ev (v:=.sc (.ptr b 0)) k3 rfl] at hp
 obtain ⟨p,⟨hp1,hp2⟩,hp3⟩:=hp
 have hsz:59≤a'.tmps.size:=k7.size
 have hfr':=fresh_then hfr k6 k4
 refine wp_seq (reg9_1 (p:=⟨p.b,p.base + 0,none⟩) hp3 (by omega) k7.defers ?_)
 have hrel2:StRel (dfr ⟨p.b,p.base + 0,none⟩) B fl0 w0 59 ρ' ⟨t.set 10 .un,S1.m,S1.n⟩ ⟨a'.tmps.setIfInBounds 10 (.func (.func 13) #[] #[.pointer (some ⟨p.b,p.base + 0,none⟩)]),dfr ⟨p.b,p.base + 0,none⟩⟩ w':=
  ⟨k7.mem,put_tmps (by omega) k7.tmps trivial,by simpa using hsz,rfl,k7.low⟩
 have hs2:=(k3.set 10 .un).cov (l':=[(4,.sc (.ptr b 0)),(0,a0),(1,a1)]) (fun d v hd=>by
  by_cases e:10 = d
  ·subst e;cases hd
  ·simp only [lk];rw [beq_ne e];exact hd)
 refine wp_mono ((h b S1 _ c1 hb1).ok _ ρ' _ w' hs2 hrel2 hfr' hco.2.2 hdo.2.2) ?_
 rintro ex a2 w2 ⟨x,l2,t2,m2,n2,ρ2,⟨S,rfl,rfl,q1,q2⟩,r2,r3,r4,r5,r6,r7⟩
 have hdom:=dom_after k6 r6 k4 r4
 have hle:=Nat.le_trans k4 r4
 have hext:=k5.trans r5
 have hinv:∀ w:World,(invoke (.fn (.func 13) #[.pointer (some ⟨p.b,p.base + 0,none⟩)]) #[]).run Tryz.prog w = .ok (.enter 13 #[.pointer (some ⟨p.b,p.base + 0,none⟩)]) w:=fun w=>by simp [go_sem]
 have hp2':ρ2 b = some p:=r5 _ _ hp1
 have res:∀ (m:Mem) (s:List UInt8) (w:World),m.get b = some [.str s]→MemRel B fl0 w0 ρ2 m w→∃ val,(results Tryz.f9 a2.tmps).run Tryz.prog w = .ok val w∧(AV.sc (.str s)).rel ρ2 val:=fun m s w hm1 hm2=>by
  have hrel3:StRel (dfr ⟨p.b,p.base + 0,none⟩) B fl0 w0 59 ρ2 ⟨t2,m,S.n⟩ a2 w:=⟨hm2,r7.tmps,r7.size,r7.defers,r7.low⟩
  exact results_rel hE hrel3 (fn:=Tryz.f9) (resK_ok r3 (rs:=[.cell 4 9]) (by
   obtain ⟨y,q1',q2',q3',_⟩:=oneT_ok (E:=E) (t:=9) rfl
   have q:¬ (y.kind = 5∨y.kind = 6):=fun h=>h.elim q2' q3'
   simp only [resK,q1,loadA,limOk,if_true,hm1,Am.part,q1']
   rw [if_neg q];rfl)) rfl
 cases x with
 | e a=>
  obtain ⟨he,s,q3,q4⟩:=q2
  obtain rfl:=r2
  obtain ⟨_,e,_,_,_,q5⟩:=id q3
  cases e
  obtain ⟨val,v1,v2⟩:=res _ s w2 q5 r7.mem
  have hgoal:Leaves Tryz.prog Tryz.f9 a2.tmps (fun e w'=>∃ x m' n' ρ',R x m' n'∧XR.fits pv ρ' x e∧S0.n≤n'∧Ext ρ ρ'∧(∀ q,ρ' q≠none→ρ q≠none∨(S0.n≤q∧q < n'))∧MemRel B fl0 w0 ρ' m' w') a2.defers .returning w2:=by
   rw [r7.defers]
   refine leaves_cons (by simp) (hinv w2) ?_
   refine (catch_idle _ w2).mono ?_
   rintro e u' w'' ⟨rfl,rfl,rfl⟩
   exact ⟨val,v1,.ok (.sc (.str s)),S.m,S.n,ρ2,q4,⟨val,rfl,v2⟩,hle,hext,hdom,r7.mem⟩
  rcases he with rfl | rfl
  ·exact hgoal
  ·exact hgoal
 | pan c=>
  obtain ⟨r,hr,s,q3,q4⟩:=q2
  obtain rfl:=r2
  obtain ⟨_,e,h2,h3,h4,q5⟩:=id q3
  cases e
  show Leaves _ _ _ _ a2.defers _ w2
  rw [r7.defers]
  refine leaves_cons (by simp) (hinv w2) ?_
  obtain ⟨hw,rfl⟩:=hW
  unfold F22 F14 itoa? cat? at hr
  split at hr
  ·rename_i hc
   simp only [Option.bind_some] at hr
   split at hr
   ·cases hr
   ·rename_i hl
    cases hr
    have hex:E.ext.f fl 14 [.sc (.int .i64 c)] S.m S.n = some (.sc (.str (Lib.itoa c)),S.m,S.n):=by
     show strF sno Fs fl 14 _ _ _ = _
     have:strR sno Fs 14 [.sc (.int .i64 c)] S.m = some (.inl (.sc (.str (Lib.itoa c)))):=by
      unfold strR
      rw [if_neg (by decide),if_pos (by decide)]
      simp only
      rw [if_pos hc]
     simp only [strF,this]
    have hcl:=(hE.ext fl0 w0 hw fl 14 _ _ _ _ _ _ hfl r7.low hex ρ2 w2 #[.int .i64 c] r7.mem ⟨rfl,trivial⟩ (fun i h1 h2=>absurd h2 (Nat.not_lt.2 h1))).2
    have hI:Calls Tryz.prog 14 #[.int .i64 c] w2 fun e w'=>e = .returned (.string ⟨(Lib.itoa c).toArray⟩)∧MemRel w0.heap.size fl0 w0 ρ2 S.m w':=hcl.mono fun e w' ⟨val,ρ',x1,x2,x3,x4,x5⟩=>by
     obtain rfl:ρ' = ρ2:=x2.eq fun q hq=>(x3 q hq).elim (fun h=>h) fun h=>absurd h.2 (Nat.not_lt.2 h.1)
     obtain rfl:val = .string ⟨(Lib.itoa c).toArray⟩:=x5
     exact ⟨x1,x4⟩
    refine (catch_pan _ c [] w2 hI (fun w' hw'=>(cell_turn hw' q5 (by omega) hp2' hp2).1) (by have hl:=Nat.not_lt.1 hl;exact hl)).mono ?_
    rintro e u' w'' ⟨rfl,rfl,w1,hw1,rfl⟩
    have hm3:=(cell_turn hw1 q5 (by omega) hp2' hp2).2 ([101,114,114,111,114,32] ++ Lib.itoa c)
    obtain ⟨S',e1,e2,c3⟩:∃ S':Cx fl,S'.m = S.m.set b [.str ([101,114,114,111,114,32] ++ Lib.itoa c)]∧S'.n = S.n∧Ch 20 S S':=⟨⟨S.m.set b _,S.n,S.ow,S.le⟩,rfl,rfl,⟨Nat.le_refl _,fun i hi hk=>⟨rfl,Tr.get_set_ne _ _ (fun e=>hk (by rw [e];exact h4))⟩⟩⟩
    obtain ⟨val,v1,v2⟩:=res _ ([101,114,114,111,114,32] ++ Lib.itoa c) _ (Tr.get_set_same _ _ _) hm3
    have es:(⟨#[101,114,114,111,114,32]⟩ ++ ⟨(Lib.itoa c).toArray⟩:ByteArray) = ⟨([101,114,114,111,114,32] ++ Lib.itoa c).toArray⟩:=by
     apply ByteArray.ext
     rw [ByteArray.data_append];simp
    rw [es]
    have q6:=q4 S' c3
    rw [e1,e2] at q6
    exact ⟨val,v1,_,_,_,ρ2,q6,⟨val,rfl,v2⟩,hle,hext,hdom,hm3⟩
  ·cases hr
end
open Go.Am
theorem F7_ok {F:Nat} {m:Mem} {n:Nat} {r:List (List UInt8)} {t0:List UInt8} {t1:List UInt8} (h:F7 F t0 t1 = some r):Ret E n 7 [.sc (.str t0),.sc (.str t1)] m n (fun v m' n'=>∃ w,v = .sc w∧Fr Y9 n m' n' w r):=ext_split (k:=sno) (Fs:=Fs) h rfl rfl
open Go.Am
theorem F16_ok {F:Nat} {m:Mem} {n:Nat} {r:List UInt8} {t0:List (List UInt8)} {t1:List UInt8} {vt0:SV} (h:F16 F t0 t1 = some r) (kt0:Jn n m vt0 t0):Ret E n 16 [.sc vt0,.sc (.str t1)] m n (fun v m' n'=>v = .sc (.str r)):=ext_join (k:=sno) (Fs:=Fs) h kt0 rfl rfl (by decide) (by decide)
open Go.Am
theorem F17.fn:E.fn 17 = some (fi 22 Tryz.f17 []):=rfl
theorem F17_ok {F:Nat} {m:Mem} {n:Nat} {r:(List (List UInt8))} {t0:(List ((List UInt8) × Int × Int)) × (List ((List UInt8) × (List UInt8) × Int))} {bt0:Nat} {vt0_0:SV} {vt0_1:SV} (h:F17 F t0 = some r) (kt0:Pw n m (.ptr bt0 0) [vt0_0,vt0_1]) (kt0_0:Vw Y85 n m vt0_0 t0.1) (kt0_1:Vw Y168 n m vt0_1 t0.2):Ret E n 17 [.sc (.ptr bt0 0)] m n (fun v m' n'=>∃ w,v = .sc w∧Fr Y9 n m' n' w r):=by
 unfold F17 at h
 refine Ret.walk F17.fn ?_
 refine WC.start fun S0 em en hz=>?_
 have hot0_0:=kt0_0.rdS em hz
 have hot0_1:=kt0_1.rdS em hz
 have hot0:=kt0.rwS em hz
 obtain ⟨b29,e30,h⟩:=bindS h
 refine go ?_
 refine WC.loopD e30 (fun s1 l' m' n'=>∃ S3:Cx n,∃ v4:SV,S3.m = m'∧S3.n = n'∧Cov l' [(3,.sc v4),(9,.sc vt0_0),(10,.sc (.int .i64 ((t0.1.length:Int)))),(11,.sc (.int .i64 s1.2))]∧Rd Y85 S3 vt0_0 t0.1∧Ow Y9 S3 2 v4 s1.1) (fun b e l' m' n'=>e = .exit 0∧∃ S5:Cx n,∃ v6:SV,S5.m = m'∧S5.n = n'∧Cov l' [(3,.sc v6)]∧Ow Y9 S5 2 v6 b) fn ?_ ?_
 ·rintro s1 q _ _ _ ⟨S7,v8,rfl,rfl,hc9,hot0_0,ho3⟩ h
  unfold F17_l0 at h
  refine go ?_
  refine ci h (fun q10 h=>?_) fun q10 h=>?_
  ·obtain ⟨x11,e12,h⟩:=bindS h
   refine go ?_
   refine WO.alS (A:=Y85) (z0:=(([],0,0):(List UInt8) × Int × Int)) 3 rfl rfl rfl (fun v13 S14 c15 ho16=>?_)
   refine WO.stBA (u':=(x11.1,x11.2.1,x11.2.2)) rfl pa rfl tr rfl rfl (fun S17 c18 ho16=>?_)
   refine go ?_
   refine WO.bsS (A:=Y9) (M:=[((x11.1,x11.2.1,x11.2.2)).1]) (cs:=[.str (((x11.1,x11.2.1,x11.2.2)).1)]) 4 rfl rfl rfl ⟨[.str (((x11.1,x11.2.1,x11.2.2)).1)],_,rfl,rfl,rfl⟩ rfl (fun v19 S20 c21 ho22=>?_)
   obtain ⟨L23,e24,h⟩:=bindS h
   refine WO.appS rfl rfl tr ro e24 rfl rfl (fun v25 S26 c27 ho28=>?_)
   cases h;refine go ?_
   exact fn
  cases h;refine go ?_
  exact fn
 rintro _ _ _ _ ⟨rfl,⟨S31,v32,rfl,rfl,hc33,ho3⟩⟩
 cases h;refine go ?_
 exact fn
open Go.Am
theorem F22.fn:E.fn 22 = some (fi 6 Tryz.f22 []):=rfl
theorem F22_ok {F:Nat} {m:Mem} {n:Nat} {r:(List UInt8)} {t0:Int} (h:F22 F t0 = some r) :Ret E n 22 [.sc (.int .i64 t0)] m n (fun v m' n'=>v = .sc (.str r)):=by
 unfold F22 at h
 refine Ret.walk F22.fn ?_
 refine WC.start fun S0 em en hz=>?_
 obtain ⟨r1,e2,h⟩:=bindS h
 refine go ?_
 refine WO.callE rfl rfl (F14_ok e2) (fun S3 c4=>?_)
 obtain ⟨x5,e6,h⟩:=bindS h
 cases h;refine go ?_
 exact fn
end Go.Proofs.YtaphdnpjpmnaeadGreatDoor
namespace Go.Am
section
variable {σ β:Type} {step:σ→Option (Stp σ β)}
theorem iter_more {f:Nat} {s s':σ} (h:step s = some (.more s')):iter step (f + 1) s = iter step f s':=by simp only [iter,h]
theorem iter_stop {f:Nat} {s:σ} {b:β} (h:step s = some (.stop b)):iter step (f + 1) s = some b:=by simp only [iter,h]
theorem iter_run (P:Nat→σ) {b:β}:∀ (N i F:Nat),(∀ j,i≤j→j < i + N→step (P j) = some (.more (P (j + 1))))→step (P (i + N)) = some (.stop b)→N < F→iter step F (P i) = some b
 | 0,i,F,_,he,hF=>by
  obtain ⟨F,rfl⟩:∃ q,F = q + 1:=⟨F - 1,by omega⟩
  exact iter_stop he
 | N + 1,i,F,hs,he,hF=>by
  obtain ⟨F,rfl⟩:∃ q,F = q + 1:=⟨F - 1,by omega⟩
  rw [iter_more (hs i (Nat.le_refl _) (by omega))]
  exact iter_run P N (i + 1) F (fun j h1 h2=>hs j (by omega) (by omega)) (by rw [show i + 1 + N = i + (N + 1) from by omega];exact he) (by omega)
theorem iter_count (P:Nat→σ) {b:β} {F:Nat} (N:Nat) (hs:∀ j,j < N→step (P j) = some (.more (P (j + 1)))) (he:step (P N) = some (.stop b)) (hF:N < F):iter step F (P 0) = some b:=
 iter_run P N 0 F (fun j _ h=>hs j (by omega)) (by rw [Nat.zero_add];exact he) hF
theorem iter_inv (I:σ→Prop) (μ:σ→Nat) (Q:β→Prop) (h:∀ s,I s→(∃ s',step s = some (.more s')∧I s'∧μ s' < μ s)∨∃ b,step s = some (.stop b)∧Q b):∀ (F:Nat) (s:σ),I s→μ s < F→∃ b,iter step F s = some b∧Q b
 | 0,_,_,hF=>by omega
 | F + 1,s,hs,hF=>by
  rcases h s hs with ⟨s',h1,h2,h3⟩ | ⟨b,h1,h2⟩
  ·rw [iter_more h1];exact iter_inv I μ Q h F s' h2 (by omega)
  ·exact ⟨b,iter_stop h1,h2⟩
end
structure Le {α:Type} (a b:Option α):Prop where
 up:∀ r,a = some r→b = some r
theorem Le.refl {α:Type} (a:Option α):Le a a:=⟨fun _ h=>h⟩
theorem Le.bind {α β:Type} {a b:Option α} {f g:α→Option β} (h:Le a b) (k:∀ x,Le (f x) (g x)):Le (a.bind f) (b.bind g):=⟨by
 intro r hr
 obtain ⟨x,h1,h2⟩:=bindS hr
 rw [h.up x h1];exact (k x).up r h2⟩
theorem Le.ite {α:Type} {c:Prop} [Decidable c] {a b a' b':Option α} (h:Le a a') (k:Le b b'):Le (if c then a else b) (if c then a' else b'):=by
 split
 ·exact h
 ·exact k
theorem iter_le {σ β:Type} {step step':σ→Option (Stp σ β)} (k:∀ s,Le (step s) (step' s)):∀ {F F':Nat},F≤F'→∀ {s:σ} {r:β},iter step F s = some r→iter step' F' s = some r
 | 0,_,_,_,_,h=>by cases h
 | F + 1,0,hF,_,_,_=>by omega
 | F + 1,F' + 1,hF,s,r,hr=>by
  simp only [Am.iter] at hr ⊢
  split at hr
  ·cases hr
  ·rename_i s' hs;rw [(k s).up _ hs];exact iter_le k (by omega) hr
  ·rename_i b hs;rw [(k s).up _ hs];exact hr
theorem Le.iter {σ β:Type} {step step':σ→Option (Stp σ β)} (k:∀ s,Le (step s) (step' s)) {F F':Nat} (h:F≤F') {s:σ}:Le (iter step F s) (iter step' F' s):=⟨fun _ hr=>iter_le k h hr⟩
theorem w64 {a:Int} (h1:-9223372036854775808≤a) (h2:a≤9223372036854775807):wrapA .i64 a = a:=if_pos ⟨h1,h2⟩
theorem tdiv_nat (a b:Nat):Int.tdiv (a:Int) (b:Int) = ((a / b:Nat):Int):=rfl
theorem tmod_nat (a b:Nat):Int.tmod (a:Int) (b:Int) = ((a % b:Nat):Int):=rfl
theorem at?_in {α:Type} {L:List α} {i:Nat} (h:i < L.length):at? L (i:Int) = some L[i]:=by
 unfold at?;rw [if_pos (by omega)];simp [h]
theorem app?_ok {α:Type} {L L':List α} (h:L.length + L'.length≤549755813888):app? L L' = some (L ++ L'):=if_pos h
theorem mk?_ok {α:Type} {n:Nat} {z:α} (h:n≤1099511627776):mk? (n:Int) z = some (List.replicate n z):=by
 unfold mk?;rw [if_pos (by omega)];rfl
theorem ck_ok {α:Type} {L:List α} {i:Nat} (h:i < L.length):ck L (i:Int) = some ():=by
 unfold ck;rw [if_pos (by omega)]
end Go.Am
namespace Go.Proofs.YtaphdnpjpmnaeadGreatDoor
open Go.Am
theorem Le.compF {α:Type} {e e':α→α→Option Bool} {L:List α} (h:∀ x y,Le (e x y) (e' x y)):Le (compF? e L) (compF? e' L):=⟨fun _ hr=>compF?_mono (fun x y _ hq=>(h x y).up _ hq) hr⟩
theorem F97_l0_le {F F':Nat} (h:F≤F') (t0:List UInt8) (s5:Int × (List Bool)):Le (F97_l0 F t0 s5) (F97_l0 F' t0 s5):=by
 unfold F97_l0
 repeat' (first | (with_reducible exact Le.refl _) | refine Le.compF (fun _ _=>?_) | refine Le.ite ?_ ?_ | refine Le.bind ?_ ?_ | refine Le.iter (fun _=>?_) h | intro _ | split)
theorem F97_le {F F':Nat} (h:F≤F') (t0:List UInt8):Le (F97 F t0) (F97 F' t0):=by
 unfold F97
 repeat' (first | (with_reducible exact Le.refl _) | refine F97_l0_le h _ _ | refine Le.compF (fun _ _=>?_) | refine Le.ite ?_ ?_ | refine Le.bind ?_ ?_ | refine Le.iter (fun _=>?_) h | intro _ | split)
theorem F15_le {F F':Nat} (h:F≤F') (t0:Int):Le (F15 F t0) (F15 F' t0):=by
 unfold F15
 repeat' (first | (with_reducible exact Le.refl _) | refine Le.compF (fun _ _=>?_) | refine Le.ite ?_ ?_ | refine Le.bind ?_ ?_ | refine Le.iter (fun _=>?_) h | intro _ | split)
theorem F33_l0_le {F F':Nat} (h:F≤F') (L12:List Int) (s18:Int × Int):Le (F33_l0 F L12 s18) (F33_l0 F' L12 s18):=by
 unfold F33_l0
 repeat' (first | (with_reducible exact Le.refl _) | refine F15_le h _ | refine Le.compF (fun _ _=>?_) | refine Le.ite ?_ ?_ | refine Le.bind ?_ ?_ | refine Le.iter (fun _=>?_) h | intro _ | split)
theorem F33_le {F F':Nat} (h:F≤F') (t0:List UInt8):Le (F33 F t0) (F33 F' t0):=by
 unfold F33
 repeat' (first | (with_reducible exact Le.refl _) | refine F15_le h _ | refine F33_l0_le h _ _ | refine Le.compF (fun _ _=>?_) | refine Le.ite ?_ ?_ | refine Le.bind ?_ ?_ | refine Le.iter (fun _=>?_) h | intro _ | split)
theorem F40_l0_le {F F':Nat} (h:F≤F') (t0:List Int) (s1:Int × Int):Le (F40_l0 F t0 s1) (F40_l0 F' t0 s1):=by
 unfold F40_l0
 repeat' (first | (with_reducible exact Le.refl _) | refine Le.compF (fun _ _=>?_) | refine Le.ite ?_ ?_ | refine Le.bind ?_ ?_ | refine Le.iter (fun _=>?_) h | intro _ | split)
theorem F40_l1_le {F F':Nat} (h:F≤F') (b22:Int) (s25:Int × Int):Le (F40_l1 F b22 s25) (F40_l1 F' b22 s25):=by
 unfold F40_l1
 repeat' (first | (with_reducible exact Le.refl _) | refine F40_l0_le h _ _ | refine Le.compF (fun _ _=>?_) | refine Le.ite ?_ ?_ | refine Le.bind ?_ ?_ | refine Le.iter (fun _=>?_) h | intro _ | split)
theorem F40_l2_le {F F':Nat} (h:F≤F') (s43:Int × Int) (L49:List Int) (s53:Int × Int):Le (F40_l2 F s43 L49 s53) (F40_l2 F' s43 L49 s53):=by
 unfold F40_l2
 repeat' (first | (with_reducible exact Le.refl _) | refine F40_l0_le h _ _ | refine F40_l1_le h _ _ | refine Le.compF (fun _ _=>?_) | refine Le.ite ?_ ?_ | refine Le.bind ?_ ?_ | refine Le.iter (fun _=>?_) h | intro _ | split)
theorem F40_l3_le {F F':Nat} (h:F≤F') (t0:List Int) (s35:Int × Int) (x41:Int) (s43:Int × Int):Le (F40_l3 F t0 s35 x41 s43) (F40_l3 F' t0 s35 x41 s43):=by
 unfold F40_l3
 repeat' (first | (with_reducible exact Le.refl _) | refine F40_l0_le h _ _ | refine F40_l1_le h _ _ | refine F40_l2_le h _ _ _ | refine Le.compF (fun _ _=>?_) | refine Le.ite ?_ ?_ | refine Le.bind ?_ ?_ | refine Le.iter (fun _=>?_) h | intro _ | split)
theorem F40_l4_le {F F':Nat} (h:F≤F') (t0:List Int) (s35:Int × Int):Le (F40_l4 F t0 s35) (F40_l4 F' t0 s35):=by
 unfold F40_l4
 repeat' (first | (with_reducible exact Le.refl _) | refine F40_l0_le h _ _ | refine F40_l1_le h _ _ | refine F40_l2_le h _ _ _ | refine F40_l3_le h _ _ _ _ | refine Le.compF (fun _ _=>?_) | refine Le.ite ?_ ?_ | refine Le.bind ?_ ?_ | refine Le.iter (fun _=>?_) h | intro _ | split)
theorem F40_le {F F':Nat} (h:F≤F') (t0:List Int):Le (F40 F t0) (F40 F' t0):=by
 unfold F40
 repeat' (first | (with_reducible exact Le.refl _) | refine F40_l0_le h _ _ | refine F40_l1_le h _ _ | refine F40_l2_le h _ _ _ | refine F40_l3_le h _ _ _ _ | refine F40_l4_le h _ _ | refine Le.compF (fun _ _=>?_) | refine Le.ite ?_ ?_ | refine Le.bind ?_ ?_ | refine Le.iter (fun _=>?_) h | intro _ | split)
open Go.Am
def spl (c:UInt8):List UInt8→List (List UInt8)
 | []=>[[]]
 | x :: r=>if x = c then [] :: spl c r else match spl c r with
  | []=>[[x]]
  | h :: t=>(x :: h) :: t
def pre (p:List UInt8):List (List UInt8)→List (List UInt8)
 | []=>[p]
 | h :: t=>(p ++ h) :: t
def wds (l:List (List UInt8)):List (List UInt8):=l.filter fun s=>!(s == [])
theorem spl_ne (c:UInt8) (s:List UInt8):spl c s≠[]:=by
 cases s with
 | nil=>simp [spl]
 | cons x r=>
  unfold spl
  split
  ·simp
  ·split <;> simp
theorem spl_hit (c:UInt8) (r:List UInt8):spl c (c :: r) = [] :: spl c r:=by simp [spl]
theorem spl_miss {c x:UInt8} (h:x≠c) (r:List UInt8):spl c (x :: r) = pre [x] (spl c r):=by
 rw [spl,if_neg h]
 cases spl c r <;> rfl
theorem pre_pre (p q:List UInt8) (l:List (List UInt8)) (h:l≠[]):pre p (pre q l) = pre (p ++ q) l:=by
 cases l with
 | nil=>exact absurd rfl h
 | cons a t=>simp [pre]
theorem pre_nil (l:List (List UInt8)) (h:l≠[]):pre [] l = l:=by
 cases l with
 | nil=>exact absurd rfl h
 | cons a t=>rfl
theorem spl_app {c:UInt8}:∀ (u r:List UInt8),(∀ x∈u,x≠c)→spl c (u ++ r) = pre u (spl c r)
 | [],r,_=>(pre_nil _ (spl_ne c r)).symm
 | x :: u,r,h=>by
  rw [List.cons_append,spl_miss (h x (by simp)),spl_app u r (fun y hy=>h y (by simp [hy])),pre_pre _ _ _ (spl_ne c r)];rfl
theorem spl_len (c:UInt8):∀ s:List UInt8,(spl c s).length≤s.length + 1∧∀ x∈spl c s,x.length≤s.length∧c ∉ x
 | []=>by simp [spl]
 | x :: r=>by
  obtain ⟨h1,h2⟩:=spl_len c r
  by_cases e:x = c
  ·subst e
   rw [spl_hit]
   refine ⟨by simp only [List.length_cons];omega,fun y hy=>?_⟩
   rcases List.mem_cons.1 hy with rfl | hy
   ·simp
   ·have:=h2 y hy;exact ⟨by simp only [List.length_cons];omega,this.2⟩
  ·rw [spl_miss e]
   cases hq:spl c r with
   | nil=>exact absurd hq (spl_ne c r)
   | cons a t=>
    rw [hq] at h1 h2
    refine ⟨by simp only [pre,List.length_cons] at h1 ⊢;omega,fun y hy=>?_⟩
    rcases List.mem_cons.1 hy with rfl | hy
    ·have:=h2 a (by simp);exact ⟨by simp;omega,by simp only [List.singleton_append,List.mem_cons,not_or];exact ⟨Ne.symm e,this.2⟩⟩
    ·have:=h2 y (by simp [hy]);exact ⟨by simp only [List.length_cons];omega,this.2⟩
open Go.Lib in
theorem splitK_cons {c x:UInt8} (h:x≠c) (k:Nat) (r:List UInt8):splitK [c] 0 k (x :: r) = pre [x] (splitK [c] 0 k r):=by
 cases k with
 | zero=>rfl
 | succ k=>
  have hp:([c]:List UInt8).isPrefixOf (x :: r) = false:=by simp [List.isPrefixOf,Ne.symm h]
  have hix:index (x :: r) [c] = if index r [c] == -1 then -1 else index r [c] + 1:=by rw [index,hp];simp
  unfold splitK
  by_cases hm:index r [c] = -1
  ·rw [hix,if_pos (beq_iff_eq.2 hm),if_pos (by decide),if_pos (beq_iff_eq.2 hm)];rfl
  ·have hge:=index_ge r [c]
   obtain ⟨j,hj⟩:∃ j:Nat,index r [c] = j:=⟨(index r [c]).toNat,by omega⟩
   have d1:¬ ((j:Int) == -1) = true:=by simp
   have d2:¬ ((j:Int) + 1 == -1) = true:=fun e=>by have:=beq_iff_eq.1 e;omega
   rw [hix,hj,if_neg d1,if_neg d2,if_neg d1]
   have e1:((j:Int) + 1).toNat = j + 1:=by omega
   rw [e1,Int.toNat_natCast]
   simp only [Nat.add_zero,List.take_succ_cons,pre,List.singleton_append]
   congr 2
open Go.Lib in
theorem splitK_spl (c:UInt8):∀ s:List UInt8,splitK [c] 0 (s.count c) s = spl c s
 | []=>rfl
 | x :: r=>by
  by_cases e:x = c
  ·subst e
   have hix:index (x :: r) [x] = ((0:Nat):Int):=by rw [index];simp [List.isPrefixOf]
   rw [List.count_cons_self,spl_hit,splitK,hix,if_neg (by simp)]
   simp only [Int.toNat_natCast,Nat.add_zero,List.take_zero,Nat.zero_add,List.length_cons,List.length_nil,List.drop_succ_cons,List.drop_zero]
   rw [splitK_spl x r]
  ·rw [List.count_cons_of_ne (Ne.symm (Ne.symm e)),splitK_cons e,splitK_spl c r,spl_miss e]
theorem splitL_eq (c:UInt8) (s:List UInt8):splitL s [c] = spl c s:=by
 unfold splitL
 rw [Lib.splitB_data]
 show Lib.splitK [c] 0 (Lib.count s [c]) s = _
 rw [Lib.count_one,splitK_spl]
theorem dec32 (n b0 b1 b2 b3:Nat):((Lib.decodeN n b0 b1 b2 b3).1 = 32∧b0 = 32∧(Lib.decodeN n b0 b1 b2 b3).2 = 1)∨((Lib.decodeN n b0 b1 b2 b3).1≠32∧b0≠32∧(2≤(Lib.decodeN n b0 b1 b2 b3).2→b1≠32)∧(3≤(Lib.decodeN n b0 b1 b2 b3).2→b2≠32)∧(4≤(Lib.decodeN n b0 b1 b2 b3).2→b3≠32)∧(Lib.decodeN n b0 b1 b2 b3).2≤4):=by
 generalize hr:Lib.decodeN n b0 b1 b2 b3 = r
 unfold Lib.decodeN at hr
 repeat' (split at hr)
 all_goals (subst hr;simp only;first | omega | (by_cases e:b0 = 32 <;> simp [e]))
theorem get_drop {s:ByteArray} {i j:Nat} (h:i + j < s.size):s.data.toList[i + j]? = some (s.get! (i + j)):=by
 have e:s.get! (i + j) = s.data[i + j]!:=rfl
 rw [e,Array.getElem!_eq_getD,Array.getD_eq_getD_getElem?,Array.getElem?_toList,Array.getElem?_eq_getElem (show i + j < s.data.size from h)]
 rfl
theorem dec_s (s:ByteArray) {i:Nat} (h:i < s.size):(((Utf8.decode s i).1 == 32) = true∧s.data.toList.drop i = 32 :: s.data.toList.drop (i + 1)∧(Utf8.decode s i).2 = 1)∨(((Utf8.decode s i).1 == 32) = false∧∀ x∈(s.data.toList.drop i).take (Utf8.decode s i).2,x≠32):=by
 have hn:∀ x:UInt8,x.toNat = 32→x = 32:=fun x hx=>UInt8.toNat_inj.1 (by rw [hx];rfl)
 have hm:∀ x:UInt8,x.toNat≠32→x≠32:=fun x hx e=>hx (by subst e;rfl)
 have hl:s.data.toList.length = s.size:=(Lib.size_eq s).symm
 have g0:s.data.toList[i]? = some (s.get! i):=get_drop (j:=0) h
 rcases dec32 (s.size - i) (s.get! i).toNat (s.get! (i + 1)).toNat (s.get! (i + 2)).toNat (s.get! (i + 3)).toNat with ⟨h1,h2,h3⟩ | ⟨h1,h2,h3,h4,h5,h6⟩
 ·left
  rw [← Lib.decode_at] at h1 h3
  refine ⟨beq_iff_eq.2 h1,?_,h3⟩
  have hi:i < s.data.toList.length:=by omega
  rw [List.getElem?_eq_getElem hi] at g0
  rw [List.drop_eq_getElem_cons hi,Option.some.inj g0,hn _ h2]
 ·right
  rw [← Lib.decode_at] at h1 h3 h4 h5 h6
  refine ⟨by simpa using h1,fun x hx=>?_⟩
  obtain ⟨j,hj,rfl⟩:=List.getElem_of_mem hx
  have hj2:j < (Utf8.decode s i).2∧i + j < s.size:=by rw [List.length_take,List.length_drop] at hj;omega
  have e:(((s.data.toList.drop i).take (Utf8.decode s i).2)[j]'hj) = s.get! (i + j):=by
   have:=get_drop (s:=s) hj2.2
   rw [List.getElem_take,List.getElem_drop]
   rw [List.getElem?_eq_getElem (by omega)] at this
   exact Option.some.inj this
  rw [e]
  apply hm
  match j,hj2 with
  | 0,_=>exact h2
  | 1,q=>exact h3 q.1
  | 2,q=>exact h4 q.1
  | 3,q=>exact h5 q.1
  | j + 4,q=>omega
open Go.Lib in
theorem spansP (s:ByteArray):∀ (f pos:Nat) (st:Option Nat) (acc:List (Nat × Nat)),s.size≤pos + f→pos≤s.size→(∀ a,st = some a→a < pos) →
 (closeSpans s (spansFromP (fun r=>r == 32) s f pos st acc)).map (fun p=>pieceU s.data.toList p.1 p.2) = acc.map (fun p=>pieceU s.data.toList p.1 p.2) ++ wds (pre (openPiece s.data.toList st pos) (spl 32 (s.data.toList.drop pos))):=by
 have hl:s.data.toList.length = s.size:=(Lib.size_eq s).symm
 have fin:∀ (st:Option Nat) (acc:List (Nat × Nat)),(∀ a,st = some a→a < s.size)→(closeSpans s (acc,st)).map (fun p=>pieceU s.data.toList p.1 p.2) = acc.map (fun p=>pieceU s.data.toList p.1 p.2) ++ wds (pre (openPiece s.data.toList st s.size) (spl 32 (s.data.toList.drop s.size))):=by
  intro st acc hst
  rw [List.drop_eq_nil_of_le (by omega)]
  cases st with
  | none=>simp [closeSpans,openPiece,spl,pre,wds]
  | some a=>
   have:=pieceU_ne s.data.toList a s.size (hst a rfl) (by omega)
   simp [closeSpans,openPiece,spl,pre,wds,this]
 intro f
 induction f with
 | zero=>
  intro pos st acc h hp hst
  obtain rfl:pos = s.size:=by omega
  exact fin st acc hst
 | succ f ih=>
  intro pos st acc h hp hst
  by_cases hlt:pos < s.size
  ·have hw:=width_pos s pos
   have hwn:pos + (Utf8.decode s pos).2≤s.size:=by
    have:=decodeN_le_n' (s.size - pos) (s.get! pos).toNat (s.get! (pos + 1)).toNat (s.get! (pos + 2)).toNat (s.get! (pos + 3)).toNat (by omega)
    rw [← decode_at] at this
    omega
   unfold spansFromP
   rw [if_pos hlt]
   rcases dec_s s hlt with ⟨h1,h2,h3⟩ | ⟨h1,h2⟩
   ·rw [if_pos h1,h3,h2,spl_hit]
    cases st with
    | none=>
     simp only
     rw [ih (pos + 1) none acc (by omega) (by omega) (fun a h=>by cases h)]
     simp only [openPiece,pre_nil _ (spl_ne _ _)]
     rw [pre_nil _ (by simp)]
     simp [wds]
    | some a=>
     have hpn:=pieceU_ne s.data.toList a pos (hst a rfl) (by omega)
     simp only
     rw [ih (pos + 1) none (acc ++ [(a,pos)]) (by omega) (by omega) (fun a h=>by cases h)]
     simp only [openPiece,pre_nil _ (spl_ne _ _)]
     simp [wds,pre,hpn]
   ·rw [if_neg (by rw [h1];decide)]
    have hd:s.data.toList.drop pos = (s.data.toList.drop pos).take (Utf8.decode s pos).2 ++ s.data.toList.drop (pos + (Utf8.decode s pos).2):=by
     rw [← List.drop_drop,List.take_append_drop]
    have he:=spl_app ((s.data.toList.drop pos).take (Utf8.decode s pos).2) (s.data.toList.drop (pos + (Utf8.decode s pos).2)) h2
    rw [← hd] at he
    rw [he,pre_pre _ _ _ (spl_ne _ _)]
    cases st with
    | none=>
     simp only
     rw [ih _ (some pos) acc (by omega) hwn (fun a h=>by cases h;omega)]
     simp only [openPiece,List.nil_append]
     rw [show pieceU s.data.toList pos (pos + (Utf8.decode s pos).2) = (s.data.toList.drop pos).take (Utf8.decode s pos).2 from by unfold pieceU;rw [Nat.add_sub_cancel_left]]
    | some a=>
     simp only
     rw [ih _ (some a) acc (by omega) hwn (fun b h=>by cases h;have:=hst a rfl;omega)]
     simp only [openPiece]
     rw [pieceU_grow _ _ _ _ (Nat.le_of_lt (hst a rfl))]
  ·obtain rfl:pos = s.size:=by omega
   rw [spansFromP_end _ s _ _ _ _ hlt]
   exact fin st acc hst
open Go.Lib in
theorem fields_eq (s:List UInt8):(Fs (bs s)).map (·.data.toList) = wds (spl 32 s):=by
 have h:=spansP (bs s) (bs s).size 0 none [] (by omega) (by omega) (fun a h=>by cases h)
 simp only [List.map_nil,List.nil_append,openPiece,pre_nil _ (spl_ne _ _),List.drop_zero] at h
 unfold Fs goFieldsP spansOfP
 rw [List.map_map]
 have hb:(bs s).data.toList = s:=rfl
 rw [← h]
 refine List.map_congr_left fun p _=>?_
 show ((bs s).extract p.1 p.2).data.toList = pieceU s p.1 p.2
 rw [extract_data,hb];rfl
end Go.Proofs.YtaphdnpjpmnaeadGreatDoor
namespace Go.Proofs.YtaphdnpjpmnaeadGreatDoor
set_option maxRecDepth 20000
set_option maxHeartbeats 4000000
open Go.Am
def X9 (F:Nat) (H:HL) (t:List UInt8):Option (HL × List UInt8):=
 (F7 F t [32]).bind fun ws=>
 if ((wds ws).length:Int) == 0 then (F22 0 10).bind fun t=>some (H,t)
 else (at? (wds ws) 0).bind fun w=>
 if (((wds ws).length:Int) == 1) && (w == [110,97,109,101,115]) then (F17 F H).bind fun l=>(F16 F l [32]).bind fun s=>(cat? [58] s).bind fun t=>some (H,t)
 else (X18 F H (wds ws)).bind fun r=>match r.2 with
  | .inl c=>(F22 0 c).bind fun t=>some (r.1,t)
  | .inr s=>if s.2 then some (r.1,s.1) else (sub? (wds ws) 1 (wds ws).length).bind fun l=>(X19 F w l).bind fun y=>match y with
   | .inl c=>(F22 0 c).bind fun t=>some (r.1,t)
   | .inr s=>some (r.1,s)
theorem wds_snoc (l:List (List UInt8)) {k:Nat} (hk:k < l.length):wds (l.take (k + 1)) = if l[k] = [] then wds (l.take k) else wds (l.take k) ++ [l[k]]:=by
 unfold wds
 rw [List.take_add_one,List.getElem?_eq_getElem hk,List.filter_append]
 by_cases h:l[k] = []
 ·simp [h]
 ·simp [h]
theorem F36_num {F:Nat} (hF:8≤F) (l:List (List UInt8)) (hl:l.length < F) (h2:l.length≤100000) {L:List Int} (h:l.mapM num = some L):F36 F l = some L:=by
 have key:∀ (f k:Nat) (acc M:List Int),k + M.length = l.length→acc.length = k→(l.drop k).mapM num = some M→M.length < f→iter (F36_l0 F l) f (acc,(k:Int)) = some (acc ++ M):=by
  intro f
  induction f with
  | zero=>intro _ _ _ _ _ _ h;omega
  | succ f ih=>
   intro k acc M hk ha hm hf
   by_cases hlt:k < l.length
   ·rw [List.drop_eq_getElem_cons hlt,List.mapM_cons] at hm
    obtain ⟨a,ea,hm⟩:=bindS hm
    obtain ⟨M',eM,hm⟩:=bindS hm
    cases hm
    have st:F36_l0 F l (acc,(k:Int)) = some (.more (acc ++ [a],((k + 1:Nat):Int))):=by
     unfold F36_l0
     simp only
     rw [if_pos (decide_eq_true (by omega)),show at? l (k:Int) = some l[k] from by unfold at?;rw [if_pos (by omega),Int.toNat_natCast,List.getElem?_eq_getElem hlt],Option.bind_some,
      show F33 F l[k] = some a from (F33_le hF _).up _ (F33_num ea),Option.bind_some,show app? acc [a] = some (acc ++ [a]) from by unfold app?;rw [if_pos (by simp;omega)],Option.bind_some,show wrapA .i64 ((k:Int) + 1) = ((k + 1:Nat):Int) from by rw [wrapA_id] <;> omega]
    simp only [iter,st]
    simp only [List.length_cons] at hk hf
    rw [ih (k + 1) (acc ++ [a]) M' (by omega) (by simp;omega) eM (by omega),List.append_assoc]
    rfl
   ·have:k = l.length:=by omega
    subst this
    have:M = []:=List.eq_nil_of_length_eq_zero (by omega)
    subst this
    have st:F36_l0 F l (acc,(l.length:Int)) = some (.stop acc):=by
     unfold F36_l0
     simp only
     rw [if_neg (by simp)]
    simp only [iter,st,List.append_nil]
 have hlen:L.length = l.length:=by
  have:∀ (l:List (List UInt8)) (L:List Int),l.mapM num = some L→L.length = l.length:=by
   intro l
   induction l with
   | nil=>intro L h;cases h;rfl
   | cons a l ih=>
    intro L h
    rw [List.mapM_cons] at h
    obtain ⟨_,_,h⟩:=bindS h
    obtain ⟨M,eM,h⟩:=bindS h
    cases h
    simp only [List.length_cons,ih M eM]
  exact this l L h
 unfold F36
 rw [show iter (F36_l0 F l) F ([],0) = some L from key F 0 [] L (by omega) rfl (by simpa using h) (by omega)]
 rfl
theorem nms_r {F:Nat} {α:Type} {l:List (List UInt8)} {k:List Int→Xr α} {s:α} (hF:100001≤F) (hl:l.length≤100000) (h:nms l k = some (.inr s)):∃ L,F36 F l = some L∧k L = some (.inr s):=by
 unfold nms at h
 split at h
 ·cases h
 ·rename_i L e;exact ⟨L,F36_num (by omega) l (by omega) hl e,h⟩
theorem mst_r {F:Nat} {α:Type} {e:Int} {k:Xr α} {s:α} (h:mst e k = some (.inr s)):F15 F e = some ()∧k = some (.inr s):=by
 unfold mst at h
 split at h
 ·rename_i q;subst q;exact ⟨rfl,h⟩
 ·cases h
theorem F19_of {F:Nat} {t0 s:List UInt8} {t1:List (List UInt8)} (hF:100001≤F) (hl:t1.length≤100000) (h:X19 F t0 t1 = some (.inr s)):F19 F t0 t1 = some s:=by
 unfold X19 at h
 unfold F19
 repeat' (split at h)
 ·rename_i q;rw [if_pos q]
  obtain ⟨L,e,h⟩:=nms_r hF hl h;rw [e,Option.bind_some]
  obtain ⟨_,e,h⟩:=bindS h;rw [e,Option.bind_some]
  obtain ⟨e,h⟩:=mst_r (F:=F) h;rw [e,Option.bind_some]
  obtain ⟨_,e,h⟩:=bindS h;rw [e,Option.bind_some];cases h;rfl
 ·rename_i q1 q;rw [if_neg q1,if_pos q]
  obtain ⟨L,e,h⟩:=nms_r hF hl h;rw [e,Option.bind_some]
  obtain ⟨_,e,h⟩:=bindS h;rw [e,Option.bind_some]
  obtain ⟨_,e,h⟩:=bindS h;rw [e,Option.bind_some]
  obtain ⟨_,e,h⟩:=bindS h;rw [e,Option.bind_some]
  obtain ⟨e,h⟩:=mst_r (F:=F) h;rw [e,Option.bind_some]
  obtain ⟨_,e,h⟩:=bindS h;rw [e,Option.bind_some];cases h;rfl
 ·rename_i q1 q2 q;rw [if_neg q1,if_neg q2,if_pos q]
  obtain ⟨L,e,h⟩:=nms_r hF hl h;rw [e,Option.bind_some]
  obtain ⟨_,e,h⟩:=bindS h;rw [e,Option.bind_some]
  obtain ⟨e,h⟩:=mst_r (F:=F) h;rw [e,Option.bind_some]
  obtain ⟨_,e,h⟩:=bindS h;rw [e,Option.bind_some];cases h;rfl
 ·rename_i q1 q2 q3 q;rw [if_neg q1,if_neg q2,if_neg q3,if_pos q]
  obtain ⟨L,e,h⟩:=nms_r hF hl h;rw [e,Option.bind_some]
  obtain ⟨_,e,h⟩:=bindS h;rw [e,Option.bind_some]
  obtain ⟨e,h⟩:=mst_r (F:=F) h;rw [e,Option.bind_some]
  obtain ⟨_,e,h⟩:=bindS h;rw [e,Option.bind_some];cases h;rfl
 ·rename_i q1 q2 q3 q4 q;rw [if_neg q1,if_neg q2,if_neg q3,if_neg q4,if_pos q]
  obtain ⟨L,e,h⟩:=nms_r hF hl h;rw [e,Option.bind_some]
  obtain ⟨_,e,h⟩:=bindS h;rw [e,Option.bind_some]
  obtain ⟨_,e,h⟩:=bindS h;rw [e,Option.bind_some]
  obtain ⟨_,e,h⟩:=bindS h;rw [e,Option.bind_some]
  obtain ⟨e,h⟩:=mst_r (F:=F) h;rw [e,Option.bind_some]
  obtain ⟨_,e,h⟩:=bindS h;rw [e,Option.bind_some];cases h;rfl
 ·rename_i q1 q2 q3 q4 q5 q;rw [if_neg q1,if_neg q2,if_neg q3,if_neg q4,if_neg q5,if_pos q]
  obtain ⟨L,e,h⟩:=nms_r hF hl h;rw [e,Option.bind_some]
  obtain ⟨_,e,h⟩:=bindS h;rw [e,Option.bind_some]
  obtain ⟨_,e,h⟩:=bindS h;rw [e,Option.bind_some]
  obtain ⟨_,e,h⟩:=bindS h;rw [e,Option.bind_some]
  obtain ⟨e,h⟩:=mst_r (F:=F) h;rw [e,Option.bind_some]
  obtain ⟨_,e,h⟩:=bindS h;rw [e,Option.bind_some]
  obtain ⟨_,e,h⟩:=bindS h;rw [e,Option.bind_some]
  obtain ⟨_,e,h⟩:=bindS h;rw [e,Option.bind_some]
  obtain ⟨e,h⟩:=mst_r (F:=F) h;rw [e,Option.bind_some]
  obtain ⟨_,e,h⟩:=bindS h;rw [e,Option.bind_some]
  obtain ⟨e,h⟩:=mst_r (F:=F) h;rw [e,Option.bind_some]
  obtain ⟨_,e,h⟩:=bindS h;rw [e,Option.bind_some];cases h;rfl
 ·cases h
theorem opE_of {loose:Nat→Bool} {fl:Nat} {lim:Option Nat} {ops:Array Oper} {l:LE} {m:Mem} {n d:Nat} {op:Op} {ty:TypeId} {pos:String} {af:Array Edge} {V:AV→Prop} (hnc:∀ c,opA E c fl lim (evL l) m n op = opA E (fun _ _ _ _ _=>none) fl lim (evL l) m n op) (hin:allK l op = true)
 (h:WO E loose fl lim ops [⟨some d,op,ty,pos,af,none⟩] l m n fun l' m' n'=>∃ v,V v∧lk l' d = some v∧m' = m∧n' = n):∃ v,V v∧∀ l1,(∀ x∈op.operands,evL l1 x = evL l x)→opA E (fun _ _ _ _ _=>none) fl lim (evL l1) m n op = some (v,m,n):=by
 obtain ⟨t,ht⟩:=sees_some l
 obtain ⟨k,s',h1,l',h2,v0,hv,h3,h4,h5⟩:=h.ok t ht
 simp only [opsA,stepA,wantedA] at h1
 have e:∀ c,opA E c fl lim (St.ev ⟨t,m,n⟩) m n op = opA E (fun _ _ _ _ _=>none) fl lim (evL l) m n op:=fun c=>(opA_congr (evL_ev ht hin)).trans (hnc c)
 rw [e] at h1
 refine ⟨v0,hv,fun l1 he=>(opA_congr he).trans ?_⟩
 cases hq:opA E (fun _ _ _ _ _=>none) fl lim (evL l) m n op with
 | none=>rw [hq] at h1;cases h1
 | some r=>
  obtain ⟨v',m',n'⟩:=r
  rw [hq] at h1
  cases h1
  have h6:=h2 d v0 h3
  have h7:(t.set d v').get d = some v0:=h6
  rw [Tr.get_set_same] at h7
  cases h7
  have h4:m' = m:=h4
  have h5:n' = n:=h5
  rw [h4,h5]
section
variable {B fl0:Nat} {w0:World} (hE:EnvOk Tryz.prog E) (hW:E.wc w0∧B = w0.heap.size)
include hE hW
theorem F9x {F fl:Nat} {S0:Cx fl} {H:HL} {t:List UInt8} {v0 v1:SV} {bd bh:Nat} {r:HL × List UInt8} (hfl:fl0≤fl) (hF:100001≤F) (h:X9 F H t = some r) (hlen:∀ ws,F7 F t [32] = some ws→ws.length≤100000∧∀ s∈ws,s.length≤100000) (hd:Rw S0 (.ptr bd 0) [.ptr bh 0])
 (hot0:Bw S0 2 (.ptr bh 0) [v0,v1]) (hot0_0:Ow Y85 S0 3 v0 H.1) (hot0_1:Ow Y168 S0 4 v1 H.2):
 CX Tryz.prog pv B fl0 w0 9 [.sc (.ptr bd 0),.sc (.str t)] S0.m S0.n fun x m' n'=>∃ S':Cx fl,S'.m = m'∧S'.n = n'∧ChM S0 S'∧x = .ok (.sc (.str r.2))∧∃ w1 w2,Bw S' 2 (.ptr bh 0) [w1,w2]∧Ow Y85 S' 3 w1 r.1.1∧Ow Y168 S' 4 w2 r.1.2:=by
 refine CX.guard hE hW hfl ?_
 intro b S1 D c1 hb
 have hFu:=hF
 have hF:=E.fns
 have hM:=ChM.refl S0
 unfold X9 at h
 obtain ⟨ws,e1,h⟩:=bindS h
 obtain ⟨hl1,hl2⟩:=hlen ws e1
 refine gx ?_
 refine WO.callF 6 rfl rfl (F7_ok e1) Lay.flat_fl (fun v12 S2 c2 ho12=>?_)
 refine go ?_
 refine gx ?_
 refine WX.loop (fun i l m' n'=>∃ (k:Nat) (v5:SV) (S:Cx fl),i + k = ws.length∧S.m = m'∧S.n = n'∧ChM S0 S∧Cov l [(0,.sc (.ptr bd 0)),(1,.sc (.str t)),(4,.sc (.ptr b 0)),(5,.sc v5),(12,.sc v12),(13,.sc (.int .i64 (ws.length:Int))),(14,.sc (.int .i64 (k:Int)))]∧Ow Y9 S 5 v5 (wds (ws.take k))∧Ow Y9 S 6 v12 ws∧Bw S 20 (.ptr b 0) [.str []]∧Rw S (.ptr bd 0) [.ptr bh 0]∧Bw S 2 (.ptr bh 0) [v0,v1]∧Ow Y85 S 3 v0 H.1∧Ow Y168 S 4 v1 H.2) ?_ (i:=ws.length) ⟨0,.nils,S2,rfl,rfl,rfl,trM,cv,Ow.nil,ho12,trW,trV,trW,trO,trO⟩
 rintro i l m' n' ⟨k,v5,S3,hi,rfl,rfl,hM,hc,ho5,ho12,hb,hd,hot0,hot0_0,hot0_1⟩
 refine gx ?_
 refine WX.cond rfl (fun q=>?_) (fun q=>?_)
 ·have q:=of_decide_eq_true q
  have hk:k < ws.length:=by omega
  have e2:at? ws (k:Int) = some ws[k]:=by
   unfold at?
   rw [if_pos (by omega),Int.toNat_natCast,List.getElem?_eq_getElem hk]
  have hs:=wds_snoc ws hk
  refine gx ?_
  refine WX.cond rfl (fun q=>?_) (fun q=>?_)
  ·have q:ws[k]≠[]:=by simpa using q
   rw [if_neg q] at hs
   have hle:(wds (ws.take k)).length≤k:=Nat.le_trans (List.length_filter_le _ _) (by simp;omega)
   have e3:app? (wds (ws.take k)) [ws[k]] = some (wds (ws.take k) ++ [ws[k]]):=by unfold app?;rw [if_pos (by simp;omega)]
   refine gx ?_
   refine WO.bsS (A:=Y9) (M:=[ws[k]]) (cs:=[.str ws[k]]) 7 rfl rfl rfl ⟨[.str ws[k]],_,rfl,rfl,rfl⟩ rfl (fun v7 S4 c4 ho7=>?_)
   refine WO.appS rfl rfl tr ro e3 rfl rfl (fun v8 S5 c5 ho8=>?_)
   rw [← hs] at ho8
   refine go ?_
   refine gx ?_
   refine ⟨i - 1,by omega,k + 1,v8,S5,by omega,rfl,rfl,trM,?_,ho8,trO,trW,trV,trW,trO,trO⟩
   rw [show ((k + 1:Nat):Int) = wrapA .i64 ((k:Int) + 1) from by rw [wrapA_id] <;> omega]
   clear hc;exact cv
  ·have q:ws[k] = []:=by simpa using q
   rw [if_pos q] at hs
   rw [← hs] at ho5
   refine gx ?_
   refine ⟨i - 1,by omega,k + 1,v5,S3,by omega,rfl,rfl,trM,?_,ho5,trO,trW,trV,trW,trO,trO⟩
   rw [show ((k + 1:Nat):Int) = wrapA .i64 ((k:Int) + 1) from by rw [wrapA_id] <;> omega]
   clear hc;exact cv
 have q:=of_decide_eq_false q
 have hk:k = ws.length:=by omega
 subst hk
 rw [List.take_length] at ho5
 have hw1:(wds ws).length≤100000:=Nat.le_trans (List.length_filter_le _ _) hl1
 have hw2:∀ s∈wds ws,s.length≤100000:=fun s hs=>hl2 s (List.mem_filter.1 hs).1
 obtain ⟨S4,em,en,hM,ho5,hb,hd,hot0,hot0_0,hot0_1⟩:∃ S4:Cx fl,S4.m = S3.m∧S4.n = S3.n∧ChM S0 S4∧Rd Y9 S4 v5 (wds ws)∧Bw S4 20 (.ptr b 0) [.str []]∧Rw S4 (.ptr bd 0) [.ptr bh 0]∧Bw S4 2 (.ptr bh 0) [v0,v1]∧Ow Y85 S4 3 v0 H.1∧Ow Y168 S4 4 v1 H.2:=⟨S3.drop 5,rfl,rfl,trM,trF,trW,trV,trW,trO,trO⟩
 rw [← em,← en]
 clear em en
 refine gx ?_
 refine xci h (fun q h=>?_) fun q h=>?_
 ·obtain ⟨u,eu,h⟩:=bindS h
  cases h
  refine WX.region ?_
  refine WXO.callK rfl rfl rfl (must_k 10) (fun v S1 c1 e=>by cases e) (fun c S5 c5 e=>?_)
  cases e
  refine gx ?_
  exact ⟨S5,rfl,rfl,rfl,u,eu,_,trW,fun S6 c6=>⟨S6,rfl,rfl,trM,rfl,v0,v1,trW,trO,trO⟩⟩
 obtain ⟨w,ew,h⟩:=bindS h
 refine gx ?_
 refine WO.cutB (d:=37) 5 ((((wds ws).length:Int) == 1) && (w == [110,97,109,101,115])) (fun q=>?_) (fun q=>?_) ?_
 ·refine go ?_;exact cu
 ·refine go ?_;exact cu
 refine go ?_
 refine gx ?_
 refine xci h (fun q h=>?_) fun q h=>?_
 ·obtain ⟨l,el,h⟩:=bindS h
  obtain ⟨s,es,h⟩:=bindS h
  obtain ⟨u,eu,h⟩:=bindS h
  cases h
  refine gx ?_
  refine WO.callF 8 rfl rfl (F17_ok el pw vw vw) Lay.flat_fl (fun v8 S5 c5 ho8=>?_)
  refine WO.callE rfl rfl (F16_ok es jn') (fun S6 c6=>?_)
  refine go ?_
  refine WO.stW (p:=.ptr b 0) (v:=.ptr b 0) rfl pa rfl rfl trW rfl rfl rfl rfl rfl (fun S7 c7 hb=>?_)
  refine go ?_
  refine gx ?_
  exact ⟨S7,rfl,rfl,rfl,.inr rfl,u,hb,S7,rfl,rfl,trM,rfl,v0,v1,trW,trO,trO⟩
 obtain ⟨y,ey,h⟩:=bindS h
 refine gx ?_
 refine WX.region ?_
 refine WXO.pre hE hF hW hfl 2 (by decide) (go ?_)
 refine WXO.callB (S:=S4) (R:=fun x S'=>x = XD y.2∧∃ w1 w2,Bw S' 2 (.ptr bh 0) [w1,w2]∧Ow Y85 S' 3 w1 y.1.1∧Ow Y168 S' 4 w2 y.1.2) [(2,2),(3,3),(4,4)] [(2,2),(3,3),(4,4)] rfl rfl rfl (F18x hE hW (S0:=S4.mp [(2,2),(3,3),(4,4)]) hfl ey mq mq mq mq mq hw2) (fun v S15 S16 hbk hR=>?_) (fun c S15 S16 hbk hR=>?_)
 rotate_left
 ·obtain ⟨e,w1,w2,hR0,hR1,hR2⟩:=hR
  have c1:=Cx.mg_ch S4 3 2
  have c2:=Cx.mg_ch (S4.mg 3 2) 4 2
  have c3:Ch 2 ((S4.mg 3 2).mg 4 2) S16:=hbk.ch [3,4] 2
  have hot0:=hR0.bk (k:=2) hbk rfl
  have hot0_0:=hR1.bkF (k:=3) hbk rfl Lay.flat_fl
  have hot0_1:=hR2.bkF (k:=4) hbk rfl Lay.flat_fl
  cases y with | mk H2 z=>
  cases z with
  | inr s=>cases e
  | inl c'=>
   cases e
   obtain ⟨u,eu,h⟩:=bindS h
   cases h
   refine gx ?_
   exact ⟨S16,rfl,rfl,rfl,u,eu,_,trW,fun S6 c6=>⟨S6,rfl,rfl,trM,rfl,w1,w2,trW,trO,trO⟩⟩
 ·obtain ⟨e,w1,w2,hR0,hR1,hR2⟩:=hR
  have c1:=Cx.mg_ch S4 3 2
  have c2:=Cx.mg_ch (S4.mg 3 2) 4 2
  have c3:Ch 2 ((S4.mg 3 2).mg 4 2) S16:=hbk.ch [3,4] 2
  have hot0:=hR0.bk (k:=2) hbk rfl
  have hot0_0:=hR1.bkF (k:=3) hbk rfl Lay.flat_fl
  have hot0_1:=hR2.bkF (k:=4) hbk rfl Lay.flat_fl
  cases y with | mk H2 z=>
  cases z with
  | inl c'=>cases e
  | inr s=>
   cases e
   have hd:Rw S16 (.ptr bd 0) [.ptr bh 0]:=trV
   have hb:Bw S16 20 (.ptr b 0) [.str []]:=trW
   have ho5:Rd Y9 S16 v5 (wds ws):=trR
   refine WXO.pre hE hF hW hfl 5 (by decide) (go ?_)
   refine WXO.done (by decide) ?_
   refine gx ?_
   refine xci h (fun q h=>?_) fun q h=>?_
   ·cases h
    refine gx ?_
    refine WO.stW (p:=.ptr b 0) (v:=.ptr b 0) rfl pa rfl rfl trW rfl rfl rfl rfl rfl (fun S7 c7 hb=>?_)
    refine go ?_
    refine gx ?_
    exact ⟨S7,rfl,rfl,rfl,.inr rfl,_,hb,S7,rfl,rfl,trM,rfl,w1,w2,trW,trO,trO⟩
   obtain ⟨l,el,h⟩:=bindS h
   obtain ⟨z,ez,h⟩:=bindS h
   have hl:l.length≤100000:=by
    unfold sub? at el
    split at el
    ·cases el;simp;omega
    ·cases el
   refine gx ?_
   cases z with
   | inr s2=>
    cases h
    refine WX.ofQ hE hF hW hfl (WC.drawN rfl rfl (go ?_))
    refine WO.slc (k':=.i64) rfl (.inl ⟨_,rfl,rfl⟩) (.inr ⟨rfl,rfl⟩) (trR (S:=S16)) el rfl (fun vl hol=>?_)
    have hol:Rd Y9 S16 vl l:=hol
    refine WO.callE rfl rfl (F19_ok (F19_of hFu hl ez) vw) (fun S7 c7=>?_)
    refine go ?_
    refine WO.stW (p:=.ptr b 0) (v:=.ptr b 0) rfl pa rfl rfl trW rfl rfl rfl rfl rfl (fun S8 c8 hb=>?_)
    refine go ?_
    refine gx ?_
    exact ⟨S8,rfl,rfl,rfl,.inr rfl,_,hb,S8,rfl,rfl,trM,rfl,w1,w2,trW,trO,trO⟩
   | inl c=>
    obtain ⟨u,eu,h⟩:=bindS h
    cases h
    obtain ⟨_,⟨vl,rfl,hol⟩,hop⟩:=opE_of (loose:=fun _=>true) (ops:=#[]) (ty:=0) (pos:= "") (af:=#[]) (d:=57) (fl:=fl) (lim:=some S16.n) (m:=S16.m) (n:=S16.n) (l:=[(56,.sc v5)]) (V:=fun v=>∃ vl,v = .sc vl∧Rd Y9 S16 vl l) (op:=.slice 22 (.tmp 56) (some (.const (.int .i64 1))) none none) (fun _=>rfl) rfl
     (WO.slc (k':=.i64) rfl (.inl ⟨_,rfl,rfl⟩) (.inr ⟨rfl,rfl⟩) (trR (S:=S16)) el rfl (fun vl hol=>WO.nil ⟨_,⟨vl,rfl,hol⟩,rfl,rfl,rfl⟩))
    have hx:=F19x (fl0:=fl0) hE hW ez (vw:Vw Y9 S16.n S16.m vl l) hl
    refine WX.drawPanK (ops:=_) (j:=5) hE hfl [(57,.sc vl),(56,.sc v5),(55,.sc (.str w)),(54,.sc (ptrAt v5 0 0)),(53,.sc v5)] [0,1,2,3,4] (by kernel_rfl) rfl ?_ ?_ rfl hx [(4,.sc (.ptr b 0))] cv rfl ?_
    ·intro p hp
     simp only [List.mem_cons,List.not_mem_nil,or_false] at hp
     rcases hp with rfl | rfl | rfl | rfl | rfl
     ·exact ⟨4,_,rfl,rfl⟩
     ·exact ⟨3,_,rfl,rfl⟩
     ·exact ⟨2,_,rfl,rfl⟩
     ·exact ⟨1,_,rfl,rfl⟩
     ·exact ⟨0,_,rfl,rfl⟩
    ·intro i hi o ho
     simp only [List.mem_cons,List.not_mem_nil,or_false] at hi
     rcases hi with rfl | rfl | rfl | rfl | rfl
     all_goals cases ho
     ·exact ⟨_,_,rfl,rfl,rfl,rfl⟩
     ·exact ⟨_,_,rfl,rfl,rfl,opA_of (loose:=fun _=>true) (ops:=#[]) (ty:=0) (pos:= "") (af:=#[]) (d:=54) (fun _=>rfl) rfl (WO.ixS rfl rfl ho5.slv (at?_lt ew) rfl (WO.nil ⟨rfl,rfl,rfl⟩))⟩
     ·exact ⟨_,_,rfl,rfl,rfl,opA_of (loose:=fun _=>true) (ops:=#[]) (ty:=0) (pos:= "") (af:=#[]) (d:=55) (fun _=>rfl) rfl (WO.ldF rfl ho5.ro (fun _ h=>h) (at?_get ew) rfl rfl (limLe_self _) (WO.nil ⟨rfl,rfl,rfl⟩))⟩
     ·exact ⟨_,_,rfl,rfl,rfl,rfl⟩
     ·refine ⟨_,_,rfl,rfl,rfl,hop _ fun x hx=>?_⟩
      simp [Op.operands] at hx
      rcases hx with rfl | rfl <;> rfl
    ·rintro x m' n' ⟨hk,rfl⟩
     obtain ⟨S7,rfl,rfl,c7,_⟩:=S16.next hk 1 S16.n (Nat.le_refl _)
     refine ⟨c,rfl,?_⟩
     refine gx ?_
     exact ⟨S7,rfl,rfl,rfl,u,eu,_,trW,fun S6 c6=>⟨S6,rfl,rfl,trM,rfl,w1,w2,trW,trO,trO⟩⟩
end
open Go.Am
theorem F8.fn:E.fn 8 = some (fi 3 Tryz.f8 []):=rfl
theorem F8_ok {F:Nat} {fl:Nat} {S0:Cx fl} {r:(Option ((List ((List UInt8) × Int × Int)) × (List ((List UInt8) × (List UInt8) × Int))))}  (h:F8 F = some r) :Ret E fl 8 [] S0.m S0.n (fun v m' n'=>∃ S':Cx fl,S'.m = m'∧S'.n = n'∧ChM S0 S'∧(∃ w5:SV,v = .sc w5∧(match (generalizing:=false) r with | none=>w5 = .nilp | some x=>∃ b:Nat,∃ w6 w7:SV,w5 = .ptr b 0∧Bw S' 902 (.ptr b 0) [w6,w7]∧Ow Y85 S' 904 w6 x.1∧Ow Y168 S' 906 w7 x.2))):=by
 unfold F8 at h
 refine Ret.walk F8.fn ?_
 have hM:=ChM.refl S0
 refine go ?_
 refine WO.bxW (cs:=[.nils,.nils]) 2 rfl rfl rfl (fun b1 S2 c3 ho4=>?_)
 cases h;refine go ?_
 exact ⟨.inr rfl,_,_,rk,rfl,sx (S2.ren 2 902)⟩
open Go.Am
def runX (F:Nat):HL→List (List UInt8)→Option (List (List UInt8))
 | _,[]=>some []
 | H,l :: r=>if l == [] then runX F H r else (X9 F H l).bind fun y=>(runX F y.1 r).bind fun o=>some (y.2 :: o)
def X4 (F:Nat) (t:List UInt8):Option (List (List UInt8) × Int):=
 (F7 F t [10]).bind fun ls=>
 if (decide ((t.length:Int) > 4096)) || (decide ((ls.length:Int) > 60)) then some ([],2)
 else (runX F ([],[]) ls).bind fun o=>some (o,0)
theorem F7_eq {F:Nat} {s:List UInt8} {c:UInt8} {r:List (List UInt8)} (h:F7 F s [c] = some r):r = spl c s:=by
 unfold F7 split? at h
 split at h
 ·cases h;exact splitL_eq c s
 ·cases h
theorem F4.fn:E.fn 4 = some (fi 38 Tryz.f4 []):=rfl
section
variable {B fl0:Nat} {w0:World} (hE:EnvOk Tryz.prog E) (hW:E.wc w0∧B = w0.heap.size)
include hE hW
theorem F4x {F:Nat} {t:List UInt8} {r:List (List UInt8) × Int} {m:Mem} {n:Nat} (hFu:100001≤F) (h:X4 F t = some r):CX Tryz.prog pv B fl0 w0 4 [.sc (.str t)] m n fun x m' n'=>Keeps n n m m' n'∧∃ w,x = .ok (.tup [.sc w,.sc (.int .i64 r.2)])∧Fr Y9 n m' n' w r.1:=by
 refine CX.walkF hE E.fns F4.fn fun h0=>?_
 have hF:=E.fns
 refine WX.start fun S0 em en hz=>?_
 subst em
 have hk:=Kp.refl S0
 unfold X4 at h
 obtain ⟨ls,e1,h⟩:=bindS h
 refine gx ?_
 refine WO.callF 6 rfl rfl (F7_ok e1) Lay.flat_fl (fun v4 S2 c2 ho4=>?_)
 refine go ?_
 refine gx ?_
 refine WO.cutB (d:=18) 4 ((decide ((t.length:Int) > 4096)) || (decide ((ls.length:Int) > 60))) (fun q=>?_) (fun q=>?_) ?_
 ·refine go ?_;exact cu
 ·refine go ?_;exact cu
 refine go ?_
 refine gx ?_
 refine xci h (fun q h=>?_) fun q h=>?_
 ·cases h
  refine gx ?_
  exact ⟨.inr rfl,_,_,rk,rfl,Kp.ks trKp hz en,_,rfl,Fr.nil⟩
 obtain ⟨o,eo,h⟩:=bindS h
 cases h
 have q1:t.length≤4096∧ls.length≤60:=by
  simp only [Bool.or_eq_false_iff,decide_eq_false_iff_not] at q;omega
 have hls:=F7_eq e1
 have hll:=(spl_len 10 t).2
 rw [← hls] at hll
 refine gx ?_
 refine WO.callG (S:=S2) [] [(902,2),(904,3),(906,4)] rfl rfl (F8_ok (S0:=S2.mp []) (F:=0) (r:=some ([],[])) rfl) (fun _ S3 S4 hb hR=>?_)
 obtain ⟨_,rfl,bh,w6,w7,rfl,hR0,hR1,hR2⟩:=hR
 have c4:Ch 1 S2 S4:=hb.ch [] 1
 have hot0:=hR0.bk (k:=2) hb rfl
 have hot0_0:=hR1.bkF (k:=3) hb rfl Lay.flat_fl
 have hot0_1:=hR2.bkF (k:=4) hb rfl Lay.flat_fl
 refine go ?_
 refine WO.bxW (cs:=[.ptr bh 0]) 5 rfl rfl rfl (fun bd S5 c5 ho5=>?_)
 refine go ?_
 obtain ⟨S6,em,en',hk6,hd,hot0,hot0_0,hot0_1,ho4⟩:∃ S6:Cx n,S6.m = S5.m∧S6.n = S5.n∧Kp S0 S6∧Rw S6 (.ptr bd 0) [.ptr bh 0]∧Bw S6 2 (.ptr bh 0) [w6,w7]∧Ow Y85 S6 3 w6 []∧Ow Y168 S6 4 w7 []∧Ow Y9 S6 6 v4 ls:=⟨S5.drop 5,rfl,rfl,trKp,Bw.fz' ho5 ho5,trW,trO,trO,trO⟩
 rw [← em,← en']
 clear em en'
 refine gx ?_
 refine WX.loop (fun i l m' n'=>∃ (k:Nat) (acc p:List (List UInt8)) (v6 w1 w2:SV) (H:HL) (S:Cx n),i + k = ls.length∧S.m = m'∧S.n = n'∧Kp S0 S∧Cov l [(5,.sc (.ptr bd 0)),(6,.sc v6),(22,.sc v4),(23,.sc (.int .i64 (ls.length:Int))),(24,.sc (.int .i64 (k:Int)))]∧Ow Y9 S 7 v6 acc∧Ow Y9 S 6 v4 ls∧Rw S (.ptr bd 0) [.ptr bh 0]∧Bw S 2 (.ptr bh 0) [w1,w2]∧Ow Y85 S 3 w1 H.1∧Ow Y168 S 4 w2 H.2∧acc.length≤k∧runX F H (ls.drop k) = some p∧acc ++ p = o) ?_ (i:=ls.length) ⟨0,[],o,.nils,w6,w7,([],[]),S6,rfl,rfl,rfl,hk6,cv,Ow.nil,ho4,hd,hot0,hot0_0,hot0_1,Nat.le_refl _,eo,rfl⟩
 rintro i l m' n' ⟨k,acc,p,v6,w1,w2,H,S7,hi,rfl,rfl,hk7,hc,ho7,ho4,hd,hot0,hot0_0,hot0_1,ha,hp,rfl⟩
 refine gx ?_
 refine WX.cond rfl (fun q=>?_) (fun q=>?_)
 ·have q:=of_decide_eq_true q
  have hk4:k < ls.length:=by omega
  have e2:at? ls (k:Int) = some ls[k]:=by
   unfold at?
   rw [if_pos (by omega),Int.toNat_natCast,List.getElem?_eq_getElem hk4]
  rw [List.drop_eq_getElem_cons hk4,runX] at hp
  refine gx ?_
  refine WX.cond rfl (fun q=>?_) (fun q=>?_)
  ·have q:ls[k]≠[]:=by simpa using q
   rw [if_neg (by simpa using q)] at hp
   obtain ⟨y,ey,hp⟩:=bindS hp
   obtain ⟨p2,ep,hp⟩:=bindS hp
   cases hp
   have e3:app? acc [y.2] = some (acc ++ [y.2]):=by unfold app?;rw [if_pos (by simp;omega)]
   have hll2:ls[k].length≤4096:=Nat.le_trans (hll _ (List.getElem_mem hk4)).1 q1.1
   refine WX.region ?_
   refine WXO.pre hE hF hW h0 3 (by decide) (go ?_)
   refine WXO.callB (S:=S7) (R:=fun x S'=>x = .ok (.sc (.str y.2))∧∃ w1 w2,Bw S' 2 (.ptr bh 0) [w1,w2]∧Ow Y85 S' 3 w1 y.1.1∧Ow Y168 S' 4 w2 y.1.2) [(2,2),(3,3),(4,4)] [(2,2),(3,3),(4,4)] rfl rfl rfl (F9x hE hW (S0:=S7.mp [(2,2),(3,3),(4,4)]) h0 hFu ey (fun ws hws=>by
    rw [F7_eq hws]
    obtain ⟨g1,g2⟩:=spl_len 32 ls[k]
    exact ⟨by omega,fun s hs=>by have:=(g2 s hs).1;omega⟩) mq mq mq mq) (fun v S15 S16 hbk hR=>?_) (fun c S15 S16 hbk hR=>by cases hR.1)
   obtain ⟨e,w1',w2',hR0,hR1,hR2⟩:=hR
   cases e
   have c1:=Cx.mg_ch S7 3 2
   have c2:=Cx.mg_ch (S7.mg 3 2) 4 2
   have c3:Ch 2 ((S7.mg 3 2).mg 4 2) S16:=hbk.ch [3,4] 2
   have hot0:=hR0.bk (k:=2) hbk rfl
   have hot0_0:=hR1.bkF (k:=3) hbk rfl Lay.flat_fl
   have hot0_1:=hR2.bkF (k:=4) hbk rfl Lay.flat_fl
   have hd:Rw S16 (.ptr bd 0) [.ptr bh 0]:=trV
   have ho7:Ow Y9 S16 7 v6 acc:=trO
   have ho4:Ow Y9 S16 6 v4 ls:=trO
   have hk16:Kp S0 S16:=trKp
   refine WXO.pre hE hF hW h0 3 (by decide) ?_
   refine WO.bsS (A:=Y9) (M:=[y.2]) (cs:=[.str y.2]) 8 rfl rfl rfl ⟨[.str y.2],_,rfl,rfl,rfl⟩ rfl (fun v7 S17 c17 ho8=>?_)
   refine WO.appS rfl rfl tr ro e3 rfl rfl (fun v8 S18 c18 ho9=>?_)
   refine go ?_
   refine WXO.done (by decide) ?_
   refine gx ?_
   refine ⟨i - 1,by omega,k + 1,acc ++ [y.2],p2,v8,w1',w2',y.1,S18,by omega,rfl,rfl,trKp,?_,ho9,trO,trV,trW,trO,trO,by simp;omega,ep,by simp⟩
   rw [show ((k + 1:Nat):Int) = wrapA .i64 ((k:Int) + 1) from by rw [wrapA_id] <;> omega]
   clear hc;exact cv
  ·have q:ls[k] = []:=by simpa using q
   rw [if_pos (by simpa using q)] at hp
   refine gx ?_
   refine ⟨i - 1,by omega,k + 1,acc,p,v6,w1,w2,H,S7,by omega,rfl,rfl,trKp,?_,ho7,trO,trV,trW,trO,trO,by omega,hp,rfl⟩
   rw [show ((k + 1:Nat):Int) = wrapA .i64 ((k:Int) + 1) from by rw [wrapA_id] <;> omega]
   clear hc;exact cv
 have q:=of_decide_eq_false q
 have hk:k = ls.length:=by omega
 subst hk
 rw [List.drop_length] at hp
 cases hp
 rw [List.append_nil]
 refine gx ?_
 exact ⟨.inr rfl,_,_,rk,rfl,Kp.ks trKp hz en,_,rfl,fr'⟩
end
open Go.Am
theorem F20_21_ok {F:Nat} {m:Mem} {n:Nat} {r:List (List UInt8)} {t0:List UInt8} (h:F20_21 F t0 = some r):Ret E n 20 [.sc (.str t0),.sc (.fn 21 [])] m n (fun v m' n'=>∃ w,v = .sc w∧Fr Y9 n m' n' w r):=ext_fields (k:=sno) (Fs:=Fs) h rfl rfl rfl (by decide) (by decide) (by decide) (by decide)
open Go.Am
theorem F95.fn:E.fn 95 = some (fi 17 Tryz.f95 []):=rfl
theorem F95_ok {F:Nat} {m:Mem} {n:Nat} {r:(List UInt8)} {t0:List UInt8} {t1:Int} (h:F95 F t0 t1 = some r) :Ret E n 95 [.sc (.str t0),.sc (.int .u8 t1)] m n (fun v m' n'=>v = .sc (.str r)):=by
 unfold F95 at h
 refine Ret.walk F95.fn ?_
 refine WC.start fun S0 em en hz=>?_
 obtain ⟨b14,e15,h⟩:=bindS h
 refine go ?_
 refine WC.loopD e15 (fun s1 l' m' n'=>∃ S2:Cx n,S2.m = m'∧S2.n = n'∧Cov l' [(0,.sc (.str s1)),(1,.sc (.int .u8 t1))]) (fun b e l' m' n'=>e = .exit 0∧∃ S3:Cx n,S3.m = m'∧S3.n = n'∧Cov l' [(0,.sc (.str b))]) fn ?_ ?_
 ·rintro s1 q _ _ _ ⟨S4,rfl,rfl,hc5⟩ h
  unfold F95_l0 at h
  obtain ⟨y9,e10,h⟩:=bindS h
  refine go ?_
  refine WO.cutB (d:=13) 5 y9 (fun q8=>?_) (fun q8=>?_) ?_
  ·have h:=e10
   have h:=iteT q8 h
   obtain ⟨x6,e7,h⟩:=bindS h
   cases h;refine go ?_
   exact cu
  ·have h:=e10
   have h:=iteF q8 h
   cases h;refine go ?_
   exact cu
  refine go ?_
  refine ci h (fun q11 h=>?_) fun q11 h=>?_
  ·obtain ⟨x12,e13,h⟩:=bindS h
   cases h;refine go ?_
   exact fn
  cases h;refine go ?_
  exact fn
 rintro _ _ _ _ ⟨rfl,⟨S16,rfl,rfl,hc17⟩⟩
 cases h;refine go ?_
 exact fn
open Go.Am
theorem F96.fn:E.fn 96 = some (fi 23 Tryz.f96 []):=rfl
theorem F96_ok {F:Nat} {m:Mem} {n:Nat} {r:(List UInt8)} {t0:List UInt8} {t1:Int} (h:F96 F t0 t1 = some r) :Ret E n 96 [.sc (.str t0),.sc (.int .u8 t1)] m n (fun v m' n'=>v = .sc (.str r)):=by
 unfold F96 at h
 refine Ret.walk F96.fn ?_
 refine WC.start fun S0 em en hz=>?_
 obtain ⟨b14,e15,h⟩:=bindS h
 refine go ?_
 refine WC.loopD e15 (fun s1 l' m' n'=>∃ S2:Cx n,S2.m = m'∧S2.n = n'∧Cov l' [(0,.sc (.str s1)),(1,.sc (.int .u8 t1))]) (fun b e l' m' n'=>e = .exit 0∧∃ S3:Cx n,S3.m = m'∧S3.n = n'∧Cov l' [(0,.sc (.str b))]) fn ?_ ?_
 ·rintro s1 q _ _ _ ⟨S4,rfl,rfl,hc5⟩ h
  unfold F96_l0 at h
  obtain ⟨y9,e10,h⟩:=bindS h
  refine go ?_
  refine WO.cutB (d:=16) 8 y9 (fun q8=>?_) (fun q8=>?_) ?_
  ·have h:=e10
   have h:=iteT q8 h
   obtain ⟨x6,e7,h⟩:=bindS h
   cases h;refine go ?_
   exact cu
  ·have h:=e10
   have h:=iteF q8 h
   cases h;refine go ?_
   exact cu
  refine go ?_
  refine ci h (fun q11 h=>?_) fun q11 h=>?_
  ·obtain ⟨x12,e13,h⟩:=bindS h
   cases h;refine go ?_
   exact fn
  cases h;refine go ?_
  exact fn
 rintro _ _ _ _ ⟨rfl,⟨S16,rfl,rfl,hc17⟩⟩
 cases h;refine go ?_
 exact fn
open Go.Am
theorem F97.fn:E.fn 97 = some (fi 21 Tryz.f97 []):=rfl
theorem F97_ok {F:Nat} {m:Mem} {n:Nat} {r:(List Bool) × Bool} {t0:List UInt8} (h:F97 F t0 = some r) :Ret E n 97 [.sc (.str t0)] m n (fun v m' n'=>v = .tup [.agg (List.map SV.bool r.1),.sc (.bool r.2)]):=by
 unfold F97 at h
 refine Ret.walk F97.fn ?_
 refine WC.start fun S0 em en hz=>?_
 refine go ?_
 refine WO.alS (A:=Y143) (z0:=(List.replicate 256 false)) 2 rfl ⟨List.length_replicate,List.map_replicate.symm⟩ rfl (fun v1 S2 c3 ho4=>?_)
 obtain ⟨b23,e24,h⟩:=bindS h
 refine go ?_
 refine WC.loopD e24 (fun s5 l' m' n'=>∃ S6:Cx n,S6.m = m'∧S6.n = n'∧Cov l' [(0,.sc (.str t0)),(2,.sc v1),(4,.sc (.int .i64 s5.1))]∧Bk Y143 S6 2 v1 s5.2) (fun b e l' m' n'=>(match b with | .inl b7=>e = .exit 0∧∃ S8:Cx n,S8.m = m'∧S8.n = n'∧Cov l' [(2,.sc v1)]∧Bk Y143 S8 2 v1 b7 | .inr b7=>e = .ret∧∃ S9:Cx n,S9.m = m'∧S9.n = n'∧Cov l' [(2,.sc v1),(3,.sc (.bool b7.1))]∧Bk Y143 S9 2 v1 b7.2)) fn ?_ ?_
 ·rintro s5 q _ _ _ ⟨S10,rfl,rfl,hc11,ho4⟩ h
  unfold F97_l0 at h
  refine go ?_
  refine ci h (fun q12 h=>?_) fun q12 h=>?_
  ·obtain ⟨x13,e14,h⟩:=bindS h
   refine go ?_
   refine ci h (fun q15 h=>?_) fun q15 h=>?_
   ·refine go ?_
    refine WO.ldV (j:=0) rfl pa tr rfl rfl (fun hv16=>?_)
    refine WO.stV rfl pa rfl tr hv16 rfl rfl (fun S17 c18 ho4=>?_)
    cases h;refine go ?_
    exact fn
   obtain ⟨u19,e20,h⟩:=bindS h
   refine go ?_
   refine WO.stR rfl rfl rfl tr ntl (by rfl) (by rfl) (fun S21 c22 ho4=>?_)
   cases h;refine go ?_
   exact fn
  cases h;refine go ?_
  exact fn
 cases b23 with
 | inl b25=>
  simp only at h
  rintro _ _ _ _ ⟨rfl,⟨S26,rfl,rfl,hc27,ho4⟩⟩
  refine go ?_
  refine WO.ldV (j:=0) rfl pa tr rfl rfl (fun hv28=>?_)
  refine WO.stV rfl pa rfl tr hv28 rfl rfl (fun S29 c30 ho4=>?_)
  cases h;refine go ?_
  exact fn
 | inr b25=>
  simp only at h
  rintro _ _ _ _ ⟨rfl,⟨S31,rfl,rfl,hc32,ho4⟩⟩
  cases h;refine go ?_
  exact fn
open Go.Am
theorem F136.fn:E.fn 136 = some (fi 10 Tryz.f136 []):=rfl
theorem F136_ok {F:Nat} {m:Mem} {n:Nat} {r:Bool} {t0:List Bool} {t1:Int} {bt0:Nat} (h:F136 F t0 t1 = some r) (kt0:Pv Y143 n m bt0 t0):Ret E n 136 [.sc (.ptr bt0 0),.sc (.int .u8 t1)] m n (fun v m' n'=>v = .sc (.bool r)):=by
 unfold F136 at h
 refine Ret.walk F136.fn ?_
 refine WC.start fun S0 em en hz=>?_
 have hot0:=kt0.rpS em hz
 obtain ⟨x1,e2,h⟩:=bindS h
 cases h;refine go ?_
 exact fn
open Go.Am
theorem F98.fn:E.fn 98 = some (fi 16 Tryz.f98 []):=rfl
theorem F98_ok {F:Nat} {m:Mem} {n:Nat} {r:(List UInt8)} {t0:List UInt8} {t1:List Bool} {bt1:Nat} (h:F98 F t0 t1 = some r) (kt1:Pv Y143 n m bt1 t1):Ret E n 98 [.sc (.str t0),.sc (.ptr bt1 0)] m n (fun v m' n'=>v = .sc (.str r)):=by
 unfold F98 at h
 refine Ret.walk F98.fn ?_
 refine WC.start fun S0 em en hz=>?_
 have hot1:=kt1.rpS em hz
 obtain ⟨b16,e17,h⟩:=bindS h
 refine go ?_
 refine WC.loopD e17 (fun s1 l' m' n'=>∃ S2:Cx n,S2.m = m'∧S2.n = n'∧Cov l' [(0,.sc (.str s1)),(1,.sc ((.ptr bt1 0)))]∧Rp Y143 S2 (.ptr bt1 0) t1) (fun b e l' m' n'=>e = .exit 0∧∃ S3:Cx n,S3.m = m'∧S3.n = n'∧Cov l' [(0,.sc (.str b))]) fn ?_ ?_
 ·rintro s1 q _ _ _ ⟨S4,rfl,rfl,hc5,hot1⟩ h
  unfold F98_l0 at h
  refine go ?_
  refine ci h (fun q6 h=>?_) fun q6 h=>?_
  ·obtain ⟨x7,e8,h⟩:=bindS h
   obtain ⟨r9,e10,h⟩:=bindS h
   refine go ?_
   refine WO.callE rfl rfl (F136_ok e10 pv') (fun S11 c12=>?_)
   refine go ?_
   refine ci h (fun q13 h=>?_) fun q13 h=>?_
   ·cases h;refine go ?_
    exact fn
   obtain ⟨x14,e15,h⟩:=bindS h
   cases h;refine go ?_
   exact fn
  cases h;refine go ?_
  exact fn
 rintro _ _ _ _ ⟨rfl,⟨S18,rfl,rfl,hc19⟩⟩
 cases h;refine go ?_
 exact fn
open Go.Am
theorem F99.fn:E.fn 99 = some (fi 22 Tryz.f99 []):=rfl
theorem F99_ok {F:Nat} {m:Mem} {n:Nat} {r:(List UInt8)} {t0:List UInt8} {t1:List Bool} {bt1:Nat} (h:F99 F t0 t1 = some r) (kt1:Pv Y143 n m bt1 t1):Ret E n 99 [.sc (.str t0),.sc (.ptr bt1 0)] m n (fun v m' n'=>v = .sc (.str r)):=by
 unfold F99 at h
 refine Ret.walk F99.fn ?_
 refine WC.start fun S0 em en hz=>?_
 have hot1:=kt1.rpS em hz
 obtain ⟨b16,e17,h⟩:=bindS h
 refine go ?_
 refine WC.loopD e17 (fun s1 l' m' n'=>∃ S2:Cx n,S2.m = m'∧S2.n = n'∧Cov l' [(0,.sc (.str s1)),(1,.sc ((.ptr bt1 0)))]∧Rp Y143 S2 (.ptr bt1 0) t1) (fun b e l' m' n'=>e = .exit 0∧∃ S3:Cx n,S3.m = m'∧S3.n = n'∧Cov l' [(0,.sc (.str b))]) fn ?_ ?_
 ·rintro s1 q _ _ _ ⟨S4,rfl,rfl,hc5,hot1⟩ h
  unfold F99_l0 at h
  refine go ?_
  refine ci h (fun q6 h=>?_) fun q6 h=>?_
  ·obtain ⟨x7,e8,h⟩:=bindS h
   obtain ⟨r9,e10,h⟩:=bindS h
   refine go ?_
   refine WO.callE rfl rfl (F136_ok e10 pv') (fun S11 c12=>?_)
   refine go ?_
   refine ci h (fun q13 h=>?_) fun q13 h=>?_
   ·cases h;refine go ?_
    exact fn
   obtain ⟨x14,e15,h⟩:=bindS h
   cases h;refine go ?_
   exact fn
  cases h;refine go ?_
  exact fn
 rintro _ _ _ _ ⟨rfl,⟨S18,rfl,rfl,hc19⟩⟩
 cases h;refine go ?_
 exact fn
open Go.Am
theorem F44.fn:E.fn 44 = some (fi 43 Tryz.f44 []):=rfl
theorem F44_ok {F:Nat} {m:Mem} {n:Nat} {r:(List UInt8)} {t0:List UInt8} {t1:List UInt8} (h:F44 F t0 t1 = some r) :Ret E n 44 [.sc (.str t0),.sc (.str t1)] m n (fun v m' n'=>v = .sc (.str r)):=by
 unfold F44 at h
 refine Ret.walk F44.fn ?_
 refine WC.start fun S0 em en hz=>?_
 refine go ?_
 refine WO.cutB (d:=12) 3 ((t0 == []) || (t1 == [])) (fun q1=>?_) (fun q1=>?_) ?_
 ·refine go ?_;exact cu
 ·refine go ?_;exact cu
 refine go ?_
 refine ci h (fun q2 h=>?_) fun q2 h=>?_
 ·cases h;refine go ?_
  exact fn
 obtain ⟨y6,e7,h⟩:=bindS h
 refine go ?_
 refine WO.cutB (d:=21) 4 y6 (fun q5=>?_) (fun q5=>?_) ?_
 ·have h:=e7
  have h:=iteT q5 h
  obtain ⟨x3,e4,h⟩:=bindS h
  cases h;refine go ?_
  exact cu
 ·have h:=e7
  have h:=iteF q5 h
  cases h;refine go ?_
  exact cu
 refine go ?_
 refine ci h (fun q8 h=>?_) fun q8 h=>?_
 ·obtain ⟨x9,e10,h⟩:=bindS h
  obtain ⟨r11,e12,h⟩:=bindS h
  refine go ?_
  refine WO.callE rfl rfl (F96_ok e12) (fun S13 c14=>?_)
  have h:=bindE e10 h
  obtain ⟨r17,e18,h⟩:=bindS h
  refine go ?_
  refine WO.callE rfl rfl (F95_ok e18) (fun S19 c20=>?_)
  cases h;refine go ?_
  exact fn
 obtain ⟨r21,e22,h⟩:=bindS h
 refine go ?_
 refine WO.callE rfl rfl (F97_ok e22) (fun S23 c24=>?_)
 refine go ?_
 refine WO.alS (A:=Y143) (z0:=(List.replicate 256 false)) 2 rfl ⟨List.length_replicate,List.map_replicate.symm⟩ rfl (fun v25 S26 c27 ho28=>?_)
 obtain ⟨u31,e32,h⟩:=bindS h
 refine WO.stV rfl pa rfl tr (ckN?_ok e32) rfl rfl (fun S29 c30 ho28=>?_)
 refine go ?_
 refine ci h (fun q33 h=>?_) fun q33 h=>?_
 ·refine go ?_
  obtain ⟨b34,rfl⟩:=ho28.isp
  obtain ⟨r35,e36,h⟩:=bindS h
  refine WO.callE rfl rfl (F99_ok e36 pv') (fun S37 c38=>?_)
  obtain ⟨r39,e40,h⟩:=bindS h
  refine WO.callE rfl rfl (F98_ok e40 pv') (fun S41 c42=>?_)
  cases h;refine go ?_
  exact fn
 refine go ?_;cases h
open Go.Am
theorem F45_ok {F:Nat} {m:Mem} {n:Nat} {r:Int} {t0:List UInt8} (h:F45 F t0 = some r):Ret E n 45 [.sc (.str t0)] m n (fun v m' n'=>v = .tup [.sc (.int .i64 r),.un]):=ext_atoi (k:=sno) (Fs:=Fs) h rfl rfl (by decide) (by decide) (by decide)
open Go.Am
theorem F23.fn:E.fn 23 = some (fi 25 Tryz.f23 []):=rfl
theorem F23_ok {F:Nat} {m:Mem} {n:Nat} {r:Int × Bool} {t0:List UInt8} (h:F23 F t0 = some r) :Ret E n 23 [.sc (.str t0)] m n (fun v m' n'=>v = .tup [.sc (.int .i64 r.1),.sc (.bool r.2)]):=by
 unfold F23 at h
 refine Ret.walk F23.fn ?_
 refine WC.start fun S0 em en hz=>?_
 refine go ?_
 refine WO.cutB (d:=13) 4 (((t0.length:Int) == 0) || (decide ((t0.length:Int) > 6))) (fun q1=>?_) (fun q1=>?_) ?_
 ·refine go ?_;exact cu
 ·refine go ?_;exact cu
 obtain ⟨y7,e8,h⟩:=bindS h
 refine go ?_
 refine WO.cutS (d:=18) (S:=S0) 4 y7 (fun q6=>?_) (fun q6=>?_) (fun S9 c10=>?_)
 ·have h:=e8
  have h:=iteT q6 h
  cases h;refine go ?_
  exact ⟨S0,rfl,rfl,Ch.refl _ _,(Cov.cons rfl (Cov.skip rfl (Cov.skip rfl (Cov.skip rfl (Cov.skip rfl (Cov.skip rfl (Cov.refl _)))))))⟩
 ·have h:=e8
  have h:=iteF q6 h
  obtain ⟨r2,e3,h⟩:=bindS h
  refine go ?_
  refine WO.callE rfl rfl (F44_ok e3) (fun S4 c5=>?_)
  cases h;refine go ?_
  exact cu
 refine go ?_
 refine ci h (fun q11 h=>?_) fun q11 h=>?_
 ·cases h;refine go ?_
  exact fn
 obtain ⟨r12,e13,h⟩:=bindS h
 refine go ?_
 refine WO.callE rfl rfl (F45_ok e13) (fun S14 c15=>?_)
 cases h;refine go ?_
 exact fn
open Go.Am
theorem F144.fn:E.fn 144 = some (fi 19 Tryz.f144 []):=rfl
theorem F144_ok {F:Nat} {m:Mem} {n:Nat} {r:Int} {t0:List Int} {t1:Int} {vt0:SV} (h:F144 F t0 t1 = some r) (kt0:Vw Y3 n m vt0 t0):Ret E n 144 [.sc vt0,.sc (.int .i64 t1)] m n (fun v m' n'=>v = .sc (.int .i64 r)):=by
 unfold F144 at h
 refine Ret.walk F144.fn ?_
 refine WC.start fun S0 em en hz=>?_
 have hot0:=kt0.rdS em hz
 obtain ⟨b12,e13,h⟩:=bindS h
 refine go ?_
 refine WC.loopD e13 (fun s1 l' m' n'=>∃ S2:Cx n,S2.m = m'∧S2.n = n'∧Cov l' [(0,.sc vt0),(1,.sc (.int .i64 t1)),(7,.sc (.int .i64 ((t0.length:Int)))),(8,.sc (.int .i64 s1))]∧Rd Y3 S2 vt0 t0) (fun b e l' m' n'=>(match b with | .inl b3=>e = .exit 0∧∃ S4:Cx n,S4.m = m'∧S4.n = n'∧Cov l' [] | .inr b3=>e = .ret∧∃ S5:Cx n,S5.m = m'∧S5.n = n'∧Cov l' [(4,.sc (.int .i64 b3))])) fn ?_ ?_
 ·rintro s1 q _ _ _ ⟨S6,rfl,rfl,hc7,hot0⟩ h
  unfold F144_l0 at h
  refine go ?_
  refine ci h (fun q8 h=>?_) fun q8 h=>?_
  ·obtain ⟨x9,e10,h⟩:=bindS h
   refine go ?_
   refine ci h (fun q11 h=>?_) fun q11 h=>?_
   ·cases h;refine go ?_
    exact fn
   cases h;refine go ?_
   exact fn
  cases h;refine go ?_
  exact fn
 cases b12 with
 | inl b14=>
  simp only at h
  rintro _ _ _ _ ⟨rfl,⟨S15,rfl,rfl,hc16⟩⟩
  cases h;refine go ?_
  exact fn
 | inr b14=>
  simp only at h
  rintro _ _ _ _ ⟨rfl,⟨S17,rfl,rfl,hc18⟩⟩
  cases h;refine go ?_
  exact fn
open Go.Am
theorem F104.fn:E.fn 104 = some (fi 9 Tryz.f104 []):=rfl
theorem F104_ok {F:Nat} {m:Mem} {n:Nat} {r:Bool} {t0:List Int} {t1:Int} {vt0:SV} (h:F104 F t0 t1 = some r) (kt0:Vw Y3 n m vt0 t0):Ret E n 104 [.sc vt0,.sc (.int .i64 t1)] m n (fun v m' n'=>v = .sc (.bool r)):=by
 unfold F104 at h
 refine Ret.walk F104.fn ?_
 refine WC.start fun S0 em en hz=>?_
 have hot0:=kt0.rdS em hz
 obtain ⟨r1,e2,h⟩:=bindS h
 refine go ?_
 refine WO.callE rfl rfl (F144_ok e2 vw) (fun S3 c4=>?_)
 cases h;refine go ?_
 exact fn
open Go.Am
theorem F46.fn:E.fn 46 = some (fi 17 Tryz.f46 []):=rfl
theorem F46_ok {F:Nat} {m:Mem} {n:Nat} {r:Int} {t0:List Int} {vt0:SV} (h:F46 F t0 = some r) (kt0:Vw Y3 n m vt0 t0):Ret E n 46 [.sc vt0] m n (fun v m' n'=>v = .sc (.int .i64 r)):=by
 unfold F46 at h
 refine Ret.walk F46.fn ?_
 refine WC.start fun S0 em en hz=>?_
 have hot0:=kt0.rdS em hz
 refine go ?_
 refine ci h (fun q1 h=>?_) fun q1 h=>?_
 ·cases h;refine go ?_
  exact fn
 obtain ⟨b15,e16,h⟩:=bindS h
 refine go ?_
 refine WC.loopD e16 (fun s2 l' m' n'=>∃ S3:Cx n,S3.m = m'∧S3.n = n'∧Cov l' [(0,.sc vt0),(8,.sc (.int .i64 ((t0.length:Int)))),(9,.sc (.int .i64 s2))]∧Rd Y3 S3 vt0 t0) (fun b e l' m' n'=>(match b with | .inl b4=>e = .exit 0∧∃ S5:Cx n,S5.m = m'∧S5.n = n'∧Cov l' [] | .inr b4=>e = .ret∧∃ S6:Cx n,S6.m = m'∧S6.n = n'∧Cov l' [(2,.sc (.int .i64 b4))])) fn ?_ ?_
 ·rintro s2 q _ _ _ ⟨S7,rfl,rfl,hc8,hot0⟩ h
  unfold F46_l0 at h
  refine go ?_
  refine ci h (fun q9 h=>?_) fun q9 h=>?_
  ·obtain ⟨r10,e11,h⟩:=bindS h
   refine go ?_
   refine WO.callE rfl rfl (F104_ok e11 vw) (fun S12 c13=>?_)
   refine go ?_
   refine ci h (fun q14 h=>?_) fun q14 h=>?_
   ·cases h;refine go ?_
    exact fn
   cases h;refine go ?_
   exact fn
  cases h;refine go ?_
  exact fn
 cases b15 with
 | inl b17=>
  simp only at h
  rintro _ _ _ _ ⟨rfl,⟨S18,rfl,rfl,hc19⟩⟩
  cases h;refine go ?_
  exact fn
 | inr b17=>
  simp only at h
  rintro _ _ _ _ ⟨rfl,⟨S20,rfl,rfl,hc21⟩⟩
  cases h;refine go ?_
  exact fn
open Go.Am
theorem F47.fn:E.fn 47 = some (fi 26 Tryz.f47 []):=rfl
theorem F47_ok {F:Nat} {m:Mem} {n:Nat} {r:(List UInt8)} {t0:Int} {t1:List Int} {vt1:SV} (h:F47 F t0 t1 = some r) (kt1:Vw Y3 n m vt1 t1):Ret E n 47 [.sc (.int .i64 t0),.sc vt1] m n (fun v m' n'=>v = .sc (.str r)):=by
 unfold F47 at h
 refine Ret.walk F47.fn ?_
 refine WC.start fun S0 em en hz=>?_
 have hot1:=kt1.rdS em hz
 refine go ?_
 refine ci h (fun q1 h=>?_) fun q1 h=>?_
 ·obtain ⟨r2,e3,h⟩:=bindS h
  refine go ?_
  refine WO.callE rfl rfl (F22_ok e3) (fun S4 c5=>?_)
  cases h;refine go ?_
  exact fn
 obtain ⟨b22,e23,h⟩:=bindS h
 refine go ?_
 refine WC.loopD e23 (fun s6 l' m' n'=>∃ S7:Cx n,S7.m = m'∧S7.n = n'∧Cov l' [(5,.sc (.str s6.1)),(12,.sc vt1),(13,.sc (.int .i64 ((t1.length:Int)))),(14,.sc (.int .i64 s6.2))]∧Rd Y3 S7 vt1 t1) (fun b e l' m' n'=>e = .exit 0∧∃ S8:Cx n,S8.m = m'∧S8.n = n'∧Cov l' [(5,.sc (.str b))]) fn ?_ ?_
 ·rintro s6 q _ _ _ ⟨S9,rfl,rfl,hc10,hot1⟩ h
  unfold F47_l0 at h
  refine go ?_
  refine ci h (fun q11 h=>?_) fun q11 h=>?_
  ·obtain ⟨x12,e13,h⟩:=bindS h
   obtain ⟨r14,e15,h⟩:=bindS h
   refine go ?_
   refine WO.callE rfl rfl (F14_ok e15) (fun S16 c17=>?_)
   obtain ⟨x18,e19,h⟩:=bindS h
   obtain ⟨x20,e21,h⟩:=bindS h
   cases h;refine go ?_
   exact fn
  cases h;refine go ?_
  exact fn
 rintro _ _ _ _ ⟨rfl,⟨S24,rfl,rfl,hc25⟩⟩
 obtain ⟨x26,e27,h⟩:=bindS h
 cases h;refine go ?_
 exact fn
open Go.Am
theorem F49.fn:E.fn 49 = some (fi 10 Tryz.f49 []):=rfl
theorem F49_ok {F:Nat}:∀ {m:Mem} {n:Nat} {r:Int} {t0:Int} (h:F49 F t0 = some r) ,Ret E n 49 [.sc (.int .i64 t0)] m n (fun v m' n'=>v = .sc (.int .i64 r)):=by
 induction F with
 | zero=>intro m n r t0 h;cases h
 | succ F ih=>
  intro m n r t0 h
  rw [F49] at h
  try dsimp only at h
  refine Ret.walk F49.fn ?_
  refine WC.start fun S0 em en hz=>?_
  refine go ?_
  refine ci h (fun q1 h=>?_) fun q1 h=>?_
  ·cases h;refine go ?_
   exact fn
  obtain ⟨r2,e3,h⟩:=bindS h
  refine go ?_
  refine WO.callE rfl rfl (ih e3) (fun S4 c5=>?_)
  cases h;refine go ?_
  exact fn
open Go.Am
theorem F48.fn:E.fn 48 = some (fi 38 Tryz.f48 [11]):=rfl
theorem F48_ok {F:Nat}:∀ {m:Mem} {n:Nat} {r:Int} {t0:List Int} {vt0:SV} (h:F48 F t0 = some r) (kt0:Vw Y3 n m vt0 t0),Ret E n 48 [.sc vt0] m n (fun v m' n'=>v = .sc (.int .i64 r)):=by
 induction F with
 | zero=>intro m n r t0 vt0 h;cases h
 | succ F ih=>
  intro m n r t0 vt0 h kt0
  rw [F48] at h
  try dsimp only at h
  refine Ret.walk F48.fn ?_
  refine WC.start fun S0 em en hz=>?_
  have hot0:=kt0.rdS em hz
  refine go ?_
  refine ci h (fun q1 h=>?_) fun q1 h=>?_
  ·cases h;refine go ?_
   exact fn
  obtain ⟨L2,e3,h⟩:=bindS h
  refine go ?_
  refine WO.slc (k':=.i64) rfl (.inl ⟨_,rfl,rfl⟩) (.inr ⟨rfl,rfl⟩) (trR (S:=S0)) e3 rfl (fun v4 ho5=>?_)
  have ho5:Rd Y3 S0 v4 L2:=ho5
  obtain ⟨b41,e42,h⟩:=bindS h
  refine go ?_
  refine WC.loopD e42 (fun s6 l' m' n'=>∃ S8:Cx n,∃ v9:SV,S8.m = m'∧S8.n = n'∧Cov l' [(0,.sc vt0),(3,.sc v9),(10,.sc v4),(11,.sc (.int .i64 ((L2.length:Int)))),(12,.sc (.int .i64 s6.2))]∧Rd Y3 S8 vt0 t0∧Rd Y3 S8 v4 L2∧Ow Y3 S8 2 v9 s6.1) (fun b e l' m' n'=>e = .exit 0∧∃ S10:Cx n,∃ v11:SV,S10.m = m'∧S10.n = n'∧Cov l' [(0,.sc vt0),(3,.sc v11)]∧Rd Y3 S10 vt0 t0∧Ow Y3 S10 2 v11 b) fn ?_ ?_
  ·rintro s6 q _ _ _ ⟨S12,v13,rfl,rfl,hc14,hot0,ho5,ho3⟩ h
   unfold F48_l0 at h
   refine go ?_
   refine ci h (fun q15 h=>?_) fun q15 h=>?_
   ·obtain ⟨x16,e17,h⟩:=bindS h
    obtain ⟨x18,e19,h⟩:=bindS h
    refine go ?_
    refine ci h (fun q20 h=>?_) fun q20 h=>?_
    ·refine go ?_
     refine WO.bsS (A:=Y3) (M:=[(wrapA .i64 (x16 - 1))]) (cs:=[.int .i64 ((wrapA .i64 (x16 - 1)))]) 3 rfl rfl rfl ⟨[.int .i64 ((wrapA .i64 (x16 - 1)))],_,rfl,rfl,rfl⟩ rfl (fun v21 S22 c23 ho24=>?_)
     obtain ⟨L25,e26,h⟩:=bindS h
     refine WO.appS rfl rfl tr ro e26 rfl rfl (fun v27 S28 c29 ho30=>?_)
     cases h;refine go ?_
     exact fn
    refine go ?_
    refine WO.bsS (A:=Y3) (M:=[x16]) (cs:=[.int .i64 x16]) 4 rfl rfl rfl ⟨[.int .i64 x16],_,rfl,rfl,rfl⟩ rfl (fun v31 S32 c33 ho34=>?_)
    obtain ⟨L35,e36,h⟩:=bindS h
    refine WO.appS rfl rfl tr ro e36 rfl rfl (fun v37 S38 c39 ho40=>?_)
    cases h;refine go ?_
    exact fn
   cases h;refine go ?_
   exact fn
  rintro _ _ _ _ ⟨rfl,⟨S43,v44,rfl,rfl,hc45,hot0,ho3⟩⟩
  obtain ⟨x46,e47,h⟩:=bindS h
  obtain ⟨r48,e49,h⟩:=bindS h
  refine go ?_
  refine WO.callE rfl rfl (F49_ok e49) (fun S50 c51=>?_)
  obtain ⟨r52,e53,h⟩:=bindS h
  refine go ?_
  refine WO.callE rfl rfl (ih e53 vw) (fun S54 c55=>?_)
  cases h;refine go ?_
  exact fn
open Go.Am
theorem F50.fn:E.fn 50 = some (fi 42 Tryz.f50 []):=rfl
theorem F50_ok {F:Nat}:∀ {m:Mem} {n:Nat} {r:(List Int)} {t0:Int} {t1:Int} (h:F50 F t0 t1 = some r) ,Ret E n 50 [.sc (.int .i64 t0),.sc (.int .i64 t1)] m n (fun v m' n'=>∃ w,v = .sc w∧Fr Y3 n m' n' w r):=by
 induction F with
 | zero=>intro m n r t0 t1 h;cases h
 | succ F ih=>
  intro m n r t0 t1 h
  rw [F50] at h
  try dsimp only at h
  refine Ret.walk F50.fn ?_
  refine WC.start fun S0 em en hz=>?_
  refine go ?_
  refine ci h (fun q1 h=>?_) fun q1 h=>?_
  ·cases h;refine go ?_
   exact fn
  obtain ⟨r2,e3,h⟩:=bindS h
  refine go ?_
  refine WO.callE rfl rfl (F49_ok e3) (fun S4 c5=>?_)
  obtain ⟨x6,e7,h⟩:=bindS h
  refine go ?_
  refine WO.bsS (A:=Y3) (M:=[x6]) (cs:=[.int .i64 x6]) 2 rfl rfl rfl ⟨[.int .i64 x6],_,rfl,rfl,rfl⟩ rfl (fun v8 S9 c10 ho11=>?_)
  obtain ⟨r12,e13,h⟩:=bindS h
  refine go ?_
  refine WO.callE rfl rfl (F49_ok e13) (fun S14 c15=>?_)
  obtain ⟨x16,e17,h⟩:=bindS h
  obtain ⟨r18,e19,h⟩:=bindS h
  refine go ?_
  refine WO.callF 3 rfl rfl (ih e19) Lay.flat_fl (fun v20 S22 c23 ho21=>?_)
  obtain ⟨b57,e58,h⟩:=bindS h
  refine go ?_
  refine WC.loopD e58 (fun s24 l' m' n'=>∃ S26:Cx n,∃ v27:SV,S26.m = m'∧S26.n = n'∧Cov l' [(5,.sc (.int .i64 x6)),(6,.sc v27),(25,.sc v20),(26,.sc (.int .i64 ((r18.length:Int)))),(27,.sc (.int .i64 s24.2))]∧Ow Y3 S26 3 v20 r18∧Ow Y3 S26 2 v27 s24.1) (fun b e l' m' n'=>e = .exit 0∧∃ S28:Cx n,∃ v29:SV,S28.m = m'∧S28.n = n'∧Cov l' [(6,.sc v29)]∧Ow Y3 S28 2 v29 b) fn ?_ ?_
  ·rintro s24 q _ _ _ ⟨S30,v31,rfl,rfl,hc32,ho21,ho6⟩ h
   unfold F50_l0 at h
   refine go ?_
   refine ci h (fun q33 h=>?_) fun q33 h=>?_
   ·obtain ⟨x34,e35,h⟩:=bindS h
    refine go ?_
    refine ci h (fun q36 h=>?_) fun q36 h=>?_
    ·refine go ?_
     refine WO.bsS (A:=Y3) (M:=[(wrapA .i64 (x34 + 1))]) (cs:=[.int .i64 ((wrapA .i64 (x34 + 1)))]) 4 rfl rfl rfl ⟨[.int .i64 ((wrapA .i64 (x34 + 1)))],_,rfl,rfl,rfl⟩ rfl (fun v37 S38 c39 ho40=>?_)
     obtain ⟨L41,e42,h⟩:=bindS h
     refine WO.appS rfl rfl tr ro e42 rfl rfl (fun v43 S44 c45 ho46=>?_)
     cases h;refine go ?_
     exact fn
    refine go ?_
    refine WO.bsS (A:=Y3) (M:=[x34]) (cs:=[.int .i64 x34]) 5 rfl rfl rfl ⟨[.int .i64 x34],_,rfl,rfl,rfl⟩ rfl (fun v47 S48 c49 ho50=>?_)
    obtain ⟨L51,e52,h⟩:=bindS h
    refine WO.appS rfl rfl tr ro e52 rfl rfl (fun v53 S54 c55 ho56=>?_)
    cases h;refine go ?_
    exact fn
   cases h;refine go ?_
   exact fn
  rintro _ _ _ _ ⟨rfl,⟨S59,v60,rfl,rfl,hc61,ho6⟩⟩
  cases h;refine go ?_
  exact fn
open Go.Am
theorem F51.fn:E.fn 51 = some (fi 38 Tryz.f51 []):=rfl
theorem F51_ok {F:Nat} {m:Mem} {n:Nat} {r:Int} {t0:List Int} {vt0:SV} (h:F51 F t0 = some r) (kt0:Vw Y3 n m vt0 t0):Ret E n 51 [.sc vt0] m n (fun v m' n'=>v = .sc (.int .i64 r)):=by
 unfold F51 at h
 refine Ret.walk F51.fn ?_
 refine WC.start fun S0 em en hz=>?_
 have hot0:=kt0.rdS em hz
 obtain ⟨b20,e21,h⟩:=bindS h
 refine go ?_
 refine WC.loopD e21 (fun s1 l' m' n'=>∃ S2:Cx n,S2.m = m'∧S2.n = n'∧Cov l' [(0,.sc vt0),(3,.sc (.int .i64 s1.1)),(6,.sc vt0),(7,.sc (.int .i64 ((t0.length:Int)))),(8,.sc (.int .i64 s1.2))]∧Rd Y3 S2 vt0 t0) (fun b e l' m' n'=>(match b with | .inl b3=>e = .exit 0∧∃ S4:Cx n,S4.m = m'∧S4.n = n'∧Cov l' [] | .inr b3=>e = .ret∧∃ S5:Cx n,S5.m = m'∧S5.n = n'∧Cov l' [(2,.sc (.int .i64 b3))])) fn ?_ ?_
 ·rintro s1 q _ _ _ ⟨S6,rfl,rfl,hc7,hot0⟩ h
  unfold F51_l0 at h
  refine go ?_
  refine ci h (fun q8 h=>?_) fun q8 h=>?_
  ·obtain ⟨x9,e10,h⟩:=bindS h
   refine go ?_
   refine WO.cutB (d:=19) 3 ((decide (x9 < 1)) || (decide (x9 > 40))) (fun q11=>?_) (fun q11=>?_) ?_
   ·refine go ?_;exact cu
   ·refine go ?_;exact cu
   refine go ?_
   refine ci h (fun q12 h=>?_) fun q12 h=>?_
   ·cases h;refine go ?_
    exact fn
   obtain ⟨y16,e17,h⟩:=bindS h
   refine go ?_
   refine WO.cutB (d:=31) 8 y16 (fun q15=>?_) (fun q15=>?_) ?_
   ·have h:=e17
    have h:=iteT q15 h
    obtain ⟨x13,e14,h⟩:=bindS h
    cases h;refine go ?_
    exact cu
   ·have h:=e17
    have h:=iteF q15 h
    cases h;refine go ?_
    exact cu
   refine go ?_
   refine ci h (fun q18 h=>?_) fun q18 h=>?_
   ·cases h;refine go ?_
    exact fn
   refine go ?_
   refine ci h (fun q19 h=>?_) fun q19 h=>?_
   ·cases h;refine go ?_
    exact fn
   cases h;refine go ?_
   exact fn
  cases h;refine go ?_
  exact fn
 cases b20 with
 | inl b22=>
  simp only at h
  rintro _ _ _ _ ⟨rfl,⟨S23,rfl,rfl,hc24⟩⟩
  cases h;refine go ?_
  exact fn
 | inr b22=>
  simp only at h
  rintro _ _ _ _ ⟨rfl,⟨S25,rfl,rfl,hc26⟩⟩
  cases h;refine go ?_
  exact fn
open Go.Am
theorem F52.fn:E.fn 52 = some (fi 29 Tryz.f52 []):=rfl
theorem F52_ok {F:Nat} {m:Mem} {n:Nat} {r:(List Int)} {t0:List Int} {vt0:SV} (h:F52 F t0 = some r) (kt0:Vw Y3 n m vt0 t0):Ret E n 52 [.sc vt0] m n (fun v m' n'=>∃ w,v = .sc w∧Fr Y3 n m' n' w r):=by
 unfold F52 at h
 refine Ret.walk F52.fn ?_
 refine WC.start fun S0 em en hz=>?_
 have hot0:=kt0.rdS em hz
 obtain ⟨b34,e35,h⟩:=bindS h
 refine go ?_
 refine WC.loopD e35 (fun s1 l' m' n'=>∃ S3:Cx n,∃ v4:SV,S3.m = m'∧S3.n = n'∧Cov l' [(0,.sc vt0),(3,.sc v4),(4,.sc (.int .i64 s1.2))]∧Rd Y3 S3 vt0 t0∧Ow Y3 S3 2 v4 s1.1) (fun b e l' m' n'=>e = .ret∧∃ S5:Cx n,∃ v6:SV,S5.m = m'∧S5.n = n'∧Cov l' [(2,.sc v6)]∧Ow Y3 S5 3 v6 b) fn ?_ ?_
 ·rintro s1 q _ _ _ ⟨S7,v8,rfl,rfl,hc9,hot0,ho3⟩ h
  unfold F52_l1 at h
  obtain ⟨b19,e20,h⟩:=bindS h
  refine go ?_
  refine WC.loopD e20 (fun s10 l' m' n'=>∃ S11:Cx n,S11.m = m'∧S11.n = n'∧Cov l' [(0,.sc vt0),(3,.sc v8),(4,.sc (.int .i64 s1.2)),(5,.sc (.int .i64 s10.1)),(10,.sc vt0),(11,.sc (.int .i64 ((t0.length:Int)))),(12,.sc (.int .i64 s10.2))]∧Rd Y3 S11 vt0 t0∧Ow Y3 S11 2 v8 s1.1) (fun b e l' m' n'=>e = .exit 2∧∃ S12:Cx n,S12.m = m'∧S12.n = n'∧Cov l' [(0,.sc vt0),(3,.sc v8),(4,.sc (.int .i64 s1.2)),(5,.sc (.int .i64 b))]∧Rd Y3 S12 vt0 t0∧Ow Y3 S12 2 v8 s1.1) fn ?_ ?_
  ·rintro s10 q _ _ _ ⟨S13,rfl,rfl,hc14,hot0,ho3⟩ h
   unfold F52_l0 at h
   refine go ?_
   refine ci h (fun q15 h=>?_) fun q15 h=>?_
   ·obtain ⟨x16,e17,h⟩:=bindS h
    refine go ?_
    refine ci h (fun q18 h=>?_) fun q18 h=>?_
    ·cases h;refine go ?_
     exact fn
    cases h;refine go ?_
    exact fn
   cases h;refine go ?_
   exact fn
  rintro _ _ _ _ ⟨rfl,⟨S21,rfl,rfl,hc22,hot0,ho3⟩⟩
  refine go ?_
  refine ci h (fun q23 h=>?_) fun q23 h=>?_
  ·cases h;refine go ?_
   exact ⟨_,rfl,rfl,sx (S21.ren 2 3)⟩
  refine go ?_
  refine WO.bsS (A:=Y3) (M:=[b19]) (cs:=[.int .i64 b19]) 4 rfl rfl rfl ⟨[.int .i64 b19],_,rfl,rfl,rfl⟩ rfl (fun v24 S25 c26 ho27=>?_)
  obtain ⟨L28,e29,h⟩:=bindS h
  refine WO.appS rfl rfl tr ro e29 rfl rfl (fun v30 S31 c32 ho33=>?_)
  cases h;refine go ?_
  exact fn
 rintro _ _ _ _ ⟨rfl,⟨S36,v37,rfl,rfl,hc38,ho2⟩⟩
 cases h;refine go ?_
 exact fn
open Go.Am
theorem F53.fn:E.fn 53 = some (fi 36 Tryz.f53 []):=rfl
theorem F53_ok {F:Nat} {m:Mem} {n:Nat} {r:Int} {t0:List Int} {vt0:SV} (h:F53 F t0 = some r) (kt0:Vw Y3 n m vt0 t0):Ret E n 53 [.sc vt0] m n (fun v m' n'=>v = .sc (.int .i64 r)):=by
 unfold F53 at h
 refine Ret.walk F53.fn ?_
 refine WC.start fun S0 em en hz=>?_
 have hot0:=kt0.rdS em hz
 obtain ⟨b20,e21,h⟩:=bindS h
 refine go ?_
 refine WC.loopD e21 (fun s1 l' m' n'=>∃ S2:Cx n,S2.m = m'∧S2.n = n'∧Cov l' [(0,.sc vt0),(3,.sc (.int .i64 s1.1)),(6,.sc vt0),(7,.sc (.int .i64 ((t0.length:Int)))),(8,.sc (.int .i64 s1.2))]∧Rd Y3 S2 vt0 t0) (fun b e l' m' n'=>(match b with | .inl b3=>e = .exit 0∧∃ S4:Cx n,S4.m = m'∧S4.n = n'∧Cov l' [] | .inr b3=>e = .ret∧∃ S5:Cx n,S5.m = m'∧S5.n = n'∧Cov l' [(2,.sc (.int .i64 b3))])) fn ?_ ?_
 ·rintro s1 q _ _ _ ⟨S6,rfl,rfl,hc7,hot0⟩ h
  unfold F53_l0 at h
  refine go ?_
  refine ci h (fun q8 h=>?_) fun q8 h=>?_
  ·obtain ⟨x9,e10,h⟩:=bindS h
   refine go ?_
   refine WO.cutB (d:=18) 3 ((decide (x9 < 1)) || (decide (x9 > 12))) (fun q11=>?_) (fun q11=>?_) ?_
   ·refine go ?_;exact cu
   ·refine go ?_;exact cu
   refine go ?_
   refine ci h (fun q12 h=>?_) fun q12 h=>?_
   ·cases h;refine go ?_
    exact fn
   obtain ⟨y16,e17,h⟩:=bindS h
   refine go ?_
   refine WO.cutB (d:=29) 8 y16 (fun q15=>?_) (fun q15=>?_) ?_
   ·have h:=e17
    have h:=iteT q15 h
    obtain ⟨x13,e14,h⟩:=bindS h
    cases h;refine go ?_
    exact cu
   ·have h:=e17
    have h:=iteF q15 h
    cases h;refine go ?_
    exact cu
   refine go ?_
   refine ci h (fun q18 h=>?_) fun q18 h=>?_
   ·cases h;refine go ?_
    exact fn
   refine go ?_
   refine ci h (fun q19 h=>?_) fun q19 h=>?_
   ·cases h;refine go ?_
    exact fn
   cases h;refine go ?_
   exact fn
  cases h;refine go ?_
  exact fn
 cases b20 with
 | inl b22=>
  simp only at h
  rintro _ _ _ _ ⟨rfl,⟨S23,rfl,rfl,hc24⟩⟩
  cases h;refine go ?_
  exact fn
 | inr b22=>
  simp only at h
  rintro _ _ _ _ ⟨rfl,⟨S25,rfl,rfl,hc26⟩⟩
  cases h;refine go ?_
  exact fn
open Go.Am
theorem F105.fn:E.fn 105 = some (fi 8 Tryz.f105 []):=rfl
theorem F105_ok {F:Nat} {m:Mem} {n:Nat} {r:(List Int)} {t0:(List Int)} {vt0:SV} (h:F105 F t0 = some r) (kt0:Vw Y3 n m vt0 t0):Ret E n 105 [.sc vt0] m n (fun v m' n'=>∃ w,v = .sc w∧Fr Y3 n m' n' w r):=by
 unfold F105 at h
 split at h
 ·rename_i hq
  obtain rfl:=someI h
  refine Ret.walk F105.fn ?_
  refine WC.start fun S0 em en hz=>?_
  have hR:=kt0.rdS em hz
  rcases kt0 with ⟨hv | hv,rfl⟩ | ⟨i,o,c,cs,hv,_⟩
  ·subst hv
   repeat (first | refine WC.seq ?_ | refine thenL_n ?_ | refine thenL_r ?_ | refine WC.region ?_ | refine WO.nil ?_ | refine WC.condT rfl ?_ | refine WC.condF rfl ?_ | refine WC.skip ?_ | refine WC.ret ?_ | refine WO.asg rfl ?_ | refine WO.mv rfl ?_)
   refine WO.do rfl rfl ?_
   repeat (first | refine WC.seq ?_ | refine thenL_n ?_ | refine thenL_r ?_ | refine WC.region ?_ | refine WO.nil ?_ | refine WC.condT rfl ?_ | refine WC.condF rfl ?_ | refine WC.skip ?_ | refine WC.ret ?_ | refine WO.asg rfl ?_ | refine WO.mv rfl ?_)
   exact ⟨.inr rfl,_,_,rfl,rfl,.nils,rfl,Fr.nil⟩
  all_goals
   subst hv
   repeat (first | refine WC.seq ?_ | refine thenL_n ?_ | refine thenL_r ?_ | refine WC.region ?_ | refine WO.nil ?_ | refine WC.condT rfl ?_ | refine WC.condF rfl ?_ | refine WC.skip ?_ | refine WC.ret ?_ | refine WO.asg rfl ?_ | refine WO.mv rfl ?_)
   refine WO.do rfl rfl ?_
   repeat (first | refine WC.seq ?_ | refine thenL_n ?_ | refine thenL_r ?_ | refine WC.region ?_ | refine WO.nil ?_ | refine WC.condT rfl ?_ | refine WC.condF rfl ?_ | refine WC.skip ?_ | refine WC.ret ?_ | refine WO.asg rfl ?_ | refine WO.mv rfl ?_)
   refine WO.bsS (A:=Y3) (S:=S0) (M:=[]) (cs:=[]) 2 rfl rfl rfl rfl rfl (fun v1 S1 c1 h1=>?_)
   have hR:=hR.to c1
   repeat (first | refine WC.seq ?_ | refine thenL_n ?_ | refine thenL_r ?_ | refine WC.region ?_ | refine WO.nil ?_ | refine WC.condT rfl ?_ | refine WC.condF rfl ?_ | refine WC.skip ?_ | refine WC.ret ?_ | refine WO.asg rfl ?_ | refine WO.mv rfl ?_)
   refine WO.appN rfl rfl h1 hR.ro hq (by decide) rfl rfl (fun v2 S2 c2 h2=>?_)
   repeat (first | refine WC.seq ?_ | refine thenL_n ?_ | refine thenL_r ?_ | refine WC.region ?_ | refine WO.nil ?_ | refine WC.condT rfl ?_ | refine WC.condF rfl ?_ | refine WC.skip ?_ | refine WC.ret ?_ | refine WO.asg rfl ?_ | refine WO.mv rfl ?_)
   exact ⟨.inr rfl,_,_,rfl,rfl,_,rfl,h2.fr Lay.flat_fl⟩
 ·cases h
open Go.Am
theorem F54.fn:E.fn 54 = some (fi 61 Tryz.f54 []):=rfl
theorem F54_ok {F:Nat}:∀ {m:Mem} {n:Nat} {r:Int} {t0:List Int} {vt0:SV} (h:F54 F t0 = some r) (kt0:Vw Y3 n m vt0 t0),Ret E n 54 [.sc vt0] m n (fun v m' n'=>v = .sc (.int .i64 r)):=by
 induction F with
 | zero=>intro m n r t0 vt0 h;cases h
 | succ F ih=>
  intro m n r t0 vt0 h kt0
  rw [F54] at h
  try dsimp only at h
  refine Ret.walk F54.fn ?_
  refine WC.start fun S0 em en hz=>?_
  have hot0:=kt0.rdS em hz
  obtain ⟨b9,e10,h⟩:=bindS h
  refine go ?_
  refine WC.loopD e10 (fun s1 l' m' n'=>∃ S2:Cx n,S2.m = m'∧S2.n = n'∧Cov l' [(0,.sc vt0),(3,.sc (.int .i64 s1.1)),(10,.sc vt0),(11,.sc (.int .i64 ((t0.length:Int)))),(12,.sc (.int .i64 s1.2))]∧Rd Y3 S2 vt0 t0) (fun b e l' m' n'=>e = .exit 0∧∃ S3:Cx n,S3.m = m'∧S3.n = n'∧Cov l' [(0,.sc vt0),(3,.sc (.int .i64 b))]∧Rd Y3 S3 vt0 t0) fn ?_ ?_
  ·rintro s1 q _ _ _ ⟨S4,rfl,rfl,hc5,hot0⟩ h
   unfold F54_l0 at h
   refine go ?_
   refine ci h (fun q6 h=>?_) fun q6 h=>?_
   ·obtain ⟨x7,e8,h⟩:=bindS h
    cases h;refine go ?_
    exact fn
   cases h;refine go ?_
   exact fn
  rintro _ _ _ _ ⟨rfl,⟨S11,rfl,rfl,hc12,hot0⟩⟩
  refine go ?_
  refine ci h (fun q13 h=>?_) fun q13 h=>?_
  ·cases h;refine go ?_
   exact fn
  obtain ⟨b47,e48,h⟩:=bindS h
  refine go ?_
  refine WC.loopD e48 (fun s14 l' m' n'=>∃ S15:Cx n,S15.m = m'∧S15.n = n'∧Cov l' [(0,.sc vt0),(6,.sc (.int .i64 s14.1)),(22,.sc vt0),(23,.sc (.int .i64 ((t0.length:Int)))),(24,.sc (.int .i64 s14.2))]∧Rd Y3 S15 vt0 t0) (fun b e l' m' n'=>e = .exit 2∧∃ S16:Cx n,S16.m = m'∧S16.n = n'∧Cov l' [(6,.sc (.int .i64 b))]) fn ?_ ?_
  ·rintro s14 q _ _ _ ⟨S17,rfl,rfl,hc18,hot0⟩ h
   unfold F54_l1 at h
   refine go ?_
   refine ci h (fun q19 h=>?_) fun q19 h=>?_
   ·obtain ⟨x20,e21,h⟩:=bindS h
    obtain ⟨y28,e29,h⟩:=bindS h
    refine go ?_
    refine WO.cutB (d:=46) 15 y28 (fun q27=>?_) (fun q27=>?_) ?_
    ·have h:=e29
     have h:=iteT q27 h
     obtain ⟨y25,e26,h⟩:=bindS h
     refine go ?_
     refine WO.cutB (d:=45) 8 y25 (fun q24=>?_) (fun q24=>?_) ?_
     ·have h:=e26
      have h:=iteT q24 h
      cases h;refine go ?_
      exact cu
     ·have h:=e26
      have h:=iteF q24 h
      obtain ⟨x22,e23,h⟩:=bindS h
      cases h;refine go ?_
      exact cu
     cases h;refine go ?_
     exact cu
    ·have h:=e29
     have h:=iteF q27 h
     cases h;refine go ?_
     exact cu
    refine go ?_
    refine ci h (fun q30 h=>?_) fun q30 h=>?_
    ·obtain ⟨r31,e32,h⟩:=bindS h
     refine go ?_
     refine WO.callF 2 rfl rfl (F105_ok e32 vw) Lay.flat_fl (fun v33 S35 c36 ho34=>?_)
     obtain ⟨x37,e38,h⟩:=bindS h
     obtain ⟨u39,e40,h⟩:=bindS h
     refine go ?_
     refine WO.st1 (u':=(wrapA .i64 (x37 - 1))) rfl rfl tr ntl (by rfl) (by rfl) (fun S41 c42 ho34=>?_)
     obtain ⟨r43,e44,h⟩:=bindS h
     refine go ?_
     refine WO.callE rfl rfl (ih e44 vw) (fun S45 c46=>?_)
     cases h;refine go ?_
     exact fn
    cases h;refine go ?_
    exact fn
   cases h;refine go ?_
   exact fn
  rintro _ _ _ _ ⟨rfl,⟨S49,rfl,rfl,hc50⟩⟩
  cases h;refine go ?_
  exact fn
open Go.Am
theorem F106.fn:E.fn 106 = some (fi 50 Tryz.f106 []):=rfl
theorem F106_ok {F:Nat} {m:Mem} {n:Nat} {r:Int} {t0:Int} {t1:Int} (h:F106 F t0 t1 = some r) :Ret E n 106 [.sc (.int .i64 t0),.sc (.int .i64 t1)] m n (fun v m' n'=>v = .sc (.int .i64 r)):=by
 unfold F106 at h
 refine Ret.walk F106.fn ?_
 refine WC.start fun S0 em en hz=>?_
 refine go ?_
 refine WO.cutB (d:=13) 4 ((decide (t1 < 0)) || (decide (t1 > t0))) (fun q1=>?_) (fun q1=>?_) ?_
 ·refine go ?_;exact cu
 ·refine go ?_;exact cu
 refine go ?_
 refine ci h (fun q2 h=>?_) fun q2 h=>?_
 ·cases h;refine go ?_
  exact fn
 refine go ?_
 refine WO.cutB (d:=20) 4 ((t1 == 0) || (t1 == t0)) (fun q3=>?_) (fun q3=>?_) ?_
 ·refine go ?_;exact cu
 ·refine go ?_;exact cu
 refine go ?_
 refine ci h (fun q4 h=>?_) fun q4 h=>?_
 ·cases h;refine go ?_
  exact fn
 obtain ⟨L5,e6,h⟩:=bindS h
 refine go ?_
 refine WO.mkS (A:=Y3) 2 rfl rfl e6 rfl rfl rfl (fun v7 S8 c9 ho10=>?_)
 obtain ⟨u11,e12,h⟩:=bindS h
 refine go ?_
 refine WO.st1 (u':=1) rfl rfl tr ntl (by rfl) (by rfl) (fun S13 c14 ho10=>?_)
 obtain ⟨b39,e40,h⟩:=bindS h
 refine go ?_
 refine WC.loopD e40 (fun s15 l' m' n'=>∃ S16:Cx n,S16.m = m'∧S16.n = n'∧Cov l' [(1,.sc (.int .i64 t1)),(5,.sc v7),(26,.sc (.int .i64 t0)),(27,.sc (.int .i64 s15.1))]∧Ow Y3 S16 2 v7 s15.2) (fun b e l' m' n'=>e = .exit 0∧∃ S17:Cx n,S17.m = m'∧S17.n = n'∧Cov l' [(1,.sc (.int .i64 t1)),(5,.sc v7)]∧Ow Y3 S17 2 v7 b) fn ?_ ?_
 ·rintro s15 q _ _ _ ⟨S18,rfl,rfl,hc19,ho10⟩ h
  unfold F106_l1 at h
  refine go ?_
  refine ci h (fun q20 h=>?_) fun q20 h=>?_
  ·obtain ⟨b35,e36,h⟩:=bindS h
   refine go ?_
   refine WC.loopD e36 (fun s21 l' m' n'=>∃ S22:Cx n,S22.m = m'∧S22.n = n'∧Cov l' [(1,.sc (.int .i64 t1)),(5,.sc v7),(6,.sc (.int .i64 s21.1)),(26,.sc (.int .i64 t0)),(27,.sc (.int .i64 s15.1))]∧Ow Y3 S22 2 v7 s21.2) (fun b e l' m' n'=>e = .exit 2∧∃ S23:Cx n,S23.m = m'∧S23.n = n'∧Cov l' [(1,.sc (.int .i64 t1)),(5,.sc v7),(26,.sc (.int .i64 t0)),(27,.sc (.int .i64 s15.1))]∧Ow Y3 S23 2 v7 b) fn ?_ ?_
   ·rintro s21 q _ _ _ ⟨S24,rfl,rfl,hc25,ho10⟩ h
    unfold F106_l0 at h
    refine go ?_
    refine ci h (fun q26 h=>?_) fun q26 h=>?_
    ·obtain ⟨x27,e28,h⟩:=bindS h
     obtain ⟨x29,e30,h⟩:=bindS h
     obtain ⟨u31,e32,h⟩:=bindS h
     refine go ?_
     refine WO.st1 (u':=(wrapA .i64 (x27 + x29))) rfl rfl tr ntl (by rfl) (by rfl) (fun S33 c34 ho10=>?_)
     cases h;refine go ?_
     exact fn
    cases h;refine go ?_
    exact fn
   rintro _ _ _ _ ⟨rfl,⟨S37,rfl,rfl,hc38,ho10⟩⟩
   cases h;refine go ?_
   exact fn
  cases h;refine go ?_
  exact fn
 rintro _ _ _ _ ⟨rfl,⟨S41,rfl,rfl,hc42,ho10⟩⟩
 obtain ⟨x43,e44,h⟩:=bindS h
 cases h;refine go ?_
 exact fn
open Go.Am
theorem F55.fn:E.fn 55 = some (fi 32 Tryz.f55 []):=rfl
theorem F55_ok {F:Nat} {m:Mem} {n:Nat} {r:Int} {t0:Int} {t1:Int} (h:F55 F t0 t1 = some r) :Ret E n 55 [.sc (.int .i64 t0),.sc (.int .i64 t1)] m n (fun v m' n'=>v = .sc (.int .i64 r)):=by
 unfold F55 at h
 refine Ret.walk F55.fn ?_
 refine WC.start fun S0 em en hz=>?_
 refine go ?_
 refine WO.cutB (d:=14) 6 ((decide (t0 < 0)) || ((Int.tmod (wrapA .i64 (t1 - t0)) 2) != 0)) (fun q1=>?_) (fun q1=>?_) ?_
 ·refine go ?_;exact cu
 ·refine go ?_;exact cu
 refine go ?_
 refine WO.cutB (d:=19) 4 (((decide (t0 < 0)) || ((Int.tmod (wrapA .i64 (t1 - t0)) 2) != 0)) || (decide (t0 > t1))) (fun q2=>?_) (fun q2=>?_) ?_
 ·refine go ?_;exact cu
 ·refine go ?_;exact cu
 refine go ?_
 refine ci h (fun q3 h=>?_) fun q3 h=>?_
 ·cases h;refine go ?_
  exact fn
 obtain ⟨r4,e5,h⟩:=bindS h
 refine go ?_
 refine WO.callE rfl rfl (F106_ok e5) (fun S6 c7=>?_)
 obtain ⟨r8,e9,h⟩:=bindS h
 refine go ?_
 refine WO.callE rfl rfl (F106_ok e9) (fun S10 c11=>?_)
 cases h;refine go ?_
 exact fn
open Go.Am
theorem F145.fn:E.fn 145 = some (fi 21 Tryz.f145 []):=rfl
theorem F145_ok {F:Nat}:∀ {m:Mem} {n:Nat} {r:Int} {t0:Int} {t1:Int} (h:F145 F t0 t1 = some r) ,Ret E n 145 [.sc (.int .i64 t0),.sc (.int .i64 t1)] m n (fun v m' n'=>v = .sc (.int .i64 r)):=by
 induction F with
 | zero=>intro m n r t0 t1 h;cases h
 | succ F ih=>
  intro m n r t0 t1 h
  rw [F145] at h
  try dsimp only at h
  refine Ret.walk F145.fn ?_
  refine WC.start fun S0 em en hz=>?_
  refine go ?_
  refine ci h (fun q1 h=>?_) fun q1 h=>?_
  ·cases h;refine go ?_
   exact fn
  obtain ⟨x2,e3,h⟩:=bindS h
  obtain ⟨r4,e5,h⟩:=bindS h
  refine go ?_
  refine WO.callE rfl rfl (ih e5) (fun S6 c7=>?_)
  cases h;refine go ?_
  exact fn
open Go.Am
theorem F107.fn:E.fn 107 = some (fi 33 Tryz.f107 []):=rfl
theorem F107_ok {F:Nat} {m:Mem} {n:Nat} {r:(Int × Int) × Int} {t0:Int} {t1:Int} (h:F107 F t0 t1 = some r) :Ret E n 107 [.sc (.int .i64 t0),.sc (.int .i64 t1)] m n (fun v m' n'=>v = .tup [.agg [.int .i64 r.1.1,.int .i64 r.1.2],.sc (.int .i64 r.2)]):=by
 unfold F107 at h
 refine Ret.walk F107.fn ?_
 refine WC.start fun S0 em en hz=>?_
 refine go ?_
 refine WO.alS (A:=Y99) (z0:=((0,0):Int × Int)) 2 rfl rfl rfl (fun v1 S2 c3 ho4=>?_)
 obtain ⟨r5,e6,h⟩:=bindS h
 refine go ?_
 refine WO.callE rfl rfl (F145_ok e6) (fun S7 c8=>?_)
 obtain ⟨b10,e11,h⟩:=bindS h
 refine go ?_
 refine WC.mono (Q':=(fun b e l' m' n'=>e = .normal∧∃ S12:Cx n,S12.m = m'∧S12.n = n'∧Cov l' [(0,.sc (.int .i64 t0)),(1,.sc (.int .i64 t1)),(4,.sc v1),(6,.sc (.int .i64 b))]∧Bk Y99 S12 2 v1 (((0,0):Int × Int))) b10) ?_ ?_
 ·have h:=e11
  dsimp only at h ⊢
  refine ci h (fun q9 h=>?_) fun q9 h=>?_
  ·cases h;refine go ?_
   exact fn
  cases h;refine go ?_
  exact fn
 dsimp only
 rintro _ _ _ _ ⟨rfl,⟨S13,rfl,rfl,hc14,ho4⟩⟩
 obtain ⟨x15,e16,h⟩:=bindS h
 obtain ⟨x17,e18,h⟩:=bindS h
 refine go ?_
 refine WO.cutB (d:=28) 6 ((decide (x17 > 1000000000)) || (decide ((maxI x15 (wrapA .i64 (0 - x15))) > 1000000000))) (fun q19=>?_) (fun q19=>?_) ?_
 ·refine go ?_;exact cu
 ·refine go ?_;exact cu
 refine go ?_
 refine ci h (fun q20 h=>?_) fun q20 h=>?_
 ·refine go ?_
  refine WO.stBA (u':=((0,0):Int × Int)) rfl pa rfl tr rfl rfl (fun S21 c22 ho4=>?_)
  cases h;refine go ?_
  exact fn
 refine go ?_
 refine WO.stBA (u':=(x15,x17)) rfl pa rfl tr rfl rfl (fun S23 c24 ho4=>?_)
 cases h;refine go ?_
 exact fn
open Go.Am
theorem F56.fn:E.fn 56 = some (fi 25 Tryz.f56 []):=rfl
theorem F56_ok {F:Nat} {m:Mem} {n:Nat} {r:(Int × Int) × Int} {t0:Int × Int} {t1:Int × Int} (h:F56 F t0 t1 = some r) :Ret E n 56 [.agg [.int .i64 t0.1,.int .i64 t0.2],.agg [.int .i64 t1.1,.int .i64 t1.2]] m n (fun v m' n'=>v = .tup [.agg [.int .i64 r.1.1,.int .i64 r.1.2],.sc (.int .i64 r.2)]):=by
 unfold F56 at h
 refine Ret.walk F56.fn ?_
 refine WC.start fun S0 em en hz=>?_
 refine go ?_
 refine WO.bxS (A:=Y99) (u:=(t0.1,t0.2)) 2 rfl rfl rfl rfl (fun v1 S2 c3 ho4=>?_)
 refine WO.bxS (A:=Y99) (u:=(t1.1,t1.2)) 3 rfl rfl rfl rfl (fun v5 S6 c7 ho8=>?_)
 refine WO.alS (A:=Y99) (z0:=((0,0):Int × Int)) 4 rfl rfl rfl (fun v9 S10 c11 ho12=>?_)
 obtain ⟨r13,e14,h⟩:=bindS h
 refine go ?_
 refine WO.callE rfl rfl (F107_ok e14) (fun S15 c16=>?_)
 refine go ?_
 refine WO.stBA (u':=(r13.1.1,r13.1.2)) rfl pa rfl tr rfl rfl (fun S17 c18 ho12=>?_)
 cases h;refine go ?_
 exact fn
open Go.Am
theorem F57.fn:E.fn 57 = some (fi 14 Tryz.f57 []):=rfl
theorem F57_ok {F:Nat} {m:Mem} {n:Nat} {r:(Int × Int)} {t0:Int} {t1:Int} (h:F57 F t0 t1 = some r) :Ret E n 57 [.sc (.int .i64 t0),.sc (.int .i64 t1)] m n (fun v m' n'=>v = .agg [.int .i64 r.1,.int .i64 r.2]):=by
 unfold F57 at h
 refine Ret.walk F57.fn ?_
 refine WC.start fun S0 em en hz=>?_
 refine go ?_
 refine WO.alS (A:=Y99) (z0:=((0,0):Int × Int)) 2 rfl rfl rfl (fun v1 S2 c3 ho4=>?_)
 obtain ⟨r5,e6,h⟩:=bindS h
 refine go ?_
 refine WO.callE rfl rfl (F107_ok e6) (fun S7 c8=>?_)
 refine go ?_
 refine WO.alS (A:=Y99) (z0:=((0,0):Int × Int)) 3 rfl rfl rfl (fun v9 S10 c11 ho12=>?_)
 refine WO.stBA (u':=(r5.1.1,r5.1.2)) rfl pa rfl tr rfl rfl (fun S13 c14 ho12=>?_)
 refine go ?_
 refine WO.stBA (u':=(((r5.1.1,r5.1.2)).1,((r5.1.1,r5.1.2)).2)) rfl pa rfl tr rfl rfl (fun S15 c16 ho4=>?_)
 cases h;refine go ?_
 exact fn
open Go.Am
theorem F24.fn:E.fn 24 = some (fi 192 Tryz.f24 [7,21,33]):=rfl
theorem F24_ok {F:Nat} {m:Mem} {n:Nat} {r:(List UInt8) × Bool × (List Int)} {t0:List UInt8} {t1:List Int} {vt1:SV} {fl:Nat} {bw:Nat} (h:F24 F t0 t1 = some r) (hfl:fl≤n) (kt1:Iv Y3 fl n bw m vt1 t1):Ret E fl 24 [.sc (.str t0),.sc vt1] m n (fun v m' n'=>v = .tup [.sc (.str r.1),.sc (.bool r.2.1)]∧Ip Y3 n bw m m' vt1 r.2.2):=by
 unfold F24 at h
 refine Ret.walk F24.fn ?_
 refine WC.startI (b:=bw) hfl fun S0 em en hz hbw=>?_
 have hot1:=kt1.iw em en hz hbw
 refine go ?_
 refine ci h (fun q1 h=>?_) fun q1 h=>?_
 ·obtain ⟨r2,e3,h⟩:=bindS h
  refine go ?_
  refine WO.callE rfl rfl (F46_ok e3 vw) (fun S4 c5=>?_)
  refine go ?_
  refine ci h (fun q6 h=>?_) fun q6 h=>?_
  ·obtain ⟨r7,e8,h⟩:=bindS h
   refine go ?_
   refine WO.callE rfl rfl (F22_ok e8) (fun S9 c10=>?_)
   cases h;refine go ?_
   exact fn
  obtain ⟨r11,e12,h⟩:=bindS h
  refine go ?_
  refine WO.callE rfl rfl (F48_ok e12 vw) (fun S13 c14=>?_)
  refine WO.bsS (A:=Y3) (M:=[r11]) (cs:=[.int .i64 r11]) 3 rfl rfl rfl ⟨[.int .i64 r11],_,rfl,rfl,rfl⟩ rfl (fun v15 S16 c17 ho18=>?_)
  obtain ⟨r19,e20,h⟩:=bindS h
  refine WO.callE rfl rfl (F47_ok e20 vw) (fun S21 c22=>?_)
  cases h;refine go ?_
  exact fn
 refine go ?_
 refine WO.cutB (d:=34) 4 ((t0 == [111,114,100,101,114]) && ((t1.length:Int) == 2)) (fun q23=>?_) (fun q23=>?_) ?_
 ·refine go ?_;exact cu
 ·refine go ?_;exact cu
 refine go ?_
 refine ci h (fun q24 h=>?_) fun q24 h=>?_
 ·obtain ⟨x25,e26,h⟩:=bindS h
  obtain ⟨y36,e37,h⟩:=bindS h
  refine go ?_
  refine WO.cutS (d:=48) (S:=S0) 9 y36 (fun q35=>?_) (fun q35=>?_) (fun S38 c39=>?_)
  ·have h:=e37
   have h:=iteT q35 h
   cases h;refine go ?_
   exact ⟨S0,rfl,rfl,Ch.refl _ _,(Cov.cons rfl (Cov.skip rfl (Cov.skip rfl (Cov.skip rfl (Cov.skip rfl (Cov.skip rfl (Cov.skip rfl (Cov.skip rfl (Cov.skip rfl (Cov.skip rfl (Cov.skip rfl (Cov.refl _))))))))))))⟩
  ·have h:=e37
   have h:=iteF q35 h
   obtain ⟨x27,e28,h⟩:=bindS h
   have h:=bindE e26 h
   obtain ⟨r31,e32,h⟩:=bindS h
   refine go ?_
   refine WO.callE rfl rfl (F49_ok e32) (fun S33 c34=>?_)
   cases h;refine go ?_
   exact cu
  refine go ?_
  refine ci h (fun q40 h=>?_) fun q40 h=>?_
  ·obtain ⟨r41,e42,h⟩:=bindS h
   refine go ?_
   refine WO.callE rfl rfl (F22_ok e42) (fun S43 c44=>?_)
   cases h;refine go ?_
   exact fn
  have h:=bindE e26 h
  obtain ⟨x47,e48,h⟩:=bindS h
  obtain ⟨r49,e50,h⟩:=bindS h
  refine go ?_
  refine WO.callF 4 rfl rfl (F50_ok e50) Lay.flat_fl (fun v51 S53 c54 ho52=>?_)
  obtain ⟨r55,e56,h⟩:=bindS h
  refine WO.callE rfl rfl (F47_ok e56 vw) (fun S57 c58=>?_)
  cases h;refine go ?_
  exact fn
 refine go ?_
 refine ci h (fun q59 h=>?_) fun q59 h=>?_
 ·obtain ⟨r60,e61,h⟩:=bindS h
  refine go ?_
  refine WO.callE rfl rfl (F51_ok e61 vw) (fun S62 c63=>?_)
  refine go ?_
  refine ci h (fun q64 h=>?_) fun q64 h=>?_
  ·obtain ⟨r65,e66,h⟩:=bindS h
   refine go ?_
   refine WO.callE rfl rfl (F22_ok e66) (fun S67 c68=>?_)
   cases h;refine go ?_
   exact fn
  obtain ⟨r69,e70,h⟩:=bindS h
  refine go ?_
  refine WO.callF 5 rfl rfl (F52_ok e70 vw) Lay.flat_fl (fun v71 S73 c74 ho72=>?_)
  obtain ⟨r75,e76,h⟩:=bindS h
  refine WO.callE rfl rfl (F47_ok e76 vw) (fun S77 c78=>?_)
  cases h;refine go ?_
  exact fn
 refine go ?_
 refine ci h (fun q79 h=>?_) fun q79 h=>?_
 ·obtain ⟨r80,e81,h⟩:=bindS h
  refine go ?_
  refine WO.callE rfl rfl (F53_ok e81 vw) (fun S82 c83=>?_)
  refine go ?_
  refine ci h (fun q84 h=>?_) fun q84 h=>?_
  ·obtain ⟨r85,e86,h⟩:=bindS h
   refine go ?_
   refine WO.callE rfl rfl (F22_ok e86) (fun S87 c88=>?_)
   cases h;refine go ?_
   exact fn
  obtain ⟨r89,e90,h⟩:=bindS h
  refine go ?_
  refine WO.callE rfl rfl (F54_ok e90 vw) (fun S91 c92=>?_)
  refine WO.bsS (A:=Y3) (M:=[r89]) (cs:=[.int .i64 r89]) 6 rfl rfl rfl ⟨[.int .i64 r89],_,rfl,rfl,rfl⟩ rfl (fun v93 S94 c95 ho96=>?_)
  obtain ⟨r97,e98,h⟩:=bindS h
  refine WO.callE rfl rfl (F47_ok e98 vw) (fun S99 c100=>?_)
  cases h;refine go ?_
  exact fn
 refine go ?_
 refine WO.cutB (d:=91) 4 ((t0 == [110,101,115,116]) && ((t1.length:Int) == 2)) (fun q101=>?_) (fun q101=>?_) ?_
 ·refine go ?_;exact cu
 ·refine go ?_;exact cu
 refine go ?_
 refine ci h (fun q102 h=>?_) fun q102 h=>?_
 ·obtain ⟨x103,e104,h⟩:=bindS h
  obtain ⟨y114,e115,h⟩:=bindS h
  refine go ?_
  refine WO.cutS (d:=106) (S:=S0) 10 y114 (fun q113=>?_) (fun q113=>?_) (fun S116 c117=>?_)
  ·have h:=e115
   have h:=iteT q113 h
   cases h;refine go ?_
   exact ⟨S0,rfl,rfl,Ch.refl _ _,(Cov.cons rfl (Cov.skip rfl (Cov.skip rfl (Cov.skip rfl (Cov.skip rfl (Cov.skip rfl (Cov.skip rfl (Cov.skip rfl (Cov.skip rfl (Cov.skip rfl (Cov.skip rfl (Cov.skip rfl (Cov.refl _)))))))))))))⟩
  ·have h:=e115
   have h:=iteF q113 h
   obtain ⟨x105,e106,h⟩:=bindS h
   have h:=bindE e104 h
   obtain ⟨r109,e110,h⟩:=bindS h
   refine go ?_
   refine WO.callE rfl rfl (F55_ok e110) (fun S111 c112=>?_)
   cases h;refine go ?_
   exact cu
  refine go ?_
  refine ci h (fun q118 h=>?_) fun q118 h=>?_
  ·obtain ⟨r119,e120,h⟩:=bindS h
   refine go ?_
   refine WO.callE rfl rfl (F22_ok e120) (fun S121 c122=>?_)
   cases h;refine go ?_
   exact fn
  obtain ⟨b150,e151,h⟩:=bindS h
  refine go ?_
  refine WC.loopD e151 (fun s123 l' m' n'=>∃ S124:Cx fl,S124.m = m'∧S124.n = n'∧Cov l' [(1,.sc vt1),(9,.sc (.str s123.1)),(10,.sc (.int .i64 s123.2.1))]∧Iw Y3 S124 2 n bw m vt1 s123.2.2) (fun b e l' m' n'=>e = .exit 1∧∃ S125:Cx fl,S125.m = m'∧S125.n = n'∧Cov l' [(1,.sc vt1),(9,.sc (.str b.1))]∧Iw Y3 S125 2 n bw m vt1 b.2) fn ?_ ?_
  ·rintro s123 q _ _ _ ⟨S126,rfl,rfl,hc127,hot1⟩ h
   unfold F24_l0 at h
   obtain ⟨x128,e129,h⟩:=bindS h
   refine go ?_
   refine ci h (fun q130 h=>?_) fun q130 h=>?_
   ·have h:=bindE e129 h
    obtain ⟨r133,e134,h⟩:=bindS h
    refine go ?_
    refine WO.callE rfl rfl (F55_ok e134) (fun S135 c136=>?_)
    obtain ⟨x137,e138,h⟩:=bindS h
    refine go ?_
    refine ci h (fun q139 h=>?_) fun q139 h=>?_
    ·obtain ⟨x140,e141,h⟩:=bindS h
     cases h;refine go ?_
     exact fn
    obtain ⟨x142,e143,h⟩:=bindS h
    have h:=bindE e138 h
    obtain ⟨u146,e147,h⟩:=bindS h
    refine go ?_
    refine WO.stI (u':=(wrapA .i64 (x137 - r133))) rfl rfl tr ntl (by rfl) (by rfl) (fun S148 c149 hot1=>?_)
    cases h;refine go ?_
    exact fn
   cases h;refine go ?_
   exact fn
  rintro _ _ _ _ ⟨rfl,⟨S152,rfl,rfl,hc153,hot1⟩⟩
  obtain ⟨x154,e155,h⟩:=bindS h
  cases h;refine go ?_
  exact fn
 refine go ?_
 refine WO.cutB (d:=155) 4 ((t0 == [115,117,109]) && ((t1.length:Int) == 4)) (fun q156=>?_) (fun q156=>?_) ?_
 ·refine go ?_;exact cu
 ·refine go ?_;exact cu
 refine go ?_
 refine ci h (fun q157 h=>?_) fun q157 h=>?_
 ·obtain ⟨x158,e159,h⟩:=bindS h
  obtain ⟨y163,e164,h⟩:=bindS h
  refine go ?_
  refine WO.cutB (d:=165) 5 y163 (fun q162=>?_) (fun q162=>?_) ?_
  ·have h:=e164
   have h:=iteT q162 h
   cases h;refine go ?_
   exact cu
  ·have h:=e164
   have h:=iteF q162 h
   obtain ⟨x160,e161,h⟩:=bindS h
   cases h;refine go ?_
   exact cu
  refine go ?_
  refine ci h (fun q165 h=>?_) fun q165 h=>?_
  ·obtain ⟨r166,e167,h⟩:=bindS h
   refine go ?_
   refine WO.callE rfl rfl (F22_ok e167) (fun S168 c169=>?_)
   cases h;refine go ?_
   exact fn
  obtain ⟨x170,e171,h⟩:=bindS h
  have h:=bindE e159 h
  obtain ⟨r174,e175,h⟩:=bindS h
  refine go ?_
  refine WO.callE rfl rfl (F57_ok e175) (fun S176 c177=>?_)
  obtain ⟨x178,e179,h⟩:=bindS h
  obtain ⟨x180,e181,h⟩:=bindS h
  obtain ⟨r182,e183,h⟩:=bindS h
  refine go ?_
  refine WO.callE rfl rfl (F57_ok e183) (fun S184 c185=>?_)
  obtain ⟨r186,e187,h⟩:=bindS h
  refine WO.callE rfl rfl (F56_ok e187) (fun S188 c189=>?_)
  refine go ?_
  refine WO.alS (A:=Y99) (z0:=((0,0):Int × Int)) 7 rfl rfl rfl (fun v190 S191 c192 ho193=>?_)
  refine WO.stBA (u':=(r186.1.1,r186.1.2)) rfl pa rfl tr rfl rfl (fun S194 c195 ho193=>?_)
  refine go ?_
  refine WO.bsS (A:=Y3) (M:=[((r186.1.1,r186.1.2)).1,((r186.1.1,r186.1.2)).2]) (cs:=[.int .i64 (((r186.1.1,r186.1.2)).1),.int .i64 (((r186.1.1,r186.1.2)).2)]) 8 rfl rfl rfl ⟨[.int .i64 (((r186.1.1,r186.1.2)).1)],_,rfl,rfl,⟨[.int .i64 (((r186.1.1,r186.1.2)).2)],_,rfl,rfl,rfl⟩⟩ rfl (fun v196 S197 c198 ho199=>?_)
  obtain ⟨r200,e201,h⟩:=bindS h
  refine WO.callE rfl rfl (F47_ok e201 vw) (fun S202 c203=>?_)
  cases h;refine go ?_
  exact fn
 cases h;refine go ?_
 exact fn
open Go.Am
theorem F58.fn:E.fn 58 = some (fi 8 Tryz.f58 []):=rfl
theorem F58_ok {F:Nat} {m:Mem} {n:Nat} {r:(List ((List UInt8) × Int × Int))} {t0:(List ((List UInt8) × Int × Int))} {vt0:SV} (h:F58 F t0 = some r) (kt0:Vw Y59 n m vt0 t0):Ret E n 58 [.sc vt0] m n (fun v m' n'=>∃ w,v = .sc w∧Fr Y59 n m' n' w r):=by
 unfold F58 at h
 split at h
 ·rename_i hq
  obtain rfl:=someI h
  refine Ret.walk F58.fn ?_
  refine WC.start fun S0 em en hz=>?_
  have hR:=kt0.rdS em hz
  rcases kt0 with ⟨hv | hv,rfl⟩ | ⟨i,o,c,cs,hv,_⟩
  ·subst hv
   repeat (first | refine WC.seq ?_ | refine thenL_n ?_ | refine thenL_r ?_ | refine WC.region ?_ | refine WO.nil ?_ | refine WC.condT rfl ?_ | refine WC.condF rfl ?_ | refine WC.skip ?_ | refine WC.ret ?_ | refine WO.asg rfl ?_ | refine WO.mv rfl ?_)
   refine WO.do rfl rfl ?_
   repeat (first | refine WC.seq ?_ | refine thenL_n ?_ | refine thenL_r ?_ | refine WC.region ?_ | refine WO.nil ?_ | refine WC.condT rfl ?_ | refine WC.condF rfl ?_ | refine WC.skip ?_ | refine WC.ret ?_ | refine WO.asg rfl ?_ | refine WO.mv rfl ?_)
   exact ⟨.inr rfl,_,_,rfl,rfl,.nils,rfl,Fr.nil⟩
  all_goals
   subst hv
   repeat (first | refine WC.seq ?_ | refine thenL_n ?_ | refine thenL_r ?_ | refine WC.region ?_ | refine WO.nil ?_ | refine WC.condT rfl ?_ | refine WC.condF rfl ?_ | refine WC.skip ?_ | refine WC.ret ?_ | refine WO.asg rfl ?_ | refine WO.mv rfl ?_)
   refine WO.do rfl rfl ?_
   repeat (first | refine WC.seq ?_ | refine thenL_n ?_ | refine thenL_r ?_ | refine WC.region ?_ | refine WO.nil ?_ | refine WC.condT rfl ?_ | refine WC.condF rfl ?_ | refine WC.skip ?_ | refine WC.ret ?_ | refine WO.asg rfl ?_ | refine WO.mv rfl ?_)
   refine WO.bsS (A:=Y59) (S:=S0) (M:=[]) (cs:=[]) 2 rfl rfl rfl rfl rfl (fun v1 S1 c1 h1=>?_)
   have hR:=hR.to c1
   repeat (first | refine WC.seq ?_ | refine thenL_n ?_ | refine thenL_r ?_ | refine WC.region ?_ | refine WO.nil ?_ | refine WC.condT rfl ?_ | refine WC.condF rfl ?_ | refine WC.skip ?_ | refine WC.ret ?_ | refine WO.asg rfl ?_ | refine WO.mv rfl ?_)
   refine WO.appN rfl rfl h1 hR.ro hq (by decide) rfl rfl (fun v2 S2 c2 h2=>?_)
   repeat (first | refine WC.seq ?_ | refine thenL_n ?_ | refine thenL_r ?_ | refine WC.region ?_ | refine WO.nil ?_ | refine WC.condT rfl ?_ | refine WC.condF rfl ?_ | refine WC.skip ?_ | refine WC.ret ?_ | refine WO.asg rfl ?_ | refine WO.mv rfl ?_)
   exact ⟨.inr rfl,_,_,rfl,rfl,_,rfl,h2.fr Lay.flat_fl⟩
 ·cases h
open Go.Am
theorem F59.fn:E.fn 59 = some (fi 8 Tryz.f59 []):=rfl
theorem F59_ok {F:Nat} {m:Mem} {n:Nat} {r:(List ((List UInt8) × (List UInt8) × Int))} {t0:(List ((List UInt8) × (List UInt8) × Int))} {vt0:SV} (h:F59 F t0 = some r) (kt0:Vw Y118 n m vt0 t0):Ret E n 59 [.sc vt0] m n (fun v m' n'=>∃ w,v = .sc w∧Fr Y118 n m' n' w r):=by
 unfold F59 at h
 split at h
 ·rename_i hq
  obtain rfl:=someI h
  refine Ret.walk F59.fn ?_
  refine WC.start fun S0 em en hz=>?_
  have hR:=kt0.rdS em hz
  rcases kt0 with ⟨hv | hv,rfl⟩ | ⟨i,o,c,cs,hv,_⟩
  ·subst hv
   repeat (first | refine WC.seq ?_ | refine thenL_n ?_ | refine thenL_r ?_ | refine WC.region ?_ | refine WO.nil ?_ | refine WC.condT rfl ?_ | refine WC.condF rfl ?_ | refine WC.skip ?_ | refine WC.ret ?_ | refine WO.asg rfl ?_ | refine WO.mv rfl ?_)
   refine WO.do rfl rfl ?_
   repeat (first | refine WC.seq ?_ | refine thenL_n ?_ | refine thenL_r ?_ | refine WC.region ?_ | refine WO.nil ?_ | refine WC.condT rfl ?_ | refine WC.condF rfl ?_ | refine WC.skip ?_ | refine WC.ret ?_ | refine WO.asg rfl ?_ | refine WO.mv rfl ?_)
   exact ⟨.inr rfl,_,_,rfl,rfl,.nils,rfl,Fr.nil⟩
  all_goals
   subst hv
   repeat (first | refine WC.seq ?_ | refine thenL_n ?_ | refine thenL_r ?_ | refine WC.region ?_ | refine WO.nil ?_ | refine WC.condT rfl ?_ | refine WC.condF rfl ?_ | refine WC.skip ?_ | refine WC.ret ?_ | refine WO.asg rfl ?_ | refine WO.mv rfl ?_)
   refine WO.do rfl rfl ?_
   repeat (first | refine WC.seq ?_ | refine thenL_n ?_ | refine thenL_r ?_ | refine WC.region ?_ | refine WO.nil ?_ | refine WC.condT rfl ?_ | refine WC.condF rfl ?_ | refine WC.skip ?_ | refine WC.ret ?_ | refine WO.asg rfl ?_ | refine WO.mv rfl ?_)
   refine WO.bsS (A:=Y118) (S:=S0) (M:=[]) (cs:=[]) 2 rfl rfl rfl rfl rfl (fun v1 S1 c1 h1=>?_)
   have hR:=hR.to c1
   repeat (first | refine WC.seq ?_ | refine thenL_n ?_ | refine thenL_r ?_ | refine WC.region ?_ | refine WO.nil ?_ | refine WC.condT rfl ?_ | refine WC.condF rfl ?_ | refine WC.skip ?_ | refine WC.ret ?_ | refine WO.asg rfl ?_ | refine WO.mv rfl ?_)
   refine WO.appN rfl rfl h1 hR.ro hq (by decide) rfl rfl (fun v2 S2 c2 h2=>?_)
   repeat (first | refine WC.seq ?_ | refine thenL_n ?_ | refine thenL_r ?_ | refine WC.region ?_ | refine WO.nil ?_ | refine WC.condT rfl ?_ | refine WC.condF rfl ?_ | refine WC.skip ?_ | refine WC.ret ?_ | refine WO.asg rfl ?_ | refine WO.mv rfl ?_)
   exact ⟨.inr rfl,_,_,rfl,rfl,_,rfl,h2.fr Lay.flat_fl⟩
 ·cases h
end Go.Proofs.YtaphdnpjpmnaeadGreatDoor
