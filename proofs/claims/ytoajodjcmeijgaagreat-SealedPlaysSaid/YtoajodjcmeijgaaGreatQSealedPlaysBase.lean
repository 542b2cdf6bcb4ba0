import Derived.Test.YtoajodjcmeijgaaGreatProg
import Derived.Test.YtoajodjcmeijgaaGreatQSealedPlaysShort
set_option linter.unusedVariables false
set_option linter.unusedSimpArgs false
namespace Go.Proofs.YtoajodjcmeijgaaGreat
open Go.RowKit Go.Ecal
theorem elB : Elem Tryz.prog 22 5 (.int .u8 0) 1 := ⟨Tryz.underlying22, by kernel_rfl, rfl⟩
theorem nm4 : (Tryz.f4.name == "runtime.NumGoroutine") = false := by kernel_rfl
theorem nm5 : (Tryz.f5.name == "runtime.NumGoroutine") = false := by kernel_rfl
theorem nm6 : (Tryz.f6.name == "runtime.NumGoroutine") = false := by kernel_rfl
theorem nm7 : (Tryz.f7.name == "runtime.NumGoroutine") = false := by kernel_rfl
theorem nm8 : (Tryz.f8.name == "runtime.NumGoroutine") = false := by kernel_rfl
theorem nm9 : (Tryz.f9.name == "runtime.NumGoroutine") = false := by kernel_rfl
theorem nm10 : (Tryz.f10.name == "runtime.NumGoroutine") = false := by kernel_rfl
theorem nm11 : (Tryz.f11.name == "runtime.NumGoroutine") = false := by kernel_rfl
theorem nm12 : (Tryz.f12.name == "runtime.NumGoroutine") = false := by kernel_rfl
theorem nm13 : (Tryz.f13.name == "runtime.NumGoroutine") = false := by kernel_rfl
theorem nm14 : (Tryz.f14.name == "runtime.NumGoroutine") = false := by kernel_rfl
theorem nm15 : (Tryz.f15.name == "runtime.NumGoroutine") = false := by kernel_rfl
theorem nm16 : (Tryz.f16.name == "runtime.NumGoroutine") = false := by kernel_rfl
theorem nm17 : (Tryz.f17.name == "runtime.NumGoroutine") = false := by kernel_rfl
theorem nm18 : (Tryz.f18.name == "runtime.NumGoroutine") = false := by kernel_rfl
theorem nm19 : (Tryz.f19.name == "runtime.NumGoroutine") = false := by kernel_rfl
theorem nm20 : (Tryz.f20.name == "runtime.NumGoroutine") = false := by kernel_rfl
theorem nm21 : (Tryz.f21.name == "runtime.NumGoroutine") = false := by kernel_rfl
theorem nm22 : (Tryz.f22.name == "runtime.NumGoroutine") = false := by kernel_rfl
theorem nm23 : (Tryz.f23.name == "runtime.NumGoroutine") = false := by kernel_rfl
theorem nm25 : (Tryz.f25.name == "runtime.NumGoroutine") = false := by kernel_rfl
theorem nm26 : (Tryz.f26.name == "runtime.NumGoroutine") = false := by kernel_rfl
theorem nm27 : (Tryz.f27.name == "runtime.NumGoroutine") = false := by kernel_rfl
theorem nm28 : (Tryz.f28.name == "runtime.NumGoroutine") = false := by kernel_rfl
theorem nm29 : (Tryz.f29.name == "runtime.NumGoroutine") = false := by kernel_rfl
theorem nm30 : (Tryz.f30.name == "runtime.NumGoroutine") = false := by kernel_rfl
theorem nm31 : (Tryz.f31.name == "runtime.NumGoroutine") = false := by kernel_rfl
theorem nm32 : (Tryz.f32.name == "runtime.NumGoroutine") = false := by kernel_rfl
theorem nm33 : (Tryz.f33.name == "runtime.NumGoroutine") = false := by kernel_rfl
theorem nm34 : (Tryz.f34.name == "runtime.NumGoroutine") = false := by kernel_rfl
theorem nm35 : (Tryz.f35.name == "runtime.NumGoroutine") = false := by kernel_rfl
theorem nm36 : (Tryz.f36.name == "runtime.NumGoroutine") = false := by kernel_rfl
theorem nm37 : (Tryz.f37.name == "runtime.NumGoroutine") = false := by kernel_rfl
theorem nm38 : (Tryz.f38.name == "runtime.NumGoroutine") = false := by kernel_rfl
theorem nm39 : (Tryz.f39.name == "runtime.NumGoroutine") = false := by kernel_rfl
theorem nm40 : (Tryz.f40.name == "runtime.NumGoroutine") = false := by kernel_rfl
theorem nm41 : (Tryz.f41.name == "runtime.NumGoroutine") = false := by kernel_rfl
theorem nm42 : (Tryz.f42.name == "runtime.NumGoroutine") = false := by kernel_rfl
theorem nm43 : (Tryz.f43.name == "runtime.NumGoroutine") = false := by kernel_rfl
theorem nm44 : (Tryz.f44.name == "runtime.NumGoroutine") = false := by kernel_rfl
theorem nm45 : (Tryz.f45.name == "runtime.NumGoroutine") = false := by kernel_rfl
theorem nm46 : (Tryz.f46.name == "runtime.NumGoroutine") = false := by kernel_rfl
theorem nm47 : (Tryz.f47.name == "runtime.NumGoroutine") = false := by kernel_rfl
theorem nm48 : (Tryz.f48.name == "runtime.NumGoroutine") = false := by kernel_rfl
theorem nm49 : (Tryz.f49.name == "runtime.NumGoroutine") = false := by kernel_rfl
theorem nm50 : (Tryz.f50.name == "runtime.NumGoroutine") = false := by kernel_rfl
theorem nm51 : (Tryz.f51.name == "runtime.NumGoroutine") = false := by kernel_rfl
theorem nm52 : (Tryz.f52.name == "runtime.NumGoroutine") = false := by kernel_rfl
theorem nm53 : (Tryz.f53.name == "runtime.NumGoroutine") = false := by kernel_rfl
theorem nm54 : (Tryz.f54.name == "runtime.NumGoroutine") = false := by kernel_rfl
theorem nm55 : (Tryz.f55.name == "runtime.NumGoroutine") = false := by kernel_rfl
theorem nm56 : (Tryz.f56.name == "runtime.NumGoroutine") = false := by kernel_rfl
theorem nm57 : (Tryz.f57.name == "runtime.NumGoroutine") = false := by kernel_rfl
theorem nm59 : (Tryz.f59.name == "runtime.NumGoroutine") = false := by kernel_rfl
theorem nm60 : (Tryz.f60.name == "runtime.NumGoroutine") = false := by kernel_rfl
theorem nm61 : (Tryz.f61.name == "runtime.NumGoroutine") = false := by kernel_rfl
theorem nm62 : (Tryz.f62.name == "runtime.NumGoroutine") = false := by kernel_rfl
theorem nm63 : (Tryz.f63.name == "runtime.NumGoroutine") = false := by kernel_rfl
theorem nm64 : (Tryz.f64.name == "runtime.NumGoroutine") = false := by kernel_rfl
theorem nm70 : (Tryz.f70.name == "runtime.NumGoroutine") = false := by kernel_rfl
theorem nm71 : (Tryz.f71.name == "runtime.NumGoroutine") = false := by kernel_rfl
theorem nm72 : (Tryz.f72.name == "runtime.NumGoroutine") = false := by kernel_rfl
theorem nm73 : (Tryz.f73.name == "runtime.NumGoroutine") = false := by kernel_rfl
theorem nm74 : (Tryz.f74.name == "runtime.NumGoroutine") = false := by kernel_rfl
theorem nm75 : (Tryz.f75.name == "runtime.NumGoroutine") = false := by kernel_rfl
theorem nm76 : (Tryz.f76.name == "runtime.NumGoroutine") = false := by kernel_rfl
theorem nm77 : (Tryz.f77.name == "runtime.NumGoroutine") = false := by kernel_rfl
theorem nm78 : (Tryz.f78.name == "runtime.NumGoroutine") = false := by kernel_rfl
theorem nm79 : (Tryz.f79.name == "runtime.NumGoroutine") = false := by kernel_rfl
theorem nm81 : (Tryz.f81.name == "runtime.NumGoroutine") = false := by kernel_rfl
theorem nm82 : (Tryz.f82.name == "runtime.NumGoroutine") = false := by kernel_rfl
theorem nm83 : (Tryz.f83.name == "runtime.NumGoroutine") = false := by kernel_rfl
theorem nm84 : (Tryz.f84.name == "runtime.NumGoroutine") = false := by kernel_rfl
theorem nm85 : (Tryz.f85.name == "runtime.NumGoroutine") = false := by kernel_rfl
theorem nm86 : (Tryz.f86.name == "runtime.NumGoroutine") = false := by kernel_rfl
theorem nm87 : (Tryz.f87.name == "runtime.NumGoroutine") = false := by kernel_rfl
theorem nm88 : (Tryz.f88.name == "runtime.NumGoroutine") = false := by kernel_rfl
theorem nm92 : (Tryz.f92.name == "runtime.NumGoroutine") = false := by kernel_rfl
theorem nm93 : (Tryz.f93.name == "runtime.NumGoroutine") = false := by kernel_rfl
theorem nm94 : (Tryz.f94.name == "runtime.NumGoroutine") = false := by kernel_rfl
theorem nm95 : (Tryz.f95.name == "runtime.NumGoroutine") = false := by kernel_rfl
theorem nm96 : (Tryz.f96.name == "runtime.NumGoroutine") = false := by kernel_rfl
theorem nm97 : (Tryz.f97.name == "runtime.NumGoroutine") = false := by kernel_rfl
theorem nm98 : (Tryz.f98.name == "runtime.NumGoroutine") = false := by kernel_rfl
theorem nm99 : (Tryz.f99.name == "runtime.NumGoroutine") = false := by kernel_rfl
theorem nm100 : (Tryz.f100.name == "runtime.NumGoroutine") = false := by kernel_rfl
theorem nm101 : (Tryz.f101.name == "runtime.NumGoroutine") = false := by kernel_rfl
theorem el_106 : Elem Tryz.prog 106 22 (.slice none 0 0) 24 := ⟨Tryz.underlying106, by kernel_rfl, rfl⟩
theorem el_112 : Elem Tryz.prog 112 20 (.nilIface) 16 := ⟨Tryz.underlying112, by kernel_rfl, rfl⟩
theorem st_30 : StructT Tryz.prog 30 #[(0, 1)] #[.slice none 0 0] := ⟨_, Tryz.underlying30, fun _ => by kernel_rfl, by kernel_rfl⟩
theorem st_35 : StructT Tryz.prog 35 #[(0, 1), (1, 1), (2, 1), (3, 1), (4, 1)] #[.int .i64 0, .int .i64 0, .int .i64 0, .int .i64 0, .slice none 0 0] := ⟨_, Tryz.underlying35, fun _ => by kernel_rfl, by kernel_rfl⟩
theorem st_38 : StructT Tryz.prog 38 #[(0, 1), (1, 1), (2, 1), (3, 1), (4, 1), (5, 1), (6, 1), (7, 1), (8, 1)] #[.int .i64 0, .int .i64 0, .int .i64 0, .slice none 0 0, .slice none 0 0, .int .i64 0, .int .i64 0, .int .i64 0, .slice none 0 0] := ⟨_, Tryz.underlying38, fun _ => by kernel_rfl, by kernel_rfl⟩
theorem st_46 : StructT Tryz.prog 46 #[(0, 1), (1, 1), (2, 1), (3, 1), (4, 1)] #[.int .i64 0, .int .i64 0, .int .i64 0, .int .i64 0, .slice none 0 0] := ⟨_, Tryz.underlying46, fun _ => by kernel_rfl, by kernel_rfl⟩
theorem st_51 : StructT Tryz.prog 51 #[(0, 1), (1, 1), (2, 1), (3, 1), (4, 1), (5, 1), (6, 1), (7, 1), (8, 1)] #[.int .i64 0, .int .i64 0, .int .i64 0, .slice none 0 0, .slice none 0 0, .int .i64 0, .int .i64 0, .int .i64 0, .slice none 0 0] := ⟨_, Tryz.underlying51, fun _ => by kernel_rfl, by kernel_rfl⟩
theorem st_70 : StructT Tryz.prog 70 #[(0, 1), (1, 1), (2, 1), (3, 1), (4, 1)] #[.bool false, .slice none 0 0, .int .i64 0, .slice none 0 0, .map none] := ⟨_, Tryz.underlying70, fun _ => by kernel_rfl, by kernel_rfl⟩
theorem st_76 : StructT Tryz.prog 76 #[(0, 1), (1, 1), (2, 1), (3, 1), (4, 1)] #[.int .u8 0, .string .empty, .string .empty, .string .empty, .string .empty] := ⟨_, Tryz.underlying76, fun _ => by kernel_rfl, by kernel_rfl⟩
theorem st_78 : StructT Tryz.prog 78 #[(0, 1), (1, 1), (2, 1), (3, 1), (4, 1)] #[.int .i64 0, .slice none 0 0, .slice none 0 0, .slice none 0 0, .slice none 0 0] := ⟨_, Tryz.underlying78, fun _ => by kernel_rfl, by kernel_rfl⟩
theorem st_80 : StructT Tryz.prog 80 #[(0, 1), (1, 1)] #[.int .i64 0, .slice none 0 0] := ⟨_, Tryz.underlying80, fun _ => by kernel_rfl, by kernel_rfl⟩
theorem st_91 : StructT Tryz.prog 91 #[(0, 1), (1, 1)] #[.int .i64 0, .slice none 0 0] := ⟨_, Tryz.underlying91, fun _ => by kernel_rfl, by kernel_rfl⟩
theorem st_100 : StructT Tryz.prog 100 #[(0, 1), (1, 1), (2, 1)] #[.slice none 0 0, .int .i64 0, .bool false] := ⟨_, Tryz.underlying100, fun _ => by kernel_rfl, by kernel_rfl⟩
theorem st_122 : StructT Tryz.prog 122 #[(0, 1), (1, 1)] #[.slice none 0 0, .bool false] := ⟨_, Tryz.underlying122, fun _ => by kernel_rfl, by kernel_rfl⟩
abbrev U3 := @Tryz.underlying3
abbrev U4 := @Tryz.underlying4
abbrev U5 := @Tryz.underlying5
abbrev U9 := @Tryz.underlying9
abbrev U20 := @Tryz.underlying20
abbrev U22 := @Tryz.underlying22
abbrev U23 := @Tryz.underlying23
abbrev U28 := @Tryz.underlying28
abbrev U30 := @Tryz.underlying30
abbrev U31 := @Tryz.underlying31
abbrev U33 := @Tryz.underlying33
abbrev U35 := @Tryz.underlying35
abbrev U36 := @Tryz.underlying36
abbrev U38 := @Tryz.underlying38
abbrev U40 := @Tryz.underlying40
abbrev U46 := @Tryz.underlying46
abbrev U49 := @Tryz.underlying49
abbrev U51 := @Tryz.underlying51
abbrev U67 := @Tryz.underlying67
abbrev U68 := @Tryz.underlying68
abbrev U70 := @Tryz.underlying70
abbrev U76 := @Tryz.underlying76
abbrev U78 := @Tryz.underlying78
abbrev U80 := @Tryz.underlying80
abbrev U91 := @Tryz.underlying91
abbrev U92 := @Tryz.underlying92
abbrev U100 := @Tryz.underlying100
abbrev U106 := @Tryz.underlying106
abbrev U112 := @Tryz.underlying112
abbrev U118 := @Tryz.underlying118
abbrev U122 := @Tryz.underlying122
theorem F4 : IsF Tryz.prog 4 := ⟨_, Tryz.func4, rfl, nm4⟩
theorem F5 : IsF Tryz.prog 5 := ⟨_, Tryz.func5, rfl, nm5⟩
theorem F6 : IsF Tryz.prog 6 := ⟨_, Tryz.func6, rfl, nm6⟩
theorem F7 : IsF Tryz.prog 7 := ⟨_, Tryz.func7, rfl, nm7⟩
theorem F8 : IsF Tryz.prog 8 := ⟨_, Tryz.func8, rfl, nm8⟩
theorem F9 : IsF Tryz.prog 9 := ⟨_, Tryz.func9, rfl, nm9⟩
theorem F10 : IsF Tryz.prog 10 := ⟨_, Tryz.func10, rfl, nm10⟩
theorem F11 : IsF Tryz.prog 11 := ⟨_, Tryz.func11, rfl, nm11⟩
theorem F12 : IsF Tryz.prog 12 := ⟨_, Tryz.func12, rfl, nm12⟩
theorem F13 : IsF Tryz.prog 13 := ⟨_, Tryz.func13, rfl, nm13⟩
theorem F14 : IsF Tryz.prog 14 := ⟨_, Tryz.func14, rfl, nm14⟩
theorem F15 : IsF Tryz.prog 15 := ⟨_, Tryz.func15, rfl, nm15⟩
theorem F16 : IsF Tryz.prog 16 := ⟨_, Tryz.func16, rfl, nm16⟩
theorem F17 : IsF Tryz.prog 17 := ⟨_, Tryz.func17, rfl, nm17⟩
theorem F18 : IsF Tryz.prog 18 := ⟨_, Tryz.func18, rfl, nm18⟩
theorem F19 : IsF Tryz.prog 19 := ⟨_, Tryz.func19, rfl, nm19⟩
theorem F20 : IsF Tryz.prog 20 := ⟨_, Tryz.func20, rfl, nm20⟩
theorem F21 : IsF Tryz.prog 21 := ⟨_, Tryz.func21, rfl, nm21⟩
theorem F23 : IsF Tryz.prog 23 := ⟨_, Tryz.func23, rfl, nm23⟩
theorem F25 : IsF Tryz.prog 25 := ⟨_, Tryz.func25, rfl, nm25⟩
theorem F26 : IsF Tryz.prog 26 := ⟨_, Tryz.func26, rfl, nm26⟩
theorem F27 : IsF Tryz.prog 27 := ⟨_, Tryz.func27, rfl, nm27⟩
theorem F28 : IsF Tryz.prog 28 := ⟨_, Tryz.func28, rfl, nm28⟩
theorem F29 : IsF Tryz.prog 29 := ⟨_, Tryz.func29, rfl, nm29⟩
theorem F30 : IsF Tryz.prog 30 := ⟨_, Tryz.func30, rfl, nm30⟩
theorem F31 : IsF Tryz.prog 31 := ⟨_, Tryz.func31, rfl, nm31⟩
theorem F32 : IsF Tryz.prog 32 := ⟨_, Tryz.func32, rfl, nm32⟩
theorem F33 : IsF Tryz.prog 33 := ⟨_, Tryz.func33, rfl, nm33⟩
theorem F34 : IsF Tryz.prog 34 := ⟨_, Tryz.func34, rfl, nm34⟩
theorem F35 : IsF Tryz.prog 35 := ⟨_, Tryz.func35, rfl, nm35⟩
theorem F36 : IsF Tryz.prog 36 := ⟨_, Tryz.func36, rfl, nm36⟩
theorem F37 : IsF Tryz.prog 37 := ⟨_, Tryz.func37, rfl, nm37⟩
theorem F38 : IsF Tryz.prog 38 := ⟨_, Tryz.func38, rfl, nm38⟩
theorem F39 : IsF Tryz.prog 39 := ⟨_, Tryz.func39, rfl, nm39⟩
theorem F40 : IsF Tryz.prog 40 := ⟨_, Tryz.func40, rfl, nm40⟩
theorem F41 : IsF Tryz.prog 41 := ⟨_, Tryz.func41, rfl, nm41⟩
theorem F42 : IsF Tryz.prog 42 := ⟨_, Tryz.func42, rfl, nm42⟩
theorem F43 : IsF Tryz.prog 43 := ⟨_, Tryz.func43, rfl, nm43⟩
theorem F44 : IsF Tryz.prog 44 := ⟨_, Tryz.func44, rfl, nm44⟩
theorem F45 : IsF Tryz.prog 45 := ⟨_, Tryz.func45, rfl, nm45⟩
theorem F46 : IsF Tryz.prog 46 := ⟨_, Tryz.func46, rfl, nm46⟩
theorem F47 : IsF Tryz.prog 47 := ⟨_, Tryz.func47, rfl, nm47⟩
theorem F48 : IsF Tryz.prog 48 := ⟨_, Tryz.func48, rfl, nm48⟩
theorem F49 : IsF Tryz.prog 49 := ⟨_, Tryz.func49, rfl, nm49⟩
theorem F50 : IsF Tryz.prog 50 := ⟨_, Tryz.func50, rfl, nm50⟩
theorem F51 : IsF Tryz.prog 51 := ⟨_, Tryz.func51, rfl, nm51⟩
theorem F52 : IsF Tryz.prog 52 := ⟨_, Tryz.func52, rfl, nm52⟩
theorem F53 : IsF Tryz.prog 53 := ⟨_, Tryz.func53, rfl, nm53⟩
theorem F54 : IsF Tryz.prog 54 := ⟨_, Tryz.func54, rfl, nm54⟩
theorem F55 : IsF Tryz.prog 55 := ⟨_, Tryz.func55, rfl, nm55⟩
theorem F56 : IsF Tryz.prog 56 := ⟨_, Tryz.func56, rfl, nm56⟩
theorem F57 : IsF Tryz.prog 57 := ⟨_, Tryz.func57, rfl, nm57⟩
theorem F59 : IsF Tryz.prog 59 := ⟨_, Tryz.func59, rfl, nm59⟩
theorem F60 : IsF Tryz.prog 60 := ⟨_, Tryz.func60, rfl, nm60⟩
theorem F61 : IsF Tryz.prog 61 := ⟨_, Tryz.func61, rfl, nm61⟩
theorem F62 : IsF Tryz.prog 62 := ⟨_, Tryz.func62, rfl, nm62⟩
theorem F63 : IsF Tryz.prog 63 := ⟨_, Tryz.func63, rfl, nm63⟩
theorem F70 : IsF Tryz.prog 70 := ⟨_, Tryz.func70, rfl, nm70⟩
theorem F71 : IsF Tryz.prog 71 := ⟨_, Tryz.func71, rfl, nm71⟩
theorem F72 : IsF Tryz.prog 72 := ⟨_, Tryz.func72, rfl, nm72⟩
theorem F73 : IsF Tryz.prog 73 := ⟨_, Tryz.func73, rfl, nm73⟩
theorem F74 : IsF Tryz.prog 74 := ⟨_, Tryz.func74, rfl, nm74⟩
theorem F75 : IsF Tryz.prog 75 := ⟨_, Tryz.func75, rfl, nm75⟩
theorem F76 : IsF Tryz.prog 76 := ⟨_, Tryz.func76, rfl, nm76⟩
theorem F77 : IsF Tryz.prog 77 := ⟨_, Tryz.func77, rfl, nm77⟩
theorem F78 : IsF Tryz.prog 78 := ⟨_, Tryz.func78, rfl, nm78⟩
theorem F79 : IsF Tryz.prog 79 := ⟨_, Tryz.func79, rfl, nm79⟩
theorem F81 : IsF Tryz.prog 81 := ⟨_, Tryz.func81, rfl, nm81⟩
theorem F82 : IsF Tryz.prog 82 := ⟨_, Tryz.func82, rfl, nm82⟩
theorem F84 : IsF Tryz.prog 84 := ⟨_, Tryz.func84, rfl, nm84⟩
theorem F85 : IsF Tryz.prog 85 := ⟨_, Tryz.func85, rfl, nm85⟩
theorem F86 : IsF Tryz.prog 86 := ⟨_, Tryz.func86, rfl, nm86⟩
theorem F87 : IsF Tryz.prog 87 := ⟨_, Tryz.func87, rfl, nm87⟩
theorem F88 : IsF Tryz.prog 88 := ⟨_, Tryz.func88, rfl, nm88⟩
theorem F92 : IsF Tryz.prog 92 := ⟨_, Tryz.func92, rfl, nm92⟩
theorem F93 : IsF Tryz.prog 93 := ⟨_, Tryz.func93, rfl, nm93⟩
theorem F94 : IsF Tryz.prog 94 := ⟨_, Tryz.func94, rfl, nm94⟩
theorem F95 : IsF Tryz.prog 95 := ⟨_, Tryz.func95, rfl, nm95⟩
theorem F96 : IsF Tryz.prog 96 := ⟨_, Tryz.func96, rfl, nm96⟩
theorem F97 : IsF Tryz.prog 97 := ⟨_, Tryz.func97, rfl, nm97⟩
theorem F98 : IsF Tryz.prog 98 := ⟨_, Tryz.func98, rfl, nm98⟩
theorem F99 : IsF Tryz.prog 99 := ⟨_, Tryz.func99, rfl, nm99⟩
theorem F100 : IsF Tryz.prog 100 := ⟨_, Tryz.func100, rfl, nm100⟩
theorem F101 : IsF Tryz.prog 101 := ⟨_, Tryz.func101, rfl, nm101⟩
end Go.Proofs.YtoajodjcmeijgaaGreat
