import Derived.Test.YthddplghlljdbaaGreatProg
import Derived.Test.YthddplghlljdbaaGreatQWorldPostGo
set_option linter.unusedVariables false
set_option linter.unusedSimpArgs false
set_option maxRecDepth 100000
set_option maxHeartbeats 4000000
namespace Go.Proofs.YthddplghlljdbaaGreat
open Go.RowKit Go.Ecal
theorem elB:Elem Tryz.prog 33 5 (.int .u8 0) 1:=⟨Tryz.underlying33,by kernel_rfl,rfl⟩
theorem el_i64:Elem Tryz.prog 161 3 (.int .i64 0) 8:=⟨Tryz.underlying161,by kernel_rfl,rfl⟩
theorem nm7:(Tryz.f7.name == "runtime.NumGoroutine")=false:=by kernel_rfl
theorem nm8:(Tryz.f8.name == "runtime.NumGoroutine")=false:=by kernel_rfl
theorem nm9:(Tryz.f9.name == "runtime.NumGoroutine")=false:=by kernel_rfl
theorem nm10:(Tryz.f10.name == "runtime.NumGoroutine")=false:=by kernel_rfl
theorem nm11:(Tryz.f11.name == "runtime.NumGoroutine")=false:=by kernel_rfl
theorem nm12:(Tryz.f12.name == "runtime.NumGoroutine")=false:=by kernel_rfl
theorem nm13:(Tryz.f13.name == "runtime.NumGoroutine")=false:=by kernel_rfl
theorem nm14:(Tryz.f14.name == "runtime.NumGoroutine")=false:=by kernel_rfl
theorem nm17:(Tryz.f17.name == "runtime.NumGoroutine")=false:=by kernel_rfl
theorem nm18:(Tryz.f18.name == "runtime.NumGoroutine")=false:=by kernel_rfl
theorem nm19:(Tryz.f19.name == "runtime.NumGoroutine")=false:=by kernel_rfl
theorem nm20:(Tryz.f20.name == "runtime.NumGoroutine")=false:=by kernel_rfl
theorem nm21:(Tryz.f21.name == "runtime.NumGoroutine")=false:=by kernel_rfl
theorem nm22:(Tryz.f22.name == "runtime.NumGoroutine")=false:=by kernel_rfl
theorem nm23:(Tryz.f23.name == "runtime.NumGoroutine")=false:=by kernel_rfl
theorem nm25:(Tryz.f25.name == "runtime.NumGoroutine")=false:=by kernel_rfl
theorem nm26:(Tryz.f26.name == "runtime.NumGoroutine")=false:=by kernel_rfl
theorem nm27:(Tryz.f27.name == "runtime.NumGoroutine")=false:=by kernel_rfl
theorem nm28:(Tryz.f28.name == "runtime.NumGoroutine")=false:=by kernel_rfl
theorem nm29:(Tryz.f29.name == "runtime.NumGoroutine")=false:=by kernel_rfl
theorem nm30:(Tryz.f30.name == "runtime.NumGoroutine")=false:=by kernel_rfl
theorem nm31:(Tryz.f31.name == "runtime.NumGoroutine")=false:=by kernel_rfl
theorem nm32:(Tryz.f32.name == "runtime.NumGoroutine")=false:=by kernel_rfl
theorem nm33:(Tryz.f33.name == "runtime.NumGoroutine")=false:=by kernel_rfl
theorem nm34:(Tryz.f34.name == "runtime.NumGoroutine")=false:=by kernel_rfl
theorem nm35:(Tryz.f35.name == "runtime.NumGoroutine")=false:=by kernel_rfl
theorem nm37:(Tryz.f37.name == "runtime.NumGoroutine")=false:=by kernel_rfl
theorem nm38:(Tryz.f38.name == "runtime.NumGoroutine")=false:=by kernel_rfl
theorem nm39:(Tryz.f39.name == "runtime.NumGoroutine")=false:=by kernel_rfl
theorem nm40:(Tryz.f40.name == "runtime.NumGoroutine")=false:=by kernel_rfl
theorem nm41:(Tryz.f41.name == "runtime.NumGoroutine")=false:=by kernel_rfl
theorem nm42:(Tryz.f42.name == "runtime.NumGoroutine")=false:=by kernel_rfl
theorem nm43:(Tryz.f43.name == "runtime.NumGoroutine")=false:=by kernel_rfl
theorem nm44:(Tryz.f44.name == "runtime.NumGoroutine")=false:=by kernel_rfl
theorem nm45:(Tryz.f45.name == "runtime.NumGoroutine")=false:=by kernel_rfl
theorem nm46:(Tryz.f46.name == "runtime.NumGoroutine")=false:=by kernel_rfl
theorem nm47:(Tryz.f47.name == "runtime.NumGoroutine")=false:=by kernel_rfl
theorem nm48:(Tryz.f48.name == "runtime.NumGoroutine")=false:=by kernel_rfl
theorem nm49:(Tryz.f49.name == "runtime.NumGoroutine")=false:=by kernel_rfl
theorem nm50:(Tryz.f50.name == "runtime.NumGoroutine")=false:=by kernel_rfl
theorem nm51:(Tryz.f51.name == "runtime.NumGoroutine")=false:=by kernel_rfl
theorem nm52:(Tryz.f52.name == "runtime.NumGoroutine")=false:=by kernel_rfl
theorem nm53:(Tryz.f53.name == "runtime.NumGoroutine")=false:=by kernel_rfl
theorem nm54:(Tryz.f54.name == "runtime.NumGoroutine")=false:=by kernel_rfl
theorem nm55:(Tryz.f55.name == "runtime.NumGoroutine")=false:=by kernel_rfl
theorem nm56:(Tryz.f56.name == "runtime.NumGoroutine")=false:=by kernel_rfl
theorem nm57:(Tryz.f57.name == "runtime.NumGoroutine")=false:=by kernel_rfl
theorem nm58:(Tryz.f58.name == "runtime.NumGoroutine")=false:=by kernel_rfl
theorem nm59:(Tryz.f59.name == "runtime.NumGoroutine")=false:=by kernel_rfl
theorem nm60:(Tryz.f60.name == "runtime.NumGoroutine")=false:=by kernel_rfl
theorem nm61:(Tryz.f61.name == "runtime.NumGoroutine")=false:=by kernel_rfl
theorem nm62:(Tryz.f62.name == "runtime.NumGoroutine")=false:=by kernel_rfl
theorem nm63:(Tryz.f63.name == "runtime.NumGoroutine")=false:=by kernel_rfl
theorem nm64:(Tryz.f64.name == "runtime.NumGoroutine")=false:=by kernel_rfl
theorem nm65:(Tryz.f65.name == "runtime.NumGoroutine")=false:=by kernel_rfl
theorem nm66:(Tryz.f66.name == "runtime.NumGoroutine")=false:=by kernel_rfl
theorem nm67:(Tryz.f67.name == "runtime.NumGoroutine")=false:=by kernel_rfl
theorem nm68:(Tryz.f68.name == "runtime.NumGoroutine")=false:=by kernel_rfl
theorem nm69:(Tryz.f69.name == "runtime.NumGoroutine")=false:=by kernel_rfl
theorem nm70:(Tryz.f70.name == "runtime.NumGoroutine")=false:=by kernel_rfl
theorem nm71:(Tryz.f71.name == "runtime.NumGoroutine")=false:=by kernel_rfl
theorem nm72:(Tryz.f72.name == "runtime.NumGoroutine")=false:=by kernel_rfl
theorem nm73:(Tryz.f73.name == "runtime.NumGoroutine")=false:=by kernel_rfl
theorem nm74:(Tryz.f74.name == "runtime.NumGoroutine")=false:=by kernel_rfl
theorem nm75:(Tryz.f75.name == "runtime.NumGoroutine")=false:=by kernel_rfl
theorem nm76:(Tryz.f76.name == "runtime.NumGoroutine")=false:=by kernel_rfl
theorem nm77:(Tryz.f77.name == "runtime.NumGoroutine")=false:=by kernel_rfl
theorem nm78:(Tryz.f78.name == "runtime.NumGoroutine")=false:=by kernel_rfl
theorem nm79:(Tryz.f79.name == "runtime.NumGoroutine")=false:=by kernel_rfl
theorem nm80:(Tryz.f80.name == "runtime.NumGoroutine")=false:=by kernel_rfl
theorem nm81:(Tryz.f81.name == "runtime.NumGoroutine")=false:=by kernel_rfl
theorem nm82:(Tryz.f82.name == "runtime.NumGoroutine")=false:=by kernel_rfl
theorem nm83:(Tryz.f83.name == "runtime.NumGoroutine")=false:=by kernel_rfl
theorem nm85:(Tryz.f85.name == "runtime.NumGoroutine")=false:=by kernel_rfl
theorem nm86:(Tryz.f86.name == "runtime.NumGoroutine")=false:=by kernel_rfl
theorem nm87:(Tryz.f87.name == "runtime.NumGoroutine")=false:=by kernel_rfl
theorem nm88:(Tryz.f88.name == "runtime.NumGoroutine")=false:=by kernel_rfl
theorem nm89:(Tryz.f89.name == "runtime.NumGoroutine")=false:=by kernel_rfl
theorem nm90:(Tryz.f90.name == "runtime.NumGoroutine")=false:=by kernel_rfl
theorem nm91:(Tryz.f91.name == "runtime.NumGoroutine")=false:=by kernel_rfl
theorem nm92:(Tryz.f92.name == "runtime.NumGoroutine")=false:=by kernel_rfl
theorem nm93:(Tryz.f93.name == "runtime.NumGoroutine")=false:=by kernel_rfl
theorem nm94:(Tryz.f94.name == "runtime.NumGoroutine")=false:=by kernel_rfl
theorem nm95:(Tryz.f95.name == "runtime.NumGoroutine")=false:=by kernel_rfl
theorem nm96:(Tryz.f96.name == "runtime.NumGoroutine")=false:=by kernel_rfl
theorem nm97:(Tryz.f97.name == "runtime.NumGoroutine")=false:=by kernel_rfl
theorem nm98:(Tryz.f98.name == "runtime.NumGoroutine")=false:=by kernel_rfl
theorem nm99:(Tryz.f99.name == "runtime.NumGoroutine")=false:=by kernel_rfl
theorem nm100:(Tryz.f100.name == "runtime.NumGoroutine")=false:=by kernel_rfl
theorem nm101:(Tryz.f101.name == "runtime.NumGoroutine")=false:=by kernel_rfl
theorem nm102:(Tryz.f102.name == "runtime.NumGoroutine")=false:=by kernel_rfl
theorem nm104:(Tryz.f104.name == "runtime.NumGoroutine")=false:=by kernel_rfl
theorem nm105:(Tryz.f105.name == "runtime.NumGoroutine")=false:=by kernel_rfl
theorem nm106:(Tryz.f106.name == "runtime.NumGoroutine")=false:=by kernel_rfl
theorem nm107:(Tryz.f107.name == "runtime.NumGoroutine")=false:=by kernel_rfl
theorem nm108:(Tryz.f108.name == "runtime.NumGoroutine")=false:=by kernel_rfl
theorem nm109:(Tryz.f109.name == "runtime.NumGoroutine")=false:=by kernel_rfl
theorem nm110:(Tryz.f110.name == "runtime.NumGoroutine")=false:=by kernel_rfl
theorem nm111:(Tryz.f111.name == "runtime.NumGoroutine")=false:=by kernel_rfl
theorem nm112:(Tryz.f112.name == "runtime.NumGoroutine")=false:=by kernel_rfl
theorem nm113:(Tryz.f113.name == "runtime.NumGoroutine")=false:=by kernel_rfl
theorem nm114:(Tryz.f114.name == "runtime.NumGoroutine")=false:=by kernel_rfl
theorem nm115:(Tryz.f115.name == "runtime.NumGoroutine")=false:=by kernel_rfl
theorem nm116:(Tryz.f116.name == "runtime.NumGoroutine")=false:=by kernel_rfl
theorem nm118:(Tryz.f118.name == "runtime.NumGoroutine")=false:=by kernel_rfl
theorem nm119:(Tryz.f119.name == "runtime.NumGoroutine")=false:=by kernel_rfl
theorem nm120:(Tryz.f120.name == "runtime.NumGoroutine")=false:=by kernel_rfl
theorem nm121:(Tryz.f121.name == "runtime.NumGoroutine")=false:=by kernel_rfl
theorem nm122:(Tryz.f122.name == "runtime.NumGoroutine")=false:=by kernel_rfl
theorem nm123:(Tryz.f123.name == "runtime.NumGoroutine")=false:=by kernel_rfl
theorem nm124:(Tryz.f124.name == "runtime.NumGoroutine")=false:=by kernel_rfl
theorem nm125:(Tryz.f125.name == "runtime.NumGoroutine")=false:=by kernel_rfl
theorem nm126:(Tryz.f126.name == "runtime.NumGoroutine")=false:=by kernel_rfl
theorem nm127:(Tryz.f127.name == "runtime.NumGoroutine")=false:=by kernel_rfl
theorem nm128:(Tryz.f128.name == "runtime.NumGoroutine")=false:=by kernel_rfl
theorem nm129:(Tryz.f129.name == "runtime.NumGoroutine")=false:=by kernel_rfl
theorem nm130:(Tryz.f130.name == "runtime.NumGoroutine")=false:=by kernel_rfl
theorem nm131:(Tryz.f131.name == "runtime.NumGoroutine")=false:=by kernel_rfl
theorem nm132:(Tryz.f132.name == "runtime.NumGoroutine")=false:=by kernel_rfl
theorem nm133:(Tryz.f133.name == "runtime.NumGoroutine")=false:=by kernel_rfl
theorem nm134:(Tryz.f134.name == "runtime.NumGoroutine")=false:=by kernel_rfl
theorem nm135:(Tryz.f135.name == "runtime.NumGoroutine")=false:=by kernel_rfl
theorem nm136:(Tryz.f136.name == "runtime.NumGoroutine")=false:=by kernel_rfl
theorem nm137:(Tryz.f137.name == "runtime.NumGoroutine")=false:=by kernel_rfl
theorem nm138:(Tryz.f138.name == "runtime.NumGoroutine")=false:=by kernel_rfl
theorem nm139:(Tryz.f139.name == "runtime.NumGoroutine")=false:=by kernel_rfl
theorem nm140:(Tryz.f140.name == "runtime.NumGoroutine")=false:=by kernel_rfl
theorem nm145:(Tryz.f145.name == "runtime.NumGoroutine")=false:=by kernel_rfl
theorem nm147:(Tryz.f147.name == "runtime.NumGoroutine")=false:=by kernel_rfl
theorem nm148:(Tryz.f148.name == "runtime.NumGoroutine")=false:=by kernel_rfl
theorem nm149:(Tryz.f149.name == "runtime.NumGoroutine")=false:=by kernel_rfl
theorem nm150:(Tryz.f150.name == "runtime.NumGoroutine")=false:=by kernel_rfl
theorem nm151:(Tryz.f151.name == "runtime.NumGoroutine")=false:=by kernel_rfl
theorem nm152:(Tryz.f152.name == "runtime.NumGoroutine")=false:=by kernel_rfl
theorem nm153:(Tryz.f153.name == "runtime.NumGoroutine")=false:=by kernel_rfl
theorem nm154:(Tryz.f154.name == "runtime.NumGoroutine")=false:=by kernel_rfl
theorem nm156:(Tryz.f156.name == "runtime.NumGoroutine")=false:=by kernel_rfl
theorem nm157:(Tryz.f157.name == "runtime.NumGoroutine")=false:=by kernel_rfl
theorem nm158:(Tryz.f158.name == "runtime.NumGoroutine")=false:=by kernel_rfl
theorem nm159:(Tryz.f159.name == "runtime.NumGoroutine")=false:=by kernel_rfl
theorem nm160:(Tryz.f160.name == "runtime.NumGoroutine")=false:=by kernel_rfl
theorem nm161:(Tryz.f161.name == "runtime.NumGoroutine")=false:=by kernel_rfl
theorem nm162:(Tryz.f162.name == "runtime.NumGoroutine")=false:=by kernel_rfl
theorem nm163:(Tryz.f163.name == "runtime.NumGoroutine")=false:=by kernel_rfl
theorem nm164:(Tryz.f164.name == "runtime.NumGoroutine")=false:=by kernel_rfl
theorem nm168:(Tryz.f168.name == "runtime.NumGoroutine")=false:=by kernel_rfl
theorem nm169:(Tryz.f169.name == "runtime.NumGoroutine")=false:=by kernel_rfl
theorem nm170:(Tryz.f170.name == "runtime.NumGoroutine")=false:=by kernel_rfl
theorem nm171:(Tryz.f171.name == "runtime.NumGoroutine")=false:=by kernel_rfl
theorem nm172:(Tryz.f172.name == "runtime.NumGoroutine")=false:=by kernel_rfl
theorem nm173:(Tryz.f173.name == "runtime.NumGoroutine")=false:=by kernel_rfl
theorem el_52:Elem Tryz.prog 52 33 (.slice none 0 0) 24:=⟨Tryz.underlying52,by kernel_rfl,rfl⟩
theorem el_70:Elem Tryz.prog 70 77 (.pointer none) 8:=⟨Tryz.underlying70,by kernel_rfl,rfl⟩
theorem el_91:Elem Tryz.prog 91 48 (.complex .f64 0 0) 16:=⟨Tryz.underlying91,by kernel_rfl,rfl⟩
theorem el_122:Elem Tryz.prog 122 20 (.nilIface) 16:=⟨Tryz.underlying122,by kernel_rfl,rfl⟩
theorem st_27:StructT Tryz.prog 27 #[(0,1),(1,1)] #[.bool false,.slice none 0 0]:=⟨_,Tryz.underlying27,fun _=>by kernel_rfl,by kernel_rfl⟩
theorem st_36:StructT Tryz.prog 36 #[(0,1),(1,1),(2,1),(3,1),(4,1),(5,1),(6,1),(7,1),(8,1)] #[.int .i64 0,.int .i64 0,.int .i64 0,.slice none 0 0,.slice none 0 0,.int .i64 0,.int .i64 0,.int .i64 0,.slice none 0 0]:=⟨_,Tryz.underlying36,fun _=>by kernel_rfl,by kernel_rfl⟩
theorem st_38:StructT Tryz.prog 38 #[(0,1),(1,1),(2,1),(3,9),(12,1)] #[.int .i64 0,.int .i64 0,.int .i64 0,.int .i64 0,.int .i64 0,.int .i64 0,.slice none 0 0,.slice none 0 0,.int .i64 0,.int .i64 0,.int .i64 0,.slice none 0 0,.slice none 0 0]:=⟨_,Tryz.underlying38,fun _=>by kernel_rfl,by kernel_rfl⟩
theorem st_43:StructT Tryz.prog 43 #[(0,1),(1,1)] #[.int .i64 0,.slice none 0 0]:=⟨_,Tryz.underlying43,fun _=>by kernel_rfl,by kernel_rfl⟩
theorem st_46:StructT Tryz.prog 46 #[(0,1),(1,1),(2,1)] #[.int .i64 0,.bool false,.slice none 0 0]:=⟨_,Tryz.underlying46,fun _=>by kernel_rfl,by kernel_rfl⟩
theorem st_67:StructT Tryz.prog 67 #[(0,1),(1,1),(2,1)] #[.int .i64 0,.int .i64 0,.int .i64 0]:=⟨_,Tryz.underlying67,fun _=>by kernel_rfl,by kernel_rfl⟩
theorem st_72:StructT Tryz.prog 72 #[(0,1),(1,1),(2,1),(3,1)] #[.slice none 0 0,.pointer none,.slice none 0 0,.slice none 0 0]:=⟨_,Tryz.underlying72,fun _=>by kernel_rfl,by kernel_rfl⟩
theorem st_79:StructT Tryz.prog 79 #[(0,1),(1,3),(4,1)] #[.pointer none,.int .i64 0,.int .i64 0,.int .i64 0,.int .i64 0]:=⟨_,Tryz.underlying79,fun _=>by kernel_rfl,by kernel_rfl⟩
theorem st_86:StructT Tryz.prog 86 #[(0,1),(1,1),(2,1),(3,1)] #[.int .i64 0,.int .i64 0,.int .i64 0,.slice none 0 0]:=⟨_,Tryz.underlying86,fun _=>by kernel_rfl,by kernel_rfl⟩
theorem st_99:StructT Tryz.prog 99 #[(0,1),(1,4),(5,1),(6,1),(7,1),(8,1),(9,1)] #[.pointer none,.int .i64 0,.int .i64 0,.int .i64 0,.slice none 0 0,.pointer none,.slice none 0 0,.int .i64 0,.int .i64 0,.bool false]:=⟨_,Tryz.underlying99,fun _=>by kernel_rfl,by kernel_rfl⟩
theorem st_103:StructT Tryz.prog 103 #[(0,1),(1,1),(2,1)] #[.int .i64 0,.int .i64 0,.slice none 0 0]:=⟨_,Tryz.underlying103,fun _=>by kernel_rfl,by kernel_rfl⟩
theorem st_107:StructT Tryz.prog 107 #[(0,1),(1,4),(5,1),(6,3),(9,1),(10,1),(11,17)] #[.pointer none,.int .i64 0,.int .i64 0,.int .i64 0,.slice none 0 0,.pointer none,.int .i64 0,.int .i64 0,.slice none 0 0,.pointer none,.pointer none,.int .i64 0,.int .i64 0,.int .i64 0,.int .i64 0,.int .i64 0,.int .i64 0,.int .i64 0,.int .i64 0,.int .i64 0,.int .i64 0,.int .i64 0,.int .i64 0,.int .i64 0,.int .i64 0,.int .i64 0,.int .i64 0,.int .i64 0]:=⟨_,Tryz.underlying107,fun _=>by kernel_rfl,by kernel_rfl⟩
theorem st_111:StructT Tryz.prog 111 #[(0,1)] #[.map none]:=⟨_,Tryz.underlying111,fun _=>by kernel_rfl,by kernel_rfl⟩
theorem st_113:StructT Tryz.prog 113 #[(0,1),(1,1)] #[.int .i64 0,.slice none 0 0]:=⟨_,Tryz.underlying113,fun _=>by kernel_rfl,by kernel_rfl⟩
theorem st_116:StructT Tryz.prog 116 #[(0,1)] #[.map none]:=⟨_,Tryz.underlying116,fun _=>by kernel_rfl,by kernel_rfl⟩
theorem st_120:StructT Tryz.prog 120 #[(0,1),(1,1),(2,1),(3,1),(4,1)] #[.bool false,.slice none 0 0,.int .i64 0,.slice none 0 0,.map none]:=⟨_,Tryz.underlying120,fun _=>by kernel_rfl,by kernel_rfl⟩
theorem st_129:StructT Tryz.prog 129 #[(0,1),(1,1)] #[.int .i64 0,.int .i64 0]:=⟨_,Tryz.underlying129,fun _=>by kernel_rfl,by kernel_rfl⟩
theorem st_164:StructT Tryz.prog 164 #[(0,1),(1,1),(2,1),(3,1),(4,1)] #[.int .i64 0,.int .i64 0,.int .i64 0,.slice none 0 0,.slice none 0 0]:=⟨_,Tryz.underlying164,fun _=>by kernel_rfl,by kernel_rfl⟩
theorem st_166:StructT Tryz.prog 166 #[(0,9),(9,1)] #[.int .i64 0,.int .i64 0,.int .i64 0,.slice none 0 0,.slice none 0 0,.int .i64 0,.int .i64 0,.int .i64 0,.slice none 0 0,.slice none 0 0]:=⟨_,Tryz.underlying166,fun _=>by kernel_rfl,by kernel_rfl⟩
theorem st_170:StructT Tryz.prog 170 #[(0,1),(1,1)] #[.int .i64 0,.slice none 0 0]:=⟨_,Tryz.underlying170,fun _=>by kernel_rfl,by kernel_rfl⟩
theorem st_178:StructT Tryz.prog 178 #[(0,1),(1,1),(2,1)] #[.pointer none,.slice none 0 0,.slice none 0 0]:=⟨_,Tryz.underlying178,fun _=>by kernel_rfl,by kernel_rfl⟩
theorem st_183:StructT Tryz.prog 183 #[(0,1),(1,1)] #[.int .i64 0,.int .i64 0]:=⟨_,Tryz.underlying183,fun _=>by kernel_rfl,by kernel_rfl⟩
theorem st_187:StructT Tryz.prog 187 #[(0,17)] #[.slice none 0 0,.slice none 0 0,.slice none 0 0,.slice none 0 0,.slice none 0 0,.slice none 0 0,.slice none 0 0,.slice none 0 0,.slice none 0 0,.slice none 0 0,.slice none 0 0,.slice none 0 0,.slice none 0 0,.slice none 0 0,.slice none 0 0,.slice none 0 0,.slice none 0 0]:=⟨_,Tryz.underlying187,fun _=>by kernel_rfl,by kernel_rfl⟩
theorem st_199:StructT Tryz.prog 199 #[(0,1),(1,1),(2,1),(3,1),(4,1)] #[.int .i64 0,.int .i64 0,.int .i64 0,.int .i64 0,.slice none 0 0]:=⟨_,Tryz.underlying199,fun _=>by kernel_rfl,by kernel_rfl⟩
theorem st_208:StructT Tryz.prog 208 #[(0,1),(1,1),(2,1),(3,1),(4,1)] #[.int .u8 0,.string .empty,.string .empty,.string .empty,.string .empty]:=⟨_,Tryz.underlying208,fun _=>by kernel_rfl,by kernel_rfl⟩
theorem st_228:StructT Tryz.prog 228 #[(0,1),(1,1)] #[.slice none 0 0,.bool false]:=⟨_,Tryz.underlying228,fun _=>by kernel_rfl,by kernel_rfl⟩
abbrev U3:=@Tryz.underlying3
abbrev U4:=@Tryz.underlying4
abbrev U5:=@Tryz.underlying5
abbrev U9:=@Tryz.underlying9
abbrev U20:=@Tryz.underlying20
abbrev U22:=@Tryz.underlying22
abbrev U25:=@Tryz.underlying25
abbrev U29:=@Tryz.underlying29
abbrev U30:=@Tryz.underlying30
abbrev U33:=@Tryz.underlying33
abbrev U34:=@Tryz.underlying34
abbrev U36:=@Tryz.underlying36
abbrev U38:=@Tryz.underlying38
abbrev U39:=@Tryz.underlying39
abbrev U43:=@Tryz.underlying43
abbrev U46:=@Tryz.underlying46
abbrev U48:=@Tryz.underlying48
abbrev U50:=@Tryz.underlying50
abbrev U52:=@Tryz.underlying52
abbrev U60:=@Tryz.underlying60
abbrev U67:=@Tryz.underlying67
abbrev U70:=@Tryz.underlying70
abbrev U77:=@Tryz.underlying77
abbrev U79:=@Tryz.underlying79
abbrev U91:=@Tryz.underlying91
abbrev U97:=@Tryz.underlying97
abbrev U101:=@Tryz.underlying101
abbrev U103:=@Tryz.underlying103
abbrev U105:=@Tryz.underlying105
abbrev U109:=@Tryz.underlying109
abbrev U113:=@Tryz.underlying113
abbrev U114:=@Tryz.underlying114
abbrev U117:=@Tryz.underlying117
abbrev U118:=@Tryz.underlying118
abbrev U122:=@Tryz.underlying122
abbrev U161:=@Tryz.underlying161
abbrev U166:=@Tryz.underlying166
abbrev U183:=@Tryz.underlying183
abbrev U185:=@Tryz.underlying185
abbrev U192:=@Tryz.underlying192
abbrev U208:=@Tryz.underlying208
instance : One Tryz.prog 3 := ⟨_, Tryz.underlying3, rfl⟩
instance : One Tryz.prog 4 := ⟨_, Tryz.underlying4, rfl⟩
instance : One Tryz.prog 5 := ⟨_, Tryz.underlying5, rfl⟩
instance : One Tryz.prog 9 := ⟨_, Tryz.underlying9, rfl⟩
instance : One Tryz.prog 20 := ⟨_, Tryz.underlying20, rfl⟩
instance : One Tryz.prog 25 := ⟨_, Tryz.underlying25, rfl⟩
instance : Flds Tryz.prog 27 [0, 1] := ⟨_, Tryz.underlying27, by kernel_rfl⟩
instance : Many Tryz.prog 27 2 := ⟨_, Tryz.underlying27, rfl, by kernel_rfl⟩
instance : One Tryz.prog 30 := ⟨_, Tryz.underlying30, rfl⟩
instance : One Tryz.prog 33 := ⟨_, Tryz.underlying33, rfl⟩
instance : One Tryz.prog 34 := ⟨_, Tryz.underlying34, rfl⟩
instance : Flds Tryz.prog 36 [0, 1, 2, 3, 4, 5, 6, 7, 8] := ⟨_, Tryz.underlying36, by kernel_rfl⟩
instance : Many Tryz.prog 36 9 := ⟨_, Tryz.underlying36, rfl, by kernel_rfl⟩
instance : Flds Tryz.prog 38 [0, 1, 2, 3, 12] := ⟨_, Tryz.underlying38, by kernel_rfl⟩
instance : Many Tryz.prog 38 13 := ⟨_, Tryz.underlying38, rfl, by kernel_rfl⟩
instance : One Tryz.prog 39 := ⟨_, Tryz.underlying39, rfl⟩
instance : One Tryz.prog 41 := ⟨_, Tryz.underlying41, rfl⟩
instance : Flds Tryz.prog 43 [0, 1] := ⟨_, Tryz.underlying43, by kernel_rfl⟩
instance : Flds Tryz.prog 46 [0, 1, 2] := ⟨_, Tryz.underlying46, by kernel_rfl⟩
instance : Many Tryz.prog 46 3 := ⟨_, Tryz.underlying46, rfl, by kernel_rfl⟩
instance : One Tryz.prog 48 := ⟨_, Tryz.underlying48, rfl⟩
instance : One Tryz.prog 52 := ⟨_, Tryz.underlying52, rfl⟩
instance : One Tryz.prog 58 := ⟨_, Tryz.underlying58, rfl⟩
instance : One Tryz.prog 59 := ⟨_, Tryz.underlying59, rfl⟩
instance : One Tryz.prog 60 := ⟨_, Tryz.underlying60, rfl⟩
instance : Flds Tryz.prog 67 [0, 1, 2] := ⟨_, Tryz.underlying67, by kernel_rfl⟩
instance : Many Tryz.prog 67 3 := ⟨_, Tryz.underlying67, rfl, by kernel_rfl⟩
instance : One Tryz.prog 68 := ⟨_, Tryz.underlying68, rfl⟩
instance : One Tryz.prog 70 := ⟨_, Tryz.underlying70, rfl⟩
instance : Flds Tryz.prog 72 [0, 1, 2, 3] := ⟨_, Tryz.underlying72, by kernel_rfl⟩
instance : One Tryz.prog 73 := ⟨_, Tryz.underlying73, rfl⟩
instance : One Tryz.prog 77 := ⟨_, Tryz.underlying77, rfl⟩
instance : Flds Tryz.prog 79 [0, 1, 4] := ⟨_, Tryz.underlying79, by kernel_rfl⟩
instance : Flds Tryz.prog 86 [0, 1, 2, 3] := ⟨_, Tryz.underlying86, by kernel_rfl⟩
instance : Many Tryz.prog 86 4 := ⟨_, Tryz.underlying86, rfl, by kernel_rfl⟩
instance : Flds Tryz.prog 96 [0, 1, 2, 3, 4] := ⟨_, Tryz.underlying96, by kernel_rfl⟩
instance : One Tryz.prog 97 := ⟨_, Tryz.underlying97, rfl⟩
instance : Flds Tryz.prog 99 [0, 1, 5, 6, 7, 8, 9] := ⟨_, Tryz.underlying99, by kernel_rfl⟩
instance : One Tryz.prog 100 := ⟨_, Tryz.underlying100, rfl⟩
instance : One Tryz.prog 101 := ⟨_, Tryz.underlying101, rfl⟩
instance : Flds Tryz.prog 103 [0, 1, 2] := ⟨_, Tryz.underlying103, by kernel_rfl⟩
instance : Many Tryz.prog 103 3 := ⟨_, Tryz.underlying103, rfl, by kernel_rfl⟩
instance : One Tryz.prog 104 := ⟨_, Tryz.underlying104, rfl⟩
instance : Flds Tryz.prog 107 [0, 1, 5, 6, 9, 10, 11] := ⟨_, Tryz.underlying107, by kernel_rfl⟩
instance : One Tryz.prog 109 := ⟨_, Tryz.underlying109, rfl⟩
instance : Flds Tryz.prog 111 [0] := ⟨_, Tryz.underlying111, by kernel_rfl⟩
instance : Flds Tryz.prog 113 [0, 1] := ⟨_, Tryz.underlying113, by kernel_rfl⟩
instance : Many Tryz.prog 113 2 := ⟨_, Tryz.underlying113, rfl, by kernel_rfl⟩
instance : One Tryz.prog 114 := ⟨_, Tryz.underlying114, rfl⟩
instance : Flds Tryz.prog 116 [0] := ⟨_, Tryz.underlying116, by kernel_rfl⟩
instance : One Tryz.prog 117 := ⟨_, Tryz.underlying117, rfl⟩
instance : One Tryz.prog 118 := ⟨_, Tryz.underlying118, rfl⟩
instance : Flds Tryz.prog 120 [0, 1, 2, 3, 4] := ⟨_, Tryz.underlying120, by kernel_rfl⟩
instance : Flds Tryz.prog 129 [0, 1] := ⟨_, Tryz.underlying129, by kernel_rfl⟩
instance : Many Tryz.prog 129 2 := ⟨_, Tryz.underlying129, rfl, by kernel_rfl⟩
instance : Flds Tryz.prog 164 [0, 1, 2, 3, 4] := ⟨_, Tryz.underlying164, by kernel_rfl⟩
instance : Many Tryz.prog 164 5 := ⟨_, Tryz.underlying164, rfl, by kernel_rfl⟩
instance : Flds Tryz.prog 166 [0, 9] := ⟨_, Tryz.underlying166, by kernel_rfl⟩
instance : Many Tryz.prog 166 10 := ⟨_, Tryz.underlying166, rfl, by kernel_rfl⟩
instance : Flds Tryz.prog 170 [0, 1] := ⟨_, Tryz.underlying170, by kernel_rfl⟩
instance : Many Tryz.prog 170 2 := ⟨_, Tryz.underlying170, rfl, by kernel_rfl⟩
instance : Flds Tryz.prog 178 [0, 1, 2] := ⟨_, Tryz.underlying178, by kernel_rfl⟩
instance : Flds Tryz.prog 183 [0, 1] := ⟨_, Tryz.underlying183, by kernel_rfl⟩
instance : Many Tryz.prog 183 2 := ⟨_, Tryz.underlying183, rfl, by kernel_rfl⟩
instance : Flds Tryz.prog 187 [0] := ⟨_, Tryz.underlying187, by kernel_rfl⟩
instance : One Tryz.prog 194 := ⟨_, Tryz.underlying194, rfl⟩
instance : Flds Tryz.prog 199 [0, 1, 2, 3, 4] := ⟨_, Tryz.underlying199, by kernel_rfl⟩
instance : Many Tryz.prog 199 5 := ⟨_, Tryz.underlying199, rfl, by kernel_rfl⟩
instance : Flds Tryz.prog 208 [0, 1, 2, 3, 4] := ⟨_, Tryz.underlying208, by kernel_rfl⟩
instance : Many Tryz.prog 208 5 := ⟨_, Tryz.underlying208, rfl, by kernel_rfl⟩
instance : Flds Tryz.prog 228 [0, 1] := ⟨_, Tryz.underlying228, by kernel_rfl⟩
instance : One Tryz.prog 253 := ⟨_, Tryz.underlying253, rfl⟩
instance : Many Tryz.prog 254 8 := ⟨_, Tryz.underlying254, rfl, by kernel_rfl⟩
instance : Flds Tryz.prog 256 [0, 8, 9] := ⟨_, Tryz.underlying256, by kernel_rfl⟩
instance : One Tryz.prog 261 := ⟨_, Tryz.underlying261, rfl⟩
instance : Many Tryz.prog 266 64 := ⟨_, Tryz.underlying266, rfl, by kernel_rfl⟩
instance : Many Tryz.prog 272 16 := ⟨_, Tryz.underlying272, rfl, by kernel_rfl⟩
instance : Many Tryz.prog 280 3 := ⟨_, Tryz.underlying280, rfl, by kernel_rfl⟩
instance F7:IsF Tryz.prog 7:=⟨_,Tryz.func7,rfl,nm7⟩
instance F8:IsF Tryz.prog 8:=⟨_,Tryz.func8,rfl,nm8⟩
instance F9:IsF Tryz.prog 9:=⟨_,Tryz.func9,rfl,nm9⟩
instance F10:IsF Tryz.prog 10:=⟨_,Tryz.func10,rfl,nm10⟩
instance F11:IsF Tryz.prog 11:=⟨_,Tryz.func11,rfl,nm11⟩
instance F12:IsF Tryz.prog 12:=⟨_,Tryz.func12,rfl,nm12⟩
instance F13:IsF Tryz.prog 13:=⟨_,Tryz.func13,rfl,nm13⟩
instance F14:IsF Tryz.prog 14:=⟨_,Tryz.func14,rfl,nm14⟩
instance F17:IsF Tryz.prog 17:=⟨_,Tryz.func17,rfl,nm17⟩
instance F18:IsF Tryz.prog 18:=⟨_,Tryz.func18,rfl,nm18⟩
instance F19:IsF Tryz.prog 19:=⟨_,Tryz.func19,rfl,nm19⟩
instance F20:IsF Tryz.prog 20:=⟨_,Tryz.func20,rfl,nm20⟩
instance F21:IsF Tryz.prog 21:=⟨_,Tryz.func21,rfl,nm21⟩
instance F22:IsF Tryz.prog 22:=⟨_,Tryz.func22,rfl,nm22⟩
instance F23:IsF Tryz.prog 23:=⟨_,Tryz.func23,rfl,nm23⟩
instance F25:IsF Tryz.prog 25:=⟨_,Tryz.func25,rfl,nm25⟩
instance F27:IsF Tryz.prog 27:=⟨_,Tryz.func27,rfl,nm27⟩
instance F28:IsF Tryz.prog 28:=⟨_,Tryz.func28,rfl,nm28⟩
instance F29:IsF Tryz.prog 29:=⟨_,Tryz.func29,rfl,nm29⟩
instance F30:IsF Tryz.prog 30:=⟨_,Tryz.func30,rfl,nm30⟩
instance F31:IsF Tryz.prog 31:=⟨_,Tryz.func31,rfl,nm31⟩
instance F32:IsF Tryz.prog 32:=⟨_,Tryz.func32,rfl,nm32⟩
instance F33:IsF Tryz.prog 33:=⟨_,Tryz.func33,rfl,nm33⟩
instance F34:IsF Tryz.prog 34:=⟨_,Tryz.func34,rfl,nm34⟩
instance F35:IsF Tryz.prog 35:=⟨_,Tryz.func35,rfl,nm35⟩
instance F37:IsF Tryz.prog 37:=⟨_,Tryz.func37,rfl,nm37⟩
instance F38:IsF Tryz.prog 38:=⟨_,Tryz.func38,rfl,nm38⟩
instance F39:IsF Tryz.prog 39:=⟨_,Tryz.func39,rfl,nm39⟩
instance F40:IsF Tryz.prog 40:=⟨_,Tryz.func40,rfl,nm40⟩
instance F41:IsF Tryz.prog 41:=⟨_,Tryz.func41,rfl,nm41⟩
instance F42:IsF Tryz.prog 42:=⟨_,Tryz.func42,rfl,nm42⟩
instance F43:IsF Tryz.prog 43:=⟨_,Tryz.func43,rfl,nm43⟩
instance F44:IsF Tryz.prog 44:=⟨_,Tryz.func44,rfl,nm44⟩
instance F45:IsF Tryz.prog 45:=⟨_,Tryz.func45,rfl,nm45⟩
instance F46:IsF Tryz.prog 46:=⟨_,Tryz.func46,rfl,nm46⟩
instance F47:IsF Tryz.prog 47:=⟨_,Tryz.func47,rfl,nm47⟩
instance F48:IsF Tryz.prog 48:=⟨_,Tryz.func48,rfl,nm48⟩
instance F49:IsF Tryz.prog 49:=⟨_,Tryz.func49,rfl,nm49⟩
instance F50:IsF Tryz.prog 50:=⟨_,Tryz.func50,rfl,nm50⟩
instance F51:IsF Tryz.prog 51:=⟨_,Tryz.func51,rfl,nm51⟩
instance F52:IsF Tryz.prog 52:=⟨_,Tryz.func52,rfl,nm52⟩
instance F53:IsF Tryz.prog 53:=⟨_,Tryz.func53,rfl,nm53⟩
instance F54:IsF Tryz.prog 54:=⟨_,Tryz.func54,rfl,nm54⟩
instance F55:IsF Tryz.prog 55:=⟨_,Tryz.func55,rfl,nm55⟩
instance F56:IsF Tryz.prog 56:=⟨_,Tryz.func56,rfl,nm56⟩
instance F57:IsF Tryz.prog 57:=⟨_,Tryz.func57,rfl,nm57⟩
instance F58:IsF Tryz.prog 58:=⟨_,Tryz.func58,rfl,nm58⟩
instance F59:IsF Tryz.prog 59:=⟨_,Tryz.func59,rfl,nm59⟩
instance F60:IsF Tryz.prog 60:=⟨_,Tryz.func60,rfl,nm60⟩
instance F61:IsF Tryz.prog 61:=⟨_,Tryz.func61,rfl,nm61⟩
instance F62:IsF Tryz.prog 62:=⟨_,Tryz.func62,rfl,nm62⟩
instance F63:IsF Tryz.prog 63:=⟨_,Tryz.func63,rfl,nm63⟩
instance F64:IsF Tryz.prog 64:=⟨_,Tryz.func64,rfl,nm64⟩
instance F65:IsF Tryz.prog 65:=⟨_,Tryz.func65,rfl,nm65⟩
instance F66:IsF Tryz.prog 66:=⟨_,Tryz.func66,rfl,nm66⟩
instance F67:IsF Tryz.prog 67:=⟨_,Tryz.func67,rfl,nm67⟩
instance F68:IsF Tryz.prog 68:=⟨_,Tryz.func68,rfl,nm68⟩
instance F69:IsF Tryz.prog 69:=⟨_,Tryz.func69,rfl,nm69⟩
instance F70:IsF Tryz.prog 70:=⟨_,Tryz.func70,rfl,nm70⟩
instance F71:IsF Tryz.prog 71:=⟨_,Tryz.func71,rfl,nm71⟩
instance F72:IsF Tryz.prog 72:=⟨_,Tryz.func72,rfl,nm72⟩
instance F73:IsF Tryz.prog 73:=⟨_,Tryz.func73,rfl,nm73⟩
instance F74:IsF Tryz.prog 74:=⟨_,Tryz.func74,rfl,nm74⟩
instance F75:IsF Tryz.prog 75:=⟨_,Tryz.func75,rfl,nm75⟩
instance F76:IsF Tryz.prog 76:=⟨_,Tryz.func76,rfl,nm76⟩
instance F77:IsF Tryz.prog 77:=⟨_,Tryz.func77,rfl,nm77⟩
instance F78:IsF Tryz.prog 78:=⟨_,Tryz.func78,rfl,nm78⟩
instance F79:IsF Tryz.prog 79:=⟨_,Tryz.func79,rfl,nm79⟩
instance F80:IsF Tryz.prog 80:=⟨_,Tryz.func80,rfl,nm80⟩
instance F81:IsF Tryz.prog 81:=⟨_,Tryz.func81,rfl,nm81⟩
instance F82:IsF Tryz.prog 82:=⟨_,Tryz.func82,rfl,nm82⟩
instance F83:IsF Tryz.prog 83:=⟨_,Tryz.func83,rfl,nm83⟩
instance F85:IsF Tryz.prog 85:=⟨_,Tryz.func85,rfl,nm85⟩
instance F86:IsF Tryz.prog 86:=⟨_,Tryz.func86,rfl,nm86⟩
instance F87:IsF Tryz.prog 87:=⟨_,Tryz.func87,rfl,nm87⟩
instance F88:IsF Tryz.prog 88:=⟨_,Tryz.func88,rfl,nm88⟩
instance F89:IsF Tryz.prog 89:=⟨_,Tryz.func89,rfl,nm89⟩
instance F90:IsF Tryz.prog 90:=⟨_,Tryz.func90,rfl,nm90⟩
instance F91:IsF Tryz.prog 91:=⟨_,Tryz.func91,rfl,nm91⟩
instance F92:IsF Tryz.prog 92:=⟨_,Tryz.func92,rfl,nm92⟩
instance F94:IsF Tryz.prog 94:=⟨_,Tryz.func94,rfl,nm94⟩
instance F96:IsF Tryz.prog 96:=⟨_,Tryz.func96,rfl,nm96⟩
instance F97:IsF Tryz.prog 97:=⟨_,Tryz.func97,rfl,nm97⟩
instance F98:IsF Tryz.prog 98:=⟨_,Tryz.func98,rfl,nm98⟩
instance F99:IsF Tryz.prog 99:=⟨_,Tryz.func99,rfl,nm99⟩
instance F100:IsF Tryz.prog 100:=⟨_,Tryz.func100,rfl,nm100⟩
instance F101:IsF Tryz.prog 101:=⟨_,Tryz.func101,rfl,nm101⟩
instance F102:IsF Tryz.prog 102:=⟨_,Tryz.func102,rfl,nm102⟩
instance F104:IsF Tryz.prog 104:=⟨_,Tryz.func104,rfl,nm104⟩
instance F105:IsF Tryz.prog 105:=⟨_,Tryz.func105,rfl,nm105⟩
instance F106:IsF Tryz.prog 106:=⟨_,Tryz.func106,rfl,nm106⟩
instance F107:IsF Tryz.prog 107:=⟨_,Tryz.func107,rfl,nm107⟩
instance F108:IsF Tryz.prog 108:=⟨_,Tryz.func108,rfl,nm108⟩
instance F109:IsF Tryz.prog 109:=⟨_,Tryz.func109,rfl,nm109⟩
instance F110:IsF Tryz.prog 110:=⟨_,Tryz.func110,rfl,nm110⟩
instance F111:IsF Tryz.prog 111:=⟨_,Tryz.func111,rfl,nm111⟩
instance F112:IsF Tryz.prog 112:=⟨_,Tryz.func112,rfl,nm112⟩
instance F113:IsF Tryz.prog 113:=⟨_,Tryz.func113,rfl,nm113⟩
instance F114:IsF Tryz.prog 114:=⟨_,Tryz.func114,rfl,nm114⟩
instance F115:IsF Tryz.prog 115:=⟨_,Tryz.func115,rfl,nm115⟩
instance F116:IsF Tryz.prog 116:=⟨_,Tryz.func116,rfl,nm116⟩
instance F118:IsF Tryz.prog 118:=⟨_,Tryz.func118,rfl,nm118⟩
instance F119:IsF Tryz.prog 119:=⟨_,Tryz.func119,rfl,nm119⟩
instance F120:IsF Tryz.prog 120:=⟨_,Tryz.func120,rfl,nm120⟩
instance F121:IsF Tryz.prog 121:=⟨_,Tryz.func121,rfl,nm121⟩
instance F123:IsF Tryz.prog 123:=⟨_,Tryz.func123,rfl,nm123⟩
instance F124:IsF Tryz.prog 124:=⟨_,Tryz.func124,rfl,nm124⟩
instance F125:IsF Tryz.prog 125:=⟨_,Tryz.func125,rfl,nm125⟩
instance F126:IsF Tryz.prog 126:=⟨_,Tryz.func126,rfl,nm126⟩
instance F127:IsF Tryz.prog 127:=⟨_,Tryz.func127,rfl,nm127⟩
instance F128:IsF Tryz.prog 128:=⟨_,Tryz.func128,rfl,nm128⟩
instance F129:IsF Tryz.prog 129:=⟨_,Tryz.func129,rfl,nm129⟩
instance F130:IsF Tryz.prog 130:=⟨_,Tryz.func130,rfl,nm130⟩
instance F132:IsF Tryz.prog 132:=⟨_,Tryz.func132,rfl,nm132⟩
instance F133:IsF Tryz.prog 133:=⟨_,Tryz.func133,rfl,nm133⟩
instance F134:IsF Tryz.prog 134:=⟨_,Tryz.func134,rfl,nm134⟩
instance F135:IsF Tryz.prog 135:=⟨_,Tryz.func135,rfl,nm135⟩
instance F136:IsF Tryz.prog 136:=⟨_,Tryz.func136,rfl,nm136⟩
instance F137:IsF Tryz.prog 137:=⟨_,Tryz.func137,rfl,nm137⟩
instance F138:IsF Tryz.prog 138:=⟨_,Tryz.func138,rfl,nm138⟩
instance F139:IsF Tryz.prog 139:=⟨_,Tryz.func139,rfl,nm139⟩
instance F140:IsF Tryz.prog 140:=⟨_,Tryz.func140,rfl,nm140⟩
instance F145:IsF Tryz.prog 145:=⟨_,Tryz.func145,rfl,nm145⟩
instance F147:IsF Tryz.prog 147:=⟨_,Tryz.func147,rfl,nm147⟩
instance F148:IsF Tryz.prog 148:=⟨_,Tryz.func148,rfl,nm148⟩
instance F149:IsF Tryz.prog 149:=⟨_,Tryz.func149,rfl,nm149⟩
instance F150:IsF Tryz.prog 150:=⟨_,Tryz.func150,rfl,nm150⟩
instance F151:IsF Tryz.prog 151:=⟨_,Tryz.func151,rfl,nm151⟩
instance F152:IsF Tryz.prog 152:=⟨_,Tryz.func152,rfl,nm152⟩
instance F153:IsF Tryz.prog 153:=⟨_,Tryz.func153,rfl,nm153⟩
instance F156:IsF Tryz.prog 156:=⟨_,Tryz.func156,rfl,nm156⟩
instance F157:IsF Tryz.prog 157:=⟨_,Tryz.func157,rfl,nm157⟩
instance F158:IsF Tryz.prog 158:=⟨_,Tryz.func158,rfl,nm158⟩
instance F160:IsF Tryz.prog 160:=⟨_,Tryz.func160,rfl,nm160⟩
instance F161:IsF Tryz.prog 161:=⟨_,Tryz.func161,rfl,nm161⟩
instance F162:IsF Tryz.prog 162:=⟨_,Tryz.func162,rfl,nm162⟩
instance F164:IsF Tryz.prog 164:=⟨_,Tryz.func164,rfl,nm164⟩
instance F169:IsF Tryz.prog 169:=⟨_,Tryz.func169,rfl,nm169⟩
instance F170:IsF Tryz.prog 170:=⟨_,Tryz.func170,rfl,nm170⟩
instance F171:IsF Tryz.prog 171:=⟨_,Tryz.func171,rfl,nm171⟩
instance F172:IsF Tryz.prog 172:=⟨_,Tryz.func172,rfl,nm172⟩
instance F173:IsF Tryz.prog 173:=⟨_,Tryz.func173,rfl,nm173⟩
end Go.Proofs.YthddplghlljdbaaGreat
