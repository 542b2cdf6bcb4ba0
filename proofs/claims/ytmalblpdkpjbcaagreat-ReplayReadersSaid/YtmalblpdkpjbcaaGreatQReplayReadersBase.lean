import Derived.Test.YtmalblpdkpjbcaaGreatProg
import Derived.Test.YtmalblpdkpjbcaaGreatQReplayReadersGo
set_option linter.unusedVariables false
set_option linter.unusedSimpArgs false
set_option maxRecDepth 100000
set_option maxHeartbeats 4000000
namespace Go.Proofs.YtmalblpdkpjbcaaGreat
open Go.RowKit Go.Ecal
theorem elB : Elem Tryz.prog 30 5 (.int .u8 0) 1 := ⟨Tryz.underlying30, by kernel_rfl, rfl⟩
theorem el_i64 : Elem Tryz.prog 196 3 (.int .i64 0) 8 := ⟨Tryz.underlying196, by kernel_rfl, rfl⟩
theorem nm2 : (Tryz.f2.name == "runtime.NumGoroutine") = false := by kernel_rfl
theorem nm3 : (Tryz.f3.name == "runtime.NumGoroutine") = false := by kernel_rfl
theorem nm4 : (Tryz.f4.name == "runtime.NumGoroutine") = false := by kernel_rfl
theorem nm5 : (Tryz.f5.name == "runtime.NumGoroutine") = false := by kernel_rfl
theorem nm6 : (Tryz.f6.name == "runtime.NumGoroutine") = false := by kernel_rfl
theorem nm7 : (Tryz.f7.name == "runtime.NumGoroutine") = false := by kernel_rfl
theorem nm8 : (Tryz.f8.name == "runtime.NumGoroutine") = false := by kernel_rfl
theorem nm9 : (Tryz.f9.name == "runtime.NumGoroutine") = false := by kernel_rfl
theorem nm10 : (Tryz.f10.name == "runtime.NumGoroutine") = false := by kernel_rfl
theorem nm11 : (Tryz.f11.name == "runtime.NumGoroutine") = false := by kernel_rfl
theorem nm12 : (Tryz.f12.name == "runtime.NumGoroutine") = false := by kernel_rfl
theorem nm13 : (Tryz.f13.name == "runtime.NumGoroutine") = false := by kernel_rfl
theorem nm14 : (Tryz.f14.name == "runtime.NumGoroutine") = false := by kernel_rfl
theorem nm15 : (Tryz.f15.name == "runtime.NumGoroutine") = false := by kernel_rfl
theorem nm16 : (Tryz.f16.name == "runtime.NumGoroutine") = false := by kernel_rfl
theorem nm17 : (Tryz.f17.name == "runtime.NumGoroutine") = false := by kernel_rfl
theorem nm18 : (Tryz.f18.name == "runtime.NumGoroutine") = false := by kernel_rfl
theorem nm19 : (Tryz.f19.name == "runtime.NumGoroutine") = false := by kernel_rfl
theorem nm20 : (Tryz.f20.name == "runtime.NumGoroutine") = false := by kernel_rfl
theorem nm21 : (Tryz.f21.name == "runtime.NumGoroutine") = false := by kernel_rfl
theorem nm22 : (Tryz.f22.name == "runtime.NumGoroutine") = false := by kernel_rfl
theorem nm23 : (Tryz.f23.name == "runtime.NumGoroutine") = false := by kernel_rfl
theorem nm24 : (Tryz.f24.name == "runtime.NumGoroutine") = false := by kernel_rfl
theorem nm25 : (Tryz.f25.name == "runtime.NumGoroutine") = false := by kernel_rfl
theorem nm26 : (Tryz.f26.name == "runtime.NumGoroutine") = false := by kernel_rfl
theorem nm27 : (Tryz.f27.name == "runtime.NumGoroutine") = false := by kernel_rfl
theorem nm28 : (Tryz.f28.name == "runtime.NumGoroutine") = false := by kernel_rfl
theorem nm29 : (Tryz.f29.name == "runtime.NumGoroutine") = false := by kernel_rfl
theorem nm30 : (Tryz.f30.name == "runtime.NumGoroutine") = false := by kernel_rfl
theorem nm31 : (Tryz.f31.name == "runtime.NumGoroutine") = false := by kernel_rfl
theorem nm32 : (Tryz.f32.name == "runtime.NumGoroutine") = false := by kernel_rfl
theorem nm33 : (Tryz.f33.name == "runtime.NumGoroutine") = false := by kernel_rfl
theorem nm34 : (Tryz.f34.name == "runtime.NumGoroutine") = false := by kernel_rfl
theorem nm35 : (Tryz.f35.name == "runtime.NumGoroutine") = false := by kernel_rfl
theorem nm36 : (Tryz.f36.name == "runtime.NumGoroutine") = false := by kernel_rfl
theorem nm37 : (Tryz.f37.name == "runtime.NumGoroutine") = false := by kernel_rfl
theorem nm38 : (Tryz.f38.name == "runtime.NumGoroutine") = false := by kernel_rfl
theorem nm39 : (Tryz.f39.name == "runtime.NumGoroutine") = false := by kernel_rfl
theorem nm40 : (Tryz.f40.name == "runtime.NumGoroutine") = false := by kernel_rfl
theorem nm41 : (Tryz.f41.name == "runtime.NumGoroutine") = false := by kernel_rfl
theorem nm42 : (Tryz.f42.name == "runtime.NumGoroutine") = false := by kernel_rfl
theorem nm43 : (Tryz.f43.name == "runtime.NumGoroutine") = false := by kernel_rfl
theorem nm44 : (Tryz.f44.name == "runtime.NumGoroutine") = false := by kernel_rfl
theorem nm45 : (Tryz.f45.name == "runtime.NumGoroutine") = false := by kernel_rfl
theorem nm46 : (Tryz.f46.name == "runtime.NumGoroutine") = false := by kernel_rfl
theorem nm47 : (Tryz.f47.name == "runtime.NumGoroutine") = false := by kernel_rfl
theorem nm48 : (Tryz.f48.name == "runtime.NumGoroutine") = false := by kernel_rfl
theorem nm49 : (Tryz.f49.name == "runtime.NumGoroutine") = false := by kernel_rfl
theorem nm50 : (Tryz.f50.name == "runtime.NumGoroutine") = false := by kernel_rfl
theorem nm51 : (Tryz.f51.name == "runtime.NumGoroutine") = false := by kernel_rfl
theorem nm52 : (Tryz.f52.name == "runtime.NumGoroutine") = false := by kernel_rfl
theorem nm53 : (Tryz.f53.name == "runtime.NumGoroutine") = false := by kernel_rfl
theorem nm54 : (Tryz.f54.name == "runtime.NumGoroutine") = false := by kernel_rfl
theorem nm55 : (Tryz.f55.name == "runtime.NumGoroutine") = false := by kernel_rfl
theorem nm56 : (Tryz.f56.name == "runtime.NumGoroutine") = false := by kernel_rfl
theorem nm57 : (Tryz.f57.name == "runtime.NumGoroutine") = false := by kernel_rfl
theorem nm58 : (Tryz.f58.name == "runtime.NumGoroutine") = false := by kernel_rfl
theorem nm59 : (Tryz.f59.name == "runtime.NumGoroutine") = false := by kernel_rfl
theorem nm60 : (Tryz.f60.name == "runtime.NumGoroutine") = false := by kernel_rfl
theorem nm61 : (Tryz.f61.name == "runtime.NumGoroutine") = false := by kernel_rfl
theorem nm62 : (Tryz.f62.name == "runtime.NumGoroutine") = false := by kernel_rfl
theorem nm63 : (Tryz.f63.name == "runtime.NumGoroutine") = false := by kernel_rfl
theorem nm64 : (Tryz.f64.name == "runtime.NumGoroutine") = false := by kernel_rfl
theorem nm65 : (Tryz.f65.name == "runtime.NumGoroutine") = false := by kernel_rfl
theorem nm66 : (Tryz.f66.name == "runtime.NumGoroutine") = false := by kernel_rfl
theorem nm67 : (Tryz.f67.name == "runtime.NumGoroutine") = false := by kernel_rfl
theorem nm68 : (Tryz.f68.name == "runtime.NumGoroutine") = false := by kernel_rfl
theorem nm69 : (Tryz.f69.name == "runtime.NumGoroutine") = false := by kernel_rfl
theorem nm70 : (Tryz.f70.name == "runtime.NumGoroutine") = false := by kernel_rfl
theorem nm71 : (Tryz.f71.name == "runtime.NumGoroutine") = false := by kernel_rfl
theorem nm72 : (Tryz.f72.name == "runtime.NumGoroutine") = false := by kernel_rfl
theorem nm73 : (Tryz.f73.name == "runtime.NumGoroutine") = false := by kernel_rfl
theorem nm74 : (Tryz.f74.name == "runtime.NumGoroutine") = false := by kernel_rfl
theorem nm75 : (Tryz.f75.name == "runtime.NumGoroutine") = false := by kernel_rfl
theorem nm76 : (Tryz.f76.name == "runtime.NumGoroutine") = false := by kernel_rfl
theorem nm77 : (Tryz.f77.name == "runtime.NumGoroutine") = false := by kernel_rfl
theorem nm78 : (Tryz.f78.name == "runtime.NumGoroutine") = false := by kernel_rfl
theorem nm79 : (Tryz.f79.name == "runtime.NumGoroutine") = false := by kernel_rfl
theorem nm80 : (Tryz.f80.name == "runtime.NumGoroutine") = false := by kernel_rfl
theorem nm81 : (Tryz.f81.name == "runtime.NumGoroutine") = false := by kernel_rfl
theorem nm82 : (Tryz.f82.name == "runtime.NumGoroutine") = false := by kernel_rfl
theorem nm83 : (Tryz.f83.name == "runtime.NumGoroutine") = false := by kernel_rfl
theorem nm84 : (Tryz.f84.name == "runtime.NumGoroutine") = false := by kernel_rfl
theorem nm85 : (Tryz.f85.name == "runtime.NumGoroutine") = false := by kernel_rfl
theorem nm86 : (Tryz.f86.name == "runtime.NumGoroutine") = false := by kernel_rfl
theorem nm87 : (Tryz.f87.name == "runtime.NumGoroutine") = false := by kernel_rfl
theorem nm88 : (Tryz.f88.name == "runtime.NumGoroutine") = false := by kernel_rfl
theorem nm89 : (Tryz.f89.name == "runtime.NumGoroutine") = false := by kernel_rfl
theorem nm90 : (Tryz.f90.name == "runtime.NumGoroutine") = false := by kernel_rfl
theorem nm91 : (Tryz.f91.name == "runtime.NumGoroutine") = false := by kernel_rfl
theorem nm92 : (Tryz.f92.name == "runtime.NumGoroutine") = false := by kernel_rfl
theorem nm93 : (Tryz.f93.name == "runtime.NumGoroutine") = false := by kernel_rfl
theorem nm94 : (Tryz.f94.name == "runtime.NumGoroutine") = false := by kernel_rfl
theorem nm95 : (Tryz.f95.name == "runtime.NumGoroutine") = false := by kernel_rfl
theorem nm96 : (Tryz.f96.name == "runtime.NumGoroutine") = false := by kernel_rfl
theorem nm97 : (Tryz.f97.name == "runtime.NumGoroutine") = false := by kernel_rfl
theorem nm98 : (Tryz.f98.name == "runtime.NumGoroutine") = false := by kernel_rfl
theorem nm99 : (Tryz.f99.name == "runtime.NumGoroutine") = false := by kernel_rfl
theorem nm100 : (Tryz.f100.name == "runtime.NumGoroutine") = false := by kernel_rfl
theorem nm101 : (Tryz.f101.name == "runtime.NumGoroutine") = false := by kernel_rfl
theorem nm102 : (Tryz.f102.name == "runtime.NumGoroutine") = false := by kernel_rfl
theorem nm103 : (Tryz.f103.name == "runtime.NumGoroutine") = false := by kernel_rfl
theorem nm104 : (Tryz.f104.name == "runtime.NumGoroutine") = false := by kernel_rfl
theorem nm105 : (Tryz.f105.name == "runtime.NumGoroutine") = false := by kernel_rfl
theorem nm106 : (Tryz.f106.name == "runtime.NumGoroutine") = false := by kernel_rfl
theorem nm107 : (Tryz.f107.name == "runtime.NumGoroutine") = false := by kernel_rfl
theorem nm108 : (Tryz.f108.name == "runtime.NumGoroutine") = false := by kernel_rfl
theorem nm109 : (Tryz.f109.name == "runtime.NumGoroutine") = false := by kernel_rfl
theorem nm110 : (Tryz.f110.name == "runtime.NumGoroutine") = false := by kernel_rfl
theorem nm111 : (Tryz.f111.name == "runtime.NumGoroutine") = false := by kernel_rfl
theorem nm112 : (Tryz.f112.name == "runtime.NumGoroutine") = false := by kernel_rfl
theorem nm113 : (Tryz.f113.name == "runtime.NumGoroutine") = false := by kernel_rfl
theorem nm114 : (Tryz.f114.name == "runtime.NumGoroutine") = false := by kernel_rfl
theorem nm115 : (Tryz.f115.name == "runtime.NumGoroutine") = false := by kernel_rfl
theorem nm116 : (Tryz.f116.name == "runtime.NumGoroutine") = false := by kernel_rfl
theorem nm117 : (Tryz.f117.name == "runtime.NumGoroutine") = false := by kernel_rfl
theorem nm118 : (Tryz.f118.name == "runtime.NumGoroutine") = false := by kernel_rfl
theorem nm119 : (Tryz.f119.name == "runtime.NumGoroutine") = false := by kernel_rfl
theorem nm120 : (Tryz.f120.name == "runtime.NumGoroutine") = false := by kernel_rfl
theorem nm121 : (Tryz.f121.name == "runtime.NumGoroutine") = false := by kernel_rfl
theorem nm122 : (Tryz.f122.name == "runtime.NumGoroutine") = false := by kernel_rfl
theorem nm123 : (Tryz.f123.name == "runtime.NumGoroutine") = false := by kernel_rfl
theorem nm124 : (Tryz.f124.name == "runtime.NumGoroutine") = false := by kernel_rfl
theorem nm125 : (Tryz.f125.name == "runtime.NumGoroutine") = false := by kernel_rfl
theorem nm126 : (Tryz.f126.name == "runtime.NumGoroutine") = false := by kernel_rfl
theorem nm127 : (Tryz.f127.name == "runtime.NumGoroutine") = false := by kernel_rfl
theorem nm128 : (Tryz.f128.name == "runtime.NumGoroutine") = false := by kernel_rfl
theorem nm129 : (Tryz.f129.name == "runtime.NumGoroutine") = false := by kernel_rfl
theorem nm130 : (Tryz.f130.name == "runtime.NumGoroutine") = false := by kernel_rfl
theorem nm131 : (Tryz.f131.name == "runtime.NumGoroutine") = false := by kernel_rfl
theorem nm132 : (Tryz.f132.name == "runtime.NumGoroutine") = false := by kernel_rfl
theorem nm133 : (Tryz.f133.name == "runtime.NumGoroutine") = false := by kernel_rfl
theorem nm134 : (Tryz.f134.name == "runtime.NumGoroutine") = false := by kernel_rfl
theorem nm135 : (Tryz.f135.name == "runtime.NumGoroutine") = false := by kernel_rfl
theorem nm136 : (Tryz.f136.name == "runtime.NumGoroutine") = false := by kernel_rfl
theorem nm137 : (Tryz.f137.name == "runtime.NumGoroutine") = false := by kernel_rfl
theorem nm138 : (Tryz.f138.name == "runtime.NumGoroutine") = false := by kernel_rfl
theorem nm139 : (Tryz.f139.name == "runtime.NumGoroutine") = false := by kernel_rfl
theorem nm141 : (Tryz.f141.name == "runtime.NumGoroutine") = false := by kernel_rfl
theorem nm142 : (Tryz.f142.name == "runtime.NumGoroutine") = false := by kernel_rfl
theorem nm143 : (Tryz.f143.name == "runtime.NumGoroutine") = false := by kernel_rfl
theorem nm144 : (Tryz.f144.name == "runtime.NumGoroutine") = false := by kernel_rfl
theorem nm145 : (Tryz.f145.name == "runtime.NumGoroutine") = false := by kernel_rfl
theorem nm146 : (Tryz.f146.name == "runtime.NumGoroutine") = false := by kernel_rfl
theorem nm147 : (Tryz.f147.name == "runtime.NumGoroutine") = false := by kernel_rfl
theorem nm148 : (Tryz.f148.name == "runtime.NumGoroutine") = false := by kernel_rfl
theorem nm149 : (Tryz.f149.name == "runtime.NumGoroutine") = false := by kernel_rfl
theorem nm150 : (Tryz.f150.name == "runtime.NumGoroutine") = false := by kernel_rfl
theorem nm151 : (Tryz.f151.name == "runtime.NumGoroutine") = false := by kernel_rfl
theorem nm152 : (Tryz.f152.name == "runtime.NumGoroutine") = false := by kernel_rfl
theorem nm153 : (Tryz.f153.name == "runtime.NumGoroutine") = false := by kernel_rfl
theorem nm154 : (Tryz.f154.name == "runtime.NumGoroutine") = false := by kernel_rfl
theorem nm155 : (Tryz.f155.name == "runtime.NumGoroutine") = false := by kernel_rfl
theorem nm156 : (Tryz.f156.name == "runtime.NumGoroutine") = false := by kernel_rfl
theorem nm157 : (Tryz.f157.name == "runtime.NumGoroutine") = false := by kernel_rfl
theorem nm158 : (Tryz.f158.name == "runtime.NumGoroutine") = false := by kernel_rfl
theorem nm159 : (Tryz.f159.name == "runtime.NumGoroutine") = false := by kernel_rfl
theorem nm160 : (Tryz.f160.name == "runtime.NumGoroutine") = false := by kernel_rfl
theorem nm161 : (Tryz.f161.name == "runtime.NumGoroutine") = false := by kernel_rfl
theorem nm162 : (Tryz.f162.name == "runtime.NumGoroutine") = false := by kernel_rfl
theorem nm163 : (Tryz.f163.name == "runtime.NumGoroutine") = false := by kernel_rfl
theorem nm164 : (Tryz.f164.name == "runtime.NumGoroutine") = false := by kernel_rfl
theorem nm165 : (Tryz.f165.name == "runtime.NumGoroutine") = false := by kernel_rfl
theorem nm166 : (Tryz.f166.name == "runtime.NumGoroutine") = false := by kernel_rfl
theorem nm167 : (Tryz.f167.name == "runtime.NumGoroutine") = false := by kernel_rfl
theorem nm169 : (Tryz.f169.name == "runtime.NumGoroutine") = false := by kernel_rfl
theorem nm170 : (Tryz.f170.name == "runtime.NumGoroutine") = false := by kernel_rfl
theorem nm171 : (Tryz.f171.name == "runtime.NumGoroutine") = false := by kernel_rfl
theorem nm172 : (Tryz.f172.name == "runtime.NumGoroutine") = false := by kernel_rfl
theorem nm173 : (Tryz.f173.name == "runtime.NumGoroutine") = false := by kernel_rfl
theorem nm174 : (Tryz.f174.name == "runtime.NumGoroutine") = false := by kernel_rfl
theorem nm175 : (Tryz.f175.name == "runtime.NumGoroutine") = false := by kernel_rfl
theorem nm176 : (Tryz.f176.name == "runtime.NumGoroutine") = false := by kernel_rfl
theorem nm177 : (Tryz.f177.name == "runtime.NumGoroutine") = false := by kernel_rfl
theorem nm178 : (Tryz.f178.name == "runtime.NumGoroutine") = false := by kernel_rfl
theorem nm179 : (Tryz.f179.name == "runtime.NumGoroutine") = false := by kernel_rfl
theorem nm180 : (Tryz.f180.name == "runtime.NumGoroutine") = false := by kernel_rfl
theorem nm181 : (Tryz.f181.name == "runtime.NumGoroutine") = false := by kernel_rfl
theorem nm182 : (Tryz.f182.name == "runtime.NumGoroutine") = false := by kernel_rfl
theorem nm183 : (Tryz.f183.name == "runtime.NumGoroutine") = false := by kernel_rfl
theorem nm184 : (Tryz.f184.name == "runtime.NumGoroutine") = false := by kernel_rfl
theorem nm185 : (Tryz.f185.name == "runtime.NumGoroutine") = false := by kernel_rfl
theorem nm186 : (Tryz.f186.name == "runtime.NumGoroutine") = false := by kernel_rfl
theorem nm187 : (Tryz.f187.name == "runtime.NumGoroutine") = false := by kernel_rfl
theorem nm188 : (Tryz.f188.name == "runtime.NumGoroutine") = false := by kernel_rfl
theorem nm189 : (Tryz.f189.name == "runtime.NumGoroutine") = false := by kernel_rfl
theorem nm190 : (Tryz.f190.name == "runtime.NumGoroutine") = false := by kernel_rfl
theorem nm191 : (Tryz.f191.name == "runtime.NumGoroutine") = false := by kernel_rfl
theorem nm192 : (Tryz.f192.name == "runtime.NumGoroutine") = false := by kernel_rfl
theorem nm193 : (Tryz.f193.name == "runtime.NumGoroutine") = false := by kernel_rfl
theorem nm194 : (Tryz.f194.name == "runtime.NumGoroutine") = false := by kernel_rfl
theorem nm195 : (Tryz.f195.name == "runtime.NumGoroutine") = false := by kernel_rfl
theorem nm196 : (Tryz.f196.name == "runtime.NumGoroutine") = false := by kernel_rfl
theorem nm197 : (Tryz.f197.name == "runtime.NumGoroutine") = false := by kernel_rfl
theorem nm198 : (Tryz.f198.name == "runtime.NumGoroutine") = false := by kernel_rfl
theorem nm199 : (Tryz.f199.name == "runtime.NumGoroutine") = false := by kernel_rfl
theorem nm200 : (Tryz.f200.name == "runtime.NumGoroutine") = false := by kernel_rfl
theorem nm201 : (Tryz.f201.name == "runtime.NumGoroutine") = false := by kernel_rfl
theorem nm202 : (Tryz.f202.name == "runtime.NumGoroutine") = false := by kernel_rfl
theorem nm203 : (Tryz.f203.name == "runtime.NumGoroutine") = false := by kernel_rfl
theorem nm204 : (Tryz.f204.name == "runtime.NumGoroutine") = false := by kernel_rfl
theorem nm205 : (Tryz.f205.name == "runtime.NumGoroutine") = false := by kernel_rfl
theorem nm206 : (Tryz.f206.name == "runtime.NumGoroutine") = false := by kernel_rfl
theorem nm207 : (Tryz.f207.name == "runtime.NumGoroutine") = false := by kernel_rfl
theorem nm208 : (Tryz.f208.name == "runtime.NumGoroutine") = false := by kernel_rfl
theorem nm209 : (Tryz.f209.name == "runtime.NumGoroutine") = false := by kernel_rfl
theorem nm210 : (Tryz.f210.name == "runtime.NumGoroutine") = false := by kernel_rfl
theorem nm211 : (Tryz.f211.name == "runtime.NumGoroutine") = false := by kernel_rfl
theorem nm212 : (Tryz.f212.name == "runtime.NumGoroutine") = false := by kernel_rfl
theorem nm213 : (Tryz.f213.name == "runtime.NumGoroutine") = false := by kernel_rfl
theorem nm214 : (Tryz.f214.name == "runtime.NumGoroutine") = false := by kernel_rfl
theorem nm215 : (Tryz.f215.name == "runtime.NumGoroutine") = false := by kernel_rfl
theorem nm216 : (Tryz.f216.name == "runtime.NumGoroutine") = false := by kernel_rfl
theorem nm217 : (Tryz.f217.name == "runtime.NumGoroutine") = false := by kernel_rfl
theorem nm218 : (Tryz.f218.name == "runtime.NumGoroutine") = false := by kernel_rfl
theorem nm219 : (Tryz.f219.name == "runtime.NumGoroutine") = false := by kernel_rfl
theorem nm220 : (Tryz.f220.name == "runtime.NumGoroutine") = false := by kernel_rfl
theorem nm221 : (Tryz.f221.name == "runtime.NumGoroutine") = false := by kernel_rfl
theorem nm222 : (Tryz.f222.name == "runtime.NumGoroutine") = false := by kernel_rfl
theorem nm223 : (Tryz.f223.name == "runtime.NumGoroutine") = false := by kernel_rfl
theorem nm224 : (Tryz.f224.name == "runtime.NumGoroutine") = false := by kernel_rfl
theorem nm225 : (Tryz.f225.name == "runtime.NumGoroutine") = false := by kernel_rfl
theorem nm226 : (Tryz.f226.name == "runtime.NumGoroutine") = false := by kernel_rfl
theorem nm227 : (Tryz.f227.name == "runtime.NumGoroutine") = false := by kernel_rfl
theorem nm228 : (Tryz.f228.name == "runtime.NumGoroutine") = false := by kernel_rfl
theorem nm229 : (Tryz.f229.name == "runtime.NumGoroutine") = false := by kernel_rfl
theorem nm230 : (Tryz.f230.name == "runtime.NumGoroutine") = false := by kernel_rfl
theorem nm231 : (Tryz.f231.name == "runtime.NumGoroutine") = false := by kernel_rfl
theorem nm232 : (Tryz.f232.name == "runtime.NumGoroutine") = false := by kernel_rfl
theorem nm234 : (Tryz.f234.name == "runtime.NumGoroutine") = false := by kernel_rfl
theorem el_61 : Elem Tryz.prog 61 30 (.slice none 0 0) 24 := ⟨Tryz.underlying61, by kernel_rfl, rfl⟩
theorem el_213 : Elem Tryz.prog 213 20 (.nilIface) 16 := ⟨Tryz.underlying213, by kernel_rfl, rfl⟩
theorem st_32 : StructT Tryz.prog 32 #[(0, 1), (1, 1), (2, 1), (3, 1)] #[.int .i64 0, .int .i64 0, .int .i64 0, .slice none 0 0] := ⟨_, Tryz.underlying32, fun _ => by kernel_rfl, by kernel_rfl⟩
theorem st_37 : StructT Tryz.prog 37 #[(0, 1), (1, 1), (2, 1), (3, 1), (4, 1), (5, 1), (6, 1), (7, 1), (8, 1)] #[.int .i64 0, .int .i64 0, .int .i64 0, .slice none 0 0, .slice none 0 0, .int .i64 0, .int .i64 0, .int .i64 0, .slice none 0 0] := ⟨_, Tryz.underlying37, fun _ => by kernel_rfl, by kernel_rfl⟩
theorem st_46 : StructT Tryz.prog 46 #[(0, 1), (1, 1), (2, 1)] #[.int .i64 0, .int .i64 0, .slice none 0 0] := ⟨_, Tryz.underlying46, fun _ => by kernel_rfl, by kernel_rfl⟩
theorem st_52 : StructT Tryz.prog 52 #[(0, 1), (1, 1)] #[.int .i64 0, .slice none 0 0] := ⟨_, Tryz.underlying52, fun _ => by kernel_rfl, by kernel_rfl⟩
theorem st_107 : StructT Tryz.prog 107 #[(0, 1), (1, 1), (2, 1), (3, 1), (4, 1)] #[.bool false, .slice none 0 0, .int .i64 0, .slice none 0 0, .map none] := ⟨_, Tryz.underlying107, fun _ => by kernel_rfl, by kernel_rfl⟩
theorem st_115 : StructT Tryz.prog 115 #[(0, 1), (1, 4), (5, 1), (6, 3), (9, 1), (10, 1), (11, 17)] #[.pointer none, .int .i64 0, .int .i64 0, .int .i64 0, .slice none 0 0, .pointer none, .int .i64 0, .int .i64 0, .slice none 0 0, .pointer none, .pointer none, .int .i64 0, .int .i64 0, .int .i64 0, .int .i64 0, .int .i64 0, .int .i64 0, .int .i64 0, .int .i64 0, .int .i64 0, .int .i64 0, .int .i64 0, .int .i64 0, .int .i64 0, .int .i64 0, .int .i64 0, .int .i64 0, .int .i64 0] := ⟨_, Tryz.underlying115, fun _ => by kernel_rfl, by kernel_rfl⟩
theorem st_116 : StructT Tryz.prog 116 #[(0, 1), (1, 1), (2, 1), (3, 1), (4, 1)] #[.int .i64 0, .int .i64 0, .int .i64 0, .int .i64 0, .slice none 0 0] := ⟨_, Tryz.underlying116, fun _ => by kernel_rfl, by kernel_rfl⟩
theorem st_126 : StructT Tryz.prog 126 #[(0, 1)] #[.map none] := ⟨_, Tryz.underlying126, fun _ => by kernel_rfl, by kernel_rfl⟩
theorem st_151 : StructT Tryz.prog 151 #[(0, 1), (1, 1), (2, 1)] #[.pointer none, .slice none 0 0, .slice none 0 0] := ⟨_, Tryz.underlying151, fun _ => by kernel_rfl, by kernel_rfl⟩
theorem st_158 : StructT Tryz.prog 158 #[(0, 1), (1, 1)] #[.int .i64 0, .slice none 0 0] := ⟨_, Tryz.underlying158, fun _ => by kernel_rfl, by kernel_rfl⟩
theorem st_167 : StructT Tryz.prog 167 #[(0, 1), (1, 1)] #[.int .i64 0, .int .i64 0] := ⟨_, Tryz.underlying167, fun _ => by kernel_rfl, by kernel_rfl⟩
theorem st_173 : StructT Tryz.prog 173 #[(0, 17)] #[.slice none 0 0, .slice none 0 0, .slice none 0 0, .slice none 0 0, .slice none 0 0, .slice none 0 0, .slice none 0 0, .slice none 0 0, .slice none 0 0, .slice none 0 0, .slice none 0 0, .slice none 0 0, .slice none 0 0, .slice none 0 0, .slice none 0 0, .slice none 0 0, .slice none 0 0] := ⟨_, Tryz.underlying173, fun _ => by kernel_rfl, by kernel_rfl⟩
theorem st_219 : StructT Tryz.prog 219 #[(0, 1), (1, 1), (2, 1), (3, 1), (4, 1)] #[.int .u8 0, .string .empty, .string .empty, .string .empty, .string .empty] := ⟨_, Tryz.underlying219, fun _ => by kernel_rfl, by kernel_rfl⟩
theorem st_225 : StructT Tryz.prog 225 #[(0, 1), (1, 1)] #[.slice none 0 0, .bool false] := ⟨_, Tryz.underlying225, fun _ => by kernel_rfl, by kernel_rfl⟩
abbrev U3 := @Tryz.underlying3
abbrev U5 := @Tryz.underlying5
abbrev U9 := @Tryz.underlying9
abbrev U20 := @Tryz.underlying20
abbrev U22 := @Tryz.underlying22
abbrev U26 := @Tryz.underlying26
abbrev U30 := @Tryz.underlying30
abbrev U35 := @Tryz.underlying35
abbrev U44 := @Tryz.underlying44
abbrev U46 := @Tryz.underlying46
abbrev U52 := @Tryz.underlying52
abbrev U61 := @Tryz.underlying61
abbrev U93 := @Tryz.underlying93
abbrev U104 := @Tryz.underlying104
abbrev U105 := @Tryz.underlying105
abbrev U124 := @Tryz.underlying124
abbrev U154 := @Tryz.underlying154
abbrev U158 := @Tryz.underlying158
abbrev U167 := @Tryz.underlying167
abbrev U196 := @Tryz.underlying196
abbrev U213 := @Tryz.underlying213
abbrev U219 := @Tryz.underlying219
instance : One Tryz.prog 3 := ⟨_, Tryz.underlying3, rfl⟩
instance : One Tryz.prog 4 := ⟨_, Tryz.underlying4, rfl⟩
instance : One Tryz.prog 5 := ⟨_, Tryz.underlying5, rfl⟩
instance : One Tryz.prog 9 := ⟨_, Tryz.underlying9, rfl⟩
instance : One Tryz.prog 20 := ⟨_, Tryz.underlying20, rfl⟩
instance : One Tryz.prog 22 := ⟨_, Tryz.underlying22, rfl⟩
instance : One Tryz.prog 24 := ⟨_, Tryz.underlying24, rfl⟩
instance : One Tryz.prog 26 := ⟨_, Tryz.underlying26, rfl⟩
instance : One Tryz.prog 30 := ⟨_, Tryz.underlying30, rfl⟩
instance : Flds Tryz.prog 32 [0, 1, 2, 3] := ⟨_, Tryz.underlying32, by kernel_rfl⟩
instance : Many Tryz.prog 32 4 := ⟨_, Tryz.underlying32, rfl, by kernel_rfl⟩
instance : One Tryz.prog 35 := ⟨_, Tryz.underlying35, rfl⟩
instance : Flds Tryz.prog 37 [0, 1, 2, 3, 4, 5, 6, 7, 8] := ⟨_, Tryz.underlying37, by kernel_rfl⟩
instance : Many Tryz.prog 37 9 := ⟨_, Tryz.underlying37, rfl, by kernel_rfl⟩
instance : One Tryz.prog 44 := ⟨_, Tryz.underlying44, rfl⟩
instance : Flds Tryz.prog 46 [0, 1, 2] := ⟨_, Tryz.underlying46, by kernel_rfl⟩
instance : Many Tryz.prog 46 3 := ⟨_, Tryz.underlying46, rfl, by kernel_rfl⟩
instance : One Tryz.prog 48 := ⟨_, Tryz.underlying48, rfl⟩
instance : Many Tryz.prog 52 2 := ⟨_, Tryz.underlying52, rfl, by kernel_rfl⟩
instance : One Tryz.prog 53 := ⟨_, Tryz.underlying53, rfl⟩
instance : One Tryz.prog 61 := ⟨_, Tryz.underlying61, rfl⟩
instance : Flds Tryz.prog 63 [0, 1, 2, 3, 4, 13] := ⟨_, Tryz.underlying63, by kernel_rfl⟩
instance : Many Tryz.prog 63 14 := ⟨_, Tryz.underlying63, rfl, by kernel_rfl⟩
instance : One Tryz.prog 65 := ⟨_, Tryz.underlying65, rfl⟩
instance : One Tryz.prog 66 := ⟨_, Tryz.underlying66, rfl⟩
instance : Flds Tryz.prog 68 [0, 1, 2, 3, 4] := ⟨_, Tryz.underlying68, by kernel_rfl⟩
instance : Flds Tryz.prog 76 [0, 1, 2, 3, 4] := ⟨_, Tryz.underlying76, by kernel_rfl⟩
instance : Many Tryz.prog 76 5 := ⟨_, Tryz.underlying76, rfl, by kernel_rfl⟩
instance : One Tryz.prog 81 := ⟨_, Tryz.underlying81, rfl⟩
instance : Flds Tryz.prog 83 [0] := ⟨_, Tryz.underlying83, by kernel_rfl⟩
instance : One Tryz.prog 87 := ⟨_, Tryz.underlying87, rfl⟩
instance : Flds Tryz.prog 89 [0, 1, 2, 3, 4, 5, 6, 7, 8] := ⟨_, Tryz.underlying89, by kernel_rfl⟩
instance : Many Tryz.prog 89 9 := ⟨_, Tryz.underlying89, rfl, by kernel_rfl⟩
instance : Flds Tryz.prog 95 [0, 1, 2] := ⟨_, Tryz.underlying95, by kernel_rfl⟩
instance : Many Tryz.prog 95 19 := ⟨_, Tryz.underlying95, rfl, by kernel_rfl⟩
instance : One Tryz.prog 96 := ⟨_, Tryz.underlying96, rfl⟩
instance : One Tryz.prog 104 := ⟨_, Tryz.underlying104, rfl⟩
instance : One Tryz.prog 105 := ⟨_, Tryz.underlying105, rfl⟩
instance : Flds Tryz.prog 107 [0, 1, 2, 3, 4] := ⟨_, Tryz.underlying107, by kernel_rfl⟩
instance : One Tryz.prog 112 := ⟨_, Tryz.underlying112, rfl⟩
instance : Flds Tryz.prog 115 [0, 1, 5, 6, 9, 10, 11] := ⟨_, Tryz.underlying115, by kernel_rfl⟩
instance : Flds Tryz.prog 116 [0, 1, 2, 3, 4] := ⟨_, Tryz.underlying116, by kernel_rfl⟩
instance : Many Tryz.prog 116 5 := ⟨_, Tryz.underlying116, rfl, by kernel_rfl⟩
instance : One Tryz.prog 124 := ⟨_, Tryz.underlying124, rfl⟩
instance : Flds Tryz.prog 126 [0] := ⟨_, Tryz.underlying126, by kernel_rfl⟩
instance : One Tryz.prog 132 := ⟨_, Tryz.underlying132, rfl⟩
instance : One Tryz.prog 133 := ⟨_, Tryz.underlying133, rfl⟩
instance : Flds Tryz.prog 135 [0, 1, 2, 3, 4, 23, 24, 25] := ⟨_, Tryz.underlying135, by kernel_rfl⟩
instance : Many Tryz.prog 144 2 := ⟨_, Tryz.underlying144, rfl, by kernel_rfl⟩
instance : Flds Tryz.prog 147 [0, 1, 2] := ⟨_, Tryz.underlying147, by kernel_rfl⟩
instance : Flds Tryz.prog 151 [0, 1, 2] := ⟨_, Tryz.underlying151, by kernel_rfl⟩
instance : Flds Tryz.prog 153 [0, 1] := ⟨_, Tryz.underlying153, by kernel_rfl⟩
instance : Flds Tryz.prog 156 [0] := ⟨_, Tryz.underlying156, by kernel_rfl⟩
instance : Flds Tryz.prog 158 [0, 1] := ⟨_, Tryz.underlying158, by kernel_rfl⟩
instance : Many Tryz.prog 158 2 := ⟨_, Tryz.underlying158, rfl, by kernel_rfl⟩
instance : Flds Tryz.prog 159 [0, 1] := ⟨_, Tryz.underlying159, by kernel_rfl⟩
instance : Many Tryz.prog 159 2 := ⟨_, Tryz.underlying159, rfl, by kernel_rfl⟩
instance : Flds Tryz.prog 167 [0, 1] := ⟨_, Tryz.underlying167, by kernel_rfl⟩
instance : Many Tryz.prog 167 2 := ⟨_, Tryz.underlying167, rfl, by kernel_rfl⟩
instance : Flds Tryz.prog 168 [0, 1] := ⟨_, Tryz.underlying168, by kernel_rfl⟩
instance : Many Tryz.prog 168 2 := ⟨_, Tryz.underlying168, rfl, by kernel_rfl⟩
instance : Flds Tryz.prog 173 [0] := ⟨_, Tryz.underlying173, by kernel_rfl⟩
instance : One Tryz.prog 184 := ⟨_, Tryz.underlying184, rfl⟩
instance : Flds Tryz.prog 219 [0, 1, 2, 3, 4] := ⟨_, Tryz.underlying219, by kernel_rfl⟩
instance : Many Tryz.prog 219 5 := ⟨_, Tryz.underlying219, rfl, by kernel_rfl⟩
instance : Flds Tryz.prog 225 [0, 1] := ⟨_, Tryz.underlying225, by kernel_rfl⟩
instance : Flds Tryz.prog 233 [0, 1, 2, 3, 4] := ⟨_, Tryz.underlying233, by kernel_rfl⟩
instance : Many Tryz.prog 233 5 := ⟨_, Tryz.underlying233, rfl, by kernel_rfl⟩
instance : One Tryz.prog 268 := ⟨_, Tryz.underlying268, rfl⟩
instance : One Tryz.prog 270 := ⟨_, Tryz.underlying270, rfl⟩
instance : Many Tryz.prog 274 8 := ⟨_, Tryz.underlying274, rfl, by kernel_rfl⟩
instance : Flds Tryz.prog 276 [0, 8, 9] := ⟨_, Tryz.underlying276, by kernel_rfl⟩
instance : Many Tryz.prog 280 16 := ⟨_, Tryz.underlying280, rfl, by kernel_rfl⟩
instance : One Tryz.prog 285 := ⟨_, Tryz.underlying285, rfl⟩
instance : Many Tryz.prog 292 64 := ⟨_, Tryz.underlying292, rfl, by kernel_rfl⟩
instance : Many Tryz.prog 299 3 := ⟨_, Tryz.underlying299, rfl, by kernel_rfl⟩
instance F2 : IsF Tryz.prog 2 := ⟨_, Tryz.func2, rfl, nm2⟩
instance F3 : IsF Tryz.prog 3 := ⟨_, Tryz.func3, rfl, nm3⟩
instance F4 : IsF Tryz.prog 4 := ⟨_, Tryz.func4, rfl, nm4⟩
instance F5 : IsF Tryz.prog 5 := ⟨_, Tryz.func5, rfl, nm5⟩
instance F6 : IsF Tryz.prog 6 := ⟨_, Tryz.func6, rfl, nm6⟩
instance F7 : IsF Tryz.prog 7 := ⟨_, Tryz.func7, rfl, nm7⟩
instance F8 : IsF Tryz.prog 8 := ⟨_, Tryz.func8, rfl, nm8⟩
instance F9 : IsF Tryz.prog 9 := ⟨_, Tryz.func9, rfl, nm9⟩
instance F10 : IsF Tryz.prog 10 := ⟨_, Tryz.func10, rfl, nm10⟩
instance F11 : IsF Tryz.prog 11 := ⟨_, Tryz.func11, rfl, nm11⟩
instance F12 : IsF Tryz.prog 12 := ⟨_, Tryz.func12, rfl, nm12⟩
instance F13 : IsF Tryz.prog 13 := ⟨_, Tryz.func13, rfl, nm13⟩
instance F14 : IsF Tryz.prog 14 := ⟨_, Tryz.func14, rfl, nm14⟩
instance F15 : IsF Tryz.prog 15 := ⟨_, Tryz.func15, rfl, nm15⟩
instance F16 : IsF Tryz.prog 16 := ⟨_, Tryz.func16, rfl, nm16⟩
instance F17 : IsF Tryz.prog 17 := ⟨_, Tryz.func17, rfl, nm17⟩
instance F18 : IsF Tryz.prog 18 := ⟨_, Tryz.func18, rfl, nm18⟩
instance F19 : IsF Tryz.prog 19 := ⟨_, Tryz.func19, rfl, nm19⟩
instance F20 : IsF Tryz.prog 20 := ⟨_, Tryz.func20, rfl, nm20⟩
instance F21 : IsF Tryz.prog 21 := ⟨_, Tryz.func21, rfl, nm21⟩
instance F22 : IsF Tryz.prog 22 := ⟨_, Tryz.func22, rfl, nm22⟩
instance F23 : IsF Tryz.prog 23 := ⟨_, Tryz.func23, rfl, nm23⟩
instance F24 : IsF Tryz.prog 24 := ⟨_, Tryz.func24, rfl, nm24⟩
instance F25 : IsF Tryz.prog 25 := ⟨_, Tryz.func25, rfl, nm25⟩
instance F26 : IsF Tryz.prog 26 := ⟨_, Tryz.func26, rfl, nm26⟩
instance F27 : IsF Tryz.prog 27 := ⟨_, Tryz.func27, rfl, nm27⟩
instance F28 : IsF Tryz.prog 28 := ⟨_, Tryz.func28, rfl, nm28⟩
instance F29 : IsF Tryz.prog 29 := ⟨_, Tryz.func29, rfl, nm29⟩
instance F30 : IsF Tryz.prog 30 := ⟨_, Tryz.func30, rfl, nm30⟩
instance F31 : IsF Tryz.prog 31 := ⟨_, Tryz.func31, rfl, nm31⟩
instance F32 : IsF Tryz.prog 32 := ⟨_, Tryz.func32, rfl, nm32⟩
instance F33 : IsF Tryz.prog 33 := ⟨_, Tryz.func33, rfl, nm33⟩
instance F34 : IsF Tryz.prog 34 := ⟨_, Tryz.func34, rfl, nm34⟩
instance F35 : IsF Tryz.prog 35 := ⟨_, Tryz.func35, rfl, nm35⟩
instance F36 : IsF Tryz.prog 36 := ⟨_, Tryz.func36, rfl, nm36⟩
instance F37 : IsF Tryz.prog 37 := ⟨_, Tryz.func37, rfl, nm37⟩
instance F38 : IsF Tryz.prog 38 := ⟨_, Tryz.func38, rfl, nm38⟩
instance F39 : IsF Tryz.prog 39 := ⟨_, Tryz.func39, rfl, nm39⟩
instance F40 : IsF Tryz.prog 40 := ⟨_, Tryz.func40, rfl, nm40⟩
instance F41 : IsF Tryz.prog 41 := ⟨_, Tryz.func41, rfl, nm41⟩
instance F42 : IsF Tryz.prog 42 := ⟨_, Tryz.func42, rfl, nm42⟩
instance F43 : IsF Tryz.prog 43 := ⟨_, Tryz.func43, rfl, nm43⟩
instance F44 : IsF Tryz.prog 44 := ⟨_, Tryz.func44, rfl, nm44⟩
instance F45 : IsF Tryz.prog 45 := ⟨_, Tryz.func45, rfl, nm45⟩
instance F46 : IsF Tryz.prog 46 := ⟨_, Tryz.func46, rfl, nm46⟩
instance F47 : IsF Tryz.prog 47 := ⟨_, Tryz.func47, rfl, nm47⟩
instance F48 : IsF Tryz.prog 48 := ⟨_, Tryz.func48, rfl, nm48⟩
instance F49 : IsF Tryz.prog 49 := ⟨_, Tryz.func49, rfl, nm49⟩
instance F50 : IsF Tryz.prog 50 := ⟨_, Tryz.func50, rfl, nm50⟩
instance F51 : IsF Tryz.prog 51 := ⟨_, Tryz.func51, rfl, nm51⟩
instance F52 : IsF Tryz.prog 52 := ⟨_, Tryz.func52, rfl, nm52⟩
instance F53 : IsF Tryz.prog 53 := ⟨_, Tryz.func53, rfl, nm53⟩
instance F54 : IsF Tryz.prog 54 := ⟨_, Tryz.func54, rfl, nm54⟩
instance F55 : IsF Tryz.prog 55 := ⟨_, Tryz.func55, rfl, nm55⟩
instance F56 : IsF Tryz.prog 56 := ⟨_, Tryz.func56, rfl, nm56⟩
instance F57 : IsF Tryz.prog 57 := ⟨_, Tryz.func57, rfl, nm57⟩
instance F58 : IsF Tryz.prog 58 := ⟨_, Tryz.func58, rfl, nm58⟩
instance F59 : IsF Tryz.prog 59 := ⟨_, Tryz.func59, rfl, nm59⟩
instance F60 : IsF Tryz.prog 60 := ⟨_, Tryz.func60, rfl, nm60⟩
instance F61 : IsF Tryz.prog 61 := ⟨_, Tryz.func61, rfl, nm61⟩
instance F62 : IsF Tryz.prog 62 := ⟨_, Tryz.func62, rfl, nm62⟩
instance F63 : IsF Tryz.prog 63 := ⟨_, Tryz.func63, rfl, nm63⟩
instance F64 : IsF Tryz.prog 64 := ⟨_, Tryz.func64, rfl, nm64⟩
instance F65 : IsF Tryz.prog 65 := ⟨_, Tryz.func65, rfl, nm65⟩
instance F66 : IsF Tryz.prog 66 := ⟨_, Tryz.func66, rfl, nm66⟩
instance F67 : IsF Tryz.prog 67 := ⟨_, Tryz.func67, rfl, nm67⟩
instance F68 : IsF Tryz.prog 68 := ⟨_, Tryz.func68, rfl, nm68⟩
instance F69 : IsF Tryz.prog 69 := ⟨_, Tryz.func69, rfl, nm69⟩
instance F70 : IsF Tryz.prog 70 := ⟨_, Tryz.func70, rfl, nm70⟩
instance F71 : IsF Tryz.prog 71 := ⟨_, Tryz.func71, rfl, nm71⟩
instance F72 : IsF Tryz.prog 72 := ⟨_, Tryz.func72, rfl, nm72⟩
instance F73 : IsF Tryz.prog 73 := ⟨_, Tryz.func73, rfl, nm73⟩
instance F74 : IsF Tryz.prog 74 := ⟨_, Tryz.func74, rfl, nm74⟩
instance F75 : IsF Tryz.prog 75 := ⟨_, Tryz.func75, rfl, nm75⟩
instance F76 : IsF Tryz.prog 76 := ⟨_, Tryz.func76, rfl, nm76⟩
instance F77 : IsF Tryz.prog 77 := ⟨_, Tryz.func77, rfl, nm77⟩
instance F78 : IsF Tryz.prog 78 := ⟨_, Tryz.func78, rfl, nm78⟩
instance F79 : IsF Tryz.prog 79 := ⟨_, Tryz.func79, rfl, nm79⟩
instance F80 : IsF Tryz.prog 80 := ⟨_, Tryz.func80, rfl, nm80⟩
instance F81 : IsF Tryz.prog 81 := ⟨_, Tryz.func81, rfl, nm81⟩
instance F82 : IsF Tryz.prog 82 := ⟨_, Tryz.func82, rfl, nm82⟩
instance F83 : IsF Tryz.prog 83 := ⟨_, Tryz.func83, rfl, nm83⟩
instance F84 : IsF Tryz.prog 84 := ⟨_, Tryz.func84, rfl, nm84⟩
instance F85 : IsF Tryz.prog 85 := ⟨_, Tryz.func85, rfl, nm85⟩
instance F86 : IsF Tryz.prog 86 := ⟨_, Tryz.func86, rfl, nm86⟩
instance F87 : IsF Tryz.prog 87 := ⟨_, Tryz.func87, rfl, nm87⟩
instance F88 : IsF Tryz.prog 88 := ⟨_, Tryz.func88, rfl, nm88⟩
instance F89 : IsF Tryz.prog 89 := ⟨_, Tryz.func89, rfl, nm89⟩
instance F90 : IsF Tryz.prog 90 := ⟨_, Tryz.func90, rfl, nm90⟩
instance F91 : IsF Tryz.prog 91 := ⟨_, Tryz.func91, rfl, nm91⟩
instance F92 : IsF Tryz.prog 92 := ⟨_, Tryz.func92, rfl, nm92⟩
instance F93 : IsF Tryz.prog 93 := ⟨_, Tryz.func93, rfl, nm93⟩
instance F94 : IsF Tryz.prog 94 := ⟨_, Tryz.func94, rfl, nm94⟩
instance F95 : IsF Tryz.prog 95 := ⟨_, Tryz.func95, rfl, nm95⟩
instance F96 : IsF Tryz.prog 96 := ⟨_, Tryz.func96, rfl, nm96⟩
instance F97 : IsF Tryz.prog 97 := ⟨_, Tryz.func97, rfl, nm97⟩
instance F98 : IsF Tryz.prog 98 := ⟨_, Tryz.func98, rfl, nm98⟩
instance F99 : IsF Tryz.prog 99 := ⟨_, Tryz.func99, rfl, nm99⟩
instance F100 : IsF Tryz.prog 100 := ⟨_, Tryz.func100, rfl, nm100⟩
instance F101 : IsF Tryz.prog 101 := ⟨_, Tryz.func101, rfl, nm101⟩
instance F102 : IsF Tryz.prog 102 := ⟨_, Tryz.func102, rfl, nm102⟩
instance F103 : IsF Tryz.prog 103 := ⟨_, Tryz.func103, rfl, nm103⟩
instance F104 : IsF Tryz.prog 104 := ⟨_, Tryz.func104, rfl, nm104⟩
instance F105 : IsF Tryz.prog 105 := ⟨_, Tryz.func105, rfl, nm105⟩
instance F106 : IsF Tryz.prog 106 := ⟨_, Tryz.func106, rfl, nm106⟩
instance F107 : IsF Tryz.prog 107 := ⟨_, Tryz.func107, rfl, nm107⟩
instance F108 : IsF Tryz.prog 108 := ⟨_, Tryz.func108, rfl, nm108⟩
instance F109 : IsF Tryz.prog 109 := ⟨_, Tryz.func109, rfl, nm109⟩
instance F110 : IsF Tryz.prog 110 := ⟨_, Tryz.func110, rfl, nm110⟩
instance F111 : IsF Tryz.prog 111 := ⟨_, Tryz.func111, rfl, nm111⟩
instance F112 : IsF Tryz.prog 112 := ⟨_, Tryz.func112, rfl, nm112⟩
instance F113 : IsF Tryz.prog 113 := ⟨_, Tryz.func113, rfl, nm113⟩
instance F114 : IsF Tryz.prog 114 := ⟨_, Tryz.func114, rfl, nm114⟩
instance F115 : IsF Tryz.prog 115 := ⟨_, Tryz.func115, rfl, nm115⟩
instance F116 : IsF Tryz.prog 116 := ⟨_, Tryz.func116, rfl, nm116⟩
instance F117 : IsF Tryz.prog 117 := ⟨_, Tryz.func117, rfl, nm117⟩
instance F118 : IsF Tryz.prog 118 := ⟨_, Tryz.func118, rfl, nm118⟩
instance F119 : IsF Tryz.prog 119 := ⟨_, Tryz.func119, rfl, nm119⟩
instance F120 : IsF Tryz.prog 120 := ⟨_, Tryz.func120, rfl, nm120⟩
instance F121 : IsF Tryz.prog 121 := ⟨_, Tryz.func121, rfl, nm121⟩
instance F122 : IsF Tryz.prog 122 := ⟨_, Tryz.func122, rfl, nm122⟩
instance F123 : IsF Tryz.prog 123 := ⟨_, Tryz.func123, rfl, nm123⟩
instance F124 : IsF Tryz.prog 124 := ⟨_, Tryz.func124, rfl, nm124⟩
instance F125 : IsF Tryz.prog 125 := ⟨_, Tryz.func125, rfl, nm125⟩
instance F126 : IsF Tryz.prog 126 := ⟨_, Tryz.func126, rfl, nm126⟩
instance F127 : IsF Tryz.prog 127 := ⟨_, Tryz.func127, rfl, nm127⟩
instance F128 : IsF Tryz.prog 128 := ⟨_, Tryz.func128, rfl, nm128⟩
instance F129 : IsF Tryz.prog 129 := ⟨_, Tryz.func129, rfl, nm129⟩
instance F130 : IsF Tryz.prog 130 := ⟨_, Tryz.func130, rfl, nm130⟩
instance F131 : IsF Tryz.prog 131 := ⟨_, Tryz.func131, rfl, nm131⟩
instance F132 : IsF Tryz.prog 132 := ⟨_, Tryz.func132, rfl, nm132⟩
instance F133 : IsF Tryz.prog 133 := ⟨_, Tryz.func133, rfl, nm133⟩
instance F134 : IsF Tryz.prog 134 := ⟨_, Tryz.func134, rfl, nm134⟩
instance F135 : IsF Tryz.prog 135 := ⟨_, Tryz.func135, rfl, nm135⟩
instance F136 : IsF Tryz.prog 136 := ⟨_, Tryz.func136, rfl, nm136⟩
instance F137 : IsF Tryz.prog 137 := ⟨_, Tryz.func137, rfl, nm137⟩
instance F138 : IsF Tryz.prog 138 := ⟨_, Tryz.func138, rfl, nm138⟩
instance F139 : IsF Tryz.prog 139 := ⟨_, Tryz.func139, rfl, nm139⟩
instance F141 : IsF Tryz.prog 141 := ⟨_, Tryz.func141, rfl, nm141⟩
instance F142 : IsF Tryz.prog 142 := ⟨_, Tryz.func142, rfl, nm142⟩
instance F143 : IsF Tryz.prog 143 := ⟨_, Tryz.func143, rfl, nm143⟩
instance F144 : IsF Tryz.prog 144 := ⟨_, Tryz.func144, rfl, nm144⟩
instance F145 : IsF Tryz.prog 145 := ⟨_, Tryz.func145, rfl, nm145⟩
instance F146 : IsF Tryz.prog 146 := ⟨_, Tryz.func146, rfl, nm146⟩
instance F147 : IsF Tryz.prog 147 := ⟨_, Tryz.func147, rfl, nm147⟩
instance F148 : IsF Tryz.prog 148 := ⟨_, Tryz.func148, rfl, nm148⟩
instance F149 : IsF Tryz.prog 149 := ⟨_, Tryz.func149, rfl, nm149⟩
instance F150 : IsF Tryz.prog 150 := ⟨_, Tryz.func150, rfl, nm150⟩
instance F151 : IsF Tryz.prog 151 := ⟨_, Tryz.func151, rfl, nm151⟩
instance F152 : IsF Tryz.prog 152 := ⟨_, Tryz.func152, rfl, nm152⟩
instance F153 : IsF Tryz.prog 153 := ⟨_, Tryz.func153, rfl, nm153⟩
instance F154 : IsF Tryz.prog 154 := ⟨_, Tryz.func154, rfl, nm154⟩
instance F155 : IsF Tryz.prog 155 := ⟨_, Tryz.func155, rfl, nm155⟩
instance F156 : IsF Tryz.prog 156 := ⟨_, Tryz.func156, rfl, nm156⟩
instance F157 : IsF Tryz.prog 157 := ⟨_, Tryz.func157, rfl, nm157⟩
instance F158 : IsF Tryz.prog 158 := ⟨_, Tryz.func158, rfl, nm158⟩
instance F159 : IsF Tryz.prog 159 := ⟨_, Tryz.func159, rfl, nm159⟩
instance F160 : IsF Tryz.prog 160 := ⟨_, Tryz.func160, rfl, nm160⟩
instance F161 : IsF Tryz.prog 161 := ⟨_, Tryz.func161, rfl, nm161⟩
instance F162 : IsF Tryz.prog 162 := ⟨_, Tryz.func162, rfl, nm162⟩
instance F163 : IsF Tryz.prog 163 := ⟨_, Tryz.func163, rfl, nm163⟩
instance F164 : IsF Tryz.prog 164 := ⟨_, Tryz.func164, rfl, nm164⟩
instance F165 : IsF Tryz.prog 165 := ⟨_, Tryz.func165, rfl, nm165⟩
instance F166 : IsF Tryz.prog 166 := ⟨_, Tryz.func166, rfl, nm166⟩
instance F167 : IsF Tryz.prog 167 := ⟨_, Tryz.func167, rfl, nm167⟩
instance F169 : IsF Tryz.prog 169 := ⟨_, Tryz.func169, rfl, nm169⟩
instance F170 : IsF Tryz.prog 170 := ⟨_, Tryz.func170, rfl, nm170⟩
instance F171 : IsF Tryz.prog 171 := ⟨_, Tryz.func171, rfl, nm171⟩
instance F172 : IsF Tryz.prog 172 := ⟨_, Tryz.func172, rfl, nm172⟩
instance F173 : IsF Tryz.prog 173 := ⟨_, Tryz.func173, rfl, nm173⟩
instance F174 : IsF Tryz.prog 174 := ⟨_, Tryz.func174, rfl, nm174⟩
instance F175 : IsF Tryz.prog 175 := ⟨_, Tryz.func175, rfl, nm175⟩
instance F176 : IsF Tryz.prog 176 := ⟨_, Tryz.func176, rfl, nm176⟩
instance F177 : IsF Tryz.prog 177 := ⟨_, Tryz.func177, rfl, nm177⟩
instance F178 : IsF Tryz.prog 178 := ⟨_, Tryz.func178, rfl, nm178⟩
instance F179 : IsF Tryz.prog 179 := ⟨_, Tryz.func179, rfl, nm179⟩
instance F180 : IsF Tryz.prog 180 := ⟨_, Tryz.func180, rfl, nm180⟩
instance F181 : IsF Tryz.prog 181 := ⟨_, Tryz.func181, rfl, nm181⟩
instance F182 : IsF Tryz.prog 182 := ⟨_, Tryz.func182, rfl, nm182⟩
instance F183 : IsF Tryz.prog 183 := ⟨_, Tryz.func183, rfl, nm183⟩
instance F184 : IsF Tryz.prog 184 := ⟨_, Tryz.func184, rfl, nm184⟩
instance F185 : IsF Tryz.prog 185 := ⟨_, Tryz.func185, rfl, nm185⟩
instance F186 : IsF Tryz.prog 186 := ⟨_, Tryz.func186, rfl, nm186⟩
instance F187 : IsF Tryz.prog 187 := ⟨_, Tryz.func187, rfl, nm187⟩
instance F188 : IsF Tryz.prog 188 := ⟨_, Tryz.func188, rfl, nm188⟩
instance F189 : IsF Tryz.prog 189 := ⟨_, Tryz.func189, rfl, nm189⟩
instance F190 : IsF Tryz.prog 190 := ⟨_, Tryz.func190, rfl, nm190⟩
instance F191 : IsF Tryz.prog 191 := ⟨_, Tryz.func191, rfl, nm191⟩
instance F192 : IsF Tryz.prog 192 := ⟨_, Tryz.func192, rfl, nm192⟩
instance F193 : IsF Tryz.prog 193 := ⟨_, Tryz.func193, rfl, nm193⟩
instance F194 : IsF Tryz.prog 194 := ⟨_, Tryz.func194, rfl, nm194⟩
instance F195 : IsF Tryz.prog 195 := ⟨_, Tryz.func195, rfl, nm195⟩
instance F196 : IsF Tryz.prog 196 := ⟨_, Tryz.func196, rfl, nm196⟩
instance F197 : IsF Tryz.prog 197 := ⟨_, Tryz.func197, rfl, nm197⟩
instance F198 : IsF Tryz.prog 198 := ⟨_, Tryz.func198, rfl, nm198⟩
instance F199 : IsF Tryz.prog 199 := ⟨_, Tryz.func199, rfl, nm199⟩
instance F200 : IsF Tryz.prog 200 := ⟨_, Tryz.func200, rfl, nm200⟩
instance F201 : IsF Tryz.prog 201 := ⟨_, Tryz.func201, rfl, nm201⟩
instance F202 : IsF Tryz.prog 202 := ⟨_, Tryz.func202, rfl, nm202⟩
instance F203 : IsF Tryz.prog 203 := ⟨_, Tryz.func203, rfl, nm203⟩
instance F204 : IsF Tryz.prog 204 := ⟨_, Tryz.func204, rfl, nm204⟩
instance F205 : IsF Tryz.prog 205 := ⟨_, Tryz.func205, rfl, nm205⟩
instance F206 : IsF Tryz.prog 206 := ⟨_, Tryz.func206, rfl, nm206⟩
instance F207 : IsF Tryz.prog 207 := ⟨_, Tryz.func207, rfl, nm207⟩
instance F208 : IsF Tryz.prog 208 := ⟨_, Tryz.func208, rfl, nm208⟩
instance F209 : IsF Tryz.prog 209 := ⟨_, Tryz.func209, rfl, nm209⟩
instance F210 : IsF Tryz.prog 210 := ⟨_, Tryz.func210, rfl, nm210⟩
instance F211 : IsF Tryz.prog 211 := ⟨_, Tryz.func211, rfl, nm211⟩
instance F212 : IsF Tryz.prog 212 := ⟨_, Tryz.func212, rfl, nm212⟩
instance F213 : IsF Tryz.prog 213 := ⟨_, Tryz.func213, rfl, nm213⟩
instance F214 : IsF Tryz.prog 214 := ⟨_, Tryz.func214, rfl, nm214⟩
instance F215 : IsF Tryz.prog 215 := ⟨_, Tryz.func215, rfl, nm215⟩
instance F216 : IsF Tryz.prog 216 := ⟨_, Tryz.func216, rfl, nm216⟩
instance F217 : IsF Tryz.prog 217 := ⟨_, Tryz.func217, rfl, nm217⟩
instance F218 : IsF Tryz.prog 218 := ⟨_, Tryz.func218, rfl, nm218⟩
instance F219 : IsF Tryz.prog 219 := ⟨_, Tryz.func219, rfl, nm219⟩
instance F220 : IsF Tryz.prog 220 := ⟨_, Tryz.func220, rfl, nm220⟩
instance F221 : IsF Tryz.prog 221 := ⟨_, Tryz.func221, rfl, nm221⟩
instance F222 : IsF Tryz.prog 222 := ⟨_, Tryz.func222, rfl, nm222⟩
instance F223 : IsF Tryz.prog 223 := ⟨_, Tryz.func223, rfl, nm223⟩
instance F224 : IsF Tryz.prog 224 := ⟨_, Tryz.func224, rfl, nm224⟩
instance F225 : IsF Tryz.prog 225 := ⟨_, Tryz.func225, rfl, nm225⟩
instance F226 : IsF Tryz.prog 226 := ⟨_, Tryz.func226, rfl, nm226⟩
instance F227 : IsF Tryz.prog 227 := ⟨_, Tryz.func227, rfl, nm227⟩
instance F228 : IsF Tryz.prog 228 := ⟨_, Tryz.func228, rfl, nm228⟩
instance F229 : IsF Tryz.prog 229 := ⟨_, Tryz.func229, rfl, nm229⟩
instance F230 : IsF Tryz.prog 230 := ⟨_, Tryz.func230, rfl, nm230⟩
instance F231 : IsF Tryz.prog 231 := ⟨_, Tryz.func231, rfl, nm231⟩
instance F232 : IsF Tryz.prog 232 := ⟨_, Tryz.func232, rfl, nm232⟩
instance F234 : IsF Tryz.prog 234 := ⟨_, Tryz.func234, rfl, nm234⟩

end Go.Proofs.YtmalblpdkpjbcaaGreat
