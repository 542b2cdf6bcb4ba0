import Derived.Test.YtanpinfhlbbjkaaGreatProg
import Derived.Test.YtanpinfhlbbjkaaGreatQClientSeesGo
set_option linter.unusedVariables false
set_option linter.unusedSimpArgs false
set_option maxRecDepth 100000
set_option maxHeartbeats 4000000
namespace Go.Proofs.YtanpinfhlbbjkaaGreat
open Go.RowKit Go.Ecal
theorem elB : Elem Tryz.prog 26 5 (.int .u8 0) 1 := ⟨Tryz.underlying26, by kernel_rfl, rfl⟩
theorem el_i64 : Elem Tryz.prog 95 3 (.int .i64 0) 8 := ⟨Tryz.underlying95, by kernel_rfl, rfl⟩
theorem nm2 : (Tryz.f2.name == "runtime.NumGoroutine") = false := by kernel_rfl
theorem nm3 : (Tryz.f3.name == "runtime.NumGoroutine") = false := by kernel_rfl
theorem nm4 : (Tryz.f4.name == "runtime.NumGoroutine") = false := by kernel_rfl
theorem nm5 : (Tryz.f5.name == "runtime.NumGoroutine") = false := by kernel_rfl
theorem nm6 : (Tryz.f6.name == "runtime.NumGoroutine") = false := by kernel_rfl
theorem nm7 : (Tryz.f7.name == "runtime.NumGoroutine") = false := by kernel_rfl
theorem nm8 : (Tryz.f8.name == "runtime.NumGoroutine") = false := by kernel_rfl
theorem nm9 : (Tryz.f9.name == "runtime.NumGoroutine") = false := by kernel_rfl
theorem nm10 : (Tryz.f10.name == "runtime.NumGoroutine") = false := by kernel_rfl
theorem nm11 : (Tryz.f11.name == "runtime.NumGoroutine") = false := by kernel_rfl
theorem nm12 : (Tryz.f12.name == "runtime.NumGoroutine") = false := by kernel_rfl
theorem nm13 : (Tryz.f13.name == "runtime.NumGoroutine") = false := by kernel_rfl
theorem nm14 : (Tryz.f14.name == "runtime.NumGoroutine") = false := by kernel_rfl
theorem nm15 : (Tryz.f15.name == "runtime.NumGoroutine") = false := by kernel_rfl
theorem nm16 : (Tryz.f16.name == "runtime.NumGoroutine") = false := by kernel_rfl
theorem nm17 : (Tryz.f17.name == "runtime.NumGoroutine") = false := by kernel_rfl
theorem nm18 : (Tryz.f18.name == "runtime.NumGoroutine") = false := by kernel_rfl
theorem nm19 : (Tryz.f19.name == "runtime.NumGoroutine") = false := by kernel_rfl
theorem nm20 : (Tryz.f20.name == "runtime.NumGoroutine") = false := by kernel_rfl
theorem nm21 : (Tryz.f21.name == "runtime.NumGoroutine") = false := by kernel_rfl
theorem nm22 : (Tryz.f22.name == "runtime.NumGoroutine") = false := by kernel_rfl
theorem nm23 : (Tryz.f23.name == "runtime.NumGoroutine") = false := by kernel_rfl
theorem nm24 : (Tryz.f24.name == "runtime.NumGoroutine") = false := by kernel_rfl
theorem nm25 : (Tryz.f25.name == "runtime.NumGoroutine") = false := by kernel_rfl
theorem nm26 : (Tryz.f26.name == "runtime.NumGoroutine") = false := by kernel_rfl
theorem nm27 : (Tryz.f27.name == "runtime.NumGoroutine") = false := by kernel_rfl
theorem nm28 : (Tryz.f28.name == "runtime.NumGoroutine") = false := by kernel_rfl
theorem nm29 : (Tryz.f29.name == "runtime.NumGoroutine") = false := by kernel_rfl
theorem nm30 : (Tryz.f30.name == "runtime.NumGoroutine") = false := by kernel_rfl
theorem nm31 : (Tryz.f31.name == "runtime.NumGoroutine") = false := by kernel_rfl
theorem nm32 : (Tryz.f32.name == "runtime.NumGoroutine") = false := by kernel_rfl
theorem nm33 : (Tryz.f33.name == "runtime.NumGoroutine") = false := by kernel_rfl
theorem nm34 : (Tryz.f34.name == "runtime.NumGoroutine") = false := by kernel_rfl
theorem nm35 : (Tryz.f35.name == "runtime.NumGoroutine") = false := by kernel_rfl
theorem nm36 : (Tryz.f36.name == "runtime.NumGoroutine") = false := by kernel_rfl
theorem nm37 : (Tryz.f37.name == "runtime.NumGoroutine") = false := by kernel_rfl
theorem nm38 : (Tryz.f38.name == "runtime.NumGoroutine") = false := by kernel_rfl
theorem nm39 : (Tryz.f39.name == "runtime.NumGoroutine") = false := by kernel_rfl
theorem nm40 : (Tryz.f40.name == "runtime.NumGoroutine") = false := by kernel_rfl
theorem nm41 : (Tryz.f41.name == "runtime.NumGoroutine") = false := by kernel_rfl
theorem nm42 : (Tryz.f42.name == "runtime.NumGoroutine") = false := by kernel_rfl
theorem nm43 : (Tryz.f43.name == "runtime.NumGoroutine") = false := by kernel_rfl
theorem nm44 : (Tryz.f44.name == "runtime.NumGoroutine") = false := by kernel_rfl
theorem nm45 : (Tryz.f45.name == "runtime.NumGoroutine") = false := by kernel_rfl
theorem nm46 : (Tryz.f46.name == "runtime.NumGoroutine") = false := by kernel_rfl
theorem nm47 : (Tryz.f47.name == "runtime.NumGoroutine") = false := by kernel_rfl
theorem nm48 : (Tryz.f48.name == "runtime.NumGoroutine") = false := by kernel_rfl
theorem nm49 : (Tryz.f49.name == "runtime.NumGoroutine") = false := by kernel_rfl
theorem nm50 : (Tryz.f50.name == "runtime.NumGoroutine") = false := by kernel_rfl
theorem nm51 : (Tryz.f51.name == "runtime.NumGoroutine") = false := by kernel_rfl
theorem nm52 : (Tryz.f52.name == "runtime.NumGoroutine") = false := by kernel_rfl
theorem nm53 : (Tryz.f53.name == "runtime.NumGoroutine") = false := by kernel_rfl
theorem nm54 : (Tryz.f54.name == "runtime.NumGoroutine") = false := by kernel_rfl
theorem nm55 : (Tryz.f55.name == "runtime.NumGoroutine") = false := by kernel_rfl
theorem nm56 : (Tryz.f56.name == "runtime.NumGoroutine") = false := by kernel_rfl
theorem nm57 : (Tryz.f57.name == "runtime.NumGoroutine") = false := by kernel_rfl
theorem nm58 : (Tryz.f58.name == "runtime.NumGoroutine") = false := by kernel_rfl
theorem nm59 : (Tryz.f59.name == "runtime.NumGoroutine") = false := by kernel_rfl
theorem nm60 : (Tryz.f60.name == "runtime.NumGoroutine") = false := by kernel_rfl
theorem nm61 : (Tryz.f61.name == "runtime.NumGoroutine") = false := by kernel_rfl
theorem nm62 : (Tryz.f62.name == "runtime.NumGoroutine") = false := by kernel_rfl
theorem nm63 : (Tryz.f63.name == "runtime.NumGoroutine") = false := by kernel_rfl
theorem nm64 : (Tryz.f64.name == "runtime.NumGoroutine") = false := by kernel_rfl
theorem nm65 : (Tryz.f65.name == "runtime.NumGoroutine") = false := by kernel_rfl
theorem nm66 : (Tryz.f66.name == "runtime.NumGoroutine") = false := by kernel_rfl
theorem nm67 : (Tryz.f67.name == "runtime.NumGoroutine") = false := by kernel_rfl
theorem nm68 : (Tryz.f68.name == "runtime.NumGoroutine") = false := by kernel_rfl
theorem nm69 : (Tryz.f69.name == "runtime.NumGoroutine") = false := by kernel_rfl
theorem nm70 : (Tryz.f70.name == "runtime.NumGoroutine") = false := by kernel_rfl
theorem nm71 : (Tryz.f71.name == "runtime.NumGoroutine") = false := by kernel_rfl
theorem nm72 : (Tryz.f72.name == "runtime.NumGoroutine") = false := by kernel_rfl
theorem nm73 : (Tryz.f73.name == "runtime.NumGoroutine") = false := by kernel_rfl
theorem nm74 : (Tryz.f74.name == "runtime.NumGoroutine") = false := by kernel_rfl
theorem nm75 : (Tryz.f75.name == "runtime.NumGoroutine") = false := by kernel_rfl
theorem nm76 : (Tryz.f76.name == "runtime.NumGoroutine") = false := by kernel_rfl
theorem nm77 : (Tryz.f77.name == "runtime.NumGoroutine") = false := by kernel_rfl
theorem nm78 : (Tryz.f78.name == "runtime.NumGoroutine") = false := by kernel_rfl
theorem nm79 : (Tryz.f79.name == "runtime.NumGoroutine") = false := by kernel_rfl
theorem nm80 : (Tryz.f80.name == "runtime.NumGoroutine") = false := by kernel_rfl
theorem nm81 : (Tryz.f81.name == "runtime.NumGoroutine") = false := by kernel_rfl
theorem nm82 : (Tryz.f82.name == "runtime.NumGoroutine") = false := by kernel_rfl
theorem nm83 : (Tryz.f83.name == "runtime.NumGoroutine") = false := by kernel_rfl
theorem nm84 : (Tryz.f84.name == "runtime.NumGoroutine") = false := by kernel_rfl
theorem nm85 : (Tryz.f85.name == "runtime.NumGoroutine") = false := by kernel_rfl
theorem nm86 : (Tryz.f86.name == "runtime.NumGoroutine") = false := by kernel_rfl
theorem nm87 : (Tryz.f87.name == "runtime.NumGoroutine") = false := by kernel_rfl
theorem nm88 : (Tryz.f88.name == "runtime.NumGoroutine") = false := by kernel_rfl
theorem nm89 : (Tryz.f89.name == "runtime.NumGoroutine") = false := by kernel_rfl
theorem nm90 : (Tryz.f90.name == "runtime.NumGoroutine") = false := by kernel_rfl
theorem nm91 : (Tryz.f91.name == "runtime.NumGoroutine") = false := by kernel_rfl
theorem nm92 : (Tryz.f92.name == "runtime.NumGoroutine") = false := by kernel_rfl
theorem nm93 : (Tryz.f93.name == "runtime.NumGoroutine") = false := by kernel_rfl
theorem nm94 : (Tryz.f94.name == "runtime.NumGoroutine") = false := by kernel_rfl
theorem nm95 : (Tryz.f95.name == "runtime.NumGoroutine") = false := by kernel_rfl
theorem nm96 : (Tryz.f96.name == "runtime.NumGoroutine") = false := by kernel_rfl
theorem nm97 : (Tryz.f97.name == "runtime.NumGoroutine") = false := by kernel_rfl
theorem nm98 : (Tryz.f98.name == "runtime.NumGoroutine") = false := by kernel_rfl
theorem nm99 : (Tryz.f99.name == "runtime.NumGoroutine") = false := by kernel_rfl
theorem nm100 : (Tryz.f100.name == "runtime.NumGoroutine") = false := by kernel_rfl
theorem nm101 : (Tryz.f101.name == "runtime.NumGoroutine") = false := by kernel_rfl
theorem nm102 : (Tryz.f102.name == "runtime.NumGoroutine") = false := by kernel_rfl
theorem nm103 : (Tryz.f103.name == "runtime.NumGoroutine") = false := by kernel_rfl
theorem nm104 : (Tryz.f104.name == "runtime.NumGoroutine") = false := by kernel_rfl
theorem nm105 : (Tryz.f105.name == "runtime.NumGoroutine") = false := by kernel_rfl
theorem nm106 : (Tryz.f106.name == "runtime.NumGoroutine") = false := by kernel_rfl
theorem nm107 : (Tryz.f107.name == "runtime.NumGoroutine") = false := by kernel_rfl
theorem nm108 : (Tryz.f108.name == "runtime.NumGoroutine") = false := by kernel_rfl
theorem nm109 : (Tryz.f109.name == "runtime.NumGoroutine") = false := by kernel_rfl
theorem nm110 : (Tryz.f110.name == "runtime.NumGoroutine") = false := by kernel_rfl
theorem nm111 : (Tryz.f111.name == "runtime.NumGoroutine") = false := by kernel_rfl
theorem nm112 : (Tryz.f112.name == "runtime.NumGoroutine") = false := by kernel_rfl
theorem nm113 : (Tryz.f113.name == "runtime.NumGoroutine") = false := by kernel_rfl
theorem nm114 : (Tryz.f114.name == "runtime.NumGoroutine") = false := by kernel_rfl
theorem nm115 : (Tryz.f115.name == "runtime.NumGoroutine") = false := by kernel_rfl
theorem nm116 : (Tryz.f116.name == "runtime.NumGoroutine") = false := by kernel_rfl
theorem nm117 : (Tryz.f117.name == "runtime.NumGoroutine") = false := by kernel_rfl
theorem nm118 : (Tryz.f118.name == "runtime.NumGoroutine") = false := by kernel_rfl
theorem nm119 : (Tryz.f119.name == "runtime.NumGoroutine") = false := by kernel_rfl
theorem nm120 : (Tryz.f120.name == "runtime.NumGoroutine") = false := by kernel_rfl
theorem nm121 : (Tryz.f121.name == "runtime.NumGoroutine") = false := by kernel_rfl
theorem nm122 : (Tryz.f122.name == "runtime.NumGoroutine") = false := by kernel_rfl
theorem nm123 : (Tryz.f123.name == "runtime.NumGoroutine") = false := by kernel_rfl
theorem nm124 : (Tryz.f124.name == "runtime.NumGoroutine") = false := by kernel_rfl
theorem nm125 : (Tryz.f125.name == "runtime.NumGoroutine") = false := by kernel_rfl
theorem nm126 : (Tryz.f126.name == "runtime.NumGoroutine") = false := by kernel_rfl
theorem nm127 : (Tryz.f127.name == "runtime.NumGoroutine") = false := by kernel_rfl
theorem nm128 : (Tryz.f128.name == "runtime.NumGoroutine") = false := by kernel_rfl
theorem nm129 : (Tryz.f129.name == "runtime.NumGoroutine") = false := by kernel_rfl
theorem nm130 : (Tryz.f130.name == "runtime.NumGoroutine") = false := by kernel_rfl
theorem nm131 : (Tryz.f131.name == "runtime.NumGoroutine") = false := by kernel_rfl
theorem nm132 : (Tryz.f132.name == "runtime.NumGoroutine") = false := by kernel_rfl
theorem nm133 : (Tryz.f133.name == "runtime.NumGoroutine") = false := by kernel_rfl
theorem nm134 : (Tryz.f134.name == "runtime.NumGoroutine") = false := by kernel_rfl
theorem nm135 : (Tryz.f135.name == "runtime.NumGoroutine") = false := by kernel_rfl
theorem nm136 : (Tryz.f136.name == "runtime.NumGoroutine") = false := by kernel_rfl
theorem nm137 : (Tryz.f137.name == "runtime.NumGoroutine") = false := by kernel_rfl
theorem nm138 : (Tryz.f138.name == "runtime.NumGoroutine") = false := by kernel_rfl
theorem nm139 : (Tryz.f139.name == "runtime.NumGoroutine") = false := by kernel_rfl
theorem nm140 : (Tryz.f140.name == "runtime.NumGoroutine") = false := by kernel_rfl
theorem nm141 : (Tryz.f141.name == "runtime.NumGoroutine") = false := by kernel_rfl
theorem nm142 : (Tryz.f142.name == "runtime.NumGoroutine") = false := by kernel_rfl
theorem nm143 : (Tryz.f143.name == "runtime.NumGoroutine") = false := by kernel_rfl
theorem nm144 : (Tryz.f144.name == "runtime.NumGoroutine") = false := by kernel_rfl
theorem nm145 : (Tryz.f145.name == "runtime.NumGoroutine") = false := by kernel_rfl
theorem nm146 : (Tryz.f146.name == "runtime.NumGoroutine") = false := by kernel_rfl
theorem nm147 : (Tryz.f147.name == "runtime.NumGoroutine") = false := by kernel_rfl
theorem nm148 : (Tryz.f148.name == "runtime.NumGoroutine") = false := by kernel_rfl
theorem nm149 : (Tryz.f149.name == "runtime.NumGoroutine") = false := by kernel_rfl
theorem nm150 : (Tryz.f150.name == "runtime.NumGoroutine") = false := by kernel_rfl
theorem nm151 : (Tryz.f151.name == "runtime.NumGoroutine") = false := by kernel_rfl
theorem nm152 : (Tryz.f152.name == "runtime.NumGoroutine") = false := by kernel_rfl
theorem nm153 : (Tryz.f153.name == "runtime.NumGoroutine") = false := by kernel_rfl
theorem nm154 : (Tryz.f154.name == "runtime.NumGoroutine") = false := by kernel_rfl
theorem nm155 : (Tryz.f155.name == "runtime.NumGoroutine") = false := by kernel_rfl
theorem nm156 : (Tryz.f156.name == "runtime.NumGoroutine") = false := by kernel_rfl
theorem nm157 : (Tryz.f157.name == "runtime.NumGoroutine") = false := by kernel_rfl
theorem nm158 : (Tryz.f158.name == "runtime.NumGoroutine") = false := by kernel_rfl
theorem nm159 : (Tryz.f159.name == "runtime.NumGoroutine") = false := by kernel_rfl
theorem nm160 : (Tryz.f160.name == "runtime.NumGoroutine") = false := by kernel_rfl
theorem nm161 : (Tryz.f161.name == "runtime.NumGoroutine") = false := by kernel_rfl
theorem nm162 : (Tryz.f162.name == "runtime.NumGoroutine") = false := by kernel_rfl
theorem nm163 : (Tryz.f163.name == "runtime.NumGoroutine") = false := by kernel_rfl
theorem nm164 : (Tryz.f164.name == "runtime.NumGoroutine") = false := by kernel_rfl
theorem nm165 : (Tryz.f165.name == "runtime.NumGoroutine") = false := by kernel_rfl
theorem nm166 : (Tryz.f166.name == "runtime.NumGoroutine") = false := by kernel_rfl
theorem nm167 : (Tryz.f167.name == "runtime.NumGoroutine") = false := by kernel_rfl
theorem nm168 : (Tryz.f168.name == "runtime.NumGoroutine") = false := by kernel_rfl
theorem nm169 : (Tryz.f169.name == "runtime.NumGoroutine") = false := by kernel_rfl
theorem nm170 : (Tryz.f170.name == "runtime.NumGoroutine") = false := by kernel_rfl
theorem nm171 : (Tryz.f171.name == "runtime.NumGoroutine") = false := by kernel_rfl
theorem nm172 : (Tryz.f172.name == "runtime.NumGoroutine") = false := by kernel_rfl
theorem nm173 : (Tryz.f173.name == "runtime.NumGoroutine") = false := by kernel_rfl
theorem nm174 : (Tryz.f174.name == "runtime.NumGoroutine") = false := by kernel_rfl
theorem nm175 : (Tryz.f175.name == "runtime.NumGoroutine") = false := by kernel_rfl
theorem nm176 : (Tryz.f176.name == "runtime.NumGoroutine") = false := by kernel_rfl
theorem nm178 : (Tryz.f178.name == "runtime.NumGoroutine") = false := by kernel_rfl
theorem nm179 : (Tryz.f179.name == "runtime.NumGoroutine") = false := by kernel_rfl
theorem nm180 : (Tryz.f180.name == "runtime.NumGoroutine") = false := by kernel_rfl
theorem nm181 : (Tryz.f181.name == "runtime.NumGoroutine") = false := by kernel_rfl
theorem nm182 : (Tryz.f182.name == "runtime.NumGoroutine") = false := by kernel_rfl
theorem nm183 : (Tryz.f183.name == "runtime.NumGoroutine") = false := by kernel_rfl
theorem nm184 : (Tryz.f184.name == "runtime.NumGoroutine") = false := by kernel_rfl
theorem nm185 : (Tryz.f185.name == "runtime.NumGoroutine") = false := by kernel_rfl
theorem nm186 : (Tryz.f186.name == "runtime.NumGoroutine") = false := by kernel_rfl
theorem nm187 : (Tryz.f187.name == "runtime.NumGoroutine") = false := by kernel_rfl
theorem nm188 : (Tryz.f188.name == "runtime.NumGoroutine") = false := by kernel_rfl
theorem nm189 : (Tryz.f189.name == "runtime.NumGoroutine") = false := by kernel_rfl
theorem nm190 : (Tryz.f190.name == "runtime.NumGoroutine") = false := by kernel_rfl
theorem nm191 : (Tryz.f191.name == "runtime.NumGoroutine") = false := by kernel_rfl
theorem nm192 : (Tryz.f192.name == "runtime.NumGoroutine") = false := by kernel_rfl
theorem nm193 : (Tryz.f193.name == "runtime.NumGoroutine") = false := by kernel_rfl
theorem nm194 : (Tryz.f194.name == "runtime.NumGoroutine") = false := by kernel_rfl
theorem nm195 : (Tryz.f195.name == "runtime.NumGoroutine") = false := by kernel_rfl
theorem nm196 : (Tryz.f196.name == "runtime.NumGoroutine") = false := by kernel_rfl
theorem nm197 : (Tryz.f197.name == "runtime.NumGoroutine") = false := by kernel_rfl
theorem nm198 : (Tryz.f198.name == "runtime.NumGoroutine") = false := by kernel_rfl
theorem nm199 : (Tryz.f199.name == "runtime.NumGoroutine") = false := by kernel_rfl
theorem nm200 : (Tryz.f200.name == "runtime.NumGoroutine") = false := by kernel_rfl
theorem nm201 : (Tryz.f201.name == "runtime.NumGoroutine") = false := by kernel_rfl
theorem nm202 : (Tryz.f202.name == "runtime.NumGoroutine") = false := by kernel_rfl
theorem nm203 : (Tryz.f203.name == "runtime.NumGoroutine") = false := by kernel_rfl
theorem nm204 : (Tryz.f204.name == "runtime.NumGoroutine") = false := by kernel_rfl
theorem nm205 : (Tryz.f205.name == "runtime.NumGoroutine") = false := by kernel_rfl
theorem nm206 : (Tryz.f206.name == "runtime.NumGoroutine") = false := by kernel_rfl
theorem nm207 : (Tryz.f207.name == "runtime.NumGoroutine") = false := by kernel_rfl
theorem nm208 : (Tryz.f208.name == "runtime.NumGoroutine") = false := by kernel_rfl
theorem nm210 : (Tryz.f210.name == "runtime.NumGoroutine") = false := by kernel_rfl
theorem nm211 : (Tryz.f211.name == "runtime.NumGoroutine") = false := by kernel_rfl
theorem nm212 : (Tryz.f212.name == "runtime.NumGoroutine") = false := by kernel_rfl
theorem nm213 : (Tryz.f213.name == "runtime.NumGoroutine") = false := by kernel_rfl
theorem nm214 : (Tryz.f214.name == "runtime.NumGoroutine") = false := by kernel_rfl
theorem nm215 : (Tryz.f215.name == "runtime.NumGoroutine") = false := by kernel_rfl
theorem nm216 : (Tryz.f216.name == "runtime.NumGoroutine") = false := by kernel_rfl
theorem nm217 : (Tryz.f217.name == "runtime.NumGoroutine") = false := by kernel_rfl
theorem nm218 : (Tryz.f218.name == "runtime.NumGoroutine") = false := by kernel_rfl
theorem nm219 : (Tryz.f219.name == "runtime.NumGoroutine") = false := by kernel_rfl
theorem nm220 : (Tryz.f220.name == "runtime.NumGoroutine") = false := by kernel_rfl
theorem nm221 : (Tryz.f221.name == "runtime.NumGoroutine") = false := by kernel_rfl
theorem nm222 : (Tryz.f222.name == "runtime.NumGoroutine") = false := by kernel_rfl
theorem nm223 : (Tryz.f223.name == "runtime.NumGoroutine") = false := by kernel_rfl
theorem nm224 : (Tryz.f224.name == "runtime.NumGoroutine") = false := by kernel_rfl
theorem nm225 : (Tryz.f225.name == "runtime.NumGoroutine") = false := by kernel_rfl
theorem nm226 : (Tryz.f226.name == "runtime.NumGoroutine") = false := by kernel_rfl
theorem nm227 : (Tryz.f227.name == "runtime.NumGoroutine") = false := by kernel_rfl
theorem nm228 : (Tryz.f228.name == "runtime.NumGoroutine") = false := by kernel_rfl
theorem nm229 : (Tryz.f229.name == "runtime.NumGoroutine") = false := by kernel_rfl
theorem nm230 : (Tryz.f230.name == "runtime.NumGoroutine") = false := by kernel_rfl
theorem nm231 : (Tryz.f231.name == "runtime.NumGoroutine") = false := by kernel_rfl
theorem nm232 : (Tryz.f232.name == "runtime.NumGoroutine") = false := by kernel_rfl
theorem nm233 : (Tryz.f233.name == "runtime.NumGoroutine") = false := by kernel_rfl
theorem nm234 : (Tryz.f234.name == "runtime.NumGoroutine") = false := by kernel_rfl
theorem nm235 : (Tryz.f235.name == "runtime.NumGoroutine") = false := by kernel_rfl
theorem nm236 : (Tryz.f236.name == "runtime.NumGoroutine") = false := by kernel_rfl
theorem nm237 : (Tryz.f237.name == "runtime.NumGoroutine") = false := by kernel_rfl
theorem nm238 : (Tryz.f238.name == "runtime.NumGoroutine") = false := by kernel_rfl
theorem nm239 : (Tryz.f239.name == "runtime.NumGoroutine") = false := by kernel_rfl
theorem nm240 : (Tryz.f240.name == "runtime.NumGoroutine") = false := by kernel_rfl
theorem nm241 : (Tryz.f241.name == "runtime.NumGoroutine") = false := by kernel_rfl
theorem nm242 : (Tryz.f242.name == "runtime.NumGoroutine") = false := by kernel_rfl
theorem nm243 : (Tryz.f243.name == "runtime.NumGoroutine") = false := by kernel_rfl
theorem nm244 : (Tryz.f244.name == "runtime.NumGoroutine") = false := by kernel_rfl
theorem nm245 : (Tryz.f245.name == "runtime.NumGoroutine") = false := by kernel_rfl
theorem nm246 : (Tryz.f246.name == "runtime.NumGoroutine") = false := by kernel_rfl
theorem nm247 : (Tryz.f247.name == "runtime.NumGoroutine") = false := by kernel_rfl
theorem nm248 : (Tryz.f248.name == "runtime.NumGoroutine") = false := by kernel_rfl
theorem nm249 : (Tryz.f249.name == "runtime.NumGoroutine") = false := by kernel_rfl
theorem nm250 : (Tryz.f250.name == "runtime.NumGoroutine") = false := by kernel_rfl
theorem nm251 : (Tryz.f251.name == "runtime.NumGoroutine") = false := by kernel_rfl
theorem nm252 : (Tryz.f252.name == "runtime.NumGoroutine") = false := by kernel_rfl
theorem nm253 : (Tryz.f253.name == "runtime.NumGoroutine") = false := by kernel_rfl
theorem nm254 : (Tryz.f254.name == "runtime.NumGoroutine") = false := by kernel_rfl
theorem nm255 : (Tryz.f255.name == "runtime.NumGoroutine") = false := by kernel_rfl
theorem nm256 : (Tryz.f256.name == "runtime.NumGoroutine") = false := by kernel_rfl
theorem nm257 : (Tryz.f257.name == "runtime.NumGoroutine") = false := by kernel_rfl
theorem nm258 : (Tryz.f258.name == "runtime.NumGoroutine") = false := by kernel_rfl
theorem nm259 : (Tryz.f259.name == "runtime.NumGoroutine") = false := by kernel_rfl
theorem nm260 : (Tryz.f260.name == "runtime.NumGoroutine") = false := by kernel_rfl
theorem nm261 : (Tryz.f261.name == "runtime.NumGoroutine") = false := by kernel_rfl
theorem nm262 : (Tryz.f262.name == "runtime.NumGoroutine") = false := by kernel_rfl
theorem nm263 : (Tryz.f263.name == "runtime.NumGoroutine") = false := by kernel_rfl
theorem nm264 : (Tryz.f264.name == "runtime.NumGoroutine") = false := by kernel_rfl
theorem nm265 : (Tryz.f265.name == "runtime.NumGoroutine") = false := by kernel_rfl
theorem nm266 : (Tryz.f266.name == "runtime.NumGoroutine") = false := by kernel_rfl
theorem nm267 : (Tryz.f267.name == "runtime.NumGoroutine") = false := by kernel_rfl
theorem nm268 : (Tryz.f268.name == "runtime.NumGoroutine") = false := by kernel_rfl
theorem nm269 : (Tryz.f269.name == "runtime.NumGoroutine") = false := by kernel_rfl
theorem nm270 : (Tryz.f270.name == "runtime.NumGoroutine") = false := by kernel_rfl
theorem nm271 : (Tryz.f271.name == "runtime.NumGoroutine") = false := by kernel_rfl
theorem nm272 : (Tryz.f272.name == "runtime.NumGoroutine") = false := by kernel_rfl
theorem nm273 : (Tryz.f273.name == "runtime.NumGoroutine") = false := by kernel_rfl
theorem nm275 : (Tryz.f275.name == "runtime.NumGoroutine") = false := by kernel_rfl
theorem nm276 : (Tryz.f276.name == "runtime.NumGoroutine") = false := by kernel_rfl
theorem el_33 : Elem Tryz.prog 33 26 (.slice none 0 0) 24 := ⟨Tryz.underlying33, by kernel_rfl, rfl⟩
theorem el_146 : Elem Tryz.prog 146 20 (.nilIface) 16 := ⟨Tryz.underlying146, by kernel_rfl, rfl⟩
theorem st_29 : StructT Tryz.prog 29 #[(0, 1), (1, 1), (2, 1), (3, 1), (4, 1), (5, 1), (6, 1), (7, 1), (8, 1)] #[.int .i64 0, .int .i64 0, .int .i64 0, .slice none 0 0, .slice none 0 0, .int .i64 0, .int .i64 0, .int .i64 0, .slice none 0 0] := ⟨_, Tryz.underlying29, fun _ => by kernel_rfl, by kernel_rfl⟩
theorem st_42 : StructT Tryz.prog 42 #[(0, 1), (1, 1), (2, 1), (3, 1)] #[.int .i64 0, .int .i64 0, .int .i64 0, .slice none 0 0] := ⟨_, Tryz.underlying42, fun _ => by kernel_rfl, by kernel_rfl⟩
theorem st_46 : StructT Tryz.prog 46 #[(0, 1), (1, 1)] #[.int .i64 0, .slice none 0 0] := ⟨_, Tryz.underlying46, fun _ => by kernel_rfl, by kernel_rfl⟩
theorem st_63 : StructT Tryz.prog 63 #[(0, 1), (1, 1), (2, 1)] #[.int .i64 0, .int .i64 0, .slice none 0 0] := ⟨_, Tryz.underlying63, fun _ => by kernel_rfl, by kernel_rfl⟩
theorem st_68 : StructT Tryz.prog 68 #[(0, 1), (1, 1), (2, 1), (3, 1), (4, 1)] #[.int .i64 0, .int .i64 0, .int .i64 0, .slice none 0 0, .slice none 0 0] := ⟨_, Tryz.underlying68, fun _ => by kernel_rfl, by kernel_rfl⟩
theorem st_81 : StructT Tryz.prog 81 #[(0, 1), (1, 1), (2, 1), (3, 1), (4, 1), (5, 1), (6, 1), (7, 1), (8, 1)] #[.int .i64 0, .int .i64 0, .int .i64 0, .slice none 0 0, .slice none 0 0, .int .i64 0, .int .i64 0, .int .i64 0, .slice none 0 0] := ⟨_, Tryz.underlying81, fun _ => by kernel_rfl, by kernel_rfl⟩
theorem st_113 : StructT Tryz.prog 113 #[(0, 1), (1, 1)] #[.int .i64 0, .slice none 0 0] := ⟨_, Tryz.underlying113, fun _ => by kernel_rfl, by kernel_rfl⟩
theorem st_116 : StructT Tryz.prog 116 #[(0, 1), (1, 4), (5, 1), (6, 1), (7, 1), (8, 1), (9, 1)] #[.pointer none, .int .i64 0, .int .i64 0, .int .i64 0, .slice none 0 0, .pointer none, .slice none 0 0, .int .i64 0, .int .i64 0, .bool false] := ⟨_, Tryz.underlying116, fun _ => by kernel_rfl, by kernel_rfl⟩
theorem st_122 : StructT Tryz.prog 122 #[(0, 9), (9, 1)] #[.int .i64 0, .int .i64 0, .int .i64 0, .slice none 0 0, .slice none 0 0, .int .i64 0, .int .i64 0, .int .i64 0, .slice none 0 0, .slice none 0 0] := ⟨_, Tryz.underlying122, fun _ => by kernel_rfl, by kernel_rfl⟩
theorem st_128 : StructT Tryz.prog 128 #[(0, 1), (1, 1), (2, 1), (3, 1), (4, 1)] #[.bool false, .slice none 0 0, .int .i64 0, .slice none 0 0, .map none] := ⟨_, Tryz.underlying128, fun _ => by kernel_rfl, by kernel_rfl⟩
theorem st_155 : StructT Tryz.prog 155 #[(0, 1)] #[.map none] := ⟨_, Tryz.underlying155, fun _ => by kernel_rfl, by kernel_rfl⟩
theorem st_157 : StructT Tryz.prog 157 #[(0, 1), (1, 1)] #[.slice none 0 0, .slice none 0 0] := ⟨_, Tryz.underlying157, fun _ => by kernel_rfl, by kernel_rfl⟩
theorem st_161 : StructT Tryz.prog 161 #[(0, 1), (1, 1)] #[.slice none 0 0, .slice none 0 0] := ⟨_, Tryz.underlying161, fun _ => by kernel_rfl, by kernel_rfl⟩
theorem st_166 : StructT Tryz.prog 166 #[(0, 1), (1, 4), (5, 1), (6, 3), (9, 1), (10, 1), (11, 17)] #[.pointer none, .int .i64 0, .int .i64 0, .int .i64 0, .slice none 0 0, .pointer none, .int .i64 0, .int .i64 0, .slice none 0 0, .pointer none, .pointer none, .int .i64 0, .int .i64 0, .int .i64 0, .int .i64 0, .int .i64 0, .int .i64 0, .int .i64 0, .int .i64 0, .int .i64 0, .int .i64 0, .int .i64 0, .int .i64 0, .int .i64 0, .int .i64 0, .int .i64 0, .int .i64 0, .int .i64 0] := ⟨_, Tryz.underlying166, fun _ => by kernel_rfl, by kernel_rfl⟩
theorem st_196 : StructT Tryz.prog 196 #[(0, 1), (1, 1), (2, 1), (3, 1), (4, 1)] #[.int .i64 0, .int .i64 0, .int .i64 0, .int .i64 0, .slice none 0 0] := ⟨_, Tryz.underlying196, fun _ => by kernel_rfl, by kernel_rfl⟩
theorem st_206 : StructT Tryz.prog 206 #[(0, 1), (1, 1), (2, 1)] #[.pointer none, .slice none 0 0, .slice none 0 0] := ⟨_, Tryz.underlying206, fun _ => by kernel_rfl, by kernel_rfl⟩
theorem st_211 : StructT Tryz.prog 211 #[(0, 1), (1, 1)] #[.int .i64 0, .int .i64 0] := ⟨_, Tryz.underlying211, fun _ => by kernel_rfl, by kernel_rfl⟩
theorem st_216 : StructT Tryz.prog 216 #[(0, 1), (1, 1), (2, 1), (3, 1), (4, 1)] #[.int .u8 0, .string .empty, .string .empty, .string .empty, .string .empty] := ⟨_, Tryz.underlying216, fun _ => by kernel_rfl, by kernel_rfl⟩
theorem st_223 : StructT Tryz.prog 223 #[(0, 1), (1, 1)] #[.slice none 0 0, .bool false] := ⟨_, Tryz.underlying223, fun _ => by kernel_rfl, by kernel_rfl⟩
theorem st_252 : StructT Tryz.prog 252 #[(0, 17)] #[.slice none 0 0, .slice none 0 0, .slice none 0 0, .slice none 0 0, .slice none 0 0, .slice none 0 0, .slice none 0 0, .slice none 0 0, .slice none 0 0, .slice none 0 0, .slice none 0 0, .slice none 0 0, .slice none 0 0, .slice none 0 0, .slice none 0 0, .slice none 0 0, .slice none 0 0] := ⟨_, Tryz.underlying252, fun _ => by kernel_rfl, by kernel_rfl⟩
abbrev U3 := @Tryz.underlying3
abbrev U5 := @Tryz.underlying5
abbrev U9 := @Tryz.underlying9
abbrev U20 := @Tryz.underlying20
abbrev U22 := @Tryz.underlying22
abbrev U24 := @Tryz.underlying24
abbrev U26 := @Tryz.underlying26
abbrev U27 := @Tryz.underlying27
abbrev U29 := @Tryz.underlying29
abbrev U31 := @Tryz.underlying31
abbrev U33 := @Tryz.underlying33
abbrev U46 := @Tryz.underlying46
abbrev U48 := @Tryz.underlying48
abbrev U61 := @Tryz.underlying61
abbrev U63 := @Tryz.underlying63
abbrev U73 := @Tryz.underlying73
abbrev U76 := @Tryz.underlying76
abbrev U79 := @Tryz.underlying79
abbrev U95 := @Tryz.underlying95
abbrev U113 := @Tryz.underlying113
abbrev U114 := @Tryz.underlying114
abbrev U122 := @Tryz.underlying122
abbrev U125 := @Tryz.underlying125
abbrev U126 := @Tryz.underlying126
abbrev U146 := @Tryz.underlying146
abbrev U148 := @Tryz.underlying148
abbrev U153 := @Tryz.underlying153
abbrev U157 := @Tryz.underlying157
abbrev U161 := @Tryz.underlying161
abbrev U164 := @Tryz.underlying164
abbrev U191 := @Tryz.underlying191
abbrev U211 := @Tryz.underlying211
abbrev U216 := @Tryz.underlying216
abbrev U250 := @Tryz.underlying250
instance : One Tryz.prog 3 := ⟨_, Tryz.underlying3, rfl⟩
instance : One Tryz.prog 4 := ⟨_, Tryz.underlying4, rfl⟩
instance : One Tryz.prog 5 := ⟨_, Tryz.underlying5, rfl⟩
instance : One Tryz.prog 9 := ⟨_, Tryz.underlying9, rfl⟩
instance : One Tryz.prog 20 := ⟨_, Tryz.underlying20, rfl⟩
instance : One Tryz.prog 24 := ⟨_, Tryz.underlying24, rfl⟩
instance : One Tryz.prog 26 := ⟨_, Tryz.underlying26, rfl⟩
instance : One Tryz.prog 27 := ⟨_, Tryz.underlying27, rfl⟩
instance : Flds Tryz.prog 29 [0, 1, 2, 3, 4, 5, 6, 7, 8] := ⟨_, Tryz.underlying29, by kernel_rfl⟩
instance : Many Tryz.prog 29 9 := ⟨_, Tryz.underlying29, rfl, by kernel_rfl⟩
instance : One Tryz.prog 31 := ⟨_, Tryz.underlying31, rfl⟩
instance : One Tryz.prog 33 := ⟨_, Tryz.underlying33, rfl⟩
instance : One Tryz.prog 39 := ⟨_, Tryz.underlying39, rfl⟩
instance : Flds Tryz.prog 42 [0, 1, 2, 3] := ⟨_, Tryz.underlying42, by kernel_rfl⟩
instance : Many Tryz.prog 42 4 := ⟨_, Tryz.underlying42, rfl, by kernel_rfl⟩
instance : Flds Tryz.prog 46 [0, 1] := ⟨_, Tryz.underlying46, by kernel_rfl⟩
instance : Many Tryz.prog 46 2 := ⟨_, Tryz.underlying46, rfl, by kernel_rfl⟩
instance : One Tryz.prog 61 := ⟨_, Tryz.underlying61, rfl⟩
instance : Flds Tryz.prog 63 [0, 1, 2] := ⟨_, Tryz.underlying63, by kernel_rfl⟩
instance : Many Tryz.prog 63 3 := ⟨_, Tryz.underlying63, rfl, by kernel_rfl⟩
instance : One Tryz.prog 64 := ⟨_, Tryz.underlying64, rfl⟩
instance : Flds Tryz.prog 68 [0, 1, 2, 3, 4] := ⟨_, Tryz.underlying68, by kernel_rfl⟩
instance : Many Tryz.prog 68 5 := ⟨_, Tryz.underlying68, rfl, by kernel_rfl⟩
instance : One Tryz.prog 76 := ⟨_, Tryz.underlying76, rfl⟩
instance : One Tryz.prog 79 := ⟨_, Tryz.underlying79, rfl⟩
instance : Flds Tryz.prog 81 [0, 1, 2, 3, 4, 5, 6, 7, 8] := ⟨_, Tryz.underlying81, by kernel_rfl⟩
instance : Many Tryz.prog 81 9 := ⟨_, Tryz.underlying81, rfl, by kernel_rfl⟩
instance : One Tryz.prog 85 := ⟨_, Tryz.underlying85, rfl⟩
instance : One Tryz.prog 95 := ⟨_, Tryz.underlying95, rfl⟩
instance : Flds Tryz.prog 97 [0, 1, 2, 3, 12, 13] := ⟨_, Tryz.underlying97, by kernel_rfl⟩
instance : Many Tryz.prog 97 14 := ⟨_, Tryz.underlying97, rfl, by kernel_rfl⟩
instance : One Tryz.prog 101 := ⟨_, Tryz.underlying101, rfl⟩
instance : One Tryz.prog 102 := ⟨_, Tryz.underlying102, rfl⟩
instance : Flds Tryz.prog 105 [0, 2, 3, 4, 6] := ⟨_, Tryz.underlying105, by kernel_rfl⟩
instance : One Tryz.prog 106 := ⟨_, Tryz.underlying106, rfl⟩
instance : Flds Tryz.prog 108 [0] := ⟨_, Tryz.underlying108, by kernel_rfl⟩
instance : Flds Tryz.prog 113 [0, 1] := ⟨_, Tryz.underlying113, by kernel_rfl⟩
instance : Many Tryz.prog 113 2 := ⟨_, Tryz.underlying113, rfl, by kernel_rfl⟩
instance : One Tryz.prog 114 := ⟨_, Tryz.underlying114, rfl⟩
instance : Flds Tryz.prog 116 [0, 1, 5, 6, 7, 8, 9] := ⟨_, Tryz.underlying116, by kernel_rfl⟩
instance : Flds Tryz.prog 122 [0, 9] := ⟨_, Tryz.underlying122, by kernel_rfl⟩
instance : Many Tryz.prog 122 10 := ⟨_, Tryz.underlying122, rfl, by kernel_rfl⟩
instance : One Tryz.prog 125 := ⟨_, Tryz.underlying125, rfl⟩
instance : One Tryz.prog 126 := ⟨_, Tryz.underlying126, rfl⟩
instance : Flds Tryz.prog 128 [0, 1, 2, 3, 4] := ⟨_, Tryz.underlying128, by kernel_rfl⟩
instance : One Tryz.prog 131 := ⟨_, Tryz.underlying131, rfl⟩
instance : One Tryz.prog 142 := ⟨_, Tryz.underlying142, rfl⟩
instance : One Tryz.prog 148 := ⟨_, Tryz.underlying148, rfl⟩
instance : One Tryz.prog 153 := ⟨_, Tryz.underlying153, rfl⟩
instance : Flds Tryz.prog 155 [0] := ⟨_, Tryz.underlying155, by kernel_rfl⟩
instance : Many Tryz.prog 157 2 := ⟨_, Tryz.underlying157, rfl, by kernel_rfl⟩
instance : Flds Tryz.prog 161 [0, 1] := ⟨_, Tryz.underlying161, by kernel_rfl⟩
instance : Many Tryz.prog 161 2 := ⟨_, Tryz.underlying161, rfl, by kernel_rfl⟩
instance : Flds Tryz.prog 162 [0, 1] := ⟨_, Tryz.underlying162, by kernel_rfl⟩
instance : Many Tryz.prog 162 2 := ⟨_, Tryz.underlying162, rfl, by kernel_rfl⟩
instance : One Tryz.prog 163 := ⟨_, Tryz.underlying163, rfl⟩
instance : Flds Tryz.prog 166 [0, 1, 5, 6, 9, 10, 11] := ⟨_, Tryz.underlying166, by kernel_rfl⟩
instance : One Tryz.prog 171 := ⟨_, Tryz.underlying171, rfl⟩
instance : One Tryz.prog 172 := ⟨_, Tryz.underlying172, rfl⟩
instance : Flds Tryz.prog 174 [0, 1, 2, 3, 4, 5] := ⟨_, Tryz.underlying174, by kernel_rfl⟩
instance : Flds Tryz.prog 177 [0, 1] := ⟨_, Tryz.underlying177, by kernel_rfl⟩
instance : One Tryz.prog 178 := ⟨_, Tryz.underlying178, rfl⟩
instance : Flds Tryz.prog 180 [0, 1, 2] := ⟨_, Tryz.underlying180, by kernel_rfl⟩
instance : Many Tryz.prog 180 19 := ⟨_, Tryz.underlying180, rfl, by kernel_rfl⟩
instance : One Tryz.prog 181 := ⟨_, Tryz.underlying181, rfl⟩
instance : Flds Tryz.prog 183 [0, 1, 2, 3, 4, 23, 24, 25] := ⟨_, Tryz.underlying183, by kernel_rfl⟩
instance : Flds Tryz.prog 185 [0, 1, 2, 3, 4] := ⟨_, Tryz.underlying185, by kernel_rfl⟩
instance : Many Tryz.prog 185 5 := ⟨_, Tryz.underlying185, rfl, by kernel_rfl⟩
instance : Flds Tryz.prog 196 [0, 1, 2, 3, 4] := ⟨_, Tryz.underlying196, by kernel_rfl⟩
instance : Many Tryz.prog 196 5 := ⟨_, Tryz.underlying196, rfl, by kernel_rfl⟩
instance : Flds Tryz.prog 206 [0, 1, 2] := ⟨_, Tryz.underlying206, by kernel_rfl⟩
instance : Flds Tryz.prog 211 [0, 1] := ⟨_, Tryz.underlying211, by kernel_rfl⟩
instance : Many Tryz.prog 211 2 := ⟨_, Tryz.underlying211, rfl, by kernel_rfl⟩
instance : Flds Tryz.prog 216 [0, 1, 2, 3, 4] := ⟨_, Tryz.underlying216, by kernel_rfl⟩
instance : Many Tryz.prog 216 5 := ⟨_, Tryz.underlying216, rfl, by kernel_rfl⟩
instance : Flds Tryz.prog 223 [0, 1] := ⟨_, Tryz.underlying223, by kernel_rfl⟩
instance : Flds Tryz.prog 252 [0] := ⟨_, Tryz.underlying252, by kernel_rfl⟩
instance : Flds Tryz.prog 277 [0] := ⟨_, Tryz.underlying277, by kernel_rfl⟩
instance : Flds Tryz.prog 278 [0, 1, 2, 3, 4] := ⟨_, Tryz.underlying278, by kernel_rfl⟩
instance : Many Tryz.prog 278 5 := ⟨_, Tryz.underlying278, rfl, by kernel_rfl⟩
instance : Flds Tryz.prog 282 [0, 1, 2, 3, 4] := ⟨_, Tryz.underlying282, by kernel_rfl⟩
instance : Many Tryz.prog 282 5 := ⟨_, Tryz.underlying282, rfl, by kernel_rfl⟩
instance : Flds Tryz.prog 287 [0, 1, 2] := ⟨_, Tryz.underlying287, by kernel_rfl⟩
instance : One Tryz.prog 295 := ⟨_, Tryz.underlying295, rfl⟩
instance : Many Tryz.prog 296 8 := ⟨_, Tryz.underlying296, rfl, by kernel_rfl⟩
instance : Flds Tryz.prog 298 [0, 8, 9] := ⟨_, Tryz.underlying298, by kernel_rfl⟩
instance : One Tryz.prog 315 := ⟨_, Tryz.underlying315, rfl⟩
instance : Many Tryz.prog 322 64 := ⟨_, Tryz.underlying322, rfl, by kernel_rfl⟩
instance : Many Tryz.prog 328 16 := ⟨_, Tryz.underlying328, rfl, by kernel_rfl⟩
instance : One Tryz.prog 332 := ⟨_, Tryz.underlying332, rfl⟩
instance : Many Tryz.prog 346 3 := ⟨_, Tryz.underlying346, rfl, by kernel_rfl⟩
instance F2 : IsF Tryz.prog 2 := ⟨_, Tryz.func2, rfl, nm2⟩
instance F3 : IsF Tryz.prog 3 := ⟨_, Tryz.func3, rfl, nm3⟩
instance F4 : IsF Tryz.prog 4 := ⟨_, Tryz.func4, rfl, nm4⟩
instance F5 : IsF Tryz.prog 5 := ⟨_, Tryz.func5, rfl, nm5⟩
instance F6 : IsF Tryz.prog 6 := ⟨_, Tryz.func6, rfl, nm6⟩
instance F7 : IsF Tryz.prog 7 := ⟨_, Tryz.func7, rfl, nm7⟩
instance F8 : IsF Tryz.prog 8 := ⟨_, Tryz.func8, rfl, nm8⟩
instance F9 : IsF Tryz.prog 9 := ⟨_, Tryz.func9, rfl, nm9⟩
instance F10 : IsF Tryz.prog 10 := ⟨_, Tryz.func10, rfl, nm10⟩
instance F11 : IsF Tryz.prog 11 := ⟨_, Tryz.func11, rfl, nm11⟩
instance F12 : IsF Tryz.prog 12 := ⟨_, Tryz.func12, rfl, nm12⟩
instance F13 : IsF Tryz.prog 13 := ⟨_, Tryz.func13, rfl, nm13⟩
instance F14 : IsF Tryz.prog 14 := ⟨_, Tryz.func14, rfl, nm14⟩
instance F15 : IsF Tryz.prog 15 := ⟨_, Tryz.func15, rfl, nm15⟩
instance F16 : IsF Tryz.prog 16 := ⟨_, Tryz.func16, rfl, nm16⟩
instance F17 : IsF Tryz.prog 17 := ⟨_, Tryz.func17, rfl, nm17⟩
instance F18 : IsF Tryz.prog 18 := ⟨_, Tryz.func18, rfl, nm18⟩
instance F19 : IsF Tryz.prog 19 := ⟨_, Tryz.func19, rfl, nm19⟩
instance F20 : IsF Tryz.prog 20 := ⟨_, Tryz.func20, rfl, nm20⟩
instance F21 : IsF Tryz.prog 21 := ⟨_, Tryz.func21, rfl, nm21⟩
instance F22 : IsF Tryz.prog 22 := ⟨_, Tryz.func22, rfl, nm22⟩
instance F23 : IsF Tryz.prog 23 := ⟨_, Tryz.func23, rfl, nm23⟩
instance F24 : IsF Tryz.prog 24 := ⟨_, Tryz.func24, rfl, nm24⟩
instance F25 : IsF Tryz.prog 25 := ⟨_, Tryz.func25, rfl, nm25⟩
instance F26 : IsF Tryz.prog 26 := ⟨_, Tryz.func26, rfl, nm26⟩
instance F27 : IsF Tryz.prog 27 := ⟨_, Tryz.func27, rfl, nm27⟩
instance F28 : IsF Tryz.prog 28 := ⟨_, Tryz.func28, rfl, nm28⟩
instance F29 : IsF Tryz.prog 29 := ⟨_, Tryz.func29, rfl, nm29⟩
instance F30 : IsF Tryz.prog 30 := ⟨_, Tryz.func30, rfl, nm30⟩
instance F31 : IsF Tryz.prog 31 := ⟨_, Tryz.func31, rfl, nm31⟩
instance F32 : IsF Tryz.prog 32 := ⟨_, Tryz.func32, rfl, nm32⟩
instance F33 : IsF Tryz.prog 33 := ⟨_, Tryz.func33, rfl, nm33⟩
instance F34 : IsF Tryz.prog 34 := ⟨_, Tryz.func34, rfl, nm34⟩
instance F35 : IsF Tryz.prog 35 := ⟨_, Tryz.func35, rfl, nm35⟩
instance F36 : IsF Tryz.prog 36 := ⟨_, Tryz.func36, rfl, nm36⟩
instance F37 : IsF Tryz.prog 37 := ⟨_, Tryz.func37, rfl, nm37⟩
instance F38 : IsF Tryz.prog 38 := ⟨_, Tryz.func38, rfl, nm38⟩
instance F39 : IsF Tryz.prog 39 := ⟨_, Tryz.func39, rfl, nm39⟩
instance F40 : IsF Tryz.prog 40 := ⟨_, Tryz.func40, rfl, nm40⟩
instance F41 : IsF Tryz.prog 41 := ⟨_, Tryz.func41, rfl, nm41⟩
instance F42 : IsF Tryz.prog 42 := ⟨_, Tryz.func42, rfl, nm42⟩
instance F43 : IsF Tryz.prog 43 := ⟨_, Tryz.func43, rfl, nm43⟩
instance F44 : IsF Tryz.prog 44 := ⟨_, Tryz.func44, rfl, nm44⟩
instance F45 : IsF Tryz.prog 45 := ⟨_, Tryz.func45, rfl, nm45⟩
instance F46 : IsF Tryz.prog 46 := ⟨_, Tryz.func46, rfl, nm46⟩
instance F47 : IsF Tryz.prog 47 := ⟨_, Tryz.func47, rfl, nm47⟩
instance F48 : IsF Tryz.prog 48 := ⟨_, Tryz.func48, rfl, nm48⟩
instance F49 : IsF Tryz.prog 49 := ⟨_, Tryz.func49, rfl, nm49⟩
instance F50 : IsF Tryz.prog 50 := ⟨_, Tryz.func50, rfl, nm50⟩
instance F51 : IsF Tryz.prog 51 := ⟨_, Tryz.func51, rfl, nm51⟩
instance F52 : IsF Tryz.prog 52 := ⟨_, Tryz.func52, rfl, nm52⟩
instance F53 : IsF Tryz.prog 53 := ⟨_, Tryz.func53, rfl, nm53⟩
instance F54 : IsF Tryz.prog 54 := ⟨_, Tryz.func54, rfl, nm54⟩
instance F55 : IsF Tryz.prog 55 := ⟨_, Tryz.func55, rfl, nm55⟩
instance F56 : IsF Tryz.prog 56 := ⟨_, Tryz.func56, rfl, nm56⟩
instance F57 : IsF Tryz.prog 57 := ⟨_, Tryz.func57, rfl, nm57⟩
instance F58 : IsF Tryz.prog 58 := ⟨_, Tryz.func58, rfl, nm58⟩
instance F59 : IsF Tryz.prog 59 := ⟨_, Tryz.func59, rfl, nm59⟩
instance F60 : IsF Tryz.prog 60 := ⟨_, Tryz.func60, rfl, nm60⟩
instance F61 : IsF Tryz.prog 61 := ⟨_, Tryz.func61, rfl, nm61⟩
instance F62 : IsF Tryz.prog 62 := ⟨_, Tryz.func62, rfl, nm62⟩
instance F63 : IsF Tryz.prog 63 := ⟨_, Tryz.func63, rfl, nm63⟩
instance F64 : IsF Tryz.prog 64 := ⟨_, Tryz.func64, rfl, nm64⟩
instance F65 : IsF Tryz.prog 65 := ⟨_, Tryz.func65, rfl, nm65⟩
instance F66 : IsF Tryz.prog 66 := ⟨_, Tryz.func66, rfl, nm66⟩
instance F67 : IsF Tryz.prog 67 := ⟨_, Tryz.func67, rfl, nm67⟩
instance F68 : IsF Tryz.prog 68 := ⟨_, Tryz.func68, rfl, nm68⟩
instance F69 : IsF Tryz.prog 69 := ⟨_, Tryz.func69, rfl, nm69⟩
instance F70 : IsF Tryz.prog 70 := ⟨_, Tryz.func70, rfl, nm70⟩
instance F71 : IsF Tryz.prog 71 := ⟨_, Tryz.func71, rfl, nm71⟩
instance F72 : IsF Tryz.prog 72 := ⟨_, Tryz.func72, rfl, nm72⟩
instance F73 : IsF Tryz.prog 73 := ⟨_, Tryz.func73, rfl, nm73⟩
instance F74 : IsF Tryz.prog 74 := ⟨_, Tryz.func74, rfl, nm74⟩
instance F75 : IsF Tryz.prog 75 := ⟨_, Tryz.func75, rfl, nm75⟩
instance F76 : IsF Tryz.prog 76 := ⟨_, Tryz.func76, rfl, nm76⟩
instance F77 : IsF Tryz.prog 77 := ⟨_, Tryz.func77, rfl, nm77⟩
instance F78 : IsF Tryz.prog 78 := ⟨_, Tryz.func78, rfl, nm78⟩
instance F79 : IsF Tryz.prog 79 := ⟨_, Tryz.func79, rfl, nm79⟩
instance F80 : IsF Tryz.prog 80 := ⟨_, Tryz.func80, rfl, nm80⟩
instance F81 : IsF Tryz.prog 81 := ⟨_, Tryz.func81, rfl, nm81⟩
instance F82 : IsF Tryz.prog 82 := ⟨_, Tryz.func82, rfl, nm82⟩
instance F83 : IsF Tryz.prog 83 := ⟨_, Tryz.func83, rfl, nm83⟩
instance F84 : IsF Tryz.prog 84 := ⟨_, Tryz.func84, rfl, nm84⟩
instance F85 : IsF Tryz.prog 85 := ⟨_, Tryz.func85, rfl, nm85⟩
instance F86 : IsF Tryz.prog 86 := ⟨_, Tryz.func86, rfl, nm86⟩
instance F87 : IsF Tryz.prog 87 := ⟨_, Tryz.func87, rfl, nm87⟩
instance F88 : IsF Tryz.prog 88 := ⟨_, Tryz.func88, rfl, nm88⟩
instance F89 : IsF Tryz.prog 89 := ⟨_, Tryz.func89, rfl, nm89⟩
instance F90 : IsF Tryz.prog 90 := ⟨_, Tryz.func90, rfl, nm90⟩
instance F91 : IsF Tryz.prog 91 := ⟨_, Tryz.func91, rfl, nm91⟩
instance F92 : IsF Tryz.prog 92 := ⟨_, Tryz.func92, rfl, nm92⟩
instance F93 : IsF Tryz.prog 93 := ⟨_, Tryz.func93, rfl, nm93⟩
instance F94 : IsF Tryz.prog 94 := ⟨_, Tryz.func94, rfl, nm94⟩
instance F95 : IsF Tryz.prog 95 := ⟨_, Tryz.func95, rfl, nm95⟩
instance F96 : IsF Tryz.prog 96 := ⟨_, Tryz.func96, rfl, nm96⟩
instance F97 : IsF Tryz.prog 97 := ⟨_, Tryz.func97, rfl, nm97⟩
instance F98 : IsF Tryz.prog 98 := ⟨_, Tryz.func98, rfl, nm98⟩
instance F99 : IsF Tryz.prog 99 := ⟨_, Tryz.func99, rfl, nm99⟩
instance F100 : IsF Tryz.prog 100 := ⟨_, Tryz.func100, rfl, nm100⟩
instance F101 : IsF Tryz.prog 101 := ⟨_, Tryz.func101, rfl, nm101⟩
instance F102 : IsF Tryz.prog 102 := ⟨_, Tryz.func102, rfl, nm102⟩
instance F103 : IsF Tryz.prog 103 := ⟨_, Tryz.func103, rfl, nm103⟩
instance F104 : IsF Tryz.prog 104 := ⟨_, Tryz.func104, rfl, nm104⟩
instance F105 : IsF Tryz.prog 105 := ⟨_, Tryz.func105, rfl, nm105⟩
instance F106 : IsF Tryz.prog 106 := ⟨_, Tryz.func106, rfl, nm106⟩
instance F107 : IsF Tryz.prog 107 := ⟨_, Tryz.func107, rfl, nm107⟩
instance F108 : IsF Tryz.prog 108 := ⟨_, Tryz.func108, rfl, nm108⟩
instance F109 : IsF Tryz.prog 109 := ⟨_, Tryz.func109, rfl, nm109⟩
instance F110 : IsF Tryz.prog 110 := ⟨_, Tryz.func110, rfl, nm110⟩
instance F111 : IsF Tryz.prog 111 := ⟨_, Tryz.func111, rfl, nm111⟩
instance F112 : IsF Tryz.prog 112 := ⟨_, Tryz.func112, rfl, nm112⟩
instance F113 : IsF Tryz.prog 113 := ⟨_, Tryz.func113, rfl, nm113⟩
instance F114 : IsF Tryz.prog 114 := ⟨_, Tryz.func114, rfl, nm114⟩
instance F115 : IsF Tryz.prog 115 := ⟨_, Tryz.func115, rfl, nm115⟩
instance F116 : IsF Tryz.prog 116 := ⟨_, Tryz.func116, rfl, nm116⟩
instance F117 : IsF Tryz.prog 117 := ⟨_, Tryz.func117, rfl, nm117⟩
instance F118 : IsF Tryz.prog 118 := ⟨_, Tryz.func118, rfl, nm118⟩
instance F119 : IsF Tryz.prog 119 := ⟨_, Tryz.func119, rfl, nm119⟩
instance F120 : IsF Tryz.prog 120 := ⟨_, Tryz.func120, rfl, nm120⟩
instance F121 : IsF Tryz.prog 121 := ⟨_, Tryz.func121, rfl, nm121⟩
instance F122 : IsF Tryz.prog 122 := ⟨_, Tryz.func122, rfl, nm122⟩
instance F123 : IsF Tryz.prog 123 := ⟨_, Tryz.func123, rfl, nm123⟩
instance F124 : IsF Tryz.prog 124 := ⟨_, Tryz.func124, rfl, nm124⟩
instance F125 : IsF Tryz.prog 125 := ⟨_, Tryz.func125, rfl, nm125⟩
instance F126 : IsF Tryz.prog 126 := ⟨_, Tryz.func126, rfl, nm126⟩
instance F127 : IsF Tryz.prog 127 := ⟨_, Tryz.func127, rfl, nm127⟩
instance F128 : IsF Tryz.prog 128 := ⟨_, Tryz.func128, rfl, nm128⟩
instance F129 : IsF Tryz.prog 129 := ⟨_, Tryz.func129, rfl, nm129⟩
instance F130 : IsF Tryz.prog 130 := ⟨_, Tryz.func130, rfl, nm130⟩
instance F131 : IsF Tryz.prog 131 := ⟨_, Tryz.func131, rfl, nm131⟩
instance F132 : IsF Tryz.prog 132 := ⟨_, Tryz.func132, rfl, nm132⟩
instance F133 : IsF Tryz.prog 133 := ⟨_, Tryz.func133, rfl, nm133⟩
instance F134 : IsF Tryz.prog 134 := ⟨_, Tryz.func134, rfl, nm134⟩
instance F135 : IsF Tryz.prog 135 := ⟨_, Tryz.func135, rfl, nm135⟩
instance F136 : IsF Tryz.prog 136 := ⟨_, Tryz.func136, rfl, nm136⟩
instance F137 : IsF Tryz.prog 137 := ⟨_, Tryz.func137, rfl, nm137⟩
instance F138 : IsF Tryz.prog 138 := ⟨_, Tryz.func138, rfl, nm138⟩
instance F139 : IsF Tryz.prog 139 := ⟨_, Tryz.func139, rfl, nm139⟩
instance F140 : IsF Tryz.prog 140 := ⟨_, Tryz.func140, rfl, nm140⟩
instance F141 : IsF Tryz.prog 141 := ⟨_, Tryz.func141, rfl, nm141⟩
instance F142 : IsF Tryz.prog 142 := ⟨_, Tryz.func142, rfl, nm142⟩
instance F143 : IsF Tryz.prog 143 := ⟨_, Tryz.func143, rfl, nm143⟩
instance F144 : IsF Tryz.prog 144 := ⟨_, Tryz.func144, rfl, nm144⟩
instance F145 : IsF Tryz.prog 145 := ⟨_, Tryz.func145, rfl, nm145⟩
instance F146 : IsF Tryz.prog 146 := ⟨_, Tryz.func146, rfl, nm146⟩
instance F147 : IsF Tryz.prog 147 := ⟨_, Tryz.func147, rfl, nm147⟩
instance F148 : IsF Tryz.prog 148 := ⟨_, Tryz.func148, rfl, nm148⟩
instance F149 : IsF Tryz.prog 149 := ⟨_, Tryz.func149, rfl, nm149⟩
instance F150 : IsF Tryz.prog 150 := ⟨_, Tryz.func150, rfl, nm150⟩
instance F151 : IsF Tryz.prog 151 := ⟨_, Tryz.func151, rfl, nm151⟩
instance F152 : IsF Tryz.prog 152 := ⟨_, Tryz.func152, rfl, nm152⟩
instance F153 : IsF Tryz.prog 153 := ⟨_, Tryz.func153, rfl, nm153⟩
instance F154 : IsF Tryz.prog 154 := ⟨_, Tryz.func154, rfl, nm154⟩
instance F155 : IsF Tryz.prog 155 := ⟨_, Tryz.func155, rfl, nm155⟩
instance F156 : IsF Tryz.prog 156 := ⟨_, Tryz.func156, rfl, nm156⟩
instance F157 : IsF Tryz.prog 157 := ⟨_, Tryz.func157, rfl, nm157⟩
instance F158 : IsF Tryz.prog 158 := ⟨_, Tryz.func158, rfl, nm158⟩
instance F159 : IsF Tryz.prog 159 := ⟨_, Tryz.func159, rfl, nm159⟩
instance F160 : IsF Tryz.prog 160 := ⟨_, Tryz.func160, rfl, nm160⟩
instance F161 : IsF Tryz.prog 161 := ⟨_, Tryz.func161, rfl, nm161⟩
instance F162 : IsF Tryz.prog 162 := ⟨_, Tryz.func162, rfl, nm162⟩
instance F163 : IsF Tryz.prog 163 := ⟨_, Tryz.func163, rfl, nm163⟩
instance F164 : IsF Tryz.prog 164 := ⟨_, Tryz.func164, rfl, nm164⟩
instance F165 : IsF Tryz.prog 165 := ⟨_, Tryz.func165, rfl, nm165⟩
instance F166 : IsF Tryz.prog 166 := ⟨_, Tryz.func166, rfl, nm166⟩
instance F167 : IsF Tryz.prog 167 := ⟨_, Tryz.func167, rfl, nm167⟩
instance F168 : IsF Tryz.prog 168 := ⟨_, Tryz.func168, rfl, nm168⟩
instance F169 : IsF Tryz.prog 169 := ⟨_, Tryz.func169, rfl, nm169⟩
instance F170 : IsF Tryz.prog 170 := ⟨_, Tryz.func170, rfl, nm170⟩
instance F171 : IsF Tryz.prog 171 := ⟨_, Tryz.func171, rfl, nm171⟩
instance F172 : IsF Tryz.prog 172 := ⟨_, Tryz.func172, rfl, nm172⟩
instance F173 : IsF Tryz.prog 173 := ⟨_, Tryz.func173, rfl, nm173⟩
instance F174 : IsF Tryz.prog 174 := ⟨_, Tryz.func174, rfl, nm174⟩
instance F175 : IsF Tryz.prog 175 := ⟨_, Tryz.func175, rfl, nm175⟩
instance F176 : IsF Tryz.prog 176 := ⟨_, Tryz.func176, rfl, nm176⟩
instance F178 : IsF Tryz.prog 178 := ⟨_, Tryz.func178, rfl, nm178⟩
instance F179 : IsF Tryz.prog 179 := ⟨_, Tryz.func179, rfl, nm179⟩
instance F180 : IsF Tryz.prog 180 := ⟨_, Tryz.func180, rfl, nm180⟩
instance F181 : IsF Tryz.prog 181 := ⟨_, Tryz.func181, rfl, nm181⟩
instance F182 : IsF Tryz.prog 182 := ⟨_, Tryz.func182, rfl, nm182⟩
instance F183 : IsF Tryz.prog 183 := ⟨_, Tryz.func183, rfl, nm183⟩
instance F184 : IsF Tryz.prog 184 := ⟨_, Tryz.func184, rfl, nm184⟩
instance F185 : IsF Tryz.prog 185 := ⟨_, Tryz.func185, rfl, nm185⟩
instance F186 : IsF Tryz.prog 186 := ⟨_, Tryz.func186, rfl, nm186⟩
instance F187 : IsF Tryz.prog 187 := ⟨_, Tryz.func187, rfl, nm187⟩
instance F188 : IsF Tryz.prog 188 := ⟨_, Tryz.func188, rfl, nm188⟩
instance F189 : IsF Tryz.prog 189 := ⟨_, Tryz.func189, rfl, nm189⟩
instance F190 : IsF Tryz.prog 190 := ⟨_, Tryz.func190, rfl, nm190⟩
instance F191 : IsF Tryz.prog 191 := ⟨_, Tryz.func191, rfl, nm191⟩
instance F192 : IsF Tryz.prog 192 := ⟨_, Tryz.func192, rfl, nm192⟩
instance F193 : IsF Tryz.prog 193 := ⟨_, Tryz.func193, rfl, nm193⟩
instance F194 : IsF Tryz.prog 194 := ⟨_, Tryz.func194, rfl, nm194⟩
instance F195 : IsF Tryz.prog 195 := ⟨_, Tryz.func195, rfl, nm195⟩
instance F196 : IsF Tryz.prog 196 := ⟨_, Tryz.func196, rfl, nm196⟩
instance F197 : IsF Tryz.prog 197 := ⟨_, Tryz.func197, rfl, nm197⟩
instance F198 : IsF Tryz.prog 198 := ⟨_, Tryz.func198, rfl, nm198⟩
instance F199 : IsF Tryz.prog 199 := ⟨_, Tryz.func199, rfl, nm199⟩
instance F200 : IsF Tryz.prog 200 := ⟨_, Tryz.func200, rfl, nm200⟩
instance F201 : IsF Tryz.prog 201 := ⟨_, Tryz.func201, rfl, nm201⟩
instance F202 : IsF Tryz.prog 202 := ⟨_, Tryz.func202, rfl, nm202⟩
instance F203 : IsF Tryz.prog 203 := ⟨_, Tryz.func203, rfl, nm203⟩
instance F204 : IsF Tryz.prog 204 := ⟨_, Tryz.func204, rfl, nm204⟩
instance F205 : IsF Tryz.prog 205 := ⟨_, Tryz.func205, rfl, nm205⟩
instance F206 : IsF Tryz.prog 206 := ⟨_, Tryz.func206, rfl, nm206⟩
instance F207 : IsF Tryz.prog 207 := ⟨_, Tryz.func207, rfl, nm207⟩
instance F208 : IsF Tryz.prog 208 := ⟨_, Tryz.func208, rfl, nm208⟩
instance F210 : IsF Tryz.prog 210 := ⟨_, Tryz.func210, rfl, nm210⟩
instance F211 : IsF Tryz.prog 211 := ⟨_, Tryz.func211, rfl, nm211⟩
instance F212 : IsF Tryz.prog 212 := ⟨_, Tryz.func212, rfl, nm212⟩
instance F213 : IsF Tryz.prog 213 := ⟨_, Tryz.func213, rfl, nm213⟩
instance F214 : IsF Tryz.prog 214 := ⟨_, Tryz.func214, rfl, nm214⟩
instance F215 : IsF Tryz.prog 215 := ⟨_, Tryz.func215, rfl, nm215⟩
instance F216 : IsF Tryz.prog 216 := ⟨_, Tryz.func216, rfl, nm216⟩
instance F217 : IsF Tryz.prog 217 := ⟨_, Tryz.func217, rfl, nm217⟩
instance F218 : IsF Tryz.prog 218 := ⟨_, Tryz.func218, rfl, nm218⟩
instance F219 : IsF Tryz.prog 219 := ⟨_, Tryz.func219, rfl, nm219⟩
instance F220 : IsF Tryz.prog 220 := ⟨_, Tryz.func220, rfl, nm220⟩
instance F221 : IsF Tryz.prog 221 := ⟨_, Tryz.func221, rfl, nm221⟩
instance F222 : IsF Tryz.prog 222 := ⟨_, Tryz.func222, rfl, nm222⟩
instance F223 : IsF Tryz.prog 223 := ⟨_, Tryz.func223, rfl, nm223⟩
instance F224 : IsF Tryz.prog 224 := ⟨_, Tryz.func224, rfl, nm224⟩
instance F225 : IsF Tryz.prog 225 := ⟨_, Tryz.func225, rfl, nm225⟩
instance F226 : IsF Tryz.prog 226 := ⟨_, Tryz.func226, rfl, nm226⟩
instance F227 : IsF Tryz.prog 227 := ⟨_, Tryz.func227, rfl, nm227⟩
instance F228 : IsF Tryz.prog 228 := ⟨_, Tryz.func228, rfl, nm228⟩
instance F229 : IsF Tryz.prog 229 := ⟨_, Tryz.func229, rfl, nm229⟩
instance F230 : IsF Tryz.prog 230 := ⟨_, Tryz.func230, rfl, nm230⟩
instance F231 : IsF Tryz.prog 231 := ⟨_, Tryz.func231, rfl, nm231⟩
instance F232 : IsF Tryz.prog 232 := ⟨_, Tryz.func232, rfl, nm232⟩
instance F233 : IsF Tryz.prog 233 := ⟨_, Tryz.func233, rfl, nm233⟩
instance F234 : IsF Tryz.prog 234 := ⟨_, Tryz.func234, rfl, nm234⟩
instance F235 : IsF Tryz.prog 235 := ⟨_, Tryz.func235, rfl, nm235⟩
instance F236 : IsF Tryz.prog 236 := ⟨_, Tryz.func236, rfl, nm236⟩
instance F237 : IsF Tryz.prog 237 := ⟨_, Tryz.func237, rfl, nm237⟩
instance F238 : IsF Tryz.prog 238 := ⟨_, Tryz.func238, rfl, nm238⟩
instance F239 : IsF Tryz.prog 239 := ⟨_, Tryz.func239, rfl, nm239⟩
instance F240 : IsF Tryz.prog 240 := ⟨_, Tryz.func240, rfl, nm240⟩
instance F241 : IsF Tryz.prog 241 := ⟨_, Tryz.func241, rfl, nm241⟩
instance F242 : IsF Tryz.prog 242 := ⟨_, Tryz.func242, rfl, nm242⟩
instance F243 : IsF Tryz.prog 243 := ⟨_, Tryz.func243, rfl, nm243⟩
instance F244 : IsF Tryz.prog 244 := ⟨_, Tryz.func244, rfl, nm244⟩
instance F245 : IsF Tryz.prog 245 := ⟨_, Tryz.func245, rfl, nm245⟩
instance F246 : IsF Tryz.prog 246 := ⟨_, Tryz.func246, rfl, nm246⟩
instance F247 : IsF Tryz.prog 247 := ⟨_, Tryz.func247, rfl, nm247⟩
instance F248 : IsF Tryz.prog 248 := ⟨_, Tryz.func248, rfl, nm248⟩
instance F249 : IsF Tryz.prog 249 := ⟨_, Tryz.func249, rfl, nm249⟩
instance F250 : IsF Tryz.prog 250 := ⟨_, Tryz.func250, rfl, nm250⟩
instance F251 : IsF Tryz.prog 251 := ⟨_, Tryz.func251, rfl, nm251⟩
instance F252 : IsF Tryz.prog 252 := ⟨_, Tryz.func252, rfl, nm252⟩
instance F253 : IsF Tryz.prog 253 := ⟨_, Tryz.func253, rfl, nm253⟩
instance F254 : IsF Tryz.prog 254 := ⟨_, Tryz.func254, rfl, nm254⟩
instance F255 : IsF Tryz.prog 255 := ⟨_, Tryz.func255, rfl, nm255⟩
instance F256 : IsF Tryz.prog 256 := ⟨_, Tryz.func256, rfl, nm256⟩
instance F257 : IsF Tryz.prog 257 := ⟨_, Tryz.func257, rfl, nm257⟩
instance F258 : IsF Tryz.prog 258 := ⟨_, Tryz.func258, rfl, nm258⟩
instance F259 : IsF Tryz.prog 259 := ⟨_, Tryz.func259, rfl, nm259⟩
instance F260 : IsF Tryz.prog 260 := ⟨_, Tryz.func260, rfl, nm260⟩
instance F261 : IsF Tryz.prog 261 := ⟨_, Tryz.func261, rfl, nm261⟩
instance F262 : IsF Tryz.prog 262 := ⟨_, Tryz.func262, rfl, nm262⟩
instance F263 : IsF Tryz.prog 263 := ⟨_, Tryz.func263, rfl, nm263⟩
instance F264 : IsF Tryz.prog 264 := ⟨_, Tryz.func264, rfl, nm264⟩
instance F265 : IsF Tryz.prog 265 := ⟨_, Tryz.func265, rfl, nm265⟩
instance F266 : IsF Tryz.prog 266 := ⟨_, Tryz.func266, rfl, nm266⟩
instance F267 : IsF Tryz.prog 267 := ⟨_, Tryz.func267, rfl, nm267⟩
instance F268 : IsF Tryz.prog 268 := ⟨_, Tryz.func268, rfl, nm268⟩
instance F269 : IsF Tryz.prog 269 := ⟨_, Tryz.func269, rfl, nm269⟩
instance F270 : IsF Tryz.prog 270 := ⟨_, Tryz.func270, rfl, nm270⟩
instance F271 : IsF Tryz.prog 271 := ⟨_, Tryz.func271, rfl, nm271⟩
instance F272 : IsF Tryz.prog 272 := ⟨_, Tryz.func272, rfl, nm272⟩
instance F273 : IsF Tryz.prog 273 := ⟨_, Tryz.func273, rfl, nm273⟩
instance F275 : IsF Tryz.prog 275 := ⟨_, Tryz.func275, rfl, nm275⟩
instance F276 : IsF Tryz.prog 276 := ⟨_, Tryz.func276, rfl, nm276⟩

end Go.Proofs.YtanpinfhlbbjkaaGreat
