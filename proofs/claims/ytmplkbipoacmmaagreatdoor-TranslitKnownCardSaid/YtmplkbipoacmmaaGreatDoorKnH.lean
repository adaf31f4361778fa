/- The program as the evaluator takes it (three lists of hints, which the proofs need not trust), and some calls of the closed run of TranslitKnown, each with what it is given and what it answers. No statement of the seat stands here. No condition. By an AI agent. -/
import Derived.Test.YtmplkbipoacmmaaGreatDoorChecked
import Derived.KernelRfl
import Derived.Test.YtmplkbipoacmmaaGreatDoorEvG
namespace Go.Proofs.YtmplkbipoacmmaaGreatDoor.translitKnown
open Go.Ev Go.RowKit
set_option maxRecDepth 100000
noncomputable def pc (hooks : List Hook) : PC := PC.of Tryz.prog hooks [0, 0, 1, 16360, 1099511610880, 9444730711739362442752,
  10633821430978126508324907198923653120, 2535301200456458802993389630784, 56, 1208925819614629174706144, 32213685184627228544, 302210702316574370361312, 56,
  14507091314321806566879232, 3129216, 548681513920, 33536960, 16776112, 576443159102871552, 35449079480712192, 254, 4193792, 3458623252329365504, 8388096, 480,
  50301888, 72057559552112640, 16775936, 232, 348448518217211894145344806537083159052288, 220208007379905674240, 163332877655759086281603379116418208301056,
  13194131142656, 72057559678156800, 16352, 32736, 244736, 444288, 34090770432, 73786413310256577280, 480, 2032, 252, 4503324749429760, 68215103488,
  2251250057377792, 40564816780594953975647513346048, 39534442678181013841036427264, 18013282889759744, 1147292005072486400, 1124800395213824, 8184,
  3541774857960345829344, 16777184, 16352, 112, 130816, 50329600, 32752, 4032, 65408, 4194272, 126, 1054972812980224, 9223299606459154432,
  356811880641193946689691826088336933575983104, 248, 56, 457792, 33536960, 134152096, 16352, 16352, 2305825412699119296, 24, 4398046510976, 232, 2130705408,
  504, 2040, 480, 240, 2032, 129984, 248, 17873660895281152, 24, 16352, 1125835478138368, 65507200, 246284026954752, 128, 131040, 131040, 261952, 8, 262016,
  268434928, 130944, 1152885188510730240, 232, 562947805802496, 480, 9007182074854400, 1152921496014807040, 147573917370944446464, 7890306461253730304,
  17179835392, 2787571881499075797774052896007796375347200, 1237938821800130672580354048, 383123885193474569774374055887950278561850630313328640, 524008,
  33537768, 356811880641193946689691826088336933575983104, 24, 1016, 24, 504, 457792, 14680032, 12574592, 549755813824, 140736414117888, 7936,
  356811880641193946689691826088336933575983104, 1125348137512960, 4277141376, 248, 48640, 4835702990227041035218944, 120, 8589934584, 261632, 2199023247360,
  9007182074854400, 1152921496014807040, 147573917370944446464, 7890306461253730304, 17179835392, 2787571881499075797774052896007796375347200,
  1237938821800130672580354048, 383123885193474569774374055887950278561850630313328640, 18014381321090304, 24, 6228864, 10384593407414639918073416691740640,
  6228864, 1044424, 398655360, 31745151725696, 8, 16328, 1952, 8, 456, 134156032, 36, 4064, 4064, 104, 484, 65008, 8386568, 144114672678729728, 70368744168960,
  17591682693120, 17179868864, 484, 34587645138138185600, 8164, 65504, 590293839423849099264, 4503591037304448, 309182776060598402215280384, 532668352,
  21778071482618506735861013308488957231104, 16328, 79228162513074824341929064448, 1008, 1008, 1008, 34662321095378961161338743808, 16352, 2199023189888,
  2194224446208, 9007182074854400, 1152921496014807040, 147573917370944446464, 7890306461253730304, 17179835392, 2787571881499075797774052896007796375347200,
  1237938821800130672580354048, 383123885193474569774374055887950278561850630313328640, 4290768896, 4835702990227041035218944, 261632, 2199023247360, 32744,
  32752, 184149205606795480238948490449146349755637850570752, 5050176389969560855884357697536, 1073602816, 4194302, 504, 504, 103582791362410496,
  2417851639198471889600512, 2, 4080, 56, 504, 4080, 33554400, 2305825412699119296, 496, 8, 8589934528, 1056964592, 1032128, 132120064, 18887160055355137835008,
  0, 32, 16128, 4543259750641845459761594177158656, 268428272, 24, 64, 19342813112848872164551680, 64, 132120064, 8935141660702932864,
  89794636423602880087156592636474722530567799319756800, 12574592, 4294934272, 649037029945047576837886721114112, 16352, 4501336175669248, 3568, 30, 262080,
  79225895778352558100046659584, 158446644767534338890306928640, 4835702990227041035218944, 261632, 2199023247360, 4290768896, 56, 0, 248, 248,
  148754255977818640873472, 17171475456, 928, 4835703260440209768046592, 2040, 7904, 15856, 24, 2040, 48640, 17996745120149504, 524224, 504, 16304, 16304,
  3114368, 248, 288230376143288320, 480, 56, 524224, 16376, 16368, 192, 192, 192, 35764913150590976, 240, 240, 281337470646784, 4290768896, 16360, 16360, 1984,
  8064, 103048806384, 34342829312, 4186048, 258016, 260013824, 274877644160, 1504, 2080760, 56, 30, 7936, 21778061098346189844478291628122334298112, 2097120,
  240, 457792, 524220, 65264, 1073740800, 32192, 8384256, 20282409471425404962397755244544, 17163084480, 224, 7696579557248, 224, 469761536, 1984, 48, 515848,
  1984, 2064064, 1016, 1016, 48, 562948879675136, 72057592963659776, 36893479342736111616, 123286018324422656, 4294958848,
  10888952654262176519432384150372830132224, 131040, 19342794090620444689299456, 374144419134252505651064520051920053992477580849152, 0, 130944,
  2251799813668864, 262112, 10448029773009037967681152029858612457160704, 224, 182686308445276092278898780960839177993124249600, 224,
  42524890909723710779775849120990470144, 9007190629408768, 261632, 444288, 1048064, 4177344, 4160745472, 4398046510976, 1030792150528, 134217696, 1984, 128960,
  75557859222245976505344, 32640, 68719474688, 224, 0, 56, 2266735911759287759665152, 523264, 4294961792, 224, 31457136, 248, 56, 2016, 240, 261952,
  8796093022080, 134217696, 268172288, 0, 548648513024, 1073741792, 500, 520048, 2147155456, 0, 0, 0, 0, 0, 0, 0, 0, 0, 0, 0, 0, 0, 0, 0, 0, 0, 0, 0, 0, 0, 0,
  0, 0, 7] [(329, 1), (368, 2)] [(7, [7, 7, 0, 7]), (8, [7, 7, 0, 7]), (99, [7, 7]), (100, [7, 7]), (116, [7, 7, 7]), (117, [7, 7, 7]), (187, [7, 7, 8, 7]),
  (188, [7, 7, 8, 7]), (207, [7]), (208, [7]), (245, [7, 7, 7]), (246, [7, 7, 7]), (279, [7, 7, 0]), (280, [7, 7, 0]), (287, [7, 7]), (288, [7, 7]), (304, [0,
  8, 8]), (305, [0, 8, 8]), (328, [7]), (329, [7]), (344, []), (345, []), (354, [8, 8, 8])] [19]
theorem pcOk (hooks : List Hook) : PcOk Tryz.prog (pc hooks) ∧ (pc hooks).hooks = hooks :=
  pcOk_of (by kernel_rfl) (by kernel_rfl) (by kernel_rfl) (by kernel_rfl) (by kernel_rfl)
theorem globals : Tryz.prog.globals.size = 4 := by kernel_rfl
/-- a hook out of its test, which looks at hooks that hold -/
theorem hook_of_test {hs : List Hook} (hh : ∀ h ∈ hs, HookOk Tryz.prog h) {h : Hook} (ht : hookB (pc hs) 1500 h = true) : HookOk Tryz.prog h :=
  hookB_ok (pcOk hs).1 (by rw [(pcOk hs).2]; exact hh) ht
def tl (t : Tr B) : Tr B := .nd t .none .lf
def tr (t : Tr B) : Tr B := .nd .lf .none t
def tn (t u : Tr B) : Tr B := .nd t .none u
def k1 : K := .h
def k2 : K := .o k1
def k3 : K := .i k1
def k4 : K := .o k2
def k5 : K := .i k2
def k6 : K := .o k3
def k7 : K := .i k3
def k8 : K := .o k4
def k9 : K := .i k4
def k10 : K := .o k5
def k11 : K := .i k5
def k12 : K := .o k6
def k13 : K := .i k6
def k14 : K := .o k7
def k15 : K := .i k7
def k16 : K := .o k8
def k17 : K := .i k8
def k18 : K := .o k9
def k19 : K := .i k9
def k20 : K := .o k10
def k21 : K := .i k10
def k22 : K := .o k11
def k23 : K := .i k11
def k24 : K := .o k12
def k25 : K := .i k12
def k26 : K := .o k13
def k27 : K := .i k13
def k28 : K := .o k14
def k29 : K := .i k14
def k30 : K := .o k15
def k31 : K := .i k15
def k32 : K := .o k16
def k33 : K := .i k16
def k34 : K := .o k17
def k35 : K := .i k17
def k36 : K := .o k18
def k37 : K := .i k18
def k38 : K := .o k19
def k39 : K := .i k19
def k40 : K := .o k20
def k41 : K := .i k20
def k42 : K := .o k21
def k43 : K := .i k21
def k44 : K := .o k22
def k45 : K := .i k22
def k46 : K := .o k23
def k47 : K := .i k23
def k48 : K := .o k24
def k49 : K := .i k24
def k50 : K := .o k25
def k51 : K := .i k25
def k52 : K := .o k26
def k53 : K := .i k26
def k54 : K := .o k27
def k55 : K := .i k27
def k56 : K := .o k28
def k57 : K := .i k28
def k58 : K := .o k29
def k59 : K := .i k29
def k60 : K := .o k30
def k61 : K := .i k30
def k62 : K := .o k31
def k63 : K := .i k31
def k64 : K := .o k32
def k65 : K := .i k32
def k66 : K := .o k33
def k67 : K := .i k33
def k68 : K := .o k34
def k69 : K := .i k34
def k70 : K := .o k35
def k71 : K := .i k35
def k72 : K := .o k36
def k73 : K := .i k36
def k74 : K := .o k37
def k75 : K := .i k37
def k76 : K := .o k38
def k77 : K := .i k38
def k78 : K := .o k39
def k79 : K := .i k39
def k80 : K := .o k40
def k81 : K := .i k40
def k82 : K := .o k41
def k83 : K := .i k41
def k84 : K := .o k42
def k85 : K := .i k42
def k86 : K := .o k43
def k87 : K := .i k43
def k88 : K := .o k44
def k89 : K := .i k44
def k90 : K := .o k45
def k91 : K := .i k45
def k92 : K := .o k46
def k93 : K := .i k46
def k94 : K := .o k47
def k95 : K := .i k47
def k96 : K := .o k48
def k97 : K := .i k48
def k98 : K := .o k49
def k99 : K := .i k49
def k100 : K := .o k50
def k101 : K := .i k50
def k102 : K := .o k51
def k103 : K := .i k51
def k104 : K := .o k52
def k105 : K := .i k52
def k106 : K := .o k53
def k107 : K := .i k53
def k108 : K := .o k54
def k109 : K := .i k54
def k110 : K := .o k55
def k111 : K := .i k55
def k112 : K := .o k56
def k113 : K := .i k56
def k114 : K := .o k57
def k115 : K := .i k57
def k116 : K := .o k58
def k117 : K := .i k58
def k118 : K := .o k59
def k119 : K := .i k59
def k120 : K := .o k60
def k121 : K := .i k60
def k122 : K := .o k61
def k123 : K := .i k61
def k124 : K := .o k62
def k125 : K := .i k62
def k126 : K := .o k63
def k127 : K := .i k63
def k128 : K := .o k64
def k129 : K := .i k64
def k130 : K := .o k65
def k131 : K := .i k65
def k132 : K := .o k66
def k133 : K := .i k66
def k134 : K := .o k67
def k135 : K := .i k67
def k136 : K := .o k68
def k137 : K := .i k68
def k138 : K := .o k69
def k139 : K := .i k69
def k140 : K := .o k70
def k141 : K := .i k70
def k142 : K := .o k71
def k143 : K := .i k71
def k144 : K := .o k72
def k145 : K := .i k72
def k146 : K := .o k73
def k147 : K := .i k73
def k148 : K := .o k74
def k149 : K := .i k74
def k150 : K := .o k75
def k151 : K := .i k75
def k152 : K := .o k76
def k153 : K := .i k76
def k154 : K := .o k77
def k155 : K := .i k77
def k156 : K := .o k78
def k157 : K := .i k78
def k158 : K := .o k79
def k159 : K := .i k79
def k160 : K := .o k80
def k161 : K := .i k80
def k162 : K := .o k81
def k163 : K := .i k81
def k164 : K := .o k82
def k165 : K := .i k82
def k166 : K := .o k83
def k167 : K := .i k83
def k168 : K := .o k84
def k169 : K := .i k84
def k170 : K := .o k85
def k171 : K := .i k85
def k172 : K := .o k86
def k173 : K := .i k86
def k174 : K := .o k87
def k175 : K := .i k87
def k176 : K := .o k88
def k177 : K := .i k88
def k178 : K := .o k89
def k179 : K := .i k89
def k180 : K := .o k90
def k181 : K := .i k90
def k182 : K := .o k91
def k183 : K := .i k91
def k184 : K := .o k92
def k185 : K := .i k92
def k186 : K := .o k93
def k187 : K := .i k93
def k188 : K := .o k94
def k189 : K := .i k94
def k190 : K := .o k95
def k191 : K := .i k95
def k192 : K := .o k96
def k193 : K := .i k96
def k194 : K := .o k97
def k195 : K := .i k97
def k196 : K := .o k98
def k197 : K := .i k98
def k198 : K := .o k99
def k199 : K := .i k99
def k200 : K := .o k100
def k201 : K := .i k100
def k202 : K := .o k101
def k203 : K := .i k101
def k204 : K := .o k102
def k205 : K := .i k102
def k206 : K := .o k103
def k207 : K := .i k103
def k208 : K := .o k104
def k209 : K := .i k104
def k210 : K := .o k105
def k211 : K := .i k105
def k212 : K := .o k106
def k213 : K := .i k106
def k214 : K := .o k107
def k215 : K := .i k107
def k216 : K := .o k108
def k217 : K := .i k108
def k218 : K := .o k109
def k219 : K := .i k109
def k220 : K := .o k110
def k221 : K := .i k110
def k222 : K := .o k111
def k223 : K := .i k111
def k224 : K := .o k112
def k225 : K := .i k112
def k226 : K := .o k113
def k227 : K := .i k113
def k228 : K := .o k114
def k229 : K := .i k114
def k230 : K := .o k115
def k231 : K := .i k115
def k232 : K := .o k116
def k233 : K := .i k116
def k234 : K := .o k117
def k235 : K := .i k117
def k236 : K := .o k118
def k237 : K := .i k118
def k238 : K := .o k119
def k239 : K := .i k119
def k240 : K := .o k120
def k241 : K := .i k120
def k242 : K := .o k121
def k243 : K := .i k121
def k244 : K := .o k122
def k245 : K := .i k122
def k246 : K := .o k123
def k247 : K := .i k123
def k248 : K := .o k124
def k249 : K := .i k124
def k250 : K := .o k125
def k251 : K := .i k125
def k252 : K := .o k126
def k253 : K := .i k126
def k254 : K := .o k127
def k255 : K := .i k127
def k256 : K := .o k128
def k257 : K := .i k128
def k258 : K := .o k129
def k259 : K := .i k129
def k260 : K := .o k130
def k261 : K := .i k130
def k262 : K := .o k131
def k263 : K := .i k131
def k264 : K := .o k132
def k265 : K := .i k132
def k266 : K := .o k133
def k267 : K := .i k133
def k268 : K := .o k134
def k269 : K := .i k134
def k270 : K := .o k135
def k271 : K := .i k135
def k272 : K := .o k136
def k273 : K := .i k136
def k274 : K := .o k137
def k275 : K := .i k137
def k276 : K := .o k138
def k277 : K := .i k138
def k278 : K := .o k139
def k279 : K := .i k139
def k280 : K := .o k140
def k281 : K := .i k140
def k282 : K := .o k141
def k283 : K := .i k141
def k284 : K := .o k142
def k285 : K := .i k142
def k286 : K := .o k143
def k287 : K := .i k143
def k288 : K := .o k144
def k289 : K := .i k144
def k290 : K := .o k145
def k291 : K := .i k145
def k292 : K := .o k146
def k293 : K := .i k146
def k294 : K := .o k147
def k295 : K := .i k147
def k296 : K := .o k148
def k297 : K := .i k148
def k298 : K := .o k149
def k299 : K := .i k149
def k300 : K := .o k150
def k301 : K := .i k150
def k302 : K := .o k151
def k303 : K := .i k151
def k304 : K := .o k152
def k305 : K := .i k152
def k306 : K := .o k153
def k307 : K := .i k153
def k308 : K := .o k154
def k309 : K := .i k154
def k310 : K := .o k155
def k311 : K := .i k155
def k312 : K := .o k156
def k313 : K := .i k156
def k314 : K := .o k157
def k315 : K := .i k157
def k316 : K := .o k158
def k317 : K := .i k158
def k318 : K := .o k159
def k319 : K := .i k159
def k320 : K := .o k160
def k321 : K := .i k160
def k322 : K := .o k161
def k323 : K := .i k161
def k324 : K := .o k162
def k325 : K := .i k162
def k326 : K := .o k163
def k327 : K := .i k163
def k328 : K := .o k164
def k329 : K := .i k164
def k330 : K := .o k165
def k331 : K := .i k165
def k332 : K := .o k166
def k333 : K := .i k166
def k334 : K := .o k167
def k335 : K := .i k167
def k336 : K := .o k168
def k337 : K := .i k168
def k338 : K := .o k169
def k339 : K := .i k169
def k340 : K := .o k170
def k341 : K := .i k170
def k342 : K := .o k171
def k343 : K := .i k171
def k344 : K := .o k172
def k345 : K := .i k172
def k346 : K := .o k173
def k347 : K := .i k173
def k348 : K := .o k174
def k349 : K := .i k174
def k350 : K := .o k175
def k351 : K := .i k175
def k352 : K := .o k176
def k353 : K := .i k176
def k354 : K := .o k177
def k355 : K := .i k177
def k356 : K := .o k178
def k357 : K := .i k178
def k358 : K := .o k179
def k359 : K := .i k179
def k360 : K := .o k180
def k361 : K := .i k180
def k362 : K := .o k181
def k363 : K := .i k181
def k364 : K := .o k182
def k365 : K := .i k182
def k366 : K := .o k183
def k367 : K := .i k183
def k368 : K := .o k184
def k369 : K := .i k184
def k370 : K := .o k185
def k371 : K := .i k185
def k372 : K := .o k186
def k373 : K := .i k186
def k374 : K := .o k187
def k375 : K := .i k187
def k376 : K := .o k188
def k377 : K := .i k188
def k378 : K := .o k189
def k379 : K := .i k189
def k380 : K := .o k190
def k381 : K := .i k190
def k382 : K := .o k191
def k383 : K := .i k191
def k384 : K := .o k192
def k385 : K := .i k192
def k386 : K := .o k193
def k387 : K := .i k193
def k388 : K := .o k194
def k389 : K := .i k194
def k390 : K := .o k195
def k391 : K := .i k195
def k392 : K := .o k196
def k393 : K := .i k196
def k394 : K := .o k197
def k395 : K := .i k197
def k396 : K := .o k198
def k397 : K := .i k198
def k398 : K := .o k199
def k399 : K := .i k199
def k400 : K := .o k200
def k401 : K := .i k200
def k402 : K := .o k201
def k403 : K := .i k201
def k404 : K := .o k202
def k405 : K := .i k202
def k406 : K := .o k203
def k407 : K := .i k203
def k408 : K := .o k204
def k409 : K := .i k204
def k410 : K := .o k205
def k411 : K := .i k205
def k412 : K := .o k206
def k413 : K := .i k206
def k414 : K := .o k207
def k415 : K := .i k207
def k441 : K := .i k220
def k500 : K := .o k250
def k508 : K := .o k254
def k517 : K := .i k258
def k518 : K := .o k259
def k519 : K := .i k259
def k520 : K := .o k260
def k521 : K := .i k260
def k523 : K := .i k261
def k525 : K := .i k262
def k526 : K := .o k263
def k536 : K := .o k268
def k537 : K := .i k268
def k539 : K := .i k269
def k541 : K := .i k270
def k543 : K := .i k271
def k551 : K := .i k275
def k552 : K := .o k276
def k555 : K := .i k277
def k556 : K := .o k278
def k567 : K := .i k283
def k568 : K := .o k284
def k570 : K := .o k285
def k571 : K := .i k285
def k572 : K := .o k286
def k582 : K := .o k291
def k583 : K := .i k291
def k882 : K := .o k441
def k1000 : K := .o k500
def k1001 : K := .i k500
def k1016 : K := .o k508
def k1034 : K := .o k517
def k1035 : K := .i k517
def k1037 : K := .i k518
def k1039 : K := .i k519
def k1041 : K := .i k520
def k1043 : K := .i k521
def k1046 : K := .o k523
def k1047 : K := .i k523
def k1051 : K := .i k525
def k1052 : K := .o k526
def k1073 : K := .i k536
def k1075 : K := .i k537
def k1079 : K := .i k539
def k1082 : K := .o k541
def k1086 : K := .o k543
def k1103 : K := .i k551
def k1105 : K := .i k552
def k1110 : K := .o k555
def k1111 : K := .i k555
def k1112 : K := .o k556
def k1113 : K := .i k556
def k1134 : K := .o k567
def k1136 : K := .o k568
def k1141 : K := .i k570
def k1142 : K := .o k571
def k1143 : K := .i k571
def k1144 : K := .o k572
def k1165 : K := .i k582
def k1166 : K := .o k583
def k1764 : K := .o k882
def hk0 : Hook := ⟨19, [(.sl k70 0 0 1 1),(.nat .i64 3)], ⟨(tn (tn (tn (.nd .lf (.row [(.nat .i64 1),(.nat .i64 2)] 2 3 false 0 0 0) .lf) (.nd .lf (.row [(.sl
  k7 0 0 1 1),(.sl k8 0 0 2 2)] 2 34 false 0 0 0) .lf)) (.nd (.nd .lf (.row [(.nat .i64 1),(.nat .i64 1)] 2 3 false 0 0 0) .lf) (.row [(.nat .i64 3)] 1 3 false
  0 0 0) (tl (tl (tl (.nd .lf (.row [(.sl k5 0 0 2 2),(.sl k6 0 0 1 1)] 2 34 false 0 0 0) .lf)))))) (tn (.nd (.nd .lf (.row [(.nat .i64 1)] 1 3 false 0 0 0)
  .lf) (.row [(.nat .i64 1),(.nat .i64 2)] 2 3 false 0 0 0) (.nd .lf (.row [(.sl k9 0 0 1 1),(.sl k10 0 0 2 2)] 2 34 false 0 0 0) .lf)) (.nd (.nd .lf (.row
  [(.sl k5 0 0 2 2),(.sl k6 0 0 1 1)] 2 34 false 0 0 0) .lf) (.row [(.nat .i64 3)] 1 3 false 0 0 0) .lf))), k71⟩, (.ls 1 [(.bool false),(.nat .i64 0)]), ⟨(tn
  (tn (tn (.nd .lf (.row [(.nat .i64 1),(.nat .i64 2)] 2 3 false 0 0 0) .lf) (.nd .lf (.row [(.sl k7 0 0 1 1),(.sl k8 0 0 2 2)] 2 34 false 0 0 0) .lf)) (.nd
  (.nd .lf (.row [(.nat .i64 1),(.nat .i64 1)] 2 3 false 0 0 0) .lf) (.row [(.nat .i64 3)] 1 3 false 0 0 0) .lf)) (tn (.nd (.nd .lf (.row [(.nat .i64 1)] 1 3
  false 0 0 0) .lf) (.row [(.nat .i64 1),(.nat .i64 2)] 2 3 false 0 0 0) (.nd .lf (.row [(.sl k9 0 0 1 1),(.sl k10 0 0 2 2)] 2 34 false 0 0 0) .lf)) (.nd (.nd
  .lf (.row [(.sl k5 0 0 2 2),(.sl k6 0 0 1 1)] 2 34 false 0 0 0) .lf) (.row [(.nat .i64 3)] 1 3 false 0 0 0) .lf))), k1000⟩⟩
def hk1 : Hook := ⟨19, [(.sl k1000 0 0 2 2),(.nat .i64 3)], ⟨(tn (tn (tl (.nd .lf (.row [(.nat .i64 1),(.nat .i64 2)] 2 3 false 0 0 0) (tl (tr (tr (tr (tr (.nd
  .lf (.row [(.sl k5 0 0 2 2),(.sl k6 0 0 1 1),(.sl k7 0 0 1 1),(.sl k8 0 0 2 2)] 4 34 false 0 0 0) .lf)))))))) (.nd (.nd .lf (.row [(.nat .i64 1),(.nat .i64
  1)] 2 3 false 0 0 0) .lf) (.row [(.nat .i64 3)] 1 3 false 0 0 0) .lf)) (tn (.nd (.nd .lf (.row [(.nat .i64 1)] 1 3 false 0 0 0) .lf) (.row [(.nat .i64
  1),(.nat .i64 2)] 2 3 false 0 0 0) (.nd .lf (.row [(.sl k9 0 0 1 1),(.sl k10 0 0 2 2)] 2 34 false 0 0 0) .lf)) (.nd .lf (.row [(.nat .i64 3)] 1 3 false 0 0 0)
  .lf))), k1001⟩, (.ls 1 [(.bool true),(.nat .i64 0)]), ⟨(tn (tr (tl (.nd .lf (.row [(.nat .i64 1),(.nat .i64 1)] 2 3 false 0 0 0) .lf))) (tl (tn (.nd .lf (.row
  [(.nat .i64 1)] 1 3 false 0 0 0) .lf) (.nd .lf (.row [(.sl k9 0 0 1 1),(.sl k10 0 0 2 2)] 2 34 false 0 0 0) .lf)))), k1764⟩⟩
end Go.Proofs.YtmplkbipoacmmaaGreatDoor.translitKnown
