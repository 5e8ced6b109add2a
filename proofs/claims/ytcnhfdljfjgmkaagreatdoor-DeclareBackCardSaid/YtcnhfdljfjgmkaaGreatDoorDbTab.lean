/- The table is right; the closed calls. -/
import Derived.Test.YtcnhfdljfjgmkaaGreatDoorProg
import Derived.Test.YtcnhfdljfjgmkaaGreatDoorDbCode
import Derived.Test.YtcnhfdljfjgmkaaGreatDoorVmB
set_option maxRecDepth 100000
namespace Go.Vm
open Go.Proofs
instance gl32 : Gl := ⟨6⟩
theorem tb3 : cFunc Tryz.prog 3 = some af3 := by kernel_rfl
theorem tb5 : cFunc Tryz.prog 5 = some af5 := by kernel_rfl
theorem tb6 : cFunc Tryz.prog 6 = some af6 := by kernel_rfl
theorem tb7 : cFunc Tryz.prog 7 = some af7 := by kernel_rfl
theorem tb8 : cFunc Tryz.prog 8 = some af8 := by kernel_rfl
theorem tb9 : cFunc Tryz.prog 9 = some af9 := by kernel_rfl
theorem tb10 : cFunc Tryz.prog 10 = some af10 := by kernel_rfl
theorem tb11 : cFunc Tryz.prog 11 = some af11 := by kernel_rfl
theorem tb12 : cFunc Tryz.prog 12 = some af12 := by kernel_rfl
theorem tb20 : cFunc Tryz.prog 20 = some af20 := by kernel_rfl
theorem tb22 : cFunc Tryz.prog 22 = some af22 := by kernel_rfl
theorem tb23 : cFunc Tryz.prog 23 = some af23 := by kernel_rfl
theorem tb24 : cFunc Tryz.prog 24 = some af24 := by kernel_rfl
theorem tb27 : cFunc Tryz.prog 27 = some af27 := by kernel_rfl
theorem tb28 : cFunc Tryz.prog 28 = some af28 := by kernel_rfl
theorem tb31 : cFunc Tryz.prog 31 = some af31 := by kernel_rfl
theorem tb32 : cFunc Tryz.prog 32 = some af32 := by kernel_rfl
theorem tb33 : cFunc Tryz.prog 33 = some af33 := by kernel_rfl
theorem tb34 : cFunc Tryz.prog 34 = some af34 := by kernel_rfl
theorem tb35 : cFunc Tryz.prog 35 = some af35 := by kernel_rfl
theorem tb42 : cFunc Tryz.prog 42 = some af42 := by kernel_rfl
theorem tb52 : cFunc Tryz.prog 52 = some af52 := by kernel_rfl
theorem tb54 : cFunc Tryz.prog 54 = some af54 := by kernel_rfl
theorem tb56 : cFunc Tryz.prog 56 = some af56 := by kernel_rfl
theorem tb57 : cFunc Tryz.prog 57 = some af57 := by kernel_rfl
theorem tb58 : cFunc Tryz.prog 58 = some af58 := by kernel_rfl
theorem tb59 : cFunc Tryz.prog 59 = some af59 := by kernel_rfl
theorem tb60 : cFunc Tryz.prog 60 = some af60 := by kernel_rfl
theorem tb61 : cFunc Tryz.prog 61 = some af61 := by kernel_rfl
theorem tb62 : cFunc Tryz.prog 62 = some af62 := by kernel_rfl
theorem tb68 : cFunc Tryz.prog 68 = some af68 := by kernel_rfl
theorem tb69 : cFunc Tryz.prog 69 = some af69 := by kernel_rfl
theorem tb70 : cFunc Tryz.prog 70 = some af70 := by kernel_rfl
theorem tb71 : cFunc Tryz.prog 71 = some af71 := by kernel_rfl
theorem tb72 : cFunc Tryz.prog 72 = some af72 := by kernel_rfl
theorem tb73 : cFunc Tryz.prog 73 = some af73 := by kernel_rfl
theorem tb75 : cFunc Tryz.prog 75 = some af75 := by kernel_rfl
theorem tb83 : cFunc Tryz.prog 83 = some af83 := by kernel_rfl
theorem tb84 : cFunc Tryz.prog 84 = some af84 := by kernel_rfl
theorem tb85 : cFunc Tryz.prog 85 = some af85 := by kernel_rfl
theorem tb86 : cFunc Tryz.prog 86 = some af86 := by kernel_rfl
theorem tb88 : cFunc Tryz.prog 88 = some af88 := by kernel_rfl
theorem tb89 : cFunc Tryz.prog 89 = some af89 := by kernel_rfl
theorem tb90 : cFunc Tryz.prog 90 = some af90 := by kernel_rfl
theorem tb91 : cFunc Tryz.prog 91 = some af91 := by kernel_rfl
theorem tb92 : cFunc Tryz.prog 92 = some af92 := by kernel_rfl
theorem tb93 : cFunc Tryz.prog 93 = some af93 := by kernel_rfl
theorem tb94 : cFunc Tryz.prog 94 = some af94 := by kernel_rfl
theorem tb95 : cFunc Tryz.prog 95 = some af95 := by kernel_rfl
theorem tb96 : cFunc Tryz.prog 96 = some af96 := by kernel_rfl
theorem tb105 : cFunc Tryz.prog 105 = some af105 := by kernel_rfl
theorem tb106 : cFunc Tryz.prog 106 = some af106 := by kernel_rfl
theorem tb107 : cFunc Tryz.prog 107 = some af107 := by kernel_rfl
theorem tb113 : cFunc Tryz.prog 113 = some af113 := by kernel_rfl
theorem tb114 : cFunc Tryz.prog 114 = some af114 := by kernel_rfl
theorem tb115 : cFunc Tryz.prog 115 = some af115 := by kernel_rfl
theorem tb116 : cFunc Tryz.prog 116 = some af116 := by kernel_rfl
theorem tb117 : cFunc Tryz.prog 117 = some af117 := by kernel_rfl
theorem tb118 : cFunc Tryz.prog 118 = some af118 := by kernel_rfl
theorem tb119 : cFunc Tryz.prog 119 = some af119 := by kernel_rfl
theorem tb121 : cFunc Tryz.prog 121 = some af121 := by kernel_rfl
theorem tb122 : cFunc Tryz.prog 122 = some af122 := by kernel_rfl
theorem tb123 : cFunc Tryz.prog 123 = some af123 := by kernel_rfl
theorem tb124 : cFunc Tryz.prog 124 = some af124 := by kernel_rfl
theorem tb125 : cFunc Tryz.prog 125 = some af125 := by kernel_rfl
theorem tb126 : cFunc Tryz.prog 126 = some af126 := by kernel_rfl
theorem tb127 : cFunc Tryz.prog 127 = some af127 := by kernel_rfl
theorem tb128 : cFunc Tryz.prog 128 = some af128 := by kernel_rfl
theorem tb129 : cFunc Tryz.prog 129 = some af129 := by kernel_rfl
theorem tb130 : cFunc Tryz.prog 130 = some af130 := by kernel_rfl
theorem tb131 : cFunc Tryz.prog 131 = some af131 := by kernel_rfl
theorem tb132 : cFunc Tryz.prog 132 = some af132 := by kernel_rfl
theorem tb140 : cFunc Tryz.prog 140 = some af140 := by kernel_rfl
theorem tb141 : cFunc Tryz.prog 141 = some af141 := by kernel_rfl
theorem tb142 : cFunc Tryz.prog 142 = some af142 := by kernel_rfl
theorem tb143 : cFunc Tryz.prog 143 = some af143 := by kernel_rfl
theorem tb155 : cFunc Tryz.prog 155 = some af155 := by kernel_rfl
theorem tb156 : cFunc Tryz.prog 156 = some af156 := by kernel_rfl
theorem tb157 : cFunc Tryz.prog 157 = some af157 := by kernel_rfl
theorem tb158 : cFunc Tryz.prog 158 = some af158 := by kernel_rfl
theorem tb159 : cFunc Tryz.prog 159 = some af159 := by kernel_rfl
theorem tb160 : cFunc Tryz.prog 160 = some af160 := by kernel_rfl
theorem tb161 : cFunc Tryz.prog 161 = some af161 := by kernel_rfl
theorem tb162 : cFunc Tryz.prog 162 = some af162 := by kernel_rfl
theorem tb163 : cFunc Tryz.prog 163 = some af163 := by kernel_rfl
theorem tb164 : cFunc Tryz.prog 164 = some af164 := by kernel_rfl
theorem tb169 : cFunc Tryz.prog 169 = some af169 := by kernel_rfl
theorem tb170 : cFunc Tryz.prog 170 = some af170 := by kernel_rfl
theorem tb171 : cFunc Tryz.prog 171 = some af171 := by kernel_rfl
theorem tb172 : cFunc Tryz.prog 172 = some af172 := by kernel_rfl
theorem tb174 : cFunc Tryz.prog 174 = some af174 := by kernel_rfl
theorem tb175 : cFunc Tryz.prog 175 = some af175 := by kernel_rfl
theorem tb178 : cFunc Tryz.prog 178 = some af178 := by kernel_rfl
theorem tb179 : cFunc Tryz.prog 179 = some af179 := by kernel_rfl
theorem tb180 : cFunc Tryz.prog 180 = some af180 := by kernel_rfl
theorem tb181 : cFunc Tryz.prog 181 = some af181 := by kernel_rfl
theorem tb182 : cFunc Tryz.prog 182 = some af182 := by kernel_rfl
theorem tb183 : cFunc Tryz.prog 183 = some af183 := by kernel_rfl
theorem tb184 : cFunc Tryz.prog 184 = some af184 := by kernel_rfl
theorem tb185 : cFunc Tryz.prog 185 = some af185 := by kernel_rfl
theorem tb186 : cFunc Tryz.prog 186 = some af186 := by kernel_rfl
theorem tb187 : cFunc Tryz.prog 187 = some af187 := by kernel_rfl
theorem tb188 : cFunc Tryz.prog 188 = some af188 := by kernel_rfl
theorem tb189 : cFunc Tryz.prog 189 = some af189 := by kernel_rfl
theorem tb190 : cFunc Tryz.prog 190 = some af190 := by kernel_rfl
theorem tb191 : cFunc Tryz.prog 191 = some af191 := by kernel_rfl
theorem tb193 : cFunc Tryz.prog 193 = some af193 := by kernel_rfl
theorem tb194 : cFunc Tryz.prog 194 = some af194 := by kernel_rfl
theorem tb195 : cFunc Tryz.prog 195 = some af195 := by kernel_rfl
theorem tb196 : cFunc Tryz.prog 196 = some af196 := by kernel_rfl
theorem tb197 : cFunc Tryz.prog 197 = some af197 := by kernel_rfl
theorem tb198 : cFunc Tryz.prog 198 = some af198 := by kernel_rfl
theorem tp0_0 : P1 Tryz.prog 0 fs0_0 := ⟨(fun _ h => nomatch h), (fun _ h => nomatch h), (fun _ h => nomatch h), fun _ h => tb3.trans h, (fun _ h => nomatch h), fun _ h => tb5.trans h, fun _ h => tb6.trans h, fun _ h => tb7.trans h⟩
theorem tp0_1 : P1 Tryz.prog 8 fs0_1 := ⟨fun _ h => tb8.trans h, fun _ h => tb9.trans h, fun _ h => tb10.trans h, fun _ h => tb11.trans h, fun _ h => tb12.trans h, (fun _ h => nomatch h), (fun _ h => nomatch h), (fun _ h => nomatch h)⟩
theorem tp0_2 : P1 Tryz.prog 16 fs0_2 := ⟨(fun _ h => nomatch h), (fun _ h => nomatch h), (fun _ h => nomatch h), (fun _ h => nomatch h), fun _ h => tb20.trans h, (fun _ h => nomatch h), fun _ h => tb22.trans h, fun _ h => tb23.trans h⟩
theorem tp0_3 : P1 Tryz.prog 24 fs0_3 := ⟨fun _ h => tb24.trans h, (fun _ h => nomatch h), (fun _ h => nomatch h), fun _ h => tb27.trans h, fun _ h => tb28.trans h, (fun _ h => nomatch h), (fun _ h => nomatch h), fun _ h => tb31.trans h⟩
theorem tp0_4 : P1 Tryz.prog 32 fs0_4 := ⟨fun _ h => tb32.trans h, fun _ h => tb33.trans h, fun _ h => tb34.trans h, fun _ h => tb35.trans h, (fun _ h => nomatch h), (fun _ h => nomatch h), (fun _ h => nomatch h), (fun _ h => nomatch h)⟩
theorem tp0_5 : P1 Tryz.prog 40 fs0_5 := ⟨(fun _ h => nomatch h), (fun _ h => nomatch h), fun _ h => tb42.trans h, (fun _ h => nomatch h), (fun _ h => nomatch h), (fun _ h => nomatch h), (fun _ h => nomatch h), (fun _ h => nomatch h)⟩
theorem tp0_6 : P1 Tryz.prog 48 fs0_6 := ⟨(fun _ h => nomatch h), (fun _ h => nomatch h), (fun _ h => nomatch h), (fun _ h => nomatch h), fun _ h => tb52.trans h, (fun _ h => nomatch h), fun _ h => tb54.trans h, (fun _ h => nomatch h)⟩
theorem tp0_7 : P1 Tryz.prog 56 fs0_7 := ⟨fun _ h => tb56.trans h, fun _ h => tb57.trans h, fun _ h => tb58.trans h, fun _ h => tb59.trans h, fun _ h => tb60.trans h, fun _ h => tb61.trans h, fun _ h => tb62.trans h, (fun _ h => nomatch h)⟩
theorem tq0 : P2 Tryz.prog 0 fs0 := ⟨tp0_0, tp0_1, tp0_2, tp0_3, tp0_4, tp0_5, tp0_6, tp0_7⟩
theorem tp1_0 : P1 Tryz.prog 64 fs1_0 := ⟨(fun _ h => nomatch h), (fun _ h => nomatch h), (fun _ h => nomatch h), (fun _ h => nomatch h), fun _ h => tb68.trans h, fun _ h => tb69.trans h, fun _ h => tb70.trans h, fun _ h => tb71.trans h⟩
theorem tp1_1 : P1 Tryz.prog 72 fs1_1 := ⟨fun _ h => tb72.trans h, fun _ h => tb73.trans h, (fun _ h => nomatch h), fun _ h => tb75.trans h, (fun _ h => nomatch h), (fun _ h => nomatch h), (fun _ h => nomatch h), (fun _ h => nomatch h)⟩
theorem tp1_2 : P1 Tryz.prog 80 fs1_2 := ⟨(fun _ h => nomatch h), (fun _ h => nomatch h), (fun _ h => nomatch h), fun _ h => tb83.trans h, fun _ h => tb84.trans h, fun _ h => tb85.trans h, fun _ h => tb86.trans h, (fun _ h => nomatch h)⟩
theorem tp1_3 : P1 Tryz.prog 88 fs1_3 := ⟨fun _ h => tb88.trans h, fun _ h => tb89.trans h, fun _ h => tb90.trans h, fun _ h => tb91.trans h, fun _ h => tb92.trans h, fun _ h => tb93.trans h, fun _ h => tb94.trans h, fun _ h => tb95.trans h⟩
theorem tp1_4 : P1 Tryz.prog 96 fs1_4 := ⟨fun _ h => tb96.trans h, (fun _ h => nomatch h), (fun _ h => nomatch h), (fun _ h => nomatch h), (fun _ h => nomatch h), (fun _ h => nomatch h), (fun _ h => nomatch h), (fun _ h => nomatch h)⟩
theorem tp1_5 : P1 Tryz.prog 104 fs1_5 := ⟨(fun _ h => nomatch h), fun _ h => tb105.trans h, fun _ h => tb106.trans h, fun _ h => tb107.trans h, (fun _ h => nomatch h), (fun _ h => nomatch h), (fun _ h => nomatch h), (fun _ h => nomatch h)⟩
theorem tp1_6 : P1 Tryz.prog 112 fs1_6 := ⟨(fun _ h => nomatch h), fun _ h => tb113.trans h, fun _ h => tb114.trans h, fun _ h => tb115.trans h, fun _ h => tb116.trans h, fun _ h => tb117.trans h, fun _ h => tb118.trans h, fun _ h => tb119.trans h⟩
theorem tp1_7 : P1 Tryz.prog 120 fs1_7 := ⟨(fun _ h => nomatch h), fun _ h => tb121.trans h, fun _ h => tb122.trans h, fun _ h => tb123.trans h, fun _ h => tb124.trans h, fun _ h => tb125.trans h, fun _ h => tb126.trans h, fun _ h => tb127.trans h⟩
theorem tq1 : P2 Tryz.prog 64 fs1 := ⟨tp1_0, tp1_1, tp1_2, tp1_3, tp1_4, tp1_5, tp1_6, tp1_7⟩
theorem tp2_0 : P1 Tryz.prog 128 fs2_0 := ⟨fun _ h => tb128.trans h, fun _ h => tb129.trans h, fun _ h => tb130.trans h, fun _ h => tb131.trans h, fun _ h => tb132.trans h, (fun _ h => nomatch h), (fun _ h => nomatch h), (fun _ h => nomatch h)⟩
theorem tp2_1 : P1 Tryz.prog 136 fs2_1 := ⟨(fun _ h => nomatch h), (fun _ h => nomatch h), (fun _ h => nomatch h), (fun _ h => nomatch h), fun _ h => tb140.trans h, fun _ h => tb141.trans h, fun _ h => tb142.trans h, fun _ h => tb143.trans h⟩
theorem tp2_2 : P1 Tryz.prog 144 fs2_2 := P1_none 144
theorem tp2_3 : P1 Tryz.prog 152 fs2_3 := ⟨(fun _ h => nomatch h), (fun _ h => nomatch h), (fun _ h => nomatch h), fun _ h => tb155.trans h, fun _ h => tb156.trans h, fun _ h => tb157.trans h, fun _ h => tb158.trans h, fun _ h => tb159.trans h⟩
theorem tp2_4 : P1 Tryz.prog 160 fs2_4 := ⟨fun _ h => tb160.trans h, fun _ h => tb161.trans h, fun _ h => tb162.trans h, fun _ h => tb163.trans h, fun _ h => tb164.trans h, (fun _ h => nomatch h), (fun _ h => nomatch h), (fun _ h => nomatch h)⟩
theorem tp2_5 : P1 Tryz.prog 168 fs2_5 := ⟨(fun _ h => nomatch h), fun _ h => tb169.trans h, fun _ h => tb170.trans h, fun _ h => tb171.trans h, fun _ h => tb172.trans h, (fun _ h => nomatch h), fun _ h => tb174.trans h, fun _ h => tb175.trans h⟩
theorem tp2_6 : P1 Tryz.prog 176 fs2_6 := ⟨(fun _ h => nomatch h), (fun _ h => nomatch h), fun _ h => tb178.trans h, fun _ h => tb179.trans h, fun _ h => tb180.trans h, fun _ h => tb181.trans h, fun _ h => tb182.trans h, fun _ h => tb183.trans h⟩
theorem tp2_7 : P1 Tryz.prog 184 fs2_7 := ⟨fun _ h => tb184.trans h, fun _ h => tb185.trans h, fun _ h => tb186.trans h, fun _ h => tb187.trans h, fun _ h => tb188.trans h, fun _ h => tb189.trans h, fun _ h => tb190.trans h, fun _ h => tb191.trans h⟩
theorem tq2 : P2 Tryz.prog 128 fs2 := ⟨tp2_0, tp2_1, tp2_2, tp2_3, tp2_4, tp2_5, tp2_6, tp2_7⟩
theorem tp3_0 : P1 Tryz.prog 192 fs3_0 := ⟨(fun _ h => nomatch h), fun _ h => tb193.trans h, fun _ h => tb194.trans h, fun _ h => tb195.trans h, fun _ h => tb196.trans h, fun _ h => tb197.trans h, fun _ h => tb198.trans h, (fun _ h => nomatch h)⟩
theorem tp3_1 : P1 Tryz.prog 200 fs3_1 := P1_none 200
theorem tp3_2 : P1 Tryz.prog 208 fs3_2 := P1_none 208
theorem tp3_3 : P1 Tryz.prog 216 fs3_3 := P1_none 216
theorem tp3_4 : P1 Tryz.prog 224 fs3_4 := P1_none 224
theorem tp3_5 : P1 Tryz.prog 232 fs3_5 := P1_none 232
theorem tp3_6 : P1 Tryz.prog 240 fs3_6 := P1_none 240
theorem tp3_7 : P1 Tryz.prog 248 fs3_7 := P1_none 248
theorem tq3 : P2 Tryz.prog 192 fs3 := ⟨tp3_0, tp3_1, tp3_2, tp3_3, tp3_4, tp3_5, tp3_6, tp3_7⟩
theorem tp4_0 : P1 Tryz.prog 256 fs4_0 := P1_none 256
theorem tp4_1 : P1 Tryz.prog 264 fs4_1 := P1_none 264
theorem tp4_2 : P1 Tryz.prog 272 fs4_2 := P1_none 272
theorem tp4_3 : P1 Tryz.prog 280 fs4_3 := P1_none 280
theorem tp4_4 : P1 Tryz.prog 288 fs4_4 := P1_none 288
theorem tp4_5 : P1 Tryz.prog 296 fs4_5 := P1_none 296
theorem tp4_6 : P1 Tryz.prog 304 fs4_6 := P1_none 304
theorem tp4_7 : P1 Tryz.prog 312 fs4_7 := P1_none 312
theorem tq4 : P2 Tryz.prog 256 fs4 := ⟨tp4_0, tp4_1, tp4_2, tp4_3, tp4_4, tp4_5, tp4_6, tp4_7⟩
theorem tp5_0 : P1 Tryz.prog 320 fs5_0 := P1_none 320
theorem tp5_1 : P1 Tryz.prog 328 fs5_1 := P1_none 328
theorem tp5_2 : P1 Tryz.prog 336 fs5_2 := P1_none 336
theorem tp5_3 : P1 Tryz.prog 344 fs5_3 := P1_none 344
theorem tp5_4 : P1 Tryz.prog 352 fs5_4 := P1_none 352
theorem tp5_5 : P1 Tryz.prog 360 fs5_5 := P1_none 360
theorem tp5_6 : P1 Tryz.prog 368 fs5_6 := P1_none 368
theorem tp5_7 : P1 Tryz.prog 376 fs5_7 := P1_none 376
theorem tq5 : P2 Tryz.prog 320 fs5 := ⟨tp5_0, tp5_1, tp5_2, tp5_3, tp5_4, tp5_5, tp5_6, tp5_7⟩
theorem tp6_0 : P1 Tryz.prog 384 fs6_0 := P1_none 384
theorem tp6_1 : P1 Tryz.prog 392 fs6_1 := P1_none 392
theorem tp6_2 : P1 Tryz.prog 400 fs6_2 := P1_none 400
theorem tp6_3 : P1 Tryz.prog 408 fs6_3 := P1_none 408
theorem tp6_4 : P1 Tryz.prog 416 fs6_4 := P1_none 416
theorem tp6_5 : P1 Tryz.prog 424 fs6_5 := P1_none 424
theorem tp6_6 : P1 Tryz.prog 432 fs6_6 := P1_none 432
theorem tp6_7 : P1 Tryz.prog 440 fs6_7 := P1_none 440
theorem tq6 : P2 Tryz.prog 384 fs6 := ⟨tp6_0, tp6_1, tp6_2, tp6_3, tp6_4, tp6_5, tp6_6, tp6_7⟩
theorem tp7_0 : P1 Tryz.prog 448 fs7_0 := P1_none 448
theorem tp7_1 : P1 Tryz.prog 456 fs7_1 := P1_none 456
theorem tp7_2 : P1 Tryz.prog 464 fs7_2 := P1_none 464
theorem tp7_3 : P1 Tryz.prog 472 fs7_3 := P1_none 472
theorem tp7_4 : P1 Tryz.prog 480 fs7_4 := P1_none 480
theorem tp7_5 : P1 Tryz.prog 488 fs7_5 := P1_none 488
theorem tp7_6 : P1 Tryz.prog 496 fs7_6 := P1_none 496
theorem tp7_7 : P1 Tryz.prog 504 fs7_7 := P1_none 504
theorem tq7 : P2 Tryz.prog 448 fs7 := ⟨tp7_0, tp7_1, tp7_2, tp7_3, tp7_4, tp7_5, tp7_6, tp7_7⟩
theorem tab32 : TabOk Tryz.prog fs := tab_of ⟨tq0, tq1, tq2, tq3, tq4, tq5, tq6, tq7⟩
theorem mixed32 : Tryz.prog.follows .mixedOrders = true := by kernel_rfl
theorem aw5 : isT (evCall fs (evN fs 3000) 0 5 [] ⟨M.nil, Gl.ng⟩) = true := by kernel_rfl
theorem awake5 (lo : Nat) (σ : St) : Does Tryz.prog lo 5 [] σ (.bool true) σ := closed_true mixed32 tab32 aw5 lo σ
end Go.Vm

