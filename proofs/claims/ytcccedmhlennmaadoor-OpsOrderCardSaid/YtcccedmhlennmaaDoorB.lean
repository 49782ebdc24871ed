/- The abstract code of the functions, checked. -/
import Derived.Test.YtcccedmhlennmaaDoorA4
import Derived.Test.YtcccedmhlennmaaDoorProg
import Derived.KernelRfl

namespace Go.Proofs.YtcccedmhlennmaaDoor
open Go Go.Amb

/- workflow/workflowlaw12.OpsArithmetic -/
def a4_r0 : ACode := .reg [{ op := .mov (.c (.bool false)), dst := some 4 }]
def a4_r1 : ACode := .reg [{ op := .mov (.t 0), dst := some 28 },
    { op := .mov (.t 1), dst := some 29 },
    { op := .call 12 [(.c (.int .i64 18)), (.t 28), (.t 29)], dst := some 30 },
    { op := .mov (.t 30), dst := some 27 },
    { op := .ext (.t 27) 0, dst := some 31 },
    { op := .ext (.t 27) 1, dst := some 32 },
    { op := .mov (.t 31), dst := some 5 },
    { op := .mov (.t 32), dst := some 6 }]
def a4_r2 : ACode := .reg [{ op := .mov (.t 1), dst := some 34 },
    { op := .mov (.t 0), dst := some 35 },
    { op := .call 12 [(.c (.int .i64 18)), (.t 34), (.t 35)], dst := some 36 },
    { op := .mov (.t 36), dst := some 33 },
    { op := .ext (.t 33) 0, dst := some 37 },
    { op := .ext (.t 33) 1, dst := some 38 },
    { op := .mov (.t 37), dst := some 7 },
    { op := .mov (.t 38), dst := some 8 }]
def a4_r3 : ACode := .reg [{ op := .mov (.t 5), dst := some 40 },
    { op := .mov (.t 1), dst := some 41 },
    { op := .call 12 [(.c (.int .i64 19)), (.t 40), (.t 41)], dst := some 42 },
    { op := .mov (.t 42), dst := some 39 },
    { op := .ext (.t 39) 0, dst := some 43 },
    { op := .ext (.t 39) 1, dst := some 44 },
    { op := .mov (.t 43), dst := some 9 },
    { op := .mov (.t 44), dst := some 10 }]
def a4_r4 : ACode := .reg [{ op := .mov (.t 6), dst := some 45 },
    { op := .mov (.t 8), dst := some 46 },
    { op := .eqb true (.t 45) (.t 46), dst := some 47 },
    { op := .mov (.t 47), dst := some 48 },
    { op := .mov (.t 6), dst := some 49, g := some (48, false) },
    { op := .mov (.t 49), dst := some 50, g := some (48, false) },
    { op := .mov (.t 5), dst := some 51, g := some (50, true) },
    { op := .mov (.t 7), dst := some 52, g := some (50, true) },
    { op := .bin .neq (.t 51) (.t 52), dst := some 53, g := some (50, true) },
    { op := .mov (.t 53), dst := some 54, g := some (50, true) },
    { op := .mov (.t 10), dst := some 55, g := some (54, false) },
    { op := .not (.t 55), dst := some 56, g := some (54, false) },
    { op := .pick (.t 54) (.c (.bool true)) (.t 56), dst := some 57, g := some (50, true) },
    { op := .mov (.t 57), dst := some 58, g := some (50, true) },
    { op := .mov (.t 9), dst := some 59, g := some (58, false) },
    { op := .mov (.t 0), dst := some 60, g := some (58, false) },
    { op := .bin .neq (.t 59) (.t 60), dst := some 61, g := some (58, false) },
    { op := .pick (.t 58) (.c (.bool true)) (.t 61), dst := some 62, g := some (50, true) },
    { op := .pick (.t 50) (.t 62) (.c (.bool false)), dst := some 63, g := some (48, false) },
    { op := .pick (.t 48) (.c (.bool true)) (.t 63), dst := some 64 }]
def a4_r5 : ACode := .reg [{ op := .mov (.c (.bool false)), dst := some 4 }]
def a4_r6 : ACode := .reg [{ op := .mov (.t 0), dst := some 66 },
    { op := .mov (.t 1), dst := some 67 },
    { op := .call 12 [(.c (.int .i64 15)), (.t 66), (.t 67)], dst := some 68 },
    { op := .mov (.t 68), dst := some 65 },
    { op := .ext (.t 65) 0, dst := some 69 },
    { op := .ext (.t 65) 1, dst := some 70 },
    { op := .mov (.t 69), dst := some 11 },
    { op := .mov (.t 70), dst := some 12 }]
def a4_r7 : ACode := .reg [{ op := .mov (.t 1), dst := some 72 },
    { op := .mov (.t 0), dst := some 73 },
    { op := .call 12 [(.c (.int .i64 15)), (.t 72), (.t 73)], dst := some 74 },
    { op := .mov (.t 74), dst := some 71 },
    { op := .ext (.t 71) 0, dst := some 75 },
    { op := .ext (.t 71) 1, dst := some 76 },
    { op := .mov (.t 75), dst := some 13 },
    { op := .mov (.t 76), dst := some 14 }]
def a4_r8 : ACode := .reg [{ op := .mov (.t 12), dst := some 77 },
    { op := .mov (.t 14), dst := some 78 },
    { op := .eqb true (.t 77) (.t 78), dst := some 79 },
    { op := .mov (.t 79), dst := some 80 },
    { op := .mov (.t 12), dst := some 81, g := some (80, false) },
    { op := .mov (.t 81), dst := some 82, g := some (80, false) },
    { op := .mov (.t 11), dst := some 83, g := some (82, true) },
    { op := .mov (.t 13), dst := some 84, g := some (82, true) },
    { op := .bin .neq (.t 83) (.t 84), dst := some 85, g := some (82, true) },
    { op := .mov (.t 85), dst := some 86, g := some (82, true) },
    { op := .mov (.t 1), dst := some 87, g := some (86, false) },
    { op := .bin .neq (.t 87) (.c (.int .i64 0)), dst := some 88, g := some (86, false) },
    { op := .mov (.t 88), dst := some 89, g := some (86, false) },
    { op := .mov (.t 11), dst := some 90, g := some (89, true) },
    { op := .mov (.t 1), dst := some 91, g := some (89, true) },
    { op := .bin .rem (.t 90) (.t 91), dst := some 92, g := some (89, true) },
    { op := .bin .neq (.t 92) (.c (.int .i64 0)), dst := some 93, g := some (89, true) },
    { op := .mov (.t 93), dst := some 94, g := some (89, true) },
    { op := .mov (.t 1), dst := some 95, g := some (94, false) },
    { op := .bin .neq (.t 95) (.c (.int .i64 (-1))), dst := some 96, g := some (94, false) },
    { op := .mov (.t 96), dst := some 97, g := some (94, false) },
    { op := .mov (.t 11), dst := some 98, g := some (97, true) },
    { op := .mov (.t 1), dst := some 99, g := some (97, true) },
    { op := .bin .quo (.t 98) (.t 99), dst := some 100, g := some (97, true) },
    { op := .mov (.t 0), dst := some 101, g := some (97, true) },
    { op := .bin .neq (.t 100) (.t 101), dst := some 102, g := some (97, true) },
    { op := .pick (.t 97) (.t 102) (.c (.bool false)), dst := some 103, g := some (94, false) },
    { op := .pick (.t 94) (.c (.bool true)) (.t 103), dst := some 104, g := some (89, true) },
    { op := .pick (.t 89) (.t 104) (.c (.bool false)), dst := some 105, g := some (86, false) },
    { op := .pick (.t 86) (.c (.bool true)) (.t 105), dst := some 106, g := some (82, true) },
    { op := .pick (.t 82) (.t 106) (.c (.bool false)), dst := some 107, g := some (80, false) },
    { op := .pick (.t 80) (.c (.bool true)) (.t 107), dst := some 108 }]
def a4_r9 : ACode := .reg [{ op := .mov (.c (.bool false)), dst := some 4 }]
def a4_r10 : ACode := .reg [{ op := .mov (.t 0), dst := some 110 },
    { op := .mov (.t 1), dst := some 111 },
    { op := .call 12 [(.c (.int .i64 16)), (.t 110), (.t 111)], dst := some 112 },
    { op := .mov (.t 112), dst := some 109 },
    { op := .ext (.t 109) 0, dst := some 113 },
    { op := .ext (.t 109) 1, dst := some 114 },
    { op := .mov (.t 113), dst := some 15 },
    { op := .mov (.t 114), dst := some 16 }]
def a4_r11 : ACode := .reg [{ op := .mov (.t 0), dst := some 116 },
    { op := .mov (.t 1), dst := some 117 },
    { op := .call 12 [(.c (.int .i64 17)), (.t 116), (.t 117)], dst := some 118 },
    { op := .mov (.t 118), dst := some 115 },
    { op := .ext (.t 115) 0, dst := some 119 },
    { op := .ext (.t 115) 1, dst := some 120 },
    { op := .mov (.t 119), dst := some 17 },
    { op := .mov (.t 120), dst := some 18 }]
def a4_r12 : ACode := .reg [{ op := .mov (.t 1), dst := some 121 },
    { op := .bin .eql (.t 121) (.c (.int .i64 0)), dst := some 122 }]
def a4_r13 : ACode := .reg [{ op := .mov (.t 0), dst := some 124 },
    { op := .call 14 [(.t 124)], dst := some 125 },
    { op := .mov (.t 1), dst := some 126 },
    { op := .call 14 [(.t 126)], dst := some 127 },
    { op := .call 13 [(.c (.int .i64 16)), (.t 125), (.t 127)], dst := some 128 },
    { op := .mov (.t 128), dst := some 123 },
    { op := .ext (.t 123) 0, dst := some 129 },
    { op := .ext (.t 123) 1, dst := some 130 },
    { op := .alloc 5 true [.int .i64 0, .int .i64 0, .str [], .nils, .nils], dst := some 19, k := 121 },
    { op := .store 5 true (.t 19) (.t 129), dst := none },
    { op := .mov (.t 130), dst := some 20 }]
def a4_r14 : ACode := .reg [{ op := .mov (.t 0), dst := some 132 },
    { op := .call 14 [(.t 132)], dst := some 133 },
    { op := .mov (.t 1), dst := some 134 },
    { op := .call 14 [(.t 134)], dst := some 135 },
    { op := .call 13 [(.c (.int .i64 17)), (.t 133), (.t 135)], dst := some 136 },
    { op := .mov (.t 136), dst := some 131 },
    { op := .ext (.t 131) 0, dst := some 137 },
    { op := .ext (.t 131) 1, dst := some 138 },
    { op := .alloc 5 true [.int .i64 0, .int .i64 0, .str [], .nils, .nils], dst := some 21, k := 132 },
    { op := .store 5 true (.t 21) (.t 137), dst := none },
    { op := .mov (.t 138), dst := some 22 }]
def a4_r15 : ACode := .reg [{ op := .mov (.t 20), dst := some 139 },
    { op := .bin .eql (.t 139) (.c (.int .i64 13)), dst := some 140 },
    { op := .mov (.t 140), dst := some 141 },
    { op := .mov (.t 22), dst := some 142, g := some (141, true) },
    { op := .bin .eql (.t 142) (.c (.int .i64 13)), dst := some 143, g := some (141, true) },
    { op := .pick (.t 141) (.t 143) (.c (.bool false)), dst := some 144 },
    { op := .mov (.t 144), dst := some 145 },
    { op := .call 8 [], dst := some 146, g := some (145, true) },
    { op := .pick (.t 145) (.t 146) (.c (.bool false)), dst := some 147 },
    { op := .mov (.t 147), dst := some 4 }]
def a4_r16 : ACode := .reg [{ op := .mov (.t 18), dst := some 148 },
    { op := .not (.t 148), dst := some 149 },
    { op := .mov (.t 149), dst := some 150 },
    { op := .mov (.t 17), dst := some 151, g := some (150, false) },
    { op := .bin .neq (.t 151) (.c (.int .i64 0)), dst := some 152, g := some (150, false) },
    { op := .mov (.t 152), dst := some 153, g := some (150, false) },
    { op := .mov (.t 17), dst := some 154, g := some (153, true) },
    { op := .bin .lss (.t 154) (.c (.int .i64 0)), dst := some 155, g := some (153, true) },
    { op := .mov (.t 0), dst := some 156, g := some (153, true) },
    { op := .bin .lss (.t 156) (.c (.int .i64 0)), dst := some 157, g := some (153, true) },
    { op := .eqb true (.t 155) (.t 157), dst := some 158, g := some (153, true) },
    { op := .pick (.t 153) (.t 158) (.c (.bool false)), dst := some 159, g := some (150, false) },
    { op := .pick (.t 150) (.c (.bool true)) (.t 159), dst := some 160 },
    { op := .mov (.t 160), dst := some 161 },
    { op := .mov (.t 1), dst := some 162, g := some (161, false) },
    { op := .bin .gtr (.t 162) (.c (.int .i64 0)), dst := some 163, g := some (161, false) },
    { op := .mov (.t 163), dst := some 164, g := some (161, false) },
    { op := .mov (.t 17), dst := some 165, g := some (164, true) },
    { op := .mov (.t 1), dst := some 166, g := some (164, true) },
    { op := .bin .geq (.t 165) (.t 166), dst := some 167, g := some (164, true) },
    { op := .mov (.t 167), dst := some 168, g := some (164, true) },
    { op := .mov (.t 17), dst := some 169, g := some (168, false) },
    { op := .mov (.t 1), dst := some 170, g := some (168, false) },
    { op := .neg (.t 170), dst := some 171, g := some (168, false) },
    { op := .bin .leq (.t 169) (.t 171), dst := some 172, g := some (168, false) },
    { op := .pick (.t 168) (.c (.bool true)) (.t 172), dst := some 173, g := some (164, true) },
    { op := .pick (.t 164) (.t 173) (.c (.bool false)), dst := some 174, g := some (161, false) },
    { op := .pick (.t 161) (.c (.bool true)) (.t 174), dst := some 175 },
    { op := .mov (.t 175), dst := some 176 },
    { op := .mov (.t 1), dst := some 177, g := some (176, false) },
    { op := .bin .lss (.t 177) (.c (.int .i64 0)), dst := some 178, g := some (176, false) },
    { op := .mov (.t 178), dst := some 179, g := some (176, false) },
    { op := .mov (.t 17), dst := some 180, g := some (179, true) },
    { op := .mov (.t 1), dst := some 181, g := some (179, true) },
    { op := .bin .leq (.t 180) (.t 181), dst := some 182, g := some (179, true) },
    { op := .mov (.t 182), dst := some 183, g := some (179, true) },
    { op := .mov (.t 17), dst := some 184, g := some (183, false) },
    { op := .mov (.t 1), dst := some 185, g := some (183, false) },
    { op := .neg (.t 185), dst := some 186, g := some (183, false) },
    { op := .bin .geq (.t 184) (.t 186), dst := some 187, g := some (183, false) },
    { op := .mov (.t 187), dst := some 188, g := some (183, false) },
    { op := .mov (.t 1), dst := some 189, g := some (188, true) },
    { op := .neg (.t 189), dst := some 190, g := some (188, true) },
    { op := .bin .gtr (.t 190) (.c (.int .i64 0)), dst := some 191, g := some (188, true) },
    { op := .pick (.t 188) (.t 191) (.c (.bool false)), dst := some 192, g := some (183, false) },
    { op := .pick (.t 183) (.c (.bool true)) (.t 192), dst := some 193, g := some (179, true) },
    { op := .pick (.t 179) (.t 193) (.c (.bool false)), dst := some 194, g := some (176, false) },
    { op := .pick (.t 176) (.c (.bool true)) (.t 194), dst := some 195 }]
def a4_r17 : ACode := .reg [{ op := .mov (.c (.bool false)), dst := some 4 }]
def a4_r18 : ACode := .reg [{ op := .mov (.t 15), dst := some 197 },
    { op := .mov (.t 1), dst := some 198 },
    { op := .call 12 [(.c (.int .i64 15)), (.t 197), (.t 198)], dst := some 199 },
    { op := .mov (.t 199), dst := some 196 },
    { op := .ext (.t 196) 0, dst := some 200 },
    { op := .ext (.t 196) 1, dst := some 201 },
    { op := .mov (.t 200), dst := some 23 },
    { op := .mov (.t 201), dst := some 24 }]
def a4_r19 : ACode := .reg [{ op := .mov (.t 23), dst := some 203 },
    { op := .mov (.t 17), dst := some 204 },
    { op := .call 12 [(.c (.int .i64 18)), (.t 203), (.t 204)], dst := some 205 },
    { op := .mov (.t 205), dst := some 202 },
    { op := .ext (.t 202) 0, dst := some 206 },
    { op := .ext (.t 202) 1, dst := some 207 },
    { op := .mov (.t 206), dst := some 25 },
    { op := .mov (.t 207), dst := some 26 }]
def a4_r20 : ACode := .reg [{ op := .mov (.t 16), dst := some 208 },
    { op := .not (.t 208), dst := some 209 },
    { op := .mov (.t 209), dst := some 210 },
    { op := .mov (.t 25), dst := some 211, g := some (210, false) },
    { op := .mov (.t 0), dst := some 212, g := some (210, false) },
    { op := .bin .eql (.t 211) (.t 212), dst := some 213, g := some (210, false) },
    { op := .pick (.t 210) (.c (.bool true)) (.t 213), dst := some 214 },
    { op := .mov (.t 214), dst := some 215 },
    { op := .call 8 [], dst := some 216, g := some (215, true) },
    { op := .pick (.t 215) (.t 216) (.c (.bool false)), dst := some 217 },
    { op := .mov (.t 217), dst := some 4 }]
def a4 : ACode := (.seq a4_r0 (.seq a4_r1 (.seq a4_r2 (.seq a4_r3 (.seq (.seq a4_r4 (.cond (.t 64) (.seq a4_r5 .ret) .skip)) (.seq a4_r6 (.seq a4_r7 (.seq (.seq a4_r8 (.cond (.t 108) (.seq a4_r9 .ret) .skip)) (.seq a4_r10 (.seq a4_r11 (.seq (.seq a4_r12 (.cond (.t 122) (.seq a4_r13 (.seq a4_r14 (.seq a4_r15 .ret))) .skip)) (.seq (.seq a4_r16 (.cond (.t 195) (.seq a4_r17 .ret) .skip)) (.seq a4_r18 (.seq a4_r19 (.seq a4_r20 .ret)))))))))))))))
def a4_res : List ARes := [.tmp 4]
theorem a4_ok : Coded Tryd.prog 4 218 a4 a4_res := ⟨Tryd.f4, _, by kernel_rfl, rfl, by kernel_rfl, rfl, by kernel_rfl, by kernel_rfl⟩
theorem a4_of {args : List AV} {Q : AV → Prop} (hl : args.length ≤ 218) (h : AW Tryd.prog 218 a4 (mkS (argT 0 args) [] 0) (retQ a4_res Q)) : ACall Tryd.prog 4 args Q := acall_coded a4_ok hl h

/- workflow/workflowlaw12.OpsOrder -/
def a5_r0 : ACode := .reg [{ op := .mov (.c (.bool false)), dst := some 8 }]
def a5_r1 : ACode := .reg [{ op := .mov (.t 2), dst := some 16 },
    { op := .len true (.t 16), dst := some 17 },
    { op := .bin .gtr (.t 17) (.c (.int .i64 10000)), dst := some 18 },
    { op := .mov (.t 18), dst := some 19 },
    { op := .mov (.t 3), dst := some 20, g := some (19, false) },
    { op := .len true (.t 20), dst := some 21, g := some (19, false) },
    { op := .bin .gtr (.t 21) (.c (.int .i64 10000)), dst := some 22, g := some (19, false) },
    { op := .pick (.t 19) (.c (.bool true)) (.t 22), dst := some 23 }]
def a5_r2 : ACode := .reg [{ op := .call 8 [], dst := some 24 },
    { op := .mov (.t 24), dst := some 8 }]
def a5_r3 : ACode := .reg [{ op := .mov (.t 0), dst := some 25 },
    { op := .call 14 [(.t 25)], dst := some 26 },
    { op := .mov (.t 1), dst := some 27 },
    { op := .call 14 [(.t 27)], dst := some 28 },
    { op := .bsl 5 true 2 [.int .i64 0, .int .i64 0, .str [], .nils, .nils] [(0, (.t 26)), (1, (.t 28))], dst := some 29 },
    { op := .mov (.t 2), dst := some 30 },
    { op := .call 15 [(.t 30)], dst := some 31 },
    { op := .mov (.t 3), dst := some 32 },
    { op := .call 15 [(.t 32)], dst := some 33 },
    { op := .bsl 5 true 2 [.int .i64 0, .int .i64 0, .str [], .nils, .nils] [(0, (.t 31)), (1, (.t 33))], dst := some 34 },
    { op := .bsl 1 false 2 [.nils] [(0, (.t 29)), (1, (.t 34))], dst := some 35 },
    { op := .mov (.t 35), dst := some 9 }]
def a5_r4 : ACode := .reg [{ op := .mov (.c (.int .i64 0)), dst := some 10 }]
def a5_r5 : ACode := .reg [{ op := .mov (.t 10), dst := some 36 },
    { op := .mov (.t 9), dst := some 37 },
    { op := .len false (.t 37), dst := some 38 },
    { op := .bin .lss (.t 36) (.t 38), dst := some 39 }]
def a5_r7 : ACode := .draw [{ op := .mov (.t 9), dst := some 42 },
    { op := .mov (.t 10), dst := some 43 },
    { op := .iad 1 (.t 42) (.t 43), dst := some 44 },
    { op := .load 1 false (.t 44), dst := some 45 },
    { op := .iad 5 (.t 45) (.c (.int .i64 0)), dst := some 46 },
    { op := .load 5 true (.t 46), dst := some 47 },
    { op := .mov (.t 9), dst := some 48 },
    { op := .mov (.t 10), dst := some 49 },
    { op := .iad 1 (.t 48) (.t 49), dst := some 50 },
    { op := .load 1 false (.t 50), dst := some 51 },
    { op := .iad 5 (.t 51) (.c (.int .i64 1)), dst := some 52 },
    { op := .load 5 true (.t 52), dst := some 53 },
    { op := .alloc 5 true [.int .i64 0, .int .i64 0, .str [], .nils, .nils], dst := some 11, k := 40 },
    { op := .alloc 5 true [.int .i64 0, .int .i64 0, .str [], .nils, .nils], dst := some 12, k := 41 },
    { op := .store 5 true (.t 11) (.t 47), dst := none },
    { op := .store 5 true (.t 12) (.t 53), dst := none }]
    [(12, [2, 3, 4, 5, 8, 9, 10, 11]), (13, [2, 3, 4, 5, 8, 9, 10, 11]), (14, [8, 9, 10, 11])]
    (.take 0 (.take 1 (.take 2 (.take 3 (.take 4 (.take 5 (.take 6 (.take 7 (.take 8 (.take 9 (.take 10 (.take 11 (.two 12 (.one 13 (.one 14 (.one 15 (.done)))) 13 (.one 12 (.one 14 (.one 15 (.done)))))))))))))))))
def a5_r8 : ACode := .draw [{ op := .load 5 true (.t 11), dst := some 54 },
    { op := .load 5 true (.t 12), dst := some 55 },
    { op := .call 16 [(.c (.int .i64 20)), (.t 54), (.t 55)], dst := some 56 },
    { op := .load 5 true (.t 11), dst := some 57 },
    { op := .load 5 true (.t 12), dst := some 58 },
    { op := .call 16 [(.c (.int .i64 24)), (.t 57), (.t 58)], dst := some 59 },
    { op := .load 5 true (.t 11), dst := some 60 },
    { op := .load 5 true (.t 12), dst := some 61 },
    { op := .call 16 [(.c (.int .i64 22)), (.t 60), (.t 61)], dst := some 62 },
    { op := .mov (.t 56), dst := some 13 },
    { op := .mov (.t 59), dst := some 14 },
    { op := .mov (.t 62), dst := some 15 }]
    [(2, [3, 4, 6, 7]), (5, [6, 7])]
    (.take 0 (.take 1 (.take 3 (.take 4 (.take 6 (.take 7 (.one 2 (.one 5 (.one 8 (.take 9 (.take 10 (.take 11 (.done)))))))))))))
def a5_r9 : ACode := .reg [{ op := .mov (.t 13), dst := some 63 },
    { op := .mov (.t 63), dst := some 64 },
    { op := .mov (.t 14), dst := some 65, g := some (64, true) },
    { op := .mov (.t 65), dst := some 66, g := some (64, true) },
    { op := .mov (.t 15), dst := some 67, g := some (66, false) },
    { op := .pick (.t 66) (.c (.bool true)) (.t 67), dst := some 68, g := some (64, true) },
    { op := .pick (.t 64) (.t 68) (.c (.bool false)), dst := some 69 },
    { op := .mov (.t 69), dst := some 70 },
    { op := .mov (.t 14), dst := some 71, g := some (70, false) },
    { op := .mov (.t 71), dst := some 72, g := some (70, false) },
    { op := .mov (.t 15), dst := some 73, g := some (72, true) },
    { op := .pick (.t 72) (.t 73) (.c (.bool false)), dst := some 74, g := some (70, false) },
    { op := .pick (.t 70) (.c (.bool true)) (.t 74), dst := some 75 },
    { op := .mov (.t 75), dst := some 76 },
    { op := .mov (.t 13), dst := some 77, g := some (76, false) },
    { op := .not (.t 77), dst := some 78, g := some (76, false) },
    { op := .mov (.t 78), dst := some 79, g := some (76, false) },
    { op := .mov (.t 14), dst := some 80, g := some (79, true) },
    { op := .not (.t 80), dst := some 81, g := some (79, true) },
    { op := .pick (.t 79) (.t 81) (.c (.bool false)), dst := some 82, g := some (76, false) },
    { op := .mov (.t 82), dst := some 83, g := some (76, false) },
    { op := .mov (.t 15), dst := some 84, g := some (83, true) },
    { op := .not (.t 84), dst := some 85, g := some (83, true) },
    { op := .pick (.t 83) (.t 85) (.c (.bool false)), dst := some 86, g := some (76, false) },
    { op := .pick (.t 76) (.c (.bool true)) (.t 86), dst := some 87 }]
def a5_r10 : ACode := .reg [{ op := .mov (.c (.bool false)), dst := some 8 }]
def a5_r11 : ACode := .reg [{ op := .load 5 true (.t 11), dst := some 88 },
    { op := .load 5 true (.t 12), dst := some 89 },
    { op := .call 16 [(.c (.int .i64 21)), (.t 88), (.t 89)], dst := some 90 },
    { op := .mov (.t 13), dst := some 91 },
    { op := .mov (.t 91), dst := some 92 },
    { op := .mov (.t 14), dst := some 93, g := some (92, false) },
    { op := .pick (.t 92) (.c (.bool true)) (.t 93), dst := some 94 },
    { op := .eqb true (.t 90) (.t 94), dst := some 95 },
    { op := .mov (.t 95), dst := some 96 },
    { op := .load 5 true (.t 11), dst := some 97, g := some (96, false) },
    { op := .load 5 true (.t 12), dst := some 98, g := some (96, false) },
    { op := .call 16 [(.c (.int .i64 23)), (.t 97), (.t 98)], dst := some 99, g := some (96, false) },
    { op := .mov (.t 15), dst := some 100, g := some (96, false) },
    { op := .mov (.t 100), dst := some 101, g := some (96, false) },
    { op := .mov (.t 14), dst := some 102, g := some (101, false) },
    { op := .pick (.t 101) (.c (.bool true)) (.t 102), dst := some 103, g := some (96, false) },
    { op := .eqb true (.t 99) (.t 103), dst := some 104, g := some (96, false) },
    { op := .pick (.t 96) (.c (.bool true)) (.t 104), dst := some 105 },
    { op := .mov (.t 105), dst := some 106 },
    { op := .load 5 true (.t 11), dst := some 107, g := some (106, false) },
    { op := .load 5 true (.t 12), dst := some 108, g := some (106, false) },
    { op := .call 16 [(.c (.int .i64 25)), (.t 107), (.t 108)], dst := some 109, g := some (106, false) },
    { op := .mov (.t 14), dst := some 110, g := some (106, false) },
    { op := .eqb false (.t 109) (.t 110), dst := some 111, g := some (106, false) },
    { op := .pick (.t 106) (.c (.bool true)) (.t 111), dst := some 112 },
    { op := .mov (.t 112), dst := some 113 },
    { op := .load 5 true (.t 12), dst := some 114, g := some (113, false) },
    { op := .load 5 true (.t 11), dst := some 115, g := some (113, false) },
    { op := .call 16 [(.c (.int .i64 20)), (.t 114), (.t 115)], dst := some 116, g := some (113, false) },
    { op := .mov (.t 15), dst := some 117, g := some (113, false) },
    { op := .eqb true (.t 116) (.t 117), dst := some 118, g := some (113, false) },
    { op := .pick (.t 113) (.c (.bool true)) (.t 118), dst := some 119 }]
def a5_r12 : ACode := .reg [{ op := .mov (.c (.bool false)), dst := some 8 }]
def a5_r6 : ACode := .reg [{ op := .mov (.t 10), dst := some 40 },
    { op := .bin .add (.t 40) (.c (.int .i64 1)), dst := some 41 },
    { op := .mov (.t 41), dst := some 10 }]
def a5_l0 : ACode := (.seq (.seq a5_r5 (.cond (.t 39) .skip (.exit 0))) (.seq (.block 1 (.seq a5_r7 (.seq a5_r8 (.seq (.seq a5_r9 (.cond (.t 87) (.seq a5_r10 .ret) .skip)) (.seq a5_r11 (.cond (.t 119) (.seq a5_r12 .ret) .skip)))))) a5_r6))
def a5_r13 : ACode := .reg [{ op := .call 8 [], dst := some 120 },
    { op := .mov (.t 120), dst := some 8 }]
def a5 : ACode := (.seq a5_r0 (.seq (.seq a5_r1 (.cond (.t 23) (.seq a5_r2 .ret) .skip)) (.seq a5_r3 (.seq (.seq a5_r4 (.block 0 (.loop a5_l0))) (.seq a5_r13 .ret)))))
def a5_res : List ARes := [.tmp 8]
theorem a5_ok : Coded Tryd.prog 5 121 a5 a5_res := ⟨Tryd.f5, _, by kernel_rfl, rfl, by kernel_rfl, rfl, by kernel_rfl, by kernel_rfl⟩
theorem a5_of {args : List AV} {Q : AV → Prop} (hl : args.length ≤ 121) (h : AW Tryd.prog 121 a5 (mkS (argT 0 args) [] 0) (retQ a5_res Q)) : ACall Tryd.prog 5 args Q := acall_coded a5_ok hl h

/- workflow/workflowlaw12.lives -/
def a8_r0 : ACode := .reg [{ op := .mov (.c (.bool false)), dst := some 0 }]
def a8_r1 : ACode := .reg [{ op := .call 14 [(.c (.int .i64 (-7)))], dst := some 14 },
    { op := .call 14 [(.c (.int .i64 2))], dst := some 15 },
    { op := .call 13 [(.c (.int .i64 16)), (.t 14), (.t 15)], dst := some 16 },
    { op := .mov (.t 16), dst := some 13 },
    { op := .ext (.t 13) 0, dst := some 17 },
    { op := .ext (.t 13) 1, dst := some 18 },
    { op := .alloc 5 true [.int .i64 0, .int .i64 0, .str [], .nils, .nils], dst := some 1, k := 7 },
    { op := .store 5 true (.t 1) (.t 17), dst := none },
    { op := .mov (.t 18), dst := some 2 }]
def a8_r2 : ACode := .reg [{ op := .call 14 [(.c (.int .i64 (-7)))], dst := some 20 },
    { op := .call 14 [(.c (.int .i64 2))], dst := some 21 },
    { op := .call 13 [(.c (.int .i64 17)), (.t 20), (.t 21)], dst := some 22 },
    { op := .mov (.t 22), dst := some 19 },
    { op := .ext (.t 19) 0, dst := some 23 },
    { op := .ext (.t 19) 1, dst := some 24 },
    { op := .alloc 5 true [.int .i64 0, .int .i64 0, .str [], .nils, .nils], dst := some 3, k := 16 },
    { op := .store 5 true (.t 3) (.t 23), dst := none },
    { op := .mov (.t 24), dst := some 4 }]
def a8_r3 : ACode := .reg [{ op := .call 14 [(.c (.int .i64 (-9223372036854775808)))], dst := some 26 },
    { op := .call 14 [(.c (.int .i64 (-1)))], dst := some 27 },
    { op := .call 13 [(.c (.int .i64 16)), (.t 26), (.t 27)], dst := some 28 },
    { op := .mov (.t 28), dst := some 25 },
    { op := .ext (.t 25) 0, dst := some 29 },
    { op := .ext (.t 25) 1, dst := some 30 },
    { op := .alloc 5 true [.int .i64 0, .int .i64 0, .str [], .nils, .nils], dst := some 5, k := 25 },
    { op := .store 5 true (.t 5) (.t 29), dst := none },
    { op := .mov (.t 30), dst := some 6 }]
def a8_r4 : ACode := .reg [{ op := .call 15 [(.c (.str [48, 49, 50]))], dst := some 32 },
    { op := .bsl 5 true 1 [.int .i64 0, .int .i64 0, .str [], .nils, .nils] [(0, (.t 32))], dst := some 33 },
    { op := .call 9 [(.c (.str [105, 110, 116])), (.t 33)], dst := some 34 },
    { op := .mov (.t 34), dst := some 31 },
    { op := .ext (.t 31) 0, dst := some 35 },
    { op := .ext (.t 31) 1, dst := some 36 },
    { op := .alloc 5 true [.int .i64 0, .int .i64 0, .str [], .nils, .nils], dst := some 7, k := 34 },
    { op := .store 5 true (.t 7) (.t 35), dst := none },
    { op := .mov (.t 36), dst := some 8 }]
def a8_r5 : ACode := .reg [{ op := .call 15 [(.c (.str [97, 98, 99]))], dst := some 38 },
    { op := .call 14 [(.c (.int .i64 1))], dst := some 39 },
    { op := .call 23 [(.t 38), (.t 39)], dst := some 40 },
    { op := .mov (.t 40), dst := some 37 },
    { op := .ext (.t 37) 0, dst := some 41 },
    { op := .ext (.t 37) 1, dst := some 42 },
    { op := .alloc 5 true [.int .i64 0, .int .i64 0, .str [], .nils, .nils], dst := some 9, k := 43 },
    { op := .store 5 true (.t 9) (.t 41), dst := none },
    { op := .mov (.t 42), dst := some 10 }]
def a8_r6 : ACode := .reg [{ op := .call 25 [(.c (.int .i64 13))], dst := some 44 },
    { op := .call 24 [(.t 44), (.c (.str [116, 121, 112, 101]))], dst := some 45 },
    { op := .mov (.t 45), dst := some 43 },
    { op := .ext (.t 43) 0, dst := some 46 },
    { op := .ext (.t 43) 1, dst := some 47 },
    { op := .alloc 5 true [.int .i64 0, .int .i64 0, .str [], .nils, .nils], dst := some 11, k := 51 },
    { op := .store 5 true (.t 11) (.t 46), dst := none },
    { op := .mov (.t 47), dst := some 12 }]
def a8_r7 : ACode := .reg [{ op := .mov (.t 2), dst := some 48 },
    { op := .bin .eql (.t 48) (.c (.int .i64 0)), dst := some 49 },
    { op := .mov (.t 49), dst := some 50 },
    { op := .fad 1 (.t 1), dst := some 51, g := some (50, true) },
    { op := .load 1 false (.t 51), dst := some 52, g := some (50, true) },
    { op := .bin .eql (.t 52) (.c (.int .i64 (-3))), dst := some 53, g := some (50, true) },
    { op := .pick (.t 50) (.t 53) (.c (.bool false)), dst := some 54 },
    { op := .mov (.t 54), dst := some 55 },
    { op := .mov (.t 4), dst := some 56, g := some (55, true) },
    { op := .bin .eql (.t 56) (.c (.int .i64 0)), dst := some 57, g := some (55, true) },
    { op := .pick (.t 55) (.t 57) (.c (.bool false)), dst := some 58 },
    { op := .mov (.t 58), dst := some 59 },
    { op := .fad 1 (.t 3), dst := some 60, g := some (59, true) },
    { op := .load 1 false (.t 60), dst := some 61, g := some (59, true) },
    { op := .bin .eql (.t 61) (.c (.int .i64 (-1))), dst := some 62, g := some (59, true) },
    { op := .pick (.t 59) (.t 62) (.c (.bool false)), dst := some 63 },
    { op := .mov (.t 63), dst := some 64 },
    { op := .mov (.t 6), dst := some 65, g := some (64, true) },
    { op := .bin .eql (.t 65) (.c (.int .i64 14)), dst := some 66, g := some (64, true) },
    { op := .pick (.t 64) (.t 66) (.c (.bool false)), dst := some 67 },
    { op := .mov (.t 67), dst := some 68 },
    { op := .mov (.t 8), dst := some 69, g := some (68, true) },
    { op := .bin .eql (.t 69) (.c (.int .i64 2)), dst := some 70, g := some (68, true) },
    { op := .pick (.t 68) (.t 70) (.c (.bool false)), dst := some 71 },
    { op := .mov (.t 71), dst := some 72 },
    { op := .mov (.t 10), dst := some 73, g := some (72, true) },
    { op := .bin .eql (.t 73) (.c (.int .i64 0)), dst := some 74, g := some (72, true) },
    { op := .pick (.t 72) (.t 74) (.c (.bool false)), dst := some 75 },
    { op := .mov (.t 75), dst := some 76 },
    { op := .fad 2 (.t 9), dst := some 77, g := some (76, true) },
    { op := .load 1 false (.t 77), dst := some 78, g := some (76, true) },
    { op := .bin .eql (.t 78) (.c (.str [98])), dst := some 79, g := some (76, true) },
    { op := .pick (.t 76) (.t 79) (.c (.bool false)), dst := some 80 },
    { op := .mov (.t 80), dst := some 81 },
    { op := .mov (.t 12), dst := some 82, g := some (81, true) },
    { op := .pick (.t 81) (.t 82) (.c (.bool false)), dst := some 83 },
    { op := .mov (.t 83), dst := some 84 },
    { op := .fad 2 (.t 11), dst := some 85, g := some (84, true) },
    { op := .load 1 false (.t 85), dst := some 86, g := some (84, true) },
    { op := .bin .eql (.t 86) (.c (.str [122, 101, 114, 111])), dst := some 87, g := some (84, true) },
    { op := .pick (.t 84) (.t 87) (.c (.bool false)), dst := some 88 },
    { op := .mov (.t 88), dst := some 0 }]
def a8 : ACode := (.seq a8_r0 (.seq a8_r1 (.seq a8_r2 (.seq a8_r3 (.seq a8_r4 (.seq a8_r5 (.seq a8_r6 (.seq a8_r7 .ret))))))))
def a8_res : List ARes := [.tmp 0]
theorem a8_ok : Coded Tryd.prog 8 89 a8 a8_res := ⟨Tryd.f8, _, by kernel_rfl, rfl, by kernel_rfl, rfl, by kernel_rfl, by kernel_rfl⟩
theorem a8_of {args : List AV} {Q : AV → Prop} (hl : args.length ≤ 89) (h : AW Tryd.prog 89 a8 (mkS (argT 0 args) [] 0) (retQ a8_res Q)) : ACall Tryd.prog 8 args Q := acall_coded a8_ok hl h

/- workflow/ops.Pure -/
def a9_r0 : ACode := .reg [{ op := .alloc 5 true [.int .i64 0, .int .i64 0, .str [], .nils, .nils], dst := some 4, k := 0 },
    { op := .mov (.c (.int .i64 0)), dst := some 5 }]
def a9_r1 : ACode := .reg [{ op := .mov (.t 0), dst := some 12 },
    { op := .call 26 [(.t 12)], dst := some 13 },
    { op := .mov (.t 13), dst := some 11 },
    { op := .ext (.t 11) 0, dst := some 14 },
    { op := .ext (.t 11) 1, dst := some 15 },
    { op := .ext (.t 11) 2, dst := some 16 },
    { op := .mov (.t 14), dst := some 6 },
    { op := .mov (.t 15), dst := some 7 },
    { op := .mov (.t 16), dst := some 8 }]
def a9_r2 : ACode := .reg [{ op := .mov (.t 8), dst := some 17 },
    { op := .bin .neq (.t 17) (.c (.int .i64 1)), dst := some 18 }]
def a9_r3 : ACode := .reg [{ op := .build [.int .i64 0, .int .i64 0, .str [], .nils, .nils] [], dst := some 19 },
    { op := .store 5 true (.t 4) (.t 19), dst := none },
    { op := .mov (.c (.int .i64 8)), dst := some 5 }]
def a9_r4 : ACode := .reg [{ op := .mov (.t 1), dst := some 20 },
    { op := .len false (.t 20), dst := some 21 },
    { op := .mov (.t 6), dst := some 22 },
    { op := .bin .lss (.t 21) (.t 22), dst := some 23 },
    { op := .mov (.t 23), dst := some 24 },
    { op := .mov (.t 1), dst := some 25, g := some (24, false) },
    { op := .len false (.t 25), dst := some 26, g := some (24, false) },
    { op := .mov (.t 7), dst := some 27, g := some (24, false) },
    { op := .bin .gtr (.t 26) (.t 27), dst := some 28, g := some (24, false) },
    { op := .pick (.t 24) (.c (.bool true)) (.t 28), dst := some 29 }]
def a9_r5 : ACode := .reg [{ op := .build [.int .i64 0, .int .i64 0, .str [], .nils, .nils] [], dst := some 30 },
    { op := .store 5 true (.t 4) (.t 30), dst := none },
    { op := .mov (.c (.int .i64 10)), dst := some 5 }]
def a9_r6 : ACode := .reg [{ op := .mov (.t 0), dst := some 31 }]
def a9_r7 : ACode := .reg [{ op := .bin .eql (.t 31) (.c (.str [112, 117, 115, 104])), dst := some 33 },
    { op := .mov (.t 33), dst := some 32 }]
def a9_r8 : ACode := .reg [{ op := .mov (.t 1), dst := some 34 },
    { op := .iad 5 (.t 34) (.c (.int .i64 0)), dst := some 35 },
    { op := .fad 0 (.t 35), dst := some 36 },
    { op := .load 1 false (.t 36), dst := some 37 },
    { op := .bin .neq (.t 37) (.c (.int .i64 4)), dst := some 38 }]
def a9_r9 : ACode := .reg [{ op := .build [.int .i64 0, .int .i64 0, .str [], .nils, .nils] [], dst := some 39 },
    { op := .store 5 true (.t 4) (.t 39), dst := none },
    { op := .mov (.c (.int .i64 12)), dst := some 5 }]
def a9_r10 : ACode := .draw [{ op := .bsl 5 true 0 [.int .i64 0, .int .i64 0, .str [], .nils, .nils] [], dst := some 40 },
    { op := .mov (.t 1), dst := some 41 },
    { op := .iad 5 (.t 41) (.c (.int .i64 0)), dst := some 42 },
    { op := .fad 3 (.t 42), dst := some 43 },
    { op := .load 1 false (.t 43), dst := some 44 },
    { op := .app 5 80 (.t 40) (.t 44), dst := some 45, k := 45 },
    { op := .mov (.t 1), dst := some 46 },
    { op := .iad 5 (.t 46) (.c (.int .i64 1)), dst := some 47 },
    { op := .load 5 true (.t 47), dst := some 48 },
    { op := .bsl 5 true 1 [.int .i64 0, .int .i64 0, .str [], .nils, .nils] [(0, (.t 48))], dst := some 49 },
    { op := .app 5 80 (.t 45) (.t 49), dst := some 50, k := 50 },
    { op := .call 28 [(.t 50)], dst := some 51 },
    { op := .call 27 [(.t 51)], dst := some 52 },
    { op := .ext (.t 52) 0, dst := some 53 },
    { op := .ext (.t 52) 1, dst := some 54 },
    { op := .store 5 true (.t 4) (.t 53), dst := none },
    { op := .mov (.t 54), dst := some 5 }]
    [(5, [7, 8])]
    (.take 0 (.take 1 (.take 2 (.take 3 (.take 4 (.take 6 (.take 7 (.take 8 (.take 9 (.one 5 (.one 10 (.one 11 (.one 12 (.take 13 (.take 14 (.one 15 (.take 16 (.done))))))))))))))))))
def a9_r11 : ACode := .reg [{ op := .bin .eql (.t 31) (.c (.str [112, 117, 116])), dst := some 56 },
    { op := .mov (.t 56), dst := some 55 }]
def a9_r12 : ACode := .reg [{ op := .bin .eql (.t 31) (.c (.str [104, 97, 115])), dst := some 57 },
    { op := .mov (.t 57), dst := some 55 }]
def a9_r13 : ACode := .reg [{ op := .mov (.t 1), dst := some 58 },
    { op := .iad 5 (.t 58) (.c (.int .i64 0)), dst := some 59 },
    { op := .fad 0 (.t 59), dst := some 60 },
    { op := .load 1 false (.t 60), dst := some 61 },
    { op := .bin .neq (.t 61) (.c (.int .i64 5)), dst := some 62 },
    { op := .mov (.t 62), dst := some 63 },
    { op := .mov (.t 1), dst := some 64, g := some (63, false) },
    { op := .iad 5 (.t 64) (.c (.int .i64 1)), dst := some 65, g := some (63, false) },
    { op := .fad 0 (.t 65), dst := some 66, g := some (63, false) },
    { op := .load 1 false (.t 66), dst := some 67, g := some (63, false) },
    { op := .bin .neq (.t 67) (.c (.int .i64 3)), dst := some 68, g := some (63, false) },
    { op := .pick (.t 63) (.c (.bool true)) (.t 68), dst := some 69 }]
def a9_r14 : ACode := .reg [{ op := .build [.int .i64 0, .int .i64 0, .str [], .nils, .nils] [], dst := some 70 },
    { op := .store 5 true (.t 4) (.t 70), dst := none },
    { op := .mov (.c (.int .i64 12)), dst := some 5 }]
def a9_r15 : ACode := .reg [{ op := .mov (.t 0), dst := some 71 },
    { op := .bin .eql (.t 71) (.c (.str [112, 117, 116])), dst := some 72 }]
def a9_r16 : ACode := .draw [{ op := .mov (.t 1), dst := some 73 },
    { op := .iad 5 (.t 73) (.c (.int .i64 0)), dst := some 74 },
    { op := .load 5 true (.t 74), dst := some 75 },
    { op := .mov (.t 1), dst := some 76 },
    { op := .iad 5 (.t 76) (.c (.int .i64 1)), dst := some 77 },
    { op := .fad 2 (.t 77), dst := some 78 },
    { op := .load 1 false (.t 78), dst := some 79 },
    { op := .mov (.t 1), dst := some 80 },
    { op := .iad 5 (.t 80) (.c (.int .i64 2)), dst := some 81 },
    { op := .load 5 true (.t 81), dst := some 82 },
    { op := .call 29 [(.t 75), (.t 79), (.t 82)], dst := some 83 },
    { op := .ext (.t 83) 0, dst := some 84 },
    { op := .ext (.t 83) 1, dst := some 85 },
    { op := .store 5 true (.t 4) (.t 84), dst := none },
    { op := .mov (.t 85), dst := some 5 }]
    []
    (.take 0 (.take 1 (.take 2 (.take 3 (.take 4 (.take 5 (.take 6 (.take 7 (.take 8 (.take 9 (.one 10 (.take 11 (.take 12 (.one 13 (.take 14 (.done))))))))))))))))
def a9_r17 : ACode := .draw [{ op := .mov (.t 1), dst := some 87 },
    { op := .iad 5 (.t 87) (.c (.int .i64 0)), dst := some 88 },
    { op := .load 5 true (.t 88), dst := some 89 },
    { op := .mov (.t 1), dst := some 90 },
    { op := .iad 5 (.t 90) (.c (.int .i64 1)), dst := some 91 },
    { op := .fad 2 (.t 91), dst := some 92 },
    { op := .load 1 false (.t 92), dst := some 93 },
    { op := .call 30 [(.t 89), (.t 93)], dst := some 94 },
    { op := .mov (.t 94), dst := some 86 },
    { op := .ext (.t 86) 0, dst := some 95 },
    { op := .ext (.t 86) 1, dst := some 96 },
    { op := .alloc 5 true [.int .i64 0, .int .i64 0, .str [], .nils, .nils], dst := some 9, k := 104 },
    { op := .store 5 true (.t 9) (.t 95), dst := none },
    { op := .mov (.t 96), dst := some 10 }]
    [(11, [1, 2, 4, 6])]
    (.take 0 (.take 1 (.take 2 (.take 3 (.take 4 (.take 5 (.take 6 (.two 7 (.take 8 (.take 9 (.take 10 (.one 11 (.one 12 (.take 13 (.done))))))) 11 (.one 7 (.take 8 (.take 9 (.take 10 (.one 12 (.take 13 (.done)))))))))))))))
def a9_r18 : ACode := .reg [{ op := .mov (.t 10), dst := some 97 },
    { op := .bin .eql (.t 97) (.c (.int .i64 0)), dst := some 98 },
    { op := .call 31 [(.t 98)], dst := some 99 },
    { op := .store 5 true (.t 4) (.t 99), dst := none },
    { op := .mov (.c (.int .i64 0)), dst := some 5 }]
def a9_r19 : ACode := .reg [{ op := .mov (.t 0), dst := some 100 },
    { op := .mov (.t 1), dst := some 101 },
    { op := .iad 5 (.t 101) (.c (.int .i64 0)), dst := some 102 },
    { op := .load 5 true (.t 102), dst := some 103 },
    { op := .call 32 [(.t 100), (.t 103)], dst := some 104 },
    { op := .ext (.t 104) 0, dst := some 105 },
    { op := .ext (.t 104) 1, dst := some 106 },
    { op := .store 5 true (.t 4) (.t 105), dst := none },
    { op := .mov (.t 106), dst := some 5 }]
def a9 : ACode := (.seq a9_r0 (.seq a9_r1 (.seq (.seq a9_r2 (.cond (.t 18) (.seq a9_r3 .ret) .skip)) (.seq (.seq a9_r4 (.cond (.t 29) (.seq a9_r5 .ret) .skip)) (.seq (.seq a9_r6 (.block 0 (.seq a9_r7 (.cond (.t 32) (.seq (.seq a9_r8 (.cond (.t 38) (.seq a9_r9 .ret) .skip)) (.seq a9_r10 .ret)) (.seq (.seq a9_r11 (.cond (.t 55) .skip a9_r12)) (.cond (.t 55) (.seq (.seq a9_r13 (.cond (.t 69) (.seq a9_r14 .ret) .skip)) (.seq (.seq a9_r15 (.cond (.t 72) (.seq a9_r16 .ret) .skip)) (.seq a9_r17 (.seq a9_r18 .ret)))) .skip)))))) (.seq a9_r19 .ret))))))
def a9_res : List ARes := [.cell 4 5 true, .tmp 5]
theorem a9_ok : Coded Tryd.prog 9 107 a9 a9_res := ⟨Tryd.f9, _, by kernel_rfl, rfl, by kernel_rfl, rfl, by kernel_rfl, by kernel_rfl⟩
theorem a9_of {args : List AV} {Q : AV → Prop} (hl : args.length ≤ 107) (h : AW Tryd.prog 107 a9 (mkS (argT 0 args) [] 0) (retQ a9_res Q)) : ACall Tryd.prog 9 args Q := acall_coded a9_ok hl h

/- workflow/workflowlaw12.calc -/
def a12_r0 : ACode := .reg [{ op := .mov (.c (.int .i64 0)), dst := some 6 },
    { op := .mov (.c (.bool false)), dst := some 7 }]
def a12_r1 : ACode := .reg [{ op := .mov (.t 0), dst := some 11 },
    { op := .mov (.t 1), dst := some 12 },
    { op := .call 14 [(.t 12)], dst := some 13 },
    { op := .mov (.t 2), dst := some 14 },
    { op := .call 14 [(.t 14)], dst := some 15 },
    { op := .call 13 [(.t 11), (.t 13), (.t 15)], dst := some 16 },
    { op := .mov (.t 16), dst := some 10 },
    { op := .ext (.t 10) 0, dst := some 17 },
    { op := .ext (.t 10) 1, dst := some 18 },
    { op := .alloc 5 true [.int .i64 0, .int .i64 0, .str [], .nils, .nils], dst := some 8, k := 11 },
    { op := .store 5 true (.t 8) (.t 17), dst := none },
    { op := .mov (.t 18), dst := some 9 }]
def a12_r2 : ACode := .draw [{ op := .fad 1 (.t 8), dst := some 19 },
    { op := .load 1 false (.t 19), dst := some 20 },
    { op := .mov (.t 9), dst := some 21 },
    { op := .bin .eql (.t 21) (.c (.int .i64 0)), dst := some 22 },
    { op := .mov (.t 22), dst := some 23 },
    { op := .fad 0 (.t 8), dst := some 24, g := some (23, true) },
    { op := .load 1 false (.t 24), dst := some 25, g := some (23, true) },
    { op := .bin .eql (.t 25) (.c (.int .i64 2)), dst := some 26, g := some (23, true) },
    { op := .pick (.t 23) (.t 26) (.c (.bool false)), dst := some 27 },
    { op := .mov (.t 20), dst := some 6 },
    { op := .mov (.t 27), dst := some 7 }]
    []
    (.take 0 (.take 1 (.take 2 (.take 3 (.take 4 (.take 5 (.take 6 (.take 7 (.take 8 (.take 9 (.take 10 (.done))))))))))))
def a12 : ACode := (.seq a12_r0 (.seq a12_r1 (.seq a12_r2 .ret)))
def a12_res : List ARes := [.tmp 6, .tmp 7]
theorem a12_ok : Coded Tryd.prog 12 28 a12 a12_res := ⟨Tryd.f12, _, by kernel_rfl, rfl, by kernel_rfl, rfl, by kernel_rfl, by kernel_rfl⟩
theorem a12_of {args : List AV} {Q : AV → Prop} (hl : args.length ≤ 28) (h : AW Tryd.prog 28 a12 (mkS (argT 0 args) [] 0) (retQ a12_res Q)) : ACall Tryd.prog 12 args Q := acall_coded a12_ok hl h

/- workflow/ops.Binary -/
def a13_r0 : ACode := .reg [{ op := .box 5 true (.t 1), dst := some 4, k := 0 },
    { op := .box 5 true (.t 2), dst := some 5, k := 1 },
    { op := .alloc 5 true [.int .i64 0, .int .i64 0, .str [], .nils, .nils], dst := some 6, k := 2 },
    { op := .mov (.c (.int .i64 0)), dst := some 7 }]
def a13_r1 : ACode := .reg [{ op := .mov (.t 0), dst := some 8 }]
def a13_r2 : ACode := .reg [{ op := .bin .eql (.t 8) (.c (.int .i64 24)), dst := some 10 },
    { op := .mov (.t 10), dst := some 9 }]
def a13_r3 : ACode := .reg [{ op := .load 5 true (.t 4), dst := some 11 },
    { op := .load 5 true (.t 5), dst := some 12 },
    { op := .call 41 [(.t 11), (.t 12)], dst := some 13 },
    { op := .call 31 [(.t 13)], dst := some 14 },
    { op := .store 5 true (.t 6) (.t 14), dst := none },
    { op := .mov (.c (.int .i64 0)), dst := some 7 }]
def a13_r4 : ACode := .reg [{ op := .bin .eql (.t 8) (.c (.int .i64 25)), dst := some 16 },
    { op := .mov (.t 16), dst := some 15 }]
def a13_r5 : ACode := .reg [{ op := .load 5 true (.t 4), dst := some 17 },
    { op := .load 5 true (.t 5), dst := some 18 },
    { op := .call 41 [(.t 17), (.t 18)], dst := some 19 },
    { op := .not (.t 19), dst := some 20 },
    { op := .call 31 [(.t 20)], dst := some 21 },
    { op := .store 5 true (.t 6) (.t 21), dst := none },
    { op := .mov (.c (.int .i64 0)), dst := some 7 }]
def a13_r6 : ACode := .reg [{ op := .bin .eql (.t 8) (.c (.int .i64 20)), dst := some 23 },
    { op := .mov (.t 23), dst := some 22 }]
def a13_r7 : ACode := .reg [{ op := .bin .eql (.t 8) (.c (.int .i64 21)), dst := some 24 },
    { op := .mov (.t 24), dst := some 22 }]
def a13_r8 : ACode := .reg [{ op := .bin .eql (.t 8) (.c (.int .i64 22)), dst := some 25 },
    { op := .mov (.t 25), dst := some 22 }]
def a13_r9 : ACode := .reg [{ op := .bin .eql (.t 8) (.c (.int .i64 23)), dst := some 26 },
    { op := .mov (.t 26), dst := some 22 }]
def a13_r10 : ACode := .reg [{ op := .mov (.t 0), dst := some 27 },
    { op := .load 5 true (.t 4), dst := some 28 },
    { op := .load 5 true (.t 5), dst := some 29 },
    { op := .call 42 [(.t 27), (.t 28), (.t 29)], dst := some 30 },
    { op := .ext (.t 30) 0, dst := some 31 },
    { op := .ext (.t 30) 1, dst := some 32 },
    { op := .store 5 true (.t 6) (.t 31), dst := none },
    { op := .mov (.t 32), dst := some 7 }]
def a13_r11 : ACode := .reg [{ op := .bin .eql (.t 8) (.c (.int .i64 18)), dst := some 34 },
    { op := .mov (.t 34), dst := some 33 }]
def a13_r12 : ACode := .reg [{ op := .load 5 true (.t 4), dst := some 35 },
    { op := .load 5 true (.t 5), dst := some 36 },
    { op := .call 43 [(.t 35), (.t 36)], dst := some 37 },
    { op := .ext (.t 37) 0, dst := some 38 },
    { op := .ext (.t 37) 1, dst := some 39 },
    { op := .store 5 true (.t 6) (.t 38), dst := none },
    { op := .mov (.t 39), dst := some 7 }]
def a13_r13 : ACode := .reg [{ op := .bin .eql (.t 8) (.c (.int .i64 19)), dst := some 41 },
    { op := .mov (.t 41), dst := some 40 }]
def a13_r14 : ACode := .reg [{ op := .bin .eql (.t 8) (.c (.int .i64 15)), dst := some 42 },
    { op := .mov (.t 42), dst := some 40 }]
def a13_r15 : ACode := .reg [{ op := .bin .eql (.t 8) (.c (.int .i64 16)), dst := some 43 },
    { op := .mov (.t 43), dst := some 40 }]
def a13_r16 : ACode := .reg [{ op := .bin .eql (.t 8) (.c (.int .i64 17)), dst := some 44 },
    { op := .mov (.t 44), dst := some 40 }]
def a13_r17 : ACode := .reg [{ op := .fad 0 (.t 4), dst := some 45 },
    { op := .load 1 false (.t 45), dst := some 46 },
    { op := .bin .neq (.t 46) (.c (.int .i64 2)), dst := some 47 },
    { op := .mov (.t 47), dst := some 48 },
    { op := .fad 0 (.t 5), dst := some 49, g := some (48, false) },
    { op := .load 1 false (.t 49), dst := some 50, g := some (48, false) },
    { op := .bin .neq (.t 50) (.c (.int .i64 2)), dst := some 51, g := some (48, false) },
    { op := .pick (.t 48) (.c (.bool true)) (.t 51), dst := some 52 }]
def a13_r18 : ACode := .reg [{ op := .build [.int .i64 0, .int .i64 0, .str [], .nils, .nils] [], dst := some 53 },
    { op := .store 5 true (.t 6) (.t 53), dst := none },
    { op := .mov (.c (.int .i64 12)), dst := some 7 }]
def a13_r19 : ACode := .reg [{ op := .mov (.t 0), dst := some 54 },
    { op := .fad 1 (.t 4), dst := some 55 },
    { op := .load 1 false (.t 55), dst := some 56 },
    { op := .fad 1 (.t 5), dst := some 57 },
    { op := .load 1 false (.t 57), dst := some 58 },
    { op := .call 44 [(.t 54), (.t 56), (.t 58)], dst := some 59 },
    { op := .ext (.t 59) 0, dst := some 60 },
    { op := .ext (.t 59) 1, dst := some 61 },
    { op := .store 5 true (.t 6) (.t 60), dst := none },
    { op := .mov (.t 61), dst := some 7 }]
def a13_r20 : ACode := .reg [{ op := .build [.int .i64 0, .int .i64 0, .str [], .nils, .nils] [], dst := some 62 },
    { op := .store 5 true (.t 6) (.t 62), dst := none },
    { op := .mov (.c (.int .i64 2)), dst := some 7 }]
def a13 : ACode := (.seq a13_r0 (.seq (.seq a13_r1 (.block 0 (.seq a13_r2 (.cond (.t 9) (.seq a13_r3 .ret) (.seq a13_r4 (.cond (.t 15) (.seq a13_r5 .ret) (.seq (.seq a13_r6 (.cond (.t 22) .skip (.seq a13_r7 (.cond (.t 22) .skip (.seq a13_r8 (.cond (.t 22) .skip a13_r9)))))) (.cond (.t 22) (.seq a13_r10 .ret) (.seq a13_r11 (.cond (.t 33) (.seq a13_r12 .ret) (.seq (.seq a13_r13 (.cond (.t 40) .skip (.seq a13_r14 (.cond (.t 40) .skip (.seq a13_r15 (.cond (.t 40) .skip a13_r16)))))) (.cond (.t 40) (.seq (.seq a13_r17 (.cond (.t 52) (.seq a13_r18 .ret) .skip)) (.seq a13_r19 .ret)) .skip)))))))))))) (.seq a13_r20 .ret)))
def a13_res : List ARes := [.cell 6 5 true, .tmp 7]
theorem a13_ok : Coded Tryd.prog 13 63 a13 a13_res := ⟨Tryd.f13, _, by kernel_rfl, rfl, by kernel_rfl, rfl, by kernel_rfl, by kernel_rfl⟩
theorem a13_of {args : List AV} {Q : AV → Prop} (hl : args.length ≤ 63) (h : AW Tryd.prog 63 a13 (mkS (argT 0 args) [] 0) (retQ a13_res Q)) : ACall Tryd.prog 13 args Q := acall_coded a13_ok hl h

/- workflow/workflowlaw12.num -/
def a14_r0 : ACode := .reg [{ op := .alloc 5 true [.int .i64 0, .int .i64 0, .str [], .nils, .nils], dst := some 2, k := 0 }]
def a14_r1 : ACode := .reg [{ op := .mov (.t 0), dst := some 3 },
    { op := .build [.int .i64 0, .int .i64 0, .str [], .nils, .nils] [(0, 1, (.c (.int .i64 2))), (1, 1, (.t 3))], dst := some 4 },
    { op := .store 5 true (.t 2) (.t 4), dst := none }]
def a14 : ACode := (.seq a14_r0 (.seq a14_r1 .ret))
def a14_res : List ARes := [.cell 2 5 true]
theorem a14_ok : Coded Tryd.prog 14 5 a14 a14_res := ⟨Tryd.f14, _, by kernel_rfl, rfl, by kernel_rfl, rfl, by kernel_rfl, by kernel_rfl⟩
theorem a14_of {args : List AV} {Q : AV → Prop} (hl : args.length ≤ 5) (h : AW Tryd.prog 5 a14 (mkS (argT 0 args) [] 0) (retQ a14_res Q)) : ACall Tryd.prog 14 args Q := acall_coded a14_ok hl h

/- workflow/workflowlaw12.text -/
def a15_r0 : ACode := .reg [{ op := .alloc 5 true [.int .i64 0, .int .i64 0, .str [], .nils, .nils], dst := some 2, k := 0 }]
def a15_r1 : ACode := .reg [{ op := .mov (.t 0), dst := some 3 },
    { op := .build [.int .i64 0, .int .i64 0, .str [], .nils, .nils] [(0, 1, (.c (.int .i64 3))), (2, 1, (.t 3))], dst := some 4 },
    { op := .store 5 true (.t 2) (.t 4), dst := none }]
def a15 : ACode := (.seq a15_r0 (.seq a15_r1 .ret))
def a15_res : List ARes := [.cell 2 5 true]
theorem a15_ok : Coded Tryd.prog 15 5 a15 a15_res := ⟨Tryd.f15, _, by kernel_rfl, rfl, by kernel_rfl, rfl, by kernel_rfl, by kernel_rfl⟩
theorem a15_of {args : List AV} {Q : AV → Prop} (hl : args.length ≤ 5) (h : AW Tryd.prog 5 a15 (mkS (argT 0 args) [] 0) (retQ a15_res Q)) : ACall Tryd.prog 15 args Q := acall_coded a15_ok hl h

/- workflow/workflowlaw12.holds -/
def a16_r0 : ACode := .reg [{ op := .box 5 true (.t 1), dst := some 4, k := 0 },
    { op := .box 5 true (.t 2), dst := some 5, k := 1 },
    { op := .mov (.c (.bool false)), dst := some 6 }]
def a16_r1 : ACode := .reg [{ op := .mov (.t 0), dst := some 10 },
    { op := .load 5 true (.t 4), dst := some 11 },
    { op := .load 5 true (.t 5), dst := some 12 },
    { op := .call 13 [(.t 10), (.t 11), (.t 12)], dst := some 13 },
    { op := .mov (.t 13), dst := some 9 },
    { op := .ext (.t 9) 0, dst := some 14 },
    { op := .ext (.t 9) 1, dst := some 15 },
    { op := .alloc 5 true [.int .i64 0, .int .i64 0, .str [], .nils, .nils], dst := some 7, k := 10 },
    { op := .store 5 true (.t 7) (.t 14), dst := none },
    { op := .mov (.t 15), dst := some 8 }]
def a16_r2 : ACode := .reg [{ op := .mov (.t 8), dst := some 16 },
    { op := .bin .eql (.t 16) (.c (.int .i64 0)), dst := some 17 },
    { op := .mov (.t 17), dst := some 18 },
    { op := .fad 0 (.t 7), dst := some 19, g := some (18, true) },
    { op := .load 1 false (.t 19), dst := some 20, g := some (18, true) },
    { op := .bin .eql (.t 20) (.c (.int .i64 1)), dst := some 21, g := some (18, true) },
    { op := .pick (.t 18) (.t 21) (.c (.bool false)), dst := some 22 },
    { op := .mov (.t 22), dst := some 23 },
    { op := .fad 1 (.t 7), dst := some 24, g := some (23, true) },
    { op := .load 1 false (.t 24), dst := some 25, g := some (23, true) },
    { op := .bin .eql (.t 25) (.c (.int .i64 1)), dst := some 26, g := some (23, true) },
    { op := .pick (.t 23) (.t 26) (.c (.bool false)), dst := some 27 },
    { op := .mov (.t 27), dst := some 6 }]
def a16 : ACode := (.seq a16_r0 (.seq a16_r1 (.seq a16_r2 .ret)))
def a16_res : List ARes := [.tmp 6]
theorem a16_ok : Coded Tryd.prog 16 28 a16 a16_res := ⟨Tryd.f16, _, by kernel_rfl, rfl, by kernel_rfl, rfl, by kernel_rfl, by kernel_rfl⟩
theorem a16_of {args : List AV} {Q : AV → Prop} (hl : args.length ≤ 28) (h : AW Tryd.prog 28 a16 (mkS (argT 0 args) [] 0) (retQ a16_res Q)) : ACall Tryd.prog 16 args Q := acall_coded a16_ok hl h

/- workflow/ops.Index -/
def a23_r0 : ACode := .reg [{ op := .box 5 true (.t 0), dst := some 2, k := 0 },
    { op := .box 5 true (.t 1), dst := some 3, k := 1 },
    { op := .alloc 5 true [.int .i64 0, .int .i64 0, .str [], .nils, .nils], dst := some 4, k := 2 },
    { op := .mov (.c (.int .i64 0)), dst := some 5 }]
def a23_r1 : ACode := .reg [{ op := .mkf 47 [(.t 3)], dst := some 7 },
    { op := .mov (.t 7), dst := some 6 }]
def a23_r2 : ACode := .reg [{ op := .fad 0 (.t 2), dst := some 9 },
    { op := .load 1 false (.t 9), dst := some 10 },
    { op := .bin .eql (.t 10) (.c (.int .i64 5)), dst := some 11 },
    { op := .mov (.t 11), dst := some 12 },
    { op := .fad 0 (.t 3), dst := some 13, g := some (12, true) },
    { op := .load 1 false (.t 13), dst := some 14, g := some (12, true) },
    { op := .bin .eql (.t 14) (.c (.int .i64 3)), dst := some 15, g := some (12, true) },
    { op := .pick (.t 12) (.t 15) (.c (.bool false)), dst := some 16 },
    { op := .mov (.t 16), dst := some 8 }]
def a23_r3 : ACode := .reg [{ op := .load 5 true (.t 2), dst := some 17 },
    { op := .fad 2 (.t 3), dst := some 18 },
    { op := .load 1 false (.t 18), dst := some 19 },
    { op := .call 30 [(.t 17), (.t 19)], dst := some 20 },
    { op := .ext (.t 20) 0, dst := some 21 },
    { op := .ext (.t 20) 1, dst := some 22 },
    { op := .store 5 true (.t 4) (.t 21), dst := none },
    { op := .mov (.t 22), dst := some 5 }]
def a23_r4 : ACode := .reg [{ op := .fad 0 (.t 2), dst := some 24 },
    { op := .load 1 false (.t 24), dst := some 25 },
    { op := .bin .eql (.t 25) (.c (.int .i64 4)), dst := some 26 },
    { op := .mov (.t 26), dst := some 27 },
    { op := .fad 0 (.t 3), dst := some 28, g := some (27, true) },
    { op := .load 1 false (.t 28), dst := some 29, g := some (27, true) },
    { op := .bin .eql (.t 29) (.c (.int .i64 2)), dst := some 30, g := some (27, true) },
    { op := .pick (.t 27) (.t 30) (.c (.bool false)), dst := some 31 },
    { op := .mov (.t 31), dst := some 23 }]
def a23_r5 : ACode := .reg [{ op := .mov (.t 6), dst := some 32 },
    { op := .fad 3 (.t 2), dst := some 33 },
    { op := .load 1 false (.t 33), dst := some 34 },
    { op := .len false (.t 34), dst := some 35 },
    { op := .callv (.t 32) [(.t 35)], dst := some 36 },
    { op := .not (.t 36), dst := some 37 }]
def a23_r6 : ACode := .reg [{ op := .build [.int .i64 0, .int .i64 0, .str [], .nils, .nils] [], dst := some 38 },
    { op := .store 5 true (.t 4) (.t 38), dst := none },
    { op := .mov (.c (.int .i64 14)), dst := some 5 }]
def a23_r7 : ACode := .reg [{ op := .fad 3 (.t 2), dst := some 39 },
    { op := .load 1 false (.t 39), dst := some 40 },
    { op := .fad 1 (.t 3), dst := some 41 },
    { op := .load 1 false (.t 41), dst := some 42 },
    { op := .iad 5 (.t 40) (.t 42), dst := some 43 },
    { op := .load 5 true (.t 43), dst := some 44 },
    { op := .call 48 [(.t 44)], dst := some 45 },
    { op := .store 5 true (.t 4) (.t 45), dst := none },
    { op := .mov (.c (.int .i64 0)), dst := some 5 }]
def a23_r8 : ACode := .reg [{ op := .fad 0 (.t 2), dst := some 47 },
    { op := .load 1 false (.t 47), dst := some 48 },
    { op := .bin .eql (.t 48) (.c (.int .i64 3)), dst := some 49 },
    { op := .mov (.t 49), dst := some 50 },
    { op := .fad 0 (.t 3), dst := some 51, g := some (50, true) },
    { op := .load 1 false (.t 51), dst := some 52, g := some (50, true) },
    { op := .bin .eql (.t 52) (.c (.int .i64 2)), dst := some 53, g := some (50, true) },
    { op := .pick (.t 50) (.t 53) (.c (.bool false)), dst := some 54 },
    { op := .mov (.t 54), dst := some 46 }]
def a23_r9 : ACode := .reg [{ op := .mov (.t 6), dst := some 55 },
    { op := .fad 2 (.t 2), dst := some 56 },
    { op := .load 1 false (.t 56), dst := some 57 },
    { op := .len true (.t 57), dst := some 58 },
    { op := .callv (.t 55) [(.t 58)], dst := some 59 },
    { op := .not (.t 59), dst := some 60 }]
def a23_r10 : ACode := .reg [{ op := .build [.int .i64 0, .int .i64 0, .str [], .nils, .nils] [], dst := some 61 },
    { op := .store 5 true (.t 4) (.t 61), dst := none },
    { op := .mov (.c (.int .i64 14)), dst := some 5 }]
def a23_r11 : ACode := .reg [{ op := .fad 2 (.t 2), dst := some 62 },
    { op := .load 1 false (.t 62), dst := some 63 },
    { op := .fad 1 (.t 3), dst := some 64 },
    { op := .load 1 false (.t 64), dst := some 65 },
    { op := .fad 1 (.t 3), dst := some 66 },
    { op := .load 1 false (.t 66), dst := some 67 },
    { op := .bin .add (.t 67) (.c (.int .i64 1)), dst := some 68 },
    { op := .sslice (.t 63) (some (.t 65)) (some (.t 68)), dst := some 69 },
    { op := .call 49 [(.t 69)], dst := some 70 },
    { op := .store 5 true (.t 4) (.t 70), dst := none },
    { op := .mov (.c (.int .i64 0)), dst := some 5 }]
def a23_r12 : ACode := .reg [{ op := .build [.int .i64 0, .int .i64 0, .str [], .nils, .nils] [], dst := some 71 },
    { op := .store 5 true (.t 4) (.t 71), dst := none },
    { op := .mov (.c (.int .i64 12)), dst := some 5 }]
def a23 : ACode := (.seq a23_r0 (.seq a23_r1 (.seq (.block 0 (.seq a23_r2 (.cond (.t 8) (.seq a23_r3 .ret) (.seq a23_r4 (.cond (.t 23) (.seq (.seq a23_r5 (.cond (.t 37) (.seq a23_r6 .ret) .skip)) (.seq a23_r7 .ret)) (.seq a23_r8 (.cond (.t 46) (.seq (.seq a23_r9 (.cond (.t 60) (.seq a23_r10 .ret) .skip)) (.seq a23_r11 .ret)) .skip))))))) (.seq a23_r12 .ret))))
def a23_res : List ARes := [.cell 4 5 true, .tmp 5]
theorem a23_ok : Coded Tryd.prog 23 72 a23 a23_res := ⟨Tryd.f23, _, by kernel_rfl, rfl, by kernel_rfl, rfl, by kernel_rfl, by kernel_rfl⟩
theorem a23_of {args : List AV} {Q : AV → Prop} (hl : args.length ≤ 72) (h : AW Tryd.prog 72 a23 (mkS (argT 0 args) [] 0) (retQ a23_res Q)) : ACall Tryd.prog 23 args Q := acall_coded a23_ok hl h

/- workflow/workflowref02.Get -/
def a24_r0 : ACode := .reg [{ op := .box 5 true (.t 0), dst := some 2, k := 0 },
    { op := .alloc 5 true [.int .i64 0, .int .i64 0, .str [], .nils, .nils], dst := some 4, k := 1 },
    { op := .mov (.c (.bool false)), dst := some 5 }]
def a24_r1 : ACode := .reg [{ op := .fad 0 (.t 2), dst := some 6 },
    { op := .load 1 false (.t 6), dst := some 7 },
    { op := .bin .neq (.t 7) (.c (.int .i64 5)), dst := some 8 },
    { op := .mov (.t 8), dst := some 9 },
    { op := .load 5 true (.t 2), dst := some 10, g := some (9, false) },
    { op := .call 50 [(.t 10)], dst := some 11, g := some (9, false) },
    { op := .not (.t 11), dst := some 12, g := some (9, false) },
    { op := .pick (.t 9) (.c (.bool true)) (.t 12), dst := some 13 }]
def a24_r2 : ACode := .reg [{ op := .build [.int .i64 0, .int .i64 0, .str [], .nils, .nils] [], dst := some 14 },
    { op := .store 5 true (.t 4) (.t 14), dst := none },
    { op := .mov (.c (.bool false)), dst := some 5 }]
def a24_r3 : ACode := .reg [{ op := .load 5 true (.t 2), dst := some 15 },
    { op := .mov (.t 1), dst := some 16 },
    { op := .call 51 [(.t 15), (.t 16)], dst := some 17 },
    { op := .ext (.t 17) 0, dst := some 18 },
    { op := .ext (.t 17) 1, dst := some 19 },
    { op := .store 5 true (.t 4) (.t 18), dst := none },
    { op := .mov (.t 19), dst := some 5 }]
def a24 : ACode := (.seq a24_r0 (.seq (.seq a24_r1 (.cond (.t 13) (.seq a24_r2 .ret) .skip)) (.seq a24_r3 .ret)))
def a24_res : List ARes := [.cell 4 5 true, .tmp 5]
theorem a24_ok : Coded Tryd.prog 24 20 a24 a24_res := ⟨Tryd.f24, _, by kernel_rfl, rfl, by kernel_rfl, rfl, by kernel_rfl, by kernel_rfl⟩
theorem a24_of {args : List AV} {Q : AV → Prop} (hl : args.length ≤ 20) (h : AW Tryd.prog 20 a24 (mkS (argT 0 args) [] 0) (retQ a24_res Q)) : ACall Tryd.prog 24 args Q := acall_coded a24_ok hl h

/- workflow/ops.Fault -/
def a25_r0 : ACode := .reg [{ op := .alloc 5 true [.int .i64 0, .int .i64 0, .str [], .nils, .nils], dst := some 2, k := 0 }]
def a25_r1 : ACode := .reg [{ op := .mov (.c (.str [101, 114, 114, 111, 114])), dst := some 3 }]
def a25_r2 : ACode := .reg [{ op := .mov (.t 0), dst := some 4 }]
def a25_r3 : ACode := .reg [{ op := .bin .eql (.t 4) (.c (.int .i64 12)), dst := some 6 },
    { op := .mov (.t 6), dst := some 5 }]
def a25_r4 : ACode := .reg [{ op := .mov (.c (.str [116, 121, 112, 101])), dst := some 3 }]
def a25_r5 : ACode := .reg [{ op := .bin .eql (.t 4) (.c (.int .i64 13)), dst := some 8 },
    { op := .mov (.t 8), dst := some 7 }]
def a25_r6 : ACode := .reg [{ op := .mov (.c (.str [122, 101, 114, 111])), dst := some 3 }]
def a25_r7 : ACode := .reg [{ op := .bin .eql (.t 4) (.c (.int .i64 14)), dst := some 10 },
    { op := .mov (.t 10), dst := some 9 }]
def a25_r8 : ACode := .reg [{ op := .mov (.c (.str [114, 97, 110, 103, 101])), dst := some 3 }]
def a25_r9 : ACode := .reg [{ op := .bin .eql (.t 4) (.c (.int .i64 15)), dst := some 12 },
    { op := .mov (.t 12), dst := some 11 }]
def a25_r10 : ACode := .reg [{ op := .mov (.c (.str [110, 111, 110, 101])), dst := some 3 }]
def a25_r11 : ACode := .reg [{ op := .bin .eql (.t 4) (.c (.int .i64 2)), dst := some 14 },
    { op := .mov (.t 14), dst := some 13 }]
def a25_r12 : ACode := .reg [{ op := .mov (.c (.str [97, 114, 103])), dst := some 3 }]
def a25_r13 : ACode := .reg [{ op := .bin .eql (.t 4) (.c (.int .i64 6)), dst := some 16 },
    { op := .mov (.t 16), dst := some 15 }]
def a25_r14 : ACode := .reg [{ op := .bin .eql (.t 4) (.c (.int .i64 18)), dst := some 17 },
    { op := .mov (.t 17), dst := some 15 }]
def a25_r15 : ACode := .reg [{ op := .mov (.c (.str [115, 105, 122, 101])), dst := some 3 }]
def a25_r16 : ACode := .reg [{ op := .bin .eql (.t 4) (.c (.int .i64 7)), dst := some 19 },
    { op := .mov (.t 19), dst := some 18 }]
def a25_r17 : ACode := .reg [{ op := .mov (.c (.str [100, 101, 112, 116, 104])), dst := some 3 }]
def a25_r18 : ACode := .reg [{ op := .bin .eql (.t 4) (.c (.int .i64 16)), dst := some 21 },
    { op := .mov (.t 21), dst := some 20 }]
def a25_r19 : ACode := .reg [{ op := .mov (.c (.str [115, 97, 103, 97])), dst := some 3 }]
def a25_r20 : ACode := .reg [{ op := .mov (.t 3), dst := some 22 },
    { op := .call 53 [], dst := some 23 },
    { op := .call 52 [(.t 22), (.t 23)], dst := some 24 },
    { op := .store 5 true (.t 2) (.t 24), dst := none }]
def a25 : ACode := (.seq a25_r0 (.seq a25_r1 (.seq (.seq a25_r2 (.block 0 (.seq a25_r3 (.cond (.t 5) a25_r4 (.seq a25_r5 (.cond (.t 7) a25_r6 (.seq a25_r7 (.cond (.t 9) a25_r8 (.seq a25_r9 (.cond (.t 11) a25_r10 (.seq a25_r11 (.cond (.t 13) a25_r12 (.seq (.seq a25_r13 (.cond (.t 15) .skip a25_r14)) (.cond (.t 15) a25_r15 (.seq a25_r16 (.cond (.t 18) a25_r17 (.seq a25_r18 (.cond (.t 20) a25_r19 .skip)))))))))))))))))) (.seq a25_r20 .ret))))
def a25_res : List ARes := [.cell 2 5 true]
theorem a25_ok : Coded Tryd.prog 25 25 a25 a25_res := ⟨Tryd.f25, _, by kernel_rfl, rfl, by kernel_rfl, rfl, by kernel_rfl, by kernel_rfl⟩
theorem a25_of {args : List AV} {Q : AV → Prop} (hl : args.length ≤ 25) (h : AW Tryd.prog 25 a25 (mkS (argT 0 args) [] 0) (retQ a25_res Q)) : ACall Tryd.prog 25 args Q := acall_coded a25_ok hl h

/- workflow/scope.Arity -/
def a26_r0 : ACode := .reg [{ op := .mov (.c (.int .i64 0)), dst := some 2 },
    { op := .mov (.c (.int .i64 0)), dst := some 3 },
    { op := .mov (.c (.int .i64 0)), dst := some 4 }]
def a26_r1 : ACode := .reg [{ op := .mov (.t 0), dst := some 5 }]
def a26_r2 : ACode := .reg [{ op := .bin .eql (.t 5) (.c (.str [108, 101, 110])), dst := some 7 },
    { op := .mov (.t 7), dst := some 6 }]
def a26_r3 : ACode := .reg [{ op := .bin .eql (.t 5) (.c (.str [115, 116, 114])), dst := some 8 },
    { op := .mov (.t 8), dst := some 6 }]
def a26_r4 : ACode := .reg [{ op := .bin .eql (.t 5) (.c (.str [105, 110, 116])), dst := some 9 },
    { op := .mov (.t 9), dst := some 6 }]
def a26_r5 : ACode := .reg [{ op := .bin .eql (.t 5) (.c (.str [107, 101, 121, 115])), dst := some 10 },
    { op := .mov (.t 10), dst := some 6 }]
def a26_r6 : ACode := .reg [{ op := .mov (.c (.int .i64 1)), dst := some 2 },
    { op := .mov (.c (.int .i64 1)), dst := some 3 },
    { op := .mov (.c (.int .i64 1)), dst := some 4 }]
def a26_r7 : ACode := .reg [{ op := .bin .eql (.t 5) (.c (.str [112, 117, 115, 104])), dst := some 12 },
    { op := .mov (.t 12), dst := some 11 }]
def a26_r8 : ACode := .reg [{ op := .bin .eql (.t 5) (.c (.str [104, 97, 115])), dst := some 13 },
    { op := .mov (.t 13), dst := some 11 }]
def a26_r9 : ACode := .reg [{ op := .mov (.c (.int .i64 2)), dst := some 2 },
    { op := .mov (.c (.int .i64 2)), dst := some 3 },
    { op := .mov (.c (.int .i64 1)), dst := some 4 }]
def a26_r10 : ACode := .reg [{ op := .bin .eql (.t 5) (.c (.str [112, 117, 116])), dst := some 15 },
    { op := .mov (.t 15), dst := some 14 }]
def a26_r11 : ACode := .reg [{ op := .mov (.c (.int .i64 3)), dst := some 2 },
    { op := .mov (.c (.int .i64 3)), dst := some 3 },
    { op := .mov (.c (.int .i64 1)), dst := some 4 }]
def a26_r12 : ACode := .reg [{ op := .bin .eql (.t 5) (.c (.str [97, 99, 116, 105, 118, 105, 116, 121])), dst := some 17 },
    { op := .mov (.t 17), dst := some 16 }]
def a26_r13 : ACode := .reg [{ op := .mov (.c (.int .i64 2)), dst := some 2 },
    { op := .mov (.c (.int .i64 3)), dst := some 3 },
    { op := .mov (.c (.int .i64 2)), dst := some 4 }]
def a26_r14 : ACode := .reg [{ op := .bin .eql (.t 5) (.c (.str [116, 105, 109, 101, 114])), dst := some 19 },
    { op := .mov (.t 19), dst := some 18 }]
def a26_r15 : ACode := .reg [{ op := .bin .eql (.t 5) (.c (.str [114, 101, 99, 101, 105, 118, 101])), dst := some 20 },
    { op := .mov (.t 20), dst := some 18 }]
def a26_r16 : ACode := .reg [{ op := .mov (.c (.int .i64 1)), dst := some 2 },
    { op := .mov (.c (.int .i64 1)), dst := some 3 },
    { op := .mov (.c (.int .i64 2)), dst := some 4 }]
def a26_r17 : ACode := .reg [{ op := .bin .eql (.t 5) (.c (.str [99, 104, 105, 108, 100])), dst := some 22 },
    { op := .mov (.t 22), dst := some 21 }]
def a26_r18 : ACode := .reg [{ op := .mov (.c (.int .i64 3)), dst := some 2 },
    { op := .mov (.c (.int .i64 4)), dst := some 3 },
    { op := .mov (.c (.int .i64 2)), dst := some 4 }]
def a26_r19 : ACode := .reg [{ op := .bin .eql (.t 5) (.c (.str [115, 101, 110, 100])), dst := some 24 },
    { op := .mov (.t 24), dst := some 23 }]
def a26_r20 : ACode := .reg [{ op := .mov (.c (.int .i64 3)), dst := some 2 },
    { op := .mov (.c (.int .i64 3)), dst := some 3 },
    { op := .mov (.c (.int .i64 2)), dst := some 4 }]
def a26_r21 : ACode := .reg [{ op := .bin .eql (.t 5) (.c (.str [99, 97, 110, 99, 101, 108, 108, 97, 116, 105, 111, 110])), dst := some 26 },
    { op := .mov (.t 26), dst := some 25 }]
def a26_r22 : ACode := .reg [{ op := .mov (.c (.int .i64 0)), dst := some 2 },
    { op := .mov (.c (.int .i64 0)), dst := some 3 },
    { op := .mov (.c (.int .i64 2)), dst := some 4 }]
def a26_r23 : ACode := .reg [{ op := .bin .eql (.t 5) (.c (.str [110, 111, 119])), dst := some 28 },
    { op := .mov (.t 28), dst := some 27 }]
def a26_r24 : ACode := .reg [{ op := .bin .eql (.t 5) (.c (.str [99, 97, 110, 99, 101, 108, 108, 101, 100])), dst := some 29 },
    { op := .mov (.t 29), dst := some 27 }]
def a26_r25 : ACode := .reg [{ op := .mov (.c (.int .i64 0)), dst := some 2 },
    { op := .mov (.c (.int .i64 0)), dst := some 3 },
    { op := .mov (.c (.int .i64 3)), dst := some 4 }]
def a26_r26 : ACode := .reg [{ op := .bin .eql (.t 5) (.c (.str [114, 97, 110, 100, 111, 109])), dst := some 31 },
    { op := .mov (.t 31), dst := some 30 }]
def a26_r27 : ACode := .reg [{ op := .bin .eql (.t 5) (.c (.str [114, 101, 99, 111, 114, 100])), dst := some 32 },
    { op := .mov (.t 32), dst := some 30 }]
def a26_r28 : ACode := .reg [{ op := .bin .eql (.t 5) (.c (.str [100, 111, 110, 101])), dst := some 33 },
    { op := .mov (.t 33), dst := some 30 }]
def a26_r29 : ACode := .reg [{ op := .bin .eql (.t 5) (.c (.str [99, 97, 110, 99, 101, 108])), dst := some 34 },
    { op := .mov (.t 34), dst := some 30 }]
def a26_r30 : ACode := .reg [{ op := .bin .eql (.t 5) (.c (.str [97, 116, 116, 114, 115])), dst := some 35 },
    { op := .mov (.t 35), dst := some 30 }]
def a26_r31 : ACode := .reg [{ op := .bin .eql (.t 5) (.c (.str [99, 111, 110, 116, 105, 110, 117, 101, 65, 115])), dst := some 36 },
    { op := .mov (.t 36), dst := some 30 }]
def a26_r32 : ACode := .reg [{ op := .bin .eql (.t 5) (.c (.str [99, 97, 110, 99, 101, 108, 101, 100])), dst := some 37 },
    { op := .mov (.t 37), dst := some 30 }]
def a26_r33 : ACode := .reg [{ op := .mov (.c (.int .i64 1)), dst := some 2 },
    { op := .mov (.c (.int .i64 1)), dst := some 3 },
    { op := .mov (.c (.int .i64 3)), dst := some 4 }]
def a26_r34 : ACode := .reg [{ op := .bin .eql (.t 5) (.c (.str [118, 101, 114, 115, 105, 111, 110])), dst := some 39 },
    { op := .mov (.t 39), dst := some 38 }]
def a26_r35 : ACode := .reg [{ op := .mov (.c (.int .i64 2)), dst := some 2 },
    { op := .mov (.c (.int .i64 2)), dst := some 3 },
    { op := .mov (.c (.int .i64 3)), dst := some 4 }]
def a26_r36 : ACode := .reg [{ op := .mov (.c (.int .i64 0)), dst := some 2 },
    { op := .mov (.c (.int .i64 0)), dst := some 3 },
    { op := .mov (.c (.int .i64 0)), dst := some 4 }]
def a26 : ACode := (.seq a26_r0 (.seq (.seq a26_r1 (.block 0 (.seq (.seq a26_r2 (.cond (.t 6) .skip (.seq a26_r3 (.cond (.t 6) .skip (.seq a26_r4 (.cond (.t 6) .skip a26_r5)))))) (.cond (.t 6) (.seq a26_r6 .ret) (.seq (.seq a26_r7 (.cond (.t 11) .skip a26_r8)) (.cond (.t 11) (.seq a26_r9 .ret) (.seq a26_r10 (.cond (.t 14) (.seq a26_r11 .ret) (.seq a26_r12 (.cond (.t 16) (.seq a26_r13 .ret) (.seq (.seq a26_r14 (.cond (.t 18) .skip a26_r15)) (.cond (.t 18) (.seq a26_r16 .ret) (.seq a26_r17 (.cond (.t 21) (.seq a26_r18 .ret) (.seq a26_r19 (.cond (.t 23) (.seq a26_r20 .ret) (.seq a26_r21 (.cond (.t 25) (.seq a26_r22 .ret) (.seq (.seq a26_r23 (.cond (.t 27) .skip a26_r24)) (.cond (.t 27) (.seq a26_r25 .ret) (.seq (.seq a26_r26 (.cond (.t 30) .skip (.seq a26_r27 (.cond (.t 30) .skip (.seq a26_r28 (.cond (.t 30) .skip (.seq a26_r29 (.cond (.t 30) .skip (.seq a26_r30 (.cond (.t 30) .skip (.seq a26_r31 (.cond (.t 30) .skip a26_r32)))))))))))) (.cond (.t 30) (.seq a26_r33 .ret) (.seq a26_r34 (.cond (.t 38) (.seq a26_r35 .ret) .skip)))))))))))))))))))))))) (.seq a26_r36 .ret)))
def a26_res : List ARes := [.tmp 2, .tmp 3, .tmp 4]
theorem a26_ok : Coded Tryd.prog 26 40 a26 a26_res := ⟨Tryd.f26, _, by kernel_rfl, rfl, by kernel_rfl, rfl, by kernel_rfl, by kernel_rfl⟩
theorem a26_of {args : List AV} {Q : AV → Prop} (hl : args.length ≤ 40) (h : AW Tryd.prog 40 a26 (mkS (argT 0 args) [] 0) (retQ a26_res Q)) : ACall Tryd.prog 26 args Q := acall_coded a26_ok hl h

/- workflow/ops.element -/
def a30_r0 : ACode := .reg [{ op := .box 5 true (.t 0), dst := some 2, k := 0 },
    { op := .alloc 5 true [.int .i64 0, .int .i64 0, .str [], .nils, .nils], dst := some 4, k := 1 },
    { op := .mov (.c (.int .i64 0)), dst := some 5 }]
def a30_r1 : ACode := .reg [{ op := .fad 4 (.t 2), dst := some 8 },
    { op := .load 1 false (.t 8), dst := some 9 },
    { op := .len false (.t 9), dst := some 10 },
    { op := .mov (.c (.int .i64 0)), dst := some 11 }]
def a30_r2 : ACode := .reg [{ op := .bin .lss (.t 11) (.t 10), dst := some 12 }]
def a30_r3 : ACode := .reg [{ op := .mov (.t 11), dst := some 13 },
    { op := .iad 1 (.t 9) (.t 11), dst := some 14 },
    { op := .load 1 false (.t 14), dst := some 15 },
    { op := .mov (.t 13), dst := some 6 },
    { op := .mov (.t 15), dst := some 7 }]
def a30_r4 : ACode := .reg [{ op := .mov (.t 7), dst := some 16 },
    { op := .mov (.t 1), dst := some 17 },
    { op := .bin .eql (.t 16) (.t 17), dst := some 18 },
    { op := .mov (.t 18), dst := some 19 },
    { op := .mov (.t 6), dst := some 20, g := some (19, true) },
    { op := .fad 3 (.t 2), dst := some 21, g := some (19, true) },
    { op := .load 1 false (.t 21), dst := some 22, g := some (19, true) },
    { op := .len false (.t 22), dst := some 23, g := some (19, true) },
    { op := .bin .lss (.t 20) (.t 23), dst := some 24, g := some (19, true) },
    { op := .pick (.t 19) (.t 24) (.c (.bool false)), dst := some 25 }]
def a30_r5 : ACode := .reg [{ op := .fad 3 (.t 2), dst := some 26 },
    { op := .load 1 false (.t 26), dst := some 27 },
    { op := .mov (.t 6), dst := some 28 },
    { op := .iad 5 (.t 27) (.t 28), dst := some 29 },
    { op := .load 5 true (.t 29), dst := some 30 },
    { op := .call 48 [(.t 30)], dst := some 31 },
    { op := .store 5 true (.t 4) (.t 31), dst := none },
    { op := .mov (.c (.int .i64 0)), dst := some 5 }]
def a30_r6 : ACode := .reg [{ op := .bin .add (.t 11) (.c (.int .i64 1)), dst := some 32 },
    { op := .mov (.t 32), dst := some 11 }]
def a30_l0 : ACode := (.seq a30_r2 (.seq (.cond (.t 12) .skip (.exit 0)) (.seq (.block 1 (.seq a30_r3 (.seq a30_r4 (.cond (.t 25) (.seq a30_r5 .ret) .skip)))) a30_r6)))
def a30_r7 : ACode := .reg [{ op := .build [.int .i64 0, .int .i64 0, .str [], .nils, .nils] [], dst := some 33 },
    { op := .store 5 true (.t 4) (.t 33), dst := none },
    { op := .mov (.c (.int .i64 15)), dst := some 5 }]
def a30 : ACode := (.seq a30_r0 (.seq (.seq a30_r1 (.block 0 (.loop a30_l0))) (.seq a30_r7 .ret)))
def a30_res : List ARes := [.cell 4 5 true, .tmp 5]
theorem a30_ok : Coded Tryd.prog 30 34 a30 a30_res := ⟨Tryd.f30, _, by kernel_rfl, rfl, by kernel_rfl, rfl, by kernel_rfl, by kernel_rfl⟩
theorem a30_of {args : List AV} {Q : AV → Prop} (hl : args.length ≤ 34) (h : AW Tryd.prog 34 a30 (mkS (argT 0 args) [] 0) (retQ a30_res Q)) : ACall Tryd.prog 30 args Q := acall_coded a30_ok hl h

/- workflow/value.Bool -/
def a31_r0 : ACode := .reg [{ op := .alloc 5 true [.int .i64 0, .int .i64 0, .str [], .nils, .nils], dst := some 2, k := 0 }]
def a31_r1 : ACode := .reg [{ op := .mov (.t 0), dst := some 3 }]
def a31_r2 : ACode := .reg [{ op := .build [.int .i64 0, .int .i64 0, .str [], .nils, .nils] [(0, 1, (.c (.int .i64 1))), (1, 1, (.c (.int .i64 1)))], dst := some 4 },
    { op := .store 5 true (.t 2) (.t 4), dst := none }]
def a31_r3 : ACode := .reg [{ op := .build [.int .i64 0, .int .i64 0, .str [], .nils, .nils] [(0, 1, (.c (.int .i64 1)))], dst := some 5 },
    { op := .store 5 true (.t 2) (.t 5), dst := none }]
def a31 : ACode := (.seq a31_r0 (.seq (.seq a31_r1 (.cond (.t 3) (.seq a31_r2 .ret) .skip)) (.seq a31_r3 .ret)))
def a31_res : List ARes := [.cell 2 5 true]
theorem a31_ok : Coded Tryd.prog 31 6 a31 a31_res := ⟨Tryd.f31, _, by kernel_rfl, rfl, by kernel_rfl, rfl, by kernel_rfl, by kernel_rfl⟩
theorem a31_of {args : List AV} {Q : AV → Prop} (hl : args.length ≤ 6) (h : AW Tryd.prog 6 a31 (mkS (argT 0 args) [] 0) (retQ a31_res Q)) : ACall Tryd.prog 31 args Q := acall_coded a31_ok hl h

/- workflow/ops.one -/
def a32_r0 : ACode := .reg [{ op := .box 5 true (.t 1), dst := some 3, k := 0 },
    { op := .alloc 5 true [.int .i64 0, .int .i64 0, .str [], .nils, .nils], dst := some 4, k := 1 },
    { op := .mov (.c (.int .i64 0)), dst := some 5 }]
def a32_r1 : ACode := .reg [{ op := .mov (.t 0), dst := some 9 }]
def a32_r2 : ACode := .reg [{ op := .bin .eql (.t 9) (.c (.str [108, 101, 110])), dst := some 11 },
    { op := .mov (.t 11), dst := some 10 }]
def a32_r3 : ACode := .reg [{ op := .load 5 true (.t 3), dst := some 12 },
    { op := .call 57 [(.t 12)], dst := some 13 },
    { op := .ext (.t 13) 0, dst := some 14 },
    { op := .ext (.t 13) 1, dst := some 15 },
    { op := .store 5 true (.t 4) (.t 14), dst := none },
    { op := .mov (.t 15), dst := some 5 }]
def a32_r4 : ACode := .reg [{ op := .bin .eql (.t 9) (.c (.str [115, 116, 114])), dst := some 17 },
    { op := .mov (.t 17), dst := some 16 }]
def a32_r5 : ACode := .reg [{ op := .load 5 true (.t 3), dst := some 18 },
    { op := .call 58 [(.t 18)], dst := some 19 },
    { op := .ext (.t 19) 0, dst := some 20 },
    { op := .ext (.t 19) 1, dst := some 21 },
    { op := .store 5 true (.t 4) (.t 20), dst := none },
    { op := .mov (.t 21), dst := some 5 }]
def a32_r6 : ACode := .reg [{ op := .bin .eql (.t 9) (.c (.str [105, 110, 116])), dst := some 23 },
    { op := .mov (.t 23), dst := some 22 }]
def a32_r7 : ACode := .reg [{ op := .load 5 true (.t 3), dst := some 24 },
    { op := .call 59 [(.t 24)], dst := some 25 },
    { op := .ext (.t 25) 0, dst := some 26 },
    { op := .ext (.t 25) 1, dst := some 27 },
    { op := .store 5 true (.t 4) (.t 26), dst := none },
    { op := .mov (.t 27), dst := some 5 }]
def a32_r8 : ACode := .reg [{ op := .fad 0 (.t 3), dst := some 28 },
    { op := .load 1 false (.t 28), dst := some 29 },
    { op := .bin .neq (.t 29) (.c (.int .i64 5)), dst := some 30 }]
def a32_r9 : ACode := .reg [{ op := .build [.int .i64 0, .int .i64 0, .str [], .nils, .nils] [], dst := some 31 },
    { op := .store 5 true (.t 4) (.t 31), dst := none },
    { op := .mov (.c (.int .i64 12)), dst := some 5 }]
def a32_r10 : ACode := .reg [{ op := .mov (.c (.nils)), dst := some 6 }]
def a32_r11 : ACode := .reg [{ op := .fad 4 (.t 3), dst := some 32 },
    { op := .load 1 false (.t 32), dst := some 33 },
    { op := .len false (.t 33), dst := some 34 },
    { op := .mov (.c (.int .i64 0)), dst := some 35 }]
def a32_r12 : ACode := .reg [{ op := .bin .lss (.t 35) (.t 34), dst := some 36 }]
def a32_r13 : ACode := .reg [{ op := .iad 1 (.t 33) (.t 35), dst := some 37 },
    { op := .load 1 false (.t 37), dst := some 38 },
    { op := .mov (.t 38), dst := some 8 }]
def a32_r14 : ACode := .reg [{ op := .mov (.t 6), dst := some 39 },
    { op := .mov (.t 8), dst := some 40 },
    { op := .call 49 [(.t 40)], dst := some 41 },
    { op := .bsl 5 true 1 [.int .i64 0, .int .i64 0, .str [], .nils, .nils] [(0, (.t 41))], dst := some 42 },
    { op := .app 5 80 (.t 39) (.t 42), dst := some 43, k := 47 },
    { op := .mov (.t 43), dst := some 6 }]
def a32_r15 : ACode := .reg [{ op := .bin .add (.t 35) (.c (.int .i64 1)), dst := some 44 },
    { op := .mov (.t 44), dst := some 35 }]
def a32_l0 : ACode := (.seq a32_r12 (.seq (.cond (.t 36) .skip (.exit 1)) (.seq (.block 2 (.seq a32_r13 a32_r14)) a32_r15)))
def a32_r16 : ACode := .reg [{ op := .mov (.t 6), dst := some 45 },
    { op := .call 28 [(.t 45)], dst := some 46 },
    { op := .store 5 true (.t 4) (.t 46), dst := none },
    { op := .mov (.c (.int .i64 0)), dst := some 5 }]
def a32 : ACode := (.seq a32_r0 (.seq (.seq a32_r1 (.block 0 (.seq a32_r2 (.cond (.t 10) (.seq a32_r3 .ret) (.seq a32_r4 (.cond (.t 16) (.seq a32_r5 .ret) (.seq a32_r6 (.cond (.t 22) (.seq a32_r7 .ret) .skip)))))))) (.seq (.seq a32_r8 (.cond (.t 30) (.seq a32_r9 .ret) .skip)) (.seq a32_r10 (.seq (.seq a32_r11 (.block 1 (.loop a32_l0))) (.seq a32_r16 .ret))))))
def a32_res : List ARes := [.cell 4 5 true, .tmp 5]
theorem a32_ok : Coded Tryd.prog 32 47 a32 a32_res := ⟨Tryd.f32, _, by kernel_rfl, rfl, by kernel_rfl, rfl, by kernel_rfl, by kernel_rfl⟩
theorem a32_of {args : List AV} {Q : AV → Prop} (hl : args.length ≤ 47) (h : AW Tryd.prog 47 a32 (mkS (argT 0 args) [] 0) (retQ a32_res Q)) : ACall Tryd.prog 32 args Q := acall_coded a32_ok hl h

/- workflow/value.Same -/
def a41_r0 : ACode := .reg [{ op := .box 5 true (.t 0), dst := some 2, k := 0 },
    { op := .box 5 true (.t 1), dst := some 3, k := 1 },
    { op := .mov (.c (.bool false)), dst := some 4 }]
def a41_r1 : ACode := .reg [{ op := .fad 0 (.t 2), dst := some 5 },
    { op := .load 1 false (.t 5), dst := some 6 },
    { op := .fad 0 (.t 3), dst := some 7 },
    { op := .load 1 false (.t 7), dst := some 8 },
    { op := .bin .eql (.t 6) (.t 8), dst := some 9 },
    { op := .mov (.t 9), dst := some 10 },
    { op := .fad 1 (.t 2), dst := some 11, g := some (10, true) },
    { op := .load 1 false (.t 11), dst := some 12, g := some (10, true) },
    { op := .fad 1 (.t 3), dst := some 13, g := some (10, true) },
    { op := .load 1 false (.t 13), dst := some 14, g := some (10, true) },
    { op := .bin .eql (.t 12) (.t 14), dst := some 15, g := some (10, true) },
    { op := .pick (.t 10) (.t 15) (.c (.bool false)), dst := some 16 },
    { op := .mov (.t 16), dst := some 17 },
    { op := .fad 2 (.t 2), dst := some 18, g := some (17, true) },
    { op := .load 1 false (.t 18), dst := some 19, g := some (17, true) },
    { op := .fad 2 (.t 3), dst := some 20, g := some (17, true) },
    { op := .load 1 false (.t 20), dst := some 21, g := some (17, true) },
    { op := .bin .eql (.t 19) (.t 21), dst := some 22, g := some (17, true) },
    { op := .pick (.t 17) (.t 22) (.c (.bool false)), dst := some 23 },
    { op := .mov (.t 23), dst := some 24 },
    { op := .fad 4 (.t 2), dst := some 25, g := some (24, true) },
    { op := .load 1 false (.t 25), dst := some 26, g := some (24, true) },
    { op := .fad 4 (.t 3), dst := some 27, g := some (24, true) },
    { op := .load 1 false (.t 27), dst := some 28, g := some (24, true) },
    { op := .call 66 [(.t 26), (.t 28)], dst := some 29, g := some (24, true) },
    { op := .pick (.t 24) (.t 29) (.c (.bool false)), dst := some 30 },
    { op := .mov (.t 30), dst := some 31 },
    { op := .fad 3 (.t 2), dst := some 32, g := some (31, true) },
    { op := .load 1 false (.t 32), dst := some 33, g := some (31, true) },
    { op := .fad 3 (.t 3), dst := some 34, g := some (31, true) },
    { op := .load 1 false (.t 34), dst := some 35, g := some (31, true) },
    { op := .call 67 [(.t 33), (.t 35), (.c (.fn 41))], dst := some 36, g := some (31, true) },
    { op := .pick (.t 31) (.t 36) (.c (.bool false)), dst := some 37 },
    { op := .mov (.t 37), dst := some 4 }]
def a41 : ACode := (.seq a41_r0 (.seq a41_r1 .ret))
def a41_res : List ARes := [.tmp 4]
theorem a41_ok : Coded Tryd.prog 41 38 a41 a41_res := ⟨Tryd.f41, _, by kernel_rfl, rfl, by kernel_rfl, rfl, by kernel_rfl, by kernel_rfl⟩
theorem a41_of {args : List AV} {Q : AV → Prop} (hl : args.length ≤ 38) (h : AW Tryd.prog 38 a41 (mkS (argT 0 args) [] 0) (retQ a41_res Q)) : ACall Tryd.prog 41 args Q := acall_coded a41_ok hl h

/- workflow/ops.compare -/
def a42_r0 : ACode := .reg [{ op := .box 5 true (.t 1), dst := some 4, k := 0 },
    { op := .box 5 true (.t 2), dst := some 5, k := 1 },
    { op := .alloc 5 true [.int .i64 0, .int .i64 0, .str [], .nils, .nils], dst := some 6, k := 2 },
    { op := .mov (.c (.int .i64 0)), dst := some 7 }]
def a42_r1 : ACode := .reg [{ op := .load 5 true (.t 4), dst := some 11 },
    { op := .load 5 true (.t 5), dst := some 12 },
    { op := .call 68 [(.t 11), (.t 12)], dst := some 13 },
    { op := .mov (.t 13), dst := some 10 },
    { op := .ext (.t 10) 0, dst := some 14 },
    { op := .ext (.t 10) 1, dst := some 15 },
    { op := .mov (.t 14), dst := some 8 },
    { op := .mov (.t 15), dst := some 9 }]
def a42_r2 : ACode := .reg [{ op := .mov (.t 9), dst := some 16 },
    { op := .not (.t 16), dst := some 17 }]
def a42_r3 : ACode := .reg [{ op := .build [.int .i64 0, .int .i64 0, .str [], .nils, .nils] [], dst := some 18 },
    { op := .store 5 true (.t 6) (.t 18), dst := none },
    { op := .mov (.c (.int .i64 12)), dst := some 7 }]
def a42_r4 : ACode := .reg [{ op := .mov (.t 0), dst := some 19 }]
def a42_r5 : ACode := .reg [{ op := .bin .eql (.t 19) (.c (.int .i64 20)), dst := some 21 },
    { op := .mov (.t 21), dst := some 20 }]
def a42_r6 : ACode := .reg [{ op := .mov (.t 8), dst := some 22 },
    { op := .bin .eql (.t 22) (.c (.int .i64 0)), dst := some 23 },
    { op := .call 31 [(.t 23)], dst := some 24 },
    { op := .store 5 true (.t 6) (.t 24), dst := none },
    { op := .mov (.c (.int .i64 0)), dst := some 7 }]
def a42_r7 : ACode := .reg [{ op := .bin .eql (.t 19) (.c (.int .i64 21)), dst := some 26 },
    { op := .mov (.t 26), dst := some 25 }]
def a42_r8 : ACode := .reg [{ op := .mov (.t 8), dst := some 27 },
    { op := .bin .neq (.t 27) (.c (.int .i64 2)), dst := some 28 },
    { op := .call 31 [(.t 28)], dst := some 29 },
    { op := .store 5 true (.t 6) (.t 29), dst := none },
    { op := .mov (.c (.int .i64 0)), dst := some 7 }]
def a42_r9 : ACode := .reg [{ op := .bin .eql (.t 19) (.c (.int .i64 22)), dst := some 31 },
    { op := .mov (.t 31), dst := some 30 }]
def a42_r10 : ACode := .reg [{ op := .mov (.t 8), dst := some 32 },
    { op := .bin .eql (.t 32) (.c (.int .i64 2)), dst := some 33 },
    { op := .call 31 [(.t 33)], dst := some 34 },
    { op := .store 5 true (.t 6) (.t 34), dst := none },
    { op := .mov (.c (.int .i64 0)), dst := some 7 }]
def a42_r11 : ACode := .reg [{ op := .mov (.t 8), dst := some 35 },
    { op := .bin .neq (.t 35) (.c (.int .i64 0)), dst := some 36 },
    { op := .call 31 [(.t 36)], dst := some 37 },
    { op := .store 5 true (.t 6) (.t 37), dst := none },
    { op := .mov (.c (.int .i64 0)), dst := some 7 }]
def a42 : ACode := (.seq a42_r0 (.seq a42_r1 (.seq (.seq a42_r2 (.cond (.t 17) (.seq a42_r3 .ret) .skip)) (.seq (.seq a42_r4 (.block 0 (.seq a42_r5 (.cond (.t 20) (.seq a42_r6 .ret) (.seq a42_r7 (.cond (.t 25) (.seq a42_r8 .ret) (.seq a42_r9 (.cond (.t 30) (.seq a42_r10 .ret) .skip)))))))) (.seq a42_r11 .ret)))))
def a42_res : List ARes := [.cell 6 5 true, .tmp 7]
theorem a42_ok : Coded Tryd.prog 42 38 a42 a42_res := ⟨Tryd.f42, _, by kernel_rfl, rfl, by kernel_rfl, rfl, by kernel_rfl, by kernel_rfl⟩
theorem a42_of {args : List AV} {Q : AV → Prop} (hl : args.length ≤ 38) (h : AW Tryd.prog 38 a42 (mkS (argT 0 args) [] 0) (retQ a42_res Q)) : ACall Tryd.prog 42 args Q := acall_coded a42_ok hl h

/- workflow/ops.add -/
def a43_r0 : ACode := .reg [{ op := .box 5 true (.t 0), dst := some 2, k := 0 },
    { op := .box 5 true (.t 1), dst := some 3, k := 1 },
    { op := .alloc 5 true [.int .i64 0, .int .i64 0, .str [], .nils, .nils], dst := some 4, k := 2 },
    { op := .mov (.c (.int .i64 0)), dst := some 5 }]
def a43_r1 : ACode := .reg [{ op := .fad 0 (.t 2), dst := some 7 },
    { op := .load 1 false (.t 7), dst := some 8 },
    { op := .fad 0 (.t 3), dst := some 9 },
    { op := .load 1 false (.t 9), dst := some 10 },
    { op := .bin .neq (.t 8) (.t 10), dst := some 11 },
    { op := .mov (.t 11), dst := some 6 }]
def a43_r2 : ACode := .reg [{ op := .fad 0 (.t 2), dst := some 13 },
    { op := .load 1 false (.t 13), dst := some 14 },
    { op := .bin .eql (.t 14) (.c (.int .i64 2)), dst := some 15 },
    { op := .mov (.t 15), dst := some 12 }]
def a43_r3 : ACode := .reg [{ op := .fad 1 (.t 2), dst := some 16 },
    { op := .load 1 false (.t 16), dst := some 17 },
    { op := .fad 1 (.t 3), dst := some 18 },
    { op := .load 1 false (.t 18), dst := some 19 },
    { op := .call 44 [(.c (.int .i64 18)), (.t 17), (.t 19)], dst := some 20 },
    { op := .ext (.t 20) 0, dst := some 21 },
    { op := .ext (.t 20) 1, dst := some 22 },
    { op := .store 5 true (.t 4) (.t 21), dst := none },
    { op := .mov (.t 22), dst := some 5 }]
def a43_r4 : ACode := .reg [{ op := .fad 0 (.t 2), dst := some 24 },
    { op := .load 1 false (.t 24), dst := some 25 },
    { op := .bin .eql (.t 25) (.c (.int .i64 3)), dst := some 26 },
    { op := .mov (.t 26), dst := some 23 }]
def a43_r5 : ACode := .reg [{ op := .fad 2 (.t 2), dst := some 27 },
    { op := .load 1 false (.t 27), dst := some 28 },
    { op := .len true (.t 28), dst := some 29 },
    { op := .fad 2 (.t 3), dst := some 30 },
    { op := .load 1 false (.t 30), dst := some 31 },
    { op := .len true (.t 31), dst := some 32 },
    { op := .bin .add (.t 29) (.t 32), dst := some 33 },
    { op := .bin .gtr (.t 33) (.c (.int .i64 4096)), dst := some 34 }]
def a43_r6 : ACode := .reg [{ op := .build [.int .i64 0, .int .i64 0, .str [], .nils, .nils] [], dst := some 35 },
    { op := .store 5 true (.t 4) (.t 35), dst := none },
    { op := .mov (.c (.int .i64 6)), dst := some 5 }]
def a43_r7 : ACode := .reg [{ op := .fad 2 (.t 2), dst := some 36 },
    { op := .load 1 false (.t 36), dst := some 37 },
    { op := .fad 2 (.t 3), dst := some 38 },
    { op := .load 1 false (.t 38), dst := some 39 },
    { op := .bin .add (.t 37) (.t 39), dst := some 40 },
    { op := .call 49 [(.t 40)], dst := some 41 },
    { op := .store 5 true (.t 4) (.t 41), dst := none },
    { op := .mov (.c (.int .i64 0)), dst := some 5 }]
def a43_r8 : ACode := .reg [{ op := .fad 0 (.t 2), dst := some 43 },
    { op := .load 1 false (.t 43), dst := some 44 },
    { op := .bin .eql (.t 44) (.c (.int .i64 4)), dst := some 45 },
    { op := .mov (.t 45), dst := some 42 }]
def a43_r9 : ACode := .draw [{ op := .bsl 5 true 0 [.int .i64 0, .int .i64 0, .str [], .nils, .nils] [], dst := some 46 },
    { op := .fad 3 (.t 2), dst := some 47 },
    { op := .load 1 false (.t 47), dst := some 48 },
    { op := .app 5 80 (.t 46) (.t 48), dst := some 49, k := 53 },
    { op := .fad 3 (.t 3), dst := some 50 },
    { op := .load 1 false (.t 50), dst := some 51 },
    { op := .app 5 80 (.t 49) (.t 51), dst := some 52, k := 56 },
    { op := .call 28 [(.t 52)], dst := some 53 },
    { op := .call 27 [(.t 53)], dst := some 54 },
    { op := .ext (.t 54) 0, dst := some 55 },
    { op := .ext (.t 54) 1, dst := some 56 },
    { op := .store 5 true (.t 4) (.t 55), dst := none },
    { op := .mov (.t 56), dst := some 5 }]
    [(3, [5])]
    (.take 0 (.take 1 (.take 2 (.take 4 (.take 5 (.one 3 (.one 6 (.one 7 (.one 8 (.take 9 (.take 10 (.one 11 (.take 12 (.done))))))))))))))
def a43_r10 : ACode := .reg [{ op := .build [.int .i64 0, .int .i64 0, .str [], .nils, .nils] [], dst := some 57 },
    { op := .store 5 true (.t 4) (.t 57), dst := none },
    { op := .mov (.c (.int .i64 12)), dst := some 5 }]
def a43 : ACode := (.seq a43_r0 (.seq (.block 0 (.seq a43_r1 (.cond (.t 6) .skip (.seq a43_r2 (.cond (.t 12) (.seq a43_r3 .ret) (.seq a43_r4 (.cond (.t 23) (.seq (.seq a43_r5 (.cond (.t 34) (.seq a43_r6 .ret) .skip)) (.seq a43_r7 .ret)) (.seq a43_r8 (.cond (.t 42) (.seq a43_r9 .ret) .skip))))))))) (.seq a43_r10 .ret)))
def a43_res : List ARes := [.cell 4 5 true, .tmp 5]
theorem a43_ok : Coded Tryd.prog 43 58 a43 a43_res := ⟨Tryd.f43, _, by kernel_rfl, rfl, by kernel_rfl, rfl, by kernel_rfl, by kernel_rfl⟩
theorem a43_of {args : List AV} {Q : AV → Prop} (hl : args.length ≤ 58) (h : AW Tryd.prog 58 a43 (mkS (argT 0 args) [] 0) (retQ a43_res Q)) : ACall Tryd.prog 43 args Q := acall_coded a43_ok hl h

/- workflow/ops.arithmetic -/
def a44_r0 : ACode := .reg [{ op := .alloc 5 true [.int .i64 0, .int .i64 0, .str [], .nils, .nils], dst := some 6, k := 0 },
    { op := .mov (.c (.int .i64 0)), dst := some 7 }]
def a44_r1 : ACode := .reg [{ op := .mov (.c (.int .i64 0)), dst := some 8 },
    { op := .mov (.c (.bool true)), dst := some 9 }]
def a44_r2 : ACode := .reg [{ op := .mov (.t 0), dst := some 10 }]
def a44_r9 : ACode := .reg [{ op := .bin .eql (.t 10) (.c (.int .i64 18)), dst := some 33 },
    { op := .mov (.t 33), dst := some 32 }]
def a44_r10 : ACode := .reg [{ op := .mov (.t 1), dst := some 34 },
    { op := .mov (.t 2), dst := some 35 },
    { op := .bin .add (.t 34) (.t 35), dst := some 36 },
    { op := .mov (.t 36), dst := some 8 }]
def a44_r11 : ACode := .reg [{ op := .mov (.t 1), dst := some 37 },
    { op := .mov (.t 8), dst := some 38 },
    { op := .bin .xor (.t 37) (.t 38), dst := some 39 },
    { op := .mov (.t 2), dst := some 40 },
    { op := .mov (.t 8), dst := some 41 },
    { op := .bin .xor (.t 40) (.t 41), dst := some 42 },
    { op := .bin .and (.t 39) (.t 42), dst := some 43 },
    { op := .bin .geq (.t 43) (.c (.int .i64 0)), dst := some 44 },
    { op := .mov (.t 44), dst := some 9 }]
def a44_r12 : ACode := .reg [{ op := .bin .eql (.t 10) (.c (.int .i64 19)), dst := some 46 },
    { op := .mov (.t 46), dst := some 45 }]
def a44_r13 : ACode := .reg [{ op := .mov (.t 1), dst := some 47 },
    { op := .mov (.t 2), dst := some 48 },
    { op := .bin .sub (.t 47) (.t 48), dst := some 49 },
    { op := .mov (.t 49), dst := some 8 }]
def a44_r14 : ACode := .reg [{ op := .mov (.t 1), dst := some 50 },
    { op := .mov (.t 2), dst := some 51 },
    { op := .bin .xor (.t 50) (.t 51), dst := some 52 },
    { op := .mov (.t 1), dst := some 53 },
    { op := .mov (.t 8), dst := some 54 },
    { op := .bin .xor (.t 53) (.t 54), dst := some 55 },
    { op := .bin .and (.t 52) (.t 55), dst := some 56 },
    { op := .bin .geq (.t 56) (.c (.int .i64 0)), dst := some 57 },
    { op := .mov (.t 57), dst := some 9 }]
def a44_r15 : ACode := .reg [{ op := .bin .eql (.t 10) (.c (.int .i64 15)), dst := some 59 },
    { op := .mov (.t 59), dst := some 58 }]
def a44_r16 : ACode := .reg [{ op := .mov (.t 1), dst := some 61 },
    { op := .mov (.t 2), dst := some 62 },
    { op := .call 69 [(.t 61), (.t 62)], dst := some 63 },
    { op := .mov (.t 63), dst := some 60 },
    { op := .ext (.t 60) 0, dst := some 64 },
    { op := .ext (.t 60) 1, dst := some 65 },
    { op := .mov (.t 64), dst := some 8 },
    { op := .mov (.t 65), dst := some 9 }]
def a44_r3 : ACode := .reg [{ op := .mov (.t 2), dst := some 11 },
    { op := .bin .eql (.t 11) (.c (.int .i64 0)), dst := some 12 }]
def a44_r4 : ACode := .reg [{ op := .build [.int .i64 0, .int .i64 0, .str [], .nils, .nils] [], dst := some 13 },
    { op := .store 5 true (.t 6) (.t 13), dst := none },
    { op := .mov (.c (.int .i64 13)), dst := some 7 }]
def a44_r5 : ACode := .reg [{ op := .mov (.t 0), dst := some 14 },
    { op := .bin .eql (.t 14) (.c (.int .i64 17)), dst := some 15 }]
def a44_r6 : ACode := .reg [{ op := .mov (.t 1), dst := some 16 },
    { op := .mov (.t 2), dst := some 17 },
    { op := .bin .rem (.t 16) (.t 17), dst := some 18 },
    { op := .mov (.t 18), dst := some 8 }]
def a44_r7 : ACode := .reg [{ op := .mov (.t 1), dst := some 19 },
    { op := .mov (.t 2), dst := some 20 },
    { op := .bin .quo (.t 19) (.t 20), dst := some 21 },
    { op := .mov (.t 21), dst := some 8 }]
def a44_r8 : ACode := .reg [{ op := .mov (.t 2), dst := some 22 },
    { op := .bin .neq (.t 22) (.c (.int .i64 (-1))), dst := some 23 },
    { op := .mov (.t 23), dst := some 24 },
    { op := .mov (.t 1), dst := some 25, g := some (24, false) },
    { op := .bin .geq (.t 25) (.c (.int .i64 0)), dst := some 26, g := some (24, false) },
    { op := .pick (.t 24) (.c (.bool true)) (.t 26), dst := some 27 },
    { op := .mov (.t 27), dst := some 28 },
    { op := .mov (.t 8), dst := some 29, g := some (28, false) },
    { op := .bin .gtr (.t 29) (.c (.int .i64 0)), dst := some 30, g := some (28, false) },
    { op := .pick (.t 28) (.c (.bool true)) (.t 30), dst := some 31 },
    { op := .mov (.t 31), dst := some 9 }]
def a44_r17 : ACode := .reg [{ op := .mov (.t 9), dst := some 66 },
    { op := .not (.t 66), dst := some 67 }]
def a44_r18 : ACode := .reg [{ op := .build [.int .i64 0, .int .i64 0, .str [], .nils, .nils] [], dst := some 68 },
    { op := .store 5 true (.t 6) (.t 68), dst := none },
    { op := .mov (.c (.int .i64 14)), dst := some 7 }]
def a44_r19 : ACode := .reg [{ op := .mov (.t 8), dst := some 69 },
    { op := .call 70 [(.t 69)], dst := some 70 },
    { op := .store 5 true (.t 6) (.t 70), dst := none },
    { op := .mov (.c (.int .i64 0)), dst := some 7 }]
def a44 : ACode := (.seq a44_r0 (.seq a44_r1 (.seq (.seq a44_r2 (.block 0 (.seq a44_r9 (.cond (.t 32) (.seq a44_r10 a44_r11) (.seq a44_r12 (.cond (.t 45) (.seq a44_r13 a44_r14) (.seq a44_r15 (.cond (.t 58) a44_r16 (.seq (.seq a44_r3 (.cond (.t 12) (.seq a44_r4 .ret) .skip)) (.seq a44_r5 (.cond (.t 15) a44_r6 (.seq a44_r7 a44_r8)))))))))))) (.seq (.seq a44_r17 (.cond (.t 67) (.seq a44_r18 .ret) .skip)) (.seq a44_r19 .ret)))))
def a44_res : List ARes := [.cell 6 5 true, .tmp 7]
theorem a44_ok : Coded Tryd.prog 44 71 a44 a44_res := ⟨Tryd.f44, _, by kernel_rfl, rfl, by kernel_rfl, rfl, by kernel_rfl, by kernel_rfl⟩
theorem a44_of {args : List AV} {Q : AV → Prop} (hl : args.length ≤ 71) (h : AW Tryd.prog 71 a44 (mkS (argT 0 args) [] 0) (retQ a44_res Q)) : ACall Tryd.prog 44 args Q := acall_coded a44_ok hl h

/- workflow/ops.Index$1 -/
def a47_r0 : ACode := .reg [{ op := .mov (.c (.bool false)), dst := some 3 }]
def a47_r1 : ACode := .reg [{ op := .fad 1 (.t 1), dst := some 4 },
    { op := .load 1 false (.t 4), dst := some 5 },
    { op := .bin .geq (.t 5) (.c (.int .i64 0)), dst := some 6 },
    { op := .mov (.t 6), dst := some 7 },
    { op := .fad 1 (.t 1), dst := some 8, g := some (7, true) },
    { op := .load 1 false (.t 8), dst := some 9, g := some (7, true) },
    { op := .mov (.t 0), dst := some 10, g := some (7, true) },
    { op := .bin .lss (.t 9) (.t 10), dst := some 11, g := some (7, true) },
    { op := .pick (.t 7) (.t 11) (.c (.bool false)), dst := some 12 },
    { op := .mov (.t 12), dst := some 3 }]
def a47 : ACode := (.seq a47_r0 (.seq a47_r1 .ret))
def a47_res : List ARes := [.tmp 3]
theorem a47_ok : Coded Tryd.prog 47 13 a47 a47_res := ⟨Tryd.f47, _, by kernel_rfl, rfl, by kernel_rfl, rfl, by kernel_rfl, by kernel_rfl⟩
theorem a47_of {args : List AV} {Q : AV → Prop} (hl : args.length ≤ 13) (h : AW Tryd.prog 13 a47 (mkS (argT 0 args) [] 0) (retQ a47_res Q)) : ACall Tryd.prog 47 args Q := acall_coded a47_ok hl h

/- workflow/value.Copy -/
def a48_r0 : ACode := .reg [{ op := .box 5 true (.t 0), dst := some 1, k := 0 },
    { op := .alloc 5 true [.int .i64 0, .int .i64 0, .str [], .nils, .nils], dst := some 2, k := 1 }]
def a48_r1 : ACode := .draw [{ op := .fad 3 (.t 1), dst := some 3 },
    { op := .load 1 false (.t 3), dst := some 4 },
    { op := .call 56 [(.t 4)], dst := some 5 },
    { op := .fad 4 (.t 1), dst := some 6 },
    { op := .load 1 false (.t 6), dst := some 7 },
    { op := .call 75 [(.t 7)], dst := some 8 },
    { op := .fad 3 (.t 1), dst := some 9 },
    { op := .store 1 false (.t 9) (.t 5), dst := none },
    { op := .fad 4 (.t 1), dst := some 10 },
    { op := .store 1 false (.t 10) (.t 8), dst := none }]
    [(2, [4])]
    (.take 0 (.take 1 (.take 3 (.take 4 (.one 2 (.take 6 (.one 5 (.one 7 (.take 8 (.one 9 (.done)))))))))))
def a48_r2 : ACode := .reg [{ op := .load 5 true (.t 1), dst := some 11 },
    { op := .store 5 true (.t 2) (.t 11), dst := none }]
def a48 : ACode := (.seq a48_r0 (.seq a48_r1 (.seq a48_r2 .ret)))
def a48_res : List ARes := [.cell 2 5 true]
theorem a48_ok : Coded Tryd.prog 48 12 a48 a48_res := ⟨Tryd.f48, _, by kernel_rfl, rfl, by kernel_rfl, rfl, by kernel_rfl, by kernel_rfl⟩
theorem a48_of {args : List AV} {Q : AV → Prop} (hl : args.length ≤ 12) (h : AW Tryd.prog 12 a48 (mkS (argT 0 args) [] 0) (retQ a48_res Q)) : ACall Tryd.prog 48 args Q := acall_coded a48_ok hl h

/- workflow/value.Text -/
def a49_r0 : ACode := .reg [{ op := .alloc 5 true [.int .i64 0, .int .i64 0, .str [], .nils, .nils], dst := some 2, k := 0 }]
def a49_r1 : ACode := .reg [{ op := .mov (.t 0), dst := some 3 },
    { op := .build [.int .i64 0, .int .i64 0, .str [], .nils, .nils] [(0, 1, (.c (.int .i64 3))), (2, 1, (.t 3))], dst := some 4 },
    { op := .store 5 true (.t 2) (.t 4), dst := none }]
def a49 : ACode := (.seq a49_r0 (.seq a49_r1 .ret))
def a49_res : List ARes := [.cell 2 5 true]
theorem a49_ok : Coded Tryd.prog 49 5 a49 a49_res := ⟨Tryd.f49, _, by kernel_rfl, rfl, by kernel_rfl, rfl, by kernel_rfl, by kernel_rfl⟩
theorem a49_of {args : List AV} {Q : AV → Prop} (hl : args.length ≤ 5) (h : AW Tryd.prog 5 a49 (mkS (argT 0 args) [] 0) (retQ a49_res Q)) : ACall Tryd.prog 49 args Q := acall_coded a49_ok hl h

/- workflow/workflowref02.WellFormed -/
def a50_r0 : ACode := .reg [{ op := .box 5 true (.t 0), dst := some 1, k := 0 },
    { op := .mov (.c (.bool false)), dst := some 2 }]
def a50_r1 : ACode := .reg [{ op := .mov (.c (.int .i64 0)), dst := some 3 }]
def a50_r2 : ACode := .reg [{ op := .mov (.t 3), dst := some 4 },
    { op := .fad 3 (.t 1), dst := some 5 },
    { op := .load 1 false (.t 5), dst := some 6 },
    { op := .len false (.t 6), dst := some 7 },
    { op := .bin .lss (.t 4) (.t 7), dst := some 8 }]
def a50_r4 : ACode := .reg [{ op := .fad 3 (.t 1), dst := some 11 },
    { op := .load 1 false (.t 11), dst := some 12 },
    { op := .mov (.t 3), dst := some 13 },
    { op := .iad 5 (.t 12) (.t 13), dst := some 14 },
    { op := .load 5 true (.t 14), dst := some 15 },
    { op := .call 50 [(.t 15)], dst := some 16 },
    { op := .not (.t 16), dst := some 17 }]
def a50_r5 : ACode := .reg [{ op := .mov (.c (.bool false)), dst := some 2 }]
def a50_r3 : ACode := .reg [{ op := .mov (.t 3), dst := some 9 },
    { op := .bin .add (.t 9) (.c (.int .i64 1)), dst := some 10 },
    { op := .mov (.t 10), dst := some 3 }]
def a50_l0 : ACode := (.seq (.seq a50_r2 (.cond (.t 8) .skip (.exit 0))) (.seq (.block 1 (.seq a50_r4 (.cond (.t 17) (.seq a50_r5 .ret) .skip))) a50_r3))
def a50_r6 : ACode := .reg [{ op := .fad 0 (.t 1), dst := some 18 },
    { op := .load 1 false (.t 18), dst := some 19 }]
def a50_r7 : ACode := .reg [{ op := .bin .eql (.t 19) (.c (.int .i64 0)), dst := some 21 },
    { op := .mov (.t 21), dst := some 20 }]
def a50_r8 : ACode := .reg [{ op := .fad 1 (.t 1), dst := some 22 },
    { op := .load 1 false (.t 22), dst := some 23 },
    { op := .bin .eql (.t 23) (.c (.int .i64 0)), dst := some 24 },
    { op := .mov (.t 24), dst := some 25 },
    { op := .fad 2 (.t 1), dst := some 26, g := some (25, true) },
    { op := .load 1 false (.t 26), dst := some 27, g := some (25, true) },
    { op := .bin .eql (.t 27) (.c (.str [])), dst := some 28, g := some (25, true) },
    { op := .pick (.t 25) (.t 28) (.c (.bool false)), dst := some 29 },
    { op := .mov (.t 29), dst := some 30 },
    { op := .fad 3 (.t 1), dst := some 31, g := some (30, true) },
    { op := .load 1 false (.t 31), dst := some 32, g := some (30, true) },
    { op := .len false (.t 32), dst := some 33, g := some (30, true) },
    { op := .bin .eql (.t 33) (.c (.int .i64 0)), dst := some 34, g := some (30, true) },
    { op := .pick (.t 30) (.t 34) (.c (.bool false)), dst := some 35 },
    { op := .mov (.t 35), dst := some 36 },
    { op := .fad 4 (.t 1), dst := some 37, g := some (36, true) },
    { op := .load 1 false (.t 37), dst := some 38, g := some (36, true) },
    { op := .len false (.t 38), dst := some 39, g := some (36, true) },
    { op := .bin .eql (.t 39) (.c (.int .i64 0)), dst := some 40, g := some (36, true) },
    { op := .pick (.t 36) (.t 40) (.c (.bool false)), dst := some 41 },
    { op := .mov (.t 41), dst := some 2 }]
def a50_r9 : ACode := .reg [{ op := .bin .eql (.t 19) (.c (.int .i64 1)), dst := some 43 },
    { op := .mov (.t 43), dst := some 42 }]
def a50_r10 : ACode := .reg [{ op := .fad 1 (.t 1), dst := some 44 },
    { op := .load 1 false (.t 44), dst := some 45 },
    { op := .bin .eql (.t 45) (.c (.int .i64 0)), dst := some 46 },
    { op := .mov (.t 46), dst := some 47 },
    { op := .fad 1 (.t 1), dst := some 48, g := some (47, false) },
    { op := .load 1 false (.t 48), dst := some 49, g := some (47, false) },
    { op := .bin .eql (.t 49) (.c (.int .i64 1)), dst := some 50, g := some (47, false) },
    { op := .pick (.t 47) (.c (.bool true)) (.t 50), dst := some 51 },
    { op := .mov (.t 51), dst := some 52 },
    { op := .fad 2 (.t 1), dst := some 53, g := some (52, true) },
    { op := .load 1 false (.t 53), dst := some 54, g := some (52, true) },
    { op := .bin .eql (.t 54) (.c (.str [])), dst := some 55, g := some (52, true) },
    { op := .pick (.t 52) (.t 55) (.c (.bool false)), dst := some 56 },
    { op := .mov (.t 56), dst := some 57 },
    { op := .fad 3 (.t 1), dst := some 58, g := some (57, true) },
    { op := .load 1 false (.t 58), dst := some 59, g := some (57, true) },
    { op := .len false (.t 59), dst := some 60, g := some (57, true) },
    { op := .bin .eql (.t 60) (.c (.int .i64 0)), dst := some 61, g := some (57, true) },
    { op := .pick (.t 57) (.t 61) (.c (.bool false)), dst := some 62 },
    { op := .mov (.t 62), dst := some 63 },
    { op := .fad 4 (.t 1), dst := some 64, g := some (63, true) },
    { op := .load 1 false (.t 64), dst := some 65, g := some (63, true) },
    { op := .len false (.t 65), dst := some 66, g := some (63, true) },
    { op := .bin .eql (.t 66) (.c (.int .i64 0)), dst := some 67, g := some (63, true) },
    { op := .pick (.t 63) (.t 67) (.c (.bool false)), dst := some 68 },
    { op := .mov (.t 68), dst := some 2 }]
def a50_r11 : ACode := .reg [{ op := .bin .eql (.t 19) (.c (.int .i64 2)), dst := some 70 },
    { op := .mov (.t 70), dst := some 69 }]
def a50_r12 : ACode := .reg [{ op := .fad 2 (.t 1), dst := some 71 },
    { op := .load 1 false (.t 71), dst := some 72 },
    { op := .bin .eql (.t 72) (.c (.str [])), dst := some 73 },
    { op := .mov (.t 73), dst := some 74 },
    { op := .fad 3 (.t 1), dst := some 75, g := some (74, true) },
    { op := .load 1 false (.t 75), dst := some 76, g := some (74, true) },
    { op := .len false (.t 76), dst := some 77, g := some (74, true) },
    { op := .bin .eql (.t 77) (.c (.int .i64 0)), dst := some 78, g := some (74, true) },
    { op := .pick (.t 74) (.t 78) (.c (.bool false)), dst := some 79 },
    { op := .mov (.t 79), dst := some 80 },
    { op := .fad 4 (.t 1), dst := some 81, g := some (80, true) },
    { op := .load 1 false (.t 81), dst := some 82, g := some (80, true) },
    { op := .len false (.t 82), dst := some 83, g := some (80, true) },
    { op := .bin .eql (.t 83) (.c (.int .i64 0)), dst := some 84, g := some (80, true) },
    { op := .pick (.t 80) (.t 84) (.c (.bool false)), dst := some 85 },
    { op := .mov (.t 85), dst := some 2 }]
def a50_r13 : ACode := .reg [{ op := .bin .eql (.t 19) (.c (.int .i64 3)), dst := some 87 },
    { op := .mov (.t 87), dst := some 86 }]
def a50_r14 : ACode := .reg [{ op := .fad 1 (.t 1), dst := some 88 },
    { op := .load 1 false (.t 88), dst := some 89 },
    { op := .bin .eql (.t 89) (.c (.int .i64 0)), dst := some 90 },
    { op := .mov (.t 90), dst := some 91 },
    { op := .fad 3 (.t 1), dst := some 92, g := some (91, true) },
    { op := .load 1 false (.t 92), dst := some 93, g := some (91, true) },
    { op := .len false (.t 93), dst := some 94, g := some (91, true) },
    { op := .bin .eql (.t 94) (.c (.int .i64 0)), dst := some 95, g := some (91, true) },
    { op := .pick (.t 91) (.t 95) (.c (.bool false)), dst := some 96 },
    { op := .mov (.t 96), dst := some 97 },
    { op := .fad 4 (.t 1), dst := some 98, g := some (97, true) },
    { op := .load 1 false (.t 98), dst := some 99, g := some (97, true) },
    { op := .len false (.t 99), dst := some 100, g := some (97, true) },
    { op := .bin .eql (.t 100) (.c (.int .i64 0)), dst := some 101, g := some (97, true) },
    { op := .pick (.t 97) (.t 101) (.c (.bool false)), dst := some 102 },
    { op := .mov (.t 102), dst := some 2 }]
def a50_r15 : ACode := .reg [{ op := .bin .eql (.t 19) (.c (.int .i64 4)), dst := some 104 },
    { op := .mov (.t 104), dst := some 103 }]
def a50_r16 : ACode := .reg [{ op := .fad 1 (.t 1), dst := some 105 },
    { op := .load 1 false (.t 105), dst := some 106 },
    { op := .bin .eql (.t 106) (.c (.int .i64 0)), dst := some 107 },
    { op := .mov (.t 107), dst := some 108 },
    { op := .fad 2 (.t 1), dst := some 109, g := some (108, true) },
    { op := .load 1 false (.t 109), dst := some 110, g := some (108, true) },
    { op := .bin .eql (.t 110) (.c (.str [])), dst := some 111, g := some (108, true) },
    { op := .pick (.t 108) (.t 111) (.c (.bool false)), dst := some 112 },
    { op := .mov (.t 112), dst := some 113 },
    { op := .fad 4 (.t 1), dst := some 114, g := some (113, true) },
    { op := .load 1 false (.t 114), dst := some 115, g := some (113, true) },
    { op := .len false (.t 115), dst := some 116, g := some (113, true) },
    { op := .bin .eql (.t 116) (.c (.int .i64 0)), dst := some 117, g := some (113, true) },
    { op := .pick (.t 113) (.t 117) (.c (.bool false)), dst := some 118 },
    { op := .mov (.t 118), dst := some 2 }]
def a50_r17 : ACode := .reg [{ op := .bin .eql (.t 19) (.c (.int .i64 5)), dst := some 120 },
    { op := .mov (.t 120), dst := some 119 }]
def a50_r18 : ACode := .reg [{ op := .fad 1 (.t 1), dst := some 121 },
    { op := .load 1 false (.t 121), dst := some 122 },
    { op := .bin .eql (.t 122) (.c (.int .i64 0)), dst := some 123 },
    { op := .mov (.t 123), dst := some 124 },
    { op := .fad 2 (.t 1), dst := some 125, g := some (124, true) },
    { op := .load 1 false (.t 125), dst := some 126, g := some (124, true) },
    { op := .bin .eql (.t 126) (.c (.str [])), dst := some 127, g := some (124, true) },
    { op := .pick (.t 124) (.t 127) (.c (.bool false)), dst := some 128 },
    { op := .mov (.t 128), dst := some 129 },
    { op := .fad 4 (.t 1), dst := some 130, g := some (129, true) },
    { op := .load 1 false (.t 130), dst := some 131, g := some (129, true) },
    { op := .len false (.t 131), dst := some 132, g := some (129, true) },
    { op := .fad 3 (.t 1), dst := some 133, g := some (129, true) },
    { op := .load 1 false (.t 133), dst := some 134, g := some (129, true) },
    { op := .len false (.t 134), dst := some 135, g := some (129, true) },
    { op := .bin .eql (.t 132) (.t 135), dst := some 136, g := some (129, true) },
    { op := .pick (.t 129) (.t 136) (.c (.bool false)), dst := some 137 },
    { op := .mov (.t 137), dst := some 138 },
    { op := .fad 4 (.t 1), dst := some 139, g := some (138, true) },
    { op := .load 1 false (.t 139), dst := some 140, g := some (138, true) },
    { op := .call 76 [(.t 140)], dst := some 141, g := some (138, true) },
    { op := .pick (.t 138) (.t 141) (.c (.bool false)), dst := some 142 },
    { op := .mov (.t 142), dst := some 2 }]
def a50_r19 : ACode := .reg [{ op := .bin .eql (.t 19) (.c (.int .i64 6)), dst := some 144 },
    { op := .mov (.t 144), dst := some 143 }]
def a50_r20 : ACode := .reg [{ op := .fad 1 (.t 1), dst := some 145 },
    { op := .load 1 false (.t 145), dst := some 146 },
    { op := .bin .geq (.t 146) (.c (.int .i64 0)), dst := some 147 },
    { op := .mov (.t 147), dst := some 148 },
    { op := .fad 2 (.t 1), dst := some 149, g := some (148, true) },
    { op := .load 1 false (.t 149), dst := some 150, g := some (148, true) },
    { op := .bin .eql (.t 150) (.c (.str [])), dst := some 151, g := some (148, true) },
    { op := .pick (.t 148) (.t 151) (.c (.bool false)), dst := some 152 },
    { op := .mov (.t 152), dst := some 153 },
    { op := .fad 3 (.t 1), dst := some 154, g := some (153, true) },
    { op := .load 1 false (.t 154), dst := some 155, g := some (153, true) },
    { op := .len false (.t 155), dst := some 156, g := some (153, true) },
    { op := .bin .eql (.t 156) (.c (.int .i64 0)), dst := some 157, g := some (153, true) },
    { op := .pick (.t 153) (.t 157) (.c (.bool false)), dst := some 158 },
    { op := .mov (.t 158), dst := some 159 },
    { op := .fad 4 (.t 1), dst := some 160, g := some (159, true) },
    { op := .load 1 false (.t 160), dst := some 161, g := some (159, true) },
    { op := .len false (.t 161), dst := some 162, g := some (159, true) },
    { op := .bin .eql (.t 162) (.c (.int .i64 0)), dst := some 163, g := some (159, true) },
    { op := .pick (.t 159) (.t 163) (.c (.bool false)), dst := some 164 },
    { op := .mov (.t 164), dst := some 2 }]
def a50_r21 : ACode := .reg [{ op := .mov (.c (.bool false)), dst := some 2 }]
def a50 : ACode := (.seq a50_r0 (.seq (.seq a50_r1 (.block 0 (.loop a50_l0))) (.seq (.seq a50_r6 (.block 2 (.seq a50_r7 (.cond (.t 20) (.seq a50_r8 .ret) (.seq a50_r9 (.cond (.t 42) (.seq a50_r10 .ret) (.seq a50_r11 (.cond (.t 69) (.seq a50_r12 .ret) (.seq a50_r13 (.cond (.t 86) (.seq a50_r14 .ret) (.seq a50_r15 (.cond (.t 103) (.seq a50_r16 .ret) (.seq a50_r17 (.cond (.t 119) (.seq a50_r18 .ret) (.seq a50_r19 (.cond (.t 143) (.seq a50_r20 .ret) .skip)))))))))))))))) (.seq a50_r21 .ret))))
def a50_res : List ARes := [.tmp 2]
theorem a50_ok : Coded Tryd.prog 50 165 a50 a50_res := ⟨Tryd.f50, _, by kernel_rfl, rfl, by kernel_rfl, rfl, by kernel_rfl, by kernel_rfl⟩
theorem a50_of {args : List AV} {Q : AV → Prop} (hl : args.length ≤ 165) (h : AW Tryd.prog 165 a50 (mkS (argT 0 args) [] 0) (retQ a50_res Q)) : ACall Tryd.prog 50 args Q := acall_coded a50_ok hl h

/- workflow/workflowref02.get -/
def a51_r0 : ACode := .reg [{ op := .box 5 true (.t 0), dst := some 2, k := 0 },
    { op := .alloc 5 true [.int .i64 0, .int .i64 0, .str [], .nils, .nils], dst := some 4, k := 1 },
    { op := .mov (.c (.bool false)), dst := some 5 }]
def a51_r1 : ACode := .reg [{ op := .mov (.c (.int .i64 0)), dst := some 6 }]
def a51_r2 : ACode := .reg [{ op := .mov (.t 6), dst := some 7 },
    { op := .fad 4 (.t 2), dst := some 8 },
    { op := .load 1 false (.t 8), dst := some 9 },
    { op := .len false (.t 9), dst := some 10 },
    { op := .bin .lss (.t 7) (.t 10), dst := some 11 },
    { op := .mov (.t 11), dst := some 12 },
    { op := .mov (.t 6), dst := some 13, g := some (12, true) },
    { op := .fad 3 (.t 2), dst := some 14, g := some (12, true) },
    { op := .load 1 false (.t 14), dst := some 15, g := some (12, true) },
    { op := .len false (.t 15), dst := some 16, g := some (12, true) },
    { op := .bin .lss (.t 13) (.t 16), dst := some 17, g := some (12, true) },
    { op := .pick (.t 12) (.t 17) (.c (.bool false)), dst := some 18 }]
def a51_r4 : ACode := .reg [{ op := .fad 4 (.t 2), dst := some 21 },
    { op := .load 1 false (.t 21), dst := some 22 },
    { op := .mov (.t 6), dst := some 23 },
    { op := .iad 1 (.t 22) (.t 23), dst := some 24 },
    { op := .load 1 false (.t 24), dst := some 25 },
    { op := .mov (.t 1), dst := some 26 },
    { op := .bin .eql (.t 25) (.t 26), dst := some 27 }]
def a51_r5 : ACode := .reg [{ op := .fad 3 (.t 2), dst := some 28 },
    { op := .load 1 false (.t 28), dst := some 29 },
    { op := .mov (.t 6), dst := some 30 },
    { op := .iad 5 (.t 29) (.t 30), dst := some 31 },
    { op := .load 5 true (.t 31), dst := some 32 },
    { op := .store 5 true (.t 4) (.t 32), dst := none },
    { op := .mov (.c (.bool true)), dst := some 5 }]
def a51_r3 : ACode := .reg [{ op := .mov (.t 6), dst := some 19 },
    { op := .bin .add (.t 19) (.c (.int .i64 1)), dst := some 20 },
    { op := .mov (.t 20), dst := some 6 }]
def a51_l0 : ACode := (.seq (.seq a51_r2 (.cond (.t 18) .skip (.exit 0))) (.seq (.block 1 (.seq a51_r4 (.cond (.t 27) (.seq a51_r5 .ret) .skip))) a51_r3))
def a51_r6 : ACode := .reg [{ op := .build [.int .i64 0, .int .i64 0, .str [], .nils, .nils] [], dst := some 33 },
    { op := .store 5 true (.t 4) (.t 33), dst := none },
    { op := .mov (.c (.bool false)), dst := some 5 }]
def a51 : ACode := (.seq a51_r0 (.seq (.seq a51_r1 (.block 0 (.loop a51_l0))) (.seq a51_r6 .ret)))
def a51_res : List ARes := [.cell 4 5 true, .tmp 5]
theorem a51_ok : Coded Tryd.prog 51 34 a51 a51_res := ⟨Tryd.f51, _, by kernel_rfl, rfl, by kernel_rfl, rfl, by kernel_rfl, by kernel_rfl⟩
theorem a51_of {args : List AV} {Q : AV → Prop} (hl : args.length ≤ 34) (h : AW Tryd.prog 34 a51 (mkS (argT 0 args) [] 0) (retQ a51_res Q)) : ACall Tryd.prog 51 args Q := acall_coded a51_ok hl h

/- workflow/value.Failure -/
def a52_r0 : ACode := .reg [{ op := .box 5 true (.t 1), dst := some 3, k := 0 },
    { op := .alloc 5 true [.int .i64 0, .int .i64 0, .str [], .nils, .nils], dst := some 4, k := 1 }]
def a52_r1 : ACode := .reg [{ op := .bsl 1 false 2 [.str []] [(0, (.c (.str [100, 97, 116, 97]))), (1, (.c (.str [116, 121, 112, 101])))], dst := some 5 },
    { op := .load 5 true (.t 3), dst := some 6 },
    { op := .call 48 [(.t 6)], dst := some 7 },
    { op := .mov (.t 0), dst := some 8 },
    { op := .call 49 [(.t 8)], dst := some 9 },
    { op := .bsl 5 true 2 [.int .i64 0, .int .i64 0, .str [], .nils, .nils] [(0, (.t 7)), (1, (.t 9))], dst := some 10 },
    { op := .build [.int .i64 0, .int .i64 0, .str [], .nils, .nils] [(0, 1, (.c (.int .i64 5))), (4, 1, (.t 5)), (3, 1, (.t 10))], dst := some 11 },
    { op := .store 5 true (.t 4) (.t 11), dst := none }]
def a52 : ACode := (.seq a52_r0 (.seq a52_r1 .ret))
def a52_res : List ARes := [.cell 4 5 true]
theorem a52_ok : Coded Tryd.prog 52 12 a52 a52_res := ⟨Tryd.f52, _, by kernel_rfl, rfl, by kernel_rfl, rfl, by kernel_rfl, by kernel_rfl⟩
theorem a52_of {args : List AV} {Q : AV → Prop} (hl : args.length ≤ 12) (h : AW Tryd.prog 12 a52 (mkS (argT 0 args) [] 0) (retQ a52_res Q)) : ACall Tryd.prog 52 args Q := acall_coded a52_ok hl h

/- workflow/value.Null -/
def a53_r0 : ACode := .reg [{ op := .alloc 5 true [.int .i64 0, .int .i64 0, .str [], .nils, .nils], dst := some 0, k := 0 }]
def a53_r1 : ACode := .reg [{ op := .build [.int .i64 0, .int .i64 0, .str [], .nils, .nils] [], dst := some 1 },
    { op := .store 5 true (.t 0) (.t 1), dst := none }]
def a53 : ACode := (.seq a53_r0 (.seq a53_r1 .ret))
def a53_res : List ARes := [.cell 0 5 true]
theorem a53_ok : Coded Tryd.prog 53 2 a53 a53_res := ⟨Tryd.f53, _, by kernel_rfl, rfl, by kernel_rfl, rfl, by kernel_rfl, by kernel_rfl⟩
theorem a53_of {args : List AV} {Q : AV → Prop} (hl : args.length ≤ 2) (h : AW Tryd.prog 2 a53 (mkS (argT 0 args) [] 0) (retQ a53_res Q)) : ACall Tryd.prog 53 args Q := acall_coded a53_ok hl h

/- workflow/value.copies -/
def a56_r0 : ACode := .reg [{ op := .mov (.c (.nils)), dst := some 2 }]
def a56_r1 : ACode := .reg [{ op := .mov (.c (.nils)), dst := some 3 }]
def a56_r2 : ACode := .reg [{ op := .mov (.t 0), dst := some 6 },
    { op := .len false (.t 6), dst := some 7 },
    { op := .mov (.c (.int .i64 0)), dst := some 8 }]
def a56_r3 : ACode := .reg [{ op := .bin .lss (.t 8) (.t 7), dst := some 9 }]
def a56_r4 : ACode := .reg [{ op := .iad 5 (.t 6) (.t 8), dst := some 10 },
    { op := .load 5 true (.t 10), dst := some 11 },
    { op := .alloc 5 true [.int .i64 0, .int .i64 0, .str [], .nils, .nils], dst := some 5, k := 8 },
    { op := .store 5 true (.t 5) (.t 11), dst := none }]
def a56_r5 : ACode := .reg [{ op := .mov (.t 3), dst := some 12 },
    { op := .load 5 true (.t 5), dst := some 13 },
    { op := .call 48 [(.t 13)], dst := some 14 },
    { op := .bsl 5 true 1 [.int .i64 0, .int .i64 0, .str [], .nils, .nils] [(0, (.t 14))], dst := some 15 },
    { op := .app 5 80 (.t 12) (.t 15), dst := some 16, k := 14 },
    { op := .mov (.t 16), dst := some 3 }]
def a56_r6 : ACode := .reg [{ op := .bin .add (.t 8) (.c (.int .i64 1)), dst := some 17 },
    { op := .mov (.t 17), dst := some 8 }]
def a56_l0 : ACode := (.seq a56_r3 (.seq (.cond (.t 9) .skip (.exit 0)) (.seq (.block 1 (.seq a56_r4 a56_r5)) a56_r6)))
def a56_r7 : ACode := .reg [{ op := .mov (.t 3), dst := some 18 },
    { op := .mov (.t 18), dst := some 2 }]
def a56 : ACode := (.seq a56_r0 (.seq a56_r1 (.seq (.seq a56_r2 (.block 0 (.loop a56_l0))) (.seq a56_r7 .ret))))
def a56_res : List ARes := [.tmp 2]
theorem a56_ok : Coded Tryd.prog 56 19 a56 a56_res := ⟨Tryd.f56, _, by kernel_rfl, rfl, by kernel_rfl, rfl, by kernel_rfl, by kernel_rfl⟩
theorem a56_of {args : List AV} {Q : AV → Prop} (hl : args.length ≤ 19) (h : AW Tryd.prog 19 a56 (mkS (argT 0 args) [] 0) (retQ a56_res Q)) : ACall Tryd.prog 56 args Q := acall_coded a56_ok hl h

/- workflow/ops.integer -/
def a59_r0 : ACode := .reg [{ op := .box 5 true (.t 0), dst := some 1, k := 0 },
    { op := .alloc 5 true [.int .i64 0, .int .i64 0, .str [], .nils, .nils], dst := some 2, k := 1 },
    { op := .mov (.c (.int .i64 0)), dst := some 3 }]
def a59_r1 : ACode := .reg [{ op := .fad 0 (.t 1), dst := some 6 },
    { op := .load 1 false (.t 6), dst := some 7 }]
def a59_r2 : ACode := .reg [{ op := .bin .eql (.t 7) (.c (.int .i64 2)), dst := some 9 },
    { op := .mov (.t 9), dst := some 8 }]
def a59_r3 : ACode := .reg [{ op := .fad 1 (.t 1), dst := some 10 },
    { op := .load 1 false (.t 10), dst := some 11 },
    { op := .call 70 [(.t 11)], dst := some 12 },
    { op := .store 5 true (.t 2) (.t 12), dst := none },
    { op := .mov (.c (.int .i64 0)), dst := some 3 }]
def a59_r4 : ACode := .reg [{ op := .bin .eql (.t 7) (.c (.int .i64 3)), dst := some 14 },
    { op := .mov (.t 14), dst := some 13 }]
def a59_r5 : ACode := .reg [{ op := .fad 2 (.t 1), dst := some 16 },
    { op := .load 1 false (.t 16), dst := some 17 },
    { op := .call 79 [(.t 17)], dst := some 18 },
    { op := .mov (.t 18), dst := some 15 },
    { op := .ext (.t 15) 0, dst := some 19 },
    { op := .ext (.t 15) 1, dst := some 20 },
    { op := .mov (.t 19), dst := some 4 },
    { op := .mov (.t 20), dst := some 5 }]
def a59_r6 : ACode := .draw [{ op := .mov (.t 5), dst := some 21 },
    { op := .eqn true .i (.t 21), dst := some 22 },
    { op := .mov (.t 22), dst := some 23 },
    { op := .mov (.t 4), dst := some 24, g := some (23, false) },
    { op := .call 78 [(.t 24)], dst := some 25, g := some (23, false) },
    { op := .fad 2 (.t 1), dst := some 26, g := some (23, false) },
    { op := .load 1 false (.t 26), dst := some 27, g := some (23, false) },
    { op := .bin .neq (.t 25) (.t 27), dst := some 28, g := some (23, false) },
    { op := .pick (.t 23) (.c (.bool true)) (.t 28), dst := some 29 }]
    [(4, [6])]
    (.take 0 (.take 1 (.take 2 (.take 3 (.take 5 (.take 6 (.one 4 (.take 7 (.take 8 (.done))))))))))
def a59_r7 : ACode := .reg [{ op := .build [.int .i64 0, .int .i64 0, .str [], .nils, .nils] [], dst := some 30 },
    { op := .store 5 true (.t 2) (.t 30), dst := none },
    { op := .mov (.c (.int .i64 2)), dst := some 3 }]
def a59_r8 : ACode := .reg [{ op := .mov (.t 4), dst := some 31 },
    { op := .call 70 [(.t 31)], dst := some 32 },
    { op := .store 5 true (.t 2) (.t 32), dst := none },
    { op := .mov (.c (.int .i64 0)), dst := some 3 }]
def a59_r9 : ACode := .reg [{ op := .build [.int .i64 0, .int .i64 0, .str [], .nils, .nils] [], dst := some 33 },
    { op := .store 5 true (.t 2) (.t 33), dst := none },
    { op := .mov (.c (.int .i64 12)), dst := some 3 }]
def a59 : ACode := (.seq a59_r0 (.seq (.seq a59_r1 (.block 0 (.seq a59_r2 (.cond (.t 8) (.seq a59_r3 .ret) (.seq a59_r4 (.cond (.t 13) (.seq a59_r5 (.seq (.seq a59_r6 (.cond (.t 29) (.seq a59_r7 .ret) .skip)) (.seq a59_r8 .ret))) .skip)))))) (.seq a59_r9 .ret)))
def a59_res : List ARes := [.cell 2 5 true, .tmp 3]
theorem a59_ok : Coded Tryd.prog 59 34 a59 a59_res := ⟨Tryd.f59, _, by kernel_rfl, rfl, by kernel_rfl, rfl, by kernel_rfl, by kernel_rfl⟩
theorem a59_of {args : List AV} {Q : AV → Prop} (hl : args.length ≤ 34) (h : AW Tryd.prog 34 a59 (mkS (argT 0 args) [] 0) (retQ a59_res Q)) : ACall Tryd.prog 59 args Q := acall_coded a59_ok hl h

/- slices.Equal[[]string,string] -/
def a66_r0 : ACode := .reg [{ op := .mov (.c (.bool false)), dst := some 4 }]
def a66_r1 : ACode := .reg [{ op := .mov (.t 0), dst := some 6 },
    { op := .len false (.t 6), dst := some 7 },
    { op := .mov (.t 1), dst := some 8 },
    { op := .len false (.t 8), dst := some 9 },
    { op := .bin .neq (.t 7) (.t 9), dst := some 10 }]
def a66_r2 : ACode := .reg [{ op := .mov (.c (.bool false)), dst := some 4 }]
def a66_r3 : ACode := .reg [{ op := .mov (.t 0), dst := some 11 },
    { op := .len false (.t 11), dst := some 12 },
    { op := .mov (.c (.int .i64 0)), dst := some 13 }]
def a66_r4 : ACode := .reg [{ op := .bin .lss (.t 13) (.t 12), dst := some 14 }]
def a66_r5 : ACode := .reg [{ op := .mov (.t 13), dst := some 15 },
    { op := .mov (.t 15), dst := some 5 }]
def a66_r6 : ACode := .draw [{ op := .mov (.t 0), dst := some 16 },
    { op := .mov (.t 5), dst := some 17 },
    { op := .iad 1 (.t 16) (.t 17), dst := some 18 },
    { op := .load 1 false (.t 18), dst := some 19 },
    { op := .mov (.t 1), dst := some 20 },
    { op := .mov (.t 5), dst := some 21 },
    { op := .iad 1 (.t 20) (.t 21), dst := some 22 },
    { op := .load 1 false (.t 22), dst := some 23 },
    { op := .bin .neq (.t 19) (.t 23), dst := some 24 }]
    []
    (.take 0 (.take 1 (.take 2 (.take 3 (.take 4 (.take 5 (.take 6 (.take 7 (.take 8 (.done))))))))))
def a66_r7 : ACode := .reg [{ op := .mov (.c (.bool false)), dst := some 4 }]
def a66_r8 : ACode := .reg [{ op := .bin .add (.t 13) (.c (.int .i64 1)), dst := some 25 },
    { op := .mov (.t 25), dst := some 13 }]
def a66_l0 : ACode := (.seq a66_r4 (.seq (.cond (.t 14) .skip (.exit 0)) (.seq (.block 1 (.seq a66_r5 (.seq a66_r6 (.cond (.t 24) (.seq a66_r7 .ret) .skip)))) a66_r8)))
def a66_r9 : ACode := .reg [{ op := .mov (.c (.bool true)), dst := some 4 }]
def a66 : ACode := (.seq a66_r0 (.seq (.seq a66_r1 (.cond (.t 10) (.seq a66_r2 .ret) .skip)) (.seq (.seq a66_r3 (.block 0 (.loop a66_l0))) (.seq a66_r9 .ret))))
def a66_res : List ARes := [.tmp 4]
theorem a66_ok : Coded Tryd.prog 66 26 a66 a66_res := ⟨Tryd.f66, _, by kernel_rfl, rfl, by kernel_rfl, rfl, by kernel_rfl, by kernel_rfl⟩
theorem a66_of {args : List AV} {Q : AV → Prop} (hl : args.length ≤ 26) (h : AW Tryd.prog 26 a66 (mkS (argT 0 args) [] 0) (retQ a66_res Q)) : ACall Tryd.prog 66 args Q := acall_coded a66_ok hl h

/- slices.EqualFunc[[]workflow/api.Value,[]workflow/api.Value,workflow/api.Value,workflow/api.Value] -/
def a67_r0 : ACode := .reg [{ op := .mov (.c (.bool false)), dst := some 6 }]
def a67_r1 : ACode := .reg [{ op := .mov (.t 0), dst := some 10 },
    { op := .len false (.t 10), dst := some 11 },
    { op := .mov (.t 1), dst := some 12 },
    { op := .len false (.t 12), dst := some 13 },
    { op := .bin .neq (.t 11) (.t 13), dst := some 14 }]
def a67_r2 : ACode := .reg [{ op := .mov (.c (.bool false)), dst := some 6 }]
def a67_r3 : ACode := .reg [{ op := .mov (.t 0), dst := some 15 },
    { op := .len false (.t 15), dst := some 16 },
    { op := .mov (.c (.int .i64 0)), dst := some 17 }]
def a67_r4 : ACode := .reg [{ op := .bin .lss (.t 17) (.t 16), dst := some 18 }]
def a67_r5 : ACode := .reg [{ op := .mov (.t 17), dst := some 19 },
    { op := .iad 5 (.t 15) (.t 17), dst := some 20 },
    { op := .load 5 true (.t 20), dst := some 21 },
    { op := .alloc 5 true [.int .i64 0, .int .i64 0, .str [], .nils, .nils], dst := some 8, k := 14 },
    { op := .mov (.t 19), dst := some 7 },
    { op := .store 5 true (.t 8) (.t 21), dst := none }]
def a67_r6 : ACode := .reg [{ op := .mov (.t 1), dst := some 22 },
    { op := .mov (.t 7), dst := some 23 },
    { op := .iad 5 (.t 22) (.t 23), dst := some 24 },
    { op := .load 5 true (.t 24), dst := some 25 },
    { op := .alloc 5 true [.int .i64 0, .int .i64 0, .str [], .nils, .nils], dst := some 9, k := 21 },
    { op := .store 5 true (.t 9) (.t 25), dst := none }]
def a67_r7 : ACode := .reg [{ op := .mov (.t 2), dst := some 26 },
    { op := .load 5 true (.t 8), dst := some 27 },
    { op := .load 5 true (.t 9), dst := some 28 },
    { op := .callv (.t 26) [(.t 27), (.t 28)], dst := some 29 },
    { op := .not (.t 29), dst := some 30 }]
def a67_r8 : ACode := .reg [{ op := .mov (.c (.bool false)), dst := some 6 }]
def a67_r9 : ACode := .reg [{ op := .bin .add (.t 17) (.c (.int .i64 1)), dst := some 31 },
    { op := .mov (.t 31), dst := some 17 }]
def a67_l0 : ACode := (.seq a67_r4 (.seq (.cond (.t 18) .skip (.exit 0)) (.seq (.block 1 (.seq a67_r5 (.seq a67_r6 (.seq a67_r7 (.cond (.t 30) (.seq a67_r8 .ret) .skip))))) a67_r9)))
def a67_r10 : ACode := .reg [{ op := .mov (.c (.bool true)), dst := some 6 }]
def a67 : ACode := (.seq a67_r0 (.seq (.seq a67_r1 (.cond (.t 14) (.seq a67_r2 .ret) .skip)) (.seq (.seq a67_r3 (.block 0 (.loop a67_l0))) (.seq a67_r10 .ret))))
def a67_res : List ARes := [.tmp 6]
theorem a67_ok : Coded Tryd.prog 67 32 a67 a67_res := ⟨Tryd.f67, _, by kernel_rfl, rfl, by kernel_rfl, rfl, by kernel_rfl, by kernel_rfl⟩
theorem a67_of {args : List AV} {Q : AV → Prop} (hl : args.length ≤ 32) (h : AW Tryd.prog 32 a67 (mkS (argT 0 args) [] 0) (retQ a67_res Q)) : ACall Tryd.prog 67 args Q := acall_coded a67_ok hl h

/- workflow/ops.relation -/
def a68_r0 : ACode := .reg [{ op := .box 5 true (.t 0), dst := some 2, k := 0 },
    { op := .box 5 true (.t 1), dst := some 3, k := 1 },
    { op := .mov (.c (.int .i64 0)), dst := some 4 },
    { op := .mov (.c (.bool false)), dst := some 5 }]
def a68_r1 : ACode := .reg [{ op := .fad 0 (.t 2), dst := some 7 },
    { op := .load 1 false (.t 7), dst := some 8 },
    { op := .bin .eql (.t 8) (.c (.int .i64 2)), dst := some 9 },
    { op := .mov (.t 9), dst := some 10 },
    { op := .fad 0 (.t 3), dst := some 11, g := some (10, true) },
    { op := .load 1 false (.t 11), dst := some 12, g := some (10, true) },
    { op := .bin .eql (.t 12) (.c (.int .i64 2)), dst := some 13, g := some (10, true) },
    { op := .pick (.t 10) (.t 13) (.c (.bool false)), dst := some 14 },
    { op := .mov (.t 14), dst := some 6 }]
def a68_r2 : ACode := .reg [{ op := .fad 1 (.t 2), dst := some 16 },
    { op := .load 1 false (.t 16), dst := some 17 },
    { op := .fad 1 (.t 3), dst := some 18 },
    { op := .load 1 false (.t 18), dst := some 19 },
    { op := .bin .lss (.t 17) (.t 19), dst := some 20 },
    { op := .mov (.t 20), dst := some 15 }]
def a68_r3 : ACode := .reg [{ op := .mov (.c (.int .i64 0)), dst := some 4 },
    { op := .mov (.c (.bool true)), dst := some 5 }]
def a68_r4 : ACode := .reg [{ op := .fad 1 (.t 2), dst := some 22 },
    { op := .load 1 false (.t 22), dst := some 23 },
    { op := .fad 1 (.t 3), dst := some 24 },
    { op := .load 1 false (.t 24), dst := some 25 },
    { op := .bin .gtr (.t 23) (.t 25), dst := some 26 },
    { op := .mov (.t 26), dst := some 21 }]
def a68_r5 : ACode := .reg [{ op := .mov (.c (.int .i64 2)), dst := some 4 },
    { op := .mov (.c (.bool true)), dst := some 5 }]
def a68_r6 : ACode := .reg [{ op := .mov (.c (.int .i64 1)), dst := some 4 },
    { op := .mov (.c (.bool true)), dst := some 5 }]
def a68_r7 : ACode := .reg [{ op := .fad 0 (.t 2), dst := some 28 },
    { op := .load 1 false (.t 28), dst := some 29 },
    { op := .bin .eql (.t 29) (.c (.int .i64 3)), dst := some 30 },
    { op := .mov (.t 30), dst := some 31 },
    { op := .fad 0 (.t 3), dst := some 32, g := some (31, true) },
    { op := .load 1 false (.t 32), dst := some 33, g := some (31, true) },
    { op := .bin .eql (.t 33) (.c (.int .i64 3)), dst := some 34, g := some (31, true) },
    { op := .pick (.t 31) (.t 34) (.c (.bool false)), dst := some 35 },
    { op := .mov (.t 35), dst := some 27 }]
def a68_r8 : ACode := .reg [{ op := .fad 2 (.t 2), dst := some 37 },
    { op := .load 1 false (.t 37), dst := some 38 },
    { op := .fad 2 (.t 3), dst := some 39 },
    { op := .load 1 false (.t 39), dst := some 40 },
    { op := .bin .lss (.t 38) (.t 40), dst := some 41 },
    { op := .mov (.t 41), dst := some 36 }]
def a68_r9 : ACode := .reg [{ op := .mov (.c (.int .i64 0)), dst := some 4 },
    { op := .mov (.c (.bool true)), dst := some 5 }]
def a68_r10 : ACode := .reg [{ op := .fad 2 (.t 2), dst := some 43 },
    { op := .load 1 false (.t 43), dst := some 44 },
    { op := .fad 2 (.t 3), dst := some 45 },
    { op := .load 1 false (.t 45), dst := some 46 },
    { op := .bin .gtr (.t 44) (.t 46), dst := some 47 },
    { op := .mov (.t 47), dst := some 42 }]
def a68_r11 : ACode := .reg [{ op := .mov (.c (.int .i64 2)), dst := some 4 },
    { op := .mov (.c (.bool true)), dst := some 5 }]
def a68_r12 : ACode := .reg [{ op := .mov (.c (.int .i64 1)), dst := some 4 },
    { op := .mov (.c (.bool true)), dst := some 5 }]
def a68_r13 : ACode := .reg [{ op := .mov (.c (.int .i64 0)), dst := some 4 },
    { op := .mov (.c (.bool false)), dst := some 5 }]
def a68 : ACode := (.seq a68_r0 (.seq (.block 0 (.seq a68_r1 (.cond (.t 6) (.seq (.block 1 (.seq a68_r2 (.cond (.t 15) (.seq a68_r3 .ret) (.seq a68_r4 (.cond (.t 21) (.seq a68_r5 .ret) .skip))))) (.seq a68_r6 .ret)) (.seq a68_r7 (.cond (.t 27) (.seq (.block 2 (.seq a68_r8 (.cond (.t 36) (.seq a68_r9 .ret) (.seq a68_r10 (.cond (.t 42) (.seq a68_r11 .ret) .skip))))) (.seq a68_r12 .ret)) .skip))))) (.seq a68_r13 .ret)))
def a68_res : List ARes := [.tmp 4, .tmp 5]
theorem a68_ok : Coded Tryd.prog 68 48 a68 a68_res := ⟨Tryd.f68, _, by kernel_rfl, rfl, by kernel_rfl, rfl, by kernel_rfl, by kernel_rfl⟩
theorem a68_of {args : List AV} {Q : AV → Prop} (hl : args.length ≤ 48) (h : AW Tryd.prog 48 a68 (mkS (argT 0 args) [] 0) (retQ a68_res Q)) : ACall Tryd.prog 68 args Q := acall_coded a68_ok hl h

/- workflow/ops.product -/
def a69_r0 : ACode := .reg [{ op := .mov (.c (.int .i64 0)), dst := some 4 },
    { op := .mov (.c (.bool false)), dst := some 5 }]
def a69_r1 : ACode := .reg [{ op := .mov (.t 0), dst := some 10 },
    { op := .call 82 [(.t 10)], dst := some 11 },
    { op := .mov (.t 1), dst := some 12 },
    { op := .call 82 [(.t 12)], dst := some 13 },
    { op := .call 81 [(.t 11), (.t 13)], dst := some 14 },
    { op := .mov (.t 14), dst := some 9 },
    { op := .ext (.t 9) 0, dst := some 15 },
    { op := .ext (.t 9) 1, dst := some 16 },
    { op := .mov (.t 15), dst := some 6 },
    { op := .mov (.t 16), dst := some 7 }]
def a69_r2 : ACode := .reg [{ op := .mov (.c (.int .u64 9223372036854775808)), dst := some 8 }]
def a69_r3 : ACode := .reg [{ op := .mov (.t 0), dst := some 17 },
    { op := .bin .lss (.t 17) (.c (.int .i64 0)), dst := some 18 },
    { op := .mov (.t 1), dst := some 19 },
    { op := .bin .lss (.t 19) (.c (.int .i64 0)), dst := some 20 },
    { op := .eqb false (.t 18) (.t 20), dst := some 21 }]
def a69_r4 : ACode := .reg [{ op := .mov (.t 8), dst := some 22 },
    { op := .bin .sub (.t 22) (.c (.int .u64 1)), dst := some 23 },
    { op := .mov (.t 23), dst := some 8 }]
def a69_r5 : ACode := .reg [{ op := .mov (.t 0), dst := some 24 },
    { op := .mov (.t 1), dst := some 25 },
    { op := .bin .mul (.t 24) (.t 25), dst := some 26 },
    { op := .mov (.t 6), dst := some 27 },
    { op := .bin .eql (.t 27) (.c (.int .u64 0)), dst := some 28 },
    { op := .mov (.t 28), dst := some 29 },
    { op := .mov (.t 7), dst := some 30, g := some (29, true) },
    { op := .mov (.t 8), dst := some 31, g := some (29, true) },
    { op := .bin .leq (.t 30) (.t 31), dst := some 32, g := some (29, true) },
    { op := .pick (.t 29) (.t 32) (.c (.bool false)), dst := some 33 },
    { op := .mov (.t 26), dst := some 4 },
    { op := .mov (.t 33), dst := some 5 }]
def a69 : ACode := (.seq a69_r0 (.seq a69_r1 (.seq a69_r2 (.seq (.seq a69_r3 (.cond (.t 21) a69_r4 .skip)) (.seq a69_r5 .ret)))))
def a69_res : List ARes := [.tmp 4, .tmp 5]
theorem a69_ok : Coded Tryd.prog 69 34 a69 a69_res := ⟨Tryd.f69, _, by kernel_rfl, rfl, by kernel_rfl, rfl, by kernel_rfl, by kernel_rfl⟩
theorem a69_of {args : List AV} {Q : AV → Prop} (hl : args.length ≤ 34) (h : AW Tryd.prog 34 a69 (mkS (argT 0 args) [] 0) (retQ a69_res Q)) : ACall Tryd.prog 69 args Q := acall_coded a69_ok hl h

/- workflow/value.Int -/
def a70_r0 : ACode := .reg [{ op := .alloc 5 true [.int .i64 0, .int .i64 0, .str [], .nils, .nils], dst := some 2, k := 0 }]
def a70_r1 : ACode := .reg [{ op := .mov (.t 0), dst := some 3 },
    { op := .build [.int .i64 0, .int .i64 0, .str [], .nils, .nils] [(0, 1, (.c (.int .i64 2))), (1, 1, (.t 3))], dst := some 4 },
    { op := .store 5 true (.t 2) (.t 4), dst := none }]
def a70 : ACode := (.seq a70_r0 (.seq a70_r1 .ret))
def a70_res : List ARes := [.cell 2 5 true]
theorem a70_ok : Coded Tryd.prog 70 5 a70 a70_res := ⟨Tryd.f70, _, by kernel_rfl, rfl, by kernel_rfl, rfl, by kernel_rfl, by kernel_rfl⟩
theorem a70_of {args : List AV} {Q : AV → Prop} (hl : args.length ≤ 5) (h : AW Tryd.prog 5 a70 (mkS (argT 0 args) [] 0) (retQ a70_res Q)) : ACall Tryd.prog 70 args Q := acall_coded a70_ok hl h

/- slices.Clone[[]string,string] -/
def a75_r0 : ACode := .reg [{ op := .mov (.c (.nils)), dst := some 2 }]
def a75_r1 : ACode := .reg [{ op := .mov (.t 0), dst := some 3 },
    { op := .eqz false (.t 3), dst := some 4 }]
def a75_r2 : ACode := .reg [{ op := .mov (.c (.nils)), dst := some 2 }]
def a75_r3 : ACode := .reg [{ op := .bsl 1 false 0 [.str []] [], dst := some 5 },
    { op := .mov (.t 0), dst := some 6 },
    { op := .app 1 16 (.t 5) (.t 6), dst := some 7, k := 6 },
    { op := .mov (.t 7), dst := some 2 }]
def a75 : ACode := (.seq a75_r0 (.seq (.seq a75_r1 (.cond (.t 4) (.seq a75_r2 .ret) .skip)) (.seq a75_r3 .ret)))
def a75_res : List ARes := [.tmp 2]
theorem a75_ok : Coded Tryd.prog 75 8 a75 a75_res := ⟨Tryd.f75, _, by kernel_rfl, rfl, by kernel_rfl, rfl, by kernel_rfl, by kernel_rfl⟩
theorem a75_of {args : List AV} {Q : AV → Prop} (hl : args.length ≤ 8) (h : AW Tryd.prog 8 a75 (mkS (argT 0 args) [] 0) (retQ a75_res Q)) : ACall Tryd.prog 75 args Q := acall_coded a75_ok hl h

/- workflow/workflowref02.Rising -/
def a76_r0 : ACode := .reg [{ op := .mov (.c (.bool false)), dst := some 2 }]
def a76_r1 : ACode := .reg [{ op := .mov (.c (.int .i64 1)), dst := some 3 }]
def a76_r2 : ACode := .reg [{ op := .mov (.t 3), dst := some 4 },
    { op := .mov (.t 0), dst := some 5 },
    { op := .len false (.t 5), dst := some 6 },
    { op := .bin .lss (.t 4) (.t 6), dst := some 7 }]
def a76_r4 : ACode := .draw [{ op := .mov (.t 0), dst := some 10 },
    { op := .mov (.t 3), dst := some 11 },
    { op := .bin .sub (.t 11) (.c (.int .i64 1)), dst := some 12 },
    { op := .iad 1 (.t 10) (.t 12), dst := some 13 },
    { op := .load 1 false (.t 13), dst := some 14 },
    { op := .mov (.t 0), dst := some 15 },
    { op := .mov (.t 3), dst := some 16 },
    { op := .iad 1 (.t 15) (.t 16), dst := some 17 },
    { op := .load 1 false (.t 17), dst := some 18 },
    { op := .bin .geq (.t 14) (.t 18), dst := some 19 }]
    []
    (.take 0 (.take 1 (.take 2 (.take 3 (.take 4 (.take 5 (.take 6 (.take 7 (.take 8 (.take 9 (.done)))))))))))
def a76_r5 : ACode := .reg [{ op := .mov (.c (.bool false)), dst := some 2 }]
def a76_r3 : ACode := .reg [{ op := .mov (.t 3), dst := some 8 },
    { op := .bin .add (.t 8) (.c (.int .i64 1)), dst := some 9 },
    { op := .mov (.t 9), dst := some 3 }]
def a76_l0 : ACode := (.seq (.seq a76_r2 (.cond (.t 7) .skip (.exit 0))) (.seq (.block 1 (.seq a76_r4 (.cond (.t 19) (.seq a76_r5 .ret) .skip))) a76_r3))
def a76_r6 : ACode := .reg [{ op := .mov (.c (.bool true)), dst := some 2 }]
def a76 : ACode := (.seq a76_r0 (.seq (.seq a76_r1 (.block 0 (.loop a76_l0))) (.seq a76_r6 .ret)))
def a76_res : List ARes := [.tmp 2]
theorem a76_ok : Coded Tryd.prog 76 20 a76 a76_res := ⟨Tryd.f76, _, by kernel_rfl, rfl, by kernel_rfl, rfl, by kernel_rfl, by kernel_rfl⟩
theorem a76_of {args : List AV} {Q : AV → Prop} (hl : args.length ≤ 20) (h : AW Tryd.prog 20 a76 (mkS (argT 0 args) [] 0) (retQ a76_res Q)) : ACall Tryd.prog 76 args Q := acall_coded a76_ok hl h

/- strconv.Itoa -/
def a78_r0 : ACode := .reg [{ op := .mov (.c (.str [])), dst := some 2 }]
def a78_r1 : ACode := .reg [{ op := .mov (.t 0), dst := some 3 },
    { op := .call 88 [(.t 3)], dst := some 4 },
    { op := .mov (.t 4), dst := some 2 }]
def a78 : ACode := (.seq a78_r0 (.seq a78_r1 .ret))
def a78_res : List ARes := [.tmp 2]
theorem a78_ok : Coded Tryd.prog 78 5 a78 a78_res := ⟨Tryd.f78, _, by kernel_rfl, rfl, by kernel_rfl, rfl, by kernel_rfl, by kernel_rfl⟩
theorem a78_of {args : List AV} {Q : AV → Prop} (hl : args.length ≤ 5) (h : AW Tryd.prog 5 a78 (mkS (argT 0 args) [] 0) (retQ a78_res Q)) : ACall Tryd.prog 78 args Q := acall_coded a78_ok hl h

/- strconv.Atoi -/
def a79_r0 : ACode := .reg [{ op := .mov (.c (.int .i64 0)), dst := some 2 },
    { op := .mov (.c (.nili)), dst := some 3 }]
def a79_r1 : ACode := .reg [{ op := .mov (.t 0), dst := some 7 },
    { op := .call 89 [(.t 7)], dst := some 8 },
    { op := .mov (.t 8), dst := some 6 },
    { op := .ext (.t 6) 0, dst := some 9 },
    { op := .ext (.t 6) 1, dst := some 10 },
    { op := .mov (.t 9), dst := some 4 },
    { op := .mov (.t 10), dst := some 5 }]
def a79_r2 : ACode := .reg [{ op := .mov (.t 5), dst := some 11 },
    { op := .eqn true .i (.t 11), dst := some 12 }]
def a79_r3 : ACode := .reg [{ op := .mov (.t 4), dst := some 13 },
    { op := .mov (.t 0), dst := some 14 },
    { op := .mov (.t 5), dst := some 15 },
    { op := .call 90 [(.c (.str [65, 116, 111, 105])), (.t 14), (.c (.int .i64 0)), (.c (.int .i64 0)), (.t 15)], dst := some 16 },
    { op := .mov (.t 13), dst := some 2 },
    { op := .mov (.t 16), dst := some 3 }]
def a79_r4 : ACode := .reg [{ op := .mov (.t 4), dst := some 17 },
    { op := .mov (.t 17), dst := some 2 },
    { op := .mov (.c (.nili)), dst := some 3 }]
def a79 : ACode := (.seq a79_r0 (.seq a79_r1 (.seq (.seq a79_r2 (.cond (.t 12) (.seq a79_r3 .ret) .skip)) (.seq a79_r4 .ret))))
def a79_res : List ARes := [.tmp 2, .tmp 3]
theorem a79_ok : Coded Tryd.prog 79 18 a79 a79_res := ⟨Tryd.f79, _, by kernel_rfl, rfl, by kernel_rfl, rfl, by kernel_rfl, by kernel_rfl⟩
theorem a79_of {args : List AV} {Q : AV → Prop} (hl : args.length ≤ 18) (h : AW Tryd.prog 18 a79 (mkS (argT 0 args) [] 0) (retQ a79_res Q)) : ACall Tryd.prog 79 args Q := acall_coded a79_ok hl h

/- math/bits.Mul64 -/
def a81_r0 : ACode := .reg [{ op := .mov (.c (.int .u64 0)), dst := some 4 },
    { op := .mov (.c (.int .u64 0)), dst := some 5 }]
def a81_r1 : ACode := .reg [{ op := .mov (.t 0), dst := some 14 },
    { op := .bin .and (.t 14) (.c (.int .u64 4294967295)), dst := some 15 },
    { op := .mov (.t 15), dst := some 6 }]
def a81_r2 : ACode := .reg [{ op := .mov (.t 0), dst := some 16 },
    { op := .bin .shr (.t 16) (.c (.int .u64 32)), dst := some 17 },
    { op := .mov (.t 17), dst := some 7 }]
def a81_r3 : ACode := .reg [{ op := .mov (.t 1), dst := some 18 },
    { op := .bin .and (.t 18) (.c (.int .u64 4294967295)), dst := some 19 },
    { op := .mov (.t 19), dst := some 8 }]
def a81_r4 : ACode := .reg [{ op := .mov (.t 1), dst := some 20 },
    { op := .bin .shr (.t 20) (.c (.int .u64 32)), dst := some 21 },
    { op := .mov (.t 21), dst := some 9 }]
def a81_r5 : ACode := .reg [{ op := .mov (.t 6), dst := some 22 },
    { op := .mov (.t 8), dst := some 23 },
    { op := .bin .mul (.t 22) (.t 23), dst := some 24 },
    { op := .mov (.t 24), dst := some 10 }]
def a81_r6 : ACode := .reg [{ op := .mov (.t 7), dst := some 25 },
    { op := .mov (.t 8), dst := some 26 },
    { op := .bin .mul (.t 25) (.t 26), dst := some 27 },
    { op := .mov (.t 10), dst := some 28 },
    { op := .bin .shr (.t 28) (.c (.int .u64 32)), dst := some 29 },
    { op := .bin .add (.t 27) (.t 29), dst := some 30 },
    { op := .mov (.t 30), dst := some 11 }]
def a81_r7 : ACode := .reg [{ op := .mov (.t 11), dst := some 31 },
    { op := .bin .and (.t 31) (.c (.int .u64 4294967295)), dst := some 32 },
    { op := .mov (.t 32), dst := some 12 }]
def a81_r8 : ACode := .reg [{ op := .mov (.t 11), dst := some 33 },
    { op := .bin .shr (.t 33) (.c (.int .u64 32)), dst := some 34 },
    { op := .mov (.t 34), dst := some 13 }]
def a81_r9 : ACode := .reg [{ op := .mov (.t 12), dst := some 35 },
    { op := .mov (.t 6), dst := some 36 },
    { op := .mov (.t 9), dst := some 37 },
    { op := .bin .mul (.t 36) (.t 37), dst := some 38 },
    { op := .bin .add (.t 35) (.t 38), dst := some 39 },
    { op := .mov (.t 39), dst := some 12 }]
def a81_r10 : ACode := .reg [{ op := .mov (.t 7), dst := some 40 },
    { op := .mov (.t 9), dst := some 41 },
    { op := .bin .mul (.t 40) (.t 41), dst := some 42 },
    { op := .mov (.t 13), dst := some 43 },
    { op := .bin .add (.t 42) (.t 43), dst := some 44 },
    { op := .mov (.t 12), dst := some 45 },
    { op := .bin .shr (.t 45) (.c (.int .u64 32)), dst := some 46 },
    { op := .bin .add (.t 44) (.t 46), dst := some 47 },
    { op := .mov (.t 47), dst := some 4 }]
def a81_r11 : ACode := .reg [{ op := .mov (.t 0), dst := some 48 },
    { op := .mov (.t 1), dst := some 49 },
    { op := .bin .mul (.t 48) (.t 49), dst := some 50 },
    { op := .mov (.t 50), dst := some 5 }]
def a81 : ACode := (.seq a81_r0 (.seq a81_r1 (.seq a81_r2 (.seq a81_r3 (.seq a81_r4 (.seq a81_r5 (.seq a81_r6 (.seq a81_r7 (.seq a81_r8 (.seq a81_r9 (.seq a81_r10 (.seq a81_r11 .ret))))))))))))
def a81_res : List ARes := [.tmp 4, .tmp 5]
theorem a81_ok : Coded Tryd.prog 81 51 a81 a81_res := ⟨Tryd.f81, _, by kernel_rfl, rfl, by kernel_rfl, rfl, by kernel_rfl, by kernel_rfl⟩
theorem a81_of {args : List AV} {Q : AV → Prop} (hl : args.length ≤ 51) (h : AW Tryd.prog 51 a81 (mkS (argT 0 args) [] 0) (retQ a81_res Q)) : ACall Tryd.prog 81 args Q := acall_coded a81_ok hl h

/- workflow/ops.magnitude -/
def a82_r0 : ACode := .reg [{ op := .mov (.c (.int .u64 0)), dst := some 2 }]
def a82_r1 : ACode := .reg [{ op := .mov (.t 0), dst := some 3 },
    { op := .bin .lss (.t 3) (.c (.int .i64 0)), dst := some 4 }]
def a82_r2 : ACode := .reg [{ op := .mov (.t 0), dst := some 5 },
    { op := .conv .u64 (.t 5), dst := some 6 },
    { op := .neg (.t 6), dst := some 7 },
    { op := .mov (.t 7), dst := some 2 }]
def a82_r3 : ACode := .reg [{ op := .mov (.t 0), dst := some 8 },
    { op := .conv .u64 (.t 8), dst := some 9 },
    { op := .mov (.t 9), dst := some 2 }]
def a82 : ACode := (.seq a82_r0 (.seq (.seq a82_r1 (.cond (.t 4) (.seq a82_r2 .ret) .skip)) (.seq a82_r3 .ret)))
def a82_res : List ARes := [.tmp 2]
theorem a82_ok : Coded Tryd.prog 82 10 a82 a82_res := ⟨Tryd.f82, _, by kernel_rfl, rfl, by kernel_rfl, rfl, by kernel_rfl, by kernel_rfl⟩
theorem a82_of {args : List AV} {Q : AV → Prop} (hl : args.length ≤ 10) (h : AW Tryd.prog 10 a82 (mkS (argT 0 args) [] 0) (retQ a82_res Q)) : ACall Tryd.prog 82 args Q := acall_coded a82_ok hl h

/- internal/strconv.Itoa -/
def a88_r0 : ACode := .reg [{ op := .mov (.c (.str [])), dst := some 2 }]
def a88_r1 : ACode := .reg [{ op := .mov (.t 0), dst := some 3 },
    { op := .call 92 [(.t 3), (.c (.int .i64 10))], dst := some 4 },
    { op := .mov (.t 4), dst := some 2 }]
def a88 : ACode := (.seq a88_r0 (.seq a88_r1 .ret))
def a88_res : List ARes := [.tmp 2]
theorem a88_ok : Coded Tryd.prog 88 5 a88 a88_res := ⟨Tryd.f88, _, by kernel_rfl, rfl, by kernel_rfl, rfl, by kernel_rfl, by kernel_rfl⟩
theorem a88_of {args : List AV} {Q : AV → Prop} (hl : args.length ≤ 5) (h : AW Tryd.prog 5 a88 (mkS (argT 0 args) [] 0) (retQ a88_res Q)) : ACall Tryd.prog 88 args Q := acall_coded a88_ok hl h

/- internal/strconv.Atoi -/
def a89_r0 : ACode := .reg [{ op := .mov (.c (.int .i64 0)), dst := some 2 },
    { op := .mov (.c (.nili)), dst := some 3 }]
def a89_r1 : ACode := .reg [{ op := .mov (.t 0), dst := some 11 },
    { op := .len true (.t 11), dst := some 12 },
    { op := .mov (.t 12), dst := some 4 }]
def a89_r2 : ACode := .reg [{ op := .mov (.c (.bool false)), dst := some 13 },
    { op := .mov (.t 4), dst := some 14, g := some (13, true) },
    { op := .bin .lss (.c (.int .i64 0)) (.t 14), dst := some 15, g := some (13, true) },
    { op := .mov (.t 15), dst := some 16, g := some (13, true) },
    { op := .mov (.t 4), dst := some 17, g := some (16, true) },
    { op := .bin .lss (.t 17) (.c (.int .i64 10)), dst := some 18, g := some (16, true) },
    { op := .pick (.t 16) (.t 18) (.c (.bool false)), dst := some 19, g := some (13, true) },
    { op := .pick (.t 13) (.t 19) (.c (.bool false)), dst := some 20 },
    { op := .mov (.t 20), dst := some 21 },
    { op := .mov (.c (.bool true)), dst := some 22, g := some (21, false) },
    { op := .mov (.t 4), dst := some 23, g := some (22, true) },
    { op := .bin .lss (.c (.int .i64 0)) (.t 23), dst := some 24, g := some (22, true) },
    { op := .mov (.t 24), dst := some 25, g := some (22, true) },
    { op := .mov (.t 4), dst := some 26, g := some (25, true) },
    { op := .bin .lss (.t 26) (.c (.int .i64 19)), dst := some 27, g := some (25, true) },
    { op := .pick (.t 25) (.t 27) (.c (.bool false)), dst := some 28, g := some (22, true) },
    { op := .pick (.t 22) (.t 28) (.c (.bool false)), dst := some 29, g := some (21, false) },
    { op := .pick (.t 21) (.c (.bool true)) (.t 29), dst := some 30 }]
def a89_r3 : ACode := .reg [{ op := .mov (.t 0), dst := some 31 },
    { op := .mov (.t 31), dst := some 5 }]
def a89_r4 : ACode := .reg [{ op := .mov (.t 0), dst := some 32 },
    { op := .sidx (.t 32) (.c (.int .i64 0)), dst := some 33 },
    { op := .bin .eql (.t 33) (.c (.int .u8 45)), dst := some 34 },
    { op := .mov (.t 34), dst := some 35 },
    { op := .mov (.t 0), dst := some 36, g := some (35, false) },
    { op := .sidx (.t 36) (.c (.int .i64 0)), dst := some 37, g := some (35, false) },
    { op := .bin .eql (.t 37) (.c (.int .u8 43)), dst := some 38, g := some (35, false) },
    { op := .pick (.t 35) (.c (.bool true)) (.t 38), dst := some 39 }]
def a89_r5 : ACode := .reg [{ op := .mov (.t 0), dst := some 40 },
    { op := .sslice (.t 40) (some (.c (.int .i64 1))) none, dst := some 41 },
    { op := .mov (.t 41), dst := some 0 }]
def a89_r6 : ACode := .reg [{ op := .mov (.t 0), dst := some 42 },
    { op := .len true (.t 42), dst := some 43 },
    { op := .bin .lss (.t 43) (.c (.int .i64 1)), dst := some 44 }]
def a89_r7 : ACode := .reg [{ op := .off, dst := some 45 },
    { op := .mov (.c (.int .i64 0)), dst := some 2 },
    { op := .mov (.t 45), dst := some 3 }]
def a89_r8 : ACode := .reg [{ op := .mov (.c (.int .i64 0)), dst := some 6 }]
def a89_r9 : ACode := .reg [{ op := .mov (.t 0), dst := some 46 },
    { op := .s2b (.t 46), dst := some 47, k := 44 },
    { op := .len false (.t 47), dst := some 48 },
    { op := .mov (.c (.int .i64 0)), dst := some 49 }]
def a89_r10 : ACode := .reg [{ op := .bin .lss (.t 49) (.t 48), dst := some 50 }]
def a89_r11 : ACode := .reg [{ op := .iad 1 (.t 47) (.t 49), dst := some 51 },
    { op := .load 1 false (.t 51), dst := some 52 },
    { op := .mov (.t 52), dst := some 8 }]
def a89_r12 : ACode := .reg [{ op := .mov (.t 8), dst := some 53 },
    { op := .bin .sub (.t 53) (.c (.int .u8 48)), dst := some 54 },
    { op := .mov (.t 54), dst := some 8 }]
def a89_r13 : ACode := .reg [{ op := .mov (.t 8), dst := some 55 },
    { op := .bin .gtr (.t 55) (.c (.int .u8 9)), dst := some 56 }]
def a89_r14 : ACode := .reg [{ op := .off, dst := some 57 },
    { op := .mov (.c (.int .i64 0)), dst := some 2 },
    { op := .mov (.t 57), dst := some 3 }]
def a89_r15 : ACode := .reg [{ op := .mov (.t 6), dst := some 58 },
    { op := .bin .mul (.t 58) (.c (.int .i64 10)), dst := some 59 },
    { op := .mov (.t 8), dst := some 60 },
    { op := .conv .i64 (.t 60), dst := some 61 },
    { op := .bin .add (.t 59) (.t 61), dst := some 62 },
    { op := .mov (.t 62), dst := some 6 }]
def a89_r16 : ACode := .reg [{ op := .bin .add (.t 49) (.c (.int .i64 1)), dst := some 63 },
    { op := .mov (.t 63), dst := some 49 }]
def a89_l0 : ACode := (.seq a89_r10 (.seq (.cond (.t 50) .skip (.exit 0)) (.seq (.block 1 (.seq a89_r11 (.seq a89_r12 (.seq (.seq a89_r13 (.cond (.t 56) (.seq a89_r14 .ret) .skip)) a89_r15)))) a89_r16)))
def a89_r17 : ACode := .reg [{ op := .mov (.t 5), dst := some 64 },
    { op := .sidx (.t 64) (.c (.int .i64 0)), dst := some 65 },
    { op := .bin .eql (.t 65) (.c (.int .u8 45)), dst := some 66 }]
def a89_r18 : ACode := .reg [{ op := .mov (.t 6), dst := some 67 },
    { op := .neg (.t 67), dst := some 68 },
    { op := .mov (.t 68), dst := some 6 }]
def a89_r19 : ACode := .reg [{ op := .mov (.t 6), dst := some 69 },
    { op := .mov (.t 69), dst := some 2 },
    { op := .mov (.c (.nili)), dst := some 3 }]
def a89_r20 : ACode := .reg [{ op := .mov (.t 0), dst := some 71 },
    { op := .call 93 [(.t 71), (.c (.int .i64 10)), (.c (.int .i64 0))], dst := some 72 },
    { op := .mov (.t 72), dst := some 70 },
    { op := .ext (.t 70) 0, dst := some 73 },
    { op := .ext (.t 70) 1, dst := some 74 },
    { op := .mov (.t 73), dst := some 9 },
    { op := .mov (.t 74), dst := some 10 }]
def a89_r21 : ACode := .reg [{ op := .mov (.t 9), dst := some 75 },
    { op := .mov (.t 10), dst := some 76 },
    { op := .mov (.t 75), dst := some 2 },
    { op := .mov (.t 76), dst := some 3 }]
def a89 : ACode := (.seq a89_r0 (.seq a89_r1 (.seq (.seq a89_r2 (.cond (.t 30) (.seq a89_r3 (.seq (.seq a89_r4 (.cond (.t 39) (.seq a89_r5 (.seq a89_r6 (.cond (.t 44) (.seq a89_r7 .ret) .skip))) .skip)) (.seq a89_r8 (.seq (.seq a89_r9 (.block 0 (.loop a89_l0))) (.seq (.seq a89_r17 (.cond (.t 66) a89_r18 .skip)) (.seq a89_r19 .ret)))))) .skip)) (.seq a89_r20 (.seq a89_r21 .ret)))))
def a89_res : List ARes := [.tmp 2, .tmp 3]
theorem a89_ok : Coded Tryd.prog 89 77 a89 a89_res := ⟨Tryd.f89, _, by kernel_rfl, rfl, by kernel_rfl, rfl, by kernel_rfl, by kernel_rfl⟩
theorem a89_of {args : List AV} {Q : AV → Prop} (hl : args.length ≤ 77) (h : AW Tryd.prog 77 a89 (mkS (argT 0 args) [] 0) (retQ a89_res Q)) : ACall Tryd.prog 89 args Q := acall_coded a89_ok hl h

/- internal/strconv.FormatInt -/
def a92_r0 : ACode := .reg [{ op := .mov (.c (.str [])), dst := some 4 }]
def a92_r1 : ACode := .reg [{ op := .mov (.t 1), dst := some 10 },
    { op := .bin .eql (.t 10) (.c (.int .i64 10)), dst := some 11 }]
def a92_r2 : ACode := .reg [{ op := .mov (.t 0), dst := some 12 },
    { op := .bin .leq (.c (.int .i64 0)) (.t 12), dst := some 13 },
    { op := .mov (.t 13), dst := some 14 },
    { op := .mov (.t 0), dst := some 15, g := some (14, true) },
    { op := .bin .lss (.t 15) (.c (.int .i64 100)), dst := some 16, g := some (14, true) },
    { op := .pick (.t 14) (.t 16) (.c (.bool false)), dst := some 17 }]
def a92_r3 : ACode := .reg [{ op := .mov (.t 0), dst := some 18 },
    { op := .call 98 [(.t 18)], dst := some 19 },
    { op := .mov (.t 19), dst := some 4 }]
def a92_r4 : ACode := .reg [{ op := .alloc 24 true [.int .u8 0, .int .u8 0, .int .u8 0, .int .u8 0, .int .u8 0, .int .u8 0, .int .u8 0, .int .u8 0, .int .u8 0, .int .u8 0, .int .u8 0, .int .u8 0, .int .u8 0, .int .u8 0, .int .u8 0, .int .u8 0, .int .u8 0, .int .u8 0, .int .u8 0, .int .u8 0, .int .u8 0, .int .u8 0, .int .u8 0, .int .u8 0], dst := some 5, k := 12 }]
def a92_r5 : ACode := .reg [{ op := .mov (.t 0), dst := some 20 },
    { op := .conv .u64 (.t 20), dst := some 21 },
    { op := .mov (.t 21), dst := some 6 }]
def a92_r6 : ACode := .reg [{ op := .mov (.t 0), dst := some 22 },
    { op := .bin .lss (.t 22) (.c (.int .i64 0)), dst := some 23 }]
def a92_r7 : ACode := .reg [{ op := .mov (.t 6), dst := some 24 },
    { op := .neg (.t 24), dst := some 25 },
    { op := .mov (.t 25), dst := some 6 }]
def a92_r8 : ACode := .reg [{ op := .mov (.t 6), dst := some 26 },
    { op := .call 99 [(.t 26)], dst := some 27 },
    { op := .mov (.t 27), dst := some 7 }]
def a92_r9 : ACode := .reg [{ op := .mov (.t 7), dst := some 28 },
    { op := .bin .add (.c (.int .i64 1)) (.t 28), dst := some 29 },
    { op := .off, dst := some 30 },
    { op := .mov (.t 6), dst := some 31 },
    { op := .call 100 [(.t 30), (.t 31)], dst := some 32 }]
def a92_r10 : ACode := .reg [{ op := .mov (.t 0), dst := some 33 },
    { op := .bin .lss (.t 33) (.c (.int .i64 0)), dst := some 34 }]
def a92_r11 : ACode := .reg [{ op := .off, dst := some 35 },
    { op := .store 1 false (.t 35) (.c (.int .u8 45)), dst := none }]
def a92_r12 : ACode := .reg [{ op := .mov (.t 7), dst := some 36 },
    { op := .bin .add (.c (.int .i64 1)) (.t 36), dst := some 37 },
    { op := .off, dst := some 38 },
    { op := .b2s (.t 38), dst := some 39 },
    { op := .mov (.t 39), dst := some 4 }]
def a92_r13 : ACode := .reg [{ op := .mov (.t 7), dst := some 40 },
    { op := .bin .add (.c (.int .i64 1)) (.t 40), dst := some 41 },
    { op := .off, dst := some 42 },
    { op := .b2s (.t 42), dst := some 43 },
    { op := .mov (.t 43), dst := some 4 }]
def a92_r14 : ACode := .reg [{ op := .mov (.t 0), dst := some 45 },
    { op := .conv .u64 (.t 45), dst := some 46 },
    { op := .mov (.t 1), dst := some 47 },
    { op := .mov (.t 0), dst := some 48 },
    { op := .bin .lss (.t 48) (.c (.int .i64 0)), dst := some 49 },
    { op := .call 101 [(.c (.nils)), (.t 46), (.t 47), (.t 49), (.c (.bool false))], dst := some 50 },
    { op := .mov (.t 50), dst := some 44 },
    { op := .ext (.t 44) 0, dst := some 51 },
    { op := .ext (.t 44) 1, dst := some 52 },
    { op := .mov (.t 51), dst := some 8 },
    { op := .mov (.t 52), dst := some 9 }]
def a92_r15 : ACode := .reg [{ op := .mov (.t 9), dst := some 53 },
    { op := .mov (.t 53), dst := some 4 }]
def a92 : ACode := (.seq a92_r0 (.seq (.seq a92_r1 (.cond (.t 11) (.seq (.seq a92_r2 (.cond (.t 17) (.seq a92_r3 .ret) .skip)) (.seq a92_r4 (.seq a92_r5 (.seq (.seq a92_r6 (.cond (.t 23) a92_r7 .skip)) (.seq a92_r8 (.seq a92_r9 (.seq (.seq a92_r10 (.cond (.t 34) (.seq a92_r11 (.seq a92_r12 .ret)) .skip)) (.seq a92_r13 .ret)))))))) .skip)) (.seq a92_r14 (.seq a92_r15 .ret))))
def a92_res : List ARes := [.tmp 4]
theorem a92_ok : Coded Tryd.prog 92 54 a92 a92_res := ⟨Tryd.f92, _, by kernel_rfl, rfl, by kernel_rfl, rfl, by kernel_rfl, by kernel_rfl⟩
theorem a92_of {args : List AV} {Q : AV → Prop} (hl : args.length ≤ 54) (h : AW Tryd.prog 54 a92 (mkS (argT 0 args) [] 0) (retQ a92_res Q)) : ACall Tryd.prog 92 args Q := acall_coded a92_ok hl h

/- internal/strconv.small -/
def a98_r0 : ACode := .reg [{ op := .mov (.c (.str [])), dst := some 2 }]
def a98_r1 : ACode := .reg [{ op := .mov (.t 0), dst := some 3 },
    { op := .bin .lss (.t 3) (.c (.int .i64 10)), dst := some 4 }]
def a98_r2 : ACode := .reg [{ op := .mov (.t 0), dst := some 5 },
    { op := .mov (.t 0), dst := some 6 },
    { op := .bin .add (.t 6) (.c (.int .i64 1)), dst := some 7 },
    { op := .sslice (.c (.str [48, 49, 50, 51, 52, 53, 54, 55, 56, 57, 97, 98, 99, 100, 101, 102, 103, 104, 105, 106, 107, 108, 109, 110, 111, 112, 113, 114, 115, 116, 117, 118, 119, 120, 121, 122])) (some (.t 5)) (some (.t 7)), dst := some 8 },
    { op := .mov (.t 8), dst := some 2 }]
def a98_r3 : ACode := .reg [{ op := .mov (.t 0), dst := some 9 },
    { op := .bin .mul (.t 9) (.c (.int .i64 2)), dst := some 10 },
    { op := .mov (.t 0), dst := some 11 },
    { op := .bin .mul (.t 11) (.c (.int .i64 2)), dst := some 12 },
    { op := .bin .add (.t 12) (.c (.int .i64 2)), dst := some 13 },
    { op := .sslice (.c (.str [48, 48, 48, 49, 48, 50, 48, 51, 48, 52, 48, 53, 48, 54, 48, 55, 48, 56, 48, 57, 49, 48, 49, 49, 49, 50, 49, 51, 49, 52, 49, 53, 49, 54, 49, 55, 49, 56, 49, 57, 50, 48, 50, 49, 50, 50, 50, 51, 50, 52, 50, 53, 50, 54, 50, 55, 50, 56, 50, 57, 51, 48, 51, 49, 51, 50, 51, 51, 51, 52, 51, 53, 51, 54, 51, 55, 51, 56, 51, 57, 52, 48, 52, 49, 52, 50, 52, 51, 52, 52, 52, 53, 52, 54, 52, 55, 52, 56, 52, 57, 53, 48, 53, 49, 53, 50, 53, 51, 53, 52, 53, 53, 53, 54, 53, 55, 53, 56, 53, 57, 54, 48, 54, 49, 54, 50, 54, 51, 54, 52, 54, 53, 54, 54, 54, 55, 54, 56, 54, 57, 55, 48, 55, 49, 55, 50, 55, 51, 55, 52, 55, 53, 55, 54, 55, 55, 55, 56, 55, 57, 56, 48, 56, 49, 56, 50, 56, 51, 56, 52, 56, 53, 56, 54, 56, 55, 56, 56, 56, 57, 57, 48, 57, 49, 57, 50, 57, 51, 57, 52, 57, 53, 57, 54, 57, 55, 57, 56, 57, 57])) (some (.t 10)) (some (.t 13)), dst := some 14 },
    { op := .mov (.t 14), dst := some 2 }]
def a98 : ACode := (.seq a98_r0 (.seq (.seq a98_r1 (.cond (.t 4) (.seq a98_r2 .ret) .skip)) (.seq a98_r3 .ret)))
def a98_res : List ARes := [.tmp 2]
theorem a98_ok : Coded Tryd.prog 98 15 a98 a98_res := ⟨Tryd.f98, _, by kernel_rfl, rfl, by kernel_rfl, rfl, by kernel_rfl, by kernel_rfl⟩
theorem a98_of {args : List AV} {Q : AV → Prop} (hl : args.length ≤ 15) (h : AW Tryd.prog 15 a98 (mkS (argT 0 args) [] 0) (retQ a98_res Q)) : ACall Tryd.prog 98 args Q := acall_coded a98_ok hl h
end Go.Proofs.YtcccedmhlennmaaDoor
