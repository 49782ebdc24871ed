/- The abstract code of the functions, checked. -/
import Derived.Test.YtloccbmiojhabaaA2
import Derived.Test.YtloccbmiojhabaaProg
import Derived.KernelRfl

namespace Go.Proofs.Ytloccbmiojhabaa
open Go Go.Amb

/- workflow/workflowlaw40.large -/
def a7_r0 : ACode := .reg [{ op := .box 2 true (.t 0), dst := some 1, k := 0 },
    { op := .mov (.c (.bool false)), dst := some 2 }]
def a7_r1 : ACode := .reg [{ op := .fad 0 (.t 1), dst := some 3 },
    { op := .load 1 false (.t 3), dst := some 4 },
    { op := .len false (.t 4), dst := some 5 },
    { op := .bin .gtr (.t 5) (.c (.int .i64 1001)), dst := some 6 },
    { op := .mov (.t 6), dst := some 2 }]
def a7 : ACode := (.seq a7_r0 (.seq a7_r1 .ret))
def a7_res : List ARes := [.tmp 2]
theorem a7_ok : Coded Try.prog 7 7 a7 a7_res := ⟨Try.f7, _, by kernel_rfl, rfl, by kernel_rfl, rfl, by kernel_rfl, by kernel_rfl⟩
theorem a7_of {args : List AV} {Q : AV → Prop} (hl : args.length ≤ 7) (h : AW Try.prog 7 a7 (mkS (argT 0 args) [] 0) (retQ a7_res Q)) : ACall Try.prog 7 args Q := acall_coded a7_ok hl h

/- workflow/workflowlaw40.works -/
def a8_r0 : ACode := .reg [{ op := .mov (.c (.bool false)), dst := some 0 }]
def a8_r1 : ACode := .reg [{ op := .build [.nils, .int .i64 0] [], dst := some 26 },
    { op := .call 28 [(.c (.int .i64 1)), (.c (.int .i64 0))], dst := some 27 },
    { op := .call 9 [(.t 26), (.t 27)], dst := some 28 },
    { op := .mov (.t 28), dst := some 25 },
    { op := .ext (.t 25) 0, dst := some 29 },
    { op := .ext (.t 25) 1, dst := some 30 },
    { op := .ext (.t 25) 2, dst := some 31 },
    { op := .alloc 2 true [.nils, .int .i64 0], dst := some 1, k := 8 },
    { op := .store 2 true (.t 1) (.t 29), dst := none },
    { op := .mov (.t 30), dst := some 2 },
    { op := .mov (.t 31), dst := some 3 }]
def a8_r2 : ACode := .draw [{ op := .load 2 true (.t 1), dst := some 33 },
    { op := .call 28 [(.c (.int .i64 2)), (.c (.int .i64 0))], dst := some 34 },
    { op := .call 9 [(.t 33), (.t 34)], dst := some 35 },
    { op := .mov (.t 35), dst := some 32 },
    { op := .ext (.t 32) 0, dst := some 36 },
    { op := .ext (.t 32) 1, dst := some 37 },
    { op := .ext (.t 32) 2, dst := some 38 },
    { op := .store 2 true (.t 1) (.t 36), dst := none },
    { op := .mov (.t 37), dst := some 4 },
    { op := .mov (.t 38), dst := some 5 }]
    [(1, [0])]
    (.take 0 (.one 1 (.one 2 (.take 3 (.take 4 (.take 5 (.take 6 (.one 7 (.take 8 (.take 9 (.done)))))))))))
def a8_r3 : ACode := .draw [{ op := .load 2 true (.t 1), dst := some 40 },
    { op := .call 28 [(.c (.int .i64 1)), (.c (.int .i64 0))], dst := some 41 },
    { op := .call 9 [(.t 40), (.t 41)], dst := some 42 },
    { op := .mov (.t 42), dst := some 39 },
    { op := .ext (.t 39) 0, dst := some 43 },
    { op := .ext (.t 39) 1, dst := some 44 },
    { op := .ext (.t 39) 2, dst := some 45 },
    { op := .alloc 2 true [.nils, .int .i64 0], dst := some 6, k := 29 },
    { op := .store 2 true (.t 6) (.t 43), dst := none },
    { op := .mov (.t 44), dst := some 7 },
    { op := .mov (.t 45), dst := some 8 }]
    [(1, [0]), (7, [0])]
    (.take 0 (.two 1 (.two 2 (.take 3 (.take 4 (.take 5 (.take 6 (.one 7 (.one 8 (.take 9 (.take 10 (.done))))))))) 7 (.one 2 (.take 3 (.take 4 (.take 5 (.take 6 (.one 8 (.take 9 (.take 10 (.done)))))))))) 7 (.one 1 (.one 2 (.take 3 (.take 4 (.take 5 (.take 6 (.one 8 (.take 9 (.take 10 (.done))))))))))))
def a8_r4 : ACode := .reg [{ op := .load 2 true (.t 1), dst := some 47 },
    { op := .call 13 [(.t 47), (.c (.str [111, 110, 101])), (.c (.int .i64 0)), (.c (.int .i64 5))], dst := some 48 },
    { op := .mov (.t 48), dst := some 46 },
    { op := .ext (.t 46) 0, dst := some 49 },
    { op := .ext (.t 46) 1, dst := some 50 },
    { op := .ext (.t 46) 2, dst := some 51 },
    { op := .ext (.t 46) 3, dst := some 52 },
    { op := .alloc 13 true [.int .i64 0, .int .i64 0, .int .i64 0, .int .i64 0, .int .i64 0, .int .i64 0, .str [], .str [], .str [], .str [], .int .i64 0, .int .i64 0, .int .i64 0], dst := some 9, k := 40 },
    { op := .store 2 true (.t 1) (.t 49), dst := none },
    { op := .store 13 true (.t 9) (.t 50), dst := none },
    { op := .mov (.t 51), dst := some 10 },
    { op := .mov (.t 52), dst := some 11 }]
def a8_r5 : ACode := .reg [{ op := .load 2 true (.t 1), dst := some 54 },
    { op := .call 13 [(.t 54), (.c (.str [116, 119, 111])), (.c (.int .i64 1)), (.c (.int .i64 5))], dst := some 55 },
    { op := .mov (.t 55), dst := some 53 },
    { op := .ext (.t 53) 0, dst := some 56 },
    { op := .ext (.t 53) 1, dst := some 57 },
    { op := .ext (.t 53) 2, dst := some 58 },
    { op := .ext (.t 53) 3, dst := some 59 },
    { op := .alloc 13 true [.int .i64 0, .int .i64 0, .int .i64 0, .int .i64 0, .int .i64 0, .int .i64 0, .str [], .str [], .str [], .str [], .int .i64 0, .int .i64 0, .int .i64 0], dst := some 12, k := 52 },
    { op := .store 2 true (.t 1) (.t 56), dst := none },
    { op := .store 13 true (.t 12) (.t 57), dst := none },
    { op := .mov (.t 58), dst := some 13 },
    { op := .mov (.t 59), dst := some 14 }]
def a8_r6 : ACode := .reg [{ op := .load 2 true (.t 1), dst := some 61 },
    { op := .call 13 [(.t 61), (.c (.str [116, 119, 111])), (.c (.int .i64 2)), (.c (.int .i64 5))], dst := some 62 },
    { op := .mov (.t 62), dst := some 60 },
    { op := .ext (.t 60) 0, dst := some 63 },
    { op := .ext (.t 60) 1, dst := some 64 },
    { op := .ext (.t 60) 2, dst := some 65 },
    { op := .ext (.t 60) 3, dst := some 66 },
    { op := .alloc 2 true [.nils, .int .i64 0], dst := some 15, k := 64 },
    { op := .alloc 13 true [.int .i64 0, .int .i64 0, .int .i64 0, .int .i64 0, .int .i64 0, .int .i64 0, .str [], .str [], .str [], .str [], .int .i64 0, .int .i64 0, .int .i64 0], dst := some 16, k := 65 },
    { op := .store 2 true (.t 15) (.t 63), dst := none },
    { op := .store 13 true (.t 16) (.t 64), dst := none },
    { op := .mov (.t 65), dst := some 17 },
    { op := .mov (.t 66), dst := some 18 }]
def a8_r7 : ACode := .reg [{ op := .load 2 true (.t 1), dst := some 68 },
    { op := .call 13 [(.t 68), (.c (.str [116, 119, 111])), (.c (.int .i64 5)), (.c (.int .i64 5))], dst := some 69 },
    { op := .mov (.t 69), dst := some 67 },
    { op := .ext (.t 67) 0, dst := some 70 },
    { op := .ext (.t 67) 1, dst := some 71 },
    { op := .ext (.t 67) 2, dst := some 72 },
    { op := .ext (.t 67) 3, dst := some 73 },
    { op := .alloc 13 true [.int .i64 0, .int .i64 0, .int .i64 0, .int .i64 0, .int .i64 0, .int .i64 0, .str [], .str [], .str [], .str [], .int .i64 0, .int .i64 0, .int .i64 0], dst := some 19, k := 77 },
    { op := .store 2 true (.t 1) (.t 70), dst := none },
    { op := .store 13 true (.t 19) (.t 71), dst := none },
    { op := .mov (.t 72), dst := some 20 },
    { op := .mov (.t 73), dst := some 21 }]
def a8_r8 : ACode := .reg [{ op := .load 2 true (.t 1), dst := some 75 },
    { op := .call 18 [(.t 75), (.c (.int .i64 1))], dst := some 76 },
    { op := .mov (.t 76), dst := some 74 },
    { op := .ext (.t 74) 0, dst := some 77 },
    { op := .ext (.t 74) 1, dst := some 78 },
    { op := .alloc 2 true [.nils, .int .i64 0], dst := some 22, k := 87 },
    { op := .store 2 true (.t 22) (.t 77), dst := none },
    { op := .mov (.t 78), dst := some 23 }]
def a8_r9 : ACode := .reg [{ op := .load 2 true (.t 1), dst := some 80 },
    { op := .call 18 [(.t 80), (.c (.int .i64 3))], dst := some 81 },
    { op := .mov (.t 81), dst := some 79 },
    { op := .ext (.t 79) 0, dst := some 82 },
    { op := .ext (.t 79) 1, dst := some 83 },
    { op := .store 2 true (.t 1) (.t 82), dst := none },
    { op := .mov (.t 83), dst := some 24 }]
def a8_r10 : ACode := .reg [{ op := .mov (.t 2), dst := some 84 },
    { op := .mov (.t 84), dst := some 85 },
    { op := .mov (.t 4), dst := some 86, g := some (85, true) },
    { op := .pick (.t 85) (.t 86) (.c (.bool false)), dst := some 87 },
    { op := .mov (.t 87), dst := some 88 },
    { op := .mov (.t 7), dst := some 89, g := some (88, true) },
    { op := .not (.t 89), dst := some 90, g := some (88, true) },
    { op := .pick (.t 88) (.t 90) (.c (.bool false)), dst := some 91 },
    { op := .mov (.t 91), dst := some 92 },
    { op := .mov (.t 3), dst := some 93, g := some (92, true) },
    { op := .mov (.t 5), dst := some 94, g := some (92, true) },
    { op := .bin .add (.t 93) (.t 94), dst := some 95, g := some (92, true) },
    { op := .mov (.t 11), dst := some 96, g := some (92, true) },
    { op := .bin .add (.t 95) (.t 96), dst := some 97, g := some (92, true) },
    { op := .mov (.t 14), dst := some 98, g := some (92, true) },
    { op := .bin .add (.t 97) (.t 98), dst := some 99, g := some (92, true) },
    { op := .mov (.t 21), dst := some 100, g := some (92, true) },
    { op := .bin .add (.t 99) (.t 100), dst := some 101, g := some (92, true) },
    { op := .mov (.t 24), dst := some 102, g := some (92, true) },
    { op := .bin .add (.t 101) (.t 102), dst := some 103, g := some (92, true) },
    { op := .bin .eql (.t 103) (.c (.int .i64 0)), dst := some 104, g := some (92, true) },
    { op := .pick (.t 92) (.t 104) (.c (.bool false)), dst := some 105 },
    { op := .mov (.t 105), dst := some 106 },
    { op := .mov (.t 10), dst := some 107, g := some (106, true) },
    { op := .pick (.t 106) (.t 107) (.c (.bool false)), dst := some 108 },
    { op := .mov (.t 108), dst := some 109 },
    { op := .mov (.t 13), dst := some 110, g := some (109, true) },
    { op := .pick (.t 109) (.t 110) (.c (.bool false)), dst := some 111 },
    { op := .mov (.t 111), dst := some 112 },
    { op := .mov (.t 17), dst := some 113, g := some (112, true) },
    { op := .not (.t 113), dst := some 114, g := some (112, true) },
    { op := .pick (.t 112) (.t 114) (.c (.bool false)), dst := some 115 },
    { op := .mov (.t 115), dst := some 116 },
    { op := .mov (.t 20), dst := some 117, g := some (116, true) },
    { op := .pick (.t 116) (.t 117) (.c (.bool false)), dst := some 118 },
    { op := .mov (.t 118), dst := some 119 },
    { op := .fad 10 (.t 9), dst := some 120, g := some (119, true) },
    { op := .load 1 false (.t 120), dst := some 121, g := some (119, true) },
    { op := .bin .eql (.t 121) (.c (.int .i64 1)), dst := some 122, g := some (119, true) },
    { op := .pick (.t 119) (.t 122) (.c (.bool false)), dst := some 123 },
    { op := .mov (.t 123), dst := some 124 },
    { op := .fad 11 (.t 9), dst := some 125, g := some (124, true) },
    { op := .load 1 false (.t 125), dst := some 126, g := some (124, true) },
    { op := .bin .eql (.t 126) (.c (.int .i64 5)), dst := some 127, g := some (124, true) },
    { op := .pick (.t 124) (.t 127) (.c (.bool false)), dst := some 128 },
    { op := .mov (.t 128), dst := some 129 },
    { op := .fad 0 (.t 12), dst := some 130, g := some (129, true) },
    { op := .fad 0 (.t 130), dst := some 131, g := some (129, true) },
    { op := .load 1 false (.t 131), dst := some 132, g := some (129, true) },
    { op := .bin .eql (.t 132) (.c (.int .i64 2)), dst := some 133, g := some (129, true) },
    { op := .pick (.t 129) (.t 133) (.c (.bool false)), dst := some 134 },
    { op := .mov (.t 134), dst := some 135 },
    { op := .fad 0 (.t 19), dst := some 136, g := some (135, true) },
    { op := .fad 0 (.t 136), dst := some 137, g := some (135, true) },
    { op := .load 1 false (.t 137), dst := some 138, g := some (135, true) },
    { op := .bin .eql (.t 138) (.c (.int .i64 1)), dst := some 139, g := some (135, true) },
    { op := .pick (.t 135) (.t 139) (.c (.bool false)), dst := some 140 },
    { op := .mov (.t 140), dst := some 141 },
    { op := .fad 10 (.t 19), dst := some 142, g := some (141, true) },
    { op := .load 1 false (.t 142), dst := some 143, g := some (141, true) },
    { op := .bin .eql (.t 143) (.c (.int .i64 3)), dst := some 144, g := some (141, true) },
    { op := .pick (.t 141) (.t 144) (.c (.bool false)), dst := some 145 },
    { op := .mov (.t 145), dst := some 146 },
    { op := .fad 12 (.t 19), dst := some 147, g := some (146, true) },
    { op := .load 1 false (.t 147), dst := some 148, g := some (146, true) },
    { op := .bin .eql (.t 148) (.c (.int .i64 2)), dst := some 149, g := some (146, true) },
    { op := .pick (.t 146) (.t 149) (.c (.bool false)), dst := some 150 },
    { op := .mov (.t 150), dst := some 151 },
    { op := .mov (.t 23), dst := some 152, g := some (151, true) },
    { op := .bin .eql (.t 152) (.c (.int .i64 24)), dst := some 153, g := some (151, true) },
    { op := .pick (.t 151) (.t 153) (.c (.bool false)), dst := some 154 },
    { op := .mov (.t 154), dst := some 155 },
    { op := .fad 0 (.t 1), dst := some 156, g := some (155, true) },
    { op := .load 1 false (.t 156), dst := some 157, g := some (155, true) },
    { op := .len false (.t 157), dst := some 158, g := some (155, true) },
    { op := .bin .eql (.t 158) (.c (.int .i64 1)), dst := some 159, g := some (155, true) },
    { op := .pick (.t 155) (.t 159) (.c (.bool false)), dst := some 160 },
    { op := .mov (.t 160), dst := some 0 }]
def a8 : ACode := (.seq a8_r0 (.seq a8_r1 (.seq a8_r2 (.seq a8_r3 (.seq a8_r4 (.seq a8_r5 (.seq a8_r6 (.seq a8_r7 (.seq a8_r8 (.seq a8_r9 (.seq a8_r10 .ret)))))))))))
def a8_res : List ARes := [.tmp 0]
theorem a8_ok : Coded Try.prog 8 161 a8 a8_res := ⟨Try.f8, _, by kernel_rfl, rfl, by kernel_rfl, rfl, by kernel_rfl, by kernel_rfl⟩
theorem a8_of {args : List AV} {Q : AV → Prop} (hl : args.length ≤ 161) (h : AW Try.prog 161 a8 (mkS (argT 0 args) [] 0) (retQ a8_res Q)) : ACall Try.prog 8 args Q := acall_coded a8_ok hl h

/- workflow/taskqueue.Add -/
def a9_r0 : ACode := .reg [{ op := .box 2 true (.t 0), dst := some 2, k := 0 },
    { op := .box 9 true (.t 1), dst := some 3, k := 1 },
    { op := .alloc 2 true [.nils, .int .i64 0], dst := some 4, k := 2 },
    { op := .mov (.c (.bool false)), dst := some 5 },
    { op := .mov (.c (.int .i64 0)), dst := some 6 }]
def a9_r1 : ACode := .reg [{ op := .fad 6 (.t 3), dst := some 9 },
    { op := .load 1 false (.t 9), dst := some 10 },
    { op := .bin .eql (.t 10) (.c (.str [])), dst := some 11 },
    { op := .mov (.t 11), dst := some 12 },
    { op := .fad 7 (.t 3), dst := some 13, g := some (12, false) },
    { op := .load 1 false (.t 13), dst := some 14, g := some (12, false) },
    { op := .bin .eql (.t 14) (.c (.str [])), dst := some 15, g := some (12, false) },
    { op := .pick (.t 12) (.c (.bool true)) (.t 15), dst := some 16 },
    { op := .mov (.t 16), dst := some 17 },
    { op := .fad 0 (.t 3), dst := some 18, g := some (17, false) },
    { op := .load 1 false (.t 18), dst := some 19, g := some (17, false) },
    { op := .bin .lss (.t 19) (.c (.int .i64 1)), dst := some 20, g := some (17, false) },
    { op := .pick (.t 17) (.c (.bool true)) (.t 20), dst := some 21 }]
def a9_r2 : ACode := .reg [{ op := .build [.nils, .int .i64 0] [], dst := some 22 },
    { op := .store 2 true (.t 4) (.t 22), dst := none },
    { op := .mov (.c (.bool false)), dst := some 5 },
    { op := .mov (.c (.int .i64 2)), dst := some 6 }]
def a9_r3 : ACode := .reg [{ op := .fad 0 (.t 2), dst := some 23 },
    { op := .load 1 false (.t 23), dst := some 24 },
    { op := .len false (.t 24), dst := some 25 },
    { op := .mov (.c (.int .i64 0)), dst := some 26 }]
def a9_r4 : ACode := .reg [{ op := .bin .lss (.t 26) (.t 25), dst := some 27 }]
def a9_r5 : ACode := .reg [{ op := .iad 13 (.t 24) (.t 26), dst := some 28 },
    { op := .load 13 true (.t 28), dst := some 29 },
    { op := .alloc 13 true [.int .i64 0, .int .i64 0, .int .i64 0, .int .i64 0, .int .i64 0, .int .i64 0, .str [], .str [], .str [], .str [], .int .i64 0, .int .i64 0, .int .i64 0], dst := some 8, k := 29 },
    { op := .store 13 true (.t 8) (.t 29), dst := none }]
def a9_r6 : ACode := .draw [{ op := .fad 0 (.t 8), dst := some 30 },
    { op := .load 9 true (.t 30), dst := some 31 },
    { op := .call 29 [(.t 31)], dst := some 32 },
    { op := .load 9 true (.t 3), dst := some 33 },
    { op := .call 29 [(.t 33)], dst := some 34 },
    { op := .eqs false [.s, .s, .i .i64] (.t 32) (.t 34), dst := some 35 }]
    [(2, [3])]
    (.take 0 (.take 1 (.take 3 (.one 2 (.one 4 (.take 5 (.done)))))))
def a9_r7 : ACode := .reg [{ op := .load 2 true (.t 2), dst := some 36 },
    { op := .call 30 [(.t 36)], dst := some 37 },
    { op := .store 2 true (.t 4) (.t 37), dst := none },
    { op := .mov (.c (.bool false)), dst := some 5 },
    { op := .mov (.c (.int .i64 0)), dst := some 6 }]
def a9_r8 : ACode := .reg [{ op := .bin .add (.t 26) (.c (.int .i64 1)), dst := some 38 },
    { op := .mov (.t 38), dst := some 26 }]
def a9_l0 : ACode := (.seq a9_r4 (.seq (.cond (.t 27) .skip (.exit 0)) (.seq (.block 1 (.seq a9_r5 (.seq a9_r6 (.cond (.t 35) (.seq a9_r7 .ret) .skip)))) a9_r8)))
def a9_r9 : ACode := .reg [{ op := .fad 0 (.t 2), dst := some 39 },
    { op := .load 1 false (.t 39), dst := some 40 },
    { op := .len false (.t 40), dst := some 41 },
    { op := .bin .geq (.t 41) (.c (.int .i64 1000)), dst := some 42 }]
def a9_r10 : ACode := .reg [{ op := .build [.nils, .int .i64 0] [], dst := some 43 },
    { op := .store 2 true (.t 4) (.t 43), dst := none },
    { op := .mov (.c (.bool false)), dst := some 5 },
    { op := .mov (.c (.int .i64 18)), dst := some 6 }]
def a9_r11 : ACode := .reg [{ op := .load 2 true (.t 2), dst := some 44 },
    { op := .call 30 [(.t 44)], dst := some 45 },
    { op := .store 2 true (.t 2) (.t 45), dst := none }]
def a9_r12 : ACode := .reg [{ op := .fad 0 (.t 2), dst := some 46 },
    { op := .load 1 false (.t 46), dst := some 47 },
    { op := .load 9 true (.t 3), dst := some 48 },
    { op := .build [.int .i64 0, .int .i64 0, .int .i64 0, .int .i64 0, .int .i64 0, .int .i64 0, .str [], .str [], .str [], .str [], .int .i64 0, .int .i64 0, .int .i64 0] [(0, 9, (.t 48))], dst := some 49 },
    { op := .bsl 13 true 1 [.int .i64 0, .int .i64 0, .int .i64 0, .int .i64 0, .int .i64 0, .int .i64 0, .str [], .str [], .str [], .str [], .int .i64 0, .int .i64 0, .int .i64 0] [(0, (.t 49))], dst := some 50 },
    { op := .app 13 136 (.t 47) (.t 50), dst := some 51, k := 60 },
    { op := .fad 0 (.t 2), dst := some 52 },
    { op := .store 1 false (.t 52) (.t 51), dst := none }]
def a9_r13 : ACode := .reg [{ op := .load 2 true (.t 2), dst := some 53 },
    { op := .store 2 true (.t 4) (.t 53), dst := none },
    { op := .mov (.c (.bool true)), dst := some 5 },
    { op := .mov (.c (.int .i64 0)), dst := some 6 }]
def a9 : ACode := (.seq a9_r0 (.seq (.seq a9_r1 (.cond (.t 21) (.seq a9_r2 .ret) .skip)) (.seq (.seq a9_r3 (.block 0 (.loop a9_l0))) (.seq (.seq a9_r9 (.cond (.t 42) (.seq a9_r10 .ret) .skip)) (.seq a9_r11 (.seq a9_r12 (.seq a9_r13 .ret)))))))
def a9_res : List ARes := [.cell 4 2 true, .tmp 5, .tmp 6]
theorem a9_ok : Coded Try.prog 9 54 a9 a9_res := ⟨Try.f9, _, by kernel_rfl, rfl, by kernel_rfl, rfl, by kernel_rfl, by kernel_rfl⟩
theorem a9_of {args : List AV} {Q : AV → Prop} (hl : args.length ≤ 54) (h : AW Try.prog 54 a9 (mkS (argT 0 args) [] 0) (retQ a9_res Q)) : ACall Try.prog 9 args Q := acall_coded a9_ok hl h

/- workflow/workflowref40.Add -/
def a10_r0 : ACode := .reg [{ op := .box 2 true (.t 0), dst := some 2, k := 0 },
    { op := .box 9 true (.t 1), dst := some 3, k := 1 },
    { op := .alloc 2 true [.nils, .int .i64 0], dst := some 4, k := 2 },
    { op := .mov (.c (.bool false)), dst := some 5 },
    { op := .mov (.c (.int .i64 0)), dst := some 6 }]
def a10_r1 : ACode := .reg [{ op := .fad 6 (.t 3), dst := some 10 },
    { op := .load 1 false (.t 10), dst := some 11 },
    { op := .bin .eql (.t 11) (.c (.str [])), dst := some 12 },
    { op := .mov (.t 12), dst := some 13 },
    { op := .fad 7 (.t 3), dst := some 14, g := some (13, false) },
    { op := .load 1 false (.t 14), dst := some 15, g := some (13, false) },
    { op := .bin .eql (.t 15) (.c (.str [])), dst := some 16, g := some (13, false) },
    { op := .pick (.t 13) (.c (.bool true)) (.t 16), dst := some 17 },
    { op := .mov (.t 17), dst := some 18 },
    { op := .fad 0 (.t 3), dst := some 19, g := some (18, false) },
    { op := .load 1 false (.t 19), dst := some 20, g := some (18, false) },
    { op := .bin .lss (.t 20) (.c (.int .i64 1)), dst := some 21, g := some (18, false) },
    { op := .pick (.t 18) (.c (.bool true)) (.t 21), dst := some 22 }]
def a10_r2 : ACode := .reg [{ op := .build [.nils, .int .i64 0] [], dst := some 23 },
    { op := .store 2 true (.t 4) (.t 23), dst := none },
    { op := .mov (.c (.bool false)), dst := some 5 },
    { op := .mov (.c (.int .i64 2)), dst := some 6 }]
def a10_r3 : ACode := .reg [{ op := .fad 0 (.t 2), dst := some 24 },
    { op := .load 1 false (.t 24), dst := some 25 },
    { op := .len false (.t 25), dst := some 26 },
    { op := .mov (.c (.int .i64 0)), dst := some 27 }]
def a10_r4 : ACode := .reg [{ op := .bin .lss (.t 27) (.t 26), dst := some 28 }]
def a10_r5 : ACode := .reg [{ op := .iad 13 (.t 25) (.t 27), dst := some 29 },
    { op := .load 13 true (.t 29), dst := some 30 },
    { op := .alloc 13 true [.int .i64 0, .int .i64 0, .int .i64 0, .int .i64 0, .int .i64 0, .int .i64 0, .str [], .str [], .str [], .str [], .int .i64 0, .int .i64 0, .int .i64 0], dst := some 8, k := 29 },
    { op := .store 13 true (.t 8) (.t 30), dst := none }]
def a10_r6 : ACode := .reg [{ op := .fad 0 (.t 8), dst := some 31 },
    { op := .fad 6 (.t 31), dst := some 32 },
    { op := .load 1 false (.t 32), dst := some 33 },
    { op := .fad 6 (.t 3), dst := some 34 },
    { op := .load 1 false (.t 34), dst := some 35 },
    { op := .bin .eql (.t 33) (.t 35), dst := some 36 },
    { op := .mov (.t 36), dst := some 37 },
    { op := .fad 0 (.t 8), dst := some 38, g := some (37, true) },
    { op := .fad 7 (.t 38), dst := some 39, g := some (37, true) },
    { op := .load 1 false (.t 39), dst := some 40, g := some (37, true) },
    { op := .fad 7 (.t 3), dst := some 41, g := some (37, true) },
    { op := .load 1 false (.t 41), dst := some 42, g := some (37, true) },
    { op := .bin .eql (.t 40) (.t 42), dst := some 43, g := some (37, true) },
    { op := .pick (.t 37) (.t 43) (.c (.bool false)), dst := some 44 },
    { op := .mov (.t 44), dst := some 45 },
    { op := .fad 0 (.t 8), dst := some 46, g := some (45, true) },
    { op := .fad 0 (.t 46), dst := some 47, g := some (45, true) },
    { op := .load 1 false (.t 47), dst := some 48, g := some (45, true) },
    { op := .fad 0 (.t 3), dst := some 49, g := some (45, true) },
    { op := .load 1 false (.t 49), dst := some 50, g := some (45, true) },
    { op := .bin .eql (.t 48) (.t 50), dst := some 51, g := some (45, true) },
    { op := .pick (.t 45) (.t 51) (.c (.bool false)), dst := some 52 }]
def a10_r7 : ACode := .reg [{ op := .load 2 true (.t 2), dst := some 53 },
    { op := .call 31 [(.t 53)], dst := some 54 },
    { op := .store 2 true (.t 4) (.t 54), dst := none },
    { op := .mov (.c (.bool false)), dst := some 5 },
    { op := .mov (.c (.int .i64 0)), dst := some 6 }]
def a10_r8 : ACode := .reg [{ op := .bin .add (.t 27) (.c (.int .i64 1)), dst := some 55 },
    { op := .mov (.t 55), dst := some 27 }]
def a10_l0 : ACode := (.seq a10_r4 (.seq (.cond (.t 28) .skip (.exit 0)) (.seq (.block 1 (.seq a10_r5 (.seq a10_r6 (.cond (.t 52) (.seq a10_r7 .ret) .skip)))) a10_r8)))
def a10_r9 : ACode := .reg [{ op := .fad 0 (.t 2), dst := some 56 },
    { op := .load 1 false (.t 56), dst := some 57 },
    { op := .len false (.t 57), dst := some 58 },
    { op := .bin .geq (.t 58) (.c (.int .i64 1000)), dst := some 59 }]
def a10_r10 : ACode := .reg [{ op := .build [.nils, .int .i64 0] [], dst := some 60 },
    { op := .store 2 true (.t 4) (.t 60), dst := none },
    { op := .mov (.c (.bool false)), dst := some 5 },
    { op := .mov (.c (.int .i64 18)), dst := some 6 }]
def a10_r11 : ACode := .reg [{ op := .load 2 true (.t 2), dst := some 61 },
    { op := .call 31 [(.t 61)], dst := some 62 },
    { op := .alloc 2 true [.nils, .int .i64 0], dst := some 9, k := 70 },
    { op := .store 2 true (.t 9) (.t 62), dst := none }]
def a10_r12 : ACode := .reg [{ op := .fad 0 (.t 9), dst := some 63 },
    { op := .load 1 false (.t 63), dst := some 64 },
    { op := .load 9 true (.t 3), dst := some 65 },
    { op := .build [.int .i64 0, .int .i64 0, .int .i64 0, .int .i64 0, .int .i64 0, .int .i64 0, .str [], .str [], .str [], .str [], .int .i64 0, .int .i64 0, .int .i64 0] [(0, 9, (.t 65))], dst := some 66 },
    { op := .bsl 13 true 1 [.int .i64 0, .int .i64 0, .int .i64 0, .int .i64 0, .int .i64 0, .int .i64 0, .str [], .str [], .str [], .str [], .int .i64 0, .int .i64 0, .int .i64 0] [(0, (.t 66))], dst := some 67 },
    { op := .app 13 136 (.t 64) (.t 67), dst := some 68, k := 77 },
    { op := .fad 0 (.t 9), dst := some 69 },
    { op := .store 1 false (.t 69) (.t 68), dst := none }]
def a10_r13 : ACode := .reg [{ op := .load 2 true (.t 9), dst := some 70 },
    { op := .store 2 true (.t 4) (.t 70), dst := none },
    { op := .mov (.c (.bool true)), dst := some 5 },
    { op := .mov (.c (.int .i64 0)), dst := some 6 }]
def a10 : ACode := (.seq a10_r0 (.seq (.seq a10_r1 (.cond (.t 22) (.seq a10_r2 .ret) .skip)) (.seq (.seq a10_r3 (.block 0 (.loop a10_l0))) (.seq (.seq a10_r9 (.cond (.t 59) (.seq a10_r10 .ret) .skip)) (.seq a10_r11 (.seq a10_r12 (.seq a10_r13 .ret)))))))
def a10_res : List ARes := [.cell 4 2 true, .tmp 5, .tmp 6]
theorem a10_ok : Coded Try.prog 10 71 a10 a10_res := ⟨Try.f10, _, by kernel_rfl, rfl, by kernel_rfl, rfl, by kernel_rfl, by kernel_rfl⟩
theorem a10_of {args : List AV} {Q : AV → Prop} (hl : args.length ≤ 71) (h : AW Try.prog 71 a10 (mkS (argT 0 args) [] 0) (retQ a10_res Q)) : ACall Try.prog 10 args Q := acall_coded a10_ok hl h

/- workflow/workflowlaw40.plain -/
def a11_r0 : ACode := .reg [{ op := .box 2 true (.t 0), dst := some 1, k := 0 },
    { op := .alloc 2 true [.nils, .int .i64 0], dst := some 2, k := 1 }]
def a11_r1 : ACode := .reg [{ op := .fad 1 (.t 1), dst := some 6 },
    { op := .load 1 false (.t 6), dst := some 7 },
    { op := .build [.nils, .int .i64 0] [(1, 1, (.t 7))], dst := some 8 },
    { op := .alloc 2 true [.nils, .int .i64 0], dst := some 3, k := 5 },
    { op := .store 2 true (.t 3) (.t 8), dst := none }]
def a11_r2 : ACode := .reg [{ op := .fad 0 (.t 1), dst := some 9 },
    { op := .load 1 false (.t 9), dst := some 10 },
    { op := .len false (.t 10), dst := some 11 },
    { op := .mov (.c (.int .i64 0)), dst := some 12 }]
def a11_r3 : ACode := .reg [{ op := .bin .lss (.t 12) (.t 11), dst := some 13 }]
def a11_r4 : ACode := .reg [{ op := .iad 13 (.t 10) (.t 12), dst := some 14 },
    { op := .load 13 true (.t 14), dst := some 15 },
    { op := .alloc 13 true [.int .i64 0, .int .i64 0, .int .i64 0, .int .i64 0, .int .i64 0, .int .i64 0, .str [], .str [], .str [], .str [], .int .i64 0, .int .i64 0, .int .i64 0], dst := some 5, k := 14 },
    { op := .store 13 true (.t 5) (.t 15), dst := none }]
def a11_r5 : ACode := .reg [{ op := .fad 0 (.t 3), dst := some 16 },
    { op := .load 1 false (.t 16), dst := some 17 },
    { op := .fad 0 (.t 5), dst := some 18 },
    { op := .load 9 true (.t 18), dst := some 19 },
    { op := .fad 9 (.t 5), dst := some 20 },
    { op := .load 1 false (.t 20), dst := some 21 },
    { op := .fad 10 (.t 5), dst := some 22 },
    { op := .load 1 false (.t 22), dst := some 23 },
    { op := .fad 11 (.t 5), dst := some 24 },
    { op := .load 1 false (.t 24), dst := some 25 },
    { op := .fad 12 (.t 5), dst := some 26 },
    { op := .load 1 false (.t 26), dst := some 27 },
    { op := .build [.int .i64 0, .int .i64 0, .int .i64 0, .int .i64 0, .int .i64 0, .int .i64 0, .str [], .str [], .str [], .str [], .int .i64 0, .int .i64 0, .int .i64 0] [(0, 9, (.t 19)), (9, 1, (.t 21)), (10, 1, (.t 23)), (11, 1, (.t 25)), (12, 1, (.t 27))], dst := some 28 },
    { op := .bsl 13 true 1 [.int .i64 0, .int .i64 0, .int .i64 0, .int .i64 0, .int .i64 0, .int .i64 0, .str [], .str [], .str [], .str [], .int .i64 0, .int .i64 0, .int .i64 0] [(0, (.t 28))], dst := some 29 },
    { op := .app 13 136 (.t 17) (.t 29), dst := some 30, k := 30 },
    { op := .fad 0 (.t 3), dst := some 31 },
    { op := .store 1 false (.t 31) (.t 30), dst := none }]
def a11_r6 : ACode := .reg [{ op := .bin .add (.t 12) (.c (.int .i64 1)), dst := some 32 },
    { op := .mov (.t 32), dst := some 12 }]
def a11_l0 : ACode := (.seq a11_r3 (.seq (.cond (.t 13) .skip (.exit 0)) (.seq (.block 1 (.seq a11_r4 a11_r5)) a11_r6)))
def a11_r7 : ACode := .reg [{ op := .load 2 true (.t 3), dst := some 33 },
    { op := .store 2 true (.t 2) (.t 33), dst := none }]
def a11 : ACode := (.seq a11_r0 (.seq a11_r1 (.seq (.seq a11_r2 (.block 0 (.loop a11_l0))) (.seq a11_r7 .ret))))
def a11_res : List ARes := [.cell 2 2 true]
theorem a11_ok : Coded Try.prog 11 34 a11 a11_res := ⟨Try.f11, _, by kernel_rfl, rfl, by kernel_rfl, rfl, by kernel_rfl, by kernel_rfl⟩
theorem a11_of {args : List AV} {Q : AV → Prop} (hl : args.length ≤ 34) (h : AW Try.prog 34 a11 (mkS (argT 0 args) [] 0) (retQ a11_res Q)) : ACall Try.prog 11 args Q := acall_coded a11_ok hl h

/- workflow/workflowlaw40.same -/
def a12_r0 : ACode := .reg [{ op := .box 2 true (.t 0), dst := some 2, k := 0 },
    { op := .box 2 true (.t 1), dst := some 3, k := 1 },
    { op := .mov (.c (.bool false)), dst := some 4 }]
def a12_r1 : ACode := .draw [{ op := .fad 1 (.t 2), dst := some 5 },
    { op := .load 1 false (.t 5), dst := some 6 },
    { op := .fad 1 (.t 3), dst := some 7 },
    { op := .load 1 false (.t 7), dst := some 8 },
    { op := .bin .eql (.t 6) (.t 8), dst := some 9 },
    { op := .mov (.t 9), dst := some 10 },
    { op := .load 2 true (.t 2), dst := some 11, g := some (10, true) },
    { op := .call 11 [(.t 11)], dst := some 12, g := some (10, true) },
    { op := .fld 0 1 false (.t 12), dst := some 13, g := some (10, true) },
    { op := .fad 0 (.t 3), dst := some 14, g := some (10, true) },
    { op := .load 1 false (.t 14), dst := some 15, g := some (10, true) },
    { op := .call 32 [(.t 13), (.t 15)], dst := some 16, g := some (10, true) },
    { op := .pick (.t 10) (.t 16) (.c (.bool false)), dst := some 17 },
    { op := .mov (.t 17), dst := some 4 }]
    [(7, [10])]
    (.take 0 (.take 1 (.take 2 (.take 3 (.take 4 (.take 5 (.take 6 (.take 9 (.take 10 (.one 7 (.take 8 (.one 11 (.take 12 (.take 13 (.done)))))))))))))))
def a12 : ACode := (.seq a12_r0 (.seq a12_r1 .ret))
def a12_res : List ARes := [.tmp 4]
theorem a12_ok : Coded Try.prog 12 18 a12 a12_res := ⟨Try.f12, _, by kernel_rfl, rfl, by kernel_rfl, rfl, by kernel_rfl, by kernel_rfl⟩
theorem a12_of {args : List AV} {Q : AV → Prop} (hl : args.length ≤ 18) (h : AW Try.prog 18 a12 (mkS (argT 0 args) [] 0) (retQ a12_res Q)) : ACall Try.prog 12 args Q := acall_coded a12_ok hl h

/- workflow/taskqueue.Poll -/
def a13_r0 : ACode := .reg [{ op := .box 2 true (.t 0), dst := some 4, k := 0 },
    { op := .box 1 false (.t 2), dst := some 6, k := 1 },
    { op := .alloc 2 true [.nils, .int .i64 0], dst := some 8, k := 2 },
    { op := .alloc 13 true [.int .i64 0, .int .i64 0, .int .i64 0, .int .i64 0, .int .i64 0, .int .i64 0, .str [], .str [], .str [], .str [], .int .i64 0, .int .i64 0, .int .i64 0], dst := some 9, k := 3 },
    { op := .mov (.c (.bool false)), dst := some 10 },
    { op := .mov (.c (.int .i64 0)), dst := some 11 }]
def a13_r1 : ACode := .reg [{ op := .mov (.t 1), dst := some 14 },
    { op := .bin .eql (.t 14) (.c (.str [])), dst := some 15 },
    { op := .mov (.t 15), dst := some 16 },
    { op := .load 1 false (.t 6), dst := some 17, g := some (16, false) },
    { op := .mov (.t 3), dst := some 18, g := some (16, false) },
    { op := .call 33 [(.t 17), (.t 18)], dst := some 19, g := some (16, false) },
    { op := .not (.t 19), dst := some 20, g := some (16, false) },
    { op := .pick (.t 16) (.c (.bool true)) (.t 20), dst := some 21 }]
def a13_r2 : ACode := .reg [{ op := .build [.nils, .int .i64 0] [], dst := some 22 },
    { op := .build [.int .i64 0, .int .i64 0, .int .i64 0, .int .i64 0, .int .i64 0, .int .i64 0, .str [], .str [], .str [], .str [], .int .i64 0, .int .i64 0, .int .i64 0] [], dst := some 23 },
    { op := .store 2 true (.t 8) (.t 22), dst := none },
    { op := .store 13 true (.t 9) (.t 23), dst := none },
    { op := .mov (.c (.bool false)), dst := some 10 },
    { op := .mov (.c (.int .i64 2)), dst := some 11 }]
def a13_r3 : ACode := .reg [{ op := .fad 0 (.t 4), dst := some 24 },
    { op := .load 1 false (.t 24), dst := some 25 },
    { op := .mkf 35 [(.t 6)], dst := some 26 },
    { op := .call 34 [(.t 25), (.t 26)], dst := some 27 },
    { op := .mov (.t 27), dst := some 12 }]
def a13_r4 : ACode := .reg [{ op := .mov (.t 12), dst := some 28 },
    { op := .bin .lss (.t 28) (.c (.int .i64 0)), dst := some 29 }]
def a13_r5 : ACode := .reg [{ op := .load 2 true (.t 4), dst := some 30 },
    { op := .call 30 [(.t 30)], dst := some 31 },
    { op := .build [.int .i64 0, .int .i64 0, .int .i64 0, .int .i64 0, .int .i64 0, .int .i64 0, .str [], .str [], .str [], .str [], .int .i64 0, .int .i64 0, .int .i64 0] [], dst := some 32 },
    { op := .store 2 true (.t 8) (.t 31), dst := none },
    { op := .store 13 true (.t 9) (.t 32), dst := none },
    { op := .mov (.c (.bool false)), dst := some 10 },
    { op := .mov (.c (.int .i64 0)), dst := some 11 }]
def a13_r6 : ACode := .reg [{ op := .fad 1 (.t 4), dst := some 33 },
    { op := .load 1 false (.t 33), dst := some 34 },
    { op := .bin .geq (.t 34) (.c (.int .i64 4611686018427387904)), dst := some 35 }]
def a13_r7 : ACode := .reg [{ op := .build [.nils, .int .i64 0] [], dst := some 36 },
    { op := .build [.int .i64 0, .int .i64 0, .int .i64 0, .int .i64 0, .int .i64 0, .int .i64 0, .str [], .str [], .str [], .str [], .int .i64 0, .int .i64 0, .int .i64 0] [], dst := some 37 },
    { op := .store 2 true (.t 8) (.t 36), dst := none },
    { op := .store 13 true (.t 9) (.t 37), dst := none },
    { op := .mov (.c (.bool false)), dst := some 10 },
    { op := .mov (.c (.int .i64 19)), dst := some 11 }]
def a13_r8 : ACode := .reg [{ op := .load 2 true (.t 4), dst := some 38 },
    { op := .call 30 [(.t 38)], dst := some 39 },
    { op := .store 2 true (.t 4) (.t 39), dst := none }]
def a13_r9 : ACode := .reg [{ op := .fad 1 (.t 4), dst := some 40 },
    { op := .load 1 false (.t 40), dst := some 41 },
    { op := .bin .add (.t 41) (.c (.int .i64 1)), dst := some 42 },
    { op := .fad 1 (.t 4), dst := some 43 },
    { op := .store 1 false (.t 43) (.t 42), dst := none }]
def a13_r10 : ACode := .reg [{ op := .fad 0 (.t 4), dst := some 44 },
    { op := .load 1 false (.t 44), dst := some 45 },
    { op := .mov (.t 12), dst := some 46 },
    { op := .iad 13 (.t 45) (.t 46), dst := some 47 },
    { op := .mov (.t 47), dst := some 13 }]
def a13_r11 : ACode := .reg [{ op := .mov (.t 13), dst := some 48 },
    { op := .mov (.t 1), dst := some 49 },
    { op := .nilc (.t 48), dst := some 50 },
    { op := .fad 9 (.t 50), dst := some 51 },
    { op := .store 1 false (.t 51) (.t 49), dst := none }]
def a13_r12 : ACode := .reg [{ op := .mov (.t 13), dst := some 52 },
    { op := .fad 1 (.t 4), dst := some 53 },
    { op := .load 1 false (.t 53), dst := some 54 },
    { op := .nilc (.t 52), dst := some 55 },
    { op := .fad 10 (.t 55), dst := some 56 },
    { op := .store 1 false (.t 56) (.t 54), dst := none }]
def a13_r13 : ACode := .reg [{ op := .mov (.t 13), dst := some 57 },
    { op := .load 1 false (.t 6), dst := some 58 },
    { op := .mov (.t 3), dst := some 59 },
    { op := .bin .add (.t 58) (.t 59), dst := some 60 },
    { op := .nilc (.t 57), dst := some 61 },
    { op := .fad 11 (.t 61), dst := some 62 },
    { op := .store 1 false (.t 62) (.t 60), dst := none }]
def a13_r14 : ACode := .reg [{ op := .mov (.t 13), dst := some 63 },
    { op := .nilc (.t 63), dst := some 64 },
    { op := .fad 12 (.t 64), dst := some 65 },
    { op := .load 1 false (.t 65), dst := some 66 },
    { op := .bin .add (.t 66) (.c (.int .i64 1)), dst := some 67 },
    { op := .nilc (.t 63), dst := some 68 },
    { op := .fad 12 (.t 68), dst := some 69 },
    { op := .store 1 false (.t 69) (.t 67), dst := none }]
def a13_r15 : ACode := .draw [{ op := .load 2 true (.t 4), dst := some 70 },
    { op := .mov (.t 13), dst := some 71 },
    { op := .nilc (.t 71), dst := some 72 },
    { op := .load 13 true (.t 72), dst := some 73 },
    { op := .store 2 true (.t 8) (.t 70), dst := none },
    { op := .store 13 true (.t 9) (.t 73), dst := none },
    { op := .mov (.c (.bool true)), dst := some 10 },
    { op := .mov (.c (.int .i64 0)), dst := some 11 }]
    [(4, [3])]
    (.take 0 (.take 1 (.take 2 (.take 3 (.one 4 (.one 5 (.take 6 (.take 7 (.done)))))))))
def a13 : ACode := (.seq a13_r0 (.seq (.seq a13_r1 (.cond (.t 21) (.seq a13_r2 .ret) .skip)) (.seq a13_r3 (.seq (.seq a13_r4 (.cond (.t 29) (.seq a13_r5 .ret) .skip)) (.seq (.seq a13_r6 (.cond (.t 35) (.seq a13_r7 .ret) .skip)) (.seq a13_r8 (.seq a13_r9 (.seq a13_r10 (.seq a13_r11 (.seq a13_r12 (.seq a13_r13 (.seq a13_r14 (.seq a13_r15 .ret)))))))))))))
def a13_res : List ARes := [.cell 8 2 true, .cell 9 13 true, .tmp 10, .tmp 11]
theorem a13_ok : Coded Try.prog 13 74 a13 a13_res := ⟨Try.f13, _, by kernel_rfl, rfl, by kernel_rfl, rfl, by kernel_rfl, by kernel_rfl⟩
theorem a13_of {args : List AV} {Q : AV → Prop} (hl : args.length ≤ 74) (h : AW Try.prog 74 a13 (mkS (argT 0 args) [] 0) (retQ a13_res Q)) : ACall Try.prog 13 args Q := acall_coded a13_ok hl h

/- workflow/workflowref40.Poll -/
def a14_r0 : ACode := .reg [{ op := .box 2 true (.t 0), dst := some 4, k := 0 },
    { op := .alloc 2 true [.nils, .int .i64 0], dst := some 8, k := 1 },
    { op := .alloc 13 true [.int .i64 0, .int .i64 0, .int .i64 0, .int .i64 0, .int .i64 0, .int .i64 0, .str [], .str [], .str [], .str [], .int .i64 0, .int .i64 0, .int .i64 0], dst := some 9, k := 2 },
    { op := .mov (.c (.bool false)), dst := some 10 },
    { op := .mov (.c (.int .i64 0)), dst := some 11 }]
def a14_r1 : ACode := .reg [{ op := .mov (.t 1), dst := some 15 },
    { op := .bin .eql (.t 15) (.c (.str [])), dst := some 16 },
    { op := .mov (.t 16), dst := some 17 },
    { op := .mov (.t 2), dst := some 18, g := some (17, false) },
    { op := .mov (.t 3), dst := some 19, g := some (17, false) },
    { op := .call 37 [(.t 18), (.t 19)], dst := some 20, g := some (17, false) },
    { op := .bin .neq (.t 20) (.c (.int .i64 0)), dst := some 21, g := some (17, false) },
    { op := .pick (.t 17) (.c (.bool true)) (.t 21), dst := some 22 }]
def a14_r2 : ACode := .reg [{ op := .build [.nils, .int .i64 0] [], dst := some 23 },
    { op := .build [.int .i64 0, .int .i64 0, .int .i64 0, .int .i64 0, .int .i64 0, .int .i64 0, .str [], .str [], .str [], .str [], .int .i64 0, .int .i64 0, .int .i64 0] [], dst := some 24 },
    { op := .store 2 true (.t 8) (.t 23), dst := none },
    { op := .store 13 true (.t 9) (.t 24), dst := none },
    { op := .mov (.c (.bool false)), dst := some 10 },
    { op := .mov (.c (.int .i64 2)), dst := some 11 }]
def a14_r3 : ACode := .reg [{ op := .fad 0 (.t 4), dst := some 25 },
    { op := .load 1 false (.t 25), dst := some 26 },
    { op := .len false (.t 26), dst := some 27 },
    { op := .mov (.c (.int .i64 0)), dst := some 28 }]
def a14_r4 : ACode := .reg [{ op := .bin .lss (.t 28) (.t 27), dst := some 29 }]
def a14_r5 : ACode := .reg [{ op := .mov (.t 28), dst := some 30 },
    { op := .iad 13 (.t 26) (.t 28), dst := some 31 },
    { op := .load 13 true (.t 31), dst := some 32 },
    { op := .alloc 13 true [.int .i64 0, .int .i64 0, .int .i64 0, .int .i64 0, .int .i64 0, .int .i64 0, .str [], .str [], .str [], .str [], .int .i64 0, .int .i64 0, .int .i64 0], dst := some 13, k := 27 },
    { op := .mov (.t 30), dst := some 12 },
    { op := .store 13 true (.t 13) (.t 32), dst := none }]
def a14_r6 : ACode := .reg [{ op := .load 13 true (.t 13), dst := some 33 },
    { op := .mov (.t 2), dst := some 34 },
    { op := .call 38 [(.t 33), (.t 34)], dst := some 35 },
    { op := .not (.t 35), dst := some 36 }]
def a14_r7 : ACode := .reg [{ op := .fad 1 (.t 4), dst := some 37 },
    { op := .load 1 false (.t 37), dst := some 38 },
    { op := .bin .geq (.t 38) (.c (.int .i64 4611686018427387904)), dst := some 39 }]
def a14_r8 : ACode := .reg [{ op := .build [.nils, .int .i64 0] [], dst := some 40 },
    { op := .build [.int .i64 0, .int .i64 0, .int .i64 0, .int .i64 0, .int .i64 0, .int .i64 0, .str [], .str [], .str [], .str [], .int .i64 0, .int .i64 0, .int .i64 0] [], dst := some 41 },
    { op := .store 2 true (.t 8) (.t 40), dst := none },
    { op := .store 13 true (.t 9) (.t 41), dst := none },
    { op := .mov (.c (.bool false)), dst := some 10 },
    { op := .mov (.c (.int .i64 19)), dst := some 11 }]
def a14_r9 : ACode := .reg [{ op := .load 2 true (.t 4), dst := some 42 },
    { op := .call 31 [(.t 42)], dst := some 43 },
    { op := .alloc 2 true [.nils, .int .i64 0], dst := some 14, k := 45 },
    { op := .store 2 true (.t 14) (.t 43), dst := none }]
def a14_r10 : ACode := .reg [{ op := .fad 1 (.t 14), dst := some 44 },
    { op := .load 1 false (.t 44), dst := some 45 },
    { op := .bin .add (.t 45) (.c (.int .i64 1)), dst := some 46 },
    { op := .fad 1 (.t 14), dst := some 47 },
    { op := .store 1 false (.t 47) (.t 46), dst := none }]
def a14_r11 : ACode := .reg [{ op := .mov (.t 1), dst := some 48 },
    { op := .fad 9 (.t 13), dst := some 49 },
    { op := .store 1 false (.t 49) (.t 48), dst := none }]
def a14_r12 : ACode := .reg [{ op := .fad 1 (.t 14), dst := some 50 },
    { op := .load 1 false (.t 50), dst := some 51 },
    { op := .fad 10 (.t 13), dst := some 52 },
    { op := .store 1 false (.t 52) (.t 51), dst := none }]
def a14_r13 : ACode := .reg [{ op := .mov (.t 2), dst := some 53 },
    { op := .mov (.t 3), dst := some 54 },
    { op := .bin .add (.t 53) (.t 54), dst := some 55 },
    { op := .fad 11 (.t 13), dst := some 56 },
    { op := .store 1 false (.t 56) (.t 55), dst := none }]
def a14_r14 : ACode := .reg [{ op := .fad 12 (.t 13), dst := some 57 },
    { op := .load 1 false (.t 57), dst := some 58 },
    { op := .bin .add (.t 58) (.c (.int .i64 1)), dst := some 59 },
    { op := .fad 12 (.t 13), dst := some 60 },
    { op := .store 1 false (.t 60) (.t 59), dst := none }]
def a14_r15 : ACode := .reg [{ op := .fad 0 (.t 14), dst := some 61 },
    { op := .load 1 false (.t 61), dst := some 62 },
    { op := .mov (.t 12), dst := some 63 },
    { op := .load 13 true (.t 13), dst := some 64 },
    { op := .iad 13 (.t 62) (.t 63), dst := some 65 },
    { op := .store 13 true (.t 65) (.t 64), dst := none }]
def a14_r16 : ACode := .draw [{ op := .load 2 true (.t 14), dst := some 66 },
    { op := .load 13 true (.t 13), dst := some 67 },
    { op := .store 2 true (.t 8) (.t 66), dst := none },
    { op := .store 13 true (.t 9) (.t 67), dst := none },
    { op := .mov (.c (.bool true)), dst := some 10 },
    { op := .mov (.c (.int .i64 0)), dst := some 11 }]
    [(2, [1])]
    (.take 0 (.take 1 (.one 2 (.one 3 (.take 4 (.take 5 (.done)))))))
def a14_r17 : ACode := .reg [{ op := .bin .add (.t 28) (.c (.int .i64 1)), dst := some 68 },
    { op := .mov (.t 68), dst := some 28 }]
def a14_l0 : ACode := (.seq a14_r4 (.seq (.cond (.t 29) .skip (.exit 0)) (.seq (.block 1 (.seq a14_r5 (.seq (.seq a14_r6 (.cond (.t 36) (.exit 1) .skip)) (.seq (.seq a14_r7 (.cond (.t 39) (.seq a14_r8 .ret) .skip)) (.seq a14_r9 (.seq a14_r10 (.seq a14_r11 (.seq a14_r12 (.seq a14_r13 (.seq a14_r14 (.seq a14_r15 (.seq a14_r16 .ret)))))))))))) a14_r17)))
def a14_r18 : ACode := .reg [{ op := .load 2 true (.t 4), dst := some 69 },
    { op := .call 31 [(.t 69)], dst := some 70 },
    { op := .build [.int .i64 0, .int .i64 0, .int .i64 0, .int .i64 0, .int .i64 0, .int .i64 0, .str [], .str [], .str [], .str [], .int .i64 0, .int .i64 0, .int .i64 0] [], dst := some 71 },
    { op := .store 2 true (.t 8) (.t 70), dst := none },
    { op := .store 13 true (.t 9) (.t 71), dst := none },
    { op := .mov (.c (.bool false)), dst := some 10 },
    { op := .mov (.c (.int .i64 0)), dst := some 11 }]
def a14 : ACode := (.seq a14_r0 (.seq (.seq a14_r1 (.cond (.t 22) (.seq a14_r2 .ret) .skip)) (.seq (.seq a14_r3 (.block 0 (.loop a14_l0))) (.seq a14_r18 .ret))))
def a14_res : List ARes := [.cell 8 2 true, .cell 9 13 true, .tmp 10, .tmp 11]
theorem a14_ok : Coded Try.prog 14 72 a14 a14_res := ⟨Try.f14, _, by kernel_rfl, rfl, by kernel_rfl, rfl, by kernel_rfl, by kernel_rfl⟩
theorem a14_of {args : List AV} {Q : AV → Prop} (hl : args.length ≤ 72) (h : AW Try.prog 72 a14 (mkS (argT 0 args) [] 0) (retQ a14_res Q)) : ACall Try.prog 14 args Q := acall_coded a14_ok hl h

/- workflow/workflowlaw40.sameTasks -/
def a15_r0 : ACode := .reg [{ op := .mov (.c (.bool false)), dst := some 4 }]
def a15_r1 : ACode := .reg [{ op := .mov (.t 0), dst := some 6 },
    { op := .len false (.t 6), dst := some 7 },
    { op := .mov (.t 1), dst := some 8 },
    { op := .len false (.t 8), dst := some 9 },
    { op := .bin .neq (.t 7) (.t 9), dst := some 10 }]
def a15_r2 : ACode := .reg [{ op := .mov (.c (.bool false)), dst := some 4 }]
def a15_r3 : ACode := .reg [{ op := .mov (.t 0), dst := some 11 },
    { op := .len false (.t 11), dst := some 12 },
    { op := .mov (.c (.int .i64 0)), dst := some 13 }]
def a15_r4 : ACode := .reg [{ op := .bin .lss (.t 13) (.t 12), dst := some 14 }]
def a15_r5 : ACode := .reg [{ op := .mov (.t 13), dst := some 15 },
    { op := .mov (.t 15), dst := some 5 }]
def a15_r6 : ACode := .draw [{ op := .mov (.t 0), dst := some 16 },
    { op := .mov (.t 5), dst := some 17 },
    { op := .iad 9 (.t 16) (.t 17), dst := some 18 },
    { op := .load 9 true (.t 18), dst := some 19 },
    { op := .mov (.t 1), dst := some 20 },
    { op := .mov (.t 5), dst := some 21 },
    { op := .iad 9 (.t 20) (.t 21), dst := some 22 },
    { op := .load 9 true (.t 22), dst := some 23 },
    { op := .eqs true [.i .i64, .i .i64, .i .i64, .i .i64, .i .i64, .i .i64, .s, .s, .s] (.t 19) (.t 23), dst := some 24 }]
    []
    (.take 0 (.take 1 (.take 2 (.take 3 (.take 4 (.take 5 (.take 6 (.take 7 (.take 8 (.done))))))))))
def a15_r7 : ACode := .reg [{ op := .mov (.c (.bool false)), dst := some 4 }]
def a15_r8 : ACode := .reg [{ op := .bin .add (.t 13) (.c (.int .i64 1)), dst := some 25 },
    { op := .mov (.t 25), dst := some 13 }]
def a15_l0 : ACode := (.seq a15_r4 (.seq (.cond (.t 14) .skip (.exit 0)) (.seq (.block 1 (.seq a15_r5 (.seq a15_r6 (.cond (.t 24) (.seq a15_r7 .ret) .skip)))) a15_r8)))
def a15_r9 : ACode := .reg [{ op := .mov (.c (.bool true)), dst := some 4 }]
def a15 : ACode := (.seq a15_r0 (.seq (.seq a15_r1 (.cond (.t 10) (.seq a15_r2 .ret) .skip)) (.seq (.seq a15_r3 (.block 0 (.loop a15_l0))) (.seq a15_r9 .ret))))
def a15_res : List ARes := [.tmp 4]
theorem a15_ok : Coded Try.prog 15 26 a15 a15_res := ⟨Try.f15, _, by kernel_rfl, rfl, by kernel_rfl, rfl, by kernel_rfl, by kernel_rfl⟩
theorem a15_of {args : List AV} {Q : AV → Prop} (hl : args.length ≤ 26) (h : AW Try.prog 26 a15 (mkS (argT 0 args) [] 0) (retQ a15_res Q)) : ACall Try.prog 15 args Q := acall_coded a15_ok hl h

/- workflow/taskqueue.Free -/
def a16_r0 : ACode := .reg [{ op := .box 2 true (.t 0), dst := some 2, k := 0 },
    { op := .mov (.c (.nils)), dst := some 4 }]
def a16_r1 : ACode := .reg [{ op := .mov (.c (.nils)), dst := some 5 }]
def a16_r2 : ACode := .reg [{ op := .fad 0 (.t 2), dst := some 8 },
    { op := .load 1 false (.t 8), dst := some 9 },
    { op := .len false (.t 9), dst := some 10 },
    { op := .mov (.c (.int .i64 0)), dst := some 11 }]
def a16_r3 : ACode := .reg [{ op := .bin .lss (.t 11) (.t 10), dst := some 12 }]
def a16_r4 : ACode := .reg [{ op := .iad 13 (.t 9) (.t 11), dst := some 13 },
    { op := .load 13 true (.t 13), dst := some 14 },
    { op := .alloc 13 true [.int .i64 0, .int .i64 0, .int .i64 0, .int .i64 0, .int .i64 0, .int .i64 0, .str [], .str [], .str [], .str [], .int .i64 0, .int .i64 0, .int .i64 0], dst := some 7, k := 10 },
    { op := .store 13 true (.t 7) (.t 14), dst := none }]
def a16_r5 : ACode := .reg [{ op := .load 13 true (.t 7), dst := some 15 },
    { op := .mov (.t 1), dst := some 16 },
    { op := .call 36 [(.t 15), (.t 16)], dst := some 17 }]
def a16_r6 : ACode := .reg [{ op := .mov (.t 5), dst := some 18 },
    { op := .fad 0 (.t 7), dst := some 19 },
    { op := .load 9 true (.t 19), dst := some 20 },
    { op := .bsl 9 true 1 [.int .i64 0, .int .i64 0, .int .i64 0, .int .i64 0, .int .i64 0, .int .i64 0, .str [], .str [], .str []] [(0, (.t 20))], dst := some 21 },
    { op := .app 9 96 (.t 18) (.t 21), dst := some 22, k := 19 },
    { op := .mov (.t 22), dst := some 5 }]
def a16_r7 : ACode := .reg [{ op := .bin .add (.t 11) (.c (.int .i64 1)), dst := some 23 },
    { op := .mov (.t 23), dst := some 11 }]
def a16_l0 : ACode := (.seq a16_r3 (.seq (.cond (.t 12) .skip (.exit 0)) (.seq (.block 1 (.seq a16_r4 (.seq a16_r5 (.cond (.t 17) a16_r6 .skip)))) a16_r7)))
def a16_r8 : ACode := .reg [{ op := .mov (.t 5), dst := some 24 },
    { op := .mov (.t 24), dst := some 4 }]
def a16 : ACode := (.seq a16_r0 (.seq a16_r1 (.seq (.seq a16_r2 (.block 0 (.loop a16_l0))) (.seq a16_r8 .ret))))
def a16_res : List ARes := [.tmp 4]
theorem a16_ok : Coded Try.prog 16 25 a16 a16_res := ⟨Try.f16, _, by kernel_rfl, rfl, by kernel_rfl, rfl, by kernel_rfl, by kernel_rfl⟩
theorem a16_of {args : List AV} {Q : AV → Prop} (hl : args.length ≤ 25) (h : AW Try.prog 25 a16 (mkS (argT 0 args) [] 0) (retQ a16_res Q)) : ACall Try.prog 16 args Q := acall_coded a16_ok hl h

/- workflow/workflowref40.Free -/
def a17_r0 : ACode := .reg [{ op := .box 2 true (.t 0), dst := some 2, k := 0 },
    { op := .mov (.c (.nils)), dst := some 4 }]
def a17_r1 : ACode := .reg [{ op := .mov (.c (.nils)), dst := some 5 }]
def a17_r2 : ACode := .reg [{ op := .fad 0 (.t 2), dst := some 8 },
    { op := .load 1 false (.t 8), dst := some 9 },
    { op := .len false (.t 9), dst := some 10 },
    { op := .mov (.c (.int .i64 0)), dst := some 11 }]
def a17_r3 : ACode := .reg [{ op := .bin .lss (.t 11) (.t 10), dst := some 12 }]
def a17_r4 : ACode := .reg [{ op := .iad 13 (.t 9) (.t 11), dst := some 13 },
    { op := .load 13 true (.t 13), dst := some 14 },
    { op := .alloc 13 true [.int .i64 0, .int .i64 0, .int .i64 0, .int .i64 0, .int .i64 0, .int .i64 0, .str [], .str [], .str [], .str [], .int .i64 0, .int .i64 0, .int .i64 0], dst := some 7, k := 10 },
    { op := .store 13 true (.t 7) (.t 14), dst := none }]
def a17_r5 : ACode := .reg [{ op := .load 13 true (.t 7), dst := some 15 },
    { op := .mov (.t 1), dst := some 16 },
    { op := .call 38 [(.t 15), (.t 16)], dst := some 17 }]
def a17_r6 : ACode := .reg [{ op := .mov (.t 5), dst := some 18 },
    { op := .fad 0 (.t 7), dst := some 19 },
    { op := .load 9 true (.t 19), dst := some 20 },
    { op := .bsl 9 true 1 [.int .i64 0, .int .i64 0, .int .i64 0, .int .i64 0, .int .i64 0, .int .i64 0, .str [], .str [], .str []] [(0, (.t 20))], dst := some 21 },
    { op := .app 9 96 (.t 18) (.t 21), dst := some 22, k := 19 },
    { op := .mov (.t 22), dst := some 5 }]
def a17_r7 : ACode := .reg [{ op := .bin .add (.t 11) (.c (.int .i64 1)), dst := some 23 },
    { op := .mov (.t 23), dst := some 11 }]
def a17_l0 : ACode := (.seq a17_r3 (.seq (.cond (.t 12) .skip (.exit 0)) (.seq (.block 1 (.seq a17_r4 (.seq a17_r5 (.cond (.t 17) a17_r6 .skip)))) a17_r7)))
def a17_r8 : ACode := .reg [{ op := .mov (.t 5), dst := some 24 },
    { op := .mov (.t 24), dst := some 4 }]
def a17 : ACode := (.seq a17_r0 (.seq a17_r1 (.seq (.seq a17_r2 (.block 0 (.loop a17_l0))) (.seq a17_r8 .ret))))
def a17_res : List ARes := [.tmp 4]
theorem a17_ok : Coded Try.prog 17 25 a17 a17_res := ⟨Try.f17, _, by kernel_rfl, rfl, by kernel_rfl, rfl, by kernel_rfl, by kernel_rfl⟩
theorem a17_of {args : List AV} {Q : AV → Prop} (hl : args.length ≤ 25) (h : AW Try.prog 25 a17 (mkS (argT 0 args) [] 0) (retQ a17_res Q)) : ACall Try.prog 17 args Q := acall_coded a17_ok hl h

/- workflow/taskqueue.Ack -/
def a18_r0 : ACode := .reg [{ op := .box 2 true (.t 0), dst := some 2, k := 0 },
    { op := .alloc 2 true [.nils, .int .i64 0], dst := some 4, k := 1 },
    { op := .mov (.c (.int .i64 0)), dst := some 5 }]
def a18_r1 : ACode := .reg [{ op := .load 2 true (.t 2), dst := some 7 },
    { op := .mov (.t 1), dst := some 8 },
    { op := .call 39 [(.t 7), (.t 8)], dst := some 9 },
    { op := .mov (.t 9), dst := some 6 }]
def a18_r2 : ACode := .reg [{ op := .mov (.t 6), dst := some 10 },
    { op := .bin .lss (.t 10) (.c (.int .i64 0)), dst := some 11 }]
def a18_r3 : ACode := .reg [{ op := .build [.nils, .int .i64 0] [], dst := some 12 },
    { op := .store 2 true (.t 4) (.t 12), dst := none },
    { op := .mov (.c (.int .i64 24)), dst := some 5 }]
def a18_r4 : ACode := .reg [{ op := .load 2 true (.t 2), dst := some 13 },
    { op := .call 30 [(.t 13)], dst := some 14 },
    { op := .store 2 true (.t 2) (.t 14), dst := none }]
def a18_r5 : ACode := .reg [{ op := .fad 0 (.t 2), dst := some 15 },
    { op := .load 1 false (.t 15), dst := some 16 },
    { op := .mov (.t 6), dst := some 17 },
    { op := .mov (.t 6), dst := some 18 },
    { op := .bin .add (.t 18) (.c (.int .i64 1)), dst := some 19 },
    { op := .call 40 [(.t 16), (.t 17), (.t 19)], dst := some 20 },
    { op := .fad 0 (.t 2), dst := some 21 },
    { op := .store 1 false (.t 21) (.t 20), dst := none }]
def a18_r6 : ACode := .reg [{ op := .load 2 true (.t 2), dst := some 22 },
    { op := .store 2 true (.t 4) (.t 22), dst := none },
    { op := .mov (.c (.int .i64 0)), dst := some 5 }]
def a18 : ACode := (.seq a18_r0 (.seq a18_r1 (.seq (.seq a18_r2 (.cond (.t 11) (.seq a18_r3 .ret) .skip)) (.seq a18_r4 (.seq a18_r5 (.seq a18_r6 .ret))))))
def a18_res : List ARes := [.cell 4 2 true, .tmp 5]
theorem a18_ok : Coded Try.prog 18 23 a18 a18_res := ⟨Try.f18, _, by kernel_rfl, rfl, by kernel_rfl, rfl, by kernel_rfl, by kernel_rfl⟩
theorem a18_of {args : List AV} {Q : AV → Prop} (hl : args.length ≤ 23) (h : AW Try.prog 23 a18 (mkS (argT 0 args) [] 0) (retQ a18_res Q)) : ACall Try.prog 18 args Q := acall_coded a18_ok hl h

/- workflow/workflowref40.Ack -/
def a19_r0 : ACode := .reg [{ op := .box 2 true (.t 0), dst := some 2, k := 0 },
    { op := .alloc 2 true [.nils, .int .i64 0], dst := some 4, k := 1 },
    { op := .mov (.c (.int .i64 0)), dst := some 5 }]
def a19_r1 : ACode := .reg [{ op := .load 2 true (.t 2), dst := some 8 },
    { op := .mov (.t 1), dst := some 9 },
    { op := .call 41 [(.t 8), (.t 9)], dst := some 10 },
    { op := .mov (.t 10), dst := some 6 }]
def a19_r2 : ACode := .reg [{ op := .mov (.t 6), dst := some 11 },
    { op := .bin .lss (.t 11) (.c (.int .i64 0)), dst := some 12 }]
def a19_r3 : ACode := .reg [{ op := .build [.nils, .int .i64 0] [], dst := some 13 },
    { op := .store 2 true (.t 4) (.t 13), dst := none },
    { op := .mov (.c (.int .i64 24)), dst := some 5 }]
def a19_r4 : ACode := .draw [{ op := .fad 1 (.t 2), dst := some 14 },
    { op := .load 1 false (.t 14), dst := some 15 },
    { op := .bsl 13 true 0 [.int .i64 0, .int .i64 0, .int .i64 0, .int .i64 0, .int .i64 0, .int .i64 0, .str [], .str [], .str [], .str [], .int .i64 0, .int .i64 0, .int .i64 0] [], dst := some 16 },
    { op := .fad 0 (.t 2), dst := some 17 },
    { op := .load 1 false (.t 17), dst := some 18 },
    { op := .mov (.t 6), dst := some 19 },
    { op := .slice 13 (.t 18) none (some (.t 19)) none, dst := some 20 },
    { op := .app 13 136 (.t 16) (.t 20), dst := some 21, k := 19 },
    { op := .build [.nils, .int .i64 0] [(1, 1, (.t 15)), (0, 1, (.t 21))], dst := some 22 },
    { op := .alloc 2 true [.nils, .int .i64 0], dst := some 7, k := 21 },
    { op := .store 2 true (.t 7) (.t 22), dst := none }]
    [(7, [1]), (9, [1, 4, 6])]
    (.take 0 (.take 1 (.take 2 (.take 3 (.take 4 (.take 5 (.take 6 (.two 7 (.take 8 (.one 9 (.one 10 (.done)))) 9 (.one 7 (.take 8 (.one 10 (.done))))))))))))
def a19_r5 : ACode := .draw [{ op := .fad 0 (.t 7), dst := some 23 },
    { op := .load 1 false (.t 23), dst := some 24 },
    { op := .fad 0 (.t 2), dst := some 25 },
    { op := .load 1 false (.t 25), dst := some 26 },
    { op := .mov (.t 6), dst := some 27 },
    { op := .bin .add (.t 27) (.c (.int .i64 1)), dst := some 28 },
    { op := .slice 13 (.t 26) (some (.t 28)) none none, dst := some 29 },
    { op := .app 13 136 (.t 24) (.t 29), dst := some 30, k := 30 },
    { op := .fad 0 (.t 7), dst := some 31 },
    { op := .store 1 false (.t 31) (.t 30), dst := none }]
    []
    (.take 0 (.take 1 (.take 2 (.take 3 (.take 4 (.take 5 (.take 6 (.one 7 (.take 8 (.one 9 (.done)))))))))))
def a19_r6 : ACode := .reg [{ op := .load 2 true (.t 7), dst := some 32 },
    { op := .store 2 true (.t 4) (.t 32), dst := none },
    { op := .mov (.c (.int .i64 0)), dst := some 5 }]
def a19 : ACode := (.seq a19_r0 (.seq a19_r1 (.seq (.seq a19_r2 (.cond (.t 12) (.seq a19_r3 .ret) .skip)) (.seq a19_r4 (.seq a19_r5 (.seq a19_r6 .ret))))))
def a19_res : List ARes := [.cell 4 2 true, .tmp 5]
theorem a19_ok : Coded Try.prog 19 33 a19 a19_res := ⟨Try.f19, _, by kernel_rfl, rfl, by kernel_rfl, rfl, by kernel_rfl, by kernel_rfl⟩
theorem a19_of {args : List AV} {Q : AV → Prop} (hl : args.length ≤ 33) (h : AW Try.prog 33 a19 (mkS (argT 0 args) [] 0) (retQ a19_res Q)) : ACall Try.prog 19 args Q := acall_coded a19_ok hl h

/- workflow/taskqueue.Extend -/
def a20_r0 : ACode := .reg [{ op := .box 2 true (.t 0), dst := some 4, k := 0 },
    { op := .alloc 2 true [.nils, .int .i64 0], dst := some 8, k := 1 },
    { op := .mov (.c (.int .i64 0)), dst := some 9 }]
def a20_r1 : ACode := .reg [{ op := .mov (.t 2), dst := some 11 },
    { op := .mov (.t 3), dst := some 12 },
    { op := .call 33 [(.t 11), (.t 12)], dst := some 13 },
    { op := .not (.t 13), dst := some 14 }]
def a20_r2 : ACode := .reg [{ op := .build [.nils, .int .i64 0] [], dst := some 15 },
    { op := .store 2 true (.t 8) (.t 15), dst := none },
    { op := .mov (.c (.int .i64 2)), dst := some 9 }]
def a20_r3 : ACode := .reg [{ op := .load 2 true (.t 4), dst := some 16 },
    { op := .mov (.t 1), dst := some 17 },
    { op := .call 39 [(.t 16), (.t 17)], dst := some 18 },
    { op := .mov (.t 18), dst := some 10 }]
def a20_r4 : ACode := .reg [{ op := .mov (.t 10), dst := some 19 },
    { op := .bin .lss (.t 19) (.c (.int .i64 0)), dst := some 20 },
    { op := .mov (.t 20), dst := some 21 },
    { op := .fad 0 (.t 4), dst := some 22, g := some (21, false) },
    { op := .load 1 false (.t 22), dst := some 23, g := some (21, false) },
    { op := .mov (.t 10), dst := some 24, g := some (21, false) },
    { op := .iad 13 (.t 23) (.t 24), dst := some 25, g := some (21, false) },
    { op := .fad 9 (.t 25), dst := some 26, g := some (21, false) },
    { op := .load 1 false (.t 26), dst := some 27, g := some (21, false) },
    { op := .bin .eql (.t 27) (.c (.str [])), dst := some 28, g := some (21, false) },
    { op := .pick (.t 21) (.c (.bool true)) (.t 28), dst := some 29 },
    { op := .mov (.t 29), dst := some 30 },
    { op := .mov (.t 2), dst := some 31, g := some (30, false) },
    { op := .fad 0 (.t 4), dst := some 32, g := some (30, false) },
    { op := .load 1 false (.t 32), dst := some 33, g := some (30, false) },
    { op := .mov (.t 10), dst := some 34, g := some (30, false) },
    { op := .iad 13 (.t 33) (.t 34), dst := some 35, g := some (30, false) },
    { op := .fad 11 (.t 35), dst := some 36, g := some (30, false) },
    { op := .load 1 false (.t 36), dst := some 37, g := some (30, false) },
    { op := .bin .geq (.t 31) (.t 37), dst := some 38, g := some (30, false) },
    { op := .pick (.t 30) (.c (.bool true)) (.t 38), dst := some 39 }]
def a20_r5 : ACode := .reg [{ op := .build [.nils, .int .i64 0] [], dst := some 40 },
    { op := .store 2 true (.t 8) (.t 40), dst := none },
    { op := .mov (.c (.int .i64 24)), dst := some 9 }]
def a20_r6 : ACode := .reg [{ op := .load 2 true (.t 4), dst := some 41 },
    { op := .call 30 [(.t 41)], dst := some 42 },
    { op := .store 2 true (.t 4) (.t 42), dst := none }]
def a20_r7 : ACode := .reg [{ op := .fad 0 (.t 4), dst := some 43 },
    { op := .load 1 false (.t 43), dst := some 44 },
    { op := .mov (.t 10), dst := some 45 },
    { op := .mov (.t 2), dst := some 46 },
    { op := .mov (.t 3), dst := some 47 },
    { op := .bin .add (.t 46) (.t 47), dst := some 48 },
    { op := .iad 13 (.t 44) (.t 45), dst := some 49 },
    { op := .fad 11 (.t 49), dst := some 50 },
    { op := .store 1 false (.t 50) (.t 48), dst := none }]
def a20_r8 : ACode := .reg [{ op := .load 2 true (.t 4), dst := some 51 },
    { op := .store 2 true (.t 8) (.t 51), dst := none },
    { op := .mov (.c (.int .i64 0)), dst := some 9 }]
def a20 : ACode := (.seq a20_r0 (.seq (.seq a20_r1 (.cond (.t 14) (.seq a20_r2 .ret) .skip)) (.seq a20_r3 (.seq (.seq a20_r4 (.cond (.t 39) (.seq a20_r5 .ret) .skip)) (.seq a20_r6 (.seq a20_r7 (.seq a20_r8 .ret)))))))
def a20_res : List ARes := [.cell 8 2 true, .tmp 9]
theorem a20_ok : Coded Try.prog 20 52 a20 a20_res := ⟨Try.f20, _, by kernel_rfl, rfl, by kernel_rfl, rfl, by kernel_rfl, by kernel_rfl⟩
theorem a20_of {args : List AV} {Q : AV → Prop} (hl : args.length ≤ 52) (h : AW Try.prog 52 a20 (mkS (argT 0 args) [] 0) (retQ a20_res Q)) : ACall Try.prog 20 args Q := acall_coded a20_ok hl h

/- workflow/workflowref40.Extend -/
def a21_r0 : ACode := .reg [{ op := .box 2 true (.t 0), dst := some 4, k := 0 },
    { op := .alloc 2 true [.nils, .int .i64 0], dst := some 8, k := 1 },
    { op := .mov (.c (.int .i64 0)), dst := some 9 }]
def a21_r1 : ACode := .reg [{ op := .mov (.t 2), dst := some 13 },
    { op := .mov (.t 3), dst := some 14 },
    { op := .call 37 [(.t 13), (.t 14)], dst := some 15 },
    { op := .mov (.t 15), dst := some 10 }]
def a21_r2 : ACode := .reg [{ op := .mov (.t 10), dst := some 16 },
    { op := .bin .neq (.t 16) (.c (.int .i64 0)), dst := some 17 }]
def a21_r3 : ACode := .reg [{ op := .build [.nils, .int .i64 0] [], dst := some 18 },
    { op := .mov (.t 10), dst := some 19 },
    { op := .store 2 true (.t 8) (.t 18), dst := none },
    { op := .mov (.t 19), dst := some 9 }]
def a21_r4 : ACode := .reg [{ op := .load 2 true (.t 4), dst := some 20 },
    { op := .mov (.t 1), dst := some 21 },
    { op := .call 41 [(.t 20), (.t 21)], dst := some 22 },
    { op := .mov (.t 22), dst := some 11 }]
def a21_r5 : ACode := .reg [{ op := .mov (.t 11), dst := some 23 },
    { op := .bin .lss (.t 23) (.c (.int .i64 0)), dst := some 24 },
    { op := .mov (.t 24), dst := some 25 },
    { op := .fad 0 (.t 4), dst := some 26, g := some (25, false) },
    { op := .load 1 false (.t 26), dst := some 27, g := some (25, false) },
    { op := .mov (.t 11), dst := some 28, g := some (25, false) },
    { op := .iad 13 (.t 27) (.t 28), dst := some 29, g := some (25, false) },
    { op := .fad 9 (.t 29), dst := some 30, g := some (25, false) },
    { op := .load 1 false (.t 30), dst := some 31, g := some (25, false) },
    { op := .bin .eql (.t 31) (.c (.str [])), dst := some 32, g := some (25, false) },
    { op := .pick (.t 25) (.c (.bool true)) (.t 32), dst := some 33 },
    { op := .mov (.t 33), dst := some 34 },
    { op := .mov (.t 2), dst := some 35, g := some (34, false) },
    { op := .fad 0 (.t 4), dst := some 36, g := some (34, false) },
    { op := .load 1 false (.t 36), dst := some 37, g := some (34, false) },
    { op := .mov (.t 11), dst := some 38, g := some (34, false) },
    { op := .iad 13 (.t 37) (.t 38), dst := some 39, g := some (34, false) },
    { op := .fad 11 (.t 39), dst := some 40, g := some (34, false) },
    { op := .load 1 false (.t 40), dst := some 41, g := some (34, false) },
    { op := .bin .geq (.t 35) (.t 41), dst := some 42, g := some (34, false) },
    { op := .pick (.t 34) (.c (.bool true)) (.t 42), dst := some 43 }]
def a21_r6 : ACode := .reg [{ op := .build [.nils, .int .i64 0] [], dst := some 44 },
    { op := .store 2 true (.t 8) (.t 44), dst := none },
    { op := .mov (.c (.int .i64 24)), dst := some 9 }]
def a21_r7 : ACode := .reg [{ op := .load 2 true (.t 4), dst := some 45 },
    { op := .call 31 [(.t 45)], dst := some 46 },
    { op := .alloc 2 true [.nils, .int .i64 0], dst := some 12, k := 43 },
    { op := .store 2 true (.t 12) (.t 46), dst := none }]
def a21_r8 : ACode := .reg [{ op := .fad 0 (.t 12), dst := some 47 },
    { op := .load 1 false (.t 47), dst := some 48 },
    { op := .mov (.t 11), dst := some 49 },
    { op := .mov (.t 2), dst := some 50 },
    { op := .mov (.t 3), dst := some 51 },
    { op := .bin .add (.t 50) (.t 51), dst := some 52 },
    { op := .iad 13 (.t 48) (.t 49), dst := some 53 },
    { op := .fad 11 (.t 53), dst := some 54 },
    { op := .store 1 false (.t 54) (.t 52), dst := none }]
def a21_r9 : ACode := .reg [{ op := .load 2 true (.t 12), dst := some 55 },
    { op := .store 2 true (.t 8) (.t 55), dst := none },
    { op := .mov (.c (.int .i64 0)), dst := some 9 }]
def a21 : ACode := (.seq a21_r0 (.seq (.seq a21_r1 (.seq a21_r2 (.cond (.t 17) (.seq a21_r3 .ret) .skip))) (.seq a21_r4 (.seq (.seq a21_r5 (.cond (.t 43) (.seq a21_r6 .ret) .skip)) (.seq a21_r7 (.seq a21_r8 (.seq a21_r9 .ret)))))))
def a21_res : List ARes := [.cell 8 2 true, .tmp 9]
theorem a21_ok : Coded Try.prog 21 56 a21 a21_res := ⟨Try.f21, _, by kernel_rfl, rfl, by kernel_rfl, rfl, by kernel_rfl, by kernel_rfl⟩
theorem a21_of {args : List AV} {Q : AV → Prop} (hl : args.length ≤ 56) (h : AW Try.prog 56 a21 (mkS (argT 0 args) [] 0) (retQ a21_res Q)) : ACall Try.prog 21 args Q := acall_coded a21_ok hl h

/- workflow/taskqueue.Return -/
def a22_r0 : ACode := .reg [{ op := .box 2 true (.t 0), dst := some 2, k := 0 },
    { op := .alloc 2 true [.nils, .int .i64 0], dst := some 4, k := 1 },
    { op := .mov (.c (.int .i64 0)), dst := some 5 }]
def a22_r1 : ACode := .reg [{ op := .load 2 true (.t 2), dst := some 8 },
    { op := .mov (.t 1), dst := some 9 },
    { op := .call 39 [(.t 8), (.t 9)], dst := some 10 },
    { op := .mov (.t 10), dst := some 6 }]
def a22_r2 : ACode := .reg [{ op := .mov (.t 6), dst := some 11 },
    { op := .bin .lss (.t 11) (.c (.int .i64 0)), dst := some 12 }]
def a22_r3 : ACode := .reg [{ op := .build [.nils, .int .i64 0] [], dst := some 13 },
    { op := .store 2 true (.t 4) (.t 13), dst := none },
    { op := .mov (.c (.int .i64 24)), dst := some 5 }]
def a22_r4 : ACode := .reg [{ op := .load 2 true (.t 2), dst := some 14 },
    { op := .call 30 [(.t 14)], dst := some 15 },
    { op := .store 2 true (.t 2) (.t 15), dst := none }]
def a22_r5 : ACode := .reg [{ op := .fad 0 (.t 2), dst := some 16 },
    { op := .load 1 false (.t 16), dst := some 17 },
    { op := .mov (.t 6), dst := some 18 },
    { op := .iad 13 (.t 17) (.t 18), dst := some 19 },
    { op := .mov (.t 19), dst := some 7 }]
def a22_r6 : ACode := .reg [{ op := .mov (.t 7), dst := some 20 },
    { op := .nilc (.t 20), dst := some 21 },
    { op := .fad 9 (.t 21), dst := some 22 },
    { op := .store 1 false (.t 22) (.c (.str [])), dst := none }]
def a22_r7 : ACode := .reg [{ op := .mov (.t 7), dst := some 23 },
    { op := .nilc (.t 23), dst := some 24 },
    { op := .fad 10 (.t 24), dst := some 25 },
    { op := .store 1 false (.t 25) (.c (.int .i64 0)), dst := none }]
def a22_r8 : ACode := .reg [{ op := .mov (.t 7), dst := some 26 },
    { op := .nilc (.t 26), dst := some 27 },
    { op := .fad 11 (.t 27), dst := some 28 },
    { op := .store 1 false (.t 28) (.c (.int .i64 0)), dst := none }]
def a22_r9 : ACode := .reg [{ op := .load 2 true (.t 2), dst := some 29 },
    { op := .store 2 true (.t 4) (.t 29), dst := none },
    { op := .mov (.c (.int .i64 0)), dst := some 5 }]
def a22 : ACode := (.seq a22_r0 (.seq a22_r1 (.seq (.seq a22_r2 (.cond (.t 12) (.seq a22_r3 .ret) .skip)) (.seq a22_r4 (.seq a22_r5 (.seq a22_r6 (.seq a22_r7 (.seq a22_r8 (.seq a22_r9 .ret)))))))))
def a22_res : List ARes := [.cell 4 2 true, .tmp 5]
theorem a22_ok : Coded Try.prog 22 30 a22 a22_res := ⟨Try.f22, _, by kernel_rfl, rfl, by kernel_rfl, rfl, by kernel_rfl, by kernel_rfl⟩
theorem a22_of {args : List AV} {Q : AV → Prop} (hl : args.length ≤ 30) (h : AW Try.prog 30 a22 (mkS (argT 0 args) [] 0) (retQ a22_res Q)) : ACall Try.prog 22 args Q := acall_coded a22_ok hl h

/- workflow/workflowref40.Return -/
def a23_r0 : ACode := .reg [{ op := .box 2 true (.t 0), dst := some 2, k := 0 },
    { op := .alloc 2 true [.nils, .int .i64 0], dst := some 4, k := 1 },
    { op := .mov (.c (.int .i64 0)), dst := some 5 }]
def a23_r1 : ACode := .reg [{ op := .load 2 true (.t 2), dst := some 8 },
    { op := .mov (.t 1), dst := some 9 },
    { op := .call 41 [(.t 8), (.t 9)], dst := some 10 },
    { op := .mov (.t 10), dst := some 6 }]
def a23_r2 : ACode := .reg [{ op := .mov (.t 6), dst := some 11 },
    { op := .bin .lss (.t 11) (.c (.int .i64 0)), dst := some 12 }]
def a23_r3 : ACode := .reg [{ op := .build [.nils, .int .i64 0] [], dst := some 13 },
    { op := .store 2 true (.t 4) (.t 13), dst := none },
    { op := .mov (.c (.int .i64 24)), dst := some 5 }]
def a23_r4 : ACode := .reg [{ op := .load 2 true (.t 2), dst := some 14 },
    { op := .call 31 [(.t 14)], dst := some 15 },
    { op := .alloc 2 true [.nils, .int .i64 0], dst := some 7, k := 14 },
    { op := .store 2 true (.t 7) (.t 15), dst := none }]
def a23_r5 : ACode := .reg [{ op := .fad 0 (.t 7), dst := some 16 },
    { op := .load 1 false (.t 16), dst := some 17 },
    { op := .mov (.t 6), dst := some 18 },
    { op := .iad 13 (.t 17) (.t 18), dst := some 19 },
    { op := .fad 9 (.t 19), dst := some 20 },
    { op := .store 1 false (.t 20) (.c (.str [])), dst := none }]
def a23_r6 : ACode := .reg [{ op := .fad 0 (.t 7), dst := some 21 },
    { op := .load 1 false (.t 21), dst := some 22 },
    { op := .mov (.t 6), dst := some 23 },
    { op := .iad 13 (.t 22) (.t 23), dst := some 24 },
    { op := .fad 10 (.t 24), dst := some 25 },
    { op := .store 1 false (.t 25) (.c (.int .i64 0)), dst := none }]
def a23_r7 : ACode := .reg [{ op := .fad 0 (.t 7), dst := some 26 },
    { op := .load 1 false (.t 26), dst := some 27 },
    { op := .mov (.t 6), dst := some 28 },
    { op := .iad 13 (.t 27) (.t 28), dst := some 29 },
    { op := .fad 11 (.t 29), dst := some 30 },
    { op := .store 1 false (.t 30) (.c (.int .i64 0)), dst := none }]
def a23_r8 : ACode := .reg [{ op := .load 2 true (.t 7), dst := some 31 },
    { op := .store 2 true (.t 4) (.t 31), dst := none },
    { op := .mov (.c (.int .i64 0)), dst := some 5 }]
def a23 : ACode := (.seq a23_r0 (.seq a23_r1 (.seq (.seq a23_r2 (.cond (.t 12) (.seq a23_r3 .ret) .skip)) (.seq a23_r4 (.seq a23_r5 (.seq a23_r6 (.seq a23_r7 (.seq a23_r8 .ret))))))))
def a23_res : List ARes := [.cell 4 2 true, .tmp 5]
theorem a23_ok : Coded Try.prog 23 32 a23 a23_res := ⟨Try.f23, _, by kernel_rfl, rfl, by kernel_rfl, rfl, by kernel_rfl, by kernel_rfl⟩
theorem a23_of {args : List AV} {Q : AV → Prop} (hl : args.length ≤ 32) (h : AW Try.prog 32 a23 (mkS (argT 0 args) [] 0) (retQ a23_res Q)) : ACall Try.prog 23 args Q := acall_coded a23_ok hl h

/- workflow/workflowlaw40.contains -/
def a27_r0 : ACode := .reg [{ op := .box 9 true (.t 1), dst := some 3, k := 0 },
    { op := .mov (.c (.bool false)), dst := some 4 }]
def a27_r1 : ACode := .reg [{ op := .mov (.t 0), dst := some 6 },
    { op := .len false (.t 6), dst := some 7 },
    { op := .mov (.c (.int .i64 0)), dst := some 8 }]
def a27_r2 : ACode := .reg [{ op := .bin .lss (.t 8) (.t 7), dst := some 9 }]
def a27_r3 : ACode := .reg [{ op := .mov (.t 8), dst := some 10 },
    { op := .mov (.t 10), dst := some 5 }]
def a27_r4 : ACode := .draw [{ op := .mov (.t 0), dst := some 11 },
    { op := .mov (.t 5), dst := some 12 },
    { op := .iad 9 (.t 11) (.t 12), dst := some 13 },
    { op := .load 9 true (.t 13), dst := some 14 },
    { op := .load 9 true (.t 3), dst := some 15 },
    { op := .eqs false [.i .i64, .i .i64, .i .i64, .i .i64, .i .i64, .i .i64, .s, .s, .s] (.t 14) (.t 15), dst := some 16 }]
    []
    (.take 0 (.take 1 (.take 2 (.take 3 (.take 4 (.take 5 (.done)))))))
def a27_r5 : ACode := .reg [{ op := .mov (.c (.bool true)), dst := some 4 }]
def a27_r6 : ACode := .reg [{ op := .bin .add (.t 8) (.c (.int .i64 1)), dst := some 17 },
    { op := .mov (.t 17), dst := some 8 }]
def a27_l0 : ACode := (.seq a27_r2 (.seq (.cond (.t 9) .skip (.exit 0)) (.seq (.block 1 (.seq a27_r3 (.seq a27_r4 (.cond (.t 16) (.seq a27_r5 .ret) .skip)))) a27_r6)))
def a27_r7 : ACode := .reg [{ op := .mov (.c (.bool false)), dst := some 4 }]
def a27 : ACode := (.seq a27_r0 (.seq (.seq a27_r1 (.block 0 (.loop a27_l0))) (.seq a27_r7 .ret)))
def a27_res : List ARes := [.tmp 4]
theorem a27_ok : Coded Try.prog 27 18 a27 a27_res := ⟨Try.f27, _, by kernel_rfl, rfl, by kernel_rfl, rfl, by kernel_rfl, by kernel_rfl⟩
theorem a27_of {args : List AV} {Q : AV → Prop} (hl : args.length ≤ 18) (h : AW Try.prog 18 a27 (mkS (argT 0 args) [] 0) (retQ a27_res Q)) : ACall Try.prog 27 args Q := acall_coded a27_ok hl h

/- workflow/workflowlaw40.task -/
def a28_r0 : ACode := .reg [{ op := .alloc 9 true [.int .i64 0, .int .i64 0, .int .i64 0, .int .i64 0, .int .i64 0, .int .i64 0, .str [], .str [], .str []], dst := some 4, k := 0 }]
def a28_r1 : ACode := .reg [{ op := .mov (.t 0), dst := some 5 },
    { op := .mov (.t 1), dst := some 6 },
    { op := .build [.int .i64 0, .int .i64 0, .int .i64 0, .int .i64 0, .int .i64 0, .int .i64 0, .str [], .str [], .str []] [(0, 1, (.t 5)), (1, 1, (.c (.int .i64 1))), (4, 1, (.t 6)), (6, 1, (.c (.str [119]))), (7, 1, (.c (.str [114, 49])))], dst := some 7 },
    { op := .store 9 true (.t 4) (.t 7), dst := none }]
def a28 : ACode := (.seq a28_r0 (.seq a28_r1 .ret))
def a28_res : List ARes := [.cell 4 9 true]
theorem a28_ok : Coded Try.prog 28 8 a28 a28_res := ⟨Try.f28, _, by kernel_rfl, rfl, by kernel_rfl, rfl, by kernel_rfl, by kernel_rfl⟩
theorem a28_of {args : List AV} {Q : AV → Prop} (hl : args.length ≤ 8) (h : AW Try.prog 8 a28 (mkS (argT 0 args) [] 0) (retQ a28_res Q)) : ACall Try.prog 28 args Q := acall_coded a28_ok hl h

/- workflow/taskqueue.keyOf -/
def a29_r0 : ACode := .reg [{ op := .box 9 true (.t 0), dst := some 1, k := 0 },
    { op := .alloc 3 true [.str [], .str [], .int .i64 0], dst := some 2, k := 1 }]
def a29_r1 : ACode := .reg [{ op := .fad 6 (.t 1), dst := some 3 },
    { op := .load 1 false (.t 3), dst := some 4 },
    { op := .fad 7 (.t 1), dst := some 5 },
    { op := .load 1 false (.t 5), dst := some 6 },
    { op := .fad 0 (.t 1), dst := some 7 },
    { op := .load 1 false (.t 7), dst := some 8 },
    { op := .build [.str [], .str [], .int .i64 0] [(0, 1, (.t 4)), (1, 1, (.t 6)), (2, 1, (.t 8))], dst := some 9 },
    { op := .store 3 true (.t 2) (.t 9), dst := none }]
def a29 : ACode := (.seq a29_r0 (.seq a29_r1 .ret))
def a29_res : List ARes := [.cell 2 3 true]
theorem a29_ok : Coded Try.prog 29 10 a29 a29_res := ⟨Try.f29, _, by kernel_rfl, rfl, by kernel_rfl, rfl, by kernel_rfl, by kernel_rfl⟩
theorem a29_of {args : List AV} {Q : AV → Prop} (hl : args.length ≤ 10) (h : AW Try.prog 10 a29 (mkS (argT 0 args) [] 0) (retQ a29_res Q)) : ACall Try.prog 29 args Q := acall_coded a29_ok hl h

/- workflow/taskqueue.copied -/
def a30_r0 : ACode := .reg [{ op := .box 2 true (.t 0), dst := some 1, k := 0 },
    { op := .alloc 2 true [.nils, .int .i64 0], dst := some 2, k := 1 }]
def a30_r1 : ACode := .reg [{ op := .fad 0 (.t 1), dst := some 3 },
    { op := .load 1 false (.t 3), dst := some 4 },
    { op := .call 43 [(.t 4)], dst := some 5, k := 4, ad := true },
    { op := .fad 0 (.t 1), dst := some 6 },
    { op := .store 1 false (.t 6) (.t 5), dst := none }]
def a30_r2 : ACode := .reg [{ op := .load 2 true (.t 1), dst := some 7 },
    { op := .store 2 true (.t 2) (.t 7), dst := none }]
def a30 : ACode := (.seq a30_r0 (.seq a30_r1 (.seq a30_r2 .ret)))
def a30_res : List ARes := [.cell 2 2 true]
theorem a30_ok : Coded Try.prog 30 8 a30 a30_res := ⟨Try.f30, _, by kernel_rfl, rfl, by kernel_rfl, rfl, by kernel_rfl, by kernel_rfl⟩
theorem a30_of {args : List AV} {Q : AV → Prop} (hl : args.length ≤ 8) (h : AW Try.prog 8 a30 (mkS (argT 0 args) [] 0) (retQ a30_res Q)) : ACall Try.prog 30 args Q := acall_coded a30_ok hl h

/- workflow/workflowref40.clone -/
def a31_r0 : ACode := .reg [{ op := .box 2 true (.t 0), dst := some 1, k := 0 },
    { op := .alloc 2 true [.nils, .int .i64 0], dst := some 2, k := 1 }]
def a31_r1 : ACode := .draw [{ op := .bsl 13 true 0 [.int .i64 0, .int .i64 0, .int .i64 0, .int .i64 0, .int .i64 0, .int .i64 0, .str [], .str [], .str [], .str [], .int .i64 0, .int .i64 0, .int .i64 0] [], dst := some 3 },
    { op := .fad 0 (.t 1), dst := some 4 },
    { op := .load 1 false (.t 4), dst := some 5 },
    { op := .app 13 136 (.t 3) (.t 5), dst := some 6, k := 5 },
    { op := .fad 1 (.t 1), dst := some 7 },
    { op := .load 1 false (.t 7), dst := some 8 },
    { op := .build [.nils, .int .i64 0] [(0, 1, (.t 6)), (1, 1, (.t 8))], dst := some 9 },
    { op := .store 2 true (.t 2) (.t 9), dst := none }]
    [(3, [5])]
    (.take 0 (.take 1 (.take 2 (.take 4 (.take 5 (.one 3 (.take 6 (.one 7 (.done)))))))))
def a31 : ACode := (.seq a31_r0 (.seq a31_r1 .ret))
def a31_res : List ARes := [.cell 2 2 true]
theorem a31_ok : Coded Try.prog 31 10 a31 a31_res := ⟨Try.f31, _, by kernel_rfl, rfl, by kernel_rfl, rfl, by kernel_rfl, by kernel_rfl⟩
theorem a31_of {args : List AV} {Q : AV → Prop} (hl : args.length ≤ 10) (h : AW Try.prog 10 a31 (mkS (argT 0 args) [] 0) (retQ a31_res Q)) : ACall Try.prog 31 args Q := acall_coded a31_ok hl h

/- workflow/workflowlaw40.sameItems -/
def a32_r0 : ACode := .reg [{ op := .mov (.c (.bool false)), dst := some 4 }]
def a32_r1 : ACode := .reg [{ op := .mov (.t 0), dst := some 6 },
    { op := .len false (.t 6), dst := some 7 },
    { op := .mov (.t 1), dst := some 8 },
    { op := .len false (.t 8), dst := some 9 },
    { op := .bin .neq (.t 7) (.t 9), dst := some 10 }]
def a32_r2 : ACode := .reg [{ op := .mov (.c (.bool false)), dst := some 4 }]
def a32_r3 : ACode := .reg [{ op := .mov (.t 0), dst := some 11 },
    { op := .len false (.t 11), dst := some 12 },
    { op := .mov (.c (.int .i64 0)), dst := some 13 }]
def a32_r4 : ACode := .reg [{ op := .bin .lss (.t 13) (.t 12), dst := some 14 }]
def a32_r5 : ACode := .reg [{ op := .mov (.t 13), dst := some 15 },
    { op := .mov (.t 15), dst := some 5 }]
def a32_r6 : ACode := .draw [{ op := .mov (.t 0), dst := some 16 },
    { op := .mov (.t 5), dst := some 17 },
    { op := .iad 13 (.t 16) (.t 17), dst := some 18 },
    { op := .load 13 true (.t 18), dst := some 19 },
    { op := .mov (.t 1), dst := some 20 },
    { op := .mov (.t 5), dst := some 21 },
    { op := .iad 13 (.t 20) (.t 21), dst := some 22 },
    { op := .load 13 true (.t 22), dst := some 23 },
    { op := .eqs true [.i .i64, .i .i64, .i .i64, .i .i64, .i .i64, .i .i64, .s, .s, .s, .s, .i .i64, .i .i64, .i .i64] (.t 19) (.t 23), dst := some 24 }]
    []
    (.take 0 (.take 1 (.take 2 (.take 3 (.take 4 (.take 5 (.take 6 (.take 7 (.take 8 (.done))))))))))
def a32_r7 : ACode := .reg [{ op := .mov (.c (.bool false)), dst := some 4 }]
def a32_r8 : ACode := .reg [{ op := .bin .add (.t 13) (.c (.int .i64 1)), dst := some 25 },
    { op := .mov (.t 25), dst := some 13 }]
def a32_l0 : ACode := (.seq a32_r4 (.seq (.cond (.t 14) .skip (.exit 0)) (.seq (.block 1 (.seq a32_r5 (.seq a32_r6 (.cond (.t 24) (.seq a32_r7 .ret) .skip)))) a32_r8)))
def a32_r9 : ACode := .reg [{ op := .mov (.c (.bool true)), dst := some 4 }]
def a32 : ACode := (.seq a32_r0 (.seq (.seq a32_r1 (.cond (.t 10) (.seq a32_r2 .ret) .skip)) (.seq (.seq a32_r3 (.block 0 (.loop a32_l0))) (.seq a32_r9 .ret))))
def a32_res : List ARes := [.tmp 4]
theorem a32_ok : Coded Try.prog 32 26 a32 a32_res := ⟨Try.f32, _, by kernel_rfl, rfl, by kernel_rfl, rfl, by kernel_rfl, by kernel_rfl⟩
theorem a32_of {args : List AV} {Q : AV → Prop} (hl : args.length ≤ 26) (h : AW Try.prog 26 a32 (mkS (argT 0 args) [] 0) (retQ a32_res Q)) : ACall Try.prog 32 args Q := acall_coded a32_ok hl h

/- workflow/taskqueue.period -/
def a33_r0 : ACode := .reg [{ op := .mov (.c (.bool false)), dst := some 4 }]
def a33_r1 : ACode := .reg [{ op := .mov (.t 0), dst := some 5 },
    { op := .bin .geq (.t 5) (.c (.int .i64 0)), dst := some 6 },
    { op := .mov (.t 6), dst := some 7 },
    { op := .mov (.t 0), dst := some 8, g := some (7, true) },
    { op := .bin .leq (.t 8) (.c (.int .i64 1099511627776)), dst := some 9, g := some (7, true) },
    { op := .pick (.t 7) (.t 9) (.c (.bool false)), dst := some 10 },
    { op := .mov (.t 10), dst := some 11 },
    { op := .mov (.t 1), dst := some 12, g := some (11, true) },
    { op := .bin .geq (.t 12) (.c (.int .i64 1)), dst := some 13, g := some (11, true) },
    { op := .pick (.t 11) (.t 13) (.c (.bool false)), dst := some 14 },
    { op := .mov (.t 14), dst := some 15 },
    { op := .mov (.t 1), dst := some 16, g := some (15, true) },
    { op := .bin .leq (.t 16) (.c (.int .i64 1099511627776)), dst := some 17, g := some (15, true) },
    { op := .pick (.t 15) (.t 17) (.c (.bool false)), dst := some 18 },
    { op := .mov (.t 18), dst := some 4 }]
def a33 : ACode := (.seq a33_r0 (.seq a33_r1 .ret))
def a33_res : List ARes := [.tmp 4]
theorem a33_ok : Coded Try.prog 33 19 a33 a33_res := ⟨Try.f33, _, by kernel_rfl, rfl, by kernel_rfl, rfl, by kernel_rfl, by kernel_rfl⟩
theorem a33_of {args : List AV} {Q : AV → Prop} (hl : args.length ≤ 19) (h : AW Try.prog 19 a33 (mkS (argT 0 args) [] 0) (retQ a33_res Q)) : ACall Try.prog 33 args Q := acall_coded a33_ok hl h

/- slices.IndexFunc[[]workflow/taskqueue.Item,workflow/taskqueue.Item] -/
def a34_r0 : ACode := .reg [{ op := .mov (.c (.int .i64 0)), dst := some 4 }]
def a34_r1 : ACode := .reg [{ op := .mov (.t 0), dst := some 6 },
    { op := .len false (.t 6), dst := some 7 },
    { op := .mov (.c (.int .i64 0)), dst := some 8 }]
def a34_r2 : ACode := .reg [{ op := .bin .lss (.t 8) (.t 7), dst := some 9 }]
def a34_r3 : ACode := .reg [{ op := .mov (.t 8), dst := some 10 },
    { op := .mov (.t 10), dst := some 5 }]
def a34_r4 : ACode := .reg [{ op := .mov (.t 1), dst := some 11 },
    { op := .mov (.t 0), dst := some 12 },
    { op := .mov (.t 5), dst := some 13 },
    { op := .iad 13 (.t 12) (.t 13), dst := some 14 },
    { op := .load 13 true (.t 14), dst := some 15 },
    { op := .callv (.t 11) [(.t 15)], dst := some 16 }]
def a34_r5 : ACode := .reg [{ op := .mov (.t 5), dst := some 17 },
    { op := .mov (.t 17), dst := some 4 }]
def a34_r6 : ACode := .reg [{ op := .bin .add (.t 8) (.c (.int .i64 1)), dst := some 18 },
    { op := .mov (.t 18), dst := some 8 }]
def a34_l0 : ACode := (.seq a34_r2 (.seq (.cond (.t 9) .skip (.exit 0)) (.seq (.block 1 (.seq a34_r3 (.seq a34_r4 (.cond (.t 16) (.seq a34_r5 .ret) .skip)))) a34_r6)))
def a34_r7 : ACode := .reg [{ op := .mov (.c (.int .i64 (-1))), dst := some 4 }]
def a34 : ACode := (.seq a34_r0 (.seq (.seq a34_r1 (.block 0 (.loop a34_l0))) (.seq a34_r7 .ret)))
def a34_res : List ARes := [.tmp 4]
theorem a34_ok : Coded Try.prog 34 19 a34 a34_res := ⟨Try.f34, _, by kernel_rfl, rfl, by kernel_rfl, rfl, by kernel_rfl, by kernel_rfl⟩
theorem a34_of {args : List AV} {Q : AV → Prop} (hl : args.length ≤ 19) (h : AW Try.prog 19 a34 (mkS (argT 0 args) [] 0) (retQ a34_res Q)) : ACall Try.prog 34 args Q := acall_coded a34_ok hl h

/- workflow/taskqueue.Poll$1 -/
def a35_r0 : ACode := .reg [{ op := .box 13 true (.t 0), dst := some 2, k := 0 },
    { op := .mov (.c (.bool false)), dst := some 3 }]
def a35_r1 : ACode := .reg [{ op := .load 13 true (.t 2), dst := some 4 },
    { op := .load 1 false (.t 1), dst := some 5 },
    { op := .call 36 [(.t 4), (.t 5)], dst := some 6 },
    { op := .mov (.t 6), dst := some 3 }]
def a35 : ACode := (.seq a35_r0 (.seq a35_r1 .ret))
def a35_res : List ARes := [.tmp 3]
theorem a35_ok : Coded Try.prog 35 7 a35 a35_res := ⟨Try.f35, _, by kernel_rfl, rfl, by kernel_rfl, rfl, by kernel_rfl, by kernel_rfl⟩
theorem a35_of {args : List AV} {Q : AV → Prop} (hl : args.length ≤ 7) (h : AW Try.prog 7 a35 (mkS (argT 0 args) [] 0) (retQ a35_res Q)) : ACall Try.prog 35 args Q := acall_coded a35_ok hl h

/- workflow/taskqueue.available -/
def a36_r0 : ACode := .reg [{ op := .box 13 true (.t 0), dst := some 2, k := 0 },
    { op := .mov (.c (.bool false)), dst := some 4 }]
def a36_r1 : ACode := .reg [{ op := .fad 9 (.t 2), dst := some 5 },
    { op := .load 1 false (.t 5), dst := some 6 },
    { op := .bin .eql (.t 6) (.c (.str [])), dst := some 7 },
    { op := .mov (.t 7), dst := some 8 },
    { op := .mov (.t 1), dst := some 9, g := some (8, false) },
    { op := .fad 11 (.t 2), dst := some 10, g := some (8, false) },
    { op := .load 1 false (.t 10), dst := some 11, g := some (8, false) },
    { op := .bin .geq (.t 9) (.t 11), dst := some 12, g := some (8, false) },
    { op := .pick (.t 8) (.c (.bool true)) (.t 12), dst := some 13 },
    { op := .mov (.t 13), dst := some 14 },
    { op := .fad 0 (.t 2), dst := some 15, g := some (14, true) },
    { op := .fad 4 (.t 15), dst := some 16, g := some (14, true) },
    { op := .load 1 false (.t 16), dst := some 17, g := some (14, true) },
    { op := .mov (.t 1), dst := some 18, g := some (14, true) },
    { op := .bin .leq (.t 17) (.t 18), dst := some 19, g := some (14, true) },
    { op := .pick (.t 14) (.t 19) (.c (.bool false)), dst := some 20 },
    { op := .mov (.t 20), dst := some 4 }]
def a36 : ACode := (.seq a36_r0 (.seq a36_r1 .ret))
def a36_res : List ARes := [.tmp 4]
theorem a36_ok : Coded Try.prog 36 21 a36 a36_res := ⟨Try.f36, _, by kernel_rfl, rfl, by kernel_rfl, rfl, by kernel_rfl, by kernel_rfl⟩
theorem a36_of {args : List AV} {Q : AV → Prop} (hl : args.length ≤ 21) (h : AW Try.prog 21 a36 (mkS (argT 0 args) [] 0) (retQ a36_res Q)) : ACall Try.prog 36 args Q := acall_coded a36_ok hl h

/- workflow/workflowref40.times -/
def a37_r0 : ACode := .reg [{ op := .mov (.c (.int .i64 0)), dst := some 4 }]
def a37_r1 : ACode := .reg [{ op := .mov (.t 0), dst := some 5 },
    { op := .bin .lss (.t 5) (.c (.int .i64 0)), dst := some 6 },
    { op := .mov (.t 6), dst := some 7 },
    { op := .mov (.t 0), dst := some 8, g := some (7, false) },
    { op := .bin .gtr (.t 8) (.c (.int .i64 1099511627776)), dst := some 9, g := some (7, false) },
    { op := .pick (.t 7) (.c (.bool true)) (.t 9), dst := some 10 },
    { op := .mov (.t 10), dst := some 11 },
    { op := .mov (.t 1), dst := some 12, g := some (11, false) },
    { op := .bin .lss (.t 12) (.c (.int .i64 1)), dst := some 13, g := some (11, false) },
    { op := .pick (.t 11) (.c (.bool true)) (.t 13), dst := some 14 },
    { op := .mov (.t 14), dst := some 15 },
    { op := .mov (.t 1), dst := some 16, g := some (15, false) },
    { op := .bin .gtr (.t 16) (.c (.int .i64 1099511627776)), dst := some 17, g := some (15, false) },
    { op := .pick (.t 15) (.c (.bool true)) (.t 17), dst := some 18 }]
def a37_r2 : ACode := .reg [{ op := .mov (.c (.int .i64 2)), dst := some 4 }]
def a37_r3 : ACode := .reg [{ op := .mov (.c (.int .i64 0)), dst := some 4 }]
def a37 : ACode := (.seq a37_r0 (.seq (.seq a37_r1 (.cond (.t 18) (.seq a37_r2 .ret) .skip)) (.seq a37_r3 .ret)))
def a37_res : List ARes := [.tmp 4]
theorem a37_ok : Coded Try.prog 37 19 a37 a37_res := ⟨Try.f37, _, by kernel_rfl, rfl, by kernel_rfl, rfl, by kernel_rfl, by kernel_rfl⟩
theorem a37_of {args : List AV} {Q : AV → Prop} (hl : args.length ≤ 19) (h : AW Try.prog 19 a37 (mkS (argT 0 args) [] 0) (retQ a37_res Q)) : ACall Try.prog 37 args Q := acall_coded a37_ok hl h

/- workflow/workflowref40.available -/
def a38_r0 : ACode := .reg [{ op := .box 13 true (.t 0), dst := some 2, k := 0 },
    { op := .mov (.c (.bool false)), dst := some 4 }]
def a38_r1 : ACode := .reg [{ op := .fad 9 (.t 2), dst := some 5 },
    { op := .load 1 false (.t 5), dst := some 6 },
    { op := .bin .eql (.t 6) (.c (.str [])), dst := some 7 },
    { op := .mov (.t 7), dst := some 8 },
    { op := .mov (.t 1), dst := some 9, g := some (8, false) },
    { op := .fad 11 (.t 2), dst := some 10, g := some (8, false) },
    { op := .load 1 false (.t 10), dst := some 11, g := some (8, false) },
    { op := .bin .geq (.t 9) (.t 11), dst := some 12, g := some (8, false) },
    { op := .pick (.t 8) (.c (.bool true)) (.t 12), dst := some 13 },
    { op := .mov (.t 13), dst := some 14 },
    { op := .fad 0 (.t 2), dst := some 15, g := some (14, true) },
    { op := .fad 4 (.t 15), dst := some 16, g := some (14, true) },
    { op := .load 1 false (.t 16), dst := some 17, g := some (14, true) },
    { op := .mov (.t 1), dst := some 18, g := some (14, true) },
    { op := .bin .leq (.t 17) (.t 18), dst := some 19, g := some (14, true) },
    { op := .pick (.t 14) (.t 19) (.c (.bool false)), dst := some 20 },
    { op := .mov (.t 20), dst := some 4 }]
def a38 : ACode := (.seq a38_r0 (.seq a38_r1 .ret))
def a38_res : List ARes := [.tmp 4]
theorem a38_ok : Coded Try.prog 38 21 a38 a38_res := ⟨Try.f38, _, by kernel_rfl, rfl, by kernel_rfl, rfl, by kernel_rfl, by kernel_rfl⟩
theorem a38_of {args : List AV} {Q : AV → Prop} (hl : args.length ≤ 21) (h : AW Try.prog 21 a38 (mkS (argT 0 args) [] 0) (retQ a38_res Q)) : ACall Try.prog 38 args Q := acall_coded a38_ok hl h

/- workflow/taskqueue.held -/
def a39_r0 : ACode := .reg [{ op := .box 2 true (.t 0), dst := some 2, k := 0 },
    { op := .box 1 false (.t 1), dst := some 3, k := 1 },
    { op := .mov (.c (.int .i64 0)), dst := some 4 }]
def a39_r1 : ACode := .reg [{ op := .load 1 false (.t 3), dst := some 5 },
    { op := .bin .lss (.t 5) (.c (.int .i64 1)), dst := some 6 }]
def a39_r2 : ACode := .reg [{ op := .mov (.c (.int .i64 (-1))), dst := some 4 }]
def a39_r3 : ACode := .reg [{ op := .fad 0 (.t 2), dst := some 7 },
    { op := .load 1 false (.t 7), dst := some 8 },
    { op := .mkf 44 [(.t 3)], dst := some 9 },
    { op := .call 34 [(.t 8), (.t 9)], dst := some 10 },
    { op := .mov (.t 10), dst := some 4 }]
def a39 : ACode := (.seq a39_r0 (.seq (.seq a39_r1 (.cond (.t 6) (.seq a39_r2 .ret) .skip)) (.seq a39_r3 .ret)))
def a39_res : List ARes := [.tmp 4]
theorem a39_ok : Coded Try.prog 39 11 a39 a39_res := ⟨Try.f39, _, by kernel_rfl, rfl, by kernel_rfl, rfl, by kernel_rfl, by kernel_rfl⟩
theorem a39_of {args : List AV} {Q : AV → Prop} (hl : args.length ≤ 11) (h : AW Try.prog 11 a39 (mkS (argT 0 args) [] 0) (retQ a39_res Q)) : ACall Try.prog 39 args Q := acall_coded a39_ok hl h

/- slices.Delete[[]workflow/taskqueue.Item,workflow/taskqueue.Item] -/
def a40_r0 : ACode := .reg [{ op := .mov (.c (.nils)), dst := some 6 }]
def a40_r1 : ACode := .reg [{ op := .mov (.t 0), dst := some 8 },
    { op := .mov (.t 1), dst := some 9 },
    { op := .mov (.t 2), dst := some 10 },
    { op := .mov (.t 0), dst := some 11 },
    { op := .len false (.t 11), dst := some 12 },
    { op := .slm (.t 8) (.t 9) (.t 10) (.t 12), dst := some 13 }]
def a40_r2 : ACode := .reg [{ op := .mov (.t 1), dst := some 14 },
    { op := .mov (.t 2), dst := some 15 },
    { op := .bin .eql (.t 14) (.t 15), dst := some 16 }]
def a40_r3 : ACode := .reg [{ op := .mov (.t 0), dst := some 17 },
    { op := .mov (.t 17), dst := some 6 }]
def a40_r4 : ACode := .reg [{ op := .mov (.t 0), dst := some 18 },
    { op := .len false (.t 18), dst := some 19 },
    { op := .mov (.t 19), dst := some 7 }]
def a40_r5 : ACode := .draw [{ op := .mov (.t 0), dst := some 20 },
    { op := .mov (.t 1), dst := some 21 },
    { op := .slice 13 (.t 20) none (some (.t 21)) none, dst := some 22 },
    { op := .mov (.t 0), dst := some 23 },
    { op := .mov (.t 2), dst := some 24 },
    { op := .slice 13 (.t 23) (some (.t 24)) none none, dst := some 25 },
    { op := .app 13 136 (.t 22) (.t 25), dst := some 26, k := 21 },
    { op := .mov (.t 26), dst := some 0 }]
    []
    (.take 0 (.take 1 (.take 2 (.take 3 (.take 4 (.take 5 (.one 6 (.one 7 (.done)))))))))
def a40_r6 : ACode := .reg [{ op := .mov (.t 0), dst := some 27 },
    { op := .mov (.t 0), dst := some 28 },
    { op := .len false (.t 28), dst := some 29 },
    { op := .mov (.t 7), dst := some 30 },
    { op := .slice 13 (.t 27) (some (.t 29)) (some (.t 30)) none, dst := some 31 },
    { op := .clr 13 true [.int .i64 0, .int .i64 0, .int .i64 0, .int .i64 0, .int .i64 0, .int .i64 0, .str [], .str [], .str [], .str [], .int .i64 0, .int .i64 0, .int .i64 0] (.t 31), dst := none }]
def a40_r7 : ACode := .reg [{ op := .mov (.t 0), dst := some 32 },
    { op := .mov (.t 32), dst := some 6 }]
def a40 : ACode := (.seq a40_r0 (.seq a40_r1 (.seq (.seq a40_r2 (.cond (.t 16) (.seq a40_r3 .ret) .skip)) (.seq a40_r4 (.seq a40_r5 (.seq a40_r6 (.seq a40_r7 .ret)))))))
def a40_res : List ARes := [.tmp 6]
theorem a40_ok : Coded Try.prog 40 33 a40 a40_res := ⟨Try.f40, _, by kernel_rfl, rfl, by kernel_rfl, rfl, by kernel_rfl, by kernel_rfl⟩
theorem a40_of {args : List AV} {Q : AV → Prop} (hl : args.length ≤ 33) (h : AW Try.prog 33 a40 (mkS (argT 0 args) [] 0) (retQ a40_res Q)) : ACall Try.prog 40 args Q := acall_coded a40_ok hl h

/- workflow/workflowref40.find -/
def a41_r0 : ACode := .reg [{ op := .box 2 true (.t 0), dst := some 2, k := 0 },
    { op := .mov (.c (.int .i64 0)), dst := some 4 }]
def a41_r1 : ACode := .reg [{ op := .fad 0 (.t 2), dst := some 7 },
    { op := .load 1 false (.t 7), dst := some 8 },
    { op := .len false (.t 8), dst := some 9 },
    { op := .mov (.c (.int .i64 0)), dst := some 10 }]
def a41_r2 : ACode := .reg [{ op := .bin .lss (.t 10) (.t 9), dst := some 11 }]
def a41_r3 : ACode := .reg [{ op := .mov (.t 10), dst := some 12 },
    { op := .iad 13 (.t 8) (.t 10), dst := some 13 },
    { op := .load 13 true (.t 13), dst := some 14 },
    { op := .alloc 13 true [.int .i64 0, .int .i64 0, .int .i64 0, .int .i64 0, .int .i64 0, .int .i64 0, .str [], .str [], .str [], .str [], .int .i64 0, .int .i64 0, .int .i64 0], dst := some 6, k := 10 },
    { op := .mov (.t 12), dst := some 5 },
    { op := .store 13 true (.t 6) (.t 14), dst := none }]
def a41_r4 : ACode := .reg [{ op := .mov (.t 1), dst := some 15 },
    { op := .bin .geq (.t 15) (.c (.int .i64 1)), dst := some 16 },
    { op := .mov (.t 16), dst := some 17 },
    { op := .fad 10 (.t 6), dst := some 18, g := some (17, true) },
    { op := .load 1 false (.t 18), dst := some 19, g := some (17, true) },
    { op := .mov (.t 1), dst := some 20, g := some (17, true) },
    { op := .bin .eql (.t 19) (.t 20), dst := some 21, g := some (17, true) },
    { op := .pick (.t 17) (.t 21) (.c (.bool false)), dst := some 22 }]
def a41_r5 : ACode := .reg [{ op := .mov (.t 5), dst := some 23 },
    { op := .mov (.t 23), dst := some 4 }]
def a41_r6 : ACode := .reg [{ op := .bin .add (.t 10) (.c (.int .i64 1)), dst := some 24 },
    { op := .mov (.t 24), dst := some 10 }]
def a41_l0 : ACode := (.seq a41_r2 (.seq (.cond (.t 11) .skip (.exit 0)) (.seq (.block 1 (.seq a41_r3 (.seq a41_r4 (.cond (.t 22) (.seq a41_r5 .ret) .skip)))) a41_r6)))
def a41_r7 : ACode := .reg [{ op := .mov (.c (.int .i64 (-1))), dst := some 4 }]
def a41 : ACode := (.seq a41_r0 (.seq (.seq a41_r1 (.block 0 (.loop a41_l0))) (.seq a41_r7 .ret)))
def a41_res : List ARes := [.tmp 4]
theorem a41_ok : Coded Try.prog 41 25 a41 a41_res := ⟨Try.f41, _, by kernel_rfl, rfl, by kernel_rfl, rfl, by kernel_rfl, by kernel_rfl⟩
theorem a41_of {args : List AV} {Q : AV → Prop} (hl : args.length ≤ 25) (h : AW Try.prog 25 a41 (mkS (argT 0 args) [] 0) (retQ a41_res Q)) : ACall Try.prog 41 args Q := acall_coded a41_ok hl h

/- workflow/workflowlaw40.other -/
def a42_r0 : ACode := .reg [{ op := .box 2 true (.t 0), dst := some 4, k := 0 },
    { op := .alloc 2 true [.nils, .int .i64 0], dst := some 8, k := 1 },
    { op := .mov (.c (.int .i64 0)), dst := some 9 }]
def a42_r1 : ACode := .reg [{ op := .mov (.t 1), dst := some 10 }]
def a42_r2 : ACode := .reg [{ op := .bin .eql (.t 10) (.c (.int .i64 2)), dst := some 12 },
    { op := .mov (.t 12), dst := some 11 }]
def a42_r3 : ACode := .reg [{ op := .load 2 true (.t 4), dst := some 13 },
    { op := .mov (.t 2), dst := some 14 },
    { op := .call 18 [(.t 13), (.t 14)], dst := some 15 },
    { op := .ext (.t 15) 0, dst := some 16 },
    { op := .ext (.t 15) 1, dst := some 17 },
    { op := .store 2 true (.t 8) (.t 16), dst := none },
    { op := .mov (.t 17), dst := some 9 }]
def a42_r4 : ACode := .reg [{ op := .bin .eql (.t 10) (.c (.int .i64 4)), dst := some 19 },
    { op := .mov (.t 19), dst := some 18 }]
def a42_r5 : ACode := .reg [{ op := .load 2 true (.t 4), dst := some 20 },
    { op := .mov (.t 2), dst := some 21 },
    { op := .mov (.t 3), dst := some 22 },
    { op := .call 20 [(.t 20), (.t 21), (.t 22), (.c (.int .i64 5))], dst := some 23 },
    { op := .ext (.t 23) 0, dst := some 24 },
    { op := .ext (.t 23) 1, dst := some 25 },
    { op := .store 2 true (.t 8) (.t 24), dst := none },
    { op := .mov (.t 25), dst := some 9 }]
def a42_r6 : ACode := .reg [{ op := .load 2 true (.t 4), dst := some 26 },
    { op := .mov (.t 2), dst := some 27 },
    { op := .call 22 [(.t 26), (.t 27)], dst := some 28 },
    { op := .ext (.t 28) 0, dst := some 29 },
    { op := .ext (.t 28) 1, dst := some 30 },
    { op := .store 2 true (.t 8) (.t 29), dst := none },
    { op := .mov (.t 30), dst := some 9 }]
def a42 : ACode := (.seq a42_r0 (.seq (.seq a42_r1 (.block 0 (.seq a42_r2 (.cond (.t 11) (.seq a42_r3 .ret) (.seq a42_r4 (.cond (.t 18) (.seq a42_r5 .ret) .skip)))))) (.seq a42_r6 .ret)))
def a42_res : List ARes := [.cell 8 2 true, .tmp 9]
theorem a42_ok : Coded Try.prog 42 31 a42 a42_res := ⟨Try.f42, _, by kernel_rfl, rfl, by kernel_rfl, rfl, by kernel_rfl, by kernel_rfl⟩
theorem a42_of {args : List AV} {Q : AV → Prop} (hl : args.length ≤ 31) (h : AW Try.prog 31 a42 (mkS (argT 0 args) [] 0) (retQ a42_res Q)) : ACall Try.prog 42 args Q := acall_coded a42_ok hl h

/- slices.Clone[[]workflow/taskqueue.Item,workflow/taskqueue.Item] -/
def a43_r0 : ACode := .reg [{ op := .mov (.c (.nils)), dst := some 2 }]
def a43_r1 : ACode := .reg [{ op := .mov (.t 0), dst := some 3 },
    { op := .eqz false (.t 3), dst := some 4 }]
def a43_r2 : ACode := .reg [{ op := .mov (.c (.nils)), dst := some 2 }]
def a43_r3 : ACode := .reg [{ op := .bsl 13 true 0 [.int .i64 0, .int .i64 0, .int .i64 0, .int .i64 0, .int .i64 0, .int .i64 0, .str [], .str [], .str [], .str [], .int .i64 0, .int .i64 0, .int .i64 0] [], dst := some 5 },
    { op := .mov (.t 0), dst := some 6 },
    { op := .app 13 136 (.t 5) (.t 6), dst := some 7, k := 6 },
    { op := .mov (.t 7), dst := some 2 }]
def a43 : ACode := (.seq a43_r0 (.seq (.seq a43_r1 (.cond (.t 4) (.seq a43_r2 .ret) .skip)) (.seq a43_r3 .ret)))
def a43_res : List ARes := [.tmp 2]
theorem a43_ok : Coded Try.prog 43 8 a43 a43_res := ⟨Try.f43, _, by kernel_rfl, rfl, by kernel_rfl, rfl, by kernel_rfl, by kernel_rfl⟩
theorem a43_of {args : List AV} {Q : AV → Prop} (hl : args.length ≤ 8) (h : AW Try.prog 8 a43 (mkS (argT 0 args) [] 0) (retQ a43_res Q)) : ACall Try.prog 43 args Q := acall_coded a43_ok hl h

/- workflow/taskqueue.held$1 -/
def a44_r0 : ACode := .reg [{ op := .box 13 true (.t 0), dst := some 2, k := 0 },
    { op := .mov (.c (.bool false)), dst := some 3 }]
def a44_r1 : ACode := .reg [{ op := .fad 10 (.t 2), dst := some 4 },
    { op := .load 1 false (.t 4), dst := some 5 },
    { op := .load 1 false (.t 1), dst := some 6 },
    { op := .bin .eql (.t 5) (.t 6), dst := some 7 },
    { op := .mov (.t 7), dst := some 3 }]
def a44 : ACode := (.seq a44_r0 (.seq a44_r1 .ret))
def a44_res : List ARes := [.tmp 3]
theorem a44_ok : Coded Try.prog 44 8 a44 a44_res := ⟨Try.f44, _, by kernel_rfl, rfl, by kernel_rfl, rfl, by kernel_rfl, by kernel_rfl⟩
theorem a44_of {args : List AV} {Q : AV → Prop} (hl : args.length ≤ 8) (h : AW Try.prog 8 a44 (mkS (argT 0 args) [] 0) (retQ a44_res Q)) : ACall Try.prog 44 args Q := acall_coded a44_ok hl h

/- workflow/workflowlaw40.TaskqueueAdd -/
def a3_r0 : ACode := .reg [{ op := .box 2 true (.t 0), dst := some 2, k := 0 },
    { op := .box 9 true (.t 1), dst := some 3, k := 1 },
    { op := .mov (.c (.bool false)), dst := some 4 }]
def a3_r1 : ACode := .reg [{ op := .load 2 true (.t 2), dst := some 11 },
    { op := .call 7 [(.t 11)], dst := some 12 }]
def a3_r2 : ACode := .reg [{ op := .call 8 [], dst := some 13 },
    { op := .mov (.t 13), dst := some 4 }]
def a3_r3 : ACode := .reg [{ op := .load 2 true (.t 2), dst := some 15 },
    { op := .load 9 true (.t 3), dst := some 16 },
    { op := .call 9 [(.t 15), (.t 16)], dst := some 17 },
    { op := .mov (.t 17), dst := some 14 },
    { op := .ext (.t 14) 0, dst := some 18 },
    { op := .ext (.t 14) 1, dst := some 19 },
    { op := .ext (.t 14) 2, dst := some 20 },
    { op := .alloc 2 true [.nils, .int .i64 0], dst := some 5, k := 14 },
    { op := .store 2 true (.t 5) (.t 18), dst := none },
    { op := .mov (.t 19), dst := some 6 },
    { op := .mov (.t 20), dst := some 7 }]
def a3_r4 : ACode := .draw [{ op := .load 2 true (.t 2), dst := some 22 },
    { op := .call 11 [(.t 22)], dst := some 23 },
    { op := .load 9 true (.t 3), dst := some 24 },
    { op := .call 10 [(.t 23), (.t 24)], dst := some 25 },
    { op := .mov (.t 25), dst := some 21 },
    { op := .ext (.t 21) 0, dst := some 26 },
    { op := .ext (.t 21) 1, dst := some 27 },
    { op := .ext (.t 21) 2, dst := some 28 },
    { op := .alloc 2 true [.nils, .int .i64 0], dst := some 8, k := 26 },
    { op := .store 2 true (.t 8) (.t 26), dst := none },
    { op := .mov (.t 27), dst := some 9 },
    { op := .mov (.t 28), dst := some 10 }]
    [(1, [2]), (8, [0, 2])]
    (.take 0 (.take 2 (.two 1 (.two 3 (.take 4 (.take 5 (.take 6 (.take 7 (.one 8 (.one 9 (.take 10 (.take 11 (.done))))))))) 8 (.one 3 (.take 4 (.take 5 (.take 6 (.take 7 (.one 9 (.take 10 (.take 11 (.done)))))))))) 8 (.one 1 (.one 3 (.take 4 (.take 5 (.take 6 (.take 7 (.one 9 (.take 10 (.take 11 (.done)))))))))))))
def a3_r5 : ACode := .reg [{ op := .mov (.t 7), dst := some 29 },
    { op := .mov (.t 10), dst := some 30 },
    { op := .bin .eql (.t 29) (.t 30), dst := some 31 },
    { op := .mov (.t 31), dst := some 32 },
    { op := .mov (.t 6), dst := some 33, g := some (32, true) },
    { op := .mov (.t 9), dst := some 34, g := some (32, true) },
    { op := .eqb false (.t 33) (.t 34), dst := some 35, g := some (32, true) },
    { op := .pick (.t 32) (.t 35) (.c (.bool false)), dst := some 36 },
    { op := .mov (.t 36), dst := some 37 },
    { op := .load 2 true (.t 5), dst := some 38, g := some (37, true) },
    { op := .load 2 true (.t 8), dst := some 39, g := some (37, true) },
    { op := .call 12 [(.t 38), (.t 39)], dst := some 40, g := some (37, true) },
    { op := .pick (.t 37) (.t 40) (.c (.bool false)), dst := some 41 },
    { op := .mov (.t 41), dst := some 42 },
    { op := .call 8 [], dst := some 43, g := some (42, true) },
    { op := .pick (.t 42) (.t 43) (.c (.bool false)), dst := some 44 },
    { op := .mov (.t 44), dst := some 4 }]
def a3 : ACode := (.seq a3_r0 (.seq (.seq a3_r1 (.cond (.t 12) (.seq a3_r2 .ret) .skip)) (.seq a3_r3 (.seq a3_r4 (.seq a3_r5 .ret)))))
def a3_res : List ARes := [.tmp 4]
theorem a3_ok : Coded Try.prog 3 45 a3 a3_res := ⟨Try.f3, _, by kernel_rfl, rfl, by kernel_rfl, rfl, by kernel_rfl, by kernel_rfl⟩
theorem a3_of {args : List AV} {Q : AV → Prop} (hl : args.length ≤ 45) (h : AW Try.prog 45 a3 (mkS (argT 0 args) [] 0) (retQ a3_res Q)) : ACall Try.prog 3 args Q := acall_coded a3_ok hl h

/- workflow/workflowlaw40.TaskqueuePoll -/
def a4_r0 : ACode := .reg [{ op := .box 2 true (.t 0), dst := some 4, k := 0 },
    { op := .mov (.c (.bool false)), dst := some 8 }]
def a4_r1 : ACode := .reg [{ op := .load 2 true (.t 4), dst := some 18 },
    { op := .call 7 [(.t 18)], dst := some 19 },
    { op := .mov (.t 19), dst := some 20 },
    { op := .mov (.t 1), dst := some 21, g := some (20, false) },
    { op := .len true (.t 21), dst := some 22, g := some (20, false) },
    { op := .bin .gtr (.t 22) (.c (.int .i64 200)), dst := some 23, g := some (20, false) },
    { op := .pick (.t 20) (.c (.bool true)) (.t 23), dst := some 24 }]
def a4_r2 : ACode := .reg [{ op := .call 8 [], dst := some 25 },
    { op := .mov (.t 25), dst := some 8 }]
def a4_r3 : ACode := .reg [{ op := .load 2 true (.t 4), dst := some 27 },
    { op := .mov (.t 1), dst := some 28 },
    { op := .mov (.t 2), dst := some 29 },
    { op := .mov (.t 3), dst := some 30 },
    { op := .call 13 [(.t 27), (.t 28), (.t 29), (.t 30)], dst := some 31 },
    { op := .mov (.t 31), dst := some 26 },
    { op := .ext (.t 26) 0, dst := some 32 },
    { op := .ext (.t 26) 1, dst := some 33 },
    { op := .ext (.t 26) 2, dst := some 34 },
    { op := .ext (.t 26) 3, dst := some 35 },
    { op := .alloc 2 true [.nils, .int .i64 0], dst := some 9, k := 21 },
    { op := .alloc 13 true [.int .i64 0, .int .i64 0, .int .i64 0, .int .i64 0, .int .i64 0, .int .i64 0, .str [], .str [], .str [], .str [], .int .i64 0, .int .i64 0, .int .i64 0], dst := some 10, k := 22 },
    { op := .store 2 true (.t 9) (.t 32), dst := none },
    { op := .store 13 true (.t 10) (.t 33), dst := none },
    { op := .mov (.t 34), dst := some 11 },
    { op := .mov (.t 35), dst := some 12 }]
def a4_r4 : ACode := .reg [{ op := .load 2 true (.t 4), dst := some 37 },
    { op := .call 11 [(.t 37)], dst := some 38 },
    { op := .mov (.t 1), dst := some 39 },
    { op := .mov (.t 2), dst := some 40 },
    { op := .mov (.t 3), dst := some 41 },
    { op := .call 14 [(.t 38), (.t 39), (.t 40), (.t 41)], dst := some 42 },
    { op := .mov (.t 42), dst := some 36 },
    { op := .ext (.t 36) 0, dst := some 43 },
    { op := .ext (.t 36) 1, dst := some 44 },
    { op := .ext (.t 36) 2, dst := some 45 },
    { op := .ext (.t 36) 3, dst := some 46 },
    { op := .alloc 2 true [.nils, .int .i64 0], dst := some 13, k := 38 },
    { op := .alloc 13 true [.int .i64 0, .int .i64 0, .int .i64 0, .int .i64 0, .int .i64 0, .int .i64 0, .str [], .str [], .str [], .str [], .int .i64 0, .int .i64 0, .int .i64 0], dst := some 14, k := 39 },
    { op := .store 2 true (.t 13) (.t 43), dst := none },
    { op := .store 13 true (.t 14) (.t 44), dst := none },
    { op := .mov (.t 45), dst := some 15 },
    { op := .mov (.t 46), dst := some 16 }]
def a4_r5 : ACode := .reg [{ op := .fad 0 (.t 10), dst := some 47 },
    { op := .load 9 true (.t 47), dst := some 48 },
    { op := .fad 9 (.t 10), dst := some 49 },
    { op := .load 1 false (.t 49), dst := some 50 },
    { op := .fad 10 (.t 10), dst := some 51 },
    { op := .load 1 false (.t 51), dst := some 52 },
    { op := .fad 11 (.t 10), dst := some 53 },
    { op := .load 1 false (.t 53), dst := some 54 },
    { op := .fad 12 (.t 10), dst := some 55 },
    { op := .load 1 false (.t 55), dst := some 56 },
    { op := .build [.int .i64 0, .int .i64 0, .int .i64 0, .int .i64 0, .int .i64 0, .int .i64 0, .str [], .str [], .str [], .str [], .int .i64 0, .int .i64 0, .int .i64 0] [(0, 9, (.t 48)), (9, 1, (.t 50)), (10, 1, (.t 52)), (11, 1, (.t 54)), (12, 1, (.t 56))], dst := some 57 },
    { op := .alloc 13 true [.int .i64 0, .int .i64 0, .int .i64 0, .int .i64 0, .int .i64 0, .int .i64 0, .str [], .str [], .str [], .str [], .int .i64 0, .int .i64 0, .int .i64 0], dst := some 17, k := 55 },
    { op := .store 13 true (.t 17) (.t 57), dst := none }]
def a4_r6 : ACode := .draw [{ op := .mov (.t 12), dst := some 58 },
    { op := .mov (.t 16), dst := some 59 },
    { op := .bin .eql (.t 58) (.t 59), dst := some 60 },
    { op := .mov (.t 60), dst := some 61 },
    { op := .mov (.t 11), dst := some 62, g := some (61, true) },
    { op := .mov (.t 15), dst := some 63, g := some (61, true) },
    { op := .eqb false (.t 62) (.t 63), dst := some 64, g := some (61, true) },
    { op := .pick (.t 61) (.t 64) (.c (.bool false)), dst := some 65 },
    { op := .mov (.t 65), dst := some 66 },
    { op := .load 13 true (.t 17), dst := some 67, g := some (66, true) },
    { op := .load 13 true (.t 14), dst := some 68, g := some (66, true) },
    { op := .eqs false [.i .i64, .i .i64, .i .i64, .i .i64, .i .i64, .i .i64, .s, .s, .s, .s, .i .i64, .i .i64, .i .i64] (.t 67) (.t 68), dst := some 69, g := some (66, true) },
    { op := .pick (.t 66) (.t 69) (.c (.bool false)), dst := some 70 },
    { op := .mov (.t 70), dst := some 71 },
    { op := .load 2 true (.t 9), dst := some 72, g := some (71, true) },
    { op := .load 2 true (.t 13), dst := some 73, g := some (71, true) },
    { op := .call 12 [(.t 72), (.t 73)], dst := some 74, g := some (71, true) },
    { op := .pick (.t 71) (.t 74) (.c (.bool false)), dst := some 75 },
    { op := .mov (.t 75), dst := some 76 },
    { op := .load 2 true (.t 4), dst := some 77, g := some (76, true) },
    { op := .mov (.t 2), dst := some 78, g := some (76, true) },
    { op := .call 16 [(.t 77), (.t 78)], dst := some 79, g := some (76, true) },
    { op := .load 2 true (.t 4), dst := some 80, g := some (76, true) },
    { op := .call 11 [(.t 80)], dst := some 81, g := some (76, true) },
    { op := .mov (.t 2), dst := some 82, g := some (76, true) },
    { op := .call 17 [(.t 81), (.t 82)], dst := some 83, g := some (76, true) },
    { op := .call 15 [(.t 79), (.t 83)], dst := some 84, g := some (76, true) },
    { op := .pick (.t 76) (.t 84) (.c (.bool false)), dst := some 85 },
    { op := .mov (.t 85), dst := some 86 },
    { op := .call 8 [], dst := some 87, g := some (86, true) },
    { op := .pick (.t 86) (.t 87) (.c (.bool false)), dst := some 88 },
    { op := .mov (.t 88), dst := some 8 }]
    [(21, [22])]
    (.take 0 (.take 1 (.take 2 (.take 3 (.take 4 (.take 5 (.take 6 (.take 7 (.take 8 (.take 9 (.take 10 (.take 11 (.take 12 (.take 13 (.take 14 (.take 15 (.one 16 (.take 17 (.take 18 (.take 19 (.take 20 (.take 22 (.take 24 (.one 21 (.one 23 (.one 25 (.one 26 (.take 27 (.take 28 (.one 29 (.take 30 (.take 31 (.done)))))))))))))))))))))))))))))))))
def a4 : ACode := (.seq a4_r0 (.seq (.seq a4_r1 (.cond (.t 24) (.seq a4_r2 .ret) .skip)) (.seq a4_r3 (.seq a4_r4 (.seq a4_r5 (.seq a4_r6 .ret))))))
def a4_res : List ARes := [.tmp 8]
theorem a4_ok : Coded Try.prog 4 89 a4 a4_res := ⟨Try.f4, _, by kernel_rfl, rfl, by kernel_rfl, rfl, by kernel_rfl, by kernel_rfl⟩
theorem a4_of {args : List AV} {Q : AV → Prop} (hl : args.length ≤ 89) (h : AW Try.prog 89 a4 (mkS (argT 0 args) [] 0) (retQ a4_res Q)) : ACall Try.prog 4 args Q := acall_coded a4_ok hl h

/- workflow/workflowlaw40.TaskqueueTokens -/
def a5_r0 : ACode := .reg [{ op := .box 2 true (.t 0), dst := some 4, k := 0 },
    { op := .mov (.c (.bool false)), dst := some 8 }]
def a5_r1 : ACode := .reg [{ op := .load 2 true (.t 4), dst := some 21 },
    { op := .call 7 [(.t 21)], dst := some 22 }]
def a5_r2 : ACode := .reg [{ op := .call 8 [], dst := some 23 },
    { op := .mov (.t 23), dst := some 8 }]
def a5_r3 : ACode := .reg [{ op := .load 2 true (.t 4), dst := some 25 },
    { op := .mov (.t 1), dst := some 26 },
    { op := .call 18 [(.t 25), (.t 26)], dst := some 27 },
    { op := .mov (.t 27), dst := some 24 },
    { op := .ext (.t 24) 0, dst := some 28 },
    { op := .ext (.t 24) 1, dst := some 29 },
    { op := .alloc 2 true [.nils, .int .i64 0], dst := some 9, k := 12 },
    { op := .store 2 true (.t 9) (.t 28), dst := none },
    { op := .mov (.t 29), dst := some 10 }]
def a5_r4 : ACode := .reg [{ op := .load 2 true (.t 4), dst := some 31 },
    { op := .call 11 [(.t 31)], dst := some 32 },
    { op := .mov (.t 1), dst := some 33 },
    { op := .call 19 [(.t 32), (.t 33)], dst := some 34 },
    { op := .mov (.t 34), dst := some 30 },
    { op := .ext (.t 30) 0, dst := some 35 },
    { op := .ext (.t 30) 1, dst := some 36 },
    { op := .alloc 2 true [.nils, .int .i64 0], dst := some 11, k := 22 },
    { op := .store 2 true (.t 11) (.t 35), dst := none },
    { op := .mov (.t 36), dst := some 12 }]
def a5_r5 : ACode := .reg [{ op := .load 2 true (.t 4), dst := some 38 },
    { op := .mov (.t 1), dst := some 39 },
    { op := .mov (.t 2), dst := some 40 },
    { op := .mov (.t 3), dst := some 41 },
    { op := .call 20 [(.t 38), (.t 39), (.t 40), (.t 41)], dst := some 42 },
    { op := .mov (.t 42), dst := some 37 },
    { op := .ext (.t 37) 0, dst := some 43 },
    { op := .ext (.t 37) 1, dst := some 44 },
    { op := .alloc 2 true [.nils, .int .i64 0], dst := some 13, k := 33 },
    { op := .store 2 true (.t 13) (.t 43), dst := none },
    { op := .mov (.t 44), dst := some 14 }]
def a5_r6 : ACode := .reg [{ op := .load 2 true (.t 4), dst := some 46 },
    { op := .call 11 [(.t 46)], dst := some 47 },
    { op := .mov (.t 1), dst := some 48 },
    { op := .mov (.t 2), dst := some 49 },
    { op := .mov (.t 3), dst := some 50 },
    { op := .call 21 [(.t 47), (.t 48), (.t 49), (.t 50)], dst := some 51 },
    { op := .mov (.t 51), dst := some 45 },
    { op := .ext (.t 45) 0, dst := some 52 },
    { op := .ext (.t 45) 1, dst := some 53 },
    { op := .alloc 2 true [.nils, .int .i64 0], dst := some 15, k := 45 },
    { op := .store 2 true (.t 15) (.t 52), dst := none },
    { op := .mov (.t 53), dst := some 16 }]
def a5_r7 : ACode := .reg [{ op := .load 2 true (.t 4), dst := some 55 },
    { op := .mov (.t 1), dst := some 56 },
    { op := .call 22 [(.t 55), (.t 56)], dst := some 57 },
    { op := .mov (.t 57), dst := some 54 },
    { op := .ext (.t 54) 0, dst := some 58 },
    { op := .ext (.t 54) 1, dst := some 59 },
    { op := .alloc 2 true [.nils, .int .i64 0], dst := some 17, k := 54 },
    { op := .store 2 true (.t 17) (.t 58), dst := none },
    { op := .mov (.t 59), dst := some 18 }]
def a5_r8 : ACode := .reg [{ op := .load 2 true (.t 4), dst := some 61 },
    { op := .call 11 [(.t 61)], dst := some 62 },
    { op := .mov (.t 1), dst := some 63 },
    { op := .call 23 [(.t 62), (.t 63)], dst := some 64 },
    { op := .mov (.t 64), dst := some 60 },
    { op := .ext (.t 60) 0, dst := some 65 },
    { op := .ext (.t 60) 1, dst := some 66 },
    { op := .alloc 2 true [.nils, .int .i64 0], dst := some 19, k := 64 },
    { op := .store 2 true (.t 19) (.t 65), dst := none },
    { op := .mov (.t 66), dst := some 20 }]
def a5_r9 : ACode := .reg [{ op := .mov (.t 10), dst := some 67 },
    { op := .mov (.t 12), dst := some 68 },
    { op := .bin .eql (.t 67) (.t 68), dst := some 69 },
    { op := .mov (.t 69), dst := some 70 },
    { op := .mov (.t 14), dst := some 71, g := some (70, true) },
    { op := .mov (.t 16), dst := some 72, g := some (70, true) },
    { op := .bin .eql (.t 71) (.t 72), dst := some 73, g := some (70, true) },
    { op := .pick (.t 70) (.t 73) (.c (.bool false)), dst := some 74 },
    { op := .mov (.t 74), dst := some 75 },
    { op := .mov (.t 18), dst := some 76, g := some (75, true) },
    { op := .mov (.t 20), dst := some 77, g := some (75, true) },
    { op := .bin .eql (.t 76) (.t 77), dst := some 78, g := some (75, true) },
    { op := .pick (.t 75) (.t 78) (.c (.bool false)), dst := some 79 },
    { op := .mov (.t 79), dst := some 80 },
    { op := .load 2 true (.t 9), dst := some 81, g := some (80, true) },
    { op := .load 2 true (.t 11), dst := some 82, g := some (80, true) },
    { op := .call 12 [(.t 81), (.t 82)], dst := some 83, g := some (80, true) },
    { op := .pick (.t 80) (.t 83) (.c (.bool false)), dst := some 84 },
    { op := .mov (.t 84), dst := some 85 },
    { op := .load 2 true (.t 13), dst := some 86, g := some (85, true) },
    { op := .load 2 true (.t 15), dst := some 87, g := some (85, true) },
    { op := .call 12 [(.t 86), (.t 87)], dst := some 88, g := some (85, true) },
    { op := .pick (.t 85) (.t 88) (.c (.bool false)), dst := some 89 },
    { op := .mov (.t 89), dst := some 90 },
    { op := .load 2 true (.t 17), dst := some 91, g := some (90, true) },
    { op := .load 2 true (.t 19), dst := some 92, g := some (90, true) },
    { op := .call 12 [(.t 91), (.t 92)], dst := some 93, g := some (90, true) },
    { op := .pick (.t 90) (.t 93) (.c (.bool false)), dst := some 94 },
    { op := .mov (.t 94), dst := some 95 },
    { op := .call 8 [], dst := some 96, g := some (95, true) },
    { op := .pick (.t 95) (.t 96) (.c (.bool false)), dst := some 97 },
    { op := .mov (.t 97), dst := some 8 }]
def a5 : ACode := (.seq a5_r0 (.seq (.seq a5_r1 (.cond (.t 22) (.seq a5_r2 .ret) .skip)) (.seq a5_r3 (.seq a5_r4 (.seq a5_r5 (.seq a5_r6 (.seq a5_r7 (.seq a5_r8 (.seq a5_r9 .ret)))))))))
def a5_res : List ARes := [.tmp 8]
theorem a5_ok : Coded Try.prog 5 98 a5 a5_res := ⟨Try.f5, _, by kernel_rfl, rfl, by kernel_rfl, rfl, by kernel_rfl, by kernel_rfl⟩
theorem a5_of {args : List AV} {Q : AV → Prop} (hl : args.length ≤ 98) (h : AW Try.prog 98 a5 (mkS (argT 0 args) [] 0) (retQ a5_res Q)) : ACall Try.prog 5 args Q := acall_coded a5_ok hl h
end Go.Proofs.Ytloccbmiojhabaa
