/- The abstract code of the functions, checked. -/
import Derived.Test.YtafkaofaioleiaaA2
import Derived.Test.YtafkaofaioleiaaProg
import Derived.KernelRfl

namespace Go.Proofs.Ytafkaofaioleiaa
open Go Go.Amb

/- workflow/workflowlaw13.Large -/
def a10_r0 : ACode := .reg [{ op := .mov (.c (.bool false)), dst := some 2 }]
def a10_r1 : ACode := .reg [{ op := .mov (.t 0), dst := some 9 },
    { op := .len false (.t 9), dst := some 10 },
    { op := .bin .gtr (.t 10) (.c (.int .i64 12)), dst := some 11 }]
def a10_r2 : ACode := .reg [{ op := .mov (.c (.bool true)), dst := some 2 }]
def a10_r3 : ACode := .reg [{ op := .mov (.t 0), dst := some 12 },
    { op := .len false (.t 12), dst := some 13 },
    { op := .mov (.c (.int .i64 0)), dst := some 14 }]
def a10_r4 : ACode := .reg [{ op := .bin .lss (.t 14) (.t 13), dst := some 15 }]
def a10_r5 : ACode := .reg [{ op := .iad 5 (.t 12) (.t 14), dst := some 16 },
    { op := .load 5 true (.t 16), dst := some 17 },
    { op := .alloc 5 true [.int .i64 0, .int .i64 0, .nils, .nils, .nils], dst := some 4, k := 11 },
    { op := .store 5 true (.t 4) (.t 17), dst := none }]
def a10_r6 : ACode := .reg [{ op := .fad 4 (.t 4), dst := some 18 },
    { op := .load 1 false (.t 18), dst := some 19 },
    { op := .len false (.t 19), dst := some 20 },
    { op := .bin .gtr (.t 20) (.c (.int .i64 12)), dst := some 21 },
    { op := .mov (.t 21), dst := some 22 },
    { op := .fad 2 (.t 4), dst := some 23, g := some (22, false) },
    { op := .load 1 false (.t 23), dst := some 24, g := some (22, false) },
    { op := .len false (.t 24), dst := some 25, g := some (22, false) },
    { op := .bin .gtr (.t 25) (.c (.int .i64 40)), dst := some 26, g := some (22, false) },
    { op := .pick (.t 22) (.c (.bool true)) (.t 26), dst := some 27 },
    { op := .mov (.t 27), dst := some 28 },
    { op := .fad 3 (.t 4), dst := some 29, g := some (28, false) },
    { op := .load 1 false (.t 29), dst := some 30, g := some (28, false) },
    { op := .len false (.t 30), dst := some 31, g := some (28, false) },
    { op := .bin .gtr (.t 31) (.c (.int .i64 60)), dst := some 32, g := some (28, false) },
    { op := .pick (.t 28) (.c (.bool true)) (.t 32), dst := some 33 },
    { op := .mov (.t 33), dst := some 34 },
    { op := .fad 2 (.t 4), dst := some 35, g := some (34, false) },
    { op := .load 1 false (.t 35), dst := some 36, g := some (34, false) },
    { op := .call 11 [(.t 36)], dst := some 37, g := some (34, false) },
    { op := .pick (.t 34) (.c (.bool true)) (.t 37), dst := some 38 },
    { op := .mov (.t 38), dst := some 39 },
    { op := .fad 3 (.t 4), dst := some 40, g := some (39, false) },
    { op := .load 1 false (.t 40), dst := some 41, g := some (39, false) },
    { op := .call 11 [(.t 41)], dst := some 42, g := some (39, false) },
    { op := .pick (.t 39) (.c (.bool true)) (.t 42), dst := some 43 }]
def a10_r7 : ACode := .reg [{ op := .mov (.c (.bool true)), dst := some 2 }]
def a10_r8 : ACode := .reg [{ op := .fad 4 (.t 4), dst := some 44 },
    { op := .load 1 false (.t 44), dst := some 45 },
    { op := .len false (.t 45), dst := some 46 },
    { op := .mov (.c (.int .i64 0)), dst := some 47 }]
def a10_r9 : ACode := .reg [{ op := .bin .lss (.t 47) (.t 46), dst := some 48 }]
def a10_r10 : ACode := .reg [{ op := .iad 10 (.t 45) (.t 47), dst := some 49 },
    { op := .load 10 true (.t 49), dst := some 50 },
    { op := .alloc 10 true [.int .i64 0, .int .i64 0, .int .i64 0, .int .i64 0, .nils, .int .i64 0, .int .i64 0, .str [], .nils, .nils], dst := some 6, k := 47 },
    { op := .store 10 true (.t 6) (.t 50), dst := none }]
def a10_r11 : ACode := .reg [{ op := .fad 4 (.t 6), dst := some 51 },
    { op := .load 1 false (.t 51), dst := some 52 },
    { op := .len false (.t 52), dst := some 53 },
    { op := .bin .gtr (.t 53) (.c (.int .i64 102)), dst := some 54 },
    { op := .mov (.t 54), dst := some 55 },
    { op := .fad 5 (.t 6), dst := some 56, g := some (55, false) },
    { op := .load 5 true (.t 56), dst := some 57, g := some (55, false) },
    { op := .bsl 5 true 1 [.int .i64 0, .int .i64 0, .str [], .nils, .nils] [(0, (.t 57))], dst := some 58, g := some (55, false) },
    { op := .call 11 [(.t 58)], dst := some 59, g := some (55, false) },
    { op := .pick (.t 55) (.c (.bool true)) (.t 59), dst := some 60 }]
def a10_r12 : ACode := .reg [{ op := .mov (.c (.bool true)), dst := some 2 }]
def a10_r13 : ACode := .reg [{ op := .fad 4 (.t 6), dst := some 61 },
    { op := .load 1 false (.t 61), dst := some 62 },
    { op := .len false (.t 62), dst := some 63 },
    { op := .mov (.c (.int .i64 0)), dst := some 64 }]
def a10_r14 : ACode := .reg [{ op := .bin .lss (.t 64) (.t 63), dst := some 65 }]
def a10_r15 : ACode := .reg [{ op := .iad 2 (.t 62) (.t 64), dst := some 66 },
    { op := .load 2 true (.t 66), dst := some 67 },
    { op := .alloc 2 true [.int .i64 0, .nils], dst := some 8, k := 67 },
    { op := .store 2 true (.t 8) (.t 67), dst := none }]
def a10_r16 : ACode := .reg [{ op := .fad 1 (.t 8), dst := some 68 },
    { op := .load 1 false (.t 68), dst := some 69 },
    { op := .len false (.t 69), dst := some 70 },
    { op := .bin .gtr (.t 70) (.c (.int .i64 20)), dst := some 71 },
    { op := .mov (.t 71), dst := some 72 },
    { op := .fad 1 (.t 8), dst := some 73, g := some (72, false) },
    { op := .load 1 false (.t 73), dst := some 74, g := some (72, false) },
    { op := .call 11 [(.t 74)], dst := some 75, g := some (72, false) },
    { op := .pick (.t 72) (.c (.bool true)) (.t 75), dst := some 76 }]
def a10_r17 : ACode := .reg [{ op := .mov (.c (.bool true)), dst := some 2 }]
def a10_r18 : ACode := .reg [{ op := .bin .add (.t 64) (.c (.int .i64 1)), dst := some 77 },
    { op := .mov (.t 77), dst := some 64 }]
def a10_l0 : ACode := (.seq a10_r14 (.seq (.cond (.t 65) .skip (.exit 4)) (.seq (.block 5 (.seq a10_r15 (.seq a10_r16 (.cond (.t 76) (.seq a10_r17 .ret) .skip)))) a10_r18)))
def a10_r19 : ACode := .reg [{ op := .bin .add (.t 47) (.c (.int .i64 1)), dst := some 78 },
    { op := .mov (.t 78), dst := some 47 }]
def a10_l1 : ACode := (.seq a10_r9 (.seq (.cond (.t 48) .skip (.exit 2)) (.seq (.block 3 (.seq a10_r10 (.seq (.seq a10_r11 (.cond (.t 60) (.seq a10_r12 .ret) .skip)) (.seq a10_r13 (.block 4 (.loop a10_l0)))))) a10_r19)))
def a10_r20 : ACode := .reg [{ op := .bin .add (.t 14) (.c (.int .i64 1)), dst := some 79 },
    { op := .mov (.t 79), dst := some 14 }]
def a10_l2 : ACode := (.seq a10_r4 (.seq (.cond (.t 15) .skip (.exit 0)) (.seq (.block 1 (.seq a10_r5 (.seq (.seq a10_r6 (.cond (.t 43) (.seq a10_r7 .ret) .skip)) (.seq a10_r8 (.block 2 (.loop a10_l1)))))) a10_r20)))
def a10_r21 : ACode := .reg [{ op := .mov (.c (.bool false)), dst := some 2 }]
def a10 : ACode := (.seq a10_r0 (.seq (.seq a10_r1 (.cond (.t 11) (.seq a10_r2 .ret) .skip)) (.seq (.seq a10_r3 (.block 0 (.loop a10_l2))) (.seq a10_r21 .ret))))
def a10_res : List ARes := [.tmp 2]
theorem a10_ok : Coded Try.prog 10 80 a10 a10_res := ⟨Try.f10, _, by kernel_rfl, rfl, by kernel_rfl, rfl, by kernel_rfl, by kernel_rfl⟩
theorem a10_of {args : List AV} {Q : AV → Prop} (hl : args.length ≤ 80) (h : AW Try.prog 80 a10 (mkS (argT 0 args) [] 0) (retQ a10_res Q)) : ACall Try.prog 10 args Q := acall_coded a10_ok hl h

/- workflow/workflowlaw13.largeValues -/
def a11_r0 : ACode := .reg [{ op := .mov (.c (.bool false)), dst := some 2 }]
def a11_r1 : ACode := .reg [{ op := .mov (.t 0), dst := some 3 },
    { op := .build [.int .i64 0, .int .i64 0, .str [], .nils, .nils] [(3, 1, (.t 3))], dst := some 4 },
    { op := .call 31 [(.t 4), (.c (.int .i64 200))], dst := some 5 },
    { op := .bin .lss (.t 5) (.c (.int .i64 0)), dst := some 6 },
    { op := .mov (.t 6), dst := some 2 }]
def a11 : ACode := (.seq a11_r0 (.seq a11_r1 .ret))
def a11_res : List ARes := [.tmp 2]
theorem a11_ok : Coded Try.prog 11 7 a11 a11_res := ⟨Try.f11, _, by kernel_rfl, rfl, by kernel_rfl, rfl, by kernel_rfl, by kernel_rfl⟩
theorem a11_of {args : List AV} {Q : AV → Prop} (hl : args.length ≤ 7) (h : AW Try.prog 7 a11 (mkS (argT 0 args) [] 0) (retQ a11_res Q)) : ACall Try.prog 11 args Q := acall_coded a11_ok hl h

/- workflow/workflowlaw13.works -/
def a12_r0 : ACode := .reg [{ op := .mov (.c (.bool false)), dst := some 0 }]
def a12_r1 : ACode := .reg [{ op := .call 27 [(.c (.int .i64 5))], dst := some 18 },
    { op := .alloc 5 true [.int .i64 0, .int .i64 0, .str [], .nils, .nils], dst := some 1, k := 2 },
    { op := .store 5 true (.t 1) (.t 18), dst := none }]
def a12_r2 : ACode := .reg [{ op := .build [.int .i64 0, .int .i64 0, .str [], .nils, .nils] [], dst := some 19 },
    { op := .bsl 5 true 1 [.int .i64 0, .int .i64 0, .str [], .nils, .nils] [(0, (.t 19))], dst := some 20 },
    { op := .load 5 true (.t 1), dst := some 21 },
    { op := .load 5 true (.t 1), dst := some 22 },
    { op := .bsl 5 true 2 [.int .i64 0, .int .i64 0, .str [], .nils, .nils] [(0, (.t 21)), (1, (.t 22))], dst := some 23 },
    { op := .build [.int .i64 0, .int .i64 0, .int .i64 0, .int .i64 0, .nils, .int .i64 0, .int .i64 0, .str [], .nils, .nils] [(0, 1, (.c (.int .i64 1))), (1, 1, (.c (.int .i64 7)))], dst := some 24 },
    { op := .bsl 10 true 1 [.int .i64 0, .int .i64 0, .int .i64 0, .int .i64 0, .nils, .int .i64 0, .int .i64 0, .str [], .nils, .nils] [(0, (.t 24))], dst := some 25 },
    { op := .build [.int .i64 0, .int .i64 0, .nils, .nils, .nils] [(1, 1, (.c (.int .i64 3))), (2, 1, (.t 20)), (3, 1, (.t 23)), (4, 1, (.t 25))], dst := some 26 },
    { op := .bsl 5 true 1 [.int .i64 0, .int .i64 0, .nils, .nils, .nils] [(0, (.t 26))], dst := some 27 },
    { op := .mov (.t 27), dst := some 2 }]
def a12_r3 : ACode := .reg [{ op := .mov (.t 2), dst := some 29 },
    { op := .load 5 true (.t 1), dst := some 30 },
    { op := .call 13 [(.t 29), (.t 30)], dst := some 31 },
    { op := .mov (.t 31), dst := some 28 },
    { op := .ext (.t 28) 0, dst := some 32 },
    { op := .ext (.t 28) 1, dst := some 33 },
    { op := .ext (.t 28) 2, dst := some 34 },
    { op := .alloc 2 true [.int .i64 0, .nils], dst := some 4, k := 21 },
    { op := .mov (.t 32), dst := some 3 },
    { op := .store 2 true (.t 4) (.t 33), dst := none },
    { op := .mov (.t 34), dst := some 5 }]
def a12_r4 : ACode := .reg [{ op := .build [.int .i64 0, .nils] [(0, 1, (.c (.int .i64 1)))], dst := some 35 },
    { op := .build [.int .i64 0, .nils] [(0, 1, (.c (.int .i64 2)))], dst := some 36 },
    { op := .bsl 2 true 2 [.int .i64 0, .nils] [(0, (.t 35)), (1, (.t 36))], dst := some 37 },
    { op := .build [.int .i64 0, .int .i64 0, .int .i64 0, .int .i64 0, .nils, .int .i64 0, .int .i64 0, .str [], .nils, .nils] [(0, 1, (.c (.int .i64 2))), (4, 1, (.t 37))], dst := some 38 },
    { op := .bsl 10 true 1 [.int .i64 0, .int .i64 0, .int .i64 0, .int .i64 0, .nils, .int .i64 0, .int .i64 0, .str [], .nils, .nils] [(0, (.t 38))], dst := some 39 },
    { op := .build [.int .i64 0, .int .i64 0, .nils, .nils, .nils] [(4, 1, (.t 39))], dst := some 40 },
    { op := .bsl 5 true 1 [.int .i64 0, .int .i64 0, .nils, .nils, .nils] [(0, (.t 40))], dst := some 41 },
    { op := .mov (.t 41), dst := some 6 }]
def a12_r5 : ACode := .reg [{ op := .mov (.t 6), dst := some 43 },
    { op := .load 5 true (.t 1), dst := some 44 },
    { op := .call 13 [(.t 43), (.t 44)], dst := some 45 },
    { op := .mov (.t 45), dst := some 42 },
    { op := .ext (.t 42) 0, dst := some 46 },
    { op := .ext (.t 42) 1, dst := some 47 },
    { op := .ext (.t 42) 2, dst := some 48 },
    { op := .alloc 2 true [.int .i64 0, .nils], dst := some 8, k := 40 },
    { op := .mov (.t 46), dst := some 7 },
    { op := .store 2 true (.t 8) (.t 47), dst := none },
    { op := .mov (.t 48), dst := some 9 }]
def a12_r6 : ACode := .reg [{ op := .mov (.t 3), dst := some 49 },
    { op := .len false (.t 49), dst := some 50 },
    { op := .bin .neq (.t 50) (.c (.int .i64 1)), dst := some 51 },
    { op := .mov (.t 51), dst := some 52 },
    { op := .mov (.t 3), dst := some 53, g := some (52, false) },
    { op := .iad 5 (.t 53) (.c (.int .i64 0)), dst := some 54, g := some (52, false) },
    { op := .fad 2 (.t 54), dst := some 55, g := some (52, false) },
    { op := .load 1 false (.t 55), dst := some 56, g := some (52, false) },
    { op := .len false (.t 56), dst := some 57, g := some (52, false) },
    { op := .bin .neq (.t 57) (.c (.int .i64 1)), dst := some 58, g := some (52, false) },
    { op := .pick (.t 52) (.c (.bool true)) (.t 58), dst := some 59 },
    { op := .mov (.t 59), dst := some 60 },
    { op := .mov (.t 7), dst := some 61, g := some (60, false) },
    { op := .len false (.t 61), dst := some 62, g := some (60, false) },
    { op := .bin .neq (.t 62) (.c (.int .i64 1)), dst := some 63, g := some (60, false) },
    { op := .pick (.t 60) (.c (.bool true)) (.t 63), dst := some 64 }]
def a12_r7 : ACode := .reg [{ op := .mov (.c (.bool false)), dst := some 0 }]
def a12_r8 : ACode := .reg [{ op := .mov (.t 7), dst := some 66 },
    { op := .call 17 [(.t 66)], dst := some 67 },
    { op := .mov (.t 67), dst := some 65 },
    { op := .ext (.t 65) 0, dst := some 68 },
    { op := .ext (.t 65) 1, dst := some 69 },
    { op := .ext (.t 65) 2, dst := some 70 },
    { op := .ext (.t 65) 3, dst := some 71 },
    { op := .alloc 2 true [.int .i64 0, .nils], dst := some 11, k := 68 },
    { op := .alloc 5 true [.int .i64 0, .int .i64 0, .str [], .nils, .nils], dst := some 12, k := 69 },
    { op := .mov (.t 68), dst := some 10 },
    { op := .store 2 true (.t 11) (.t 69), dst := none },
    { op := .store 5 true (.t 12) (.t 70), dst := none },
    { op := .mov (.t 71), dst := some 13 }]
def a12_r9 : ACode := .reg [{ op := .mov (.t 10), dst := some 73 },
    { op := .call 17 [(.t 73)], dst := some 74 },
    { op := .mov (.t 74), dst := some 72 },
    { op := .ext (.t 72) 0, dst := some 75 },
    { op := .ext (.t 72) 1, dst := some 76 },
    { op := .ext (.t 72) 2, dst := some 77 },
    { op := .ext (.t 72) 3, dst := some 78 },
    { op := .alloc 2 true [.int .i64 0, .nils], dst := some 15, k := 81 },
    { op := .alloc 5 true [.int .i64 0, .int .i64 0, .str [], .nils, .nils], dst := some 16, k := 82 },
    { op := .mov (.t 75), dst := some 14 },
    { op := .store 2 true (.t 15) (.t 76), dst := none },
    { op := .store 5 true (.t 16) (.t 77), dst := none },
    { op := .mov (.t 78), dst := some 17 }]
def a12_r10 : ACode := .draw [{ op := .mov (.t 5), dst := some 79 },
    { op := .mov (.t 79), dst := some 80 },
    { op := .fad 0 (.t 4), dst := some 81, g := some (80, true) },
    { op := .load 1 false (.t 81), dst := some 82, g := some (80, true) },
    { op := .bin .eql (.t 82) (.c (.int .i64 (-1))), dst := some 83, g := some (80, true) },
    { op := .pick (.t 80) (.t 83) (.c (.bool false)), dst := some 84 },
    { op := .mov (.t 84), dst := some 85 },
    { op := .mov (.t 3), dst := some 86, g := some (85, true) },
    { op := .iad 5 (.t 86) (.c (.int .i64 0)), dst := some 87, g := some (85, true) },
    { op := .fad 1 (.t 87), dst := some 88, g := some (85, true) },
    { op := .load 1 false (.t 88), dst := some 89, g := some (85, true) },
    { op := .bin .eql (.t 89) (.c (.int .i64 7)), dst := some 90, g := some (85, true) },
    { op := .pick (.t 85) (.t 90) (.c (.bool false)), dst := some 91 },
    { op := .mov (.t 91), dst := some 92 },
    { op := .mov (.t 3), dst := some 93, g := some (92, true) },
    { op := .iad 5 (.t 93) (.c (.int .i64 0)), dst := some 94, g := some (92, true) },
    { op := .fad 3 (.t 94), dst := some 95, g := some (92, true) },
    { op := .load 1 false (.t 95), dst := some 96, g := some (92, true) },
    { op := .len false (.t 96), dst := some 97, g := some (92, true) },
    { op := .bin .eql (.t 97) (.c (.int .i64 0)), dst := some 98, g := some (92, true) },
    { op := .pick (.t 92) (.t 98) (.c (.bool false)), dst := some 99 },
    { op := .mov (.t 99), dst := some 100 },
    { op := .mov (.t 3), dst := some 101, g := some (100, true) },
    { op := .iad 5 (.t 101) (.c (.int .i64 0)), dst := some 102, g := some (100, true) },
    { op := .fad 2 (.t 102), dst := some 103, g := some (100, true) },
    { op := .load 1 false (.t 103), dst := some 104, g := some (100, true) },
    { op := .iad 5 (.t 104) (.c (.int .i64 0)), dst := some 105, g := some (100, true) },
    { op := .load 5 true (.t 105), dst := some 106, g := some (100, true) },
    { op := .load 5 true (.t 1), dst := some 107, g := some (100, true) },
    { op := .call 30 [(.t 106), (.t 107)], dst := some 108, g := some (100, true) },
    { op := .pick (.t 100) (.t 108) (.c (.bool false)), dst := some 109 },
    { op := .mov (.t 109), dst := some 110 },
    { op := .mov (.t 9), dst := some 111, g := some (110, true) },
    { op := .pick (.t 110) (.t 111) (.c (.bool false)), dst := some 112 },
    { op := .mov (.t 112), dst := some 113 },
    { op := .fad 0 (.t 8), dst := some 114, g := some (113, true) },
    { op := .load 1 false (.t 114), dst := some 115, g := some (113, true) },
    { op := .bin .eql (.t 115) (.c (.int .i64 2)), dst := some 116, g := some (113, true) },
    { op := .pick (.t 113) (.t 116) (.c (.bool false)), dst := some 117 },
    { op := .mov (.t 117), dst := some 118 },
    { op := .mov (.t 7), dst := some 119, g := some (118, true) },
    { op := .call 20 [(.t 119)], dst := some 120, g := some (118, true) },
    { op := .pick (.t 118) (.t 120) (.c (.bool false)), dst := some 121 },
    { op := .mov (.t 121), dst := some 122 },
    { op := .fad 0 (.t 11), dst := some 123, g := some (122, true) },
    { op := .load 1 false (.t 123), dst := some 124, g := some (122, true) },
    { op := .bin .eql (.t 124) (.c (.int .i64 1)), dst := some 125, g := some (122, true) },
    { op := .pick (.t 122) (.t 125) (.c (.bool false)), dst := some 126 },
    { op := .mov (.t 126), dst := some 127 },
    { op := .mov (.t 13), dst := some 128, g := some (127, true) },
    { op := .not (.t 128), dst := some 129, g := some (127, true) },
    { op := .pick (.t 127) (.t 129) (.c (.bool false)), dst := some 130 },
    { op := .mov (.t 130), dst := some 131 },
    { op := .fad 0 (.t 15), dst := some 132, g := some (131, true) },
    { op := .load 1 false (.t 132), dst := some 133, g := some (131, true) },
    { op := .bin .eql (.t 133) (.c (.int .i64 (-1))), dst := some 134, g := some (131, true) },
    { op := .pick (.t 131) (.t 134) (.c (.bool false)), dst := some 135 },
    { op := .mov (.t 135), dst := some 136 },
    { op := .mov (.t 17), dst := some 137, g := some (136, true) },
    { op := .pick (.t 136) (.t 137) (.c (.bool false)), dst := some 138 },
    { op := .mov (.t 138), dst := some 139 },
    { op := .load 5 true (.t 16), dst := some 140, g := some (139, true) },
    { op := .load 5 true (.t 1), dst := some 141, g := some (139, true) },
    { op := .call 30 [(.t 140), (.t 141)], dst := some 142, g := some (139, true) },
    { op := .pick (.t 139) (.t 142) (.c (.bool false)), dst := some 143 },
    { op := .mov (.t 143), dst := some 0 }]
    []
    (.take 0 (.take 1 (.take 2 (.take 3 (.take 4 (.take 5 (.take 6 (.take 7 (.take 8 (.take 9 (.take 10 (.take 11 (.take 12 (.take 13 (.take 14 (.take 15 (.take 16 (.take 17 (.take 18 (.take 19 (.take 20 (.take 21 (.take 22 (.take 23 (.take 24 (.take 25 (.take 26 (.take 27 (.take 28 (.one 29 (.take 30 (.take 31 (.take 32 (.take 33 (.take 34 (.take 35 (.take 36 (.take 37 (.take 38 (.take 39 (.take 40 (.one 41 (.take 42 (.take 43 (.take 44 (.take 45 (.take 46 (.take 47 (.take 48 (.take 49 (.take 50 (.take 51 (.take 52 (.take 53 (.take 54 (.take 55 (.take 56 (.take 57 (.take 58 (.take 59 (.take 60 (.take 61 (.take 62 (.one 63 (.take 64 (.take 65 (.done)))))))))))))))))))))))))))))))))))))))))))))))))))))))))))))))))))
def a12 : ACode := (.seq a12_r0 (.seq a12_r1 (.seq a12_r2 (.seq a12_r3 (.seq a12_r4 (.seq a12_r5 (.seq (.seq a12_r6 (.cond (.t 64) (.seq a12_r7 .ret) .skip)) (.seq a12_r8 (.seq a12_r9 (.seq a12_r10 .ret))))))))))
def a12_res : List ARes := [.tmp 0]
theorem a12_ok : Coded Try.prog 12 144 a12 a12_res := ⟨Try.f12, _, by kernel_rfl, rfl, by kernel_rfl, rfl, by kernel_rfl, by kernel_rfl⟩
theorem a12_of {args : List AV} {Q : AV → Prop} (hl : args.length ≤ 144) (h : AW Try.prog 144 a12 (mkS (argT 0 args) [] 0) (retQ a12_res Q)) : ACall Try.prog 12 args Q := acall_coded a12_ok hl h

/- workflow/unwind.Throw -/
def a13_r0 : ACode := .reg [{ op := .box 5 true (.t 1), dst := some 3, k := 0 },
    { op := .mov (.c (.nils)), dst := some 4 },
    { op := .alloc 2 true [.int .i64 0, .nils], dst := some 5, k := 2 },
    { op := .mov (.c (.bool false)), dst := some 6 }]
def a13_r1 : ACode := .draw [{ op := .mov (.t 0), dst := some 12 },
    { op := .call 32 [(.t 12)], dst := some 13, k := 5, ad := true },
    { op := .load 5 true (.t 3), dst := some 14 },
    { op := .call 33 [(.t 14)], dst := some 15 },
    { op := .mov (.t 13), dst := some 0 },
    { op := .store 5 true (.t 3) (.t 15), dst := none }]
    [(1, [2])]
    (.take 0 (.take 2 (.one 1 (.one 3 (.one 4 (.one 5 (.done)))))))
def a13_r2 : ACode := .reg [{ op := .mov (.t 0), dst := some 16 },
    { op := .len false (.t 16), dst := some 17 },
    { op := .bin .gtr (.t 17) (.c (.int .i64 0)), dst := some 18 }]
def a13_r3 : ACode := .reg [{ op := .mov (.t 0), dst := some 20 },
    { op := .call 34 [(.t 20)], dst := some 21 },
    { op := .mov (.t 21), dst := some 19 },
    { op := .ext (.t 19) 0, dst := some 22 },
    { op := .ext (.t 19) 1, dst := some 23 },
    { op := .mov (.t 22), dst := some 7 },
    { op := .mov (.t 23), dst := some 8 }]
def a13_r4 : ACode := .reg [{ op := .mov (.t 8), dst := some 24 },
    { op := .eqn false .p (.t 24), dst := some 25 }]
def a13_r5 : ACode := .reg [{ op := .mov (.t 0), dst := some 26 },
    { op := .mov (.t 0), dst := some 27 },
    { op := .len false (.t 27), dst := some 28 },
    { op := .bin .sub (.t 28) (.c (.int .i64 1)), dst := some 29 },
    { op := .slice 5 (.t 26) none (some (.t 29)) none, dst := some 30 },
    { op := .mov (.t 30), dst := some 0 }]
def a13_r6 : ACode := .reg [{ op := .mov (.t 8), dst := some 31 },
    { op := .nilc (.t 31), dst := some 32 },
    { op := .fad 0 (.t 32), dst := some 33 },
    { op := .load 1 false (.t 33), dst := some 34 }]
def a13_r8 : ACode := .reg [{ op := .bin .eql (.t 34) (.c (.int .i64 1)), dst := some 38 },
    { op := .mov (.t 38), dst := some 37 }]
def a13_r9 : ACode := .reg [{ op := .mov (.t 7), dst := some 39 },
    { op := .mov (.t 8), dst := some 40 },
    { op := .call 35 [(.t 39), (.t 40)], dst := some 41 }]
def a13_r10 : ACode := .draw [{ op := .mov (.t 8), dst := some 42 },
    { op := .nilc (.t 42), dst := some 43 },
    { op := .fad 2 (.t 43), dst := some 44 },
    { op := .load 1 false (.t 44), dst := some 45 },
    { op := .bin .geq (.t 45) (.c (.int .i64 0)), dst := some 46 },
    { op := .mov (.t 46), dst := some 47 },
    { op := .mov (.t 8), dst := some 48, g := some (47, true) },
    { op := .nilc (.t 48), dst := some 49, g := some (47, true) },
    { op := .fad 2 (.t 49), dst := some 50, g := some (47, true) },
    { op := .load 1 false (.t 50), dst := some 51, g := some (47, true) },
    { op := .mov (.t 7), dst := some 52, g := some (47, true) },
    { op := .nilc (.t 52), dst := some 53, g := some (47, true) },
    { op := .fad 2 (.t 53), dst := some 54, g := some (47, true) },
    { op := .load 1 false (.t 54), dst := some 55, g := some (47, true) },
    { op := .len false (.t 55), dst := some 56, g := some (47, true) },
    { op := .bin .lss (.t 51) (.t 56), dst := some 57, g := some (47, true) },
    { op := .pick (.t 47) (.t 57) (.c (.bool false)), dst := some 58 }]
    []
    (.take 0 (.take 1 (.take 2 (.take 3 (.take 4 (.take 5 (.take 6 (.take 7 (.take 8 (.take 9 (.take 10 (.take 11 (.take 12 (.take 13 (.take 14 (.take 15 (.take 16 (.done))))))))))))))))))
def a13_r11 : ACode := .draw [{ op := .mov (.t 7), dst := some 59 },
    { op := .nilc (.t 59), dst := some 60 },
    { op := .fad 2 (.t 60), dst := some 61 },
    { op := .load 1 false (.t 61), dst := some 62 },
    { op := .mov (.t 8), dst := some 63 },
    { op := .nilc (.t 63), dst := some 64 },
    { op := .fad 2 (.t 64), dst := some 65 },
    { op := .load 1 false (.t 65), dst := some 66 },
    { op := .load 5 true (.t 3), dst := some 67 },
    { op := .iad 5 (.t 62) (.t 66), dst := some 68 },
    { op := .store 5 true (.t 68) (.t 67), dst := none }]
    []
    (.take 0 (.take 1 (.take 2 (.take 3 (.take 4 (.take 5 (.take 6 (.take 7 (.take 8 (.take 9 (.one 10 (.done))))))))))))
def a13_r12 : ACode := .reg [{ op := .mov (.t 7), dst := some 69 },
    { op := .mov (.t 8), dst := some 70 },
    { op := .nilc (.t 70), dst := some 71 },
    { op := .fad 1 (.t 71), dst := some 72 },
    { op := .load 1 false (.t 72), dst := some 73 },
    { op := .nilc (.t 69), dst := some 74 },
    { op := .fad 1 (.t 74), dst := some 75 },
    { op := .store 1 false (.t 75) (.t 73), dst := none }]
def a13_r13 : ACode := .reg [{ op := .mov (.t 7), dst := some 76 },
    { op := .call 36 [(.t 76)], dst := some 77 }]
def a13_r14 : ACode := .reg [{ op := .mov (.t 0), dst := some 78 },
    { op := .call 37 [], dst := some 79 },
    { op := .mov (.t 78), dst := some 4 },
    { op := .store 2 true (.t 5) (.t 79), dst := none },
    { op := .mov (.c (.bool true)), dst := some 6 }]
def a13_r15 : ACode := .reg [{ op := .bin .eql (.t 34) (.c (.int .i64 2)), dst := some 81 },
    { op := .mov (.t 81), dst := some 80 }]
def a13_r16 : ACode := .reg [{ op := .bin .eql (.t 34) (.c (.int .i64 3)), dst := some 82 },
    { op := .mov (.t 82), dst := some 80 }]
def a13_r17 : ACode := .reg [{ op := .mov (.t 7), dst := some 83 },
    { op := .mov (.t 8), dst := some 84 },
    { op := .call 35 [(.t 83), (.t 84)], dst := some 85 }]
def a13_r18 : ACode := .reg [{ op := .mov (.t 8), dst := some 86 },
    { op := .nilc (.t 86), dst := some 87 },
    { op := .fad 0 (.t 87), dst := some 88 },
    { op := .load 1 false (.t 88), dst := some 89 },
    { op := .bin .eql (.t 89) (.c (.int .i64 2)), dst := some 90 }]
def a13_r19 : ACode := .draw [{ op := .mov (.t 8), dst := some 91 },
    { op := .mov (.t 8), dst := some 92 },
    { op := .load 5 true (.t 3), dst := some 93 },
    { op := .nilc (.t 91), dst := some 94 },
    { op := .fad 0 (.t 94), dst := some 95 },
    { op := .store 1 false (.t 95) (.c (.int .i64 3)), dst := none },
    { op := .nilc (.t 92), dst := some 96 },
    { op := .fad 5 (.t 96), dst := some 97 },
    { op := .store 5 true (.t 97) (.t 93), dst := none }]
    [(5, [2])]
    (.take 0 (.take 1 (.take 2 (.take 3 (.take 4 (.one 5 (.take 6 (.take 7 (.one 8 (.done))))))))))
def a13_r20 : ACode := .reg [{ op := .mov (.t 0), dst := some 99 },
    { op := .call 38 [(.t 99)], dst := some 100 },
    { op := .mov (.t 100), dst := some 98 },
    { op := .ext (.t 98) 0, dst := some 101 },
    { op := .ext (.t 98) 1, dst := some 102 },
    { op := .ext (.t 98) 2, dst := some 103 },
    { op := .alloc 2 true [.int .i64 0, .nils], dst := some 9, k := 107 },
    { op := .alloc 5 true [.int .i64 0, .int .i64 0, .str [], .nils, .nils], dst := some 10, k := 108 },
    { op := .store 2 true (.t 9) (.t 101), dst := none },
    { op := .store 5 true (.t 10) (.t 102), dst := none },
    { op := .mov (.t 103), dst := some 11 }]
def a13_r21 : ACode := .reg [{ op := .mov (.t 11), dst := some 104 },
    { op := .not (.t 104), dst := some 105 }]
def a13_r22 : ACode := .draw [{ op := .mov (.t 0), dst := some 106 },
    { op := .load 2 true (.t 9), dst := some 107 },
    { op := .mov (.t 106), dst := some 4 },
    { op := .store 2 true (.t 5) (.t 107), dst := none },
    { op := .mov (.c (.bool true)), dst := some 6 }]
    []
    (.take 0 (.take 1 (.take 2 (.one 3 (.take 4 (.done))))))
def a13_r23 : ACode := .reg [{ op := .load 5 true (.t 10), dst := some 108 },
    { op := .store 5 true (.t 3) (.t 108), dst := none }]
def a13_r7 : ACode := .reg [{ op := .mov (.t 7), dst := some 35 },
    { op := .call 36 [(.t 35)], dst := some 36 }]
def a13_l0 : ACode := (.seq (.seq a13_r2 (.cond (.t 18) .skip (.exit 0))) (.block 1 (.seq a13_r3 (.seq (.seq a13_r4 (.cond (.t 25) (.seq a13_r5 (.exit 1)) .skip)) (.seq a13_r6 (.block 2 (.seq a13_r8 (.cond (.t 37) (.seq a13_r9 (.seq (.seq a13_r10 (.cond (.t 58) a13_r11 .skip)) (.seq a13_r12 (.seq a13_r13 (.seq a13_r14 .ret))))) (.seq (.seq a13_r15 (.cond (.t 80) .skip a13_r16)) (.cond (.t 80) (.seq a13_r17 (.seq (.seq a13_r18 (.cond (.t 90) a13_r19 .skip)) (.seq a13_r20 (.seq (.seq a13_r21 (.cond (.t 105) (.seq a13_r22 .ret) .skip)) a13_r23)))) a13_r7))))))))))
def a13_r24 : ACode := .reg [{ op := .call 37 [], dst := some 109 },
    { op := .mov (.c (.nils)), dst := some 4 },
    { op := .store 2 true (.t 5) (.t 109), dst := none },
    { op := .mov (.c (.bool false)), dst := some 6 }]
def a13 : ACode := (.seq a13_r0 (.seq a13_r1 (.seq (.block 0 (.loop a13_l0)) (.seq a13_r24 .ret))))
def a13_res : List ARes := [.tmp 4, .cell 5 2 true, .tmp 6]
theorem a13_ok : Coded Try.prog 13 110 a13 a13_res := ⟨Try.f13, _, by kernel_rfl, rfl, by kernel_rfl, rfl, by kernel_rfl, by kernel_rfl⟩
theorem a13_of {args : List AV} {Q : AV → Prop} (hl : args.length ≤ 110) (h : AW Try.prog 110 a13 (mkS (argT 0 args) [] 0) (retQ a13_res Q)) : ACall Try.prog 13 args Q := acall_coded a13_ok hl h

/- workflow/workflowref13.Throw -/
def a14_r0 : ACode := .reg [{ op := .box 5 true (.t 1), dst := some 3, k := 0 },
    { op := .mov (.c (.nils)), dst := some 4 },
    { op := .alloc 2 true [.int .i64 0, .nils], dst := some 5, k := 2 },
    { op := .mov (.c (.bool false)), dst := some 6 }]
def a14_r1 : ACode := .draw [{ op := .mov (.t 0), dst := some 14 },
    { op := .call 39 [(.t 14)], dst := some 15, k := 5, ad := true },
    { op := .load 5 true (.t 3), dst := some 16 },
    { op := .call 40 [(.t 16)], dst := some 17 },
    { op := .alloc 5 true [.int .i64 0, .int .i64 0, .str [], .nils, .nils], dst := some 8, k := 8 },
    { op := .mov (.t 15), dst := some 7 },
    { op := .store 5 true (.t 8) (.t 17), dst := none }]
    [(1, [2]), (4, [2])]
    (.take 0 (.take 2 (.two 1 (.two 3 (.one 4 (.take 5 (.one 6 (.done)))) 4 (.one 3 (.take 5 (.one 6 (.done))))) 4 (.one 1 (.one 3 (.take 5 (.one 6 (.done))))))))
def a14_r2 : ACode := .reg [{ op := .mov (.t 7), dst := some 19 },
    { op := .load 5 true (.t 8), dst := some 20 },
    { op := .call 41 [(.t 19), (.t 20)], dst := some 21 },
    { op := .mov (.t 21), dst := some 18 },
    { op := .ext (.t 18) 0, dst := some 22 },
    { op := .ext (.t 18) 1, dst := some 23 },
    { op := .ext (.t 18) 2, dst := some 24 },
    { op := .ext (.t 18) 3, dst := some 25 },
    { op := .ext (.t 18) 4, dst := some 26 },
    { op := .alloc 5 true [.int .i64 0, .int .i64 0, .str [], .nils, .nils], dst := some 10, k := 20 },
    { op := .alloc 2 true [.int .i64 0, .nils], dst := some 11, k := 21 },
    { op := .mov (.t 22), dst := some 9 },
    { op := .store 5 true (.t 10) (.t 23), dst := none },
    { op := .store 2 true (.t 11) (.t 24), dst := none },
    { op := .mov (.t 25), dst := some 12 },
    { op := .mov (.t 26), dst := some 13 }]
def a14_r3 : ACode := .reg [{ op := .mov (.t 12), dst := some 27 }]
def a14_r4 : ACode := .draw [{ op := .mov (.t 9), dst := some 28 },
    { op := .load 2 true (.t 11), dst := some 29 },
    { op := .mov (.t 13), dst := some 30 },
    { op := .mov (.t 28), dst := some 4 },
    { op := .store 2 true (.t 5) (.t 29), dst := none },
    { op := .mov (.t 30), dst := some 6 }]
    []
    (.take 0 (.take 1 (.take 2 (.take 3 (.one 4 (.take 5 (.done)))))))
def a14_r5 : ACode := .draw [{ op := .mov (.t 9), dst := some 31 },
    { op := .load 5 true (.t 10), dst := some 32 },
    { op := .mov (.t 31), dst := some 7 },
    { op := .store 5 true (.t 8) (.t 32), dst := none }]
    []
    (.take 0 (.take 1 (.take 2 (.one 3 (.done)))))
def a14_l0 : ACode := (.block 1 (.seq a14_r2 (.seq (.seq a14_r3 (.cond (.t 27) (.seq a14_r4 .ret) .skip)) a14_r5)))
def a14 : ACode := (.seq a14_r0 (.seq a14_r1 (.block 0 (.loop a14_l0))))
def a14_res : List ARes := [.tmp 4, .cell 5 2 true, .tmp 6]
theorem a14_ok : Coded Try.prog 14 33 a14 a14_res := ⟨Try.f14, _, by kernel_rfl, rfl, by kernel_rfl, rfl, by kernel_rfl, by kernel_rfl⟩
theorem a14_of {args : List AV} {Q : AV → Prop} (hl : args.length ≤ 33) (h : AW Try.prog 33 a14 (mkS (argT 0 args) [] 0) (retQ a14_res Q)) : ACall Try.prog 14 args Q := acall_coded a14_ok hl h

/- workflow/workflowlaw13.SameUndo -/
def a15_r0 : ACode := .reg [{ op := .box 2 true (.t 0), dst := some 2, k := 0 },
    { op := .box 2 true (.t 1), dst := some 3, k := 1 },
    { op := .mov (.c (.bool false)), dst := some 4 }]
def a15_r1 : ACode := .reg [{ op := .fad 0 (.t 2), dst := some 5 },
    { op := .load 1 false (.t 5), dst := some 6 },
    { op := .fad 0 (.t 3), dst := some 7 },
    { op := .load 1 false (.t 7), dst := some 8 },
    { op := .bin .eql (.t 6) (.t 8), dst := some 9 },
    { op := .mov (.t 9), dst := some 10 },
    { op := .fad 1 (.t 2), dst := some 11, g := some (10, true) },
    { op := .load 1 false (.t 11), dst := some 12, g := some (10, true) },
    { op := .fad 1 (.t 3), dst := some 13, g := some (10, true) },
    { op := .load 1 false (.t 13), dst := some 14, g := some (10, true) },
    { op := .call 42 [(.t 12), (.t 14)], dst := some 15, g := some (10, true) },
    { op := .pick (.t 10) (.t 15) (.c (.bool false)), dst := some 16 },
    { op := .mov (.t 16), dst := some 4 }]
def a15 : ACode := (.seq a15_r0 (.seq a15_r1 .ret))
def a15_res : List ARes := [.tmp 4]
theorem a15_ok : Coded Try.prog 15 17 a15 a15_res := ⟨Try.f15, _, by kernel_rfl, rfl, by kernel_rfl, rfl, by kernel_rfl, by kernel_rfl⟩
theorem a15_of {args : List AV} {Q : AV → Prop} (hl : args.length ≤ 17) (h : AW Try.prog 17 a15 (mkS (argT 0 args) [] 0) (retQ a15_res Q)) : ACall Try.prog 15 args Q := acall_coded a15_ok hl h

/- workflow/workflowlaw13.SameFrames -/
def a16_r0 : ACode := .reg [{ op := .mov (.c (.bool false)), dst := some 4 }]
def a16_r1 : ACode := .reg [{ op := .mov (.t 0), dst := some 6 },
    { op := .len false (.t 6), dst := some 7 },
    { op := .mov (.t 1), dst := some 8 },
    { op := .len false (.t 8), dst := some 9 },
    { op := .bin .neq (.t 7) (.t 9), dst := some 10 }]
def a16_r2 : ACode := .reg [{ op := .mov (.c (.bool false)), dst := some 4 }]
def a16_r3 : ACode := .reg [{ op := .mov (.t 0), dst := some 11 },
    { op := .len false (.t 11), dst := some 12 },
    { op := .mov (.c (.int .i64 0)), dst := some 13 }]
def a16_r4 : ACode := .reg [{ op := .bin .lss (.t 13) (.t 12), dst := some 14 }]
def a16_r5 : ACode := .reg [{ op := .mov (.t 13), dst := some 15 },
    { op := .mov (.t 15), dst := some 5 }]
def a16_r6 : ACode := .draw [{ op := .mov (.t 0), dst := some 16 },
    { op := .mov (.t 5), dst := some 17 },
    { op := .iad 5 (.t 16) (.t 17), dst := some 18 },
    { op := .load 5 true (.t 18), dst := some 19 },
    { op := .mov (.t 1), dst := some 20 },
    { op := .mov (.t 5), dst := some 21 },
    { op := .iad 5 (.t 20) (.t 21), dst := some 22 },
    { op := .load 5 true (.t 22), dst := some 23 },
    { op := .call 26 [(.t 19), (.t 23)], dst := some 24 },
    { op := .not (.t 24), dst := some 25 }]
    []
    (.take 0 (.take 1 (.take 2 (.take 3 (.take 4 (.take 5 (.take 6 (.take 7 (.one 8 (.take 9 (.done)))))))))))
def a16_r7 : ACode := .reg [{ op := .mov (.c (.bool false)), dst := some 4 }]
def a16_r8 : ACode := .reg [{ op := .bin .add (.t 13) (.c (.int .i64 1)), dst := some 26 },
    { op := .mov (.t 26), dst := some 13 }]
def a16_l0 : ACode := (.seq a16_r4 (.seq (.cond (.t 14) .skip (.exit 0)) (.seq (.block 1 (.seq a16_r5 (.seq a16_r6 (.cond (.t 25) (.seq a16_r7 .ret) .skip)))) a16_r8)))
def a16_r9 : ACode := .reg [{ op := .mov (.c (.bool true)), dst := some 4 }]
def a16 : ACode := (.seq a16_r0 (.seq (.seq a16_r1 (.cond (.t 10) (.seq a16_r2 .ret) .skip)) (.seq (.seq a16_r3 (.block 0 (.loop a16_l0))) (.seq a16_r9 .ret))))
def a16_res : List ARes := [.tmp 4]
theorem a16_ok : Coded Try.prog 16 27 a16 a16_res := ⟨Try.f16, _, by kernel_rfl, rfl, by kernel_rfl, rfl, by kernel_rfl, by kernel_rfl⟩
theorem a16_of {args : List AV} {Q : AV → Prop} (hl : args.length ≤ 27) (h : AW Try.prog 27 a16 (mkS (argT 0 args) [] 0) (retQ a16_res Q)) : ACall Try.prog 16 args Q := acall_coded a16_ok hl h

/- workflow/unwind.Next -/
def a17_r0 : ACode := .reg [{ op := .mov (.c (.nils)), dst := some 2 },
    { op := .alloc 2 true [.int .i64 0, .nils], dst := some 3, k := 1 },
    { op := .alloc 5 true [.int .i64 0, .int .i64 0, .str [], .nils, .nils], dst := some 4, k := 2 },
    { op := .mov (.c (.bool false)), dst := some 5 }]
def a17_r1 : ACode := .reg [{ op := .mov (.t 0), dst := some 9 },
    { op := .call 32 [(.t 9)], dst := some 10, k := 5, ad := true },
    { op := .mov (.t 10), dst := some 0 }]
def a17_r2 : ACode := .reg [{ op := .mov (.t 0), dst := some 12 },
    { op := .call 38 [(.t 12)], dst := some 13 },
    { op := .mov (.t 13), dst := some 11 },
    { op := .ext (.t 11) 0, dst := some 14 },
    { op := .ext (.t 11) 1, dst := some 15 },
    { op := .ext (.t 11) 2, dst := some 16 },
    { op := .alloc 2 true [.int .i64 0, .nils], dst := some 6, k := 13 },
    { op := .alloc 5 true [.int .i64 0, .int .i64 0, .str [], .nils, .nils], dst := some 7, k := 14 },
    { op := .store 2 true (.t 6) (.t 14), dst := none },
    { op := .store 5 true (.t 7) (.t 15), dst := none },
    { op := .mov (.t 16), dst := some 8 }]
def a17_r3 : ACode := .draw [{ op := .mov (.t 0), dst := some 17 },
    { op := .load 2 true (.t 6), dst := some 18 },
    { op := .load 5 true (.t 7), dst := some 19 },
    { op := .mov (.t 8), dst := some 20 },
    { op := .mov (.t 17), dst := some 2 },
    { op := .store 2 true (.t 3) (.t 18), dst := none },
    { op := .store 5 true (.t 4) (.t 19), dst := none },
    { op := .mov (.t 20), dst := some 5 }]
    [(5, [2])]
    (.take 0 (.take 1 (.take 2 (.take 3 (.take 4 (.one 5 (.one 6 (.take 7 (.done)))))))))
def a17 : ACode := (.seq a17_r0 (.seq a17_r1 (.seq a17_r2 (.seq a17_r3 .ret))))
def a17_res : List ARes := [.tmp 2, .cell 3 2 true, .cell 4 5 true, .tmp 5]
theorem a17_ok : Coded Try.prog 17 21 a17 a17_res := ⟨Try.f17, _, by kernel_rfl, rfl, by kernel_rfl, rfl, by kernel_rfl, by kernel_rfl⟩
theorem a17_of {args : List AV} {Q : AV → Prop} (hl : args.length ≤ 21) (h : AW Try.prog 21 a17 (mkS (argT 0 args) [] 0) (retQ a17_res Q)) : ACall Try.prog 17 args Q := acall_coded a17_ok hl h

/- workflow/workflowref13.Next -/
def a18_r0 : ACode := .reg [{ op := .mov (.c (.nils)), dst := some 2 },
    { op := .alloc 2 true [.int .i64 0, .nils], dst := some 3, k := 1 },
    { op := .alloc 5 true [.int .i64 0, .int .i64 0, .str [], .nils, .nils], dst := some 4, k := 2 },
    { op := .mov (.c (.bool false)), dst := some 5 }]
def a18_r1 : ACode := .reg [{ op := .mov (.t 0), dst := some 12 },
    { op := .call 39 [(.t 12)], dst := some 13, k := 5, ad := true },
    { op := .mov (.t 13), dst := some 6 }]
def a18_r2 : ACode := .reg [{ op := .mov (.t 0), dst := some 14 },
    { op := .call 21 [(.t 14)], dst := some 15 },
    { op := .not (.t 15), dst := some 16 }]
def a18_r3 : ACode := .reg [{ op := .mov (.t 6), dst := some 17 },
    { op := .call 43 [], dst := some 18 },
    { op := .build [.int .i64 0, .int .i64 0, .str [], .nils, .nils] [], dst := some 19 },
    { op := .mov (.t 17), dst := some 2 },
    { op := .store 2 true (.t 3) (.t 18), dst := none },
    { op := .store 5 true (.t 4) (.t 19), dst := none },
    { op := .mov (.c (.bool false)), dst := some 5 }]
def a18_r4 : ACode := .reg [{ op := .mov (.t 6), dst := some 20 },
    { op := .mov (.t 6), dst := some 21 },
    { op := .len false (.t 21), dst := some 22 },
    { op := .bin .sub (.t 22) (.c (.int .i64 1)), dst := some 23 },
    { op := .iad 5 (.t 20) (.t 23), dst := some 24 },
    { op := .mov (.t 24), dst := some 7 }]
def a18_r5 : ACode := .draw [{ op := .mov (.t 7), dst := some 25 },
    { op := .nilc (.t 25), dst := some 26 },
    { op := .fad 4 (.t 26), dst := some 27 },
    { op := .load 1 false (.t 27), dst := some 28 },
    { op := .mov (.t 7), dst := some 29 },
    { op := .nilc (.t 29), dst := some 30 },
    { op := .fad 4 (.t 30), dst := some 31 },
    { op := .load 1 false (.t 31), dst := some 32 },
    { op := .len false (.t 32), dst := some 33 },
    { op := .bin .sub (.t 33) (.c (.int .i64 1)), dst := some 34 },
    { op := .iad 10 (.t 28) (.t 34), dst := some 35 },
    { op := .mov (.t 35), dst := some 8 }]
    []
    (.take 0 (.take 1 (.take 2 (.take 3 (.take 4 (.take 5 (.take 6 (.take 7 (.take 8 (.take 9 (.take 10 (.take 11 (.done)))))))))))))
def a18_r6 : ACode := .reg [{ op := .mov (.t 8), dst := some 36 },
    { op := .nilc (.t 36), dst := some 37 },
    { op := .fad 4 (.t 37), dst := some 38 },
    { op := .load 1 false (.t 38), dst := some 39 },
    { op := .len false (.t 39), dst := some 40 },
    { op := .mov (.t 40), dst := some 9 }]
def a18_r7 : ACode := .reg [{ op := .mov (.t 9), dst := some 41 },
    { op := .bin .gtr (.t 41) (.c (.int .i64 0)), dst := some 42 }]
def a18_r8 : ACode := .reg [{ op := .mov (.t 8), dst := some 43 },
    { op := .nilc (.t 43), dst := some 44 },
    { op := .fad 4 (.t 44), dst := some 45 },
    { op := .load 1 false (.t 45), dst := some 46 },
    { op := .mov (.t 9), dst := some 47 },
    { op := .bin .sub (.t 47) (.c (.int .i64 1)), dst := some 48 },
    { op := .iad 2 (.t 46) (.t 48), dst := some 49 },
    { op := .load 2 true (.t 49), dst := some 50 },
    { op := .alloc 2 true [.int .i64 0, .nils], dst := some 10, k := 51 },
    { op := .store 2 true (.t 10) (.t 50), dst := none }]
def a18_r9 : ACode := .reg [{ op := .mov (.t 8), dst := some 51 },
    { op := .mov (.t 8), dst := some 52 },
    { op := .nilc (.t 52), dst := some 53 },
    { op := .fad 4 (.t 53), dst := some 54 },
    { op := .load 1 false (.t 54), dst := some 55 },
    { op := .mov (.t 9), dst := some 56 },
    { op := .bin .sub (.t 56) (.c (.int .i64 1)), dst := some 57 },
    { op := .slice 2 (.t 55) none (some (.t 57)) none, dst := some 58 },
    { op := .nilc (.t 51), dst := some 59 },
    { op := .fad 4 (.t 59), dst := some 60 },
    { op := .store 1 false (.t 60) (.t 58), dst := none }]
def a18_r10 : ACode := .draw [{ op := .mov (.t 6), dst := some 61 },
    { op := .load 2 true (.t 10), dst := some 62 },
    { op := .build [.int .i64 0, .int .i64 0, .str [], .nils, .nils] [], dst := some 63 },
    { op := .mov (.t 61), dst := some 2 },
    { op := .store 2 true (.t 3) (.t 62), dst := none },
    { op := .store 5 true (.t 4) (.t 63), dst := none },
    { op := .mov (.c (.bool false)), dst := some 5 }]
    []
    (.take 0 (.take 1 (.take 2 (.take 3 (.one 4 (.one 5 (.take 6 (.done))))))))
def a18_r11 : ACode := .reg [{ op := .mov (.t 8), dst := some 64 },
    { op := .nilc (.t 64), dst := some 65 },
    { op := .fad 5 (.t 65), dst := some 66 },
    { op := .load 5 true (.t 66), dst := some 67 },
    { op := .alloc 5 true [.int .i64 0, .int .i64 0, .str [], .nils, .nils], dst := some 11, k := 75 },
    { op := .store 5 true (.t 11) (.t 67), dst := none }]
def a18_r12 : ACode := .draw [{ op := .mov (.t 7), dst := some 68 },
    { op := .mov (.t 7), dst := some 69 },
    { op := .nilc (.t 69), dst := some 70 },
    { op := .fad 4 (.t 70), dst := some 71 },
    { op := .load 1 false (.t 71), dst := some 72 },
    { op := .mov (.t 7), dst := some 73 },
    { op := .nilc (.t 73), dst := some 74 },
    { op := .fad 4 (.t 74), dst := some 75 },
    { op := .load 1 false (.t 75), dst := some 76 },
    { op := .len false (.t 76), dst := some 77 },
    { op := .bin .sub (.t 77) (.c (.int .i64 1)), dst := some 78 },
    { op := .slice 10 (.t 72) none (some (.t 78)) none, dst := some 79 },
    { op := .nilc (.t 68), dst := some 80 },
    { op := .fad 4 (.t 80), dst := some 81 },
    { op := .store 1 false (.t 81) (.t 79), dst := none }]
    []
    (.take 0 (.take 1 (.take 2 (.take 3 (.take 4 (.take 5 (.take 6 (.take 7 (.take 8 (.take 9 (.take 10 (.take 11 (.take 12 (.take 13 (.one 14 (.done))))))))))))))))
def a18_r13 : ACode := .draw [{ op := .mov (.t 6), dst := some 82 },
    { op := .call 43 [], dst := some 83 },
    { op := .load 5 true (.t 11), dst := some 84 },
    { op := .mov (.t 82), dst := some 2 },
    { op := .store 2 true (.t 3) (.t 83), dst := none },
    { op := .store 5 true (.t 4) (.t 84), dst := none },
    { op := .mov (.c (.bool true)), dst := some 5 }]
    [(1, [2]), (4, [2])]
    (.take 0 (.take 2 (.one 1 (.take 3 (.one 4 (.one 5 (.take 6 (.done))))))))
def a18 : ACode := (.seq a18_r0 (.seq a18_r1 (.seq (.seq a18_r2 (.cond (.t 16) (.seq a18_r3 .ret) .skip)) (.seq a18_r4 (.seq a18_r5 (.seq (.seq a18_r6 (.seq a18_r7 (.cond (.t 42) (.seq a18_r8 (.seq a18_r9 (.seq a18_r10 .ret))) .skip))) (.seq a18_r11 (.seq a18_r12 (.seq a18_r13 .ret)))))))))
def a18_res : List ARes := [.tmp 2, .cell 3 2 true, .cell 4 5 true, .tmp 5]
theorem a18_ok : Coded Try.prog 18 85 a18 a18_res := ⟨Try.f18, _, by kernel_rfl, rfl, by kernel_rfl, rfl, by kernel_rfl, by kernel_rfl⟩
theorem a18_of {args : List AV} {Q : AV → Prop} (hl : args.length ≤ 85) (h : AW Try.prog 85 a18 (mkS (argT 0 args) [] 0) (retQ a18_res Q)) : ACall Try.prog 18 args Q := acall_coded a18_ok hl h

/- workflow/workflowref02.Same -/
def a19_r0 : ACode := .reg [{ op := .box 5 true (.t 0), dst := some 2, k := 0 },
    { op := .box 5 true (.t 1), dst := some 3, k := 1 },
    { op := .mov (.c (.bool false)), dst := some 4 }]
def a19_r1 : ACode := .reg [{ op := .fad 0 (.t 2), dst := some 7 },
    { op := .load 1 false (.t 7), dst := some 8 },
    { op := .fad 0 (.t 3), dst := some 9 },
    { op := .load 1 false (.t 9), dst := some 10 },
    { op := .bin .neq (.t 8) (.t 10), dst := some 11 },
    { op := .mov (.t 11), dst := some 12 },
    { op := .fad 1 (.t 2), dst := some 13, g := some (12, false) },
    { op := .load 1 false (.t 13), dst := some 14, g := some (12, false) },
    { op := .fad 1 (.t 3), dst := some 15, g := some (12, false) },
    { op := .load 1 false (.t 15), dst := some 16, g := some (12, false) },
    { op := .bin .neq (.t 14) (.t 16), dst := some 17, g := some (12, false) },
    { op := .pick (.t 12) (.c (.bool true)) (.t 17), dst := some 18 },
    { op := .mov (.t 18), dst := some 19 },
    { op := .fad 2 (.t 2), dst := some 20, g := some (19, false) },
    { op := .load 1 false (.t 20), dst := some 21, g := some (19, false) },
    { op := .fad 2 (.t 3), dst := some 22, g := some (19, false) },
    { op := .load 1 false (.t 22), dst := some 23, g := some (19, false) },
    { op := .bin .neq (.t 21) (.t 23), dst := some 24, g := some (19, false) },
    { op := .pick (.t 19) (.c (.bool true)) (.t 24), dst := some 25 },
    { op := .mov (.t 25), dst := some 26 },
    { op := .fad 3 (.t 2), dst := some 27, g := some (26, false) },
    { op := .load 1 false (.t 27), dst := some 28, g := some (26, false) },
    { op := .len false (.t 28), dst := some 29, g := some (26, false) },
    { op := .fad 3 (.t 3), dst := some 30, g := some (26, false) },
    { op := .load 1 false (.t 30), dst := some 31, g := some (26, false) },
    { op := .len false (.t 31), dst := some 32, g := some (26, false) },
    { op := .bin .neq (.t 29) (.t 32), dst := some 33, g := some (26, false) },
    { op := .pick (.t 26) (.c (.bool true)) (.t 33), dst := some 34 },
    { op := .mov (.t 34), dst := some 35 },
    { op := .fad 4 (.t 2), dst := some 36, g := some (35, false) },
    { op := .load 1 false (.t 36), dst := some 37, g := some (35, false) },
    { op := .len false (.t 37), dst := some 38, g := some (35, false) },
    { op := .fad 4 (.t 3), dst := some 39, g := some (35, false) },
    { op := .load 1 false (.t 39), dst := some 40, g := some (35, false) },
    { op := .len false (.t 40), dst := some 41, g := some (35, false) },
    { op := .bin .neq (.t 38) (.t 41), dst := some 42, g := some (35, false) },
    { op := .pick (.t 35) (.c (.bool true)) (.t 42), dst := some 43 }]
def a19_r2 : ACode := .reg [{ op := .mov (.c (.bool false)), dst := some 4 }]
def a19_r3 : ACode := .reg [{ op := .mov (.c (.int .i64 0)), dst := some 5 }]
def a19_r4 : ACode := .reg [{ op := .mov (.t 5), dst := some 44 },
    { op := .fad 4 (.t 2), dst := some 45 },
    { op := .load 1 false (.t 45), dst := some 46 },
    { op := .len false (.t 46), dst := some 47 },
    { op := .bin .lss (.t 44) (.t 47), dst := some 48 }]
def a19_r6 : ACode := .draw [{ op := .fad 4 (.t 2), dst := some 51 },
    { op := .load 1 false (.t 51), dst := some 52 },
    { op := .mov (.t 5), dst := some 53 },
    { op := .iad 1 (.t 52) (.t 53), dst := some 54 },
    { op := .load 1 false (.t 54), dst := some 55 },
    { op := .fad 4 (.t 3), dst := some 56 },
    { op := .load 1 false (.t 56), dst := some 57 },
    { op := .mov (.t 5), dst := some 58 },
    { op := .iad 1 (.t 57) (.t 58), dst := some 59 },
    { op := .load 1 false (.t 59), dst := some 60 },
    { op := .bin .neq (.t 55) (.t 60), dst := some 61 }]
    []
    (.take 0 (.take 1 (.take 2 (.take 3 (.take 4 (.take 5 (.take 6 (.take 7 (.take 8 (.take 9 (.take 10 (.done))))))))))))
def a19_r7 : ACode := .reg [{ op := .mov (.c (.bool false)), dst := some 4 }]
def a19_r5 : ACode := .reg [{ op := .mov (.t 5), dst := some 49 },
    { op := .bin .add (.t 49) (.c (.int .i64 1)), dst := some 50 },
    { op := .mov (.t 50), dst := some 5 }]
def a19_l0 : ACode := (.seq (.seq a19_r4 (.cond (.t 48) .skip (.exit 0))) (.seq (.block 1 (.seq a19_r6 (.cond (.t 61) (.seq a19_r7 .ret) .skip))) a19_r5))
def a19_r8 : ACode := .reg [{ op := .mov (.c (.int .i64 0)), dst := some 6 }]
def a19_r9 : ACode := .reg [{ op := .mov (.t 6), dst := some 62 },
    { op := .fad 3 (.t 2), dst := some 63 },
    { op := .load 1 false (.t 63), dst := some 64 },
    { op := .len false (.t 64), dst := some 65 },
    { op := .bin .lss (.t 62) (.t 65), dst := some 66 }]
def a19_r11 : ACode := .draw [{ op := .fad 3 (.t 2), dst := some 69 },
    { op := .load 1 false (.t 69), dst := some 70 },
    { op := .mov (.t 6), dst := some 71 },
    { op := .iad 5 (.t 70) (.t 71), dst := some 72 },
    { op := .load 5 true (.t 72), dst := some 73 },
    { op := .fad 3 (.t 3), dst := some 74 },
    { op := .load 1 false (.t 74), dst := some 75 },
    { op := .mov (.t 6), dst := some 76 },
    { op := .iad 5 (.t 75) (.t 76), dst := some 77 },
    { op := .load 5 true (.t 77), dst := some 78 },
    { op := .call 19 [(.t 73), (.t 78)], dst := some 79 },
    { op := .not (.t 79), dst := some 80 }]
    []
    (.take 0 (.take 1 (.take 2 (.take 3 (.take 4 (.take 5 (.take 6 (.take 7 (.take 8 (.take 9 (.one 10 (.take 11 (.done)))))))))))))
def a19_r12 : ACode := .reg [{ op := .mov (.c (.bool false)), dst := some 4 }]
def a19_r10 : ACode := .reg [{ op := .mov (.t 6), dst := some 67 },
    { op := .bin .add (.t 67) (.c (.int .i64 1)), dst := some 68 },
    { op := .mov (.t 68), dst := some 6 }]
def a19_l1 : ACode := (.seq (.seq a19_r9 (.cond (.t 66) .skip (.exit 2))) (.seq (.block 3 (.seq a19_r11 (.cond (.t 80) (.seq a19_r12 .ret) .skip))) a19_r10))
def a19_r13 : ACode := .reg [{ op := .mov (.c (.bool true)), dst := some 4 }]
def a19 : ACode := (.seq a19_r0 (.seq (.seq a19_r1 (.cond (.t 43) (.seq a19_r2 .ret) .skip)) (.seq (.seq a19_r3 (.block 0 (.loop a19_l0))) (.seq (.seq a19_r8 (.block 2 (.loop a19_l1))) (.seq a19_r13 .ret)))))
def a19_res : List ARes := [.tmp 4]
theorem a19_ok : Coded Try.prog 19 81 a19 a19_res := ⟨Try.f19, _, by kernel_rfl, rfl, by kernel_rfl, rfl, by kernel_rfl, by kernel_rfl⟩
theorem a19_of {args : List AV} {Q : AV → Prop} (hl : args.length ≤ 81) (h : AW Try.prog 81 a19 (mkS (argT 0 args) [] 0) (retQ a19_res Q)) : ACall Try.prog 19 args Q := acall_coded a19_ok hl h

/- workflow/unwind.Undoing -/
def a20_r0 : ACode := .reg [{ op := .mov (.c (.bool false)), dst := some 2 }]
def a20_r1 : ACode := .reg [{ op := .mov (.t 0), dst := some 6 },
    { op := .call 34 [(.t 6)], dst := some 7 },
    { op := .mov (.t 7), dst := some 5 },
    { op := .ext (.t 5) 0, dst := some 8 },
    { op := .ext (.t 5) 1, dst := some 9 },
    { op := .mov (.t 8), dst := some 3 },
    { op := .mov (.t 9), dst := some 4 }]
def a20_r2 : ACode := .reg [{ op := .mov (.t 4), dst := some 10 },
    { op := .eqn true .p (.t 10), dst := some 11 },
    { op := .mov (.t 11), dst := some 12 },
    { op := .mov (.t 4), dst := some 13, g := some (12, true) },
    { op := .nilc (.t 13), dst := some 14, g := some (12, true) },
    { op := .fad 0 (.t 14), dst := some 15, g := some (12, true) },
    { op := .load 1 false (.t 15), dst := some 16, g := some (12, true) },
    { op := .bin .eql (.t 16) (.c (.int .i64 3)), dst := some 17, g := some (12, true) },
    { op := .pick (.t 12) (.t 17) (.c (.bool false)), dst := some 18 },
    { op := .mov (.t 18), dst := some 2 }]
def a20 : ACode := (.seq a20_r0 (.seq a20_r1 (.seq a20_r2 .ret)))
def a20_res : List ARes := [.tmp 2]
theorem a20_ok : Coded Try.prog 20 19 a20 a20_res := ⟨Try.f20, _, by kernel_rfl, rfl, by kernel_rfl, rfl, by kernel_rfl, by kernel_rfl⟩
theorem a20_of {args : List AV} {Q : AV → Prop} (hl : args.length ≤ 19) (h : AW Try.prog 19 a20 (mkS (argT 0 args) [] 0) (retQ a20_res Q)) : ACall Try.prog 20 args Q := acall_coded a20_ok hl h

/- workflow/workflowref13.Undoing -/
def a21_r0 : ACode := .reg [{ op := .mov (.c (.bool false)), dst := some 2 }]
def a21_r1 : ACode := .reg [{ op := .mov (.t 0), dst := some 4 },
    { op := .len false (.t 4), dst := some 5 },
    { op := .bin .eql (.t 5) (.c (.int .i64 0)), dst := some 6 }]
def a21_r2 : ACode := .reg [{ op := .mov (.c (.bool false)), dst := some 2 }]
def a21_r3 : ACode := .reg [{ op := .mov (.t 0), dst := some 7 },
    { op := .mov (.t 0), dst := some 8 },
    { op := .len false (.t 8), dst := some 9 },
    { op := .bin .sub (.t 9) (.c (.int .i64 1)), dst := some 10 },
    { op := .iad 5 (.t 7) (.t 10), dst := some 11 },
    { op := .fad 4 (.t 11), dst := some 12 },
    { op := .load 1 false (.t 12), dst := some 13 },
    { op := .mov (.t 13), dst := some 3 }]
def a21_r4 : ACode := .reg [{ op := .mov (.t 3), dst := some 14 },
    { op := .len false (.t 14), dst := some 15 },
    { op := .bin .gtr (.t 15) (.c (.int .i64 0)), dst := some 16 },
    { op := .mov (.t 16), dst := some 17 },
    { op := .mov (.t 3), dst := some 18, g := some (17, true) },
    { op := .mov (.t 3), dst := some 19, g := some (17, true) },
    { op := .len false (.t 19), dst := some 20, g := some (17, true) },
    { op := .bin .sub (.t 20) (.c (.int .i64 1)), dst := some 21, g := some (17, true) },
    { op := .iad 10 (.t 18) (.t 21), dst := some 22, g := some (17, true) },
    { op := .fad 0 (.t 22), dst := some 23, g := some (17, true) },
    { op := .load 1 false (.t 23), dst := some 24, g := some (17, true) },
    { op := .bin .eql (.t 24) (.c (.int .i64 3)), dst := some 25, g := some (17, true) },
    { op := .pick (.t 17) (.t 25) (.c (.bool false)), dst := some 26 },
    { op := .mov (.t 26), dst := some 2 }]
def a21 : ACode := (.seq a21_r0 (.seq (.seq a21_r1 (.cond (.t 6) (.seq a21_r2 .ret) .skip)) (.seq a21_r3 (.seq a21_r4 .ret))))
def a21_res : List ARes := [.tmp 2]
theorem a21_ok : Coded Try.prog 21 27 a21 a21_res := ⟨Try.f21, _, by kernel_rfl, rfl, by kernel_rfl, rfl, by kernel_rfl, by kernel_rfl⟩
theorem a21_of {args : List AV} {Q : AV → Prop} (hl : args.length ≤ 27) (h : AW Try.prog 27 a21 (mkS (argT 0 args) [] 0) (retQ a21_res Q)) : ACall Try.prog 21 args Q := acall_coded a21_ok hl h

/- workflow/unwind.Enter -/
def a22_r0 : ACode := .reg [{ op := .box 5 true (.t 0), dst := some 4, k := 0 },
    { op := .alloc 5 true [.int .i64 0, .int .i64 0, .nils, .nils, .nils], dst := some 8, k := 1 },
    { op := .mov (.c (.int .i64 0)), dst := some 9 }]
def a22_r1 : ACode := .reg [{ op := .mov (.t 1), dst := some 11 }]
def a22_r3 : ACode := .reg [{ op := .bin .eql (.t 11) (.c (.int .i64 1)), dst := some 14 },
    { op := .mov (.t 14), dst := some 13 }]
def a22_r4 : ACode := .reg [{ op := .mov (.t 2), dst := some 15 },
    { op := .bin .lss (.t 15) (.c (.int .i64 0)), dst := some 16 },
    { op := .mov (.t 16), dst := some 17 },
    { op := .mov (.t 3), dst := some 18, g := some (17, false) },
    { op := .bin .lss (.t 18) (.c (.int .i64 0)), dst := some 19, g := some (17, false) },
    { op := .pick (.t 17) (.c (.bool true)) (.t 19), dst := some 20 },
    { op := .mov (.t 20), dst := some 21 },
    { op := .mov (.t 3), dst := some 22, g := some (21, false) },
    { op := .fad 2 (.t 4), dst := some 23, g := some (21, false) },
    { op := .load 1 false (.t 23), dst := some 24, g := some (21, false) },
    { op := .len false (.t 24), dst := some 25, g := some (21, false) },
    { op := .bin .geq (.t 22) (.t 25), dst := some 26, g := some (21, false) },
    { op := .pick (.t 21) (.c (.bool true)) (.t 26), dst := some 27 }]
def a22_r5 : ACode := .reg [{ op := .build [.int .i64 0, .int .i64 0, .nils, .nils, .nils] [], dst := some 28 },
    { op := .store 5 true (.t 8) (.t 28), dst := none },
    { op := .mov (.c (.int .i64 2)), dst := some 9 }]
def a22_r6 : ACode := .reg [{ op := .bin .eql (.t 11) (.c (.int .i64 2)), dst := some 30 },
    { op := .mov (.t 30), dst := some 29 }]
def a22_r7 : ACode := .reg [{ op := .mov (.t 2), dst := some 31 },
    { op := .bin .neq (.t 31) (.c (.int .i64 0)), dst := some 32 },
    { op := .mov (.t 32), dst := some 33 },
    { op := .mov (.t 3), dst := some 34, g := some (33, false) },
    { op := .bin .neq (.t 34) (.c (.int .i64 0)), dst := some 35, g := some (33, false) },
    { op := .pick (.t 33) (.c (.bool true)) (.t 35), dst := some 36 }]
def a22_r8 : ACode := .reg [{ op := .build [.int .i64 0, .int .i64 0, .nils, .nils, .nils] [], dst := some 37 },
    { op := .store 5 true (.t 8) (.t 37), dst := none },
    { op := .mov (.c (.int .i64 2)), dst := some 9 }]
def a22_r2 : ACode := .reg [{ op := .build [.int .i64 0, .int .i64 0, .nils, .nils, .nils] [], dst := some 12 },
    { op := .store 5 true (.t 8) (.t 12), dst := none },
    { op := .mov (.c (.int .i64 11)), dst := some 9 }]
def a22_r9 : ACode := .reg [{ op := .load 5 true (.t 4), dst := some 38 },
    { op := .call 44 [(.t 38)], dst := some 39 },
    { op := .alloc 5 true [.int .i64 0, .int .i64 0, .nils, .nils, .nils], dst := some 10, k := 38 },
    { op := .store 5 true (.t 10) (.t 39), dst := none }]
def a22_r10 : ACode := .reg [{ op := .fad 4 (.t 10), dst := some 40 },
    { op := .load 1 false (.t 40), dst := some 41 },
    { op := .mov (.t 1), dst := some 42 },
    { op := .mov (.t 2), dst := some 43 },
    { op := .mov (.t 3), dst := some 44 },
    { op := .fad 3 (.t 4), dst := some 45 },
    { op := .load 1 false (.t 45), dst := some 46 },
    { op := .len false (.t 46), dst := some 47 },
    { op := .build [.int .i64 0, .int .i64 0, .int .i64 0, .int .i64 0, .nils, .int .i64 0, .int .i64 0, .str [], .nils, .nils] [(0, 1, (.t 42)), (1, 1, (.t 43)), (2, 1, (.t 44)), (3, 1, (.t 47))], dst := some 48 },
    { op := .bsl 10 true 1 [.int .i64 0, .int .i64 0, .int .i64 0, .int .i64 0, .nils, .int .i64 0, .int .i64 0, .str [], .nils, .nils] [(0, (.t 48))], dst := some 49 },
    { op := .app 10 136 (.t 41) (.t 49), dst := some 50, k := 50 },
    { op := .fad 4 (.t 10), dst := some 51 },
    { op := .store 1 false (.t 51) (.t 50), dst := none }]
def a22_r11 : ACode := .reg [{ op := .load 5 true (.t 10), dst := some 52 },
    { op := .store 5 true (.t 8) (.t 52), dst := none },
    { op := .mov (.c (.int .i64 0)), dst := some 9 }]
def a22 : ACode := (.seq a22_r0 (.seq (.seq a22_r1 (.block 0 (.seq a22_r3 (.cond (.t 13) (.seq a22_r4 (.cond (.t 27) (.seq a22_r5 .ret) .skip)) (.seq a22_r6 (.cond (.t 29) (.seq a22_r7 (.cond (.t 36) (.seq a22_r8 .ret) .skip)) (.seq a22_r2 .ret))))))) (.seq a22_r9 (.seq a22_r10 (.seq a22_r11 .ret)))))
def a22_res : List ARes := [.cell 8 5 true, .tmp 9]
theorem a22_ok : Coded Try.prog 22 53 a22 a22_res := ⟨Try.f22, _, by kernel_rfl, rfl, by kernel_rfl, rfl, by kernel_rfl, by kernel_rfl⟩
theorem a22_of {args : List AV} {Q : AV → Prop} (hl : args.length ≤ 53) (h : AW Try.prog 53 a22 (mkS (argT 0 args) [] 0) (retQ a22_res Q)) : ACall Try.prog 22 args Q := acall_coded a22_ok hl h

/- workflow/workflowref13.Enter -/
def a23_r0 : ACode := .reg [{ op := .box 5 true (.t 0), dst := some 4, k := 0 },
    { op := .alloc 5 true [.int .i64 0, .int .i64 0, .nils, .nils, .nils], dst := some 8, k := 1 },
    { op := .mov (.c (.int .i64 0)), dst := some 9 }]
def a23_r1 : ACode := .reg [{ op := .mov (.t 1), dst := some 11 },
    { op := .bin .neq (.t 11) (.c (.int .i64 1)), dst := some 12 },
    { op := .mov (.t 12), dst := some 13 },
    { op := .mov (.t 1), dst := some 14, g := some (13, true) },
    { op := .bin .neq (.t 14) (.c (.int .i64 2)), dst := some 15, g := some (13, true) },
    { op := .pick (.t 13) (.t 15) (.c (.bool false)), dst := some 16 }]
def a23_r2 : ACode := .reg [{ op := .build [.int .i64 0, .int .i64 0, .nils, .nils, .nils] [], dst := some 17 },
    { op := .store 5 true (.t 8) (.t 17), dst := none },
    { op := .mov (.c (.int .i64 11)), dst := some 9 }]
def a23_r3 : ACode := .reg [{ op := .mov (.t 1), dst := some 18 },
    { op := .bin .eql (.t 18) (.c (.int .i64 1)), dst := some 19 },
    { op := .mov (.t 19), dst := some 20 },
    { op := .mov (.t 2), dst := some 21, g := some (20, true) },
    { op := .bin .lss (.t 21) (.c (.int .i64 0)), dst := some 22, g := some (20, true) },
    { op := .mov (.t 22), dst := some 23, g := some (20, true) },
    { op := .mov (.t 3), dst := some 24, g := some (23, false) },
    { op := .bin .lss (.t 24) (.c (.int .i64 0)), dst := some 25, g := some (23, false) },
    { op := .pick (.t 23) (.c (.bool true)) (.t 25), dst := some 26, g := some (20, true) },
    { op := .mov (.t 26), dst := some 27, g := some (20, true) },
    { op := .mov (.t 3), dst := some 28, g := some (27, false) },
    { op := .fad 2 (.t 4), dst := some 29, g := some (27, false) },
    { op := .load 1 false (.t 29), dst := some 30, g := some (27, false) },
    { op := .len false (.t 30), dst := some 31, g := some (27, false) },
    { op := .bin .geq (.t 28) (.t 31), dst := some 32, g := some (27, false) },
    { op := .pick (.t 27) (.c (.bool true)) (.t 32), dst := some 33, g := some (20, true) },
    { op := .pick (.t 20) (.t 33) (.c (.bool false)), dst := some 34 },
    { op := .mov (.t 34), dst := some 35 },
    { op := .mov (.t 1), dst := some 36, g := some (35, false) },
    { op := .bin .eql (.t 36) (.c (.int .i64 2)), dst := some 37, g := some (35, false) },
    { op := .mov (.t 37), dst := some 38, g := some (35, false) },
    { op := .mov (.t 2), dst := some 39, g := some (38, true) },
    { op := .bin .neq (.t 39) (.c (.int .i64 0)), dst := some 40, g := some (38, true) },
    { op := .mov (.t 40), dst := some 41, g := some (38, true) },
    { op := .mov (.t 3), dst := some 42, g := some (41, false) },
    { op := .bin .neq (.t 42) (.c (.int .i64 0)), dst := some 43, g := some (41, false) },
    { op := .pick (.t 41) (.c (.bool true)) (.t 43), dst := some 44, g := some (38, true) },
    { op := .pick (.t 38) (.t 44) (.c (.bool false)), dst := some 45, g := some (35, false) },
    { op := .pick (.t 35) (.c (.bool true)) (.t 45), dst := some 46 }]
def a23_r4 : ACode := .reg [{ op := .build [.int .i64 0, .int .i64 0, .nils, .nils, .nils] [], dst := some 47 },
    { op := .store 5 true (.t 8) (.t 47), dst := none },
    { op := .mov (.c (.int .i64 2)), dst := some 9 }]
def a23_r5 : ACode := .reg [{ op := .load 5 true (.t 4), dst := some 48 },
    { op := .call 45 [(.t 48)], dst := some 49 },
    { op := .alloc 5 true [.int .i64 0, .int .i64 0, .nils, .nils, .nils], dst := some 10, k := 46 },
    { op := .store 5 true (.t 10) (.t 49), dst := none }]
def a23_r6 : ACode := .reg [{ op := .fad 4 (.t 10), dst := some 50 },
    { op := .load 1 false (.t 50), dst := some 51 },
    { op := .mov (.t 1), dst := some 52 },
    { op := .mov (.t 2), dst := some 53 },
    { op := .mov (.t 3), dst := some 54 },
    { op := .fad 3 (.t 4), dst := some 55 },
    { op := .load 1 false (.t 55), dst := some 56 },
    { op := .len false (.t 56), dst := some 57 },
    { op := .build [.int .i64 0, .int .i64 0, .int .i64 0, .int .i64 0, .nils, .int .i64 0, .int .i64 0, .str [], .nils, .nils] [(0, 1, (.t 52)), (1, 1, (.t 53)), (2, 1, (.t 54)), (3, 1, (.t 57))], dst := some 58 },
    { op := .bsl 10 true 1 [.int .i64 0, .int .i64 0, .int .i64 0, .int .i64 0, .nils, .int .i64 0, .int .i64 0, .str [], .nils, .nils] [(0, (.t 58))], dst := some 59 },
    { op := .app 10 136 (.t 51) (.t 59), dst := some 60, k := 58 },
    { op := .fad 4 (.t 10), dst := some 61 },
    { op := .store 1 false (.t 61) (.t 60), dst := none }]
def a23_r7 : ACode := .reg [{ op := .load 5 true (.t 10), dst := some 62 },
    { op := .store 5 true (.t 8) (.t 62), dst := none },
    { op := .mov (.c (.int .i64 0)), dst := some 9 }]
def a23 : ACode := (.seq a23_r0 (.seq (.seq a23_r1 (.cond (.t 16) (.seq a23_r2 .ret) .skip)) (.seq (.seq a23_r3 (.cond (.t 46) (.seq a23_r4 .ret) .skip)) (.seq a23_r5 (.seq a23_r6 (.seq a23_r7 .ret))))))
def a23_res : List ARes := [.cell 8 5 true, .tmp 9]
theorem a23_ok : Coded Try.prog 23 63 a23 a23_res := ⟨Try.f23, _, by kernel_rfl, rfl, by kernel_rfl, rfl, by kernel_rfl, by kernel_rfl⟩
theorem a23_of {args : List AV} {Q : AV → Prop} (hl : args.length ≤ 63) (h : AW Try.prog 63 a23 (mkS (argT 0 args) [] 0) (retQ a23_res Q)) : ACall Try.prog 23 args Q := acall_coded a23_ok hl h

/- workflow/unwind.Leave -/
def a24_r0 : ACode := .reg [{ op := .box 5 true (.t 0), dst := some 1, k := 0 },
    { op := .alloc 5 true [.int .i64 0, .int .i64 0, .nils, .nils, .nils], dst := some 2, k := 1 },
    { op := .mov (.c (.int .i64 0)), dst := some 3 }]
def a24_r1 : ACode := .reg [{ op := .fad 4 (.t 1), dst := some 6 },
    { op := .load 1 false (.t 6), dst := some 7 },
    { op := .len false (.t 7), dst := some 8 },
    { op := .mov (.t 8), dst := some 4 }]
def a24_r2 : ACode := .reg [{ op := .mov (.t 4), dst := some 9 },
    { op := .bin .eql (.t 9) (.c (.int .i64 0)), dst := some 10 },
    { op := .mov (.t 10), dst := some 11 },
    { op := .fad 4 (.t 1), dst := some 12, g := some (11, false) },
    { op := .load 1 false (.t 12), dst := some 13, g := some (11, false) },
    { op := .mov (.t 4), dst := some 14, g := some (11, false) },
    { op := .bin .sub (.t 14) (.c (.int .i64 1)), dst := some 15, g := some (11, false) },
    { op := .iad 10 (.t 13) (.t 15), dst := some 16, g := some (11, false) },
    { op := .fad 0 (.t 16), dst := some 17, g := some (11, false) },
    { op := .load 1 false (.t 17), dst := some 18, g := some (11, false) },
    { op := .bin .neq (.t 18) (.c (.int .i64 1)), dst := some 19, g := some (11, false) },
    { op := .mov (.t 19), dst := some 20, g := some (11, false) },
    { op := .fad 4 (.t 1), dst := some 21, g := some (20, true) },
    { op := .load 1 false (.t 21), dst := some 22, g := some (20, true) },
    { op := .mov (.t 4), dst := some 23, g := some (20, true) },
    { op := .bin .sub (.t 23) (.c (.int .i64 1)), dst := some 24, g := some (20, true) },
    { op := .iad 10 (.t 22) (.t 24), dst := some 25, g := some (20, true) },
    { op := .fad 0 (.t 25), dst := some 26, g := some (20, true) },
    { op := .load 1 false (.t 26), dst := some 27, g := some (20, true) },
    { op := .bin .neq (.t 27) (.c (.int .i64 2)), dst := some 28, g := some (20, true) },
    { op := .pick (.t 20) (.t 28) (.c (.bool false)), dst := some 29, g := some (11, false) },
    { op := .pick (.t 11) (.c (.bool true)) (.t 29), dst := some 30 }]
def a24_r3 : ACode := .reg [{ op := .build [.int .i64 0, .int .i64 0, .nils, .nils, .nils] [], dst := some 31 },
    { op := .store 5 true (.t 2) (.t 31), dst := none },
    { op := .mov (.c (.int .i64 16)), dst := some 3 }]
def a24_r4 : ACode := .reg [{ op := .load 5 true (.t 1), dst := some 32 },
    { op := .call 44 [(.t 32)], dst := some 33 },
    { op := .alloc 5 true [.int .i64 0, .int .i64 0, .nils, .nils, .nils], dst := some 5, k := 34 },
    { op := .store 5 true (.t 5) (.t 33), dst := none }]
def a24_r5 : ACode := .reg [{ op := .fad 4 (.t 5), dst := some 34 },
    { op := .load 1 false (.t 34), dst := some 35 },
    { op := .mov (.t 4), dst := some 36 },
    { op := .bin .sub (.t 36) (.c (.int .i64 1)), dst := some 37 },
    { op := .slice 10 (.t 35) none (some (.t 37)) none, dst := some 38 },
    { op := .fad 4 (.t 5), dst := some 39 },
    { op := .store 1 false (.t 39) (.t 38), dst := none }]
def a24_r6 : ACode := .reg [{ op := .load 5 true (.t 5), dst := some 40 },
    { op := .store 5 true (.t 2) (.t 40), dst := none },
    { op := .mov (.c (.int .i64 0)), dst := some 3 }]
def a24 : ACode := (.seq a24_r0 (.seq a24_r1 (.seq (.seq a24_r2 (.cond (.t 30) (.seq a24_r3 .ret) .skip)) (.seq a24_r4 (.seq a24_r5 (.seq a24_r6 .ret))))))
def a24_res : List ARes := [.cell 2 5 true, .tmp 3]
theorem a24_ok : Coded Try.prog 24 41 a24 a24_res := ⟨Try.f24, _, by kernel_rfl, rfl, by kernel_rfl, rfl, by kernel_rfl, by kernel_rfl⟩
theorem a24_of {args : List AV} {Q : AV → Prop} (hl : args.length ≤ 41) (h : AW Try.prog 41 a24 (mkS (argT 0 args) [] 0) (retQ a24_res Q)) : ACall Try.prog 24 args Q := acall_coded a24_ok hl h

/- workflow/workflowref13.Leave -/
def a25_r0 : ACode := .reg [{ op := .box 5 true (.t 0), dst := some 1, k := 0 },
    { op := .alloc 5 true [.int .i64 0, .int .i64 0, .nils, .nils, .nils], dst := some 2, k := 1 },
    { op := .mov (.c (.int .i64 0)), dst := some 3 }]
def a25_r1 : ACode := .reg [{ op := .fad 4 (.t 1), dst := some 6 },
    { op := .load 1 false (.t 6), dst := some 7 },
    { op := .len false (.t 7), dst := some 8 },
    { op := .mov (.t 8), dst := some 4 }]
def a25_r2 : ACode := .reg [{ op := .mov (.t 4), dst := some 9 },
    { op := .bin .eql (.t 9) (.c (.int .i64 0)), dst := some 10 },
    { op := .mov (.t 10), dst := some 11 },
    { op := .fad 4 (.t 1), dst := some 12, g := some (11, false) },
    { op := .load 1 false (.t 12), dst := some 13, g := some (11, false) },
    { op := .mov (.t 4), dst := some 14, g := some (11, false) },
    { op := .bin .sub (.t 14) (.c (.int .i64 1)), dst := some 15, g := some (11, false) },
    { op := .iad 10 (.t 13) (.t 15), dst := some 16, g := some (11, false) },
    { op := .fad 0 (.t 16), dst := some 17, g := some (11, false) },
    { op := .load 1 false (.t 17), dst := some 18, g := some (11, false) },
    { op := .bin .neq (.t 18) (.c (.int .i64 1)), dst := some 19, g := some (11, false) },
    { op := .mov (.t 19), dst := some 20, g := some (11, false) },
    { op := .fad 4 (.t 1), dst := some 21, g := some (20, true) },
    { op := .load 1 false (.t 21), dst := some 22, g := some (20, true) },
    { op := .mov (.t 4), dst := some 23, g := some (20, true) },
    { op := .bin .sub (.t 23) (.c (.int .i64 1)), dst := some 24, g := some (20, true) },
    { op := .iad 10 (.t 22) (.t 24), dst := some 25, g := some (20, true) },
    { op := .fad 0 (.t 25), dst := some 26, g := some (20, true) },
    { op := .load 1 false (.t 26), dst := some 27, g := some (20, true) },
    { op := .bin .neq (.t 27) (.c (.int .i64 2)), dst := some 28, g := some (20, true) },
    { op := .pick (.t 20) (.t 28) (.c (.bool false)), dst := some 29, g := some (11, false) },
    { op := .pick (.t 11) (.c (.bool true)) (.t 29), dst := some 30 }]
def a25_r3 : ACode := .reg [{ op := .build [.int .i64 0, .int .i64 0, .nils, .nils, .nils] [], dst := some 31 },
    { op := .store 5 true (.t 2) (.t 31), dst := none },
    { op := .mov (.c (.int .i64 16)), dst := some 3 }]
def a25_r4 : ACode := .reg [{ op := .load 5 true (.t 1), dst := some 32 },
    { op := .call 45 [(.t 32)], dst := some 33 },
    { op := .alloc 5 true [.int .i64 0, .int .i64 0, .nils, .nils, .nils], dst := some 5, k := 34 },
    { op := .store 5 true (.t 5) (.t 33), dst := none }]
def a25_r5 : ACode := .reg [{ op := .fad 4 (.t 5), dst := some 34 },
    { op := .load 1 false (.t 34), dst := some 35 },
    { op := .mov (.t 4), dst := some 36 },
    { op := .bin .sub (.t 36) (.c (.int .i64 1)), dst := some 37 },
    { op := .slice 10 (.t 35) none (some (.t 37)) none, dst := some 38 },
    { op := .fad 4 (.t 5), dst := some 39 },
    { op := .store 1 false (.t 39) (.t 38), dst := none }]
def a25_r6 : ACode := .reg [{ op := .load 5 true (.t 5), dst := some 40 },
    { op := .store 5 true (.t 2) (.t 40), dst := none },
    { op := .mov (.c (.int .i64 0)), dst := some 3 }]
def a25 : ACode := (.seq a25_r0 (.seq a25_r1 (.seq (.seq a25_r2 (.cond (.t 30) (.seq a25_r3 .ret) .skip)) (.seq a25_r4 (.seq a25_r5 (.seq a25_r6 .ret))))))
def a25_res : List ARes := [.cell 2 5 true, .tmp 3]
theorem a25_ok : Coded Try.prog 25 41 a25 a25_res := ⟨Try.f25, _, by kernel_rfl, rfl, by kernel_rfl, rfl, by kernel_rfl, by kernel_rfl⟩
theorem a25_of {args : List AV} {Q : AV → Prop} (hl : args.length ≤ 41) (h : AW Try.prog 41 a25 (mkS (argT 0 args) [] 0) (retQ a25_res Q)) : ACall Try.prog 25 args Q := acall_coded a25_ok hl h

/- workflow/workflowlaw13.SameFrame -/
def a26_r0 : ACode := .reg [{ op := .box 5 true (.t 0), dst := some 2, k := 0 },
    { op := .box 5 true (.t 1), dst := some 3, k := 1 },
    { op := .mov (.c (.bool false)), dst := some 4 }]
def a26_r1 : ACode := .reg [{ op := .fad 0 (.t 2), dst := some 6 },
    { op := .load 1 false (.t 6), dst := some 7 },
    { op := .fad 0 (.t 3), dst := some 8 },
    { op := .load 1 false (.t 8), dst := some 9 },
    { op := .bin .neq (.t 7) (.t 9), dst := some 10 },
    { op := .mov (.t 10), dst := some 11 },
    { op := .fad 1 (.t 2), dst := some 12, g := some (11, false) },
    { op := .load 1 false (.t 12), dst := some 13, g := some (11, false) },
    { op := .fad 1 (.t 3), dst := some 14, g := some (11, false) },
    { op := .load 1 false (.t 14), dst := some 15, g := some (11, false) },
    { op := .bin .neq (.t 13) (.t 15), dst := some 16, g := some (11, false) },
    { op := .pick (.t 11) (.c (.bool true)) (.t 16), dst := some 17 },
    { op := .mov (.t 17), dst := some 18 },
    { op := .fad 2 (.t 2), dst := some 19, g := some (18, false) },
    { op := .load 1 false (.t 19), dst := some 20, g := some (18, false) },
    { op := .fad 2 (.t 3), dst := some 21, g := some (18, false) },
    { op := .load 1 false (.t 21), dst := some 22, g := some (18, false) },
    { op := .call 42 [(.t 20), (.t 22)], dst := some 23, g := some (18, false) },
    { op := .not (.t 23), dst := some 24, g := some (18, false) },
    { op := .pick (.t 18) (.c (.bool true)) (.t 24), dst := some 25 },
    { op := .mov (.t 25), dst := some 26 },
    { op := .fad 3 (.t 2), dst := some 27, g := some (26, false) },
    { op := .load 1 false (.t 27), dst := some 28, g := some (26, false) },
    { op := .fad 3 (.t 3), dst := some 29, g := some (26, false) },
    { op := .load 1 false (.t 29), dst := some 30, g := some (26, false) },
    { op := .call 42 [(.t 28), (.t 30)], dst := some 31, g := some (26, false) },
    { op := .not (.t 31), dst := some 32, g := some (26, false) },
    { op := .pick (.t 26) (.c (.bool true)) (.t 32), dst := some 33 },
    { op := .mov (.t 33), dst := some 34 },
    { op := .fad 4 (.t 2), dst := some 35, g := some (34, false) },
    { op := .load 1 false (.t 35), dst := some 36, g := some (34, false) },
    { op := .len false (.t 36), dst := some 37, g := some (34, false) },
    { op := .fad 4 (.t 3), dst := some 38, g := some (34, false) },
    { op := .load 1 false (.t 38), dst := some 39, g := some (34, false) },
    { op := .len false (.t 39), dst := some 40, g := some (34, false) },
    { op := .bin .neq (.t 37) (.t 40), dst := some 41, g := some (34, false) },
    { op := .pick (.t 34) (.c (.bool true)) (.t 41), dst := some 42 }]
def a26_r2 : ACode := .reg [{ op := .mov (.c (.bool false)), dst := some 4 }]
def a26_r3 : ACode := .reg [{ op := .fad 4 (.t 2), dst := some 43 },
    { op := .load 1 false (.t 43), dst := some 44 },
    { op := .len false (.t 44), dst := some 45 },
    { op := .mov (.c (.int .i64 0)), dst := some 46 }]
def a26_r4 : ACode := .reg [{ op := .bin .lss (.t 46) (.t 45), dst := some 47 }]
def a26_r5 : ACode := .reg [{ op := .mov (.t 46), dst := some 48 },
    { op := .mov (.t 48), dst := some 5 }]
def a26_r6 : ACode := .draw [{ op := .fad 4 (.t 2), dst := some 49 },
    { op := .load 1 false (.t 49), dst := some 50 },
    { op := .mov (.t 5), dst := some 51 },
    { op := .iad 10 (.t 50) (.t 51), dst := some 52 },
    { op := .load 10 true (.t 52), dst := some 53 },
    { op := .fad 4 (.t 3), dst := some 54 },
    { op := .load 1 false (.t 54), dst := some 55 },
    { op := .mov (.t 5), dst := some 56 },
    { op := .iad 10 (.t 55) (.t 56), dst := some 57 },
    { op := .load 10 true (.t 57), dst := some 58 },
    { op := .call 46 [(.t 53), (.t 58)], dst := some 59 },
    { op := .not (.t 59), dst := some 60 }]
    []
    (.take 0 (.take 1 (.take 2 (.take 3 (.take 4 (.take 5 (.take 6 (.take 7 (.take 8 (.take 9 (.one 10 (.take 11 (.done)))))))))))))
def a26_r7 : ACode := .reg [{ op := .mov (.c (.bool false)), dst := some 4 }]
def a26_r8 : ACode := .reg [{ op := .bin .add (.t 46) (.c (.int .i64 1)), dst := some 61 },
    { op := .mov (.t 61), dst := some 46 }]
def a26_l0 : ACode := (.seq a26_r4 (.seq (.cond (.t 47) .skip (.exit 0)) (.seq (.block 1 (.seq a26_r5 (.seq a26_r6 (.cond (.t 60) (.seq a26_r7 .ret) .skip)))) a26_r8)))
def a26_r9 : ACode := .reg [{ op := .mov (.c (.bool true)), dst := some 4 }]
def a26 : ACode := (.seq a26_r0 (.seq (.seq a26_r1 (.cond (.t 42) (.seq a26_r2 .ret) .skip)) (.seq (.seq a26_r3 (.block 0 (.loop a26_l0))) (.seq a26_r9 .ret))))
def a26_res : List ARes := [.tmp 4]
theorem a26_ok : Coded Try.prog 26 62 a26 a26_res := ⟨Try.f26, _, by kernel_rfl, rfl, by kernel_rfl, rfl, by kernel_rfl, by kernel_rfl⟩
theorem a26_of {args : List AV} {Q : AV → Prop} (hl : args.length ≤ 62) (h : AW Try.prog 62 a26 (mkS (argT 0 args) [] 0) (retQ a26_res Q)) : ACall Try.prog 26 args Q := acall_coded a26_ok hl h

/- workflow/value.Int -/
def a27_r0 : ACode := .reg [{ op := .alloc 5 true [.int .i64 0, .int .i64 0, .str [], .nils, .nils], dst := some 2, k := 0 }]
def a27_r1 : ACode := .reg [{ op := .mov (.t 0), dst := some 3 },
    { op := .build [.int .i64 0, .int .i64 0, .str [], .nils, .nils] [(0, 1, (.c (.int .i64 2))), (1, 1, (.t 3))], dst := some 4 },
    { op := .store 5 true (.t 2) (.t 4), dst := none }]
def a27 : ACode := (.seq a27_r0 (.seq a27_r1 .ret))
def a27_res : List ARes := [.cell 2 5 true]
theorem a27_ok : Coded Try.prog 27 5 a27 a27_res := ⟨Try.f27, _, by kernel_rfl, rfl, by kernel_rfl, rfl, by kernel_rfl, by kernel_rfl⟩
theorem a27_of {args : List AV} {Q : AV → Prop} (hl : args.length ≤ 5) (h : AW Try.prog 5 a27 (mkS (argT 0 args) [] 0) (retQ a27_res Q)) : ACall Try.prog 27 args Q := acall_coded a27_ok hl h

/- workflow/workflowref13.Register -/
def a29_r0 : ACode := .reg [{ op := .box 5 true (.t 0), dst := some 2, k := 0 },
    { op := .box 2 true (.t 1), dst := some 3, k := 1 },
    { op := .alloc 5 true [.int .i64 0, .int .i64 0, .nils, .nils, .nils], dst := some 4, k := 2 },
    { op := .mov (.c (.int .i64 0)), dst := some 5 }]
def a29_r1 : ACode := .reg [{ op := .fad 0 (.t 3), dst := some 10 },
    { op := .load 1 false (.t 10), dst := some 11 },
    { op := .bin .lss (.t 11) (.c (.int .i64 0)), dst := some 12 }]
def a29_r2 : ACode := .reg [{ op := .build [.int .i64 0, .int .i64 0, .nils, .nils, .nils] [], dst := some 13 },
    { op := .store 5 true (.t 4) (.t 13), dst := none },
    { op := .mov (.c (.int .i64 2)), dst := some 5 }]
def a29_r3 : ACode := .reg [{ op := .mov (.c (.int .i64 (-1))), dst := some 6 }]
def a29_r4 : ACode := .reg [{ op := .fad 4 (.t 2), dst := some 14 },
    { op := .load 1 false (.t 14), dst := some 15 },
    { op := .len false (.t 15), dst := some 16 },
    { op := .mov (.c (.int .i64 0)), dst := some 17 }]
def a29_r5 : ACode := .reg [{ op := .bin .lss (.t 17) (.t 16), dst := some 18 }]
def a29_r6 : ACode := .reg [{ op := .mov (.t 17), dst := some 19 },
    { op := .iad 10 (.t 15) (.t 17), dst := some 20 },
    { op := .load 10 true (.t 20), dst := some 21 },
    { op := .alloc 10 true [.int .i64 0, .int .i64 0, .int .i64 0, .int .i64 0, .nils, .int .i64 0, .int .i64 0, .str [], .nils, .nils], dst := some 8, k := 19 },
    { op := .mov (.t 19), dst := some 7 },
    { op := .store 10 true (.t 8) (.t 21), dst := none }]
def a29_r7 : ACode := .reg [{ op := .fad 0 (.t 8), dst := some 22 },
    { op := .load 1 false (.t 22), dst := some 23 },
    { op := .bin .eql (.t 23) (.c (.int .i64 2)), dst := some 24 }]
def a29_r8 : ACode := .reg [{ op := .mov (.t 7), dst := some 25 },
    { op := .mov (.t 25), dst := some 6 }]
def a29_r9 : ACode := .reg [{ op := .bin .add (.t 17) (.c (.int .i64 1)), dst := some 26 },
    { op := .mov (.t 26), dst := some 17 }]
def a29_l0 : ACode := (.seq a29_r5 (.seq (.cond (.t 18) .skip (.exit 0)) (.seq (.block 1 (.seq a29_r6 (.seq a29_r7 (.cond (.t 24) a29_r8 .skip)))) a29_r9)))
def a29_r10 : ACode := .reg [{ op := .mov (.t 6), dst := some 27 },
    { op := .bin .lss (.t 27) (.c (.int .i64 0)), dst := some 28 }]
def a29_r11 : ACode := .reg [{ op := .build [.int .i64 0, .int .i64 0, .nils, .nils, .nils] [], dst := some 29 },
    { op := .store 5 true (.t 4) (.t 29), dst := none },
    { op := .mov (.c (.int .i64 16)), dst := some 5 }]
def a29_r12 : ACode := .reg [{ op := .fad 4 (.t 2), dst := some 30 },
    { op := .load 1 false (.t 30), dst := some 31 },
    { op := .mov (.t 6), dst := some 32 },
    { op := .iad 10 (.t 31) (.t 32), dst := some 33 },
    { op := .fad 4 (.t 33), dst := some 34 },
    { op := .load 1 false (.t 34), dst := some 35 },
    { op := .len false (.t 35), dst := some 36 },
    { op := .bin .geq (.t 36) (.c (.int .i64 100)), dst := some 37 }]
def a29_r13 : ACode := .reg [{ op := .build [.int .i64 0, .int .i64 0, .nils, .nils, .nils] [], dst := some 38 },
    { op := .store 5 true (.t 4) (.t 38), dst := none },
    { op := .mov (.c (.int .i64 18)), dst := some 5 }]
def a29_r14 : ACode := .reg [{ op := .load 5 true (.t 2), dst := some 39 },
    { op := .call 45 [(.t 39)], dst := some 40 },
    { op := .alloc 5 true [.int .i64 0, .int .i64 0, .nils, .nils, .nils], dst := some 9, k := 47 },
    { op := .store 5 true (.t 9) (.t 40), dst := none }]
def a29_r15 : ACode := .draw [{ op := .fad 4 (.t 9), dst := some 41 },
    { op := .load 1 false (.t 41), dst := some 42 },
    { op := .mov (.t 6), dst := some 43 },
    { op := .fad 4 (.t 9), dst := some 44 },
    { op := .load 1 false (.t 44), dst := some 45 },
    { op := .mov (.t 6), dst := some 46 },
    { op := .iad 10 (.t 45) (.t 46), dst := some 47 },
    { op := .fad 4 (.t 47), dst := some 48 },
    { op := .load 1 false (.t 48), dst := some 49 },
    { op := .load 2 true (.t 3), dst := some 50 },
    { op := .call 50 [(.t 50)], dst := some 51 },
    { op := .bsl 2 true 1 [.int .i64 0, .nils] [(0, (.t 51))], dst := some 52 },
    { op := .app 2 32 (.t 49) (.t 52), dst := some 53, k := 61 },
    { op := .iad 10 (.t 42) (.t 43), dst := some 54 },
    { op := .fad 4 (.t 54), dst := some 55 },
    { op := .store 1 false (.t 55) (.t 53), dst := none }]
    [(10, [1, 4, 6, 8]), (12, [1])]
    (.take 0 (.take 1 (.take 2 (.take 3 (.take 4 (.take 5 (.take 6 (.take 7 (.take 8 (.take 9 (.one 10 (.take 11 (.one 12 (.take 13 (.take 14 (.one 15 (.done)))))))))))))))))
def a29_r16 : ACode := .reg [{ op := .load 5 true (.t 9), dst := some 56 },
    { op := .store 5 true (.t 4) (.t 56), dst := none },
    { op := .mov (.c (.int .i64 0)), dst := some 5 }]
def a29 : ACode := (.seq a29_r0 (.seq (.seq a29_r1 (.cond (.t 12) (.seq a29_r2 .ret) .skip)) (.seq a29_r3 (.seq (.seq a29_r4 (.block 0 (.loop a29_l0))) (.seq (.seq a29_r10 (.cond (.t 28) (.seq a29_r11 .ret) .skip)) (.seq (.seq a29_r12 (.cond (.t 37) (.seq a29_r13 .ret) .skip)) (.seq a29_r14 (.seq a29_r15 (.seq a29_r16 .ret)))))))))
def a29_res : List ARes := [.cell 4 5 true, .tmp 5]
theorem a29_ok : Coded Try.prog 29 57 a29 a29_res := ⟨Try.f29, _, by kernel_rfl, rfl, by kernel_rfl, rfl, by kernel_rfl, by kernel_rfl⟩
theorem a29_of {args : List AV} {Q : AV → Prop} (hl : args.length ≤ 57) (h : AW Try.prog 57 a29 (mkS (argT 0 args) [] 0) (retQ a29_res Q)) : ACall Try.prog 29 args Q := acall_coded a29_ok hl h

/- workflow/value.Same -/
def a30_r0 : ACode := .reg [{ op := .box 5 true (.t 0), dst := some 2, k := 0 },
    { op := .box 5 true (.t 1), dst := some 3, k := 1 },
    { op := .mov (.c (.bool false)), dst := some 4 }]
def a30_r1 : ACode := .reg [{ op := .fad 0 (.t 2), dst := some 5 },
    { op := .load 1 false (.t 5), dst := some 6 },
    { op := .fad 0 (.t 3), dst := some 7 },
    { op := .load 1 false (.t 7), dst := some 8 },
    { op := .bin .eql (.t 6) (.t 8), dst := some 9 },
    { op := .mov (.t 9), dst := some 10 },
    { op := .fad 1 (.t 2), dst := some 11, g := some (10, true) },
    { op := .load 1 false (.t 11), dst := some 12, g := some (10, true) },
    { op := .fad 1 (.t 3), dst := some 13, g := some (10, true) },
    { op := .load 1 false (.t 13), dst := some 14, g := some (10, true) },
    { op := .bin .eql (.t 12) (.t 14), dst := some 15, g := some (10, true) },
    { op := .pick (.t 10) (.t 15) (.c (.bool false)), dst := some 16 },
    { op := .mov (.t 16), dst := some 17 },
    { op := .fad 2 (.t 2), dst := some 18, g := some (17, true) },
    { op := .load 1 false (.t 18), dst := some 19, g := some (17, true) },
    { op := .fad 2 (.t 3), dst := some 20, g := some (17, true) },
    { op := .load 1 false (.t 20), dst := some 21, g := some (17, true) },
    { op := .bin .eql (.t 19) (.t 21), dst := some 22, g := some (17, true) },
    { op := .pick (.t 17) (.t 22) (.c (.bool false)), dst := some 23 },
    { op := .mov (.t 23), dst := some 24 },
    { op := .fad 4 (.t 2), dst := some 25, g := some (24, true) },
    { op := .load 1 false (.t 25), dst := some 26, g := some (24, true) },
    { op := .fad 4 (.t 3), dst := some 27, g := some (24, true) },
    { op := .load 1 false (.t 27), dst := some 28, g := some (24, true) },
    { op := .call 51 [(.t 26), (.t 28)], dst := some 29, g := some (24, true) },
    { op := .pick (.t 24) (.t 29) (.c (.bool false)), dst := some 30 },
    { op := .mov (.t 30), dst := some 31 },
    { op := .fad 3 (.t 2), dst := some 32, g := some (31, true) },
    { op := .load 1 false (.t 32), dst := some 33, g := some (31, true) },
    { op := .fad 3 (.t 3), dst := some 34, g := some (31, true) },
    { op := .load 1 false (.t 34), dst := some 35, g := some (31, true) },
    { op := .call 52 [(.t 33), (.t 35), (.c (.fn 30))], dst := some 36, g := some (31, true) },
    { op := .pick (.t 31) (.t 36) (.c (.bool false)), dst := some 37 },
    { op := .mov (.t 37), dst := some 4 }]
def a30 : ACode := (.seq a30_r0 (.seq a30_r1 .ret))
def a30_res : List ARes := [.tmp 4]
theorem a30_ok : Coded Try.prog 30 38 a30 a30_res := ⟨Try.f30, _, by kernel_rfl, rfl, by kernel_rfl, rfl, by kernel_rfl, by kernel_rfl⟩
theorem a30_of {args : List AV} {Q : AV → Prop} (hl : args.length ≤ 38) (h : AW Try.prog 38 a30 (mkS (argT 0 args) [] 0) (retQ a30_res Q)) : ACall Try.prog 30 args Q := acall_coded a30_ok hl h

/- workflow/workflowlaw13.room -/
def a31_r0 : ACode := .reg [{ op := .box 5 true (.t 0), dst := some 2, k := 0 },
    { op := .mov (.c (.int .i64 0)), dst := some 4 }]
def a31_r1 : ACode := .reg [{ op := .mov (.t 1), dst := some 7 },
    { op := .bin .sub (.t 7) (.c (.int .i64 1)), dst := some 8 },
    { op := .fad 4 (.t 2), dst := some 9 },
    { op := .load 1 false (.t 9), dst := some 10 },
    { op := .len false (.t 10), dst := some 11 },
    { op := .bin .sub (.t 8) (.t 11), dst := some 12 },
    { op := .mov (.t 12), dst := some 1 }]
def a31_r2 : ACode := .reg [{ op := .fad 3 (.t 2), dst := some 13 },
    { op := .load 1 false (.t 13), dst := some 14 },
    { op := .len false (.t 14), dst := some 15 },
    { op := .mov (.c (.int .i64 0)), dst := some 16 }]
def a31_r3 : ACode := .reg [{ op := .bin .lss (.t 16) (.t 15), dst := some 17 }]
def a31_r4 : ACode := .reg [{ op := .iad 5 (.t 14) (.t 16), dst := some 18 },
    { op := .load 5 true (.t 18), dst := some 19 },
    { op := .alloc 5 true [.int .i64 0, .int .i64 0, .str [], .nils, .nils], dst := some 6, k := 16 },
    { op := .store 5 true (.t 6) (.t 19), dst := none }]
def a31_r5 : ACode := .reg [{ op := .mov (.t 1), dst := some 20 },
    { op := .bin .lss (.t 20) (.c (.int .i64 0)), dst := some 21 }]
def a31_r6 : ACode := .reg [{ op := .mov (.t 1), dst := some 22 },
    { op := .mov (.t 22), dst := some 4 }]
def a31_r7 : ACode := .reg [{ op := .load 5 true (.t 6), dst := some 23 },
    { op := .mov (.t 1), dst := some 24 },
    { op := .call 31 [(.t 23), (.t 24)], dst := some 25 },
    { op := .mov (.t 25), dst := some 1 }]
def a31_r8 : ACode := .reg [{ op := .bin .add (.t 16) (.c (.int .i64 1)), dst := some 26 },
    { op := .mov (.t 26), dst := some 16 }]
def a31_l0 : ACode := (.seq a31_r3 (.seq (.cond (.t 17) .skip (.exit 0)) (.seq (.block 1 (.seq a31_r4 (.seq (.seq a31_r5 (.cond (.t 21) (.seq a31_r6 .ret) .skip)) a31_r7))) a31_r8)))
def a31_r9 : ACode := .reg [{ op := .mov (.t 1), dst := some 27 },
    { op := .mov (.t 27), dst := some 4 }]
def a31 : ACode := (.seq a31_r0 (.seq a31_r1 (.seq (.seq a31_r2 (.block 0 (.loop a31_l0))) (.seq a31_r9 .ret))))
def a31_res : List ARes := [.tmp 4]
theorem a31_ok : Coded Try.prog 31 28 a31 a31_res := ⟨Try.f31, _, by kernel_rfl, rfl, by kernel_rfl, rfl, by kernel_rfl, by kernel_rfl⟩
theorem a31_of {args : List AV} {Q : AV → Prop} (hl : args.length ≤ 28) (h : AW Try.prog 28 a31 (mkS (argT 0 args) [] 0) (retQ a31_res Q)) : ACall Try.prog 31 args Q := acall_coded a31_ok hl h

/- workflow/unwind.frames -/
def a32_r0 : ACode := .reg [{ op := .mov (.c (.nils)), dst := some 2 }]
def a32_r1 : ACode := .reg [{ op := .mov (.c (.nils)), dst := some 3 }]
def a32_r2 : ACode := .reg [{ op := .mov (.t 0), dst := some 6 },
    { op := .len false (.t 6), dst := some 7 },
    { op := .mov (.c (.int .i64 0)), dst := some 8 }]
def a32_r3 : ACode := .reg [{ op := .bin .lss (.t 8) (.t 7), dst := some 9 }]
def a32_r4 : ACode := .reg [{ op := .iad 5 (.t 6) (.t 8), dst := some 10 },
    { op := .load 5 true (.t 10), dst := some 11 },
    { op := .alloc 5 true [.int .i64 0, .int .i64 0, .nils, .nils, .nils], dst := some 5, k := 8 },
    { op := .store 5 true (.t 5) (.t 11), dst := none }]
def a32_r5 : ACode := .reg [{ op := .mov (.t 3), dst := some 12 },
    { op := .load 5 true (.t 5), dst := some 13 },
    { op := .call 44 [(.t 13)], dst := some 14 },
    { op := .bsl 5 true 1 [.int .i64 0, .int .i64 0, .nils, .nils, .nils] [(0, (.t 14))], dst := some 15 },
    { op := .app 5 88 (.t 12) (.t 15), dst := some 16, k := 14 },
    { op := .mov (.t 16), dst := some 3 }]
def a32_r6 : ACode := .reg [{ op := .bin .add (.t 8) (.c (.int .i64 1)), dst := some 17 },
    { op := .mov (.t 17), dst := some 8 }]
def a32_l0 : ACode := (.seq a32_r3 (.seq (.cond (.t 9) .skip (.exit 0)) (.seq (.block 1 (.seq a32_r4 a32_r5)) a32_r6)))
def a32_r7 : ACode := .reg [{ op := .mov (.t 3), dst := some 18 },
    { op := .mov (.t 18), dst := some 2 }]
def a32 : ACode := (.seq a32_r0 (.seq a32_r1 (.seq (.seq a32_r2 (.block 0 (.loop a32_l0))) (.seq a32_r7 .ret))))
def a32_res : List ARes := [.tmp 2]
theorem a32_ok : Coded Try.prog 32 19 a32 a32_res := ⟨Try.f32, _, by kernel_rfl, rfl, by kernel_rfl, rfl, by kernel_rfl, by kernel_rfl⟩
theorem a32_of {args : List AV} {Q : AV → Prop} (hl : args.length ≤ 19) (h : AW Try.prog 19 a32 (mkS (argT 0 args) [] 0) (retQ a32_res Q)) : ACall Try.prog 32 args Q := acall_coded a32_ok hl h

/- workflow/value.Copy -/
def a33_r0 : ACode := .reg [{ op := .box 5 true (.t 0), dst := some 1, k := 0 },
    { op := .alloc 5 true [.int .i64 0, .int .i64 0, .str [], .nils, .nils], dst := some 2, k := 1 }]
def a33_r1 : ACode := .draw [{ op := .fad 3 (.t 1), dst := some 3 },
    { op := .load 1 false (.t 3), dst := some 4 },
    { op := .call 53 [(.t 4)], dst := some 5 },
    { op := .fad 4 (.t 1), dst := some 6 },
    { op := .load 1 false (.t 6), dst := some 7 },
    { op := .call 54 [(.t 7)], dst := some 8 },
    { op := .fad 3 (.t 1), dst := some 9 },
    { op := .store 1 false (.t 9) (.t 5), dst := none },
    { op := .fad 4 (.t 1), dst := some 10 },
    { op := .store 1 false (.t 10) (.t 8), dst := none }]
    [(2, [4])]
    (.take 0 (.take 1 (.take 3 (.take 4 (.one 2 (.take 6 (.one 5 (.one 7 (.take 8 (.one 9 (.done)))))))))))
def a33_r2 : ACode := .reg [{ op := .load 5 true (.t 1), dst := some 11 },
    { op := .store 5 true (.t 2) (.t 11), dst := none }]
def a33 : ACode := (.seq a33_r0 (.seq a33_r1 (.seq a33_r2 .ret)))
def a33_res : List ARes := [.cell 2 5 true]
theorem a33_ok : Coded Try.prog 33 12 a33 a33_res := ⟨Try.f33, _, by kernel_rfl, rfl, by kernel_rfl, rfl, by kernel_rfl, by kernel_rfl⟩
theorem a33_of {args : List AV} {Q : AV → Prop} (hl : args.length ≤ 12) (h : AW Try.prog 12 a33 (mkS (argT 0 args) [] 0) (retQ a33_res Q)) : ACall Try.prog 33 args Q := acall_coded a33_ok hl h

/- workflow/unwind.last -/
def a34_r0 : ACode := .reg [{ op := .mov (.c (.nilp)), dst := some 2 },
    { op := .mov (.c (.nilp)), dst := some 3 }]
def a34_r1 : ACode := .reg [{ op := .mov (.t 0), dst := some 5 },
    { op := .len false (.t 5), dst := some 6 },
    { op := .bin .eql (.t 6) (.c (.int .i64 0)), dst := some 7 }]
def a34_r2 : ACode := .reg [{ op := .mov (.c (.nilp)), dst := some 2 },
    { op := .mov (.c (.nilp)), dst := some 3 }]
def a34_r3 : ACode := .reg [{ op := .mov (.t 0), dst := some 8 },
    { op := .mov (.t 0), dst := some 9 },
    { op := .len false (.t 9), dst := some 10 },
    { op := .bin .sub (.t 10) (.c (.int .i64 1)), dst := some 11 },
    { op := .iad 5 (.t 8) (.t 11), dst := some 12 },
    { op := .mov (.t 12), dst := some 4 }]
def a34_r4 : ACode := .reg [{ op := .mov (.t 4), dst := some 13 },
    { op := .nilc (.t 13), dst := some 14 },
    { op := .fad 4 (.t 14), dst := some 15 },
    { op := .load 1 false (.t 15), dst := some 16 },
    { op := .len false (.t 16), dst := some 17 },
    { op := .bin .eql (.t 17) (.c (.int .i64 0)), dst := some 18 }]
def a34_r5 : ACode := .reg [{ op := .mov (.t 4), dst := some 19 },
    { op := .mov (.t 19), dst := some 2 },
    { op := .mov (.c (.nilp)), dst := some 3 }]
def a34_r6 : ACode := .draw [{ op := .mov (.t 4), dst := some 20 },
    { op := .mov (.t 4), dst := some 21 },
    { op := .nilc (.t 21), dst := some 22 },
    { op := .fad 4 (.t 22), dst := some 23 },
    { op := .load 1 false (.t 23), dst := some 24 },
    { op := .mov (.t 4), dst := some 25 },
    { op := .nilc (.t 25), dst := some 26 },
    { op := .fad 4 (.t 26), dst := some 27 },
    { op := .load 1 false (.t 27), dst := some 28 },
    { op := .len false (.t 28), dst := some 29 },
    { op := .bin .sub (.t 29) (.c (.int .i64 1)), dst := some 30 },
    { op := .iad 10 (.t 24) (.t 30), dst := some 31 },
    { op := .mov (.t 20), dst := some 2 },
    { op := .mov (.t 31), dst := some 3 }]
    []
    (.take 0 (.take 1 (.take 2 (.take 3 (.take 4 (.take 5 (.take 6 (.take 7 (.take 8 (.take 9 (.take 10 (.take 11 (.take 12 (.take 13 (.done)))))))))))))))
def a34 : ACode := (.seq a34_r0 (.seq (.seq a34_r1 (.cond (.t 7) (.seq a34_r2 .ret) .skip)) (.seq a34_r3 (.seq (.seq a34_r4 (.cond (.t 18) (.seq a34_r5 .ret) .skip)) (.seq a34_r6 .ret)))))
def a34_res : List ARes := [.tmp 2, .tmp 3]
theorem a34_ok : Coded Try.prog 34 32 a34 a34_res := ⟨Try.f34, _, by kernel_rfl, rfl, by kernel_rfl, rfl, by kernel_rfl, by kernel_rfl⟩
theorem a34_of {args : List AV} {Q : AV → Prop} (hl : args.length ≤ 32) (h : AW Try.prog 32 a34 (mkS (argT 0 args) [] 0) (retQ a34_res Q)) : ACall Try.prog 34 args Q := acall_coded a34_ok hl h

/- workflow/unwind.cut -/
def a35_r0 : ACode := .draw [{ op := .mov (.t 1), dst := some 4 },
    { op := .nilc (.t 4), dst := some 5 },
    { op := .fad 3 (.t 5), dst := some 6 },
    { op := .load 1 false (.t 6), dst := some 7 },
    { op := .bin .geq (.t 7) (.c (.int .i64 0)), dst := some 8 },
    { op := .mov (.t 8), dst := some 9 },
    { op := .mov (.t 1), dst := some 10, g := some (9, true) },
    { op := .nilc (.t 10), dst := some 11, g := some (9, true) },
    { op := .fad 3 (.t 11), dst := some 12, g := some (9, true) },
    { op := .load 1 false (.t 12), dst := some 13, g := some (9, true) },
    { op := .mov (.t 0), dst := some 14, g := some (9, true) },
    { op := .nilc (.t 14), dst := some 15, g := some (9, true) },
    { op := .fad 3 (.t 15), dst := some 16, g := some (9, true) },
    { op := .load 1 false (.t 16), dst := some 17, g := some (9, true) },
    { op := .len false (.t 17), dst := some 18, g := some (9, true) },
    { op := .bin .lss (.t 13) (.t 18), dst := some 19, g := some (9, true) },
    { op := .pick (.t 9) (.t 19) (.c (.bool false)), dst := some 20 }]
    []
    (.take 0 (.take 1 (.take 2 (.take 3 (.take 4 (.take 5 (.take 6 (.take 7 (.take 8 (.take 9 (.take 10 (.take 11 (.take 12 (.take 13 (.take 14 (.take 15 (.take 16 (.done))))))))))))))))))
def a35_r1 : ACode := .draw [{ op := .mov (.t 0), dst := some 21 },
    { op := .mov (.t 0), dst := some 22 },
    { op := .nilc (.t 22), dst := some 23 },
    { op := .fad 3 (.t 23), dst := some 24 },
    { op := .load 1 false (.t 24), dst := some 25 },
    { op := .mov (.t 1), dst := some 26 },
    { op := .nilc (.t 26), dst := some 27 },
    { op := .fad 3 (.t 27), dst := some 28 },
    { op := .load 1 false (.t 28), dst := some 29 },
    { op := .slice 5 (.t 25) none (some (.t 29)) none, dst := some 30 },
    { op := .nilc (.t 21), dst := some 31 },
    { op := .fad 3 (.t 31), dst := some 32 },
    { op := .store 1 false (.t 32) (.t 30), dst := none }]
    []
    (.take 0 (.take 1 (.take 2 (.take 3 (.take 4 (.take 5 (.take 6 (.take 7 (.take 8 (.take 9 (.take 10 (.take 11 (.one 12 (.done))))))))))))))
def a35 : ACode := (.seq a35_r0 (.cond (.t 20) a35_r1 .skip))
def a35_res : List ARes := []
theorem a35_ok : Coded Try.prog 35 33 a35 a35_res := ⟨Try.f35, _, by kernel_rfl, rfl, by kernel_rfl, rfl, by kernel_rfl, by kernel_rfl⟩
theorem a35_of {args : List AV} {Q : AV → Prop} (hl : args.length ≤ 33) (h : AW Try.prog 33 a35 (mkS (argT 0 args) [] 0) (retQ a35_res Q)) : ACall Try.prog 35 args Q := acall_coded a35_ok hl h

/- workflow/unwind.drop -/
def a36_r0 : ACode := .draw [{ op := .mov (.t 0), dst := some 2 },
    { op := .mov (.t 0), dst := some 3 },
    { op := .nilc (.t 3), dst := some 4 },
    { op := .fad 4 (.t 4), dst := some 5 },
    { op := .load 1 false (.t 5), dst := some 6 },
    { op := .mov (.t 0), dst := some 7 },
    { op := .nilc (.t 7), dst := some 8 },
    { op := .fad 4 (.t 8), dst := some 9 },
    { op := .load 1 false (.t 9), dst := some 10 },
    { op := .len false (.t 10), dst := some 11 },
    { op := .bin .sub (.t 11) (.c (.int .i64 1)), dst := some 12 },
    { op := .slice 10 (.t 6) none (some (.t 12)) none, dst := some 13 },
    { op := .nilc (.t 2), dst := some 14 },
    { op := .fad 4 (.t 14), dst := some 15 },
    { op := .store 1 false (.t 15) (.t 13), dst := none }]
    []
    (.take 0 (.take 1 (.take 2 (.take 3 (.take 4 (.take 5 (.take 6 (.take 7 (.take 8 (.take 9 (.take 10 (.take 11 (.take 12 (.take 13 (.one 14 (.done))))))))))))))))
def a36 : ACode := a36_r0
def a36_res : List ARes := []
theorem a36_ok : Coded Try.prog 36 16 a36 a36_res := ⟨Try.f36, _, by kernel_rfl, rfl, by kernel_rfl, rfl, by kernel_rfl, by kernel_rfl⟩
theorem a36_of {args : List AV} {Q : AV → Prop} (hl : args.length ≤ 16) (h : AW Try.prog 16 a36 (mkS (argT 0 args) [] 0) (retQ a36_res Q)) : ACall Try.prog 36 args Q := acall_coded a36_ok hl h

/- workflow/unwind.none -/
def a37_r0 : ACode := .reg [{ op := .alloc 2 true [.int .i64 0, .nils], dst := some 0, k := 0 }]
def a37_r1 : ACode := .reg [{ op := .build [.int .i64 0, .nils] [(0, 1, (.c (.int .i64 (-1))))], dst := some 1 },
    { op := .store 2 true (.t 0) (.t 1), dst := none }]
def a37 : ACode := (.seq a37_r0 (.seq a37_r1 .ret))
def a37_res : List ARes := [.cell 0 2 true]
theorem a37_ok : Coded Try.prog 37 2 a37 a37_res := ⟨Try.f37, _, by kernel_rfl, rfl, by kernel_rfl, rfl, by kernel_rfl, by kernel_rfl⟩
theorem a37_of {args : List AV} {Q : AV → Prop} (hl : args.length ≤ 2) (h : AW Try.prog 2 a37 (mkS (argT 0 args) [] 0) (retQ a37_res Q)) : ACall Try.prog 37 args Q := acall_coded a37_ok hl h

/- workflow/unwind.next -/
def a38_r0 : ACode := .reg [{ op := .alloc 2 true [.int .i64 0, .nils], dst := some 2, k := 0 },
    { op := .alloc 5 true [.int .i64 0, .int .i64 0, .str [], .nils, .nils], dst := some 3, k := 1 },
    { op := .mov (.c (.bool false)), dst := some 4 }]
def a38_r1 : ACode := .reg [{ op := .mov (.t 0), dst := some 11 },
    { op := .call 34 [(.t 11)], dst := some 12 },
    { op := .mov (.t 12), dst := some 10 },
    { op := .ext (.t 10) 0, dst := some 13 },
    { op := .ext (.t 10) 1, dst := some 14 },
    { op := .mov (.t 13), dst := some 5 },
    { op := .mov (.t 14), dst := some 6 }]
def a38_r2 : ACode := .reg [{ op := .mov (.t 6), dst := some 15 },
    { op := .eqn false .p (.t 15), dst := some 16 },
    { op := .mov (.t 16), dst := some 17 },
    { op := .mov (.t 6), dst := some 18, g := some (17, false) },
    { op := .nilc (.t 18), dst := some 19, g := some (17, false) },
    { op := .fad 0 (.t 19), dst := some 20, g := some (17, false) },
    { op := .load 1 false (.t 20), dst := some 21, g := some (17, false) },
    { op := .bin .neq (.t 21) (.c (.int .i64 3)), dst := some 22, g := some (17, false) },
    { op := .pick (.t 17) (.c (.bool true)) (.t 22), dst := some 23 }]
def a38_r3 : ACode := .reg [{ op := .call 37 [], dst := some 24 },
    { op := .build [.int .i64 0, .int .i64 0, .str [], .nils, .nils] [], dst := some 25 },
    { op := .store 2 true (.t 2) (.t 24), dst := none },
    { op := .store 5 true (.t 3) (.t 25), dst := none },
    { op := .mov (.c (.bool false)), dst := some 4 }]
def a38_r4 : ACode := .reg [{ op := .mov (.t 6), dst := some 26 },
    { op := .nilc (.t 26), dst := some 27 },
    { op := .fad 4 (.t 27), dst := some 28 },
    { op := .load 1 false (.t 28), dst := some 29 },
    { op := .len false (.t 29), dst := some 30 },
    { op := .mov (.t 30), dst := some 7 }]
def a38_r5 : ACode := .reg [{ op := .mov (.t 7), dst := some 31 },
    { op := .bin .gtr (.t 31) (.c (.int .i64 0)), dst := some 32 }]
def a38_r6 : ACode := .reg [{ op := .mov (.t 6), dst := some 33 },
    { op := .nilc (.t 33), dst := some 34 },
    { op := .fad 4 (.t 34), dst := some 35 },
    { op := .load 1 false (.t 35), dst := some 36 },
    { op := .mov (.t 7), dst := some 37 },
    { op := .bin .sub (.t 37) (.c (.int .i64 1)), dst := some 38 },
    { op := .iad 2 (.t 36) (.t 38), dst := some 39 },
    { op := .load 2 true (.t 39), dst := some 40 },
    { op := .alloc 2 true [.int .i64 0, .nils], dst := some 8, k := 40 },
    { op := .store 2 true (.t 8) (.t 40), dst := none }]
def a38_r7 : ACode := .reg [{ op := .mov (.t 6), dst := some 41 },
    { op := .mov (.t 6), dst := some 42 },
    { op := .nilc (.t 42), dst := some 43 },
    { op := .fad 4 (.t 43), dst := some 44 },
    { op := .load 1 false (.t 44), dst := some 45 },
    { op := .mov (.t 7), dst := some 46 },
    { op := .bin .sub (.t 46) (.c (.int .i64 1)), dst := some 47 },
    { op := .slice 2 (.t 45) none (some (.t 47)) none, dst := some 48 },
    { op := .nilc (.t 41), dst := some 49 },
    { op := .fad 4 (.t 49), dst := some 50 },
    { op := .store 1 false (.t 50) (.t 48), dst := none }]
def a38_r8 : ACode := .reg [{ op := .load 2 true (.t 8), dst := some 51 },
    { op := .build [.int .i64 0, .int .i64 0, .str [], .nils, .nils] [], dst := some 52 },
    { op := .store 2 true (.t 2) (.t 51), dst := none },
    { op := .store 5 true (.t 3) (.t 52), dst := none },
    { op := .mov (.c (.bool false)), dst := some 4 }]
def a38_r9 : ACode := .reg [{ op := .mov (.t 6), dst := some 53 },
    { op := .nilc (.t 53), dst := some 54 },
    { op := .fad 5 (.t 54), dst := some 55 },
    { op := .load 5 true (.t 55), dst := some 56 },
    { op := .alloc 5 true [.int .i64 0, .int .i64 0, .str [], .nils, .nils], dst := some 9, k := 62 },
    { op := .store 5 true (.t 9) (.t 56), dst := none }]
def a38_r10 : ACode := .reg [{ op := .mov (.t 5), dst := some 57 },
    { op := .call 36 [(.t 57)], dst := some 58 }]
def a38_r11 : ACode := .draw [{ op := .call 37 [], dst := some 59 },
    { op := .load 5 true (.t 9), dst := some 60 },
    { op := .store 2 true (.t 2) (.t 59), dst := none },
    { op := .store 5 true (.t 3) (.t 60), dst := none },
    { op := .mov (.c (.bool true)), dst := some 4 }]
    [(0, [1]), (2, [1])]
    (.take 1 (.one 0 (.one 2 (.one 3 (.take 4 (.done))))))
def a38 : ACode := (.seq a38_r0 (.seq a38_r1 (.seq (.seq a38_r2 (.cond (.t 23) (.seq a38_r3 .ret) .skip)) (.seq (.seq a38_r4 (.seq a38_r5 (.cond (.t 32) (.seq a38_r6 (.seq a38_r7 (.seq a38_r8 .ret))) .skip))) (.seq a38_r9 (.seq a38_r10 (.seq a38_r11 .ret)))))))
def a38_res : List ARes := [.cell 2 2 true, .cell 3 5 true, .tmp 4]
theorem a38_ok : Coded Try.prog 38 61 a38 a38_res := ⟨Try.f38, _, by kernel_rfl, rfl, by kernel_rfl, rfl, by kernel_rfl, by kernel_rfl⟩
theorem a38_of {args : List AV} {Q : AV → Prop} (hl : args.length ≤ 61) (h : AW Try.prog 61 a38 (mkS (argT 0 args) [] 0) (retQ a38_res Q)) : ACall Try.prog 38 args Q := acall_coded a38_ok hl h

/- workflow/workflowref13.copyFrames -/
def a39_r0 : ACode := .reg [{ op := .mov (.c (.nils)), dst := some 2 }]
def a39_r1 : ACode := .reg [{ op := .mov (.c (.nils)), dst := some 3 }]
def a39_r2 : ACode := .reg [{ op := .mov (.t 0), dst := some 6 },
    { op := .len false (.t 6), dst := some 7 },
    { op := .mov (.c (.int .i64 0)), dst := some 8 }]
def a39_r3 : ACode := .reg [{ op := .bin .lss (.t 8) (.t 7), dst := some 9 }]
def a39_r4 : ACode := .reg [{ op := .iad 5 (.t 6) (.t 8), dst := some 10 },
    { op := .load 5 true (.t 10), dst := some 11 },
    { op := .alloc 5 true [.int .i64 0, .int .i64 0, .nils, .nils, .nils], dst := some 5, k := 8 },
    { op := .store 5 true (.t 5) (.t 11), dst := none }]
def a39_r5 : ACode := .reg [{ op := .mov (.t 3), dst := some 12 },
    { op := .load 5 true (.t 5), dst := some 13 },
    { op := .call 45 [(.t 13)], dst := some 14 },
    { op := .bsl 5 true 1 [.int .i64 0, .int .i64 0, .nils, .nils, .nils] [(0, (.t 14))], dst := some 15 },
    { op := .app 5 88 (.t 12) (.t 15), dst := some 16, k := 14 },
    { op := .mov (.t 16), dst := some 3 }]
def a39_r6 : ACode := .reg [{ op := .bin .add (.t 8) (.c (.int .i64 1)), dst := some 17 },
    { op := .mov (.t 17), dst := some 8 }]
def a39_l0 : ACode := (.seq a39_r3 (.seq (.cond (.t 9) .skip (.exit 0)) (.seq (.block 1 (.seq a39_r4 a39_r5)) a39_r6)))
def a39_r7 : ACode := .reg [{ op := .mov (.t 3), dst := some 18 },
    { op := .mov (.t 18), dst := some 2 }]
def a39 : ACode := (.seq a39_r0 (.seq a39_r1 (.seq (.seq a39_r2 (.block 0 (.loop a39_l0))) (.seq a39_r7 .ret))))
def a39_res : List ARes := [.tmp 2]
theorem a39_ok : Coded Try.prog 39 19 a39 a39_res := ⟨Try.f39, _, by kernel_rfl, rfl, by kernel_rfl, rfl, by kernel_rfl, by kernel_rfl⟩
theorem a39_of {args : List AV} {Q : AV → Prop} (hl : args.length ≤ 19) (h : AW Try.prog 19 a39 (mkS (argT 0 args) [] 0) (retQ a39_res Q)) : ACall Try.prog 39 args Q := acall_coded a39_ok hl h

/- workflow/workflowref13.copyValue -/
def a40_r0 : ACode := .reg [{ op := .box 5 true (.t 0), dst := some 1, k := 0 },
    { op := .alloc 5 true [.int .i64 0, .int .i64 0, .str [], .nils, .nils], dst := some 2, k := 1 }]
def a40_r1 : ACode := .reg [{ op := .load 5 true (.t 1), dst := some 6 },
    { op := .alloc 5 true [.int .i64 0, .int .i64 0, .str [], .nils, .nils], dst := some 3, k := 3 },
    { op := .store 5 true (.t 3) (.t 6), dst := none }]
def a40_r2 : ACode := .reg [{ op := .fad 3 (.t 3), dst := some 7 },
    { op := .store 1 false (.t 7) (.c (.nils)), dst := none }]
def a40_r3 : ACode := .reg [{ op := .fad 3 (.t 1), dst := some 8 },
    { op := .load 1 false (.t 8), dst := some 9 },
    { op := .len false (.t 9), dst := some 10 },
    { op := .mov (.c (.int .i64 0)), dst := some 11 }]
def a40_r4 : ACode := .reg [{ op := .bin .lss (.t 11) (.t 10), dst := some 12 }]
def a40_r5 : ACode := .reg [{ op := .iad 5 (.t 9) (.t 11), dst := some 13 },
    { op := .load 5 true (.t 13), dst := some 14 },
    { op := .alloc 5 true [.int .i64 0, .int .i64 0, .str [], .nils, .nils], dst := some 5, k := 14 },
    { op := .store 5 true (.t 5) (.t 14), dst := none }]
def a40_r6 : ACode := .draw [{ op := .fad 3 (.t 3), dst := some 15 },
    { op := .load 1 false (.t 15), dst := some 16 },
    { op := .load 5 true (.t 5), dst := some 17 },
    { op := .call 40 [(.t 17)], dst := some 18 },
    { op := .bsl 5 true 1 [.int .i64 0, .int .i64 0, .str [], .nils, .nils] [(0, (.t 18))], dst := some 19 },
    { op := .app 5 80 (.t 16) (.t 19), dst := some 20, k := 21 },
    { op := .fad 3 (.t 3), dst := some 21 },
    { op := .store 1 false (.t 21) (.t 20), dst := none }]
    [(3, [1])]
    (.take 0 (.take 1 (.take 2 (.one 3 (.take 4 (.one 5 (.take 6 (.one 7 (.done)))))))))
def a40_r7 : ACode := .reg [{ op := .bin .add (.t 11) (.c (.int .i64 1)), dst := some 22 },
    { op := .mov (.t 22), dst := some 11 }]
def a40_l0 : ACode := (.seq a40_r4 (.seq (.cond (.t 12) .skip (.exit 0)) (.seq (.block 1 (.seq a40_r5 a40_r6)) a40_r7)))
def a40_r8 : ACode := .reg [{ op := .bsl 1 false 0 [.str []] [], dst := some 23 },
    { op := .fad 4 (.t 1), dst := some 24 },
    { op := .load 1 false (.t 24), dst := some 25 },
    { op := .app 1 16 (.t 23) (.t 25), dst := some 26, k := 29 },
    { op := .fad 4 (.t 3), dst := some 27 },
    { op := .store 1 false (.t 27) (.t 26), dst := none }]
def a40_r9 : ACode := .reg [{ op := .load 5 true (.t 3), dst := some 28 },
    { op := .store 5 true (.t 2) (.t 28), dst := none }]
def a40 : ACode := (.seq a40_r0 (.seq a40_r1 (.seq a40_r2 (.seq (.seq a40_r3 (.block 0 (.loop a40_l0))) (.seq a40_r8 (.seq a40_r9 .ret))))))
def a40_res : List ARes := [.cell 2 5 true]
theorem a40_ok : Coded Try.prog 40 29 a40 a40_res := ⟨Try.f40, _, by kernel_rfl, rfl, by kernel_rfl, rfl, by kernel_rfl, by kernel_rfl⟩
theorem a40_of {args : List AV} {Q : AV → Prop} (hl : args.length ≤ 29) (h : AW Try.prog 29 a40 (mkS (argT 0 args) [] 0) (retQ a40_res Q)) : ACall Try.prog 40 args Q := acall_coded a40_ok hl h

/- workflow/workflowref13.step -/
def a41_r0 : ACode := .reg [{ op := .box 5 true (.t 1), dst := some 3, k := 0 },
    { op := .mov (.c (.nils)), dst := some 4 },
    { op := .alloc 5 true [.int .i64 0, .int .i64 0, .str [], .nils, .nils], dst := some 5, k := 2 },
    { op := .alloc 2 true [.int .i64 0, .nils], dst := some 6, k := 3 },
    { op := .mov (.c (.bool false)), dst := some 7 },
    { op := .mov (.c (.bool false)), dst := some 8 }]
def a41_r1 : ACode := .reg [{ op := .mov (.t 0), dst := some 16 },
    { op := .len false (.t 16), dst := some 17 },
    { op := .bin .eql (.t 17) (.c (.int .i64 0)), dst := some 18 }]
def a41_r2 : ACode := .draw [{ op := .load 5 true (.t 3), dst := some 19 },
    { op := .call 43 [], dst := some 20 },
    { op := .mov (.c (.nils)), dst := some 4 },
    { op := .store 5 true (.t 5) (.t 19), dst := none },
    { op := .store 2 true (.t 6) (.t 20), dst := none },
    { op := .mov (.c (.bool true)), dst := some 7 },
    { op := .mov (.c (.bool false)), dst := some 8 }]
    [(1, [0])]
    (.take 0 (.one 1 (.take 2 (.one 3 (.one 4 (.take 5 (.take 6 (.done))))))))
def a41_r3 : ACode := .reg [{ op := .mov (.t 0), dst := some 21 },
    { op := .len false (.t 21), dst := some 22 },
    { op := .bin .sub (.t 22) (.c (.int .i64 1)), dst := some 23 },
    { op := .mov (.t 23), dst := some 9 }]
def a41_r4 : ACode := .reg [{ op := .mov (.t 0), dst := some 24 },
    { op := .mov (.t 9), dst := some 25 },
    { op := .iad 5 (.t 24) (.t 25), dst := some 26 },
    { op := .load 5 true (.t 26), dst := some 27 },
    { op := .alloc 5 true [.int .i64 0, .int .i64 0, .nils, .nils, .nils], dst := some 10, k := 24 },
    { op := .store 5 true (.t 10) (.t 27), dst := none }]
def a41_r5 : ACode := .reg [{ op := .fad 4 (.t 10), dst := some 28 },
    { op := .load 1 false (.t 28), dst := some 29 },
    { op := .len false (.t 29), dst := some 30 },
    { op := .bin .eql (.t 30) (.c (.int .i64 0)), dst := some 31 }]
def a41_r6 : ACode := .draw [{ op := .mov (.t 0), dst := some 32 },
    { op := .mov (.t 9), dst := some 33 },
    { op := .slice 5 (.t 32) none (some (.t 33)) none, dst := some 34 },
    { op := .load 5 true (.t 3), dst := some 35 },
    { op := .call 43 [], dst := some 36 },
    { op := .mov (.t 34), dst := some 4 },
    { op := .store 5 true (.t 5) (.t 35), dst := none },
    { op := .store 2 true (.t 6) (.t 36), dst := none },
    { op := .mov (.c (.bool false)), dst := some 7 },
    { op := .mov (.c (.bool false)), dst := some 8 }]
    [(4, [2, 3])]
    (.take 0 (.take 1 (.take 2 (.take 3 (.one 4 (.take 5 (.one 6 (.one 7 (.take 8 (.take 9 (.done)))))))))))
def a41_r7 : ACode := .reg [{ op := .fad 4 (.t 10), dst := some 37 },
    { op := .load 1 false (.t 37), dst := some 38 },
    { op := .fad 4 (.t 10), dst := some 39 },
    { op := .load 1 false (.t 39), dst := some 40 },
    { op := .len false (.t 40), dst := some 41 },
    { op := .bin .sub (.t 41) (.c (.int .i64 1)), dst := some 42 },
    { op := .iad 10 (.t 38) (.t 42), dst := some 43 },
    { op := .load 10 true (.t 43), dst := some 44 },
    { op := .alloc 10 true [.int .i64 0, .int .i64 0, .int .i64 0, .int .i64 0, .nils, .int .i64 0, .int .i64 0, .str [], .nils, .nils], dst := some 11, k := 48 },
    { op := .store 10 true (.t 11) (.t 44), dst := none }]
def a41_r8 : ACode := .reg [{ op := .fad 0 (.t 11), dst := some 45 },
    { op := .load 1 false (.t 45), dst := some 46 }]
def a41_r9 : ACode := .reg [{ op := .bin .eql (.t 46) (.c (.int .i64 1)), dst := some 48 },
    { op := .mov (.t 48), dst := some 47 }]
def a41_r10 : ACode := .reg [{ op := .load 5 true (.t 10), dst := some 49 },
    { op := .load 10 true (.t 11), dst := some 50 },
    { op := .call 55 [(.t 49), (.t 50)], dst := some 51 },
    { op := .store 5 true (.t 10) (.t 51), dst := none }]
def a41_r11 : ACode := .reg [{ op := .fad 4 (.t 10), dst := some 52 },
    { op := .load 1 false (.t 52), dst := some 53 },
    { op := .fad 4 (.t 10), dst := some 54 },
    { op := .load 1 false (.t 54), dst := some 55 },
    { op := .len false (.t 55), dst := some 56 },
    { op := .bin .sub (.t 56) (.c (.int .i64 1)), dst := some 57 },
    { op := .slice 10 (.t 53) none (some (.t 57)) none, dst := some 58 },
    { op := .fad 4 (.t 10), dst := some 59 },
    { op := .store 1 false (.t 59) (.t 58), dst := none }]
def a41_r12 : ACode := .reg [{ op := .fad 2 (.t 11), dst := some 60 },
    { op := .load 1 false (.t 60), dst := some 61 },
    { op := .bin .geq (.t 61) (.c (.int .i64 0)), dst := some 62 },
    { op := .mov (.t 62), dst := some 63 },
    { op := .fad 2 (.t 11), dst := some 64, g := some (63, true) },
    { op := .load 1 false (.t 64), dst := some 65, g := some (63, true) },
    { op := .fad 2 (.t 10), dst := some 66, g := some (63, true) },
    { op := .load 1 false (.t 66), dst := some 67, g := some (63, true) },
    { op := .len false (.t 67), dst := some 68, g := some (63, true) },
    { op := .bin .lss (.t 65) (.t 68), dst := some 69, g := some (63, true) },
    { op := .pick (.t 63) (.t 69) (.c (.bool false)), dst := some 70 }]
def a41_r13 : ACode := .reg [{ op := .fad 2 (.t 10), dst := some 71 },
    { op := .load 1 false (.t 71), dst := some 72 },
    { op := .fad 2 (.t 11), dst := some 73 },
    { op := .load 1 false (.t 73), dst := some 74 },
    { op := .load 5 true (.t 3), dst := some 75 },
    { op := .iad 5 (.t 72) (.t 74), dst := some 76 },
    { op := .store 5 true (.t 76) (.t 75), dst := none }]
def a41_r14 : ACode := .reg [{ op := .fad 1 (.t 11), dst := some 77 },
    { op := .load 1 false (.t 77), dst := some 78 },
    { op := .fad 1 (.t 10), dst := some 79 },
    { op := .store 1 false (.t 79) (.t 78), dst := none }]
def a41_r15 : ACode := .reg [{ op := .mov (.t 0), dst := some 80 },
    { op := .mov (.t 9), dst := some 81 },
    { op := .load 5 true (.t 10), dst := some 82 },
    { op := .iad 5 (.t 80) (.t 81), dst := some 83 },
    { op := .store 5 true (.t 83) (.t 82), dst := none }]
def a41_r16 : ACode := .draw [{ op := .mov (.t 0), dst := some 84 },
    { op := .load 5 true (.t 3), dst := some 85 },
    { op := .call 43 [], dst := some 86 },
    { op := .mov (.t 84), dst := some 4 },
    { op := .store 5 true (.t 5) (.t 85), dst := none },
    { op := .store 2 true (.t 6) (.t 86), dst := none },
    { op := .mov (.c (.bool true)), dst := some 7 },
    { op := .mov (.c (.bool true)), dst := some 8 }]
    [(2, [1])]
    (.take 0 (.take 1 (.one 2 (.take 3 (.one 4 (.one 5 (.take 6 (.take 7 (.done)))))))))
def a41_r17 : ACode := .reg [{ op := .bin .eql (.t 46) (.c (.int .i64 2)), dst := some 88 },
    { op := .mov (.t 88), dst := some 87 }]
def a41_r18 : ACode := .reg [{ op := .bin .eql (.t 46) (.c (.int .i64 3)), dst := some 89 },
    { op := .mov (.t 89), dst := some 87 }]
def a41_r19 : ACode := .reg [{ op := .load 5 true (.t 10), dst := some 90 },
    { op := .load 10 true (.t 11), dst := some 91 },
    { op := .call 55 [(.t 90), (.t 91)], dst := some 92 },
    { op := .store 5 true (.t 10) (.t 92), dst := none }]
def a41_r20 : ACode := .reg [{ op := .fad 0 (.t 11), dst := some 93 },
    { op := .load 1 false (.t 93), dst := some 94 },
    { op := .bin .eql (.t 94) (.c (.int .i64 2)), dst := some 95 }]
def a41_r21 : ACode := .reg [{ op := .fad 4 (.t 10), dst := some 96 },
    { op := .load 1 false (.t 96), dst := some 97 },
    { op := .fad 4 (.t 10), dst := some 98 },
    { op := .load 1 false (.t 98), dst := some 99 },
    { op := .len false (.t 99), dst := some 100 },
    { op := .bin .sub (.t 100) (.c (.int .i64 1)), dst := some 101 },
    { op := .iad 10 (.t 97) (.t 101), dst := some 102 },
    { op := .fad 0 (.t 102), dst := some 103 },
    { op := .store 1 false (.t 103) (.c (.int .i64 3)), dst := none }]
def a41_r22 : ACode := .reg [{ op := .fad 4 (.t 10), dst := some 104 },
    { op := .load 1 false (.t 104), dst := some 105 },
    { op := .fad 4 (.t 10), dst := some 106 },
    { op := .load 1 false (.t 106), dst := some 107 },
    { op := .len false (.t 107), dst := some 108 },
    { op := .bin .sub (.t 108) (.c (.int .i64 1)), dst := some 109 },
    { op := .load 5 true (.t 3), dst := some 110 },
    { op := .iad 10 (.t 105) (.t 109), dst := some 111 },
    { op := .fad 5 (.t 111), dst := some 112 },
    { op := .store 5 true (.t 112) (.t 110), dst := none }]
def a41_r23 : ACode := .reg [{ op := .mov (.t 0), dst := some 113 },
    { op := .mov (.t 9), dst := some 114 },
    { op := .load 5 true (.t 10), dst := some 115 },
    { op := .iad 5 (.t 113) (.t 114), dst := some 116 },
    { op := .store 5 true (.t 116) (.t 115), dst := none }]
def a41_r24 : ACode := .reg [{ op := .mov (.t 0), dst := some 118 },
    { op := .call 18 [(.t 118)], dst := some 119 },
    { op := .mov (.t 119), dst := some 117 },
    { op := .ext (.t 117) 0, dst := some 120 },
    { op := .ext (.t 117) 1, dst := some 121 },
    { op := .ext (.t 117) 2, dst := some 122 },
    { op := .ext (.t 117) 3, dst := some 123 },
    { op := .alloc 2 true [.int .i64 0, .nils], dst := some 13, k := 144 },
    { op := .alloc 5 true [.int .i64 0, .int .i64 0, .str [], .nils, .nils], dst := some 14, k := 145 },
    { op := .mov (.t 120), dst := some 12 },
    { op := .store 2 true (.t 13) (.t 121), dst := none },
    { op := .store 5 true (.t 14) (.t 122), dst := none },
    { op := .mov (.t 123), dst := some 15 }]
def a41_r25 : ACode := .reg [{ op := .mov (.t 15), dst := some 124 }]
def a41_r26 : ACode := .draw [{ op := .mov (.t 12), dst := some 125 },
    { op := .load 5 true (.t 14), dst := some 126 },
    { op := .call 43 [], dst := some 127 },
    { op := .mov (.t 125), dst := some 4 },
    { op := .store 5 true (.t 5) (.t 126), dst := none },
    { op := .store 2 true (.t 6) (.t 127), dst := none },
    { op := .mov (.c (.bool false)), dst := some 7 },
    { op := .mov (.c (.bool false)), dst := some 8 }]
    [(2, [1])]
    (.take 0 (.take 1 (.one 2 (.take 3 (.one 4 (.one 5 (.take 6 (.take 7 (.done)))))))))
def a41_r27 : ACode := .draw [{ op := .mov (.t 12), dst := some 128 },
    { op := .load 5 true (.t 3), dst := some 129 },
    { op := .load 2 true (.t 13), dst := some 130 },
    { op := .mov (.t 128), dst := some 4 },
    { op := .store 5 true (.t 5) (.t 129), dst := none },
    { op := .store 2 true (.t 6) (.t 130), dst := none },
    { op := .mov (.c (.bool true)), dst := some 7 },
    { op := .mov (.c (.bool true)), dst := some 8 }]
    [(4, [2])]
    (.take 0 (.take 1 (.take 2 (.take 3 (.one 4 (.one 5 (.take 6 (.take 7 (.done)))))))))
def a41_r28 : ACode := .reg [{ op := .fad 4 (.t 10), dst := some 131 },
    { op := .load 1 false (.t 131), dst := some 132 },
    { op := .fad 4 (.t 10), dst := some 133 },
    { op := .load 1 false (.t 133), dst := some 134 },
    { op := .len false (.t 134), dst := some 135 },
    { op := .bin .sub (.t 135) (.c (.int .i64 1)), dst := some 136 },
    { op := .slice 10 (.t 132) none (some (.t 136)) none, dst := some 137 },
    { op := .fad 4 (.t 10), dst := some 138 },
    { op := .store 1 false (.t 138) (.t 137), dst := none }]
def a41_r29 : ACode := .reg [{ op := .mov (.t 0), dst := some 139 },
    { op := .mov (.t 9), dst := some 140 },
    { op := .load 5 true (.t 10), dst := some 141 },
    { op := .iad 5 (.t 139) (.t 140), dst := some 142 },
    { op := .store 5 true (.t 142) (.t 141), dst := none }]
def a41_r30 : ACode := .draw [{ op := .mov (.t 0), dst := some 143 },
    { op := .load 5 true (.t 3), dst := some 144 },
    { op := .call 43 [], dst := some 145 },
    { op := .mov (.t 143), dst := some 4 },
    { op := .store 5 true (.t 5) (.t 144), dst := none },
    { op := .store 2 true (.t 6) (.t 145), dst := none },
    { op := .mov (.c (.bool false)), dst := some 7 },
    { op := .mov (.c (.bool false)), dst := some 8 }]
    [(2, [1])]
    (.take 0 (.take 1 (.one 2 (.take 3 (.one 4 (.one 5 (.take 6 (.take 7 (.done)))))))))
def a41 : ACode := (.seq a41_r0 (.seq (.seq a41_r1 (.cond (.t 18) (.seq a41_r2 .ret) .skip)) (.seq a41_r3 (.seq a41_r4 (.seq (.seq a41_r5 (.cond (.t 31) (.seq a41_r6 .ret) .skip)) (.seq a41_r7 (.seq (.seq a41_r8 (.block 0 (.seq a41_r9 (.cond (.t 47) (.seq a41_r10 (.seq a41_r11 (.seq (.seq a41_r12 (.cond (.t 70) a41_r13 .skip)) (.seq a41_r14 (.seq a41_r15 (.seq a41_r16 .ret)))))) (.seq (.seq a41_r17 (.cond (.t 87) .skip a41_r18)) (.cond (.t 87) (.seq a41_r19 (.seq (.seq a41_r20 (.cond (.t 95) (.seq a41_r21 a41_r22) .skip)) (.seq a41_r23 (.seq a41_r24 (.seq (.seq a41_r25 (.cond (.t 124) (.seq a41_r26 .ret) .skip)) (.seq a41_r27 .ret)))))) .skip)))))) (.seq a41_r28 (.seq a41_r29 (.seq a41_r30 .ret))))))))))
def a41_res : List ARes := [.tmp 4, .cell 5 5 true, .cell 6 2 true, .tmp 7, .tmp 8]
theorem a41_ok : Coded Try.prog 41 146 a41 a41_res := ⟨Try.f41, _, by kernel_rfl, rfl, by kernel_rfl, rfl, by kernel_rfl, by kernel_rfl⟩
theorem a41_of {args : List AV} {Q : AV → Prop} (hl : args.length ≤ 146) (h : AW Try.prog 146 a41 (mkS (argT 0 args) [] 0) (retQ a41_res Q)) : ACall Try.prog 41 args Q := acall_coded a41_ok hl h

/- workflow/workflowlaw13.sameValues -/
def a42_r0 : ACode := .reg [{ op := .mov (.c (.bool false)), dst := some 4 }]
def a42_r1 : ACode := .reg [{ op := .mov (.t 0), dst := some 5 },
    { op := .build [.int .i64 0, .int .i64 0, .str [], .nils, .nils] [(3, 1, (.t 5))], dst := some 6 },
    { op := .mov (.t 1), dst := some 7 },
    { op := .build [.int .i64 0, .int .i64 0, .str [], .nils, .nils] [(3, 1, (.t 7))], dst := some 8 },
    { op := .call 19 [(.t 6), (.t 8)], dst := some 9 },
    { op := .mov (.t 9), dst := some 4 }]
def a42 : ACode := (.seq a42_r0 (.seq a42_r1 .ret))
def a42_res : List ARes := [.tmp 4]
theorem a42_ok : Coded Try.prog 42 10 a42 a42_res := ⟨Try.f42, _, by kernel_rfl, rfl, by kernel_rfl, rfl, by kernel_rfl, by kernel_rfl⟩
theorem a42_of {args : List AV} {Q : AV → Prop} (hl : args.length ≤ 10) (h : AW Try.prog 10 a42 (mkS (argT 0 args) [] 0) (retQ a42_res Q)) : ACall Try.prog 42 args Q := acall_coded a42_ok hl h

/- workflow/workflowref13.none -/
def a43_r0 : ACode := .reg [{ op := .alloc 2 true [.int .i64 0, .nils], dst := some 0, k := 0 }]
def a43_r1 : ACode := .reg [{ op := .build [.int .i64 0, .nils] [(0, 1, (.c (.int .i64 (-1))))], dst := some 1 },
    { op := .store 2 true (.t 0) (.t 1), dst := none }]
def a43 : ACode := (.seq a43_r0 (.seq a43_r1 .ret))
def a43_res : List ARes := [.cell 0 2 true]
theorem a43_ok : Coded Try.prog 43 2 a43 a43_res := ⟨Try.f43, _, by kernel_rfl, rfl, by kernel_rfl, rfl, by kernel_rfl, by kernel_rfl⟩
theorem a43_of {args : List AV} {Q : AV → Prop} (hl : args.length ≤ 2) (h : AW Try.prog 2 a43 (mkS (argT 0 args) [] 0) (retQ a43_res Q)) : ACall Try.prog 43 args Q := acall_coded a43_ok hl h

/- workflow/unwind.frame -/
def a44_r0 : ACode := .reg [{ op := .box 5 true (.t 0), dst := some 1, k := 0 },
    { op := .alloc 5 true [.int .i64 0, .int .i64 0, .nils, .nils, .nils], dst := some 2, k := 1 }]
def a44_r1 : ACode := .draw [{ op := .fad 0 (.t 1), dst := some 9 },
    { op := .load 1 false (.t 9), dst := some 10 },
    { op := .fad 1 (.t 1), dst := some 11 },
    { op := .load 1 false (.t 11), dst := some 12 },
    { op := .fad 2 (.t 1), dst := some 13 },
    { op := .load 1 false (.t 13), dst := some 14 },
    { op := .call 56 [(.t 14)], dst := some 15 },
    { op := .fad 3 (.t 1), dst := some 16 },
    { op := .load 1 false (.t 16), dst := some 17 },
    { op := .call 56 [(.t 17)], dst := some 18 },
    { op := .build [.int .i64 0, .int .i64 0, .nils, .nils, .nils] [(0, 1, (.t 10)), (1, 1, (.t 12)), (2, 1, (.t 15)), (3, 1, (.t 18))], dst := some 19 },
    { op := .alloc 5 true [.int .i64 0, .int .i64 0, .nils, .nils, .nils], dst := some 3, k := 13 },
    { op := .store 5 true (.t 3) (.t 19), dst := none }]
    [(6, [1, 3, 8]), (9, [1, 3]), (11, [1, 3, 5, 8])]
    (.take 0 (.take 1 (.take 2 (.take 3 (.take 4 (.take 5 (.take 7 (.take 8 (.two 6 (.two 9 (.take 10 (.one 11 (.one 12 (.done)))) 11 (.one 9 (.take 10 (.one 12 (.done))))) 11 (.one 6 (.one 9 (.take 10 (.one 12 (.done))))))))))))))
def a44_r2 : ACode := .reg [{ op := .fad 4 (.t 1), dst := some 20 },
    { op := .load 1 false (.t 20), dst := some 21 },
    { op := .len false (.t 21), dst := some 22 },
    { op := .mov (.c (.int .i64 0)), dst := some 23 }]
def a44_r3 : ACode := .reg [{ op := .bin .lss (.t 23) (.t 22), dst := some 24 }]
def a44_r4 : ACode := .reg [{ op := .iad 10 (.t 21) (.t 23), dst := some 25 },
    { op := .load 10 true (.t 25), dst := some 26 },
    { op := .alloc 10 true [.int .i64 0, .int .i64 0, .int .i64 0, .int .i64 0, .nils, .int .i64 0, .int .i64 0, .str [], .nils, .nils], dst := some 5, k := 22 },
    { op := .store 10 true (.t 5) (.t 26), dst := none }]
def a44_r5 : ACode := .reg [{ op := .fad 5 (.t 5), dst := some 27 },
    { op := .load 5 true (.t 27), dst := some 28 },
    { op := .call 33 [(.t 28)], dst := some 29 },
    { op := .fad 5 (.t 5), dst := some 30 },
    { op := .store 5 true (.t 30) (.t 29), dst := none }]
def a44_r6 : ACode := .reg [{ op := .fad 4 (.t 5), dst := some 31 },
    { op := .load 1 false (.t 31), dst := some 32 },
    { op := .mov (.t 32), dst := some 6 }]
def a44_r7 : ACode := .reg [{ op := .fad 4 (.t 5), dst := some 33 },
    { op := .store 1 false (.t 33) (.c (.nils)), dst := none }]
def a44_r8 : ACode := .reg [{ op := .mov (.t 6), dst := some 34 },
    { op := .len false (.t 34), dst := some 35 },
    { op := .mov (.c (.int .i64 0)), dst := some 36 }]
def a44_r9 : ACode := .reg [{ op := .bin .lss (.t 36) (.t 35), dst := some 37 }]
def a44_r10 : ACode := .reg [{ op := .iad 2 (.t 34) (.t 36), dst := some 38 },
    { op := .load 2 true (.t 38), dst := some 39 },
    { op := .alloc 2 true [.int .i64 0, .nils], dst := some 8, k := 40 },
    { op := .store 2 true (.t 8) (.t 39), dst := none }]
def a44_r11 : ACode := .draw [{ op := .fad 4 (.t 5), dst := some 40 },
    { op := .load 1 false (.t 40), dst := some 41 },
    { op := .load 2 true (.t 8), dst := some 42 },
    { op := .call 49 [(.t 42)], dst := some 43 },
    { op := .bsl 2 true 1 [.int .i64 0, .nils] [(0, (.t 43))], dst := some 44 },
    { op := .app 2 32 (.t 41) (.t 44), dst := some 45, k := 47 },
    { op := .fad 4 (.t 5), dst := some 46 },
    { op := .store 1 false (.t 46) (.t 45), dst := none }]
    [(3, [1])]
    (.take 0 (.take 1 (.take 2 (.one 3 (.take 4 (.one 5 (.take 6 (.one 7 (.done)))))))))
def a44_r12 : ACode := .reg [{ op := .bin .add (.t 36) (.c (.int .i64 1)), dst := some 47 },
    { op := .mov (.t 47), dst := some 36 }]
def a44_l0 : ACode := (.seq a44_r9 (.seq (.cond (.t 37) .skip (.exit 2)) (.seq (.block 3 (.seq a44_r10 a44_r11)) a44_r12)))
def a44_r13 : ACode := .reg [{ op := .fad 4 (.t 3), dst := some 48 },
    { op := .load 1 false (.t 48), dst := some 49 },
    { op := .load 10 true (.t 5), dst := some 50 },
    { op := .bsl 10 true 1 [.int .i64 0, .int .i64 0, .int .i64 0, .int .i64 0, .nils, .int .i64 0, .int .i64 0, .str [], .nils, .nils] [(0, (.t 50))], dst := some 51 },
    { op := .app 10 136 (.t 49) (.t 51), dst := some 52, k := 56 },
    { op := .fad 4 (.t 3), dst := some 53 },
    { op := .store 1 false (.t 53) (.t 52), dst := none }]
def a44_r14 : ACode := .reg [{ op := .bin .add (.t 23) (.c (.int .i64 1)), dst := some 54 },
    { op := .mov (.t 54), dst := some 23 }]
def a44_l1 : ACode := (.seq a44_r3 (.seq (.cond (.t 24) .skip (.exit 0)) (.seq (.block 1 (.seq a44_r4 (.seq a44_r5 (.seq a44_r6 (.seq a44_r7 (.seq (.seq a44_r8 (.block 2 (.loop a44_l0))) a44_r13)))))) a44_r14)))
def a44_r15 : ACode := .reg [{ op := .load 5 true (.t 3), dst := some 55 },
    { op := .store 5 true (.t 2) (.t 55), dst := none }]
def a44 : ACode := (.seq a44_r0 (.seq a44_r1 (.seq (.seq a44_r2 (.block 0 (.loop a44_l1))) (.seq a44_r15 .ret))))
def a44_res : List ARes := [.cell 2 5 true]
theorem a44_ok : Coded Try.prog 44 56 a44 a44_res := ⟨Try.f44, _, by kernel_rfl, rfl, by kernel_rfl, rfl, by kernel_rfl, by kernel_rfl⟩
theorem a44_of {args : List AV} {Q : AV → Prop} (hl : args.length ≤ 56) (h : AW Try.prog 56 a44 (mkS (argT 0 args) [] 0) (retQ a44_res Q)) : ACall Try.prog 44 args Q := acall_coded a44_ok hl h

/- workflow/workflowref13.copyFrame -/
def a45_r0 : ACode := .reg [{ op := .box 5 true (.t 0), dst := some 1, k := 0 },
    { op := .alloc 5 true [.int .i64 0, .int .i64 0, .nils, .nils, .nils], dst := some 2, k := 1 }]
def a45_r1 : ACode := .draw [{ op := .fad 0 (.t 1), dst := some 6 },
    { op := .load 1 false (.t 6), dst := some 7 },
    { op := .fad 1 (.t 1), dst := some 8 },
    { op := .load 1 false (.t 8), dst := some 9 },
    { op := .fad 2 (.t 1), dst := some 10 },
    { op := .load 1 false (.t 10), dst := some 11 },
    { op := .call 57 [(.t 11)], dst := some 12, k := 8, ad := true },
    { op := .fad 3 (.t 1), dst := some 13 },
    { op := .load 1 false (.t 13), dst := some 14 },
    { op := .call 57 [(.t 14)], dst := some 15 },
    { op := .build [.int .i64 0, .int .i64 0, .nils, .nils, .nils] [(0, 1, (.t 7)), (1, 1, (.t 9)), (2, 1, (.t 12)), (3, 1, (.t 15))], dst := some 16 },
    { op := .alloc 5 true [.int .i64 0, .int .i64 0, .nils, .nils, .nils], dst := some 3, k := 13 },
    { op := .store 5 true (.t 3) (.t 16), dst := none }]
    [(6, [1, 3, 8]), (9, [1, 3]), (11, [1, 3, 5, 8])]
    (.take 0 (.take 1 (.take 2 (.take 3 (.take 4 (.take 5 (.take 7 (.take 8 (.two 6 (.two 9 (.take 10 (.one 11 (.one 12 (.done)))) 11 (.one 9 (.take 10 (.one 12 (.done))))) 11 (.one 6 (.one 9 (.take 10 (.one 12 (.done))))))))))))))
def a45_r2 : ACode := .reg [{ op := .fad 4 (.t 1), dst := some 17 },
    { op := .load 1 false (.t 17), dst := some 18 },
    { op := .len false (.t 18), dst := some 19 },
    { op := .mov (.c (.int .i64 0)), dst := some 20 }]
def a45_r3 : ACode := .reg [{ op := .bin .lss (.t 20) (.t 19), dst := some 21 }]
def a45_r4 : ACode := .reg [{ op := .iad 10 (.t 18) (.t 20), dst := some 22 },
    { op := .load 10 true (.t 22), dst := some 23 },
    { op := .alloc 10 true [.int .i64 0, .int .i64 0, .int .i64 0, .int .i64 0, .nils, .int .i64 0, .int .i64 0, .str [], .nils, .nils], dst := some 5, k := 22 },
    { op := .store 10 true (.t 5) (.t 23), dst := none }]
def a45_r5 : ACode := .draw [{ op := .fad 4 (.t 3), dst := some 24 },
    { op := .load 1 false (.t 24), dst := some 25 },
    { op := .load 10 true (.t 5), dst := some 26 },
    { op := .call 58 [(.t 26)], dst := some 27 },
    { op := .bsl 10 true 1 [.int .i64 0, .int .i64 0, .int .i64 0, .int .i64 0, .nils, .int .i64 0, .int .i64 0, .str [], .nils, .nils] [(0, (.t 27))], dst := some 28 },
    { op := .app 10 136 (.t 25) (.t 28), dst := some 29, k := 29 },
    { op := .fad 4 (.t 3), dst := some 30 },
    { op := .store 1 false (.t 30) (.t 29), dst := none }]
    [(3, [1])]
    (.take 0 (.take 1 (.take 2 (.one 3 (.take 4 (.one 5 (.take 6 (.one 7 (.done)))))))))
def a45_r6 : ACode := .reg [{ op := .bin .add (.t 20) (.c (.int .i64 1)), dst := some 31 },
    { op := .mov (.t 31), dst := some 20 }]
def a45_l0 : ACode := (.seq a45_r3 (.seq (.cond (.t 21) .skip (.exit 0)) (.seq (.block 1 (.seq a45_r4 a45_r5)) a45_r6)))
def a45_r7 : ACode := .reg [{ op := .load 5 true (.t 3), dst := some 32 },
    { op := .store 5 true (.t 2) (.t 32), dst := none }]
def a45 : ACode := (.seq a45_r0 (.seq a45_r1 (.seq (.seq a45_r2 (.block 0 (.loop a45_l0))) (.seq a45_r7 .ret))))
def a45_res : List ARes := [.cell 2 5 true]
theorem a45_ok : Coded Try.prog 45 33 a45 a45_res := ⟨Try.f45, _, by kernel_rfl, rfl, by kernel_rfl, rfl, by kernel_rfl, by kernel_rfl⟩
theorem a45_of {args : List AV} {Q : AV → Prop} (hl : args.length ≤ 33) (h : AW Try.prog 33 a45 (mkS (argT 0 args) [] 0) (retQ a45_res Q)) : ACall Try.prog 45 args Q := acall_coded a45_ok hl h

/- workflow/workflowlaw13.SameMark -/
def a46_r0 : ACode := .reg [{ op := .box 10 true (.t 0), dst := some 2, k := 0 },
    { op := .box 10 true (.t 1), dst := some 3, k := 1 },
    { op := .mov (.c (.bool false)), dst := some 4 }]
def a46_r1 : ACode := .reg [{ op := .fad 0 (.t 2), dst := some 6 },
    { op := .load 1 false (.t 6), dst := some 7 },
    { op := .fad 0 (.t 3), dst := some 8 },
    { op := .load 1 false (.t 8), dst := some 9 },
    { op := .bin .neq (.t 7) (.t 9), dst := some 10 },
    { op := .mov (.t 10), dst := some 11 },
    { op := .fad 1 (.t 2), dst := some 12, g := some (11, false) },
    { op := .load 1 false (.t 12), dst := some 13, g := some (11, false) },
    { op := .fad 1 (.t 3), dst := some 14, g := some (11, false) },
    { op := .load 1 false (.t 14), dst := some 15, g := some (11, false) },
    { op := .bin .neq (.t 13) (.t 15), dst := some 16, g := some (11, false) },
    { op := .pick (.t 11) (.c (.bool true)) (.t 16), dst := some 17 },
    { op := .mov (.t 17), dst := some 18 },
    { op := .fad 2 (.t 2), dst := some 19, g := some (18, false) },
    { op := .load 1 false (.t 19), dst := some 20, g := some (18, false) },
    { op := .fad 2 (.t 3), dst := some 21, g := some (18, false) },
    { op := .load 1 false (.t 21), dst := some 22, g := some (18, false) },
    { op := .bin .neq (.t 20) (.t 22), dst := some 23, g := some (18, false) },
    { op := .pick (.t 18) (.c (.bool true)) (.t 23), dst := some 24 },
    { op := .mov (.t 24), dst := some 25 },
    { op := .fad 3 (.t 2), dst := some 26, g := some (25, false) },
    { op := .load 1 false (.t 26), dst := some 27, g := some (25, false) },
    { op := .fad 3 (.t 3), dst := some 28, g := some (25, false) },
    { op := .load 1 false (.t 28), dst := some 29, g := some (25, false) },
    { op := .bin .neq (.t 27) (.t 29), dst := some 30, g := some (25, false) },
    { op := .pick (.t 25) (.c (.bool true)) (.t 30), dst := some 31 },
    { op := .mov (.t 31), dst := some 32 },
    { op := .fad 4 (.t 2), dst := some 33, g := some (32, false) },
    { op := .load 1 false (.t 33), dst := some 34, g := some (32, false) },
    { op := .len false (.t 34), dst := some 35, g := some (32, false) },
    { op := .fad 4 (.t 3), dst := some 36, g := some (32, false) },
    { op := .load 1 false (.t 36), dst := some 37, g := some (32, false) },
    { op := .len false (.t 37), dst := some 38, g := some (32, false) },
    { op := .bin .neq (.t 35) (.t 38), dst := some 39, g := some (32, false) },
    { op := .pick (.t 32) (.c (.bool true)) (.t 39), dst := some 40 },
    { op := .mov (.t 40), dst := some 41 },
    { op := .fad 5 (.t 2), dst := some 42, g := some (41, false) },
    { op := .load 5 true (.t 42), dst := some 43, g := some (41, false) },
    { op := .fad 5 (.t 3), dst := some 44, g := some (41, false) },
    { op := .load 5 true (.t 44), dst := some 45, g := some (41, false) },
    { op := .call 19 [(.t 43), (.t 45)], dst := some 46, g := some (41, false) },
    { op := .not (.t 46), dst := some 47, g := some (41, false) },
    { op := .pick (.t 41) (.c (.bool true)) (.t 47), dst := some 48 }]
def a46_r2 : ACode := .reg [{ op := .mov (.c (.bool false)), dst := some 4 }]
def a46_r3 : ACode := .reg [{ op := .fad 4 (.t 2), dst := some 49 },
    { op := .load 1 false (.t 49), dst := some 50 },
    { op := .len false (.t 50), dst := some 51 },
    { op := .mov (.c (.int .i64 0)), dst := some 52 }]
def a46_r4 : ACode := .reg [{ op := .bin .lss (.t 52) (.t 51), dst := some 53 }]
def a46_r5 : ACode := .reg [{ op := .mov (.t 52), dst := some 54 },
    { op := .mov (.t 54), dst := some 5 }]
def a46_r6 : ACode := .draw [{ op := .fad 4 (.t 2), dst := some 55 },
    { op := .load 1 false (.t 55), dst := some 56 },
    { op := .mov (.t 5), dst := some 57 },
    { op := .iad 2 (.t 56) (.t 57), dst := some 58 },
    { op := .load 2 true (.t 58), dst := some 59 },
    { op := .fad 4 (.t 3), dst := some 60 },
    { op := .load 1 false (.t 60), dst := some 61 },
    { op := .mov (.t 5), dst := some 62 },
    { op := .iad 2 (.t 61) (.t 62), dst := some 63 },
    { op := .load 2 true (.t 63), dst := some 64 },
    { op := .call 15 [(.t 59), (.t 64)], dst := some 65 },
    { op := .not (.t 65), dst := some 66 }]
    []
    (.take 0 (.take 1 (.take 2 (.take 3 (.take 4 (.take 5 (.take 6 (.take 7 (.take 8 (.take 9 (.one 10 (.take 11 (.done)))))))))))))
def a46_r7 : ACode := .reg [{ op := .mov (.c (.bool false)), dst := some 4 }]
def a46_r8 : ACode := .reg [{ op := .bin .add (.t 52) (.c (.int .i64 1)), dst := some 67 },
    { op := .mov (.t 67), dst := some 52 }]
def a46_l0 : ACode := (.seq a46_r4 (.seq (.cond (.t 53) .skip (.exit 0)) (.seq (.block 1 (.seq a46_r5 (.seq a46_r6 (.cond (.t 66) (.seq a46_r7 .ret) .skip)))) a46_r8)))
def a46_r9 : ACode := .reg [{ op := .mov (.c (.bool true)), dst := some 4 }]
def a46 : ACode := (.seq a46_r0 (.seq (.seq a46_r1 (.cond (.t 48) (.seq a46_r2 .ret) .skip)) (.seq (.seq a46_r3 (.block 0 (.loop a46_l0))) (.seq a46_r9 .ret))))
def a46_res : List ARes := [.tmp 4]
theorem a46_ok : Coded Try.prog 46 68 a46 a46_res := ⟨Try.f46, _, by kernel_rfl, rfl, by kernel_rfl, rfl, by kernel_rfl, by kernel_rfl⟩
theorem a46_of {args : List AV} {Q : AV → Prop} (hl : args.length ≤ 68) (h : AW Try.prog 68 a46 (mkS (argT 0 args) [] 0) (retQ a46_res Q)) : ACall Try.prog 46 args Q := acall_coded a46_ok hl h

/- workflow/unwind.undo -/
def a49_r0 : ACode := .reg [{ op := .box 2 true (.t 0), dst := some 1, k := 0 },
    { op := .alloc 2 true [.int .i64 0, .nils], dst := some 2, k := 1 }]
def a49_r1 : ACode := .draw [{ op := .fad 0 (.t 1), dst := some 3 },
    { op := .load 1 false (.t 3), dst := some 4 },
    { op := .fad 1 (.t 1), dst := some 5 },
    { op := .load 1 false (.t 5), dst := some 6 },
    { op := .call 56 [(.t 6)], dst := some 7 },
    { op := .build [.int .i64 0, .nils] [(0, 1, (.t 4)), (1, 1, (.t 7))], dst := some 8 },
    { op := .store 2 true (.t 2) (.t 8), dst := none }]
    [(4, [1])]
    (.take 0 (.take 1 (.take 2 (.take 3 (.one 4 (.take 5 (.one 6 (.done))))))))
def a49 : ACode := (.seq a49_r0 (.seq a49_r1 .ret))
def a49_res : List ARes := [.cell 2 2 true]
theorem a49_ok : Coded Try.prog 49 9 a49 a49_res := ⟨Try.f49, _, by kernel_rfl, rfl, by kernel_rfl, rfl, by kernel_rfl, by kernel_rfl⟩
theorem a49_of {args : List AV} {Q : AV → Prop} (hl : args.length ≤ 9) (h : AW Try.prog 9 a49 (mkS (argT 0 args) [] 0) (retQ a49_res Q)) : ACall Try.prog 49 args Q := acall_coded a49_ok hl h

/- workflow/workflowref13.copyUndo -/
def a50_r0 : ACode := .reg [{ op := .box 2 true (.t 0), dst := some 1, k := 0 },
    { op := .alloc 2 true [.int .i64 0, .nils], dst := some 2, k := 1 }]
def a50_r1 : ACode := .draw [{ op := .fad 0 (.t 1), dst := some 3 },
    { op := .load 1 false (.t 3), dst := some 4 },
    { op := .fad 1 (.t 1), dst := some 5 },
    { op := .load 1 false (.t 5), dst := some 6 },
    { op := .call 57 [(.t 6)], dst := some 7 },
    { op := .build [.int .i64 0, .nils] [(0, 1, (.t 4)), (1, 1, (.t 7))], dst := some 8 },
    { op := .store 2 true (.t 2) (.t 8), dst := none }]
    [(4, [1])]
    (.take 0 (.take 1 (.take 2 (.take 3 (.one 4 (.take 5 (.one 6 (.done))))))))
def a50 : ACode := (.seq a50_r0 (.seq a50_r1 .ret))
def a50_res : List ARes := [.cell 2 2 true]
theorem a50_ok : Coded Try.prog 50 9 a50 a50_res := ⟨Try.f50, _, by kernel_rfl, rfl, by kernel_rfl, rfl, by kernel_rfl, by kernel_rfl⟩
theorem a50_of {args : List AV} {Q : AV → Prop} (hl : args.length ≤ 9) (h : AW Try.prog 9 a50 (mkS (argT 0 args) [] 0) (retQ a50_res Q)) : ACall Try.prog 50 args Q := acall_coded a50_ok hl h

/- slices.Equal[[]string,string] -/
def a51_r0 : ACode := .reg [{ op := .mov (.c (.bool false)), dst := some 4 }]
def a51_r1 : ACode := .reg [{ op := .mov (.t 0), dst := some 6 },
    { op := .len false (.t 6), dst := some 7 },
    { op := .mov (.t 1), dst := some 8 },
    { op := .len false (.t 8), dst := some 9 },
    { op := .bin .neq (.t 7) (.t 9), dst := some 10 }]
def a51_r2 : ACode := .reg [{ op := .mov (.c (.bool false)), dst := some 4 }]
def a51_r3 : ACode := .reg [{ op := .mov (.t 0), dst := some 11 },
    { op := .len false (.t 11), dst := some 12 },
    { op := .mov (.c (.int .i64 0)), dst := some 13 }]
def a51_r4 : ACode := .reg [{ op := .bin .lss (.t 13) (.t 12), dst := some 14 }]
def a51_r5 : ACode := .reg [{ op := .mov (.t 13), dst := some 15 },
    { op := .mov (.t 15), dst := some 5 }]
def a51_r6 : ACode := .draw [{ op := .mov (.t 0), dst := some 16 },
    { op := .mov (.t 5), dst := some 17 },
    { op := .iad 1 (.t 16) (.t 17), dst := some 18 },
    { op := .load 1 false (.t 18), dst := some 19 },
    { op := .mov (.t 1), dst := some 20 },
    { op := .mov (.t 5), dst := some 21 },
    { op := .iad 1 (.t 20) (.t 21), dst := some 22 },
    { op := .load 1 false (.t 22), dst := some 23 },
    { op := .bin .neq (.t 19) (.t 23), dst := some 24 }]
    []
    (.take 0 (.take 1 (.take 2 (.take 3 (.take 4 (.take 5 (.take 6 (.take 7 (.take 8 (.done))))))))))
def a51_r7 : ACode := .reg [{ op := .mov (.c (.bool false)), dst := some 4 }]
def a51_r8 : ACode := .reg [{ op := .bin .add (.t 13) (.c (.int .i64 1)), dst := some 25 },
    { op := .mov (.t 25), dst := some 13 }]
def a51_l0 : ACode := (.seq a51_r4 (.seq (.cond (.t 14) .skip (.exit 0)) (.seq (.block 1 (.seq a51_r5 (.seq a51_r6 (.cond (.t 24) (.seq a51_r7 .ret) .skip)))) a51_r8)))
def a51_r9 : ACode := .reg [{ op := .mov (.c (.bool true)), dst := some 4 }]
def a51 : ACode := (.seq a51_r0 (.seq (.seq a51_r1 (.cond (.t 10) (.seq a51_r2 .ret) .skip)) (.seq (.seq a51_r3 (.block 0 (.loop a51_l0))) (.seq a51_r9 .ret))))
def a51_res : List ARes := [.tmp 4]
theorem a51_ok : Coded Try.prog 51 26 a51 a51_res := ⟨Try.f51, _, by kernel_rfl, rfl, by kernel_rfl, rfl, by kernel_rfl, by kernel_rfl⟩
theorem a51_of {args : List AV} {Q : AV → Prop} (hl : args.length ≤ 26) (h : AW Try.prog 26 a51 (mkS (argT 0 args) [] 0) (retQ a51_res Q)) : ACall Try.prog 51 args Q := acall_coded a51_ok hl h

/- slices.EqualFunc[[]workflow/api.Value,[]workflow/api.Value,workflow/api.Value,workflow/api.Value] -/
def a52_r0 : ACode := .reg [{ op := .mov (.c (.bool false)), dst := some 6 }]
def a52_r1 : ACode := .reg [{ op := .mov (.t 0), dst := some 10 },
    { op := .len false (.t 10), dst := some 11 },
    { op := .mov (.t 1), dst := some 12 },
    { op := .len false (.t 12), dst := some 13 },
    { op := .bin .neq (.t 11) (.t 13), dst := some 14 }]
def a52_r2 : ACode := .reg [{ op := .mov (.c (.bool false)), dst := some 6 }]
def a52_r3 : ACode := .reg [{ op := .mov (.t 0), dst := some 15 },
    { op := .len false (.t 15), dst := some 16 },
    { op := .mov (.c (.int .i64 0)), dst := some 17 }]
def a52_r4 : ACode := .reg [{ op := .bin .lss (.t 17) (.t 16), dst := some 18 }]
def a52_r5 : ACode := .reg [{ op := .mov (.t 17), dst := some 19 },
    { op := .iad 5 (.t 15) (.t 17), dst := some 20 },
    { op := .load 5 true (.t 20), dst := some 21 },
    { op := .alloc 5 true [.int .i64 0, .int .i64 0, .str [], .nils, .nils], dst := some 8, k := 14 },
    { op := .mov (.t 19), dst := some 7 },
    { op := .store 5 true (.t 8) (.t 21), dst := none }]
def a52_r6 : ACode := .reg [{ op := .mov (.t 1), dst := some 22 },
    { op := .mov (.t 7), dst := some 23 },
    { op := .iad 5 (.t 22) (.t 23), dst := some 24 },
    { op := .load 5 true (.t 24), dst := some 25 },
    { op := .alloc 5 true [.int .i64 0, .int .i64 0, .str [], .nils, .nils], dst := some 9, k := 21 },
    { op := .store 5 true (.t 9) (.t 25), dst := none }]
def a52_r7 : ACode := .reg [{ op := .mov (.t 2), dst := some 26 },
    { op := .load 5 true (.t 8), dst := some 27 },
    { op := .load 5 true (.t 9), dst := some 28 },
    { op := .callv (.t 26) [(.t 27), (.t 28)], dst := some 29 },
    { op := .not (.t 29), dst := some 30 }]
def a52_r8 : ACode := .reg [{ op := .mov (.c (.bool false)), dst := some 6 }]
def a52_r9 : ACode := .reg [{ op := .bin .add (.t 17) (.c (.int .i64 1)), dst := some 31 },
    { op := .mov (.t 31), dst := some 17 }]
def a52_l0 : ACode := (.seq a52_r4 (.seq (.cond (.t 18) .skip (.exit 0)) (.seq (.block 1 (.seq a52_r5 (.seq a52_r6 (.seq a52_r7 (.cond (.t 30) (.seq a52_r8 .ret) .skip))))) a52_r9)))
def a52_r10 : ACode := .reg [{ op := .mov (.c (.bool true)), dst := some 6 }]
def a52 : ACode := (.seq a52_r0 (.seq (.seq a52_r1 (.cond (.t 14) (.seq a52_r2 .ret) .skip)) (.seq (.seq a52_r3 (.block 0 (.loop a52_l0))) (.seq a52_r10 .ret))))
def a52_res : List ARes := [.tmp 6]
theorem a52_ok : Coded Try.prog 52 32 a52 a52_res := ⟨Try.f52, _, by kernel_rfl, rfl, by kernel_rfl, rfl, by kernel_rfl, by kernel_rfl⟩
theorem a52_of {args : List AV} {Q : AV → Prop} (hl : args.length ≤ 32) (h : AW Try.prog 32 a52 (mkS (argT 0 args) [] 0) (retQ a52_res Q)) : ACall Try.prog 52 args Q := acall_coded a52_ok hl h

/- workflow/value.copies -/
def a53_r0 : ACode := .reg [{ op := .mov (.c (.nils)), dst := some 2 }]
def a53_r1 : ACode := .reg [{ op := .mov (.c (.nils)), dst := some 3 }]
def a53_r2 : ACode := .reg [{ op := .mov (.t 0), dst := some 6 },
    { op := .len false (.t 6), dst := some 7 },
    { op := .mov (.c (.int .i64 0)), dst := some 8 }]
def a53_r3 : ACode := .reg [{ op := .bin .lss (.t 8) (.t 7), dst := some 9 }]
def a53_r4 : ACode := .reg [{ op := .iad 5 (.t 6) (.t 8), dst := some 10 },
    { op := .load 5 true (.t 10), dst := some 11 },
    { op := .alloc 5 true [.int .i64 0, .int .i64 0, .str [], .nils, .nils], dst := some 5, k := 8 },
    { op := .store 5 true (.t 5) (.t 11), dst := none }]
def a53_r5 : ACode := .reg [{ op := .mov (.t 3), dst := some 12 },
    { op := .load 5 true (.t 5), dst := some 13 },
    { op := .call 33 [(.t 13)], dst := some 14 },
    { op := .bsl 5 true 1 [.int .i64 0, .int .i64 0, .str [], .nils, .nils] [(0, (.t 14))], dst := some 15 },
    { op := .app 5 80 (.t 12) (.t 15), dst := some 16, k := 14 },
    { op := .mov (.t 16), dst := some 3 }]
def a53_r6 : ACode := .reg [{ op := .bin .add (.t 8) (.c (.int .i64 1)), dst := some 17 },
    { op := .mov (.t 17), dst := some 8 }]
def a53_l0 : ACode := (.seq a53_r3 (.seq (.cond (.t 9) .skip (.exit 0)) (.seq (.block 1 (.seq a53_r4 a53_r5)) a53_r6)))
def a53_r7 : ACode := .reg [{ op := .mov (.t 3), dst := some 18 },
    { op := .mov (.t 18), dst := some 2 }]
def a53 : ACode := (.seq a53_r0 (.seq a53_r1 (.seq (.seq a53_r2 (.block 0 (.loop a53_l0))) (.seq a53_r7 .ret))))
def a53_res : List ARes := [.tmp 2]
theorem a53_ok : Coded Try.prog 53 19 a53 a53_res := ⟨Try.f53, _, by kernel_rfl, rfl, by kernel_rfl, rfl, by kernel_rfl, by kernel_rfl⟩
theorem a53_of {args : List AV} {Q : AV → Prop} (hl : args.length ≤ 19) (h : AW Try.prog 19 a53 (mkS (argT 0 args) [] 0) (retQ a53_res Q)) : ACall Try.prog 53 args Q := acall_coded a53_ok hl h

/- slices.Clone[[]string,string] -/
def a54_r0 : ACode := .reg [{ op := .mov (.c (.nils)), dst := some 2 }]
def a54_r1 : ACode := .reg [{ op := .mov (.t 0), dst := some 3 },
    { op := .eqz false (.t 3), dst := some 4 }]
def a54_r2 : ACode := .reg [{ op := .mov (.c (.nils)), dst := some 2 }]
def a54_r3 : ACode := .reg [{ op := .bsl 1 false 0 [.str []] [], dst := some 5 },
    { op := .mov (.t 0), dst := some 6 },
    { op := .app 1 16 (.t 5) (.t 6), dst := some 7, k := 6 },
    { op := .mov (.t 7), dst := some 2 }]
def a54 : ACode := (.seq a54_r0 (.seq (.seq a54_r1 (.cond (.t 4) (.seq a54_r2 .ret) .skip)) (.seq a54_r3 .ret)))
def a54_res : List ARes := [.tmp 2]
theorem a54_ok : Coded Try.prog 54 8 a54 a54_res := ⟨Try.f54, _, by kernel_rfl, rfl, by kernel_rfl, rfl, by kernel_rfl, by kernel_rfl⟩
theorem a54_of {args : List AV} {Q : AV → Prop} (hl : args.length ≤ 8) (h : AW Try.prog 8 a54 (mkS (argT 0 args) [] 0) (retQ a54_res Q)) : ACall Try.prog 54 args Q := acall_coded a54_ok hl h

/- workflow/workflowref13.cut -/
def a55_r0 : ACode := .reg [{ op := .box 5 true (.t 0), dst := some 2, k := 0 },
    { op := .box 10 true (.t 1), dst := some 3, k := 1 },
    { op := .alloc 5 true [.int .i64 0, .int .i64 0, .nils, .nils, .nils], dst := some 4, k := 2 }]
def a55_r1 : ACode := .reg [{ op := .fad 3 (.t 3), dst := some 5 },
    { op := .load 1 false (.t 5), dst := some 6 },
    { op := .bin .geq (.t 6) (.c (.int .i64 0)), dst := some 7 },
    { op := .mov (.t 7), dst := some 8 },
    { op := .fad 3 (.t 3), dst := some 9, g := some (8, true) },
    { op := .load 1 false (.t 9), dst := some 10, g := some (8, true) },
    { op := .fad 3 (.t 2), dst := some 11, g := some (8, true) },
    { op := .load 1 false (.t 11), dst := some 12, g := some (8, true) },
    { op := .len false (.t 12), dst := some 13, g := some (8, true) },
    { op := .bin .lss (.t 10) (.t 13), dst := some 14, g := some (8, true) },
    { op := .pick (.t 8) (.t 14) (.c (.bool false)), dst := some 15 }]
def a55_r2 : ACode := .reg [{ op := .fad 3 (.t 2), dst := some 16 },
    { op := .load 1 false (.t 16), dst := some 17 },
    { op := .fad 3 (.t 3), dst := some 18 },
    { op := .load 1 false (.t 18), dst := some 19 },
    { op := .slice 5 (.t 17) none (some (.t 19)) none, dst := some 20 },
    { op := .fad 3 (.t 2), dst := some 21 },
    { op := .store 1 false (.t 21) (.t 20), dst := none }]
def a55_r3 : ACode := .reg [{ op := .load 5 true (.t 2), dst := some 22 },
    { op := .store 5 true (.t 4) (.t 22), dst := none }]
def a55 : ACode := (.seq a55_r0 (.seq (.seq a55_r1 (.cond (.t 15) a55_r2 .skip)) (.seq a55_r3 .ret)))
def a55_res : List ARes := [.cell 4 5 true]
theorem a55_ok : Coded Try.prog 55 23 a55 a55_res := ⟨Try.f55, _, by kernel_rfl, rfl, by kernel_rfl, rfl, by kernel_rfl, by kernel_rfl⟩
theorem a55_of {args : List AV} {Q : AV → Prop} (hl : args.length ≤ 23) (h : AW Try.prog 23 a55 (mkS (argT 0 args) [] 0) (retQ a55_res Q)) : ACall Try.prog 55 args Q := acall_coded a55_ok hl h

/- workflow/unwind.values -/
def a56_r0 : ACode := .reg [{ op := .mov (.c (.nils)), dst := some 2 }]
def a56_r1 : ACode := .reg [{ op := .mov (.t 0), dst := some 3 },
    { op := .call 60 [(.t 3)], dst := some 4 },
    { op := .fld 3 1 false (.t 4), dst := some 5 },
    { op := .mov (.t 5), dst := some 2 }]
def a56 : ACode := (.seq a56_r0 (.seq a56_r1 .ret))
def a56_res : List ARes := [.tmp 2]
theorem a56_ok : Coded Try.prog 56 6 a56 a56_res := ⟨Try.f56, _, by kernel_rfl, rfl, by kernel_rfl, rfl, by kernel_rfl, by kernel_rfl⟩
theorem a56_of {args : List AV} {Q : AV → Prop} (hl : args.length ≤ 6) (h : AW Try.prog 6 a56 (mkS (argT 0 args) [] 0) (retQ a56_res Q)) : ACall Try.prog 56 args Q := acall_coded a56_ok hl h

/- workflow/workflowref13.copyValues -/
def a57_r0 : ACode := .reg [{ op := .mov (.c (.nils)), dst := some 2 }]
def a57_r1 : ACode := .reg [{ op := .mov (.c (.nils)), dst := some 3 }]
def a57_r2 : ACode := .reg [{ op := .mov (.t 0), dst := some 6 },
    { op := .len false (.t 6), dst := some 7 },
    { op := .mov (.c (.int .i64 0)), dst := some 8 }]
def a57_r3 : ACode := .reg [{ op := .bin .lss (.t 8) (.t 7), dst := some 9 }]
def a57_r4 : ACode := .reg [{ op := .iad 5 (.t 6) (.t 8), dst := some 10 },
    { op := .load 5 true (.t 10), dst := some 11 },
    { op := .alloc 5 true [.int .i64 0, .int .i64 0, .str [], .nils, .nils], dst := some 5, k := 8 },
    { op := .store 5 true (.t 5) (.t 11), dst := none }]
def a57_r5 : ACode := .reg [{ op := .mov (.t 3), dst := some 12 },
    { op := .load 5 true (.t 5), dst := some 13 },
    { op := .call 40 [(.t 13)], dst := some 14 },
    { op := .bsl 5 true 1 [.int .i64 0, .int .i64 0, .str [], .nils, .nils] [(0, (.t 14))], dst := some 15 },
    { op := .app 5 80 (.t 12) (.t 15), dst := some 16, k := 14 },
    { op := .mov (.t 16), dst := some 3 }]
def a57_r6 : ACode := .reg [{ op := .bin .add (.t 8) (.c (.int .i64 1)), dst := some 17 },
    { op := .mov (.t 17), dst := some 8 }]
def a57_l0 : ACode := (.seq a57_r3 (.seq (.cond (.t 9) .skip (.exit 0)) (.seq (.block 1 (.seq a57_r4 a57_r5)) a57_r6)))
def a57_r7 : ACode := .reg [{ op := .mov (.t 3), dst := some 18 },
    { op := .mov (.t 18), dst := some 2 }]
def a57 : ACode := (.seq a57_r0 (.seq a57_r1 (.seq (.seq a57_r2 (.block 0 (.loop a57_l0))) (.seq a57_r7 .ret))))
def a57_res : List ARes := [.tmp 2]
theorem a57_ok : Coded Try.prog 57 19 a57 a57_res := ⟨Try.f57, _, by kernel_rfl, rfl, by kernel_rfl, rfl, by kernel_rfl, by kernel_rfl⟩
theorem a57_of {args : List AV} {Q : AV → Prop} (hl : args.length ≤ 19) (h : AW Try.prog 19 a57 (mkS (argT 0 args) [] 0) (retQ a57_res Q)) : ACall Try.prog 57 args Q := acall_coded a57_ok hl h

/- workflow/workflowref13.copyMark -/
def a58_r0 : ACode := .reg [{ op := .box 10 true (.t 0), dst := some 1, k := 0 },
    { op := .alloc 10 true [.int .i64 0, .int .i64 0, .int .i64 0, .int .i64 0, .nils, .int .i64 0, .int .i64 0, .str [], .nils, .nils], dst := some 2, k := 1 }]
def a58_r1 : ACode := .reg [{ op := .load 10 true (.t 1), dst := some 6 },
    { op := .alloc 10 true [.int .i64 0, .int .i64 0, .int .i64 0, .int .i64 0, .nils, .int .i64 0, .int .i64 0, .str [], .nils, .nils], dst := some 3, k := 3 },
    { op := .store 10 true (.t 3) (.t 6), dst := none }]
def a58_r2 : ACode := .reg [{ op := .fad 4 (.t 3), dst := some 7 },
    { op := .store 1 false (.t 7) (.c (.nils)), dst := none }]
def a58_r3 : ACode := .reg [{ op := .fad 4 (.t 1), dst := some 8 },
    { op := .load 1 false (.t 8), dst := some 9 },
    { op := .len false (.t 9), dst := some 10 },
    { op := .mov (.c (.int .i64 0)), dst := some 11 }]
def a58_r4 : ACode := .reg [{ op := .bin .lss (.t 11) (.t 10), dst := some 12 }]
def a58_r5 : ACode := .reg [{ op := .iad 2 (.t 9) (.t 11), dst := some 13 },
    { op := .load 2 true (.t 13), dst := some 14 },
    { op := .alloc 2 true [.int .i64 0, .nils], dst := some 5, k := 14 },
    { op := .store 2 true (.t 5) (.t 14), dst := none }]
def a58_r6 : ACode := .draw [{ op := .fad 4 (.t 3), dst := some 15 },
    { op := .load 1 false (.t 15), dst := some 16 },
    { op := .load 2 true (.t 5), dst := some 17 },
    { op := .call 50 [(.t 17)], dst := some 18 },
    { op := .bsl 2 true 1 [.int .i64 0, .nils] [(0, (.t 18))], dst := some 19 },
    { op := .app 2 32 (.t 16) (.t 19), dst := some 20, k := 21 },
    { op := .fad 4 (.t 3), dst := some 21 },
    { op := .store 1 false (.t 21) (.t 20), dst := none }]
    [(3, [1])]
    (.take 0 (.take 1 (.take 2 (.one 3 (.take 4 (.one 5 (.take 6 (.one 7 (.done)))))))))
def a58_r7 : ACode := .reg [{ op := .bin .add (.t 11) (.c (.int .i64 1)), dst := some 22 },
    { op := .mov (.t 22), dst := some 11 }]
def a58_l0 : ACode := (.seq a58_r4 (.seq (.cond (.t 12) .skip (.exit 0)) (.seq (.block 1 (.seq a58_r5 a58_r6)) a58_r7)))
def a58_r8 : ACode := .reg [{ op := .fad 5 (.t 1), dst := some 23 },
    { op := .load 5 true (.t 23), dst := some 24 },
    { op := .call 40 [(.t 24)], dst := some 25 },
    { op := .fad 5 (.t 3), dst := some 26 },
    { op := .store 5 true (.t 26) (.t 25), dst := none }]
def a58_r9 : ACode := .reg [{ op := .load 10 true (.t 3), dst := some 27 },
    { op := .store 10 true (.t 2) (.t 27), dst := none }]
def a58 : ACode := (.seq a58_r0 (.seq a58_r1 (.seq a58_r2 (.seq (.seq a58_r3 (.block 0 (.loop a58_l0))) (.seq a58_r8 (.seq a58_r9 .ret))))))
def a58_res : List ARes := [.cell 2 10 true]
theorem a58_ok : Coded Try.prog 58 28 a58 a58_res := ⟨Try.f58, _, by kernel_rfl, rfl, by kernel_rfl, rfl, by kernel_rfl, by kernel_rfl⟩
theorem a58_of {args : List AV} {Q : AV → Prop} (hl : args.length ≤ 28) (h : AW Try.prog 28 a58 (mkS (argT 0 args) [] 0) (retQ a58_res Q)) : ACall Try.prog 58 args Q := acall_coded a58_ok hl h

/- workflow/value.List -/
def a60_r0 : ACode := .reg [{ op := .alloc 5 true [.int .i64 0, .int .i64 0, .str [], .nils, .nils], dst := some 2, k := 0 }]
def a60_r1 : ACode := .reg [{ op := .mov (.t 0), dst := some 3 },
    { op := .call 53 [(.t 3)], dst := some 4, k := 2, ad := true },
    { op := .build [.int .i64 0, .int .i64 0, .str [], .nils, .nils] [(0, 1, (.c (.int .i64 4))), (3, 1, (.t 4))], dst := some 5 },
    { op := .store 5 true (.t 2) (.t 5), dst := none }]
def a60 : ACode := (.seq a60_r0 (.seq a60_r1 .ret))
def a60_res : List ARes := [.cell 2 5 true]
theorem a60_ok : Coded Try.prog 60 6 a60 a60_res := ⟨Try.f60, _, by kernel_rfl, rfl, by kernel_rfl, rfl, by kernel_rfl, by kernel_rfl⟩
theorem a60_of {args : List AV} {Q : AV → Prop} (hl : args.length ≤ 6) (h : AW Try.prog 6 a60 (mkS (argT 0 args) [] 0) (retQ a60_res Q)) : ACall Try.prog 60 args Q := acall_coded a60_ok hl h

/- workflow/workflowlaw13.UnwindThrow -/
def a3_r0 : ACode := .reg [{ op := .box 5 true (.t 1), dst := some 3, k := 0 },
    { op := .mov (.c (.bool false)), dst := some 4 }]
def a3_r1 : ACode := .reg [{ op := .mov (.t 0), dst := some 11 },
    { op := .call 10 [(.t 11)], dst := some 12 },
    { op := .mov (.t 12), dst := some 13 },
    { op := .load 5 true (.t 3), dst := some 14, g := some (13, false) },
    { op := .bsl 5 true 1 [.int .i64 0, .int .i64 0, .str [], .nils, .nils] [(0, (.t 14))], dst := some 15, g := some (13, false) },
    { op := .call 11 [(.t 15)], dst := some 16, g := some (13, false) },
    { op := .pick (.t 13) (.c (.bool true)) (.t 16), dst := some 17 }]
def a3_r2 : ACode := .reg [{ op := .call 12 [], dst := some 18 },
    { op := .mov (.t 18), dst := some 4 }]
def a3_r3 : ACode := .reg [{ op := .mov (.t 0), dst := some 20 },
    { op := .load 5 true (.t 3), dst := some 21 },
    { op := .call 13 [(.t 20), (.t 21)], dst := some 22 },
    { op := .mov (.t 22), dst := some 19 },
    { op := .ext (.t 19) 0, dst := some 23 },
    { op := .ext (.t 19) 1, dst := some 24 },
    { op := .ext (.t 19) 2, dst := some 25 },
    { op := .alloc 2 true [.int .i64 0, .nils], dst := some 6, k := 18 },
    { op := .mov (.t 23), dst := some 5 },
    { op := .store 2 true (.t 6) (.t 24), dst := none },
    { op := .mov (.t 25), dst := some 7 }]
def a3_r4 : ACode := .reg [{ op := .mov (.t 0), dst := some 27 },
    { op := .load 5 true (.t 3), dst := some 28 },
    { op := .call 14 [(.t 27), (.t 28)], dst := some 29 },
    { op := .mov (.t 29), dst := some 26 },
    { op := .ext (.t 26) 0, dst := some 30 },
    { op := .ext (.t 26) 1, dst := some 31 },
    { op := .ext (.t 26) 2, dst := some 32 },
    { op := .alloc 2 true [.int .i64 0, .nils], dst := some 9, k := 29 },
    { op := .mov (.t 30), dst := some 8 },
    { op := .store 2 true (.t 9) (.t 31), dst := none },
    { op := .mov (.t 32), dst := some 10 }]
def a3_r5 : ACode := .reg [{ op := .mov (.t 7), dst := some 33 },
    { op := .mov (.t 10), dst := some 34 },
    { op := .eqb false (.t 33) (.t 34), dst := some 35 },
    { op := .mov (.t 35), dst := some 36 },
    { op := .load 2 true (.t 6), dst := some 37, g := some (36, true) },
    { op := .load 2 true (.t 9), dst := some 38, g := some (36, true) },
    { op := .call 15 [(.t 37), (.t 38)], dst := some 39, g := some (36, true) },
    { op := .pick (.t 36) (.t 39) (.c (.bool false)), dst := some 40 },
    { op := .mov (.t 40), dst := some 41 },
    { op := .mov (.t 5), dst := some 42, g := some (41, true) },
    { op := .mov (.t 8), dst := some 43, g := some (41, true) },
    { op := .call 16 [(.t 42), (.t 43)], dst := some 44, g := some (41, true) },
    { op := .pick (.t 41) (.t 44) (.c (.bool false)), dst := some 45 },
    { op := .mov (.t 45), dst := some 46 },
    { op := .call 12 [], dst := some 47, g := some (46, true) },
    { op := .pick (.t 46) (.t 47) (.c (.bool false)), dst := some 48 },
    { op := .mov (.t 48), dst := some 4 }]
def a3 : ACode := (.seq a3_r0 (.seq (.seq a3_r1 (.cond (.t 17) (.seq a3_r2 .ret) .skip)) (.seq a3_r3 (.seq a3_r4 (.seq a3_r5 .ret)))))
def a3_res : List ARes := [.tmp 4]
theorem a3_ok : Coded Try.prog 3 49 a3 a3_res := ⟨Try.f3, _, by kernel_rfl, rfl, by kernel_rfl, rfl, by kernel_rfl, by kernel_rfl⟩
theorem a3_of {args : List AV} {Q : AV → Prop} (hl : args.length ≤ 49) (h : AW Try.prog 49 a3 (mkS (argT 0 args) [] 0) (retQ a3_res Q)) : ACall Try.prog 3 args Q := acall_coded a3_ok hl h

/- workflow/workflowlaw13.UnwindNext -/
def a4_r0 : ACode := .reg [{ op := .mov (.c (.bool false)), dst := some 2 }]
def a4_r1 : ACode := .reg [{ op := .mov (.t 0), dst := some 11 },
    { op := .call 10 [(.t 11)], dst := some 12 }]
def a4_r2 : ACode := .reg [{ op := .call 12 [], dst := some 13 },
    { op := .mov (.t 13), dst := some 2 }]
def a4_r3 : ACode := .reg [{ op := .mov (.t 0), dst := some 15 },
    { op := .call 17 [(.t 15)], dst := some 16 },
    { op := .mov (.t 16), dst := some 14 },
    { op := .ext (.t 14) 0, dst := some 17 },
    { op := .ext (.t 14) 1, dst := some 18 },
    { op := .ext (.t 14) 2, dst := some 19 },
    { op := .ext (.t 14) 3, dst := some 20 },
    { op := .alloc 2 true [.int .i64 0, .nils], dst := some 4, k := 12 },
    { op := .alloc 5 true [.int .i64 0, .int .i64 0, .str [], .nils, .nils], dst := some 5, k := 13 },
    { op := .mov (.t 17), dst := some 3 },
    { op := .store 2 true (.t 4) (.t 18), dst := none },
    { op := .store 5 true (.t 5) (.t 19), dst := none },
    { op := .mov (.t 20), dst := some 6 }]
def a4_r4 : ACode := .reg [{ op := .mov (.t 0), dst := some 22 },
    { op := .call 18 [(.t 22)], dst := some 23 },
    { op := .mov (.t 23), dst := some 21 },
    { op := .ext (.t 21) 0, dst := some 24 },
    { op := .ext (.t 21) 1, dst := some 25 },
    { op := .ext (.t 21) 2, dst := some 26 },
    { op := .ext (.t 21) 3, dst := some 27 },
    { op := .alloc 2 true [.int .i64 0, .nils], dst := some 8, k := 25 },
    { op := .alloc 5 true [.int .i64 0, .int .i64 0, .str [], .nils, .nils], dst := some 9, k := 26 },
    { op := .mov (.t 24), dst := some 7 },
    { op := .store 2 true (.t 8) (.t 25), dst := none },
    { op := .store 5 true (.t 9) (.t 26), dst := none },
    { op := .mov (.t 27), dst := some 10 }]
def a4_r5 : ACode := .reg [{ op := .mov (.t 6), dst := some 28 },
    { op := .mov (.t 10), dst := some 29 },
    { op := .eqb false (.t 28) (.t 29), dst := some 30 },
    { op := .mov (.t 30), dst := some 31 },
    { op := .load 2 true (.t 4), dst := some 32, g := some (31, true) },
    { op := .load 2 true (.t 8), dst := some 33, g := some (31, true) },
    { op := .call 15 [(.t 32), (.t 33)], dst := some 34, g := some (31, true) },
    { op := .pick (.t 31) (.t 34) (.c (.bool false)), dst := some 35 },
    { op := .mov (.t 35), dst := some 36 },
    { op := .load 5 true (.t 5), dst := some 37, g := some (36, true) },
    { op := .load 5 true (.t 9), dst := some 38, g := some (36, true) },
    { op := .call 19 [(.t 37), (.t 38)], dst := some 39, g := some (36, true) },
    { op := .pick (.t 36) (.t 39) (.c (.bool false)), dst := some 40 },
    { op := .mov (.t 40), dst := some 41 },
    { op := .mov (.t 3), dst := some 42, g := some (41, true) },
    { op := .mov (.t 7), dst := some 43, g := some (41, true) },
    { op := .call 16 [(.t 42), (.t 43)], dst := some 44, g := some (41, true) },
    { op := .pick (.t 41) (.t 44) (.c (.bool false)), dst := some 45 },
    { op := .mov (.t 45), dst := some 46 },
    { op := .mov (.t 0), dst := some 47, g := some (46, true) },
    { op := .call 20 [(.t 47)], dst := some 48, g := some (46, true) },
    { op := .mov (.t 0), dst := some 49, g := some (46, true) },
    { op := .call 21 [(.t 49)], dst := some 50, g := some (46, true) },
    { op := .eqb false (.t 48) (.t 50), dst := some 51, g := some (46, true) },
    { op := .pick (.t 46) (.t 51) (.c (.bool false)), dst := some 52 },
    { op := .mov (.t 52), dst := some 53 },
    { op := .call 12 [], dst := some 54, g := some (53, true) },
    { op := .pick (.t 53) (.t 54) (.c (.bool false)), dst := some 55 },
    { op := .mov (.t 55), dst := some 2 }]
def a4 : ACode := (.seq a4_r0 (.seq (.seq a4_r1 (.cond (.t 12) (.seq a4_r2 .ret) .skip)) (.seq a4_r3 (.seq a4_r4 (.seq a4_r5 .ret)))))
def a4_res : List ARes := [.tmp 2]
theorem a4_ok : Coded Try.prog 4 56 a4 a4_res := ⟨Try.f4, _, by kernel_rfl, rfl, by kernel_rfl, rfl, by kernel_rfl, by kernel_rfl⟩
theorem a4_of {args : List AV} {Q : AV → Prop} (hl : args.length ≤ 56) (h : AW Try.prog 56 a4 (mkS (argT 0 args) [] 0) (retQ a4_res Q)) : ACall Try.prog 4 args Q := acall_coded a4_ok hl h

/- workflow/workflowlaw13.UnwindBelow -/
def a5_r0 : ACode := .reg [{ op := .box 5 true (.t 1), dst := some 3, k := 0 },
    { op := .mov (.c (.bool false)), dst := some 4 }]
def a5_r1 : ACode := .reg [{ op := .mov (.t 0), dst := some 15 },
    { op := .call 10 [(.t 15)], dst := some 16 },
    { op := .mov (.t 16), dst := some 17 },
    { op := .load 5 true (.t 3), dst := some 18, g := some (17, false) },
    { op := .bsl 5 true 1 [.int .i64 0, .int .i64 0, .str [], .nils, .nils] [(0, (.t 18))], dst := some 19, g := some (17, false) },
    { op := .call 11 [(.t 19)], dst := some 20, g := some (17, false) },
    { op := .pick (.t 17) (.c (.bool true)) (.t 20), dst := some 21 }]
def a5_r2 : ACode := .reg [{ op := .call 12 [], dst := some 22 },
    { op := .mov (.t 22), dst := some 4 }]
def a5_r3 : ACode := .reg [{ op := .mov (.t 0), dst := some 23 },
    { op := .len false (.t 23), dst := some 24 },
    { op := .mov (.c (.int .i64 0)), dst := some 25 }]
def a5_r4 : ACode := .reg [{ op := .bin .lss (.t 25) (.t 24), dst := some 26 }]
def a5_r5 : ACode := .reg [{ op := .iad 5 (.t 23) (.t 25), dst := some 27 },
    { op := .load 5 true (.t 27), dst := some 28 },
    { op := .alloc 5 true [.int .i64 0, .int .i64 0, .nils, .nils, .nils], dst := some 6, k := 17 },
    { op := .store 5 true (.t 6) (.t 28), dst := none }]
def a5_r6 : ACode := .reg [{ op := .fad 4 (.t 6), dst := some 29 },
    { op := .load 1 false (.t 29), dst := some 30 },
    { op := .len false (.t 30), dst := some 31 },
    { op := .mov (.c (.int .i64 0)), dst := some 32 }]
def a5_r7 : ACode := .reg [{ op := .bin .lss (.t 32) (.t 31), dst := some 33 }]
def a5_r8 : ACode := .reg [{ op := .iad 10 (.t 30) (.t 32), dst := some 34 },
    { op := .load 10 true (.t 34), dst := some 35 },
    { op := .alloc 10 true [.int .i64 0, .int .i64 0, .int .i64 0, .int .i64 0, .nils, .int .i64 0, .int .i64 0, .str [], .nils, .nils], dst := some 8, k := 26 },
    { op := .store 10 true (.t 8) (.t 35), dst := none }]
def a5_r9 : ACode := .reg [{ op := .fad 4 (.t 8), dst := some 36 },
    { op := .load 1 false (.t 36), dst := some 37 },
    { op := .len false (.t 37), dst := some 38 },
    { op := .mov (.c (.int .i64 0)), dst := some 39 }]
def a5_r10 : ACode := .reg [{ op := .bin .lss (.t 39) (.t 38), dst := some 40 }]
def a5_r11 : ACode := .reg [{ op := .iad 2 (.t 37) (.t 39), dst := some 41 },
    { op := .load 2 true (.t 41), dst := some 42 },
    { op := .alloc 2 true [.int .i64 0, .nils], dst := some 10, k := 35 },
    { op := .store 2 true (.t 10) (.t 42), dst := none }]
def a5_r12 : ACode := .reg [{ op := .fad 0 (.t 10), dst := some 43 },
    { op := .load 1 false (.t 43), dst := some 44 },
    { op := .bin .lss (.t 44) (.c (.int .i64 0)), dst := some 45 }]
def a5_r13 : ACode := .reg [{ op := .call 12 [], dst := some 46 },
    { op := .mov (.t 46), dst := some 4 }]
def a5_r14 : ACode := .reg [{ op := .bin .add (.t 39) (.c (.int .i64 1)), dst := some 47 },
    { op := .mov (.t 47), dst := some 39 }]
def a5_l0 : ACode := (.seq a5_r10 (.seq (.cond (.t 40) .skip (.exit 4)) (.seq (.block 5 (.seq a5_r11 (.seq a5_r12 (.cond (.t 45) (.seq a5_r13 .ret) .skip)))) a5_r14)))
def a5_r15 : ACode := .reg [{ op := .bin .add (.t 32) (.c (.int .i64 1)), dst := some 48 },
    { op := .mov (.t 48), dst := some 32 }]
def a5_l1 : ACode := (.seq a5_r7 (.seq (.cond (.t 33) .skip (.exit 2)) (.seq (.block 3 (.seq a5_r8 (.seq a5_r9 (.block 4 (.loop a5_l0))))) a5_r15)))
def a5_r16 : ACode := .reg [{ op := .bin .add (.t 25) (.c (.int .i64 1)), dst := some 49 },
    { op := .mov (.t 49), dst := some 25 }]
def a5_l2 : ACode := (.seq a5_r4 (.seq (.cond (.t 26) .skip (.exit 0)) (.seq (.block 1 (.seq a5_r5 (.seq a5_r6 (.block 2 (.loop a5_l1))))) a5_r16)))
def a5_r17 : ACode := .reg [{ op := .mov (.t 0), dst := some 51 },
    { op := .load 5 true (.t 3), dst := some 52 },
    { op := .call 13 [(.t 51), (.t 52)], dst := some 53 },
    { op := .mov (.t 53), dst := some 50 },
    { op := .ext (.t 50) 0, dst := some 54 },
    { op := .ext (.t 50) 1, dst := some 55 },
    { op := .ext (.t 50) 2, dst := some 56 },
    { op := .alloc 2 true [.int .i64 0, .nils], dst := some 12, k := 55 },
    { op := .mov (.t 54), dst := some 11 },
    { op := .store 2 true (.t 12) (.t 55), dst := none },
    { op := .mov (.t 56), dst := some 13 }]
def a5_r18 : ACode := .draw [{ op := .mov (.t 11), dst := some 57 },
    { op := .len false (.t 57), dst := some 58 },
    { op := .mov (.t 0), dst := some 59 },
    { op := .len false (.t 59), dst := some 60 },
    { op := .bin .gtr (.t 58) (.t 60), dst := some 61 },
    { op := .mov (.t 61), dst := some 62 },
    { op := .mov (.t 13), dst := some 63, g := some (62, false) },
    { op := .not (.t 63), dst := some 64, g := some (62, false) },
    { op := .mov (.t 64), dst := some 65, g := some (62, false) },
    { op := .mov (.t 11), dst := some 66, g := some (65, true) },
    { op := .len false (.t 66), dst := some 67, g := some (65, true) },
    { op := .bin .gtr (.t 67) (.c (.int .i64 0)), dst := some 68, g := some (65, true) },
    { op := .mov (.t 68), dst := some 69, g := some (65, true) },
    { op := .fad 0 (.t 12), dst := some 70, g := some (69, false) },
    { op := .load 1 false (.t 70), dst := some 71, g := some (69, false) },
    { op := .bin .neq (.t 71) (.c (.int .i64 (-1))), dst := some 72, g := some (69, false) },
    { op := .pick (.t 69) (.c (.bool true)) (.t 72), dst := some 73, g := some (65, true) },
    { op := .pick (.t 65) (.t 73) (.c (.bool false)), dst := some 74, g := some (62, false) },
    { op := .pick (.t 62) (.c (.bool true)) (.t 74), dst := some 75 },
    { op := .mov (.t 75), dst := some 76 },
    { op := .mov (.t 13), dst := some 77, g := some (76, false) },
    { op := .mov (.t 77), dst := some 78, g := some (76, false) },
    { op := .mov (.t 11), dst := some 79, g := some (78, true) },
    { op := .len false (.t 79), dst := some 80, g := some (78, true) },
    { op := .bin .eql (.t 80) (.c (.int .i64 0)), dst := some 81, g := some (78, true) },
    { op := .pick (.t 78) (.t 81) (.c (.bool false)), dst := some 82, g := some (76, false) },
    { op := .pick (.t 76) (.c (.bool true)) (.t 82), dst := some 83 },
    { op := .mov (.t 83), dst := some 84 },
    { op := .mov (.t 13), dst := some 85, g := some (84, false) },
    { op := .mov (.t 85), dst := some 86, g := some (84, false) },
    { op := .mov (.t 11), dst := some 87, g := some (86, true) },
    { op := .call 20 [(.t 87)], dst := some 88, g := some (86, true) },
    { op := .fad 0 (.t 12), dst := some 89, g := some (86, true) },
    { op := .load 1 false (.t 89), dst := some 90, g := some (86, true) },
    { op := .bin .geq (.t 90) (.c (.int .i64 0)), dst := some 91, g := some (86, true) },
    { op := .eqb true (.t 88) (.t 91), dst := some 92, g := some (86, true) },
    { op := .pick (.t 86) (.t 92) (.c (.bool false)), dst := some 93, g := some (84, false) },
    { op := .mov (.t 93), dst := some 94, g := some (84, false) },
    { op := .fad 0 (.t 12), dst := some 95, g := some (94, true) },
    { op := .load 1 false (.t 95), dst := some 96, g := some (94, true) },
    { op := .bin .geq (.t 96) (.c (.int .i64 0)), dst := some 97, g := some (94, true) },
    { op := .pick (.t 94) (.t 97) (.c (.bool false)), dst := some 98, g := some (84, false) },
    { op := .pick (.t 84) (.c (.bool true)) (.t 98), dst := some 99 }]
    [(31, [33])]
    (.take 0 (.take 1 (.take 2 (.take 3 (.take 4 (.take 5 (.take 6 (.take 7 (.take 8 (.take 9 (.take 10 (.take 11 (.take 12 (.take 13 (.take 14 (.take 15 (.take 16 (.take 17 (.take 18 (.take 19 (.take 20 (.take 21 (.take 22 (.take 23 (.take 24 (.take 25 (.take 26 (.take 27 (.take 28 (.take 29 (.take 30 (.take 32 (.take 33 (.take 34 (.one 31 (.take 35 (.take 36 (.take 37 (.take 38 (.take 39 (.take 40 (.take 41 (.take 42 (.done))))))))))))))))))))))))))))))))))))))))))))
def a5_r19 : ACode := .reg [{ op := .mov (.c (.bool false)), dst := some 4 }]
def a5_r20 : ACode := .reg [{ op := .mov (.t 11), dst := some 100 },
    { op := .len false (.t 100), dst := some 101 },
    { op := .bin .eql (.t 101) (.c (.int .i64 0)), dst := some 102 }]
def a5_r21 : ACode := .reg [{ op := .call 12 [], dst := some 103 },
    { op := .mov (.t 103), dst := some 4 }]
def a5_r22 : ACode := .reg [{ op := .mov (.t 11), dst := some 104 },
    { op := .len false (.t 104), dst := some 105 },
    { op := .bin .sub (.t 105) (.c (.int .i64 1)), dst := some 106 },
    { op := .mov (.t 106), dst := some 14 }]
def a5_r23 : ACode := .draw [{ op := .mov (.t 11), dst := some 107 },
    { op := .mov (.t 14), dst := some 108 },
    { op := .slice 5 (.t 107) none (some (.t 108)) none, dst := some 109 },
    { op := .mov (.t 0), dst := some 110 },
    { op := .mov (.t 14), dst := some 111 },
    { op := .slice 5 (.t 110) none (some (.t 111)) none, dst := some 112 },
    { op := .call 16 [(.t 109), (.t 112)], dst := some 113 },
    { op := .mov (.t 113), dst := some 114 },
    { op := .mov (.t 11), dst := some 115, g := some (114, true) },
    { op := .mov (.t 14), dst := some 116, g := some (114, true) },
    { op := .iad 5 (.t 115) (.t 116), dst := some 117, g := some (114, true) },
    { op := .fad 0 (.t 117), dst := some 118, g := some (114, true) },
    { op := .load 1 false (.t 118), dst := some 119, g := some (114, true) },
    { op := .mov (.t 0), dst := some 120, g := some (114, true) },
    { op := .mov (.t 14), dst := some 121, g := some (114, true) },
    { op := .iad 5 (.t 120) (.t 121), dst := some 122, g := some (114, true) },
    { op := .fad 0 (.t 122), dst := some 123, g := some (114, true) },
    { op := .load 1 false (.t 123), dst := some 124, g := some (114, true) },
    { op := .bin .eql (.t 119) (.t 124), dst := some 125, g := some (114, true) },
    { op := .pick (.t 114) (.t 125) (.c (.bool false)), dst := some 126 },
    { op := .mov (.t 126), dst := some 127 },
    { op := .mov (.t 11), dst := some 128, g := some (127, true) },
    { op := .mov (.t 14), dst := some 129, g := some (127, true) },
    { op := .iad 5 (.t 128) (.t 129), dst := some 130, g := some (127, true) },
    { op := .fad 4 (.t 130), dst := some 131, g := some (127, true) },
    { op := .load 1 false (.t 131), dst := some 132, g := some (127, true) },
    { op := .len false (.t 132), dst := some 133, g := some (127, true) },
    { op := .mov (.t 0), dst := some 134, g := some (127, true) },
    { op := .mov (.t 14), dst := some 135, g := some (127, true) },
    { op := .iad 5 (.t 134) (.t 135), dst := some 136, g := some (127, true) },
    { op := .fad 4 (.t 136), dst := some 137, g := some (127, true) },
    { op := .load 1 false (.t 137), dst := some 138, g := some (127, true) },
    { op := .len false (.t 138), dst := some 139, g := some (127, true) },
    { op := .bin .leq (.t 133) (.t 139), dst := some 140, g := some (127, true) },
    { op := .pick (.t 127) (.t 140) (.c (.bool false)), dst := some 141 },
    { op := .mov (.t 141), dst := some 142 },
    { op := .call 12 [], dst := some 143, g := some (142, true) },
    { op := .pick (.t 142) (.t 143) (.c (.bool false)), dst := some 144 },
    { op := .mov (.t 144), dst := some 4 }]
    []
    (.take 0 (.take 1 (.take 2 (.take 3 (.take 4 (.take 5 (.one 6 (.take 7 (.take 8 (.take 9 (.take 10 (.take 11 (.take 12 (.take 13 (.take 14 (.take 15 (.take 16 (.take 17 (.take 18 (.take 19 (.take 20 (.take 21 (.take 22 (.take 23 (.take 24 (.take 25 (.take 26 (.take 27 (.take 28 (.take 29 (.take 30 (.take 31 (.take 32 (.take 33 (.take 34 (.take 35 (.one 36 (.take 37 (.take 38 (.done))))))))))))))))))))))))))))))))))))))))
def a5 : ACode := (.seq a5_r0 (.seq (.seq a5_r1 (.cond (.t 21) (.seq a5_r2 .ret) .skip)) (.seq (.seq a5_r3 (.block 0 (.loop a5_l2))) (.seq a5_r17 (.seq (.seq a5_r18 (.cond (.t 99) (.seq a5_r19 .ret) .skip)) (.seq (.seq a5_r20 (.cond (.t 102) (.seq a5_r21 .ret) .skip)) (.seq a5_r22 (.seq a5_r23 .ret))))))))
def a5_res : List ARes := [.tmp 4]
theorem a5_ok : Coded Try.prog 5 145 a5 a5_res := ⟨Try.f5, _, by kernel_rfl, rfl, by kernel_rfl, rfl, by kernel_rfl, by kernel_rfl⟩
theorem a5_of {args : List AV} {Q : AV → Prop} (hl : args.length ≤ 145) (h : AW Try.prog 145 a5 (mkS (argT 0 args) [] 0) (retQ a5_res Q)) : ACall Try.prog 5 args Q := acall_coded a5_ok hl h

/- workflow/workflowlaw13.UnwindMarks -/
def a6_r0 : ACode := .reg [{ op := .box 5 true (.t 0), dst := some 4, k := 0 },
    { op := .mov (.c (.bool false)), dst := some 8 }]
def a6_r1 : ACode := .reg [{ op := .load 5 true (.t 4), dst := some 17 },
    { op := .bsl 5 true 1 [.int .i64 0, .int .i64 0, .nils, .nils, .nils] [(0, (.t 17))], dst := some 18 },
    { op := .call 10 [(.t 18)], dst := some 19 }]
def a6_r2 : ACode := .reg [{ op := .call 12 [], dst := some 20 },
    { op := .mov (.t 20), dst := some 8 }]
def a6_r3 : ACode := .reg [{ op := .load 5 true (.t 4), dst := some 22 },
    { op := .mov (.t 1), dst := some 23 },
    { op := .mov (.t 2), dst := some 24 },
    { op := .mov (.t 3), dst := some 25 },
    { op := .call 22 [(.t 22), (.t 23), (.t 24), (.t 25)], dst := some 26 },
    { op := .mov (.t 26), dst := some 21 },
    { op := .ext (.t 21) 0, dst := some 27 },
    { op := .ext (.t 21) 1, dst := some 28 },
    { op := .alloc 5 true [.int .i64 0, .int .i64 0, .nils, .nils, .nils], dst := some 9, k := 15 },
    { op := .store 5 true (.t 9) (.t 27), dst := none },
    { op := .mov (.t 28), dst := some 10 }]
def a6_r4 : ACode := .reg [{ op := .load 5 true (.t 4), dst := some 30 },
    { op := .mov (.t 1), dst := some 31 },
    { op := .mov (.t 2), dst := some 32 },
    { op := .mov (.t 3), dst := some 33 },
    { op := .call 23 [(.t 30), (.t 31), (.t 32), (.t 33)], dst := some 34 },
    { op := .mov (.t 34), dst := some 29 },
    { op := .ext (.t 29) 0, dst := some 35 },
    { op := .ext (.t 29) 1, dst := some 36 },
    { op := .alloc 5 true [.int .i64 0, .int .i64 0, .nils, .nils, .nils], dst := some 11, k := 26 },
    { op := .store 5 true (.t 11) (.t 35), dst := none },
    { op := .mov (.t 36), dst := some 12 }]
def a6_r5 : ACode := .reg [{ op := .load 5 true (.t 4), dst := some 38 },
    { op := .call 24 [(.t 38)], dst := some 39 },
    { op := .mov (.t 39), dst := some 37 },
    { op := .ext (.t 37) 0, dst := some 40 },
    { op := .ext (.t 37) 1, dst := some 41 },
    { op := .alloc 5 true [.int .i64 0, .int .i64 0, .nils, .nils, .nils], dst := some 13, k := 34 },
    { op := .store 5 true (.t 13) (.t 40), dst := none },
    { op := .mov (.t 41), dst := some 14 }]
def a6_r6 : ACode := .reg [{ op := .load 5 true (.t 4), dst := some 43 },
    { op := .call 25 [(.t 43)], dst := some 44 },
    { op := .mov (.t 44), dst := some 42 },
    { op := .ext (.t 42) 0, dst := some 45 },
    { op := .ext (.t 42) 1, dst := some 46 },
    { op := .alloc 5 true [.int .i64 0, .int .i64 0, .nils, .nils, .nils], dst := some 15, k := 42 },
    { op := .store 5 true (.t 15) (.t 45), dst := none },
    { op := .mov (.t 46), dst := some 16 }]
def a6_r7 : ACode := .reg [{ op := .mov (.t 10), dst := some 47 },
    { op := .mov (.t 12), dst := some 48 },
    { op := .bin .eql (.t 47) (.t 48), dst := some 49 },
    { op := .mov (.t 49), dst := some 50 },
    { op := .load 5 true (.t 9), dst := some 51, g := some (50, true) },
    { op := .load 5 true (.t 11), dst := some 52, g := some (50, true) },
    { op := .call 26 [(.t 51), (.t 52)], dst := some 53, g := some (50, true) },
    { op := .pick (.t 50) (.t 53) (.c (.bool false)), dst := some 54 },
    { op := .mov (.t 54), dst := some 55 },
    { op := .mov (.t 14), dst := some 56, g := some (55, true) },
    { op := .mov (.t 16), dst := some 57, g := some (55, true) },
    { op := .bin .eql (.t 56) (.t 57), dst := some 58, g := some (55, true) },
    { op := .pick (.t 55) (.t 58) (.c (.bool false)), dst := some 59 },
    { op := .mov (.t 59), dst := some 60 },
    { op := .load 5 true (.t 13), dst := some 61, g := some (60, true) },
    { op := .load 5 true (.t 15), dst := some 62, g := some (60, true) },
    { op := .call 26 [(.t 61), (.t 62)], dst := some 63, g := some (60, true) },
    { op := .pick (.t 60) (.t 63) (.c (.bool false)), dst := some 64 },
    { op := .mov (.t 64), dst := some 65 },
    { op := .call 12 [], dst := some 66, g := some (65, true) },
    { op := .pick (.t 65) (.t 66) (.c (.bool false)), dst := some 67 },
    { op := .mov (.t 67), dst := some 8 }]
def a6 : ACode := (.seq a6_r0 (.seq (.seq a6_r1 (.cond (.t 19) (.seq a6_r2 .ret) .skip)) (.seq a6_r3 (.seq a6_r4 (.seq a6_r5 (.seq a6_r6 (.seq a6_r7 .ret)))))))
def a6_res : List ARes := [.tmp 8]
theorem a6_ok : Coded Try.prog 6 68 a6 a6_res := ⟨Try.f6, _, by kernel_rfl, rfl, by kernel_rfl, rfl, by kernel_rfl, by kernel_rfl⟩
theorem a6_of {args : List AV} {Q : AV → Prop} (hl : args.length ≤ 68) (h : AW Try.prog 68 a6 (mkS (argT 0 args) [] 0) (retQ a6_res Q)) : ACall Try.prog 6 args Q := acall_coded a6_ok hl h

/- workflow/workflowlaw13.UnwindLeave -/
def a7_r0 : ACode := .reg [{ op := .box 5 true (.t 0), dst := some 4, k := 0 },
    { op := .mov (.c (.bool false)), dst := some 8 }]
def a7_r1 : ACode := .reg [{ op := .load 5 true (.t 4), dst := some 18 },
    { op := .bsl 5 true 1 [.int .i64 0, .int .i64 0, .nils, .nils, .nils] [(0, (.t 18))], dst := some 19 },
    { op := .call 10 [(.t 19)], dst := some 20 }]
def a7_r2 : ACode := .reg [{ op := .call 12 [], dst := some 21 },
    { op := .mov (.t 21), dst := some 8 }]
def a7_r3 : ACode := .reg [{ op := .load 5 true (.t 4), dst := some 23 },
    { op := .mov (.t 1), dst := some 24 },
    { op := .mov (.t 2), dst := some 25 },
    { op := .mov (.t 3), dst := some 26 },
    { op := .call 23 [(.t 23), (.t 24), (.t 25), (.t 26)], dst := some 27 },
    { op := .mov (.t 27), dst := some 22 },
    { op := .ext (.t 22) 0, dst := some 28 },
    { op := .ext (.t 22) 1, dst := some 29 },
    { op := .alloc 5 true [.int .i64 0, .int .i64 0, .nils, .nils, .nils], dst := some 9, k := 15 },
    { op := .store 5 true (.t 9) (.t 28), dst := none },
    { op := .mov (.t 29), dst := some 10 }]
def a7_r4 : ACode := .reg [{ op := .load 5 true (.t 9), dst := some 31 },
    { op := .call 25 [(.t 31)], dst := some 32 },
    { op := .mov (.t 32), dst := some 30 },
    { op := .ext (.t 30) 0, dst := some 33 },
    { op := .ext (.t 30) 1, dst := some 34 },
    { op := .alloc 5 true [.int .i64 0, .int .i64 0, .nils, .nils, .nils], dst := some 11, k := 23 },
    { op := .store 5 true (.t 11) (.t 33), dst := none },
    { op := .mov (.t 34), dst := some 12 }]
def a7_r5 : ACode := .reg [{ op := .load 5 true (.t 4), dst := some 36 },
    { op := .mov (.t 1), dst := some 37 },
    { op := .mov (.t 2), dst := some 38 },
    { op := .mov (.t 3), dst := some 39 },
    { op := .call 22 [(.t 36), (.t 37), (.t 38), (.t 39)], dst := some 40 },
    { op := .mov (.t 40), dst := some 35 },
    { op := .ext (.t 35) 0, dst := some 41 },
    { op := .ext (.t 35) 1, dst := some 42 },
    { op := .alloc 5 true [.int .i64 0, .int .i64 0, .nils, .nils, .nils], dst := some 13, k := 34 },
    { op := .store 5 true (.t 13) (.t 41), dst := none },
    { op := .mov (.t 42), dst := some 14 }]
def a7_r6 : ACode := .reg [{ op := .mov (.t 14), dst := some 43 },
    { op := .bin .neq (.t 43) (.c (.int .i64 0)), dst := some 44 }]
def a7_r7 : ACode := .reg [{ op := .mov (.t 14), dst := some 45 },
    { op := .mov (.t 10), dst := some 46 },
    { op := .bin .eql (.t 45) (.t 46), dst := some 47 },
    { op := .mov (.t 47), dst := some 48 },
    { op := .call 12 [], dst := some 49, g := some (48, true) },
    { op := .pick (.t 48) (.t 49) (.c (.bool false)), dst := some 50 },
    { op := .mov (.t 50), dst := some 8 }]
def a7_r8 : ACode := .reg [{ op := .load 5 true (.t 13), dst := some 52 },
    { op := .call 24 [(.t 52)], dst := some 53 },
    { op := .mov (.t 53), dst := some 51 },
    { op := .ext (.t 51) 0, dst := some 54 },
    { op := .ext (.t 51) 1, dst := some 55 },
    { op := .alloc 5 true [.int .i64 0, .int .i64 0, .nils, .nils, .nils], dst := some 15, k := 51 },
    { op := .store 5 true (.t 15) (.t 54), dst := none },
    { op := .mov (.t 55), dst := some 14 }]
def a7_r9 : ACode := .reg [{ op := .mov (.t 14), dst := some 56 },
    { op := .bin .neq (.t 56) (.c (.int .i64 0)), dst := some 57 },
    { op := .mov (.t 57), dst := some 58 },
    { op := .load 5 true (.t 15), dst := some 59, g := some (58, false) },
    { op := .load 5 true (.t 11), dst := some 60, g := some (58, false) },
    { op := .call 26 [(.t 59), (.t 60)], dst := some 61, g := some (58, false) },
    { op := .not (.t 61), dst := some 62, g := some (58, false) },
    { op := .pick (.t 58) (.c (.bool true)) (.t 62), dst := some 63 }]
def a7_r10 : ACode := .reg [{ op := .mov (.c (.bool false)), dst := some 8 }]
def a7_r11 : ACode := .reg [{ op := .fad 2 (.t 13), dst := some 64 },
    { op := .load 1 false (.t 64), dst := some 65 },
    { op := .len false (.t 65), dst := some 66 },
    { op := .mov (.c (.int .i64 0)), dst := some 67 }]
def a7_r12 : ACode := .reg [{ op := .bin .lss (.t 67) (.t 66), dst := some 68 }]
def a7_r13 : ACode := .reg [{ op := .mov (.t 67), dst := some 69 },
    { op := .mov (.t 69), dst := some 16 }]
def a7_r14 : ACode := .draw [{ op := .fad 2 (.t 13), dst := some 70 },
    { op := .load 1 false (.t 70), dst := some 71 },
    { op := .mov (.t 16), dst := some 72 },
    { op := .call 27 [(.c (.int .i64 77))], dst := some 73 },
    { op := .iad 5 (.t 71) (.t 72), dst := some 74 },
    { op := .store 5 true (.t 74) (.t 73), dst := none }]
    [(3, [1])]
    (.take 0 (.take 1 (.take 2 (.one 3 (.take 4 (.one 5 (.done)))))))
def a7_r15 : ACode := .reg [{ op := .bin .add (.t 67) (.c (.int .i64 1)), dst := some 75 },
    { op := .mov (.t 75), dst := some 67 }]
def a7_l0 : ACode := (.seq a7_r12 (.seq (.cond (.t 68) .skip (.exit 0)) (.seq (.block 1 (.seq a7_r13 a7_r14)) a7_r15)))
def a7_r16 : ACode := .reg [{ op := .fad 3 (.t 15), dst := some 76 },
    { op := .load 1 false (.t 76), dst := some 77 },
    { op := .len false (.t 77), dst := some 78 },
    { op := .mov (.c (.int .i64 0)), dst := some 79 }]
def a7_r17 : ACode := .reg [{ op := .bin .lss (.t 79) (.t 78), dst := some 80 }]
def a7_r18 : ACode := .reg [{ op := .mov (.t 79), dst := some 81 },
    { op := .mov (.t 81), dst := some 17 }]
def a7_r19 : ACode := .draw [{ op := .fad 3 (.t 15), dst := some 82 },
    { op := .load 1 false (.t 82), dst := some 83 },
    { op := .mov (.t 17), dst := some 84 },
    { op := .call 27 [(.c (.int .i64 77))], dst := some 85 },
    { op := .iad 5 (.t 83) (.t 84), dst := some 86 },
    { op := .store 5 true (.t 86) (.t 85), dst := none }]
    [(3, [1])]
    (.take 0 (.take 1 (.take 2 (.one 3 (.take 4 (.one 5 (.done)))))))
def a7_r20 : ACode := .reg [{ op := .bin .add (.t 79) (.c (.int .i64 1)), dst := some 87 },
    { op := .mov (.t 87), dst := some 79 }]
def a7_l1 : ACode := (.seq a7_r17 (.seq (.cond (.t 80) .skip (.exit 2)) (.seq (.block 3 (.seq a7_r18 a7_r19)) a7_r20)))
def a7_r21 : ACode := .reg [{ op := .load 5 true (.t 4), dst := some 88 },
    { op := .load 5 true (.t 11), dst := some 89 },
    { op := .call 26 [(.t 88), (.t 89)], dst := some 90 },
    { op := .mov (.t 90), dst := some 91 },
    { op := .call 12 [], dst := some 92, g := some (91, true) },
    { op := .pick (.t 91) (.t 92) (.c (.bool false)), dst := some 93 },
    { op := .mov (.t 93), dst := some 8 }]
def a7 : ACode := (.seq a7_r0 (.seq (.seq a7_r1 (.cond (.t 20) (.seq a7_r2 .ret) .skip)) (.seq a7_r3 (.seq a7_r4 (.seq a7_r5 (.seq (.seq a7_r6 (.cond (.t 44) (.seq a7_r7 .ret) .skip)) (.seq a7_r8 (.seq (.seq a7_r9 (.cond (.t 63) (.seq a7_r10 .ret) .skip)) (.seq (.seq a7_r11 (.block 0 (.loop a7_l0))) (.seq (.seq a7_r16 (.block 2 (.loop a7_l1))) (.seq a7_r21 .ret)))))))))))
def a7_res : List ARes := [.tmp 8]
theorem a7_ok : Coded Try.prog 7 94 a7 a7_res := ⟨Try.f7, _, by kernel_rfl, rfl, by kernel_rfl, rfl, by kernel_rfl, by kernel_rfl⟩
theorem a7_of {args : List AV} {Q : AV → Prop} (hl : args.length ≤ 94) (h : AW Try.prog 94 a7 (mkS (argT 0 args) [] 0) (retQ a7_res Q)) : ACall Try.prog 7 args Q := acall_coded a7_ok hl h

/- workflow/workflowlaw13.UnwindRegister -/
def a8_r0 : ACode := .reg [{ op := .box 5 true (.t 0), dst := some 2, k := 0 },
    { op := .box 2 true (.t 1), dst := some 3, k := 1 },
    { op := .mov (.c (.bool false)), dst := some 4 }]
def a8_r1 : ACode := .reg [{ op := .load 5 true (.t 2), dst := some 9 },
    { op := .bsl 5 true 1 [.int .i64 0, .int .i64 0, .nils, .nils, .nils] [(0, (.t 9))], dst := some 10 },
    { op := .call 10 [(.t 10)], dst := some 11 },
    { op := .mov (.t 11), dst := some 12 },
    { op := .fad 1 (.t 3), dst := some 13, g := some (12, false) },
    { op := .load 1 false (.t 13), dst := some 14, g := some (12, false) },
    { op := .len false (.t 14), dst := some 15, g := some (12, false) },
    { op := .bin .gtr (.t 15) (.c (.int .i64 20)), dst := some 16, g := some (12, false) },
    { op := .pick (.t 12) (.c (.bool true)) (.t 16), dst := some 17 },
    { op := .mov (.t 17), dst := some 18 },
    { op := .fad 1 (.t 3), dst := some 19, g := some (18, false) },
    { op := .load 1 false (.t 19), dst := some 20, g := some (18, false) },
    { op := .call 11 [(.t 20)], dst := some 21, g := some (18, false) },
    { op := .pick (.t 18) (.c (.bool true)) (.t 21), dst := some 22 }]
def a8_r2 : ACode := .reg [{ op := .call 12 [], dst := some 23 },
    { op := .mov (.t 23), dst := some 4 }]
def a8_r3 : ACode := .reg [{ op := .load 5 true (.t 2), dst := some 25 },
    { op := .load 2 true (.t 3), dst := some 26 },
    { op := .call 28 [(.t 25), (.t 26)], dst := some 27 },
    { op := .mov (.t 27), dst := some 24 },
    { op := .ext (.t 24) 0, dst := some 28 },
    { op := .ext (.t 24) 1, dst := some 29 },
    { op := .alloc 5 true [.int .i64 0, .int .i64 0, .nils, .nils, .nils], dst := some 5, k := 25 },
    { op := .store 5 true (.t 5) (.t 28), dst := none },
    { op := .mov (.t 29), dst := some 6 }]
def a8_r4 : ACode := .reg [{ op := .load 5 true (.t 2), dst := some 31 },
    { op := .load 2 true (.t 3), dst := some 32 },
    { op := .call 29 [(.t 31), (.t 32)], dst := some 33 },
    { op := .mov (.t 33), dst := some 30 },
    { op := .ext (.t 30) 0, dst := some 34 },
    { op := .ext (.t 30) 1, dst := some 35 },
    { op := .alloc 5 true [.int .i64 0, .int .i64 0, .nils, .nils, .nils], dst := some 7, k := 34 },
    { op := .store 5 true (.t 7) (.t 34), dst := none },
    { op := .mov (.t 35), dst := some 8 }]
def a8_r5 : ACode := .reg [{ op := .mov (.t 6), dst := some 36 },
    { op := .mov (.t 8), dst := some 37 },
    { op := .bin .eql (.t 36) (.t 37), dst := some 38 },
    { op := .mov (.t 38), dst := some 39 },
    { op := .load 5 true (.t 5), dst := some 40, g := some (39, true) },
    { op := .load 5 true (.t 7), dst := some 41, g := some (39, true) },
    { op := .call 26 [(.t 40), (.t 41)], dst := some 42, g := some (39, true) },
    { op := .pick (.t 39) (.t 42) (.c (.bool false)), dst := some 43 },
    { op := .mov (.t 43), dst := some 44 },
    { op := .call 12 [], dst := some 45, g := some (44, true) },
    { op := .pick (.t 44) (.t 45) (.c (.bool false)), dst := some 46 },
    { op := .mov (.t 46), dst := some 4 }]
def a8 : ACode := (.seq a8_r0 (.seq (.seq a8_r1 (.cond (.t 22) (.seq a8_r2 .ret) .skip)) (.seq a8_r3 (.seq a8_r4 (.seq a8_r5 .ret)))))
def a8_res : List ARes := [.tmp 4]
theorem a8_ok : Coded Try.prog 8 47 a8 a8_res := ⟨Try.f8, _, by kernel_rfl, rfl, by kernel_rfl, rfl, by kernel_rfl, by kernel_rfl⟩
theorem a8_of {args : List AV} {Q : AV → Prop} (hl : args.length ≤ 47) (h : AW Try.prog 47 a8 (mkS (argT 0 args) [] 0) (retQ a8_res Q)) : ACall Try.prog 8 args Q := acall_coded a8_ok hl h
end Go.Proofs.Ytafkaofaioleiaa
