/- The abstract code of the functions, checked. -/
import Derived.Test.YtloccbmiojhabaaA2
import Derived.Test.YtloccbmiojhabaaProg
import Derived.KernelRfl

namespace Go.Proofs.Ytloccbmiojhabaa
open Go Go.Amb

/- (*workflow/workflowlaw40.model).add -/
def a24_r0 : ACode := .reg [{ op := .mov (.c (.bool false)), dst := some 2 }]
def a24_r1 : ACode := .draw [{ op := .mov (.t 0), dst := some 7 },
    { op := .nilc (.t 7), dst := some 8 },
    { op := .fad 0 (.t 8), dst := some 9 },
    { op := .load 2 true (.t 9), dst := some 10 },
    { op := .mov (.t 0), dst := some 11 },
    { op := .nilc (.t 11), dst := some 12 },
    { op := .fad 4 (.t 12), dst := some 13 },
    { op := .load 1 false (.t 13), dst := some 14 },
    { op := .len false (.t 14), dst := some 15 },
    { op := .bin .add (.t 15) (.c (.int .i64 1)), dst := some 16 },
    { op := .call 28 [(.t 16), (.c (.int .i64 0))], dst := some 17 },
    { op := .call 9 [(.t 10), (.t 17)], dst := some 18 },
    { op := .mov (.t 18), dst := some 6 },
    { op := .ext (.t 6) 0, dst := some 19 },
    { op := .ext (.t 6) 1, dst := some 20 },
    { op := .ext (.t 6) 2, dst := some 21 },
    { op := .alloc 2 true [.nils, .int .i64 0], dst := some 3, k := 17 },
    { op := .store 2 true (.t 3) (.t 19), dst := none },
    { op := .mov (.t 20), dst := some 4 },
    { op := .mov (.t 21), dst := some 5 }]
    [(10, [3]), (16, [3, 7])]
    (.take 0 (.take 1 (.take 2 (.take 3 (.take 4 (.take 5 (.take 6 (.take 7 (.take 8 (.take 9 (.two 10 (.two 11 (.take 12 (.take 13 (.take 14 (.take 15 (.one 16 (.one 17 (.take 18 (.take 19 (.done))))))))) 16 (.one 11 (.take 12 (.take 13 (.take 14 (.take 15 (.one 17 (.take 18 (.take 19 (.done)))))))))) 16 (.one 10 (.one 11 (.take 12 (.take 13 (.take 14 (.take 15 (.one 17 (.take 18 (.take 19 (.done)))))))))))))))))))))
def a24_r2 : ACode := .reg [{ op := .mov (.t 0), dst := some 22 },
    { op := .load 2 true (.t 3), dst := some 23 },
    { op := .nilc (.t 22), dst := some 24 },
    { op := .fad 0 (.t 24), dst := some 25 },
    { op := .store 2 true (.t 25) (.t 23), dst := none }]
def a24_r3 : ACode := .reg [{ op := .mov (.t 0), dst := some 26 },
    { op := .mov (.t 0), dst := some 27 },
    { op := .nilc (.t 27), dst := some 28 },
    { op := .fad 4 (.t 28), dst := some 29 },
    { op := .load 1 false (.t 29), dst := some 30 },
    { op := .bsl 1 false 1 [.int .i64 0] [(0, (.c (.int .i64 0)))], dst := some 31 },
    { op := .app 1 8 (.t 30) (.t 31), dst := some 32, k := 32 },
    { op := .nilc (.t 26), dst := some 33 },
    { op := .fad 4 (.t 33), dst := some 34 },
    { op := .store 1 false (.t 34) (.t 32), dst := none }]
def a24_r4 : ACode := .reg [{ op := .mov (.t 0), dst := some 35 },
    { op := .mov (.t 0), dst := some 36 },
    { op := .nilc (.t 36), dst := some 37 },
    { op := .fad 5 (.t 37), dst := some 38 },
    { op := .load 1 false (.t 38), dst := some 39 },
    { op := .bsl 1 false 1 [.int .i64 0] [(0, (.c (.int .i64 0)))], dst := some 40 },
    { op := .app 1 8 (.t 39) (.t 40), dst := some 41, k := 42 },
    { op := .nilc (.t 35), dst := some 42 },
    { op := .fad 5 (.t 42), dst := some 43 },
    { op := .store 1 false (.t 43) (.t 41), dst := none }]
def a24_r5 : ACode := .reg [{ op := .mov (.t 4), dst := some 44 },
    { op := .mov (.t 44), dst := some 45 },
    { op := .mov (.t 5), dst := some 46, g := some (45, true) },
    { op := .bin .eql (.t 46) (.c (.int .i64 0)), dst := some 47, g := some (45, true) },
    { op := .pick (.t 45) (.t 47) (.c (.bool false)), dst := some 48 },
    { op := .mov (.t 48), dst := some 2 }]
def a24 : ACode := (.seq a24_r0 (.seq a24_r1 (.seq a24_r2 (.seq a24_r3 (.seq a24_r4 (.seq a24_r5 .ret))))))
def a24_res : List ARes := [.tmp 2]
theorem a24_ok : Coded Try.prog 24 49 a24 a24_res := ⟨Try.f24, _, by kernel_rfl, rfl, by kernel_rfl, rfl, by kernel_rfl, by kernel_rfl⟩
theorem a24_of {args : List AV} {Q : AV → Prop} (hl : args.length ≤ 49) (h : AW Try.prog 49 a24 (mkS (argT 0 args) [] 0) (retQ a24_res Q)) : ACall Try.prog 24 args Q := acall_coded a24_ok hl h

/- (*workflow/workflowlaw40.model).poll -/
def a25_r0 : ACode := .reg [{ op := .mov (.c (.bool false)), dst := some 2 }]
def a25_r1 : ACode := .draw [{ op := .mov (.t 0), dst := some 11 },
    { op := .nilc (.t 11), dst := some 12 },
    { op := .fad 0 (.t 12), dst := some 13 },
    { op := .load 2 true (.t 13), dst := some 14 },
    { op := .mov (.t 0), dst := some 15 },
    { op := .nilc (.t 15), dst := some 16 },
    { op := .fad 2 (.t 16), dst := some 17 },
    { op := .load 1 false (.t 17), dst := some 18 },
    { op := .call 13 [(.t 14), (.c (.str [104])), (.t 18), (.c (.int .i64 5))], dst := some 19 },
    { op := .mov (.t 19), dst := some 10 },
    { op := .ext (.t 10) 0, dst := some 20 },
    { op := .ext (.t 10) 1, dst := some 21 },
    { op := .ext (.t 10) 2, dst := some 22 },
    { op := .ext (.t 10) 3, dst := some 23 },
    { op := .alloc 2 true [.nils, .int .i64 0], dst := some 3, k := 15 },
    { op := .alloc 13 true [.int .i64 0, .int .i64 0, .int .i64 0, .int .i64 0, .int .i64 0, .int .i64 0, .str [], .str [], .str [], .str [], .int .i64 0, .int .i64 0, .int .i64 0], dst := some 4, k := 16 },
    { op := .store 2 true (.t 3) (.t 20), dst := none },
    { op := .store 13 true (.t 4) (.t 21), dst := none },
    { op := .mov (.t 22), dst := some 5 },
    { op := .mov (.t 23), dst := some 6 }]
    [(14, [3, 7]), (15, [3, 7])]
    (.take 0 (.take 1 (.take 2 (.take 3 (.take 4 (.take 5 (.take 6 (.take 7 (.three 8 (.take 9 (.take 10 (.take 11 (.take 12 (.take 13 (.two 14 (.one 15 (.one 16 (.one 17 (.take 18 (.take 19 (.done)))))) 15 (.one 14 (.one 16 (.one 17 (.take 18 (.take 19 (.done)))))))))))) 14 (.two 8 (.take 9 (.take 10 (.take 11 (.take 12 (.take 13 (.one 15 (.one 16 (.one 17 (.take 18 (.take 19 (.done))))))))))) 15 (.one 8 (.take 9 (.take 10 (.take 11 (.take 12 (.take 13 (.one 16 (.one 17 (.take 18 (.take 19 (.done)))))))))))) 15 (.two 8 (.take 9 (.take 10 (.take 11 (.take 12 (.take 13 (.one 14 (.one 16 (.one 17 (.take 18 (.take 19 (.done))))))))))) 14 (.one 8 (.take 9 (.take 10 (.take 11 (.take 12 (.take 13 (.one 16 (.one 17 (.take 18 (.take 19 (.done)))))))))))))))))))))
def a25_r2 : ACode := .reg [{ op := .mov (.t 6), dst := some 24 },
    { op := .bin .neq (.t 24) (.c (.int .i64 0)), dst := some 25 }]
def a25_r3 : ACode := .reg [{ op := .mov (.c (.bool false)), dst := some 2 }]
def a25_r4 : ACode := .reg [{ op := .mov (.t 0), dst := some 26 },
    { op := .load 2 true (.t 3), dst := some 27 },
    { op := .nilc (.t 26), dst := some 28 },
    { op := .fad 0 (.t 28), dst := some 29 },
    { op := .store 2 true (.t 29) (.t 27), dst := none }]
def a25_r5 : ACode := .reg [{ op := .mov (.t 5), dst := some 30 },
    { op := .not (.t 30), dst := some 31 }]
def a25_r6 : ACode := .reg [{ op := .mov (.c (.bool true)), dst := some 2 }]
def a25_r7 : ACode := .reg [{ op := .fad 0 (.t 4), dst := some 32 },
    { op := .fad 0 (.t 32), dst := some 33 },
    { op := .load 1 false (.t 33), dst := some 34 },
    { op := .bin .sub (.t 34) (.c (.int .i64 1)), dst := some 35 },
    { op := .mov (.t 35), dst := some 7 }]
def a25_r8 : ACode := .draw [{ op := .mov (.t 7), dst := some 36 },
    { op := .bin .lss (.t 36) (.c (.int .i64 0)), dst := some 37 },
    { op := .mov (.t 37), dst := some 38 },
    { op := .mov (.t 7), dst := some 39, g := some (38, false) },
    { op := .mov (.t 0), dst := some 40, g := some (38, false) },
    { op := .nilc (.t 40), dst := some 41, g := some (38, false) },
    { op := .fad 4 (.t 41), dst := some 42, g := some (38, false) },
    { op := .load 1 false (.t 42), dst := some 43, g := some (38, false) },
    { op := .len false (.t 43), dst := some 44, g := some (38, false) },
    { op := .bin .geq (.t 39) (.t 44), dst := some 45, g := some (38, false) },
    { op := .pick (.t 38) (.c (.bool true)) (.t 45), dst := some 46 },
    { op := .mov (.t 46), dst := some 47 },
    { op := .mov (.t 0), dst := some 48, g := some (47, false) },
    { op := .nilc (.t 48), dst := some 49, g := some (47, false) },
    { op := .fad 4 (.t 49), dst := some 50, g := some (47, false) },
    { op := .load 1 false (.t 50), dst := some 51, g := some (47, false) },
    { op := .mov (.t 7), dst := some 52, g := some (47, false) },
    { op := .iad 1 (.t 51) (.t 52), dst := some 53, g := some (47, false) },
    { op := .load 1 false (.t 53), dst := some 54, g := some (47, false) },
    { op := .bin .lss (.t 54) (.c (.int .i64 0)), dst := some 55, g := some (47, false) },
    { op := .pick (.t 47) (.c (.bool true)) (.t 55), dst := some 56 },
    { op := .mov (.t 56), dst := some 57 },
    { op := .mov (.t 0), dst := some 58, g := some (57, false) },
    { op := .nilc (.t 58), dst := some 59, g := some (57, false) },
    { op := .fad 4 (.t 59), dst := some 60, g := some (57, false) },
    { op := .load 1 false (.t 60), dst := some 61, g := some (57, false) },
    { op := .mov (.t 7), dst := some 62, g := some (57, false) },
    { op := .iad 1 (.t 61) (.t 62), dst := some 63, g := some (57, false) },
    { op := .load 1 false (.t 63), dst := some 64, g := some (57, false) },
    { op := .mov (.t 0), dst := some 65, g := some (57, false) },
    { op := .nilc (.t 65), dst := some 66, g := some (57, false) },
    { op := .fad 2 (.t 66), dst := some 67, g := some (57, false) },
    { op := .load 1 false (.t 67), dst := some 68, g := some (57, false) },
    { op := .bin .gtr (.t 64) (.t 68), dst := some 69, g := some (57, false) },
    { op := .pick (.t 57) (.c (.bool true)) (.t 69), dst := some 70 }]
    []
    (.take 0 (.take 1 (.take 2 (.take 3 (.take 4 (.take 5 (.take 6 (.take 7 (.take 8 (.take 9 (.take 10 (.take 11 (.take 12 (.take 13 (.take 14 (.take 15 (.take 16 (.take 17 (.take 18 (.take 19 (.take 20 (.take 21 (.take 22 (.take 23 (.take 24 (.take 25 (.take 26 (.take 27 (.take 28 (.take 29 (.take 30 (.take 31 (.take 32 (.take 33 (.take 34 (.done))))))))))))))))))))))))))))))))))))
def a25_r9 : ACode := .reg [{ op := .mov (.c (.bool false)), dst := some 2 }]
def a25_r10 : ACode := .reg [{ op := .mov (.t 0), dst := some 71 },
    { op := .nilc (.t 71), dst := some 72 },
    { op := .fad 3 (.t 72), dst := some 73 },
    { op := .load 1 false (.t 73), dst := some 74 },
    { op := .len false (.t 74), dst := some 75 },
    { op := .mov (.c (.int .i64 0)), dst := some 76 }]
def a25_r11 : ACode := .reg [{ op := .bin .lss (.t 76) (.t 75), dst := some 77 }]
def a25_r12 : ACode := .reg [{ op := .iad 1 (.t 74) (.t 76), dst := some 78 },
    { op := .load 1 false (.t 78), dst := some 79 },
    { op := .mov (.t 79), dst := some 9 }]
def a25_r13 : ACode := .reg [{ op := .mov (.t 9), dst := some 80 },
    { op := .fad 10 (.t 4), dst := some 81 },
    { op := .load 1 false (.t 81), dst := some 82 },
    { op := .bin .eql (.t 80) (.t 82), dst := some 83 }]
def a25_r14 : ACode := .reg [{ op := .mov (.c (.bool false)), dst := some 2 }]
def a25_r15 : ACode := .reg [{ op := .bin .add (.t 76) (.c (.int .i64 1)), dst := some 84 },
    { op := .mov (.t 84), dst := some 76 }]
def a25_l0 : ACode := (.seq a25_r11 (.seq (.cond (.t 77) .skip (.exit 0)) (.seq (.block 1 (.seq a25_r12 (.seq a25_r13 (.cond (.t 83) (.seq a25_r14 .ret) .skip)))) a25_r15)))
def a25_r16 : ACode := .draw [{ op := .mov (.t 0), dst := some 85 },
    { op := .mov (.t 0), dst := some 86 },
    { op := .nilc (.t 86), dst := some 87 },
    { op := .fad 3 (.t 87), dst := some 88 },
    { op := .load 1 false (.t 88), dst := some 89 },
    { op := .fad 10 (.t 4), dst := some 90 },
    { op := .load 1 false (.t 90), dst := some 91 },
    { op := .bsl 1 false 1 [.int .i64 0] [(0, (.t 91))], dst := some 92 },
    { op := .app 1 8 (.t 89) (.t 92), dst := some 93, k := 98 },
    { op := .nilc (.t 85), dst := some 94 },
    { op := .fad 3 (.t 94), dst := some 95 },
    { op := .store 1 false (.t 95) (.t 93), dst := none }]
    []
    (.take 0 (.take 1 (.take 2 (.take 3 (.take 4 (.take 5 (.take 6 (.take 7 (.one 8 (.take 9 (.take 10 (.one 11 (.done)))))))))))))
def a25_r17 : ACode := .draw [{ op := .mov (.t 0), dst := some 96 },
    { op := .nilc (.t 96), dst := some 97 },
    { op := .fad 4 (.t 97), dst := some 98 },
    { op := .load 1 false (.t 98), dst := some 99 },
    { op := .mov (.t 7), dst := some 100 },
    { op := .mov (.t 0), dst := some 101 },
    { op := .nilc (.t 101), dst := some 102 },
    { op := .fad 2 (.t 102), dst := some 103 },
    { op := .load 1 false (.t 103), dst := some 104 },
    { op := .bin .add (.t 104) (.c (.int .i64 5)), dst := some 105 },
    { op := .iad 1 (.t 99) (.t 100), dst := some 106 },
    { op := .store 1 false (.t 106) (.t 105), dst := none }]
    []
    (.take 0 (.take 1 (.take 2 (.take 3 (.take 4 (.take 5 (.take 6 (.take 7 (.take 8 (.take 9 (.take 10 (.one 11 (.done)))))))))))))
def a25_r18 : ACode := .draw [{ op := .mov (.t 0), dst := some 107 },
    { op := .nilc (.t 107), dst := some 108 },
    { op := .fad 5 (.t 108), dst := some 109 },
    { op := .load 1 false (.t 109), dst := some 110 },
    { op := .mov (.t 7), dst := some 111 },
    { op := .fad 10 (.t 4), dst := some 112 },
    { op := .load 1 false (.t 112), dst := some 113 },
    { op := .iad 1 (.t 110) (.t 111), dst := some 114 },
    { op := .store 1 false (.t 114) (.t 113), dst := none }]
    []
    (.take 0 (.take 1 (.take 2 (.take 3 (.take 4 (.take 5 (.take 6 (.take 7 (.one 8 (.done))))))))))
def a25_r19 : ACode := .reg [{ op := .mov (.c (.bool true)), dst := some 2 }]
def a25 : ACode := (.seq a25_r0 (.seq a25_r1 (.seq (.seq a25_r2 (.cond (.t 25) (.seq a25_r3 .ret) .skip)) (.seq a25_r4 (.seq (.seq a25_r5 (.cond (.t 31) (.seq a25_r6 .ret) .skip)) (.seq a25_r7 (.seq (.seq a25_r8 (.cond (.t 70) (.seq a25_r9 .ret) .skip)) (.seq (.seq a25_r10 (.block 0 (.loop a25_l0))) (.seq a25_r16 (.seq a25_r17 (.seq a25_r18 (.seq a25_r19 .ret))))))))))))
def a25_res : List ARes := [.tmp 2]
theorem a25_ok : Coded Try.prog 25 115 a25 a25_res := ⟨Try.f25, _, by kernel_rfl, rfl, by kernel_rfl, rfl, by kernel_rfl, by kernel_rfl⟩
theorem a25_of {args : List AV} {Q : AV → Prop} (hl : args.length ≤ 115) (h : AW Try.prog 115 a25 (mkS (argT 0 args) [] 0) (retQ a25_res Q)) : ACall Try.prog 25 args Q := acall_coded a25_ok hl h

/- (*workflow/workflowlaw40.model).report -/
def a26_r0 : ACode := .reg [{ op := .box 3 true (.t 1), dst := some 3, k := 0 },
    { op := .mov (.c (.bool false)), dst := some 4 }]
def a26_r1 : ACode := .reg [{ op := .mov (.c (.int .i64 0)), dst := some 5 },
    { op := .mov (.c (.int .i64 (-1))), dst := some 6 }]
def a26_r2 : ACode := .reg [{ op := .mov (.t 0), dst := some 12 },
    { op := .nilc (.t 12), dst := some 13 },
    { op := .fad 3 (.t 13), dst := some 14 },
    { op := .load 1 false (.t 14), dst := some 15 },
    { op := .len false (.t 15), dst := some 16 },
    { op := .bin .gtr (.t 16) (.c (.int .i64 0)), dst := some 17 },
    { op := .mov (.t 17), dst := some 18 },
    { op := .fad 1 (.t 3), dst := some 19, g := some (18, true) },
    { op := .load 1 false (.t 19), dst := some 20, g := some (18, true) },
    { op := .bin .geq (.t 20) (.c (.int .i64 0)), dst := some 21, g := some (18, true) },
    { op := .pick (.t 18) (.t 21) (.c (.bool false)), dst := some 22 }]
def a26_r3 : ACode := .draw [{ op := .mov (.t 0), dst := some 23 },
    { op := .nilc (.t 23), dst := some 24 },
    { op := .fad 3 (.t 24), dst := some 25 },
    { op := .load 1 false (.t 25), dst := some 26 },
    { op := .fad 1 (.t 3), dst := some 27 },
    { op := .load 1 false (.t 27), dst := some 28 },
    { op := .mov (.t 0), dst := some 29 },
    { op := .nilc (.t 29), dst := some 30 },
    { op := .fad 3 (.t 30), dst := some 31 },
    { op := .load 1 false (.t 31), dst := some 32 },
    { op := .len false (.t 32), dst := some 33 },
    { op := .bin .rem (.t 28) (.t 33), dst := some 34 },
    { op := .iad 1 (.t 26) (.t 34), dst := some 35 },
    { op := .load 1 false (.t 35), dst := some 36 },
    { op := .mov (.t 36), dst := some 5 }]
    []
    (.take 0 (.take 1 (.take 2 (.take 3 (.take 4 (.take 5 (.take 6 (.take 7 (.take 8 (.take 9 (.take 10 (.take 11 (.take 12 (.take 13 (.take 14 (.done))))))))))))))))
def a26_r4 : ACode := .reg [{ op := .mov (.t 0), dst := some 37 },
    { op := .nilc (.t 37), dst := some 38 },
    { op := .fad 5 (.t 38), dst := some 39 },
    { op := .load 1 false (.t 39), dst := some 40 },
    { op := .len false (.t 40), dst := some 41 },
    { op := .mov (.c (.int .i64 0)), dst := some 42 }]
def a26_r5 : ACode := .reg [{ op := .bin .lss (.t 42) (.t 41), dst := some 43 }]
def a26_r6 : ACode := .reg [{ op := .mov (.t 42), dst := some 44 },
    { op := .iad 1 (.t 40) (.t 42), dst := some 45 },
    { op := .load 1 false (.t 45), dst := some 46 },
    { op := .mov (.t 44), dst := some 7 },
    { op := .mov (.t 46), dst := some 8 }]
def a26_r7 : ACode := .reg [{ op := .mov (.t 8), dst := some 47 },
    { op := .mov (.t 5), dst := some 48 },
    { op := .bin .eql (.t 47) (.t 48), dst := some 49 },
    { op := .mov (.t 49), dst := some 50 },
    { op := .mov (.t 5), dst := some 51, g := some (50, true) },
    { op := .bin .gtr (.t 51) (.c (.int .i64 0)), dst := some 52, g := some (50, true) },
    { op := .pick (.t 50) (.t 52) (.c (.bool false)), dst := some 53 },
    { op := .mov (.t 53), dst := some 54 },
    { op := .mov (.t 0), dst := some 55, g := some (54, true) },
    { op := .nilc (.t 55), dst := some 56, g := some (54, true) },
    { op := .fad 4 (.t 56), dst := some 57, g := some (54, true) },
    { op := .load 1 false (.t 57), dst := some 58, g := some (54, true) },
    { op := .mov (.t 7), dst := some 59, g := some (54, true) },
    { op := .iad 1 (.t 58) (.t 59), dst := some 60, g := some (54, true) },
    { op := .load 1 false (.t 60), dst := some 61, g := some (54, true) },
    { op := .bin .geq (.t 61) (.c (.int .i64 0)), dst := some 62, g := some (54, true) },
    { op := .pick (.t 54) (.t 62) (.c (.bool false)), dst := some 63 }]
def a26_r8 : ACode := .reg [{ op := .mov (.t 7), dst := some 64 },
    { op := .mov (.t 64), dst := some 6 }]
def a26_r9 : ACode := .reg [{ op := .bin .add (.t 42) (.c (.int .i64 1)), dst := some 65 },
    { op := .mov (.t 65), dst := some 42 }]
def a26_l0 : ACode := (.seq a26_r5 (.seq (.cond (.t 43) .skip (.exit 0)) (.seq (.block 1 (.seq a26_r6 (.seq a26_r7 (.cond (.t 63) a26_r8 .skip)))) a26_r9)))
def a26_r10 : ACode := .draw [{ op := .mov (.t 0), dst := some 67 },
    { op := .nilc (.t 67), dst := some 68 },
    { op := .fad 0 (.t 68), dst := some 69 },
    { op := .load 2 true (.t 69), dst := some 70 },
    { op := .fad 0 (.t 3), dst := some 71 },
    { op := .load 1 false (.t 71), dst := some 72 },
    { op := .mov (.t 5), dst := some 73 },
    { op := .mov (.t 0), dst := some 74 },
    { op := .nilc (.t 74), dst := some 75 },
    { op := .fad 2 (.t 75), dst := some 76 },
    { op := .load 1 false (.t 76), dst := some 77 },
    { op := .call 42 [(.t 70), (.t 72), (.t 73), (.t 77)], dst := some 78 },
    { op := .mov (.t 78), dst := some 66 },
    { op := .ext (.t 66) 0, dst := some 79 },
    { op := .ext (.t 66) 1, dst := some 80 },
    { op := .alloc 2 true [.nils, .int .i64 0], dst := some 9, k := 78 },
    { op := .store 2 true (.t 9) (.t 79), dst := none },
    { op := .mov (.t 80), dst := some 10 }]
    [(15, [3, 5, 10])]
    (.take 0 (.take 1 (.take 2 (.take 3 (.take 4 (.take 5 (.take 6 (.take 7 (.take 8 (.take 9 (.take 10 (.two 11 (.take 12 (.take 13 (.take 14 (.one 15 (.one 16 (.take 17 (.done))))))) 15 (.one 11 (.take 12 (.take 13 (.take 14 (.one 16 (.take 17 (.done)))))))))))))))))))
def a26_r11 : ACode := .draw [{ op := .mov (.t 6), dst := some 81 },
    { op := .bin .geq (.t 81) (.c (.int .i64 0)), dst := some 82 },
    { op := .mov (.t 82), dst := some 83 },
    { op := .fad 0 (.t 3), dst := some 84, g := some (83, true) },
    { op := .load 1 false (.t 84), dst := some 85, g := some (83, true) },
    { op := .bin .neq (.t 85) (.c (.int .i64 4)), dst := some 86, g := some (83, true) },
    { op := .mov (.t 86), dst := some 87, g := some (83, true) },
    { op := .mov (.t 0), dst := some 88, g := some (87, false) },
    { op := .nilc (.t 88), dst := some 89, g := some (87, false) },
    { op := .fad 2 (.t 89), dst := some 90, g := some (87, false) },
    { op := .load 1 false (.t 90), dst := some 91, g := some (87, false) },
    { op := .mov (.t 0), dst := some 92, g := some (87, false) },
    { op := .nilc (.t 92), dst := some 93, g := some (87, false) },
    { op := .fad 4 (.t 93), dst := some 94, g := some (87, false) },
    { op := .load 1 false (.t 94), dst := some 95, g := some (87, false) },
    { op := .mov (.t 6), dst := some 96, g := some (87, false) },
    { op := .iad 1 (.t 95) (.t 96), dst := some 97, g := some (87, false) },
    { op := .load 1 false (.t 97), dst := some 98, g := some (87, false) },
    { op := .bin .lss (.t 91) (.t 98), dst := some 99, g := some (87, false) },
    { op := .pick (.t 87) (.c (.bool true)) (.t 99), dst := some 100, g := some (83, true) },
    { op := .pick (.t 83) (.t 100) (.c (.bool false)), dst := some 101 },
    { op := .mov (.t 101), dst := some 11 }]
    []
    (.take 0 (.take 1 (.take 2 (.take 3 (.take 4 (.take 5 (.take 6 (.take 7 (.take 8 (.take 9 (.take 10 (.take 11 (.take 12 (.take 13 (.take 14 (.take 15 (.take 16 (.take 17 (.take 18 (.take 19 (.take 20 (.take 21 (.done)))))))))))))))))))))))
def a26_r12 : ACode := .reg [{ op := .mov (.t 10), dst := some 102 },
    { op := .bin .eql (.t 102) (.c (.int .i64 0)), dst := some 103 },
    { op := .mov (.t 11), dst := some 104 },
    { op := .eqb true (.t 103) (.t 104), dst := some 105 }]
def a26_r13 : ACode := .reg [{ op := .mov (.c (.bool false)), dst := some 4 }]
def a26_r14 : ACode := .reg [{ op := .mov (.t 11), dst := some 106 },
    { op := .not (.t 106), dst := some 107 }]
def a26_r15 : ACode := .reg [{ op := .mov (.c (.bool true)), dst := some 4 }]
def a26_r16 : ACode := .reg [{ op := .mov (.t 0), dst := some 108 },
    { op := .load 2 true (.t 9), dst := some 109 },
    { op := .nilc (.t 108), dst := some 110 },
    { op := .fad 0 (.t 110), dst := some 111 },
    { op := .store 2 true (.t 111) (.t 109), dst := none }]
def a26_r17 : ACode := .reg [{ op := .fad 0 (.t 3), dst := some 112 },
    { op := .load 1 false (.t 112), dst := some 113 }]
def a26_r20 : ACode := .reg [{ op := .bin .eql (.t 113) (.c (.int .i64 2)), dst := some 127 },
    { op := .mov (.t 127), dst := some 126 }]
def a26_r21 : ACode := .reg [{ op := .mov (.t 0), dst := some 128 },
    { op := .nilc (.t 128), dst := some 129 },
    { op := .fad 4 (.t 129), dst := some 130 },
    { op := .load 1 false (.t 130), dst := some 131 },
    { op := .mov (.t 6), dst := some 132 },
    { op := .iad 1 (.t 131) (.t 132), dst := some 133 },
    { op := .store 1 false (.t 133) (.c (.int .i64 (-1))), dst := none }]
def a26_r22 : ACode := .reg [{ op := .bin .eql (.t 113) (.c (.int .i64 4)), dst := some 135 },
    { op := .mov (.t 135), dst := some 134 }]
def a26_r23 : ACode := .draw [{ op := .mov (.t 0), dst := some 136 },
    { op := .nilc (.t 136), dst := some 137 },
    { op := .fad 4 (.t 137), dst := some 138 },
    { op := .load 1 false (.t 138), dst := some 139 },
    { op := .mov (.t 6), dst := some 140 },
    { op := .mov (.t 0), dst := some 141 },
    { op := .nilc (.t 141), dst := some 142 },
    { op := .fad 2 (.t 142), dst := some 143 },
    { op := .load 1 false (.t 143), dst := some 144 },
    { op := .bin .add (.t 144) (.c (.int .i64 5)), dst := some 145 },
    { op := .iad 1 (.t 139) (.t 140), dst := some 146 },
    { op := .store 1 false (.t 146) (.t 145), dst := none }]
    []
    (.take 0 (.take 1 (.take 2 (.take 3 (.take 4 (.take 5 (.take 6 (.take 7 (.take 8 (.take 9 (.take 10 (.one 11 (.done)))))))))))))
def a26_r18 : ACode := .reg [{ op := .mov (.t 0), dst := some 114 },
    { op := .nilc (.t 114), dst := some 115 },
    { op := .fad 4 (.t 115), dst := some 116 },
    { op := .load 1 false (.t 116), dst := some 117 },
    { op := .mov (.t 6), dst := some 118 },
    { op := .iad 1 (.t 117) (.t 118), dst := some 119 },
    { op := .store 1 false (.t 119) (.c (.int .i64 0)), dst := none }]
def a26_r19 : ACode := .reg [{ op := .mov (.t 0), dst := some 120 },
    { op := .nilc (.t 120), dst := some 121 },
    { op := .fad 5 (.t 121), dst := some 122 },
    { op := .load 1 false (.t 122), dst := some 123 },
    { op := .mov (.t 6), dst := some 124 },
    { op := .iad 1 (.t 123) (.t 124), dst := some 125 },
    { op := .store 1 false (.t 125) (.c (.int .i64 0)), dst := none }]
def a26_r24 : ACode := .reg [{ op := .mov (.c (.bool true)), dst := some 4 }]
def a26 : ACode := (.seq a26_r0 (.seq a26_r1 (.seq (.seq a26_r2 (.cond (.t 22) a26_r3 .skip)) (.seq (.seq a26_r4 (.block 0 (.loop a26_l0))) (.seq a26_r10 (.seq a26_r11 (.seq (.seq a26_r12 (.cond (.t 105) (.seq a26_r13 .ret) .skip)) (.seq (.seq a26_r14 (.cond (.t 107) (.seq a26_r15 .ret) .skip)) (.seq a26_r16 (.seq (.seq a26_r17 (.block 2 (.seq a26_r20 (.cond (.t 126) a26_r21 (.seq a26_r22 (.cond (.t 134) a26_r23 (.seq a26_r18 a26_r19))))))) (.seq a26_r24 .ret)))))))))))
def a26_res : List ARes := [.tmp 4]
theorem a26_ok : Coded Try.prog 26 147 a26 a26_res := ⟨Try.f26, _, by kernel_rfl, rfl, by kernel_rfl, rfl, by kernel_rfl, by kernel_rfl⟩
theorem a26_of {args : List AV} {Q : AV → Prop} (hl : args.length ≤ 147) (h : AW Try.prog 147 a26 (mkS (argT 0 args) [] 0) (retQ a26_res Q)) : ACall Try.prog 26 args Q := acall_coded a26_ok hl h

/- workflow/workflowlaw40.TaskqueueOnce -/
def a6_r0 : ACode := .reg [{ op := .mov (.c (.bool false)), dst := some 2 }]
def a6_r1 : ACode := .reg [{ op := .mov (.t 0), dst := some 10 },
    { op := .len false (.t 10), dst := some 11 },
    { op := .bin .gtr (.t 11) (.c (.int .i64 60)), dst := some 12 }]
def a6_r2 : ACode := .reg [{ op := .call 8 [], dst := some 13 },
    { op := .mov (.t 13), dst := some 2 }]
def a6_r3 : ACode := .reg [{ op := .build [.nils, .int .i64 0, .int .i64 0, .nils, .nils, .nils] [], dst := some 14 },
    { op := .box 6 true (.t 14), dst := some 15, k := 7 },
    { op := .mov (.t 15), dst := some 3 }]
def a6_r4 : ACode := .reg [{ op := .mov (.t 0), dst := some 16 },
    { op := .len false (.t 16), dst := some 17 },
    { op := .mov (.c (.int .i64 0)), dst := some 18 }]
def a6_r5 : ACode := .reg [{ op := .bin .lss (.t 18) (.t 17), dst := some 19 }]
def a6_r6 : ACode := .reg [{ op := .iad 3 (.t 16) (.t 18), dst := some 20 },
    { op := .load 3 true (.t 20), dst := some 21 },
    { op := .alloc 3 true [.int .i64 0, .int .i64 0, .int .i64 0], dst := some 5, k := 15 },
    { op := .store 3 true (.t 5) (.t 21), dst := none }]
def a6_r7 : ACode := .draw [{ op := .mov (.t 3), dst := some 22 },
    { op := .mov (.t 3), dst := some 23 },
    { op := .nilc (.t 23), dst := some 24 },
    { op := .fad 2 (.t 24), dst := some 25 },
    { op := .load 1 false (.t 25), dst := some 26 },
    { op := .fad 2 (.t 5), dst := some 27 },
    { op := .load 1 false (.t 27), dst := some 28 },
    { op := .bin .and (.t 28) (.c (.int .i64 7)), dst := some 29 },
    { op := .bin .add (.t 26) (.t 29), dst := some 30 },
    { op := .nilc (.t 22), dst := some 31 },
    { op := .fad 2 (.t 31), dst := some 32 },
    { op := .store 1 false (.t 32) (.t 30), dst := none }]
    []
    (.take 0 (.take 1 (.take 2 (.take 3 (.take 4 (.take 5 (.take 6 (.take 7 (.take 8 (.take 9 (.take 10 (.one 11 (.done)))))))))))))
def a6_r8 : ACode := .reg [{ op := .mov (.c (.bool true)), dst := some 6 }]
def a6_r9 : ACode := .reg [{ op := .fad 0 (.t 5), dst := some 33 },
    { op := .load 1 false (.t 33), dst := some 34 }]
def a6_r11 : ACode := .reg [{ op := .bin .eql (.t 34) (.c (.int .i64 0)), dst := some 39 },
    { op := .mov (.t 39), dst := some 38 }]
def a6_r12 : ACode := .reg [{ op := .mov (.t 3), dst := some 40 },
    { op := .call 24 [(.t 40)], dst := some 41 },
    { op := .mov (.t 41), dst := some 6 }]
def a6_r13 : ACode := .reg [{ op := .bin .eql (.t 34) (.c (.int .i64 1)), dst := some 43 },
    { op := .mov (.t 43), dst := some 42 }]
def a6_r14 : ACode := .reg [{ op := .mov (.t 3), dst := some 44 },
    { op := .call 25 [(.t 44)], dst := some 45 },
    { op := .mov (.t 45), dst := some 6 }]
def a6_r10 : ACode := .reg [{ op := .mov (.t 3), dst := some 35 },
    { op := .load 3 true (.t 5), dst := some 36 },
    { op := .call 26 [(.t 35), (.t 36)], dst := some 37 },
    { op := .mov (.t 37), dst := some 6 }]
def a6_r15 : ACode := .reg [{ op := .mov (.t 6), dst := some 46 },
    { op := .not (.t 46), dst := some 47 }]
def a6_r16 : ACode := .reg [{ op := .mov (.c (.bool false)), dst := some 2 }]
def a6_r17 : ACode := .reg [{ op := .bin .add (.t 18) (.c (.int .i64 1)), dst := some 48 },
    { op := .mov (.t 48), dst := some 18 }]
def a6_l0 : ACode := (.seq a6_r5 (.seq (.cond (.t 19) .skip (.exit 0)) (.seq (.block 1 (.seq a6_r6 (.seq a6_r7 (.seq a6_r8 (.seq (.seq a6_r9 (.block 2 (.seq a6_r11 (.cond (.t 38) a6_r12 (.seq a6_r13 (.cond (.t 42) a6_r14 a6_r10)))))) (.seq a6_r15 (.cond (.t 47) (.seq a6_r16 .ret) .skip))))))) a6_r17)))
def a6_r18 : ACode := .draw [{ op := .mov (.t 3), dst := some 49 },
    { op := .nilc (.t 49), dst := some 50 },
    { op := .fad 0 (.t 50), dst := some 51 },
    { op := .load 2 true (.t 51), dst := some 52 },
    { op := .mov (.t 3), dst := some 53 },
    { op := .nilc (.t 53), dst := some 54 },
    { op := .fad 2 (.t 54), dst := some 55 },
    { op := .load 1 false (.t 55), dst := some 56 },
    { op := .call 16 [(.t 52), (.t 56)], dst := some 57 },
    { op := .mov (.t 57), dst := some 7 }]
    []
    (.take 0 (.take 1 (.take 2 (.take 3 (.take 4 (.take 5 (.take 6 (.take 7 (.one 8 (.take 9 (.done)))))))))))
def a6_r19 : ACode := .reg [{ op := .mov (.t 3), dst := some 58 },
    { op := .nilc (.t 58), dst := some 59 },
    { op := .fad 4 (.t 59), dst := some 60 },
    { op := .load 1 false (.t 60), dst := some 61 },
    { op := .len false (.t 61), dst := some 62 },
    { op := .mov (.c (.int .i64 0)), dst := some 63 }]
def a6_r20 : ACode := .reg [{ op := .bin .lss (.t 63) (.t 62), dst := some 64 }]
def a6_r21 : ACode := .reg [{ op := .mov (.t 63), dst := some 65 },
    { op := .iad 1 (.t 61) (.t 63), dst := some 66 },
    { op := .load 1 false (.t 66), dst := some 67 },
    { op := .mov (.t 65), dst := some 8 },
    { op := .mov (.t 67), dst := some 9 }]
def a6_r22 : ACode := .reg [{ op := .mov (.t 7), dst := some 68 },
    { op := .mov (.t 8), dst := some 69 },
    { op := .bin .add (.t 69) (.c (.int .i64 1)), dst := some 70 },
    { op := .call 28 [(.t 70), (.c (.int .i64 0))], dst := some 71 },
    { op := .call 27 [(.t 68), (.t 71)], dst := some 72 },
    { op := .mov (.t 9), dst := some 73 },
    { op := .bin .geq (.t 73) (.c (.int .i64 0)), dst := some 74 },
    { op := .mov (.t 74), dst := some 75 },
    { op := .mov (.t 9), dst := some 76, g := some (75, true) },
    { op := .mov (.t 3), dst := some 77, g := some (75, true) },
    { op := .nilc (.t 77), dst := some 78, g := some (75, true) },
    { op := .fad 2 (.t 78), dst := some 79, g := some (75, true) },
    { op := .load 1 false (.t 79), dst := some 80, g := some (75, true) },
    { op := .bin .leq (.t 76) (.t 80), dst := some 81, g := some (75, true) },
    { op := .pick (.t 75) (.t 81) (.c (.bool false)), dst := some 82 },
    { op := .eqb true (.t 72) (.t 82), dst := some 83 }]
def a6_r23 : ACode := .reg [{ op := .mov (.c (.bool false)), dst := some 2 }]
def a6_r24 : ACode := .reg [{ op := .bin .add (.t 63) (.c (.int .i64 1)), dst := some 84 },
    { op := .mov (.t 84), dst := some 63 }]
def a6_l1 : ACode := (.seq a6_r20 (.seq (.cond (.t 64) .skip (.exit 3)) (.seq (.block 4 (.seq a6_r21 (.seq a6_r22 (.cond (.t 83) (.seq a6_r23 .ret) .skip)))) a6_r24)))
def a6_r25 : ACode := .reg [{ op := .call 8 [], dst := some 85 },
    { op := .mov (.t 85), dst := some 2 }]
def a6 : ACode := (.seq a6_r0 (.seq (.seq a6_r1 (.cond (.t 12) (.seq a6_r2 .ret) .skip)) (.seq a6_r3 (.seq (.seq a6_r4 (.block 0 (.loop a6_l0))) (.seq a6_r18 (.seq (.seq a6_r19 (.block 3 (.loop a6_l1))) (.seq a6_r25 .ret)))))))
def a6_res : List ARes := [.tmp 2]
theorem a6_ok : Coded Try.prog 6 86 a6 a6_res := ⟨Try.f6, _, by kernel_rfl, rfl, by kernel_rfl, rfl, by kernel_rfl, by kernel_rfl⟩
theorem a6_of {args : List AV} {Q : AV → Prop} (hl : args.length ≤ 86) (h : AW Try.prog 86 a6 (mkS (argT 0 args) [] 0) (retQ a6_res Q)) : ACall Try.prog 6 args Q := acall_coded a6_ok hl h
end Go.Proofs.Ytloccbmiojhabaa
