/- The abstract code of the functions, checked. -/
import Derived.Test.YtljahaeachdjmaaA4
import Derived.Test.YtljahaeachdjmaaProg
import Derived.KernelRfl

namespace Go.Proofs.Ytljahaeachdjmaa
open Go Go.Amb

/- slices.SortFunc[[]workflow/timers.Item,workflow/timers.Item] -/
def a34_r0 : ACode := .reg [{ op := .mov (.t 0), dst := some 5 },
    { op := .len false (.t 5), dst := some 6 },
    { op := .mov (.t 6), dst := some 4 }]
def a34_r1 : ACode := .reg [{ op := .mov (.t 0), dst := some 7 },
    { op := .mov (.t 4), dst := some 8 },
    { op := .mov (.t 4), dst := some 9 },
    { op := .conv .u64 (.t 9), dst := some 10 },
    { op := .call 41 [(.t 10)], dst := some 11 },
    { op := .mov (.t 1), dst := some 12 },
    { op := .call 40 [(.t 7), (.c (.int .i64 0)), (.t 8), (.t 11), (.t 12)], dst := some 13 }]
def a34 : ACode := (.seq a34_r0 a34_r1)
def a34_res : List ARes := []
theorem a34_ok : Coded Try.prog 34 14 a34 a34_res := ⟨Try.f34, _, by kernel_rfl, rfl, by kernel_rfl, rfl, by kernel_rfl, by kernel_rfl⟩
theorem a34_of {args : List AV} {Q : AV → Prop} (hl : args.length ≤ 14) (h : AW Try.prog 14 a34 (mkS (argT 0 args) [] 0) (retQ a34_res Q)) : ACall Try.prog 34 args Q := acall_coded a34_ok hl h

/- (*workflow/timers.Queue).Items$1 -/
def a35_r0 : ACode := .reg [{ op := .box 2 true (.t 0), dst := some 2, k := 0 },
    { op := .box 2 true (.t 1), dst := some 3, k := 1 },
    { op := .mov (.c (.int .i64 0)), dst := some 4 }]
def a35_r1 : ACode := .reg [{ op := .load 2 true (.t 2), dst := some 5 },
    { op := .load 2 true (.t 3), dst := some 6 },
    { op := .call 36 [(.t 5), (.t 6)], dst := some 7 }]
def a35_r2 : ACode := .reg [{ op := .mov (.c (.int .i64 (-1))), dst := some 4 }]
def a35_r3 : ACode := .reg [{ op := .mov (.c (.int .i64 1)), dst := some 4 }]
def a35 : ACode := (.seq a35_r0 (.seq (.seq a35_r1 (.cond (.t 7) (.seq a35_r2 .ret) .skip)) (.seq a35_r3 .ret)))
def a35_res : List ARes := [.tmp 4]
theorem a35_ok : Coded Try.prog 35 8 a35 a35_res := ⟨Try.f35, _, by kernel_rfl, rfl, by kernel_rfl, rfl, by kernel_rfl, by kernel_rfl⟩
theorem a35_of {args : List AV} {Q : AV → Prop} (hl : args.length ≤ 8) (h : AW Try.prog 8 a35 (mkS (argT 0 args) [] 0) (retQ a35_res Q)) : ACall Try.prog 35 args Q := acall_coded a35_ok hl h

/- slices.pdqsortCmpFunc[workflow/timers.Item] -/
def a40_r0 : ACode := .reg [{ op := .mov (.c (.bool true)), dst := some 10 }]
def a40_r1 : ACode := .reg [{ op := .mov (.c (.bool true)), dst := some 11 }]
def a40_r2 : ACode := .reg [{ op := .mov (.t 2), dst := some 21 },
    { op := .mov (.t 1), dst := some 22 },
    { op := .bin .sub (.t 21) (.t 22), dst := some 23 },
    { op := .mov (.t 23), dst := some 12 }]
def a40_r3 : ACode := .reg [{ op := .mov (.t 12), dst := some 24 },
    { op := .bin .leq (.t 24) (.c (.int .i64 12)), dst := some 25 }]
def a40_r4 : ACode := .reg [{ op := .mov (.t 0), dst := some 26 },
    { op := .mov (.t 1), dst := some 27 },
    { op := .mov (.t 2), dst := some 28 },
    { op := .mov (.t 4), dst := some 29 },
    { op := .call 42 [(.t 26), (.t 27), (.t 28), (.t 29)], dst := some 30 }]
def a40_r5 : ACode := .reg [{ op := .mov (.t 3), dst := some 31 },
    { op := .bin .eql (.t 31) (.c (.int .i64 0)), dst := some 32 }]
def a40_r6 : ACode := .reg [{ op := .mov (.t 0), dst := some 33 },
    { op := .mov (.t 1), dst := some 34 },
    { op := .mov (.t 2), dst := some 35 },
    { op := .mov (.t 4), dst := some 36 },
    { op := .call 43 [(.t 33), (.t 34), (.t 35), (.t 36)], dst := some 37 }]
def a40_r7 : ACode := .reg [{ op := .mov (.t 10), dst := some 38 },
    { op := .not (.t 38), dst := some 39 }]
def a40_r8 : ACode := .reg [{ op := .mov (.t 0), dst := some 40 },
    { op := .mov (.t 1), dst := some 41 },
    { op := .mov (.t 2), dst := some 42 },
    { op := .mov (.t 4), dst := some 43 },
    { op := .call 44 [(.t 40), (.t 41), (.t 42), (.t 43)], dst := some 44 }]
def a40_r9 : ACode := .reg [{ op := .mov (.t 3), dst := some 45 },
    { op := .bin .sub (.t 45) (.c (.int .i64 1)), dst := some 46 },
    { op := .mov (.t 46), dst := some 3 }]
def a40_r10 : ACode := .reg [{ op := .mov (.t 0), dst := some 48 },
    { op := .mov (.t 1), dst := some 49 },
    { op := .mov (.t 2), dst := some 50 },
    { op := .mov (.t 4), dst := some 51 },
    { op := .call 45 [(.t 48), (.t 49), (.t 50), (.t 51)], dst := some 52 },
    { op := .mov (.t 52), dst := some 47 },
    { op := .ext (.t 47) 0, dst := some 53 },
    { op := .ext (.t 47) 1, dst := some 54 },
    { op := .mov (.t 53), dst := some 13 },
    { op := .mov (.t 54), dst := some 14 }]
def a40_r11 : ACode := .reg [{ op := .mov (.t 14), dst := some 55 },
    { op := .bin .eql (.t 55) (.c (.int .i64 2)), dst := some 56 }]
def a40_r12 : ACode := .reg [{ op := .mov (.t 0), dst := some 57 },
    { op := .mov (.t 1), dst := some 58 },
    { op := .mov (.t 2), dst := some 59 },
    { op := .mov (.t 4), dst := some 60 },
    { op := .call 46 [(.t 57), (.t 58), (.t 59), (.t 60)], dst := some 61 }]
def a40_r13 : ACode := .reg [{ op := .mov (.t 2), dst := some 62 },
    { op := .bin .sub (.t 62) (.c (.int .i64 1)), dst := some 63 },
    { op := .mov (.t 13), dst := some 64 },
    { op := .mov (.t 1), dst := some 65 },
    { op := .bin .sub (.t 64) (.t 65), dst := some 66 },
    { op := .bin .sub (.t 63) (.t 66), dst := some 67 },
    { op := .mov (.t 67), dst := some 13 }]
def a40_r14 : ACode := .reg [{ op := .mov (.c (.int .i64 1)), dst := some 14 }]
def a40_r15 : ACode := .reg [{ op := .mov (.t 10), dst := some 68 },
    { op := .mov (.t 68), dst := some 69 },
    { op := .mov (.t 11), dst := some 70, g := some (69, true) },
    { op := .pick (.t 69) (.t 70) (.c (.bool false)), dst := some 71 },
    { op := .mov (.t 71), dst := some 72 },
    { op := .mov (.t 14), dst := some 73, g := some (72, true) },
    { op := .bin .eql (.t 73) (.c (.int .i64 1)), dst := some 74, g := some (72, true) },
    { op := .pick (.t 72) (.t 74) (.c (.bool false)), dst := some 75 }]
def a40_r16 : ACode := .reg [{ op := .mov (.t 0), dst := some 76 },
    { op := .mov (.t 1), dst := some 77 },
    { op := .mov (.t 2), dst := some 78 },
    { op := .mov (.t 4), dst := some 79 },
    { op := .call 47 [(.t 76), (.t 77), (.t 78), (.t 79)], dst := some 80 }]
def a40_r17 : ACode := .draw [{ op := .mov (.t 1), dst := some 81 },
    { op := .bin .gtr (.t 81) (.c (.int .i64 0)), dst := some 82 },
    { op := .mov (.t 82), dst := some 83 },
    { op := .mov (.t 4), dst := some 84, g := some (83, true) },
    { op := .mov (.t 0), dst := some 85, g := some (83, true) },
    { op := .mov (.t 1), dst := some 86, g := some (83, true) },
    { op := .bin .sub (.t 86) (.c (.int .i64 1)), dst := some 87, g := some (83, true) },
    { op := .iad 2 (.t 85) (.t 87), dst := some 88, g := some (83, true) },
    { op := .load 2 true (.t 88), dst := some 89, g := some (83, true) },
    { op := .mov (.t 0), dst := some 90, g := some (83, true) },
    { op := .mov (.t 13), dst := some 91, g := some (83, true) },
    { op := .iad 2 (.t 90) (.t 91), dst := some 92, g := some (83, true) },
    { op := .load 2 true (.t 92), dst := some 93, g := some (83, true) },
    { op := .callv (.t 84) [(.t 89), (.t 93)], dst := some 94, g := some (83, true) },
    { op := .bin .lss (.t 94) (.c (.int .i64 0)), dst := some 95, g := some (83, true) },
    { op := .not (.t 95), dst := some 96, g := some (83, true) },
    { op := .pick (.t 83) (.t 96) (.c (.bool false)), dst := some 97 }]
    []
    (.take 0 (.take 1 (.take 2 (.take 3 (.take 4 (.take 5 (.take 6 (.take 7 (.take 8 (.take 9 (.take 10 (.take 11 (.take 12 (.one 13 (.take 14 (.take 15 (.take 16 (.done))))))))))))))))))
def a40_r18 : ACode := .reg [{ op := .mov (.t 0), dst := some 98 },
    { op := .mov (.t 1), dst := some 99 },
    { op := .mov (.t 2), dst := some 100 },
    { op := .mov (.t 13), dst := some 101 },
    { op := .mov (.t 4), dst := some 102 },
    { op := .call 48 [(.t 98), (.t 99), (.t 100), (.t 101), (.t 102)], dst := some 103 },
    { op := .mov (.t 103), dst := some 15 }]
def a40_r19 : ACode := .reg [{ op := .mov (.t 15), dst := some 104 },
    { op := .mov (.t 104), dst := some 1 }]
def a40_r20 : ACode := .reg [{ op := .mov (.t 0), dst := some 106 },
    { op := .mov (.t 1), dst := some 107 },
    { op := .mov (.t 2), dst := some 108 },
    { op := .mov (.t 13), dst := some 109 },
    { op := .mov (.t 4), dst := some 110 },
    { op := .call 49 [(.t 106), (.t 107), (.t 108), (.t 109), (.t 110)], dst := some 111 },
    { op := .mov (.t 111), dst := some 105 },
    { op := .ext (.t 105) 0, dst := some 112 },
    { op := .ext (.t 105) 1, dst := some 113 },
    { op := .mov (.t 112), dst := some 16 },
    { op := .mov (.t 113), dst := some 17 }]
def a40_r21 : ACode := .reg [{ op := .mov (.t 17), dst := some 114 },
    { op := .mov (.t 114), dst := some 11 }]
def a40_r22 : ACode := .reg [{ op := .mov (.t 16), dst := some 115 },
    { op := .mov (.t 1), dst := some 116 },
    { op := .bin .sub (.t 115) (.t 116), dst := some 117 },
    { op := .mov (.t 2), dst := some 118 },
    { op := .mov (.t 16), dst := some 119 },
    { op := .bin .sub (.t 118) (.t 119), dst := some 120 },
    { op := .mov (.t 117), dst := some 18 },
    { op := .mov (.t 120), dst := some 19 }]
def a40_r23 : ACode := .reg [{ op := .mov (.t 12), dst := some 121 },
    { op := .bin .quo (.t 121) (.c (.int .i64 8)), dst := some 122 },
    { op := .mov (.t 122), dst := some 20 }]
def a40_r24 : ACode := .reg [{ op := .mov (.t 18), dst := some 123 },
    { op := .mov (.t 19), dst := some 124 },
    { op := .bin .lss (.t 123) (.t 124), dst := some 125 }]
def a40_r25 : ACode := .reg [{ op := .mov (.t 18), dst := some 126 },
    { op := .mov (.t 20), dst := some 127 },
    { op := .bin .geq (.t 126) (.t 127), dst := some 128 },
    { op := .mov (.t 128), dst := some 10 }]
def a40_r26 : ACode := .reg [{ op := .mov (.t 0), dst := some 129 },
    { op := .mov (.t 1), dst := some 130 },
    { op := .mov (.t 16), dst := some 131 },
    { op := .mov (.t 3), dst := some 132 },
    { op := .mov (.t 4), dst := some 133 },
    { op := .call 40 [(.t 129), (.t 130), (.t 131), (.t 132), (.t 133)], dst := some 134 }]
def a40_r27 : ACode := .reg [{ op := .mov (.t 16), dst := some 135 },
    { op := .bin .add (.t 135) (.c (.int .i64 1)), dst := some 136 },
    { op := .mov (.t 136), dst := some 1 }]
def a40_r28 : ACode := .reg [{ op := .mov (.t 19), dst := some 137 },
    { op := .mov (.t 20), dst := some 138 },
    { op := .bin .geq (.t 137) (.t 138), dst := some 139 },
    { op := .mov (.t 139), dst := some 10 }]
def a40_r29 : ACode := .reg [{ op := .mov (.t 0), dst := some 140 },
    { op := .mov (.t 16), dst := some 141 },
    { op := .bin .add (.t 141) (.c (.int .i64 1)), dst := some 142 },
    { op := .mov (.t 2), dst := some 143 },
    { op := .mov (.t 3), dst := some 144 },
    { op := .mov (.t 4), dst := some 145 },
    { op := .call 40 [(.t 140), (.t 142), (.t 143), (.t 144), (.t 145)], dst := some 146 }]
def a40_r30 : ACode := .reg [{ op := .mov (.t 16), dst := some 147 },
    { op := .mov (.t 147), dst := some 2 }]
def a40_l0 : ACode := (.block 1 (.seq a40_r2 (.seq (.seq a40_r3 (.cond (.t 25) (.seq a40_r4 .ret) .skip)) (.seq (.seq a40_r5 (.cond (.t 32) (.seq a40_r6 .ret) .skip)) (.seq (.seq a40_r7 (.cond (.t 39) (.seq a40_r8 a40_r9) .skip)) (.seq a40_r10 (.seq (.seq a40_r11 (.cond (.t 56) (.seq a40_r12 (.seq a40_r13 a40_r14)) .skip)) (.seq (.seq a40_r15 (.cond (.t 75) (.seq a40_r16 (.cond (.t 80) .ret .skip)) .skip)) (.seq (.seq a40_r17 (.cond (.t 97) (.seq a40_r18 (.seq a40_r19 (.exit 1))) .skip)) (.seq a40_r20 (.seq a40_r21 (.seq a40_r22 (.seq a40_r23 (.seq a40_r24 (.cond (.t 125) (.seq a40_r25 (.seq a40_r26 a40_r27)) (.seq a40_r28 (.seq a40_r29 a40_r30)))))))))))))))))
def a40 : ACode := (.seq a40_r0 (.seq a40_r1 (.block 0 (.loop a40_l0))))
def a40_res : List ARes := []
theorem a40_ok : Coded Try.prog 40 148 a40 a40_res := ⟨Try.f40, _, by kernel_rfl, rfl, by kernel_rfl, rfl, by kernel_rfl, by kernel_rfl⟩
theorem a40_of {args : List AV} {Q : AV → Prop} (hl : args.length ≤ 148) (h : AW Try.prog 148 a40 (mkS (argT 0 args) [] 0) (retQ a40_res Q)) : ACall Try.prog 40 args Q := acall_coded a40_ok hl h

/- math/bits.Len -/
def a41_r0 : ACode := .reg [{ op := .mov (.c (.int .i64 0)), dst := some 2 }]
def a41_r1 : ACode := .reg [{ op := .mov (.t 0), dst := some 3 },
    { op := .conv .u32 (.t 3), dst := some 4 },
    { op := .call 50 [(.t 4)], dst := some 5 },
    { op := .mov (.t 5), dst := some 2 }]
def a41_r2 : ACode := .reg [{ op := .mov (.t 0), dst := some 6 },
    { op := .call 51 [(.t 6)], dst := some 7 },
    { op := .mov (.t 7), dst := some 2 }]
def a41 : ACode := (.seq a41_r0 (.seq (.cond (.c (.bool false)) (.seq a41_r1 .ret) .skip) (.seq a41_r2 .ret)))
def a41_res : List ARes := [.tmp 2]
theorem a41_ok : Coded Try.prog 41 8 a41 a41_res := ⟨Try.f41, _, by kernel_rfl, rfl, by kernel_rfl, rfl, by kernel_rfl, by kernel_rfl⟩
theorem a41_of {args : List AV} {Q : AV → Prop} (hl : args.length ≤ 8) (h : AW Try.prog 8 a41 (mkS (argT 0 args) [] 0) (retQ a41_res Q)) : ACall Try.prog 41 args Q := acall_coded a41_ok hl h

/- slices.insertionSortCmpFunc[workflow/timers.Item] -/
def a42_r0 : ACode := .reg [{ op := .mov (.t 1), dst := some 10 },
    { op := .bin .add (.t 10) (.c (.int .i64 1)), dst := some 11 },
    { op := .mov (.t 11), dst := some 8 }]
def a42_r1 : ACode := .reg [{ op := .mov (.t 8), dst := some 12 },
    { op := .mov (.t 2), dst := some 13 },
    { op := .bin .lss (.t 12) (.t 13), dst := some 14 }]
def a42_r3 : ACode := .reg [{ op := .mov (.t 8), dst := some 17 },
    { op := .mov (.t 17), dst := some 9 }]
def a42_r4 : ACode := .draw [{ op := .mov (.t 9), dst := some 18 },
    { op := .mov (.t 1), dst := some 19 },
    { op := .bin .gtr (.t 18) (.t 19), dst := some 20 },
    { op := .mov (.t 20), dst := some 21 },
    { op := .mov (.t 3), dst := some 22, g := some (21, true) },
    { op := .mov (.t 0), dst := some 23, g := some (21, true) },
    { op := .mov (.t 9), dst := some 24, g := some (21, true) },
    { op := .iad 2 (.t 23) (.t 24), dst := some 25, g := some (21, true) },
    { op := .load 2 true (.t 25), dst := some 26, g := some (21, true) },
    { op := .mov (.t 0), dst := some 27, g := some (21, true) },
    { op := .mov (.t 9), dst := some 28, g := some (21, true) },
    { op := .bin .sub (.t 28) (.c (.int .i64 1)), dst := some 29, g := some (21, true) },
    { op := .iad 2 (.t 27) (.t 29), dst := some 30, g := some (21, true) },
    { op := .load 2 true (.t 30), dst := some 31, g := some (21, true) },
    { op := .callv (.t 22) [(.t 26), (.t 31)], dst := some 32, g := some (21, true) },
    { op := .bin .lss (.t 32) (.c (.int .i64 0)), dst := some 33, g := some (21, true) },
    { op := .pick (.t 21) (.t 33) (.c (.bool false)), dst := some 34 }]
    []
    (.take 0 (.take 1 (.take 2 (.take 3 (.take 4 (.take 5 (.take 6 (.take 7 (.take 8 (.take 9 (.take 10 (.take 11 (.take 12 (.take 13 (.one 14 (.take 15 (.take 16 (.done))))))))))))))))))
def a42_r6 : ACode := .draw [{ op := .mov (.t 0), dst := some 37 },
    { op := .mov (.t 9), dst := some 38 },
    { op := .mov (.t 0), dst := some 39 },
    { op := .mov (.t 9), dst := some 40 },
    { op := .bin .sub (.t 40) (.c (.int .i64 1)), dst := some 41 },
    { op := .mov (.t 0), dst := some 42 },
    { op := .mov (.t 9), dst := some 43 },
    { op := .bin .sub (.t 43) (.c (.int .i64 1)), dst := some 44 },
    { op := .iad 2 (.t 42) (.t 44), dst := some 45 },
    { op := .load 2 true (.t 45), dst := some 46 },
    { op := .mov (.t 0), dst := some 47 },
    { op := .mov (.t 9), dst := some 48 },
    { op := .iad 2 (.t 47) (.t 48), dst := some 49 },
    { op := .load 2 true (.t 49), dst := some 50 },
    { op := .iad 2 (.t 37) (.t 38), dst := some 51 },
    { op := .store 2 true (.t 51) (.t 46), dst := none },
    { op := .iad 2 (.t 39) (.t 41), dst := some 52 },
    { op := .store 2 true (.t 52) (.t 50), dst := none }]
    []
    (.take 0 (.take 1 (.take 2 (.take 3 (.take 4 (.take 5 (.take 6 (.take 7 (.take 8 (.take 9 (.take 10 (.take 11 (.take 12 (.take 13 (.take 14 (.one 15 (.take 16 (.one 17 (.done)))))))))))))))))))
def a42_r5 : ACode := .reg [{ op := .mov (.t 9), dst := some 35 },
    { op := .bin .sub (.t 35) (.c (.int .i64 1)), dst := some 36 },
    { op := .mov (.t 36), dst := some 9 }]
def a42_l0 : ACode := (.seq (.seq a42_r4 (.cond (.t 34) .skip (.exit 2))) (.seq (.block 3 a42_r6) a42_r5))
def a42_r2 : ACode := .reg [{ op := .mov (.t 8), dst := some 15 },
    { op := .bin .add (.t 15) (.c (.int .i64 1)), dst := some 16 },
    { op := .mov (.t 16), dst := some 8 }]
def a42_l1 : ACode := (.seq (.seq a42_r1 (.cond (.t 14) .skip (.exit 0))) (.seq (.block 1 (.seq a42_r3 (.block 2 (.loop a42_l0)))) a42_r2))
def a42 : ACode := (.seq a42_r0 (.block 0 (.loop a42_l1)))
def a42_res : List ARes := []
theorem a42_ok : Coded Try.prog 42 53 a42 a42_res := ⟨Try.f42, _, by kernel_rfl, rfl, by kernel_rfl, rfl, by kernel_rfl, by kernel_rfl⟩
theorem a42_of {args : List AV} {Q : AV → Prop} (hl : args.length ≤ 53) (h : AW Try.prog 53 a42 (mkS (argT 0 args) [] 0) (retQ a42_res Q)) : ACall Try.prog 42 args Q := acall_coded a42_ok hl h

/- slices.heapSortCmpFunc[workflow/timers.Item] -/
def a43_r0 : ACode := .reg [{ op := .mov (.t 1), dst := some 13 },
    { op := .mov (.t 13), dst := some 8 }]
def a43_r1 : ACode := .reg [{ op := .mov (.c (.int .i64 0)), dst := some 9 }]
def a43_r2 : ACode := .reg [{ op := .mov (.t 2), dst := some 14 },
    { op := .mov (.t 1), dst := some 15 },
    { op := .bin .sub (.t 14) (.t 15), dst := some 16 },
    { op := .mov (.t 16), dst := some 10 }]
def a43_r3 : ACode := .reg [{ op := .mov (.t 10), dst := some 17 },
    { op := .bin .sub (.t 17) (.c (.int .i64 1)), dst := some 18 },
    { op := .bin .quo (.t 18) (.c (.int .i64 2)), dst := some 19 },
    { op := .mov (.t 19), dst := some 11 }]
def a43_r4 : ACode := .reg [{ op := .mov (.t 11), dst := some 20 },
    { op := .bin .geq (.t 20) (.c (.int .i64 0)), dst := some 21 }]
def a43_r6 : ACode := .reg [{ op := .mov (.t 0), dst := some 24 },
    { op := .mov (.t 11), dst := some 25 },
    { op := .mov (.t 10), dst := some 26 },
    { op := .mov (.t 8), dst := some 27 },
    { op := .mov (.t 3), dst := some 28 },
    { op := .call 52 [(.t 24), (.t 25), (.t 26), (.t 27), (.t 28)], dst := some 29 }]
def a43_r5 : ACode := .reg [{ op := .mov (.t 11), dst := some 22 },
    { op := .bin .sub (.t 22) (.c (.int .i64 1)), dst := some 23 },
    { op := .mov (.t 23), dst := some 11 }]
def a43_l0 : ACode := (.seq (.seq a43_r4 (.cond (.t 21) .skip (.exit 0))) (.seq (.block 1 a43_r6) a43_r5))
def a43_r7 : ACode := .reg [{ op := .mov (.t 10), dst := some 30 },
    { op := .bin .sub (.t 30) (.c (.int .i64 1)), dst := some 31 },
    { op := .mov (.t 31), dst := some 12 }]
def a43_r8 : ACode := .reg [{ op := .mov (.t 12), dst := some 32 },
    { op := .bin .geq (.t 32) (.c (.int .i64 0)), dst := some 33 }]
def a43_r10 : ACode := .draw [{ op := .mov (.t 0), dst := some 36 },
    { op := .mov (.t 8), dst := some 37 },
    { op := .mov (.t 0), dst := some 38 },
    { op := .mov (.t 8), dst := some 39 },
    { op := .mov (.t 12), dst := some 40 },
    { op := .bin .add (.t 39) (.t 40), dst := some 41 },
    { op := .mov (.t 0), dst := some 42 },
    { op := .mov (.t 8), dst := some 43 },
    { op := .mov (.t 12), dst := some 44 },
    { op := .bin .add (.t 43) (.t 44), dst := some 45 },
    { op := .iad 2 (.t 42) (.t 45), dst := some 46 },
    { op := .load 2 true (.t 46), dst := some 47 },
    { op := .mov (.t 0), dst := some 48 },
    { op := .mov (.t 8), dst := some 49 },
    { op := .iad 2 (.t 48) (.t 49), dst := some 50 },
    { op := .load 2 true (.t 50), dst := some 51 },
    { op := .iad 2 (.t 36) (.t 37), dst := some 52 },
    { op := .store 2 true (.t 52) (.t 47), dst := none },
    { op := .iad 2 (.t 38) (.t 41), dst := some 53 },
    { op := .store 2 true (.t 53) (.t 51), dst := none }]
    []
    (.take 0 (.take 1 (.take 2 (.take 3 (.take 4 (.take 5 (.take 6 (.take 7 (.take 8 (.take 9 (.take 10 (.take 11 (.take 12 (.take 13 (.take 14 (.take 15 (.take 16 (.one 17 (.take 18 (.one 19 (.done)))))))))))))))))))))
def a43_r11 : ACode := .reg [{ op := .mov (.t 0), dst := some 54 },
    { op := .mov (.t 9), dst := some 55 },
    { op := .mov (.t 12), dst := some 56 },
    { op := .mov (.t 8), dst := some 57 },
    { op := .mov (.t 3), dst := some 58 },
    { op := .call 52 [(.t 54), (.t 55), (.t 56), (.t 57), (.t 58)], dst := some 59 }]
def a43_r9 : ACode := .reg [{ op := .mov (.t 12), dst := some 34 },
    { op := .bin .sub (.t 34) (.c (.int .i64 1)), dst := some 35 },
    { op := .mov (.t 35), dst := some 12 }]
def a43_l1 : ACode := (.seq (.seq a43_r8 (.cond (.t 33) .skip (.exit 2))) (.seq (.block 3 (.seq a43_r10 a43_r11)) a43_r9))
def a43 : ACode := (.seq a43_r0 (.seq a43_r1 (.seq a43_r2 (.seq (.seq a43_r3 (.block 0 (.loop a43_l0))) (.seq a43_r7 (.block 2 (.loop a43_l1)))))))
def a43_res : List ARes := []
theorem a43_ok : Coded Try.prog 43 60 a43 a43_res := ⟨Try.f43, _, by kernel_rfl, rfl, by kernel_rfl, rfl, by kernel_rfl, by kernel_rfl⟩
theorem a43_of {args : List AV} {Q : AV → Prop} (hl : args.length ≤ 60) (h : AW Try.prog 60 a43 (mkS (argT 0 args) [] 0) (retQ a43_res Q)) : ACall Try.prog 43 args Q := acall_coded a43_ok hl h

/- slices.breakPatternsCmpFunc[workflow/timers.Item] -/
def a44_r0 : ACode := .reg [{ op := .mov (.t 2), dst := some 13 },
    { op := .mov (.t 1), dst := some 14 },
    { op := .bin .sub (.t 13) (.t 14), dst := some 15 },
    { op := .mov (.t 15), dst := some 8 }]
def a44_r1 : ACode := .reg [{ op := .mov (.t 8), dst := some 16 },
    { op := .bin .geq (.t 16) (.c (.int .i64 8)), dst := some 17 }]
def a44_r2 : ACode := .reg [{ op := .mov (.t 8), dst := some 18 },
    { op := .conv .u64 (.t 18), dst := some 19 },
    { op := .alloc 1 false [.int .u64 0], dst := some 9, k := 8 },
    { op := .store 1 false (.t 9) (.t 19), dst := none }]
def a44_r3 : ACode := .reg [{ op := .mov (.t 8), dst := some 20 },
    { op := .call 53 [(.t 20)], dst := some 21 },
    { op := .mov (.t 21), dst := some 10 }]
def a44_r4 : ACode := .reg [{ op := .mov (.t 1), dst := some 22 },
    { op := .mov (.t 8), dst := some 23 },
    { op := .bin .quo (.t 23) (.c (.int .i64 4)), dst := some 24 },
    { op := .bin .mul (.t 24) (.c (.int .i64 2)), dst := some 25 },
    { op := .bin .add (.t 22) (.t 25), dst := some 26 },
    { op := .bin .sub (.t 26) (.c (.int .i64 1)), dst := some 27 },
    { op := .mov (.t 27), dst := some 11 }]
def a44_r5 : ACode := .reg [{ op := .mov (.t 11), dst := some 28 },
    { op := .mov (.t 1), dst := some 29 },
    { op := .mov (.t 8), dst := some 30 },
    { op := .bin .quo (.t 30) (.c (.int .i64 4)), dst := some 31 },
    { op := .bin .mul (.t 31) (.c (.int .i64 2)), dst := some 32 },
    { op := .bin .add (.t 29) (.t 32), dst := some 33 },
    { op := .bin .add (.t 33) (.c (.int .i64 1)), dst := some 34 },
    { op := .bin .leq (.t 28) (.t 34), dst := some 35 }]
def a44_r7 : ACode := .reg [{ op := .call 54 [(.t 9)], dst := some 38 },
    { op := .mov (.t 10), dst := some 39 },
    { op := .bin .sub (.t 39) (.c (.int .u64 1)), dst := some 40 },
    { op := .bin .and (.t 38) (.t 40), dst := some 41 },
    { op := .conv .i64 (.t 41), dst := some 42 },
    { op := .mov (.t 42), dst := some 12 }]
def a44_r8 : ACode := .reg [{ op := .mov (.t 12), dst := some 43 },
    { op := .mov (.t 8), dst := some 44 },
    { op := .bin .geq (.t 43) (.t 44), dst := some 45 }]
def a44_r9 : ACode := .reg [{ op := .mov (.t 12), dst := some 46 },
    { op := .mov (.t 8), dst := some 47 },
    { op := .bin .sub (.t 46) (.t 47), dst := some 48 },
    { op := .mov (.t 48), dst := some 12 }]
def a44_r10 : ACode := .draw [{ op := .mov (.t 0), dst := some 49 },
    { op := .mov (.t 11), dst := some 50 },
    { op := .mov (.t 0), dst := some 51 },
    { op := .mov (.t 1), dst := some 52 },
    { op := .mov (.t 12), dst := some 53 },
    { op := .bin .add (.t 52) (.t 53), dst := some 54 },
    { op := .mov (.t 0), dst := some 55 },
    { op := .mov (.t 1), dst := some 56 },
    { op := .mov (.t 12), dst := some 57 },
    { op := .bin .add (.t 56) (.t 57), dst := some 58 },
    { op := .iad 2 (.t 55) (.t 58), dst := some 59 },
    { op := .load 2 true (.t 59), dst := some 60 },
    { op := .mov (.t 0), dst := some 61 },
    { op := .mov (.t 11), dst := some 62 },
    { op := .iad 2 (.t 61) (.t 62), dst := some 63 },
    { op := .load 2 true (.t 63), dst := some 64 },
    { op := .iad 2 (.t 49) (.t 50), dst := some 65 },
    { op := .store 2 true (.t 65) (.t 60), dst := none },
    { op := .iad 2 (.t 51) (.t 54), dst := some 66 },
    { op := .store 2 true (.t 66) (.t 64), dst := none }]
    []
    (.take 0 (.take 1 (.take 2 (.take 3 (.take 4 (.take 5 (.take 6 (.take 7 (.take 8 (.take 9 (.take 10 (.take 11 (.take 12 (.take 13 (.take 14 (.take 15 (.take 16 (.one 17 (.take 18 (.one 19 (.done)))))))))))))))))))))
def a44_r6 : ACode := .reg [{ op := .mov (.t 11), dst := some 36 },
    { op := .bin .add (.t 36) (.c (.int .i64 1)), dst := some 37 },
    { op := .mov (.t 37), dst := some 11 }]
def a44_l0 : ACode := (.seq (.seq a44_r5 (.cond (.t 35) .skip (.exit 0))) (.seq (.block 1 (.seq a44_r7 (.seq (.seq a44_r8 (.cond (.t 45) a44_r9 .skip)) a44_r10))) a44_r6))
def a44 : ACode := (.seq a44_r0 (.seq a44_r1 (.cond (.t 17) (.seq a44_r2 (.seq a44_r3 (.seq a44_r4 (.block 0 (.loop a44_l0))))) .skip)))
def a44_res : List ARes := []
theorem a44_ok : Coded Try.prog 44 67 a44 a44_res := ⟨Try.f44, _, by kernel_rfl, rfl, by kernel_rfl, rfl, by kernel_rfl, by kernel_rfl⟩
theorem a44_of {args : List AV} {Q : AV → Prop} (hl : args.length ≤ 67) (h : AW Try.prog 67 a44 (mkS (argT 0 args) [] 0) (retQ a44_res Q)) : ACall Try.prog 44 args Q := acall_coded a44_ok hl h

/- slices.choosePivotCmpFunc[workflow/timers.Item] -/
def a45_r0 : ACode := .reg [{ op := .mov (.c (.int .i64 0)), dst := some 8 },
    { op := .mov (.c (.int .i64 0)), dst := some 9 }]
def a45_r1 : ACode := .reg [{ op := .mov (.t 2), dst := some 15 },
    { op := .mov (.t 1), dst := some 16 },
    { op := .bin .sub (.t 15) (.t 16), dst := some 17 },
    { op := .mov (.t 17), dst := some 10 }]
def a45_r2 : ACode := .reg [{ op := .alloc 1 false [.int .i64 0], dst := some 11, k := 6 }]
def a45_r3 : ACode := .reg [{ op := .mov (.t 1), dst := some 18 },
    { op := .mov (.t 10), dst := some 19 },
    { op := .bin .quo (.t 19) (.c (.int .i64 4)), dst := some 20 },
    { op := .bin .mul (.t 20) (.c (.int .i64 1)), dst := some 21 },
    { op := .bin .add (.t 18) (.t 21), dst := some 22 },
    { op := .mov (.t 22), dst := some 12 }]
def a45_r4 : ACode := .reg [{ op := .mov (.t 1), dst := some 23 },
    { op := .mov (.t 10), dst := some 24 },
    { op := .bin .quo (.t 24) (.c (.int .i64 4)), dst := some 25 },
    { op := .bin .mul (.t 25) (.c (.int .i64 2)), dst := some 26 },
    { op := .bin .add (.t 23) (.t 26), dst := some 27 },
    { op := .mov (.t 27), dst := some 13 }]
def a45_r5 : ACode := .reg [{ op := .mov (.t 1), dst := some 28 },
    { op := .mov (.t 10), dst := some 29 },
    { op := .bin .quo (.t 29) (.c (.int .i64 4)), dst := some 30 },
    { op := .bin .mul (.t 30) (.c (.int .i64 3)), dst := some 31 },
    { op := .bin .add (.t 28) (.t 31), dst := some 32 },
    { op := .mov (.t 32), dst := some 14 }]
def a45_r6 : ACode := .reg [{ op := .mov (.t 10), dst := some 33 },
    { op := .bin .geq (.t 33) (.c (.int .i64 8)), dst := some 34 }]
def a45_r7 : ACode := .reg [{ op := .mov (.t 10), dst := some 35 },
    { op := .bin .geq (.t 35) (.c (.int .i64 50)), dst := some 36 }]
def a45_r8 : ACode := .reg [{ op := .mov (.t 0), dst := some 37 },
    { op := .mov (.t 12), dst := some 38 },
    { op := .mov (.t 3), dst := some 39 },
    { op := .call 55 [(.t 37), (.t 38), (.t 11), (.t 39)], dst := some 40 },
    { op := .mov (.t 40), dst := some 12 }]
def a45_r9 : ACode := .reg [{ op := .mov (.t 0), dst := some 41 },
    { op := .mov (.t 13), dst := some 42 },
    { op := .mov (.t 3), dst := some 43 },
    { op := .call 55 [(.t 41), (.t 42), (.t 11), (.t 43)], dst := some 44 },
    { op := .mov (.t 44), dst := some 13 }]
def a45_r10 : ACode := .reg [{ op := .mov (.t 0), dst := some 45 },
    { op := .mov (.t 14), dst := some 46 },
    { op := .mov (.t 3), dst := some 47 },
    { op := .call 55 [(.t 45), (.t 46), (.t 11), (.t 47)], dst := some 48 },
    { op := .mov (.t 48), dst := some 14 }]
def a45_r11 : ACode := .reg [{ op := .mov (.t 0), dst := some 49 },
    { op := .mov (.t 12), dst := some 50 },
    { op := .mov (.t 13), dst := some 51 },
    { op := .mov (.t 14), dst := some 52 },
    { op := .mov (.t 3), dst := some 53 },
    { op := .call 56 [(.t 49), (.t 50), (.t 51), (.t 52), (.t 11), (.t 53)], dst := some 54 },
    { op := .mov (.t 54), dst := some 13 }]
def a45_r12 : ACode := .reg [{ op := .load 1 false (.t 11), dst := some 55 }]
def a45_r14 : ACode := .reg [{ op := .bin .eql (.t 55) (.c (.int .i64 0)), dst := some 58 },
    { op := .mov (.t 58), dst := some 57 }]
def a45_r15 : ACode := .reg [{ op := .mov (.t 13), dst := some 59 },
    { op := .mov (.t 59), dst := some 8 },
    { op := .mov (.c (.int .i64 1)), dst := some 9 }]
def a45_r16 : ACode := .reg [{ op := .bin .eql (.t 55) (.c (.int .i64 12)), dst := some 61 },
    { op := .mov (.t 61), dst := some 60 }]
def a45_r17 : ACode := .reg [{ op := .mov (.t 13), dst := some 62 },
    { op := .mov (.t 62), dst := some 8 },
    { op := .mov (.c (.int .i64 2)), dst := some 9 }]
def a45_r13 : ACode := .reg [{ op := .mov (.t 13), dst := some 56 },
    { op := .mov (.t 56), dst := some 8 },
    { op := .mov (.c (.int .i64 0)), dst := some 9 }]
def a45 : ACode := (.seq a45_r0 (.seq a45_r1 (.seq a45_r2 (.seq a45_r3 (.seq a45_r4 (.seq a45_r5 (.seq (.seq a45_r6 (.cond (.t 34) (.seq (.seq a45_r7 (.cond (.t 36) (.seq a45_r8 (.seq a45_r9 a45_r10)) .skip)) a45_r11) .skip)) (.seq a45_r12 (.block 0 (.seq a45_r14 (.cond (.t 57) (.seq a45_r15 .ret) (.seq a45_r16 (.cond (.t 60) (.seq a45_r17 .ret) (.seq a45_r13 .ret))))))))))))))
def a45_res : List ARes := [.tmp 8, .tmp 9]
theorem a45_ok : Coded Try.prog 45 63 a45 a45_res := ⟨Try.f45, _, by kernel_rfl, rfl, by kernel_rfl, rfl, by kernel_rfl, by kernel_rfl⟩
theorem a45_of {args : List AV} {Q : AV → Prop} (hl : args.length ≤ 63) (h : AW Try.prog 63 a45 (mkS (argT 0 args) [] 0) (retQ a45_res Q)) : ACall Try.prog 45 args Q := acall_coded a45_ok hl h

/- slices.reverseRangeCmpFunc[workflow/timers.Item] -/
def a46_r0 : ACode := .reg [{ op := .mov (.t 1), dst := some 10 },
    { op := .mov (.t 10), dst := some 8 }]
def a46_r1 : ACode := .reg [{ op := .mov (.t 2), dst := some 11 },
    { op := .bin .sub (.t 11) (.c (.int .i64 1)), dst := some 12 },
    { op := .mov (.t 12), dst := some 9 }]
def a46_r2 : ACode := .reg [{ op := .mov (.t 8), dst := some 13 },
    { op := .mov (.t 9), dst := some 14 },
    { op := .bin .lss (.t 13) (.t 14), dst := some 15 }]
def a46_r3 : ACode := .draw [{ op := .mov (.t 0), dst := some 16 },
    { op := .mov (.t 8), dst := some 17 },
    { op := .mov (.t 0), dst := some 18 },
    { op := .mov (.t 9), dst := some 19 },
    { op := .mov (.t 0), dst := some 20 },
    { op := .mov (.t 9), dst := some 21 },
    { op := .iad 2 (.t 20) (.t 21), dst := some 22 },
    { op := .load 2 true (.t 22), dst := some 23 },
    { op := .mov (.t 0), dst := some 24 },
    { op := .mov (.t 8), dst := some 25 },
    { op := .iad 2 (.t 24) (.t 25), dst := some 26 },
    { op := .load 2 true (.t 26), dst := some 27 },
    { op := .iad 2 (.t 16) (.t 17), dst := some 28 },
    { op := .store 2 true (.t 28) (.t 23), dst := none },
    { op := .iad 2 (.t 18) (.t 19), dst := some 29 },
    { op := .store 2 true (.t 29) (.t 27), dst := none }]
    []
    (.take 0 (.take 1 (.take 2 (.take 3 (.take 4 (.take 5 (.take 6 (.take 7 (.take 8 (.take 9 (.take 10 (.take 11 (.take 12 (.one 13 (.take 14 (.one 15 (.done)))))))))))))))))
def a46_r4 : ACode := .reg [{ op := .mov (.t 8), dst := some 30 },
    { op := .bin .add (.t 30) (.c (.int .i64 1)), dst := some 31 },
    { op := .mov (.t 31), dst := some 8 }]
def a46_r5 : ACode := .reg [{ op := .mov (.t 9), dst := some 32 },
    { op := .bin .sub (.t 32) (.c (.int .i64 1)), dst := some 33 },
    { op := .mov (.t 33), dst := some 9 }]
def a46_l0 : ACode := (.seq (.seq a46_r2 (.cond (.t 15) .skip (.exit 0))) (.block 1 (.seq a46_r3 (.seq a46_r4 a46_r5))))
def a46 : ACode := (.seq a46_r0 (.seq a46_r1 (.block 0 (.loop a46_l0))))
def a46_res : List ARes := []
theorem a46_ok : Coded Try.prog 46 34 a46 a46_res := ⟨Try.f46, _, by kernel_rfl, rfl, by kernel_rfl, rfl, by kernel_rfl, by kernel_rfl⟩
theorem a46_of {args : List AV} {Q : AV → Prop} (hl : args.length ≤ 34) (h : AW Try.prog 34 a46 (mkS (argT 0 args) [] 0) (retQ a46_res Q)) : ACall Try.prog 46 args Q := acall_coded a46_ok hl h

/- slices.partialInsertionSortCmpFunc[workflow/timers.Item] -/
def a47_r0 : ACode := .reg [{ op := .mov (.c (.bool false)), dst := some 8 }]
def a47_r1 : ACode := .reg [{ op := .mov (.t 1), dst := some 13 },
    { op := .bin .add (.t 13) (.c (.int .i64 1)), dst := some 14 },
    { op := .mov (.t 14), dst := some 9 }]
def a47_r2 : ACode := .reg [{ op := .mov (.c (.int .i64 0)), dst := some 10 }]
def a47_r3 : ACode := .reg [{ op := .mov (.t 10), dst := some 15 },
    { op := .bin .lss (.t 15) (.c (.int .i64 5)), dst := some 16 }]
def a47_r5 : ACode := .draw [{ op := .mov (.t 9), dst := some 19 },
    { op := .mov (.t 2), dst := some 20 },
    { op := .bin .lss (.t 19) (.t 20), dst := some 21 },
    { op := .mov (.t 21), dst := some 22 },
    { op := .mov (.t 3), dst := some 23, g := some (22, true) },
    { op := .mov (.t 0), dst := some 24, g := some (22, true) },
    { op := .mov (.t 9), dst := some 25, g := some (22, true) },
    { op := .iad 2 (.t 24) (.t 25), dst := some 26, g := some (22, true) },
    { op := .load 2 true (.t 26), dst := some 27, g := some (22, true) },
    { op := .mov (.t 0), dst := some 28, g := some (22, true) },
    { op := .mov (.t 9), dst := some 29, g := some (22, true) },
    { op := .bin .sub (.t 29) (.c (.int .i64 1)), dst := some 30, g := some (22, true) },
    { op := .iad 2 (.t 28) (.t 30), dst := some 31, g := some (22, true) },
    { op := .load 2 true (.t 31), dst := some 32, g := some (22, true) },
    { op := .callv (.t 23) [(.t 27), (.t 32)], dst := some 33, g := some (22, true) },
    { op := .bin .lss (.t 33) (.c (.int .i64 0)), dst := some 34, g := some (22, true) },
    { op := .not (.t 34), dst := some 35, g := some (22, true) },
    { op := .pick (.t 22) (.t 35) (.c (.bool false)), dst := some 36 }]
    []
    (.take 0 (.take 1 (.take 2 (.take 3 (.take 4 (.take 5 (.take 6 (.take 7 (.take 8 (.take 9 (.take 10 (.take 11 (.take 12 (.take 13 (.one 14 (.take 15 (.take 16 (.take 17 (.done)))))))))))))))))))
def a47_r6 : ACode := .reg [{ op := .mov (.t 9), dst := some 37 },
    { op := .bin .add (.t 37) (.c (.int .i64 1)), dst := some 38 },
    { op := .mov (.t 38), dst := some 9 }]
def a47_l0 : ACode := (.seq (.seq a47_r5 (.cond (.t 36) .skip (.exit 2))) (.block 3 a47_r6))
def a47_r7 : ACode := .reg [{ op := .mov (.t 9), dst := some 39 },
    { op := .mov (.t 2), dst := some 40 },
    { op := .bin .eql (.t 39) (.t 40), dst := some 41 }]
def a47_r8 : ACode := .reg [{ op := .mov (.c (.bool true)), dst := some 8 }]
def a47_r9 : ACode := .reg [{ op := .mov (.t 2), dst := some 42 },
    { op := .mov (.t 1), dst := some 43 },
    { op := .bin .sub (.t 42) (.t 43), dst := some 44 },
    { op := .bin .lss (.t 44) (.c (.int .i64 50)), dst := some 45 }]
def a47_r10 : ACode := .reg [{ op := .mov (.c (.bool false)), dst := some 8 }]
def a47_r11 : ACode := .draw [{ op := .mov (.t 0), dst := some 46 },
    { op := .mov (.t 9), dst := some 47 },
    { op := .mov (.t 0), dst := some 48 },
    { op := .mov (.t 9), dst := some 49 },
    { op := .bin .sub (.t 49) (.c (.int .i64 1)), dst := some 50 },
    { op := .mov (.t 0), dst := some 51 },
    { op := .mov (.t 9), dst := some 52 },
    { op := .bin .sub (.t 52) (.c (.int .i64 1)), dst := some 53 },
    { op := .iad 2 (.t 51) (.t 53), dst := some 54 },
    { op := .load 2 true (.t 54), dst := some 55 },
    { op := .mov (.t 0), dst := some 56 },
    { op := .mov (.t 9), dst := some 57 },
    { op := .iad 2 (.t 56) (.t 57), dst := some 58 },
    { op := .load 2 true (.t 58), dst := some 59 },
    { op := .iad 2 (.t 46) (.t 47), dst := some 60 },
    { op := .store 2 true (.t 60) (.t 55), dst := none },
    { op := .iad 2 (.t 48) (.t 50), dst := some 61 },
    { op := .store 2 true (.t 61) (.t 59), dst := none }]
    []
    (.take 0 (.take 1 (.take 2 (.take 3 (.take 4 (.take 5 (.take 6 (.take 7 (.take 8 (.take 9 (.take 10 (.take 11 (.take 12 (.take 13 (.take 14 (.one 15 (.take 16 (.one 17 (.done)))))))))))))))))))
def a47_r12 : ACode := .reg [{ op := .mov (.t 9), dst := some 62 },
    { op := .mov (.t 1), dst := some 63 },
    { op := .bin .sub (.t 62) (.t 63), dst := some 64 },
    { op := .bin .geq (.t 64) (.c (.int .i64 2)), dst := some 65 }]
def a47_r13 : ACode := .reg [{ op := .mov (.t 9), dst := some 66 },
    { op := .bin .sub (.t 66) (.c (.int .i64 1)), dst := some 67 },
    { op := .mov (.t 67), dst := some 11 }]
def a47_r14 : ACode := .reg [{ op := .mov (.t 11), dst := some 68 },
    { op := .bin .geq (.t 68) (.c (.int .i64 1)), dst := some 69 }]
def a47_r16 : ACode := .draw [{ op := .mov (.t 3), dst := some 72 },
    { op := .mov (.t 0), dst := some 73 },
    { op := .mov (.t 11), dst := some 74 },
    { op := .iad 2 (.t 73) (.t 74), dst := some 75 },
    { op := .load 2 true (.t 75), dst := some 76 },
    { op := .mov (.t 0), dst := some 77 },
    { op := .mov (.t 11), dst := some 78 },
    { op := .bin .sub (.t 78) (.c (.int .i64 1)), dst := some 79 },
    { op := .iad 2 (.t 77) (.t 79), dst := some 80 },
    { op := .load 2 true (.t 80), dst := some 81 },
    { op := .callv (.t 72) [(.t 76), (.t 81)], dst := some 82 },
    { op := .bin .lss (.t 82) (.c (.int .i64 0)), dst := some 83 },
    { op := .not (.t 83), dst := some 84 }]
    []
    (.take 0 (.take 1 (.take 2 (.take 3 (.take 4 (.take 5 (.take 6 (.take 7 (.take 8 (.take 9 (.one 10 (.take 11 (.take 12 (.done))))))))))))))
def a47_r17 : ACode := .draw [{ op := .mov (.t 0), dst := some 85 },
    { op := .mov (.t 11), dst := some 86 },
    { op := .mov (.t 0), dst := some 87 },
    { op := .mov (.t 11), dst := some 88 },
    { op := .bin .sub (.t 88) (.c (.int .i64 1)), dst := some 89 },
    { op := .mov (.t 0), dst := some 90 },
    { op := .mov (.t 11), dst := some 91 },
    { op := .bin .sub (.t 91) (.c (.int .i64 1)), dst := some 92 },
    { op := .iad 2 (.t 90) (.t 92), dst := some 93 },
    { op := .load 2 true (.t 93), dst := some 94 },
    { op := .mov (.t 0), dst := some 95 },
    { op := .mov (.t 11), dst := some 96 },
    { op := .iad 2 (.t 95) (.t 96), dst := some 97 },
    { op := .load 2 true (.t 97), dst := some 98 },
    { op := .iad 2 (.t 85) (.t 86), dst := some 99 },
    { op := .store 2 true (.t 99) (.t 94), dst := none },
    { op := .iad 2 (.t 87) (.t 89), dst := some 100 },
    { op := .store 2 true (.t 100) (.t 98), dst := none }]
    []
    (.take 0 (.take 1 (.take 2 (.take 3 (.take 4 (.take 5 (.take 6 (.take 7 (.take 8 (.take 9 (.take 10 (.take 11 (.take 12 (.take 13 (.take 14 (.one 15 (.take 16 (.one 17 (.done)))))))))))))))))))
def a47_r15 : ACode := .reg [{ op := .mov (.t 11), dst := some 70 },
    { op := .bin .sub (.t 70) (.c (.int .i64 1)), dst := some 71 },
    { op := .mov (.t 71), dst := some 11 }]
def a47_l1 : ACode := (.seq (.seq a47_r14 (.cond (.t 69) .skip (.exit 4))) (.seq (.block 5 (.seq (.seq a47_r16 (.cond (.t 84) (.exit 4) .skip)) a47_r17)) a47_r15))
def a47_r18 : ACode := .reg [{ op := .mov (.t 2), dst := some 101 },
    { op := .mov (.t 9), dst := some 102 },
    { op := .bin .sub (.t 101) (.t 102), dst := some 103 },
    { op := .bin .geq (.t 103) (.c (.int .i64 2)), dst := some 104 }]
def a47_r19 : ACode := .reg [{ op := .mov (.t 9), dst := some 105 },
    { op := .bin .add (.t 105) (.c (.int .i64 1)), dst := some 106 },
    { op := .mov (.t 106), dst := some 12 }]
def a47_r20 : ACode := .reg [{ op := .mov (.t 12), dst := some 107 },
    { op := .mov (.t 2), dst := some 108 },
    { op := .bin .lss (.t 107) (.t 108), dst := some 109 }]
def a47_r22 : ACode := .draw [{ op := .mov (.t 3), dst := some 112 },
    { op := .mov (.t 0), dst := some 113 },
    { op := .mov (.t 12), dst := some 114 },
    { op := .iad 2 (.t 113) (.t 114), dst := some 115 },
    { op := .load 2 true (.t 115), dst := some 116 },
    { op := .mov (.t 0), dst := some 117 },
    { op := .mov (.t 12), dst := some 118 },
    { op := .bin .sub (.t 118) (.c (.int .i64 1)), dst := some 119 },
    { op := .iad 2 (.t 117) (.t 119), dst := some 120 },
    { op := .load 2 true (.t 120), dst := some 121 },
    { op := .callv (.t 112) [(.t 116), (.t 121)], dst := some 122 },
    { op := .bin .lss (.t 122) (.c (.int .i64 0)), dst := some 123 },
    { op := .not (.t 123), dst := some 124 }]
    []
    (.take 0 (.take 1 (.take 2 (.take 3 (.take 4 (.take 5 (.take 6 (.take 7 (.take 8 (.take 9 (.one 10 (.take 11 (.take 12 (.done))))))))))))))
def a47_r23 : ACode := .draw [{ op := .mov (.t 0), dst := some 125 },
    { op := .mov (.t 12), dst := some 126 },
    { op := .mov (.t 0), dst := some 127 },
    { op := .mov (.t 12), dst := some 128 },
    { op := .bin .sub (.t 128) (.c (.int .i64 1)), dst := some 129 },
    { op := .mov (.t 0), dst := some 130 },
    { op := .mov (.t 12), dst := some 131 },
    { op := .bin .sub (.t 131) (.c (.int .i64 1)), dst := some 132 },
    { op := .iad 2 (.t 130) (.t 132), dst := some 133 },
    { op := .load 2 true (.t 133), dst := some 134 },
    { op := .mov (.t 0), dst := some 135 },
    { op := .mov (.t 12), dst := some 136 },
    { op := .iad 2 (.t 135) (.t 136), dst := some 137 },
    { op := .load 2 true (.t 137), dst := some 138 },
    { op := .iad 2 (.t 125) (.t 126), dst := some 139 },
    { op := .store 2 true (.t 139) (.t 134), dst := none },
    { op := .iad 2 (.t 127) (.t 129), dst := some 140 },
    { op := .store 2 true (.t 140) (.t 138), dst := none }]
    []
    (.take 0 (.take 1 (.take 2 (.take 3 (.take 4 (.take 5 (.take 6 (.take 7 (.take 8 (.take 9 (.take 10 (.take 11 (.take 12 (.take 13 (.take 14 (.one 15 (.take 16 (.one 17 (.done)))))))))))))))))))
def a47_r21 : ACode := .reg [{ op := .mov (.t 12), dst := some 110 },
    { op := .bin .add (.t 110) (.c (.int .i64 1)), dst := some 111 },
    { op := .mov (.t 111), dst := some 12 }]
def a47_l2 : ACode := (.seq (.seq a47_r20 (.cond (.t 109) .skip (.exit 6))) (.seq (.block 7 (.seq (.seq a47_r22 (.cond (.t 124) (.exit 6) .skip)) a47_r23)) a47_r21))
def a47_r4 : ACode := .reg [{ op := .mov (.t 10), dst := some 17 },
    { op := .bin .add (.t 17) (.c (.int .i64 1)), dst := some 18 },
    { op := .mov (.t 18), dst := some 10 }]
def a47_l3 : ACode := (.seq (.seq a47_r3 (.cond (.t 16) .skip (.exit 0))) (.seq (.block 1 (.seq (.block 2 (.loop a47_l0)) (.seq (.seq a47_r7 (.cond (.t 41) (.seq a47_r8 .ret) .skip)) (.seq (.seq a47_r9 (.cond (.t 45) (.seq a47_r10 .ret) .skip)) (.seq a47_r11 (.seq (.seq a47_r12 (.cond (.t 65) (.seq a47_r13 (.block 4 (.loop a47_l1))) .skip)) (.seq a47_r18 (.cond (.t 104) (.seq a47_r19 (.block 6 (.loop a47_l2))) .skip)))))))) a47_r4))
def a47_r24 : ACode := .reg [{ op := .mov (.c (.bool false)), dst := some 8 }]
def a47 : ACode := (.seq a47_r0 (.seq a47_r1 (.seq (.seq a47_r2 (.block 0 (.loop a47_l3))) (.seq a47_r24 .ret))))
def a47_res : List ARes := [.tmp 8]
theorem a47_ok : Coded Try.prog 47 141 a47 a47_res := ⟨Try.f47, _, by kernel_rfl, rfl, by kernel_rfl, rfl, by kernel_rfl, by kernel_rfl⟩
theorem a47_of {args : List AV} {Q : AV → Prop} (hl : args.length ≤ 141) (h : AW Try.prog 141 a47 (mkS (argT 0 args) [] 0) (retQ a47_res Q)) : ACall Try.prog 47 args Q := acall_coded a47_ok hl h

/- slices.partitionEqualCmpFunc[workflow/timers.Item] -/
def a48_r0 : ACode := .reg [{ op := .mov (.c (.int .i64 0)), dst := some 10 }]
def a48_r1 : ACode := .draw [{ op := .mov (.t 0), dst := some 13 },
    { op := .mov (.t 1), dst := some 14 },
    { op := .mov (.t 0), dst := some 15 },
    { op := .mov (.t 3), dst := some 16 },
    { op := .mov (.t 0), dst := some 17 },
    { op := .mov (.t 3), dst := some 18 },
    { op := .iad 2 (.t 17) (.t 18), dst := some 19 },
    { op := .load 2 true (.t 19), dst := some 20 },
    { op := .mov (.t 0), dst := some 21 },
    { op := .mov (.t 1), dst := some 22 },
    { op := .iad 2 (.t 21) (.t 22), dst := some 23 },
    { op := .load 2 true (.t 23), dst := some 24 },
    { op := .iad 2 (.t 13) (.t 14), dst := some 25 },
    { op := .store 2 true (.t 25) (.t 20), dst := none },
    { op := .iad 2 (.t 15) (.t 16), dst := some 26 },
    { op := .store 2 true (.t 26) (.t 24), dst := none }]
    []
    (.take 0 (.take 1 (.take 2 (.take 3 (.take 4 (.take 5 (.take 6 (.take 7 (.take 8 (.take 9 (.take 10 (.take 11 (.take 12 (.one 13 (.take 14 (.one 15 (.done)))))))))))))))))
def a48_r2 : ACode := .reg [{ op := .mov (.t 1), dst := some 27 },
    { op := .bin .add (.t 27) (.c (.int .i64 1)), dst := some 28 },
    { op := .mov (.t 2), dst := some 29 },
    { op := .bin .sub (.t 29) (.c (.int .i64 1)), dst := some 30 },
    { op := .mov (.t 28), dst := some 11 },
    { op := .mov (.t 30), dst := some 12 }]
def a48_r3 : ACode := .draw [{ op := .mov (.t 11), dst := some 31 },
    { op := .mov (.t 12), dst := some 32 },
    { op := .bin .leq (.t 31) (.t 32), dst := some 33 },
    { op := .mov (.t 33), dst := some 34 },
    { op := .mov (.t 4), dst := some 35, g := some (34, true) },
    { op := .mov (.t 0), dst := some 36, g := some (34, true) },
    { op := .mov (.t 1), dst := some 37, g := some (34, true) },
    { op := .iad 2 (.t 36) (.t 37), dst := some 38, g := some (34, true) },
    { op := .load 2 true (.t 38), dst := some 39, g := some (34, true) },
    { op := .mov (.t 0), dst := some 40, g := some (34, true) },
    { op := .mov (.t 11), dst := some 41, g := some (34, true) },
    { op := .iad 2 (.t 40) (.t 41), dst := some 42, g := some (34, true) },
    { op := .load 2 true (.t 42), dst := some 43, g := some (34, true) },
    { op := .callv (.t 35) [(.t 39), (.t 43)], dst := some 44, g := some (34, true) },
    { op := .bin .lss (.t 44) (.c (.int .i64 0)), dst := some 45, g := some (34, true) },
    { op := .not (.t 45), dst := some 46, g := some (34, true) },
    { op := .pick (.t 34) (.t 46) (.c (.bool false)), dst := some 47 }]
    []
    (.take 0 (.take 1 (.take 2 (.take 3 (.take 4 (.take 5 (.take 6 (.take 7 (.take 8 (.take 9 (.take 10 (.take 11 (.take 12 (.one 13 (.take 14 (.take 15 (.take 16 (.done))))))))))))))))))
def a48_r4 : ACode := .reg [{ op := .mov (.t 11), dst := some 48 },
    { op := .bin .add (.t 48) (.c (.int .i64 1)), dst := some 49 },
    { op := .mov (.t 49), dst := some 11 }]
def a48_l0 : ACode := (.seq (.seq a48_r3 (.cond (.t 47) .skip (.exit 2))) (.block 3 a48_r4))
def a48_r5 : ACode := .draw [{ op := .mov (.t 11), dst := some 50 },
    { op := .mov (.t 12), dst := some 51 },
    { op := .bin .leq (.t 50) (.t 51), dst := some 52 },
    { op := .mov (.t 52), dst := some 53 },
    { op := .mov (.t 4), dst := some 54, g := some (53, true) },
    { op := .mov (.t 0), dst := some 55, g := some (53, true) },
    { op := .mov (.t 1), dst := some 56, g := some (53, true) },
    { op := .iad 2 (.t 55) (.t 56), dst := some 57, g := some (53, true) },
    { op := .load 2 true (.t 57), dst := some 58, g := some (53, true) },
    { op := .mov (.t 0), dst := some 59, g := some (53, true) },
    { op := .mov (.t 12), dst := some 60, g := some (53, true) },
    { op := .iad 2 (.t 59) (.t 60), dst := some 61, g := some (53, true) },
    { op := .load 2 true (.t 61), dst := some 62, g := some (53, true) },
    { op := .callv (.t 54) [(.t 58), (.t 62)], dst := some 63, g := some (53, true) },
    { op := .bin .lss (.t 63) (.c (.int .i64 0)), dst := some 64, g := some (53, true) },
    { op := .pick (.t 53) (.t 64) (.c (.bool false)), dst := some 65 }]
    []
    (.take 0 (.take 1 (.take 2 (.take 3 (.take 4 (.take 5 (.take 6 (.take 7 (.take 8 (.take 9 (.take 10 (.take 11 (.take 12 (.one 13 (.take 14 (.take 15 (.done)))))))))))))))))
def a48_r6 : ACode := .reg [{ op := .mov (.t 12), dst := some 66 },
    { op := .bin .sub (.t 66) (.c (.int .i64 1)), dst := some 67 },
    { op := .mov (.t 67), dst := some 12 }]
def a48_l1 : ACode := (.seq (.seq a48_r5 (.cond (.t 65) .skip (.exit 4))) (.block 5 a48_r6))
def a48_r7 : ACode := .reg [{ op := .mov (.t 11), dst := some 68 },
    { op := .mov (.t 12), dst := some 69 },
    { op := .bin .gtr (.t 68) (.t 69), dst := some 70 }]
def a48_r8 : ACode := .draw [{ op := .mov (.t 0), dst := some 71 },
    { op := .mov (.t 11), dst := some 72 },
    { op := .mov (.t 0), dst := some 73 },
    { op := .mov (.t 12), dst := some 74 },
    { op := .mov (.t 0), dst := some 75 },
    { op := .mov (.t 12), dst := some 76 },
    { op := .iad 2 (.t 75) (.t 76), dst := some 77 },
    { op := .load 2 true (.t 77), dst := some 78 },
    { op := .mov (.t 0), dst := some 79 },
    { op := .mov (.t 11), dst := some 80 },
    { op := .iad 2 (.t 79) (.t 80), dst := some 81 },
    { op := .load 2 true (.t 81), dst := some 82 },
    { op := .iad 2 (.t 71) (.t 72), dst := some 83 },
    { op := .store 2 true (.t 83) (.t 78), dst := none },
    { op := .iad 2 (.t 73) (.t 74), dst := some 84 },
    { op := .store 2 true (.t 84) (.t 82), dst := none }]
    []
    (.take 0 (.take 1 (.take 2 (.take 3 (.take 4 (.take 5 (.take 6 (.take 7 (.take 8 (.take 9 (.take 10 (.take 11 (.take 12 (.one 13 (.take 14 (.one 15 (.done)))))))))))))))))
def a48_r9 : ACode := .reg [{ op := .mov (.t 11), dst := some 85 },
    { op := .bin .add (.t 85) (.c (.int .i64 1)), dst := some 86 },
    { op := .mov (.t 86), dst := some 11 }]
def a48_r10 : ACode := .reg [{ op := .mov (.t 12), dst := some 87 },
    { op := .bin .sub (.t 87) (.c (.int .i64 1)), dst := some 88 },
    { op := .mov (.t 88), dst := some 12 }]
def a48_l2 : ACode := (.block 1 (.seq (.block 2 (.loop a48_l0)) (.seq (.block 4 (.loop a48_l1)) (.seq (.seq a48_r7 (.cond (.t 70) (.exit 0) .skip)) (.seq a48_r8 (.seq a48_r9 a48_r10))))))
def a48_r11 : ACode := .reg [{ op := .mov (.t 11), dst := some 89 },
    { op := .mov (.t 89), dst := some 10 }]
def a48 : ACode := (.seq a48_r0 (.seq a48_r1 (.seq a48_r2 (.seq (.block 0 (.loop a48_l2)) (.seq a48_r11 .ret)))))
def a48_res : List ARes := [.tmp 10]
theorem a48_ok : Coded Try.prog 48 90 a48 a48_res := ⟨Try.f48, _, by kernel_rfl, rfl, by kernel_rfl, rfl, by kernel_rfl, by kernel_rfl⟩
theorem a48_of {args : List AV} {Q : AV → Prop} (hl : args.length ≤ 90) (h : AW Try.prog 90 a48 (mkS (argT 0 args) [] 0) (retQ a48_res Q)) : ACall Try.prog 48 args Q := acall_coded a48_ok hl h

/- slices.partitionCmpFunc[workflow/timers.Item] -/
def a49_r0 : ACode := .reg [{ op := .mov (.c (.int .i64 0)), dst := some 10 },
    { op := .mov (.c (.bool false)), dst := some 11 }]
def a49_r1 : ACode := .draw [{ op := .mov (.t 0), dst := some 14 },
    { op := .mov (.t 1), dst := some 15 },
    { op := .mov (.t 0), dst := some 16 },
    { op := .mov (.t 3), dst := some 17 },
    { op := .mov (.t 0), dst := some 18 },
    { op := .mov (.t 3), dst := some 19 },
    { op := .iad 2 (.t 18) (.t 19), dst := some 20 },
    { op := .load 2 true (.t 20), dst := some 21 },
    { op := .mov (.t 0), dst := some 22 },
    { op := .mov (.t 1), dst := some 23 },
    { op := .iad 2 (.t 22) (.t 23), dst := some 24 },
    { op := .load 2 true (.t 24), dst := some 25 },
    { op := .iad 2 (.t 14) (.t 15), dst := some 26 },
    { op := .store 2 true (.t 26) (.t 21), dst := none },
    { op := .iad 2 (.t 16) (.t 17), dst := some 27 },
    { op := .store 2 true (.t 27) (.t 25), dst := none }]
    []
    (.take 0 (.take 1 (.take 2 (.take 3 (.take 4 (.take 5 (.take 6 (.take 7 (.take 8 (.take 9 (.take 10 (.take 11 (.take 12 (.one 13 (.take 14 (.one 15 (.done)))))))))))))))))
def a49_r2 : ACode := .reg [{ op := .mov (.t 1), dst := some 28 },
    { op := .bin .add (.t 28) (.c (.int .i64 1)), dst := some 29 },
    { op := .mov (.t 2), dst := some 30 },
    { op := .bin .sub (.t 30) (.c (.int .i64 1)), dst := some 31 },
    { op := .mov (.t 29), dst := some 12 },
    { op := .mov (.t 31), dst := some 13 }]
def a49_r3 : ACode := .draw [{ op := .mov (.t 12), dst := some 32 },
    { op := .mov (.t 13), dst := some 33 },
    { op := .bin .leq (.t 32) (.t 33), dst := some 34 },
    { op := .mov (.t 34), dst := some 35 },
    { op := .mov (.t 4), dst := some 36, g := some (35, true) },
    { op := .mov (.t 0), dst := some 37, g := some (35, true) },
    { op := .mov (.t 12), dst := some 38, g := some (35, true) },
    { op := .iad 2 (.t 37) (.t 38), dst := some 39, g := some (35, true) },
    { op := .load 2 true (.t 39), dst := some 40, g := some (35, true) },
    { op := .mov (.t 0), dst := some 41, g := some (35, true) },
    { op := .mov (.t 1), dst := some 42, g := some (35, true) },
    { op := .iad 2 (.t 41) (.t 42), dst := some 43, g := some (35, true) },
    { op := .load 2 true (.t 43), dst := some 44, g := some (35, true) },
    { op := .callv (.t 36) [(.t 40), (.t 44)], dst := some 45, g := some (35, true) },
    { op := .bin .lss (.t 45) (.c (.int .i64 0)), dst := some 46, g := some (35, true) },
    { op := .pick (.t 35) (.t 46) (.c (.bool false)), dst := some 47 }]
    []
    (.take 0 (.take 1 (.take 2 (.take 3 (.take 4 (.take 5 (.take 6 (.take 7 (.take 8 (.take 9 (.take 10 (.take 11 (.take 12 (.one 13 (.take 14 (.take 15 (.done)))))))))))))))))
def a49_r4 : ACode := .reg [{ op := .mov (.t 12), dst := some 48 },
    { op := .bin .add (.t 48) (.c (.int .i64 1)), dst := some 49 },
    { op := .mov (.t 49), dst := some 12 }]
def a49_l0 : ACode := (.seq (.seq a49_r3 (.cond (.t 47) .skip (.exit 0))) (.block 1 a49_r4))
def a49_r5 : ACode := .draw [{ op := .mov (.t 12), dst := some 50 },
    { op := .mov (.t 13), dst := some 51 },
    { op := .bin .leq (.t 50) (.t 51), dst := some 52 },
    { op := .mov (.t 52), dst := some 53 },
    { op := .mov (.t 4), dst := some 54, g := some (53, true) },
    { op := .mov (.t 0), dst := some 55, g := some (53, true) },
    { op := .mov (.t 13), dst := some 56, g := some (53, true) },
    { op := .iad 2 (.t 55) (.t 56), dst := some 57, g := some (53, true) },
    { op := .load 2 true (.t 57), dst := some 58, g := some (53, true) },
    { op := .mov (.t 0), dst := some 59, g := some (53, true) },
    { op := .mov (.t 1), dst := some 60, g := some (53, true) },
    { op := .iad 2 (.t 59) (.t 60), dst := some 61, g := some (53, true) },
    { op := .load 2 true (.t 61), dst := some 62, g := some (53, true) },
    { op := .callv (.t 54) [(.t 58), (.t 62)], dst := some 63, g := some (53, true) },
    { op := .bin .lss (.t 63) (.c (.int .i64 0)), dst := some 64, g := some (53, true) },
    { op := .not (.t 64), dst := some 65, g := some (53, true) },
    { op := .pick (.t 53) (.t 65) (.c (.bool false)), dst := some 66 }]
    []
    (.take 0 (.take 1 (.take 2 (.take 3 (.take 4 (.take 5 (.take 6 (.take 7 (.take 8 (.take 9 (.take 10 (.take 11 (.take 12 (.one 13 (.take 14 (.take 15 (.take 16 (.done))))))))))))))))))
def a49_r6 : ACode := .reg [{ op := .mov (.t 13), dst := some 67 },
    { op := .bin .sub (.t 67) (.c (.int .i64 1)), dst := some 68 },
    { op := .mov (.t 68), dst := some 13 }]
def a49_l1 : ACode := (.seq (.seq a49_r5 (.cond (.t 66) .skip (.exit 2))) (.block 3 a49_r6))
def a49_r7 : ACode := .reg [{ op := .mov (.t 12), dst := some 69 },
    { op := .mov (.t 13), dst := some 70 },
    { op := .bin .gtr (.t 69) (.t 70), dst := some 71 }]
def a49_r8 : ACode := .draw [{ op := .mov (.t 0), dst := some 72 },
    { op := .mov (.t 13), dst := some 73 },
    { op := .mov (.t 0), dst := some 74 },
    { op := .mov (.t 1), dst := some 75 },
    { op := .mov (.t 0), dst := some 76 },
    { op := .mov (.t 1), dst := some 77 },
    { op := .iad 2 (.t 76) (.t 77), dst := some 78 },
    { op := .load 2 true (.t 78), dst := some 79 },
    { op := .mov (.t 0), dst := some 80 },
    { op := .mov (.t 13), dst := some 81 },
    { op := .iad 2 (.t 80) (.t 81), dst := some 82 },
    { op := .load 2 true (.t 82), dst := some 83 },
    { op := .iad 2 (.t 72) (.t 73), dst := some 84 },
    { op := .store 2 true (.t 84) (.t 79), dst := none },
    { op := .iad 2 (.t 74) (.t 75), dst := some 85 },
    { op := .store 2 true (.t 85) (.t 83), dst := none }]
    []
    (.take 0 (.take 1 (.take 2 (.take 3 (.take 4 (.take 5 (.take 6 (.take 7 (.take 8 (.take 9 (.take 10 (.take 11 (.take 12 (.one 13 (.take 14 (.one 15 (.done)))))))))))))))))
def a49_r9 : ACode := .reg [{ op := .mov (.t 13), dst := some 86 },
    { op := .mov (.t 86), dst := some 10 },
    { op := .mov (.c (.bool true)), dst := some 11 }]
def a49_r10 : ACode := .draw [{ op := .mov (.t 0), dst := some 87 },
    { op := .mov (.t 12), dst := some 88 },
    { op := .mov (.t 0), dst := some 89 },
    { op := .mov (.t 13), dst := some 90 },
    { op := .mov (.t 0), dst := some 91 },
    { op := .mov (.t 13), dst := some 92 },
    { op := .iad 2 (.t 91) (.t 92), dst := some 93 },
    { op := .load 2 true (.t 93), dst := some 94 },
    { op := .mov (.t 0), dst := some 95 },
    { op := .mov (.t 12), dst := some 96 },
    { op := .iad 2 (.t 95) (.t 96), dst := some 97 },
    { op := .load 2 true (.t 97), dst := some 98 },
    { op := .iad 2 (.t 87) (.t 88), dst := some 99 },
    { op := .store 2 true (.t 99) (.t 94), dst := none },
    { op := .iad 2 (.t 89) (.t 90), dst := some 100 },
    { op := .store 2 true (.t 100) (.t 98), dst := none }]
    []
    (.take 0 (.take 1 (.take 2 (.take 3 (.take 4 (.take 5 (.take 6 (.take 7 (.take 8 (.take 9 (.take 10 (.take 11 (.take 12 (.one 13 (.take 14 (.one 15 (.done)))))))))))))))))
def a49_r11 : ACode := .reg [{ op := .mov (.t 12), dst := some 101 },
    { op := .bin .add (.t 101) (.c (.int .i64 1)), dst := some 102 },
    { op := .mov (.t 102), dst := some 12 }]
def a49_r12 : ACode := .reg [{ op := .mov (.t 13), dst := some 103 },
    { op := .bin .sub (.t 103) (.c (.int .i64 1)), dst := some 104 },
    { op := .mov (.t 104), dst := some 13 }]
def a49_r13 : ACode := .draw [{ op := .mov (.t 12), dst := some 105 },
    { op := .mov (.t 13), dst := some 106 },
    { op := .bin .leq (.t 105) (.t 106), dst := some 107 },
    { op := .mov (.t 107), dst := some 108 },
    { op := .mov (.t 4), dst := some 109, g := some (108, true) },
    { op := .mov (.t 0), dst := some 110, g := some (108, true) },
    { op := .mov (.t 12), dst := some 111, g := some (108, true) },
    { op := .iad 2 (.t 110) (.t 111), dst := some 112, g := some (108, true) },
    { op := .load 2 true (.t 112), dst := some 113, g := some (108, true) },
    { op := .mov (.t 0), dst := some 114, g := some (108, true) },
    { op := .mov (.t 1), dst := some 115, g := some (108, true) },
    { op := .iad 2 (.t 114) (.t 115), dst := some 116, g := some (108, true) },
    { op := .load 2 true (.t 116), dst := some 117, g := some (108, true) },
    { op := .callv (.t 109) [(.t 113), (.t 117)], dst := some 118, g := some (108, true) },
    { op := .bin .lss (.t 118) (.c (.int .i64 0)), dst := some 119, g := some (108, true) },
    { op := .pick (.t 108) (.t 119) (.c (.bool false)), dst := some 120 }]
    []
    (.take 0 (.take 1 (.take 2 (.take 3 (.take 4 (.take 5 (.take 6 (.take 7 (.take 8 (.take 9 (.take 10 (.take 11 (.take 12 (.one 13 (.take 14 (.take 15 (.done)))))))))))))))))
def a49_r14 : ACode := .reg [{ op := .mov (.t 12), dst := some 121 },
    { op := .bin .add (.t 121) (.c (.int .i64 1)), dst := some 122 },
    { op := .mov (.t 122), dst := some 12 }]
def a49_l2 : ACode := (.seq (.seq a49_r13 (.cond (.t 120) .skip (.exit 6))) (.block 7 a49_r14))
def a49_r15 : ACode := .draw [{ op := .mov (.t 12), dst := some 123 },
    { op := .mov (.t 13), dst := some 124 },
    { op := .bin .leq (.t 123) (.t 124), dst := some 125 },
    { op := .mov (.t 125), dst := some 126 },
    { op := .mov (.t 4), dst := some 127, g := some (126, true) },
    { op := .mov (.t 0), dst := some 128, g := some (126, true) },
    { op := .mov (.t 13), dst := some 129, g := some (126, true) },
    { op := .iad 2 (.t 128) (.t 129), dst := some 130, g := some (126, true) },
    { op := .load 2 true (.t 130), dst := some 131, g := some (126, true) },
    { op := .mov (.t 0), dst := some 132, g := some (126, true) },
    { op := .mov (.t 1), dst := some 133, g := some (126, true) },
    { op := .iad 2 (.t 132) (.t 133), dst := some 134, g := some (126, true) },
    { op := .load 2 true (.t 134), dst := some 135, g := some (126, true) },
    { op := .callv (.t 127) [(.t 131), (.t 135)], dst := some 136, g := some (126, true) },
    { op := .bin .lss (.t 136) (.c (.int .i64 0)), dst := some 137, g := some (126, true) },
    { op := .not (.t 137), dst := some 138, g := some (126, true) },
    { op := .pick (.t 126) (.t 138) (.c (.bool false)), dst := some 139 }]
    []
    (.take 0 (.take 1 (.take 2 (.take 3 (.take 4 (.take 5 (.take 6 (.take 7 (.take 8 (.take 9 (.take 10 (.take 11 (.take 12 (.one 13 (.take 14 (.take 15 (.take 16 (.done))))))))))))))))))
def a49_r16 : ACode := .reg [{ op := .mov (.t 13), dst := some 140 },
    { op := .bin .sub (.t 140) (.c (.int .i64 1)), dst := some 141 },
    { op := .mov (.t 141), dst := some 13 }]
def a49_l3 : ACode := (.seq (.seq a49_r15 (.cond (.t 139) .skip (.exit 8))) (.block 9 a49_r16))
def a49_r17 : ACode := .reg [{ op := .mov (.t 12), dst := some 142 },
    { op := .mov (.t 13), dst := some 143 },
    { op := .bin .gtr (.t 142) (.t 143), dst := some 144 }]
def a49_r18 : ACode := .draw [{ op := .mov (.t 0), dst := some 145 },
    { op := .mov (.t 12), dst := some 146 },
    { op := .mov (.t 0), dst := some 147 },
    { op := .mov (.t 13), dst := some 148 },
    { op := .mov (.t 0), dst := some 149 },
    { op := .mov (.t 13), dst := some 150 },
    { op := .iad 2 (.t 149) (.t 150), dst := some 151 },
    { op := .load 2 true (.t 151), dst := some 152 },
    { op := .mov (.t 0), dst := some 153 },
    { op := .mov (.t 12), dst := some 154 },
    { op := .iad 2 (.t 153) (.t 154), dst := some 155 },
    { op := .load 2 true (.t 155), dst := some 156 },
    { op := .iad 2 (.t 145) (.t 146), dst := some 157 },
    { op := .store 2 true (.t 157) (.t 152), dst := none },
    { op := .iad 2 (.t 147) (.t 148), dst := some 158 },
    { op := .store 2 true (.t 158) (.t 156), dst := none }]
    []
    (.take 0 (.take 1 (.take 2 (.take 3 (.take 4 (.take 5 (.take 6 (.take 7 (.take 8 (.take 9 (.take 10 (.take 11 (.take 12 (.one 13 (.take 14 (.one 15 (.done)))))))))))))))))
def a49_r19 : ACode := .reg [{ op := .mov (.t 12), dst := some 159 },
    { op := .bin .add (.t 159) (.c (.int .i64 1)), dst := some 160 },
    { op := .mov (.t 160), dst := some 12 }]
def a49_r20 : ACode := .reg [{ op := .mov (.t 13), dst := some 161 },
    { op := .bin .sub (.t 161) (.c (.int .i64 1)), dst := some 162 },
    { op := .mov (.t 162), dst := some 13 }]
def a49_l4 : ACode := (.block 5 (.seq (.block 6 (.loop a49_l2)) (.seq (.block 8 (.loop a49_l3)) (.seq (.seq a49_r17 (.cond (.t 144) (.exit 4) .skip)) (.seq a49_r18 (.seq a49_r19 a49_r20))))))
def a49_r21 : ACode := .draw [{ op := .mov (.t 0), dst := some 163 },
    { op := .mov (.t 13), dst := some 164 },
    { op := .mov (.t 0), dst := some 165 },
    { op := .mov (.t 1), dst := some 166 },
    { op := .mov (.t 0), dst := some 167 },
    { op := .mov (.t 1), dst := some 168 },
    { op := .iad 2 (.t 167) (.t 168), dst := some 169 },
    { op := .load 2 true (.t 169), dst := some 170 },
    { op := .mov (.t 0), dst := some 171 },
    { op := .mov (.t 13), dst := some 172 },
    { op := .iad 2 (.t 171) (.t 172), dst := some 173 },
    { op := .load 2 true (.t 173), dst := some 174 },
    { op := .iad 2 (.t 163) (.t 164), dst := some 175 },
    { op := .store 2 true (.t 175) (.t 170), dst := none },
    { op := .iad 2 (.t 165) (.t 166), dst := some 176 },
    { op := .store 2 true (.t 176) (.t 174), dst := none }]
    []
    (.take 0 (.take 1 (.take 2 (.take 3 (.take 4 (.take 5 (.take 6 (.take 7 (.take 8 (.take 9 (.take 10 (.take 11 (.take 12 (.one 13 (.take 14 (.one 15 (.done)))))))))))))))))
def a49_r22 : ACode := .reg [{ op := .mov (.t 13), dst := some 177 },
    { op := .mov (.t 177), dst := some 10 },
    { op := .mov (.c (.bool false)), dst := some 11 }]
def a49 : ACode := (.seq a49_r0 (.seq a49_r1 (.seq a49_r2 (.seq (.block 0 (.loop a49_l0)) (.seq (.block 2 (.loop a49_l1)) (.seq (.seq a49_r7 (.cond (.t 71) (.seq a49_r8 (.seq a49_r9 .ret)) .skip)) (.seq a49_r10 (.seq a49_r11 (.seq a49_r12 (.seq (.block 4 (.loop a49_l4)) (.seq a49_r21 (.seq a49_r22 .ret))))))))))))
def a49_res : List ARes := [.tmp 10, .tmp 11]
theorem a49_ok : Coded Try.prog 49 178 a49 a49_res := ⟨Try.f49, _, by kernel_rfl, rfl, by kernel_rfl, rfl, by kernel_rfl, by kernel_rfl⟩
theorem a49_of {args : List AV} {Q : AV → Prop} (hl : args.length ≤ 178) (h : AW Try.prog 178 a49 (mkS (argT 0 args) [] 0) (retQ a49_res Q)) : ACall Try.prog 49 args Q := acall_coded a49_ok hl h

/- math/bits.Len64 -/
def a51_r0 : ACode := .reg [{ op := .mov (.c (.int .i64 0)), dst := some 2 }]
def a51_r1 : ACode := .reg [{ op := .mov (.t 0), dst := some 3 },
    { op := .bin .geq (.t 3) (.c (.int .u64 4294967296)), dst := some 4 }]
def a51_r2 : ACode := .reg [{ op := .mov (.t 0), dst := some 5 },
    { op := .bin .shr (.t 5) (.c (.int .u64 32)), dst := some 6 },
    { op := .mov (.t 6), dst := some 0 }]
def a51_r3 : ACode := .reg [{ op := .mov (.c (.int .i64 32)), dst := some 2 }]
def a51_r4 : ACode := .reg [{ op := .mov (.t 0), dst := some 7 },
    { op := .bin .geq (.t 7) (.c (.int .u64 65536)), dst := some 8 }]
def a51_r5 : ACode := .reg [{ op := .mov (.t 0), dst := some 9 },
    { op := .bin .shr (.t 9) (.c (.int .u64 16)), dst := some 10 },
    { op := .mov (.t 10), dst := some 0 }]
def a51_r6 : ACode := .reg [{ op := .mov (.t 2), dst := some 11 },
    { op := .bin .add (.t 11) (.c (.int .i64 16)), dst := some 12 },
    { op := .mov (.t 12), dst := some 2 }]
def a51_r7 : ACode := .reg [{ op := .mov (.t 0), dst := some 13 },
    { op := .bin .geq (.t 13) (.c (.int .u64 256)), dst := some 14 }]
def a51_r8 : ACode := .reg [{ op := .mov (.t 0), dst := some 15 },
    { op := .bin .shr (.t 15) (.c (.int .u64 8)), dst := some 16 },
    { op := .mov (.t 16), dst := some 0 }]
def a51_r9 : ACode := .reg [{ op := .mov (.t 2), dst := some 17 },
    { op := .bin .add (.t 17) (.c (.int .i64 8)), dst := some 18 },
    { op := .mov (.t 18), dst := some 2 }]
def a51_r10 : ACode := .reg [{ op := .mov (.t 2), dst := some 19 },
    { op := .mov (.t 0), dst := some 20 },
    { op := .conv .u8 (.t 20), dst := some 21 },
    { op := .sidx (.c (.str [0, 1, 2, 2, 3, 3, 3, 3, 4, 4, 4, 4, 4, 4, 4, 4, 5, 5, 5, 5, 5, 5, 5, 5, 5, 5, 5, 5, 5, 5, 5, 5, 6, 6, 6, 6, 6, 6, 6, 6, 6, 6, 6, 6, 6, 6, 6, 6, 6, 6, 6, 6, 6, 6, 6, 6, 6, 6, 6, 6, 6, 6, 6, 6, 7, 7, 7, 7, 7, 7, 7, 7, 7, 7, 7, 7, 7, 7, 7, 7, 7, 7, 7, 7, 7, 7, 7, 7, 7, 7, 7, 7, 7, 7, 7, 7, 7, 7, 7, 7, 7, 7, 7, 7, 7, 7, 7, 7, 7, 7, 7, 7, 7, 7, 7, 7, 7, 7, 7, 7, 7, 7, 7, 7, 7, 7, 7, 7, 8, 8, 8, 8, 8, 8, 8, 8, 8, 8, 8, 8, 8, 8, 8, 8, 8, 8, 8, 8, 8, 8, 8, 8, 8, 8, 8, 8, 8, 8, 8, 8, 8, 8, 8, 8, 8, 8, 8, 8, 8, 8, 8, 8, 8, 8, 8, 8, 8, 8, 8, 8, 8, 8, 8, 8, 8, 8, 8, 8, 8, 8, 8, 8, 8, 8, 8, 8, 8, 8, 8, 8, 8, 8, 8, 8, 8, 8, 8, 8, 8, 8, 8, 8, 8, 8, 8, 8, 8, 8, 8, 8, 8, 8, 8, 8, 8, 8, 8, 8, 8, 8, 8, 8, 8, 8, 8, 8, 8, 8, 8, 8, 8, 8, 8, 8, 8, 8, 8, 8, 8, 8, 8, 8, 8, 8, 8, 8])) (.t 21), dst := some 22 },
    { op := .conv .i64 (.t 22), dst := some 23 },
    { op := .bin .add (.t 19) (.t 23), dst := some 24 },
    { op := .mov (.t 24), dst := some 2 }]
def a51 : ACode := (.seq a51_r0 (.seq (.seq a51_r1 (.cond (.t 4) (.seq a51_r2 a51_r3) .skip)) (.seq (.seq a51_r4 (.cond (.t 8) (.seq a51_r5 a51_r6) .skip)) (.seq (.seq a51_r7 (.cond (.t 14) (.seq a51_r8 a51_r9) .skip)) (.seq a51_r10 .ret)))))
def a51_res : List ARes := [.tmp 2]
theorem a51_ok : Coded Try.prog 51 25 a51 a51_res := ⟨Try.f51, _, by kernel_rfl, rfl, by kernel_rfl, rfl, by kernel_rfl, by kernel_rfl⟩
theorem a51_of {args : List AV} {Q : AV → Prop} (hl : args.length ≤ 25) (h : AW Try.prog 25 a51 (mkS (argT 0 args) [] 0) (retQ a51_res Q)) : ACall Try.prog 51 args Q := acall_coded a51_ok hl h

/- slices.siftDownCmpFunc[workflow/timers.Item] -/
def a52_r0 : ACode := .reg [{ op := .mov (.t 1), dst := some 12 },
    { op := .mov (.t 12), dst := some 10 }]
def a52_r1 : ACode := .reg [{ op := .mov (.t 10), dst := some 13 },
    { op := .bin .mul (.c (.int .i64 2)) (.t 13), dst := some 14 },
    { op := .bin .add (.t 14) (.c (.int .i64 1)), dst := some 15 },
    { op := .mov (.t 15), dst := some 11 }]
def a52_r2 : ACode := .reg [{ op := .mov (.t 11), dst := some 16 },
    { op := .mov (.t 2), dst := some 17 },
    { op := .bin .geq (.t 16) (.t 17), dst := some 18 }]
def a52_r3 : ACode := .draw [{ op := .mov (.t 11), dst := some 19 },
    { op := .bin .add (.t 19) (.c (.int .i64 1)), dst := some 20 },
    { op := .mov (.t 2), dst := some 21 },
    { op := .bin .lss (.t 20) (.t 21), dst := some 22 },
    { op := .mov (.t 22), dst := some 23 },
    { op := .mov (.t 4), dst := some 24, g := some (23, true) },
    { op := .mov (.t 0), dst := some 25, g := some (23, true) },
    { op := .mov (.t 3), dst := some 26, g := some (23, true) },
    { op := .mov (.t 11), dst := some 27, g := some (23, true) },
    { op := .bin .add (.t 26) (.t 27), dst := some 28, g := some (23, true) },
    { op := .iad 2 (.t 25) (.t 28), dst := some 29, g := some (23, true) },
    { op := .load 2 true (.t 29), dst := some 30, g := some (23, true) },
    { op := .mov (.t 0), dst := some 31, g := some (23, true) },
    { op := .mov (.t 3), dst := some 32, g := some (23, true) },
    { op := .mov (.t 11), dst := some 33, g := some (23, true) },
    { op := .bin .add (.t 32) (.t 33), dst := some 34, g := some (23, true) },
    { op := .bin .add (.t 34) (.c (.int .i64 1)), dst := some 35, g := some (23, true) },
    { op := .iad 2 (.t 31) (.t 35), dst := some 36, g := some (23, true) },
    { op := .load 2 true (.t 36), dst := some 37, g := some (23, true) },
    { op := .callv (.t 24) [(.t 30), (.t 37)], dst := some 38, g := some (23, true) },
    { op := .bin .lss (.t 38) (.c (.int .i64 0)), dst := some 39, g := some (23, true) },
    { op := .pick (.t 23) (.t 39) (.c (.bool false)), dst := some 40 }]
    []
    (.take 0 (.take 1 (.take 2 (.take 3 (.take 4 (.take 5 (.take 6 (.take 7 (.take 8 (.take 9 (.take 10 (.take 11 (.take 12 (.take 13 (.take 14 (.take 15 (.take 16 (.take 17 (.take 18 (.one 19 (.take 20 (.take 21 (.done)))))))))))))))))))))))
def a52_r4 : ACode := .reg [{ op := .mov (.t 11), dst := some 41 },
    { op := .bin .add (.t 41) (.c (.int .i64 1)), dst := some 42 },
    { op := .mov (.t 42), dst := some 11 }]
def a52_r5 : ACode := .draw [{ op := .mov (.t 4), dst := some 43 },
    { op := .mov (.t 0), dst := some 44 },
    { op := .mov (.t 3), dst := some 45 },
    { op := .mov (.t 10), dst := some 46 },
    { op := .bin .add (.t 45) (.t 46), dst := some 47 },
    { op := .iad 2 (.t 44) (.t 47), dst := some 48 },
    { op := .load 2 true (.t 48), dst := some 49 },
    { op := .mov (.t 0), dst := some 50 },
    { op := .mov (.t 3), dst := some 51 },
    { op := .mov (.t 11), dst := some 52 },
    { op := .bin .add (.t 51) (.t 52), dst := some 53 },
    { op := .iad 2 (.t 50) (.t 53), dst := some 54 },
    { op := .load 2 true (.t 54), dst := some 55 },
    { op := .callv (.t 43) [(.t 49), (.t 55)], dst := some 56 },
    { op := .bin .lss (.t 56) (.c (.int .i64 0)), dst := some 57 },
    { op := .not (.t 57), dst := some 58 }]
    []
    (.take 0 (.take 1 (.take 2 (.take 3 (.take 4 (.take 5 (.take 6 (.take 7 (.take 8 (.take 9 (.take 10 (.take 11 (.take 12 (.one 13 (.take 14 (.take 15 (.done)))))))))))))))))
def a52_r6 : ACode := .draw [{ op := .mov (.t 0), dst := some 59 },
    { op := .mov (.t 3), dst := some 60 },
    { op := .mov (.t 10), dst := some 61 },
    { op := .bin .add (.t 60) (.t 61), dst := some 62 },
    { op := .mov (.t 0), dst := some 63 },
    { op := .mov (.t 3), dst := some 64 },
    { op := .mov (.t 11), dst := some 65 },
    { op := .bin .add (.t 64) (.t 65), dst := some 66 },
    { op := .mov (.t 0), dst := some 67 },
    { op := .mov (.t 3), dst := some 68 },
    { op := .mov (.t 11), dst := some 69 },
    { op := .bin .add (.t 68) (.t 69), dst := some 70 },
    { op := .iad 2 (.t 67) (.t 70), dst := some 71 },
    { op := .load 2 true (.t 71), dst := some 72 },
    { op := .mov (.t 0), dst := some 73 },
    { op := .mov (.t 3), dst := some 74 },
    { op := .mov (.t 10), dst := some 75 },
    { op := .bin .add (.t 74) (.t 75), dst := some 76 },
    { op := .iad 2 (.t 73) (.t 76), dst := some 77 },
    { op := .load 2 true (.t 77), dst := some 78 },
    { op := .iad 2 (.t 59) (.t 62), dst := some 79 },
    { op := .store 2 true (.t 79) (.t 72), dst := none },
    { op := .iad 2 (.t 63) (.t 66), dst := some 80 },
    { op := .store 2 true (.t 80) (.t 78), dst := none }]
    []
    (.take 0 (.take 1 (.take 2 (.take 3 (.take 4 (.take 5 (.take 6 (.take 7 (.take 8 (.take 9 (.take 10 (.take 11 (.take 12 (.take 13 (.take 14 (.take 15 (.take 16 (.take 17 (.take 18 (.take 19 (.take 20 (.one 21 (.take 22 (.one 23 (.done)))))))))))))))))))))))))
def a52_r7 : ACode := .reg [{ op := .mov (.t 11), dst := some 81 },
    { op := .mov (.t 81), dst := some 10 }]
def a52_l0 : ACode := (.block 1 (.seq a52_r1 (.seq (.seq a52_r2 (.cond (.t 18) (.exit 0) .skip)) (.seq (.seq a52_r3 (.cond (.t 40) a52_r4 .skip)) (.seq (.seq a52_r5 (.cond (.t 58) .ret .skip)) (.seq a52_r6 a52_r7))))))
def a52 : ACode := (.seq a52_r0 (.block 0 (.loop a52_l0)))
def a52_res : List ARes := []
theorem a52_ok : Coded Try.prog 52 82 a52 a52_res := ⟨Try.f52, _, by kernel_rfl, rfl, by kernel_rfl, rfl, by kernel_rfl, by kernel_rfl⟩
theorem a52_of {args : List AV} {Q : AV → Prop} (hl : args.length ≤ 82) (h : AW Try.prog 82 a52 (mkS (argT 0 args) [] 0) (retQ a52_res Q)) : ACall Try.prog 52 args Q := acall_coded a52_ok hl h

/- slices.nextPowerOfTwo -/
def a53_r0 : ACode := .reg [{ op := .mov (.c (.int .u64 0)), dst := some 2 }]
def a53_r1 : ACode := .reg [{ op := .mov (.t 0), dst := some 3 },
    { op := .conv .u64 (.t 3), dst := some 4 },
    { op := .call 41 [(.t 4)], dst := some 5 },
    { op := .bin .shl (.c (.int .u64 1)) (.t 5), dst := some 6 },
    { op := .mov (.t 6), dst := some 2 }]
def a53 : ACode := (.seq a53_r0 (.seq a53_r1 .ret))
def a53_res : List ARes := [.tmp 2]
theorem a53_ok : Coded Try.prog 53 7 a53 a53_res := ⟨Try.f53, _, by kernel_rfl, rfl, by kernel_rfl, rfl, by kernel_rfl, by kernel_rfl⟩
theorem a53_of {args : List AV} {Q : AV → Prop} (hl : args.length ≤ 7) (h : AW Try.prog 7 a53 (mkS (argT 0 args) [] 0) (retQ a53_res Q)) : ACall Try.prog 53 args Q := acall_coded a53_ok hl h

/- (*slices.xorshift).Next -/
def a54_r0 : ACode := .reg [{ op := .mov (.c (.int .u64 0)), dst := some 2 }]
def a54_r1 : ACode := .draw [{ op := .mov (.t 0), dst := some 3 },
    { op := .nilc (.t 3), dst := some 4 },
    { op := .load 1 false (.t 4), dst := some 5 },
    { op := .mov (.t 0), dst := some 6 },
    { op := .nilc (.t 6), dst := some 7 },
    { op := .load 1 false (.t 7), dst := some 8 },
    { op := .bin .shl (.t 8) (.c (.int .u64 13)), dst := some 9 },
    { op := .bin .xor (.t 5) (.t 9), dst := some 10 },
    { op := .nilc (.t 3), dst := some 11 },
    { op := .store 1 false (.t 11) (.t 10), dst := none }]
    []
    (.take 0 (.take 1 (.take 2 (.take 3 (.take 4 (.take 5 (.take 6 (.take 7 (.take 8 (.one 9 (.done)))))))))))
def a54_r2 : ACode := .draw [{ op := .mov (.t 0), dst := some 12 },
    { op := .nilc (.t 12), dst := some 13 },
    { op := .load 1 false (.t 13), dst := some 14 },
    { op := .mov (.t 0), dst := some 15 },
    { op := .nilc (.t 15), dst := some 16 },
    { op := .load 1 false (.t 16), dst := some 17 },
    { op := .bin .shr (.t 17) (.c (.int .u64 7)), dst := some 18 },
    { op := .bin .xor (.t 14) (.t 18), dst := some 19 },
    { op := .nilc (.t 12), dst := some 20 },
    { op := .store 1 false (.t 20) (.t 19), dst := none }]
    []
    (.take 0 (.take 1 (.take 2 (.take 3 (.take 4 (.take 5 (.take 6 (.take 7 (.take 8 (.one 9 (.done)))))))))))
def a54_r3 : ACode := .draw [{ op := .mov (.t 0), dst := some 21 },
    { op := .nilc (.t 21), dst := some 22 },
    { op := .load 1 false (.t 22), dst := some 23 },
    { op := .mov (.t 0), dst := some 24 },
    { op := .nilc (.t 24), dst := some 25 },
    { op := .load 1 false (.t 25), dst := some 26 },
    { op := .bin .shl (.t 26) (.c (.int .u64 17)), dst := some 27 },
    { op := .bin .xor (.t 23) (.t 27), dst := some 28 },
    { op := .nilc (.t 21), dst := some 29 },
    { op := .store 1 false (.t 29) (.t 28), dst := none }]
    []
    (.take 0 (.take 1 (.take 2 (.take 3 (.take 4 (.take 5 (.take 6 (.take 7 (.take 8 (.one 9 (.done)))))))))))
def a54_r4 : ACode := .reg [{ op := .mov (.t 0), dst := some 30 },
    { op := .nilc (.t 30), dst := some 31 },
    { op := .load 1 false (.t 31), dst := some 32 },
    { op := .mov (.t 32), dst := some 2 }]
def a54 : ACode := (.seq a54_r0 (.seq a54_r1 (.seq a54_r2 (.seq a54_r3 (.seq a54_r4 .ret)))))
def a54_res : List ARes := [.tmp 2]
theorem a54_ok : Coded Try.prog 54 33 a54 a54_res := ⟨Try.f54, _, by kernel_rfl, rfl, by kernel_rfl, rfl, by kernel_rfl, by kernel_rfl⟩
theorem a54_of {args : List AV} {Q : AV → Prop} (hl : args.length ≤ 33) (h : AW Try.prog 33 a54 (mkS (argT 0 args) [] 0) (retQ a54_res Q)) : ACall Try.prog 54 args Q := acall_coded a54_ok hl h

/- slices.medianAdjacentCmpFunc[workflow/timers.Item] -/
def a55_r0 : ACode := .reg [{ op := .mov (.c (.int .i64 0)), dst := some 8 }]
def a55_r1 : ACode := .reg [{ op := .mov (.t 0), dst := some 9 },
    { op := .mov (.t 1), dst := some 10 },
    { op := .bin .sub (.t 10) (.c (.int .i64 1)), dst := some 11 },
    { op := .mov (.t 1), dst := some 12 },
    { op := .mov (.t 1), dst := some 13 },
    { op := .bin .add (.t 13) (.c (.int .i64 1)), dst := some 14 },
    { op := .mov (.t 2), dst := some 15 },
    { op := .mov (.t 3), dst := some 16 },
    { op := .call 56 [(.t 9), (.t 11), (.t 12), (.t 14), (.t 15), (.t 16)], dst := some 17 },
    { op := .mov (.t 17), dst := some 8 }]
def a55 : ACode := (.seq a55_r0 (.seq a55_r1 .ret))
def a55_res : List ARes := [.tmp 8]
theorem a55_ok : Coded Try.prog 55 18 a55 a55_res := ⟨Try.f55, _, by kernel_rfl, rfl, by kernel_rfl, rfl, by kernel_rfl, by kernel_rfl⟩
theorem a55_of {args : List AV} {Q : AV → Prop} (hl : args.length ≤ 18) (h : AW Try.prog 18 a55 (mkS (argT 0 args) [] 0) (retQ a55_res Q)) : ACall Try.prog 55 args Q := acall_coded a55_ok hl h

/- slices.medianCmpFunc[workflow/timers.Item] -/
def a56_r0 : ACode := .reg [{ op := .mov (.c (.int .i64 0)), dst := some 12 }]
def a56_r1 : ACode := .reg [{ op := .mov (.t 0), dst := some 14 },
    { op := .mov (.t 1), dst := some 15 },
    { op := .mov (.t 2), dst := some 16 },
    { op := .mov (.t 4), dst := some 17 },
    { op := .mov (.t 5), dst := some 18 },
    { op := .call 57 [(.t 14), (.t 15), (.t 16), (.t 17), (.t 18)], dst := some 19 },
    { op := .mov (.t 19), dst := some 13 },
    { op := .ext (.t 13) 0, dst := some 20 },
    { op := .ext (.t 13) 1, dst := some 21 },
    { op := .mov (.t 20), dst := some 1 },
    { op := .mov (.t 21), dst := some 2 }]
def a56_r2 : ACode := .reg [{ op := .mov (.t 0), dst := some 23 },
    { op := .mov (.t 2), dst := some 24 },
    { op := .mov (.t 3), dst := some 25 },
    { op := .mov (.t 4), dst := some 26 },
    { op := .mov (.t 5), dst := some 27 },
    { op := .call 57 [(.t 23), (.t 24), (.t 25), (.t 26), (.t 27)], dst := some 28 },
    { op := .mov (.t 28), dst := some 22 },
    { op := .ext (.t 22) 0, dst := some 29 },
    { op := .ext (.t 22) 1, dst := some 30 },
    { op := .mov (.t 29), dst := some 2 },
    { op := .mov (.t 30), dst := some 3 }]
def a56_r3 : ACode := .reg [{ op := .mov (.t 0), dst := some 32 },
    { op := .mov (.t 1), dst := some 33 },
    { op := .mov (.t 2), dst := some 34 },
    { op := .mov (.t 4), dst := some 35 },
    { op := .mov (.t 5), dst := some 36 },
    { op := .call 57 [(.t 32), (.t 33), (.t 34), (.t 35), (.t 36)], dst := some 37 },
    { op := .mov (.t 37), dst := some 31 },
    { op := .ext (.t 31) 0, dst := some 38 },
    { op := .ext (.t 31) 1, dst := some 39 },
    { op := .mov (.t 38), dst := some 1 },
    { op := .mov (.t 39), dst := some 2 }]
def a56_r4 : ACode := .reg [{ op := .mov (.t 2), dst := some 40 },
    { op := .mov (.t 40), dst := some 12 }]
def a56 : ACode := (.seq a56_r0 (.seq a56_r1 (.seq a56_r2 (.seq a56_r3 (.seq a56_r4 .ret)))))
def a56_res : List ARes := [.tmp 12]
theorem a56_ok : Coded Try.prog 56 41 a56 a56_res := ⟨Try.f56, _, by kernel_rfl, rfl, by kernel_rfl, rfl, by kernel_rfl, by kernel_rfl⟩
theorem a56_of {args : List AV} {Q : AV → Prop} (hl : args.length ≤ 41) (h : AW Try.prog 41 a56 (mkS (argT 0 args) [] 0) (retQ a56_res Q)) : ACall Try.prog 56 args Q := acall_coded a56_ok hl h

/- slices.order2CmpFunc[workflow/timers.Item] -/
def a57_r0 : ACode := .reg [{ op := .mov (.c (.int .i64 0)), dst := some 10 },
    { op := .mov (.c (.int .i64 0)), dst := some 11 }]
def a57_r1 : ACode := .draw [{ op := .mov (.t 4), dst := some 12 },
    { op := .mov (.t 0), dst := some 13 },
    { op := .mov (.t 2), dst := some 14 },
    { op := .iad 2 (.t 13) (.t 14), dst := some 15 },
    { op := .load 2 true (.t 15), dst := some 16 },
    { op := .mov (.t 0), dst := some 17 },
    { op := .mov (.t 1), dst := some 18 },
    { op := .iad 2 (.t 17) (.t 18), dst := some 19 },
    { op := .load 2 true (.t 19), dst := some 20 },
    { op := .callv (.t 12) [(.t 16), (.t 20)], dst := some 21 },
    { op := .bin .lss (.t 21) (.c (.int .i64 0)), dst := some 22 }]
    []
    (.take 0 (.take 1 (.take 2 (.take 3 (.take 4 (.take 5 (.take 6 (.take 7 (.take 8 (.one 9 (.take 10 (.done))))))))))))
def a57_r2 : ACode := .reg [{ op := .mov (.t 3), dst := some 23 },
    { op := .nilc (.t 23), dst := some 24 },
    { op := .load 1 false (.t 24), dst := some 25 },
    { op := .bin .add (.t 25) (.c (.int .i64 1)), dst := some 26 },
    { op := .nilc (.t 23), dst := some 27 },
    { op := .store 1 false (.t 27) (.t 26), dst := none }]
def a57_r3 : ACode := .reg [{ op := .mov (.t 2), dst := some 28 },
    { op := .mov (.t 1), dst := some 29 },
    { op := .mov (.t 28), dst := some 10 },
    { op := .mov (.t 29), dst := some 11 }]
def a57_r4 : ACode := .reg [{ op := .mov (.t 1), dst := some 30 },
    { op := .mov (.t 2), dst := some 31 },
    { op := .mov (.t 30), dst := some 10 },
    { op := .mov (.t 31), dst := some 11 }]
def a57 : ACode := (.seq a57_r0 (.seq (.seq a57_r1 (.cond (.t 22) (.seq a57_r2 (.seq a57_r3 .ret)) .skip)) (.seq a57_r4 .ret)))
def a57_res : List ARes := [.tmp 10, .tmp 11]
theorem a57_ok : Coded Try.prog 57 32 a57 a57_res := ⟨Try.f57, _, by kernel_rfl, rfl, by kernel_rfl, rfl, by kernel_rfl, by kernel_rfl⟩
theorem a57_of {args : List AV} {Q : AV → Prop} (hl : args.length ≤ 32) (h : AW Try.prog 32 a57 (mkS (argT 0 args) [] 0) (retQ a57_res Q)) : ACall Try.prog 57 args Q := acall_coded a57_ok hl h

/- slices.Clone[[]workflow/timers.Item,workflow/timers.Item] -/
def a33_r0 : ACode := .reg [{ op := .mov (.c (.nils)), dst := some 2 }]
def a33_r1 : ACode := .reg [{ op := .mov (.t 0), dst := some 3 },
    { op := .eqz false (.t 3), dst := some 4 }]
def a33_r2 : ACode := .reg [{ op := .mov (.c (.nils)), dst := some 2 }]
def a33_r3 : ACode := .reg [{ op := .bsl 2 true 0 [.int .i64 0, .int .i64 0] [], dst := some 5 },
    { op := .mov (.t 0), dst := some 6 },
    { op := .app 2 16 (.t 5) (.t 6), dst := some 7, k := 6 },
    { op := .mov (.t 7), dst := some 2 }]
def a33 : ACode := (.seq a33_r0 (.seq (.seq a33_r1 (.cond (.t 4) (.seq a33_r2 .ret) .skip)) (.seq a33_r3 .ret)))
def a33_res : List ARes := [.tmp 2]
theorem a33_ok : Coded Try.prog 33 8 a33 a33_res := ⟨Try.f33, _, by kernel_rfl, rfl, by kernel_rfl, rfl, by kernel_rfl, by kernel_rfl⟩
theorem a33_of {args : List AV} {Q : AV → Prop} (hl : args.length ≤ 8) (h : AW Try.prog 8 a33 (mkS (argT 0 args) [] 0) (retQ a33_res Q)) : ACall Try.prog 33 args Q := acall_coded a33_ok hl h

/- workflow/workflowlaw37.TimersRuns -/
def a4_r0 : ACode := .reg [{ op := .mov (.c (.bool false)), dst := some 2 }]
def a4_r1 : ACode := .reg [{ op := .mov (.t 0), dst := some 12 },
    { op := .len false (.t 12), dst := some 13 },
    { op := .bin .gtr (.t 13) (.c (.int .i64 120)), dst := some 14 }]
def a4_r2 : ACode := .reg [{ op := .call 9 [], dst := some 15 },
    { op := .mov (.t 15), dst := some 2 }]
def a4_r3 : ACode := .reg [{ op := .call 10 [], dst := some 16 },
    { op := .call 16 [], dst := some 17 },
    { op := .mov (.t 16), dst := some 3 },
    { op := .mov (.t 17), dst := some 4 }]
def a4_r4 : ACode := .reg [{ op := .mov (.t 3), dst := some 18 },
    { op := .eqn false .p (.t 18), dst := some 19 }]
def a4_r5 : ACode := .reg [{ op := .mov (.c (.bool false)), dst := some 2 }]
def a4_r6 : ACode := .reg [{ op := .mov (.t 0), dst := some 20 },
    { op := .len false (.t 20), dst := some 21 },
    { op := .mov (.c (.int .i64 0)), dst := some 22 }]
def a4_r7 : ACode := .reg [{ op := .bin .lss (.t 22) (.t 21), dst := some 23 }]
def a4_r8 : ACode := .reg [{ op := .iad 3 (.t 20) (.t 22), dst := some 24 },
    { op := .load 3 true (.t 24), dst := some 25 },
    { op := .alloc 3 true [.int .i64 0, .int .i64 0, .int .i64 0], dst := some 6, k := 19 },
    { op := .store 3 true (.t 6) (.t 25), dst := none }]
def a4_r9 : ACode := .reg [{ op := .mov (.c (.bool true)), dst := some 7 }]
def a4_r10 : ACode := .reg [{ op := .fad 0 (.t 6), dst := some 26 },
    { op := .load 1 false (.t 26), dst := some 27 }]
def a4_r14 : ACode := .reg [{ op := .bin .eql (.t 27) (.c (.int .i64 0)), dst := some 56 },
    { op := .mov (.t 56), dst := some 55 }]
def a4_r15 : ACode := .draw [{ op := .mov (.t 3), dst := some 57 },
    { op := .fad 1 (.t 6), dst := some 58 },
    { op := .load 1 false (.t 58), dst := some 59 },
    { op := .fad 2 (.t 6), dst := some 60 },
    { op := .load 1 false (.t 60), dst := some 61 },
    { op := .build [.int .i64 0, .int .i64 0] [(0, 1, (.t 59)), (1, 1, (.t 61))], dst := some 62 },
    { op := .call 17 [(.t 57), (.t 62)], dst := some 63 },
    { op := .mov (.t 4), dst := some 64 },
    { op := .fad 1 (.t 6), dst := some 65 },
    { op := .load 1 false (.t 65), dst := some 66 },
    { op := .fad 2 (.t 6), dst := some 67 },
    { op := .load 1 false (.t 67), dst := some 68 },
    { op := .build [.int .i64 0, .int .i64 0] [(0, 1, (.t 66)), (1, 1, (.t 68))], dst := some 69 },
    { op := .call 18 [(.t 64), (.t 69)], dst := some 70 },
    { op := .bin .eql (.t 63) (.t 70), dst := some 71 },
    { op := .mov (.t 71), dst := some 7 }]
    [(6, [9, 11])]
    (.take 0 (.take 1 (.take 2 (.take 3 (.take 4 (.take 5 (.take 7 (.take 8 (.take 9 (.take 10 (.take 11 (.take 12 (.one 6 (.one 13 (.take 14 (.take 15 (.done)))))))))))))))))
def a4_r16 : ACode := .reg [{ op := .bin .eql (.t 27) (.c (.int .i64 1)), dst := some 73 },
    { op := .mov (.t 73), dst := some 72 }]
def a4_r17 : ACode := .draw [{ op := .mov (.t 3), dst := some 74 },
    { op := .fad 2 (.t 6), dst := some 75 },
    { op := .load 1 false (.t 75), dst := some 76 },
    { op := .call 12 [(.t 74), (.t 76)], dst := some 77 },
    { op := .mov (.t 4), dst := some 78 },
    { op := .fad 2 (.t 6), dst := some 79 },
    { op := .load 1 false (.t 79), dst := some 80 },
    { op := .call 19 [(.t 78), (.t 80)], dst := some 81 },
    { op := .eqb false (.t 77) (.t 81), dst := some 82 },
    { op := .mov (.t 82), dst := some 7 }]
    [(3, [6])]
    (.take 0 (.take 1 (.take 2 (.take 4 (.take 5 (.take 6 (.one 3 (.one 7 (.take 8 (.take 9 (.done)))))))))))
def a4_r18 : ACode := .reg [{ op := .bin .eql (.t 27) (.c (.int .i64 2)), dst := some 84 },
    { op := .mov (.t 84), dst := some 83 }]
def a4_r19 : ACode := .draw [{ op := .mov (.t 3), dst := some 85 },
    { op := .fad 1 (.t 6), dst := some 86 },
    { op := .load 1 false (.t 86), dst := some 87 },
    { op := .call 13 [(.t 85), (.t 87)], dst := some 88 },
    { op := .mov (.t 4), dst := some 89 },
    { op := .fad 1 (.t 6), dst := some 90 },
    { op := .load 1 false (.t 90), dst := some 91 },
    { op := .call 21 [(.t 89), (.t 91)], dst := some 92 },
    { op := .call 20 [(.t 88), (.t 92)], dst := some 93 },
    { op := .mov (.t 93), dst := some 7 }]
    [(3, [6])]
    (.take 0 (.take 1 (.take 2 (.take 4 (.take 5 (.take 6 (.one 3 (.one 7 (.one 8 (.take 9 (.done)))))))))))
def a4_r11 : ACode := .reg [{ op := .mov (.t 3), dst := some 29 },
    { op := .call 22 [(.t 29)], dst := some 30 },
    { op := .mov (.t 30), dst := some 28 },
    { op := .ext (.t 28) 0, dst := some 31 },
    { op := .ext (.t 28) 1, dst := some 32 },
    { op := .alloc 2 true [.int .i64 0, .int .i64 0], dst := some 8, k := 71 },
    { op := .store 2 true (.t 8) (.t 31), dst := none },
    { op := .mov (.t 32), dst := some 9 }]
def a4_r12 : ACode := .reg [{ op := .mov (.t 4), dst := some 34 },
    { op := .call 23 [(.t 34)], dst := some 35 },
    { op := .mov (.t 35), dst := some 33 },
    { op := .ext (.t 33) 0, dst := some 36 },
    { op := .ext (.t 33) 1, dst := some 37 },
    { op := .alloc 2 true [.int .i64 0, .int .i64 0], dst := some 10, k := 79 },
    { op := .store 2 true (.t 10) (.t 36), dst := none },
    { op := .mov (.t 37), dst := some 11 }]
def a4_r13 : ACode := .reg [{ op := .mov (.t 9), dst := some 38 },
    { op := .mov (.t 11), dst := some 39 },
    { op := .eqb false (.t 38) (.t 39), dst := some 40 },
    { op := .mov (.t 40), dst := some 41 },
    { op := .fad 0 (.t 8), dst := some 42, g := some (41, true) },
    { op := .load 1 false (.t 42), dst := some 43, g := some (41, true) },
    { op := .fad 0 (.t 10), dst := some 44, g := some (41, true) },
    { op := .load 1 false (.t 44), dst := some 45, g := some (41, true) },
    { op := .bin .eql (.t 43) (.t 45), dst := some 46, g := some (41, true) },
    { op := .pick (.t 41) (.t 46) (.c (.bool false)), dst := some 47 },
    { op := .mov (.t 47), dst := some 48 },
    { op := .fad 1 (.t 8), dst := some 49, g := some (48, true) },
    { op := .load 1 false (.t 49), dst := some 50, g := some (48, true) },
    { op := .fad 1 (.t 10), dst := some 51, g := some (48, true) },
    { op := .load 1 false (.t 51), dst := some 52, g := some (48, true) },
    { op := .bin .eql (.t 50) (.t 52), dst := some 53, g := some (48, true) },
    { op := .pick (.t 48) (.t 53) (.c (.bool false)), dst := some 54 },
    { op := .mov (.t 54), dst := some 7 }]
def a4_r20 : ACode := .reg [{ op := .mov (.t 7), dst := some 94 },
    { op := .not (.t 94), dst := some 95 },
    { op := .mov (.t 95), dst := some 96 },
    { op := .mov (.t 3), dst := some 97, g := some (96, false) },
    { op := .call 15 [(.t 97)], dst := some 98, g := some (96, false) },
    { op := .mov (.t 4), dst := some 99, g := some (96, false) },
    { op := .call 24 [(.t 99)], dst := some 100, g := some (96, false) },
    { op := .bin .neq (.t 98) (.t 100), dst := some 101, g := some (96, false) },
    { op := .pick (.t 96) (.c (.bool true)) (.t 101), dst := some 102 },
    { op := .mov (.t 102), dst := some 103 },
    { op := .mov (.t 3), dst := some 104, g := some (103, false) },
    { op := .call 25 [(.t 104)], dst := some 105, g := some (103, false) },
    { op := .mov (.t 4), dst := some 106, g := some (103, false) },
    { op := .call 26 [(.t 106)], dst := some 107, g := some (103, false) },
    { op := .call 20 [(.t 105), (.t 107)], dst := some 108, g := some (103, false) },
    { op := .not (.t 108), dst := some 109, g := some (103, false) },
    { op := .pick (.t 103) (.c (.bool true)) (.t 109), dst := some 110 }]
def a4_r21 : ACode := .reg [{ op := .mov (.c (.bool false)), dst := some 2 }]
def a4_r22 : ACode := .reg [{ op := .bin .add (.t 22) (.c (.int .i64 1)), dst := some 111 },
    { op := .mov (.t 111), dst := some 22 }]
def a4_l0 : ACode := (.seq a4_r7 (.seq (.cond (.t 23) .skip (.exit 0)) (.seq (.block 1 (.seq a4_r8 (.seq a4_r9 (.seq (.seq a4_r10 (.block 2 (.seq a4_r14 (.cond (.t 55) a4_r15 (.seq a4_r16 (.cond (.t 72) a4_r17 (.seq a4_r18 (.cond (.t 83) a4_r19 (.seq a4_r11 (.seq a4_r12 a4_r13)))))))))) (.seq a4_r20 (.cond (.t 110) (.seq a4_r21 .ret) .skip)))))) a4_r22)))
def a4_r23 : ACode := .reg [{ op := .call 9 [], dst := some 112 },
    { op := .mov (.t 112), dst := some 2 }]
def a4 : ACode := (.seq a4_r0 (.seq (.seq a4_r1 (.cond (.t 14) (.seq a4_r2 .ret) .skip)) (.seq a4_r3 (.seq (.seq a4_r4 (.cond (.t 19) (.seq a4_r5 .ret) .skip)) (.seq (.seq a4_r6 (.block 0 (.loop a4_l0))) (.seq a4_r23 .ret))))))
def a4_res : List ARes := [.tmp 2]
theorem a4_ok : Coded Try.prog 4 113 a4 a4_res := ⟨Try.f4, _, by kernel_rfl, rfl, by kernel_rfl, rfl, by kernel_rfl, by kernel_rfl⟩
theorem a4_of {args : List AV} {Q : AV → Prop} (hl : args.length ≤ 113) (h : AW Try.prog 113 a4 (mkS (argT 0 args) [] 0) (retQ a4_res Q)) : ACall Try.prog 4 args Q := acall_coded a4_ok hl h

/- workflow/workflowlaw37.TimersOrder -/
def a5_r0 : ACode := .reg [{ op := .mov (.c (.bool false)), dst := some 4 }]
def a5_r1 : ACode := .reg [{ op := .mov (.t 0), dst := some 14 },
    { op := .len false (.t 14), dst := some 15 },
    { op := .bin .gtr (.t 15) (.c (.int .i64 60)), dst := some 16 },
    { op := .mov (.t 16), dst := some 17 },
    { op := .mov (.t 0), dst := some 18, g := some (17, false) },
    { op := .call 8 [(.t 18)], dst := some 19, g := some (17, false) },
    { op := .not (.t 19), dst := some 20, g := some (17, false) },
    { op := .pick (.t 17) (.c (.bool true)) (.t 20), dst := some 21 },
    { op := .mov (.t 21), dst := some 22 },
    { op := .mov (.t 1), dst := some 23, g := some (22, false) },
    { op := .len false (.t 23), dst := some 24, g := some (22, false) },
    { op := .mov (.t 0), dst := some 25, g := some (22, false) },
    { op := .len false (.t 25), dst := some 26, g := some (22, false) },
    { op := .bin .lss (.t 24) (.t 26), dst := some 27, g := some (22, false) },
    { op := .pick (.t 22) (.c (.bool true)) (.t 27), dst := some 28 }]
def a5_r2 : ACode := .reg [{ op := .call 9 [], dst := some 29 },
    { op := .mov (.t 29), dst := some 4 }]
def a5_r3 : ACode := .reg [{ op := .bsl 2 true 0 [.int .i64 0, .int .i64 0] [], dst := some 30 },
    { op := .mov (.t 0), dst := some 31 },
    { op := .app 2 16 (.t 30) (.t 31), dst := some 32, k := 20 },
    { op := .mov (.t 32), dst := some 5 }]
def a5_r4 : ACode := .reg [{ op := .mov (.t 5), dst := some 33 },
    { op := .len false (.t 33), dst := some 34 },
    { op := .mov (.c (.int .i64 0)), dst := some 35 }]
def a5_r5 : ACode := .reg [{ op := .bin .lss (.t 35) (.t 34), dst := some 36 }]
def a5_r6 : ACode := .reg [{ op := .mov (.t 35), dst := some 37 },
    { op := .mov (.t 37), dst := some 6 }]
def a5_r7 : ACode := .reg [{ op := .mov (.t 1), dst := some 38 },
    { op := .mov (.t 6), dst := some 39 },
    { op := .iad 1 (.t 38) (.t 39), dst := some 40 },
    { op := .load 1 false (.t 40), dst := some 41 },
    { op := .conv .i64 (.t 41), dst := some 42 },
    { op := .mov (.t 5), dst := some 43 },
    { op := .len false (.t 43), dst := some 44 },
    { op := .bin .rem (.t 42) (.t 44), dst := some 45 },
    { op := .mov (.t 45), dst := some 7 }]
def a5_r8 : ACode := .reg [{ op := .mov (.t 5), dst := some 46 },
    { op := .mov (.t 6), dst := some 47 },
    { op := .iad 2 (.t 46) (.t 47), dst := some 48 },
    { op := .load 2 true (.t 48), dst := some 49 },
    { op := .alloc 2 true [.int .i64 0, .int .i64 0], dst := some 8, k := 41 },
    { op := .store 2 true (.t 8) (.t 49), dst := none }]
def a5_r9 : ACode := .reg [{ op := .mov (.t 5), dst := some 50 },
    { op := .mov (.t 6), dst := some 51 },
    { op := .mov (.t 5), dst := some 52 },
    { op := .mov (.t 7), dst := some 53 },
    { op := .iad 2 (.t 52) (.t 53), dst := some 54 },
    { op := .load 2 true (.t 54), dst := some 55 },
    { op := .iad 2 (.t 50) (.t 51), dst := some 56 },
    { op := .store 2 true (.t 56) (.t 55), dst := none }]
def a5_r10 : ACode := .reg [{ op := .mov (.t 5), dst := some 57 },
    { op := .mov (.t 7), dst := some 58 },
    { op := .load 2 true (.t 8), dst := some 59 },
    { op := .iad 2 (.t 57) (.t 58), dst := some 60 },
    { op := .store 2 true (.t 60) (.t 59), dst := none }]
def a5_r11 : ACode := .reg [{ op := .bin .add (.t 35) (.c (.int .i64 1)), dst := some 61 },
    { op := .mov (.t 61), dst := some 35 }]
def a5_l0 : ACode := (.seq a5_r5 (.seq (.cond (.t 36) .skip (.exit 0)) (.seq (.block 1 (.seq a5_r6 (.seq a5_r7 (.seq a5_r8 (.seq a5_r9 a5_r10))))) a5_r11)))
def a5_r12 : ACode := .reg [{ op := .call 10 [], dst := some 62 },
    { op := .call 10 [], dst := some 63 },
    { op := .mov (.t 62), dst := some 9 },
    { op := .mov (.t 63), dst := some 10 }]
def a5_r13 : ACode := .reg [{ op := .mov (.t 9), dst := some 64 },
    { op := .eqn false .p (.t 64), dst := some 65 },
    { op := .mov (.t 65), dst := some 66 },
    { op := .mov (.t 10), dst := some 67, g := some (66, false) },
    { op := .eqn false .p (.t 67), dst := some 68, g := some (66, false) },
    { op := .pick (.t 66) (.c (.bool true)) (.t 68), dst := some 69 }]
def a5_r14 : ACode := .reg [{ op := .mov (.c (.bool false)), dst := some 4 }]
def a5_r15 : ACode := .reg [{ op := .mov (.t 9), dst := some 70 },
    { op := .mov (.t 0), dst := some 71 },
    { op := .call 11 [(.t 70), (.t 71)], dst := some 72 }]
def a5_r16 : ACode := .reg [{ op := .mov (.t 10), dst := some 73 },
    { op := .mov (.t 5), dst := some 74 },
    { op := .call 11 [(.t 73), (.t 74)], dst := some 75 }]
def a5_r17 : ACode := .reg [{ op := .mov (.t 9), dst := some 76 },
    { op := .call 25 [(.t 76)], dst := some 77 },
    { op := .mov (.t 77), dst := some 11 }]
def a5_r18 : ACode := .reg [{ op := .mov (.t 11), dst := some 78 },
    { op := .len false (.t 78), dst := some 79 },
    { op := .mov (.c (.int .i64 0)), dst := some 80 }]
def a5_r19 : ACode := .reg [{ op := .bin .lss (.t 80) (.t 79), dst := some 81 }]
def a5_r20 : ACode := .reg [{ op := .mov (.t 80), dst := some 82 },
    { op := .iad 2 (.t 78) (.t 80), dst := some 83 },
    { op := .load 2 true (.t 83), dst := some 84 },
    { op := .alloc 2 true [.int .i64 0, .int .i64 0], dst := some 13, k := 85 },
    { op := .mov (.t 82), dst := some 12 },
    { op := .store 2 true (.t 13) (.t 84), dst := none }]
def a5_r21 : ACode := .draw [{ op := .mov (.t 12), dst := some 85 },
    { op := .bin .gtr (.t 85) (.c (.int .i64 0)), dst := some 86 },
    { op := .mov (.t 86), dst := some 87 },
    { op := .mov (.t 11), dst := some 88, g := some (87, true) },
    { op := .mov (.t 12), dst := some 89, g := some (87, true) },
    { op := .bin .sub (.t 89) (.c (.int .i64 1)), dst := some 90, g := some (87, true) },
    { op := .iad 2 (.t 88) (.t 90), dst := some 91, g := some (87, true) },
    { op := .fad 0 (.t 91), dst := some 92, g := some (87, true) },
    { op := .load 1 false (.t 92), dst := some 93, g := some (87, true) },
    { op := .fad 0 (.t 13), dst := some 94, g := some (87, true) },
    { op := .load 1 false (.t 94), dst := some 95, g := some (87, true) },
    { op := .bin .gtr (.t 93) (.t 95), dst := some 96, g := some (87, true) },
    { op := .mov (.t 96), dst := some 97, g := some (87, true) },
    { op := .mov (.t 11), dst := some 98, g := some (97, false) },
    { op := .mov (.t 12), dst := some 99, g := some (97, false) },
    { op := .bin .sub (.t 99) (.c (.int .i64 1)), dst := some 100, g := some (97, false) },
    { op := .iad 2 (.t 98) (.t 100), dst := some 101, g := some (97, false) },
    { op := .fad 0 (.t 101), dst := some 102, g := some (97, false) },
    { op := .load 1 false (.t 102), dst := some 103, g := some (97, false) },
    { op := .fad 0 (.t 13), dst := some 104, g := some (97, false) },
    { op := .load 1 false (.t 104), dst := some 105, g := some (97, false) },
    { op := .bin .eql (.t 103) (.t 105), dst := some 106, g := some (97, false) },
    { op := .mov (.t 106), dst := some 107, g := some (97, false) },
    { op := .mov (.t 11), dst := some 108, g := some (107, true) },
    { op := .mov (.t 12), dst := some 109, g := some (107, true) },
    { op := .bin .sub (.t 109) (.c (.int .i64 1)), dst := some 110, g := some (107, true) },
    { op := .iad 2 (.t 108) (.t 110), dst := some 111, g := some (107, true) },
    { op := .fad 1 (.t 111), dst := some 112, g := some (107, true) },
    { op := .load 1 false (.t 112), dst := some 113, g := some (107, true) },
    { op := .fad 1 (.t 13), dst := some 114, g := some (107, true) },
    { op := .load 1 false (.t 114), dst := some 115, g := some (107, true) },
    { op := .bin .geq (.t 113) (.t 115), dst := some 116, g := some (107, true) },
    { op := .pick (.t 107) (.t 116) (.c (.bool false)), dst := some 117, g := some (97, false) },
    { op := .pick (.t 97) (.c (.bool true)) (.t 117), dst := some 118, g := some (87, true) },
    { op := .pick (.t 87) (.t 118) (.c (.bool false)), dst := some 119 }]
    []
    (.take 0 (.take 1 (.take 2 (.take 3 (.take 4 (.take 5 (.take 6 (.take 7 (.take 8 (.take 9 (.take 10 (.take 11 (.take 12 (.take 13 (.take 14 (.take 15 (.take 16 (.take 17 (.take 18 (.take 19 (.take 20 (.take 21 (.take 22 (.take 23 (.take 24 (.take 25 (.take 26 (.take 27 (.take 28 (.take 29 (.take 30 (.take 31 (.take 32 (.take 33 (.take 34 (.done))))))))))))))))))))))))))))))))))))
def a5_r22 : ACode := .reg [{ op := .mov (.c (.bool false)), dst := some 4 }]
def a5_r23 : ACode := .reg [{ op := .bin .add (.t 80) (.c (.int .i64 1)), dst := some 120 },
    { op := .mov (.t 120), dst := some 80 }]
def a5_l1 : ACode := (.seq a5_r19 (.seq (.cond (.t 81) .skip (.exit 2)) (.seq (.block 3 (.seq a5_r20 (.seq a5_r21 (.cond (.t 119) (.seq a5_r22 .ret) .skip)))) a5_r23)))
def a5_r24 : ACode := .reg [{ op := .mov (.t 11), dst := some 121 },
    { op := .len false (.t 121), dst := some 122 },
    { op := .mov (.t 0), dst := some 123 },
    { op := .len false (.t 123), dst := some 124 },
    { op := .bin .eql (.t 122) (.t 124), dst := some 125 },
    { op := .mov (.t 125), dst := some 126 },
    { op := .mov (.t 11), dst := some 127, g := some (126, true) },
    { op := .mov (.t 10), dst := some 128, g := some (126, true) },
    { op := .call 25 [(.t 128)], dst := some 129, g := some (126, true) },
    { op := .call 27 [(.t 127), (.t 129)], dst := some 130, g := some (126, true) },
    { op := .pick (.t 126) (.t 130) (.c (.bool false)), dst := some 131 },
    { op := .mov (.t 131), dst := some 132 },
    { op := .call 9 [], dst := some 133, g := some (132, true) },
    { op := .pick (.t 132) (.t 133) (.c (.bool false)), dst := some 134 },
    { op := .mov (.t 134), dst := some 4 }]
def a5 : ACode := (.seq a5_r0 (.seq (.seq a5_r1 (.cond (.t 28) (.seq a5_r2 .ret) .skip)) (.seq a5_r3 (.seq (.seq a5_r4 (.block 0 (.loop a5_l0))) (.seq a5_r12 (.seq (.seq a5_r13 (.cond (.t 69) (.seq a5_r14 .ret) .skip)) (.seq a5_r15 (.seq a5_r16 (.seq a5_r17 (.seq (.seq a5_r18 (.block 2 (.loop a5_l1))) (.seq a5_r24 .ret)))))))))))
def a5_res : List ARes := [.tmp 4]
theorem a5_ok : Coded Try.prog 5 135 a5 a5_res := ⟨Try.f5, _, by kernel_rfl, rfl, by kernel_rfl, rfl, by kernel_rfl, by kernel_rfl⟩
theorem a5_of {args : List AV} {Q : AV → Prop} (hl : args.length ≤ 135) (h : AW Try.prog 135 a5 (mkS (argT 0 args) [] 0) (retQ a5_res Q)) : ACall Try.prog 5 args Q := acall_coded a5_ok hl h

/- workflow/workflowlaw37.TimersSplit -/
def a6_r0 : ACode := .reg [{ op := .mov (.c (.bool false)), dst := some 6 }]
def a6_r1 : ACode := .reg [{ op := .mov (.t 0), dst := some 13 },
    { op := .len false (.t 13), dst := some 14 },
    { op := .bin .gtr (.t 14) (.c (.int .i64 60)), dst := some 15 },
    { op := .mov (.t 15), dst := some 16 },
    { op := .mov (.t 1), dst := some 17, g := some (16, false) },
    { op := .mov (.t 2), dst := some 18, g := some (16, false) },
    { op := .bin .gtr (.t 17) (.t 18), dst := some 19, g := some (16, false) },
    { op := .pick (.t 16) (.c (.bool true)) (.t 19), dst := some 20 }]
def a6_r2 : ACode := .reg [{ op := .call 9 [], dst := some 21 },
    { op := .mov (.t 21), dst := some 6 }]
def a6_r3 : ACode := .reg [{ op := .call 10 [], dst := some 22 },
    { op := .call 10 [], dst := some 23 },
    { op := .mov (.t 22), dst := some 7 },
    { op := .mov (.t 23), dst := some 8 }]
def a6_r4 : ACode := .reg [{ op := .mov (.t 7), dst := some 24 },
    { op := .eqn false .p (.t 24), dst := some 25 },
    { op := .mov (.t 25), dst := some 26 },
    { op := .mov (.t 8), dst := some 27, g := some (26, false) },
    { op := .eqn false .p (.t 27), dst := some 28, g := some (26, false) },
    { op := .pick (.t 26) (.c (.bool true)) (.t 28), dst := some 29 }]
def a6_r5 : ACode := .reg [{ op := .mov (.c (.bool false)), dst := some 6 }]
def a6_r6 : ACode := .reg [{ op := .mov (.t 7), dst := some 30 },
    { op := .mov (.t 0), dst := some 31 },
    { op := .call 11 [(.t 30), (.t 31)], dst := some 32 }]
def a6_r7 : ACode := .reg [{ op := .mov (.t 8), dst := some 33 },
    { op := .mov (.t 0), dst := some 34 },
    { op := .call 11 [(.t 33), (.t 34)], dst := some 35 }]
def a6_r8 : ACode := .reg [{ op := .mov (.t 7), dst := some 36 },
    { op := .mov (.t 1), dst := some 37 },
    { op := .call 13 [(.t 36), (.t 37)], dst := some 38 },
    { op := .mov (.t 38), dst := some 9 }]
def a6_r9 : ACode := .reg [{ op := .mov (.t 9), dst := some 39 },
    { op := .len false (.t 39), dst := some 40 },
    { op := .mov (.c (.int .i64 0)), dst := some 41 }]
def a6_r10 : ACode := .reg [{ op := .bin .lss (.t 41) (.t 40), dst := some 42 }]
def a6_r11 : ACode := .reg [{ op := .iad 2 (.t 39) (.t 41), dst := some 43 },
    { op := .load 2 true (.t 43), dst := some 44 },
    { op := .alloc 2 true [.int .i64 0, .int .i64 0], dst := some 11, k := 38 },
    { op := .store 2 true (.t 11) (.t 44), dst := none }]
def a6_r12 : ACode := .reg [{ op := .fad 0 (.t 11), dst := some 45 },
    { op := .load 1 false (.t 45), dst := some 46 },
    { op := .mov (.t 1), dst := some 47 },
    { op := .bin .gtr (.t 46) (.t 47), dst := some 48 }]
def a6_r13 : ACode := .reg [{ op := .mov (.c (.bool false)), dst := some 6 }]
def a6_r14 : ACode := .reg [{ op := .bin .add (.t 41) (.c (.int .i64 1)), dst := some 49 },
    { op := .mov (.t 49), dst := some 41 }]
def a6_l0 : ACode := (.seq a6_r10 (.seq (.cond (.t 42) .skip (.exit 0)) (.seq (.block 1 (.seq a6_r11 (.seq a6_r12 (.cond (.t 48) (.seq a6_r13 .ret) .skip)))) a6_r14)))
def a6_r15 : ACode := .reg [{ op := .bsl 2 true 0 [.int .i64 0, .int .i64 0] [], dst := some 50 },
    { op := .mov (.t 9), dst := some 51 },
    { op := .app 2 16 (.t 50) (.t 51), dst := some 52, k := 49 },
    { op := .mov (.t 52), dst := some 12 }]
def a6_r16 : ACode := .reg [{ op := .mov (.t 12), dst := some 53 },
    { op := .mov (.t 7), dst := some 54 },
    { op := .mov (.t 2), dst := some 55 },
    { op := .call 13 [(.t 54), (.t 55)], dst := some 56 },
    { op := .app 2 16 (.t 53) (.t 56), dst := some 57, k := 55 },
    { op := .mov (.t 57), dst := some 12 }]
def a6_r17 : ACode := .reg [{ op := .mov (.t 12), dst := some 58 },
    { op := .mov (.t 8), dst := some 59 },
    { op := .mov (.t 2), dst := some 60 },
    { op := .call 13 [(.t 59), (.t 60)], dst := some 61 },
    { op := .call 27 [(.t 58), (.t 61)], dst := some 62 },
    { op := .mov (.t 62), dst := some 63 },
    { op := .mov (.t 7), dst := some 64, g := some (63, true) },
    { op := .call 25 [(.t 64)], dst := some 65, g := some (63, true) },
    { op := .mov (.t 8), dst := some 66, g := some (63, true) },
    { op := .call 25 [(.t 66)], dst := some 67, g := some (63, true) },
    { op := .call 27 [(.t 65), (.t 67)], dst := some 68, g := some (63, true) },
    { op := .pick (.t 63) (.t 68) (.c (.bool false)), dst := some 69 },
    { op := .mov (.t 69), dst := some 70 },
    { op := .mov (.t 8), dst := some 71, g := some (70, true) },
    { op := .mov (.t 2), dst := some 72, g := some (70, true) },
    { op := .call 13 [(.t 71), (.t 72)], dst := some 73, g := some (70, true) },
    { op := .len false (.t 73), dst := some 74, g := some (70, true) },
    { op := .bin .eql (.t 74) (.c (.int .i64 0)), dst := some 75, g := some (70, true) },
    { op := .pick (.t 70) (.t 75) (.c (.bool false)), dst := some 76 },
    { op := .mov (.t 76), dst := some 77 },
    { op := .call 9 [], dst := some 78, g := some (77, true) },
    { op := .pick (.t 77) (.t 78) (.c (.bool false)), dst := some 79 },
    { op := .mov (.t 79), dst := some 6 }]
def a6 : ACode := (.seq a6_r0 (.seq (.seq a6_r1 (.cond (.t 20) (.seq a6_r2 .ret) .skip)) (.seq a6_r3 (.seq (.seq a6_r4 (.cond (.t 29) (.seq a6_r5 .ret) .skip)) (.seq a6_r6 (.seq a6_r7 (.seq a6_r8 (.seq (.seq a6_r9 (.block 0 (.loop a6_l0))) (.seq a6_r15 (.seq a6_r16 (.seq a6_r17 .ret)))))))))))
def a6_res : List ARes := [.tmp 6]
theorem a6_ok : Coded Try.prog 6 80 a6 a6_res := ⟨Try.f6, _, by kernel_rfl, rfl, by kernel_rfl, rfl, by kernel_rfl, by kernel_rfl⟩
theorem a6_of {args : List AV} {Q : AV → Prop} (hl : args.length ≤ 80) (h : AW Try.prog 80 a6 (mkS (argT 0 args) [] 0) (retQ a6_res Q)) : ACall Try.prog 6 args Q := acall_coded a6_ok hl h

/- workflow/workflowref37.New -/
def a16_r0 : ACode := .reg [{ op := .mov (.c (.nilp)), dst := some 0 }]
def a16_r1 : ACode := .reg [{ op := .build [.bool false, .nils] [(0, 1, (.c (.bool true)))], dst := some 1 },
    { op := .box 2 true (.t 1), dst := some 2, k := 2 },
    { op := .mov (.t 2), dst := some 0 }]
def a16 : ACode := (.seq a16_r0 (.seq a16_r1 .ret))
def a16_res : List ARes := [.tmp 0]
theorem a16_ok : Coded Try.prog 16 3 a16 a16_res := ⟨Try.f16, _, by kernel_rfl, rfl, by kernel_rfl, rfl, by kernel_rfl, by kernel_rfl⟩
theorem a16_of {args : List AV} {Q : AV → Prop} (hl : args.length ≤ 3) (h : AW Try.prog 3 a16 (mkS (argT 0 args) [] 0) (retQ a16_res Q)) : ACall Try.prog 16 args Q := acall_coded a16_ok hl h

/- (*workflow/workflowref37.Queue).Add -/
def a18_r0 : ACode := .reg [{ op := .box 2 true (.t 1), dst := some 3, k := 0 },
    { op := .mov (.c (.int .i64 0)), dst := some 4 }]
def a18_r1 : ACode := .reg [{ op := .mov (.t 0), dst := some 9 },
    { op := .eqn false .p (.t 9), dst := some 10 },
    { op := .mov (.t 10), dst := some 11 },
    { op := .mov (.t 0), dst := some 12, g := some (11, false) },
    { op := .nilc (.t 12), dst := some 13, g := some (11, false) },
    { op := .fad 0 (.t 13), dst := some 14, g := some (11, false) },
    { op := .load 1 false (.t 14), dst := some 15, g := some (11, false) },
    { op := .not (.t 15), dst := some 16, g := some (11, false) },
    { op := .pick (.t 11) (.c (.bool true)) (.t 16), dst := some 17 }]
def a18_r2 : ACode := .reg [{ op := .mov (.c (.int .i64 1)), dst := some 4 }]
def a18_r3 : ACode := .reg [{ op := .mov (.c (.nils)), dst := some 5 }]
def a18_r4 : ACode := .reg [{ op := .mov (.c (.bool false)), dst := some 6 }]
def a18_r5 : ACode := .reg [{ op := .mov (.t 0), dst := some 18 },
    { op := .nilc (.t 18), dst := some 19 },
    { op := .fad 1 (.t 19), dst := some 20 },
    { op := .load 1 false (.t 20), dst := some 21 },
    { op := .len false (.t 21), dst := some 22 },
    { op := .mov (.c (.int .i64 0)), dst := some 23 }]
def a18_r6 : ACode := .reg [{ op := .bin .lss (.t 23) (.t 22), dst := some 24 }]
def a18_r7 : ACode := .reg [{ op := .iad 2 (.t 21) (.t 23), dst := some 25 },
    { op := .load 2 true (.t 25), dst := some 26 },
    { op := .alloc 2 true [.int .i64 0, .int .i64 0], dst := some 8, k := 23 },
    { op := .store 2 true (.t 8) (.t 26), dst := none }]
def a18_r8 : ACode := .reg [{ op := .fad 1 (.t 8), dst := some 27 },
    { op := .load 1 false (.t 27), dst := some 28 },
    { op := .fad 1 (.t 3), dst := some 29 },
    { op := .load 1 false (.t 29), dst := some 30 },
    { op := .bin .eql (.t 28) (.t 30), dst := some 31 }]
def a18_r9 : ACode := .reg [{ op := .mov (.c (.int .i64 9)), dst := some 4 }]
def a18_r10 : ACode := .reg [{ op := .mov (.t 6), dst := some 32 },
    { op := .not (.t 32), dst := some 33 },
    { op := .mov (.t 33), dst := some 34 },
    { op := .load 2 true (.t 3), dst := some 35, g := some (34, true) },
    { op := .load 2 true (.t 8), dst := some 36, g := some (34, true) },
    { op := .call 32 [(.t 35), (.t 36)], dst := some 37, g := some (34, true) },
    { op := .pick (.t 34) (.t 37) (.c (.bool false)), dst := some 38 }]
def a18_r11 : ACode := .reg [{ op := .mov (.t 5), dst := some 39 },
    { op := .load 2 true (.t 3), dst := some 40 },
    { op := .bsl 2 true 1 [.int .i64 0, .int .i64 0] [(0, (.t 40))], dst := some 41 },
    { op := .app 2 16 (.t 39) (.t 41), dst := some 42, k := 41 },
    { op := .mov (.t 42), dst := some 5 }]
def a18_r12 : ACode := .reg [{ op := .mov (.c (.bool true)), dst := some 6 }]
def a18_r13 : ACode := .reg [{ op := .mov (.t 5), dst := some 43 },
    { op := .load 2 true (.t 8), dst := some 44 },
    { op := .bsl 2 true 1 [.int .i64 0, .int .i64 0] [(0, (.t 44))], dst := some 45 },
    { op := .app 2 16 (.t 43) (.t 45), dst := some 46, k := 47 },
    { op := .mov (.t 46), dst := some 5 }]
def a18_r14 : ACode := .reg [{ op := .bin .add (.t 23) (.c (.int .i64 1)), dst := some 47 },
    { op := .mov (.t 47), dst := some 23 }]
def a18_l0 : ACode := (.seq a18_r6 (.seq (.cond (.t 24) .skip (.exit 0)) (.seq (.block 1 (.seq a18_r7 (.seq (.seq a18_r8 (.cond (.t 31) (.seq a18_r9 .ret) .skip)) (.seq (.seq a18_r10 (.cond (.t 38) (.seq a18_r11 a18_r12) .skip)) a18_r13)))) a18_r14)))
def a18_r15 : ACode := .reg [{ op := .mov (.t 6), dst := some 48 },
    { op := .not (.t 48), dst := some 49 }]
def a18_r16 : ACode := .reg [{ op := .mov (.t 5), dst := some 50 },
    { op := .load 2 true (.t 3), dst := some 51 },
    { op := .bsl 2 true 1 [.int .i64 0, .int .i64 0] [(0, (.t 51))], dst := some 52 },
    { op := .app 2 16 (.t 50) (.t 52), dst := some 53, k := 56 },
    { op := .mov (.t 53), dst := some 5 }]
def a18_r17 : ACode := .reg [{ op := .mov (.t 0), dst := some 54 },
    { op := .mov (.t 5), dst := some 55 },
    { op := .nilc (.t 54), dst := some 56 },
    { op := .fad 1 (.t 56), dst := some 57 },
    { op := .store 1 false (.t 57) (.t 55), dst := none }]
def a18_r18 : ACode := .reg [{ op := .mov (.c (.int .i64 0)), dst := some 4 }]
def a18 : ACode := (.seq a18_r0 (.seq (.seq a18_r1 (.cond (.t 17) (.seq a18_r2 .ret) .skip)) (.seq a18_r3 (.seq a18_r4 (.seq (.seq a18_r5 (.block 0 (.loop a18_l0))) (.seq (.seq a18_r15 (.cond (.t 49) a18_r16 .skip)) (.seq a18_r17 (.seq a18_r18 .ret))))))))
def a18_res : List ARes := [.tmp 4]
theorem a18_ok : Coded Try.prog 18 58 a18 a18_res := ⟨Try.f18, _, by kernel_rfl, rfl, by kernel_rfl, rfl, by kernel_rfl, by kernel_rfl⟩
theorem a18_of {args : List AV} {Q : AV → Prop} (hl : args.length ≤ 58) (h : AW Try.prog 58 a18 (mkS (argT 0 args) [] 0) (retQ a18_res Q)) : ACall Try.prog 18 args Q := acall_coded a18_ok hl h

/- (*workflow/workflowref37.Queue).Cancel -/
def a19_r0 : ACode := .reg [{ op := .mov (.c (.bool false)), dst := some 4 }]
def a19_r1 : ACode := .reg [{ op := .mov (.t 0), dst := some 9 },
    { op := .eqn false .p (.t 9), dst := some 10 },
    { op := .mov (.t 10), dst := some 11 },
    { op := .mov (.t 0), dst := some 12, g := some (11, false) },
    { op := .nilc (.t 12), dst := some 13, g := some (11, false) },
    { op := .fad 0 (.t 13), dst := some 14, g := some (11, false) },
    { op := .load 1 false (.t 14), dst := some 15, g := some (11, false) },
    { op := .not (.t 15), dst := some 16, g := some (11, false) },
    { op := .pick (.t 11) (.c (.bool true)) (.t 16), dst := some 17 }]
def a19_r2 : ACode := .reg [{ op := .mov (.c (.bool false)), dst := some 4 }]
def a19_r3 : ACode := .reg [{ op := .mov (.c (.nils)), dst := some 5 }]
def a19_r4 : ACode := .reg [{ op := .mov (.t 0), dst := some 18 },
    { op := .nilc (.t 18), dst := some 19 },
    { op := .fad 1 (.t 19), dst := some 20 },
    { op := .load 1 false (.t 20), dst := some 21 },
    { op := .len false (.t 21), dst := some 22 },
    { op := .mov (.c (.int .i64 0)), dst := some 23 }]
def a19_r5 : ACode := .reg [{ op := .bin .lss (.t 23) (.t 22), dst := some 24 }]
def a19_r6 : ACode := .reg [{ op := .iad 2 (.t 21) (.t 23), dst := some 25 },
    { op := .load 2 true (.t 25), dst := some 26 },
    { op := .alloc 2 true [.int .i64 0, .int .i64 0], dst := some 7, k := 21 },
    { op := .store 2 true (.t 7) (.t 26), dst := none }]
def a19_r7 : ACode := .reg [{ op := .fad 1 (.t 7), dst := some 27 },
    { op := .load 1 false (.t 27), dst := some 28 },
    { op := .mov (.t 1), dst := some 29 },
    { op := .bin .neq (.t 28) (.t 29), dst := some 30 }]
def a19_r8 : ACode := .reg [{ op := .mov (.t 5), dst := some 31 },
    { op := .load 2 true (.t 7), dst := some 32 },
    { op := .bsl 2 true 1 [.int .i64 0, .int .i64 0] [(0, (.t 32))], dst := some 33 },
    { op := .app 2 16 (.t 31) (.t 33), dst := some 34, k := 30 },
    { op := .mov (.t 34), dst := some 5 }]
def a19_r9 : ACode := .reg [{ op := .bin .add (.t 23) (.c (.int .i64 1)), dst := some 35 },
    { op := .mov (.t 35), dst := some 23 }]
def a19_l0 : ACode := (.seq a19_r5 (.seq (.cond (.t 24) .skip (.exit 0)) (.seq (.block 1 (.seq a19_r6 (.seq a19_r7 (.cond (.t 30) a19_r8 .skip)))) a19_r9)))
def a19_r10 : ACode := .reg [{ op := .mov (.t 5), dst := some 36 },
    { op := .len false (.t 36), dst := some 37 },
    { op := .mov (.t 0), dst := some 38 },
    { op := .nilc (.t 38), dst := some 39 },
    { op := .fad 1 (.t 39), dst := some 40 },
    { op := .load 1 false (.t 40), dst := some 41 },
    { op := .len false (.t 41), dst := some 42 },
    { op := .bin .lss (.t 37) (.t 42), dst := some 43 },
    { op := .mov (.t 43), dst := some 8 }]
def a19_r11 : ACode := .reg [{ op := .mov (.t 0), dst := some 44 },
    { op := .mov (.t 5), dst := some 45 },
    { op := .nilc (.t 44), dst := some 46 },
    { op := .fad 1 (.t 46), dst := some 47 },
    { op := .store 1 false (.t 47) (.t 45), dst := none }]
def a19_r12 : ACode := .reg [{ op := .mov (.t 8), dst := some 48 },
    { op := .mov (.t 48), dst := some 4 }]
def a19 : ACode := (.seq a19_r0 (.seq (.seq a19_r1 (.cond (.t 17) (.seq a19_r2 .ret) .skip)) (.seq a19_r3 (.seq (.seq a19_r4 (.block 0 (.loop a19_l0))) (.seq a19_r10 (.seq a19_r11 (.seq a19_r12 .ret)))))))
def a19_res : List ARes := [.tmp 4]
theorem a19_ok : Coded Try.prog 19 49 a19 a19_res := ⟨Try.f19, _, by kernel_rfl, rfl, by kernel_rfl, rfl, by kernel_rfl, by kernel_rfl⟩
theorem a19_of {args : List AV} {Q : AV → Prop} (hl : args.length ≤ 49) (h : AW Try.prog 49 a19 (mkS (argT 0 args) [] 0) (retQ a19_res Q)) : ACall Try.prog 19 args Q := acall_coded a19_ok hl h

/- workflow/workflowlaw37.same -/
def a20_r0 : ACode := .reg [{ op := .mov (.c (.bool false)), dst := some 4 }]
def a20_r1 : ACode := .reg [{ op := .mov (.t 0), dst := some 7 },
    { op := .len false (.t 7), dst := some 8 },
    { op := .mov (.t 1), dst := some 9 },
    { op := .len false (.t 9), dst := some 10 },
    { op := .bin .neq (.t 8) (.t 10), dst := some 11 }]
def a20_r2 : ACode := .reg [{ op := .mov (.c (.bool false)), dst := some 4 }]
def a20_r3 : ACode := .reg [{ op := .mov (.t 0), dst := some 12 },
    { op := .len false (.t 12), dst := some 13 },
    { op := .mov (.c (.int .i64 0)), dst := some 14 }]
def a20_r4 : ACode := .reg [{ op := .bin .lss (.t 14) (.t 13), dst := some 15 }]
def a20_r5 : ACode := .reg [{ op := .mov (.t 14), dst := some 16 },
    { op := .iad 2 (.t 12) (.t 14), dst := some 17 },
    { op := .load 2 true (.t 17), dst := some 18 },
    { op := .alloc 2 true [.int .i64 0, .int .i64 0], dst := some 6, k := 14 },
    { op := .mov (.t 16), dst := some 5 },
    { op := .store 2 true (.t 6) (.t 18), dst := none }]
def a20_r6 : ACode := .draw [{ op := .fad 0 (.t 6), dst := some 19 },
    { op := .load 1 false (.t 19), dst := some 20 },
    { op := .mov (.t 1), dst := some 21 },
    { op := .mov (.t 5), dst := some 22 },
    { op := .iad 2 (.t 21) (.t 22), dst := some 23 },
    { op := .fad 0 (.t 23), dst := some 24 },
    { op := .load 1 false (.t 24), dst := some 25 },
    { op := .bin .neq (.t 20) (.t 25), dst := some 26 },
    { op := .mov (.t 26), dst := some 27 },
    { op := .fad 1 (.t 6), dst := some 28, g := some (27, false) },
    { op := .load 1 false (.t 28), dst := some 29, g := some (27, false) },
    { op := .mov (.t 1), dst := some 30, g := some (27, false) },
    { op := .mov (.t 5), dst := some 31, g := some (27, false) },
    { op := .iad 2 (.t 30) (.t 31), dst := some 32, g := some (27, false) },
    { op := .fad 1 (.t 32), dst := some 33, g := some (27, false) },
    { op := .load 1 false (.t 33), dst := some 34, g := some (27, false) },
    { op := .bin .neq (.t 29) (.t 34), dst := some 35, g := some (27, false) },
    { op := .pick (.t 27) (.c (.bool true)) (.t 35), dst := some 36 }]
    []
    (.take 0 (.take 1 (.take 2 (.take 3 (.take 4 (.take 5 (.take 6 (.take 7 (.take 8 (.take 9 (.take 10 (.take 11 (.take 12 (.take 13 (.take 14 (.take 15 (.take 16 (.take 17 (.done)))))))))))))))))))
def a20_r7 : ACode := .reg [{ op := .mov (.c (.bool false)), dst := some 4 }]
def a20_r8 : ACode := .reg [{ op := .bin .add (.t 14) (.c (.int .i64 1)), dst := some 37 },
    { op := .mov (.t 37), dst := some 14 }]
def a20_l0 : ACode := (.seq a20_r4 (.seq (.cond (.t 15) .skip (.exit 0)) (.seq (.block 1 (.seq a20_r5 (.seq a20_r6 (.cond (.t 36) (.seq a20_r7 .ret) .skip)))) a20_r8)))
def a20_r9 : ACode := .reg [{ op := .mov (.c (.bool true)), dst := some 4 }]
def a20 : ACode := (.seq a20_r0 (.seq (.seq a20_r1 (.cond (.t 11) (.seq a20_r2 .ret) .skip)) (.seq (.seq a20_r3 (.block 0 (.loop a20_l0))) (.seq a20_r9 .ret))))
def a20_res : List ARes := [.tmp 4]
theorem a20_ok : Coded Try.prog 20 38 a20 a20_res := ⟨Try.f20, _, by kernel_rfl, rfl, by kernel_rfl, rfl, by kernel_rfl, by kernel_rfl⟩
theorem a20_of {args : List AV} {Q : AV → Prop} (hl : args.length ≤ 38) (h : AW Try.prog 38 a20 (mkS (argT 0 args) [] 0) (retQ a20_res Q)) : ACall Try.prog 20 args Q := acall_coded a20_ok hl h

/- (*workflow/workflowref37.Queue).Pop -/
def a21_r0 : ACode := .reg [{ op := .mov (.c (.nils)), dst := some 4 }]
def a21_r1 : ACode := .reg [{ op := .mov (.t 0), dst := some 9 },
    { op := .eqn false .p (.t 9), dst := some 10 },
    { op := .mov (.t 10), dst := some 11 },
    { op := .mov (.t 0), dst := some 12, g := some (11, false) },
    { op := .nilc (.t 12), dst := some 13, g := some (11, false) },
    { op := .fad 0 (.t 13), dst := some 14, g := some (11, false) },
    { op := .load 1 false (.t 14), dst := some 15, g := some (11, false) },
    { op := .not (.t 15), dst := some 16, g := some (11, false) },
    { op := .pick (.t 11) (.c (.bool true)) (.t 16), dst := some 17 }]
def a21_r2 : ACode := .reg [{ op := .mov (.c (.nils)), dst := some 4 }]
def a21_r3 : ACode := .reg [{ op := .mov (.c (.nils)), dst := some 5 },
    { op := .mov (.c (.nils)), dst := some 6 }]
def a21_r4 : ACode := .reg [{ op := .mov (.t 0), dst := some 18 },
    { op := .nilc (.t 18), dst := some 19 },
    { op := .fad 1 (.t 19), dst := some 20 },
    { op := .load 1 false (.t 20), dst := some 21 },
    { op := .len false (.t 21), dst := some 22 },
    { op := .mov (.c (.int .i64 0)), dst := some 23 }]
def a21_r5 : ACode := .reg [{ op := .bin .lss (.t 23) (.t 22), dst := some 24 }]
def a21_r6 : ACode := .reg [{ op := .iad 2 (.t 21) (.t 23), dst := some 25 },
    { op := .load 2 true (.t 25), dst := some 26 },
    { op := .alloc 2 true [.int .i64 0, .int .i64 0], dst := some 8, k := 22 },
    { op := .store 2 true (.t 8) (.t 26), dst := none }]
def a21_r7 : ACode := .reg [{ op := .fad 0 (.t 8), dst := some 27 },
    { op := .load 1 false (.t 27), dst := some 28 },
    { op := .mov (.t 1), dst := some 29 },
    { op := .bin .leq (.t 28) (.t 29), dst := some 30 }]
def a21_r8 : ACode := .reg [{ op := .mov (.t 5), dst := some 31 },
    { op := .load 2 true (.t 8), dst := some 32 },
    { op := .bsl 2 true 1 [.int .i64 0, .int .i64 0] [(0, (.t 32))], dst := some 33 },
    { op := .app 2 16 (.t 31) (.t 33), dst := some 34, k := 31 },
    { op := .mov (.t 34), dst := some 5 }]
def a21_r9 : ACode := .reg [{ op := .mov (.t 6), dst := some 35 },
    { op := .load 2 true (.t 8), dst := some 36 },
    { op := .bsl 2 true 1 [.int .i64 0, .int .i64 0] [(0, (.t 36))], dst := some 37 },
    { op := .app 2 16 (.t 35) (.t 37), dst := some 38, k := 36 },
    { op := .mov (.t 38), dst := some 6 }]
def a21_r10 : ACode := .reg [{ op := .bin .add (.t 23) (.c (.int .i64 1)), dst := some 39 },
    { op := .mov (.t 39), dst := some 23 }]
def a21_l0 : ACode := (.seq a21_r5 (.seq (.cond (.t 24) .skip (.exit 0)) (.seq (.block 1 (.seq a21_r6 (.seq a21_r7 (.cond (.t 30) a21_r8 a21_r9)))) a21_r10)))
def a21_r11 : ACode := .reg [{ op := .mov (.t 0), dst := some 40 },
    { op := .mov (.t 6), dst := some 41 },
    { op := .nilc (.t 40), dst := some 42 },
    { op := .fad 1 (.t 42), dst := some 43 },
    { op := .store 1 false (.t 43) (.t 41), dst := none }]
def a21_r12 : ACode := .reg [{ op := .mov (.t 5), dst := some 44 },
    { op := .mov (.t 44), dst := some 4 }]
def a21 : ACode := (.seq a21_r0 (.seq (.seq a21_r1 (.cond (.t 17) (.seq a21_r2 .ret) .skip)) (.seq a21_r3 (.seq (.seq a21_r4 (.block 0 (.loop a21_l0))) (.seq a21_r11 (.seq a21_r12 .ret))))))
def a21_res : List ARes := [.tmp 4]
theorem a21_ok : Coded Try.prog 21 45 a21 a21_res := ⟨Try.f21, _, by kernel_rfl, rfl, by kernel_rfl, rfl, by kernel_rfl, by kernel_rfl⟩
theorem a21_of {args : List AV} {Q : AV → Prop} (hl : args.length ≤ 45) (h : AW Try.prog 45 a21 (mkS (argT 0 args) [] 0) (retQ a21_res Q)) : ACall Try.prog 21 args Q := acall_coded a21_ok hl h

/- (*workflow/workflowref37.Queue).Next -/
def a23_r0 : ACode := .reg [{ op := .alloc 2 true [.int .i64 0, .int .i64 0], dst := some 2, k := 0 },
    { op := .mov (.c (.bool false)), dst := some 3 }]
def a23_r1 : ACode := .reg [{ op := .mov (.t 0), dst := some 4 },
    { op := .eqn false .p (.t 4), dst := some 5 },
    { op := .mov (.t 5), dst := some 6 },
    { op := .mov (.t 0), dst := some 7, g := some (6, false) },
    { op := .nilc (.t 7), dst := some 8, g := some (6, false) },
    { op := .fad 0 (.t 8), dst := some 9, g := some (6, false) },
    { op := .load 1 false (.t 9), dst := some 10, g := some (6, false) },
    { op := .not (.t 10), dst := some 11, g := some (6, false) },
    { op := .pick (.t 6) (.c (.bool true)) (.t 11), dst := some 12 },
    { op := .mov (.t 12), dst := some 13 },
    { op := .mov (.t 0), dst := some 14, g := some (13, false) },
    { op := .nilc (.t 14), dst := some 15, g := some (13, false) },
    { op := .fad 1 (.t 15), dst := some 16, g := some (13, false) },
    { op := .load 1 false (.t 16), dst := some 17, g := some (13, false) },
    { op := .len false (.t 17), dst := some 18, g := some (13, false) },
    { op := .bin .eql (.t 18) (.c (.int .i64 0)), dst := some 19, g := some (13, false) },
    { op := .pick (.t 13) (.c (.bool true)) (.t 19), dst := some 20 }]
def a23_r2 : ACode := .reg [{ op := .build [.int .i64 0, .int .i64 0] [], dst := some 21 },
    { op := .store 2 true (.t 2) (.t 21), dst := none },
    { op := .mov (.c (.bool false)), dst := some 3 }]
def a23_r3 : ACode := .reg [{ op := .mov (.t 0), dst := some 22 },
    { op := .nilc (.t 22), dst := some 23 },
    { op := .fad 1 (.t 23), dst := some 24 },
    { op := .load 1 false (.t 24), dst := some 25 },
    { op := .iad 2 (.t 25) (.c (.int .i64 0)), dst := some 26 },
    { op := .load 2 true (.t 26), dst := some 27 },
    { op := .store 2 true (.t 2) (.t 27), dst := none },
    { op := .mov (.c (.bool true)), dst := some 3 }]
def a23 : ACode := (.seq a23_r0 (.seq (.seq a23_r1 (.cond (.t 20) (.seq a23_r2 .ret) .skip)) (.seq a23_r3 .ret)))
def a23_res : List ARes := [.cell 2 2 true, .tmp 3]
theorem a23_ok : Coded Try.prog 23 28 a23 a23_res := ⟨Try.f23, _, by kernel_rfl, rfl, by kernel_rfl, rfl, by kernel_rfl, by kernel_rfl⟩
theorem a23_of {args : List AV} {Q : AV → Prop} (hl : args.length ≤ 28) (h : AW Try.prog 28 a23 (mkS (argT 0 args) [] 0) (retQ a23_res Q)) : ACall Try.prog 23 args Q := acall_coded a23_ok hl h

/- (*workflow/workflowref37.Queue).Len -/
def a24_r0 : ACode := .reg [{ op := .mov (.c (.int .i64 0)), dst := some 2 }]
def a24_r1 : ACode := .reg [{ op := .mov (.t 0), dst := some 3 },
    { op := .call 26 [(.t 3)], dst := some 4 },
    { op := .len false (.t 4), dst := some 5 },
    { op := .mov (.t 5), dst := some 2 }]
def a24 : ACode := (.seq a24_r0 (.seq a24_r1 .ret))
def a24_res : List ARes := [.tmp 2]
theorem a24_ok : Coded Try.prog 24 6 a24 a24_res := ⟨Try.f24, _, by kernel_rfl, rfl, by kernel_rfl, rfl, by kernel_rfl, by kernel_rfl⟩
theorem a24_of {args : List AV} {Q : AV → Prop} (hl : args.length ≤ 6) (h : AW Try.prog 6 a24 (mkS (argT 0 args) [] 0) (retQ a24_res Q)) : ACall Try.prog 24 args Q := acall_coded a24_ok hl h

/- (*workflow/workflowref37.Queue).Items -/
def a26_r0 : ACode := .reg [{ op := .mov (.c (.nils)), dst := some 2 }]
def a26_r1 : ACode := .reg [{ op := .mov (.t 0), dst := some 4 },
    { op := .eqn false .p (.t 4), dst := some 5 },
    { op := .mov (.t 5), dst := some 6 },
    { op := .mov (.t 0), dst := some 7, g := some (6, false) },
    { op := .nilc (.t 7), dst := some 8, g := some (6, false) },
    { op := .fad 0 (.t 8), dst := some 9, g := some (6, false) },
    { op := .load 1 false (.t 9), dst := some 10, g := some (6, false) },
    { op := .not (.t 10), dst := some 11, g := some (6, false) },
    { op := .pick (.t 6) (.c (.bool true)) (.t 11), dst := some 12 }]
def a26_r2 : ACode := .reg [{ op := .mov (.c (.nils)), dst := some 2 }]
def a26_r3 : ACode := .reg [{ op := .bsl 2 true 0 [.int .i64 0, .int .i64 0] [], dst := some 13 },
    { op := .mov (.t 0), dst := some 14 },
    { op := .nilc (.t 14), dst := some 15 },
    { op := .fad 1 (.t 15), dst := some 16 },
    { op := .load 1 false (.t 16), dst := some 17 },
    { op := .app 2 16 (.t 13) (.t 17), dst := some 18, k := 16 },
    { op := .mov (.t 18), dst := some 3 }]
def a26_r4 : ACode := .reg [{ op := .mov (.t 3), dst := some 19 },
    { op := .mov (.t 19), dst := some 2 }]
def a26 : ACode := (.seq a26_r0 (.seq (.seq a26_r1 (.cond (.t 12) (.seq a26_r2 .ret) .skip)) (.seq a26_r3 (.seq a26_r4 .ret))))
def a26_res : List ARes := [.tmp 2]
theorem a26_ok : Coded Try.prog 26 20 a26 a26_res := ⟨Try.f26, _, by kernel_rfl, rfl, by kernel_rfl, rfl, by kernel_rfl, by kernel_rfl⟩
theorem a26_of {args : List AV} {Q : AV → Prop} (hl : args.length ≤ 20) (h : AW Try.prog 20 a26 (mkS (argT 0 args) [] 0) (retQ a26_res Q)) : ACall Try.prog 26 args Q := acall_coded a26_ok hl h

/- workflow/workflowlaw37.equal -/
def a27_r0 : ACode := .reg [{ op := .mov (.c (.bool false)), dst := some 4 }]
def a27_r1 : ACode := .reg [{ op := .mov (.t 0), dst := some 6 },
    { op := .len false (.t 6), dst := some 7 },
    { op := .mov (.t 1), dst := some 8 },
    { op := .len false (.t 8), dst := some 9 },
    { op := .bin .neq (.t 7) (.t 9), dst := some 10 }]
def a27_r2 : ACode := .reg [{ op := .mov (.c (.bool false)), dst := some 4 }]
def a27_r3 : ACode := .reg [{ op := .mov (.t 0), dst := some 11 },
    { op := .len false (.t 11), dst := some 12 },
    { op := .mov (.c (.int .i64 0)), dst := some 13 }]
def a27_r4 : ACode := .reg [{ op := .bin .lss (.t 13) (.t 12), dst := some 14 }]
def a27_r5 : ACode := .reg [{ op := .mov (.t 13), dst := some 15 },
    { op := .mov (.t 15), dst := some 5 }]
def a27_r6 : ACode := .draw [{ op := .mov (.t 0), dst := some 16 },
    { op := .mov (.t 5), dst := some 17 },
    { op := .iad 2 (.t 16) (.t 17), dst := some 18 },
    { op := .load 2 true (.t 18), dst := some 19 },
    { op := .mov (.t 1), dst := some 20 },
    { op := .mov (.t 5), dst := some 21 },
    { op := .iad 2 (.t 20) (.t 21), dst := some 22 },
    { op := .load 2 true (.t 22), dst := some 23 },
    { op := .eqs true [.i .i64, .i .i64] (.t 19) (.t 23), dst := some 24 }]
    []
    (.take 0 (.take 1 (.take 2 (.take 3 (.take 4 (.take 5 (.take 6 (.take 7 (.take 8 (.done))))))))))
def a27_r7 : ACode := .reg [{ op := .mov (.c (.bool false)), dst := some 4 }]
def a27_r8 : ACode := .reg [{ op := .bin .add (.t 13) (.c (.int .i64 1)), dst := some 25 },
    { op := .mov (.t 25), dst := some 13 }]
def a27_l0 : ACode := (.seq a27_r4 (.seq (.cond (.t 14) .skip (.exit 0)) (.seq (.block 1 (.seq a27_r5 (.seq a27_r6 (.cond (.t 24) (.seq a27_r7 .ret) .skip)))) a27_r8)))
def a27_r9 : ACode := .reg [{ op := .mov (.c (.bool true)), dst := some 4 }]
def a27 : ACode := (.seq a27_r0 (.seq (.seq a27_r1 (.cond (.t 10) (.seq a27_r2 .ret) .skip)) (.seq (.seq a27_r3 (.block 0 (.loop a27_l0))) (.seq a27_r9 .ret))))
def a27_res : List ARes := [.tmp 4]
theorem a27_ok : Coded Try.prog 27 26 a27 a27_res := ⟨Try.f27, _, by kernel_rfl, rfl, by kernel_rfl, rfl, by kernel_rfl, by kernel_rfl⟩
theorem a27_of {args : List AV} {Q : AV → Prop} (hl : args.length ≤ 26) (h : AW Try.prog 26 a27 (mkS (argT 0 args) [] 0) (retQ a27_res Q)) : ACall Try.prog 27 args Q := acall_coded a27_ok hl h

/- workflow/workflowref37.before -/
def a32_r0 : ACode := .reg [{ op := .box 2 true (.t 0), dst := some 2, k := 0 },
    { op := .box 2 true (.t 1), dst := some 3, k := 1 },
    { op := .mov (.c (.bool false)), dst := some 4 }]
def a32_r1 : ACode := .reg [{ op := .fad 0 (.t 2), dst := some 5 },
    { op := .load 1 false (.t 5), dst := some 6 },
    { op := .fad 0 (.t 3), dst := some 7 },
    { op := .load 1 false (.t 7), dst := some 8 },
    { op := .bin .lss (.t 6) (.t 8), dst := some 9 },
    { op := .mov (.t 9), dst := some 10 },
    { op := .fad 0 (.t 2), dst := some 11, g := some (10, false) },
    { op := .load 1 false (.t 11), dst := some 12, g := some (10, false) },
    { op := .fad 0 (.t 3), dst := some 13, g := some (10, false) },
    { op := .load 1 false (.t 13), dst := some 14, g := some (10, false) },
    { op := .bin .eql (.t 12) (.t 14), dst := some 15, g := some (10, false) },
    { op := .mov (.t 15), dst := some 16, g := some (10, false) },
    { op := .fad 1 (.t 2), dst := some 17, g := some (16, true) },
    { op := .load 1 false (.t 17), dst := some 18, g := some (16, true) },
    { op := .fad 1 (.t 3), dst := some 19, g := some (16, true) },
    { op := .load 1 false (.t 19), dst := some 20, g := some (16, true) },
    { op := .bin .lss (.t 18) (.t 20), dst := some 21, g := some (16, true) },
    { op := .pick (.t 16) (.t 21) (.c (.bool false)), dst := some 22, g := some (10, false) },
    { op := .pick (.t 10) (.c (.bool true)) (.t 22), dst := some 23 },
    { op := .mov (.t 23), dst := some 4 }]
def a32 : ACode := (.seq a32_r0 (.seq a32_r1 .ret))
def a32_res : List ARes := [.tmp 4]
theorem a32_ok : Coded Try.prog 32 24 a32 a32_res := ⟨Try.f32, _, by kernel_rfl, rfl, by kernel_rfl, rfl, by kernel_rfl, by kernel_rfl⟩
theorem a32_of {args : List AV} {Q : AV → Prop} (hl : args.length ≤ 24) (h : AW Try.prog 24 a32 (mkS (argT 0 args) [] 0) (retQ a32_res Q)) : ACall Try.prog 32 args Q := acall_coded a32_ok hl h
end Go.Proofs.Ytljahaeachdjmaa

namespace Go.Proofs.Ytljahaeachdjmaa
open Go Go.Amb

/- (*workflow/timers.Queue).Items -/
def c25_r0 : ACode := .reg [{ op := .mov (.c (.nils)), dst := some 2 }]
def c25_r1 : ACode := .reg [{ op := .mov (.t 0), dst := some 4 },
    { op := .call 28 [(.t 4)], dst := some 5 },
    { op := .not (.t 5), dst := some 6 }]
def c25_r2 : ACode := .reg [{ op := .mov (.c (.nils)), dst := some 2 }]
def c25_r3 : ACode := .reg [{ op := .mov (.t 0), dst := some 7 },
    { op := .nilc (.t 7), dst := some 8 },
    { op := .fad 0 (.t 8), dst := some 9 },
    { op := .load 1 false (.t 9), dst := some 10 },
    { op := .call 33 [(.t 10)], dst := some 11, k := 9, ad := true },
    { op := .mov (.t 11), dst := some 3 }]
def c25_r4 : ACode := .reg [{ op := .mov (.t 3), dst := some 12 },
    { op := .call 34 [(.t 12), (.c (.fn 35))], dst := some 13 }]
def c25_r5 : ACode := .reg [{ op := .mov (.t 3), dst := some 14 },
    { op := .mov (.t 14), dst := some 2 }]
def c25 : ACode := (.seq c25_r0 (.seq (.seq c25_r1 (.cond (.t 6) (.seq c25_r2 .ret) .skip)) (.seq c25_r3 (.seq c25_r4 (.seq c25_r5 .ret)))))
def c25_res : List ARes := [.tmp 2]
theorem c25_ok : Coded Try.prog 25 15 c25 c25_res := ⟨Try.f25, _, by kernel_rfl, rfl, by kernel_rfl, rfl, by kernel_rfl, by kernel_rfl⟩
theorem c25_of {args : List AV} {Q : AV → Prop} (hl : args.length ≤ 15) (h : AW Try.prog 15 c25 (mkS (argT 0 args) [] 0) (retQ c25_res Q)) : ACall Try.prog 25 args Q := acall_coded c25_ok hl h
end Go.Proofs.Ytljahaeachdjmaa
