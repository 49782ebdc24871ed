/- The abstract code of the functions, checked. -/
import Derived.Test.YtljahaeachdjmaaA4
import Derived.Test.YtljahaeachdjmaaProg
import Derived.KernelRfl

namespace Go.Proofs.Ytljahaeachdjmaa
open Go Go.Amb

/- workflow/workflowlaw37.distinct -/
def a8_r0 : ACode := .reg [{ op := .mov (.c (.bool false)), dst := some 2 }]
def a8_r1 : ACode := .reg [{ op := .mov (.t 0), dst := some 7 },
    { op := .len false (.t 7), dst := some 8 },
    { op := .mov (.c (.int .i64 0)), dst := some 9 }]
def a8_r2 : ACode := .reg [{ op := .bin .lss (.t 9) (.t 8), dst := some 10 }]
def a8_r3 : ACode := .reg [{ op := .mov (.t 9), dst := some 11 },
    { op := .iad 2 (.t 7) (.t 9), dst := some 12 },
    { op := .load 2 true (.t 12), dst := some 13 },
    { op := .alloc 2 true [.int .i64 0, .int .i64 0], dst := some 4, k := 8 },
    { op := .mov (.t 11), dst := some 3 },
    { op := .store 2 true (.t 4) (.t 13), dst := none }]
def a8_r4 : ACode := .reg [{ op := .mov (.t 0), dst := some 14 },
    { op := .mov (.t 3), dst := some 15 },
    { op := .slice 2 (.t 14) none (some (.t 15)) none, dst := some 16 },
    { op := .len false (.t 16), dst := some 17 },
    { op := .mov (.c (.int .i64 0)), dst := some 18 }]
def a8_r5 : ACode := .reg [{ op := .bin .lss (.t 18) (.t 17), dst := some 19 }]
def a8_r6 : ACode := .reg [{ op := .iad 2 (.t 16) (.t 18), dst := some 20 },
    { op := .load 2 true (.t 20), dst := some 21 },
    { op := .alloc 2 true [.int .i64 0, .int .i64 0], dst := some 6, k := 19 },
    { op := .store 2 true (.t 6) (.t 21), dst := none }]
def a8_r7 : ACode := .reg [{ op := .fad 1 (.t 4), dst := some 22 },
    { op := .load 1 false (.t 22), dst := some 23 },
    { op := .fad 1 (.t 6), dst := some 24 },
    { op := .load 1 false (.t 24), dst := some 25 },
    { op := .bin .eql (.t 23) (.t 25), dst := some 26 }]
def a8_r8 : ACode := .reg [{ op := .mov (.c (.bool false)), dst := some 2 }]
def a8_r9 : ACode := .reg [{ op := .bin .add (.t 18) (.c (.int .i64 1)), dst := some 27 },
    { op := .mov (.t 27), dst := some 18 }]
def a8_l0 : ACode := (.seq a8_r5 (.seq (.cond (.t 19) .skip (.exit 2)) (.seq (.block 3 (.seq a8_r6 (.seq a8_r7 (.cond (.t 26) (.seq a8_r8 .ret) .skip)))) a8_r9)))
def a8_r10 : ACode := .reg [{ op := .bin .add (.t 9) (.c (.int .i64 1)), dst := some 28 },
    { op := .mov (.t 28), dst := some 9 }]
def a8_l1 : ACode := (.seq a8_r2 (.seq (.cond (.t 10) .skip (.exit 0)) (.seq (.block 1 (.seq a8_r3 (.seq a8_r4 (.block 2 (.loop a8_l0))))) a8_r10)))
def a8_r11 : ACode := .reg [{ op := .mov (.c (.bool true)), dst := some 2 }]
def a8 : ACode := (.seq a8_r0 (.seq (.seq a8_r1 (.block 0 (.loop a8_l1))) (.seq a8_r11 .ret)))
def a8_res : List ARes := [.tmp 2]
theorem a8_ok : Coded Try.prog 8 29 a8 a8_res := ⟨Try.f8, _, by kernel_rfl, rfl, by kernel_rfl, rfl, by kernel_rfl, by kernel_rfl⟩
theorem a8_of {args : List AV} {Q : AV → Prop} (hl : args.length ≤ 29) (h : AW Try.prog 29 a8 (mkS (argT 0 args) [] 0) (retQ a8_res Q)) : ACall Try.prog 8 args Q := acall_coded a8_ok hl h

/- workflow/timers.New -/
def a10_r0 : ACode := .reg [{ op := .mov (.c (.nilp)), dst := some 0 }]
def a10_r1 : ACode := .reg [{ op := .build [.nils, .bool false] [(1, 1, (.c (.bool true)))], dst := some 1 },
    { op := .box 2 true (.t 1), dst := some 2, k := 2 },
    { op := .mov (.t 2), dst := some 0 }]
def a10 : ACode := (.seq a10_r0 (.seq a10_r1 .ret))
def a10_res : List ARes := [.tmp 0]
theorem a10_ok : Coded Try.prog 10 3 a10 a10_res := ⟨Try.f10, _, by kernel_rfl, rfl, by kernel_rfl, rfl, by kernel_rfl, by kernel_rfl⟩
theorem a10_of {args : List AV} {Q : AV → Prop} (hl : args.length ≤ 3) (h : AW Try.prog 3 a10 (mkS (argT 0 args) [] 0) (retQ a10_res Q)) : ACall Try.prog 10 args Q := acall_coded a10_ok hl h

/- workflow/workflowlaw37.fill -/
def a11_r0 : ACode := .reg [{ op := .mov (.t 1), dst := some 6 },
    { op := .len false (.t 6), dst := some 7 },
    { op := .mov (.c (.int .i64 0)), dst := some 8 }]
def a11_r1 : ACode := .reg [{ op := .bin .lss (.t 8) (.t 7), dst := some 9 }]
def a11_r2 : ACode := .reg [{ op := .iad 2 (.t 6) (.t 8), dst := some 10 },
    { op := .load 2 true (.t 10), dst := some 11 },
    { op := .alloc 2 true [.int .i64 0, .int .i64 0], dst := some 5, k := 6 },
    { op := .store 2 true (.t 5) (.t 11), dst := none }]
def a11_r3 : ACode := .reg [{ op := .mov (.t 0), dst := some 12 },
    { op := .load 2 true (.t 5), dst := some 13 },
    { op := .call 17 [(.t 12), (.t 13)], dst := some 14 }]
def a11_r4 : ACode := .reg [{ op := .bin .add (.t 8) (.c (.int .i64 1)), dst := some 15 },
    { op := .mov (.t 15), dst := some 8 }]
def a11_l0 : ACode := (.seq a11_r1 (.seq (.cond (.t 9) .skip (.exit 0)) (.seq (.block 1 (.seq a11_r2 a11_r3)) a11_r4)))
def a11 : ACode := (.seq a11_r0 (.block 0 (.loop a11_l0)))
def a11_res : List ARes := []
theorem a11_ok : Coded Try.prog 11 16 a11 a11_res := ⟨Try.f11, _, by kernel_rfl, rfl, by kernel_rfl, rfl, by kernel_rfl, by kernel_rfl⟩
theorem a11_of {args : List AV} {Q : AV → Prop} (hl : args.length ≤ 16) (h : AW Try.prog 16 a11 (mkS (argT 0 args) [] 0) (retQ a11_res Q)) : ACall Try.prog 11 args Q := acall_coded a11_ok hl h

/- (*workflow/timers.Queue).Cancel -/
def a12_r0 : ACode := .reg [{ op := .mov (.c (.bool false)), dst := some 4 }]
def a12_r1 : ACode := .reg [{ op := .mov (.t 0), dst := some 6 },
    { op := .call 28 [(.t 6)], dst := some 7 },
    { op := .not (.t 7), dst := some 8 }]
def a12_r2 : ACode := .reg [{ op := .mov (.c (.bool false)), dst := some 4 }]
def a12_r3 : ACode := .reg [{ op := .mov (.t 0), dst := some 9 },
    { op := .mov (.t 1), dst := some 10 },
    { op := .call 29 [(.t 9), (.t 10)], dst := some 11 },
    { op := .mov (.t 11), dst := some 5 }]
def a12_r4 : ACode := .reg [{ op := .mov (.t 5), dst := some 12 },
    { op := .bin .lss (.t 12) (.c (.int .i64 0)), dst := some 13 }]
def a12_r5 : ACode := .reg [{ op := .mov (.c (.bool false)), dst := some 4 }]
def a12_r6 : ACode := .reg [{ op := .mov (.t 0), dst := some 14 },
    { op := .mov (.t 5), dst := some 15 },
    { op := .call 30 [(.t 14), (.t 15)], dst := some 16 }]
def a12_r7 : ACode := .reg [{ op := .mov (.c (.bool true)), dst := some 4 }]
def a12 : ACode := (.seq a12_r0 (.seq (.seq a12_r1 (.cond (.t 8) (.seq a12_r2 .ret) .skip)) (.seq a12_r3 (.seq (.seq a12_r4 (.cond (.t 13) (.seq a12_r5 .ret) .skip)) (.seq a12_r6 (.seq a12_r7 .ret))))))
def a12_res : List ARes := [.tmp 4]
theorem a12_ok : Coded Try.prog 12 17 a12 a12_res := ⟨Try.f12, _, by kernel_rfl, rfl, by kernel_rfl, rfl, by kernel_rfl, by kernel_rfl⟩
theorem a12_of {args : List AV} {Q : AV → Prop} (hl : args.length ≤ 17) (h : AW Try.prog 17 a12 (mkS (argT 0 args) [] 0) (retQ a12_res Q)) : ACall Try.prog 12 args Q := acall_coded a12_ok hl h

/- (*workflow/timers.Queue).Pop -/
def a13_r0 : ACode := .reg [{ op := .mov (.c (.nils)), dst := some 4 }]
def a13_r1 : ACode := .reg [{ op := .mov (.c (.nils)), dst := some 5 }]
def a13_r2 : ACode := .reg [{ op := .mov (.t 0), dst := some 6 },
    { op := .call 28 [(.t 6)], dst := some 7 },
    { op := .mov (.t 7), dst := some 8 },
    { op := .mov (.t 0), dst := some 9, g := some (8, true) },
    { op := .nilc (.t 9), dst := some 10, g := some (8, true) },
    { op := .fad 0 (.t 10), dst := some 11, g := some (8, true) },
    { op := .load 1 false (.t 11), dst := some 12, g := some (8, true) },
    { op := .len false (.t 12), dst := some 13, g := some (8, true) },
    { op := .bin .gtr (.t 13) (.c (.int .i64 0)), dst := some 14, g := some (8, true) },
    { op := .pick (.t 8) (.t 14) (.c (.bool false)), dst := some 15 },
    { op := .mov (.t 15), dst := some 16 },
    { op := .mov (.t 0), dst := some 17, g := some (16, true) },
    { op := .nilc (.t 17), dst := some 18, g := some (16, true) },
    { op := .fad 0 (.t 18), dst := some 19, g := some (16, true) },
    { op := .load 1 false (.t 19), dst := some 20, g := some (16, true) },
    { op := .iad 2 (.t 20) (.c (.int .i64 0)), dst := some 21, g := some (16, true) },
    { op := .fad 0 (.t 21), dst := some 22, g := some (16, true) },
    { op := .load 1 false (.t 22), dst := some 23, g := some (16, true) },
    { op := .mov (.t 1), dst := some 24, g := some (16, true) },
    { op := .bin .leq (.t 23) (.t 24), dst := some 25, g := some (16, true) },
    { op := .pick (.t 16) (.t 25) (.c (.bool false)), dst := some 26 }]
def a13_r3 : ACode := .reg [{ op := .mov (.t 5), dst := some 27 },
    { op := .mov (.t 0), dst := some 28 },
    { op := .call 30 [(.t 28), (.c (.int .i64 0))], dst := some 29 },
    { op := .bsl 2 true 1 [.int .i64 0, .int .i64 0] [(0, (.t 29))], dst := some 30 },
    { op := .app 2 16 (.t 27) (.t 30), dst := some 31, k := 27 },
    { op := .mov (.t 31), dst := some 5 }]
def a13_l0 : ACode := (.seq (.seq a13_r2 (.cond (.t 26) .skip (.exit 0))) (.block 1 a13_r3))
def a13_r4 : ACode := .reg [{ op := .mov (.t 5), dst := some 32 },
    { op := .mov (.t 32), dst := some 4 }]
def a13 : ACode := (.seq a13_r0 (.seq a13_r1 (.seq (.block 0 (.loop a13_l0)) (.seq a13_r4 .ret))))
def a13_res : List ARes := [.tmp 4]
theorem a13_ok : Coded Try.prog 13 33 a13 a13_res := ⟨Try.f13, _, by kernel_rfl, rfl, by kernel_rfl, rfl, by kernel_rfl, by kernel_rfl⟩
theorem a13_of {args : List AV} {Q : AV → Prop} (hl : args.length ≤ 33) (h : AW Try.prog 33 a13 (mkS (argT 0 args) [] 0) (retQ a13_res Q)) : ACall Try.prog 13 args Q := acall_coded a13_ok hl h

/- workflow/workflowlaw37.contains -/
def a14_r0 : ACode := .reg [{ op := .box 2 true (.t 1), dst := some 3, k := 0 },
    { op := .mov (.c (.bool false)), dst := some 4 }]
def a14_r1 : ACode := .reg [{ op := .mov (.t 0), dst := some 6 },
    { op := .len false (.t 6), dst := some 7 },
    { op := .mov (.c (.int .i64 0)), dst := some 8 }]
def a14_r2 : ACode := .reg [{ op := .bin .lss (.t 8) (.t 7), dst := some 9 }]
def a14_r3 : ACode := .reg [{ op := .mov (.t 8), dst := some 10 },
    { op := .mov (.t 10), dst := some 5 }]
def a14_r4 : ACode := .draw [{ op := .mov (.t 0), dst := some 11 },
    { op := .mov (.t 5), dst := some 12 },
    { op := .iad 2 (.t 11) (.t 12), dst := some 13 },
    { op := .load 2 true (.t 13), dst := some 14 },
    { op := .load 2 true (.t 3), dst := some 15 },
    { op := .eqs false [.i .i64, .i .i64] (.t 14) (.t 15), dst := some 16 }]
    []
    (.take 0 (.take 1 (.take 2 (.take 3 (.take 4 (.take 5 (.done)))))))
def a14_r5 : ACode := .reg [{ op := .mov (.c (.bool true)), dst := some 4 }]
def a14_r6 : ACode := .reg [{ op := .bin .add (.t 8) (.c (.int .i64 1)), dst := some 17 },
    { op := .mov (.t 17), dst := some 8 }]
def a14_l0 : ACode := (.seq a14_r2 (.seq (.cond (.t 9) .skip (.exit 0)) (.seq (.block 1 (.seq a14_r3 (.seq a14_r4 (.cond (.t 16) (.seq a14_r5 .ret) .skip)))) a14_r6)))
def a14_r7 : ACode := .reg [{ op := .mov (.c (.bool false)), dst := some 4 }]
def a14 : ACode := (.seq a14_r0 (.seq (.seq a14_r1 (.block 0 (.loop a14_l0))) (.seq a14_r7 .ret)))
def a14_res : List ARes := [.tmp 4]
theorem a14_ok : Coded Try.prog 14 18 a14 a14_res := ⟨Try.f14, _, by kernel_rfl, rfl, by kernel_rfl, rfl, by kernel_rfl, by kernel_rfl⟩
theorem a14_of {args : List AV} {Q : AV → Prop} (hl : args.length ≤ 18) (h : AW Try.prog 18 a14 (mkS (argT 0 args) [] 0) (retQ a14_res Q)) : ACall Try.prog 14 args Q := acall_coded a14_ok hl h

/- (*workflow/timers.Queue).Len -/
def a15_r0 : ACode := .reg [{ op := .mov (.c (.int .i64 0)), dst := some 2 }]
def a15_r1 : ACode := .reg [{ op := .mov (.t 0), dst := some 3 },
    { op := .call 28 [(.t 3)], dst := some 4 },
    { op := .not (.t 4), dst := some 5 }]
def a15_r2 : ACode := .reg [{ op := .mov (.c (.int .i64 0)), dst := some 2 }]
def a15_r3 : ACode := .reg [{ op := .mov (.t 0), dst := some 6 },
    { op := .nilc (.t 6), dst := some 7 },
    { op := .fad 0 (.t 7), dst := some 8 },
    { op := .load 1 false (.t 8), dst := some 9 },
    { op := .len false (.t 9), dst := some 10 },
    { op := .mov (.t 10), dst := some 2 }]
def a15 : ACode := (.seq a15_r0 (.seq (.seq a15_r1 (.cond (.t 5) (.seq a15_r2 .ret) .skip)) (.seq a15_r3 .ret)))
def a15_res : List ARes := [.tmp 2]
theorem a15_ok : Coded Try.prog 15 11 a15 a15_res := ⟨Try.f15, _, by kernel_rfl, rfl, by kernel_rfl, rfl, by kernel_rfl, by kernel_rfl⟩
theorem a15_of {args : List AV} {Q : AV → Prop} (hl : args.length ≤ 11) (h : AW Try.prog 11 a15 (mkS (argT 0 args) [] 0) (retQ a15_res Q)) : ACall Try.prog 15 args Q := acall_coded a15_ok hl h

/- (*workflow/timers.Queue).Add -/
def a17_r0 : ACode := .reg [{ op := .box 2 true (.t 1), dst := some 3, k := 0 },
    { op := .mov (.c (.int .i64 0)), dst := some 4 }]
def a17_r1 : ACode := .reg [{ op := .mov (.t 0), dst := some 5 },
    { op := .call 28 [(.t 5)], dst := some 6 },
    { op := .not (.t 6), dst := some 7 }]
def a17_r2 : ACode := .reg [{ op := .mov (.c (.int .i64 1)), dst := some 4 }]
def a17_r3 : ACode := .reg [{ op := .mov (.t 0), dst := some 8 },
    { op := .fad 1 (.t 3), dst := some 9 },
    { op := .load 1 false (.t 9), dst := some 10 },
    { op := .call 29 [(.t 8), (.t 10)], dst := some 11 },
    { op := .bin .geq (.t 11) (.c (.int .i64 0)), dst := some 12 }]
def a17_r4 : ACode := .reg [{ op := .mov (.c (.int .i64 9)), dst := some 4 }]
def a17_r5 : ACode := .draw [{ op := .mov (.t 0), dst := some 13 },
    { op := .mov (.t 0), dst := some 14 },
    { op := .nilc (.t 14), dst := some 15 },
    { op := .fad 0 (.t 15), dst := some 16 },
    { op := .load 1 false (.t 16), dst := some 17 },
    { op := .load 2 true (.t 3), dst := some 18 },
    { op := .bsl 2 true 1 [.int .i64 0, .int .i64 0] [(0, (.t 18))], dst := some 19 },
    { op := .app 2 16 (.t 17) (.t 19), dst := some 20, k := 19 },
    { op := .nilc (.t 13), dst := some 21 },
    { op := .fad 0 (.t 21), dst := some 22 },
    { op := .store 1 false (.t 22) (.t 20), dst := none }]
    []
    (.take 0 (.take 1 (.take 2 (.take 3 (.take 4 (.take 5 (.take 6 (.one 7 (.take 8 (.take 9 (.one 10 (.done))))))))))))
def a17_r6 : ACode := .reg [{ op := .mov (.t 0), dst := some 23 },
    { op := .mov (.t 0), dst := some 24 },
    { op := .nilc (.t 24), dst := some 25 },
    { op := .fad 0 (.t 25), dst := some 26 },
    { op := .load 1 false (.t 26), dst := some 27 },
    { op := .len false (.t 27), dst := some 28 },
    { op := .bin .sub (.t 28) (.c (.int .i64 1)), dst := some 29 },
    { op := .call 31 [(.t 23), (.t 29)], dst := some 30 }]
def a17_r7 : ACode := .reg [{ op := .mov (.c (.int .i64 0)), dst := some 4 }]
def a17 : ACode := (.seq a17_r0 (.seq (.seq a17_r1 (.cond (.t 7) (.seq a17_r2 .ret) .skip)) (.seq (.seq a17_r3 (.cond (.t 12) (.seq a17_r4 .ret) .skip)) (.seq a17_r5 (.seq a17_r6 (.seq a17_r7 .ret))))))
def a17_res : List ARes := [.tmp 4]
theorem a17_ok : Coded Try.prog 17 31 a17 a17_res := ⟨Try.f17, _, by kernel_rfl, rfl, by kernel_rfl, rfl, by kernel_rfl, by kernel_rfl⟩
theorem a17_of {args : List AV} {Q : AV → Prop} (hl : args.length ≤ 31) (h : AW Try.prog 31 a17 (mkS (argT 0 args) [] 0) (retQ a17_res Q)) : ACall Try.prog 17 args Q := acall_coded a17_ok hl h

/- (*workflow/timers.Queue).Next -/
def a22_r0 : ACode := .reg [{ op := .alloc 2 true [.int .i64 0, .int .i64 0], dst := some 2, k := 0 },
    { op := .mov (.c (.bool false)), dst := some 3 }]
def a22_r1 : ACode := .reg [{ op := .mov (.t 0), dst := some 4 },
    { op := .call 28 [(.t 4)], dst := some 5 },
    { op := .not (.t 5), dst := some 6 },
    { op := .mov (.t 6), dst := some 7 },
    { op := .mov (.t 0), dst := some 8, g := some (7, false) },
    { op := .nilc (.t 8), dst := some 9, g := some (7, false) },
    { op := .fad 0 (.t 9), dst := some 10, g := some (7, false) },
    { op := .load 1 false (.t 10), dst := some 11, g := some (7, false) },
    { op := .len false (.t 11), dst := some 12, g := some (7, false) },
    { op := .bin .eql (.t 12) (.c (.int .i64 0)), dst := some 13, g := some (7, false) },
    { op := .pick (.t 7) (.c (.bool true)) (.t 13), dst := some 14 }]
def a22_r2 : ACode := .reg [{ op := .build [.int .i64 0, .int .i64 0] [], dst := some 15 },
    { op := .store 2 true (.t 2) (.t 15), dst := none },
    { op := .mov (.c (.bool false)), dst := some 3 }]
def a22_r3 : ACode := .reg [{ op := .mov (.t 0), dst := some 16 },
    { op := .nilc (.t 16), dst := some 17 },
    { op := .fad 0 (.t 17), dst := some 18 },
    { op := .load 1 false (.t 18), dst := some 19 },
    { op := .iad 2 (.t 19) (.c (.int .i64 0)), dst := some 20 },
    { op := .load 2 true (.t 20), dst := some 21 },
    { op := .store 2 true (.t 2) (.t 21), dst := none },
    { op := .mov (.c (.bool true)), dst := some 3 }]
def a22 : ACode := (.seq a22_r0 (.seq (.seq a22_r1 (.cond (.t 14) (.seq a22_r2 .ret) .skip)) (.seq a22_r3 .ret)))
def a22_res : List ARes := [.cell 2 2 true, .tmp 3]
theorem a22_ok : Coded Try.prog 22 22 a22 a22_res := ⟨Try.f22, _, by kernel_rfl, rfl, by kernel_rfl, rfl, by kernel_rfl, by kernel_rfl⟩
theorem a22_of {args : List AV} {Q : AV → Prop} (hl : args.length ≤ 22) (h : AW Try.prog 22 a22 (mkS (argT 0 args) [] 0) (retQ a22_res Q)) : ACall Try.prog 22 args Q := acall_coded a22_ok hl h

/- (*workflow/timers.Queue).Items -/
def a25_r0 : ACode := .reg [{ op := .mov (.c (.nils)), dst := some 2 }]
def a25_r1 : ACode := .reg [{ op := .mov (.t 0), dst := some 4 },
    { op := .call 28 [(.t 4)], dst := some 5 },
    { op := .not (.t 5), dst := some 6 }]
def a25_r2 : ACode := .reg [{ op := .mov (.c (.nils)), dst := some 2 }]
def a25_r3 : ACode := .reg [{ op := .mov (.t 0), dst := some 7 },
    { op := .nilc (.t 7), dst := some 8 },
    { op := .fad 0 (.t 8), dst := some 9 },
    { op := .load 1 false (.t 9), dst := some 10 },
    { op := .call 33 [(.t 10)], dst := some 11 },
    { op := .mov (.t 11), dst := some 3 }]
def a25_r4 : ACode := .reg [{ op := .mov (.t 3), dst := some 12 },
    { op := .call 34 [(.t 12), (.c (.fn 35))], dst := some 13 }]
def a25_r5 : ACode := .reg [{ op := .mov (.t 3), dst := some 14 },
    { op := .mov (.t 14), dst := some 2 }]
def a25 : ACode := (.seq a25_r0 (.seq (.seq a25_r1 (.cond (.t 6) (.seq a25_r2 .ret) .skip)) (.seq a25_r3 (.seq a25_r4 (.seq a25_r5 .ret)))))
def a25_res : List ARes := [.tmp 2]
theorem a25_ok : Coded Try.prog 25 15 a25 a25_res := ⟨Try.f25, _, by kernel_rfl, rfl, by kernel_rfl, rfl, by kernel_rfl, by kernel_rfl⟩
theorem a25_of {args : List AV} {Q : AV → Prop} (hl : args.length ≤ 15) (h : AW Try.prog 15 a25 (mkS (argT 0 args) [] 0) (retQ a25_res Q)) : ACall Try.prog 25 args Q := acall_coded a25_ok hl h

/- (*workflow/timers.Queue).ready -/
def a28_r0 : ACode := .reg [{ op := .mov (.c (.bool false)), dst := some 2 }]
def a28_r1 : ACode := .reg [{ op := .mov (.t 0), dst := some 3 },
    { op := .eqn true .p (.t 3), dst := some 4 },
    { op := .mov (.t 4), dst := some 5 },
    { op := .mov (.t 0), dst := some 6, g := some (5, true) },
    { op := .nilc (.t 6), dst := some 7, g := some (5, true) },
    { op := .fad 1 (.t 7), dst := some 8, g := some (5, true) },
    { op := .load 1 false (.t 8), dst := some 9, g := some (5, true) },
    { op := .pick (.t 5) (.t 9) (.c (.bool false)), dst := some 10 },
    { op := .mov (.t 10), dst := some 2 }]
def a28 : ACode := (.seq a28_r0 (.seq a28_r1 .ret))
def a28_res : List ARes := [.tmp 2]
theorem a28_ok : Coded Try.prog 28 11 a28 a28_res := ⟨Try.f28, _, by kernel_rfl, rfl, by kernel_rfl, rfl, by kernel_rfl, by kernel_rfl⟩
theorem a28_of {args : List AV} {Q : AV → Prop} (hl : args.length ≤ 11) (h : AW Try.prog 11 a28 (mkS (argT 0 args) [] 0) (retQ a28_res Q)) : ACall Try.prog 28 args Q := acall_coded a28_ok hl h

/- (*workflow/timers.Queue).find -/
def a29_r0 : ACode := .reg [{ op := .box 1 false (.t 1), dst := some 3, k := 0 },
    { op := .mov (.c (.int .i64 0)), dst := some 4 }]
def a29_r1 : ACode := .reg [{ op := .mov (.t 0), dst := some 5 },
    { op := .nilc (.t 5), dst := some 6 },
    { op := .fad 0 (.t 6), dst := some 7 },
    { op := .load 1 false (.t 7), dst := some 8 },
    { op := .mkf 38 [(.t 3)], dst := some 9 },
    { op := .call 37 [(.t 8), (.t 9)], dst := some 10 },
    { op := .mov (.t 10), dst := some 4 }]
def a29 : ACode := (.seq a29_r0 (.seq a29_r1 .ret))
def a29_res : List ARes := [.tmp 4]
theorem a29_ok : Coded Try.prog 29 11 a29 a29_res := ⟨Try.f29, _, by kernel_rfl, rfl, by kernel_rfl, rfl, by kernel_rfl, by kernel_rfl⟩
theorem a29_of {args : List AV} {Q : AV → Prop} (hl : args.length ≤ 11) (h : AW Try.prog 11 a29 (mkS (argT 0 args) [] 0) (retQ a29_res Q)) : ACall Try.prog 29 args Q := acall_coded a29_ok hl h

/- (*workflow/timers.Queue).remove -/
def a30_r0 : ACode := .reg [{ op := .alloc 2 true [.int .i64 0, .int .i64 0], dst := some 4, k := 0 }]
def a30_r1 : ACode := .reg [{ op := .mov (.t 0), dst := some 10 },
    { op := .nilc (.t 10), dst := some 11 },
    { op := .fad 0 (.t 11), dst := some 12 },
    { op := .load 1 false (.t 12), dst := some 13 },
    { op := .mov (.t 1), dst := some 14 },
    { op := .iad 2 (.t 13) (.t 14), dst := some 15 },
    { op := .load 2 true (.t 15), dst := some 16 },
    { op := .alloc 2 true [.int .i64 0, .int .i64 0], dst := some 5, k := 8 },
    { op := .store 2 true (.t 5) (.t 16), dst := none }]
def a30_r2 : ACode := .reg [{ op := .mov (.t 0), dst := some 17 },
    { op := .nilc (.t 17), dst := some 18 },
    { op := .fad 0 (.t 18), dst := some 19 },
    { op := .load 1 false (.t 19), dst := some 20 },
    { op := .len false (.t 20), dst := some 21 },
    { op := .bin .sub (.t 21) (.c (.int .i64 1)), dst := some 22 },
    { op := .mov (.t 22), dst := some 6 }]
def a30_r3 : ACode := .draw [{ op := .mov (.t 0), dst := some 23 },
    { op := .nilc (.t 23), dst := some 24 },
    { op := .fad 0 (.t 24), dst := some 25 },
    { op := .load 1 false (.t 25), dst := some 26 },
    { op := .mov (.t 1), dst := some 27 },
    { op := .mov (.t 0), dst := some 28 },
    { op := .nilc (.t 28), dst := some 29 },
    { op := .fad 0 (.t 29), dst := some 30 },
    { op := .load 1 false (.t 30), dst := some 31 },
    { op := .mov (.t 6), dst := some 32 },
    { op := .iad 2 (.t 31) (.t 32), dst := some 33 },
    { op := .load 2 true (.t 33), dst := some 34 },
    { op := .iad 2 (.t 26) (.t 27), dst := some 35 },
    { op := .store 2 true (.t 35) (.t 34), dst := none }]
    []
    (.take 0 (.take 1 (.take 2 (.take 3 (.take 4 (.take 5 (.take 6 (.take 7 (.take 8 (.take 9 (.take 10 (.take 11 (.take 12 (.one 13 (.done)))))))))))))))
def a30_r4 : ACode := .reg [{ op := .mov (.t 0), dst := some 36 },
    { op := .mov (.t 0), dst := some 37 },
    { op := .nilc (.t 37), dst := some 38 },
    { op := .fad 0 (.t 38), dst := some 39 },
    { op := .load 1 false (.t 39), dst := some 40 },
    { op := .mov (.t 6), dst := some 41 },
    { op := .slice 2 (.t 40) none (some (.t 41)) none, dst := some 42 },
    { op := .nilc (.t 36), dst := some 43 },
    { op := .fad 0 (.t 43), dst := some 44 },
    { op := .store 1 false (.t 44) (.t 42), dst := none }]
def a30_r5 : ACode := .reg [{ op := .mov (.t 0), dst := some 45 },
    { op := .mkm 31 [(.t 45)], dst := some 46 },
    { op := .mov (.t 0), dst := some 47 },
    { op := .mkm 39 [(.t 47)], dst := some 48 },
    { op := .bsl 1 false 2 [.nilf] [(0, (.t 46)), (1, (.t 48))], dst := some 49 },
    { op := .mov (.t 49), dst := some 7 }]
def a30_r6 : ACode := .reg [{ op := .mov (.t 1), dst := some 50 },
    { op := .mov (.t 6), dst := some 51 },
    { op := .bin .lss (.t 50) (.t 51), dst := some 52 }]
def a30_r7 : ACode := .reg [{ op := .mov (.t 7), dst := some 53 },
    { op := .len false (.t 53), dst := some 54 },
    { op := .mov (.c (.int .i64 0)), dst := some 55 }]
def a30_r8 : ACode := .reg [{ op := .bin .lss (.t 55) (.t 54), dst := some 56 }]
def a30_r9 : ACode := .reg [{ op := .iad 1 (.t 53) (.t 55), dst := some 57 },
    { op := .load 1 false (.t 57), dst := some 58 },
    { op := .mov (.t 58), dst := some 9 }]
def a30_r10 : ACode := .reg [{ op := .mov (.t 9), dst := some 59 },
    { op := .mov (.t 1), dst := some 60 },
    { op := .callv (.t 59) [(.t 60)], dst := some 61 }]
def a30_r11 : ACode := .reg [{ op := .bin .add (.t 55) (.c (.int .i64 1)), dst := some 62 },
    { op := .mov (.t 62), dst := some 55 }]
def a30_l0 : ACode := (.seq a30_r8 (.seq (.cond (.t 56) .skip (.exit 0)) (.seq (.block 1 (.seq a30_r9 a30_r10)) a30_r11)))
def a30_r12 : ACode := .reg [{ op := .load 2 true (.t 5), dst := some 63 },
    { op := .store 2 true (.t 4) (.t 63), dst := none }]
def a30 : ACode := (.seq a30_r0 (.seq a30_r1 (.seq a30_r2 (.seq a30_r3 (.seq a30_r4 (.seq a30_r5 (.seq (.seq a30_r6 (.cond (.t 52) (.seq a30_r7 (.block 0 (.loop a30_l0))) .skip)) (.seq a30_r12 .ret))))))))
def a30_res : List ARes := [.cell 4 2 true]
theorem a30_ok : Coded Try.prog 30 64 a30 a30_res := ⟨Try.f30, _, by kernel_rfl, rfl, by kernel_rfl, rfl, by kernel_rfl, by kernel_rfl⟩
theorem a30_of {args : List AV} {Q : AV → Prop} (hl : args.length ≤ 64) (h : AW Try.prog 64 a30 (mkS (argT 0 args) [] 0) (retQ a30_res Q)) : ACall Try.prog 30 args Q := acall_coded a30_ok hl h

/- (*workflow/timers.Queue).up -/
def a31_r0 : ACode := .reg [{ op := .mov (.t 1), dst := some 5 },
    { op := .bin .gtr (.t 5) (.c (.int .i64 0)), dst := some 6 }]
def a31_r1 : ACode := .reg [{ op := .mov (.t 1), dst := some 7 },
    { op := .bin .sub (.t 7) (.c (.int .i64 1)), dst := some 8 },
    { op := .bin .quo (.t 8) (.c (.int .i64 2)), dst := some 9 },
    { op := .mov (.t 9), dst := some 4 }]
def a31_r2 : ACode := .draw [{ op := .mov (.t 0), dst := some 10 },
    { op := .nilc (.t 10), dst := some 11 },
    { op := .fad 0 (.t 11), dst := some 12 },
    { op := .load 1 false (.t 12), dst := some 13 },
    { op := .mov (.t 1), dst := some 14 },
    { op := .iad 2 (.t 13) (.t 14), dst := some 15 },
    { op := .load 2 true (.t 15), dst := some 16 },
    { op := .mov (.t 0), dst := some 17 },
    { op := .nilc (.t 17), dst := some 18 },
    { op := .fad 0 (.t 18), dst := some 19 },
    { op := .load 1 false (.t 19), dst := some 20 },
    { op := .mov (.t 4), dst := some 21 },
    { op := .iad 2 (.t 20) (.t 21), dst := some 22 },
    { op := .load 2 true (.t 22), dst := some 23 },
    { op := .call 36 [(.t 16), (.t 23)], dst := some 24 },
    { op := .not (.t 24), dst := some 25 }]
    []
    (.take 0 (.take 1 (.take 2 (.take 3 (.take 4 (.take 5 (.take 6 (.take 7 (.take 8 (.take 9 (.take 10 (.take 11 (.take 12 (.take 13 (.one 14 (.take 15 (.done)))))))))))))))))
def a31_r3 : ACode := .draw [{ op := .mov (.t 0), dst := some 26 },
    { op := .nilc (.t 26), dst := some 27 },
    { op := .fad 0 (.t 27), dst := some 28 },
    { op := .load 1 false (.t 28), dst := some 29 },
    { op := .mov (.t 1), dst := some 30 },
    { op := .mov (.t 0), dst := some 31 },
    { op := .nilc (.t 31), dst := some 32 },
    { op := .fad 0 (.t 32), dst := some 33 },
    { op := .load 1 false (.t 33), dst := some 34 },
    { op := .mov (.t 4), dst := some 35 },
    { op := .mov (.t 0), dst := some 36 },
    { op := .nilc (.t 36), dst := some 37 },
    { op := .fad 0 (.t 37), dst := some 38 },
    { op := .load 1 false (.t 38), dst := some 39 },
    { op := .mov (.t 4), dst := some 40 },
    { op := .iad 2 (.t 39) (.t 40), dst := some 41 },
    { op := .load 2 true (.t 41), dst := some 42 },
    { op := .mov (.t 0), dst := some 43 },
    { op := .nilc (.t 43), dst := some 44 },
    { op := .fad 0 (.t 44), dst := some 45 },
    { op := .load 1 false (.t 45), dst := some 46 },
    { op := .mov (.t 1), dst := some 47 },
    { op := .iad 2 (.t 46) (.t 47), dst := some 48 },
    { op := .load 2 true (.t 48), dst := some 49 },
    { op := .iad 2 (.t 29) (.t 30), dst := some 50 },
    { op := .store 2 true (.t 50) (.t 42), dst := none },
    { op := .iad 2 (.t 34) (.t 35), dst := some 51 },
    { op := .store 2 true (.t 51) (.t 49), dst := none }]
    []
    (.take 0 (.take 1 (.take 2 (.take 3 (.take 4 (.take 5 (.take 6 (.take 7 (.take 8 (.take 9 (.take 10 (.take 11 (.take 12 (.take 13 (.take 14 (.take 15 (.take 16 (.take 17 (.take 18 (.take 19 (.take 20 (.take 21 (.take 22 (.take 23 (.take 24 (.one 25 (.take 26 (.one 27 (.done)))))))))))))))))))))))))))))
def a31_r4 : ACode := .reg [{ op := .mov (.t 4), dst := some 52 },
    { op := .mov (.t 52), dst := some 1 }]
def a31_l0 : ACode := (.seq (.seq a31_r0 (.cond (.t 6) .skip (.exit 0))) (.block 1 (.seq a31_r1 (.seq (.seq a31_r2 (.cond (.t 25) .ret .skip)) (.seq a31_r3 a31_r4)))))
def a31 : ACode := (.block 0 (.loop a31_l0))
def a31_res : List ARes := []
theorem a31_ok : Coded Try.prog 31 53 a31 a31_res := ⟨Try.f31, _, by kernel_rfl, rfl, by kernel_rfl, rfl, by kernel_rfl, by kernel_rfl⟩
theorem a31_of {args : List AV} {Q : AV → Prop} (hl : args.length ≤ 53) (h : AW Try.prog 53 a31 (mkS (argT 0 args) [] 0) (retQ a31_res Q)) : ACall Try.prog 31 args Q := acall_coded a31_ok hl h

/- workflow/timers.before -/
def a36_r0 : ACode := .reg [{ op := .box 2 true (.t 0), dst := some 2, k := 0 },
    { op := .box 2 true (.t 1), dst := some 3, k := 1 },
    { op := .mov (.c (.bool false)), dst := some 4 }]
def a36_r1 : ACode := .reg [{ op := .fad 0 (.t 2), dst := some 5 },
    { op := .load 1 false (.t 5), dst := some 6 },
    { op := .fad 0 (.t 3), dst := some 7 },
    { op := .load 1 false (.t 7), dst := some 8 },
    { op := .bin .lss (.t 6) (.t 8), dst := some 9 },
    { op := .mov (.t 9), dst := some 10 },
    { op := .fad 0 (.t 2), dst := some 11, g := some (10, false) },
    { op := .load 1 false (.t 11), dst := some 12, g := some (10, false) },
    { op := .fad 0 (.t 3), dst := some 13, g := some (10, false) },
    { op := .load 1 false (.t 13), dst := some 14, g := some (10, false) },
    { op := .bin .eql (.t 12) (.t 14), dst := some 15, g := some (10, false) },
    { op := .mov (.t 15), dst := some 16, g := some (10, false) },
    { op := .fad 1 (.t 2), dst := some 17, g := some (16, true) },
    { op := .load 1 false (.t 17), dst := some 18, g := some (16, true) },
    { op := .fad 1 (.t 3), dst := some 19, g := some (16, true) },
    { op := .load 1 false (.t 19), dst := some 20, g := some (16, true) },
    { op := .bin .lss (.t 18) (.t 20), dst := some 21, g := some (16, true) },
    { op := .pick (.t 16) (.t 21) (.c (.bool false)), dst := some 22, g := some (10, false) },
    { op := .pick (.t 10) (.c (.bool true)) (.t 22), dst := some 23 },
    { op := .mov (.t 23), dst := some 4 }]
def a36 : ACode := (.seq a36_r0 (.seq a36_r1 .ret))
def a36_res : List ARes := [.tmp 4]
theorem a36_ok : Coded Try.prog 36 24 a36 a36_res := ⟨Try.f36, _, by kernel_rfl, rfl, by kernel_rfl, rfl, by kernel_rfl, by kernel_rfl⟩
theorem a36_of {args : List AV} {Q : AV → Prop} (hl : args.length ≤ 24) (h : AW Try.prog 24 a36 (mkS (argT 0 args) [] 0) (retQ a36_res Q)) : ACall Try.prog 36 args Q := acall_coded a36_ok hl h

/- slices.IndexFunc[[]workflow/timers.Item,workflow/timers.Item] -/
def a37_r0 : ACode := .reg [{ op := .mov (.c (.int .i64 0)), dst := some 4 }]
def a37_r1 : ACode := .reg [{ op := .mov (.t 0), dst := some 6 },
    { op := .len false (.t 6), dst := some 7 },
    { op := .mov (.c (.int .i64 0)), dst := some 8 }]
def a37_r2 : ACode := .reg [{ op := .bin .lss (.t 8) (.t 7), dst := some 9 }]
def a37_r3 : ACode := .reg [{ op := .mov (.t 8), dst := some 10 },
    { op := .mov (.t 10), dst := some 5 }]
def a37_r4 : ACode := .reg [{ op := .mov (.t 1), dst := some 11 },
    { op := .mov (.t 0), dst := some 12 },
    { op := .mov (.t 5), dst := some 13 },
    { op := .iad 2 (.t 12) (.t 13), dst := some 14 },
    { op := .load 2 true (.t 14), dst := some 15 },
    { op := .callv (.t 11) [(.t 15)], dst := some 16 }]
def a37_r5 : ACode := .reg [{ op := .mov (.t 5), dst := some 17 },
    { op := .mov (.t 17), dst := some 4 }]
def a37_r6 : ACode := .reg [{ op := .bin .add (.t 8) (.c (.int .i64 1)), dst := some 18 },
    { op := .mov (.t 18), dst := some 8 }]
def a37_l0 : ACode := (.seq a37_r2 (.seq (.cond (.t 9) .skip (.exit 0)) (.seq (.block 1 (.seq a37_r3 (.seq a37_r4 (.cond (.t 16) (.seq a37_r5 .ret) .skip)))) a37_r6)))
def a37_r7 : ACode := .reg [{ op := .mov (.c (.int .i64 (-1))), dst := some 4 }]
def a37 : ACode := (.seq a37_r0 (.seq (.seq a37_r1 (.block 0 (.loop a37_l0))) (.seq a37_r7 .ret)))
def a37_res : List ARes := [.tmp 4]
theorem a37_ok : Coded Try.prog 37 19 a37 a37_res := ⟨Try.f37, _, by kernel_rfl, rfl, by kernel_rfl, rfl, by kernel_rfl, by kernel_rfl⟩
theorem a37_of {args : List AV} {Q : AV → Prop} (hl : args.length ≤ 19) (h : AW Try.prog 19 a37 (mkS (argT 0 args) [] 0) (retQ a37_res Q)) : ACall Try.prog 37 args Q := acall_coded a37_ok hl h

/- (*workflow/timers.Queue).find$1 -/
def a38_r0 : ACode := .reg [{ op := .box 2 true (.t 0), dst := some 2, k := 0 },
    { op := .mov (.c (.bool false)), dst := some 3 }]
def a38_r1 : ACode := .reg [{ op := .fad 1 (.t 2), dst := some 4 },
    { op := .load 1 false (.t 4), dst := some 5 },
    { op := .load 1 false (.t 1), dst := some 6 },
    { op := .bin .eql (.t 5) (.t 6), dst := some 7 },
    { op := .mov (.t 7), dst := some 3 }]
def a38 : ACode := (.seq a38_r0 (.seq a38_r1 .ret))
def a38_res : List ARes := [.tmp 3]
theorem a38_ok : Coded Try.prog 38 8 a38 a38_res := ⟨Try.f38, _, by kernel_rfl, rfl, by kernel_rfl, rfl, by kernel_rfl, by kernel_rfl⟩
theorem a38_of {args : List AV} {Q : AV → Prop} (hl : args.length ≤ 8) (h : AW Try.prog 8 a38 (mkS (argT 0 args) [] 0) (retQ a38_res Q)) : ACall Try.prog 38 args Q := acall_coded a38_ok hl h

/- (*workflow/timers.Queue).down -/
def a39_r0 : ACode := .reg [{ op := .mov (.t 1), dst := some 6 },
    { op := .mov (.t 6), dst := some 4 }]
def a39_r1 : ACode := .reg [{ op := .mov (.t 1), dst := some 7 },
    { op := .bin .mul (.c (.int .i64 2)) (.t 7), dst := some 8 },
    { op := .bin .add (.t 8) (.c (.int .i64 1)), dst := some 9 },
    { op := .mov (.t 9), dst := some 5 }]
def a39_r2 : ACode := .reg [{ op := .mov (.t 5), dst := some 10 },
    { op := .mov (.t 1), dst := some 11 },
    { op := .bin .mul (.c (.int .i64 2)) (.t 11), dst := some 12 },
    { op := .bin .add (.t 12) (.c (.int .i64 2)), dst := some 13 },
    { op := .bin .leq (.t 10) (.t 13), dst := some 14 },
    { op := .mov (.t 14), dst := some 15 },
    { op := .mov (.t 5), dst := some 16, g := some (15, true) },
    { op := .mov (.t 0), dst := some 17, g := some (15, true) },
    { op := .nilc (.t 17), dst := some 18, g := some (15, true) },
    { op := .fad 0 (.t 18), dst := some 19, g := some (15, true) },
    { op := .load 1 false (.t 19), dst := some 20, g := some (15, true) },
    { op := .len false (.t 20), dst := some 21, g := some (15, true) },
    { op := .bin .lss (.t 16) (.t 21), dst := some 22, g := some (15, true) },
    { op := .pick (.t 15) (.t 22) (.c (.bool false)), dst := some 23 }]
def a39_r4 : ACode := .draw [{ op := .mov (.t 0), dst := some 26 },
    { op := .nilc (.t 26), dst := some 27 },
    { op := .fad 0 (.t 27), dst := some 28 },
    { op := .load 1 false (.t 28), dst := some 29 },
    { op := .mov (.t 5), dst := some 30 },
    { op := .iad 2 (.t 29) (.t 30), dst := some 31 },
    { op := .load 2 true (.t 31), dst := some 32 },
    { op := .mov (.t 0), dst := some 33 },
    { op := .nilc (.t 33), dst := some 34 },
    { op := .fad 0 (.t 34), dst := some 35 },
    { op := .load 1 false (.t 35), dst := some 36 },
    { op := .mov (.t 4), dst := some 37 },
    { op := .iad 2 (.t 36) (.t 37), dst := some 38 },
    { op := .load 2 true (.t 38), dst := some 39 },
    { op := .call 36 [(.t 32), (.t 39)], dst := some 40 }]
    []
    (.take 0 (.take 1 (.take 2 (.take 3 (.take 4 (.take 5 (.take 6 (.take 7 (.take 8 (.take 9 (.take 10 (.take 11 (.take 12 (.take 13 (.one 14 (.done))))))))))))))))
def a39_r5 : ACode := .reg [{ op := .mov (.t 5), dst := some 41 },
    { op := .mov (.t 41), dst := some 4 }]
def a39_r3 : ACode := .reg [{ op := .mov (.t 5), dst := some 24 },
    { op := .bin .add (.t 24) (.c (.int .i64 1)), dst := some 25 },
    { op := .mov (.t 25), dst := some 5 }]
def a39_l0 : ACode := (.seq (.seq a39_r2 (.cond (.t 23) .skip (.exit 2))) (.seq (.block 3 (.seq a39_r4 (.cond (.t 40) a39_r5 .skip))) a39_r3))
def a39_r6 : ACode := .reg [{ op := .mov (.t 4), dst := some 42 },
    { op := .mov (.t 1), dst := some 43 },
    { op := .bin .eql (.t 42) (.t 43), dst := some 44 }]
def a39_r7 : ACode := .draw [{ op := .mov (.t 0), dst := some 45 },
    { op := .nilc (.t 45), dst := some 46 },
    { op := .fad 0 (.t 46), dst := some 47 },
    { op := .load 1 false (.t 47), dst := some 48 },
    { op := .mov (.t 1), dst := some 49 },
    { op := .mov (.t 0), dst := some 50 },
    { op := .nilc (.t 50), dst := some 51 },
    { op := .fad 0 (.t 51), dst := some 52 },
    { op := .load 1 false (.t 52), dst := some 53 },
    { op := .mov (.t 4), dst := some 54 },
    { op := .mov (.t 0), dst := some 55 },
    { op := .nilc (.t 55), dst := some 56 },
    { op := .fad 0 (.t 56), dst := some 57 },
    { op := .load 1 false (.t 57), dst := some 58 },
    { op := .mov (.t 4), dst := some 59 },
    { op := .iad 2 (.t 58) (.t 59), dst := some 60 },
    { op := .load 2 true (.t 60), dst := some 61 },
    { op := .mov (.t 0), dst := some 62 },
    { op := .nilc (.t 62), dst := some 63 },
    { op := .fad 0 (.t 63), dst := some 64 },
    { op := .load 1 false (.t 64), dst := some 65 },
    { op := .mov (.t 1), dst := some 66 },
    { op := .iad 2 (.t 65) (.t 66), dst := some 67 },
    { op := .load 2 true (.t 67), dst := some 68 },
    { op := .iad 2 (.t 48) (.t 49), dst := some 69 },
    { op := .store 2 true (.t 69) (.t 61), dst := none },
    { op := .iad 2 (.t 53) (.t 54), dst := some 70 },
    { op := .store 2 true (.t 70) (.t 68), dst := none }]
    []
    (.take 0 (.take 1 (.take 2 (.take 3 (.take 4 (.take 5 (.take 6 (.take 7 (.take 8 (.take 9 (.take 10 (.take 11 (.take 12 (.take 13 (.take 14 (.take 15 (.take 16 (.take 17 (.take 18 (.take 19 (.take 20 (.take 21 (.take 22 (.take 23 (.take 24 (.one 25 (.take 26 (.one 27 (.done)))))))))))))))))))))))))))))
def a39_r8 : ACode := .reg [{ op := .mov (.t 4), dst := some 71 },
    { op := .mov (.t 71), dst := some 1 }]
def a39_l1 : ACode := (.block 1 (.seq a39_r0 (.seq (.seq a39_r1 (.block 2 (.loop a39_l0))) (.seq (.seq a39_r6 (.cond (.t 44) .ret .skip)) (.seq a39_r7 a39_r8)))))
def a39 : ACode := (.block 0 (.loop a39_l1))
def a39_res : List ARes := []
theorem a39_ok : Coded Try.prog 39 72 a39 a39_res := ⟨Try.f39, _, by kernel_rfl, rfl, by kernel_rfl, rfl, by kernel_rfl, by kernel_rfl⟩
theorem a39_of {args : List AV} {Q : AV → Prop} (hl : args.length ≤ 72) (h : AW Try.prog 72 a39 (mkS (argT 0 args) [] 0) (retQ a39_res Q)) : ACall Try.prog 39 args Q := acall_coded a39_ok hl h

/- workflow/workflowlaw37.works -/
def a9_r0 : ACode := .reg [{ op := .mov (.c (.bool false)), dst := some 0 }]
def a9_r1 : ACode := .reg [{ op := .call 10 [], dst := some 6 },
    { op := .mov (.t 6), dst := some 1 }]
def a9_r2 : ACode := .reg [{ op := .mov (.t 1), dst := some 7 },
    { op := .eqn false .p (.t 7), dst := some 8 }]
def a9_r3 : ACode := .reg [{ op := .mov (.c (.bool false)), dst := some 0 }]
def a9_r4 : ACode := .reg [{ op := .mov (.t 1), dst := some 9 },
    { op := .build [.int .i64 0, .int .i64 0] [(0, 1, (.c (.int .i64 5))), (1, 1, (.c (.int .i64 1)))], dst := some 10 },
    { op := .call 17 [(.t 9), (.t 10)], dst := some 11 }]
def a9_r5 : ACode := .reg [{ op := .mov (.t 1), dst := some 12 },
    { op := .build [.int .i64 0, .int .i64 0] [(0, 1, (.c (.int .i64 3))), (1, 1, (.c (.int .i64 2)))], dst := some 13 },
    { op := .call 17 [(.t 12), (.t 13)], dst := some 14 }]
def a9_r6 : ACode := .reg [{ op := .mov (.t 1), dst := some 15 },
    { op := .build [.int .i64 0, .int .i64 0] [(0, 1, (.c (.int .i64 5)))], dst := some 16 },
    { op := .call 17 [(.t 15), (.t 16)], dst := some 17 }]
def a9_r7 : ACode := .reg [{ op := .mov (.t 1), dst := some 18 },
    { op := .build [.int .i64 0, .int .i64 0] [(0, 1, (.c (.int .i64 9))), (1, 1, (.c (.int .i64 1)))], dst := some 19 },
    { op := .call 17 [(.t 18), (.t 19)], dst := some 20 },
    { op := .mov (.t 20), dst := some 2 }]
def a9_r8 : ACode := .reg [{ op := .mov (.t 1), dst := some 21 },
    { op := .call 13 [(.t 21), (.c (.int .i64 4))], dst := some 22 },
    { op := .mov (.t 22), dst := some 3 }]
def a9_r9 : ACode := .reg [{ op := .mov (.t 1), dst := some 24 },
    { op := .call 22 [(.t 24)], dst := some 25 },
    { op := .mov (.t 25), dst := some 23 },
    { op := .ext (.t 23) 0, dst := some 26 },
    { op := .ext (.t 23) 1, dst := some 27 },
    { op := .alloc 2 true [.int .i64 0, .int .i64 0], dst := some 4, k := 27 },
    { op := .store 2 true (.t 4) (.t 26), dst := none },
    { op := .mov (.t 27), dst := some 5 }]
def a9_r10 : ACode := .reg [{ op := .mov (.t 2), dst := some 28 },
    { op := .bin .eql (.t 28) (.c (.int .i64 9)), dst := some 29 },
    { op := .mov (.t 29), dst := some 30 },
    { op := .mov (.t 3), dst := some 31, g := some (30, true) },
    { op := .len false (.t 31), dst := some 32, g := some (30, true) },
    { op := .bin .eql (.t 32) (.c (.int .i64 1)), dst := some 33, g := some (30, true) },
    { op := .pick (.t 30) (.t 33) (.c (.bool false)), dst := some 34 },
    { op := .mov (.t 34), dst := some 35 },
    { op := .mov (.t 3), dst := some 36, g := some (35, true) },
    { op := .iad 2 (.t 36) (.c (.int .i64 0)), dst := some 37, g := some (35, true) },
    { op := .fad 1 (.t 37), dst := some 38, g := some (35, true) },
    { op := .load 1 false (.t 38), dst := some 39, g := some (35, true) },
    { op := .bin .eql (.t 39) (.c (.int .i64 2)), dst := some 40, g := some (35, true) },
    { op := .pick (.t 35) (.t 40) (.c (.bool false)), dst := some 41 },
    { op := .mov (.t 41), dst := some 42 },
    { op := .mov (.t 5), dst := some 43, g := some (42, true) },
    { op := .pick (.t 42) (.t 43) (.c (.bool false)), dst := some 44 },
    { op := .mov (.t 44), dst := some 45 },
    { op := .load 2 true (.t 4), dst := some 46, g := some (45, true) },
    { op := .build [.int .i64 0, .int .i64 0] [(0, 1, (.c (.int .i64 5)))], dst := some 47, g := some (45, true) },
    { op := .eqs false [.i .i64, .i .i64] (.t 46) (.t 47), dst := some 48, g := some (45, true) },
    { op := .pick (.t 45) (.t 48) (.c (.bool false)), dst := some 49 },
    { op := .mov (.t 49), dst := some 50 },
    { op := .mov (.t 1), dst := some 51, g := some (50, true) },
    { op := .call 15 [(.t 51)], dst := some 52, g := some (50, true) },
    { op := .bin .eql (.t 52) (.c (.int .i64 2)), dst := some 53, g := some (50, true) },
    { op := .pick (.t 50) (.t 53) (.c (.bool false)), dst := some 54 },
    { op := .mov (.t 54), dst := some 55 },
    { op := .mov (.t 1), dst := some 56, g := some (55, true) },
    { op := .call 12 [(.t 56), (.c (.int .i64 1))], dst := some 57, g := some (55, true) },
    { op := .pick (.t 55) (.t 57) (.c (.bool false)), dst := some 58 },
    { op := .mov (.t 58), dst := some 59 },
    { op := .mov (.t 1), dst := some 60, g := some (59, true) },
    { op := .call 12 [(.t 60), (.c (.int .i64 1))], dst := some 61, g := some (59, true) },
    { op := .not (.t 61), dst := some 62, g := some (59, true) },
    { op := .pick (.t 59) (.t 62) (.c (.bool false)), dst := some 63 },
    { op := .mov (.t 63), dst := some 0 }]
def a9 : ACode := (.seq a9_r0 (.seq a9_r1 (.seq (.seq a9_r2 (.cond (.t 8) (.seq a9_r3 .ret) .skip)) (.seq a9_r4 (.seq a9_r5 (.seq a9_r6 (.seq a9_r7 (.seq a9_r8 (.seq a9_r9 (.seq a9_r10 .ret))))))))))
def a9_res : List ARes := [.tmp 0]
theorem a9_ok : Coded Try.prog 9 64 a9 a9_res := ⟨Try.f9, _, by kernel_rfl, rfl, by kernel_rfl, rfl, by kernel_rfl, by kernel_rfl⟩
theorem a9_of {args : List AV} {Q : AV → Prop} (hl : args.length ≤ 64) (h : AW Try.prog 64 a9 (mkS (argT 0 args) [] 0) (retQ a9_res Q)) : ACall Try.prog 9 args Q := acall_coded a9_ok hl h

/- workflow/workflowlaw37.TimersCancel -/
def a3_r0 : ACode := .reg [{ op := .mov (.c (.bool false)), dst := some 4 }]
def a3_r1 : ACode := .reg [{ op := .mov (.t 0), dst := some 11 },
    { op := .len false (.t 11), dst := some 12 },
    { op := .bin .gtr (.t 12) (.c (.int .i64 60)), dst := some 13 },
    { op := .mov (.t 13), dst := some 14 },
    { op := .mov (.t 0), dst := some 15, g := some (14, false) },
    { op := .call 8 [(.t 15)], dst := some 16, g := some (14, false) },
    { op := .not (.t 16), dst := some 17, g := some (14, false) },
    { op := .pick (.t 14) (.c (.bool true)) (.t 17), dst := some 18 }]
def a3_r2 : ACode := .reg [{ op := .call 9 [], dst := some 19 },
    { op := .mov (.t 19), dst := some 4 }]
def a3_r3 : ACode := .reg [{ op := .call 10 [], dst := some 20 },
    { op := .mov (.t 20), dst := some 5 }]
def a3_r4 : ACode := .reg [{ op := .mov (.t 5), dst := some 21 },
    { op := .eqn false .p (.t 21), dst := some 22 }]
def a3_r5 : ACode := .reg [{ op := .mov (.c (.bool false)), dst := some 4 }]
def a3_r6 : ACode := .reg [{ op := .mov (.t 5), dst := some 23 },
    { op := .mov (.t 0), dst := some 24 },
    { op := .call 11 [(.t 23), (.t 24)], dst := some 25 }]
def a3_r7 : ACode := .reg [{ op := .mov (.t 5), dst := some 26 },
    { op := .mov (.t 1), dst := some 27 },
    { op := .call 12 [(.t 26), (.t 27)], dst := some 28 },
    { op := .mov (.t 28), dst := some 6 }]
def a3_r8 : ACode := .reg [{ op := .mov (.t 5), dst := some 29 },
    { op := .call 13 [(.t 29), (.c (.int .i64 9223372036854775807))], dst := some 30 },
    { op := .mov (.t 30), dst := some 7 }]
def a3_r9 : ACode := .reg [{ op := .mov (.t 0), dst := some 31 },
    { op := .len false (.t 31), dst := some 32 },
    { op := .mov (.c (.int .i64 0)), dst := some 33 }]
def a3_r10 : ACode := .reg [{ op := .bin .lss (.t 33) (.t 32), dst := some 34 }]
def a3_r11 : ACode := .reg [{ op := .iad 2 (.t 31) (.t 33), dst := some 35 },
    { op := .load 2 true (.t 35), dst := some 36 },
    { op := .alloc 2 true [.int .i64 0, .int .i64 0], dst := some 9, k := 32 },
    { op := .store 2 true (.t 9) (.t 36), dst := none }]
def a3_r12 : ACode := .draw [{ op := .mov (.t 7), dst := some 37 },
    { op := .load 2 true (.t 9), dst := some 38 },
    { op := .call 14 [(.t 37), (.t 38)], dst := some 39 },
    { op := .fad 1 (.t 9), dst := some 40 },
    { op := .load 1 false (.t 40), dst := some 41 },
    { op := .mov (.t 1), dst := some 42 },
    { op := .bin .eql (.t 41) (.t 42), dst := some 43 },
    { op := .eqb false (.t 39) (.t 43), dst := some 44 }]
    [(2, [4])]
    (.take 0 (.take 1 (.take 3 (.take 4 (.take 5 (.take 6 (.one 2 (.take 7 (.done)))))))))
def a3_r13 : ACode := .reg [{ op := .mov (.c (.bool false)), dst := some 4 }]
def a3_r14 : ACode := .reg [{ op := .bin .add (.t 33) (.c (.int .i64 1)), dst := some 45 },
    { op := .mov (.t 45), dst := some 33 }]
def a3_l0 : ACode := (.seq a3_r10 (.seq (.cond (.t 34) .skip (.exit 0)) (.seq (.block 1 (.seq a3_r11 (.seq a3_r12 (.cond (.t 44) (.seq a3_r13 .ret) .skip)))) a3_r14)))
def a3_r15 : ACode := .reg [{ op := .mov (.t 0), dst := some 46 },
    { op := .len false (.t 46), dst := some 47 },
    { op := .mov (.t 47), dst := some 10 }]
def a3_r16 : ACode := .reg [{ op := .mov (.t 6), dst := some 48 }]
def a3_r17 : ACode := .reg [{ op := .mov (.t 10), dst := some 49 },
    { op := .bin .sub (.t 49) (.c (.int .i64 1)), dst := some 50 },
    { op := .mov (.t 50), dst := some 10 }]
def a3_r18 : ACode := .reg [{ op := .mov (.t 7), dst := some 51 },
    { op := .len false (.t 51), dst := some 52 },
    { op := .mov (.t 10), dst := some 53 },
    { op := .bin .eql (.t 52) (.t 53), dst := some 54 },
    { op := .mov (.t 54), dst := some 55 },
    { op := .mov (.t 5), dst := some 56, g := some (55, true) },
    { op := .call 15 [(.t 56)], dst := some 57, g := some (55, true) },
    { op := .bin .eql (.t 57) (.c (.int .i64 0)), dst := some 58, g := some (55, true) },
    { op := .pick (.t 55) (.t 58) (.c (.bool false)), dst := some 59 },
    { op := .mov (.t 59), dst := some 60 },
    { op := .call 9 [], dst := some 61, g := some (60, true) },
    { op := .pick (.t 60) (.t 61) (.c (.bool false)), dst := some 62 },
    { op := .mov (.t 62), dst := some 4 }]
def a3 : ACode := (.seq a3_r0 (.seq (.seq a3_r1 (.cond (.t 18) (.seq a3_r2 .ret) .skip)) (.seq a3_r3 (.seq (.seq a3_r4 (.cond (.t 22) (.seq a3_r5 .ret) .skip)) (.seq a3_r6 (.seq a3_r7 (.seq a3_r8 (.seq (.seq a3_r9 (.block 0 (.loop a3_l0))) (.seq a3_r15 (.seq (.seq a3_r16 (.cond (.t 48) a3_r17 .skip)) (.seq a3_r18 .ret)))))))))))
def a3_res : List ARes := [.tmp 4]
theorem a3_ok : Coded Try.prog 3 63 a3 a3_res := ⟨Try.f3, _, by kernel_rfl, rfl, by kernel_rfl, rfl, by kernel_rfl, by kernel_rfl⟩
theorem a3_of {args : List AV} {Q : AV → Prop} (hl : args.length ≤ 63) (h : AW Try.prog 63 a3 (mkS (argT 0 args) [] 0) (retQ a3_res Q)) : ACall Try.prog 3 args Q := acall_coded a3_ok hl h

/- workflow/workflowlaw37.TimersNil -/
def a7_r0 : ACode := .reg [{ op := .box 2 true (.t 0), dst := some 1, k := 0 },
    { op := .mov (.c (.bool false)), dst := some 2 }]
def a7_r1 : ACode := .reg [{ op := .mov (.c (.nilp)), dst := some 3 }]
def a7_r2 : ACode := .reg [{ op := .build [.nils, .bool false] [], dst := some 9 },
    { op := .box 2 true (.t 9), dst := some 10, k := 4 },
    { op := .mov (.t 10), dst := some 4 }]
def a7_r3 : ACode := .reg [{ op := .mov (.t 3), dst := some 12 },
    { op := .call 22 [(.t 12)], dst := some 13 },
    { op := .mov (.t 13), dst := some 11 },
    { op := .ext (.t 11) 0, dst := some 14 },
    { op := .ext (.t 11) 1, dst := some 15 },
    { op := .alloc 2 true [.int .i64 0, .int .i64 0], dst := some 5, k := 11 },
    { op := .store 2 true (.t 5) (.t 14), dst := none },
    { op := .mov (.t 15), dst := some 6 }]
def a7_r4 : ACode := .reg [{ op := .mov (.t 4), dst := some 17 },
    { op := .call 22 [(.t 17)], dst := some 18 },
    { op := .mov (.t 18), dst := some 16 },
    { op := .ext (.t 16) 0, dst := some 19 },
    { op := .ext (.t 16) 1, dst := some 20 },
    { op := .alloc 2 true [.int .i64 0, .int .i64 0], dst := some 7, k := 19 },
    { op := .store 2 true (.t 7) (.t 19), dst := none },
    { op := .mov (.t 20), dst := some 8 }]
def a7_r5 : ACode := .reg [{ op := .mov (.t 3), dst := some 21 },
    { op := .load 2 true (.t 1), dst := some 22 },
    { op := .call 17 [(.t 21), (.t 22)], dst := some 23 },
    { op := .bin .eql (.t 23) (.c (.int .i64 1)), dst := some 24 },
    { op := .mov (.t 24), dst := some 25 },
    { op := .mov (.t 4), dst := some 26, g := some (25, true) },
    { op := .load 2 true (.t 1), dst := some 27, g := some (25, true) },
    { op := .call 17 [(.t 26), (.t 27)], dst := some 28, g := some (25, true) },
    { op := .bin .eql (.t 28) (.c (.int .i64 1)), dst := some 29, g := some (25, true) },
    { op := .pick (.t 25) (.t 29) (.c (.bool false)), dst := some 30 },
    { op := .mov (.t 30), dst := some 31 },
    { op := .mov (.t 6), dst := some 32, g := some (31, true) },
    { op := .not (.t 32), dst := some 33, g := some (31, true) },
    { op := .pick (.t 31) (.t 33) (.c (.bool false)), dst := some 34 },
    { op := .mov (.t 34), dst := some 35 },
    { op := .mov (.t 8), dst := some 36, g := some (35, true) },
    { op := .not (.t 36), dst := some 37, g := some (35, true) },
    { op := .pick (.t 35) (.t 37) (.c (.bool false)), dst := some 38 },
    { op := .mov (.t 38), dst := some 39 },
    { op := .mov (.t 3), dst := some 40, g := some (39, true) },
    { op := .fad 1 (.t 1), dst := some 41, g := some (39, true) },
    { op := .load 1 false (.t 41), dst := some 42, g := some (39, true) },
    { op := .call 12 [(.t 40), (.t 42)], dst := some 43, g := some (39, true) },
    { op := .not (.t 43), dst := some 44, g := some (39, true) },
    { op := .pick (.t 39) (.t 44) (.c (.bool false)), dst := some 45 },
    { op := .mov (.t 45), dst := some 46 },
    { op := .mov (.t 4), dst := some 47, g := some (46, true) },
    { op := .fad 1 (.t 1), dst := some 48, g := some (46, true) },
    { op := .load 1 false (.t 48), dst := some 49, g := some (46, true) },
    { op := .call 12 [(.t 47), (.t 49)], dst := some 50, g := some (46, true) },
    { op := .not (.t 50), dst := some 51, g := some (46, true) },
    { op := .pick (.t 46) (.t 51) (.c (.bool false)), dst := some 52 },
    { op := .mov (.t 52), dst := some 53 },
    { op := .mov (.t 3), dst := some 54, g := some (53, true) },
    { op := .fad 0 (.t 1), dst := some 55, g := some (53, true) },
    { op := .load 1 false (.t 55), dst := some 56, g := some (53, true) },
    { op := .call 13 [(.t 54), (.t 56)], dst := some 57, g := some (53, true) },
    { op := .len false (.t 57), dst := some 58, g := some (53, true) },
    { op := .bin .eql (.t 58) (.c (.int .i64 0)), dst := some 59, g := some (53, true) },
    { op := .pick (.t 53) (.t 59) (.c (.bool false)), dst := some 60 },
    { op := .mov (.t 60), dst := some 61 },
    { op := .mov (.t 4), dst := some 62, g := some (61, true) },
    { op := .call 25 [(.t 62)], dst := some 63, g := some (61, true) },
    { op := .len false (.t 63), dst := some 64, g := some (61, true) },
    { op := .bin .eql (.t 64) (.c (.int .i64 0)), dst := some 65, g := some (61, true) },
    { op := .pick (.t 61) (.t 65) (.c (.bool false)), dst := some 66 },
    { op := .mov (.t 66), dst := some 67 },
    { op := .mov (.t 3), dst := some 68, g := some (67, true) },
    { op := .call 15 [(.t 68)], dst := some 69, g := some (67, true) },
    { op := .mov (.t 4), dst := some 70, g := some (67, true) },
    { op := .call 15 [(.t 70)], dst := some 71, g := some (67, true) },
    { op := .bin .add (.t 69) (.t 71), dst := some 72, g := some (67, true) },
    { op := .bin .eql (.t 72) (.c (.int .i64 0)), dst := some 73, g := some (67, true) },
    { op := .pick (.t 67) (.t 73) (.c (.bool false)), dst := some 74 },
    { op := .mov (.t 74), dst := some 75 },
    { op := .call 9 [], dst := some 76, g := some (75, true) },
    { op := .pick (.t 75) (.t 76) (.c (.bool false)), dst := some 77 },
    { op := .mov (.t 77), dst := some 2 }]
def a7 : ACode := (.seq a7_r0 (.seq a7_r1 (.seq a7_r2 (.seq a7_r3 (.seq a7_r4 (.seq a7_r5 .ret))))))
def a7_res : List ARes := [.tmp 2]
theorem a7_ok : Coded Try.prog 7 78 a7 a7_res := ⟨Try.f7, _, by kernel_rfl, rfl, by kernel_rfl, rfl, by kernel_rfl, by kernel_rfl⟩
theorem a7_of {args : List AV} {Q : AV → Prop} (hl : args.length ≤ 78) (h : AW Try.prog 78 a7 (mkS (argT 0 args) [] 0) (retQ a7_res Q)) : ACall Try.prog 7 args Q := acall_coded a7_ok hl h
end Go.Proofs.Ytljahaeachdjmaa
