/- The abstract code of the functions, checked. -/
import Derived.Test.YtnjdjahcepakgaaA2
import Derived.Test.YtnjdjahcepakgaaProg
import Derived.KernelRfl

namespace Go.Proofs.Ytnjdjahcepakgaa
open Go Go.Amb

/- workflow/workflowlaw17.works -/
def a7_r0 : ACode := .reg [{ op := .mov (.c (.bool false)), dst := some 0 }]
def a7_r1 : ACode := .reg [{ op := .build [.int .i64 0, .int .i64 0, .int .i64 0, .int .i64 0, .int .i64 0, .str [], .nils, .nils] [], dst := some 7 },
    { op := .build [.int .i64 0, .int .i64 0, .int .i64 0, .int .i64 0, .int .i64 0, .str [], .nils, .nils] [(0, 1, (.c (.int .i64 1)))], dst := some 8 },
    { op := .build [.int .i64 0, .int .i64 0, .int .i64 0, .int .i64 0, .int .i64 0, .str [], .nils, .nils] [(0, 1, (.c (.int .i64 2)))], dst := some 9 },
    { op := .bsl 8 true 3 [.int .i64 0, .int .i64 0, .int .i64 0, .int .i64 0, .int .i64 0, .str [], .nils, .nils] [(0, (.t 7)), (1, (.t 8)), (2, (.t 9))], dst := some 10 },
    { op := .mov (.t 10), dst := some 1 }]
def a7_r2 : ACode := .reg [{ op := .mov (.t 1), dst := some 12 },
    { op := .bsl 1 false 3 [.int .i64 0] [(0, (.c (.int .i64 0))), (1, (.c (.int .i64 2))), (2, (.c (.int .i64 1)))], dst := some 13 },
    { op := .call 8 [(.t 12), (.t 13)], dst := some 14 },
    { op := .mov (.t 14), dst := some 11 },
    { op := .ext (.t 11) 0, dst := some 15 },
    { op := .ext (.t 11) 1, dst := some 16 },
    { op := .mov (.t 15), dst := some 2 },
    { op := .mov (.t 16), dst := some 3 }]
def a7_r3 : ACode := .reg [{ op := .mov (.t 1), dst := some 18 },
    { op := .bsl 1 false 2 [.int .i64 0] [(0, (.c (.int .i64 0))), (1, (.c (.int .i64 7)))], dst := some 19 },
    { op := .call 8 [(.t 18), (.t 19)], dst := some 20 },
    { op := .mov (.t 20), dst := some 17 },
    { op := .ext (.t 17) 0, dst := some 21 },
    { op := .ext (.t 17) 1, dst := some 22 },
    { op := .mov (.t 21), dst := some 4 },
    { op := .mov (.t 22), dst := some 5 }]
def a7_r4 : ACode := .reg [{ op := .bsl 1 false 2 [.int .i64 0] [(0, (.c (.int .i64 0))), (1, (.c (.int .i64 1)))], dst := some 23 },
    { op := .build [.int .i64 0, .nils, .int .i64 0, .nils, .bool false, .str []] [(0, 1, (.c (.int .i64 2))), (3, 1, (.t 23))], dst := some 24 },
    { op := .bsl 6 true 1 [.int .i64 0, .nils, .int .i64 0, .nils, .bool false, .str []] [(0, (.t 24))], dst := some 25 },
    { op := .mov (.t 1), dst := some 26 },
    { op := .call 14 [(.t 25), (.t 26)], dst := some 27 },
    { op := .mov (.t 27), dst := some 6 }]
def a7_r5 : ACode := .reg [{ op := .mov (.t 2), dst := some 28 },
    { op := .bin .eql (.t 28) (.c (.int .i64 1)), dst := some 29 },
    { op := .mov (.t 29), dst := some 30 },
    { op := .mov (.t 3), dst := some 31, g := some (30, true) },
    { op := .pick (.t 30) (.t 31) (.c (.bool false)), dst := some 32 },
    { op := .mov (.t 32), dst := some 33 },
    { op := .mov (.t 5), dst := some 34, g := some (33, true) },
    { op := .not (.t 34), dst := some 35, g := some (33, true) },
    { op := .pick (.t 33) (.t 35) (.c (.bool false)), dst := some 36 },
    { op := .mov (.t 36), dst := some 37 },
    { op := .mov (.t 1), dst := some 38, g := some (37, true) },
    { op := .bsl 1 false 2 [.int .i64 0] [(0, (.c (.int .i64 1))), (1, (.c (.int .i64 2)))], dst := some 39, g := some (37, true) },
    { op := .call 10 [(.t 38), (.t 39)], dst := some 40, g := some (37, true) },
    { op := .pick (.t 37) (.t 40) (.c (.bool false)), dst := some 41 },
    { op := .mov (.t 41), dst := some 42 },
    { op := .mov (.t 1), dst := some 43, g := some (42, true) },
    { op := .bsl 1 false 2 [.int .i64 0] [(0, (.c (.int .i64 1))), (1, (.c (.int .i64 0)))], dst := some 44, g := some (42, true) },
    { op := .call 10 [(.t 43), (.t 44)], dst := some 45, g := some (42, true) },
    { op := .not (.t 45), dst := some 46, g := some (42, true) },
    { op := .pick (.t 42) (.t 46) (.c (.bool false)), dst := some 47 },
    { op := .mov (.t 47), dst := some 48 },
    { op := .mov (.t 6), dst := some 49, g := some (48, true) },
    { op := .len false (.t 49), dst := some 50, g := some (48, true) },
    { op := .bin .eql (.t 50) (.c (.int .i64 1)), dst := some 51, g := some (48, true) },
    { op := .pick (.t 48) (.t 51) (.c (.bool false)), dst := some 52 },
    { op := .mov (.t 52), dst := some 53 },
    { op := .mov (.t 6), dst := some 54, g := some (53, true) },
    { op := .iad 6 (.t 54) (.c (.int .i64 0)), dst := some 55, g := some (53, true) },
    { op := .fad 0 (.t 55), dst := some 56, g := some (53, true) },
    { op := .load 1 false (.t 56), dst := some 57, g := some (53, true) },
    { op := .bin .eql (.t 57) (.c (.int .i64 1)), dst := some 58, g := some (53, true) },
    { op := .pick (.t 53) (.t 58) (.c (.bool false)), dst := some 59 },
    { op := .mov (.t 59), dst := some 0 }]
def a7 : ACode := (.seq a7_r0 (.seq a7_r1 (.seq a7_r2 (.seq a7_r3 (.seq a7_r4 (.seq a7_r5 .ret))))))
def a7_res : List ARes := [.tmp 0]
theorem a7_of {args : List AV} {Q : AV → Prop} (hl : args.length ≤ 60) (h : AW Try.prog 60 a7 (mkS (argT 0 args) [] 0) (retQ a7_res Q)) : ACall Try.prog 7 args Q :=
  acall_of (fn := Try.f7) (by kernel_rfl) rfl (by kernel_rfl) (by kernel_rfl) (by kernel_rfl) hl h

/- workflow/selector.Ready -/
def a8_r0 : ACode := .reg [{ op := .box 1 false (.t 0), dst := some 2, k := 0 },
    { op := .mov (.c (.int .i64 0)), dst := some 4 },
    { op := .mov (.c (.bool false)), dst := some 5 }]
def a8_r1 : ACode := .reg [{ op := .mov (.t 1), dst := some 7 },
    { op := .mkf 22 [(.t 2)], dst := some 8 },
    { op := .call 21 [(.t 7), (.t 8)], dst := some 9 },
    { op := .mov (.t 9), dst := some 6 }]
def a8_r2 : ACode := .reg [{ op := .mov (.t 6), dst := some 10 },
    { op := .mx [(.t 10), (.c (.int .i64 0))], dst := some 11 },
    { op := .mov (.t 6), dst := some 12 },
    { op := .bin .geq (.t 12) (.c (.int .i64 0)), dst := some 13 },
    { op := .mov (.t 11), dst := some 4 },
    { op := .mov (.t 13), dst := some 5 }]
def a8 : ACode := (.seq a8_r0 (.seq a8_r1 (.seq a8_r2 .ret)))
def a8_res : List ARes := [.tmp 4, .tmp 5]
theorem a8_of {args : List AV} {Q : AV → Prop} (hl : args.length ≤ 14) (h : AW Try.prog 14 a8 (mkS (argT 0 args) [] 0) (retQ a8_res Q)) : ACall Try.prog 8 args Q :=
  acall_of (fn := Try.f8) (by kernel_rfl) rfl (by kernel_rfl) (by kernel_rfl) (by kernel_rfl) hl h

/- workflow/workflowref17.Ready -/
def a9_r0 : ACode := .reg [{ op := .mov (.c (.int .i64 0)), dst := some 4 },
    { op := .mov (.c (.bool false)), dst := some 5 }]
def a9_r1 : ACode := .reg [{ op := .mov (.c (.int .i64 0)), dst := some 6 }]
def a9_r2 : ACode := .reg [{ op := .mov (.t 6), dst := some 7 },
    { op := .mov (.t 1), dst := some 8 },
    { op := .len false (.t 8), dst := some 9 },
    { op := .bin .lss (.t 7) (.t 9), dst := some 10 }]
def a9_r4 : ACode := .reg [{ op := .mov (.t 0), dst := some 13 },
    { op := .mov (.t 1), dst := some 14 },
    { op := .mov (.t 6), dst := some 15 },
    { op := .iad 1 (.t 14) (.t 15), dst := some 16 },
    { op := .load 1 false (.t 16), dst := some 17 },
    { op := .call 24 [(.t 13), (.t 17)], dst := some 18 }]
def a9_r5 : ACode := .reg [{ op := .mov (.t 6), dst := some 19 },
    { op := .mov (.t 19), dst := some 4 },
    { op := .mov (.c (.bool true)), dst := some 5 }]
def a9_r3 : ACode := .reg [{ op := .mov (.t 6), dst := some 11 },
    { op := .bin .add (.t 11) (.c (.int .i64 1)), dst := some 12 },
    { op := .mov (.t 12), dst := some 6 }]
def a9_l0 : ACode := (.seq (.seq a9_r2 (.cond (.t 10) .skip (.exit 0))) (.seq (.block 1 (.seq a9_r4 (.cond (.t 18) (.seq a9_r5 .ret) .skip))) a9_r3))
def a9_r6 : ACode := .reg [{ op := .mov (.c (.int .i64 0)), dst := some 4 },
    { op := .mov (.c (.bool false)), dst := some 5 }]
def a9 : ACode := (.seq a9_r0 (.seq (.seq a9_r1 (.block 0 (.loop a9_l0))) (.seq a9_r6 .ret)))
def a9_res : List ARes := [.tmp 4, .tmp 5]
theorem a9_of {args : List AV} {Q : AV → Prop} (hl : args.length ≤ 20) (h : AW Try.prog 20 a9 (mkS (argT 0 args) [] 0) (retQ a9_res Q)) : ACall Try.prog 9 args Q :=
  acall_of (fn := Try.f9) (by kernel_rfl) rfl (by kernel_rfl) (by kernel_rfl) (by kernel_rfl) hl h

/- workflow/selector.All -/
def a10_r0 : ACode := .reg [{ op := .box 1 false (.t 0), dst := some 2, k := 0 },
    { op := .mov (.c (.bool false)), dst := some 4 }]
def a10_r1 : ACode := .reg [{ op := .mov (.t 1), dst := some 5 },
    { op := .mkf 26 [(.t 2)], dst := some 6 },
    { op := .call 25 [(.t 5), (.t 6)], dst := some 7 },
    { op := .not (.t 7), dst := some 8 },
    { op := .mov (.t 8), dst := some 4 }]
def a10 : ACode := (.seq a10_r0 (.seq a10_r1 .ret))
def a10_res : List ARes := [.tmp 4]
theorem a10_of {args : List AV} {Q : AV → Prop} (hl : args.length ≤ 9) (h : AW Try.prog 9 a10 (mkS (argT 0 args) [] 0) (retQ a10_res Q)) : ACall Try.prog 10 args Q :=
  acall_of (fn := Try.f10) (by kernel_rfl) rfl (by kernel_rfl) (by kernel_rfl) (by kernel_rfl) hl h

/- workflow/workflowref17.All -/
def a11_r0 : ACode := .reg [{ op := .mov (.c (.bool false)), dst := some 4 }]
def a11_r1 : ACode := .reg [{ op := .mov (.c (.int .i64 0)), dst := some 5 }]
def a11_r2 : ACode := .reg [{ op := .mov (.t 5), dst := some 6 },
    { op := .mov (.t 1), dst := some 7 },
    { op := .len false (.t 7), dst := some 8 },
    { op := .bin .lss (.t 6) (.t 8), dst := some 9 }]
def a11_r4 : ACode := .reg [{ op := .mov (.t 0), dst := some 12 },
    { op := .mov (.t 1), dst := some 13 },
    { op := .mov (.t 5), dst := some 14 },
    { op := .iad 1 (.t 13) (.t 14), dst := some 15 },
    { op := .load 1 false (.t 15), dst := some 16 },
    { op := .call 24 [(.t 12), (.t 16)], dst := some 17 },
    { op := .not (.t 17), dst := some 18 }]
def a11_r5 : ACode := .reg [{ op := .mov (.c (.bool false)), dst := some 4 }]
def a11_r3 : ACode := .reg [{ op := .mov (.t 5), dst := some 10 },
    { op := .bin .add (.t 10) (.c (.int .i64 1)), dst := some 11 },
    { op := .mov (.t 11), dst := some 5 }]
def a11_l0 : ACode := (.seq (.seq a11_r2 (.cond (.t 9) .skip (.exit 0))) (.seq (.block 1 (.seq a11_r4 (.cond (.t 18) (.seq a11_r5 .ret) .skip))) a11_r3))
def a11_r6 : ACode := .reg [{ op := .mov (.c (.bool true)), dst := some 4 }]
def a11 : ACode := (.seq a11_r0 (.seq (.seq a11_r1 (.block 0 (.loop a11_l0))) (.seq a11_r6 .ret)))
def a11_res : List ARes := [.tmp 4]
theorem a11_of {args : List AV} {Q : AV → Prop} (hl : args.length ≤ 19) (h : AW Try.prog 19 a11 (mkS (argT 0 args) [] 0) (retQ a11_res Q)) : ACall Try.prog 11 args Q :=
  acall_of (fn := Try.f11) (by kernel_rfl) rfl (by kernel_rfl) (by kernel_rfl) (by kernel_rfl) hl h

/- workflow/workflowref17.Small -/
def a12_r0 : ACode := .reg [{ op := .mov (.c (.bool false)), dst := some 2 }]
def a12_r1 : ACode := .reg [{ op := .mov (.c (.int .i64 0)), dst := some 3 }]
def a12_r2 : ACode := .reg [{ op := .mov (.t 3), dst := some 4 },
    { op := .mov (.t 0), dst := some 5 },
    { op := .len false (.t 5), dst := some 6 },
    { op := .bin .lss (.t 4) (.t 6), dst := some 7 }]
def a12_r4 : ACode := .reg [{ op := .mov (.t 3), dst := some 10 },
    { op := .bin .geq (.t 10) (.c (.int .i64 30)), dst := some 11 },
    { op := .mov (.t 11), dst := some 12 },
    { op := .mov (.t 0), dst := some 13, g := some (12, false) },
    { op := .mov (.t 3), dst := some 14, g := some (12, false) },
    { op := .iad 6 (.t 13) (.t 14), dst := some 15, g := some (12, false) },
    { op := .load 6 true (.t 15), dst := some 16, g := some (12, false) },
    { op := .call 27 [(.t 16)], dst := some 17, g := some (12, false) },
    { op := .not (.t 17), dst := some 18, g := some (12, false) },
    { op := .pick (.t 12) (.c (.bool true)) (.t 18), dst := some 19 }]
def a12_r5 : ACode := .reg [{ op := .mov (.c (.bool false)), dst := some 2 }]
def a12_r3 : ACode := .reg [{ op := .mov (.t 3), dst := some 8 },
    { op := .bin .add (.t 8) (.c (.int .i64 1)), dst := some 9 },
    { op := .mov (.t 9), dst := some 3 }]
def a12_l0 : ACode := (.seq (.seq a12_r2 (.cond (.t 7) .skip (.exit 0))) (.seq (.block 1 (.seq a12_r4 (.cond (.t 19) (.seq a12_r5 .ret) .skip))) a12_r3))
def a12_r6 : ACode := .reg [{ op := .mov (.c (.bool true)), dst := some 2 }]
def a12 : ACode := (.seq a12_r0 (.seq (.seq a12_r1 (.block 0 (.loop a12_l0))) (.seq a12_r6 .ret)))
def a12_res : List ARes := [.tmp 2]
theorem a12_of {args : List AV} {Q : AV → Prop} (hl : args.length ≤ 20) (h : AW Try.prog 20 a12 (mkS (argT 0 args) [] 0) (retQ a12_res Q)) : ACall Try.prog 12 args Q :=
  acall_of (fn := Try.f12) (by kernel_rfl) rfl (by kernel_rfl) (by kernel_rfl) (by kernel_rfl) hl h

/- workflow/workflowref17.SameCoros -/
def a13_r0 : ACode := .reg [{ op := .mov (.c (.bool false)), dst := some 4 }]
def a13_r1 : ACode := .reg [{ op := .mov (.t 0), dst := some 6 },
    { op := .len false (.t 6), dst := some 7 },
    { op := .mov (.t 1), dst := some 8 },
    { op := .len false (.t 8), dst := some 9 },
    { op := .bin .neq (.t 7) (.t 9), dst := some 10 }]
def a13_r2 : ACode := .reg [{ op := .mov (.c (.bool false)), dst := some 4 }]
def a13_r3 : ACode := .reg [{ op := .mov (.c (.int .i64 0)), dst := some 5 }]
def a13_r4 : ACode := .reg [{ op := .mov (.t 5), dst := some 11 },
    { op := .mov (.t 0), dst := some 12 },
    { op := .len false (.t 12), dst := some 13 },
    { op := .bin .lss (.t 11) (.t 13), dst := some 14 }]
def a13_r6 : ACode := .draw [{ op := .mov (.t 0), dst := some 17 },
    { op := .mov (.t 5), dst := some 18 },
    { op := .iad 6 (.t 17) (.t 18), dst := some 19 },
    { op := .load 6 true (.t 19), dst := some 20 },
    { op := .mov (.t 1), dst := some 21 },
    { op := .mov (.t 5), dst := some 22 },
    { op := .iad 6 (.t 21) (.t 22), dst := some 23 },
    { op := .load 6 true (.t 23), dst := some 24 },
    { op := .call 28 [(.t 20), (.t 24)], dst := some 25 },
    { op := .not (.t 25), dst := some 26 }]
    []
    (.take 0 (.take 1 (.take 2 (.take 3 (.take 4 (.take 5 (.take 6 (.take 7 (.one 8 (.take 9 (.done)))))))))))
def a13_r7 : ACode := .reg [{ op := .mov (.c (.bool false)), dst := some 4 }]
def a13_r5 : ACode := .reg [{ op := .mov (.t 5), dst := some 15 },
    { op := .bin .add (.t 15) (.c (.int .i64 1)), dst := some 16 },
    { op := .mov (.t 16), dst := some 5 }]
def a13_l0 : ACode := (.seq (.seq a13_r4 (.cond (.t 14) .skip (.exit 0))) (.seq (.block 1 (.seq a13_r6 (.cond (.t 26) (.seq a13_r7 .ret) .skip))) a13_r5))
def a13_r8 : ACode := .reg [{ op := .mov (.c (.bool true)), dst := some 4 }]
def a13 : ACode := (.seq a13_r0 (.seq (.seq a13_r1 (.cond (.t 10) (.seq a13_r2 .ret) .skip)) (.seq (.seq a13_r3 (.block 0 (.loop a13_l0))) (.seq a13_r8 .ret))))
def a13_res : List ARes := [.tmp 4]
theorem a13_of {args : List AV} {Q : AV → Prop} (hl : args.length ≤ 27) (h : AW Try.prog 27 a13 (mkS (argT 0 args) [] 0) (retQ a13_res Q)) : ACall Try.prog 13 args Q :=
  acall_of (fn := Try.f13) (by kernel_rfl) rfl (by kernel_rfl) (by kernel_rfl) (by kernel_rfl) hl h

/- workflow/selector.Wake -/
def a14_r0 : ACode := .reg [{ op := .mov (.c (.nils)), dst := some 4 }]
def a14_r1 : ACode := .reg [{ op := .mov (.c (.nils)), dst := some 5 }]
def a14_r2 : ACode := .reg [{ op := .mov (.t 0), dst := some 10 },
    { op := .len false (.t 10), dst := some 11 },
    { op := .mov (.c (.int .i64 0)), dst := some 12 }]
def a14_r3 : ACode := .reg [{ op := .bin .lss (.t 12) (.t 11), dst := some 13 }]
def a14_r4 : ACode := .reg [{ op := .iad 6 (.t 10) (.t 12), dst := some 14 },
    { op := .load 6 true (.t 14), dst := some 15 },
    { op := .alloc 6 true [.int .i64 0, .nils, .int .i64 0, .nils, .bool false, .str []], dst := some 7, k := 8 },
    { op := .store 6 true (.t 7) (.t 15), dst := none }]
def a14_r5 : ACode := .reg [{ op := .load 6 true (.t 7), dst := some 16 },
    { op := .call 29 [(.t 16)], dst := some 17 },
    { op := .store 6 true (.t 7) (.t 17), dst := none }]
def a14_r6 : ACode := .reg [{ op := .mov (.t 1), dst := some 19 },
    { op := .fad 3 (.t 7), dst := some 20 },
    { op := .load 1 false (.t 20), dst := some 21 },
    { op := .call 8 [(.t 19), (.t 21)], dst := some 22 },
    { op := .mov (.t 22), dst := some 18 },
    { op := .ext (.t 18) 0, dst := some 23 },
    { op := .ext (.t 18) 1, dst := some 24 },
    { op := .mov (.t 23), dst := some 8 },
    { op := .mov (.t 24), dst := some 9 }]
def a14_r7 : ACode := .reg [{ op := .mov (.t 9), dst := some 25 },
    { op := .mov (.t 25), dst := some 26 },
    { op := .fad 0 (.t 7), dst := some 27, g := some (26, true) },
    { op := .load 1 false (.t 27), dst := some 28, g := some (26, true) },
    { op := .bin .eql (.t 28) (.c (.int .i64 2)), dst := some 29, g := some (26, true) },
    { op := .pick (.t 26) (.t 29) (.c (.bool false)), dst := some 30 }]
def a14_r8 : ACode := .reg [{ op := .fad 0 (.t 7), dst := some 31 },
    { op := .store 1 false (.t 31) (.c (.int .i64 1)), dst := none }]
def a14_r9 : ACode := .reg [{ op := .mov (.t 5), dst := some 32 },
    { op := .load 6 true (.t 7), dst := some 33 },
    { op := .bsl 6 true 1 [.int .i64 0, .nils, .int .i64 0, .nils, .bool false, .str []] [(0, (.t 33))], dst := some 34 },
    { op := .app 6 88 (.t 32) (.t 34), dst := some 35, k := 33 },
    { op := .mov (.t 35), dst := some 5 }]
def a14_r10 : ACode := .reg [{ op := .bin .add (.t 12) (.c (.int .i64 1)), dst := some 36 },
    { op := .mov (.t 36), dst := some 12 }]
def a14_l0 : ACode := (.seq a14_r3 (.seq (.cond (.t 13) .skip (.exit 0)) (.seq (.block 1 (.seq a14_r4 (.seq a14_r5 (.seq (.seq a14_r6 (.seq a14_r7 (.cond (.t 30) a14_r8 .skip))) a14_r9)))) a14_r10)))
def a14_r11 : ACode := .reg [{ op := .mov (.t 5), dst := some 37 },
    { op := .mov (.t 37), dst := some 4 }]
def a14 : ACode := (.seq a14_r0 (.seq a14_r1 (.seq (.seq a14_r2 (.block 0 (.loop a14_l0))) (.seq a14_r11 .ret))))
def a14_res : List ARes := [.tmp 4]
theorem a14_of {args : List AV} {Q : AV → Prop} (hl : args.length ≤ 38) (h : AW Try.prog 38 a14 (mkS (argT 0 args) [] 0) (retQ a14_res Q)) : ACall Try.prog 14 args Q :=
  acall_of (fn := Try.f14) (by kernel_rfl) rfl (by kernel_rfl) (by kernel_rfl) (by kernel_rfl) hl h

/- workflow/workflowref17.Wake -/
def a15_r0 : ACode := .reg [{ op := .mov (.c (.nils)), dst := some 4 }]
def a15_r1 : ACode := .reg [{ op := .mov (.c (.nils)), dst := some 5 }]
def a15_r2 : ACode := .reg [{ op := .mov (.c (.int .i64 0)), dst := some 6 }]
def a15_r3 : ACode := .reg [{ op := .mov (.t 6), dst := some 10 },
    { op := .mov (.t 0), dst := some 11 },
    { op := .len false (.t 11), dst := some 12 },
    { op := .bin .lss (.t 10) (.t 12), dst := some 13 }]
def a15_r5 : ACode := .reg [{ op := .mov (.t 0), dst := some 16 },
    { op := .mov (.t 6), dst := some 17 },
    { op := .iad 6 (.t 16) (.t 17), dst := some 18 },
    { op := .load 6 true (.t 18), dst := some 19 },
    { op := .call 30 [(.t 19)], dst := some 20 },
    { op := .alloc 6 true [.int .i64 0, .nils, .int .i64 0, .nils, .bool false, .str []], dst := some 7, k := 12 },
    { op := .store 6 true (.t 7) (.t 20), dst := none }]
def a15_r6 : ACode := .reg [{ op := .mov (.t 1), dst := some 22 },
    { op := .fad 3 (.t 7), dst := some 23 },
    { op := .load 1 false (.t 23), dst := some 24 },
    { op := .call 9 [(.t 22), (.t 24)], dst := some 25 },
    { op := .mov (.t 25), dst := some 21 },
    { op := .ext (.t 21) 0, dst := some 26 },
    { op := .ext (.t 21) 1, dst := some 27 },
    { op := .mov (.t 26), dst := some 8 },
    { op := .mov (.t 27), dst := some 9 }]
def a15_r7 : ACode := .reg [{ op := .fad 0 (.t 7), dst := some 28 },
    { op := .load 1 false (.t 28), dst := some 29 },
    { op := .bin .eql (.t 29) (.c (.int .i64 2)), dst := some 30 },
    { op := .mov (.t 30), dst := some 31 },
    { op := .mov (.t 9), dst := some 32, g := some (31, true) },
    { op := .pick (.t 31) (.t 32) (.c (.bool false)), dst := some 33 }]
def a15_r8 : ACode := .reg [{ op := .fad 0 (.t 7), dst := some 34 },
    { op := .store 1 false (.t 34) (.c (.int .i64 1)), dst := none }]
def a15_r9 : ACode := .reg [{ op := .mov (.t 5), dst := some 35 },
    { op := .load 6 true (.t 7), dst := some 36 },
    { op := .bsl 6 true 1 [.int .i64 0, .nils, .int .i64 0, .nils, .bool false, .str []] [(0, (.t 36))], dst := some 37 },
    { op := .app 6 88 (.t 35) (.t 37), dst := some 38, k := 34 },
    { op := .mov (.t 38), dst := some 5 }]
def a15_r4 : ACode := .reg [{ op := .mov (.t 6), dst := some 14 },
    { op := .bin .add (.t 14) (.c (.int .i64 1)), dst := some 15 },
    { op := .mov (.t 15), dst := some 6 }]
def a15_l0 : ACode := (.seq (.seq a15_r3 (.cond (.t 13) .skip (.exit 0))) (.seq (.block 1 (.seq a15_r5 (.seq a15_r6 (.seq (.seq a15_r7 (.cond (.t 33) a15_r8 .skip)) a15_r9)))) a15_r4))
def a15_r10 : ACode := .reg [{ op := .mov (.t 5), dst := some 39 },
    { op := .mov (.t 39), dst := some 4 }]
def a15 : ACode := (.seq a15_r0 (.seq a15_r1 (.seq (.seq a15_r2 (.block 0 (.loop a15_l0))) (.seq a15_r10 .ret))))
def a15_res : List ARes := [.tmp 4]
theorem a15_of {args : List AV} {Q : AV → Prop} (hl : args.length ≤ 40) (h : AW Try.prog 40 a15 (mkS (argT 0 args) [] 0) (retQ a15_res Q)) : ACall Try.prog 15 args Q :=
  acall_of (fn := Try.f15) (by kernel_rfl) rfl (by kernel_rfl) (by kernel_rfl) (by kernel_rfl) hl h

/- workflow/workflowref17.SameInts -/
def a16_r0 : ACode := .reg [{ op := .mov (.c (.bool false)), dst := some 4 }]
def a16_r1 : ACode := .reg [{ op := .mov (.t 0), dst := some 6 },
    { op := .len false (.t 6), dst := some 7 },
    { op := .mov (.t 1), dst := some 8 },
    { op := .len false (.t 8), dst := some 9 },
    { op := .bin .neq (.t 7) (.t 9), dst := some 10 }]
def a16_r2 : ACode := .reg [{ op := .mov (.c (.bool false)), dst := some 4 }]
def a16_r3 : ACode := .reg [{ op := .mov (.c (.int .i64 0)), dst := some 5 }]
def a16_r4 : ACode := .reg [{ op := .mov (.t 5), dst := some 11 },
    { op := .mov (.t 0), dst := some 12 },
    { op := .len false (.t 12), dst := some 13 },
    { op := .bin .lss (.t 11) (.t 13), dst := some 14 }]
def a16_r6 : ACode := .draw [{ op := .mov (.t 0), dst := some 17 },
    { op := .mov (.t 5), dst := some 18 },
    { op := .iad 1 (.t 17) (.t 18), dst := some 19 },
    { op := .load 1 false (.t 19), dst := some 20 },
    { op := .mov (.t 1), dst := some 21 },
    { op := .mov (.t 5), dst := some 22 },
    { op := .iad 1 (.t 21) (.t 22), dst := some 23 },
    { op := .load 1 false (.t 23), dst := some 24 },
    { op := .bin .neq (.t 20) (.t 24), dst := some 25 }]
    []
    (.take 0 (.take 1 (.take 2 (.take 3 (.take 4 (.take 5 (.take 6 (.take 7 (.take 8 (.done))))))))))
def a16_r7 : ACode := .reg [{ op := .mov (.c (.bool false)), dst := some 4 }]
def a16_r5 : ACode := .reg [{ op := .mov (.t 5), dst := some 15 },
    { op := .bin .add (.t 15) (.c (.int .i64 1)), dst := some 16 },
    { op := .mov (.t 16), dst := some 5 }]
def a16_l0 : ACode := (.seq (.seq a16_r4 (.cond (.t 14) .skip (.exit 0))) (.seq (.block 1 (.seq a16_r6 (.cond (.t 25) (.seq a16_r7 .ret) .skip))) a16_r5))
def a16_r8 : ACode := .reg [{ op := .mov (.c (.bool true)), dst := some 4 }]
def a16 : ACode := (.seq a16_r0 (.seq (.seq a16_r1 (.cond (.t 10) (.seq a16_r2 .ret) .skip)) (.seq (.seq a16_r3 (.block 0 (.loop a16_l0))) (.seq a16_r8 .ret))))
def a16_res : List ARes := [.tmp 4]
theorem a16_of {args : List AV} {Q : AV → Prop} (hl : args.length ≤ 26) (h : AW Try.prog 26 a16 (mkS (argT 0 args) [] 0) (retQ a16_res Q)) : ACall Try.prog 16 args Q :=
  acall_of (fn := Try.f16) (by kernel_rfl) rfl (by kernel_rfl) (by kernel_rfl) (by kernel_rfl) hl h

/- workflow/selector.Blocked -/
def a17_r0 : ACode := .reg [{ op := .mov (.c (.nils)), dst := some 2 }]
def a17_r1 : ACode := .reg [{ op := .mov (.c (.nils)), dst := some 3 }]
def a17_r2 : ACode := .reg [{ op := .mov (.t 0), dst := some 6 },
    { op := .len false (.t 6), dst := some 7 },
    { op := .mov (.c (.int .i64 0)), dst := some 8 }]
def a17_r3 : ACode := .reg [{ op := .bin .lss (.t 8) (.t 7), dst := some 9 }]
def a17_r4 : ACode := .reg [{ op := .mov (.t 8), dst := some 10 },
    { op := .iad 6 (.t 6) (.t 8), dst := some 11 },
    { op := .load 6 true (.t 11), dst := some 12 },
    { op := .alloc 6 true [.int .i64 0, .nils, .int .i64 0, .nils, .bool false, .str []], dst := some 5, k := 9 },
    { op := .mov (.t 10), dst := some 4 },
    { op := .store 6 true (.t 5) (.t 12), dst := none }]
def a17_r5 : ACode := .reg [{ op := .fad 0 (.t 5), dst := some 13 },
    { op := .load 1 false (.t 13), dst := some 14 },
    { op := .bin .eql (.t 14) (.c (.int .i64 2)), dst := some 15 }]
def a17_r6 : ACode := .reg [{ op := .mov (.t 3), dst := some 16 },
    { op := .mov (.t 4), dst := some 17 },
    { op := .bsl 1 false 1 [.int .i64 0] [(0, (.t 17))], dst := some 18 },
    { op := .app 1 8 (.t 16) (.t 18), dst := some 19, k := 18 },
    { op := .mov (.t 19), dst := some 3 }]
def a17_r7 : ACode := .reg [{ op := .bin .add (.t 8) (.c (.int .i64 1)), dst := some 20 },
    { op := .mov (.t 20), dst := some 8 }]
def a17_l0 : ACode := (.seq a17_r3 (.seq (.cond (.t 9) .skip (.exit 0)) (.seq (.block 1 (.seq a17_r4 (.seq a17_r5 (.cond (.t 15) a17_r6 .skip)))) a17_r7)))
def a17_r8 : ACode := .reg [{ op := .mov (.t 3), dst := some 21 },
    { op := .mov (.t 21), dst := some 2 }]
def a17 : ACode := (.seq a17_r0 (.seq a17_r1 (.seq (.seq a17_r2 (.block 0 (.loop a17_l0))) (.seq a17_r8 .ret))))
def a17_res : List ARes := [.tmp 2]
theorem a17_of {args : List AV} {Q : AV → Prop} (hl : args.length ≤ 22) (h : AW Try.prog 22 a17 (mkS (argT 0 args) [] 0) (retQ a17_res Q)) : ACall Try.prog 17 args Q :=
  acall_of (fn := Try.f17) (by kernel_rfl) rfl (by kernel_rfl) (by kernel_rfl) (by kernel_rfl) hl h

/- workflow/selector.Next -/
def a18_r0 : ACode := .reg [{ op := .mov (.c (.int .i64 0)), dst := some 2 },
    { op := .mov (.c (.bool false)), dst := some 3 }]
def a18_r1 : ACode := .reg [{ op := .mov (.t 0), dst := some 5 },
    { op := .call 31 [(.t 5), (.c (.fn 32))], dst := some 6 },
    { op := .mov (.t 6), dst := some 4 }]
def a18_r2 : ACode := .reg [{ op := .mov (.t 4), dst := some 7 },
    { op := .mx [(.t 7), (.c (.int .i64 0))], dst := some 8 },
    { op := .mov (.t 4), dst := some 9 },
    { op := .bin .geq (.t 9) (.c (.int .i64 0)), dst := some 10 },
    { op := .mov (.t 8), dst := some 2 },
    { op := .mov (.t 10), dst := some 3 }]
def a18 : ACode := (.seq a18_r0 (.seq a18_r1 (.seq a18_r2 .ret)))
def a18_res : List ARes := [.tmp 2, .tmp 3]
theorem a18_of {args : List AV} {Q : AV → Prop} (hl : args.length ≤ 11) (h : AW Try.prog 11 a18 (mkS (argT 0 args) [] 0) (retQ a18_res Q)) : ACall Try.prog 18 args Q :=
  acall_of (fn := Try.f18) (by kernel_rfl) rfl (by kernel_rfl) (by kernel_rfl) (by kernel_rfl) hl h

/- workflow/workflowref17.Next -/
def a19_r0 : ACode := .reg [{ op := .mov (.c (.int .i64 0)), dst := some 2 },
    { op := .mov (.c (.bool false)), dst := some 3 }]
def a19_r1 : ACode := .reg [{ op := .mov (.c (.int .i64 0)), dst := some 4 }]
def a19_r2 : ACode := .reg [{ op := .mov (.t 4), dst := some 5 },
    { op := .mov (.t 0), dst := some 6 },
    { op := .len false (.t 6), dst := some 7 },
    { op := .bin .lss (.t 5) (.t 7), dst := some 8 }]
def a19_r4 : ACode := .reg [{ op := .mov (.t 0), dst := some 11 },
    { op := .mov (.t 4), dst := some 12 },
    { op := .iad 6 (.t 11) (.t 12), dst := some 13 },
    { op := .fad 0 (.t 13), dst := some 14 },
    { op := .load 1 false (.t 14), dst := some 15 },
    { op := .bin .eql (.t 15) (.c (.int .i64 1)), dst := some 16 }]
def a19_r5 : ACode := .reg [{ op := .mov (.t 4), dst := some 17 },
    { op := .mov (.t 17), dst := some 2 },
    { op := .mov (.c (.bool true)), dst := some 3 }]
def a19_r3 : ACode := .reg [{ op := .mov (.t 4), dst := some 9 },
    { op := .bin .add (.t 9) (.c (.int .i64 1)), dst := some 10 },
    { op := .mov (.t 10), dst := some 4 }]
def a19_l0 : ACode := (.seq (.seq a19_r2 (.cond (.t 8) .skip (.exit 0))) (.seq (.block 1 (.seq a19_r4 (.cond (.t 16) (.seq a19_r5 .ret) .skip))) a19_r3))
def a19_r6 : ACode := .reg [{ op := .mov (.c (.int .i64 0)), dst := some 2 },
    { op := .mov (.c (.bool false)), dst := some 3 }]
def a19 : ACode := (.seq a19_r0 (.seq (.seq a19_r1 (.block 0 (.loop a19_l0))) (.seq a19_r6 .ret)))
def a19_res : List ARes := [.tmp 2, .tmp 3]
theorem a19_of {args : List AV} {Q : AV → Prop} (hl : args.length ≤ 18) (h : AW Try.prog 18 a19 (mkS (argT 0 args) [] 0) (retQ a19_res Q)) : ACall Try.prog 19 args Q :=
  acall_of (fn := Try.f19) (by kernel_rfl) rfl (by kernel_rfl) (by kernel_rfl) (by kernel_rfl) hl h

/- workflow/workflowref17.Blocked -/
def a20_r0 : ACode := .reg [{ op := .mov (.c (.nils)), dst := some 2 }]
def a20_r1 : ACode := .reg [{ op := .mov (.c (.nils)), dst := some 3 }]
def a20_r2 : ACode := .reg [{ op := .mov (.c (.int .i64 0)), dst := some 4 }]
def a20_r3 : ACode := .reg [{ op := .mov (.t 4), dst := some 5 },
    { op := .mov (.t 0), dst := some 6 },
    { op := .len false (.t 6), dst := some 7 },
    { op := .bin .lss (.t 5) (.t 7), dst := some 8 }]
def a20_r5 : ACode := .reg [{ op := .mov (.t 0), dst := some 11 },
    { op := .mov (.t 4), dst := some 12 },
    { op := .iad 6 (.t 11) (.t 12), dst := some 13 },
    { op := .fad 0 (.t 13), dst := some 14 },
    { op := .load 1 false (.t 14), dst := some 15 },
    { op := .bin .eql (.t 15) (.c (.int .i64 2)), dst := some 16 }]
def a20_r6 : ACode := .reg [{ op := .mov (.t 3), dst := some 17 },
    { op := .mov (.t 4), dst := some 18 },
    { op := .bsl 1 false 1 [.int .i64 0] [(0, (.t 18))], dst := some 19 },
    { op := .app 1 8 (.t 17) (.t 19), dst := some 20, k := 16 },
    { op := .mov (.t 20), dst := some 3 }]
def a20_r4 : ACode := .reg [{ op := .mov (.t 4), dst := some 9 },
    { op := .bin .add (.t 9) (.c (.int .i64 1)), dst := some 10 },
    { op := .mov (.t 10), dst := some 4 }]
def a20_l0 : ACode := (.seq (.seq a20_r3 (.cond (.t 8) .skip (.exit 0))) (.seq (.block 1 (.seq a20_r5 (.cond (.t 16) a20_r6 .skip))) a20_r4))
def a20_r7 : ACode := .reg [{ op := .mov (.t 3), dst := some 21 },
    { op := .mov (.t 21), dst := some 2 }]
def a20 : ACode := (.seq a20_r0 (.seq a20_r1 (.seq (.seq a20_r2 (.block 0 (.loop a20_l0))) (.seq a20_r7 .ret))))
def a20_res : List ARes := [.tmp 2]
theorem a20_of {args : List AV} {Q : AV → Prop} (hl : args.length ≤ 22) (h : AW Try.prog 22 a20 (mkS (argT 0 args) [] 0) (retQ a20_res Q)) : ACall Try.prog 20 args Q :=
  acall_of (fn := Try.f20) (by kernel_rfl) rfl (by kernel_rfl) (by kernel_rfl) (by kernel_rfl) hl h

/- slices.IndexFunc[[]int,int] -/
def a21_r0 : ACode := .reg [{ op := .mov (.c (.int .i64 0)), dst := some 4 }]
def a21_r1 : ACode := .reg [{ op := .mov (.t 0), dst := some 6 },
    { op := .len false (.t 6), dst := some 7 },
    { op := .mov (.c (.int .i64 0)), dst := some 8 }]
def a21_r2 : ACode := .reg [{ op := .bin .lss (.t 8) (.t 7), dst := some 9 }]
def a21_r3 : ACode := .reg [{ op := .mov (.t 8), dst := some 10 },
    { op := .mov (.t 10), dst := some 5 }]
def a21_r4 : ACode := .reg [{ op := .mov (.t 1), dst := some 11 },
    { op := .mov (.t 0), dst := some 12 },
    { op := .mov (.t 5), dst := some 13 },
    { op := .iad 1 (.t 12) (.t 13), dst := some 14 },
    { op := .load 1 false (.t 14), dst := some 15 },
    { op := .callv (.t 11) [(.t 15)], dst := some 16 }]
def a21_r5 : ACode := .reg [{ op := .mov (.t 5), dst := some 17 },
    { op := .mov (.t 17), dst := some 4 }]
def a21_r6 : ACode := .reg [{ op := .bin .add (.t 8) (.c (.int .i64 1)), dst := some 18 },
    { op := .mov (.t 18), dst := some 8 }]
def a21_l0 : ACode := (.seq a21_r2 (.seq (.cond (.t 9) .skip (.exit 0)) (.seq (.block 1 (.seq a21_r3 (.seq a21_r4 (.cond (.t 16) (.seq a21_r5 .ret) .skip)))) a21_r6)))
def a21_r7 : ACode := .reg [{ op := .mov (.c (.int .i64 (-1))), dst := some 4 }]
def a21 : ACode := (.seq a21_r0 (.seq (.seq a21_r1 (.block 0 (.loop a21_l0))) (.seq a21_r7 .ret)))
def a21_res : List ARes := [.tmp 4]
theorem a21_of {args : List AV} {Q : AV → Prop} (hl : args.length ≤ 19) (h : AW Try.prog 19 a21 (mkS (argT 0 args) [] 0) (retQ a21_res Q)) : ACall Try.prog 21 args Q :=
  acall_of (fn := Try.f21) (by kernel_rfl) rfl (by kernel_rfl) (by kernel_rfl) (by kernel_rfl) hl h

/- workflow/selector.Ready$1 -/
def a22_r0 : ACode := .reg [{ op := .mov (.c (.bool false)), dst := some 3 }]
def a22_r1 : ACode := .reg [{ op := .load 1 false (.t 1), dst := some 4 },
    { op := .mov (.t 0), dst := some 5 },
    { op := .call 23 [(.t 4), (.t 5)], dst := some 6 },
    { op := .mov (.t 6), dst := some 3 }]
def a22 : ACode := (.seq a22_r0 (.seq a22_r1 .ret))
def a22_res : List ARes := [.tmp 3]
theorem a22_of {args : List AV} {Q : AV → Prop} (hl : args.length ≤ 7) (h : AW Try.prog 7 a22 (mkS (argT 0 args) [] 0) (retQ a22_res Q)) : ACall Try.prog 22 args Q :=
  acall_of (fn := Try.f22) (by kernel_rfl) rfl (by kernel_rfl) (by kernel_rfl) (by kernel_rfl) hl h

/- workflow/selector.completed -/
def a23_r0 : ACode := .reg [{ op := .mov (.c (.bool false)), dst := some 4 }]
def a23_r1 : ACode := .reg [{ op := .mov (.t 0), dst := some 8 },
    { op := .mov (.t 1), dst := some 9 },
    { op := .call 33 [(.t 8), (.t 9)], dst := some 10 },
    { op := .mov (.t 10), dst := some 7 },
    { op := .ext (.t 7) 0, dst := some 11 },
    { op := .ext (.t 7) 1, dst := some 12 },
    { op := .mov (.t 11), dst := some 5 },
    { op := .mov (.t 12), dst := some 6 }]
def a23_r2 : ACode := .reg [{ op := .mov (.t 6), dst := some 13 },
    { op := .mov (.t 13), dst := some 14 },
    { op := .mov (.t 5), dst := some 15, g := some (14, true) },
    { op := .bin .eql (.t 15) (.c (.int .i64 1)), dst := some 16, g := some (14, true) },
    { op := .mov (.t 16), dst := some 17, g := some (14, true) },
    { op := .mov (.t 5), dst := some 18, g := some (17, false) },
    { op := .bin .eql (.t 18) (.c (.int .i64 2)), dst := some 19, g := some (17, false) },
    { op := .pick (.t 17) (.c (.bool true)) (.t 19), dst := some 20, g := some (14, true) },
    { op := .pick (.t 14) (.t 20) (.c (.bool false)), dst := some 21 },
    { op := .mov (.t 21), dst := some 4 }]
def a23 : ACode := (.seq a23_r0 (.seq a23_r1 (.seq a23_r2 .ret)))
def a23_res : List ARes := [.tmp 4]
theorem a23_of {args : List AV} {Q : AV → Prop} (hl : args.length ≤ 22) (h : AW Try.prog 22 a23 (mkS (argT 0 args) [] 0) (retQ a23_res Q)) : ACall Try.prog 23 args Q :=
  acall_of (fn := Try.f23) (by kernel_rfl) rfl (by kernel_rfl) (by kernel_rfl) (by kernel_rfl) hl h

/- workflow/workflowref17.completed -/
def a24_r0 : ACode := .reg [{ op := .mov (.c (.bool false)), dst := some 4 }]
def a24_r1 : ACode := .reg [{ op := .mov (.t 1), dst := some 5 },
    { op := .bin .geq (.t 5) (.c (.int .i64 0)), dst := some 6 },
    { op := .mov (.t 6), dst := some 7 },
    { op := .mov (.t 1), dst := some 8, g := some (7, true) },
    { op := .mov (.t 0), dst := some 9, g := some (7, true) },
    { op := .len false (.t 9), dst := some 10, g := some (7, true) },
    { op := .bin .lss (.t 8) (.t 10), dst := some 11, g := some (7, true) },
    { op := .pick (.t 7) (.t 11) (.c (.bool false)), dst := some 12 },
    { op := .mov (.t 12), dst := some 13 },
    { op := .mov (.t 0), dst := some 14, g := some (13, true) },
    { op := .mov (.t 1), dst := some 15, g := some (13, true) },
    { op := .iad 8 (.t 14) (.t 15), dst := some 16, g := some (13, true) },
    { op := .fad 0 (.t 16), dst := some 17, g := some (13, true) },
    { op := .load 1 false (.t 17), dst := some 18, g := some (13, true) },
    { op := .bin .eql (.t 18) (.c (.int .i64 1)), dst := some 19, g := some (13, true) },
    { op := .mov (.t 19), dst := some 20, g := some (13, true) },
    { op := .mov (.t 0), dst := some 21, g := some (20, false) },
    { op := .mov (.t 1), dst := some 22, g := some (20, false) },
    { op := .iad 8 (.t 21) (.t 22), dst := some 23, g := some (20, false) },
    { op := .fad 0 (.t 23), dst := some 24, g := some (20, false) },
    { op := .load 1 false (.t 24), dst := some 25, g := some (20, false) },
    { op := .bin .eql (.t 25) (.c (.int .i64 2)), dst := some 26, g := some (20, false) },
    { op := .pick (.t 20) (.c (.bool true)) (.t 26), dst := some 27, g := some (13, true) },
    { op := .pick (.t 13) (.t 27) (.c (.bool false)), dst := some 28 },
    { op := .mov (.t 28), dst := some 4 }]
def a24 : ACode := (.seq a24_r0 (.seq a24_r1 .ret))
def a24_res : List ARes := [.tmp 4]
theorem a24_of {args : List AV} {Q : AV → Prop} (hl : args.length ≤ 29) (h : AW Try.prog 29 a24 (mkS (argT 0 args) [] 0) (retQ a24_res Q)) : ACall Try.prog 24 args Q :=
  acall_of (fn := Try.f24) (by kernel_rfl) rfl (by kernel_rfl) (by kernel_rfl) (by kernel_rfl) hl h

/- slices.ContainsFunc[[]int,int] -/
def a25_r0 : ACode := .reg [{ op := .mov (.c (.bool false)), dst := some 4 }]
def a25_r1 : ACode := .reg [{ op := .mov (.t 0), dst := some 5 },
    { op := .mov (.t 1), dst := some 6 },
    { op := .call 21 [(.t 5), (.t 6)], dst := some 7 },
    { op := .bin .geq (.t 7) (.c (.int .i64 0)), dst := some 8 },
    { op := .mov (.t 8), dst := some 4 }]
def a25 : ACode := (.seq a25_r0 (.seq a25_r1 .ret))
def a25_res : List ARes := [.tmp 4]
theorem a25_of {args : List AV} {Q : AV → Prop} (hl : args.length ≤ 9) (h : AW Try.prog 9 a25 (mkS (argT 0 args) [] 0) (retQ a25_res Q)) : ACall Try.prog 25 args Q :=
  acall_of (fn := Try.f25) (by kernel_rfl) rfl (by kernel_rfl) (by kernel_rfl) (by kernel_rfl) hl h

/- workflow/selector.All$1 -/
def a26_r0 : ACode := .reg [{ op := .mov (.c (.bool false)), dst := some 3 }]
def a26_r1 : ACode := .reg [{ op := .load 1 false (.t 1), dst := some 4 },
    { op := .mov (.t 0), dst := some 5 },
    { op := .call 23 [(.t 4), (.t 5)], dst := some 6 },
    { op := .not (.t 6), dst := some 7 },
    { op := .mov (.t 7), dst := some 3 }]
def a26 : ACode := (.seq a26_r0 (.seq a26_r1 .ret))
def a26_res : List ARes := [.tmp 3]
theorem a26_of {args : List AV} {Q : AV → Prop} (hl : args.length ≤ 8) (h : AW Try.prog 8 a26 (mkS (argT 0 args) [] 0) (retQ a26_res Q)) : ACall Try.prog 26 args Q :=
  acall_of (fn := Try.f26) (by kernel_rfl) rfl (by kernel_rfl) (by kernel_rfl) (by kernel_rfl) hl h

/- workflow/workflowref14.Small -/
def a27_r0 : ACode := .reg [{ op := .box 6 true (.t 0), dst := some 1, k := 0 },
    { op := .mov (.c (.bool false)), dst := some 2 }]
def a27_r1 : ACode := .reg [{ op := .fad 1 (.t 1), dst := some 8 },
    { op := .load 1 false (.t 8), dst := some 9 },
    { op := .len false (.t 9), dst := some 10 },
    { op := .bin .gtr (.t 10) (.c (.int .i64 60)), dst := some 11 },
    { op := .mov (.t 11), dst := some 12 },
    { op := .fad 3 (.t 1), dst := some 13, g := some (12, false) },
    { op := .load 1 false (.t 13), dst := some 14, g := some (12, false) },
    { op := .len false (.t 14), dst := some 15, g := some (12, false) },
    { op := .bin .gtr (.t 15) (.c (.int .i64 20)), dst := some 16, g := some (12, false) },
    { op := .pick (.t 12) (.c (.bool true)) (.t 16), dst := some 17 }]
def a27_r2 : ACode := .reg [{ op := .mov (.c (.bool false)), dst := some 2 }]
def a27_r3 : ACode := .reg [{ op := .build [.int .i64 0, .int .i64 0, .str [], .nils, .nils] [], dst := some 18 },
    { op := .alloc 5 true [.int .i64 0, .int .i64 0, .str [], .nils, .nils], dst := some 3, k := 14 },
    { op := .store 5 true (.t 3) (.t 18), dst := none }]
def a27_r4 : ACode := .reg [{ op := .mov (.c (.int .i64 0)), dst := some 4 }]
def a27_r5 : ACode := .reg [{ op := .mov (.t 4), dst := some 19 },
    { op := .fad 1 (.t 1), dst := some 20 },
    { op := .load 1 false (.t 20), dst := some 21 },
    { op := .len false (.t 21), dst := some 22 },
    { op := .bin .lss (.t 19) (.t 22), dst := some 23 }]
def a27_r7 : ACode := .draw [{ op := .fad 3 (.t 3), dst := some 26 },
    { op := .load 1 false (.t 26), dst := some 27 },
    { op := .fad 1 (.t 1), dst := some 28 },
    { op := .load 1 false (.t 28), dst := some 29 },
    { op := .mov (.t 4), dst := some 30 },
    { op := .iad 5 (.t 29) (.t 30), dst := some 31 },
    { op := .fad 2 (.t 31), dst := some 32 },
    { op := .load 1 false (.t 32), dst := some 33 },
    { op := .app 5 80 (.t 27) (.t 33), dst := some 34, k := 30 },
    { op := .fad 3 (.t 3), dst := some 35 },
    { op := .store 1 false (.t 35) (.t 34), dst := none }]
    []
    (.take 0 (.take 1 (.take 2 (.take 3 (.take 4 (.take 5 (.take 6 (.take 7 (.one 8 (.take 9 (.one 10 (.done))))))))))))
def a27_r8 : ACode := .draw [{ op := .fad 3 (.t 3), dst := some 36 },
    { op := .load 1 false (.t 36), dst := some 37 },
    { op := .fad 1 (.t 1), dst := some 38 },
    { op := .load 1 false (.t 38), dst := some 39 },
    { op := .mov (.t 4), dst := some 40 },
    { op := .iad 5 (.t 39) (.t 40), dst := some 41 },
    { op := .fad 3 (.t 41), dst := some 42 },
    { op := .load 1 false (.t 42), dst := some 43 },
    { op := .app 5 80 (.t 37) (.t 43), dst := some 44, k := 41 },
    { op := .fad 3 (.t 3), dst := some 45 },
    { op := .store 1 false (.t 45) (.t 44), dst := none }]
    []
    (.take 0 (.take 1 (.take 2 (.take 3 (.take 4 (.take 5 (.take 6 (.take 7 (.one 8 (.take 9 (.one 10 (.done))))))))))))
def a27_r9 : ACode := .reg [{ op := .mov (.c (.int .i64 0)), dst := some 5 }]
def a27_r10 : ACode := .reg [{ op := .mov (.t 5), dst := some 46 },
    { op := .fad 1 (.t 1), dst := some 47 },
    { op := .load 1 false (.t 47), dst := some 48 },
    { op := .mov (.t 4), dst := some 49 },
    { op := .iad 5 (.t 48) (.t 49), dst := some 50 },
    { op := .fad 4 (.t 50), dst := some 51 },
    { op := .load 1 false (.t 51), dst := some 52 },
    { op := .len false (.t 52), dst := some 53 },
    { op := .bin .lss (.t 46) (.t 53), dst := some 54 }]
def a27_r12 : ACode := .reg [{ op := .fad 1 (.t 1), dst := some 57 },
    { op := .load 1 false (.t 57), dst := some 58 },
    { op := .mov (.t 4), dst := some 59 },
    { op := .iad 5 (.t 58) (.t 59), dst := some 60 },
    { op := .fad 4 (.t 60), dst := some 61 },
    { op := .load 1 false (.t 61), dst := some 62 },
    { op := .mov (.t 5), dst := some 63 },
    { op := .iad 10 (.t 62) (.t 63), dst := some 64 },
    { op := .load 10 true (.t 64), dst := some 65 },
    { op := .alloc 10 true [.int .i64 0, .int .i64 0, .int .i64 0, .int .i64 0, .nils, .int .i64 0, .int .i64 0, .str [], .nils, .nils], dst := some 6, k := 63 },
    { op := .store 10 true (.t 6) (.t 65), dst := none }]
def a27_r13 : ACode := .reg [{ op := .fad 3 (.t 3), dst := some 66 },
    { op := .load 1 false (.t 66), dst := some 67 },
    { op := .fad 5 (.t 6), dst := some 68 },
    { op := .load 5 true (.t 68), dst := some 69 },
    { op := .bsl 5 true 1 [.int .i64 0, .int .i64 0, .str [], .nils, .nils] [(0, (.t 69))], dst := some 70 },
    { op := .app 5 80 (.t 67) (.t 70), dst := some 71, k := 70 },
    { op := .fad 3 (.t 3), dst := some 72 },
    { op := .store 1 false (.t 72) (.t 71), dst := none }]
def a27_r14 : ACode := .reg [{ op := .fad 4 (.t 6), dst := some 73 },
    { op := .load 1 false (.t 73), dst := some 74 },
    { op := .len false (.t 74), dst := some 75 },
    { op := .bin .gtr (.t 75) (.c (.int .i64 110)), dst := some 76 }]
def a27_r15 : ACode := .reg [{ op := .mov (.c (.bool false)), dst := some 2 }]
def a27_r16 : ACode := .reg [{ op := .mov (.c (.int .i64 0)), dst := some 7 }]
def a27_r17 : ACode := .reg [{ op := .mov (.t 7), dst := some 77 },
    { op := .fad 4 (.t 6), dst := some 78 },
    { op := .load 1 false (.t 78), dst := some 79 },
    { op := .len false (.t 79), dst := some 80 },
    { op := .bin .lss (.t 77) (.t 80), dst := some 81 }]
def a27_r19 : ACode := .draw [{ op := .fad 3 (.t 3), dst := some 84 },
    { op := .load 1 false (.t 84), dst := some 85 },
    { op := .fad 4 (.t 6), dst := some 86 },
    { op := .load 1 false (.t 86), dst := some 87 },
    { op := .mov (.t 7), dst := some 88 },
    { op := .iad 2 (.t 87) (.t 88), dst := some 89 },
    { op := .fad 1 (.t 89), dst := some 90 },
    { op := .load 1 false (.t 90), dst := some 91 },
    { op := .app 5 80 (.t 85) (.t 91), dst := some 92, k := 92 },
    { op := .fad 3 (.t 3), dst := some 93 },
    { op := .store 1 false (.t 93) (.t 92), dst := none }]
    []
    (.take 0 (.take 1 (.take 2 (.take 3 (.take 4 (.take 5 (.take 6 (.take 7 (.one 8 (.take 9 (.one 10 (.done))))))))))))
def a27_r18 : ACode := .reg [{ op := .mov (.t 7), dst := some 82 },
    { op := .bin .add (.t 82) (.c (.int .i64 1)), dst := some 83 },
    { op := .mov (.t 83), dst := some 7 }]
def a27_l0 : ACode := (.seq (.seq a27_r17 (.cond (.t 81) .skip (.exit 4))) (.seq (.block 5 a27_r19) a27_r18))
def a27_r11 : ACode := .reg [{ op := .mov (.t 5), dst := some 55 },
    { op := .bin .add (.t 55) (.c (.int .i64 1)), dst := some 56 },
    { op := .mov (.t 56), dst := some 5 }]
def a27_l1 : ACode := (.seq (.seq a27_r10 (.cond (.t 54) .skip (.exit 2))) (.seq (.block 3 (.seq a27_r12 (.seq a27_r13 (.seq (.seq a27_r14 (.cond (.t 76) (.seq a27_r15 .ret) .skip)) (.seq a27_r16 (.block 4 (.loop a27_l0))))))) a27_r11))
def a27_r6 : ACode := .reg [{ op := .mov (.t 4), dst := some 24 },
    { op := .bin .add (.t 24) (.c (.int .i64 1)), dst := some 25 },
    { op := .mov (.t 25), dst := some 4 }]
def a27_l2 : ACode := (.seq (.seq a27_r5 (.cond (.t 23) .skip (.exit 0))) (.seq (.block 1 (.seq a27_r7 (.seq a27_r8 (.seq a27_r9 (.block 2 (.loop a27_l1)))))) a27_r6))
def a27_r20 : ACode := .reg [{ op := .load 5 true (.t 3), dst := some 94 },
    { op := .call 34 [(.t 94), (.c (.int .i64 20000))], dst := some 95 },
    { op := .mov (.t 95), dst := some 2 }]
def a27 : ACode := (.seq a27_r0 (.seq (.seq a27_r1 (.cond (.t 17) (.seq a27_r2 .ret) .skip)) (.seq a27_r3 (.seq (.seq a27_r4 (.block 0 (.loop a27_l2))) (.seq a27_r20 .ret)))))
def a27_res : List ARes := [.tmp 2]
theorem a27_of {args : List AV} {Q : AV → Prop} (hl : args.length ≤ 96) (h : AW Try.prog 96 a27 (mkS (argT 0 args) [] 0) (retQ a27_res Q)) : ACall Try.prog 27 args Q :=
  acall_of (fn := Try.f27) (by kernel_rfl) rfl (by kernel_rfl) (by kernel_rfl) (by kernel_rfl) hl h

/- workflow/workflowref14.Same -/
def a28_r0 : ACode := .reg [{ op := .box 6 true (.t 0), dst := some 2, k := 0 },
    { op := .box 6 true (.t 1), dst := some 3, k := 1 },
    { op := .mov (.c (.bool false)), dst := some 4 }]
def a28_r1 : ACode := .reg [{ op := .fad 0 (.t 2), dst := some 9 },
    { op := .load 1 false (.t 9), dst := some 10 },
    { op := .fad 0 (.t 3), dst := some 11 },
    { op := .load 1 false (.t 11), dst := some 12 },
    { op := .bin .neq (.t 10) (.t 12), dst := some 13 },
    { op := .mov (.t 13), dst := some 14 },
    { op := .fad 2 (.t 2), dst := some 15, g := some (14, false) },
    { op := .load 1 false (.t 15), dst := some 16, g := some (14, false) },
    { op := .fad 2 (.t 3), dst := some 17, g := some (14, false) },
    { op := .load 1 false (.t 17), dst := some 18, g := some (14, false) },
    { op := .bin .neq (.t 16) (.t 18), dst := some 19, g := some (14, false) },
    { op := .pick (.t 14) (.c (.bool true)) (.t 19), dst := some 20 },
    { op := .mov (.t 20), dst := some 21 },
    { op := .fad 4 (.t 2), dst := some 22, g := some (21, false) },
    { op := .load 1 false (.t 22), dst := some 23, g := some (21, false) },
    { op := .fad 4 (.t 3), dst := some 24, g := some (21, false) },
    { op := .load 1 false (.t 24), dst := some 25, g := some (21, false) },
    { op := .eqb true (.t 23) (.t 25), dst := some 26, g := some (21, false) },
    { op := .pick (.t 21) (.c (.bool true)) (.t 26), dst := some 27 },
    { op := .mov (.t 27), dst := some 28 },
    { op := .fad 5 (.t 2), dst := some 29, g := some (28, false) },
    { op := .load 1 false (.t 29), dst := some 30, g := some (28, false) },
    { op := .fad 5 (.t 3), dst := some 31, g := some (28, false) },
    { op := .load 1 false (.t 31), dst := some 32, g := some (28, false) },
    { op := .bin .neq (.t 30) (.t 32), dst := some 33, g := some (28, false) },
    { op := .pick (.t 28) (.c (.bool true)) (.t 33), dst := some 34 },
    { op := .mov (.t 34), dst := some 35 },
    { op := .fad 3 (.t 2), dst := some 36, g := some (35, false) },
    { op := .load 1 false (.t 36), dst := some 37, g := some (35, false) },
    { op := .len false (.t 37), dst := some 38, g := some (35, false) },
    { op := .fad 3 (.t 3), dst := some 39, g := some (35, false) },
    { op := .load 1 false (.t 39), dst := some 40, g := some (35, false) },
    { op := .len false (.t 40), dst := some 41, g := some (35, false) },
    { op := .bin .neq (.t 38) (.t 41), dst := some 42, g := some (35, false) },
    { op := .pick (.t 35) (.c (.bool true)) (.t 42), dst := some 43 },
    { op := .mov (.t 43), dst := some 44 },
    { op := .fad 1 (.t 2), dst := some 45, g := some (44, false) },
    { op := .load 1 false (.t 45), dst := some 46, g := some (44, false) },
    { op := .len false (.t 46), dst := some 47, g := some (44, false) },
    { op := .fad 1 (.t 3), dst := some 48, g := some (44, false) },
    { op := .load 1 false (.t 48), dst := some 49, g := some (44, false) },
    { op := .len false (.t 49), dst := some 50, g := some (44, false) },
    { op := .bin .neq (.t 47) (.t 50), dst := some 51, g := some (44, false) },
    { op := .pick (.t 44) (.c (.bool true)) (.t 51), dst := some 52 }]
def a28_r2 : ACode := .reg [{ op := .mov (.c (.bool false)), dst := some 4 }]
def a28_r3 : ACode := .reg [{ op := .mov (.c (.int .i64 0)), dst := some 5 }]
def a28_r4 : ACode := .reg [{ op := .mov (.t 5), dst := some 53 },
    { op := .fad 3 (.t 2), dst := some 54 },
    { op := .load 1 false (.t 54), dst := some 55 },
    { op := .len false (.t 55), dst := some 56 },
    { op := .bin .lss (.t 53) (.t 56), dst := some 57 }]
def a28_r6 : ACode := .draw [{ op := .fad 3 (.t 2), dst := some 60 },
    { op := .load 1 false (.t 60), dst := some 61 },
    { op := .mov (.t 5), dst := some 62 },
    { op := .iad 1 (.t 61) (.t 62), dst := some 63 },
    { op := .load 1 false (.t 63), dst := some 64 },
    { op := .fad 3 (.t 3), dst := some 65 },
    { op := .load 1 false (.t 65), dst := some 66 },
    { op := .mov (.t 5), dst := some 67 },
    { op := .iad 1 (.t 66) (.t 67), dst := some 68 },
    { op := .load 1 false (.t 68), dst := some 69 },
    { op := .bin .neq (.t 64) (.t 69), dst := some 70 }]
    []
    (.take 0 (.take 1 (.take 2 (.take 3 (.take 4 (.take 5 (.take 6 (.take 7 (.take 8 (.take 9 (.take 10 (.done))))))))))))
def a28_r7 : ACode := .reg [{ op := .mov (.c (.bool false)), dst := some 4 }]
def a28_r5 : ACode := .reg [{ op := .mov (.t 5), dst := some 58 },
    { op := .bin .add (.t 58) (.c (.int .i64 1)), dst := some 59 },
    { op := .mov (.t 59), dst := some 5 }]
def a28_l0 : ACode := (.seq (.seq a28_r4 (.cond (.t 57) .skip (.exit 0))) (.seq (.block 1 (.seq a28_r6 (.cond (.t 70) (.seq a28_r7 .ret) .skip))) a28_r5))
def a28_r8 : ACode := .reg [{ op := .mov (.c (.int .i64 0)), dst := some 6 }]
def a28_r9 : ACode := .reg [{ op := .mov (.t 6), dst := some 71 },
    { op := .fad 1 (.t 2), dst := some 72 },
    { op := .load 1 false (.t 72), dst := some 73 },
    { op := .len false (.t 73), dst := some 74 },
    { op := .bin .lss (.t 71) (.t 74), dst := some 75 }]
def a28_r11 : ACode := .draw [{ op := .fad 1 (.t 2), dst := some 78 },
    { op := .load 1 false (.t 78), dst := some 79 },
    { op := .mov (.t 6), dst := some 80 },
    { op := .iad 5 (.t 79) (.t 80), dst := some 81 },
    { op := .load 5 true (.t 81), dst := some 82 },
    { op := .fad 1 (.t 3), dst := some 83 },
    { op := .load 1 false (.t 83), dst := some 84 },
    { op := .mov (.t 6), dst := some 85 },
    { op := .iad 5 (.t 84) (.t 85), dst := some 86 },
    { op := .load 5 true (.t 86), dst := some 87 },
    { op := .alloc 5 true [.int .i64 0, .int .i64 0, .nils, .nils, .nils], dst := some 7, k := 85 },
    { op := .alloc 5 true [.int .i64 0, .int .i64 0, .nils, .nils, .nils], dst := some 8, k := 86 },
    { op := .store 5 true (.t 7) (.t 82), dst := none },
    { op := .store 5 true (.t 8) (.t 87), dst := none }]
    [(10, [1, 3, 4, 6, 8, 9]), (11, [1, 3, 4, 6, 8, 9]), (12, [6, 8, 9])]
    (.take 0 (.take 1 (.take 2 (.take 3 (.take 4 (.take 5 (.take 6 (.take 7 (.take 8 (.take 9 (.two 10 (.one 11 (.one 12 (.one 13 (.done)))) 11 (.one 10 (.one 12 (.one 13 (.done)))))))))))))))
def a28_r12 : ACode := .reg [{ op := .fad 0 (.t 7), dst := some 88 },
    { op := .load 1 false (.t 88), dst := some 89 },
    { op := .fad 0 (.t 8), dst := some 90 },
    { op := .load 1 false (.t 90), dst := some 91 },
    { op := .bin .neq (.t 89) (.t 91), dst := some 92 },
    { op := .mov (.t 92), dst := some 93 },
    { op := .fad 1 (.t 7), dst := some 94, g := some (93, false) },
    { op := .load 1 false (.t 94), dst := some 95, g := some (93, false) },
    { op := .fad 1 (.t 8), dst := some 96, g := some (93, false) },
    { op := .load 1 false (.t 96), dst := some 97, g := some (93, false) },
    { op := .bin .neq (.t 95) (.t 97), dst := some 98, g := some (93, false) },
    { op := .pick (.t 93) (.c (.bool true)) (.t 98), dst := some 99 },
    { op := .mov (.t 99), dst := some 100 },
    { op := .fad 2 (.t 7), dst := some 101, g := some (100, false) },
    { op := .load 1 false (.t 101), dst := some 102, g := some (100, false) },
    { op := .fad 2 (.t 8), dst := some 103, g := some (100, false) },
    { op := .load 1 false (.t 103), dst := some 104, g := some (100, false) },
    { op := .call 35 [(.t 102), (.t 104)], dst := some 105, g := some (100, false) },
    { op := .not (.t 105), dst := some 106, g := some (100, false) },
    { op := .pick (.t 100) (.c (.bool true)) (.t 106), dst := some 107 },
    { op := .mov (.t 107), dst := some 108 },
    { op := .fad 3 (.t 7), dst := some 109, g := some (108, false) },
    { op := .load 1 false (.t 109), dst := some 110, g := some (108, false) },
    { op := .fad 3 (.t 8), dst := some 111, g := some (108, false) },
    { op := .load 1 false (.t 111), dst := some 112, g := some (108, false) },
    { op := .call 35 [(.t 110), (.t 112)], dst := some 113, g := some (108, false) },
    { op := .not (.t 113), dst := some 114, g := some (108, false) },
    { op := .pick (.t 108) (.c (.bool true)) (.t 114), dst := some 115 },
    { op := .mov (.t 115), dst := some 116 },
    { op := .fad 4 (.t 7), dst := some 117, g := some (116, false) },
    { op := .load 1 false (.t 117), dst := some 118, g := some (116, false) },
    { op := .fad 4 (.t 8), dst := some 119, g := some (116, false) },
    { op := .load 1 false (.t 119), dst := some 120, g := some (116, false) },
    { op := .call 36 [(.t 118), (.t 120)], dst := some 121, g := some (116, false) },
    { op := .not (.t 121), dst := some 122, g := some (116, false) },
    { op := .pick (.t 116) (.c (.bool true)) (.t 122), dst := some 123 }]
def a28_r13 : ACode := .reg [{ op := .mov (.c (.bool false)), dst := some 4 }]
def a28_r10 : ACode := .reg [{ op := .mov (.t 6), dst := some 76 },
    { op := .bin .add (.t 76) (.c (.int .i64 1)), dst := some 77 },
    { op := .mov (.t 77), dst := some 6 }]
def a28_l1 : ACode := (.seq (.seq a28_r9 (.cond (.t 75) .skip (.exit 2))) (.seq (.block 3 (.seq a28_r11 (.seq a28_r12 (.cond (.t 123) (.seq a28_r13 .ret) .skip)))) a28_r10))
def a28_r14 : ACode := .reg [{ op := .mov (.c (.bool true)), dst := some 4 }]
def a28 : ACode := (.seq a28_r0 (.seq (.seq a28_r1 (.cond (.t 52) (.seq a28_r2 .ret) .skip)) (.seq (.seq a28_r3 (.block 0 (.loop a28_l0))) (.seq (.seq a28_r8 (.block 2 (.loop a28_l1))) (.seq a28_r14 .ret)))))
def a28_res : List ARes := [.tmp 4]
theorem a28_of {args : List AV} {Q : AV → Prop} (hl : args.length ≤ 124) (h : AW Try.prog 124 a28 (mkS (argT 0 args) [] 0) (retQ a28_res Q)) : ACall Try.prog 28 args Q :=
  acall_of (fn := Try.f28) (by kernel_rfl) rfl (by kernel_rfl) (by kernel_rfl) (by kernel_rfl) hl h

/- workflow/selector.copied -/
def a29_r0 : ACode := .reg [{ op := .box 6 true (.t 0), dst := some 1, k := 0 },
    { op := .alloc 6 true [.int .i64 0, .nils, .int .i64 0, .nils, .bool false, .str []], dst := some 2, k := 1 }]
def a29_r1 : ACode := .draw [{ op := .fad 3 (.t 1), dst := some 8 },
    { op := .load 1 false (.t 8), dst := some 9 },
    { op := .call 37 [(.t 9)], dst := some 10, k := 4, ad := true },
    { op := .fad 1 (.t 1), dst := some 11 },
    { op := .load 1 false (.t 11), dst := some 12 },
    { op := .call 38 [(.t 12)], dst := some 13, k := 7, ad := true },
    { op := .fad 3 (.t 1), dst := some 14 },
    { op := .store 1 false (.t 14) (.t 10), dst := none },
    { op := .fad 1 (.t 1), dst := some 15 },
    { op := .store 1 false (.t 15) (.t 13), dst := none }]
    [(2, [4])]
    (.take 0 (.take 1 (.take 3 (.take 4 (.one 2 (.take 6 (.one 5 (.one 7 (.take 8 (.one 9 (.done)))))))))))
def a29_r2 : ACode := .reg [{ op := .fad 1 (.t 1), dst := some 16 },
    { op := .load 1 false (.t 16), dst := some 17 },
    { op := .len false (.t 17), dst := some 18 },
    { op := .mov (.c (.int .i64 0)), dst := some 19 }]
def a29_r3 : ACode := .reg [{ op := .bin .lss (.t 19) (.t 18), dst := some 20 }]
def a29_r4 : ACode := .reg [{ op := .mov (.t 19), dst := some 21 },
    { op := .iad 5 (.t 17) (.t 19), dst := some 22 },
    { op := .load 5 true (.t 22), dst := some 23 },
    { op := .alloc 5 true [.int .i64 0, .int .i64 0, .nils, .nils, .nils], dst := some 4, k := 20 },
    { op := .mov (.t 21), dst := some 3 },
    { op := .store 5 true (.t 4) (.t 23), dst := none }]
def a29_r5 : ACode := .draw [{ op := .fad 2 (.t 4), dst := some 24 },
    { op := .load 1 false (.t 24), dst := some 25 },
    { op := .call 39 [(.t 25)], dst := some 26 },
    { op := .fad 3 (.t 4), dst := some 27 },
    { op := .load 1 false (.t 27), dst := some 28 },
    { op := .call 39 [(.t 28)], dst := some 29 },
    { op := .fad 4 (.t 4), dst := some 30 },
    { op := .load 1 false (.t 30), dst := some 31 },
    { op := .call 40 [(.t 31)], dst := some 32, k := 31, ad := true },
    { op := .fad 2 (.t 4), dst := some 33 },
    { op := .store 1 false (.t 33) (.t 26), dst := none },
    { op := .fad 3 (.t 4), dst := some 34 },
    { op := .store 1 false (.t 34) (.t 29), dst := none },
    { op := .fad 4 (.t 4), dst := some 35 },
    { op := .store 1 false (.t 35) (.t 32), dst := none }]
    [(2, [4, 7]), (5, [7])]
    (.take 0 (.take 1 (.take 3 (.take 4 (.take 6 (.take 7 (.one 2 (.take 9 (.one 5 (.one 8 (.one 10 (.take 11 (.one 12 (.take 13 (.one 14 (.done))))))))))))))))
def a29_r6 : ACode := .reg [{ op := .fad 4 (.t 4), dst := some 36 },
    { op := .load 1 false (.t 36), dst := some 37 },
    { op := .len false (.t 37), dst := some 38 },
    { op := .mov (.c (.int .i64 0)), dst := some 39 }]
def a29_r7 : ACode := .reg [{ op := .bin .lss (.t 39) (.t 38), dst := some 40 }]
def a29_r8 : ACode := .reg [{ op := .mov (.t 39), dst := some 41 },
    { op := .iad 10 (.t 37) (.t 39), dst := some 42 },
    { op := .load 10 true (.t 42), dst := some 43 },
    { op := .alloc 10 true [.int .i64 0, .int .i64 0, .int .i64 0, .int .i64 0, .nils, .int .i64 0, .int .i64 0, .str [], .nils, .nils], dst := some 6, k := 46 },
    { op := .mov (.t 41), dst := some 5 },
    { op := .store 10 true (.t 6) (.t 43), dst := none }]
def a29_r9 : ACode := .reg [{ op := .fad 4 (.t 6), dst := some 44 },
    { op := .load 1 false (.t 44), dst := some 45 },
    { op := .call 41 [(.t 45)], dst := some 46, k := 51, ad := true },
    { op := .fad 4 (.t 6), dst := some 47 },
    { op := .store 1 false (.t 47) (.t 46), dst := none }]
def a29_r10 : ACode := .reg [{ op := .fad 4 (.t 6), dst := some 48 },
    { op := .load 1 false (.t 48), dst := some 49 },
    { op := .len false (.t 49), dst := some 50 },
    { op := .mov (.c (.int .i64 0)), dst := some 51 }]
def a29_r11 : ACode := .reg [{ op := .bin .lss (.t 51) (.t 50), dst := some 52 }]
def a29_r12 : ACode := .reg [{ op := .mov (.t 51), dst := some 53 },
    { op := .mov (.t 53), dst := some 7 }]
def a29_r13 : ACode := .draw [{ op := .fad 4 (.t 6), dst := some 54 },
    { op := .load 1 false (.t 54), dst := some 55 },
    { op := .mov (.t 7), dst := some 56 },
    { op := .fad 4 (.t 6), dst := some 57 },
    { op := .load 1 false (.t 57), dst := some 58 },
    { op := .mov (.t 7), dst := some 59 },
    { op := .iad 2 (.t 58) (.t 59), dst := some 60 },
    { op := .fad 1 (.t 60), dst := some 61 },
    { op := .load 1 false (.t 61), dst := some 62 },
    { op := .call 39 [(.t 62)], dst := some 63 },
    { op := .iad 2 (.t 55) (.t 56), dst := some 64 },
    { op := .fad 1 (.t 64), dst := some 65 },
    { op := .store 1 false (.t 65) (.t 63), dst := none }]
    [(9, [1])]
    (.take 0 (.take 1 (.take 2 (.take 3 (.take 4 (.take 5 (.take 6 (.take 7 (.take 8 (.one 9 (.take 10 (.take 11 (.one 12 (.done))))))))))))))
def a29_r14 : ACode := .reg [{ op := .bin .add (.t 51) (.c (.int .i64 1)), dst := some 66 },
    { op := .mov (.t 66), dst := some 51 }]
def a29_l0 : ACode := (.seq a29_r11 (.seq (.cond (.t 52) .skip (.exit 4)) (.seq (.block 5 (.seq a29_r12 a29_r13)) a29_r14)))
def a29_r15 : ACode := .reg [{ op := .fad 5 (.t 6), dst := some 67 },
    { op := .load 5 true (.t 67), dst := some 68 },
    { op := .bsl 5 true 1 [.int .i64 0, .int .i64 0, .str [], .nils, .nils] [(0, (.t 68))], dst := some 69 },
    { op := .call 39 [(.t 69)], dst := some 70 },
    { op := .iad 5 (.t 70) (.c (.int .i64 0)), dst := some 71 },
    { op := .load 5 true (.t 71), dst := some 72 },
    { op := .fad 5 (.t 6), dst := some 73 },
    { op := .store 5 true (.t 73) (.t 72), dst := none }]
def a29_r16 : ACode := .reg [{ op := .fad 4 (.t 4), dst := some 74 },
    { op := .load 1 false (.t 74), dst := some 75 },
    { op := .mov (.t 5), dst := some 76 },
    { op := .load 10 true (.t 6), dst := some 77 },
    { op := .iad 10 (.t 75) (.t 76), dst := some 78 },
    { op := .store 10 true (.t 78) (.t 77), dst := none }]
def a29_r17 : ACode := .reg [{ op := .bin .add (.t 39) (.c (.int .i64 1)), dst := some 79 },
    { op := .mov (.t 79), dst := some 39 }]
def a29_l1 : ACode := (.seq a29_r7 (.seq (.cond (.t 40) .skip (.exit 2)) (.seq (.block 3 (.seq a29_r8 (.seq a29_r9 (.seq (.seq a29_r10 (.block 4 (.loop a29_l0))) (.seq a29_r15 a29_r16))))) a29_r17)))
def a29_r18 : ACode := .reg [{ op := .fad 1 (.t 1), dst := some 80 },
    { op := .load 1 false (.t 80), dst := some 81 },
    { op := .mov (.t 3), dst := some 82 },
    { op := .load 5 true (.t 4), dst := some 83 },
    { op := .iad 5 (.t 81) (.t 82), dst := some 84 },
    { op := .store 5 true (.t 84) (.t 83), dst := none }]
def a29_r19 : ACode := .reg [{ op := .bin .add (.t 19) (.c (.int .i64 1)), dst := some 85 },
    { op := .mov (.t 85), dst := some 19 }]
def a29_l2 : ACode := (.seq a29_r3 (.seq (.cond (.t 20) .skip (.exit 0)) (.seq (.block 1 (.seq a29_r4 (.seq a29_r5 (.seq (.seq a29_r6 (.block 2 (.loop a29_l1))) a29_r18)))) a29_r19)))
def a29_r20 : ACode := .reg [{ op := .load 6 true (.t 1), dst := some 86 },
    { op := .store 6 true (.t 2) (.t 86), dst := none }]
def a29 : ACode := (.seq a29_r0 (.seq a29_r1 (.seq (.seq a29_r2 (.block 0 (.loop a29_l2))) (.seq a29_r20 .ret))))
def a29_res : List ARes := [.cell 2 6 true]
theorem a29_of {args : List AV} {Q : AV → Prop} (hl : args.length ≤ 87) (h : AW Try.prog 87 a29 (mkS (argT 0 args) [] 0) (retQ a29_res Q)) : ACall Try.prog 29 args Q :=
  acall_of (fn := Try.f29) (by kernel_rfl) rfl (by kernel_rfl) (by kernel_rfl) (by kernel_rfl) hl h

/- workflow/workflowref14.CopyCoro -/
def a30_r0 : ACode := .reg [{ op := .box 6 true (.t 0), dst := some 1, k := 0 },
    { op := .alloc 6 true [.int .i64 0, .nils, .int .i64 0, .nils, .bool false, .str []], dst := some 2, k := 1 }]
def a30_r1 : ACode := .reg [{ op := .load 6 true (.t 1), dst := some 5 },
    { op := .alloc 6 true [.int .i64 0, .nils, .int .i64 0, .nils, .bool false, .str []], dst := some 3, k := 3 },
    { op := .store 6 true (.t 3) (.t 5), dst := none }]
def a30_r2 : ACode := .reg [{ op := .fad 1 (.t 3), dst := some 6 },
    { op := .store 1 false (.t 6) (.c (.nils)), dst := none }]
def a30_r3 : ACode := .reg [{ op := .mov (.c (.int .i64 0)), dst := some 4 }]
def a30_r4 : ACode := .reg [{ op := .mov (.t 4), dst := some 7 },
    { op := .fad 1 (.t 1), dst := some 8 },
    { op := .load 1 false (.t 8), dst := some 9 },
    { op := .len false (.t 9), dst := some 10 },
    { op := .bin .lss (.t 7) (.t 10), dst := some 11 }]
def a30_r6 : ACode := .draw [{ op := .fad 1 (.t 3), dst := some 14 },
    { op := .load 1 false (.t 14), dst := some 15 },
    { op := .fad 1 (.t 1), dst := some 16 },
    { op := .load 1 false (.t 16), dst := some 17 },
    { op := .mov (.t 4), dst := some 18 },
    { op := .iad 5 (.t 17) (.t 18), dst := some 19 },
    { op := .load 5 true (.t 19), dst := some 20 },
    { op := .call 42 [(.t 20)], dst := some 21 },
    { op := .bsl 5 true 1 [.int .i64 0, .int .i64 0, .nils, .nils, .nils] [(0, (.t 21))], dst := some 22 },
    { op := .app 5 88 (.t 15) (.t 22), dst := some 23, k := 22 },
    { op := .fad 1 (.t 3), dst := some 24 },
    { op := .store 1 false (.t 24) (.t 23), dst := none }]
    [(7, [1])]
    (.take 0 (.take 1 (.take 2 (.take 3 (.take 4 (.take 5 (.take 6 (.one 7 (.take 8 (.one 9 (.take 10 (.one 11 (.done)))))))))))))
def a30_r5 : ACode := .reg [{ op := .mov (.t 4), dst := some 12 },
    { op := .bin .add (.t 12) (.c (.int .i64 1)), dst := some 13 },
    { op := .mov (.t 13), dst := some 4 }]
def a30_l0 : ACode := (.seq (.seq a30_r4 (.cond (.t 11) .skip (.exit 0))) (.seq (.block 1 a30_r6) a30_r5))
def a30_r7 : ACode := .reg [{ op := .fad 3 (.t 3), dst := some 25 },
    { op := .store 1 false (.t 25) (.c (.nils)), dst := none }]
def a30_r8 : ACode := .reg [{ op := .fad 3 (.t 3), dst := some 26 },
    { op := .load 1 false (.t 26), dst := some 27 },
    { op := .fad 3 (.t 1), dst := some 28 },
    { op := .load 1 false (.t 28), dst := some 29 },
    { op := .app 1 8 (.t 27) (.t 29), dst := some 30, k := 34 },
    { op := .fad 3 (.t 3), dst := some 31 },
    { op := .store 1 false (.t 31) (.t 30), dst := none }]
def a30_r9 : ACode := .reg [{ op := .load 6 true (.t 3), dst := some 32 },
    { op := .store 6 true (.t 2) (.t 32), dst := none }]
def a30 : ACode := (.seq a30_r0 (.seq a30_r1 (.seq a30_r2 (.seq (.seq a30_r3 (.block 0 (.loop a30_l0))) (.seq a30_r7 (.seq a30_r8 (.seq a30_r9 .ret)))))))
def a30_res : List ARes := [.cell 2 6 true]
theorem a30_of {args : List AV} {Q : AV → Prop} (hl : args.length ≤ 33) (h : AW Try.prog 33 a30 (mkS (argT 0 args) [] 0) (retQ a30_res Q)) : ACall Try.prog 30 args Q :=
  acall_of (fn := Try.f30) (by kernel_rfl) rfl (by kernel_rfl) (by kernel_rfl) (by kernel_rfl) hl h

/- slices.IndexFunc[[]workflow/api.Coro,workflow/api.Coro] -/
def a31_r0 : ACode := .reg [{ op := .mov (.c (.int .i64 0)), dst := some 4 }]
def a31_r1 : ACode := .reg [{ op := .mov (.t 0), dst := some 6 },
    { op := .len false (.t 6), dst := some 7 },
    { op := .mov (.c (.int .i64 0)), dst := some 8 }]
def a31_r2 : ACode := .reg [{ op := .bin .lss (.t 8) (.t 7), dst := some 9 }]
def a31_r3 : ACode := .reg [{ op := .mov (.t 8), dst := some 10 },
    { op := .mov (.t 10), dst := some 5 }]
def a31_r4 : ACode := .reg [{ op := .mov (.t 1), dst := some 11 },
    { op := .mov (.t 0), dst := some 12 },
    { op := .mov (.t 5), dst := some 13 },
    { op := .iad 6 (.t 12) (.t 13), dst := some 14 },
    { op := .load 6 true (.t 14), dst := some 15 },
    { op := .callv (.t 11) [(.t 15)], dst := some 16 }]
def a31_r5 : ACode := .reg [{ op := .mov (.t 5), dst := some 17 },
    { op := .mov (.t 17), dst := some 4 }]
def a31_r6 : ACode := .reg [{ op := .bin .add (.t 8) (.c (.int .i64 1)), dst := some 18 },
    { op := .mov (.t 18), dst := some 8 }]
def a31_l0 : ACode := (.seq a31_r2 (.seq (.cond (.t 9) .skip (.exit 0)) (.seq (.block 1 (.seq a31_r3 (.seq a31_r4 (.cond (.t 16) (.seq a31_r5 .ret) .skip)))) a31_r6)))
def a31_r7 : ACode := .reg [{ op := .mov (.c (.int .i64 (-1))), dst := some 4 }]
def a31 : ACode := (.seq a31_r0 (.seq (.seq a31_r1 (.block 0 (.loop a31_l0))) (.seq a31_r7 .ret)))
def a31_res : List ARes := [.tmp 4]
theorem a31_of {args : List AV} {Q : AV → Prop} (hl : args.length ≤ 19) (h : AW Try.prog 19 a31 (mkS (argT 0 args) [] 0) (retQ a31_res Q)) : ACall Try.prog 31 args Q :=
  acall_of (fn := Try.f31) (by kernel_rfl) rfl (by kernel_rfl) (by kernel_rfl) (by kernel_rfl) hl h

/- workflow/selector.Next$1 -/
def a32_r0 : ACode := .reg [{ op := .box 6 true (.t 0), dst := some 1, k := 0 },
    { op := .mov (.c (.bool false)), dst := some 2 }]
def a32_r1 : ACode := .reg [{ op := .fad 0 (.t 1), dst := some 3 },
    { op := .load 1 false (.t 3), dst := some 4 },
    { op := .bin .eql (.t 4) (.c (.int .i64 1)), dst := some 5 },
    { op := .mov (.t 5), dst := some 2 }]
def a32 : ACode := (.seq a32_r0 (.seq a32_r1 .ret))
def a32_res : List ARes := [.tmp 2]
theorem a32_of {args : List AV} {Q : AV → Prop} (hl : args.length ≤ 6) (h : AW Try.prog 6 a32 (mkS (argT 0 args) [] 0) (retQ a32_res Q)) : ACall Try.prog 32 args Q :=
  acall_of (fn := Try.f32) (by kernel_rfl) rfl (by kernel_rfl) (by kernel_rfl) (by kernel_rfl) hl h

/- workflow/future.State -/
def a33_r0 : ACode := .reg [{ op := .mov (.c (.int .i64 0)), dst := some 4 },
    { op := .mov (.c (.bool false)), dst := some 5 }]
def a33_r1 : ACode := .reg [{ op := .mov (.t 1), dst := some 6 },
    { op := .bin .lss (.t 6) (.c (.int .i64 0)), dst := some 7 },
    { op := .mov (.t 7), dst := some 8 },
    { op := .mov (.t 1), dst := some 9, g := some (8, false) },
    { op := .mov (.t 0), dst := some 10, g := some (8, false) },
    { op := .len false (.t 10), dst := some 11, g := some (8, false) },
    { op := .bin .geq (.t 9) (.t 11), dst := some 12, g := some (8, false) },
    { op := .pick (.t 8) (.c (.bool true)) (.t 12), dst := some 13 }]
def a33_r2 : ACode := .reg [{ op := .mov (.c (.int .i64 0)), dst := some 4 },
    { op := .mov (.c (.bool false)), dst := some 5 }]
def a33_r3 : ACode := .reg [{ op := .mov (.t 0), dst := some 14 },
    { op := .mov (.t 1), dst := some 15 },
    { op := .iad 8 (.t 14) (.t 15), dst := some 16 },
    { op := .fad 0 (.t 16), dst := some 17 },
    { op := .load 1 false (.t 17), dst := some 18 },
    { op := .mov (.t 18), dst := some 4 },
    { op := .mov (.c (.bool true)), dst := some 5 }]
def a33 : ACode := (.seq a33_r0 (.seq (.seq a33_r1 (.cond (.t 13) (.seq a33_r2 .ret) .skip)) (.seq a33_r3 .ret)))
def a33_res : List ARes := [.tmp 4, .tmp 5]
theorem a33_of {args : List AV} {Q : AV → Prop} (hl : args.length ≤ 19) (h : AW Try.prog 19 a33 (mkS (argT 0 args) [] 0) (retQ a33_res Q)) : ACall Try.prog 33 args Q :=
  acall_of (fn := Try.f33) (by kernel_rfl) rfl (by kernel_rfl) (by kernel_rfl) (by kernel_rfl) hl h

/- workflow/workflowref02.Few -/
def a34_r0 : ACode := .reg [{ op := .box 5 true (.t 0), dst := some 2, k := 0 },
    { op := .mov (.c (.bool false)), dst := some 4 }]
def a34_r1 : ACode := .reg [{ op := .load 5 true (.t 2), dst := some 5 },
    { op := .mov (.t 1), dst := some 6 },
    { op := .call 43 [(.t 5), (.t 6)], dst := some 7 },
    { op := .bin .geq (.t 7) (.c (.int .i64 0)), dst := some 8 },
    { op := .mov (.t 8), dst := some 4 }]
def a34 : ACode := (.seq a34_r0 (.seq a34_r1 .ret))
def a34_res : List ARes := [.tmp 4]
theorem a34_of {args : List AV} {Q : AV → Prop} (hl : args.length ≤ 9) (h : AW Try.prog 9 a34 (mkS (argT 0 args) [] 0) (retQ a34_res Q)) : ACall Try.prog 34 args Q :=
  acall_of (fn := Try.f34) (by kernel_rfl) rfl (by kernel_rfl) (by kernel_rfl) (by kernel_rfl) hl h

/- workflow/workflowref02.SameList -/
def a35_r0 : ACode := .reg [{ op := .mov (.c (.bool false)), dst := some 4 }]
def a35_r1 : ACode := .reg [{ op := .mov (.t 0), dst := some 5 },
    { op := .build [.int .i64 0, .int .i64 0, .str [], .nils, .nils] [(3, 1, (.t 5))], dst := some 6 },
    { op := .mov (.t 1), dst := some 7 },
    { op := .build [.int .i64 0, .int .i64 0, .str [], .nils, .nils] [(3, 1, (.t 7))], dst := some 8 },
    { op := .call 44 [(.t 6), (.t 8)], dst := some 9 },
    { op := .mov (.t 9), dst := some 4 }]
def a35 : ACode := (.seq a35_r0 (.seq a35_r1 .ret))
def a35_res : List ARes := [.tmp 4]
theorem a35_of {args : List AV} {Q : AV → Prop} (hl : args.length ≤ 10) (h : AW Try.prog 10 a35 (mkS (argT 0 args) [] 0) (retQ a35_res Q)) : ACall Try.prog 35 args Q :=
  acall_of (fn := Try.f35) (by kernel_rfl) rfl (by kernel_rfl) (by kernel_rfl) (by kernel_rfl) hl h

/- workflow/workflowref14.sameMarks -/
def a36_r0 : ACode := .reg [{ op := .mov (.c (.bool false)), dst := some 4 }]
def a36_r1 : ACode := .reg [{ op := .mov (.t 0), dst := some 9 },
    { op := .len false (.t 9), dst := some 10 },
    { op := .mov (.t 1), dst := some 11 },
    { op := .len false (.t 11), dst := some 12 },
    { op := .bin .neq (.t 10) (.t 12), dst := some 13 }]
def a36_r2 : ACode := .reg [{ op := .mov (.c (.bool false)), dst := some 4 }]
def a36_r3 : ACode := .reg [{ op := .mov (.c (.int .i64 0)), dst := some 5 }]
def a36_r4 : ACode := .reg [{ op := .mov (.t 5), dst := some 14 },
    { op := .mov (.t 0), dst := some 15 },
    { op := .len false (.t 15), dst := some 16 },
    { op := .bin .lss (.t 14) (.t 16), dst := some 17 }]
def a36_r6 : ACode := .draw [{ op := .mov (.t 0), dst := some 20 },
    { op := .mov (.t 5), dst := some 21 },
    { op := .iad 10 (.t 20) (.t 21), dst := some 22 },
    { op := .load 10 true (.t 22), dst := some 23 },
    { op := .mov (.t 1), dst := some 24 },
    { op := .mov (.t 5), dst := some 25 },
    { op := .iad 10 (.t 24) (.t 25), dst := some 26 },
    { op := .load 10 true (.t 26), dst := some 27 },
    { op := .alloc 10 true [.int .i64 0, .int .i64 0, .int .i64 0, .int .i64 0, .nils, .int .i64 0, .int .i64 0, .str [], .nils, .nils], dst := some 6, k := 20 },
    { op := .alloc 10 true [.int .i64 0, .int .i64 0, .int .i64 0, .int .i64 0, .nils, .int .i64 0, .int .i64 0, .str [], .nils, .nils], dst := some 7, k := 21 },
    { op := .store 10 true (.t 6) (.t 23), dst := none },
    { op := .store 10 true (.t 7) (.t 27), dst := none }]
    [(8, [2, 3, 6, 7]), (9, [2, 3, 6, 7]), (10, [6, 7])]
    (.take 0 (.take 1 (.take 2 (.take 3 (.take 4 (.take 5 (.take 6 (.take 7 (.two 8 (.one 9 (.one 10 (.one 11 (.done)))) 9 (.one 8 (.one 10 (.one 11 (.done)))))))))))))
def a36_r7 : ACode := .reg [{ op := .fad 0 (.t 6), dst := some 28 },
    { op := .load 1 false (.t 28), dst := some 29 },
    { op := .fad 0 (.t 7), dst := some 30 },
    { op := .load 1 false (.t 30), dst := some 31 },
    { op := .bin .neq (.t 29) (.t 31), dst := some 32 },
    { op := .mov (.t 32), dst := some 33 },
    { op := .fad 1 (.t 6), dst := some 34, g := some (33, false) },
    { op := .load 1 false (.t 34), dst := some 35, g := some (33, false) },
    { op := .fad 1 (.t 7), dst := some 36, g := some (33, false) },
    { op := .load 1 false (.t 36), dst := some 37, g := some (33, false) },
    { op := .bin .neq (.t 35) (.t 37), dst := some 38, g := some (33, false) },
    { op := .pick (.t 33) (.c (.bool true)) (.t 38), dst := some 39 },
    { op := .mov (.t 39), dst := some 40 },
    { op := .fad 2 (.t 6), dst := some 41, g := some (40, false) },
    { op := .load 1 false (.t 41), dst := some 42, g := some (40, false) },
    { op := .fad 2 (.t 7), dst := some 43, g := some (40, false) },
    { op := .load 1 false (.t 43), dst := some 44, g := some (40, false) },
    { op := .bin .neq (.t 42) (.t 44), dst := some 45, g := some (40, false) },
    { op := .pick (.t 40) (.c (.bool true)) (.t 45), dst := some 46 },
    { op := .mov (.t 46), dst := some 47 },
    { op := .fad 3 (.t 6), dst := some 48, g := some (47, false) },
    { op := .load 1 false (.t 48), dst := some 49, g := some (47, false) },
    { op := .fad 3 (.t 7), dst := some 50, g := some (47, false) },
    { op := .load 1 false (.t 50), dst := some 51, g := some (47, false) },
    { op := .bin .neq (.t 49) (.t 51), dst := some 52, g := some (47, false) },
    { op := .pick (.t 47) (.c (.bool true)) (.t 52), dst := some 53 },
    { op := .mov (.t 53), dst := some 54 },
    { op := .fad 5 (.t 6), dst := some 55, g := some (54, false) },
    { op := .load 5 true (.t 55), dst := some 56, g := some (54, false) },
    { op := .fad 5 (.t 7), dst := some 57, g := some (54, false) },
    { op := .load 5 true (.t 57), dst := some 58, g := some (54, false) },
    { op := .call 44 [(.t 56), (.t 58)], dst := some 59, g := some (54, false) },
    { op := .not (.t 59), dst := some 60, g := some (54, false) },
    { op := .pick (.t 54) (.c (.bool true)) (.t 60), dst := some 61 },
    { op := .mov (.t 61), dst := some 62 },
    { op := .fad 4 (.t 6), dst := some 63, g := some (62, false) },
    { op := .load 1 false (.t 63), dst := some 64, g := some (62, false) },
    { op := .len false (.t 64), dst := some 65, g := some (62, false) },
    { op := .fad 4 (.t 7), dst := some 66, g := some (62, false) },
    { op := .load 1 false (.t 66), dst := some 67, g := some (62, false) },
    { op := .len false (.t 67), dst := some 68, g := some (62, false) },
    { op := .bin .neq (.t 65) (.t 68), dst := some 69, g := some (62, false) },
    { op := .pick (.t 62) (.c (.bool true)) (.t 69), dst := some 70 }]
def a36_r8 : ACode := .reg [{ op := .mov (.c (.bool false)), dst := some 4 }]
def a36_r9 : ACode := .reg [{ op := .mov (.c (.int .i64 0)), dst := some 8 }]
def a36_r10 : ACode := .reg [{ op := .mov (.t 8), dst := some 71 },
    { op := .fad 4 (.t 6), dst := some 72 },
    { op := .load 1 false (.t 72), dst := some 73 },
    { op := .len false (.t 73), dst := some 74 },
    { op := .bin .lss (.t 71) (.t 74), dst := some 75 }]
def a36_r12 : ACode := .draw [{ op := .fad 4 (.t 6), dst := some 78 },
    { op := .load 1 false (.t 78), dst := some 79 },
    { op := .mov (.t 8), dst := some 80 },
    { op := .iad 2 (.t 79) (.t 80), dst := some 81 },
    { op := .fad 0 (.t 81), dst := some 82 },
    { op := .load 1 false (.t 82), dst := some 83 },
    { op := .fad 4 (.t 7), dst := some 84 },
    { op := .load 1 false (.t 84), dst := some 85 },
    { op := .mov (.t 8), dst := some 86 },
    { op := .iad 2 (.t 85) (.t 86), dst := some 87 },
    { op := .fad 0 (.t 87), dst := some 88 },
    { op := .load 1 false (.t 88), dst := some 89 },
    { op := .bin .neq (.t 83) (.t 89), dst := some 90 },
    { op := .mov (.t 90), dst := some 91 },
    { op := .fad 4 (.t 6), dst := some 92, g := some (91, false) },
    { op := .load 1 false (.t 92), dst := some 93, g := some (91, false) },
    { op := .mov (.t 8), dst := some 94, g := some (91, false) },
    { op := .iad 2 (.t 93) (.t 94), dst := some 95, g := some (91, false) },
    { op := .fad 1 (.t 95), dst := some 96, g := some (91, false) },
    { op := .load 1 false (.t 96), dst := some 97, g := some (91, false) },
    { op := .fad 4 (.t 7), dst := some 98, g := some (91, false) },
    { op := .load 1 false (.t 98), dst := some 99, g := some (91, false) },
    { op := .mov (.t 8), dst := some 100, g := some (91, false) },
    { op := .iad 2 (.t 99) (.t 100), dst := some 101, g := some (91, false) },
    { op := .fad 1 (.t 101), dst := some 102, g := some (91, false) },
    { op := .load 1 false (.t 102), dst := some 103, g := some (91, false) },
    { op := .call 35 [(.t 97), (.t 103)], dst := some 104, g := some (91, false) },
    { op := .not (.t 104), dst := some 105, g := some (91, false) },
    { op := .pick (.t 91) (.c (.bool true)) (.t 105), dst := some 106 }]
    []
    (.take 0 (.take 1 (.take 2 (.take 3 (.take 4 (.take 5 (.take 6 (.take 7 (.take 8 (.take 9 (.take 10 (.take 11 (.take 12 (.take 13 (.take 14 (.take 15 (.take 16 (.take 17 (.take 18 (.take 19 (.take 20 (.take 21 (.take 22 (.take 23 (.take 24 (.take 25 (.one 26 (.take 27 (.take 28 (.done))))))))))))))))))))))))))))))
def a36_r13 : ACode := .reg [{ op := .mov (.c (.bool false)), dst := some 4 }]
def a36_r11 : ACode := .reg [{ op := .mov (.t 8), dst := some 76 },
    { op := .bin .add (.t 76) (.c (.int .i64 1)), dst := some 77 },
    { op := .mov (.t 77), dst := some 8 }]
def a36_l0 : ACode := (.seq (.seq a36_r10 (.cond (.t 75) .skip (.exit 2))) (.seq (.block 3 (.seq a36_r12 (.cond (.t 106) (.seq a36_r13 .ret) .skip))) a36_r11))
def a36_r5 : ACode := .reg [{ op := .mov (.t 5), dst := some 18 },
    { op := .bin .add (.t 18) (.c (.int .i64 1)), dst := some 19 },
    { op := .mov (.t 19), dst := some 5 }]
def a36_l1 : ACode := (.seq (.seq a36_r4 (.cond (.t 17) .skip (.exit 0))) (.seq (.block 1 (.seq a36_r6 (.seq (.seq a36_r7 (.cond (.t 70) (.seq a36_r8 .ret) .skip)) (.seq a36_r9 (.block 2 (.loop a36_l0)))))) a36_r5))
def a36_r14 : ACode := .reg [{ op := .mov (.c (.bool true)), dst := some 4 }]
def a36 : ACode := (.seq a36_r0 (.seq (.seq a36_r1 (.cond (.t 13) (.seq a36_r2 .ret) .skip)) (.seq (.seq a36_r3 (.block 0 (.loop a36_l1))) (.seq a36_r14 .ret))))
def a36_res : List ARes := [.tmp 4]
theorem a36_of {args : List AV} {Q : AV → Prop} (hl : args.length ≤ 107) (h : AW Try.prog 107 a36 (mkS (argT 0 args) [] 0) (retQ a36_res Q)) : ACall Try.prog 36 args Q :=
  acall_of (fn := Try.f36) (by kernel_rfl) rfl (by kernel_rfl) (by kernel_rfl) (by kernel_rfl) hl h

/- slices.Clone[[]int,int] -/
def a37_r0 : ACode := .reg [{ op := .mov (.c (.nils)), dst := some 2 }]
def a37_r1 : ACode := .reg [{ op := .mov (.t 0), dst := some 3 },
    { op := .eqz false (.t 3), dst := some 4 }]
def a37_r2 : ACode := .reg [{ op := .mov (.c (.nils)), dst := some 2 }]
def a37_r3 : ACode := .reg [{ op := .bsl 1 false 0 [.int .i64 0] [], dst := some 5 },
    { op := .mov (.t 0), dst := some 6 },
    { op := .app 1 8 (.t 5) (.t 6), dst := some 7, k := 6 },
    { op := .mov (.t 7), dst := some 2 }]
def a37 : ACode := (.seq a37_r0 (.seq (.seq a37_r1 (.cond (.t 4) (.seq a37_r2 .ret) .skip)) (.seq a37_r3 .ret)))
def a37_res : List ARes := [.tmp 2]
theorem a37_of {args : List AV} {Q : AV → Prop} (hl : args.length ≤ 8) (h : AW Try.prog 8 a37 (mkS (argT 0 args) [] 0) (retQ a37_res Q)) : ACall Try.prog 37 args Q :=
  acall_of (fn := Try.f37) (by kernel_rfl) rfl (by kernel_rfl) (by kernel_rfl) (by kernel_rfl) hl h

/- slices.Clone[[]workflow/api.Frame,workflow/api.Frame] -/
def a38_r0 : ACode := .reg [{ op := .mov (.c (.nils)), dst := some 2 }]
def a38_r1 : ACode := .reg [{ op := .mov (.t 0), dst := some 3 },
    { op := .eqz false (.t 3), dst := some 4 }]
def a38_r2 : ACode := .reg [{ op := .mov (.c (.nils)), dst := some 2 }]
def a38_r3 : ACode := .reg [{ op := .bsl 5 true 0 [.int .i64 0, .int .i64 0, .nils, .nils, .nils] [], dst := some 5 },
    { op := .mov (.t 0), dst := some 6 },
    { op := .app 5 88 (.t 5) (.t 6), dst := some 7, k := 6 },
    { op := .mov (.t 7), dst := some 2 }]
def a38 : ACode := (.seq a38_r0 (.seq (.seq a38_r1 (.cond (.t 4) (.seq a38_r2 .ret) .skip)) (.seq a38_r3 .ret)))
def a38_res : List ARes := [.tmp 2]
theorem a38_of {args : List AV} {Q : AV → Prop} (hl : args.length ≤ 8) (h : AW Try.prog 8 a38 (mkS (argT 0 args) [] 0) (retQ a38_res Q)) : ACall Try.prog 38 args Q :=
  acall_of (fn := Try.f38) (by kernel_rfl) rfl (by kernel_rfl) (by kernel_rfl) (by kernel_rfl) hl h

/- workflow/selector.values -/
def a39_r0 : ACode := .reg [{ op := .mov (.c (.nils)), dst := some 2 }]
def a39_r1 : ACode := .reg [{ op := .mov (.t 0), dst := some 6 },
    { op := .call 45 [(.t 6)], dst := some 7, k := 2, ad := true },
    { op := .mov (.t 7), dst := some 3 }]
def a39_r2 : ACode := .reg [{ op := .mov (.t 3), dst := some 8 },
    { op := .len false (.t 8), dst := some 9 },
    { op := .mov (.c (.int .i64 0)), dst := some 10 }]
def a39_r3 : ACode := .reg [{ op := .bin .lss (.t 10) (.t 9), dst := some 11 }]
def a39_r4 : ACode := .reg [{ op := .mov (.t 10), dst := some 12 },
    { op := .iad 5 (.t 8) (.t 10), dst := some 13 },
    { op := .load 5 true (.t 13), dst := some 14 },
    { op := .alloc 5 true [.int .i64 0, .int .i64 0, .str [], .nils, .nils], dst := some 5, k := 11 },
    { op := .mov (.t 12), dst := some 4 },
    { op := .store 5 true (.t 5) (.t 14), dst := none }]
def a39_r5 : ACode := .draw [{ op := .fad 3 (.t 5), dst := some 15 },
    { op := .load 1 false (.t 15), dst := some 16 },
    { op := .call 39 [(.t 16)], dst := some 17, k := 16, ad := true },
    { op := .fad 4 (.t 5), dst := some 18 },
    { op := .load 1 false (.t 18), dst := some 19 },
    { op := .call 46 [(.t 19)], dst := some 20, k := 19, ad := true },
    { op := .fad 3 (.t 5), dst := some 21 },
    { op := .store 1 false (.t 21) (.t 17), dst := none },
    { op := .fad 4 (.t 5), dst := some 22 },
    { op := .store 1 false (.t 22) (.t 20), dst := none }]
    [(2, [4])]
    (.take 0 (.take 1 (.take 3 (.take 4 (.one 2 (.take 6 (.one 5 (.one 7 (.take 8 (.one 9 (.done)))))))))))
def a39_r6 : ACode := .reg [{ op := .mov (.t 3), dst := some 23 },
    { op := .mov (.t 4), dst := some 24 },
    { op := .load 5 true (.t 5), dst := some 25 },
    { op := .iad 5 (.t 23) (.t 24), dst := some 26 },
    { op := .store 5 true (.t 26) (.t 25), dst := none }]
def a39_r7 : ACode := .reg [{ op := .bin .add (.t 10) (.c (.int .i64 1)), dst := some 27 },
    { op := .mov (.t 27), dst := some 10 }]
def a39_l0 : ACode := (.seq a39_r3 (.seq (.cond (.t 11) .skip (.exit 0)) (.seq (.block 1 (.seq a39_r4 (.seq a39_r5 a39_r6))) a39_r7)))
def a39_r8 : ACode := .reg [{ op := .mov (.t 3), dst := some 28 },
    { op := .mov (.t 28), dst := some 2 }]
def a39 : ACode := (.seq a39_r0 (.seq a39_r1 (.seq (.seq a39_r2 (.block 0 (.loop a39_l0))) (.seq a39_r8 .ret))))
def a39_res : List ARes := [.tmp 2]
theorem a39_of {args : List AV} {Q : AV → Prop} (hl : args.length ≤ 29) (h : AW Try.prog 29 a39 (mkS (argT 0 args) [] 0) (retQ a39_res Q)) : ACall Try.prog 39 args Q :=
  acall_of (fn := Try.f39) (by kernel_rfl) rfl (by kernel_rfl) (by kernel_rfl) (by kernel_rfl) hl h

/- slices.Clone[[]workflow/api.Mark,workflow/api.Mark] -/
def a40_r0 : ACode := .reg [{ op := .mov (.c (.nils)), dst := some 2 }]
def a40_r1 : ACode := .reg [{ op := .mov (.t 0), dst := some 3 },
    { op := .eqz false (.t 3), dst := some 4 }]
def a40_r2 : ACode := .reg [{ op := .mov (.c (.nils)), dst := some 2 }]
def a40_r3 : ACode := .reg [{ op := .bsl 10 true 0 [.int .i64 0, .int .i64 0, .int .i64 0, .int .i64 0, .nils, .int .i64 0, .int .i64 0, .str [], .nils, .nils] [], dst := some 5 },
    { op := .mov (.t 0), dst := some 6 },
    { op := .app 10 136 (.t 5) (.t 6), dst := some 7, k := 6 },
    { op := .mov (.t 7), dst := some 2 }]
def a40 : ACode := (.seq a40_r0 (.seq (.seq a40_r1 (.cond (.t 4) (.seq a40_r2 .ret) .skip)) (.seq a40_r3 .ret)))
def a40_res : List ARes := [.tmp 2]
theorem a40_of {args : List AV} {Q : AV → Prop} (hl : args.length ≤ 8) (h : AW Try.prog 8 a40 (mkS (argT 0 args) [] 0) (retQ a40_res Q)) : ACall Try.prog 40 args Q :=
  acall_of (fn := Try.f40) (by kernel_rfl) rfl (by kernel_rfl) (by kernel_rfl) (by kernel_rfl) hl h

/- slices.Clone[[]workflow/api.Undo,workflow/api.Undo] -/
def a41_r0 : ACode := .reg [{ op := .mov (.c (.nils)), dst := some 2 }]
def a41_r1 : ACode := .reg [{ op := .mov (.t 0), dst := some 3 },
    { op := .eqz false (.t 3), dst := some 4 }]
def a41_r2 : ACode := .reg [{ op := .mov (.c (.nils)), dst := some 2 }]
def a41_r3 : ACode := .reg [{ op := .bsl 2 true 0 [.int .i64 0, .nils] [], dst := some 5 },
    { op := .mov (.t 0), dst := some 6 },
    { op := .app 2 32 (.t 5) (.t 6), dst := some 7, k := 6 },
    { op := .mov (.t 7), dst := some 2 }]
def a41 : ACode := (.seq a41_r0 (.seq (.seq a41_r1 (.cond (.t 4) (.seq a41_r2 .ret) .skip)) (.seq a41_r3 .ret)))
def a41_res : List ARes := [.tmp 2]
theorem a41_of {args : List AV} {Q : AV → Prop} (hl : args.length ≤ 8) (h : AW Try.prog 8 a41 (mkS (argT 0 args) [] 0) (retQ a41_res Q)) : ACall Try.prog 41 args Q :=
  acall_of (fn := Try.f41) (by kernel_rfl) rfl (by kernel_rfl) (by kernel_rfl) (by kernel_rfl) hl h

/- workflow/workflowref14.CopyFrame -/
def a42_r0 : ACode := .reg [{ op := .box 5 true (.t 0), dst := some 1, k := 0 },
    { op := .alloc 5 true [.int .i64 0, .int .i64 0, .nils, .nils, .nils], dst := some 2, k := 1 }]
def a42_r1 : ACode := .reg [{ op := .fad 0 (.t 1), dst := some 4 },
    { op := .load 1 false (.t 4), dst := some 5 },
    { op := .fad 1 (.t 1), dst := some 6 },
    { op := .load 1 false (.t 6), dst := some 7 },
    { op := .build [.int .i64 0, .int .i64 0, .nils, .nils, .nils] [(0, 1, (.t 5)), (1, 1, (.t 7))], dst := some 8 },
    { op := .alloc 5 true [.int .i64 0, .int .i64 0, .nils, .nils, .nils], dst := some 3, k := 7 },
    { op := .store 5 true (.t 3) (.t 8), dst := none }]
def a42_r2 : ACode := .reg [{ op := .fad 2 (.t 3), dst := some 9 },
    { op := .load 1 false (.t 9), dst := some 10 },
    { op := .fad 2 (.t 1), dst := some 11 },
    { op := .load 1 false (.t 11), dst := some 12 },
    { op := .app 5 80 (.t 10) (.t 12), dst := some 13, k := 13 },
    { op := .fad 2 (.t 3), dst := some 14 },
    { op := .store 1 false (.t 14) (.t 13), dst := none }]
def a42_r3 : ACode := .reg [{ op := .fad 3 (.t 3), dst := some 15 },
    { op := .load 1 false (.t 15), dst := some 16 },
    { op := .fad 3 (.t 1), dst := some 17 },
    { op := .load 1 false (.t 17), dst := some 18 },
    { op := .app 5 80 (.t 16) (.t 18), dst := some 19, k := 20 },
    { op := .fad 3 (.t 3), dst := some 20 },
    { op := .store 1 false (.t 20) (.t 19), dst := none }]
def a42_r4 : ACode := .reg [{ op := .fad 4 (.t 3), dst := some 21 },
    { op := .load 1 false (.t 21), dst := some 22 },
    { op := .fad 4 (.t 1), dst := some 23 },
    { op := .load 1 false (.t 23), dst := some 24 },
    { op := .app 10 136 (.t 22) (.t 24), dst := some 25, k := 27 },
    { op := .fad 4 (.t 3), dst := some 26 },
    { op := .store 1 false (.t 26) (.t 25), dst := none }]
def a42_r5 : ACode := .reg [{ op := .load 5 true (.t 3), dst := some 27 },
    { op := .store 5 true (.t 2) (.t 27), dst := none }]
def a42 : ACode := (.seq a42_r0 (.seq a42_r1 (.seq a42_r2 (.seq a42_r3 (.seq a42_r4 (.seq a42_r5 .ret))))))
def a42_res : List ARes := [.cell 2 5 true]
theorem a42_of {args : List AV} {Q : AV → Prop} (hl : args.length ≤ 28) (h : AW Try.prog 28 a42 (mkS (argT 0 args) [] 0) (retQ a42_res Q)) : ACall Try.prog 42 args Q :=
  acall_of (fn := Try.f42) (by kernel_rfl) rfl (by kernel_rfl) (by kernel_rfl) (by kernel_rfl) hl h

/- workflow/workflowref02.few -/
def a43_r0 : ACode := .reg [{ op := .box 5 true (.t 0), dst := some 2, k := 0 },
    { op := .mov (.c (.int .i64 0)), dst := some 4 }]
def a43_r1 : ACode := .reg [{ op := .mov (.t 1), dst := some 6 },
    { op := .bin .sub (.t 6) (.c (.int .i64 1)), dst := some 7 },
    { op := .mov (.t 7), dst := some 1 }]
def a43_r2 : ACode := .reg [{ op := .mov (.c (.int .i64 0)), dst := some 5 }]
def a43_r3 : ACode := .reg [{ op := .mov (.t 5), dst := some 8 },
    { op := .fad 3 (.t 2), dst := some 9 },
    { op := .load 1 false (.t 9), dst := some 10 },
    { op := .len false (.t 10), dst := some 11 },
    { op := .bin .lss (.t 8) (.t 11), dst := some 12 },
    { op := .mov (.t 12), dst := some 13 },
    { op := .mov (.t 1), dst := some 14, g := some (13, true) },
    { op := .bin .geq (.t 14) (.c (.int .i64 0)), dst := some 15, g := some (13, true) },
    { op := .pick (.t 13) (.t 15) (.c (.bool false)), dst := some 16 }]
def a43_r5 : ACode := .reg [{ op := .fad 3 (.t 2), dst := some 19 },
    { op := .load 1 false (.t 19), dst := some 20 },
    { op := .mov (.t 5), dst := some 21 },
    { op := .iad 5 (.t 20) (.t 21), dst := some 22 },
    { op := .load 5 true (.t 22), dst := some 23 },
    { op := .mov (.t 1), dst := some 24 },
    { op := .call 43 [(.t 23), (.t 24)], dst := some 25 },
    { op := .mov (.t 25), dst := some 1 }]
def a43_r4 : ACode := .reg [{ op := .mov (.t 5), dst := some 17 },
    { op := .bin .add (.t 17) (.c (.int .i64 1)), dst := some 18 },
    { op := .mov (.t 18), dst := some 5 }]
def a43_l0 : ACode := (.seq (.seq a43_r3 (.cond (.t 16) .skip (.exit 0))) (.seq (.block 1 a43_r5) a43_r4))
def a43_r6 : ACode := .reg [{ op := .mov (.t 1), dst := some 26 },
    { op := .mov (.t 26), dst := some 4 }]
def a43 : ACode := (.seq a43_r0 (.seq a43_r1 (.seq (.seq a43_r2 (.block 0 (.loop a43_l0))) (.seq a43_r6 .ret))))
def a43_res : List ARes := [.tmp 4]
theorem a43_of {args : List AV} {Q : AV → Prop} (hl : args.length ≤ 27) (h : AW Try.prog 27 a43 (mkS (argT 0 args) [] 0) (retQ a43_res Q)) : ACall Try.prog 43 args Q :=
  acall_of (fn := Try.f43) (by kernel_rfl) rfl (by kernel_rfl) (by kernel_rfl) (by kernel_rfl) hl h

/- workflow/workflowref02.Same -/
def a44_r0 : ACode := .reg [{ op := .box 5 true (.t 0), dst := some 2, k := 0 },
    { op := .box 5 true (.t 1), dst := some 3, k := 1 },
    { op := .mov (.c (.bool false)), dst := some 4 }]
def a44_r1 : ACode := .reg [{ op := .fad 0 (.t 2), dst := some 7 },
    { op := .load 1 false (.t 7), dst := some 8 },
    { op := .fad 0 (.t 3), dst := some 9 },
    { op := .load 1 false (.t 9), dst := some 10 },
    { op := .bin .neq (.t 8) (.t 10), dst := some 11 },
    { op := .mov (.t 11), dst := some 12 },
    { op := .fad 1 (.t 2), dst := some 13, g := some (12, false) },
    { op := .load 1 false (.t 13), dst := some 14, g := some (12, false) },
    { op := .fad 1 (.t 3), dst := some 15, g := some (12, false) },
    { op := .load 1 false (.t 15), dst := some 16, g := some (12, false) },
    { op := .bin .neq (.t 14) (.t 16), dst := some 17, g := some (12, false) },
    { op := .pick (.t 12) (.c (.bool true)) (.t 17), dst := some 18 },
    { op := .mov (.t 18), dst := some 19 },
    { op := .fad 2 (.t 2), dst := some 20, g := some (19, false) },
    { op := .load 1 false (.t 20), dst := some 21, g := some (19, false) },
    { op := .fad 2 (.t 3), dst := some 22, g := some (19, false) },
    { op := .load 1 false (.t 22), dst := some 23, g := some (19, false) },
    { op := .bin .neq (.t 21) (.t 23), dst := some 24, g := some (19, false) },
    { op := .pick (.t 19) (.c (.bool true)) (.t 24), dst := some 25 },
    { op := .mov (.t 25), dst := some 26 },
    { op := .fad 3 (.t 2), dst := some 27, g := some (26, false) },
    { op := .load 1 false (.t 27), dst := some 28, g := some (26, false) },
    { op := .len false (.t 28), dst := some 29, g := some (26, false) },
    { op := .fad 3 (.t 3), dst := some 30, g := some (26, false) },
    { op := .load 1 false (.t 30), dst := some 31, g := some (26, false) },
    { op := .len false (.t 31), dst := some 32, g := some (26, false) },
    { op := .bin .neq (.t 29) (.t 32), dst := some 33, g := some (26, false) },
    { op := .pick (.t 26) (.c (.bool true)) (.t 33), dst := some 34 },
    { op := .mov (.t 34), dst := some 35 },
    { op := .fad 4 (.t 2), dst := some 36, g := some (35, false) },
    { op := .load 1 false (.t 36), dst := some 37, g := some (35, false) },
    { op := .len false (.t 37), dst := some 38, g := some (35, false) },
    { op := .fad 4 (.t 3), dst := some 39, g := some (35, false) },
    { op := .load 1 false (.t 39), dst := some 40, g := some (35, false) },
    { op := .len false (.t 40), dst := some 41, g := some (35, false) },
    { op := .bin .neq (.t 38) (.t 41), dst := some 42, g := some (35, false) },
    { op := .pick (.t 35) (.c (.bool true)) (.t 42), dst := some 43 }]
def a44_r2 : ACode := .reg [{ op := .mov (.c (.bool false)), dst := some 4 }]
def a44_r3 : ACode := .reg [{ op := .mov (.c (.int .i64 0)), dst := some 5 }]
def a44_r4 : ACode := .reg [{ op := .mov (.t 5), dst := some 44 },
    { op := .fad 4 (.t 2), dst := some 45 },
    { op := .load 1 false (.t 45), dst := some 46 },
    { op := .len false (.t 46), dst := some 47 },
    { op := .bin .lss (.t 44) (.t 47), dst := some 48 }]
def a44_r6 : ACode := .draw [{ op := .fad 4 (.t 2), dst := some 51 },
    { op := .load 1 false (.t 51), dst := some 52 },
    { op := .mov (.t 5), dst := some 53 },
    { op := .iad 1 (.t 52) (.t 53), dst := some 54 },
    { op := .load 1 false (.t 54), dst := some 55 },
    { op := .fad 4 (.t 3), dst := some 56 },
    { op := .load 1 false (.t 56), dst := some 57 },
    { op := .mov (.t 5), dst := some 58 },
    { op := .iad 1 (.t 57) (.t 58), dst := some 59 },
    { op := .load 1 false (.t 59), dst := some 60 },
    { op := .bin .neq (.t 55) (.t 60), dst := some 61 }]
    []
    (.take 0 (.take 1 (.take 2 (.take 3 (.take 4 (.take 5 (.take 6 (.take 7 (.take 8 (.take 9 (.take 10 (.done))))))))))))
def a44_r7 : ACode := .reg [{ op := .mov (.c (.bool false)), dst := some 4 }]
def a44_r5 : ACode := .reg [{ op := .mov (.t 5), dst := some 49 },
    { op := .bin .add (.t 49) (.c (.int .i64 1)), dst := some 50 },
    { op := .mov (.t 50), dst := some 5 }]
def a44_l0 : ACode := (.seq (.seq a44_r4 (.cond (.t 48) .skip (.exit 0))) (.seq (.block 1 (.seq a44_r6 (.cond (.t 61) (.seq a44_r7 .ret) .skip))) a44_r5))
def a44_r8 : ACode := .reg [{ op := .mov (.c (.int .i64 0)), dst := some 6 }]
def a44_r9 : ACode := .reg [{ op := .mov (.t 6), dst := some 62 },
    { op := .fad 3 (.t 2), dst := some 63 },
    { op := .load 1 false (.t 63), dst := some 64 },
    { op := .len false (.t 64), dst := some 65 },
    { op := .bin .lss (.t 62) (.t 65), dst := some 66 }]
def a44_r11 : ACode := .draw [{ op := .fad 3 (.t 2), dst := some 69 },
    { op := .load 1 false (.t 69), dst := some 70 },
    { op := .mov (.t 6), dst := some 71 },
    { op := .iad 5 (.t 70) (.t 71), dst := some 72 },
    { op := .load 5 true (.t 72), dst := some 73 },
    { op := .fad 3 (.t 3), dst := some 74 },
    { op := .load 1 false (.t 74), dst := some 75 },
    { op := .mov (.t 6), dst := some 76 },
    { op := .iad 5 (.t 75) (.t 76), dst := some 77 },
    { op := .load 5 true (.t 77), dst := some 78 },
    { op := .call 44 [(.t 73), (.t 78)], dst := some 79 },
    { op := .not (.t 79), dst := some 80 }]
    []
    (.take 0 (.take 1 (.take 2 (.take 3 (.take 4 (.take 5 (.take 6 (.take 7 (.take 8 (.take 9 (.one 10 (.take 11 (.done)))))))))))))
def a44_r12 : ACode := .reg [{ op := .mov (.c (.bool false)), dst := some 4 }]
def a44_r10 : ACode := .reg [{ op := .mov (.t 6), dst := some 67 },
    { op := .bin .add (.t 67) (.c (.int .i64 1)), dst := some 68 },
    { op := .mov (.t 68), dst := some 6 }]
def a44_l1 : ACode := (.seq (.seq a44_r9 (.cond (.t 66) .skip (.exit 2))) (.seq (.block 3 (.seq a44_r11 (.cond (.t 80) (.seq a44_r12 .ret) .skip))) a44_r10))
def a44_r13 : ACode := .reg [{ op := .mov (.c (.bool true)), dst := some 4 }]
def a44 : ACode := (.seq a44_r0 (.seq (.seq a44_r1 (.cond (.t 43) (.seq a44_r2 .ret) .skip)) (.seq (.seq a44_r3 (.block 0 (.loop a44_l0))) (.seq (.seq a44_r8 (.block 2 (.loop a44_l1))) (.seq a44_r13 .ret)))))
def a44_res : List ARes := [.tmp 4]
theorem a44_of {args : List AV} {Q : AV → Prop} (hl : args.length ≤ 81) (h : AW Try.prog 81 a44 (mkS (argT 0 args) [] 0) (retQ a44_res Q)) : ACall Try.prog 44 args Q :=
  acall_of (fn := Try.f44) (by kernel_rfl) rfl (by kernel_rfl) (by kernel_rfl) (by kernel_rfl) hl h

/- slices.Clone[[]workflow/api.Value,workflow/api.Value] -/
def a45_r0 : ACode := .reg [{ op := .mov (.c (.nils)), dst := some 2 }]
def a45_r1 : ACode := .reg [{ op := .mov (.t 0), dst := some 3 },
    { op := .eqz false (.t 3), dst := some 4 }]
def a45_r2 : ACode := .reg [{ op := .mov (.c (.nils)), dst := some 2 }]
def a45_r3 : ACode := .reg [{ op := .bsl 5 true 0 [.int .i64 0, .int .i64 0, .str [], .nils, .nils] [], dst := some 5 },
    { op := .mov (.t 0), dst := some 6 },
    { op := .app 5 80 (.t 5) (.t 6), dst := some 7, k := 6 },
    { op := .mov (.t 7), dst := some 2 }]
def a45 : ACode := (.seq a45_r0 (.seq (.seq a45_r1 (.cond (.t 4) (.seq a45_r2 .ret) .skip)) (.seq a45_r3 .ret)))
def a45_res : List ARes := [.tmp 2]
theorem a45_of {args : List AV} {Q : AV → Prop} (hl : args.length ≤ 8) (h : AW Try.prog 8 a45 (mkS (argT 0 args) [] 0) (retQ a45_res Q)) : ACall Try.prog 45 args Q :=
  acall_of (fn := Try.f45) (by kernel_rfl) rfl (by kernel_rfl) (by kernel_rfl) (by kernel_rfl) hl h

/- slices.Clone[[]string,string] -/
def a46_r0 : ACode := .reg [{ op := .mov (.c (.nils)), dst := some 2 }]
def a46_r1 : ACode := .reg [{ op := .mov (.t 0), dst := some 3 },
    { op := .eqz false (.t 3), dst := some 4 }]
def a46_r2 : ACode := .reg [{ op := .mov (.c (.nils)), dst := some 2 }]
def a46_r3 : ACode := .reg [{ op := .bsl 1 false 0 [.str []] [], dst := some 5 },
    { op := .mov (.t 0), dst := some 6 },
    { op := .app 1 16 (.t 5) (.t 6), dst := some 7, k := 6 },
    { op := .mov (.t 7), dst := some 2 }]
def a46 : ACode := (.seq a46_r0 (.seq (.seq a46_r1 (.cond (.t 4) (.seq a46_r2 .ret) .skip)) (.seq a46_r3 .ret)))
def a46_res : List ARes := [.tmp 2]
theorem a46_of {args : List AV} {Q : AV → Prop} (hl : args.length ≤ 8) (h : AW Try.prog 8 a46 (mkS (argT 0 args) [] 0) (retQ a46_res Q)) : ACall Try.prog 46 args Q :=
  acall_of (fn := Try.f46) (by kernel_rfl) rfl (by kernel_rfl) (by kernel_rfl) (by kernel_rfl) hl h

/- workflow/workflowlaw17.SelectorReady -/
def a3_r0 : ACode := .reg [{ op := .mov (.c (.bool false)), dst := some 4 }]
def a3_r1 : ACode := .reg [{ op := .mov (.t 0), dst := some 9 },
    { op := .len false (.t 9), dst := some 10 },
    { op := .bin .gtr (.t 10) (.c (.int .i64 100)), dst := some 11 },
    { op := .mov (.t 11), dst := some 12 },
    { op := .mov (.t 1), dst := some 13, g := some (12, false) },
    { op := .len false (.t 13), dst := some 14, g := some (12, false) },
    { op := .bin .gtr (.t 14) (.c (.int .i64 100)), dst := some 15, g := some (12, false) },
    { op := .pick (.t 12) (.c (.bool true)) (.t 15), dst := some 16 }]
def a3_r2 : ACode := .reg [{ op := .call 7 [], dst := some 17 },
    { op := .mov (.t 17), dst := some 4 }]
def a3_r3 : ACode := .reg [{ op := .mov (.t 0), dst := some 19 },
    { op := .mov (.t 1), dst := some 20 },
    { op := .call 8 [(.t 19), (.t 20)], dst := some 21 },
    { op := .mov (.t 21), dst := some 18 },
    { op := .ext (.t 18) 0, dst := some 22 },
    { op := .ext (.t 18) 1, dst := some 23 },
    { op := .mov (.t 22), dst := some 5 },
    { op := .mov (.t 23), dst := some 6 }]
def a3_r4 : ACode := .reg [{ op := .mov (.t 0), dst := some 25 },
    { op := .mov (.t 1), dst := some 26 },
    { op := .call 9 [(.t 25), (.t 26)], dst := some 27 },
    { op := .mov (.t 27), dst := some 24 },
    { op := .ext (.t 24) 0, dst := some 28 },
    { op := .ext (.t 24) 1, dst := some 29 },
    { op := .mov (.t 28), dst := some 7 },
    { op := .mov (.t 29), dst := some 8 }]
def a3_r5 : ACode := .reg [{ op := .mov (.t 5), dst := some 30 },
    { op := .mov (.t 7), dst := some 31 },
    { op := .bin .eql (.t 30) (.t 31), dst := some 32 },
    { op := .mov (.t 32), dst := some 33 },
    { op := .mov (.t 6), dst := some 34, g := some (33, true) },
    { op := .mov (.t 8), dst := some 35, g := some (33, true) },
    { op := .eqb false (.t 34) (.t 35), dst := some 36, g := some (33, true) },
    { op := .pick (.t 33) (.t 36) (.c (.bool false)), dst := some 37 },
    { op := .mov (.t 37), dst := some 38 },
    { op := .mov (.t 0), dst := some 39, g := some (38, true) },
    { op := .mov (.t 1), dst := some 40, g := some (38, true) },
    { op := .call 10 [(.t 39), (.t 40)], dst := some 41, g := some (38, true) },
    { op := .mov (.t 0), dst := some 42, g := some (38, true) },
    { op := .mov (.t 1), dst := some 43, g := some (38, true) },
    { op := .call 11 [(.t 42), (.t 43)], dst := some 44, g := some (38, true) },
    { op := .eqb false (.t 41) (.t 44), dst := some 45, g := some (38, true) },
    { op := .pick (.t 38) (.t 45) (.c (.bool false)), dst := some 46 },
    { op := .mov (.t 46), dst := some 47 },
    { op := .call 7 [], dst := some 48, g := some (47, true) },
    { op := .pick (.t 47) (.t 48) (.c (.bool false)), dst := some 49 },
    { op := .mov (.t 49), dst := some 4 }]
def a3 : ACode := (.seq a3_r0 (.seq (.seq a3_r1 (.cond (.t 16) (.seq a3_r2 .ret) .skip)) (.seq a3_r3 (.seq a3_r4 (.seq a3_r5 .ret)))))
def a3_res : List ARes := [.tmp 4]
theorem a3_of {args : List AV} {Q : AV → Prop} (hl : args.length ≤ 50) (h : AW Try.prog 50 a3 (mkS (argT 0 args) [] 0) (retQ a3_res Q)) : ACall Try.prog 3 args Q :=
  acall_of (fn := Try.f3) (by kernel_rfl) rfl (by kernel_rfl) (by kernel_rfl) (by kernel_rfl) hl h

/- workflow/workflowlaw17.SelectorWakes -/
def a4_r0 : ACode := .reg [{ op := .mov (.c (.bool false)), dst := some 4 }]
def a4_r1 : ACode := .reg [{ op := .mov (.t 1), dst := some 5 },
    { op := .len false (.t 5), dst := some 6 },
    { op := .bin .gtr (.t 6) (.c (.int .i64 100)), dst := some 7 },
    { op := .mov (.t 7), dst := some 8 },
    { op := .mov (.t 0), dst := some 9, g := some (8, false) },
    { op := .call 12 [(.t 9)], dst := some 10, g := some (8, false) },
    { op := .not (.t 10), dst := some 11, g := some (8, false) },
    { op := .pick (.t 8) (.c (.bool true)) (.t 11), dst := some 12 }]
def a4_r2 : ACode := .reg [{ op := .call 7 [], dst := some 13 },
    { op := .mov (.t 13), dst := some 4 }]
def a4_r3 : ACode := .reg [{ op := .mov (.t 0), dst := some 14 },
    { op := .mov (.t 1), dst := some 15 },
    { op := .call 14 [(.t 14), (.t 15)], dst := some 16 },
    { op := .mov (.t 0), dst := some 17 },
    { op := .mov (.t 1), dst := some 18 },
    { op := .call 15 [(.t 17), (.t 18)], dst := some 19 },
    { op := .call 13 [(.t 16), (.t 19)], dst := some 20 },
    { op := .mov (.t 20), dst := some 21 },
    { op := .call 7 [], dst := some 22, g := some (21, true) },
    { op := .pick (.t 21) (.t 22) (.c (.bool false)), dst := some 23 },
    { op := .mov (.t 23), dst := some 4 }]
def a4 : ACode := (.seq a4_r0 (.seq (.seq a4_r1 (.cond (.t 12) (.seq a4_r2 .ret) .skip)) (.seq a4_r3 .ret)))
def a4_res : List ARes := [.tmp 4]
theorem a4_of {args : List AV} {Q : AV → Prop} (hl : args.length ≤ 24) (h : AW Try.prog 24 a4 (mkS (argT 0 args) [] 0) (retQ a4_res Q)) : ACall Try.prog 4 args Q :=
  acall_of (fn := Try.f4) (by kernel_rfl) rfl (by kernel_rfl) (by kernel_rfl) (by kernel_rfl) hl h

/- workflow/workflowlaw17.SelectorGrows -/
def a5_r0 : ACode := .reg [{ op := .mov (.c (.bool false)), dst := some 6 }]
def a5_r1 : ACode := .reg [{ op := .mov (.t 1), dst := some 16 },
    { op := .len false (.t 16), dst := some 17 },
    { op := .bin .gtr (.t 17) (.c (.int .i64 100)), dst := some 18 },
    { op := .mov (.t 18), dst := some 19 },
    { op := .mov (.t 0), dst := some 20, g := some (19, false) },
    { op := .call 12 [(.t 20)], dst := some 21, g := some (19, false) },
    { op := .not (.t 21), dst := some 22, g := some (19, false) },
    { op := .pick (.t 19) (.c (.bool true)) (.t 22), dst := some 23 }]
def a5_r2 : ACode := .reg [{ op := .call 7 [], dst := some 24 },
    { op := .mov (.t 24), dst := some 6 }]
def a5_r3 : ACode := .reg [{ op := .mov (.t 0), dst := some 25 },
    { op := .mov (.t 1), dst := some 26 },
    { op := .call 14 [(.t 25), (.t 26)], dst := some 27 },
    { op := .mov (.t 27), dst := some 7 }]
def a5_r4 : ACode := .reg [{ op := .mov (.t 7), dst := some 28 },
    { op := .len false (.t 28), dst := some 29 },
    { op := .mov (.t 0), dst := some 30 },
    { op := .len false (.t 30), dst := some 31 },
    { op := .bin .neq (.t 29) (.t 31), dst := some 32 },
    { op := .mov (.t 32), dst := some 33 },
    { op := .mov (.t 7), dst := some 34, g := some (33, false) },
    { op := .mov (.t 1), dst := some 35, g := some (33, false) },
    { op := .call 14 [(.t 34), (.t 35)], dst := some 36, g := some (33, false) },
    { op := .mov (.t 7), dst := some 37, g := some (33, false) },
    { op := .call 13 [(.t 36), (.t 37)], dst := some 38, g := some (33, false) },
    { op := .not (.t 38), dst := some 39, g := some (33, false) },
    { op := .pick (.t 33) (.c (.bool true)) (.t 39), dst := some 40 }]
def a5_r5 : ACode := .reg [{ op := .mov (.c (.bool false)), dst := some 6 }]
def a5_r6 : ACode := .reg [{ op := .mov (.c (.nils)), dst := some 8 }]
def a5_r7 : ACode := .reg [{ op := .mov (.t 0), dst := some 41 },
    { op := .len false (.t 41), dst := some 42 },
    { op := .mov (.c (.int .i64 0)), dst := some 43 }]
def a5_r8 : ACode := .reg [{ op := .bin .lss (.t 43) (.t 42), dst := some 44 }]
def a5_r9 : ACode := .reg [{ op := .mov (.t 43), dst := some 45 },
    { op := .iad 6 (.t 41) (.t 43), dst := some 46 },
    { op := .load 6 true (.t 46), dst := some 47 },
    { op := .alloc 6 true [.int .i64 0, .nils, .int .i64 0, .nils, .bool false, .str []], dst := some 10, k := 37 },
    { op := .mov (.t 45), dst := some 9 },
    { op := .store 6 true (.t 10) (.t 47), dst := none }]
def a5_r10 : ACode := .reg [{ op := .mov (.t 1), dst := some 49 },
    { op := .fad 3 (.t 10), dst := some 50 },
    { op := .load 1 false (.t 50), dst := some 51 },
    { op := .call 8 [(.t 49), (.t 51)], dst := some 52 },
    { op := .mov (.t 52), dst := some 48 },
    { op := .ext (.t 48) 0, dst := some 53 },
    { op := .ext (.t 48) 1, dst := some 54 },
    { op := .mov (.t 53), dst := some 11 },
    { op := .mov (.t 54), dst := some 12 }]
def a5_r11 : ACode := .reg [{ op := .fad 0 (.t 10), dst := some 55 },
    { op := .load 1 false (.t 55), dst := some 56 },
    { op := .bin .eql (.t 56) (.c (.int .i64 2)), dst := some 57 },
    { op := .mov (.t 57), dst := some 58 },
    { op := .mov (.t 12), dst := some 59, g := some (58, true) },
    { op := .not (.t 59), dst := some 60, g := some (58, true) },
    { op := .pick (.t 58) (.t 60) (.c (.bool false)), dst := some 61 }]
def a5_r12 : ACode := .reg [{ op := .mov (.t 8), dst := some 62 },
    { op := .mov (.t 9), dst := some 63 },
    { op := .bsl 1 false 1 [.int .i64 0] [(0, (.t 63))], dst := some 64 },
    { op := .app 1 8 (.t 62) (.t 64), dst := some 65, k := 59 },
    { op := .mov (.t 65), dst := some 8 }]
def a5_r13 : ACode := .reg [{ op := .bin .add (.t 43) (.c (.int .i64 1)), dst := some 66 },
    { op := .mov (.t 66), dst := some 43 }]
def a5_l0 : ACode := (.seq a5_r8 (.seq (.cond (.t 44) .skip (.exit 0)) (.seq (.block 1 (.seq a5_r9 (.seq a5_r10 (.seq a5_r11 (.cond (.t 61) a5_r12 .skip))))) a5_r13)))
def a5_r14 : ACode := .reg [{ op := .mov (.t 7), dst := some 67 },
    { op := .call 17 [(.t 67)], dst := some 68 },
    { op := .mov (.t 8), dst := some 69 },
    { op := .call 16 [(.t 68), (.t 69)], dst := some 70 },
    { op := .not (.t 70), dst := some 71 }]
def a5_r15 : ACode := .reg [{ op := .mov (.c (.bool false)), dst := some 6 }]
def a5_r16 : ACode := .reg [{ op := .mov (.c (.nils)), dst := some 13 }]
def a5_r17 : ACode := .reg [{ op := .mov (.t 13), dst := some 72 },
    { op := .mov (.t 1), dst := some 73 },
    { op := .app 8 104 (.t 72) (.t 73), dst := some 74, k := 72 },
    { op := .mov (.t 74), dst := some 13 }]
def a5_r18 : ACode := .reg [{ op := .mov (.t 2), dst := some 75 },
    { op := .bin .geq (.t 75) (.c (.int .i64 0)), dst := some 76 },
    { op := .mov (.t 76), dst := some 77 },
    { op := .mov (.t 2), dst := some 78, g := some (77, true) },
    { op := .mov (.t 13), dst := some 79, g := some (77, true) },
    { op := .len false (.t 79), dst := some 80, g := some (77, true) },
    { op := .bin .lss (.t 78) (.t 80), dst := some 81, g := some (77, true) },
    { op := .pick (.t 77) (.t 81) (.c (.bool false)), dst := some 82 }]
def a5_r19 : ACode := .reg [{ op := .mov (.t 13), dst := some 83 },
    { op := .mov (.t 2), dst := some 84 },
    { op := .iad 8 (.t 83) (.t 84), dst := some 85 },
    { op := .fad 0 (.t 85), dst := some 86 },
    { op := .store 1 false (.t 86) (.c (.int .i64 1)), dst := none }]
def a5_r20 : ACode := .reg [{ op := .mov (.t 0), dst := some 87 },
    { op := .mov (.t 13), dst := some 88 },
    { op := .call 14 [(.t 87), (.t 88)], dst := some 89 },
    { op := .mov (.t 89), dst := some 14 }]
def a5_r21 : ACode := .reg [{ op := .mov (.t 7), dst := some 90 },
    { op := .len false (.t 90), dst := some 91 },
    { op := .mov (.c (.int .i64 0)), dst := some 92 }]
def a5_r22 : ACode := .reg [{ op := .bin .lss (.t 92) (.t 91), dst := some 93 }]
def a5_r23 : ACode := .reg [{ op := .mov (.t 92), dst := some 94 },
    { op := .mov (.t 94), dst := some 15 }]
def a5_r24 : ACode := .reg [{ op := .mov (.t 15), dst := some 95 },
    { op := .mov (.t 14), dst := some 96 },
    { op := .len false (.t 96), dst := some 97 },
    { op := .bin .geq (.t 95) (.t 97), dst := some 98 },
    { op := .mov (.t 98), dst := some 99 },
    { op := .mov (.t 7), dst := some 100, g := some (99, false) },
    { op := .mov (.t 15), dst := some 101, g := some (99, false) },
    { op := .iad 6 (.t 100) (.t 101), dst := some 102, g := some (99, false) },
    { op := .fad 0 (.t 102), dst := some 103, g := some (99, false) },
    { op := .load 1 false (.t 103), dst := some 104, g := some (99, false) },
    { op := .bin .eql (.t 104) (.c (.int .i64 1)), dst := some 105, g := some (99, false) },
    { op := .mov (.t 105), dst := some 106, g := some (99, false) },
    { op := .mov (.t 14), dst := some 107, g := some (106, true) },
    { op := .mov (.t 15), dst := some 108, g := some (106, true) },
    { op := .iad 6 (.t 107) (.t 108), dst := some 109, g := some (106, true) },
    { op := .fad 0 (.t 109), dst := some 110, g := some (106, true) },
    { op := .load 1 false (.t 110), dst := some 111, g := some (106, true) },
    { op := .bin .neq (.t 111) (.c (.int .i64 1)), dst := some 112, g := some (106, true) },
    { op := .pick (.t 106) (.t 112) (.c (.bool false)), dst := some 113, g := some (99, false) },
    { op := .pick (.t 99) (.c (.bool true)) (.t 113), dst := some 114 }]
def a5_r25 : ACode := .reg [{ op := .mov (.c (.bool false)), dst := some 6 }]
def a5_r26 : ACode := .reg [{ op := .bin .add (.t 92) (.c (.int .i64 1)), dst := some 115 },
    { op := .mov (.t 115), dst := some 92 }]
def a5_l1 : ACode := (.seq a5_r22 (.seq (.cond (.t 93) .skip (.exit 2)) (.seq (.block 3 (.seq a5_r23 (.seq a5_r24 (.cond (.t 114) (.seq a5_r25 .ret) .skip)))) a5_r26)))
def a5_r27 : ACode := .reg [{ op := .call 7 [], dst := some 116 },
    { op := .mov (.t 116), dst := some 6 }]
def a5 : ACode := (.seq a5_r0 (.seq (.seq a5_r1 (.cond (.t 23) (.seq a5_r2 .ret) .skip)) (.seq a5_r3 (.seq (.seq a5_r4 (.cond (.t 40) (.seq a5_r5 .ret) .skip)) (.seq a5_r6 (.seq (.seq a5_r7 (.block 0 (.loop a5_l0))) (.seq (.seq a5_r14 (.cond (.t 71) (.seq a5_r15 .ret) .skip)) (.seq a5_r16 (.seq a5_r17 (.seq (.seq a5_r18 (.cond (.t 82) a5_r19 .skip)) (.seq a5_r20 (.seq (.seq a5_r21 (.block 2 (.loop a5_l1))) (.seq a5_r27 .ret)))))))))))))
def a5_res : List ARes := [.tmp 6]
theorem a5_of {args : List AV} {Q : AV → Prop} (hl : args.length ≤ 117) (h : AW Try.prog 117 a5 (mkS (argT 0 args) [] 0) (retQ a5_res Q)) : ACall Try.prog 5 args Q :=
  acall_of (fn := Try.f5) (by kernel_rfl) rfl (by kernel_rfl) (by kernel_rfl) (by kernel_rfl) hl h

/- workflow/workflowlaw17.SelectorNext -/
def a6_r0 : ACode := .reg [{ op := .mov (.c (.bool false)), dst := some 2 }]
def a6_r1 : ACode := .reg [{ op := .mov (.t 0), dst := some 7 },
    { op := .call 12 [(.t 7)], dst := some 8 },
    { op := .not (.t 8), dst := some 9 }]
def a6_r2 : ACode := .reg [{ op := .call 7 [], dst := some 10 },
    { op := .mov (.t 10), dst := some 2 }]
def a6_r3 : ACode := .reg [{ op := .mov (.t 0), dst := some 12 },
    { op := .call 18 [(.t 12)], dst := some 13 },
    { op := .mov (.t 13), dst := some 11 },
    { op := .ext (.t 11) 0, dst := some 14 },
    { op := .ext (.t 11) 1, dst := some 15 },
    { op := .mov (.t 14), dst := some 3 },
    { op := .mov (.t 15), dst := some 4 }]
def a6_r4 : ACode := .reg [{ op := .mov (.t 0), dst := some 17 },
    { op := .call 19 [(.t 17)], dst := some 18 },
    { op := .mov (.t 18), dst := some 16 },
    { op := .ext (.t 16) 0, dst := some 19 },
    { op := .ext (.t 16) 1, dst := some 20 },
    { op := .mov (.t 19), dst := some 5 },
    { op := .mov (.t 20), dst := some 6 }]
def a6_r5 : ACode := .reg [{ op := .mov (.t 3), dst := some 21 },
    { op := .mov (.t 5), dst := some 22 },
    { op := .bin .eql (.t 21) (.t 22), dst := some 23 },
    { op := .mov (.t 23), dst := some 24 },
    { op := .mov (.t 4), dst := some 25, g := some (24, true) },
    { op := .mov (.t 6), dst := some 26, g := some (24, true) },
    { op := .eqb false (.t 25) (.t 26), dst := some 27, g := some (24, true) },
    { op := .pick (.t 24) (.t 27) (.c (.bool false)), dst := some 28 },
    { op := .mov (.t 28), dst := some 29 },
    { op := .mov (.t 0), dst := some 30, g := some (29, true) },
    { op := .call 17 [(.t 30)], dst := some 31, g := some (29, true) },
    { op := .mov (.t 0), dst := some 32, g := some (29, true) },
    { op := .call 20 [(.t 32)], dst := some 33, g := some (29, true) },
    { op := .call 16 [(.t 31), (.t 33)], dst := some 34, g := some (29, true) },
    { op := .pick (.t 29) (.t 34) (.c (.bool false)), dst := some 35 },
    { op := .mov (.t 35), dst := some 36 },
    { op := .call 7 [], dst := some 37, g := some (36, true) },
    { op := .pick (.t 36) (.t 37) (.c (.bool false)), dst := some 38 },
    { op := .mov (.t 38), dst := some 2 }]
def a6 : ACode := (.seq a6_r0 (.seq (.seq a6_r1 (.cond (.t 9) (.seq a6_r2 .ret) .skip)) (.seq a6_r3 (.seq a6_r4 (.seq a6_r5 .ret)))))
def a6_res : List ARes := [.tmp 2]
theorem a6_of {args : List AV} {Q : AV → Prop} (hl : args.length ≤ 39) (h : AW Try.prog 39 a6 (mkS (argT 0 args) [] 0) (retQ a6_res Q)) : ACall Try.prog 6 args Q :=
  acall_of (fn := Try.f6) (by kernel_rfl) rfl (by kernel_rfl) (by kernel_rfl) (by kernel_rfl) hl h
end Go.Proofs.Ytnjdjahcepakgaa
