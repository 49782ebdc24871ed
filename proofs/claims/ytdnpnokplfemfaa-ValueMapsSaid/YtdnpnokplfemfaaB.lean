/- The abstract code of the functions, checked. -/
import Derived.Test.YtdnpnokplfemfaaA4
import Derived.Test.YtdnpnokplfemfaaProg
import Derived.KernelRfl

namespace Go.Proofs.Ytdnpnokplfemfaa
open Go Go.Amb

/- workflow/workflowlaw02.ValueMaps -/
def a10_r0 : ACode := .reg [{ op := .box 5 true (.t 0), dst := some 3, k := 0 },
    { op := .box 5 true (.t 2), dst := some 5, k := 1 },
    { op := .mov (.c (.bool false)), dst := some 6 }]
def a10_r1 : ACode := .reg [{ op := .load 5 true (.t 3), dst := some 19 },
    { op := .call 11 [(.t 19), (.c (.int .i64 1100))], dst := some 20 },
    { op := .not (.t 20), dst := some 21 },
    { op := .mov (.t 21), dst := some 22 },
    { op := .load 5 true (.t 5), dst := some 23, g := some (22, false) },
    { op := .call 11 [(.t 23), (.c (.int .i64 1100))], dst := some 24, g := some (22, false) },
    { op := .not (.t 24), dst := some 25, g := some (22, false) },
    { op := .pick (.t 22) (.c (.bool true)) (.t 25), dst := some 26 }]
def a10_r2 : ACode := .reg [{ op := .call 12 [], dst := some 27 },
    { op := .mov (.t 27), dst := some 6 }]
def a10_r3 : ACode := .reg [{ op := .load 5 true (.t 3), dst := some 29 },
    { op := .mov (.t 1), dst := some 30 },
    { op := .call 50 [(.t 29), (.t 30)], dst := some 31 },
    { op := .mov (.t 31), dst := some 28 },
    { op := .ext (.t 28) 0, dst := some 32 },
    { op := .ext (.t 28) 1, dst := some 33 },
    { op := .alloc 5 true [.int .i64 0, .int .i64 0, .str [], .nils, .nils], dst := some 7, k := 19 },
    { op := .store 5 true (.t 7) (.t 32), dst := none },
    { op := .mov (.t 33), dst := some 8 }]
def a10_r4 : ACode := .reg [{ op := .load 5 true (.t 3), dst := some 35 },
    { op := .mov (.t 1), dst := some 36 },
    { op := .call 51 [(.t 35), (.t 36)], dst := some 37 },
    { op := .mov (.t 37), dst := some 34 },
    { op := .ext (.t 34) 0, dst := some 38 },
    { op := .ext (.t 34) 1, dst := some 39 },
    { op := .alloc 5 true [.int .i64 0, .int .i64 0, .str [], .nils, .nils], dst := some 9, k := 28 },
    { op := .store 5 true (.t 9) (.t 38), dst := none },
    { op := .mov (.t 39), dst := some 10 }]
def a10_r5 : ACode := .reg [{ op := .load 5 true (.t 3), dst := some 41 },
    { op := .mov (.t 1), dst := some 42 },
    { op := .load 5 true (.t 5), dst := some 43 },
    { op := .call 52 [(.t 41), (.t 42), (.t 43)], dst := some 44 },
    { op := .mov (.t 44), dst := some 40 },
    { op := .ext (.t 40) 0, dst := some 45 },
    { op := .ext (.t 40) 1, dst := some 46 },
    { op := .alloc 5 true [.int .i64 0, .int .i64 0, .str [], .nils, .nils], dst := some 11, k := 38 },
    { op := .store 5 true (.t 11) (.t 45), dst := none },
    { op := .mov (.t 46), dst := some 12 }]
def a10_r6 : ACode := .reg [{ op := .load 5 true (.t 3), dst := some 48 },
    { op := .mov (.t 1), dst := some 49 },
    { op := .load 5 true (.t 5), dst := some 50 },
    { op := .call 53 [(.t 48), (.t 49), (.t 50)], dst := some 51 },
    { op := .mov (.t 51), dst := some 47 },
    { op := .ext (.t 47) 0, dst := some 52 },
    { op := .ext (.t 47) 1, dst := some 53 },
    { op := .alloc 5 true [.int .i64 0, .int .i64 0, .str [], .nils, .nils], dst := some 13, k := 48 },
    { op := .store 5 true (.t 13) (.t 52), dst := none },
    { op := .mov (.t 53), dst := some 14 }]
def a10_r7 : ACode := .reg [{ op := .load 5 true (.t 3), dst := some 55 },
    { op := .mov (.t 1), dst := some 56 },
    { op := .call 54 [(.t 55), (.t 56)], dst := some 57 },
    { op := .mov (.t 57), dst := some 54 },
    { op := .ext (.t 54) 0, dst := some 58 },
    { op := .ext (.t 54) 1, dst := some 59 },
    { op := .alloc 5 true [.int .i64 0, .int .i64 0, .str [], .nils, .nils], dst := some 15, k := 57 },
    { op := .store 5 true (.t 15) (.t 58), dst := none },
    { op := .mov (.t 59), dst := some 16 }]
def a10_r8 : ACode := .reg [{ op := .load 5 true (.t 3), dst := some 61 },
    { op := .mov (.t 1), dst := some 62 },
    { op := .call 55 [(.t 61), (.t 62)], dst := some 63 },
    { op := .mov (.t 63), dst := some 60 },
    { op := .ext (.t 60) 0, dst := some 64 },
    { op := .ext (.t 60) 1, dst := some 65 },
    { op := .alloc 5 true [.int .i64 0, .int .i64 0, .str [], .nils, .nils], dst := some 17, k := 66 },
    { op := .store 5 true (.t 17) (.t 64), dst := none },
    { op := .mov (.t 65), dst := some 18 }]
def a10_r9 : ACode := .reg [{ op := .mov (.t 8), dst := some 66 },
    { op := .mov (.t 10), dst := some 67 },
    { op := .eqb false (.t 66) (.t 67), dst := some 68 },
    { op := .mov (.t 68), dst := some 69 },
    { op := .load 5 true (.t 7), dst := some 70, g := some (69, true) },
    { op := .load 5 true (.t 9), dst := some 71, g := some (69, true) },
    { op := .call 16 [(.t 70), (.t 71)], dst := some 72, g := some (69, true) },
    { op := .pick (.t 69) (.t 72) (.c (.bool false)), dst := some 73 },
    { op := .mov (.t 73), dst := some 74 },
    { op := .mov (.t 12), dst := some 75, g := some (74, true) },
    { op := .mov (.t 14), dst := some 76, g := some (74, true) },
    { op := .bin .eql (.t 75) (.t 76), dst := some 77, g := some (74, true) },
    { op := .pick (.t 74) (.t 77) (.c (.bool false)), dst := some 78 },
    { op := .mov (.t 78), dst := some 79 },
    { op := .load 5 true (.t 11), dst := some 80, g := some (79, true) },
    { op := .load 5 true (.t 13), dst := some 81, g := some (79, true) },
    { op := .call 16 [(.t 80), (.t 81)], dst := some 82, g := some (79, true) },
    { op := .pick (.t 79) (.t 82) (.c (.bool false)), dst := some 83 },
    { op := .mov (.t 83), dst := some 84 },
    { op := .mov (.t 16), dst := some 85, g := some (84, true) },
    { op := .mov (.t 18), dst := some 86, g := some (84, true) },
    { op := .bin .eql (.t 85) (.t 86), dst := some 87, g := some (84, true) },
    { op := .pick (.t 84) (.t 87) (.c (.bool false)), dst := some 88 },
    { op := .mov (.t 88), dst := some 89 },
    { op := .load 5 true (.t 15), dst := some 90, g := some (89, true) },
    { op := .load 5 true (.t 17), dst := some 91, g := some (89, true) },
    { op := .call 16 [(.t 90), (.t 91)], dst := some 92, g := some (89, true) },
    { op := .pick (.t 89) (.t 92) (.c (.bool false)), dst := some 93 },
    { op := .mov (.t 93), dst := some 94 },
    { op := .call 12 [], dst := some 95, g := some (94, true) },
    { op := .pick (.t 94) (.t 95) (.c (.bool false)), dst := some 96 },
    { op := .mov (.t 96), dst := some 6 }]
def a10 : ACode := (.seq a10_r0 (.seq (.seq a10_r1 (.cond (.t 26) (.seq a10_r2 .ret) .skip)) (.seq a10_r3 (.seq a10_r4 (.seq a10_r5 (.seq a10_r6 (.seq a10_r7 (.seq a10_r8 (.seq a10_r9 .ret)))))))))
def a10_res : List ARes := [.tmp 6]
theorem a10_ok : Coded Try.prog 10 97 a10 a10_res := ⟨Try.f10, _, by kernel_rfl, rfl, by kernel_rfl, rfl, by kernel_rfl, by kernel_rfl⟩
theorem a10_of {args : List AV} {Q : AV → Prop} (hl : args.length ≤ 97) (h : AW Try.prog 97 a10 (mkS (argT 0 args) [] 0) (retQ a10_res Q)) : ACall Try.prog 10 args Q := acall_coded a10_ok hl h

/- workflow/workflowref02.Few -/
def a11_r0 : ACode := .reg [{ op := .box 5 true (.t 0), dst := some 2, k := 0 },
    { op := .mov (.c (.bool false)), dst := some 4 }]
def a11_r1 : ACode := .reg [{ op := .load 5 true (.t 2), dst := some 5 },
    { op := .mov (.t 1), dst := some 6 },
    { op := .call 56 [(.t 5), (.t 6)], dst := some 7 },
    { op := .bin .geq (.t 7) (.c (.int .i64 0)), dst := some 8 },
    { op := .mov (.t 8), dst := some 4 }]
def a11 : ACode := (.seq a11_r0 (.seq a11_r1 .ret))
def a11_res : List ARes := [.tmp 4]
theorem a11_ok : Coded Try.prog 11 9 a11 a11_res := ⟨Try.f11, _, by kernel_rfl, rfl, by kernel_rfl, rfl, by kernel_rfl, by kernel_rfl⟩
theorem a11_of {args : List AV} {Q : AV → Prop} (hl : args.length ≤ 9) (h : AW Try.prog 9 a11 (mkS (argT 0 args) [] 0) (retQ a11_res Q)) : ACall Try.prog 11 args Q := acall_coded a11_ok hl h

/- workflow/workflowlaw02.works -/
def a12_r0 : ACode := .reg [{ op := .mov (.c (.bool false)), dst := some 0 }]
def a12_r1 : ACode := .reg [{ op := .bsl 1 false 2 [.str []] [(0, (.c (.str [98]))), (1, (.c (.str [97])))], dst := some 9 },
    { op := .call 37 [(.c (.int .i64 1))], dst := some 10 },
    { op := .call 37 [(.c (.int .i64 2))], dst := some 11 },
    { op := .bsl 5 true 2 [.int .i64 0, .int .i64 0, .str [], .nils, .nils] [(0, (.t 10)), (1, (.t 11))], dst := some 12 },
    { op := .call 29 [(.t 9), (.t 12)], dst := some 13 },
    { op := .mov (.t 13), dst := some 8 },
    { op := .ext (.t 8) 0, dst := some 14 },
    { op := .ext (.t 8) 1, dst := some 15 },
    { op := .alloc 5 true [.int .i64 0, .int .i64 0, .str [], .nils, .nils], dst := some 1, k := 9 },
    { op := .store 5 true (.t 1) (.t 14), dst := none },
    { op := .mov (.t 15), dst := some 2 }]
def a12_r2 : ACode := .reg [{ op := .bsl 1 false 2 [.str []] [(0, (.c (.str [97]))), (1, (.c (.str [97])))], dst := some 17 },
    { op := .call 37 [(.c (.int .i64 1))], dst := some 18 },
    { op := .call 37 [(.c (.int .i64 2))], dst := some 19 },
    { op := .bsl 5 true 2 [.int .i64 0, .int .i64 0, .str [], .nils, .nils] [(0, (.t 18)), (1, (.t 19))], dst := some 20 },
    { op := .call 29 [(.t 17), (.t 20)], dst := some 21 },
    { op := .mov (.t 21), dst := some 16 },
    { op := .ext (.t 16) 0, dst := some 22 },
    { op := .ext (.t 16) 1, dst := some 23 },
    { op := .alloc 5 true [.int .i64 0, .int .i64 0, .str [], .nils, .nils], dst := some 3, k := 20 },
    { op := .store 5 true (.t 3) (.t 22), dst := none },
    { op := .mov (.t 23), dst := some 4 }]
def a12_r3 : ACode := .reg [{ op := .load 5 true (.t 1), dst := some 25 },
    { op := .call 50 [(.t 25), (.c (.str [97]))], dst := some 26 },
    { op := .mov (.t 26), dst := some 24 },
    { op := .ext (.t 24) 0, dst := some 27 },
    { op := .ext (.t 24) 1, dst := some 28 },
    { op := .alloc 5 true [.int .i64 0, .int .i64 0, .str [], .nils, .nils], dst := some 5, k := 28 },
    { op := .store 5 true (.t 5) (.t 27), dst := none },
    { op := .mov (.t 28), dst := some 6 }]
def a12_r4 : ACode := .reg [{ op := .call 37 [(.c (.int .i64 5))], dst := some 29 },
    { op := .call 33 [(.c (.str [120]))], dst := some 30 },
    { op := .bsl 5 true 2 [.int .i64 0, .int .i64 0, .str [], .nils, .nils] [(0, (.t 29)), (1, (.t 30))], dst := some 31 },
    { op := .call 31 [(.t 31)], dst := some 32 },
    { op := .call 17 [(.c (.nils)), (.t 32)], dst := some 33 },
    { op := .mov (.t 33), dst := some 7 }]
def a12_r5 : ACode := .draw [{ op := .mov (.t 2), dst := some 34 },
    { op := .bin .eql (.t 34) (.c (.int .i64 0)), dst := some 35 },
    { op := .mov (.t 35), dst := some 36 },
    { op := .mov (.t 4), dst := some 37, g := some (36, true) },
    { op := .bin .eql (.t 37) (.c (.int .i64 9)), dst := some 38, g := some (36, true) },
    { op := .pick (.t 36) (.t 38) (.c (.bool false)), dst := some 39 },
    { op := .mov (.t 39), dst := some 40 },
    { op := .mov (.t 6), dst := some 41, g := some (40, true) },
    { op := .pick (.t 40) (.t 41) (.c (.bool false)), dst := some 42 },
    { op := .mov (.t 42), dst := some 43 },
    { op := .load 5 true (.t 5), dst := some 44, g := some (43, true) },
    { op := .call 37 [(.c (.int .i64 2))], dst := some 45, g := some (43, true) },
    { op := .call 24 [(.t 44), (.t 45)], dst := some 46, g := some (43, true) },
    { op := .pick (.t 43) (.t 46) (.c (.bool false)), dst := some 47 },
    { op := .mov (.t 47), dst := some 48 },
    { op := .mov (.t 7), dst := some 49, g := some (48, true) },
    { op := .b2s (.t 49), dst := some 50, g := some (48, true) },
    { op := .bin .eql (.t 50) (.c (.str [8, 4, 4, 10, 6, 2, 120])), dst := some 51, g := some (48, true) },
    { op := .pick (.t 48) (.t 51) (.c (.bool false)), dst := some 52 },
    { op := .mov (.t 52), dst := some 53 },
    { op := .call 37 [(.c (.int .i64 9))], dst := some 54, g := some (53, true) },
    { op := .call 33 [(.c (.str []))], dst := some 55, g := some (53, true) },
    { op := .call 13 [(.t 54), (.t 55)], dst := some 56, g := some (53, true) },
    { op := .bin .eql (.t 56) (.c (.int .i64 (-1))), dst := some 57, g := some (53, true) },
    { op := .pick (.t 53) (.t 57) (.c (.bool false)), dst := some 58 },
    { op := .mov (.t 58), dst := some 0 }]
    [(11, [10])]
    (.take 0 (.take 1 (.take 2 (.take 3 (.take 4 (.take 5 (.take 6 (.take 7 (.take 8 (.take 9 (.take 10 (.one 11 (.one 12 (.take 13 (.take 14 (.take 15 (.take 16 (.take 17 (.take 18 (.take 19 (.one 20 (.one 21 (.one 22 (.take 23 (.take 24 (.take 25 (.done)))))))))))))))))))))))))))
def a12 : ACode := (.seq a12_r0 (.seq a12_r1 (.seq a12_r2 (.seq a12_r3 (.seq a12_r4 (.seq a12_r5 .ret))))))
def a12_res : List ARes := [.tmp 0]
theorem a12_ok : Coded Try.prog 12 59 a12 a12_res := ⟨Try.f12, _, by kernel_rfl, rfl, by kernel_rfl, rfl, by kernel_rfl, by kernel_rfl⟩
theorem a12_of {args : List AV} {Q : AV → Prop} (hl : args.length ≤ 59) (h : AW Try.prog 59 a12 (mkS (argT 0 args) [] 0) (retQ a12_res Q)) : ACall Try.prog 12 args Q := acall_coded a12_ok hl h

/- workflow/value.Order -/
def a13_r0 : ACode := .reg [{ op := .box 5 true (.t 0), dst := some 2, k := 0 },
    { op := .box 5 true (.t 1), dst := some 3, k := 1 },
    { op := .mov (.c (.int .i64 0)), dst := some 4 }]
def a13_r1 : ACode := .reg [{ op := .load 5 true (.t 2), dst := some 5 },
    { op := .call 57 [(.t 5), (.c (.bool true))], dst := some 6 },
    { op := .not (.t 6), dst := some 7 },
    { op := .mov (.t 7), dst := some 8 },
    { op := .load 5 true (.t 3), dst := some 9, g := some (8, false) },
    { op := .call 57 [(.t 9), (.c (.bool true))], dst := some 10, g := some (8, false) },
    { op := .not (.t 10), dst := some 11, g := some (8, false) },
    { op := .pick (.t 8) (.c (.bool true)) (.t 11), dst := some 12 }]
def a13_r2 : ACode := .reg [{ op := .mov (.c (.int .i64 0)), dst := some 4 }]
def a13_r3 : ACode := .reg [{ op := .load 5 true (.t 2), dst := some 13 },
    { op := .load 5 true (.t 3), dst := some 14 },
    { op := .call 58 [(.t 13), (.t 14)], dst := some 15 },
    { op := .mov (.t 15), dst := some 4 }]
def a13 : ACode := (.seq a13_r0 (.seq (.seq a13_r1 (.cond (.t 12) (.seq a13_r2 .ret) .skip)) (.seq a13_r3 .ret)))
def a13_res : List ARes := [.tmp 4]
theorem a13_ok : Coded Try.prog 13 16 a13 a13_res := ⟨Try.f13, _, by kernel_rfl, rfl, by kernel_rfl, rfl, by kernel_rfl, by kernel_rfl⟩
theorem a13_of {args : List AV} {Q : AV → Prop} (hl : args.length ≤ 16) (h : AW Try.prog 16 a13 (mkS (argT 0 args) [] 0) (retQ a13_res Q)) : ACall Try.prog 13 args Q := acall_coded a13_ok hl h

/- workflow/workflowref02.WellFormed -/
def a15_r0 : ACode := .reg [{ op := .box 5 true (.t 0), dst := some 1, k := 0 },
    { op := .mov (.c (.bool false)), dst := some 2 }]
def a15_r1 : ACode := .reg [{ op := .mov (.c (.int .i64 0)), dst := some 3 }]
def a15_r2 : ACode := .reg [{ op := .mov (.t 3), dst := some 4 },
    { op := .fad 3 (.t 1), dst := some 5 },
    { op := .load 1 false (.t 5), dst := some 6 },
    { op := .len false (.t 6), dst := some 7 },
    { op := .bin .lss (.t 4) (.t 7), dst := some 8 }]
def a15_r4 : ACode := .reg [{ op := .fad 3 (.t 1), dst := some 11 },
    { op := .load 1 false (.t 11), dst := some 12 },
    { op := .mov (.t 3), dst := some 13 },
    { op := .iad 5 (.t 12) (.t 13), dst := some 14 },
    { op := .load 5 true (.t 14), dst := some 15 },
    { op := .call 15 [(.t 15)], dst := some 16 },
    { op := .not (.t 16), dst := some 17 }]
def a15_r5 : ACode := .reg [{ op := .mov (.c (.bool false)), dst := some 2 }]
def a15_r3 : ACode := .reg [{ op := .mov (.t 3), dst := some 9 },
    { op := .bin .add (.t 9) (.c (.int .i64 1)), dst := some 10 },
    { op := .mov (.t 10), dst := some 3 }]
def a15_l0 : ACode := (.seq (.seq a15_r2 (.cond (.t 8) .skip (.exit 0))) (.seq (.block 1 (.seq a15_r4 (.cond (.t 17) (.seq a15_r5 .ret) .skip))) a15_r3))
def a15_r6 : ACode := .reg [{ op := .fad 0 (.t 1), dst := some 18 },
    { op := .load 1 false (.t 18), dst := some 19 }]
def a15_r7 : ACode := .reg [{ op := .bin .eql (.t 19) (.c (.int .i64 0)), dst := some 21 },
    { op := .mov (.t 21), dst := some 20 }]
def a15_r8 : ACode := .reg [{ op := .fad 1 (.t 1), dst := some 22 },
    { op := .load 1 false (.t 22), dst := some 23 },
    { op := .bin .eql (.t 23) (.c (.int .i64 0)), dst := some 24 },
    { op := .mov (.t 24), dst := some 25 },
    { op := .fad 2 (.t 1), dst := some 26, g := some (25, true) },
    { op := .load 1 false (.t 26), dst := some 27, g := some (25, true) },
    { op := .bin .eql (.t 27) (.c (.str [])), dst := some 28, g := some (25, true) },
    { op := .pick (.t 25) (.t 28) (.c (.bool false)), dst := some 29 },
    { op := .mov (.t 29), dst := some 30 },
    { op := .fad 3 (.t 1), dst := some 31, g := some (30, true) },
    { op := .load 1 false (.t 31), dst := some 32, g := some (30, true) },
    { op := .len false (.t 32), dst := some 33, g := some (30, true) },
    { op := .bin .eql (.t 33) (.c (.int .i64 0)), dst := some 34, g := some (30, true) },
    { op := .pick (.t 30) (.t 34) (.c (.bool false)), dst := some 35 },
    { op := .mov (.t 35), dst := some 36 },
    { op := .fad 4 (.t 1), dst := some 37, g := some (36, true) },
    { op := .load 1 false (.t 37), dst := some 38, g := some (36, true) },
    { op := .len false (.t 38), dst := some 39, g := some (36, true) },
    { op := .bin .eql (.t 39) (.c (.int .i64 0)), dst := some 40, g := some (36, true) },
    { op := .pick (.t 36) (.t 40) (.c (.bool false)), dst := some 41 },
    { op := .mov (.t 41), dst := some 2 }]
def a15_r9 : ACode := .reg [{ op := .bin .eql (.t 19) (.c (.int .i64 1)), dst := some 43 },
    { op := .mov (.t 43), dst := some 42 }]
def a15_r10 : ACode := .reg [{ op := .fad 1 (.t 1), dst := some 44 },
    { op := .load 1 false (.t 44), dst := some 45 },
    { op := .bin .eql (.t 45) (.c (.int .i64 0)), dst := some 46 },
    { op := .mov (.t 46), dst := some 47 },
    { op := .fad 1 (.t 1), dst := some 48, g := some (47, false) },
    { op := .load 1 false (.t 48), dst := some 49, g := some (47, false) },
    { op := .bin .eql (.t 49) (.c (.int .i64 1)), dst := some 50, g := some (47, false) },
    { op := .pick (.t 47) (.c (.bool true)) (.t 50), dst := some 51 },
    { op := .mov (.t 51), dst := some 52 },
    { op := .fad 2 (.t 1), dst := some 53, g := some (52, true) },
    { op := .load 1 false (.t 53), dst := some 54, g := some (52, true) },
    { op := .bin .eql (.t 54) (.c (.str [])), dst := some 55, g := some (52, true) },
    { op := .pick (.t 52) (.t 55) (.c (.bool false)), dst := some 56 },
    { op := .mov (.t 56), dst := some 57 },
    { op := .fad 3 (.t 1), dst := some 58, g := some (57, true) },
    { op := .load 1 false (.t 58), dst := some 59, g := some (57, true) },
    { op := .len false (.t 59), dst := some 60, g := some (57, true) },
    { op := .bin .eql (.t 60) (.c (.int .i64 0)), dst := some 61, g := some (57, true) },
    { op := .pick (.t 57) (.t 61) (.c (.bool false)), dst := some 62 },
    { op := .mov (.t 62), dst := some 63 },
    { op := .fad 4 (.t 1), dst := some 64, g := some (63, true) },
    { op := .load 1 false (.t 64), dst := some 65, g := some (63, true) },
    { op := .len false (.t 65), dst := some 66, g := some (63, true) },
    { op := .bin .eql (.t 66) (.c (.int .i64 0)), dst := some 67, g := some (63, true) },
    { op := .pick (.t 63) (.t 67) (.c (.bool false)), dst := some 68 },
    { op := .mov (.t 68), dst := some 2 }]
def a15_r11 : ACode := .reg [{ op := .bin .eql (.t 19) (.c (.int .i64 2)), dst := some 70 },
    { op := .mov (.t 70), dst := some 69 }]
def a15_r12 : ACode := .reg [{ op := .fad 2 (.t 1), dst := some 71 },
    { op := .load 1 false (.t 71), dst := some 72 },
    { op := .bin .eql (.t 72) (.c (.str [])), dst := some 73 },
    { op := .mov (.t 73), dst := some 74 },
    { op := .fad 3 (.t 1), dst := some 75, g := some (74, true) },
    { op := .load 1 false (.t 75), dst := some 76, g := some (74, true) },
    { op := .len false (.t 76), dst := some 77, g := some (74, true) },
    { op := .bin .eql (.t 77) (.c (.int .i64 0)), dst := some 78, g := some (74, true) },
    { op := .pick (.t 74) (.t 78) (.c (.bool false)), dst := some 79 },
    { op := .mov (.t 79), dst := some 80 },
    { op := .fad 4 (.t 1), dst := some 81, g := some (80, true) },
    { op := .load 1 false (.t 81), dst := some 82, g := some (80, true) },
    { op := .len false (.t 82), dst := some 83, g := some (80, true) },
    { op := .bin .eql (.t 83) (.c (.int .i64 0)), dst := some 84, g := some (80, true) },
    { op := .pick (.t 80) (.t 84) (.c (.bool false)), dst := some 85 },
    { op := .mov (.t 85), dst := some 2 }]
def a15_r13 : ACode := .reg [{ op := .bin .eql (.t 19) (.c (.int .i64 3)), dst := some 87 },
    { op := .mov (.t 87), dst := some 86 }]
def a15_r14 : ACode := .reg [{ op := .fad 1 (.t 1), dst := some 88 },
    { op := .load 1 false (.t 88), dst := some 89 },
    { op := .bin .eql (.t 89) (.c (.int .i64 0)), dst := some 90 },
    { op := .mov (.t 90), dst := some 91 },
    { op := .fad 3 (.t 1), dst := some 92, g := some (91, true) },
    { op := .load 1 false (.t 92), dst := some 93, g := some (91, true) },
    { op := .len false (.t 93), dst := some 94, g := some (91, true) },
    { op := .bin .eql (.t 94) (.c (.int .i64 0)), dst := some 95, g := some (91, true) },
    { op := .pick (.t 91) (.t 95) (.c (.bool false)), dst := some 96 },
    { op := .mov (.t 96), dst := some 97 },
    { op := .fad 4 (.t 1), dst := some 98, g := some (97, true) },
    { op := .load 1 false (.t 98), dst := some 99, g := some (97, true) },
    { op := .len false (.t 99), dst := some 100, g := some (97, true) },
    { op := .bin .eql (.t 100) (.c (.int .i64 0)), dst := some 101, g := some (97, true) },
    { op := .pick (.t 97) (.t 101) (.c (.bool false)), dst := some 102 },
    { op := .mov (.t 102), dst := some 2 }]
def a15_r15 : ACode := .reg [{ op := .bin .eql (.t 19) (.c (.int .i64 4)), dst := some 104 },
    { op := .mov (.t 104), dst := some 103 }]
def a15_r16 : ACode := .reg [{ op := .fad 1 (.t 1), dst := some 105 },
    { op := .load 1 false (.t 105), dst := some 106 },
    { op := .bin .eql (.t 106) (.c (.int .i64 0)), dst := some 107 },
    { op := .mov (.t 107), dst := some 108 },
    { op := .fad 2 (.t 1), dst := some 109, g := some (108, true) },
    { op := .load 1 false (.t 109), dst := some 110, g := some (108, true) },
    { op := .bin .eql (.t 110) (.c (.str [])), dst := some 111, g := some (108, true) },
    { op := .pick (.t 108) (.t 111) (.c (.bool false)), dst := some 112 },
    { op := .mov (.t 112), dst := some 113 },
    { op := .fad 4 (.t 1), dst := some 114, g := some (113, true) },
    { op := .load 1 false (.t 114), dst := some 115, g := some (113, true) },
    { op := .len false (.t 115), dst := some 116, g := some (113, true) },
    { op := .bin .eql (.t 116) (.c (.int .i64 0)), dst := some 117, g := some (113, true) },
    { op := .pick (.t 113) (.t 117) (.c (.bool false)), dst := some 118 },
    { op := .mov (.t 118), dst := some 2 }]
def a15_r17 : ACode := .reg [{ op := .bin .eql (.t 19) (.c (.int .i64 5)), dst := some 120 },
    { op := .mov (.t 120), dst := some 119 }]
def a15_r18 : ACode := .reg [{ op := .fad 1 (.t 1), dst := some 121 },
    { op := .load 1 false (.t 121), dst := some 122 },
    { op := .bin .eql (.t 122) (.c (.int .i64 0)), dst := some 123 },
    { op := .mov (.t 123), dst := some 124 },
    { op := .fad 2 (.t 1), dst := some 125, g := some (124, true) },
    { op := .load 1 false (.t 125), dst := some 126, g := some (124, true) },
    { op := .bin .eql (.t 126) (.c (.str [])), dst := some 127, g := some (124, true) },
    { op := .pick (.t 124) (.t 127) (.c (.bool false)), dst := some 128 },
    { op := .mov (.t 128), dst := some 129 },
    { op := .fad 4 (.t 1), dst := some 130, g := some (129, true) },
    { op := .load 1 false (.t 130), dst := some 131, g := some (129, true) },
    { op := .len false (.t 131), dst := some 132, g := some (129, true) },
    { op := .fad 3 (.t 1), dst := some 133, g := some (129, true) },
    { op := .load 1 false (.t 133), dst := some 134, g := some (129, true) },
    { op := .len false (.t 134), dst := some 135, g := some (129, true) },
    { op := .bin .eql (.t 132) (.t 135), dst := some 136, g := some (129, true) },
    { op := .pick (.t 129) (.t 136) (.c (.bool false)), dst := some 137 },
    { op := .mov (.t 137), dst := some 138 },
    { op := .fad 4 (.t 1), dst := some 139, g := some (138, true) },
    { op := .load 1 false (.t 139), dst := some 140, g := some (138, true) },
    { op := .call 60 [(.t 140)], dst := some 141, g := some (138, true) },
    { op := .pick (.t 138) (.t 141) (.c (.bool false)), dst := some 142 },
    { op := .mov (.t 142), dst := some 2 }]
def a15_r19 : ACode := .reg [{ op := .bin .eql (.t 19) (.c (.int .i64 6)), dst := some 144 },
    { op := .mov (.t 144), dst := some 143 }]
def a15_r20 : ACode := .reg [{ op := .fad 1 (.t 1), dst := some 145 },
    { op := .load 1 false (.t 145), dst := some 146 },
    { op := .bin .geq (.t 146) (.c (.int .i64 0)), dst := some 147 },
    { op := .mov (.t 147), dst := some 148 },
    { op := .fad 2 (.t 1), dst := some 149, g := some (148, true) },
    { op := .load 1 false (.t 149), dst := some 150, g := some (148, true) },
    { op := .bin .eql (.t 150) (.c (.str [])), dst := some 151, g := some (148, true) },
    { op := .pick (.t 148) (.t 151) (.c (.bool false)), dst := some 152 },
    { op := .mov (.t 152), dst := some 153 },
    { op := .fad 3 (.t 1), dst := some 154, g := some (153, true) },
    { op := .load 1 false (.t 154), dst := some 155, g := some (153, true) },
    { op := .len false (.t 155), dst := some 156, g := some (153, true) },
    { op := .bin .eql (.t 156) (.c (.int .i64 0)), dst := some 157, g := some (153, true) },
    { op := .pick (.t 153) (.t 157) (.c (.bool false)), dst := some 158 },
    { op := .mov (.t 158), dst := some 159 },
    { op := .fad 4 (.t 1), dst := some 160, g := some (159, true) },
    { op := .load 1 false (.t 160), dst := some 161, g := some (159, true) },
    { op := .len false (.t 161), dst := some 162, g := some (159, true) },
    { op := .bin .eql (.t 162) (.c (.int .i64 0)), dst := some 163, g := some (159, true) },
    { op := .pick (.t 159) (.t 163) (.c (.bool false)), dst := some 164 },
    { op := .mov (.t 164), dst := some 2 }]
def a15_r21 : ACode := .reg [{ op := .mov (.c (.bool false)), dst := some 2 }]
def a15 : ACode := (.seq a15_r0 (.seq (.seq a15_r1 (.block 0 (.loop a15_l0))) (.seq (.seq a15_r6 (.block 2 (.seq a15_r7 (.cond (.t 20) (.seq a15_r8 .ret) (.seq a15_r9 (.cond (.t 42) (.seq a15_r10 .ret) (.seq a15_r11 (.cond (.t 69) (.seq a15_r12 .ret) (.seq a15_r13 (.cond (.t 86) (.seq a15_r14 .ret) (.seq a15_r15 (.cond (.t 103) (.seq a15_r16 .ret) (.seq a15_r17 (.cond (.t 119) (.seq a15_r18 .ret) (.seq a15_r19 (.cond (.t 143) (.seq a15_r20 .ret) .skip)))))))))))))))) (.seq a15_r21 .ret))))
def a15_res : List ARes := [.tmp 2]
theorem a15_ok : Coded Try.prog 15 165 a15 a15_res := ⟨Try.f15, _, by kernel_rfl, rfl, by kernel_rfl, rfl, by kernel_rfl, by kernel_rfl⟩
theorem a15_of {args : List AV} {Q : AV → Prop} (hl : args.length ≤ 165) (h : AW Try.prog 165 a15 (mkS (argT 0 args) [] 0) (retQ a15_res Q)) : ACall Try.prog 15 args Q := acall_coded a15_ok hl h

/- workflow/workflowref02.Same -/
def a16_r0 : ACode := .reg [{ op := .box 5 true (.t 0), dst := some 2, k := 0 },
    { op := .box 5 true (.t 1), dst := some 3, k := 1 },
    { op := .mov (.c (.bool false)), dst := some 4 }]
def a16_r1 : ACode := .reg [{ op := .fad 0 (.t 2), dst := some 7 },
    { op := .load 1 false (.t 7), dst := some 8 },
    { op := .fad 0 (.t 3), dst := some 9 },
    { op := .load 1 false (.t 9), dst := some 10 },
    { op := .bin .neq (.t 8) (.t 10), dst := some 11 },
    { op := .mov (.t 11), dst := some 12 },
    { op := .fad 1 (.t 2), dst := some 13, g := some (12, false) },
    { op := .load 1 false (.t 13), dst := some 14, g := some (12, false) },
    { op := .fad 1 (.t 3), dst := some 15, g := some (12, false) },
    { op := .load 1 false (.t 15), dst := some 16, g := some (12, false) },
    { op := .bin .neq (.t 14) (.t 16), dst := some 17, g := some (12, false) },
    { op := .pick (.t 12) (.c (.bool true)) (.t 17), dst := some 18 },
    { op := .mov (.t 18), dst := some 19 },
    { op := .fad 2 (.t 2), dst := some 20, g := some (19, false) },
    { op := .load 1 false (.t 20), dst := some 21, g := some (19, false) },
    { op := .fad 2 (.t 3), dst := some 22, g := some (19, false) },
    { op := .load 1 false (.t 22), dst := some 23, g := some (19, false) },
    { op := .bin .neq (.t 21) (.t 23), dst := some 24, g := some (19, false) },
    { op := .pick (.t 19) (.c (.bool true)) (.t 24), dst := some 25 },
    { op := .mov (.t 25), dst := some 26 },
    { op := .fad 3 (.t 2), dst := some 27, g := some (26, false) },
    { op := .load 1 false (.t 27), dst := some 28, g := some (26, false) },
    { op := .len false (.t 28), dst := some 29, g := some (26, false) },
    { op := .fad 3 (.t 3), dst := some 30, g := some (26, false) },
    { op := .load 1 false (.t 30), dst := some 31, g := some (26, false) },
    { op := .len false (.t 31), dst := some 32, g := some (26, false) },
    { op := .bin .neq (.t 29) (.t 32), dst := some 33, g := some (26, false) },
    { op := .pick (.t 26) (.c (.bool true)) (.t 33), dst := some 34 },
    { op := .mov (.t 34), dst := some 35 },
    { op := .fad 4 (.t 2), dst := some 36, g := some (35, false) },
    { op := .load 1 false (.t 36), dst := some 37, g := some (35, false) },
    { op := .len false (.t 37), dst := some 38, g := some (35, false) },
    { op := .fad 4 (.t 3), dst := some 39, g := some (35, false) },
    { op := .load 1 false (.t 39), dst := some 40, g := some (35, false) },
    { op := .len false (.t 40), dst := some 41, g := some (35, false) },
    { op := .bin .neq (.t 38) (.t 41), dst := some 42, g := some (35, false) },
    { op := .pick (.t 35) (.c (.bool true)) (.t 42), dst := some 43 }]
def a16_r2 : ACode := .reg [{ op := .mov (.c (.bool false)), dst := some 4 }]
def a16_r3 : ACode := .reg [{ op := .mov (.c (.int .i64 0)), dst := some 5 }]
def a16_r4 : ACode := .reg [{ op := .mov (.t 5), dst := some 44 },
    { op := .fad 4 (.t 2), dst := some 45 },
    { op := .load 1 false (.t 45), dst := some 46 },
    { op := .len false (.t 46), dst := some 47 },
    { op := .bin .lss (.t 44) (.t 47), dst := some 48 }]
def a16_r6 : ACode := .draw [{ op := .fad 4 (.t 2), dst := some 51 },
    { op := .load 1 false (.t 51), dst := some 52 },
    { op := .mov (.t 5), dst := some 53 },
    { op := .iad 1 (.t 52) (.t 53), dst := some 54 },
    { op := .load 1 false (.t 54), dst := some 55 },
    { op := .fad 4 (.t 3), dst := some 56 },
    { op := .load 1 false (.t 56), dst := some 57 },
    { op := .mov (.t 5), dst := some 58 },
    { op := .iad 1 (.t 57) (.t 58), dst := some 59 },
    { op := .load 1 false (.t 59), dst := some 60 },
    { op := .bin .neq (.t 55) (.t 60), dst := some 61 }]
    []
    (.take 0 (.take 1 (.take 2 (.take 3 (.take 4 (.take 5 (.take 6 (.take 7 (.take 8 (.take 9 (.take 10 (.done))))))))))))
def a16_r7 : ACode := .reg [{ op := .mov (.c (.bool false)), dst := some 4 }]
def a16_r5 : ACode := .reg [{ op := .mov (.t 5), dst := some 49 },
    { op := .bin .add (.t 49) (.c (.int .i64 1)), dst := some 50 },
    { op := .mov (.t 50), dst := some 5 }]
def a16_l0 : ACode := (.seq (.seq a16_r4 (.cond (.t 48) .skip (.exit 0))) (.seq (.block 1 (.seq a16_r6 (.cond (.t 61) (.seq a16_r7 .ret) .skip))) a16_r5))
def a16_r8 : ACode := .reg [{ op := .mov (.c (.int .i64 0)), dst := some 6 }]
def a16_r9 : ACode := .reg [{ op := .mov (.t 6), dst := some 62 },
    { op := .fad 3 (.t 2), dst := some 63 },
    { op := .load 1 false (.t 63), dst := some 64 },
    { op := .len false (.t 64), dst := some 65 },
    { op := .bin .lss (.t 62) (.t 65), dst := some 66 }]
def a16_r11 : ACode := .draw [{ op := .fad 3 (.t 2), dst := some 69 },
    { op := .load 1 false (.t 69), dst := some 70 },
    { op := .mov (.t 6), dst := some 71 },
    { op := .iad 5 (.t 70) (.t 71), dst := some 72 },
    { op := .load 5 true (.t 72), dst := some 73 },
    { op := .fad 3 (.t 3), dst := some 74 },
    { op := .load 1 false (.t 74), dst := some 75 },
    { op := .mov (.t 6), dst := some 76 },
    { op := .iad 5 (.t 75) (.t 76), dst := some 77 },
    { op := .load 5 true (.t 77), dst := some 78 },
    { op := .call 16 [(.t 73), (.t 78)], dst := some 79 },
    { op := .not (.t 79), dst := some 80 }]
    []
    (.take 0 (.take 1 (.take 2 (.take 3 (.take 4 (.take 5 (.take 6 (.take 7 (.take 8 (.take 9 (.one 10 (.take 11 (.done)))))))))))))
def a16_r12 : ACode := .reg [{ op := .mov (.c (.bool false)), dst := some 4 }]
def a16_r10 : ACode := .reg [{ op := .mov (.t 6), dst := some 67 },
    { op := .bin .add (.t 67) (.c (.int .i64 1)), dst := some 68 },
    { op := .mov (.t 68), dst := some 6 }]
def a16_l1 : ACode := (.seq (.seq a16_r9 (.cond (.t 66) .skip (.exit 2))) (.seq (.block 3 (.seq a16_r11 (.cond (.t 80) (.seq a16_r12 .ret) .skip))) a16_r10))
def a16_r13 : ACode := .reg [{ op := .mov (.c (.bool true)), dst := some 4 }]
def a16 : ACode := (.seq a16_r0 (.seq (.seq a16_r1 (.cond (.t 43) (.seq a16_r2 .ret) .skip)) (.seq (.seq a16_r3 (.block 0 (.loop a16_l0))) (.seq (.seq a16_r8 (.block 2 (.loop a16_l1))) (.seq a16_r13 .ret)))))
def a16_res : List ARes := [.tmp 4]
theorem a16_ok : Coded Try.prog 16 81 a16 a16_res := ⟨Try.f16, _, by kernel_rfl, rfl, by kernel_rfl, rfl, by kernel_rfl, by kernel_rfl⟩
theorem a16_of {args : List AV} {Q : AV → Prop} (hl : args.length ≤ 81) (h : AW Try.prog 81 a16 (mkS (argT 0 args) [] 0) (retQ a16_res Q)) : ACall Try.prog 16 args Q := acall_coded a16_ok hl h

/- workflow/value.Encode -/
def a17_r0 : ACode := .reg [{ op := .box 5 true (.t 1), dst := some 3, k := 0 },
    { op := .mov (.c (.nils)), dst := some 4 }]
def a17_r1 : ACode := .reg [{ op := .mov (.t 0), dst := some 6 },
    { op := .call 61 [(.t 6)], dst := some 7 },
    { op := .mov (.t 7), dst := some 5 }]
def a17_r2 : ACode := .reg [{ op := .load 5 true (.t 3), dst := some 8 },
    { op := .call 57 [(.t 8), (.c (.bool true))], dst := some 9 },
    { op := .not (.t 9), dst := some 10 }]
def a17_r3 : ACode := .reg [{ op := .mov (.t 5), dst := some 11 },
    { op := .mov (.t 11), dst := some 4 }]
def a17_r4 : ACode := .reg [{ op := .mov (.t 5), dst := some 12 },
    { op := .load 5 true (.t 3), dst := some 13 },
    { op := .call 62 [(.t 12), (.t 13)], dst := some 14 },
    { op := .mov (.t 14), dst := some 4 }]
def a17 : ACode := (.seq a17_r0 (.seq a17_r1 (.seq (.seq a17_r2 (.cond (.t 10) (.seq a17_r3 .ret) .skip)) (.seq a17_r4 .ret))))
def a17_res : List ARes := [.tmp 4]
theorem a17_ok : Coded Try.prog 17 15 a17 a17_res := ⟨Try.f17, _, by kernel_rfl, rfl, by kernel_rfl, rfl, by kernel_rfl, by kernel_rfl⟩
theorem a17_of {args : List AV} {Q : AV → Prop} (hl : args.length ≤ 15) (h : AW Try.prog 15 a17 (mkS (argT 0 args) [] 0) (retQ a17_res Q)) : ACall Try.prog 17 args Q := acall_coded a17_ok hl h

/- workflow/value.Copy -/
def a20_r0 : ACode := .reg [{ op := .box 5 true (.t 0), dst := some 1, k := 0 },
    { op := .alloc 5 true [.int .i64 0, .int .i64 0, .str [], .nils, .nils], dst := some 2, k := 1 }]
def a20_r1 : ACode := .draw [{ op := .fad 3 (.t 1), dst := some 3 },
    { op := .load 1 false (.t 3), dst := some 4 },
    { op := .call 64 [(.t 4)], dst := some 5 },
    { op := .fad 4 (.t 1), dst := some 6 },
    { op := .load 1 false (.t 6), dst := some 7 },
    { op := .call 65 [(.t 7)], dst := some 8 },
    { op := .fad 3 (.t 1), dst := some 9 },
    { op := .store 1 false (.t 9) (.t 5), dst := none },
    { op := .fad 4 (.t 1), dst := some 10 },
    { op := .store 1 false (.t 10) (.t 8), dst := none }]
    [(2, [4])]
    (.take 0 (.take 1 (.take 3 (.take 4 (.one 2 (.take 6 (.one 5 (.one 7 (.take 8 (.one 9 (.done)))))))))))
def a20_r2 : ACode := .reg [{ op := .load 5 true (.t 1), dst := some 11 },
    { op := .store 5 true (.t 2) (.t 11), dst := none }]
def a20 : ACode := (.seq a20_r0 (.seq a20_r1 (.seq a20_r2 .ret)))
def a20_res : List ARes := [.cell 2 5 true]
theorem a20_ok : Coded Try.prog 20 12 a20 a20_res := ⟨Try.f20, _, by kernel_rfl, rfl, by kernel_rfl, rfl, by kernel_rfl, by kernel_rfl⟩
theorem a20_of {args : List AV} {Q : AV → Prop} (hl : args.length ≤ 12) (h : AW Try.prog 12 a20 (mkS (argT 0 args) [] 0) (retQ a20_res Q)) : ACall Try.prog 20 args Q := acall_coded a20_ok hl h

/- workflow/value.Same -/
def a24_r0 : ACode := .reg [{ op := .box 5 true (.t 0), dst := some 2, k := 0 },
    { op := .box 5 true (.t 1), dst := some 3, k := 1 },
    { op := .mov (.c (.bool false)), dst := some 4 }]
def a24_r1 : ACode := .reg [{ op := .fad 0 (.t 2), dst := some 5 },
    { op := .load 1 false (.t 5), dst := some 6 },
    { op := .fad 0 (.t 3), dst := some 7 },
    { op := .load 1 false (.t 7), dst := some 8 },
    { op := .bin .eql (.t 6) (.t 8), dst := some 9 },
    { op := .mov (.t 9), dst := some 10 },
    { op := .fad 1 (.t 2), dst := some 11, g := some (10, true) },
    { op := .load 1 false (.t 11), dst := some 12, g := some (10, true) },
    { op := .fad 1 (.t 3), dst := some 13, g := some (10, true) },
    { op := .load 1 false (.t 13), dst := some 14, g := some (10, true) },
    { op := .bin .eql (.t 12) (.t 14), dst := some 15, g := some (10, true) },
    { op := .pick (.t 10) (.t 15) (.c (.bool false)), dst := some 16 },
    { op := .mov (.t 16), dst := some 17 },
    { op := .fad 2 (.t 2), dst := some 18, g := some (17, true) },
    { op := .load 1 false (.t 18), dst := some 19, g := some (17, true) },
    { op := .fad 2 (.t 3), dst := some 20, g := some (17, true) },
    { op := .load 1 false (.t 20), dst := some 21, g := some (17, true) },
    { op := .bin .eql (.t 19) (.t 21), dst := some 22, g := some (17, true) },
    { op := .pick (.t 17) (.t 22) (.c (.bool false)), dst := some 23 },
    { op := .mov (.t 23), dst := some 24 },
    { op := .fad 4 (.t 2), dst := some 25, g := some (24, true) },
    { op := .load 1 false (.t 25), dst := some 26, g := some (24, true) },
    { op := .fad 4 (.t 3), dst := some 27, g := some (24, true) },
    { op := .load 1 false (.t 27), dst := some 28, g := some (24, true) },
    { op := .call 69 [(.t 26), (.t 28)], dst := some 29, g := some (24, true) },
    { op := .pick (.t 24) (.t 29) (.c (.bool false)), dst := some 30 },
    { op := .mov (.t 30), dst := some 31 },
    { op := .fad 3 (.t 2), dst := some 32, g := some (31, true) },
    { op := .load 1 false (.t 32), dst := some 33, g := some (31, true) },
    { op := .fad 3 (.t 3), dst := some 34, g := some (31, true) },
    { op := .load 1 false (.t 34), dst := some 35, g := some (31, true) },
    { op := .call 70 [(.t 33), (.t 35), (.c (.fn 24))], dst := some 36, g := some (31, true) },
    { op := .pick (.t 31) (.t 36) (.c (.bool false)), dst := some 37 },
    { op := .mov (.t 37), dst := some 4 }]
def a24 : ACode := (.seq a24_r0 (.seq a24_r1 .ret))
def a24_res : List ARes := [.tmp 4]
theorem a24_ok : Coded Try.prog 24 38 a24 a24_res := ⟨Try.f24, _, by kernel_rfl, rfl, by kernel_rfl, rfl, by kernel_rfl, by kernel_rfl⟩
theorem a24_of {args : List AV} {Q : AV → Prop} (hl : args.length ≤ 38) (h : AW Try.prog 38 a24 (mkS (argT 0 args) [] 0) (retQ a24_res Q)) : ACall Try.prog 24 args Q := acall_coded a24_ok hl h

/- workflow/value.Depth -/
def a25_r0 : ACode := .reg [{ op := .box 5 true (.t 0), dst := some 1, k := 0 },
    { op := .mov (.c (.int .i64 0)), dst := some 2 }]
def a25_r1 : ACode := .reg [{ op := .mov (.c (.int .i64 0)), dst := some 3 }]
def a25_r2 : ACode := .reg [{ op := .fad 3 (.t 1), dst := some 6 },
    { op := .load 1 false (.t 6), dst := some 7 },
    { op := .len false (.t 7), dst := some 8 },
    { op := .mov (.c (.int .i64 0)), dst := some 9 }]
def a25_r3 : ACode := .reg [{ op := .bin .lss (.t 9) (.t 8), dst := some 10 }]
def a25_r4 : ACode := .reg [{ op := .iad 5 (.t 7) (.t 9), dst := some 11 },
    { op := .load 5 true (.t 11), dst := some 12 },
    { op := .alloc 5 true [.int .i64 0, .int .i64 0, .str [], .nils, .nils], dst := some 5, k := 10 },
    { op := .store 5 true (.t 5) (.t 12), dst := none }]
def a25_r5 : ACode := .reg [{ op := .mov (.t 3), dst := some 13 },
    { op := .load 5 true (.t 5), dst := some 14 },
    { op := .call 25 [(.t 14)], dst := some 15 },
    { op := .mx [(.t 13), (.t 15)], dst := some 16 },
    { op := .mov (.t 16), dst := some 3 }]
def a25_r6 : ACode := .reg [{ op := .bin .add (.t 9) (.c (.int .i64 1)), dst := some 17 },
    { op := .mov (.t 17), dst := some 9 }]
def a25_l0 : ACode := (.seq a25_r3 (.seq (.cond (.t 10) .skip (.exit 0)) (.seq (.block 1 (.seq a25_r4 a25_r5)) a25_r6)))
def a25_r7 : ACode := .reg [{ op := .mov (.t 3), dst := some 18 },
    { op := .bin .add (.t 18) (.c (.int .i64 1)), dst := some 19 },
    { op := .mov (.t 19), dst := some 2 }]
def a25 : ACode := (.seq a25_r0 (.seq a25_r1 (.seq (.seq a25_r2 (.block 0 (.loop a25_l0))) (.seq a25_r7 .ret))))
def a25_res : List ARes := [.tmp 2]
theorem a25_ok : Coded Try.prog 25 20 a25 a25_res := ⟨Try.f25, _, by kernel_rfl, rfl, by kernel_rfl, rfl, by kernel_rfl, by kernel_rfl⟩
theorem a25_of {args : List AV} {Q : AV → Prop} (hl : args.length ≤ 20) (h : AW Try.prog 20 a25 (mkS (argT 0 args) [] 0) (retQ a25_res Q)) : ACall Try.prog 25 args Q := acall_coded a25_ok hl h

/- workflow/workflowref02.Depth -/
def a26_r0 : ACode := .reg [{ op := .box 5 true (.t 0), dst := some 1, k := 0 },
    { op := .mov (.c (.int .i64 0)), dst := some 2 }]
def a26_r1 : ACode := .reg [{ op := .mov (.c (.int .i64 0)), dst := some 3 }]
def a26_r2 : ACode := .reg [{ op := .mov (.c (.int .i64 0)), dst := some 4 }]
def a26_r3 : ACode := .reg [{ op := .mov (.t 4), dst := some 6 },
    { op := .fad 3 (.t 1), dst := some 7 },
    { op := .load 1 false (.t 7), dst := some 8 },
    { op := .len false (.t 8), dst := some 9 },
    { op := .bin .lss (.t 6) (.t 9), dst := some 10 }]
def a26_r5 : ACode := .reg [{ op := .fad 3 (.t 1), dst := some 13 },
    { op := .load 1 false (.t 13), dst := some 14 },
    { op := .mov (.t 4), dst := some 15 },
    { op := .iad 5 (.t 14) (.t 15), dst := some 16 },
    { op := .load 5 true (.t 16), dst := some 17 },
    { op := .call 26 [(.t 17)], dst := some 18 },
    { op := .mov (.t 18), dst := some 5 }]
def a26_r6 : ACode := .reg [{ op := .mov (.t 5), dst := some 19 },
    { op := .mov (.t 3), dst := some 20 },
    { op := .bin .gtr (.t 19) (.t 20), dst := some 21 }]
def a26_r7 : ACode := .reg [{ op := .mov (.t 5), dst := some 22 },
    { op := .mov (.t 22), dst := some 3 }]
def a26_r4 : ACode := .reg [{ op := .mov (.t 4), dst := some 11 },
    { op := .bin .add (.t 11) (.c (.int .i64 1)), dst := some 12 },
    { op := .mov (.t 12), dst := some 4 }]
def a26_l0 : ACode := (.seq (.seq a26_r3 (.cond (.t 10) .skip (.exit 0))) (.seq (.block 1 (.seq a26_r5 (.seq a26_r6 (.cond (.t 21) a26_r7 .skip)))) a26_r4))
def a26_r8 : ACode := .reg [{ op := .mov (.t 3), dst := some 23 },
    { op := .bin .add (.t 23) (.c (.int .i64 1)), dst := some 24 },
    { op := .mov (.t 24), dst := some 2 }]
def a26 : ACode := (.seq a26_r0 (.seq a26_r1 (.seq (.seq a26_r2 (.block 0 (.loop a26_l0))) (.seq a26_r8 .ret))))
def a26_res : List ARes := [.tmp 2]
theorem a26_ok : Coded Try.prog 26 25 a26 a26_res := ⟨Try.f26, _, by kernel_rfl, rfl, by kernel_rfl, rfl, by kernel_rfl, by kernel_rfl⟩
theorem a26_of {args : List AV} {Q : AV → Prop} (hl : args.length ≤ 25) (h : AW Try.prog 25 a26 (mkS (argT 0 args) [] 0) (retQ a26_res Q)) : ACall Try.prog 26 args Q := acall_coded a26_ok hl h

/- workflow/value.Size -/
def a27_r0 : ACode := .reg [{ op := .box 5 true (.t 0), dst := some 1, k := 0 },
    { op := .mov (.c (.int .i64 0)), dst := some 2 }]
def a27_r1 : ACode := .reg [{ op := .mov (.c (.int .i64 1)), dst := some 3 }]
def a27_r2 : ACode := .reg [{ op := .fad 3 (.t 1), dst := some 6 },
    { op := .load 1 false (.t 6), dst := some 7 },
    { op := .len false (.t 7), dst := some 8 },
    { op := .mov (.c (.int .i64 0)), dst := some 9 }]
def a27_r3 : ACode := .reg [{ op := .bin .lss (.t 9) (.t 8), dst := some 10 }]
def a27_r4 : ACode := .reg [{ op := .iad 5 (.t 7) (.t 9), dst := some 11 },
    { op := .load 5 true (.t 11), dst := some 12 },
    { op := .alloc 5 true [.int .i64 0, .int .i64 0, .str [], .nils, .nils], dst := some 5, k := 10 },
    { op := .store 5 true (.t 5) (.t 12), dst := none }]
def a27_r5 : ACode := .reg [{ op := .mov (.t 3), dst := some 13 },
    { op := .load 5 true (.t 5), dst := some 14 },
    { op := .call 27 [(.t 14)], dst := some 15 },
    { op := .bin .add (.t 13) (.t 15), dst := some 16 },
    { op := .mov (.t 16), dst := some 3 }]
def a27_r6 : ACode := .reg [{ op := .bin .add (.t 9) (.c (.int .i64 1)), dst := some 17 },
    { op := .mov (.t 17), dst := some 9 }]
def a27_l0 : ACode := (.seq a27_r3 (.seq (.cond (.t 10) .skip (.exit 0)) (.seq (.block 1 (.seq a27_r4 a27_r5)) a27_r6)))
def a27_r7 : ACode := .reg [{ op := .mov (.t 3), dst := some 18 },
    { op := .mov (.t 18), dst := some 2 }]
def a27 : ACode := (.seq a27_r0 (.seq a27_r1 (.seq (.seq a27_r2 (.block 0 (.loop a27_l0))) (.seq a27_r7 .ret))))
def a27_res : List ARes := [.tmp 2]
theorem a27_ok : Coded Try.prog 27 19 a27 a27_res := ⟨Try.f27, _, by kernel_rfl, rfl, by kernel_rfl, rfl, by kernel_rfl, by kernel_rfl⟩
theorem a27_of {args : List AV} {Q : AV → Prop} (hl : args.length ≤ 19) (h : AW Try.prog 19 a27 (mkS (argT 0 args) [] 0) (retQ a27_res Q)) : ACall Try.prog 27 args Q := acall_coded a27_ok hl h

/- workflow/workflowref02.Size -/
def a28_r0 : ACode := .reg [{ op := .box 5 true (.t 0), dst := some 1, k := 0 },
    { op := .mov (.c (.int .i64 0)), dst := some 2 }]
def a28_r1 : ACode := .reg [{ op := .mov (.c (.int .i64 1)), dst := some 3 }]
def a28_r2 : ACode := .reg [{ op := .mov (.c (.int .i64 0)), dst := some 4 }]
def a28_r3 : ACode := .reg [{ op := .mov (.t 4), dst := some 5 },
    { op := .fad 3 (.t 1), dst := some 6 },
    { op := .load 1 false (.t 6), dst := some 7 },
    { op := .len false (.t 7), dst := some 8 },
    { op := .bin .lss (.t 5) (.t 8), dst := some 9 }]
def a28_r5 : ACode := .reg [{ op := .mov (.t 3), dst := some 12 },
    { op := .fad 3 (.t 1), dst := some 13 },
    { op := .load 1 false (.t 13), dst := some 14 },
    { op := .mov (.t 4), dst := some 15 },
    { op := .iad 5 (.t 14) (.t 15), dst := some 16 },
    { op := .load 5 true (.t 16), dst := some 17 },
    { op := .call 28 [(.t 17)], dst := some 18 },
    { op := .bin .add (.t 12) (.t 18), dst := some 19 },
    { op := .mov (.t 19), dst := some 3 }]
def a28_r4 : ACode := .reg [{ op := .mov (.t 4), dst := some 10 },
    { op := .bin .add (.t 10) (.c (.int .i64 1)), dst := some 11 },
    { op := .mov (.t 11), dst := some 4 }]
def a28_l0 : ACode := (.seq (.seq a28_r3 (.cond (.t 9) .skip (.exit 0))) (.seq (.block 1 a28_r5) a28_r4))
def a28_r6 : ACode := .reg [{ op := .mov (.t 3), dst := some 20 },
    { op := .mov (.t 20), dst := some 2 }]
def a28 : ACode := (.seq a28_r0 (.seq a28_r1 (.seq (.seq a28_r2 (.block 0 (.loop a28_l0))) (.seq a28_r6 .ret))))
def a28_res : List ARes := [.tmp 2]
theorem a28_ok : Coded Try.prog 28 21 a28 a28_res := ⟨Try.f28, _, by kernel_rfl, rfl, by kernel_rfl, rfl, by kernel_rfl, by kernel_rfl⟩
theorem a28_of {args : List AV} {Q : AV → Prop} (hl : args.length ≤ 21) (h : AW Try.prog 21 a28 (mkS (argT 0 args) [] 0) (retQ a28_res Q)) : ACall Try.prog 28 args Q := acall_coded a28_ok hl h

/- workflow/value.Map -/
def a29_r0 : ACode := .reg [{ op := .box 1 false (.t 0), dst := some 2, k := 0 },
    { op := .alloc 5 true [.int .i64 0, .int .i64 0, .str [], .nils, .nils], dst := some 4, k := 1 },
    { op := .mov (.c (.int .i64 0)), dst := some 5 }]
def a29_r1 : ACode := .reg [{ op := .load 1 false (.t 2), dst := some 11 },
    { op := .len false (.t 11), dst := some 12 },
    { op := .mov (.t 1), dst := some 13 },
    { op := .len false (.t 13), dst := some 14 },
    { op := .bin .neq (.t 12) (.t 14), dst := some 15 }]
def a29_r2 : ACode := .reg [{ op := .build [.int .i64 0, .int .i64 0, .str [], .nils, .nils] [], dst := some 16 },
    { op := .store 5 true (.t 4) (.t 16), dst := none },
    { op := .mov (.c (.int .i64 6)), dst := some 5 }]
def a29_r3 : ACode := .reg [{ op := .load 1 false (.t 2), dst := some 17 },
    { op := .len false (.t 17), dst := some 18 },
    { op := .mks 1 8 false [.int .i64 0] (.t 18), dst := some 19, k := 13 },
    { op := .mov (.t 19), dst := some 6 }]
def a29_r4 : ACode := .reg [{ op := .mov (.t 6), dst := some 20 },
    { op := .len false (.t 20), dst := some 21 },
    { op := .mov (.c (.int .i64 0)), dst := some 22 }]
def a29_r5 : ACode := .reg [{ op := .bin .lss (.t 22) (.t 21), dst := some 23 }]
def a29_r6 : ACode := .reg [{ op := .mov (.t 22), dst := some 24 },
    { op := .mov (.t 24), dst := some 7 }]
def a29_r7 : ACode := .reg [{ op := .mov (.t 6), dst := some 25 },
    { op := .mov (.t 7), dst := some 26 },
    { op := .mov (.t 7), dst := some 27 },
    { op := .iad 1 (.t 25) (.t 26), dst := some 28 },
    { op := .store 1 false (.t 28) (.t 27), dst := none }]
def a29_r8 : ACode := .reg [{ op := .bin .add (.t 22) (.c (.int .i64 1)), dst := some 29 },
    { op := .mov (.t 29), dst := some 22 }]
def a29_l0 : ACode := (.seq a29_r5 (.seq (.cond (.t 23) .skip (.exit 0)) (.seq (.block 1 (.seq a29_r6 a29_r7)) a29_r8)))
def a29_r9 : ACode := .reg [{ op := .mov (.t 6), dst := some 30 },
    { op := .mkf 72 [(.t 2)], dst := some 31 },
    { op := .call 71 [(.t 30), (.t 31)], dst := some 32 }]
def a29_r10 : ACode := .reg [{ op := .build [.int .i64 0, .int .i64 0, .str [], .nils, .nils] [(0, 1, (.c (.int .i64 5)))], dst := some 33 },
    { op := .alloc 5 true [.int .i64 0, .int .i64 0, .str [], .nils, .nils], dst := some 8, k := 32 },
    { op := .store 5 true (.t 8) (.t 33), dst := none }]
def a29_r11 : ACode := .reg [{ op := .mov (.t 6), dst := some 34 },
    { op := .len false (.t 34), dst := some 35 },
    { op := .mov (.c (.int .i64 0)), dst := some 36 }]
def a29_r12 : ACode := .reg [{ op := .bin .lss (.t 36) (.t 35), dst := some 37 }]
def a29_r13 : ACode := .reg [{ op := .mov (.t 36), dst := some 38 },
    { op := .iad 1 (.t 34) (.t 36), dst := some 39 },
    { op := .load 1 false (.t 39), dst := some 40 },
    { op := .mov (.t 38), dst := some 9 },
    { op := .mov (.t 40), dst := some 10 }]
def a29_r14 : ACode := .draw [{ op := .mov (.t 9), dst := some 41 },
    { op := .bin .gtr (.t 41) (.c (.int .i64 0)), dst := some 42 },
    { op := .mov (.t 42), dst := some 43 },
    { op := .load 1 false (.t 2), dst := some 44, g := some (43, true) },
    { op := .mov (.t 6), dst := some 45, g := some (43, true) },
    { op := .mov (.t 9), dst := some 46, g := some (43, true) },
    { op := .bin .sub (.t 46) (.c (.int .i64 1)), dst := some 47, g := some (43, true) },
    { op := .iad 1 (.t 45) (.t 47), dst := some 48, g := some (43, true) },
    { op := .load 1 false (.t 48), dst := some 49, g := some (43, true) },
    { op := .iad 1 (.t 44) (.t 49), dst := some 50, g := some (43, true) },
    { op := .load 1 false (.t 50), dst := some 51, g := some (43, true) },
    { op := .load 1 false (.t 2), dst := some 52, g := some (43, true) },
    { op := .mov (.t 10), dst := some 53, g := some (43, true) },
    { op := .iad 1 (.t 52) (.t 53), dst := some 54, g := some (43, true) },
    { op := .load 1 false (.t 54), dst := some 55, g := some (43, true) },
    { op := .bin .eql (.t 51) (.t 55), dst := some 56, g := some (43, true) },
    { op := .pick (.t 43) (.t 56) (.c (.bool false)), dst := some 57 }]
    []
    (.take 0 (.take 1 (.take 2 (.take 3 (.take 4 (.take 5 (.take 6 (.take 7 (.take 8 (.take 9 (.take 10 (.take 11 (.take 12 (.take 13 (.take 14 (.take 15 (.take 16 (.done))))))))))))))))))
def a29_r15 : ACode := .reg [{ op := .build [.int .i64 0, .int .i64 0, .str [], .nils, .nils] [], dst := some 58 },
    { op := .store 5 true (.t 4) (.t 58), dst := none },
    { op := .mov (.c (.int .i64 9)), dst := some 5 }]
def a29_r16 : ACode := .draw [{ op := .fad 4 (.t 8), dst := some 59 },
    { op := .load 1 false (.t 59), dst := some 60 },
    { op := .load 1 false (.t 2), dst := some 61 },
    { op := .mov (.t 10), dst := some 62 },
    { op := .iad 1 (.t 61) (.t 62), dst := some 63 },
    { op := .load 1 false (.t 63), dst := some 64 },
    { op := .bsl 1 false 1 [.str []] [(0, (.t 64))], dst := some 65 },
    { op := .app 1 16 (.t 60) (.t 65), dst := some 66, k := 70 },
    { op := .fad 4 (.t 8), dst := some 67 },
    { op := .store 1 false (.t 67) (.t 66), dst := none }]
    []
    (.take 0 (.take 1 (.take 2 (.take 3 (.take 4 (.take 5 (.take 6 (.one 7 (.take 8 (.one 9 (.done)))))))))))
def a29_r17 : ACode := .draw [{ op := .fad 3 (.t 8), dst := some 68 },
    { op := .load 1 false (.t 68), dst := some 69 },
    { op := .mov (.t 1), dst := some 70 },
    { op := .mov (.t 10), dst := some 71 },
    { op := .iad 5 (.t 70) (.t 71), dst := some 72 },
    { op := .load 5 true (.t 72), dst := some 73 },
    { op := .call 20 [(.t 73)], dst := some 74 },
    { op := .bsl 5 true 1 [.int .i64 0, .int .i64 0, .str [], .nils, .nils] [(0, (.t 74))], dst := some 75 },
    { op := .app 5 80 (.t 69) (.t 75), dst := some 76, k := 81 },
    { op := .fad 3 (.t 8), dst := some 77 },
    { op := .store 1 false (.t 77) (.t 76), dst := none }]
    [(6, [1])]
    (.take 0 (.take 1 (.take 2 (.take 3 (.take 4 (.take 5 (.one 6 (.take 7 (.one 8 (.take 9 (.one 10 (.done))))))))))))
def a29_r18 : ACode := .reg [{ op := .bin .add (.t 36) (.c (.int .i64 1)), dst := some 78 },
    { op := .mov (.t 78), dst := some 36 }]
def a29_l1 : ACode := (.seq a29_r12 (.seq (.cond (.t 37) .skip (.exit 2)) (.seq (.block 3 (.seq a29_r13 (.seq (.seq a29_r14 (.cond (.t 57) (.seq a29_r15 .ret) .skip)) (.seq a29_r16 a29_r17)))) a29_r18)))
def a29_r19 : ACode := .reg [{ op := .load 5 true (.t 8), dst := some 79 },
    { op := .call 66 [(.t 79)], dst := some 80 },
    { op := .not (.t 80), dst := some 81 }]
def a29_r20 : ACode := .reg [{ op := .build [.int .i64 0, .int .i64 0, .str [], .nils, .nils] [], dst := some 82 },
    { op := .store 5 true (.t 4) (.t 82), dst := none },
    { op := .mov (.c (.int .i64 6)), dst := some 5 }]
def a29_r21 : ACode := .reg [{ op := .load 5 true (.t 8), dst := some 83 },
    { op := .store 5 true (.t 4) (.t 83), dst := none },
    { op := .mov (.c (.int .i64 0)), dst := some 5 }]
def a29 : ACode := (.seq a29_r0 (.seq (.seq a29_r1 (.cond (.t 15) (.seq a29_r2 .ret) .skip)) (.seq a29_r3 (.seq (.seq a29_r4 (.block 0 (.loop a29_l0))) (.seq a29_r9 (.seq a29_r10 (.seq (.seq a29_r11 (.block 2 (.loop a29_l1))) (.seq (.seq a29_r19 (.cond (.t 81) (.seq a29_r20 .ret) .skip)) (.seq a29_r21 .ret)))))))))
def a29_res : List ARes := [.cell 4 5 true, .tmp 5]
theorem a29_ok : Coded Try.prog 29 84 a29 a29_res := ⟨Try.f29, _, by kernel_rfl, rfl, by kernel_rfl, rfl, by kernel_rfl, by kernel_rfl⟩
theorem a29_of {args : List AV} {Q : AV → Prop} (hl : args.length ≤ 84) (h : AW Try.prog 84 a29 (mkS (argT 0 args) [] 0) (retQ a29_res Q)) : ACall Try.prog 29 args Q := acall_coded a29_ok hl h

/- workflow/value.List -/
def a31_r0 : ACode := .reg [{ op := .alloc 5 true [.int .i64 0, .int .i64 0, .str [], .nils, .nils], dst := some 2, k := 0 }]
def a31_r1 : ACode := .reg [{ op := .mov (.t 0), dst := some 3 },
    { op := .call 64 [(.t 3)], dst := some 4 },
    { op := .build [.int .i64 0, .int .i64 0, .str [], .nils, .nils] [(0, 1, (.c (.int .i64 4))), (3, 1, (.t 4))], dst := some 5 },
    { op := .store 5 true (.t 2) (.t 5), dst := none }]
def a31 : ACode := (.seq a31_r0 (.seq a31_r1 .ret))
def a31_res : List ARes := [.cell 2 5 true]
theorem a31_ok : Coded Try.prog 31 6 a31 a31_res := ⟨Try.f31, _, by kernel_rfl, rfl, by kernel_rfl, rfl, by kernel_rfl, by kernel_rfl⟩
theorem a31_of {args : List AV} {Q : AV → Prop} (hl : args.length ≤ 6) (h : AW Try.prog 6 a31 (mkS (argT 0 args) [] 0) (retQ a31_res Q)) : ACall Try.prog 31 args Q := acall_coded a31_ok hl h

/- workflow/value.Text -/
def a33_r0 : ACode := .reg [{ op := .alloc 5 true [.int .i64 0, .int .i64 0, .str [], .nils, .nils], dst := some 2, k := 0 }]
def a33_r1 : ACode := .reg [{ op := .mov (.t 0), dst := some 3 },
    { op := .build [.int .i64 0, .int .i64 0, .str [], .nils, .nils] [(0, 1, (.c (.int .i64 3))), (2, 1, (.t 3))], dst := some 4 },
    { op := .store 5 true (.t 2) (.t 4), dst := none }]
def a33 : ACode := (.seq a33_r0 (.seq a33_r1 .ret))
def a33_res : List ARes := [.cell 2 5 true]
theorem a33_ok : Coded Try.prog 33 5 a33 a33_res := ⟨Try.f33, _, by kernel_rfl, rfl, by kernel_rfl, rfl, by kernel_rfl, by kernel_rfl⟩
theorem a33_of {args : List AV} {Q : AV → Prop} (hl : args.length ≤ 5) (h : AW Try.prog 5 a33 (mkS (argT 0 args) [] 0) (retQ a33_res Q)) : ACall Try.prog 33 args Q := acall_coded a33_ok hl h

/- workflow/value.Int -/
def a37_r0 : ACode := .reg [{ op := .alloc 5 true [.int .i64 0, .int .i64 0, .str [], .nils, .nils], dst := some 2, k := 0 }]
def a37_r1 : ACode := .reg [{ op := .mov (.t 0), dst := some 3 },
    { op := .build [.int .i64 0, .int .i64 0, .str [], .nils, .nils] [(0, 1, (.c (.int .i64 2))), (1, 1, (.t 3))], dst := some 4 },
    { op := .store 5 true (.t 2) (.t 4), dst := none }]
def a37 : ACode := (.seq a37_r0 (.seq a37_r1 .ret))
def a37_res : List ARes := [.cell 2 5 true]
theorem a37_ok : Coded Try.prog 37 5 a37 a37_res := ⟨Try.f37, _, by kernel_rfl, rfl, by kernel_rfl, rfl, by kernel_rfl, by kernel_rfl⟩
theorem a37_of {args : List AV} {Q : AV → Prop} (hl : args.length ≤ 5) (h : AW Try.prog 5 a37 (mkS (argT 0 args) [] 0) (retQ a37_res Q)) : ACall Try.prog 37 args Q := acall_coded a37_ok hl h

/- workflow/value.Get -/
def a50_r0 : ACode := .reg [{ op := .box 5 true (.t 0), dst := some 2, k := 0 },
    { op := .alloc 5 true [.int .i64 0, .int .i64 0, .str [], .nils, .nils], dst := some 4, k := 1 },
    { op := .mov (.c (.bool false)), dst := some 5 }]
def a50_r1 : ACode := .reg [{ op := .load 5 true (.t 2), dst := some 10 },
    { op := .mov (.t 1), dst := some 11 },
    { op := .call 81 [(.t 10), (.t 11)], dst := some 12 },
    { op := .mov (.t 12), dst := some 9 },
    { op := .ext (.t 9) 0, dst := some 13 },
    { op := .ext (.t 9) 1, dst := some 14 },
    { op := .ext (.t 9) 2, dst := some 15 },
    { op := .mov (.t 13), dst := some 6 },
    { op := .mov (.t 14), dst := some 7 },
    { op := .mov (.t 15), dst := some 8 }]
def a50_r2 : ACode := .reg [{ op := .mov (.t 7), dst := some 16 },
    { op := .not (.t 16), dst := some 17 }]
def a50_r3 : ACode := .reg [{ op := .build [.int .i64 0, .int .i64 0, .str [], .nils, .nils] [], dst := some 18 },
    { op := .store 5 true (.t 4) (.t 18), dst := none },
    { op := .mov (.c (.bool false)), dst := some 5 }]
def a50_r4 : ACode := .reg [{ op := .fad 3 (.t 2), dst := some 19 },
    { op := .load 1 false (.t 19), dst := some 20 },
    { op := .mov (.t 6), dst := some 21 },
    { op := .iad 5 (.t 20) (.t 21), dst := some 22 },
    { op := .load 5 true (.t 22), dst := some 23 },
    { op := .call 20 [(.t 23)], dst := some 24 },
    { op := .store 5 true (.t 4) (.t 24), dst := none },
    { op := .mov (.c (.bool true)), dst := some 5 }]
def a50 : ACode := (.seq a50_r0 (.seq a50_r1 (.seq (.seq a50_r2 (.cond (.t 17) (.seq a50_r3 .ret) .skip)) (.seq a50_r4 .ret))))
def a50_res : List ARes := [.cell 4 5 true, .tmp 5]
theorem a50_ok : Coded Try.prog 50 25 a50 a50_res := ⟨Try.f50, _, by kernel_rfl, rfl, by kernel_rfl, rfl, by kernel_rfl, by kernel_rfl⟩
theorem a50_of {args : List AV} {Q : AV → Prop} (hl : args.length ≤ 25) (h : AW Try.prog 25 a50 (mkS (argT 0 args) [] 0) (retQ a50_res Q)) : ACall Try.prog 50 args Q := acall_coded a50_ok hl h

/- workflow/workflowref02.Get -/
def a51_r0 : ACode := .reg [{ op := .box 5 true (.t 0), dst := some 2, k := 0 },
    { op := .alloc 5 true [.int .i64 0, .int .i64 0, .str [], .nils, .nils], dst := some 4, k := 1 },
    { op := .mov (.c (.bool false)), dst := some 5 }]
def a51_r1 : ACode := .reg [{ op := .fad 0 (.t 2), dst := some 6 },
    { op := .load 1 false (.t 6), dst := some 7 },
    { op := .bin .neq (.t 7) (.c (.int .i64 5)), dst := some 8 },
    { op := .mov (.t 8), dst := some 9 },
    { op := .load 5 true (.t 2), dst := some 10, g := some (9, false) },
    { op := .call 15 [(.t 10)], dst := some 11, g := some (9, false) },
    { op := .not (.t 11), dst := some 12, g := some (9, false) },
    { op := .pick (.t 9) (.c (.bool true)) (.t 12), dst := some 13 }]
def a51_r2 : ACode := .reg [{ op := .build [.int .i64 0, .int .i64 0, .str [], .nils, .nils] [], dst := some 14 },
    { op := .store 5 true (.t 4) (.t 14), dst := none },
    { op := .mov (.c (.bool false)), dst := some 5 }]
def a51_r3 : ACode := .reg [{ op := .load 5 true (.t 2), dst := some 15 },
    { op := .mov (.t 1), dst := some 16 },
    { op := .call 74 [(.t 15), (.t 16)], dst := some 17 },
    { op := .ext (.t 17) 0, dst := some 18 },
    { op := .ext (.t 17) 1, dst := some 19 },
    { op := .store 5 true (.t 4) (.t 18), dst := none },
    { op := .mov (.t 19), dst := some 5 }]
def a51 : ACode := (.seq a51_r0 (.seq (.seq a51_r1 (.cond (.t 13) (.seq a51_r2 .ret) .skip)) (.seq a51_r3 .ret)))
def a51_res : List ARes := [.cell 4 5 true, .tmp 5]
theorem a51_ok : Coded Try.prog 51 20 a51 a51_res := ⟨Try.f51, _, by kernel_rfl, rfl, by kernel_rfl, rfl, by kernel_rfl, by kernel_rfl⟩
theorem a51_of {args : List AV} {Q : AV → Prop} (hl : args.length ≤ 20) (h : AW Try.prog 20 a51 (mkS (argT 0 args) [] 0) (retQ a51_res Q)) : ACall Try.prog 51 args Q := acall_coded a51_ok hl h

/- workflow/value.Put -/
def a52_r0 : ACode := .reg [{ op := .box 5 true (.t 0), dst := some 3, k := 0 },
    { op := .box 5 true (.t 2), dst := some 5, k := 1 },
    { op := .alloc 5 true [.int .i64 0, .int .i64 0, .str [], .nils, .nils], dst := some 6, k := 2 },
    { op := .mov (.c (.int .i64 0)), dst := some 7 }]
def a52_r1 : ACode := .reg [{ op := .load 5 true (.t 3), dst := some 13 },
    { op := .mov (.t 1), dst := some 14 },
    { op := .call 81 [(.t 13), (.t 14)], dst := some 15 },
    { op := .mov (.t 15), dst := some 12 },
    { op := .ext (.t 12) 0, dst := some 16 },
    { op := .ext (.t 12) 1, dst := some 17 },
    { op := .ext (.t 12) 2, dst := some 18 },
    { op := .mov (.t 16), dst := some 8 },
    { op := .mov (.t 17), dst := some 9 },
    { op := .mov (.t 18), dst := some 10 }]
def a52_r2 : ACode := .reg [{ op := .mov (.t 10), dst := some 19 },
    { op := .not (.t 19), dst := some 20 }]
def a52_r3 : ACode := .reg [{ op := .build [.int .i64 0, .int .i64 0, .str [], .nils, .nils] [], dst := some 21 },
    { op := .store 5 true (.t 6) (.t 21), dst := none },
    { op := .mov (.c (.int .i64 12)), dst := some 7 }]
def a52_r4 : ACode := .reg [{ op := .load 5 true (.t 3), dst := some 22 },
    { op := .call 20 [(.t 22)], dst := some 23 },
    { op := .alloc 5 true [.int .i64 0, .int .i64 0, .str [], .nils, .nils], dst := some 11, k := 21 },
    { op := .store 5 true (.t 11) (.t 23), dst := none }]
def a52_r5 : ACode := .reg [{ op := .mov (.t 9), dst := some 24 }]
def a52_r6 : ACode := .draw [{ op := .fad 3 (.t 11), dst := some 25 },
    { op := .load 1 false (.t 25), dst := some 26 },
    { op := .mov (.t 8), dst := some 27 },
    { op := .load 5 true (.t 5), dst := some 28 },
    { op := .call 20 [(.t 28)], dst := some 29 },
    { op := .iad 5 (.t 26) (.t 27), dst := some 30 },
    { op := .store 5 true (.t 30) (.t 29), dst := none }]
    [(4, [1])]
    (.take 0 (.take 1 (.take 2 (.take 3 (.one 4 (.take 5 (.one 6 (.done))))))))
def a52_r7 : ACode := .reg [{ op := .fad 4 (.t 11), dst := some 31 },
    { op := .load 1 false (.t 31), dst := some 32 },
    { op := .mov (.t 8), dst := some 33 },
    { op := .mov (.t 1), dst := some 34 },
    { op := .bsl 1 false 1 [.str []] [(0, (.t 34))], dst := some 35 },
    { op := .call 82 [(.t 32), (.t 33), (.t 35)], dst := some 36 },
    { op := .fad 4 (.t 11), dst := some 37 },
    { op := .store 1 false (.t 37) (.t 36), dst := none }]
def a52_r8 : ACode := .draw [{ op := .fad 3 (.t 11), dst := some 38 },
    { op := .load 1 false (.t 38), dst := some 39 },
    { op := .mov (.t 8), dst := some 40 },
    { op := .load 5 true (.t 5), dst := some 41 },
    { op := .call 20 [(.t 41)], dst := some 42 },
    { op := .bsl 5 true 1 [.int .i64 0, .int .i64 0, .str [], .nils, .nils] [(0, (.t 42))], dst := some 43 },
    { op := .call 83 [(.t 39), (.t 40), (.t 43)], dst := some 44 },
    { op := .fad 3 (.t 11), dst := some 45 },
    { op := .store 1 false (.t 45) (.t 44), dst := none }]
    [(4, [1])]
    (.take 0 (.take 1 (.take 2 (.take 3 (.one 4 (.take 5 (.one 6 (.take 7 (.one 8 (.done))))))))))
def a52_r9 : ACode := .reg [{ op := .load 5 true (.t 11), dst := some 46 },
    { op := .call 66 [(.t 46)], dst := some 47 },
    { op := .not (.t 47), dst := some 48 }]
def a52_r10 : ACode := .reg [{ op := .build [.int .i64 0, .int .i64 0, .str [], .nils, .nils] [], dst := some 49 },
    { op := .store 5 true (.t 6) (.t 49), dst := none },
    { op := .mov (.c (.int .i64 6)), dst := some 7 }]
def a52_r11 : ACode := .reg [{ op := .load 5 true (.t 11), dst := some 50 },
    { op := .store 5 true (.t 6) (.t 50), dst := none },
    { op := .mov (.c (.int .i64 0)), dst := some 7 }]
def a52 : ACode := (.seq a52_r0 (.seq a52_r1 (.seq (.seq a52_r2 (.cond (.t 20) (.seq a52_r3 .ret) .skip)) (.seq a52_r4 (.seq (.seq a52_r5 (.cond (.t 24) a52_r6 (.seq a52_r7 a52_r8))) (.seq (.seq a52_r9 (.cond (.t 48) (.seq a52_r10 .ret) .skip)) (.seq a52_r11 .ret)))))))
def a52_res : List ARes := [.cell 6 5 true, .tmp 7]
theorem a52_ok : Coded Try.prog 52 51 a52 a52_res := ⟨Try.f52, _, by kernel_rfl, rfl, by kernel_rfl, rfl, by kernel_rfl, by kernel_rfl⟩
theorem a52_of {args : List AV} {Q : AV → Prop} (hl : args.length ≤ 51) (h : AW Try.prog 51 a52 (mkS (argT 0 args) [] 0) (retQ a52_res Q)) : ACall Try.prog 52 args Q := acall_coded a52_ok hl h

/- workflow/workflowref02.Put -/
def a53_r0 : ACode := .reg [{ op := .box 5 true (.t 0), dst := some 3, k := 0 },
    { op := .box 5 true (.t 2), dst := some 5, k := 1 },
    { op := .alloc 5 true [.int .i64 0, .int .i64 0, .str [], .nils, .nils], dst := some 6, k := 2 },
    { op := .mov (.c (.int .i64 0)), dst := some 7 }]
def a53_r1 : ACode := .reg [{ op := .fad 0 (.t 3), dst := some 9 },
    { op := .load 1 false (.t 9), dst := some 10 },
    { op := .bin .neq (.t 10) (.c (.int .i64 5)), dst := some 11 },
    { op := .mov (.t 11), dst := some 12 },
    { op := .load 5 true (.t 3), dst := some 13, g := some (12, false) },
    { op := .call 15 [(.t 13)], dst := some 14, g := some (12, false) },
    { op := .not (.t 14), dst := some 15, g := some (12, false) },
    { op := .pick (.t 12) (.c (.bool true)) (.t 15), dst := some 16 }]
def a53_r2 : ACode := .reg [{ op := .build [.int .i64 0, .int .i64 0, .str [], .nils, .nils] [], dst := some 17 },
    { op := .store 5 true (.t 6) (.t 17), dst := none },
    { op := .mov (.c (.int .i64 12)), dst := some 7 }]
def a53_r3 : ACode := .reg [{ op := .load 5 true (.t 3), dst := some 18 },
    { op := .mov (.t 1), dst := some 19 },
    { op := .load 5 true (.t 5), dst := some 20 },
    { op := .call 75 [(.t 18), (.t 19), (.t 20)], dst := some 21 },
    { op := .alloc 5 true [.int .i64 0, .int .i64 0, .str [], .nils, .nils], dst := some 8, k := 19 },
    { op := .store 5 true (.t 8) (.t 21), dst := none }]
def a53_r4 : ACode := .reg [{ op := .load 5 true (.t 8), dst := some 22 },
    { op := .call 67 [(.t 22)], dst := some 23 },
    { op := .not (.t 23), dst := some 24 }]
def a53_r5 : ACode := .reg [{ op := .build [.int .i64 0, .int .i64 0, .str [], .nils, .nils] [], dst := some 25 },
    { op := .store 5 true (.t 6) (.t 25), dst := none },
    { op := .mov (.c (.int .i64 6)), dst := some 7 }]
def a53_r6 : ACode := .reg [{ op := .load 5 true (.t 8), dst := some 26 },
    { op := .store 5 true (.t 6) (.t 26), dst := none },
    { op := .mov (.c (.int .i64 0)), dst := some 7 }]
def a53 : ACode := (.seq a53_r0 (.seq (.seq a53_r1 (.cond (.t 16) (.seq a53_r2 .ret) .skip)) (.seq a53_r3 (.seq (.seq a53_r4 (.cond (.t 24) (.seq a53_r5 .ret) .skip)) (.seq a53_r6 .ret)))))
def a53_res : List ARes := [.cell 6 5 true, .tmp 7]
theorem a53_ok : Coded Try.prog 53 27 a53 a53_res := ⟨Try.f53, _, by kernel_rfl, rfl, by kernel_rfl, rfl, by kernel_rfl, by kernel_rfl⟩
theorem a53_of {args : List AV} {Q : AV → Prop} (hl : args.length ≤ 27) (h : AW Try.prog 27 a53 (mkS (argT 0 args) [] 0) (retQ a53_res Q)) : ACall Try.prog 53 args Q := acall_coded a53_ok hl h

/- workflow/value.Drop -/
def a54_r0 : ACode := .reg [{ op := .box 5 true (.t 0), dst := some 2, k := 0 },
    { op := .alloc 5 true [.int .i64 0, .int .i64 0, .str [], .nils, .nils], dst := some 4, k := 1 },
    { op := .mov (.c (.int .i64 0)), dst := some 5 }]
def a54_r1 : ACode := .reg [{ op := .load 5 true (.t 2), dst := some 11 },
    { op := .mov (.t 1), dst := some 12 },
    { op := .call 81 [(.t 11), (.t 12)], dst := some 13 },
    { op := .mov (.t 13), dst := some 10 },
    { op := .ext (.t 10) 0, dst := some 14 },
    { op := .ext (.t 10) 1, dst := some 15 },
    { op := .ext (.t 10) 2, dst := some 16 },
    { op := .mov (.t 14), dst := some 6 },
    { op := .mov (.t 15), dst := some 7 },
    { op := .mov (.t 16), dst := some 8 }]
def a54_r2 : ACode := .reg [{ op := .mov (.t 8), dst := some 17 },
    { op := .not (.t 17), dst := some 18 }]
def a54_r3 : ACode := .reg [{ op := .build [.int .i64 0, .int .i64 0, .str [], .nils, .nils] [], dst := some 19 },
    { op := .store 5 true (.t 4) (.t 19), dst := none },
    { op := .mov (.c (.int .i64 12)), dst := some 5 }]
def a54_r4 : ACode := .reg [{ op := .mov (.t 7), dst := some 20 },
    { op := .not (.t 20), dst := some 21 }]
def a54_r5 : ACode := .reg [{ op := .build [.int .i64 0, .int .i64 0, .str [], .nils, .nils] [], dst := some 22 },
    { op := .store 5 true (.t 4) (.t 22), dst := none },
    { op := .mov (.c (.int .i64 15)), dst := some 5 }]
def a54_r6 : ACode := .reg [{ op := .load 5 true (.t 2), dst := some 23 },
    { op := .call 20 [(.t 23)], dst := some 24 },
    { op := .alloc 5 true [.int .i64 0, .int .i64 0, .str [], .nils, .nils], dst := some 9, k := 25 },
    { op := .store 5 true (.t 9) (.t 24), dst := none }]
def a54_r7 : ACode := .reg [{ op := .fad 4 (.t 9), dst := some 25 },
    { op := .load 1 false (.t 25), dst := some 26 },
    { op := .mov (.t 6), dst := some 27 },
    { op := .mov (.t 6), dst := some 28 },
    { op := .bin .add (.t 28) (.c (.int .i64 1)), dst := some 29 },
    { op := .call 84 [(.t 26), (.t 27), (.t 29)], dst := some 30 },
    { op := .fad 4 (.t 9), dst := some 31 },
    { op := .store 1 false (.t 31) (.t 30), dst := none }]
def a54_r8 : ACode := .reg [{ op := .fad 3 (.t 9), dst := some 32 },
    { op := .load 1 false (.t 32), dst := some 33 },
    { op := .mov (.t 6), dst := some 34 },
    { op := .mov (.t 6), dst := some 35 },
    { op := .bin .add (.t 35) (.c (.int .i64 1)), dst := some 36 },
    { op := .call 85 [(.t 33), (.t 34), (.t 36)], dst := some 37 },
    { op := .fad 3 (.t 9), dst := some 38 },
    { op := .store 1 false (.t 38) (.t 37), dst := none }]
def a54_r9 : ACode := .reg [{ op := .load 5 true (.t 9), dst := some 39 },
    { op := .store 5 true (.t 4) (.t 39), dst := none },
    { op := .mov (.c (.int .i64 0)), dst := some 5 }]
def a54 : ACode := (.seq a54_r0 (.seq a54_r1 (.seq (.seq a54_r2 (.cond (.t 18) (.seq a54_r3 .ret) .skip)) (.seq (.seq a54_r4 (.cond (.t 21) (.seq a54_r5 .ret) .skip)) (.seq a54_r6 (.seq a54_r7 (.seq a54_r8 (.seq a54_r9 .ret))))))))
def a54_res : List ARes := [.cell 4 5 true, .tmp 5]
theorem a54_ok : Coded Try.prog 54 40 a54 a54_res := ⟨Try.f54, _, by kernel_rfl, rfl, by kernel_rfl, rfl, by kernel_rfl, by kernel_rfl⟩
theorem a54_of {args : List AV} {Q : AV → Prop} (hl : args.length ≤ 40) (h : AW Try.prog 40 a54 (mkS (argT 0 args) [] 0) (retQ a54_res Q)) : ACall Try.prog 54 args Q := acall_coded a54_ok hl h

/- workflow/workflowref02.Drop -/
def a55_r0 : ACode := .reg [{ op := .box 5 true (.t 0), dst := some 2, k := 0 },
    { op := .alloc 5 true [.int .i64 0, .int .i64 0, .str [], .nils, .nils], dst := some 4, k := 1 },
    { op := .mov (.c (.int .i64 0)), dst := some 5 }]
def a55_r1 : ACode := .reg [{ op := .fad 0 (.t 2), dst := some 8 },
    { op := .load 1 false (.t 8), dst := some 9 },
    { op := .bin .neq (.t 9) (.c (.int .i64 5)), dst := some 10 },
    { op := .mov (.t 10), dst := some 11 },
    { op := .load 5 true (.t 2), dst := some 12, g := some (11, false) },
    { op := .call 15 [(.t 12)], dst := some 13, g := some (11, false) },
    { op := .not (.t 13), dst := some 14, g := some (11, false) },
    { op := .pick (.t 11) (.c (.bool true)) (.t 14), dst := some 15 }]
def a55_r2 : ACode := .reg [{ op := .build [.int .i64 0, .int .i64 0, .str [], .nils, .nils] [], dst := some 16 },
    { op := .store 5 true (.t 4) (.t 16), dst := none },
    { op := .mov (.c (.int .i64 12)), dst := some 5 }]
def a55_r3 : ACode := .reg [{ op := .build [.int .i64 0, .int .i64 0, .str [], .nils, .nils] [(0, 1, (.c (.int .i64 5)))], dst := some 17 },
    { op := .alloc 5 true [.int .i64 0, .int .i64 0, .str [], .nils, .nils], dst := some 6, k := 15 },
    { op := .store 5 true (.t 6) (.t 17), dst := none }]
def a55_r4 : ACode := .reg [{ op := .mov (.c (.int .i64 0)), dst := some 7 }]
def a55_r5 : ACode := .reg [{ op := .mov (.t 7), dst := some 18 },
    { op := .fad 4 (.t 2), dst := some 19 },
    { op := .load 1 false (.t 19), dst := some 20 },
    { op := .len false (.t 20), dst := some 21 },
    { op := .bin .lss (.t 18) (.t 21), dst := some 22 }]
def a55_r7 : ACode := .reg [{ op := .fad 4 (.t 2), dst := some 25 },
    { op := .load 1 false (.t 25), dst := some 26 },
    { op := .mov (.t 7), dst := some 27 },
    { op := .iad 1 (.t 26) (.t 27), dst := some 28 },
    { op := .load 1 false (.t 28), dst := some 29 },
    { op := .mov (.t 1), dst := some 30 },
    { op := .bin .neq (.t 29) (.t 30), dst := some 31 }]
def a55_r8 : ACode := .draw [{ op := .fad 4 (.t 6), dst := some 32 },
    { op := .load 1 false (.t 32), dst := some 33 },
    { op := .fad 4 (.t 2), dst := some 34 },
    { op := .load 1 false (.t 34), dst := some 35 },
    { op := .mov (.t 7), dst := some 36 },
    { op := .iad 1 (.t 35) (.t 36), dst := some 37 },
    { op := .load 1 false (.t 37), dst := some 38 },
    { op := .bsl 1 false 1 [.str []] [(0, (.t 38))], dst := some 39 },
    { op := .app 1 16 (.t 33) (.t 39), dst := some 40, k := 38 },
    { op := .fad 4 (.t 6), dst := some 41 },
    { op := .store 1 false (.t 41) (.t 40), dst := none }]
    []
    (.take 0 (.take 1 (.take 2 (.take 3 (.take 4 (.take 5 (.take 6 (.take 7 (.one 8 (.take 9 (.one 10 (.done))))))))))))
def a55_r9 : ACode := .draw [{ op := .fad 3 (.t 6), dst := some 42 },
    { op := .load 1 false (.t 42), dst := some 43 },
    { op := .fad 3 (.t 2), dst := some 44 },
    { op := .load 1 false (.t 44), dst := some 45 },
    { op := .mov (.t 7), dst := some 46 },
    { op := .iad 5 (.t 45) (.t 46), dst := some 47 },
    { op := .load 5 true (.t 47), dst := some 48 },
    { op := .bsl 5 true 1 [.int .i64 0, .int .i64 0, .str [], .nils, .nils] [(0, (.t 48))], dst := some 49 },
    { op := .app 5 80 (.t 43) (.t 49), dst := some 50, k := 49 },
    { op := .fad 3 (.t 6), dst := some 51 },
    { op := .store 1 false (.t 51) (.t 50), dst := none }]
    []
    (.take 0 (.take 1 (.take 2 (.take 3 (.take 4 (.take 5 (.take 6 (.take 7 (.one 8 (.take 9 (.one 10 (.done))))))))))))
def a55_r6 : ACode := .reg [{ op := .mov (.t 7), dst := some 23 },
    { op := .bin .add (.t 23) (.c (.int .i64 1)), dst := some 24 },
    { op := .mov (.t 24), dst := some 7 }]
def a55_l0 : ACode := (.seq (.seq a55_r5 (.cond (.t 22) .skip (.exit 0))) (.seq (.block 1 (.seq a55_r7 (.cond (.t 31) (.seq a55_r8 a55_r9) .skip))) a55_r6))
def a55_r10 : ACode := .reg [{ op := .fad 4 (.t 6), dst := some 52 },
    { op := .load 1 false (.t 52), dst := some 53 },
    { op := .len false (.t 53), dst := some 54 },
    { op := .fad 4 (.t 2), dst := some 55 },
    { op := .load 1 false (.t 55), dst := some 56 },
    { op := .len false (.t 56), dst := some 57 },
    { op := .bin .eql (.t 54) (.t 57), dst := some 58 }]
def a55_r11 : ACode := .reg [{ op := .build [.int .i64 0, .int .i64 0, .str [], .nils, .nils] [], dst := some 59 },
    { op := .store 5 true (.t 4) (.t 59), dst := none },
    { op := .mov (.c (.int .i64 15)), dst := some 5 }]
def a55_r12 : ACode := .reg [{ op := .load 5 true (.t 6), dst := some 60 },
    { op := .store 5 true (.t 4) (.t 60), dst := none },
    { op := .mov (.c (.int .i64 0)), dst := some 5 }]
def a55 : ACode := (.seq a55_r0 (.seq (.seq a55_r1 (.cond (.t 15) (.seq a55_r2 .ret) .skip)) (.seq a55_r3 (.seq (.seq a55_r4 (.block 0 (.loop a55_l0))) (.seq (.seq a55_r10 (.cond (.t 58) (.seq a55_r11 .ret) .skip)) (.seq a55_r12 .ret))))))
def a55_res : List ARes := [.cell 4 5 true, .tmp 5]
theorem a55_ok : Coded Try.prog 55 61 a55 a55_res := ⟨Try.f55, _, by kernel_rfl, rfl, by kernel_rfl, rfl, by kernel_rfl, by kernel_rfl⟩
theorem a55_of {args : List AV} {Q : AV → Prop} (hl : args.length ≤ 61) (h : AW Try.prog 61 a55 (mkS (argT 0 args) [] 0) (retQ a55_res Q)) : ACall Try.prog 55 args Q := acall_coded a55_ok hl h

/- workflow/workflowref02.few -/
def a56_r0 : ACode := .reg [{ op := .box 5 true (.t 0), dst := some 2, k := 0 },
    { op := .mov (.c (.int .i64 0)), dst := some 4 }]
def a56_r1 : ACode := .reg [{ op := .mov (.t 1), dst := some 6 },
    { op := .bin .sub (.t 6) (.c (.int .i64 1)), dst := some 7 },
    { op := .mov (.t 7), dst := some 1 }]
def a56_r2 : ACode := .reg [{ op := .mov (.c (.int .i64 0)), dst := some 5 }]
def a56_r3 : ACode := .reg [{ op := .mov (.t 5), dst := some 8 },
    { op := .fad 3 (.t 2), dst := some 9 },
    { op := .load 1 false (.t 9), dst := some 10 },
    { op := .len false (.t 10), dst := some 11 },
    { op := .bin .lss (.t 8) (.t 11), dst := some 12 },
    { op := .mov (.t 12), dst := some 13 },
    { op := .mov (.t 1), dst := some 14, g := some (13, true) },
    { op := .bin .geq (.t 14) (.c (.int .i64 0)), dst := some 15, g := some (13, true) },
    { op := .pick (.t 13) (.t 15) (.c (.bool false)), dst := some 16 }]
def a56_r5 : ACode := .reg [{ op := .fad 3 (.t 2), dst := some 19 },
    { op := .load 1 false (.t 19), dst := some 20 },
    { op := .mov (.t 5), dst := some 21 },
    { op := .iad 5 (.t 20) (.t 21), dst := some 22 },
    { op := .load 5 true (.t 22), dst := some 23 },
    { op := .mov (.t 1), dst := some 24 },
    { op := .call 56 [(.t 23), (.t 24)], dst := some 25 },
    { op := .mov (.t 25), dst := some 1 }]
def a56_r4 : ACode := .reg [{ op := .mov (.t 5), dst := some 17 },
    { op := .bin .add (.t 17) (.c (.int .i64 1)), dst := some 18 },
    { op := .mov (.t 18), dst := some 5 }]
def a56_l0 : ACode := (.seq (.seq a56_r3 (.cond (.t 16) .skip (.exit 0))) (.seq (.block 1 a56_r5) a56_r4))
def a56_r6 : ACode := .reg [{ op := .mov (.t 1), dst := some 26 },
    { op := .mov (.t 26), dst := some 4 }]
def a56 : ACode := (.seq a56_r0 (.seq a56_r1 (.seq (.seq a56_r2 (.block 0 (.loop a56_l0))) (.seq a56_r6 .ret))))
def a56_res : List ARes := [.tmp 4]
theorem a56_ok : Coded Try.prog 56 27 a56 a56_res := ⟨Try.f56, _, by kernel_rfl, rfl, by kernel_rfl, rfl, by kernel_rfl, by kernel_rfl⟩
theorem a56_of {args : List AV} {Q : AV → Prop} (hl : args.length ≤ 27) (h : AW Try.prog 27 a56 (mkS (argT 0 args) [] 0) (retQ a56_res Q)) : ACall Try.prog 56 args Q := acall_coded a56_ok hl h

/- workflow/value.formed -/
def a57_r0 : ACode := .reg [{ op := .box 5 true (.t 0), dst := some 2, k := 0 },
    { op := .box 1 false (.t 1), dst := some 3, k := 1 },
    { op := .mov (.c (.bool false)), dst := some 4 }]
def a57_r1 : ACode := .reg [{ op := .fad 1 (.t 2), dst := some 9 },
    { op := .load 1 false (.t 9), dst := some 10 },
    { op := .bin .neq (.t 10) (.c (.int .i64 0)), dst := some 11 },
    { op := .mov (.t 11), dst := some 5 }]
def a57_r2 : ACode := .reg [{ op := .fad 2 (.t 2), dst := some 12 },
    { op := .load 1 false (.t 12), dst := some 13 },
    { op := .bin .neq (.t 13) (.c (.str [])), dst := some 14 },
    { op := .mov (.t 14), dst := some 6 }]
def a57_r3 : ACode := .reg [{ op := .fad 3 (.t 2), dst := some 15 },
    { op := .load 1 false (.t 15), dst := some 16 },
    { op := .len false (.t 16), dst := some 17 },
    { op := .bin .gtr (.t 17) (.c (.int .i64 0)), dst := some 18 },
    { op := .mov (.t 18), dst := some 7 }]
def a57_r4 : ACode := .reg [{ op := .fad 4 (.t 2), dst := some 19 },
    { op := .load 1 false (.t 19), dst := some 20 },
    { op := .len false (.t 20), dst := some 21 },
    { op := .bin .gtr (.t 21) (.c (.int .i64 0)), dst := some 22 },
    { op := .mov (.t 22), dst := some 8 }]
def a57_r5 : ACode := .reg [{ op := .fad 0 (.t 2), dst := some 23 },
    { op := .load 1 false (.t 23), dst := some 24 }]
def a57_r7 : ACode := .reg [{ op := .bin .eql (.t 24) (.c (.int .i64 0)), dst := some 26 },
    { op := .mov (.t 26), dst := some 25 }]
def a57_r8 : ACode := .reg [{ op := .mov (.t 5), dst := some 27 },
    { op := .not (.t 27), dst := some 28 },
    { op := .mov (.t 28), dst := some 29 },
    { op := .mov (.t 6), dst := some 30, g := some (29, true) },
    { op := .not (.t 30), dst := some 31, g := some (29, true) },
    { op := .pick (.t 29) (.t 31) (.c (.bool false)), dst := some 32 },
    { op := .mov (.t 32), dst := some 33 },
    { op := .mov (.t 7), dst := some 34, g := some (33, true) },
    { op := .not (.t 34), dst := some 35, g := some (33, true) },
    { op := .pick (.t 33) (.t 35) (.c (.bool false)), dst := some 36 },
    { op := .mov (.t 36), dst := some 37 },
    { op := .mov (.t 8), dst := some 38, g := some (37, true) },
    { op := .not (.t 38), dst := some 39, g := some (37, true) },
    { op := .pick (.t 37) (.t 39) (.c (.bool false)), dst := some 40 },
    { op := .mov (.t 40), dst := some 4 }]
def a57_r9 : ACode := .reg [{ op := .bin .eql (.t 24) (.c (.int .i64 1)), dst := some 42 },
    { op := .mov (.t 42), dst := some 41 }]
def a57_r10 : ACode := .reg [{ op := .fad 1 (.t 2), dst := some 43 },
    { op := .load 1 false (.t 43), dst := some 44 },
    { op := .bin .eql (.t 44) (.c (.int .i64 0)), dst := some 45 },
    { op := .mov (.t 45), dst := some 46 },
    { op := .fad 1 (.t 2), dst := some 47, g := some (46, false) },
    { op := .load 1 false (.t 47), dst := some 48, g := some (46, false) },
    { op := .bin .eql (.t 48) (.c (.int .i64 1)), dst := some 49, g := some (46, false) },
    { op := .pick (.t 46) (.c (.bool true)) (.t 49), dst := some 50 },
    { op := .mov (.t 50), dst := some 51 },
    { op := .mov (.t 6), dst := some 52, g := some (51, true) },
    { op := .not (.t 52), dst := some 53, g := some (51, true) },
    { op := .pick (.t 51) (.t 53) (.c (.bool false)), dst := some 54 },
    { op := .mov (.t 54), dst := some 55 },
    { op := .mov (.t 7), dst := some 56, g := some (55, true) },
    { op := .not (.t 56), dst := some 57, g := some (55, true) },
    { op := .pick (.t 55) (.t 57) (.c (.bool false)), dst := some 58 },
    { op := .mov (.t 58), dst := some 59 },
    { op := .mov (.t 8), dst := some 60, g := some (59, true) },
    { op := .not (.t 60), dst := some 61, g := some (59, true) },
    { op := .pick (.t 59) (.t 61) (.c (.bool false)), dst := some 62 },
    { op := .mov (.t 62), dst := some 4 }]
def a57_r11 : ACode := .reg [{ op := .bin .eql (.t 24) (.c (.int .i64 2)), dst := some 64 },
    { op := .mov (.t 64), dst := some 63 }]
def a57_r12 : ACode := .reg [{ op := .mov (.t 6), dst := some 65 },
    { op := .not (.t 65), dst := some 66 },
    { op := .mov (.t 66), dst := some 67 },
    { op := .mov (.t 7), dst := some 68, g := some (67, true) },
    { op := .not (.t 68), dst := some 69, g := some (67, true) },
    { op := .pick (.t 67) (.t 69) (.c (.bool false)), dst := some 70 },
    { op := .mov (.t 70), dst := some 71 },
    { op := .mov (.t 8), dst := some 72, g := some (71, true) },
    { op := .not (.t 72), dst := some 73, g := some (71, true) },
    { op := .pick (.t 71) (.t 73) (.c (.bool false)), dst := some 74 },
    { op := .mov (.t 74), dst := some 4 }]
def a57_r13 : ACode := .reg [{ op := .bin .eql (.t 24) (.c (.int .i64 6)), dst := some 76 },
    { op := .mov (.t 76), dst := some 75 }]
def a57_r14 : ACode := .reg [{ op := .load 1 false (.t 3), dst := some 77 },
    { op := .mov (.t 77), dst := some 78 },
    { op := .fad 1 (.t 2), dst := some 79, g := some (78, true) },
    { op := .load 1 false (.t 79), dst := some 80, g := some (78, true) },
    { op := .bin .geq (.t 80) (.c (.int .i64 0)), dst := some 81, g := some (78, true) },
    { op := .pick (.t 78) (.t 81) (.c (.bool false)), dst := some 82 },
    { op := .mov (.t 82), dst := some 83 },
    { op := .mov (.t 6), dst := some 84, g := some (83, true) },
    { op := .not (.t 84), dst := some 85, g := some (83, true) },
    { op := .pick (.t 83) (.t 85) (.c (.bool false)), dst := some 86 },
    { op := .mov (.t 86), dst := some 87 },
    { op := .mov (.t 7), dst := some 88, g := some (87, true) },
    { op := .not (.t 88), dst := some 89, g := some (87, true) },
    { op := .pick (.t 87) (.t 89) (.c (.bool false)), dst := some 90 },
    { op := .mov (.t 90), dst := some 91 },
    { op := .mov (.t 8), dst := some 92, g := some (91, true) },
    { op := .not (.t 92), dst := some 93, g := some (91, true) },
    { op := .pick (.t 91) (.t 93) (.c (.bool false)), dst := some 94 },
    { op := .mov (.t 94), dst := some 4 }]
def a57_r15 : ACode := .reg [{ op := .bin .eql (.t 24) (.c (.int .i64 3)), dst := some 96 },
    { op := .mov (.t 96), dst := some 95 }]
def a57_r16 : ACode := .reg [{ op := .mov (.t 5), dst := some 97 },
    { op := .not (.t 97), dst := some 98 },
    { op := .mov (.t 98), dst := some 99 },
    { op := .mov (.t 7), dst := some 100, g := some (99, true) },
    { op := .not (.t 100), dst := some 101, g := some (99, true) },
    { op := .pick (.t 99) (.t 101) (.c (.bool false)), dst := some 102 },
    { op := .mov (.t 102), dst := some 103 },
    { op := .mov (.t 8), dst := some 104, g := some (103, true) },
    { op := .not (.t 104), dst := some 105, g := some (103, true) },
    { op := .pick (.t 103) (.t 105) (.c (.bool false)), dst := some 106 },
    { op := .mov (.t 106), dst := some 4 }]
def a57_r17 : ACode := .reg [{ op := .bin .eql (.t 24) (.c (.int .i64 4)), dst := some 108 },
    { op := .mov (.t 108), dst := some 107 }]
def a57_r18 : ACode := .reg [{ op := .mov (.t 5), dst := some 109 },
    { op := .mov (.t 109), dst := some 110 },
    { op := .mov (.t 6), dst := some 111, g := some (110, false) },
    { op := .pick (.t 110) (.c (.bool true)) (.t 111), dst := some 112 },
    { op := .mov (.t 112), dst := some 113 },
    { op := .mov (.t 8), dst := some 114, g := some (113, false) },
    { op := .pick (.t 113) (.c (.bool true)) (.t 114), dst := some 115 }]
def a57_r19 : ACode := .reg [{ op := .mov (.c (.bool false)), dst := some 4 }]
def a57_r20 : ACode := .reg [{ op := .bin .eql (.t 24) (.c (.int .i64 5)), dst := some 117 },
    { op := .mov (.t 117), dst := some 116 }]
def a57_r21 : ACode := .reg [{ op := .mov (.t 5), dst := some 118 },
    { op := .mov (.t 118), dst := some 119 },
    { op := .mov (.t 6), dst := some 120, g := some (119, false) },
    { op := .pick (.t 119) (.c (.bool true)) (.t 120), dst := some 121 },
    { op := .mov (.t 121), dst := some 122 },
    { op := .fad 4 (.t 2), dst := some 123, g := some (122, false) },
    { op := .load 1 false (.t 123), dst := some 124, g := some (122, false) },
    { op := .len false (.t 124), dst := some 125, g := some (122, false) },
    { op := .fad 3 (.t 2), dst := some 126, g := some (122, false) },
    { op := .load 1 false (.t 126), dst := some 127, g := some (122, false) },
    { op := .len false (.t 127), dst := some 128, g := some (122, false) },
    { op := .bin .neq (.t 125) (.t 128), dst := some 129, g := some (122, false) },
    { op := .pick (.t 122) (.c (.bool true)) (.t 129), dst := some 130 },
    { op := .mov (.t 130), dst := some 131 },
    { op := .fad 4 (.t 2), dst := some 132, g := some (131, false) },
    { op := .load 1 false (.t 132), dst := some 133, g := some (131, false) },
    { op := .call 86 [(.t 133)], dst := some 134, g := some (131, false) },
    { op := .not (.t 134), dst := some 135, g := some (131, false) },
    { op := .pick (.t 131) (.c (.bool true)) (.t 135), dst := some 136 }]
def a57_r22 : ACode := .reg [{ op := .mov (.c (.bool false)), dst := some 4 }]
def a57_r6 : ACode := .reg [{ op := .mov (.c (.bool false)), dst := some 4 }]
def a57_r23 : ACode := .reg [{ op := .fad 3 (.t 2), dst := some 137 },
    { op := .load 1 false (.t 137), dst := some 138 },
    { op := .mkf 88 [(.t 3)], dst := some 139 },
    { op := .call 87 [(.t 138), (.t 139)], dst := some 140 },
    { op := .not (.t 140), dst := some 141 },
    { op := .mov (.t 141), dst := some 4 }]
def a57 : ACode := (.seq a57_r0 (.seq a57_r1 (.seq a57_r2 (.seq a57_r3 (.seq a57_r4 (.seq (.seq a57_r5 (.block 0 (.seq a57_r7 (.cond (.t 25) (.seq a57_r8 .ret) (.seq a57_r9 (.cond (.t 41) (.seq a57_r10 .ret) (.seq a57_r11 (.cond (.t 63) (.seq a57_r12 .ret) (.seq a57_r13 (.cond (.t 75) (.seq a57_r14 .ret) (.seq a57_r15 (.cond (.t 95) (.seq a57_r16 .ret) (.seq a57_r17 (.cond (.t 107) (.seq a57_r18 (.cond (.t 115) (.seq a57_r19 .ret) .skip)) (.seq a57_r20 (.cond (.t 116) (.seq a57_r21 (.cond (.t 136) (.seq a57_r22 .ret) .skip)) (.seq a57_r6 .ret))))))))))))))))) (.seq a57_r23 .ret)))))))
def a57_res : List ARes := [.tmp 4]
theorem a57_ok : Coded Try.prog 57 142 a57 a57_res := ⟨Try.f57, _, by kernel_rfl, rfl, by kernel_rfl, rfl, by kernel_rfl, by kernel_rfl⟩
theorem a57_of {args : List AV} {Q : AV → Prop} (hl : args.length ≤ 142) (h : AW Try.prog 142 a57 (mkS (argT 0 args) [] 0) (retQ a57_res Q)) : ACall Try.prog 57 args Q := acall_coded a57_ok hl h

/- workflow/value.order -/
def a58_r0 : ACode := .reg [{ op := .box 5 true (.t 0), dst := some 2, k := 0 },
    { op := .box 5 true (.t 1), dst := some 3, k := 1 },
    { op := .mov (.c (.int .i64 0)), dst := some 4 }]
def a58_r1 : ACode := .reg [{ op := .fad 0 (.t 2), dst := some 9 },
    { op := .load 1 false (.t 9), dst := some 10 },
    { op := .fad 0 (.t 3), dst := some 11 },
    { op := .load 1 false (.t 11), dst := some 12 },
    { op := .bin .neq (.t 10) (.t 12), dst := some 13 }]
def a58_r2 : ACode := .reg [{ op := .fad 0 (.t 2), dst := some 14 },
    { op := .load 1 false (.t 14), dst := some 15 },
    { op := .fad 0 (.t 3), dst := some 16 },
    { op := .load 1 false (.t 16), dst := some 17 },
    { op := .call 89 [(.t 15), (.t 17)], dst := some 18 },
    { op := .mov (.t 18), dst := some 4 }]
def a58_r3 : ACode := .reg [{ op := .fad 0 (.t 2), dst := some 19 },
    { op := .load 1 false (.t 19), dst := some 20 },
    { op := .bin .eql (.t 20) (.c (.int .i64 3)), dst := some 21 }]
def a58_r4 : ACode := .reg [{ op := .fad 2 (.t 2), dst := some 22 },
    { op := .load 1 false (.t 22), dst := some 23 },
    { op := .fad 2 (.t 3), dst := some 24 },
    { op := .load 1 false (.t 24), dst := some 25 },
    { op := .call 73 [(.t 23), (.t 25)], dst := some 26 },
    { op := .mov (.t 26), dst := some 4 }]
def a58_r5 : ACode := .reg [{ op := .mov (.c (.int .i64 0)), dst := some 5 }]
def a58_r6 : ACode := .reg [{ op := .mov (.t 5), dst := some 27 },
    { op := .fad 3 (.t 2), dst := some 28 },
    { op := .load 1 false (.t 28), dst := some 29 },
    { op := .len false (.t 29), dst := some 30 },
    { op := .bin .lss (.t 27) (.t 30), dst := some 31 },
    { op := .mov (.t 31), dst := some 32 },
    { op := .mov (.t 5), dst := some 33, g := some (32, true) },
    { op := .fad 3 (.t 3), dst := some 34, g := some (32, true) },
    { op := .load 1 false (.t 34), dst := some 35, g := some (32, true) },
    { op := .len false (.t 35), dst := some 36, g := some (32, true) },
    { op := .bin .lss (.t 33) (.t 36), dst := some 37, g := some (32, true) },
    { op := .pick (.t 32) (.t 37) (.c (.bool false)), dst := some 38 }]
def a58_r8 : ACode := .reg [{ op := .fad 0 (.t 2), dst := some 41 },
    { op := .load 1 false (.t 41), dst := some 42 },
    { op := .bin .eql (.t 42) (.c (.int .i64 5)), dst := some 43 }]
def a58_r9 : ACode := .draw [{ op := .fad 4 (.t 2), dst := some 44 },
    { op := .load 1 false (.t 44), dst := some 45 },
    { op := .mov (.t 5), dst := some 46 },
    { op := .iad 1 (.t 45) (.t 46), dst := some 47 },
    { op := .load 1 false (.t 47), dst := some 48 },
    { op := .fad 4 (.t 3), dst := some 49 },
    { op := .load 1 false (.t 49), dst := some 50 },
    { op := .mov (.t 5), dst := some 51 },
    { op := .iad 1 (.t 50) (.t 51), dst := some 52 },
    { op := .load 1 false (.t 52), dst := some 53 },
    { op := .call 73 [(.t 48), (.t 53)], dst := some 54 },
    { op := .mov (.t 54), dst := some 6 }]
    []
    (.take 0 (.take 1 (.take 2 (.take 3 (.take 4 (.take 5 (.take 6 (.take 7 (.take 8 (.take 9 (.one 10 (.take 11 (.done)))))))))))))
def a58_r10 : ACode := .reg [{ op := .mov (.t 6), dst := some 55 },
    { op := .bin .neq (.t 55) (.c (.int .i64 0)), dst := some 56 }]
def a58_r11 : ACode := .reg [{ op := .mov (.t 6), dst := some 57 },
    { op := .mov (.t 57), dst := some 4 }]
def a58_r12 : ACode := .draw [{ op := .fad 3 (.t 2), dst := some 58 },
    { op := .load 1 false (.t 58), dst := some 59 },
    { op := .mov (.t 5), dst := some 60 },
    { op := .iad 5 (.t 59) (.t 60), dst := some 61 },
    { op := .load 5 true (.t 61), dst := some 62 },
    { op := .fad 3 (.t 3), dst := some 63 },
    { op := .load 1 false (.t 63), dst := some 64 },
    { op := .mov (.t 5), dst := some 65 },
    { op := .iad 5 (.t 64) (.t 65), dst := some 66 },
    { op := .load 5 true (.t 66), dst := some 67 },
    { op := .call 58 [(.t 62), (.t 67)], dst := some 68 },
    { op := .mov (.t 68), dst := some 7 }]
    []
    (.take 0 (.take 1 (.take 2 (.take 3 (.take 4 (.take 5 (.take 6 (.take 7 (.take 8 (.take 9 (.one 10 (.take 11 (.done)))))))))))))
def a58_r13 : ACode := .reg [{ op := .mov (.t 7), dst := some 69 },
    { op := .bin .neq (.t 69) (.c (.int .i64 0)), dst := some 70 }]
def a58_r14 : ACode := .reg [{ op := .mov (.t 7), dst := some 71 },
    { op := .mov (.t 71), dst := some 4 }]
def a58_r7 : ACode := .reg [{ op := .mov (.t 5), dst := some 39 },
    { op := .bin .add (.t 39) (.c (.int .i64 1)), dst := some 40 },
    { op := .mov (.t 40), dst := some 5 }]
def a58_l0 : ACode := (.seq (.seq a58_r6 (.cond (.t 38) .skip (.exit 0))) (.seq (.block 1 (.seq (.seq a58_r8 (.cond (.t 43) (.seq a58_r9 (.seq a58_r10 (.cond (.t 56) (.seq a58_r11 .ret) .skip))) .skip)) (.seq a58_r12 (.seq a58_r13 (.cond (.t 70) (.seq a58_r14 .ret) .skip))))) a58_r7))
def a58_r15 : ACode := .reg [{ op := .fad 3 (.t 2), dst := some 72 },
    { op := .load 1 false (.t 72), dst := some 73 },
    { op := .len false (.t 73), dst := some 74 },
    { op := .fad 3 (.t 3), dst := some 75 },
    { op := .load 1 false (.t 75), dst := some 76 },
    { op := .len false (.t 76), dst := some 77 },
    { op := .call 89 [(.t 74), (.t 77)], dst := some 78 },
    { op := .mov (.t 78), dst := some 8 }]
def a58_r16 : ACode := .reg [{ op := .mov (.t 8), dst := some 79 },
    { op := .bin .neq (.t 79) (.c (.int .i64 0)), dst := some 80 }]
def a58_r17 : ACode := .reg [{ op := .mov (.t 8), dst := some 81 },
    { op := .mov (.t 81), dst := some 4 }]
def a58_r18 : ACode := .reg [{ op := .fad 1 (.t 2), dst := some 82 },
    { op := .load 1 false (.t 82), dst := some 83 },
    { op := .fad 1 (.t 3), dst := some 84 },
    { op := .load 1 false (.t 84), dst := some 85 },
    { op := .call 89 [(.t 83), (.t 85)], dst := some 86 },
    { op := .mov (.t 86), dst := some 4 }]
def a58 : ACode := (.seq a58_r0 (.seq (.seq a58_r1 (.cond (.t 13) (.seq a58_r2 .ret) .skip)) (.seq (.seq a58_r3 (.cond (.t 21) (.seq a58_r4 .ret) .skip)) (.seq (.seq a58_r5 (.block 0 (.loop a58_l0))) (.seq (.seq a58_r15 (.seq a58_r16 (.cond (.t 80) (.seq a58_r17 .ret) .skip))) (.seq a58_r18 .ret))))))
def a58_res : List ARes := [.tmp 4]
theorem a58_ok : Coded Try.prog 58 87 a58 a58_res := ⟨Try.f58, _, by kernel_rfl, rfl, by kernel_rfl, rfl, by kernel_rfl, by kernel_rfl⟩
theorem a58_of {args : List AV} {Q : AV → Prop} (hl : args.length ≤ 87) (h : AW Try.prog 87 a58 (mkS (argT 0 args) [] 0) (retQ a58_res Q)) : ACall Try.prog 58 args Q := acall_coded a58_ok hl h

/- workflow/workflowref02.Rising -/
def a60_r0 : ACode := .reg [{ op := .mov (.c (.bool false)), dst := some 2 }]
def a60_r1 : ACode := .reg [{ op := .mov (.c (.int .i64 1)), dst := some 3 }]
def a60_r2 : ACode := .reg [{ op := .mov (.t 3), dst := some 4 },
    { op := .mov (.t 0), dst := some 5 },
    { op := .len false (.t 5), dst := some 6 },
    { op := .bin .lss (.t 4) (.t 6), dst := some 7 }]
def a60_r4 : ACode := .draw [{ op := .mov (.t 0), dst := some 10 },
    { op := .mov (.t 3), dst := some 11 },
    { op := .bin .sub (.t 11) (.c (.int .i64 1)), dst := some 12 },
    { op := .iad 1 (.t 10) (.t 12), dst := some 13 },
    { op := .load 1 false (.t 13), dst := some 14 },
    { op := .mov (.t 0), dst := some 15 },
    { op := .mov (.t 3), dst := some 16 },
    { op := .iad 1 (.t 15) (.t 16), dst := some 17 },
    { op := .load 1 false (.t 17), dst := some 18 },
    { op := .bin .geq (.t 14) (.t 18), dst := some 19 }]
    []
    (.take 0 (.take 1 (.take 2 (.take 3 (.take 4 (.take 5 (.take 6 (.take 7 (.take 8 (.take 9 (.done)))))))))))
def a60_r5 : ACode := .reg [{ op := .mov (.c (.bool false)), dst := some 2 }]
def a60_r3 : ACode := .reg [{ op := .mov (.t 3), dst := some 8 },
    { op := .bin .add (.t 8) (.c (.int .i64 1)), dst := some 9 },
    { op := .mov (.t 9), dst := some 3 }]
def a60_l0 : ACode := (.seq (.seq a60_r2 (.cond (.t 7) .skip (.exit 0))) (.seq (.block 1 (.seq a60_r4 (.cond (.t 19) (.seq a60_r5 .ret) .skip))) a60_r3))
def a60_r6 : ACode := .reg [{ op := .mov (.c (.bool true)), dst := some 2 }]
def a60 : ACode := (.seq a60_r0 (.seq (.seq a60_r1 (.block 0 (.loop a60_l0))) (.seq a60_r6 .ret)))
def a60_res : List ARes := [.tmp 2]
theorem a60_ok : Coded Try.prog 60 20 a60 a60_res := ⟨Try.f60, _, by kernel_rfl, rfl, by kernel_rfl, rfl, by kernel_rfl, by kernel_rfl⟩
theorem a60_of {args : List AV} {Q : AV → Prop} (hl : args.length ≤ 20) (h : AW Try.prog 20 a60 (mkS (argT 0 args) [] 0) (retQ a60_res Q)) : ACall Try.prog 60 args Q := acall_coded a60_ok hl h

/- slices.Clone[[]byte,byte] -/
def a61_r0 : ACode := .reg [{ op := .mov (.c (.nils)), dst := some 2 }]
def a61_r1 : ACode := .reg [{ op := .mov (.t 0), dst := some 3 },
    { op := .eqz false (.t 3), dst := some 4 }]
def a61_r2 : ACode := .reg [{ op := .mov (.c (.nils)), dst := some 2 }]
def a61_r3 : ACode := .reg [{ op := .bsl 1 false 0 [.int .u8 0] [], dst := some 5 },
    { op := .mov (.t 0), dst := some 6 },
    { op := .app 1 1 (.t 5) (.t 6), dst := some 7, k := 6 },
    { op := .mov (.t 7), dst := some 2 }]
def a61 : ACode := (.seq a61_r0 (.seq (.seq a61_r1 (.cond (.t 4) (.seq a61_r2 .ret) .skip)) (.seq a61_r3 .ret)))
def a61_res : List ARes := [.tmp 2]
theorem a61_ok : Coded Try.prog 61 8 a61 a61_res := ⟨Try.f61, _, by kernel_rfl, rfl, by kernel_rfl, rfl, by kernel_rfl, by kernel_rfl⟩
theorem a61_of {args : List AV} {Q : AV → Prop} (hl : args.length ≤ 8) (h : AW Try.prog 8 a61 (mkS (argT 0 args) [] 0) (retQ a61_res Q)) : ACall Try.prog 61 args Q := acall_coded a61_ok hl h

/- workflow/value.encode -/
def a62_r0 : ACode := .reg [{ op := .box 5 true (.t 1), dst := some 3, k := 0 },
    { op := .mov (.c (.nils)), dst := some 4 }]
def a62_r1 : ACode := .reg [{ op := .mov (.t 0), dst := some 7 },
    { op := .fad 0 (.t 3), dst := some 8 },
    { op := .load 1 false (.t 8), dst := some 9 },
    { op := .call 91 [(.t 7), (.t 9)], dst := some 10 },
    { op := .mov (.t 10), dst := some 0 }]
def a62_r2 : ACode := .reg [{ op := .fad 0 (.t 3), dst := some 11 },
    { op := .load 1 false (.t 11), dst := some 12 }]
def a62_r3 : ACode := .reg [{ op := .bin .eql (.t 12) (.c (.int .i64 1)), dst := some 14 },
    { op := .mov (.t 14), dst := some 13 }]
def a62_r4 : ACode := .reg [{ op := .bin .eql (.t 12) (.c (.int .i64 2)), dst := some 15 },
    { op := .mov (.t 15), dst := some 13 }]
def a62_r5 : ACode := .reg [{ op := .bin .eql (.t 12) (.c (.int .i64 6)), dst := some 16 },
    { op := .mov (.t 16), dst := some 13 }]
def a62_r6 : ACode := .reg [{ op := .mov (.t 0), dst := some 17 },
    { op := .fad 1 (.t 3), dst := some 18 },
    { op := .load 1 false (.t 18), dst := some 19 },
    { op := .call 91 [(.t 17), (.t 19)], dst := some 20 },
    { op := .mov (.t 20), dst := some 4 }]
def a62_r7 : ACode := .reg [{ op := .bin .eql (.t 12) (.c (.int .i64 3)), dst := some 22 },
    { op := .mov (.t 22), dst := some 21 }]
def a62_r8 : ACode := .reg [{ op := .mov (.t 0), dst := some 23 },
    { op := .fad 2 (.t 3), dst := some 24 },
    { op := .load 1 false (.t 24), dst := some 25 },
    { op := .call 92 [(.t 23), (.t 25)], dst := some 26 },
    { op := .mov (.t 26), dst := some 4 }]
def a62_r9 : ACode := .reg [{ op := .bin .eql (.t 12) (.c (.int .i64 4)), dst := some 28 },
    { op := .mov (.t 28), dst := some 27 }]
def a62_r10 : ACode := .reg [{ op := .bin .eql (.t 12) (.c (.int .i64 5)), dst := some 29 },
    { op := .mov (.t 29), dst := some 27 }]
def a62_r11 : ACode := .reg [{ op := .mov (.t 0), dst := some 30 },
    { op := .fad 3 (.t 3), dst := some 31 },
    { op := .load 1 false (.t 31), dst := some 32 },
    { op := .len false (.t 32), dst := some 33 },
    { op := .call 91 [(.t 30), (.t 33)], dst := some 34 },
    { op := .mov (.t 34), dst := some 0 }]
def a62_r12 : ACode := .reg [{ op := .fad 3 (.t 3), dst := some 35 },
    { op := .load 1 false (.t 35), dst := some 36 },
    { op := .len false (.t 36), dst := some 37 },
    { op := .mov (.c (.int .i64 0)), dst := some 38 }]
def a62_r13 : ACode := .reg [{ op := .bin .lss (.t 38) (.t 37), dst := some 39 }]
def a62_r14 : ACode := .reg [{ op := .mov (.t 38), dst := some 40 },
    { op := .iad 5 (.t 36) (.t 38), dst := some 41 },
    { op := .load 5 true (.t 41), dst := some 42 },
    { op := .alloc 5 true [.int .i64 0, .int .i64 0, .str [], .nils, .nils], dst := some 6, k := 45 },
    { op := .mov (.t 40), dst := some 5 },
    { op := .store 5 true (.t 6) (.t 42), dst := none }]
def a62_r15 : ACode := .reg [{ op := .fad 0 (.t 3), dst := some 43 },
    { op := .load 1 false (.t 43), dst := some 44 },
    { op := .bin .eql (.t 44) (.c (.int .i64 5)), dst := some 45 }]
def a62_r16 : ACode := .reg [{ op := .mov (.t 0), dst := some 46 },
    { op := .fad 4 (.t 3), dst := some 47 },
    { op := .load 1 false (.t 47), dst := some 48 },
    { op := .mov (.t 5), dst := some 49 },
    { op := .iad 1 (.t 48) (.t 49), dst := some 50 },
    { op := .load 1 false (.t 50), dst := some 51 },
    { op := .call 92 [(.t 46), (.t 51)], dst := some 52 },
    { op := .mov (.t 52), dst := some 0 }]
def a62_r17 : ACode := .reg [{ op := .mov (.t 0), dst := some 53 },
    { op := .load 5 true (.t 6), dst := some 54 },
    { op := .call 62 [(.t 53), (.t 54)], dst := some 55 },
    { op := .mov (.t 55), dst := some 0 }]
def a62_r18 : ACode := .reg [{ op := .bin .add (.t 38) (.c (.int .i64 1)), dst := some 56 },
    { op := .mov (.t 56), dst := some 38 }]
def a62_l0 : ACode := (.seq a62_r13 (.seq (.cond (.t 39) .skip (.exit 1)) (.seq (.block 2 (.seq a62_r14 (.seq (.seq a62_r15 (.cond (.t 45) a62_r16 .skip)) a62_r17))) a62_r18)))
def a62_r19 : ACode := .reg [{ op := .mov (.t 0), dst := some 57 },
    { op := .mov (.t 57), dst := some 4 }]
def a62 : ACode := (.seq a62_r0 (.seq a62_r1 (.seq (.seq a62_r2 (.block 0 (.seq (.seq a62_r3 (.cond (.t 13) .skip (.seq a62_r4 (.cond (.t 13) .skip a62_r5)))) (.cond (.t 13) (.seq a62_r6 .ret) (.seq a62_r7 (.cond (.t 21) (.seq a62_r8 .ret) (.seq (.seq a62_r9 (.cond (.t 27) .skip a62_r10)) (.cond (.t 27) a62_r11 .skip)))))))) (.seq (.seq a62_r12 (.block 1 (.loop a62_l0))) (.seq a62_r19 .ret)))))
def a62_res : List ARes := [.tmp 4]
theorem a62_ok : Coded Try.prog 62 58 a62 a62_res := ⟨Try.f62, _, by kernel_rfl, rfl, by kernel_rfl, rfl, by kernel_rfl, by kernel_rfl⟩
theorem a62_of {args : List AV} {Q : AV → Prop} (hl : args.length ≤ 58) (h : AW Try.prog 58 a62 (mkS (argT 0 args) [] 0) (retQ a62_res Q)) : ACall Try.prog 62 args Q := acall_coded a62_ok hl h

/- workflow/value.copies -/
def a64_r0 : ACode := .reg [{ op := .mov (.c (.nils)), dst := some 2 }]
def a64_r1 : ACode := .reg [{ op := .mov (.c (.nils)), dst := some 3 }]
def a64_r2 : ACode := .reg [{ op := .mov (.t 0), dst := some 6 },
    { op := .len false (.t 6), dst := some 7 },
    { op := .mov (.c (.int .i64 0)), dst := some 8 }]
def a64_r3 : ACode := .reg [{ op := .bin .lss (.t 8) (.t 7), dst := some 9 }]
def a64_r4 : ACode := .reg [{ op := .iad 5 (.t 6) (.t 8), dst := some 10 },
    { op := .load 5 true (.t 10), dst := some 11 },
    { op := .alloc 5 true [.int .i64 0, .int .i64 0, .str [], .nils, .nils], dst := some 5, k := 8 },
    { op := .store 5 true (.t 5) (.t 11), dst := none }]
def a64_r5 : ACode := .reg [{ op := .mov (.t 3), dst := some 12 },
    { op := .load 5 true (.t 5), dst := some 13 },
    { op := .call 20 [(.t 13)], dst := some 14 },
    { op := .bsl 5 true 1 [.int .i64 0, .int .i64 0, .str [], .nils, .nils] [(0, (.t 14))], dst := some 15 },
    { op := .app 5 80 (.t 12) (.t 15), dst := some 16, k := 14 },
    { op := .mov (.t 16), dst := some 3 }]
def a64_r6 : ACode := .reg [{ op := .bin .add (.t 8) (.c (.int .i64 1)), dst := some 17 },
    { op := .mov (.t 17), dst := some 8 }]
def a64_l0 : ACode := (.seq a64_r3 (.seq (.cond (.t 9) .skip (.exit 0)) (.seq (.block 1 (.seq a64_r4 a64_r5)) a64_r6)))
def a64_r7 : ACode := .reg [{ op := .mov (.t 3), dst := some 18 },
    { op := .mov (.t 18), dst := some 2 }]
def a64 : ACode := (.seq a64_r0 (.seq a64_r1 (.seq (.seq a64_r2 (.block 0 (.loop a64_l0))) (.seq a64_r7 .ret))))
def a64_res : List ARes := [.tmp 2]
theorem a64_ok : Coded Try.prog 64 19 a64 a64_res := ⟨Try.f64, _, by kernel_rfl, rfl, by kernel_rfl, rfl, by kernel_rfl, by kernel_rfl⟩
theorem a64_of {args : List AV} {Q : AV → Prop} (hl : args.length ≤ 19) (h : AW Try.prog 19 a64 (mkS (argT 0 args) [] 0) (retQ a64_res Q)) : ACall Try.prog 64 args Q := acall_coded a64_ok hl h

/- slices.Clone[[]string,string] -/
def a65_r0 : ACode := .reg [{ op := .mov (.c (.nils)), dst := some 2 }]
def a65_r1 : ACode := .reg [{ op := .mov (.t 0), dst := some 3 },
    { op := .eqz false (.t 3), dst := some 4 }]
def a65_r2 : ACode := .reg [{ op := .mov (.c (.nils)), dst := some 2 }]
def a65_r3 : ACode := .reg [{ op := .bsl 1 false 0 [.str []] [], dst := some 5 },
    { op := .mov (.t 0), dst := some 6 },
    { op := .app 1 16 (.t 5) (.t 6), dst := some 7, k := 6 },
    { op := .mov (.t 7), dst := some 2 }]
def a65 : ACode := (.seq a65_r0 (.seq (.seq a65_r1 (.cond (.t 4) (.seq a65_r2 .ret) .skip)) (.seq a65_r3 .ret)))
def a65_res : List ARes := [.tmp 2]
theorem a65_ok : Coded Try.prog 65 8 a65 a65_res := ⟨Try.f65, _, by kernel_rfl, rfl, by kernel_rfl, rfl, by kernel_rfl, by kernel_rfl⟩
theorem a65_of {args : List AV} {Q : AV → Prop} (hl : args.length ≤ 8) (h : AW Try.prog 8 a65 (mkS (argT 0 args) [] 0) (retQ a65_res Q)) : ACall Try.prog 65 args Q := acall_coded a65_ok hl h

/- workflow/value.within -/
def a66_r0 : ACode := .reg [{ op := .box 5 true (.t 0), dst := some 1, k := 0 },
    { op := .mov (.c (.bool false)), dst := some 2 }]
def a66_r1 : ACode := .reg [{ op := .load 5 true (.t 1), dst := some 3 },
    { op := .call 25 [(.t 3)], dst := some 4 },
    { op := .bin .leq (.t 4) (.c (.int .i64 16)), dst := some 5 },
    { op := .mov (.t 5), dst := some 6 },
    { op := .load 5 true (.t 1), dst := some 7, g := some (6, true) },
    { op := .call 27 [(.t 7)], dst := some 8, g := some (6, true) },
    { op := .bin .leq (.t 8) (.c (.int .i64 1000)), dst := some 9, g := some (6, true) },
    { op := .pick (.t 6) (.t 9) (.c (.bool false)), dst := some 10 },
    { op := .mov (.t 10), dst := some 11 },
    { op := .load 5 true (.t 1), dst := some 12, g := some (11, true) },
    { op := .call 95 [(.t 12)], dst := some 13, g := some (11, true) },
    { op := .pick (.t 11) (.t 13) (.c (.bool false)), dst := some 14 },
    { op := .mov (.t 14), dst := some 2 }]
def a66 : ACode := (.seq a66_r0 (.seq a66_r1 .ret))
def a66_res : List ARes := [.tmp 2]
theorem a66_ok : Coded Try.prog 66 15 a66 a66_res := ⟨Try.f66, _, by kernel_rfl, rfl, by kernel_rfl, rfl, by kernel_rfl, by kernel_rfl⟩
theorem a66_of {args : List AV} {Q : AV → Prop} (hl : args.length ≤ 15) (h : AW Try.prog 15 a66 (mkS (argT 0 args) [] 0) (retQ a66_res Q)) : ACall Try.prog 66 args Q := acall_coded a66_ok hl h

/- workflow/workflowref02.Within -/
def a67_r0 : ACode := .reg [{ op := .box 5 true (.t 0), dst := some 1, k := 0 },
    { op := .mov (.c (.bool false)), dst := some 2 }]
def a67_r1 : ACode := .reg [{ op := .load 5 true (.t 1), dst := some 3 },
    { op := .call 96 [(.t 3)], dst := some 4 },
    { op := .mov (.t 4), dst := some 5 },
    { op := .load 5 true (.t 1), dst := some 6, g := some (5, true) },
    { op := .call 26 [(.t 6)], dst := some 7, g := some (5, true) },
    { op := .bin .leq (.t 7) (.c (.int .i64 16)), dst := some 8, g := some (5, true) },
    { op := .pick (.t 5) (.t 8) (.c (.bool false)), dst := some 9 },
    { op := .mov (.t 9), dst := some 10 },
    { op := .load 5 true (.t 1), dst := some 11, g := some (10, true) },
    { op := .call 28 [(.t 11)], dst := some 12, g := some (10, true) },
    { op := .bin .leq (.t 12) (.c (.int .i64 1000)), dst := some 13, g := some (10, true) },
    { op := .pick (.t 10) (.t 13) (.c (.bool false)), dst := some 14 },
    { op := .mov (.t 14), dst := some 2 }]
def a67 : ACode := (.seq a67_r0 (.seq a67_r1 .ret))
def a67_res : List ARes := [.tmp 2]
theorem a67_ok : Coded Try.prog 67 15 a67 a67_res := ⟨Try.f67, _, by kernel_rfl, rfl, by kernel_rfl, rfl, by kernel_rfl, by kernel_rfl⟩
theorem a67_of {args : List AV} {Q : AV → Prop} (hl : args.length ≤ 15) (h : AW Try.prog 15 a67 (mkS (argT 0 args) [] 0) (retQ a67_res Q)) : ACall Try.prog 67 args Q := acall_coded a67_ok hl h

/- slices.Equal[[]string,string] -/
def a69_r0 : ACode := .reg [{ op := .mov (.c (.bool false)), dst := some 4 }]
def a69_r1 : ACode := .reg [{ op := .mov (.t 0), dst := some 6 },
    { op := .len false (.t 6), dst := some 7 },
    { op := .mov (.t 1), dst := some 8 },
    { op := .len false (.t 8), dst := some 9 },
    { op := .bin .neq (.t 7) (.t 9), dst := some 10 }]
def a69_r2 : ACode := .reg [{ op := .mov (.c (.bool false)), dst := some 4 }]
def a69_r3 : ACode := .reg [{ op := .mov (.t 0), dst := some 11 },
    { op := .len false (.t 11), dst := some 12 },
    { op := .mov (.c (.int .i64 0)), dst := some 13 }]
def a69_r4 : ACode := .reg [{ op := .bin .lss (.t 13) (.t 12), dst := some 14 }]
def a69_r5 : ACode := .reg [{ op := .mov (.t 13), dst := some 15 },
    { op := .mov (.t 15), dst := some 5 }]
def a69_r6 : ACode := .draw [{ op := .mov (.t 0), dst := some 16 },
    { op := .mov (.t 5), dst := some 17 },
    { op := .iad 1 (.t 16) (.t 17), dst := some 18 },
    { op := .load 1 false (.t 18), dst := some 19 },
    { op := .mov (.t 1), dst := some 20 },
    { op := .mov (.t 5), dst := some 21 },
    { op := .iad 1 (.t 20) (.t 21), dst := some 22 },
    { op := .load 1 false (.t 22), dst := some 23 },
    { op := .bin .neq (.t 19) (.t 23), dst := some 24 }]
    []
    (.take 0 (.take 1 (.take 2 (.take 3 (.take 4 (.take 5 (.take 6 (.take 7 (.take 8 (.done))))))))))
def a69_r7 : ACode := .reg [{ op := .mov (.c (.bool false)), dst := some 4 }]
def a69_r8 : ACode := .reg [{ op := .bin .add (.t 13) (.c (.int .i64 1)), dst := some 25 },
    { op := .mov (.t 25), dst := some 13 }]
def a69_l0 : ACode := (.seq a69_r4 (.seq (.cond (.t 14) .skip (.exit 0)) (.seq (.block 1 (.seq a69_r5 (.seq a69_r6 (.cond (.t 24) (.seq a69_r7 .ret) .skip)))) a69_r8)))
def a69_r9 : ACode := .reg [{ op := .mov (.c (.bool true)), dst := some 4 }]
def a69 : ACode := (.seq a69_r0 (.seq (.seq a69_r1 (.cond (.t 10) (.seq a69_r2 .ret) .skip)) (.seq (.seq a69_r3 (.block 0 (.loop a69_l0))) (.seq a69_r9 .ret))))
def a69_res : List ARes := [.tmp 4]
theorem a69_ok : Coded Try.prog 69 26 a69 a69_res := ⟨Try.f69, _, by kernel_rfl, rfl, by kernel_rfl, rfl, by kernel_rfl, by kernel_rfl⟩
theorem a69_of {args : List AV} {Q : AV → Prop} (hl : args.length ≤ 26) (h : AW Try.prog 26 a69 (mkS (argT 0 args) [] 0) (retQ a69_res Q)) : ACall Try.prog 69 args Q := acall_coded a69_ok hl h

/- slices.EqualFunc[[]workflow/api.Value,[]workflow/api.Value,workflow/api.Value,workflow/api.Value] -/
def a70_r0 : ACode := .reg [{ op := .mov (.c (.bool false)), dst := some 6 }]
def a70_r1 : ACode := .reg [{ op := .mov (.t 0), dst := some 10 },
    { op := .len false (.t 10), dst := some 11 },
    { op := .mov (.t 1), dst := some 12 },
    { op := .len false (.t 12), dst := some 13 },
    { op := .bin .neq (.t 11) (.t 13), dst := some 14 }]
def a70_r2 : ACode := .reg [{ op := .mov (.c (.bool false)), dst := some 6 }]
def a70_r3 : ACode := .reg [{ op := .mov (.t 0), dst := some 15 },
    { op := .len false (.t 15), dst := some 16 },
    { op := .mov (.c (.int .i64 0)), dst := some 17 }]
def a70_r4 : ACode := .reg [{ op := .bin .lss (.t 17) (.t 16), dst := some 18 }]
def a70_r5 : ACode := .reg [{ op := .mov (.t 17), dst := some 19 },
    { op := .iad 5 (.t 15) (.t 17), dst := some 20 },
    { op := .load 5 true (.t 20), dst := some 21 },
    { op := .alloc 5 true [.int .i64 0, .int .i64 0, .str [], .nils, .nils], dst := some 8, k := 14 },
    { op := .mov (.t 19), dst := some 7 },
    { op := .store 5 true (.t 8) (.t 21), dst := none }]
def a70_r6 : ACode := .reg [{ op := .mov (.t 1), dst := some 22 },
    { op := .mov (.t 7), dst := some 23 },
    { op := .iad 5 (.t 22) (.t 23), dst := some 24 },
    { op := .load 5 true (.t 24), dst := some 25 },
    { op := .alloc 5 true [.int .i64 0, .int .i64 0, .str [], .nils, .nils], dst := some 9, k := 21 },
    { op := .store 5 true (.t 9) (.t 25), dst := none }]
def a70_r7 : ACode := .reg [{ op := .mov (.t 2), dst := some 26 },
    { op := .load 5 true (.t 8), dst := some 27 },
    { op := .load 5 true (.t 9), dst := some 28 },
    { op := .callv (.t 26) [(.t 27), (.t 28)], dst := some 29 },
    { op := .not (.t 29), dst := some 30 }]
def a70_r8 : ACode := .reg [{ op := .mov (.c (.bool false)), dst := some 6 }]
def a70_r9 : ACode := .reg [{ op := .bin .add (.t 17) (.c (.int .i64 1)), dst := some 31 },
    { op := .mov (.t 31), dst := some 17 }]
def a70_l0 : ACode := (.seq a70_r4 (.seq (.cond (.t 18) .skip (.exit 0)) (.seq (.block 1 (.seq a70_r5 (.seq a70_r6 (.seq a70_r7 (.cond (.t 30) (.seq a70_r8 .ret) .skip))))) a70_r9)))
def a70_r10 : ACode := .reg [{ op := .mov (.c (.bool true)), dst := some 6 }]
def a70 : ACode := (.seq a70_r0 (.seq (.seq a70_r1 (.cond (.t 14) (.seq a70_r2 .ret) .skip)) (.seq (.seq a70_r3 (.block 0 (.loop a70_l0))) (.seq a70_r10 .ret))))
def a70_res : List ARes := [.tmp 6]
theorem a70_ok : Coded Try.prog 70 32 a70 a70_res := ⟨Try.f70, _, by kernel_rfl, rfl, by kernel_rfl, rfl, by kernel_rfl, by kernel_rfl⟩
theorem a70_of {args : List AV} {Q : AV → Prop} (hl : args.length ≤ 32) (h : AW Try.prog 32 a70 (mkS (argT 0 args) [] 0) (retQ a70_res Q)) : ACall Try.prog 70 args Q := acall_coded a70_ok hl h

/- slices.SortFunc[[]int,int] -/
def a71_r0 : ACode := .reg [{ op := .mov (.t 0), dst := some 5 },
    { op := .len false (.t 5), dst := some 6 },
    { op := .mov (.t 6), dst := some 4 }]
def a71_r1 : ACode := .reg [{ op := .mov (.t 0), dst := some 7 },
    { op := .mov (.t 4), dst := some 8 },
    { op := .mov (.t 4), dst := some 9 },
    { op := .conv .u64 (.t 9), dst := some 10 },
    { op := .call 98 [(.t 10)], dst := some 11 },
    { op := .mov (.t 1), dst := some 12 },
    { op := .call 97 [(.t 7), (.c (.int .i64 0)), (.t 8), (.t 11), (.t 12)], dst := some 13 }]
def a71 : ACode := (.seq a71_r0 a71_r1)
def a71_res : List ARes := []
theorem a71_ok : Coded Try.prog 71 14 a71 a71_res := ⟨Try.f71, _, by kernel_rfl, rfl, by kernel_rfl, rfl, by kernel_rfl, by kernel_rfl⟩
theorem a71_of {args : List AV} {Q : AV → Prop} (hl : args.length ≤ 14) (h : AW Try.prog 14 a71 (mkS (argT 0 args) [] 0) (retQ a71_res Q)) : ACall Try.prog 71 args Q := acall_coded a71_ok hl h

/- workflow/value.Map$1 -/
def a72_r0 : ACode := .reg [{ op := .mov (.c (.int .i64 0)), dst := some 5 }]
def a72_r1 : ACode := .draw [{ op := .load 1 false (.t 2), dst := some 6 },
    { op := .mov (.t 0), dst := some 7 },
    { op := .iad 1 (.t 6) (.t 7), dst := some 8 },
    { op := .load 1 false (.t 8), dst := some 9 },
    { op := .load 1 false (.t 2), dst := some 10 },
    { op := .mov (.t 1), dst := some 11 },
    { op := .iad 1 (.t 10) (.t 11), dst := some 12 },
    { op := .load 1 false (.t 12), dst := some 13 },
    { op := .call 73 [(.t 9), (.t 13)], dst := some 14 },
    { op := .mov (.t 14), dst := some 5 }]
    []
    (.take 0 (.take 1 (.take 2 (.take 3 (.take 4 (.take 5 (.take 6 (.take 7 (.one 8 (.take 9 (.done)))))))))))
def a72 : ACode := (.seq a72_r0 (.seq a72_r1 .ret))
def a72_res : List ARes := [.tmp 5]
theorem a72_ok : Coded Try.prog 72 15 a72 a72_res := ⟨Try.f72, _, by kernel_rfl, rfl, by kernel_rfl, rfl, by kernel_rfl, by kernel_rfl⟩
theorem a72_of {args : List AV} {Q : AV → Prop} (hl : args.length ≤ 15) (h : AW Try.prog 15 a72 (mkS (argT 0 args) [] 0) (retQ a72_res Q)) : ACall Try.prog 72 args Q := acall_coded a72_ok hl h

/- strings.Compare -/
def a73_r0 : ACode := .reg [{ op := .mov (.c (.int .i64 0)), dst := some 4 }]
def a73_r1 : ACode := .reg [{ op := .mov (.t 0), dst := some 5 },
    { op := .mov (.t 1), dst := some 6 },
    { op := .call 99 [(.t 5), (.t 6)], dst := some 7 },
    { op := .mov (.t 7), dst := some 4 }]
def a73 : ACode := (.seq a73_r0 (.seq a73_r1 .ret))
def a73_res : List ARes := [.tmp 4]
theorem a73_ok : Coded Try.prog 73 8 a73 a73_res := ⟨Try.f73, _, by kernel_rfl, rfl, by kernel_rfl, rfl, by kernel_rfl, by kernel_rfl⟩
theorem a73_of {args : List AV} {Q : AV → Prop} (hl : args.length ≤ 8) (h : AW Try.prog 8 a73 (mkS (argT 0 args) [] 0) (retQ a73_res Q)) : ACall Try.prog 73 args Q := acall_coded a73_ok hl h

/- workflow/workflowref02.get -/
def a74_r0 : ACode := .reg [{ op := .box 5 true (.t 0), dst := some 2, k := 0 },
    { op := .alloc 5 true [.int .i64 0, .int .i64 0, .str [], .nils, .nils], dst := some 4, k := 1 },
    { op := .mov (.c (.bool false)), dst := some 5 }]
def a74_r1 : ACode := .reg [{ op := .mov (.c (.int .i64 0)), dst := some 6 }]
def a74_r2 : ACode := .reg [{ op := .mov (.t 6), dst := some 7 },
    { op := .fad 4 (.t 2), dst := some 8 },
    { op := .load 1 false (.t 8), dst := some 9 },
    { op := .len false (.t 9), dst := some 10 },
    { op := .bin .lss (.t 7) (.t 10), dst := some 11 },
    { op := .mov (.t 11), dst := some 12 },
    { op := .mov (.t 6), dst := some 13, g := some (12, true) },
    { op := .fad 3 (.t 2), dst := some 14, g := some (12, true) },
    { op := .load 1 false (.t 14), dst := some 15, g := some (12, true) },
    { op := .len false (.t 15), dst := some 16, g := some (12, true) },
    { op := .bin .lss (.t 13) (.t 16), dst := some 17, g := some (12, true) },
    { op := .pick (.t 12) (.t 17) (.c (.bool false)), dst := some 18 }]
def a74_r4 : ACode := .reg [{ op := .fad 4 (.t 2), dst := some 21 },
    { op := .load 1 false (.t 21), dst := some 22 },
    { op := .mov (.t 6), dst := some 23 },
    { op := .iad 1 (.t 22) (.t 23), dst := some 24 },
    { op := .load 1 false (.t 24), dst := some 25 },
    { op := .mov (.t 1), dst := some 26 },
    { op := .bin .eql (.t 25) (.t 26), dst := some 27 }]
def a74_r5 : ACode := .reg [{ op := .fad 3 (.t 2), dst := some 28 },
    { op := .load 1 false (.t 28), dst := some 29 },
    { op := .mov (.t 6), dst := some 30 },
    { op := .iad 5 (.t 29) (.t 30), dst := some 31 },
    { op := .load 5 true (.t 31), dst := some 32 },
    { op := .store 5 true (.t 4) (.t 32), dst := none },
    { op := .mov (.c (.bool true)), dst := some 5 }]
def a74_r3 : ACode := .reg [{ op := .mov (.t 6), dst := some 19 },
    { op := .bin .add (.t 19) (.c (.int .i64 1)), dst := some 20 },
    { op := .mov (.t 20), dst := some 6 }]
def a74_l0 : ACode := (.seq (.seq a74_r2 (.cond (.t 18) .skip (.exit 0))) (.seq (.block 1 (.seq a74_r4 (.cond (.t 27) (.seq a74_r5 .ret) .skip))) a74_r3))
def a74_r6 : ACode := .reg [{ op := .build [.int .i64 0, .int .i64 0, .str [], .nils, .nils] [], dst := some 33 },
    { op := .store 5 true (.t 4) (.t 33), dst := none },
    { op := .mov (.c (.bool false)), dst := some 5 }]
def a74 : ACode := (.seq a74_r0 (.seq (.seq a74_r1 (.block 0 (.loop a74_l0))) (.seq a74_r6 .ret)))
def a74_res : List ARes := [.cell 4 5 true, .tmp 5]
theorem a74_ok : Coded Try.prog 74 34 a74 a74_res := ⟨Try.f74, _, by kernel_rfl, rfl, by kernel_rfl, rfl, by kernel_rfl, by kernel_rfl⟩
theorem a74_of {args : List AV} {Q : AV → Prop} (hl : args.length ≤ 34) (h : AW Try.prog 34 a74 (mkS (argT 0 args) [] 0) (retQ a74_res Q)) : ACall Try.prog 74 args Q := acall_coded a74_ok hl h

/- workflow/workflowref02.With -/
def a75_r0 : ACode := .reg [{ op := .box 5 true (.t 0), dst := some 3, k := 0 },
    { op := .box 5 true (.t 2), dst := some 5, k := 1 },
    { op := .alloc 5 true [.int .i64 0, .int .i64 0, .str [], .nils, .nils], dst := some 6, k := 2 }]
def a75_r1 : ACode := .reg [{ op := .build [.int .i64 0, .int .i64 0, .str [], .nils, .nils] [(0, 1, (.c (.int .i64 5)))], dst := some 10 },
    { op := .alloc 5 true [.int .i64 0, .int .i64 0, .str [], .nils, .nils], dst := some 7, k := 4 },
    { op := .store 5 true (.t 7) (.t 10), dst := none }]
def a75_r2 : ACode := .reg [{ op := .mov (.c (.bool false)), dst := some 8 }]
def a75_r3 : ACode := .reg [{ op := .mov (.c (.int .i64 0)), dst := some 9 }]
def a75_r4 : ACode := .reg [{ op := .mov (.t 9), dst := some 11 },
    { op := .fad 4 (.t 3), dst := some 12 },
    { op := .load 1 false (.t 12), dst := some 13 },
    { op := .len false (.t 13), dst := some 14 },
    { op := .bin .lss (.t 11) (.t 14), dst := some 15 }]
def a75_r6 : ACode := .reg [{ op := .mov (.t 8), dst := some 18 },
    { op := .not (.t 18), dst := some 19 },
    { op := .mov (.t 19), dst := some 20 },
    { op := .fad 4 (.t 3), dst := some 21, g := some (20, true) },
    { op := .load 1 false (.t 21), dst := some 22, g := some (20, true) },
    { op := .mov (.t 9), dst := some 23, g := some (20, true) },
    { op := .iad 1 (.t 22) (.t 23), dst := some 24, g := some (20, true) },
    { op := .load 1 false (.t 24), dst := some 25, g := some (20, true) },
    { op := .mov (.t 1), dst := some 26, g := some (20, true) },
    { op := .bin .geq (.t 25) (.t 26), dst := some 27, g := some (20, true) },
    { op := .pick (.t 20) (.t 27) (.c (.bool false)), dst := some 28 }]
def a75_r7 : ACode := .reg [{ op := .fad 4 (.t 7), dst := some 29 },
    { op := .load 1 false (.t 29), dst := some 30 },
    { op := .mov (.t 1), dst := some 31 },
    { op := .bsl 1 false 1 [.str []] [(0, (.t 31))], dst := some 32 },
    { op := .app 1 16 (.t 30) (.t 32), dst := some 33, k := 28 },
    { op := .fad 4 (.t 7), dst := some 34 },
    { op := .store 1 false (.t 34) (.t 33), dst := none }]
def a75_r8 : ACode := .reg [{ op := .fad 3 (.t 7), dst := some 35 },
    { op := .load 1 false (.t 35), dst := some 36 },
    { op := .load 5 true (.t 5), dst := some 37 },
    { op := .bsl 5 true 1 [.int .i64 0, .int .i64 0, .str [], .nils, .nils] [(0, (.t 37))], dst := some 38 },
    { op := .app 5 80 (.t 36) (.t 38), dst := some 39, k := 35 },
    { op := .fad 3 (.t 7), dst := some 40 },
    { op := .store 1 false (.t 40) (.t 39), dst := none }]
def a75_r9 : ACode := .reg [{ op := .mov (.c (.bool true)), dst := some 8 }]
def a75_r10 : ACode := .reg [{ op := .fad 4 (.t 3), dst := some 41 },
    { op := .load 1 false (.t 41), dst := some 42 },
    { op := .mov (.t 9), dst := some 43 },
    { op := .iad 1 (.t 42) (.t 43), dst := some 44 },
    { op := .load 1 false (.t 44), dst := some 45 },
    { op := .mov (.t 1), dst := some 46 },
    { op := .bin .neq (.t 45) (.t 46), dst := some 47 }]
def a75_r11 : ACode := .draw [{ op := .fad 4 (.t 7), dst := some 48 },
    { op := .load 1 false (.t 48), dst := some 49 },
    { op := .fad 4 (.t 3), dst := some 50 },
    { op := .load 1 false (.t 50), dst := some 51 },
    { op := .mov (.t 9), dst := some 52 },
    { op := .iad 1 (.t 51) (.t 52), dst := some 53 },
    { op := .load 1 false (.t 53), dst := some 54 },
    { op := .bsl 1 false 1 [.str []] [(0, (.t 54))], dst := some 55 },
    { op := .app 1 16 (.t 49) (.t 55), dst := some 56, k := 54 },
    { op := .fad 4 (.t 7), dst := some 57 },
    { op := .store 1 false (.t 57) (.t 56), dst := none }]
    []
    (.take 0 (.take 1 (.take 2 (.take 3 (.take 4 (.take 5 (.take 6 (.take 7 (.one 8 (.take 9 (.one 10 (.done))))))))))))
def a75_r12 : ACode := .draw [{ op := .fad 3 (.t 7), dst := some 58 },
    { op := .load 1 false (.t 58), dst := some 59 },
    { op := .fad 3 (.t 3), dst := some 60 },
    { op := .load 1 false (.t 60), dst := some 61 },
    { op := .mov (.t 9), dst := some 62 },
    { op := .iad 5 (.t 61) (.t 62), dst := some 63 },
    { op := .load 5 true (.t 63), dst := some 64 },
    { op := .bsl 5 true 1 [.int .i64 0, .int .i64 0, .str [], .nils, .nils] [(0, (.t 64))], dst := some 65 },
    { op := .app 5 80 (.t 59) (.t 65), dst := some 66, k := 65 },
    { op := .fad 3 (.t 7), dst := some 67 },
    { op := .store 1 false (.t 67) (.t 66), dst := none }]
    []
    (.take 0 (.take 1 (.take 2 (.take 3 (.take 4 (.take 5 (.take 6 (.take 7 (.one 8 (.take 9 (.one 10 (.done))))))))))))
def a75_r5 : ACode := .reg [{ op := .mov (.t 9), dst := some 16 },
    { op := .bin .add (.t 16) (.c (.int .i64 1)), dst := some 17 },
    { op := .mov (.t 17), dst := some 9 }]
def a75_l0 : ACode := (.seq (.seq a75_r4 (.cond (.t 15) .skip (.exit 0))) (.seq (.block 1 (.seq (.seq a75_r6 (.cond (.t 28) (.seq a75_r7 (.seq a75_r8 a75_r9)) .skip)) (.seq a75_r10 (.cond (.t 47) (.seq a75_r11 a75_r12) .skip)))) a75_r5))
def a75_r13 : ACode := .reg [{ op := .mov (.t 8), dst := some 68 },
    { op := .not (.t 68), dst := some 69 }]
def a75_r14 : ACode := .reg [{ op := .fad 4 (.t 7), dst := some 70 },
    { op := .load 1 false (.t 70), dst := some 71 },
    { op := .mov (.t 1), dst := some 72 },
    { op := .bsl 1 false 1 [.str []] [(0, (.t 72))], dst := some 73 },
    { op := .app 1 16 (.t 71) (.t 73), dst := some 74, k := 77 },
    { op := .fad 4 (.t 7), dst := some 75 },
    { op := .store 1 false (.t 75) (.t 74), dst := none }]
def a75_r15 : ACode := .reg [{ op := .fad 3 (.t 7), dst := some 76 },
    { op := .load 1 false (.t 76), dst := some 77 },
    { op := .load 5 true (.t 5), dst := some 78 },
    { op := .bsl 5 true 1 [.int .i64 0, .int .i64 0, .str [], .nils, .nils] [(0, (.t 78))], dst := some 79 },
    { op := .app 5 80 (.t 77) (.t 79), dst := some 80, k := 84 },
    { op := .fad 3 (.t 7), dst := some 81 },
    { op := .store 1 false (.t 81) (.t 80), dst := none }]
def a75_r16 : ACode := .reg [{ op := .load 5 true (.t 7), dst := some 82 },
    { op := .store 5 true (.t 6) (.t 82), dst := none }]
def a75 : ACode := (.seq a75_r0 (.seq a75_r1 (.seq a75_r2 (.seq (.seq a75_r3 (.block 0 (.loop a75_l0))) (.seq (.seq a75_r13 (.cond (.t 69) (.seq a75_r14 a75_r15) .skip)) (.seq a75_r16 .ret))))))
def a75_res : List ARes := [.cell 6 5 true]
theorem a75_ok : Coded Try.prog 75 83 a75 a75_res := ⟨Try.f75, _, by kernel_rfl, rfl, by kernel_rfl, rfl, by kernel_rfl, by kernel_rfl⟩
theorem a75_of {args : List AV} {Q : AV → Prop} (hl : args.length ≤ 83) (h : AW Try.prog 83 a75 (mkS (argT 0 args) [] 0) (retQ a75_res Q)) : ACall Try.prog 75 args Q := acall_coded a75_ok hl h

/- workflow/value.find -/
def a81_r0 : ACode := .reg [{ op := .box 5 true (.t 0), dst := some 2, k := 0 },
    { op := .mov (.c (.int .i64 0)), dst := some 4 },
    { op := .mov (.c (.bool false)), dst := some 5 },
    { op := .mov (.c (.bool false)), dst := some 6 }]
def a81_r1 : ACode := .reg [{ op := .fad 0 (.t 2), dst := some 7 },
    { op := .load 1 false (.t 7), dst := some 8 },
    { op := .bin .neq (.t 8) (.c (.int .i64 5)), dst := some 9 },
    { op := .mov (.t 9), dst := some 10 },
    { op := .load 5 true (.t 2), dst := some 11, g := some (10, false) },
    { op := .call 57 [(.t 11), (.c (.bool true))], dst := some 12, g := some (10, false) },
    { op := .not (.t 12), dst := some 13, g := some (10, false) },
    { op := .pick (.t 10) (.c (.bool true)) (.t 13), dst := some 14 }]
def a81_r2 : ACode := .reg [{ op := .mov (.c (.int .i64 0)), dst := some 4 },
    { op := .mov (.c (.bool false)), dst := some 5 },
    { op := .mov (.c (.bool false)), dst := some 6 }]
def a81_r3 : ACode := .reg [{ op := .fad 4 (.t 2), dst := some 16 },
    { op := .load 1 false (.t 16), dst := some 17 },
    { op := .mov (.t 1), dst := some 18 },
    { op := .call 108 [(.t 17), (.t 18)], dst := some 19 },
    { op := .mov (.t 19), dst := some 15 },
    { op := .ext (.t 15) 0, dst := some 20 },
    { op := .ext (.t 15) 1, dst := some 21 },
    { op := .mov (.t 20), dst := some 4 },
    { op := .mov (.t 21), dst := some 5 }]
def a81_r4 : ACode := .reg [{ op := .mov (.t 4), dst := some 22 },
    { op := .mov (.t 5), dst := some 23 },
    { op := .mov (.t 22), dst := some 4 },
    { op := .mov (.t 23), dst := some 5 },
    { op := .mov (.c (.bool true)), dst := some 6 }]
def a81 : ACode := (.seq a81_r0 (.seq (.seq a81_r1 (.cond (.t 14) (.seq a81_r2 .ret) .skip)) (.seq a81_r3 (.seq a81_r4 .ret))))
def a81_res : List ARes := [.tmp 4, .tmp 5, .tmp 6]
theorem a81_ok : Coded Try.prog 81 24 a81 a81_res := ⟨Try.f81, _, by kernel_rfl, rfl, by kernel_rfl, rfl, by kernel_rfl, by kernel_rfl⟩
theorem a81_of {args : List AV} {Q : AV → Prop} (hl : args.length ≤ 24) (h : AW Try.prog 24 a81 (mkS (argT 0 args) [] 0) (retQ a81_res Q)) : ACall Try.prog 81 args Q := acall_coded a81_ok hl h

/- slices.Insert[[]string,string] -/
def a82_r0 : ACode := .reg [{ op := .mov (.c (.nils)), dst := some 6 }]
def a82_r1 : ACode := .reg [{ op := .mov (.t 0), dst := some 10 },
    { op := .mov (.t 1), dst := some 11 },
    { op := .slice 1 (.t 10) (some (.t 11)) none none, dst := some 12 }]
def a82_r2 : ACode := .reg [{ op := .mov (.t 2), dst := some 13 },
    { op := .len false (.t 13), dst := some 14 },
    { op := .mov (.t 14), dst := some 7 }]
def a82_r3 : ACode := .reg [{ op := .mov (.t 7), dst := some 15 },
    { op := .bin .eql (.t 15) (.c (.int .i64 0)), dst := some 16 }]
def a82_r4 : ACode := .reg [{ op := .mov (.t 0), dst := some 17 },
    { op := .mov (.t 17), dst := some 6 }]
def a82_r5 : ACode := .reg [{ op := .mov (.t 0), dst := some 18 },
    { op := .len false (.t 18), dst := some 19 },
    { op := .mov (.t 19), dst := some 8 }]
def a82_r6 : ACode := .reg [{ op := .mov (.t 1), dst := some 20 },
    { op := .mov (.t 8), dst := some 21 },
    { op := .bin .eql (.t 20) (.t 21), dst := some 22 }]
def a82_r7 : ACode := .reg [{ op := .mov (.t 0), dst := some 23 },
    { op := .mov (.t 2), dst := some 24 },
    { op := .app 1 16 (.t 23) (.t 24), dst := some 25, k := 19 },
    { op := .mov (.t 25), dst := some 6 }]
def a82_r8 : ACode := .reg [{ op := .mov (.t 8), dst := some 26 },
    { op := .mov (.t 7), dst := some 27 },
    { op := .bin .add (.t 26) (.t 27), dst := some 28 },
    { op := .mov (.t 0), dst := some 29 },
    { op := .cap 1 (.t 29), dst := some 30 },
    { op := .bin .gtr (.t 28) (.t 30), dst := some 31 }]
def a82_r9 : ACode := .reg [{ op := .mov (.t 0), dst := some 32 },
    { op := .mov (.t 1), dst := some 33 },
    { op := .slice 1 (.t 32) none (some (.t 33)) none, dst := some 34 },
    { op := .mov (.t 8), dst := some 35 },
    { op := .mov (.t 7), dst := some 36 },
    { op := .bin .add (.t 35) (.t 36), dst := some 37 },
    { op := .mov (.t 1), dst := some 38 },
    { op := .bin .sub (.t 37) (.t 38), dst := some 39 },
    { op := .apz 1 16 false [.str []] (.t 34) (.t 39) 30, dst := some 40, k := 35 },
    { op := .mov (.t 40), dst := some 9 }]
def a82_r10 : ACode := .reg [{ op := .mov (.t 9), dst := some 41 },
    { op := .mov (.t 1), dst := some 42 },
    { op := .slice 1 (.t 41) (some (.t 42)) none none, dst := some 43 },
    { op := .mov (.t 2), dst := some 44 },
    { op := .cpy 1 (.t 43) (.t 44), dst := some 45 }]
def a82_r11 : ACode := .draw [{ op := .mov (.t 9), dst := some 46 },
    { op := .mov (.t 1), dst := some 47 },
    { op := .mov (.t 7), dst := some 48 },
    { op := .bin .add (.t 47) (.t 48), dst := some 49 },
    { op := .slice 1 (.t 46) (some (.t 49)) none none, dst := some 50 },
    { op := .mov (.t 0), dst := some 51 },
    { op := .mov (.t 1), dst := some 52 },
    { op := .slice 1 (.t 51) (some (.t 52)) none none, dst := some 53 },
    { op := .cpy 1 (.t 50) (.t 53), dst := some 54 }]
    []
    (.take 0 (.take 1 (.take 2 (.take 3 (.take 4 (.take 5 (.take 6 (.take 7 (.one 8 (.done))))))))))
def a82_r12 : ACode := .reg [{ op := .mov (.t 9), dst := some 55 },
    { op := .mov (.t 55), dst := some 6 }]
def a82_r13 : ACode := .reg [{ op := .mov (.t 0), dst := some 56 },
    { op := .mov (.t 8), dst := some 57 },
    { op := .mov (.t 7), dst := some 58 },
    { op := .bin .add (.t 57) (.t 58), dst := some 59 },
    { op := .slice 1 (.t 56) none (some (.t 59)) none, dst := some 60 },
    { op := .mov (.t 60), dst := some 0 }]
def a82_r14 : ACode := .reg [{ op := .mov (.t 2), dst := some 61 },
    { op := .mov (.t 0), dst := some 62 },
    { op := .mov (.t 1), dst := some 63 },
    { op := .mov (.t 7), dst := some 64 },
    { op := .bin .add (.t 63) (.t 64), dst := some 65 },
    { op := .slice 1 (.t 62) (some (.t 65)) none none, dst := some 66 },
    { op := .ovl (.t 61) (.t 66), dst := some 67 },
    { op := .not (.t 67), dst := some 68 }]
def a82_r15 : ACode := .draw [{ op := .mov (.t 0), dst := some 69 },
    { op := .mov (.t 1), dst := some 70 },
    { op := .mov (.t 7), dst := some 71 },
    { op := .bin .add (.t 70) (.t 71), dst := some 72 },
    { op := .slice 1 (.t 69) (some (.t 72)) none none, dst := some 73 },
    { op := .mov (.t 0), dst := some 74 },
    { op := .mov (.t 1), dst := some 75 },
    { op := .slice 1 (.t 74) (some (.t 75)) none none, dst := some 76 },
    { op := .cpy 1 (.t 73) (.t 76), dst := some 77 }]
    []
    (.take 0 (.take 1 (.take 2 (.take 3 (.take 4 (.take 5 (.take 6 (.take 7 (.one 8 (.done))))))))))
def a82_r16 : ACode := .reg [{ op := .mov (.t 0), dst := some 78 },
    { op := .mov (.t 1), dst := some 79 },
    { op := .slice 1 (.t 78) (some (.t 79)) none none, dst := some 80 },
    { op := .mov (.t 2), dst := some 81 },
    { op := .cpy 1 (.t 80) (.t 81), dst := some 82 }]
def a82_r17 : ACode := .reg [{ op := .mov (.t 0), dst := some 83 },
    { op := .mov (.t 83), dst := some 6 }]
def a82_r18 : ACode := .reg [{ op := .mov (.t 0), dst := some 84 },
    { op := .mov (.t 8), dst := some 85 },
    { op := .slice 1 (.t 84) (some (.t 85)) none none, dst := some 86 },
    { op := .mov (.t 2), dst := some 87 },
    { op := .cpy 1 (.t 86) (.t 87), dst := some 88 }]
def a82_r19 : ACode := .reg [{ op := .mov (.t 0), dst := some 89 },
    { op := .mov (.t 1), dst := some 90 },
    { op := .slice 1 (.t 89) (some (.t 90)) none none, dst := some 91 },
    { op := .mov (.t 7), dst := some 92 },
    { op := .call 110 [(.t 91), (.t 92)], dst := some 93 }]
def a82_r20 : ACode := .reg [{ op := .mov (.t 0), dst := some 94 },
    { op := .mov (.t 94), dst := some 6 }]
def a82 : ACode := (.seq a82_r0 (.seq a82_r1 (.seq a82_r2 (.seq (.seq a82_r3 (.cond (.t 16) (.seq a82_r4 .ret) .skip)) (.seq a82_r5 (.seq (.seq a82_r6 (.cond (.t 22) (.seq a82_r7 .ret) .skip)) (.seq (.seq a82_r8 (.cond (.t 31) (.seq a82_r9 (.seq a82_r10 (.seq a82_r11 (.seq a82_r12 .ret)))) .skip)) (.seq a82_r13 (.seq (.seq a82_r14 (.cond (.t 68) (.seq a82_r15 (.seq a82_r16 (.seq a82_r17 .ret))) .skip)) (.seq a82_r18 (.seq a82_r19 (.seq a82_r20 .ret))))))))))))
def a82_res : List ARes := [.tmp 6]
theorem a82_ok : Coded Try.prog 82 95 a82 a82_res := ⟨Try.f82, _, by kernel_rfl, rfl, by kernel_rfl, rfl, by kernel_rfl, by kernel_rfl⟩
theorem a82_of {args : List AV} {Q : AV → Prop} (hl : args.length ≤ 95) (h : AW Try.prog 95 a82 (mkS (argT 0 args) [] 0) (retQ a82_res Q)) : ACall Try.prog 82 args Q := acall_coded a82_ok hl h

/- slices.Insert[[]workflow/api.Value,workflow/api.Value] -/
def a83_r0 : ACode := .reg [{ op := .mov (.c (.nils)), dst := some 6 }]
def a83_r1 : ACode := .reg [{ op := .mov (.t 0), dst := some 10 },
    { op := .mov (.t 1), dst := some 11 },
    { op := .slice 5 (.t 10) (some (.t 11)) none none, dst := some 12 }]
def a83_r2 : ACode := .reg [{ op := .mov (.t 2), dst := some 13 },
    { op := .len false (.t 13), dst := some 14 },
    { op := .mov (.t 14), dst := some 7 }]
def a83_r3 : ACode := .reg [{ op := .mov (.t 7), dst := some 15 },
    { op := .bin .eql (.t 15) (.c (.int .i64 0)), dst := some 16 }]
def a83_r4 : ACode := .reg [{ op := .mov (.t 0), dst := some 17 },
    { op := .mov (.t 17), dst := some 6 }]
def a83_r5 : ACode := .reg [{ op := .mov (.t 0), dst := some 18 },
    { op := .len false (.t 18), dst := some 19 },
    { op := .mov (.t 19), dst := some 8 }]
def a83_r6 : ACode := .reg [{ op := .mov (.t 1), dst := some 20 },
    { op := .mov (.t 8), dst := some 21 },
    { op := .bin .eql (.t 20) (.t 21), dst := some 22 }]
def a83_r7 : ACode := .reg [{ op := .mov (.t 0), dst := some 23 },
    { op := .mov (.t 2), dst := some 24 },
    { op := .app 5 80 (.t 23) (.t 24), dst := some 25, k := 19 },
    { op := .mov (.t 25), dst := some 6 }]
def a83_r8 : ACode := .reg [{ op := .mov (.t 8), dst := some 26 },
    { op := .mov (.t 7), dst := some 27 },
    { op := .bin .add (.t 26) (.t 27), dst := some 28 },
    { op := .mov (.t 0), dst := some 29 },
    { op := .cap 5 (.t 29), dst := some 30 },
    { op := .bin .gtr (.t 28) (.t 30), dst := some 31 }]
def a83_r9 : ACode := .reg [{ op := .mov (.t 0), dst := some 32 },
    { op := .mov (.t 1), dst := some 33 },
    { op := .slice 5 (.t 32) none (some (.t 33)) none, dst := some 34 },
    { op := .mov (.t 8), dst := some 35 },
    { op := .mov (.t 7), dst := some 36 },
    { op := .bin .add (.t 35) (.t 36), dst := some 37 },
    { op := .mov (.t 1), dst := some 38 },
    { op := .bin .sub (.t 37) (.t 38), dst := some 39 },
    { op := .apz 5 80 true [.int .i64 0, .int .i64 0, .str [], .nils, .nils] (.t 34) (.t 39) 30, dst := some 40, k := 35 },
    { op := .mov (.t 40), dst := some 9 }]
def a83_r10 : ACode := .reg [{ op := .mov (.t 9), dst := some 41 },
    { op := .mov (.t 1), dst := some 42 },
    { op := .slice 5 (.t 41) (some (.t 42)) none none, dst := some 43 },
    { op := .mov (.t 2), dst := some 44 },
    { op := .cpy 5 (.t 43) (.t 44), dst := some 45 }]
def a83_r11 : ACode := .draw [{ op := .mov (.t 9), dst := some 46 },
    { op := .mov (.t 1), dst := some 47 },
    { op := .mov (.t 7), dst := some 48 },
    { op := .bin .add (.t 47) (.t 48), dst := some 49 },
    { op := .slice 5 (.t 46) (some (.t 49)) none none, dst := some 50 },
    { op := .mov (.t 0), dst := some 51 },
    { op := .mov (.t 1), dst := some 52 },
    { op := .slice 5 (.t 51) (some (.t 52)) none none, dst := some 53 },
    { op := .cpy 5 (.t 50) (.t 53), dst := some 54 }]
    []
    (.take 0 (.take 1 (.take 2 (.take 3 (.take 4 (.take 5 (.take 6 (.take 7 (.one 8 (.done))))))))))
def a83_r12 : ACode := .reg [{ op := .mov (.t 9), dst := some 55 },
    { op := .mov (.t 55), dst := some 6 }]
def a83_r13 : ACode := .reg [{ op := .mov (.t 0), dst := some 56 },
    { op := .mov (.t 8), dst := some 57 },
    { op := .mov (.t 7), dst := some 58 },
    { op := .bin .add (.t 57) (.t 58), dst := some 59 },
    { op := .slice 5 (.t 56) none (some (.t 59)) none, dst := some 60 },
    { op := .mov (.t 60), dst := some 0 }]
def a83_r14 : ACode := .reg [{ op := .mov (.t 2), dst := some 61 },
    { op := .mov (.t 0), dst := some 62 },
    { op := .mov (.t 1), dst := some 63 },
    { op := .mov (.t 7), dst := some 64 },
    { op := .bin .add (.t 63) (.t 64), dst := some 65 },
    { op := .slice 5 (.t 62) (some (.t 65)) none none, dst := some 66 },
    { op := .ovl (.t 61) (.t 66), dst := some 67 },
    { op := .not (.t 67), dst := some 68 }]
def a83_r15 : ACode := .draw [{ op := .mov (.t 0), dst := some 69 },
    { op := .mov (.t 1), dst := some 70 },
    { op := .mov (.t 7), dst := some 71 },
    { op := .bin .add (.t 70) (.t 71), dst := some 72 },
    { op := .slice 5 (.t 69) (some (.t 72)) none none, dst := some 73 },
    { op := .mov (.t 0), dst := some 74 },
    { op := .mov (.t 1), dst := some 75 },
    { op := .slice 5 (.t 74) (some (.t 75)) none none, dst := some 76 },
    { op := .cpy 5 (.t 73) (.t 76), dst := some 77 }]
    []
    (.take 0 (.take 1 (.take 2 (.take 3 (.take 4 (.take 5 (.take 6 (.take 7 (.one 8 (.done))))))))))
def a83_r16 : ACode := .reg [{ op := .mov (.t 0), dst := some 78 },
    { op := .mov (.t 1), dst := some 79 },
    { op := .slice 5 (.t 78) (some (.t 79)) none none, dst := some 80 },
    { op := .mov (.t 2), dst := some 81 },
    { op := .cpy 5 (.t 80) (.t 81), dst := some 82 }]
def a83_r17 : ACode := .reg [{ op := .mov (.t 0), dst := some 83 },
    { op := .mov (.t 83), dst := some 6 }]
def a83_r18 : ACode := .reg [{ op := .mov (.t 0), dst := some 84 },
    { op := .mov (.t 8), dst := some 85 },
    { op := .slice 5 (.t 84) (some (.t 85)) none none, dst := some 86 },
    { op := .mov (.t 2), dst := some 87 },
    { op := .cpy 5 (.t 86) (.t 87), dst := some 88 }]
def a83_r19 : ACode := .reg [{ op := .mov (.t 0), dst := some 89 },
    { op := .mov (.t 1), dst := some 90 },
    { op := .slice 5 (.t 89) (some (.t 90)) none none, dst := some 91 },
    { op := .mov (.t 7), dst := some 92 },
    { op := .call 112 [(.t 91), (.t 92)], dst := some 93 }]
def a83_r20 : ACode := .reg [{ op := .mov (.t 0), dst := some 94 },
    { op := .mov (.t 94), dst := some 6 }]
def a83 : ACode := (.seq a83_r0 (.seq a83_r1 (.seq a83_r2 (.seq (.seq a83_r3 (.cond (.t 16) (.seq a83_r4 .ret) .skip)) (.seq a83_r5 (.seq (.seq a83_r6 (.cond (.t 22) (.seq a83_r7 .ret) .skip)) (.seq (.seq a83_r8 (.cond (.t 31) (.seq a83_r9 (.seq a83_r10 (.seq a83_r11 (.seq a83_r12 .ret)))) .skip)) (.seq a83_r13 (.seq (.seq a83_r14 (.cond (.t 68) (.seq a83_r15 (.seq a83_r16 (.seq a83_r17 .ret))) .skip)) (.seq a83_r18 (.seq a83_r19 (.seq a83_r20 .ret))))))))))))
def a83_res : List ARes := [.tmp 6]
theorem a83_ok : Coded Try.prog 83 95 a83 a83_res := ⟨Try.f83, _, by kernel_rfl, rfl, by kernel_rfl, rfl, by kernel_rfl, by kernel_rfl⟩
theorem a83_of {args : List AV} {Q : AV → Prop} (hl : args.length ≤ 95) (h : AW Try.prog 95 a83 (mkS (argT 0 args) [] 0) (retQ a83_res Q)) : ACall Try.prog 83 args Q := acall_coded a83_ok hl h

/- slices.Delete[[]string,string] -/
def a84_r0 : ACode := .reg [{ op := .mov (.c (.nils)), dst := some 6 }]
def a84_r1 : ACode := .reg [{ op := .mov (.t 0), dst := some 8 },
    { op := .mov (.t 1), dst := some 9 },
    { op := .mov (.t 2), dst := some 10 },
    { op := .mov (.t 0), dst := some 11 },
    { op := .len false (.t 11), dst := some 12 },
    { op := .slm (.t 8) (.t 9) (.t 10) (.t 12), dst := some 13 }]
def a84_r2 : ACode := .reg [{ op := .mov (.t 1), dst := some 14 },
    { op := .mov (.t 2), dst := some 15 },
    { op := .bin .eql (.t 14) (.t 15), dst := some 16 }]
def a84_r3 : ACode := .reg [{ op := .mov (.t 0), dst := some 17 },
    { op := .mov (.t 17), dst := some 6 }]
def a84_r4 : ACode := .reg [{ op := .mov (.t 0), dst := some 18 },
    { op := .len false (.t 18), dst := some 19 },
    { op := .mov (.t 19), dst := some 7 }]
def a84_r5 : ACode := .draw [{ op := .mov (.t 0), dst := some 20 },
    { op := .mov (.t 1), dst := some 21 },
    { op := .slice 1 (.t 20) none (some (.t 21)) none, dst := some 22 },
    { op := .mov (.t 0), dst := some 23 },
    { op := .mov (.t 2), dst := some 24 },
    { op := .slice 1 (.t 23) (some (.t 24)) none none, dst := some 25 },
    { op := .app 1 16 (.t 22) (.t 25), dst := some 26, k := 21 },
    { op := .mov (.t 26), dst := some 0 }]
    []
    (.take 0 (.take 1 (.take 2 (.take 3 (.take 4 (.take 5 (.one 6 (.one 7 (.done)))))))))
def a84_r6 : ACode := .reg [{ op := .mov (.t 0), dst := some 27 },
    { op := .mov (.t 0), dst := some 28 },
    { op := .len false (.t 28), dst := some 29 },
    { op := .mov (.t 7), dst := some 30 },
    { op := .slice 1 (.t 27) (some (.t 29)) (some (.t 30)) none, dst := some 31 },
    { op := .clr 1 false [.str []] (.t 31), dst := none }]
def a84_r7 : ACode := .reg [{ op := .mov (.t 0), dst := some 32 },
    { op := .mov (.t 32), dst := some 6 }]
def a84 : ACode := (.seq a84_r0 (.seq a84_r1 (.seq (.seq a84_r2 (.cond (.t 16) (.seq a84_r3 .ret) .skip)) (.seq a84_r4 (.seq a84_r5 (.seq a84_r6 (.seq a84_r7 .ret)))))))
def a84_res : List ARes := [.tmp 6]
theorem a84_ok : Coded Try.prog 84 33 a84 a84_res := ⟨Try.f84, _, by kernel_rfl, rfl, by kernel_rfl, rfl, by kernel_rfl, by kernel_rfl⟩
theorem a84_of {args : List AV} {Q : AV → Prop} (hl : args.length ≤ 33) (h : AW Try.prog 33 a84 (mkS (argT 0 args) [] 0) (retQ a84_res Q)) : ACall Try.prog 84 args Q := acall_coded a84_ok hl h

/- slices.Delete[[]workflow/api.Value,workflow/api.Value] -/
def a85_r0 : ACode := .reg [{ op := .mov (.c (.nils)), dst := some 6 }]
def a85_r1 : ACode := .reg [{ op := .mov (.t 0), dst := some 8 },
    { op := .mov (.t 1), dst := some 9 },
    { op := .mov (.t 2), dst := some 10 },
    { op := .mov (.t 0), dst := some 11 },
    { op := .len false (.t 11), dst := some 12 },
    { op := .slm (.t 8) (.t 9) (.t 10) (.t 12), dst := some 13 }]
def a85_r2 : ACode := .reg [{ op := .mov (.t 1), dst := some 14 },
    { op := .mov (.t 2), dst := some 15 },
    { op := .bin .eql (.t 14) (.t 15), dst := some 16 }]
def a85_r3 : ACode := .reg [{ op := .mov (.t 0), dst := some 17 },
    { op := .mov (.t 17), dst := some 6 }]
def a85_r4 : ACode := .reg [{ op := .mov (.t 0), dst := some 18 },
    { op := .len false (.t 18), dst := some 19 },
    { op := .mov (.t 19), dst := some 7 }]
def a85_r5 : ACode := .draw [{ op := .mov (.t 0), dst := some 20 },
    { op := .mov (.t 1), dst := some 21 },
    { op := .slice 5 (.t 20) none (some (.t 21)) none, dst := some 22 },
    { op := .mov (.t 0), dst := some 23 },
    { op := .mov (.t 2), dst := some 24 },
    { op := .slice 5 (.t 23) (some (.t 24)) none none, dst := some 25 },
    { op := .app 5 80 (.t 22) (.t 25), dst := some 26, k := 21 },
    { op := .mov (.t 26), dst := some 0 }]
    []
    (.take 0 (.take 1 (.take 2 (.take 3 (.take 4 (.take 5 (.one 6 (.one 7 (.done)))))))))
def a85_r6 : ACode := .reg [{ op := .mov (.t 0), dst := some 27 },
    { op := .mov (.t 0), dst := some 28 },
    { op := .len false (.t 28), dst := some 29 },
    { op := .mov (.t 7), dst := some 30 },
    { op := .slice 5 (.t 27) (some (.t 29)) (some (.t 30)) none, dst := some 31 },
    { op := .clr 5 true [.int .i64 0, .int .i64 0, .str [], .nils, .nils] (.t 31), dst := none }]
def a85_r7 : ACode := .reg [{ op := .mov (.t 0), dst := some 32 },
    { op := .mov (.t 32), dst := some 6 }]
def a85 : ACode := (.seq a85_r0 (.seq a85_r1 (.seq (.seq a85_r2 (.cond (.t 16) (.seq a85_r3 .ret) .skip)) (.seq a85_r4 (.seq a85_r5 (.seq a85_r6 (.seq a85_r7 .ret)))))))
def a85_res : List ARes := [.tmp 6]
theorem a85_ok : Coded Try.prog 85 33 a85 a85_res := ⟨Try.f85, _, by kernel_rfl, rfl, by kernel_rfl, rfl, by kernel_rfl, by kernel_rfl⟩
theorem a85_of {args : List AV} {Q : AV → Prop} (hl : args.length ≤ 33) (h : AW Try.prog 33 a85 (mkS (argT 0 args) [] 0) (retQ a85_res Q)) : ACall Try.prog 85 args Q := acall_coded a85_ok hl h

/- workflow/value.ascending -/
def a86_r0 : ACode := .reg [{ op := .mov (.c (.bool false)), dst := some 2 }]
def a86_r1 : ACode := .reg [{ op := .mov (.c (.int .i64 1)), dst := some 3 }]
def a86_r2 : ACode := .reg [{ op := .mov (.t 3), dst := some 4 },
    { op := .mov (.t 0), dst := some 5 },
    { op := .len false (.t 5), dst := some 6 },
    { op := .bin .lss (.t 4) (.t 6), dst := some 7 }]
def a86_r4 : ACode := .draw [{ op := .mov (.t 0), dst := some 10 },
    { op := .mov (.t 3), dst := some 11 },
    { op := .bin .sub (.t 11) (.c (.int .i64 1)), dst := some 12 },
    { op := .iad 1 (.t 10) (.t 12), dst := some 13 },
    { op := .load 1 false (.t 13), dst := some 14 },
    { op := .mov (.t 0), dst := some 15 },
    { op := .mov (.t 3), dst := some 16 },
    { op := .iad 1 (.t 15) (.t 16), dst := some 17 },
    { op := .load 1 false (.t 17), dst := some 18 },
    { op := .bin .geq (.t 14) (.t 18), dst := some 19 }]
    []
    (.take 0 (.take 1 (.take 2 (.take 3 (.take 4 (.take 5 (.take 6 (.take 7 (.take 8 (.take 9 (.done)))))))))))
def a86_r5 : ACode := .reg [{ op := .mov (.c (.bool false)), dst := some 2 }]
def a86_r3 : ACode := .reg [{ op := .mov (.t 3), dst := some 8 },
    { op := .bin .add (.t 8) (.c (.int .i64 1)), dst := some 9 },
    { op := .mov (.t 9), dst := some 3 }]
def a86_l0 : ACode := (.seq (.seq a86_r2 (.cond (.t 7) .skip (.exit 0))) (.seq (.block 1 (.seq a86_r4 (.cond (.t 19) (.seq a86_r5 .ret) .skip))) a86_r3))
def a86_r6 : ACode := .reg [{ op := .mov (.c (.bool true)), dst := some 2 }]
def a86 : ACode := (.seq a86_r0 (.seq (.seq a86_r1 (.block 0 (.loop a86_l0))) (.seq a86_r6 .ret)))
def a86_res : List ARes := [.tmp 2]
theorem a86_ok : Coded Try.prog 86 20 a86 a86_res := ⟨Try.f86, _, by kernel_rfl, rfl, by kernel_rfl, rfl, by kernel_rfl, by kernel_rfl⟩
theorem a86_of {args : List AV} {Q : AV → Prop} (hl : args.length ≤ 20) (h : AW Try.prog 20 a86 (mkS (argT 0 args) [] 0) (retQ a86_res Q)) : ACall Try.prog 86 args Q := acall_coded a86_ok hl h

/- slices.ContainsFunc[[]workflow/api.Value,workflow/api.Value] -/
def a87_r0 : ACode := .reg [{ op := .mov (.c (.bool false)), dst := some 4 }]
def a87_r1 : ACode := .reg [{ op := .mov (.t 0), dst := some 5 },
    { op := .mov (.t 1), dst := some 6 },
    { op := .call 113 [(.t 5), (.t 6)], dst := some 7 },
    { op := .bin .geq (.t 7) (.c (.int .i64 0)), dst := some 8 },
    { op := .mov (.t 8), dst := some 4 }]
def a87 : ACode := (.seq a87_r0 (.seq a87_r1 .ret))
def a87_res : List ARes := [.tmp 4]
theorem a87_ok : Coded Try.prog 87 9 a87 a87_res := ⟨Try.f87, _, by kernel_rfl, rfl, by kernel_rfl, rfl, by kernel_rfl, by kernel_rfl⟩
theorem a87_of {args : List AV} {Q : AV → Prop} (hl : args.length ≤ 9) (h : AW Try.prog 9 a87 (mkS (argT 0 args) [] 0) (retQ a87_res Q)) : ACall Try.prog 87 args Q := acall_coded a87_ok hl h

/- workflow/value.formed$1 -/
def a88_r0 : ACode := .reg [{ op := .box 5 true (.t 0), dst := some 2, k := 0 },
    { op := .mov (.c (.bool false)), dst := some 3 }]
def a88_r1 : ACode := .reg [{ op := .load 5 true (.t 2), dst := some 4 },
    { op := .load 1 false (.t 1), dst := some 5 },
    { op := .call 57 [(.t 4), (.t 5)], dst := some 6 },
    { op := .not (.t 6), dst := some 7 },
    { op := .mov (.t 7), dst := some 3 }]
def a88 : ACode := (.seq a88_r0 (.seq a88_r1 .ret))
def a88_res : List ARes := [.tmp 3]
theorem a88_ok : Coded Try.prog 88 8 a88 a88_res := ⟨Try.f88, _, by kernel_rfl, rfl, by kernel_rfl, rfl, by kernel_rfl, by kernel_rfl⟩
theorem a88_of {args : List AV} {Q : AV → Prop} (hl : args.length ≤ 8) (h : AW Try.prog 8 a88 (mkS (argT 0 args) [] 0) (retQ a88_res Q)) : ACall Try.prog 88 args Q := acall_coded a88_ok hl h

/- workflow/value.compare -/
def a89_r0 : ACode := .reg [{ op := .mov (.c (.int .i64 0)), dst := some 4 }]
def a89_r1 : ACode := .reg [{ op := .mov (.t 0), dst := some 6 },
    { op := .mov (.t 1), dst := some 7 },
    { op := .bin .lss (.t 6) (.t 7), dst := some 8 },
    { op := .mov (.t 8), dst := some 5 }]
def a89_r2 : ACode := .reg [{ op := .mov (.c (.int .i64 (-1))), dst := some 4 }]
def a89_r3 : ACode := .reg [{ op := .mov (.t 0), dst := some 10 },
    { op := .mov (.t 1), dst := some 11 },
    { op := .bin .gtr (.t 10) (.t 11), dst := some 12 },
    { op := .mov (.t 12), dst := some 9 }]
def a89_r4 : ACode := .reg [{ op := .mov (.c (.int .i64 1)), dst := some 4 }]
def a89_r5 : ACode := .reg [{ op := .mov (.c (.int .i64 0)), dst := some 4 }]
def a89 : ACode := (.seq a89_r0 (.seq (.block 0 (.seq a89_r1 (.cond (.t 5) (.seq a89_r2 .ret) (.seq a89_r3 (.cond (.t 9) (.seq a89_r4 .ret) .skip))))) (.seq a89_r5 .ret)))
def a89_res : List ARes := [.tmp 4]
theorem a89_ok : Coded Try.prog 89 13 a89 a89_res := ⟨Try.f89, _, by kernel_rfl, rfl, by kernel_rfl, rfl, by kernel_rfl, by kernel_rfl⟩
theorem a89_of {args : List AV} {Q : AV → Prop} (hl : args.length ≤ 13) (h : AW Try.prog 13 a89 (mkS (argT 0 args) [] 0) (retQ a89_res Q)) : ACall Try.prog 89 args Q := acall_coded a89_ok hl h

/- workflow/value.short -/
def a95_r0 : ACode := .reg [{ op := .box 5 true (.t 0), dst := some 1, k := 0 },
    { op := .mov (.c (.bool false)), dst := some 2 }]
def a95_r1 : ACode := .reg [{ op := .fad 2 (.t 1), dst := some 3 },
    { op := .load 1 false (.t 3), dst := some 4 },
    { op := .len true (.t 4), dst := some 5 },
    { op := .bin .gtr (.t 5) (.c (.int .i64 4096)), dst := some 6 },
    { op := .mov (.t 6), dst := some 7 },
    { op := .fad 4 (.t 1), dst := some 8, g := some (7, false) },
    { op := .load 1 false (.t 8), dst := some 9, g := some (7, false) },
    { op := .call 115 [(.t 9), (.c (.fn 116))], dst := some 10, g := some (7, false) },
    { op := .pick (.t 7) (.c (.bool true)) (.t 10), dst := some 11 }]
def a95_r2 : ACode := .reg [{ op := .mov (.c (.bool false)), dst := some 2 }]
def a95_r3 : ACode := .reg [{ op := .fad 3 (.t 1), dst := some 12 },
    { op := .load 1 false (.t 12), dst := some 13 },
    { op := .call 87 [(.t 13), (.c (.fn 117))], dst := some 14 },
    { op := .not (.t 14), dst := some 15 },
    { op := .mov (.t 15), dst := some 2 }]
def a95 : ACode := (.seq a95_r0 (.seq (.seq a95_r1 (.cond (.t 11) (.seq a95_r2 .ret) .skip)) (.seq a95_r3 .ret)))
def a95_res : List ARes := [.tmp 2]
theorem a95_ok : Coded Try.prog 95 16 a95 a95_res := ⟨Try.f95, _, by kernel_rfl, rfl, by kernel_rfl, rfl, by kernel_rfl, by kernel_rfl⟩
theorem a95_of {args : List AV} {Q : AV → Prop} (hl : args.length ≤ 16) (h : AW Try.prog 16 a95 (mkS (argT 0 args) [] 0) (retQ a95_res Q)) : ACall Try.prog 95 args Q := acall_coded a95_ok hl h

/- workflow/workflowref02.Short -/
def a96_r0 : ACode := .reg [{ op := .box 5 true (.t 0), dst := some 1, k := 0 },
    { op := .mov (.c (.bool false)), dst := some 2 }]
def a96_r1 : ACode := .reg [{ op := .fad 2 (.t 1), dst := some 5 },
    { op := .load 1 false (.t 5), dst := some 6 },
    { op := .len true (.t 6), dst := some 7 },
    { op := .bin .gtr (.t 7) (.c (.int .i64 4096)), dst := some 8 }]
def a96_r2 : ACode := .reg [{ op := .mov (.c (.bool false)), dst := some 2 }]
def a96_r3 : ACode := .reg [{ op := .mov (.c (.int .i64 0)), dst := some 3 }]
def a96_r4 : ACode := .reg [{ op := .mov (.t 3), dst := some 9 },
    { op := .fad 4 (.t 1), dst := some 10 },
    { op := .load 1 false (.t 10), dst := some 11 },
    { op := .len false (.t 11), dst := some 12 },
    { op := .bin .lss (.t 9) (.t 12), dst := some 13 }]
def a96_r6 : ACode := .reg [{ op := .fad 4 (.t 1), dst := some 16 },
    { op := .load 1 false (.t 16), dst := some 17 },
    { op := .mov (.t 3), dst := some 18 },
    { op := .iad 1 (.t 17) (.t 18), dst := some 19 },
    { op := .load 1 false (.t 19), dst := some 20 },
    { op := .len true (.t 20), dst := some 21 },
    { op := .bin .gtr (.t 21) (.c (.int .i64 4096)), dst := some 22 }]
def a96_r7 : ACode := .reg [{ op := .mov (.c (.bool false)), dst := some 2 }]
def a96_r5 : ACode := .reg [{ op := .mov (.t 3), dst := some 14 },
    { op := .bin .add (.t 14) (.c (.int .i64 1)), dst := some 15 },
    { op := .mov (.t 15), dst := some 3 }]
def a96_l0 : ACode := (.seq (.seq a96_r4 (.cond (.t 13) .skip (.exit 0))) (.seq (.block 1 (.seq a96_r6 (.cond (.t 22) (.seq a96_r7 .ret) .skip))) a96_r5))
def a96_r8 : ACode := .reg [{ op := .mov (.c (.int .i64 0)), dst := some 4 }]
def a96_r9 : ACode := .reg [{ op := .mov (.t 4), dst := some 23 },
    { op := .fad 3 (.t 1), dst := some 24 },
    { op := .load 1 false (.t 24), dst := some 25 },
    { op := .len false (.t 25), dst := some 26 },
    { op := .bin .lss (.t 23) (.t 26), dst := some 27 }]
def a96_r11 : ACode := .reg [{ op := .fad 3 (.t 1), dst := some 30 },
    { op := .load 1 false (.t 30), dst := some 31 },
    { op := .mov (.t 4), dst := some 32 },
    { op := .iad 5 (.t 31) (.t 32), dst := some 33 },
    { op := .load 5 true (.t 33), dst := some 34 },
    { op := .call 96 [(.t 34)], dst := some 35 },
    { op := .not (.t 35), dst := some 36 }]
def a96_r12 : ACode := .reg [{ op := .mov (.c (.bool false)), dst := some 2 }]
def a96_r10 : ACode := .reg [{ op := .mov (.t 4), dst := some 28 },
    { op := .bin .add (.t 28) (.c (.int .i64 1)), dst := some 29 },
    { op := .mov (.t 29), dst := some 4 }]
def a96_l1 : ACode := (.seq (.seq a96_r9 (.cond (.t 27) .skip (.exit 2))) (.seq (.block 3 (.seq a96_r11 (.cond (.t 36) (.seq a96_r12 .ret) .skip))) a96_r10))
def a96_r13 : ACode := .reg [{ op := .mov (.c (.bool true)), dst := some 2 }]
def a96 : ACode := (.seq a96_r0 (.seq (.seq a96_r1 (.cond (.t 8) (.seq a96_r2 .ret) .skip)) (.seq (.seq a96_r3 (.block 0 (.loop a96_l0))) (.seq (.seq a96_r8 (.block 2 (.loop a96_l1))) (.seq a96_r13 .ret)))))
def a96_res : List ARes := [.tmp 2]
theorem a96_ok : Coded Try.prog 96 37 a96 a96_res := ⟨Try.f96, _, by kernel_rfl, rfl, by kernel_rfl, rfl, by kernel_rfl, by kernel_rfl⟩
theorem a96_of {args : List AV} {Q : AV → Prop} (hl : args.length ≤ 37) (h : AW Try.prog 37 a96 (mkS (argT 0 args) [] 0) (retQ a96_res Q)) : ACall Try.prog 96 args Q := acall_coded a96_ok hl h

/- slices.pdqsortCmpFunc[int] -/
def a97_r0 : ACode := .reg [{ op := .mov (.c (.bool true)), dst := some 10 }]
def a97_r1 : ACode := .reg [{ op := .mov (.c (.bool true)), dst := some 11 }]
def a97_r2 : ACode := .reg [{ op := .mov (.t 2), dst := some 21 },
    { op := .mov (.t 1), dst := some 22 },
    { op := .bin .sub (.t 21) (.t 22), dst := some 23 },
    { op := .mov (.t 23), dst := some 12 }]
def a97_r3 : ACode := .reg [{ op := .mov (.t 12), dst := some 24 },
    { op := .bin .leq (.t 24) (.c (.int .i64 12)), dst := some 25 }]
def a97_r4 : ACode := .reg [{ op := .mov (.t 0), dst := some 26 },
    { op := .mov (.t 1), dst := some 27 },
    { op := .mov (.t 2), dst := some 28 },
    { op := .mov (.t 4), dst := some 29 },
    { op := .call 118 [(.t 26), (.t 27), (.t 28), (.t 29)], dst := some 30 }]
def a97_r5 : ACode := .reg [{ op := .mov (.t 3), dst := some 31 },
    { op := .bin .eql (.t 31) (.c (.int .i64 0)), dst := some 32 }]
def a97_r6 : ACode := .reg [{ op := .mov (.t 0), dst := some 33 },
    { op := .mov (.t 1), dst := some 34 },
    { op := .mov (.t 2), dst := some 35 },
    { op := .mov (.t 4), dst := some 36 },
    { op := .call 119 [(.t 33), (.t 34), (.t 35), (.t 36)], dst := some 37 }]
def a97_r7 : ACode := .reg [{ op := .mov (.t 10), dst := some 38 },
    { op := .not (.t 38), dst := some 39 }]
def a97_r8 : ACode := .reg [{ op := .mov (.t 0), dst := some 40 },
    { op := .mov (.t 1), dst := some 41 },
    { op := .mov (.t 2), dst := some 42 },
    { op := .mov (.t 4), dst := some 43 },
    { op := .call 120 [(.t 40), (.t 41), (.t 42), (.t 43)], dst := some 44 }]
def a97_r9 : ACode := .reg [{ op := .mov (.t 3), dst := some 45 },
    { op := .bin .sub (.t 45) (.c (.int .i64 1)), dst := some 46 },
    { op := .mov (.t 46), dst := some 3 }]
def a97_r10 : ACode := .reg [{ op := .mov (.t 0), dst := some 48 },
    { op := .mov (.t 1), dst := some 49 },
    { op := .mov (.t 2), dst := some 50 },
    { op := .mov (.t 4), dst := some 51 },
    { op := .call 121 [(.t 48), (.t 49), (.t 50), (.t 51)], dst := some 52 },
    { op := .mov (.t 52), dst := some 47 },
    { op := .ext (.t 47) 0, dst := some 53 },
    { op := .ext (.t 47) 1, dst := some 54 },
    { op := .mov (.t 53), dst := some 13 },
    { op := .mov (.t 54), dst := some 14 }]
def a97_r11 : ACode := .reg [{ op := .mov (.t 14), dst := some 55 },
    { op := .bin .eql (.t 55) (.c (.int .i64 2)), dst := some 56 }]
def a97_r12 : ACode := .reg [{ op := .mov (.t 0), dst := some 57 },
    { op := .mov (.t 1), dst := some 58 },
    { op := .mov (.t 2), dst := some 59 },
    { op := .mov (.t 4), dst := some 60 },
    { op := .call 122 [(.t 57), (.t 58), (.t 59), (.t 60)], dst := some 61 }]
def a97_r13 : ACode := .reg [{ op := .mov (.t 2), dst := some 62 },
    { op := .bin .sub (.t 62) (.c (.int .i64 1)), dst := some 63 },
    { op := .mov (.t 13), dst := some 64 },
    { op := .mov (.t 1), dst := some 65 },
    { op := .bin .sub (.t 64) (.t 65), dst := some 66 },
    { op := .bin .sub (.t 63) (.t 66), dst := some 67 },
    { op := .mov (.t 67), dst := some 13 }]
def a97_r14 : ACode := .reg [{ op := .mov (.c (.int .i64 1)), dst := some 14 }]
def a97_r15 : ACode := .reg [{ op := .mov (.t 10), dst := some 68 },
    { op := .mov (.t 68), dst := some 69 },
    { op := .mov (.t 11), dst := some 70, g := some (69, true) },
    { op := .pick (.t 69) (.t 70) (.c (.bool false)), dst := some 71 },
    { op := .mov (.t 71), dst := some 72 },
    { op := .mov (.t 14), dst := some 73, g := some (72, true) },
    { op := .bin .eql (.t 73) (.c (.int .i64 1)), dst := some 74, g := some (72, true) },
    { op := .pick (.t 72) (.t 74) (.c (.bool false)), dst := some 75 }]
def a97_r16 : ACode := .reg [{ op := .mov (.t 0), dst := some 76 },
    { op := .mov (.t 1), dst := some 77 },
    { op := .mov (.t 2), dst := some 78 },
    { op := .mov (.t 4), dst := some 79 },
    { op := .call 123 [(.t 76), (.t 77), (.t 78), (.t 79)], dst := some 80 }]
def a97_r17 : ACode := .draw [{ op := .mov (.t 1), dst := some 81 },
    { op := .bin .gtr (.t 81) (.c (.int .i64 0)), dst := some 82 },
    { op := .mov (.t 82), dst := some 83 },
    { op := .mov (.t 4), dst := some 84, g := some (83, true) },
    { op := .mov (.t 0), dst := some 85, g := some (83, true) },
    { op := .mov (.t 1), dst := some 86, g := some (83, true) },
    { op := .bin .sub (.t 86) (.c (.int .i64 1)), dst := some 87, g := some (83, true) },
    { op := .iad 1 (.t 85) (.t 87), dst := some 88, g := some (83, true) },
    { op := .load 1 false (.t 88), dst := some 89, g := some (83, true) },
    { op := .mov (.t 0), dst := some 90, g := some (83, true) },
    { op := .mov (.t 13), dst := some 91, g := some (83, true) },
    { op := .iad 1 (.t 90) (.t 91), dst := some 92, g := some (83, true) },
    { op := .load 1 false (.t 92), dst := some 93, g := some (83, true) },
    { op := .callv (.t 84) [(.t 89), (.t 93)], dst := some 94, g := some (83, true) },
    { op := .bin .lss (.t 94) (.c (.int .i64 0)), dst := some 95, g := some (83, true) },
    { op := .not (.t 95), dst := some 96, g := some (83, true) },
    { op := .pick (.t 83) (.t 96) (.c (.bool false)), dst := some 97 }]
    []
    (.take 0 (.take 1 (.take 2 (.take 3 (.take 4 (.take 5 (.take 6 (.take 7 (.take 8 (.take 9 (.take 10 (.take 11 (.take 12 (.one 13 (.take 14 (.take 15 (.take 16 (.done))))))))))))))))))
def a97_r18 : ACode := .reg [{ op := .mov (.t 0), dst := some 98 },
    { op := .mov (.t 1), dst := some 99 },
    { op := .mov (.t 2), dst := some 100 },
    { op := .mov (.t 13), dst := some 101 },
    { op := .mov (.t 4), dst := some 102 },
    { op := .call 124 [(.t 98), (.t 99), (.t 100), (.t 101), (.t 102)], dst := some 103 },
    { op := .mov (.t 103), dst := some 15 }]
def a97_r19 : ACode := .reg [{ op := .mov (.t 15), dst := some 104 },
    { op := .mov (.t 104), dst := some 1 }]
def a97_r20 : ACode := .reg [{ op := .mov (.t 0), dst := some 106 },
    { op := .mov (.t 1), dst := some 107 },
    { op := .mov (.t 2), dst := some 108 },
    { op := .mov (.t 13), dst := some 109 },
    { op := .mov (.t 4), dst := some 110 },
    { op := .call 125 [(.t 106), (.t 107), (.t 108), (.t 109), (.t 110)], dst := some 111 },
    { op := .mov (.t 111), dst := some 105 },
    { op := .ext (.t 105) 0, dst := some 112 },
    { op := .ext (.t 105) 1, dst := some 113 },
    { op := .mov (.t 112), dst := some 16 },
    { op := .mov (.t 113), dst := some 17 }]
def a97_r21 : ACode := .reg [{ op := .mov (.t 17), dst := some 114 },
    { op := .mov (.t 114), dst := some 11 }]
def a97_r22 : ACode := .reg [{ op := .mov (.t 16), dst := some 115 },
    { op := .mov (.t 1), dst := some 116 },
    { op := .bin .sub (.t 115) (.t 116), dst := some 117 },
    { op := .mov (.t 2), dst := some 118 },
    { op := .mov (.t 16), dst := some 119 },
    { op := .bin .sub (.t 118) (.t 119), dst := some 120 },
    { op := .mov (.t 117), dst := some 18 },
    { op := .mov (.t 120), dst := some 19 }]
def a97_r23 : ACode := .reg [{ op := .mov (.t 12), dst := some 121 },
    { op := .bin .quo (.t 121) (.c (.int .i64 8)), dst := some 122 },
    { op := .mov (.t 122), dst := some 20 }]
def a97_r24 : ACode := .reg [{ op := .mov (.t 18), dst := some 123 },
    { op := .mov (.t 19), dst := some 124 },
    { op := .bin .lss (.t 123) (.t 124), dst := some 125 }]
def a97_r25 : ACode := .reg [{ op := .mov (.t 18), dst := some 126 },
    { op := .mov (.t 20), dst := some 127 },
    { op := .bin .geq (.t 126) (.t 127), dst := some 128 },
    { op := .mov (.t 128), dst := some 10 }]
def a97_r26 : ACode := .reg [{ op := .mov (.t 0), dst := some 129 },
    { op := .mov (.t 1), dst := some 130 },
    { op := .mov (.t 16), dst := some 131 },
    { op := .mov (.t 3), dst := some 132 },
    { op := .mov (.t 4), dst := some 133 },
    { op := .call 97 [(.t 129), (.t 130), (.t 131), (.t 132), (.t 133)], dst := some 134 }]
def a97_r27 : ACode := .reg [{ op := .mov (.t 16), dst := some 135 },
    { op := .bin .add (.t 135) (.c (.int .i64 1)), dst := some 136 },
    { op := .mov (.t 136), dst := some 1 }]
def a97_r28 : ACode := .reg [{ op := .mov (.t 19), dst := some 137 },
    { op := .mov (.t 20), dst := some 138 },
    { op := .bin .geq (.t 137) (.t 138), dst := some 139 },
    { op := .mov (.t 139), dst := some 10 }]
def a97_r29 : ACode := .reg [{ op := .mov (.t 0), dst := some 140 },
    { op := .mov (.t 16), dst := some 141 },
    { op := .bin .add (.t 141) (.c (.int .i64 1)), dst := some 142 },
    { op := .mov (.t 2), dst := some 143 },
    { op := .mov (.t 3), dst := some 144 },
    { op := .mov (.t 4), dst := some 145 },
    { op := .call 97 [(.t 140), (.t 142), (.t 143), (.t 144), (.t 145)], dst := some 146 }]
def a97_r30 : ACode := .reg [{ op := .mov (.t 16), dst := some 147 },
    { op := .mov (.t 147), dst := some 2 }]
def a97_l0 : ACode := (.block 1 (.seq a97_r2 (.seq (.seq a97_r3 (.cond (.t 25) (.seq a97_r4 .ret) .skip)) (.seq (.seq a97_r5 (.cond (.t 32) (.seq a97_r6 .ret) .skip)) (.seq (.seq a97_r7 (.cond (.t 39) (.seq a97_r8 a97_r9) .skip)) (.seq a97_r10 (.seq (.seq a97_r11 (.cond (.t 56) (.seq a97_r12 (.seq a97_r13 a97_r14)) .skip)) (.seq (.seq a97_r15 (.cond (.t 75) (.seq a97_r16 (.cond (.t 80) .ret .skip)) .skip)) (.seq (.seq a97_r17 (.cond (.t 97) (.seq a97_r18 (.seq a97_r19 (.exit 1))) .skip)) (.seq a97_r20 (.seq a97_r21 (.seq a97_r22 (.seq a97_r23 (.seq a97_r24 (.cond (.t 125) (.seq a97_r25 (.seq a97_r26 a97_r27)) (.seq a97_r28 (.seq a97_r29 a97_r30)))))))))))))))))
def a97 : ACode := (.seq a97_r0 (.seq a97_r1 (.block 0 (.loop a97_l0))))
def a97_res : List ARes := []
theorem a97_ok : Coded Try.prog 97 148 a97 a97_res := ⟨Try.f97, _, by kernel_rfl, rfl, by kernel_rfl, rfl, by kernel_rfl, by kernel_rfl⟩
theorem a97_of {args : List AV} {Q : AV → Prop} (hl : args.length ≤ 148) (h : AW Try.prog 148 a97 (mkS (argT 0 args) [] 0) (retQ a97_res Q)) : ACall Try.prog 97 args Q := acall_coded a97_ok hl h

/- math/bits.Len -/
def a98_r0 : ACode := .reg [{ op := .mov (.c (.int .i64 0)), dst := some 2 }]
def a98_r1 : ACode := .reg [{ op := .mov (.t 0), dst := some 3 },
    { op := .conv .u32 (.t 3), dst := some 4 },
    { op := .call 126 [(.t 4)], dst := some 5 },
    { op := .mov (.t 5), dst := some 2 }]
def a98_r2 : ACode := .reg [{ op := .mov (.t 0), dst := some 6 },
    { op := .call 127 [(.t 6)], dst := some 7 },
    { op := .mov (.t 7), dst := some 2 }]
def a98 : ACode := (.seq a98_r0 (.seq (.cond (.c (.bool false)) (.seq a98_r1 .ret) .skip) (.seq a98_r2 .ret)))
def a98_res : List ARes := [.tmp 2]
theorem a98_ok : Coded Try.prog 98 8 a98 a98_res := ⟨Try.f98, _, by kernel_rfl, rfl, by kernel_rfl, rfl, by kernel_rfl, by kernel_rfl⟩
theorem a98_of {args : List AV} {Q : AV → Prop} (hl : args.length ≤ 8) (h : AW Try.prog 8 a98 (mkS (argT 0 args) [] 0) (retQ a98_res Q)) : ACall Try.prog 98 args Q := acall_coded a98_ok hl h

/- internal/bytealg.CompareString -/
def a99_r0 : ACode := .reg [{ op := .mov (.c (.int .i64 0)), dst := some 4 }]
def a99_r1 : ACode := .reg [{ op := .mov (.t 0), dst := some 5 },
    { op := .mov (.t 1), dst := some 6 },
    { op := .cmps (.t 5) (.t 6), dst := some 7 },
    { op := .mov (.t 7), dst := some 4 }]
def a99 : ACode := (.seq a99_r0 (.seq a99_r1 .ret))
def a99_res : List ARes := [.tmp 4]
theorem a99_ok : Coded Try.prog 99 8 a99 a99_res := ⟨Try.f99, _, by kernel_rfl, rfl, by kernel_rfl, rfl, by kernel_rfl, by kernel_rfl⟩
theorem a99_of {args : List AV} {Q : AV → Prop} (hl : args.length ≤ 8) (h : AW Try.prog 8 a99 (mkS (argT 0 args) [] 0) (retQ a99_res Q)) : ACall Try.prog 99 args Q := acall_coded a99_ok hl h

/- slices.BinarySearch[[]string,string] -/
def a108_r0 : ACode := .reg [{ op := .mov (.c (.int .i64 0)), dst := some 4 },
    { op := .mov (.c (.bool false)), dst := some 5 }]
def a108_r1 : ACode := .reg [{ op := .mov (.t 0), dst := some 10 },
    { op := .len false (.t 10), dst := some 11 },
    { op := .mov (.t 11), dst := some 6 }]
def a108_r2 : ACode := .reg [{ op := .mov (.t 6), dst := some 12 },
    { op := .mov (.c (.int .i64 0)), dst := some 7 },
    { op := .mov (.t 12), dst := some 8 }]
def a108_r3 : ACode := .reg [{ op := .mov (.t 7), dst := some 13 },
    { op := .mov (.t 8), dst := some 14 },
    { op := .bin .lss (.t 13) (.t 14), dst := some 15 }]
def a108_r4 : ACode := .reg [{ op := .mov (.t 7), dst := some 16 },
    { op := .mov (.t 8), dst := some 17 },
    { op := .bin .add (.t 16) (.t 17), dst := some 18 },
    { op := .conv .u64 (.t 18), dst := some 19 },
    { op := .bin .shr (.t 19) (.c (.int .u64 1)), dst := some 20 },
    { op := .conv .i64 (.t 20), dst := some 21 },
    { op := .mov (.t 21), dst := some 9 }]
def a108_r5 : ACode := .reg [{ op := .mov (.t 0), dst := some 22 },
    { op := .mov (.t 9), dst := some 23 },
    { op := .iad 1 (.t 22) (.t 23), dst := some 24 },
    { op := .load 1 false (.t 24), dst := some 25 },
    { op := .mov (.t 1), dst := some 26 },
    { op := .call 133 [(.t 25), (.t 26)], dst := some 27 }]
def a108_r6 : ACode := .reg [{ op := .mov (.t 9), dst := some 28 },
    { op := .bin .add (.t 28) (.c (.int .i64 1)), dst := some 29 },
    { op := .mov (.t 29), dst := some 7 }]
def a108_r7 : ACode := .reg [{ op := .mov (.t 9), dst := some 30 },
    { op := .mov (.t 30), dst := some 8 }]
def a108_l0 : ACode := (.seq (.seq a108_r3 (.cond (.t 15) .skip (.exit 0))) (.block 1 (.seq a108_r4 (.seq a108_r5 (.cond (.t 27) a108_r6 a108_r7)))))
def a108_r8 : ACode := .reg [{ op := .mov (.t 7), dst := some 31 },
    { op := .mov (.t 7), dst := some 32 },
    { op := .mov (.t 6), dst := some 33 },
    { op := .bin .lss (.t 32) (.t 33), dst := some 34 },
    { op := .mov (.t 34), dst := some 35 },
    { op := .mov (.t 0), dst := some 36, g := some (35, true) },
    { op := .mov (.t 7), dst := some 37, g := some (35, true) },
    { op := .iad 1 (.t 36) (.t 37), dst := some 38, g := some (35, true) },
    { op := .load 1 false (.t 38), dst := some 39, g := some (35, true) },
    { op := .mov (.t 1), dst := some 40, g := some (35, true) },
    { op := .bin .eql (.t 39) (.t 40), dst := some 41, g := some (35, true) },
    { op := .mov (.t 41), dst := some 42, g := some (35, true) },
    { op := .mov (.t 0), dst := some 43, g := some (42, false) },
    { op := .mov (.t 7), dst := some 44, g := some (42, false) },
    { op := .iad 1 (.t 43) (.t 44), dst := some 45, g := some (42, false) },
    { op := .load 1 false (.t 45), dst := some 46, g := some (42, false) },
    { op := .call 134 [(.t 46)], dst := some 47, g := some (42, false) },
    { op := .mov (.t 47), dst := some 48, g := some (42, false) },
    { op := .mov (.t 1), dst := some 49, g := some (48, true) },
    { op := .call 134 [(.t 49)], dst := some 50, g := some (48, true) },
    { op := .pick (.t 48) (.t 50) (.c (.bool false)), dst := some 51, g := some (42, false) },
    { op := .pick (.t 42) (.c (.bool true)) (.t 51), dst := some 52, g := some (35, true) },
    { op := .pick (.t 35) (.t 52) (.c (.bool false)), dst := some 53 },
    { op := .mov (.t 31), dst := some 4 },
    { op := .mov (.t 53), dst := some 5 }]
def a108 : ACode := (.seq a108_r0 (.seq a108_r1 (.seq a108_r2 (.seq (.block 0 (.loop a108_l0)) (.seq a108_r8 .ret)))))
def a108_res : List ARes := [.tmp 4, .tmp 5]
theorem a108_ok : Coded Try.prog 108 54 a108 a108_res := ⟨Try.f108, _, by kernel_rfl, rfl, by kernel_rfl, rfl, by kernel_rfl, by kernel_rfl⟩
theorem a108_of {args : List AV} {Q : AV → Prop} (hl : args.length ≤ 54) (h : AW Try.prog 54 a108 (mkS (argT 0 args) [] 0) (retQ a108_res Q)) : ACall Try.prog 108 args Q := acall_coded a108_ok hl h

/- slices.IndexFunc[[]workflow/api.Value,workflow/api.Value] -/
def a113_r0 : ACode := .reg [{ op := .mov (.c (.int .i64 0)), dst := some 4 }]
def a113_r1 : ACode := .reg [{ op := .mov (.t 0), dst := some 6 },
    { op := .len false (.t 6), dst := some 7 },
    { op := .mov (.c (.int .i64 0)), dst := some 8 }]
def a113_r2 : ACode := .reg [{ op := .bin .lss (.t 8) (.t 7), dst := some 9 }]
def a113_r3 : ACode := .reg [{ op := .mov (.t 8), dst := some 10 },
    { op := .mov (.t 10), dst := some 5 }]
def a113_r4 : ACode := .reg [{ op := .mov (.t 1), dst := some 11 },
    { op := .mov (.t 0), dst := some 12 },
    { op := .mov (.t 5), dst := some 13 },
    { op := .iad 5 (.t 12) (.t 13), dst := some 14 },
    { op := .load 5 true (.t 14), dst := some 15 },
    { op := .callv (.t 11) [(.t 15)], dst := some 16 }]
def a113_r5 : ACode := .reg [{ op := .mov (.t 5), dst := some 17 },
    { op := .mov (.t 17), dst := some 4 }]
def a113_r6 : ACode := .reg [{ op := .bin .add (.t 8) (.c (.int .i64 1)), dst := some 18 },
    { op := .mov (.t 18), dst := some 8 }]
def a113_l0 : ACode := (.seq a113_r2 (.seq (.cond (.t 9) .skip (.exit 0)) (.seq (.block 1 (.seq a113_r3 (.seq a113_r4 (.cond (.t 16) (.seq a113_r5 .ret) .skip)))) a113_r6)))
def a113_r7 : ACode := .reg [{ op := .mov (.c (.int .i64 (-1))), dst := some 4 }]
def a113 : ACode := (.seq a113_r0 (.seq (.seq a113_r1 (.block 0 (.loop a113_l0))) (.seq a113_r7 .ret)))
def a113_res : List ARes := [.tmp 4]
theorem a113_ok : Coded Try.prog 113 19 a113 a113_res := ⟨Try.f113, _, by kernel_rfl, rfl, by kernel_rfl, rfl, by kernel_rfl, by kernel_rfl⟩
theorem a113_of {args : List AV} {Q : AV → Prop} (hl : args.length ≤ 19) (h : AW Try.prog 19 a113 (mkS (argT 0 args) [] 0) (retQ a113_res Q)) : ACall Try.prog 113 args Q := acall_coded a113_ok hl h

/- slices.ContainsFunc[[]string,string] -/
def a115_r0 : ACode := .reg [{ op := .mov (.c (.bool false)), dst := some 4 }]
def a115_r1 : ACode := .reg [{ op := .mov (.t 0), dst := some 5 },
    { op := .mov (.t 1), dst := some 6 },
    { op := .call 137 [(.t 5), (.t 6)], dst := some 7 },
    { op := .bin .geq (.t 7) (.c (.int .i64 0)), dst := some 8 },
    { op := .mov (.t 8), dst := some 4 }]
def a115 : ACode := (.seq a115_r0 (.seq a115_r1 .ret))
def a115_res : List ARes := [.tmp 4]
theorem a115_ok : Coded Try.prog 115 9 a115 a115_res := ⟨Try.f115, _, by kernel_rfl, rfl, by kernel_rfl, rfl, by kernel_rfl, by kernel_rfl⟩
theorem a115_of {args : List AV} {Q : AV → Prop} (hl : args.length ≤ 9) (h : AW Try.prog 9 a115 (mkS (argT 0 args) [] 0) (retQ a115_res Q)) : ACall Try.prog 115 args Q := acall_coded a115_ok hl h

/- workflow/value.short$1 -/
def a116_r0 : ACode := .reg [{ op := .mov (.c (.bool false)), dst := some 2 }]
def a116_r1 : ACode := .reg [{ op := .mov (.t 0), dst := some 3 },
    { op := .len true (.t 3), dst := some 4 },
    { op := .bin .gtr (.t 4) (.c (.int .i64 4096)), dst := some 5 },
    { op := .mov (.t 5), dst := some 2 }]
def a116 : ACode := (.seq a116_r0 (.seq a116_r1 .ret))
def a116_res : List ARes := [.tmp 2]
theorem a116_ok : Coded Try.prog 116 6 a116 a116_res := ⟨Try.f116, _, by kernel_rfl, rfl, by kernel_rfl, rfl, by kernel_rfl, by kernel_rfl⟩
theorem a116_of {args : List AV} {Q : AV → Prop} (hl : args.length ≤ 6) (h : AW Try.prog 6 a116 (mkS (argT 0 args) [] 0) (retQ a116_res Q)) : ACall Try.prog 116 args Q := acall_coded a116_ok hl h

/- workflow/value.short$2 -/
def a117_r0 : ACode := .reg [{ op := .box 5 true (.t 0), dst := some 1, k := 0 },
    { op := .mov (.c (.bool false)), dst := some 2 }]
def a117_r1 : ACode := .reg [{ op := .load 5 true (.t 1), dst := some 3 },
    { op := .call 95 [(.t 3)], dst := some 4 },
    { op := .not (.t 4), dst := some 5 },
    { op := .mov (.t 5), dst := some 2 }]
def a117 : ACode := (.seq a117_r0 (.seq a117_r1 .ret))
def a117_res : List ARes := [.tmp 2]
theorem a117_ok : Coded Try.prog 117 6 a117 a117_res := ⟨Try.f117, _, by kernel_rfl, rfl, by kernel_rfl, rfl, by kernel_rfl, by kernel_rfl⟩
theorem a117_of {args : List AV} {Q : AV → Prop} (hl : args.length ≤ 6) (h : AW Try.prog 6 a117 (mkS (argT 0 args) [] 0) (retQ a117_res Q)) : ACall Try.prog 117 args Q := acall_coded a117_ok hl h

/- slices.insertionSortCmpFunc[int] -/
def a118_r0 : ACode := .reg [{ op := .mov (.t 1), dst := some 10 },
    { op := .bin .add (.t 10) (.c (.int .i64 1)), dst := some 11 },
    { op := .mov (.t 11), dst := some 8 }]
def a118_r1 : ACode := .reg [{ op := .mov (.t 8), dst := some 12 },
    { op := .mov (.t 2), dst := some 13 },
    { op := .bin .lss (.t 12) (.t 13), dst := some 14 }]
def a118_r3 : ACode := .reg [{ op := .mov (.t 8), dst := some 17 },
    { op := .mov (.t 17), dst := some 9 }]
def a118_r4 : ACode := .draw [{ op := .mov (.t 9), dst := some 18 },
    { op := .mov (.t 1), dst := some 19 },
    { op := .bin .gtr (.t 18) (.t 19), dst := some 20 },
    { op := .mov (.t 20), dst := some 21 },
    { op := .mov (.t 3), dst := some 22, g := some (21, true) },
    { op := .mov (.t 0), dst := some 23, g := some (21, true) },
    { op := .mov (.t 9), dst := some 24, g := some (21, true) },
    { op := .iad 1 (.t 23) (.t 24), dst := some 25, g := some (21, true) },
    { op := .load 1 false (.t 25), dst := some 26, g := some (21, true) },
    { op := .mov (.t 0), dst := some 27, g := some (21, true) },
    { op := .mov (.t 9), dst := some 28, g := some (21, true) },
    { op := .bin .sub (.t 28) (.c (.int .i64 1)), dst := some 29, g := some (21, true) },
    { op := .iad 1 (.t 27) (.t 29), dst := some 30, g := some (21, true) },
    { op := .load 1 false (.t 30), dst := some 31, g := some (21, true) },
    { op := .callv (.t 22) [(.t 26), (.t 31)], dst := some 32, g := some (21, true) },
    { op := .bin .lss (.t 32) (.c (.int .i64 0)), dst := some 33, g := some (21, true) },
    { op := .pick (.t 21) (.t 33) (.c (.bool false)), dst := some 34 }]
    []
    (.take 0 (.take 1 (.take 2 (.take 3 (.take 4 (.take 5 (.take 6 (.take 7 (.take 8 (.take 9 (.take 10 (.take 11 (.take 12 (.take 13 (.one 14 (.take 15 (.take 16 (.done))))))))))))))))))
def a118_r6 : ACode := .draw [{ op := .mov (.t 0), dst := some 37 },
    { op := .mov (.t 9), dst := some 38 },
    { op := .mov (.t 0), dst := some 39 },
    { op := .mov (.t 9), dst := some 40 },
    { op := .bin .sub (.t 40) (.c (.int .i64 1)), dst := some 41 },
    { op := .mov (.t 0), dst := some 42 },
    { op := .mov (.t 9), dst := some 43 },
    { op := .bin .sub (.t 43) (.c (.int .i64 1)), dst := some 44 },
    { op := .iad 1 (.t 42) (.t 44), dst := some 45 },
    { op := .load 1 false (.t 45), dst := some 46 },
    { op := .mov (.t 0), dst := some 47 },
    { op := .mov (.t 9), dst := some 48 },
    { op := .iad 1 (.t 47) (.t 48), dst := some 49 },
    { op := .load 1 false (.t 49), dst := some 50 },
    { op := .iad 1 (.t 37) (.t 38), dst := some 51 },
    { op := .store 1 false (.t 51) (.t 46), dst := none },
    { op := .iad 1 (.t 39) (.t 41), dst := some 52 },
    { op := .store 1 false (.t 52) (.t 50), dst := none }]
    []
    (.take 0 (.take 1 (.take 2 (.take 3 (.take 4 (.take 5 (.take 6 (.take 7 (.take 8 (.take 9 (.take 10 (.take 11 (.take 12 (.take 13 (.take 14 (.one 15 (.take 16 (.one 17 (.done)))))))))))))))))))
def a118_r5 : ACode := .reg [{ op := .mov (.t 9), dst := some 35 },
    { op := .bin .sub (.t 35) (.c (.int .i64 1)), dst := some 36 },
    { op := .mov (.t 36), dst := some 9 }]
def a118_l0 : ACode := (.seq (.seq a118_r4 (.cond (.t 34) .skip (.exit 2))) (.seq (.block 3 a118_r6) a118_r5))
def a118_r2 : ACode := .reg [{ op := .mov (.t 8), dst := some 15 },
    { op := .bin .add (.t 15) (.c (.int .i64 1)), dst := some 16 },
    { op := .mov (.t 16), dst := some 8 }]
def a118_l1 : ACode := (.seq (.seq a118_r1 (.cond (.t 14) .skip (.exit 0))) (.seq (.block 1 (.seq a118_r3 (.block 2 (.loop a118_l0)))) a118_r2))
def a118 : ACode := (.seq a118_r0 (.block 0 (.loop a118_l1)))
def a118_res : List ARes := []
theorem a118_ok : Coded Try.prog 118 53 a118 a118_res := ⟨Try.f118, _, by kernel_rfl, rfl, by kernel_rfl, rfl, by kernel_rfl, by kernel_rfl⟩
theorem a118_of {args : List AV} {Q : AV → Prop} (hl : args.length ≤ 53) (h : AW Try.prog 53 a118 (mkS (argT 0 args) [] 0) (retQ a118_res Q)) : ACall Try.prog 118 args Q := acall_coded a118_ok hl h

/- math/bits.Len64 -/
def a127_r0 : ACode := .reg [{ op := .mov (.c (.int .i64 0)), dst := some 2 }]
def a127_r1 : ACode := .reg [{ op := .mov (.t 0), dst := some 3 },
    { op := .bin .geq (.t 3) (.c (.int .u64 4294967296)), dst := some 4 }]
def a127_r2 : ACode := .reg [{ op := .mov (.t 0), dst := some 5 },
    { op := .bin .shr (.t 5) (.c (.int .u64 32)), dst := some 6 },
    { op := .mov (.t 6), dst := some 0 }]
def a127_r3 : ACode := .reg [{ op := .mov (.c (.int .i64 32)), dst := some 2 }]
def a127_r4 : ACode := .reg [{ op := .mov (.t 0), dst := some 7 },
    { op := .bin .geq (.t 7) (.c (.int .u64 65536)), dst := some 8 }]
def a127_r5 : ACode := .reg [{ op := .mov (.t 0), dst := some 9 },
    { op := .bin .shr (.t 9) (.c (.int .u64 16)), dst := some 10 },
    { op := .mov (.t 10), dst := some 0 }]
def a127_r6 : ACode := .reg [{ op := .mov (.t 2), dst := some 11 },
    { op := .bin .add (.t 11) (.c (.int .i64 16)), dst := some 12 },
    { op := .mov (.t 12), dst := some 2 }]
def a127_r7 : ACode := .reg [{ op := .mov (.t 0), dst := some 13 },
    { op := .bin .geq (.t 13) (.c (.int .u64 256)), dst := some 14 }]
def a127_r8 : ACode := .reg [{ op := .mov (.t 0), dst := some 15 },
    { op := .bin .shr (.t 15) (.c (.int .u64 8)), dst := some 16 },
    { op := .mov (.t 16), dst := some 0 }]
def a127_r9 : ACode := .reg [{ op := .mov (.t 2), dst := some 17 },
    { op := .bin .add (.t 17) (.c (.int .i64 8)), dst := some 18 },
    { op := .mov (.t 18), dst := some 2 }]
def a127_r10 : ACode := .reg [{ op := .mov (.t 2), dst := some 19 },
    { op := .mov (.t 0), dst := some 20 },
    { op := .conv .u8 (.t 20), dst := some 21 },
    { op := .sidx (.c (.str [0, 1, 2, 2, 3, 3, 3, 3, 4, 4, 4, 4, 4, 4, 4, 4, 5, 5, 5, 5, 5, 5, 5, 5, 5, 5, 5, 5, 5, 5, 5, 5, 6, 6, 6, 6, 6, 6, 6, 6, 6, 6, 6, 6, 6, 6, 6, 6, 6, 6, 6, 6, 6, 6, 6, 6, 6, 6, 6, 6, 6, 6, 6, 6, 7, 7, 7, 7, 7, 7, 7, 7, 7, 7, 7, 7, 7, 7, 7, 7, 7, 7, 7, 7, 7, 7, 7, 7, 7, 7, 7, 7, 7, 7, 7, 7, 7, 7, 7, 7, 7, 7, 7, 7, 7, 7, 7, 7, 7, 7, 7, 7, 7, 7, 7, 7, 7, 7, 7, 7, 7, 7, 7, 7, 7, 7, 7, 7, 8, 8, 8, 8, 8, 8, 8, 8, 8, 8, 8, 8, 8, 8, 8, 8, 8, 8, 8, 8, 8, 8, 8, 8, 8, 8, 8, 8, 8, 8, 8, 8, 8, 8, 8, 8, 8, 8, 8, 8, 8, 8, 8, 8, 8, 8, 8, 8, 8, 8, 8, 8, 8, 8, 8, 8, 8, 8, 8, 8, 8, 8, 8, 8, 8, 8, 8, 8, 8, 8, 8, 8, 8, 8, 8, 8, 8, 8, 8, 8, 8, 8, 8, 8, 8, 8, 8, 8, 8, 8, 8, 8, 8, 8, 8, 8, 8, 8, 8, 8, 8, 8, 8, 8, 8, 8, 8, 8, 8, 8, 8, 8, 8, 8, 8, 8, 8, 8, 8, 8, 8, 8, 8, 8, 8, 8, 8, 8])) (.t 21), dst := some 22 },
    { op := .conv .i64 (.t 22), dst := some 23 },
    { op := .bin .add (.t 19) (.t 23), dst := some 24 },
    { op := .mov (.t 24), dst := some 2 }]
def a127 : ACode := (.seq a127_r0 (.seq (.seq a127_r1 (.cond (.t 4) (.seq a127_r2 a127_r3) .skip)) (.seq (.seq a127_r4 (.cond (.t 8) (.seq a127_r5 a127_r6) .skip)) (.seq (.seq a127_r7 (.cond (.t 14) (.seq a127_r8 a127_r9) .skip)) (.seq a127_r10 .ret)))))
def a127_res : List ARes := [.tmp 2]
theorem a127_ok : Coded Try.prog 127 25 a127 a127_res := ⟨Try.f127, _, by kernel_rfl, rfl, by kernel_rfl, rfl, by kernel_rfl, by kernel_rfl⟩
theorem a127_of {args : List AV} {Q : AV → Prop} (hl : args.length ≤ 25) (h : AW Try.prog 25 a127 (mkS (argT 0 args) [] 0) (retQ a127_res Q)) : ACall Try.prog 127 args Q := acall_coded a127_ok hl h

/- cmp.Less[string] -/
def a133_r0 : ACode := .reg [{ op := .mov (.c (.bool false)), dst := some 4 }]
def a133_r1 : ACode := .reg [{ op := .mov (.t 0), dst := some 5 },
    { op := .call 145 [(.t 5)], dst := some 6 },
    { op := .mov (.t 6), dst := some 7 },
    { op := .mov (.t 1), dst := some 8, g := some (7, true) },
    { op := .call 145 [(.t 8)], dst := some 9, g := some (7, true) },
    { op := .not (.t 9), dst := some 10, g := some (7, true) },
    { op := .pick (.t 7) (.t 10) (.c (.bool false)), dst := some 11 },
    { op := .mov (.t 11), dst := some 12 },
    { op := .mov (.t 0), dst := some 13, g := some (12, false) },
    { op := .mov (.t 1), dst := some 14, g := some (12, false) },
    { op := .bin .lss (.t 13) (.t 14), dst := some 15, g := some (12, false) },
    { op := .pick (.t 12) (.c (.bool true)) (.t 15), dst := some 16 },
    { op := .mov (.t 16), dst := some 4 }]
def a133 : ACode := (.seq a133_r0 (.seq a133_r1 .ret))
def a133_res : List ARes := [.tmp 4]
theorem a133_ok : Coded Try.prog 133 17 a133 a133_res := ⟨Try.f133, _, by kernel_rfl, rfl, by kernel_rfl, rfl, by kernel_rfl, by kernel_rfl⟩
theorem a133_of {args : List AV} {Q : AV → Prop} (hl : args.length ≤ 17) (h : AW Try.prog 17 a133 (mkS (argT 0 args) [] 0) (retQ a133_res Q)) : ACall Try.prog 133 args Q := acall_coded a133_ok hl h

/- slices.isNaN[string] -/
def a134_r0 : ACode := .reg [{ op := .mov (.c (.bool false)), dst := some 2 }]
def a134_r1 : ACode := .reg [{ op := .mov (.t 0), dst := some 3 },
    { op := .mov (.t 0), dst := some 4 },
    { op := .bin .neq (.t 3) (.t 4), dst := some 5 },
    { op := .mov (.t 5), dst := some 2 }]
def a134 : ACode := (.seq a134_r0 (.seq a134_r1 .ret))
def a134_res : List ARes := [.tmp 2]
theorem a134_ok : Coded Try.prog 134 6 a134 a134_res := ⟨Try.f134, _, by kernel_rfl, rfl, by kernel_rfl, rfl, by kernel_rfl, by kernel_rfl⟩
theorem a134_of {args : List AV} {Q : AV → Prop} (hl : args.length ≤ 6) (h : AW Try.prog 6 a134 (mkS (argT 0 args) [] 0) (retQ a134_res Q)) : ACall Try.prog 134 args Q := acall_coded a134_ok hl h

/- slices.IndexFunc[[]string,string] -/
def a137_r0 : ACode := .reg [{ op := .mov (.c (.int .i64 0)), dst := some 4 }]
def a137_r1 : ACode := .reg [{ op := .mov (.t 0), dst := some 6 },
    { op := .len false (.t 6), dst := some 7 },
    { op := .mov (.c (.int .i64 0)), dst := some 8 }]
def a137_r2 : ACode := .reg [{ op := .bin .lss (.t 8) (.t 7), dst := some 9 }]
def a137_r3 : ACode := .reg [{ op := .mov (.t 8), dst := some 10 },
    { op := .mov (.t 10), dst := some 5 }]
def a137_r4 : ACode := .reg [{ op := .mov (.t 1), dst := some 11 },
    { op := .mov (.t 0), dst := some 12 },
    { op := .mov (.t 5), dst := some 13 },
    { op := .iad 1 (.t 12) (.t 13), dst := some 14 },
    { op := .load 1 false (.t 14), dst := some 15 },
    { op := .callv (.t 11) [(.t 15)], dst := some 16 }]
def a137_r5 : ACode := .reg [{ op := .mov (.t 5), dst := some 17 },
    { op := .mov (.t 17), dst := some 4 }]
def a137_r6 : ACode := .reg [{ op := .bin .add (.t 8) (.c (.int .i64 1)), dst := some 18 },
    { op := .mov (.t 18), dst := some 8 }]
def a137_l0 : ACode := (.seq a137_r2 (.seq (.cond (.t 9) .skip (.exit 0)) (.seq (.block 1 (.seq a137_r3 (.seq a137_r4 (.cond (.t 16) (.seq a137_r5 .ret) .skip)))) a137_r6)))
def a137_r7 : ACode := .reg [{ op := .mov (.c (.int .i64 (-1))), dst := some 4 }]
def a137 : ACode := (.seq a137_r0 (.seq (.seq a137_r1 (.block 0 (.loop a137_l0))) (.seq a137_r7 .ret)))
def a137_res : List ARes := [.tmp 4]
theorem a137_ok : Coded Try.prog 137 19 a137 a137_res := ⟨Try.f137, _, by kernel_rfl, rfl, by kernel_rfl, rfl, by kernel_rfl, by kernel_rfl⟩
theorem a137_of {args : List AV} {Q : AV → Prop} (hl : args.length ≤ 19) (h : AW Try.prog 19 a137 (mkS (argT 0 args) [] 0) (retQ a137_res Q)) : ACall Try.prog 137 args Q := acall_coded a137_ok hl h
end Go.Proofs.Ytdnpnokplfemfaa
