/- The abstract code of the functions, checked. -/
import Derived.Test.YtlnhmlffhjmmiaaA2
import Derived.Test.YtlnhmlffhjmmiaaProg
import Derived.KernelRfl

namespace Go.Proofs.Ytlnhmlffhjmmiaa
open Go Go.Amb

/- workflow/workflowlaw19.large -/
def a8_r0 : ACode := .reg [{ op := .mov (.c (.bool false)), dst := some 2 }]
def a8_r1 : ACode := .reg [{ op := .mov (.t 0), dst := some 5 },
    { op := .len false (.t 5), dst := some 6 },
    { op := .bin .gtr (.t 6) (.c (.int .i64 60)), dst := some 7 }]
def a8_r2 : ACode := .reg [{ op := .mov (.c (.bool true)), dst := some 2 }]
def a8_r3 : ACode := .reg [{ op := .mov (.t 0), dst := some 8 },
    { op := .len false (.t 8), dst := some 9 },
    { op := .mov (.c (.int .i64 0)), dst := some 10 }]
def a8_r4 : ACode := .reg [{ op := .bin .lss (.t 10) (.t 9), dst := some 11 }]
def a8_r5 : ACode := .reg [{ op := .iad 8 (.t 8) (.t 10), dst := some 12 },
    { op := .load 8 true (.t 12), dst := some 13 },
    { op := .alloc 8 true [.int .i64 0, .str [], .int .i64 0, .int .i64 0, .int .i64 0, .str [], .nils, .nils], dst := some 4, k := 11 },
    { op := .store 8 true (.t 4) (.t 13), dst := none }]
def a8_r6 : ACode := .reg [{ op := .fad 3 (.t 4), dst := some 14 },
    { op := .load 5 true (.t 14), dst := some 15 },
    { op := .call 15 [(.t 15)], dst := some 16 },
    { op := .bin .gtr (.t 16) (.c (.int .i64 100)), dst := some 17 }]
def a8_r7 : ACode := .reg [{ op := .mov (.c (.bool true)), dst := some 2 }]
def a8_r8 : ACode := .reg [{ op := .bin .add (.t 10) (.c (.int .i64 1)), dst := some 18 },
    { op := .mov (.t 18), dst := some 10 }]
def a8_l0 : ACode := (.seq a8_r4 (.seq (.cond (.t 11) .skip (.exit 0)) (.seq (.block 1 (.seq a8_r5 (.seq a8_r6 (.cond (.t 17) (.seq a8_r7 .ret) .skip)))) a8_r8)))
def a8_r9 : ACode := .reg [{ op := .mov (.c (.bool false)), dst := some 2 }]
def a8 : ACode := (.seq a8_r0 (.seq (.seq a8_r1 (.cond (.t 7) (.seq a8_r2 .ret) .skip)) (.seq (.seq a8_r3 (.block 0 (.loop a8_l0))) (.seq a8_r9 .ret))))
def a8_res : List ARes := [.tmp 2]
theorem a8_ok : Coded Try.prog 8 19 a8 a8_res := ⟨Try.f8, _, by kernel_rfl, rfl, by kernel_rfl, rfl, by kernel_rfl, by kernel_rfl⟩
theorem a8_of {args : List AV} {Q : AV → Prop} (hl : args.length ≤ 19) (h : AW Try.prog 19 a8 (mkS (argT 0 args) [] 0) (retQ a8_res Q)) : ACall Try.prog 8 args Q := acall_coded a8_ok hl h

/- workflow/workflowlaw19.works -/
def a9_r0 : ACode := .reg [{ op := .mov (.c (.bool false)), dst := some 0 }]
def a9_r1 : ACode := .reg [{ op := .call 10 [(.c (.nils)), (.c (.nils)), (.c (.str [102, 105, 120])), (.c (.int .i64 2)), (.c (.bool false))], dst := some 18 },
    { op := .mov (.t 18), dst := some 17 },
    { op := .ext (.t 17) 0, dst := some 19 },
    { op := .ext (.t 17) 1, dst := some 20 },
    { op := .ext (.t 17) 2, dst := some 21 },
    { op := .ext (.t 17) 3, dst := some 22 },
    { op := .mov (.t 19), dst := some 1 },
    { op := .mov (.t 20), dst := some 2 },
    { op := .mov (.t 21), dst := some 3 },
    { op := .mov (.t 22), dst := some 4 }]
def a9_r2 : ACode := .reg [{ op := .call 10 [(.c (.nils)), (.c (.nils)), (.c (.str [102, 105, 120])), (.c (.int .i64 2)), (.c (.bool true))], dst := some 24 },
    { op := .mov (.t 24), dst := some 23 },
    { op := .ext (.t 23) 0, dst := some 25 },
    { op := .ext (.t 23) 1, dst := some 26 },
    { op := .ext (.t 23) 2, dst := some 27 },
    { op := .ext (.t 23) 3, dst := some 28 },
    { op := .mov (.t 25), dst := some 5 },
    { op := .mov (.t 26), dst := some 6 },
    { op := .mov (.t 27), dst := some 7 },
    { op := .mov (.t 28), dst := some 8 }]
def a9_r3 : ACode := .reg [{ op := .call 21 [(.c (.int .i64 7))], dst := some 30 },
    { op := .call 21 [(.c (.int .i64 8))], dst := some 31 },
    { op := .bsl 5 true 2 [.int .i64 0, .int .i64 0, .str [], .nils, .nils] [(0, (.t 30)), (1, (.t 31))], dst := some 32 },
    { op := .call 16 [(.c (.nils)), (.t 32), (.c (.str [105, 100])), (.c (.bool false))], dst := some 33 },
    { op := .mov (.t 33), dst := some 29 },
    { op := .ext (.t 29) 0, dst := some 34 },
    { op := .ext (.t 29) 1, dst := some 35 },
    { op := .ext (.t 29) 2, dst := some 36 },
    { op := .ext (.t 29) 3, dst := some 37 },
    { op := .alloc 5 true [.int .i64 0, .int .i64 0, .str [], .nils, .nils], dst := some 9, k := 30 },
    { op := .store 5 true (.t 9) (.t 34), dst := none },
    { op := .mov (.t 35), dst := some 10 },
    { op := .mov (.t 36), dst := some 11 },
    { op := .mov (.t 37), dst := some 12 }]
def a9_r4 : ACode := .reg [{ op := .call 16 [(.c (.nils)), (.c (.nils)), (.c (.str [105, 100])), (.c (.bool true))], dst := some 39 },
    { op := .mov (.t 39), dst := some 38 },
    { op := .ext (.t 38) 0, dst := some 40 },
    { op := .ext (.t 38) 1, dst := some 41 },
    { op := .ext (.t 38) 2, dst := some 42 },
    { op := .ext (.t 38) 3, dst := some 43 },
    { op := .alloc 5 true [.int .i64 0, .int .i64 0, .str [], .nils, .nils], dst := some 13, k := 41 },
    { op := .store 5 true (.t 13) (.t 40), dst := none },
    { op := .mov (.t 41), dst := some 14 },
    { op := .mov (.t 42), dst := some 15 },
    { op := .mov (.t 43), dst := some 16 }]
def a9_r5 : ACode := .draw [{ op := .mov (.t 1), dst := some 44 },
    { op := .bin .eql (.t 44) (.c (.int .i64 2)), dst := some 45 },
    { op := .mov (.t 45), dst := some 46 },
    { op := .mov (.t 4), dst := some 47, g := some (46, true) },
    { op := .pick (.t 46) (.t 47) (.c (.bool false)), dst := some 48 },
    { op := .mov (.t 48), dst := some 49 },
    { op := .mov (.t 2), dst := some 50, g := some (49, true) },
    { op := .len false (.t 50), dst := some 51, g := some (49, true) },
    { op := .bin .eql (.t 51) (.c (.int .i64 1)), dst := some 52, g := some (49, true) },
    { op := .pick (.t 49) (.t 52) (.c (.bool false)), dst := some 53 },
    { op := .mov (.t 53), dst := some 54 },
    { op := .mov (.t 2), dst := some 55, g := some (54, true) },
    { op := .iad 8 (.t 55) (.c (.int .i64 0)), dst := some 56, g := some (54, true) },
    { op := .fad 1 (.t 56), dst := some 57, g := some (54, true) },
    { op := .load 1 false (.t 57), dst := some 58, g := some (54, true) },
    { op := .bin .eql (.t 58) (.c (.str [102, 105, 120])), dst := some 59, g := some (54, true) },
    { op := .pick (.t 54) (.t 59) (.c (.bool false)), dst := some 60 },
    { op := .mov (.t 60), dst := some 61 },
    { op := .mov (.t 2), dst := some 62, g := some (61, true) },
    { op := .iad 8 (.t 62) (.c (.int .i64 0)), dst := some 63, g := some (61, true) },
    { op := .fad 2 (.t 63), dst := some 64, g := some (61, true) },
    { op := .load 1 false (.t 64), dst := some 65, g := some (61, true) },
    { op := .bin .eql (.t 65) (.c (.int .i64 2)), dst := some 66, g := some (61, true) },
    { op := .pick (.t 61) (.t 66) (.c (.bool false)), dst := some 67 },
    { op := .mov (.t 67), dst := some 68 },
    { op := .mov (.t 5), dst := some 69, g := some (68, true) },
    { op := .bin .eql (.t 69) (.c (.int .i64 0)), dst := some 70, g := some (68, true) },
    { op := .pick (.t 68) (.t 70) (.c (.bool false)), dst := some 71 },
    { op := .mov (.t 71), dst := some 72 },
    { op := .mov (.t 8), dst := some 73, g := some (72, true) },
    { op := .not (.t 73), dst := some 74, g := some (72, true) },
    { op := .pick (.t 72) (.t 74) (.c (.bool false)), dst := some 75 },
    { op := .mov (.t 75), dst := some 76 },
    { op := .load 5 true (.t 9), dst := some 77, g := some (76, true) },
    { op := .call 21 [(.c (.int .i64 7))], dst := some 78, g := some (76, true) },
    { op := .call 22 [(.t 77), (.t 78)], dst := some 79, g := some (76, true) },
    { op := .pick (.t 76) (.t 79) (.c (.bool false)), dst := some 80 },
    { op := .mov (.t 80), dst := some 81 },
    { op := .mov (.t 11), dst := some 82, g := some (81, true) },
    { op := .len false (.t 82), dst := some 83, g := some (81, true) },
    { op := .bin .eql (.t 83) (.c (.int .i64 1)), dst := some 84, g := some (81, true) },
    { op := .pick (.t 81) (.t 84) (.c (.bool false)), dst := some 85 },
    { op := .mov (.t 85), dst := some 86 },
    { op := .mov (.t 12), dst := some 87, g := some (86, true) },
    { op := .bin .eql (.t 87) (.c (.int .i64 0)), dst := some 88, g := some (86, true) },
    { op := .pick (.t 86) (.t 88) (.c (.bool false)), dst := some 89 },
    { op := .mov (.t 89), dst := some 90 },
    { op := .mov (.t 16), dst := some 91, g := some (90, true) },
    { op := .bin .eql (.t 91) (.c (.int .i64 21)), dst := some 92, g := some (90, true) },
    { op := .pick (.t 90) (.t 92) (.c (.bool false)), dst := some 93 },
    { op := .mov (.t 93), dst := some 0 }]
    [(34, [33])]
    (.take 0 (.take 1 (.take 2 (.take 3 (.take 4 (.take 5 (.take 6 (.take 7 (.take 8 (.take 9 (.take 10 (.take 11 (.take 12 (.take 13 (.take 14 (.take 15 (.take 16 (.take 17 (.take 18 (.take 19 (.take 20 (.take 21 (.take 22 (.take 23 (.take 24 (.take 25 (.take 26 (.take 27 (.take 28 (.take 29 (.take 30 (.take 31 (.take 32 (.take 33 (.one 34 (.one 35 (.take 36 (.take 37 (.take 38 (.take 39 (.take 40 (.take 41 (.take 42 (.take 43 (.take 44 (.take 45 (.take 46 (.take 47 (.take 48 (.take 49 (.take 50 (.done))))))))))))))))))))))))))))))))))))))))))))))))))))
def a9 : ACode := (.seq a9_r0 (.seq a9_r1 (.seq a9_r2 (.seq a9_r3 (.seq a9_r4 (.seq a9_r5 .ret))))))
def a9_res : List ARes := [.tmp 0]
theorem a9_ok : Coded Try.prog 9 94 a9 a9_res := ⟨Try.f9, _, by kernel_rfl, rfl, by kernel_rfl, rfl, by kernel_rfl, by kernel_rfl⟩
theorem a9_of {args : List AV} {Q : AV → Prop} (hl : args.length ≤ 94) (h : AW Try.prog 94 a9 (mkS (argT 0 args) [] 0) (retQ a9_res Q)) : ACall Try.prog 9 args Q := acall_coded a9_ok hl h

/- workflow/patch.Version -/
def a10_r0 : ACode := .reg [{ op := .mov (.c (.int .i64 0)), dst := some 10 },
    { op := .mov (.c (.nils)), dst := some 11 },
    { op := .mov (.c (.nils)), dst := some 12 },
    { op := .mov (.c (.bool false)), dst := some 13 }]
def a10_r1 : ACode := .reg [{ op := .mov (.t 0), dst := some 21 },
    { op := .call 23 [(.t 21)], dst := some 22, k := 5, ad := true },
    { op := .mov (.t 1), dst := some 23 },
    { op := .call 23 [(.t 23)], dst := some 24, k := 7, ad := true },
    { op := .mov (.t 22), dst := some 14 },
    { op := .mov (.t 24), dst := some 15 }]
def a10_r2 : ACode := .reg [{ op := .mov (.t 0), dst := some 26 },
    { op := .mov (.t 2), dst := some 27 },
    { op := .call 12 [(.t 26), (.t 27)], dst := some 28 },
    { op := .mov (.t 28), dst := some 25 },
    { op := .ext (.t 25) 0, dst := some 29 },
    { op := .ext (.t 25) 1, dst := some 30 },
    { op := .mov (.t 29), dst := some 16 },
    { op := .mov (.t 30), dst := some 17 }]
def a10_r3 : ACode := .reg [{ op := .mov (.t 17), dst := some 31 }]
def a10_r4 : ACode := .reg [{ op := .mov (.t 16), dst := some 32 },
    { op := .mov (.t 14), dst := some 33 },
    { op := .mov (.t 15), dst := some 34 },
    { op := .mov (.t 32), dst := some 10 },
    { op := .mov (.t 33), dst := some 11 },
    { op := .mov (.t 34), dst := some 12 },
    { op := .mov (.c (.bool false)), dst := some 13 }]
def a10_r5 : ACode := .reg [{ op := .mov (.t 3), dst := some 35 },
    { op := .mov (.t 35), dst := some 18 },
    { op := .mov (.c (.bool true)), dst := some 19 }]
def a10_r6 : ACode := .reg [{ op := .mov (.t 4), dst := some 36 }]
def a10_r7 : ACode := .reg [{ op := .mov (.c (.int .i64 0)), dst := some 18 },
    { op := .mov (.c (.bool false)), dst := some 19 }]
def a10_r8 : ACode := .reg [{ op := .mov (.t 15), dst := some 37 },
    { op := .mov (.t 2), dst := some 38 },
    { op := .call 24 [(.t 37), (.c (.int .i64 0)), (.t 38)], dst := some 39 },
    { op := .mov (.t 39), dst := some 20 }]
def a10_r9 : ACode := .reg [{ op := .mov (.t 20), dst := some 40 },
    { op := .bin .geq (.t 40) (.c (.int .i64 0)), dst := some 41 }]
def a10_r10 : ACode := .reg [{ op := .mov (.t 15), dst := some 42 },
    { op := .mov (.t 20), dst := some 43 },
    { op := .iad 8 (.t 42) (.t 43), dst := some 44 },
    { op := .fad 2 (.t 44), dst := some 45 },
    { op := .load 1 false (.t 45), dst := some 46 },
    { op := .mov (.t 46), dst := some 18 },
    { op := .mov (.c (.bool true)), dst := some 19 }]
def a10_r11 : ACode := .reg [{ op := .mov (.t 15), dst := some 47 },
    { op := .mov (.t 20), dst := some 48 },
    { op := .mov (.t 20), dst := some 49 },
    { op := .bin .add (.t 49) (.c (.int .i64 1)), dst := some 50 },
    { op := .call 25 [(.t 47), (.t 48), (.t 50)], dst := some 51 },
    { op := .mov (.t 51), dst := some 15 }]
def a10_r12 : ACode := .reg [{ op := .mov (.t 18), dst := some 52 },
    { op := .mov (.t 14), dst := some 53 },
    { op := .mov (.t 2), dst := some 54 },
    { op := .mov (.t 18), dst := some 55 },
    { op := .build [.int .i64 0, .str [], .int .i64 0, .int .i64 0, .int .i64 0, .str [], .nils, .nils] [(0, 1, (.c (.int .i64 0))), (1, 1, (.t 54)), (2, 1, (.t 55))], dst := some 56 },
    { op := .bsl 8 true 1 [.int .i64 0, .str [], .int .i64 0, .int .i64 0, .int .i64 0, .str [], .nils, .nils] [(0, (.t 56))], dst := some 57 },
    { op := .app 8 112 (.t 53) (.t 57), dst := some 58, k := 57 },
    { op := .mov (.t 15), dst := some 59 },
    { op := .mov (.t 19), dst := some 60 },
    { op := .mov (.t 52), dst := some 10 },
    { op := .mov (.t 58), dst := some 11 },
    { op := .mov (.t 59), dst := some 12 },
    { op := .mov (.t 60), dst := some 13 }]
def a10 : ACode := (.seq a10_r0 (.seq a10_r1 (.seq (.seq a10_r2 (.seq a10_r3 (.cond (.t 31) (.seq a10_r4 .ret) .skip))) (.seq a10_r5 (.seq (.seq a10_r6 (.cond (.t 36) (.seq a10_r7 (.seq a10_r8 (.seq a10_r9 (.cond (.t 41) (.seq a10_r10 a10_r11) .skip)))) .skip)) (.seq a10_r12 .ret))))))
def a10_res : List ARes := [.tmp 10, .tmp 11, .tmp 12, .tmp 13]
theorem a10_ok : Coded Try.prog 10 61 a10 a10_res := ⟨Try.f10, _, by kernel_rfl, rfl, by kernel_rfl, rfl, by kernel_rfl, by kernel_rfl⟩
theorem a10_of {args : List AV} {Q : AV → Prop} (hl : args.length ≤ 61) (h : AW Try.prog 61 a10 (mkS (argT 0 args) [] 0) (retQ a10_res Q)) : ACall Try.prog 10 args Q := acall_coded a10_ok hl h

/- workflow/workflowref19.Version -/
def a11_r0 : ACode := .reg [{ op := .mov (.c (.int .i64 0)), dst := some 10 },
    { op := .mov (.c (.nils)), dst := some 11 },
    { op := .mov (.c (.nils)), dst := some 12 },
    { op := .mov (.c (.bool false)), dst := some 13 }]
def a11_r1 : ACode := .reg [{ op := .mov (.t 0), dst := some 21 },
    { op := .mov (.t 2), dst := some 22 },
    { op := .call 13 [(.t 21), (.t 22)], dst := some 23 },
    { op := .mov (.t 23), dst := some 20 },
    { op := .ext (.t 20) 0, dst := some 24 },
    { op := .ext (.t 20) 1, dst := some 25 },
    { op := .mov (.t 24), dst := some 14 },
    { op := .mov (.t 25), dst := some 15 }]
def a11_r2 : ACode := .reg [{ op := .mov (.t 15), dst := some 26 }]
def a11_r3 : ACode := .reg [{ op := .mov (.t 14), dst := some 27 },
    { op := .mov (.t 0), dst := some 28 },
    { op := .call 26 [(.t 28), (.c (.int .i64 (-1)))], dst := some 29, k := 15, ad := true },
    { op := .mov (.t 1), dst := some 30 },
    { op := .call 26 [(.t 30), (.c (.int .i64 (-1)))], dst := some 31, k := 17, ad := true },
    { op := .mov (.t 27), dst := some 10 },
    { op := .mov (.t 29), dst := some 11 },
    { op := .mov (.t 31), dst := some 12 },
    { op := .mov (.c (.bool false)), dst := some 13 }]
def a11_r4 : ACode := .reg [{ op := .mov (.t 3), dst := some 32 },
    { op := .mov (.t 32), dst := some 16 },
    { op := .mov (.c (.int .i64 (-1))), dst := some 17 },
    { op := .mov (.c (.bool true)), dst := some 18 }]
def a11_r5 : ACode := .reg [{ op := .mov (.t 4), dst := some 33 }]
def a11_r6 : ACode := .reg [{ op := .mov (.t 1), dst := some 34 },
    { op := .mov (.t 2), dst := some 35 },
    { op := .call 27 [(.t 34), (.c (.int .i64 0)), (.t 35)], dst := some 36 },
    { op := .mov (.t 36), dst := some 17 }]
def a11_r7 : ACode := .reg [{ op := .mov (.t 17), dst := some 37 },
    { op := .bin .geq (.t 37) (.c (.int .i64 0)), dst := some 38 },
    { op := .mov (.c (.int .i64 0)), dst := some 16 },
    { op := .mov (.t 38), dst := some 18 }]
def a11_r8 : ACode := .reg [{ op := .mov (.t 18), dst := some 39 }]
def a11_r9 : ACode := .reg [{ op := .mov (.t 1), dst := some 40 },
    { op := .mov (.t 17), dst := some 41 },
    { op := .iad 8 (.t 40) (.t 41), dst := some 42 },
    { op := .fad 2 (.t 42), dst := some 43 },
    { op := .load 1 false (.t 43), dst := some 44 },
    { op := .mov (.t 44), dst := some 16 }]
def a11_r10 : ACode := .reg [{ op := .mov (.t 0), dst := some 45 },
    { op := .call 26 [(.t 45), (.c (.int .i64 (-1)))], dst := some 46, k := 43, ad := true },
    { op := .mov (.t 46), dst := some 19 }]
def a11_r11 : ACode := .reg [{ op := .mov (.t 19), dst := some 47 },
    { op := .mov (.t 2), dst := some 48 },
    { op := .mov (.t 16), dst := some 49 },
    { op := .build [.int .i64 0, .str [], .int .i64 0, .int .i64 0, .int .i64 0, .str [], .nils, .nils] [(1, 1, (.t 48)), (2, 1, (.t 49))], dst := some 50 },
    { op := .bsl 8 true 1 [.int .i64 0, .str [], .int .i64 0, .int .i64 0, .int .i64 0, .str [], .nils, .nils] [(0, (.t 50))], dst := some 51 },
    { op := .app 8 112 (.t 47) (.t 51), dst := some 52, k := 50 },
    { op := .mov (.t 52), dst := some 19 }]
def a11_r12 : ACode := .reg [{ op := .mov (.t 16), dst := some 53 },
    { op := .mov (.t 19), dst := some 54 },
    { op := .mov (.t 1), dst := some 55 },
    { op := .mov (.t 17), dst := some 56 },
    { op := .call 26 [(.t 55), (.t 56)], dst := some 57, k := 56, ad := true },
    { op := .mov (.t 18), dst := some 58 },
    { op := .mov (.t 53), dst := some 10 },
    { op := .mov (.t 54), dst := some 11 },
    { op := .mov (.t 57), dst := some 12 },
    { op := .mov (.t 58), dst := some 13 }]
def a11 : ACode := (.seq a11_r0 (.seq (.seq a11_r1 (.seq a11_r2 (.cond (.t 26) (.seq a11_r3 .ret) .skip))) (.seq a11_r4 (.seq (.seq a11_r5 (.cond (.t 33) (.seq a11_r6 (.seq a11_r7 (.seq a11_r8 (.cond (.t 39) a11_r9 .skip)))) .skip)) (.seq a11_r10 (.seq a11_r11 (.seq a11_r12 .ret)))))))
def a11_res : List ARes := [.tmp 10, .tmp 11, .tmp 12, .tmp 13]
theorem a11_ok : Coded Try.prog 11 59 a11 a11_res := ⟨Try.f11, _, by kernel_rfl, rfl, by kernel_rfl, rfl, by kernel_rfl, by kernel_rfl⟩
theorem a11_of {args : List AV} {Q : AV → Prop} (hl : args.length ≤ 59) (h : AW Try.prog 59 a11 (mkS (argT 0 args) [] 0) (retQ a11_res Q)) : ACall Try.prog 11 args Q := acall_coded a11_ok hl h

/- workflow/patch.Find -/
def a12_r0 : ACode := .reg [{ op := .mov (.c (.int .i64 0)), dst := some 4 },
    { op := .mov (.c (.bool false)), dst := some 5 }]
def a12_r1 : ACode := .reg [{ op := .mov (.t 0), dst := some 7 },
    { op := .mov (.t 1), dst := some 8 },
    { op := .call 24 [(.t 7), (.c (.int .i64 0)), (.t 8)], dst := some 9 },
    { op := .mov (.t 9), dst := some 6 }]
def a12_r2 : ACode := .reg [{ op := .mov (.t 6), dst := some 10 },
    { op := .bin .lss (.t 10) (.c (.int .i64 0)), dst := some 11 }]
def a12_r3 : ACode := .reg [{ op := .mov (.c (.int .i64 0)), dst := some 4 },
    { op := .mov (.c (.bool false)), dst := some 5 }]
def a12_r4 : ACode := .reg [{ op := .mov (.t 0), dst := some 12 },
    { op := .mov (.t 6), dst := some 13 },
    { op := .iad 8 (.t 12) (.t 13), dst := some 14 },
    { op := .fad 2 (.t 14), dst := some 15 },
    { op := .load 1 false (.t 15), dst := some 16 },
    { op := .mov (.t 16), dst := some 4 },
    { op := .mov (.c (.bool true)), dst := some 5 }]
def a12 : ACode := (.seq a12_r0 (.seq a12_r1 (.seq (.seq a12_r2 (.cond (.t 11) (.seq a12_r3 .ret) .skip)) (.seq a12_r4 .ret))))
def a12_res : List ARes := [.tmp 4, .tmp 5]
theorem a12_ok : Coded Try.prog 12 17 a12 a12_res := ⟨Try.f12, _, by kernel_rfl, rfl, by kernel_rfl, rfl, by kernel_rfl, by kernel_rfl⟩
theorem a12_of {args : List AV} {Q : AV → Prop} (hl : args.length ≤ 17) (h : AW Try.prog 17 a12 (mkS (argT 0 args) [] 0) (retQ a12_res Q)) : ACall Try.prog 12 args Q := acall_coded a12_ok hl h

/- workflow/workflowref19.Find -/
def a13_r0 : ACode := .reg [{ op := .mov (.c (.int .i64 0)), dst := some 4 },
    { op := .mov (.c (.bool false)), dst := some 5 }]
def a13_r1 : ACode := .reg [{ op := .mov (.t 0), dst := some 7 },
    { op := .mov (.t 1), dst := some 8 },
    { op := .call 27 [(.t 7), (.c (.int .i64 0)), (.t 8)], dst := some 9 },
    { op := .mov (.t 9), dst := some 6 }]
def a13_r2 : ACode := .reg [{ op := .mov (.t 6), dst := some 10 },
    { op := .bin .lss (.t 10) (.c (.int .i64 0)), dst := some 11 }]
def a13_r3 : ACode := .reg [{ op := .mov (.c (.int .i64 0)), dst := some 4 },
    { op := .mov (.c (.bool false)), dst := some 5 }]
def a13_r4 : ACode := .reg [{ op := .mov (.t 0), dst := some 12 },
    { op := .mov (.t 6), dst := some 13 },
    { op := .iad 8 (.t 12) (.t 13), dst := some 14 },
    { op := .fad 2 (.t 14), dst := some 15 },
    { op := .load 1 false (.t 15), dst := some 16 },
    { op := .mov (.t 16), dst := some 4 },
    { op := .mov (.c (.bool true)), dst := some 5 }]
def a13 : ACode := (.seq a13_r0 (.seq a13_r1 (.seq (.seq a13_r2 (.cond (.t 11) (.seq a13_r3 .ret) .skip)) (.seq a13_r4 .ret))))
def a13_res : List ARes := [.tmp 4, .tmp 5]
theorem a13_ok : Coded Try.prog 13 17 a13 a13_res := ⟨Try.f13, _, by kernel_rfl, rfl, by kernel_rfl, rfl, by kernel_rfl, by kernel_rfl⟩
theorem a13_of {args : List AV} {Q : AV → Prop} (hl : args.length ≤ 17) (h : AW Try.prog 17 a13 (mkS (argT 0 args) [] 0) (retQ a13_res Q)) : ACall Try.prog 13 args Q := acall_coded a13_ok hl h

/- workflow/workflowlaw19.Same -/
def a14_r0 : ACode := .reg [{ op := .mov (.c (.bool false)), dst := some 4 }]
def a14_r1 : ACode := .reg [{ op := .mov (.t 0), dst := some 7 },
    { op := .len false (.t 7), dst := some 8 },
    { op := .mov (.t 1), dst := some 9 },
    { op := .len false (.t 9), dst := some 10 },
    { op := .bin .neq (.t 8) (.t 10), dst := some 11 }]
def a14_r2 : ACode := .reg [{ op := .mov (.c (.bool false)), dst := some 4 }]
def a14_r3 : ACode := .reg [{ op := .mov (.t 0), dst := some 12 },
    { op := .len false (.t 12), dst := some 13 },
    { op := .mov (.c (.int .i64 0)), dst := some 14 }]
def a14_r4 : ACode := .reg [{ op := .bin .lss (.t 14) (.t 13), dst := some 15 }]
def a14_r5 : ACode := .reg [{ op := .mov (.t 14), dst := some 16 },
    { op := .iad 8 (.t 12) (.t 14), dst := some 17 },
    { op := .load 8 true (.t 17), dst := some 18 },
    { op := .alloc 8 true [.int .i64 0, .str [], .int .i64 0, .int .i64 0, .int .i64 0, .str [], .nils, .nils], dst := some 6, k := 14 },
    { op := .mov (.t 16), dst := some 5 },
    { op := .store 8 true (.t 6) (.t 18), dst := none }]
def a14_r6 : ACode := .draw [{ op := .fad 0 (.t 6), dst := some 19 },
    { op := .load 1 false (.t 19), dst := some 20 },
    { op := .mov (.t 1), dst := some 21 },
    { op := .mov (.t 5), dst := some 22 },
    { op := .iad 8 (.t 21) (.t 22), dst := some 23 },
    { op := .fad 0 (.t 23), dst := some 24 },
    { op := .load 1 false (.t 24), dst := some 25 },
    { op := .bin .neq (.t 20) (.t 25), dst := some 26 },
    { op := .mov (.t 26), dst := some 27 },
    { op := .fad 1 (.t 6), dst := some 28, g := some (27, false) },
    { op := .load 1 false (.t 28), dst := some 29, g := some (27, false) },
    { op := .mov (.t 1), dst := some 30, g := some (27, false) },
    { op := .mov (.t 5), dst := some 31, g := some (27, false) },
    { op := .iad 8 (.t 30) (.t 31), dst := some 32, g := some (27, false) },
    { op := .fad 1 (.t 32), dst := some 33, g := some (27, false) },
    { op := .load 1 false (.t 33), dst := some 34, g := some (27, false) },
    { op := .bin .neq (.t 29) (.t 34), dst := some 35, g := some (27, false) },
    { op := .pick (.t 27) (.c (.bool true)) (.t 35), dst := some 36 },
    { op := .mov (.t 36), dst := some 37 },
    { op := .fad 2 (.t 6), dst := some 38, g := some (37, false) },
    { op := .load 1 false (.t 38), dst := some 39, g := some (37, false) },
    { op := .mov (.t 1), dst := some 40, g := some (37, false) },
    { op := .mov (.t 5), dst := some 41, g := some (37, false) },
    { op := .iad 8 (.t 40) (.t 41), dst := some 42, g := some (37, false) },
    { op := .fad 2 (.t 42), dst := some 43, g := some (37, false) },
    { op := .load 1 false (.t 43), dst := some 44, g := some (37, false) },
    { op := .bin .neq (.t 39) (.t 44), dst := some 45, g := some (37, false) },
    { op := .pick (.t 37) (.c (.bool true)) (.t 45), dst := some 46 },
    { op := .mov (.t 46), dst := some 47 },
    { op := .fad 3 (.t 6), dst := some 48, g := some (47, false) },
    { op := .load 5 true (.t 48), dst := some 49, g := some (47, false) },
    { op := .mov (.t 1), dst := some 50, g := some (47, false) },
    { op := .mov (.t 5), dst := some 51, g := some (47, false) },
    { op := .iad 8 (.t 50) (.t 51), dst := some 52, g := some (47, false) },
    { op := .fad 3 (.t 52), dst := some 53, g := some (47, false) },
    { op := .load 5 true (.t 53), dst := some 54, g := some (47, false) },
    { op := .call 18 [(.t 49), (.t 54)], dst := some 55, g := some (47, false) },
    { op := .not (.t 55), dst := some 56, g := some (47, false) },
    { op := .pick (.t 47) (.c (.bool true)) (.t 56), dst := some 57 }]
    []
    (.take 0 (.take 1 (.take 2 (.take 3 (.take 4 (.take 5 (.take 6 (.take 7 (.take 8 (.take 9 (.take 10 (.take 11 (.take 12 (.take 13 (.take 14 (.take 15 (.take 16 (.take 17 (.take 18 (.take 19 (.take 20 (.take 21 (.take 22 (.take 23 (.take 24 (.take 25 (.take 26 (.take 27 (.take 28 (.take 29 (.take 30 (.take 31 (.take 32 (.take 33 (.take 34 (.take 35 (.one 36 (.take 37 (.take 38 (.done))))))))))))))))))))))))))))))))))))))))
def a14_r7 : ACode := .reg [{ op := .mov (.c (.bool false)), dst := some 4 }]
def a14_r8 : ACode := .reg [{ op := .bin .add (.t 14) (.c (.int .i64 1)), dst := some 58 },
    { op := .mov (.t 58), dst := some 14 }]
def a14_l0 : ACode := (.seq a14_r4 (.seq (.cond (.t 15) .skip (.exit 0)) (.seq (.block 1 (.seq a14_r5 (.seq a14_r6 (.cond (.t 57) (.seq a14_r7 .ret) .skip)))) a14_r8)))
def a14_r9 : ACode := .reg [{ op := .mov (.c (.bool true)), dst := some 4 }]
def a14 : ACode := (.seq a14_r0 (.seq (.seq a14_r1 (.cond (.t 11) (.seq a14_r2 .ret) .skip)) (.seq (.seq a14_r3 (.block 0 (.loop a14_l0))) (.seq a14_r9 .ret))))
def a14_res : List ARes := [.tmp 4]
theorem a14_ok : Coded Try.prog 14 59 a14 a14_res := ⟨Try.f14, _, by kernel_rfl, rfl, by kernel_rfl, rfl, by kernel_rfl, by kernel_rfl⟩
theorem a14_of {args : List AV} {Q : AV → Prop} (hl : args.length ≤ 59) (h : AW Try.prog 59 a14 (mkS (argT 0 args) [] 0) (retQ a14_res Q)) : ACall Try.prog 14 args Q := acall_coded a14_ok hl h

/- workflow/workflowref02.Size -/
def a15_r0 : ACode := .reg [{ op := .box 5 true (.t 0), dst := some 1, k := 0 },
    { op := .mov (.c (.int .i64 0)), dst := some 2 }]
def a15_r1 : ACode := .reg [{ op := .mov (.c (.int .i64 1)), dst := some 3 }]
def a15_r2 : ACode := .reg [{ op := .mov (.c (.int .i64 0)), dst := some 4 }]
def a15_r3 : ACode := .reg [{ op := .mov (.t 4), dst := some 5 },
    { op := .fad 3 (.t 1), dst := some 6 },
    { op := .load 1 false (.t 6), dst := some 7 },
    { op := .len false (.t 7), dst := some 8 },
    { op := .bin .lss (.t 5) (.t 8), dst := some 9 }]
def a15_r5 : ACode := .reg [{ op := .mov (.t 3), dst := some 12 },
    { op := .fad 3 (.t 1), dst := some 13 },
    { op := .load 1 false (.t 13), dst := some 14 },
    { op := .mov (.t 4), dst := some 15 },
    { op := .iad 5 (.t 14) (.t 15), dst := some 16 },
    { op := .load 5 true (.t 16), dst := some 17 },
    { op := .call 15 [(.t 17)], dst := some 18 },
    { op := .bin .add (.t 12) (.t 18), dst := some 19 },
    { op := .mov (.t 19), dst := some 3 }]
def a15_r4 : ACode := .reg [{ op := .mov (.t 4), dst := some 10 },
    { op := .bin .add (.t 10) (.c (.int .i64 1)), dst := some 11 },
    { op := .mov (.t 11), dst := some 4 }]
def a15_l0 : ACode := (.seq (.seq a15_r3 (.cond (.t 9) .skip (.exit 0))) (.seq (.block 1 a15_r5) a15_r4))
def a15_r6 : ACode := .reg [{ op := .mov (.t 3), dst := some 20 },
    { op := .mov (.t 20), dst := some 2 }]
def a15 : ACode := (.seq a15_r0 (.seq a15_r1 (.seq (.seq a15_r2 (.block 0 (.loop a15_l0))) (.seq a15_r6 .ret))))
def a15_res : List ARes := [.tmp 2]
theorem a15_ok : Coded Try.prog 15 21 a15 a15_res := ⟨Try.f15, _, by kernel_rfl, rfl, by kernel_rfl, rfl, by kernel_rfl, by kernel_rfl⟩
theorem a15_of {args : List AV} {Q : AV → Prop} (hl : args.length ≤ 21) (h : AW Try.prog 21 a15 (mkS (argT 0 args) [] 0) (retQ a15_res Q)) : ACall Try.prog 15 args Q := acall_coded a15_ok hl h

/- workflow/patch.Record -/
def a16_r0 : ACode := .reg [{ op := .alloc 5 true [.int .i64 0, .int .i64 0, .str [], .nils, .nils], dst := some 8, k := 0 },
    { op := .mov (.c (.nils)), dst := some 9 },
    { op := .mov (.c (.nils)), dst := some 10 },
    { op := .mov (.c (.int .i64 0)), dst := some 11 }]
def a16_r1 : ACode := .reg [{ op := .mov (.t 0), dst := some 16 },
    { op := .call 23 [(.t 16)], dst := some 17, k := 5, ad := true },
    { op := .mov (.t 1), dst := some 18 },
    { op := .call 28 [(.t 18)], dst := some 19 },
    { op := .fld 3 1 false (.t 19), dst := some 20 },
    { op := .mov (.t 17), dst := some 12 },
    { op := .mov (.t 20), dst := some 13 }]
def a16_r2 : ACode := .reg [{ op := .mov (.t 3), dst := some 21 }]
def a16_r3 : ACode := .reg [{ op := .mov (.t 12), dst := some 22 },
    { op := .mov (.t 2), dst := some 23 },
    { op := .call 24 [(.t 22), (.c (.int .i64 1)), (.t 23)], dst := some 24 },
    { op := .mov (.t 24), dst := some 14 }]
def a16_r4 : ACode := .reg [{ op := .mov (.t 14), dst := some 25 },
    { op := .bin .lss (.t 25) (.c (.int .i64 0)), dst := some 26 }]
def a16_r5 : ACode := .reg [{ op := .build [.int .i64 0, .int .i64 0, .str [], .nils, .nils] [], dst := some 27 },
    { op := .store 5 true (.t 8) (.t 27), dst := none },
    { op := .mov (.c (.nils)), dst := some 9 },
    { op := .mov (.c (.nils)), dst := some 10 },
    { op := .mov (.c (.int .i64 21)), dst := some 11 }]
def a16_r6 : ACode := .reg [{ op := .mov (.t 12), dst := some 28 },
    { op := .mov (.t 14), dst := some 29 },
    { op := .iad 8 (.t 28) (.t 29), dst := some 30 },
    { op := .fad 3 (.t 30), dst := some 31 },
    { op := .load 5 true (.t 31), dst := some 32 },
    { op := .alloc 5 true [.int .i64 0, .int .i64 0, .str [], .nils, .nils], dst := some 15, k := 28 },
    { op := .store 5 true (.t 15) (.t 32), dst := none }]
def a16_r7 : ACode := .draw [{ op := .load 5 true (.t 15), dst := some 33 },
    { op := .mov (.t 12), dst := some 34 },
    { op := .mov (.t 14), dst := some 35 },
    { op := .mov (.t 14), dst := some 36 },
    { op := .bin .add (.t 36) (.c (.int .i64 1)), dst := some 37 },
    { op := .call 25 [(.t 34), (.t 35), (.t 37)], dst := some 38 },
    { op := .mov (.t 13), dst := some 39 },
    { op := .store 5 true (.t 8) (.t 33), dst := none },
    { op := .mov (.t 38), dst := some 9 },
    { op := .mov (.t 39), dst := some 10 },
    { op := .mov (.c (.int .i64 0)), dst := some 11 }]
    [(5, [0])]
    (.take 0 (.take 1 (.take 2 (.take 3 (.take 4 (.take 6 (.one 5 (.one 7 (.take 8 (.take 9 (.take 10 (.done))))))))))))
def a16_r8 : ACode := .reg [{ op := .mov (.t 13), dst := some 40 },
    { op := .len false (.t 40), dst := some 41 },
    { op := .bin .eql (.t 41) (.c (.int .i64 0)), dst := some 42 }]
def a16_r9 : ACode := .reg [{ op := .build [.int .i64 0, .int .i64 0, .str [], .nils, .nils] [], dst := some 43 },
    { op := .mov (.t 12), dst := some 44 },
    { op := .mov (.t 13), dst := some 45 },
    { op := .store 5 true (.t 8) (.t 43), dst := none },
    { op := .mov (.t 44), dst := some 9 },
    { op := .mov (.t 45), dst := some 10 },
    { op := .mov (.c (.int .i64 0)), dst := some 11 }]
def a16_r10 : ACode := .draw [{ op := .mov (.t 13), dst := some 46 },
    { op := .iad 5 (.t 46) (.c (.int .i64 0)), dst := some 47 },
    { op := .load 5 true (.t 47), dst := some 48 },
    { op := .mov (.t 12), dst := some 49 },
    { op := .mov (.t 13), dst := some 50 },
    { op := .slice 5 (.t 50) (some (.c (.int .i64 1))) none none, dst := some 51 },
    { op := .store 5 true (.t 8) (.t 48), dst := none },
    { op := .mov (.t 49), dst := some 9 },
    { op := .mov (.t 51), dst := some 10 },
    { op := .mov (.c (.int .i64 0)), dst := some 11 }]
    [(6, [5])]
    (.take 0 (.take 1 (.take 2 (.take 3 (.take 4 (.take 5 (.one 6 (.take 7 (.take 8 (.take 9 (.done)))))))))))
def a16 : ACode := (.seq a16_r0 (.seq a16_r1 (.seq (.seq a16_r2 (.cond (.t 21) (.seq a16_r3 (.seq (.seq a16_r4 (.cond (.t 26) (.seq a16_r5 .ret) .skip)) (.seq a16_r6 (.seq a16_r7 .ret)))) .skip)) (.seq (.seq a16_r8 (.cond (.t 42) (.seq a16_r9 .ret) .skip)) (.seq a16_r10 .ret)))))
def a16_res : List ARes := [.cell 8 5 true, .tmp 9, .tmp 10, .tmp 11]
theorem a16_ok : Coded Try.prog 16 52 a16 a16_res := ⟨Try.f16, _, by kernel_rfl, rfl, by kernel_rfl, rfl, by kernel_rfl, by kernel_rfl⟩
theorem a16_of {args : List AV} {Q : AV → Prop} (hl : args.length ≤ 52) (h : AW Try.prog 52 a16 (mkS (argT 0 args) [] 0) (retQ a16_res Q)) : ACall Try.prog 16 args Q := acall_coded a16_ok hl h

/- workflow/workflowref19.Record -/
def a17_r0 : ACode := .reg [{ op := .alloc 5 true [.int .i64 0, .int .i64 0, .str [], .nils, .nils], dst := some 8, k := 0 },
    { op := .mov (.c (.nils)), dst := some 9 },
    { op := .mov (.c (.nils)), dst := some 10 },
    { op := .mov (.c (.int .i64 0)), dst := some 11 }]
def a17_r1 : ACode := .reg [{ op := .mov (.t 3), dst := some 13 }]
def a17_r2 : ACode := .reg [{ op := .mov (.t 0), dst := some 14 },
    { op := .mov (.t 2), dst := some 15 },
    { op := .call 27 [(.t 14), (.c (.int .i64 1)), (.t 15)], dst := some 16 },
    { op := .mov (.t 16), dst := some 12 }]
def a17_r3 : ACode := .reg [{ op := .mov (.t 12), dst := some 17 },
    { op := .bin .lss (.t 17) (.c (.int .i64 0)), dst := some 18 }]
def a17_r4 : ACode := .reg [{ op := .build [.int .i64 0, .int .i64 0, .str [], .nils, .nils] [], dst := some 19 },
    { op := .store 5 true (.t 8) (.t 19), dst := none },
    { op := .mov (.c (.nils)), dst := some 9 },
    { op := .mov (.c (.nils)), dst := some 10 },
    { op := .mov (.c (.int .i64 21)), dst := some 11 }]
def a17_r5 : ACode := .reg [{ op := .mov (.t 0), dst := some 20 },
    { op := .mov (.t 12), dst := some 21 },
    { op := .iad 8 (.t 20) (.t 21), dst := some 22 },
    { op := .fad 3 (.t 22), dst := some 23 },
    { op := .load 5 true (.t 23), dst := some 24 },
    { op := .call 29 [(.t 24)], dst := some 25 },
    { op := .mov (.t 0), dst := some 26 },
    { op := .mov (.t 12), dst := some 27 },
    { op := .call 26 [(.t 26), (.t 27)], dst := some 28 },
    { op := .mov (.t 1), dst := some 29 },
    { op := .call 30 [(.t 29)], dst := some 30 },
    { op := .store 5 true (.t 8) (.t 25), dst := none },
    { op := .mov (.t 28), dst := some 9 },
    { op := .mov (.t 30), dst := some 10 },
    { op := .mov (.c (.int .i64 0)), dst := some 11 }]
def a17_r6 : ACode := .reg [{ op := .mov (.t 1), dst := some 31 },
    { op := .len false (.t 31), dst := some 32 },
    { op := .bin .eql (.t 32) (.c (.int .i64 0)), dst := some 33 }]
def a17_r7 : ACode := .reg [{ op := .build [.int .i64 0, .int .i64 0, .str [], .nils, .nils] [], dst := some 34 },
    { op := .mov (.t 0), dst := some 35 },
    { op := .call 26 [(.t 35), (.c (.int .i64 (-1)))], dst := some 36 },
    { op := .store 5 true (.t 8) (.t 34), dst := none },
    { op := .mov (.t 36), dst := some 9 },
    { op := .mov (.c (.nils)), dst := some 10 },
    { op := .mov (.c (.int .i64 0)), dst := some 11 }]
def a17_r8 : ACode := .draw [{ op := .mov (.t 1), dst := some 37 },
    { op := .iad 5 (.t 37) (.c (.int .i64 0)), dst := some 38 },
    { op := .load 5 true (.t 38), dst := some 39 },
    { op := .call 29 [(.t 39)], dst := some 40 },
    { op := .mov (.t 0), dst := some 41 },
    { op := .call 26 [(.t 41), (.c (.int .i64 (-1)))], dst := some 42 },
    { op := .mov (.t 1), dst := some 43 },
    { op := .slice 5 (.t 43) (some (.c (.int .i64 1))) none none, dst := some 44 },
    { op := .call 30 [(.t 44)], dst := some 45 },
    { op := .store 5 true (.t 8) (.t 40), dst := none },
    { op := .mov (.t 42), dst := some 9 },
    { op := .mov (.t 45), dst := some 10 },
    { op := .mov (.c (.int .i64 0)), dst := some 11 }]
    [(3, [7]), (5, [7])]
    (.take 0 (.take 1 (.take 2 (.take 4 (.take 6 (.take 7 (.one 3 (.one 5 (.one 8 (.one 9 (.take 10 (.take 11 (.take 12 (.done))))))))))))))
def a17 : ACode := (.seq a17_r0 (.seq (.seq a17_r1 (.cond (.t 13) (.seq a17_r2 (.seq (.seq a17_r3 (.cond (.t 18) (.seq a17_r4 .ret) .skip)) (.seq a17_r5 .ret))) .skip)) (.seq (.seq a17_r6 (.cond (.t 33) (.seq a17_r7 .ret) .skip)) (.seq a17_r8 .ret))))
def a17_res : List ARes := [.cell 8 5 true, .tmp 9, .tmp 10, .tmp 11]
theorem a17_ok : Coded Try.prog 17 46 a17 a17_res := ⟨Try.f17, _, by kernel_rfl, rfl, by kernel_rfl, rfl, by kernel_rfl, by kernel_rfl⟩
theorem a17_of {args : List AV} {Q : AV → Prop} (hl : args.length ≤ 46) (h : AW Try.prog 46 a17 (mkS (argT 0 args) [] 0) (retQ a17_res Q)) : ACall Try.prog 17 args Q := acall_coded a17_ok hl h

/- workflow/workflowref02.Same -/
def a18_r0 : ACode := .reg [{ op := .box 5 true (.t 0), dst := some 2, k := 0 },
    { op := .box 5 true (.t 1), dst := some 3, k := 1 },
    { op := .mov (.c (.bool false)), dst := some 4 }]
def a18_r1 : ACode := .reg [{ op := .fad 0 (.t 2), dst := some 7 },
    { op := .load 1 false (.t 7), dst := some 8 },
    { op := .fad 0 (.t 3), dst := some 9 },
    { op := .load 1 false (.t 9), dst := some 10 },
    { op := .bin .neq (.t 8) (.t 10), dst := some 11 },
    { op := .mov (.t 11), dst := some 12 },
    { op := .fad 1 (.t 2), dst := some 13, g := some (12, false) },
    { op := .load 1 false (.t 13), dst := some 14, g := some (12, false) },
    { op := .fad 1 (.t 3), dst := some 15, g := some (12, false) },
    { op := .load 1 false (.t 15), dst := some 16, g := some (12, false) },
    { op := .bin .neq (.t 14) (.t 16), dst := some 17, g := some (12, false) },
    { op := .pick (.t 12) (.c (.bool true)) (.t 17), dst := some 18 },
    { op := .mov (.t 18), dst := some 19 },
    { op := .fad 2 (.t 2), dst := some 20, g := some (19, false) },
    { op := .load 1 false (.t 20), dst := some 21, g := some (19, false) },
    { op := .fad 2 (.t 3), dst := some 22, g := some (19, false) },
    { op := .load 1 false (.t 22), dst := some 23, g := some (19, false) },
    { op := .bin .neq (.t 21) (.t 23), dst := some 24, g := some (19, false) },
    { op := .pick (.t 19) (.c (.bool true)) (.t 24), dst := some 25 },
    { op := .mov (.t 25), dst := some 26 },
    { op := .fad 3 (.t 2), dst := some 27, g := some (26, false) },
    { op := .load 1 false (.t 27), dst := some 28, g := some (26, false) },
    { op := .len false (.t 28), dst := some 29, g := some (26, false) },
    { op := .fad 3 (.t 3), dst := some 30, g := some (26, false) },
    { op := .load 1 false (.t 30), dst := some 31, g := some (26, false) },
    { op := .len false (.t 31), dst := some 32, g := some (26, false) },
    { op := .bin .neq (.t 29) (.t 32), dst := some 33, g := some (26, false) },
    { op := .pick (.t 26) (.c (.bool true)) (.t 33), dst := some 34 },
    { op := .mov (.t 34), dst := some 35 },
    { op := .fad 4 (.t 2), dst := some 36, g := some (35, false) },
    { op := .load 1 false (.t 36), dst := some 37, g := some (35, false) },
    { op := .len false (.t 37), dst := some 38, g := some (35, false) },
    { op := .fad 4 (.t 3), dst := some 39, g := some (35, false) },
    { op := .load 1 false (.t 39), dst := some 40, g := some (35, false) },
    { op := .len false (.t 40), dst := some 41, g := some (35, false) },
    { op := .bin .neq (.t 38) (.t 41), dst := some 42, g := some (35, false) },
    { op := .pick (.t 35) (.c (.bool true)) (.t 42), dst := some 43 }]
def a18_r2 : ACode := .reg [{ op := .mov (.c (.bool false)), dst := some 4 }]
def a18_r3 : ACode := .reg [{ op := .mov (.c (.int .i64 0)), dst := some 5 }]
def a18_r4 : ACode := .reg [{ op := .mov (.t 5), dst := some 44 },
    { op := .fad 4 (.t 2), dst := some 45 },
    { op := .load 1 false (.t 45), dst := some 46 },
    { op := .len false (.t 46), dst := some 47 },
    { op := .bin .lss (.t 44) (.t 47), dst := some 48 }]
def a18_r6 : ACode := .draw [{ op := .fad 4 (.t 2), dst := some 51 },
    { op := .load 1 false (.t 51), dst := some 52 },
    { op := .mov (.t 5), dst := some 53 },
    { op := .iad 1 (.t 52) (.t 53), dst := some 54 },
    { op := .load 1 false (.t 54), dst := some 55 },
    { op := .fad 4 (.t 3), dst := some 56 },
    { op := .load 1 false (.t 56), dst := some 57 },
    { op := .mov (.t 5), dst := some 58 },
    { op := .iad 1 (.t 57) (.t 58), dst := some 59 },
    { op := .load 1 false (.t 59), dst := some 60 },
    { op := .bin .neq (.t 55) (.t 60), dst := some 61 }]
    []
    (.take 0 (.take 1 (.take 2 (.take 3 (.take 4 (.take 5 (.take 6 (.take 7 (.take 8 (.take 9 (.take 10 (.done))))))))))))
def a18_r7 : ACode := .reg [{ op := .mov (.c (.bool false)), dst := some 4 }]
def a18_r5 : ACode := .reg [{ op := .mov (.t 5), dst := some 49 },
    { op := .bin .add (.t 49) (.c (.int .i64 1)), dst := some 50 },
    { op := .mov (.t 50), dst := some 5 }]
def a18_l0 : ACode := (.seq (.seq a18_r4 (.cond (.t 48) .skip (.exit 0))) (.seq (.block 1 (.seq a18_r6 (.cond (.t 61) (.seq a18_r7 .ret) .skip))) a18_r5))
def a18_r8 : ACode := .reg [{ op := .mov (.c (.int .i64 0)), dst := some 6 }]
def a18_r9 : ACode := .reg [{ op := .mov (.t 6), dst := some 62 },
    { op := .fad 3 (.t 2), dst := some 63 },
    { op := .load 1 false (.t 63), dst := some 64 },
    { op := .len false (.t 64), dst := some 65 },
    { op := .bin .lss (.t 62) (.t 65), dst := some 66 }]
def a18_r11 : ACode := .draw [{ op := .fad 3 (.t 2), dst := some 69 },
    { op := .load 1 false (.t 69), dst := some 70 },
    { op := .mov (.t 6), dst := some 71 },
    { op := .iad 5 (.t 70) (.t 71), dst := some 72 },
    { op := .load 5 true (.t 72), dst := some 73 },
    { op := .fad 3 (.t 3), dst := some 74 },
    { op := .load 1 false (.t 74), dst := some 75 },
    { op := .mov (.t 6), dst := some 76 },
    { op := .iad 5 (.t 75) (.t 76), dst := some 77 },
    { op := .load 5 true (.t 77), dst := some 78 },
    { op := .call 18 [(.t 73), (.t 78)], dst := some 79 },
    { op := .not (.t 79), dst := some 80 }]
    []
    (.take 0 (.take 1 (.take 2 (.take 3 (.take 4 (.take 5 (.take 6 (.take 7 (.take 8 (.take 9 (.one 10 (.take 11 (.done)))))))))))))
def a18_r12 : ACode := .reg [{ op := .mov (.c (.bool false)), dst := some 4 }]
def a18_r10 : ACode := .reg [{ op := .mov (.t 6), dst := some 67 },
    { op := .bin .add (.t 67) (.c (.int .i64 1)), dst := some 68 },
    { op := .mov (.t 68), dst := some 6 }]
def a18_l1 : ACode := (.seq (.seq a18_r9 (.cond (.t 66) .skip (.exit 2))) (.seq (.block 3 (.seq a18_r11 (.cond (.t 80) (.seq a18_r12 .ret) .skip))) a18_r10))
def a18_r13 : ACode := .reg [{ op := .mov (.c (.bool true)), dst := some 4 }]
def a18 : ACode := (.seq a18_r0 (.seq (.seq a18_r1 (.cond (.t 43) (.seq a18_r2 .ret) .skip)) (.seq (.seq a18_r3 (.block 0 (.loop a18_l0))) (.seq (.seq a18_r8 (.block 2 (.loop a18_l1))) (.seq a18_r13 .ret)))))
def a18_res : List ARes := [.tmp 4]
theorem a18_ok : Coded Try.prog 18 81 a18 a18_res := ⟨Try.f18, _, by kernel_rfl, rfl, by kernel_rfl, rfl, by kernel_rfl, by kernel_rfl⟩
theorem a18_of {args : List AV} {Q : AV → Prop} (hl : args.length ≤ 81) (h : AW Try.prog 81 a18 (mkS (argT 0 args) [] 0) (retQ a18_res Q)) : ACall Try.prog 18 args Q := acall_coded a18_ok hl h

/- workflow/patch.Of -/
def a19_r0 : ACode := .reg [{ op := .mov (.c (.nils)), dst := some 2 }]
def a19_r1 : ACode := .reg [{ op := .mov (.c (.nils)), dst := some 3 }]
def a19_r2 : ACode := .reg [{ op := .mov (.t 0), dst := some 6 },
    { op := .len false (.t 6), dst := some 7 },
    { op := .mov (.c (.int .i64 0)), dst := some 8 }]
def a19_r3 : ACode := .reg [{ op := .bin .lss (.t 8) (.t 7), dst := some 9 }]
def a19_r4 : ACode := .reg [{ op := .iad 24 (.t 6) (.t 8), dst := some 10 },
    { op := .load 24 true (.t 10), dst := some 11 },
    { op := .alloc 24 true [.int .i64 0, .int .i64 0, .int .i64 0, .int .i64 0, .int .i64 0, .int .i64 0, .int .i64 0, .str [], .str [], .int .i64 0, .int .i64 0, .str [], .nils, .nils, .str [], .int .i64 0, .int .i64 0, .int .i64 0, .int .i64 0, .int .i64 0, .int .i64 0, .int .i64 0, .int .i64 0, .nils], dst := some 5, k := 8 },
    { op := .store 24 true (.t 5) (.t 11), dst := none }]
def a19_r5 : ACode := .reg [{ op := .fad 1 (.t 5), dst := some 12 },
    { op := .load 1 false (.t 12), dst := some 13 },
    { op := .bin .neq (.t 13) (.c (.int .i64 18)), dst := some 14 }]
def a19_r6 : ACode := .reg [{ op := .fad 5 (.t 5), dst := some 15 },
    { op := .load 1 false (.t 15), dst := some 16 },
    { op := .bin .geq (.t 16) (.c (.int .i64 0)), dst := some 17 }]
def a19_r7 : ACode := .reg [{ op := .mov (.t 3), dst := some 18 },
    { op := .fad 7 (.t 5), dst := some 19 },
    { op := .load 1 false (.t 19), dst := some 20 },
    { op := .fad 5 (.t 5), dst := some 21 },
    { op := .load 1 false (.t 21), dst := some 22 },
    { op := .build [.int .i64 0, .str [], .int .i64 0, .int .i64 0, .int .i64 0, .str [], .nils, .nils] [(0, 1, (.c (.int .i64 0))), (1, 1, (.t 20)), (2, 1, (.t 22))], dst := some 23 },
    { op := .bsl 8 true 1 [.int .i64 0, .str [], .int .i64 0, .int .i64 0, .int .i64 0, .str [], .nils, .nils] [(0, (.t 23))], dst := some 24 },
    { op := .app 8 112 (.t 18) (.t 24), dst := some 25, k := 23 },
    { op := .mov (.t 25), dst := some 3 }]
def a19_r8 : ACode := .reg [{ op := .fad 5 (.t 5), dst := some 26 },
    { op := .load 1 false (.t 26), dst := some 27 },
    { op := .bin .eql (.t 27) (.c (.int .i64 (-1))), dst := some 28 }]
def a19_r9 : ACode := .draw [{ op := .mov (.t 3), dst := some 29 },
    { op := .fad 7 (.t 5), dst := some 30 },
    { op := .load 1 false (.t 30), dst := some 31 },
    { op := .fad 9 (.t 5), dst := some 32 },
    { op := .load 5 true (.t 32), dst := some 33 },
    { op := .call 31 [(.t 33)], dst := some 34 },
    { op := .build [.int .i64 0, .str [], .int .i64 0, .int .i64 0, .int .i64 0, .str [], .nils, .nils] [(0, 1, (.c (.int .i64 1))), (1, 1, (.t 31)), (3, 5, (.t 34))], dst := some 35 },
    { op := .bsl 8 true 1 [.int .i64 0, .str [], .int .i64 0, .int .i64 0, .int .i64 0, .str [], .nils, .nils] [(0, (.t 35))], dst := some 36 },
    { op := .app 8 112 (.t 29) (.t 36), dst := some 37, k := 36 },
    { op := .mov (.t 37), dst := some 3 }]
    [(5, [2])]
    (.take 0 (.take 1 (.take 2 (.take 3 (.take 4 (.one 5 (.take 6 (.take 7 (.one 8 (.one 9 (.done)))))))))))
def a19_r10 : ACode := .reg [{ op := .bin .add (.t 8) (.c (.int .i64 1)), dst := some 38 },
    { op := .mov (.t 38), dst := some 8 }]
def a19_l0 : ACode := (.seq a19_r3 (.seq (.cond (.t 9) .skip (.exit 0)) (.seq (.block 1 (.seq a19_r4 (.seq (.seq a19_r5 (.cond (.t 14) (.exit 1) .skip)) (.seq a19_r6 (.cond (.t 17) a19_r7 (.seq a19_r8 (.cond (.t 28) a19_r9 .skip))))))) a19_r10)))
def a19_r11 : ACode := .reg [{ op := .mov (.t 3), dst := some 39 },
    { op := .mov (.t 39), dst := some 2 }]
def a19 : ACode := (.seq a19_r0 (.seq a19_r1 (.seq (.seq a19_r2 (.block 0 (.loop a19_l0))) (.seq a19_r11 .ret))))
def a19_res : List ARes := [.tmp 2]
theorem a19_ok : Coded Try.prog 19 40 a19 a19_res := ⟨Try.f19, _, by kernel_rfl, rfl, by kernel_rfl, rfl, by kernel_rfl, by kernel_rfl⟩
theorem a19_of {args : List AV} {Q : AV → Prop} (hl : args.length ≤ 40) (h : AW Try.prog 40 a19 (mkS (argT 0 args) [] 0) (retQ a19_res Q)) : ACall Try.prog 19 args Q := acall_coded a19_ok hl h

/- workflow/workflowref19.Of -/
def a20_r0 : ACode := .reg [{ op := .mov (.c (.nils)), dst := some 2 }]
def a20_r1 : ACode := .reg [{ op := .mov (.c (.nils)), dst := some 3 }]
def a20_r2 : ACode := .reg [{ op := .mov (.t 0), dst := some 6 },
    { op := .len false (.t 6), dst := some 7 },
    { op := .mov (.c (.int .i64 0)), dst := some 8 }]
def a20_r3 : ACode := .reg [{ op := .bin .lss (.t 8) (.t 7), dst := some 9 }]
def a20_r4 : ACode := .reg [{ op := .iad 24 (.t 6) (.t 8), dst := some 10 },
    { op := .load 24 true (.t 10), dst := some 11 },
    { op := .alloc 24 true [.int .i64 0, .int .i64 0, .int .i64 0, .int .i64 0, .int .i64 0, .int .i64 0, .int .i64 0, .str [], .str [], .int .i64 0, .int .i64 0, .str [], .nils, .nils, .str [], .int .i64 0, .int .i64 0, .int .i64 0, .int .i64 0, .int .i64 0, .int .i64 0, .int .i64 0, .int .i64 0, .nils], dst := some 5, k := 8 },
    { op := .store 24 true (.t 5) (.t 11), dst := none }]
def a20_r5 : ACode := .reg [{ op := .fad 1 (.t 5), dst := some 12 },
    { op := .load 1 false (.t 12), dst := some 13 },
    { op := .bin .neq (.t 13) (.c (.int .i64 18)), dst := some 14 }]
def a20_r6 : ACode := .reg [{ op := .fad 5 (.t 5), dst := some 15 },
    { op := .load 1 false (.t 15), dst := some 16 },
    { op := .bin .geq (.t 16) (.c (.int .i64 0)), dst := some 17 }]
def a20_r7 : ACode := .reg [{ op := .mov (.t 3), dst := some 18 },
    { op := .fad 7 (.t 5), dst := some 19 },
    { op := .load 1 false (.t 19), dst := some 20 },
    { op := .fad 5 (.t 5), dst := some 21 },
    { op := .load 1 false (.t 21), dst := some 22 },
    { op := .build [.int .i64 0, .str [], .int .i64 0, .int .i64 0, .int .i64 0, .str [], .nils, .nils] [(1, 1, (.t 20)), (2, 1, (.t 22))], dst := some 23 },
    { op := .bsl 8 true 1 [.int .i64 0, .str [], .int .i64 0, .int .i64 0, .int .i64 0, .str [], .nils, .nils] [(0, (.t 23))], dst := some 24 },
    { op := .app 8 112 (.t 18) (.t 24), dst := some 25, k := 23 },
    { op := .mov (.t 25), dst := some 3 }]
def a20_r8 : ACode := .reg [{ op := .fad 5 (.t 5), dst := some 26 },
    { op := .load 1 false (.t 26), dst := some 27 },
    { op := .bin .eql (.t 27) (.c (.int .i64 (-1))), dst := some 28 }]
def a20_r9 : ACode := .draw [{ op := .mov (.t 3), dst := some 29 },
    { op := .fad 7 (.t 5), dst := some 30 },
    { op := .load 1 false (.t 30), dst := some 31 },
    { op := .fad 9 (.t 5), dst := some 32 },
    { op := .load 5 true (.t 32), dst := some 33 },
    { op := .call 29 [(.t 33)], dst := some 34 },
    { op := .build [.int .i64 0, .str [], .int .i64 0, .int .i64 0, .int .i64 0, .str [], .nils, .nils] [(0, 1, (.c (.int .i64 1))), (1, 1, (.t 31)), (3, 5, (.t 34))], dst := some 35 },
    { op := .bsl 8 true 1 [.int .i64 0, .str [], .int .i64 0, .int .i64 0, .int .i64 0, .str [], .nils, .nils] [(0, (.t 35))], dst := some 36 },
    { op := .app 8 112 (.t 29) (.t 36), dst := some 37, k := 36 },
    { op := .mov (.t 37), dst := some 3 }]
    [(5, [2])]
    (.take 0 (.take 1 (.take 2 (.take 3 (.take 4 (.one 5 (.take 6 (.take 7 (.one 8 (.one 9 (.done)))))))))))
def a20_r10 : ACode := .reg [{ op := .bin .add (.t 8) (.c (.int .i64 1)), dst := some 38 },
    { op := .mov (.t 38), dst := some 8 }]
def a20_l0 : ACode := (.seq a20_r3 (.seq (.cond (.t 9) .skip (.exit 0)) (.seq (.block 1 (.seq a20_r4 (.seq (.seq a20_r5 (.cond (.t 14) (.exit 1) .skip)) (.seq (.seq a20_r6 (.cond (.t 17) a20_r7 .skip)) (.seq a20_r8 (.cond (.t 28) a20_r9 .skip)))))) a20_r10)))
def a20_r11 : ACode := .reg [{ op := .mov (.t 3), dst := some 39 },
    { op := .mov (.t 39), dst := some 2 }]
def a20 : ACode := (.seq a20_r0 (.seq a20_r1 (.seq (.seq a20_r2 (.block 0 (.loop a20_l0))) (.seq a20_r11 .ret))))
def a20_res : List ARes := [.tmp 2]
theorem a20_ok : Coded Try.prog 20 40 a20 a20_res := ⟨Try.f20, _, by kernel_rfl, rfl, by kernel_rfl, rfl, by kernel_rfl, by kernel_rfl⟩
theorem a20_of {args : List AV} {Q : AV → Prop} (hl : args.length ≤ 40) (h : AW Try.prog 40 a20 (mkS (argT 0 args) [] 0) (retQ a20_res Q)) : ACall Try.prog 20 args Q := acall_coded a20_ok hl h

/- workflow/value.Int -/
def a21_r0 : ACode := .reg [{ op := .alloc 5 true [.int .i64 0, .int .i64 0, .str [], .nils, .nils], dst := some 2, k := 0 }]
def a21_r1 : ACode := .reg [{ op := .mov (.t 0), dst := some 3 },
    { op := .build [.int .i64 0, .int .i64 0, .str [], .nils, .nils] [(0, 1, (.c (.int .i64 2))), (1, 1, (.t 3))], dst := some 4 },
    { op := .store 5 true (.t 2) (.t 4), dst := none }]
def a21 : ACode := (.seq a21_r0 (.seq a21_r1 .ret))
def a21_res : List ARes := [.cell 2 5 true]
theorem a21_ok : Coded Try.prog 21 5 a21 a21_res := ⟨Try.f21, _, by kernel_rfl, rfl, by kernel_rfl, rfl, by kernel_rfl, by kernel_rfl⟩
theorem a21_of {args : List AV} {Q : AV → Prop} (hl : args.length ≤ 5) (h : AW Try.prog 5 a21 (mkS (argT 0 args) [] 0) (retQ a21_res Q)) : ACall Try.prog 21 args Q := acall_coded a21_ok hl h

/- workflow/value.Same -/
def a22_r0 : ACode := .reg [{ op := .box 5 true (.t 0), dst := some 2, k := 0 },
    { op := .box 5 true (.t 1), dst := some 3, k := 1 },
    { op := .mov (.c (.bool false)), dst := some 4 }]
def a22_r1 : ACode := .reg [{ op := .fad 0 (.t 2), dst := some 5 },
    { op := .load 1 false (.t 5), dst := some 6 },
    { op := .fad 0 (.t 3), dst := some 7 },
    { op := .load 1 false (.t 7), dst := some 8 },
    { op := .bin .eql (.t 6) (.t 8), dst := some 9 },
    { op := .mov (.t 9), dst := some 10 },
    { op := .fad 1 (.t 2), dst := some 11, g := some (10, true) },
    { op := .load 1 false (.t 11), dst := some 12, g := some (10, true) },
    { op := .fad 1 (.t 3), dst := some 13, g := some (10, true) },
    { op := .load 1 false (.t 13), dst := some 14, g := some (10, true) },
    { op := .bin .eql (.t 12) (.t 14), dst := some 15, g := some (10, true) },
    { op := .pick (.t 10) (.t 15) (.c (.bool false)), dst := some 16 },
    { op := .mov (.t 16), dst := some 17 },
    { op := .fad 2 (.t 2), dst := some 18, g := some (17, true) },
    { op := .load 1 false (.t 18), dst := some 19, g := some (17, true) },
    { op := .fad 2 (.t 3), dst := some 20, g := some (17, true) },
    { op := .load 1 false (.t 20), dst := some 21, g := some (17, true) },
    { op := .bin .eql (.t 19) (.t 21), dst := some 22, g := some (17, true) },
    { op := .pick (.t 17) (.t 22) (.c (.bool false)), dst := some 23 },
    { op := .mov (.t 23), dst := some 24 },
    { op := .fad 4 (.t 2), dst := some 25, g := some (24, true) },
    { op := .load 1 false (.t 25), dst := some 26, g := some (24, true) },
    { op := .fad 4 (.t 3), dst := some 27, g := some (24, true) },
    { op := .load 1 false (.t 27), dst := some 28, g := some (24, true) },
    { op := .call 32 [(.t 26), (.t 28)], dst := some 29, g := some (24, true) },
    { op := .pick (.t 24) (.t 29) (.c (.bool false)), dst := some 30 },
    { op := .mov (.t 30), dst := some 31 },
    { op := .fad 3 (.t 2), dst := some 32, g := some (31, true) },
    { op := .load 1 false (.t 32), dst := some 33, g := some (31, true) },
    { op := .fad 3 (.t 3), dst := some 34, g := some (31, true) },
    { op := .load 1 false (.t 34), dst := some 35, g := some (31, true) },
    { op := .call 33 [(.t 33), (.t 35), (.c (.fn 22))], dst := some 36, g := some (31, true) },
    { op := .pick (.t 31) (.t 36) (.c (.bool false)), dst := some 37 },
    { op := .mov (.t 37), dst := some 4 }]
def a22 : ACode := (.seq a22_r0 (.seq a22_r1 .ret))
def a22_res : List ARes := [.tmp 4]
theorem a22_ok : Coded Try.prog 22 38 a22 a22_res := ⟨Try.f22, _, by kernel_rfl, rfl, by kernel_rfl, rfl, by kernel_rfl, by kernel_rfl⟩
theorem a22_of {args : List AV} {Q : AV → Prop} (hl : args.length ≤ 38) (h : AW Try.prog 38 a22 (mkS (argT 0 args) [] 0) (retQ a22_res Q)) : ACall Try.prog 22 args Q := acall_coded a22_ok hl h

/- workflow/patch.patches -/
def a23_r0 : ACode := .reg [{ op := .mov (.c (.nils)), dst := some 2 }]
def a23_r1 : ACode := .reg [{ op := .mov (.t 0), dst := some 5 },
    { op := .call 34 [(.t 5)], dst := some 6, k := 2, ad := true },
    { op := .mov (.t 6), dst := some 3 }]
def a23_r2 : ACode := .reg [{ op := .mov (.t 3), dst := some 7 },
    { op := .len false (.t 7), dst := some 8 },
    { op := .mov (.c (.int .i64 0)), dst := some 9 }]
def a23_r3 : ACode := .reg [{ op := .bin .lss (.t 9) (.t 8), dst := some 10 }]
def a23_r4 : ACode := .reg [{ op := .mov (.t 9), dst := some 11 },
    { op := .mov (.t 11), dst := some 4 }]
def a23_r5 : ACode := .reg [{ op := .mov (.t 3), dst := some 12 },
    { op := .mov (.t 4), dst := some 13 },
    { op := .mov (.t 3), dst := some 14 },
    { op := .mov (.t 4), dst := some 15 },
    { op := .iad 8 (.t 14) (.t 15), dst := some 16 },
    { op := .fad 3 (.t 16), dst := some 17 },
    { op := .load 5 true (.t 17), dst := some 18 },
    { op := .call 31 [(.t 18)], dst := some 19 },
    { op := .iad 8 (.t 12) (.t 13), dst := some 20 },
    { op := .fad 3 (.t 20), dst := some 21 },
    { op := .store 5 true (.t 21) (.t 19), dst := none }]
def a23_r6 : ACode := .reg [{ op := .bin .add (.t 9) (.c (.int .i64 1)), dst := some 22 },
    { op := .mov (.t 22), dst := some 9 }]
def a23_l0 : ACode := (.seq a23_r3 (.seq (.cond (.t 10) .skip (.exit 0)) (.seq (.block 1 (.seq a23_r4 a23_r5)) a23_r6)))
def a23_r7 : ACode := .reg [{ op := .mov (.t 3), dst := some 23 },
    { op := .mov (.t 23), dst := some 2 }]
def a23 : ACode := (.seq a23_r0 (.seq a23_r1 (.seq (.seq a23_r2 (.block 0 (.loop a23_l0))) (.seq a23_r7 .ret))))
def a23_res : List ARes := [.tmp 2]
theorem a23_ok : Coded Try.prog 23 24 a23 a23_res := ⟨Try.f23, _, by kernel_rfl, rfl, by kernel_rfl, rfl, by kernel_rfl, by kernel_rfl⟩
theorem a23_of {args : List AV} {Q : AV → Prop} (hl : args.length ≤ 24) (h : AW Try.prog 24 a23 (mkS (argT 0 args) [] 0) (retQ a23_res Q)) : ACall Try.prog 23 args Q := acall_coded a23_ok hl h

/- workflow/patch.place -/
def a24_r0 : ACode := .reg [{ op := .box 1 false (.t 1), dst := some 4, k := 0 },
    { op := .box 1 false (.t 2), dst := some 5, k := 1 },
    { op := .mov (.c (.int .i64 0)), dst := some 6 }]
def a24_r1 : ACode := .reg [{ op := .mov (.t 0), dst := some 7 },
    { op := .mkf 36 [(.t 4), (.t 5)], dst := some 8 },
    { op := .call 35 [(.t 7), (.t 8)], dst := some 9 },
    { op := .mov (.t 9), dst := some 6 }]
def a24 : ACode := (.seq a24_r0 (.seq a24_r1 .ret))
def a24_res : List ARes := [.tmp 6]
theorem a24_ok : Coded Try.prog 24 10 a24 a24_res := ⟨Try.f24, _, by kernel_rfl, rfl, by kernel_rfl, rfl, by kernel_rfl, by kernel_rfl⟩
theorem a24_of {args : List AV} {Q : AV → Prop} (hl : args.length ≤ 10) (h : AW Try.prog 10 a24 (mkS (argT 0 args) [] 0) (retQ a24_res Q)) : ACall Try.prog 24 args Q := acall_coded a24_ok hl h

/- slices.Delete[[]workflow/api.Patch,workflow/api.Patch] -/
def a25_r0 : ACode := .reg [{ op := .mov (.c (.nils)), dst := some 6 }]
def a25_r1 : ACode := .reg [{ op := .mov (.t 0), dst := some 8 },
    { op := .mov (.t 1), dst := some 9 },
    { op := .mov (.t 2), dst := some 10 },
    { op := .mov (.t 0), dst := some 11 },
    { op := .len false (.t 11), dst := some 12 },
    { op := .slm (.t 8) (.t 9) (.t 10) (.t 12), dst := some 13 }]
def a25_r2 : ACode := .reg [{ op := .mov (.t 1), dst := some 14 },
    { op := .mov (.t 2), dst := some 15 },
    { op := .bin .eql (.t 14) (.t 15), dst := some 16 }]
def a25_r3 : ACode := .reg [{ op := .mov (.t 0), dst := some 17 },
    { op := .mov (.t 17), dst := some 6 }]
def a25_r4 : ACode := .reg [{ op := .mov (.t 0), dst := some 18 },
    { op := .len false (.t 18), dst := some 19 },
    { op := .mov (.t 19), dst := some 7 }]
def a25_r5 : ACode := .draw [{ op := .mov (.t 0), dst := some 20 },
    { op := .mov (.t 1), dst := some 21 },
    { op := .slice 8 (.t 20) none (some (.t 21)) none, dst := some 22 },
    { op := .mov (.t 0), dst := some 23 },
    { op := .mov (.t 2), dst := some 24 },
    { op := .slice 8 (.t 23) (some (.t 24)) none none, dst := some 25 },
    { op := .app 8 112 (.t 22) (.t 25), dst := some 26, k := 21 },
    { op := .mov (.t 26), dst := some 0 }]
    []
    (.take 0 (.take 1 (.take 2 (.take 3 (.take 4 (.take 5 (.one 6 (.one 7 (.done)))))))))
def a25_r6 : ACode := .reg [{ op := .mov (.t 0), dst := some 27 },
    { op := .mov (.t 0), dst := some 28 },
    { op := .len false (.t 28), dst := some 29 },
    { op := .mov (.t 7), dst := some 30 },
    { op := .slice 8 (.t 27) (some (.t 29)) (some (.t 30)) none, dst := some 31 },
    { op := .clr 8 true [.int .i64 0, .str [], .int .i64 0, .int .i64 0, .int .i64 0, .str [], .nils, .nils] (.t 31), dst := none }]
def a25_r7 : ACode := .reg [{ op := .mov (.t 0), dst := some 32 },
    { op := .mov (.t 32), dst := some 6 }]
def a25 : ACode := (.seq a25_r0 (.seq a25_r1 (.seq (.seq a25_r2 (.cond (.t 16) (.seq a25_r3 .ret) .skip)) (.seq a25_r4 (.seq a25_r5 (.seq a25_r6 (.seq a25_r7 .ret)))))))
def a25_res : List ARes := [.tmp 6]
theorem a25_ok : Coded Try.prog 25 33 a25 a25_res := ⟨Try.f25, _, by kernel_rfl, rfl, by kernel_rfl, rfl, by kernel_rfl, by kernel_rfl⟩
theorem a25_of {args : List AV} {Q : AV → Prop} (hl : args.length ≤ 33) (h : AW Try.prog 33 a25 (mkS (argT 0 args) [] 0) (retQ a25_res Q)) : ACall Try.prog 25 args Q := acall_coded a25_ok hl h

/- workflow/workflowref19.clone -/
def a26_r0 : ACode := .reg [{ op := .mov (.c (.nils)), dst := some 4 }]
def a26_r1 : ACode := .reg [{ op := .mov (.c (.nils)), dst := some 5 }]
def a26_r2 : ACode := .reg [{ op := .mov (.t 0), dst := some 8 },
    { op := .len false (.t 8), dst := some 9 },
    { op := .mov (.c (.int .i64 0)), dst := some 10 }]
def a26_r3 : ACode := .reg [{ op := .bin .lss (.t 10) (.t 9), dst := some 11 }]
def a26_r4 : ACode := .reg [{ op := .mov (.t 10), dst := some 12 },
    { op := .iad 8 (.t 8) (.t 10), dst := some 13 },
    { op := .load 8 true (.t 13), dst := some 14 },
    { op := .alloc 8 true [.int .i64 0, .str [], .int .i64 0, .int .i64 0, .int .i64 0, .str [], .nils, .nils], dst := some 7, k := 9 },
    { op := .mov (.t 12), dst := some 6 },
    { op := .store 8 true (.t 7) (.t 14), dst := none }]
def a26_r5 : ACode := .reg [{ op := .mov (.t 6), dst := some 15 },
    { op := .mov (.t 1), dst := some 16 },
    { op := .bin .neq (.t 15) (.t 16), dst := some 17 }]
def a26_r6 : ACode := .reg [{ op := .fad 3 (.t 7), dst := some 18 },
    { op := .load 5 true (.t 18), dst := some 19 },
    { op := .call 29 [(.t 19)], dst := some 20 },
    { op := .fad 3 (.t 7), dst := some 21 },
    { op := .store 5 true (.t 21) (.t 20), dst := none }]
def a26_r7 : ACode := .reg [{ op := .mov (.t 5), dst := some 22 },
    { op := .load 8 true (.t 7), dst := some 23 },
    { op := .bsl 8 true 1 [.int .i64 0, .str [], .int .i64 0, .int .i64 0, .int .i64 0, .str [], .nils, .nils] [(0, (.t 23))], dst := some 24 },
    { op := .app 8 112 (.t 22) (.t 24), dst := some 25, k := 23 },
    { op := .mov (.t 25), dst := some 5 }]
def a26_r8 : ACode := .reg [{ op := .bin .add (.t 10) (.c (.int .i64 1)), dst := some 26 },
    { op := .mov (.t 26), dst := some 10 }]
def a26_l0 : ACode := (.seq a26_r3 (.seq (.cond (.t 11) .skip (.exit 0)) (.seq (.block 1 (.seq a26_r4 (.seq a26_r5 (.cond (.t 17) (.seq a26_r6 a26_r7) .skip)))) a26_r8)))
def a26_r9 : ACode := .reg [{ op := .mov (.t 5), dst := some 27 },
    { op := .mov (.t 27), dst := some 4 }]
def a26 : ACode := (.seq a26_r0 (.seq a26_r1 (.seq (.seq a26_r2 (.block 0 (.loop a26_l0))) (.seq a26_r9 .ret))))
def a26_res : List ARes := [.tmp 4]
theorem a26_ok : Coded Try.prog 26 28 a26 a26_res := ⟨Try.f26, _, by kernel_rfl, rfl, by kernel_rfl, rfl, by kernel_rfl, by kernel_rfl⟩
theorem a26_of {args : List AV} {Q : AV → Prop} (hl : args.length ≤ 28) (h : AW Try.prog 28 a26 (mkS (argT 0 args) [] 0) (retQ a26_res Q)) : ACall Try.prog 26 args Q := acall_coded a26_ok hl h

/- workflow/workflowref19.index -/
def a27_r0 : ACode := .reg [{ op := .mov (.c (.int .i64 0)), dst := some 6 }]
def a27_r1 : ACode := .reg [{ op := .mov (.t 0), dst := some 9 },
    { op := .len false (.t 9), dst := some 10 },
    { op := .mov (.c (.int .i64 0)), dst := some 11 }]
def a27_r2 : ACode := .reg [{ op := .bin .lss (.t 11) (.t 10), dst := some 12 }]
def a27_r3 : ACode := .reg [{ op := .mov (.t 11), dst := some 13 },
    { op := .iad 8 (.t 9) (.t 11), dst := some 14 },
    { op := .load 8 true (.t 14), dst := some 15 },
    { op := .alloc 8 true [.int .i64 0, .str [], .int .i64 0, .int .i64 0, .int .i64 0, .str [], .nils, .nils], dst := some 8, k := 8 },
    { op := .mov (.t 13), dst := some 7 },
    { op := .store 8 true (.t 8) (.t 15), dst := none }]
def a27_r4 : ACode := .reg [{ op := .fad 0 (.t 8), dst := some 16 },
    { op := .load 1 false (.t 16), dst := some 17 },
    { op := .mov (.t 1), dst := some 18 },
    { op := .bin .eql (.t 17) (.t 18), dst := some 19 },
    { op := .mov (.t 19), dst := some 20 },
    { op := .fad 1 (.t 8), dst := some 21, g := some (20, true) },
    { op := .load 1 false (.t 21), dst := some 22, g := some (20, true) },
    { op := .mov (.t 2), dst := some 23, g := some (20, true) },
    { op := .bin .eql (.t 22) (.t 23), dst := some 24, g := some (20, true) },
    { op := .pick (.t 20) (.t 24) (.c (.bool false)), dst := some 25 }]
def a27_r5 : ACode := .reg [{ op := .mov (.t 7), dst := some 26 },
    { op := .mov (.t 26), dst := some 6 }]
def a27_r6 : ACode := .reg [{ op := .bin .add (.t 11) (.c (.int .i64 1)), dst := some 27 },
    { op := .mov (.t 27), dst := some 11 }]
def a27_l0 : ACode := (.seq a27_r2 (.seq (.cond (.t 12) .skip (.exit 0)) (.seq (.block 1 (.seq a27_r3 (.seq a27_r4 (.cond (.t 25) (.seq a27_r5 .ret) .skip)))) a27_r6)))
def a27_r7 : ACode := .reg [{ op := .mov (.c (.int .i64 (-1))), dst := some 6 }]
def a27 : ACode := (.seq a27_r0 (.seq (.seq a27_r1 (.block 0 (.loop a27_l0))) (.seq a27_r7 .ret)))
def a27_res : List ARes := [.tmp 6]
theorem a27_ok : Coded Try.prog 27 28 a27 a27_res := ⟨Try.f27, _, by kernel_rfl, rfl, by kernel_rfl, rfl, by kernel_rfl, by kernel_rfl⟩
theorem a27_of {args : List AV} {Q : AV → Prop} (hl : args.length ≤ 28) (h : AW Try.prog 28 a27 (mkS (argT 0 args) [] 0) (retQ a27_res Q)) : ACall Try.prog 27 args Q := acall_coded a27_ok hl h

/- workflow/value.List -/
def a28_r0 : ACode := .reg [{ op := .alloc 5 true [.int .i64 0, .int .i64 0, .str [], .nils, .nils], dst := some 2, k := 0 }]
def a28_r1 : ACode := .reg [{ op := .mov (.t 0), dst := some 3 },
    { op := .call 37 [(.t 3)], dst := some 4 },
    { op := .build [.int .i64 0, .int .i64 0, .str [], .nils, .nils] [(0, 1, (.c (.int .i64 4))), (3, 1, (.t 4))], dst := some 5 },
    { op := .store 5 true (.t 2) (.t 5), dst := none }]
def a28 : ACode := (.seq a28_r0 (.seq a28_r1 .ret))
def a28_res : List ARes := [.cell 2 5 true]
theorem a28_ok : Coded Try.prog 28 6 a28 a28_res := ⟨Try.f28, _, by kernel_rfl, rfl, by kernel_rfl, rfl, by kernel_rfl, by kernel_rfl⟩
theorem a28_of {args : List AV} {Q : AV → Prop} (hl : args.length ≤ 6) (h : AW Try.prog 6 a28 (mkS (argT 0 args) [] 0) (retQ a28_res Q)) : ACall Try.prog 28 args Q := acall_coded a28_ok hl h

/- workflow/workflowref02.Copy -/
def a29_r0 : ACode := .reg [{ op := .box 5 true (.t 0), dst := some 1, k := 0 },
    { op := .alloc 5 true [.int .i64 0, .int .i64 0, .str [], .nils, .nils], dst := some 2, k := 1 }]
def a29_r1 : ACode := .reg [{ op := .fad 0 (.t 1), dst := some 5 },
    { op := .load 1 false (.t 5), dst := some 6 },
    { op := .fad 1 (.t 1), dst := some 7 },
    { op := .load 1 false (.t 7), dst := some 8 },
    { op := .fad 2 (.t 1), dst := some 9 },
    { op := .load 1 false (.t 9), dst := some 10 },
    { op := .build [.int .i64 0, .int .i64 0, .str [], .nils, .nils] [(0, 1, (.t 6)), (1, 1, (.t 8)), (2, 1, (.t 10))], dst := some 11 },
    { op := .alloc 5 true [.int .i64 0, .int .i64 0, .str [], .nils, .nils], dst := some 3, k := 9 },
    { op := .store 5 true (.t 3) (.t 11), dst := none }]
def a29_r2 : ACode := .reg [{ op := .fad 4 (.t 3), dst := some 12 },
    { op := .load 1 false (.t 12), dst := some 13 },
    { op := .fad 4 (.t 1), dst := some 14 },
    { op := .load 1 false (.t 14), dst := some 15 },
    { op := .app 1 16 (.t 13) (.t 15), dst := some 16, k := 15 },
    { op := .fad 4 (.t 3), dst := some 17 },
    { op := .store 1 false (.t 17) (.t 16), dst := none }]
def a29_r3 : ACode := .reg [{ op := .mov (.c (.int .i64 0)), dst := some 4 }]
def a29_r4 : ACode := .reg [{ op := .mov (.t 4), dst := some 18 },
    { op := .fad 3 (.t 1), dst := some 19 },
    { op := .load 1 false (.t 19), dst := some 20 },
    { op := .len false (.t 20), dst := some 21 },
    { op := .bin .lss (.t 18) (.t 21), dst := some 22 }]
def a29_r6 : ACode := .draw [{ op := .fad 3 (.t 3), dst := some 25 },
    { op := .load 1 false (.t 25), dst := some 26 },
    { op := .fad 3 (.t 1), dst := some 27 },
    { op := .load 1 false (.t 27), dst := some 28 },
    { op := .mov (.t 4), dst := some 29 },
    { op := .iad 5 (.t 28) (.t 29), dst := some 30 },
    { op := .load 5 true (.t 30), dst := some 31 },
    { op := .call 29 [(.t 31)], dst := some 32 },
    { op := .bsl 5 true 1 [.int .i64 0, .int .i64 0, .str [], .nils, .nils] [(0, (.t 32))], dst := some 33 },
    { op := .app 5 80 (.t 26) (.t 33), dst := some 34, k := 33 },
    { op := .fad 3 (.t 3), dst := some 35 },
    { op := .store 1 false (.t 35) (.t 34), dst := none }]
    [(7, [1])]
    (.take 0 (.take 1 (.take 2 (.take 3 (.take 4 (.take 5 (.take 6 (.one 7 (.take 8 (.one 9 (.take 10 (.one 11 (.done)))))))))))))
def a29_r5 : ACode := .reg [{ op := .mov (.t 4), dst := some 23 },
    { op := .bin .add (.t 23) (.c (.int .i64 1)), dst := some 24 },
    { op := .mov (.t 24), dst := some 4 }]
def a29_l0 : ACode := (.seq (.seq a29_r4 (.cond (.t 22) .skip (.exit 0))) (.seq (.block 1 a29_r6) a29_r5))
def a29_r7 : ACode := .reg [{ op := .load 5 true (.t 3), dst := some 36 },
    { op := .store 5 true (.t 2) (.t 36), dst := none }]
def a29 : ACode := (.seq a29_r0 (.seq a29_r1 (.seq a29_r2 (.seq (.seq a29_r3 (.block 0 (.loop a29_l0))) (.seq a29_r7 .ret)))))
def a29_res : List ARes := [.cell 2 5 true]
theorem a29_ok : Coded Try.prog 29 37 a29 a29_res := ⟨Try.f29, _, by kernel_rfl, rfl, by kernel_rfl, rfl, by kernel_rfl, by kernel_rfl⟩
theorem a29_of {args : List AV} {Q : AV → Prop} (hl : args.length ≤ 37) (h : AW Try.prog 37 a29 (mkS (argT 0 args) [] 0) (retQ a29_res Q)) : ACall Try.prog 29 args Q := acall_coded a29_ok hl h

/- workflow/workflowref19.values -/
def a30_r0 : ACode := .reg [{ op := .mov (.c (.nils)), dst := some 2 }]
def a30_r1 : ACode := .reg [{ op := .mov (.c (.nils)), dst := some 3 }]
def a30_r2 : ACode := .reg [{ op := .mov (.t 0), dst := some 6 },
    { op := .len false (.t 6), dst := some 7 },
    { op := .mov (.c (.int .i64 0)), dst := some 8 }]
def a30_r3 : ACode := .reg [{ op := .bin .lss (.t 8) (.t 7), dst := some 9 }]
def a30_r4 : ACode := .reg [{ op := .iad 5 (.t 6) (.t 8), dst := some 10 },
    { op := .load 5 true (.t 10), dst := some 11 },
    { op := .alloc 5 true [.int .i64 0, .int .i64 0, .str [], .nils, .nils], dst := some 5, k := 8 },
    { op := .store 5 true (.t 5) (.t 11), dst := none }]
def a30_r5 : ACode := .reg [{ op := .mov (.t 3), dst := some 12 },
    { op := .load 5 true (.t 5), dst := some 13 },
    { op := .call 29 [(.t 13)], dst := some 14 },
    { op := .bsl 5 true 1 [.int .i64 0, .int .i64 0, .str [], .nils, .nils] [(0, (.t 14))], dst := some 15 },
    { op := .app 5 80 (.t 12) (.t 15), dst := some 16, k := 14 },
    { op := .mov (.t 16), dst := some 3 }]
def a30_r6 : ACode := .reg [{ op := .bin .add (.t 8) (.c (.int .i64 1)), dst := some 17 },
    { op := .mov (.t 17), dst := some 8 }]
def a30_l0 : ACode := (.seq a30_r3 (.seq (.cond (.t 9) .skip (.exit 0)) (.seq (.block 1 (.seq a30_r4 a30_r5)) a30_r6)))
def a30_r7 : ACode := .reg [{ op := .mov (.t 3), dst := some 18 },
    { op := .mov (.t 18), dst := some 2 }]
def a30 : ACode := (.seq a30_r0 (.seq a30_r1 (.seq (.seq a30_r2 (.block 0 (.loop a30_l0))) (.seq a30_r7 .ret))))
def a30_res : List ARes := [.tmp 2]
theorem a30_ok : Coded Try.prog 30 19 a30 a30_res := ⟨Try.f30, _, by kernel_rfl, rfl, by kernel_rfl, rfl, by kernel_rfl, by kernel_rfl⟩
theorem a30_of {args : List AV} {Q : AV → Prop} (hl : args.length ≤ 19) (h : AW Try.prog 19 a30 (mkS (argT 0 args) [] 0) (retQ a30_res Q)) : ACall Try.prog 30 args Q := acall_coded a30_ok hl h

/- workflow/value.Copy -/
def a31_r0 : ACode := .reg [{ op := .box 5 true (.t 0), dst := some 1, k := 0 },
    { op := .alloc 5 true [.int .i64 0, .int .i64 0, .str [], .nils, .nils], dst := some 2, k := 1 }]
def a31_r1 : ACode := .draw [{ op := .fad 3 (.t 1), dst := some 3 },
    { op := .load 1 false (.t 3), dst := some 4 },
    { op := .call 37 [(.t 4)], dst := some 5 },
    { op := .fad 4 (.t 1), dst := some 6 },
    { op := .load 1 false (.t 6), dst := some 7 },
    { op := .call 38 [(.t 7)], dst := some 8 },
    { op := .fad 3 (.t 1), dst := some 9 },
    { op := .store 1 false (.t 9) (.t 5), dst := none },
    { op := .fad 4 (.t 1), dst := some 10 },
    { op := .store 1 false (.t 10) (.t 8), dst := none }]
    [(2, [4])]
    (.take 0 (.take 1 (.take 3 (.take 4 (.one 2 (.take 6 (.one 5 (.one 7 (.take 8 (.one 9 (.done)))))))))))
def a31_r2 : ACode := .reg [{ op := .load 5 true (.t 1), dst := some 11 },
    { op := .store 5 true (.t 2) (.t 11), dst := none }]
def a31 : ACode := (.seq a31_r0 (.seq a31_r1 (.seq a31_r2 .ret)))
def a31_res : List ARes := [.cell 2 5 true]
theorem a31_ok : Coded Try.prog 31 12 a31 a31_res := ⟨Try.f31, _, by kernel_rfl, rfl, by kernel_rfl, rfl, by kernel_rfl, by kernel_rfl⟩
theorem a31_of {args : List AV} {Q : AV → Prop} (hl : args.length ≤ 12) (h : AW Try.prog 12 a31 (mkS (argT 0 args) [] 0) (retQ a31_res Q)) : ACall Try.prog 31 args Q := acall_coded a31_ok hl h

/- slices.Equal[[]string,string] -/
def a32_r0 : ACode := .reg [{ op := .mov (.c (.bool false)), dst := some 4 }]
def a32_r1 : ACode := .reg [{ op := .mov (.t 0), dst := some 6 },
    { op := .len false (.t 6), dst := some 7 },
    { op := .mov (.t 1), dst := some 8 },
    { op := .len false (.t 8), dst := some 9 },
    { op := .bin .neq (.t 7) (.t 9), dst := some 10 }]
def a32_r2 : ACode := .reg [{ op := .mov (.c (.bool false)), dst := some 4 }]
def a32_r3 : ACode := .reg [{ op := .mov (.t 0), dst := some 11 },
    { op := .len false (.t 11), dst := some 12 },
    { op := .mov (.c (.int .i64 0)), dst := some 13 }]
def a32_r4 : ACode := .reg [{ op := .bin .lss (.t 13) (.t 12), dst := some 14 }]
def a32_r5 : ACode := .reg [{ op := .mov (.t 13), dst := some 15 },
    { op := .mov (.t 15), dst := some 5 }]
def a32_r6 : ACode := .draw [{ op := .mov (.t 0), dst := some 16 },
    { op := .mov (.t 5), dst := some 17 },
    { op := .iad 1 (.t 16) (.t 17), dst := some 18 },
    { op := .load 1 false (.t 18), dst := some 19 },
    { op := .mov (.t 1), dst := some 20 },
    { op := .mov (.t 5), dst := some 21 },
    { op := .iad 1 (.t 20) (.t 21), dst := some 22 },
    { op := .load 1 false (.t 22), dst := some 23 },
    { op := .bin .neq (.t 19) (.t 23), dst := some 24 }]
    []
    (.take 0 (.take 1 (.take 2 (.take 3 (.take 4 (.take 5 (.take 6 (.take 7 (.take 8 (.done))))))))))
def a32_r7 : ACode := .reg [{ op := .mov (.c (.bool false)), dst := some 4 }]
def a32_r8 : ACode := .reg [{ op := .bin .add (.t 13) (.c (.int .i64 1)), dst := some 25 },
    { op := .mov (.t 25), dst := some 13 }]
def a32_l0 : ACode := (.seq a32_r4 (.seq (.cond (.t 14) .skip (.exit 0)) (.seq (.block 1 (.seq a32_r5 (.seq a32_r6 (.cond (.t 24) (.seq a32_r7 .ret) .skip)))) a32_r8)))
def a32_r9 : ACode := .reg [{ op := .mov (.c (.bool true)), dst := some 4 }]
def a32 : ACode := (.seq a32_r0 (.seq (.seq a32_r1 (.cond (.t 10) (.seq a32_r2 .ret) .skip)) (.seq (.seq a32_r3 (.block 0 (.loop a32_l0))) (.seq a32_r9 .ret))))
def a32_res : List ARes := [.tmp 4]
theorem a32_ok : Coded Try.prog 32 26 a32 a32_res := ⟨Try.f32, _, by kernel_rfl, rfl, by kernel_rfl, rfl, by kernel_rfl, by kernel_rfl⟩
theorem a32_of {args : List AV} {Q : AV → Prop} (hl : args.length ≤ 26) (h : AW Try.prog 26 a32 (mkS (argT 0 args) [] 0) (retQ a32_res Q)) : ACall Try.prog 32 args Q := acall_coded a32_ok hl h

/- slices.EqualFunc[[]workflow/api.Value,[]workflow/api.Value,workflow/api.Value,workflow/api.Value] -/
def a33_r0 : ACode := .reg [{ op := .mov (.c (.bool false)), dst := some 6 }]
def a33_r1 : ACode := .reg [{ op := .mov (.t 0), dst := some 10 },
    { op := .len false (.t 10), dst := some 11 },
    { op := .mov (.t 1), dst := some 12 },
    { op := .len false (.t 12), dst := some 13 },
    { op := .bin .neq (.t 11) (.t 13), dst := some 14 }]
def a33_r2 : ACode := .reg [{ op := .mov (.c (.bool false)), dst := some 6 }]
def a33_r3 : ACode := .reg [{ op := .mov (.t 0), dst := some 15 },
    { op := .len false (.t 15), dst := some 16 },
    { op := .mov (.c (.int .i64 0)), dst := some 17 }]
def a33_r4 : ACode := .reg [{ op := .bin .lss (.t 17) (.t 16), dst := some 18 }]
def a33_r5 : ACode := .reg [{ op := .mov (.t 17), dst := some 19 },
    { op := .iad 5 (.t 15) (.t 17), dst := some 20 },
    { op := .load 5 true (.t 20), dst := some 21 },
    { op := .alloc 5 true [.int .i64 0, .int .i64 0, .str [], .nils, .nils], dst := some 8, k := 14 },
    { op := .mov (.t 19), dst := some 7 },
    { op := .store 5 true (.t 8) (.t 21), dst := none }]
def a33_r6 : ACode := .reg [{ op := .mov (.t 1), dst := some 22 },
    { op := .mov (.t 7), dst := some 23 },
    { op := .iad 5 (.t 22) (.t 23), dst := some 24 },
    { op := .load 5 true (.t 24), dst := some 25 },
    { op := .alloc 5 true [.int .i64 0, .int .i64 0, .str [], .nils, .nils], dst := some 9, k := 21 },
    { op := .store 5 true (.t 9) (.t 25), dst := none }]
def a33_r7 : ACode := .reg [{ op := .mov (.t 2), dst := some 26 },
    { op := .load 5 true (.t 8), dst := some 27 },
    { op := .load 5 true (.t 9), dst := some 28 },
    { op := .callv (.t 26) [(.t 27), (.t 28)], dst := some 29 },
    { op := .not (.t 29), dst := some 30 }]
def a33_r8 : ACode := .reg [{ op := .mov (.c (.bool false)), dst := some 6 }]
def a33_r9 : ACode := .reg [{ op := .bin .add (.t 17) (.c (.int .i64 1)), dst := some 31 },
    { op := .mov (.t 31), dst := some 17 }]
def a33_l0 : ACode := (.seq a33_r4 (.seq (.cond (.t 18) .skip (.exit 0)) (.seq (.block 1 (.seq a33_r5 (.seq a33_r6 (.seq a33_r7 (.cond (.t 30) (.seq a33_r8 .ret) .skip))))) a33_r9)))
def a33_r10 : ACode := .reg [{ op := .mov (.c (.bool true)), dst := some 6 }]
def a33 : ACode := (.seq a33_r0 (.seq (.seq a33_r1 (.cond (.t 14) (.seq a33_r2 .ret) .skip)) (.seq (.seq a33_r3 (.block 0 (.loop a33_l0))) (.seq a33_r10 .ret))))
def a33_res : List ARes := [.tmp 6]
theorem a33_ok : Coded Try.prog 33 32 a33 a33_res := ⟨Try.f33, _, by kernel_rfl, rfl, by kernel_rfl, rfl, by kernel_rfl, by kernel_rfl⟩
theorem a33_of {args : List AV} {Q : AV → Prop} (hl : args.length ≤ 32) (h : AW Try.prog 32 a33 (mkS (argT 0 args) [] 0) (retQ a33_res Q)) : ACall Try.prog 33 args Q := acall_coded a33_ok hl h

/- slices.Clone[[]workflow/api.Patch,workflow/api.Patch] -/
def a34_r0 : ACode := .reg [{ op := .mov (.c (.nils)), dst := some 2 }]
def a34_r1 : ACode := .reg [{ op := .mov (.t 0), dst := some 3 },
    { op := .eqz false (.t 3), dst := some 4 }]
def a34_r2 : ACode := .reg [{ op := .mov (.c (.nils)), dst := some 2 }]
def a34_r3 : ACode := .reg [{ op := .bsl 8 true 0 [.int .i64 0, .str [], .int .i64 0, .int .i64 0, .int .i64 0, .str [], .nils, .nils] [], dst := some 5 },
    { op := .mov (.t 0), dst := some 6 },
    { op := .app 8 112 (.t 5) (.t 6), dst := some 7, k := 6 },
    { op := .mov (.t 7), dst := some 2 }]
def a34 : ACode := (.seq a34_r0 (.seq (.seq a34_r1 (.cond (.t 4) (.seq a34_r2 .ret) .skip)) (.seq a34_r3 .ret)))
def a34_res : List ARes := [.tmp 2]
theorem a34_ok : Coded Try.prog 34 8 a34 a34_res := ⟨Try.f34, _, by kernel_rfl, rfl, by kernel_rfl, rfl, by kernel_rfl, by kernel_rfl⟩
theorem a34_of {args : List AV} {Q : AV → Prop} (hl : args.length ≤ 8) (h : AW Try.prog 8 a34 (mkS (argT 0 args) [] 0) (retQ a34_res Q)) : ACall Try.prog 34 args Q := acall_coded a34_ok hl h

/- slices.IndexFunc[[]workflow/api.Patch,workflow/api.Patch] -/
def a35_r0 : ACode := .reg [{ op := .mov (.c (.int .i64 0)), dst := some 4 }]
def a35_r1 : ACode := .reg [{ op := .mov (.t 0), dst := some 6 },
    { op := .len false (.t 6), dst := some 7 },
    { op := .mov (.c (.int .i64 0)), dst := some 8 }]
def a35_r2 : ACode := .reg [{ op := .bin .lss (.t 8) (.t 7), dst := some 9 }]
def a35_r3 : ACode := .reg [{ op := .mov (.t 8), dst := some 10 },
    { op := .mov (.t 10), dst := some 5 }]
def a35_r4 : ACode := .reg [{ op := .mov (.t 1), dst := some 11 },
    { op := .mov (.t 0), dst := some 12 },
    { op := .mov (.t 5), dst := some 13 },
    { op := .iad 8 (.t 12) (.t 13), dst := some 14 },
    { op := .load 8 true (.t 14), dst := some 15 },
    { op := .callv (.t 11) [(.t 15)], dst := some 16 }]
def a35_r5 : ACode := .reg [{ op := .mov (.t 5), dst := some 17 },
    { op := .mov (.t 17), dst := some 4 }]
def a35_r6 : ACode := .reg [{ op := .bin .add (.t 8) (.c (.int .i64 1)), dst := some 18 },
    { op := .mov (.t 18), dst := some 8 }]
def a35_l0 : ACode := (.seq a35_r2 (.seq (.cond (.t 9) .skip (.exit 0)) (.seq (.block 1 (.seq a35_r3 (.seq a35_r4 (.cond (.t 16) (.seq a35_r5 .ret) .skip)))) a35_r6)))
def a35_r7 : ACode := .reg [{ op := .mov (.c (.int .i64 (-1))), dst := some 4 }]
def a35 : ACode := (.seq a35_r0 (.seq (.seq a35_r1 (.block 0 (.loop a35_l0))) (.seq a35_r7 .ret)))
def a35_res : List ARes := [.tmp 4]
theorem a35_ok : Coded Try.prog 35 19 a35 a35_res := ⟨Try.f35, _, by kernel_rfl, rfl, by kernel_rfl, rfl, by kernel_rfl, by kernel_rfl⟩
theorem a35_of {args : List AV} {Q : AV → Prop} (hl : args.length ≤ 19) (h : AW Try.prog 19 a35 (mkS (argT 0 args) [] 0) (retQ a35_res Q)) : ACall Try.prog 35 args Q := acall_coded a35_ok hl h

/- workflow/patch.place$1 -/
def a36_r0 : ACode := .reg [{ op := .box 8 true (.t 0), dst := some 3, k := 0 },
    { op := .mov (.c (.bool false)), dst := some 4 }]
def a36_r1 : ACode := .reg [{ op := .fad 0 (.t 3), dst := some 5 },
    { op := .load 1 false (.t 5), dst := some 6 },
    { op := .load 1 false (.t 1), dst := some 7 },
    { op := .bin .eql (.t 6) (.t 7), dst := some 8 },
    { op := .mov (.t 8), dst := some 9 },
    { op := .fad 1 (.t 3), dst := some 10, g := some (9, true) },
    { op := .load 1 false (.t 10), dst := some 11, g := some (9, true) },
    { op := .load 1 false (.t 2), dst := some 12, g := some (9, true) },
    { op := .bin .eql (.t 11) (.t 12), dst := some 13, g := some (9, true) },
    { op := .pick (.t 9) (.t 13) (.c (.bool false)), dst := some 14 },
    { op := .mov (.t 14), dst := some 4 }]
def a36 : ACode := (.seq a36_r0 (.seq a36_r1 .ret))
def a36_res : List ARes := [.tmp 4]
theorem a36_ok : Coded Try.prog 36 15 a36 a36_res := ⟨Try.f36, _, by kernel_rfl, rfl, by kernel_rfl, rfl, by kernel_rfl, by kernel_rfl⟩
theorem a36_of {args : List AV} {Q : AV → Prop} (hl : args.length ≤ 15) (h : AW Try.prog 15 a36 (mkS (argT 0 args) [] 0) (retQ a36_res Q)) : ACall Try.prog 36 args Q := acall_coded a36_ok hl h

/- workflow/value.copies -/
def a37_r0 : ACode := .reg [{ op := .mov (.c (.nils)), dst := some 2 }]
def a37_r1 : ACode := .reg [{ op := .mov (.c (.nils)), dst := some 3 }]
def a37_r2 : ACode := .reg [{ op := .mov (.t 0), dst := some 6 },
    { op := .len false (.t 6), dst := some 7 },
    { op := .mov (.c (.int .i64 0)), dst := some 8 }]
def a37_r3 : ACode := .reg [{ op := .bin .lss (.t 8) (.t 7), dst := some 9 }]
def a37_r4 : ACode := .reg [{ op := .iad 5 (.t 6) (.t 8), dst := some 10 },
    { op := .load 5 true (.t 10), dst := some 11 },
    { op := .alloc 5 true [.int .i64 0, .int .i64 0, .str [], .nils, .nils], dst := some 5, k := 8 },
    { op := .store 5 true (.t 5) (.t 11), dst := none }]
def a37_r5 : ACode := .reg [{ op := .mov (.t 3), dst := some 12 },
    { op := .load 5 true (.t 5), dst := some 13 },
    { op := .call 31 [(.t 13)], dst := some 14 },
    { op := .bsl 5 true 1 [.int .i64 0, .int .i64 0, .str [], .nils, .nils] [(0, (.t 14))], dst := some 15 },
    { op := .app 5 80 (.t 12) (.t 15), dst := some 16, k := 14 },
    { op := .mov (.t 16), dst := some 3 }]
def a37_r6 : ACode := .reg [{ op := .bin .add (.t 8) (.c (.int .i64 1)), dst := some 17 },
    { op := .mov (.t 17), dst := some 8 }]
def a37_l0 : ACode := (.seq a37_r3 (.seq (.cond (.t 9) .skip (.exit 0)) (.seq (.block 1 (.seq a37_r4 a37_r5)) a37_r6)))
def a37_r7 : ACode := .reg [{ op := .mov (.t 3), dst := some 18 },
    { op := .mov (.t 18), dst := some 2 }]
def a37 : ACode := (.seq a37_r0 (.seq a37_r1 (.seq (.seq a37_r2 (.block 0 (.loop a37_l0))) (.seq a37_r7 .ret))))
def a37_res : List ARes := [.tmp 2]
theorem a37_ok : Coded Try.prog 37 19 a37 a37_res := ⟨Try.f37, _, by kernel_rfl, rfl, by kernel_rfl, rfl, by kernel_rfl, by kernel_rfl⟩
theorem a37_of {args : List AV} {Q : AV → Prop} (hl : args.length ≤ 19) (h : AW Try.prog 19 a37 (mkS (argT 0 args) [] 0) (retQ a37_res Q)) : ACall Try.prog 37 args Q := acall_coded a37_ok hl h

/- slices.Clone[[]string,string] -/
def a38_r0 : ACode := .reg [{ op := .mov (.c (.nils)), dst := some 2 }]
def a38_r1 : ACode := .reg [{ op := .mov (.t 0), dst := some 3 },
    { op := .eqz false (.t 3), dst := some 4 }]
def a38_r2 : ACode := .reg [{ op := .mov (.c (.nils)), dst := some 2 }]
def a38_r3 : ACode := .reg [{ op := .bsl 1 false 0 [.str []] [], dst := some 5 },
    { op := .mov (.t 0), dst := some 6 },
    { op := .app 1 16 (.t 5) (.t 6), dst := some 7, k := 6 },
    { op := .mov (.t 7), dst := some 2 }]
def a38 : ACode := (.seq a38_r0 (.seq (.seq a38_r1 (.cond (.t 4) (.seq a38_r2 .ret) .skip)) (.seq a38_r3 .ret)))
def a38_res : List ARes := [.tmp 2]
theorem a38_ok : Coded Try.prog 38 8 a38 a38_res := ⟨Try.f38, _, by kernel_rfl, rfl, by kernel_rfl, rfl, by kernel_rfl, by kernel_rfl⟩
theorem a38_of {args : List AV} {Q : AV → Prop} (hl : args.length ≤ 8) (h : AW Try.prog 8 a38 (mkS (argT 0 args) [] 0) (retQ a38_res Q)) : ACall Try.prog 38 args Q := acall_coded a38_ok hl h

/- workflow/workflowlaw19.PatchVersion -/
def a3_r0 : ACode := .reg [{ op := .mov (.c (.bool false)), dst := some 10 }]
def a3_r1 : ACode := .reg [{ op := .mov (.t 0), dst := some 23 },
    { op := .call 8 [(.t 23)], dst := some 24 },
    { op := .mov (.t 24), dst := some 25 },
    { op := .mov (.t 1), dst := some 26, g := some (25, false) },
    { op := .call 8 [(.t 26)], dst := some 27, g := some (25, false) },
    { op := .pick (.t 25) (.c (.bool true)) (.t 27), dst := some 28 }]
def a3_r2 : ACode := .reg [{ op := .call 9 [], dst := some 29 },
    { op := .mov (.t 29), dst := some 10 }]
def a3_r3 : ACode := .reg [{ op := .mov (.t 0), dst := some 31 },
    { op := .mov (.t 1), dst := some 32 },
    { op := .mov (.t 2), dst := some 33 },
    { op := .mov (.t 3), dst := some 34 },
    { op := .mov (.t 4), dst := some 35 },
    { op := .call 10 [(.t 31), (.t 32), (.t 33), (.t 34), (.t 35)], dst := some 36 },
    { op := .mov (.t 36), dst := some 30 },
    { op := .ext (.t 30) 0, dst := some 37 },
    { op := .ext (.t 30) 1, dst := some 38 },
    { op := .ext (.t 30) 2, dst := some 39 },
    { op := .ext (.t 30) 3, dst := some 40 },
    { op := .mov (.t 37), dst := some 11 },
    { op := .mov (.t 38), dst := some 12 },
    { op := .mov (.t 39), dst := some 13 },
    { op := .mov (.t 40), dst := some 14 }]
def a3_r4 : ACode := .reg [{ op := .mov (.t 0), dst := some 42 },
    { op := .mov (.t 1), dst := some 43 },
    { op := .mov (.t 2), dst := some 44 },
    { op := .mov (.t 3), dst := some 45 },
    { op := .mov (.t 4), dst := some 46 },
    { op := .call 11 [(.t 42), (.t 43), (.t 44), (.t 45), (.t 46)], dst := some 47 },
    { op := .mov (.t 47), dst := some 41 },
    { op := .ext (.t 41) 0, dst := some 48 },
    { op := .ext (.t 41) 1, dst := some 49 },
    { op := .ext (.t 41) 2, dst := some 50 },
    { op := .ext (.t 41) 3, dst := some 51 },
    { op := .mov (.t 48), dst := some 15 },
    { op := .mov (.t 49), dst := some 16 },
    { op := .mov (.t 50), dst := some 17 },
    { op := .mov (.t 51), dst := some 18 }]
def a3_r5 : ACode := .reg [{ op := .mov (.t 0), dst := some 53 },
    { op := .mov (.t 2), dst := some 54 },
    { op := .call 12 [(.t 53), (.t 54)], dst := some 55 },
    { op := .mov (.t 55), dst := some 52 },
    { op := .ext (.t 52) 0, dst := some 56 },
    { op := .ext (.t 52) 1, dst := some 57 },
    { op := .mov (.t 56), dst := some 19 },
    { op := .mov (.t 57), dst := some 20 }]
def a3_r6 : ACode := .reg [{ op := .mov (.t 0), dst := some 59 },
    { op := .mov (.t 2), dst := some 60 },
    { op := .call 13 [(.t 59), (.t 60)], dst := some 61 },
    { op := .mov (.t 61), dst := some 58 },
    { op := .ext (.t 58) 0, dst := some 62 },
    { op := .ext (.t 58) 1, dst := some 63 },
    { op := .mov (.t 62), dst := some 21 },
    { op := .mov (.t 63), dst := some 22 }]
def a3_r7 : ACode := .reg [{ op := .mov (.t 11), dst := some 64 },
    { op := .mov (.t 15), dst := some 65 },
    { op := .bin .eql (.t 64) (.t 65), dst := some 66 },
    { op := .mov (.t 66), dst := some 67 },
    { op := .mov (.t 14), dst := some 68, g := some (67, true) },
    { op := .mov (.t 18), dst := some 69, g := some (67, true) },
    { op := .eqb false (.t 68) (.t 69), dst := some 70, g := some (67, true) },
    { op := .pick (.t 67) (.t 70) (.c (.bool false)), dst := some 71 },
    { op := .mov (.t 71), dst := some 72 },
    { op := .mov (.t 12), dst := some 73, g := some (72, true) },
    { op := .mov (.t 16), dst := some 74, g := some (72, true) },
    { op := .call 14 [(.t 73), (.t 74)], dst := some 75, g := some (72, true) },
    { op := .pick (.t 72) (.t 75) (.c (.bool false)), dst := some 76 },
    { op := .mov (.t 76), dst := some 77 },
    { op := .mov (.t 13), dst := some 78, g := some (77, true) },
    { op := .mov (.t 17), dst := some 79, g := some (77, true) },
    { op := .call 14 [(.t 78), (.t 79)], dst := some 80, g := some (77, true) },
    { op := .pick (.t 77) (.t 80) (.c (.bool false)), dst := some 81 },
    { op := .mov (.t 81), dst := some 82 },
    { op := .mov (.t 19), dst := some 83, g := some (82, true) },
    { op := .mov (.t 21), dst := some 84, g := some (82, true) },
    { op := .bin .eql (.t 83) (.t 84), dst := some 85, g := some (82, true) },
    { op := .pick (.t 82) (.t 85) (.c (.bool false)), dst := some 86 },
    { op := .mov (.t 86), dst := some 87 },
    { op := .mov (.t 20), dst := some 88, g := some (87, true) },
    { op := .mov (.t 22), dst := some 89, g := some (87, true) },
    { op := .eqb false (.t 88) (.t 89), dst := some 90, g := some (87, true) },
    { op := .pick (.t 87) (.t 90) (.c (.bool false)), dst := some 91 },
    { op := .mov (.t 91), dst := some 92 },
    { op := .call 9 [], dst := some 93, g := some (92, true) },
    { op := .pick (.t 92) (.t 93) (.c (.bool false)), dst := some 94 },
    { op := .mov (.t 94), dst := some 10 }]
def a3 : ACode := (.seq a3_r0 (.seq (.seq a3_r1 (.cond (.t 28) (.seq a3_r2 .ret) .skip)) (.seq a3_r3 (.seq a3_r4 (.seq a3_r5 (.seq a3_r6 (.seq a3_r7 .ret)))))))
def a3_res : List ARes := [.tmp 10]
theorem a3_ok : Coded Try.prog 3 95 a3 a3_res := ⟨Try.f3, _, by kernel_rfl, rfl, by kernel_rfl, rfl, by kernel_rfl, by kernel_rfl⟩
theorem a3_of {args : List AV} {Q : AV → Prop} (hl : args.length ≤ 95) (h : AW Try.prog 95 a3 (mkS (argT 0 args) [] 0) (retQ a3_res Q)) : ACall Try.prog 3 args Q := acall_coded a3_ok hl h

/- workflow/workflowlaw19.PatchRecord -/
def a4_r0 : ACode := .reg [{ op := .mov (.c (.bool false)), dst := some 8 }]
def a4_r1 : ACode := .reg [{ op := .mov (.t 0), dst := some 17 },
    { op := .call 8 [(.t 17)], dst := some 18 },
    { op := .mov (.t 18), dst := some 19 },
    { op := .mov (.t 1), dst := some 20, g := some (19, false) },
    { op := .len false (.t 20), dst := some 21, g := some (19, false) },
    { op := .bin .gtr (.t 21) (.c (.int .i64 40)), dst := some 22, g := some (19, false) },
    { op := .pick (.t 19) (.c (.bool true)) (.t 22), dst := some 23 },
    { op := .mov (.t 23), dst := some 24 },
    { op := .mov (.t 1), dst := some 25, g := some (24, false) },
    { op := .build [.int .i64 0, .int .i64 0, .str [], .nils, .nils] [(3, 1, (.t 25))], dst := some 26, g := some (24, false) },
    { op := .call 15 [(.t 26)], dst := some 27, g := some (24, false) },
    { op := .bin .gtr (.t 27) (.c (.int .i64 300)), dst := some 28, g := some (24, false) },
    { op := .pick (.t 24) (.c (.bool true)) (.t 28), dst := some 29 }]
def a4_r2 : ACode := .reg [{ op := .call 9 [], dst := some 30 },
    { op := .mov (.t 30), dst := some 8 }]
def a4_r3 : ACode := .reg [{ op := .mov (.t 0), dst := some 32 },
    { op := .mov (.t 1), dst := some 33 },
    { op := .mov (.t 2), dst := some 34 },
    { op := .mov (.t 3), dst := some 35 },
    { op := .call 16 [(.t 32), (.t 33), (.t 34), (.t 35)], dst := some 36 },
    { op := .mov (.t 36), dst := some 31 },
    { op := .ext (.t 31) 0, dst := some 37 },
    { op := .ext (.t 31) 1, dst := some 38 },
    { op := .ext (.t 31) 2, dst := some 39 },
    { op := .ext (.t 31) 3, dst := some 40 },
    { op := .alloc 5 true [.int .i64 0, .int .i64 0, .str [], .nils, .nils], dst := some 9, k := 26 },
    { op := .store 5 true (.t 9) (.t 37), dst := none },
    { op := .mov (.t 38), dst := some 10 },
    { op := .mov (.t 39), dst := some 11 },
    { op := .mov (.t 40), dst := some 12 }]
def a4_r4 : ACode := .reg [{ op := .mov (.t 0), dst := some 42 },
    { op := .mov (.t 1), dst := some 43 },
    { op := .mov (.t 2), dst := some 44 },
    { op := .mov (.t 3), dst := some 45 },
    { op := .call 17 [(.t 42), (.t 43), (.t 44), (.t 45)], dst := some 46 },
    { op := .mov (.t 46), dst := some 41 },
    { op := .ext (.t 41) 0, dst := some 47 },
    { op := .ext (.t 41) 1, dst := some 48 },
    { op := .ext (.t 41) 2, dst := some 49 },
    { op := .ext (.t 41) 3, dst := some 50 },
    { op := .alloc 5 true [.int .i64 0, .int .i64 0, .str [], .nils, .nils], dst := some 13, k := 41 },
    { op := .store 5 true (.t 13) (.t 47), dst := none },
    { op := .mov (.t 48), dst := some 14 },
    { op := .mov (.t 49), dst := some 15 },
    { op := .mov (.t 50), dst := some 16 }]
def a4_r5 : ACode := .reg [{ op := .mov (.t 12), dst := some 51 },
    { op := .mov (.t 16), dst := some 52 },
    { op := .bin .eql (.t 51) (.t 52), dst := some 53 },
    { op := .mov (.t 53), dst := some 54 },
    { op := .load 5 true (.t 9), dst := some 55, g := some (54, true) },
    { op := .load 5 true (.t 13), dst := some 56, g := some (54, true) },
    { op := .call 18 [(.t 55), (.t 56)], dst := some 57, g := some (54, true) },
    { op := .pick (.t 54) (.t 57) (.c (.bool false)), dst := some 58 },
    { op := .mov (.t 58), dst := some 59 },
    { op := .mov (.t 10), dst := some 60, g := some (59, true) },
    { op := .mov (.t 14), dst := some 61, g := some (59, true) },
    { op := .call 14 [(.t 60), (.t 61)], dst := some 62, g := some (59, true) },
    { op := .pick (.t 59) (.t 62) (.c (.bool false)), dst := some 63 },
    { op := .mov (.t 63), dst := some 64 },
    { op := .mov (.t 11), dst := some 65, g := some (64, true) },
    { op := .build [.int .i64 0, .int .i64 0, .str [], .nils, .nils] [(3, 1, (.t 65))], dst := some 66, g := some (64, true) },
    { op := .mov (.t 15), dst := some 67, g := some (64, true) },
    { op := .build [.int .i64 0, .int .i64 0, .str [], .nils, .nils] [(3, 1, (.t 67))], dst := some 68, g := some (64, true) },
    { op := .call 18 [(.t 66), (.t 68)], dst := some 69, g := some (64, true) },
    { op := .pick (.t 64) (.t 69) (.c (.bool false)), dst := some 70 },
    { op := .mov (.t 70), dst := some 71 },
    { op := .call 9 [], dst := some 72, g := some (71, true) },
    { op := .pick (.t 71) (.t 72) (.c (.bool false)), dst := some 73 },
    { op := .mov (.t 73), dst := some 8 }]
def a4 : ACode := (.seq a4_r0 (.seq (.seq a4_r1 (.cond (.t 29) (.seq a4_r2 .ret) .skip)) (.seq a4_r3 (.seq a4_r4 (.seq a4_r5 .ret)))))
def a4_res : List ARes := [.tmp 8]
theorem a4_ok : Coded Try.prog 4 74 a4 a4_res := ⟨Try.f4, _, by kernel_rfl, rfl, by kernel_rfl, rfl, by kernel_rfl, by kernel_rfl⟩
theorem a4_of {args : List AV} {Q : AV → Prop} (hl : args.length ≤ 74) (h : AW Try.prog 74 a4 (mkS (argT 0 args) [] 0) (retQ a4_res Q)) : ACall Try.prog 4 args Q := acall_coded a4_ok hl h

/- workflow/workflowlaw19.PatchStays -/
def a5_r0 : ACode := .reg [{ op := .mov (.c (.bool false)), dst := some 10 }]
def a5_r1 : ACode := .reg [{ op := .mov (.t 0), dst := some 21 },
    { op := .call 8 [(.t 21)], dst := some 22 },
    { op := .mov (.t 22), dst := some 23 },
    { op := .mov (.t 1), dst := some 24, g := some (23, false) },
    { op := .call 8 [(.t 24)], dst := some 25, g := some (23, false) },
    { op := .pick (.t 23) (.c (.bool true)) (.t 25), dst := some 26 },
    { op := .mov (.t 26), dst := some 27 },
    { op := .mov (.t 2), dst := some 28, g := some (27, false) },
    { op := .call 8 [(.t 28)], dst := some 29, g := some (27, false) },
    { op := .pick (.t 27) (.c (.bool true)) (.t 29), dst := some 30 }]
def a5_r2 : ACode := .reg [{ op := .call 9 [], dst := some 31 },
    { op := .mov (.t 31), dst := some 10 }]
def a5_r3 : ACode := .reg [{ op := .mov (.t 0), dst := some 33 },
    { op := .mov (.t 1), dst := some 34 },
    { op := .mov (.t 3), dst := some 35 },
    { op := .mov (.t 4), dst := some 36 },
    { op := .mov (.t 1), dst := some 37 },
    { op := .len false (.t 37), dst := some 38 },
    { op := .bin .gtr (.t 38) (.c (.int .i64 2)), dst := some 39 },
    { op := .call 10 [(.t 33), (.t 34), (.t 35), (.t 36), (.t 39)], dst := some 40 },
    { op := .mov (.t 40), dst := some 32 },
    { op := .ext (.t 32) 0, dst := some 41 },
    { op := .ext (.t 32) 1, dst := some 42 },
    { op := .ext (.t 32) 2, dst := some 43 },
    { op := .ext (.t 32) 3, dst := some 44 },
    { op := .mov (.t 41), dst := some 11 },
    { op := .mov (.t 42), dst := some 12 },
    { op := .mov (.t 43), dst := some 13 },
    { op := .mov (.t 44), dst := some 14 }]
def a5_r4 : ACode := .reg [{ op := .mov (.t 12), dst := some 46 },
    { op := .mov (.t 2), dst := some 47 },
    { op := .mov (.t 3), dst := some 48 },
    { op := .mov (.t 4), dst := some 49 },
    { op := .bin .quo (.t 49) (.c (.int .i64 2)), dst := some 50 },
    { op := .mov (.t 1), dst := some 51 },
    { op := .len false (.t 51), dst := some 52 },
    { op := .bin .leq (.t 52) (.c (.int .i64 2)), dst := some 53 },
    { op := .call 10 [(.t 46), (.t 47), (.t 48), (.t 50), (.t 53)], dst := some 54 },
    { op := .mov (.t 54), dst := some 45 },
    { op := .ext (.t 45) 0, dst := some 55 },
    { op := .ext (.t 45) 1, dst := some 56 },
    { op := .ext (.t 45) 2, dst := some 57 },
    { op := .ext (.t 45) 3, dst := some 58 },
    { op := .mov (.t 55), dst := some 15 },
    { op := .mov (.t 56), dst := some 16 },
    { op := .mov (.t 57), dst := some 17 },
    { op := .mov (.t 58), dst := some 18 }]
def a5_r5 : ACode := .reg [{ op := .mov (.t 12), dst := some 60 },
    { op := .mov (.t 3), dst := some 61 },
    { op := .call 12 [(.t 60), (.t 61)], dst := some 62 },
    { op := .mov (.t 62), dst := some 59 },
    { op := .ext (.t 59) 0, dst := some 63 },
    { op := .ext (.t 59) 1, dst := some 64 },
    { op := .mov (.t 63), dst := some 19 },
    { op := .mov (.t 64), dst := some 20 }]
def a5_r6 : ACode := .reg [{ op := .mov (.t 15), dst := some 65 },
    { op := .mov (.t 11), dst := some 66 },
    { op := .bin .eql (.t 65) (.t 66), dst := some 67 },
    { op := .mov (.t 67), dst := some 68 },
    { op := .mov (.t 18), dst := some 69, g := some (68, true) },
    { op := .not (.t 69), dst := some 70, g := some (68, true) },
    { op := .pick (.t 68) (.t 70) (.c (.bool false)), dst := some 71 },
    { op := .mov (.t 71), dst := some 72 },
    { op := .mov (.t 12), dst := some 73, g := some (72, true) },
    { op := .mov (.t 16), dst := some 74, g := some (72, true) },
    { op := .call 14 [(.t 73), (.t 74)], dst := some 75, g := some (72, true) },
    { op := .pick (.t 72) (.t 75) (.c (.bool false)), dst := some 76 },
    { op := .mov (.t 76), dst := some 77 },
    { op := .mov (.t 17), dst := some 78, g := some (77, true) },
    { op := .mov (.t 2), dst := some 79, g := some (77, true) },
    { op := .call 14 [(.t 78), (.t 79)], dst := some 80, g := some (77, true) },
    { op := .pick (.t 77) (.t 80) (.c (.bool false)), dst := some 81 },
    { op := .mov (.t 81), dst := some 82 },
    { op := .mov (.t 20), dst := some 83, g := some (82, true) },
    { op := .pick (.t 82) (.t 83) (.c (.bool false)), dst := some 84 },
    { op := .mov (.t 84), dst := some 85 },
    { op := .mov (.t 19), dst := some 86, g := some (85, true) },
    { op := .mov (.t 11), dst := some 87, g := some (85, true) },
    { op := .bin .eql (.t 86) (.t 87), dst := some 88, g := some (85, true) },
    { op := .pick (.t 85) (.t 88) (.c (.bool false)), dst := some 89 },
    { op := .mov (.t 89), dst := some 90 },
    { op := .call 9 [], dst := some 91, g := some (90, true) },
    { op := .pick (.t 90) (.t 91) (.c (.bool false)), dst := some 92 },
    { op := .mov (.t 92), dst := some 10 }]
def a5 : ACode := (.seq a5_r0 (.seq (.seq a5_r1 (.cond (.t 30) (.seq a5_r2 .ret) .skip)) (.seq a5_r3 (.seq a5_r4 (.seq a5_r5 (.seq a5_r6 .ret))))))
def a5_res : List ARes := [.tmp 10]
theorem a5_ok : Coded Try.prog 5 93 a5 a5_res := ⟨Try.f5, _, by kernel_rfl, rfl, by kernel_rfl, rfl, by kernel_rfl, by kernel_rfl⟩
theorem a5_of {args : List AV} {Q : AV → Prop} (hl : args.length ≤ 93) (h : AW Try.prog 93 a5 (mkS (argT 0 args) [] 0) (retQ a5_res Q)) : ACall Try.prog 5 args Q := acall_coded a5_ok hl h

/- workflow/workflowlaw19.PatchOf -/
def a6_r0 : ACode := .reg [{ op := .mov (.c (.bool false)), dst := some 2 }]
def a6_r1 : ACode := .reg [{ op := .mov (.t 0), dst := some 5 },
    { op := .len false (.t 5), dst := some 6 },
    { op := .bin .gtr (.t 6) (.c (.int .i64 60)), dst := some 7 }]
def a6_r2 : ACode := .reg [{ op := .call 9 [], dst := some 8 },
    { op := .mov (.t 8), dst := some 2 }]
def a6_r3 : ACode := .reg [{ op := .mov (.t 0), dst := some 9 },
    { op := .len false (.t 9), dst := some 10 },
    { op := .mov (.c (.int .i64 0)), dst := some 11 }]
def a6_r4 : ACode := .reg [{ op := .bin .lss (.t 11) (.t 10), dst := some 12 }]
def a6_r5 : ACode := .reg [{ op := .iad 24 (.t 9) (.t 11), dst := some 13 },
    { op := .load 24 true (.t 13), dst := some 14 },
    { op := .alloc 24 true [.int .i64 0, .int .i64 0, .int .i64 0, .int .i64 0, .int .i64 0, .int .i64 0, .int .i64 0, .str [], .str [], .int .i64 0, .int .i64 0, .str [], .nils, .nils, .str [], .int .i64 0, .int .i64 0, .int .i64 0, .int .i64 0, .int .i64 0, .int .i64 0, .int .i64 0, .int .i64 0, .nils], dst := some 4, k := 12 },
    { op := .store 24 true (.t 4) (.t 14), dst := none }]
def a6_r6 : ACode := .reg [{ op := .fad 9 (.t 4), dst := some 15 },
    { op := .load 5 true (.t 15), dst := some 16 },
    { op := .call 15 [(.t 16)], dst := some 17 },
    { op := .bin .gtr (.t 17) (.c (.int .i64 100)), dst := some 18 }]
def a6_r7 : ACode := .reg [{ op := .call 9 [], dst := some 19 },
    { op := .mov (.t 19), dst := some 2 }]
def a6_r8 : ACode := .reg [{ op := .bin .add (.t 11) (.c (.int .i64 1)), dst := some 20 },
    { op := .mov (.t 20), dst := some 11 }]
def a6_l0 : ACode := (.seq a6_r4 (.seq (.cond (.t 12) .skip (.exit 0)) (.seq (.block 1 (.seq a6_r5 (.seq a6_r6 (.cond (.t 18) (.seq a6_r7 .ret) .skip)))) a6_r8)))
def a6_r9 : ACode := .reg [{ op := .mov (.t 0), dst := some 21 },
    { op := .call 19 [(.t 21)], dst := some 22 },
    { op := .mov (.t 0), dst := some 23 },
    { op := .call 20 [(.t 23)], dst := some 24 },
    { op := .call 14 [(.t 22), (.t 24)], dst := some 25 },
    { op := .mov (.t 25), dst := some 26 },
    { op := .call 9 [], dst := some 27, g := some (26, true) },
    { op := .pick (.t 26) (.t 27) (.c (.bool false)), dst := some 28 },
    { op := .mov (.t 28), dst := some 2 }]
def a6 : ACode := (.seq a6_r0 (.seq (.seq a6_r1 (.cond (.t 7) (.seq a6_r2 .ret) .skip)) (.seq (.seq a6_r3 (.block 0 (.loop a6_l0))) (.seq a6_r9 .ret))))
def a6_res : List ARes := [.tmp 2]
theorem a6_ok : Coded Try.prog 6 29 a6 a6_res := ⟨Try.f6, _, by kernel_rfl, rfl, by kernel_rfl, rfl, by kernel_rfl, by kernel_rfl⟩
theorem a6_of {args : List AV} {Q : AV → Prop} (hl : args.length ≤ 29) (h : AW Try.prog 29 a6 (mkS (argT 0 args) [] 0) (retQ a6_res Q)) : ACall Try.prog 6 args Q := acall_coded a6_ok hl h

/- workflow/workflowlaw19.PatchReplays -/
def a7_r0 : ACode := .reg [{ op := .mov (.c (.bool false)), dst := some 6 }]
def a7_r1 : ACode := .reg [{ op := .mov (.t 0), dst := some 37 },
    { op := .len false (.t 37), dst := some 38 },
    { op := .bin .eql (.t 38) (.c (.int .i64 0)), dst := some 39 },
    { op := .mov (.t 39), dst := some 40 },
    { op := .mov (.t 1), dst := some 41, g := some (40, false) },
    { op := .len false (.t 41), dst := some 42, g := some (40, false) },
    { op := .bin .gtr (.t 42) (.c (.int .i64 30)), dst := some 43, g := some (40, false) },
    { op := .pick (.t 40) (.c (.bool true)) (.t 43), dst := some 44 },
    { op := .mov (.t 44), dst := some 45 },
    { op := .mov (.t 2), dst := some 46, g := some (45, false) },
    { op := .len false (.t 46), dst := some 47, g := some (45, false) },
    { op := .bin .gtr (.t 47) (.c (.int .i64 30)), dst := some 48, g := some (45, false) },
    { op := .pick (.t 45) (.c (.bool true)) (.t 48), dst := some 49 },
    { op := .mov (.t 49), dst := some 50 },
    { op := .mov (.t 2), dst := some 51, g := some (50, false) },
    { op := .build [.int .i64 0, .int .i64 0, .str [], .nils, .nils] [(3, 1, (.t 51))], dst := some 52, g := some (50, false) },
    { op := .call 15 [(.t 52)], dst := some 53, g := some (50, false) },
    { op := .bin .gtr (.t 53) (.c (.int .i64 300)), dst := some 54, g := some (50, false) },
    { op := .pick (.t 50) (.c (.bool true)) (.t 54), dst := some 55 }]
def a7_r2 : ACode := .reg [{ op := .call 9 [], dst := some 56 },
    { op := .mov (.t 56), dst := some 6 }]
def a7_r3 : ACode := .reg [{ op := .mov (.c (.nils)), dst := some 7 }]
def a7_r4 : ACode := .reg [{ op := .mov (.c (.nils)), dst := some 8 },
    { op := .mov (.c (.nils)), dst := some 9 },
    { op := .mov (.c (.nils)), dst := some 10 }]
def a7_r5 : ACode := .reg [{ op := .mov (.c (.nils)), dst := some 11 },
    { op := .mov (.c (.nils)), dst := some 12 }]
def a7_r6 : ACode := .reg [{ op := .mov (.c (.nils)), dst := some 13 }]
def a7_r7 : ACode := .reg [{ op := .mov (.t 1), dst := some 57 },
    { op := .len false (.t 57), dst := some 58 },
    { op := .mov (.c (.int .i64 0)), dst := some 59 }]
def a7_r8 : ACode := .reg [{ op := .bin .lss (.t 59) (.t 58), dst := some 60 }]
def a7_r9 : ACode := .reg [{ op := .mov (.t 59), dst := some 61 },
    { op := .iad 1 (.t 57) (.t 59), dst := some 62 },
    { op := .load 1 false (.t 62), dst := some 63 },
    { op := .mov (.t 61), dst := some 14 },
    { op := .mov (.t 63), dst := some 15 }]
def a7_r10 : ACode := .reg [{ op := .mov (.t 0), dst := some 64 },
    { op := .mov (.t 14), dst := some 65 },
    { op := .mov (.t 0), dst := some 66 },
    { op := .len false (.t 66), dst := some 67 },
    { op := .bin .rem (.t 65) (.t 67), dst := some 68 },
    { op := .iad 1 (.t 64) (.t 68), dst := some 69 },
    { op := .load 1 false (.t 69), dst := some 70 },
    { op := .mov (.t 70), dst := some 16 }]
def a7_r11 : ACode := .reg [{ op := .mov (.t 15), dst := some 71 },
    { op := .bin .eql (.t 71) (.c (.int .i64 (-1))), dst := some 72 }]
def a7_r12 : ACode := .reg [{ op := .mov (.t 2), dst := some 74 },
    { op := .mov (.t 16), dst := some 75 },
    { op := .call 16 [(.c (.nils)), (.t 74), (.t 75), (.c (.bool false))], dst := some 76 },
    { op := .mov (.t 76), dst := some 73 },
    { op := .ext (.t 73) 0, dst := some 77 },
    { op := .ext (.t 73) 1, dst := some 78 },
    { op := .ext (.t 73) 2, dst := some 79 },
    { op := .ext (.t 73) 3, dst := some 80 },
    { op := .alloc 5 true [.int .i64 0, .int .i64 0, .str [], .nils, .nils], dst := some 17, k := 56 },
    { op := .store 5 true (.t 17) (.t 77), dst := none },
    { op := .mov (.t 78), dst := some 18 },
    { op := .mov (.t 79), dst := some 19 },
    { op := .mov (.t 80), dst := some 20 }]
def a7_r13 : ACode := .reg [{ op := .mov (.t 20), dst := some 81 },
    { op := .bin .neq (.t 81) (.c (.int .i64 0)), dst := some 82 }]
def a7_r14 : ACode := .reg [{ op := .mov (.c (.bool false)), dst := some 6 }]
def a7_r15 : ACode := .reg [{ op := .mov (.t 19), dst := some 83 },
    { op := .mov (.t 83), dst := some 2 }]
def a7_r16 : ACode := .reg [{ op := .mov (.t 11), dst := some 84 },
    { op := .load 5 true (.t 17), dst := some 85 },
    { op := .bsl 5 true 1 [.int .i64 0, .int .i64 0, .str [], .nils, .nils] [(0, (.t 85))], dst := some 86 },
    { op := .app 5 80 (.t 84) (.t 86), dst := some 87, k := 69 },
    { op := .mov (.t 87), dst := some 11 }]
def a7_r17 : ACode := .reg [{ op := .mov (.t 7), dst := some 88 },
    { op := .mov (.t 16), dst := some 89 },
    { op := .load 5 true (.t 17), dst := some 90 },
    { op := .build [.int .i64 0, .int .i64 0, .int .i64 0, .int .i64 0, .int .i64 0, .int .i64 0, .int .i64 0, .str [], .str [], .int .i64 0, .int .i64 0, .str [], .nils, .nils, .str [], .int .i64 0, .int .i64 0, .int .i64 0, .int .i64 0, .int .i64 0, .int .i64 0, .int .i64 0, .int .i64 0, .nils] [(1, 1, (.c (.int .i64 18))), (7, 1, (.t 89)), (5, 1, (.c (.int .i64 (-1)))), (9, 5, (.t 90))], dst := some 91 },
    { op := .bsl 24 true 1 [.int .i64 0, .int .i64 0, .int .i64 0, .int .i64 0, .int .i64 0, .int .i64 0, .int .i64 0, .str [], .str [], .int .i64 0, .int .i64 0, .str [], .nils, .nils, .str [], .int .i64 0, .int .i64 0, .int .i64 0, .int .i64 0, .int .i64 0, .int .i64 0, .int .i64 0, .int .i64 0, .nils] [(0, (.t 91))], dst := some 92 },
    { op := .app 24 272 (.t 88) (.t 92), dst := some 93, k := 76 },
    { op := .mov (.t 93), dst := some 7 }]
def a7_r18 : ACode := .reg [{ op := .mov (.t 8), dst := some 95 },
    { op := .mov (.t 16), dst := some 96 },
    { op := .mov (.t 15), dst := some 97 },
    { op := .bin .and (.t 97) (.c (.int .i64 3)), dst := some 98 },
    { op := .call 10 [(.t 95), (.c (.nils)), (.t 96), (.t 98), (.c (.bool false))], dst := some 99 },
    { op := .mov (.t 99), dst := some 94 },
    { op := .ext (.t 94) 0, dst := some 100 },
    { op := .ext (.t 94) 1, dst := some 101 },
    { op := .ext (.t 94) 2, dst := some 102 },
    { op := .ext (.t 94) 3, dst := some 103 },
    { op := .mov (.t 100), dst := some 21 },
    { op := .mov (.t 101), dst := some 22 },
    { op := .mov (.t 102), dst := some 23 },
    { op := .mov (.t 103), dst := some 24 }]
def a7_r19 : ACode := .reg [{ op := .mov (.t 22), dst := some 104 },
    { op := .mov (.t 104), dst := some 8 }]
def a7_r20 : ACode := .reg [{ op := .mov (.t 13), dst := some 105 },
    { op := .mov (.t 21), dst := some 106 },
    { op := .bsl 1 false 1 [.int .i64 0] [(0, (.t 106))], dst := some 107 },
    { op := .app 1 8 (.t 105) (.t 107), dst := some 108, k := 97 },
    { op := .mov (.t 108), dst := some 13 }]
def a7_r21 : ACode := .reg [{ op := .mov (.t 24), dst := some 109 }]
def a7_r22 : ACode := .reg [{ op := .mov (.t 7), dst := some 110 },
    { op := .mov (.t 16), dst := some 111 },
    { op := .mov (.t 21), dst := some 112 },
    { op := .build [.int .i64 0, .int .i64 0, .int .i64 0, .int .i64 0, .int .i64 0, .int .i64 0, .int .i64 0, .str [], .str [], .int .i64 0, .int .i64 0, .str [], .nils, .nils, .str [], .int .i64 0, .int .i64 0, .int .i64 0, .int .i64 0, .int .i64 0, .int .i64 0, .int .i64 0, .int .i64 0, .nils] [(1, 1, (.c (.int .i64 18))), (7, 1, (.t 111)), (5, 1, (.t 112))], dst := some 113 },
    { op := .bsl 24 true 1 [.int .i64 0, .int .i64 0, .int .i64 0, .int .i64 0, .int .i64 0, .int .i64 0, .int .i64 0, .str [], .str [], .int .i64 0, .int .i64 0, .str [], .nils, .nils, .str [], .int .i64 0, .int .i64 0, .int .i64 0, .int .i64 0, .int .i64 0, .int .i64 0, .int .i64 0, .int .i64 0, .nils] [(0, (.t 113))], dst := some 114 },
    { op := .app 24 272 (.t 110) (.t 114), dst := some 115, k := 105 },
    { op := .mov (.t 115), dst := some 7 }]
def a7_r23 : ACode := .reg [{ op := .bin .add (.t 59) (.c (.int .i64 1)), dst := some 116 },
    { op := .mov (.t 116), dst := some 59 }]
def a7_l0 : ACode := (.seq a7_r8 (.seq (.cond (.t 60) .skip (.exit 0)) (.seq (.block 1 (.seq a7_r9 (.seq a7_r10 (.seq (.seq a7_r11 (.cond (.t 72) (.seq a7_r12 (.seq (.seq a7_r13 (.cond (.t 82) (.seq a7_r14 .ret) .skip)) (.seq a7_r15 (.seq a7_r16 (.seq a7_r17 (.exit 1)))))) .skip)) (.seq a7_r18 (.seq a7_r19 (.seq a7_r20 (.seq a7_r21 (.cond (.t 109) a7_r22 .skip))))))))) a7_r23)))
def a7_r24 : ACode := .reg [{ op := .mov (.t 7), dst := some 117 },
    { op := .call 19 [(.t 117)], dst := some 118 },
    { op := .mov (.t 118), dst := some 10 }]
def a7_r25 : ACode := .reg [{ op := .mov (.c (.int .i64 0)), dst := some 25 }]
def a7_r26 : ACode := .reg [{ op := .mov (.t 1), dst := some 119 },
    { op := .len false (.t 119), dst := some 120 },
    { op := .mov (.c (.int .i64 0)), dst := some 121 }]
def a7_r27 : ACode := .reg [{ op := .bin .lss (.t 121) (.t 120), dst := some 122 }]
def a7_r28 : ACode := .reg [{ op := .mov (.t 121), dst := some 123 },
    { op := .iad 1 (.t 119) (.t 121), dst := some 124 },
    { op := .load 1 false (.t 124), dst := some 125 },
    { op := .mov (.t 123), dst := some 26 },
    { op := .mov (.t 125), dst := some 27 }]
def a7_r29 : ACode := .reg [{ op := .mov (.t 0), dst := some 126 },
    { op := .mov (.t 26), dst := some 127 },
    { op := .mov (.t 0), dst := some 128 },
    { op := .len false (.t 128), dst := some 129 },
    { op := .bin .rem (.t 127) (.t 129), dst := some 130 },
    { op := .iad 1 (.t 126) (.t 130), dst := some 131 },
    { op := .load 1 false (.t 131), dst := some 132 },
    { op := .mov (.t 132), dst := some 28 }]
def a7_r30 : ACode := .reg [{ op := .mov (.t 27), dst := some 133 },
    { op := .bin .eql (.t 133) (.c (.int .i64 (-1))), dst := some 134 }]
def a7_r31 : ACode := .reg [{ op := .mov (.t 10), dst := some 136 },
    { op := .mov (.t 28), dst := some 137 },
    { op := .call 16 [(.t 136), (.c (.nils)), (.t 137), (.c (.bool true))], dst := some 138 },
    { op := .mov (.t 138), dst := some 135 },
    { op := .ext (.t 135) 0, dst := some 139 },
    { op := .ext (.t 135) 1, dst := some 140 },
    { op := .ext (.t 135) 2, dst := some 141 },
    { op := .ext (.t 135) 3, dst := some 142 },
    { op := .alloc 5 true [.int .i64 0, .int .i64 0, .str [], .nils, .nils], dst := some 29, k := 140 },
    { op := .store 5 true (.t 29) (.t 139), dst := none },
    { op := .mov (.t 140), dst := some 30 },
    { op := .mov (.t 141), dst := some 31 },
    { op := .mov (.t 142), dst := some 32 }]
def a7_r32 : ACode := .reg [{ op := .mov (.t 32), dst := some 143 },
    { op := .bin .neq (.t 143) (.c (.int .i64 0)), dst := some 144 }]
def a7_r33 : ACode := .reg [{ op := .mov (.c (.bool false)), dst := some 6 }]
def a7_r34 : ACode := .reg [{ op := .mov (.t 30), dst := some 145 },
    { op := .mov (.t 145), dst := some 10 }]
def a7_r35 : ACode := .reg [{ op := .mov (.t 12), dst := some 146 },
    { op := .load 5 true (.t 29), dst := some 147 },
    { op := .bsl 5 true 1 [.int .i64 0, .int .i64 0, .str [], .nils, .nils] [(0, (.t 147))], dst := some 148 },
    { op := .app 5 80 (.t 146) (.t 148), dst := some 149, k := 153 },
    { op := .mov (.t 149), dst := some 12 }]
def a7_r36 : ACode := .reg [{ op := .mov (.t 9), dst := some 151 },
    { op := .mov (.t 10), dst := some 152 },
    { op := .mov (.t 28), dst := some 153 },
    { op := .call 10 [(.t 151), (.t 152), (.t 153), (.c (.int .i64 0)), (.c (.bool true))], dst := some 154 },
    { op := .mov (.t 154), dst := some 150 },
    { op := .ext (.t 150) 0, dst := some 155 },
    { op := .ext (.t 150) 1, dst := some 156 },
    { op := .ext (.t 150) 2, dst := some 157 },
    { op := .ext (.t 150) 3, dst := some 158 },
    { op := .mov (.t 155), dst := some 33 },
    { op := .mov (.t 156), dst := some 34 },
    { op := .mov (.t 157), dst := some 35 },
    { op := .mov (.t 158), dst := some 36 }]
def a7_r37 : ACode := .reg [{ op := .mov (.t 25), dst := some 159 },
    { op := .mov (.t 13), dst := some 160 },
    { op := .len false (.t 160), dst := some 161 },
    { op := .bin .geq (.t 159) (.t 161), dst := some 162 },
    { op := .mov (.t 162), dst := some 163 },
    { op := .mov (.t 33), dst := some 164, g := some (163, false) },
    { op := .mov (.t 13), dst := some 165, g := some (163, false) },
    { op := .mov (.t 25), dst := some 166, g := some (163, false) },
    { op := .iad 1 (.t 165) (.t 166), dst := some 167, g := some (163, false) },
    { op := .load 1 false (.t 167), dst := some 168, g := some (163, false) },
    { op := .bin .neq (.t 164) (.t 168), dst := some 169, g := some (163, false) },
    { op := .pick (.t 163) (.c (.bool true)) (.t 169), dst := some 170 }]
def a7_r38 : ACode := .reg [{ op := .mov (.c (.bool false)), dst := some 6 }]
def a7_r39 : ACode := .reg [{ op := .mov (.t 34), dst := some 171 },
    { op := .mov (.t 35), dst := some 172 },
    { op := .mov (.t 171), dst := some 9 },
    { op := .mov (.t 172), dst := some 10 }]
def a7_r40 : ACode := .reg [{ op := .mov (.t 25), dst := some 173 },
    { op := .bin .add (.t 173) (.c (.int .i64 1)), dst := some 174 },
    { op := .mov (.t 174), dst := some 25 }]
def a7_r41 : ACode := .reg [{ op := .bin .add (.t 121) (.c (.int .i64 1)), dst := some 175 },
    { op := .mov (.t 175), dst := some 121 }]
def a7_l1 : ACode := (.seq a7_r27 (.seq (.cond (.t 122) .skip (.exit 2)) (.seq (.block 3 (.seq a7_r28 (.seq a7_r29 (.seq (.seq a7_r30 (.cond (.t 134) (.seq a7_r31 (.seq (.seq a7_r32 (.cond (.t 144) (.seq a7_r33 .ret) .skip)) (.seq a7_r34 (.seq a7_r35 (.exit 3))))) .skip)) (.seq a7_r36 (.seq (.seq a7_r37 (.cond (.t 170) (.seq a7_r38 .ret) .skip)) (.seq a7_r39 a7_r40))))))) a7_r41)))
def a7_r42 : ACode := .reg [{ op := .mov (.t 8), dst := some 176 },
    { op := .mov (.t 9), dst := some 177 },
    { op := .call 14 [(.t 176), (.t 177)], dst := some 178 },
    { op := .mov (.t 178), dst := some 179 },
    { op := .mov (.t 10), dst := some 180, g := some (179, true) },
    { op := .len false (.t 180), dst := some 181, g := some (179, true) },
    { op := .bin .eql (.t 181) (.c (.int .i64 0)), dst := some 182, g := some (179, true) },
    { op := .pick (.t 179) (.t 182) (.c (.bool false)), dst := some 183 },
    { op := .mov (.t 183), dst := some 184 },
    { op := .mov (.t 11), dst := some 185, g := some (184, true) },
    { op := .build [.int .i64 0, .int .i64 0, .str [], .nils, .nils] [(3, 1, (.t 185))], dst := some 186, g := some (184, true) },
    { op := .mov (.t 12), dst := some 187, g := some (184, true) },
    { op := .build [.int .i64 0, .int .i64 0, .str [], .nils, .nils] [(3, 1, (.t 187))], dst := some 188, g := some (184, true) },
    { op := .call 18 [(.t 186), (.t 188)], dst := some 189, g := some (184, true) },
    { op := .pick (.t 184) (.t 189) (.c (.bool false)), dst := some 190 },
    { op := .mov (.t 190), dst := some 191 },
    { op := .call 9 [], dst := some 192, g := some (191, true) },
    { op := .pick (.t 191) (.t 192) (.c (.bool false)), dst := some 193 },
    { op := .mov (.t 193), dst := some 6 }]
def a7 : ACode := (.seq a7_r0 (.seq (.seq a7_r1 (.cond (.t 55) (.seq a7_r2 .ret) .skip)) (.seq a7_r3 (.seq a7_r4 (.seq a7_r5 (.seq a7_r6 (.seq (.seq a7_r7 (.block 0 (.loop a7_l0))) (.seq a7_r24 (.seq a7_r25 (.seq (.seq a7_r26 (.block 2 (.loop a7_l1))) (.seq a7_r42 .ret)))))))))))
def a7_res : List ARes := [.tmp 6]
theorem a7_ok : Coded Try.prog 7 194 a7 a7_res := ⟨Try.f7, _, by kernel_rfl, rfl, by kernel_rfl, rfl, by kernel_rfl, by kernel_rfl⟩
theorem a7_of {args : List AV} {Q : AV → Prop} (hl : args.length ≤ 194) (h : AW Try.prog 194 a7 (mkS (argT 0 args) [] 0) (retQ a7_res Q)) : ACall Try.prog 7 args Q := acall_coded a7_ok hl h
end Go.Proofs.Ytlnhmlffhjmmiaa
