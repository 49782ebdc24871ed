/- The abstract code of the functions, checked. -/
import Derived.Test.YtdnpnokplfemfaaA4
import Derived.Test.YtdnpnokplfemfaaProg
import Derived.KernelRfl

namespace Go.Proofs.Ytdnpnokplfemfaa
open Go Go.Amb

/- workflow/workflowlaw02.ValueEncodes -/
def c5_r0 : ACode := .reg [{ op := .box 5 true (.t 1), dst := some 3, k := 0 },
    { op := .mov (.c (.bool false)), dst := some 4 }]
def c5_r1 : ACode := .reg [{ op := .mov (.t 0), dst := some 5 },
    { op := .len false (.t 5), dst := some 6 },
    { op := .bin .gtr (.t 6) (.c (.int .i64 100)), dst := some 7 },
    { op := .mov (.t 7), dst := some 8 },
    { op := .load 5 true (.t 3), dst := some 9, g := some (8, false) },
    { op := .call 11 [(.t 9), (.c (.int .i64 300))], dst := some 10, g := some (8, false) },
    { op := .not (.t 10), dst := some 11, g := some (8, false) },
    { op := .pick (.t 8) (.c (.bool true)) (.t 11), dst := some 12 }]
def c5_r2 : ACode := .reg [{ op := .call 12 [], dst := some 13 },
    { op := .mov (.t 13), dst := some 4 }]
def c5_r3 : ACode := .draw [{ op := .mov (.t 0), dst := some 14 },
    { op := .load 5 true (.t 3), dst := some 15 },
    { op := .call 17 [(.t 14), (.t 15)], dst := some 16 },
    { op := .b2s (.t 16), dst := some 17 },
    { op := .mov (.t 0), dst := some 18 },
    { op := .load 5 true (.t 3), dst := some 19 },
    { op := .call 18 [(.t 18), (.t 19)], dst := some 20 },
    { op := .b2s (.t 20), dst := some 21 },
    { op := .bin .eql (.t 17) (.t 21), dst := some 22 },
    { op := .mov (.t 22), dst := some 23 },
    { op := .call 12 [], dst := some 24, g := some (23, true) },
    { op := .pick (.t 23) (.t 24) (.c (.bool false)), dst := some 25 },
    { op := .mov (.t 25), dst := some 4 }]
    [(2, [5]), (6, [3])]
    (.take 0 (.take 1 (.take 4 (.take 5 (.one 2 (.take 3 (.one 6 (.take 7 (.take 8 (.take 9 (.one 10 (.take 11 (.take 12 (.done))))))))))))))
def c5 : ACode := (.seq c5_r0 (.seq (.seq c5_r1 (.cond (.t 12) (.seq c5_r2 .ret) .skip)) (.seq c5_r3 .ret)))
def c5_res : List ARes := [.tmp 4]
theorem c5_ok : Coded Try.prog 5 26 c5 c5_res := ⟨Try.f5, _, by kernel_rfl, rfl, by kernel_rfl, rfl, by kernel_rfl, by kernel_rfl⟩
theorem c5_of {args : List AV} {Q : AV → Prop} (hl : args.length ≤ 26) (h : AW Try.prog 26 c5 (mkS (argT 0 args) [] 0) (retQ c5_res Q)) : ACall Try.prog 5 args Q := acall_coded c5_ok hl h

/- workflow/workflowref02.Encode -/
def c18_r0 : ACode := .reg [{ op := .box 5 true (.t 1), dst := some 3, k := 0 },
    { op := .mov (.c (.nils)), dst := some 4 }]
def c18_r1 : ACode := .reg [{ op := .mov (.c (.nils)), dst := some 5 }]
def c18_r2 : ACode := .reg [{ op := .mov (.t 5), dst := some 6 },
    { op := .mov (.t 0), dst := some 7 },
    { op := .app 1 1 (.t 6) (.t 7), dst := some 8, k := 5 },
    { op := .mov (.t 8), dst := some 5 }]
def c18_r3 : ACode := .reg [{ op := .load 5 true (.t 3), dst := some 9 },
    { op := .call 15 [(.t 9)], dst := some 10 },
    { op := .not (.t 10), dst := some 11 }]
def c18_r4 : ACode := .reg [{ op := .mov (.t 5), dst := some 12 },
    { op := .mov (.t 12), dst := some 4 }]
def c18_r5 : ACode := .reg [{ op := .mov (.t 5), dst := some 13 },
    { op := .load 5 true (.t 3), dst := some 14 },
    { op := .call 63 [(.t 13), (.t 14)], dst := some 15 },
    { op := .mov (.t 15), dst := some 4 }]
def c18 : ACode := (.seq c18_r0 (.seq c18_r1 (.seq c18_r2 (.seq (.seq c18_r3 (.cond (.t 11) (.seq c18_r4 .ret) .skip)) (.seq c18_r5 .ret)))))
def c18_res : List ARes := [.tmp 4]
theorem c18_ok : Coded Try.prog 18 16 c18 c18_res := ⟨Try.f18, _, by kernel_rfl, rfl, by kernel_rfl, rfl, by kernel_rfl, by kernel_rfl⟩
theorem c18_of {args : List AV} {Q : AV → Prop} (hl : args.length ≤ 16) (h : AW Try.prog 16 c18 (mkS (argT 0 args) [] 0) (retQ c18_res Q)) : ACall Try.prog 18 args Q := acall_coded c18_ok hl h

/- workflow/workflowref02.put -/
def c63_r0 : ACode := .reg [{ op := .box 5 true (.t 1), dst := some 3, k := 0 },
    { op := .mov (.c (.nils)), dst := some 4 }]
def c63_r1 : ACode := .reg [{ op := .mov (.t 0), dst := some 6 },
    { op := .fad 0 (.t 3), dst := some 7 },
    { op := .load 1 false (.t 7), dst := some 8 },
    { op := .call 93 [(.t 6), (.t 8)], dst := some 9 },
    { op := .mov (.t 9), dst := some 0 }]
def c63_r2 : ACode := .reg [{ op := .fad 0 (.t 3), dst := some 10 },
    { op := .load 1 false (.t 10), dst := some 11 }]
def c63_r3 : ACode := .reg [{ op := .bin .eql (.t 11) (.c (.int .i64 1)), dst := some 13 },
    { op := .mov (.t 13), dst := some 12 }]
def c63_r4 : ACode := .reg [{ op := .bin .eql (.t 11) (.c (.int .i64 2)), dst := some 14 },
    { op := .mov (.t 14), dst := some 12 }]
def c63_r5 : ACode := .reg [{ op := .bin .eql (.t 11) (.c (.int .i64 6)), dst := some 15 },
    { op := .mov (.t 15), dst := some 12 }]
def c63_r6 : ACode := .reg [{ op := .mov (.t 0), dst := some 16 },
    { op := .fad 1 (.t 3), dst := some 17 },
    { op := .load 1 false (.t 17), dst := some 18 },
    { op := .call 93 [(.t 16), (.t 18)], dst := some 19 },
    { op := .mov (.t 19), dst := some 0 }]
def c63_r7 : ACode := .reg [{ op := .bin .eql (.t 11) (.c (.int .i64 3)), dst := some 21 },
    { op := .mov (.t 21), dst := some 20 }]
def c63_r8 : ACode := .reg [{ op := .mov (.t 0), dst := some 22 },
    { op := .fad 2 (.t 3), dst := some 23 },
    { op := .load 1 false (.t 23), dst := some 24 },
    { op := .call 94 [(.t 22), (.t 24)], dst := some 25 },
    { op := .mov (.t 25), dst := some 0 }]
def c63_r9 : ACode := .reg [{ op := .bin .eql (.t 11) (.c (.int .i64 4)), dst := some 27 },
    { op := .mov (.t 27), dst := some 26 }]
def c63_r10 : ACode := .reg [{ op := .bin .eql (.t 11) (.c (.int .i64 5)), dst := some 28 },
    { op := .mov (.t 28), dst := some 26 }]
def c63_r11 : ACode := .reg [{ op := .mov (.t 0), dst := some 29 },
    { op := .fad 3 (.t 3), dst := some 30 },
    { op := .load 1 false (.t 30), dst := some 31 },
    { op := .len false (.t 31), dst := some 32 },
    { op := .call 93 [(.t 29), (.t 32)], dst := some 33 },
    { op := .mov (.t 33), dst := some 0 }]
def c63_r12 : ACode := .reg [{ op := .mov (.c (.int .i64 0)), dst := some 5 }]
def c63_r13 : ACode := .reg [{ op := .mov (.t 5), dst := some 34 },
    { op := .fad 3 (.t 3), dst := some 35 },
    { op := .load 1 false (.t 35), dst := some 36 },
    { op := .len false (.t 36), dst := some 37 },
    { op := .bin .lss (.t 34) (.t 37), dst := some 38 }]
def c63_r15 : ACode := .reg [{ op := .fad 0 (.t 3), dst := some 41 },
    { op := .load 1 false (.t 41), dst := some 42 },
    { op := .bin .eql (.t 42) (.c (.int .i64 5)), dst := some 43 }]
def c63_r16 : ACode := .reg [{ op := .mov (.t 0), dst := some 44 },
    { op := .fad 4 (.t 3), dst := some 45 },
    { op := .load 1 false (.t 45), dst := some 46 },
    { op := .mov (.t 5), dst := some 47 },
    { op := .iad 1 (.t 46) (.t 47), dst := some 48 },
    { op := .load 1 false (.t 48), dst := some 49 },
    { op := .call 94 [(.t 44), (.t 49)], dst := some 50 },
    { op := .mov (.t 50), dst := some 0 }]
def c63_r17 : ACode := .reg [{ op := .mov (.t 0), dst := some 51 },
    { op := .fad 3 (.t 3), dst := some 52 },
    { op := .load 1 false (.t 52), dst := some 53 },
    { op := .mov (.t 5), dst := some 54 },
    { op := .iad 5 (.t 53) (.t 54), dst := some 55 },
    { op := .load 5 true (.t 55), dst := some 56 },
    { op := .call 63 [(.t 51), (.t 56)], dst := some 57 },
    { op := .mov (.t 57), dst := some 0 }]
def c63_r14 : ACode := .reg [{ op := .mov (.t 5), dst := some 39 },
    { op := .bin .add (.t 39) (.c (.int .i64 1)), dst := some 40 },
    { op := .mov (.t 40), dst := some 5 }]
def c63_l0 : ACode := (.seq (.seq c63_r13 (.cond (.t 38) .skip (.exit 1))) (.seq (.block 2 (.seq (.seq c63_r15 (.cond (.t 43) c63_r16 .skip)) c63_r17)) c63_r14))
def c63_r18 : ACode := .reg [{ op := .mov (.t 0), dst := some 58 },
    { op := .mov (.t 58), dst := some 4 }]
def c63 : ACode := (.seq c63_r0 (.seq c63_r1 (.seq (.seq c63_r2 (.block 0 (.seq (.seq c63_r3 (.cond (.t 12) .skip (.seq c63_r4 (.cond (.t 12) .skip c63_r5)))) (.cond (.t 12) c63_r6 (.seq c63_r7 (.cond (.t 20) c63_r8 (.seq (.seq c63_r9 (.cond (.t 26) .skip c63_r10)) (.cond (.t 26) (.seq c63_r11 (.seq c63_r12 (.block 1 (.loop c63_l0)))) .skip)))))))) (.seq c63_r18 .ret))))
def c63_res : List ARes := [.tmp 4]
theorem c63_ok : Coded Try.prog 63 59 c63 c63_res := ⟨Try.f63, _, by kernel_rfl, rfl, by kernel_rfl, rfl, by kernel_rfl, by kernel_rfl⟩
theorem c63_of {args : List AV} {Q : AV → Prop} (hl : args.length ≤ 59) (h : AW Try.prog 59 c63 (mkS (argT 0 args) [] 0) (retQ c63_res Q)) : ACall Try.prog 63 args Q := acall_coded c63_ok hl h

/- workflow/workflowref01.PutInt -/
def c93_r0 : ACode := .reg [{ op := .mov (.c (.nils)), dst := some 4 }]
def c93_r1 : ACode := .reg [{ op := .bsl 1 false 0 [.int .u8 0] [], dst := some 7 },
    { op := .mov (.t 0), dst := some 8 },
    { op := .app 1 1 (.t 7) (.t 8), dst := some 9, k := 3 },
    { op := .mov (.t 9), dst := some 5 }]
def c93_r2 : ACode := .reg [{ op := .mov (.t 1), dst := some 10 },
    { op := .call 114 [(.t 10)], dst := some 11 },
    { op := .mov (.t 11), dst := some 6 }]
def c93_r3 : ACode := .reg [{ op := .mov (.t 6), dst := some 12 },
    { op := .bin .gtr (.t 12) (.c (.int .u64 127)), dst := some 13 }]
def c93_r4 : ACode := .reg [{ op := .mov (.t 5), dst := some 14 },
    { op := .mov (.t 6), dst := some 15 },
    { op := .bin .rem (.t 15) (.c (.int .u64 128)), dst := some 16 },
    { op := .bin .add (.t 16) (.c (.int .u64 128)), dst := some 17 },
    { op := .conv .u8 (.t 17), dst := some 18 },
    { op := .bsl 1 false 1 [.int .u8 0] [(0, (.t 18))], dst := some 19 },
    { op := .app 1 1 (.t 14) (.t 19), dst := some 20, k := 16 },
    { op := .mov (.t 20), dst := some 5 }]
def c93_r5 : ACode := .reg [{ op := .mov (.t 6), dst := some 21 },
    { op := .bin .quo (.t 21) (.c (.int .u64 128)), dst := some 22 },
    { op := .mov (.t 22), dst := some 6 }]
def c93_l0 : ACode := (.seq (.seq c93_r3 (.cond (.t 13) .skip (.exit 0))) (.block 1 (.seq c93_r4 c93_r5)))
def c93_r6 : ACode := .reg [{ op := .mov (.t 5), dst := some 23 },
    { op := .mov (.t 6), dst := some 24 },
    { op := .conv .u8 (.t 24), dst := some 25 },
    { op := .bsl 1 false 1 [.int .u8 0] [(0, (.t 25))], dst := some 26 },
    { op := .app 1 1 (.t 23) (.t 26), dst := some 27, k := 25 },
    { op := .mov (.t 27), dst := some 5 }]
def c93_r7 : ACode := .reg [{ op := .mov (.t 5), dst := some 28 },
    { op := .mov (.t 28), dst := some 4 }]
def c93 : ACode := (.seq c93_r0 (.seq c93_r1 (.seq c93_r2 (.seq (.block 0 (.loop c93_l0)) (.seq c93_r6 (.seq c93_r7 .ret))))))
def c93_res : List ARes := [.tmp 4]
theorem c93_ok : Coded Try.prog 93 29 c93 c93_res := ⟨Try.f93, _, by kernel_rfl, rfl, by kernel_rfl, rfl, by kernel_rfl, by kernel_rfl⟩
theorem c93_of {args : List AV} {Q : AV → Prop} (hl : args.length ≤ 29) (h : AW Try.prog 29 c93 (mkS (argT 0 args) [] 0) (retQ c93_res Q)) : ACall Try.prog 93 args Q := acall_coded c93_ok hl h

/- workflow/workflowref01.PutText -/
def c94_r0 : ACode := .reg [{ op := .mov (.c (.nils)), dst := some 4 }]
def c94_r1 : ACode := .reg [{ op := .mov (.t 0), dst := some 7 },
    { op := .mov (.t 1), dst := some 8 },
    { op := .len true (.t 8), dst := some 9 },
    { op := .call 93 [(.t 7), (.t 9)], dst := some 10, k := 4, ad := true },
    { op := .mov (.t 10), dst := some 5 }]
def c94_r2 : ACode := .reg [{ op := .mov (.c (.int .i64 0)), dst := some 6 }]
def c94_r3 : ACode := .reg [{ op := .mov (.t 6), dst := some 11 },
    { op := .mov (.t 1), dst := some 12 },
    { op := .len true (.t 12), dst := some 13 },
    { op := .bin .lss (.t 11) (.t 13), dst := some 14 }]
def c94_r5 : ACode := .reg [{ op := .mov (.t 5), dst := some 17 },
    { op := .mov (.t 1), dst := some 18 },
    { op := .mov (.t 6), dst := some 19 },
    { op := .sidx (.t 18) (.t 19), dst := some 20 },
    { op := .bsl 1 false 1 [.int .u8 0] [(0, (.t 20))], dst := some 21 },
    { op := .app 1 1 (.t 17) (.t 21), dst := some 22, k := 16 },
    { op := .mov (.t 22), dst := some 5 }]
def c94_r4 : ACode := .reg [{ op := .mov (.t 6), dst := some 15 },
    { op := .bin .add (.t 15) (.c (.int .i64 1)), dst := some 16 },
    { op := .mov (.t 16), dst := some 6 }]
def c94_l0 : ACode := (.seq (.seq c94_r3 (.cond (.t 14) .skip (.exit 0))) (.seq (.block 1 c94_r5) c94_r4))
def c94_r6 : ACode := .reg [{ op := .mov (.t 5), dst := some 23 },
    { op := .mov (.t 23), dst := some 4 }]
def c94 : ACode := (.seq c94_r0 (.seq c94_r1 (.seq (.seq c94_r2 (.block 0 (.loop c94_l0))) (.seq c94_r6 .ret))))
def c94_res : List ARes := [.tmp 4]
theorem c94_ok : Coded Try.prog 94 24 c94 c94_res := ⟨Try.f94, _, by kernel_rfl, rfl, by kernel_rfl, rfl, by kernel_rfl, by kernel_rfl⟩
theorem c94_of {args : List AV} {Q : AV → Prop} (hl : args.length ≤ 24) (h : AW Try.prog 24 c94 (mkS (argT 0 args) [] 0) (retQ c94_res Q)) : ACall Try.prog 94 args Q := acall_coded c94_ok hl h

/- workflow/workflowref01.zigzag -/
def c114_r0 : ACode := .reg [{ op := .mov (.c (.int .u64 0)), dst := some 2 }]
def c114_r1 : ACode := .reg [{ op := .mov (.t 0), dst := some 3 },
    { op := .bin .geq (.t 3) (.c (.int .i64 0)), dst := some 4 }]
def c114_r2 : ACode := .reg [{ op := .mov (.t 0), dst := some 5 },
    { op := .conv .u64 (.t 5), dst := some 6 },
    { op := .bin .mul (.c (.int .u64 2)) (.t 6), dst := some 7 },
    { op := .mov (.t 7), dst := some 2 }]
def c114_r3 : ACode := .reg [{ op := .mov (.t 0), dst := some 8 },
    { op := .bin .add (.t 8) (.c (.int .i64 1)), dst := some 9 },
    { op := .neg (.t 9), dst := some 10 },
    { op := .conv .u64 (.t 10), dst := some 11 },
    { op := .bin .mul (.c (.int .u64 2)) (.t 11), dst := some 12 },
    { op := .bin .add (.t 12) (.c (.int .u64 1)), dst := some 13 },
    { op := .mov (.t 13), dst := some 2 }]
def c114 : ACode := (.seq c114_r0 (.seq (.seq c114_r1 (.cond (.t 4) (.seq c114_r2 .ret) .skip)) (.seq c114_r3 .ret)))
def c114_res : List ARes := [.tmp 2]
theorem c114_ok : Coded Try.prog 114 14 c114 c114_res := ⟨Try.f114, _, by kernel_rfl, rfl, by kernel_rfl, rfl, by kernel_rfl, by kernel_rfl⟩
theorem c114_of {args : List AV} {Q : AV → Prop} (hl : args.length ≤ 14) (h : AW Try.prog 14 c114 (mkS (argT 0 args) [] 0) (retQ c114_res Q)) : ACall Try.prog 114 args Q := acall_coded c114_ok hl h
end Go.Proofs.Ytdnpnokplfemfaa
