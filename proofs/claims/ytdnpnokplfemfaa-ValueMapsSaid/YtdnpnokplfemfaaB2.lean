/- The abstract code of the functions, checked. -/
import Derived.Test.YtdnpnokplfemfaaA4
import Derived.Test.YtdnpnokplfemfaaProg
import Derived.KernelRfl

namespace Go.Proofs.Ytdnpnokplfemfaa
open Go Go.Amb

/- cmp.isNaN[string] -/
def a145_r0 : ACode := .reg [{ op := .mov (.c (.bool false)), dst := some 2 }]
def a145_r1 : ACode := .reg [{ op := .mov (.t 0), dst := some 3 },
    { op := .mov (.t 0), dst := some 4 },
    { op := .bin .neq (.t 3) (.t 4), dst := some 5 },
    { op := .mov (.t 5), dst := some 2 }]
def a145 : ACode := (.seq a145_r0 (.seq a145_r1 .ret))
def a145_res : List ARes := [.tmp 2]
theorem a145_ok : Coded Try.prog 145 6 a145 a145_res := ⟨Try.f145, _, by kernel_rfl, rfl, by kernel_rfl, rfl, by kernel_rfl, by kernel_rfl⟩
theorem a145_of {args : List AV} {Q : AV → Prop} (hl : args.length ≤ 6) (h : AW Try.prog 6 a145 (mkS (argT 0 args) [] 0) (retQ a145_res Q)) : ACall Try.prog 145 args Q := acall_coded a145_ok hl h

/- workflow/wire.PutText -/
def b92_r0 : ACode := .reg [{ op := .mov (.c (.nils)), dst := some 4 }]
def b92_r1 : ACode := .reg [{ op := .mov (.t 0), dst := some 5 },
    { op := .mov (.t 1), dst := some 6 },
    { op := .len true (.t 6), dst := some 7 },
    { op := .call 91 [(.t 5), (.t 7)], dst := some 8, k := 4, ad := true },
    { op := .mov (.t 1), dst := some 9 },
    { op := .app 1 1 (.t 8) (.t 9), dst := some 10, k := 6 },
    { op := .mov (.t 10), dst := some 4 }]
def b92 : ACode := (.seq b92_r0 (.seq b92_r1 .ret))
def b92_res : List ARes := [.tmp 4]
theorem b92_ok : Coded Try.prog 92 11 b92 b92_res := ⟨Try.f92, _, by kernel_rfl, rfl, by kernel_rfl, rfl, by kernel_rfl, by kernel_rfl⟩
theorem b92_of {args : List AV} {Q : AV → Prop} (hl : args.length ≤ 11) (h : AW Try.prog 11 b92 (mkS (argT 0 args) [] 0) (retQ b92_res Q)) : ACall Try.prog 92 args Q := acall_coded b92_ok hl h

/- workflow/wire.PutInt -/
def b91_r0 : ACode := .reg [{ op := .mov (.c (.nils)), dst := some 4 }]
def b91_r1 : ACode := .reg [{ op := .mov (.t 0), dst := some 7 },
    { op := .call 61 [(.t 7)], dst := some 8, k := 2, ad := true },
    { op := .mov (.t 8), dst := some 5 }]
def b91_r2 : ACode := .reg [{ op := .mov (.t 1), dst := some 9 },
    { op := .conv .u64 (.t 9), dst := some 10 },
    { op := .bin .shl (.t 10) (.c (.int .u64 1)), dst := some 11 },
    { op := .mov (.t 1), dst := some 12 },
    { op := .bin .shr (.t 12) (.c (.int .u64 63)), dst := some 13 },
    { op := .conv .u64 (.t 13), dst := some 14 },
    { op := .bin .xor (.t 11) (.t 14), dst := some 15 },
    { op := .mov (.t 15), dst := some 6 }]
def b91_r3 : ACode := .reg [{ op := .mov (.t 6), dst := some 16 },
    { op := .bin .geq (.t 16) (.c (.int .u64 128)), dst := some 17 }]
def b91_r4 : ACode := .reg [{ op := .mov (.t 5), dst := some 18 },
    { op := .mov (.t 6), dst := some 19 },
    { op := .conv .u8 (.t 19), dst := some 20 },
    { op := .bin .or (.t 20) (.c (.int .u8 128)), dst := some 21 },
    { op := .bsl 1 false 1 [.int .u8 0] [(0, (.t 21))], dst := some 22 },
    { op := .app 1 1 (.t 18) (.t 22), dst := some 23, k := 19 },
    { op := .mov (.t 23), dst := some 5 }]
def b91_r5 : ACode := .reg [{ op := .mov (.t 6), dst := some 24 },
    { op := .bin .shr (.t 24) (.c (.int .u64 7)), dst := some 25 },
    { op := .mov (.t 25), dst := some 6 }]
def b91_l0 : ACode := (.seq (.seq b91_r3 (.cond (.t 17) .skip (.exit 0))) (.block 1 (.seq b91_r4 b91_r5)))
def b91_r6 : ACode := .reg [{ op := .mov (.t 5), dst := some 26 },
    { op := .mov (.t 6), dst := some 27 },
    { op := .conv .u8 (.t 27), dst := some 28 },
    { op := .bsl 1 false 1 [.int .u8 0] [(0, (.t 28))], dst := some 29 },
    { op := .app 1 1 (.t 26) (.t 29), dst := some 30, k := 28 },
    { op := .mov (.t 30), dst := some 4 }]
def b91 : ACode := (.seq b91_r0 (.seq b91_r1 (.seq b91_r2 (.seq (.block 0 (.loop b91_l0)) (.seq b91_r6 .ret)))))
def b91_res : List ARes := [.tmp 4]
theorem b91_ok : Coded Try.prog 91 31 b91 b91_res := ⟨Try.f91, _, by kernel_rfl, rfl, by kernel_rfl, rfl, by kernel_rfl, by kernel_rfl⟩
theorem b91_of {args : List AV} {Q : AV → Prop} (hl : args.length ≤ 31) (h : AW Try.prog 31 b91 (mkS (argT 0 args) [] 0) (retQ b91_res Q)) : ACall Try.prog 91 args Q := acall_coded b91_ok hl h
end Go.Proofs.Ytdnpnokplfemfaa

namespace Go.Proofs.Ytdnpnokplfemfaa
open Go Go.Amb

/- workflow/value.Copy -/
def b20_r0 : ACode := .reg [{ op := .box 5 true (.t 0), dst := some 1, k := 0 },
    { op := .alloc 5 true [.int .i64 0, .int .i64 0, .str [], .nils, .nils], dst := some 2, k := 1 }]
def b20_r1 : ACode := .draw [{ op := .fad 3 (.t 1), dst := some 3 },
    { op := .load 1 false (.t 3), dst := some 4 },
    { op := .call 64 [(.t 4)], dst := some 5, k := 4, ad := true },
    { op := .fad 4 (.t 1), dst := some 6 },
    { op := .load 1 false (.t 6), dst := some 7 },
    { op := .call 65 [(.t 7)], dst := some 8, k := 7, ad := true },
    { op := .fad 3 (.t 1), dst := some 9 },
    { op := .store 1 false (.t 9) (.t 5), dst := none },
    { op := .fad 4 (.t 1), dst := some 10 },
    { op := .store 1 false (.t 10) (.t 8), dst := none }]
    [(2, [4])]
    (.take 0 (.take 1 (.take 3 (.take 4 (.one 2 (.take 6 (.one 5 (.one 7 (.take 8 (.one 9 (.done)))))))))))
def b20_r2 : ACode := .reg [{ op := .load 5 true (.t 1), dst := some 11 },
    { op := .store 5 true (.t 2) (.t 11), dst := none }]
def b20 : ACode := (.seq b20_r0 (.seq b20_r1 (.seq b20_r2 .ret)))
def b20_res : List ARes := [.cell 2 5 true]
theorem b20_ok : Coded Try.prog 20 12 b20 b20_res := ⟨Try.f20, _, by kernel_rfl, rfl, by kernel_rfl, rfl, by kernel_rfl, by kernel_rfl⟩
theorem b20_of {args : List AV} {Q : AV → Prop} (hl : args.length ≤ 12) (h : AW Try.prog 12 b20 (mkS (argT 0 args) [] 0) (retQ b20_res Q)) : ACall Try.prog 20 args Q := acall_coded b20_ok hl h
end Go.Proofs.Ytdnpnokplfemfaa
