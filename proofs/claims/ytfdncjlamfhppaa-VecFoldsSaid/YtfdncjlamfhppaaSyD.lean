/-
  Contracts: the code lowered, what it does told by rules, and the contracts of the functions that the law reaches.
-/
import Derived.Test.YtfdncjlamfhppaaSyC
import Derived.Test.YtfdncjlamfhppaaProg
import Derived.KernelRfl
set_option linter.unusedVariables false
set_option linter.unusedSimpArgs false
section
set_option maxRecDepth 100000
namespace Go.Sy
open Go.Ev Go.Proofs
def b28 : Cmd := (.seq (.ops [⟨(some 2), true, none, (.i (.mv (.c (.int .i64 0))))⟩]) (.seq (.ops [⟨(some 3), false, none, (.i (.mv (.t 0)))⟩, ⟨(some 4), false, none, (.i (.nilc (.t 3)))⟩, ⟨(some 5), false, none, (.i (.fad 0 (.t 4)))⟩, ⟨(some 6), false, none, (.i (.ld1 (.t 5)))⟩, ⟨(some 7), false, none, (.i (.len (.t 6)))⟩, ⟨(some 2), true, none, (.i (.mv (.t 7)))⟩]) .ret))
def c28 : FD := ⟨[0], b28, [(.t 2)]⟩
theorem l28 : lowF Try.prog 28 = some c28 := by kernel_rfl
def b29 : Cmd := (.seq (.ops [⟨(some 2), true, none, (.i (.mv (.c (.int .u32 0))))⟩, ⟨(some 3), true, none, (.i (.mv (.c (.int .i64 0))))⟩]) (.seq (.ops [⟨(some 7), false, none, (.i (.mv (.t 0)))⟩, ⟨(some 8), false, none, (.i (.build [(.int .u32 0), (.int .u32 0)] []))⟩, ⟨(some 9), false, none, (.call (.c (.fn 44 [])) [(.t 7), (.t 8)])⟩, ⟨(some 6), false, none, (.i (.mv (.t 9)))⟩, ⟨(some 10), false, none, (.i (.ext (.t 6) 0))⟩, ⟨(some 11), false, none, (.i (.ext (.t 6) 1))⟩, ⟨(some 4), true, none, (.i (.mv (.t 10)))⟩, ⟨(some 5), true, none, (.i (.mv (.t 11)))⟩]) (.seq (.seq (.ops [⟨(some 12), false, none, (.i (.mv (.t 5)))⟩, ⟨(some 13), true, none, (.i (.bin .eql (.t 12) (.c (.int .i64 0))))⟩]) (.cond (.t 13) (.ops [⟨(some 14), false, none, (.i (.mv (.t 0)))⟩, ⟨(some 15), false, none, (.i (.mv (.t 0)))⟩, ⟨(some 16), false, none, (.i (.nilc (.t 15)))⟩, ⟨(some 17), false, none, (.i (.fad 1 (.t 16)))⟩, ⟨(some 18), false, none, (.i (.ld1 (.t 17)))⟩, ⟨(some 19), false, none, (.i (.mv (.t 4)))⟩, ⟨(some 20), false, none, (.i (.buildS 1 1 [(.int .u32 0)] [((0, 1), (.t 19))]))⟩, ⟨(some 21), false, none, (.i (.app 1 4 (.t 18) (.t 20)))⟩, ⟨(some 22), false, none, (.i (.nilc (.t 14)))⟩, ⟨(some 23), false, none, (.i (.fad 1 (.t 22)))⟩, ⟨none, false, none, (.i (.st 1 (.t 23) (.t 21)))⟩]) .skip)) (.seq (.ops [⟨(some 24), false, none, (.i (.mv (.t 4)))⟩, ⟨(some 25), false, none, (.i (.mv (.t 5)))⟩, ⟨(some 2), true, none, (.i (.mv (.t 24)))⟩, ⟨(some 3), true, none, (.i (.mv (.t 25)))⟩]) .ret))))
def c29 : FD := ⟨[0], b29, [(.t 2), (.t 3)]⟩
theorem l29 : lowF Try.prog 29 = some c29 := by kernel_rfl
def b37 : Cmd := (.seq (.ops [⟨(some 6), true, none, (.i (.mv (.c (.int .u32 0))))⟩, ⟨(some 7), true, none, (.i (.mv (.c (.int .i64 0))))⟩]) (.seq (.seq (.ops [⟨(some 8), false, none, (.i (.mv (.t 0)))⟩, ⟨(some 9), false, none, (.i (.mv (.t 2)))⟩, ⟨(some 10), false, none, (.i (.buildS 1 1 [(.int .u32 0)] [((0, 1), (.t 9))]))⟩, ⟨(some 11), false, none, (.call (.c (.fn 41 [])) [(.t 8), (.t 10)])⟩, ⟨(some 12), true, none, (.i (.un .not (.t 11)))⟩]) (.cond (.t 12) (.seq (.ops [⟨(some 6), true, none, (.i (.mv (.c (.int .u32 0))))⟩, ⟨(some 7), true, none, (.i (.mv (.c (.int .i64 101))))⟩]) .ret) .skip)) (.seq (.ops [⟨(some 13), false, none, (.i (.mv (.t 0)))⟩, ⟨(some 14), false, none, (.i (.mv (.t 1)))⟩, ⟨(some 15), false, none, (.i (.mv (.t 2)))⟩, ⟨(some 16), false, none, (.i (.mv (.t 2)))⟩, ⟨(some 17), false, none, (.i (.bin .xor (.t 16) (.c (.int .u32 1))))⟩, ⟨(some 18), false, none, (.call (.c (.fn 38 [])) [(.t 13), (.t 14), (.t 15), (.t 17)])⟩, ⟨(some 19), false, none, (.i (.ext (.t 18) 0))⟩, ⟨(some 20), false, none, (.i (.ext (.t 18) 1))⟩, ⟨(some 6), true, none, (.i (.mv (.t 19)))⟩, ⟨(some 7), true, none, (.i (.mv (.t 20)))⟩]) .ret)))
def c37 : FD := ⟨[0, 1, 2], b37, [(.t 6), (.t 7)]⟩
theorem l37 : lowF Try.prog 37 = some c37 := by kernel_rfl
def b38 : Cmd := (.seq (.ops [⟨(some 8), true, none, (.i (.mv (.c (.int .u32 0))))⟩, ⟨(some 9), true, none, (.i (.mv (.c (.int .i64 0))))⟩]) (.seq (.seq (.ops [⟨(some 13), false, none, (.i (.mv (.t 0)))⟩, ⟨(some 14), false, none, (.i (.mv (.t 1)))⟩, ⟨(some 15), false, none, (.i (.mv (.t 2)))⟩, ⟨(some 16), false, none, (.i (.mv (.t 3)))⟩, ⟨(some 17), false, none, (.i (.buildS 3 1 [(.int .u32 0)] [((0, 1), (.t 14)), ((1, 1), (.t 15)), ((2, 1), (.t 16))]))⟩, ⟨(some 18), false, none, (.call (.c (.fn 41 [])) [(.t 13), (.t 17)])⟩, ⟨(some 19), true, none, (.i (.un .not (.t 18)))⟩]) (.cond (.t 19) (.seq (.ops [⟨(some 8), true, none, (.i (.mv (.c (.int .u32 0))))⟩, ⟨(some 9), true, none, (.i (.mv (.c (.int .i64 101))))⟩]) .ret) .skip)) (.seq (.ops [⟨(some 21), false, none, (.i (.mv (.t 0)))⟩, ⟨(some 22), false, none, (.i (.mv (.t 1)))⟩, ⟨(some 23), false, none, (.i (.mv (.t 2)))⟩, ⟨(some 24), false, none, (.i (.buildS 2 1 [(.int .u32 0)] [((0, 1), (.t 22)), ((1, 1), (.t 23))]))⟩, ⟨(some 25), false, none, (.call (.c (.fn 39 [])) [(.t 21), (.t 24)])⟩, ⟨(some 20), false, none, (.i (.mv (.t 25)))⟩, ⟨(some 26), false, none, (.i (.ext (.t 20) 0))⟩, ⟨(some 27), false, none, (.i (.ext (.t 20) 1))⟩, ⟨(some 10), true, none, (.i (.mv (.t 26)))⟩, ⟨(some 11), true, none, (.i (.mv (.t 27)))⟩]) (.seq (.seq (.ops [⟨(some 28), false, none, (.i (.mv (.t 11)))⟩, ⟨(some 29), true, none, (.i (.bin .neq (.t 28) (.c (.int .i64 0))))⟩]) (.cond (.t 29) (.seq (.ops [⟨(some 30), false, none, (.i (.mv (.t 11)))⟩, ⟨(some 8), true, none, (.i (.mv (.c (.int .u32 0))))⟩, ⟨(some 9), true, none, (.i (.mv (.t 30)))⟩]) .ret) .skip)) (.seq (.ops [⟨(some 32), false, none, (.i (.mv (.t 0)))⟩, ⟨(some 33), false, none, (.i (.mv (.t 1)))⟩, ⟨(some 34), false, none, (.i (.bin .xor (.t 33) (.c (.int .u32 1))))⟩, ⟨(some 35), false, none, (.i (.mv (.t 3)))⟩, ⟨(some 36), false, none, (.i (.buildS 2 1 [(.int .u32 0)] [((0, 1), (.t 34)), ((1, 1), (.t 35))]))⟩, ⟨(some 37), false, none, (.call (.c (.fn 39 [])) [(.t 32), (.t 36)])⟩, ⟨(some 31), false, none, (.i (.mv (.t 37)))⟩, ⟨(some 38), false, none, (.i (.ext (.t 31) 0))⟩, ⟨(some 39), false, none, (.i (.ext (.t 31) 1))⟩, ⟨(some 12), true, none, (.i (.mv (.t 38)))⟩, ⟨(some 11), true, none, (.i (.mv (.t 39)))⟩]) (.seq (.seq (.ops [⟨(some 40), false, none, (.i (.mv (.t 11)))⟩, ⟨(some 41), true, none, (.i (.bin .neq (.t 40) (.c (.int .i64 0))))⟩]) (.cond (.t 41) (.seq (.ops [⟨(some 42), false, none, (.i (.mv (.t 11)))⟩, ⟨(some 8), true, none, (.i (.mv (.c (.int .u32 0))))⟩, ⟨(some 9), true, none, (.i (.mv (.t 42)))⟩]) .ret) .skip)) (.seq (.ops [⟨(some 43), false, none, (.i (.mv (.t 0)))⟩, ⟨(some 44), false, none, (.i (.mv (.t 10)))⟩, ⟨(some 45), false, none, (.i (.mv (.t 12)))⟩, ⟨(some 46), false, none, (.i (.buildS 2 1 [(.int .u32 0)] [((0, 1), (.t 44)), ((1, 1), (.t 45))]))⟩, ⟨(some 47), false, none, (.call (.c (.fn 52 [])) [(.t 43), (.t 46)])⟩, ⟨(some 48), false, none, (.i (.ext (.t 47) 0))⟩, ⟨(some 49), false, none, (.i (.ext (.t 47) 1))⟩, ⟨(some 8), true, none, (.i (.mv (.t 48)))⟩, ⟨(some 9), true, none, (.i (.mv (.t 49)))⟩]) .ret)))))))
def c38 : FD := ⟨[0, 1, 2, 3], b38, [(.t 8), (.t 9)]⟩
theorem l38 : lowF Try.prog 38 = some c38 := by kernel_rfl
def b39 : Cmd := (.seq (.ops [⟨(some 4), true, none, (.i (.mv (.c (.int .u32 0))))⟩, ⟨(some 5), true, none, (.i (.mv (.c (.int .i64 0))))⟩]) (.seq (.seq (.ops [⟨(some 11), false, none, (.i (.mv (.t 0)))⟩, ⟨(some 12), false, none, (.i (.mv (.t 1)))⟩, ⟨(some 13), false, none, (.call (.c (.fn 41 [])) [(.t 11), (.t 12)])⟩, ⟨(some 14), true, none, (.i (.un .not (.t 13)))⟩]) (.cond (.t 14) (.seq (.ops [⟨(some 4), true, none, (.i (.mv (.c (.int .u32 0))))⟩, ⟨(some 5), true, none, (.i (.mv (.c (.int .i64 101))))⟩]) .ret) .skip)) (.seq (.ops [⟨(some 6), true, none, (.i (.mv (.c (.int .u32 1))))⟩]) (.seq (.seq (.ops [⟨(some 15), true, none, (.i (.mv (.t 1)))⟩, ⟨(some 16), true, none, (.i (.len (.t 15)))⟩, ⟨(some 17), true, none, (.i (.mv (.c (.int .i64 0))))⟩]) (.block 0 (.loop (.seq (.ops [⟨(some 18), true, none, (.i (.bin .lss (.t 17) (.t 16)))⟩]) (.seq (.cond (.t 18) .skip (.exit 0)) (.seq (.block 1 (.seq (.ops [⟨(some 19), false, none, (.i (.idxS 1 (.t 15) (.t 17)))⟩, ⟨(some 20), false, none, (.i (.ld1 (.t 19)))⟩, ⟨(some 8), true, none, (.i (.mv (.t 20)))⟩]) (.seq (.ops [⟨(some 22), false, none, (.i (.mv (.t 0)))⟩, ⟨(some 23), false, none, (.i (.mv (.t 6)))⟩, ⟨(some 24), false, none, (.i (.mv (.t 8)))⟩, ⟨(some 25), false, none, (.call (.c (.fn 53 [])) [(.t 22), (.t 23), (.t 24)])⟩, ⟨(some 21), false, none, (.i (.mv (.t 25)))⟩, ⟨(some 26), false, none, (.i (.ext (.t 21) 0))⟩, ⟨(some 27), false, none, (.i (.ext (.t 21) 1))⟩, ⟨(some 9), true, none, (.i (.mv (.t 26)))⟩, ⟨(some 10), true, none, (.i (.mv (.t 27)))⟩]) (.seq (.seq (.ops [⟨(some 28), false, none, (.i (.mv (.t 10)))⟩, ⟨(some 29), true, none, (.i (.bin .neq (.t 28) (.c (.int .i64 0))))⟩]) (.cond (.t 29) (.seq (.ops [⟨(some 30), false, none, (.i (.mv (.t 10)))⟩, ⟨(some 4), true, none, (.i (.mv (.c (.int .u32 0))))⟩, ⟨(some 5), true, none, (.i (.mv (.t 30)))⟩]) .ret) .skip)) (.ops [⟨(some 31), false, none, (.i (.mv (.t 9)))⟩, ⟨(some 6), true, none, (.i (.mv (.t 31)))⟩]))))) (.ops [⟨(some 32), false, none, (.i (.bin .add (.t 17) (.c (.int .i64 1))))⟩, ⟨(some 17), true, none, (.i (.mv (.t 32)))⟩]))))))) (.seq (.ops [⟨(some 33), false, none, (.i (.mv (.t 6)))⟩, ⟨(some 4), true, none, (.i (.mv (.t 33)))⟩, ⟨(some 5), true, none, (.i (.mv (.c (.int .i64 0))))⟩]) .ret)))))
def c39 : FD := ⟨[0, 1], b39, [(.t 4), (.t 5)]⟩
theorem l39 : lowF Try.prog 39 = some c39 := by kernel_rfl
def b44 : Cmd := (.seq (.ops [⟨(some 3), true, none, (.i (.box (.t 1)))⟩, ⟨(some 4), true, none, (.i (.mv (.c (.int .u32 0))))⟩, ⟨(some 5), true, none, (.i (.mv (.c (.int .i64 0))))⟩]) (.seq (.seq (.ops [⟨(some 6), false, none, (.i (.mv (.t 0)))⟩, ⟨(some 7), false, none, (.i (.nilc (.t 6)))⟩, ⟨(some 8), false, none, (.i (.fad 0 (.t 7)))⟩, ⟨(some 9), false, none, (.i (.ld1 (.t 8)))⟩, ⟨(some 10), false, none, (.i (.len (.t 9)))⟩, ⟨(some 11), true, none, (.i (.bin .geq (.t 10) (.c (.int .i64 1048576))))⟩]) (.cond (.t 11) (.seq (.ops [⟨(some 4), true, none, (.i (.mv (.c (.int .u32 0))))⟩, ⟨(some 5), true, none, (.i (.mv (.c (.int .i64 101))))⟩]) .ret) .skip)) (.seq (.ops [⟨(some 12), false, none, (.i (.mv (.t 0)))⟩, ⟨(some 13), false, none, (.i (.mv (.t 0)))⟩, ⟨(some 14), false, none, (.i (.nilc (.t 13)))⟩, ⟨(some 15), false, none, (.i (.fad 0 (.t 14)))⟩, ⟨(some 16), false, none, (.i (.ld1 (.t 15)))⟩, ⟨(some 17), false, none, (.i (.ldA 2 (.t 3)))⟩, ⟨(some 18), false, none, (.i (.buildS 1 2 [(.int .u32 0), (.int .u32 0)] [((0, 2), (.t 17))]))⟩, ⟨(some 19), false, none, (.i (.app 2 8 (.t 16) (.t 18)))⟩, ⟨(some 20), false, none, (.i (.nilc (.t 12)))⟩, ⟨(some 21), false, none, (.i (.fad 0 (.t 20)))⟩, ⟨none, false, none, (.i (.st 1 (.t 21) (.t 19)))⟩]) (.seq (.ops [⟨(some 22), false, none, (.i (.mv (.t 0)))⟩, ⟨(some 23), false, none, (.i (.nilc (.t 22)))⟩, ⟨(some 24), false, none, (.i (.fad 0 (.t 23)))⟩, ⟨(some 25), false, none, (.i (.ld1 (.t 24)))⟩, ⟨(some 26), false, none, (.i (.len (.t 25)))⟩, ⟨(some 27), false, none, (.i (.bin .mul (.c (.int .i64 2)) (.t 26)))⟩, ⟨(some 28), false, none, (.i (.bin .sub (.t 27) (.c (.int .i64 2))))⟩, ⟨(some 29), false, none, (.i (.cvt .u32 (.t 28)))⟩, ⟨(some 4), true, none, (.i (.mv (.t 29)))⟩, ⟨(some 5), true, none, (.i (.mv (.c (.int .i64 0))))⟩]) .ret))))
def c44 : FD := ⟨[0, 1], b44, [(.t 4), (.t 5)]⟩
theorem l44 : lowF Try.prog 44 = some c44 := by kernel_rfl
def b52 : Cmd := (.seq (.ops [⟨(some 4), true, none, (.i (.mv (.c (.int .u32 0))))⟩, ⟨(some 5), true, none, (.i (.mv (.c (.int .i64 0))))⟩]) (.seq (.ops [⟨(some 11), false, none, (.i (.mv (.t 1)))⟩, ⟨(some 12), false, none, (.i (.len (.t 11)))⟩, ⟨(some 13), false, none, (.i (.mkS 1 4 [(.int .u32 0)] (.c (.int .i64 0)) (.t 12)))⟩, ⟨(some 6), true, none, (.i (.mv (.t 13)))⟩]) (.seq (.seq (.ops [⟨(some 14), true, none, (.i (.mv (.t 1)))⟩, ⟨(some 15), true, none, (.i (.len (.t 14)))⟩, ⟨(some 16), true, none, (.i (.mv (.c (.int .i64 0))))⟩]) (.block 0 (.loop (.seq (.ops [⟨(some 17), true, none, (.i (.bin .lss (.t 16) (.t 15)))⟩]) (.seq (.cond (.t 17) .skip (.exit 0)) (.seq (.block 1 (.seq (.ops [⟨(some 18), false, none, (.i (.idxS 1 (.t 14) (.t 16)))⟩, ⟨(some 19), false, none, (.i (.ld1 (.t 18)))⟩, ⟨(some 8), true, none, (.i (.mv (.t 19)))⟩]) (.ops [⟨(some 20), false, none, (.i (.mv (.t 6)))⟩, ⟨(some 21), false, none, (.i (.mv (.t 8)))⟩, ⟨(some 22), false, none, (.i (.bin .xor (.t 21) (.c (.int .u32 1))))⟩, ⟨(some 23), false, none, (.i (.buildS 1 1 [(.int .u32 0)] [((0, 1), (.t 22))]))⟩, ⟨(some 24), false, none, (.i (.app 1 4 (.t 20) (.t 23)))⟩, ⟨(some 6), true, none, (.i (.mv (.t 24)))⟩]))) (.ops [⟨(some 25), false, none, (.i (.bin .add (.t 16) (.c (.int .i64 1))))⟩, ⟨(some 16), true, none, (.i (.mv (.t 25)))⟩]))))))) (.seq (.ops [⟨(some 27), false, none, (.i (.mv (.t 0)))⟩, ⟨(some 28), false, none, (.i (.mv (.t 6)))⟩, ⟨(some 29), false, none, (.call (.c (.fn 39 [])) [(.t 27), (.t 28)])⟩, ⟨(some 26), false, none, (.i (.mv (.t 29)))⟩, ⟨(some 30), false, none, (.i (.ext (.t 26) 0))⟩, ⟨(some 31), false, none, (.i (.ext (.t 26) 1))⟩, ⟨(some 9), true, none, (.i (.mv (.t 30)))⟩, ⟨(some 10), true, none, (.i (.mv (.t 31)))⟩]) (.seq (.seq (.ops [⟨(some 32), false, none, (.i (.mv (.t 10)))⟩, ⟨(some 33), true, none, (.i (.bin .neq (.t 32) (.c (.int .i64 0))))⟩]) (.cond (.t 33) (.seq (.ops [⟨(some 34), false, none, (.i (.mv (.t 10)))⟩, ⟨(some 4), true, none, (.i (.mv (.c (.int .u32 0))))⟩, ⟨(some 5), true, none, (.i (.mv (.t 34)))⟩]) .ret) .skip)) (.seq (.ops [⟨(some 35), false, none, (.i (.mv (.t 9)))⟩, ⟨(some 36), false, none, (.i (.bin .xor (.t 35) (.c (.int .u32 1))))⟩, ⟨(some 4), true, none, (.i (.mv (.t 36)))⟩, ⟨(some 5), true, none, (.i (.mv (.c (.int .i64 0))))⟩]) .ret))))))
def c52 : FD := ⟨[0, 1], b52, [(.t 4), (.t 5)]⟩
theorem l52 : lowF Try.prog 52 = some c52 := by kernel_rfl
def b53 : Cmd := (.seq (.ops [⟨(some 6), true, none, (.i (.mv (.c (.int .u32 0))))⟩, ⟨(some 7), true, none, (.i (.mv (.c (.int .i64 0))))⟩]) (.seq (.ops [⟨(some 13), false, none, (.i (.mv (.t 1)))⟩, ⟨(some 14), false, none, (.i (.mv (.t 2)))⟩, ⟨(some 15), false, none, (.i (.bi .min #[44, 44] [(.t 13), (.t 14)]))⟩, ⟨(some 16), false, none, (.i (.mv (.t 1)))⟩, ⟨(some 17), false, none, (.i (.mv (.t 2)))⟩, ⟨(some 18), false, none, (.i (.bi .max #[44, 44] [(.t 16), (.t 17)]))⟩, ⟨(some 1), true, none, (.i (.mv (.t 15)))⟩, ⟨(some 2), true, none, (.i (.mv (.t 18)))⟩]) (.seq (.block 0 (.seq (.seq (.ops [⟨(some 20), false, none, (.i (.mv (.t 1)))⟩, ⟨(some 21), false, none, (.i (.bin .eql (.t 20) (.c (.int .u32 0))))⟩, ⟨(some 19), true, none, (.i (.mv (.t 21)))⟩]) (.cond (.t 19) .skip (.ops [⟨(some 22), false, none, (.i (.mv (.t 1)))⟩, ⟨(some 23), false, none, (.i (.bin .xor (.t 22) (.c (.int .u32 1))))⟩, ⟨(some 24), false, none, (.i (.mv (.t 2)))⟩, ⟨(some 25), false, none, (.i (.bin .eql (.t 23) (.t 24)))⟩, ⟨(some 19), true, none, (.i (.mv (.t 25)))⟩]))) (.cond (.t 19) (.seq (.ops [⟨(some 6), true, none, (.i (.mv (.c (.int .u32 0))))⟩, ⟨(some 7), true, none, (.i (.mv (.c (.int .i64 0))))⟩]) .ret) (.seq (.seq (.ops [⟨(some 27), false, none, (.i (.mv (.t 1)))⟩, ⟨(some 28), false, none, (.i (.bin .eql (.t 27) (.c (.int .u32 1))))⟩, ⟨(some 26), true, none, (.i (.mv (.t 28)))⟩]) (.cond (.t 26) .skip (.ops [⟨(some 29), false, none, (.i (.mv (.t 1)))⟩, ⟨(some 30), false, none, (.i (.mv (.t 2)))⟩, ⟨(some 31), false, none, (.i (.bin .eql (.t 29) (.t 30)))⟩, ⟨(some 26), true, none, (.i (.mv (.t 31)))⟩]))) (.cond (.t 26) (.seq (.ops [⟨(some 32), false, none, (.i (.mv (.t 2)))⟩, ⟨(some 6), true, none, (.i (.mv (.t 32)))⟩, ⟨(some 7), true, none, (.i (.mv (.c (.int .i64 0))))⟩]) .ret) .skip))))) (.seq (.ops [⟨(some 33), false, none, (.i (.mv (.t 1)))⟩, ⟨(some 34), false, none, (.i (.mv (.t 2)))⟩, ⟨(some 35), false, none, (.i (.build [(.int .u32 0), (.int .u32 0)] [((0, 1), (.t 33)), ((1, 1), (.t 34))]))⟩, ⟨(some 8), true, none, (.i (.alloc [(.int .u32 0), (.int .u32 0)]))⟩, ⟨none, false, none, (.i (.st 2 (.t 8) (.t 35)))⟩]) (.seq (.seq (.ops [⟨(some 37), false, none, (.i (.mv (.t 0)))⟩, ⟨(some 38), false, none, (.i (.nilc (.t 37)))⟩, ⟨(some 39), false, none, (.i (.fad 2 (.t 38)))⟩, ⟨(some 40), false, none, (.i (.ld1 (.t 39)))⟩, ⟨(some 41), false, none, (.i (.ldA 2 (.t 8)))⟩, ⟨(some 42), false, none, (.i (.look 67 (.t 40) (.t 41) true))⟩, ⟨(some 36), false, none, (.i (.mv (.t 42)))⟩, ⟨(some 43), false, none, (.i (.ext (.t 36) 0))⟩, ⟨(some 44), false, none, (.i (.ext (.t 36) 1))⟩, ⟨(some 9), true, none, (.i (.mv (.t 43)))⟩, ⟨(some 10), true, none, (.i (.mv (.t 44)))⟩]) (.seq (.ops [⟨(some 45), true, none, (.i (.mv (.t 10)))⟩]) (.cond (.t 45) (.seq (.ops [⟨(some 46), false, none, (.i (.mv (.t 9)))⟩, ⟨(some 6), true, none, (.i (.mv (.t 46)))⟩, ⟨(some 7), true, none, (.i (.mv (.c (.int .i64 0))))⟩]) .ret) .skip))) (.seq (.ops [⟨(some 48), false, none, (.i (.mv (.t 0)))⟩, ⟨(some 49), false, none, (.i (.ldA 2 (.t 8)))⟩, ⟨(some 50), false, none, (.call (.c (.fn 44 [])) [(.t 48), (.t 49)])⟩, ⟨(some 47), false, none, (.i (.mv (.t 50)))⟩, ⟨(some 51), false, none, (.i (.ext (.t 47) 0))⟩, ⟨(some 52), false, none, (.i (.ext (.t 47) 1))⟩, ⟨(some 11), true, none, (.i (.mv (.t 51)))⟩, ⟨(some 12), true, none, (.i (.mv (.t 52)))⟩]) (.seq (.seq (.ops [⟨(some 53), false, none, (.i (.mv (.t 12)))⟩, ⟨(some 54), true, none, (.i (.bin .eql (.t 53) (.c (.int .i64 0))))⟩]) (.cond (.t 54) (.ops [⟨(some 55), false, none, (.i (.mv (.t 0)))⟩, ⟨(some 56), false, none, (.i (.nilc (.t 55)))⟩, ⟨(some 57), false, none, (.i (.fad 2 (.t 56)))⟩, ⟨(some 58), false, none, (.i (.ld1 (.t 57)))⟩, ⟨(some 59), false, none, (.i (.ldA 2 (.t 8)))⟩, ⟨(some 60), false, none, (.i (.mv (.t 11)))⟩, ⟨none, false, none, (.i (.upd 67 (.t 58) (.t 59) (.t 60)))⟩]) .skip)) (.seq (.ops [⟨(some 61), false, none, (.i (.mv (.t 11)))⟩, ⟨(some 62), false, none, (.i (.mv (.t 12)))⟩, ⟨(some 6), true, none, (.i (.mv (.t 61)))⟩, ⟨(some 7), true, none, (.i (.mv (.t 62)))⟩]) .ret))))))))
def c53 : FD := ⟨[0, 1, 2], b53, [(.t 6), (.t 7)]⟩
theorem l53 : lowF Try.prog 53 = some c53 := by kernel_rfl
def b56 : Cmd := (.seq (.ops [⟨(some 2), true, none, (.i (.mv (.c .nils)))⟩]) (.seq (.ops [⟨(some 3), true, none, (.i (.mv (.c (.int .i64 0))))⟩]) (.seq (.seq (.ops [⟨(some 9), true, none, (.i (.mv (.t 0)))⟩, ⟨(some 10), true, none, (.i (.len (.t 9)))⟩, ⟨(some 11), true, none, (.i (.mv (.c (.int .i64 0))))⟩]) (.block 0 (.loop (.seq (.ops [⟨(some 12), true, none, (.i (.bin .lss (.t 11) (.t 10)))⟩]) (.seq (.cond (.t 12) .skip (.exit 0)) (.seq (.block 1 (.seq (.ops [⟨(some 13), false, none, (.i (.idxS 1 (.t 9) (.t 11)))⟩, ⟨(some 14), false, none, (.i (.ld1 (.t 13)))⟩, ⟨(some 5), true, none, (.i (.mv (.t 14)))⟩]) (.seq (.ops [⟨(some 15), false, none, (.i (.mv (.t 3)))⟩, ⟨(some 16), false, none, (.i (.mv (.t 5)))⟩, ⟨(some 17), false, none, (.i (.len (.t 16)))⟩, ⟨(some 18), false, none, (.i (.bin .add (.t 15) (.t 17)))⟩, ⟨(some 3), true, none, (.i (.mv (.t 18)))⟩]) (.seq (.ops [⟨(some 19), false, none, (.i (.mv (.t 3)))⟩, ⟨(some 20), true, none, (.i (.bin .lss (.t 19) (.c (.int .i64 0))))⟩]) (.cond (.t 20) (.ops [⟨(some 21), false, none, (.i (.iface 9 (.c (.str [108, 101, 110, 32, 111, 117, 116, 32, 111, 102, 32, 114, 97, 110, 103, 101]))))⟩, ⟨none, false, none, (.i (.pan (.t 21)))⟩]) .skip))))) (.ops [⟨(some 22), false, none, (.i (.bin .add (.t 11) (.c (.int .i64 1))))⟩, ⟨(some 11), true, none, (.i (.mv (.t 22)))⟩]))))))) (.seq (.ops [⟨(some 23), false, none, (.i (.mv (.t 3)))⟩, ⟨(some 24), false, none, (.call (.c (.fn 64 [])) [(.c .nils), (.t 23)])⟩, ⟨(some 6), true, none, (.i (.mv (.t 24)))⟩]) (.seq (.seq (.ops [⟨(some 25), true, none, (.i (.mv (.t 0)))⟩, ⟨(some 26), true, none, (.i (.len (.t 25)))⟩, ⟨(some 27), true, none, (.i (.mv (.c (.int .i64 0))))⟩]) (.block 2 (.loop (.seq (.ops [⟨(some 28), true, none, (.i (.bin .lss (.t 27) (.t 26)))⟩]) (.seq (.cond (.t 28) .skip (.exit 2)) (.seq (.block 3 (.seq (.ops [⟨(some 29), false, none, (.i (.idxS 1 (.t 25) (.t 27)))⟩, ⟨(some 30), false, none, (.i (.ld1 (.t 29)))⟩, ⟨(some 8), true, none, (.i (.mv (.t 30)))⟩]) (.ops [⟨(some 31), false, none, (.i (.mv (.t 6)))⟩, ⟨(some 32), false, none, (.i (.mv (.t 8)))⟩, ⟨(some 33), false, none, (.i (.app 1 4 (.t 31) (.t 32)))⟩, ⟨(some 6), true, none, (.i (.mv (.t 33)))⟩]))) (.ops [⟨(some 34), false, none, (.i (.bin .add (.t 27) (.c (.int .i64 1))))⟩, ⟨(some 27), true, none, (.i (.mv (.t 34)))⟩]))))))) (.seq (.ops [⟨(some 35), false, none, (.i (.mv (.t 6)))⟩, ⟨(some 2), true, none, (.i (.mv (.t 35)))⟩]) .ret))))))
def c56 : FD := ⟨[0], b56, [(.t 2)]⟩
theorem l56 : lowF Try.prog 56 = some c56 := by kernel_rfl
def b64 : Cmd := (.seq (.ops [⟨(some 4), true, none, (.i (.mv (.c .nils)))⟩]) (.seq (.seq (.ops [⟨(some 5), false, none, (.i (.mv (.t 1)))⟩, ⟨(some 6), true, none, (.i (.bin .lss (.t 5) (.c (.int .i64 0))))⟩]) (.cond (.t 6) (.ops [⟨(some 7), false, none, (.i (.iface 9 (.c (.str [99, 97, 110, 110, 111, 116, 32, 98, 101, 32, 110, 101, 103, 97, 116, 105, 118, 101]))))⟩, ⟨none, false, none, (.i (.pan (.t 7)))⟩]) .skip)) (.seq (.seq (.ops [⟨(some 8), false, none, (.i (.mv (.t 1)))⟩, ⟨(some 9), false, none, (.i (.mv (.t 0)))⟩, ⟨(some 10), false, none, (.i (.bi .cap #[36] [(.t 9)]))⟩, ⟨(some 11), false, none, (.i (.mv (.t 0)))⟩, ⟨(some 12), false, none, (.i (.len (.t 11)))⟩, ⟨(some 13), false, none, (.i (.bin .sub (.t 10) (.t 12)))⟩, ⟨(some 14), false, none, (.i (.bin .sub (.t 8) (.t 13)))⟩, ⟨(some 1), true, none, (.i (.mv (.t 14)))⟩]) (.seq (.ops [⟨(some 15), false, none, (.i (.mv (.t 1)))⟩, ⟨(some 16), true, none, (.i (.bin .gtr (.t 15) (.c (.int .i64 0))))⟩]) (.cond (.t 16) (.ops [⟨(some 17), false, none, (.i (.mv (.t 0)))⟩, ⟨(some 18), false, none, (.i (.mv (.t 0)))⟩, ⟨(some 19), false, none, (.i (.bi .cap #[36] [(.t 18)]))⟩, ⟨(some 20), false, none, (.i (.slS 1 (.t 17) none (some (.t 19))))⟩, ⟨(some 21), false, none, (.i (.mv (.t 1)))⟩, ⟨(some 22), false, none, (.i (.bi .append #[36, 3] [(.t 20), (.t 21)]))⟩, ⟨(some 23), false, none, (.i (.mv (.t 0)))⟩, ⟨(some 24), false, none, (.i (.len (.t 23)))⟩, ⟨(some 25), false, none, (.i (.slS 1 (.t 22) none (some (.t 24))))⟩, ⟨(some 0), true, none, (.i (.mv (.t 25)))⟩]) .skip))) (.seq (.ops [⟨(some 26), false, none, (.i (.mv (.t 0)))⟩, ⟨(some 4), true, none, (.i (.mv (.t 26)))⟩]) .ret))))
def c64 : FD := ⟨[0, 1], b64, [(.t 4)]⟩
theorem l64 : lowF Try.prog 64 = some c64 := by kernel_rfl
def b43 : Cmd := (.seq (.ops [⟨(some 4), true, none, (.i (.mv (.c (.int .i64 0))))⟩]) (.seq (.seq (.ops [⟨(some 7), false, none, (.i (.mv (.t 1)))⟩, ⟨(some 8), true, none, (.call (.c (.fn 56 [])) [(.t 7)])⟩, ⟨(some 9), true, none, (.i (.len (.t 8)))⟩, ⟨(some 10), true, none, (.i (.mv (.c (.int .i64 0))))⟩]) (.block 0 (.loop (.seq (.ops [⟨(some 11), true, none, (.i (.bin .lss (.t 10) (.t 9)))⟩]) (.seq (.cond (.t 11) .skip (.exit 0)) (.seq (.block 1 (.seq (.ops [⟨(some 12), false, none, (.i (.idxS 1 (.t 8) (.t 10)))⟩, ⟨(some 13), false, none, (.i (.ld1 (.t 12)))⟩, ⟨(some 6), true, none, (.i (.mv (.t 13)))⟩]) (.seq (.ops [⟨(some 14), false, none, (.i (.mv (.t 6)))⟩, ⟨(some 15), false, none, (.i (.bin .quo (.t 14) (.c (.int .u32 2))))⟩, ⟨(some 16), false, none, (.i (.cvt .i64 (.t 15)))⟩, ⟨(some 17), false, none, (.i (.mv (.t 0)))⟩, ⟨(some 18), false, none, (.call (.c (.fn 28 [])) [(.t 17)])⟩, ⟨(some 19), true, none, (.i (.bin .geq (.t 16) (.t 18)))⟩]) (.cond (.t 19) (.seq (.ops [⟨(some 4), true, none, (.i (.mv (.c (.int .i64 101))))⟩]) .ret) .skip)))) (.ops [⟨(some 20), false, none, (.i (.bin .add (.t 10) (.c (.int .i64 1))))⟩, ⟨(some 10), true, none, (.i (.mv (.t 20)))⟩]))))))) (.seq (.ops [⟨(some 4), true, none, (.i (.mv (.c (.int .i64 0))))⟩]) .ret)))
def c43 : FD := ⟨[0, 1], b43, [(.t 4)]⟩
theorem l43 : lowF Try.prog 43 = some c43 := by kernel_rfl
end Go.Sy
end

section
set_option maxRecDepth 100000
namespace Go.Sy
open Go.Ev Go.Proofs
variable {base : CallF}

def encP (p : Nat × Nat) : AV := .agg [.int .u32 (p.1 : Int), .int .u32 (p.2 : Int)]
def encK (x : (Nat × Nat) × Nat) : AV × AV := (encP x.1, .int .u32 (x.2 : Int))
/-- a graph in memory -/
structure GM (h : T AO) (nx g p q m : Nat) (ex : Bool) (G : Gr) : Prop where
  g_lt : g < nx
  p_lt : p < nx
  m_lt : m < nx
  q_lt : G.inputs ≠ [] → q < nx
  gp : g ≠ p
  gm : g ≠ m
  pm : p ≠ m
  qs : G.inputs ≠ [] → q ≠ g ∧ q ≠ p ∧ q ≠ m
  glen : rlen h g = 3
  g0 : rat h g 0 = .slice p 0 G.parts.length G.parts.length 2 ex
  g1 : rat h g 1 = if G.inputs = [] then .nils else .slice q 0 G.inputs.length G.inputs.length 1 false
  g2 : rat h g 2 = .map m
  plen : 2 * G.parts.length = rlen h p
  ppos : 0 < G.parts.length
  pat : ∀ i, i < G.parts.length → rat h p (2 * i) = .int .u32 ((G.parts.getD i (0, 0)).1 : Int) ∧ rat h p (2 * i + 1) = .int .u32 ((G.parts.getD i (0, 0)).2 : Int)
  qlen : G.inputs ≠ [] → G.inputs.length = rlen h q
  qat : ∀ i, i < G.inputs.length → rat h q i = .int .u32 (G.inputs.getD i 0 : Int)
  mm : hget h m = some (.map (G.kn.map encK))
def Own (g p q m : Nat) (G : Gr) (c : Nat) : Prop := c = g ∨ c = p ∨ c = m ∨ (G.inputs ≠ [] ∧ c = q)
/-- what is not the graph's stays -/
structure Step (own own' : Nat → Prop) (st st' : St) : Prop where
  nx : st.nx ≤ st'.nx
  fr : st'.fr = st.fr
  keep : ∀ c, c < st.nx → ¬ own c → hget st'.h c = hget st.h c
  own : ∀ c, own' c → own c ∨ st.nx ≤ c
theorem Step.trans {o1 o2 o3 : Nat → Prop} {a b c : St} (h : Step o1 o2 a b) (k : Step o2 o3 b c) : Step o1 o3 a c :=
  ⟨Nat.le_trans h.nx k.nx, k.fr.trans h.fr, fun x hx ho => (k.keep x (Nat.lt_of_lt_of_le hx h.nx) fun h2 => (h.own x h2).elim ho fun h3 => by omega).trans (h.keep x hx ho),
    fun x hx => (k.own x hx).elim (fun h2 => h.own x h2) fun h2 => .inr (Nat.le_trans h.nx h2)⟩
theorem GM.keep {h h' : T AO} {nx nx' g p q m : Nat} {ex : Bool} {G : Gr} (k : GM h nx g p q m ex G) (hk : ∀ c, c < nx → hget h' c = hget h c) (hn : nx ≤ nx') : GM h' nx' g p q m ex G where
  g_lt := Nat.lt_of_lt_of_le k.g_lt hn
  p_lt := Nat.lt_of_lt_of_le k.p_lt hn
  m_lt := Nat.lt_of_lt_of_le k.m_lt hn
  q_lt := fun h => Nat.lt_of_lt_of_le (k.q_lt h) hn
  gp := k.gp
  gm := k.gm
  pm := k.pm
  qs := k.qs
  glen := (rlen_same (hk g k.g_lt)).trans k.glen
  g0 := (rat_same (hk g k.g_lt) 0).trans k.g0
  g1 := (rat_same (hk g k.g_lt) 1).trans k.g1
  g2 := (rat_same (hk g k.g_lt) 2).trans k.g2
  plen := k.plen.trans (rlen_same (hk p k.p_lt)).symm
  ppos := k.ppos
  pat := fun i hi => ⟨(rat_same (hk p k.p_lt) _).trans (k.pat i hi).1, (rat_same (hk p k.p_lt) _).trans (k.pat i hi).2⟩
  qlen := fun h => (k.qlen h).trans (rlen_same (hk q (k.q_lt h))).symm
  qat := fun i hi => (rat_same (hk q (k.q_lt (by intro e; rw [e] at hi; simp at hi))) _).trans (k.qat i hi)
  mm := (hk m k.m_lt).trans k.mm

theorem more_ok (hb : ∀ args st, base 44 args st = .no) {g p q m a b : Nat} {ex : Bool} {G : Gr} (st : St) (hG : GM st.h st.nx g p q m ex G) (hN : G.parts.length < 1048576) (K : AV → St → Prop)
    (hK : ∀ p' st', st'.fr = [] → Step (Own g p q m G) (Own g p' q m { G with parts := G.parts ++ [(a, b)] }) st.bare st' → GM st'.h st'.nx g p' q m false { G with parts := G.parts ++ [(a, b)] } → K (.tup [.int .u32 ((2 * G.parts.length : Nat) : Int), .int .i64 0]) st') :
    CW Try.prog base 44 [.ptr g 0, .agg [.int .u32 (a : Int), .int .u32 (b : Int)]] st K := by
  refine fn_rule l44 (hb _ _) ?_
  simp only [c44, entry, List.map_cons, List.map_nil, List.getD_cons_zero, List.getD_cons_succ]
  unfold b44
  simp (disch := first | assumption | decide | omega) only [qz00, qz01, qz02, qz03, qz04, qz05, qz06, qz07, qz08, qz09, qz0a, qz0b, qz0c, qz0d, qz0e, qz0f, qz0g, qz0h, qz0i, qz0j, qz0k, qz0l, qz0m, qz0n, qz0o, qz0p, qz0q, qz0r, qz0s, qz0t, qz0u, qz0v, qz0w, qz0x, qz0y, qz0z, qz10, qz11, qz12, qz13, qz14, qz15, qz16, qz17, qz18, qz19, qz1a, qz1b, qz1c, qz1d, qz1e, qz1f, qz1g, qz1h, qz1i, qz1j, qz1k, qz1l, qz1m, qz1n, qz1o, qz1p, qz1q, qz1r, qz1s, qz1t, qz1u, qz1v, qz1w, qz1x, qz1y, qz1z, qz20, qz21, qz22, qz23, qz24, qz25, qz26, qz27, qz28, qz29, qz2a, qz2b, qz2c, qz2d, qz2e, qz2f, qz2g, qz2h, qz2i, qz2j, qz2k, qz2l, qz2m, qz2n, qz2o, qz2p, qz2q, qz2r, qz2s, qz2t, qz2u, qz2v, qz2w, qz2x, qz2y, qz2z, qz30, qz31, qz32, qz33, qz34, qz35, qz36, qz37, qz38, qz39, qz3a, qz3b, qz3c, qz3d, Bool.not_true, Bool.not_false, List.cons_append, List.nil_append, List.append_nil]
  refine o_box rfl fun s1 h1 => ?_
  have k1 : Kept st.bare s1 := (Kept.refl _).made h1
  have n1 : s1.nx = st.nx + 1 := h1.nx
  have l1 : rlen s1.h st.nx = 2 := h1.len
  have b0 : rat s1.h st.nx 0 = .int .u32 (a : Int) := h1.cell 0 (by show 0 < 2; decide)
  have b1 : rat s1.h st.nx 1 = .int .u32 (b : Int) := h1.cell 1 (by show 1 < 2; decide)
  have G1 : GM s1.h s1.nx g p q m ex G := hG.keep k1.keep k1.nx
  have e1 : 0 < rlen s1.h g := by rw [G1.glen]; decide
  have e2 := G1.g0
  have e3 : (G.parts.length : Int) < 1048576 := by omega
  have ed : onER (ldAV 2 (.ptr st.bare.nx 0) s1) = fun K => K (.agg [.int .u32 (a : Int), .int .u32 (b : Int)]) s1 := by
    funext K
    show onER (ldAV 2 (.ptr st.nx 0) s1) K = _
    rw [v_ldA2 (by rw [l1]; decide), b0, b1]
  simp (disch := first | assumption | decide | omega) only [e2, ed, Nat.add_zero, qz00, qz01, qz02, qz03, qz04, qz05, qz06, qz07, qz08, qz09, qz0a, qz0b, qz0c, qz0d, qz0e, qz0f, qz0g, qz0h, qz0i, qz0j, qz0k, qz0l, qz0m, qz0n, qz0o, qz0p, qz0q, qz0r, qz0s, qz0t, qz0u, qz0v, qz0w, qz0x, qz0y, qz0z, qz10, qz11, qz12, qz13, qz14, qz15, qz16, qz17, qz18, qz19, qz1a, qz1b, qz1c, qz1d, qz1e, qz1f, qz1g, qz1h, qz1i, qz1j, qz1k, qz1l, qz1m, qz1n, qz1o, qz1p, qz1q, qz1r, qz1s, qz1t, qz1u, qz1v, qz1w, qz1x, qz1y, qz1z, qz20, qz21, qz22, qz23, qz24, qz25, qz26, qz27, qz28, qz29, qz2a, qz2b, qz2c, qz2d, qz2e, qz2f, qz2g, qz2h, qz2i, qz2j, qz2k, qz2l, qz2m, qz2n, qz2o, qz2p, qz2q, qz2r, qz2s, qz2t, qz2u, qz2v, qz2w, qz2x, qz2y, qz2z, qz30, qz31, qz32, qz33, qz34, qz35, qz36, qz37, qz38, qz39, qz3a, qz3b, qz3c, qz3d, Bool.not_true, Bool.not_false, List.cons_append, List.nil_append, List.append_nil]
  refine o_buildS12 rfl rfl rfl fun s2 h2 => ?_
  have n2 : s2.nx = s1.nx + 1 := h2.nx
  simp (disch := first | assumption | decide | omega) only [qz00, qz01, qz02, qz03, qz04, qz05, qz06, qz07, qz08, qz09, qz0a, qz0b, qz0c, qz0d, qz0e, qz0f, qz0g, qz0h, qz0i, qz0j, qz0k, qz0l, qz0m, qz0n, qz0o, qz0p, qz0q, qz0r, qz0s, qz0t, qz0u, qz0v, qz0w, qz0x, qz0y, qz0z, qz10, qz11, qz12, qz13, qz14, qz15, qz16, qz17, qz18, qz19, qz1a, qz1b, qz1c, qz1d, qz1e, qz1f, qz1g, qz1h, qz1i, qz1j, qz1k, qz1l, qz1m, qz1n, qz1o, qz1p, qz1q, qz1r, qz1s, qz1t, qz1u, qz1v, qz1w, qz1x, qz1y, qz1z, qz20, qz21, qz22, qz23, qz24, qz25, qz26, qz27, qz28, qz29, qz2a, qz2b, qz2c, qz2d, qz2e, qz2f, qz2g, qz2h, qz2i, qz2j, qz2k, qz2l, qz2m, qz2n, qz2o, qz2p, qz2q, qz2r, qz2s, qz2t, qz2u, qz2v, qz2w, qz2x, qz2y, qz2z, qz30, qz31, qz32, qz33, qz34, qz35, qz36, qz37, qz38, qz39, qz3a, qz3b, qz3c, qz3d, Bool.not_true, Bool.not_false, List.cons_append, List.nil_append, List.append_nil]
  have kp : hget s2.h p = hget s1.h p := h2.keep p (by have := G1.p_lt; omega)
  have hp0 := G1.ppos
  refine o_app22 (by rw [rlen_same kp]; exact G1.plen) hp0 (by have := G1.p_lt; omega) (by omega) (by omega) h2.len (h2.cell 0 (by decide)) (h2.cell 1 (by decide)) fun s3 h3 => ?_
  have n3 : s3.nx = s2.nx + 1 := h3.nx
  have pl := G1.p_lt
  have gl := G1.g_lt
  have ml := G1.m_lt
  have kg : hget s3.h g = hget s1.h g := (h3.keep g (by omega) (by have := G1.gp; omega)).trans (h2.keep g (by omega))
  simp (disch := first | assumption | decide | omega) only [Nat.add_zero, qz00, qz01, qz02, qz03, qz04, qz05, qz06, qz07, qz08, qz09, qz0a, qz0b, qz0c, qz0d, qz0e, qz0f, qz0g, qz0h, qz0i, qz0j, qz0k, qz0l, qz0m, qz0n, qz0o, qz0p, qz0q, qz0r, qz0s, qz0t, qz0u, qz0v, qz0w, qz0x, qz0y, qz0z, qz10, qz11, qz12, qz13, qz14, qz15, qz16, qz17, qz18, qz19, qz1a, qz1b, qz1c, qz1d, qz1e, qz1f, qz1g, qz1h, qz1i, qz1j, qz1k, qz1l, qz1m, qz1n, qz1o, qz1p, qz1q, qz1r, qz1s, qz1t, qz1u, qz1v, qz1w, qz1x, qz1y, qz1z, qz20, qz21, qz22, qz23, qz24, qz25, qz26, qz27, qz28, qz29, qz2a, qz2b, qz2c, qz2d, qz2e, qz2f, qz2g, qz2h, qz2i, qz2j, qz2k, qz2l, qz2m, qz2n, qz2o, qz2p, qz2q, qz2r, qz2s, qz2t, qz2u, qz2v, qz2w, qz2x, qz2y, qz2z, qz30, qz31, qz32, qz33, qz34, qz35, qz36, qz37, qz38, qz39, qz3a, qz3b, qz3c, qz3d, Bool.not_true, Bool.not_false, List.cons_append, List.nil_append, List.append_nil]
  refine o_st1 (by rw [rlen_same kg]; exact e1) ⟨rfl, rfl, rfl⟩ fun s4 h4 => ?_
  have n4 : s4.nx = s3.nx := h4.nx
  have lg4 : rlen s4.h g = 3 := h4.len.trans ((rlen_same kg).trans G1.glen)
  have e4 : 0 < rlen s4.h g := by omega
  have e5 : rat s4.h g 0 = .slice s2.nx 0 (G.parts.length + 1) (G.parts.length + 1) 2 false := by rw [h4.cell, if_pos rfl]
  have e6 : 2 * (G.parts.length + 1) ≤ 9223372036854775807 := by omega
  have e7 : 2 ≤ 2 * (G.parts.length + 1) := by omega
  have e8 : 2 * (G.parts.length + 1) - 2 = 2 * G.parts.length := by omega
  have e9 : 2 * G.parts.length ≤ 4294967295 := by omega
  simp (disch := first | assumption | decide | omega) only [e5, e8, Nat.add_zero, qz00, qz01, qz02, qz03, qz04, qz05, qz06, qz07, qz08, qz09, qz0a, qz0b, qz0c, qz0d, qz0e, qz0f, qz0g, qz0h, qz0i, qz0j, qz0k, qz0l, qz0m, qz0n, qz0o, qz0p, qz0q, qz0r, qz0s, qz0t, qz0u, qz0v, qz0w, qz0x, qz0y, qz0z, qz10, qz11, qz12, qz13, qz14, qz15, qz16, qz17, qz18, qz19, qz1a, qz1b, qz1c, qz1d, qz1e, qz1f, qz1g, qz1h, qz1i, qz1j, qz1k, qz1l, qz1m, qz1n, qz1o, qz1p, qz1q, qz1r, qz1s, qz1t, qz1u, qz1v, qz1w, qz1x, qz1y, qz1z, qz20, qz21, qz22, qz23, qz24, qz25, qz26, qz27, qz28, qz29, qz2a, qz2b, qz2c, qz2d, qz2e, qz2f, qz2g, qz2h, qz2i, qz2j, qz2k, qz2l, qz2m, qz2n, qz2o, qz2p, qz2q, qz2r, qz2s, qz2t, qz2u, qz2v, qz2w, qz2x, qz2y, qz2z, qz30, qz31, qz32, qz33, qz34, qz35, qz36, qz37, qz38, qz39, qz3a, qz3b, qz3c, qz3d, Bool.not_true, Bool.not_false, List.cons_append, List.nil_append, List.append_nil]
  have kk : ∀ c, c < s1.nx → c ≠ g → c ≠ p → hget s4.h c = hget s1.h c := fun c h1 h2' h3' => (h4.keep c h2').trans ((h3.keep c (by omega) h3').trans (h2.keep c (by omega)))
  have kp4 : hget s4.h s2.nx = hget s3.h s2.nx := h4.keep _ (by omega)
  refine hK s2.nx s4.bare rfl ⟨by show st.nx ≤ s4.nx; omega, rfl, fun c hc ho => ?_, fun c hc => ?_⟩ ?_
  · have hc' : c < st.nx := hc
    unfold Own at ho
    exact (kk c (by omega) (by intro e; exact ho (.inl e)) (by intro e; exact ho (.inr (.inl e)))).trans (k1.keep c hc)
  · unfold Own at hc ⊢
    rcases hc with h | h | h | h
    · exact .inl (.inl h)
    · right; show st.nx ≤ c; omega
    · exact .inl (.inr (.inr (.inl h)))
    · exact .inl (.inr (.inr (.inr h)))
  · have km : hget s4.h m = hget s1.h m := kk m ml (fun e => G1.gm e.symm) (fun e => G1.pm e.symm)
    have kq : G.inputs ≠ [] → hget s4.h q = hget s1.h q := fun h => kk q (G1.q_lt h) (G1.qs h).1 (G1.qs h).2.1
    refine ⟨by show g < s4.nx; omega, by show s2.nx < s4.nx; omega, by show m < s4.nx; omega, fun h => by show q < s4.nx; have := G1.q_lt h; omega, by omega, G1.gm, by omega, fun h => ⟨(G1.qs h).1, by have := G1.q_lt h; omega, (G1.qs h).2.2⟩, lg4, ?_, ?_, ?_, ?_, ?_, fun i hi => ?_, fun h => (G1.qlen h).trans (rlen_same (kq h)).symm, fun i hi => (rat_same (kq (by intro e; simp [e] at hi)) i).trans (G1.qat i hi), km.trans G1.mm⟩
    · simp only [List.length_append, List.length_cons, List.length_nil]; exact e5
    · have := h4.cell 1
      rw [if_neg (by decide)] at this
      exact this.trans ((rat_same kg 1).trans G1.g1)
    · have := h4.cell 2
      rw [if_neg (by decide)] at this
      exact this.trans ((rat_same kg 2).trans G1.g2)
    · simp only [List.length_append, List.length_cons, List.length_nil]
      exact ((rlen_same kp4).trans h3.len).symm
    · simp
    · simp only [List.length_append, List.length_cons, List.length_nil] at hi
      have r1 := (rat_same kp4 (2 * i)).trans (h3.cell (2 * i) (by omega))
      have r2 := (rat_same kp4 (2 * i + 1)).trans (h3.cell (2 * i + 1) (by omega))
      by_cases hlt : i < G.parts.length
      · rw [if_neg (by omega), if_neg (by omega), rat_same kp] at r1 r2
        have e : (G.parts ++ [(a, b)]).getD i (0, 0) = G.parts.getD i (0, 0) := by
          rw [List.getD_eq_getElem?_getD, List.getD_eq_getElem?_getD, List.getElem?_append_left hlt]
        show rat s4.h s2.nx (2 * i) = .int .u32 (((G.parts ++ [(a, b)]).getD i (0, 0)).1 : Int) ∧ rat s4.h s2.nx (2 * i + 1) = .int .u32 (((G.parts ++ [(a, b)]).getD i (0, 0)).2 : Int)
        rw [e]
        exact ⟨r1.trans (G1.pat i hlt).1, r2.trans (G1.pat i hlt).2⟩
      · have hi' : i = G.parts.length := by omega
        subst hi'
        rw [if_pos rfl] at r1
        rw [if_neg (by omega), if_pos rfl] at r2
        have e : (G.parts ++ [(a, b)]).getD G.parts.length (0, 0) = (a, b) := by
          rw [List.getD_eq_getElem?_getD, List.getElem?_append_right (Nat.le_refl _)]; simp
        show rat s4.h s2.nx (2 * G.parts.length) = .int .u32 (((G.parts ++ [(a, b)]).getD G.parts.length (0, 0)).1 : Int) ∧ rat s4.h s2.nx (2 * G.parts.length + 1) = .int .u32 (((G.parts ++ [(a, b)]).getD G.parts.length (0, 0)).2 : Int)
        rw [e]
        exact ⟨r1, r2⟩
end Go.Sy
end

section
set_option maxRecDepth 100000
namespace Go.Sy
open Go.Ev Go.Proofs
section
variable {P : Program} {base : CallF} {st : St} {K : AV → St → Prop} {e : En}
noncomputable def biV (P : Program) (b : Builtin) (ts : Array TypeId) (v u : AV) (st : St) : ER := (builtinF P b ts [O v, O u]).run E0 st
theorem qz3e (b : Builtin) (ts : Array TypeId) (x y : A) : wK P base (.i (.bi b ts [x, y])) e st K = on1 e x fun v => on1 e y fun u => onER (biV P b ts v u st) K := k_2 rfl (fun _ => rfl) K
noncomputable def lookV (P : Program) (t : TypeId) (m k : AV) (ok : Bool) (st : St) : ER := (lookupF P t (O m) (O k) ok).run E0 st
theorem qz3f (t : TypeId) (m k : A) (ok : Bool) : wK P base (.i (.look t m k ok)) e st K = on1 e m fun v => on1 e k fun u => onER (lookV P t v u ok st) K := k_2 (V := fun v u st => lookV P t v u ok st) rfl (fun _ => rfl) K
noncomputable def updV (P : Program) (t : TypeId) (m k v : AV) (st : St) : ER := (mapUpdateF P t (O m) (O k) (O v)).run E0 st
theorem qz3g (t : TypeId) (m k x : A) : wK P base (.i (.upd t m k x)) e st K = on1 e m fun v => on1 e k fun u => on1 e x fun w => onER (updV P t v u w st) K := k_3 rfl (fun _ => rfl) K
theorem eqI_nat (a b : Nat) : eqI (a : Int) (b : Int) = decide (a = b) := by
  show Nat.beq a b = _
  by_cases h : a = b
  · rw [beq_t h, decide_eq_true h]
  · rw [beq_f h, decide_eq_false h]
theorem qz3j {a : Nat} (h : a ≤ 4294967295) : onER (binV .xor (.int .u32 (a : Int)) (.int .u32 1) st) K = K (.int .u32 ((a ^^^ 1 : Nat) : Int)) st := by
  refine b_val ?_
  have e1 : Nat.ble a (maxN .u32) = true := ble_t h
  have e2 : Nat.ble 1 (maxN .u32) = true := by decide
  show (cond (Nat.ble a (maxN .u32)) (cond (Nat.ble 1 (maxN .u32)) (some (Int.ofNat (Nat.xor a 1))) (bitI .xor .u32 (Int.ofNat a) 1)) (bitI .xor .u32 (Int.ofNat a) 1)).map (AV.int .u32) = _
  rw [e1, e2]
  rfl
end

theorem eqP (p q : Nat × Nat) : (eqF Try.prog 20 81).run (encP p) (encP q) = some (decide (p = q)) := by
  have h : (eqF Try.prog 20 81).run (encP p) (encP q) = cond (eqI (p.1 : Int) (q.1 : Int)) (cond (eqI (p.2 : Int) (q.2 : Int)) (some true) (some false)) (some false) := by kernel_rfl
  rw [h, eqI_nat, eqI_nat]
  obtain ⟨a, b⟩ := p
  obtain ⟨c, d⟩ := q
  by_cases h1 : a = c <;> by_cases h2 : b = d <;> simp [h1, h2]
def findK (kn : List ((Nat × Nat) × Nat)) (p : Nat × Nat) : Option Nat := (kn.find? fun x => decide (p = x.1)).map (·.2)
theorem findA_kn (p : Nat × Nat) : ∀ kn : List ((Nat × Nat) × Nat), findA (eqF Try.prog 20 81) (encP p) (kn.map encK) = some ((findK kn p).map fun x => .int .u32 (x : Int))
  | [] => rfl
  | x :: kn => by
    have ih := findA_kn p kn
    have e : findA (eqF Try.prog 20 81) (encP p) ((x :: kn).map encK) = (match (eqF Try.prog 20 81).run (encP p) (encP x.1) with | some b => cond b (some (some (.int .u32 (x.2 : Int)))) (findA (eqF Try.prog 20 81) (encP p) (kn.map encK)) | none => none) := rfl
    rw [e, eqP, ih]
    unfold findK
    rw [List.find?_cons]
    by_cases h : p = x.1 <;> simp [h]
theorem updA_kn (p : Nat × Nat) (v : Nat) : ∀ kn : List ((Nat × Nat) × Nat), findK kn p = none → updA (eqF Try.prog 20 81) (encP p) (.int .u32 (v : Int)) (kn.map encK) = some ((kn ++ [(p, v)]).map encK)
  | [], _ => rfl
  | x :: kn, hf => by
    have hx : ¬ p = x.1 := by
      intro h
      unfold findK at hf
      rw [List.find?_cons] at hf
      simp [h] at hf
    have hf' : findK kn p = none := by
      unfold findK at hf ⊢
      rw [List.find?_cons] at hf
      simpa [hx] using hf
    have ih := updA_kn p v kn hf'
    have e : updA (eqF Try.prog 20 81) (encP p) (.int .u32 (v : Int)) ((x :: kn).map encK) = (match (eqF Try.prog 20 81).run (encP p) (encP x.1) with
      | some b => cond b (cond (eqKey (encP p) (encP x.1)) (some (List.cons (encP p, .int .u32 (v : Int)) (kn.map encK))) none) (match updA (eqF Try.prog 20 81) (encP p) (.int .u32 (v : Int)) (kn.map encK) with | some l => some (List.cons (encK x) l) | none => none)
      | none => none) := rfl
    rw [e, eqP, ih, decide_eq_false hx]
    rfl
theorem under67 : Try.prog.underlying 67 = some (.map 81 44) := by kernel_rfl
theorem zero44 : zeroA Try.prog 44 = some (.int .u32 0) := by kernel_rfl
theorem key81 (p : Nat × Nat) : (keyF Try.prog 81).run (encP p) = true := by kernel_rfl
theorem o_lookt {m : Nat} {kn : List ((Nat × Nat) × Nat)} {p : Nat × Nat} {x : Nat} {st : St} {K : AV → St → Prop} (hm : hget st.h m = some (.map (kn.map encK))) (hx : findK kn p = some x) : onER (lookV Try.prog 67 (.map m) (encP p) true st) K = K (.tup [.int .u32 (x : Int), .bool true]) st := by
  unfold lookV lookupF
  simp only [under67, zero44, O, key81, cond_true, hm, onMap, findA_kn, hx, Option.map_some, onSome, onER]
theorem o_lookf {m : Nat} {kn : List ((Nat × Nat) × Nat)} {p : Nat × Nat} {st : St} {K : AV → St → Prop} (hm : hget st.h m = some (.map (kn.map encK))) (hx : findK kn p = none) : onER (lookV Try.prog 67 (.map m) (encP p) true st) K = K (.tup [.int .u32 0, .bool false]) st := by
  unfold lookV lookupF
  simp only [under67, zero44, O, key81, cond_true, hm, onMap, findA_kn, hx, Option.map_none, onSome, onER]
theorem o_upd {m v : Nat} {kn : List ((Nat × Nat) × Nat)} {p : Nat × Nat} {st : St} {K : AV → St → Prop} (hm : hget st.h m = some (.map (kn.map encK))) (hx : findK kn p = none)
    (hk : ∀ st', st'.nx = st.nx → st'.fr = st.fr → (∀ c, c ≠ m → hget st'.h c = hget st.h c) → hget st'.h m = some (.map ((kn ++ [(p, v)]).map encK)) → K undefA st') : onER (updV Try.prog 67 (.map m) (encP p) (.int .u32 (v : Int)) st) K := by
  unfold updV mapUpdateF
  simp only [under67, O, key81, cond_true, hm, onMap, updA_kn p v kn hx, onSome, St.put_eq, onER]
  refine hk _ rfl rfl (fun c hc => ?_) ?_
  · show hget ((setF (bitsR m)).run _ st.h) c = _
    rw [hget_set, if_neg hc]
  · rw [hget_set, if_pos rfl]
theorem qz3h (a b : Nat) (st : St) (K : AV → St → Prop) : onER (biV Try.prog .min #[44, 44] (.int .u32 (a : Int)) (.int .u32 (b : Int)) st) K = K (.int .u32 ((min a b : Nat) : Int)) st := by
  have h : biV Try.prog .min #[44, 44] (.int .u32 (a : Int)) (.int .u32 (b : Int)) st = onSome (min2 (.int .u32 (a : Int)) (.int .u32 (b : Int))) fun v => .ok v st := by kernel_rfl
  rw [h]
  have e : min2 (.int .u32 (a : Int)) (.int .u32 (b : Int)) = some (.int .u32 ((min a b : Nat) : Int)) := by
    show cond (eqK .u32 .u32) (some (AV.int .u32 (cond (Nat.ble (Nat.succ b) a) (b : Int) (a : Int)))) none = _
    rw [eqK_self, cond_true]
    by_cases hb : b < a
    · rw [ble_t hb, Nat.min_eq_right (by omega)]; rfl
    · rw [ble_f (by omega), Nat.min_eq_left (by omega)]; rfl
  rw [e]; rfl
theorem qz3i (a b : Nat) (st : St) (K : AV → St → Prop) : onER (biV Try.prog .max #[44, 44] (.int .u32 (a : Int)) (.int .u32 (b : Int)) st) K = K (.int .u32 ((max a b : Nat) : Int)) st := by
  have h : biV Try.prog .max #[44, 44] (.int .u32 (a : Int)) (.int .u32 (b : Int)) st = onSome (max2 (.int .u32 (a : Int)) (.int .u32 (b : Int))) fun v => .ok v st := by kernel_rfl
  rw [h]
  have e : max2 (.int .u32 (a : Int)) (.int .u32 (b : Int)) = some (.int .u32 ((max a b : Nat) : Int)) := by
    show cond (eqK .u32 .u32) (some (AV.int .u32 (cond (Nat.ble (Nat.succ a) b) (b : Int) (a : Int)))) none = _
    rw [eqK_self, cond_true]
    by_cases hb : a < b
    · rw [ble_t hb, Nat.max_eq_right (by omega)]; rfl
    · rw [ble_f (by omega), Nat.max_eq_left (by omega)]; rfl
  rw [e]; rfl
end Go.Sy
end

section
set_option maxRecDepth 100000
namespace Go.Sy
open Go.Ev Go.Proofs
variable {base : CallF}

theorem OK_push {G : Gr} (h : G.OK) (hl : G.parts.length < 1048576) {p : Nat × Nat} (hp : p ≠ (0, 0) → p.1 / 2 < G.parts.length ∧ p.2 / 2 < G.parts.length) : Gr.OK { G with parts := G.parts ++ [p] } where
  first := by
    obtain ⟨l, e⟩ := h.first
    exact ⟨l ++ [p], by show G.parts ++ [p] = _; rw [e]; rfl⟩
  most := by simp; omega
  down := fun i hi hne => by
    simp only [List.length_append, List.length_cons, List.length_nil] at hi
    by_cases hlt : i < G.parts.length
    · have e : (G.parts ++ [p]).getD i (0, 0) = G.parts.getD i (0, 0) := by
        rw [List.getD_eq_getElem?_getD, List.getD_eq_getElem?_getD, List.getElem?_append_left hlt]
      simp only [e] at hne ⊢
      exact h.down i hlt hne
    · have hi' : i = G.parts.length := by omega
      subst hi'
      have e : (G.parts ++ [p]).getD G.parts.length (0, 0) = p := by
        rw [List.getD_eq_getElem?_getD, List.getElem?_append_right (Nat.le_refl _)]; simp
      simp only [e] at hne ⊢
      exact hp hne
  ins := fun a ha => by
    obtain ⟨h1, h2, h3, h4⟩ := h.ins a ha
    refine ⟨h1, h2, by simp; omega, ?_⟩
    show (G.parts ++ [p]).getD (a / 2) (0, 0) = _
    rw [List.getD_eq_getElem?_getD, List.getElem?_append_left h3, ← List.getD_eq_getElem?_getD]
    exact h4
  kn := fun x hx => by
    obtain ⟨h1, h2, h3, h4⟩ := h.kn x hx
    refine ⟨by simp; omega, by simp; omega, by simp; omega, fun inp => ?_⟩
    show ev inp (G.parts ++ [p]) x.2 = (ev inp (G.parts ++ [p]) x.1.1 && ev inp (G.parts ++ [p]) x.1.2)
    rw [ev_app inp _ _ h1, ev_app inp _ _ h2, ev_app inp _ _ h3]
    exact h4 inp
theorem OK_kn {G : Gr} (h : G.OK) {x : (Nat × Nat) × Nat} (hx : x.2 / 2 < G.parts.length ∧ x.1.1 / 2 < G.parts.length ∧ x.1.2 / 2 < G.parts.length ∧ ∀ inp, ev inp G.parts x.2 = (ev inp G.parts x.1.1 && ev inp G.parts x.1.2)) : Gr.OK { G with kn := G.kn ++ [x] } where
  first := h.first
  most := h.most
  down := h.down
  ins := h.ins
  kn := fun y hy => by
    rcases List.mem_append.1 hy with hy | hy
    · exact h.kn y hy
    · have : y = x := by simpa using hy
      subst this
      exact hx
theorem findK_mem {kn : List ((Nat × Nat) × Nat)} {p : Nat × Nat} {x : Nat} (h : findK kn p = some x) : (p, x) ∈ kn := by
  unfold findK at h
  rw [Option.map_eq_some_iff] at h
  obtain ⟨y, h1, h2⟩ := h
  have h3 := List.mem_of_find?_eq_some h1
  have h4 := List.find?_some h1
  simp at h4
  rw [h4, ← h2]
  exact h3

/-- what a function that makes gates leaves behind -/
structure Aft (g p q m : Nat) (G : Gr) (k : Nat) (st : St) (p' : Nat) (ex' : Bool) (G' : Gr) (st' : St) : Prop where
  fr : st'.fr = []
  step : Step (Own g p q m G) (Own g p' q m G') st.bare st'
  gm : GM st'.h st'.nx g p' q m ex' G'
  ok : G'.OK
  le : G.Le G'
  len : G'.parts.length ≤ G.parts.length + k
  inp : G'.inputs = G.inputs
  one : G.parts.length = 1 → G'.parts.length = 1
theorem Aft.same {g p q m : Nat} {ex : Bool} {G : Gr} {k : Nat} {st s : St} (hG : GM st.h st.nx g p q m ex G) (hok : G.OK) (h : Kept st.bare s) : Aft g p q m G k st p ex G s.bare :=
  ⟨rfl, ⟨h.nx, rfl, fun c hc _ => h.keep c hc, fun c hc => .inl hc⟩, hG.keep h.keep h.nx, hok, Gr.Le.refl G, Nat.le_add_right _ _, rfl, id⟩

theorem GM.upd {h h' : T AO} {nx g p q m : Nat} {ex : Bool} {G : Gr} {kn : List ((Nat × Nat) × Nat)} (k : GM h nx g p q m ex G) (hk : ∀ c, c ≠ m → hget h' c = hget h c) (hm : hget h' m = some (.map (kn.map encK))) : GM h' nx g p q m ex { G with kn := kn } where
  g_lt := k.g_lt
  p_lt := k.p_lt
  m_lt := k.m_lt
  q_lt := k.q_lt
  gp := k.gp
  gm := k.gm
  pm := k.pm
  qs := k.qs
  glen := (rlen_same (hk g k.gm)).trans k.glen
  g0 := (rat_same (hk g k.gm) 0).trans k.g0
  g1 := (rat_same (hk g k.gm) 1).trans k.g1
  g2 := (rat_same (hk g k.gm) 2).trans k.g2
  plen := k.plen.trans (rlen_same (hk p k.pm)).symm
  ppos := k.ppos
  pat := fun i hi => ⟨(rat_same (hk p k.pm) _).trans (k.pat i hi).1, (rat_same (hk p k.pm) _).trans (k.pat i hi).2⟩
  qlen := fun h => (k.qlen h).trans (rlen_same (hk q (k.qs h).2.2)).symm
  qat := fun i hi => (rat_same (hk q (k.qs (by intro e; rw [e] at hi; simp at hi)).2.2) _).trans (k.qat i hi)
  mm := hm

theorem v_build01 (x y a b : AV) (h1 : x.plain = true) (h2 : x.cells = [x]) (h3 : y.plain = true) (h4 : y.cells = [y]) (st : St) (K : AV → St → Prop) : onER (buildV [a, b] [((0, 1), x), ((1, 1), y)] st) K = K (.agg [x, y]) st := by
  have : fillP [a, b] [((0, 1), x), ((1, 1), y)] = some [x, y] := by
    simp only [fillP, h1, h2, h3, h4, cond_true]
    rfl
  simp only [buildV, this, onSome, onER]

theorem both_ok (hb : ∀ f args st, f = 44 ∨ f = 53 → base f args st = .no) {g p q m a b : Nat} {ex : Bool} {G : Gr} (st : St) (hG : GM st.h st.nx g p q m ex G) (hok : G.OK) (ha : G.has a) (hb' : G.has b) (hN : G.parts.length < 1048576) (K : AV → St → Prop)
    (hK : ∀ x p' ex' G' st', Aft g p q m G 1 st p' ex' G' st' → G'.has x → (∀ inp, inp 0 = false → ev inp G'.parts x = (ev inp G'.parts a && ev inp G'.parts b)) → K (.tup [.int .u32 (x : Int), .int .i64 0]) st') :
    CW Try.prog base 53 [.ptr g 0, .int .u32 (a : Int), .int .u32 (b : Int)] st K := by
  refine fn_rule l53 (hb _ _ _ (by simp)) ?_
  simp only [c53, entry, List.map_cons, List.map_nil, List.getD_cons_zero, List.getD_cons_succ]
  unfold b53
  obtain ⟨l0, hl0⟩ := hok.first
  have f0 : ∀ inp : Nat → Bool, inp 0 = false → ev inp G.parts 0 = false := fun inp h => by rw [hl0]; exact ev_0 h l0
  have f1 : ∀ inp : Nat → Bool, inp 0 = false → ev inp G.parts 1 = true := fun inp h => by rw [hl0]; exact ev_1 h l0
  have hsym : ∀ (inp : Nat → Bool) (l : List (Nat × Nat)), (ev inp l (min a b) && ev inp l (max a b)) = (ev inp l a && ev inp l b) := fun inp l => by
    by_cases h : a ≤ b
    · rw [Nat.min_eq_left h, Nat.max_eq_right h]
    · rw [Nat.min_eq_right (by omega), Nat.max_eq_left (by omega), Bool.and_comm]
  have hu : G.has (min a b) := by by_cases h : a ≤ b; · rw [Nat.min_eq_left h]; exact ha
                                  · rw [Nat.min_eq_right (by omega)]; exact hb'
  have hv : G.has (max a b) := by by_cases h : a ≤ b; · rw [Nat.max_eq_right h]; exact hb'
                                  · rw [Nat.max_eq_left (by omega)]; exact ha
  have h00 : G.has 0 := by unfold Gr.has; have := hG.ppos; omega
  simp (disch := first | assumption | decide | omega) only [qz3e, qz3f, qz3g, qz3h, qz3i, qz3j, qz00, qz01, qz02, qz03, qz04, qz05, qz06, qz07, qz08, qz09, qz0a, qz0b, qz0c, qz0d, qz0e, qz0f, qz0g, qz0h, qz0i, qz0j, qz0k, qz0l, qz0m, qz0n, qz0o, qz0p, qz0q, qz0r, qz0s, qz0t, qz0u, qz0v, qz0w, qz0x, qz0y, qz0z, qz10, qz11, qz12, qz13, qz14, qz15, qz16, qz17, qz18, qz19, qz1a, qz1b, qz1c, qz1d, qz1e, qz1f, qz1g, qz1h, qz1i, qz1j, qz1k, qz1l, qz1m, qz1n, qz1o, qz1p, qz1q, qz1r, qz1s, qz1t, qz1u, qz1v, qz1w, qz1x, qz1y, qz1z, qz20, qz21, qz22, qz23, qz24, qz25, qz26, qz27, qz28, qz29, qz2a, qz2b, qz2c, qz2d, qz2e, qz2f, qz2g, qz2h, qz2i, qz2j, qz2k, qz2l, qz2m, qz2n, qz2o, qz2p, qz2q, qz2r, qz2s, qz2t, qz2u, qz2v, qz2w, qz2x, qz2y, qz2z, qz30, qz31, qz32, qz33, qz34, qz35, qz36, qz37, qz38, qz39, qz3a, qz3b, qz3c, qz3d, Bool.not_true, Bool.not_false, List.cons_append, List.nil_append, List.append_nil]
  generalize min a b = u at hsym hu
  generalize max a b = v at hsym hv
  have hu' : u ≤ 4294967295 := by unfold Gr.has at hu; omega
  have hv' : v ≤ 4294967295 := by unfold Gr.has at hv; omega
  by_cases c1 : u = 0
  · have d1 : (u : Int) = 0 := by omega
    simp (disch := first | assumption | decide | omega) only [qz3e, qz3f, qz3g, qz3h, qz3i, qz3j, qz00, qz01, qz02, qz03, qz04, qz05, qz06, qz07, qz08, qz09, qz0a, qz0b, qz0c, qz0d, qz0e, qz0f, qz0g, qz0h, qz0i, qz0j, qz0k, qz0l, qz0m, qz0n, qz0o, qz0p, qz0q, qz0r, qz0s, qz0t, qz0u, qz0v, qz0w, qz0x, qz0y, qz0z, qz10, qz11, qz12, qz13, qz14, qz15, qz16, qz17, qz18, qz19, qz1a, qz1b, qz1c, qz1d, qz1e, qz1f, qz1g, qz1h, qz1i, qz1j, qz1k, qz1l, qz1m, qz1n, qz1o, qz1p, qz1q, qz1r, qz1s, qz1t, qz1u, qz1v, qz1w, qz1x, qz1y, qz1z, qz20, qz21, qz22, qz23, qz24, qz25, qz26, qz27, qz28, qz29, qz2a, qz2b, qz2c, qz2d, qz2e, qz2f, qz2g, qz2h, qz2i, qz2j, qz2k, qz2l, qz2m, qz2n, qz2o, qz2p, qz2q, qz2r, qz2s, qz2t, qz2u, qz2v, qz2w, qz2x, qz2y, qz2z, qz30, qz31, qz32, qz33, qz34, qz35, qz36, qz37, qz38, qz39, qz3a, qz3b, qz3c, qz3d, Bool.not_true, Bool.not_false, List.cons_append, List.nil_append, List.append_nil]
    exact hK 0 p ex G st.bare (Aft.same (s := st.bare) hG hok (Kept.refl _)) h00 fun inp h => by rw [f0 inp h, ← hsym, c1, f0 inp h]; rfl
  · have d1 : (u : Int) ≠ 0 := by omega
    by_cases c2 : u ^^^ 1 = v
    · have d2 : ((u ^^^ 1 : Nat) : Int) = (v : Int) := by omega
      simp (disch := first | assumption | decide | omega) only [qz3e, qz3f, qz3g, qz3h, qz3i, qz3j, qz00, qz01, qz02, qz03, qz04, qz05, qz06, qz07, qz08, qz09, qz0a, qz0b, qz0c, qz0d, qz0e, qz0f, qz0g, qz0h, qz0i, qz0j, qz0k, qz0l, qz0m, qz0n, qz0o, qz0p, qz0q, qz0r, qz0s, qz0t, qz0u, qz0v, qz0w, qz0x, qz0y, qz0z, qz10, qz11, qz12, qz13, qz14, qz15, qz16, qz17, qz18, qz19, qz1a, qz1b, qz1c, qz1d, qz1e, qz1f, qz1g, qz1h, qz1i, qz1j, qz1k, qz1l, qz1m, qz1n, qz1o, qz1p, qz1q, qz1r, qz1s, qz1t, qz1u, qz1v, qz1w, qz1x, qz1y, qz1z, qz20, qz21, qz22, qz23, qz24, qz25, qz26, qz27, qz28, qz29, qz2a, qz2b, qz2c, qz2d, qz2e, qz2f, qz2g, qz2h, qz2i, qz2j, qz2k, qz2l, qz2m, qz2n, qz2o, qz2p, qz2q, qz2r, qz2s, qz2t, qz2u, qz2v, qz2w, qz2x, qz2y, qz2z, qz30, qz31, qz32, qz33, qz34, qz35, qz36, qz37, qz38, qz39, qz3a, qz3b, qz3c, qz3d, Bool.not_true, Bool.not_false, List.cons_append, List.nil_append, List.append_nil]
      exact hK 0 p ex G st.bare (Aft.same (s := st.bare) hG hok (Kept.refl _)) h00 fun inp h => by
        rw [f0 inp h, ← hsym, ← c2, ev_not]
        cases ev inp G.parts u <;> rfl
    · have d2 : ((u ^^^ 1 : Nat) : Int) ≠ (v : Int) := by omega
      by_cases c3 : u = 1
      · have d3 : (u : Int) = 1 := by omega
        simp (disch := first | assumption | decide | omega) only [qz3e, qz3f, qz3g, qz3h, qz3i, qz3j, qz00, qz01, qz02, qz03, qz04, qz05, qz06, qz07, qz08, qz09, qz0a, qz0b, qz0c, qz0d, qz0e, qz0f, qz0g, qz0h, qz0i, qz0j, qz0k, qz0l, qz0m, qz0n, qz0o, qz0p, qz0q, qz0r, qz0s, qz0t, qz0u, qz0v, qz0w, qz0x, qz0y, qz0z, qz10, qz11, qz12, qz13, qz14, qz15, qz16, qz17, qz18, qz19, qz1a, qz1b, qz1c, qz1d, qz1e, qz1f, qz1g, qz1h, qz1i, qz1j, qz1k, qz1l, qz1m, qz1n, qz1o, qz1p, qz1q, qz1r, qz1s, qz1t, qz1u, qz1v, qz1w, qz1x, qz1y, qz1z, qz20, qz21, qz22, qz23, qz24, qz25, qz26, qz27, qz28, qz29, qz2a, qz2b, qz2c, qz2d, qz2e, qz2f, qz2g, qz2h, qz2i, qz2j, qz2k, qz2l, qz2m, qz2n, qz2o, qz2p, qz2q, qz2r, qz2s, qz2t, qz2u, qz2v, qz2w, qz2x, qz2y, qz2z, qz30, qz31, qz32, qz33, qz34, qz35, qz36, qz37, qz38, qz39, qz3a, qz3b, qz3c, qz3d, Bool.not_true, Bool.not_false, List.cons_append, List.nil_append, List.append_nil]
        exact hK v p ex G st.bare (Aft.same (s := st.bare) hG hok (Kept.refl _)) hv fun inp h => by rw [← hsym, c3, f1 inp h]; rfl
      · have d3 : (u : Int) ≠ 1 := by omega
        by_cases c4 : u = v
        · have d4 : (u : Int) = (v : Int) := by omega
          simp (disch := first | assumption | decide | omega) only [qz3e, qz3f, qz3g, qz3h, qz3i, qz3j, qz00, qz01, qz02, qz03, qz04, qz05, qz06, qz07, qz08, qz09, qz0a, qz0b, qz0c, qz0d, qz0e, qz0f, qz0g, qz0h, qz0i, qz0j, qz0k, qz0l, qz0m, qz0n, qz0o, qz0p, qz0q, qz0r, qz0s, qz0t, qz0u, qz0v, qz0w, qz0x, qz0y, qz0z, qz10, qz11, qz12, qz13, qz14, qz15, qz16, qz17, qz18, qz19, qz1a, qz1b, qz1c, qz1d, qz1e, qz1f, qz1g, qz1h, qz1i, qz1j, qz1k, qz1l, qz1m, qz1n, qz1o, qz1p, qz1q, qz1r, qz1s, qz1t, qz1u, qz1v, qz1w, qz1x, qz1y, qz1z, qz20, qz21, qz22, qz23, qz24, qz25, qz26, qz27, qz28, qz29, qz2a, qz2b, qz2c, qz2d, qz2e, qz2f, qz2g, qz2h, qz2i, qz2j, qz2k, qz2l, qz2m, qz2n, qz2o, qz2p, qz2q, qz2r, qz2s, qz2t, qz2u, qz2v, qz2w, qz2x, qz2y, qz2z, qz30, qz31, qz32, qz33, qz34, qz35, qz36, qz37, qz38, qz39, qz3a, qz3b, qz3c, qz3d, Bool.not_true, Bool.not_false, List.cons_append, List.nil_append, List.append_nil]
          exact hK v p ex G st.bare (Aft.same (s := st.bare) hG hok (Kept.refl _)) hv fun inp h => by rw [← hsym, c4, Bool.and_self]
        · have d4 : (u : Int) ≠ (v : Int) := by omega
          have eb : ∀ (s : St) (K : AV → St → Prop), onER (buildV [.int .u32 0, .int .u32 0] [((0, 1), .int .u32 (u : Int)), ((1, 1), .int .u32 (v : Int))] s) K = K (.agg [.int .u32 (u : Int), .int .u32 (v : Int)]) s := fun s K => v_build01 _ _ _ _ rfl rfl rfl rfl s K
          simp (disch := first | assumption | decide | omega) only [qz3e, qz3f, qz3g, qz3h, qz3i, qz3j, eb, qz00, qz01, qz02, qz03, qz04, qz05, qz06, qz07, qz08, qz09, qz0a, qz0b, qz0c, qz0d, qz0e, qz0f, qz0g, qz0h, qz0i, qz0j, qz0k, qz0l, qz0m, qz0n, qz0o, qz0p, qz0q, qz0r, qz0s, qz0t, qz0u, qz0v, qz0w, qz0x, qz0y, qz0z, qz10, qz11, qz12, qz13, qz14, qz15, qz16, qz17, qz18, qz19, qz1a, qz1b, qz1c, qz1d, qz1e, qz1f, qz1g, qz1h, qz1i, qz1j, qz1k, qz1l, qz1m, qz1n, qz1o, qz1p, qz1q, qz1r, qz1s, qz1t, qz1u, qz1v, qz1w, qz1x, qz1y, qz1z, qz20, qz21, qz22, qz23, qz24, qz25, qz26, qz27, qz28, qz29, qz2a, qz2b, qz2c, qz2d, qz2e, qz2f, qz2g, qz2h, qz2i, qz2j, qz2k, qz2l, qz2m, qz2n, qz2o, qz2p, qz2q, qz2r, qz2s, qz2t, qz2u, qz2v, qz2w, qz2x, qz2y, qz2z, qz30, qz31, qz32, qz33, qz34, qz35, qz36, qz37, qz38, qz39, qz3a, qz3b, qz3c, qz3d, Bool.not_true, Bool.not_false, List.cons_append, List.nil_append, List.append_nil]
          refine o_new fun s1 h1 => ?_
          simp (disch := first | assumption | decide | omega) only [qz3e, qz3f, qz3g, qz3h, qz3i, qz3j, qz00, qz01, qz02, qz03, qz04, qz05, qz06, qz07, qz08, qz09, qz0a, qz0b, qz0c, qz0d, qz0e, qz0f, qz0g, qz0h, qz0i, qz0j, qz0k, qz0l, qz0m, qz0n, qz0o, qz0p, qz0q, qz0r, qz0s, qz0t, qz0u, qz0v, qz0w, qz0x, qz0y, qz0z, qz10, qz11, qz12, qz13, qz14, qz15, qz16, qz17, qz18, qz19, qz1a, qz1b, qz1c, qz1d, qz1e, qz1f, qz1g, qz1h, qz1i, qz1j, qz1k, qz1l, qz1m, qz1n, qz1o, qz1p, qz1q, qz1r, qz1s, qz1t, qz1u, qz1v, qz1w, qz1x, qz1y, qz1z, qz20, qz21, qz22, qz23, qz24, qz25, qz26, qz27, qz28, qz29, qz2a, qz2b, qz2c, qz2d, qz2e, qz2f, qz2g, qz2h, qz2i, qz2j, qz2k, qz2l, qz2m, qz2n, qz2o, qz2p, qz2q, qz2r, qz2s, qz2t, qz2u, qz2v, qz2w, qz2x, qz2y, qz2z, qz30, qz31, qz32, qz33, qz34, qz35, qz36, qz37, qz38, qz39, qz3a, qz3b, qz3c, qz3d, Bool.not_true, Bool.not_false, List.cons_append, List.nil_append, List.append_nil]
          have l1 : rlen s1.h st.bare.nx = 2 := h1.len
          refine o_st2 (by rw [l1]; decide) rfl rfl fun s2 n2 f2 k2 r2 a2 b2 => ?_
          have n1 : s1.nx = st.nx + 1 := h1.nx
          have k2' : Kept st.bare s2 := ⟨by show st.nx ≤ s2.nx; omega, f2.trans h1.fr, fun c hc => (k2 c (by have : c < st.nx := hc; show c ≠ st.nx; omega)).trans (h1.keep c (by have : c < st.nx := hc; show c ≠ st.nx; omega))⟩
          have G2 : GM s2.h s2.nx g p q m ex G := hG.keep k2'.keep k2'.nx
          have e1 : 0 + 2 < rlen s2.h g := by rw [G2.glen]; decide
          have e2 : rat s2.h g (0 + 2) = .map m := G2.g2
          have ed : onER (ldAV 2 (.ptr st.bare.nx 0) s2) = fun K => K (.agg [.int .u32 (u : Int), .int .u32 (v : Int)]) s2 := by
            funext K
            rw [v_ldA2 (by rw [r2, l1]; decide), a2, b2]
          cases hf : findK G.kn (u, v) with
          | some x =>
            have eL : onER (lookV Try.prog 67 (.map m) (.agg [.int .u32 (u : Int), .int .u32 (v : Int)]) true s2) = fun K => K (.tup [.int .u32 (x : Int), .bool true]) s2 := by
              funext K; exact o_lookt (p := (u, v)) G2.mm hf
            simp (disch := first | assumption | decide | omega) only [qz3e, qz3f, qz3g, qz3h, qz3i, qz3j, e2, ed, eL, qz00, qz01, qz02, qz03, qz04, qz05, qz06, qz07, qz08, qz09, qz0a, qz0b, qz0c, qz0d, qz0e, qz0f, qz0g, qz0h, qz0i, qz0j, qz0k, qz0l, qz0m, qz0n, qz0o, qz0p, qz0q, qz0r, qz0s, qz0t, qz0u, qz0v, qz0w, qz0x, qz0y, qz0z, qz10, qz11, qz12, qz13, qz14, qz15, qz16, qz17, qz18, qz19, qz1a, qz1b, qz1c, qz1d, qz1e, qz1f, qz1g, qz1h, qz1i, qz1j, qz1k, qz1l, qz1m, qz1n, qz1o, qz1p, qz1q, qz1r, qz1s, qz1t, qz1u, qz1v, qz1w, qz1x, qz1y, qz1z, qz20, qz21, qz22, qz23, qz24, qz25, qz26, qz27, qz28, qz29, qz2a, qz2b, qz2c, qz2d, qz2e, qz2f, qz2g, qz2h, qz2i, qz2j, qz2k, qz2l, qz2m, qz2n, qz2o, qz2p, qz2q, qz2r, qz2s, qz2t, qz2u, qz2v, qz2w, qz2x, qz2y, qz2z, qz30, qz31, qz32, qz33, qz34, qz35, qz36, qz37, qz38, qz39, qz3a, qz3b, qz3c, qz3d, Bool.not_true, Bool.not_false, List.cons_append, List.nil_append, List.append_nil]
            obtain ⟨q1, q2, q3, q4⟩ := hok.kn _ (findK_mem hf)
            exact hK x p ex G s2.bare (Aft.same hG hok k2') q1 fun inp h => by rw [← hsym]; exact q4 inp
          | none =>
            have eL : onER (lookV Try.prog 67 (.map m) (.agg [.int .u32 (u : Int), .int .u32 (v : Int)]) true s2) = fun K => K (.tup [.int .u32 0, .bool false]) s2 := by
              funext K; exact o_lookf (p := (u, v)) G2.mm hf
            simp (disch := first | assumption | decide | omega) only [qz3e, qz3f, qz3g, qz3h, qz3i, qz3j, e2, ed, eL, qz00, qz01, qz02, qz03, qz04, qz05, qz06, qz07, qz08, qz09, qz0a, qz0b, qz0c, qz0d, qz0e, qz0f, qz0g, qz0h, qz0i, qz0j, qz0k, qz0l, qz0m, qz0n, qz0o, qz0p, qz0q, qz0r, qz0s, qz0t, qz0u, qz0v, qz0w, qz0x, qz0y, qz0z, qz10, qz11, qz12, qz13, qz14, qz15, qz16, qz17, qz18, qz19, qz1a, qz1b, qz1c, qz1d, qz1e, qz1f, qz1g, qz1h, qz1i, qz1j, qz1k, qz1l, qz1m, qz1n, qz1o, qz1p, qz1q, qz1r, qz1s, qz1t, qz1u, qz1v, qz1w, qz1x, qz1y, qz1z, qz20, qz21, qz22, qz23, qz24, qz25, qz26, qz27, qz28, qz29, qz2a, qz2b, qz2c, qz2d, qz2e, qz2f, qz2g, qz2h, qz2i, qz2j, qz2k, qz2l, qz2m, qz2n, qz2o, qz2p, qz2q, qz2r, qz2s, qz2t, qz2u, qz2v, qz2w, qz2x, qz2y, qz2z, qz30, qz31, qz32, qz33, qz34, qz35, qz36, qz37, qz38, qz39, qz3a, qz3b, qz3c, qz3d, Bool.not_true, Bool.not_false, List.cons_append, List.nil_append, List.append_nil]
            refine more_ok (fun a s => hb _ a s (by simp)) (a := u) (b := v) s2 G2 hN _ fun p' s3 f3 S3 G3 => ?_
            have m2 : s2.nx ≤ s3.nx := S3.nx
            have kbx : hget (back s2 s3).h st.bare.nx = hget s2.h st.bare.nx := S3.keep _ (by show st.nx < s2.nx; omega) (by
              have := hG.g_lt; have := hG.p_lt; have := hG.m_lt; have hq := hG.q_lt
              show ¬ Own g p q m G st.nx
              unfold Own
              rintro (h | h | h | ⟨h, h'⟩)
              · omega
              · omega
              · omega
              · have := hq h; omega)
            have G3' : GM (back s2 s3).h (back s2 s3).nx g p' q m false { G with parts := G.parts ++ [(u, v)] } := G3
            have K3 : ∀ c, c < s2.nx → ¬ Own g p q m G c → hget (back s2 s3).h c = hget s2.h c := S3.keep
            have m3 : s2.nx ≤ (back s2 s3).nx := m2
            have O3 := S3.own
            generalize back s2 s3 = t at kbx G3' K3 m3
            have e3 : 0 + 2 < rlen t.h g := by rw [G3'.glen]; decide
            have e4 : rat t.h g (0 + 2) = .map m := G3'.g2
            have ed' : onER (ldAV 2 (.ptr st.bare.nx 0) t) = fun K => K (.agg [.int .u32 (u : Int), .int .u32 (v : Int)]) t := by
              funext K
              rw [v_ldA2 (by have := rlen_same kbx; omega), rat_same kbx, rat_same kbx, a2, b2]
            simp (disch := first | assumption | decide | omega) only [qz3e, qz3f, qz3g, qz3h, qz3i, qz3j, e4, ed', qz00, qz01, qz02, qz03, qz04, qz05, qz06, qz07, qz08, qz09, qz0a, qz0b, qz0c, qz0d, qz0e, qz0f, qz0g, qz0h, qz0i, qz0j, qz0k, qz0l, qz0m, qz0n, qz0o, qz0p, qz0q, qz0r, qz0s, qz0t, qz0u, qz0v, qz0w, qz0x, qz0y, qz0z, qz10, qz11, qz12, qz13, qz14, qz15, qz16, qz17, qz18, qz19, qz1a, qz1b, qz1c, qz1d, qz1e, qz1f, qz1g, qz1h, qz1i, qz1j, qz1k, qz1l, qz1m, qz1n, qz1o, qz1p, qz1q, qz1r, qz1s, qz1t, qz1u, qz1v, qz1w, qz1x, qz1y, qz1z, qz20, qz21, qz22, qz23, qz24, qz25, qz26, qz27, qz28, qz29, qz2a, qz2b, qz2c, qz2d, qz2e, qz2f, qz2g, qz2h, qz2i, qz2j, qz2k, qz2l, qz2m, qz2n, qz2o, qz2p, qz2q, qz2r, qz2s, qz2t, qz2u, qz2v, qz2w, qz2x, qz2y, qz2z, qz30, qz31, qz32, qz33, qz34, qz35, qz36, qz37, qz38, qz39, qz3a, qz3b, qz3c, qz3d, Bool.not_true, Bool.not_false, List.cons_append, List.nil_append, List.append_nil]
            refine o_upd (p := (u, v)) (v := 2 * G.parts.length) G3'.mm hf fun s4 n4 f4 k4 m4 => ?_
            simp (disch := first | assumption | decide | omega) only [qz3e, qz3f, qz3g, qz3h, qz3i, qz3j, qz00, qz01, qz02, qz03, qz04, qz05, qz06, qz07, qz08, qz09, qz0a, qz0b, qz0c, qz0d, qz0e, qz0f, qz0g, qz0h, qz0i, qz0j, qz0k, qz0l, qz0m, qz0n, qz0o, qz0p, qz0q, qz0r, qz0s, qz0t, qz0u, qz0v, qz0w, qz0x, qz0y, qz0z, qz10, qz11, qz12, qz13, qz14, qz15, qz16, qz17, qz18, qz19, qz1a, qz1b, qz1c, qz1d, qz1e, qz1f, qz1g, qz1h, qz1i, qz1j, qz1k, qz1l, qz1m, qz1n, qz1o, qz1p, qz1q, qz1r, qz1s, qz1t, qz1u, qz1v, qz1w, qz1x, qz1y, qz1z, qz20, qz21, qz22, qz23, qz24, qz25, qz26, qz27, qz28, qz29, qz2a, qz2b, qz2c, qz2d, qz2e, qz2f, qz2g, qz2h, qz2i, qz2j, qz2k, qz2l, qz2m, qz2n, qz2o, qz2p, qz2q, qz2r, qz2s, qz2t, qz2u, qz2v, qz2w, qz2x, qz2y, qz2z, qz30, qz31, qz32, qz33, qz34, qz35, qz36, qz37, qz38, qz39, qz3a, qz3b, qz3c, qz3d, Bool.not_true, Bool.not_false, List.cons_append, List.nil_append, List.append_nil]
            have hne : ((u, v) : Nat × Nat) ≠ (0, 0) := by intro h; exact c1 (Prod.mk.inj h).1
            have hev : ∀ inp, ev inp (G.parts ++ [(u, v)]) (2 * G.parts.length) = (ev inp (G.parts ++ [(u, v)]) u && ev inp (G.parts ++ [(u, v)]) v) := fun inp => by
              rw [ev_new inp G.parts hne, ev_app inp _ _ hu, ev_app inp _ _ hv]
            have hok1 : Gr.OK { G with parts := G.parts ++ [(u, v)] } := OK_push hok hN fun _ => ⟨hu, hv⟩
            have lu : u / 2 < (G.parts ++ [(u, v)]).length := by have : u / 2 < G.parts.length := hu; rw [List.length_append]; omega
            have lv : v / 2 < (G.parts ++ [(u, v)]).length := by have : v / 2 < G.parts.length := hv; rw [List.length_append]; omega
            have l2 : 2 * G.parts.length / 2 < (G.parts ++ [(u, v)]).length := by rw [List.length_append]; simp only [List.length_cons, List.length_nil]; omega
            refine hK (2 * G.parts.length) p' false { G with parts := G.parts ++ [(u, v)], kn := G.kn ++ [((u, v), 2 * G.parts.length)] } s4.bare ⟨rfl, ⟨by show st.nx ≤ s4.nx; omega, rfl, fun c hc ho => ?_, fun c hc => ?_⟩, ?_, OK_kn hok1 (x := ((u, v), 2 * G.parts.length)) ⟨l2, lu, lv, hev⟩, ⟨[(u, v)], rfl⟩, by simp, rfl, fun h1 => absurd hu (by unfold Gr.has; omega)⟩ l2 fun inp _ => (hev inp).trans (hsym inp _)
            · have hcm : c ≠ m := fun h => ho (.inr (.inr (.inl h)))
              have hc' : c < st.nx := hc
              exact (k4 c hcm).trans ((K3 c (by omega) ho).trans (k2'.keep c hc))
            · rcases O3 c hc with h | h
              · exact .inl h
              · right
                have h' : s2.nx ≤ c := h
                show st.nx ≤ c
                omega
            · have := G3'.upd k4 m4
              rw [← n4] at this
              exact this
end Go.Sy
end

section
set_option maxRecDepth 100000
namespace Go.Sy
open Go.Ev Go.Proofs
variable {base : CallF}

theorem Aft.trans {g p q m : Nat} {G G' G'' : Gr} {k j : Nat} {st s s' : St} {p' p'' : Nat} {ex' ex'' : Bool} (h : Aft g p q m G k st p' ex' G' s) (i : Aft g p' q m G' j s p'' ex'' G'' s') : Aft g p q m G (k + j) st p'' ex'' G'' s' :=
  ⟨i.fr, Step.trans (b := s) h.step ⟨i.step.nx, i.fr.trans h.fr.symm, i.step.keep, i.step.own⟩, i.gm, i.ok, h.le.trans i.le, by have := h.len; have := i.len; omega, i.inp.trans h.inp, fun h1 => i.one (h.one h1)⟩
theorem Aft.more {g p q m : Nat} {G G' : Gr} {k j : Nat} {st s : St} {p' : Nat} {ex' : Bool} (h : Aft g p q m G k st p' ex' G' s) (hj : k ≤ j) : Aft g p q m G j st p' ex' G' s := { h with len := by have := h.len; omega }

theorem there1G_ok (hb : ∀ args st, base 55 args st = .no) {a bx g p q m : Nat} {ex : Bool} {G : Gr} (st : St) (hG : GM st.h st.nx g p q m ex G) (hN : G.parts.length ≤ 1048576) (ha : G.has a) (hx : rlen st.h bx = 1) (hx0 : rat st.h bx 0 = .ptr g 0) (K : AV → St → Prop) (hK : K (.bool false) st.bare) : CW Try.prog base 55 [.int .u32 (a : Int), .ptr bx 0] st K := by
  refine fn_rule l55 (hb _ _) ?_
  simp only [c55, entry, List.map_cons, List.map_nil, List.getD_cons_zero, List.getD_cons_succ]
  unfold b55
  have ha' : a / 2 < G.parts.length := ha
  have e0 : a ≤ 4294967295 := by omega
  have e1 : a / 2 ≤ 4294967295 := by omega
  have e2 : 0 < rlen st.bare.h bx := by show 0 < rlen st.h bx; omega
  have e3 : rat st.bare.h bx 0 = .ptr g 0 := hx0
  have e4 : 0 < rlen st.bare.h g := by show 0 < rlen st.h g; rw [hG.glen]; decide
  have e5 : rat st.bare.h g 0 = .slice p 0 G.parts.length G.parts.length 2 ex := hG.g0
  have e6 : ((a / 2 : Nat) : Int) < (G.parts.length : Int) := by omega
  simp (disch := first | assumption | decide | omega) only [e3, e5, Nat.add_zero, qz00, qz01, qz02, qz03, qz04, qz05, qz06, qz07, qz08, qz09, qz0a, qz0b, qz0c, qz0d, qz0e, qz0f, qz0g, qz0h, qz0i, qz0j, qz0k, qz0l, qz0m, qz0n, qz0o, qz0p, qz0q, qz0r, qz0s, qz0t, qz0u, qz0v, qz0w, qz0x, qz0y, qz0z, qz10, qz11, qz12, qz13, qz14, qz15, qz16, qz17, qz18, qz19, qz1a, qz1b, qz1c, qz1d, qz1e, qz1f, qz1g, qz1h, qz1i, qz1j, qz1k, qz1l, qz1m, qz1n, qz1o, qz1p, qz1q, qz1r, qz1s, qz1t, qz1u, qz1v, qz1w, qz1x, qz1y, qz1z, qz20, qz21, qz22, qz23, qz24, qz25, qz26, qz27, qz28, qz29, qz2a, qz2b, qz2c, qz2d, qz2e, qz2f, qz2g, qz2h, qz2i, qz2j, qz2k, qz2l, qz2m, qz2n, qz2o, qz2p, qz2q, qz2r, qz2s, qz2t, qz2u, qz2v, qz2w, qz2x, qz2y, qz2z, qz30, qz31, qz32, qz33, qz34, qz35, qz36, qz37, qz38, qz39, qz3a, qz3b, qz3c, qz3d, Bool.not_true, Bool.not_false, List.cons_append, List.nil_append, List.append_nil]
  exact hK

/-- edges in a slice, beside a graph -/
structure Ed (st : St) (own : Nat → Prop) (b o n : Nat) (a : Nat → Nat) : Prop where
  lt : b < st.nx
  off : ¬ own b
  len : o + n ≤ rlen st.h b
  cell : ∀ i, i < n → rat st.h b (o + i) = .int .u32 (a i : Int)
theorem Ed.bare {st : St} {own : Nat → Prop} {b o n : Nat} {a : Nat → Nat} (h : Ed st own b o n a) : Ed st.bare own b o n a := ⟨h.lt, h.off, h.len, h.cell⟩
theorem Ed.step {st s : St} {own own' : Nat → Prop} {b o n : Nat} {a : Nat → Nat} (h : Ed st own b o n a) (k : Step own own' st s) : Ed s own' b o n a :=
  ⟨Nat.lt_of_lt_of_le h.lt k.nx, fun h' => (k.own b h').elim h.off fun h2 => by have := h.lt; omega, by rw [rlen_same (k.keep b h.lt h.off)]; exact h.len, fun i hi => (rat_same (k.keep b h.lt h.off) _).trans (h.cell i hi)⟩

theorem thereG_ok (hb : ∀ f args st, f ∈ [41, 54, 55, 63] → base f args st = .no) {b o n c g p q m : Nat} {x ex : Bool} {G : Gr} {own : Nat → Prop} {a : Nat → Nat} (hn : n ≤ 9223372036854775807) (st : St) (hG : GM st.h st.nx g p q m ex G) (hN : G.parts.length ≤ 1048576) (hE : Ed st own b o n a) (ha : ∀ i, i < n → G.has (a i)) (K : AV → St → Prop) (hK : ∀ st', Ext st st' → K (.bool true) st') : CW Try.prog base 41 [.ptr g 0, .slice b o n c 1 x] st K := by
  refine fn_rule l41 (hb _ _ _ (by simp)) ?_
  simp only [c41, entry, List.map_cons, List.map_nil, List.getD_cons_zero, List.getD_cons_succ]
  unfold b41
  simp (disch := first | assumption | decide | omega) only [qz00, qz01, qz02, qz03, qz04, qz05, qz06, qz07, qz08, qz09, qz0a, qz0b, qz0c, qz0d, qz0e, qz0f, qz0g, qz0h, qz0i, qz0j, qz0k, qz0l, qz0m, qz0n, qz0o, qz0p, qz0q, qz0r, qz0s, qz0t, qz0u, qz0v, qz0w, qz0x, qz0y, qz0z, qz10, qz11, qz12, qz13, qz14, qz15, qz16, qz17, qz18, qz19, qz1a, qz1b, qz1c, qz1d, qz1e, qz1f, qz1g, qz1h, qz1i, qz1j, qz1k, qz1l, qz1m, qz1n, qz1o, qz1p, qz1q, qz1r, qz1s, qz1t, qz1u, qz1v, qz1w, qz1x, qz1y, qz1z, qz20, qz21, qz22, qz23, qz24, qz25, qz26, qz27, qz28, qz29, qz2a, qz2b, qz2c, qz2d, qz2e, qz2f, qz2g, qz2h, qz2i, qz2j, qz2k, qz2l, qz2m, qz2n, qz2o, qz2p, qz2q, qz2r, qz2s, qz2t, qz2u, qz2v, qz2w, qz2x, qz2y, qz2z, qz30, qz31, qz32, qz33, qz34, qz35, qz36, qz37, qz38, qz39, qz3a, qz3b, qz3c, qz3d, Bool.not_true, Bool.not_false, List.cons_append, List.nil_append, List.append_nil]
  refine o_box rfl fun s1 h1 => ?_
  simp (disch := first | assumption | decide | omega) only [qz00, qz01, qz02, qz03, qz04, qz05, qz06, qz07, qz08, qz09, qz0a, qz0b, qz0c, qz0d, qz0e, qz0f, qz0g, qz0h, qz0i, qz0j, qz0k, qz0l, qz0m, qz0n, qz0o, qz0p, qz0q, qz0r, qz0s, qz0t, qz0u, qz0v, qz0w, qz0x, qz0y, qz0z, qz10, qz11, qz12, qz13, qz14, qz15, qz16, qz17, qz18, qz19, qz1a, qz1b, qz1c, qz1d, qz1e, qz1f, qz1g, qz1h, qz1i, qz1j, qz1k, qz1l, qz1m, qz1n, qz1o, qz1p, qz1q, qz1r, qz1s, qz1t, qz1u, qz1v, qz1w, qz1x, qz1y, qz1z, qz20, qz21, qz22, qz23, qz24, qz25, qz26, qz27, qz28, qz29, qz2a, qz2b, qz2c, qz2d, qz2e, qz2f, qz2g, qz2h, qz2i, qz2j, qz2k, qz2l, qz2m, qz2n, qz2o, qz2p, qz2q, qz2r, qz2s, qz2t, qz2u, qz2v, qz2w, qz2x, qz2y, qz2z, qz30, qz31, qz32, qz33, qz34, qz35, qz36, qz37, qz38, qz39, qz3a, qz3b, qz3c, qz3d, Bool.not_true, Bool.not_false, List.cons_append, List.nil_append, List.append_nil]
  have m1 : s1.nx = st.nx + 1 := h1.nx
  have kp : ∀ c, c < st.nx → hget s1.h c = hget st.h c := fun c hc => h1.keep c (by show c ≠ st.nx; omega)
  refine contains54_ok (fun f a s hf => hb _ a s (by rcases hf with rfl | rfl <;> simp)) 55 [.ptr st.nx 0] s1 hn ?_ ?_ _ ?_
  · rw [rlen_same (kp b hE.lt)]; exact hE.len
  · intro i hi K2 hk2
    rw [rat_same (kp b hE.lt), hE.cell i hi]
    exact there1G_ok (fun a s => hb _ a s (by simp)) s1.bare (hG.keep kp (by show st.nx ≤ s1.nx; omega)) hN (ha i hi) h1.len (h1.cell 0 (by show 0 < 1; decide)) K2 hk2
  · simp (disch := first | assumption | decide | omega) only [qz00, qz01, qz02, qz03, qz04, qz05, qz06, qz07, qz08, qz09, qz0a, qz0b, qz0c, qz0d, qz0e, qz0f, qz0g, qz0h, qz0i, qz0j, qz0k, qz0l, qz0m, qz0n, qz0o, qz0p, qz0q, qz0r, qz0s, qz0t, qz0u, qz0v, qz0w, qz0x, qz0y, qz0z, qz10, qz11, qz12, qz13, qz14, qz15, qz16, qz17, qz18, qz19, qz1a, qz1b, qz1c, qz1d, qz1e, qz1f, qz1g, qz1h, qz1i, qz1j, qz1k, qz1l, qz1m, qz1n, qz1o, qz1p, qz1q, qz1r, qz1s, qz1t, qz1u, qz1v, qz1w, qz1x, qz1y, qz1z, qz20, qz21, qz22, qz23, qz24, qz25, qz26, qz27, qz28, qz29, qz2a, qz2b, qz2c, qz2d, qz2e, qz2f, qz2g, qz2h, qz2i, qz2j, qz2k, qz2l, qz2m, qz2n, qz2o, qz2p, qz2q, qz2r, qz2s, qz2t, qz2u, qz2v, qz2w, qz2x, qz2y, qz2z, qz30, qz31, qz32, qz33, qz34, qz35, qz36, qz37, qz38, qz39, qz3a, qz3b, qz3c, qz3d, Bool.not_true, Bool.not_false, List.cons_append, List.nil_append, List.append_nil]
    exact hK _ ⟨by show st.nx ≤ s1.nx; omega, rfl, kp⟩

def conj (f : Nat → Bool) : Nat → Bool
  | 0 => true
  | k + 1 => conj f k && f k

theorem And_ok (hb : ∀ f args st, f ∈ [39, 41, 44, 53, 54, 55, 63] → base f args st = .no) {b o n c g p q m : Nat} {x ex : Bool} {G : Gr} {a : Nat → Nat} (st : St) (hG : GM st.h st.nx g p q m ex G) (hok : G.OK) (hN : G.parts.length + n ≤ 1048576) (hE : Ed st (Own g p q m G) b o n a) (ha : ∀ i, i < n → G.has (a i)) (K : AV → St → Prop)
    (hK : ∀ x p' ex' G' st', Aft g p q m G n st p' ex' G' st' → G'.has x → (∀ inp, inp 0 = false → ev inp G'.parts x = conj (fun i => ev inp G.parts (a i)) n) → K (.tup [.int .u32 (x : Int), .int .i64 0]) st') :
    CW Try.prog base 39 [.ptr g 0, .slice b o n c 1 x] st K := by
  refine fn_rule l39 (hb _ _ _ (by simp)) ?_
  simp only [c39, entry, List.map_cons, List.map_nil, List.getD_cons_zero, List.getD_cons_succ]
  unfold b39
  simp (disch := first | assumption | decide | omega) only [qz00, qz01, qz02, qz03, qz04, qz05, qz06, qz07, qz08, qz09, qz0a, qz0b, qz0c, qz0d, qz0e, qz0f, qz0g, qz0h, qz0i, qz0j, qz0k, qz0l, qz0m, qz0n, qz0o, qz0p, qz0q, qz0r, qz0s, qz0t, qz0u, qz0v, qz0w, qz0x, qz0y, qz0z, qz10, qz11, qz12, qz13, qz14, qz15, qz16, qz17, qz18, qz19, qz1a, qz1b, qz1c, qz1d, qz1e, qz1f, qz1g, qz1h, qz1i, qz1j, qz1k, qz1l, qz1m, qz1n, qz1o, qz1p, qz1q, qz1r, qz1s, qz1t, qz1u, qz1v, qz1w, qz1x, qz1y, qz1z, qz20, qz21, qz22, qz23, qz24, qz25, qz26, qz27, qz28, qz29, qz2a, qz2b, qz2c, qz2d, qz2e, qz2f, qz2g, qz2h, qz2i, qz2j, qz2k, qz2l, qz2m, qz2n, qz2o, qz2p, qz2q, qz2r, qz2s, qz2t, qz2u, qz2v, qz2w, qz2x, qz2y, qz2z, qz30, qz31, qz32, qz33, qz34, qz35, qz36, qz37, qz38, qz39, qz3a, qz3b, qz3c, qz3d, Bool.not_true, Bool.not_false, List.cons_append, List.nil_append, List.append_nil]
  refine thereG_ok (fun f a s hf => hb _ a s (by simp at hf ⊢; rcases hf with h | h | h | h <;> simp [h])) (by omega) st.bare hG (by omega) hE.bare ha _ fun s1 e1 => ?_
  have k1 : Kept st.bare (back st.bare s1) := ⟨e1.nx, rfl, e1.keep⟩
  have A0 : Aft g p q m G 0 st p ex G (back st.bare s1) := ⟨rfl, ⟨k1.nx, rfl, fun c hc _ => k1.keep c hc, fun c hc => .inl hc⟩, hG.keep k1.keep k1.nx, hok, Gr.Le.refl G, Nat.le_refl _, rfl, id⟩
  generalize back st.bare s1 = t at A0
  simp (disch := first | assumption | decide | omega) only [qz00, qz01, qz02, qz03, qz04, qz05, qz06, qz07, qz08, qz09, qz0a, qz0b, qz0c, qz0d, qz0e, qz0f, qz0g, qz0h, qz0i, qz0j, qz0k, qz0l, qz0m, qz0n, qz0o, qz0p, qz0q, qz0r, qz0s, qz0t, qz0u, qz0v, qz0w, qz0x, qz0y, qz0z, qz10, qz11, qz12, qz13, qz14, qz15, qz16, qz17, qz18, qz19, qz1a, qz1b, qz1c, qz1d, qz1e, qz1f, qz1g, qz1h, qz1i, qz1j, qz1k, qz1l, qz1m, qz1n, qz1o, qz1p, qz1q, qz1r, qz1s, qz1t, qz1u, qz1v, qz1w, qz1x, qz1y, qz1z, qz20, qz21, qz22, qz23, qz24, qz25, qz26, qz27, qz28, qz29, qz2a, qz2b, qz2c, qz2d, qz2e, qz2f, qz2g, qz2h, qz2i, qz2j, qz2k, qz2l, qz2m, qz2n, qz2o, qz2p, qz2q, qz2r, qz2s, qz2t, qz2u, qz2v, qz2w, qz2x, qz2y, qz2z, qz30, qz31, qz32, qz33, qz34, qz35, qz36, qz37, qz38, qz39, qz3a, qz3b, qz3c, qz3d, Bool.not_true, Bool.not_false, List.cons_append, List.nil_append, List.append_nil]
  refine wC_loopH (fun mm L s => ∃ (k out p' : Nat) (ex' : Bool) (G' : Gr), k ≤ n ∧ mm = n - k ∧ Aft g p q m G k st p' ex' G' s ∧ G'.has out ∧ (∀ inp, inp 0 = false → ev inp G'.parts out = conj (fun i => ev inp G.parts (a i)) k) ∧ Has L 0 (.ptr g 0) ∧ Has L 6 (.int .u32 (out : Int)) ∧ Has L 15 (.slice b o n c 1 x) ∧ Has L 16 (.int .i64 (n : Int)) ∧ Has L 17 (.int .i64 (k : Int))) ?_ n ?_
  · rintro mm L s ⟨k, out, p', ex', G', hk, rfl, A, ho, hev, i0, i6, i15, i16, i17⟩
    unfold Hold
    have hfr := A.fr
    by_cases hkn : k < n
    · have E : Ed s (Own g p' q m G') b o n a := Ed.step hE.bare A.step
      have e2 : o + k * 1 < rlen s.h b := by have := E.len; omega
      have e3 : rat s.h b (o + k * 1) = .int .u32 (a k : Int) := by rw [Nat.mul_one]; exact E.cell k hkn
      have hl := A.len
      simp (disch := first | assumption | decide | omega) only [r_onh i0, r_onh i6, r_onh i15, r_onh i16, r_onh i17, e3, qz00, qz01, qz02, qz03, qz04, qz05, qz06, qz07, qz08, qz09, qz0a, qz0b, qz0c, qz0d, qz0e, qz0f, qz0g, qz0h, qz0i, qz0j, qz0k, qz0l, qz0m, qz0n, qz0o, qz0p, qz0q, qz0r, qz0s, qz0t, qz0u, qz0v, qz0w, qz0x, qz0y, qz0z, qz10, qz11, qz12, qz13, qz14, qz15, qz16, qz17, qz18, qz19, qz1a, qz1b, qz1c, qz1d, qz1e, qz1f, qz1g, qz1h, qz1i, qz1j, qz1k, qz1l, qz1m, qz1n, qz1o, qz1p, qz1q, qz1r, qz1s, qz1t, qz1u, qz1v, qz1w, qz1x, qz1y, qz1z, qz20, qz21, qz22, qz23, qz24, qz25, qz26, qz27, qz28, qz29, qz2a, qz2b, qz2c, qz2d, qz2e, qz2f, qz2g, qz2h, qz2i, qz2j, qz2k, qz2l, qz2m, qz2n, qz2o, qz2p, qz2q, qz2r, qz2s, qz2t, qz2u, qz2v, qz2w, qz2x, qz2y, qz2z, qz30, qz31, qz32, qz33, qz34, qz35, qz36, qz37, qz38, qz39, qz3a, qz3b, qz3c, qz3d, Bool.not_true, Bool.not_false, List.cons_append, List.nil_append, List.append_nil]
      refine both_ok (fun f a s hf => hb _ a s (by rcases hf with rfl | rfl <;> simp)) s A.gm A.ok ho (A.le.has (ha k hkn)) (by omega) _ fun y p'' ex'' G'' s2 B hy hev2 => ?_
      have B' : Aft g p' q m G' 1 s p'' ex'' G'' (back s s2) := ⟨hfr, ⟨B.step.nx, by show s.fr = []; exact hfr, B.step.keep, B.step.own⟩, B.gm, B.ok, B.le, B.len, B.inp, B.one⟩
      generalize back s s2 = t2 at B'
      simp (disch := first | assumption | decide | omega) only [r_onh i17, v_addN, qz00, qz01, qz02, qz03, qz04, qz05, qz06, qz07, qz08, qz09, qz0a, qz0b, qz0c, qz0d, qz0e, qz0f, qz0g, qz0h, qz0i, qz0j, qz0k, qz0l, qz0m, qz0n, qz0o, qz0p, qz0q, qz0r, qz0s, qz0t, qz0u, qz0v, qz0w, qz0x, qz0y, qz0z, qz10, qz11, qz12, qz13, qz14, qz15, qz16, qz17, qz18, qz19, qz1a, qz1b, qz1c, qz1d, qz1e, qz1f, qz1g, qz1h, qz1i, qz1j, qz1k, qz1l, qz1m, qz1n, qz1o, qz1p, qz1q, qz1r, qz1s, qz1t, qz1u, qz1v, qz1w, qz1x, qz1y, qz1z, qz20, qz21, qz22, qz23, qz24, qz25, qz26, qz27, qz28, qz29, qz2a, qz2b, qz2c, qz2d, qz2e, qz2f, qz2g, qz2h, qz2i, qz2j, qz2k, qz2l, qz2m, qz2n, qz2o, qz2p, qz2q, qz2r, qz2s, qz2t, qz2u, qz2v, qz2w, qz2x, qz2y, qz2z, qz30, qz31, qz32, qz33, qz34, qz35, qz36, qz37, qz38, qz39, qz3a, qz3b, qz3c, qz3d, Bool.not_true, Bool.not_false, List.cons_append, List.nil_append, List.append_nil]
      refine ⟨n - (k + 1), by omega, k + 1, y, p'', ex'', G'', by omega, rfl, A.trans B', hy, fun inp hi => ?_, ?_⟩
      · rw [hev2 inp hi, B.le.ev ho, B.le.ev (A.le.has (ha k hkn)), hev inp hi, A.le.ev (ha k hkn)]
        rfl
      · simp (disch := decide) only [z0, z1, h_here, h_skip, i0, i15, i16, true_and, and_true]
    · have hkn' : k = n := by omega
      subst hkn'
      simp (disch := first | assumption | decide | omega) only [r_onh i0, r_onh i6, r_onh i15, r_onh i16, r_onh i17, qz00, qz01, qz02, qz03, qz04, qz05, qz06, qz07, qz08, qz09, qz0a, qz0b, qz0c, qz0d, qz0e, qz0f, qz0g, qz0h, qz0i, qz0j, qz0k, qz0l, qz0m, qz0n, qz0o, qz0p, qz0q, qz0r, qz0s, qz0t, qz0u, qz0v, qz0w, qz0x, qz0y, qz0z, qz10, qz11, qz12, qz13, qz14, qz15, qz16, qz17, qz18, qz19, qz1a, qz1b, qz1c, qz1d, qz1e, qz1f, qz1g, qz1h, qz1i, qz1j, qz1k, qz1l, qz1m, qz1n, qz1o, qz1p, qz1q, qz1r, qz1s, qz1t, qz1u, qz1v, qz1w, qz1x, qz1y, qz1z, qz20, qz21, qz22, qz23, qz24, qz25, qz26, qz27, qz28, qz29, qz2a, qz2b, qz2c, qz2d, qz2e, qz2f, qz2g, qz2h, qz2i, qz2j, qz2k, qz2l, qz2m, qz2n, qz2o, qz2p, qz2q, qz2r, qz2s, qz2t, qz2u, qz2v, qz2w, qz2x, qz2y, qz2z, qz30, qz31, qz32, qz33, qz34, qz35, qz36, qz37, qz38, qz39, qz3a, qz3b, qz3c, qz3d, Bool.not_true, Bool.not_false, List.cons_append, List.nil_append, List.append_nil]
      exact hK out p' ex' G' s.bare ⟨rfl, ⟨A.step.nx, rfl, A.step.keep, A.step.own⟩, A.gm, A.ok, A.le, A.len, A.inp, A.one⟩ ho hev
  · obtain ⟨l0, hl0⟩ := hok.first
    have e : ((1 : Nat) : Int) = 1 := rfl
    refine ⟨0, 1, p, ex, G, by omega, rfl, A0, by unfold Gr.has; have := hG.ppos; omega, fun inp hi => ?_, ?_⟩
    · rw [hl0]; exact ev_1 hi l0
    · simp (disch := decide) only [z0, z1, h_here, h_skip, true_and, and_true]
end Go.Sy
end

section
set_option maxRecDepth 100000
namespace Go.Sy
open Go.Ev Go.Proofs
section
variable {P : Program} {base : CallF} {st : St} {K : AV → St → Prop} {e : En}
theorem i_buildS2 (z : AV) (x y : A) : wK P base (.i (.buildS 2 1 [z] [((0, 1), x), ((1, 1), y)])) e st K = on1 e x fun v => on1 e y fun u => onER (buildSV 2 1 [z] [((0, 1), v), ((1, 1), u)] st) K := k_2 rfl (fun _ => rfl) K
theorem i_buildS3 (z : AV) (x y w : A) : wK P base (.i (.buildS 3 1 [z] [((0, 1), x), ((1, 1), y), ((2, 1), w)])) e st K = on1 e x fun v => on1 e y fun u => on1 e w fun t => onER (buildSV 3 1 [z] [((0, 1), v), ((1, 1), u), ((2, 1), t)] st) K := k_3 rfl (fun _ => rfl) K
theorem o_buildS2 {z v u : AV} (h : One v) (i : One u) (hk : ∀ st', Made st st' 2 (fun i => [v, u].getD i .bad) → K (.slice st.nx 0 2 2 1 true) st') : onER (buildSV 2 1 [z] [((0, 1), v), ((1, 1), u)] st) K := by
  have e2 : fillP (repeatC [z] 2) [((0, 1), v), ((1, 1), u)] = some [v, u] := by
    simp only [fillP, h.2.1, h.1, i.2.1, i.1, cond_true]
    rfl
  have e3 : lall AV.cell [v, u] = true := by simp only [lall, h.2.2, i.2.2, cond_true]
  simp only [buildSV, e2, onSome, e3, cond_true, force_eq, llen_eq, St.alloc_eq, onER]
  refine hk _ (made_row fun i hi => ?_)
  rw [rowCell_eq, get_e, Nat.mod_eq_of_lt hi]; rfl
theorem o_buildS3 {z v u t : AV} (h : One v) (i : One u) (j : One t) (hk : ∀ st', Made st st' 3 (fun i => [v, u, t].getD i .bad) → K (.slice st.nx 0 3 3 1 true) st') : onER (buildSV 3 1 [z] [((0, 1), v), ((1, 1), u), ((2, 1), t)] st) K := by
  have e2 : fillP (repeatC [z] 3) [((0, 1), v), ((1, 1), u), ((2, 1), t)] = some [v, u, t] := by
    simp only [fillP, h.2.1, h.1, i.2.1, i.1, j.2.1, j.1, cond_true]
    rfl
  have e3 : lall AV.cell [v, u, t] = true := by simp only [lall, h.2.2, i.2.2, j.2.2, cond_true]
  simp only [buildSV, e2, onSome, e3, cond_true, force_eq, llen_eq, St.alloc_eq, onER]
  refine hk _ (made_row fun i hi => ?_)
  rw [rowCell_eq, get_e, Nat.mod_eq_of_lt hi]; rfl
end
variable {base : CallF}

theorem has_flip {G : Gr} {a : Nat} (h : G.has a) : G.has (a ^^^ 1) := by unfold Gr.has at *; rw [xor1_half]; exact h
theorem Aft.kept {g p q m : Nat} {ex : Bool} {G : Gr} {st s : St} (hG : GM st.h st.nx g p q m ex G) (hok : G.OK) (h : Kept st.bare s) : Aft g p q m G 0 st p ex G s :=
  ⟨h.fr, ⟨h.nx, h.fr, fun c hc _ => h.keep c hc, fun c hc => .inl hc⟩, hG.keep h.keep h.nx, hok, Gr.Le.refl G, Nat.le_refl _, rfl, id⟩
theorem own_lt {h : T AO} {nx g p q m : Nat} {ex : Bool} {G : Gr} (k : GM h nx g p q m ex G) {c : Nat} (hc : Own g p q m G c) : c < nx := by
  unfold Own at hc
  rcases hc with h | h | h | ⟨h, h'⟩
  · rw [h]; exact k.g_lt
  · rw [h]; exact k.p_lt
  · rw [h]; exact k.m_lt
  · rw [h']; exact k.q_lt h
/-- behind a call the frame's own list stands again -/
theorem Aft.back {g p q m : Nat} {G G' : Gr} {k : Nat} {s s' : St} {p' : Nat} {ex' : Bool} (h : Aft g p q m G k s p' ex' G' s') (hfr : s.fr = []) : Aft g p q m G k s p' ex' G' (Go.Ev.back s s') :=
  ⟨hfr, ⟨h.step.nx, hfr, h.step.keep, h.step.own⟩, h.gm, h.ok, h.le, h.len, h.inp, h.one⟩

theorem Or_ok (hb : ∀ f args st, f ∈ [39, 41, 44, 52, 53, 54, 55, 63] → base f args st = .no) {b o n c g p q m : Nat} {x ex : Bool} {G : Gr} {a : Nat → Nat} (st : St) (hG : GM st.h st.nx g p q m ex G) (hok : G.OK) (hN : G.parts.length + n ≤ 1048576) (hE : Ed st (Own g p q m G) b o n a) (ha : ∀ i, i < n → G.has (a i)) (K : AV → St → Prop)
    (hK : ∀ x p' ex' G' st', Aft g p q m G n st p' ex' G' st' → G'.has x → (∀ inp, inp 0 = false → ev inp G'.parts x = !conj (fun i => !ev inp G.parts (a i)) n) → K (.tup [.int .u32 (x : Int), .int .i64 0]) st') :
    CW Try.prog base 52 [.ptr g 0, .slice b o n c 1 x] st K := by
  refine fn_rule l52 (hb _ _ _ (by simp)) ?_
  simp only [c52, entry, List.map_cons, List.map_nil, List.getD_cons_zero, List.getD_cons_succ]
  unfold b52
  simp (disch := first | assumption | decide | omega) only [qz00, qz01, qz02, qz03, qz04, qz05, qz06, qz07, qz08, qz09, qz0a, qz0b, qz0c, qz0d, qz0e, qz0f, qz0g, qz0h, qz0i, qz0j, qz0k, qz0l, qz0m, qz0n, qz0o, qz0p, qz0q, qz0r, qz0s, qz0t, qz0u, qz0v, qz0w, qz0x, qz0y, qz0z, qz10, qz11, qz12, qz13, qz14, qz15, qz16, qz17, qz18, qz19, qz1a, qz1b, qz1c, qz1d, qz1e, qz1f, qz1g, qz1h, qz1i, qz1j, qz1k, qz1l, qz1m, qz1n, qz1o, qz1p, qz1q, qz1r, qz1s, qz1t, qz1u, qz1v, qz1w, qz1x, qz1y, qz1z, qz20, qz21, qz22, qz23, qz24, qz25, qz26, qz27, qz28, qz29, qz2a, qz2b, qz2c, qz2d, qz2e, qz2f, qz2g, qz2h, qz2i, qz2j, qz2k, qz2l, qz2m, qz2n, qz2o, qz2p, qz2q, qz2r, qz2s, qz2t, qz2u, qz2v, qz2w, qz2x, qz2y, qz2z, qz30, qz31, qz32, qz33, qz34, qz35, qz36, qz37, qz38, qz39, qz3a, qz3b, qz3c, qz3d, Bool.not_true, Bool.not_false, List.cons_append, List.nil_append, List.append_nil]
  refine o_mkS (l := 0) (c := n) (by omega) (by omega) (by omega) fun s1 h1 => ?_
  simp (disch := first | assumption | decide | omega) only [qz00, qz01, qz02, qz03, qz04, qz05, qz06, qz07, qz08, qz09, qz0a, qz0b, qz0c, qz0d, qz0e, qz0f, qz0g, qz0h, qz0i, qz0j, qz0k, qz0l, qz0m, qz0n, qz0o, qz0p, qz0q, qz0r, qz0s, qz0t, qz0u, qz0v, qz0w, qz0x, qz0y, qz0z, qz10, qz11, qz12, qz13, qz14, qz15, qz16, qz17, qz18, qz19, qz1a, qz1b, qz1c, qz1d, qz1e, qz1f, qz1g, qz1h, qz1i, qz1j, qz1k, qz1l, qz1m, qz1n, qz1o, qz1p, qz1q, qz1r, qz1s, qz1t, qz1u, qz1v, qz1w, qz1x, qz1y, qz1z, qz20, qz21, qz22, qz23, qz24, qz25, qz26, qz27, qz28, qz29, qz2a, qz2b, qz2c, qz2d, qz2e, qz2f, qz2g, qz2h, qz2i, qz2j, qz2k, qz2l, qz2m, qz2n, qz2o, qz2p, qz2q, qz2r, qz2s, qz2t, qz2u, qz2v, qz2w, qz2x, qz2y, qz2z, qz30, qz31, qz32, qz33, qz34, qz35, qz36, qz37, qz38, qz39, qz3a, qz3b, qz3c, qz3d, Bool.not_true, Bool.not_false, List.cons_append, List.nil_append, List.append_nil]
  have n1 : s1.nx = st.nx + 1 := h1.nx
  have k1 : Kept st.bare s1 := (Kept.refl _).made h1
  have l1 : rlen s1.h st.nx = n := h1.len.trans (Nat.mul_one n)
  refine wC_loopH (fun mm L s => ∃ k : Nat, k ≤ n ∧ mm = n - k ∧ Kept st.bare s ∧ st.nx < s.nx ∧ rlen s.h st.nx = n ∧ (∀ j, j < k → rat s.h st.nx j = .int .u32 ((a j ^^^ 1 : Nat) : Int)) ∧ Has L 0 (.ptr g 0) ∧ Has L 6 (.slice st.bare.nx 0 k n 1 true) ∧ Has L 14 (.slice b o n c 1 x) ∧ Has L 15 (.int .i64 (n : Int)) ∧ Has L 16 (.int .i64 (k : Int))) ?_ n ?_
  · rintro mm L s ⟨k, hk, rfl, ks, ns, ls, vs, i0, i6, i14, i15, i16⟩
    unfold Hold
    by_cases hkn : k < n
    · have kb : hget s.h b = hget st.h b := ks.keep b hE.lt
      have e2 : o + k * 1 < rlen s.h b := by rw [rlen_same kb]; have := hE.len; omega
      have e3 : rat s.h b (o + k * 1) = .int .u32 (a k : Int) := by rw [Nat.mul_one, rat_same kb]; exact hE.cell k hkn
      have e4 : a k ≤ 4294967295 := by have : a k / 2 < G.parts.length := ha k hkn; omega
      simp (disch := first | assumption | decide | omega) only [qz3e, qz3f, qz3g, qz3h, qz3i, qz3j, r_onh i0, r_onh i6, r_onh i14, r_onh i15, r_onh i16, e3, qz00, qz01, qz02, qz03, qz04, qz05, qz06, qz07, qz08, qz09, qz0a, qz0b, qz0c, qz0d, qz0e, qz0f, qz0g, qz0h, qz0i, qz0j, qz0k, qz0l, qz0m, qz0n, qz0o, qz0p, qz0q, qz0r, qz0s, qz0t, qz0u, qz0v, qz0w, qz0x, qz0y, qz0z, qz10, qz11, qz12, qz13, qz14, qz15, qz16, qz17, qz18, qz19, qz1a, qz1b, qz1c, qz1d, qz1e, qz1f, qz1g, qz1h, qz1i, qz1j, qz1k, qz1l, qz1m, qz1n, qz1o, qz1p, qz1q, qz1r, qz1s, qz1t, qz1u, qz1v, qz1w, qz1x, qz1y, qz1z, qz20, qz21, qz22, qz23, qz24, qz25, qz26, qz27, qz28, qz29, qz2a, qz2b, qz2c, qz2d, qz2e, qz2f, qz2g, qz2h, qz2i, qz2j, qz2k, qz2l, qz2m, qz2n, qz2o, qz2p, qz2q, qz2r, qz2s, qz2t, qz2u, qz2v, qz2w, qz2x, qz2y, qz2z, qz30, qz31, qz32, qz33, qz34, qz35, qz36, qz37, qz38, qz39, qz3a, qz3b, qz3c, qz3d, Bool.not_true, Bool.not_false, List.cons_append, List.nil_append, List.append_nil]
      refine o_buildS1 ⟨rfl, rfl, rfl⟩ fun s2 h2 => ?_
      simp (disch := first | assumption | decide | omega) only [qz00, qz01, qz02, qz03, qz04, qz05, qz06, qz07, qz08, qz09, qz0a, qz0b, qz0c, qz0d, qz0e, qz0f, qz0g, qz0h, qz0i, qz0j, qz0k, qz0l, qz0m, qz0n, qz0o, qz0p, qz0q, qz0r, qz0s, qz0t, qz0u, qz0v, qz0w, qz0x, qz0y, qz0z, qz10, qz11, qz12, qz13, qz14, qz15, qz16, qz17, qz18, qz19, qz1a, qz1b, qz1c, qz1d, qz1e, qz1f, qz1g, qz1h, qz1i, qz1j, qz1k, qz1l, qz1m, qz1n, qz1o, qz1p, qz1q, qz1r, qz1s, qz1t, qz1u, qz1v, qz1w, qz1x, qz1y, qz1z, qz20, qz21, qz22, qz23, qz24, qz25, qz26, qz27, qz28, qz29, qz2a, qz2b, qz2c, qz2d, qz2e, qz2f, qz2g, qz2h, qz2i, qz2j, qz2k, qz2l, qz2m, qz2n, qz2o, qz2p, qz2q, qz2r, qz2s, qz2t, qz2u, qz2v, qz2w, qz2x, qz2y, qz2z, qz30, qz31, qz32, qz33, qz34, qz35, qz36, qz37, qz38, qz39, qz3a, qz3b, qz3c, qz3d, Bool.not_true, Bool.not_false, List.cons_append, List.nil_append, List.append_nil]
      have n2 : s2.nx = s.nx + 1 := h2.nx
      have kn : hget s2.h st.nx = hget s.h st.nx := h2.keep _ (by omega)
      refine o_app1 (by show 0 + k < rlen s2.h st.nx; rw [rlen_same kn, ls]; omega) (by omega) h2.len (h2.cell 0 (by decide)) fun s3 h3 => ?_
      have n3 : s3.nx = s2.nx := h3.nx
      simp (disch := first | assumption | decide | omega) only [r_onh i16, v_addN, qz00, qz01, qz02, qz03, qz04, qz05, qz06, qz07, qz08, qz09, qz0a, qz0b, qz0c, qz0d, qz0e, qz0f, qz0g, qz0h, qz0i, qz0j, qz0k, qz0l, qz0m, qz0n, qz0o, qz0p, qz0q, qz0r, qz0s, qz0t, qz0u, qz0v, qz0w, qz0x, qz0y, qz0z, qz10, qz11, qz12, qz13, qz14, qz15, qz16, qz17, qz18, qz19, qz1a, qz1b, qz1c, qz1d, qz1e, qz1f, qz1g, qz1h, qz1i, qz1j, qz1k, qz1l, qz1m, qz1n, qz1o, qz1p, qz1q, qz1r, qz1s, qz1t, qz1u, qz1v, qz1w, qz1x, qz1y, qz1z, qz20, qz21, qz22, qz23, qz24, qz25, qz26, qz27, qz28, qz29, qz2a, qz2b, qz2c, qz2d, qz2e, qz2f, qz2g, qz2h, qz2i, qz2j, qz2k, qz2l, qz2m, qz2n, qz2o, qz2p, qz2q, qz2r, qz2s, qz2t, qz2u, qz2v, qz2w, qz2x, qz2y, qz2z, qz30, qz31, qz32, qz33, qz34, qz35, qz36, qz37, qz38, qz39, qz3a, qz3b, qz3c, qz3d, Bool.not_true, Bool.not_false, List.cons_append, List.nil_append, List.append_nil]
      refine ⟨n - (k + 1), by omega, k + 1, by omega, rfl, (ks.made h2).wrote h3 (Nat.le_refl _), by omega, h3.len.trans ((rlen_same kn).trans ls), fun j hj => ?_, ?_⟩
      · have e5 := h3.cell j
        by_cases hjk : j = k
        · rw [if_pos (by omega)] at e5
          rw [hjk]; rw [hjk] at e5; exact e5
        · rw [if_neg (by omega)] at e5
          exact e5.trans ((rat_same kn j).trans (vs j (by omega)))
      · simp (disch := decide) only [z0, z1, h_here, h_skip, i0, i14, i15, true_and, and_true]
    · have hkn' : k = n := by omega
      subst hkn'
      simp (disch := first | assumption | decide | omega) only [r_onh i0, r_onh i6, r_onh i14, r_onh i15, r_onh i16, qz00, qz01, qz02, qz03, qz04, qz05, qz06, qz07, qz08, qz09, qz0a, qz0b, qz0c, qz0d, qz0e, qz0f, qz0g, qz0h, qz0i, qz0j, qz0k, qz0l, qz0m, qz0n, qz0o, qz0p, qz0q, qz0r, qz0s, qz0t, qz0u, qz0v, qz0w, qz0x, qz0y, qz0z, qz10, qz11, qz12, qz13, qz14, qz15, qz16, qz17, qz18, qz19, qz1a, qz1b, qz1c, qz1d, qz1e, qz1f, qz1g, qz1h, qz1i, qz1j, qz1k, qz1l, qz1m, qz1n, qz1o, qz1p, qz1q, qz1r, qz1s, qz1t, qz1u, qz1v, qz1w, qz1x, qz1y, qz1z, qz20, qz21, qz22, qz23, qz24, qz25, qz26, qz27, qz28, qz29, qz2a, qz2b, qz2c, qz2d, qz2e, qz2f, qz2g, qz2h, qz2i, qz2j, qz2k, qz2l, qz2m, qz2n, qz2o, qz2p, qz2q, qz2r, qz2s, qz2t, qz2u, qz2v, qz2w, qz2x, qz2y, qz2z, qz30, qz31, qz32, qz33, qz34, qz35, qz36, qz37, qz38, qz39, qz3a, qz3b, qz3c, qz3d, Bool.not_true, Bool.not_false, List.cons_append, List.nil_append, List.append_nil]
      have A := Aft.kept hG hok ks
      refine And_ok (fun f a s hf => hb _ a s (by simp at hf ⊢; rcases hf with h | h | h | h | h | h | h <;> simp [h])) (a := fun i => a i ^^^ 1) s A.gm hok hN ⟨ns, fun h => by have := own_lt hG h; have e : st.bare.nx = st.nx := rfl; omega, by show 0 + k ≤ rlen s.h st.nx; omega, fun i hi => by rw [Nat.zero_add]; exact vs i hi⟩ (fun i hi => has_flip (ha i hi)) _ fun y p' ex' G' s2 B hy hev => ?_
      have B' := (A.trans (B.back ks.fr)).more (j := k) (by omega)
      generalize back s s2 = t at B'
      have e6 : y ≤ 4294967295 := by have h1 : y / 2 < G'.parts.length := hy; have := B'.ok.most; omega
      simp (disch := first | assumption | decide | omega) only [qz3e, qz3f, qz3g, qz3h, qz3i, qz3j, qz00, qz01, qz02, qz03, qz04, qz05, qz06, qz07, qz08, qz09, qz0a, qz0b, qz0c, qz0d, qz0e, qz0f, qz0g, qz0h, qz0i, qz0j, qz0k, qz0l, qz0m, qz0n, qz0o, qz0p, qz0q, qz0r, qz0s, qz0t, qz0u, qz0v, qz0w, qz0x, qz0y, qz0z, qz10, qz11, qz12, qz13, qz14, qz15, qz16, qz17, qz18, qz19, qz1a, qz1b, qz1c, qz1d, qz1e, qz1f, qz1g, qz1h, qz1i, qz1j, qz1k, qz1l, qz1m, qz1n, qz1o, qz1p, qz1q, qz1r, qz1s, qz1t, qz1u, qz1v, qz1w, qz1x, qz1y, qz1z, qz20, qz21, qz22, qz23, qz24, qz25, qz26, qz27, qz28, qz29, qz2a, qz2b, qz2c, qz2d, qz2e, qz2f, qz2g, qz2h, qz2i, qz2j, qz2k, qz2l, qz2m, qz2n, qz2o, qz2p, qz2q, qz2r, qz2s, qz2t, qz2u, qz2v, qz2w, qz2x, qz2y, qz2z, qz30, qz31, qz32, qz33, qz34, qz35, qz36, qz37, qz38, qz39, qz3a, qz3b, qz3c, qz3d, Bool.not_true, Bool.not_false, List.cons_append, List.nil_append, List.append_nil]
      refine hK (y ^^^ 1) p' ex' G' t.bare ⟨rfl, ⟨B'.step.nx, rfl, B'.step.keep, B'.step.own⟩, B'.gm, B'.ok, B'.le, B'.len, B'.inp, B'.one⟩ (has_flip hy) fun inp hi => ?_
      rw [ev_not, hev inp hi]
      congr 1
      have : ∀ k', k' ≤ k → conj (fun i => ev inp G.parts (a i ^^^ 1)) k' = conj (fun i => !ev inp G.parts (a i)) k' := fun k' => by
        induction k' with
        | zero => intro _; rfl
        | succ k' ih => intro hk'; simp only [conj]; rw [ih (by omega), ev_not]
      exact this k (Nat.le_refl _)
  · refine ⟨0, by omega, rfl, k1, by omega, l1, fun j hj => absurd hj (Nat.not_lt_zero _), ?_⟩
    simp (disch := decide) only [z0, z1, h_here, h_skip, true_and, and_true]
end Go.Sy
end

section
set_option maxRecDepth 100000
namespace Go.Sy
open Go.Ev Go.Proofs
variable {base : CallF}

def two (u v : Nat) (i : Nat) : Nat := if i = 0 then u else v
def three (u v w : Nat) (i : Nat) : Nat := if i = 0 then u else if i = 1 then v else w
theorem has_two {G : Gr} {u v : Nat} (hu : G.has u) (hv : G.has v) (i : Nat) : G.has (two u v i) := by unfold two; split <;> assumption
theorem has_three {G : Gr} {u v w : Nat} (hu : G.has u) (hv : G.has v) (hw : G.has w) (i : Nat) : G.has (three u v w i) := by
  unfold three
  split
  · exact hu
  · split <;> assumption
theorem ed1 {s s' : St} {own : Nat → Prop} {u : Nat} (h : Made s s' 1 (fun _ => .int .u32 (u : Int))) (ho : ∀ c, own c → c < s.nx) : Ed s' own s.nx 0 1 (fun _ => u) :=
  ⟨by have := h.nx; omega, fun k => Nat.lt_irrefl _ (ho _ k), by rw [h.len]; decide, fun i hi => by rw [Nat.zero_add]; exact h.cell i hi⟩
theorem ed2 {s s' : St} {own : Nat → Prop} {u v : Nat} (h : Made s s' 2 (fun i => [AV.int .u32 (u : Int), .int .u32 (v : Int)].getD i .bad)) (ho : ∀ c, own c → c < s.nx) : Ed s' own s.nx 0 2 (two u v) :=
  ⟨by have := h.nx; omega, fun k => Nat.lt_irrefl _ (ho _ k), by rw [h.len]; decide, fun i hi => by
    rw [Nat.zero_add, h.cell i hi]
    have : i = 0 ∨ i = 1 := by omega
    rcases this with rfl | rfl <;> rfl⟩
theorem ed3 {s s' : St} {own : Nat → Prop} {u v w : Nat} (h : Made s s' 3 (fun i => [AV.int .u32 (u : Int), .int .u32 (v : Int), .int .u32 (w : Int)].getD i .bad)) (ho : ∀ c, own c → c < s.nx) : Ed s' own s.nx 0 3 (three u v w) :=
  ⟨by have := h.nx; omega, fun k => Nat.lt_irrefl _ (ho _ k), by rw [h.len]; decide, fun i hi => by
    rw [Nat.zero_add, h.cell i hi]
    have : i = 0 ∨ i = 1 ∨ i = 2 := by omega
    rcases this with rfl | rfl | rfl <;> rfl⟩
theorem Aft.made {g p q m : Nat} {ex' : Bool} {G G' : Gr} {k : Nat} {st s s' : St} {p' n : Nat} {f : Nat → AV} (h : Aft g p q m G k st p' ex' G' s) (i : Made s s' n f) : Aft g p q m G k st p' ex' G' s' := by
  have a := h.trans (Aft.kept h.gm h.ok (s := s') ⟨by show s.nx ≤ s'.nx; have := i.nx; omega, by rw [i.fr]; exact h.fr, fun c hc => i.keep c (by have : c < s.nx := hc; omega)⟩)
  exact a.more (by omega)
/-- a call that leaves the graph alone -/
theorem Aft.ext {g p q m : Nat} {ex' : Bool} {G G' : Gr} {k : Nat} {st s s' : St} {p' : Nat} (h : Aft g p q m G k st p' ex' G' s) (i : Ext s s') : Aft g p q m G k st p' ex' G' (Go.Ev.back s s') := by
  have a := h.trans (Aft.kept h.gm h.ok (s := Go.Ev.back s s') ⟨i.nx, h.fr, i.keep⟩)
  exact a.more (by omega)
theorem Aft.bare {g p q m : Nat} {ex' : Bool} {G G' : Gr} {k : Nat} {st s : St} {p' : Nat} (h : Aft g p q m G k st p' ex' G' s) : Aft g p q m G k st p' ex' G' s.bare :=
  ⟨rfl, ⟨h.step.nx, rfl, h.step.keep, h.step.own⟩, h.gm, h.ok, h.le, h.len, h.inp, h.one⟩

theorem If_ok (hb : ∀ f args st, f ∈ [38, 39, 41, 44, 52, 53, 54, 55, 63] → base f args st = .no) {g p q m c a b : Nat} {ex : Bool} {G : Gr} (st : St) (hG : GM st.h st.nx g p q m ex G) (hok : G.OK) (hN : G.parts.length + 6 ≤ 1048576) (hc : G.has c) (ha : G.has a) (hb' : G.has b) (K : AV → St → Prop)
    (hK : ∀ x p' ex' G' st', Aft g p q m G 6 st p' ex' G' st' → G'.has x → (∀ inp, inp 0 = false → ev inp G'.parts x = if ev inp G.parts c = true then ev inp G.parts a else ev inp G.parts b) → K (.tup [.int .u32 (x : Int), .int .i64 0]) st') :
    CW Try.prog base 38 [.ptr g 0, .int .u32 (c : Int), .int .u32 (a : Int), .int .u32 (b : Int)] st K := by
  refine fn_rule l38 (hb _ _ _ (by simp)) ?_
  simp only [c38, entry, List.map_cons, List.map_nil, List.getD_cons_zero, List.getD_cons_succ]
  unfold b38
  have hbA : ∀ f args st, f ∈ [39, 41, 44, 53, 54, 55, 63] → base f args st = .no := fun f a s hf => hb _ a s (by simp at hf ⊢; rcases hf with h | h | h | h | h | h | h <;> simp [h])
  have hbO : ∀ f args st, f ∈ [39, 41, 44, 52, 53, 54, 55, 63] → base f args st = .no := fun f a s hf => hb _ a s (by simp at hf ⊢; rcases hf with h | h | h | h | h | h | h | h <;> simp [h])
  have A0 : Aft g p q m G 0 st p ex G st.bare := Aft.kept hG hok (Kept.refl _)
  simp (disch := first | assumption | decide | omega) only [qz3e, qz3f, qz3g, qz3h, qz3i, qz3j, i_buildS3, qz00, qz01, qz02, qz03, qz04, qz05, qz06, qz07, qz08, qz09, qz0a, qz0b, qz0c, qz0d, qz0e, qz0f, qz0g, qz0h, qz0i, qz0j, qz0k, qz0l, qz0m, qz0n, qz0o, qz0p, qz0q, qz0r, qz0s, qz0t, qz0u, qz0v, qz0w, qz0x, qz0y, qz0z, qz10, qz11, qz12, qz13, qz14, qz15, qz16, qz17, qz18, qz19, qz1a, qz1b, qz1c, qz1d, qz1e, qz1f, qz1g, qz1h, qz1i, qz1j, qz1k, qz1l, qz1m, qz1n, qz1o, qz1p, qz1q, qz1r, qz1s, qz1t, qz1u, qz1v, qz1w, qz1x, qz1y, qz1z, qz20, qz21, qz22, qz23, qz24, qz25, qz26, qz27, qz28, qz29, qz2a, qz2b, qz2c, qz2d, qz2e, qz2f, qz2g, qz2h, qz2i, qz2j, qz2k, qz2l, qz2m, qz2n, qz2o, qz2p, qz2q, qz2r, qz2s, qz2t, qz2u, qz2v, qz2w, qz2x, qz2y, qz2z, qz30, qz31, qz32, qz33, qz34, qz35, qz36, qz37, qz38, qz39, qz3a, qz3b, qz3c, qz3d, Bool.not_true, Bool.not_false, List.cons_append, List.nil_append, List.append_nil]
  refine o_buildS3 ⟨rfl, rfl, rfl⟩ ⟨rfl, rfl, rfl⟩ ⟨rfl, rfl, rfl⟩ fun s1 h1 => ?_
  have A1 := A0.made h1
  simp (disch := first | assumption | decide | omega) only [qz3e, qz3f, qz3g, qz3h, qz3i, qz3j, qz00, qz01, qz02, qz03, qz04, qz05, qz06, qz07, qz08, qz09, qz0a, qz0b, qz0c, qz0d, qz0e, qz0f, qz0g, qz0h, qz0i, qz0j, qz0k, qz0l, qz0m, qz0n, qz0o, qz0p, qz0q, qz0r, qz0s, qz0t, qz0u, qz0v, qz0w, qz0x, qz0y, qz0z, qz10, qz11, qz12, qz13, qz14, qz15, qz16, qz17, qz18, qz19, qz1a, qz1b, qz1c, qz1d, qz1e, qz1f, qz1g, qz1h, qz1i, qz1j, qz1k, qz1l, qz1m, qz1n, qz1o, qz1p, qz1q, qz1r, qz1s, qz1t, qz1u, qz1v, qz1w, qz1x, qz1y, qz1z, qz20, qz21, qz22, qz23, qz24, qz25, qz26, qz27, qz28, qz29, qz2a, qz2b, qz2c, qz2d, qz2e, qz2f, qz2g, qz2h, qz2i, qz2j, qz2k, qz2l, qz2m, qz2n, qz2o, qz2p, qz2q, qz2r, qz2s, qz2t, qz2u, qz2v, qz2w, qz2x, qz2y, qz2z, qz30, qz31, qz32, qz33, qz34, qz35, qz36, qz37, qz38, qz39, qz3a, qz3b, qz3c, qz3d, Bool.not_true, Bool.not_false, List.cons_append, List.nil_append, List.append_nil]
  refine thereG_ok (fun f a s hf => hb _ a s (by simp at hf ⊢; rcases hf with h | h | h | h <;> simp [h])) (by decide) s1 A1.gm (by omega) (ed3 h1 fun c hc => own_lt A0.gm hc) (fun i _ => has_three hc ha hb' i) _ fun s2 e2 => ?_
  have A2 := A1.ext e2
  generalize back s1 s2 = t2 at A2
  simp (disch := first | assumption | decide | omega) only [qz3e, qz3f, qz3g, qz3h, qz3i, qz3j, i_buildS2, qz00, qz01, qz02, qz03, qz04, qz05, qz06, qz07, qz08, qz09, qz0a, qz0b, qz0c, qz0d, qz0e, qz0f, qz0g, qz0h, qz0i, qz0j, qz0k, qz0l, qz0m, qz0n, qz0o, qz0p, qz0q, qz0r, qz0s, qz0t, qz0u, qz0v, qz0w, qz0x, qz0y, qz0z, qz10, qz11, qz12, qz13, qz14, qz15, qz16, qz17, qz18, qz19, qz1a, qz1b, qz1c, qz1d, qz1e, qz1f, qz1g, qz1h, qz1i, qz1j, qz1k, qz1l, qz1m, qz1n, qz1o, qz1p, qz1q, qz1r, qz1s, qz1t, qz1u, qz1v, qz1w, qz1x, qz1y, qz1z, qz20, qz21, qz22, qz23, qz24, qz25, qz26, qz27, qz28, qz29, qz2a, qz2b, qz2c, qz2d, qz2e, qz2f, qz2g, qz2h, qz2i, qz2j, qz2k, qz2l, qz2m, qz2n, qz2o, qz2p, qz2q, qz2r, qz2s, qz2t, qz2u, qz2v, qz2w, qz2x, qz2y, qz2z, qz30, qz31, qz32, qz33, qz34, qz35, qz36, qz37, qz38, qz39, qz3a, qz3b, qz3c, qz3d, Bool.not_true, Bool.not_false, List.cons_append, List.nil_append, List.append_nil]
  refine o_buildS2 ⟨rfl, rfl, rfl⟩ ⟨rfl, rfl, rfl⟩ fun s3 h3 => ?_
  have A3 := A2.made h3
  simp (disch := first | assumption | decide | omega) only [qz3e, qz3f, qz3g, qz3h, qz3i, qz3j, qz00, qz01, qz02, qz03, qz04, qz05, qz06, qz07, qz08, qz09, qz0a, qz0b, qz0c, qz0d, qz0e, qz0f, qz0g, qz0h, qz0i, qz0j, qz0k, qz0l, qz0m, qz0n, qz0o, qz0p, qz0q, qz0r, qz0s, qz0t, qz0u, qz0v, qz0w, qz0x, qz0y, qz0z, qz10, qz11, qz12, qz13, qz14, qz15, qz16, qz17, qz18, qz19, qz1a, qz1b, qz1c, qz1d, qz1e, qz1f, qz1g, qz1h, qz1i, qz1j, qz1k, qz1l, qz1m, qz1n, qz1o, qz1p, qz1q, qz1r, qz1s, qz1t, qz1u, qz1v, qz1w, qz1x, qz1y, qz1z, qz20, qz21, qz22, qz23, qz24, qz25, qz26, qz27, qz28, qz29, qz2a, qz2b, qz2c, qz2d, qz2e, qz2f, qz2g, qz2h, qz2i, qz2j, qz2k, qz2l, qz2m, qz2n, qz2o, qz2p, qz2q, qz2r, qz2s, qz2t, qz2u, qz2v, qz2w, qz2x, qz2y, qz2z, qz30, qz31, qz32, qz33, qz34, qz35, qz36, qz37, qz38, qz39, qz3a, qz3b, qz3c, qz3d, Bool.not_true, Bool.not_false, List.cons_append, List.nil_append, List.append_nil]
  refine And_ok hbA (a := two c a) s3 A3.gm hok (by omega) (ed2 h3 fun c hc => own_lt A2.gm hc) (fun i _ => has_two hc ha i) _ fun y p4 ex4 G4 s4 B4 hy hev4 => ?_
  have A4 := A3.trans (B4.back A3.fr)
  generalize back s3 s4 = t4 at A4
  have e4 : c ≤ 4294967295 := by have : c / 2 < G.parts.length := hc; omega
  have hl4 := A4.len
  simp (disch := first | assumption | decide | omega) only [qz3e, qz3f, qz3g, qz3h, qz3i, qz3j, i_buildS2, qz00, qz01, qz02, qz03, qz04, qz05, qz06, qz07, qz08, qz09, qz0a, qz0b, qz0c, qz0d, qz0e, qz0f, qz0g, qz0h, qz0i, qz0j, qz0k, qz0l, qz0m, qz0n, qz0o, qz0p, qz0q, qz0r, qz0s, qz0t, qz0u, qz0v, qz0w, qz0x, qz0y, qz0z, qz10, qz11, qz12, qz13, qz14, qz15, qz16, qz17, qz18, qz19, qz1a, qz1b, qz1c, qz1d, qz1e, qz1f, qz1g, qz1h, qz1i, qz1j, qz1k, qz1l, qz1m, qz1n, qz1o, qz1p, qz1q, qz1r, qz1s, qz1t, qz1u, qz1v, qz1w, qz1x, qz1y, qz1z, qz20, qz21, qz22, qz23, qz24, qz25, qz26, qz27, qz28, qz29, qz2a, qz2b, qz2c, qz2d, qz2e, qz2f, qz2g, qz2h, qz2i, qz2j, qz2k, qz2l, qz2m, qz2n, qz2o, qz2p, qz2q, qz2r, qz2s, qz2t, qz2u, qz2v, qz2w, qz2x, qz2y, qz2z, qz30, qz31, qz32, qz33, qz34, qz35, qz36, qz37, qz38, qz39, qz3a, qz3b, qz3c, qz3d, Bool.not_true, Bool.not_false, List.cons_append, List.nil_append, List.append_nil]
  refine o_buildS2 ⟨rfl, rfl, rfl⟩ ⟨rfl, rfl, rfl⟩ fun s5 h5 => ?_
  have A5 := A4.made h5
  simp (disch := first | assumption | decide | omega) only [qz3e, qz3f, qz3g, qz3h, qz3i, qz3j, qz00, qz01, qz02, qz03, qz04, qz05, qz06, qz07, qz08, qz09, qz0a, qz0b, qz0c, qz0d, qz0e, qz0f, qz0g, qz0h, qz0i, qz0j, qz0k, qz0l, qz0m, qz0n, qz0o, qz0p, qz0q, qz0r, qz0s, qz0t, qz0u, qz0v, qz0w, qz0x, qz0y, qz0z, qz10, qz11, qz12, qz13, qz14, qz15, qz16, qz17, qz18, qz19, qz1a, qz1b, qz1c, qz1d, qz1e, qz1f, qz1g, qz1h, qz1i, qz1j, qz1k, qz1l, qz1m, qz1n, qz1o, qz1p, qz1q, qz1r, qz1s, qz1t, qz1u, qz1v, qz1w, qz1x, qz1y, qz1z, qz20, qz21, qz22, qz23, qz24, qz25, qz26, qz27, qz28, qz29, qz2a, qz2b, qz2c, qz2d, qz2e, qz2f, qz2g, qz2h, qz2i, qz2j, qz2k, qz2l, qz2m, qz2n, qz2o, qz2p, qz2q, qz2r, qz2s, qz2t, qz2u, qz2v, qz2w, qz2x, qz2y, qz2z, qz30, qz31, qz32, qz33, qz34, qz35, qz36, qz37, qz38, qz39, qz3a, qz3b, qz3c, qz3d, Bool.not_true, Bool.not_false, List.cons_append, List.nil_append, List.append_nil]
  refine And_ok hbA (a := two (c ^^^ 1) b) s5 A5.gm A5.ok (by omega) (ed2 h5 fun c hc => own_lt A4.gm hc) (fun i _ => has_two (A4.le.has (has_flip hc)) (A4.le.has hb') i) _ fun z p6 ex6 G6 s6 B6 hz hev6 => ?_
  have A6 := A5.trans (B6.back A5.fr)
  generalize back s5 s6 = t6 at A6
  have hl6 := A6.len
  simp (disch := first | assumption | decide | omega) only [qz3e, qz3f, qz3g, qz3h, qz3i, qz3j, i_buildS2, qz00, qz01, qz02, qz03, qz04, qz05, qz06, qz07, qz08, qz09, qz0a, qz0b, qz0c, qz0d, qz0e, qz0f, qz0g, qz0h, qz0i, qz0j, qz0k, qz0l, qz0m, qz0n, qz0o, qz0p, qz0q, qz0r, qz0s, qz0t, qz0u, qz0v, qz0w, qz0x, qz0y, qz0z, qz10, qz11, qz12, qz13, qz14, qz15, qz16, qz17, qz18, qz19, qz1a, qz1b, qz1c, qz1d, qz1e, qz1f, qz1g, qz1h, qz1i, qz1j, qz1k, qz1l, qz1m, qz1n, qz1o, qz1p, qz1q, qz1r, qz1s, qz1t, qz1u, qz1v, qz1w, qz1x, qz1y, qz1z, qz20, qz21, qz22, qz23, qz24, qz25, qz26, qz27, qz28, qz29, qz2a, qz2b, qz2c, qz2d, qz2e, qz2f, qz2g, qz2h, qz2i, qz2j, qz2k, qz2l, qz2m, qz2n, qz2o, qz2p, qz2q, qz2r, qz2s, qz2t, qz2u, qz2v, qz2w, qz2x, qz2y, qz2z, qz30, qz31, qz32, qz33, qz34, qz35, qz36, qz37, qz38, qz39, qz3a, qz3b, qz3c, qz3d, Bool.not_true, Bool.not_false, List.cons_append, List.nil_append, List.append_nil]
  refine o_buildS2 ⟨rfl, rfl, rfl⟩ ⟨rfl, rfl, rfl⟩ fun s7 h7 => ?_
  have A7 := A6.made h7
  simp (disch := first | assumption | decide | omega) only [qz3e, qz3f, qz3g, qz3h, qz3i, qz3j, qz00, qz01, qz02, qz03, qz04, qz05, qz06, qz07, qz08, qz09, qz0a, qz0b, qz0c, qz0d, qz0e, qz0f, qz0g, qz0h, qz0i, qz0j, qz0k, qz0l, qz0m, qz0n, qz0o, qz0p, qz0q, qz0r, qz0s, qz0t, qz0u, qz0v, qz0w, qz0x, qz0y, qz0z, qz10, qz11, qz12, qz13, qz14, qz15, qz16, qz17, qz18, qz19, qz1a, qz1b, qz1c, qz1d, qz1e, qz1f, qz1g, qz1h, qz1i, qz1j, qz1k, qz1l, qz1m, qz1n, qz1o, qz1p, qz1q, qz1r, qz1s, qz1t, qz1u, qz1v, qz1w, qz1x, qz1y, qz1z, qz20, qz21, qz22, qz23, qz24, qz25, qz26, qz27, qz28, qz29, qz2a, qz2b, qz2c, qz2d, qz2e, qz2f, qz2g, qz2h, qz2i, qz2j, qz2k, qz2l, qz2m, qz2n, qz2o, qz2p, qz2q, qz2r, qz2s, qz2t, qz2u, qz2v, qz2w, qz2x, qz2y, qz2z, qz30, qz31, qz32, qz33, qz34, qz35, qz36, qz37, qz38, qz39, qz3a, qz3b, qz3c, qz3d, Bool.not_true, Bool.not_false, List.cons_append, List.nil_append, List.append_nil]
  refine Or_ok hbO (a := two y z) s7 A7.gm A7.ok (by omega) (ed2 h7 fun c hc => own_lt A6.gm hc) (fun i _ => has_two (B6.le.has hy) hz i) _ fun w p8 ex8 G8 s8 B8 hw hev8 => ?_
  have A8 := A7.trans (B8.back A7.fr)
  generalize back s7 s8 = t8 at A8
  simp (disch := first | assumption | decide | omega) only [qz3e, qz3f, qz3g, qz3h, qz3i, qz3j, qz00, qz01, qz02, qz03, qz04, qz05, qz06, qz07, qz08, qz09, qz0a, qz0b, qz0c, qz0d, qz0e, qz0f, qz0g, qz0h, qz0i, qz0j, qz0k, qz0l, qz0m, qz0n, qz0o, qz0p, qz0q, qz0r, qz0s, qz0t, qz0u, qz0v, qz0w, qz0x, qz0y, qz0z, qz10, qz11, qz12, qz13, qz14, qz15, qz16, qz17, qz18, qz19, qz1a, qz1b, qz1c, qz1d, qz1e, qz1f, qz1g, qz1h, qz1i, qz1j, qz1k, qz1l, qz1m, qz1n, qz1o, qz1p, qz1q, qz1r, qz1s, qz1t, qz1u, qz1v, qz1w, qz1x, qz1y, qz1z, qz20, qz21, qz22, qz23, qz24, qz25, qz26, qz27, qz28, qz29, qz2a, qz2b, qz2c, qz2d, qz2e, qz2f, qz2g, qz2h, qz2i, qz2j, qz2k, qz2l, qz2m, qz2n, qz2o, qz2p, qz2q, qz2r, qz2s, qz2t, qz2u, qz2v, qz2w, qz2x, qz2y, qz2z, qz30, qz31, qz32, qz33, qz34, qz35, qz36, qz37, qz38, qz39, qz3a, qz3b, qz3c, qz3d, Bool.not_true, Bool.not_false, List.cons_append, List.nil_append, List.append_nil]
  refine hK w p8 ex8 G8 t8.bare A8.bare hw fun inp hi => ?_
  rw [hev8 inp hi]
  simp only [conj, two, if_true, if_neg (show ¬ (1 : Nat) = 0 by decide)]
  rw [B6.le.ev hy, hev4 inp hi, hev6 inp hi]
  simp only [conj, two, if_true, if_neg (show ¬ (1 : Nat) = 0 by decide)]
  rw [A4.le.ev (has_flip hc), A4.le.ev hb', ev_not]
  cases ev inp G.parts c <;> cases ev inp G.parts a <;> cases ev inp G.parts b <;> rfl

theorem Same_ok (hb : ∀ f args st, f ∈ [37, 38, 39, 41, 44, 52, 53, 54, 55, 63] → base f args st = .no) {g p q m a b : Nat} {ex : Bool} {G : Gr} (st : St) (hG : GM st.h st.nx g p q m ex G) (hok : G.OK) (hN : G.parts.length + 6 ≤ 1048576) (ha : G.has a) (hb' : G.has b) (K : AV → St → Prop)
    (hK : ∀ x p' ex' G' st', Aft g p q m G 6 st p' ex' G' st' → G'.has x → (∀ inp, inp 0 = false → ev inp G'.parts x = (ev inp G.parts a == ev inp G.parts b)) → K (.tup [.int .u32 (x : Int), .int .i64 0]) st') :
    CW Try.prog base 37 [.ptr g 0, .int .u32 (a : Int), .int .u32 (b : Int)] st K := by
  refine fn_rule l37 (hb _ _ _ (by simp)) ?_
  simp only [c37, entry, List.map_cons, List.map_nil, List.getD_cons_zero, List.getD_cons_succ]
  unfold b37
  have A0 : Aft g p q m G 0 st p ex G st.bare := Aft.kept hG hok (Kept.refl _)
  have e4 : b ≤ 4294967295 := by have : b / 2 < G.parts.length := hb'; omega
  simp (disch := first | assumption | decide | omega) only [qz3e, qz3f, qz3g, qz3h, qz3i, qz3j, qz00, qz01, qz02, qz03, qz04, qz05, qz06, qz07, qz08, qz09, qz0a, qz0b, qz0c, qz0d, qz0e, qz0f, qz0g, qz0h, qz0i, qz0j, qz0k, qz0l, qz0m, qz0n, qz0o, qz0p, qz0q, qz0r, qz0s, qz0t, qz0u, qz0v, qz0w, qz0x, qz0y, qz0z, qz10, qz11, qz12, qz13, qz14, qz15, qz16, qz17, qz18, qz19, qz1a, qz1b, qz1c, qz1d, qz1e, qz1f, qz1g, qz1h, qz1i, qz1j, qz1k, qz1l, qz1m, qz1n, qz1o, qz1p, qz1q, qz1r, qz1s, qz1t, qz1u, qz1v, qz1w, qz1x, qz1y, qz1z, qz20, qz21, qz22, qz23, qz24, qz25, qz26, qz27, qz28, qz29, qz2a, qz2b, qz2c, qz2d, qz2e, qz2f, qz2g, qz2h, qz2i, qz2j, qz2k, qz2l, qz2m, qz2n, qz2o, qz2p, qz2q, qz2r, qz2s, qz2t, qz2u, qz2v, qz2w, qz2x, qz2y, qz2z, qz30, qz31, qz32, qz33, qz34, qz35, qz36, qz37, qz38, qz39, qz3a, qz3b, qz3c, qz3d, Bool.not_true, Bool.not_false, List.cons_append, List.nil_append, List.append_nil]
  refine o_buildS1 ⟨rfl, rfl, rfl⟩ fun s1 h1 => ?_
  have A1 := A0.made h1
  simp (disch := first | assumption | decide | omega) only [qz3e, qz3f, qz3g, qz3h, qz3i, qz3j, qz00, qz01, qz02, qz03, qz04, qz05, qz06, qz07, qz08, qz09, qz0a, qz0b, qz0c, qz0d, qz0e, qz0f, qz0g, qz0h, qz0i, qz0j, qz0k, qz0l, qz0m, qz0n, qz0o, qz0p, qz0q, qz0r, qz0s, qz0t, qz0u, qz0v, qz0w, qz0x, qz0y, qz0z, qz10, qz11, qz12, qz13, qz14, qz15, qz16, qz17, qz18, qz19, qz1a, qz1b, qz1c, qz1d, qz1e, qz1f, qz1g, qz1h, qz1i, qz1j, qz1k, qz1l, qz1m, qz1n, qz1o, qz1p, qz1q, qz1r, qz1s, qz1t, qz1u, qz1v, qz1w, qz1x, qz1y, qz1z, qz20, qz21, qz22, qz23, qz24, qz25, qz26, qz27, qz28, qz29, qz2a, qz2b, qz2c, qz2d, qz2e, qz2f, qz2g, qz2h, qz2i, qz2j, qz2k, qz2l, qz2m, qz2n, qz2o, qz2p, qz2q, qz2r, qz2s, qz2t, qz2u, qz2v, qz2w, qz2x, qz2y, qz2z, qz30, qz31, qz32, qz33, qz34, qz35, qz36, qz37, qz38, qz39, qz3a, qz3b, qz3c, qz3d, Bool.not_true, Bool.not_false, List.cons_append, List.nil_append, List.append_nil]
  refine thereG_ok (fun f a s hf => hb _ a s (by simp at hf ⊢; rcases hf with h | h | h | h <;> simp [h])) (by decide) s1 A1.gm (by omega) (ed1 h1 fun c hc => own_lt A0.gm hc) (fun i hi => hb') _ fun s2 e2 => ?_
  have A2 := A1.ext e2
  generalize back s1 s2 = t2 at A2
  simp (disch := first | assumption | decide | omega) only [qz3e, qz3f, qz3g, qz3h, qz3i, qz3j, qz00, qz01, qz02, qz03, qz04, qz05, qz06, qz07, qz08, qz09, qz0a, qz0b, qz0c, qz0d, qz0e, qz0f, qz0g, qz0h, qz0i, qz0j, qz0k, qz0l, qz0m, qz0n, qz0o, qz0p, qz0q, qz0r, qz0s, qz0t, qz0u, qz0v, qz0w, qz0x, qz0y, qz0z, qz10, qz11, qz12, qz13, qz14, qz15, qz16, qz17, qz18, qz19, qz1a, qz1b, qz1c, qz1d, qz1e, qz1f, qz1g, qz1h, qz1i, qz1j, qz1k, qz1l, qz1m, qz1n, qz1o, qz1p, qz1q, qz1r, qz1s, qz1t, qz1u, qz1v, qz1w, qz1x, qz1y, qz1z, qz20, qz21, qz22, qz23, qz24, qz25, qz26, qz27, qz28, qz29, qz2a, qz2b, qz2c, qz2d, qz2e, qz2f, qz2g, qz2h, qz2i, qz2j, qz2k, qz2l, qz2m, qz2n, qz2o, qz2p, qz2q, qz2r, qz2s, qz2t, qz2u, qz2v, qz2w, qz2x, qz2y, qz2z, qz30, qz31, qz32, qz33, qz34, qz35, qz36, qz37, qz38, qz39, qz3a, qz3b, qz3c, qz3d, Bool.not_true, Bool.not_false, List.cons_append, List.nil_append, List.append_nil]
  refine If_ok (fun f a s hf => hb _ a s (by simp at hf ⊢; rcases hf with h | h | h | h | h | h | h | h | h <;> simp [h])) t2 A2.gm hok (by omega) ha hb' (has_flip hb') _ fun w p8 ex8 G8 s8 B8 hw hev8 => ?_
  have A8 := A2.trans (B8.back A2.fr)
  generalize back t2 s8 = t8 at A8
  simp (disch := first | assumption | decide | omega) only [qz3e, qz3f, qz3g, qz3h, qz3i, qz3j, qz00, qz01, qz02, qz03, qz04, qz05, qz06, qz07, qz08, qz09, qz0a, qz0b, qz0c, qz0d, qz0e, qz0f, qz0g, qz0h, qz0i, qz0j, qz0k, qz0l, qz0m, qz0n, qz0o, qz0p, qz0q, qz0r, qz0s, qz0t, qz0u, qz0v, qz0w, qz0x, qz0y, qz0z, qz10, qz11, qz12, qz13, qz14, qz15, qz16, qz17, qz18, qz19, qz1a, qz1b, qz1c, qz1d, qz1e, qz1f, qz1g, qz1h, qz1i, qz1j, qz1k, qz1l, qz1m, qz1n, qz1o, qz1p, qz1q, qz1r, qz1s, qz1t, qz1u, qz1v, qz1w, qz1x, qz1y, qz1z, qz20, qz21, qz22, qz23, qz24, qz25, qz26, qz27, qz28, qz29, qz2a, qz2b, qz2c, qz2d, qz2e, qz2f, qz2g, qz2h, qz2i, qz2j, qz2k, qz2l, qz2m, qz2n, qz2o, qz2p, qz2q, qz2r, qz2s, qz2t, qz2u, qz2v, qz2w, qz2x, qz2y, qz2z, qz30, qz31, qz32, qz33, qz34, qz35, qz36, qz37, qz38, qz39, qz3a, qz3b, qz3c, qz3d, Bool.not_true, Bool.not_false, List.cons_append, List.nil_append, List.append_nil]
  refine hK w p8 ex8 G8 t8.bare A8.bare hw fun inp hi => ?_
  rw [hev8 inp hi, ev_not]
  cases ev inp G.parts a <;> cases ev inp G.parts b <;> rfl
end Go.Sy
end

section
set_option maxRecDepth 100000
namespace Go.Sy
open Go.Ev Go.Proofs
def b35 : Cmd := (.seq (.ops [⟨(some 8), true, none, (.i (.mv (.c .nils)))⟩, ⟨(some 9), true, none, (.i (.mv (.c .nils)))⟩, ⟨(some 10), true, none, (.i (.mv (.c (.int .i64 0))))⟩]) (.seq (.ops [⟨(some 17), false, none, (.i (.mv (.t 1)))⟩, ⟨(some 18), false, none, (.i (.len (.t 17)))⟩, ⟨(some 19), false, none, (.i (.mv (.t 2)))⟩, ⟨(some 20), false, none, (.i (.len (.t 19)))⟩, ⟨(some 21), false, none, (.i (.bi .max #[3, 3] [(.t 18), (.t 20)]))⟩, ⟨(some 22), false, none, (.i (.mv (.t 3)))⟩, ⟨(some 23), false, none, (.i (.bin .add (.t 21) (.t 22)))⟩, ⟨(some 11), true, none, (.i (.mv (.t 23)))⟩]) (.seq (.seq (.ops [⟨(some 24), false, none, (.i (.mv (.t 1)))⟩, ⟨(some 25), false, none, (.i (.mv (.t 2)))⟩, ⟨(some 26), false, none, (.i (.buildS 2 1 [.nils] [((0, 1), (.t 24)), ((1, 1), (.t 25))]))⟩, ⟨(some 27), false, none, (.call (.c (.fn 33 [])) [(.t 26)])⟩, ⟨(some 28), false, none, (.i (.un .not (.t 27)))⟩, ⟨(some 29), false, none, (.i (.mv (.t 28)))⟩, ⟨(some 30), false, (some (29, false)), (.i (.mv (.t 11)))⟩, ⟨(some 31), false, (some (29, false)), (.i (.bin .gtr (.t 30) (.c (.int .i64 32))))⟩, ⟨(some 32), true, none, (.i (.pick (.t 29) (.c (.bool true)) (.t 31)))⟩]) (.cond (.t 32) (.seq (.ops [⟨(some 8), true, none, (.i (.mv (.c .nils)))⟩, ⟨(some 9), true, none, (.i (.mv (.c .nils)))⟩, ⟨(some 10), true, none, (.i (.mv (.c (.int .i64 111))))⟩]) .ret) .skip)) (.seq (.seq (.ops [⟨(some 33), false, none, (.i (.mv (.t 0)))⟩, ⟨(some 34), false, none, (.i (.mv (.t 1)))⟩, ⟨(some 35), false, none, (.i (.mv (.t 2)))⟩, ⟨(some 36), false, none, (.i (.buildS 2 1 [.nils] [((0, 1), (.t 34)), ((1, 1), (.t 35))]))⟩, ⟨(some 37), false, none, (.call (.c (.fn 43 [])) [(.t 33), (.t 36)])⟩, ⟨(some 12), true, none, (.i (.mv (.t 37)))⟩]) (.seq (.ops [⟨(some 38), false, none, (.i (.mv (.t 12)))⟩, ⟨(some 39), true, none, (.i (.bin .neq (.t 38) (.c (.int .i64 0))))⟩]) (.cond (.t 39) (.seq (.ops [⟨(some 40), false, none, (.i (.mv (.t 12)))⟩, ⟨(some 8), true, none, (.i (.mv (.c .nils)))⟩, ⟨(some 9), true, none, (.i (.mv (.c .nils)))⟩, ⟨(some 10), true, none, (.i (.mv (.t 40)))⟩]) .ret) .skip))) (.seq (.ops [⟨(some 42), false, none, (.i (.mv (.t 1)))⟩, ⟨(some 43), false, none, (.i (.mv (.t 11)))⟩, ⟨(some 44), false, none, (.call (.c (.fn 18 [])) [(.t 42), (.t 43)])⟩, ⟨(some 41), false, none, (.i (.mv (.t 44)))⟩, ⟨(some 45), false, none, (.i (.ext (.t 41) 0))⟩, ⟨(some 46), false, none, (.i (.ext (.t 41) 1))⟩, ⟨(some 13), true, none, (.i (.mv (.t 45)))⟩, ⟨(some 14), false, none, (.i (.mv (.t 46)))⟩]) (.seq (.ops [⟨(some 48), false, none, (.i (.mv (.t 2)))⟩, ⟨(some 49), false, none, (.i (.mv (.t 11)))⟩, ⟨(some 50), false, none, (.call (.c (.fn 18 [])) [(.t 48), (.t 49)])⟩, ⟨(some 47), false, none, (.i (.mv (.t 50)))⟩, ⟨(some 51), false, none, (.i (.ext (.t 47) 0))⟩, ⟨(some 52), false, none, (.i (.ext (.t 47) 1))⟩, ⟨(some 15), true, none, (.i (.mv (.t 51)))⟩, ⟨(some 16), false, none, (.i (.mv (.t 52)))⟩]) (.seq (.ops [⟨(some 53), false, none, (.i (.mv (.t 13)))⟩, ⟨(some 54), false, none, (.i (.mv (.t 15)))⟩, ⟨(some 8), true, none, (.i (.mv (.t 53)))⟩, ⟨(some 9), true, none, (.i (.mv (.t 54)))⟩, ⟨(some 10), true, none, (.i (.mv (.c (.int .i64 0))))⟩]) .ret)))))))
def c35 : FD := ⟨[0, 1, 2, 3], b35, [(.t 8), (.t 9), (.t 10)]⟩
theorem l35 : lowF Try.prog 35 = some c35 := by kernel_rfl
def b36 : Cmd := (.seq (.ops [⟨(some 8), true, none, (.i (.mv (.c .nils)))⟩, ⟨(some 9), true, none, (.i (.mv (.c (.int .i64 0))))⟩]) (.seq (.ops [⟨(some 13), false, none, (.i (.mv (.t 1)))⟩, ⟨(some 14), false, none, (.i (.len (.t 13)))⟩, ⟨(some 15), false, none, (.i (.mkS 1 4 [(.int .u32 0)] (.t 14) (.t 14)))⟩, ⟨(some 10), true, none, (.i (.mv (.t 15)))⟩]) (.seq (.seq (.ops [⟨(some 16), false, none, (.i (.mv (.t 10)))⟩, ⟨(some 17), true, none, (.i (.len (.t 16)))⟩, ⟨(some 18), true, none, (.i (.mv (.c (.int .i64 0))))⟩]) (.block 0 (.loop (.seq (.ops [⟨(some 19), true, none, (.i (.bin .lss (.t 18) (.t 17)))⟩]) (.seq (.cond (.t 19) .skip (.exit 0)) (.seq (.block 1 (.seq (.ops [⟨(some 20), false, none, (.i (.mv (.t 18)))⟩, ⟨(some 11), true, none, (.i (.mv (.t 20)))⟩]) (.seq (.ops [⟨(some 12), true, none, (.i (.mv (.c (.int .i64 0))))⟩]) (.seq (.ops [⟨(some 22), false, none, (.i (.mv (.t 10)))⟩, ⟨(some 23), false, none, (.i (.mv (.t 11)))⟩, ⟨(some 24), false, none, (.i (.mv (.t 0)))⟩, ⟨(some 25), false, none, (.i (.mv (.t 1)))⟩, ⟨(some 26), false, none, (.i (.mv (.t 11)))⟩, ⟨(some 27), false, none, (.i (.idxS 1 (.t 25) (.t 26)))⟩, ⟨(some 28), false, none, (.i (.ld1 (.t 27)))⟩, ⟨(some 29), false, none, (.i (.mv (.t 2)))⟩, ⟨(some 30), false, none, (.i (.mv (.t 11)))⟩, ⟨(some 31), false, none, (.i (.idxS 1 (.t 29) (.t 30)))⟩, ⟨(some 32), false, none, (.i (.ld1 (.t 31)))⟩, ⟨(some 33), false, none, (.i (.mv (.t 3)))⟩, ⟨(some 34), false, none, (.call (.c (.fn 51 [])) [(.t 24), (.t 28), (.t 32), (.t 33)])⟩, ⟨(some 21), false, none, (.i (.mv (.t 34)))⟩, ⟨(some 35), false, none, (.i (.ext (.t 21) 0))⟩, ⟨(some 36), false, none, (.i (.ext (.t 21) 1))⟩, ⟨(some 37), false, none, (.i (.ext (.t 21) 2))⟩, ⟨(some 38), false, none, (.i (.idxS 1 (.t 22) (.t 23)))⟩, ⟨none, false, none, (.i (.st 1 (.t 38) (.t 35)))⟩, ⟨(some 3), true, none, (.i (.mv (.t 36)))⟩, ⟨(some 12), true, none, (.i (.mv (.t 37)))⟩]) (.seq (.ops [⟨(some 39), false, none, (.i (.mv (.t 12)))⟩, ⟨(some 40), true, none, (.i (.bin .neq (.t 39) (.c (.int .i64 0))))⟩]) (.cond (.t 40) (.seq (.ops [⟨(some 41), false, none, (.i (.mv (.t 12)))⟩, ⟨(some 8), true, none, (.i (.mv (.c .nils)))⟩, ⟨(some 9), true, none, (.i (.mv (.t 41)))⟩]) .ret) .skip)))))) (.ops [⟨(some 42), false, none, (.i (.bin .add (.t 18) (.c (.int .i64 1))))⟩, ⟨(some 18), true, none, (.i (.mv (.t 42)))⟩]))))))) (.seq (.ops [⟨(some 43), false, none, (.i (.mv (.t 10)))⟩, ⟨(some 8), true, none, (.i (.mv (.t 43)))⟩, ⟨(some 9), true, none, (.i (.mv (.c (.int .i64 0))))⟩]) .ret))))
def c36 : FD := ⟨[0, 1, 2, 3], b36, [(.t 8), (.t 9)]⟩
theorem l36 : lowF Try.prog 36 = some c36 := by kernel_rfl
def b40 : Cmd := (.seq (.ops [⟨(some 2), true, none, (.i (.mv (.c .nils)))⟩]) (.seq (.ops [⟨(some 6), false, none, (.i (.mv (.t 0)))⟩, ⟨(some 7), false, none, (.i (.len (.t 6)))⟩, ⟨(some 8), false, none, (.i (.mkS 1 4 [(.int .u32 0)] (.t 7) (.t 7)))⟩, ⟨(some 3), true, none, (.i (.mv (.t 8)))⟩]) (.seq (.seq (.ops [⟨(some 9), true, none, (.i (.mv (.t 0)))⟩, ⟨(some 10), true, none, (.i (.len (.t 9)))⟩, ⟨(some 11), true, none, (.i (.mv (.c (.int .i64 0))))⟩]) (.block 0 (.loop (.seq (.ops [⟨(some 12), true, none, (.i (.bin .lss (.t 11) (.t 10)))⟩]) (.seq (.cond (.t 12) .skip (.exit 0)) (.seq (.block 1 (.seq (.ops [⟨(some 13), false, none, (.i (.mv (.t 11)))⟩, ⟨(some 14), false, none, (.i (.idxS 1 (.t 9) (.t 11)))⟩, ⟨(some 15), false, none, (.i (.ld1 (.t 14)))⟩, ⟨(some 4), true, none, (.i (.mv (.t 13)))⟩, ⟨(some 5), true, none, (.i (.mv (.t 15)))⟩]) (.ops [⟨(some 16), false, none, (.i (.mv (.t 3)))⟩, ⟨(some 17), false, none, (.i (.mv (.t 4)))⟩, ⟨(some 18), false, none, (.i (.mv (.t 5)))⟩, ⟨(some 19), false, none, (.i (.bin .xor (.t 18) (.c (.int .u32 1))))⟩, ⟨(some 20), false, none, (.i (.idxS 1 (.t 16) (.t 17)))⟩, ⟨none, false, none, (.i (.st 1 (.t 20) (.t 19)))⟩]))) (.ops [⟨(some 21), false, none, (.i (.bin .add (.t 11) (.c (.int .i64 1))))⟩, ⟨(some 11), true, none, (.i (.mv (.t 21)))⟩]))))))) (.seq (.ops [⟨(some 22), false, none, (.i (.mv (.t 3)))⟩, ⟨(some 2), true, none, (.i (.mv (.t 22)))⟩]) .ret))))
def c40 : FD := ⟨[0], b40, [(.t 2)]⟩
theorem l40 : lowF Try.prog 40 = some c40 := by kernel_rfl
def b51 : Cmd := (.seq (.ops [⟨(some 8), true, none, (.i (.mv (.c (.int .u32 0))))⟩, ⟨(some 9), true, none, (.i (.mv (.c (.int .u32 0))))⟩, ⟨(some 10), true, none, (.i (.mv (.c (.int .i64 0))))⟩]) (.seq (.ops [⟨(some 16), false, none, (.i (.mv (.t 0)))⟩, ⟨(some 17), false, none, (.i (.mv (.t 1)))⟩, ⟨(some 18), false, none, (.i (.mv (.t 2)))⟩, ⟨(some 19), false, none, (.call (.c (.fn 37 [])) [(.t 16), (.t 17), (.t 18)])⟩, ⟨(some 15), false, none, (.i (.mv (.t 19)))⟩, ⟨(some 20), false, none, (.i (.ext (.t 15) 0))⟩, ⟨(some 21), false, none, (.i (.ext (.t 15) 1))⟩, ⟨(some 11), true, none, (.i (.mv (.t 20)))⟩, ⟨(some 12), true, none, (.i (.mv (.t 21)))⟩]) (.seq (.seq (.ops [⟨(some 22), false, none, (.i (.mv (.t 12)))⟩, ⟨(some 23), true, none, (.i (.bin .neq (.t 22) (.c (.int .i64 0))))⟩]) (.cond (.t 23) (.seq (.ops [⟨(some 24), false, none, (.i (.mv (.t 12)))⟩, ⟨(some 8), true, none, (.i (.mv (.c (.int .u32 0))))⟩, ⟨(some 9), true, none, (.i (.mv (.c (.int .u32 0))))⟩, ⟨(some 10), true, none, (.i (.mv (.t 24)))⟩]) .ret) .skip)) (.seq (.ops [⟨(some 26), false, none, (.i (.mv (.t 0)))⟩, ⟨(some 27), false, none, (.i (.mv (.t 11)))⟩, ⟨(some 28), false, none, (.i (.mv (.t 3)))⟩, ⟨(some 29), false, none, (.call (.c (.fn 37 [])) [(.t 26), (.t 27), (.t 28)])⟩, ⟨(some 25), false, none, (.i (.mv (.t 29)))⟩, ⟨(some 30), false, none, (.i (.ext (.t 25) 0))⟩, ⟨(some 31), false, none, (.i (.ext (.t 25) 1))⟩, ⟨(some 13), true, none, (.i (.mv (.t 30)))⟩, ⟨(some 12), true, none, (.i (.mv (.t 31)))⟩]) (.seq (.seq (.ops [⟨(some 32), false, none, (.i (.mv (.t 12)))⟩, ⟨(some 33), true, none, (.i (.bin .neq (.t 32) (.c (.int .i64 0))))⟩]) (.cond (.t 33) (.seq (.ops [⟨(some 34), false, none, (.i (.mv (.t 12)))⟩, ⟨(some 8), true, none, (.i (.mv (.c (.int .u32 0))))⟩, ⟨(some 9), true, none, (.i (.mv (.c (.int .u32 0))))⟩, ⟨(some 10), true, none, (.i (.mv (.t 34)))⟩]) .ret) .skip)) (.seq (.ops [⟨(some 36), false, none, (.i (.mv (.t 0)))⟩, ⟨(some 37), false, none, (.i (.mv (.t 11)))⟩, ⟨(some 38), false, none, (.i (.mv (.t 1)))⟩, ⟨(some 39), false, none, (.i (.mv (.t 3)))⟩, ⟨(some 40), false, none, (.call (.c (.fn 38 [])) [(.t 36), (.t 37), (.t 38), (.t 39)])⟩, ⟨(some 35), false, none, (.i (.mv (.t 40)))⟩, ⟨(some 41), false, none, (.i (.ext (.t 35) 0))⟩, ⟨(some 42), false, none, (.i (.ext (.t 35) 1))⟩, ⟨(some 14), true, none, (.i (.mv (.t 41)))⟩, ⟨(some 12), true, none, (.i (.mv (.t 42)))⟩]) (.seq (.ops [⟨(some 43), false, none, (.i (.mv (.t 13)))⟩, ⟨(some 44), false, none, (.i (.mv (.t 14)))⟩, ⟨(some 45), false, none, (.i (.mv (.t 12)))⟩, ⟨(some 8), true, none, (.i (.mv (.t 43)))⟩, ⟨(some 9), true, none, (.i (.mv (.t 44)))⟩, ⟨(some 10), true, none, (.i (.mv (.t 45)))⟩]) .ret)))))))
def c51 : FD := ⟨[0, 1, 2, 3], b51, [(.t 8), (.t 9), (.t 10)]⟩
theorem l51 : lowF Try.prog 51 = some c51 := by kernel_rfl
def b20 : Cmd := (.seq (.ops [⟨(some 4), true, none, (.i (.mv (.c .nils)))⟩, ⟨(some 5), true, none, (.i (.mv (.c (.int .i64 0))))⟩]) (.seq (.seq (.ops [⟨(some 10), false, none, (.i (.mv (.t 1)))⟩, ⟨(some 11), false, none, (.i (.bin .lss (.t 10) (.c (.int .i64 1))))⟩, ⟨(some 12), false, none, (.i (.mv (.t 11)))⟩, ⟨(some 13), false, (some (12, false)), (.i (.mv (.t 1)))⟩, ⟨(some 14), false, (some (12, false)), (.i (.bin .gtr (.t 13) (.c (.int .i64 32))))⟩, ⟨(some 15), true, none, (.i (.pick (.t 12) (.c (.bool true)) (.t 14)))⟩]) (.cond (.t 15) (.seq (.ops [⟨(some 4), true, none, (.i (.mv (.c .nils)))⟩, ⟨(some 5), true, none, (.i (.mv (.c (.int .i64 111))))⟩]) .ret) .skip)) (.seq (.ops [⟨(some 16), false, none, (.i (.mv (.t 1)))⟩, ⟨(some 17), false, none, (.i (.mkS 1 4 [(.int .u32 0)] (.t 16) (.t 16)))⟩, ⟨(some 6), true, none, (.i (.mv (.t 17)))⟩]) (.seq (.seq (.ops [⟨(some 18), false, none, (.i (.mv (.t 6)))⟩, ⟨(some 19), true, none, (.i (.len (.t 18)))⟩, ⟨(some 20), true, none, (.i (.mv (.c (.int .i64 0))))⟩]) (.block 0 (.loop (.seq (.ops [⟨(some 21), true, none, (.i (.bin .lss (.t 20) (.t 19)))⟩]) (.seq (.cond (.t 21) .skip (.exit 0)) (.seq (.block 1 (.seq (.ops [⟨(some 22), false, none, (.i (.mv (.t 20)))⟩, ⟨(some 7), true, none, (.i (.mv (.t 22)))⟩]) (.seq (.ops [⟨(some 24), false, none, (.i (.mv (.t 0)))⟩, ⟨(some 25), false, none, (.call (.c (.fn 29 [])) [(.t 24)])⟩, ⟨(some 23), false, none, (.i (.mv (.t 25)))⟩, ⟨(some 26), false, none, (.i (.ext (.t 23) 0))⟩, ⟨(some 27), false, none, (.i (.ext (.t 23) 1))⟩, ⟨(some 8), true, none, (.i (.mv (.t 26)))⟩, ⟨(some 9), true, none, (.i (.mv (.t 27)))⟩]) (.seq (.seq (.ops [⟨(some 28), false, none, (.i (.mv (.t 9)))⟩, ⟨(some 29), true, none, (.i (.bin .neq (.t 28) (.c (.int .i64 0))))⟩]) (.cond (.t 29) (.seq (.ops [⟨(some 30), false, none, (.i (.mv (.t 9)))⟩, ⟨(some 4), true, none, (.i (.mv (.c .nils)))⟩, ⟨(some 5), true, none, (.i (.mv (.t 30)))⟩]) .ret) .skip)) (.ops [⟨(some 31), false, none, (.i (.mv (.t 6)))⟩, ⟨(some 32), false, none, (.i (.mv (.t 7)))⟩, ⟨(some 33), false, none, (.i (.mv (.t 8)))⟩, ⟨(some 34), false, none, (.i (.idxS 1 (.t 31) (.t 32)))⟩, ⟨none, false, none, (.i (.st 1 (.t 34) (.t 33)))⟩]))))) (.ops [⟨(some 35), false, none, (.i (.bin .add (.t 20) (.c (.int .i64 1))))⟩, ⟨(some 20), true, none, (.i (.mv (.t 35)))⟩]))))))) (.seq (.ops [⟨(some 36), false, none, (.i (.mv (.t 6)))⟩, ⟨(some 4), true, none, (.i (.mv (.t 36)))⟩, ⟨(some 5), true, none, (.i (.mv (.c (.int .i64 0))))⟩]) .ret)))))
def c20 : FD := ⟨[0, 1], b20, [(.t 4), (.t 5)]⟩
theorem l20 : lowF Try.prog 20 = some c20 := by kernel_rfl
def b19 : Cmd := (.seq (.ops [⟨(some 6), true, none, (.i (.mv (.c .nils)))⟩, ⟨(some 7), true, none, (.i (.mv (.c (.int .i64 0))))⟩]) (.seq (.ops [⟨(some 12), false, none, (.i (.mv (.t 0)))⟩, ⟨(some 13), false, none, (.i (.mv (.t 1)))⟩, ⟨(some 14), false, none, (.i (.mv (.t 2)))⟩, ⟨(some 15), false, none, (.call (.c (.fn 35 [])) [(.t 12), (.t 13), (.t 14), (.c (.int .i64 1))])⟩, ⟨(some 11), false, none, (.i (.mv (.t 15)))⟩, ⟨(some 16), false, none, (.i (.ext (.t 11) 0))⟩, ⟨(some 17), false, none, (.i (.ext (.t 11) 1))⟩, ⟨(some 18), false, none, (.i (.ext (.t 11) 2))⟩, ⟨(some 8), true, none, (.i (.mv (.t 16)))⟩, ⟨(some 9), true, none, (.i (.mv (.t 17)))⟩, ⟨(some 10), true, none, (.i (.mv (.t 18)))⟩]) (.seq (.seq (.ops [⟨(some 19), false, none, (.i (.mv (.t 10)))⟩, ⟨(some 20), true, none, (.i (.bin .neq (.t 19) (.c (.int .i64 0))))⟩]) (.cond (.t 20) (.seq (.ops [⟨(some 21), false, none, (.i (.mv (.t 10)))⟩, ⟨(some 6), true, none, (.i (.mv (.c .nils)))⟩, ⟨(some 7), true, none, (.i (.mv (.t 21)))⟩]) .ret) .skip)) (.seq (.ops [⟨(some 22), false, none, (.i (.mv (.t 0)))⟩, ⟨(some 23), false, none, (.i (.mv (.t 8)))⟩, ⟨(some 24), false, none, (.i (.mv (.t 9)))⟩, ⟨(some 25), false, none, (.call (.c (.fn 36 [])) [(.t 22), (.t 23), (.t 24), (.c (.int .u32 0))])⟩, ⟨(some 26), false, none, (.i (.ext (.t 25) 0))⟩, ⟨(some 27), false, none, (.i (.ext (.t 25) 1))⟩, ⟨(some 6), true, none, (.i (.mv (.t 26)))⟩, ⟨(some 7), true, none, (.i (.mv (.t 27)))⟩]) .ret))))
def c19 : FD := ⟨[0, 1, 2], b19, [(.t 6), (.t 7)]⟩
theorem l19 : lowF Try.prog 19 = some c19 := by kernel_rfl
def b23 : Cmd := (.seq (.ops [⟨(some 6), true, none, (.i (.mv (.c .nils)))⟩, ⟨(some 7), true, none, (.i (.mv (.c (.int .i64 0))))⟩]) (.seq (.ops [⟨(some 12), false, none, (.i (.mv (.t 0)))⟩, ⟨(some 13), false, none, (.i (.mv (.t 1)))⟩, ⟨(some 14), false, none, (.i (.mv (.t 2)))⟩, ⟨(some 15), false, none, (.call (.c (.fn 35 [])) [(.t 12), (.t 13), (.t 14), (.c (.int .i64 1))])⟩, ⟨(some 11), false, none, (.i (.mv (.t 15)))⟩, ⟨(some 16), false, none, (.i (.ext (.t 11) 0))⟩, ⟨(some 17), false, none, (.i (.ext (.t 11) 1))⟩, ⟨(some 18), false, none, (.i (.ext (.t 11) 2))⟩, ⟨(some 8), true, none, (.i (.mv (.t 16)))⟩, ⟨(some 9), true, none, (.i (.mv (.t 17)))⟩, ⟨(some 10), true, none, (.i (.mv (.t 18)))⟩]) (.seq (.seq (.ops [⟨(some 19), false, none, (.i (.mv (.t 10)))⟩, ⟨(some 20), true, none, (.i (.bin .neq (.t 19) (.c (.int .i64 0))))⟩]) (.cond (.t 20) (.seq (.ops [⟨(some 21), false, none, (.i (.mv (.t 10)))⟩, ⟨(some 6), true, none, (.i (.mv (.c .nils)))⟩, ⟨(some 7), true, none, (.i (.mv (.t 21)))⟩]) .ret) .skip)) (.seq (.ops [⟨(some 22), false, none, (.i (.mv (.t 0)))⟩, ⟨(some 23), false, none, (.i (.mv (.t 8)))⟩, ⟨(some 24), false, none, (.i (.mv (.t 9)))⟩, ⟨(some 25), false, none, (.call (.c (.fn 40 [])) [(.t 24)])⟩, ⟨(some 26), false, none, (.call (.c (.fn 36 [])) [(.t 22), (.t 23), (.t 25), (.c (.int .u32 1))])⟩, ⟨(some 27), false, none, (.i (.ext (.t 26) 0))⟩, ⟨(some 28), false, none, (.i (.ext (.t 26) 1))⟩, ⟨(some 6), true, none, (.i (.mv (.t 27)))⟩, ⟨(some 7), true, none, (.i (.mv (.t 28)))⟩]) .ret))))
def c23 : FD := ⟨[0, 1, 2], b23, [(.t 6), (.t 7)]⟩
theorem l23 : lowF Try.prog 23 = some c23 := by kernel_rfl
def b21 : Cmd := (.seq (.ops [⟨(some 6), true, none, (.i (.mv (.c (.int .u32 0))))⟩, ⟨(some 7), true, none, (.i (.mv (.c (.int .i64 0))))⟩]) (.seq (.ops [⟨(some 17), false, none, (.i (.mv (.t 0)))⟩, ⟨(some 18), false, none, (.i (.mv (.t 1)))⟩, ⟨(some 19), false, none, (.i (.mv (.t 2)))⟩, ⟨(some 20), false, none, (.call (.c (.fn 35 [])) [(.t 17), (.t 18), (.t 19), (.c (.int .i64 0))])⟩, ⟨(some 16), false, none, (.i (.mv (.t 20)))⟩, ⟨(some 21), false, none, (.i (.ext (.t 16) 0))⟩, ⟨(some 22), false, none, (.i (.ext (.t 16) 1))⟩, ⟨(some 23), false, none, (.i (.ext (.t 16) 2))⟩, ⟨(some 8), true, none, (.i (.mv (.t 21)))⟩, ⟨(some 9), true, none, (.i (.mv (.t 22)))⟩, ⟨(some 10), true, none, (.i (.mv (.t 23)))⟩]) (.seq (.seq (.ops [⟨(some 24), false, none, (.i (.mv (.t 10)))⟩, ⟨(some 25), true, none, (.i (.bin .neq (.t 24) (.c (.int .i64 0))))⟩]) (.cond (.t 25) (.seq (.ops [⟨(some 26), false, none, (.i (.mv (.t 10)))⟩, ⟨(some 6), true, none, (.i (.mv (.c (.int .u32 0))))⟩, ⟨(some 7), true, none, (.i (.mv (.t 26)))⟩]) .ret) .skip)) (.seq (.ops [⟨(some 27), false, none, (.i (.mv (.t 8)))⟩, ⟨(some 28), false, none, (.i (.len (.t 27)))⟩, ⟨(some 29), false, none, (.i (.bin .sub (.t 28) (.c (.int .i64 1))))⟩, ⟨(some 11), true, none, (.i (.mv (.c (.int .u32 0))))⟩, ⟨(some 12), true, none, (.i (.mv (.t 29)))⟩]) (.seq (.ops [⟨(some 30), false, none, (.i (.mv (.t 8)))⟩, ⟨(some 31), false, none, (.i (.mv (.t 12)))⟩, ⟨(some 32), false, none, (.i (.mv (.t 9)))⟩, ⟨(some 33), false, none, (.i (.mv (.t 12)))⟩, ⟨(some 34), false, none, (.i (.mv (.t 9)))⟩, ⟨(some 35), false, none, (.i (.mv (.t 12)))⟩, ⟨(some 36), false, none, (.i (.idxS 1 (.t 34) (.t 35)))⟩, ⟨(some 37), false, none, (.i (.ld1 (.t 36)))⟩, ⟨(some 38), false, none, (.i (.mv (.t 8)))⟩, ⟨(some 39), false, none, (.i (.mv (.t 12)))⟩, ⟨(some 40), false, none, (.i (.idxS 1 (.t 38) (.t 39)))⟩, ⟨(some 41), false, none, (.i (.ld1 (.t 40)))⟩, ⟨(some 42), false, none, (.i (.idxS 1 (.t 30) (.t 31)))⟩, ⟨none, false, none, (.i (.st 1 (.t 42) (.t 37)))⟩, ⟨(some 43), false, none, (.i (.idxS 1 (.t 32) (.t 33)))⟩, ⟨none, false, none, (.i (.st 1 (.t 43) (.t 41)))⟩]) (.seq (.seq (.ops [⟨(some 44), false, none, (.i (.mv (.t 8)))⟩, ⟨(some 45), true, none, (.i (.len (.t 44)))⟩, ⟨(some 46), true, none, (.i (.mv (.c (.int .i64 0))))⟩]) (.block 0 (.loop (.seq (.ops [⟨(some 47), true, none, (.i (.bin .lss (.t 46) (.t 45)))⟩]) (.seq (.cond (.t 47) .skip (.exit 0)) (.seq (.block 1 (.seq (.ops [⟨(some 48), false, none, (.i (.mv (.t 46)))⟩, ⟨(some 13), true, none, (.i (.mv (.t 48)))⟩]) (.seq (.ops [⟨(some 50), false, none, (.i (.mv (.t 0)))⟩, ⟨(some 51), false, none, (.i (.mv (.t 8)))⟩, ⟨(some 52), false, none, (.i (.mv (.t 13)))⟩, ⟨(some 53), false, none, (.i (.idxS 1 (.t 51) (.t 52)))⟩, ⟨(some 54), false, none, (.i (.ld1 (.t 53)))⟩, ⟨(some 55), false, none, (.i (.mv (.t 9)))⟩, ⟨(some 56), false, none, (.i (.mv (.t 13)))⟩, ⟨(some 57), false, none, (.i (.idxS 1 (.t 55) (.t 56)))⟩, ⟨(some 58), false, none, (.i (.ld1 (.t 57)))⟩, ⟨(some 59), false, none, (.call (.c (.fn 37 [])) [(.t 50), (.t 54), (.t 58)])⟩, ⟨(some 49), false, none, (.i (.mv (.t 59)))⟩, ⟨(some 60), false, none, (.i (.ext (.t 49) 0))⟩, ⟨(some 61), false, none, (.i (.ext (.t 49) 1))⟩, ⟨(some 14), true, none, (.i (.mv (.t 60)))⟩, ⟨(some 15), true, none, (.i (.mv (.t 61)))⟩]) (.seq (.seq (.ops [⟨(some 62), false, none, (.i (.mv (.t 15)))⟩, ⟨(some 63), true, none, (.i (.bin .neq (.t 62) (.c (.int .i64 0))))⟩]) (.cond (.t 63) (.seq (.ops [⟨(some 64), false, none, (.i (.mv (.t 15)))⟩, ⟨(some 6), true, none, (.i (.mv (.c (.int .u32 0))))⟩, ⟨(some 7), true, none, (.i (.mv (.t 64)))⟩]) .ret) .skip)) (.seq (.ops [⟨(some 66), false, none, (.i (.mv (.t 0)))⟩, ⟨(some 67), false, none, (.i (.mv (.t 14)))⟩, ⟨(some 68), false, none, (.i (.mv (.t 11)))⟩, ⟨(some 69), false, none, (.i (.mv (.t 9)))⟩, ⟨(some 70), false, none, (.i (.mv (.t 13)))⟩, ⟨(some 71), false, none, (.i (.idxS 1 (.t 69) (.t 70)))⟩, ⟨(some 72), false, none, (.i (.ld1 (.t 71)))⟩, ⟨(some 73), false, none, (.call (.c (.fn 38 [])) [(.t 66), (.t 67), (.t 68), (.t 72)])⟩, ⟨(some 65), false, none, (.i (.mv (.t 73)))⟩, ⟨(some 74), false, none, (.i (.ext (.t 65) 0))⟩, ⟨(some 75), false, none, (.i (.ext (.t 65) 1))⟩, ⟨(some 11), true, none, (.i (.mv (.t 74)))⟩, ⟨(some 15), true, none, (.i (.mv (.t 75)))⟩]) (.seq (.ops [⟨(some 76), false, none, (.i (.mv (.t 15)))⟩, ⟨(some 77), true, none, (.i (.bin .neq (.t 76) (.c (.int .i64 0))))⟩]) (.cond (.t 77) (.seq (.ops [⟨(some 78), false, none, (.i (.mv (.t 15)))⟩, ⟨(some 6), true, none, (.i (.mv (.c (.int .u32 0))))⟩, ⟨(some 7), true, none, (.i (.mv (.t 78)))⟩]) .ret) .skip))))))) (.ops [⟨(some 79), false, none, (.i (.bin .add (.t 46) (.c (.int .i64 1))))⟩, ⟨(some 46), true, none, (.i (.mv (.t 79)))⟩]))))))) (.seq (.ops [⟨(some 80), false, none, (.i (.mv (.t 11)))⟩, ⟨(some 6), true, none, (.i (.mv (.t 80)))⟩, ⟨(some 7), true, none, (.i (.mv (.c (.int .i64 0))))⟩]) .ret)))))))
def c21 : FD := ⟨[0, 1, 2], b21, [(.t 6), (.t 7)]⟩
theorem l21 : lowF Try.prog 21 = some c21 := by kernel_rfl
def b22 : Cmd := (.seq (.ops [⟨(some 6), true, none, (.i (.mv (.c (.int .u32 0))))⟩, ⟨(some 7), true, none, (.i (.mv (.c (.int .i64 0))))⟩]) (.seq (.ops [⟨(some 16), false, none, (.i (.mv (.t 0)))⟩, ⟨(some 17), false, none, (.i (.mv (.t 1)))⟩, ⟨(some 18), false, none, (.i (.mv (.t 2)))⟩, ⟨(some 19), false, none, (.call (.c (.fn 35 [])) [(.t 16), (.t 17), (.t 18), (.c (.int .i64 0))])⟩, ⟨(some 15), false, none, (.i (.mv (.t 19)))⟩, ⟨(some 20), false, none, (.i (.ext (.t 15) 0))⟩, ⟨(some 21), false, none, (.i (.ext (.t 15) 1))⟩, ⟨(some 22), false, none, (.i (.ext (.t 15) 2))⟩, ⟨(some 8), true, none, (.i (.mv (.t 20)))⟩, ⟨(some 9), true, none, (.i (.mv (.t 21)))⟩, ⟨(some 10), true, none, (.i (.mv (.t 22)))⟩]) (.seq (.seq (.ops [⟨(some 23), false, none, (.i (.mv (.t 10)))⟩, ⟨(some 24), true, none, (.i (.bin .neq (.t 23) (.c (.int .i64 0))))⟩]) (.cond (.t 24) (.seq (.ops [⟨(some 25), false, none, (.i (.mv (.t 10)))⟩, ⟨(some 6), true, none, (.i (.mv (.c (.int .u32 0))))⟩, ⟨(some 7), true, none, (.i (.mv (.t 25)))⟩]) .ret) .skip)) (.seq (.ops [⟨(some 26), false, none, (.i (.mv (.t 8)))⟩, ⟨(some 27), false, none, (.i (.len (.t 26)))⟩, ⟨(some 28), false, none, (.i (.mkS 1 4 [(.int .u32 0)] (.c (.int .i64 0)) (.t 27)))⟩, ⟨(some 11), true, none, (.i (.mv (.t 28)))⟩]) (.seq (.seq (.ops [⟨(some 29), false, none, (.i (.mv (.t 8)))⟩, ⟨(some 30), true, none, (.i (.len (.t 29)))⟩, ⟨(some 31), true, none, (.i (.mv (.c (.int .i64 0))))⟩]) (.block 0 (.loop (.seq (.ops [⟨(some 32), true, none, (.i (.bin .lss (.t 31) (.t 30)))⟩]) (.seq (.cond (.t 32) .skip (.exit 0)) (.seq (.block 1 (.seq (.ops [⟨(some 33), false, none, (.i (.mv (.t 31)))⟩, ⟨(some 12), true, none, (.i (.mv (.t 33)))⟩]) (.seq (.ops [⟨(some 35), false, none, (.i (.mv (.t 0)))⟩, ⟨(some 36), false, none, (.i (.mv (.t 8)))⟩, ⟨(some 37), false, none, (.i (.mv (.t 12)))⟩, ⟨(some 38), false, none, (.i (.idxS 1 (.t 36) (.t 37)))⟩, ⟨(some 39), false, none, (.i (.ld1 (.t 38)))⟩, ⟨(some 40), false, none, (.i (.mv (.t 9)))⟩, ⟨(some 41), false, none, (.i (.mv (.t 12)))⟩, ⟨(some 42), false, none, (.i (.idxS 1 (.t 40) (.t 41)))⟩, ⟨(some 43), false, none, (.i (.ld1 (.t 42)))⟩, ⟨(some 44), false, none, (.call (.c (.fn 37 [])) [(.t 35), (.t 39), (.t 43)])⟩, ⟨(some 34), false, none, (.i (.mv (.t 44)))⟩, ⟨(some 45), false, none, (.i (.ext (.t 34) 0))⟩, ⟨(some 46), false, none, (.i (.ext (.t 34) 1))⟩, ⟨(some 13), true, none, (.i (.mv (.t 45)))⟩, ⟨(some 14), true, none, (.i (.mv (.t 46)))⟩]) (.seq (.seq (.ops [⟨(some 47), false, none, (.i (.mv (.t 14)))⟩, ⟨(some 48), true, none, (.i (.bin .neq (.t 47) (.c (.int .i64 0))))⟩]) (.cond (.t 48) (.seq (.ops [⟨(some 49), false, none, (.i (.mv (.t 14)))⟩, ⟨(some 6), true, none, (.i (.mv (.c (.int .u32 0))))⟩, ⟨(some 7), true, none, (.i (.mv (.t 49)))⟩]) .ret) .skip)) (.ops [⟨(some 50), false, none, (.i (.mv (.t 11)))⟩, ⟨(some 51), false, none, (.i (.mv (.t 13)))⟩, ⟨(some 52), false, none, (.i (.buildS 1 1 [(.int .u32 0)] [((0, 1), (.t 51))]))⟩, ⟨(some 53), false, none, (.i (.app 1 4 (.t 50) (.t 52)))⟩, ⟨(some 11), true, none, (.i (.mv (.t 53)))⟩]))))) (.ops [⟨(some 54), false, none, (.i (.bin .add (.t 31) (.c (.int .i64 1))))⟩, ⟨(some 31), true, none, (.i (.mv (.t 54)))⟩]))))))) (.seq (.ops [⟨(some 55), false, none, (.i (.mv (.t 0)))⟩, ⟨(some 56), false, none, (.i (.mv (.t 11)))⟩, ⟨(some 57), false, none, (.call (.c (.fn 39 [])) [(.t 55), (.t 56)])⟩, ⟨(some 58), false, none, (.i (.ext (.t 57) 0))⟩, ⟨(some 59), false, none, (.i (.ext (.t 57) 1))⟩, ⟨(some 6), true, none, (.i (.mv (.t 58)))⟩, ⟨(some 7), true, none, (.i (.mv (.t 59)))⟩]) .ret))))))
def c22 : FD := ⟨[0, 1, 2], b22, [(.t 6), (.t 7)]⟩
theorem l22 : lowF Try.prog 22 = some c22 := by kernel_rfl
def b27 : Cmd := (.seq (.ops [⟨(some 6), true, none, (.i (.mv (.c .nils)))⟩, ⟨(some 7), true, none, (.i (.mv (.c (.int .i64 0))))⟩]) (.seq (.ops [⟨(some 21), false, none, (.i (.mv (.t 1)))⟩, ⟨(some 22), false, none, (.i (.len (.t 21)))⟩, ⟨(some 23), false, none, (.i (.mv (.t 2)))⟩, ⟨(some 24), false, none, (.i (.len (.t 23)))⟩, ⟨(some 25), false, none, (.i (.bin .add (.t 22) (.t 24)))⟩, ⟨(some 8), true, none, (.i (.mv (.t 25)))⟩]) (.seq (.seq (.ops [⟨(some 26), false, none, (.i (.mv (.t 1)))⟩, ⟨(some 27), false, none, (.i (.mv (.t 2)))⟩, ⟨(some 28), false, none, (.i (.buildS 2 1 [.nils] [((0, 1), (.t 26)), ((1, 1), (.t 27))]))⟩, ⟨(some 29), false, none, (.call (.c (.fn 33 [])) [(.t 28)])⟩, ⟨(some 30), false, none, (.i (.un .not (.t 29)))⟩, ⟨(some 31), false, none, (.i (.mv (.t 30)))⟩, ⟨(some 32), false, (some (31, false)), (.i (.mv (.t 8)))⟩, ⟨(some 33), false, (some (31, false)), (.i (.bin .gtr (.t 32) (.c (.int .i64 32))))⟩, ⟨(some 34), true, none, (.i (.pick (.t 31) (.c (.bool true)) (.t 33)))⟩]) (.cond (.t 34) (.seq (.ops [⟨(some 6), true, none, (.i (.mv (.c .nils)))⟩, ⟨(some 7), true, none, (.i (.mv (.c (.int .i64 111))))⟩]) .ret) .skip)) (.seq (.seq (.ops [⟨(some 35), false, none, (.i (.mv (.t 0)))⟩, ⟨(some 36), false, none, (.i (.mv (.t 1)))⟩, ⟨(some 37), false, none, (.i (.mv (.t 2)))⟩, ⟨(some 38), false, none, (.i (.buildS 2 1 [.nils] [((0, 1), (.t 36)), ((1, 1), (.t 37))]))⟩, ⟨(some 39), false, none, (.call (.c (.fn 43 [])) [(.t 35), (.t 38)])⟩, ⟨(some 9), true, none, (.i (.mv (.t 39)))⟩]) (.seq (.ops [⟨(some 40), false, none, (.i (.mv (.t 9)))⟩, ⟨(some 41), true, none, (.i (.bin .neq (.t 40) (.c (.int .i64 0))))⟩]) (.cond (.t 41) (.seq (.ops [⟨(some 42), false, none, (.i (.mv (.t 9)))⟩, ⟨(some 6), true, none, (.i (.mv (.c .nils)))⟩, ⟨(some 7), true, none, (.i (.mv (.t 42)))⟩]) .ret) .skip))) (.seq (.ops [⟨(some 44), false, none, (.i (.mv (.t 1)))⟩, ⟨(some 45), false, none, (.i (.mv (.t 8)))⟩, ⟨(some 46), false, none, (.call (.c (.fn 18 [])) [(.t 44), (.t 45)])⟩, ⟨(some 43), false, none, (.i (.mv (.t 46)))⟩, ⟨(some 47), false, none, (.i (.ext (.t 43) 0))⟩, ⟨(some 48), false, none, (.i (.ext (.t 43) 1))⟩, ⟨(some 10), true, none, (.i (.mv (.t 47)))⟩, ⟨(some 11), false, none, (.i (.mv (.t 48)))⟩]) (.seq (.ops [⟨(some 49), false, none, (.i (.mv (.t 8)))⟩, ⟨(some 50), false, none, (.i (.mkS 1 4 [(.int .u32 0)] (.t 49) (.t 49)))⟩, ⟨(some 12), true, none, (.i (.mv (.t 50)))⟩]) (.seq (.seq (.ops [⟨(some 51), true, none, (.i (.mv (.t 2)))⟩, ⟨(some 52), true, none, (.i (.len (.t 51)))⟩, ⟨(some 53), true, none, (.i (.mv (.c (.int .i64 0))))⟩]) (.block 0 (.loop (.seq (.ops [⟨(some 54), true, none, (.i (.bin .lss (.t 53) (.t 52)))⟩]) (.seq (.cond (.t 54) .skip (.exit 0)) (.seq (.block 1 (.seq (.ops [⟨(some 55), false, none, (.i (.mv (.t 53)))⟩, ⟨(some 56), false, none, (.i (.idxS 1 (.t 51) (.t 53)))⟩, ⟨(some 57), false, none, (.i (.ld1 (.t 56)))⟩, ⟨(some 13), true, none, (.i (.mv (.t 55)))⟩, ⟨(some 14), true, none, (.i (.mv (.t 57)))⟩]) (.seq (.ops [⟨(some 58), false, none, (.i (.mv (.t 8)))⟩, ⟨(some 59), false, none, (.i (.mkS 1 4 [(.int .u32 0)] (.t 58) (.t 58)))⟩, ⟨(some 15), true, none, (.i (.mv (.t 59)))⟩]) (.seq (.seq (.ops [⟨(some 60), false, none, (.i (.mv (.t 13)))⟩, ⟨(some 16), true, none, (.i (.mv (.t 60)))⟩]) (.block 2 (.loop (.seq (.seq (.ops [⟨(some 61), false, none, (.i (.mv (.t 16)))⟩, ⟨(some 62), false, none, (.i (.mv (.t 8)))⟩, ⟨(some 63), true, none, (.i (.bin .lss (.t 61) (.t 62)))⟩]) (.cond (.t 63) .skip (.exit 2))) (.seq (.block 3 (.seq (.ops [⟨(some 67), false, none, (.i (.mv (.t 0)))⟩, ⟨(some 68), false, none, (.i (.mv (.t 10)))⟩, ⟨(some 69), false, none, (.i (.mv (.t 16)))⟩, ⟨(some 70), false, none, (.i (.mv (.t 13)))⟩, ⟨(some 71), false, none, (.i (.bin .sub (.t 69) (.t 70)))⟩, ⟨(some 72), false, none, (.i (.idxS 1 (.t 68) (.t 71)))⟩, ⟨(some 73), false, none, (.i (.ld1 (.t 72)))⟩, ⟨(some 74), false, none, (.i (.mv (.t 14)))⟩, ⟨(some 75), false, none, (.i (.buildS 2 1 [(.int .u32 0)] [((0, 1), (.t 73)), ((1, 1), (.t 74))]))⟩, ⟨(some 76), false, none, (.call (.c (.fn 39 [])) [(.t 67), (.t 75)])⟩, ⟨(some 66), false, none, (.i (.mv (.t 76)))⟩, ⟨(some 77), false, none, (.i (.ext (.t 66) 0))⟩, ⟨(some 78), false, none, (.i (.ext (.t 66) 1))⟩, ⟨(some 17), true, none, (.i (.mv (.t 77)))⟩, ⟨(some 18), true, none, (.i (.mv (.t 78)))⟩]) (.seq (.seq (.ops [⟨(some 79), false, none, (.i (.mv (.t 18)))⟩, ⟨(some 80), true, none, (.i (.bin .neq (.t 79) (.c (.int .i64 0))))⟩]) (.cond (.t 80) (.seq (.ops [⟨(some 81), false, none, (.i (.mv (.t 18)))⟩, ⟨(some 6), true, none, (.i (.mv (.c .nils)))⟩, ⟨(some 7), true, none, (.i (.mv (.t 81)))⟩]) .ret) .skip)) (.ops [⟨(some 82), false, none, (.i (.mv (.t 15)))⟩, ⟨(some 83), false, none, (.i (.mv (.t 16)))⟩, ⟨(some 84), false, none, (.i (.mv (.t 17)))⟩, ⟨(some 85), false, none, (.i (.idxS 1 (.t 82) (.t 83)))⟩, ⟨none, false, none, (.i (.st 1 (.t 85) (.t 84)))⟩])))) (.ops [⟨(some 64), false, none, (.i (.mv (.t 16)))⟩, ⟨(some 65), false, none, (.i (.bin .add (.t 64) (.c (.int .i64 1))))⟩, ⟨(some 16), true, none, (.i (.mv (.t 65)))⟩])))))) (.seq (.ops [⟨(some 19), true, none, (.i (.mv (.c (.int .u32 0))))⟩]) (.seq (.seq (.ops [⟨(some 86), false, none, (.i (.mv (.t 13)))⟩, ⟨(some 87), false, none, (.i (.mv (.t 2)))⟩, ⟨(some 88), false, none, (.i (.len (.t 87)))⟩, ⟨(some 89), false, none, (.i (.bin .sub (.t 88) (.c (.int .i64 1))))⟩, ⟨(some 90), true, none, (.i (.bin .eql (.t 86) (.t 89)))⟩]) (.cond (.t 90) (.ops [⟨(some 91), false, none, (.i (.mv (.t 15)))⟩, ⟨(some 92), false, none, (.call (.c (.fn 40 [])) [(.t 91)])⟩, ⟨(some 15), true, none, (.i (.mv (.t 92)))⟩, ⟨(some 19), true, none, (.i (.mv (.c (.int .u32 1))))⟩]) .skip)) (.seq (.ops [⟨(some 20), true, none, (.i (.mv (.c (.int .i64 0))))⟩]) (.seq (.ops [⟨(some 94), false, none, (.i (.mv (.t 0)))⟩, ⟨(some 95), false, none, (.i (.mv (.t 12)))⟩, ⟨(some 96), false, none, (.i (.mv (.t 15)))⟩, ⟨(some 97), false, none, (.i (.mv (.t 19)))⟩, ⟨(some 98), false, none, (.call (.c (.fn 36 [])) [(.t 94), (.t 95), (.t 96), (.t 97)])⟩, ⟨(some 93), false, none, (.i (.mv (.t 98)))⟩, ⟨(some 99), false, none, (.i (.ext (.t 93) 0))⟩, ⟨(some 100), false, none, (.i (.ext (.t 93) 1))⟩, ⟨(some 12), true, none, (.i (.mv (.t 99)))⟩, ⟨(some 20), true, none, (.i (.mv (.t 100)))⟩]) (.seq (.ops [⟨(some 101), false, none, (.i (.mv (.t 20)))⟩, ⟨(some 102), true, none, (.i (.bin .neq (.t 101) (.c (.int .i64 0))))⟩]) (.cond (.t 102) (.seq (.ops [⟨(some 103), false, none, (.i (.mv (.t 20)))⟩, ⟨(some 6), true, none, (.i (.mv (.c .nils)))⟩, ⟨(some 7), true, none, (.i (.mv (.t 103)))⟩]) .ret) .skip)))))))))) (.ops [⟨(some 104), false, none, (.i (.bin .add (.t 53) (.c (.int .i64 1))))⟩, ⟨(some 53), true, none, (.i (.mv (.t 104)))⟩]))))))) (.seq (.ops [⟨(some 105), false, none, (.i (.mv (.t 12)))⟩, ⟨(some 6), true, none, (.i (.mv (.t 105)))⟩, ⟨(some 7), true, none, (.i (.mv (.c (.int .i64 0))))⟩]) .ret))))))))
def c27 : FD := ⟨[0, 1, 2], b27, [(.t 6), (.t 7)]⟩
theorem l27 : lowF Try.prog 27 = some c27 := by kernel_rfl
def b30 : Cmd := (.seq (.ops [⟨(some 8), true, none, (.i (.mv (.c .nils)))⟩, ⟨(some 9), true, none, (.i (.mv (.c (.int .i64 0))))⟩]) (.seq (.ops [⟨(some 16), false, none, (.i (.mv (.t 0)))⟩, ⟨(some 17), false, none, (.i (.mv (.t 2)))⟩, ⟨(some 18), false, none, (.i (.mv (.t 3)))⟩, ⟨(some 19), false, none, (.call (.c (.fn 35 [])) [(.t 16), (.t 17), (.t 18), (.c (.int .i64 0))])⟩, ⟨(some 15), false, none, (.i (.mv (.t 19)))⟩, ⟨(some 20), false, none, (.i (.ext (.t 15) 0))⟩, ⟨(some 21), false, none, (.i (.ext (.t 15) 1))⟩, ⟨(some 22), false, none, (.i (.ext (.t 15) 2))⟩, ⟨(some 10), true, none, (.i (.mv (.t 20)))⟩, ⟨(some 11), true, none, (.i (.mv (.t 21)))⟩, ⟨(some 12), true, none, (.i (.mv (.t 22)))⟩]) (.seq (.seq (.ops [⟨(some 23), false, none, (.i (.mv (.t 12)))⟩, ⟨(some 24), true, none, (.i (.bin .neq (.t 23) (.c (.int .i64 0))))⟩]) (.cond (.t 24) (.seq (.ops [⟨(some 25), false, none, (.i (.mv (.t 12)))⟩, ⟨(some 8), true, none, (.i (.mv (.c .nils)))⟩, ⟨(some 9), true, none, (.i (.mv (.t 25)))⟩]) .ret) .skip)) (.seq (.ops [⟨(some 26), false, none, (.i (.mv (.t 10)))⟩, ⟨(some 27), false, none, (.i (.len (.t 26)))⟩, ⟨(some 28), false, none, (.i (.mkS 1 4 [(.int .u32 0)] (.t 27) (.t 27)))⟩, ⟨(some 13), true, none, (.i (.mv (.t 28)))⟩]) (.seq (.seq (.ops [⟨(some 29), false, none, (.i (.mv (.t 13)))⟩, ⟨(some 30), true, none, (.i (.len (.t 29)))⟩, ⟨(some 31), true, none, (.i (.mv (.c (.int .i64 0))))⟩]) (.block 0 (.loop (.seq (.ops [⟨(some 32), true, none, (.i (.bin .lss (.t 31) (.t 30)))⟩]) (.seq (.cond (.t 32) .skip (.exit 0)) (.seq (.block 1 (.seq (.ops [⟨(some 33), false, none, (.i (.mv (.t 31)))⟩, ⟨(some 14), true, none, (.i (.mv (.t 33)))⟩]) (.seq (.ops [⟨(some 35), false, none, (.i (.mv (.t 13)))⟩, ⟨(some 36), false, none, (.i (.mv (.t 14)))⟩, ⟨(some 37), false, none, (.i (.mv (.t 0)))⟩, ⟨(some 38), false, none, (.i (.mv (.t 1)))⟩, ⟨(some 39), false, none, (.i (.mv (.t 10)))⟩, ⟨(some 40), false, none, (.i (.mv (.t 14)))⟩, ⟨(some 41), false, none, (.i (.idxS 1 (.t 39) (.t 40)))⟩, ⟨(some 42), false, none, (.i (.ld1 (.t 41)))⟩, ⟨(some 43), false, none, (.i (.mv (.t 11)))⟩, ⟨(some 44), false, none, (.i (.mv (.t 14)))⟩, ⟨(some 45), false, none, (.i (.idxS 1 (.t 43) (.t 44)))⟩, ⟨(some 46), false, none, (.i (.ld1 (.t 45)))⟩, ⟨(some 47), false, none, (.call (.c (.fn 38 [])) [(.t 37), (.t 38), (.t 42), (.t 46)])⟩, ⟨(some 34), false, none, (.i (.mv (.t 47)))⟩, ⟨(some 48), false, none, (.i (.ext (.t 34) 0))⟩, ⟨(some 49), false, none, (.i (.ext (.t 34) 1))⟩, ⟨(some 50), false, none, (.i (.idxS 1 (.t 35) (.t 36)))⟩, ⟨none, false, none, (.i (.st 1 (.t 50) (.t 48)))⟩, ⟨(some 12), true, none, (.i (.mv (.t 49)))⟩]) (.seq (.ops [⟨(some 51), false, none, (.i (.mv (.t 12)))⟩, ⟨(some 52), true, none, (.i (.bin .neq (.t 51) (.c (.int .i64 0))))⟩]) (.cond (.t 52) (.seq (.ops [⟨(some 53), false, none, (.i (.mv (.t 12)))⟩, ⟨(some 8), true, none, (.i (.mv (.c .nils)))⟩, ⟨(some 9), true, none, (.i (.mv (.t 53)))⟩]) .ret) .skip))))) (.ops [⟨(some 54), false, none, (.i (.bin .add (.t 31) (.c (.int .i64 1))))⟩, ⟨(some 31), true, none, (.i (.mv (.t 54)))⟩]))))))) (.seq (.ops [⟨(some 55), false, none, (.i (.mv (.t 13)))⟩, ⟨(some 8), true, none, (.i (.mv (.t 55)))⟩, ⟨(some 9), true, none, (.i (.mv (.c (.int .i64 0))))⟩]) .ret))))))
def c30 : FD := ⟨[0, 1, 2, 3], b30, [(.t 8), (.t 9)]⟩
theorem l30 : lowF Try.prog 30 = some c30 := by kernel_rfl
end Go.Sy
end

section
set_option maxRecDepth 100000
namespace Go.Sy
open Go.Ev Go.Proofs
section
variable {st : St} {K : AV → St → Prop}
theorem v_ext30 (a b c : AV) : onER (extV 0 (.tup [a, b, c]) st) K = K a st := nr rfl
theorem v_ext31 (a b c : AV) : onER (extV 1 (.tup [a, b, c]) st) K = K b st := nr rfl
theorem v_ext32 (a b c : AV) : onER (extV 2 (.tup [a, b, c]) st) K = K c st := nr rfl
end
variable {base : CallF}

theorem full_ok (hb : ∀ f args st, f ∈ [37, 38, 39, 41, 44, 51, 52, 53, 54, 55, 63] → base f args st = .no) {g p q m a b c : Nat} {ex : Bool} {G : Gr} (st : St) (hG : GM st.h st.nx g p q m ex G) (hok : G.OK) (hN : G.parts.length + 18 ≤ 1048576) (ha : G.has a) (hb' : G.has b) (hc : G.has c) (K : AV → St → Prop)
    (hK : ∀ x y p' ex' G' st', Aft g p q m G 18 st p' ex' G' st' → G'.has x → G'.has y →
      (∀ inp, inp 0 = false → ev inp G'.parts x = ((ev inp G.parts a == ev inp G.parts b) == ev inp G.parts c)) →
      (∀ inp, inp 0 = false → ev inp G'.parts y = if (ev inp G.parts a == ev inp G.parts b) = true then ev inp G.parts a else ev inp G.parts c) → K (.tup [.int .u32 (x : Int), .int .u32 (y : Int), .int .i64 0]) st') :
    CW Try.prog base 51 [.ptr g 0, .int .u32 (a : Int), .int .u32 (b : Int), .int .u32 (c : Int)] st K := by
  refine fn_rule l51 (hb _ _ _ (by simp)) ?_
  simp only [c51, entry, List.map_cons, List.map_nil, List.getD_cons_zero, List.getD_cons_succ]
  unfold b51
  have hbS : ∀ f args st, f ∈ [37, 38, 39, 41, 44, 52, 53, 54, 55, 63] → base f args st = .no := fun f a s hf => hb _ a s (by simp at hf ⊢; rcases hf with h | h | h | h | h | h | h | h | h | h <;> simp [h])
  have hbI : ∀ f args st, f ∈ [38, 39, 41, 44, 52, 53, 54, 55, 63] → base f args st = .no := fun f a s hf => hb _ a s (by simp at hf ⊢; rcases hf with h | h | h | h | h | h | h | h | h <;> simp [h])
  have A0 : Aft g p q m G 0 st p ex G st.bare := Aft.kept hG hok (Kept.refl _)
  simp (disch := first | assumption | decide | omega) only [qz3e, qz3f, qz3g, qz3h, qz3i, qz3j, qz00, qz01, qz02, qz03, qz04, qz05, qz06, qz07, qz08, qz09, qz0a, qz0b, qz0c, qz0d, qz0e, qz0f, qz0g, qz0h, qz0i, qz0j, qz0k, qz0l, qz0m, qz0n, qz0o, qz0p, qz0q, qz0r, qz0s, qz0t, qz0u, qz0v, qz0w, qz0x, qz0y, qz0z, qz10, qz11, qz12, qz13, qz14, qz15, qz16, qz17, qz18, qz19, qz1a, qz1b, qz1c, qz1d, qz1e, qz1f, qz1g, qz1h, qz1i, qz1j, qz1k, qz1l, qz1m, qz1n, qz1o, qz1p, qz1q, qz1r, qz1s, qz1t, qz1u, qz1v, qz1w, qz1x, qz1y, qz1z, qz20, qz21, qz22, qz23, qz24, qz25, qz26, qz27, qz28, qz29, qz2a, qz2b, qz2c, qz2d, qz2e, qz2f, qz2g, qz2h, qz2i, qz2j, qz2k, qz2l, qz2m, qz2n, qz2o, qz2p, qz2q, qz2r, qz2s, qz2t, qz2u, qz2v, qz2w, qz2x, qz2y, qz2z, qz30, qz31, qz32, qz33, qz34, qz35, qz36, qz37, qz38, qz39, qz3a, qz3b, qz3c, qz3d, Bool.not_true, Bool.not_false, List.cons_append, List.nil_append, List.append_nil]
  refine Same_ok hbS st.bare A0.gm hok (by omega) ha hb' _ fun u p1 ex1 G1 s1 B1 hu hev1 => ?_
  have A1 := A0.trans (B1.back A0.fr)
  generalize back st.bare s1 = t1 at A1
  have hl1 := A1.len
  simp (disch := first | assumption | decide | omega) only [qz3e, qz3f, qz3g, qz3h, qz3i, qz3j, qz00, qz01, qz02, qz03, qz04, qz05, qz06, qz07, qz08, qz09, qz0a, qz0b, qz0c, qz0d, qz0e, qz0f, qz0g, qz0h, qz0i, qz0j, qz0k, qz0l, qz0m, qz0n, qz0o, qz0p, qz0q, qz0r, qz0s, qz0t, qz0u, qz0v, qz0w, qz0x, qz0y, qz0z, qz10, qz11, qz12, qz13, qz14, qz15, qz16, qz17, qz18, qz19, qz1a, qz1b, qz1c, qz1d, qz1e, qz1f, qz1g, qz1h, qz1i, qz1j, qz1k, qz1l, qz1m, qz1n, qz1o, qz1p, qz1q, qz1r, qz1s, qz1t, qz1u, qz1v, qz1w, qz1x, qz1y, qz1z, qz20, qz21, qz22, qz23, qz24, qz25, qz26, qz27, qz28, qz29, qz2a, qz2b, qz2c, qz2d, qz2e, qz2f, qz2g, qz2h, qz2i, qz2j, qz2k, qz2l, qz2m, qz2n, qz2o, qz2p, qz2q, qz2r, qz2s, qz2t, qz2u, qz2v, qz2w, qz2x, qz2y, qz2z, qz30, qz31, qz32, qz33, qz34, qz35, qz36, qz37, qz38, qz39, qz3a, qz3b, qz3c, qz3d, Bool.not_true, Bool.not_false, List.cons_append, List.nil_append, List.append_nil]
  refine Same_ok hbS t1 A1.gm A1.ok (by omega) hu (A1.le.has hc) _ fun x p2 ex2 G2 s2 B2 hx hev2 => ?_
  have A2 := A1.trans (B2.back A1.fr)
  generalize back t1 s2 = t2 at A2
  have hl2 := A2.len
  simp (disch := first | assumption | decide | omega) only [qz3e, qz3f, qz3g, qz3h, qz3i, qz3j, qz00, qz01, qz02, qz03, qz04, qz05, qz06, qz07, qz08, qz09, qz0a, qz0b, qz0c, qz0d, qz0e, qz0f, qz0g, qz0h, qz0i, qz0j, qz0k, qz0l, qz0m, qz0n, qz0o, qz0p, qz0q, qz0r, qz0s, qz0t, qz0u, qz0v, qz0w, qz0x, qz0y, qz0z, qz10, qz11, qz12, qz13, qz14, qz15, qz16, qz17, qz18, qz19, qz1a, qz1b, qz1c, qz1d, qz1e, qz1f, qz1g, qz1h, qz1i, qz1j, qz1k, qz1l, qz1m, qz1n, qz1o, qz1p, qz1q, qz1r, qz1s, qz1t, qz1u, qz1v, qz1w, qz1x, qz1y, qz1z, qz20, qz21, qz22, qz23, qz24, qz25, qz26, qz27, qz28, qz29, qz2a, qz2b, qz2c, qz2d, qz2e, qz2f, qz2g, qz2h, qz2i, qz2j, qz2k, qz2l, qz2m, qz2n, qz2o, qz2p, qz2q, qz2r, qz2s, qz2t, qz2u, qz2v, qz2w, qz2x, qz2y, qz2z, qz30, qz31, qz32, qz33, qz34, qz35, qz36, qz37, qz38, qz39, qz3a, qz3b, qz3c, qz3d, Bool.not_true, Bool.not_false, List.cons_append, List.nil_append, List.append_nil]
  refine If_ok hbI t2 A2.gm A2.ok (by omega) (B2.le.has hu) (A2.le.has ha) (A2.le.has hc) _ fun y p3 ex3 G3 s3 B3 hy hev3 => ?_
  have A3 := A2.trans (B3.back A2.fr)
  generalize back t2 s3 = t3 at A3
  simp (disch := first | assumption | decide | omega) only [qz3e, qz3f, qz3g, qz3h, qz3i, qz3j, qz00, qz01, qz02, qz03, qz04, qz05, qz06, qz07, qz08, qz09, qz0a, qz0b, qz0c, qz0d, qz0e, qz0f, qz0g, qz0h, qz0i, qz0j, qz0k, qz0l, qz0m, qz0n, qz0o, qz0p, qz0q, qz0r, qz0s, qz0t, qz0u, qz0v, qz0w, qz0x, qz0y, qz0z, qz10, qz11, qz12, qz13, qz14, qz15, qz16, qz17, qz18, qz19, qz1a, qz1b, qz1c, qz1d, qz1e, qz1f, qz1g, qz1h, qz1i, qz1j, qz1k, qz1l, qz1m, qz1n, qz1o, qz1p, qz1q, qz1r, qz1s, qz1t, qz1u, qz1v, qz1w, qz1x, qz1y, qz1z, qz20, qz21, qz22, qz23, qz24, qz25, qz26, qz27, qz28, qz29, qz2a, qz2b, qz2c, qz2d, qz2e, qz2f, qz2g, qz2h, qz2i, qz2j, qz2k, qz2l, qz2m, qz2n, qz2o, qz2p, qz2q, qz2r, qz2s, qz2t, qz2u, qz2v, qz2w, qz2x, qz2y, qz2z, qz30, qz31, qz32, qz33, qz34, qz35, qz36, qz37, qz38, qz39, qz3a, qz3b, qz3c, qz3d, Bool.not_true, Bool.not_false, List.cons_append, List.nil_append, List.append_nil]
  refine hK x y p3 ex3 G3 t3.bare (A3.more (by omega)).bare (B3.le.has hx) hy (fun inp hi => ?_) fun inp hi => ?_
  · rw [B3.le.ev hx, hev2 inp hi, hev1 inp hi, A1.le.ev hc]
  · rw [hev3 inp hi, B2.le.ev hu, hev1 inp hi, A2.le.ev ha, A2.le.ev hc]

theorem turned_ok (hb : ∀ args st, base 40 args st = .no) {b o n c : Nat} {x : Bool} {a : Nat → Nat} (hn : n ≤ 32) (st : St) (hlt : b < st.nx) (hr : o + n ≤ rlen st.h b) (hv : ∀ i, i < n → rat st.h b (o + i) = .int .u32 (a i : Int)) (ha : ∀ i, i < n → a i ≤ 4294967295) (K : AV → St → Prop)
    (hK : ∀ bo st', Ext st st' → st.nx ≤ bo → bo < st'.nx → rlen st'.h bo = n → (∀ i, i < n → rat st'.h bo i = .int .u32 ((a i ^^^ 1 : Nat) : Int)) → K (.slice bo 0 n n 1 true) st') : CW Try.prog base 40 [.slice b o n c 1 x] st K := by
  refine fn_rule l40 (hb _ _) ?_
  simp only [c40, entry, List.map_cons, List.map_nil, List.getD_cons_zero, List.getD_cons_succ]
  unfold b40
  simp (disch := first | assumption | decide | omega) only [qz3e, qz3f, qz3g, qz3h, qz3i, qz3j, qz00, qz01, qz02, qz03, qz04, qz05, qz06, qz07, qz08, qz09, qz0a, qz0b, qz0c, qz0d, qz0e, qz0f, qz0g, qz0h, qz0i, qz0j, qz0k, qz0l, qz0m, qz0n, qz0o, qz0p, qz0q, qz0r, qz0s, qz0t, qz0u, qz0v, qz0w, qz0x, qz0y, qz0z, qz10, qz11, qz12, qz13, qz14, qz15, qz16, qz17, qz18, qz19, qz1a, qz1b, qz1c, qz1d, qz1e, qz1f, qz1g, qz1h, qz1i, qz1j, qz1k, qz1l, qz1m, qz1n, qz1o, qz1p, qz1q, qz1r, qz1s, qz1t, qz1u, qz1v, qz1w, qz1x, qz1y, qz1z, qz20, qz21, qz22, qz23, qz24, qz25, qz26, qz27, qz28, qz29, qz2a, qz2b, qz2c, qz2d, qz2e, qz2f, qz2g, qz2h, qz2i, qz2j, qz2k, qz2l, qz2m, qz2n, qz2o, qz2p, qz2q, qz2r, qz2s, qz2t, qz2u, qz2v, qz2w, qz2x, qz2y, qz2z, qz30, qz31, qz32, qz33, qz34, qz35, qz36, qz37, qz38, qz39, qz3a, qz3b, qz3c, qz3d, Bool.not_true, Bool.not_false, List.cons_append, List.nil_append, List.append_nil]
  refine o_mkS (l := n) (c := n) (by omega) (by omega) (by omega) fun s1 h1 => ?_
  simp (disch := first | assumption | decide | omega) only [qz3e, qz3f, qz3g, qz3h, qz3i, qz3j, qz00, qz01, qz02, qz03, qz04, qz05, qz06, qz07, qz08, qz09, qz0a, qz0b, qz0c, qz0d, qz0e, qz0f, qz0g, qz0h, qz0i, qz0j, qz0k, qz0l, qz0m, qz0n, qz0o, qz0p, qz0q, qz0r, qz0s, qz0t, qz0u, qz0v, qz0w, qz0x, qz0y, qz0z, qz10, qz11, qz12, qz13, qz14, qz15, qz16, qz17, qz18, qz19, qz1a, qz1b, qz1c, qz1d, qz1e, qz1f, qz1g, qz1h, qz1i, qz1j, qz1k, qz1l, qz1m, qz1n, qz1o, qz1p, qz1q, qz1r, qz1s, qz1t, qz1u, qz1v, qz1w, qz1x, qz1y, qz1z, qz20, qz21, qz22, qz23, qz24, qz25, qz26, qz27, qz28, qz29, qz2a, qz2b, qz2c, qz2d, qz2e, qz2f, qz2g, qz2h, qz2i, qz2j, qz2k, qz2l, qz2m, qz2n, qz2o, qz2p, qz2q, qz2r, qz2s, qz2t, qz2u, qz2v, qz2w, qz2x, qz2y, qz2z, qz30, qz31, qz32, qz33, qz34, qz35, qz36, qz37, qz38, qz39, qz3a, qz3b, qz3c, qz3d, Bool.not_true, Bool.not_false, List.cons_append, List.nil_append, List.append_nil]
  have n1 : s1.nx = st.nx + 1 := h1.nx
  have k1 : Kept st.bare s1 := (Kept.refl _).made h1
  have l1 : rlen s1.h st.nx = n := h1.len.trans (Nat.mul_one n)
  refine wC_loopH (fun mm L s => ∃ k : Nat, k ≤ n ∧ mm = n - k ∧ Kept st.bare s ∧ st.nx < s.nx ∧ rlen s.h st.nx = n ∧ (∀ j, j < k → rat s.h st.nx j = .int .u32 ((a j ^^^ 1 : Nat) : Int)) ∧ Has L 3 (.slice st.bare.nx 0 n n 1 true) ∧ Has L 9 (.slice b o n c 1 x) ∧ Has L 10 (.int .i64 (n : Int)) ∧ Has L 11 (.int .i64 (k : Int))) ?_ n ?_
  · rintro mm L s ⟨k, hk, rfl, ks, ns, ls, vs, i3, i9, i10, i11⟩
    unfold Hold
    by_cases hkn : k < n
    · have kb : hget s.h b = hget st.h b := ks.keep b hlt
      have e2 : o + k * 1 < rlen s.h b := by rw [rlen_same kb]; omega
      have e3 : rat s.h b (o + k * 1) = .int .u32 (a k : Int) := by rw [Nat.mul_one, rat_same kb]; exact hv k hkn
      have e4 := ha k hkn
      simp (disch := first | assumption | decide | omega) only [qz3e, qz3f, qz3g, qz3h, qz3i, qz3j, r_onh i3, r_onh i9, r_onh i10, r_onh i11, e3, qz00, qz01, qz02, qz03, qz04, qz05, qz06, qz07, qz08, qz09, qz0a, qz0b, qz0c, qz0d, qz0e, qz0f, qz0g, qz0h, qz0i, qz0j, qz0k, qz0l, qz0m, qz0n, qz0o, qz0p, qz0q, qz0r, qz0s, qz0t, qz0u, qz0v, qz0w, qz0x, qz0y, qz0z, qz10, qz11, qz12, qz13, qz14, qz15, qz16, qz17, qz18, qz19, qz1a, qz1b, qz1c, qz1d, qz1e, qz1f, qz1g, qz1h, qz1i, qz1j, qz1k, qz1l, qz1m, qz1n, qz1o, qz1p, qz1q, qz1r, qz1s, qz1t, qz1u, qz1v, qz1w, qz1x, qz1y, qz1z, qz20, qz21, qz22, qz23, qz24, qz25, qz26, qz27, qz28, qz29, qz2a, qz2b, qz2c, qz2d, qz2e, qz2f, qz2g, qz2h, qz2i, qz2j, qz2k, qz2l, qz2m, qz2n, qz2o, qz2p, qz2q, qz2r, qz2s, qz2t, qz2u, qz2v, qz2w, qz2x, qz2y, qz2z, qz30, qz31, qz32, qz33, qz34, qz35, qz36, qz37, qz38, qz39, qz3a, qz3b, qz3c, qz3d, Bool.not_true, Bool.not_false, List.cons_append, List.nil_append, List.append_nil]
      refine o_st1 (by show 0 + k * 1 < rlen s.h st.nx; omega) ⟨rfl, rfl, rfl⟩ fun s2 h2 => ?_
      have n2 : s2.nx = s.nx := h2.nx
      simp (disch := first | assumption | decide | omega) only [qz3e, qz3f, qz3g, qz3h, qz3i, qz3j, r_onh i11, v_addN, qz00, qz01, qz02, qz03, qz04, qz05, qz06, qz07, qz08, qz09, qz0a, qz0b, qz0c, qz0d, qz0e, qz0f, qz0g, qz0h, qz0i, qz0j, qz0k, qz0l, qz0m, qz0n, qz0o, qz0p, qz0q, qz0r, qz0s, qz0t, qz0u, qz0v, qz0w, qz0x, qz0y, qz0z, qz10, qz11, qz12, qz13, qz14, qz15, qz16, qz17, qz18, qz19, qz1a, qz1b, qz1c, qz1d, qz1e, qz1f, qz1g, qz1h, qz1i, qz1j, qz1k, qz1l, qz1m, qz1n, qz1o, qz1p, qz1q, qz1r, qz1s, qz1t, qz1u, qz1v, qz1w, qz1x, qz1y, qz1z, qz20, qz21, qz22, qz23, qz24, qz25, qz26, qz27, qz28, qz29, qz2a, qz2b, qz2c, qz2d, qz2e, qz2f, qz2g, qz2h, qz2i, qz2j, qz2k, qz2l, qz2m, qz2n, qz2o, qz2p, qz2q, qz2r, qz2s, qz2t, qz2u, qz2v, qz2w, qz2x, qz2y, qz2z, qz30, qz31, qz32, qz33, qz34, qz35, qz36, qz37, qz38, qz39, qz3a, qz3b, qz3c, qz3d, Bool.not_true, Bool.not_false, List.cons_append, List.nil_append, List.append_nil]
      refine ⟨n - (k + 1), by omega, k + 1, by omega, rfl, ks.wrote h2 (Nat.le_refl _), by omega, h2.len.trans ls, fun j hj => ?_, ?_⟩
      · have e5 := h2.cell j
        by_cases hjk : j = k
        · rw [if_pos (by omega)] at e5
          rw [hjk]; rw [hjk] at e5; exact e5
        · rw [if_neg (by omega)] at e5
          exact e5.trans (vs j (by omega))
      · simp (disch := decide) only [z0, z1, h_here, h_skip, i3, i9, i10, true_and, and_true]
    · have hkn' : k = n := by omega
      subst hkn'
      simp (disch := first | assumption | decide | omega) only [qz3e, qz3f, qz3g, qz3h, qz3i, qz3j, r_onh i3, r_onh i9, r_onh i10, r_onh i11, qz00, qz01, qz02, qz03, qz04, qz05, qz06, qz07, qz08, qz09, qz0a, qz0b, qz0c, qz0d, qz0e, qz0f, qz0g, qz0h, qz0i, qz0j, qz0k, qz0l, qz0m, qz0n, qz0o, qz0p, qz0q, qz0r, qz0s, qz0t, qz0u, qz0v, qz0w, qz0x, qz0y, qz0z, qz10, qz11, qz12, qz13, qz14, qz15, qz16, qz17, qz18, qz19, qz1a, qz1b, qz1c, qz1d, qz1e, qz1f, qz1g, qz1h, qz1i, qz1j, qz1k, qz1l, qz1m, qz1n, qz1o, qz1p, qz1q, qz1r, qz1s, qz1t, qz1u, qz1v, qz1w, qz1x, qz1y, qz1z, qz20, qz21, qz22, qz23, qz24, qz25, qz26, qz27, qz28, qz29, qz2a, qz2b, qz2c, qz2d, qz2e, qz2f, qz2g, qz2h, qz2i, qz2j, qz2k, qz2l, qz2m, qz2n, qz2o, qz2p, qz2q, qz2r, qz2s, qz2t, qz2u, qz2v, qz2w, qz2x, qz2y, qz2z, qz30, qz31, qz32, qz33, qz34, qz35, qz36, qz37, qz38, qz39, qz3a, qz3b, qz3c, qz3d, Bool.not_true, Bool.not_false, List.cons_append, List.nil_append, List.append_nil]
      exact hK st.nx s.bare ⟨ks.nx, rfl, ks.keep⟩ (Nat.le_refl _) ns ls vs
  · refine ⟨0, by omega, rfl, k1, by omega, l1, fun j hj => absurd hj (Nat.not_lt_zero _), ?_⟩
    simp (disch := decide) only [z0, z1, h_here, h_skip, true_and, and_true]
end Go.Sy
end

section
set_option maxRecDepth 100000
namespace Go.Sy
open Go.Ev Go.Proofs
variable {base : CallF}

theorem GM.own {h h' : T AO} {nx g p q m : Nat} {ex : Bool} {G : Gr} (k : GM h nx g p q m ex G) (hk : ∀ c, Own g p q m G c → hget h' c = hget h c) : GM h' nx g p q m ex G := by
  have og := hk g (.inl rfl)
  have op := hk p (.inr (.inl rfl))
  have om := hk m (.inr (.inr (.inl rfl)))
  have oq : G.inputs ≠ [] → hget h' q = hget h q := fun h => hk q (.inr (.inr (.inr ⟨h, rfl⟩)))
  exact { k with
    glen := (rlen_same og).trans k.glen
    g0 := (rat_same og 0).trans k.g0
    g1 := (rat_same og 1).trans k.g1
    g2 := (rat_same og 2).trans k.g2
    plen := k.plen.trans (rlen_same op).symm
    pat := fun i hi => ⟨(rat_same op _).trans (k.pat i hi).1, (rat_same op _).trans (k.pat i hi).2⟩
    qlen := fun h => (k.qlen h).trans (rlen_same (oq h)).symm
    qat := fun i hi => (rat_same (oq (by intro e; rw [e] at hi; simp at hi)) _).trans (k.qat i hi)
    mm := om.trans k.mm }
theorem Aft.wrote {g p q m : Nat} {ex' : Bool} {G G' : Gr} {k : Nat} {st s s' : St} {p' b o : Nat} {v : AV} (h : Aft g p q m G k st p' ex' G' s) (i : Wrote s s' b o v) (hb : ¬ Own g p' q m G' b) (hn : st.nx ≤ b) : Aft g p q m G k st p' ex' G' s' where
  fr := i.fr.trans h.fr
  step := ⟨by have := h.step.nx; rw [i.nx]; exact this, i.fr.trans h.fr, fun c hc ho => (i.keep c (by have : c < st.nx := hc; omega)).trans (h.step.keep c hc ho), h.step.own⟩
  gm := by
    have := h.gm.own (h' := s'.h) fun c hc => i.keep c (fun e => hb (e ▸ hc))
    rw [i.nx]; exact this
  ok := h.ok
  le := h.le
  len := h.len
  inp := h.inp
  one := h.one

/-- what is carried to a place -/
def cr (A B : Nat → Bool) (c : Bool) : Nat → Bool
  | 0 => c
  | i + 1 => if (A i == B i) = true then A i else cr A B c i
def sbit (A B : Nat → Bool) (c : Bool) (i : Nat) : Bool := (A i == B i) == cr A B c i

theorem sum_ok (hb : ∀ f args st, f ∈ [36, 37, 38, 39, 41, 44, 51, 52, 53, 54, 55, 63] → base f args st = .no) {g p q m b1 o1 c1 b2 o2 c2 n c : Nat} {x1 x2 ex : Bool} {G : Gr} {a1 a2 : Nat → Nat} (st : St) (hG : GM st.h st.nx g p q m ex G) (hok : G.OK) (hn : n ≤ 32) (hN : G.parts.length + 18 * n ≤ 1048576)
    (hE1 : Ed st (Own g p q m G) b1 o1 n a1) (hE2 : Ed st (Own g p q m G) b2 o2 n a2) (h1 : ∀ i, i < n → G.has (a1 i)) (h2 : ∀ i, i < n → G.has (a2 i)) (hc : G.has c) (K : AV → St → Prop)
    (hK : ∀ bo xs p' ex' G' st', Aft g p q m G (18 * n) st p' ex' G' st' → st.nx ≤ bo → Ed st' (Own g p' q m G') bo 0 n xs → (∀ i, i < n → G'.has (xs i)) →
      (∀ inp, inp 0 = false → ∀ i, i < n → ev inp G'.parts (xs i) = sbit (fun i => ev inp G.parts (a1 i)) (fun i => ev inp G.parts (a2 i)) (ev inp G.parts c) i) → K (.tup [.slice bo 0 n n 1 true, .int .i64 0]) st') :
    CW Try.prog base 36 [.ptr g 0, .slice b1 o1 n c1 1 x1, .slice b2 o2 n c2 1 x2, .int .u32 (c : Int)] st K := by
  refine fn_rule l36 (hb _ _ _ (by simp)) ?_
  simp only [c36, entry, List.map_cons, List.map_nil, List.getD_cons_zero, List.getD_cons_succ]
  unfold b36
  have hbF : ∀ f args st, f ∈ [37, 38, 39, 41, 44, 51, 52, 53, 54, 55, 63] → base f args st = .no := fun f a s hf => hb _ a s (by simp at hf ⊢; rcases hf with h | h | h | h | h | h | h | h | h | h | h <;> simp [h])
  have A0 : Aft g p q m G 0 st p ex G st.bare := Aft.kept hG hok (Kept.refl _)
  simp (disch := first | assumption | decide | omega) only [qz3e, qz3f, qz3g, qz3h, qz3i, qz3j, qz00, qz01, qz02, qz03, qz04, qz05, qz06, qz07, qz08, qz09, qz0a, qz0b, qz0c, qz0d, qz0e, qz0f, qz0g, qz0h, qz0i, qz0j, qz0k, qz0l, qz0m, qz0n, qz0o, qz0p, qz0q, qz0r, qz0s, qz0t, qz0u, qz0v, qz0w, qz0x, qz0y, qz0z, qz10, qz11, qz12, qz13, qz14, qz15, qz16, qz17, qz18, qz19, qz1a, qz1b, qz1c, qz1d, qz1e, qz1f, qz1g, qz1h, qz1i, qz1j, qz1k, qz1l, qz1m, qz1n, qz1o, qz1p, qz1q, qz1r, qz1s, qz1t, qz1u, qz1v, qz1w, qz1x, qz1y, qz1z, qz20, qz21, qz22, qz23, qz24, qz25, qz26, qz27, qz28, qz29, qz2a, qz2b, qz2c, qz2d, qz2e, qz2f, qz2g, qz2h, qz2i, qz2j, qz2k, qz2l, qz2m, qz2n, qz2o, qz2p, qz2q, qz2r, qz2s, qz2t, qz2u, qz2v, qz2w, qz2x, qz2y, qz2z, qz30, qz31, qz32, qz33, qz34, qz35, qz36, qz37, qz38, qz39, qz3a, qz3b, qz3c, qz3d, Bool.not_true, Bool.not_false, List.cons_append, List.nil_append, List.append_nil]
  refine o_mkS (l := n) (c := n) (by omega) (by omega) (by omega) fun s1 hs1 => ?_
  have A1 := A0.made hs1
  have n1 : s1.nx = st.nx + 1 := hs1.nx
  have l1 : rlen s1.h st.nx = n := hs1.len.trans (Nat.mul_one n)
  simp (disch := first | assumption | decide | omega) only [qz3e, qz3f, qz3g, qz3h, qz3i, qz3j, qz00, qz01, qz02, qz03, qz04, qz05, qz06, qz07, qz08, qz09, qz0a, qz0b, qz0c, qz0d, qz0e, qz0f, qz0g, qz0h, qz0i, qz0j, qz0k, qz0l, qz0m, qz0n, qz0o, qz0p, qz0q, qz0r, qz0s, qz0t, qz0u, qz0v, qz0w, qz0x, qz0y, qz0z, qz10, qz11, qz12, qz13, qz14, qz15, qz16, qz17, qz18, qz19, qz1a, qz1b, qz1c, qz1d, qz1e, qz1f, qz1g, qz1h, qz1i, qz1j, qz1k, qz1l, qz1m, qz1n, qz1o, qz1p, qz1q, qz1r, qz1s, qz1t, qz1u, qz1v, qz1w, qz1x, qz1y, qz1z, qz20, qz21, qz22, qz23, qz24, qz25, qz26, qz27, qz28, qz29, qz2a, qz2b, qz2c, qz2d, qz2e, qz2f, qz2g, qz2h, qz2i, qz2j, qz2k, qz2l, qz2m, qz2n, qz2o, qz2p, qz2q, qz2r, qz2s, qz2t, qz2u, qz2v, qz2w, qz2x, qz2y, qz2z, qz30, qz31, qz32, qz33, qz34, qz35, qz36, qz37, qz38, qz39, qz3a, qz3b, qz3c, qz3d, Bool.not_true, Bool.not_false, List.cons_append, List.nil_append, List.append_nil]
  refine wC_loopH (fun mm L s => ∃ (k cy : Nat) (xs : Nat → Nat) (p' : Nat) (ex' : Bool) (G' : Gr), k ≤ n ∧ mm = n - k ∧ Aft g p q m G (18 * k) st p' ex' G' s ∧ ¬ Own g p' q m G' st.nx ∧ st.nx < s.nx ∧ rlen s.h st.nx = n ∧ (∀ j, j < k → rat s.h st.nx j = .int .u32 (xs j : Int) ∧ G'.has (xs j)) ∧ G'.has cy ∧
      (∀ inp, inp 0 = false → ev inp G'.parts cy = cr (fun i => ev inp G.parts (a1 i)) (fun i => ev inp G.parts (a2 i)) (ev inp G.parts c) k ∧ ∀ j, j < k → ev inp G'.parts (xs j) = sbit (fun i => ev inp G.parts (a1 i)) (fun i => ev inp G.parts (a2 i)) (ev inp G.parts c) j) ∧
      Has L 0 (.ptr g 0) ∧ Has L 1 (.slice b1 o1 n c1 1 x1) ∧ Has L 2 (.slice b2 o2 n c2 1 x2) ∧ Has L 3 (.int .u32 (cy : Int)) ∧ Has L 10 (.slice st.bare.nx 0 n n 1 true) ∧ Has L 17 (.int .i64 (n : Int)) ∧ Has L 18 (.int .i64 (k : Int))) ?_ n ?_
  · rintro mm L s ⟨k, cy, xs, p', ex', G', hk, rfl, A, hno, hlt, hl, hv, hcy, hev, i0, i1, i2, i3, i10, i17, i18⟩
    unfold Hold
    by_cases hkn : k < n
    · have E1 := Ed.step hE1.bare A.step
      have E2 := Ed.step hE2.bare A.step
      have e1 : o1 + k * 1 < rlen s.h b1 := by have := E1.len; omega
      have e2 : rat s.h b1 (o1 + k * 1) = .int .u32 (a1 k : Int) := by rw [Nat.mul_one]; exact E1.cell k hkn
      have e3 : o2 + k * 1 < rlen s.h b2 := by have := E2.len; omega
      have e4 : rat s.h b2 (o2 + k * 1) = .int .u32 (a2 k : Int) := by rw [Nat.mul_one]; exact E2.cell k hkn
      have hlen := A.len
      simp (disch := first | assumption | decide | omega) only [qz3e, qz3f, qz3g, qz3h, qz3i, qz3j, r_onh i0, r_onh i1, r_onh i2, r_onh i3, r_onh i10, r_onh i17, r_onh i18, e2, e4, qz00, qz01, qz02, qz03, qz04, qz05, qz06, qz07, qz08, qz09, qz0a, qz0b, qz0c, qz0d, qz0e, qz0f, qz0g, qz0h, qz0i, qz0j, qz0k, qz0l, qz0m, qz0n, qz0o, qz0p, qz0q, qz0r, qz0s, qz0t, qz0u, qz0v, qz0w, qz0x, qz0y, qz0z, qz10, qz11, qz12, qz13, qz14, qz15, qz16, qz17, qz18, qz19, qz1a, qz1b, qz1c, qz1d, qz1e, qz1f, qz1g, qz1h, qz1i, qz1j, qz1k, qz1l, qz1m, qz1n, qz1o, qz1p, qz1q, qz1r, qz1s, qz1t, qz1u, qz1v, qz1w, qz1x, qz1y, qz1z, qz20, qz21, qz22, qz23, qz24, qz25, qz26, qz27, qz28, qz29, qz2a, qz2b, qz2c, qz2d, qz2e, qz2f, qz2g, qz2h, qz2i, qz2j, qz2k, qz2l, qz2m, qz2n, qz2o, qz2p, qz2q, qz2r, qz2s, qz2t, qz2u, qz2v, qz2w, qz2x, qz2y, qz2z, qz30, qz31, qz32, qz33, qz34, qz35, qz36, qz37, qz38, qz39, qz3a, qz3b, qz3c, qz3d, Bool.not_true, Bool.not_false, List.cons_append, List.nil_append, List.append_nil]
      refine full_ok hbF s A.gm A.ok (by omega) (A.le.has (h1 k hkn)) (A.le.has (h2 k hkn)) hcy _ fun x y p2 ex2 G2 s2 B hx hy hevx hevy => ?_
      have B' := B.back A.fr
      have A2 := A.trans B'
      have hno2 : ¬ Own g p2 q m G2 st.nx := fun h => (B.step.own _ h).elim hno fun h' => by have : s.nx ≤ st.nx := h'; omega
      have hkeep : hget (back s s2).h st.nx = hget s.h st.nx := B.step.keep st.nx hlt hno
      have hlt2 : st.nx < (back s s2).nx := Nat.lt_of_lt_of_le hlt B.step.nx
      generalize back s s2 = t at A2 hkeep hlt2 B'
      simp (disch := first | assumption | decide | omega) only [qz3e, qz3f, qz3g, qz3h, qz3i, qz3j, v_ext30, v_ext31, v_ext32, r_onh i10, r_onh i18, qz00, qz01, qz02, qz03, qz04, qz05, qz06, qz07, qz08, qz09, qz0a, qz0b, qz0c, qz0d, qz0e, qz0f, qz0g, qz0h, qz0i, qz0j, qz0k, qz0l, qz0m, qz0n, qz0o, qz0p, qz0q, qz0r, qz0s, qz0t, qz0u, qz0v, qz0w, qz0x, qz0y, qz0z, qz10, qz11, qz12, qz13, qz14, qz15, qz16, qz17, qz18, qz19, qz1a, qz1b, qz1c, qz1d, qz1e, qz1f, qz1g, qz1h, qz1i, qz1j, qz1k, qz1l, qz1m, qz1n, qz1o, qz1p, qz1q, qz1r, qz1s, qz1t, qz1u, qz1v, qz1w, qz1x, qz1y, qz1z, qz20, qz21, qz22, qz23, qz24, qz25, qz26, qz27, qz28, qz29, qz2a, qz2b, qz2c, qz2d, qz2e, qz2f, qz2g, qz2h, qz2i, qz2j, qz2k, qz2l, qz2m, qz2n, qz2o, qz2p, qz2q, qz2r, qz2s, qz2t, qz2u, qz2v, qz2w, qz2x, qz2y, qz2z, qz30, qz31, qz32, qz33, qz34, qz35, qz36, qz37, qz38, qz39, qz3a, qz3b, qz3c, qz3d, Bool.not_true, Bool.not_false, List.cons_append, List.nil_append, List.append_nil]
      refine o_st1 (by show 0 + k * 1 < rlen t.h st.nx; rw [rlen_same hkeep]; omega) ⟨rfl, rfl, rfl⟩ fun s3 h3 => ?_
      have A3 := A2.wrote h3 hno2 (Nat.le_refl _)
      have n3 : s3.nx = t.nx := h3.nx
      simp (disch := first | assumption | decide | omega) only [qz3e, qz3f, qz3g, qz3h, qz3i, qz3j, r_onh i18, v_addN, qz00, qz01, qz02, qz03, qz04, qz05, qz06, qz07, qz08, qz09, qz0a, qz0b, qz0c, qz0d, qz0e, qz0f, qz0g, qz0h, qz0i, qz0j, qz0k, qz0l, qz0m, qz0n, qz0o, qz0p, qz0q, qz0r, qz0s, qz0t, qz0u, qz0v, qz0w, qz0x, qz0y, qz0z, qz10, qz11, qz12, qz13, qz14, qz15, qz16, qz17, qz18, qz19, qz1a, qz1b, qz1c, qz1d, qz1e, qz1f, qz1g, qz1h, qz1i, qz1j, qz1k, qz1l, qz1m, qz1n, qz1o, qz1p, qz1q, qz1r, qz1s, qz1t, qz1u, qz1v, qz1w, qz1x, qz1y, qz1z, qz20, qz21, qz22, qz23, qz24, qz25, qz26, qz27, qz28, qz29, qz2a, qz2b, qz2c, qz2d, qz2e, qz2f, qz2g, qz2h, qz2i, qz2j, qz2k, qz2l, qz2m, qz2n, qz2o, qz2p, qz2q, qz2r, qz2s, qz2t, qz2u, qz2v, qz2w, qz2x, qz2y, qz2z, qz30, qz31, qz32, qz33, qz34, qz35, qz36, qz37, qz38, qz39, qz3a, qz3b, qz3c, qz3d, Bool.not_true, Bool.not_false, List.cons_append, List.nil_append, List.append_nil]
      refine ⟨n - (k + 1), by omega, k + 1, y, fun j => if j = k then x else xs j, p2, ex2, G2, by omega, rfl, A3.more (by omega), hno2, by omega, h3.len.trans ((rlen_same hkeep).trans hl), fun j hj => ?_, hy, fun inp hi => ⟨?_, fun j hj => ?_⟩, ?_⟩
      · have e5 := h3.cell j
        by_cases hjk : j = k
        · rw [if_pos (by omega)] at e5
          simp only [if_pos hjk]
          exact ⟨e5, hx⟩
        · rw [if_neg (by omega)] at e5
          simp only [if_neg hjk]
          exact ⟨e5.trans ((rat_same hkeep j).trans (hv j (by omega)).1), B.le.has (hv j (by omega)).2⟩
      · rw [hevy inp hi, A.le.ev (h1 k hkn), A.le.ev (h2 k hkn), (hev inp hi).1]; rfl
      · by_cases hjk : j = k
        · simp only [if_pos hjk]
          rw [hevx inp hi, A.le.ev (h1 k hkn), A.le.ev (h2 k hkn), (hev inp hi).1, hjk]; rfl
        · simp only [if_neg hjk]
          rw [B.le.ev (hv j (by omega)).2]
          exact (hev inp hi).2 j (by omega)
      · simp (disch := decide) only [z0, z1, h_here, h_skip, i0, i1, i2, i10, i17, true_and, and_true]
    · have hkn' : k = n := by omega
      subst hkn'
      simp (disch := first | assumption | decide | omega) only [qz3e, qz3f, qz3g, qz3h, qz3i, qz3j, r_onh i0, r_onh i1, r_onh i2, r_onh i3, r_onh i10, r_onh i17, r_onh i18, qz00, qz01, qz02, qz03, qz04, qz05, qz06, qz07, qz08, qz09, qz0a, qz0b, qz0c, qz0d, qz0e, qz0f, qz0g, qz0h, qz0i, qz0j, qz0k, qz0l, qz0m, qz0n, qz0o, qz0p, qz0q, qz0r, qz0s, qz0t, qz0u, qz0v, qz0w, qz0x, qz0y, qz0z, qz10, qz11, qz12, qz13, qz14, qz15, qz16, qz17, qz18, qz19, qz1a, qz1b, qz1c, qz1d, qz1e, qz1f, qz1g, qz1h, qz1i, qz1j, qz1k, qz1l, qz1m, qz1n, qz1o, qz1p, qz1q, qz1r, qz1s, qz1t, qz1u, qz1v, qz1w, qz1x, qz1y, qz1z, qz20, qz21, qz22, qz23, qz24, qz25, qz26, qz27, qz28, qz29, qz2a, qz2b, qz2c, qz2d, qz2e, qz2f, qz2g, qz2h, qz2i, qz2j, qz2k, qz2l, qz2m, qz2n, qz2o, qz2p, qz2q, qz2r, qz2s, qz2t, qz2u, qz2v, qz2w, qz2x, qz2y, qz2z, qz30, qz31, qz32, qz33, qz34, qz35, qz36, qz37, qz38, qz39, qz3a, qz3b, qz3c, qz3d, Bool.not_true, Bool.not_false, List.cons_append, List.nil_append, List.append_nil]
      exact hK st.nx xs p' ex' G' s.bare A.bare (Nat.le_refl _) ⟨hlt, hno, by show 0 + k ≤ rlen s.h st.nx; omega, fun i hi => by rw [Nat.zero_add]; exact (hv i hi).1⟩ (fun i hi => (hv i hi).2) fun inp hi => (hev inp hi).2
  · refine ⟨0, c, fun _ => 0, p, ex, G, by omega, rfl, A1.more (by omega), fun h => by have := own_lt hG h; omega, by omega, l1, fun j hj => absurd hj (Nat.not_lt_zero _), hc, fun inp _ => ⟨rfl, fun j hj => absurd hj (Nat.not_lt_zero _)⟩, ?_⟩
    simp (disch := decide) only [z0, z1, h_here, h_skip, true_and, and_true]
end Go.Sy
end

section
set_option maxRecDepth 100000
namespace Go.Sy
open Go.Ev Go.Proofs
section
variable {st : St} {K : AV → St → Prop}
/-- a cell behind nothing -/
theorem o_appN {bytes : Nat} {bv : Nat} {v : AV} {xx : Bool} {xc : Nat} (hby : bytes ≤ 140737488355328) (hv : rlen st.h bv = 1) (hv2 : rat st.h bv 0 = v)
    (hk : ∀ st', Made st st' 1 (fun _ => v) → K (.slice st.nx 0 1 1 1 false) st') : onER (appV 1 bytes .nils (.slice bv 0 1 xc 1 xx) st) K := by
  obtain ⟨n, zl, z, cs, hg⟩ := isRow_pos (h := st.h) (b := bv) (by omega)
  rw [rlen_get hg] at hv
  rw [rat_get hg] at hv2
  have e1 : Nat.ble (Nat.add 0 (Nat.mul 1 1)) n = true := ble_t (by subst hv; exact Nat.le_refl 1)
  have e2 : rowCells zl z cs (Nat.mul 1 1) 0 = [v] := by rw [rowCells_eq]; show [rowCell zl z cs (0 + 0)] = _; rw [Nat.add_zero, hv2]
  have e3 : Nat.beq (llen [v]) (Nat.mul 1 1) = true := rfl
  have e4 : Nat.beq 1 0 = false := rfl
  have e5 : Nat.ble (Nat.mul 1 bytes) 140737488355328 = true := ble_t (by show 1 * bytes ≤ _; omega)
  have e6 : Nat.ble 1 9223372036854775807 = true := ble_t (by decide)
  have e7 : Nat.mul 1 1 = 1 := rfl
  simp only [appV, onLen, firstCells, hg, onRow, force_eq, e1, e2, cond_true, appendWith, e3, e4, cond_false, e5, e6, e7, St.alloc_eq, onER]
  refine hk _ (made_row fun i hi => ?_)
  have : i = 0 := by omega
  rw [rowCell_eq, get_e, this]; rfl
end
variable {base : CallF}

/-- a new input -/
def Gr.more (G : Gr) : Gr := { G with parts := G.parts ++ [(0, 0)], inputs := G.inputs ++ [2 * G.parts.length] }
theorem OK_input {G : Gr} (h : G.OK) (hl : G.parts.length < 1048576) : G.more.OK := by
  have k := OK_push h hl (p := (0, 0)) fun h => absurd rfl h
  obtain ⟨l, hf⟩ := h.first
  have hpos : 0 < G.parts.length := by rw [hf]; simp
  refine ⟨k.first, k.most, k.down, fun a ha => ?_, k.kn⟩
  rcases List.mem_append.1 ha with ha | ha
  · exact k.ins a ha
  · have e : a = 2 * G.parts.length := by simpa using ha
    subst e
    have e1 : 2 * G.parts.length / 2 = G.parts.length := by omega
    refine ⟨by omega, by omega, ?_, ?_⟩
    · rw [e1]; show G.parts.length < (G.parts ++ [(0, 0)]).length; rw [List.length_append]; simp
    · rw [e1]; show (G.parts ++ [(0, 0)]).getD G.parts.length (0, 0) = _
      rw [List.getD_eq_getElem?_getD, List.getElem?_append_right (Nat.le_refl _)]; simp

/-- a graph's inputs are another slice now -/
theorem GM.inputs {h h' : T AO} {nx nx' g p q m q' : Nat} {ex : Bool} {G : Gr} {is : List Nat} (k : GM h nx g p q m ex G) (hn : nx ≤ nx') (hq : nx ≤ q') (hq' : q' < nx') (his : is ≠ [])
    (hk : ∀ c, c < nx → c ≠ g → ¬ (G.inputs ≠ [] ∧ c = q) → hget h' c = hget h c) (l : rlen h' g = 3) (r0 : rat h' g 0 = rat h g 0) (r1 : rat h' g 1 = .slice q' 0 is.length is.length 1 false) (r2 : rat h' g 2 = rat h g 2)
    (hl : is.length = rlen h' q') (hv : ∀ i, i < is.length → rat h' q' i = .int .u32 (is.getD i 0 : Int)) : GM h' nx' g p q' m ex { G with inputs := is } := by
  have kp := hk p k.p_lt (fun e => k.gp e.symm) (fun e => (k.qs e.1).2.1 e.2.symm)
  have km := hk m k.m_lt (fun e => k.gm e.symm) (fun e => (k.qs e.1).2.2 e.2.symm)
  have a1 := k.g_lt
  have a2 := k.p_lt
  have a3 := k.m_lt
  refine ⟨by omega, by omega, by omega, fun _ => hq', k.gp, k.gm, k.pm, fun _ => ⟨by omega, by omega, by omega⟩, l, r0.trans k.g0, ?_, r2.trans k.g2, k.plen.trans (rlen_same kp).symm, k.ppos,
    fun i hi => ⟨(rat_same kp _).trans (k.pat i hi).1, (rat_same kp _).trans (k.pat i hi).2⟩, fun _ => hl, hv, km.trans k.mm⟩
  rw [r1]; exact (if_neg his).symm
end Go.Sy
end

section
set_option maxRecDepth 100000
namespace Go.Sy
open Go.Ev Go.Proofs
variable {base : CallF}

theorem Input_ok (hb : ∀ f args st, f = 29 ∨ f = 44 → base f args st = .no) {g p q m : Nat} {ex : Bool} {G : Gr} (st : St) (hG : GM st.h st.nx g p q m ex G) (hN : G.parts.length < 1048576) (hI : G.inputs.length < 1048576) (K : AV → St → Prop)
    (hK : ∀ p' q' st', st'.fr = [] → Step (Own g p q m G) (Own g p' q' m G.more) st.bare st' → GM st'.h st'.nx g p' q' m false G.more → K (.tup [.int .u32 ((2 * G.parts.length : Nat) : Int), .int .i64 0]) st') :
    CW Try.prog base 29 [.ptr g 0] st K := by
  refine fn_rule l29 (hb _ _ _ (by simp)) ?_
  simp only [c29, entry, List.map_cons, List.map_nil, List.getD_cons_zero, List.getD_cons_succ]
  unfold b29
  simp (disch := first | assumption | decide | omega) only [qz3e, qz3f, qz3g, qz3h, qz3i, qz3j, qz00, qz01, qz02, qz03, qz04, qz05, qz06, qz07, qz08, qz09, qz0a, qz0b, qz0c, qz0d, qz0e, qz0f, qz0g, qz0h, qz0i, qz0j, qz0k, qz0l, qz0m, qz0n, qz0o, qz0p, qz0q, qz0r, qz0s, qz0t, qz0u, qz0v, qz0w, qz0x, qz0y, qz0z, qz10, qz11, qz12, qz13, qz14, qz15, qz16, qz17, qz18, qz19, qz1a, qz1b, qz1c, qz1d, qz1e, qz1f, qz1g, qz1h, qz1i, qz1j, qz1k, qz1l, qz1m, qz1n, qz1o, qz1p, qz1q, qz1r, qz1s, qz1t, qz1u, qz1v, qz1w, qz1x, qz1y, qz1z, qz20, qz21, qz22, qz23, qz24, qz25, qz26, qz27, qz28, qz29, qz2a, qz2b, qz2c, qz2d, qz2e, qz2f, qz2g, qz2h, qz2i, qz2j, qz2k, qz2l, qz2m, qz2n, qz2o, qz2p, qz2q, qz2r, qz2s, qz2t, qz2u, qz2v, qz2w, qz2x, qz2y, qz2z, qz30, qz31, qz32, qz33, qz34, qz35, qz36, qz37, qz38, qz39, qz3a, qz3b, qz3c, qz3d, Bool.not_true, Bool.not_false, List.cons_append, List.nil_append, List.append_nil]
  refine more_ok (a := 0) (b := 0) (fun a s => hb _ a s (by simp)) st.bare hG hN _ fun p' s1 f1 S1 G1 => ?_
  have S0 : Step (Own g p q m G) (Own g p' q m { G with parts := G.parts ++ [(0, 0)] }) st.bare (back st.bare s1) := ⟨S1.nx, rfl, S1.keep, S1.own⟩
  have Gt : GM (back st.bare s1).h (back st.bare s1).nx g p' q m false { G with parts := G.parts ++ [(0, 0)] } := G1
  generalize back st.bare s1 = t at S0 Gt
  have e1 : 0 + 1 < rlen t.h g := by rw [Gt.glen]; decide
  have e2 := Gt.g1
  have gl := Gt.g_lt
  have fin : ∀ (s4 s5 : St), t.nx ≤ s4.nx → s5.nx = s4.nx + 1 → s5.fr = t.fr → (∀ c, c < t.nx → ¬ (G.inputs ≠ [] ∧ c = q) → hget s5.h c = hget t.h c) → rlen s5.h s4.nx = G.inputs.length + 1 →
      (∀ i, i < G.inputs.length + 1 → rat s5.h s4.nx i = .int .u32 ((G.inputs ++ [2 * G.parts.length]).getD i 0 : Int)) →
      ∀ s6, Wrote s5 s6 g (0 + 1) (.slice s4.nx 0 (G.inputs.length + 1) (G.inputs.length + 1) 1 false) → K (.tup [.int .u32 ((2 * G.parts.length : Nat) : Int), .int .i64 0]) s6.bare := by
    intro s4 s5 a1 a2 a3 a4 a5 a6 s6 h6
    have n6 : s6.nx = s5.nx := h6.nx
    have hgq : ¬ (G.inputs ≠ [] ∧ g = q) := fun h => (Gt.qs h.1).1 h.2.symm
    have kg := a4 g gl hgq
    have hq4 : s4.nx ≠ g := by omega
    refine hK p' s4.nx s6.bare rfl ⟨by show st.nx ≤ s6.nx; have := S0.nx; have e : st.bare.nx = st.nx := rfl; omega, rfl, fun c hc ho => ?_, fun c hc => ?_⟩ ?_
    · have hcg : c ≠ g := fun h => ho (.inl h)
      have hcq : ¬ (G.inputs ≠ [] ∧ c = q) := fun h => ho (.inr (.inr (.inr h)))
      exact (h6.keep c hcg).trans ((a4 c (Nat.lt_of_lt_of_le hc S0.nx) hcq).trans (S0.keep c hc ho))
    · unfold Own at hc
      rcases hc with h | h | h | ⟨_, h⟩
      · exact .inl (.inl h)
      · exact S0.own c (.inr (.inl h))
      · exact .inl (.inr (.inr (.inl h)))
      · right; have := S0.nx; show st.nx ≤ c; have e : st.bare.nx = st.nx := rfl; omega
    · have hl : (G.inputs ++ [2 * G.parts.length]).length = G.inputs.length + 1 := by simp
      refine GM.inputs (G := { G with parts := G.parts ++ [(0, 0)] }) (is := G.inputs ++ [2 * G.parts.length]) Gt (by show t.nx ≤ s6.nx; omega) a1 (by show s4.nx < s6.nx; omega) (by simp) (fun c hc hcg hcq => (h6.keep c hcg).trans (a4 c hc hcq)) (h6.len.trans ((rlen_same kg).trans Gt.glen)) ?_ ?_ ?_ ?_ ?_
      · have := h6.cell 0
        rw [if_neg (by decide)] at this
        exact this.trans (rat_same kg 0)
      · have := h6.cell 1
        rw [if_pos (by decide)] at this
        rw [hl]; exact this
      · have := h6.cell 2
        rw [if_neg (by decide)] at this
        exact this.trans (rat_same kg 2)
      · rw [hl]; exact (a5.symm).trans (rlen_same (h6.keep _ hq4)).symm
      · intro i hi
        rw [hl] at hi
        exact (rat_same (h6.keep _ hq4) i).trans (a6 i hi)
  by_cases hin : G.inputs = []
  · have e3 : rat t.h g (0 + 1) = .nils := e2.trans (if_pos hin)
    simp (disch := first | assumption | decide | omega) only [qz3e, qz3f, qz3g, qz3h, qz3i, qz3j, e3, qz00, qz01, qz02, qz03, qz04, qz05, qz06, qz07, qz08, qz09, qz0a, qz0b, qz0c, qz0d, qz0e, qz0f, qz0g, qz0h, qz0i, qz0j, qz0k, qz0l, qz0m, qz0n, qz0o, qz0p, qz0q, qz0r, qz0s, qz0t, qz0u, qz0v, qz0w, qz0x, qz0y, qz0z, qz10, qz11, qz12, qz13, qz14, qz15, qz16, qz17, qz18, qz19, qz1a, qz1b, qz1c, qz1d, qz1e, qz1f, qz1g, qz1h, qz1i, qz1j, qz1k, qz1l, qz1m, qz1n, qz1o, qz1p, qz1q, qz1r, qz1s, qz1t, qz1u, qz1v, qz1w, qz1x, qz1y, qz1z, qz20, qz21, qz22, qz23, qz24, qz25, qz26, qz27, qz28, qz29, qz2a, qz2b, qz2c, qz2d, qz2e, qz2f, qz2g, qz2h, qz2i, qz2j, qz2k, qz2l, qz2m, qz2n, qz2o, qz2p, qz2q, qz2r, qz2s, qz2t, qz2u, qz2v, qz2w, qz2x, qz2y, qz2z, qz30, qz31, qz32, qz33, qz34, qz35, qz36, qz37, qz38, qz39, qz3a, qz3b, qz3c, qz3d, Bool.not_true, Bool.not_false, List.cons_append, List.nil_append, List.append_nil]
    refine o_buildS1 ⟨rfl, rfl, rfl⟩ fun s4 h4 => ?_
    simp (disch := first | assumption | decide | omega) only [qz3e, qz3f, qz3g, qz3h, qz3i, qz3j, qz00, qz01, qz02, qz03, qz04, qz05, qz06, qz07, qz08, qz09, qz0a, qz0b, qz0c, qz0d, qz0e, qz0f, qz0g, qz0h, qz0i, qz0j, qz0k, qz0l, qz0m, qz0n, qz0o, qz0p, qz0q, qz0r, qz0s, qz0t, qz0u, qz0v, qz0w, qz0x, qz0y, qz0z, qz10, qz11, qz12, qz13, qz14, qz15, qz16, qz17, qz18, qz19, qz1a, qz1b, qz1c, qz1d, qz1e, qz1f, qz1g, qz1h, qz1i, qz1j, qz1k, qz1l, qz1m, qz1n, qz1o, qz1p, qz1q, qz1r, qz1s, qz1t, qz1u, qz1v, qz1w, qz1x, qz1y, qz1z, qz20, qz21, qz22, qz23, qz24, qz25, qz26, qz27, qz28, qz29, qz2a, qz2b, qz2c, qz2d, qz2e, qz2f, qz2g, qz2h, qz2i, qz2j, qz2k, qz2l, qz2m, qz2n, qz2o, qz2p, qz2q, qz2r, qz2s, qz2t, qz2u, qz2v, qz2w, qz2x, qz2y, qz2z, qz30, qz31, qz32, qz33, qz34, qz35, qz36, qz37, qz38, qz39, qz3a, qz3b, qz3c, qz3d, Bool.not_true, Bool.not_false, List.cons_append, List.nil_append, List.append_nil]
    have n4 : s4.nx = t.nx + 1 := h4.nx
    refine o_appN (by decide) h4.len (h4.cell 0 (by decide)) fun s5 h5 => ?_
    have n5 : s5.nx = s4.nx + 1 := h5.nx
    simp (disch := first | assumption | decide | omega) only [qz3e, qz3f, qz3g, qz3h, qz3i, qz3j, qz00, qz01, qz02, qz03, qz04, qz05, qz06, qz07, qz08, qz09, qz0a, qz0b, qz0c, qz0d, qz0e, qz0f, qz0g, qz0h, qz0i, qz0j, qz0k, qz0l, qz0m, qz0n, qz0o, qz0p, qz0q, qz0r, qz0s, qz0t, qz0u, qz0v, qz0w, qz0x, qz0y, qz0z, qz10, qz11, qz12, qz13, qz14, qz15, qz16, qz17, qz18, qz19, qz1a, qz1b, qz1c, qz1d, qz1e, qz1f, qz1g, qz1h, qz1i, qz1j, qz1k, qz1l, qz1m, qz1n, qz1o, qz1p, qz1q, qz1r, qz1s, qz1t, qz1u, qz1v, qz1w, qz1x, qz1y, qz1z, qz20, qz21, qz22, qz23, qz24, qz25, qz26, qz27, qz28, qz29, qz2a, qz2b, qz2c, qz2d, qz2e, qz2f, qz2g, qz2h, qz2i, qz2j, qz2k, qz2l, qz2m, qz2n, qz2o, qz2p, qz2q, qz2r, qz2s, qz2t, qz2u, qz2v, qz2w, qz2x, qz2y, qz2z, qz30, qz31, qz32, qz33, qz34, qz35, qz36, qz37, qz38, qz39, qz3a, qz3b, qz3c, qz3d, Bool.not_true, Bool.not_false, List.cons_append, List.nil_append, List.append_nil]
    have kk : ∀ c, c < t.nx → hget s5.h c = hget t.h c := fun c hc => (h5.keep c (by omega)).trans (h4.keep c (by omega))
    refine o_st1 (by rw [rlen_same (kk g gl)]; exact e1) ⟨rfl, rfl, rfl⟩ fun s6 h6 => ?_
    simp (disch := first | assumption | decide | omega) only [qz3e, qz3f, qz3g, qz3h, qz3i, qz3j, qz00, qz01, qz02, qz03, qz04, qz05, qz06, qz07, qz08, qz09, qz0a, qz0b, qz0c, qz0d, qz0e, qz0f, qz0g, qz0h, qz0i, qz0j, qz0k, qz0l, qz0m, qz0n, qz0o, qz0p, qz0q, qz0r, qz0s, qz0t, qz0u, qz0v, qz0w, qz0x, qz0y, qz0z, qz10, qz11, qz12, qz13, qz14, qz15, qz16, qz17, qz18, qz19, qz1a, qz1b, qz1c, qz1d, qz1e, qz1f, qz1g, qz1h, qz1i, qz1j, qz1k, qz1l, qz1m, qz1n, qz1o, qz1p, qz1q, qz1r, qz1s, qz1t, qz1u, qz1v, qz1w, qz1x, qz1y, qz1z, qz20, qz21, qz22, qz23, qz24, qz25, qz26, qz27, qz28, qz29, qz2a, qz2b, qz2c, qz2d, qz2e, qz2f, qz2g, qz2h, qz2i, qz2j, qz2k, qz2l, qz2m, qz2n, qz2o, qz2p, qz2q, qz2r, qz2s, qz2t, qz2u, qz2v, qz2w, qz2x, qz2y, qz2z, qz30, qz31, qz32, qz33, qz34, qz35, qz36, qz37, qz38, qz39, qz3a, qz3b, qz3c, qz3d, Bool.not_true, Bool.not_false, List.cons_append, List.nil_append, List.append_nil]
    refine fin s4 s5 (by omega) n5 (h5.fr.trans h4.fr) (fun c hc _ => kk c hc) (by rw [hin]; exact h5.len) (fun i hi => ?_) s6 (by rw [hin]; exact h6)
    rw [hin] at hi ⊢
    have : i = 0 := by simp at hi; exact hi
    subst this
    exact h5.cell 0 (by decide)
  · have e3 : rat t.h g (0 + 1) = .slice q 0 G.inputs.length G.inputs.length 1 false := e2.trans (if_neg hin)
    have ql := Gt.q_lt hin
    have qlen := Gt.qlen hin
    have hpos : 0 < G.inputs.length := List.length_pos_iff.2 hin
    simp (disch := first | assumption | decide | omega) only [qz3e, qz3f, qz3g, qz3h, qz3i, qz3j, e3, qz00, qz01, qz02, qz03, qz04, qz05, qz06, qz07, qz08, qz09, qz0a, qz0b, qz0c, qz0d, qz0e, qz0f, qz0g, qz0h, qz0i, qz0j, qz0k, qz0l, qz0m, qz0n, qz0o, qz0p, qz0q, qz0r, qz0s, qz0t, qz0u, qz0v, qz0w, qz0x, qz0y, qz0z, qz10, qz11, qz12, qz13, qz14, qz15, qz16, qz17, qz18, qz19, qz1a, qz1b, qz1c, qz1d, qz1e, qz1f, qz1g, qz1h, qz1i, qz1j, qz1k, qz1l, qz1m, qz1n, qz1o, qz1p, qz1q, qz1r, qz1s, qz1t, qz1u, qz1v, qz1w, qz1x, qz1y, qz1z, qz20, qz21, qz22, qz23, qz24, qz25, qz26, qz27, qz28, qz29, qz2a, qz2b, qz2c, qz2d, qz2e, qz2f, qz2g, qz2h, qz2i, qz2j, qz2k, qz2l, qz2m, qz2n, qz2o, qz2p, qz2q, qz2r, qz2s, qz2t, qz2u, qz2v, qz2w, qz2x, qz2y, qz2z, qz30, qz31, qz32, qz33, qz34, qz35, qz36, qz37, qz38, qz39, qz3a, qz3b, qz3c, qz3d, Bool.not_true, Bool.not_false, List.cons_append, List.nil_append, List.append_nil]
    refine o_buildS1 ⟨rfl, rfl, rfl⟩ fun s4 h4 => ?_
    simp (disch := first | assumption | decide | omega) only [qz3e, qz3f, qz3g, qz3h, qz3i, qz3j, qz00, qz01, qz02, qz03, qz04, qz05, qz06, qz07, qz08, qz09, qz0a, qz0b, qz0c, qz0d, qz0e, qz0f, qz0g, qz0h, qz0i, qz0j, qz0k, qz0l, qz0m, qz0n, qz0o, qz0p, qz0q, qz0r, qz0s, qz0t, qz0u, qz0v, qz0w, qz0x, qz0y, qz0z, qz10, qz11, qz12, qz13, qz14, qz15, qz16, qz17, qz18, qz19, qz1a, qz1b, qz1c, qz1d, qz1e, qz1f, qz1g, qz1h, qz1i, qz1j, qz1k, qz1l, qz1m, qz1n, qz1o, qz1p, qz1q, qz1r, qz1s, qz1t, qz1u, qz1v, qz1w, qz1x, qz1y, qz1z, qz20, qz21, qz22, qz23, qz24, qz25, qz26, qz27, qz28, qz29, qz2a, qz2b, qz2c, qz2d, qz2e, qz2f, qz2g, qz2h, qz2i, qz2j, qz2k, qz2l, qz2m, qz2n, qz2o, qz2p, qz2q, qz2r, qz2s, qz2t, qz2u, qz2v, qz2w, qz2x, qz2y, qz2z, qz30, qz31, qz32, qz33, qz34, qz35, qz36, qz37, qz38, qz39, qz3a, qz3b, qz3c, qz3d, Bool.not_true, Bool.not_false, List.cons_append, List.nil_append, List.append_nil]
    have n4 : s4.nx = t.nx + 1 := h4.nx
    have kq : hget s4.h q = hget t.h q := h4.keep q (by omega)
    refine o_app2 (by rw [rlen_same kq]; exact qlen) hpos (by omega) (by omega) (by omega) h4.len (h4.cell 0 (by decide)) fun s5 h5 => ?_
    have n5 : s5.nx = s4.nx + 1 := h5.nx
    simp (disch := first | assumption | decide | omega) only [qz3e, qz3f, qz3g, qz3h, qz3i, qz3j, qz00, qz01, qz02, qz03, qz04, qz05, qz06, qz07, qz08, qz09, qz0a, qz0b, qz0c, qz0d, qz0e, qz0f, qz0g, qz0h, qz0i, qz0j, qz0k, qz0l, qz0m, qz0n, qz0o, qz0p, qz0q, qz0r, qz0s, qz0t, qz0u, qz0v, qz0w, qz0x, qz0y, qz0z, qz10, qz11, qz12, qz13, qz14, qz15, qz16, qz17, qz18, qz19, qz1a, qz1b, qz1c, qz1d, qz1e, qz1f, qz1g, qz1h, qz1i, qz1j, qz1k, qz1l, qz1m, qz1n, qz1o, qz1p, qz1q, qz1r, qz1s, qz1t, qz1u, qz1v, qz1w, qz1x, qz1y, qz1z, qz20, qz21, qz22, qz23, qz24, qz25, qz26, qz27, qz28, qz29, qz2a, qz2b, qz2c, qz2d, qz2e, qz2f, qz2g, qz2h, qz2i, qz2j, qz2k, qz2l, qz2m, qz2n, qz2o, qz2p, qz2q, qz2r, qz2s, qz2t, qz2u, qz2v, qz2w, qz2x, qz2y, qz2z, qz30, qz31, qz32, qz33, qz34, qz35, qz36, qz37, qz38, qz39, qz3a, qz3b, qz3c, qz3d, Bool.not_true, Bool.not_false, List.cons_append, List.nil_append, List.append_nil]
    have kk : ∀ c, c < t.nx → ¬ (G.inputs ≠ [] ∧ c = q) → hget s5.h c = hget t.h c := fun c hc hq => (h5.keep c (by omega) (fun e => hq ⟨hin, e⟩)).trans (h4.keep c (by omega))
    have hgq : ¬ (G.inputs ≠ [] ∧ g = q) := fun h => (Gt.qs h.1).1 h.2.symm
    refine o_st1 (by rw [rlen_same (kk g gl hgq)]; exact e1) ⟨rfl, rfl, rfl⟩ fun s6 h6 => ?_
    simp (disch := first | assumption | decide | omega) only [qz3e, qz3f, qz3g, qz3h, qz3i, qz3j, qz00, qz01, qz02, qz03, qz04, qz05, qz06, qz07, qz08, qz09, qz0a, qz0b, qz0c, qz0d, qz0e, qz0f, qz0g, qz0h, qz0i, qz0j, qz0k, qz0l, qz0m, qz0n, qz0o, qz0p, qz0q, qz0r, qz0s, qz0t, qz0u, qz0v, qz0w, qz0x, qz0y, qz0z, qz10, qz11, qz12, qz13, qz14, qz15, qz16, qz17, qz18, qz19, qz1a, qz1b, qz1c, qz1d, qz1e, qz1f, qz1g, qz1h, qz1i, qz1j, qz1k, qz1l, qz1m, qz1n, qz1o, qz1p, qz1q, qz1r, qz1s, qz1t, qz1u, qz1v, qz1w, qz1x, qz1y, qz1z, qz20, qz21, qz22, qz23, qz24, qz25, qz26, qz27, qz28, qz29, qz2a, qz2b, qz2c, qz2d, qz2e, qz2f, qz2g, qz2h, qz2i, qz2j, qz2k, qz2l, qz2m, qz2n, qz2o, qz2p, qz2q, qz2r, qz2s, qz2t, qz2u, qz2v, qz2w, qz2x, qz2y, qz2z, qz30, qz31, qz32, qz33, qz34, qz35, qz36, qz37, qz38, qz39, qz3a, qz3b, qz3c, qz3d, Bool.not_true, Bool.not_false, List.cons_append, List.nil_append, List.append_nil]
    refine fin s4 s5 (by omega) n5 (h5.fr.trans h4.fr) kk h5.len (fun i hi => ?_) s6 h6
    rw [h5.cell i hi]
    by_cases hil : i = G.inputs.length
    · rw [if_pos hil, hil, List.getD_eq_getElem?_getD, List.getElem?_append_right (Nat.le_refl _)]; simp
    · have hlt : i < G.inputs.length := by omega
      rw [if_neg hil, rat_same kq, List.getD_eq_getElem?_getD, List.getElem?_append_left hlt, ← List.getD_eq_getElem?_getD]
      exact Gt.qat i hlt
end Go.Sy
end

section
set_option maxRecDepth 100000
namespace Go.Sy
open Go.Ev Go.Proofs
theorem o_mkM2 {st : Ev.St} {K : AV → Ev.St → Prop} (hk : ∀ st', st'.nx = st.nx + 1 → st'.fr = st.fr → (∀ c, c ≠ st.nx → hget st'.h c = hget st.h c) → hget st'.h st.nx = some (.map []) → K (.map st.nx) st') : onER (mkMapV st) K := by
  simp only [mkMapV, St.alloc_eq, onER]
  refine hk _ rfl rfl (fun c hc => ?_) ?_
  · show hget ((setF (bitsR st.nx)).run _ st.h) c = _
    rw [hget_set, if_neg hc]
  · show hget ((setF (bitsR st.nx)).run _ st.h) st.nx = _
    rw [hget_set, if_pos rfl]
variable {base : CallF}

def Gr.new : Gr := ⟨[(0, 0)], [], []⟩
theorem Gr.new_ok : Gr.new.OK := by
  refine ⟨⟨[], rfl⟩, by decide, fun i hi h => ?_, fun a ha => by simp [Gr.new] at ha, fun x hx => by simp [Gr.new] at hx⟩
  have : i = 0 := by simp [Gr.new] at hi; exact hi
  subst this
  exact absurd rfl h
theorem NewG_ok (hb : ∀ args st, base 15 args st = .no) (st : Ev.St) (K : AV → Ev.St → Prop) (hK : ∀ g p m st', Ext st st' → st.nx ≤ g → st.nx ≤ p → st.nx ≤ m → GM st'.h st'.nx g p 0 m true Gr.new → K (.ptr g 0) st') : CW Try.prog base 15 [] st K := by
  refine fn_rule l15 (hb _ _) ?_
  simp only [c15, entry, List.map_cons, List.map_nil, List.getD_cons_zero, List.getD_cons_succ]
  unfold b15
  simp (disch := first | assumption | decide | omega) only [qz00, qz01, qz02, qz03, qz04, qz05, qz06, qz07, qz08, qz09, qz0a, qz0b, qz0c, qz0d, qz0e, qz0f, qz0g, qz0h, qz0i, qz0j, qz0k, qz0l, qz0m, qz0n, qz0o, qz0p, qz0q, qz0r, qz0s, qz0t, qz0u, qz0v, qz0w, qz0x, qz0y, qz0z, qz10, qz11, qz12, qz13, qz14, qz15, qz16, qz17, qz18, qz19, qz1a, qz1b, qz1c, qz1d, qz1e, qz1f, qz1g, qz1h, qz1i, qz1j, qz1k, qz1l, qz1m, qz1n, qz1o, qz1p, qz1q, qz1r, qz1s, qz1t, qz1u, qz1v, qz1w, qz1x, qz1y, qz1z, qz20, qz21, qz22, qz23, qz24, qz25, qz26, qz27, qz28, qz29, qz2a, qz2b, qz2c, qz2d, qz2e, qz2f, qz2g, qz2h, qz2i, qz2j, qz2k, qz2l, qz2m, qz2n, qz2o, qz2p, qz2q, qz2r, qz2s, qz2t, qz2u, qz2v, qz2w, qz2x, qz2y, qz2z, qz30, qz31, qz32, qz33, qz34, qz35, qz36, qz37, qz38, qz39, qz3a, qz3b, qz3c, qz3d, Bool.not_true, Bool.not_false, List.cons_append, List.nil_append, List.append_nil]
  refine o_mkS (l := 1) (c := 1) (by decide) (by decide) (by decide) fun s1 h1 => ?_
  simp (disch := first | assumption | decide | omega) only [qz00, qz01, qz02, qz03, qz04, qz05, qz06, qz07, qz08, qz09, qz0a, qz0b, qz0c, qz0d, qz0e, qz0f, qz0g, qz0h, qz0i, qz0j, qz0k, qz0l, qz0m, qz0n, qz0o, qz0p, qz0q, qz0r, qz0s, qz0t, qz0u, qz0v, qz0w, qz0x, qz0y, qz0z, qz10, qz11, qz12, qz13, qz14, qz15, qz16, qz17, qz18, qz19, qz1a, qz1b, qz1c, qz1d, qz1e, qz1f, qz1g, qz1h, qz1i, qz1j, qz1k, qz1l, qz1m, qz1n, qz1o, qz1p, qz1q, qz1r, qz1s, qz1t, qz1u, qz1v, qz1w, qz1x, qz1y, qz1z, qz20, qz21, qz22, qz23, qz24, qz25, qz26, qz27, qz28, qz29, qz2a, qz2b, qz2c, qz2d, qz2e, qz2f, qz2g, qz2h, qz2i, qz2j, qz2k, qz2l, qz2m, qz2n, qz2o, qz2p, qz2q, qz2r, qz2s, qz2t, qz2u, qz2v, qz2w, qz2x, qz2y, qz2z, qz30, qz31, qz32, qz33, qz34, qz35, qz36, qz37, qz38, qz39, qz3a, qz3b, qz3c, qz3d, Bool.not_true, Bool.not_false, List.cons_append, List.nil_append, List.append_nil]
  refine o_mkM2 fun s2 n2 f2 k2 m2 => ?_
  have eb : ∀ (s : Ev.St) (K : AV → Ev.St → Prop), onER (buildV [.nils, .nils, .nilm] [((0, 1), .slice st.bare.nx 0 1 1 2 true), ((2, 1), .map s1.nx)] s) K = K (.agg [.slice st.bare.nx 0 1 1 2 true, .nils, .map s1.nx]) s := fun s K => v_build02 _ _ _ _ _ rfl rfl rfl rfl
  simp (disch := first | assumption | decide | omega) only [eb, qz00, qz01, qz02, qz03, qz04, qz05, qz06, qz07, qz08, qz09, qz0a, qz0b, qz0c, qz0d, qz0e, qz0f, qz0g, qz0h, qz0i, qz0j, qz0k, qz0l, qz0m, qz0n, qz0o, qz0p, qz0q, qz0r, qz0s, qz0t, qz0u, qz0v, qz0w, qz0x, qz0y, qz0z, qz10, qz11, qz12, qz13, qz14, qz15, qz16, qz17, qz18, qz19, qz1a, qz1b, qz1c, qz1d, qz1e, qz1f, qz1g, qz1h, qz1i, qz1j, qz1k, qz1l, qz1m, qz1n, qz1o, qz1p, qz1q, qz1r, qz1s, qz1t, qz1u, qz1v, qz1w, qz1x, qz1y, qz1z, qz20, qz21, qz22, qz23, qz24, qz25, qz26, qz27, qz28, qz29, qz2a, qz2b, qz2c, qz2d, qz2e, qz2f, qz2g, qz2h, qz2i, qz2j, qz2k, qz2l, qz2m, qz2n, qz2o, qz2p, qz2q, qz2r, qz2s, qz2t, qz2u, qz2v, qz2w, qz2x, qz2y, qz2z, qz30, qz31, qz32, qz33, qz34, qz35, qz36, qz37, qz38, qz39, qz3a, qz3b, qz3c, qz3d, Bool.not_true, Bool.not_false, List.cons_append, List.nil_append, List.append_nil]
  refine o_box rfl fun s3 h3 => ?_
  simp (disch := first | assumption | decide | omega) only [qz00, qz01, qz02, qz03, qz04, qz05, qz06, qz07, qz08, qz09, qz0a, qz0b, qz0c, qz0d, qz0e, qz0f, qz0g, qz0h, qz0i, qz0j, qz0k, qz0l, qz0m, qz0n, qz0o, qz0p, qz0q, qz0r, qz0s, qz0t, qz0u, qz0v, qz0w, qz0x, qz0y, qz0z, qz10, qz11, qz12, qz13, qz14, qz15, qz16, qz17, qz18, qz19, qz1a, qz1b, qz1c, qz1d, qz1e, qz1f, qz1g, qz1h, qz1i, qz1j, qz1k, qz1l, qz1m, qz1n, qz1o, qz1p, qz1q, qz1r, qz1s, qz1t, qz1u, qz1v, qz1w, qz1x, qz1y, qz1z, qz20, qz21, qz22, qz23, qz24, qz25, qz26, qz27, qz28, qz29, qz2a, qz2b, qz2c, qz2d, qz2e, qz2f, qz2g, qz2h, qz2i, qz2j, qz2k, qz2l, qz2m, qz2n, qz2o, qz2p, qz2q, qz2r, qz2s, qz2t, qz2u, qz2v, qz2w, qz2x, qz2y, qz2z, qz30, qz31, qz32, qz33, qz34, qz35, qz36, qz37, qz38, qz39, qz3a, qz3b, qz3c, qz3d, Bool.not_true, Bool.not_false, List.cons_append, List.nil_append, List.append_nil]
  have m1 : s1.nx = st.nx + 1 := h1.nx
  have m3 : s3.nx = s2.nx + 1 := h3.nx
  have l3 : rlen s3.h s2.nx = 3 := h3.len
  have kp : hget s3.h st.nx = hget s1.h st.nx := (h3.keep st.nx (by omega)).trans (k2 st.nx (by omega))
  refine hK s2.nx st.nx s1.nx s3.bare ⟨by show st.nx ≤ s3.nx; omega, rfl, fun c hc => ?_⟩ (by omega) (Nat.le_refl _) (by omega)
    ⟨by show _ < s3.nx; omega, by show _ < s3.nx; omega, by show _ < s3.nx; omega, fun h => absurd rfl h, by omega, by omega, by omega, fun h => absurd rfl h, l3, h3.cell 0 (by show 0 < 3; decide), h3.cell 1 (by show 1 < 3; decide), h3.cell 2 (by show 2 < 3; decide), ?_, by decide, fun i hi => ?_, fun h => absurd rfl h, fun i hi => by simp [Gr.new] at hi, ?_⟩
  · have a3 := h3.keep c (by omega)
    have a2 := k2 c (by omega)
    have a1 := h1.keep c (by show c ≠ st.nx; omega)
    exact a3.trans (a2.trans a1)
  · exact ((rlen_same kp).trans h1.len).symm
  · have : i = 0 := by simp [Gr.new] at hi; exact hi
    subst this
    exact ⟨(rat_same kp 0).trans (h1.cell 0 (by decide)), (rat_same kp 1).trans (h1.cell 1 (by decide))⟩
  · exact (h3.keep s1.nx (by omega)).trans m2
end Go.Sy
end

section
set_option maxRecDepth 100000
namespace Go.Sy
open Go.Ev Go.Proofs
variable {base : CallF}

/-- so many new inputs -/
def Gr.moreN (G : Gr) : Nat → Gr
  | 0 => G
  | k + 1 => (G.moreN k).more
theorem moreN_parts (G : Gr) : ∀ k, (G.moreN k).parts.length = G.parts.length + k
  | 0 => rfl
  | k + 1 => by
    show ((G.moreN k).parts ++ [(0, 0)]).length = _
    rw [List.length_append, moreN_parts G k]; rfl
theorem moreN_inputs (G : Gr) : ∀ k, (G.moreN k).inputs.length = G.inputs.length + k
  | 0 => rfl
  | k + 1 => by
    show ((G.moreN k).inputs ++ [2 * (G.moreN k).parts.length]).length = _
    rw [List.length_append, moreN_inputs G k]; rfl
theorem moreN_ok {G : Gr} (h : G.OK) : ∀ k, G.parts.length + k ≤ 1048576 → (G.moreN k).OK
  | 0, _ => h
  | k + 1, hk => OK_input (moreN_ok h k (by omega)) (by rw [moreN_parts]; omega)
theorem moreN_le (G : Gr) : ∀ k, G.Le (G.moreN k)
  | 0 => Gr.Le.refl G
  | k + 1 => (moreN_le G k).trans ⟨[(0, 0)], rfl⟩

theorem vecInput_ok (hb : ∀ f args st, f ∈ [20, 29, 44] → base f args st = .no) {g p q m w : Nat} {ex : Bool} {G : Gr} (st : Ev.St) (hG : GM st.h st.nx g p q m ex G) (hw1 : 1 ≤ w) (hw2 : w ≤ 32) (hN : G.parts.length + w ≤ 1048576) (hI : G.inputs.length + w ≤ 1048576) (K : AV → Ev.St → Prop)
    (hK : ∀ bo p' q' ex' st', st'.fr = [] → Step (Own g p q m G) (Own g p' q' m (G.moreN w)) st.bare st' → GM st'.h st'.nx g p' q' m ex' (G.moreN w) → st.nx ≤ bo → Ed st' (Own g p' q' m (G.moreN w)) bo 0 w (fun i => 2 * (G.parts.length + i)) → K (.tup [.slice bo 0 w w 1 true, .int .i64 0]) st') :
    CW Try.prog base 20 [.ptr g 0, .int .i64 (w : Int)] st K := by
  refine fn_rule l20 (hb _ _ _ (by simp)) ?_
  simp only [c20, entry, List.map_cons, List.map_nil, List.getD_cons_zero, List.getD_cons_succ]
  unfold b20
  have d1 : (1 : Int) ≤ (w : Int) := by omega
  have d2 : (w : Int) ≤ 32 := by omega
  simp (disch := first | assumption | decide | omega) only [qz3e, qz3f, qz3g, qz3h, qz3i, qz3j, qz00, qz01, qz02, qz03, qz04, qz05, qz06, qz07, qz08, qz09, qz0a, qz0b, qz0c, qz0d, qz0e, qz0f, qz0g, qz0h, qz0i, qz0j, qz0k, qz0l, qz0m, qz0n, qz0o, qz0p, qz0q, qz0r, qz0s, qz0t, qz0u, qz0v, qz0w, qz0x, qz0y, qz0z, qz10, qz11, qz12, qz13, qz14, qz15, qz16, qz17, qz18, qz19, qz1a, qz1b, qz1c, qz1d, qz1e, qz1f, qz1g, qz1h, qz1i, qz1j, qz1k, qz1l, qz1m, qz1n, qz1o, qz1p, qz1q, qz1r, qz1s, qz1t, qz1u, qz1v, qz1w, qz1x, qz1y, qz1z, qz20, qz21, qz22, qz23, qz24, qz25, qz26, qz27, qz28, qz29, qz2a, qz2b, qz2c, qz2d, qz2e, qz2f, qz2g, qz2h, qz2i, qz2j, qz2k, qz2l, qz2m, qz2n, qz2o, qz2p, qz2q, qz2r, qz2s, qz2t, qz2u, qz2v, qz2w, qz2x, qz2y, qz2z, qz30, qz31, qz32, qz33, qz34, qz35, qz36, qz37, qz38, qz39, qz3a, qz3b, qz3c, qz3d, Bool.not_true, Bool.not_false, List.cons_append, List.nil_append, List.append_nil]
  refine o_mkS (l := w) (c := w) (by omega) (by omega) (by omega) fun s1 h1 => ?_
  have n1 : s1.nx = st.nx + 1 := h1.nx
  have k1 : Kept st.bare s1 := (Kept.refl _).made h1
  have l1 : rlen s1.h st.nx = w := h1.len.trans (Nat.mul_one w)
  simp (disch := first | assumption | decide | omega) only [qz3e, qz3f, qz3g, qz3h, qz3i, qz3j, qz00, qz01, qz02, qz03, qz04, qz05, qz06, qz07, qz08, qz09, qz0a, qz0b, qz0c, qz0d, qz0e, qz0f, qz0g, qz0h, qz0i, qz0j, qz0k, qz0l, qz0m, qz0n, qz0o, qz0p, qz0q, qz0r, qz0s, qz0t, qz0u, qz0v, qz0w, qz0x, qz0y, qz0z, qz10, qz11, qz12, qz13, qz14, qz15, qz16, qz17, qz18, qz19, qz1a, qz1b, qz1c, qz1d, qz1e, qz1f, qz1g, qz1h, qz1i, qz1j, qz1k, qz1l, qz1m, qz1n, qz1o, qz1p, qz1q, qz1r, qz1s, qz1t, qz1u, qz1v, qz1w, qz1x, qz1y, qz1z, qz20, qz21, qz22, qz23, qz24, qz25, qz26, qz27, qz28, qz29, qz2a, qz2b, qz2c, qz2d, qz2e, qz2f, qz2g, qz2h, qz2i, qz2j, qz2k, qz2l, qz2m, qz2n, qz2o, qz2p, qz2q, qz2r, qz2s, qz2t, qz2u, qz2v, qz2w, qz2x, qz2y, qz2z, qz30, qz31, qz32, qz33, qz34, qz35, qz36, qz37, qz38, qz39, qz3a, qz3b, qz3c, qz3d, Bool.not_true, Bool.not_false, List.cons_append, List.nil_append, List.append_nil]
  refine wC_loopH (fun mm L s => ∃ (k p' q' : Nat) (ex' : Bool), k ≤ w ∧ mm = w - k ∧ Step (Own g p q m G) (Own g p' q' m (G.moreN k)) st.bare s ∧ s.fr = [] ∧ GM s.h s.nx g p' q' m ex' (G.moreN k) ∧ ¬ Own g p' q' m (G.moreN k) st.nx ∧ st.nx < s.nx ∧ rlen s.h st.nx = w ∧ (∀ j, j < k → rat s.h st.nx j = .int .u32 ((2 * (G.parts.length + j) : Nat) : Int)) ∧
      Has L 0 (.ptr g 0) ∧ Has L 6 (.slice st.bare.nx 0 w w 1 true) ∧ Has L 19 (.int .i64 (w : Int)) ∧ Has L 20 (.int .i64 (k : Int))) ?_ w ?_
  · rintro mm L s ⟨k, p', q', ex', hk, rfl, S, hfr, M, hno, hlt, hl, hv, i0, i6, i19, i20⟩
    unfold Hold
    by_cases hkw : k < w
    · have hp := moreN_parts G k
      have hi := moreN_inputs G k
      simp (disch := first | assumption | decide | omega) only [qz3e, qz3f, qz3g, qz3h, qz3i, qz3j, r_onh i0, r_onh i6, r_onh i19, r_onh i20, qz00, qz01, qz02, qz03, qz04, qz05, qz06, qz07, qz08, qz09, qz0a, qz0b, qz0c, qz0d, qz0e, qz0f, qz0g, qz0h, qz0i, qz0j, qz0k, qz0l, qz0m, qz0n, qz0o, qz0p, qz0q, qz0r, qz0s, qz0t, qz0u, qz0v, qz0w, qz0x, qz0y, qz0z, qz10, qz11, qz12, qz13, qz14, qz15, qz16, qz17, qz18, qz19, qz1a, qz1b, qz1c, qz1d, qz1e, qz1f, qz1g, qz1h, qz1i, qz1j, qz1k, qz1l, qz1m, qz1n, qz1o, qz1p, qz1q, qz1r, qz1s, qz1t, qz1u, qz1v, qz1w, qz1x, qz1y, qz1z, qz20, qz21, qz22, qz23, qz24, qz25, qz26, qz27, qz28, qz29, qz2a, qz2b, qz2c, qz2d, qz2e, qz2f, qz2g, qz2h, qz2i, qz2j, qz2k, qz2l, qz2m, qz2n, qz2o, qz2p, qz2q, qz2r, qz2s, qz2t, qz2u, qz2v, qz2w, qz2x, qz2y, qz2z, qz30, qz31, qz32, qz33, qz34, qz35, qz36, qz37, qz38, qz39, qz3a, qz3b, qz3c, qz3d, Bool.not_true, Bool.not_false, List.cons_append, List.nil_append, List.append_nil]
      refine Input_ok (fun f a s hf => hb _ a s (by rcases hf with rfl | rfl <;> simp)) s M (by omega) (by omega) _ fun p2 q2 s2 f2 S2 M2 => ?_
      have hno2 : ¬ Own g p2 q2 m (G.moreN (k + 1)) st.nx := fun h => (S2.own _ h).elim hno fun h' => by have : s.nx ≤ st.nx := h'; omega
      have hkeep : hget (back s s2).h st.nx = hget s.h st.nx := S2.keep st.nx hlt hno
      have hlt2 : st.nx < (back s s2).nx := Nat.lt_of_lt_of_le hlt S2.nx
      have S2' : Step (Own g p q m G) (Own g p2 q2 m (G.moreN (k + 1))) st.bare (back s s2) := S.trans ⟨S2.nx, rfl, S2.keep, S2.own⟩
      have M2' : GM (back s s2).h (back s s2).nx g p2 q2 m false (G.moreN (k + 1)) := M2
      have hfr2 : (back s s2).fr = [] := hfr
      generalize back s s2 = t at hkeep hlt2 S2' M2' hfr2
      simp (disch := first | assumption | decide | omega) only [qz3e, qz3f, qz3g, qz3h, qz3i, qz3j, r_onh i6, r_onh i20, qz00, qz01, qz02, qz03, qz04, qz05, qz06, qz07, qz08, qz09, qz0a, qz0b, qz0c, qz0d, qz0e, qz0f, qz0g, qz0h, qz0i, qz0j, qz0k, qz0l, qz0m, qz0n, qz0o, qz0p, qz0q, qz0r, qz0s, qz0t, qz0u, qz0v, qz0w, qz0x, qz0y, qz0z, qz10, qz11, qz12, qz13, qz14, qz15, qz16, qz17, qz18, qz19, qz1a, qz1b, qz1c, qz1d, qz1e, qz1f, qz1g, qz1h, qz1i, qz1j, qz1k, qz1l, qz1m, qz1n, qz1o, qz1p, qz1q, qz1r, qz1s, qz1t, qz1u, qz1v, qz1w, qz1x, qz1y, qz1z, qz20, qz21, qz22, qz23, qz24, qz25, qz26, qz27, qz28, qz29, qz2a, qz2b, qz2c, qz2d, qz2e, qz2f, qz2g, qz2h, qz2i, qz2j, qz2k, qz2l, qz2m, qz2n, qz2o, qz2p, qz2q, qz2r, qz2s, qz2t, qz2u, qz2v, qz2w, qz2x, qz2y, qz2z, qz30, qz31, qz32, qz33, qz34, qz35, qz36, qz37, qz38, qz39, qz3a, qz3b, qz3c, qz3d, Bool.not_true, Bool.not_false, List.cons_append, List.nil_append, List.append_nil]
      refine o_st1 (by show 0 + k * 1 < rlen t.h st.nx; rw [rlen_same hkeep]; omega) ⟨rfl, rfl, rfl⟩ fun s3 h3 => ?_
      have n3 : s3.nx = t.nx := h3.nx
      simp (disch := first | assumption | decide | omega) only [qz3e, qz3f, qz3g, qz3h, qz3i, qz3j, r_onh i20, v_addN, qz00, qz01, qz02, qz03, qz04, qz05, qz06, qz07, qz08, qz09, qz0a, qz0b, qz0c, qz0d, qz0e, qz0f, qz0g, qz0h, qz0i, qz0j, qz0k, qz0l, qz0m, qz0n, qz0o, qz0p, qz0q, qz0r, qz0s, qz0t, qz0u, qz0v, qz0w, qz0x, qz0y, qz0z, qz10, qz11, qz12, qz13, qz14, qz15, qz16, qz17, qz18, qz19, qz1a, qz1b, qz1c, qz1d, qz1e, qz1f, qz1g, qz1h, qz1i, qz1j, qz1k, qz1l, qz1m, qz1n, qz1o, qz1p, qz1q, qz1r, qz1s, qz1t, qz1u, qz1v, qz1w, qz1x, qz1y, qz1z, qz20, qz21, qz22, qz23, qz24, qz25, qz26, qz27, qz28, qz29, qz2a, qz2b, qz2c, qz2d, qz2e, qz2f, qz2g, qz2h, qz2i, qz2j, qz2k, qz2l, qz2m, qz2n, qz2o, qz2p, qz2q, qz2r, qz2s, qz2t, qz2u, qz2v, qz2w, qz2x, qz2y, qz2z, qz30, qz31, qz32, qz33, qz34, qz35, qz36, qz37, qz38, qz39, qz3a, qz3b, qz3c, qz3d, Bool.not_true, Bool.not_false, List.cons_append, List.nil_append, List.append_nil]
      have M3 : GM s3.h s3.nx g p2 q2 m false (G.moreN (k + 1)) := by
        have := M2'.own (h' := s3.h) fun c hc => h3.keep c (fun e => hno2 (e ▸ hc))
        rw [n3]; exact this
      refine ⟨w - (k + 1), by omega, k + 1, p2, q2, false, by omega, rfl, ⟨by rw [n3]; exact S2'.nx, h3.fr.trans S2'.fr, fun c hc ho => (h3.keep c (by have : c < st.nx := hc; show c ≠ st.nx; omega)).trans (S2'.keep c hc ho), S2'.own⟩, h3.fr.trans hfr2, M3, hno2, by omega, h3.len.trans ((rlen_same hkeep).trans hl), fun j hj => ?_, ?_⟩
      · have e5 := h3.cell j
        by_cases hjk : j = k
        · rw [if_pos (by omega)] at e5
          rw [hjk]; rw [hjk, hp] at e5; exact e5
        · rw [if_neg (by omega)] at e5
          exact e5.trans ((rat_same hkeep j).trans (hv j (by omega)))
      · simp (disch := decide) only [z0, z1, h_here, h_skip, i0, i6, i19, true_and, and_true]
    · have hkw' : k = w := by omega
      subst hkw'
      simp (disch := first | assumption | decide | omega) only [qz3e, qz3f, qz3g, qz3h, qz3i, qz3j, r_onh i0, r_onh i6, r_onh i19, r_onh i20, qz00, qz01, qz02, qz03, qz04, qz05, qz06, qz07, qz08, qz09, qz0a, qz0b, qz0c, qz0d, qz0e, qz0f, qz0g, qz0h, qz0i, qz0j, qz0k, qz0l, qz0m, qz0n, qz0o, qz0p, qz0q, qz0r, qz0s, qz0t, qz0u, qz0v, qz0w, qz0x, qz0y, qz0z, qz10, qz11, qz12, qz13, qz14, qz15, qz16, qz17, qz18, qz19, qz1a, qz1b, qz1c, qz1d, qz1e, qz1f, qz1g, qz1h, qz1i, qz1j, qz1k, qz1l, qz1m, qz1n, qz1o, qz1p, qz1q, qz1r, qz1s, qz1t, qz1u, qz1v, qz1w, qz1x, qz1y, qz1z, qz20, qz21, qz22, qz23, qz24, qz25, qz26, qz27, qz28, qz29, qz2a, qz2b, qz2c, qz2d, qz2e, qz2f, qz2g, qz2h, qz2i, qz2j, qz2k, qz2l, qz2m, qz2n, qz2o, qz2p, qz2q, qz2r, qz2s, qz2t, qz2u, qz2v, qz2w, qz2x, qz2y, qz2z, qz30, qz31, qz32, qz33, qz34, qz35, qz36, qz37, qz38, qz39, qz3a, qz3b, qz3c, qz3d, Bool.not_true, Bool.not_false, List.cons_append, List.nil_append, List.append_nil]
      exact hK st.nx p' q' ex' s.bare rfl ⟨S.nx, rfl, S.keep, S.own⟩ M (Nat.le_refl _) ⟨hlt, hno, by show 0 + k ≤ rlen s.h st.nx; omega, fun i hi => by rw [Nat.zero_add]; exact hv i hi⟩
  · refine ⟨0, p, q, ex, by omega, rfl, ⟨k1.nx, k1.fr, fun c hc _ => k1.keep c hc, fun c hc => .inl hc⟩, k1.fr, hG.keep k1.keep k1.nx, fun h => by have := own_lt hG h; omega, by omega, l1, fun j hj => absurd hj (Nat.not_lt_zero _), ?_⟩
    simp (disch := decide) only [z0, z1, h_here, h_skip, true_and, and_true]
end Go.Sy
end

section
set_option maxRecDepth 100000
namespace Go.Sy
open Go.Ev Go.Proofs
variable {base : CallF}

/-- edges in a slice -/
def Row (st : Ev.St) (b o n : Nat) (a : Nat → Nat) : Prop := b < st.nx ∧ o + n ≤ rlen st.h b ∧ ∀ i, i < n → rat st.h b (o + i) = .int .u32 (a i : Int)
theorem Row.keep {s s' : Ev.St} {b o n : Nat} {a : Nat → Nat} (k : Row s b o n a) (hk : ∀ c, c < s.nx → hget s'.h c = hget s.h c) (hn : s.nx ≤ s'.nx) : Row s' b o n a :=
  ⟨Nat.lt_of_lt_of_le k.1 hn, by rw [rlen_same (hk b k.1)]; exact k.2.1, fun i hi => by rw [rat_same (hk b k.1)]; exact k.2.2 i hi⟩
theorem Ed.row {st : Ev.St} {own : Nat → Prop} {b o n : Nat} {a : Nat → Nat} (h : Ed st own b o n a) : Row st b o n a := ⟨h.lt, h.len, h.cell⟩
theorem Row.ed {st : Ev.St} {own : Nat → Prop} {b o n : Nat} {a : Nat → Nat} (h : Row st b o n a) (ho : ¬ own b) : Ed st own b o n a := ⟨h.1, ho, h.2.1, h.2.2⟩

theorem Len_ok (hb : ∀ args st, base 28 args st = .no) {g p q m : Nat} {ex : Bool} {G : Gr} (st : Ev.St) (hG : GM st.h st.nx g p q m ex G) (K : AV → Ev.St → Prop) (hK : K (.int .i64 (G.parts.length : Int)) st.bare) : CW Try.prog base 28 [.ptr g 0] st K := by
  refine fn_rule l28 (hb _ _) ?_
  simp only [c28, entry, List.map_cons, List.map_nil, List.getD_cons_zero, List.getD_cons_succ]
  unfold b28
  have e1 : 0 < rlen st.bare.h g := by show 0 < rlen st.h g; rw [hG.glen]; decide
  have e2 : rat st.bare.h g 0 = .slice p 0 G.parts.length G.parts.length 2 ex := hG.g0
  simp (disch := first | assumption | decide | omega) only [qz3e, qz3f, qz3g, qz3h, qz3i, qz3j, e2, Nat.add_zero, qz00, qz01, qz02, qz03, qz04, qz05, qz06, qz07, qz08, qz09, qz0a, qz0b, qz0c, qz0d, qz0e, qz0f, qz0g, qz0h, qz0i, qz0j, qz0k, qz0l, qz0m, qz0n, qz0o, qz0p, qz0q, qz0r, qz0s, qz0t, qz0u, qz0v, qz0w, qz0x, qz0y, qz0z, qz10, qz11, qz12, qz13, qz14, qz15, qz16, qz17, qz18, qz19, qz1a, qz1b, qz1c, qz1d, qz1e, qz1f, qz1g, qz1h, qz1i, qz1j, qz1k, qz1l, qz1m, qz1n, qz1o, qz1p, qz1q, qz1r, qz1s, qz1t, qz1u, qz1v, qz1w, qz1x, qz1y, qz1z, qz20, qz21, qz22, qz23, qz24, qz25, qz26, qz27, qz28, qz29, qz2a, qz2b, qz2c, qz2d, qz2e, qz2f, qz2g, qz2h, qz2i, qz2j, qz2k, qz2l, qz2m, qz2n, qz2o, qz2p, qz2q, qz2r, qz2s, qz2t, qz2u, qz2v, qz2w, qz2x, qz2y, qz2z, qz30, qz31, qz32, qz33, qz34, qz35, qz36, qz37, qz38, qz39, qz3a, qz3b, qz3c, qz3d, Bool.not_true, Bool.not_false, List.cons_append, List.nil_append, List.append_nil]
  exact hK

theorem WidenG_ok (hb : ∀ f args st, f ∈ [18, 33, 34, 49, 50, 62] → base f args st = .no) {b o n c : Nat} {x : Bool} {a : Nat → Nat} (hn : 1 ≤ n) (hn2 : n ≤ 32) (width : Int) (st : Ev.St) (ha : Row st b o n a) (hx : ∀ i, n ≤ i → a i = a (n - 1)) (K : AV → Ev.St → Prop)
    (hK0 : width < n ∨ 32 < width → ∀ st', Ext st st' → K (.tup [.nils, .int .i64 111]) st')
    (hK : ∀ w : Nat, width = w → n ≤ w → w ≤ 32 → ∀ bo st', Ext st st' → st.nx ≤ bo → Row st' bo 0 w a → K (.tup [.slice bo 0 w w 1 false, .int .i64 0]) st') : CW Try.prog base 18 [.slice b o n c 1 x, .int .i64 width] st K := by
  refine fn_rule l18 (hb _ _ _ (by simp)) ?_
  simp only [c18, entry, List.map_cons, List.map_nil, List.getD_cons_zero, List.getD_cons_succ]
  unfold b18
  simp (disch := first | assumption | decide | omega) only [qz00, qz01, qz02, qz03, qz04, qz05, qz06, qz07, qz08, qz09, qz0a, qz0b, qz0c, qz0d, qz0e, qz0f, qz0g, qz0h, qz0i, qz0j, qz0k, qz0l, qz0m, qz0n, qz0o, qz0p, qz0q, qz0r, qz0s, qz0t, qz0u, qz0v, qz0w, qz0x, qz0y, qz0z, qz10, qz11, qz12, qz13, qz14, qz15, qz16, qz17, qz18, qz19, qz1a, qz1b, qz1c, qz1d, qz1e, qz1f, qz1g, qz1h, qz1i, qz1j, qz1k, qz1l, qz1m, qz1n, qz1o, qz1p, qz1q, qz1r, qz1s, qz1t, qz1u, qz1v, qz1w, qz1x, qz1y, qz1z, qz20, qz21, qz22, qz23, qz24, qz25, qz26, qz27, qz28, qz29, qz2a, qz2b, qz2c, qz2d, qz2e, qz2f, qz2g, qz2h, qz2i, qz2j, qz2k, qz2l, qz2m, qz2n, qz2o, qz2p, qz2q, qz2r, qz2s, qz2t, qz2u, qz2v, qz2w, qz2x, qz2y, qz2z, qz30, qz31, qz32, qz33, qz34, qz35, qz36, qz37, qz38, qz39, qz3a, qz3b, qz3c, qz3d, Bool.not_true, Bool.not_false, List.cons_append, List.nil_append, List.append_nil]
  refine o_buildS1 ⟨rfl, rfl, rfl⟩ fun s1 h1 => ?_
  have k1 : Kept st.bare s1 := (Kept.refl _).made h1
  have n1 : s1.nx = st.nx + 1 := h1.nx
  simp (disch := first | assumption | decide | omega) only [qz00, qz01, qz02, qz03, qz04, qz05, qz06, qz07, qz08, qz09, qz0a, qz0b, qz0c, qz0d, qz0e, qz0f, qz0g, qz0h, qz0i, qz0j, qz0k, qz0l, qz0m, qz0n, qz0o, qz0p, qz0q, qz0r, qz0s, qz0t, qz0u, qz0v, qz0w, qz0x, qz0y, qz0z, qz10, qz11, qz12, qz13, qz14, qz15, qz16, qz17, qz18, qz19, qz1a, qz1b, qz1c, qz1d, qz1e, qz1f, qz1g, qz1h, qz1i, qz1j, qz1k, qz1l, qz1m, qz1n, qz1o, qz1p, qz1q, qz1r, qz1s, qz1t, qz1u, qz1v, qz1w, qz1x, qz1y, qz1z, qz20, qz21, qz22, qz23, qz24, qz25, qz26, qz27, qz28, qz29, qz2a, qz2b, qz2c, qz2d, qz2e, qz2f, qz2g, qz2h, qz2i, qz2j, qz2k, qz2l, qz2m, qz2n, qz2o, qz2p, qz2q, qz2r, qz2s, qz2t, qz2u, qz2v, qz2w, qz2x, qz2y, qz2z, qz30, qz31, qz32, qz33, qz34, qz35, qz36, qz37, qz38, qz39, qz3a, qz3b, qz3c, qz3d, Bool.not_true, Bool.not_false, List.cons_append, List.nil_append, List.append_nil]
  refine right_ok (fun f a s hf => hb _ a s (by simp at hf ⊢; rcases hf with h | h | h | h <;> simp [h])) hn hn2 s1 h1.len (h1.cell 0 (by decide)) _ ?_
  by_cases hw1 : width < n
  · simp (disch := first | assumption | decide | omega) only [qz00, qz01, qz02, qz03, qz04, qz05, qz06, qz07, qz08, qz09, qz0a, qz0b, qz0c, qz0d, qz0e, qz0f, qz0g, qz0h, qz0i, qz0j, qz0k, qz0l, qz0m, qz0n, qz0o, qz0p, qz0q, qz0r, qz0s, qz0t, qz0u, qz0v, qz0w, qz0x, qz0y, qz0z, qz10, qz11, qz12, qz13, qz14, qz15, qz16, qz17, qz18, qz19, qz1a, qz1b, qz1c, qz1d, qz1e, qz1f, qz1g, qz1h, qz1i, qz1j, qz1k, qz1l, qz1m, qz1n, qz1o, qz1p, qz1q, qz1r, qz1s, qz1t, qz1u, qz1v, qz1w, qz1x, qz1y, qz1z, qz20, qz21, qz22, qz23, qz24, qz25, qz26, qz27, qz28, qz29, qz2a, qz2b, qz2c, qz2d, qz2e, qz2f, qz2g, qz2h, qz2i, qz2j, qz2k, qz2l, qz2m, qz2n, qz2o, qz2p, qz2q, qz2r, qz2s, qz2t, qz2u, qz2v, qz2w, qz2x, qz2y, qz2z, qz30, qz31, qz32, qz33, qz34, qz35, qz36, qz37, qz38, qz39, qz3a, qz3b, qz3c, qz3d, Bool.not_true, Bool.not_false, List.cons_append, List.nil_append, List.append_nil]
    exact hK0 (.inl hw1) s1.bare ⟨k1.nx, rfl, k1.keep⟩
  · have hw1' : (n : Int) ≤ width := by omega
    by_cases hw2 : 32 < width
    · simp (disch := first | assumption | decide | omega) only [qz00, qz01, qz02, qz03, qz04, qz05, qz06, qz07, qz08, qz09, qz0a, qz0b, qz0c, qz0d, qz0e, qz0f, qz0g, qz0h, qz0i, qz0j, qz0k, qz0l, qz0m, qz0n, qz0o, qz0p, qz0q, qz0r, qz0s, qz0t, qz0u, qz0v, qz0w, qz0x, qz0y, qz0z, qz10, qz11, qz12, qz13, qz14, qz15, qz16, qz17, qz18, qz19, qz1a, qz1b, qz1c, qz1d, qz1e, qz1f, qz1g, qz1h, qz1i, qz1j, qz1k, qz1l, qz1m, qz1n, qz1o, qz1p, qz1q, qz1r, qz1s, qz1t, qz1u, qz1v, qz1w, qz1x, qz1y, qz1z, qz20, qz21, qz22, qz23, qz24, qz25, qz26, qz27, qz28, qz29, qz2a, qz2b, qz2c, qz2d, qz2e, qz2f, qz2g, qz2h, qz2i, qz2j, qz2k, qz2l, qz2m, qz2n, qz2o, qz2p, qz2q, qz2r, qz2s, qz2t, qz2u, qz2v, qz2w, qz2x, qz2y, qz2z, qz30, qz31, qz32, qz33, qz34, qz35, qz36, qz37, qz38, qz39, qz3a, qz3b, qz3c, qz3d, Bool.not_true, Bool.not_false, List.cons_append, List.nil_append, List.append_nil]
      exact hK0 (.inr hw2) s1.bare ⟨k1.nx, rfl, k1.keep⟩
    · have hw2' : width ≤ 32 := by omega
      obtain ⟨w, rfl⟩ : ∃ w : Nat, width = w := ⟨width.toNat, by omega⟩
      have b1 : Row s1 b o n a := Row.keep ha k1.keep k1.nx
      simp (disch := first | assumption | decide | omega) only [qz00, qz01, qz02, qz03, qz04, qz05, qz06, qz07, qz08, qz09, qz0a, qz0b, qz0c, qz0d, qz0e, qz0f, qz0g, qz0h, qz0i, qz0j, qz0k, qz0l, qz0m, qz0n, qz0o, qz0p, qz0q, qz0r, qz0s, qz0t, qz0u, qz0v, qz0w, qz0x, qz0y, qz0z, qz10, qz11, qz12, qz13, qz14, qz15, qz16, qz17, qz18, qz19, qz1a, qz1b, qz1c, qz1d, qz1e, qz1f, qz1g, qz1h, qz1i, qz1j, qz1k, qz1l, qz1m, qz1n, qz1o, qz1p, qz1q, qz1r, qz1s, qz1t, qz1u, qz1v, qz1w, qz1x, qz1y, qz1z, qz20, qz21, qz22, qz23, qz24, qz25, qz26, qz27, qz28, qz29, qz2a, qz2b, qz2c, qz2d, qz2e, qz2f, qz2g, qz2h, qz2i, qz2j, qz2k, qz2l, qz2m, qz2n, qz2o, qz2p, qz2q, qz2r, qz2s, qz2t, qz2u, qz2v, qz2w, qz2x, qz2y, qz2z, qz30, qz31, qz32, qz33, qz34, qz35, qz36, qz37, qz38, qz39, qz3a, qz3b, qz3c, qz3d, Bool.not_true, Bool.not_false, List.cons_append, List.nil_append, List.append_nil]
      refine Clone_ok (fun a s => hb _ a s (by simp)) (by omega) hn2 s1 b1.2.1 b1.1 _ fun bo s2 e2 hbo1 hbo2 hl hv => ?_
      have k2 : Kept s1 (back s1 s2) := ⟨e2.nx, rfl, e2.keep⟩
      have hl' : rlen (back s1 s2).h bo = n := hl
      have hv' : ∀ i, i < n → rat (back s1 s2).h bo i = .int .u32 (a i : Int) := fun i hi => (hv i hi).trans (b1.2.2 i hi)
      have hbo3 : bo < (back s1 s2).nx := hbo2
      generalize back s1 s2 = t at k2 hl' hv' hbo3
      simp (disch := first | assumption | decide | omega) only [qz00, qz01, qz02, qz03, qz04, qz05, qz06, qz07, qz08, qz09, qz0a, qz0b, qz0c, qz0d, qz0e, qz0f, qz0g, qz0h, qz0i, qz0j, qz0k, qz0l, qz0m, qz0n, qz0o, qz0p, qz0q, qz0r, qz0s, qz0t, qz0u, qz0v, qz0w, qz0x, qz0y, qz0z, qz10, qz11, qz12, qz13, qz14, qz15, qz16, qz17, qz18, qz19, qz1a, qz1b, qz1c, qz1d, qz1e, qz1f, qz1g, qz1h, qz1i, qz1j, qz1k, qz1l, qz1m, qz1n, qz1o, qz1p, qz1q, qz1r, qz1s, qz1t, qz1u, qz1v, qz1w, qz1x, qz1y, qz1z, qz20, qz21, qz22, qz23, qz24, qz25, qz26, qz27, qz28, qz29, qz2a, qz2b, qz2c, qz2d, qz2e, qz2f, qz2g, qz2h, qz2i, qz2j, qz2k, qz2l, qz2m, qz2n, qz2o, qz2p, qz2q, qz2r, qz2s, qz2t, qz2u, qz2v, qz2w, qz2x, qz2y, qz2z, qz30, qz31, qz32, qz33, qz34, qz35, qz36, qz37, qz38, qz39, qz3a, qz3b, qz3c, qz3d, Bool.not_true, Bool.not_false, List.cons_append, List.nil_append, List.append_nil]
      refine wC_loopH (fun mm L s => ∃ k bk : Nat, n ≤ k ∧ k ≤ w ∧ mm = w - k ∧ Kept s1 s ∧ s1.nx ≤ bk ∧ bk < s.nx ∧ rlen s.h bk = k ∧ (∀ j, j < k → rat s.h bk j = .int .u32 (a j : Int)) ∧ Has L 0 (.slice b o n c 1 x) ∧ Has L 1 (.int .i64 (w : Int)) ∧ Has L 6 (.slice bk 0 k k 1 false)) ?_ (w - n) ?_
      · rintro mm L s ⟨k, bk, hk1, hk2, rfl, ks, nb1, nb2, ls, vs, h0, h1', h6⟩
        unfold Hold
        by_cases hkw : k < w
        · have bs : Row s b o n a := b1.keep ks.keep ks.nx
          have e1 : o + (n - 1) * 1 < rlen s.h b := by have := bs.2.1; omega
          have e2 : rat s.h b (o + (n - 1) * 1) = .int .u32 (a (n - 1) : Int) := by rw [Nat.mul_one]; exact bs.2.2 (n - 1) (by omega)
          have e3 : n - 1 < n := by omega
          simp (disch := first | assumption | decide | omega) only [r_onh h0, r_onh h1', r_onh h6, e2, qz00, qz01, qz02, qz03, qz04, qz05, qz06, qz07, qz08, qz09, qz0a, qz0b, qz0c, qz0d, qz0e, qz0f, qz0g, qz0h, qz0i, qz0j, qz0k, qz0l, qz0m, qz0n, qz0o, qz0p, qz0q, qz0r, qz0s, qz0t, qz0u, qz0v, qz0w, qz0x, qz0y, qz0z, qz10, qz11, qz12, qz13, qz14, qz15, qz16, qz17, qz18, qz19, qz1a, qz1b, qz1c, qz1d, qz1e, qz1f, qz1g, qz1h, qz1i, qz1j, qz1k, qz1l, qz1m, qz1n, qz1o, qz1p, qz1q, qz1r, qz1s, qz1t, qz1u, qz1v, qz1w, qz1x, qz1y, qz1z, qz20, qz21, qz22, qz23, qz24, qz25, qz26, qz27, qz28, qz29, qz2a, qz2b, qz2c, qz2d, qz2e, qz2f, qz2g, qz2h, qz2i, qz2j, qz2k, qz2l, qz2m, qz2n, qz2o, qz2p, qz2q, qz2r, qz2s, qz2t, qz2u, qz2v, qz2w, qz2x, qz2y, qz2z, qz30, qz31, qz32, qz33, qz34, qz35, qz36, qz37, qz38, qz39, qz3a, qz3b, qz3c, qz3d, Bool.not_true, Bool.not_false, List.cons_append, List.nil_append, List.append_nil]
          refine o_buildS1 ⟨rfl, rfl, rfl⟩ fun s3 h3 => ?_
          simp (disch := first | assumption | decide | omega) only [qz00, qz01, qz02, qz03, qz04, qz05, qz06, qz07, qz08, qz09, qz0a, qz0b, qz0c, qz0d, qz0e, qz0f, qz0g, qz0h, qz0i, qz0j, qz0k, qz0l, qz0m, qz0n, qz0o, qz0p, qz0q, qz0r, qz0s, qz0t, qz0u, qz0v, qz0w, qz0x, qz0y, qz0z, qz10, qz11, qz12, qz13, qz14, qz15, qz16, qz17, qz18, qz19, qz1a, qz1b, qz1c, qz1d, qz1e, qz1f, qz1g, qz1h, qz1i, qz1j, qz1k, qz1l, qz1m, qz1n, qz1o, qz1p, qz1q, qz1r, qz1s, qz1t, qz1u, qz1v, qz1w, qz1x, qz1y, qz1z, qz20, qz21, qz22, qz23, qz24, qz25, qz26, qz27, qz28, qz29, qz2a, qz2b, qz2c, qz2d, qz2e, qz2f, qz2g, qz2h, qz2i, qz2j, qz2k, qz2l, qz2m, qz2n, qz2o, qz2p, qz2q, qz2r, qz2s, qz2t, qz2u, qz2v, qz2w, qz2x, qz2y, qz2z, qz30, qz31, qz32, qz33, qz34, qz35, qz36, qz37, qz38, qz39, qz3a, qz3b, qz3c, qz3d, Bool.not_true, Bool.not_false, List.cons_append, List.nil_append, List.append_nil]
          have n3 : s3.nx = s.nx + 1 := h3.nx
          have kb : hget s3.h bk = hget s.h bk := h3.keep bk (by omega)
          have ks3 := ks.made h3
          refine o_app2 (by rw [rlen_same kb, ls]) (by omega) (by omega) (by omega) (by omega) h3.len (h3.cell 0 (by decide)) fun s4 h4 => ?_
          have n4 : s4.nx = s3.nx + 1 := h4.nx
          have n5 := ks3.nx
          simp (disch := first | assumption | decide | omega) only [qz00, qz01, qz02, qz03, qz04, qz05, qz06, qz07, qz08, qz09, qz0a, qz0b, qz0c, qz0d, qz0e, qz0f, qz0g, qz0h, qz0i, qz0j, qz0k, qz0l, qz0m, qz0n, qz0o, qz0p, qz0q, qz0r, qz0s, qz0t, qz0u, qz0v, qz0w, qz0x, qz0y, qz0z, qz10, qz11, qz12, qz13, qz14, qz15, qz16, qz17, qz18, qz19, qz1a, qz1b, qz1c, qz1d, qz1e, qz1f, qz1g, qz1h, qz1i, qz1j, qz1k, qz1l, qz1m, qz1n, qz1o, qz1p, qz1q, qz1r, qz1s, qz1t, qz1u, qz1v, qz1w, qz1x, qz1y, qz1z, qz20, qz21, qz22, qz23, qz24, qz25, qz26, qz27, qz28, qz29, qz2a, qz2b, qz2c, qz2d, qz2e, qz2f, qz2g, qz2h, qz2i, qz2j, qz2k, qz2l, qz2m, qz2n, qz2o, qz2p, qz2q, qz2r, qz2s, qz2t, qz2u, qz2v, qz2w, qz2x, qz2y, qz2z, qz30, qz31, qz32, qz33, qz34, qz35, qz36, qz37, qz38, qz39, qz3a, qz3b, qz3c, qz3d, Bool.not_true, Bool.not_false, List.cons_append, List.nil_append, List.append_nil]
          refine ⟨w - (k + 1), by omega, k + 1, s3.nx, by omega, by omega, rfl, ⟨by omega, h4.fr.trans ks3.fr, fun c hc => (h4.keep c (by omega) (by omega)).trans (ks3.keep c hc)⟩, by omega, by omega, h4.len, fun j hj => ?_, ?_⟩
          · rw [h4.cell j hj]
            by_cases hjk : j = k
            · rw [if_pos hjk, hjk, hx k hk1]
            · rw [if_neg hjk, rat_same kb]; exact vs j (by omega)
          · simp (disch := decide) only [z0, z1, h_here, h_skip, h0, h1', true_and, and_true]
        · have hkw' : k = w := by omega
          subst hkw'
          simp (disch := first | assumption | decide | omega) only [r_onh h0, r_onh h1', r_onh h6, qz00, qz01, qz02, qz03, qz04, qz05, qz06, qz07, qz08, qz09, qz0a, qz0b, qz0c, qz0d, qz0e, qz0f, qz0g, qz0h, qz0i, qz0j, qz0k, qz0l, qz0m, qz0n, qz0o, qz0p, qz0q, qz0r, qz0s, qz0t, qz0u, qz0v, qz0w, qz0x, qz0y, qz0z, qz10, qz11, qz12, qz13, qz14, qz15, qz16, qz17, qz18, qz19, qz1a, qz1b, qz1c, qz1d, qz1e, qz1f, qz1g, qz1h, qz1i, qz1j, qz1k, qz1l, qz1m, qz1n, qz1o, qz1p, qz1q, qz1r, qz1s, qz1t, qz1u, qz1v, qz1w, qz1x, qz1y, qz1z, qz20, qz21, qz22, qz23, qz24, qz25, qz26, qz27, qz28, qz29, qz2a, qz2b, qz2c, qz2d, qz2e, qz2f, qz2g, qz2h, qz2i, qz2j, qz2k, qz2l, qz2m, qz2n, qz2o, qz2p, qz2q, qz2r, qz2s, qz2t, qz2u, qz2v, qz2w, qz2x, qz2y, qz2z, qz30, qz31, qz32, qz33, qz34, qz35, qz36, qz37, qz38, qz39, qz3a, qz3b, qz3c, qz3d, Bool.not_true, Bool.not_false, List.cons_append, List.nil_append, List.append_nil]
          have kk := k1.trans ks
          refine hK k rfl hk1 (by omega) bk s.bare ⟨kk.nx, rfl, kk.keep⟩ (by omega) ⟨nb2, by show 0 + k ≤ rlen s.h bk; omega, fun i hi => by rw [Nat.zero_add]; exact vs i hi⟩
      · refine ⟨n, bo, by omega, by omega, rfl, k2, hbo1, hbo3, hl', hv', ?_⟩
        simp (disch := decide) only [z0, z1, h_here, h_skip, true_and, and_true]
end Go.Sy
end

section
set_option maxRecDepth 100000
namespace Go.Sy
open Go.Ev Go.Proofs
section
variable {P : Program} {base : CallF} {st : Ev.St} {K : AV → Ev.St → Prop} {e : En}
noncomputable def bi1V (P : Program) (b : Builtin) (ts : Array TypeId) (v : AV) (st : Ev.St) : ER := (builtinF P b ts [O v]).run E0 st
theorem i_bi1 (b : Builtin) (ts : Array TypeId) (x : A) : wK P base (.i (.bi b ts [x])) e st K = on1 e x fun v => onER (bi1V P b ts v st) K := k_1 rfl (fun _ => rfl) K
noncomputable def slSV (sz : Nat) (v : AV) (hi : AV) (st : Ev.St) : ER := match v with
      | .nils => optA none 0 fun l => optA (some hi) 0 fun h => cond (Nat.beq l 0) (cond (Nat.beq h 0) (.ok .nils st) .no) .no
      | .slice b o len cap sz' ex => optA none 0 fun l => optA (some hi) len fun h =>
          cond (Nat.beq sz' sz) (cond (Nat.ble l h) (cond (Nat.ble h cap) (force (Nat.sub h l) fun k => force (Nat.add o (Nat.mul l sz)) fun o => force (Nat.sub cap l) fun c => .ok (.slice b o k c sz ex) st) .no) .no) .no
      | _ => .no
theorem i_slSh (sz : Nat) (x hi : A) : wK P base (.i (.slS sz x none (some hi))) e st K = on1 e x fun v => on1 e hi fun u => onER (slSV sz v u st) K := k_2 (V := fun v u st => slSV sz v u st) rfl (fun _ => rfl) K
theorem v_slS0n (sz : Nat) : onER (slSV sz .nils (.int .i64 0) st) K = K .nils st := by
  have : onNat (.int .i64 0) = fun F => F 0 := by funext F; show (force 0 F) = F 0; rw [force_eq]
  simp only [slSV, optA, this]
  rfl
theorem v_slS0 (b n c sz : Nat) (ex : Bool) : onER (slSV sz (.slice b 0 n c sz ex) (.int .i64 0) st) K = K (.slice b 0 0 c sz ex) st := by
  have : onNat (.int .i64 0) = fun F => F 0 := by funext F; show (force 0 F) = F 0; rw [force_eq]
  have e1 : Nat.beq sz sz = true := beq_t rfl
  have e2 : Nat.ble 0 0 = true := rfl
  have e3 : Nat.ble 0 c = true := ble_t (Nat.zero_le _)
  have e4 : Nat.add 0 (Nat.mul 0 sz) = 0 := by show 0 + 0 * sz = 0; omega
  simp only [slSV, optA, this, e1, e2, e3, cond_true, force_eq, e4, onER]
  rfl
end
end Go.Sy
end

section
set_option maxRecDepth 100000
namespace Go.Sy
open Go.Ev Go.Proofs
variable {base : CallF}
theorem v_cap36 (st : Ev.St) (K : AV → Ev.St → Prop) : onER (bi1V Try.prog .cap #[36] .nils st) K = K (.int .i64 0) st := by
  have : bi1V Try.prog .cap #[36] .nils st = .ok (.int .i64 0) st := by kernel_rfl
  rw [this]; rfl
theorem repeatC_len (v : AV) (n : Nat) : (repeatC [v] n).length = n := by
  induction n with
  | zero => rfl
  | succ n ih =>
    have : repeatC [v] (n + 1) = lapp [v] (repeatC [v] n) := rfl
    rw [this, lapp_eq, List.length_append, ih]; simp; omega
theorem o_appInt {st : Ev.St} {K : AV → Ev.St → Prop} {n : Nat} (h0 : 0 < n) (hn : n ≤ 64) (hk : ∀ st', st'.nx = st.nx + 1 → st'.fr = st.fr → (∀ c, c ≠ st.nx → hget st'.h c = hget st.h c) → IsRow st'.h st.nx → rlen st'.h st.nx = n → K (.slice st.nx 0 n n 1 false) st') :
    onER (biV Try.prog .append #[36, 3] .nils (.int .i64 (n : Int)) st) K := by
  have h : biV Try.prog .append #[36, 3] .nils (.int .i64 (n : Int)) st = onNat (.int .i64 (n : Int)) fun n => cond (Nat.ble (Nat.mul n 4) 281474976710656) (cond (Nat.ble n 9223372036854775807) (appendWith st 1 4 .nils n (repeatC [.int .u32 0] n)) .no) .no := by kernel_rfl
  have e1 : Nat.ble (Nat.mul n 4) 281474976710656 = true := ble_t (by show n * 4 ≤ _; omega)
  have e2 : Nat.ble n 9223372036854775807 = true := ble_t (by omega)
  have e3 : Nat.beq (llen (repeatC [.int .u32 0] n)) n = true := beq_t (by rw [llen_eq, repeatC_len])
  have e4 : Nat.beq n 0 = false := beq_f (by omega)
  have e5 : Nat.ble (Nat.mul n 4) 140737488355328 = true := ble_t (by show n * 4 ≤ _; omega)
  have e6 : Nat.mul n 1 = n := Nat.mul_one n
  rw [h, onNat_n]
  simp only [e1, e2, cond_true, appendWith, e3, e4, cond_false, e5, force_eq, e6, St.alloc_eq, onER]
  refine hk ⟨st.nx + 1, (setF (bitsR st.nx)).run (.row n n (repeatC [.int .u32 0] n) .e) st.h, st.dirty, st.fr⟩ rfl rfl (fun c hc => ?_) ?_ ?_
  · show hget ((setF (bitsR st.nx)).run _ st.h) c = _
    rw [hget_set, if_neg hc]
  · exact ⟨_, _, _, _, by rw [hget_set, if_pos rfl]⟩
  · rw [rlen_row, if_pos rfl]

/-- room for so many -/
theorem Grow_ok (hb : ∀ args st, base 64 args st = .no) {n : Nat} (h0 : 0 < n) (hn : n ≤ 64) (st : Ev.St) (K : AV → Ev.St → Prop)
    (hK : ∀ st', Ext st st' → st'.nx = st.nx + 1 → IsRow st'.h st.nx → rlen st'.h st.nx = n → K (.slice st.nx 0 0 n 1 false) st') : CW Try.prog base 64 [.nils, .int .i64 (n : Int)] st K := by
  refine fn_rule l64 (hb _ _) ?_
  simp only [c64, entry, List.map_cons, List.map_nil, List.getD_cons_zero, List.getD_cons_succ]
  unfold b64
  have d1 : (0 : Int) ≤ (n : Int) := by omega
  have d2 : (0 : Int) < (n : Int) := by omega
  have d3 : onER (binV .sub (.int .i64 0) (.int .i64 0) st.bare) = fun K => K (.int .i64 0) st.bare := by funext K; rw [v_sub (by decide) (by decide)]; rfl
  have d4 : onER (binV .sub (.int .i64 (n : Int)) (.int .i64 0) st.bare) = fun K => K (.int .i64 (n : Int)) st.bare := by funext K; rw [v_sub (by omega) (by omega), Int.sub_zero]
  simp (disch := first | assumption | decide | omega) only [qz3e, qz3f, qz3g, qz3h, qz3i, qz3j, i_bi1, v_cap36, i_slSh, v_slS0n, d3, d4, qz00, qz01, qz02, qz03, qz04, qz05, qz06, qz07, qz08, qz09, qz0a, qz0b, qz0c, qz0d, qz0e, qz0f, qz0g, qz0h, qz0i, qz0j, qz0k, qz0l, qz0m, qz0n, qz0o, qz0p, qz0q, qz0r, qz0s, qz0t, qz0u, qz0v, qz0w, qz0x, qz0y, qz0z, qz10, qz11, qz12, qz13, qz14, qz15, qz16, qz17, qz18, qz19, qz1a, qz1b, qz1c, qz1d, qz1e, qz1f, qz1g, qz1h, qz1i, qz1j, qz1k, qz1l, qz1m, qz1n, qz1o, qz1p, qz1q, qz1r, qz1s, qz1t, qz1u, qz1v, qz1w, qz1x, qz1y, qz1z, qz20, qz21, qz22, qz23, qz24, qz25, qz26, qz27, qz28, qz29, qz2a, qz2b, qz2c, qz2d, qz2e, qz2f, qz2g, qz2h, qz2i, qz2j, qz2k, qz2l, qz2m, qz2n, qz2o, qz2p, qz2q, qz2r, qz2s, qz2t, qz2u, qz2v, qz2w, qz2x, qz2y, qz2z, qz30, qz31, qz32, qz33, qz34, qz35, qz36, qz37, qz38, qz39, qz3a, qz3b, qz3c, qz3d, Bool.not_true, Bool.not_false, List.cons_append, List.nil_append, List.append_nil]
  refine o_appInt h0 hn fun s1 n1 f1 k1 r1 l1 => ?_
  simp (disch := first | assumption | decide | omega) only [qz3e, qz3f, qz3g, qz3h, qz3i, qz3j, i_slSh, v_slS0, qz00, qz01, qz02, qz03, qz04, qz05, qz06, qz07, qz08, qz09, qz0a, qz0b, qz0c, qz0d, qz0e, qz0f, qz0g, qz0h, qz0i, qz0j, qz0k, qz0l, qz0m, qz0n, qz0o, qz0p, qz0q, qz0r, qz0s, qz0t, qz0u, qz0v, qz0w, qz0x, qz0y, qz0z, qz10, qz11, qz12, qz13, qz14, qz15, qz16, qz17, qz18, qz19, qz1a, qz1b, qz1c, qz1d, qz1e, qz1f, qz1g, qz1h, qz1i, qz1j, qz1k, qz1l, qz1m, qz1n, qz1o, qz1p, qz1q, qz1r, qz1s, qz1t, qz1u, qz1v, qz1w, qz1x, qz1y, qz1z, qz20, qz21, qz22, qz23, qz24, qz25, qz26, qz27, qz28, qz29, qz2a, qz2b, qz2c, qz2d, qz2e, qz2f, qz2g, qz2h, qz2i, qz2j, qz2k, qz2l, qz2m, qz2n, qz2o, qz2p, qz2q, qz2r, qz2s, qz2t, qz2u, qz2v, qz2w, qz2x, qz2y, qz2z, qz30, qz31, qz32, qz33, qz34, qz35, qz36, qz37, qz38, qz39, qz3a, qz3b, qz3c, qz3d, Bool.not_true, Bool.not_false, List.cons_append, List.nil_append, List.append_nil]
  exact hK s1.bare ⟨by show st.nx ≤ s1.nx; have : s1.nx = st.nx + 1 := n1; omega, rfl, fun c hc => k1 c (by have : c < st.nx := hc; show c ≠ st.nx; omega)⟩ n1 r1 l1
end Go.Sy
end

section
set_option maxRecDepth 100000
namespace Go.Sy
open Go.Ev Go.Proofs
variable {base : CallF}
/-- cells appended within what there is room for -/
theorem o_appR {st : Ev.St} {K : AV → Ev.St → Prop} {b sl cap bytes n bx ox xc : Nat} {ex xx : Bool} (hb : sl + n ≤ rlen st.h b) (hc : sl + n ≤ cap) (hn : 0 < n) (hx : ox + n ≤ rlen st.h bx)
    (hk : ∀ st', st'.nx = st.nx → st'.fr = st.fr → (∀ c, c ≠ b → hget st'.h c = hget st.h c) → rlen st'.h b = rlen st.h b → (∀ i, rat st'.h b i = if sl ≤ i ∧ i < sl + n then rat st.h bx (ox + (i - sl)) else rat st.h b i) → K (.slice b 0 (sl + n) cap 1 ex) st') :
    onER (appV 1 bytes (.slice b 0 sl cap 1 ex) (.slice bx ox n xc 1 xx) st) K := by
  obtain ⟨m, zl, z, cs, hg⟩ := isRow_pos (h := st.h) (b := bx) (by omega)
  obtain ⟨n', zl', z', cs', hg'⟩ := isRow_pos (h := st.h) (b := b) (by omega)
  rw [rlen_get hg] at hx
  rw [rlen_get hg'] at hb
  have e0 : Nat.mul n 1 = n := Nat.mul_one _
  have e1 : Nat.ble (Nat.add ox n) m = true := ble_t hx
  have e3 : Nat.beq (llen (rowCells zl z cs n ox)) n = true := beq_t (by rw [llen_eq, rowCells_eq]; simp)
  have e4 : Nat.ble (Nat.add sl n) cap = true := ble_t hc
  have e5 : Nat.beq n 0 = false := beq_f (by omega)
  have e6 : Nat.ble (Nat.add 0 (Nat.mul (Nat.add sl n) 1)) n' = true := ble_t (by show 0 + (sl + n) * 1 ≤ n'; omega)
  have e7 : Nat.add 0 (Nat.mul sl 1) = sl := by show 0 + sl * 1 = _; omega
  simp only [appV, onLen, firstCells, hg, onRow, force_eq, e0, e1, cond_true, appendWith, e3, hg', e4, e5, cond_false, e6, e7, St.put_eq, onER]
  refine hk ⟨st.nx, (setF (bitsR b)).run (.row n' zl' z' (setCells (rowCells zl z cs n ox) cs' sl)) st.h, min st.dirty b, st.fr⟩ rfl rfl (fun c hc => ?_) ?_ fun i => ?_
  · show hget ((setF (bitsR b)).run _ st.h) c = _
    rw [hget_set, if_neg hc]
  · rw [rlen_row, if_pos rfl, rlen_get hg']
  · rw [rat_row, if_pos rfl, rat_get hg', rat_get hg, rowCell_setCells]
    have hl : (rowCells zl z cs n ox).length = n := by rw [rowCells_eq]; simp
    rw [hl]
    by_cases h : sl ≤ i ∧ i < sl + n
    · rw [if_pos h, if_pos h, rowCells_eq, List.getD_eq_getElem?_getD, List.getElem?_map, List.getElem?_range (by omega)]
      rfl
    · rw [if_neg h, if_neg h]
end Go.Sy
end

section
set_option maxRecDepth 100000
namespace Go.Sy
open Go.Ev Go.Proofs
variable {base : CallF}

def cat2 (n1 : Nat) (a1 a2 : Nat → Nat) (i : Nat) : Nat := if i < n1 then a1 i else a2 (i - n1)
def len2 (n1 n2 i : Nat) : Nat := if i = 0 then 0 else if i = 1 then n1 else n1 + n2
theorem Concat_ok (hb : ∀ f args st, f = 56 ∨ f = 64 → base f args st = .no) {bl b1 o1 n1 c1 b2 o2 n2 c2 : Nat} {x1 x2 : Bool} {a1 a2 : Nat → Nat} (st : Ev.St) (h1 : 0 < n1) (h1' : n1 ≤ 32) (h2 : 0 < n2) (h2' : n2 ≤ 32)
    (hl : rlen st.h bl = 2) (hl1 : bl < st.nx) (hr0 : rat st.h bl 0 = .slice b1 o1 n1 c1 1 x1) (hr1 : rat st.h bl 1 = .slice b2 o2 n2 c2 1 x2) (hR1 : Row st b1 o1 n1 a1) (hR2 : Row st b2 o2 n2 a2) (K : AV → Ev.St → Prop)
    (hK : ∀ bo st', Ext st st' → st.nx ≤ bo → Row st' bo 0 (n1 + n2) (cat2 n1 a1 a2) → K (.slice bo 0 (n1 + n2) (n1 + n2) 1 false) st') : CW Try.prog base 56 [.slice bl 0 2 2 1 true] st K := by
  refine fn_rule l56 (hb _ _ _ (by simp)) ?_
  simp only [c56, entry, List.map_cons, List.map_nil, List.getD_cons_zero, List.getD_cons_succ]
  unfold b56
  simp (disch := first | assumption | decide | omega) only [qz3e, qz3f, qz3g, qz3h, qz3i, qz3j, qz00, qz01, qz02, qz03, qz04, qz05, qz06, qz07, qz08, qz09, qz0a, qz0b, qz0c, qz0d, qz0e, qz0f, qz0g, qz0h, qz0i, qz0j, qz0k, qz0l, qz0m, qz0n, qz0o, qz0p, qz0q, qz0r, qz0s, qz0t, qz0u, qz0v, qz0w, qz0x, qz0y, qz0z, qz10, qz11, qz12, qz13, qz14, qz15, qz16, qz17, qz18, qz19, qz1a, qz1b, qz1c, qz1d, qz1e, qz1f, qz1g, qz1h, qz1i, qz1j, qz1k, qz1l, qz1m, qz1n, qz1o, qz1p, qz1q, qz1r, qz1s, qz1t, qz1u, qz1v, qz1w, qz1x, qz1y, qz1z, qz20, qz21, qz22, qz23, qz24, qz25, qz26, qz27, qz28, qz29, qz2a, qz2b, qz2c, qz2d, qz2e, qz2f, qz2g, qz2h, qz2i, qz2j, qz2k, qz2l, qz2m, qz2n, qz2o, qz2p, qz2q, qz2r, qz2s, qz2t, qz2u, qz2v, qz2w, qz2x, qz2y, qz2z, qz30, qz31, qz32, qz33, qz34, qz35, qz36, qz37, qz38, qz39, qz3a, qz3b, qz3c, qz3d, Bool.not_true, Bool.not_false, List.cons_append, List.nil_append, List.append_nil]
  refine wC_loopH (fun mm L s => ∃ k : Nat, k ≤ 2 ∧ mm = 2 - k ∧ s = st.bare ∧ Has L 0 (.slice bl 0 2 2 1 true) ∧ Has L 3 (.int .i64 (len2 n1 n2 k : Int)) ∧ Has L 9 (.slice bl 0 2 2 1 true) ∧ Has L 10 (.int .i64 ((2 : Nat) : Int)) ∧ Has L 11 (.int .i64 (k : Int))) ?_ 2 ?_
  · rintro mm L s ⟨k, hk, rfl, rfl, i0, i3, i9, i10, i11⟩
    unfold Hold
    by_cases hk2 : k < 2
    · obtain ⟨nk, bk, ok, ck, xk, ev, hn0, hn, hlen⟩ : ∃ nk bk ok ck xk, rat st.bare.h bl (0 + k * 1) = .slice bk ok nk ck 1 xk ∧ 0 < nk ∧ nk ≤ 32 ∧ len2 n1 n2 (k + 1) = len2 n1 n2 k + nk := by
        have : k = 0 ∨ k = 1 := by omega
        rcases this with rfl | rfl
        · exact ⟨n1, b1, o1, c1, x1, hr0, h1, h1', by simp [len2]⟩
        · exact ⟨n2, b2, o2, c2, x2, hr1, h2, h2', by simp [len2]⟩
      have e1 : 0 + k * 1 < rlen st.bare.h bl := by show _ < rlen st.h bl; omega
      have hb2 : len2 n1 n2 k ≤ 64 := by
        unfold len2
        split
        · omega
        · split <;> omega
      have e2 : ((k : Nat) : Int) < ((2 : Nat) : Int) := by omega
      have eA : ∀ (s : Ev.St) (K : AV → Ev.St → Prop), onER (binV .add (.int .i64 (len2 n1 n2 k : Int)) (.int .i64 (nk : Int)) s) K = K (.int .i64 (len2 n1 n2 (k + 1) : Int)) s := fun s K => by
        rw [v_add (by omega) (by omega), hlen]; rfl
      have e3 : (0 : Int) ≤ (len2 n1 n2 (k + 1) : Int) := by omega
      simp (disch := first | assumption | decide | omega) only [qz3e, qz3f, qz3g, qz3h, qz3i, qz3j, r_onh i0, r_onh i3, r_onh i9, r_onh i10, r_onh i11, ev, eA, v_addN, qz00, qz01, qz02, qz03, qz04, qz05, qz06, qz07, qz08, qz09, qz0a, qz0b, qz0c, qz0d, qz0e, qz0f, qz0g, qz0h, qz0i, qz0j, qz0k, qz0l, qz0m, qz0n, qz0o, qz0p, qz0q, qz0r, qz0s, qz0t, qz0u, qz0v, qz0w, qz0x, qz0y, qz0z, qz10, qz11, qz12, qz13, qz14, qz15, qz16, qz17, qz18, qz19, qz1a, qz1b, qz1c, qz1d, qz1e, qz1f, qz1g, qz1h, qz1i, qz1j, qz1k, qz1l, qz1m, qz1n, qz1o, qz1p, qz1q, qz1r, qz1s, qz1t, qz1u, qz1v, qz1w, qz1x, qz1y, qz1z, qz20, qz21, qz22, qz23, qz24, qz25, qz26, qz27, qz28, qz29, qz2a, qz2b, qz2c, qz2d, qz2e, qz2f, qz2g, qz2h, qz2i, qz2j, qz2k, qz2l, qz2m, qz2n, qz2o, qz2p, qz2q, qz2r, qz2s, qz2t, qz2u, qz2v, qz2w, qz2x, qz2y, qz2z, qz30, qz31, qz32, qz33, qz34, qz35, qz36, qz37, qz38, qz39, qz3a, qz3b, qz3c, qz3d, Bool.not_true, Bool.not_false, List.cons_append, List.nil_append, List.append_nil]
      refine ⟨2 - (k + 1), by omega, k + 1, by omega, rfl, ?_⟩
      simp (disch := decide) only [z0, z1, h_here, h_skip, i0, i9, i10, true_and, and_true]
    · have hk' : k = 2 := by omega
      subst hk'
      have e2 : ((2 : Nat) : Int) ≤ ((2 : Nat) : Int) := Int.le_refl _
      simp (disch := first | assumption | decide | omega) only [qz3e, qz3f, qz3g, qz3h, qz3i, qz3j, r_onh i0, r_onh i3, r_onh i9, r_onh i10, r_onh i11, qz00, qz01, qz02, qz03, qz04, qz05, qz06, qz07, qz08, qz09, qz0a, qz0b, qz0c, qz0d, qz0e, qz0f, qz0g, qz0h, qz0i, qz0j, qz0k, qz0l, qz0m, qz0n, qz0o, qz0p, qz0q, qz0r, qz0s, qz0t, qz0u, qz0v, qz0w, qz0x, qz0y, qz0z, qz10, qz11, qz12, qz13, qz14, qz15, qz16, qz17, qz18, qz19, qz1a, qz1b, qz1c, qz1d, qz1e, qz1f, qz1g, qz1h, qz1i, qz1j, qz1k, qz1l, qz1m, qz1n, qz1o, qz1p, qz1q, qz1r, qz1s, qz1t, qz1u, qz1v, qz1w, qz1x, qz1y, qz1z, qz20, qz21, qz22, qz23, qz24, qz25, qz26, qz27, qz28, qz29, qz2a, qz2b, qz2c, qz2d, qz2e, qz2f, qz2g, qz2h, qz2i, qz2j, qz2k, qz2l, qz2m, qz2n, qz2o, qz2p, qz2q, qz2r, qz2s, qz2t, qz2u, qz2v, qz2w, qz2x, qz2y, qz2z, qz30, qz31, qz32, qz33, qz34, qz35, qz36, qz37, qz38, qz39, qz3a, qz3b, qz3c, qz3d, Bool.not_true, Bool.not_false, List.cons_append, List.nil_append, List.append_nil]
      have el : len2 n1 n2 2 = n1 + n2 := by simp [len2]
      rw [el]
      refine Grow_ok (fun a s => hb _ a s (by simp)) (n := n1 + n2) (by omega) (by omega) st.bare _ fun s1 g1 g2 g3 g4 => ?_
      have k1 : Kept st.bare (back st.bare s1) := ⟨g1.nx, rfl, g1.keep⟩
      have l1 : rlen (back st.bare s1).h st.nx = n1 + n2 := g4
      have x1' : (back st.bare s1).nx = st.nx + 1 := g2
      generalize back st.bare s1 = t at k1 l1 x1'
      simp (disch := first | assumption | decide | omega) only [qz3e, qz3f, qz3g, qz3h, qz3i, qz3j, r_onh i0, qz00, qz01, qz02, qz03, qz04, qz05, qz06, qz07, qz08, qz09, qz0a, qz0b, qz0c, qz0d, qz0e, qz0f, qz0g, qz0h, qz0i, qz0j, qz0k, qz0l, qz0m, qz0n, qz0o, qz0p, qz0q, qz0r, qz0s, qz0t, qz0u, qz0v, qz0w, qz0x, qz0y, qz0z, qz10, qz11, qz12, qz13, qz14, qz15, qz16, qz17, qz18, qz19, qz1a, qz1b, qz1c, qz1d, qz1e, qz1f, qz1g, qz1h, qz1i, qz1j, qz1k, qz1l, qz1m, qz1n, qz1o, qz1p, qz1q, qz1r, qz1s, qz1t, qz1u, qz1v, qz1w, qz1x, qz1y, qz1z, qz20, qz21, qz22, qz23, qz24, qz25, qz26, qz27, qz28, qz29, qz2a, qz2b, qz2c, qz2d, qz2e, qz2f, qz2g, qz2h, qz2i, qz2j, qz2k, qz2l, qz2m, qz2n, qz2o, qz2p, qz2q, qz2r, qz2s, qz2t, qz2u, qz2v, qz2w, qz2x, qz2y, qz2z, qz30, qz31, qz32, qz33, qz34, qz35, qz36, qz37, qz38, qz39, qz3a, qz3b, qz3c, qz3d, Bool.not_true, Bool.not_false, List.cons_append, List.nil_append, List.append_nil]
      refine wC_loopH (fun mm L s => ∃ k : Nat, k ≤ 2 ∧ mm = 2 - k ∧ Kept st.bare s ∧ st.nx < s.nx ∧ rlen s.h st.nx = n1 + n2 ∧ (∀ i, i < len2 n1 n2 k → rat s.h st.nx i = .int .u32 (cat2 n1 a1 a2 i : Int)) ∧ Has L 6 (.slice st.bare.nx 0 (len2 n1 n2 k) (n1 + n2) 1 false) ∧ Has L 25 (.slice bl 0 2 2 1 true) ∧ Has L 26 (.int .i64 ((2 : Nat) : Int)) ∧ Has L 27 (.int .i64 (k : Int))) ?_ 2 ?_
      · rintro mm L s ⟨k, hk, rfl, ks, ns, ls, vs, j6, j25, j26, j27⟩
        unfold Hold
        have kbl : hget s.h bl = hget st.h bl := ks.keep bl hl1
        by_cases hk2 : k < 2
        · obtain ⟨nk, bk, ok, ck, xk, ak, ev, hn0, hlen, hle, hR, hcat⟩ : ∃ nk bk ok ck xk ak, rat s.h bl (0 + k * 1) = .slice bk ok nk ck 1 xk ∧ 0 < nk ∧ len2 n1 n2 (k + 1) = len2 n1 n2 k + nk ∧ len2 n1 n2 k + nk ≤ n1 + n2 ∧ Row st bk ok nk ak ∧ ∀ i, i < nk → cat2 n1 a1 a2 (len2 n1 n2 k + i) = ak i := by
            have : k = 0 ∨ k = 1 := by omega
            rcases this with rfl | rfl
            · exact ⟨n1, b1, o1, c1, x1, a1, (rat_same kbl _).trans hr0, h1, by simp [len2], by simp [len2], hR1, fun i hi => by simp [len2, cat2, hi]⟩
            · exact ⟨n2, b2, o2, c2, x2, a2, (rat_same kbl _).trans hr1, h2, by simp [len2], by simp [len2], hR2, fun i hi => by
                have e : len2 n1 n2 1 = n1 := by simp [len2]
                unfold cat2
                rw [e, if_neg (by omega), Nat.add_sub_cancel_left]⟩
          have e1 : 0 + k * 1 < rlen s.h bl := by rw [rlen_same kbl]; omega
          have e2 : ((k : Nat) : Int) < ((2 : Nat) : Int) := by omega
          have kbk : hget s.h bk = hget st.h bk := ks.keep bk hR.1
          have hbk := hR.1
          simp (disch := first | assumption | decide | omega) only [qz3e, qz3f, qz3g, qz3h, qz3i, qz3j, r_onh j6, r_onh j25, r_onh j26, r_onh j27, ev, qz00, qz01, qz02, qz03, qz04, qz05, qz06, qz07, qz08, qz09, qz0a, qz0b, qz0c, qz0d, qz0e, qz0f, qz0g, qz0h, qz0i, qz0j, qz0k, qz0l, qz0m, qz0n, qz0o, qz0p, qz0q, qz0r, qz0s, qz0t, qz0u, qz0v, qz0w, qz0x, qz0y, qz0z, qz10, qz11, qz12, qz13, qz14, qz15, qz16, qz17, qz18, qz19, qz1a, qz1b, qz1c, qz1d, qz1e, qz1f, qz1g, qz1h, qz1i, qz1j, qz1k, qz1l, qz1m, qz1n, qz1o, qz1p, qz1q, qz1r, qz1s, qz1t, qz1u, qz1v, qz1w, qz1x, qz1y, qz1z, qz20, qz21, qz22, qz23, qz24, qz25, qz26, qz27, qz28, qz29, qz2a, qz2b, qz2c, qz2d, qz2e, qz2f, qz2g, qz2h, qz2i, qz2j, qz2k, qz2l, qz2m, qz2n, qz2o, qz2p, qz2q, qz2r, qz2s, qz2t, qz2u, qz2v, qz2w, qz2x, qz2y, qz2z, qz30, qz31, qz32, qz33, qz34, qz35, qz36, qz37, qz38, qz39, qz3a, qz3b, qz3c, qz3d, Bool.not_true, Bool.not_false, List.cons_append, List.nil_append, List.append_nil]
          refine o_appR (by show _ ≤ rlen s.h st.nx; omega) hle hn0 (by rw [rlen_same kbk]; exact hR.2.1) fun s2 m1 m2 m3 m4 m5 => ?_
          simp (disch := first | assumption | decide | omega) only [qz3e, qz3f, qz3g, qz3h, qz3i, qz3j, r_onh j27, v_addN, qz00, qz01, qz02, qz03, qz04, qz05, qz06, qz07, qz08, qz09, qz0a, qz0b, qz0c, qz0d, qz0e, qz0f, qz0g, qz0h, qz0i, qz0j, qz0k, qz0l, qz0m, qz0n, qz0o, qz0p, qz0q, qz0r, qz0s, qz0t, qz0u, qz0v, qz0w, qz0x, qz0y, qz0z, qz10, qz11, qz12, qz13, qz14, qz15, qz16, qz17, qz18, qz19, qz1a, qz1b, qz1c, qz1d, qz1e, qz1f, qz1g, qz1h, qz1i, qz1j, qz1k, qz1l, qz1m, qz1n, qz1o, qz1p, qz1q, qz1r, qz1s, qz1t, qz1u, qz1v, qz1w, qz1x, qz1y, qz1z, qz20, qz21, qz22, qz23, qz24, qz25, qz26, qz27, qz28, qz29, qz2a, qz2b, qz2c, qz2d, qz2e, qz2f, qz2g, qz2h, qz2i, qz2j, qz2k, qz2l, qz2m, qz2n, qz2o, qz2p, qz2q, qz2r, qz2s, qz2t, qz2u, qz2v, qz2w, qz2x, qz2y, qz2z, qz30, qz31, qz32, qz33, qz34, qz35, qz36, qz37, qz38, qz39, qz3a, qz3b, qz3c, qz3d, Bool.not_true, Bool.not_false, List.cons_append, List.nil_append, List.append_nil]
          refine ⟨2 - (k + 1), by omega, k + 1, by omega, rfl, ⟨by rw [m1]; exact ks.nx, m2.trans ks.fr, fun c hc => (m3 c (by have : c < st.nx := hc; show c ≠ st.nx; omega)).trans (ks.keep c hc)⟩, by omega, m4.trans ls, fun i hi => ?_, ?_⟩
          · have := m5 i
            by_cases h : len2 n1 n2 k ≤ i
            · rw [if_pos ⟨h, by omega⟩, rat_same kbk, hR.2.2 _ (by omega)] at this
              have e := hcat (i - len2 n1 n2 k) (by omega)
              rw [show len2 n1 n2 k + (i - len2 n1 n2 k) = i by omega] at e
              rw [e]; exact this
            · rw [if_neg (fun h' => h h'.1)] at this
              exact this.trans (vs i (by omega))
          · rw [hlen]
            simp (disch := decide) only [z0, z1, h_here, h_skip, j25, j26, true_and, and_true]
        · have hk' : k = 2 := by omega
          subst hk'
          have e2 : ((2 : Nat) : Int) ≤ ((2 : Nat) : Int) := Int.le_refl _
          rw [el] at vs j6
          simp (disch := first | assumption | decide | omega) only [qz3e, qz3f, qz3g, qz3h, qz3i, qz3j, r_onh j6, r_onh j25, r_onh j26, r_onh j27, qz00, qz01, qz02, qz03, qz04, qz05, qz06, qz07, qz08, qz09, qz0a, qz0b, qz0c, qz0d, qz0e, qz0f, qz0g, qz0h, qz0i, qz0j, qz0k, qz0l, qz0m, qz0n, qz0o, qz0p, qz0q, qz0r, qz0s, qz0t, qz0u, qz0v, qz0w, qz0x, qz0y, qz0z, qz10, qz11, qz12, qz13, qz14, qz15, qz16, qz17, qz18, qz19, qz1a, qz1b, qz1c, qz1d, qz1e, qz1f, qz1g, qz1h, qz1i, qz1j, qz1k, qz1l, qz1m, qz1n, qz1o, qz1p, qz1q, qz1r, qz1s, qz1t, qz1u, qz1v, qz1w, qz1x, qz1y, qz1z, qz20, qz21, qz22, qz23, qz24, qz25, qz26, qz27, qz28, qz29, qz2a, qz2b, qz2c, qz2d, qz2e, qz2f, qz2g, qz2h, qz2i, qz2j, qz2k, qz2l, qz2m, qz2n, qz2o, qz2p, qz2q, qz2r, qz2s, qz2t, qz2u, qz2v, qz2w, qz2x, qz2y, qz2z, qz30, qz31, qz32, qz33, qz34, qz35, qz36, qz37, qz38, qz39, qz3a, qz3b, qz3c, qz3d, Bool.not_true, Bool.not_false, List.cons_append, List.nil_append, List.append_nil]
          exact hK st.nx s.bare ⟨ks.nx, rfl, ks.keep⟩ (Nat.le_refl _) ⟨ns, by show 0 + (n1 + n2) ≤ rlen s.h st.nx; omega, fun i hi => by rw [Nat.zero_add]; exact vs i hi⟩
      · have e0 : len2 n1 n2 0 = 0 := by simp [len2]
        refine ⟨0, by omega, rfl, k1, by omega, l1, fun i hi => by rw [e0] at hi; exact absurd hi (Nat.not_lt_zero _), ?_⟩
        rw [e0]
        simp (disch := decide) only [z0, z1, h_here, h_skip, true_and, and_true]
  · refine ⟨0, by omega, rfl, rfl, ?_⟩
    have e0 : len2 n1 n2 0 = 0 := by simp [len2]
    rw [e0]
    simp (disch := decide) only [z0, z1, h_here, h_skip, true_and, and_true]
end Go.Sy
end

section
set_option maxRecDepth 100000
namespace Go.Sy
open Go.Ev Go.Proofs
variable {base : CallF}
theorem known_ok (hb : ∀ f args st, f ∈ [28, 43, 56, 64] → base f args st = .no) {g p q m : Nat} {ex : Bool} {G : Gr} {bl b1 o1 n1 c1 b2 o2 n2 c2 : Nat} {x1 x2 : Bool} {a1 a2 : Nat → Nat} (st : Ev.St) (hG : GM st.h st.nx g p q m ex G) (hN : G.parts.length ≤ 1048576) (h1 : 0 < n1) (h1' : n1 ≤ 32) (h2 : 0 < n2) (h2' : n2 ≤ 32)
    (hl : rlen st.h bl = 2) (hl1 : bl < st.nx) (hr0 : rat st.h bl 0 = .slice b1 o1 n1 c1 1 x1) (hr1 : rat st.h bl 1 = .slice b2 o2 n2 c2 1 x2) (hR1 : Row st b1 o1 n1 a1) (hR2 : Row st b2 o2 n2 a2) (ha1 : ∀ i, i < n1 → G.has (a1 i)) (ha2 : ∀ i, i < n2 → G.has (a2 i)) (K : AV → Ev.St → Prop)
    (hK : ∀ st', Ext st st' → K (.int .i64 0) st') : CW Try.prog base 43 [.ptr g 0, .slice bl 0 2 2 1 true] st K := by
  refine fn_rule l43 (hb _ _ _ (by simp)) ?_
  simp only [c43, entry, List.map_cons, List.map_nil, List.getD_cons_zero, List.getD_cons_succ]
  unfold b43
  simp (disch := first | assumption | decide | omega) only [qz3e, qz3f, qz3g, qz3h, qz3i, qz3j, qz00, qz01, qz02, qz03, qz04, qz05, qz06, qz07, qz08, qz09, qz0a, qz0b, qz0c, qz0d, qz0e, qz0f, qz0g, qz0h, qz0i, qz0j, qz0k, qz0l, qz0m, qz0n, qz0o, qz0p, qz0q, qz0r, qz0s, qz0t, qz0u, qz0v, qz0w, qz0x, qz0y, qz0z, qz10, qz11, qz12, qz13, qz14, qz15, qz16, qz17, qz18, qz19, qz1a, qz1b, qz1c, qz1d, qz1e, qz1f, qz1g, qz1h, qz1i, qz1j, qz1k, qz1l, qz1m, qz1n, qz1o, qz1p, qz1q, qz1r, qz1s, qz1t, qz1u, qz1v, qz1w, qz1x, qz1y, qz1z, qz20, qz21, qz22, qz23, qz24, qz25, qz26, qz27, qz28, qz29, qz2a, qz2b, qz2c, qz2d, qz2e, qz2f, qz2g, qz2h, qz2i, qz2j, qz2k, qz2l, qz2m, qz2n, qz2o, qz2p, qz2q, qz2r, qz2s, qz2t, qz2u, qz2v, qz2w, qz2x, qz2y, qz2z, qz30, qz31, qz32, qz33, qz34, qz35, qz36, qz37, qz38, qz39, qz3a, qz3b, qz3c, qz3d, Bool.not_true, Bool.not_false, List.cons_append, List.nil_append, List.append_nil]
  refine Concat_ok (fun f a s hf => hb _ a s (by rcases hf with rfl | rfl <;> simp)) st.bare h1 h1' h2 h2' hl hl1 hr0 hr1 hR1 hR2 _ fun bo s1 e1 hbo R => ?_
  have k1 : Kept st.bare (back st.bare s1) := ⟨e1.nx, rfl, e1.keep⟩
  have R1 : Row (back st.bare s1) bo 0 (n1 + n2) (cat2 n1 a1 a2) := R
  generalize back st.bare s1 = t at k1 R1
  have Gt : GM t.h t.nx g p q m ex G := hG.keep k1.keep k1.nx
  have hall : ∀ i, i < n1 + n2 → G.has (cat2 n1 a1 a2 i) := fun i hi => by
    unfold cat2
    split
    · exact ha1 i (by assumption)
    · exact ha2 _ (by omega)
  simp (disch := first | assumption | decide | omega) only [qz3e, qz3f, qz3g, qz3h, qz3i, qz3j, qz00, qz01, qz02, qz03, qz04, qz05, qz06, qz07, qz08, qz09, qz0a, qz0b, qz0c, qz0d, qz0e, qz0f, qz0g, qz0h, qz0i, qz0j, qz0k, qz0l, qz0m, qz0n, qz0o, qz0p, qz0q, qz0r, qz0s, qz0t, qz0u, qz0v, qz0w, qz0x, qz0y, qz0z, qz10, qz11, qz12, qz13, qz14, qz15, qz16, qz17, qz18, qz19, qz1a, qz1b, qz1c, qz1d, qz1e, qz1f, qz1g, qz1h, qz1i, qz1j, qz1k, qz1l, qz1m, qz1n, qz1o, qz1p, qz1q, qz1r, qz1s, qz1t, qz1u, qz1v, qz1w, qz1x, qz1y, qz1z, qz20, qz21, qz22, qz23, qz24, qz25, qz26, qz27, qz28, qz29, qz2a, qz2b, qz2c, qz2d, qz2e, qz2f, qz2g, qz2h, qz2i, qz2j, qz2k, qz2l, qz2m, qz2n, qz2o, qz2p, qz2q, qz2r, qz2s, qz2t, qz2u, qz2v, qz2w, qz2x, qz2y, qz2z, qz30, qz31, qz32, qz33, qz34, qz35, qz36, qz37, qz38, qz39, qz3a, qz3b, qz3c, qz3d, Bool.not_true, Bool.not_false, List.cons_append, List.nil_append, List.append_nil]
  refine wC_loopH (fun mm L s => ∃ k : Nat, k ≤ n1 + n2 ∧ mm = (n1 + n2) - k ∧ s = t ∧ Has L 0 (.ptr g 0) ∧ Has L 8 (.slice bo 0 (n1 + n2) (n1 + n2) 1 false) ∧ Has L 9 (.int .i64 ((n1 + n2 : Nat) : Int)) ∧ Has L 10 (.int .i64 (k : Int))) ?_ (n1 + n2) ?_
  · rintro mm L s ⟨k, hk, rfl, rfl, i0, i8, i9, i10⟩
    unfold Hold
    by_cases hkn : k < n1 + n2
    · have hh : cat2 n1 a1 a2 k / 2 < G.parts.length := hall k hkn
      have e1 : 0 + k * 1 < rlen s.h bo := by have := R1.2.1; omega
      have e2 : rat s.h bo (0 + k * 1) = .int .u32 (cat2 n1 a1 a2 k : Int) := by rw [Nat.mul_one]; exact R1.2.2 k hkn
      have e3 : cat2 n1 a1 a2 k ≤ 4294967295 := by omega
      have e4 : cat2 n1 a1 a2 k / 2 ≤ 4294967295 := by omega
      have e5 : ((cat2 n1 a1 a2 k / 2 : Nat) : Int) < (G.parts.length : Int) := by omega
      have e6 : (k : Int) < ((n1 + n2 : Nat) : Int) := by omega
      simp (disch := first | assumption | decide | omega) only [qz3e, qz3f, qz3g, qz3h, qz3i, qz3j, r_onh i0, r_onh i8, r_onh i9, r_onh i10, e2, qz00, qz01, qz02, qz03, qz04, qz05, qz06, qz07, qz08, qz09, qz0a, qz0b, qz0c, qz0d, qz0e, qz0f, qz0g, qz0h, qz0i, qz0j, qz0k, qz0l, qz0m, qz0n, qz0o, qz0p, qz0q, qz0r, qz0s, qz0t, qz0u, qz0v, qz0w, qz0x, qz0y, qz0z, qz10, qz11, qz12, qz13, qz14, qz15, qz16, qz17, qz18, qz19, qz1a, qz1b, qz1c, qz1d, qz1e, qz1f, qz1g, qz1h, qz1i, qz1j, qz1k, qz1l, qz1m, qz1n, qz1o, qz1p, qz1q, qz1r, qz1s, qz1t, qz1u, qz1v, qz1w, qz1x, qz1y, qz1z, qz20, qz21, qz22, qz23, qz24, qz25, qz26, qz27, qz28, qz29, qz2a, qz2b, qz2c, qz2d, qz2e, qz2f, qz2g, qz2h, qz2i, qz2j, qz2k, qz2l, qz2m, qz2n, qz2o, qz2p, qz2q, qz2r, qz2s, qz2t, qz2u, qz2v, qz2w, qz2x, qz2y, qz2z, qz30, qz31, qz32, qz33, qz34, qz35, qz36, qz37, qz38, qz39, qz3a, qz3b, qz3c, qz3d, Bool.not_true, Bool.not_false, List.cons_append, List.nil_append, List.append_nil]
      refine Len_ok (fun a s => hb _ a s (by simp)) s Gt _ ?_
      simp (disch := first | assumption | decide | omega) only [qz3e, qz3f, qz3g, qz3h, qz3i, qz3j, r_onh i0, r_onh i8, r_onh i9, r_onh i10, v_addN, qz00, qz01, qz02, qz03, qz04, qz05, qz06, qz07, qz08, qz09, qz0a, qz0b, qz0c, qz0d, qz0e, qz0f, qz0g, qz0h, qz0i, qz0j, qz0k, qz0l, qz0m, qz0n, qz0o, qz0p, qz0q, qz0r, qz0s, qz0t, qz0u, qz0v, qz0w, qz0x, qz0y, qz0z, qz10, qz11, qz12, qz13, qz14, qz15, qz16, qz17, qz18, qz19, qz1a, qz1b, qz1c, qz1d, qz1e, qz1f, qz1g, qz1h, qz1i, qz1j, qz1k, qz1l, qz1m, qz1n, qz1o, qz1p, qz1q, qz1r, qz1s, qz1t, qz1u, qz1v, qz1w, qz1x, qz1y, qz1z, qz20, qz21, qz22, qz23, qz24, qz25, qz26, qz27, qz28, qz29, qz2a, qz2b, qz2c, qz2d, qz2e, qz2f, qz2g, qz2h, qz2i, qz2j, qz2k, qz2l, qz2m, qz2n, qz2o, qz2p, qz2q, qz2r, qz2s, qz2t, qz2u, qz2v, qz2w, qz2x, qz2y, qz2z, qz30, qz31, qz32, qz33, qz34, qz35, qz36, qz37, qz38, qz39, qz3a, qz3b, qz3c, qz3d, Bool.not_true, Bool.not_false, List.cons_append, List.nil_append, List.append_nil]
      refine ⟨(n1 + n2) - (k + 1), by omega, k + 1, by omega, rfl, ?_⟩
      simp (disch := decide) only [z0, z1, h_here, h_skip, i0, i8, i9, true_and, and_true]
    · have e6 : ((n1 + n2 : Nat) : Int) ≤ (k : Int) := by omega
      simp (disch := first | assumption | decide | omega) only [qz3e, qz3f, qz3g, qz3h, qz3i, qz3j, r_onh i0, r_onh i8, r_onh i9, r_onh i10, qz00, qz01, qz02, qz03, qz04, qz05, qz06, qz07, qz08, qz09, qz0a, qz0b, qz0c, qz0d, qz0e, qz0f, qz0g, qz0h, qz0i, qz0j, qz0k, qz0l, qz0m, qz0n, qz0o, qz0p, qz0q, qz0r, qz0s, qz0t, qz0u, qz0v, qz0w, qz0x, qz0y, qz0z, qz10, qz11, qz12, qz13, qz14, qz15, qz16, qz17, qz18, qz19, qz1a, qz1b, qz1c, qz1d, qz1e, qz1f, qz1g, qz1h, qz1i, qz1j, qz1k, qz1l, qz1m, qz1n, qz1o, qz1p, qz1q, qz1r, qz1s, qz1t, qz1u, qz1v, qz1w, qz1x, qz1y, qz1z, qz20, qz21, qz22, qz23, qz24, qz25, qz26, qz27, qz28, qz29, qz2a, qz2b, qz2c, qz2d, qz2e, qz2f, qz2g, qz2h, qz2i, qz2j, qz2k, qz2l, qz2m, qz2n, qz2o, qz2p, qz2q, qz2r, qz2s, qz2t, qz2u, qz2v, qz2w, qz2x, qz2y, qz2z, qz30, qz31, qz32, qz33, qz34, qz35, qz36, qz37, qz38, qz39, qz3a, qz3b, qz3c, qz3d, Bool.not_true, Bool.not_false, List.cons_append, List.nil_append, List.append_nil]
      exact hK s.bare ⟨k1.nx, rfl, k1.keep⟩
  · refine ⟨0, by omega, rfl, rfl, ?_⟩
    simp (disch := decide) only [z0, z1, h_here, h_skip, true_and, and_true]
end Go.Sy
end

section
set_option maxRecDepth 100000
namespace Go.Sy
open Go.Ev Go.Proofs
variable {base : CallF}
theorem right2_ok (hb : ∀ f args st, f ∈ [33, 49, 50, 62] → base f args st = .no) {bl b1 o1 n1 c1 b2 o2 n2 c2 : Nat} {x1 x2 : Bool} (h1 : 1 ≤ n1) (h1' : n1 ≤ 32) (h2 : 1 ≤ n2) (h2' : n2 ≤ 32) (st : Ev.St) (hl : rlen st.h bl = 2) (hr0 : rat st.h bl 0 = .slice b1 o1 n1 c1 1 x1) (hr1 : rat st.h bl 1 = .slice b2 o2 n2 c2 1 x2) (K : AV → Ev.St → Prop) (hK : K (.bool true) st.bare) : CW Try.prog base 33 [.slice bl 0 2 2 1 true] st K := by
  refine fn_rule l33 (hb _ _ _ (by simp)) ?_
  simp only [c33, entry, List.map_cons, List.map_nil, List.getD_cons_zero, List.getD_cons_succ]
  unfold b33
  simp (disch := first | assumption | decide | omega) only [qz00, qz01, qz02, qz03, qz04, qz05, qz06, qz07, qz08, qz09, qz0a, qz0b, qz0c, qz0d, qz0e, qz0f, qz0g, qz0h, qz0i, qz0j, qz0k, qz0l, qz0m, qz0n, qz0o, qz0p, qz0q, qz0r, qz0s, qz0t, qz0u, qz0v, qz0w, qz0x, qz0y, qz0z, qz10, qz11, qz12, qz13, qz14, qz15, qz16, qz17, qz18, qz19, qz1a, qz1b, qz1c, qz1d, qz1e, qz1f, qz1g, qz1h, qz1i, qz1j, qz1k, qz1l, qz1m, qz1n, qz1o, qz1p, qz1q, qz1r, qz1s, qz1t, qz1u, qz1v, qz1w, qz1x, qz1y, qz1z, qz20, qz21, qz22, qz23, qz24, qz25, qz26, qz27, qz28, qz29, qz2a, qz2b, qz2c, qz2d, qz2e, qz2f, qz2g, qz2h, qz2i, qz2j, qz2k, qz2l, qz2m, qz2n, qz2o, qz2p, qz2q, qz2r, qz2s, qz2t, qz2u, qz2v, qz2w, qz2x, qz2y, qz2z, qz30, qz31, qz32, qz33, qz34, qz35, qz36, qz37, qz38, qz39, qz3a, qz3b, qz3c, qz3d, Bool.not_true, Bool.not_false, List.cons_append, List.nil_append, List.append_nil]
  refine contains49_ok (fun f a s hf => hb _ a s (by rcases hf with rfl | rfl <;> simp)) 50 [] st.bare (by decide) ?_ ?_ _ ?_
  · show 0 + 2 ≤ rlen st.h bl
    omega
  · intro i hi K2 hk2
    have : i = 0 ∨ i = 1 := by omega
    rcases this with rfl | rfl
    · have e : rat (Ev.St.bare st).h bl (0 + 0) = .slice b1 o1 n1 c1 1 x1 := hr0
      rw [e]
      exact right1_ok (fun a s => hb _ a s (by simp)) h1 h1' _ _ hk2
    · have e : rat (Ev.St.bare st).h bl (0 + 1) = .slice b2 o2 n2 c2 1 x2 := hr1
      rw [e]
      exact right1_ok (fun a s => hb _ a s (by simp)) h2 h2' _ _ hk2
  · simp (disch := first | assumption | decide | omega) only [qz00, qz01, qz02, qz03, qz04, qz05, qz06, qz07, qz08, qz09, qz0a, qz0b, qz0c, qz0d, qz0e, qz0f, qz0g, qz0h, qz0i, qz0j, qz0k, qz0l, qz0m, qz0n, qz0o, qz0p, qz0q, qz0r, qz0s, qz0t, qz0u, qz0v, qz0w, qz0x, qz0y, qz0z, qz10, qz11, qz12, qz13, qz14, qz15, qz16, qz17, qz18, qz19, qz1a, qz1b, qz1c, qz1d, qz1e, qz1f, qz1g, qz1h, qz1i, qz1j, qz1k, qz1l, qz1m, qz1n, qz1o, qz1p, qz1q, qz1r, qz1s, qz1t, qz1u, qz1v, qz1w, qz1x, qz1y, qz1z, qz20, qz21, qz22, qz23, qz24, qz25, qz26, qz27, qz28, qz29, qz2a, qz2b, qz2c, qz2d, qz2e, qz2f, qz2g, qz2h, qz2i, qz2j, qz2k, qz2l, qz2m, qz2n, qz2o, qz2p, qz2q, qz2r, qz2s, qz2t, qz2u, qz2v, qz2w, qz2x, qz2y, qz2z, qz30, qz31, qz32, qz33, qz34, qz35, qz36, qz37, qz38, qz39, qz3a, qz3b, qz3c, qz3d, Bool.not_true, Bool.not_false, List.cons_append, List.nil_append, List.append_nil]
    exact hK
end Go.Sy
end

section
set_option maxRecDepth 100000
namespace Go.Sy
open Go.Ev Go.Proofs
variable {base : CallF}
theorem v_max3 (a b : Nat) (st : Ev.St) (K : AV → Ev.St → Prop) : onER (biV Try.prog .max #[3, 3] (.int .i64 (a : Int)) (.int .i64 (b : Int)) st) K = K (.int .i64 ((max a b : Nat) : Int)) st := by
  have h : biV Try.prog .max #[3, 3] (.int .i64 (a : Int)) (.int .i64 (b : Int)) st = onSome (max2 (.int .i64 (a : Int)) (.int .i64 (b : Int))) fun v => .ok v st := by kernel_rfl
  rw [h]
  have e : max2 (.int .i64 (a : Int)) (.int .i64 (b : Int)) = some (.int .i64 ((max a b : Nat) : Int)) := by
    show cond (eqK .i64 .i64) (some (AV.int .i64 (cond (Nat.ble (Nat.succ a) b) (b : Int) (a : Int)))) none = _
    rw [eqK_self, cond_true]
    by_cases hb : a < b
    · rw [ble_t hb, Nat.max_eq_right (by omega)]; rfl
    · rw [ble_f (by omega), Nat.max_eq_left (by omega)]; rfl
  rw [e]; rfl
/-- the same bits, and the last one again and again -/
def wide (n : Nat) (a : Nat → Nat) (i : Nat) : Nat := if i < n then a i else a (n - 1)
theorem Row.wide {s : Ev.St} {b o n : Nat} {a : Nat → Nat} (k : Row s b o n a) : Row s b o n (wide n a) :=
  ⟨k.1, k.2.1, fun i hi => by unfold Go.Sy.wide; rw [if_pos hi]; exact k.2.2 i hi⟩
theorem wide_last {n : Nat} (hn : 1 ≤ n) (a : Nat → Nat) : ∀ i, n ≤ i → wide n a i = wide n a (n - 1) := fun i hi => by
  unfold wide
  rw [if_neg (by omega), if_pos (by omega)]
end Go.Sy
end

section
set_option maxRecDepth 100000
namespace Go.Sy
open Go.Ev Go.Proofs
variable {base : CallF}
theorem rowOf2 {s s' : Ev.St} {u v : AV} (h : Made s s' 2 (fun i => [u, v].getD i .bad)) : rlen s'.h s.nx = 2 ∧ rat s'.h s.nx 0 = u ∧ rat s'.h s.nx 1 = v := ⟨h.len, h.cell 0 (by decide), h.cell 1 (by decide)⟩
theorem same_ok (hb : ∀ f args st, f ∈ [18, 28, 33, 34, 35, 43, 49, 50, 56, 62, 64] → base f args st = .no) {g p q m : Nat} {ex : Bool} {G : Gr} {b1 o1 n1 c1 b2 o2 n2 c2 more : Nat} {x1 x2 : Bool} {a1 a2 : Nat → Nat} (st : Ev.St) (hG : GM st.h st.nx g p q m ex G) (hN : G.parts.length ≤ 1048576) (h1 : 1 ≤ n1) (h2 : 1 ≤ n2) (hw : max n1 n2 + more ≤ 32)
    (hR1 : Row st b1 o1 n1 a1) (hR2 : Row st b2 o2 n2 a2) (ha1 : ∀ i, i < n1 → G.has (a1 i)) (ha2 : ∀ i, i < n2 → G.has (a2 i)) (K : AV → Ev.St → Prop)
    (hK : ∀ d1 d2 st', Ext st st' → st.nx ≤ d1 → st.nx ≤ d2 → d1 ≠ d2 → Row st' d1 0 (max n1 n2 + more) (wide n1 a1) → Row st' d2 0 (max n1 n2 + more) (wide n2 a2) → K (.tup [.slice d1 0 (max n1 n2 + more) (max n1 n2 + more) 1 false, .slice d2 0 (max n1 n2 + more) (max n1 n2 + more) 1 false, .int .i64 0]) st') :
    CW Try.prog base 35 [.ptr g 0, .slice b1 o1 n1 c1 1 x1, .slice b2 o2 n2 c2 1 x2, .int .i64 (more : Int)] st K := by
  refine fn_rule l35 (hb _ _ _ (by simp)) ?_
  simp only [c35, entry, List.map_cons, List.map_nil, List.getD_cons_zero, List.getD_cons_succ]
  unfold b35
  have q1 : n1 ≤ max n1 n2 := Nat.le_max_left _ _
  have q2 : n2 ≤ max n1 n2 := Nat.le_max_right _ _
  have eA : ∀ (s : Ev.St) (K : AV → Ev.St → Prop), onER (binV .add (.int .i64 ((max n1 n2 : Nat) : Int)) (.int .i64 (more : Int)) s) K = K (.int .i64 ((max n1 n2 + more : Nat) : Int)) s := fun s K => by
    rw [v_add (by omega) (by omega)]; rfl
  have e1 : ((max n1 n2 + more : Nat) : Int) ≤ 32 := by omega
  simp (disch := first | assumption | decide | omega) only [qz3e, qz3f, qz3g, qz3h, qz3i, qz3j, v_max3, eA, i_buildS2, qz00, qz01, qz02, qz03, qz04, qz05, qz06, qz07, qz08, qz09, qz0a, qz0b, qz0c, qz0d, qz0e, qz0f, qz0g, qz0h, qz0i, qz0j, qz0k, qz0l, qz0m, qz0n, qz0o, qz0p, qz0q, qz0r, qz0s, qz0t, qz0u, qz0v, qz0w, qz0x, qz0y, qz0z, qz10, qz11, qz12, qz13, qz14, qz15, qz16, qz17, qz18, qz19, qz1a, qz1b, qz1c, qz1d, qz1e, qz1f, qz1g, qz1h, qz1i, qz1j, qz1k, qz1l, qz1m, qz1n, qz1o, qz1p, qz1q, qz1r, qz1s, qz1t, qz1u, qz1v, qz1w, qz1x, qz1y, qz1z, qz20, qz21, qz22, qz23, qz24, qz25, qz26, qz27, qz28, qz29, qz2a, qz2b, qz2c, qz2d, qz2e, qz2f, qz2g, qz2h, qz2i, qz2j, qz2k, qz2l, qz2m, qz2n, qz2o, qz2p, qz2q, qz2r, qz2s, qz2t, qz2u, qz2v, qz2w, qz2x, qz2y, qz2z, qz30, qz31, qz32, qz33, qz34, qz35, qz36, qz37, qz38, qz39, qz3a, qz3b, qz3c, qz3d, Bool.not_true, Bool.not_false, List.cons_append, List.nil_append, List.append_nil]
  refine o_buildS2 ⟨rfl, rfl, rfl⟩ ⟨rfl, rfl, rfl⟩ fun s1 m1 => ?_
  have k1 : Kept st.bare s1 := (Kept.refl _).made m1
  obtain ⟨r0, r1, r2⟩ := rowOf2 m1
  simp (disch := first | assumption | decide | omega) only [qz3e, qz3f, qz3g, qz3h, qz3i, qz3j, qz00, qz01, qz02, qz03, qz04, qz05, qz06, qz07, qz08, qz09, qz0a, qz0b, qz0c, qz0d, qz0e, qz0f, qz0g, qz0h, qz0i, qz0j, qz0k, qz0l, qz0m, qz0n, qz0o, qz0p, qz0q, qz0r, qz0s, qz0t, qz0u, qz0v, qz0w, qz0x, qz0y, qz0z, qz10, qz11, qz12, qz13, qz14, qz15, qz16, qz17, qz18, qz19, qz1a, qz1b, qz1c, qz1d, qz1e, qz1f, qz1g, qz1h, qz1i, qz1j, qz1k, qz1l, qz1m, qz1n, qz1o, qz1p, qz1q, qz1r, qz1s, qz1t, qz1u, qz1v, qz1w, qz1x, qz1y, qz1z, qz20, qz21, qz22, qz23, qz24, qz25, qz26, qz27, qz28, qz29, qz2a, qz2b, qz2c, qz2d, qz2e, qz2f, qz2g, qz2h, qz2i, qz2j, qz2k, qz2l, qz2m, qz2n, qz2o, qz2p, qz2q, qz2r, qz2s, qz2t, qz2u, qz2v, qz2w, qz2x, qz2y, qz2z, qz30, qz31, qz32, qz33, qz34, qz35, qz36, qz37, qz38, qz39, qz3a, qz3b, qz3c, qz3d, Bool.not_true, Bool.not_false, List.cons_append, List.nil_append, List.append_nil]
  refine right2_ok (fun f a s hf => hb _ a s (by simp at hf ⊢; rcases hf with h | h | h | h <;> simp [h])) h1 (by omega) h2 (by omega) s1 r0 r1 r2 _ ?_
  simp (disch := first | assumption | decide | omega) only [qz3e, qz3f, qz3g, qz3h, qz3i, qz3j, i_buildS2, qz00, qz01, qz02, qz03, qz04, qz05, qz06, qz07, qz08, qz09, qz0a, qz0b, qz0c, qz0d, qz0e, qz0f, qz0g, qz0h, qz0i, qz0j, qz0k, qz0l, qz0m, qz0n, qz0o, qz0p, qz0q, qz0r, qz0s, qz0t, qz0u, qz0v, qz0w, qz0x, qz0y, qz0z, qz10, qz11, qz12, qz13, qz14, qz15, qz16, qz17, qz18, qz19, qz1a, qz1b, qz1c, qz1d, qz1e, qz1f, qz1g, qz1h, qz1i, qz1j, qz1k, qz1l, qz1m, qz1n, qz1o, qz1p, qz1q, qz1r, qz1s, qz1t, qz1u, qz1v, qz1w, qz1x, qz1y, qz1z, qz20, qz21, qz22, qz23, qz24, qz25, qz26, qz27, qz28, qz29, qz2a, qz2b, qz2c, qz2d, qz2e, qz2f, qz2g, qz2h, qz2i, qz2j, qz2k, qz2l, qz2m, qz2n, qz2o, qz2p, qz2q, qz2r, qz2s, qz2t, qz2u, qz2v, qz2w, qz2x, qz2y, qz2z, qz30, qz31, qz32, qz33, qz34, qz35, qz36, qz37, qz38, qz39, qz3a, qz3b, qz3c, qz3d, Bool.not_true, Bool.not_false, List.cons_append, List.nil_append, List.append_nil]
  refine o_buildS2 ⟨rfl, rfl, rfl⟩ ⟨rfl, rfl, rfl⟩ fun s2 m2 => ?_
  have k2 := k1.made m2
  obtain ⟨t0, t1, t2⟩ := rowOf2 m2
  simp (disch := first | assumption | decide | omega) only [qz3e, qz3f, qz3g, qz3h, qz3i, qz3j, qz00, qz01, qz02, qz03, qz04, qz05, qz06, qz07, qz08, qz09, qz0a, qz0b, qz0c, qz0d, qz0e, qz0f, qz0g, qz0h, qz0i, qz0j, qz0k, qz0l, qz0m, qz0n, qz0o, qz0p, qz0q, qz0r, qz0s, qz0t, qz0u, qz0v, qz0w, qz0x, qz0y, qz0z, qz10, qz11, qz12, qz13, qz14, qz15, qz16, qz17, qz18, qz19, qz1a, qz1b, qz1c, qz1d, qz1e, qz1f, qz1g, qz1h, qz1i, qz1j, qz1k, qz1l, qz1m, qz1n, qz1o, qz1p, qz1q, qz1r, qz1s, qz1t, qz1u, qz1v, qz1w, qz1x, qz1y, qz1z, qz20, qz21, qz22, qz23, qz24, qz25, qz26, qz27, qz28, qz29, qz2a, qz2b, qz2c, qz2d, qz2e, qz2f, qz2g, qz2h, qz2i, qz2j, qz2k, qz2l, qz2m, qz2n, qz2o, qz2p, qz2q, qz2r, qz2s, qz2t, qz2u, qz2v, qz2w, qz2x, qz2y, qz2z, qz30, qz31, qz32, qz33, qz34, qz35, qz36, qz37, qz38, qz39, qz3a, qz3b, qz3c, qz3d, Bool.not_true, Bool.not_false, List.cons_append, List.nil_append, List.append_nil]
  refine known_ok (fun f a s hf => hb _ a s (by simp at hf ⊢; rcases hf with h | h | h | h <;> simp [h])) s2 (hG.keep k2.keep k2.nx) hN (by omega) (by omega) (by omega) (by omega) t0 (by have := m2.nx; omega) t1 t2 (Row.keep hR1 k2.keep k2.nx) (Row.keep hR2 k2.keep k2.nx) ha1 ha2 _ fun s3 e3 => ?_
  have k3 : Kept st.bare (back s2 s3) := k2.trans ⟨e3.nx, rfl, e3.keep⟩
  generalize back s2 s3 = u at k3
  have hbW : ∀ f args st, f ∈ [18, 33, 34, 49, 50, 62] → base f args st = .no := fun f a s hf => hb _ a s (by simp at hf ⊢; rcases hf with h | h | h | h | h | h <;> simp [h])
  simp (disch := first | assumption | decide | omega) only [qz3e, qz3f, qz3g, qz3h, qz3i, qz3j, qz00, qz01, qz02, qz03, qz04, qz05, qz06, qz07, qz08, qz09, qz0a, qz0b, qz0c, qz0d, qz0e, qz0f, qz0g, qz0h, qz0i, qz0j, qz0k, qz0l, qz0m, qz0n, qz0o, qz0p, qz0q, qz0r, qz0s, qz0t, qz0u, qz0v, qz0w, qz0x, qz0y, qz0z, qz10, qz11, qz12, qz13, qz14, qz15, qz16, qz17, qz18, qz19, qz1a, qz1b, qz1c, qz1d, qz1e, qz1f, qz1g, qz1h, qz1i, qz1j, qz1k, qz1l, qz1m, qz1n, qz1o, qz1p, qz1q, qz1r, qz1s, qz1t, qz1u, qz1v, qz1w, qz1x, qz1y, qz1z, qz20, qz21, qz22, qz23, qz24, qz25, qz26, qz27, qz28, qz29, qz2a, qz2b, qz2c, qz2d, qz2e, qz2f, qz2g, qz2h, qz2i, qz2j, qz2k, qz2l, qz2m, qz2n, qz2o, qz2p, qz2q, qz2r, qz2s, qz2t, qz2u, qz2v, qz2w, qz2x, qz2y, qz2z, qz30, qz31, qz32, qz33, qz34, qz35, qz36, qz37, qz38, qz39, qz3a, qz3b, qz3c, qz3d, Bool.not_true, Bool.not_false, List.cons_append, List.nil_append, List.append_nil]
  refine WidenG_ok hbW h1 (by omega) _ u (Row.wide (Row.keep hR1 k3.keep k3.nx)) (wide_last h1 a1) _ (fun h => by omega) fun w hww _ _ d1 s4 e4 hd1 R4 => ?_
  have ew : w = max n1 n2 + more := by omega
  subst ew
  have k4 : Kept u (back u s4) := ⟨e4.nx, rfl, e4.keep⟩
  have R4' : Row (back u s4) d1 0 (max n1 n2 + more) (wide n1 a1) := R4
  generalize back u s4 = v at k4 R4'
  have k34 := k3.trans k4
  simp (disch := first | assumption | decide | omega) only [qz3e, qz3f, qz3g, qz3h, qz3i, qz3j, qz00, qz01, qz02, qz03, qz04, qz05, qz06, qz07, qz08, qz09, qz0a, qz0b, qz0c, qz0d, qz0e, qz0f, qz0g, qz0h, qz0i, qz0j, qz0k, qz0l, qz0m, qz0n, qz0o, qz0p, qz0q, qz0r, qz0s, qz0t, qz0u, qz0v, qz0w, qz0x, qz0y, qz0z, qz10, qz11, qz12, qz13, qz14, qz15, qz16, qz17, qz18, qz19, qz1a, qz1b, qz1c, qz1d, qz1e, qz1f, qz1g, qz1h, qz1i, qz1j, qz1k, qz1l, qz1m, qz1n, qz1o, qz1p, qz1q, qz1r, qz1s, qz1t, qz1u, qz1v, qz1w, qz1x, qz1y, qz1z, qz20, qz21, qz22, qz23, qz24, qz25, qz26, qz27, qz28, qz29, qz2a, qz2b, qz2c, qz2d, qz2e, qz2f, qz2g, qz2h, qz2i, qz2j, qz2k, qz2l, qz2m, qz2n, qz2o, qz2p, qz2q, qz2r, qz2s, qz2t, qz2u, qz2v, qz2w, qz2x, qz2y, qz2z, qz30, qz31, qz32, qz33, qz34, qz35, qz36, qz37, qz38, qz39, qz3a, qz3b, qz3c, qz3d, Bool.not_true, Bool.not_false, List.cons_append, List.nil_append, List.append_nil]
  refine WidenG_ok hbW h2 (by omega) _ v (Row.wide (Row.keep hR2 k34.keep k34.nx)) (wide_last h2 a2) _ (fun h => by omega) fun w hww _ _ d2 s5 e5 hd2 R5 => ?_
  have ew : w = max n1 n2 + more := by omega
  subst ew
  have k5 : Kept v (back v s5) := ⟨e5.nx, rfl, e5.keep⟩
  have R5' : Row (back v s5) d2 0 (max n1 n2 + more) (wide n2 a2) := R5
  have k35 := k34.trans k5
  generalize back v s5 = y at k5 R5' k35
  simp (disch := first | assumption | decide | omega) only [qz3e, qz3f, qz3g, qz3h, qz3i, qz3j, qz00, qz01, qz02, qz03, qz04, qz05, qz06, qz07, qz08, qz09, qz0a, qz0b, qz0c, qz0d, qz0e, qz0f, qz0g, qz0h, qz0i, qz0j, qz0k, qz0l, qz0m, qz0n, qz0o, qz0p, qz0q, qz0r, qz0s, qz0t, qz0u, qz0v, qz0w, qz0x, qz0y, qz0z, qz10, qz11, qz12, qz13, qz14, qz15, qz16, qz17, qz18, qz19, qz1a, qz1b, qz1c, qz1d, qz1e, qz1f, qz1g, qz1h, qz1i, qz1j, qz1k, qz1l, qz1m, qz1n, qz1o, qz1p, qz1q, qz1r, qz1s, qz1t, qz1u, qz1v, qz1w, qz1x, qz1y, qz1z, qz20, qz21, qz22, qz23, qz24, qz25, qz26, qz27, qz28, qz29, qz2a, qz2b, qz2c, qz2d, qz2e, qz2f, qz2g, qz2h, qz2i, qz2j, qz2k, qz2l, qz2m, qz2n, qz2o, qz2p, qz2q, qz2r, qz2s, qz2t, qz2u, qz2v, qz2w, qz2x, qz2y, qz2z, qz30, qz31, qz32, qz33, qz34, qz35, qz36, qz37, qz38, qz39, qz3a, qz3b, qz3c, qz3d, Bool.not_true, Bool.not_false, List.cons_append, List.nil_append, List.append_nil]
  exact hK d1 d2 y.bare ⟨k35.nx, rfl, k35.keep⟩ (Nat.le_trans k3.nx hd1) (Nat.le_trans k34.nx hd2) (by have := R4'.1; omega) (Row.keep R4' k5.keep k5.nx) R5'
end Go.Sy
end
