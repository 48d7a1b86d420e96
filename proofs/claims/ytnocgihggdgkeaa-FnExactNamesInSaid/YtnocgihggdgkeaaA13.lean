/-
  Programs of calls: what the program's reader computes.
  Conditions: none.
-/
import Derived.Test.YtnocgihggdgkeaaA2
import Derived.Test.YtnocgihggdgkeaaA6
import Derived.Test.YtnocgihggdgkeaaPf
import Derived.Test.YtnocgihggdgkeaaVz
set_option linter.unusedSimpArgs false
set_option linter.unusedVariables false
set_option linter.defProp false
namespace Go.Proofs.Ytnocgihggdgkeaa
open Go Go.RowKit
def t_iisCall_1 : X := (.seq (.reg [2] [.q 3 [] (.mv (.t 0)), .q 4 [] (.bin .eql (.t 3) (.s [112])), .q 5 [] (.mv (.t 4)), .q 6 [(5, false)] (.mv (.t 0)), .q 7 [(5, false)] (.bin .eql (.t 6) (.s [98])), .q 8 [] (.pick (.t 5) (.c (.bool true)) (.t 7)), .q 9 [] (.mv (.t 8)), .q 10 [(9, false)] (.mv (.t 0)), .q 11 [(9, false)] (.bin .eql (.t 10) (.s [115])), .q 12 [] (.pick (.t 9) (.c (.bool true)) (.t 11)), .q 2 [] (.mv (.t 12))]) .ret)
theorem u_iisCall_1 (P : Program) (k : KT) (e : Env) (w : World) : vcK P t_iisCall_1 k e w = vcK P (.seq (.reg [2] [.q 3 [] (.mv (.t 0)), .q 4 [] (.bin .eql (.t 3) (.s [112])), .q 5 [] (.mv (.t 4)), .q 6 [(5, false)] (.mv (.t 0)), .q 7 [(5, false)] (.bin .eql (.t 6) (.s [98])), .q 8 [] (.pick (.t 5) (.c (.bool true)) (.t 7)), .q 9 [] (.mv (.t 8)), .q 10 [(9, false)] (.mv (.t 0)), .q 11 [(9, false)] (.bin .eql (.t 10) (.s [115])), .q 12 [] (.pick (.t 9) (.c (.bool true)) (.t 11)), .q 2 [] (.mv (.t 12))]) .ret) k e w := rfl
def x_iisCall : X := (.seq (.reg [0] [.q 2 [] (.mv (.c (.bool false)))]) t_iisCall_1)
theorem u_iisCall (P : Program) (k : KT) (e : Env) (w : World) : vcK P x_iisCall k e w = vcK P (.seq (.reg [0] [.q 2 [] (.mv (.c (.bool false)))]) t_iisCall_1) k e w := rfl
def r_iisCall : List XO := [(.mv (.t 2))]
theorem c_iisCall : convF Try.prog [95, 96, 97, 107, 117, 118, 128, 129, 134, 144, 145, 153, 156, 174, 175, 182] Try.f142 [([0], []), ([2], [])] = some (x_iisCall, r_iisCall) := by kernel_rfl
def us_iisCall := And.intro @u_iisCall @u_iisCall_1
def t_iareCalls_1 : X := (.cond (.t 15) (.seq (.reg [2] [.q 2 [] (.mv (.c (.bool false)))]) .ret) .skip)
theorem u_iareCalls_1 (P : Program) (k : KT) (e : Env) (w : World) : vcK P t_iareCalls_1 k e w = vcK P (.cond (.t 15) (.seq (.reg [2] [.q 2 [] (.mv (.c (.bool false)))]) .ret) .skip) k e w := rfl
def t_iareCalls_2 : X := (.seq (.reg [0, 5, 6, 15] [.q 9 [] (.mv (.t 0)), .q 10 [] (.mv (.t 3)), .q 11 [] (.mv (.t 3)), .q 12 [] (.bin .add (.t 11) (.c (.int .i64 1))), .q 13 [] (.sub (.t 9) (some (.t 10)) (some (.t 12))), .e (some 14) [] (.call false 142 [(.t 13)]), .q 15 [] (.not (.t 14))]) t_iareCalls_1)
theorem u_iareCalls_2 (P : Program) (k : KT) (e : Env) (w : World) : vcK P t_iareCalls_2 k e w = vcK P (.seq (.reg [0, 5, 6, 15] [.q 9 [] (.mv (.t 0)), .q 10 [] (.mv (.t 3)), .q 11 [] (.mv (.t 3)), .q 12 [] (.bin .add (.t 11) (.c (.int .i64 1))), .q 13 [] (.sub (.t 9) (some (.t 10)) (some (.t 12))), .e (some 14) [] (.call false 142 [(.t 13)]), .q 15 [] (.not (.t 14))]) t_iareCalls_1) k e w := rfl
def t_iareCalls_3 : X := (.reg [0, 5, 6] [.q 16 [] (.bin .add (.t 6) (.c (.int .i64 1))), .q 6 [] (.mv (.t 16))])
theorem u_iareCalls_3 (P : Program) (k : KT) (e : Env) (w : World) : vcK P t_iareCalls_3 k e w = vcK P (.reg [0, 5, 6] [.q 16 [] (.bin .add (.t 6) (.c (.int .i64 1))), .q 6 [] (.mv (.t 16))]) k e w := rfl
def t_iareCalls_4 : X := (.seq (.blk 1 (.seq (.reg [0, 3, 5, 6] [.q 8 [] (.mv (.t 6)), .q 3 [] (.mv (.t 8))]) t_iareCalls_2)) t_iareCalls_3)
theorem u_iareCalls_4 (P : Program) (k : KT) (e : Env) (w : World) : vcK P t_iareCalls_4 k e w = vcK P (.seq (.blk 1 (.seq (.reg [0, 3, 5, 6] [.q 8 [] (.mv (.t 6)), .q 3 [] (.mv (.t 8))]) t_iareCalls_2)) t_iareCalls_3) k e w := rfl
def t_iareCalls_5 : X := (.seq (.cond (.t 7) .skip (.exit 0)) t_iareCalls_4)
theorem u_iareCalls_5 (P : Program) (k : KT) (e : Env) (w : World) : vcK P t_iareCalls_5 k e w = vcK P (.seq (.cond (.t 7) .skip (.exit 0)) t_iareCalls_4) k e w := rfl
def t_iareCalls_6 : X := (.seq (.reg [0, 5, 6, 7] [.q 7 [] (.bin .lss (.t 6) (.t 5))]) t_iareCalls_5)
theorem u_iareCalls_6 (P : Program) (k : KT) (e : Env) (w : World) : vcK P t_iareCalls_6 k e w = vcK P (.seq (.reg [0, 5, 6, 7] [.q 7 [] (.bin .lss (.t 6) (.t 5))]) t_iareCalls_5) k e w := rfl
def t_iareCalls_7 : X := (.blk 0 (.loop [6] [0, 5] t_iareCalls_6))
theorem u_iareCalls_7 (P : Program) (k : KT) (e : Env) (w : World) : vcK P t_iareCalls_7 k e w = vcK P (.blk 0 (.loop [6] [0, 5] t_iareCalls_6)) k e w := rfl
def t_iareCalls_8 : X := (.seq (.reg [2] [.q 2 [] (.mv (.c (.bool true)))]) .ret)
theorem u_iareCalls_8 (P : Program) (k : KT) (e : Env) (w : World) : vcK P t_iareCalls_8 k e w = vcK P (.seq (.reg [2] [.q 2 [] (.mv (.c (.bool true)))]) .ret) k e w := rfl
def t_iareCalls_9 : X := (.seq (.seq (.reg [0, 5, 6] [.q 4 [] (.mv (.t 0)), .q 5 [] (.len (.t 4)), .q 6 [] (.mv (.c (.int .i64 0)))]) t_iareCalls_7) t_iareCalls_8)
theorem u_iareCalls_9 (P : Program) (k : KT) (e : Env) (w : World) : vcK P t_iareCalls_9 k e w = vcK P (.seq (.seq (.reg [0, 5, 6] [.q 4 [] (.mv (.t 0)), .q 5 [] (.len (.t 4)), .q 6 [] (.mv (.c (.int .i64 0)))]) t_iareCalls_7) t_iareCalls_8) k e w := rfl
def x_iareCalls : X := (.seq (.reg [0] [.q 2 [] (.mv (.c (.bool false)))]) t_iareCalls_9)
theorem u_iareCalls (P : Program) (k : KT) (e : Env) (w : World) : vcK P x_iareCalls k e w = vcK P (.seq (.reg [0] [.q 2 [] (.mv (.c (.bool false)))]) t_iareCalls_9) k e w := rfl
def r_iareCalls : List XO := [(.mv (.t 2))]
theorem c_iareCalls : convF Try.prog [95, 96, 97, 107, 117, 118, 128, 129, 134, 144, 145, 153, 156, 174, 175, 182] Try.f159 [([0], []), ([0, 5, 6], []), ([6], [0, 5]), ([0, 5, 6, 7], []), ([0, 3, 5, 6], []), ([0, 5, 6, 15], []), ([2], []), ([0, 5, 6], []), ([2], [])] = some (x_iareCalls, r_iareCalls) := by kernel_rfl
def us_iareCalls := And.intro @u_iareCalls (And.intro @u_iareCalls_1 (And.intro @u_iareCalls_2 (And.intro @u_iareCalls_3 (And.intro @u_iareCalls_4 (And.intro @u_iareCalls_5 (And.intro @u_iareCalls_6 (And.intro @u_iareCalls_7 (And.intro @u_iareCalls_8 @u_iareCalls_9))))))))
def t_icut_1 : X := (.seq (.reg [2] [.q 3 [] (.mv (.t 0)), .q 4 [] (.mv (.t 0)), .q 5 [] (.len (.t 4)), .q 6 [] (.mn (.t 5) (.c (.int .i64 61))), .q 7 [] (.sub (.t 3) none (some (.t 6))), .q 2 [] (.mv (.t 7))]) .ret)
theorem u_icut_1 (P : Program) (k : KT) (e : Env) (w : World) : vcK P t_icut_1 k e w = vcK P (.seq (.reg [2] [.q 3 [] (.mv (.t 0)), .q 4 [] (.mv (.t 0)), .q 5 [] (.len (.t 4)), .q 6 [] (.mn (.t 5) (.c (.int .i64 61))), .q 7 [] (.sub (.t 3) none (some (.t 6))), .q 2 [] (.mv (.t 7))]) .ret) k e w := rfl
def x_icut : X := (.seq (.reg [0] [.q 2 [] (.mv (.s []))]) t_icut_1)
theorem u_icut (P : Program) (k : KT) (e : Env) (w : World) : vcK P x_icut k e w = vcK P (.seq (.reg [0] [.q 2 [] (.mv (.s []))]) t_icut_1) k e w := rfl
def r_icut : List XO := [(.mv (.t 2))]
theorem c_icut : convF Try.prog [95, 96, 97, 107, 117, 118, 128, 129, 134, 144, 145, 153, 156, 174, 175, 182] Try.f176 [([0], []), ([2], [])] = some (x_icut, r_icut) := by kernel_rfl
def us_icut := And.intro @u_icut @u_icut_1
def t_iprogram_next_1 : X := (.seq (.drw [4] [.q 5 [] (.mv (.t 0)), .q 6 [] (.nil (.t 5)), .q 7 [] (.fa 1 (.t 6)), .q 8 [] (.ld (.t 7)), .q 9 [] (.mv (.t 0)), .q 10 [] (.nil (.t 9)), .q 11 [] (.fa 0 (.t 10)), .q 12 [] (.ld (.t 11)), .q 13 [] (.len (.t 12)), .q 14 [] (.bin .lss (.t 8) (.t 13)), .q 15 [] (.mv (.t 14)), .q 16 [(15, true)] (.mv (.t 0)), .q 17 [(15, true)] (.nil (.t 16)), .q 18 [(15, true)] (.fa 0 (.t 17)), .q 19 [(15, true)] (.ld (.t 18)), .q 20 [(15, true)] (.mv (.t 0)), .q 21 [(15, true)] (.nil (.t 20)), .q 22 [(15, true)] (.fa 1 (.t 21)), .q 23 [(15, true)] (.ld (.t 22)), .q 24 [(15, true)] (.idx (.t 19) (.t 23)), .q 25 [(15, true)] (.mv (.t 1)), .q 26 [(15, true)] (.bin .eql (.t 24) (.t 25)), .q 27 [] (.pick (.t 15) (.t 26) (.c (.bool false))), .q 4 [] (.mv (.t 27))]) .ret)
theorem u_iprogram_next_1 (P : Program) (k : KT) (e : Env) (w : World) : vcK P t_iprogram_next_1 k e w = vcK P (.seq (.drw [4] [.q 5 [] (.mv (.t 0)), .q 6 [] (.nil (.t 5)), .q 7 [] (.fa 1 (.t 6)), .q 8 [] (.ld (.t 7)), .q 9 [] (.mv (.t 0)), .q 10 [] (.nil (.t 9)), .q 11 [] (.fa 0 (.t 10)), .q 12 [] (.ld (.t 11)), .q 13 [] (.len (.t 12)), .q 14 [] (.bin .lss (.t 8) (.t 13)), .q 15 [] (.mv (.t 14)), .q 16 [(15, true)] (.mv (.t 0)), .q 17 [(15, true)] (.nil (.t 16)), .q 18 [(15, true)] (.fa 0 (.t 17)), .q 19 [(15, true)] (.ld (.t 18)), .q 20 [(15, true)] (.mv (.t 0)), .q 21 [(15, true)] (.nil (.t 20)), .q 22 [(15, true)] (.fa 1 (.t 21)), .q 23 [(15, true)] (.ld (.t 22)), .q 24 [(15, true)] (.idx (.t 19) (.t 23)), .q 25 [(15, true)] (.mv (.t 1)), .q 26 [(15, true)] (.bin .eql (.t 24) (.t 25)), .q 27 [] (.pick (.t 15) (.t 26) (.c (.bool false))), .q 4 [] (.mv (.t 27))]) .ret) k e w := rfl
def x_iprogram_next : X := (.seq (.reg [0, 1] [.q 4 [] (.mv (.c (.bool false)))]) t_iprogram_next_1)
theorem u_iprogram_next (P : Program) (k : KT) (e : Env) (w : World) : vcK P x_iprogram_next k e w = vcK P (.seq (.reg [0, 1] [.q 4 [] (.mv (.c (.bool false)))]) t_iprogram_next_1) k e w := rfl
def r_iprogram_next : List XO := [(.mv (.t 4))]
theorem c_iprogram_next : convF Try.prog [95, 96, 97, 107, 117, 118, 128, 129, 134, 144, 145, 153, 156, 174, 175, 182] Try.f157 [([0, 1], []), ([4], [])] = some (x_iprogram_next, r_iprogram_next) := by kernel_rfl
def us_iprogram_next := And.intro @u_iprogram_next @u_iprogram_next_1
def t_iprogram_isDefinition_1 : X := (.seq (.drw [2] [.q 3 [] (.mv (.t 0)), .q 4 [] (.nil (.t 3)), .q 5 [] (.fa 1 (.t 4)), .q 6 [] (.ld (.t 5)), .q 7 [] (.bin .add (.t 6) (.c (.int .i64 1))), .q 8 [] (.mv (.t 0)), .q 9 [] (.nil (.t 8)), .q 10 [] (.fa 0 (.t 9)), .q 11 [] (.ld (.t 10)), .q 12 [] (.len (.t 11)), .q 13 [] (.bin .lss (.t 7) (.t 12)), .q 14 [] (.mv (.t 13)), .q 15 [(14, true)] (.mv (.t 0)), .q 16 [(14, true)] (.nil (.t 15)), .q 17 [(14, true)] (.fa 0 (.t 16)), .q 18 [(14, true)] (.ld (.t 17)), .q 19 [(14, true)] (.mv (.t 0)), .q 20 [(14, true)] (.nil (.t 19)), .q 21 [(14, true)] (.fa 1 (.t 20)), .q 22 [(14, true)] (.ld (.t 21)), .q 23 [(14, true)] (.idx (.t 18) (.t 22)), .q 24 [(14, true)] (.bin .geq (.t 23) (.c (.int .u8 65))), .q 25 [] (.pick (.t 14) (.t 24) (.c (.bool false))), .q 26 [] (.mv (.t 25)), .q 27 [(26, true)] (.mv (.t 0)), .q 28 [(26, true)] (.nil (.t 27)), .q 29 [(26, true)] (.fa 0 (.t 28)), .q 30 [(26, true)] (.ld (.t 29)), .q 31 [(26, true)] (.mv (.t 0)), .q 32 [(26, true)] (.nil (.t 31)), .q 33 [(26, true)] (.fa 1 (.t 32)), .q 34 [(26, true)] (.ld (.t 33)), .q 35 [(26, true)] (.idx (.t 30) (.t 34)), .q 36 [(26, true)] (.bin .leq (.t 35) (.c (.int .u8 90))), .q 37 [] (.pick (.t 26) (.t 36) (.c (.bool false))), .q 38 [] (.mv (.t 37)), .q 39 [(38, true)] (.mv (.t 0)), .q 40 [(38, true)] (.nil (.t 39)), .q 41 [(38, true)] (.fa 0 (.t 40)), .q 42 [(38, true)] (.ld (.t 41)), .q 43 [(38, true)] (.mv (.t 0)), .q 44 [(38, true)] (.nil (.t 43)), .q 45 [(38, true)] (.fa 1 (.t 44)), .q 46 [(38, true)] (.ld (.t 45)), .q 47 [(38, true)] (.bin .add (.t 46) (.c (.int .i64 1))), .q 48 [(38, true)] (.idx (.t 42) (.t 47)), .q 49 [(38, true)] (.bin .eql (.t 48) (.c (.int .u8 61))), .q 50 [] (.pick (.t 38) (.t 49) (.c (.bool false))), .q 2 [] (.mv (.t 50))]) .ret)
theorem u_iprogram_isDefinition_1 (P : Program) (k : KT) (e : Env) (w : World) : vcK P t_iprogram_isDefinition_1 k e w = vcK P (.seq (.drw [2] [.q 3 [] (.mv (.t 0)), .q 4 [] (.nil (.t 3)), .q 5 [] (.fa 1 (.t 4)), .q 6 [] (.ld (.t 5)), .q 7 [] (.bin .add (.t 6) (.c (.int .i64 1))), .q 8 [] (.mv (.t 0)), .q 9 [] (.nil (.t 8)), .q 10 [] (.fa 0 (.t 9)), .q 11 [] (.ld (.t 10)), .q 12 [] (.len (.t 11)), .q 13 [] (.bin .lss (.t 7) (.t 12)), .q 14 [] (.mv (.t 13)), .q 15 [(14, true)] (.mv (.t 0)), .q 16 [(14, true)] (.nil (.t 15)), .q 17 [(14, true)] (.fa 0 (.t 16)), .q 18 [(14, true)] (.ld (.t 17)), .q 19 [(14, true)] (.mv (.t 0)), .q 20 [(14, true)] (.nil (.t 19)), .q 21 [(14, true)] (.fa 1 (.t 20)), .q 22 [(14, true)] (.ld (.t 21)), .q 23 [(14, true)] (.idx (.t 18) (.t 22)), .q 24 [(14, true)] (.bin .geq (.t 23) (.c (.int .u8 65))), .q 25 [] (.pick (.t 14) (.t 24) (.c (.bool false))), .q 26 [] (.mv (.t 25)), .q 27 [(26, true)] (.mv (.t 0)), .q 28 [(26, true)] (.nil (.t 27)), .q 29 [(26, true)] (.fa 0 (.t 28)), .q 30 [(26, true)] (.ld (.t 29)), .q 31 [(26, true)] (.mv (.t 0)), .q 32 [(26, true)] (.nil (.t 31)), .q 33 [(26, true)] (.fa 1 (.t 32)), .q 34 [(26, true)] (.ld (.t 33)), .q 35 [(26, true)] (.idx (.t 30) (.t 34)), .q 36 [(26, true)] (.bin .leq (.t 35) (.c (.int .u8 90))), .q 37 [] (.pick (.t 26) (.t 36) (.c (.bool false))), .q 38 [] (.mv (.t 37)), .q 39 [(38, true)] (.mv (.t 0)), .q 40 [(38, true)] (.nil (.t 39)), .q 41 [(38, true)] (.fa 0 (.t 40)), .q 42 [(38, true)] (.ld (.t 41)), .q 43 [(38, true)] (.mv (.t 0)), .q 44 [(38, true)] (.nil (.t 43)), .q 45 [(38, true)] (.fa 1 (.t 44)), .q 46 [(38, true)] (.ld (.t 45)), .q 47 [(38, true)] (.bin .add (.t 46) (.c (.int .i64 1))), .q 48 [(38, true)] (.idx (.t 42) (.t 47)), .q 49 [(38, true)] (.bin .eql (.t 48) (.c (.int .u8 61))), .q 50 [] (.pick (.t 38) (.t 49) (.c (.bool false))), .q 2 [] (.mv (.t 50))]) .ret) k e w := rfl
def x_iprogram_isDefinition : X := (.seq (.reg [0] [.q 2 [] (.mv (.c (.bool false)))]) t_iprogram_isDefinition_1)
theorem u_iprogram_isDefinition (P : Program) (k : KT) (e : Env) (w : World) : vcK P x_iprogram_isDefinition k e w = vcK P (.seq (.reg [0] [.q 2 [] (.mv (.c (.bool false)))]) t_iprogram_isDefinition_1) k e w := rfl
def r_iprogram_isDefinition : List XO := [(.mv (.t 2))]
theorem c_iprogram_isDefinition : convF Try.prog [95, 96, 97, 107, 117, 118, 128, 129, 134, 144, 145, 153, 156, 174, 175, 182] Try.f155 [([0], []), ([2], [])] = some (x_iprogram_isDefinition, r_iprogram_isDefinition) := by kernel_rfl
def us_iprogram_isDefinition := And.intro @u_iprogram_isDefinition @u_iprogram_isDefinition_1
def t_iprogram_repeated_1 : X := (.cond (.t 64) (.seq (.reg [2, 3] [.q 2 [] (.mv (.s [])), .q 3 [] (.mv (.c (.bool false)))]) .ret) .skip)
theorem u_iprogram_repeated_1 (P : Program) (k : KT) (e : Env) (w : World) : vcK P t_iprogram_repeated_1 k e w = vcK P (.cond (.t 64) (.seq (.reg [2, 3] [.q 2 [] (.mv (.s [])), .q 3 [] (.mv (.c (.bool false)))]) .ret) .skip) k e w := rfl
def t_iprogram_repeated_2 : X := (.cond (.t 87) (.seq (.reg [2, 3] [.q 2 [] (.mv (.s [])), .q 3 [] (.mv (.c (.bool false)))]) .ret) .skip)
theorem u_iprogram_repeated_2 (P : Program) (k : KT) (e : Env) (w : World) : vcK P t_iprogram_repeated_2 k e w = vcK P (.cond (.t 87) (.seq (.reg [2, 3] [.q 2 [] (.mv (.s [])), .q 3 [] (.mv (.c (.bool false)))]) .ret) .skip) k e w := rfl
def t_iprogram_repeated_3 : X := (.seq (.reg [2, 3] [.q 88 [] (.mv (.t 4)), .q 89 [] (.mv (.t 6)), .q 90 [] (.bin .sub (.t 89) (.c (.int .u8 48))), .q 91 [] (.cvi .i64 (.t 90)), .e (some 92) [] (.call false 183 [(.t 88), (.t 91)]), .e (some 93) [] (.call false 176 [(.t 92)]), .q 2 [] (.mv (.t 93)), .q 3 [] (.mv (.c (.bool true)))]) .ret)
theorem u_iprogram_repeated_3 (P : Program) (k : KT) (e : Env) (w : World) : vcK P t_iprogram_repeated_3 k e w = vcK P (.seq (.reg [2, 3] [.q 88 [] (.mv (.t 4)), .q 89 [] (.mv (.t 6)), .q 90 [] (.bin .sub (.t 89) (.c (.int .u8 48))), .q 91 [] (.cvi .i64 (.t 90)), .e (some 92) [] (.call false 183 [(.t 88), (.t 91)]), .e (some 93) [] (.call false 176 [(.t 92)]), .q 2 [] (.mv (.t 93)), .q 3 [] (.mv (.c (.bool true)))]) .ret) k e w := rfl
def t_iprogram_repeated_4 : X := (.seq (.seq (.reg [4, 6, 87] [.q 82 [] (.mv (.t 6)), .q 83 [] (.bin .lss (.t 82) (.c (.int .u8 50))), .q 84 [] (.mv (.t 83)), .q 85 [(84, false)] (.mv (.t 6)), .q 86 [(84, false)] (.bin .gtr (.t 85) (.c (.int .u8 57))), .q 87 [] (.pick (.t 84) (.c (.bool true)) (.t 86))]) t_iprogram_repeated_2) t_iprogram_repeated_3)
theorem u_iprogram_repeated_4 (P : Program) (k : KT) (e : Env) (w : World) : vcK P t_iprogram_repeated_4 k e w = vcK P (.seq (.seq (.reg [4, 6, 87] [.q 82 [] (.mv (.t 6)), .q 83 [] (.bin .lss (.t 82) (.c (.int .u8 50))), .q 84 [] (.mv (.t 83)), .q 85 [(84, false)] (.mv (.t 6)), .q 86 [(84, false)] (.bin .gtr (.t 85) (.c (.int .u8 57))), .q 87 [] (.pick (.t 84) (.c (.bool true)) (.t 86))]) t_iprogram_repeated_2) t_iprogram_repeated_3) k e w := rfl
def t_iprogram_repeated_5 : X := (.seq (.reg [4, 6] [.q 75 [] (.mv (.t 0)), .q 76 [] (.nil (.t 75)), .q 77 [] (.fa 1 (.t 76)), .q 78 [] (.ld (.t 77)), .q 79 [] (.bin .add (.t 78) (.c (.int .i64 2))), .q 80 [] (.nil (.t 75)), .q 81 [] (.fa 1 (.t 80)), .e none [] (.st 1 (.t 81) (.t 79))]) t_iprogram_repeated_4)
theorem u_iprogram_repeated_5 (P : Program) (k : KT) (e : Env) (w : World) : vcK P t_iprogram_repeated_5 k e w = vcK P (.seq (.reg [4, 6] [.q 75 [] (.mv (.t 0)), .q 76 [] (.nil (.t 75)), .q 77 [] (.fa 1 (.t 76)), .q 78 [] (.ld (.t 77)), .q 79 [] (.bin .add (.t 78) (.c (.int .i64 2))), .q 80 [] (.nil (.t 75)), .q 81 [] (.fa 1 (.t 80)), .e none [] (.st 1 (.t 81) (.t 79))]) t_iprogram_repeated_4) k e w := rfl
def t_iprogram_repeated_6 : X := (.seq (.drw [0, 4, 6] [.q 65 [] (.mv (.t 0)), .q 66 [] (.nil (.t 65)), .q 67 [] (.fa 0 (.t 66)), .q 68 [] (.ld (.t 67)), .q 69 [] (.mv (.t 0)), .q 70 [] (.nil (.t 69)), .q 71 [] (.fa 1 (.t 70)), .q 72 [] (.ld (.t 71)), .q 73 [] (.bin .add (.t 72) (.c (.int .i64 1))), .q 74 [] (.idx (.t 68) (.t 73)), .q 6 [] (.mv (.t 74))]) t_iprogram_repeated_5)
theorem u_iprogram_repeated_6 (P : Program) (k : KT) (e : Env) (w : World) : vcK P t_iprogram_repeated_6 k e w = vcK P (.seq (.drw [0, 4, 6] [.q 65 [] (.mv (.t 0)), .q 66 [] (.nil (.t 65)), .q 67 [] (.fa 0 (.t 66)), .q 68 [] (.ld (.t 67)), .q 69 [] (.mv (.t 0)), .q 70 [] (.nil (.t 69)), .q 71 [] (.fa 1 (.t 70)), .q 72 [] (.ld (.t 71)), .q 73 [] (.bin .add (.t 72) (.c (.int .i64 1))), .q 74 [] (.idx (.t 68) (.t 73)), .q 6 [] (.mv (.t 74))]) t_iprogram_repeated_5) k e w := rfl
def t_iprogram_repeated_7 : X := (.seq (.seq (.drw [0, 4, 64] [.q 45 [] (.mv (.t 5)), .q 46 [] (.not (.t 45)), .q 47 [] (.mv (.t 46)), .q 48 [(47, false)] (.mv (.t 0)), .e (some 49) [(47, false)] (.call false 157 [(.t 48), (.c (.int .u8 41))]), .q 50 [(47, false)] (.not (.t 49)), .q 51 [] (.pick (.t 47) (.c (.bool true)) (.t 50)), .q 52 [] (.mv (.t 51)), .q 53 [(52, false)] (.mv (.t 0)), .q 54 [(52, false)] (.nil (.t 53)), .q 55 [(52, false)] (.fa 1 (.t 54)), .q 56 [(52, false)] (.ld (.t 55)), .q 57 [(52, false)] (.bin .add (.t 56) (.c (.int .i64 1))), .q 58 [(52, false)] (.mv (.t 0)), .q 59 [(52, false)] (.nil (.t 58)), .q 60 [(52, false)] (.fa 0 (.t 59)), .q 61 [(52, false)] (.ld (.t 60)), .q 62 [(52, false)] (.len (.t 61)), .q 63 [(52, false)] (.bin .geq (.t 57) (.t 62)), .q 64 [] (.pick (.t 52) (.c (.bool true)) (.t 63))]) t_iprogram_repeated_1) t_iprogram_repeated_6)
theorem u_iprogram_repeated_7 (P : Program) (k : KT) (e : Env) (w : World) : vcK P t_iprogram_repeated_7 k e w = vcK P (.seq (.seq (.drw [0, 4, 64] [.q 45 [] (.mv (.t 5)), .q 46 [] (.not (.t 45)), .q 47 [] (.mv (.t 46)), .q 48 [(47, false)] (.mv (.t 0)), .e (some 49) [(47, false)] (.call false 157 [(.t 48), (.c (.int .u8 41))]), .q 50 [(47, false)] (.not (.t 49)), .q 51 [] (.pick (.t 47) (.c (.bool true)) (.t 50)), .q 52 [] (.mv (.t 51)), .q 53 [(52, false)] (.mv (.t 0)), .q 54 [(52, false)] (.nil (.t 53)), .q 55 [(52, false)] (.fa 1 (.t 54)), .q 56 [(52, false)] (.ld (.t 55)), .q 57 [(52, false)] (.bin .add (.t 56) (.c (.int .i64 1))), .q 58 [(52, false)] (.mv (.t 0)), .q 59 [(52, false)] (.nil (.t 58)), .q 60 [(52, false)] (.fa 0 (.t 59)), .q 61 [(52, false)] (.ld (.t 60)), .q 62 [(52, false)] (.len (.t 61)), .q 63 [(52, false)] (.bin .geq (.t 57) (.t 62)), .q 64 [] (.pick (.t 52) (.c (.bool true)) (.t 63))]) t_iprogram_repeated_1) t_iprogram_repeated_6) k e w := rfl
def t_iprogram_repeated_8 : X := (.seq (.reg [0, 4, 5] [.q 38 [] (.mv (.t 0)), .q 39 [] (.nil (.t 38)), .q 40 [] (.fa 4 (.t 39)), .q 41 [] (.ld (.t 40)), .q 42 [] (.bin .sub (.t 41) (.c (.int .i64 1))), .q 43 [] (.nil (.t 38)), .q 44 [] (.fa 4 (.t 43)), .e none [] (.st 1 (.t 44) (.t 42))]) t_iprogram_repeated_7)
theorem u_iprogram_repeated_8 (P : Program) (k : KT) (e : Env) (w : World) : vcK P t_iprogram_repeated_8 k e w = vcK P (.seq (.reg [0, 4, 5] [.q 38 [] (.mv (.t 0)), .q 39 [] (.nil (.t 38)), .q 40 [] (.fa 4 (.t 39)), .q 41 [] (.ld (.t 40)), .q 42 [] (.bin .sub (.t 41) (.c (.int .i64 1))), .q 43 [] (.nil (.t 38)), .q 44 [] (.fa 4 (.t 43)), .e none [] (.st 1 (.t 44) (.t 42))]) t_iprogram_repeated_7) k e w := rfl
def t_iprogram_repeated_9 : X := (.seq (.reg [0, 4, 5] [.q 34 [] (.mv (.t 0)), .e (some 35) [] (.call true 156 [(.t 34)]), .q 33 [] (.mv (.t 35)), .q 36 [] (.ext 0 (.t 33)), .q 37 [] (.ext 1 (.t 33)), .q 4 [] (.mv (.t 36)), .q 5 [] (.mv (.t 37))]) t_iprogram_repeated_8)
theorem u_iprogram_repeated_9 (P : Program) (k : KT) (e : Env) (w : World) : vcK P t_iprogram_repeated_9 k e w = vcK P (.seq (.reg [0, 4, 5] [.q 34 [] (.mv (.t 0)), .e (some 35) [] (.call true 156 [(.t 34)]), .q 33 [] (.mv (.t 35)), .q 36 [] (.ext 0 (.t 33)), .q 37 [] (.ext 1 (.t 33)), .q 4 [] (.mv (.t 36)), .q 5 [] (.mv (.t 37))]) t_iprogram_repeated_8) k e w := rfl
def t_iprogram_repeated_10 : X := (.seq (.drw [0] [.q 21 [] (.mv (.t 0)), .q 22 [] (.mv (.t 0)), .q 23 [] (.nil (.t 22)), .q 24 [] (.fa 5 (.t 23)), .q 25 [] (.ld (.t 24)), .q 26 [] (.mv (.t 0)), .q 27 [] (.nil (.t 26)), .q 28 [] (.fa 4 (.t 27)), .q 29 [] (.ld (.t 28)), .q 30 [] (.mx (.t 25) (.t 29)), .q 31 [] (.nil (.t 21)), .q 32 [] (.fa 5 (.t 31)), .e none [] (.st 1 (.t 32) (.t 30))]) t_iprogram_repeated_9)
theorem u_iprogram_repeated_10 (P : Program) (k : KT) (e : Env) (w : World) : vcK P t_iprogram_repeated_10 k e w = vcK P (.seq (.drw [0] [.q 21 [] (.mv (.t 0)), .q 22 [] (.mv (.t 0)), .q 23 [] (.nil (.t 22)), .q 24 [] (.fa 5 (.t 23)), .q 25 [] (.ld (.t 24)), .q 26 [] (.mv (.t 0)), .q 27 [] (.nil (.t 26)), .q 28 [] (.fa 4 (.t 27)), .q 29 [] (.ld (.t 28)), .q 30 [] (.mx (.t 25) (.t 29)), .q 31 [] (.nil (.t 21)), .q 32 [] (.fa 5 (.t 31)), .e none [] (.st 1 (.t 32) (.t 30))]) t_iprogram_repeated_9) k e w := rfl
def t_iprogram_repeated_11 : X := (.seq (.reg [0] [.q 14 [] (.mv (.t 0)), .q 15 [] (.nil (.t 14)), .q 16 [] (.fa 4 (.t 15)), .q 17 [] (.ld (.t 16)), .q 18 [] (.bin .add (.t 17) (.c (.int .i64 1))), .q 19 [] (.nil (.t 14)), .q 20 [] (.fa 4 (.t 19)), .e none [] (.st 1 (.t 20) (.t 18))]) t_iprogram_repeated_10)
theorem u_iprogram_repeated_11 (P : Program) (k : KT) (e : Env) (w : World) : vcK P t_iprogram_repeated_11 k e w = vcK P (.seq (.reg [0] [.q 14 [] (.mv (.t 0)), .q 15 [] (.nil (.t 14)), .q 16 [] (.fa 4 (.t 15)), .q 17 [] (.ld (.t 16)), .q 18 [] (.bin .add (.t 17) (.c (.int .i64 1))), .q 19 [] (.nil (.t 14)), .q 20 [] (.fa 4 (.t 19)), .e none [] (.st 1 (.t 20) (.t 18))]) t_iprogram_repeated_10) k e w := rfl
def t_iprogram_repeated_12 : X := (.seq (.reg [0] [.q 7 [] (.mv (.t 0)), .q 8 [] (.nil (.t 7)), .q 9 [] (.fa 1 (.t 8)), .q 10 [] (.ld (.t 9)), .q 11 [] (.bin .add (.t 10) (.c (.int .i64 1))), .q 12 [] (.nil (.t 7)), .q 13 [] (.fa 1 (.t 12)), .e none [] (.st 1 (.t 13) (.t 11))]) t_iprogram_repeated_11)
theorem u_iprogram_repeated_12 (P : Program) (k : KT) (e : Env) (w : World) : vcK P t_iprogram_repeated_12 k e w = vcK P (.seq (.reg [0] [.q 7 [] (.mv (.t 0)), .q 8 [] (.nil (.t 7)), .q 9 [] (.fa 1 (.t 8)), .q 10 [] (.ld (.t 9)), .q 11 [] (.bin .add (.t 10) (.c (.int .i64 1))), .q 12 [] (.nil (.t 7)), .q 13 [] (.fa 1 (.t 12)), .e none [] (.st 1 (.t 13) (.t 11))]) t_iprogram_repeated_11) k e w := rfl
def x_iprogram_repeated : X := (.seq (.reg [0] [.q 2 [] (.mv (.s [])), .q 3 [] (.mv (.c (.bool false)))]) t_iprogram_repeated_12)
theorem u_iprogram_repeated (P : Program) (k : KT) (e : Env) (w : World) : vcK P x_iprogram_repeated k e w = vcK P (.seq (.reg [0] [.q 2 [] (.mv (.s [])), .q 3 [] (.mv (.c (.bool false)))]) t_iprogram_repeated_12) k e w := rfl
def r_iprogram_repeated : List XO := [(.mv (.t 2)), (.mv (.t 3))]
theorem c_iprogram_repeated : convF Try.prog [95, 96, 97, 107, 117, 118, 128, 129, 134, 144, 145, 153, 156, 174, 175, 182] Try.f175 [([0], []), ([0], []), ([0], []), ([0], []), ([0, 4, 5], []), ([0, 4, 5], []), ([0, 4, 64], []), ([2, 3], []), ([0, 4, 6], []), ([4, 6], []), ([4, 6, 87], []), ([2, 3], []), ([2, 3], [])] = some (x_iprogram_repeated, r_iprogram_repeated) := by kernel_rfl
def us_iprogram_repeated := And.intro @u_iprogram_repeated (And.intro @u_iprogram_repeated_1 (And.intro @u_iprogram_repeated_2 (And.intro @u_iprogram_repeated_3 (And.intro @u_iprogram_repeated_4 (And.intro @u_iprogram_repeated_5 (And.intro @u_iprogram_repeated_6 (And.intro @u_iprogram_repeated_7 (And.intro @u_iprogram_repeated_8 (And.intro @u_iprogram_repeated_9 (And.intro @u_iprogram_repeated_10 (And.intro @u_iprogram_repeated_11 @u_iprogram_repeated_12)))))))))))
def t_iprogram_block_1 : X := (.cond (.t 18) .skip (.exit 0))
theorem u_iprogram_block_1 (P : Program) (k : KT) (e : Env) (w : World) : vcK P t_iprogram_block_1 k e w = vcK P (.cond (.t 18) .skip (.exit 0)) k e w := rfl
def t_iprogram_block_2 : X := (.reg [0, 4, 7, 8] [.q 54 [] (.mv (.t 0)), .q 55 [] (.nil (.t 54)), .q 56 [] (.fa 1 (.t 55)), .q 57 [] (.ld (.t 56)), .q 58 [] (.bin .add (.t 57) (.c (.int .i64 1))), .q 59 [] (.nil (.t 54)), .q 60 [] (.fa 1 (.t 59)), .e none [] (.st 1 (.t 60) (.t 58))])
theorem u_iprogram_block_2 (P : Program) (k : KT) (e : Env) (w : World) : vcK P t_iprogram_block_2 k e w = vcK P (.reg [0, 4, 7, 8] [.q 54 [] (.mv (.t 0)), .q 55 [] (.nil (.t 54)), .q 56 [] (.fa 1 (.t 55)), .q 57 [] (.ld (.t 56)), .q 58 [] (.bin .add (.t 57) (.c (.int .i64 1))), .q 59 [] (.nil (.t 54)), .q 60 [] (.fa 1 (.t 59)), .e none [] (.st 1 (.t 60) (.t 58))]) k e w := rfl
def t_iprogram_block_3 : X := (.reg [0, 4, 7, 8] [.q 91 [] (.mv (.t 0)), .q 92 [] (.nil (.t 91)), .q 93 [] (.fa 1 (.t 92)), .q 94 [] (.ld (.t 93)), .q 95 [] (.bin .add (.t 94) (.c (.int .i64 1))), .q 96 [] (.nil (.t 91)), .q 97 [] (.fa 1 (.t 96)), .e none [] (.st 1 (.t 97) (.t 95))])
theorem u_iprogram_block_3 (P : Program) (k : KT) (e : Env) (w : World) : vcK P t_iprogram_block_3 k e w = vcK P (.reg [0, 4, 7, 8] [.q 91 [] (.mv (.t 0)), .q 92 [] (.nil (.t 91)), .q 93 [] (.fa 1 (.t 92)), .q 94 [] (.ld (.t 93)), .q 95 [] (.bin .add (.t 94) (.c (.int .i64 1))), .q 96 [] (.nil (.t 91)), .q 97 [] (.fa 1 (.t 96)), .e none [] (.st 1 (.t 97) (.t 95))]) k e w := rfl
def t_iprogram_block_4 : X := (.cond (.t 61) (.seq (.drw [0, 4, 7, 8] [.q 77 [] (.mv (.t 0)), .q 78 [] (.nil (.t 77)), .q 79 [] (.fa 0 (.t 78)), .q 80 [] (.ld (.t 79)), .q 81 [] (.mv (.t 0)), .q 82 [] (.nil (.t 81)), .q 83 [] (.fa 1 (.t 82)), .q 84 [] (.ld (.t 83)), .q 85 [] (.mv (.t 0)), .q 86 [] (.nil (.t 85)), .q 87 [] (.fa 1 (.t 86)), .q 88 [] (.ld (.t 87)), .q 89 [] (.bin .add (.t 88) (.c (.int .i64 1))), .q 90 [] (.sub (.t 80) (some (.t 84)) (some (.t 89))), .q 7 [] (.mv (.t 90))]) t_iprogram_block_3) (.seq (.reg [2, 3] [.q 28 [] (.mv (.t 4)), .q 29 [] (.mv (.t 5)), .q 2 [] (.mv (.t 28)), .q 3 [] (.mv (.t 29))]) .ret))
theorem u_iprogram_block_4 (P : Program) (k : KT) (e : Env) (w : World) : vcK P t_iprogram_block_4 k e w = vcK P (.cond (.t 61) (.seq (.drw [0, 4, 7, 8] [.q 77 [] (.mv (.t 0)), .q 78 [] (.nil (.t 77)), .q 79 [] (.fa 0 (.t 78)), .q 80 [] (.ld (.t 79)), .q 81 [] (.mv (.t 0)), .q 82 [] (.nil (.t 81)), .q 83 [] (.fa 1 (.t 82)), .q 84 [] (.ld (.t 83)), .q 85 [] (.mv (.t 0)), .q 86 [] (.nil (.t 85)), .q 87 [] (.fa 1 (.t 86)), .q 88 [] (.ld (.t 87)), .q 89 [] (.bin .add (.t 88) (.c (.int .i64 1))), .q 90 [] (.sub (.t 80) (some (.t 84)) (some (.t 89))), .q 7 [] (.mv (.t 90))]) t_iprogram_block_3) (.seq (.reg [2, 3] [.q 28 [] (.mv (.t 4)), .q 29 [] (.mv (.t 5)), .q 2 [] (.mv (.t 28)), .q 3 [] (.mv (.t 29))]) .ret)) k e w := rfl
def t_iprogram_block_5 : X := (.cond (.t 38) (.seq (.reg [0, 4, 7, 8] [.q 46 [] (.mv (.t 0)), .q 47 [] (.nil (.t 46)), .q 48 [] (.fa 2 (.t 47)), .q 49 [] (.ld (.t 48)), .q 50 [] (.mv (.t 6)), .q 51 [] (.mlk true (.int .u8) (S []) (.t 49) (.t 50)), .q 45 [] (.mv (.t 51)), .q 52 [] (.ext 0 (.t 45)), .q 53 [] (.ext 1 (.t 45)), .q 7 [] (.mv (.t 52)), .q 8 [] (.mv (.t 53))]) t_iprogram_block_2) (.seq (.drw [0, 4, 5, 8, 61] [.q 62 [] (.mv (.t 0)), .q 63 [] (.nil (.t 62)), .q 64 [] (.fa 0 (.t 63)), .q 65 [] (.ld (.t 64)), .q 66 [] (.mv (.t 0)), .q 67 [] (.nil (.t 66)), .q 68 [] (.fa 1 (.t 67)), .q 69 [] (.ld (.t 68)), .q 70 [] (.mv (.t 0)), .q 71 [] (.nil (.t 70)), .q 72 [] (.fa 1 (.t 71)), .q 73 [] (.ld (.t 72)), .q 74 [] (.bin .add (.t 73) (.c (.int .i64 1))), .q 75 [] (.sub (.t 65) (some (.t 69)) (some (.t 74))), .e (some 76) [] (.call false 159 [(.t 75)]), .q 61 [] (.mv (.t 76))]) t_iprogram_block_4))
theorem u_iprogram_block_5 (P : Program) (k : KT) (e : Env) (w : World) : vcK P t_iprogram_block_5 k e w = vcK P (.cond (.t 38) (.seq (.reg [0, 4, 7, 8] [.q 46 [] (.mv (.t 0)), .q 47 [] (.nil (.t 46)), .q 48 [] (.fa 2 (.t 47)), .q 49 [] (.ld (.t 48)), .q 50 [] (.mv (.t 6)), .q 51 [] (.mlk true (.int .u8) (S []) (.t 49) (.t 50)), .q 45 [] (.mv (.t 51)), .q 52 [] (.ext 0 (.t 45)), .q 53 [] (.ext 1 (.t 45)), .q 7 [] (.mv (.t 52)), .q 8 [] (.mv (.t 53))]) t_iprogram_block_2) (.seq (.drw [0, 4, 5, 8, 61] [.q 62 [] (.mv (.t 0)), .q 63 [] (.nil (.t 62)), .q 64 [] (.fa 0 (.t 63)), .q 65 [] (.ld (.t 64)), .q 66 [] (.mv (.t 0)), .q 67 [] (.nil (.t 66)), .q 68 [] (.fa 1 (.t 67)), .q 69 [] (.ld (.t 68)), .q 70 [] (.mv (.t 0)), .q 71 [] (.nil (.t 70)), .q 72 [] (.fa 1 (.t 71)), .q 73 [] (.ld (.t 72)), .q 74 [] (.bin .add (.t 73) (.c (.int .i64 1))), .q 75 [] (.sub (.t 65) (some (.t 69)) (some (.t 74))), .e (some 76) [] (.call false 159 [(.t 75)]), .q 61 [] (.mv (.t 76))]) t_iprogram_block_4)) k e w := rfl
def t_iprogram_block_6 : X := (.cond (.t 30) (.reg [0, 4, 7, 8] [.q 34 [] (.mv (.t 0)), .e (some 35) [] (.call true 175 [(.t 34)]), .q 33 [] (.mv (.t 35)), .q 36 [] (.ext 0 (.t 33)), .q 37 [] (.ext 1 (.t 33)), .q 7 [] (.mv (.t 36)), .q 8 [] (.mv (.t 37))]) (.seq (.reg [0, 4, 5, 6, 8, 38] [.q 39 [] (.mv (.t 6)), .q 40 [] (.bin .geq (.t 39) (.c (.int .u8 65))), .q 41 [] (.mv (.t 40)), .q 42 [(41, true)] (.mv (.t 6)), .q 43 [(41, true)] (.bin .leq (.t 42) (.c (.int .u8 90))), .q 44 [] (.pick (.t 41) (.t 43) (.c (.bool false))), .q 38 [] (.mv (.t 44))]) t_iprogram_block_5))
theorem u_iprogram_block_6 (P : Program) (k : KT) (e : Env) (w : World) : vcK P t_iprogram_block_6 k e w = vcK P (.cond (.t 30) (.reg [0, 4, 7, 8] [.q 34 [] (.mv (.t 0)), .e (some 35) [] (.call true 175 [(.t 34)]), .q 33 [] (.mv (.t 35)), .q 36 [] (.ext 0 (.t 33)), .q 37 [] (.ext 1 (.t 33)), .q 7 [] (.mv (.t 36)), .q 8 [] (.mv (.t 37))]) (.seq (.reg [0, 4, 5, 6, 8, 38] [.q 39 [] (.mv (.t 6)), .q 40 [] (.bin .geq (.t 39) (.c (.int .u8 65))), .q 41 [] (.mv (.t 40)), .q 42 [(41, true)] (.mv (.t 6)), .q 43 [(41, true)] (.bin .leq (.t 42) (.c (.int .u8 90))), .q 44 [] (.pick (.t 41) (.t 43) (.c (.bool false))), .q 38 [] (.mv (.t 44))]) t_iprogram_block_5)) k e w := rfl
def t_iprogram_block_7 : X := (.cond (.t 99) (.seq (.reg [2, 3] [.q 2 [] (.mv (.s [])), .q 3 [] (.mv (.c (.bool false)))]) .ret) .skip)
theorem u_iprogram_block_7 (P : Program) (k : KT) (e : Env) (w : World) : vcK P t_iprogram_block_7 k e w = vcK P (.cond (.t 99) (.seq (.reg [2, 3] [.q 2 [] (.mv (.s [])), .q 3 [] (.mv (.c (.bool false)))]) .ret) .skip) k e w := rfl
def t_iprogram_block_8 : X := (.reg [0, 4] [.q 100 [] (.mv (.t 4)), .q 101 [] (.mv (.t 7)), .q 102 [] (.bin .add (.t 100) (.t 101)), .e (some 103) [] (.call false 176 [(.t 102)]), .q 4 [] (.mv (.t 103))])
theorem u_iprogram_block_8 (P : Program) (k : KT) (e : Env) (w : World) : vcK P t_iprogram_block_8 k e w = vcK P (.reg [0, 4] [.q 100 [] (.mv (.t 4)), .q 101 [] (.mv (.t 7)), .q 102 [] (.bin .add (.t 100) (.t 101)), .e (some 103) [] (.call false 176 [(.t 102)]), .q 4 [] (.mv (.t 103))]) k e w := rfl
def t_iprogram_block_9 : X := (.seq (.seq (.reg [0, 4, 7, 99] [.q 98 [] (.mv (.t 8)), .q 99 [] (.not (.t 98))]) t_iprogram_block_7) t_iprogram_block_8)
theorem u_iprogram_block_9 (P : Program) (k : KT) (e : Env) (w : World) : vcK P t_iprogram_block_9 k e w = vcK P (.seq (.seq (.reg [0, 4, 7, 99] [.q 98 [] (.mv (.t 8)), .q 99 [] (.not (.t 98))]) t_iprogram_block_7) t_iprogram_block_8) k e w := rfl
def t_iprogram_block_10 : X := (.seq (.blk 2 (.seq (.reg [0, 4, 5, 6, 8, 30] [.q 31 [] (.mv (.t 6)), .q 32 [] (.bin .eql (.t 31) (.c (.int .u8 40))), .q 30 [] (.mv (.t 32))]) t_iprogram_block_6)) t_iprogram_block_9)
theorem u_iprogram_block_10 (P : Program) (k : KT) (e : Env) (w : World) : vcK P t_iprogram_block_10 k e w = vcK P (.seq (.blk 2 (.seq (.reg [0, 4, 5, 6, 8, 30] [.q 31 [] (.mv (.t 6)), .q 32 [] (.bin .eql (.t 31) (.c (.int .u8 40))), .q 30 [] (.mv (.t 32))]) t_iprogram_block_6)) t_iprogram_block_9) k e w := rfl
def t_iprogram_block_11 : X := (.seq (.reg [0, 4, 5, 6, 8] [.q 7 [] (.mv (.s [])), .q 8 [] (.mv (.c (.bool true)))]) t_iprogram_block_10)
theorem u_iprogram_block_11 (P : Program) (k : KT) (e : Env) (w : World) : vcK P t_iprogram_block_11 k e w = vcK P (.seq (.reg [0, 4, 5, 6, 8] [.q 7 [] (.mv (.s [])), .q 8 [] (.mv (.c (.bool true)))]) t_iprogram_block_10) k e w := rfl
def t_iprogram_block_12 : X := (.reg [0, 4, 5] [.q 5 [] (.mv (.c (.bool true)))])
theorem u_iprogram_block_12 (P : Program) (k : KT) (e : Env) (w : World) : vcK P t_iprogram_block_12 k e w = vcK P (.reg [0, 4, 5] [.q 5 [] (.mv (.c (.bool true)))]) k e w := rfl
def t_iprogram_block_13 : X := (.seq (.blk 1 (.seq (.drw [0, 4, 5, 6] [.q 19 [] (.mv (.t 0)), .q 20 [] (.nil (.t 19)), .q 21 [] (.fa 0 (.t 20)), .q 22 [] (.ld (.t 21)), .q 23 [] (.mv (.t 0)), .q 24 [] (.nil (.t 23)), .q 25 [] (.fa 1 (.t 24)), .q 26 [] (.ld (.t 25)), .q 27 [] (.idx (.t 22) (.t 26)), .q 6 [] (.mv (.t 27))]) t_iprogram_block_11)) t_iprogram_block_12)
theorem u_iprogram_block_13 (P : Program) (k : KT) (e : Env) (w : World) : vcK P t_iprogram_block_13 k e w = vcK P (.seq (.blk 1 (.seq (.drw [0, 4, 5, 6] [.q 19 [] (.mv (.t 0)), .q 20 [] (.nil (.t 19)), .q 21 [] (.fa 0 (.t 20)), .q 22 [] (.ld (.t 21)), .q 23 [] (.mv (.t 0)), .q 24 [] (.nil (.t 23)), .q 25 [] (.fa 1 (.t 24)), .q 26 [] (.ld (.t 25)), .q 27 [] (.idx (.t 22) (.t 26)), .q 6 [] (.mv (.t 27))]) t_iprogram_block_11)) t_iprogram_block_12) k e w := rfl
def t_iprogram_block_14 : X := (.seq (.seq (.drw [0, 4, 5, 18] [.q 9 [] (.mv (.t 0)), .q 10 [] (.nil (.t 9)), .q 11 [] (.fa 1 (.t 10)), .q 12 [] (.ld (.t 11)), .q 13 [] (.mv (.t 0)), .q 14 [] (.nil (.t 13)), .q 15 [] (.fa 0 (.t 14)), .q 16 [] (.ld (.t 15)), .q 17 [] (.len (.t 16)), .q 18 [] (.bin .lss (.t 12) (.t 17))]) t_iprogram_block_1) t_iprogram_block_13)
theorem u_iprogram_block_14 (P : Program) (k : KT) (e : Env) (w : World) : vcK P t_iprogram_block_14 k e w = vcK P (.seq (.seq (.drw [0, 4, 5, 18] [.q 9 [] (.mv (.t 0)), .q 10 [] (.nil (.t 9)), .q 11 [] (.fa 1 (.t 10)), .q 12 [] (.ld (.t 11)), .q 13 [] (.mv (.t 0)), .q 14 [] (.nil (.t 13)), .q 15 [] (.fa 0 (.t 14)), .q 16 [] (.ld (.t 15)), .q 17 [] (.len (.t 16)), .q 18 [] (.bin .lss (.t 12) (.t 17))]) t_iprogram_block_1) t_iprogram_block_13) k e w := rfl
def t_iprogram_block_15 : X := (.seq (.reg [2, 3] [.q 104 [] (.mv (.t 4)), .q 105 [] (.mv (.t 5)), .q 2 [] (.mv (.t 104)), .q 3 [] (.mv (.t 105))]) .ret)
theorem u_iprogram_block_15 (P : Program) (k : KT) (e : Env) (w : World) : vcK P t_iprogram_block_15 k e w = vcK P (.seq (.reg [2, 3] [.q 104 [] (.mv (.t 4)), .q 105 [] (.mv (.t 5)), .q 2 [] (.mv (.t 104)), .q 3 [] (.mv (.t 105))]) .ret) k e w := rfl
def t_iprogram_block_16 : X := (.seq (.blk 0 (.loop [4, 5] [0] t_iprogram_block_14)) t_iprogram_block_15)
theorem u_iprogram_block_16 (P : Program) (k : KT) (e : Env) (w : World) : vcK P t_iprogram_block_16 k e w = vcK P (.seq (.blk 0 (.loop [4, 5] [0] t_iprogram_block_14)) t_iprogram_block_15) k e w := rfl
def t_iprogram_block_17 : X := (.seq (.reg [0, 4, 5] [.q 4 [] (.mv (.s [])), .q 5 [] (.mv (.c (.bool false)))]) t_iprogram_block_16)
theorem u_iprogram_block_17 (P : Program) (k : KT) (e : Env) (w : World) : vcK P t_iprogram_block_17 k e w = vcK P (.seq (.reg [0, 4, 5] [.q 4 [] (.mv (.s [])), .q 5 [] (.mv (.c (.bool false)))]) t_iprogram_block_16) k e w := rfl
def x_iprogram_block : X := (.seq (.reg [0] [.q 2 [] (.mv (.s [])), .q 3 [] (.mv (.c (.bool false)))]) t_iprogram_block_17)
theorem u_iprogram_block (P : Program) (k : KT) (e : Env) (w : World) : vcK P x_iprogram_block k e w = vcK P (.seq (.reg [0] [.q 2 [] (.mv (.s [])), .q 3 [] (.mv (.c (.bool false)))]) t_iprogram_block_17) k e w := rfl
def r_iprogram_block : List XO := [(.mv (.t 2)), (.mv (.t 3))]
theorem c_iprogram_block : convF Try.prog [95, 96, 97, 107, 117, 118, 128, 129, 134, 144, 145, 153, 156, 174, 175, 182] Try.f156 [([0], []), ([0, 4, 5], []), ([4, 5], [0]), ([0, 4, 5, 18], []), ([0, 4, 5, 6], []), ([0, 4, 5, 6, 8], []), ([0, 4, 5, 6, 8, 30], []), ([0, 4, 7, 8], []), ([0, 4, 5, 6, 8, 38], []), ([0, 4, 7, 8], []), ([0, 4, 7, 8], []), ([0, 4, 5, 8, 61], []), ([0, 4, 7, 8], []), ([0, 4, 7, 8], []), ([2, 3], []), ([0, 4, 7, 99], []), ([2, 3], []), ([0, 4], []), ([0, 4, 5], []), ([2, 3], [])] = some (x_iprogram_block, r_iprogram_block) := by kernel_rfl
def us_iprogram_block := And.intro @u_iprogram_block (And.intro @u_iprogram_block_1 (And.intro @u_iprogram_block_2 (And.intro @u_iprogram_block_3 (And.intro @u_iprogram_block_4 (And.intro @u_iprogram_block_5 (And.intro @u_iprogram_block_6 (And.intro @u_iprogram_block_7 (And.intro @u_iprogram_block_8 (And.intro @u_iprogram_block_9 (And.intro @u_iprogram_block_10 (And.intro @u_iprogram_block_11 (And.intro @u_iprogram_block_12 (And.intro @u_iprogram_block_13 (And.intro @u_iprogram_block_14 (And.intro @u_iprogram_block_15 (And.intro @u_iprogram_block_16 @u_iprogram_block_17))))))))))))))))

theorem xstrings_Repeat_ok (s : List UInt8) (c : Nat) (hc : c ≤ 9223372036854775807) (hl : s.length * c ≤ 140737488355328) (w : World) : Fn 183 [S s, .int .i64 c] w (fun r _ => r = S (Lib.repeatL s c)) :=
  Calls.mono (Try.strings_Repeat ⟨⟨s⟩⟩ c w hc hl) fun _ _ ⟨he, hb⟩ => ⟨_, he, hb, rfl⟩
def IsCallB (c : UInt8) : Prop := c.toNat = 112 ∨ c.toNat = 98 ∨ c.toNat = 115
instance (c : UInt8) : Decidable (IsCallB c) := by unfold IsCallB; infer_instance
theorem iisCall_ok (l : List UInt8) (w : World) : Fn 142 [S l] w (fun r _ => r = .bool (decide (l = [112] ∨ l = [98] ∨ l = [115]))) := by
  (refine callsV_of mix Try.func142 c_iisCall ?_; simp only [↓vsd, vsn, gW, qd, qv, ev, pick, argE, List.map_cons, List.map_nil, Option.map_some, Option.map_none, zipE, List.cons_append, List.nil_append, ne_eq, eq_self, forall_const, implies_true, if_true, if_false, reduceIte, List.cons.injEq, reduceCtorEq, Nat.reduceEqDiff, List.length_nil, List.length_cons, Nat.reduceAdd, Nat.reduceLT, List.set_cons_zero, List.set_cons_succ, ↓us_iisCall, r_iisCall])
  refine ⟨Ext.refl _, ?_⟩
  simp only [← Bool.decide_or, or_assoc]
theorem icut_ok (l : List UInt8) (hl : l.length ≤ 1000000000) (w : World) : Fn 176 [S l] w (fun r _ => r = S (l.take 61)) := by
  (refine callsV_of mix Try.func176 c_icut ?_; simp only [↓vsd, vsn, gW, qd, qv, ev, pick, argE, List.map_cons, List.map_nil, Option.map_some, Option.map_none, zipE, List.cons_append, List.nil_append, ne_eq, eq_self, forall_const, implies_true, if_true, if_false, reduceIte, List.cons.injEq, reduceCtorEq, Nat.reduceEqDiff, List.length_nil, List.length_cons, Nat.reduceAdd, Nat.reduceLT, List.set_cons_zero, List.set_cons_succ, ↓us_icut, r_icut])
  have e : (if 61 < (l.length : Int) then (61 : Int) else (l.length : Int)) = ((min l.length 61 : Nat) : Int) := by split <;> omega
  rw [e]
  refine ⟨by omega, Ext.refl _, ?_⟩
  congr 1
  rw [Int.toNat_natCast]
  by_cases h : l.length ≤ 61
  · rw [Nat.min_eq_left h, List.take_length, List.take_of_length_le h]
  · rw [Nat.min_eq_right (by omega)]
theorem iareCalls_one (c : UInt8) (w : World) : Fn 159 [S [c]] w (fun r _ => r = .bool (decide (IsCallB c))) := by
  (refine callsV_of mix Try.func159 c_iareCalls ?_; simp only [↓vsd, vsn, gW, qd, qv, ev, pick, argE, List.map_cons, List.map_nil, Option.map_some, Option.map_none, zipE, List.cons_append, List.nil_append, ne_eq, eq_self, forall_const, implies_true, if_true, if_false, reduceIte, List.cons.injEq, reduceCtorEq, Nat.reduceEqDiff, List.length_nil, List.length_cons, Nat.reduceAdd, Nat.reduceLT, List.set_cons_zero, List.set_cons_succ, ↓us_iareCalls, r_iareCalls])
  refine m_upto 1 (fun k vs w' => vs = [.int .i64 k] ∧ (0 < k → IsCallB c) ∧ Ext w w') ⟨rfl, fun h => by omega, Ext.refl _⟩ ?_
  rintro k vs w1 hk ⟨rfl, hc, hx⟩
  by_cases hlt : k < 1
  · obtain rfl : k = 0 := by omega
    have hltI : ((0 : Nat) : Int) < ((1 : Nat) : Int) := by decide
    have hltJ : ¬ ((1 : Nat) : Int) ≤ ((0 : Nat) : Int) := by decide
    simp only [↓vsd, vsn, gW, qd, qv, ev, pick, argE, List.map_cons, List.map_nil, Option.map_some, Option.map_none, zipE, List.cons_append, List.nil_append, ne_eq, eq_self, forall_const, implies_true, if_true, if_false, reduceIte, List.cons.injEq, reduceCtorEq, Nat.reduceEqDiff, List.length_nil, List.length_cons, Nat.reduceAdd, Nat.reduceLT, List.set_cons_zero, List.set_cons_succ, ↓us_iareCalls, r_iareCalls, hltI, hltJ]
    refine ⟨inR_i64 (by decide), by decide, m_call (iisCall_ok _ _) ?_⟩
    rintro _ w2 hx2 rfl
    have e : (List.drop 0 (List.take 1 [c]) = [112] ∨ List.drop 0 (List.take 1 [c]) = [98] ∨ List.drop 0 (List.take 1 [c]) = [115]) = IsCallB c := by
      have h1 (n : Nat) (hn : n < 256) : (c.toNat = n) = (c = UInt8.ofNat n) := propext ⟨fun h => u8_eq h, fun h => by rw [h, u8_nat hn]⟩
      simp only [List.take_succ_cons, List.take_nil, List.drop_zero, List.cons.injEq, and_true, IsCallB, h1 112 (by decide), h1 98 (by decide), h1 115 (by decide)]
      rfl
    simp only [↓vsd, vsn, gW, qd, qv, ev, pick, argE, List.map_cons, List.map_nil, Option.map_some, Option.map_none, zipE, List.cons_append, List.nil_append, ne_eq, eq_self, forall_const, implies_true, if_true, if_false, reduceIte, List.cons.injEq, reduceCtorEq, Nat.reduceEqDiff, List.length_nil, List.length_cons, Nat.reduceAdd, Nat.reduceLT, List.set_cons_zero, List.set_cons_succ, ↓us_iareCalls, r_iareCalls, e]
    refine ⟨fun hno => ⟨hx.trans hx2, by simp only [hno, decide_false]⟩, fun hy => ⟨inR_i64 (by decide), UpTo.next hlt ⟨rfl, fun _ => hy, hx.trans hx2⟩⟩⟩
  · obtain rfl : k = 1 := by omega
    have hltI : ¬ ((1 : Nat) : Int) < ((1 : Nat) : Int) := by decide
    simp only [↓vsd, vsn, gW, qd, qv, ev, pick, argE, List.map_cons, List.map_nil, Option.map_some, Option.map_none, zipE, List.cons_append, List.nil_append, ne_eq, eq_self, forall_const, implies_true, if_true, if_false, reduceIte, List.cons.injEq, reduceCtorEq, Nat.reduceEqDiff, List.length_nil, List.length_cons, Nat.reduceAdd, Nat.reduceLT, List.set_cons_zero, List.set_cons_succ, ↓us_iareCalls, r_iareCalls, hltI]
    exact ⟨hx, by simp [hc]⟩
/-- A reader's cells. -/
def fP (s : List UInt8) (a : Int) (mp nm : Value) (dep most : Int) : List Value := [S s, .int .i64 a, mp, nm, .int .i64 dep, .int .i64 most]
theorem fPg (s : List UInt8) (a : Int) (mp nm : Value) (dep most : Int) : (∀ u, (fP s a mp nm dep most).getD 0 u = S s) ∧ (∀ u, (fP s a mp nm dep most).getD 1 u = .int .i64 a) ∧ (∀ u, (fP s a mp nm dep most).getD 2 u = mp) ∧ (∀ u, (fP s a mp nm dep most).getD 3 u = nm) ∧
    (∀ u, (fP s a mp nm dep most).getD 4 u = .int .i64 dep) ∧ (∀ u, (fP s a mp nm dep most).getD 5 u = .int .i64 most) ∧ (fP s a mp nm dep most).length = 6 := ⟨fun _ => rfl, fun _ => rfl, fun _ => rfl, fun _ => rfl, fun _ => rfl, fun _ => rfl, rfl⟩
/-- The entries of the known names. -/
def knE (kn : List (UInt8 × List UInt8)) : List (Value × Value) := kn.map fun p => (.int .u8 (p.1.toNat : Nat), S p.2)
theorem mapAt_grown {w w' : World} {m : Nat} {en : List (Value × Value)} {r : Option Nat} (h : mapAt w (.map (some m)) = some en) (hg : w.grownBy w' r) (hne : some m ≠ r) : mapAt w' (.map (some m)) = some en := by
  simp only [mapAt] at h ⊢
  cases hb : w.heap[m]? with
  | none => rw [hb] at h; cases h
  | some o =>
    have hlt := (Array.getElem?_eq_some_iff.1 hb).1
    rw [hg.block m hlt hne]
    exact h
theorem gdrw {w w' : World} {r : Option Nat} (h : w.grownBy w' r) : w.grownBy w'.drew r := ⟨h.os, h.tape, h.output, h.size, h.block⟩
theorem gudw {w w' : World} {r : Option Nat} (h : w.drew.grownBy w' r) : w.grownBy w' r := ⟨h.os, h.tape, h.output, h.size, h.block⟩
theorem iprogram_next_ok (s : List UInt8) (a : Nat) (mp nm : Value) (dep most : Int) (b : Nat) (c : UInt8) (w : World) (hb : Blk w b (fP s a mp nm dep most) 115) :
    Fn 157 [.pointer (some ⟨b, 0, none⟩), .int .u8 c.toNat] w (fun r _ => r = .bool (decide (a < s.length ∧ (s.getD a 0).toNat = c.toNat))) := by
  (refine callsV_of mix Try.func157 c_iprogram_next ?_; simp only [↓vsd, vsn, gW, qd, qv, ev, pick, argE, List.map_cons, List.map_nil, Option.map_some, Option.map_none, zipE, List.cons_append, List.nil_append, ne_eq, eq_self, forall_const, implies_true, if_true, if_false, reduceIte, List.cons.injEq, reduceCtorEq, Nat.reduceEqDiff, List.length_nil, List.length_cons, Nat.reduceAdd, Nat.reduceLT, List.set_cons_zero, List.set_cons_succ, ↓us_iprogram_next, r_iprogram_next])
  simp only [↓vsd, vsn, gW, qd, qv, ev, pick, argE, List.map_cons, List.map_nil, Option.map_some, Option.map_none, zipE, List.cons_append, List.nil_append, ne_eq, eq_self, forall_const, implies_true, if_true, if_false, reduceIte, List.cons.injEq, reduceCtorEq, Nat.reduceEqDiff, List.length_nil, List.length_cons, Nat.reduceAdd, Nat.reduceLT, List.set_cons_zero, List.set_cons_succ, ↓us_iprogram_next, r_iprogram_next, hb.facts, fPg]
  refine ⟨fun _ => by omega, Ext.refl _, ?_⟩
  rw [← Bool.decide_and]
  congr 1
  exact propext ⟨fun h => ⟨by omega, by omega⟩, fun h => ⟨by omega, by omega⟩⟩
theorem iprogram_isDefinition_ok (s : List UInt8) (a : Nat) (ha : a ≤ 100000) (mp nm : Value) (dep most : Int) (b : Nat) (w : World) (hb : Blk w b (fP s a mp nm dep most) 115) :
    Fn 155 [.pointer (some ⟨b, 0, none⟩)] w (fun r _ => r = .bool (decide (a + 1 < s.length ∧ (65 ≤ (s.getD a 0).toNat ∧ (s.getD a 0).toNat ≤ 90) ∧ (s.getD (a + 1) 0).toNat = 61))) := by
  (refine callsV_of mix Try.func155 c_iprogram_isDefinition ?_; simp only [↓vsd, vsn, gW, qd, qv, ev, pick, argE, List.map_cons, List.map_nil, Option.map_some, Option.map_none, zipE, List.cons_append, List.nil_append, ne_eq, eq_self, forall_const, implies_true, if_true, if_false, reduceIte, List.cons.injEq, reduceCtorEq, Nat.reduceEqDiff, List.length_nil, List.length_cons, Nat.reduceAdd, Nat.reduceLT, List.set_cons_zero, List.set_cons_succ, ↓us_iprogram_isDefinition, r_iprogram_isDefinition])
  simp only [↓vsd, vsn, gW, qd, qv, ev, pick, argE, List.map_cons, List.map_nil, Option.map_some, Option.map_none, zipE, List.cons_append, List.nil_append, ne_eq, eq_self, forall_const, implies_true, if_true, if_false, reduceIte, List.cons.injEq, reduceCtorEq, Nat.reduceEqDiff, List.length_nil, List.length_cons, Nat.reduceAdd, Nat.reduceLT, List.set_cons_zero, List.set_cons_succ, ↓us_iprogram_isDefinition, r_iprogram_isDefinition, hb.facts, fPg]
  refine ⟨inR_i64 (by omega), fun _ => by omega, fun _ => by omega, fun _ => inR_i64 (by omega), fun _ => by omega, Ext.refl _, ?_⟩
  simp only [← Bool.decide_and]
  congr 1
  exact propext ⟨fun h => ⟨by omega, by omega, by omega⟩, fun h => ⟨⟨⟨by omega, by omega⟩, by omega⟩, by omega⟩⟩
/-- What a block's reading leaves. -/
def BlkOut (s : List UInt8) (mp nm : Value) (dep b : Nat) (a : Nat) (w : World) (R : Option (List UInt8 × Nat × Nat)) (r : Value) (w' : World) : Prop := ∃ a' most' : Nat, Blk w' b (fP s a' mp nm dep most') 115 ∧ w.grownBy w' (some b) ∧ a ≤ a' ∧ a' ≤ s.length ∧ most' ≤ 600 ∧
  match R with
  | some (out, a1, most1) => r = .tuple ⟨[S out, .bool true]⟩ ∧ a' = a1 ∧ most' = most1 ∧ out.length ≤ 61
  | none => (∃ o, r = .tuple ⟨[S o, .bool false]⟩) ∨ ∃ o, r = .tuple ⟨[S o, .bool true]⟩ ∧ a' < s.length ∧ (s.getD a' 0).toNat ≠ 41 ∧ (s.getD a' 0).toNat ≠ 59
def BlockOk (f : Nat) : Prop := ∀ (s : List UInt8) (kn : List (UInt8 × List UInt8)) (km : Nat) (nm : Value) (dep most a b : Nat) (w : World), s.length - a < f → a ≤ s.length → s.length ≤ 200 → dep + (s.length - a) ≤ 600 → most ≤ 600 → (∀ p ∈ kn, p.2.length ≤ 61) → km ≠ b →
  Blk w b (fP s a (.map (some km)) nm dep most) 115 → mapAt w (.map (some km)) = some (knE kn) → CallsV Try.prog 156 [.pointer (some ⟨b, 0, none⟩)] w (BlkOut s (.map (some km)) nm dep b a w (blk s kn f a [] false dep most))
theorem iprogram_repeated_ok (f : Nat) (hB : BlockOk f) (s : List UInt8) (kn : List (UInt8 × List UInt8)) (km : Nat) (nm : Value) (dep most a b : Nat) (w : World) (hf : s.length - a < f + 1) (ha : a < s.length) (hs : s.length ≤ 200) (hd : dep + (s.length - a) ≤ 600) (hm : most ≤ 600) (hkn : ∀ p ∈ kn, p.2.length ≤ 61) (hkb : km ≠ b)
    (hb : Blk w b (fP s a (.map (some km)) nm dep most) 115) (hmp : mapAt w (.map (some km)) = some (knE kn)) :
    CallsV Try.prog 175 [.pointer (some ⟨b, 0, none⟩)] w (fun r w' => ∃ a' most' : Nat, Blk w' b (fP s a' (.map (some km)) nm dep most') 115 ∧ w.grownBy w' (some b) ∧ a ≤ a' ∧ a' ≤ s.length ∧ most' ≤ 600 ∧
      match blk s kn f (a + 1) [] false (dep + 1) (max most (dep + 1)) with
      | none => ∃ o, r = .tuple ⟨[S o, .bool false]⟩
      | some (part, a1, most1) =>
        if a1 + 1 < s.length ∧ (s.getD a1 0).toNat = 41 ∧ 50 ≤ (s.getD (a1 + 1) 0).toNat ∧ (s.getD (a1 + 1) 0).toNat ≤ 57 then
          r = .tuple ⟨[S ((Lib.repeatL part ((s.getD (a1 + 1) 0).toNat - 48)).take 61), .bool true]⟩ ∧ a' = a1 + 2 ∧ most' = most1
        else ∃ o, r = .tuple ⟨[S o, .bool false]⟩) := by
  (refine callsV_of mix Try.func175 c_iprogram_repeated ?_; simp only [↓vsd, vsn, gW, qd, qv, ev, pick, argE, List.map_cons, List.map_nil, Option.map_some, Option.map_none, zipE, List.cons_append, List.nil_append, ne_eq, eq_self, forall_const, implies_true, if_true, if_false, reduceIte, List.cons.injEq, reduceCtorEq, Nat.reduceEqDiff, List.length_nil, List.length_cons, Nat.reduceAdd, Nat.reduceLT, List.set_cons_zero, List.set_cons_succ, ↓us_iprogram_repeated, r_iprogram_repeated])
  simp only [↓vsd, vsn, gW, qd, qv, ev, pick, argE, List.map_cons, List.map_nil, Option.map_some, Option.map_none, zipE, List.cons_append, List.nil_append, ne_eq, eq_self, forall_const, implies_true, if_true, if_false, reduceIte, List.cons.injEq, reduceCtorEq, Nat.reduceEqDiff, List.length_nil, List.length_cons, Nat.reduceAdd, Nat.reduceLT, List.set_cons_zero, List.set_cons_succ, ↓us_iprogram_repeated, r_iprogram_repeated, hb.facts, fPg]
  refine ⟨inR_i64 (by omega), m_st hb rfl (by decide : 1 + 1 ≤ 6) (fI_one _) ?_⟩
  rintro w1 hb1' hu1
  have hb1 : Blk w1 b (fP s (a + 1 : Nat) (.map (some km)) nm dep most) 115 := hb1'
  simp only [↓vsd, vsn, gW, qd, qv, ev, pick, argE, List.map_cons, List.map_nil, Option.map_some, Option.map_none, zipE, List.cons_append, List.nil_append, ne_eq, eq_self, forall_const, implies_true, if_true, if_false, reduceIte, List.cons.injEq, reduceCtorEq, Nat.reduceEqDiff, List.length_nil, List.length_cons, Nat.reduceAdd, Nat.reduceLT, List.set_cons_zero, List.set_cons_succ, ↓us_iprogram_repeated, r_iprogram_repeated, hb1.facts, fPg]
  refine ⟨inR_i64 (by omega), m_st hb1 rfl (by decide : 4 + 1 ≤ 6) (fI_one _) ?_⟩
  rintro w2 hb2' hu2
  have hb2 : Blk w2 b (fP s (a + 1 : Nat) (.map (some km)) nm (dep + 1 : Nat) most) 115 := hb2'
  have hmx : (if (most : Int) < ((dep + 1 : Nat) : Int) then ((dep + 1 : Nat) : Int) else (most : Int)) = ((max most (dep + 1) : Nat) : Int) := by split <;> omega
  simp only [↓vsd, vsn, gW, qd, qv, ev, pick, argE, List.map_cons, List.map_nil, Option.map_some, Option.map_none, zipE, List.cons_append, List.nil_append, ne_eq, eq_self, forall_const, implies_true, if_true, if_false, reduceIte, List.cons.injEq, reduceCtorEq, Nat.reduceEqDiff, List.length_nil, List.length_cons, Nat.reduceAdd, Nat.reduceLT, List.set_cons_zero, List.set_cons_succ, ↓us_iprogram_repeated, r_iprogram_repeated, hb2.facts, fPg, hmx]
  have hb2d : Blk w2.drew b (fP s (a + 1 : Nat) (.map (some km)) nm (dep + 1 : Nat) most) 115 := hb2
  refine m_st hb2d rfl (by decide : 5 + 1 ≤ 6) (fI_one _) ?_
  rintro w3 hb3' hu3
  have hb3 : Blk w3 b (fP s (a + 1 : Nat) (.map (some km)) nm (dep + 1 : Nat) (max most (dep + 1) : Nat)) 115 := hb3'
  have hg3 : w.grownBy w3 (some b) := grown_trans (grown_trans hu1.grown hu2.grown) (gudw hu3.grown)
  have hmp3 : mapAt w3 (.map (some km)) = some (knE kn) := mapAt_grown hmp hg3 (by simpa using hkb)
  simp only [↓vsd, vsn, gW, qd, qv, ev, pick, argE, List.map_cons, List.map_nil, Option.map_some, Option.map_none, zipE, List.cons_append, List.nil_append, ne_eq, eq_self, forall_const, implies_true, if_true, if_false, reduceIte, List.cons.injEq, reduceCtorEq, Nat.reduceEqDiff, List.length_nil, List.length_cons, Nat.reduceAdd, Nat.reduceLT, List.set_cons_zero, List.set_cons_succ, ↓us_iprogram_repeated, r_iprogram_repeated]
  have hcall := hB s kn km nm (dep + 1) (max most (dep + 1)) (a + 1) b w3 (by omega) (by omega) hs (by omega) (by omega) hkn hkb hb3 hmp3
  refine m_callw (.inl rfl) hcall ?_
  rintro r w4 ⟨a4, most4, hb4, hg4, ha4, hal4, hmm4, hR⟩
  have hg14 := grown_trans hg3 hg4
  cases hblk : blk s kn f (a + 1) [] false (dep + 1) (max most (dep + 1)) with
  | none =>
    rw [hblk] at hR
    rcases hR with ⟨o, rfl⟩ | ⟨o, rfl, hlt4, hne1, hne2⟩
    · simp only [↓vsd, vsn, gW, qd, qv, ev, pick, argE, List.map_cons, List.map_nil, Option.map_some, Option.map_none, zipE, List.cons_append, List.nil_append, ne_eq, eq_self, forall_const, implies_true, if_true, if_false, reduceIte, List.cons.injEq, reduceCtorEq, Nat.reduceEqDiff, List.length_nil, List.length_cons, Nat.reduceAdd, Nat.reduceLT, List.set_cons_zero, List.set_cons_succ, ↓us_iprogram_repeated, r_iprogram_repeated, hb4.facts, fPg]
      refine ⟨inR_i64 (by omega), m_st hb4 rfl (by decide : 4 + 1 ≤ 6) (fI_one _) ?_⟩
      rintro w5 hb5' hu5
      have hb5 : Blk w5 b (fP s a4 (.map (some km)) nm dep most4) 115 := by
        have e : ((dep + 1 : Nat) : Int) - 1 = (dep : Nat) := by omega
        rw [e] at hb5'
        exact hb5'
      have hg5 := grown_trans hg14 hu5.grown
      simp only [↓vsd, vsn, gW, qd, qv, ev, pick, argE, List.map_cons, List.map_nil, Option.map_some, Option.map_none, zipE, List.cons_append, List.nil_append, ne_eq, eq_self, forall_const, implies_true, if_true, if_false, reduceIte, List.cons.injEq, reduceCtorEq, Nat.reduceEqDiff, List.length_nil, List.length_cons, Nat.reduceAdd, Nat.reduceLT, List.set_cons_zero, List.set_cons_succ, ↓us_iprogram_repeated, r_iprogram_repeated, hb5.facts, fPg]
      exact ⟨a4, most4, hb5, gdrw hg5, by omega, by omega, by omega, _, rfl⟩
    · simp only [↓vsd, vsn, gW, qd, qv, ev, pick, argE, List.map_cons, List.map_nil, Option.map_some, Option.map_none, zipE, List.cons_append, List.nil_append, ne_eq, eq_self, forall_const, implies_true, if_true, if_false, reduceIte, List.cons.injEq, reduceCtorEq, Nat.reduceEqDiff, List.length_nil, List.length_cons, Nat.reduceAdd, Nat.reduceLT, List.set_cons_zero, List.set_cons_succ, ↓us_iprogram_repeated, r_iprogram_repeated, hb4.facts, fPg]
      refine ⟨inR_i64 (by omega), m_st hb4 rfl (by decide : 4 + 1 ≤ 6) (fI_one _) ?_⟩
      rintro w5 hb5' hu5
      have hb5 : Blk w5 b (fP s a4 (.map (some km)) nm dep most4) 115 := by
        have e : ((dep + 1 : Nat) : Int) - 1 = (dep : Nat) := by omega
        rw [e] at hb5'
        exact hb5'
      have hg5 := grown_trans hg14 hu5.grown
      simp only [↓vsd, vsn, gW, qd, qv, ev, pick, argE, List.map_cons, List.map_nil, Option.map_some, Option.map_none, zipE, List.cons_append, List.nil_append, ne_eq, eq_self, forall_const, implies_true, if_true, if_false, reduceIte, List.cons.injEq, reduceCtorEq, Nat.reduceEqDiff, List.length_nil, List.length_cons, Nat.reduceAdd, Nat.reduceLT, List.set_cons_zero, List.set_cons_succ, ↓us_iprogram_repeated, r_iprogram_repeated, hb5.facts, fPg]
      refine m_call (iprogram_next_ok s a4 _ _ _ _ b 41 _ hb5) ?_
      rintro _ w6 hx6 rfl
      have hx6 := ud hx6
      have hb6 := hb5.ext hx6
      have hno : decide (a4 < s.length ∧ (s.getD a4 0).toNat = (41 : UInt8).toNat) = false := decide_eq_false fun h => hne1 h.2
      simp only [↓vsd, vsn, gW, qd, qv, ev, pick, argE, List.map_cons, List.map_nil, Option.map_some, Option.map_none, zipE, List.cons_append, List.nil_append, ne_eq, eq_self, forall_const, implies_true, if_true, if_false, reduceIte, List.cons.injEq, reduceCtorEq, Nat.reduceEqDiff, List.length_nil, List.length_cons, Nat.reduceAdd, Nat.reduceLT, List.set_cons_zero, List.set_cons_succ, ↓us_iprogram_repeated, r_iprogram_repeated, hb5.facts, hb6.facts, fPg, hno]
      exact ⟨a4, most4, hb6, grown_trans hg5 (grown_ext _ hx6), by omega, by omega, by omega, _, rfl⟩
  | some p =>
    obtain ⟨part, a1, most1⟩ := p
    rw [hblk] at hR
    obtain ⟨rfl, rfl, rfl, hpl⟩ := hR
    simp only [↓vsd, vsn, gW, qd, qv, ev, pick, argE, List.map_cons, List.map_nil, Option.map_some, Option.map_none, zipE, List.cons_append, List.nil_append, ne_eq, eq_self, forall_const, implies_true, if_true, if_false, reduceIte, List.cons.injEq, reduceCtorEq, Nat.reduceEqDiff, List.length_nil, List.length_cons, Nat.reduceAdd, Nat.reduceLT, List.set_cons_zero, List.set_cons_succ, ↓us_iprogram_repeated, r_iprogram_repeated, hb4.facts, fPg]
    refine ⟨inR_i64 (by omega), m_st hb4 rfl (by decide : 4 + 1 ≤ 6) (fI_one _) ?_⟩
    rintro w5 hb5' hu5
    have hb5 : Blk w5 b (fP s a4 (.map (some km)) nm dep most4) 115 := by
      have e : ((dep + 1 : Nat) : Int) - 1 = (dep : Nat) := by omega
      rw [e] at hb5'
      exact hb5'
    have hg5 := grown_trans hg14 hu5.grown
    simp only [↓vsd, vsn, gW, qd, qv, ev, pick, argE, List.map_cons, List.map_nil, Option.map_some, Option.map_none, zipE, List.cons_append, List.nil_append, ne_eq, eq_self, forall_const, implies_true, if_true, if_false, reduceIte, List.cons.injEq, reduceCtorEq, Nat.reduceEqDiff, List.length_nil, List.length_cons, Nat.reduceAdd, Nat.reduceLT, List.set_cons_zero, List.set_cons_succ, ↓us_iprogram_repeated, r_iprogram_repeated, hb5.facts, fPg]
    refine m_call (iprogram_next_ok s a4 _ _ _ _ b 41 _ hb5) ?_
    rintro _ w6 hx6 rfl
    have hx6 := ud hx6
    have hb6 := hb5.ext hx6
    have hg6 := grown_trans hg5 (grown_ext _ hx6)
    by_cases h41 : a4 < s.length ∧ (s.getD a4 0).toNat = (41 : UInt8).toNat
    · have hyes : decide (a4 < s.length ∧ (s.getD a4 0).toNat = (41 : UInt8).toNat) = true := decide_eq_true h41
      simp only [↓vsd, vsn, gW, qd, qv, ev, pick, argE, List.map_cons, List.map_nil, Option.map_some, Option.map_none, zipE, List.cons_append, List.nil_append, ne_eq, eq_self, forall_const, implies_true, if_true, if_false, reduceIte, List.cons.injEq, reduceCtorEq, Nat.reduceEqDiff, List.length_nil, List.length_cons, Nat.reduceAdd, Nat.reduceLT, List.set_cons_zero, List.set_cons_succ, ↓us_iprogram_repeated, r_iprogram_repeated, hb5.facts, hb6.facts, fPg, hyes]
      have h41' : (s.getD a4 0).toNat = 41 := h41.2
      refine ⟨inR_i64 (by omega), fun hend => ⟨a4, most4, hb6, hg6, by omega, by omega, by omega, ?_⟩, fun hlt => ?_⟩
      · rw [if_neg (by omega)]
        exact ⟨_, rfl⟩
      · refine ⟨inR_i64 (by omega), by omega, inR_i64 (by omega), ?_⟩
        have hb6d : Blk w6.drew b (fP s a4 (.map (some km)) nm dep most4) 115 := hb6
        refine m_st hb6d rfl (by decide : 1 + 1 ≤ 6) (fI_one _) ?_
        rintro w7 hb7' hu7
        have hb7 : Blk w7 b (fP s (a4 + 2 : Nat) (.map (some km)) nm dep most4) 115 := hb7'
        have hg7 : w.grownBy w7 (some b) := grown_trans hg6 (gudw hu7.grown)
        simp only [↓vsd, vsn, gW, qd, qv, ev, pick, argE, List.map_cons, List.map_nil, Option.map_some, Option.map_none, zipE, List.cons_append, List.nil_append, ne_eq, eq_self, forall_const, implies_true, if_true, if_false, reduceIte, List.cons.injEq, reduceCtorEq, Nat.reduceEqDiff, List.length_nil, List.length_cons, Nat.reduceAdd, Nat.reduceLT, List.set_cons_zero, List.set_cons_succ, ↓us_iprogram_repeated, r_iprogram_repeated]
        refine ⟨fun hbad => ⟨a4 + 2, most4, hb7, hg7, by omega, by omega, by omega, ?_⟩, fun hgood => ?_⟩
        · rw [if_neg (by omega)]
          exact ⟨_, rfl⟩
        · obtain ⟨q, hq⟩ : ∃ q, (s.getD (a4 + 1) 0).toNat = 48 + q := ⟨(s.getD (a4 + 1) 0).toNat - 48, by omega⟩
          have e48 : ((s.getD (a4 + 1) 0).toNat : Int) - 48 = (q : Nat) := by omega
          have e48' : (s.getD (a4 + 1) 0).toNat - 48 = q := by omega
          rw [e48, e48']
          have hpq : part.length * q ≤ 61 * 9 := Nat.mul_le_mul hpl (by omega)
          refine ⟨inR_u8 (by omega), inR_i64 (by omega), m_call (xstrings_Repeat_ok part q (by omega) (by omega) _) ?_⟩
          rintro _ w8 hx8 rfl
          have hrl := Lib.repeatL_length part q
          rw [Nat.mul_comm] at hrl
          simp only [↓vsd, vsn, gW, qd, qv, ev, pick, argE, List.map_cons, List.map_nil, Option.map_some, Option.map_none, zipE, List.cons_append, List.nil_append, ne_eq, eq_self, forall_const, implies_true, if_true, if_false, reduceIte, List.cons.injEq, reduceCtorEq, Nat.reduceEqDiff, List.length_nil, List.length_cons, Nat.reduceAdd, Nat.reduceLT, List.set_cons_zero, List.set_cons_succ, ↓us_iprogram_repeated, r_iprogram_repeated]
          refine m_call (icut_ok _ (by omega) _) ?_
          rintro _ w9 hx9 rfl
          simp only [↓vsd, vsn, gW, qd, qv, ev, pick, argE, List.map_cons, List.map_nil, Option.map_some, Option.map_none, zipE, List.cons_append, List.nil_append, ne_eq, eq_self, forall_const, implies_true, if_true, if_false, reduceIte, List.cons.injEq, reduceCtorEq, Nat.reduceEqDiff, List.length_nil, List.length_cons, Nat.reduceAdd, Nat.reduceLT, List.set_cons_zero, List.set_cons_succ, ↓us_iprogram_repeated, r_iprogram_repeated]
          refine ⟨a4 + 2, most4, hb7.ext (hx8.trans hx9), grown_trans hg7 (grown_ext _ (hx8.trans hx9)), by omega, by omega, by omega, ?_⟩
          rw [if_pos (by omega)]
          first | rfl | exact ⟨rfl, rfl, rfl⟩ | simp
    · have hno : decide (a4 < s.length ∧ (s.getD a4 0).toNat = (41 : UInt8).toNat) = false := decide_eq_false h41
      simp only [↓vsd, vsn, gW, qd, qv, ev, pick, argE, List.map_cons, List.map_nil, Option.map_some, Option.map_none, zipE, List.cons_append, List.nil_append, ne_eq, eq_self, forall_const, implies_true, if_true, if_false, reduceIte, List.cons.injEq, reduceCtorEq, Nat.reduceEqDiff, List.length_nil, List.length_cons, Nat.reduceAdd, Nat.reduceLT, List.set_cons_zero, List.set_cons_succ, ↓us_iprogram_repeated, r_iprogram_repeated, hb5.facts, hb6.facts, fPg, hno]
      refine ⟨a4, most4, hb6, hg6, by omega, by omega, by omega, ?_⟩
      rw [if_neg (fun h => h41 ⟨by omega, h.2.1⟩)]
      exact ⟨_, rfl⟩
theorem lk_kn (kn : List (UInt8 × List UInt8)) (c : UInt8) : lkE (.int .u8) (.int .u8 (c.toNat : Nat)) (knE kn) = some ((kn.lookup c).map S) := by
  induction kn with
  | nil => rfl
  | cons p kn ih =>
    obtain ⟨d, t⟩ := p
    simp only [knE, List.map_cons, lkE, Instr.sameNow, if_true, List.lookup_cons]
    by_cases h : c = d
    · subst h
      simp
    · have h1 : (((c.toNat : Nat) : Int) == ((d.toNat : Nat) : Int)) = false := by
        rw [beq_eq_false_iff_ne]
        exact fun e => h (UInt8.toNat_inj.1 (by omega))
      have h2 : (c == d) = false := by rw [beq_eq_false_iff_ne]; exact h
      rw [h1, h2]
      exact ih
theorem mp_facts {w : World} {km : Nat} {kn : List (UInt8 × List UInt8)} (h : mapAt w (.map (some km)) = some (knE kn)) (c : UInt8) :
    (∀ co z, mlkV w co (.int .u8) z (.map (some km)) (.int .u8 (c.toNat : Nat)) = mlkR co z (some ((kn.lookup c).map S))) ∧ mlkD w (.int .u8) (.map (some km)) (.int .u8 (c.toNat : Nat)) = True := by
  unfold mlkV mlkD
  rw [h, Option.bind_some, lk_kn]
  exact ⟨fun _ _ => rfl, eq_true rfl⟩
theorem lookup_mem {kn : List (UInt8 × List UInt8)} {c : UInt8} {t : List UInt8} (h : kn.lookup c = some t) : (c, t) ∈ kn := by
  induction kn with
  | nil => cases h
  | cons p kn ih =>
    obtain ⟨d, u⟩ := p
    rw [List.lookup_cons] at h
    by_cases hc : c = d
    · subst hc
      simp at h
      subst h
      exact List.mem_cons_self
    · have h2 : (c == d) = false := by rw [beq_eq_false_iff_ne]; exact hc
      rw [h2] at h
      exact List.mem_cons_of_mem _ (ih h)
theorem iprogram_block_ok : ∀ f, BlockOk f := by
  intro f
  induction f using Nat.strongRecOn with
  | _ f ih =>
  intro s kn km nm dep most a0 b w hf ha0 hs hd hm hkn hkb hb hmp
  (refine callsV_of mix Try.func156 c_iprogram_block ?_; simp only [↓vsd, vsn, gW, qd, qv, ev, pick, argE, List.map_cons, List.map_nil, Option.map_some, Option.map_none, zipE, List.cons_append, List.nil_append, ne_eq, eq_self, forall_const, implies_true, if_true, if_false, reduceIte, List.cons.injEq, reduceCtorEq, Nat.reduceEqDiff, List.length_nil, List.length_cons, Nat.reduceAdd, Nat.reduceLT, List.set_cons_zero, List.set_cons_succ, ↓us_iprogram_block, r_iprogram_block])
  refine m_loop (fun m vs w' => ∃ (a most' : Nat) (out : List UInt8) (q : Bool), m ≤ f ∧ vs = [S out, .bool q] ∧ Blk w' b (fP s a (.map (some km)) nm dep most') 115 ∧ w.grownBy w' (some b) ∧ a0 ≤ a ∧ a ≤ s.length ∧ s.length - a < m ∧ most' ≤ 600 ∧ out.length ≤ 61 ∧
    blk s kn m a out q dep most' = blk s kn f a0 [] false dep most) f ⟨a0, most, [], false, Nat.le_refl _, rfl, hb, grown_refl _ _, Nat.le_refl _, ha0, hf, hm, by decide, rfl⟩ ?_
  rintro m vs w1 ⟨a, most1, out, q, hmf, rfl, hb1, hg1, ha1, ha2, ham, hm1, hol, hR⟩
  obtain ⟨g, rfl⟩ : ∃ g, m = g + 1 := ⟨m - 1, by omega⟩
  have hmp1 : mapAt w1 (.map (some km)) = some (knE kn) := mapAt_grown hmp hg1 (by simpa using hkb)
  rw [blk] at hR
  by_cases hend : s.length ≤ a
  · rw [if_pos hend] at hR
    have hI : ¬ (a : Int) < s.length := by omega
    simp only [↓vsd, vsn, gW, qd, qv, ev, pick, argE, List.map_cons, List.map_nil, Option.map_some, Option.map_none, zipE, List.cons_append, List.nil_append, ne_eq, eq_self, forall_const, implies_true, if_true, if_false, reduceIte, List.cons.injEq, reduceCtorEq, Nat.reduceEqDiff, List.length_nil, List.length_cons, Nat.reduceAdd, Nat.reduceLT, List.set_cons_zero, List.set_cons_succ, ↓us_iprogram_block, r_iprogram_block, hb1.facts, fPg, hI]
    refine ⟨a, most1, hb1, gdrw hg1, ha1, ha2, hm1, ?_⟩
    rw [← hR]
    cases q
    · exact .inl ⟨out, rfl⟩
    · exact ⟨rfl, rfl, rfl, hol⟩
  · rw [if_neg hend] at hR
    have hI : (a : Int) < s.length := by omega
    have hJ : ¬ (s.length : Int) ≤ a := by omega
    by_cases h40 : (s.getD a 0).toNat = 40
    · rw [if_pos h40] at hR
      have h40I : ((s.getD a 0).toNat : Int) = 40 := by omega
      simp only [↓vsd, vsn, gW, qd, qv, ev, pick, argE, List.map_cons, List.map_nil, Option.map_some, Option.map_none, zipE, List.cons_append, List.nil_append, ne_eq, eq_self, forall_const, implies_true, if_true, if_false, reduceIte, List.cons.injEq, reduceCtorEq, Nat.reduceEqDiff, List.length_nil, List.length_cons, Nat.reduceAdd, Nat.reduceLT, List.set_cons_zero, List.set_cons_succ, ↓us_iprogram_block, r_iprogram_block, hb1.facts, fPg, hI, hJ, h40I]
      have hb1d : Blk w1.drew.drew b (fP s a (.map (some km)) nm dep most1) 115 := hb1
      have hcall := iprogram_repeated_ok g (ih g (by omega)) s kn km nm dep most1 a b w1.drew.drew (by omega) (by omega) hs (by omega) hm1 hkn hkb hb1d hmp1
      refine ⟨by omega, m_callw (.inl rfl) hcall ?_⟩
      rintro r w2 ⟨a2, most2, hb2, hg2, ha2, hal2, hm2, hRr⟩
      have hg12 : w.grownBy w2 (some b) := grown_trans hg1 (gudw (gudw hg2))
      cases hbl : blk s kn g (a + 1) [] false (dep + 1) (max most1 (dep + 1)) with
      | none =>
        rw [hbl] at hRr hR
        obtain ⟨o, rfl⟩ := hRr
        simp only [↓vsd, vsn, gW, qd, qv, ev, pick, argE, List.map_cons, List.map_nil, Option.map_some, Option.map_none, zipE, List.cons_append, List.nil_append, ne_eq, eq_self, forall_const, implies_true, if_true, if_false, reduceIte, List.cons.injEq, reduceCtorEq, Nat.reduceEqDiff, List.length_nil, List.length_cons, Nat.reduceAdd, Nat.reduceLT, List.set_cons_zero, List.set_cons_succ, ↓us_iprogram_block, r_iprogram_block]
        refine ⟨a2, most2, hb2, hg12, by omega, hal2, hm2, ?_⟩
        rw [← hR]
        exact .inl ⟨_, rfl⟩
      | some p =>
        obtain ⟨part, a3, most3⟩ := p
        rw [hbl] at hRr hR
        simp only at hRr hR
        by_cases hc : a3 + 1 < s.length ∧ (s.getD a3 0).toNat = 41 ∧ 50 ≤ (s.getD (a3 + 1) 0).toNat ∧ (s.getD (a3 + 1) 0).toNat ≤ 57
        · rw [if_pos hc] at hRr hR
          have hba := blk_at (by omega : a + 1 ≤ s.length) hbl
          simp only at hba
          obtain ⟨rfl, rfl, rfl⟩ := hRr
          have hl2 : ((Lib.repeatL part ((s.getD (a3 + 1) 0).toNat - 48)).take 61).length ≤ 61 := by rw [List.length_take]; omega
          simp only [↓vsd, vsn, gW, qd, qv, ev, pick, argE, List.map_cons, List.map_nil, Option.map_some, Option.map_none, zipE, List.cons_append, List.nil_append, ne_eq, eq_self, forall_const, implies_true, if_true, if_false, reduceIte, List.cons.injEq, reduceCtorEq, Nat.reduceEqDiff, List.length_nil, List.length_cons, Nat.reduceAdd, Nat.reduceLT, List.set_cons_zero, List.set_cons_succ, ↓us_iprogram_block, r_iprogram_block]
          refine ⟨by omega, m_call (icut_ok _ (by rw [List.length_append]; omega) _) ?_⟩
          rintro _ w9 hx9 rfl
          simp only [↓vsd, vsn, gW, qd, qv, ev, pick, argE, List.map_cons, List.map_nil, Option.map_some, Option.map_none, zipE, List.cons_append, List.nil_append, ne_eq, eq_self, forall_const, implies_true, if_true, if_false, reduceIte, List.cons.injEq, reduceCtorEq, Nat.reduceEqDiff, List.length_nil, List.length_cons, Nat.reduceAdd, Nat.reduceLT, List.set_cons_zero, List.set_cons_succ, ↓us_iprogram_block, r_iprogram_block]
          exact ⟨g, by omega, a3 + 2, most2, _, true, by omega, ⟨rfl, rfl⟩, hb2.ext hx9, grown_trans hg12 (grown_ext _ hx9), by omega, by omega, by omega, by omega, by rw [List.length_take]; omega, hR⟩
        · rw [if_neg hc] at hRr hR
          obtain ⟨o, rfl⟩ := hRr
          simp only [↓vsd, vsn, gW, qd, qv, ev, pick, argE, List.map_cons, List.map_nil, Option.map_some, Option.map_none, zipE, List.cons_append, List.nil_append, ne_eq, eq_self, forall_const, implies_true, if_true, if_false, reduceIte, List.cons.injEq, reduceCtorEq, Nat.reduceEqDiff, List.length_nil, List.length_cons, Nat.reduceAdd, Nat.reduceLT, List.set_cons_zero, List.set_cons_succ, ↓us_iprogram_block, r_iprogram_block]
          refine ⟨a2, most2, hb2, hg12, by omega, hal2, hm2, ?_⟩
          rw [← hR]
          exact .inl ⟨_, rfl⟩
    · rw [if_neg h40] at hR
      have h40I : ¬ ((s.getD a 0).toNat : Int) = 40 := by omega
      by_cases hAZ : 65 ≤ (s.getD a 0).toNat ∧ (s.getD a 0).toNat ≤ 90
      · rw [if_pos hAZ] at hR
        have h65 : 65 ≤ ((s.getD a 0).toNat : Int) := by omega
        have h90 : ((s.getD a 0).toNat : Int) ≤ 90 := by omega
        have hmf := mp_facts hmp1 (s.getD a 0)
        have hr1 : ∀ z v, mlkR true z (some (some v)) = .tuple ⟨[v, .bool true]⟩ := fun _ _ => rfl
        have hr2 : ∀ z, mlkR true z (some none) = .tuple ⟨[z, .bool false]⟩ := fun _ => rfl
        have hb1d : Blk w1.drew.drew b (fP s a (.map (some km)) nm dep most1) 115 := hb1
        cases hlk : kn.lookup (s.getD a 0) with
        | none =>
          rw [hlk] at hR
          simp only [↓vsd, vsn, gW, qd, qv, ev, pick, argE, List.map_cons, List.map_nil, Option.map_some, Option.map_none, zipE, List.cons_append, List.nil_append, ne_eq, eq_self, forall_const, implies_true, if_true, if_false, reduceIte, List.cons.injEq, reduceCtorEq, Nat.reduceEqDiff, List.length_nil, List.length_cons, Nat.reduceAdd, Nat.reduceLT, List.set_cons_zero, List.set_cons_succ, ↓us_iprogram_block, r_iprogram_block, hb1.facts, fPg, hI, hJ, h40I, h65, h90, hmf, hlk, hr2]
          refine ⟨by omega, inR_i64 (by omega), m_st hb1d rfl (by decide : 1 + 1 ≤ 6) (fI_one _) ?_⟩
          rintro w2 hb2' hu2
          have hb2 : Blk w2 b (fP s (a + 1 : Nat) (.map (some km)) nm dep most1) 115 := hb2'
          simp only [↓vsd, vsn, gW, qd, qv, ev, pick, argE, List.map_cons, List.map_nil, Option.map_some, Option.map_none, zipE, List.cons_append, List.nil_append, ne_eq, eq_self, forall_const, implies_true, if_true, if_false, reduceIte, List.cons.injEq, reduceCtorEq, Nat.reduceEqDiff, List.length_nil, List.length_cons, Nat.reduceAdd, Nat.reduceLT, List.set_cons_zero, List.set_cons_succ, ↓us_iprogram_block, r_iprogram_block]
          refine ⟨a + 1, most1, hb2, grown_trans hg1 (gudw (gudw hu2.grown)), by omega, by omega, hm1, ?_⟩
          rw [← hR]
          exact .inl ⟨_, rfl⟩
        | some part =>
          rw [hlk] at hR
          have hpl := hkn _ (lookup_mem hlk)
          simp only at hpl
          simp only [↓vsd, vsn, gW, qd, qv, ev, pick, argE, List.map_cons, List.map_nil, Option.map_some, Option.map_none, zipE, List.cons_append, List.nil_append, ne_eq, eq_self, forall_const, implies_true, if_true, if_false, reduceIte, List.cons.injEq, reduceCtorEq, Nat.reduceEqDiff, List.length_nil, List.length_cons, Nat.reduceAdd, Nat.reduceLT, List.set_cons_zero, List.set_cons_succ, ↓us_iprogram_block, r_iprogram_block, hb1.facts, fPg, hI, hJ, h40I, h65, h90, hmf, hlk, hr1]
          refine ⟨by omega, inR_i64 (by omega), m_st hb1d rfl (by decide : 1 + 1 ≤ 6) (fI_one _) ?_⟩
          rintro w2 hb2' hu2
          have hb2 : Blk w2 b (fP s (a + 1 : Nat) (.map (some km)) nm dep most1) 115 := hb2'
          have hg12 : w.grownBy w2 (some b) := grown_trans hg1 (gudw (gudw hu2.grown))
          simp only [↓vsd, vsn, gW, qd, qv, ev, pick, argE, List.map_cons, List.map_nil, Option.map_some, Option.map_none, zipE, List.cons_append, List.nil_append, ne_eq, eq_self, forall_const, implies_true, if_true, if_false, reduceIte, List.cons.injEq, reduceCtorEq, Nat.reduceEqDiff, List.length_nil, List.length_cons, Nat.reduceAdd, Nat.reduceLT, List.set_cons_zero, List.set_cons_succ, ↓us_iprogram_block, r_iprogram_block]
          refine ⟨by omega, m_call (icut_ok _ (by rw [List.length_append]; omega) _) ?_⟩
          rintro _ w9 hx9 rfl
          simp only [↓vsd, vsn, gW, qd, qv, ev, pick, argE, List.map_cons, List.map_nil, Option.map_some, Option.map_none, zipE, List.cons_append, List.nil_append, ne_eq, eq_self, forall_const, implies_true, if_true, if_false, reduceIte, List.cons.injEq, reduceCtorEq, Nat.reduceEqDiff, List.length_nil, List.length_cons, Nat.reduceAdd, Nat.reduceLT, List.set_cons_zero, List.set_cons_succ, ↓us_iprogram_block, r_iprogram_block]
          exact ⟨g, by omega, a + 1, most1, _, true, by omega, ⟨rfl, rfl⟩, hb2.ext hx9, grown_trans hg12 (grown_ext _ hx9), by omega, by omega, by omega, by omega, by rw [List.length_take]; omega, hR⟩
      · rw [if_neg hAZ] at hR
        have hno : ¬ (65 ≤ ((s.getD a 0).toNat : Int) ∧ ((s.getD a 0).toNat : Int) ≤ 90) := by omega
        simp only [↓vsd, vsn, gW, qd, qv, ev, pick, argE, List.map_cons, List.map_nil, Option.map_some, Option.map_none, zipE, List.cons_append, List.nil_append, ne_eq, eq_self, forall_const, implies_true, if_true, if_false, reduceIte, List.cons.injEq, reduceCtorEq, Nat.reduceEqDiff, List.length_nil, List.length_cons, Nat.reduceAdd, Nat.reduceLT, List.set_cons_zero, List.set_cons_succ, ↓us_iprogram_block, r_iprogram_block, hb1.facts, fPg, hI, hJ, h40I, hno]
        have e1 : (s.take (a + 1)).drop a = [s.getD a 0] := by
          rw [List.take_add_one, List.drop_append, List.getD_eq_getElem?_getD, List.getElem?_eq_getElem (by omega)]
          simp [Nat.min_eq_left (show a ≤ s.length by omega)]
        rw [e1]
        refine ⟨by omega, inR_i64 (by omega), by omega, m_call (iareCalls_one _ _) ?_⟩
        rintro _ w2 hx2 rfl
        have hx2 := ud (ud (ud hx2))
        have hb2 := hb1.ext hx2
        have hg2 := grown_trans hg1 (grown_ext (some b) hx2)
        by_cases hcb : IsCallB (s.getD a 0)
        · rw [if_pos (show (s.getD a 0).toNat = 112 ∨ (s.getD a 0).toNat = 98 ∨ (s.getD a 0).toNat = 115 from hcb)] at hR
          simp only [↓vsd, vsn, gW, qd, qv, ev, pick, argE, List.map_cons, List.map_nil, Option.map_some, Option.map_none, zipE, List.cons_append, List.nil_append, ne_eq, eq_self, forall_const, implies_true, if_true, if_false, reduceIte, List.cons.injEq, reduceCtorEq, Nat.reduceEqDiff, List.length_nil, List.length_cons, Nat.reduceAdd, Nat.reduceLT, List.set_cons_zero, List.set_cons_succ, ↓us_iprogram_block, r_iprogram_block, hb1.facts, hb2.facts, fPg, hcb]
          rw [e1]
          have hb2d : Blk w2.drew b (fP s a (.map (some km)) nm dep most1) 115 := hb2
          refine ⟨inR_i64 (by omega), by omega, inR_i64 (by omega), m_st hb2d rfl (by decide : 1 + 1 ≤ 6) (fI_one _) ?_⟩
          rintro w3 hb3' hu3
          have hb3 : Blk w3 b (fP s (a + 1 : Nat) (.map (some km)) nm dep most1) 115 := hb3'
          have hg3 : w.grownBy w3 (some b) := grown_trans hg2 (gudw hu3.grown)
          simp only [↓vsd, vsn, gW, qd, qv, ev, pick, argE, List.map_cons, List.map_nil, Option.map_some, Option.map_none, zipE, List.cons_append, List.nil_append, ne_eq, eq_self, forall_const, implies_true, if_true, if_false, reduceIte, List.cons.injEq, reduceCtorEq, Nat.reduceEqDiff, List.length_nil, List.length_cons, Nat.reduceAdd, Nat.reduceLT, List.set_cons_zero, List.set_cons_succ, ↓us_iprogram_block, r_iprogram_block]
          refine ⟨by omega, m_call (icut_ok _ (by rw [List.length_append]; simp only [List.length_singleton]; omega) _) ?_⟩
          rintro _ w9 hx9 rfl
          simp only [↓vsd, vsn, gW, qd, qv, ev, pick, argE, List.map_cons, List.map_nil, Option.map_some, Option.map_none, zipE, List.cons_append, List.nil_append, ne_eq, eq_self, forall_const, implies_true, if_true, if_false, reduceIte, List.cons.injEq, reduceCtorEq, Nat.reduceEqDiff, List.length_nil, List.length_cons, Nat.reduceAdd, Nat.reduceLT, List.set_cons_zero, List.set_cons_succ, ↓us_iprogram_block, r_iprogram_block]
          exact ⟨g, by omega, a + 1, most1, _, true, by omega, ⟨rfl, rfl⟩, hb3.ext hx9, grown_trans hg3 (grown_ext _ hx9), by omega, by omega, by omega, by omega, by rw [List.length_take]; omega, hR⟩
        · rw [if_neg (show ¬ ((s.getD a 0).toNat = 112 ∨ (s.getD a 0).toNat = 98 ∨ (s.getD a 0).toNat = 115) from hcb)] at hR
          simp only [↓vsd, vsn, gW, qd, qv, ev, pick, argE, List.map_cons, List.map_nil, Option.map_some, Option.map_none, zipE, List.cons_append, List.nil_append, ne_eq, eq_self, forall_const, implies_true, if_true, if_false, reduceIte, List.cons.injEq, reduceCtorEq, Nat.reduceEqDiff, List.length_nil, List.length_cons, Nat.reduceAdd, Nat.reduceLT, List.set_cons_zero, List.set_cons_succ, ↓us_iprogram_block, r_iprogram_block, hb1.facts, hb2.facts, fPg, hcb]
          refine ⟨a, most1, hb2, hg2, ha1, ha2, hm1, ?_⟩
          rw [← hR]
          by_cases hst : (s.getD a 0).toNat = 41 ∨ (s.getD a 0).toNat = 59
          · rw [if_pos hst]
            cases q
            · exact .inl ⟨out, rfl⟩
            · exact ⟨rfl, rfl, rfl, hol⟩
          · rw [if_neg hst]
            cases q
            · exact .inl ⟨out, rfl⟩
            · exact .inr ⟨out, rfl, by omega, fun e => hst (.inl e), fun e => hst (.inr e)⟩
end Go.Proofs.Ytnocgihggdgkeaa
