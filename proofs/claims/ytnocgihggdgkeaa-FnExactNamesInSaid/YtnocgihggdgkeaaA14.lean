/-
  Programs of calls: what the program answers of one.
  Conditions: none.
-/
import Derived.Test.YtnocgihggdgkeaaA13
set_option linter.unusedSimpArgs false
set_option linter.unusedVariables false
set_option linter.defProp false
namespace Go.Proofs.Ytnocgihggdgkeaa
open Go Go.RowKit
def t_ireadProgram_1 : X := (.cond (.t 19) (.seq (.reg [2, 3, 4] [.q 20 [] (.mv (.t 5)), .q 2 [] (.mv (.t 20)), .q 3 [] (.mv (.s [])), .q 4 [] (.mv (.c (.bool false)))]) .ret) .skip)
theorem u_ireadProgram_1 (P : Program) (k : KT) (e : Env) (w : World) : vcK P t_ireadProgram_1 k e w = vcK P (.cond (.t 19) (.seq (.reg [2, 3, 4] [.q 20 [] (.mv (.t 5)), .q 2 [] (.mv (.t 20)), .q 3 [] (.mv (.s [])), .q 4 [] (.mv (.c (.bool false)))]) .ret) .skip) k e w := rfl
def t_ireadProgram_2 : X := (.cond (.t 22) .skip (.exit 0))
theorem u_ireadProgram_2 (P : Program) (k : KT) (e : Env) (w : World) : vcK P t_ireadProgram_2 k e w = vcK P (.cond (.t 22) .skip (.exit 0)) k e w := rfl
def t_ireadProgram_3 : X := (.cond (.t 59) (.seq (.reg [2, 3, 4] [.q 60 [] (.mv (.t 5)), .q 2 [] (.mv (.t 60)), .q 3 [] (.mv (.s [])), .q 4 [] (.mv (.c (.bool false)))]) .ret) .skip)
theorem u_ireadProgram_3 (P : Program) (k : KT) (e : Env) (w : World) : vcK P t_ireadProgram_3 k e w = vcK P (.cond (.t 59) (.seq (.reg [2, 3, 4] [.q 60 [] (.mv (.t 5)), .q 2 [] (.mv (.t 60)), .q 3 [] (.mv (.s [])), .q 4 [] (.mv (.c (.bool false)))]) .ret) .skip) k e w := rfl
def t_ireadProgram_4 : X := (.seq (.reg [0, 5, 6, 7, 59] [.q 50 [] (.mv (.t 8)), .q 51 [] (.not (.t 50)), .q 52 [] (.mv (.t 51)), .q 53 [(52, false)] (.mv (.t 10)), .q 54 [] (.pick (.t 52) (.c (.bool true)) (.t 53)), .q 55 [] (.mv (.t 54)), .q 56 [(55, false)] (.mv (.t 5)), .e (some 57) [(55, false)] (.call false 157 [(.t 56), (.c (.int .u8 59))]), .q 58 [(55, false)] (.not (.t 57)), .q 59 [] (.pick (.t 55) (.c (.bool true)) (.t 58))]) t_ireadProgram_3)
theorem u_ireadProgram_4 (P : Program) (k : KT) (e : Env) (w : World) : vcK P t_ireadProgram_4 k e w = vcK P (.seq (.reg [0, 5, 6, 7, 59] [.q 50 [] (.mv (.t 8)), .q 51 [] (.not (.t 50)), .q 52 [] (.mv (.t 51)), .q 53 [(52, false)] (.mv (.t 10)), .q 54 [] (.pick (.t 52) (.c (.bool true)) (.t 53)), .q 55 [] (.mv (.t 54)), .q 56 [(55, false)] (.mv (.t 5)), .e (some 57) [(55, false)] (.call false 157 [(.t 56), (.c (.int .u8 59))]), .q 58 [(55, false)] (.not (.t 57)), .q 59 [] (.pick (.t 55) (.c (.bool true)) (.t 58))]) t_ireadProgram_3) k e w := rfl
def t_ireadProgram_5 : X := (.drw [0, 5] [.q 74 [] (.mv (.t 5)), .q 75 [] (.mv (.t 5)), .q 76 [] (.nil (.t 75)), .q 77 [] (.fa 3 (.t 76)), .q 78 [] (.ld (.t 77)), .q 79 [] (.mv (.t 6)), .e (some 80) [] (.bsl 5 1 [(.t 79)]), .e (some 81) [] (.b2s (.t 80)), .e (some 82) [] (.bsl 9 1 [(.t 81)]), .e (some 83) [] (.app 22 9 1 16 [(S [])] 22 (.t 78) (.t 82)), .q 84 [] (.nil (.t 74)), .q 85 [] (.fa 3 (.t 84)), .e none [] (.st 1 (.t 85) (.t 83))])
theorem u_ireadProgram_5 (P : Program) (k : KT) (e : Env) (w : World) : vcK P t_ireadProgram_5 k e w = vcK P (.drw [0, 5] [.q 74 [] (.mv (.t 5)), .q 75 [] (.mv (.t 5)), .q 76 [] (.nil (.t 75)), .q 77 [] (.fa 3 (.t 76)), .q 78 [] (.ld (.t 77)), .q 79 [] (.mv (.t 6)), .e (some 80) [] (.bsl 5 1 [(.t 79)]), .e (some 81) [] (.b2s (.t 80)), .e (some 82) [] (.bsl 9 1 [(.t 81)]), .e (some 83) [] (.app 22 9 1 16 [(S [])] 22 (.t 78) (.t 82)), .q 84 [] (.nil (.t 74)), .q 85 [] (.fa 3 (.t 84)), .e none [] (.st 1 (.t 85) (.t 83))]) k e w := rfl
def t_ireadProgram_6 : X := (.seq (.reg [0, 5, 6] [.q 68 [] (.mv (.t 5)), .q 69 [] (.nil (.t 68)), .q 70 [] (.fa 2 (.t 69)), .q 71 [] (.ld (.t 70)), .q 72 [] (.mv (.t 6)), .q 73 [] (.mv (.t 7)), .e none [] (.mup (.int .u8) (.t 71) (.t 72) (.t 73))]) t_ireadProgram_5)
theorem u_ireadProgram_6 (P : Program) (k : KT) (e : Env) (w : World) : vcK P t_ireadProgram_6 k e w = vcK P (.seq (.reg [0, 5, 6] [.q 68 [] (.mv (.t 5)), .q 69 [] (.nil (.t 68)), .q 70 [] (.fa 2 (.t 69)), .q 71 [] (.ld (.t 70)), .q 72 [] (.mv (.t 6)), .q 73 [] (.mv (.t 7)), .e none [] (.mup (.int .u8) (.t 71) (.t 72) (.t 73))]) t_ireadProgram_5) k e w := rfl
def t_ireadProgram_7 : X := (.seq (.reg [0, 5, 6, 7] [.q 61 [] (.mv (.t 5)), .q 62 [] (.nil (.t 61)), .q 63 [] (.fa 1 (.t 62)), .q 64 [] (.ld (.t 63)), .q 65 [] (.bin .add (.t 64) (.c (.int .i64 1))), .q 66 [] (.nil (.t 61)), .q 67 [] (.fa 1 (.t 66)), .e none [] (.st 1 (.t 67) (.t 65))]) t_ireadProgram_6)
theorem u_ireadProgram_7 (P : Program) (k : KT) (e : Env) (w : World) : vcK P t_ireadProgram_7 k e w = vcK P (.seq (.reg [0, 5, 6, 7] [.q 61 [] (.mv (.t 5)), .q 62 [] (.nil (.t 61)), .q 63 [] (.fa 1 (.t 62)), .q 64 [] (.ld (.t 63)), .q 65 [] (.bin .add (.t 64) (.c (.int .i64 1))), .q 66 [] (.nil (.t 61)), .q 67 [] (.fa 1 (.t 66)), .e none [] (.st 1 (.t 67) (.t 65))]) t_ireadProgram_6) k e w := rfl
def t_ireadProgram_8 : X := (.seq (.seq (.reg [0, 5, 6, 7, 8, 10] [.q 42 [] (.mv (.t 5)), .q 43 [] (.nil (.t 42)), .q 44 [] (.fa 2 (.t 43)), .q 45 [] (.ld (.t 44)), .q 46 [] (.mv (.t 6)), .q 47 [] (.mlk true (.int .u8) (S []) (.t 45) (.t 46)), .q 41 [] (.mv (.t 47)), .q 48 [] (.ext 0 (.t 41)), .q 49 [] (.ext 1 (.t 41)), .q 9 [] (.mv (.t 48)), .q 10 [] (.mv (.t 49))]) t_ireadProgram_4) t_ireadProgram_7)
theorem u_ireadProgram_8 (P : Program) (k : KT) (e : Env) (w : World) : vcK P t_ireadProgram_8 k e w = vcK P (.seq (.seq (.reg [0, 5, 6, 7, 8, 10] [.q 42 [] (.mv (.t 5)), .q 43 [] (.nil (.t 42)), .q 44 [] (.fa 2 (.t 43)), .q 45 [] (.ld (.t 44)), .q 46 [] (.mv (.t 6)), .q 47 [] (.mlk true (.int .u8) (S []) (.t 45) (.t 46)), .q 41 [] (.mv (.t 47)), .q 48 [] (.ext 0 (.t 41)), .q 49 [] (.ext 1 (.t 41)), .q 9 [] (.mv (.t 48)), .q 10 [] (.mv (.t 49))]) t_ireadProgram_4) t_ireadProgram_7) k e w := rfl
def t_ireadProgram_9 : X := (.seq (.reg [0, 5, 6, 7, 8] [.q 37 [] (.mv (.t 5)), .e (some 38) [] (.call true 156 [(.t 37)]), .q 36 [] (.mv (.t 38)), .q 39 [] (.ext 0 (.t 36)), .q 40 [] (.ext 1 (.t 36)), .q 7 [] (.mv (.t 39)), .q 8 [] (.mv (.t 40))]) t_ireadProgram_8)
theorem u_ireadProgram_9 (P : Program) (k : KT) (e : Env) (w : World) : vcK P t_ireadProgram_9 k e w = vcK P (.seq (.reg [0, 5, 6, 7, 8] [.q 37 [] (.mv (.t 5)), .e (some 38) [] (.call true 156 [(.t 37)]), .q 36 [] (.mv (.t 38)), .q 39 [] (.ext 0 (.t 36)), .q 40 [] (.ext 1 (.t 36)), .q 7 [] (.mv (.t 39)), .q 8 [] (.mv (.t 40))]) t_ireadProgram_8) k e w := rfl
def t_ireadProgram_10 : X := (.seq (.reg [0, 5, 6] [.q 29 [] (.mv (.t 5)), .q 30 [] (.nil (.t 29)), .q 31 [] (.fa 1 (.t 30)), .q 32 [] (.ld (.t 31)), .q 33 [] (.bin .add (.t 32) (.c (.int .i64 2))), .q 34 [] (.nil (.t 29)), .q 35 [] (.fa 1 (.t 34)), .e none [] (.st 1 (.t 35) (.t 33))]) t_ireadProgram_9)
theorem u_ireadProgram_10 (P : Program) (k : KT) (e : Env) (w : World) : vcK P t_ireadProgram_10 k e w = vcK P (.seq (.reg [0, 5, 6] [.q 29 [] (.mv (.t 5)), .q 30 [] (.nil (.t 29)), .q 31 [] (.fa 1 (.t 30)), .q 32 [] (.ld (.t 31)), .q 33 [] (.bin .add (.t 32) (.c (.int .i64 2))), .q 34 [] (.nil (.t 29)), .q 35 [] (.fa 1 (.t 34)), .e none [] (.st 1 (.t 35) (.t 33))]) t_ireadProgram_9) k e w := rfl
def t_ireadProgram_11 : X := (.blk 1 (.seq (.reg [0, 5, 6] [.q 23 [] (.mv (.t 0)), .q 24 [] (.mv (.t 5)), .q 25 [] (.nil (.t 24)), .q 26 [] (.fa 1 (.t 25)), .q 27 [] (.ld (.t 26)), .q 28 [] (.idx (.t 23) (.t 27)), .q 6 [] (.mv (.t 28))]) t_ireadProgram_10))
theorem u_ireadProgram_11 (P : Program) (k : KT) (e : Env) (w : World) : vcK P t_ireadProgram_11 k e w = vcK P (.blk 1 (.seq (.reg [0, 5, 6] [.q 23 [] (.mv (.t 0)), .q 24 [] (.mv (.t 5)), .q 25 [] (.nil (.t 24)), .q 26 [] (.fa 1 (.t 25)), .q 27 [] (.ld (.t 26)), .q 28 [] (.idx (.t 23) (.t 27)), .q 6 [] (.mv (.t 28))]) t_ireadProgram_10)) k e w := rfl
def t_ireadProgram_12 : X := (.seq (.seq (.reg [0, 5, 22] [.q 21 [] (.mv (.t 5)), .e (some 22) [] (.call false 155 [(.t 21)])]) t_ireadProgram_2) t_ireadProgram_11)
theorem u_ireadProgram_12 (P : Program) (k : KT) (e : Env) (w : World) : vcK P t_ireadProgram_12 k e w = vcK P (.seq (.seq (.reg [0, 5, 22] [.q 21 [] (.mv (.t 5)), .e (some 22) [] (.call false 155 [(.t 21)])]) t_ireadProgram_2) t_ireadProgram_11) k e w := rfl
def t_ireadProgram_13 : X := (.seq (.drw [2, 3, 4] [.q 91 [] (.mv (.t 5)), .q 92 [] (.mv (.t 11)), .q 93 [] (.mv (.t 12)), .q 94 [] (.mv (.t 93)), .q 95 [(94, true)] (.mv (.t 5)), .q 96 [(94, true)] (.nil (.t 95)), .q 97 [(94, true)] (.fa 1 (.t 96)), .q 98 [(94, true)] (.ld (.t 97)), .q 99 [(94, true)] (.mv (.t 0)), .q 100 [(94, true)] (.len (.t 99)), .q 101 [(94, true)] (.bin .eql (.t 98) (.t 100)), .q 102 [] (.pick (.t 94) (.t 101) (.c (.bool false))), .q 2 [] (.mv (.t 91)), .q 3 [] (.mv (.t 92)), .q 4 [] (.mv (.t 102))]) .ret)
theorem u_ireadProgram_13 (P : Program) (k : KT) (e : Env) (w : World) : vcK P t_ireadProgram_13 k e w = vcK P (.seq (.drw [2, 3, 4] [.q 91 [] (.mv (.t 5)), .q 92 [] (.mv (.t 11)), .q 93 [] (.mv (.t 12)), .q 94 [] (.mv (.t 93)), .q 95 [(94, true)] (.mv (.t 5)), .q 96 [(94, true)] (.nil (.t 95)), .q 97 [(94, true)] (.fa 1 (.t 96)), .q 98 [(94, true)] (.ld (.t 97)), .q 99 [(94, true)] (.mv (.t 0)), .q 100 [(94, true)] (.len (.t 99)), .q 101 [(94, true)] (.bin .eql (.t 98) (.t 100)), .q 102 [] (.pick (.t 94) (.t 101) (.c (.bool false))), .q 2 [] (.mv (.t 91)), .q 3 [] (.mv (.t 92)), .q 4 [] (.mv (.t 102))]) .ret) k e w := rfl
def t_ireadProgram_14 : X := (.seq (.reg [0, 5, 11, 12] [.q 87 [] (.mv (.t 5)), .e (some 88) [] (.call true 156 [(.t 87)]), .q 86 [] (.mv (.t 88)), .q 89 [] (.ext 0 (.t 86)), .q 90 [] (.ext 1 (.t 86)), .q 11 [] (.mv (.t 89)), .q 12 [] (.mv (.t 90))]) t_ireadProgram_13)
theorem u_ireadProgram_14 (P : Program) (k : KT) (e : Env) (w : World) : vcK P t_ireadProgram_14 k e w = vcK P (.seq (.reg [0, 5, 11, 12] [.q 87 [] (.mv (.t 5)), .e (some 88) [] (.call true 156 [(.t 87)]), .q 86 [] (.mv (.t 88)), .q 89 [] (.ext 0 (.t 86)), .q 90 [] (.ext 1 (.t 86)), .q 11 [] (.mv (.t 89)), .q 12 [] (.mv (.t 90))]) t_ireadProgram_13) k e w := rfl
def t_ireadProgram_15 : X := (.seq (.blk 0 (.loop [] [0, 5] t_ireadProgram_12)) t_ireadProgram_14)
theorem u_ireadProgram_15 (P : Program) (k : KT) (e : Env) (w : World) : vcK P t_ireadProgram_15 k e w = vcK P (.seq (.blk 0 (.loop [] [0, 5] t_ireadProgram_12)) t_ireadProgram_14) k e w := rfl
def t_ireadProgram_16 : X := (.seq (.seq (.reg [0, 5, 19] [.q 17 [] (.mv (.t 0)), .q 18 [] (.len (.t 17)), .q 19 [] (.bin .gtr (.t 18) (.c (.int .i64 200)))]) t_ireadProgram_1) t_ireadProgram_15)
theorem u_ireadProgram_16 (P : Program) (k : KT) (e : Env) (w : World) : vcK P t_ireadProgram_16 k e w = vcK P (.seq (.seq (.reg [0, 5, 19] [.q 17 [] (.mv (.t 0)), .q 18 [] (.len (.t 17)), .q 19 [] (.bin .gtr (.t 18) (.c (.int .i64 200)))]) t_ireadProgram_1) t_ireadProgram_15) k e w := rfl
def t_ireadProgram_17 : X := (.seq (.reg [0, 5] [.q 13 [] (.mv (.t 0)), .e (some 14) [] .mkmap, .q 15 [] (.bld [(S []), (.int .i64 0), (.map none), (.slice none 0 0), (.int .i64 0), (.int .i64 0)] [(0, 0, (.t 13)), (2, 0, (.t 14))]), .e (some 16) [] (.box 115 (.t 15)), .q 5 [] (.mv (.t 16))]) t_ireadProgram_16)
theorem u_ireadProgram_17 (P : Program) (k : KT) (e : Env) (w : World) : vcK P t_ireadProgram_17 k e w = vcK P (.seq (.reg [0, 5] [.q 13 [] (.mv (.t 0)), .e (some 14) [] .mkmap, .q 15 [] (.bld [(S []), (.int .i64 0), (.map none), (.slice none 0 0), (.int .i64 0), (.int .i64 0)] [(0, 0, (.t 13)), (2, 0, (.t 14))]), .e (some 16) [] (.box 115 (.t 15)), .q 5 [] (.mv (.t 16))]) t_ireadProgram_16) k e w := rfl
def x_ireadProgram : X := (.seq (.reg [0] [.q 2 [] (.mv (.c (.pointer none))), .q 3 [] (.mv (.s [])), .q 4 [] (.mv (.c (.bool false)))]) t_ireadProgram_17)
theorem u_ireadProgram (P : Program) (k : KT) (e : Env) (w : World) : vcK P x_ireadProgram k e w = vcK P (.seq (.reg [0] [.q 2 [] (.mv (.c (.pointer none))), .q 3 [] (.mv (.s [])), .q 4 [] (.mv (.c (.bool false)))]) t_ireadProgram_17) k e w := rfl
def r_ireadProgram : List XO := [(.mv (.t 2)), (.mv (.t 3)), (.mv (.t 4))]
theorem c_ireadProgram : convF Try.prog [95, 96, 97, 107, 117, 118, 128, 129, 134, 144, 145, 153, 156, 174, 175, 182] Try.f127 [([0], []), ([0, 5], []), ([0, 5, 19], []), ([2, 3, 4], []), ([], [0, 5]), ([0, 5, 22], []), ([0, 5, 6], []), ([0, 5, 6], []), ([0, 5, 6, 7, 8], []), ([0, 5, 6, 7, 8, 10], []), ([0, 5, 6, 7, 59], []), ([2, 3, 4], []), ([0, 5, 6, 7], []), ([0, 5, 6], []), ([0, 5], []), ([0, 5, 11, 12], []), ([2, 3, 4], [])] = some (x_ireadProgram, r_ireadProgram) := by kernel_rfl
def us_ireadProgram := And.intro @u_ireadProgram (And.intro @u_ireadProgram_1 (And.intro @u_ireadProgram_2 (And.intro @u_ireadProgram_3 (And.intro @u_ireadProgram_4 (And.intro @u_ireadProgram_5 (And.intro @u_ireadProgram_6 (And.intro @u_ireadProgram_7 (And.intro @u_ireadProgram_8 (And.intro @u_ireadProgram_9 (And.intro @u_ireadProgram_10 (And.intro @u_ireadProgram_11 (And.intro @u_ireadProgram_12 (And.intro @u_ireadProgram_13 (And.intro @u_ireadProgram_14 (And.intro @u_ireadProgram_15 (And.intro @u_ireadProgram_16 @u_ireadProgram_17))))))))))))))))
def t_iIsWords_1 : X := (.seq (.reg [2] [.q 12 [] (.mv (.t 5)), .q 2 [] (.mv (.t 12))]) .ret)
theorem u_iIsWords_1 (P : Program) (k : KT) (e : Env) (w : World) : vcK P t_iIsWords_1 k e w = vcK P (.seq (.reg [2] [.q 12 [] (.mv (.t 5)), .q 2 [] (.mv (.t 12))]) .ret) k e w := rfl
def t_iIsWords_2 : X := (.seq (.reg [5] [.q 7 [] (.mv (.t 0)), .e (some 8) [] (.call false 127 [(.t 7)]), .q 6 [] (.mv (.t 8)), .q 9 [] (.ext 0 (.t 6)), .q 10 [] (.ext 1 (.t 6)), .q 11 [] (.ext 2 (.t 6)), .q 3 [] (.mv (.t 9)), .q 4 [] (.mv (.t 10)), .q 5 [] (.mv (.t 11))]) t_iIsWords_1)
theorem u_iIsWords_2 (P : Program) (k : KT) (e : Env) (w : World) : vcK P t_iIsWords_2 k e w = vcK P (.seq (.reg [5] [.q 7 [] (.mv (.t 0)), .e (some 8) [] (.call false 127 [(.t 7)]), .q 6 [] (.mv (.t 8)), .q 9 [] (.ext 0 (.t 6)), .q 10 [] (.ext 1 (.t 6)), .q 11 [] (.ext 2 (.t 6)), .q 3 [] (.mv (.t 9)), .q 4 [] (.mv (.t 10)), .q 5 [] (.mv (.t 11))]) t_iIsWords_1) k e w := rfl
def x_iIsWords : X := (.seq (.reg [0] [.q 2 [] (.mv (.c (.bool false)))]) t_iIsWords_2)
theorem u_iIsWords (P : Program) (k : KT) (e : Env) (w : World) : vcK P x_iIsWords k e w = vcK P (.seq (.reg [0] [.q 2 [] (.mv (.c (.bool false)))]) t_iIsWords_2) k e w := rfl
def r_iIsWords : List XO := [(.mv (.t 2))]
theorem c_iIsWords : convF Try.prog [95, 96, 97, 107, 117, 118, 128, 129, 134, 144, 145, 153, 156, 174, 175, 182] Try.f58 [([0], []), ([5], []), ([2], [])] = some (x_iIsWords, r_iIsWords) := by kernel_rfl
def us_iIsWords := And.intro @u_iIsWords (And.intro @u_iIsWords_1 @u_iIsWords_2)
def t_iNamesIn_1 : X := (.cond (.t 14) (.seq (.reg [2, 3] [.q 2 [] (.mv (.c (.slice none 0 0))), .q 3 [] (.mv (.c (.bool false)))]) .ret) .skip)
theorem u_iNamesIn_1 (P : Program) (k : KT) (e : Env) (w : World) : vcK P t_iNamesIn_1 k e w = vcK P (.cond (.t 14) (.seq (.reg [2, 3] [.q 2 [] (.mv (.c (.slice none 0 0))), .q 3 [] (.mv (.c (.bool false)))]) .ret) .skip) k e w := rfl
def t_iNamesIn_2 : X := (.seq (.reg [2, 3] [.q 15 [] (.mv (.t 4)), .q 16 [] (.nil (.t 15)), .q 17 [] (.fa 3 (.t 16)), .q 18 [] (.ld (.t 17)), .q 2 [] (.mv (.t 18)), .q 3 [] (.mv (.c (.bool true)))]) .ret)
theorem u_iNamesIn_2 (P : Program) (k : KT) (e : Env) (w : World) : vcK P t_iNamesIn_2 k e w = vcK P (.seq (.reg [2, 3] [.q 15 [] (.mv (.t 4)), .q 16 [] (.nil (.t 15)), .q 17 [] (.fa 3 (.t 16)), .q 18 [] (.ld (.t 17)), .q 2 [] (.mv (.t 18)), .q 3 [] (.mv (.c (.bool true)))]) .ret) k e w := rfl
def t_iNamesIn_3 : X := (.seq (.seq (.reg [4, 14] [.q 13 [] (.mv (.t 6)), .q 14 [] (.not (.t 13))]) t_iNamesIn_1) t_iNamesIn_2)
theorem u_iNamesIn_3 (P : Program) (k : KT) (e : Env) (w : World) : vcK P t_iNamesIn_3 k e w = vcK P (.seq (.seq (.reg [4, 14] [.q 13 [] (.mv (.t 6)), .q 14 [] (.not (.t 13))]) t_iNamesIn_1) t_iNamesIn_2) k e w := rfl
def t_iNamesIn_4 : X := (.seq (.reg [4, 6] [.q 8 [] (.mv (.t 0)), .e (some 9) [] (.call false 127 [(.t 8)]), .q 7 [] (.mv (.t 9)), .q 10 [] (.ext 0 (.t 7)), .q 11 [] (.ext 1 (.t 7)), .q 12 [] (.ext 2 (.t 7)), .q 4 [] (.mv (.t 10)), .q 5 [] (.mv (.t 11)), .q 6 [] (.mv (.t 12))]) t_iNamesIn_3)
theorem u_iNamesIn_4 (P : Program) (k : KT) (e : Env) (w : World) : vcK P t_iNamesIn_4 k e w = vcK P (.seq (.reg [4, 6] [.q 8 [] (.mv (.t 0)), .e (some 9) [] (.call false 127 [(.t 8)]), .q 7 [] (.mv (.t 9)), .q 10 [] (.ext 0 (.t 7)), .q 11 [] (.ext 1 (.t 7)), .q 12 [] (.ext 2 (.t 7)), .q 4 [] (.mv (.t 10)), .q 5 [] (.mv (.t 11)), .q 6 [] (.mv (.t 12))]) t_iNamesIn_3) k e w := rfl
def x_iNamesIn : X := (.seq (.reg [0] [.q 2 [] (.mv (.c (.slice none 0 0))), .q 3 [] (.mv (.c (.bool false)))]) t_iNamesIn_4)
theorem u_iNamesIn (P : Program) (k : KT) (e : Env) (w : World) : vcK P x_iNamesIn k e w = vcK P (.seq (.reg [0] [.q 2 [] (.mv (.c (.slice none 0 0))), .q 3 [] (.mv (.c (.bool false)))]) t_iNamesIn_4) k e w := rfl
def r_iNamesIn : List XO := [(.mv (.t 2)), (.mv (.t 3))]
theorem c_iNamesIn : convF Try.prog [95, 96, 97, 107, 117, 118, 128, 129, 134, 144, 145, 153, 156, 174, 175, 182] Try.f77 [([0], []), ([4, 6], []), ([4, 14], []), ([2, 3], []), ([2, 3], [])] = some (x_iNamesIn, r_iNamesIn) := by kernel_rfl
def us_iNamesIn := And.intro @u_iNamesIn (And.intro @u_iNamesIn_1 (And.intro @u_iNamesIn_2 (And.intro @u_iNamesIn_3 @u_iNamesIn_4)))
def t_iCompileWords_1 : X := (.cond (.t 19) (.seq (.reg [2, 3] [.q 2 [] (.mv (.s [])), .q 3 [] (.mv (.c (.bool false)))]) .ret) .skip)
theorem u_iCompileWords_1 (P : Program) (k : KT) (e : Env) (w : World) : vcK P t_iCompileWords_1 k e w = vcK P (.cond (.t 19) (.seq (.reg [2, 3] [.q 2 [] (.mv (.s [])), .q 3 [] (.mv (.c (.bool false)))]) .ret) .skip) k e w := rfl
def t_iCompileWords_2 : X := (.seq (.reg [2, 3] [.q 20 [] (.mv (.t 5)), .q 2 [] (.mv (.t 20)), .q 3 [] (.mv (.c (.bool true)))]) .ret)
theorem u_iCompileWords_2 (P : Program) (k : KT) (e : Env) (w : World) : vcK P t_iCompileWords_2 k e w = vcK P (.seq (.reg [2, 3] [.q 20 [] (.mv (.t 5)), .q 2 [] (.mv (.t 20)), .q 3 [] (.mv (.c (.bool true)))]) .ret) k e w := rfl
def t_iCompileWords_3 : X := (.seq (.seq (.reg [5, 19] [.q 13 [] (.mv (.t 6)), .q 14 [] (.not (.t 13)), .q 15 [] (.mv (.t 14)), .q 16 [(15, false)] (.mv (.t 5)), .e (some 17) [(15, false)] (.call false 137 [(.t 16)]), .q 18 [(15, false)] (.not (.t 17)), .q 19 [] (.pick (.t 15) (.c (.bool true)) (.t 18))]) t_iCompileWords_1) t_iCompileWords_2)
theorem u_iCompileWords_3 (P : Program) (k : KT) (e : Env) (w : World) : vcK P t_iCompileWords_3 k e w = vcK P (.seq (.seq (.reg [5, 19] [.q 13 [] (.mv (.t 6)), .q 14 [] (.not (.t 13)), .q 15 [] (.mv (.t 14)), .q 16 [(15, false)] (.mv (.t 5)), .e (some 17) [(15, false)] (.call false 137 [(.t 16)]), .q 18 [(15, false)] (.not (.t 17)), .q 19 [] (.pick (.t 15) (.c (.bool true)) (.t 18))]) t_iCompileWords_1) t_iCompileWords_2) k e w := rfl
def t_iCompileWords_4 : X := (.seq (.reg [5, 6] [.q 8 [] (.mv (.t 0)), .e (some 9) [] (.call false 127 [(.t 8)]), .q 7 [] (.mv (.t 9)), .q 10 [] (.ext 0 (.t 7)), .q 11 [] (.ext 1 (.t 7)), .q 12 [] (.ext 2 (.t 7)), .q 4 [] (.mv (.t 10)), .q 5 [] (.mv (.t 11)), .q 6 [] (.mv (.t 12))]) t_iCompileWords_3)
theorem u_iCompileWords_4 (P : Program) (k : KT) (e : Env) (w : World) : vcK P t_iCompileWords_4 k e w = vcK P (.seq (.reg [5, 6] [.q 8 [] (.mv (.t 0)), .e (some 9) [] (.call false 127 [(.t 8)]), .q 7 [] (.mv (.t 9)), .q 10 [] (.ext 0 (.t 7)), .q 11 [] (.ext 1 (.t 7)), .q 12 [] (.ext 2 (.t 7)), .q 4 [] (.mv (.t 10)), .q 5 [] (.mv (.t 11)), .q 6 [] (.mv (.t 12))]) t_iCompileWords_3) k e w := rfl
def x_iCompileWords : X := (.seq (.reg [0] [.q 2 [] (.mv (.s [])), .q 3 [] (.mv (.c (.bool false)))]) t_iCompileWords_4)
theorem u_iCompileWords (P : Program) (k : KT) (e : Env) (w : World) : vcK P x_iCompileWords k e w = vcK P (.seq (.reg [0] [.q 2 [] (.mv (.s [])), .q 3 [] (.mv (.c (.bool false)))]) t_iCompileWords_4) k e w := rfl
def r_iCompileWords : List XO := [(.mv (.t 2)), (.mv (.t 3))]
theorem c_iCompileWords : convF Try.prog [95, 96, 97, 107, 117, 118, 128, 129, 134, 144, 145, 153, 156, 174, 175, 182] Try.f75 [([0], []), ([5, 6], []), ([5, 19], []), ([2, 3], []), ([2, 3], [])] = some (x_iCompileWords, r_iCompileWords) := by kernel_rfl
def us_iCompileWords := And.intro @u_iCompileWords (And.intro @u_iCompileWords_1 (And.intro @u_iCompileWords_2 (And.intro @u_iCompileWords_3 @u_iCompileWords_4)))
def t_iDepthOf_1 : X := (.cond (.t 14) (.seq (.reg [2, 3] [.q 2 [] (.mv (.c (.int .i64 0))), .q 3 [] (.mv (.c (.bool false)))]) .ret) .skip)
theorem u_iDepthOf_1 (P : Program) (k : KT) (e : Env) (w : World) : vcK P t_iDepthOf_1 k e w = vcK P (.cond (.t 14) (.seq (.reg [2, 3] [.q 2 [] (.mv (.c (.int .i64 0))), .q 3 [] (.mv (.c (.bool false)))]) .ret) .skip) k e w := rfl
def t_iDepthOf_2 : X := (.seq (.reg [2, 3] [.q 15 [] (.mv (.t 4)), .q 16 [] (.nil (.t 15)), .q 17 [] (.fa 5 (.t 16)), .q 18 [] (.ld (.t 17)), .q 2 [] (.mv (.t 18)), .q 3 [] (.mv (.c (.bool true)))]) .ret)
theorem u_iDepthOf_2 (P : Program) (k : KT) (e : Env) (w : World) : vcK P t_iDepthOf_2 k e w = vcK P (.seq (.reg [2, 3] [.q 15 [] (.mv (.t 4)), .q 16 [] (.nil (.t 15)), .q 17 [] (.fa 5 (.t 16)), .q 18 [] (.ld (.t 17)), .q 2 [] (.mv (.t 18)), .q 3 [] (.mv (.c (.bool true)))]) .ret) k e w := rfl
def t_iDepthOf_3 : X := (.seq (.seq (.reg [4, 14] [.q 13 [] (.mv (.t 6)), .q 14 [] (.not (.t 13))]) t_iDepthOf_1) t_iDepthOf_2)
theorem u_iDepthOf_3 (P : Program) (k : KT) (e : Env) (w : World) : vcK P t_iDepthOf_3 k e w = vcK P (.seq (.seq (.reg [4, 14] [.q 13 [] (.mv (.t 6)), .q 14 [] (.not (.t 13))]) t_iDepthOf_1) t_iDepthOf_2) k e w := rfl
def t_iDepthOf_4 : X := (.seq (.reg [4, 6] [.q 8 [] (.mv (.t 0)), .e (some 9) [] (.call false 127 [(.t 8)]), .q 7 [] (.mv (.t 9)), .q 10 [] (.ext 0 (.t 7)), .q 11 [] (.ext 1 (.t 7)), .q 12 [] (.ext 2 (.t 7)), .q 4 [] (.mv (.t 10)), .q 5 [] (.mv (.t 11)), .q 6 [] (.mv (.t 12))]) t_iDepthOf_3)
theorem u_iDepthOf_4 (P : Program) (k : KT) (e : Env) (w : World) : vcK P t_iDepthOf_4 k e w = vcK P (.seq (.reg [4, 6] [.q 8 [] (.mv (.t 0)), .e (some 9) [] (.call false 127 [(.t 8)]), .q 7 [] (.mv (.t 9)), .q 10 [] (.ext 0 (.t 7)), .q 11 [] (.ext 1 (.t 7)), .q 12 [] (.ext 2 (.t 7)), .q 4 [] (.mv (.t 10)), .q 5 [] (.mv (.t 11)), .q 6 [] (.mv (.t 12))]) t_iDepthOf_3) k e w := rfl
def x_iDepthOf : X := (.seq (.reg [0] [.q 2 [] (.mv (.c (.int .i64 0))), .q 3 [] (.mv (.c (.bool false)))]) t_iDepthOf_4)
theorem u_iDepthOf (P : Program) (k : KT) (e : Env) (w : World) : vcK P x_iDepthOf k e w = vcK P (.seq (.reg [0] [.q 2 [] (.mv (.c (.int .i64 0))), .q 3 [] (.mv (.c (.bool false)))]) t_iDepthOf_4) k e w := rfl
def r_iDepthOf : List XO := [(.mv (.t 2)), (.mv (.t 3))]
theorem c_iDepthOf : convF Try.prog [95, 96, 97, 107, 117, 118, 128, 129, 134, 144, 145, 153, 156, 174, 175, 182] Try.f60 [([0], []), ([4, 6], []), ([4, 14], []), ([2, 3], []), ([2, 3], [])] = some (x_iDepthOf, r_iDepthOf) := by kernel_rfl
def us_iDepthOf := And.intro @u_iDepthOf (And.intro @u_iDepthOf_1 (And.intro @u_iDepthOf_2 (And.intro @u_iDepthOf_3 @u_iDepthOf_4)))
def t_iGoodTouch_1 : X := (.seq (.reg [2] [.q 3 [] (.mv (.t 0)), .q 4 [] (.len (.t 3)), .q 5 [] (.bin .geq (.t 4) (.c (.int .i64 1))), .q 6 [] (.mv (.t 5)), .q 7 [(6, true)] (.mv (.t 0)), .q 8 [(6, true)] (.len (.t 7)), .q 9 [(6, true)] (.bin .leq (.t 8) (.c (.int .i64 60))), .q 10 [] (.pick (.t 6) (.t 9) (.c (.bool false))), .q 11 [] (.mv (.t 10)), .q 12 [(11, true)] (.mv (.t 0)), .e (some 13) [(11, true)] (.call false 159 [(.t 12)]), .q 14 [] (.pick (.t 11) (.t 13) (.c (.bool false))), .q 2 [] (.mv (.t 14))]) .ret)
theorem u_iGoodTouch_1 (P : Program) (k : KT) (e : Env) (w : World) : vcK P t_iGoodTouch_1 k e w = vcK P (.seq (.reg [2] [.q 3 [] (.mv (.t 0)), .q 4 [] (.len (.t 3)), .q 5 [] (.bin .geq (.t 4) (.c (.int .i64 1))), .q 6 [] (.mv (.t 5)), .q 7 [(6, true)] (.mv (.t 0)), .q 8 [(6, true)] (.len (.t 7)), .q 9 [(6, true)] (.bin .leq (.t 8) (.c (.int .i64 60))), .q 10 [] (.pick (.t 6) (.t 9) (.c (.bool false))), .q 11 [] (.mv (.t 10)), .q 12 [(11, true)] (.mv (.t 0)), .e (some 13) [(11, true)] (.call false 159 [(.t 12)]), .q 14 [] (.pick (.t 11) (.t 13) (.c (.bool false))), .q 2 [] (.mv (.t 14))]) .ret) k e w := rfl
def x_iGoodTouch : X := (.seq (.reg [0] [.q 2 [] (.mv (.c (.bool false)))]) t_iGoodTouch_1)
theorem u_iGoodTouch (P : Program) (k : KT) (e : Env) (w : World) : vcK P x_iGoodTouch k e w = vcK P (.seq (.reg [0] [.q 2 [] (.mv (.c (.bool false)))]) t_iGoodTouch_1) k e w := rfl
def r_iGoodTouch : List XO := [(.mv (.t 2))]
theorem c_iGoodTouch : convF Try.prog [95, 96, 97, 107, 117, 118, 128, 129, 134, 144, 145, 153, 156, 174, 175, 182] Try.f137 [([0], []), ([2], [])] = some (x_iGoodTouch, r_iGoodTouch) := by kernel_rfl
def us_iGoodTouch := And.intro @u_iGoodTouch @u_iGoodTouch_1

/-- A touch: calls alone, 1 to 60 of them. -/
def IsTouch (l : List UInt8) : Prop := (1 ≤ l.length ∧ l.length ≤ 60) ∧ ∀ c ∈ l, IsCallB c
instance (l : List UInt8) : Decidable (IsTouch l) := by unfold IsTouch; infer_instance
theorem getD_mem' {α : Type} {l : List α} {k : Nat} (d : α) (h : k < l.length) : l.getD k d ∈ l := by rw [List.getD_eq_getElem?_getD, List.getElem?_eq_getElem h]; exact List.getElem_mem h
theorem mem_take' {α : Type} {l : List α} {k : Nat} {d x : α} (h : k < l.length) (hx : x ∈ l.take (k + 1)) : x ∈ l.take k ∨ x = l.getD k d := by
  rw [List.take_add_one, List.getElem?_eq_getElem h] at hx
  rcases List.mem_append.1 hx with h' | h'
  · exact .inl h'
  · rw [List.getD_eq_getElem?_getD, List.getElem?_eq_getElem h]
    exact .inr (by simpa using h')
theorem iareCalls_ok (l : List UInt8) (hl : l.length ≤ 1000000000) (w : World) : Fn 159 [S l] w (fun r _ => r = .bool (decide (∀ c ∈ l, IsCallB c))) := by
  (refine callsV_of mix Try.func159 c_iareCalls ?_; simp only [↓vsd, vsn, gW, qd, qv, ev, pick, argE, List.map_cons, List.map_nil, Option.map_some, Option.map_none, zipE, List.cons_append, List.nil_append, ne_eq, eq_self, forall_const, implies_true, if_true, if_false, reduceIte, List.cons.injEq, reduceCtorEq, Nat.reduceEqDiff, List.length_nil, List.length_cons, Nat.reduceAdd, Nat.reduceLT, List.set_cons_zero, List.set_cons_succ, ↓us_iareCalls, r_iareCalls])
  refine m_upto l.length (fun k vs w' => vs = [.int .i64 k] ∧ (∀ c ∈ l.take k, IsCallB c) ∧ Ext w w') ⟨rfl, by simp, Ext.refl _⟩ ?_
  rintro k vs w1 hk ⟨rfl, hc, hx⟩
  by_cases hlt : k < l.length
  · have hltI : (k : Int) < l.length := by omega
    have hltJ : ¬ (l.length : Int) ≤ k := by omega
    simp only [↓vsd, vsn, gW, qd, qv, ev, pick, argE, List.map_cons, List.map_nil, Option.map_some, Option.map_none, zipE, List.cons_append, List.nil_append, ne_eq, eq_self, forall_const, implies_true, if_true, if_false, reduceIte, List.cons.injEq, reduceCtorEq, Nat.reduceEqDiff, List.length_nil, List.length_cons, Nat.reduceAdd, Nat.reduceLT, List.set_cons_zero, List.set_cons_succ, ↓us_iareCalls, r_iareCalls, hltI, hltJ]
    have e1 : (l.take (k + 1)).drop k = [l.getD k 0] := by
      rw [List.take_add_one, List.drop_append, List.getD_eq_getElem?_getD, List.getElem?_eq_getElem (by omega)]
      simp [Nat.min_eq_left (show k ≤ l.length by omega)]
    rw [e1]
    refine ⟨inR_i64 (by omega), by omega, m_call (iisCall_ok _ _) ?_⟩
    rintro _ w2 hx2 rfl
    simp only [↓vsd, vsn, gW, qd, qv, ev, pick, argE, List.map_cons, List.map_nil, Option.map_some, Option.map_none, zipE, List.cons_append, List.nil_append, ne_eq, eq_self, forall_const, implies_true, if_true, if_false, reduceIte, List.cons.injEq, reduceCtorEq, Nat.reduceEqDiff, List.length_nil, List.length_cons, Nat.reduceAdd, Nat.reduceLT, List.set_cons_zero, List.set_cons_succ, ↓us_iareCalls, r_iareCalls]
    refine ⟨fun hno => ⟨hx.trans hx2, ?_⟩, fun hy => ⟨inR_i64 (by omega), UpTo.next hlt ⟨rfl, fun c hc' => ?_, hx.trans hx2⟩⟩⟩
    · have : ¬ ∀ c ∈ l, IsCallB c := fun h => by
        rcases h _ (getD_mem' 0 hlt) with h | h | h
        · exact hno.1 (u8_eq h)
        · exact hno.2.1 (u8_eq h)
        · exact hno.2.2 (u8_eq h)
      simp only [this, decide_false]
    · rcases mem_take' (d := 0) hlt hc' with h | rfl
      · exact hc c h
      · by_cases h1 : l.getD k 0 = 112
        · exact .inl (by rw [h1]; rfl)
        · by_cases h2 : l.getD k 0 = 98
          · exact .inr (.inl (by rw [h2]; rfl))
          · by_cases h3 : l.getD k 0 = 115
            · exact .inr (.inr (by rw [h3]; rfl))
            · exact absurd ⟨h1, h2, h3⟩ hy
  · obtain rfl : k = l.length := by omega
    have hltI : ¬ (l.length : Int) < l.length := by omega
    simp only [↓vsd, vsn, gW, qd, qv, ev, pick, argE, List.map_cons, List.map_nil, Option.map_some, Option.map_none, zipE, List.cons_append, List.nil_append, ne_eq, eq_self, forall_const, implies_true, if_true, if_false, reduceIte, List.cons.injEq, reduceCtorEq, Nat.reduceEqDiff, List.length_nil, List.length_cons, Nat.reduceAdd, Nat.reduceLT, List.set_cons_zero, List.set_cons_succ, ↓us_iareCalls, r_iareCalls, hltI]
    rw [List.take_length] at hc
    exact ⟨hx, by simp only [decide_eq_true hc]⟩
theorem iGoodTouch_ok (l : List UInt8) (hl : l.length ≤ 1000000000) (w : World) : Fn 137 [S l] w (fun r _ => r = .bool (decide (IsTouch l))) := by
  (refine callsV_of mix Try.func137 c_iGoodTouch ?_; simp only [↓vsd, vsn, gW, qd, qv, ev, pick, argE, List.map_cons, List.map_nil, Option.map_some, Option.map_none, zipE, List.cons_append, List.nil_append, ne_eq, eq_self, forall_const, implies_true, if_true, if_false, reduceIte, List.cons.injEq, reduceCtorEq, Nat.reduceEqDiff, List.length_nil, List.length_cons, Nat.reduceAdd, Nat.reduceLT, List.set_cons_zero, List.set_cons_succ, ↓us_iGoodTouch, r_iGoodTouch])
  refine ⟨fun h => m_call (iareCalls_ok l hl _) ?_, fun h => ⟨Ext.refl _, ?_⟩⟩
  · rintro _ w1 hx1 rfl
    simp only [↓vsd, vsn, gW, qd, qv, ev, pick, argE, List.map_cons, List.map_nil, Option.map_some, Option.map_none, zipE, List.cons_append, List.nil_append, ne_eq, eq_self, forall_const, implies_true, if_true, if_false, reduceIte, List.cons.injEq, reduceCtorEq, Nat.reduceEqDiff, List.length_nil, List.length_cons, Nat.reduceAdd, Nat.reduceLT, List.set_cons_zero, List.set_cons_succ, ↓us_iGoodTouch, r_iGoodTouch]
    refine ⟨hx1, ?_⟩
    simp only [← Bool.decide_and]
    congr 1
    exact propext ⟨fun h2 => ⟨by omega, h2.2⟩, fun h2 => ⟨by omega, h2.2⟩⟩
  · have : ¬ IsTouch l := fun h2 => h (by have := h2.1; omega)
    simp only [this, decide_false]
theorem m_mkmap {P : Program} {m : Option World} {ps : List Nat} {k : KT} {r : List XS} {d : Option Nat} {l : EL} {w : World} (h : ∀ b w', b = w.heap.size → mapAt w' (.map (some b)) = some [] → Ext w w' → w'.heap.size = b + 1 → ∀ s, ops P m ps k r (setO ⟨l, s⟩ d (.map (some b))) w') : mkmapL P m ps k r d l w := by
  unfold mkmapL mkmapK
  intro s
  exact h _ _ rfl (by simp only [mapAt, heap_alloc_new]; rfl) (Ext.alloc w _) (by simp) s
theorem put_kn {kn : List (UInt8 × List UInt8)} {c : UInt8} (t : List UInt8) (h : kn.lookup c = none) : putE (.int .u8) (.int .u8 (c.toNat : Nat)) (S t) (knE kn) = knE (kn ++ [(c, t)]) := by
  induction kn with
  | nil => rfl
  | cons p kn ih =>
    obtain ⟨d, u⟩ := p
    rw [List.lookup_cons] at h
    by_cases hc : c = d
    · subst hc
      simp at h
    · have h2 : (c == d) = false := by rw [beq_eq_false_iff_ne]; exact hc
      rw [h2] at h
      have h1 : (((c.toNat : Nat) : Int) == ((d.toNat : Nat) : Int)) = false := by
        rw [beq_eq_false_iff_ne]
        exact fun e => hc (UInt8.toNat_inj.1 (by omega))
      have := ih h
      simp only [knE, List.map_cons, putE, Instr.sameNow, if_true, h1, List.cons_append] at this ⊢
      rw [this]
theorem own_mono {α : Type} {f : α → List Value} {z E B B' : Nat} {w : World} {v : Value} {l : List α} (h : Own f z E B w v l) (hB : B' ≤ B) : Own f z E B' w v l :=
  ⟨h.1, h.2.imp id fun ⟨g, cap, cur, e, hg, hr⟩ => ⟨g, cap, cur, e, Nat.le_trans hB hg, hr⟩⟩
/-- The defined names. -/
def namesL (kn : List (UInt8 × List UInt8)) : List (List UInt8) := kn.map fun p => [p.1]
/-- What the reader hands back. -/
def ReadR (s : List UInt8) (w : World) (r : Value) (w' : World) : Prop := ∃ (b : Nat) (out : List UInt8) (ok : Bool) (a most : Nat) (mp nm : Value), r = .tuple ⟨[.pointer (some ⟨b, 0, none⟩), S out, .bool ok]⟩ ∧ Blk w' b (fP s a mp nm 0 most) 115 ∧
  match progL s with
  | none => ok = false
  | some (out', kn, most') => ok = true ∧ out = out' ∧ most = most' ∧ most ≤ 600 ∧ out.length ≤ 61 ∧ kn.length ≤ 1000 ∧ Own fS 1 9 w.heap.size w' nm (namesL kn)
theorem ireadProgram_ok (s : List UInt8) (hs : s.length ≤ 1048576) (w : World) : Fn 127 [S s] w (ReadR s w) := by
  (refine callsV_of mix Try.func127 c_ireadProgram ?_; simp only [↓vsd, vsn, gW, qd, qv, ev, pick, argE, List.map_cons, List.map_nil, Option.map_some, Option.map_none, zipE, List.cons_append, List.nil_append, ne_eq, eq_self, forall_const, implies_true, if_true, if_false, reduceIte, List.cons.injEq, reduceCtorEq, Nat.reduceEqDiff, List.length_nil, List.length_cons, Nat.reduceAdd, Nat.reduceLT, List.set_cons_zero, List.set_cons_succ, ↓us_ireadProgram, r_ireadProgram])
  refine m_mkmap ?_
  rintro km w1 hkm hm1 hx1 hs1
  simp only [↓vsd, vsn, gW, qd, qv, ev, pick, argE, List.map_cons, List.map_nil, Option.map_some, Option.map_none, zipE, List.cons_append, List.nil_append, ne_eq, eq_self, forall_const, implies_true, if_true, if_false, reduceIte, List.cons.injEq, reduceCtorEq, Nat.reduceEqDiff, List.length_nil, List.length_cons, Nat.reduceAdd, Nat.reduceLT, List.set_cons_zero, List.set_cons_succ, ↓us_ireadProgram, r_ireadProgram]
  refine m_al ?_
  rintro b w2 hb hblk2 hx2 hs2
  have hb2 : Blk w2 b (fP s 0 (.map (some km)) (.slice none 0 0) 0 0) 115 := hblk2
  have hx12 := hx1.trans hx2
  have hm2 : mapAt w2 (.map (some km)) = some (knE []) := mapAt_grown hm1 (grown_ext none hx2) (by simp)
  simp only [↓vsd, vsn, gW, qd, qv, ev, pick, argE, List.map_cons, List.map_nil, Option.map_some, Option.map_none, zipE, List.cons_append, List.nil_append, ne_eq, eq_self, forall_const, implies_true, if_true, if_false, reduceIte, List.cons.injEq, reduceCtorEq, Nat.reduceEqDiff, List.length_nil, List.length_cons, Nat.reduceAdd, Nat.reduceLT, List.set_cons_zero, List.set_cons_succ, ↓us_ireadProgram, r_ireadProgram]
  refine ⟨fun hbig => ⟨hx12, b, [], false, 0, 0, _, _, rfl, hb2, ?_⟩, fun hsm => ?_⟩
  · rw [progL, if_neg (by omega)]
  have hs200 : s.length ≤ 200 := by omega
  have hbw : w.heap.size ≤ b := by have := hx1.size; omega
  have hkb : km ≠ b := by omega
  refine m_loop (fun m vs w' => ∃ (a most : Nat) (nm : Value) (kn : List (UInt8 × List UInt8)), vs = [] ∧ a ≤ s.length ∧ s.length - a < m ∧ most ≤ 600 ∧ kn.length ≤ a ∧ (∀ p ∈ kn, p.2.length ≤ 61) ∧ Blk w' b (fP s a (.map (some km)) nm 0 most) 115 ∧ mapAt w' (.map (some km)) = some (knE kn) ∧
    Own fS 1 9 (b + 1) w' nm (namesL kn) ∧ Ext w w' ∧ defs s m a kn most = defs s 1000 0 [] 0) 1000 ⟨0, 0, _, [], rfl, by omega, by omega, by omega, by simp, by simp, hb2, hm2, Own.nil fS_len, hx12, rfl⟩ ?_
  rintro m vs w3 ⟨a, most, nm, kn, rfl, ha, ham, hmo, hkl, hkn, hb3, hm3, ho3, hx3, hR⟩
  obtain ⟨g, rfl⟩ : ∃ g, m = g + 1 := ⟨m - 1, by omega⟩
  rw [defs] at hR
  simp only [↓vsd, vsn, gW, qd, qv, ev, pick, argE, List.map_cons, List.map_nil, Option.map_some, Option.map_none, zipE, List.cons_append, List.nil_append, ne_eq, eq_self, forall_const, implies_true, if_true, if_false, reduceIte, List.cons.injEq, reduceCtorEq, Nat.reduceEqDiff, List.length_nil, List.length_cons, Nat.reduceAdd, Nat.reduceLT, List.set_cons_zero, List.set_cons_succ, ↓us_ireadProgram, r_ireadProgram]
  refine m_call (iprogram_isDefinition_ok s a (by omega) _ _ _ _ b _ hb3) ?_
  rintro _ w4 hx4 rfl
  have hb4 := hb3.ext hx4
  have hm4 : mapAt w4 (.map (some km)) = some (knE kn) := mapAt_grown hm3 (grown_ext none hx4) (by simp)
  have ho4 := ho3.ext hx4
  have hx14 := hx3.trans hx4
  by_cases hdef : a + 1 < s.length ∧ (65 ≤ (s.getD a 0).toNat ∧ (s.getD a 0).toNat ≤ 90) ∧ (s.getD (a + 1) 0).toNat = 61
  · have hdT := decide_eq_true hdef
    simp only [↓vsd, vsn, gW, qd, qv, ev, pick, argE, List.map_cons, List.map_nil, Option.map_some, Option.map_none, zipE, List.cons_append, List.nil_append, ne_eq, eq_self, forall_const, implies_true, if_true, if_false, reduceIte, List.cons.injEq, reduceCtorEq, Nat.reduceEqDiff, List.length_nil, List.length_cons, Nat.reduceAdd, Nat.reduceLT, List.set_cons_zero, List.set_cons_succ, ↓us_ireadProgram, r_ireadProgram, hdT, hb4.facts, fPg]
    have hletter := hdef.2.1
    refine ⟨by omega, inR_i64 (by omega), m_st hb4 rfl (by decide : 1 + 1 ≤ 6) (fI_one _) ?_⟩
    rintro w5 hb5' hu5
    have hb5 : Blk w5 b (fP s (a + 2 : Nat) (.map (some km)) nm 0 most) 115 := hb5'
    have hx5 : Ext w w5 := hu5.below hx14 hbw
    have hm5 : mapAt w5 (.map (some km)) = some (knE kn) := mapAt_grown hm4 hu5.grown (by simpa using hkb)
    have ho5 := ho4.keep hu5.grown (fun c hc => by have := Option.some.inj hc; omega)
    have hcall := iprogram_block_ok 1000 s kn km nm 0 most (a + 2) b w5 (by omega) (by omega) hs200 (by omega) hmo hkn hkb hb5 hm5
    simp only [↓vsd, vsn, gW, qd, qv, ev, pick, argE, List.map_cons, List.map_nil, Option.map_some, Option.map_none, zipE, List.cons_append, List.nil_append, ne_eq, eq_self, forall_const, implies_true, if_true, if_false, reduceIte, List.cons.injEq, reduceCtorEq, Nat.reduceEqDiff, List.length_nil, List.length_cons, Nat.reduceAdd, Nat.reduceLT, List.set_cons_zero, List.set_cons_succ, ↓us_ireadProgram, r_ireadProgram]
    refine m_callw (.inl rfl) hcall ?_
    rintro r w6 ⟨a6, most6, hb6, hg6, ha6, hal6, hmm6, hR6⟩
    have hx6 : Ext w w6 := Below.trans hx5 ⟨hg6.os, hg6.tape, hg6.output, hg6.size, fun i hi => hg6.block i (by have := hx5.size; omega) (fun e => by have := Option.some.inj e; omega)⟩
    have hm6 : mapAt w6 (.map (some km)) = some (knE kn) := mapAt_grown hm5 hg6 (by simpa using hkb)
    have ho6 := ho5.keep hg6 (fun c hc => by have := Option.some.inj hc; omega)
    have hd1 : a + 1 < s.length ∧ (s.getD (a + 1) 0).toNat = 61 := ⟨hdef.1, hdef.2.2⟩
    rw [if_pos hd1] at hR
    have hmf := mp_facts hm6 (s.getD a 0)
    have hr1 : ∀ z v, mlkR true z (some (some v)) = .tuple ⟨[v, .bool true]⟩ := fun _ _ => rfl
    have hr2 : ∀ z, mlkR true z (some none) = .tuple ⟨[z, .bool false]⟩ := fun _ => rfl
    have hfail : (List.lookup (s.getD a 0) kn ≠ none ∨ blk s kn 1000 (a + 2) [] false 0 most = none ∨ ∀ p, blk s kn 1000 (a + 2) [] false 0 most = some p → ¬ (p.2.1 < s.length ∧ (s.getD p.2.1 0).toNat = 59)) → progL s = none := fun hf => by
      rw [progL, if_pos hs200, ← hR]
      split
      · rename_i hl
        rcases hf with hf | hf | hf
        · exact absurd hl.2.2 hf
        · rw [hf]
        · cases hbl : blk s kn 1000 (a + 2) [] false 0 most with
          | none => rfl
          | some p => simp only; rw [if_neg (hf p hbl)]
      · rfl
    cases hlk : List.lookup (s.getD a 0) kn with
    | some u =>
      have hpn := hfail (.inl (by rw [hlk]; simp))
      cases hbl : blk s kn 1000 (a + 2) [] false 0 most with
      | none =>
        rw [hbl] at hR6
        rcases hR6 with ⟨o, rfl⟩ | ⟨o, rfl, hlt6, hn1, hn2⟩
        · simp only [↓vsd, vsn, gW, qd, qv, ev, pick, argE, List.map_cons, List.map_nil, Option.map_some, Option.map_none, zipE, List.cons_append, List.nil_append, ne_eq, eq_self, forall_const, implies_true, if_true, if_false, reduceIte, List.cons.injEq, reduceCtorEq, Nat.reduceEqDiff, List.length_nil, List.length_cons, Nat.reduceAdd, Nat.reduceLT, List.set_cons_zero, List.set_cons_succ, ↓us_ireadProgram, r_ireadProgram, hb6.facts, fPg, hmf, hlk, hr1]
          exact ⟨hx6, b, _, _, a6, most6, _, _, rfl, hb6, by rw [hpn]⟩
        · simp only [↓vsd, vsn, gW, qd, qv, ev, pick, argE, List.map_cons, List.map_nil, Option.map_some, Option.map_none, zipE, List.cons_append, List.nil_append, ne_eq, eq_self, forall_const, implies_true, if_true, if_false, reduceIte, List.cons.injEq, reduceCtorEq, Nat.reduceEqDiff, List.length_nil, List.length_cons, Nat.reduceAdd, Nat.reduceLT, List.set_cons_zero, List.set_cons_succ, ↓us_ireadProgram, r_ireadProgram, hb6.facts, fPg, hmf, hlk, hr1]
          exact ⟨hx6, b, _, _, a6, most6, _, _, rfl, hb6, by rw [hpn]⟩
      | some p =>
        obtain ⟨part, a7, most7⟩ := p
        rw [hbl] at hR6
        obtain ⟨rfl, rfl, rfl, hol⟩ := hR6
        simp only [↓vsd, vsn, gW, qd, qv, ev, pick, argE, List.map_cons, List.map_nil, Option.map_some, Option.map_none, zipE, List.cons_append, List.nil_append, ne_eq, eq_self, forall_const, implies_true, if_true, if_false, reduceIte, List.cons.injEq, reduceCtorEq, Nat.reduceEqDiff, List.length_nil, List.length_cons, Nat.reduceAdd, Nat.reduceLT, List.set_cons_zero, List.set_cons_succ, ↓us_ireadProgram, r_ireadProgram, hb6.facts, fPg, hmf, hlk, hr1]
        exact ⟨hx6, b, _, _, a6, most6, _, _, rfl, hb6, by rw [hpn]⟩
    | none =>
      cases hbl : blk s kn 1000 (a + 2) [] false 0 most with
      | none =>
        have hpn := hfail (.inr (.inl hbl))
        rw [hbl] at hR6
        rcases hR6 with ⟨o, rfl⟩ | ⟨o, rfl, hlt6, hn1, hn2⟩
        · simp only [↓vsd, vsn, gW, qd, qv, ev, pick, argE, List.map_cons, List.map_nil, Option.map_some, Option.map_none, zipE, List.cons_append, List.nil_append, ne_eq, eq_self, forall_const, implies_true, if_true, if_false, reduceIte, List.cons.injEq, reduceCtorEq, Nat.reduceEqDiff, List.length_nil, List.length_cons, Nat.reduceAdd, Nat.reduceLT, List.set_cons_zero, List.set_cons_succ, ↓us_ireadProgram, r_ireadProgram, hb6.facts, fPg, hmf, hlk, hr2]
          exact ⟨hx6, b, _, _, a6, most6, _, _, rfl, hb6, by rw [hpn]⟩
        · simp only [↓vsd, vsn, gW, qd, qv, ev, pick, argE, List.map_cons, List.map_nil, Option.map_some, Option.map_none, zipE, List.cons_append, List.nil_append, ne_eq, eq_self, forall_const, implies_true, if_true, if_false, reduceIte, List.cons.injEq, reduceCtorEq, Nat.reduceEqDiff, List.length_nil, List.length_cons, Nat.reduceAdd, Nat.reduceLT, List.set_cons_zero, List.set_cons_succ, ↓us_ireadProgram, r_ireadProgram, hb6.facts, fPg, hmf, hlk, hr2]
          refine m_call (iprogram_next_ok s a6 _ _ _ _ b 59 _ hb6) ?_
          rintro _ w7 hx7 rfl
          have hno : decide (a6 < s.length ∧ (s.getD a6 0).toNat = (59 : UInt8).toNat) = false := decide_eq_false fun h => hn2 h.2
          simp only [↓vsd, vsn, gW, qd, qv, ev, pick, argE, List.map_cons, List.map_nil, Option.map_some, Option.map_none, zipE, List.cons_append, List.nil_append, ne_eq, eq_self, forall_const, implies_true, if_true, if_false, reduceIte, List.cons.injEq, reduceCtorEq, Nat.reduceEqDiff, List.length_nil, List.length_cons, Nat.reduceAdd, Nat.reduceLT, List.set_cons_zero, List.set_cons_succ, ↓us_ireadProgram, r_ireadProgram, hno]
          exact ⟨hx6.trans hx7, b, _, _, a6, most6, _, _, rfl, hb6.ext hx7, by rw [hpn]⟩
      | some p =>
        obtain ⟨part, a7, most7⟩ := p
        rw [hbl] at hR6
        obtain ⟨rfl, rfl, rfl, hol⟩ := hR6
        simp only [↓vsd, vsn, gW, qd, qv, ev, pick, argE, List.map_cons, List.map_nil, Option.map_some, Option.map_none, zipE, List.cons_append, List.nil_append, ne_eq, eq_self, forall_const, implies_true, if_true, if_false, reduceIte, List.cons.injEq, reduceCtorEq, Nat.reduceEqDiff, List.length_nil, List.length_cons, Nat.reduceAdd, Nat.reduceLT, List.set_cons_zero, List.set_cons_succ, ↓us_ireadProgram, r_ireadProgram, hb6.facts, fPg, hmf, hlk, hr2]
        refine m_call (iprogram_next_ok s a6 _ _ _ _ b 59 _ hb6) ?_
        rintro _ w7 hx7 rfl
        have hb7 := hb6.ext hx7
        have hx17 := hx6.trans hx7
        have hm7 : mapAt w7 (.map (some km)) = some (knE kn) := mapAt_grown hm6 (grown_ext none hx7) (by simp)
        have ho7 := ho6.ext hx7
        by_cases h59 : a6 < s.length ∧ (s.getD a6 0).toNat = (59 : UInt8).toNat
        · have hyes := decide_eq_true h59
          have h59' : (s.getD a6 0).toNat = 59 := h59.2
          simp only [↓vsd, vsn, gW, qd, qv, ev, pick, argE, List.map_cons, List.map_nil, Option.map_some, Option.map_none, zipE, List.cons_append, List.nil_append, ne_eq, eq_self, forall_const, implies_true, if_true, if_false, reduceIte, List.cons.injEq, reduceCtorEq, Nat.reduceEqDiff, List.length_nil, List.length_cons, Nat.reduceAdd, Nat.reduceLT, List.set_cons_zero, List.set_cons_succ, ↓us_ireadProgram, r_ireadProgram, hyes, hb7.facts, fPg]
          refine ⟨inR_i64 (by omega), m_st hb7 rfl (by decide : 1 + 1 ≤ 6) (fI_one _) ?_⟩
          rintro w8 hb8' hu8
          have hb8 : Blk w8 b (fP s (a6 + 1 : Nat) (.map (some km)) nm 0 most6) 115 := hb8'
          have hx8 : Ext w w8 := hu8.below hx17 hbw
          have hm8 : mapAt w8 (.map (some km)) = some (knE kn) := mapAt_grown hm7 hu8.grown (by simpa using hkb)
          have ho8 := ho7.keep hu8.grown (fun c hc => by have := Option.some.inj hc; omega)
          simp only [↓vsd, vsn, gW, qd, qv, ev, pick, argE, List.map_cons, List.map_nil, Option.map_some, Option.map_none, zipE, List.cons_append, List.nil_append, ne_eq, eq_self, forall_const, implies_true, if_true, if_false, reduceIte, List.cons.injEq, reduceCtorEq, Nat.reduceEqDiff, List.length_nil, List.length_cons, Nat.reduceAdd, Nat.reduceLT, List.set_cons_zero, List.set_cons_succ, ↓us_ireadProgram, r_ireadProgram, hb8.facts, fPg]
          refine m_mup hm8 (by rw [lk_kn]; rfl) ?_
          rintro w9 hm9 hu9
          rw [put_kn part hlk] at hm9
          have hb9 := hu9.blk hb8 (by omega)
          have hx9 : Ext w w9 := hu9.below hx8 (by omega)
          have ho9 := ho8.keep hu9.grown (fun c hc => by have := Option.some.inj hc; omega)
          simp only [↓vsd, vsn, gW, qd, qv, ev, pick, argE, List.map_cons, List.map_nil, Option.map_some, Option.map_none, zipE, List.cons_append, List.nil_append, ne_eq, eq_self, forall_const, implies_true, if_true, if_false, reduceIte, List.cons.injEq, reduceCtorEq, Nat.reduceEqDiff, List.length_nil, List.length_cons, Nat.reduceAdd, Nat.reduceLT, List.set_cons_zero, List.set_cons_succ, ↓us_ireadProgram, r_ireadProgram, hb9.facts, fPg]
          refine m_bsl (one_el rfl) ?_
          rintro b10 w10 hb10 hblk10 hx10 hs10
          have hx10 := ud hx10
          simp only [↓vsd, vsn, gW, qd, qv, ev, pick, argE, List.map_cons, List.map_nil, Option.map_some, Option.map_none, zipE, List.cons_append, List.nil_append, ne_eq, eq_self, forall_const, implies_true, if_true, if_false, reduceIte, List.cons.injEq, reduceCtorEq, Nat.reduceEqDiff, List.length_nil, List.length_cons, Nat.reduceAdd, Nat.reduceLT, List.set_cons_zero, List.set_cons_succ, ↓us_ireadProgram, r_ireadProgram]
          refine m_b2s (l := [s.getD a 0]) (Sq.one (f := fU) fU_len hblk10 rfl) ?_
          simp only [↓vsd, vsn, gW, qd, qv, ev, pick, argE, List.map_cons, List.map_nil, Option.map_some, Option.map_none, zipE, List.cons_append, List.nil_append, ne_eq, eq_self, forall_const, implies_true, if_true, if_false, reduceIte, List.cons.injEq, reduceCtorEq, Nat.reduceEqDiff, List.length_nil, List.length_cons, Nat.reduceAdd, Nat.reduceLT, List.set_cons_zero, List.set_cons_succ, ↓us_ireadProgram, r_ireadProgram]
          refine m_bsl (one_el rfl) ?_
          rintro b11 w11 hb11 hblk11 hx11 hs11
          simp only [↓vsd, vsn, gW, qd, qv, ev, pick, argE, List.map_cons, List.map_nil, Option.map_some, Option.map_none, zipE, List.cons_append, List.nil_append, ne_eq, eq_self, forall_const, implies_true, if_true, if_false, reduceIte, List.cons.injEq, reduceCtorEq, Nat.reduceEqDiff, List.length_nil, List.length_cons, Nat.reduceAdd, Nat.reduceLT, List.set_cons_zero, List.set_cons_succ, ↓us_ireadProgram, r_ireadProgram]
          have hx911 := hx10.trans hx11
          have hnl : (namesL kn).length ≤ 200 := by simp [namesL]; omega
          have hbs : b + 1 ≤ w11.heap.size := by have := hb9.lt; have := hx911.size; omega
          refine m_app (ho9.ext hx911) (Sq.one fS_len hblk11 rfl) fS_one (by decide) (by simp only [List.length_singleton]; omega) (by decide) hbs ?_
          rintro nm12 w12 ho12 hg12
          have hbd := (ho9.ext hx911).bound
          have hx12 : Ext w w12 := Below.trans (hx9.trans hx911) ⟨hg12.os, hg12.tape, hg12.output, hg12.size, fun i hi => hg12.block i (by have := (hx9.trans hx911).size; omega) (fun e => by have := (hbd i e.symm).1; omega)⟩
          have hb12 := (hb9.ext hx911).same (hg12.block b (hb9.ext hx911).lt (fun e => by have := (hbd b e.symm).1; omega))
          have hm12 := mapAt_grown (mapAt_grown hm9 (grown_ext none hx911) (by simp)) hg12 (fun e => by have := (hbd km e.symm).1; omega)
          simp only [↓vsd, vsn, gW, qd, qv, ev, pick, argE, List.map_cons, List.map_nil, Option.map_some, Option.map_none, zipE, List.cons_append, List.nil_append, ne_eq, eq_self, forall_const, implies_true, if_true, if_false, reduceIte, List.cons.injEq, reduceCtorEq, Nat.reduceEqDiff, List.length_nil, List.length_cons, Nat.reduceAdd, Nat.reduceLT, List.set_cons_zero, List.set_cons_succ, ↓us_ireadProgram, r_ireadProgram]
          have hnc : nm12.cells = #[nm12] := of_eq_true ho12.sq.oneC
          have hno : nm12.oneCell' = true := by rcases ho12.sq.2.2 with ⟨rfl, _⟩ | ⟨x, c, rfl, _⟩ <;> rfl
          refine m_st hb12 (by rw [hnc]; rfl) (by decide : 3 + 1 ≤ 6) (by rw [hnc]; intro u hu; simp only [List.mem_singleton] at hu; subst hu; exact hno) ?_
          rintro w13 hb13' hu13
          rw [hnc] at hb13'
          have hb13 : Blk w13 b (fP s (a6 + 1 : Nat) (.map (some km)) nm12 0 most6) 115 := hb13'
          have hx13 : Ext w w13 := hu13.below hx12 hbw
          have hm13 := mapAt_grown hm12 hu13.grown (by simpa using hkb)
          have ho13 := ho12.keep hu13.grown (fun c hc => by have := Option.some.inj hc; omega)
          simp only [↓vsd, vsn, gW, qd, qv, ev, pick, argE, List.map_cons, List.map_nil, Option.map_some, Option.map_none, zipE, List.cons_append, List.nil_append, ne_eq, eq_self, forall_const, implies_true, if_true, if_false, reduceIte, List.cons.injEq, reduceCtorEq, Nat.reduceEqDiff, List.length_nil, List.length_cons, Nat.reduceAdd, Nat.reduceLT, List.set_cons_zero, List.set_cons_succ, ↓us_ireadProgram, r_ireadProgram]
          have hl3 : 65 ≤ (s.getD a 0).toNat ∧ (s.getD a 0).toNat ≤ 90 ∧ List.lookup (s.getD a 0) kn = none := ⟨hletter.1, hletter.2, hlk⟩
          rw [if_pos hl3, hbl] at hR
          simp only at hR
          rw [if_pos ⟨h59.1, h59'⟩] at hR
          refine ⟨g, by omega, a6 + 1, most6, nm12, kn ++ [(s.getD a 0, part)], by omega, by omega, hmm6, by simp; omega, fun p hp => ?_, hb13, hm13, ho13.to (by rw [namesL, namesL, List.map_append]; rfl), hx13, hR⟩
          rcases List.mem_append.1 hp with hp | hp
          · exact hkn p hp
          · rw [List.mem_singleton.1 hp]; exact hol
        · have hno := decide_eq_false h59
          have hpn := hfail (.inr (.inr fun p hp hh => by
            rw [hbl] at hp
            obtain rfl := Option.some.inj hp
            exact h59 ⟨hh.1, hh.2⟩))
          simp only [↓vsd, vsn, gW, qd, qv, ev, pick, argE, List.map_cons, List.map_nil, Option.map_some, Option.map_none, zipE, List.cons_append, List.nil_append, ne_eq, eq_self, forall_const, implies_true, if_true, if_false, reduceIte, List.cons.injEq, reduceCtorEq, Nat.reduceEqDiff, List.length_nil, List.length_cons, Nat.reduceAdd, Nat.reduceLT, List.set_cons_zero, List.set_cons_succ, ↓us_ireadProgram, r_ireadProgram, hno]
          exact ⟨hx17, b, _, _, a6, most6, _, _, rfl, hb7, by rw [hpn]⟩
  · have hdF := decide_eq_false hdef
    have hcall := iprogram_block_ok 1000 s kn km nm 0 most a b w4 (by omega) ha hs200 (by omega) hmo hkn hkb hb4 hm4
    simp only [↓vsd, vsn, gW, qd, qv, ev, pick, argE, List.map_cons, List.map_nil, Option.map_some, Option.map_none, zipE, List.cons_append, List.nil_append, ne_eq, eq_self, forall_const, implies_true, if_true, if_false, reduceIte, List.cons.injEq, reduceCtorEq, Nat.reduceEqDiff, List.length_nil, List.length_cons, Nat.reduceAdd, Nat.reduceLT, List.set_cons_zero, List.set_cons_succ, ↓us_ireadProgram, r_ireadProgram, hdF]
    refine m_callw (.inl rfl) hcall ?_
    rintro r w5 ⟨a5, most5, hb5, hg5, ha5, hal5, hmm5, hR5⟩
    have hx5 : Ext w w5 := Below.trans hx14 ⟨hg5.os, hg5.tape, hg5.output, hg5.size, fun i hi => hg5.block i (by have := hx14.size; omega) (fun e => by have := Option.some.inj e; omega)⟩
    have ho5 := ho4.keep hg5 (fun c hc => by have := Option.some.inj hc; omega)
    cases hbl : blk s kn 1000 a [] false 0 most with
    | none =>
      rw [hbl] at hR5
      have hpn : progL s = none := by
        rw [progL, if_pos hs200, ← hR]
        by_cases hd1 : a + 1 < s.length ∧ (s.getD (a + 1) 0).toNat = 61
        · rw [if_pos hd1, if_neg (fun h => hdef ⟨hd1.1, ⟨h.1, h.2.1⟩, hd1.2⟩)]
        · rw [if_neg hd1, hbl]
      rcases hR5 with ⟨o, rfl⟩ | ⟨o, rfl, hlt5, hn1, hn2⟩
      · simp only [↓vsd, vsn, gW, qd, qv, ev, pick, argE, List.map_cons, List.map_nil, Option.map_some, Option.map_none, zipE, List.cons_append, List.nil_append, ne_eq, eq_self, forall_const, implies_true, if_true, if_false, reduceIte, List.cons.injEq, reduceCtorEq, Nat.reduceEqDiff, List.length_nil, List.length_cons, Nat.reduceAdd, Nat.reduceLT, List.set_cons_zero, List.set_cons_succ, ↓us_ireadProgram, r_ireadProgram, hb5.facts, fPg]
        exact ⟨hx5, b, _, _, a5, most5, _, _, rfl, hb5, by rw [hpn]⟩
      · simp only [↓vsd, vsn, gW, qd, qv, ev, pick, argE, List.map_cons, List.map_nil, Option.map_some, Option.map_none, zipE, List.cons_append, List.nil_append, ne_eq, eq_self, forall_const, implies_true, if_true, if_false, reduceIte, List.cons.injEq, reduceCtorEq, Nat.reduceEqDiff, List.length_nil, List.length_cons, Nat.reduceAdd, Nat.reduceLT, List.set_cons_zero, List.set_cons_succ, ↓us_ireadProgram, r_ireadProgram, hb5.facts, fPg]
        refine ⟨hx5, b, _, _, a5, most5, _, _, rfl, hb5, ?_⟩
        rw [hpn]
        exact decide_eq_false (by omega)
    | some p =>
      obtain ⟨out, a6, most6⟩ := p
      rw [hbl] at hR5
      obtain ⟨rfl, rfl, rfl, hol⟩ := hR5
      simp only [↓vsd, vsn, gW, qd, qv, ev, pick, argE, List.map_cons, List.map_nil, Option.map_some, Option.map_none, zipE, List.cons_append, List.nil_append, ne_eq, eq_self, forall_const, implies_true, if_true, if_false, reduceIte, List.cons.injEq, reduceCtorEq, Nat.reduceEqDiff, List.length_nil, List.length_cons, Nat.reduceAdd, Nat.reduceLT, List.set_cons_zero, List.set_cons_succ, ↓us_ireadProgram, r_ireadProgram, hb5.facts, fPg]
      refine ⟨hx5, b, _, _, a5, most5, _, _, rfl, hb5, ?_⟩
      have hnd : ¬ (a + 1 < s.length ∧ (s.getD (a + 1) 0).toNat = 61) := fun hd1 => by
        have := blk_eq (kn := kn) (f := 1000) (dep := 0) (most := most) hd1.1 hd1.2 (fun hl => hdef ⟨hd1.1, hl, hd1.2⟩)
        rw [hbl] at this
        cases this
      rw [progL, if_pos hs200, ← hR, if_neg hnd, hbl]
      simp only
      by_cases hae : a5 = s.length
      · rw [if_pos hae]
        exact ⟨decide_eq_true (by omega), rfl, rfl, hmm5, hol, by omega, own_mono ho5 (by omega)⟩
      · rw [if_neg hae]
        exact decide_eq_false (by omega)
theorem ext3 (a b c : Value) : extV 0 (.tuple ⟨[a, b, c]⟩) = a ∧ extV 1 (.tuple ⟨[a, b, c]⟩) = b ∧ extV 2 (.tuple ⟨[a, b, c]⟩) = c ∧ extD 0 (.tuple ⟨[a, b, c]⟩) = True ∧ extD 1 (.tuple ⟨[a, b, c]⟩) = True ∧ extD 2 (.tuple ⟨[a, b, c]⟩) = True :=
  ⟨rfl, rfl, rfl, eq_true (by simp [extD]), eq_true (by simp [extD]), eq_true (by simp [extD])⟩
theorem iIsWords_ok (s : List UInt8) (hs : s.length ≤ 1048576) (w : World) : Fn 58 [S s] w (fun r _ => r = .bool (progL s).isSome) := by
  (refine callsV_of mix Try.func58 c_iIsWords ?_; simp only [↓vsd, vsn, gW, qd, qv, ev, pick, argE, List.map_cons, List.map_nil, Option.map_some, Option.map_none, zipE, List.cons_append, List.nil_append, ne_eq, eq_self, forall_const, implies_true, if_true, if_false, reduceIte, List.cons.injEq, reduceCtorEq, Nat.reduceEqDiff, List.length_nil, List.length_cons, Nat.reduceAdd, Nat.reduceLT, List.set_cons_zero, List.set_cons_succ, ↓us_iIsWords, r_iIsWords])
  refine m_call (ireadProgram_ok s hs _) ?_
  rintro _ w1 hx1 ⟨b, out, ok, a, most, mp, nm, rfl, hb, hR⟩
  simp only [↓vsd, vsn, gW, qd, qv, ev, pick, argE, List.map_cons, List.map_nil, Option.map_some, Option.map_none, zipE, List.cons_append, List.nil_append, ne_eq, eq_self, forall_const, implies_true, if_true, if_false, reduceIte, List.cons.injEq, reduceCtorEq, Nat.reduceEqDiff, List.length_nil, List.length_cons, Nat.reduceAdd, Nat.reduceLT, List.set_cons_zero, List.set_cons_succ, ↓us_iIsWords, r_iIsWords, ext3]
  refine ⟨hx1, ?_⟩
  cases hp : progL s with
  | none => rw [hp] at hR; rw [hR]; rfl
  | some p => obtain ⟨o, kn, m⟩ := p; rw [hp] at hR; rw [hR.1]; rfl
theorem iDepthOf_ok (s : List UInt8) (hs : s.length ≤ 1048576) (w : World) : Fn 60 [S s] w (fun r _ => r = match progL s with | none => .tuple ⟨[.int .i64 0, .bool false]⟩ | some p => .tuple ⟨[.int .i64 (p.2.2 : Nat), .bool true]⟩) := by
  (refine callsV_of mix Try.func60 c_iDepthOf ?_; simp only [↓vsd, vsn, gW, qd, qv, ev, pick, argE, List.map_cons, List.map_nil, Option.map_some, Option.map_none, zipE, List.cons_append, List.nil_append, ne_eq, eq_self, forall_const, implies_true, if_true, if_false, reduceIte, List.cons.injEq, reduceCtorEq, Nat.reduceEqDiff, List.length_nil, List.length_cons, Nat.reduceAdd, Nat.reduceLT, List.set_cons_zero, List.set_cons_succ, ↓us_iDepthOf, r_iDepthOf])
  refine m_call (ireadProgram_ok s hs _) ?_
  rintro _ w1 hx1 ⟨b, out, ok, a, most, mp, nm, rfl, hb, hR⟩
  cases hp : progL s with
  | none =>
    rw [hp] at hR
    subst hR
    simp only [↓vsd, vsn, gW, qd, qv, ev, pick, argE, List.map_cons, List.map_nil, Option.map_some, Option.map_none, zipE, List.cons_append, List.nil_append, ne_eq, eq_self, forall_const, implies_true, if_true, if_false, reduceIte, List.cons.injEq, reduceCtorEq, Nat.reduceEqDiff, List.length_nil, List.length_cons, Nat.reduceAdd, Nat.reduceLT, List.set_cons_zero, List.set_cons_succ, ↓us_iDepthOf, r_iDepthOf, ext3]
    exact hx1
  | some p =>
    obtain ⟨o, kn, m⟩ := p
    rw [hp] at hR
    obtain ⟨rfl, rfl, rfl, _⟩ := hR
    simp only [↓vsd, vsn, gW, qd, qv, ev, pick, argE, List.map_cons, List.map_nil, Option.map_some, Option.map_none, zipE, List.cons_append, List.nil_append, ne_eq, eq_self, forall_const, implies_true, if_true, if_false, reduceIte, List.cons.injEq, reduceCtorEq, Nat.reduceEqDiff, List.length_nil, List.length_cons, Nat.reduceAdd, Nat.reduceLT, List.set_cons_zero, List.set_cons_succ, ↓us_iDepthOf, r_iDepthOf, ext3, hb.facts, fPg]
    exact hx1
theorem iCompileWords_ok (s : List UInt8) (hs : s.length ≤ 1048576) (w : World) : Fn 75 [S s] w (fun r _ => r = match progL s with | none => .tuple ⟨[S [], .bool false]⟩ | some p => if IsTouch p.1 then .tuple ⟨[S p.1, .bool true]⟩ else .tuple ⟨[S [], .bool false]⟩) := by
  (refine callsV_of mix Try.func75 c_iCompileWords ?_; simp only [↓vsd, vsn, gW, qd, qv, ev, pick, argE, List.map_cons, List.map_nil, Option.map_some, Option.map_none, zipE, List.cons_append, List.nil_append, ne_eq, eq_self, forall_const, implies_true, if_true, if_false, reduceIte, List.cons.injEq, reduceCtorEq, Nat.reduceEqDiff, List.length_nil, List.length_cons, Nat.reduceAdd, Nat.reduceLT, List.set_cons_zero, List.set_cons_succ, ↓us_iCompileWords, r_iCompileWords])
  refine m_call (ireadProgram_ok s hs _) ?_
  rintro _ w1 hx1 ⟨b, out, ok, a, most, mp, nm, rfl, hb, hR⟩
  cases hp : progL s with
  | none =>
    rw [hp] at hR
    subst hR
    simp only [↓vsd, vsn, gW, qd, qv, ev, pick, argE, List.map_cons, List.map_nil, Option.map_some, Option.map_none, zipE, List.cons_append, List.nil_append, ne_eq, eq_self, forall_const, implies_true, if_true, if_false, reduceIte, List.cons.injEq, reduceCtorEq, Nat.reduceEqDiff, List.length_nil, List.length_cons, Nat.reduceAdd, Nat.reduceLT, List.set_cons_zero, List.set_cons_succ, ↓us_iCompileWords, r_iCompileWords, ext3]
    exact hx1
  | some p =>
    obtain ⟨o, kn, m⟩ := p
    rw [hp] at hR
    obtain ⟨rfl, rfl, rfl, hm, hol, _⟩ := hR
    simp only [↓vsd, vsn, gW, qd, qv, ev, pick, argE, List.map_cons, List.map_nil, Option.map_some, Option.map_none, zipE, List.cons_append, List.nil_append, ne_eq, eq_self, forall_const, implies_true, if_true, if_false, reduceIte, List.cons.injEq, reduceCtorEq, Nat.reduceEqDiff, List.length_nil, List.length_cons, Nat.reduceAdd, Nat.reduceLT, List.set_cons_zero, List.set_cons_succ, ↓us_iCompileWords, r_iCompileWords, ext3]
    refine m_call (iGoodTouch_ok out (by omega) _) ?_
    rintro _ w2 hx2 rfl
    by_cases ht : IsTouch out
    · simp only [↓vsd, vsn, gW, qd, qv, ev, pick, argE, List.map_cons, List.map_nil, Option.map_some, Option.map_none, zipE, List.cons_append, List.nil_append, ne_eq, eq_self, forall_const, implies_true, if_true, if_false, reduceIte, List.cons.injEq, reduceCtorEq, Nat.reduceEqDiff, List.length_nil, List.length_cons, Nat.reduceAdd, Nat.reduceLT, List.set_cons_zero, List.set_cons_succ, ↓us_iCompileWords, r_iCompileWords, ext3, ht]
      exact hx1.trans hx2
    · simp only [↓vsd, vsn, gW, qd, qv, ev, pick, argE, List.map_cons, List.map_nil, Option.map_some, Option.map_none, zipE, List.cons_append, List.nil_append, ne_eq, eq_self, forall_const, implies_true, if_true, if_false, reduceIte, List.cons.injEq, reduceCtorEq, Nat.reduceEqDiff, List.length_nil, List.length_cons, Nat.reduceAdd, Nat.reduceLT, List.set_cons_zero, List.set_cons_succ, ↓us_iCompileWords, r_iCompileWords, ext3, ht]
      exact hx1.trans hx2
theorem iNamesIn_ok (s : List UInt8) (hs : s.length ≤ 1048576) (w : World) : Fn 77 [S s] w (fun r w' => ∃ x, r = .tuple ⟨[x, .bool (progL s).isSome]⟩ ∧ Own fS 1 9 w.heap.size w' x (match progL s with | none => [] | some p => namesL p.2.1) ∧ ∀ p, progL s = some p → p.2.1.length ≤ 1000) := by
  (refine callsV_of mix Try.func77 c_iNamesIn ?_; simp only [↓vsd, vsn, gW, qd, qv, ev, pick, argE, List.map_cons, List.map_nil, Option.map_some, Option.map_none, zipE, List.cons_append, List.nil_append, ne_eq, eq_self, forall_const, implies_true, if_true, if_false, reduceIte, List.cons.injEq, reduceCtorEq, Nat.reduceEqDiff, List.length_nil, List.length_cons, Nat.reduceAdd, Nat.reduceLT, List.set_cons_zero, List.set_cons_succ, ↓us_iNamesIn, r_iNamesIn])
  refine m_call (ireadProgram_ok s hs _) ?_
  rintro _ w1 hx1 ⟨b, out, ok, a, most, mp, nm, rfl, hb, hR⟩
  cases hp : progL s with
  | none =>
    rw [hp] at hR
    subst hR
    simp only [↓vsd, vsn, gW, qd, qv, ev, pick, argE, List.map_cons, List.map_nil, Option.map_some, Option.map_none, zipE, List.cons_append, List.nil_append, ne_eq, eq_self, forall_const, implies_true, if_true, if_false, reduceIte, List.cons.injEq, reduceCtorEq, Nat.reduceEqDiff, List.length_nil, List.length_cons, Nat.reduceAdd, Nat.reduceLT, List.set_cons_zero, List.set_cons_succ, ↓us_iNamesIn, r_iNamesIn, ext3]
    refine ⟨hx1, _, rfl, ?_⟩
    first | exact Own.nil fS_len | exact ⟨Own.nil fS_len, fun p h => by cases h⟩
  | some p =>
    obtain ⟨o, kn, m⟩ := p
    rw [hp] at hR
    obtain ⟨rfl, rfl, rfl, _, _, hkl, ho⟩ := hR
    simp only [↓vsd, vsn, gW, qd, qv, ev, pick, argE, List.map_cons, List.map_nil, Option.map_some, Option.map_none, zipE, List.cons_append, List.nil_append, ne_eq, eq_self, forall_const, implies_true, if_true, if_false, reduceIte, List.cons.injEq, reduceCtorEq, Nat.reduceEqDiff, List.length_nil, List.length_cons, Nat.reduceAdd, Nat.reduceLT, List.set_cons_zero, List.set_cons_succ, ↓us_iNamesIn, r_iNamesIn, ext3, hb.facts, fPg]
    exact ⟨hx1, _, rfl, ho, fun p h => by cases h; exact hkl⟩
end Go.Proofs.Ytnocgihggdgkeaa
