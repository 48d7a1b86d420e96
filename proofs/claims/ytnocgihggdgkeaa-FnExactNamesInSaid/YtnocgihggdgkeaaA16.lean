/-
  Programs of calls: what the reference answers of one; the calls of the laws FnExactIsWords, FnExactDepthOf, FnExactCompileWords, FnExactNamesIn.
  Conditions: none.
-/
import Derived.Test.YtnocgihggdgkeaaA15
set_option linter.unusedSimpArgs false
set_option linter.unusedVariables false
set_option linter.defProp false
namespace Go.Proofs.Ytnocgihggdgkeaa
open Go Go.RowKit
def t_sl10Read_1 : X := (.cond (.t 13) (.reg [0, 4] [.q 14 [] (.mv (.t 4)), .q 15 [] (.nil (.t 14)), .q 16 [] (.fa 2 (.t 15)), .e none [] (.st 1 (.t 16) (.c (.bool true)))]) .skip)
theorem u_sl10Read_1 (P : Program) (k : KT) (e : Env) (w : World) : vcK P t_sl10Read_1 k e w = vcK P (.cond (.t 13) (.reg [0, 4] [.q 14 [] (.mv (.t 4)), .q 15 [] (.nil (.t 14)), .q 16 [] (.fa 2 (.t 15)), .e none [] (.st 1 (.t 16) (.c (.bool true)))]) .skip) k e w := rfl
def t_sl10Read_2 : X := (.cond (.t 41) .skip (.exit 0))
theorem u_sl10Read_2 (P : Program) (k : KT) (e : Env) (w : World) : vcK P t_sl10Read_2 k e w = vcK P (.cond (.t 41) .skip (.exit 0)) k e w := rfl
def t_sl10Read_3 : X := (.cond (.t 76) (.seq (.reg [0, 4] [.q 77 [] (.mv (.t 4)), .q 78 [] (.nil (.t 77)), .q 79 [] (.fa 2 (.t 78)), .e none [] (.st 1 (.t 79) (.c (.bool true)))]) (.exit 0)) .skip)
theorem u_sl10Read_3 (P : Program) (k : KT) (e : Env) (w : World) : vcK P t_sl10Read_3 k e w = vcK P (.cond (.t 76) (.seq (.reg [0, 4] [.q 77 [] (.mv (.t 4)), .q 78 [] (.nil (.t 77)), .q 79 [] (.fa 2 (.t 78)), .e none [] (.st 1 (.t 79) (.c (.bool true)))]) (.exit 0)) .skip) k e w := rfl
def t_sl10Read_4 : X := (.cond (.t 84) (.reg [0, 4, 5, 6] [.q 85 [] (.mv (.t 4)), .q 86 [] (.nil (.t 85)), .q 87 [] (.fa 2 (.t 86)), .e none [] (.st 1 (.t 87) (.c (.bool true)))]) .skip)
theorem u_sl10Read_4 (P : Program) (k : KT) (e : Env) (w : World) : vcK P t_sl10Read_4 k e w = vcK P (.cond (.t 84) (.reg [0, 4, 5, 6] [.q 85 [] (.mv (.t 4)), .q 86 [] (.nil (.t 85)), .q 87 [] (.fa 2 (.t 86)), .e none [] (.st 1 (.t 87) (.c (.bool true)))]) .skip) k e w := rfl
def t_sl10Read_5 : X := (.reg [0, 4] [.q 105 [] (.mv (.t 4)), .q 106 [] (.mv (.t 4)), .q 107 [] (.nil (.t 106)), .q 108 [] (.fa 4 (.t 107)), .q 109 [] (.ld (.t 108)), .q 110 [] (.mv (.t 6)), .e (some 111) [] (.bsl 9 1 [(.t 110)]), .e (some 112) [] (.app 22 9 1 16 [(S [])] 22 (.t 109) (.t 111)), .q 113 [] (.nil (.t 105)), .q 114 [] (.fa 4 (.t 113)), .e none [] (.st 1 (.t 114) (.t 112))])
theorem u_sl10Read_5 (P : Program) (k : KT) (e : Env) (w : World) : vcK P t_sl10Read_5 k e w = vcK P (.reg [0, 4] [.q 105 [] (.mv (.t 4)), .q 106 [] (.mv (.t 4)), .q 107 [] (.nil (.t 106)), .q 108 [] (.fa 4 (.t 107)), .q 109 [] (.ld (.t 108)), .q 110 [] (.mv (.t 6)), .e (some 111) [] (.bsl 9 1 [(.t 110)]), .e (some 112) [] (.app 22 9 1 16 [(S [])] 22 (.t 109) (.t 111)), .q 113 [] (.nil (.t 105)), .q 114 [] (.fa 4 (.t 113)), .e none [] (.st 1 (.t 114) (.t 112))]) k e w := rfl
def t_sl10Read_6 : X := (.seq (.reg [0, 4, 6] [.q 95 [] (.mv (.t 4)), .q 96 [] (.mv (.t 4)), .q 97 [] (.nil (.t 96)), .q 98 [] (.fa 3 (.t 97)), .q 99 [] (.ld (.t 98)), .q 100 [] (.mv (.t 5)), .e (some 101) [] (.bsl 9 1 [(.t 100)]), .e (some 102) [] (.app 22 9 1 16 [(S [])] 22 (.t 99) (.t 101)), .q 103 [] (.nil (.t 95)), .q 104 [] (.fa 3 (.t 103)), .e none [] (.st 1 (.t 104) (.t 102))]) t_sl10Read_5)
theorem u_sl10Read_6 (P : Program) (k : KT) (e : Env) (w : World) : vcK P t_sl10Read_6 k e w = vcK P (.seq (.reg [0, 4, 6] [.q 95 [] (.mv (.t 4)), .q 96 [] (.mv (.t 4)), .q 97 [] (.nil (.t 96)), .q 98 [] (.fa 3 (.t 97)), .q 99 [] (.ld (.t 98)), .q 100 [] (.mv (.t 5)), .e (some 101) [] (.bsl 9 1 [(.t 100)]), .e (some 102) [] (.app 22 9 1 16 [(S [])] 22 (.t 99) (.t 101)), .q 103 [] (.nil (.t 95)), .q 104 [] (.fa 3 (.t 103)), .e none [] (.st 1 (.t 104) (.t 102))]) t_sl10Read_5) k e w := rfl
def t_sl10Read_7 : X := (.seq (.reg [0, 4, 5, 6] [.q 88 [] (.mv (.t 4)), .q 89 [] (.nil (.t 88)), .q 90 [] (.fa 1 (.t 89)), .q 91 [] (.ld (.t 90)), .q 92 [] (.bin .add (.t 91) (.c (.int .i64 1))), .q 93 [] (.nil (.t 88)), .q 94 [] (.fa 1 (.t 93)), .e none [] (.st 1 (.t 94) (.t 92))]) t_sl10Read_6)
theorem u_sl10Read_7 (P : Program) (k : KT) (e : Env) (w : World) : vcK P t_sl10Read_7 k e w = vcK P (.seq (.reg [0, 4, 5, 6] [.q 88 [] (.mv (.t 4)), .q 89 [] (.nil (.t 88)), .q 90 [] (.fa 1 (.t 89)), .q 91 [] (.ld (.t 90)), .q 92 [] (.bin .add (.t 91) (.c (.int .i64 1))), .q 93 [] (.nil (.t 88)), .q 94 [] (.fa 1 (.t 93)), .e none [] (.st 1 (.t 94) (.t 92))]) t_sl10Read_6) k e w := rfl
def t_sl10Read_8 : X := (.seq (.seq (.reg [0, 4, 5, 6, 84] [.q 82 [] (.mv (.t 4)), .e (some 83) [] (.call false 154 [(.t 82)]), .q 84 [] (.bin .neq (.t 83) (.c (.int .u8 59)))]) t_sl10Read_4) t_sl10Read_7)
theorem u_sl10Read_8 (P : Program) (k : KT) (e : Env) (w : World) : vcK P t_sl10Read_8 k e w = vcK P (.seq (.seq (.reg [0, 4, 5, 6, 84] [.q 82 [] (.mv (.t 4)), .e (some 83) [] (.call false 154 [(.t 82)]), .q 84 [] (.bin .neq (.t 83) (.c (.int .u8 59)))]) t_sl10Read_4) t_sl10Read_7) k e w := rfl
def t_sl10Read_9 : X := (.seq (.reg [0, 4, 5, 6] [.q 80 [] (.mv (.t 4)), .e (some 81) [] (.call true 153 [(.t 80)]), .q 6 [] (.mv (.t 81))]) t_sl10Read_8)
theorem u_sl10Read_9 (P : Program) (k : KT) (e : Env) (w : World) : vcK P t_sl10Read_9 k e w = vcK P (.seq (.reg [0, 4, 5, 6] [.q 80 [] (.mv (.t 4)), .e (some 81) [] (.call true 153 [(.t 80)]), .q 6 [] (.mv (.t 81))]) t_sl10Read_8) k e w := rfl
def t_sl10Read_10 : X := (.seq (.seq (.reg [0, 4, 5, 76] [.q 60 [] (.mv (.t 5)), .q 61 [] (.idx (.t 60) (.c (.int .i64 0))), .q 62 [] (.bin .lss (.t 61) (.c (.int .u8 65))), .q 63 [] (.mv (.t 62)), .q 64 [(63, false)] (.mv (.t 5)), .q 65 [(63, false)] (.idx (.t 64) (.c (.int .i64 0))), .q 66 [(63, false)] (.bin .gtr (.t 65) (.c (.int .u8 90))), .q 67 [] (.pick (.t 63) (.c (.bool true)) (.t 66)), .q 68 [] (.mv (.t 67)), .q 69 [(68, false)] (.mv (.t 4)), .q 70 [(68, false)] (.nil (.t 69)), .q 71 [(68, false)] (.fa 3 (.t 70)), .q 72 [(68, false)] (.ld (.t 71)), .q 73 [(68, false)] (.mv (.t 5)), .e (some 74) [(68, false)] (.call false 152 [(.t 72), (.t 73)]), .q 75 [(68, false)] (.bin .geq (.t 74) (.c (.int .i64 0))), .q 76 [] (.pick (.t 68) (.c (.bool true)) (.t 75))]) t_sl10Read_3) t_sl10Read_9)
theorem u_sl10Read_10 (P : Program) (k : KT) (e : Env) (w : World) : vcK P t_sl10Read_10 k e w = vcK P (.seq (.seq (.reg [0, 4, 5, 76] [.q 60 [] (.mv (.t 5)), .q 61 [] (.idx (.t 60) (.c (.int .i64 0))), .q 62 [] (.bin .lss (.t 61) (.c (.int .u8 65))), .q 63 [] (.mv (.t 62)), .q 64 [(63, false)] (.mv (.t 5)), .q 65 [(63, false)] (.idx (.t 64) (.c (.int .i64 0))), .q 66 [(63, false)] (.bin .gtr (.t 65) (.c (.int .u8 90))), .q 67 [] (.pick (.t 63) (.c (.bool true)) (.t 66)), .q 68 [] (.mv (.t 67)), .q 69 [(68, false)] (.mv (.t 4)), .q 70 [(68, false)] (.nil (.t 69)), .q 71 [(68, false)] (.fa 3 (.t 70)), .q 72 [(68, false)] (.ld (.t 71)), .q 73 [(68, false)] (.mv (.t 5)), .e (some 74) [(68, false)] (.call false 152 [(.t 72), (.t 73)]), .q 75 [(68, false)] (.bin .geq (.t 74) (.c (.int .i64 0))), .q 76 [] (.pick (.t 68) (.c (.bool true)) (.t 75))]) t_sl10Read_3) t_sl10Read_9) k e w := rfl
def t_sl10Read_11 : X := (.seq (.reg [0, 4, 5] [.q 53 [] (.mv (.t 4)), .q 54 [] (.nil (.t 53)), .q 55 [] (.fa 1 (.t 54)), .q 56 [] (.ld (.t 55)), .q 57 [] (.bin .add (.t 56) (.c (.int .i64 2))), .q 58 [] (.nil (.t 53)), .q 59 [] (.fa 1 (.t 58)), .e none [] (.st 1 (.t 59) (.t 57))]) t_sl10Read_10)
theorem u_sl10Read_11 (P : Program) (k : KT) (e : Env) (w : World) : vcK P t_sl10Read_11 k e w = vcK P (.seq (.reg [0, 4, 5] [.q 53 [] (.mv (.t 4)), .q 54 [] (.nil (.t 53)), .q 55 [] (.fa 1 (.t 54)), .q 56 [] (.ld (.t 55)), .q 57 [] (.bin .add (.t 56) (.c (.int .i64 2))), .q 58 [] (.nil (.t 53)), .q 59 [] (.fa 1 (.t 58)), .e none [] (.st 1 (.t 59) (.t 57))]) t_sl10Read_10) k e w := rfl
def t_sl10Read_12 : X := (.blk 1 (.seq (.drw [0, 4, 5] [.q 42 [] (.mv (.t 0)), .q 43 [] (.mv (.t 4)), .q 44 [] (.nil (.t 43)), .q 45 [] (.fa 1 (.t 44)), .q 46 [] (.ld (.t 45)), .q 47 [] (.mv (.t 4)), .q 48 [] (.nil (.t 47)), .q 49 [] (.fa 1 (.t 48)), .q 50 [] (.ld (.t 49)), .q 51 [] (.bin .add (.t 50) (.c (.int .i64 1))), .q 52 [] (.sub (.t 42) (some (.t 46)) (some (.t 51))), .q 5 [] (.mv (.t 52))]) t_sl10Read_11))
theorem u_sl10Read_12 (P : Program) (k : KT) (e : Env) (w : World) : vcK P t_sl10Read_12 k e w = vcK P (.blk 1 (.seq (.drw [0, 4, 5] [.q 42 [] (.mv (.t 0)), .q 43 [] (.mv (.t 4)), .q 44 [] (.nil (.t 43)), .q 45 [] (.fa 1 (.t 44)), .q 46 [] (.ld (.t 45)), .q 47 [] (.mv (.t 4)), .q 48 [] (.nil (.t 47)), .q 49 [] (.fa 1 (.t 48)), .q 50 [] (.ld (.t 49)), .q 51 [] (.bin .add (.t 50) (.c (.int .i64 1))), .q 52 [] (.sub (.t 42) (some (.t 46)) (some (.t 51))), .q 5 [] (.mv (.t 52))]) t_sl10Read_11)) k e w := rfl
def t_sl10Read_13 : X := (.seq (.seq (.reg [0, 4, 41] [.q 17 [] (.mv (.t 4)), .q 18 [] (.nil (.t 17)), .q 19 [] (.fa 2 (.t 18)), .q 20 [] (.ld (.t 19)), .q 21 [] (.not (.t 20)), .q 22 [] (.mv (.t 21)), .q 23 [(22, true)] (.mv (.t 4)), .q 24 [(22, true)] (.nil (.t 23)), .q 25 [(22, true)] (.fa 1 (.t 24)), .q 26 [(22, true)] (.ld (.t 25)), .q 27 [(22, true)] (.bin .add (.t 26) (.c (.int .i64 1))), .q 28 [(22, true)] (.mv (.t 0)), .q 29 [(22, true)] (.len (.t 28)), .q 30 [(22, true)] (.bin .lss (.t 27) (.t 29)), .q 31 [] (.pick (.t 22) (.t 30) (.c (.bool false))), .q 32 [] (.mv (.t 31)), .q 33 [(32, true)] (.mv (.t 0)), .q 34 [(32, true)] (.mv (.t 4)), .q 35 [(32, true)] (.nil (.t 34)), .q 36 [(32, true)] (.fa 1 (.t 35)), .q 37 [(32, true)] (.ld (.t 36)), .q 38 [(32, true)] (.bin .add (.t 37) (.c (.int .i64 1))), .q 39 [(32, true)] (.idx (.t 33) (.t 38)), .q 40 [(32, true)] (.bin .eql (.t 39) (.c (.int .u8 61))), .q 41 [] (.pick (.t 32) (.t 40) (.c (.bool false)))]) t_sl10Read_2) t_sl10Read_12)
theorem u_sl10Read_13 (P : Program) (k : KT) (e : Env) (w : World) : vcK P t_sl10Read_13 k e w = vcK P (.seq (.seq (.reg [0, 4, 41] [.q 17 [] (.mv (.t 4)), .q 18 [] (.nil (.t 17)), .q 19 [] (.fa 2 (.t 18)), .q 20 [] (.ld (.t 19)), .q 21 [] (.not (.t 20)), .q 22 [] (.mv (.t 21)), .q 23 [(22, true)] (.mv (.t 4)), .q 24 [(22, true)] (.nil (.t 23)), .q 25 [(22, true)] (.fa 1 (.t 24)), .q 26 [(22, true)] (.ld (.t 25)), .q 27 [(22, true)] (.bin .add (.t 26) (.c (.int .i64 1))), .q 28 [(22, true)] (.mv (.t 0)), .q 29 [(22, true)] (.len (.t 28)), .q 30 [(22, true)] (.bin .lss (.t 27) (.t 29)), .q 31 [] (.pick (.t 22) (.t 30) (.c (.bool false))), .q 32 [] (.mv (.t 31)), .q 33 [(32, true)] (.mv (.t 0)), .q 34 [(32, true)] (.mv (.t 4)), .q 35 [(32, true)] (.nil (.t 34)), .q 36 [(32, true)] (.fa 1 (.t 35)), .q 37 [(32, true)] (.ld (.t 36)), .q 38 [(32, true)] (.bin .add (.t 37) (.c (.int .i64 1))), .q 39 [(32, true)] (.idx (.t 33) (.t 38)), .q 40 [(32, true)] (.bin .eql (.t 39) (.c (.int .u8 61))), .q 41 [] (.pick (.t 32) (.t 40) (.c (.bool false)))]) t_sl10Read_2) t_sl10Read_12) k e w := rfl
def t_sl10Read_14 : X := (.cond (.t 118) (.seq (.reg [2, 3] [.q 119 [] (.mv (.t 4)), .q 2 [] (.mv (.t 119)), .q 3 [] (.mv (.s []))]) .ret) .skip)
theorem u_sl10Read_14 (P : Program) (k : KT) (e : Env) (w : World) : vcK P t_sl10Read_14 k e w = vcK P (.cond (.t 118) (.seq (.reg [2, 3] [.q 119 [] (.mv (.t 4)), .q 2 [] (.mv (.t 119)), .q 3 [] (.mv (.s []))]) .ret) .skip) k e w := rfl
def t_sl10Read_15 : X := (.cond (.t 128) (.reg [4, 7] [.q 129 [] (.mv (.t 4)), .q 130 [] (.nil (.t 129)), .q 131 [] (.fa 2 (.t 130)), .e none [] (.st 1 (.t 131) (.c (.bool true)))]) .skip)
theorem u_sl10Read_15 (P : Program) (k : KT) (e : Env) (w : World) : vcK P t_sl10Read_15 k e w = vcK P (.cond (.t 128) (.reg [4, 7] [.q 129 [] (.mv (.t 4)), .q 130 [] (.nil (.t 129)), .q 131 [] (.fa 2 (.t 130)), .e none [] (.st 1 (.t 131) (.c (.bool true)))]) .skip) k e w := rfl
def t_sl10Read_16 : X := (.seq (.reg [2, 3] [.q 132 [] (.mv (.t 4)), .q 133 [] (.mv (.t 7)), .q 2 [] (.mv (.t 132)), .q 3 [] (.mv (.t 133))]) .ret)
theorem u_sl10Read_16 (P : Program) (k : KT) (e : Env) (w : World) : vcK P t_sl10Read_16 k e w = vcK P (.seq (.reg [2, 3] [.q 132 [] (.mv (.t 4)), .q 133 [] (.mv (.t 7)), .q 2 [] (.mv (.t 132)), .q 3 [] (.mv (.t 133))]) .ret) k e w := rfl
def t_sl10Read_17 : X := (.seq (.seq (.reg [4, 7, 128] [.q 122 [] (.mv (.t 4)), .q 123 [] (.nil (.t 122)), .q 124 [] (.fa 1 (.t 123)), .q 125 [] (.ld (.t 124)), .q 126 [] (.mv (.t 0)), .q 127 [] (.len (.t 126)), .q 128 [] (.bin .neq (.t 125) (.t 127))]) t_sl10Read_15) t_sl10Read_16)
theorem u_sl10Read_17 (P : Program) (k : KT) (e : Env) (w : World) : vcK P t_sl10Read_17 k e w = vcK P (.seq (.seq (.reg [4, 7, 128] [.q 122 [] (.mv (.t 4)), .q 123 [] (.nil (.t 122)), .q 124 [] (.fa 1 (.t 123)), .q 125 [] (.ld (.t 124)), .q 126 [] (.mv (.t 0)), .q 127 [] (.len (.t 126)), .q 128 [] (.bin .neq (.t 125) (.t 127))]) t_sl10Read_15) t_sl10Read_16) k e w := rfl
def t_sl10Read_18 : X := (.seq (.reg [0, 4, 7] [.q 120 [] (.mv (.t 4)), .e (some 121) [] (.call true 153 [(.t 120)]), .q 7 [] (.mv (.t 121))]) t_sl10Read_17)
theorem u_sl10Read_18 (P : Program) (k : KT) (e : Env) (w : World) : vcK P t_sl10Read_18 k e w = vcK P (.seq (.reg [0, 4, 7] [.q 120 [] (.mv (.t 4)), .e (some 121) [] (.call true 153 [(.t 120)]), .q 7 [] (.mv (.t 121))]) t_sl10Read_17) k e w := rfl
def t_sl10Read_19 : X := (.seq (.seq (.reg [0, 4, 118] [.q 115 [] (.mv (.t 4)), .q 116 [] (.nil (.t 115)), .q 117 [] (.fa 2 (.t 116)), .q 118 [] (.ld (.t 117))]) t_sl10Read_14) t_sl10Read_18)
theorem u_sl10Read_19 (P : Program) (k : KT) (e : Env) (w : World) : vcK P t_sl10Read_19 k e w = vcK P (.seq (.seq (.reg [0, 4, 118] [.q 115 [] (.mv (.t 4)), .q 116 [] (.nil (.t 115)), .q 117 [] (.fa 2 (.t 116)), .q 118 [] (.ld (.t 117))]) t_sl10Read_14) t_sl10Read_18) k e w := rfl
def t_sl10Read_20 : X := (.seq (.blk 0 (.loop [] [0, 4] t_sl10Read_13)) t_sl10Read_19)
theorem u_sl10Read_20 (P : Program) (k : KT) (e : Env) (w : World) : vcK P t_sl10Read_20 k e w = vcK P (.seq (.blk 0 (.loop [] [0, 4] t_sl10Read_13)) t_sl10Read_19) k e w := rfl
def t_sl10Read_21 : X := (.seq (.seq (.reg [0, 4, 13] [.q 11 [] (.mv (.t 0)), .q 12 [] (.len (.t 11)), .q 13 [] (.bin .gtr (.t 12) (.c (.int .i64 200)))]) t_sl10Read_1) t_sl10Read_20)
theorem u_sl10Read_21 (P : Program) (k : KT) (e : Env) (w : World) : vcK P t_sl10Read_21 k e w = vcK P (.seq (.seq (.reg [0, 4, 13] [.q 11 [] (.mv (.t 0)), .q 12 [] (.len (.t 11)), .q 13 [] (.bin .gtr (.t 12) (.c (.int .i64 200)))]) t_sl10Read_1) t_sl10Read_20) k e w := rfl
def t_sl10Read_22 : X := (.seq (.reg [0, 4] [.q 8 [] (.mv (.t 0)), .q 9 [] (.bld [(S []), (.int .i64 0), (.bool false), (.slice none 0 0), (.slice none 0 0), (.int .i64 0), (.int .i64 0)] [(0, 0, (.t 8))]), .e (some 10) [] (.box 109 (.t 9)), .q 4 [] (.mv (.t 10))]) t_sl10Read_21)
theorem u_sl10Read_22 (P : Program) (k : KT) (e : Env) (w : World) : vcK P t_sl10Read_22 k e w = vcK P (.seq (.reg [0, 4] [.q 8 [] (.mv (.t 0)), .q 9 [] (.bld [(S []), (.int .i64 0), (.bool false), (.slice none 0 0), (.slice none 0 0), (.int .i64 0), (.int .i64 0)] [(0, 0, (.t 8))]), .e (some 10) [] (.box 109 (.t 9)), .q 4 [] (.mv (.t 10))]) t_sl10Read_21) k e w := rfl
def x_sl10Read : X := (.seq (.reg [0] [.q 2 [] (.mv (.c (.pointer none))), .q 3 [] (.mv (.s []))]) t_sl10Read_22)
theorem u_sl10Read (P : Program) (k : KT) (e : Env) (w : World) : vcK P x_sl10Read k e w = vcK P (.seq (.reg [0] [.q 2 [] (.mv (.c (.pointer none))), .q 3 [] (.mv (.s []))]) t_sl10Read_22) k e w := rfl
def r_sl10Read : List XO := [(.mv (.t 2)), (.mv (.t 3))]
theorem c_sl10Read : convF Try.prog [95, 96, 97, 107, 117, 118, 128, 129, 134, 144, 145, 153, 156, 174, 175, 182] Try.f126 [([0], []), ([0, 4], []), ([0, 4, 13], []), ([0, 4], []), ([], [0, 4]), ([0, 4, 41], []), ([0, 4, 5], []), ([0, 4, 5], []), ([0, 4, 5, 76], []), ([0, 4], []), ([0, 4, 5, 6], []), ([0, 4, 5, 6, 84], []), ([0, 4, 5, 6], []), ([0, 4, 5, 6], []), ([0, 4, 6], []), ([0, 4], []), ([0, 4, 118], []), ([2, 3], []), ([0, 4, 7], []), ([4, 7, 128], []), ([4, 7], []), ([2, 3], [])] = some (x_sl10Read, r_sl10Read) := by kernel_rfl
def us_sl10Read := And.intro @u_sl10Read (And.intro @u_sl10Read_1 (And.intro @u_sl10Read_2 (And.intro @u_sl10Read_3 (And.intro @u_sl10Read_4 (And.intro @u_sl10Read_5 (And.intro @u_sl10Read_6 (And.intro @u_sl10Read_7 (And.intro @u_sl10Read_8 (And.intro @u_sl10Read_9 (And.intro @u_sl10Read_10 (And.intro @u_sl10Read_11 (And.intro @u_sl10Read_12 (And.intro @u_sl10Read_13 (And.intro @u_sl10Read_14 (And.intro @u_sl10Read_15 (And.intro @u_sl10Read_16 (And.intro @u_sl10Read_17 (And.intro @u_sl10Read_18 (And.intro @u_sl10Read_19 (And.intro @u_sl10Read_20 (And.intro @u_sl10Read_21 @u_sl10Read_22)))))))))))))))))))))
def t_sIsWords_1 : X := (.seq (.reg [2] [.q 10 [] (.mv (.t 3)), .q 11 [] (.nil (.t 10)), .q 12 [] (.fa 2 (.t 11)), .q 13 [] (.ld (.t 12)), .q 14 [] (.not (.t 13)), .q 2 [] (.mv (.t 14))]) .ret)
theorem u_sIsWords_1 (P : Program) (k : KT) (e : Env) (w : World) : vcK P t_sIsWords_1 k e w = vcK P (.seq (.reg [2] [.q 10 [] (.mv (.t 3)), .q 11 [] (.nil (.t 10)), .q 12 [] (.fa 2 (.t 11)), .q 13 [] (.ld (.t 12)), .q 14 [] (.not (.t 13)), .q 2 [] (.mv (.t 14))]) .ret) k e w := rfl
def t_sIsWords_2 : X := (.seq (.reg [3] [.q 6 [] (.mv (.t 0)), .e (some 7) [] (.call false 126 [(.t 6)]), .q 5 [] (.mv (.t 7)), .q 8 [] (.ext 0 (.t 5)), .q 9 [] (.ext 1 (.t 5)), .q 3 [] (.mv (.t 8)), .q 4 [] (.mv (.t 9))]) t_sIsWords_1)
theorem u_sIsWords_2 (P : Program) (k : KT) (e : Env) (w : World) : vcK P t_sIsWords_2 k e w = vcK P (.seq (.reg [3] [.q 6 [] (.mv (.t 0)), .e (some 7) [] (.call false 126 [(.t 6)]), .q 5 [] (.mv (.t 7)), .q 8 [] (.ext 0 (.t 5)), .q 9 [] (.ext 1 (.t 5)), .q 3 [] (.mv (.t 8)), .q 4 [] (.mv (.t 9))]) t_sIsWords_1) k e w := rfl
def x_sIsWords : X := (.seq (.reg [0] [.q 2 [] (.mv (.c (.bool false)))]) t_sIsWords_2)
theorem u_sIsWords (P : Program) (k : KT) (e : Env) (w : World) : vcK P x_sIsWords k e w = vcK P (.seq (.reg [0] [.q 2 [] (.mv (.c (.bool false)))]) t_sIsWords_2) k e w := rfl
def r_sIsWords : List XO := [(.mv (.t 2))]
theorem c_sIsWords : convF Try.prog [95, 96, 97, 107, 117, 118, 128, 129, 134, 144, 145, 153, 156, 174, 175, 182] Try.f57 [([0], []), ([3], []), ([2], [])] = some (x_sIsWords, r_sIsWords) := by kernel_rfl
def us_sIsWords := And.intro @u_sIsWords (And.intro @u_sIsWords_1 @u_sIsWords_2)
def t_sDepthOf_1 : X := (.cond (.t 14) (.seq (.reg [2, 3] [.q 2 [] (.mv (.c (.int .i64 0))), .q 3 [] (.mv (.c (.bool false)))]) .ret) .skip)
theorem u_sDepthOf_1 (P : Program) (k : KT) (e : Env) (w : World) : vcK P t_sDepthOf_1 k e w = vcK P (.cond (.t 14) (.seq (.reg [2, 3] [.q 2 [] (.mv (.c (.int .i64 0))), .q 3 [] (.mv (.c (.bool false)))]) .ret) .skip) k e w := rfl
def t_sDepthOf_2 : X := (.seq (.reg [2, 3] [.q 15 [] (.mv (.t 4)), .q 16 [] (.nil (.t 15)), .q 17 [] (.fa 6 (.t 16)), .q 18 [] (.ld (.t 17)), .q 2 [] (.mv (.t 18)), .q 3 [] (.mv (.c (.bool true)))]) .ret)
theorem u_sDepthOf_2 (P : Program) (k : KT) (e : Env) (w : World) : vcK P t_sDepthOf_2 k e w = vcK P (.seq (.reg [2, 3] [.q 15 [] (.mv (.t 4)), .q 16 [] (.nil (.t 15)), .q 17 [] (.fa 6 (.t 16)), .q 18 [] (.ld (.t 17)), .q 2 [] (.mv (.t 18)), .q 3 [] (.mv (.c (.bool true)))]) .ret) k e w := rfl
def t_sDepthOf_3 : X := (.seq (.seq (.reg [4, 14] [.q 11 [] (.mv (.t 4)), .q 12 [] (.nil (.t 11)), .q 13 [] (.fa 2 (.t 12)), .q 14 [] (.ld (.t 13))]) t_sDepthOf_1) t_sDepthOf_2)
theorem u_sDepthOf_3 (P : Program) (k : KT) (e : Env) (w : World) : vcK P t_sDepthOf_3 k e w = vcK P (.seq (.seq (.reg [4, 14] [.q 11 [] (.mv (.t 4)), .q 12 [] (.nil (.t 11)), .q 13 [] (.fa 2 (.t 12)), .q 14 [] (.ld (.t 13))]) t_sDepthOf_1) t_sDepthOf_2) k e w := rfl
def t_sDepthOf_4 : X := (.seq (.reg [4] [.q 7 [] (.mv (.t 0)), .e (some 8) [] (.call false 126 [(.t 7)]), .q 6 [] (.mv (.t 8)), .q 9 [] (.ext 0 (.t 6)), .q 10 [] (.ext 1 (.t 6)), .q 4 [] (.mv (.t 9)), .q 5 [] (.mv (.t 10))]) t_sDepthOf_3)
theorem u_sDepthOf_4 (P : Program) (k : KT) (e : Env) (w : World) : vcK P t_sDepthOf_4 k e w = vcK P (.seq (.reg [4] [.q 7 [] (.mv (.t 0)), .e (some 8) [] (.call false 126 [(.t 7)]), .q 6 [] (.mv (.t 8)), .q 9 [] (.ext 0 (.t 6)), .q 10 [] (.ext 1 (.t 6)), .q 4 [] (.mv (.t 9)), .q 5 [] (.mv (.t 10))]) t_sDepthOf_3) k e w := rfl
def x_sDepthOf : X := (.seq (.reg [0] [.q 2 [] (.mv (.c (.int .i64 0))), .q 3 [] (.mv (.c (.bool false)))]) t_sDepthOf_4)
theorem u_sDepthOf (P : Program) (k : KT) (e : Env) (w : World) : vcK P x_sDepthOf k e w = vcK P (.seq (.reg [0] [.q 2 [] (.mv (.c (.int .i64 0))), .q 3 [] (.mv (.c (.bool false)))]) t_sDepthOf_4) k e w := rfl
def r_sDepthOf : List XO := [(.mv (.t 2)), (.mv (.t 3))]
theorem c_sDepthOf : convF Try.prog [95, 96, 97, 107, 117, 118, 128, 129, 134, 144, 145, 153, 156, 174, 175, 182] Try.f59 [([0], []), ([4], []), ([4, 14], []), ([2, 3], []), ([2, 3], [])] = some (x_sDepthOf, r_sDepthOf) := by kernel_rfl
def us_sDepthOf := And.intro @u_sDepthOf (And.intro @u_sDepthOf_1 (And.intro @u_sDepthOf_2 (And.intro @u_sDepthOf_3 @u_sDepthOf_4)))
def t_sCompileWords_1 : X := (.cond (.t 19) (.seq (.reg [2, 3] [.q 2 [] (.mv (.s [])), .q 3 [] (.mv (.c (.bool false)))]) .ret) .skip)
theorem u_sCompileWords_1 (P : Program) (k : KT) (e : Env) (w : World) : vcK P t_sCompileWords_1 k e w = vcK P (.cond (.t 19) (.seq (.reg [2, 3] [.q 2 [] (.mv (.s [])), .q 3 [] (.mv (.c (.bool false)))]) .ret) .skip) k e w := rfl
def t_sCompileWords_2 : X := (.seq (.reg [2, 3] [.q 20 [] (.mv (.t 5)), .q 2 [] (.mv (.t 20)), .q 3 [] (.mv (.c (.bool true)))]) .ret)
theorem u_sCompileWords_2 (P : Program) (k : KT) (e : Env) (w : World) : vcK P t_sCompileWords_2 k e w = vcK P (.seq (.reg [2, 3] [.q 20 [] (.mv (.t 5)), .q 2 [] (.mv (.t 20)), .q 3 [] (.mv (.c (.bool true)))]) .ret) k e w := rfl
def t_sCompileWords_3 : X := (.seq (.seq (.reg [5, 19] [.q 11 [] (.mv (.t 4)), .q 12 [] (.nil (.t 11)), .q 13 [] (.fa 2 (.t 12)), .q 14 [] (.ld (.t 13)), .q 15 [] (.mv (.t 14)), .q 16 [(15, false)] (.mv (.t 5)), .e (some 17) [(15, false)] (.call false 136 [(.t 16)]), .q 18 [(15, false)] (.not (.t 17)), .q 19 [] (.pick (.t 15) (.c (.bool true)) (.t 18))]) t_sCompileWords_1) t_sCompileWords_2)
theorem u_sCompileWords_3 (P : Program) (k : KT) (e : Env) (w : World) : vcK P t_sCompileWords_3 k e w = vcK P (.seq (.seq (.reg [5, 19] [.q 11 [] (.mv (.t 4)), .q 12 [] (.nil (.t 11)), .q 13 [] (.fa 2 (.t 12)), .q 14 [] (.ld (.t 13)), .q 15 [] (.mv (.t 14)), .q 16 [(15, false)] (.mv (.t 5)), .e (some 17) [(15, false)] (.call false 136 [(.t 16)]), .q 18 [(15, false)] (.not (.t 17)), .q 19 [] (.pick (.t 15) (.c (.bool true)) (.t 18))]) t_sCompileWords_1) t_sCompileWords_2) k e w := rfl
def t_sCompileWords_4 : X := (.seq (.reg [4, 5] [.q 7 [] (.mv (.t 0)), .e (some 8) [] (.call false 126 [(.t 7)]), .q 6 [] (.mv (.t 8)), .q 9 [] (.ext 0 (.t 6)), .q 10 [] (.ext 1 (.t 6)), .q 4 [] (.mv (.t 9)), .q 5 [] (.mv (.t 10))]) t_sCompileWords_3)
theorem u_sCompileWords_4 (P : Program) (k : KT) (e : Env) (w : World) : vcK P t_sCompileWords_4 k e w = vcK P (.seq (.reg [4, 5] [.q 7 [] (.mv (.t 0)), .e (some 8) [] (.call false 126 [(.t 7)]), .q 6 [] (.mv (.t 8)), .q 9 [] (.ext 0 (.t 6)), .q 10 [] (.ext 1 (.t 6)), .q 4 [] (.mv (.t 9)), .q 5 [] (.mv (.t 10))]) t_sCompileWords_3) k e w := rfl
def x_sCompileWords : X := (.seq (.reg [0] [.q 2 [] (.mv (.s [])), .q 3 [] (.mv (.c (.bool false)))]) t_sCompileWords_4)
theorem u_sCompileWords (P : Program) (k : KT) (e : Env) (w : World) : vcK P x_sCompileWords k e w = vcK P (.seq (.reg [0] [.q 2 [] (.mv (.s [])), .q 3 [] (.mv (.c (.bool false)))]) t_sCompileWords_4) k e w := rfl
def r_sCompileWords : List XO := [(.mv (.t 2)), (.mv (.t 3))]
theorem c_sCompileWords : convF Try.prog [95, 96, 97, 107, 117, 118, 128, 129, 134, 144, 145, 153, 156, 174, 175, 182] Try.f74 [([0], []), ([4, 5], []), ([5, 19], []), ([2, 3], []), ([2, 3], [])] = some (x_sCompileWords, r_sCompileWords) := by kernel_rfl
def us_sCompileWords := And.intro @u_sCompileWords (And.intro @u_sCompileWords_1 (And.intro @u_sCompileWords_2 (And.intro @u_sCompileWords_3 @u_sCompileWords_4)))
def t_sNamesIn_1 : X := (.cond (.t 14) (.seq (.reg [2, 3] [.q 2 [] (.mv (.c (.slice none 0 0))), .q 3 [] (.mv (.c (.bool false)))]) .ret) .skip)
theorem u_sNamesIn_1 (P : Program) (k : KT) (e : Env) (w : World) : vcK P t_sNamesIn_1 k e w = vcK P (.cond (.t 14) (.seq (.reg [2, 3] [.q 2 [] (.mv (.c (.slice none 0 0))), .q 3 [] (.mv (.c (.bool false)))]) .ret) .skip) k e w := rfl
def t_sNamesIn_2 : X := (.seq (.reg [2, 3] [.q 15 [] (.mv (.t 4)), .q 16 [] (.nil (.t 15)), .q 17 [] (.fa 3 (.t 16)), .q 18 [] (.ld (.t 17)), .q 2 [] (.mv (.t 18)), .q 3 [] (.mv (.c (.bool true)))]) .ret)
theorem u_sNamesIn_2 (P : Program) (k : KT) (e : Env) (w : World) : vcK P t_sNamesIn_2 k e w = vcK P (.seq (.reg [2, 3] [.q 15 [] (.mv (.t 4)), .q 16 [] (.nil (.t 15)), .q 17 [] (.fa 3 (.t 16)), .q 18 [] (.ld (.t 17)), .q 2 [] (.mv (.t 18)), .q 3 [] (.mv (.c (.bool true)))]) .ret) k e w := rfl
def t_sNamesIn_3 : X := (.seq (.seq (.reg [4, 14] [.q 11 [] (.mv (.t 4)), .q 12 [] (.nil (.t 11)), .q 13 [] (.fa 2 (.t 12)), .q 14 [] (.ld (.t 13))]) t_sNamesIn_1) t_sNamesIn_2)
theorem u_sNamesIn_3 (P : Program) (k : KT) (e : Env) (w : World) : vcK P t_sNamesIn_3 k e w = vcK P (.seq (.seq (.reg [4, 14] [.q 11 [] (.mv (.t 4)), .q 12 [] (.nil (.t 11)), .q 13 [] (.fa 2 (.t 12)), .q 14 [] (.ld (.t 13))]) t_sNamesIn_1) t_sNamesIn_2) k e w := rfl
def t_sNamesIn_4 : X := (.seq (.reg [4] [.q 7 [] (.mv (.t 0)), .e (some 8) [] (.call false 126 [(.t 7)]), .q 6 [] (.mv (.t 8)), .q 9 [] (.ext 0 (.t 6)), .q 10 [] (.ext 1 (.t 6)), .q 4 [] (.mv (.t 9)), .q 5 [] (.mv (.t 10))]) t_sNamesIn_3)
theorem u_sNamesIn_4 (P : Program) (k : KT) (e : Env) (w : World) : vcK P t_sNamesIn_4 k e w = vcK P (.seq (.reg [4] [.q 7 [] (.mv (.t 0)), .e (some 8) [] (.call false 126 [(.t 7)]), .q 6 [] (.mv (.t 8)), .q 9 [] (.ext 0 (.t 6)), .q 10 [] (.ext 1 (.t 6)), .q 4 [] (.mv (.t 9)), .q 5 [] (.mv (.t 10))]) t_sNamesIn_3) k e w := rfl
def x_sNamesIn : X := (.seq (.reg [0] [.q 2 [] (.mv (.c (.slice none 0 0))), .q 3 [] (.mv (.c (.bool false)))]) t_sNamesIn_4)
theorem u_sNamesIn (P : Program) (k : KT) (e : Env) (w : World) : vcK P x_sNamesIn k e w = vcK P (.seq (.reg [0] [.q 2 [] (.mv (.c (.slice none 0 0))), .q 3 [] (.mv (.c (.bool false)))]) t_sNamesIn_4) k e w := rfl
def r_sNamesIn : List XO := [(.mv (.t 2)), (.mv (.t 3))]
theorem c_sNamesIn : convF Try.prog [95, 96, 97, 107, 117, 118, 128, 129, 134, 144, 145, 153, 156, 174, 175, 182] Try.f76 [([0], []), ([4], []), ([4, 14], []), ([2, 3], []), ([2, 3], [])] = some (x_sNamesIn, r_sNamesIn) := by kernel_rfl
def us_sNamesIn := And.intro @u_sNamesIn (And.intro @u_sNamesIn_1 (And.intro @u_sNamesIn_2 (And.intro @u_sNamesIn_3 @u_sNamesIn_4)))
def t_lFnExactIsWords_1 : X := (.cond (.t 7) (.seq (.reg [2] [.q 2 [] (.mv (.c (.bool true)))]) .ret) .skip)
theorem u_lFnExactIsWords_1 (P : Program) (k : KT) (e : Env) (w : World) : vcK P t_lFnExactIsWords_1 k e w = vcK P (.cond (.t 7) (.seq (.reg [2] [.q 2 [] (.mv (.c (.bool true)))]) .ret) .skip) k e w := rfl
def t_lFnExactIsWords_2 : X := (.cond (.t 14) (.seq (.reg [2] [.q 2 [] (.mv (.c (.bool false)))]) .ret) .skip)
theorem u_lFnExactIsWords_2 (P : Program) (k : KT) (e : Env) (w : World) : vcK P t_lFnExactIsWords_2 k e w = vcK P (.cond (.t 14) (.seq (.reg [2] [.q 2 [] (.mv (.c (.bool false)))]) .ret) .skip) k e w := rfl
def t_lFnExactIsWords_3 : X := (.seq (.reg [2] [.q 2 [] (.mv (.c (.bool true)))]) .ret)
theorem u_lFnExactIsWords_3 (P : Program) (k : KT) (e : Env) (w : World) : vcK P t_lFnExactIsWords_3 k e w = vcK P (.seq (.reg [2] [.q 2 [] (.mv (.c (.bool true)))]) .ret) k e w := rfl
def t_lFnExactIsWords_4 : X := (.seq (.seq (.reg [14] [.q 12 [] (.mv (.t 4)), .q 13 [] (.mv (.t 3)), .q 14 [] (.beq true (.t 12) (.t 13))]) t_lFnExactIsWords_2) t_lFnExactIsWords_3)
theorem u_lFnExactIsWords_4 (P : Program) (k : KT) (e : Env) (w : World) : vcK P t_lFnExactIsWords_4 k e w = vcK P (.seq (.seq (.reg [14] [.q 12 [] (.mv (.t 4)), .q 13 [] (.mv (.t 3)), .q 14 [] (.beq true (.t 12) (.t 13))]) t_lFnExactIsWords_2) t_lFnExactIsWords_3) k e w := rfl
def t_lFnExactIsWords_5 : X := (.seq (.reg [3, 4] [.q 10 [] (.mv (.t 0)), .e (some 11) [] (.call false 58 [(.t 10)]), .q 4 [] (.mv (.t 11))]) t_lFnExactIsWords_4)
theorem u_lFnExactIsWords_5 (P : Program) (k : KT) (e : Env) (w : World) : vcK P t_lFnExactIsWords_5 k e w = vcK P (.seq (.reg [3, 4] [.q 10 [] (.mv (.t 0)), .e (some 11) [] (.call false 58 [(.t 10)]), .q 4 [] (.mv (.t 11))]) t_lFnExactIsWords_4) k e w := rfl
def t_lFnExactIsWords_6 : X := (.seq (.reg [0, 3] [.q 8 [] (.mv (.t 0)), .e (some 9) [] (.call false 57 [(.t 8)]), .q 3 [] (.mv (.t 9))]) t_lFnExactIsWords_5)
theorem u_lFnExactIsWords_6 (P : Program) (k : KT) (e : Env) (w : World) : vcK P t_lFnExactIsWords_6 k e w = vcK P (.seq (.reg [0, 3] [.q 8 [] (.mv (.t 0)), .e (some 9) [] (.call false 57 [(.t 8)]), .q 3 [] (.mv (.t 9))]) t_lFnExactIsWords_5) k e w := rfl
def t_lFnExactIsWords_7 : X := (.seq (.seq (.reg [0, 7] [.q 5 [] (.mv (.t 0)), .q 6 [] (.len (.t 5)), .q 7 [] (.bin .gtr (.t 6) (.c (.int .i64 1048576)))]) t_lFnExactIsWords_1) t_lFnExactIsWords_6)
theorem u_lFnExactIsWords_7 (P : Program) (k : KT) (e : Env) (w : World) : vcK P t_lFnExactIsWords_7 k e w = vcK P (.seq (.seq (.reg [0, 7] [.q 5 [] (.mv (.t 0)), .q 6 [] (.len (.t 5)), .q 7 [] (.bin .gtr (.t 6) (.c (.int .i64 1048576)))]) t_lFnExactIsWords_1) t_lFnExactIsWords_6) k e w := rfl
def x_lFnExactIsWords : X := (.seq (.reg [0] [.q 2 [] (.mv (.c (.bool false)))]) t_lFnExactIsWords_7)
theorem u_lFnExactIsWords (P : Program) (k : KT) (e : Env) (w : World) : vcK P x_lFnExactIsWords k e w = vcK P (.seq (.reg [0] [.q 2 [] (.mv (.c (.bool false)))]) t_lFnExactIsWords_7) k e w := rfl
def r_lFnExactIsWords : List XO := [(.mv (.t 2))]
theorem c_lFnExactIsWords : convF Try.prog [95, 96, 97, 107, 117, 118, 128, 129, 134, 144, 145, 153, 156, 174, 175, 182] Try.f9 [([0], []), ([0, 7], []), ([2], []), ([0, 3], []), ([3, 4], []), ([14], []), ([2], []), ([2], [])] = some (x_lFnExactIsWords, r_lFnExactIsWords) := by kernel_rfl
def us_lFnExactIsWords := And.intro @u_lFnExactIsWords (And.intro @u_lFnExactIsWords_1 (And.intro @u_lFnExactIsWords_2 (And.intro @u_lFnExactIsWords_3 (And.intro @u_lFnExactIsWords_4 (And.intro @u_lFnExactIsWords_5 (And.intro @u_lFnExactIsWords_6 @u_lFnExactIsWords_7))))))
def t_lFnExactDepthOf_1 : X := (.cond (.t 9) (.seq (.reg [2] [.q 2 [] (.mv (.c (.bool true)))]) .ret) .skip)
theorem u_lFnExactDepthOf_1 (P : Program) (k : KT) (e : Env) (w : World) : vcK P t_lFnExactDepthOf_1 k e w = vcK P (.cond (.t 9) (.seq (.reg [2] [.q 2 [] (.mv (.c (.bool true)))]) .ret) .skip) k e w := rfl
def t_lFnExactDepthOf_2 : X := (.cond (.t 27) (.seq (.reg [2] [.q 2 [] (.mv (.c (.bool false)))]) .ret) .skip)
theorem u_lFnExactDepthOf_2 (P : Program) (k : KT) (e : Env) (w : World) : vcK P t_lFnExactDepthOf_2 k e w = vcK P (.cond (.t 27) (.seq (.reg [2] [.q 2 [] (.mv (.c (.bool false)))]) .ret) .skip) k e w := rfl
def t_lFnExactDepthOf_3 : X := (.seq (.reg [2] [.q 2 [] (.mv (.c (.bool true)))]) .ret)
theorem u_lFnExactDepthOf_3 (P : Program) (k : KT) (e : Env) (w : World) : vcK P t_lFnExactDepthOf_3 k e w = vcK P (.seq (.reg [2] [.q 2 [] (.mv (.c (.bool true)))]) .ret) k e w := rfl
def t_lFnExactDepthOf_4 : X := (.seq (.seq (.reg [27] [.q 20 [] (.mv (.t 5)), .q 21 [] (.mv (.t 3)), .q 22 [] (.bin .neq (.t 20) (.t 21)), .q 23 [] (.mv (.t 22)), .q 24 [(23, false)] (.mv (.t 6)), .q 25 [(23, false)] (.mv (.t 4)), .q 26 [(23, false)] (.beq true (.t 24) (.t 25)), .q 27 [] (.pick (.t 23) (.c (.bool true)) (.t 26))]) t_lFnExactDepthOf_2) t_lFnExactDepthOf_3)
theorem u_lFnExactDepthOf_4 (P : Program) (k : KT) (e : Env) (w : World) : vcK P t_lFnExactDepthOf_4 k e w = vcK P (.seq (.seq (.reg [27] [.q 20 [] (.mv (.t 5)), .q 21 [] (.mv (.t 3)), .q 22 [] (.bin .neq (.t 20) (.t 21)), .q 23 [] (.mv (.t 22)), .q 24 [(23, false)] (.mv (.t 6)), .q 25 [(23, false)] (.mv (.t 4)), .q 26 [(23, false)] (.beq true (.t 24) (.t 25)), .q 27 [] (.pick (.t 23) (.c (.bool true)) (.t 26))]) t_lFnExactDepthOf_2) t_lFnExactDepthOf_3) k e w := rfl
def t_lFnExactDepthOf_5 : X := (.seq (.reg [3, 4, 5, 6] [.q 16 [] (.mv (.t 0)), .e (some 17) [] (.call false 60 [(.t 16)]), .q 15 [] (.mv (.t 17)), .q 18 [] (.ext 0 (.t 15)), .q 19 [] (.ext 1 (.t 15)), .q 5 [] (.mv (.t 18)), .q 6 [] (.mv (.t 19))]) t_lFnExactDepthOf_4)
theorem u_lFnExactDepthOf_5 (P : Program) (k : KT) (e : Env) (w : World) : vcK P t_lFnExactDepthOf_5 k e w = vcK P (.seq (.reg [3, 4, 5, 6] [.q 16 [] (.mv (.t 0)), .e (some 17) [] (.call false 60 [(.t 16)]), .q 15 [] (.mv (.t 17)), .q 18 [] (.ext 0 (.t 15)), .q 19 [] (.ext 1 (.t 15)), .q 5 [] (.mv (.t 18)), .q 6 [] (.mv (.t 19))]) t_lFnExactDepthOf_4) k e w := rfl
def t_lFnExactDepthOf_6 : X := (.seq (.reg [0, 3, 4] [.q 11 [] (.mv (.t 0)), .e (some 12) [] (.call false 59 [(.t 11)]), .q 10 [] (.mv (.t 12)), .q 13 [] (.ext 0 (.t 10)), .q 14 [] (.ext 1 (.t 10)), .q 3 [] (.mv (.t 13)), .q 4 [] (.mv (.t 14))]) t_lFnExactDepthOf_5)
theorem u_lFnExactDepthOf_6 (P : Program) (k : KT) (e : Env) (w : World) : vcK P t_lFnExactDepthOf_6 k e w = vcK P (.seq (.reg [0, 3, 4] [.q 11 [] (.mv (.t 0)), .e (some 12) [] (.call false 59 [(.t 11)]), .q 10 [] (.mv (.t 12)), .q 13 [] (.ext 0 (.t 10)), .q 14 [] (.ext 1 (.t 10)), .q 3 [] (.mv (.t 13)), .q 4 [] (.mv (.t 14))]) t_lFnExactDepthOf_5) k e w := rfl
def t_lFnExactDepthOf_7 : X := (.seq (.seq (.reg [0, 9] [.q 7 [] (.mv (.t 0)), .q 8 [] (.len (.t 7)), .q 9 [] (.bin .gtr (.t 8) (.c (.int .i64 1048576)))]) t_lFnExactDepthOf_1) t_lFnExactDepthOf_6)
theorem u_lFnExactDepthOf_7 (P : Program) (k : KT) (e : Env) (w : World) : vcK P t_lFnExactDepthOf_7 k e w = vcK P (.seq (.seq (.reg [0, 9] [.q 7 [] (.mv (.t 0)), .q 8 [] (.len (.t 7)), .q 9 [] (.bin .gtr (.t 8) (.c (.int .i64 1048576)))]) t_lFnExactDepthOf_1) t_lFnExactDepthOf_6) k e w := rfl
def x_lFnExactDepthOf : X := (.seq (.reg [0] [.q 2 [] (.mv (.c (.bool false)))]) t_lFnExactDepthOf_7)
theorem u_lFnExactDepthOf (P : Program) (k : KT) (e : Env) (w : World) : vcK P x_lFnExactDepthOf k e w = vcK P (.seq (.reg [0] [.q 2 [] (.mv (.c (.bool false)))]) t_lFnExactDepthOf_7) k e w := rfl
def r_lFnExactDepthOf : List XO := [(.mv (.t 2))]
theorem c_lFnExactDepthOf : convF Try.prog [95, 96, 97, 107, 117, 118, 128, 129, 134, 144, 145, 153, 156, 174, 175, 182] Try.f10 [([0], []), ([0, 9], []), ([2], []), ([0, 3, 4], []), ([3, 4, 5, 6], []), ([27], []), ([2], []), ([2], [])] = some (x_lFnExactDepthOf, r_lFnExactDepthOf) := by kernel_rfl
def us_lFnExactDepthOf := And.intro @u_lFnExactDepthOf (And.intro @u_lFnExactDepthOf_1 (And.intro @u_lFnExactDepthOf_2 (And.intro @u_lFnExactDepthOf_3 (And.intro @u_lFnExactDepthOf_4 (And.intro @u_lFnExactDepthOf_5 (And.intro @u_lFnExactDepthOf_6 @u_lFnExactDepthOf_7))))))
def t_lFnExactCompileWords_1 : X := (.cond (.t 9) (.seq (.reg [2] [.q 2 [] (.mv (.c (.bool true)))]) .ret) .skip)
theorem u_lFnExactCompileWords_1 (P : Program) (k : KT) (e : Env) (w : World) : vcK P t_lFnExactCompileWords_1 k e w = vcK P (.cond (.t 9) (.seq (.reg [2] [.q 2 [] (.mv (.c (.bool true)))]) .ret) .skip) k e w := rfl
def t_lFnExactCompileWords_2 : X := (.cond (.t 27) (.seq (.reg [2] [.q 2 [] (.mv (.c (.bool false)))]) .ret) .skip)
theorem u_lFnExactCompileWords_2 (P : Program) (k : KT) (e : Env) (w : World) : vcK P t_lFnExactCompileWords_2 k e w = vcK P (.cond (.t 27) (.seq (.reg [2] [.q 2 [] (.mv (.c (.bool false)))]) .ret) .skip) k e w := rfl
def t_lFnExactCompileWords_3 : X := (.seq (.reg [2] [.q 2 [] (.mv (.c (.bool true)))]) .ret)
theorem u_lFnExactCompileWords_3 (P : Program) (k : KT) (e : Env) (w : World) : vcK P t_lFnExactCompileWords_3 k e w = vcK P (.seq (.reg [2] [.q 2 [] (.mv (.c (.bool true)))]) .ret) k e w := rfl
def t_lFnExactCompileWords_4 : X := (.seq (.seq (.reg [27] [.q 20 [] (.mv (.t 5)), .q 21 [] (.mv (.t 3)), .q 22 [] (.bin .neq (.t 20) (.t 21)), .q 23 [] (.mv (.t 22)), .q 24 [(23, false)] (.mv (.t 6)), .q 25 [(23, false)] (.mv (.t 4)), .q 26 [(23, false)] (.beq true (.t 24) (.t 25)), .q 27 [] (.pick (.t 23) (.c (.bool true)) (.t 26))]) t_lFnExactCompileWords_2) t_lFnExactCompileWords_3)
theorem u_lFnExactCompileWords_4 (P : Program) (k : KT) (e : Env) (w : World) : vcK P t_lFnExactCompileWords_4 k e w = vcK P (.seq (.seq (.reg [27] [.q 20 [] (.mv (.t 5)), .q 21 [] (.mv (.t 3)), .q 22 [] (.bin .neq (.t 20) (.t 21)), .q 23 [] (.mv (.t 22)), .q 24 [(23, false)] (.mv (.t 6)), .q 25 [(23, false)] (.mv (.t 4)), .q 26 [(23, false)] (.beq true (.t 24) (.t 25)), .q 27 [] (.pick (.t 23) (.c (.bool true)) (.t 26))]) t_lFnExactCompileWords_2) t_lFnExactCompileWords_3) k e w := rfl
def t_lFnExactCompileWords_5 : X := (.seq (.reg [3, 4, 5, 6] [.q 16 [] (.mv (.t 0)), .e (some 17) [] (.call false 75 [(.t 16)]), .q 15 [] (.mv (.t 17)), .q 18 [] (.ext 0 (.t 15)), .q 19 [] (.ext 1 (.t 15)), .q 5 [] (.mv (.t 18)), .q 6 [] (.mv (.t 19))]) t_lFnExactCompileWords_4)
theorem u_lFnExactCompileWords_5 (P : Program) (k : KT) (e : Env) (w : World) : vcK P t_lFnExactCompileWords_5 k e w = vcK P (.seq (.reg [3, 4, 5, 6] [.q 16 [] (.mv (.t 0)), .e (some 17) [] (.call false 75 [(.t 16)]), .q 15 [] (.mv (.t 17)), .q 18 [] (.ext 0 (.t 15)), .q 19 [] (.ext 1 (.t 15)), .q 5 [] (.mv (.t 18)), .q 6 [] (.mv (.t 19))]) t_lFnExactCompileWords_4) k e w := rfl
def t_lFnExactCompileWords_6 : X := (.seq (.reg [0, 3, 4] [.q 11 [] (.mv (.t 0)), .e (some 12) [] (.call false 74 [(.t 11)]), .q 10 [] (.mv (.t 12)), .q 13 [] (.ext 0 (.t 10)), .q 14 [] (.ext 1 (.t 10)), .q 3 [] (.mv (.t 13)), .q 4 [] (.mv (.t 14))]) t_lFnExactCompileWords_5)
theorem u_lFnExactCompileWords_6 (P : Program) (k : KT) (e : Env) (w : World) : vcK P t_lFnExactCompileWords_6 k e w = vcK P (.seq (.reg [0, 3, 4] [.q 11 [] (.mv (.t 0)), .e (some 12) [] (.call false 74 [(.t 11)]), .q 10 [] (.mv (.t 12)), .q 13 [] (.ext 0 (.t 10)), .q 14 [] (.ext 1 (.t 10)), .q 3 [] (.mv (.t 13)), .q 4 [] (.mv (.t 14))]) t_lFnExactCompileWords_5) k e w := rfl
def t_lFnExactCompileWords_7 : X := (.seq (.seq (.reg [0, 9] [.q 7 [] (.mv (.t 0)), .q 8 [] (.len (.t 7)), .q 9 [] (.bin .gtr (.t 8) (.c (.int .i64 1048576)))]) t_lFnExactCompileWords_1) t_lFnExactCompileWords_6)
theorem u_lFnExactCompileWords_7 (P : Program) (k : KT) (e : Env) (w : World) : vcK P t_lFnExactCompileWords_7 k e w = vcK P (.seq (.seq (.reg [0, 9] [.q 7 [] (.mv (.t 0)), .q 8 [] (.len (.t 7)), .q 9 [] (.bin .gtr (.t 8) (.c (.int .i64 1048576)))]) t_lFnExactCompileWords_1) t_lFnExactCompileWords_6) k e w := rfl
def x_lFnExactCompileWords : X := (.seq (.reg [0] [.q 2 [] (.mv (.c (.bool false)))]) t_lFnExactCompileWords_7)
theorem u_lFnExactCompileWords (P : Program) (k : KT) (e : Env) (w : World) : vcK P x_lFnExactCompileWords k e w = vcK P (.seq (.reg [0] [.q 2 [] (.mv (.c (.bool false)))]) t_lFnExactCompileWords_7) k e w := rfl
def r_lFnExactCompileWords : List XO := [(.mv (.t 2))]
theorem c_lFnExactCompileWords : convF Try.prog [95, 96, 97, 107, 117, 118, 128, 129, 134, 144, 145, 153, 156, 174, 175, 182] Try.f12 [([0], []), ([0, 9], []), ([2], []), ([0, 3, 4], []), ([3, 4, 5, 6], []), ([27], []), ([2], []), ([2], [])] = some (x_lFnExactCompileWords, r_lFnExactCompileWords) := by kernel_rfl
def us_lFnExactCompileWords := And.intro @u_lFnExactCompileWords (And.intro @u_lFnExactCompileWords_1 (And.intro @u_lFnExactCompileWords_2 (And.intro @u_lFnExactCompileWords_3 (And.intro @u_lFnExactCompileWords_4 (And.intro @u_lFnExactCompileWords_5 (And.intro @u_lFnExactCompileWords_6 @u_lFnExactCompileWords_7))))))
def t_lFnExactNamesIn_1 : X := (.cond (.t 13) (.seq (.reg [2] [.q 2 [] (.mv (.c (.bool true)))]) .ret) .skip)
theorem u_lFnExactNamesIn_1 (P : Program) (k : KT) (e : Env) (w : World) : vcK P t_lFnExactNamesIn_1 k e w = vcK P (.cond (.t 13) (.seq (.reg [2] [.q 2 [] (.mv (.c (.bool true)))]) .ret) .skip) k e w := rfl
def t_lFnExactNamesIn_2 : X := (.cond (.t 32) (.seq (.reg [2] [.q 2 [] (.mv (.c (.bool false)))]) .ret) .skip)
theorem u_lFnExactNamesIn_2 (P : Program) (k : KT) (e : Env) (w : World) : vcK P t_lFnExactNamesIn_2 k e w = vcK P (.cond (.t 32) (.seq (.reg [2] [.q 2 [] (.mv (.c (.bool false)))]) .ret) .skip) k e w := rfl
def t_lFnExactNamesIn_3 : X := (.cond (.t 40) (.seq (.reg [2] [.q 2 [] (.mv (.c (.bool false)))]) .ret) .skip)
theorem u_lFnExactNamesIn_3 (P : Program) (k : KT) (e : Env) (w : World) : vcK P t_lFnExactNamesIn_3 k e w = vcK P (.cond (.t 40) (.seq (.reg [2] [.q 2 [] (.mv (.c (.bool false)))]) .ret) .skip) k e w := rfl
def t_lFnExactNamesIn_4 : X := (.cond (.t 43) (.seq (.reg [2] [.q 2 [] (.mv (.c (.bool false)))]) .ret) .skip)
theorem u_lFnExactNamesIn_4 (P : Program) (k : KT) (e : Env) (w : World) : vcK P t_lFnExactNamesIn_4 k e w = vcK P (.cond (.t 43) (.seq (.reg [2] [.q 2 [] (.mv (.c (.bool false)))]) .ret) .skip) k e w := rfl
def t_lFnExactNamesIn_5 : X := (.cond (.t 57) (.seq (.reg [2] [.q 2 [] (.mv (.c (.bool false)))]) .ret) .skip)
theorem u_lFnExactNamesIn_5 (P : Program) (k : KT) (e : Env) (w : World) : vcK P t_lFnExactNamesIn_5 k e w = vcK P (.cond (.t 57) (.seq (.reg [2] [.q 2 [] (.mv (.c (.bool false)))]) .ret) .skip) k e w := rfl
def t_lFnExactNamesIn_6 : X := (.cond (.t 62) (.seq (.reg [2] [.q 2 [] (.mv (.c (.bool false)))]) .ret) .skip)
theorem u_lFnExactNamesIn_6 (P : Program) (k : KT) (e : Env) (w : World) : vcK P t_lFnExactNamesIn_6 k e w = vcK P (.cond (.t 62) (.seq (.reg [2] [.q 2 [] (.mv (.c (.bool false)))]) .ret) .skip) k e w := rfl
def t_lFnExactNamesIn_7 : X := (.cond (.t 65) (.seq (.reg [2] [.q 2 [] (.mv (.c (.bool false)))]) .ret) .skip)
theorem u_lFnExactNamesIn_7 (P : Program) (k : KT) (e : Env) (w : World) : vcK P t_lFnExactNamesIn_7 k e w = vcK P (.cond (.t 65) (.seq (.reg [2] [.q 2 [] (.mv (.c (.bool false)))]) .ret) .skip) k e w := rfl
def t_lFnExactNamesIn_8 : X := (.seq (.reg [2] [.q 2 [] (.mv (.c (.bool true)))]) .ret)
theorem u_lFnExactNamesIn_8 (P : Program) (k : KT) (e : Env) (w : World) : vcK P t_lFnExactNamesIn_8 k e w = vcK P (.seq (.reg [2] [.q 2 [] (.mv (.c (.bool true)))]) .ret) k e w := rfl
def t_lFnExactNamesIn_9 : X := (.seq (.seq (.reg [65] [.q 63 [] (.mv (.t 8)), .q 64 [] (.mv (.t 7)), .q 65 [] (.bin .neq (.t 63) (.t 64))]) t_lFnExactNamesIn_7) t_lFnExactNamesIn_8)
theorem u_lFnExactNamesIn_9 (P : Program) (k : KT) (e : Env) (w : World) : vcK P t_lFnExactNamesIn_9 k e w = vcK P (.seq (.seq (.reg [65] [.q 63 [] (.mv (.t 8)), .q 64 [] (.mv (.t 7)), .q 65 [] (.bin .neq (.t 63) (.t 64))]) t_lFnExactNamesIn_7) t_lFnExactNamesIn_8) k e w := rfl
def t_lFnExactNamesIn_10 : X := (.seq (.seq (.reg [7, 8, 62] [.q 61 [] (.mv (.t 8)), .q 62 [] (.bin .lss (.t 61) (.c (.int .i64 0)))]) t_lFnExactNamesIn_6) t_lFnExactNamesIn_9)
theorem u_lFnExactNamesIn_10 (P : Program) (k : KT) (e : Env) (w : World) : vcK P t_lFnExactNamesIn_10 k e w = vcK P (.seq (.seq (.reg [7, 8, 62] [.q 61 [] (.mv (.t 8)), .q 62 [] (.bin .lss (.t 61) (.c (.int .i64 0)))]) t_lFnExactNamesIn_6) t_lFnExactNamesIn_9) k e w := rfl
def t_lFnExactNamesIn_11 : X := (.seq (.reg [7, 8] [.q 58 [] (.mv (.t 5)), .q 59 [] (.mv (.t 8)), .e (some 60) [] (.call false 19 [(.t 58), (.t 59)]), .q 8 [] (.mv (.t 60))]) t_lFnExactNamesIn_10)
theorem u_lFnExactNamesIn_11 (P : Program) (k : KT) (e : Env) (w : World) : vcK P t_lFnExactNamesIn_11 k e w = vcK P (.seq (.reg [7, 8] [.q 58 [] (.mv (.t 5)), .q 59 [] (.mv (.t 8)), .e (some 60) [] (.call false 19 [(.t 58), (.t 59)]), .q 8 [] (.mv (.t 60))]) t_lFnExactNamesIn_10) k e w := rfl
def t_lFnExactNamesIn_12 : X := (.seq (.reg [5, 7, 8] [.q 8 [] (.mv (.c (.int .i64 1)))]) t_lFnExactNamesIn_11)
theorem u_lFnExactNamesIn_12 (P : Program) (k : KT) (e : Env) (w : World) : vcK P t_lFnExactNamesIn_12 k e w = vcK P (.seq (.reg [5, 7, 8] [.q 8 [] (.mv (.c (.int .i64 1)))]) t_lFnExactNamesIn_11) k e w := rfl
def t_lFnExactNamesIn_13 : X := (.seq (.seq (.reg [5, 7, 57] [.q 49 [] (.mv (.t 9)), .q 50 [] (.mv (.t 3)), .e (some 51) [] (.call false 17 [(.t 49), (.t 50)]), .q 52 [] (.not (.t 51)), .q 53 [] (.mv (.t 52)), .q 54 [(53, false)] (.mv (.t 10)), .q 55 [(53, false)] (.mv (.t 4)), .q 56 [(53, false)] (.beq true (.t 54) (.t 55)), .q 57 [] (.pick (.t 53) (.c (.bool true)) (.t 56))]) t_lFnExactNamesIn_5) t_lFnExactNamesIn_12)
theorem u_lFnExactNamesIn_13 (P : Program) (k : KT) (e : Env) (w : World) : vcK P t_lFnExactNamesIn_13 k e w = vcK P (.seq (.seq (.reg [5, 7, 57] [.q 49 [] (.mv (.t 9)), .q 50 [] (.mv (.t 3)), .e (some 51) [] (.call false 17 [(.t 49), (.t 50)]), .q 52 [] (.not (.t 51)), .q 53 [] (.mv (.t 52)), .q 54 [(53, false)] (.mv (.t 10)), .q 55 [(53, false)] (.mv (.t 4)), .q 56 [(53, false)] (.beq true (.t 54) (.t 55)), .q 57 [] (.pick (.t 53) (.c (.bool true)) (.t 56))]) t_lFnExactNamesIn_5) t_lFnExactNamesIn_12) k e w := rfl
def t_lFnExactNamesIn_14 : X := (.seq (.reg [3, 4, 5, 7, 9, 10] [.q 45 [] (.mv (.t 0)), .e (some 46) [] (.call false 77 [(.t 45)]), .q 44 [] (.mv (.t 46)), .q 47 [] (.ext 0 (.t 44)), .q 48 [] (.ext 1 (.t 44)), .q 9 [] (.mv (.t 47)), .q 10 [] (.mv (.t 48))]) t_lFnExactNamesIn_13)
theorem u_lFnExactNamesIn_14 (P : Program) (k : KT) (e : Env) (w : World) : vcK P t_lFnExactNamesIn_14 k e w = vcK P (.seq (.reg [3, 4, 5, 7, 9, 10] [.q 45 [] (.mv (.t 0)), .e (some 46) [] (.call false 77 [(.t 45)]), .q 44 [] (.mv (.t 46)), .q 47 [] (.ext 0 (.t 44)), .q 48 [] (.ext 1 (.t 44)), .q 9 [] (.mv (.t 47)), .q 10 [] (.mv (.t 48))]) t_lFnExactNamesIn_13) k e w := rfl
def t_lFnExactNamesIn_15 : X := (.seq (.seq (.reg [0, 3, 4, 5, 7, 43] [.q 41 [] (.mv (.t 8)), .q 42 [] (.mv (.t 7)), .q 43 [] (.bin .neq (.t 41) (.t 42))]) t_lFnExactNamesIn_4) t_lFnExactNamesIn_14)
theorem u_lFnExactNamesIn_15 (P : Program) (k : KT) (e : Env) (w : World) : vcK P t_lFnExactNamesIn_15 k e w = vcK P (.seq (.seq (.reg [0, 3, 4, 5, 7, 43] [.q 41 [] (.mv (.t 8)), .q 42 [] (.mv (.t 7)), .q 43 [] (.bin .neq (.t 41) (.t 42))]) t_lFnExactNamesIn_4) t_lFnExactNamesIn_14) k e w := rfl
def t_lFnExactNamesIn_16 : X := (.seq (.seq (.reg [0, 3, 4, 5, 7, 8, 40] [.q 39 [] (.mv (.t 8)), .q 40 [] (.bin .lss (.t 39) (.c (.int .i64 0)))]) t_lFnExactNamesIn_3) t_lFnExactNamesIn_15)
theorem u_lFnExactNamesIn_16 (P : Program) (k : KT) (e : Env) (w : World) : vcK P t_lFnExactNamesIn_16 k e w = vcK P (.seq (.seq (.reg [0, 3, 4, 5, 7, 8, 40] [.q 39 [] (.mv (.t 8)), .q 40 [] (.bin .lss (.t 39) (.c (.int .i64 0)))]) t_lFnExactNamesIn_3) t_lFnExactNamesIn_15) k e w := rfl
def t_lFnExactNamesIn_17 : X := (.seq (.reg [0, 3, 4, 5, 7, 8] [.q 36 [] (.mv (.t 5)), .q 37 [] (.mv (.t 8)), .e (some 38) [] (.call false 19 [(.t 36), (.t 37)]), .q 8 [] (.mv (.t 38))]) t_lFnExactNamesIn_16)
theorem u_lFnExactNamesIn_17 (P : Program) (k : KT) (e : Env) (w : World) : vcK P t_lFnExactNamesIn_17 k e w = vcK P (.seq (.reg [0, 3, 4, 5, 7, 8] [.q 36 [] (.mv (.t 5)), .q 37 [] (.mv (.t 8)), .e (some 38) [] (.call false 19 [(.t 36), (.t 37)]), .q 8 [] (.mv (.t 38))]) t_lFnExactNamesIn_16) k e w := rfl
def t_lFnExactNamesIn_18 : X := (.seq (.reg [0, 3, 4, 5, 7, 8] [.q 8 [] (.mv (.c (.int .i64 1)))]) t_lFnExactNamesIn_17)
theorem u_lFnExactNamesIn_18 (P : Program) (k : KT) (e : Env) (w : World) : vcK P t_lFnExactNamesIn_18 k e w = vcK P (.seq (.reg [0, 3, 4, 5, 7, 8] [.q 8 [] (.mv (.c (.int .i64 1)))]) t_lFnExactNamesIn_17) k e w := rfl
def t_lFnExactNamesIn_19 : X := (.seq (.reg [0, 3, 4, 5, 7] [.q 33 [] (.mv (.t 5)), .q 34 [] (.mv (.t 7)), .e (some 35) [] (.call false 18 [(.t 33), (.t 34)]), .q 7 [] (.mv (.t 35))]) t_lFnExactNamesIn_18)
theorem u_lFnExactNamesIn_19 (P : Program) (k : KT) (e : Env) (w : World) : vcK P t_lFnExactNamesIn_19 k e w = vcK P (.seq (.reg [0, 3, 4, 5, 7] [.q 33 [] (.mv (.t 5)), .q 34 [] (.mv (.t 7)), .e (some 35) [] (.call false 18 [(.t 33), (.t 34)]), .q 7 [] (.mv (.t 35))]) t_lFnExactNamesIn_18) k e w := rfl
def t_lFnExactNamesIn_20 : X := (.seq (.reg [0, 3, 4, 5, 7] [.q 7 [] (.mv (.c (.int .i64 1)))]) t_lFnExactNamesIn_19)
theorem u_lFnExactNamesIn_20 (P : Program) (k : KT) (e : Env) (w : World) : vcK P t_lFnExactNamesIn_20 k e w = vcK P (.seq (.reg [0, 3, 4, 5, 7] [.q 7 [] (.mv (.c (.int .i64 1)))]) t_lFnExactNamesIn_19) k e w := rfl
def t_lFnExactNamesIn_21 : X := (.seq (.seq (.reg [0, 3, 4, 5, 32] [.q 24 [] (.mv (.t 5)), .q 25 [] (.mv (.t 3)), .e (some 26) [] (.call false 17 [(.t 24), (.t 25)]), .q 27 [] (.not (.t 26)), .q 28 [] (.mv (.t 27)), .q 29 [(28, false)] (.mv (.t 6)), .q 30 [(28, false)] (.mv (.t 4)), .q 31 [(28, false)] (.beq true (.t 29) (.t 30)), .q 32 [] (.pick (.t 28) (.c (.bool true)) (.t 31))]) t_lFnExactNamesIn_2) t_lFnExactNamesIn_20)
theorem u_lFnExactNamesIn_21 (P : Program) (k : KT) (e : Env) (w : World) : vcK P t_lFnExactNamesIn_21 k e w = vcK P (.seq (.seq (.reg [0, 3, 4, 5, 32] [.q 24 [] (.mv (.t 5)), .q 25 [] (.mv (.t 3)), .e (some 26) [] (.call false 17 [(.t 24), (.t 25)]), .q 27 [] (.not (.t 26)), .q 28 [] (.mv (.t 27)), .q 29 [(28, false)] (.mv (.t 6)), .q 30 [(28, false)] (.mv (.t 4)), .q 31 [(28, false)] (.beq true (.t 29) (.t 30)), .q 32 [] (.pick (.t 28) (.c (.bool true)) (.t 31))]) t_lFnExactNamesIn_2) t_lFnExactNamesIn_20) k e w := rfl
def t_lFnExactNamesIn_22 : X := (.seq (.reg [0, 3, 4, 5, 6] [.q 20 [] (.mv (.t 0)), .e (some 21) [] (.call false 77 [(.t 20)]), .q 19 [] (.mv (.t 21)), .q 22 [] (.ext 0 (.t 19)), .q 23 [] (.ext 1 (.t 19)), .q 5 [] (.mv (.t 22)), .q 6 [] (.mv (.t 23))]) t_lFnExactNamesIn_21)
theorem u_lFnExactNamesIn_22 (P : Program) (k : KT) (e : Env) (w : World) : vcK P t_lFnExactNamesIn_22 k e w = vcK P (.seq (.reg [0, 3, 4, 5, 6] [.q 20 [] (.mv (.t 0)), .e (some 21) [] (.call false 77 [(.t 20)]), .q 19 [] (.mv (.t 21)), .q 22 [] (.ext 0 (.t 19)), .q 23 [] (.ext 1 (.t 19)), .q 5 [] (.mv (.t 22)), .q 6 [] (.mv (.t 23))]) t_lFnExactNamesIn_21) k e w := rfl
def t_lFnExactNamesIn_23 : X := (.seq (.reg [0, 3, 4] [.q 15 [] (.mv (.t 0)), .e (some 16) [] (.call false 76 [(.t 15)]), .q 14 [] (.mv (.t 16)), .q 17 [] (.ext 0 (.t 14)), .q 18 [] (.ext 1 (.t 14)), .q 3 [] (.mv (.t 17)), .q 4 [] (.mv (.t 18))]) t_lFnExactNamesIn_22)
theorem u_lFnExactNamesIn_23 (P : Program) (k : KT) (e : Env) (w : World) : vcK P t_lFnExactNamesIn_23 k e w = vcK P (.seq (.reg [0, 3, 4] [.q 15 [] (.mv (.t 0)), .e (some 16) [] (.call false 76 [(.t 15)]), .q 14 [] (.mv (.t 16)), .q 17 [] (.ext 0 (.t 14)), .q 18 [] (.ext 1 (.t 14)), .q 3 [] (.mv (.t 17)), .q 4 [] (.mv (.t 18))]) t_lFnExactNamesIn_22) k e w := rfl
def t_lFnExactNamesIn_24 : X := (.seq (.seq (.reg [0, 13] [.q 11 [] (.mv (.t 0)), .q 12 [] (.len (.t 11)), .q 13 [] (.bin .gtr (.t 12) (.c (.int .i64 1048576)))]) t_lFnExactNamesIn_1) t_lFnExactNamesIn_23)
theorem u_lFnExactNamesIn_24 (P : Program) (k : KT) (e : Env) (w : World) : vcK P t_lFnExactNamesIn_24 k e w = vcK P (.seq (.seq (.reg [0, 13] [.q 11 [] (.mv (.t 0)), .q 12 [] (.len (.t 11)), .q 13 [] (.bin .gtr (.t 12) (.c (.int .i64 1048576)))]) t_lFnExactNamesIn_1) t_lFnExactNamesIn_23) k e w := rfl
def x_lFnExactNamesIn : X := (.seq (.reg [0] [.q 2 [] (.mv (.c (.bool false)))]) t_lFnExactNamesIn_24)
theorem u_lFnExactNamesIn (P : Program) (k : KT) (e : Env) (w : World) : vcK P x_lFnExactNamesIn k e w = vcK P (.seq (.reg [0] [.q 2 [] (.mv (.c (.bool false)))]) t_lFnExactNamesIn_24) k e w := rfl
def r_lFnExactNamesIn : List XO := [(.mv (.t 2))]
theorem c_lFnExactNamesIn : convF Try.prog [95, 96, 97, 107, 117, 118, 128, 129, 134, 144, 145, 153, 156, 174, 175, 182] Try.f13 [([0], []), ([0, 13], []), ([2], []), ([0, 3, 4], []), ([0, 3, 4, 5, 6], []), ([0, 3, 4, 5, 32], []), ([2], []), ([0, 3, 4, 5, 7], []), ([0, 3, 4, 5, 7], []), ([0, 3, 4, 5, 7, 8], []), ([0, 3, 4, 5, 7, 8], []), ([0, 3, 4, 5, 7, 8, 40], []), ([2], []), ([0, 3, 4, 5, 7, 43], []), ([2], []), ([3, 4, 5, 7, 9, 10], []), ([5, 7, 57], []), ([2], []), ([5, 7, 8], []), ([7, 8], []), ([7, 8, 62], []), ([2], []), ([65], []), ([2], []), ([2], [])] = some (x_lFnExactNamesIn, r_lFnExactNamesIn) := by kernel_rfl
def us_lFnExactNamesIn := And.intro @u_lFnExactNamesIn (And.intro @u_lFnExactNamesIn_1 (And.intro @u_lFnExactNamesIn_2 (And.intro @u_lFnExactNamesIn_3 (And.intro @u_lFnExactNamesIn_4 (And.intro @u_lFnExactNamesIn_5 (And.intro @u_lFnExactNamesIn_6 (And.intro @u_lFnExactNamesIn_7 (And.intro @u_lFnExactNamesIn_8 (And.intro @u_lFnExactNamesIn_9 (And.intro @u_lFnExactNamesIn_10 (And.intro @u_lFnExactNamesIn_11 (And.intro @u_lFnExactNamesIn_12 (And.intro @u_lFnExactNamesIn_13 (And.intro @u_lFnExactNamesIn_14 (And.intro @u_lFnExactNamesIn_15 (And.intro @u_lFnExactNamesIn_16 (And.intro @u_lFnExactNamesIn_17 (And.intro @u_lFnExactNamesIn_18 (And.intro @u_lFnExactNamesIn_19 (And.intro @u_lFnExactNamesIn_20 (And.intro @u_lFnExactNamesIn_21 (And.intro @u_lFnExactNamesIn_22 (And.intro @u_lFnExactNamesIn_23 @u_lFnExactNamesIn_24)))))))))))))))))))))))

theorem sl8Call_ok (l : List UInt8) (w : World) : Fn 158 [S l] w (fun r _ => r = .bool (decide (l = [112] ∨ l = [98] ∨ l = [115]))) := by
  (refine callsV_of mix Try.func158 c_sl8Call ?_; simp only [↓vsd, vsn, gW, qd, qv, ev, pick, argE, List.map_cons, List.map_nil, Option.map_some, Option.map_none, zipE, List.cons_append, List.nil_append, ne_eq, eq_self, forall_const, implies_true, if_true, if_false, reduceIte, List.cons.injEq, reduceCtorEq, Nat.reduceEqDiff, List.length_nil, List.length_cons, Nat.reduceAdd, Nat.reduceLT, List.set_cons_zero, List.set_cons_succ, ↓us_sl8Call, r_sl8Call])
  refine ⟨Ext.refl _, ?_⟩
  simp only [← Bool.decide_or, or_assoc]
theorem sl9Good_ok (l : List UInt8) (hl : l.length ≤ 1000000000) (w : World) : Fn 136 [S l] w (fun r _ => r = .bool (decide (IsTouch l))) := by
  (refine callsV_of mix Try.func136 c_sl9Good ?_; simp only [↓vsd, vsn, gW, qd, qv, ev, pick, argE, List.map_cons, List.map_nil, Option.map_some, Option.map_none, zipE, List.cons_append, List.nil_append, ne_eq, eq_self, forall_const, implies_true, if_true, if_false, reduceIte, List.cons.injEq, reduceCtorEq, Nat.reduceEqDiff, List.length_nil, List.length_cons, Nat.reduceAdd, Nat.reduceLT, List.set_cons_zero, List.set_cons_succ, ↓us_sl9Good, r_sl9Good])
  refine m_upto l.length (fun k vs w' => vs = [.int .i64 k] ∧ (∀ c ∈ l.take k, IsCallB c) ∧ Ext w w') ⟨rfl, by simp, Ext.refl _⟩ ?_
  rintro k vs w1 hk ⟨rfl, hc, hx⟩
  by_cases hlt : k < l.length
  · have hltI : (k : Int) < l.length := by omega
    have hltJ : ¬ (l.length : Int) ≤ k := by omega
    simp only [↓vsd, vsn, gW, qd, qv, ev, pick, argE, List.map_cons, List.map_nil, Option.map_some, Option.map_none, zipE, List.cons_append, List.nil_append, ne_eq, eq_self, forall_const, implies_true, if_true, if_false, reduceIte, List.cons.injEq, reduceCtorEq, Nat.reduceEqDiff, List.length_nil, List.length_cons, Nat.reduceAdd, Nat.reduceLT, List.set_cons_zero, List.set_cons_succ, ↓us_sl9Good, r_sl9Good, hltI, hltJ]
    have e1 : (l.take (k + 1)).drop k = [l.getD k 0] := by
      rw [List.take_add_one, List.drop_append, List.getD_eq_getElem?_getD, List.getElem?_eq_getElem (by omega)]
      simp [Nat.min_eq_left (show k ≤ l.length by omega)]
    rw [e1]
    refine ⟨inR_i64 (by omega), by omega, m_call (sl8Call_ok _ _) ?_⟩
    rintro _ w2 hx2 rfl
    simp only [↓vsd, vsn, gW, qd, qv, ev, pick, argE, List.map_cons, List.map_nil, Option.map_some, Option.map_none, zipE, List.cons_append, List.nil_append, ne_eq, eq_self, forall_const, implies_true, if_true, if_false, reduceIte, List.cons.injEq, reduceCtorEq, Nat.reduceEqDiff, List.length_nil, List.length_cons, Nat.reduceAdd, Nat.reduceLT, List.set_cons_zero, List.set_cons_succ, ↓us_sl9Good, r_sl9Good]
    refine ⟨fun hno => ⟨hx.trans hx2, ?_⟩, fun hy => ⟨inR_i64 (by omega), UpTo.next hlt ⟨rfl, fun c hc' => ?_, hx.trans hx2⟩⟩⟩
    · have : ¬ IsTouch l := fun h => by
        rcases h.2 _ (getD_mem' 0 hlt) with h | h | h
        · exact hno.1 (u8_eq h)
        · exact hno.2.1 (u8_eq h)
        · exact hno.2.2 (u8_eq h)
      simp only [this, decide_false]
    · rcases mem_take' (d := 0) hlt hc' with h | rfl
      · exact hc c h
      · by_cases h1 : l.getD k 0 = 112
        · exact .inl (by rw [h1]; rfl)
        · by_cases h2 : l.getD k 0 = 98
          · exact .inr (.inl (by rw [h2]; rfl))
          · by_cases h3 : l.getD k 0 = 115
            · exact .inr (.inr (by rw [h3]; rfl))
            · exact absurd ⟨h1, h2, h3⟩ hy
  · obtain rfl : k = l.length := by omega
    have hltI : ¬ (l.length : Int) < l.length := by omega
    simp only [↓vsd, vsn, gW, qd, qv, ev, pick, argE, List.map_cons, List.map_nil, Option.map_some, Option.map_none, zipE, List.cons_append, List.nil_append, ne_eq, eq_self, forall_const, implies_true, if_true, if_false, reduceIte, List.cons.injEq, reduceCtorEq, Nat.reduceEqDiff, List.length_nil, List.length_cons, Nat.reduceAdd, Nat.reduceLT, List.set_cons_zero, List.set_cons_succ, ↓us_sl9Good, r_sl9Good, hltI]
    rw [List.take_length] at hc
    refine m_call (sl1In_ok _ _ _ _) ?_
    rintro _ w2 hx2 rfl
    simp only [↓vsd, vsn, gW, qd, qv, ev, pick, argE, List.map_cons, List.map_nil, Option.map_some, Option.map_none, zipE, List.cons_append, List.nil_append, ne_eq, eq_self, forall_const, implies_true, if_true, if_false, reduceIte, List.cons.injEq, reduceCtorEq, Nat.reduceEqDiff, List.length_nil, List.length_cons, Nat.reduceAdd, Nat.reduceLT, List.set_cons_zero, List.set_cons_succ, ↓us_sl9Good, r_sl9Good]
    refine ⟨hx.trans hx2, ?_⟩
    simp only [← Bool.decide_and]
    congr 1
    exact propext ⟨fun h2 => ⟨by omega, hc⟩, fun h2 => by have := h2.1; omega⟩
/-- What the reference's reader hands back. -/
def ReadS (s : List UInt8) (w : World) (r : Value) (w' : World) : Prop := ∃ (b : Nat) (out : List UInt8) (bad : Bool) (a most : Nat) (nm mn : Value), r = .tuple ⟨[.pointer (some ⟨b, 0, none⟩), S out]⟩ ∧ Blk w' b (fR s a bad nm mn 0 most) 109 ∧ out.length ≤ 1000000 ∧
  match progL s with
  | none => bad = true
  | some (out', kn, most') => bad = false ∧ out.take 61 = out' ∧ most = most' ∧ kn.length ≤ 1000 ∧ Own fS 1 9 w.heap.size w' nm (namesL kn)
theorem sl10Read_ok (s : List UInt8) (hs : s.length ≤ 1048576) (w : World) : Fn 126 [S s] w (ReadS s w) := by
  (refine callsV_of mix Try.func126 c_sl10Read ?_; simp only [↓vsd, vsn, gW, qd, qv, ev, pick, argE, List.map_cons, List.map_nil, Option.map_some, Option.map_none, zipE, List.cons_append, List.nil_append, ne_eq, eq_self, forall_const, implies_true, if_true, if_false, reduceIte, List.cons.injEq, reduceCtorEq, Nat.reduceEqDiff, List.length_nil, List.length_cons, Nat.reduceAdd, Nat.reduceLT, List.set_cons_zero, List.set_cons_succ, ↓us_sl10Read, r_sl10Read])
  refine m_al ?_
  rintro b w1 hb hblk1 hx1 hs1
  have hb1 : Blk w1 b (fR s 0 false (.slice none 0 0) (.slice none 0 0) 0 0) 109 := hblk1
  simp only [↓vsd, vsn, gW, qd, qv, ev, pick, argE, List.map_cons, List.map_nil, Option.map_some, Option.map_none, zipE, List.cons_append, List.nil_append, ne_eq, eq_self, forall_const, implies_true, if_true, if_false, reduceIte, List.cons.injEq, reduceCtorEq, Nat.reduceEqDiff, List.length_nil, List.length_cons, Nat.reduceAdd, Nat.reduceLT, List.set_cons_zero, List.set_cons_succ, ↓us_sl10Read, r_sl10Read]
  have hbw : w.heap.size ≤ b := by omega
  have hbadR (a most : Nat) (nm mn : Value) (w' : World) (out : List UInt8) (ho : out.length ≤ 1000000) (hb' : Blk w' b (fR s a true nm mn 0 most) 109) (hp : progL s = none) : ReadS s w (.tuple ⟨[.pointer (some ⟨b, 0, none⟩), S out]⟩) w' :=
    ⟨b, out, true, a, most, nm, mn, rfl, hb', ho, by rw [hp]⟩
  refine ⟨fun hbig => m_st hb1 rfl (by decide : 2 + 1 ≤ 7) (fB_one _) ?_, fun hsm => ?_⟩
  · rintro w2 hb2' hu2
    have hb2 : Blk w2 b (fR s 0 true (.slice none 0 0) (.slice none 0 0) 0 0) 109 := hb2'
    have hx2 : Ext w w2 := hu2.below hx1 hbw
    have hpn : progL s = none := by rw [progL, if_neg (by omega)]
    simp only [↓vsd, vsn, gW, qd, qv, ev, pick, argE, List.map_cons, List.map_nil, Option.map_some, Option.map_none, zipE, List.cons_append, List.nil_append, ne_eq, eq_self, forall_const, implies_true, if_true, if_false, reduceIte, List.cons.injEq, reduceCtorEq, Nat.reduceEqDiff, List.length_nil, List.length_cons, Nat.reduceAdd, Nat.reduceLT, List.set_cons_zero, List.set_cons_succ, ↓us_sl10Read, r_sl10Read]
    refine m_upto 0 (fun k vs w' => vs = [] ∧ Blk w' b (fR s 0 true (.slice none 0 0) (.slice none 0 0) 0 0) 109 ∧ Ext w w') ⟨rfl, hb2, hx2⟩ ?_
    rintro k vs w3 hk ⟨rfl, hb3, hx3⟩
    simp only [↓vsd, vsn, gW, qd, qv, ev, pick, argE, List.map_cons, List.map_nil, Option.map_some, Option.map_none, zipE, List.cons_append, List.nil_append, ne_eq, eq_self, forall_const, implies_true, if_true, if_false, reduceIte, List.cons.injEq, reduceCtorEq, Nat.reduceEqDiff, List.length_nil, List.length_cons, Nat.reduceAdd, Nat.reduceLT, List.set_cons_zero, List.set_cons_succ, ↓us_sl10Read, r_sl10Read, hb3.facts, fRg]
    exact ⟨hx3, hbadR 0 0 _ _ w3 [] (by decide) hb3 hpn⟩
  have hs200 : s.length ≤ 200 := by omega
  refine m_loop (fun m vs w' => ∃ (a most : Nat) (nm mn : Value) (bad : Bool), vs = [] ∧ Blk w' b (fR s a bad nm mn 0 most) 109 ∧ Ext w w' ∧ (bad = true → progL s = none) ∧
    (bad = false → ∃ (kn : List (UInt8 × List UInt8)) (mns : List (List UInt8)), a ≤ s.length ∧ s.length - a < m ∧ most ≤ 600 ∧ kn.length ≤ a ∧ Kn kn mns a ∧ Own fS 1 9 (b + 1) w' nm (namesL kn) ∧ Own fS 1 9 (b + 1) w' mn mns ∧ Apart nm mn ∧ defs s m a kn most = defs s 1000 0 [] 0)) 1000
    ⟨0, 0, _, _, false, rfl, hb1, hx1, fun h => (by cases h), fun _ => ⟨[], [], by omega, by omega, by omega, by simp, ⟨rfl, fun i hi => absurd hi (Nat.not_lt_zero i), by simp⟩, Own.nil fS_len, Own.nil fS_len, fun c hc => (by cases hc), rfl⟩⟩ ?_
  rintro m vs w3 ⟨a, most, nm, mn, bad, rfl, hb3, hx3, hbd, hgd⟩
  cases bad with
  | true =>
    simp only [↓vsd, vsn, gW, qd, qv, ev, pick, argE, List.map_cons, List.map_nil, Option.map_some, Option.map_none, zipE, List.cons_append, List.nil_append, ne_eq, eq_self, forall_const, implies_true, if_true, if_false, reduceIte, List.cons.injEq, reduceCtorEq, Nat.reduceEqDiff, List.length_nil, List.length_cons, Nat.reduceAdd, Nat.reduceLT, List.set_cons_zero, List.set_cons_succ, ↓us_sl10Read, r_sl10Read, hb3.facts, fRg]
    exact ⟨hx3, hbadR a most _ _ w3 [] (by decide) hb3 (hbd rfl)⟩
  | false =>
    obtain ⟨kn, mns, has, ham, hmo, hkl, hkn, ho3, hn3, hap, hR⟩ := hgd rfl
    obtain ⟨g, rfl⟩ : ∃ g, m = g + 1 := ⟨m - 1, by omega⟩
    rw [defs] at hR
    have hq (w' : World) (hg : w3.grownBy w' (some b)) : Sq fS 1 w' nm (namesL kn) ∧ Sq fS 1 w' mn mns := ⟨(ho3.keep hg (fun c hc => by have := Option.some.inj hc; omega)).sq, (hn3.keep hg (fun c hc => by have := Option.some.inj hc; omega)).sq⟩
    by_cases hd1 : a + 1 < s.length ∧ (s.getD (a + 1) 0).toNat = 61
    · rw [if_pos hd1] at hR
      have hI : (a : Int) + 1 < s.length := by omega
      have hJ : ((s.getD (a + 1) 0).toNat : Int) = 61 := by omega
      simp only [↓vsd, vsn, gW, qd, qv, ev, pick, argE, List.map_cons, List.map_nil, Option.map_some, Option.map_none, zipE, List.cons_append, List.nil_append, ne_eq, eq_self, forall_const, implies_true, if_true, if_false, reduceIte, List.cons.injEq, reduceCtorEq, Nat.reduceEqDiff, List.length_nil, List.length_cons, Nat.reduceAdd, Nat.reduceLT, List.set_cons_zero, List.set_cons_succ, ↓us_sl10Read, r_sl10Read, hb3.facts, fRg, hI, hJ]
      have e1 : (s.take (a + 1)).drop a = [s.getD a 0] := by
        rw [List.take_add_one, List.drop_append, List.getD_eq_getElem?_getD, List.getElem?_eq_getElem (by omega)]
        simp [Nat.min_eq_left (show a ≤ s.length by omega)]
      have hb3d : Blk w3.drew b (fR s a false nm mn 0 most) 109 := hb3
      refine ⟨inR_i64 (by omega), inR_i64 (by omega), by omega, inR_i64 (by omega), by omega, inR_i64 (by omega), m_st hb3d rfl (by decide : 1 + 1 ≤ 7) (fI_one _) ?_⟩
      rintro w4 hb4' hu4
      have hb4 : Blk w4 b (fR s (a + 2 : Nat) false nm mn 0 most) 109 := hb4'
      have hx4 : Ext w w4 := hu4.below (dr hx3) hbw
      have hg34 : w3.grownBy w4 (some b) := gudw hu4.grown
      by_cases hAZ : 65 ≤ (s.getD a 0).toNat ∧ (s.getD a 0).toNat ≤ 90
      · have h65 : 65 ≤ ((s.getD a 0).toNat : Int) := by omega
        have h90 : ((s.getD a 0).toNat : Int) ≤ 90 := by omega
        have hg0 : [s.getD a 0].getD 0 0 = s.getD a 0 := rfl
        have hn65 : ¬ ((s.getD a 0).toNat : Int) < 65 := by omega
        have hn90 : ¬ 90 < ((s.getD a 0).toNat : Int) := by omega
        simp only [↓vsd, vsn, gW, qd, qv, ev, pick, argE, List.map_cons, List.map_nil, Option.map_some, Option.map_none, zipE, List.cons_append, List.nil_append, ne_eq, eq_self, forall_const, implies_true, if_true, if_false, reduceIte, List.cons.injEq, reduceCtorEq, Nat.reduceEqDiff, List.length_nil, List.length_cons, Nat.reduceAdd, Nat.reduceLT, List.set_cons_zero, List.set_cons_succ, ↓us_sl10Read, r_sl10Read, hb4.facts, fRg, e1, hg0, h65, h90, hn65, hn90]
        have hq4 := hq w4 hg34
        have hnl : (namesL kn).length = kn.length := by simp [namesL]
        refine ⟨by decide, by decide, m_call (sl10At_ok nm (namesL kn) [s.getD a 0] (by omega) _ hq4.1) ?_⟩
        rintro _ w5 hx5 ⟨i, rfl, hi⟩
        have hb5 := hb4.ext hx5
        have hg5 := grown_trans hg34 (grown_ext (some b) hx5)
        have hx45 := hx4.trans hx5
        rcases hi with ⟨rfl, hno⟩ | ⟨k, rfl, hk, hke, hkn0⟩
        · have hlk := (kn_lookup (kn := kn)).2 hno
          have hneg : ¬ (0 : Int) ≤ -1 := by decide
          simp only [↓vsd, vsn, gW, qd, qv, ev, pick, argE, List.map_cons, List.map_nil, Option.map_some, Option.map_none, zipE, List.cons_append, List.nil_append, ne_eq, eq_self, forall_const, implies_true, if_true, if_false, reduceIte, List.cons.injEq, reduceCtorEq, Nat.reduceEqDiff, List.length_nil, List.length_cons, Nat.reduceAdd, Nat.reduceLT, List.set_cons_zero, List.set_cons_succ, ↓us_sl10Read, r_sl10Read, hb5.facts, fRg, hneg]
          have hkn2 : Kn kn mns (a + 2) := ⟨hkn.1, hkn.2.1, fun x hx => by have := hkn.2.2 x hx; omega⟩
          refine m_callw (.inl rfl) (sl10R_block_ok 1000 s kn nm mn mns 0 most (a + 2) b w5 (by omega) (by omega) hs200 (by omega) hmo (by omega) hkn2 (fun w' hg => hq w' (grown_trans hg5 hg)) hb5) ?_
          rintro _ w6 ⟨a6, most6, bad6, o6, rfl, hb6, hg6, ha6, hal6, hmm6, hol6, hR6⟩
          have hx6 : Ext w w6 := Below.trans hx45 ⟨hg6.os, hg6.tape, hg6.output, hg6.size, fun i hi => hg6.block i (by have := hx45.size; omega) (fun e => by have := Option.some.inj e; omega)⟩
          have hg36 := grown_trans hg5 hg6
          have hl3 : 65 ≤ (s.getD a 0).toNat ∧ (s.getD a 0).toNat ≤ 90 ∧ List.lookup (s.getD a 0) kn = none := ⟨hAZ.1, hAZ.2, hlk⟩
          rw [if_pos hl3] at hR
          simp only [↓vsd, vsn, gW, qd, qv, ev, pick, argE, List.map_cons, List.map_nil, Option.map_some, Option.map_none, zipE, List.cons_append, List.nil_append, ne_eq, eq_self, forall_const, implies_true, if_true, if_false, reduceIte, List.cons.injEq, reduceCtorEq, Nat.reduceEqDiff, List.length_nil, List.length_cons, Nat.reduceAdd, Nat.reduceLT, List.set_cons_zero, List.set_cons_succ, ↓us_sl10Read, r_sl10Read]
          refine m_call (sl10R_peek_ok s a6 _ _ _ _ _ b _ hb6) ?_
          rintro _ w7 hx7 rfl
          have hb7 := hb6.ext hx7
          have hx17 := hx6.trans hx7
          have hg37 := grown_trans hg36 (grown_ext (some b) hx7)
          have tail : True := trivial
          by_cases h59 : (pk s a6).toNat = 59
          · have h59I : ((pk s a6).toNat : Int) = 59 := by omega
            simp only [↓vsd, vsn, gW, qd, qv, ev, pick, argE, List.map_cons, List.map_nil, Option.map_some, Option.map_none, zipE, List.cons_append, List.nil_append, ne_eq, eq_self, forall_const, implies_true, if_true, if_false, reduceIte, List.cons.injEq, reduceCtorEq, Nat.reduceEqDiff, List.length_nil, List.length_cons, Nat.reduceAdd, Nat.reduceLT, List.set_cons_zero, List.set_cons_succ, ↓us_sl10Read, r_sl10Read, h59I, hb7.facts, fRg]
            refine ⟨inR_i64 (by omega), m_st hb7 rfl (by decide : 1 + 1 ≤ 7) (fI_one _) ?_⟩
            rintro w8 hb8' hu8
            have hb8 : Blk w8 b (fR s (a6 + 1 : Nat) bad6 nm mn 0 most6) 109 := hb8'
            have hx8 : Ext w w8 := hu8.below hx17 hbw
            have hg38 := grown_trans hg37 hu8.grown
            have ho8 := ho3.keep hg38 (fun c hc => by have := Option.some.inj hc; omega)
            have hn8 := hn3.keep hg38 (fun c hc => by have := Option.some.inj hc; omega)
            simp only [↓vsd, vsn, gW, qd, qv, ev, pick, argE, List.map_cons, List.map_nil, Option.map_some, Option.map_none, zipE, List.cons_append, List.nil_append, ne_eq, eq_self, forall_const, implies_true, if_true, if_false, reduceIte, List.cons.injEq, reduceCtorEq, Nat.reduceEqDiff, List.length_nil, List.length_cons, Nat.reduceAdd, Nat.reduceLT, List.set_cons_zero, List.set_cons_succ, ↓us_sl10Read, r_sl10Read, hb8.facts, fRg]
            refine m_bsl (one_el rfl) ?_
            rintro b9 w9 hb9 hblk9 hx9 hs9
            have hx9 : Ext w8 w9 := by first | exact hx9 | exact ud hx9
            simp only [↓vsd, vsn, gW, qd, qv, ev, pick, argE, List.map_cons, List.map_nil, Option.map_some, Option.map_none, zipE, List.cons_append, List.nil_append, ne_eq, eq_self, forall_const, implies_true, if_true, if_false, reduceIte, List.cons.injEq, reduceCtorEq, Nat.reduceEqDiff, List.length_nil, List.length_cons, Nat.reduceAdd, Nat.reduceLT, List.set_cons_zero, List.set_cons_succ, ↓us_sl10Read, r_sl10Read]
            have hsz9 : b + 1 ≤ w9.heap.size := by have := hb8.lt; have := hx9.size; omega
            have hnl2 : (namesL kn).length ≤ 300 := by omega
            refine m_app2 (ho8.ext hx9) (Sq.one fS_len hblk9 rfl) fS_one (by decide) (by simp only [List.length_singleton]; omega) (by decide) hsz9 ?_
            rintro nm10 w10 ho10 hg10 hn10
            have hbd10 := (ho8.ext hx9).bound
            have hx10 : Ext w w10 := Below.trans (hx8.trans hx9) ⟨hg10.os, hg10.tape, hg10.output, hg10.size, fun i hi => hg10.block i (by have := (hx8.trans hx9).size; omega) (fun e => by have := (hbd10 i e.symm).1; omega)⟩
            have hb10 := (hb8.ext hx9).same (hg10.block b (hb8.ext hx9).lt (fun e => by have := (hbd10 b e.symm).1; omega))
            have hm10 := (hn8.ext hx9).keep2 hg10 hap
            have hap10 := hap.next (hn8.ext hx9) hn10
            have hc10 : nm10.cells = #[nm10] := of_eq_true ho10.sq.oneC
            have h1c10 : nm10.oneCell' = true := by rcases ho10.sq.2.2 with ⟨rfl, _⟩ | ⟨x, c, rfl, _⟩ <;> rfl
            simp only [↓vsd, vsn, gW, qd, qv, ev, pick, argE, List.map_cons, List.map_nil, Option.map_some, Option.map_none, zipE, List.cons_append, List.nil_append, ne_eq, eq_self, forall_const, implies_true, if_true, if_false, reduceIte, List.cons.injEq, reduceCtorEq, Nat.reduceEqDiff, List.length_nil, List.length_cons, Nat.reduceAdd, Nat.reduceLT, List.set_cons_zero, List.set_cons_succ, ↓us_sl10Read, r_sl10Read]
            refine m_st hb10 (by rw [hc10]; rfl) (by decide : 3 + 1 ≤ 7) (by rw [hc10]; intro u hu; simp only [List.mem_singleton] at hu; subst hu; exact h1c10) ?_
            rintro w11 hb11' hu11
            rw [hc10] at hb11'
            have hb11 : Blk w11 b (fR s (a6 + 1 : Nat) bad6 nm10 mn 0 most6) 109 := hb11'
            have hx11 : Ext w w11 := hu11.below hx10 hbw
            have ho11 := ho10.keep hu11.grown (fun c hc => by have := Option.some.inj hc; omega)
            have hn11 := hm10.keep hu11.grown (fun c hc => by have := Option.some.inj hc; omega)
            simp only [↓vsd, vsn, gW, qd, qv, ev, pick, argE, List.map_cons, List.map_nil, Option.map_some, Option.map_none, zipE, List.cons_append, List.nil_append, ne_eq, eq_self, forall_const, implies_true, if_true, if_false, reduceIte, List.cons.injEq, reduceCtorEq, Nat.reduceEqDiff, List.length_nil, List.length_cons, Nat.reduceAdd, Nat.reduceLT, List.set_cons_zero, List.set_cons_succ, ↓us_sl10Read, r_sl10Read, hb11.facts, fRg]
            refine m_bsl (one_el rfl) ?_
            rintro b12 w12 hb12 hblk12 hx12 hs12
            have hx12 : Ext w11 w12 := by first | exact hx12 | exact ud hx12
            simp only [↓vsd, vsn, gW, qd, qv, ev, pick, argE, List.map_cons, List.map_nil, Option.map_some, Option.map_none, zipE, List.cons_append, List.nil_append, ne_eq, eq_self, forall_const, implies_true, if_true, if_false, reduceIte, List.cons.injEq, reduceCtorEq, Nat.reduceEqDiff, List.length_nil, List.length_cons, Nat.reduceAdd, Nat.reduceLT, List.set_cons_zero, List.set_cons_succ, ↓us_sl10Read, r_sl10Read]
            have hsz12 : b + 1 ≤ w12.heap.size := by have := hb11.lt; have := hx12.size; omega
            have hml2 : mns.length ≤ 300 := by rw [hkn.1]; omega
            refine m_app2 (hn11.ext hx12) (Sq.one fS_len hblk12 rfl) fS_one (by decide) (by simp only [List.length_singleton]; omega) (by decide) hsz12 ?_
            rintro mn13 w13 hn13 hg13 hnn13
            have hbd13 := (hn11.ext hx12).bound
            have hx13 : Ext w w13 := Below.trans (hx11.trans hx12) ⟨hg13.os, hg13.tape, hg13.output, hg13.size, fun i hi => hg13.block i (by have := (hx11.trans hx12).size; omega) (fun e => by have := (hbd13 i e.symm).1; omega)⟩
            have hb13 := (hb11.ext hx12).same (hg13.block b (hb11.ext hx12).lt (fun e => by have := (hbd13 b e.symm).1; omega))
            have ho13 := (ho11.ext hx12).keep2 hg13 hap10.symm
            have hap13 : Apart nm10 mn13 := (hap10.symm.next (ho11.ext hx12) hnn13).symm
            have hc13 : mn13.cells = #[mn13] := of_eq_true hn13.sq.oneC
            have h1c13 : mn13.oneCell' = true := by rcases hn13.sq.2.2 with ⟨rfl, _⟩ | ⟨x, c, rfl, _⟩ <;> rfl
            simp only [↓vsd, vsn, gW, qd, qv, ev, pick, argE, List.map_cons, List.map_nil, Option.map_some, Option.map_none, zipE, List.cons_append, List.nil_append, ne_eq, eq_self, forall_const, implies_true, if_true, if_false, reduceIte, List.cons.injEq, reduceCtorEq, Nat.reduceEqDiff, List.length_nil, List.length_cons, Nat.reduceAdd, Nat.reduceLT, List.set_cons_zero, List.set_cons_succ, ↓us_sl10Read, r_sl10Read]
            refine m_st hb13 (by rw [hc13]; rfl) (by decide : 4 + 1 ≤ 7) (by rw [hc13]; intro u hu; simp only [List.mem_singleton] at hu; subst hu; exact h1c13) ?_
            rintro w14 hb14' hu14
            rw [hc13] at hb14'
            have hb14 : Blk w14 b (fR s (a6 + 1 : Nat) bad6 nm10 mn13 0 most6) 109 := hb14'
            have hx14 : Ext w w14 := hu14.below hx13 hbw
            have ho14 := ho13.keep hu14.grown (fun c hc => by have := Option.some.inj hc; omega)
            have hn14 := hn13.keep hu14.grown (fun c hc => by have := Option.some.inj hc; omega)
            simp only [↓vsd, vsn, gW, qd, qv, ev, pick, argE, List.map_cons, List.map_nil, Option.map_some, Option.map_none, zipE, List.cons_append, List.nil_append, ne_eq, eq_self, forall_const, implies_true, if_true, if_false, reduceIte, List.cons.injEq, reduceCtorEq, Nat.reduceEqDiff, List.length_nil, List.length_cons, Nat.reduceAdd, Nat.reduceLT, List.set_cons_zero, List.set_cons_succ, ↓us_sl10Read, r_sl10Read]
            have hp59 : a6 < s.length ∧ (s.getD a6 0).toNat = 59 := by
              unfold pk at h59
              split at h59
              · rename_i h; exact ⟨h, h59⟩
              · exact absurd h59 (by decide)
            refine ⟨g, by omega, a6 + 1, most6, nm10, mn13, bad6, hb14, hx14, fun hb => ?_, fun hb => ?_⟩
            · rw [progL, if_pos hs200, ← hR]
              cases hbl : blk s kn 1000 (a + 2) [] false 0 most with
              | none => rfl
              | some p =>
                obtain ⟨part, a7, most7⟩ := p
                rw [hbl] at hR6
                rw [hR6.1] at hb
                cases hb
            · cases hbl : blk s kn 1000 (a + 2) [] false 0 most with
              | none =>
                rw [hbl] at hR6
                rw [hb] at hR6
                cases hR6
              | some p =>
                obtain ⟨part, a7, most7⟩ := p
                rw [hbl] at hR6 hR
                obtain ⟨_, rfl, rfl, hpt⟩ := hR6
                simp only at hR
                rw [if_pos hp59] at hR
                refine ⟨kn ++ [(s.getD a 0, part)], mns ++ [o6], by omega, by omega, hmm6, by simp only [List.length_append, List.length_singleton]; omega, ⟨by simp only [List.length_append, List.length_singleton, hkn.1], fun i hi => ?_, fun x hx => ?_⟩, ho14.to (by rw [namesL, namesL, List.map_append]; rfl), hn14, hap13, hR⟩
                · simp only [List.length_append, List.length_singleton] at hi
                  by_cases hik : i < kn.length
                  · have h1 : (mns ++ [o6]).getD i [] = mns.getD i [] := by rw [List.getD_eq_getElem?_getD, List.getD_eq_getElem?_getD, List.getElem?_append_left (by rw [hkn.1]; exact hik)]
                    have h2 : (kn ++ [(s.getD a 0, part)]).getD i (0, []) = kn.getD i (0, []) := by simp only [List.getD_eq_getElem?_getD, List.getElem?_append_left hik]
                    rw [h1, h2]
                    exact hkn.2.1 i hik
                  · have hie : i = kn.length := by omega
                    have h1 : (mns ++ [o6]).getD i [] = o6 := by rw [List.getD_eq_getElem?_getD, List.getElem?_append_right (by rw [hkn.1]; omega), hkn.1, hie, Nat.sub_self]; rfl
                    have h2 : (kn ++ [(s.getD a 0, part)]).getD i (0, []) = (s.getD a 0, part) := by rw [List.getD_eq_getElem?_getD, List.getElem?_append_right (by omega), hie, Nat.sub_self]; rfl
                    rw [h1, h2]
                    exact hpt
                · rcases List.mem_append.1 hx with hx | hx
                  · have := hkn.2.2 x hx; omega
                  · rw [List.mem_singleton.1 hx]; omega
          · have h59I : ¬ ((pk s a6).toNat : Int) = 59 := by omega
            simp only [↓vsd, vsn, gW, qd, qv, ev, pick, argE, List.map_cons, List.map_nil, Option.map_some, Option.map_none, zipE, List.cons_append, List.nil_append, ne_eq, eq_self, forall_const, implies_true, if_true, if_false, reduceIte, List.cons.injEq, reduceCtorEq, Nat.reduceEqDiff, List.length_nil, List.length_cons, Nat.reduceAdd, Nat.reduceLT, List.set_cons_zero, List.set_cons_succ, ↓us_sl10Read, r_sl10Read, h59I]
            refine m_st hb7 rfl (by decide : 2 + 1 ≤ 7) (fB_one _) ?_
            rintro w7' hb7s' hu7'
            have hb7s : Blk w7' b (fR s a6 true nm mn 0 most6) 109 := hb7s'
            have hx17s : Ext w w7' := hu7'.below hx17 hbw
            have hg37s := grown_trans hg37 hu7'.grown
            simp only [↓vsd, vsn, gW, qd, qv, ev, pick, argE, List.map_cons, List.map_nil, Option.map_some, Option.map_none, zipE, List.cons_append, List.nil_append, ne_eq, eq_self, forall_const, implies_true, if_true, if_false, reduceIte, List.cons.injEq, reduceCtorEq, Nat.reduceEqDiff, List.length_nil, List.length_cons, Nat.reduceAdd, Nat.reduceLT, List.set_cons_zero, List.set_cons_succ, ↓us_sl10Read, r_sl10Read, hb7s.facts, fRg]
            refine ⟨inR_i64 (by omega), m_st hb7s rfl (by decide : 1 + 1 ≤ 7) (fI_one _) ?_⟩
            rintro w8 hb8' hu8
            have hb8 : Blk w8 b (fR s (a6 + 1 : Nat) true nm mn 0 most6) 109 := hb8'
            have hx8 : Ext w w8 := hu8.below hx17s hbw
            have hg38 := grown_trans hg37s hu8.grown
            have ho8 := ho3.keep hg38 (fun c hc => by have := Option.some.inj hc; omega)
            have hn8 := hn3.keep hg38 (fun c hc => by have := Option.some.inj hc; omega)
            simp only [↓vsd, vsn, gW, qd, qv, ev, pick, argE, List.map_cons, List.map_nil, Option.map_some, Option.map_none, zipE, List.cons_append, List.nil_append, ne_eq, eq_self, forall_const, implies_true, if_true, if_false, reduceIte, List.cons.injEq, reduceCtorEq, Nat.reduceEqDiff, List.length_nil, List.length_cons, Nat.reduceAdd, Nat.reduceLT, List.set_cons_zero, List.set_cons_succ, ↓us_sl10Read, r_sl10Read, hb8.facts, fRg]
            refine m_bsl (one_el rfl) ?_
            rintro b9 w9 hb9 hblk9 hx9 hs9
            have hx9 : Ext w8 w9 := by first | exact hx9 | exact ud hx9
            simp only [↓vsd, vsn, gW, qd, qv, ev, pick, argE, List.map_cons, List.map_nil, Option.map_some, Option.map_none, zipE, List.cons_append, List.nil_append, ne_eq, eq_self, forall_const, implies_true, if_true, if_false, reduceIte, List.cons.injEq, reduceCtorEq, Nat.reduceEqDiff, List.length_nil, List.length_cons, Nat.reduceAdd, Nat.reduceLT, List.set_cons_zero, List.set_cons_succ, ↓us_sl10Read, r_sl10Read]
            have hsz9 : b + 1 ≤ w9.heap.size := by have := hb8.lt; have := hx9.size; omega
            have hnl2 : (namesL kn).length ≤ 300 := by omega
            refine m_app2 (ho8.ext hx9) (Sq.one fS_len hblk9 rfl) fS_one (by decide) (by simp only [List.length_singleton]; omega) (by decide) hsz9 ?_
            rintro nm10 w10 ho10 hg10 hn10
            have hbd10 := (ho8.ext hx9).bound
            have hx10 : Ext w w10 := Below.trans (hx8.trans hx9) ⟨hg10.os, hg10.tape, hg10.output, hg10.size, fun i hi => hg10.block i (by have := (hx8.trans hx9).size; omega) (fun e => by have := (hbd10 i e.symm).1; omega)⟩
            have hb10 := (hb8.ext hx9).same (hg10.block b (hb8.ext hx9).lt (fun e => by have := (hbd10 b e.symm).1; omega))
            have hm10 := (hn8.ext hx9).keep2 hg10 hap
            have hap10 := hap.next (hn8.ext hx9) hn10
            have hc10 : nm10.cells = #[nm10] := of_eq_true ho10.sq.oneC
            have h1c10 : nm10.oneCell' = true := by rcases ho10.sq.2.2 with ⟨rfl, _⟩ | ⟨x, c, rfl, _⟩ <;> rfl
            simp only [↓vsd, vsn, gW, qd, qv, ev, pick, argE, List.map_cons, List.map_nil, Option.map_some, Option.map_none, zipE, List.cons_append, List.nil_append, ne_eq, eq_self, forall_const, implies_true, if_true, if_false, reduceIte, List.cons.injEq, reduceCtorEq, Nat.reduceEqDiff, List.length_nil, List.length_cons, Nat.reduceAdd, Nat.reduceLT, List.set_cons_zero, List.set_cons_succ, ↓us_sl10Read, r_sl10Read]
            refine m_st hb10 (by rw [hc10]; rfl) (by decide : 3 + 1 ≤ 7) (by rw [hc10]; intro u hu; simp only [List.mem_singleton] at hu; subst hu; exact h1c10) ?_
            rintro w11 hb11' hu11
            rw [hc10] at hb11'
            have hb11 : Blk w11 b (fR s (a6 + 1 : Nat) true nm10 mn 0 most6) 109 := hb11'
            have hx11 : Ext w w11 := hu11.below hx10 hbw
            have ho11 := ho10.keep hu11.grown (fun c hc => by have := Option.some.inj hc; omega)
            have hn11 := hm10.keep hu11.grown (fun c hc => by have := Option.some.inj hc; omega)
            simp only [↓vsd, vsn, gW, qd, qv, ev, pick, argE, List.map_cons, List.map_nil, Option.map_some, Option.map_none, zipE, List.cons_append, List.nil_append, ne_eq, eq_self, forall_const, implies_true, if_true, if_false, reduceIte, List.cons.injEq, reduceCtorEq, Nat.reduceEqDiff, List.length_nil, List.length_cons, Nat.reduceAdd, Nat.reduceLT, List.set_cons_zero, List.set_cons_succ, ↓us_sl10Read, r_sl10Read, hb11.facts, fRg]
            refine m_bsl (one_el rfl) ?_
            rintro b12 w12 hb12 hblk12 hx12 hs12
            have hx12 : Ext w11 w12 := by first | exact hx12 | exact ud hx12
            simp only [↓vsd, vsn, gW, qd, qv, ev, pick, argE, List.map_cons, List.map_nil, Option.map_some, Option.map_none, zipE, List.cons_append, List.nil_append, ne_eq, eq_self, forall_const, implies_true, if_true, if_false, reduceIte, List.cons.injEq, reduceCtorEq, Nat.reduceEqDiff, List.length_nil, List.length_cons, Nat.reduceAdd, Nat.reduceLT, List.set_cons_zero, List.set_cons_succ, ↓us_sl10Read, r_sl10Read]
            have hsz12 : b + 1 ≤ w12.heap.size := by have := hb11.lt; have := hx12.size; omega
            have hml2 : mns.length ≤ 300 := by rw [hkn.1]; omega
            refine m_app2 (hn11.ext hx12) (Sq.one fS_len hblk12 rfl) fS_one (by decide) (by simp only [List.length_singleton]; omega) (by decide) hsz12 ?_
            rintro mn13 w13 hn13 hg13 hnn13
            have hbd13 := (hn11.ext hx12).bound
            have hx13 : Ext w w13 := Below.trans (hx11.trans hx12) ⟨hg13.os, hg13.tape, hg13.output, hg13.size, fun i hi => hg13.block i (by have := (hx11.trans hx12).size; omega) (fun e => by have := (hbd13 i e.symm).1; omega)⟩
            have hb13 := (hb11.ext hx12).same (hg13.block b (hb11.ext hx12).lt (fun e => by have := (hbd13 b e.symm).1; omega))
            have ho13 := (ho11.ext hx12).keep2 hg13 hap10.symm
            have hap13 : Apart nm10 mn13 := (hap10.symm.next (ho11.ext hx12) hnn13).symm
            have hc13 : mn13.cells = #[mn13] := of_eq_true hn13.sq.oneC
            have h1c13 : mn13.oneCell' = true := by rcases hn13.sq.2.2 with ⟨rfl, _⟩ | ⟨x, c, rfl, _⟩ <;> rfl
            simp only [↓vsd, vsn, gW, qd, qv, ev, pick, argE, List.map_cons, List.map_nil, Option.map_some, Option.map_none, zipE, List.cons_append, List.nil_append, ne_eq, eq_self, forall_const, implies_true, if_true, if_false, reduceIte, List.cons.injEq, reduceCtorEq, Nat.reduceEqDiff, List.length_nil, List.length_cons, Nat.reduceAdd, Nat.reduceLT, List.set_cons_zero, List.set_cons_succ, ↓us_sl10Read, r_sl10Read]
            refine m_st hb13 (by rw [hc13]; rfl) (by decide : 4 + 1 ≤ 7) (by rw [hc13]; intro u hu; simp only [List.mem_singleton] at hu; subst hu; exact h1c13) ?_
            rintro w14 hb14' hu14
            rw [hc13] at hb14'
            have hb14 : Blk w14 b (fR s (a6 + 1 : Nat) true nm10 mn13 0 most6) 109 := hb14'
            have hx14 : Ext w w14 := hu14.below hx13 hbw
            have ho14 := ho13.keep hu14.grown (fun c hc => by have := Option.some.inj hc; omega)
            have hn14 := hn13.keep hu14.grown (fun c hc => by have := Option.some.inj hc; omega)
            simp only [↓vsd, vsn, gW, qd, qv, ev, pick, argE, List.map_cons, List.map_nil, Option.map_some, Option.map_none, zipE, List.cons_append, List.nil_append, ne_eq, eq_self, forall_const, implies_true, if_true, if_false, reduceIte, List.cons.injEq, reduceCtorEq, Nat.reduceEqDiff, List.length_nil, List.length_cons, Nat.reduceAdd, Nat.reduceLT, List.set_cons_zero, List.set_cons_succ, ↓us_sl10Read, r_sl10Read]
            refine ⟨g, by omega, a6 + 1, most6, nm10, mn13, true, hb14, hx14, fun _ => ?_, fun hb => (by cases hb)⟩
            rw [progL, if_pos hs200, ← hR]
            cases hbl : blk s kn 1000 (a + 2) [] false 0 most with
            | none => rfl
            | some p =>
              obtain ⟨part, a7, most7⟩ := p
              rw [hbl] at hR6
              obtain ⟨_, rfl, _, _⟩ := hR6
              simp only
              rw [if_neg (fun h => h59 (by rw [pk, if_pos h.1]; exact h.2))]
        · rw [hnl] at hk
          have hlk := (kn_lookup (kn := kn)).1 k hk hke hkn0
          have hpn : progL s = none := by rw [progL, if_pos hs200, ← hR, if_neg (fun h => by rw [hlk] at h; cases h.2.2)]
          have hpos : (0 : Int) ≤ (k : Nat) := by omega
          simp only [↓vsd, vsn, gW, qd, qv, ev, pick, argE, List.map_cons, List.map_nil, Option.map_some, Option.map_none, zipE, List.cons_append, List.nil_append, ne_eq, eq_self, forall_const, implies_true, if_true, if_false, reduceIte, List.cons.injEq, reduceCtorEq, Nat.reduceEqDiff, List.length_nil, List.length_cons, Nat.reduceAdd, Nat.reduceLT, List.set_cons_zero, List.set_cons_succ, ↓us_sl10Read, r_sl10Read, hb5.facts, fRg, hpos]
          refine m_st hb5 rfl (by decide : 2 + 1 ≤ 7) (fB_one _) ?_
          rintro w6 hb6' hu6
          have hb6 : Blk w6 b (fR s (a + 2 : Nat) true nm mn 0 most) 109 := hb6'
          simp only [↓vsd, vsn, gW, qd, qv, ev, pick, argE, List.map_cons, List.map_nil, Option.map_some, Option.map_none, zipE, List.cons_append, List.nil_append, ne_eq, eq_self, forall_const, implies_true, if_true, if_false, reduceIte, List.cons.injEq, reduceCtorEq, Nat.reduceEqDiff, List.length_nil, List.length_cons, Nat.reduceAdd, Nat.reduceLT, List.set_cons_zero, List.set_cons_succ, ↓us_sl10Read, r_sl10Read, hb6.facts, fRg]
          exact ⟨hu6.below hx45 hbw, hbadR (a + 2) most _ _ w6 [] (by decide) hb6 hpn⟩
      · have hnAZ : ((s.getD a 0).toNat : Int) < 65 ∨ 90 < ((s.getD a 0).toNat : Int) := by omega
        have hpn : progL s = none := by rw [progL, if_pos hs200, ← hR, if_neg (fun h => hAZ ⟨h.1, h.2.1⟩)]
        have hg0 : [s.getD a 0].getD 0 0 = s.getD a 0 := rfl
        have hdT : (decide (((s.getD a 0).toNat : Int) < 65) || decide (90 < ((s.getD a 0).toNat : Int))) = true := by rw [← Bool.decide_or]; exact decide_eq_true hnAZ
        have hnot : ¬ (65 ≤ ((s.getD a 0).toNat : Int) ∧ ((s.getD a 0).toNat : Int) ≤ 90) := by omega
        simp only [↓vsd, vsn, gW, qd, qv, ev, pick, argE, List.map_cons, List.map_nil, Option.map_some, Option.map_none, zipE, List.cons_append, List.nil_append, ne_eq, eq_self, forall_const, implies_true, if_true, if_false, reduceIte, List.cons.injEq, reduceCtorEq, Nat.reduceEqDiff, List.length_nil, List.length_cons, Nat.reduceAdd, Nat.reduceLT, List.set_cons_zero, List.set_cons_succ, ↓us_sl10Read, r_sl10Read, hb4.facts, fRg, e1, hg0, hdT, hnot]
        refine ⟨by decide, fun _ => by decide, m_st hb4 rfl (by decide : 2 + 1 ≤ 7) (fB_one _) ?_⟩
        rintro w5 hb5' hu5
        have hb5 : Blk w5 b (fR s (a + 2 : Nat) true nm mn 0 most) 109 := hb5'
        simp only [↓vsd, vsn, gW, qd, qv, ev, pick, argE, List.map_cons, List.map_nil, Option.map_some, Option.map_none, zipE, List.cons_append, List.nil_append, ne_eq, eq_self, forall_const, implies_true, if_true, if_false, reduceIte, List.cons.injEq, reduceCtorEq, Nat.reduceEqDiff, List.length_nil, List.length_cons, Nat.reduceAdd, Nat.reduceLT, List.set_cons_zero, List.set_cons_succ, ↓us_sl10Read, r_sl10Read, hb5.facts, fRg]
        exact ⟨hu5.below hx4 hbw, hbadR (a + 2) most _ _ w5 [] (by decide) hb5 hpn⟩
    · rw [if_neg hd1] at hR
      have hno : ¬ ((a : Int) + 1 < s.length ∧ ((s.getD (a + 1) 0).toNat : Int) = 61) := by omega
      simp only [↓vsd, vsn, gW, qd, qv, ev, pick, argE, List.map_cons, List.map_nil, Option.map_some, Option.map_none, zipE, List.cons_append, List.nil_append, ne_eq, eq_self, forall_const, implies_true, if_true, if_false, reduceIte, List.cons.injEq, reduceCtorEq, Nat.reduceEqDiff, List.length_nil, List.length_cons, Nat.reduceAdd, Nat.reduceLT, List.set_cons_zero, List.set_cons_succ, ↓us_sl10Read, r_sl10Read, hb3.facts, fRg, hno]
      refine ⟨inR_i64 (by omega), fun _ => inR_i64 (by omega), fun _ => by omega, m_callw (.inl rfl) (sl10R_block_ok 1000 s kn nm mn mns 0 most a b w3 (by omega) has hs200 (by omega) hmo (by omega) hkn hq hb3) ?_⟩
      rintro _ w4 ⟨a4, most4, bad4, o4, rfl, hb4, hg4, ha4, hal4, hmm4, hol4, hR4⟩
      have hx4 : Ext w w4 := Below.trans hx3 ⟨hg4.os, hg4.tape, hg4.output, hg4.size, fun i hi => hg4.block i (by have := hx3.size; omega) (fun e => by have := Option.some.inj e; omega)⟩
      have ho4 := ho3.keep hg4 (fun c hc => by have := Option.some.inj hc; omega)
      simp only [↓vsd, vsn, gW, qd, qv, ev, pick, argE, List.map_cons, List.map_nil, Option.map_some, Option.map_none, zipE, List.cons_append, List.nil_append, ne_eq, eq_self, forall_const, implies_true, if_true, if_false, reduceIte, List.cons.injEq, reduceCtorEq, Nat.reduceEqDiff, List.length_nil, List.length_cons, Nat.reduceAdd, Nat.reduceLT, List.set_cons_zero, List.set_cons_succ, ↓us_sl10Read, r_sl10Read, hb4.facts, fRg]
      refine ⟨fun hne => m_st hb4 rfl (by decide : 2 + 1 ≤ 7) (fB_one _) ?_, fun he => ⟨hx4, ?_⟩⟩
      · rintro w5 hb5' hu5
        have hb5 : Blk w5 b (fR s a4 true nm mn 0 most4) 109 := hb5'
        have hpn : progL s = none := by
          rw [progL, if_pos hs200, ← hR]
          cases hbl : blk s kn 1000 a [] false 0 most with
          | none => rfl
          | some p =>
            obtain ⟨part, a5, most5⟩ := p
            rw [hbl] at hR4
            obtain ⟨_, rfl, _, _⟩ := hR4
            simp only
            rw [if_neg (by omega)]
        simp only [↓vsd, vsn, gW, qd, qv, ev, pick, argE, List.map_cons, List.map_nil, Option.map_some, Option.map_none, zipE, List.cons_append, List.nil_append, ne_eq, eq_self, forall_const, implies_true, if_true, if_false, reduceIte, List.cons.injEq, reduceCtorEq, Nat.reduceEqDiff, List.length_nil, List.length_cons, Nat.reduceAdd, Nat.reduceLT, List.set_cons_zero, List.set_cons_succ, ↓us_sl10Read, r_sl10Read]
        exact ⟨hu5.below hx4 hbw, hbadR a4 most4 _ _ w5 o4 (by omega) hb5 hpn⟩
      · cases hbl : blk s kn 1000 a [] false 0 most with
        | none =>
          rw [hbl] at hR4 hR
          simp only at hR4
          subst hR4
          exact hbadR a4 most4 _ _ w4 o4 (by omega) hb4 (by rw [progL, if_pos hs200, ← hR])
        | some p =>
          obtain ⟨part, a5, most5⟩ := p
          rw [hbl] at hR4 hR
          obtain ⟨rfl, rfl, rfl, hpt⟩ := hR4
          simp only at hR
          rw [if_pos (by omega)] at hR
          refine ⟨b, o4, false, a4, most4, nm, mn, rfl, hb4, by omega, ?_⟩
          rw [progL, if_pos hs200, ← hR]
          exact ⟨rfl, hpt, rfl, by omega, own_mono ho4 (by omega)⟩
theorem touch_take (l : List UInt8) : (IsTouch l ↔ IsTouch (l.take 61)) ∧ (IsTouch l → l.take 61 = l) := by
  by_cases h : l.length ≤ 60
  · rw [List.take_of_length_le (by omega)]
    exact ⟨Iff.rfl, fun _ => rfl⟩
  · have h1 : ¬ IsTouch l := fun ht => by have := ht.1; omega
    have h2 : ¬ IsTouch (l.take 61) := fun ht => by have := ht.1; rw [List.length_take] at this; omega
    exact ⟨⟨fun ht => absurd ht h1, fun ht => absurd ht h2⟩, fun ht => absurd ht h1⟩
theorem sIsWords_ok (s : List UInt8) (hs : s.length ≤ 1048576) (w : World) : Fn 57 [S s] w (fun r _ => r = .bool (progL s).isSome) := by
  (refine callsV_of mix Try.func57 c_sIsWords ?_; simp only [↓vsd, vsn, gW, qd, qv, ev, pick, argE, List.map_cons, List.map_nil, Option.map_some, Option.map_none, zipE, List.cons_append, List.nil_append, ne_eq, eq_self, forall_const, implies_true, if_true, if_false, reduceIte, List.cons.injEq, reduceCtorEq, Nat.reduceEqDiff, List.length_nil, List.length_cons, Nat.reduceAdd, Nat.reduceLT, List.set_cons_zero, List.set_cons_succ, ↓us_sIsWords, r_sIsWords])
  refine m_call (sl10Read_ok s hs _) ?_
  rintro _ w1 hx1 ⟨b, out, bad, a, most, nm, mn, rfl, hb, hol, hR⟩
  simp only [↓vsd, vsn, gW, qd, qv, ev, pick, argE, List.map_cons, List.map_nil, Option.map_some, Option.map_none, zipE, List.cons_append, List.nil_append, ne_eq, eq_self, forall_const, implies_true, if_true, if_false, reduceIte, List.cons.injEq, reduceCtorEq, Nat.reduceEqDiff, List.length_nil, List.length_cons, Nat.reduceAdd, Nat.reduceLT, List.set_cons_zero, List.set_cons_succ, ↓us_sIsWords, r_sIsWords, hb.facts, fRg]
  refine ⟨hx1, ?_⟩
  cases hp : progL s with
  | none => rw [hp] at hR; rw [hR]; rfl
  | some p => obtain ⟨o, kn, m⟩ := p; rw [hp] at hR; rw [hR.1]; rfl
theorem sDepthOf_ok (s : List UInt8) (hs : s.length ≤ 1048576) (w : World) : Fn 59 [S s] w (fun r _ => r = match progL s with | none => .tuple ⟨[.int .i64 0, .bool false]⟩ | some p => .tuple ⟨[.int .i64 (p.2.2 : Nat), .bool true]⟩) := by
  (refine callsV_of mix Try.func59 c_sDepthOf ?_; simp only [↓vsd, vsn, gW, qd, qv, ev, pick, argE, List.map_cons, List.map_nil, Option.map_some, Option.map_none, zipE, List.cons_append, List.nil_append, ne_eq, eq_self, forall_const, implies_true, if_true, if_false, reduceIte, List.cons.injEq, reduceCtorEq, Nat.reduceEqDiff, List.length_nil, List.length_cons, Nat.reduceAdd, Nat.reduceLT, List.set_cons_zero, List.set_cons_succ, ↓us_sDepthOf, r_sDepthOf])
  refine m_call (sl10Read_ok s hs _) ?_
  rintro _ w1 hx1 ⟨b, out, bad, a, most, nm, mn, rfl, hb, hol, hR⟩
  cases hp : progL s with
  | none =>
    rw [hp] at hR
    subst hR
    simp only [↓vsd, vsn, gW, qd, qv, ev, pick, argE, List.map_cons, List.map_nil, Option.map_some, Option.map_none, zipE, List.cons_append, List.nil_append, ne_eq, eq_self, forall_const, implies_true, if_true, if_false, reduceIte, List.cons.injEq, reduceCtorEq, Nat.reduceEqDiff, List.length_nil, List.length_cons, Nat.reduceAdd, Nat.reduceLT, List.set_cons_zero, List.set_cons_succ, ↓us_sDepthOf, r_sDepthOf, hb.facts, fRg]
    exact hx1
  | some p =>
    obtain ⟨o, kn, m⟩ := p
    rw [hp] at hR
    obtain ⟨rfl, _, rfl, _⟩ := hR
    simp only [↓vsd, vsn, gW, qd, qv, ev, pick, argE, List.map_cons, List.map_nil, Option.map_some, Option.map_none, zipE, List.cons_append, List.nil_append, ne_eq, eq_self, forall_const, implies_true, if_true, if_false, reduceIte, List.cons.injEq, reduceCtorEq, Nat.reduceEqDiff, List.length_nil, List.length_cons, Nat.reduceAdd, Nat.reduceLT, List.set_cons_zero, List.set_cons_succ, ↓us_sDepthOf, r_sDepthOf, hb.facts, fRg]
    exact hx1
theorem sCompileWords_ok (s : List UInt8) (hs : s.length ≤ 1048576) (w : World) : Fn 74 [S s] w (fun r _ => r = match progL s with | none => .tuple ⟨[S [], .bool false]⟩ | some p => if IsTouch p.1 then .tuple ⟨[S p.1, .bool true]⟩ else .tuple ⟨[S [], .bool false]⟩) := by
  (refine callsV_of mix Try.func74 c_sCompileWords ?_; simp only [↓vsd, vsn, gW, qd, qv, ev, pick, argE, List.map_cons, List.map_nil, Option.map_some, Option.map_none, zipE, List.cons_append, List.nil_append, ne_eq, eq_self, forall_const, implies_true, if_true, if_false, reduceIte, List.cons.injEq, reduceCtorEq, Nat.reduceEqDiff, List.length_nil, List.length_cons, Nat.reduceAdd, Nat.reduceLT, List.set_cons_zero, List.set_cons_succ, ↓us_sCompileWords, r_sCompileWords])
  refine m_call (sl10Read_ok s hs _) ?_
  rintro _ w1 hx1 ⟨b, out, bad, a, most, nm, mn, rfl, hb, hol, hR⟩
  cases hp : progL s with
  | none =>
    rw [hp] at hR
    subst hR
    simp only [↓vsd, vsn, gW, qd, qv, ev, pick, argE, List.map_cons, List.map_nil, Option.map_some, Option.map_none, zipE, List.cons_append, List.nil_append, ne_eq, eq_self, forall_const, implies_true, if_true, if_false, reduceIte, List.cons.injEq, reduceCtorEq, Nat.reduceEqDiff, List.length_nil, List.length_cons, Nat.reduceAdd, Nat.reduceLT, List.set_cons_zero, List.set_cons_succ, ↓us_sCompileWords, r_sCompileWords, hb.facts, fRg]
    exact hx1
  | some p =>
    obtain ⟨o, kn, m⟩ := p
    rw [hp] at hR
    obtain ⟨rfl, rfl, rfl, _⟩ := hR
    simp only [↓vsd, vsn, gW, qd, qv, ev, pick, argE, List.map_cons, List.map_nil, Option.map_some, Option.map_none, zipE, List.cons_append, List.nil_append, ne_eq, eq_self, forall_const, implies_true, if_true, if_false, reduceIte, List.cons.injEq, reduceCtorEq, Nat.reduceEqDiff, List.length_nil, List.length_cons, Nat.reduceAdd, Nat.reduceLT, List.set_cons_zero, List.set_cons_succ, ↓us_sCompileWords, r_sCompileWords, hb.facts, fRg]
    refine m_call (sl9Good_ok out (by omega) _) ?_
    rintro _ w2 hx2 rfl
    obtain ⟨h1, h2⟩ := touch_take out
    by_cases ht : IsTouch out
    · simp only [↓vsd, vsn, gW, qd, qv, ev, pick, argE, List.map_cons, List.map_nil, Option.map_some, Option.map_none, zipE, List.cons_append, List.nil_append, ne_eq, eq_self, forall_const, implies_true, if_true, if_false, reduceIte, List.cons.injEq, reduceCtorEq, Nat.reduceEqDiff, List.length_nil, List.length_cons, Nat.reduceAdd, Nat.reduceLT, List.set_cons_zero, List.set_cons_succ, ↓us_sCompileWords, r_sCompileWords, ht]
      rw [if_pos (h1.1 ht), h2 ht]
      exact ⟨hx1.trans hx2, rfl⟩
    · simp only [↓vsd, vsn, gW, qd, qv, ev, pick, argE, List.map_cons, List.map_nil, Option.map_some, Option.map_none, zipE, List.cons_append, List.nil_append, ne_eq, eq_self, forall_const, implies_true, if_true, if_false, reduceIte, List.cons.injEq, reduceCtorEq, Nat.reduceEqDiff, List.length_nil, List.length_cons, Nat.reduceAdd, Nat.reduceLT, List.set_cons_zero, List.set_cons_succ, ↓us_sCompileWords, r_sCompileWords, ht]
      rw [if_neg (fun h => ht (h1.2 h))]
      exact ⟨hx1.trans hx2, rfl⟩
theorem sNamesIn_ok (s : List UInt8) (hs : s.length ≤ 1048576) (w : World) : Fn 76 [S s] w (fun r w' => ∃ x, r = .tuple ⟨[x, .bool (progL s).isSome]⟩ ∧ Own fS 1 9 w.heap.size w' x (match progL s with | none => [] | some p => namesL p.2.1)) := by
  (refine callsV_of mix Try.func76 c_sNamesIn ?_; simp only [↓vsd, vsn, gW, qd, qv, ev, pick, argE, List.map_cons, List.map_nil, Option.map_some, Option.map_none, zipE, List.cons_append, List.nil_append, ne_eq, eq_self, forall_const, implies_true, if_true, if_false, reduceIte, List.cons.injEq, reduceCtorEq, Nat.reduceEqDiff, List.length_nil, List.length_cons, Nat.reduceAdd, Nat.reduceLT, List.set_cons_zero, List.set_cons_succ, ↓us_sNamesIn, r_sNamesIn])
  refine m_call (sl10Read_ok s hs _) ?_
  rintro _ w1 hx1 ⟨b, out, bad, a, most, nm, mn, rfl, hb, hol, hR⟩
  cases hp : progL s with
  | none =>
    rw [hp] at hR
    subst hR
    simp only [↓vsd, vsn, gW, qd, qv, ev, pick, argE, List.map_cons, List.map_nil, Option.map_some, Option.map_none, zipE, List.cons_append, List.nil_append, ne_eq, eq_self, forall_const, implies_true, if_true, if_false, reduceIte, List.cons.injEq, reduceCtorEq, Nat.reduceEqDiff, List.length_nil, List.length_cons, Nat.reduceAdd, Nat.reduceLT, List.set_cons_zero, List.set_cons_succ, ↓us_sNamesIn, r_sNamesIn, hb.facts, fRg]
    refine ⟨hx1, _, rfl, ?_⟩
    exact Own.nil fS_len
  | some p =>
    obtain ⟨o, kn, m⟩ := p
    rw [hp] at hR
    obtain ⟨rfl, _, rfl, _, ho⟩ := hR
    simp only [↓vsd, vsn, gW, qd, qv, ev, pick, argE, List.map_cons, List.map_nil, Option.map_some, Option.map_none, zipE, List.cons_append, List.nil_append, ne_eq, eq_self, forall_const, implies_true, if_true, if_false, reduceIte, List.cons.injEq, reduceCtorEq, Nat.reduceEqDiff, List.length_nil, List.length_cons, Nat.reduceAdd, Nat.reduceLT, List.set_cons_zero, List.set_cons_succ, ↓us_sNamesIn, r_sNamesIn, hb.facts, fRg]
    exact ⟨hx1, _, rfl, ho⟩
theorem lFnExactIsWords_ok (s : List UInt8) (w : World) : Fn 9 [S s] w (fun v _ => v = .bool true) := by
  (refine callsV_of mix Try.func9 c_lFnExactIsWords ?_; simp only [↓vsd, vsn, gW, qd, qv, ev, pick, argE, List.map_cons, List.map_nil, Option.map_some, Option.map_none, zipE, List.cons_append, List.nil_append, ne_eq, eq_self, forall_const, implies_true, if_true, if_false, reduceIte, List.cons.injEq, reduceCtorEq, Nat.reduceEqDiff, List.length_nil, List.length_cons, Nat.reduceAdd, Nat.reduceLT, List.set_cons_zero, List.set_cons_succ, ↓us_lFnExactIsWords, r_lFnExactIsWords])
  refine ⟨fun _ => Ext.refl _, fun hl => ?_⟩
  refine m_call (sIsWords_ok s (by omega) _) ?_
  rintro _ w1 hx1 rfl
  simp only [↓vsd, vsn, gW, qd, qv, ev, pick, argE, List.map_cons, List.map_nil, Option.map_some, Option.map_none, zipE, List.cons_append, List.nil_append, ne_eq, eq_self, forall_const, implies_true, if_true, if_false, reduceIte, List.cons.injEq, reduceCtorEq, Nat.reduceEqDiff, List.length_nil, List.length_cons, Nat.reduceAdd, Nat.reduceLT, List.set_cons_zero, List.set_cons_succ, ↓us_lFnExactIsWords, r_lFnExactIsWords]
  refine m_call (iIsWords_ok s (by omega) _) ?_
  rintro _ w2 hx2 rfl
  simp only [↓vsd, vsn, gW, qd, qv, ev, pick, argE, List.map_cons, List.map_nil, Option.map_some, Option.map_none, zipE, List.cons_append, List.nil_append, ne_eq, eq_self, forall_const, implies_true, if_true, if_false, reduceIte, List.cons.injEq, reduceCtorEq, Nat.reduceEqDiff, List.length_nil, List.length_cons, Nat.reduceAdd, Nat.reduceLT, List.set_cons_zero, List.set_cons_succ, ↓us_lFnExactIsWords, r_lFnExactIsWords]
  exact hx1.trans hx2
theorem lFnExactDepthOf_ok (s : List UInt8) (w : World) : Fn 10 [S s] w (fun v _ => v = .bool true) := by
  (refine callsV_of mix Try.func10 c_lFnExactDepthOf ?_; simp only [↓vsd, vsn, gW, qd, qv, ev, pick, argE, List.map_cons, List.map_nil, Option.map_some, Option.map_none, zipE, List.cons_append, List.nil_append, ne_eq, eq_self, forall_const, implies_true, if_true, if_false, reduceIte, List.cons.injEq, reduceCtorEq, Nat.reduceEqDiff, List.length_nil, List.length_cons, Nat.reduceAdd, Nat.reduceLT, List.set_cons_zero, List.set_cons_succ, ↓us_lFnExactDepthOf, r_lFnExactDepthOf])
  refine ⟨fun _ => Ext.refl _, fun hl => ?_⟩
  have key : ∃ (n : Int) (q : Bool), (match progL s with | none => Value.tuple ⟨[.int .i64 0, .bool false]⟩ | some p => .tuple ⟨[.int .i64 (p.2.2 : Nat), .bool true]⟩) = .tuple ⟨[.int .i64 n, .bool q]⟩ := by
    cases progL s with
    | none => exact ⟨_, _, rfl⟩
    | some p => exact ⟨_, _, rfl⟩
  obtain ⟨n, q, e⟩ := key
  refine m_call (sDepthOf_ok s (by omega) _) ?_
  rintro r1 w1 hx1 hr1
  have hr1 := hr1.trans e
  subst hr1
  simp only [↓vsd, vsn, gW, qd, qv, ev, pick, argE, List.map_cons, List.map_nil, Option.map_some, Option.map_none, zipE, List.cons_append, List.nil_append, ne_eq, eq_self, forall_const, implies_true, if_true, if_false, reduceIte, List.cons.injEq, reduceCtorEq, Nat.reduceEqDiff, List.length_nil, List.length_cons, Nat.reduceAdd, Nat.reduceLT, List.set_cons_zero, List.set_cons_succ, ↓us_lFnExactDepthOf, r_lFnExactDepthOf]
  refine m_call (iDepthOf_ok s (by omega) _) ?_
  rintro r2 w2 hx2 hr2
  have hr2 := hr2.trans e
  subst hr2
  simp only [↓vsd, vsn, gW, qd, qv, ev, pick, argE, List.map_cons, List.map_nil, Option.map_some, Option.map_none, zipE, List.cons_append, List.nil_append, ne_eq, eq_self, forall_const, implies_true, if_true, if_false, reduceIte, List.cons.injEq, reduceCtorEq, Nat.reduceEqDiff, List.length_nil, List.length_cons, Nat.reduceAdd, Nat.reduceLT, List.set_cons_zero, List.set_cons_succ, ↓us_lFnExactDepthOf, r_lFnExactDepthOf]
  exact hx1.trans hx2
theorem lFnExactCompileWords_ok (s : List UInt8) (w : World) : Fn 12 [S s] w (fun v _ => v = .bool true) := by
  (refine callsV_of mix Try.func12 c_lFnExactCompileWords ?_; simp only [↓vsd, vsn, gW, qd, qv, ev, pick, argE, List.map_cons, List.map_nil, Option.map_some, Option.map_none, zipE, List.cons_append, List.nil_append, ne_eq, eq_self, forall_const, implies_true, if_true, if_false, reduceIte, List.cons.injEq, reduceCtorEq, Nat.reduceEqDiff, List.length_nil, List.length_cons, Nat.reduceAdd, Nat.reduceLT, List.set_cons_zero, List.set_cons_succ, ↓us_lFnExactCompileWords, r_lFnExactCompileWords])
  refine ⟨fun _ => Ext.refl _, fun hl => ?_⟩
  have key : ∃ (n : List UInt8) (q : Bool), (match progL s with | none => Value.tuple ⟨[S [], .bool false]⟩ | some p => if IsTouch p.1 then .tuple ⟨[S p.1, .bool true]⟩ else .tuple ⟨[S [], .bool false]⟩) = .tuple ⟨[S n, .bool q]⟩ := by
    cases progL s with
    | none => exact ⟨_, _, rfl⟩
    | some p =>
      simp only
      split
      · exact ⟨_, _, rfl⟩
      · exact ⟨_, _, rfl⟩
  obtain ⟨n, q, e⟩ := key
  refine m_call (sCompileWords_ok s (by omega) _) ?_
  rintro r1 w1 hx1 hr1
  have hr1 := hr1.trans e
  subst hr1
  simp only [↓vsd, vsn, gW, qd, qv, ev, pick, argE, List.map_cons, List.map_nil, Option.map_some, Option.map_none, zipE, List.cons_append, List.nil_append, ne_eq, eq_self, forall_const, implies_true, if_true, if_false, reduceIte, List.cons.injEq, reduceCtorEq, Nat.reduceEqDiff, List.length_nil, List.length_cons, Nat.reduceAdd, Nat.reduceLT, List.set_cons_zero, List.set_cons_succ, ↓us_lFnExactCompileWords, r_lFnExactCompileWords]
  refine m_call (iCompileWords_ok s (by omega) _) ?_
  rintro r2 w2 hx2 hr2
  have hr2 := hr2.trans e
  subst hr2
  simp only [↓vsd, vsn, gW, qd, qv, ev, pick, argE, List.map_cons, List.map_nil, Option.map_some, Option.map_none, zipE, List.cons_append, List.nil_append, ne_eq, eq_self, forall_const, implies_true, if_true, if_false, reduceIte, List.cons.injEq, reduceCtorEq, Nat.reduceEqDiff, List.length_nil, List.length_cons, Nat.reduceAdd, Nat.reduceLT, List.set_cons_zero, List.set_cons_succ, ↓us_lFnExactCompileWords, r_lFnExactCompileWords]
  exact hx1.trans hx2
theorem lFnExactNamesIn_ok (s : List UInt8) (w : World) : Fn 13 [S s] w (fun v _ => v = .bool true) := by
  (refine callsV_of mix Try.func13 c_lFnExactNamesIn ?_; simp only [↓vsd, vsn, gW, qd, qv, ev, pick, argE, List.map_cons, List.map_nil, Option.map_some, Option.map_none, zipE, List.cons_append, List.nil_append, ne_eq, eq_self, forall_const, implies_true, if_true, if_false, reduceIte, List.cons.injEq, reduceCtorEq, Nat.reduceEqDiff, List.length_nil, List.length_cons, Nat.reduceAdd, Nat.reduceLT, List.set_cons_zero, List.set_cons_succ, ↓us_lFnExactNamesIn, r_lFnExactNamesIn])
  refine ⟨fun _ => Ext.refl _, fun hl => ?_⟩
  refine m_call (sNamesIn_ok s (by omega) _) ?_
  rintro _ w1 hx1 ⟨x1, rfl, ho1⟩
  simp only [↓vsd, vsn, gW, qd, qv, ev, pick, argE, List.map_cons, List.map_nil, Option.map_some, Option.map_none, zipE, List.cons_append, List.nil_append, ne_eq, eq_self, forall_const, implies_true, if_true, if_false, reduceIte, List.cons.injEq, reduceCtorEq, Nat.reduceEqDiff, List.length_nil, List.length_cons, Nat.reduceAdd, Nat.reduceLT, List.set_cons_zero, List.set_cons_succ, ↓us_lFnExactNamesIn, r_lFnExactNamesIn]
  refine m_call (iNamesIn_ok s (by omega) _) ?_
  rintro _ w2 hx2 ⟨x2, rfl, ho2, hkl⟩
  obtain ⟨L, hL⟩ : ∃ L, (match progL s with | none => [] | some p => namesL p.2.1) = L := ⟨_, rfl⟩
  have ho1 := ho1.to hL
  have ho2 := ho2.to hL
  have hLl : L.length ≤ 1000 := by
    rw [← hL]
    cases hp : progL s with
    | none => simp
    | some p => have := hkl p hp; simp only [namesL, List.length_map]; exact this
  simp only [↓vsd, vsn, gW, qd, qv, ev, pick, argE, List.map_cons, List.map_nil, Option.map_some, Option.map_none, zipE, List.cons_append, List.nil_append, ne_eq, eq_self, forall_const, implies_true, if_true, if_false, reduceIte, List.cons.injEq, reduceCtorEq, Nat.reduceEqDiff, List.length_nil, List.length_cons, Nat.reduceAdd, Nat.reduceLT, List.set_cons_zero, List.set_cons_succ, ↓us_lFnExactNamesIn, r_lFnExactNamesIn]
  refine m_call (leqStringS_ok x2 x1 _ _ _ ho2.sq (ho1.sq.ext hx2) (by omega)) ?_
  rintro _ w3 hx3 rfl
  simp only [↓vsd, vsn, gW, qd, qv, ev, pick, argE, List.map_cons, List.map_nil, Option.map_some, Option.map_none, zipE, List.cons_append, List.nil_append, ne_eq, eq_self, forall_const, implies_true, if_true, if_false, reduceIte, List.cons.injEq, reduceCtorEq, Nat.reduceEqDiff, List.length_nil, List.length_cons, Nat.reduceAdd, Nat.reduceLT, List.set_cons_zero, List.set_cons_succ, ↓us_lFnExactNamesIn, r_lFnExactNamesIn]
  have ho3 := ho2.ext hx3
  refine m_callw (.inl rfl) (lmarkStringS_ok x2 _ _ 1 (by omega) (by omega) _ ho3) ?_
  rintro _ w4 ⟨rfl, ho4, hg4⟩
  have hx4 : Ext w w4 := (own_mono ho3 hx1.size).grown ((hx1.trans hx2).trans hx3) (Nat.le_refl _) hg4
  have hk4 : Own fS 1 9 w.heap.size w4 x1 L := ((ho1.ext hx2).ext hx3).same fun g hg => hg4.block g (by have := ho1.lt g hg; have := hx2.size; have := hx3.size; omega) (fun he => by have := (ho3.bound g he.symm).1; have := ho1.lt g hg; omega)
  simp only [↓vsd, vsn, gW, qd, qv, ev, pick, argE, List.map_cons, List.map_nil, Option.map_some, Option.map_none, zipE, List.cons_append, List.nil_append, ne_eq, eq_self, forall_const, implies_true, if_true, if_false, reduceIte, List.cons.injEq, reduceCtorEq, Nat.reduceEqDiff, List.length_nil, List.length_cons, Nat.reduceAdd, Nat.reduceLT, List.set_cons_zero, List.set_cons_succ, ↓us_lFnExactNamesIn, r_lFnExactNamesIn]
  refine m_call (lheldStringS_ok x2 L.length 1 (by omega) (by omega) _ ho4.sq) ?_
  rintro _ w5 hx5 rfl
  simp only [↓vsd, vsn, gW, qd, qv, ev, pick, argE, List.map_cons, List.map_nil, Option.map_some, Option.map_none, zipE, List.cons_append, List.nil_append, ne_eq, eq_self, forall_const, implies_true, if_true, if_false, reduceIte, List.cons.injEq, reduceCtorEq, Nat.reduceEqDiff, List.length_nil, List.length_cons, Nat.reduceAdd, Nat.reduceLT, List.set_cons_zero, List.set_cons_succ, ↓us_lFnExactNamesIn, r_lFnExactNamesIn]
  refine ⟨fun h => by omega, fun _ => ?_⟩
  refine m_call (iNamesIn_ok s (by omega) _) ?_
  rintro _ w6 hx6 ⟨x6, rfl, ho6, _⟩
  have ho6 := ho6.to hL
  simp only [↓vsd, vsn, gW, qd, qv, ev, pick, argE, List.map_cons, List.map_nil, Option.map_some, Option.map_none, zipE, List.cons_append, List.nil_append, ne_eq, eq_self, forall_const, implies_true, if_true, if_false, reduceIte, List.cons.injEq, reduceCtorEq, Nat.reduceEqDiff, List.length_nil, List.length_cons, Nat.reduceAdd, Nat.reduceLT, List.set_cons_zero, List.set_cons_succ, ↓us_lFnExactNamesIn, r_lFnExactNamesIn]
  refine m_call (leqStringS_ok x6 x1 _ _ _ ho6.sq ((hk4.ext hx5).ext hx6).sq (by omega)) ?_
  rintro _ w7 hx7 rfl
  simp only [↓vsd, vsn, gW, qd, qv, ev, pick, argE, List.map_cons, List.map_nil, Option.map_some, Option.map_none, zipE, List.cons_append, List.nil_append, ne_eq, eq_self, forall_const, implies_true, if_true, if_false, reduceIte, List.cons.injEq, reduceCtorEq, Nat.reduceEqDiff, List.length_nil, List.length_cons, Nat.reduceAdd, Nat.reduceLT, List.set_cons_zero, List.set_cons_succ, ↓us_lFnExactNamesIn, r_lFnExactNamesIn]
  refine m_call (lheldStringS_ok x2 L.length 1 (by omega) (by omega) _ (((ho4.ext hx5).ext hx6).ext hx7).sq) ?_
  rintro _ w8 hx8 rfl
  simp only [↓vsd, vsn, gW, qd, qv, ev, pick, argE, List.map_cons, List.map_nil, Option.map_some, Option.map_none, zipE, List.cons_append, List.nil_append, ne_eq, eq_self, forall_const, implies_true, if_true, if_false, reduceIte, List.cons.injEq, reduceCtorEq, Nat.reduceEqDiff, List.length_nil, List.length_cons, Nat.reduceAdd, Nat.reduceLT, List.set_cons_zero, List.set_cons_succ, ↓us_lFnExactNamesIn, r_lFnExactNamesIn]
  exact ⟨fun h => by omega, fun _ => (((hx4.trans hx5).trans hx6).trans hx7).trans hx8⟩
end Go.Proofs.Ytnocgihggdgkeaa
