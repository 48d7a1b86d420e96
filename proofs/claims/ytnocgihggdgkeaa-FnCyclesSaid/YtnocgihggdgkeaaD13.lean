/-
  The call of the law FnCycles.
  Conditions: none.
-/
import Derived.Test.YtnocgihggdgkeaaD12
set_option linter.unusedSimpArgs false
set_option linter.unusedVariables false
set_option linter.defProp false
namespace Go.Proofs.Ytnocgihggdgkeaa
open Go Go.RowKit
def t_lFnCycles_1 : X := (.cond (.t 34) (.seq (.reg [4] (.c (.q 4 [] (.mv (.c (.bool true)))) .nil)) .ret) .skip)
theorem u_lFnCycles_1 (P : Program) (k : KT) (e : Env) (w : World) : vcK P t_lFnCycles_1 k e w = vcK P (.cond (.t 34) (.seq (.reg [4] (.c (.q 4 [] (.mv (.c (.bool true)))) .nil)) .ret) .skip) k e w := rfl
def t_lFnCycles_2 : X := (.cond (.t 55) (.seq (.reg [4] (.c (.q 4 [] (.mv (.c (.bool false)))) .nil)) .ret) .skip)
theorem u_lFnCycles_2 (P : Program) (k : KT) (e : Env) (w : World) : vcK P t_lFnCycles_2 k e w = vcK P (.cond (.t 55) (.seq (.reg [4] (.c (.q 4 [] (.mv (.c (.bool false)))) .nil)) .ret) .skip) k e w := rfl
def t_lFnCycles_3 : X := (.cond (.t 91) (.seq (.reg [4] (.c (.q 4 [] (.mv (.c (.bool false)))) .nil)) .ret) .skip)
theorem u_lFnCycles_3 (P : Program) (k : KT) (e : Env) (w : World) : vcK P t_lFnCycles_3 k e w = vcK P (.cond (.t 91) (.seq (.reg [4] (.c (.q 4 [] (.mv (.c (.bool false)))) .nil)) .ret) .skip) k e w := rfl
def t_lFnCycles_4 : X := (.cond (.t 123) (.seq (.reg [4] (.c (.q 4 [] (.mv (.c (.bool false)))) .nil)) .ret) .skip)
theorem u_lFnCycles_4 (P : Program) (k : KT) (e : Env) (w : World) : vcK P t_lFnCycles_4 k e w = vcK P (.cond (.t 123) (.seq (.reg [4] (.c (.q 4 [] (.mv (.c (.bool false)))) .nil)) .ret) .skip) k e w := rfl
def t_lFnCycles_5 : X := (.seq (.drw [1, 5, 10, 11, 12, 13, 14, 15, 17, 67, 68, 69, 92, 93, 94, 123] (.c (.q 99 [] (.mv (.t 19))) (.c (.q 100 [] (.bin .lss (.t 99) (.c (.int .i64 1)))) (.c (.q 101 [] (.mv (.t 100))) (.c (.q 102 [(101, false)] (.mv (.t 19))) (.c (.q 103 [(101, false)] (.mv (.t 5))) (.c (.q 104 [(101, false)] (.len (.t 103))) (.c (.q 105 [(101, false)] (.bin .gtr (.t 102) (.t 104))) (.c (.q 106 [] (.pick (.t 101) (.c (.bool true)) (.t 105))) (.c (.q 107 [] (.mv (.t 106))) (.c (.q 108 [(107, false)] (.mv (.t 5))) (.c (.q 109 [(107, false)] (.mv (.t 19))) (.c (.q 110 [(107, false)] (.bin .sub (.t 109) (.c (.int .i64 1)))) (.c (.q 111 [(107, false)] (.idx (.t 108) (.t 110))) (.c (.q 112 [(107, false)] (.bin .sub (.t 111) (.c (.int .u8 48)))) (.c (.q 113 [(107, false)] (.cvi .i64 (.t 112))) (.c (.q 114 [(107, false)] (.mv (.t 17))) (.c (.q 115 [(107, false)] (.mv (.t 18))) (.c (.q 116 [(107, false)] (.bin .add (.t 115) (.c (.int .i64 1)))) (.c (.q 117 [(107, false)] (.mv (.t 17))) (.c (.q 118 [(107, false)] (.lens (.t 117))) (.c (.q 119 [(107, false)] (.bin .rem (.t 116) (.t 118))) (.c (.q 120 [(107, false)] (.ia 1 (.t 114) (.t 119))) (.c (.q 121 [(107, false)] (.ld (.t 120))) (.c (.q 122 [(107, false)] (.bin .neq (.t 113) (.t 121))) (.c (.q 123 [] (.pick (.t 107) (.c (.bool true)) (.t 122))) .nil)))))))))))))))))))))))))) t_lFnCycles_4)
theorem u_lFnCycles_5 (P : Program) (k : KT) (e : Env) (w : World) : vcK P t_lFnCycles_5 k e w = vcK P (.seq (.drw [1, 5, 10, 11, 12, 13, 14, 15, 17, 67, 68, 69, 92, 93, 94, 123] (.c (.q 99 [] (.mv (.t 19))) (.c (.q 100 [] (.bin .lss (.t 99) (.c (.int .i64 1)))) (.c (.q 101 [] (.mv (.t 100))) (.c (.q 102 [(101, false)] (.mv (.t 19))) (.c (.q 103 [(101, false)] (.mv (.t 5))) (.c (.q 104 [(101, false)] (.len (.t 103))) (.c (.q 105 [(101, false)] (.bin .gtr (.t 102) (.t 104))) (.c (.q 106 [] (.pick (.t 101) (.c (.bool true)) (.t 105))) (.c (.q 107 [] (.mv (.t 106))) (.c (.q 108 [(107, false)] (.mv (.t 5))) (.c (.q 109 [(107, false)] (.mv (.t 19))) (.c (.q 110 [(107, false)] (.bin .sub (.t 109) (.c (.int .i64 1)))) (.c (.q 111 [(107, false)] (.idx (.t 108) (.t 110))) (.c (.q 112 [(107, false)] (.bin .sub (.t 111) (.c (.int .u8 48)))) (.c (.q 113 [(107, false)] (.cvi .i64 (.t 112))) (.c (.q 114 [(107, false)] (.mv (.t 17))) (.c (.q 115 [(107, false)] (.mv (.t 18))) (.c (.q 116 [(107, false)] (.bin .add (.t 115) (.c (.int .i64 1)))) (.c (.q 117 [(107, false)] (.mv (.t 17))) (.c (.q 118 [(107, false)] (.lens (.t 117))) (.c (.q 119 [(107, false)] (.bin .rem (.t 116) (.t 118))) (.c (.q 120 [(107, false)] (.ia 1 (.t 114) (.t 119))) (.c (.q 121 [(107, false)] (.ld (.t 120))) (.c (.q 122 [(107, false)] (.bin .neq (.t 113) (.t 121))) (.c (.q 123 [] (.pick (.t 107) (.c (.bool true)) (.t 122))) .nil)))))))))))))))))))))))))) t_lFnCycles_4) k e w := rfl
def t_lFnCycles_6 : X := (.reg [1, 5, 10, 11, 12, 13, 14, 15, 17, 67, 68, 69, 92, 93, 94] (.c (.q 124 [] (.bin .add (.t 94) (.c (.int .i64 1)))) (.c (.q 94 [] (.mv (.t 124))) .nil)))
theorem u_lFnCycles_6 (P : Program) (k : KT) (e : Env) (w : World) : vcK P t_lFnCycles_6 k e w = vcK P (.reg [1, 5, 10, 11, 12, 13, 14, 15, 17, 67, 68, 69, 92, 93, 94] (.c (.q 124 [] (.bin .add (.t 94) (.c (.int .i64 1)))) (.c (.q 94 [] (.mv (.t 124))) .nil))) k e w := rfl
def t_lFnCycles_7 : X := (.seq (.blk 3 (.seq (.reg [1, 5, 10, 11, 12, 13, 14, 15, 17, 18, 19, 67, 68, 69, 92, 93, 94] (.c (.q 96 [] (.mv (.t 94))) (.c (.q 97 [] (.ia 1 (.t 92) (.t 94))) (.c (.q 98 [] (.ld (.t 97))) (.c (.q 18 [] (.mv (.t 96))) (.c (.q 19 [] (.mv (.t 98))) .nil)))))) t_lFnCycles_5)) t_lFnCycles_6)
theorem u_lFnCycles_7 (P : Program) (k : KT) (e : Env) (w : World) : vcK P t_lFnCycles_7 k e w = vcK P (.seq (.blk 3 (.seq (.reg [1, 5, 10, 11, 12, 13, 14, 15, 17, 18, 19, 67, 68, 69, 92, 93, 94] (.c (.q 96 [] (.mv (.t 94))) (.c (.q 97 [] (.ia 1 (.t 92) (.t 94))) (.c (.q 98 [] (.ld (.t 97))) (.c (.q 18 [] (.mv (.t 96))) (.c (.q 19 [] (.mv (.t 98))) .nil)))))) t_lFnCycles_5)) t_lFnCycles_6) k e w := rfl
def t_lFnCycles_8 : X := (.seq (.cond (.t 95) .skip (.exit 2)) t_lFnCycles_7)
theorem u_lFnCycles_8 (P : Program) (k : KT) (e : Env) (w : World) : vcK P t_lFnCycles_8 k e w = vcK P (.seq (.cond (.t 95) .skip (.exit 2)) t_lFnCycles_7) k e w := rfl
def t_lFnCycles_9 : X := (.seq (.reg [1, 5, 10, 11, 12, 13, 14, 15, 17, 67, 68, 69, 92, 93, 94, 95] (.c (.q 95 [] (.bin .lss (.t 94) (.t 93))) .nil)) t_lFnCycles_8)
theorem u_lFnCycles_9 (P : Program) (k : KT) (e : Env) (w : World) : vcK P t_lFnCycles_9 k e w = vcK P (.seq (.reg [1, 5, 10, 11, 12, 13, 14, 15, 17, 67, 68, 69, 92, 93, 94, 95] (.c (.q 95 [] (.bin .lss (.t 94) (.t 93))) .nil)) t_lFnCycles_8) k e w := rfl
def t_lFnCycles_10 : X := (.blk 2 (.loop [94] [1, 5, 10, 11, 12, 13, 14, 15, 17, 67, 68, 69, 92, 93] t_lFnCycles_9))
theorem u_lFnCycles_10 (P : Program) (k : KT) (e : Env) (w : World) : vcK P t_lFnCycles_10 k e w = vcK P (.blk 2 (.loop [94] [1, 5, 10, 11, 12, 13, 14, 15, 17, 67, 68, 69, 92, 93] t_lFnCycles_9)) k e w := rfl
def t_lFnCycles_11 : X := (.seq (.reg [1, 5, 10, 11, 12, 13, 14, 15, 17, 67, 68, 69, 92, 93, 94] (.c (.q 92 [] (.mv (.t 17))) (.c (.q 93 [] (.lens (.t 92))) (.c (.q 94 [] (.mv (.c (.int .i64 0)))) .nil)))) t_lFnCycles_10)
theorem u_lFnCycles_11 (P : Program) (k : KT) (e : Env) (w : World) : vcK P t_lFnCycles_11 k e w = vcK P (.seq (.reg [1, 5, 10, 11, 12, 13, 14, 15, 17, 67, 68, 69, 92, 93, 94] (.c (.q 92 [] (.mv (.t 17))) (.c (.q 93 [] (.lens (.t 92))) (.c (.q 94 [] (.mv (.c (.int .i64 0)))) .nil)))) t_lFnCycles_10) k e w := rfl
def t_lFnCycles_12 : X := (.seq (.seq (.reg [1, 5, 10, 11, 12, 13, 14, 15, 17, 67, 68, 69, 91] (.c (.q 82 [] (.mv (.t 17))) (.c (.q 83 [] (.lens (.t 82))) (.c (.q 84 [] (.bin .lss (.t 83) (.c (.int .i64 2)))) (.c (.q 85 [] (.mv (.t 84))) (.c (.q 86 [(85, false)] (.mv (.t 10))) (.c (.q 87 [(85, false)] (.mv (.t 17))) (.c (.q 88 [(85, false)] (.lens (.t 87))) (.c (.q 89 [(85, false)] (.bin .rem (.t 86) (.t 88))) (.c (.q 90 [(85, false)] (.bin .neq (.t 89) (.c (.int .i64 0)))) (.c (.q 91 [] (.pick (.t 85) (.c (.bool true)) (.t 90))) .nil))))))))))) t_lFnCycles_3) t_lFnCycles_11)
theorem u_lFnCycles_12 (P : Program) (k : KT) (e : Env) (w : World) : vcK P t_lFnCycles_12 k e w = vcK P (.seq (.seq (.reg [1, 5, 10, 11, 12, 13, 14, 15, 17, 67, 68, 69, 91] (.c (.q 82 [] (.mv (.t 17))) (.c (.q 83 [] (.lens (.t 82))) (.c (.q 84 [] (.bin .lss (.t 83) (.c (.int .i64 2)))) (.c (.q 85 [] (.mv (.t 84))) (.c (.q 86 [(85, false)] (.mv (.t 10))) (.c (.q 87 [(85, false)] (.mv (.t 17))) (.c (.q 88 [(85, false)] (.lens (.t 87))) (.c (.q 89 [(85, false)] (.bin .rem (.t 86) (.t 88))) (.c (.q 90 [(85, false)] (.bin .neq (.t 89) (.c (.int .i64 0)))) (.c (.q 91 [] (.pick (.t 85) (.c (.bool true)) (.t 90))) .nil))))))))))) t_lFnCycles_3) t_lFnCycles_11) k e w := rfl
def t_lFnCycles_13 : X := (.seq (.reg [1, 5, 10, 11, 12, 13, 14, 15, 17, 67, 68, 69] (.c (.q 77 [] (.mv (.t 15))) (.c (.q 78 [] (.mv (.t 17))) (.c (.q 79 [] (.lens (.t 78))) (.c (.q 80 [] (.bin .sub (.t 79) (.c (.int .i64 1)))) (.c (.q 81 [] (.bin .add (.t 77) (.t 80))) (.c (.q 15 [] (.mv (.t 81))) .nil))))))) t_lFnCycles_12)
theorem u_lFnCycles_13 (P : Program) (k : KT) (e : Env) (w : World) : vcK P t_lFnCycles_13 k e w = vcK P (.seq (.reg [1, 5, 10, 11, 12, 13, 14, 15, 17, 67, 68, 69] (.c (.q 77 [] (.mv (.t 15))) (.c (.q 78 [] (.mv (.t 17))) (.c (.q 79 [] (.lens (.t 78))) (.c (.q 80 [] (.bin .sub (.t 79) (.c (.int .i64 1)))) (.c (.q 81 [] (.bin .add (.t 77) (.t 80))) (.c (.q 15 [] (.mv (.t 81))) .nil))))))) t_lFnCycles_12) k e w := rfl
def t_lFnCycles_14 : X := (.seq (.reg [1, 5, 10, 11, 12, 13, 14, 15, 17, 67, 68, 69] (.c (.q 73 [] (.mv (.t 14))) (.c (.q 74 [] (.mv (.t 17))) (.c (.q 75 [] (.lens (.t 74))) (.c (.q 76 [] (.bin .add (.t 73) (.t 75))) (.c (.q 14 [] (.mv (.t 76))) .nil)))))) t_lFnCycles_13)
theorem u_lFnCycles_14 (P : Program) (k : KT) (e : Env) (w : World) : vcK P t_lFnCycles_14 k e w = vcK P (.seq (.reg [1, 5, 10, 11, 12, 13, 14, 15, 17, 67, 68, 69] (.c (.q 73 [] (.mv (.t 14))) (.c (.q 74 [] (.mv (.t 17))) (.c (.q 75 [] (.lens (.t 74))) (.c (.q 76 [] (.bin .add (.t 73) (.t 75))) (.c (.q 14 [] (.mv (.t 76))) .nil)))))) t_lFnCycles_13) k e w := rfl
def t_lFnCycles_15 : X := (.reg [1, 5, 10, 11, 12, 13, 14, 15, 67, 68, 69] (.c (.q 125 [] (.bin .add (.t 69) (.c (.int .i64 1)))) (.c (.q 69 [] (.mv (.t 125))) .nil)))
theorem u_lFnCycles_15 (P : Program) (k : KT) (e : Env) (w : World) : vcK P t_lFnCycles_15 k e w = vcK P (.reg [1, 5, 10, 11, 12, 13, 14, 15, 67, 68, 69] (.c (.q 125 [] (.bin .add (.t 69) (.c (.int .i64 1)))) (.c (.q 69 [] (.mv (.t 125))) .nil))) k e w := rfl
def t_lFnCycles_16 : X := (.seq (.blk 1 (.seq (.reg [1, 5, 10, 11, 12, 13, 14, 15, 17, 67, 68, 69] (.c (.q 71 [] (.ia 1 (.t 67) (.t 69))) (.c (.q 72 [] (.ld (.t 71))) (.c (.q 17 [] (.mv (.t 72))) .nil)))) t_lFnCycles_14)) t_lFnCycles_15)
theorem u_lFnCycles_16 (P : Program) (k : KT) (e : Env) (w : World) : vcK P t_lFnCycles_16 k e w = vcK P (.seq (.blk 1 (.seq (.reg [1, 5, 10, 11, 12, 13, 14, 15, 17, 67, 68, 69] (.c (.q 71 [] (.ia 1 (.t 67) (.t 69))) (.c (.q 72 [] (.ld (.t 71))) (.c (.q 17 [] (.mv (.t 72))) .nil)))) t_lFnCycles_14)) t_lFnCycles_15) k e w := rfl
def t_lFnCycles_17 : X := (.seq (.cond (.t 70) .skip (.exit 0)) t_lFnCycles_16)
theorem u_lFnCycles_17 (P : Program) (k : KT) (e : Env) (w : World) : vcK P t_lFnCycles_17 k e w = vcK P (.seq (.cond (.t 70) .skip (.exit 0)) t_lFnCycles_16) k e w := rfl
def t_lFnCycles_18 : X := (.seq (.reg [1, 5, 10, 11, 12, 13, 14, 15, 67, 68, 69, 70] (.c (.q 70 [] (.bin .lss (.t 69) (.t 68))) .nil)) t_lFnCycles_17)
theorem u_lFnCycles_18 (P : Program) (k : KT) (e : Env) (w : World) : vcK P t_lFnCycles_18 k e w = vcK P (.seq (.reg [1, 5, 10, 11, 12, 13, 14, 15, 67, 68, 69, 70] (.c (.q 70 [] (.bin .lss (.t 69) (.t 68))) .nil)) t_lFnCycles_17) k e w := rfl
def t_lFnCycles_19 : X := (.blk 0 (.loop [14, 15, 69] [1, 5, 10, 11, 12, 13, 67, 68] t_lFnCycles_18))
theorem u_lFnCycles_19 (P : Program) (k : KT) (e : Env) (w : World) : vcK P t_lFnCycles_19 k e w = vcK P (.blk 0 (.loop [14, 15, 69] [1, 5, 10, 11, 12, 13, 67, 68] t_lFnCycles_18)) k e w := rfl
def t_lFnCycles_20 : X := (.cond (.t 129) .skip (.exit 4))
theorem u_lFnCycles_20 (P : Program) (k : KT) (e : Env) (w : World) : vcK P t_lFnCycles_20 k e w = vcK P (.cond (.t 129) .skip (.exit 4)) k e w := rfl
def t_lFnCycles_21 : X := (.cond (.t 139) (.reg [1, 5, 11, 12, 13, 14, 15, 20, 21] (.c (.q 140 [] (.mv (.t 20))) (.c (.q 141 [] (.bin .add (.t 140) (.c (.int .i64 1)))) (.c (.q 20 [] (.mv (.t 141))) .nil)))) .skip)
theorem u_lFnCycles_21 (P : Program) (k : KT) (e : Env) (w : World) : vcK P t_lFnCycles_21 k e w = vcK P (.cond (.t 139) (.reg [1, 5, 11, 12, 13, 14, 15, 20, 21] (.c (.q 140 [] (.mv (.t 20))) (.c (.q 141 [] (.bin .add (.t 140) (.c (.int .i64 1)))) (.c (.q 20 [] (.mv (.t 141))) .nil)))) .skip) k e w := rfl
def t_lFnCycles_22 : X := (.reg [1, 5, 11, 12, 13, 14, 15, 20, 21] (.c (.q 130 [] (.mv (.t 21))) (.c (.q 131 [] (.bin .add (.t 130) (.c (.int .i64 1)))) (.c (.q 21 [] (.mv (.t 131))) .nil))))
theorem u_lFnCycles_22 (P : Program) (k : KT) (e : Env) (w : World) : vcK P t_lFnCycles_22 k e w = vcK P (.reg [1, 5, 11, 12, 13, 14, 15, 20, 21] (.c (.q 130 [] (.mv (.t 21))) (.c (.q 131 [] (.bin .add (.t 130) (.c (.int .i64 1)))) (.c (.q 21 [] (.mv (.t 131))) .nil)))) k e w := rfl
def t_lFnCycles_23 : X := (.seq (.blk 5 (.seq (.reg [1, 5, 11, 12, 13, 14, 15, 20, 21, 139] (.c (.q 132 [] (.mv (.t 5))) (.c (.q 133 [] (.mv (.t 21))) (.c (.q 134 [] (.bin .sub (.t 133) (.c (.int .i64 1)))) (.c (.q 135 [] (.idx (.t 132) (.t 134))) (.c (.q 136 [] (.bin .sub (.t 135) (.c (.int .u8 48)))) (.c (.q 137 [] (.cvi .i64 (.t 136))) (.c (.q 138 [] (.mv (.t 21))) (.c (.q 139 [] (.bin .eql (.t 137) (.t 138))) .nil))))))))) t_lFnCycles_21)) t_lFnCycles_22)
theorem u_lFnCycles_23 (P : Program) (k : KT) (e : Env) (w : World) : vcK P t_lFnCycles_23 k e w = vcK P (.seq (.blk 5 (.seq (.reg [1, 5, 11, 12, 13, 14, 15, 20, 21, 139] (.c (.q 132 [] (.mv (.t 5))) (.c (.q 133 [] (.mv (.t 21))) (.c (.q 134 [] (.bin .sub (.t 133) (.c (.int .i64 1)))) (.c (.q 135 [] (.idx (.t 132) (.t 134))) (.c (.q 136 [] (.bin .sub (.t 135) (.c (.int .u8 48)))) (.c (.q 137 [] (.cvi .i64 (.t 136))) (.c (.q 138 [] (.mv (.t 21))) (.c (.q 139 [] (.bin .eql (.t 137) (.t 138))) .nil))))))))) t_lFnCycles_21)) t_lFnCycles_22) k e w := rfl
def t_lFnCycles_24 : X := (.seq (.seq (.reg [1, 5, 11, 12, 13, 14, 15, 20, 21, 129] (.c (.q 126 [] (.mv (.t 21))) (.c (.q 127 [] (.mv (.t 5))) (.c (.q 128 [] (.len (.t 127))) (.c (.q 129 [] (.bin .leq (.t 126) (.t 128))) .nil))))) t_lFnCycles_20) t_lFnCycles_23)
theorem u_lFnCycles_24 (P : Program) (k : KT) (e : Env) (w : World) : vcK P t_lFnCycles_24 k e w = vcK P (.seq (.seq (.reg [1, 5, 11, 12, 13, 14, 15, 20, 21, 129] (.c (.q 126 [] (.mv (.t 21))) (.c (.q 127 [] (.mv (.t 5))) (.c (.q 128 [] (.len (.t 127))) (.c (.q 129 [] (.bin .leq (.t 126) (.t 128))) .nil))))) t_lFnCycles_20) t_lFnCycles_23) k e w := rfl
def t_lFnCycles_25 : X := (.blk 4 (.loop [20, 21] [1, 5, 11, 12, 13, 14, 15] t_lFnCycles_24))
theorem u_lFnCycles_25 (P : Program) (k : KT) (e : Env) (w : World) : vcK P t_lFnCycles_25 k e w = vcK P (.blk 4 (.loop [20, 21] [1, 5, 11, 12, 13, 14, 15] t_lFnCycles_24)) k e w := rfl
def t_lFnCycles_26 : X := (.cond (.t 162) (.seq (.reg [4] (.c (.q 4 [] (.mv (.c (.bool false)))) .nil)) .ret) .skip)
theorem u_lFnCycles_26 (P : Program) (k : KT) (e : Env) (w : World) : vcK P t_lFnCycles_26 k e w = vcK P (.cond (.t 162) (.seq (.reg [4] (.c (.q 4 [] (.mv (.c (.bool false)))) .nil)) .ret) .skip) k e w := rfl
def t_lFnCycles_27 : X := (.seq (.reg [1, 162] (.c (.q 142 [] (.mv (.t 11))) (.c (.q 143 [] (.not (.t 142))) (.c (.q 144 [] (.mv (.t 143))) (.c (.q 145 [(144, false)] (.mv (.t 13))) (.c (.q 146 [(144, false)] (.not (.t 145))) (.c (.q 147 [] (.pick (.t 144) (.c (.bool true)) (.t 146))) (.c (.q 148 [] (.mv (.t 147))) (.c (.q 149 [(148, false)] (.mv (.t 14))) (.c (.q 150 [(148, false)] (.mv (.t 20))) (.c (.q 151 [(148, false)] (.bin .add (.t 149) (.t 150))) (.c (.q 152 [(148, false)] (.mv (.t 5))) (.c (.q 153 [(148, false)] (.len (.t 152))) (.c (.q 154 [(148, false)] (.bin .neq (.t 151) (.t 153))) (.c (.q 155 [] (.pick (.t 148) (.c (.bool true)) (.t 154))) (.c (.q 156 [] (.mv (.t 155))) (.c (.q 157 [(156, false)] (.mv (.t 12))) (.c (.q 158 [(156, false)] (.mv (.t 15))) (.c (.q 159 [(156, false)] (.bin .rem (.t 158) (.c (.int .i64 2)))) (.c (.q 160 [(156, false)] (.bin .eql (.t 159) (.c (.int .i64 0)))) (.c (.q 161 [(156, false)] (.beq true (.t 157) (.t 160))) (.c (.q 162 [] (.pick (.t 156) (.c (.bool true)) (.t 161))) .nil)))))))))))))))))))))) t_lFnCycles_26)
theorem u_lFnCycles_27 (P : Program) (k : KT) (e : Env) (w : World) : vcK P t_lFnCycles_27 k e w = vcK P (.seq (.reg [1, 162] (.c (.q 142 [] (.mv (.t 11))) (.c (.q 143 [] (.not (.t 142))) (.c (.q 144 [] (.mv (.t 143))) (.c (.q 145 [(144, false)] (.mv (.t 13))) (.c (.q 146 [(144, false)] (.not (.t 145))) (.c (.q 147 [] (.pick (.t 144) (.c (.bool true)) (.t 146))) (.c (.q 148 [] (.mv (.t 147))) (.c (.q 149 [(148, false)] (.mv (.t 14))) (.c (.q 150 [(148, false)] (.mv (.t 20))) (.c (.q 151 [(148, false)] (.bin .add (.t 149) (.t 150))) (.c (.q 152 [(148, false)] (.mv (.t 5))) (.c (.q 153 [(148, false)] (.len (.t 152))) (.c (.q 154 [(148, false)] (.bin .neq (.t 151) (.t 153))) (.c (.q 155 [] (.pick (.t 148) (.c (.bool true)) (.t 154))) (.c (.q 156 [] (.mv (.t 155))) (.c (.q 157 [(156, false)] (.mv (.t 12))) (.c (.q 158 [(156, false)] (.mv (.t 15))) (.c (.q 159 [(156, false)] (.bin .rem (.t 158) (.c (.int .i64 2)))) (.c (.q 160 [(156, false)] (.bin .eql (.t 159) (.c (.int .i64 0)))) (.c (.q 161 [(156, false)] (.beq true (.t 157) (.t 160))) (.c (.q 162 [] (.pick (.t 156) (.c (.bool true)) (.t 161))) .nil)))))))))))))))))))))) t_lFnCycles_26) k e w := rfl
def t_lFnCycles_28 : X := (.seq (.seq (.reg [1, 5, 11, 12, 13, 14, 15, 20, 21] (.c (.q 21 [] (.mv (.c (.int .i64 1)))) .nil)) t_lFnCycles_25) t_lFnCycles_27)
theorem u_lFnCycles_28 (P : Program) (k : KT) (e : Env) (w : World) : vcK P t_lFnCycles_28 k e w = vcK P (.seq (.seq (.reg [1, 5, 11, 12, 13, 14, 15, 20, 21] (.c (.q 21 [] (.mv (.c (.int .i64 1)))) .nil)) t_lFnCycles_25) t_lFnCycles_27) k e w := rfl
def t_lFnCycles_29 : X := (.seq (.reg [1, 5, 11, 12, 13, 14, 15, 20] (.c (.q 20 [] (.mv (.c (.int .i64 0)))) .nil)) t_lFnCycles_28)
theorem u_lFnCycles_29 (P : Program) (k : KT) (e : Env) (w : World) : vcK P t_lFnCycles_29 k e w = vcK P (.seq (.reg [1, 5, 11, 12, 13, 14, 15, 20] (.c (.q 20 [] (.mv (.c (.int .i64 0)))) .nil)) t_lFnCycles_28) k e w := rfl
def t_lFnCycles_30 : X := (.seq (.seq (.reg [1, 5, 10, 11, 12, 13, 14, 15, 67, 68, 69] (.c (.q 67 [] (.mv (.t 6))) (.c (.q 68 [] (.lens (.t 67))) (.c (.q 69 [] (.mv (.c (.int .i64 0)))) .nil)))) t_lFnCycles_19) t_lFnCycles_29)
theorem u_lFnCycles_30 (P : Program) (k : KT) (e : Env) (w : World) : vcK P t_lFnCycles_30 k e w = vcK P (.seq (.seq (.reg [1, 5, 10, 11, 12, 13, 14, 15, 67, 68, 69] (.c (.q 67 [] (.mv (.t 6))) (.c (.q 68 [] (.lens (.t 67))) (.c (.q 69 [] (.mv (.c (.int .i64 0)))) .nil)))) t_lFnCycles_19) t_lFnCycles_29) k e w := rfl
def t_lFnCycles_31 : X := (.seq (.reg [1, 5, 6, 10, 11, 12, 13, 14, 15] (.c (.q 14 [] (.mv (.c (.int .i64 0)))) (.c (.q 15 [] (.mv (.c (.int .i64 0)))) .nil))) t_lFnCycles_30)
theorem u_lFnCycles_31 (P : Program) (k : KT) (e : Env) (w : World) : vcK P t_lFnCycles_31 k e w = vcK P (.seq (.reg [1, 5, 6, 10, 11, 12, 13, 14, 15] (.c (.q 14 [] (.mv (.c (.int .i64 0)))) (.c (.q 15 [] (.mv (.c (.int .i64 0)))) .nil))) t_lFnCycles_30) k e w := rfl
def t_lFnCycles_32 : X := (.seq (.reg [1, 5, 6, 10, 11, 12, 13] (.c (.q 63 [] (.mv (.t 5))) (.c (.e (some 64) [] (.call false 37 [(.t 63)])) (.c (.q 62 [] (.mv (.t 64))) (.c (.q 65 [] (.ext 0 (.t 62))) (.c (.q 66 [] (.ext 1 (.t 62))) (.c (.q 12 [] (.mv (.t 65))) (.c (.q 13 [] (.mv (.t 66))) .nil)))))))) t_lFnCycles_31)
theorem u_lFnCycles_32 (P : Program) (k : KT) (e : Env) (w : World) : vcK P t_lFnCycles_32 k e w = vcK P (.seq (.reg [1, 5, 6, 10, 11, 12, 13] (.c (.q 63 [] (.mv (.t 5))) (.c (.e (some 64) [] (.call false 37 [(.t 63)])) (.c (.q 62 [] (.mv (.t 64))) (.c (.q 65 [] (.ext 0 (.t 62))) (.c (.q 66 [] (.ext 1 (.t 62))) (.c (.q 12 [] (.mv (.t 65))) (.c (.q 13 [] (.mv (.t 66))) .nil)))))))) t_lFnCycles_31) k e w := rfl
def t_lFnCycles_33 : X := (.cond (.t 56) (.seq (.reg [1, 5, 6, 10, 11] (.c (.q 58 [] (.mv (.t 5))) (.c (.e (some 59) [] (.call false 35 [(.t 58)])) (.c (.q 57 [] (.mv (.t 59))) (.c (.q 60 [] (.ext 0 (.t 57))) (.c (.q 61 [] (.ext 1 (.t 57))) (.c (.q 10 [] (.mv (.t 60))) (.c (.q 11 [] (.mv (.t 61))) .nil)))))))) t_lFnCycles_32) .skip)
theorem u_lFnCycles_33 (P : Program) (k : KT) (e : Env) (w : World) : vcK P t_lFnCycles_33 k e w = vcK P (.cond (.t 56) (.seq (.reg [1, 5, 6, 10, 11] (.c (.q 58 [] (.mv (.t 5))) (.c (.e (some 59) [] (.call false 35 [(.t 58)])) (.c (.q 57 [] (.mv (.t 59))) (.c (.q 60 [] (.ext 0 (.t 57))) (.c (.q 61 [] (.ext 1 (.t 57))) (.c (.q 10 [] (.mv (.t 60))) (.c (.q 11 [] (.mv (.t 61))) .nil)))))))) t_lFnCycles_32) .skip) k e w := rfl
def t_lFnCycles_34 : X := (.cond (.t 187) (.seq (.reg [4] (.c (.q 4 [] (.mv (.c (.bool false)))) .nil)) .ret) .skip)
theorem u_lFnCycles_34 (P : Program) (k : KT) (e : Env) (w : World) : vcK P t_lFnCycles_34 k e w = vcK P (.cond (.t 187) (.seq (.reg [4] (.c (.q 4 [] (.mv (.c (.bool false)))) .nil)) .ret) .skip) k e w := rfl
def t_lFnCycles_35 : X := (.seq (.reg [4] (.c (.q 201 [] (.mv (.t 29))) (.c (.q 202 [] (.mv (.t 201))) (.c (.q 203 [(202, true)] (.mv (.t 28))) (.c (.q 204 [(202, true)] (.mv (.t 23))) (.c (.q 205 [(202, true)] (.bin .eql (.t 203) (.t 204))) (.c (.q 206 [] (.pick (.t 202) (.t 205) (.c (.bool false)))) (.c (.q 207 [] (.mv (.t 206))) (.c (.q 208 [(207, true)] (.mv (.t 31))) (.c (.q 209 [(207, true)] (.not (.t 208))) (.c (.q 210 [(207, true)] (.mv (.t 209))) (.c (.q 211 [(210, false), (207, true)] (.mv (.t 24))) (.c (.q 212 [(210, false), (207, true)] (.mv (.t 30))) (.c (.q 213 [(210, false), (207, true)] (.bin .lss (.t 211) (.t 212))) (.c (.q 214 [(207, true)] (.pick (.t 210) (.c (.bool true)) (.t 213))) (.c (.q 215 [] (.pick (.t 207) (.t 214) (.c (.bool false)))) (.c (.q 4 [] (.mv (.t 215))) .nil))))))))))))))))) .ret)
theorem u_lFnCycles_35 (P : Program) (k : KT) (e : Env) (w : World) : vcK P t_lFnCycles_35 k e w = vcK P (.seq (.reg [4] (.c (.q 201 [] (.mv (.t 29))) (.c (.q 202 [] (.mv (.t 201))) (.c (.q 203 [(202, true)] (.mv (.t 28))) (.c (.q 204 [(202, true)] (.mv (.t 23))) (.c (.q 205 [(202, true)] (.bin .eql (.t 203) (.t 204))) (.c (.q 206 [] (.pick (.t 202) (.t 205) (.c (.bool false)))) (.c (.q 207 [] (.mv (.t 206))) (.c (.q 208 [(207, true)] (.mv (.t 31))) (.c (.q 209 [(207, true)] (.not (.t 208))) (.c (.q 210 [(207, true)] (.mv (.t 209))) (.c (.q 211 [(210, false), (207, true)] (.mv (.t 24))) (.c (.q 212 [(210, false), (207, true)] (.mv (.t 30))) (.c (.q 213 [(210, false), (207, true)] (.bin .lss (.t 211) (.t 212))) (.c (.q 214 [(207, true)] (.pick (.t 210) (.c (.bool true)) (.t 213))) (.c (.q 215 [] (.pick (.t 207) (.t 214) (.c (.bool false)))) (.c (.q 4 [] (.mv (.t 215))) .nil))))))))))))))))) .ret) k e w := rfl
def t_lFnCycles_36 : X := (.seq (.reg [23, 24, 28, 29, 30, 31] (.c (.q 195 [] (.mv (.t 22))) (.c (.q 196 [] (.mv (.t 23))) (.c (.q 197 [] (.bin .add (.t 196) (.c (.int .i64 1)))) (.c (.e (some 198) [] (.call false 47 [(.t 195), (.t 197)])) (.c (.q 194 [] (.mv (.t 198))) (.c (.q 199 [] (.ext 0 (.t 194))) (.c (.q 200 [] (.ext 1 (.t 194))) (.c (.q 30 [] (.mv (.t 199))) (.c (.q 31 [] (.mv (.t 200))) .nil)))))))))) t_lFnCycles_35)
theorem u_lFnCycles_36 (P : Program) (k : KT) (e : Env) (w : World) : vcK P t_lFnCycles_36 k e w = vcK P (.seq (.reg [23, 24, 28, 29, 30, 31] (.c (.q 195 [] (.mv (.t 22))) (.c (.q 196 [] (.mv (.t 23))) (.c (.q 197 [] (.bin .add (.t 196) (.c (.int .i64 1)))) (.c (.e (some 198) [] (.call false 47 [(.t 195), (.t 197)])) (.c (.q 194 [] (.mv (.t 198))) (.c (.q 199 [] (.ext 0 (.t 194))) (.c (.q 200 [] (.ext 1 (.t 194))) (.c (.q 30 [] (.mv (.t 199))) (.c (.q 31 [] (.mv (.t 200))) .nil)))))))))) t_lFnCycles_35) k e w := rfl
def t_lFnCycles_37 : X := (.cond (.t 188) (.seq (.reg [22, 23, 24, 28, 29] (.c (.q 190 [] (.mv (.t 24))) (.c (.e (some 191) [] (.call false 49 [(.t 190)])) (.c (.q 189 [] (.mv (.t 191))) (.c (.q 192 [] (.ext 0 (.t 189))) (.c (.q 193 [] (.ext 1 (.t 189))) (.c (.q 28 [] (.mv (.t 192))) (.c (.q 29 [] (.mv (.t 193))) .nil)))))))) t_lFnCycles_36) .skip)
theorem u_lFnCycles_37 (P : Program) (k : KT) (e : Env) (w : World) : vcK P t_lFnCycles_37 k e w = vcK P (.cond (.t 188) (.seq (.reg [22, 23, 24, 28, 29] (.c (.q 190 [] (.mv (.t 24))) (.c (.e (some 191) [] (.call false 49 [(.t 190)])) (.c (.q 189 [] (.mv (.t 191))) (.c (.q 192 [] (.ext 0 (.t 189))) (.c (.q 193 [] (.ext 1 (.t 189))) (.c (.q 28 [] (.mv (.t 192))) (.c (.q 29 [] (.mv (.t 193))) .nil)))))))) t_lFnCycles_36) .skip) k e w := rfl
def t_lFnCycles_38 : X := (.seq (.reg [4] (.c (.q 4 [] (.mv (.c (.bool true)))) .nil)) .ret)
theorem u_lFnCycles_38 (P : Program) (k : KT) (e : Env) (w : World) : vcK P t_lFnCycles_38 k e w = vcK P (.seq (.reg [4] (.c (.q 4 [] (.mv (.c (.bool true)))) .nil)) .ret) k e w := rfl
def t_lFnCycles_39 : X := (.seq (.seq (.reg [22, 23, 24, 188] (.c (.q 188 [] (.mv (.t 25))) .nil)) t_lFnCycles_37) t_lFnCycles_38)
theorem u_lFnCycles_39 (P : Program) (k : KT) (e : Env) (w : World) : vcK P t_lFnCycles_39 k e w = vcK P (.seq (.seq (.reg [22, 23, 24, 188] (.c (.q 188 [] (.mv (.t 25))) .nil)) t_lFnCycles_37) t_lFnCycles_38) k e w := rfl
def t_lFnCycles_40 : X := (.seq (.seq (.reg [22, 23, 24, 25, 187] (.c (.q 180 [] (.mv (.t 25))) (.c (.q 181 [] (.mv (.t 27))) (.c (.q 182 [] (.beq true (.t 180) (.t 181))) (.c (.q 183 [] (.mv (.t 182))) (.c (.q 184 [(183, false)] (.mv (.t 24))) (.c (.q 185 [(183, false)] (.mv (.t 26))) (.c (.q 186 [(183, false)] (.bin .neq (.t 184) (.t 185))) (.c (.q 187 [] (.pick (.t 183) (.c (.bool true)) (.t 186))) .nil))))))))) t_lFnCycles_34) t_lFnCycles_39)
theorem u_lFnCycles_40 (P : Program) (k : KT) (e : Env) (w : World) : vcK P t_lFnCycles_40 k e w = vcK P (.seq (.seq (.reg [22, 23, 24, 25, 187] (.c (.q 180 [] (.mv (.t 25))) (.c (.q 181 [] (.mv (.t 27))) (.c (.q 182 [] (.beq true (.t 180) (.t 181))) (.c (.q 183 [] (.mv (.t 182))) (.c (.q 184 [(183, false)] (.mv (.t 24))) (.c (.q 185 [(183, false)] (.mv (.t 26))) (.c (.q 186 [(183, false)] (.bin .neq (.t 184) (.t 185))) (.c (.q 187 [] (.pick (.t 183) (.c (.bool true)) (.t 186))) .nil))))))))) t_lFnCycles_34) t_lFnCycles_39) k e w := rfl
def t_lFnCycles_41 : X := (.seq (.reg [22, 23, 24, 25, 26, 27] (.c (.q 175 [] (.mv (.t 22))) (.c (.q 176 [] (.mv (.t 23))) (.c (.e (some 177) [] (.call false 48 [(.t 175), (.t 176)])) (.c (.q 174 [] (.mv (.t 177))) (.c (.q 178 [] (.ext 0 (.t 174))) (.c (.q 179 [] (.ext 1 (.t 174))) (.c (.q 26 [] (.mv (.t 178))) (.c (.q 27 [] (.mv (.t 179))) .nil))))))))) t_lFnCycles_40)
theorem u_lFnCycles_41 (P : Program) (k : KT) (e : Env) (w : World) : vcK P t_lFnCycles_41 k e w = vcK P (.seq (.reg [22, 23, 24, 25, 26, 27] (.c (.q 175 [] (.mv (.t 22))) (.c (.q 176 [] (.mv (.t 23))) (.c (.e (some 177) [] (.call false 48 [(.t 175), (.t 176)])) (.c (.q 174 [] (.mv (.t 177))) (.c (.q 178 [] (.ext 0 (.t 174))) (.c (.q 179 [] (.ext 1 (.t 174))) (.c (.q 26 [] (.mv (.t 178))) (.c (.q 27 [] (.mv (.t 179))) .nil))))))))) t_lFnCycles_40) k e w := rfl
def t_lFnCycles_42 : X := (.seq (.reg [22, 23, 24, 25] (.c (.q 169 [] (.mv (.t 22))) (.c (.q 170 [] (.mv (.t 23))) (.c (.e (some 171) [] (.call false 47 [(.t 169), (.t 170)])) (.c (.q 168 [] (.mv (.t 171))) (.c (.q 172 [] (.ext 0 (.t 168))) (.c (.q 173 [] (.ext 1 (.t 168))) (.c (.q 24 [] (.mv (.t 172))) (.c (.q 25 [] (.mv (.t 173))) .nil))))))))) t_lFnCycles_41)
theorem u_lFnCycles_42 (P : Program) (k : KT) (e : Env) (w : World) : vcK P t_lFnCycles_42 k e w = vcK P (.seq (.reg [22, 23, 24, 25] (.c (.q 169 [] (.mv (.t 22))) (.c (.q 170 [] (.mv (.t 23))) (.c (.e (some 171) [] (.call false 47 [(.t 169), (.t 170)])) (.c (.q 168 [] (.mv (.t 171))) (.c (.q 172 [] (.ext 0 (.t 168))) (.c (.q 173 [] (.ext 1 (.t 168))) (.c (.q 24 [] (.mv (.t 172))) (.c (.q 25 [] (.mv (.t 173))) .nil))))))))) t_lFnCycles_41) k e w := rfl
def t_lFnCycles_43 : X := (.seq (.reg [22, 23] (.c (.q 164 [] (.mv (.t 1))) (.c (.e (some 165) [] (.call false 46 [(.t 164)])) (.c (.q 163 [] (.mv (.t 165))) (.c (.q 166 [] (.ext 0 (.t 163))) (.c (.q 167 [] (.ext 1 (.t 163))) (.c (.q 22 [] (.mv (.t 166))) (.c (.q 23 [] (.mv (.t 167))) .nil)))))))) t_lFnCycles_42)
theorem u_lFnCycles_43 (P : Program) (k : KT) (e : Env) (w : World) : vcK P t_lFnCycles_43 k e w = vcK P (.seq (.reg [22, 23] (.c (.q 164 [] (.mv (.t 1))) (.c (.e (some 165) [] (.call false 46 [(.t 164)])) (.c (.q 163 [] (.mv (.t 165))) (.c (.q 166 [] (.ext 0 (.t 163))) (.c (.q 167 [] (.ext 1 (.t 163))) (.c (.q 22 [] (.mv (.t 166))) (.c (.q 23 [] (.mv (.t 167))) .nil)))))))) t_lFnCycles_42) k e w := rfl
def t_lFnCycles_44 : X := (.seq (.seq (.reg [1, 5, 6, 56] (.c (.q 56 [] (.mv (.t 7))) .nil)) t_lFnCycles_33) t_lFnCycles_43)
theorem u_lFnCycles_44 (P : Program) (k : KT) (e : Env) (w : World) : vcK P t_lFnCycles_44 k e w = vcK P (.seq (.seq (.reg [1, 5, 6, 56] (.c (.q 56 [] (.mv (.t 7))) .nil)) t_lFnCycles_33) t_lFnCycles_43) k e w := rfl
def t_lFnCycles_45 : X := (.seq (.seq (.reg [1, 5, 6, 7, 55] (.c (.q 47 [] (.mv (.t 7))) (.c (.q 48 [] (.mv (.t 9))) (.c (.q 49 [] (.beq true (.t 47) (.t 48))) (.c (.q 50 [] (.mv (.t 49))) (.c (.q 51 [(50, false)] (.mv (.t 6))) (.c (.q 52 [(50, false)] (.mv (.t 8))) (.c (.e (some 53) [(50, false)] (.call false 45 [(.t 51), (.t 52)])) (.c (.q 54 [(50, false)] (.not (.t 53))) (.c (.q 55 [] (.pick (.t 50) (.c (.bool true)) (.t 54))) .nil)))))))))) t_lFnCycles_2) t_lFnCycles_44)
theorem u_lFnCycles_45 (P : Program) (k : KT) (e : Env) (w : World) : vcK P t_lFnCycles_45 k e w = vcK P (.seq (.seq (.reg [1, 5, 6, 7, 55] (.c (.q 47 [] (.mv (.t 7))) (.c (.q 48 [] (.mv (.t 9))) (.c (.q 49 [] (.beq true (.t 47) (.t 48))) (.c (.q 50 [] (.mv (.t 49))) (.c (.q 51 [(50, false)] (.mv (.t 6))) (.c (.q 52 [(50, false)] (.mv (.t 8))) (.c (.e (some 53) [(50, false)] (.call false 45 [(.t 51), (.t 52)])) (.c (.q 54 [(50, false)] (.not (.t 53))) (.c (.q 55 [] (.pick (.t 50) (.c (.bool true)) (.t 54))) .nil)))))))))) t_lFnCycles_2) t_lFnCycles_44) k e w := rfl
def t_lFnCycles_46 : X := (.seq (.reg [1, 5, 6, 7, 8, 9] (.c (.q 43 [] (.mv (.t 5))) (.c (.e (some 44) [] (.call false 44 [(.t 43)])) (.c (.q 42 [] (.mv (.t 44))) (.c (.q 45 [] (.ext 0 (.t 42))) (.c (.q 46 [] (.ext 1 (.t 42))) (.c (.q 8 [] (.mv (.t 45))) (.c (.q 9 [] (.mv (.t 46))) .nil)))))))) t_lFnCycles_45)
theorem u_lFnCycles_46 (P : Program) (k : KT) (e : Env) (w : World) : vcK P t_lFnCycles_46 k e w = vcK P (.seq (.reg [1, 5, 6, 7, 8, 9] (.c (.q 43 [] (.mv (.t 5))) (.c (.e (some 44) [] (.call false 44 [(.t 43)])) (.c (.q 42 [] (.mv (.t 44))) (.c (.q 45 [] (.ext 0 (.t 42))) (.c (.q 46 [] (.ext 1 (.t 42))) (.c (.q 8 [] (.mv (.t 45))) (.c (.q 9 [] (.mv (.t 46))) .nil)))))))) t_lFnCycles_45) k e w := rfl
def t_lFnCycles_47 : X := (.seq (.reg [1, 5, 6, 7] (.c (.q 38 [] (.mv (.t 5))) (.c (.e (some 39) [] (.call false 43 [(.t 38)])) (.c (.q 37 [] (.mv (.t 39))) (.c (.q 40 [] (.ext 0 (.t 37))) (.c (.q 41 [] (.ext 1 (.t 37))) (.c (.q 6 [] (.mv (.t 40))) (.c (.q 7 [] (.mv (.t 41))) .nil)))))))) t_lFnCycles_46)
theorem u_lFnCycles_47 (P : Program) (k : KT) (e : Env) (w : World) : vcK P t_lFnCycles_47 k e w = vcK P (.seq (.reg [1, 5, 6, 7] (.c (.q 38 [] (.mv (.t 5))) (.c (.e (some 39) [] (.call false 43 [(.t 38)])) (.c (.q 37 [] (.mv (.t 39))) (.c (.q 40 [] (.ext 0 (.t 37))) (.c (.q 41 [] (.ext 1 (.t 37))) (.c (.q 6 [] (.mv (.t 40))) (.c (.q 7 [] (.mv (.t 41))) .nil)))))))) t_lFnCycles_46) k e w := rfl
def t_lFnCycles_48 : X := (.seq (.reg [1, 5] (.c (.q 35 [] (.mv (.t 0))) (.c (.e (some 36) [] (.call false 42 [(.t 35)])) (.c (.q 5 [] (.mv (.t 36))) .nil)))) t_lFnCycles_47)
theorem u_lFnCycles_48 (P : Program) (k : KT) (e : Env) (w : World) : vcK P t_lFnCycles_48 k e w = vcK P (.seq (.reg [1, 5] (.c (.q 35 [] (.mv (.t 0))) (.c (.e (some 36) [] (.call false 42 [(.t 35)])) (.c (.q 5 [] (.mv (.t 36))) .nil)))) t_lFnCycles_47) k e w := rfl
def t_lFnCycles_49 : X := (.seq (.seq (.reg [0, 1, 34] (.c (.q 32 [] (.mv (.t 0))) (.c (.q 33 [] (.mv (.t 1))) (.c (.e (some 34) [] (.call false 20 [(.t 32), (.t 33)])) .nil)))) t_lFnCycles_1) t_lFnCycles_48)
theorem u_lFnCycles_49 (P : Program) (k : KT) (e : Env) (w : World) : vcK P t_lFnCycles_49 k e w = vcK P (.seq (.seq (.reg [0, 1, 34] (.c (.q 32 [] (.mv (.t 0))) (.c (.q 33 [] (.mv (.t 1))) (.c (.e (some 34) [] (.call false 20 [(.t 32), (.t 33)])) .nil)))) t_lFnCycles_1) t_lFnCycles_48) k e w := rfl
def x_lFnCycles : X := (.seq (.reg [0, 1] (.c (.q 4 [] (.mv (.c (.bool false)))) .nil)) t_lFnCycles_49)
theorem u_lFnCycles (P : Program) (k : KT) (e : Env) (w : World) : vcK P x_lFnCycles k e w = vcK P (.seq (.reg [0, 1] (.c (.q 4 [] (.mv (.c (.bool false)))) .nil)) t_lFnCycles_49) k e w := rfl
def r_lFnCycles : List XO := [(.mv (.t 4))]
theorem c_lFnCycles : convF Try.prog [95, 96, 97, 107, 117, 118, 128, 129, 134, 144, 145, 153, 156, 174, 175, 182] Try.f6 [([0, 1], []), ([0, 1, 34], []), ([4], []), ([1, 5], []), ([1, 5, 6, 7], []), ([1, 5, 6, 7, 8, 9], []), ([1, 5, 6, 7, 55], []), ([4], []), ([1, 5, 6, 56], []), ([1, 5, 6, 10, 11], []), ([1, 5, 6, 10, 11, 12, 13], []), ([1, 5, 6, 10, 11, 12, 13, 14, 15], []), ([1, 5, 10, 11, 12, 13, 14, 15, 67, 68, 69], []), ([14, 15, 69], [1, 5, 10, 11, 12, 13, 67, 68]), ([1, 5, 10, 11, 12, 13, 14, 15, 67, 68, 69, 70], []), ([1, 5, 10, 11, 12, 13, 14, 15, 17, 67, 68, 69], []), ([1, 5, 10, 11, 12, 13, 14, 15, 17, 67, 68, 69], []), ([1, 5, 10, 11, 12, 13, 14, 15, 17, 67, 68, 69], []), ([1, 5, 10, 11, 12, 13, 14, 15, 17, 67, 68, 69, 91], []), ([4], []), ([1, 5, 10, 11, 12, 13, 14, 15, 17, 67, 68, 69, 92, 93, 94], []), ([94], [1, 5, 10, 11, 12, 13, 14, 15, 17, 67, 68, 69, 92, 93]), ([1, 5, 10, 11, 12, 13, 14, 15, 17, 67, 68, 69, 92, 93, 94, 95], []), ([1, 5, 10, 11, 12, 13, 14, 15, 17, 18, 19, 67, 68, 69, 92, 93, 94], []), ([1, 5, 10, 11, 12, 13, 14, 15, 17, 67, 68, 69, 92, 93, 94, 123], []), ([4], []), ([1, 5, 10, 11, 12, 13, 14, 15, 17, 67, 68, 69, 92, 93, 94], []), ([1, 5, 10, 11, 12, 13, 14, 15, 67, 68, 69], []), ([1, 5, 11, 12, 13, 14, 15, 20], []), ([1, 5, 11, 12, 13, 14, 15, 20, 21], []), ([20, 21], [1, 5, 11, 12, 13, 14, 15]), ([1, 5, 11, 12, 13, 14, 15, 20, 21, 129], []), ([1, 5, 11, 12, 13, 14, 15, 20, 21, 139], []), ([1, 5, 11, 12, 13, 14, 15, 20, 21], []), ([1, 5, 11, 12, 13, 14, 15, 20, 21], []), ([1, 162], []), ([4], []), ([22, 23], []), ([22, 23, 24, 25], []), ([22, 23, 24, 25, 26, 27], []), ([22, 23, 24, 25, 187], []), ([4], []), ([22, 23, 24, 188], []), ([22, 23, 24, 28, 29], []), ([23, 24, 28, 29, 30, 31], []), ([4], []), ([4], [])] = some (x_lFnCycles, r_lFnCycles) := by kernel_rfl
def us_lFnCycles := And.intro @u_lFnCycles (And.intro @u_lFnCycles_1 (And.intro @u_lFnCycles_2 (And.intro @u_lFnCycles_3 (And.intro @u_lFnCycles_4 (And.intro @u_lFnCycles_5 (And.intro @u_lFnCycles_6 (And.intro @u_lFnCycles_7 (And.intro @u_lFnCycles_8 (And.intro @u_lFnCycles_9 (And.intro @u_lFnCycles_10 (And.intro @u_lFnCycles_11 (And.intro @u_lFnCycles_12 (And.intro @u_lFnCycles_13 (And.intro @u_lFnCycles_14 (And.intro @u_lFnCycles_15 (And.intro @u_lFnCycles_16 (And.intro @u_lFnCycles_17 (And.intro @u_lFnCycles_18 (And.intro @u_lFnCycles_19 (And.intro @u_lFnCycles_20 (And.intro @u_lFnCycles_21 (And.intro @u_lFnCycles_22 (And.intro @u_lFnCycles_23 (And.intro @u_lFnCycles_24 (And.intro @u_lFnCycles_25 (And.intro @u_lFnCycles_26 (And.intro @u_lFnCycles_27 (And.intro @u_lFnCycles_28 (And.intro @u_lFnCycles_29 (And.intro @u_lFnCycles_30 (And.intro @u_lFnCycles_31 (And.intro @u_lFnCycles_32 (And.intro @u_lFnCycles_33 (And.intro @u_lFnCycles_34 (And.intro @u_lFnCycles_35 (And.intro @u_lFnCycles_36 (And.intro @u_lFnCycles_37 (And.intro @u_lFnCycles_38 (And.intro @u_lFnCycles_39 (And.intro @u_lFnCycles_40 (And.intro @u_lFnCycles_41 (And.intro @u_lFnCycles_42 (And.intro @u_lFnCycles_43 (And.intro @u_lFnCycles_44 (And.intro @u_lFnCycles_45 (And.intro @u_lFnCycles_46 (And.intro @u_lFnCycles_47 (And.intro @u_lFnCycles_48 @u_lFnCycles_49))))))))))))))))))))))))))))))))))))))))))))))))

theorem rowV_two (n k : Int) : ∃ x b, rowV n k = .tuple ⟨[S x, .bool b]⟩ := by unfold rowV; split <;> exact ⟨_, _, rfl⟩
theorem cycI_in {a : List UInt8} (h : IsRow a) {c : List Int} (hc : c ∈ cycI a) : ∃ m, m < a.length ∧ 2 ≤ per a m ∧ c = (orbit a m).map fun k => ((k + 1 : Nat) : Int) := by
  simp only [cycI, cycL, List.mem_map, List.mem_filter, decide_eq_true_eq] at hc
  obtain ⟨_, ⟨m, ⟨hm, hp⟩, rfl⟩, rfl⟩ := hc
  exact ⟨m, (mins_lt hm).1, hp, rfl⟩
theorem cycI_len {a : List UInt8} (h : IsRow a) : (cycI a).length ≤ 8 := by
  rw [← cycGo_all]; have := cycGo_len a a.length; have := h.1; omega
theorem cycI_nth {a : List UInt8} (h : IsRow a) {i : Nat} (hi : i < (cycI a).length) : ∃ m, m < a.length ∧ 2 ≤ per a m ∧ ((cycI a).getD i []).length = per a m ∧ ∀ k, k < per a m → ((cycI a).getD i []).getD k 0 = ((itb a k m + 1 : Nat) : Int) := by
  obtain ⟨m, hm, hp, e⟩ := cycI_in h (getD_mem [] hi)
  refine ⟨m, hm, hp, by rw [e]; simp [orbit], fun k hk => ?_⟩
  rw [e, orbit, List.map_map, getD_map _ 0 _ _ _ (by simpa using hk), getD_range _ _ _ hk]
  rfl
def mvN (a : List UInt8) (i : Nat) : Nat := (((cycI a).take i).map List.length).sum
def swN (a : List UInt8) (i : Nat) : Nat := (((cycI a).take i).map fun c => c.length - 1).sum
theorem mvN_succ (a : List UInt8) (i : Nat) (hi : i < (cycI a).length) : mvN a (i + 1) = mvN a i + ((cycI a).getD i []).length := by
  unfold mvN
  rw [List.take_add_one, List.getElem?_eq_getElem hi, List.getD_eq_getElem?_getD, List.getElem?_eq_getElem hi, List.map_append, List.sum_append]
  rfl
theorem swN_succ (a : List UInt8) (i : Nat) (hi : i < (cycI a).length) : swN a (i + 1) = swN a i + (((cycI a).getD i []).length - 1) := by
  unfold swN
  rw [List.take_add_one, List.getElem?_eq_getElem hi, List.getD_eq_getElem?_getD, List.getElem?_eq_getElem hi, List.map_append, List.sum_append]
  rfl
theorem mvN_all {a : List UInt8} (h : IsRow a) : mvN a (cycI a).length + stayN a = a.length := by
  have := (cyc_sum h).1
  rw [mvN, List.take_length, cycI, List.map_map, show (List.length ∘ fun c : List Nat => c.map fun k => ((k + 1 : Nat) : Int)) = List.length from funext fun c => by simp]
  exact this
theorem swN_all {a : List UInt8} (h : IsRow a) : evB (invL a) = decide (swN a (cycI a).length % 2 = 0) := by
  have := sign_cyc h
  rw [swN, List.take_length, cycI, List.map_map, show ((fun c : List Int => c.length - 1) ∘ fun c : List Nat => c.map fun k => ((k + 1 : Nat) : Int)) = (fun c => c.length - 1) from funext fun c => by simp]
  unfold evB
  rw [this]
def stN (a : List UInt8) (i : Nat) : Nat := ((List.range i).filter fun j => decide (bell a j = j)).length
theorem stN_succ (a : List UInt8) (i : Nat) : stN a (i + 1) = stN a i + if bell a i = i then 1 else 0 := by
  unfold stN
  rw [List.range_succ, List.filter_append, List.length_append]
  by_cases h : bell a i = i <;> simp [h]
theorem stN_le (a : List UInt8) (i : Nat) : stN a i ≤ i := by
  have := List.length_filter_le (fun j => decide (bell a j = j)) (List.range i)
  simpa [stN] using this
set_option maxHeartbeats 2000000 in
theorem lFnCycles_ok (v u : Value) (code more : List UInt8) (hcl : code.length ≤ 9223372036854775807) (hml : more.length ≤ 9223372036854775807) (w : World) (h : Sq fU 1 w v code) (h' : Sq fU 1 w u more) : Fn 6 [v, u] w (fun r _ => r = .bool true) := by
  (refine callsV_of mix Try.func6 c_lFnCycles ?_; simp only [↓vsd, vsn, gW, qd, qv, ev, pick, argE, List.map_cons, List.map_nil, Option.map_some, Option.map_none, zipE, List.cons_append, List.nil_append, ne_eq, eq_self, forall_const, implies_true, if_true, if_false, reduceIte, List.cons.injEq, reduceCtorEq, Nat.reduceEqDiff, List.length_nil, List.length_cons, Nat.reduceAdd, Nat.reduceLT, List.set_cons_zero, List.set_cons_succ, ↓us_lFnCycles, r_lFnCycles])
  refine m_call (lbig_ok v u code more hcl hml _ h h') ?_
  rintro _ w1 hx1 rfl
  simp only [↓vsd, vsn, gW, qd, qv, ev, pick, argE, List.map_cons, List.map_nil, Option.map_some, Option.map_none, zipE, List.cons_append, List.nil_append, ne_eq, eq_self, forall_const, implies_true, if_true, if_false, reduceIte, List.cons.injEq, reduceCtorEq, Nat.reduceEqDiff, List.length_nil, List.length_cons, Nat.reduceAdd, Nat.reduceLT, List.set_cons_zero, List.set_cons_succ, ↓us_lFnCycles, r_lFnCycles]
  refine ⟨fun _ => hx1, fun hsm => ?_⟩
  have hlen : code.length ≤ 1048576 ∧ more.length ≤ 1048576 := by omega
  refine m_call (sDrawCyclesOf_ok v code hlen.1 _ (h.ext hx1)) ?_
  rintro _ w2 hx2 ⟨a, rfl, ha10⟩
  simp only [↓vsd, vsn, gW, qd, qv, ev, pick, argE, List.map_cons, List.map_nil, Option.map_some, Option.map_none, zipE, List.cons_append, List.nil_append, ne_eq, eq_self, forall_const, implies_true, if_true, if_false, reduceIte, List.cons.injEq, reduceCtorEq, Nat.reduceEqDiff, List.length_nil, List.length_cons, Nat.reduceAdd, Nat.reduceLT, List.set_cons_zero, List.set_cons_succ, ↓us_lFnCycles, r_lFnCycles]
  refine m_call (iCyclesOf_ok a _) ?_
  rintro _ w3 hx3 ⟨o3, rfl, hn3⟩
  simp only [↓vsd, vsn, gW, qd, qv, ev, pick, argE, List.map_cons, List.map_nil, Option.map_some, Option.map_none, zipE, List.cons_append, List.nil_append, ne_eq, eq_self, forall_const, implies_true, if_true, if_false, reduceIte, List.cons.injEq, reduceCtorEq, Nat.reduceEqDiff, List.length_nil, List.length_cons, Nat.reduceAdd, Nat.reduceLT, List.set_cons_zero, List.set_cons_succ, ↓us_lFnCycles, r_lFnCycles]
  refine m_call (sCyclesOf_ok a _) ?_
  rintro _ w4 hx4 ⟨o4, rfl, hn4⟩
  simp only [↓vsd, vsn, gW, qd, qv, ev, pick, argE, List.map_cons, List.map_nil, Option.map_some, Option.map_none, zipE, List.cons_append, List.nil_append, ne_eq, eq_self, forall_const, implies_true, if_true, if_false, reduceIte, List.cons.injEq, reduceCtorEq, Nat.reduceEqDiff, List.length_nil, List.length_cons, Nat.reduceAdd, Nat.reduceLT, List.set_cons_zero, List.set_cons_succ, ↓us_lFnCycles, r_lFnCycles]
  have hll : ∀ x ∈ (if IsRow a then cycI a else []), x.length ≤ 1000000 := fun x hx => by
    split at hx
    · rename_i hr
      obtain ⟨m, hm, _, rfl⟩ := cycI_in hr hx
      have := (per_is hr hm).2.1
      simp [orbit]; omega
    · simp at hx
  have hl8 : (if IsRow a then cycI a else []).length ≤ 8 := by
    split
    · rename_i hr; exact cycI_len hr
    · simp
  refine m_call (lsameLists_ok o3 o4 _ _ _ (hn3.sq.ext hx4) hn4.sq (by omega) hll) ?_
  rintro _ w5 hx5 rfl
  have hx15 := (((hx1.trans hx2).trans hx3).trans hx4).trans hx5
  obtain ⟨n, ho⟩ : ∃ n, IsRow a → IsOrd a n := by
    by_cases ha : IsRow a
    · obtain ⟨n, hn⟩ := ord_exists ha; exact ⟨n, fun _ => hn⟩
    · exact ⟨0, fun h => absurd h ha⟩
  by_cases ha : IsRow a
  · simp only [↓vsd, vsn, gW, qd, qv, ev, pick, argE, List.map_cons, List.map_nil, Option.map_some, Option.map_none, zipE, List.cons_append, List.nil_append, ne_eq, eq_self, forall_const, implies_true, if_true, if_false, reduceIte, List.cons.injEq, reduceCtorEq, Nat.reduceEqDiff, List.length_nil, List.length_cons, Nat.reduceAdd, Nat.reduceLT, List.set_cons_zero, List.set_cons_succ, ↓us_lFnCycles, r_lFnCycles, ha]
    refine m_call (iOrderOf_ok a n ho _) ?_
    rintro r6 w6 hx6 hr6
    rw [ordV, if_pos ha] at hr6
    subst hr6
    simp only [↓vsd, vsn, gW, qd, qv, ev, pick, argE, List.map_cons, List.map_nil, Option.map_some, Option.map_none, zipE, List.cons_append, List.nil_append, ne_eq, eq_self, forall_const, implies_true, if_true, if_false, reduceIte, List.cons.injEq, reduceCtorEq, Nat.reduceEqDiff, List.length_nil, List.length_cons, Nat.reduceAdd, Nat.reduceLT, List.set_cons_zero, List.set_cons_succ, ↓us_lFnCycles, r_lFnCycles]
    refine m_call (iIsEven_ok a _) ?_
    rintro r7 w7 hx7 hr7
    rw [evenV, if_pos ha] at hr7
    subst hr7
    have hx17 := (hx15.trans hx6).trans hx7
    obtain ⟨us, hq, hul, hin⟩ := ((hn3.to (if_pos ha)).sq.ext ((hx4.trans hx5).trans (hx6.trans hx7)))
    simp only [↓vsd, vsn, gW, qd, qv, ev, pick, argE, List.map_cons, List.map_nil, Option.map_some, Option.map_none, zipE, List.cons_append, List.nil_append, ne_eq, eq_self, forall_const, implies_true, if_true, if_false, reduceIte, List.cons.injEq, reduceCtorEq, Nat.reduceEqDiff, List.length_nil, List.length_cons, Nat.reduceAdd, Nat.reduceLT, List.set_cons_zero, List.set_cons_succ, ↓us_lFnCycles, r_lFnCycles, hq.facts, hul]
    have h8 := ha.1
    have hc8 := cycI_len ha
    have hon := ho ha
    refine m_upto (cycI a).length (fun i vs w' => vs = [.int .i64 (mvN a i : Nat), .int .i64 (swN a i : Nat), .int .i64 i] ∧ mvN a i ≤ 8 * i ∧ swN a i ≤ 8 * i ∧ Ext w7 w') ⟨rfl, by simp [mvN], by simp [swN], Ext.refl _⟩ ?_
    rintro i vs w8 hi ⟨rfl, hmv, hsw, hx8⟩
    have hq8 := hq.ext hx8
    by_cases hlt : i < (cycI a).length
    · have hltI : (i : Int) < (cycI a).length := by omega
      have hltJ : ¬ ((cycI a).length : Int) ≤ i := by omega
      have hlu : i < us.length := by omega
      obtain ⟨m, hm, hp2, hLl, hLg⟩ := cycI_nth ha hlt
      have hper := per_is ha hm
      have hqi := (hin i hlt).ext hx8
      have hdv : n % per a m = 0 := hper.dvd (by rw [← itb_pow ha hm, hon.2.2.1, roundsL_bell _ _ ha.1.2 hm])
      have ms := mvN_succ a i hlt
      have ss := swN_succ a i hlt
      rw [hLl] at ms ss
      have hp8 := hper.2.1
      have hp2I : ¬ ((per a m : Nat) : Int) < 2 := by omega
      have hdI : (n : Int).tmod ((per a m : Nat) : Int) = 0 := by show ((n % per a m : Nat) : Int) = 0; rw [hdv]; rfl
      have hp0 : ¬ ((per a m : Nat) : Int) = 0 := by omega
      simp only [↓vsd, vsn, gW, qd, qv, ev, pick, argE, List.map_cons, List.map_nil, Option.map_some, Option.map_none, zipE, List.cons_append, List.nil_append, ne_eq, eq_self, forall_const, implies_true, if_true, if_false, reduceIte, List.cons.injEq, reduceCtorEq, Nat.reduceEqDiff, List.length_nil, List.length_cons, Nat.reduceAdd, Nat.reduceLT, List.set_cons_zero, List.set_cons_succ, ↓us_lFnCycles, r_lFnCycles, hq8.facts, hul, hltI, hltJ, hq8.at1 SV.nil hlu, fSV_get, hqi.facts, hLl, hp2I, hdI, hp0]
      have e1 : (mvN a i : Int) + ((per a m : Nat) : Int) = (mvN a (i + 1) : Nat) := by omega
      have e2 : (swN a i : Int) + (((per a m : Nat) : Int) - 1) = (swN a (i + 1) : Nat) := by omega
      rw [e1, e2]
      refine ⟨by omega, inR_i64 (by omega), inR_i64 (by omega), inR_i64 (by omega), ?_⟩
      refine m_upto (per a m) (fun k vs w' => vs = [.int .i64 k] ∧ Ext w7 w') ⟨rfl, hx8⟩ ?_
      rintro k vs w9 hk ⟨rfl, hx9⟩
      have hqi9 := (hin i hlt).ext hx9
      by_cases hlk : k < per a m
      · have hkI : (k : Int) < ((per a m : Nat) : Int) := by omega
        have hkJ : ¬ ((per a m : Nat) : Int) ≤ k := by omega
        have hkL : k < ((cycI a).getD i []).length := by omega
        have hgk := hLg k hlk
        have hnm : (k + 1) % per a m < per a m := Nat.mod_lt _ (by omega)
        have hnL : (k + 1) % per a m < ((cycI a).getD i []).length := by omega
        have hgn := hLg _ hnm
        rw [← hper.mod] at hgn
        have ek : (k : Int) + 1 = (k + 1 : Nat) := rfl
        have hil := itb_lt ha hm k
        have c1 : ¬ ((itb a k m + 1 : Nat) : Int) < 1 := by omega
        have c2 : ¬ (a.length : Int) < ((itb a k m + 1 : Nat) : Int) := by omega
        have c3 : ((itb a k m + 1 : Nat) : Int) - 1 = (itb a k m : Nat) := by omega
        have hlow := ha.low hil
        have hb := (a.getD (itb a k m) 0).toNat_lt
        have hnx := itb_lt ha hm (k + 1)
        have eb : ((a.getD (itb a k m) 0).toNat : Int) - 48 = (itb a (k + 1) m + 1 : Nat) := by show _ = ((bell a (itb a k m) + 1 : Nat) : Int); unfold bell; omega
        simp only [↓vsd, vsn, gW, qd, qv, ev, pick, argE, List.map_cons, List.map_nil, Option.map_some, Option.map_none, zipE, List.cons_append, List.nil_append, ne_eq, eq_self, forall_const, implies_true, if_true, if_false, reduceIte, List.cons.injEq, reduceCtorEq, Nat.reduceEqDiff, List.length_nil, List.length_cons, Nat.reduceAdd, Nat.reduceLT, List.set_cons_zero, List.set_cons_succ, ↓us_lFnCycles, r_lFnCycles, hqi9.facts, hLl, hkI, hkJ, hqi9.at1 0 hkL, hgk, c1, c2, c3, eb, ek, hqi9.at1 0 hnL, hgn, hp0]
        exact ⟨by omega, inR_i64 (by omega), by omega, inR_u8 (by omega), inR_i64 (by omega), inR_i64 (by omega), ⟨Int.natCast_nonneg _, Int.ofNat_lt.2 hnm⟩, inR_i64 (by omega), UpTo.next hlk ⟨rfl, by first | exact hx9 | exact dr hx9⟩⟩
      · obtain rfl : k = per a m := by omega
        have hkI : ¬ ((per a m : Nat) : Int) < ((per a m : Nat) : Int) := by omega
        simp only [↓vsd, vsn, gW, qd, qv, ev, pick, argE, List.map_cons, List.map_nil, Option.map_some, Option.map_none, zipE, List.cons_append, List.nil_append, ne_eq, eq_self, forall_const, implies_true, if_true, if_false, reduceIte, List.cons.injEq, reduceCtorEq, Nat.reduceEqDiff, List.length_nil, List.length_cons, Nat.reduceAdd, Nat.reduceLT, List.set_cons_zero, List.set_cons_succ, ↓us_lFnCycles, r_lFnCycles, hkI]
        exact ⟨inR_i64 (by omega), UpTo.next hlt ⟨rfl, by omega, by omega, hx9⟩⟩
    · obtain rfl : i = (cycI a).length := by omega
      have hltI : ¬ ((cycI a).length : Int) < (cycI a).length := by omega
      simp only [↓vsd, vsn, gW, qd, qv, ev, pick, argE, List.map_cons, List.map_nil, Option.map_some, Option.map_none, zipE, List.cons_append, List.nil_append, ne_eq, eq_self, forall_const, implies_true, if_true, if_false, reduceIte, List.cons.injEq, reduceCtorEq, Nat.reduceEqDiff, List.length_nil, List.length_cons, Nat.reduceAdd, Nat.reduceLT, List.set_cons_zero, List.set_cons_succ, ↓us_lFnCycles, r_lFnCycles, hltI]
      refine m_upto a.length (fun i vs w' => vs = [.int .i64 (stN a i : Nat), .int .i64 (i + 1 : Nat)] ∧ Ext w7 w') ⟨rfl, hx8⟩ ?_
      rintro i vs w9 hi2 ⟨rfl, hx9⟩
      have hst := stN_le a i
      by_cases hlt : i < a.length
      · have hltI : ((i + 1 : Nat) : Int) ≤ a.length := by omega
        have hltJ : ¬ (a.length : Int) < (i + 1 : Nat) := by omega
        have e1 : ((i + 1 : Nat) : Int) - 1 = (i : Nat) := by omega
        have hlow := ha.low hlt
        have hb := (a.getD i 0).toNat_lt
        have eb : ((a.getD i 0).toNat : Int) - 48 = (bell a i + 1 : Nat) := by unfold bell; omega
        simp only [↓vsd, vsn, gW, qd, qv, ev, pick, argE, List.map_cons, List.map_nil, Option.map_some, Option.map_none, zipE, List.cons_append, List.nil_append, ne_eq, eq_self, forall_const, implies_true, if_true, if_false, reduceIte, List.cons.injEq, reduceCtorEq, Nat.reduceEqDiff, List.length_nil, List.length_cons, Nat.reduceAdd, Nat.reduceLT, List.set_cons_zero, List.set_cons_succ, ↓us_lFnCycles, r_lFnCycles, hltI, hltJ, e1, eb]
        have hbl := ha.bell_lt hlt
        refine ⟨inR_i64 (by omega), by omega, inR_u8 (by omega), inR_i64 (by omega), fun he => ⟨inR_i64 (by omega), inR_i64 (by omega), UpTo.next hlt ⟨?_, by first | exact hx9 | exact dr hx9⟩⟩, fun hne => ⟨inR_i64 (by omega), UpTo.next hlt ⟨?_, by first | exact hx9 | exact dr hx9⟩⟩⟩
        · rw [stN_succ, if_pos (by omega)]; rfl
        · rw [stN_succ, if_neg (by omega)]; rfl
      · obtain rfl : i = a.length := by omega
        have hltI : ¬ ((a.length + 1 : Nat) : Int) ≤ a.length := by omega
        have hltJ : (a.length : Int) < (a.length + 1 : Nat) := by omega
        have hsum : (mvN a (cycI a).length : Int) + (stN a a.length : Nat) = a.length := by have := mvN_all ha; unfold stayN at this; unfold stN; omega
        have hev : evB (invL a) = decide (((swN a (cycI a).length % 2 : Nat) : Int) = 0) := by
          rw [swN_all ha]; exact decide_eq_decide.2 (by omega)
        simp only [↓vsd, vsn, gW, qd, qv, ev, pick, argE, List.map_cons, List.map_nil, Option.map_some, Option.map_none, zipE, List.cons_append, List.nil_append, ne_eq, eq_self, forall_const, implies_true, if_true, if_false, reduceIte, List.cons.injEq, reduceCtorEq, Nat.reduceEqDiff, List.length_nil, List.length_cons, Nat.reduceAdd, Nat.reduceLT, List.set_cons_zero, List.set_cons_succ, ↓us_lFnCycles, r_lFnCycles, hltI, hltJ, hsum, hev]
        refine ⟨inR_i64 (by omega), by decide, ?_⟩
        have hxT := hx17.trans hx9
        refine m_call (sDrawRowOf_ok u more hlen.2 _ (h'.ext hxT)) ?_
        rintro _ wa hxa ⟨q, k, rfl, hq3, hq8, hk1, hk2⟩
        simp only [↓vsd, vsn, gW, qd, qv, ev, pick, argE, List.map_cons, List.map_nil, Option.map_some, Option.map_none, zipE, List.cons_append, List.nil_append, ne_eq, eq_self, forall_const, implies_true, if_true, if_false, reduceIte, List.cons.injEq, reduceCtorEq, Nat.reduceEqDiff, List.length_nil, List.length_cons, Nat.reduceAdd, Nat.reduceLT, List.set_cons_zero, List.set_cons_succ, ↓us_lFnCycles, r_lFnCycles]
        refine m_call (iRowOf_ok q k _) ?_
        rintro rb wb hxb hrb
        by_cases hv : 0 ≤ k ∧ k < (factL q : Nat)
        · obtain ⟨k, rfl⟩ : ∃ j : Nat, k = j := ⟨k.toNat, by omega⟩
          have hkf : k < factL q := by omega
          have er : rowV q k = .tuple ⟨[S (rowGo q (roundsL q) k), .bool true]⟩ := by rw [rowV, if_pos ⟨by omega, by omega, by simpa using hv.2⟩]; rfl
          rw [er] at hrb
          subst hrb
          simp only [↓vsd, vsn, gW, qd, qv, ev, pick, argE, List.map_cons, List.map_nil, Option.map_some, Option.map_none, zipE, List.cons_append, List.nil_append, ne_eq, eq_self, forall_const, implies_true, if_true, if_false, reduceIte, List.cons.injEq, reduceCtorEq, Nat.reduceEqDiff, List.length_nil, List.length_cons, Nat.reduceAdd, Nat.reduceLT, List.set_cons_zero, List.set_cons_succ, ↓us_lFnCycles, r_lFnCycles]
          refine m_call (sRowOf_okg q k (by omega) _) ?_
          rintro rc wc hxc hrc
          rw [er] at hrc
          subst hrc
          simp only [↓vsd, vsn, gW, qd, qv, ev, pick, argE, List.map_cons, List.map_nil, Option.map_some, Option.map_none, zipE, List.cons_append, List.nil_append, ne_eq, eq_self, forall_const, implies_true, if_true, if_false, reduceIte, List.cons.injEq, reduceCtorEq, Nat.reduceEqDiff, List.length_nil, List.length_cons, Nat.reduceAdd, Nat.reduceLT, List.set_cons_zero, List.set_cons_succ, ↓us_lFnCycles, r_lFnCycles]
          have hrow := rowGo_row q k (by omega) hkf
          refine m_call (iPlaceOfRow_ok _ hrow _) ?_
          rintro _ wd hxd rfl
          have hrank := (rank_go q (roundsL q) k (roundsL_len q) (rounds_sorted q (by omega)) hkf).1
          simp only [↓vsd, vsn, gW, qd, qv, ev, pick, argE, List.map_cons, List.map_nil, Option.map_some, Option.map_none, zipE, List.cons_append, List.nil_append, ne_eq, eq_self, forall_const, implies_true, if_true, if_false, reduceIte, List.cons.injEq, reduceCtorEq, Nat.reduceEqDiff, List.length_nil, List.length_cons, Nat.reduceAdd, Nat.reduceLT, List.set_cons_zero, List.set_cons_succ, ↓us_lFnCycles, r_lFnCycles, hrank]
          refine ⟨inR_i64 (by omega), m_call (iRowOf_ok q ((k : Int) + 1) _) ?_⟩
          rintro re we hxe hre
          by_cases hk3 : k + 1 < factL q
          · have er2 : rowV q ((k : Int) + 1) = .tuple ⟨[S (rowGo q (roundsL q) (k + 1)), .bool true]⟩ := by rw [rowV, if_pos ⟨by omega, by omega, by show (k : Int) + 1 < (factL q : Nat); omega⟩]; rfl
            rw [er2] at hre
            subst hre
            have hlt := go_less q (roundsL q) k (k + 1) (roundsL_len q) (rounds_sorted q (by omega)) (by omega) hk3
            simp only [↓vsd, vsn, gW, qd, qv, ev, pick, argE, List.map_cons, List.map_nil, Option.map_some, Option.map_none, zipE, List.cons_append, List.nil_append, ne_eq, eq_self, forall_const, implies_true, if_true, if_false, reduceIte, List.cons.injEq, reduceCtorEq, Nat.reduceEqDiff, List.length_nil, List.length_cons, Nat.reduceAdd, Nat.reduceLT, List.set_cons_zero, List.set_cons_succ, ↓us_lFnCycles, r_lFnCycles, hlt]
            exact hxT.trans (hxa.trans (hxb.trans (hxc.trans (hxd.trans hxe))))
          · have er2 : rowV q ((k : Int) + 1) = .tuple ⟨[S [], .bool false]⟩ := by rw [rowV, if_neg (fun hh => hk3 (by have : (k : Int) + 1 < (factL q : Nat) := hh.2.2; omega))]
            rw [er2] at hre
            subst hre
            simp only [↓vsd, vsn, gW, qd, qv, ev, pick, argE, List.map_cons, List.map_nil, Option.map_some, Option.map_none, zipE, List.cons_append, List.nil_append, ne_eq, eq_self, forall_const, implies_true, if_true, if_false, reduceIte, List.cons.injEq, reduceCtorEq, Nat.reduceEqDiff, List.length_nil, List.length_cons, Nat.reduceAdd, Nat.reduceLT, List.set_cons_zero, List.set_cons_succ, ↓us_lFnCycles, r_lFnCycles]
            exact hxT.trans (hxa.trans (hxb.trans (hxc.trans (hxd.trans hxe))))
        · have er : rowV q k = .tuple ⟨[S [], .bool false]⟩ := by rw [rowV, if_neg (fun hh => hv ⟨hh.2.1, by simpa using hh.2.2⟩)]
          rw [er] at hrb
          subst hrb
          simp only [↓vsd, vsn, gW, qd, qv, ev, pick, argE, List.map_cons, List.map_nil, Option.map_some, Option.map_none, zipE, List.cons_append, List.nil_append, ne_eq, eq_self, forall_const, implies_true, if_true, if_false, reduceIte, List.cons.injEq, reduceCtorEq, Nat.reduceEqDiff, List.length_nil, List.length_cons, Nat.reduceAdd, Nat.reduceLT, List.set_cons_zero, List.set_cons_succ, ↓us_lFnCycles, r_lFnCycles]
          refine m_call (sRowOf_okg q k (by omega) _) ?_
          rintro rc wc hxc hrc
          rw [er] at hrc
          subst hrc
          simp only [↓vsd, vsn, gW, qd, qv, ev, pick, argE, List.map_cons, List.map_nil, Option.map_some, Option.map_none, zipE, List.cons_append, List.nil_append, ne_eq, eq_self, forall_const, implies_true, if_true, if_false, reduceIte, List.cons.injEq, reduceCtorEq, Nat.reduceEqDiff, List.length_nil, List.length_cons, Nat.reduceAdd, Nat.reduceLT, List.set_cons_zero, List.set_cons_succ, ↓us_lFnCycles, r_lFnCycles]
          exact hxT.trans (hxa.trans (hxb.trans hxc))
  · simp only [↓vsd, vsn, gW, qd, qv, ev, pick, argE, List.map_cons, List.map_nil, Option.map_some, Option.map_none, zipE, List.cons_append, List.nil_append, ne_eq, eq_self, forall_const, implies_true, if_true, if_false, reduceIte, List.cons.injEq, reduceCtorEq, Nat.reduceEqDiff, List.length_nil, List.length_cons, Nat.reduceAdd, Nat.reduceLT, List.set_cons_zero, List.set_cons_succ, ↓us_lFnCycles, r_lFnCycles, ha]
    have hxT := hx15
    refine m_call (sDrawRowOf_ok u more hlen.2 _ (h'.ext hxT)) ?_
    rintro _ wa hxa ⟨q, k, rfl, hq3, hq8, hk1, hk2⟩
    simp only [↓vsd, vsn, gW, qd, qv, ev, pick, argE, List.map_cons, List.map_nil, Option.map_some, Option.map_none, zipE, List.cons_append, List.nil_append, ne_eq, eq_self, forall_const, implies_true, if_true, if_false, reduceIte, List.cons.injEq, reduceCtorEq, Nat.reduceEqDiff, List.length_nil, List.length_cons, Nat.reduceAdd, Nat.reduceLT, List.set_cons_zero, List.set_cons_succ, ↓us_lFnCycles, r_lFnCycles]
    refine m_call (iRowOf_ok q k _) ?_
    rintro rb wb hxb hrb
    by_cases hv : 0 ≤ k ∧ k < (factL q : Nat)
    · obtain ⟨k, rfl⟩ : ∃ j : Nat, k = j := ⟨k.toNat, by omega⟩
      have hkf : k < factL q := by omega
      have er : rowV q k = .tuple ⟨[S (rowGo q (roundsL q) k), .bool true]⟩ := by rw [rowV, if_pos ⟨by omega, by omega, by simpa using hv.2⟩]; rfl
      rw [er] at hrb
      subst hrb
      simp only [↓vsd, vsn, gW, qd, qv, ev, pick, argE, List.map_cons, List.map_nil, Option.map_some, Option.map_none, zipE, List.cons_append, List.nil_append, ne_eq, eq_self, forall_const, implies_true, if_true, if_false, reduceIte, List.cons.injEq, reduceCtorEq, Nat.reduceEqDiff, List.length_nil, List.length_cons, Nat.reduceAdd, Nat.reduceLT, List.set_cons_zero, List.set_cons_succ, ↓us_lFnCycles, r_lFnCycles]
      refine m_call (sRowOf_okg q k (by omega) _) ?_
      rintro rc wc hxc hrc
      rw [er] at hrc
      subst hrc
      simp only [↓vsd, vsn, gW, qd, qv, ev, pick, argE, List.map_cons, List.map_nil, Option.map_some, Option.map_none, zipE, List.cons_append, List.nil_append, ne_eq, eq_self, forall_const, implies_true, if_true, if_false, reduceIte, List.cons.injEq, reduceCtorEq, Nat.reduceEqDiff, List.length_nil, List.length_cons, Nat.reduceAdd, Nat.reduceLT, List.set_cons_zero, List.set_cons_succ, ↓us_lFnCycles, r_lFnCycles]
      have hrow := rowGo_row q k (by omega) hkf
      refine m_call (iPlaceOfRow_ok _ hrow _) ?_
      rintro _ wd hxd rfl
      have hrank := (rank_go q (roundsL q) k (roundsL_len q) (rounds_sorted q (by omega)) hkf).1
      simp only [↓vsd, vsn, gW, qd, qv, ev, pick, argE, List.map_cons, List.map_nil, Option.map_some, Option.map_none, zipE, List.cons_append, List.nil_append, ne_eq, eq_self, forall_const, implies_true, if_true, if_false, reduceIte, List.cons.injEq, reduceCtorEq, Nat.reduceEqDiff, List.length_nil, List.length_cons, Nat.reduceAdd, Nat.reduceLT, List.set_cons_zero, List.set_cons_succ, ↓us_lFnCycles, r_lFnCycles, hrank]
      refine ⟨inR_i64 (by omega), m_call (iRowOf_ok q ((k : Int) + 1) _) ?_⟩
      rintro re we hxe hre
      by_cases hk3 : k + 1 < factL q
      · have er2 : rowV q ((k : Int) + 1) = .tuple ⟨[S (rowGo q (roundsL q) (k + 1)), .bool true]⟩ := by rw [rowV, if_pos ⟨by omega, by omega, by show (k : Int) + 1 < (factL q : Nat); omega⟩]; rfl
        rw [er2] at hre
        subst hre
        have hlt := go_less q (roundsL q) k (k + 1) (roundsL_len q) (rounds_sorted q (by omega)) (by omega) hk3
        simp only [↓vsd, vsn, gW, qd, qv, ev, pick, argE, List.map_cons, List.map_nil, Option.map_some, Option.map_none, zipE, List.cons_append, List.nil_append, ne_eq, eq_self, forall_const, implies_true, if_true, if_false, reduceIte, List.cons.injEq, reduceCtorEq, Nat.reduceEqDiff, List.length_nil, List.length_cons, Nat.reduceAdd, Nat.reduceLT, List.set_cons_zero, List.set_cons_succ, ↓us_lFnCycles, r_lFnCycles, hlt]
        exact hxT.trans (hxa.trans (hxb.trans (hxc.trans (hxd.trans hxe))))
      · have er2 : rowV q ((k : Int) + 1) = .tuple ⟨[S [], .bool false]⟩ := by rw [rowV, if_neg (fun hh => hk3 (by have : (k : Int) + 1 < (factL q : Nat) := hh.2.2; omega))]
        rw [er2] at hre
        subst hre
        simp only [↓vsd, vsn, gW, qd, qv, ev, pick, argE, List.map_cons, List.map_nil, Option.map_some, Option.map_none, zipE, List.cons_append, List.nil_append, ne_eq, eq_self, forall_const, implies_true, if_true, if_false, reduceIte, List.cons.injEq, reduceCtorEq, Nat.reduceEqDiff, List.length_nil, List.length_cons, Nat.reduceAdd, Nat.reduceLT, List.set_cons_zero, List.set_cons_succ, ↓us_lFnCycles, r_lFnCycles]
        exact hxT.trans (hxa.trans (hxb.trans (hxc.trans (hxd.trans hxe))))
    · have er : rowV q k = .tuple ⟨[S [], .bool false]⟩ := by rw [rowV, if_neg (fun hh => hv ⟨hh.2.1, by simpa using hh.2.2⟩)]
      rw [er] at hrb
      subst hrb
      simp only [↓vsd, vsn, gW, qd, qv, ev, pick, argE, List.map_cons, List.map_nil, Option.map_some, Option.map_none, zipE, List.cons_append, List.nil_append, ne_eq, eq_self, forall_const, implies_true, if_true, if_false, reduceIte, List.cons.injEq, reduceCtorEq, Nat.reduceEqDiff, List.length_nil, List.length_cons, Nat.reduceAdd, Nat.reduceLT, List.set_cons_zero, List.set_cons_succ, ↓us_lFnCycles, r_lFnCycles]
      refine m_call (sRowOf_okg q k (by omega) _) ?_
      rintro rc wc hxc hrc
      rw [er] at hrc
      subst hrc
      simp only [↓vsd, vsn, gW, qd, qv, ev, pick, argE, List.map_cons, List.map_nil, Option.map_some, Option.map_none, zipE, List.cons_append, List.nil_append, ne_eq, eq_self, forall_const, implies_true, if_true, if_false, reduceIte, List.cons.injEq, reduceCtorEq, Nat.reduceEqDiff, List.length_nil, List.length_cons, Nat.reduceAdd, Nat.reduceLT, List.set_cons_zero, List.set_cons_succ, ↓us_lFnCycles, r_lFnCycles]
      exact hxT.trans (hxa.trans (hxb.trans hxc))
end Go.Proofs.Ytnocgihggdgkeaa
