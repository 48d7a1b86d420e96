/-
  The call of the law FnProducts.
  Conditions: none.
-/
import Derived.Test.YtnocgihggdgkeaaD3
set_option linter.unusedSimpArgs false
set_option linter.unusedVariables false
set_option linter.defProp false
namespace Go.Proofs.Ytnocgihggdgkeaa
open Go Go.RowKit
def t_lFnProducts_1 : X := (.cond (.t 40) (.seq (.reg [4] [.q 4 [] (.mv (.c (.bool true)))]) .ret) .skip)
theorem u_lFnProducts_1 (P : Program) (k : KT) (e : Env) (w : World) : vcK P t_lFnProducts_1 k e w = vcK P (.cond (.t 40) (.seq (.reg [4] [.q 4 [] (.mv (.c (.bool true)))]) .ret) .skip) k e w := rfl
def t_lFnProducts_2 : X := (.cond (.t 72) (.seq (.reg [4] [.q 4 [] (.mv (.c (.bool false)))]) .ret) .skip)
theorem u_lFnProducts_2 (P : Program) (k : KT) (e : Env) (w : World) : vcK P t_lFnProducts_2 k e w = vcK P (.cond (.t 72) (.seq (.reg [4] [.q 4 [] (.mv (.c (.bool false)))]) .ret) .skip) k e w := rfl
def t_lFnProducts_3 : X := (.cond (.t 168) (.seq (.reg [4] [.q 4 [] (.mv (.c (.bool false)))]) .ret) .skip)
theorem u_lFnProducts_3 (P : Program) (k : KT) (e : Env) (w : World) : vcK P t_lFnProducts_3 k e w = vcK P (.cond (.t 168) (.seq (.reg [4] [.q 4 [] (.mv (.c (.bool false)))]) .ret) .skip) k e w := rfl
def t_lFnProducts_4 : X := (.seq (.reg [1, 168] [.q 124 [] (.mv (.t 13)), .q 125 [] (.not (.t 124)), .q 126 [] (.mv (.t 125)), .q 127 [(126, false)] (.mv (.t 15)), .q 128 [(126, false)] (.not (.t 127)), .q 129 [] (.pick (.t 126) (.c (.bool true)) (.t 128)), .q 130 [] (.mv (.t 129)), .q 131 [(130, false)] (.mv (.t 17)), .q 132 [(130, false)] (.not (.t 131)), .q 133 [] (.pick (.t 130) (.c (.bool true)) (.t 132)), .q 134 [] (.mv (.t 133)), .q 135 [(134, false)] (.mv (.t 19)), .q 136 [(134, false)] (.not (.t 135)), .q 137 [] (.pick (.t 134) (.c (.bool true)) (.t 136)), .q 138 [] (.mv (.t 137)), .q 139 [(138, false)] (.mv (.t 21)), .q 140 [(138, false)] (.not (.t 139)), .q 141 [] (.pick (.t 138) (.c (.bool true)) (.t 140)), .q 142 [] (.mv (.t 141)), .q 143 [(142, false)] (.mv (.t 16)), .q 144 [(142, false)] (.mv (.t 20)), .q 145 [(142, false)] (.bin .neq (.t 143) (.t 144)), .q 146 [] (.pick (.t 142) (.c (.bool true)) (.t 145)), .q 147 [] (.mv (.t 146)), .q 148 [(147, false)] (.mv (.t 23)), .q 149 [(147, false)] (.not (.t 148)), .q 150 [] (.pick (.t 147) (.c (.bool true)) (.t 149)), .q 151 [] (.mv (.t 150)), .q 152 [(151, false)] (.mv (.t 25)), .q 153 [(151, false)] (.not (.t 152)), .q 154 [] (.pick (.t 151) (.c (.bool true)) (.t 153)), .q 155 [] (.mv (.t 154)), .q 156 [(155, false)] (.mv (.t 24)), .q 157 [(155, false)] (.mv (.t 12)), .q 158 [(155, false)] (.bin .neq (.t 156) (.t 157)), .q 159 [] (.pick (.t 155) (.c (.bool true)) (.t 158)), .q 160 [] (.mv (.t 159)), .q 161 [(160, false)] (.mv (.t 27)), .q 162 [(160, false)] (.not (.t 161)), .q 163 [] (.pick (.t 160) (.c (.bool true)) (.t 162)), .q 164 [] (.mv (.t 163)), .q 165 [(164, false)] (.mv (.t 26)), .q 166 [(164, false)] (.mv (.t 5)), .q 167 [(164, false)] (.bin .neq (.t 165) (.t 166)), .q 168 [] (.pick (.t 164) (.c (.bool true)) (.t 167))]) t_lFnProducts_3)
theorem u_lFnProducts_4 (P : Program) (k : KT) (e : Env) (w : World) : vcK P t_lFnProducts_4 k e w = vcK P (.seq (.reg [1, 168] [.q 124 [] (.mv (.t 13)), .q 125 [] (.not (.t 124)), .q 126 [] (.mv (.t 125)), .q 127 [(126, false)] (.mv (.t 15)), .q 128 [(126, false)] (.not (.t 127)), .q 129 [] (.pick (.t 126) (.c (.bool true)) (.t 128)), .q 130 [] (.mv (.t 129)), .q 131 [(130, false)] (.mv (.t 17)), .q 132 [(130, false)] (.not (.t 131)), .q 133 [] (.pick (.t 130) (.c (.bool true)) (.t 132)), .q 134 [] (.mv (.t 133)), .q 135 [(134, false)] (.mv (.t 19)), .q 136 [(134, false)] (.not (.t 135)), .q 137 [] (.pick (.t 134) (.c (.bool true)) (.t 136)), .q 138 [] (.mv (.t 137)), .q 139 [(138, false)] (.mv (.t 21)), .q 140 [(138, false)] (.not (.t 139)), .q 141 [] (.pick (.t 138) (.c (.bool true)) (.t 140)), .q 142 [] (.mv (.t 141)), .q 143 [(142, false)] (.mv (.t 16)), .q 144 [(142, false)] (.mv (.t 20)), .q 145 [(142, false)] (.bin .neq (.t 143) (.t 144)), .q 146 [] (.pick (.t 142) (.c (.bool true)) (.t 145)), .q 147 [] (.mv (.t 146)), .q 148 [(147, false)] (.mv (.t 23)), .q 149 [(147, false)] (.not (.t 148)), .q 150 [] (.pick (.t 147) (.c (.bool true)) (.t 149)), .q 151 [] (.mv (.t 150)), .q 152 [(151, false)] (.mv (.t 25)), .q 153 [(151, false)] (.not (.t 152)), .q 154 [] (.pick (.t 151) (.c (.bool true)) (.t 153)), .q 155 [] (.mv (.t 154)), .q 156 [(155, false)] (.mv (.t 24)), .q 157 [(155, false)] (.mv (.t 12)), .q 158 [(155, false)] (.bin .neq (.t 156) (.t 157)), .q 159 [] (.pick (.t 155) (.c (.bool true)) (.t 158)), .q 160 [] (.mv (.t 159)), .q 161 [(160, false)] (.mv (.t 27)), .q 162 [(160, false)] (.not (.t 161)), .q 163 [] (.pick (.t 160) (.c (.bool true)) (.t 162)), .q 164 [] (.mv (.t 163)), .q 165 [(164, false)] (.mv (.t 26)), .q 166 [(164, false)] (.mv (.t 5)), .q 167 [(164, false)] (.bin .neq (.t 165) (.t 166)), .q 168 [] (.pick (.t 164) (.c (.bool true)) (.t 167))]) t_lFnProducts_3) k e w := rfl
def t_lFnProducts_5 : X := (.seq (.reg [1, 5, 12, 13, 15, 16, 17, 19, 20, 21, 23, 24, 25, 26, 27] [.q 119 [] (.mv (.t 5)), .q 120 [] (.mv (.t 12)), .e (some 121) [] (.call false 22 [(.t 119), (.t 120)]), .q 118 [] (.mv (.t 121)), .q 122 [] (.ext 0 (.t 118)), .q 123 [] (.ext 1 (.t 118)), .q 26 [] (.mv (.t 122)), .q 27 [] (.mv (.t 123))]) t_lFnProducts_4)
theorem u_lFnProducts_5 (P : Program) (k : KT) (e : Env) (w : World) : vcK P t_lFnProducts_5 k e w = vcK P (.seq (.reg [1, 5, 12, 13, 15, 16, 17, 19, 20, 21, 23, 24, 25, 26, 27] [.q 119 [] (.mv (.t 5)), .q 120 [] (.mv (.t 12)), .e (some 121) [] (.call false 22 [(.t 119), (.t 120)]), .q 118 [] (.mv (.t 121)), .q 122 [] (.ext 0 (.t 118)), .q 123 [] (.ext 1 (.t 118)), .q 26 [] (.mv (.t 122)), .q 27 [] (.mv (.t 123))]) t_lFnProducts_4) k e w := rfl
def t_lFnProducts_6 : X := (.seq (.reg [1, 5, 12, 13, 15, 16, 17, 19, 20, 21, 23, 24, 25] [.q 113 [] (.mv (.t 5)), .q 114 [] (.mv (.t 22)), .e (some 115) [] (.call false 22 [(.t 113), (.t 114)]), .q 112 [] (.mv (.t 115)), .q 116 [] (.ext 0 (.t 112)), .q 117 [] (.ext 1 (.t 112)), .q 24 [] (.mv (.t 116)), .q 25 [] (.mv (.t 117))]) t_lFnProducts_5)
theorem u_lFnProducts_6 (P : Program) (k : KT) (e : Env) (w : World) : vcK P t_lFnProducts_6 k e w = vcK P (.seq (.reg [1, 5, 12, 13, 15, 16, 17, 19, 20, 21, 23, 24, 25] [.q 113 [] (.mv (.t 5)), .q 114 [] (.mv (.t 22)), .e (some 115) [] (.call false 22 [(.t 113), (.t 114)]), .q 112 [] (.mv (.t 115)), .q 116 [] (.ext 0 (.t 112)), .q 117 [] (.ext 1 (.t 112)), .q 24 [] (.mv (.t 116)), .q 25 [] (.mv (.t 117))]) t_lFnProducts_5) k e w := rfl
def t_lFnProducts_7 : X := (.seq (.reg [1, 5, 12, 13, 15, 16, 17, 19, 20, 21, 22, 23] [.q 108 [] (.mv (.t 5)), .e (some 109) [] (.call false 29 [(.t 108)]), .q 107 [] (.mv (.t 109)), .q 110 [] (.ext 0 (.t 107)), .q 111 [] (.ext 1 (.t 107)), .q 22 [] (.mv (.t 110)), .q 23 [] (.mv (.t 111))]) t_lFnProducts_6)
theorem u_lFnProducts_7 (P : Program) (k : KT) (e : Env) (w : World) : vcK P t_lFnProducts_7 k e w = vcK P (.seq (.reg [1, 5, 12, 13, 15, 16, 17, 19, 20, 21, 22, 23] [.q 108 [] (.mv (.t 5)), .e (some 109) [] (.call false 29 [(.t 108)]), .q 107 [] (.mv (.t 109)), .q 110 [] (.ext 0 (.t 107)), .q 111 [] (.ext 1 (.t 107)), .q 22 [] (.mv (.t 110)), .q 23 [] (.mv (.t 111))]) t_lFnProducts_6) k e w := rfl
def t_lFnProducts_8 : X := (.seq (.reg [1, 5, 12, 13, 15, 16, 17, 19, 20, 21] [.q 102 [] (.mv (.t 5)), .q 103 [] (.mv (.t 18)), .e (some 104) [] (.call false 22 [(.t 102), (.t 103)]), .q 101 [] (.mv (.t 104)), .q 105 [] (.ext 0 (.t 101)), .q 106 [] (.ext 1 (.t 101)), .q 20 [] (.mv (.t 105)), .q 21 [] (.mv (.t 106))]) t_lFnProducts_7)
theorem u_lFnProducts_8 (P : Program) (k : KT) (e : Env) (w : World) : vcK P t_lFnProducts_8 k e w = vcK P (.seq (.reg [1, 5, 12, 13, 15, 16, 17, 19, 20, 21] [.q 102 [] (.mv (.t 5)), .q 103 [] (.mv (.t 18)), .e (some 104) [] (.call false 22 [(.t 102), (.t 103)]), .q 101 [] (.mv (.t 104)), .q 105 [] (.ext 0 (.t 101)), .q 106 [] (.ext 1 (.t 101)), .q 20 [] (.mv (.t 105)), .q 21 [] (.mv (.t 106))]) t_lFnProducts_7) k e w := rfl
def t_lFnProducts_9 : X := (.seq (.reg [1, 5, 12, 13, 15, 16, 17, 18, 19] [.q 96 [] (.mv (.t 6)), .q 97 [] (.mv (.t 14)), .e (some 98) [] (.call false 22 [(.t 96), (.t 97)]), .q 95 [] (.mv (.t 98)), .q 99 [] (.ext 0 (.t 95)), .q 100 [] (.ext 1 (.t 95)), .q 18 [] (.mv (.t 99)), .q 19 [] (.mv (.t 100))]) t_lFnProducts_8)
theorem u_lFnProducts_9 (P : Program) (k : KT) (e : Env) (w : World) : vcK P t_lFnProducts_9 k e w = vcK P (.seq (.reg [1, 5, 12, 13, 15, 16, 17, 18, 19] [.q 96 [] (.mv (.t 6)), .q 97 [] (.mv (.t 14)), .e (some 98) [] (.call false 22 [(.t 96), (.t 97)]), .q 95 [] (.mv (.t 98)), .q 99 [] (.ext 0 (.t 95)), .q 100 [] (.ext 1 (.t 95)), .q 18 [] (.mv (.t 99)), .q 19 [] (.mv (.t 100))]) t_lFnProducts_8) k e w := rfl
def t_lFnProducts_10 : X := (.seq (.reg [1, 5, 6, 12, 13, 14, 15, 16, 17] [.q 90 [] (.mv (.t 7)), .q 91 [] (.mv (.t 14)), .e (some 92) [] (.call false 22 [(.t 90), (.t 91)]), .q 89 [] (.mv (.t 92)), .q 93 [] (.ext 0 (.t 89)), .q 94 [] (.ext 1 (.t 89)), .q 16 [] (.mv (.t 93)), .q 17 [] (.mv (.t 94))]) t_lFnProducts_9)
theorem u_lFnProducts_10 (P : Program) (k : KT) (e : Env) (w : World) : vcK P t_lFnProducts_10 k e w = vcK P (.seq (.reg [1, 5, 6, 12, 13, 14, 15, 16, 17] [.q 90 [] (.mv (.t 7)), .q 91 [] (.mv (.t 14)), .e (some 92) [] (.call false 22 [(.t 90), (.t 91)]), .q 89 [] (.mv (.t 92)), .q 93 [] (.ext 0 (.t 89)), .q 94 [] (.ext 1 (.t 89)), .q 16 [] (.mv (.t 93)), .q 17 [] (.mv (.t 94))]) t_lFnProducts_9) k e w := rfl
def t_lFnProducts_11 : X := (.seq (.reg [1, 5, 6, 7, 12, 13, 14, 15] [.q 83 [] (.mv (.t 6)), .q 84 [] (.mv (.t 11)), .q 85 [] (.bin .rem (.t 84) (.c (.int .i64 5))), .e (some 86) [] (.call false 28 [(.t 83), (.t 85)]), .q 82 [] (.mv (.t 86)), .q 87 [] (.ext 0 (.t 82)), .q 88 [] (.ext 1 (.t 82)), .q 14 [] (.mv (.t 87)), .q 15 [] (.mv (.t 88))]) t_lFnProducts_10)
theorem u_lFnProducts_11 (P : Program) (k : KT) (e : Env) (w : World) : vcK P t_lFnProducts_11 k e w = vcK P (.seq (.reg [1, 5, 6, 7, 12, 13, 14, 15] [.q 83 [] (.mv (.t 6)), .q 84 [] (.mv (.t 11)), .q 85 [] (.bin .rem (.t 84) (.c (.int .i64 5))), .e (some 86) [] (.call false 28 [(.t 83), (.t 85)]), .q 82 [] (.mv (.t 86)), .q 87 [] (.ext 0 (.t 82)), .q 88 [] (.ext 1 (.t 82)), .q 14 [] (.mv (.t 87)), .q 15 [] (.mv (.t 88))]) t_lFnProducts_10) k e w := rfl
def t_lFnProducts_12 : X := (.seq (.reg [1, 5, 6, 7, 11, 12, 13] [.q 77 [] (.mv (.t 5)), .q 78 [] (.len (.t 77)), .e (some 79) [] (.call false 27 [(.t 78)]), .q 76 [] (.mv (.t 79)), .q 80 [] (.ext 0 (.t 76)), .q 81 [] (.ext 1 (.t 76)), .q 12 [] (.mv (.t 80)), .q 13 [] (.mv (.t 81))]) t_lFnProducts_11)
theorem u_lFnProducts_12 (P : Program) (k : KT) (e : Env) (w : World) : vcK P t_lFnProducts_12 k e w = vcK P (.seq (.reg [1, 5, 6, 7, 11, 12, 13] [.q 77 [] (.mv (.t 5)), .q 78 [] (.len (.t 77)), .e (some 79) [] (.call false 27 [(.t 78)]), .q 76 [] (.mv (.t 79)), .q 80 [] (.ext 0 (.t 76)), .q 81 [] (.ext 1 (.t 76)), .q 12 [] (.mv (.t 80)), .q 13 [] (.mv (.t 81))]) t_lFnProducts_11) k e w := rfl
def t_lFnProducts_13 : X := (.cond (.t 73) (.seq (.reg [1, 5, 6, 7, 11] [.q 74 [] (.mv (.t 1)), .e (some 75) [] (.call false 26 [(.t 74)]), .q 11 [] (.mv (.t 75))]) t_lFnProducts_12) .skip)
theorem u_lFnProducts_13 (P : Program) (k : KT) (e : Env) (w : World) : vcK P t_lFnProducts_13 k e w = vcK P (.cond (.t 73) (.seq (.reg [1, 5, 6, 7, 11] [.q 74 [] (.mv (.t 1)), .e (some 75) [] (.call false 26 [(.t 74)]), .q 11 [] (.mv (.t 75))]) t_lFnProducts_12) .skip) k e w := rfl
def t_lFnProducts_14 : X := (.seq (.reg [4] [.q 193 [] (.mv (.t 30)), .q 194 [] (.mv (.t 32)), .q 195 [] (.beq false (.t 193) (.t 194)), .q 196 [] (.mv (.t 195)), .q 197 [(196, true)] (.mv (.t 29)), .q 198 [(196, true)] (.mv (.t 31)), .q 199 [(196, true)] (.bin .eql (.t 197) (.t 198)), .q 200 [] (.pick (.t 196) (.t 199) (.c (.bool false))), .q 201 [] (.mv (.t 200)), .q 202 [(201, true)] (.mv (.t 35)), .q 203 [(201, true)] (.mv (.t 37)), .q 204 [(201, true)] (.beq false (.t 202) (.t 203)), .q 205 [] (.pick (.t 201) (.t 204) (.c (.bool false))), .q 206 [] (.mv (.t 205)), .q 207 [(206, true)] (.mv (.t 34)), .q 208 [(206, true)] (.mv (.t 36)), .q 209 [(206, true)] (.bin .eql (.t 207) (.t 208)), .q 210 [] (.pick (.t 206) (.t 209) (.c (.bool false))), .q 4 [] (.mv (.t 210))]) .ret)
theorem u_lFnProducts_14 (P : Program) (k : KT) (e : Env) (w : World) : vcK P t_lFnProducts_14 k e w = vcK P (.seq (.reg [4] [.q 193 [] (.mv (.t 30)), .q 194 [] (.mv (.t 32)), .q 195 [] (.beq false (.t 193) (.t 194)), .q 196 [] (.mv (.t 195)), .q 197 [(196, true)] (.mv (.t 29)), .q 198 [(196, true)] (.mv (.t 31)), .q 199 [(196, true)] (.bin .eql (.t 197) (.t 198)), .q 200 [] (.pick (.t 196) (.t 199) (.c (.bool false))), .q 201 [] (.mv (.t 200)), .q 202 [(201, true)] (.mv (.t 35)), .q 203 [(201, true)] (.mv (.t 37)), .q 204 [(201, true)] (.beq false (.t 202) (.t 203)), .q 205 [] (.pick (.t 201) (.t 204) (.c (.bool false))), .q 206 [] (.mv (.t 205)), .q 207 [(206, true)] (.mv (.t 34)), .q 208 [(206, true)] (.mv (.t 36)), .q 209 [(206, true)] (.bin .eql (.t 207) (.t 208)), .q 210 [] (.pick (.t 206) (.t 209) (.c (.bool false))), .q 4 [] (.mv (.t 210))]) .ret) k e w := rfl
def t_lFnProducts_15 : X := (.seq (.reg [29, 30, 31, 32, 34, 35, 36, 37] [.q 189 [] (.mv (.t 33)), .e (some 190) [] (.call false 33 [(.t 189)]), .q 188 [] (.mv (.t 190)), .q 191 [] (.ext 0 (.t 188)), .q 192 [] (.ext 1 (.t 188)), .q 36 [] (.mv (.t 191)), .q 37 [] (.mv (.t 192))]) t_lFnProducts_14)
theorem u_lFnProducts_15 (P : Program) (k : KT) (e : Env) (w : World) : vcK P t_lFnProducts_15 k e w = vcK P (.seq (.reg [29, 30, 31, 32, 34, 35, 36, 37] [.q 189 [] (.mv (.t 33)), .e (some 190) [] (.call false 33 [(.t 189)]), .q 188 [] (.mv (.t 190)), .q 191 [] (.ext 0 (.t 188)), .q 192 [] (.ext 1 (.t 188)), .q 36 [] (.mv (.t 191)), .q 37 [] (.mv (.t 192))]) t_lFnProducts_14) k e w := rfl
def t_lFnProducts_16 : X := (.seq (.reg [29, 30, 31, 32, 33, 34, 35] [.q 184 [] (.mv (.t 33)), .e (some 185) [] (.call false 27 [(.t 184)]), .q 183 [] (.mv (.t 185)), .q 186 [] (.ext 0 (.t 183)), .q 187 [] (.ext 1 (.t 183)), .q 34 [] (.mv (.t 186)), .q 35 [] (.mv (.t 187))]) t_lFnProducts_15)
theorem u_lFnProducts_16 (P : Program) (k : KT) (e : Env) (w : World) : vcK P t_lFnProducts_16 k e w = vcK P (.seq (.reg [29, 30, 31, 32, 33, 34, 35] [.q 184 [] (.mv (.t 33)), .e (some 185) [] (.call false 27 [(.t 184)]), .q 183 [] (.mv (.t 185)), .q 186 [] (.ext 0 (.t 183)), .q 187 [] (.ext 1 (.t 183)), .q 34 [] (.mv (.t 186)), .q 35 [] (.mv (.t 187))]) t_lFnProducts_15) k e w := rfl
def t_lFnProducts_17 : X := (.seq (.reg [29, 30, 31, 32, 33] [.q 181 [] (.mv (.t 1)), .e (some 182) [] (.call false 32 [(.t 181)]), .q 33 [] (.mv (.t 182))]) t_lFnProducts_16)
theorem u_lFnProducts_17 (P : Program) (k : KT) (e : Env) (w : World) : vcK P t_lFnProducts_17 k e w = vcK P (.seq (.reg [29, 30, 31, 32, 33] [.q 181 [] (.mv (.t 1)), .e (some 182) [] (.call false 32 [(.t 181)]), .q 33 [] (.mv (.t 182))]) t_lFnProducts_16) k e w := rfl
def t_lFnProducts_18 : X := (.seq (.reg [1, 29, 30, 31, 32] [.q 177 [] (.mv (.t 28)), .e (some 178) [] (.call false 31 [(.t 177)]), .q 176 [] (.mv (.t 178)), .q 179 [] (.ext 0 (.t 176)), .q 180 [] (.ext 1 (.t 176)), .q 31 [] (.mv (.t 179)), .q 32 [] (.mv (.t 180))]) t_lFnProducts_17)
theorem u_lFnProducts_18 (P : Program) (k : KT) (e : Env) (w : World) : vcK P t_lFnProducts_18 k e w = vcK P (.seq (.reg [1, 29, 30, 31, 32] [.q 177 [] (.mv (.t 28)), .e (some 178) [] (.call false 31 [(.t 177)]), .q 176 [] (.mv (.t 178)), .q 179 [] (.ext 0 (.t 176)), .q 180 [] (.ext 1 (.t 176)), .q 31 [] (.mv (.t 179)), .q 32 [] (.mv (.t 180))]) t_lFnProducts_17) k e w := rfl
def t_lFnProducts_19 : X := (.seq (.reg [1, 28, 29, 30] [.q 172 [] (.mv (.t 28)), .e (some 173) [] (.call false 29 [(.t 172)]), .q 171 [] (.mv (.t 173)), .q 174 [] (.ext 0 (.t 171)), .q 175 [] (.ext 1 (.t 171)), .q 29 [] (.mv (.t 174)), .q 30 [] (.mv (.t 175))]) t_lFnProducts_18)
theorem u_lFnProducts_19 (P : Program) (k : KT) (e : Env) (w : World) : vcK P t_lFnProducts_19 k e w = vcK P (.seq (.reg [1, 28, 29, 30] [.q 172 [] (.mv (.t 28)), .e (some 173) [] (.call false 29 [(.t 172)]), .q 171 [] (.mv (.t 173)), .q 174 [] (.ext 0 (.t 171)), .q 175 [] (.ext 1 (.t 171)), .q 29 [] (.mv (.t 174)), .q 30 [] (.mv (.t 175))]) t_lFnProducts_18) k e w := rfl
def t_lFnProducts_20 : X := (.seq (.reg [1, 28] [.q 169 [] (.mv (.t 1)), .e (some 170) [] (.call false 30 [(.t 169)]), .q 28 [] (.mv (.t 170))]) t_lFnProducts_19)
theorem u_lFnProducts_20 (P : Program) (k : KT) (e : Env) (w : World) : vcK P t_lFnProducts_20 k e w = vcK P (.seq (.reg [1, 28] [.q 169 [] (.mv (.t 1)), .e (some 170) [] (.call false 30 [(.t 169)]), .q 28 [] (.mv (.t 170))]) t_lFnProducts_19) k e w := rfl
def t_lFnProducts_21 : X := (.seq (.seq (.reg [1, 5, 6, 7, 73] [.q 73 [] (.mv (.t 8))]) t_lFnProducts_13) t_lFnProducts_20)
theorem u_lFnProducts_21 (P : Program) (k : KT) (e : Env) (w : World) : vcK P t_lFnProducts_21 k e w = vcK P (.seq (.seq (.reg [1, 5, 6, 7, 73] [.q 73 [] (.mv (.t 8))]) t_lFnProducts_13) t_lFnProducts_20) k e w := rfl
def t_lFnProducts_22 : X := (.seq (.seq (.reg [1, 5, 6, 7, 8, 72] [.q 58 [] (.mv (.t 8)), .q 59 [] (.mv (.t 10)), .q 60 [] (.beq true (.t 58) (.t 59)), .q 61 [] (.mv (.t 60)), .q 62 [(61, false)] (.mv (.t 7)), .q 63 [(61, false)] (.mv (.t 9)), .q 64 [(61, false)] (.bin .neq (.t 62) (.t 63)), .q 65 [] (.pick (.t 61) (.c (.bool true)) (.t 64)), .q 66 [] (.mv (.t 65)), .q 67 [(66, false)] (.mv (.t 5)), .e (some 68) [(66, false)] (.call false 24 [(.t 67)]), .q 69 [(66, false)] (.mv (.t 5)), .e (some 70) [(66, false)] (.call false 25 [(.t 69)]), .q 71 [(66, false)] (.beq true (.t 68) (.t 70)), .q 72 [] (.pick (.t 66) (.c (.bool true)) (.t 71))]) t_lFnProducts_2) t_lFnProducts_21)
theorem u_lFnProducts_22 (P : Program) (k : KT) (e : Env) (w : World) : vcK P t_lFnProducts_22 k e w = vcK P (.seq (.seq (.reg [1, 5, 6, 7, 8, 72] [.q 58 [] (.mv (.t 8)), .q 59 [] (.mv (.t 10)), .q 60 [] (.beq true (.t 58) (.t 59)), .q 61 [] (.mv (.t 60)), .q 62 [(61, false)] (.mv (.t 7)), .q 63 [(61, false)] (.mv (.t 9)), .q 64 [(61, false)] (.bin .neq (.t 62) (.t 63)), .q 65 [] (.pick (.t 61) (.c (.bool true)) (.t 64)), .q 66 [] (.mv (.t 65)), .q 67 [(66, false)] (.mv (.t 5)), .e (some 68) [(66, false)] (.call false 24 [(.t 67)]), .q 69 [(66, false)] (.mv (.t 5)), .e (some 70) [(66, false)] (.call false 25 [(.t 69)]), .q 71 [(66, false)] (.beq true (.t 68) (.t 70)), .q 72 [] (.pick (.t 66) (.c (.bool true)) (.t 71))]) t_lFnProducts_2) t_lFnProducts_21) k e w := rfl
def t_lFnProducts_23 : X := (.seq (.reg [1, 5, 6, 7, 8, 9, 10] [.q 53 [] (.mv (.t 5)), .q 54 [] (.mv (.t 6)), .e (some 55) [] (.call false 23 [(.t 53), (.t 54)]), .q 52 [] (.mv (.t 55)), .q 56 [] (.ext 0 (.t 52)), .q 57 [] (.ext 1 (.t 52)), .q 9 [] (.mv (.t 56)), .q 10 [] (.mv (.t 57))]) t_lFnProducts_22)
theorem u_lFnProducts_23 (P : Program) (k : KT) (e : Env) (w : World) : vcK P t_lFnProducts_23 k e w = vcK P (.seq (.reg [1, 5, 6, 7, 8, 9, 10] [.q 53 [] (.mv (.t 5)), .q 54 [] (.mv (.t 6)), .e (some 55) [] (.call false 23 [(.t 53), (.t 54)]), .q 52 [] (.mv (.t 55)), .q 56 [] (.ext 0 (.t 52)), .q 57 [] (.ext 1 (.t 52)), .q 9 [] (.mv (.t 56)), .q 10 [] (.mv (.t 57))]) t_lFnProducts_22) k e w := rfl
def t_lFnProducts_24 : X := (.seq (.reg [1, 5, 6, 7, 8] [.q 47 [] (.mv (.t 5)), .q 48 [] (.mv (.t 6)), .e (some 49) [] (.call false 22 [(.t 47), (.t 48)]), .q 46 [] (.mv (.t 49)), .q 50 [] (.ext 0 (.t 46)), .q 51 [] (.ext 1 (.t 46)), .q 7 [] (.mv (.t 50)), .q 8 [] (.mv (.t 51))]) t_lFnProducts_23)
theorem u_lFnProducts_24 (P : Program) (k : KT) (e : Env) (w : World) : vcK P t_lFnProducts_24 k e w = vcK P (.seq (.reg [1, 5, 6, 7, 8] [.q 47 [] (.mv (.t 5)), .q 48 [] (.mv (.t 6)), .e (some 49) [] (.call false 22 [(.t 47), (.t 48)]), .q 46 [] (.mv (.t 49)), .q 50 [] (.ext 0 (.t 46)), .q 51 [] (.ext 1 (.t 46)), .q 7 [] (.mv (.t 50)), .q 8 [] (.mv (.t 51))]) t_lFnProducts_23) k e w := rfl
def t_lFnProducts_25 : X := (.seq (.reg [1, 5, 6] [.q 42 [] (.mv (.t 0)), .e (some 43) [] (.call false 21 [(.t 42)]), .q 41 [] (.mv (.t 43)), .q 44 [] (.ext 0 (.t 41)), .q 45 [] (.ext 1 (.t 41)), .q 5 [] (.mv (.t 44)), .q 6 [] (.mv (.t 45))]) t_lFnProducts_24)
theorem u_lFnProducts_25 (P : Program) (k : KT) (e : Env) (w : World) : vcK P t_lFnProducts_25 k e w = vcK P (.seq (.reg [1, 5, 6] [.q 42 [] (.mv (.t 0)), .e (some 43) [] (.call false 21 [(.t 42)]), .q 41 [] (.mv (.t 43)), .q 44 [] (.ext 0 (.t 41)), .q 45 [] (.ext 1 (.t 41)), .q 5 [] (.mv (.t 44)), .q 6 [] (.mv (.t 45))]) t_lFnProducts_24) k e w := rfl
def t_lFnProducts_26 : X := (.seq (.seq (.reg [0, 1, 40] [.q 38 [] (.mv (.t 0)), .q 39 [] (.mv (.t 1)), .e (some 40) [] (.call false 20 [(.t 38), (.t 39)])]) t_lFnProducts_1) t_lFnProducts_25)
theorem u_lFnProducts_26 (P : Program) (k : KT) (e : Env) (w : World) : vcK P t_lFnProducts_26 k e w = vcK P (.seq (.seq (.reg [0, 1, 40] [.q 38 [] (.mv (.t 0)), .q 39 [] (.mv (.t 1)), .e (some 40) [] (.call false 20 [(.t 38), (.t 39)])]) t_lFnProducts_1) t_lFnProducts_25) k e w := rfl
def x_lFnProducts : X := (.seq (.reg [0, 1] [.q 4 [] (.mv (.c (.bool false)))]) t_lFnProducts_26)
theorem u_lFnProducts (P : Program) (k : KT) (e : Env) (w : World) : vcK P x_lFnProducts k e w = vcK P (.seq (.reg [0, 1] [.q 4 [] (.mv (.c (.bool false)))]) t_lFnProducts_26) k e w := rfl
def r_lFnProducts : List XO := [(.mv (.t 4))]
theorem c_lFnProducts : convF Try.prog [95, 96, 97, 107, 117, 118, 128, 129, 134, 144, 145, 153, 156, 174, 175, 182] Try.f4 [([0, 1], []), ([0, 1, 40], []), ([4], []), ([1, 5, 6], []), ([1, 5, 6, 7, 8], []), ([1, 5, 6, 7, 8, 9, 10], []), ([1, 5, 6, 7, 8, 72], []), ([4], []), ([1, 5, 6, 7, 73], []), ([1, 5, 6, 7, 11], []), ([1, 5, 6, 7, 11, 12, 13], []), ([1, 5, 6, 7, 12, 13, 14, 15], []), ([1, 5, 6, 12, 13, 14, 15, 16, 17], []), ([1, 5, 12, 13, 15, 16, 17, 18, 19], []), ([1, 5, 12, 13, 15, 16, 17, 19, 20, 21], []), ([1, 5, 12, 13, 15, 16, 17, 19, 20, 21, 22, 23], []), ([1, 5, 12, 13, 15, 16, 17, 19, 20, 21, 23, 24, 25], []), ([1, 5, 12, 13, 15, 16, 17, 19, 20, 21, 23, 24, 25, 26, 27], []), ([1, 168], []), ([4], []), ([1, 28], []), ([1, 28, 29, 30], []), ([1, 29, 30, 31, 32], []), ([29, 30, 31, 32, 33], []), ([29, 30, 31, 32, 33, 34, 35], []), ([29, 30, 31, 32, 34, 35, 36, 37], []), ([4], [])] = some (x_lFnProducts, r_lFnProducts) := by kernel_rfl
def us_lFnProducts := And.intro @u_lFnProducts (And.intro @u_lFnProducts_1 (And.intro @u_lFnProducts_2 (And.intro @u_lFnProducts_3 (And.intro @u_lFnProducts_4 (And.intro @u_lFnProducts_5 (And.intro @u_lFnProducts_6 (And.intro @u_lFnProducts_7 (And.intro @u_lFnProducts_8 (And.intro @u_lFnProducts_9 (And.intro @u_lFnProducts_10 (And.intro @u_lFnProducts_11 (And.intro @u_lFnProducts_12 (And.intro @u_lFnProducts_13 (And.intro @u_lFnProducts_14 (And.intro @u_lFnProducts_15 (And.intro @u_lFnProducts_16 (And.intro @u_lFnProducts_17 (And.intro @u_lFnProducts_18 (And.intro @u_lFnProducts_19 (And.intro @u_lFnProducts_20 (And.intro @u_lFnProducts_21 (And.intro @u_lFnProducts_22 (And.intro @u_lFnProducts_23 (And.intro @u_lFnProducts_24 (And.intro @u_lFnProducts_25 @u_lFnProducts_26)))))))))))))))))))))))))

theorem timesV_pos {a b : List UInt8} (ha : IsRow a) (hb : IsRow b) (hl : a.length = b.length) : timesV a b = .tuple ⟨[S (timesL a b), .bool true]⟩ := by rw [timesV, if_pos ⟨ha, hb, hl⟩]
theorem turnRV_pos {a : List UInt8} (ha : IsRow a) : turnRV a = .tuple ⟨[S (turnL a), .bool true]⟩ := by rw [turnRV, if_pos ha]
theorem roundsV_pos {n : Nat} (h : 3 ≤ n ∧ n ≤ 8) : roundsV n = .tuple ⟨[S (roundsL n), .bool true]⟩ := by rw [roundsV, if_pos (by omega)]; rfl
theorem powV_pos {a : List UInt8} {k : Nat} (ha : IsRow a) (h : k ≤ 1000) : powV a k = .tuple ⟨[S (powL a k), .bool true]⟩ := by rw [powV, if_pos ⟨ha, by omega, by omega⟩, powZ, if_neg (by omega)]; rfl
theorem turnRV_two (a : List UInt8) : ∃ x b, turnRV a = .tuple ⟨[S x, .bool b]⟩ := by unfold turnRV; split <;> exact ⟨_, _, rfl⟩
theorem roundsV_two (n : Int) : ∃ x b, roundsV n = .tuple ⟨[S x, .bool b]⟩ := by unfold roundsV; split <;> exact ⟨_, _, rfl⟩
theorem tmod5 (n : Nat) : (n : Int).tmod 5 = ((n % 5 : Nat) : Int) := rfl
theorem lFnProducts_ok (v u : Value) (code more : List UInt8) (hcl : code.length ≤ 9223372036854775807) (hml : more.length ≤ 9223372036854775807) (w : World) (h : Sq fU 1 w v code) (h' : Sq fU 1 w u more) : Fn 4 [v, u] w (fun r _ => r = .bool true) := by
  (refine callsV_of mix Try.func4 c_lFnProducts ?_; simp only [↓vsd, vsn, gW, qd, qv, ev, pick, argE, List.map_cons, List.map_nil, Option.map_some, Option.map_none, zipE, List.cons_append, List.nil_append, ne_eq, eq_self, forall_const, implies_true, if_true, if_false, reduceIte, List.cons.injEq, reduceCtorEq, Nat.reduceEqDiff, List.length_nil, List.length_cons, Nat.reduceAdd, Nat.reduceLT, List.set_cons_zero, List.set_cons_succ, ↓us_lFnProducts, r_lFnProducts])
  refine m_call (lbig_ok v u code more hcl hml _ h h') ?_
  rintro _ w1 hx1 rfl
  simp only [↓vsd, vsn, gW, qd, qv, ev, pick, argE, List.map_cons, List.map_nil, Option.map_some, Option.map_none, zipE, List.cons_append, List.nil_append, ne_eq, eq_self, forall_const, implies_true, if_true, if_false, reduceIte, List.cons.injEq, reduceCtorEq, Nat.reduceEqDiff, List.length_nil, List.length_cons, Nat.reduceAdd, Nat.reduceLT, List.set_cons_zero, List.set_cons_succ, ↓us_lFnProducts, r_lFnProducts]
  refine ⟨fun _ => hx1, fun hsm => ?_⟩
  have hlen : code.length ≤ 1048576 ∧ more.length ≤ 1048576 := by omega
  refine m_call (sDrawTimes_ok v code hlen.1 _ (h.ext hx1)) ?_
  rintro _ w2 hx2 ⟨a, b, rfl, ha10, hb10⟩
  simp only [↓vsd, vsn, gW, qd, qv, ev, pick, argE, List.map_cons, List.map_nil, Option.map_some, Option.map_none, zipE, List.cons_append, List.nil_append, ne_eq, eq_self, forall_const, implies_true, if_true, if_false, reduceIte, List.cons.injEq, reduceCtorEq, Nat.reduceEqDiff, List.length_nil, List.length_cons, Nat.reduceAdd, Nat.reduceLT, List.set_cons_zero, List.set_cons_succ, ↓us_lFnProducts, r_lFnProducts]
  refine m_call (iTimes_ok a b _) ?_
  rintro r3 w3 hx3 hr3
  by_cases hok : IsRow a ∧ IsRow b ∧ a.length = b.length
  · obtain ⟨ha, hb, hab⟩ := hok
    rw [timesV, if_pos ⟨ha, hb, hab⟩] at hr3
    subst hr3
    simp only [↓vsd, vsn, gW, qd, qv, ev, pick, argE, List.map_cons, List.map_nil, Option.map_some, Option.map_none, zipE, List.cons_append, List.nil_append, ne_eq, eq_self, forall_const, implies_true, if_true, if_false, reduceIte, List.cons.injEq, reduceCtorEq, Nat.reduceEqDiff, List.length_nil, List.length_cons, Nat.reduceAdd, Nat.reduceLT, List.set_cons_zero, List.set_cons_succ, ↓us_lFnProducts, r_lFnProducts]
    refine m_call (sTimes_ok a b _) ?_
    rintro r4 w4 hx4 hr4
    rw [timesV, if_pos ⟨ha, hb, hab⟩] at hr4
    subst hr4
    simp only [↓vsd, vsn, gW, qd, qv, ev, pick, argE, List.map_cons, List.map_nil, Option.map_some, Option.map_none, zipE, List.cons_append, List.nil_append, ne_eq, eq_self, forall_const, implies_true, if_true, if_false, reduceIte, List.cons.injEq, reduceCtorEq, Nat.reduceEqDiff, List.length_nil, List.length_cons, Nat.reduceAdd, Nat.reduceLT, List.set_cons_zero, List.set_cons_succ, ↓us_lFnProducts, r_lFnProducts]
    refine m_call (iGoodRow_ok a _) ?_
    rintro _ w5 hx5 rfl
    simp only [↓vsd, vsn, gW, qd, qv, ev, pick, argE, List.map_cons, List.map_nil, Option.map_some, Option.map_none, zipE, List.cons_append, List.nil_append, ne_eq, eq_self, forall_const, implies_true, if_true, if_false, reduceIte, List.cons.injEq, reduceCtorEq, Nat.reduceEqDiff, List.length_nil, List.length_cons, Nat.reduceAdd, Nat.reduceLT, List.set_cons_zero, List.set_cons_succ, ↓us_lFnProducts, r_lFnProducts]
    refine m_call (sGoodRow_ok a _) ?_
    rintro _ w6 hx6 rfl
    simp only [↓vsd, vsn, gW, qd, qv, ev, pick, argE, List.map_cons, List.map_nil, Option.map_some, Option.map_none, zipE, List.cons_append, List.nil_append, ne_eq, eq_self, forall_const, implies_true, if_true, if_false, reduceIte, List.cons.injEq, reduceCtorEq, Nat.reduceEqDiff, List.length_nil, List.length_cons, Nat.reduceAdd, Nat.reduceLT, List.set_cons_zero, List.set_cons_succ, ↓us_lFnProducts, r_lFnProducts]
    have hx16 := hx1.trans (hx2.trans (hx3.trans (hx4.trans (hx5.trans hx6))))
    refine m_call (lnumberOf_ok u more hlen.2 _ (h'.ext hx16)) ?_
    rintro _ w7 hx7 ⟨n, rfl, hn⟩
    have h8 := ha.1
    have hc5 : n % 5 ≤ 1000 := by omega
    have hcr := powL_row hb (n % 5)
    have hcl := powL_len b (n % 5)
    simp only [↓vsd, vsn, gW, qd, qv, ev, pick, argE, List.map_cons, List.map_nil, Option.map_some, Option.map_none, zipE, List.cons_append, List.nil_append, ne_eq, eq_self, forall_const, implies_true, if_true, if_false, reduceIte, List.cons.injEq, reduceCtorEq, Nat.reduceEqDiff, List.length_nil, List.length_cons, Nat.reduceAdd, Nat.reduceLT, List.set_cons_zero, List.set_cons_succ, ↓us_lFnProducts, r_lFnProducts]
    refine m_call (iRoundsOf_ok (a.length : Nat) _) ?_
    rintro r w8 hx8 hr
    rw [roundsV_pos h8] at hr
    subst hr
    simp only [↓vsd, vsn, gW, qd, qv, ev, pick, argE, List.map_cons, List.map_nil, Option.map_some, Option.map_none, zipE, List.cons_append, List.nil_append, ne_eq, eq_self, forall_const, implies_true, if_true, if_false, reduceIte, List.cons.injEq, reduceCtorEq, Nat.reduceEqDiff, List.length_nil, List.length_cons, Nat.reduceAdd, Nat.reduceLT, List.set_cons_zero, List.set_cons_succ, ↓us_lFnProducts, r_lFnProducts, tmod5]
    refine ⟨by decide, m_call (iPowerOf_ok b (n % 5 : Nat) _) ?_⟩
    rintro r w9 hx9 hr
    rw [powV_pos hb hc5] at hr
    subst hr
    simp only [↓vsd, vsn, gW, qd, qv, ev, pick, argE, List.map_cons, List.map_nil, Option.map_some, Option.map_none, zipE, List.cons_append, List.nil_append, ne_eq, eq_self, forall_const, implies_true, if_true, if_false, reduceIte, List.cons.injEq, reduceCtorEq, Nat.reduceEqDiff, List.length_nil, List.length_cons, Nat.reduceAdd, Nat.reduceLT, List.set_cons_zero, List.set_cons_succ, ↓us_lFnProducts, r_lFnProducts]
    refine m_call (iTimes_ok _ _ _) ?_
    rintro r w10 hx10 hr
    rw [timesV_pos (timesL_row ha hb hab) hcr (by rw [timesL_len]; omega)] at hr
    subst hr
    simp only [↓vsd, vsn, gW, qd, qv, ev, pick, argE, List.map_cons, List.map_nil, Option.map_some, Option.map_none, zipE, List.cons_append, List.nil_append, ne_eq, eq_self, forall_const, implies_true, if_true, if_false, reduceIte, List.cons.injEq, reduceCtorEq, Nat.reduceEqDiff, List.length_nil, List.length_cons, Nat.reduceAdd, Nat.reduceLT, List.set_cons_zero, List.set_cons_succ, ↓us_lFnProducts, r_lFnProducts]
    refine m_call (iTimes_ok _ _ _) ?_
    rintro r w11 hx11 hr
    rw [timesV_pos hb hcr (by omega)] at hr
    subst hr
    simp only [↓vsd, vsn, gW, qd, qv, ev, pick, argE, List.map_cons, List.map_nil, Option.map_some, Option.map_none, zipE, List.cons_append, List.nil_append, ne_eq, eq_self, forall_const, implies_true, if_true, if_false, reduceIte, List.cons.injEq, reduceCtorEq, Nat.reduceEqDiff, List.length_nil, List.length_cons, Nat.reduceAdd, Nat.reduceLT, List.set_cons_zero, List.set_cons_succ, ↓us_lFnProducts, r_lFnProducts]
    refine m_call (iTimes_ok _ _ _) ?_
    rintro r w12 hx12 hr
    rw [timesV_pos ha (timesL_row hb hcr (by omega)) (by rw [timesL_len]; omega)] at hr
    subst hr
    simp only [↓vsd, vsn, gW, qd, qv, ev, pick, argE, List.map_cons, List.map_nil, Option.map_some, Option.map_none, zipE, List.cons_append, List.nil_append, ne_eq, eq_self, forall_const, implies_true, if_true, if_false, reduceIte, List.cons.injEq, reduceCtorEq, Nat.reduceEqDiff, List.length_nil, List.length_cons, Nat.reduceAdd, Nat.reduceLT, List.set_cons_zero, List.set_cons_succ, ↓us_lFnProducts, r_lFnProducts]
    refine m_call (iTurnRow_ok _ _) ?_
    rintro r w13 hx13 hr
    rw [turnRV_pos ha] at hr
    subst hr
    simp only [↓vsd, vsn, gW, qd, qv, ev, pick, argE, List.map_cons, List.map_nil, Option.map_some, Option.map_none, zipE, List.cons_append, List.nil_append, ne_eq, eq_self, forall_const, implies_true, if_true, if_false, reduceIte, List.cons.injEq, reduceCtorEq, Nat.reduceEqDiff, List.length_nil, List.length_cons, Nat.reduceAdd, Nat.reduceLT, List.set_cons_zero, List.set_cons_succ, ↓us_lFnProducts, r_lFnProducts]
    refine m_call (iTimes_ok _ _ _) ?_
    rintro r w14 hx14 hr
    rw [timesV_pos ha (turnL_row ha) (by rw [turnL_len])] at hr
    subst hr
    simp only [↓vsd, vsn, gW, qd, qv, ev, pick, argE, List.map_cons, List.map_nil, Option.map_some, Option.map_none, zipE, List.cons_append, List.nil_append, ne_eq, eq_self, forall_const, implies_true, if_true, if_false, reduceIte, List.cons.injEq, reduceCtorEq, Nat.reduceEqDiff, List.length_nil, List.length_cons, Nat.reduceAdd, Nat.reduceLT, List.set_cons_zero, List.set_cons_succ, ↓us_lFnProducts, r_lFnProducts]
    refine m_call (iTimes_ok _ _ _) ?_
    rintro r w15 hx15 hr
    rw [timesV_pos ha (roundsL_row _ h8) (by rw [roundsL_len])] at hr
    subst hr
    have e1 := timesL_assoc a hcr (by omega : b.length = (powL b (n % 5)).length)
    have e2 := times_turn ha
    have e3 := times_rounds (a := a) (by omega)
    simp only [↓vsd, vsn, gW, qd, qv, ev, pick, argE, List.map_cons, List.map_nil, Option.map_some, Option.map_none, zipE, List.cons_append, List.nil_append, ne_eq, eq_self, forall_const, implies_true, if_true, if_false, reduceIte, List.cons.injEq, reduceCtorEq, Nat.reduceEqDiff, List.length_nil, List.length_cons, Nat.reduceAdd, Nat.reduceLT, List.set_cons_zero, List.set_cons_succ, ↓us_lFnProducts, r_lFnProducts, e1, e2, e3]
    have hxA := hx16.trans (hx7.trans (hx8.trans (hx9.trans (hx10.trans (hx11.trans (hx12.trans (hx13.trans (hx14.trans hx15))))))))
    refine m_call (sDrawTurnRow_ok u more hlen.2 _ (h'.ext hxA)) ?_
    rintro _ z1 hz1 ⟨d, rfl, hd10⟩
    simp only [↓vsd, vsn, gW, qd, qv, ev, pick, argE, List.map_cons, List.map_nil, Option.map_some, Option.map_none, zipE, List.cons_append, List.nil_append, ne_eq, eq_self, forall_const, implies_true, if_true, if_false, reduceIte, List.cons.injEq, reduceCtorEq, Nat.reduceEqDiff, List.length_nil, List.length_cons, Nat.reduceAdd, Nat.reduceLT, List.set_cons_zero, List.set_cons_succ, ↓us_lFnProducts, r_lFnProducts]
    refine m_call (iTurnRow_ok d _) ?_
    rintro r z2 hz2 hr
    obtain ⟨x1, b1, e1⟩ := turnRV_two d
    rw [e1] at hr
    subst hr
    simp only [↓vsd, vsn, gW, qd, qv, ev, pick, argE, List.map_cons, List.map_nil, Option.map_some, Option.map_none, zipE, List.cons_append, List.nil_append, ne_eq, eq_self, forall_const, implies_true, if_true, if_false, reduceIte, List.cons.injEq, reduceCtorEq, Nat.reduceEqDiff, List.length_nil, List.length_cons, Nat.reduceAdd, Nat.reduceLT, List.set_cons_zero, List.set_cons_succ, ↓us_lFnProducts, r_lFnProducts]
    refine m_call (sTurnRow_ok d _) ?_
    rintro r z3 hz3 hr
    rw [e1] at hr
    subst hr
    simp only [↓vsd, vsn, gW, qd, qv, ev, pick, argE, List.map_cons, List.map_nil, Option.map_some, Option.map_none, zipE, List.cons_append, List.nil_append, ne_eq, eq_self, forall_const, implies_true, if_true, if_false, reduceIte, List.cons.injEq, reduceCtorEq, Nat.reduceEqDiff, List.length_nil, List.length_cons, Nat.reduceAdd, Nat.reduceLT, List.set_cons_zero, List.set_cons_succ, ↓us_lFnProducts, r_lFnProducts]
    have hz13 := hz1.trans (hz2.trans hz3)
    refine m_call (sDrawRoundsOf_ok u more hlen.2 _ (h'.ext (Ext.trans hxA hz13))) ?_
    rintro _ z4 hz4 ⟨m, rfl, hm⟩
    simp only [↓vsd, vsn, gW, qd, qv, ev, pick, argE, List.map_cons, List.map_nil, Option.map_some, Option.map_none, zipE, List.cons_append, List.nil_append, ne_eq, eq_self, forall_const, implies_true, if_true, if_false, reduceIte, List.cons.injEq, reduceCtorEq, Nat.reduceEqDiff, List.length_nil, List.length_cons, Nat.reduceAdd, Nat.reduceLT, List.set_cons_zero, List.set_cons_succ, ↓us_lFnProducts, r_lFnProducts]
    refine m_call (iRoundsOf_ok m _) ?_
    rintro r z5 hz5 hr
    obtain ⟨x2, b2, e2⟩ := roundsV_two m
    rw [e2] at hr
    subst hr
    simp only [↓vsd, vsn, gW, qd, qv, ev, pick, argE, List.map_cons, List.map_nil, Option.map_some, Option.map_none, zipE, List.cons_append, List.nil_append, ne_eq, eq_self, forall_const, implies_true, if_true, if_false, reduceIte, List.cons.injEq, reduceCtorEq, Nat.reduceEqDiff, List.length_nil, List.length_cons, Nat.reduceAdd, Nat.reduceLT, List.set_cons_zero, List.set_cons_succ, ↓us_lFnProducts, r_lFnProducts]
    refine m_call (sRoundsOf_ok m _) ?_
    rintro r z6 hz6 hr
    rw [e2] at hr
    subst hr
    simp only [↓vsd, vsn, gW, qd, qv, ev, pick, argE, List.map_cons, List.map_nil, Option.map_some, Option.map_none, zipE, List.cons_append, List.nil_append, ne_eq, eq_self, forall_const, implies_true, if_true, if_false, reduceIte, List.cons.injEq, reduceCtorEq, Nat.reduceEqDiff, List.length_nil, List.length_cons, Nat.reduceAdd, Nat.reduceLT, List.set_cons_zero, List.set_cons_succ, ↓us_lFnProducts, r_lFnProducts]
    exact (Ext.trans hxA hz13).trans (hz4.trans (hz5.trans hz6))
  · rw [timesV, if_neg hok] at hr3
    subst hr3
    simp only [↓vsd, vsn, gW, qd, qv, ev, pick, argE, List.map_cons, List.map_nil, Option.map_some, Option.map_none, zipE, List.cons_append, List.nil_append, ne_eq, eq_self, forall_const, implies_true, if_true, if_false, reduceIte, List.cons.injEq, reduceCtorEq, Nat.reduceEqDiff, List.length_nil, List.length_cons, Nat.reduceAdd, Nat.reduceLT, List.set_cons_zero, List.set_cons_succ, ↓us_lFnProducts, r_lFnProducts]
    refine m_call (sTimes_ok a b _) ?_
    rintro r4 w4 hx4 hr4
    rw [timesV, if_neg hok] at hr4
    subst hr4
    simp only [↓vsd, vsn, gW, qd, qv, ev, pick, argE, List.map_cons, List.map_nil, Option.map_some, Option.map_none, zipE, List.cons_append, List.nil_append, ne_eq, eq_self, forall_const, implies_true, if_true, if_false, reduceIte, List.cons.injEq, reduceCtorEq, Nat.reduceEqDiff, List.length_nil, List.length_cons, Nat.reduceAdd, Nat.reduceLT, List.set_cons_zero, List.set_cons_succ, ↓us_lFnProducts, r_lFnProducts]
    refine m_call (iGoodRow_ok a _) ?_
    rintro _ w5 hx5 rfl
    simp only [↓vsd, vsn, gW, qd, qv, ev, pick, argE, List.map_cons, List.map_nil, Option.map_some, Option.map_none, zipE, List.cons_append, List.nil_append, ne_eq, eq_self, forall_const, implies_true, if_true, if_false, reduceIte, List.cons.injEq, reduceCtorEq, Nat.reduceEqDiff, List.length_nil, List.length_cons, Nat.reduceAdd, Nat.reduceLT, List.set_cons_zero, List.set_cons_succ, ↓us_lFnProducts, r_lFnProducts]
    refine m_call (sGoodRow_ok a _) ?_
    rintro _ w6 hx6 rfl
    simp only [↓vsd, vsn, gW, qd, qv, ev, pick, argE, List.map_cons, List.map_nil, Option.map_some, Option.map_none, zipE, List.cons_append, List.nil_append, ne_eq, eq_self, forall_const, implies_true, if_true, if_false, reduceIte, List.cons.injEq, reduceCtorEq, Nat.reduceEqDiff, List.length_nil, List.length_cons, Nat.reduceAdd, Nat.reduceLT, List.set_cons_zero, List.set_cons_succ, ↓us_lFnProducts, r_lFnProducts]
    have hx16 := hx1.trans (hx2.trans (hx3.trans (hx4.trans (hx5.trans hx6))))
    refine m_call (sDrawTurnRow_ok u more hlen.2 _ (h'.ext hx16)) ?_
    rintro _ z1 hz1 ⟨d, rfl, hd10⟩
    simp only [↓vsd, vsn, gW, qd, qv, ev, pick, argE, List.map_cons, List.map_nil, Option.map_some, Option.map_none, zipE, List.cons_append, List.nil_append, ne_eq, eq_self, forall_const, implies_true, if_true, if_false, reduceIte, List.cons.injEq, reduceCtorEq, Nat.reduceEqDiff, List.length_nil, List.length_cons, Nat.reduceAdd, Nat.reduceLT, List.set_cons_zero, List.set_cons_succ, ↓us_lFnProducts, r_lFnProducts]
    refine m_call (iTurnRow_ok d _) ?_
    rintro r z2 hz2 hr
    obtain ⟨x1, b1, e1⟩ := turnRV_two d
    rw [e1] at hr
    subst hr
    simp only [↓vsd, vsn, gW, qd, qv, ev, pick, argE, List.map_cons, List.map_nil, Option.map_some, Option.map_none, zipE, List.cons_append, List.nil_append, ne_eq, eq_self, forall_const, implies_true, if_true, if_false, reduceIte, List.cons.injEq, reduceCtorEq, Nat.reduceEqDiff, List.length_nil, List.length_cons, Nat.reduceAdd, Nat.reduceLT, List.set_cons_zero, List.set_cons_succ, ↓us_lFnProducts, r_lFnProducts]
    refine m_call (sTurnRow_ok d _) ?_
    rintro r z3 hz3 hr
    rw [e1] at hr
    subst hr
    simp only [↓vsd, vsn, gW, qd, qv, ev, pick, argE, List.map_cons, List.map_nil, Option.map_some, Option.map_none, zipE, List.cons_append, List.nil_append, ne_eq, eq_self, forall_const, implies_true, if_true, if_false, reduceIte, List.cons.injEq, reduceCtorEq, Nat.reduceEqDiff, List.length_nil, List.length_cons, Nat.reduceAdd, Nat.reduceLT, List.set_cons_zero, List.set_cons_succ, ↓us_lFnProducts, r_lFnProducts]
    have hz13 := hz1.trans (hz2.trans hz3)
    refine m_call (sDrawRoundsOf_ok u more hlen.2 _ (h'.ext (Ext.trans hx16 hz13))) ?_
    rintro _ z4 hz4 ⟨m, rfl, hm⟩
    simp only [↓vsd, vsn, gW, qd, qv, ev, pick, argE, List.map_cons, List.map_nil, Option.map_some, Option.map_none, zipE, List.cons_append, List.nil_append, ne_eq, eq_self, forall_const, implies_true, if_true, if_false, reduceIte, List.cons.injEq, reduceCtorEq, Nat.reduceEqDiff, List.length_nil, List.length_cons, Nat.reduceAdd, Nat.reduceLT, List.set_cons_zero, List.set_cons_succ, ↓us_lFnProducts, r_lFnProducts]
    refine m_call (iRoundsOf_ok m _) ?_
    rintro r z5 hz5 hr
    obtain ⟨x2, b2, e2⟩ := roundsV_two m
    rw [e2] at hr
    subst hr
    simp only [↓vsd, vsn, gW, qd, qv, ev, pick, argE, List.map_cons, List.map_nil, Option.map_some, Option.map_none, zipE, List.cons_append, List.nil_append, ne_eq, eq_self, forall_const, implies_true, if_true, if_false, reduceIte, List.cons.injEq, reduceCtorEq, Nat.reduceEqDiff, List.length_nil, List.length_cons, Nat.reduceAdd, Nat.reduceLT, List.set_cons_zero, List.set_cons_succ, ↓us_lFnProducts, r_lFnProducts]
    refine m_call (sRoundsOf_ok m _) ?_
    rintro r z6 hz6 hr
    rw [e2] at hr
    subst hr
    simp only [↓vsd, vsn, gW, qd, qv, ev, pick, argE, List.map_cons, List.map_nil, Option.map_some, Option.map_none, zipE, List.cons_append, List.nil_append, ne_eq, eq_self, forall_const, implies_true, if_true, if_false, reduceIte, List.cons.injEq, reduceCtorEq, Nat.reduceEqDiff, List.length_nil, List.length_cons, Nat.reduceAdd, Nat.reduceLT, List.set_cons_zero, List.set_cons_succ, ↓us_lFnProducts, r_lFnProducts]
    exact (Ext.trans hx16 hz13).trans (hz4.trans (hz5.trans hz6))
end Go.Proofs.Ytnocgihggdgkeaa
