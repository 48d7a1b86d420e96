/-
  The call of the law FnPairs.
  Conditions: none.
-/
import Derived.Test.YtjcnmobdlkmaeaaD20
import Derived.Test.YtjcnmobdlkmaeaaD7
set_option linter.unusedSimpArgs false
set_option linter.unusedVariables false
set_option linter.defProp false
namespace Go.Proofs.Ytjcnmobdlkmaeaa
open Go Go.RowKit
def t_lFnPairs_1 : X := (.cond (.t 39) (.seq (.reg [4] (.c (.q 4 [] (.mv (.c (.bool true)))) .nil)) .ret) .skip)
theorem u_lFnPairs_1 (P : Program) (k : KT) (e : Env) (w : World) : vcK P t_lFnPairs_1 k e w = vcK P (.cond (.t 39) (.seq (.reg [4] (.c (.q 4 [] (.mv (.c (.bool true)))) .nil)) .ret) .skip) k e w := rfl
def t_lFnPairs_2 : X := (.cond (.t 64) (.seq (.reg [4] (.c (.q 4 [] (.mv (.c (.bool false)))) .nil)) .ret) .skip)
theorem u_lFnPairs_2 (P : Program) (k : KT) (e : Env) (w : World) : vcK P t_lFnPairs_2 k e w = vcK P (.cond (.t 64) (.seq (.reg [4] (.c (.q 4 [] (.mv (.c (.bool false)))) .nil)) .ret) .skip) k e w := rfl
def t_lFnPairs_3 : X := (.cond (.t 131) (.seq (.reg [4] (.c (.q 4 [] (.mv (.c (.bool false)))) .nil)) .ret) .skip)
theorem u_lFnPairs_3 (P : Program) (k : KT) (e : Env) (w : World) : vcK P t_lFnPairs_3 k e w = vcK P (.cond (.t 131) (.seq (.reg [4] (.c (.q 4 [] (.mv (.c (.bool false)))) .nil)) .ret) .skip) k e w := rfl
def t_lFnPairs_4 : X := (.cond (.t 156) (.seq (.reg [4] (.c (.q 4 [] (.mv (.c (.bool false)))) .nil)) .ret) .skip)
theorem u_lFnPairs_4 (P : Program) (k : KT) (e : Env) (w : World) : vcK P t_lFnPairs_4 k e w = vcK P (.cond (.t 156) (.seq (.reg [4] (.c (.q 4 [] (.mv (.c (.bool false)))) .nil)) .ret) .skip) k e w := rfl
def t_lFnPairs_5 : X := (.seq (.drw [1, 5, 7, 17, 132, 133, 134, 156] (.c (.q 138 [] (.mv (.t 20))) (.c (.q 139 [] (.bin .lss (.t 138) (.c (.int .i64 1)))) (.c (.q 140 [] (.mv (.t 139))) (.c (.q 141 [(140, false)] (.mv (.t 20))) (.c (.q 142 [(140, false)] (.mv (.t 5))) (.c (.q 143 [(140, false)] (.len (.t 142))) (.c (.q 144 [(140, false)] (.bin .gtr (.t 141) (.t 143))) (.c (.q 145 [] (.pick (.t 140) (.c (.bool true)) (.t 144))) (.c (.q 146 [] (.mv (.t 145))) (.c (.q 147 [(146, false)] (.mv (.t 7))) (.c (.q 148 [(146, false)] (.mv (.t 20))) (.c (.q 149 [(146, false)] (.bin .sub (.t 148) (.c (.int .i64 1)))) (.c (.q 150 [(146, false)] (.idx (.t 147) (.t 149))) (.c (.q 151 [(146, false)] (.mv (.t 5))) (.c (.q 152 [(146, false)] (.mv (.t 20))) (.c (.q 153 [(146, false)] (.bin .sub (.t 152) (.c (.int .i64 1)))) (.c (.q 154 [(146, false)] (.idx (.t 151) (.t 153))) (.c (.q 155 [(146, false)] (.bin .neq (.t 150) (.t 154))) (.c (.q 156 [] (.pick (.t 146) (.c (.bool true)) (.t 155))) .nil)))))))))))))))))))) t_lFnPairs_4)
theorem u_lFnPairs_5 (P : Program) (k : KT) (e : Env) (w : World) : vcK P t_lFnPairs_5 k e w = vcK P (.seq (.drw [1, 5, 7, 17, 132, 133, 134, 156] (.c (.q 138 [] (.mv (.t 20))) (.c (.q 139 [] (.bin .lss (.t 138) (.c (.int .i64 1)))) (.c (.q 140 [] (.mv (.t 139))) (.c (.q 141 [(140, false)] (.mv (.t 20))) (.c (.q 142 [(140, false)] (.mv (.t 5))) (.c (.q 143 [(140, false)] (.len (.t 142))) (.c (.q 144 [(140, false)] (.bin .gtr (.t 141) (.t 143))) (.c (.q 145 [] (.pick (.t 140) (.c (.bool true)) (.t 144))) (.c (.q 146 [] (.mv (.t 145))) (.c (.q 147 [(146, false)] (.mv (.t 7))) (.c (.q 148 [(146, false)] (.mv (.t 20))) (.c (.q 149 [(146, false)] (.bin .sub (.t 148) (.c (.int .i64 1)))) (.c (.q 150 [(146, false)] (.idx (.t 147) (.t 149))) (.c (.q 151 [(146, false)] (.mv (.t 5))) (.c (.q 152 [(146, false)] (.mv (.t 20))) (.c (.q 153 [(146, false)] (.bin .sub (.t 152) (.c (.int .i64 1)))) (.c (.q 154 [(146, false)] (.idx (.t 151) (.t 153))) (.c (.q 155 [(146, false)] (.bin .neq (.t 150) (.t 154))) (.c (.q 156 [] (.pick (.t 146) (.c (.bool true)) (.t 155))) .nil)))))))))))))))))))) t_lFnPairs_4) k e w := rfl
def t_lFnPairs_6 : X := (.reg [1, 5, 7, 17, 132, 133, 134] (.c (.q 157 [] (.bin .add (.t 134) (.c (.int .i64 1)))) (.c (.q 134 [] (.mv (.t 157))) .nil)))
theorem u_lFnPairs_6 (P : Program) (k : KT) (e : Env) (w : World) : vcK P t_lFnPairs_6 k e w = vcK P (.reg [1, 5, 7, 17, 132, 133, 134] (.c (.q 157 [] (.bin .add (.t 134) (.c (.int .i64 1)))) (.c (.q 134 [] (.mv (.t 157))) .nil))) k e w := rfl
def t_lFnPairs_7 : X := (.seq (.blk 1 (.seq (.reg [1, 5, 7, 17, 20, 132, 133, 134] (.c (.q 136 [] (.ia 1 (.t 132) (.t 134))) (.c (.q 137 [] (.ld (.t 136))) (.c (.q 20 [] (.mv (.t 137))) .nil)))) t_lFnPairs_5)) t_lFnPairs_6)
theorem u_lFnPairs_7 (P : Program) (k : KT) (e : Env) (w : World) : vcK P t_lFnPairs_7 k e w = vcK P (.seq (.blk 1 (.seq (.reg [1, 5, 7, 17, 20, 132, 133, 134] (.c (.q 136 [] (.ia 1 (.t 132) (.t 134))) (.c (.q 137 [] (.ld (.t 136))) (.c (.q 20 [] (.mv (.t 137))) .nil)))) t_lFnPairs_5)) t_lFnPairs_6) k e w := rfl
def t_lFnPairs_8 : X := (.seq (.cond (.t 135) .skip (.exit 0)) t_lFnPairs_7)
theorem u_lFnPairs_8 (P : Program) (k : KT) (e : Env) (w : World) : vcK P t_lFnPairs_8 k e w = vcK P (.seq (.cond (.t 135) .skip (.exit 0)) t_lFnPairs_7) k e w := rfl
def t_lFnPairs_9 : X := (.seq (.reg [1, 5, 7, 17, 132, 133, 134, 135] (.c (.q 135 [] (.bin .lss (.t 134) (.t 133))) .nil)) t_lFnPairs_8)
theorem u_lFnPairs_9 (P : Program) (k : KT) (e : Env) (w : World) : vcK P t_lFnPairs_9 k e w = vcK P (.seq (.reg [1, 5, 7, 17, 132, 133, 134, 135] (.c (.q 135 [] (.bin .lss (.t 134) (.t 133))) .nil)) t_lFnPairs_8) k e w := rfl
def t_lFnPairs_10 : X := (.blk 0 (.loop [134] [1, 5, 7, 17, 132, 133] t_lFnPairs_9))
theorem u_lFnPairs_10 (P : Program) (k : KT) (e : Env) (w : World) : vcK P t_lFnPairs_10 k e w = vcK P (.blk 0 (.loop [134] [1, 5, 7, 17, 132, 133] t_lFnPairs_9)) k e w := rfl
def t_lFnPairs_11 : X := (.cond (.t 191) (.seq (.reg [4] (.c (.q 4 [] (.mv (.c (.bool false)))) .nil)) .ret) .skip)
theorem u_lFnPairs_11 (P : Program) (k : KT) (e : Env) (w : World) : vcK P t_lFnPairs_11 k e w = vcK P (.cond (.t 191) (.seq (.reg [4] (.c (.q 4 [] (.mv (.c (.bool false)))) .nil)) .ret) .skip) k e w := rfl
def t_lFnPairs_12 : X := (.seq (.drw [1, 5, 7, 158, 159, 160, 191] (.c (.q 164 [] (.mv (.t 22))) (.c (.q 165 [] (.bin .lss (.t 164) (.c (.int .i64 1)))) (.c (.q 166 [] (.mv (.t 165))) (.c (.q 167 [(166, false)] (.mv (.t 22))) (.c (.q 168 [(166, false)] (.mv (.t 5))) (.c (.q 169 [(166, false)] (.len (.t 168))) (.c (.q 170 [(166, false)] (.bin .geq (.t 167) (.t 169))) (.c (.q 171 [] (.pick (.t 166) (.c (.bool true)) (.t 170))) (.c (.q 172 [] (.mv (.t 171))) (.c (.q 173 [(172, false)] (.mv (.t 7))) (.c (.q 174 [(172, false)] (.mv (.t 22))) (.c (.q 175 [(172, false)] (.bin .sub (.t 174) (.c (.int .i64 1)))) (.c (.q 176 [(172, false)] (.idx (.t 173) (.t 175))) (.c (.q 177 [(172, false)] (.mv (.t 5))) (.c (.q 178 [(172, false)] (.mv (.t 22))) (.c (.q 179 [(172, false)] (.idx (.t 177) (.t 178))) (.c (.q 180 [(172, false)] (.bin .neq (.t 176) (.t 179))) (.c (.q 181 [] (.pick (.t 172) (.c (.bool true)) (.t 180))) (.c (.q 182 [] (.mv (.t 181))) (.c (.q 183 [(182, false)] (.mv (.t 7))) (.c (.q 184 [(182, false)] (.mv (.t 22))) (.c (.q 185 [(182, false)] (.idx (.t 183) (.t 184))) (.c (.q 186 [(182, false)] (.mv (.t 5))) (.c (.q 187 [(182, false)] (.mv (.t 22))) (.c (.q 188 [(182, false)] (.bin .sub (.t 187) (.c (.int .i64 1)))) (.c (.q 189 [(182, false)] (.idx (.t 186) (.t 188))) (.c (.q 190 [(182, false)] (.bin .neq (.t 185) (.t 189))) (.c (.q 191 [] (.pick (.t 182) (.c (.bool true)) (.t 190))) .nil))))))))))))))))))))))))))))) t_lFnPairs_11)
theorem u_lFnPairs_12 (P : Program) (k : KT) (e : Env) (w : World) : vcK P t_lFnPairs_12 k e w = vcK P (.seq (.drw [1, 5, 7, 158, 159, 160, 191] (.c (.q 164 [] (.mv (.t 22))) (.c (.q 165 [] (.bin .lss (.t 164) (.c (.int .i64 1)))) (.c (.q 166 [] (.mv (.t 165))) (.c (.q 167 [(166, false)] (.mv (.t 22))) (.c (.q 168 [(166, false)] (.mv (.t 5))) (.c (.q 169 [(166, false)] (.len (.t 168))) (.c (.q 170 [(166, false)] (.bin .geq (.t 167) (.t 169))) (.c (.q 171 [] (.pick (.t 166) (.c (.bool true)) (.t 170))) (.c (.q 172 [] (.mv (.t 171))) (.c (.q 173 [(172, false)] (.mv (.t 7))) (.c (.q 174 [(172, false)] (.mv (.t 22))) (.c (.q 175 [(172, false)] (.bin .sub (.t 174) (.c (.int .i64 1)))) (.c (.q 176 [(172, false)] (.idx (.t 173) (.t 175))) (.c (.q 177 [(172, false)] (.mv (.t 5))) (.c (.q 178 [(172, false)] (.mv (.t 22))) (.c (.q 179 [(172, false)] (.idx (.t 177) (.t 178))) (.c (.q 180 [(172, false)] (.bin .neq (.t 176) (.t 179))) (.c (.q 181 [] (.pick (.t 172) (.c (.bool true)) (.t 180))) (.c (.q 182 [] (.mv (.t 181))) (.c (.q 183 [(182, false)] (.mv (.t 7))) (.c (.q 184 [(182, false)] (.mv (.t 22))) (.c (.q 185 [(182, false)] (.idx (.t 183) (.t 184))) (.c (.q 186 [(182, false)] (.mv (.t 5))) (.c (.q 187 [(182, false)] (.mv (.t 22))) (.c (.q 188 [(182, false)] (.bin .sub (.t 187) (.c (.int .i64 1)))) (.c (.q 189 [(182, false)] (.idx (.t 186) (.t 188))) (.c (.q 190 [(182, false)] (.bin .neq (.t 185) (.t 189))) (.c (.q 191 [] (.pick (.t 182) (.c (.bool true)) (.t 190))) .nil))))))))))))))))))))))))))))) t_lFnPairs_11) k e w := rfl
def t_lFnPairs_13 : X := (.reg [1, 5, 7, 158, 159, 160] (.c (.q 192 [] (.bin .add (.t 160) (.c (.int .i64 1)))) (.c (.q 160 [] (.mv (.t 192))) .nil)))
theorem u_lFnPairs_13 (P : Program) (k : KT) (e : Env) (w : World) : vcK P t_lFnPairs_13 k e w = vcK P (.reg [1, 5, 7, 158, 159, 160] (.c (.q 192 [] (.bin .add (.t 160) (.c (.int .i64 1)))) (.c (.q 160 [] (.mv (.t 192))) .nil))) k e w := rfl
def t_lFnPairs_14 : X := (.seq (.blk 3 (.seq (.reg [1, 5, 7, 22, 158, 159, 160] (.c (.q 162 [] (.ia 1 (.t 158) (.t 160))) (.c (.q 163 [] (.ld (.t 162))) (.c (.q 22 [] (.mv (.t 163))) .nil)))) t_lFnPairs_12)) t_lFnPairs_13)
theorem u_lFnPairs_14 (P : Program) (k : KT) (e : Env) (w : World) : vcK P t_lFnPairs_14 k e w = vcK P (.seq (.blk 3 (.seq (.reg [1, 5, 7, 22, 158, 159, 160] (.c (.q 162 [] (.ia 1 (.t 158) (.t 160))) (.c (.q 163 [] (.ld (.t 162))) (.c (.q 22 [] (.mv (.t 163))) .nil)))) t_lFnPairs_12)) t_lFnPairs_13) k e w := rfl
def t_lFnPairs_15 : X := (.seq (.cond (.t 161) .skip (.exit 2)) t_lFnPairs_14)
theorem u_lFnPairs_15 (P : Program) (k : KT) (e : Env) (w : World) : vcK P t_lFnPairs_15 k e w = vcK P (.seq (.cond (.t 161) .skip (.exit 2)) t_lFnPairs_14) k e w := rfl
def t_lFnPairs_16 : X := (.seq (.reg [1, 5, 7, 158, 159, 160, 161] (.c (.q 161 [] (.bin .lss (.t 160) (.t 159))) .nil)) t_lFnPairs_15)
theorem u_lFnPairs_16 (P : Program) (k : KT) (e : Env) (w : World) : vcK P t_lFnPairs_16 k e w = vcK P (.seq (.reg [1, 5, 7, 158, 159, 160, 161] (.c (.q 161 [] (.bin .lss (.t 160) (.t 159))) .nil)) t_lFnPairs_15) k e w := rfl
def t_lFnPairs_17 : X := (.blk 2 (.loop [160] [1, 5, 7, 158, 159] t_lFnPairs_16))
theorem u_lFnPairs_17 (P : Program) (k : KT) (e : Env) (w : World) : vcK P t_lFnPairs_17 k e w = vcK P (.blk 2 (.loop [160] [1, 5, 7, 158, 159] t_lFnPairs_16)) k e w := rfl
def t_lFnPairs_18 : X := (.seq (.reg [1, 5, 7, 158, 159, 160] (.c (.q 158 [] (.mv (.t 17))) (.c (.q 159 [] (.lens (.t 158))) (.c (.q 160 [] (.mv (.c (.int .i64 0)))) .nil)))) t_lFnPairs_17)
theorem u_lFnPairs_18 (P : Program) (k : KT) (e : Env) (w : World) : vcK P t_lFnPairs_18 k e w = vcK P (.seq (.reg [1, 5, 7, 158, 159, 160] (.c (.q 158 [] (.mv (.t 17))) (.c (.q 159 [] (.lens (.t 158))) (.c (.q 160 [] (.mv (.c (.int .i64 0)))) .nil)))) t_lFnPairs_17) k e w := rfl
def t_lFnPairs_19 : X := (.seq (.seq (.reg [1, 5, 7, 17, 132, 133, 134] (.c (.q 132 [] (.mv (.t 15))) (.c (.q 133 [] (.lens (.t 132))) (.c (.q 134 [] (.mv (.c (.int .i64 0)))) .nil)))) t_lFnPairs_10) t_lFnPairs_18)
theorem u_lFnPairs_19 (P : Program) (k : KT) (e : Env) (w : World) : vcK P t_lFnPairs_19 k e w = vcK P (.seq (.seq (.reg [1, 5, 7, 17, 132, 133, 134] (.c (.q 132 [] (.mv (.t 15))) (.c (.q 133 [] (.lens (.t 132))) (.c (.q 134 [] (.mv (.c (.int .i64 0)))) .nil)))) t_lFnPairs_10) t_lFnPairs_18) k e w := rfl
def t_lFnPairs_20 : X := (.seq (.seq (.reg [1, 5, 7, 15, 17, 131] (.c (.q 92 [] (.mv (.t 12))) (.c (.q 93 [] (.not (.t 92))) (.c (.q 94 [] (.mv (.t 93))) (.c (.q 95 [(94, false)] (.mv (.t 11))) (.c (.q 96 [(94, false)] (.mv (.t 5))) (.c (.q 97 [(94, false)] (.bin .neq (.t 95) (.t 96))) (.c (.q 98 [] (.pick (.t 94) (.c (.bool true)) (.t 97))) (.c (.q 99 [] (.mv (.t 98))) (.c (.q 100 [(99, false)] (.mv (.t 14))) (.c (.q 101 [(99, false)] (.not (.t 100))) (.c (.q 102 [] (.pick (.t 99) (.c (.bool true)) (.t 101))) (.c (.q 103 [] (.mv (.t 102))) (.c (.q 104 [(103, false)] (.mv (.t 13))) (.c (.q 105 [(103, false)] (.mv (.t 6))) (.c (.q 106 [(103, false)] (.bin .neq (.t 104) (.t 105))) (.c (.q 107 [] (.pick (.t 103) (.c (.bool true)) (.t 106))) (.c (.q 108 [] (.mv (.t 107))) (.c (.q 109 [(108, false)] (.mv (.t 16))) (.c (.q 110 [(108, false)] (.not (.t 109))) (.c (.q 111 [] (.pick (.t 108) (.c (.bool true)) (.t 110))) (.c (.q 112 [] (.mv (.t 111))) (.c (.q 113 [(112, false)] (.mv (.t 18))) (.c (.q 114 [(112, false)] (.not (.t 113))) (.c (.q 115 [] (.pick (.t 112) (.c (.bool true)) (.t 114))) (.c (.q 116 [] (.mv (.t 115))) (.c (.q 117 [(116, false)] (.mv (.t 15))) (.c (.q 118 [(116, false)] (.lens (.t 117))) (.c (.q 119 [(116, false)] (.mv (.t 17))) (.c (.q 120 [(116, false)] (.lens (.t 119))) (.c (.q 121 [(116, false)] (.bin .mul (.c (.int .i64 2)) (.t 120))) (.c (.q 122 [(116, false)] (.bin .add (.t 118) (.t 121))) (.c (.q 123 [(116, false)] (.mv (.t 5))) (.c (.q 124 [(116, false)] (.len (.t 123))) (.c (.q 125 [(116, false)] (.bin .neq (.t 122) (.t 124))) (.c (.q 126 [] (.pick (.t 116) (.c (.bool true)) (.t 125))) (.c (.q 127 [] (.mv (.t 126))) (.c (.q 128 [(127, false)] (.mv (.t 17))) (.c (.q 129 [(127, false)] (.lens (.t 128))) (.c (.q 130 [(127, false)] (.bin .eql (.t 129) (.c (.int .i64 0)))) (.c (.q 131 [] (.pick (.t 127) (.c (.bool true)) (.t 130))) .nil))))))))))))))))))))))))))))))))))))))))) t_lFnPairs_3) t_lFnPairs_19)
theorem u_lFnPairs_20 (P : Program) (k : KT) (e : Env) (w : World) : vcK P t_lFnPairs_20 k e w = vcK P (.seq (.seq (.reg [1, 5, 7, 15, 17, 131] (.c (.q 92 [] (.mv (.t 12))) (.c (.q 93 [] (.not (.t 92))) (.c (.q 94 [] (.mv (.t 93))) (.c (.q 95 [(94, false)] (.mv (.t 11))) (.c (.q 96 [(94, false)] (.mv (.t 5))) (.c (.q 97 [(94, false)] (.bin .neq (.t 95) (.t 96))) (.c (.q 98 [] (.pick (.t 94) (.c (.bool true)) (.t 97))) (.c (.q 99 [] (.mv (.t 98))) (.c (.q 100 [(99, false)] (.mv (.t 14))) (.c (.q 101 [(99, false)] (.not (.t 100))) (.c (.q 102 [] (.pick (.t 99) (.c (.bool true)) (.t 101))) (.c (.q 103 [] (.mv (.t 102))) (.c (.q 104 [(103, false)] (.mv (.t 13))) (.c (.q 105 [(103, false)] (.mv (.t 6))) (.c (.q 106 [(103, false)] (.bin .neq (.t 104) (.t 105))) (.c (.q 107 [] (.pick (.t 103) (.c (.bool true)) (.t 106))) (.c (.q 108 [] (.mv (.t 107))) (.c (.q 109 [(108, false)] (.mv (.t 16))) (.c (.q 110 [(108, false)] (.not (.t 109))) (.c (.q 111 [] (.pick (.t 108) (.c (.bool true)) (.t 110))) (.c (.q 112 [] (.mv (.t 111))) (.c (.q 113 [(112, false)] (.mv (.t 18))) (.c (.q 114 [(112, false)] (.not (.t 113))) (.c (.q 115 [] (.pick (.t 112) (.c (.bool true)) (.t 114))) (.c (.q 116 [] (.mv (.t 115))) (.c (.q 117 [(116, false)] (.mv (.t 15))) (.c (.q 118 [(116, false)] (.lens (.t 117))) (.c (.q 119 [(116, false)] (.mv (.t 17))) (.c (.q 120 [(116, false)] (.lens (.t 119))) (.c (.q 121 [(116, false)] (.bin .mul (.c (.int .i64 2)) (.t 120))) (.c (.q 122 [(116, false)] (.bin .add (.t 118) (.t 121))) (.c (.q 123 [(116, false)] (.mv (.t 5))) (.c (.q 124 [(116, false)] (.len (.t 123))) (.c (.q 125 [(116, false)] (.bin .neq (.t 122) (.t 124))) (.c (.q 126 [] (.pick (.t 116) (.c (.bool true)) (.t 125))) (.c (.q 127 [] (.mv (.t 126))) (.c (.q 128 [(127, false)] (.mv (.t 17))) (.c (.q 129 [(127, false)] (.lens (.t 128))) (.c (.q 130 [(127, false)] (.bin .eql (.t 129) (.c (.int .i64 0)))) (.c (.q 131 [] (.pick (.t 127) (.c (.bool true)) (.t 130))) .nil))))))))))))))))))))))))))))))))))))))))) t_lFnPairs_3) t_lFnPairs_19) k e w := rfl
def t_lFnPairs_21 : X := (.seq (.reg [1, 5, 6, 7, 11, 12, 13, 14, 15, 16, 17, 18] (.c (.q 86 [] (.mv (.t 5))) (.c (.q 87 [] (.len (.t 86))) (.c (.q 88 [] (.mv (.t 6))) (.c (.e (some 89) [] (.call false 21 [(.t 87), (.t 88)])) (.c (.q 85 [] (.mv (.t 89))) (.c (.q 90 [] (.ext 0 (.t 85))) (.c (.q 91 [] (.ext 1 (.t 85))) (.c (.q 17 [] (.mv (.t 90))) (.c (.q 18 [] (.mv (.t 91))) .nil)))))))))) t_lFnPairs_20)
theorem u_lFnPairs_21 (P : Program) (k : KT) (e : Env) (w : World) : vcK P t_lFnPairs_21 k e w = vcK P (.seq (.reg [1, 5, 6, 7, 11, 12, 13, 14, 15, 16, 17, 18] (.c (.q 86 [] (.mv (.t 5))) (.c (.q 87 [] (.len (.t 86))) (.c (.q 88 [] (.mv (.t 6))) (.c (.e (some 89) [] (.call false 21 [(.t 87), (.t 88)])) (.c (.q 85 [] (.mv (.t 89))) (.c (.q 90 [] (.ext 0 (.t 85))) (.c (.q 91 [] (.ext 1 (.t 85))) (.c (.q 17 [] (.mv (.t 90))) (.c (.q 18 [] (.mv (.t 91))) .nil)))))))))) t_lFnPairs_20) k e w := rfl
def t_lFnPairs_22 : X := (.seq (.reg [1, 5, 6, 7, 11, 12, 13, 14, 15, 16] (.c (.q 79 [] (.mv (.t 5))) (.c (.q 80 [] (.len (.t 79))) (.c (.q 81 [] (.mv (.t 6))) (.c (.e (some 82) [] (.call false 20 [(.t 80), (.t 81)])) (.c (.q 78 [] (.mv (.t 82))) (.c (.q 83 [] (.ext 0 (.t 78))) (.c (.q 84 [] (.ext 1 (.t 78))) (.c (.q 15 [] (.mv (.t 83))) (.c (.q 16 [] (.mv (.t 84))) .nil)))))))))) t_lFnPairs_21)
theorem u_lFnPairs_22 (P : Program) (k : KT) (e : Env) (w : World) : vcK P t_lFnPairs_22 k e w = vcK P (.seq (.reg [1, 5, 6, 7, 11, 12, 13, 14, 15, 16] (.c (.q 79 [] (.mv (.t 5))) (.c (.q 80 [] (.len (.t 79))) (.c (.q 81 [] (.mv (.t 6))) (.c (.e (some 82) [] (.call false 20 [(.t 80), (.t 81)])) (.c (.q 78 [] (.mv (.t 82))) (.c (.q 83 [] (.ext 0 (.t 78))) (.c (.q 84 [] (.ext 1 (.t 78))) (.c (.q 15 [] (.mv (.t 83))) (.c (.q 16 [] (.mv (.t 84))) .nil)))))))))) t_lFnPairs_21) k e w := rfl
def t_lFnPairs_23 : X := (.seq (.reg [1, 5, 6, 7, 11, 12, 13, 14] (.c (.q 73 [] (.mv (.t 5))) (.c (.q 74 [] (.mv (.t 7))) (.c (.e (some 75) [] (.call false 19 [(.t 73), (.t 74)])) (.c (.q 72 [] (.mv (.t 75))) (.c (.q 76 [] (.ext 0 (.t 72))) (.c (.q 77 [] (.ext 1 (.t 72))) (.c (.q 13 [] (.mv (.t 76))) (.c (.q 14 [] (.mv (.t 77))) .nil))))))))) t_lFnPairs_22)
theorem u_lFnPairs_23 (P : Program) (k : KT) (e : Env) (w : World) : vcK P t_lFnPairs_23 k e w = vcK P (.seq (.reg [1, 5, 6, 7, 11, 12, 13, 14] (.c (.q 73 [] (.mv (.t 5))) (.c (.q 74 [] (.mv (.t 7))) (.c (.e (some 75) [] (.call false 19 [(.t 73), (.t 74)])) (.c (.q 72 [] (.mv (.t 75))) (.c (.q 76 [] (.ext 0 (.t 72))) (.c (.q 77 [] (.ext 1 (.t 72))) (.c (.q 13 [] (.mv (.t 76))) (.c (.q 14 [] (.mv (.t 77))) .nil))))))))) t_lFnPairs_22) k e w := rfl
def t_lFnPairs_24 : X := (.cond (.t 65) (.seq (.reg [1, 5, 6, 7, 11, 12] (.c (.q 67 [] (.mv (.t 7))) (.c (.q 68 [] (.mv (.t 6))) (.c (.e (some 69) [] (.call false 17 [(.t 67), (.t 68)])) (.c (.q 66 [] (.mv (.t 69))) (.c (.q 70 [] (.ext 0 (.t 66))) (.c (.q 71 [] (.ext 1 (.t 66))) (.c (.q 11 [] (.mv (.t 70))) (.c (.q 12 [] (.mv (.t 71))) .nil))))))))) t_lFnPairs_23) .skip)
theorem u_lFnPairs_24 (P : Program) (k : KT) (e : Env) (w : World) : vcK P t_lFnPairs_24 k e w = vcK P (.cond (.t 65) (.seq (.reg [1, 5, 6, 7, 11, 12] (.c (.q 67 [] (.mv (.t 7))) (.c (.q 68 [] (.mv (.t 6))) (.c (.e (some 69) [] (.call false 17 [(.t 67), (.t 68)])) (.c (.q 66 [] (.mv (.t 69))) (.c (.q 70 [] (.ext 0 (.t 66))) (.c (.q 71 [] (.ext 1 (.t 66))) (.c (.q 11 [] (.mv (.t 70))) (.c (.q 12 [] (.mv (.t 71))) .nil))))))))) t_lFnPairs_23) .skip) k e w := rfl
def t_lFnPairs_25 : X := (.cond (.t 248) (.seq (.reg [4] (.c (.q 4 [] (.mv (.c (.bool false)))) .nil)) .ret) .skip)
theorem u_lFnPairs_25 (P : Program) (k : KT) (e : Env) (w : World) : vcK P t_lFnPairs_25 k e w = vcK P (.cond (.t 248) (.seq (.reg [4] (.c (.q 4 [] (.mv (.c (.bool false)))) .nil)) .ret) .skip) k e w := rfl
def t_lFnPairs_26 : X := (.seq (.reg [4] (.c (.q 261 [] (.mv (.t 34))) (.c (.q 262 [] (.mv (.t 261))) (.c (.q 263 [(262, true)] (.mv (.t 33))) (.c (.q 264 [(262, true)] (.mv (.t 24))) (.c (.q 265 [(262, true)] (.bin .eql (.t 263) (.t 264))) (.c (.q 266 [] (.pick (.t 262) (.t 265) (.c (.bool false)))) (.c (.q 267 [] (.mv (.t 266))) (.c (.q 268 [(267, true)] (.mv (.t 23))) (.c (.q 269 [(267, true)] (.mv (.t 29))) (.c (.e (some 270) [(267, true)] (.call false 27 [(.t 268), (.t 269)])) (.c (.q 271 [] (.pick (.t 267) (.t 270) (.c (.bool false)))) (.c (.q 272 [] (.mv (.t 271))) (.c (.q 273 [(272, true)] (.mv (.t 36))) (.c (.q 274 [] (.pick (.t 272) (.t 273) (.c (.bool false)))) (.c (.q 275 [] (.mv (.t 274))) (.c (.q 276 [(275, true)] (.mv (.t 35))) (.c (.q 277 [(275, true)] (.bin .eql (.t 276) (.c (.int .i64 2)))) (.c (.q 278 [] (.pick (.t 275) (.t 277) (.c (.bool false)))) (.c (.q 4 [] (.mv (.t 278))) .nil)))))))))))))))))))) .ret)
theorem u_lFnPairs_26 (P : Program) (k : KT) (e : Env) (w : World) : vcK P t_lFnPairs_26 k e w = vcK P (.seq (.reg [4] (.c (.q 261 [] (.mv (.t 34))) (.c (.q 262 [] (.mv (.t 261))) (.c (.q 263 [(262, true)] (.mv (.t 33))) (.c (.q 264 [(262, true)] (.mv (.t 24))) (.c (.q 265 [(262, true)] (.bin .eql (.t 263) (.t 264))) (.c (.q 266 [] (.pick (.t 262) (.t 265) (.c (.bool false)))) (.c (.q 267 [] (.mv (.t 266))) (.c (.q 268 [(267, true)] (.mv (.t 23))) (.c (.q 269 [(267, true)] (.mv (.t 29))) (.c (.e (some 270) [(267, true)] (.call false 27 [(.t 268), (.t 269)])) (.c (.q 271 [] (.pick (.t 267) (.t 270) (.c (.bool false)))) (.c (.q 272 [] (.mv (.t 271))) (.c (.q 273 [(272, true)] (.mv (.t 36))) (.c (.q 274 [] (.pick (.t 272) (.t 273) (.c (.bool false)))) (.c (.q 275 [] (.mv (.t 274))) (.c (.q 276 [(275, true)] (.mv (.t 35))) (.c (.q 277 [(275, true)] (.bin .eql (.t 276) (.c (.int .i64 2)))) (.c (.q 278 [] (.pick (.t 275) (.t 277) (.c (.bool false)))) (.c (.q 4 [] (.mv (.t 278))) .nil)))))))))))))))))))) .ret) k e w := rfl
def t_lFnPairs_27 : X := (.seq (.reg [23, 24, 29, 33, 34, 35, 36] (.c (.q 257 [] (.mv (.t 25))) (.c (.e (some 258) [] (.call false 29 [(.t 257)])) (.c (.q 256 [] (.mv (.t 258))) (.c (.q 259 [] (.ext 0 (.t 256))) (.c (.q 260 [] (.ext 1 (.t 256))) (.c (.q 35 [] (.mv (.t 259))) (.c (.q 36 [] (.mv (.t 260))) .nil)))))))) t_lFnPairs_26)
theorem u_lFnPairs_27 (P : Program) (k : KT) (e : Env) (w : World) : vcK P t_lFnPairs_27 k e w = vcK P (.seq (.reg [23, 24, 29, 33, 34, 35, 36] (.c (.q 257 [] (.mv (.t 25))) (.c (.e (some 258) [] (.call false 29 [(.t 257)])) (.c (.q 256 [] (.mv (.t 258))) (.c (.q 259 [] (.ext 0 (.t 256))) (.c (.q 260 [] (.ext 1 (.t 256))) (.c (.q 35 [] (.mv (.t 259))) (.c (.q 36 [] (.mv (.t 260))) .nil)))))))) t_lFnPairs_26) k e w := rfl
def t_lFnPairs_28 : X := (.cond (.t 249) (.seq (.reg [23, 24, 25, 29, 33, 34] (.c (.q 251 [] (.mv (.t 23))) (.c (.q 252 [] (.mv (.t 29))) (.c (.e (some 253) [] (.call false 25 [(.t 251), (.t 252)])) (.c (.q 250 [] (.mv (.t 253))) (.c (.q 254 [] (.ext 0 (.t 250))) (.c (.q 255 [] (.ext 1 (.t 250))) (.c (.q 33 [] (.mv (.t 254))) (.c (.q 34 [] (.mv (.t 255))) .nil))))))))) t_lFnPairs_27) .skip)
theorem u_lFnPairs_28 (P : Program) (k : KT) (e : Env) (w : World) : vcK P t_lFnPairs_28 k e w = vcK P (.cond (.t 249) (.seq (.reg [23, 24, 25, 29, 33, 34] (.c (.q 251 [] (.mv (.t 23))) (.c (.q 252 [] (.mv (.t 29))) (.c (.e (some 253) [] (.call false 25 [(.t 251), (.t 252)])) (.c (.q 250 [] (.mv (.t 253))) (.c (.q 254 [] (.ext 0 (.t 250))) (.c (.q 255 [] (.ext 1 (.t 250))) (.c (.q 33 [] (.mv (.t 254))) (.c (.q 34 [] (.mv (.t 255))) .nil))))))))) t_lFnPairs_27) .skip) k e w := rfl
def t_lFnPairs_29 : X := (.seq (.reg [4] (.c (.q 4 [] (.mv (.c (.bool true)))) .nil)) .ret)
theorem u_lFnPairs_29 (P : Program) (k : KT) (e : Env) (w : World) : vcK P t_lFnPairs_29 k e w = vcK P (.seq (.reg [4] (.c (.q 4 [] (.mv (.c (.bool true)))) .nil)) .ret) k e w := rfl
def t_lFnPairs_30 : X := (.seq (.seq (.reg [23, 24, 25, 29, 249] (.c (.q 249 [] (.mv (.t 30))) .nil)) t_lFnPairs_28) t_lFnPairs_29)
theorem u_lFnPairs_30 (P : Program) (k : KT) (e : Env) (w : World) : vcK P t_lFnPairs_30 k e w = vcK P (.seq (.seq (.reg [23, 24, 25, 29, 249] (.c (.q 249 [] (.mv (.t 30))) .nil)) t_lFnPairs_28) t_lFnPairs_29) k e w := rfl
def t_lFnPairs_31 : X := (.seq (.seq (.reg [23, 24, 25, 29, 30, 248] (.c (.q 222 [] (.mv (.t 26))) (.c (.q 223 [] (.mv (.t 28))) (.c (.q 224 [] (.beq true (.t 222) (.t 223))) (.c (.q 225 [] (.mv (.t 224))) (.c (.q 226 [(225, false)] (.mv (.t 25))) (.c (.q 227 [(225, false)] (.mv (.t 27))) (.c (.q 228 [(225, false)] (.bin .neq (.t 226) (.t 227))) (.c (.q 229 [] (.pick (.t 225) (.c (.bool true)) (.t 228))) (.c (.q 230 [] (.mv (.t 229))) (.c (.q 231 [(230, false)] (.mv (.t 30))) (.c (.q 232 [(230, false)] (.mv (.t 32))) (.c (.q 233 [(230, false)] (.beq true (.t 231) (.t 232))) (.c (.q 234 [] (.pick (.t 230) (.c (.bool true)) (.t 233))) (.c (.q 235 [] (.mv (.t 234))) (.c (.q 236 [(235, false)] (.mv (.t 29))) (.c (.q 237 [(235, false)] (.mv (.t 31))) (.c (.q 238 [(235, false)] (.bin .neq (.t 236) (.t 237))) (.c (.q 239 [] (.pick (.t 235) (.c (.bool true)) (.t 238))) (.c (.q 240 [] (.mv (.t 239))) (.c (.q 241 [(240, false)] (.mv (.t 23))) (.c (.q 242 [(240, false)] (.mv (.t 24))) (.c (.e (some 243) [(240, false)] (.call false 27 [(.t 241), (.t 242)])) (.c (.q 244 [(240, false)] (.mv (.t 23))) (.c (.q 245 [(240, false)] (.mv (.t 24))) (.c (.e (some 246) [(240, false)] (.call false 28 [(.t 244), (.t 245)])) (.c (.q 247 [(240, false)] (.beq true (.t 243) (.t 246))) (.c (.q 248 [] (.pick (.t 240) (.c (.bool true)) (.t 247))) .nil)))))))))))))))))))))))))))) t_lFnPairs_25) t_lFnPairs_30)
theorem u_lFnPairs_31 (P : Program) (k : KT) (e : Env) (w : World) : vcK P t_lFnPairs_31 k e w = vcK P (.seq (.seq (.reg [23, 24, 25, 29, 30, 248] (.c (.q 222 [] (.mv (.t 26))) (.c (.q 223 [] (.mv (.t 28))) (.c (.q 224 [] (.beq true (.t 222) (.t 223))) (.c (.q 225 [] (.mv (.t 224))) (.c (.q 226 [(225, false)] (.mv (.t 25))) (.c (.q 227 [(225, false)] (.mv (.t 27))) (.c (.q 228 [(225, false)] (.bin .neq (.t 226) (.t 227))) (.c (.q 229 [] (.pick (.t 225) (.c (.bool true)) (.t 228))) (.c (.q 230 [] (.mv (.t 229))) (.c (.q 231 [(230, false)] (.mv (.t 30))) (.c (.q 232 [(230, false)] (.mv (.t 32))) (.c (.q 233 [(230, false)] (.beq true (.t 231) (.t 232))) (.c (.q 234 [] (.pick (.t 230) (.c (.bool true)) (.t 233))) (.c (.q 235 [] (.mv (.t 234))) (.c (.q 236 [(235, false)] (.mv (.t 29))) (.c (.q 237 [(235, false)] (.mv (.t 31))) (.c (.q 238 [(235, false)] (.bin .neq (.t 236) (.t 237))) (.c (.q 239 [] (.pick (.t 235) (.c (.bool true)) (.t 238))) (.c (.q 240 [] (.mv (.t 239))) (.c (.q 241 [(240, false)] (.mv (.t 23))) (.c (.q 242 [(240, false)] (.mv (.t 24))) (.c (.e (some 243) [(240, false)] (.call false 27 [(.t 241), (.t 242)])) (.c (.q 244 [(240, false)] (.mv (.t 23))) (.c (.q 245 [(240, false)] (.mv (.t 24))) (.c (.e (some 246) [(240, false)] (.call false 28 [(.t 244), (.t 245)])) (.c (.q 247 [(240, false)] (.beq true (.t 243) (.t 246))) (.c (.q 248 [] (.pick (.t 240) (.c (.bool true)) (.t 247))) .nil)))))))))))))))))))))))))))) t_lFnPairs_25) t_lFnPairs_30) k e w := rfl
def t_lFnPairs_32 : X := (.seq (.reg [23, 24, 25, 26, 27, 28, 29, 30, 31, 32] (.c (.q 217 [] (.mv (.t 23))) (.c (.q 218 [] (.mv (.t 24))) (.c (.e (some 219) [] (.call false 26 [(.t 217), (.t 218)])) (.c (.q 216 [] (.mv (.t 219))) (.c (.q 220 [] (.ext 0 (.t 216))) (.c (.q 221 [] (.ext 1 (.t 216))) (.c (.q 31 [] (.mv (.t 220))) (.c (.q 32 [] (.mv (.t 221))) .nil))))))))) t_lFnPairs_31)
theorem u_lFnPairs_32 (P : Program) (k : KT) (e : Env) (w : World) : vcK P t_lFnPairs_32 k e w = vcK P (.seq (.reg [23, 24, 25, 26, 27, 28, 29, 30, 31, 32] (.c (.q 217 [] (.mv (.t 23))) (.c (.q 218 [] (.mv (.t 24))) (.c (.e (some 219) [] (.call false 26 [(.t 217), (.t 218)])) (.c (.q 216 [] (.mv (.t 219))) (.c (.q 220 [] (.ext 0 (.t 216))) (.c (.q 221 [] (.ext 1 (.t 216))) (.c (.q 31 [] (.mv (.t 220))) (.c (.q 32 [] (.mv (.t 221))) .nil))))))))) t_lFnPairs_31) k e w := rfl
def t_lFnPairs_33 : X := (.seq (.reg [23, 24, 25, 26, 27, 28, 29, 30] (.c (.q 211 [] (.mv (.t 23))) (.c (.q 212 [] (.mv (.t 24))) (.c (.e (some 213) [] (.call false 25 [(.t 211), (.t 212)])) (.c (.q 210 [] (.mv (.t 213))) (.c (.q 214 [] (.ext 0 (.t 210))) (.c (.q 215 [] (.ext 1 (.t 210))) (.c (.q 29 [] (.mv (.t 214))) (.c (.q 30 [] (.mv (.t 215))) .nil))))))))) t_lFnPairs_32)
theorem u_lFnPairs_33 (P : Program) (k : KT) (e : Env) (w : World) : vcK P t_lFnPairs_33 k e w = vcK P (.seq (.reg [23, 24, 25, 26, 27, 28, 29, 30] (.c (.q 211 [] (.mv (.t 23))) (.c (.q 212 [] (.mv (.t 24))) (.c (.e (some 213) [] (.call false 25 [(.t 211), (.t 212)])) (.c (.q 210 [] (.mv (.t 213))) (.c (.q 214 [] (.ext 0 (.t 210))) (.c (.q 215 [] (.ext 1 (.t 210))) (.c (.q 29 [] (.mv (.t 214))) (.c (.q 30 [] (.mv (.t 215))) .nil))))))))) t_lFnPairs_32) k e w := rfl
def t_lFnPairs_34 : X := (.seq (.reg [23, 24, 25, 26, 27, 28] (.c (.q 205 [] (.mv (.t 23))) (.c (.q 206 [] (.mv (.t 24))) (.c (.e (some 207) [] (.call false 24 [(.t 205), (.t 206)])) (.c (.q 204 [] (.mv (.t 207))) (.c (.q 208 [] (.ext 0 (.t 204))) (.c (.q 209 [] (.ext 1 (.t 204))) (.c (.q 27 [] (.mv (.t 208))) (.c (.q 28 [] (.mv (.t 209))) .nil))))))))) t_lFnPairs_33)
theorem u_lFnPairs_34 (P : Program) (k : KT) (e : Env) (w : World) : vcK P t_lFnPairs_34 k e w = vcK P (.seq (.reg [23, 24, 25, 26, 27, 28] (.c (.q 205 [] (.mv (.t 23))) (.c (.q 206 [] (.mv (.t 24))) (.c (.e (some 207) [] (.call false 24 [(.t 205), (.t 206)])) (.c (.q 204 [] (.mv (.t 207))) (.c (.q 208 [] (.ext 0 (.t 204))) (.c (.q 209 [] (.ext 1 (.t 204))) (.c (.q 27 [] (.mv (.t 208))) (.c (.q 28 [] (.mv (.t 209))) .nil))))))))) t_lFnPairs_33) k e w := rfl
def t_lFnPairs_35 : X := (.seq (.reg [23, 24, 25, 26] (.c (.q 199 [] (.mv (.t 23))) (.c (.q 200 [] (.mv (.t 24))) (.c (.e (some 201) [] (.call false 23 [(.t 199), (.t 200)])) (.c (.q 198 [] (.mv (.t 201))) (.c (.q 202 [] (.ext 0 (.t 198))) (.c (.q 203 [] (.ext 1 (.t 198))) (.c (.q 25 [] (.mv (.t 202))) (.c (.q 26 [] (.mv (.t 203))) .nil))))))))) t_lFnPairs_34)
theorem u_lFnPairs_35 (P : Program) (k : KT) (e : Env) (w : World) : vcK P t_lFnPairs_35 k e w = vcK P (.seq (.reg [23, 24, 25, 26] (.c (.q 199 [] (.mv (.t 23))) (.c (.q 200 [] (.mv (.t 24))) (.c (.e (some 201) [] (.call false 23 [(.t 199), (.t 200)])) (.c (.q 198 [] (.mv (.t 201))) (.c (.q 202 [] (.ext 0 (.t 198))) (.c (.q 203 [] (.ext 1 (.t 198))) (.c (.q 25 [] (.mv (.t 202))) (.c (.q 26 [] (.mv (.t 203))) .nil))))))))) t_lFnPairs_34) k e w := rfl
def t_lFnPairs_36 : X := (.seq (.reg [23, 24] (.c (.q 194 [] (.mv (.t 1))) (.c (.e (some 195) [] (.call false 22 [(.t 194)])) (.c (.q 193 [] (.mv (.t 195))) (.c (.q 196 [] (.ext 0 (.t 193))) (.c (.q 197 [] (.ext 1 (.t 193))) (.c (.q 23 [] (.mv (.t 196))) (.c (.q 24 [] (.mv (.t 197))) .nil)))))))) t_lFnPairs_35)
theorem u_lFnPairs_36 (P : Program) (k : KT) (e : Env) (w : World) : vcK P t_lFnPairs_36 k e w = vcK P (.seq (.reg [23, 24] (.c (.q 194 [] (.mv (.t 1))) (.c (.e (some 195) [] (.call false 22 [(.t 194)])) (.c (.q 193 [] (.mv (.t 195))) (.c (.q 196 [] (.ext 0 (.t 193))) (.c (.q 197 [] (.ext 1 (.t 193))) (.c (.q 23 [] (.mv (.t 196))) (.c (.q 24 [] (.mv (.t 197))) .nil)))))))) t_lFnPairs_35) k e w := rfl
def t_lFnPairs_37 : X := (.seq (.seq (.reg [1, 5, 6, 7, 65] (.c (.q 65 [] (.mv (.t 8))) .nil)) t_lFnPairs_24) t_lFnPairs_36)
theorem u_lFnPairs_37 (P : Program) (k : KT) (e : Env) (w : World) : vcK P t_lFnPairs_37 k e w = vcK P (.seq (.seq (.reg [1, 5, 6, 7, 65] (.c (.q 65 [] (.mv (.t 8))) .nil)) t_lFnPairs_24) t_lFnPairs_36) k e w := rfl
def t_lFnPairs_38 : X := (.seq (.seq (.reg [1, 5, 6, 7, 8, 64] (.c (.q 57 [] (.mv (.t 8))) (.c (.q 58 [] (.mv (.t 10))) (.c (.q 59 [] (.beq true (.t 57) (.t 58))) (.c (.q 60 [] (.mv (.t 59))) (.c (.q 61 [(60, false)] (.mv (.t 7))) (.c (.q 62 [(60, false)] (.mv (.t 9))) (.c (.q 63 [(60, false)] (.bin .neq (.t 61) (.t 62))) (.c (.q 64 [] (.pick (.t 60) (.c (.bool true)) (.t 63))) .nil))))))))) t_lFnPairs_2) t_lFnPairs_37)
theorem u_lFnPairs_38 (P : Program) (k : KT) (e : Env) (w : World) : vcK P t_lFnPairs_38 k e w = vcK P (.seq (.seq (.reg [1, 5, 6, 7, 8, 64] (.c (.q 57 [] (.mv (.t 8))) (.c (.q 58 [] (.mv (.t 10))) (.c (.q 59 [] (.beq true (.t 57) (.t 58))) (.c (.q 60 [] (.mv (.t 59))) (.c (.q 61 [(60, false)] (.mv (.t 7))) (.c (.q 62 [(60, false)] (.mv (.t 9))) (.c (.q 63 [(60, false)] (.bin .neq (.t 61) (.t 62))) (.c (.q 64 [] (.pick (.t 60) (.c (.bool true)) (.t 63))) .nil))))))))) t_lFnPairs_2) t_lFnPairs_37) k e w := rfl
def t_lFnPairs_39 : X := (.seq (.reg [1, 5, 6, 7, 8, 9, 10] (.c (.q 52 [] (.mv (.t 5))) (.c (.q 53 [] (.mv (.t 6))) (.c (.e (some 54) [] (.call false 18 [(.t 52), (.t 53)])) (.c (.q 51 [] (.mv (.t 54))) (.c (.q 55 [] (.ext 0 (.t 51))) (.c (.q 56 [] (.ext 1 (.t 51))) (.c (.q 9 [] (.mv (.t 55))) (.c (.q 10 [] (.mv (.t 56))) .nil))))))))) t_lFnPairs_38)
theorem u_lFnPairs_39 (P : Program) (k : KT) (e : Env) (w : World) : vcK P t_lFnPairs_39 k e w = vcK P (.seq (.reg [1, 5, 6, 7, 8, 9, 10] (.c (.q 52 [] (.mv (.t 5))) (.c (.q 53 [] (.mv (.t 6))) (.c (.e (some 54) [] (.call false 18 [(.t 52), (.t 53)])) (.c (.q 51 [] (.mv (.t 54))) (.c (.q 55 [] (.ext 0 (.t 51))) (.c (.q 56 [] (.ext 1 (.t 51))) (.c (.q 9 [] (.mv (.t 55))) (.c (.q 10 [] (.mv (.t 56))) .nil))))))))) t_lFnPairs_38) k e w := rfl
def t_lFnPairs_40 : X := (.seq (.reg [1, 5, 6, 7, 8] (.c (.q 46 [] (.mv (.t 5))) (.c (.q 47 [] (.mv (.t 6))) (.c (.e (some 48) [] (.call false 17 [(.t 46), (.t 47)])) (.c (.q 45 [] (.mv (.t 48))) (.c (.q 49 [] (.ext 0 (.t 45))) (.c (.q 50 [] (.ext 1 (.t 45))) (.c (.q 7 [] (.mv (.t 49))) (.c (.q 8 [] (.mv (.t 50))) .nil))))))))) t_lFnPairs_39)
theorem u_lFnPairs_40 (P : Program) (k : KT) (e : Env) (w : World) : vcK P t_lFnPairs_40 k e w = vcK P (.seq (.reg [1, 5, 6, 7, 8] (.c (.q 46 [] (.mv (.t 5))) (.c (.q 47 [] (.mv (.t 6))) (.c (.e (some 48) [] (.call false 17 [(.t 46), (.t 47)])) (.c (.q 45 [] (.mv (.t 48))) (.c (.q 49 [] (.ext 0 (.t 45))) (.c (.q 50 [] (.ext 1 (.t 45))) (.c (.q 7 [] (.mv (.t 49))) (.c (.q 8 [] (.mv (.t 50))) .nil))))))))) t_lFnPairs_39) k e w := rfl
def t_lFnPairs_41 : X := (.seq (.reg [1, 5, 6] (.c (.q 41 [] (.mv (.t 0))) (.c (.e (some 42) [] (.call false 16 [(.t 41)])) (.c (.q 40 [] (.mv (.t 42))) (.c (.q 43 [] (.ext 0 (.t 40))) (.c (.q 44 [] (.ext 1 (.t 40))) (.c (.q 5 [] (.mv (.t 43))) (.c (.q 6 [] (.mv (.t 44))) .nil)))))))) t_lFnPairs_40)
theorem u_lFnPairs_41 (P : Program) (k : KT) (e : Env) (w : World) : vcK P t_lFnPairs_41 k e w = vcK P (.seq (.reg [1, 5, 6] (.c (.q 41 [] (.mv (.t 0))) (.c (.e (some 42) [] (.call false 16 [(.t 41)])) (.c (.q 40 [] (.mv (.t 42))) (.c (.q 43 [] (.ext 0 (.t 40))) (.c (.q 44 [] (.ext 1 (.t 40))) (.c (.q 5 [] (.mv (.t 43))) (.c (.q 6 [] (.mv (.t 44))) .nil)))))))) t_lFnPairs_40) k e w := rfl
def t_lFnPairs_42 : X := (.seq (.seq (.reg [0, 1, 39] (.c (.q 37 [] (.mv (.t 0))) (.c (.q 38 [] (.mv (.t 1))) (.c (.e (some 39) [] (.call false 15 [(.t 37), (.t 38)])) .nil)))) t_lFnPairs_1) t_lFnPairs_41)
theorem u_lFnPairs_42 (P : Program) (k : KT) (e : Env) (w : World) : vcK P t_lFnPairs_42 k e w = vcK P (.seq (.seq (.reg [0, 1, 39] (.c (.q 37 [] (.mv (.t 0))) (.c (.q 38 [] (.mv (.t 1))) (.c (.e (some 39) [] (.call false 15 [(.t 37), (.t 38)])) .nil)))) t_lFnPairs_1) t_lFnPairs_41) k e w := rfl
def x_lFnPairs : X := (.seq (.reg [0, 1] (.c (.q 4 [] (.mv (.c (.bool false)))) .nil)) t_lFnPairs_42)
theorem u_lFnPairs (P : Program) (k : KT) (e : Env) (w : World) : vcK P x_lFnPairs k e w = vcK P (.seq (.reg [0, 1] (.c (.q 4 [] (.mv (.c (.bool false)))) .nil)) t_lFnPairs_42) k e w := rfl
def r_lFnPairs : List XO := [(.mv (.t 4))]
theorem c_lFnPairs : convF Try.prog [145, 147, 148, 149, 158, 205, 206, 232, 234, 247, 248, 256, 261, 283, 284, 299, 300, 307] Try.f3 [([0, 1], []), ([0, 1, 39], []), ([4], []), ([1, 5, 6], []), ([1, 5, 6, 7, 8], []), ([1, 5, 6, 7, 8, 9, 10], []), ([1, 5, 6, 7, 8, 64], []), ([4], []), ([1, 5, 6, 7, 65], []), ([1, 5, 6, 7, 11, 12], []), ([1, 5, 6, 7, 11, 12, 13, 14], []), ([1, 5, 6, 7, 11, 12, 13, 14, 15, 16], []), ([1, 5, 6, 7, 11, 12, 13, 14, 15, 16, 17, 18], []), ([1, 5, 7, 15, 17, 131], []), ([4], []), ([1, 5, 7, 17, 132, 133, 134], []), ([134], [1, 5, 7, 17, 132, 133]), ([1, 5, 7, 17, 132, 133, 134, 135], []), ([1, 5, 7, 17, 20, 132, 133, 134], []), ([1, 5, 7, 17, 132, 133, 134, 156], []), ([4], []), ([1, 5, 7, 17, 132, 133, 134], []), ([1, 5, 7, 158, 159, 160], []), ([160], [1, 5, 7, 158, 159]), ([1, 5, 7, 158, 159, 160, 161], []), ([1, 5, 7, 22, 158, 159, 160], []), ([1, 5, 7, 158, 159, 160, 191], []), ([4], []), ([1, 5, 7, 158, 159, 160], []), ([23, 24], []), ([23, 24, 25, 26], []), ([23, 24, 25, 26, 27, 28], []), ([23, 24, 25, 26, 27, 28, 29, 30], []), ([23, 24, 25, 26, 27, 28, 29, 30, 31, 32], []), ([23, 24, 25, 29, 30, 248], []), ([4], []), ([23, 24, 25, 29, 249], []), ([23, 24, 25, 29, 33, 34], []), ([23, 24, 29, 33, 34, 35, 36], []), ([4], []), ([4], [])] = some (x_lFnPairs, r_lFnPairs) := by kernel_rfl
def us_lFnPairs := And.intro @u_lFnPairs (And.intro @u_lFnPairs_1 (And.intro @u_lFnPairs_2 (And.intro @u_lFnPairs_3 (And.intro @u_lFnPairs_4 (And.intro @u_lFnPairs_5 (And.intro @u_lFnPairs_6 (And.intro @u_lFnPairs_7 (And.intro @u_lFnPairs_8 (And.intro @u_lFnPairs_9 (And.intro @u_lFnPairs_10 (And.intro @u_lFnPairs_11 (And.intro @u_lFnPairs_12 (And.intro @u_lFnPairs_13 (And.intro @u_lFnPairs_14 (And.intro @u_lFnPairs_15 (And.intro @u_lFnPairs_16 (And.intro @u_lFnPairs_17 (And.intro @u_lFnPairs_18 (And.intro @u_lFnPairs_19 (And.intro @u_lFnPairs_20 (And.intro @u_lFnPairs_21 (And.intro @u_lFnPairs_22 (And.intro @u_lFnPairs_23 (And.intro @u_lFnPairs_24 (And.intro @u_lFnPairs_25 (And.intro @u_lFnPairs_26 (And.intro @u_lFnPairs_27 (And.intro @u_lFnPairs_28 (And.intro @u_lFnPairs_29 (And.intro @u_lFnPairs_30 (And.intro @u_lFnPairs_31 (And.intro @u_lFnPairs_32 (And.intro @u_lFnPairs_33 (And.intro @u_lFnPairs_34 (And.intro @u_lFnPairs_35 (And.intro @u_lFnPairs_36 (And.intro @u_lFnPairs_37 (And.intro @u_lFnPairs_38 (And.intro @u_lFnPairs_39 (And.intro @u_lFnPairs_40 (And.intro @u_lFnPairs_41 @u_lFnPairs_42)))))))))))))))))))))))))))))))))))))))))

theorem chg_ord {n : Nat} {c : List UInt8} (h : IsChange n c) : IsOrd (chgL n c) 2 := by
  have h8 := h.1
  have hr := chgL_row n c (by omega)
  have hl := chgL_len n c
  have hi := chg_inv h
  have h1 : powL (chgL n c) 1 = chgL n c := by
    show timesL (roundsL (chgL n c).length) (chgL n c) = chgL n c
    exact rounds_times hr
  refine ⟨by decide, by decide, ?_, fun j hj1 hj2 => ?_⟩
  · show timesL (powL (chgL n c) 1) (chgL n c) = roundsL (chgL n c).length
    rw [h1, hl]; exact hi.1
  · obtain rfl : j = 1 := by omega
    rw [h1, hl]; exact hi.2
theorem apply_back {r c : List UInt8} (hr : IsRow r) (h : IsChange r.length c) : applyL (applyL r c) c = r := by
  have hg := chgL_row r.length c hr.1
  have hl := chgL_len r.length c
  rw [applyL, applyL_len, applyL, timesL_assoc _ hg rfl, (chg_inv h).1]
  exact times_rounds hr.1.2
theorem btw_val {r c : List UInt8} (hr : IsRow r) (h : IsChange r.length c) : btwV (btw r (applyL r c) (r.length + 1) 0 [] false) = .tuple ⟨[S c, .bool true]⟩ := by
  have hlen := h.len
  rw [btw_chg hr h, btwV]
  by_cases hd : c = [45]
  · rw [if_pos hd, if_pos rfl, hd]
  · rw [if_neg hd, if_neg (fun e => by rw [e] at hlen; simp at hlen)]
set_option maxHeartbeats 4000000 in
theorem lFnPairs_ok (v u : Value) (code more : List UInt8) (hcl : code.length ≤ 9223372036854775807) (hml : more.length ≤ 9223372036854775807) (w : World) (h : Sq fU 1 w v code) (h' : Sq fU 1 w u more) : Fn 3 [v, u] w (fun r _ => r = .bool true) := by
  (refine callsV_of mix Try.func3 c_lFnPairs ?_; simp only [↓vsd, vsn, gW, qd, qv, ev, pick, argE, List.map_cons, List.map_nil, Option.map_some, Option.map_none, zipE, List.cons_append, List.nil_append, ne_eq, eq_self, forall_const, implies_true, if_true, if_false, reduceIte, List.cons.injEq, reduceCtorEq, Nat.reduceEqDiff, List.length_nil, List.length_cons, Nat.reduceAdd, Nat.reduceLT, List.set_cons_zero, List.set_cons_succ, ↓us_lFnPairs, r_lFnPairs])
  refine m_call (lbig_ok v u code more hcl hml _ h h') ?_
  rintro _ w0 hx0 rfl
  simp only [↓vsd, vsn, gW, qd, qv, ev, pick, argE, List.map_cons, List.map_nil, Option.map_some, Option.map_none, zipE, List.cons_append, List.nil_append, ne_eq, eq_self, forall_const, implies_true, if_true, if_false, reduceIte, List.cons.injEq, reduceCtorEq, Nat.reduceEqDiff, List.length_nil, List.length_cons, Nat.reduceAdd, Nat.reduceLT, List.set_cons_zero, List.set_cons_succ, ↓us_lFnPairs, r_lFnPairs]
  refine ⟨fun _ => hx0, fun hsm => ?_⟩
  have hlen : code.length ≤ 1048576 ∧ more.length ≤ 1048576 := by omega
  refine m_call (sDrawApply_ok v code hlen.1 _ (h.ext hx0)) ?_
  rintro _ w1 hx1 ⟨r, c, rfl, hr10, hc10⟩
  simp only [↓vsd, vsn, gW, qd, qv, ev, pick, argE, List.map_cons, List.map_nil, Option.map_some, Option.map_none, zipE, List.cons_append, List.nil_append, ne_eq, eq_self, forall_const, implies_true, if_true, if_false, reduceIte, List.cons.injEq, reduceCtorEq, Nat.reduceEqDiff, List.length_nil, List.length_cons, Nat.reduceAdd, Nat.reduceLT, List.set_cons_zero, List.set_cons_succ, ↓us_lFnPairs, r_lFnPairs]
  refine m_call (iApply_ok r c (by omega) _) ?_
  rintro rv w2 hx2 hrv
  by_cases hok : IsRow r ∧ IsChange r.length c
  · have eA : aplV r c = .tuple ⟨[S (applyL r c), .bool true]⟩ := by rw [aplV, if_pos hok]
    obtain ⟨hr, hch⟩ := hok
    rw [eA] at hrv
    subst hrv
    simp only [↓vsd, vsn, gW, qd, qv, ev, pick, argE, List.map_cons, List.map_nil, Option.map_some, Option.map_none, zipE, List.cons_append, List.nil_append, ne_eq, eq_self, forall_const, implies_true, if_true, if_false, reduceIte, List.cons.injEq, reduceCtorEq, Nat.reduceEqDiff, List.length_nil, List.length_cons, Nat.reduceAdd, Nat.reduceLT, List.set_cons_zero, List.set_cons_succ, ↓us_lFnPairs, r_lFnPairs]
    refine m_call (sApply_ok r c (by omega) _) ?_
    rintro rv w3 hx3 hrv
    rw [eA] at hrv
    subst hrv
    have hxr := applyL_row c hr
    have hxl := applyL_len r c
    have eB : aplV (applyL r c) c = .tuple ⟨[S r, .bool true]⟩ := by rw [aplV, if_pos ⟨hxr, by rw [hxl]; exact hch⟩, apply_back hr hch]
    simp only [↓vsd, vsn, gW, qd, qv, ev, pick, argE, List.map_cons, List.map_nil, Option.map_some, Option.map_none, zipE, List.cons_append, List.nil_append, ne_eq, eq_self, forall_const, implies_true, if_true, if_false, reduceIte, List.cons.injEq, reduceCtorEq, Nat.reduceEqDiff, List.length_nil, List.length_cons, Nat.reduceAdd, Nat.reduceLT, List.set_cons_zero, List.set_cons_succ, ↓us_lFnPairs, r_lFnPairs]
    refine m_call (iApply_ok (applyL r c) c (by omega) _) ?_
    rintro rv w4 hx4 hrv
    rw [eB] at hrv
    subst hrv
    simp only [↓vsd, vsn, gW, qd, qv, ev, pick, argE, List.map_cons, List.map_nil, Option.map_some, Option.map_none, zipE, List.cons_append, List.nil_append, ne_eq, eq_self, forall_const, implies_true, if_true, if_false, reduceIte, List.cons.injEq, reduceCtorEq, Nat.reduceEqDiff, List.length_nil, List.length_cons, Nat.reduceAdd, Nat.reduceLT, List.set_cons_zero, List.set_cons_succ, ↓us_lFnPairs, r_lFnPairs]
    refine m_call (iBetweenRows_ok r (applyL r c) c hr hxr hxl.symm (btw_val hr hch) _) ?_
    rintro _ w5 hx5 rfl
    simp only [↓vsd, vsn, gW, qd, qv, ev, pick, argE, List.map_cons, List.map_nil, Option.map_some, Option.map_none, zipE, List.cons_append, List.nil_append, ne_eq, eq_self, forall_const, implies_true, if_true, if_false, reduceIte, List.cons.injEq, reduceCtorEq, Nat.reduceEqDiff, List.length_nil, List.length_cons, Nat.reduceAdd, Nat.reduceLT, List.set_cons_zero, List.set_cons_succ, ↓us_lFnPairs, r_lFnPairs]
    refine m_call (iPlacesOf_ok r.length c hch (by omega) _) ?_
    rintro _ w6 hx6 ⟨p6, rfl, ho6⟩
    simp only [↓vsd, vsn, gW, qd, qv, ev, pick, argE, List.map_cons, List.map_nil, Option.map_some, Option.map_none, zipE, List.cons_append, List.nil_append, ne_eq, eq_self, forall_const, implies_true, if_true, if_false, reduceIte, List.cons.injEq, reduceCtorEq, Nat.reduceEqDiff, List.length_nil, List.length_cons, Nat.reduceAdd, Nat.reduceLT, List.set_cons_zero, List.set_cons_succ, ↓us_lFnPairs, r_lFnPairs]
    refine m_call (iSwapsOf_ok r.length c hch (by omega) _) ?_
    rintro _ w7 hx7 ⟨s7, rfl, ho7⟩
    have ho67 := ho6.ext hx7
    obtain ⟨hf1, hf2, hf3, hf4⟩ := pairs_facts hch
    have hsl : (swC r.length c).length = (swapsL c r.length 1).length := by rw [swC, List.length_map]
    have hs0 : 0 < (swapsL c r.length 1).length := List.length_pos_iff.2 hf2
    have hx17 := ((((((hx0.trans hx1).trans hx2).trans hx3).trans hx4).trans hx5).trans hx6).trans hx7
    have h8 := hr.1
    have hxg : ∀ q, q < r.length → (applyL r c).getD q 0 = r.getD (bell (chgL r.length c) q) 0 := fun q hq => timesL_get r _ q (by rw [chgL_len]; exact hq)
    simp only [↓vsd, vsn, gW, qd, qv, ev, pick, argE, List.map_cons, List.map_nil, Option.map_some, Option.map_none, zipE, List.cons_append, List.nil_append, ne_eq, eq_self, forall_const, implies_true, if_true, if_false, reduceIte, List.cons.injEq, reduceCtorEq, Nat.reduceEqDiff, List.length_nil, List.length_cons, Nat.reduceAdd, Nat.reduceLT, List.set_cons_zero, List.set_cons_succ, ↓us_lFnPairs, r_lFnPairs, ho67.sq.facts, ho7.sq.facts]
    refine ⟨inR_i64 (by omega), inR_i64 (by omega), fun hh => by omega, fun _ => ?_⟩
    refine m_upto (plC c).length (fun k vs w' => vs = [.int .i64 k] ∧ Ext w7 w') ⟨rfl, Ext.refl _⟩ ?_
    rintro k vs w8 hk ⟨rfl, hx8⟩
    have hq8 := (ho67.ext hx8).sq
    by_cases hlt : k < (plC c).length
    · have hltI : (k : Int) < (plC c).length := by omega
      have hltJ : ¬ ((plC c).length : Int) ≤ k := by omega
      have hp := hf3 _ (getD_mem 0 hlt)
      obtain ⟨q, hq⟩ : ∃ q : Nat, (plC c).getD k 0 = ((q + 1 : Nat) : Int) := ⟨((plC c).getD k 0 - 1).toNat, by omega⟩
      rw [hq] at hp
      have hq1 : ((q + 1 : Nat) : Int) - 1 = (q : Nat) := by omega
      rw [hq1, Int.toNat_natCast] at hp
      have hxq := hxg q (by omega)
      rw [hp.2.2] at hxq
      have hc1 : ¬ ((q + 1 : Nat) : Int) < 1 := by omega
      have hc2 : ¬ (r.length : Int) < ((q + 1 : Nat) : Int) := by omega
      simp only [↓vsd, vsn, gW, qd, qv, ev, pick, argE, List.map_cons, List.map_nil, Option.map_some, Option.map_none, zipE, List.cons_append, List.nil_append, ne_eq, eq_self, forall_const, implies_true, if_true, if_false, reduceIte, List.cons.injEq, reduceCtorEq, Nat.reduceEqDiff, List.length_nil, List.length_cons, Nat.reduceAdd, Nat.reduceLT, List.set_cons_zero, List.set_cons_succ, ↓us_lFnPairs, r_lFnPairs, hltI, hltJ, hq8.facts, hq8.at1 0 hlt, hq, hc1, hc2, hq1, hxq]
      exact ⟨by omega, inR_i64 (by omega), by omega, inR_i64 (by omega), by omega, inR_i64 (by omega), UpTo.next hlt ⟨rfl, dr hx8⟩⟩
    · obtain rfl : k = (plC c).length := by omega
      have hltI : ¬ ((plC c).length : Int) < (plC c).length := by omega
      have hs8 := (ho7.ext hx8).sq
      simp only [↓vsd, vsn, gW, qd, qv, ev, pick, argE, List.map_cons, List.map_nil, Option.map_some, Option.map_none, zipE, List.cons_append, List.nil_append, ne_eq, eq_self, forall_const, implies_true, if_true, if_false, reduceIte, List.cons.injEq, reduceCtorEq, Nat.reduceEqDiff, List.length_nil, List.length_cons, Nat.reduceAdd, Nat.reduceLT, List.set_cons_zero, List.set_cons_succ, ↓us_lFnPairs, r_lFnPairs, hltI, hs8.facts]
      refine m_upto (swC r.length c).length (fun k vs w' => vs = [.int .i64 k] ∧ Ext w8 w') ⟨rfl, Ext.refl _⟩ ?_
      rintro k vs w9 hk ⟨rfl, hx9⟩
      have hq9 := hs8.ext hx9
      by_cases hlt : k < (swC r.length c).length
      · have hltI : (k : Int) < (swC r.length c).length := by omega
        have hltJ : ¬ ((swC r.length c).length : Int) ≤ k := by omega
        have hp := hf4 _ (getD_mem 0 (show k < (swapsL c r.length 1).length by omega))
        have hg : (swC r.length c).getD k 0 = ((swapsL c r.length 1).getD k 0 : Nat) := by rw [swC, getD_map _ 0 _ _ _ (by omega)]
        obtain ⟨q, hq⟩ : ∃ q : Nat, (swapsL c r.length 1).getD k 0 = q + 1 := ⟨(swapsL c r.length 1).getD k 0 - 1, by omega⟩
        rw [hq] at hp hg
        rw [Nat.add_sub_cancel] at hp
        have hq1 : ((q + 1 : Nat) : Int) - 1 = (q : Nat) := by omega
        have hxq := hxg q (by omega)
        have hxq' := hxg (q + 1) (by omega)
        rw [hp.2.2.1] at hxq
        rw [hp.2.2.2] at hxq'
        have hc1 : ¬ ((q + 1 : Nat) : Int) < 1 := by omega
        have hc2 : ¬ (r.length : Int) ≤ ((q + 1 : Nat) : Int) := by omega
        simp only [↓vsd, vsn, gW, qd, qv, ev, pick, argE, List.map_cons, List.map_nil, Option.map_some, Option.map_none, zipE, List.cons_append, List.nil_append, ne_eq, eq_self, forall_const, implies_true, if_true, if_false, reduceIte, List.cons.injEq, reduceCtorEq, Nat.reduceEqDiff, List.length_nil, List.length_cons, Nat.reduceAdd, Nat.reduceLT, List.set_cons_zero, List.set_cons_succ, ↓us_lFnPairs, r_lFnPairs, hltI, hltJ, hq9.facts, hq9.at1 0 hlt, hg, hc1, hc2, hq1, hxq, hxq']
        exact ⟨by omega, inR_i64 (by omega), by omega, by omega, by omega, inR_i64 (by omega), by omega, inR_i64 (by omega), UpTo.next hlt ⟨rfl, dr hx9⟩⟩
      · obtain rfl : k = (swC r.length c).length := by omega
        have hltI : ¬ ((swC r.length c).length : Int) < (swC r.length c).length := by omega
        have hxL := (hx17.trans hx8).trans hx9
        simp only [↓vsd, vsn, gW, qd, qv, ev, pick, argE, List.map_cons, List.map_nil, Option.map_some, Option.map_none, zipE, List.cons_append, List.nil_append, ne_eq, eq_self, forall_const, implies_true, if_true, if_false, reduceIte, List.cons.injEq, reduceCtorEq, Nat.reduceEqDiff, List.length_nil, List.length_cons, Nat.reduceAdd, Nat.reduceLT, List.set_cons_zero, List.set_cons_succ, ↓us_lFnPairs, r_lFnPairs, hltI]
        refine m_call (sDrawGoodChange_ok u more hlen.2 _ (h'.ext hxL)) ?_
        rintro _ wa hxa ⟨n, d, rfl, hn, hd10⟩
        simp only [↓vsd, vsn, gW, qd, qv, ev, pick, argE, List.map_cons, List.map_nil, Option.map_some, Option.map_none, zipE, List.cons_append, List.nil_append, ne_eq, eq_self, forall_const, implies_true, if_true, if_false, reduceIte, List.cons.injEq, reduceCtorEq, Nat.reduceEqDiff, List.length_nil, List.length_cons, Nat.reduceAdd, Nat.reduceLT, List.set_cons_zero, List.set_cons_succ, ↓us_lFnPairs, r_lFnPairs]
        refine m_call (iChangeRow_ok n d (by omega) _) ?_
        rintro rb wb hxb hrb
        by_cases hgd : IsChange n d
        · obtain ⟨k, rfl⟩ : ∃ k : Nat, n = k := ⟨n.toNat, by omega⟩
          have eC : chgV k d = .tuple ⟨[S (chgL k d), .bool true]⟩ := by rw [chgV, if_pos hgd]; rfl
          have eM : mirV k d = .tuple ⟨[S (mirC k d), .bool true]⟩ := by rw [mirV, if_pos hgd]; rfl
          obtain ⟨hmc, hmm⟩ := mir_facts hgd
          have hml := hmc.len
          have eM2 : mirV k (mirC k d) = .tuple ⟨[S d, .bool true]⟩ := by rw [mirV, if_pos hmc, Int.toNat_natCast, hmm]
          rw [eC] at hrb
          subst hrb
          simp only [↓vsd, vsn, gW, qd, qv, ev, pick, argE, List.map_cons, List.map_nil, Option.map_some, Option.map_none, zipE, List.cons_append, List.nil_append, ne_eq, eq_self, forall_const, implies_true, if_true, if_false, reduceIte, List.cons.injEq, reduceCtorEq, Nat.reduceEqDiff, List.length_nil, List.length_cons, Nat.reduceAdd, Nat.reduceLT, List.set_cons_zero, List.set_cons_succ, ↓us_lFnPairs, r_lFnPairs]
          refine m_call (sChangeRow_ok k d (by omega) _) ?_
          rintro rc wc hxc hrc
          rw [eC] at hrc
          subst hrc
          simp only [↓vsd, vsn, gW, qd, qv, ev, pick, argE, List.map_cons, List.map_nil, Option.map_some, Option.map_none, zipE, List.cons_append, List.nil_append, ne_eq, eq_self, forall_const, implies_true, if_true, if_false, reduceIte, List.cons.injEq, reduceCtorEq, Nat.reduceEqDiff, List.length_nil, List.length_cons, Nat.reduceAdd, Nat.reduceLT, List.set_cons_zero, List.set_cons_succ, ↓us_lFnPairs, r_lFnPairs]
          refine m_call (iMirrorChange_ok k d (by omega) _) ?_
          rintro rd wd hxd hrd
          rw [eM] at hrd
          subst hrd
          simp only [↓vsd, vsn, gW, qd, qv, ev, pick, argE, List.map_cons, List.map_nil, Option.map_some, Option.map_none, zipE, List.cons_append, List.nil_append, ne_eq, eq_self, forall_const, implies_true, if_true, if_false, reduceIte, List.cons.injEq, reduceCtorEq, Nat.reduceEqDiff, List.length_nil, List.length_cons, Nat.reduceAdd, Nat.reduceLT, List.set_cons_zero, List.set_cons_succ, ↓us_lFnPairs, r_lFnPairs]
          refine m_call (sMirrorChange_ok k d (by omega) _) ?_
          rintro re we hxe hre
          rw [eM] at hre
          subst hre
          simp only [↓vsd, vsn, gW, qd, qv, ev, pick, argE, List.map_cons, List.map_nil, Option.map_some, Option.map_none, zipE, List.cons_append, List.nil_append, ne_eq, eq_self, forall_const, implies_true, if_true, if_false, reduceIte, List.cons.injEq, reduceCtorEq, Nat.reduceEqDiff, List.length_nil, List.length_cons, Nat.reduceAdd, Nat.reduceLT, List.set_cons_zero, List.set_cons_succ, ↓us_lFnPairs, r_lFnPairs]
          refine m_call (iGoodChange_ok k d (by omega) _) ?_
          rintro _ wf hxf rfl
          simp only [↓vsd, vsn, gW, qd, qv, ev, pick, argE, List.map_cons, List.map_nil, Option.map_some, Option.map_none, zipE, List.cons_append, List.nil_append, ne_eq, eq_self, forall_const, implies_true, if_true, if_false, reduceIte, List.cons.injEq, reduceCtorEq, Nat.reduceEqDiff, List.length_nil, List.length_cons, Nat.reduceAdd, Nat.reduceLT, List.set_cons_zero, List.set_cons_succ, ↓us_lFnPairs, r_lFnPairs]
          refine m_call (sGoodChange_ok k d (by omega) _) ?_
          rintro _ wg hxg' rfl
          simp only [↓vsd, vsn, gW, qd, qv, ev, pick, argE, List.map_cons, List.map_nil, Option.map_some, Option.map_none, zipE, List.cons_append, List.nil_append, ne_eq, eq_self, forall_const, implies_true, if_true, if_false, reduceIte, List.cons.injEq, reduceCtorEq, Nat.reduceEqDiff, List.length_nil, List.length_cons, Nat.reduceAdd, Nat.reduceLT, List.set_cons_zero, List.set_cons_succ, ↓us_lFnPairs, r_lFnPairs]
          have hxag := (((((hxL.trans hxa).trans hxb).trans hxc).trans hxd).trans hxe).trans (hxf.trans hxg')
          refine m_call (iMirrorChange_ok k (mirC k d) (by omega) _) ?_
          rintro rh wh hxh hrh
          rw [eM2] at hrh
          subst hrh
          have eO : ordV (chgL k d) 2 = .tuple ⟨[.int .i64 2, .bool true]⟩ := by rw [ordV, if_pos (chgL_row k d (by have := hgd.1; omega))]; rfl
          simp only [↓vsd, vsn, gW, qd, qv, ev, pick, argE, List.map_cons, List.map_nil, Option.map_some, Option.map_none, zipE, List.cons_append, List.nil_append, ne_eq, eq_self, forall_const, implies_true, if_true, if_false, reduceIte, List.cons.injEq, reduceCtorEq, Nat.reduceEqDiff, List.length_nil, List.length_cons, Nat.reduceAdd, Nat.reduceLT, List.set_cons_zero, List.set_cons_succ, ↓us_lFnPairs, r_lFnPairs]
          refine m_call (iOrderOf_ok (chgL k d) 2 (fun _ => chg_ord hgd) _) ?_
          rintro ri wi hxi hri
          rw [eO] at hri
          subst hri
          simp only [↓vsd, vsn, gW, qd, qv, ev, pick, argE, List.map_cons, List.map_nil, Option.map_some, Option.map_none, zipE, List.cons_append, List.nil_append, ne_eq, eq_self, forall_const, implies_true, if_true, if_false, reduceIte, List.cons.injEq, reduceCtorEq, Nat.reduceEqDiff, List.length_nil, List.length_cons, Nat.reduceAdd, Nat.reduceLT, List.set_cons_zero, List.set_cons_succ, ↓us_lFnPairs, r_lFnPairs]
          refine m_call (iGoodChange_ok k (mirC k d) (by omega) _) ?_
          rintro _ wj hxj rfl
          simp only [↓vsd, vsn, gW, qd, qv, ev, pick, argE, List.map_cons, List.map_nil, Option.map_some, Option.map_none, zipE, List.cons_append, List.nil_append, ne_eq, eq_self, forall_const, implies_true, if_true, if_false, reduceIte, List.cons.injEq, reduceCtorEq, Nat.reduceEqDiff, List.length_nil, List.length_cons, Nat.reduceAdd, Nat.reduceLT, List.set_cons_zero, List.set_cons_succ, ↓us_lFnPairs, r_lFnPairs, hmc]
          exact ((hxag.trans hxh).trans hxi).trans hxj
        · have eC : chgV n d = .tuple ⟨[S [], .bool false]⟩ := by rw [chgV, if_neg hgd]
          have eM : mirV n d = .tuple ⟨[S [], .bool false]⟩ := by rw [mirV, if_neg hgd]
          rw [eC] at hrb
          subst hrb
          simp only [↓vsd, vsn, gW, qd, qv, ev, pick, argE, List.map_cons, List.map_nil, Option.map_some, Option.map_none, zipE, List.cons_append, List.nil_append, ne_eq, eq_self, forall_const, implies_true, if_true, if_false, reduceIte, List.cons.injEq, reduceCtorEq, Nat.reduceEqDiff, List.length_nil, List.length_cons, Nat.reduceAdd, Nat.reduceLT, List.set_cons_zero, List.set_cons_succ, ↓us_lFnPairs, r_lFnPairs]
          refine m_call (sChangeRow_ok n d (by omega) _) ?_
          rintro rc wc hxc hrc
          rw [eC] at hrc
          subst hrc
          simp only [↓vsd, vsn, gW, qd, qv, ev, pick, argE, List.map_cons, List.map_nil, Option.map_some, Option.map_none, zipE, List.cons_append, List.nil_append, ne_eq, eq_self, forall_const, implies_true, if_true, if_false, reduceIte, List.cons.injEq, reduceCtorEq, Nat.reduceEqDiff, List.length_nil, List.length_cons, Nat.reduceAdd, Nat.reduceLT, List.set_cons_zero, List.set_cons_succ, ↓us_lFnPairs, r_lFnPairs]
          refine m_call (iMirrorChange_ok n d (by omega) _) ?_
          rintro rd wd hxd hrd
          rw [eM] at hrd
          subst hrd
          simp only [↓vsd, vsn, gW, qd, qv, ev, pick, argE, List.map_cons, List.map_nil, Option.map_some, Option.map_none, zipE, List.cons_append, List.nil_append, ne_eq, eq_self, forall_const, implies_true, if_true, if_false, reduceIte, List.cons.injEq, reduceCtorEq, Nat.reduceEqDiff, List.length_nil, List.length_cons, Nat.reduceAdd, Nat.reduceLT, List.set_cons_zero, List.set_cons_succ, ↓us_lFnPairs, r_lFnPairs]
          refine m_call (sMirrorChange_ok n d (by omega) _) ?_
          rintro re we hxe hre
          rw [eM] at hre
          subst hre
          simp only [↓vsd, vsn, gW, qd, qv, ev, pick, argE, List.map_cons, List.map_nil, Option.map_some, Option.map_none, zipE, List.cons_append, List.nil_append, ne_eq, eq_self, forall_const, implies_true, if_true, if_false, reduceIte, List.cons.injEq, reduceCtorEq, Nat.reduceEqDiff, List.length_nil, List.length_cons, Nat.reduceAdd, Nat.reduceLT, List.set_cons_zero, List.set_cons_succ, ↓us_lFnPairs, r_lFnPairs]
          refine m_call (iGoodChange_ok n d (by omega) _) ?_
          rintro _ wf hxf rfl
          simp only [↓vsd, vsn, gW, qd, qv, ev, pick, argE, List.map_cons, List.map_nil, Option.map_some, Option.map_none, zipE, List.cons_append, List.nil_append, ne_eq, eq_self, forall_const, implies_true, if_true, if_false, reduceIte, List.cons.injEq, reduceCtorEq, Nat.reduceEqDiff, List.length_nil, List.length_cons, Nat.reduceAdd, Nat.reduceLT, List.set_cons_zero, List.set_cons_succ, ↓us_lFnPairs, r_lFnPairs]
          refine m_call (sGoodChange_ok n d (by omega) _) ?_
          rintro _ wg hxg' rfl
          simp only [↓vsd, vsn, gW, qd, qv, ev, pick, argE, List.map_cons, List.map_nil, Option.map_some, Option.map_none, zipE, List.cons_append, List.nil_append, ne_eq, eq_self, forall_const, implies_true, if_true, if_false, reduceIte, List.cons.injEq, reduceCtorEq, Nat.reduceEqDiff, List.length_nil, List.length_cons, Nat.reduceAdd, Nat.reduceLT, List.set_cons_zero, List.set_cons_succ, ↓us_lFnPairs, r_lFnPairs]
          exact (((((hxL.trans hxa).trans hxb).trans hxc).trans hxd).trans hxe).trans (hxf.trans hxg')
  · have eA : aplV r c = .tuple ⟨[S [], .bool false]⟩ := by rw [aplV, if_neg hok]
    rw [eA] at hrv
    subst hrv
    simp only [↓vsd, vsn, gW, qd, qv, ev, pick, argE, List.map_cons, List.map_nil, Option.map_some, Option.map_none, zipE, List.cons_append, List.nil_append, ne_eq, eq_self, forall_const, implies_true, if_true, if_false, reduceIte, List.cons.injEq, reduceCtorEq, Nat.reduceEqDiff, List.length_nil, List.length_cons, Nat.reduceAdd, Nat.reduceLT, List.set_cons_zero, List.set_cons_succ, ↓us_lFnPairs, r_lFnPairs]
    refine m_call (sApply_ok r c (by omega) _) ?_
    rintro rv w3 hx3 hrv
    rw [eA] at hrv
    subst hrv
    simp only [↓vsd, vsn, gW, qd, qv, ev, pick, argE, List.map_cons, List.map_nil, Option.map_some, Option.map_none, zipE, List.cons_append, List.nil_append, ne_eq, eq_self, forall_const, implies_true, if_true, if_false, reduceIte, List.cons.injEq, reduceCtorEq, Nat.reduceEqDiff, List.length_nil, List.length_cons, Nat.reduceAdd, Nat.reduceLT, List.set_cons_zero, List.set_cons_succ, ↓us_lFnPairs, r_lFnPairs]
    have hxL := ((hx0.trans hx1).trans hx2).trans hx3
    refine m_call (sDrawGoodChange_ok u more hlen.2 _ (h'.ext hxL)) ?_
    rintro _ wa hxa ⟨n, d, rfl, hn, hd10⟩
    simp only [↓vsd, vsn, gW, qd, qv, ev, pick, argE, List.map_cons, List.map_nil, Option.map_some, Option.map_none, zipE, List.cons_append, List.nil_append, ne_eq, eq_self, forall_const, implies_true, if_true, if_false, reduceIte, List.cons.injEq, reduceCtorEq, Nat.reduceEqDiff, List.length_nil, List.length_cons, Nat.reduceAdd, Nat.reduceLT, List.set_cons_zero, List.set_cons_succ, ↓us_lFnPairs, r_lFnPairs]
    refine m_call (iChangeRow_ok n d (by omega) _) ?_
    rintro rb wb hxb hrb
    by_cases hgd : IsChange n d
    · obtain ⟨k, rfl⟩ : ∃ k : Nat, n = k := ⟨n.toNat, by omega⟩
      have eC : chgV k d = .tuple ⟨[S (chgL k d), .bool true]⟩ := by rw [chgV, if_pos hgd]; rfl
      have eM : mirV k d = .tuple ⟨[S (mirC k d), .bool true]⟩ := by rw [mirV, if_pos hgd]; rfl
      obtain ⟨hmc, hmm⟩ := mir_facts hgd
      have hml := hmc.len
      have eM2 : mirV k (mirC k d) = .tuple ⟨[S d, .bool true]⟩ := by rw [mirV, if_pos hmc, Int.toNat_natCast, hmm]
      rw [eC] at hrb
      subst hrb
      simp only [↓vsd, vsn, gW, qd, qv, ev, pick, argE, List.map_cons, List.map_nil, Option.map_some, Option.map_none, zipE, List.cons_append, List.nil_append, ne_eq, eq_self, forall_const, implies_true, if_true, if_false, reduceIte, List.cons.injEq, reduceCtorEq, Nat.reduceEqDiff, List.length_nil, List.length_cons, Nat.reduceAdd, Nat.reduceLT, List.set_cons_zero, List.set_cons_succ, ↓us_lFnPairs, r_lFnPairs]
      refine m_call (sChangeRow_ok k d (by omega) _) ?_
      rintro rc wc hxc hrc
      rw [eC] at hrc
      subst hrc
      simp only [↓vsd, vsn, gW, qd, qv, ev, pick, argE, List.map_cons, List.map_nil, Option.map_some, Option.map_none, zipE, List.cons_append, List.nil_append, ne_eq, eq_self, forall_const, implies_true, if_true, if_false, reduceIte, List.cons.injEq, reduceCtorEq, Nat.reduceEqDiff, List.length_nil, List.length_cons, Nat.reduceAdd, Nat.reduceLT, List.set_cons_zero, List.set_cons_succ, ↓us_lFnPairs, r_lFnPairs]
      refine m_call (iMirrorChange_ok k d (by omega) _) ?_
      rintro rd wd hxd hrd
      rw [eM] at hrd
      subst hrd
      simp only [↓vsd, vsn, gW, qd, qv, ev, pick, argE, List.map_cons, List.map_nil, Option.map_some, Option.map_none, zipE, List.cons_append, List.nil_append, ne_eq, eq_self, forall_const, implies_true, if_true, if_false, reduceIte, List.cons.injEq, reduceCtorEq, Nat.reduceEqDiff, List.length_nil, List.length_cons, Nat.reduceAdd, Nat.reduceLT, List.set_cons_zero, List.set_cons_succ, ↓us_lFnPairs, r_lFnPairs]
      refine m_call (sMirrorChange_ok k d (by omega) _) ?_
      rintro re we hxe hre
      rw [eM] at hre
      subst hre
      simp only [↓vsd, vsn, gW, qd, qv, ev, pick, argE, List.map_cons, List.map_nil, Option.map_some, Option.map_none, zipE, List.cons_append, List.nil_append, ne_eq, eq_self, forall_const, implies_true, if_true, if_false, reduceIte, List.cons.injEq, reduceCtorEq, Nat.reduceEqDiff, List.length_nil, List.length_cons, Nat.reduceAdd, Nat.reduceLT, List.set_cons_zero, List.set_cons_succ, ↓us_lFnPairs, r_lFnPairs]
      refine m_call (iGoodChange_ok k d (by omega) _) ?_
      rintro _ wf hxf rfl
      simp only [↓vsd, vsn, gW, qd, qv, ev, pick, argE, List.map_cons, List.map_nil, Option.map_some, Option.map_none, zipE, List.cons_append, List.nil_append, ne_eq, eq_self, forall_const, implies_true, if_true, if_false, reduceIte, List.cons.injEq, reduceCtorEq, Nat.reduceEqDiff, List.length_nil, List.length_cons, Nat.reduceAdd, Nat.reduceLT, List.set_cons_zero, List.set_cons_succ, ↓us_lFnPairs, r_lFnPairs]
      refine m_call (sGoodChange_ok k d (by omega) _) ?_
      rintro _ wg hxg' rfl
      simp only [↓vsd, vsn, gW, qd, qv, ev, pick, argE, List.map_cons, List.map_nil, Option.map_some, Option.map_none, zipE, List.cons_append, List.nil_append, ne_eq, eq_self, forall_const, implies_true, if_true, if_false, reduceIte, List.cons.injEq, reduceCtorEq, Nat.reduceEqDiff, List.length_nil, List.length_cons, Nat.reduceAdd, Nat.reduceLT, List.set_cons_zero, List.set_cons_succ, ↓us_lFnPairs, r_lFnPairs]
      have hxag := (((((hxL.trans hxa).trans hxb).trans hxc).trans hxd).trans hxe).trans (hxf.trans hxg')
      refine m_call (iMirrorChange_ok k (mirC k d) (by omega) _) ?_
      rintro rh wh hxh hrh
      rw [eM2] at hrh
      subst hrh
      have eO : ordV (chgL k d) 2 = .tuple ⟨[.int .i64 2, .bool true]⟩ := by rw [ordV, if_pos (chgL_row k d (by have := hgd.1; omega))]; rfl
      simp only [↓vsd, vsn, gW, qd, qv, ev, pick, argE, List.map_cons, List.map_nil, Option.map_some, Option.map_none, zipE, List.cons_append, List.nil_append, ne_eq, eq_self, forall_const, implies_true, if_true, if_false, reduceIte, List.cons.injEq, reduceCtorEq, Nat.reduceEqDiff, List.length_nil, List.length_cons, Nat.reduceAdd, Nat.reduceLT, List.set_cons_zero, List.set_cons_succ, ↓us_lFnPairs, r_lFnPairs]
      refine m_call (iOrderOf_ok (chgL k d) 2 (fun _ => chg_ord hgd) _) ?_
      rintro ri wi hxi hri
      rw [eO] at hri
      subst hri
      simp only [↓vsd, vsn, gW, qd, qv, ev, pick, argE, List.map_cons, List.map_nil, Option.map_some, Option.map_none, zipE, List.cons_append, List.nil_append, ne_eq, eq_self, forall_const, implies_true, if_true, if_false, reduceIte, List.cons.injEq, reduceCtorEq, Nat.reduceEqDiff, List.length_nil, List.length_cons, Nat.reduceAdd, Nat.reduceLT, List.set_cons_zero, List.set_cons_succ, ↓us_lFnPairs, r_lFnPairs]
      refine m_call (iGoodChange_ok k (mirC k d) (by omega) _) ?_
      rintro _ wj hxj rfl
      simp only [↓vsd, vsn, gW, qd, qv, ev, pick, argE, List.map_cons, List.map_nil, Option.map_some, Option.map_none, zipE, List.cons_append, List.nil_append, ne_eq, eq_self, forall_const, implies_true, if_true, if_false, reduceIte, List.cons.injEq, reduceCtorEq, Nat.reduceEqDiff, List.length_nil, List.length_cons, Nat.reduceAdd, Nat.reduceLT, List.set_cons_zero, List.set_cons_succ, ↓us_lFnPairs, r_lFnPairs, hmc]
      exact ((hxag.trans hxh).trans hxi).trans hxj
    · have eC : chgV n d = .tuple ⟨[S [], .bool false]⟩ := by rw [chgV, if_neg hgd]
      have eM : mirV n d = .tuple ⟨[S [], .bool false]⟩ := by rw [mirV, if_neg hgd]
      rw [eC] at hrb
      subst hrb
      simp only [↓vsd, vsn, gW, qd, qv, ev, pick, argE, List.map_cons, List.map_nil, Option.map_some, Option.map_none, zipE, List.cons_append, List.nil_append, ne_eq, eq_self, forall_const, implies_true, if_true, if_false, reduceIte, List.cons.injEq, reduceCtorEq, Nat.reduceEqDiff, List.length_nil, List.length_cons, Nat.reduceAdd, Nat.reduceLT, List.set_cons_zero, List.set_cons_succ, ↓us_lFnPairs, r_lFnPairs]
      refine m_call (sChangeRow_ok n d (by omega) _) ?_
      rintro rc wc hxc hrc
      rw [eC] at hrc
      subst hrc
      simp only [↓vsd, vsn, gW, qd, qv, ev, pick, argE, List.map_cons, List.map_nil, Option.map_some, Option.map_none, zipE, List.cons_append, List.nil_append, ne_eq, eq_self, forall_const, implies_true, if_true, if_false, reduceIte, List.cons.injEq, reduceCtorEq, Nat.reduceEqDiff, List.length_nil, List.length_cons, Nat.reduceAdd, Nat.reduceLT, List.set_cons_zero, List.set_cons_succ, ↓us_lFnPairs, r_lFnPairs]
      refine m_call (iMirrorChange_ok n d (by omega) _) ?_
      rintro rd wd hxd hrd
      rw [eM] at hrd
      subst hrd
      simp only [↓vsd, vsn, gW, qd, qv, ev, pick, argE, List.map_cons, List.map_nil, Option.map_some, Option.map_none, zipE, List.cons_append, List.nil_append, ne_eq, eq_self, forall_const, implies_true, if_true, if_false, reduceIte, List.cons.injEq, reduceCtorEq, Nat.reduceEqDiff, List.length_nil, List.length_cons, Nat.reduceAdd, Nat.reduceLT, List.set_cons_zero, List.set_cons_succ, ↓us_lFnPairs, r_lFnPairs]
      refine m_call (sMirrorChange_ok n d (by omega) _) ?_
      rintro re we hxe hre
      rw [eM] at hre
      subst hre
      simp only [↓vsd, vsn, gW, qd, qv, ev, pick, argE, List.map_cons, List.map_nil, Option.map_some, Option.map_none, zipE, List.cons_append, List.nil_append, ne_eq, eq_self, forall_const, implies_true, if_true, if_false, reduceIte, List.cons.injEq, reduceCtorEq, Nat.reduceEqDiff, List.length_nil, List.length_cons, Nat.reduceAdd, Nat.reduceLT, List.set_cons_zero, List.set_cons_succ, ↓us_lFnPairs, r_lFnPairs]
      refine m_call (iGoodChange_ok n d (by omega) _) ?_
      rintro _ wf hxf rfl
      simp only [↓vsd, vsn, gW, qd, qv, ev, pick, argE, List.map_cons, List.map_nil, Option.map_some, Option.map_none, zipE, List.cons_append, List.nil_append, ne_eq, eq_self, forall_const, implies_true, if_true, if_false, reduceIte, List.cons.injEq, reduceCtorEq, Nat.reduceEqDiff, List.length_nil, List.length_cons, Nat.reduceAdd, Nat.reduceLT, List.set_cons_zero, List.set_cons_succ, ↓us_lFnPairs, r_lFnPairs]
      refine m_call (sGoodChange_ok n d (by omega) _) ?_
      rintro _ wg hxg' rfl
      simp only [↓vsd, vsn, gW, qd, qv, ev, pick, argE, List.map_cons, List.map_nil, Option.map_some, Option.map_none, zipE, List.cons_append, List.nil_append, ne_eq, eq_self, forall_const, implies_true, if_true, if_false, reduceIte, List.cons.injEq, reduceCtorEq, Nat.reduceEqDiff, List.length_nil, List.length_cons, Nat.reduceAdd, Nat.reduceLT, List.set_cons_zero, List.set_cons_succ, ↓us_lFnPairs, r_lFnPairs]
      exact (((((hxL.trans hxa).trans hxb).trans hxc).trans hxd).trans hxe).trans (hxf.trans hxg')
end Go.Proofs.Ytjcnmobdlkmaeaa
