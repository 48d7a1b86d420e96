/-
  Still bells, hunt bells and palindromes; the call of the law FnStill.
  Conditions: none.
-/
import Derived.Test.YtjcnmobdlkmaeaaD15
import Derived.Test.YtjcnmobdlkmaeaaD3
import Derived.Test.YtjcnmobdlkmaeaaA26
import Derived.Test.YtjcnmobdlkmaeaaA22
import Derived.Test.YtjcnmobdlkmaeaaA23
import Derived.Test.YtjcnmobdlkmaeaaA24
set_option linter.unusedSimpArgs false
set_option linter.unusedVariables false
set_option linter.defProp false
namespace Go.Proofs.Ytjcnmobdlkmaeaa
open Go Go.RowKit
def t_sDrawGoodMethod_1 : X := (.seq (.reg [2] (.c (.q 7 [] (.mv (.t 3))) (.c (.e (some 8) [] (.call true 205 [(.t 7)])) (.c (.e none [] (.st 3 (.t 2) (.t 8))) .nil)))) .ret)
theorem u_sDrawGoodMethod_1 (P : Program) (k : KT) (e : Env) (w : World) : vcK P t_sDrawGoodMethod_1 k e w = vcK P (.seq (.reg [2] (.c (.q 7 [] (.mv (.t 3))) (.c (.e (some 8) [] (.call true 205 [(.t 7)])) (.c (.e none [] (.st 3 (.t 2) (.t 8))) .nil)))) .ret) k e w := rfl
def t_sDrawGoodMethod_2 : X := (.seq (.reg [2, 3] (.c (.q 4 [] (.mv (.t 0))) (.c (.q 5 [] (.bld [(.slice none 0 0), (.int .i64 0), (.int .u64 0)] [(0, 0, (.t 4))])) (.c (.e (some 6) [] (.box 116 (.t 5))) (.c (.q 3 [] (.mv (.t 6))) .nil))))) t_sDrawGoodMethod_1)
theorem u_sDrawGoodMethod_2 (P : Program) (k : KT) (e : Env) (w : World) : vcK P t_sDrawGoodMethod_2 k e w = vcK P (.seq (.reg [2, 3] (.c (.q 4 [] (.mv (.t 0))) (.c (.q 5 [] (.bld [(.slice none 0 0), (.int .i64 0), (.int .u64 0)] [(0, 0, (.t 4))])) (.c (.e (some 6) [] (.box 116 (.t 5))) (.c (.q 3 [] (.mv (.t 6))) .nil))))) t_sDrawGoodMethod_1) k e w := rfl
def x_sDrawGoodMethod : X := (.seq (.reg [0, 2] (.c (.e (some 2) [] (.al 58 [(S []), (.int .i64 0), (.slice none 0 0)])) .nil)) t_sDrawGoodMethod_2)
theorem u_sDrawGoodMethod (P : Program) (k : KT) (e : Env) (w : World) : vcK P x_sDrawGoodMethod k e w = vcK P (.seq (.reg [0, 2] (.c (.e (some 2) [] (.al 58 [(S []), (.int .i64 0), (.slice none 0 0)])) .nil)) t_sDrawGoodMethod_2) k e w := rfl
def r_sDrawGoodMethod : List XO := [(.lda 3 (.t 2))]
theorem c_sDrawGoodMethod : convF Try.prog [145, 147, 148, 149, 158, 205, 206, 232, 234, 247, 248, 256, 261, 283, 284, 299, 300, 307] Try.f187 [([0, 2], []), ([2, 3], []), ([2], [])] = some (x_sDrawGoodMethod, r_sDrawGoodMethod) := by kernel_rfl
def us_sDrawGoodMethod := And.intro @u_sDrawGoodMethod (And.intro @u_sDrawGoodMethod_1 @u_sDrawGoodMethod_2)
def t_sDrawHuntBells_1 : X := (.seq (.reg [2] (.c (.q 3 [] (.mv (.t 0))) (.c (.e (some 4) [] (.call false 187 [(.t 3)])) (.c (.e none [] (.st 3 (.t 2) (.t 4))) .nil)))) .ret)
theorem u_sDrawHuntBells_1 (P : Program) (k : KT) (e : Env) (w : World) : vcK P t_sDrawHuntBells_1 k e w = vcK P (.seq (.reg [2] (.c (.q 3 [] (.mv (.t 0))) (.c (.e (some 4) [] (.call false 187 [(.t 3)])) (.c (.e none [] (.st 3 (.t 2) (.t 4))) .nil)))) .ret) k e w := rfl
def x_sDrawHuntBells : X := (.seq (.reg [0, 2] (.c (.e (some 2) [] (.al 58 [(S []), (.int .i64 0), (.slice none 0 0)])) .nil)) t_sDrawHuntBells_1)
theorem u_sDrawHuntBells (P : Program) (k : KT) (e : Env) (w : World) : vcK P x_sDrawHuntBells k e w = vcK P (.seq (.reg [0, 2] (.c (.e (some 2) [] (.al 58 [(S []), (.int .i64 0), (.slice none 0 0)])) .nil)) t_sDrawHuntBells_1) k e w := rfl
def r_sDrawHuntBells : List XO := [(.lda 3 (.t 2))]
theorem c_sDrawHuntBells : convF Try.prog [145, 147, 148, 149, 158, 205, 206, 232, 234, 247, 248, 256, 261, 283, 284, 299, 300, 307] Try.f47 [([0, 2], []), ([2], [])] = some (x_sDrawHuntBells, r_sDrawHuntBells) := by kernel_rfl
def us_sDrawHuntBells := And.intro @u_sDrawHuntBells @u_sDrawHuntBells_1
def t_sDrawLeadHead_1 : X := (.seq (.reg [2] (.c (.q 3 [] (.mv (.t 0))) (.c (.e (some 4) [] (.call false 187 [(.t 3)])) (.c (.e none [] (.st 3 (.t 2) (.t 4))) .nil)))) .ret)
theorem u_sDrawLeadHead_1 (P : Program) (k : KT) (e : Env) (w : World) : vcK P t_sDrawLeadHead_1 k e w = vcK P (.seq (.reg [2] (.c (.q 3 [] (.mv (.t 0))) (.c (.e (some 4) [] (.call false 187 [(.t 3)])) (.c (.e none [] (.st 3 (.t 2) (.t 4))) .nil)))) .ret) k e w := rfl
def x_sDrawLeadHead : X := (.seq (.reg [0, 2] (.c (.e (some 2) [] (.al 58 [(S []), (.int .i64 0), (.slice none 0 0)])) .nil)) t_sDrawLeadHead_1)
theorem u_sDrawLeadHead (P : Program) (k : KT) (e : Env) (w : World) : vcK P x_sDrawLeadHead k e w = vcK P (.seq (.reg [0, 2] (.c (.e (some 2) [] (.al 58 [(S []), (.int .i64 0), (.slice none 0 0)])) .nil)) t_sDrawLeadHead_1) k e w := rfl
def r_sDrawLeadHead : List XO := [(.lda 3 (.t 2))]
theorem c_sDrawLeadHead : convF Try.prog [145, 147, 148, 149, 158, 205, 206, 232, 234, 247, 248, 256, 261, 283, 284, 299, 300, 307] Try.f58 [([0, 2], []), ([2], [])] = some (x_sDrawLeadHead, r_sDrawLeadHead) := by kernel_rfl
def us_sDrawLeadHead := And.intro @u_sDrawLeadHead @u_sDrawLeadHead_1
def t_lFnStill_1 : X := (.cond (.t 30) (.seq (.reg [4] (.c (.q 4 [] (.mv (.c (.bool true)))) .nil)) .ret) .skip)
theorem u_lFnStill_1 (P : Program) (k : KT) (e : Env) (w : World) : vcK P t_lFnStill_1 k e w = vcK P (.cond (.t 30) (.seq (.reg [4] (.c (.q 4 [] (.mv (.c (.bool true)))) .nil)) .ret) .skip) k e w := rfl
def t_lFnStill_2 : X := (.cond (.t 77) (.seq (.reg [4] (.c (.q 4 [] (.mv (.c (.bool false)))) .nil)) .ret) .skip)
theorem u_lFnStill_2 (P : Program) (k : KT) (e : Env) (w : World) : vcK P t_lFnStill_2 k e w = vcK P (.cond (.t 77) (.seq (.reg [4] (.c (.q 4 [] (.mv (.c (.bool false)))) .nil)) .ret) .skip) k e w := rfl
def t_lFnStill_3 : X := (.cond (.t 98) (.seq (.reg [4] (.c (.q 4 [] (.mv (.c (.bool false)))) .nil)) .ret) .skip)
theorem u_lFnStill_3 (P : Program) (k : KT) (e : Env) (w : World) : vcK P t_lFnStill_3 k e w = vcK P (.cond (.t 98) (.seq (.reg [4] (.c (.q 4 [] (.mv (.c (.bool false)))) .nil)) .ret) .skip) k e w := rfl
def t_lFnStill_4 : X := (.cond (.t 102) .skip (.exit 0))
theorem u_lFnStill_4 (P : Program) (k : KT) (e : Env) (w : World) : vcK P t_lFnStill_4 k e w = vcK P (.cond (.t 102) .skip (.exit 0)) k e w := rfl
def t_lFnStill_5 : X := (.cond (.t 116) (.seq (.reg [4] (.c (.q 4 [] (.mv (.c (.bool false)))) .nil)) .ret) .skip)
theorem u_lFnStill_5 (P : Program) (k : KT) (e : Env) (w : World) : vcK P t_lFnStill_5 k e w = vcK P (.cond (.t 116) (.seq (.reg [4] (.c (.q 4 [] (.mv (.c (.bool false)))) .nil)) .ret) .skip) k e w := rfl
def t_lFnStill_6 : X := (.reg [1, 5, 6, 14, 16] (.c (.q 103 [] (.mv (.t 16))) (.c (.q 104 [] (.bin .add (.t 103) (.c (.int .i64 1)))) (.c (.q 16 [] (.mv (.t 104))) .nil))))
theorem u_lFnStill_6 (P : Program) (k : KT) (e : Env) (w : World) : vcK P t_lFnStill_6 k e w = vcK P (.reg [1, 5, 6, 14, 16] (.c (.q 103 [] (.mv (.t 16))) (.c (.q 104 [] (.bin .add (.t 103) (.c (.int .i64 1)))) (.c (.q 16 [] (.mv (.t 104))) .nil)))) k e w := rfl
def t_lFnStill_7 : X := (.seq (.blk 1 (.seq (.drw [1, 5, 6, 14, 16, 116] (.c (.q 105 [] (.mv (.t 6))) (.c (.q 106 [] (.mv (.t 16))) (.c (.q 108 [] (.mv (.t 14))) (.c (.q 109 [] (.mv (.t 16))) (.c (.q 110 [] (.bin .sub (.t 109) (.c (.int .i64 1)))) (.c (.q 111 [] (.idx (.t 108) (.t 110))) (.c (.q 112 [] (.bin .sub (.t 111) (.c (.int .u8 48)))) (.c (.q 113 [] (.cvi .i64 (.t 112))) (.c (.q 114 [] (.mv (.t 16))) (.c (.q 115 [] (.bin .eql (.t 113) (.t 114))) (.c (.e (some 107) [] (.call false 55 [(.t 105), (.t 106)])) (.c (.q 116 [] (.beq true (.t 107) (.t 115))) .nil))))))))))))) t_lFnStill_5)) t_lFnStill_6)
theorem u_lFnStill_7 (P : Program) (k : KT) (e : Env) (w : World) : vcK P t_lFnStill_7 k e w = vcK P (.seq (.blk 1 (.seq (.drw [1, 5, 6, 14, 16, 116] (.c (.q 105 [] (.mv (.t 6))) (.c (.q 106 [] (.mv (.t 16))) (.c (.q 108 [] (.mv (.t 14))) (.c (.q 109 [] (.mv (.t 16))) (.c (.q 110 [] (.bin .sub (.t 109) (.c (.int .i64 1)))) (.c (.q 111 [] (.idx (.t 108) (.t 110))) (.c (.q 112 [] (.bin .sub (.t 111) (.c (.int .u8 48)))) (.c (.q 113 [] (.cvi .i64 (.t 112))) (.c (.q 114 [] (.mv (.t 16))) (.c (.q 115 [] (.bin .eql (.t 113) (.t 114))) (.c (.e (some 107) [] (.call false 55 [(.t 105), (.t 106)])) (.c (.q 116 [] (.beq true (.t 107) (.t 115))) .nil))))))))))))) t_lFnStill_5)) t_lFnStill_6) k e w := rfl
def t_lFnStill_8 : X := (.seq (.seq (.reg [1, 5, 6, 14, 16, 102] (.c (.q 99 [] (.mv (.t 16))) (.c (.q 100 [] (.fa 1 (.t 5))) (.c (.q 101 [] (.ld (.t 100))) (.c (.q 102 [] (.bin .leq (.t 99) (.t 101))) .nil))))) t_lFnStill_4) t_lFnStill_7)
theorem u_lFnStill_8 (P : Program) (k : KT) (e : Env) (w : World) : vcK P t_lFnStill_8 k e w = vcK P (.seq (.seq (.reg [1, 5, 6, 14, 16, 102] (.c (.q 99 [] (.mv (.t 16))) (.c (.q 100 [] (.fa 1 (.t 5))) (.c (.q 101 [] (.ld (.t 100))) (.c (.q 102 [] (.bin .leq (.t 99) (.t 101))) .nil))))) t_lFnStill_4) t_lFnStill_7) k e w := rfl
def t_lFnStill_9 : X := (.blk 0 (.loop [16] [1, 5, 6, 14] t_lFnStill_8))
theorem u_lFnStill_9 (P : Program) (k : KT) (e : Env) (w : World) : vcK P t_lFnStill_9 k e w = vcK P (.blk 0 (.loop [16] [1, 5, 6, 14] t_lFnStill_8)) k e w := rfl
def t_lFnStill_10 : X := (.cond (.t 141) (.seq (.reg [4] (.c (.q 4 [] (.mv (.c (.bool false)))) .nil)) .ret) .skip)
theorem u_lFnStill_10 (P : Program) (k : KT) (e : Env) (w : World) : vcK P t_lFnStill_10 k e w = vcK P (.cond (.t 141) (.seq (.reg [4] (.c (.q 4 [] (.mv (.c (.bool false)))) .nil)) .ret) .skip) k e w := rfl
def t_lFnStill_11 : X := (.cond (.t 165) (.seq (.reg [4] (.c (.q 4 [] (.mv (.c (.bool false)))) .nil)) .ret) .skip)
theorem u_lFnStill_11 (P : Program) (k : KT) (e : Env) (w : World) : vcK P t_lFnStill_11 k e w = vcK P (.cond (.t 165) (.seq (.reg [4] (.c (.q 4 [] (.mv (.c (.bool false)))) .nil)) .ret) .skip) k e w := rfl
def t_lFnStill_12 : X := (.seq (.drw [1, 5, 19, 21, 148, 149, 165] (.c (.q 152 [] (.fa 2 (.t 19))) (.c (.q 153 [] (.ld (.t 152))) (.c (.q 154 [] (.mv (.t 22))) (.c (.q 155 [] (.bin .add (.t 154) (.c (.int .i64 1)))) (.c (.q 156 [] (.mv (.t 21))) (.c (.q 157 [] (.bin .rem (.t 155) (.t 156))) (.c (.q 158 [] (.ia 1 (.t 153) (.t 157))) (.c (.q 159 [] (.ld (.t 158))) (.c (.q 160 [] (.fa 2 (.t 5))) (.c (.q 161 [] (.ld (.t 160))) (.c (.q 162 [] (.mv (.t 22))) (.c (.q 163 [] (.ia 1 (.t 161) (.t 162))) (.c (.q 164 [] (.ld (.t 163))) (.c (.q 165 [] (.bin .neq (.t 159) (.t 164))) .nil))))))))))))))) t_lFnStill_11)
theorem u_lFnStill_12 (P : Program) (k : KT) (e : Env) (w : World) : vcK P t_lFnStill_12 k e w = vcK P (.seq (.drw [1, 5, 19, 21, 148, 149, 165] (.c (.q 152 [] (.fa 2 (.t 19))) (.c (.q 153 [] (.ld (.t 152))) (.c (.q 154 [] (.mv (.t 22))) (.c (.q 155 [] (.bin .add (.t 154) (.c (.int .i64 1)))) (.c (.q 156 [] (.mv (.t 21))) (.c (.q 157 [] (.bin .rem (.t 155) (.t 156))) (.c (.q 158 [] (.ia 1 (.t 153) (.t 157))) (.c (.q 159 [] (.ld (.t 158))) (.c (.q 160 [] (.fa 2 (.t 5))) (.c (.q 161 [] (.ld (.t 160))) (.c (.q 162 [] (.mv (.t 22))) (.c (.q 163 [] (.ia 1 (.t 161) (.t 162))) (.c (.q 164 [] (.ld (.t 163))) (.c (.q 165 [] (.bin .neq (.t 159) (.t 164))) .nil))))))))))))))) t_lFnStill_11) k e w := rfl
def t_lFnStill_13 : X := (.reg [1, 5, 19, 21, 148, 149] (.c (.q 166 [] (.bin .add (.t 149) (.c (.int .i64 1)))) (.c (.q 149 [] (.mv (.t 166))) .nil)))
theorem u_lFnStill_13 (P : Program) (k : KT) (e : Env) (w : World) : vcK P t_lFnStill_13 k e w = vcK P (.reg [1, 5, 19, 21, 148, 149] (.c (.q 166 [] (.bin .add (.t 149) (.c (.int .i64 1)))) (.c (.q 149 [] (.mv (.t 166))) .nil))) k e w := rfl
def t_lFnStill_14 : X := (.seq (.blk 3 (.seq (.reg [1, 5, 19, 21, 22, 148, 149] (.c (.q 151 [] (.mv (.t 149))) (.c (.q 22 [] (.mv (.t 151))) .nil))) t_lFnStill_12)) t_lFnStill_13)
theorem u_lFnStill_14 (P : Program) (k : KT) (e : Env) (w : World) : vcK P t_lFnStill_14 k e w = vcK P (.seq (.blk 3 (.seq (.reg [1, 5, 19, 21, 22, 148, 149] (.c (.q 151 [] (.mv (.t 149))) (.c (.q 22 [] (.mv (.t 151))) .nil))) t_lFnStill_12)) t_lFnStill_13) k e w := rfl
def t_lFnStill_15 : X := (.seq (.cond (.t 150) .skip (.exit 2)) t_lFnStill_14)
theorem u_lFnStill_15 (P : Program) (k : KT) (e : Env) (w : World) : vcK P t_lFnStill_15 k e w = vcK P (.seq (.cond (.t 150) .skip (.exit 2)) t_lFnStill_14) k e w := rfl
def t_lFnStill_16 : X := (.seq (.reg [1, 5, 19, 21, 148, 149, 150] (.c (.q 150 [] (.bin .lss (.t 149) (.t 148))) .nil)) t_lFnStill_15)
theorem u_lFnStill_16 (P : Program) (k : KT) (e : Env) (w : World) : vcK P t_lFnStill_16 k e w = vcK P (.seq (.reg [1, 5, 19, 21, 148, 149, 150] (.c (.q 150 [] (.bin .lss (.t 149) (.t 148))) .nil)) t_lFnStill_15) k e w := rfl
def t_lFnStill_17 : X := (.blk 2 (.loop [149] [1, 5, 19, 21, 148] t_lFnStill_16))
theorem u_lFnStill_17 (P : Program) (k : KT) (e : Env) (w : World) : vcK P t_lFnStill_17 k e w = vcK P (.blk 2 (.loop [149] [1, 5, 19, 21, 148] t_lFnStill_16)) k e w := rfl
def t_lFnStill_18 : X := (.seq (.reg [1, 5, 19, 21, 148, 149] (.c (.q 146 [] (.fa 2 (.t 5))) (.c (.q 147 [] (.ld (.t 146))) (.c (.q 148 [] (.lens (.t 147))) (.c (.q 149 [] (.mv (.c (.int .i64 0)))) .nil))))) t_lFnStill_17)
theorem u_lFnStill_18 (P : Program) (k : KT) (e : Env) (w : World) : vcK P t_lFnStill_18 k e w = vcK P (.seq (.reg [1, 5, 19, 21, 148, 149] (.c (.q 146 [] (.fa 2 (.t 5))) (.c (.q 147 [] (.ld (.t 146))) (.c (.q 148 [] (.lens (.t 147))) (.c (.q 149 [] (.mv (.c (.int .i64 0)))) .nil))))) t_lFnStill_17) k e w := rfl
def t_lFnStill_19 : X := (.cond (.t 142) (.seq (.reg [1, 5, 19, 21] (.c (.q 143 [] (.fa 2 (.t 5))) (.c (.q 144 [] (.ld (.t 143))) (.c (.q 145 [] (.lens (.t 144))) (.c (.q 21 [] (.mv (.t 145))) .nil))))) t_lFnStill_18) .skip)
theorem u_lFnStill_19 (P : Program) (k : KT) (e : Env) (w : World) : vcK P t_lFnStill_19 k e w = vcK P (.cond (.t 142) (.seq (.reg [1, 5, 19, 21] (.c (.q 143 [] (.fa 2 (.t 5))) (.c (.q 144 [] (.ld (.t 143))) (.c (.q 145 [] (.lens (.t 144))) (.c (.q 21 [] (.mv (.t 145))) .nil))))) t_lFnStill_18) .skip) k e w := rfl
def t_lFnStill_20 : X := (.seq (.reg [1, 5, 19, 142] (.c (.q 142 [] (.mv (.t 17))) .nil)) t_lFnStill_19)
theorem u_lFnStill_20 (P : Program) (k : KT) (e : Env) (w : World) : vcK P t_lFnStill_20 k e w = vcK P (.seq (.reg [1, 5, 19, 142] (.c (.q 142 [] (.mv (.t 17))) .nil)) t_lFnStill_19) k e w := rfl
def t_lFnStill_21 : X := (.seq (.seq (.reg [1, 5, 17, 19, 141] (.c (.q 127 [] (.mv (.t 18))) (.c (.q 128 [] (.not (.t 127))) (.c (.q 129 [] (.mv (.t 128))) (.c (.q 130 [(129, false)] (.mv (.t 20))) (.c (.q 131 [(129, false)] (.not (.t 130))) (.c (.q 132 [] (.pick (.t 129) (.c (.bool true)) (.t 131))) (.c (.q 133 [] (.mv (.t 132))) (.c (.q 134 [(133, false)] (.fa 2 (.t 19))) (.c (.q 135 [(133, false)] (.ld (.t 134))) (.c (.q 136 [(133, false)] (.lens (.t 135))) (.c (.q 137 [(133, false)] (.fa 2 (.t 5))) (.c (.q 138 [(133, false)] (.ld (.t 137))) (.c (.q 139 [(133, false)] (.lens (.t 138))) (.c (.q 140 [(133, false)] (.bin .neq (.t 136) (.t 139))) (.c (.q 141 [] (.pick (.t 133) (.c (.bool true)) (.t 140))) .nil)))))))))))))))) t_lFnStill_10) t_lFnStill_20)
theorem u_lFnStill_21 (P : Program) (k : KT) (e : Env) (w : World) : vcK P t_lFnStill_21 k e w = vcK P (.seq (.seq (.reg [1, 5, 17, 19, 141] (.c (.q 127 [] (.mv (.t 18))) (.c (.q 128 [] (.not (.t 127))) (.c (.q 129 [] (.mv (.t 128))) (.c (.q 130 [(129, false)] (.mv (.t 20))) (.c (.q 131 [(129, false)] (.not (.t 130))) (.c (.q 132 [] (.pick (.t 129) (.c (.bool true)) (.t 131))) (.c (.q 133 [] (.mv (.t 132))) (.c (.q 134 [(133, false)] (.fa 2 (.t 19))) (.c (.q 135 [(133, false)] (.ld (.t 134))) (.c (.q 136 [(133, false)] (.lens (.t 135))) (.c (.q 137 [(133, false)] (.fa 2 (.t 5))) (.c (.q 138 [(133, false)] (.ld (.t 137))) (.c (.q 139 [(133, false)] (.lens (.t 138))) (.c (.q 140 [(133, false)] (.bin .neq (.t 136) (.t 139))) (.c (.q 141 [] (.pick (.t 133) (.c (.bool true)) (.t 140))) .nil)))))))))))))))) t_lFnStill_10) t_lFnStill_20) k e w := rfl
def t_lFnStill_22 : X := (.seq (.reg [1, 5, 17, 18, 19, 20] (.c (.q 123 [] (.lda 3 (.t 5))) (.c (.e (some 124) [] (.call false 57 [(.t 123)])) (.c (.q 122 [] (.mv (.t 124))) (.c (.q 125 [] (.ext 0 (.t 122))) (.c (.q 126 [] (.ext 1 (.t 122))) (.c (.e (some 19) [] (.al 58 [(S []), (.int .i64 0), (.slice none 0 0)])) (.c (.e none [] (.st 3 (.t 19) (.t 125))) (.c (.q 20 [] (.mv (.t 126))) .nil))))))))) t_lFnStill_21)
theorem u_lFnStill_22 (P : Program) (k : KT) (e : Env) (w : World) : vcK P t_lFnStill_22 k e w = vcK P (.seq (.reg [1, 5, 17, 18, 19, 20] (.c (.q 123 [] (.lda 3 (.t 5))) (.c (.e (some 124) [] (.call false 57 [(.t 123)])) (.c (.q 122 [] (.mv (.t 124))) (.c (.q 125 [] (.ext 0 (.t 122))) (.c (.q 126 [] (.ext 1 (.t 122))) (.c (.e (some 19) [] (.al 58 [(S []), (.int .i64 0), (.slice none 0 0)])) (.c (.e none [] (.st 3 (.t 19) (.t 125))) (.c (.q 20 [] (.mv (.t 126))) .nil))))))))) t_lFnStill_21) k e w := rfl
def t_lFnStill_23 : X := (.seq (.reg [1, 5, 17, 18] (.c (.q 118 [] (.lda 3 (.t 5))) (.c (.e (some 119) [] (.call false 56 [(.t 118)])) (.c (.q 117 [] (.mv (.t 119))) (.c (.q 120 [] (.ext 0 (.t 117))) (.c (.q 121 [] (.ext 1 (.t 117))) (.c (.q 17 [] (.mv (.t 120))) (.c (.q 18 [] (.mv (.t 121))) .nil)))))))) t_lFnStill_22)
theorem u_lFnStill_23 (P : Program) (k : KT) (e : Env) (w : World) : vcK P t_lFnStill_23 k e w = vcK P (.seq (.reg [1, 5, 17, 18] (.c (.q 118 [] (.lda 3 (.t 5))) (.c (.e (some 119) [] (.call false 56 [(.t 118)])) (.c (.q 117 [] (.mv (.t 119))) (.c (.q 120 [] (.ext 0 (.t 117))) (.c (.q 121 [] (.ext 1 (.t 117))) (.c (.q 17 [] (.mv (.t 120))) (.c (.q 18 [] (.mv (.t 121))) .nil)))))))) t_lFnStill_22) k e w := rfl
def t_lFnStill_24 : X := (.seq (.seq (.reg [1, 5, 6, 14, 16] (.c (.q 16 [] (.mv (.c (.int .i64 1)))) .nil)) t_lFnStill_9) t_lFnStill_23)
theorem u_lFnStill_24 (P : Program) (k : KT) (e : Env) (w : World) : vcK P t_lFnStill_24 k e w = vcK P (.seq (.seq (.reg [1, 5, 6, 14, 16] (.c (.q 16 [] (.mv (.c (.int .i64 1)))) .nil)) t_lFnStill_9) t_lFnStill_23) k e w := rfl
def t_lFnStill_25 : X := (.seq (.seq (.reg [1, 5, 6, 14, 98] (.c (.q 84 [] (.mv (.t 10))) (.c (.q 85 [] (.mv (.t 6))) (.c (.e (some 86) [] (.call false 54 [(.t 84), (.t 85)])) (.c (.q 87 [] (.not (.t 86))) (.c (.q 88 [] (.mv (.t 87))) (.c (.q 89 [(88, false)] (.mv (.t 15))) (.c (.q 90 [(88, false)] (.not (.t 89))) (.c (.q 91 [] (.pick (.t 88) (.c (.bool true)) (.t 90))) (.c (.q 92 [] (.mv (.t 91))) (.c (.q 93 [(92, false)] (.mv (.t 14))) (.c (.q 94 [(92, false)] (.len (.t 93))) (.c (.q 95 [(92, false)] (.fa 1 (.t 5))) (.c (.q 96 [(92, false)] (.ld (.t 95))) (.c (.q 97 [(92, false)] (.bin .neq (.t 94) (.t 96))) (.c (.q 98 [] (.pick (.t 92) (.c (.bool true)) (.t 97))) .nil)))))))))))))))) t_lFnStill_3) t_lFnStill_24)
theorem u_lFnStill_25 (P : Program) (k : KT) (e : Env) (w : World) : vcK P t_lFnStill_25 k e w = vcK P (.seq (.seq (.reg [1, 5, 6, 14, 98] (.c (.q 84 [] (.mv (.t 10))) (.c (.q 85 [] (.mv (.t 6))) (.c (.e (some 86) [] (.call false 54 [(.t 84), (.t 85)])) (.c (.q 87 [] (.not (.t 86))) (.c (.q 88 [] (.mv (.t 87))) (.c (.q 89 [(88, false)] (.mv (.t 15))) (.c (.q 90 [(88, false)] (.not (.t 89))) (.c (.q 91 [] (.pick (.t 88) (.c (.bool true)) (.t 90))) (.c (.q 92 [] (.mv (.t 91))) (.c (.q 93 [(92, false)] (.mv (.t 14))) (.c (.q 94 [(92, false)] (.len (.t 93))) (.c (.q 95 [(92, false)] (.fa 1 (.t 5))) (.c (.q 96 [(92, false)] (.ld (.t 95))) (.c (.q 97 [(92, false)] (.bin .neq (.t 94) (.t 96))) (.c (.q 98 [] (.pick (.t 92) (.c (.bool true)) (.t 97))) .nil)))))))))))))))) t_lFnStill_3) t_lFnStill_24) k e w := rfl
def t_lFnStill_26 : X := (.cond (.t 78) (.seq (.reg [1, 5, 6, 10, 14, 15] (.c (.q 80 [] (.lda 3 (.t 5))) (.c (.e (some 81) [] (.call false 53 [(.t 80)])) (.c (.q 79 [] (.mv (.t 81))) (.c (.q 82 [] (.ext 0 (.t 79))) (.c (.q 83 [] (.ext 1 (.t 79))) (.c (.q 14 [] (.mv (.t 82))) (.c (.q 15 [] (.mv (.t 83))) .nil)))))))) t_lFnStill_25) .skip)
theorem u_lFnStill_26 (P : Program) (k : KT) (e : Env) (w : World) : vcK P t_lFnStill_26 k e w = vcK P (.cond (.t 78) (.seq (.reg [1, 5, 6, 10, 14, 15] (.c (.q 80 [] (.lda 3 (.t 5))) (.c (.e (some 81) [] (.call false 53 [(.t 80)])) (.c (.q 79 [] (.mv (.t 81))) (.c (.q 82 [] (.ext 0 (.t 79))) (.c (.q 83 [] (.ext 1 (.t 79))) (.c (.q 14 [] (.mv (.t 82))) (.c (.q 15 [] (.mv (.t 83))) .nil)))))))) t_lFnStill_25) .skip) k e w := rfl
def t_lFnStill_27 : X := (.seq (.reg [4] (.c (.q 179 [] (.mv (.t 25))) (.c (.q 180 [] (.mv (.t 27))) (.c (.q 181 [] (.beq false (.t 179) (.t 180))) (.c (.q 182 [] (.mv (.t 181))) (.c (.q 183 [(182, true)] (.mv (.t 24))) (.c (.q 184 [(182, true)] (.mv (.t 26))) (.c (.q 185 [(182, true)] (.bin .eql (.t 183) (.t 184))) (.c (.q 186 [] (.pick (.t 182) (.t 185) (.c (.bool false)))) (.c (.q 4 [] (.mv (.t 186))) .nil)))))))))) .ret)
theorem u_lFnStill_27 (P : Program) (k : KT) (e : Env) (w : World) : vcK P t_lFnStill_27 k e w = vcK P (.seq (.reg [4] (.c (.q 179 [] (.mv (.t 25))) (.c (.q 180 [] (.mv (.t 27))) (.c (.q 181 [] (.beq false (.t 179) (.t 180))) (.c (.q 182 [] (.mv (.t 181))) (.c (.q 183 [(182, true)] (.mv (.t 24))) (.c (.q 184 [(182, true)] (.mv (.t 26))) (.c (.q 185 [(182, true)] (.bin .eql (.t 183) (.t 184))) (.c (.q 186 [] (.pick (.t 182) (.t 185) (.c (.bool false)))) (.c (.q 4 [] (.mv (.t 186))) .nil)))))))))) .ret) k e w := rfl
def t_lFnStill_28 : X := (.seq (.reg [24, 25, 26, 27] (.c (.q 175 [] (.lda 3 (.t 23))) (.c (.e (some 176) [] (.call false 59 [(.t 175)])) (.c (.q 174 [] (.mv (.t 176))) (.c (.q 177 [] (.ext 0 (.t 174))) (.c (.q 178 [] (.ext 1 (.t 174))) (.c (.q 26 [] (.mv (.t 177))) (.c (.q 27 [] (.mv (.t 178))) .nil)))))))) t_lFnStill_27)
theorem u_lFnStill_28 (P : Program) (k : KT) (e : Env) (w : World) : vcK P t_lFnStill_28 k e w = vcK P (.seq (.reg [24, 25, 26, 27] (.c (.q 175 [] (.lda 3 (.t 23))) (.c (.e (some 176) [] (.call false 59 [(.t 175)])) (.c (.q 174 [] (.mv (.t 176))) (.c (.q 177 [] (.ext 0 (.t 174))) (.c (.q 178 [] (.ext 1 (.t 174))) (.c (.q 26 [] (.mv (.t 177))) (.c (.q 27 [] (.mv (.t 178))) .nil)))))))) t_lFnStill_27) k e w := rfl
def t_lFnStill_29 : X := (.seq (.reg [23, 24, 25] (.c (.q 170 [] (.lda 3 (.t 23))) (.c (.e (some 171) [] (.call false 53 [(.t 170)])) (.c (.q 169 [] (.mv (.t 171))) (.c (.q 172 [] (.ext 0 (.t 169))) (.c (.q 173 [] (.ext 1 (.t 169))) (.c (.q 24 [] (.mv (.t 172))) (.c (.q 25 [] (.mv (.t 173))) .nil)))))))) t_lFnStill_28)
theorem u_lFnStill_29 (P : Program) (k : KT) (e : Env) (w : World) : vcK P t_lFnStill_29 k e w = vcK P (.seq (.reg [23, 24, 25] (.c (.q 170 [] (.lda 3 (.t 23))) (.c (.e (some 171) [] (.call false 53 [(.t 170)])) (.c (.q 169 [] (.mv (.t 171))) (.c (.q 172 [] (.ext 0 (.t 169))) (.c (.q 173 [] (.ext 1 (.t 169))) (.c (.q 24 [] (.mv (.t 172))) (.c (.q 25 [] (.mv (.t 173))) .nil)))))))) t_lFnStill_28) k e w := rfl
def t_lFnStill_30 : X := (.seq (.reg [23] (.c (.q 167 [] (.mv (.t 1))) (.c (.e (some 168) [] (.call false 58 [(.t 167)])) (.c (.e (some 23) [] (.al 58 [(S []), (.int .i64 0), (.slice none 0 0)])) (.c (.e none [] (.st 3 (.t 23) (.t 168))) .nil))))) t_lFnStill_29)
theorem u_lFnStill_30 (P : Program) (k : KT) (e : Env) (w : World) : vcK P t_lFnStill_30 k e w = vcK P (.seq (.reg [23] (.c (.q 167 [] (.mv (.t 1))) (.c (.e (some 168) [] (.call false 58 [(.t 167)])) (.c (.e (some 23) [] (.al 58 [(S []), (.int .i64 0), (.slice none 0 0)])) (.c (.e none [] (.st 3 (.t 23) (.t 168))) .nil))))) t_lFnStill_29) k e w := rfl
def t_lFnStill_31 : X := (.seq (.seq (.reg [1, 5, 6, 10, 78] (.c (.q 78 [] (.mv (.t 7))) .nil)) t_lFnStill_26) t_lFnStill_30)
theorem u_lFnStill_31 (P : Program) (k : KT) (e : Env) (w : World) : vcK P t_lFnStill_31 k e w = vcK P (.seq (.seq (.reg [1, 5, 6, 10, 78] (.c (.q 78 [] (.mv (.t 7))) .nil)) t_lFnStill_26) t_lFnStill_30) k e w := rfl
def t_lFnStill_32 : X := (.seq (.seq (.reg [1, 5, 6, 7, 10, 77] (.c (.q 53 [] (.mv (.t 7))) (.c (.q 54 [] (.mv (.t 9))) (.c (.q 55 [] (.beq true (.t 53) (.t 54))) (.c (.q 56 [] (.mv (.t 55))) (.c (.q 57 [(56, false)] (.mv (.t 6))) (.c (.q 58 [(56, false)] (.mv (.t 8))) (.c (.e (some 59) [(56, false)] (.call false 52 [(.t 57), (.t 58)])) (.c (.q 60 [(56, false)] (.not (.t 59))) (.c (.q 61 [] (.pick (.t 56) (.c (.bool true)) (.t 60))) (.c (.q 62 [] (.mv (.t 61))) (.c (.q 63 [(62, false)] (.mv (.t 11))) (.c (.q 64 [(62, false)] (.mv (.t 13))) (.c (.q 65 [(62, false)] (.beq true (.t 63) (.t 64))) (.c (.q 66 [] (.pick (.t 62) (.c (.bool true)) (.t 65))) (.c (.q 67 [] (.mv (.t 66))) (.c (.q 68 [(67, false)] (.mv (.t 10))) (.c (.q 69 [(67, false)] (.mv (.t 12))) (.c (.e (some 70) [(67, false)] (.call false 52 [(.t 68), (.t 69)])) (.c (.q 71 [(67, false)] (.not (.t 70))) (.c (.q 72 [] (.pick (.t 67) (.c (.bool true)) (.t 71))) (.c (.q 73 [] (.mv (.t 72))) (.c (.q 74 [(73, false)] (.mv (.t 7))) (.c (.q 75 [(73, false)] (.mv (.t 11))) (.c (.q 76 [(73, false)] (.beq true (.t 74) (.t 75))) (.c (.q 77 [] (.pick (.t 73) (.c (.bool true)) (.t 76))) .nil)))))))))))))))))))))))))) t_lFnStill_2) t_lFnStill_31)
theorem u_lFnStill_32 (P : Program) (k : KT) (e : Env) (w : World) : vcK P t_lFnStill_32 k e w = vcK P (.seq (.seq (.reg [1, 5, 6, 7, 10, 77] (.c (.q 53 [] (.mv (.t 7))) (.c (.q 54 [] (.mv (.t 9))) (.c (.q 55 [] (.beq true (.t 53) (.t 54))) (.c (.q 56 [] (.mv (.t 55))) (.c (.q 57 [(56, false)] (.mv (.t 6))) (.c (.q 58 [(56, false)] (.mv (.t 8))) (.c (.e (some 59) [(56, false)] (.call false 52 [(.t 57), (.t 58)])) (.c (.q 60 [(56, false)] (.not (.t 59))) (.c (.q 61 [] (.pick (.t 56) (.c (.bool true)) (.t 60))) (.c (.q 62 [] (.mv (.t 61))) (.c (.q 63 [(62, false)] (.mv (.t 11))) (.c (.q 64 [(62, false)] (.mv (.t 13))) (.c (.q 65 [(62, false)] (.beq true (.t 63) (.t 64))) (.c (.q 66 [] (.pick (.t 62) (.c (.bool true)) (.t 65))) (.c (.q 67 [] (.mv (.t 66))) (.c (.q 68 [(67, false)] (.mv (.t 10))) (.c (.q 69 [(67, false)] (.mv (.t 12))) (.c (.e (some 70) [(67, false)] (.call false 52 [(.t 68), (.t 69)])) (.c (.q 71 [(67, false)] (.not (.t 70))) (.c (.q 72 [] (.pick (.t 67) (.c (.bool true)) (.t 71))) (.c (.q 73 [] (.mv (.t 72))) (.c (.q 74 [(73, false)] (.mv (.t 7))) (.c (.q 75 [(73, false)] (.mv (.t 11))) (.c (.q 76 [(73, false)] (.beq true (.t 74) (.t 75))) (.c (.q 77 [] (.pick (.t 73) (.c (.bool true)) (.t 76))) .nil)))))))))))))))))))))))))) t_lFnStill_2) t_lFnStill_31) k e w := rfl
def t_lFnStill_33 : X := (.seq (.reg [1, 5, 6, 7, 8, 9, 10, 11, 12, 13] (.c (.q 49 [] (.lda 3 (.t 5))) (.c (.e (some 50) [] (.call false 51 [(.t 49)])) (.c (.q 48 [] (.mv (.t 50))) (.c (.q 51 [] (.ext 0 (.t 48))) (.c (.q 52 [] (.ext 1 (.t 48))) (.c (.q 12 [] (.mv (.t 51))) (.c (.q 13 [] (.mv (.t 52))) .nil)))))))) t_lFnStill_32)
theorem u_lFnStill_33 (P : Program) (k : KT) (e : Env) (w : World) : vcK P t_lFnStill_33 k e w = vcK P (.seq (.reg [1, 5, 6, 7, 8, 9, 10, 11, 12, 13] (.c (.q 49 [] (.lda 3 (.t 5))) (.c (.e (some 50) [] (.call false 51 [(.t 49)])) (.c (.q 48 [] (.mv (.t 50))) (.c (.q 51 [] (.ext 0 (.t 48))) (.c (.q 52 [] (.ext 1 (.t 48))) (.c (.q 12 [] (.mv (.t 51))) (.c (.q 13 [] (.mv (.t 52))) .nil)))))))) t_lFnStill_32) k e w := rfl
def t_lFnStill_34 : X := (.seq (.reg [1, 5, 6, 7, 8, 9, 10, 11] (.c (.q 44 [] (.lda 3 (.t 5))) (.c (.e (some 45) [] (.call false 50 [(.t 44)])) (.c (.q 43 [] (.mv (.t 45))) (.c (.q 46 [] (.ext 0 (.t 43))) (.c (.q 47 [] (.ext 1 (.t 43))) (.c (.q 10 [] (.mv (.t 46))) (.c (.q 11 [] (.mv (.t 47))) .nil)))))))) t_lFnStill_33)
theorem u_lFnStill_34 (P : Program) (k : KT) (e : Env) (w : World) : vcK P t_lFnStill_34 k e w = vcK P (.seq (.reg [1, 5, 6, 7, 8, 9, 10, 11] (.c (.q 44 [] (.lda 3 (.t 5))) (.c (.e (some 45) [] (.call false 50 [(.t 44)])) (.c (.q 43 [] (.mv (.t 45))) (.c (.q 46 [] (.ext 0 (.t 43))) (.c (.q 47 [] (.ext 1 (.t 43))) (.c (.q 10 [] (.mv (.t 46))) (.c (.q 11 [] (.mv (.t 47))) .nil)))))))) t_lFnStill_33) k e w := rfl
def t_lFnStill_35 : X := (.seq (.reg [1, 5, 6, 7, 8, 9] (.c (.q 39 [] (.lda 3 (.t 5))) (.c (.e (some 40) [] (.call false 49 [(.t 39)])) (.c (.q 38 [] (.mv (.t 40))) (.c (.q 41 [] (.ext 0 (.t 38))) (.c (.q 42 [] (.ext 1 (.t 38))) (.c (.q 8 [] (.mv (.t 41))) (.c (.q 9 [] (.mv (.t 42))) .nil)))))))) t_lFnStill_34)
theorem u_lFnStill_35 (P : Program) (k : KT) (e : Env) (w : World) : vcK P t_lFnStill_35 k e w = vcK P (.seq (.reg [1, 5, 6, 7, 8, 9] (.c (.q 39 [] (.lda 3 (.t 5))) (.c (.e (some 40) [] (.call false 49 [(.t 39)])) (.c (.q 38 [] (.mv (.t 40))) (.c (.q 41 [] (.ext 0 (.t 38))) (.c (.q 42 [] (.ext 1 (.t 38))) (.c (.q 8 [] (.mv (.t 41))) (.c (.q 9 [] (.mv (.t 42))) .nil)))))))) t_lFnStill_34) k e w := rfl
def t_lFnStill_36 : X := (.seq (.reg [1, 5, 6, 7] (.c (.q 34 [] (.lda 3 (.t 5))) (.c (.e (some 35) [] (.call false 48 [(.t 34)])) (.c (.q 33 [] (.mv (.t 35))) (.c (.q 36 [] (.ext 0 (.t 33))) (.c (.q 37 [] (.ext 1 (.t 33))) (.c (.q 6 [] (.mv (.t 36))) (.c (.q 7 [] (.mv (.t 37))) .nil)))))))) t_lFnStill_35)
theorem u_lFnStill_36 (P : Program) (k : KT) (e : Env) (w : World) : vcK P t_lFnStill_36 k e w = vcK P (.seq (.reg [1, 5, 6, 7] (.c (.q 34 [] (.lda 3 (.t 5))) (.c (.e (some 35) [] (.call false 48 [(.t 34)])) (.c (.q 33 [] (.mv (.t 35))) (.c (.q 36 [] (.ext 0 (.t 33))) (.c (.q 37 [] (.ext 1 (.t 33))) (.c (.q 6 [] (.mv (.t 36))) (.c (.q 7 [] (.mv (.t 37))) .nil)))))))) t_lFnStill_35) k e w := rfl
def t_lFnStill_37 : X := (.seq (.reg [1, 5] (.c (.q 31 [] (.mv (.t 0))) (.c (.e (some 32) [] (.call false 47 [(.t 31)])) (.c (.e (some 5) [] (.al 58 [(S []), (.int .i64 0), (.slice none 0 0)])) (.c (.e none [] (.st 3 (.t 5) (.t 32))) .nil))))) t_lFnStill_36)
theorem u_lFnStill_37 (P : Program) (k : KT) (e : Env) (w : World) : vcK P t_lFnStill_37 k e w = vcK P (.seq (.reg [1, 5] (.c (.q 31 [] (.mv (.t 0))) (.c (.e (some 32) [] (.call false 47 [(.t 31)])) (.c (.e (some 5) [] (.al 58 [(S []), (.int .i64 0), (.slice none 0 0)])) (.c (.e none [] (.st 3 (.t 5) (.t 32))) .nil))))) t_lFnStill_36) k e w := rfl
def t_lFnStill_38 : X := (.seq (.seq (.reg [0, 1, 30] (.c (.q 28 [] (.mv (.t 0))) (.c (.q 29 [] (.mv (.t 1))) (.c (.e (some 30) [] (.call false 15 [(.t 28), (.t 29)])) .nil)))) t_lFnStill_1) t_lFnStill_37)
theorem u_lFnStill_38 (P : Program) (k : KT) (e : Env) (w : World) : vcK P t_lFnStill_38 k e w = vcK P (.seq (.seq (.reg [0, 1, 30] (.c (.q 28 [] (.mv (.t 0))) (.c (.q 29 [] (.mv (.t 1))) (.c (.e (some 30) [] (.call false 15 [(.t 28), (.t 29)])) .nil)))) t_lFnStill_1) t_lFnStill_37) k e w := rfl
def x_lFnStill : X := (.seq (.reg [0, 1] (.c (.q 4 [] (.mv (.c (.bool false)))) .nil)) t_lFnStill_38)
theorem u_lFnStill (P : Program) (k : KT) (e : Env) (w : World) : vcK P x_lFnStill k e w = vcK P (.seq (.reg [0, 1] (.c (.q 4 [] (.mv (.c (.bool false)))) .nil)) t_lFnStill_38) k e w := rfl
def r_lFnStill : List XO := [(.mv (.t 4))]
theorem c_lFnStill : convF Try.prog [145, 147, 148, 149, 158, 205, 206, 232, 234, 247, 248, 256, 261, 283, 284, 299, 300, 307] Try.f6 [([0, 1], []), ([0, 1, 30], []), ([4], []), ([1, 5], []), ([1, 5, 6, 7], []), ([1, 5, 6, 7, 8, 9], []), ([1, 5, 6, 7, 8, 9, 10, 11], []), ([1, 5, 6, 7, 8, 9, 10, 11, 12, 13], []), ([1, 5, 6, 7, 10, 77], []), ([4], []), ([1, 5, 6, 10, 78], []), ([1, 5, 6, 10, 14, 15], []), ([1, 5, 6, 14, 98], []), ([4], []), ([1, 5, 6, 14, 16], []), ([16], [1, 5, 6, 14]), ([1, 5, 6, 14, 16, 102], []), ([1, 5, 6, 14, 16, 116], []), ([4], []), ([1, 5, 6, 14, 16], []), ([1, 5, 17, 18], []), ([1, 5, 17, 18, 19, 20], []), ([1, 5, 17, 19, 141], []), ([4], []), ([1, 5, 19, 142], []), ([1, 5, 19, 21], []), ([1, 5, 19, 21, 148, 149], []), ([149], [1, 5, 19, 21, 148]), ([1, 5, 19, 21, 148, 149, 150], []), ([1, 5, 19, 21, 22, 148, 149], []), ([1, 5, 19, 21, 148, 149, 165], []), ([4], []), ([1, 5, 19, 21, 148, 149], []), ([23], []), ([23, 24, 25], []), ([24, 25, 26, 27], []), ([4], [])] = some (x_lFnStill, r_lFnStill) := by kernel_rfl
def us_lFnStill := And.intro @u_lFnStill (And.intro @u_lFnStill_1 (And.intro @u_lFnStill_2 (And.intro @u_lFnStill_3 (And.intro @u_lFnStill_4 (And.intro @u_lFnStill_5 (And.intro @u_lFnStill_6 (And.intro @u_lFnStill_7 (And.intro @u_lFnStill_8 (And.intro @u_lFnStill_9 (And.intro @u_lFnStill_10 (And.intro @u_lFnStill_11 (And.intro @u_lFnStill_12 (And.intro @u_lFnStill_13 (And.intro @u_lFnStill_14 (And.intro @u_lFnStill_15 (And.intro @u_lFnStill_16 (And.intro @u_lFnStill_17 (And.intro @u_lFnStill_18 (And.intro @u_lFnStill_19 (And.intro @u_lFnStill_20 (And.intro @u_lFnStill_21 (And.intro @u_lFnStill_22 (And.intro @u_lFnStill_23 (And.intro @u_lFnStill_24 (And.intro @u_lFnStill_25 (And.intro @u_lFnStill_26 (And.intro @u_lFnStill_27 (And.intro @u_lFnStill_28 (And.intro @u_lFnStill_29 (And.intro @u_lFnStill_30 (And.intro @u_lFnStill_31 (And.intro @u_lFnStill_32 (And.intro @u_lFnStill_33 (And.intro @u_lFnStill_34 (And.intro @u_lFnStill_35 (And.intro @u_lFnStill_36 (And.intro @u_lFnStill_37 @u_lFnStill_38)))))))))))))))))))))))))))))))))))))

theorem sDrawGoodMethod_ok (v : Value) (code : List UInt8) (hl : code.length ≤ 1048576) (w : World) (h : Sq fU 1 w v code) : Fn 187 [v] w (fun r w' => AnyM w.heap.size r w') := by
  (refine callsV_of mix Try.func187 c_sDrawGoodMethod ?_; simp only [↓vsd, vsn, gW, qd, qv, ev, pick, argE, List.map_cons, List.map_nil, Option.map_some, Option.map_none, zipE, List.cons_append, List.nil_append, ne_eq, eq_self, forall_const, implies_true, if_true, if_false, reduceIte, List.cons.injEq, reduceCtorEq, Nat.reduceEqDiff, List.length_nil, List.length_cons, Nat.reduceAdd, Nat.reduceLT, List.set_cons_zero, List.set_cons_succ, ↓us_sDrawGoodMethod, r_sDrawGoodMethod])
  refine m_al ?_
  rintro b0 w0 hb0 hblk0 hx0 hs0
  have h0 := h.ext hx0
  simp only [↓vsd, vsn, gW, qd, qv, ev, pick, argE, List.map_cons, List.map_nil, Option.map_some, Option.map_none, zipE, List.cons_append, List.nil_append, ne_eq, eq_self, forall_const, implies_true, if_true, if_false, reduceIte, List.cons.injEq, reduceCtorEq, Nat.reduceEqDiff, List.length_nil, List.length_cons, Nat.reduceAdd, Nat.reduceLT, List.set_cons_zero, List.set_cons_succ, ↓us_sDrawGoodMethod, r_sDrawGoodMethod, h0.facts]
  refine m_al ?_
  rintro b w1 hb hblk hx1 hs1
  have hc := Cur.new h0 hl hb hblk hx1
  simp only [↓vsd, vsn, gW, qd, qv, ev, pick, argE, List.map_cons, List.map_nil, Option.map_some, Option.map_none, zipE, List.cons_append, List.nil_append, ne_eq, eq_self, forall_const, implies_true, if_true, if_false, reduceIte, List.cons.injEq, reduceCtorEq, Nat.reduceEqDiff, List.length_nil, List.length_cons, Nat.reduceAdd, Nat.reduceLT, List.set_cons_zero, List.set_cons_succ, ↓us_sDrawGoodMethod, r_sDrawGoodMethod]
  refine m_callw (.inl rfl) (sl1Cur_anyMethod_ok w0 b _ w1 (by omega) hc) ?_
  rintro _ w3 ⟨hc3, hg3, nm, st, x, cs, rfl, ho, hm⟩
  have hb01 := Blk.ext hblk0 hx1
  have hb03 := hb01.same (hg3.block b0 hb01.lt (fun e => by have := Option.some.inj e; omega))
  simp only [↓vsd, vsn, gW, qd, qv, ev, pick, argE, List.map_cons, List.map_nil, Option.map_some, Option.map_none, zipE, List.cons_append, List.nil_append, ne_eq, eq_self, forall_const, implies_true, if_true, if_false, reduceIte, List.cons.injEq, reduceCtorEq, Nat.reduceEqDiff, List.length_nil, List.length_cons, Nat.reduceAdd, Nat.reduceLT, List.set_cons_zero, List.set_cons_succ, ↓us_sDrawGoodMethod, r_sDrawGoodMethod]
  refine m_st hb03 rfl (Nat.le_refl 3) (fM_one nm st _ ho.sq.one') ?_
  rintro w4 hblk4 hu4
  have hb4 : Blk w4 b0 (fM nm st x) 58 := hblk4
  simp only [↓vsd, vsn, gW, qd, qv, ev, pick, argE, List.map_cons, List.map_nil, Option.map_some, Option.map_none, zipE, List.cons_append, List.nil_append, ne_eq, eq_self, forall_const, implies_true, if_true, if_false, reduceIte, List.cons.injEq, reduceCtorEq, Nat.reduceEqDiff, List.length_nil, List.length_cons, Nat.reduceAdd, Nat.reduceLT, List.set_cons_zero, List.set_cons_succ, ↓us_sDrawGoodMethod, r_sDrawGoodMethod, hb4.facts, fMg]
  exact ⟨hu4.below (hx0.trans hc3.base) (by omega), nm, st, x, cs, rfl, (ho.upd hu4 (ho.away' (by have := hb01.lt; omega))).mono (hx0.trans hx1).size, hm⟩
theorem sDrawHuntBells_ok (v : Value) (code : List UInt8) (hl : code.length ≤ 1048576) (w : World) (h : Sq fU 1 w v code) : Fn 47 [v] w (fun r w' => AnyM w.heap.size r w') := by
  (refine callsV_of mix Try.func47 c_sDrawHuntBells ?_; simp only [↓vsd, vsn, gW, qd, qv, ev, pick, argE, List.map_cons, List.map_nil, Option.map_some, Option.map_none, zipE, List.cons_append, List.nil_append, ne_eq, eq_self, forall_const, implies_true, if_true, if_false, reduceIte, List.cons.injEq, reduceCtorEq, Nat.reduceEqDiff, List.length_nil, List.length_cons, Nat.reduceAdd, Nat.reduceLT, List.set_cons_zero, List.set_cons_succ, ↓us_sDrawHuntBells, r_sDrawHuntBells])
  refine m_al ?_
  rintro b0 w0 hb0 hblk0 hx0 hs0
  simp only [↓vsd, vsn, gW, qd, qv, ev, pick, argE, List.map_cons, List.map_nil, Option.map_some, Option.map_none, zipE, List.cons_append, List.nil_append, ne_eq, eq_self, forall_const, implies_true, if_true, if_false, reduceIte, List.cons.injEq, reduceCtorEq, Nat.reduceEqDiff, List.length_nil, List.length_cons, Nat.reduceAdd, Nat.reduceLT, List.set_cons_zero, List.set_cons_succ, ↓us_sDrawHuntBells, r_sDrawHuntBells]
  refine m_call (sDrawGoodMethod_ok v code hl _ (h.ext hx0)) ?_
  rintro _ w1 hx1 ⟨nm, st, x, cs, rfl, ho, hm⟩
  simp only [↓vsd, vsn, gW, qd, qv, ev, pick, argE, List.map_cons, List.map_nil, Option.map_some, Option.map_none, zipE, List.cons_append, List.nil_append, ne_eq, eq_self, forall_const, implies_true, if_true, if_false, reduceIte, List.cons.injEq, reduceCtorEq, Nat.reduceEqDiff, List.length_nil, List.length_cons, Nat.reduceAdd, Nat.reduceLT, List.set_cons_zero, List.set_cons_succ, ↓us_sDrawHuntBells, r_sDrawHuntBells]
  refine m_st (Blk.ext hblk0 hx1) rfl (Nat.le_refl 3) (fM_one nm st _ ho.sq.one') ?_
  rintro w4 hblk4 hu4
  have hb4 : Blk w4 b0 (fM nm st x) 58 := hblk4
  simp only [↓vsd, vsn, gW, qd, qv, ev, pick, argE, List.map_cons, List.map_nil, Option.map_some, Option.map_none, zipE, List.cons_append, List.nil_append, ne_eq, eq_self, forall_const, implies_true, if_true, if_false, reduceIte, List.cons.injEq, reduceCtorEq, Nat.reduceEqDiff, List.length_nil, List.length_cons, Nat.reduceAdd, Nat.reduceLT, List.set_cons_zero, List.set_cons_succ, ↓us_sDrawHuntBells, r_sDrawHuntBells, hb4.facts, fMg]
  exact ⟨hu4.below (hx0.trans hx1) (by omega), nm, st, x, cs, rfl, (ho.upd hu4 (ho.away' (by omega))).mono hx0.size, hm⟩
theorem sDrawLeadHead_ok (v : Value) (code : List UInt8) (hl : code.length ≤ 1048576) (w : World) (h : Sq fU 1 w v code) : Fn 58 [v] w (fun r w' => AnyM w.heap.size r w') := by
  (refine callsV_of mix Try.func58 c_sDrawLeadHead ?_; simp only [↓vsd, vsn, gW, qd, qv, ev, pick, argE, List.map_cons, List.map_nil, Option.map_some, Option.map_none, zipE, List.cons_append, List.nil_append, ne_eq, eq_self, forall_const, implies_true, if_true, if_false, reduceIte, List.cons.injEq, reduceCtorEq, Nat.reduceEqDiff, List.length_nil, List.length_cons, Nat.reduceAdd, Nat.reduceLT, List.set_cons_zero, List.set_cons_succ, ↓us_sDrawLeadHead, r_sDrawLeadHead])
  refine m_al ?_
  rintro b0 w0 hb0 hblk0 hx0 hs0
  simp only [↓vsd, vsn, gW, qd, qv, ev, pick, argE, List.map_cons, List.map_nil, Option.map_some, Option.map_none, zipE, List.cons_append, List.nil_append, ne_eq, eq_self, forall_const, implies_true, if_true, if_false, reduceIte, List.cons.injEq, reduceCtorEq, Nat.reduceEqDiff, List.length_nil, List.length_cons, Nat.reduceAdd, Nat.reduceLT, List.set_cons_zero, List.set_cons_succ, ↓us_sDrawLeadHead, r_sDrawLeadHead]
  refine m_call (sDrawGoodMethod_ok v code hl _ (h.ext hx0)) ?_
  rintro _ w1 hx1 ⟨nm, st, x, cs, rfl, ho, hm⟩
  simp only [↓vsd, vsn, gW, qd, qv, ev, pick, argE, List.map_cons, List.map_nil, Option.map_some, Option.map_none, zipE, List.cons_append, List.nil_append, ne_eq, eq_self, forall_const, implies_true, if_true, if_false, reduceIte, List.cons.injEq, reduceCtorEq, Nat.reduceEqDiff, List.length_nil, List.length_cons, Nat.reduceAdd, Nat.reduceLT, List.set_cons_zero, List.set_cons_succ, ↓us_sDrawLeadHead, r_sDrawLeadHead]
  refine m_st (Blk.ext hblk0 hx1) rfl (Nat.le_refl 3) (fM_one nm st _ ho.sq.one') ?_
  rintro w4 hblk4 hu4
  have hb4 : Blk w4 b0 (fM nm st x) 58 := hblk4
  simp only [↓vsd, vsn, gW, qd, qv, ev, pick, argE, List.map_cons, List.map_nil, Option.map_some, Option.map_none, zipE, List.cons_append, List.nil_append, ne_eq, eq_self, forall_const, implies_true, if_true, if_false, reduceIte, List.cons.injEq, reduceCtorEq, Nat.reduceEqDiff, List.length_nil, List.length_cons, Nat.reduceAdd, Nat.reduceLT, List.set_cons_zero, List.set_cons_succ, ↓us_sDrawLeadHead, r_sDrawLeadHead, hb4.facts, fMg]
  exact ⟨hu4.below (hx0.trans hx1) (by omega), nm, st, x, cs, rfl, (ho.upd hu4 (ho.away' (by omega))).mono hx0.size, hm⟩
theorem still_mem {rows : List (List UInt8)} {n : Nat} {x : Int} : x ∈ stillK rows n ↔ ∃ i, i < n ∧ (∀ r ∈ rows, r.getD i 0 = UInt8.ofNat (49 + i)) ∧ (i : Int) + 1 = x := by
  simp only [stillK, List.mem_map, List.mem_filter, List.mem_range, decide_eq_true_eq]
  exact ⟨fun ⟨i, ⟨a, b⟩, c⟩ => ⟨i, a, b, c⟩, fun ⟨i, a, b, c⟩ => ⟨i, ⟨a, b⟩, c⟩⟩
theorem still_within {l : List UInt8} {cs : List (List UInt8)} {n : Nat} : ∀ x ∈ stillK (rowsU l cs (cs.length + 1)) n, x ∈ stillK [underL l cs] n := fun x hx => by
  obtain ⟨i, hi, ha, e⟩ := still_mem.1 hx
  refine still_mem.2 ⟨i, hi, fun r hr => ha r ?_, e⟩
  rw [List.mem_singleton] at hr
  rw [hr, rowsU]
  exact List.mem_map.2 ⟨cs.length, List.mem_range.2 (Nat.lt_succ_self _), by rw [List.take_length]⟩
theorem still_has {l : List UInt8} {n i : Nat} (hi : i < n) : ((i + 1 : Nat) : Int) ∈ stillK [l] n ↔ l.getD i 0 = UInt8.ofNat (49 + i) := by
  rw [still_mem]
  exact ⟨fun ⟨j, hj, ha, e⟩ => (show j = i by omega) ▸ ha l (List.mem_singleton.2 rfl), fun e => ⟨i, hi, fun r hr => by rw [List.mem_singleton] at hr; rw [hr]; exact e, by omega⟩⟩
theorem pal_turn {cs : List (List UInt8)} (hp : IsPal (cs.take (cs.length - 1))) {k : Nat} (hk : k < cs.length) : cs.reverse.getD ((k + 1) % cs.length) [] = cs.getD k [] := by
  by_cases he : k + 1 = cs.length
  · rw [he, Nat.mod_self, rev_get _ _ (by omega)]
    congr 1; omega
  · rw [Nat.mod_eq_of_lt (by omega), rev_get _ _ (by omega)]
    have hl : (cs.take (cs.length - 1)).length = cs.length - 1 := by rw [List.length_take]; omega
    have := hp k (by omega)
    rw [hl] at this
    rw [List.getD_eq_getElem?_getD, List.getD_eq_getElem?_getD, List.getElem?_take, List.getElem?_take, if_pos (by omega), if_pos (by omega), ← List.getD_eq_getElem?_getD, ← List.getD_eq_getElem?_getD] at this
    rw [this]
    congr 1; omega
theorem headV_two (nm : List UInt8) (st : Int) (cs : List (List UInt8)) : ∃ x b, headV nm st cs = .tuple ⟨[S x, .bool b]⟩ := by unfold headV; split <;> exact ⟨_, _, rfl⟩
theorem lFnStill_ok (v u : Value) (code more : List UInt8) (hcl : code.length ≤ 9223372036854775807) (hml : more.length ≤ 9223372036854775807) (w : World) (h : Sq fU 1 w v code) (h' : Sq fU 1 w u more) : Fn 6 [v, u] w (fun r _ => r = .bool true) := by
  (refine callsV_of mix Try.func6 c_lFnStill ?_; simp only [↓vsd, vsn, gW, qd, qv, ev, pick, argE, List.map_cons, List.map_nil, Option.map_some, Option.map_none, zipE, List.cons_append, List.nil_append, ne_eq, eq_self, forall_const, implies_true, if_true, if_false, reduceIte, List.cons.injEq, reduceCtorEq, Nat.reduceEqDiff, List.length_nil, List.length_cons, Nat.reduceAdd, Nat.reduceLT, List.set_cons_zero, List.set_cons_succ, ↓us_lFnStill, r_lFnStill])
  refine m_call (lbig_ok v u code more hcl hml _ h h') ?_
  rintro _ w0 hx0 rfl
  simp only [↓vsd, vsn, gW, qd, qv, ev, pick, argE, List.map_cons, List.map_nil, Option.map_some, Option.map_none, zipE, List.cons_append, List.nil_append, ne_eq, eq_self, forall_const, implies_true, if_true, if_false, reduceIte, List.cons.injEq, reduceCtorEq, Nat.reduceEqDiff, List.length_nil, List.length_cons, Nat.reduceAdd, Nat.reduceLT, List.set_cons_zero, List.set_cons_succ, ↓us_lFnStill, r_lFnStill]
  refine ⟨fun _ => hx0, fun hsm => ?_⟩
  have hlen : code.length ≤ 1048576 ∧ more.length ≤ 1048576 := by omega
  refine m_call (sDrawHuntBells_ok v code hlen.1 _ (h.ext hx0)) ?_
  rintro _ w1 hx1 ⟨nm, st, x, cs, rfl, ho1, hnm, hst, hcs, hc8⟩
  simp only [↓vsd, vsn, gW, qd, qv, ev, pick, argE, List.map_cons, List.map_nil, Option.map_some, Option.map_none, zipE, List.cons_append, List.nil_append, ne_eq, eq_self, forall_const, implies_true, if_true, if_false, reduceIte, List.cons.injEq, reduceCtorEq, Nat.reduceEqDiff, List.length_nil, List.length_cons, Nat.reduceAdd, Nat.reduceLT, List.set_cons_zero, List.set_cons_succ, ↓us_lFnStill, r_lFnStill]
  refine m_al ?_
  rintro bm w2 hbm hblk2 hx2 hs2
  simp only [↓vsd, vsn, gW, qd, qv, ev, pick, argE, List.map_cons, List.map_nil, Option.map_some, Option.map_none, zipE, List.cons_append, List.nil_append, ne_eq, eq_self, forall_const, implies_true, if_true, if_false, reduceIte, List.cons.injEq, reduceCtorEq, Nat.reduceEqDiff, List.length_nil, List.length_cons, Nat.reduceAdd, Nat.reduceLT, List.set_cons_zero, List.set_cons_succ, ↓us_lFnStill, r_lFnStill]
  refine m_st hblk2 rfl (Nat.le_refl 3) (fM_one nm st x ho1.sq.one') ?_
  rintro w3 hblk3 hu3
  have h3 : Blk w3 bm (fM nm st x) 58 := hblk3
  have ho3 := (ho1.ext hx2).upd hu3 (ho1.away (by omega))
  have hx3 : Ext w w3 := hu3.below ((hx0.trans hx1).trans hx2) (by have := (hx0.trans hx1).size; omega)
  have hnm' : nm.length ≤ 1048576 := by omega
  have hc8' : ∀ c ∈ cs, c.length ≤ 1048576 := fun c hc => by have := hc8 c hc; omega
  have hcs' : cs.length ≤ 1000000000 := by omega
  simp only [↓vsd, vsn, gW, qd, qv, ev, pick, argE, List.map_cons, List.map_nil, Option.map_some, Option.map_none, zipE, List.cons_append, List.nil_append, ne_eq, eq_self, forall_const, implies_true, if_true, if_false, reduceIte, List.cons.injEq, reduceCtorEq, Nat.reduceEqDiff, List.length_nil, List.length_cons, Nat.reduceAdd, Nat.reduceLT, List.set_cons_zero, List.set_cons_succ, ↓us_lFnStill, r_lFnStill, h3.facts, fMg]
  refine m_call (iHuntBells_ok nm st x cs hnm' hc8' hcs' _ ho3.sq) ?_
  rintro _ w4 hx4 ⟨y4, rfl, ho4⟩
  have h4 := h3.ext hx4
  have hoM4 := ho3.ext hx4
  simp only [↓vsd, vsn, gW, qd, qv, ev, pick, argE, List.map_cons, List.map_nil, Option.map_some, Option.map_none, zipE, List.cons_append, List.nil_append, ne_eq, eq_self, forall_const, implies_true, if_true, if_false, reduceIte, List.cons.injEq, reduceCtorEq, Nat.reduceEqDiff, List.length_nil, List.length_cons, Nat.reduceAdd, Nat.reduceLT, List.set_cons_zero, List.set_cons_succ, ↓us_lFnStill, r_lFnStill, h4.facts, fMg]
  refine m_call (sHuntBells_ok nm st x cs hnm' hc8' hcs' _ hoM4.sq) ?_
  rintro _ w5 hx5 ⟨y5, rfl, ho5⟩
  have h5 := h4.ext hx5
  have hoM5 := hoM4.ext hx5
  simp only [↓vsd, vsn, gW, qd, qv, ev, pick, argE, List.map_cons, List.map_nil, Option.map_some, Option.map_none, zipE, List.cons_append, List.nil_append, ne_eq, eq_self, forall_const, implies_true, if_true, if_false, reduceIte, List.cons.injEq, reduceCtorEq, Nat.reduceEqDiff, List.length_nil, List.length_cons, Nat.reduceAdd, Nat.reduceLT, List.set_cons_zero, List.set_cons_succ, ↓us_lFnStill, r_lFnStill, h5.facts, fMg]
  refine m_call (iStillBells_ok nm st x cs hnm' hc8' hcs' _ hoM5.sq) ?_
  rintro _ w6 hx6 ⟨y6, rfl, ho6⟩
  have h6 := h5.ext hx6
  have hoM6 := hoM5.ext hx6
  simp only [↓vsd, vsn, gW, qd, qv, ev, pick, argE, List.map_cons, List.map_nil, Option.map_some, Option.map_none, zipE, List.cons_append, List.nil_append, ne_eq, eq_self, forall_const, implies_true, if_true, if_false, reduceIte, List.cons.injEq, reduceCtorEq, Nat.reduceEqDiff, List.length_nil, List.length_cons, Nat.reduceAdd, Nat.reduceLT, List.set_cons_zero, List.set_cons_succ, ↓us_lFnStill, r_lFnStill, h6.facts, fMg]
  refine m_call (sStillBells_ok nm st x cs hnm' hc8' hcs' _ hoM6.sq) ?_
  rintro _ w7 hx7 ⟨y7, rfl, ho7⟩
  have h7 := h6.ext hx7
  have hoM7 := hoM6.ext hx7
  have hx47 := ((hx4.trans hx5).trans hx6).trans hx7
  have hx17 := hx3.trans hx47
  have ho4 := ((ho4.ext hx5).ext hx6).ext hx7
  have ho5 := (ho5.ext hx6).ext hx7
  have ho6 := ho6.ext hx7
  by_cases hm : IsMethod nm st cs
  · obtain ⟨n, rfl⟩ : ∃ n : Nat, st = n := ⟨st.toNat, by omega⟩
    rw [if_pos hm] at ho4 ho5 ho6 ho7
    have hD := decide_eq_true hm
    have hl1 := stillK_len [underL (roundsL (n : Int).toNat) cs] (n : Int).toNat
    have hl2 := stillK_len (rowsU (roundsL (n : Int).toNat) cs (cs.length + 1)) (n : Int).toNat
    have hw := still_within (l := roundsL (n : Int).toNat) (cs := cs) (n := (n : Int).toNat)
    simp only [↓vsd, vsn, gW, qd, qv, ev, pick, argE, List.map_cons, List.map_nil, Option.map_some, Option.map_none, zipE, List.cons_append, List.nil_append, ne_eq, eq_self, forall_const, implies_true, if_true, if_false, reduceIte, List.cons.injEq, reduceCtorEq, Nat.reduceEqDiff, List.length_nil, List.length_cons, Nat.reduceAdd, Nat.reduceLT, List.set_cons_zero, List.set_cons_succ, ↓us_lFnStill, r_lFnStill, hD]
    refine m_call (lsameInts_ok y4 y5 _ _ _ ho4.sq ho5.sq (by omega)) ?_
    rintro _ w8 hx8 rfl
    simp only [↓vsd, vsn, gW, qd, qv, ev, pick, argE, List.map_cons, List.map_nil, Option.map_some, Option.map_none, zipE, List.cons_append, List.nil_append, ne_eq, eq_self, forall_const, implies_true, if_true, if_false, reduceIte, List.cons.injEq, reduceCtorEq, Nat.reduceEqDiff, List.length_nil, List.length_cons, Nat.reduceAdd, Nat.reduceLT, List.set_cons_zero, List.set_cons_succ, ↓us_lFnStill, r_lFnStill]
    refine m_call (lsameInts_ok y6 y7 _ _ _ (ho6.ext hx8).sq (ho7.ext hx8).sq (by omega)) ?_
    rintro _ w9 hx9 rfl
    have h9 := (h7.ext hx8).ext hx9
    have hoM9 := (hoM7.ext hx8).ext hx9
    have ho49 := (ho4.ext hx8).ext hx9
    have ho69 := (ho6.ext hx8).ext hx9
    have hx19 := (hx17.trans hx8).trans hx9
    simp only [↓vsd, vsn, gW, qd, qv, ev, pick, argE, List.map_cons, List.map_nil, Option.map_some, Option.map_none, zipE, List.cons_append, List.nil_append, ne_eq, eq_self, forall_const, implies_true, if_true, if_false, reduceIte, List.cons.injEq, reduceCtorEq, Nat.reduceEqDiff, List.length_nil, List.length_cons, Nat.reduceAdd, Nat.reduceLT, List.set_cons_zero, List.set_cons_succ, ↓us_lFnStill, r_lFnStill, h9.facts, fMg]
    refine m_call (iLeadHead_ok nm n x cs hnm' hc8' hcs' _ hoM9.sq) ?_
    rintro r10 w10 hx10 hr10
    rw [headV, if_pos hm] at hr10
    subst hr10
    have h10 := h9.ext hx10
    simp only [↓vsd, vsn, gW, qd, qv, ev, pick, argE, List.map_cons, List.map_nil, Option.map_some, Option.map_none, zipE, List.cons_append, List.nil_append, ne_eq, eq_self, forall_const, implies_true, if_true, if_false, reduceIte, List.cons.injEq, reduceCtorEq, Nat.reduceEqDiff, List.length_nil, List.length_cons, Nat.reduceAdd, Nat.reduceLT, List.set_cons_zero, List.set_cons_succ, ↓us_lFnStill, r_lFnStill]
    refine m_call (lwithin_ok y6 y4 _ _ (by omega) (by omega) _ (ho69.ext hx10).sq (ho49.ext hx10).sq) ?_
    rintro _ w11 hx11 rfl
    have h11 := h10.ext hx11
    have hwD := decide_eq_true hw
    have hrow := underL_row cs (roundsL_row n (by have := hm.2.1; omega))
    have hul : (underL (roundsL n) cs).length = n := by rw [underL_len, roundsL_len]
    simp only [Int.toNat_natCast] at hwD ho49 hl1 ⊢
    have hx110 := (hx19.trans hx10).trans hx11
    have ho411 := (ho49.ext hx10).ext hx11
    have hoM11 := (hoM9.ext hx10).ext hx11
    simp only [↓vsd, vsn, gW, qd, qv, ev, pick, argE, List.map_cons, List.map_nil, Option.map_some, Option.map_none, zipE, List.cons_append, List.nil_append, ne_eq, eq_self, forall_const, implies_true, if_true, if_false, reduceIte, List.cons.injEq, reduceCtorEq, Nat.reduceEqDiff, List.length_nil, List.length_cons, Nat.reduceAdd, Nat.reduceLT, List.set_cons_zero, List.set_cons_succ, ↓us_lFnStill, r_lFnStill, h11.facts, fMg, hwD, hul]
    clear hwD hw hl2
    generalize hU : underL (roundsL n) cs = U at *
    refine m_upto n (fun i vs w' => vs = [.int .i64 (i + 1 : Nat)] ∧ Ext w11 w') ⟨rfl, Ext.refl _⟩ ?_
    rintro i vs wi hi ⟨rfl, hxi⟩
    have hi11 := h11.ext hxi
    simp only [↓vsd, vsn, gW, qd, qv, ev, pick, argE, List.map_cons, List.map_nil, Option.map_some, Option.map_none, zipE, List.cons_append, List.nil_append, ne_eq, eq_self, forall_const, implies_true, if_true, if_false, reduceIte, List.cons.injEq, reduceCtorEq, Nat.reduceEqDiff, List.length_nil, List.length_cons, Nat.reduceAdd, Nat.reduceLT, List.set_cons_zero, List.set_cons_succ, ↓us_lFnStill, r_lFnStill, hi11.facts, fMg]
    refine ⟨fun hle => ?_, fun hgt => ?_⟩
    · have hlt : i < n := by omega
      have hlo := hrow.low (i := i) (by omega)
      have hb1 : ((i + 1 : Nat) : Int) - 1 = (i : Nat) := by omega
      have hob := Iff.of_eq (own_bell (U.getD i 0) i (by have := hm.2.1; omega))
      have hdd : decide (((i + 1 : Nat) : Int) ∈ stillK [U] n) = decide (((U.getD i 0).toNat : Int) - 48 = ((i + 1 : Nat) : Int)) := decide_eq_decide.2 ((still_has hlt).trans hob.symm)
      have h256 : (U.getD i 0).toNat < 256 := UInt8.toNat_lt _
      simp only [↓vsd, vsn, gW, qd, qv, ev, pick, argE, List.map_cons, List.map_nil, Option.map_some, Option.map_none, zipE, List.cons_append, List.nil_append, ne_eq, eq_self, forall_const, implies_true, if_true, if_false, reduceIte, List.cons.injEq, reduceCtorEq, Nat.reduceEqDiff, List.length_nil, List.length_cons, Nat.reduceAdd, Nat.reduceLT, List.set_cons_zero, List.set_cons_succ, ↓us_lFnStill, r_lFnStill, hb1, Nat.add_sub_cancel]
      refine ⟨inR_i64 (by omega), by omega, inR_u8 (by omega), inR_i64 (by omega), m_call (lhas_ok y4 _ _ (by omega) _ (ho411.ext (dr hxi)).sq) ?_⟩
      rintro _ wj hxj rfl
      have hxj := ud hxj
      simp only [↓vsd, vsn, gW, qd, qv, ev, pick, argE, List.map_cons, List.map_nil, Option.map_some, Option.map_none, zipE, List.cons_append, List.nil_append, ne_eq, eq_self, forall_const, implies_true, if_true, if_false, reduceIte, List.cons.injEq, reduceCtorEq, Nat.reduceEqDiff, List.length_nil, List.length_cons, Nat.reduceAdd, Nat.reduceLT, List.set_cons_zero, List.set_cons_succ, ↓us_lFnStill, r_lFnStill, hdd]
      exact ⟨inR_i64 (by omega), UpTo.next hlt ⟨rfl, hxi.trans hxj⟩⟩
    · obtain rfl : i = n := by omega
      have hoMi := hoM11.ext hxi
      refine m_call (iIsPalindrome_ok nm i x cs hnm' hc8' hcs' _ hoMi.sq) ?_
      rintro _ wj hxj rfl
      have hj := hi11.ext hxj
      have hoMj := hoMi.ext hxj
      simp only [↓vsd, vsn, gW, qd, qv, ev, pick, argE, List.map_cons, List.map_nil, Option.map_some, Option.map_none, zipE, List.cons_append, List.nil_append, ne_eq, eq_self, forall_const, implies_true, if_true, if_false, reduceIte, List.cons.injEq, reduceCtorEq, Nat.reduceEqDiff, List.length_nil, List.length_cons, Nat.reduceAdd, Nat.reduceLT, List.set_cons_zero, List.set_cons_succ, ↓us_lFnStill, r_lFnStill, hj.facts, fMg]
      refine m_call (iTurnMethod_ok nm i x cs hm hnm' hc8' hcs' _ hoMj.sq) ?_
      rintro _ wk hxk ⟨xt, rfl, hot⟩
      have hk := hj.ext hxk
      have hoMk := hoMj.ext hxk
      simp only [↓vsd, vsn, gW, qd, qv, ev, pick, argE, List.map_cons, List.map_nil, Option.map_some, Option.map_none, zipE, List.cons_append, List.nil_append, ne_eq, eq_self, forall_const, implies_true, if_true, if_false, reduceIte, List.cons.injEq, reduceCtorEq, Nat.reduceEqDiff, List.length_nil, List.length_cons, Nat.reduceAdd, Nat.reduceLT, List.set_cons_zero, List.set_cons_succ, ↓us_lFnStill, r_lFnStill]
      refine m_al ?_
      rintro bt wl hbt hblkl hxl hsl
      simp only [↓vsd, vsn, gW, qd, qv, ev, pick, argE, List.map_cons, List.map_nil, Option.map_some, Option.map_none, zipE, List.cons_append, List.nil_append, ne_eq, eq_self, forall_const, implies_true, if_true, if_false, reduceIte, List.cons.injEq, reduceCtorEq, Nat.reduceEqDiff, List.length_nil, List.length_cons, Nat.reduceAdd, Nat.reduceLT, List.set_cons_zero, List.set_cons_succ, ↓us_lFnStill, r_lFnStill]
      refine m_st hblkl rfl (Nat.le_refl 3) (fM_one nm _ xt hot.sq.one') ?_
      rintro wm hblkm hum
      have hbm : Blk wm bt (fM nm i xt) 58 := hblkm
      have hxkm : Ext wk wm := hum.below hxl (by omega)
      have hxjm := (hxi.trans hxj).trans (hxk.trans hxkm)
      have hm' := hk.ext hxkm
      have hotm := hot.ext hxkm
      have hoMm := hoMk.ext hxkm
      have hxL : Ext w wm := hx110.trans hxjm
      by_cases hp : IsPal (cs.take (cs.length - 1))
      · have hpD : decide (IsMethod nm i cs ∧ IsPal (cs.take (cs.length - 1))) = true := decide_eq_true ⟨hm, hp⟩
        simp only [↓vsd, vsn, gW, qd, qv, ev, pick, argE, List.map_cons, List.map_nil, Option.map_some, Option.map_none, zipE, List.cons_append, List.nil_append, ne_eq, eq_self, forall_const, implies_true, if_true, if_false, reduceIte, List.cons.injEq, reduceCtorEq, Nat.reduceEqDiff, List.length_nil, List.length_cons, Nat.reduceAdd, Nat.reduceLT, List.set_cons_zero, List.set_cons_succ, ↓us_lFnStill, r_lFnStill, hm'.facts, hbm.facts, fMg, hotm.sq.facts, hoMm.sq.facts, List.length_reverse, hpD]
        refine ⟨fun hh => hh hm, fun _ => ?_⟩
        refine m_upto cs.length (fun k vs w' => vs = [.int .i64 k] ∧ Ext wm w') ⟨rfl, Ext.refl _⟩ ?_
        rintro k vs wn hkk ⟨rfl, hxn⟩
        have hmn := hm'.ext hxn
        have hbn := hbm.ext hxn
        have hoMn := (hoMm.ext hxn).sq
        have hotn := (hotm.ext hxn).sq
        by_cases hlt : k < cs.length
        · have hltI : (k : Int) < cs.length := by omega
          have hltJ : ¬ (cs.length : Int) ≤ k := by omega
          have hq : (k + 1) % cs.length < cs.reverse.length := by rw [List.length_reverse]; exact Nat.mod_lt _ (by omega)
          have hpt := pal_turn hp hlt
          have hre : ((k : Int) + 1).tmod cs.length = ((k + 1) % cs.length : Nat) := by rw [show (k : Int) + 1 = ((k + 1 : Nat) : Int) by omega]; rfl
          have hr0 : ¬ (cs.length : Int) = 0 := by omega
          simp only [↓vsd, vsn, gW, qd, qv, ev, pick, argE, List.map_cons, List.map_nil, Option.map_some, Option.map_none, zipE, List.cons_append, List.nil_append, ne_eq, eq_self, forall_const, implies_true, if_true, if_false, reduceIte, List.cons.injEq, reduceCtorEq, Nat.reduceEqDiff, List.length_nil, List.length_cons, Nat.reduceAdd, Nat.reduceLT, List.set_cons_zero, List.set_cons_succ, ↓us_lFnStill, r_lFnStill, hltI, hltJ, hmn.facts, hbn.facts, fMg, hoMn.facts, hotn.facts, hoMn.at1 [] hlt, hotn.at1 [] hq, hre, hr0, List.length_reverse, hpt]
          have hmod : (k + 1) % cs.length < cs.length := Nat.mod_lt _ (by omega)
          exact ⟨inR_i64 (by omega), ⟨Int.natCast_nonneg _, Int.ofNat_lt.2 hmod⟩, by omega, inR_i64 (by omega), UpTo.next hlt ⟨rfl, dr hxn⟩⟩
        · obtain rfl : k = cs.length := by omega
          have hltI : ¬ (cs.length : Int) < cs.length := by omega
          have hxL := hxL.trans hxn
          simp only [↓vsd, vsn, gW, qd, qv, ev, pick, argE, List.map_cons, List.map_nil, Option.map_some, Option.map_none, zipE, List.cons_append, List.nil_append, ne_eq, eq_self, forall_const, implies_true, if_true, if_false, reduceIte, List.cons.injEq, reduceCtorEq, Nat.reduceEqDiff, List.length_nil, List.length_cons, Nat.reduceAdd, Nat.reduceLT, List.set_cons_zero, List.set_cons_succ, ↓us_lFnStill, r_lFnStill, hltI]
          refine m_call (sDrawLeadHead_ok u more hlen.2 _ (h'.ext hxL)) ?_
          rintro _ wa hxa ⟨nma, sta, xa, csa, rfl, hoa, hnma, hsta, hcsa, hc8a⟩
          simp only [↓vsd, vsn, gW, qd, qv, ev, pick, argE, List.map_cons, List.map_nil, Option.map_some, Option.map_none, zipE, List.cons_append, List.nil_append, ne_eq, eq_self, forall_const, implies_true, if_true, if_false, reduceIte, List.cons.injEq, reduceCtorEq, Nat.reduceEqDiff, List.length_nil, List.length_cons, Nat.reduceAdd, Nat.reduceLT, List.set_cons_zero, List.set_cons_succ, ↓us_lFnStill, r_lFnStill]
          refine m_al ?_
          rintro bd wb hbd hblkb hxb hsb
          simp only [↓vsd, vsn, gW, qd, qv, ev, pick, argE, List.map_cons, List.map_nil, Option.map_some, Option.map_none, zipE, List.cons_append, List.nil_append, ne_eq, eq_self, forall_const, implies_true, if_true, if_false, reduceIte, List.cons.injEq, reduceCtorEq, Nat.reduceEqDiff, List.length_nil, List.length_cons, Nat.reduceAdd, Nat.reduceLT, List.set_cons_zero, List.set_cons_succ, ↓us_lFnStill, r_lFnStill]
          refine m_st hblkb rfl (Nat.le_refl 3) (fM_one nma sta xa hoa.sq.one') ?_
          rintro wc hblkc huc
          have hc : Blk wc bd (fM nma sta xa) 58 := hblkc
          have hoc := (hoa.ext hxb).upd huc (hoa.away (by omega))
          have hxc : Ext w wc := huc.below ((hxL.trans hxa).trans hxb) (by have := (hxL.trans hxa).size; omega)
          have hnma' : nma.length ≤ 1048576 := by omega
          have hc8a' : ∀ c ∈ csa, c.length ≤ 1048576 := fun c hc => by have := hc8a c hc; omega
          have hcsa' : csa.length ≤ 1000000000 := by omega
          obtain ⟨tx, tb, eT⟩ := headV_two nma sta csa
          simp only [↓vsd, vsn, gW, qd, qv, ev, pick, argE, List.map_cons, List.map_nil, Option.map_some, Option.map_none, zipE, List.cons_append, List.nil_append, ne_eq, eq_self, forall_const, implies_true, if_true, if_false, reduceIte, List.cons.injEq, reduceCtorEq, Nat.reduceEqDiff, List.length_nil, List.length_cons, Nat.reduceAdd, Nat.reduceLT, List.set_cons_zero, List.set_cons_succ, ↓us_lFnStill, r_lFnStill, hc.facts, fMg]
          refine m_call (iLeadHead_ok nma sta xa csa hnma' hc8a' hcsa' _ hoc.sq) ?_
          rintro rd wd hxd hrd
          rw [eT] at hrd
          subst hrd
          have hd := hc.ext hxd
          simp only [↓vsd, vsn, gW, qd, qv, ev, pick, argE, List.map_cons, List.map_nil, Option.map_some, Option.map_none, zipE, List.cons_append, List.nil_append, ne_eq, eq_self, forall_const, implies_true, if_true, if_false, reduceIte, List.cons.injEq, reduceCtorEq, Nat.reduceEqDiff, List.length_nil, List.length_cons, Nat.reduceAdd, Nat.reduceLT, List.set_cons_zero, List.set_cons_succ, ↓us_lFnStill, r_lFnStill, hd.facts, fMg]
          refine m_call (sLeadHead_ok nma sta xa csa hnma' hc8a' hcsa' _ (hoc.ext hxd).sq) ?_
          rintro re we hxe hre
          rw [eT] at hre
          subst hre
          simp only [↓vsd, vsn, gW, qd, qv, ev, pick, argE, List.map_cons, List.map_nil, Option.map_some, Option.map_none, zipE, List.cons_append, List.nil_append, ne_eq, eq_self, forall_const, implies_true, if_true, if_false, reduceIte, List.cons.injEq, reduceCtorEq, Nat.reduceEqDiff, List.length_nil, List.length_cons, Nat.reduceAdd, Nat.reduceLT, List.set_cons_zero, List.set_cons_succ, ↓us_lFnStill, r_lFnStill]
          exact (hxc.trans hxd).trans hxe
      · have hpD : decide (IsMethod nm i cs ∧ IsPal (cs.take (cs.length - 1))) = false := decide_eq_false fun hh => hp hh.2
        simp only [↓vsd, vsn, gW, qd, qv, ev, pick, argE, List.map_cons, List.map_nil, Option.map_some, Option.map_none, zipE, List.cons_append, List.nil_append, ne_eq, eq_self, forall_const, implies_true, if_true, if_false, reduceIte, List.cons.injEq, reduceCtorEq, Nat.reduceEqDiff, List.length_nil, List.length_cons, Nat.reduceAdd, Nat.reduceLT, List.set_cons_zero, List.set_cons_succ, ↓us_lFnStill, r_lFnStill, hm'.facts, hbm.facts, fMg, hotm.sq.facts, hoMm.sq.facts, List.length_reverse, hpD]
        refine ⟨fun hh => hh hm, fun _ => ?_⟩
        refine m_call (sDrawLeadHead_ok u more hlen.2 _ (h'.ext hxL)) ?_
        rintro _ wa hxa ⟨nma, sta, xa, csa, rfl, hoa, hnma, hsta, hcsa, hc8a⟩
        simp only [↓vsd, vsn, gW, qd, qv, ev, pick, argE, List.map_cons, List.map_nil, Option.map_some, Option.map_none, zipE, List.cons_append, List.nil_append, ne_eq, eq_self, forall_const, implies_true, if_true, if_false, reduceIte, List.cons.injEq, reduceCtorEq, Nat.reduceEqDiff, List.length_nil, List.length_cons, Nat.reduceAdd, Nat.reduceLT, List.set_cons_zero, List.set_cons_succ, ↓us_lFnStill, r_lFnStill]
        refine m_al ?_
        rintro bd wb hbd hblkb hxb hsb
        simp only [↓vsd, vsn, gW, qd, qv, ev, pick, argE, List.map_cons, List.map_nil, Option.map_some, Option.map_none, zipE, List.cons_append, List.nil_append, ne_eq, eq_self, forall_const, implies_true, if_true, if_false, reduceIte, List.cons.injEq, reduceCtorEq, Nat.reduceEqDiff, List.length_nil, List.length_cons, Nat.reduceAdd, Nat.reduceLT, List.set_cons_zero, List.set_cons_succ, ↓us_lFnStill, r_lFnStill]
        refine m_st hblkb rfl (Nat.le_refl 3) (fM_one nma sta xa hoa.sq.one') ?_
        rintro wc hblkc huc
        have hc : Blk wc bd (fM nma sta xa) 58 := hblkc
        have hoc := (hoa.ext hxb).upd huc (hoa.away (by omega))
        have hxc : Ext w wc := huc.below ((hxL.trans hxa).trans hxb) (by have := (hxL.trans hxa).size; omega)
        have hnma' : nma.length ≤ 1048576 := by omega
        have hc8a' : ∀ c ∈ csa, c.length ≤ 1048576 := fun c hc => by have := hc8a c hc; omega
        have hcsa' : csa.length ≤ 1000000000 := by omega
        obtain ⟨tx, tb, eT⟩ := headV_two nma sta csa
        simp only [↓vsd, vsn, gW, qd, qv, ev, pick, argE, List.map_cons, List.map_nil, Option.map_some, Option.map_none, zipE, List.cons_append, List.nil_append, ne_eq, eq_self, forall_const, implies_true, if_true, if_false, reduceIte, List.cons.injEq, reduceCtorEq, Nat.reduceEqDiff, List.length_nil, List.length_cons, Nat.reduceAdd, Nat.reduceLT, List.set_cons_zero, List.set_cons_succ, ↓us_lFnStill, r_lFnStill, hc.facts, fMg]
        refine m_call (iLeadHead_ok nma sta xa csa hnma' hc8a' hcsa' _ hoc.sq) ?_
        rintro rd wd hxd hrd
        rw [eT] at hrd
        subst hrd
        have hd := hc.ext hxd
        simp only [↓vsd, vsn, gW, qd, qv, ev, pick, argE, List.map_cons, List.map_nil, Option.map_some, Option.map_none, zipE, List.cons_append, List.nil_append, ne_eq, eq_self, forall_const, implies_true, if_true, if_false, reduceIte, List.cons.injEq, reduceCtorEq, Nat.reduceEqDiff, List.length_nil, List.length_cons, Nat.reduceAdd, Nat.reduceLT, List.set_cons_zero, List.set_cons_succ, ↓us_lFnStill, r_lFnStill, hd.facts, fMg]
        refine m_call (sLeadHead_ok nma sta xa csa hnma' hc8a' hcsa' _ (hoc.ext hxd).sq) ?_
        rintro re we hxe hre
        rw [eT] at hre
        subst hre
        simp only [↓vsd, vsn, gW, qd, qv, ev, pick, argE, List.map_cons, List.map_nil, Option.map_some, Option.map_none, zipE, List.cons_append, List.nil_append, ne_eq, eq_self, forall_const, implies_true, if_true, if_false, reduceIte, List.cons.injEq, reduceCtorEq, Nat.reduceEqDiff, List.length_nil, List.length_cons, Nat.reduceAdd, Nat.reduceLT, List.set_cons_zero, List.set_cons_succ, ↓us_lFnStill, r_lFnStill]
        exact (hxc.trans hxd).trans hxe
  · rw [if_neg hm] at ho4 ho5 ho6 ho7
    have hD := decide_eq_false hm
    simp only [↓vsd, vsn, gW, qd, qv, ev, pick, argE, List.map_cons, List.map_nil, Option.map_some, Option.map_none, zipE, List.cons_append, List.nil_append, ne_eq, eq_self, forall_const, implies_true, if_true, if_false, reduceIte, List.cons.injEq, reduceCtorEq, Nat.reduceEqDiff, List.length_nil, List.length_cons, Nat.reduceAdd, Nat.reduceLT, List.set_cons_zero, List.set_cons_succ, ↓us_lFnStill, r_lFnStill, hD]
    refine m_call (lsameInts_ok y4 y5 _ _ _ ho4.sq ho5.sq (by simp)) ?_
    rintro _ w8 hx8 rfl
    simp only [↓vsd, vsn, gW, qd, qv, ev, pick, argE, List.map_cons, List.map_nil, Option.map_some, Option.map_none, zipE, List.cons_append, List.nil_append, ne_eq, eq_self, forall_const, implies_true, if_true, if_false, reduceIte, List.cons.injEq, reduceCtorEq, Nat.reduceEqDiff, List.length_nil, List.length_cons, Nat.reduceAdd, Nat.reduceLT, List.set_cons_zero, List.set_cons_succ, ↓us_lFnStill, r_lFnStill]
    refine m_call (lsameInts_ok y6 y7 _ _ _ (ho6.ext hx8).sq (ho7.ext hx8).sq (by simp)) ?_
    rintro _ w9 hx9 rfl
    have hxL := (hx17.trans hx8).trans hx9
    simp only [↓vsd, vsn, gW, qd, qv, ev, pick, argE, List.map_cons, List.map_nil, Option.map_some, Option.map_none, zipE, List.cons_append, List.nil_append, ne_eq, eq_self, forall_const, implies_true, if_true, if_false, reduceIte, List.cons.injEq, reduceCtorEq, Nat.reduceEqDiff, List.length_nil, List.length_cons, Nat.reduceAdd, Nat.reduceLT, List.set_cons_zero, List.set_cons_succ, ↓us_lFnStill, r_lFnStill]
    refine m_call (sDrawLeadHead_ok u more hlen.2 _ (h'.ext hxL)) ?_
    rintro _ wa hxa ⟨nma, sta, xa, csa, rfl, hoa, hnma, hsta, hcsa, hc8a⟩
    simp only [↓vsd, vsn, gW, qd, qv, ev, pick, argE, List.map_cons, List.map_nil, Option.map_some, Option.map_none, zipE, List.cons_append, List.nil_append, ne_eq, eq_self, forall_const, implies_true, if_true, if_false, reduceIte, List.cons.injEq, reduceCtorEq, Nat.reduceEqDiff, List.length_nil, List.length_cons, Nat.reduceAdd, Nat.reduceLT, List.set_cons_zero, List.set_cons_succ, ↓us_lFnStill, r_lFnStill]
    refine m_al ?_
    rintro bd wb hbd hblkb hxb hsb
    simp only [↓vsd, vsn, gW, qd, qv, ev, pick, argE, List.map_cons, List.map_nil, Option.map_some, Option.map_none, zipE, List.cons_append, List.nil_append, ne_eq, eq_self, forall_const, implies_true, if_true, if_false, reduceIte, List.cons.injEq, reduceCtorEq, Nat.reduceEqDiff, List.length_nil, List.length_cons, Nat.reduceAdd, Nat.reduceLT, List.set_cons_zero, List.set_cons_succ, ↓us_lFnStill, r_lFnStill]
    refine m_st hblkb rfl (Nat.le_refl 3) (fM_one nma sta xa hoa.sq.one') ?_
    rintro wc hblkc huc
    have hc : Blk wc bd (fM nma sta xa) 58 := hblkc
    have hoc := (hoa.ext hxb).upd huc (hoa.away (by omega))
    have hxc : Ext w wc := huc.below ((hxL.trans hxa).trans hxb) (by have := (hxL.trans hxa).size; omega)
    have hnma' : nma.length ≤ 1048576 := by omega
    have hc8a' : ∀ c ∈ csa, c.length ≤ 1048576 := fun c hc => by have := hc8a c hc; omega
    have hcsa' : csa.length ≤ 1000000000 := by omega
    obtain ⟨tx, tb, eT⟩ := headV_two nma sta csa
    simp only [↓vsd, vsn, gW, qd, qv, ev, pick, argE, List.map_cons, List.map_nil, Option.map_some, Option.map_none, zipE, List.cons_append, List.nil_append, ne_eq, eq_self, forall_const, implies_true, if_true, if_false, reduceIte, List.cons.injEq, reduceCtorEq, Nat.reduceEqDiff, List.length_nil, List.length_cons, Nat.reduceAdd, Nat.reduceLT, List.set_cons_zero, List.set_cons_succ, ↓us_lFnStill, r_lFnStill, hc.facts, fMg]
    refine m_call (iLeadHead_ok nma sta xa csa hnma' hc8a' hcsa' _ hoc.sq) ?_
    rintro rd wd hxd hrd
    rw [eT] at hrd
    subst hrd
    have hd := hc.ext hxd
    simp only [↓vsd, vsn, gW, qd, qv, ev, pick, argE, List.map_cons, List.map_nil, Option.map_some, Option.map_none, zipE, List.cons_append, List.nil_append, ne_eq, eq_self, forall_const, implies_true, if_true, if_false, reduceIte, List.cons.injEq, reduceCtorEq, Nat.reduceEqDiff, List.length_nil, List.length_cons, Nat.reduceAdd, Nat.reduceLT, List.set_cons_zero, List.set_cons_succ, ↓us_lFnStill, r_lFnStill, hd.facts, fMg]
    refine m_call (sLeadHead_ok nma sta xa csa hnma' hc8a' hcsa' _ (hoc.ext hxd).sq) ?_
    rintro re we hxe hre
    rw [eT] at hre
    subst hre
    simp only [↓vsd, vsn, gW, qd, qv, ev, pick, argE, List.map_cons, List.map_nil, Option.map_some, Option.map_none, zipE, List.cons_append, List.nil_append, ne_eq, eq_self, forall_const, implies_true, if_true, if_false, reduceIte, List.cons.injEq, reduceCtorEq, Nat.reduceEqDiff, List.length_nil, List.length_cons, Nat.reduceAdd, Nat.reduceLT, List.set_cons_zero, List.set_cons_succ, ↓us_lFnStill, r_lFnStill]
    exact (hxc.trans hxd).trans hxe
end Go.Proofs.Ytjcnmobdlkmaeaa
