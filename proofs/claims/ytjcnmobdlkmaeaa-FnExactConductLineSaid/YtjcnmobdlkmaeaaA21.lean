/-
  The call of the law FnExactConductLine.
  Conditions: none.
-/
import Derived.Test.YtjcnmobdlkmaeaaA20
set_option linter.unusedSimpArgs false
set_option linter.unusedVariables false
set_option linter.defProp false
namespace Go.Proofs.Ytjcnmobdlkmaeaa
open Go Go.RowKit
def t_lFnExactConductLine_1 : X := (.cond (.t 20) (.seq (.reg [6] (.c (.q 6 [] (.mv (.c (.bool true)))) .nil)) .ret) .skip)
theorem u_lFnExactConductLine_1 (P : Program) (k : KT) (e : Env) (w : World) : vcK P t_lFnExactConductLine_1 k e w = vcK P (.cond (.t 20) (.seq (.reg [6] (.c (.q 6 [] (.mv (.c (.bool true)))) .nil)) .ret) .skip) k e w := rfl
def t_lFnExactConductLine_2 : X := (.cond (.t 25) (.seq (.reg [6] (.c (.q 6 [] (.mv (.c (.bool true)))) .nil)) .ret) .skip)
theorem u_lFnExactConductLine_2 (P : Program) (k : KT) (e : Env) (w : World) : vcK P t_lFnExactConductLine_2 k e w = vcK P (.cond (.t 25) (.seq (.reg [6] (.c (.q 6 [] (.mv (.c (.bool true)))) .nil)) .ret) .skip) k e w := rfl
def t_lFnExactConductLine_3 : X := (.cond (.t 30) (.seq (.reg [6] (.c (.q 6 [] (.mv (.c (.bool true)))) .nil)) .ret) .skip)
theorem u_lFnExactConductLine_3 (P : Program) (k : KT) (e : Env) (w : World) : vcK P t_lFnExactConductLine_3 k e w = vcK P (.cond (.t 30) (.seq (.reg [6] (.c (.q 6 [] (.mv (.c (.bool true)))) .nil)) .ret) .skip) k e w := rfl
def t_lFnExactConductLine_4 : X := (.cond (.t 58) (.seq (.reg [6] (.c (.q 6 [] (.mv (.c (.bool false)))) .nil)) .ret) .skip)
theorem u_lFnExactConductLine_4 (P : Program) (k : KT) (e : Env) (w : World) : vcK P t_lFnExactConductLine_4 k e w = vcK P (.cond (.t 58) (.seq (.reg [6] (.c (.q 6 [] (.mv (.c (.bool false)))) .nil)) .ret) .skip) k e w := rfl
def t_lFnExactConductLine_5 : X := (.cond (.t 63) (.seq (.reg [6] (.c (.q 6 [] (.mv (.c (.bool false)))) .nil)) .ret) .skip)
theorem u_lFnExactConductLine_5 (P : Program) (k : KT) (e : Env) (w : World) : vcK P t_lFnExactConductLine_5 k e w = vcK P (.cond (.t 63) (.seq (.reg [6] (.c (.q 6 [] (.mv (.c (.bool false)))) .nil)) .ret) .skip) k e w := rfl
def t_lFnExactConductLine_6 : X := (.cond (.t 79) (.seq (.reg [6] (.c (.q 6 [] (.mv (.c (.bool false)))) .nil)) .ret) .skip)
theorem u_lFnExactConductLine_6 (P : Program) (k : KT) (e : Env) (w : World) : vcK P t_lFnExactConductLine_6 k e w = vcK P (.cond (.t 79) (.seq (.reg [6] (.c (.q 6 [] (.mv (.c (.bool false)))) .nil)) .ret) .skip) k e w := rfl
def t_lFnExactConductLine_7 : X := (.cond (.t 87) (.seq (.reg [6] (.c (.q 6 [] (.mv (.c (.bool false)))) .nil)) .ret) .skip)
theorem u_lFnExactConductLine_7 (P : Program) (k : KT) (e : Env) (w : World) : vcK P t_lFnExactConductLine_7 k e w = vcK P (.cond (.t 87) (.seq (.reg [6] (.c (.q 6 [] (.mv (.c (.bool false)))) .nil)) .ret) .skip) k e w := rfl
def t_lFnExactConductLine_8 : X := (.cond (.t 90) (.seq (.reg [6] (.c (.q 6 [] (.mv (.c (.bool false)))) .nil)) .ret) .skip)
theorem u_lFnExactConductLine_8 (P : Program) (k : KT) (e : Env) (w : World) : vcK P t_lFnExactConductLine_8 k e w = vcK P (.cond (.t 90) (.seq (.reg [6] (.c (.q 6 [] (.mv (.c (.bool false)))) .nil)) .ret) .skip) k e w := rfl
def t_lFnExactConductLine_9 : X := (.cond (.t 108) (.seq (.reg [6] (.c (.q 6 [] (.mv (.c (.bool false)))) .nil)) .ret) .skip)
theorem u_lFnExactConductLine_9 (P : Program) (k : KT) (e : Env) (w : World) : vcK P t_lFnExactConductLine_9 k e w = vcK P (.cond (.t 108) (.seq (.reg [6] (.c (.q 6 [] (.mv (.c (.bool false)))) .nil)) .ret) .skip) k e w := rfl
def t_lFnExactConductLine_10 : X := (.cond (.t 113) (.seq (.reg [6] (.c (.q 6 [] (.mv (.c (.bool false)))) .nil)) .ret) .skip)
theorem u_lFnExactConductLine_10 (P : Program) (k : KT) (e : Env) (w : World) : vcK P t_lFnExactConductLine_10 k e w = vcK P (.cond (.t 113) (.seq (.reg [6] (.c (.q 6 [] (.mv (.c (.bool false)))) .nil)) .ret) .skip) k e w := rfl
def t_lFnExactConductLine_11 : X := (.cond (.t 116) (.seq (.reg [6] (.c (.q 6 [] (.mv (.c (.bool false)))) .nil)) .ret) .skip)
theorem u_lFnExactConductLine_11 (P : Program) (k : KT) (e : Env) (w : World) : vcK P t_lFnExactConductLine_11 k e w = vcK P (.cond (.t 116) (.seq (.reg [6] (.c (.q 6 [] (.mv (.c (.bool false)))) .nil)) .ret) .skip) k e w := rfl
def t_lFnExactConductLine_12 : X := (.seq (.reg [6] (.c (.q 6 [] (.mv (.c (.bool true)))) .nil)) .ret)
theorem u_lFnExactConductLine_12 (P : Program) (k : KT) (e : Env) (w : World) : vcK P t_lFnExactConductLine_12 k e w = vcK P (.seq (.reg [6] (.c (.q 6 [] (.mv (.c (.bool true)))) .nil)) .ret) k e w := rfl
def t_lFnExactConductLine_13 : X := (.seq (.seq (.reg [116] (.c (.q 114 [] (.mv (.t 15))) (.c (.q 115 [] (.mv (.t 14))) (.c (.q 116 [] (.bin .neq (.t 114) (.t 115))) .nil)))) t_lFnExactConductLine_11) t_lFnExactConductLine_12)
theorem u_lFnExactConductLine_13 (P : Program) (k : KT) (e : Env) (w : World) : vcK P t_lFnExactConductLine_13 k e w = vcK P (.seq (.seq (.reg [116] (.c (.q 114 [] (.mv (.t 15))) (.c (.q 115 [] (.mv (.t 14))) (.c (.q 116 [] (.bin .neq (.t 114) (.t 115))) .nil)))) t_lFnExactConductLine_11) t_lFnExactConductLine_12) k e w := rfl
def t_lFnExactConductLine_14 : X := (.seq (.seq (.reg [14, 15, 113] (.c (.q 112 [] (.mv (.t 15))) (.c (.q 113 [] (.bin .lss (.t 112) (.c (.int .i64 0)))) .nil))) t_lFnExactConductLine_10) t_lFnExactConductLine_13)
theorem u_lFnExactConductLine_14 (P : Program) (k : KT) (e : Env) (w : World) : vcK P t_lFnExactConductLine_14 k e w = vcK P (.seq (.seq (.reg [14, 15, 113] (.c (.q 112 [] (.mv (.t 15))) (.c (.q 113 [] (.bin .lss (.t 112) (.c (.int .i64 0)))) .nil))) t_lFnExactConductLine_10) t_lFnExactConductLine_13) k e w := rfl
def t_lFnExactConductLine_15 : X := (.seq (.reg [14, 15] (.c (.q 109 [] (.mv (.t 11))) (.c (.q 110 [] (.mv (.t 15))) (.c (.e (some 111) [] (.call false 40 [(.t 109), (.t 110)])) (.c (.q 15 [] (.mv (.t 111))) .nil))))) t_lFnExactConductLine_14)
theorem u_lFnExactConductLine_15 (P : Program) (k : KT) (e : Env) (w : World) : vcK P t_lFnExactConductLine_15 k e w = vcK P (.seq (.reg [14, 15] (.c (.q 109 [] (.mv (.t 11))) (.c (.q 110 [] (.mv (.t 15))) (.c (.e (some 111) [] (.call false 40 [(.t 109), (.t 110)])) (.c (.q 15 [] (.mv (.t 111))) .nil))))) t_lFnExactConductLine_14) k e w := rfl
def t_lFnExactConductLine_16 : X := (.seq (.reg [11, 14, 15] (.c (.q 15 [] (.mv (.c (.int .i64 1)))) .nil)) t_lFnExactConductLine_15)
theorem u_lFnExactConductLine_16 (P : Program) (k : KT) (e : Env) (w : World) : vcK P t_lFnExactConductLine_16 k e w = vcK P (.seq (.reg [11, 14, 15] (.c (.q 15 [] (.mv (.c (.int .i64 1)))) .nil)) t_lFnExactConductLine_15) k e w := rfl
def t_lFnExactConductLine_17 : X := (.seq (.seq (.reg [11, 14, 108] (.c (.q 100 [] (.mv (.t 16))) (.c (.q 101 [] (.mv (.t 8))) (.c (.e (some 102) [] (.call false 36 [(.t 100), (.t 101)])) (.c (.q 103 [] (.not (.t 102))) (.c (.q 104 [] (.mv (.t 103))) (.c (.q 105 [(104, false)] (.mv (.t 17))) (.c (.q 106 [(104, false)] (.mv (.t 9))) (.c (.q 107 [(104, false)] (.beq true (.t 105) (.t 106))) (.c (.q 108 [] (.pick (.t 104) (.c (.bool true)) (.t 107))) .nil)))))))))) t_lFnExactConductLine_9) t_lFnExactConductLine_16)
theorem u_lFnExactConductLine_17 (P : Program) (k : KT) (e : Env) (w : World) : vcK P t_lFnExactConductLine_17 k e w = vcK P (.seq (.seq (.reg [11, 14, 108] (.c (.q 100 [] (.mv (.t 16))) (.c (.q 101 [] (.mv (.t 8))) (.c (.e (some 102) [] (.call false 36 [(.t 100), (.t 101)])) (.c (.q 103 [] (.not (.t 102))) (.c (.q 104 [] (.mv (.t 103))) (.c (.q 105 [(104, false)] (.mv (.t 17))) (.c (.q 106 [(104, false)] (.mv (.t 9))) (.c (.q 107 [(104, false)] (.beq true (.t 105) (.t 106))) (.c (.q 108 [] (.pick (.t 104) (.c (.bool true)) (.t 107))) .nil)))))))))) t_lFnExactConductLine_9) t_lFnExactConductLine_16) k e w := rfl
def t_lFnExactConductLine_18 : X := (.seq (.drw [8, 9, 11, 14, 16, 17] (.c (.q 92 [] (.lda 3 (.t 3))) (.c (.q 94 [] (.lda 2 (.t 4))) (.c (.q 96 [] (.mv (.t 2))) (.c (.e (some 93) [] (.call false 43 [(.t 92)])) (.c (.e (some 95) [] (.call false 34 [(.t 94)])) (.c (.e (some 97) [] (.call false 44 [(.t 93), (.t 95), (.t 96)])) (.c (.q 91 [] (.mv (.t 97))) (.c (.q 98 [] (.ext 0 (.t 91))) (.c (.q 99 [] (.ext 1 (.t 91))) (.c (.q 16 [] (.mv (.t 98))) (.c (.q 17 [] (.mv (.t 99))) .nil)))))))))))) t_lFnExactConductLine_17)
theorem u_lFnExactConductLine_18 (P : Program) (k : KT) (e : Env) (w : World) : vcK P t_lFnExactConductLine_18 k e w = vcK P (.seq (.drw [8, 9, 11, 14, 16, 17] (.c (.q 92 [] (.lda 3 (.t 3))) (.c (.q 94 [] (.lda 2 (.t 4))) (.c (.q 96 [] (.mv (.t 2))) (.c (.e (some 93) [] (.call false 43 [(.t 92)])) (.c (.e (some 95) [] (.call false 34 [(.t 94)])) (.c (.e (some 97) [] (.call false 44 [(.t 93), (.t 95), (.t 96)])) (.c (.q 91 [] (.mv (.t 97))) (.c (.q 98 [] (.ext 0 (.t 91))) (.c (.q 99 [] (.ext 1 (.t 91))) (.c (.q 16 [] (.mv (.t 98))) (.c (.q 17 [] (.mv (.t 99))) .nil)))))))))))) t_lFnExactConductLine_17) k e w := rfl
def t_lFnExactConductLine_19 : X := (.seq (.seq (.reg [2, 3, 4, 8, 9, 11, 14, 90] (.c (.q 88 [] (.mv (.t 15))) (.c (.q 89 [] (.mv (.t 14))) (.c (.q 90 [] (.bin .neq (.t 88) (.t 89))) .nil)))) t_lFnExactConductLine_8) t_lFnExactConductLine_18)
theorem u_lFnExactConductLine_19 (P : Program) (k : KT) (e : Env) (w : World) : vcK P t_lFnExactConductLine_19 k e w = vcK P (.seq (.seq (.reg [2, 3, 4, 8, 9, 11, 14, 90] (.c (.q 88 [] (.mv (.t 15))) (.c (.q 89 [] (.mv (.t 14))) (.c (.q 90 [] (.bin .neq (.t 88) (.t 89))) .nil)))) t_lFnExactConductLine_8) t_lFnExactConductLine_18) k e w := rfl
def t_lFnExactConductLine_20 : X := (.seq (.seq (.reg [2, 3, 4, 8, 9, 11, 14, 15, 87] (.c (.q 86 [] (.mv (.t 15))) (.c (.q 87 [] (.bin .lss (.t 86) (.c (.int .i64 0)))) .nil))) t_lFnExactConductLine_7) t_lFnExactConductLine_19)
theorem u_lFnExactConductLine_20 (P : Program) (k : KT) (e : Env) (w : World) : vcK P t_lFnExactConductLine_20 k e w = vcK P (.seq (.seq (.reg [2, 3, 4, 8, 9, 11, 14, 15, 87] (.c (.q 86 [] (.mv (.t 15))) (.c (.q 87 [] (.bin .lss (.t 86) (.c (.int .i64 0)))) .nil))) t_lFnExactConductLine_7) t_lFnExactConductLine_19) k e w := rfl
def t_lFnExactConductLine_21 : X := (.seq (.reg [2, 3, 4, 8, 9, 11, 14, 15] (.c (.q 83 [] (.mv (.t 11))) (.c (.q 84 [] (.mv (.t 15))) (.c (.e (some 85) [] (.call false 40 [(.t 83), (.t 84)])) (.c (.q 15 [] (.mv (.t 85))) .nil))))) t_lFnExactConductLine_20)
theorem u_lFnExactConductLine_21 (P : Program) (k : KT) (e : Env) (w : World) : vcK P t_lFnExactConductLine_21 k e w = vcK P (.seq (.reg [2, 3, 4, 8, 9, 11, 14, 15] (.c (.q 83 [] (.mv (.t 11))) (.c (.q 84 [] (.mv (.t 15))) (.c (.e (some 85) [] (.call false 40 [(.t 83), (.t 84)])) (.c (.q 15 [] (.mv (.t 85))) .nil))))) t_lFnExactConductLine_20) k e w := rfl
def t_lFnExactConductLine_22 : X := (.seq (.reg [2, 3, 4, 8, 9, 11, 14, 15] (.c (.q 15 [] (.mv (.c (.int .i64 1)))) .nil)) t_lFnExactConductLine_21)
theorem u_lFnExactConductLine_22 (P : Program) (k : KT) (e : Env) (w : World) : vcK P t_lFnExactConductLine_22 k e w = vcK P (.seq (.reg [2, 3, 4, 8, 9, 11, 14, 15] (.c (.q 15 [] (.mv (.c (.int .i64 1)))) .nil)) t_lFnExactConductLine_21) k e w := rfl
def t_lFnExactConductLine_23 : X := (.seq (.reg [2, 3, 4, 8, 9, 11, 14] (.c (.q 80 [] (.mv (.t 11))) (.c (.q 81 [] (.mv (.t 14))) (.c (.e (some 82) [] (.call false 39 [(.t 80), (.t 81)])) (.c (.q 14 [] (.mv (.t 82))) .nil))))) t_lFnExactConductLine_22)
theorem u_lFnExactConductLine_23 (P : Program) (k : KT) (e : Env) (w : World) : vcK P t_lFnExactConductLine_23 k e w = vcK P (.seq (.reg [2, 3, 4, 8, 9, 11, 14] (.c (.q 80 [] (.mv (.t 11))) (.c (.q 81 [] (.mv (.t 14))) (.c (.e (some 82) [] (.call false 39 [(.t 80), (.t 81)])) (.c (.q 14 [] (.mv (.t 82))) .nil))))) t_lFnExactConductLine_22) k e w := rfl
def t_lFnExactConductLine_24 : X := (.seq (.reg [2, 3, 4, 8, 9, 11, 14] (.c (.q 14 [] (.mv (.c (.int .i64 1)))) .nil)) t_lFnExactConductLine_23)
theorem u_lFnExactConductLine_24 (P : Program) (k : KT) (e : Env) (w : World) : vcK P t_lFnExactConductLine_24 k e w = vcK P (.seq (.reg [2, 3, 4, 8, 9, 11, 14] (.c (.q 14 [] (.mv (.c (.int .i64 1)))) .nil)) t_lFnExactConductLine_23) k e w := rfl
def t_lFnExactConductLine_25 : X := (.seq (.seq (.reg [2, 3, 4, 8, 9, 11, 79] (.c (.q 67 [] (.mv (.t 13))) (.c (.q 68 [] (.bin .lss (.t 67) (.c (.int .i64 0)))) (.c (.q 69 [] (.mv (.t 68))) (.c (.q 70 [(69, false)] (.mv (.t 11))) (.c (.q 71 [(69, false)] (.mv (.t 8))) (.c (.e (some 72) [(69, false)] (.call false 36 [(.t 70), (.t 71)])) (.c (.q 73 [(69, false)] (.not (.t 72))) (.c (.q 74 [] (.pick (.t 69) (.c (.bool true)) (.t 73))) (.c (.q 75 [] (.mv (.t 74))) (.c (.q 76 [(75, false)] (.mv (.t 12))) (.c (.q 77 [(75, false)] (.mv (.t 9))) (.c (.q 78 [(75, false)] (.beq true (.t 76) (.t 77))) (.c (.q 79 [] (.pick (.t 75) (.c (.bool true)) (.t 78))) .nil)))))))))))))) t_lFnExactConductLine_6) t_lFnExactConductLine_24)
theorem u_lFnExactConductLine_25 (P : Program) (k : KT) (e : Env) (w : World) : vcK P t_lFnExactConductLine_25 k e w = vcK P (.seq (.seq (.reg [2, 3, 4, 8, 9, 11, 79] (.c (.q 67 [] (.mv (.t 13))) (.c (.q 68 [] (.bin .lss (.t 67) (.c (.int .i64 0)))) (.c (.q 69 [] (.mv (.t 68))) (.c (.q 70 [(69, false)] (.mv (.t 11))) (.c (.q 71 [(69, false)] (.mv (.t 8))) (.c (.e (some 72) [(69, false)] (.call false 36 [(.t 70), (.t 71)])) (.c (.q 73 [(69, false)] (.not (.t 72))) (.c (.q 74 [] (.pick (.t 69) (.c (.bool true)) (.t 73))) (.c (.q 75 [] (.mv (.t 74))) (.c (.q 76 [(75, false)] (.mv (.t 12))) (.c (.q 77 [(75, false)] (.mv (.t 9))) (.c (.q 78 [(75, false)] (.beq true (.t 76) (.t 77))) (.c (.q 79 [] (.pick (.t 75) (.c (.bool true)) (.t 78))) .nil)))))))))))))) t_lFnExactConductLine_6) t_lFnExactConductLine_24) k e w := rfl
def t_lFnExactConductLine_26 : X := (.seq (.reg [2, 3, 4, 8, 9, 11, 12, 13] (.c (.q 64 [] (.lda 3 (.t 10))) (.c (.q 65 [] (.mv (.t 13))) (.c (.e (some 66) [] (.call false 46 [(.t 64), (.t 65)])) (.c (.q 13 [] (.mv (.t 66))) .nil))))) t_lFnExactConductLine_25)
theorem u_lFnExactConductLine_26 (P : Program) (k : KT) (e : Env) (w : World) : vcK P t_lFnExactConductLine_26 k e w = vcK P (.seq (.reg [2, 3, 4, 8, 9, 11, 12, 13] (.c (.q 64 [] (.lda 3 (.t 10))) (.c (.q 65 [] (.mv (.t 13))) (.c (.e (some 66) [] (.call false 46 [(.t 64), (.t 65)])) (.c (.q 13 [] (.mv (.t 66))) .nil))))) t_lFnExactConductLine_25) k e w := rfl
def t_lFnExactConductLine_27 : X := (.seq (.reg [2, 3, 4, 8, 9, 10, 11, 12, 13] (.c (.q 13 [] (.mv (.c (.int .i64 1)))) .nil)) t_lFnExactConductLine_26)
theorem u_lFnExactConductLine_27 (P : Program) (k : KT) (e : Env) (w : World) : vcK P t_lFnExactConductLine_27 k e w = vcK P (.seq (.reg [2, 3, 4, 8, 9, 10, 11, 12, 13] (.c (.q 13 [] (.mv (.c (.int .i64 1)))) .nil)) t_lFnExactConductLine_26) k e w := rfl
def t_lFnExactConductLine_28 : X := (.seq (.seq (.drw [2, 3, 4, 8, 9, 10, 11, 12, 63] (.c (.q 59 [] (.lda 3 (.t 10))) (.c (.q 60 [] (.lda 3 (.t 3))) (.c (.e (some 61) [] (.call false 43 [(.t 60)])) (.c (.e (some 62) [] (.call false 45 [(.t 59), (.t 61)])) (.c (.q 63 [] (.not (.t 62))) .nil)))))) t_lFnExactConductLine_5) t_lFnExactConductLine_27)
theorem u_lFnExactConductLine_28 (P : Program) (k : KT) (e : Env) (w : World) : vcK P t_lFnExactConductLine_28 k e w = vcK P (.seq (.seq (.drw [2, 3, 4, 8, 9, 10, 11, 12, 63] (.c (.q 59 [] (.lda 3 (.t 10))) (.c (.q 60 [] (.lda 3 (.t 3))) (.c (.e (some 61) [] (.call false 43 [(.t 60)])) (.c (.e (some 62) [] (.call false 45 [(.t 59), (.t 61)])) (.c (.q 63 [] (.not (.t 62))) .nil)))))) t_lFnExactConductLine_5) t_lFnExactConductLine_27) k e w := rfl
def t_lFnExactConductLine_29 : X := (.seq (.seq (.reg [2, 3, 4, 8, 9, 10, 11, 12, 58] (.c (.q 50 [] (.mv (.t 11))) (.c (.q 51 [] (.mv (.t 8))) (.c (.e (some 52) [] (.call false 36 [(.t 50), (.t 51)])) (.c (.q 53 [] (.not (.t 52))) (.c (.q 54 [] (.mv (.t 53))) (.c (.q 55 [(54, false)] (.mv (.t 12))) (.c (.q 56 [(54, false)] (.mv (.t 9))) (.c (.q 57 [(54, false)] (.beq true (.t 55) (.t 56))) (.c (.q 58 [] (.pick (.t 54) (.c (.bool true)) (.t 57))) .nil)))))))))) t_lFnExactConductLine_4) t_lFnExactConductLine_28)
theorem u_lFnExactConductLine_29 (P : Program) (k : KT) (e : Env) (w : World) : vcK P t_lFnExactConductLine_29 k e w = vcK P (.seq (.seq (.reg [2, 3, 4, 8, 9, 10, 11, 12, 58] (.c (.q 50 [] (.mv (.t 11))) (.c (.q 51 [] (.mv (.t 8))) (.c (.e (some 52) [] (.call false 36 [(.t 50), (.t 51)])) (.c (.q 53 [] (.not (.t 52))) (.c (.q 54 [] (.mv (.t 53))) (.c (.q 55 [(54, false)] (.mv (.t 12))) (.c (.q 56 [(54, false)] (.mv (.t 9))) (.c (.q 57 [(54, false)] (.beq true (.t 55) (.t 56))) (.c (.q 58 [] (.pick (.t 54) (.c (.bool true)) (.t 57))) .nil)))))))))) t_lFnExactConductLine_4) t_lFnExactConductLine_28) k e w := rfl
def t_lFnExactConductLine_30 : X := (.seq (.drw [2, 3, 4, 8, 9, 10, 11, 12] (.c (.q 43 [] (.lda 3 (.t 10))) (.c (.q 44 [] (.lda 2 (.t 4))) (.c (.q 46 [] (.mv (.t 2))) (.c (.e (some 45) [] (.call false 34 [(.t 44)])) (.c (.e (some 47) [] (.call false 44 [(.t 43), (.t 45), (.t 46)])) (.c (.q 42 [] (.mv (.t 47))) (.c (.q 48 [] (.ext 0 (.t 42))) (.c (.q 49 [] (.ext 1 (.t 42))) (.c (.q 11 [] (.mv (.t 48))) (.c (.q 12 [] (.mv (.t 49))) .nil))))))))))) t_lFnExactConductLine_29)
theorem u_lFnExactConductLine_30 (P : Program) (k : KT) (e : Env) (w : World) : vcK P t_lFnExactConductLine_30 k e w = vcK P (.seq (.drw [2, 3, 4, 8, 9, 10, 11, 12] (.c (.q 43 [] (.lda 3 (.t 10))) (.c (.q 44 [] (.lda 2 (.t 4))) (.c (.q 46 [] (.mv (.t 2))) (.c (.e (some 45) [] (.call false 34 [(.t 44)])) (.c (.e (some 47) [] (.call false 44 [(.t 43), (.t 45), (.t 46)])) (.c (.q 42 [] (.mv (.t 47))) (.c (.q 48 [] (.ext 0 (.t 42))) (.c (.q 49 [] (.ext 1 (.t 42))) (.c (.q 11 [] (.mv (.t 48))) (.c (.q 12 [] (.mv (.t 49))) .nil))))))))))) t_lFnExactConductLine_29) k e w := rfl
def t_lFnExactConductLine_31 : X := (.seq (.reg [2, 3, 4, 8, 9, 10] (.c (.q 40 [] (.lda 3 (.t 3))) (.c (.e (some 41) [] (.call false 43 [(.t 40)])) (.c (.e (some 10) [] (.al 58 [(S []), (.int .i64 0), (.slice none 0 0)])) (.c (.e none [] (.st 3 (.t 10) (.t 41))) .nil))))) t_lFnExactConductLine_30)
theorem u_lFnExactConductLine_31 (P : Program) (k : KT) (e : Env) (w : World) : vcK P t_lFnExactConductLine_31 k e w = vcK P (.seq (.reg [2, 3, 4, 8, 9, 10] (.c (.q 40 [] (.lda 3 (.t 3))) (.c (.e (some 41) [] (.call false 43 [(.t 40)])) (.c (.e (some 10) [] (.al 58 [(S []), (.int .i64 0), (.slice none 0 0)])) (.c (.e none [] (.st 3 (.t 10) (.t 41))) .nil))))) t_lFnExactConductLine_30) k e w := rfl
def t_lFnExactConductLine_32 : X := (.seq (.drw [2, 3, 4, 8, 9] (.c (.q 32 [] (.lda 3 (.t 3))) (.c (.q 34 [] (.lda 2 (.t 4))) (.c (.q 36 [] (.mv (.t 2))) (.c (.e (some 33) [] (.call false 43 [(.t 32)])) (.c (.e (some 35) [] (.call false 34 [(.t 34)])) (.c (.e (some 37) [] (.call false 42 [(.t 33), (.t 35), (.t 36)])) (.c (.q 31 [] (.mv (.t 37))) (.c (.q 38 [] (.ext 0 (.t 31))) (.c (.q 39 [] (.ext 1 (.t 31))) (.c (.q 8 [] (.mv (.t 38))) (.c (.q 9 [] (.mv (.t 39))) .nil)))))))))))) t_lFnExactConductLine_31)
theorem u_lFnExactConductLine_32 (P : Program) (k : KT) (e : Env) (w : World) : vcK P t_lFnExactConductLine_32 k e w = vcK P (.seq (.drw [2, 3, 4, 8, 9] (.c (.q 32 [] (.lda 3 (.t 3))) (.c (.q 34 [] (.lda 2 (.t 4))) (.c (.q 36 [] (.mv (.t 2))) (.c (.e (some 33) [] (.call false 43 [(.t 32)])) (.c (.e (some 35) [] (.call false 34 [(.t 34)])) (.c (.e (some 37) [] (.call false 42 [(.t 33), (.t 35), (.t 36)])) (.c (.q 31 [] (.mv (.t 37))) (.c (.q 38 [] (.ext 0 (.t 31))) (.c (.q 39 [] (.ext 1 (.t 31))) (.c (.q 8 [] (.mv (.t 38))) (.c (.q 9 [] (.mv (.t 39))) .nil)))))))))))) t_lFnExactConductLine_31) k e w := rfl
def t_lFnExactConductLine_33 : X := (.seq (.seq (.reg [2, 3, 4, 30] (.c (.q 29 [] (.mv (.t 7))) (.c (.q 30 [] (.bin .lss (.t 29) (.c (.int .i64 0)))) .nil))) t_lFnExactConductLine_3) t_lFnExactConductLine_32)
theorem u_lFnExactConductLine_33 (P : Program) (k : KT) (e : Env) (w : World) : vcK P t_lFnExactConductLine_33 k e w = vcK P (.seq (.seq (.reg [2, 3, 4, 30] (.c (.q 29 [] (.mv (.t 7))) (.c (.q 30 [] (.bin .lss (.t 29) (.c (.int .i64 0)))) .nil))) t_lFnExactConductLine_3) t_lFnExactConductLine_32) k e w := rfl
def t_lFnExactConductLine_34 : X := (.seq (.reg [2, 3, 4, 7] (.c (.q 26 [] (.lda 2 (.t 4))) (.c (.q 27 [] (.mv (.t 7))) (.c (.e (some 28) [] (.call false 31 [(.t 26), (.t 27)])) (.c (.q 7 [] (.mv (.t 28))) .nil))))) t_lFnExactConductLine_33)
theorem u_lFnExactConductLine_34 (P : Program) (k : KT) (e : Env) (w : World) : vcK P t_lFnExactConductLine_34 k e w = vcK P (.seq (.reg [2, 3, 4, 7] (.c (.q 26 [] (.lda 2 (.t 4))) (.c (.q 27 [] (.mv (.t 7))) (.c (.e (some 28) [] (.call false 31 [(.t 26), (.t 27)])) (.c (.q 7 [] (.mv (.t 28))) .nil))))) t_lFnExactConductLine_33) k e w := rfl
def t_lFnExactConductLine_35 : X := (.seq (.seq (.reg [2, 3, 4, 7, 25] (.c (.q 24 [] (.mv (.t 7))) (.c (.q 25 [] (.bin .lss (.t 24) (.c (.int .i64 0)))) .nil))) t_lFnExactConductLine_2) t_lFnExactConductLine_34)
theorem u_lFnExactConductLine_35 (P : Program) (k : KT) (e : Env) (w : World) : vcK P t_lFnExactConductLine_35 k e w = vcK P (.seq (.seq (.reg [2, 3, 4, 7, 25] (.c (.q 24 [] (.mv (.t 7))) (.c (.q 25 [] (.bin .lss (.t 24) (.c (.int .i64 0)))) .nil))) t_lFnExactConductLine_2) t_lFnExactConductLine_34) k e w := rfl
def t_lFnExactConductLine_36 : X := (.seq (.reg [2, 3, 4, 7] (.c (.q 21 [] (.lda 3 (.t 3))) (.c (.q 22 [] (.mv (.t 7))) (.c (.e (some 23) [] (.call false 41 [(.t 21), (.t 22)])) (.c (.q 7 [] (.mv (.t 23))) .nil))))) t_lFnExactConductLine_35)
theorem u_lFnExactConductLine_36 (P : Program) (k : KT) (e : Env) (w : World) : vcK P t_lFnExactConductLine_36 k e w = vcK P (.seq (.reg [2, 3, 4, 7] (.c (.q 21 [] (.lda 3 (.t 3))) (.c (.q 22 [] (.mv (.t 7))) (.c (.e (some 23) [] (.call false 41 [(.t 21), (.t 22)])) (.c (.q 7 [] (.mv (.t 23))) .nil))))) t_lFnExactConductLine_35) k e w := rfl
def t_lFnExactConductLine_37 : X := (.seq (.reg [2, 3, 4, 7] (.c (.q 7 [] (.mv (.c (.int .i64 1048576)))) .nil)) t_lFnExactConductLine_36)
theorem u_lFnExactConductLine_37 (P : Program) (k : KT) (e : Env) (w : World) : vcK P t_lFnExactConductLine_37 k e w = vcK P (.seq (.reg [2, 3, 4, 7] (.c (.q 7 [] (.mv (.c (.int .i64 1048576)))) .nil)) t_lFnExactConductLine_36) k e w := rfl
def t_lFnExactConductLine_38 : X := (.seq (.seq (.reg [2, 3, 4, 20] (.c (.q 18 [] (.mv (.t 2))) (.c (.q 19 [] (.len (.t 18))) (.c (.q 20 [] (.bin .gtr (.t 19) (.c (.int .i64 1048576)))) .nil)))) t_lFnExactConductLine_1) t_lFnExactConductLine_37)
theorem u_lFnExactConductLine_38 (P : Program) (k : KT) (e : Env) (w : World) : vcK P t_lFnExactConductLine_38 k e w = vcK P (.seq (.seq (.reg [2, 3, 4, 20] (.c (.q 18 [] (.mv (.t 2))) (.c (.q 19 [] (.len (.t 18))) (.c (.q 20 [] (.bin .gtr (.t 19) (.c (.int .i64 1048576)))) .nil)))) t_lFnExactConductLine_1) t_lFnExactConductLine_37) k e w := rfl
def x_lFnExactConductLine : X := (.seq (.reg [2, 3, 4] (.c (.e (some 3) [] (.box 55 (.t 0))) (.c (.e (some 4) [] (.box 39 (.t 1))) (.c (.q 6 [] (.mv (.c (.bool false)))) .nil)))) t_lFnExactConductLine_38)
theorem u_lFnExactConductLine (P : Program) (k : KT) (e : Env) (w : World) : vcK P x_lFnExactConductLine k e w = vcK P (.seq (.reg [2, 3, 4] (.c (.e (some 3) [] (.box 55 (.t 0))) (.c (.e (some 4) [] (.box 39 (.t 1))) (.c (.q 6 [] (.mv (.c (.bool false)))) .nil)))) t_lFnExactConductLine_38) k e w := rfl
def r_lFnExactConductLine : List XO := [(.mv (.t 6))]
theorem c_lFnExactConductLine : convF Try.prog [145, 147, 148, 149, 158, 205, 206, 232, 234, 247, 248, 256, 261, 283, 284, 299, 300, 307] Try.f5 [([2, 3, 4], []), ([2, 3, 4, 20], []), ([6], []), ([2, 3, 4, 7], []), ([2, 3, 4, 7], []), ([2, 3, 4, 7, 25], []), ([6], []), ([2, 3, 4, 7], []), ([2, 3, 4, 30], []), ([6], []), ([2, 3, 4, 8, 9], []), ([2, 3, 4, 8, 9, 10], []), ([2, 3, 4, 8, 9, 10, 11, 12], []), ([2, 3, 4, 8, 9, 10, 11, 12, 58], []), ([6], []), ([2, 3, 4, 8, 9, 10, 11, 12, 63], []), ([6], []), ([2, 3, 4, 8, 9, 10, 11, 12, 13], []), ([2, 3, 4, 8, 9, 11, 12, 13], []), ([2, 3, 4, 8, 9, 11, 79], []), ([6], []), ([2, 3, 4, 8, 9, 11, 14], []), ([2, 3, 4, 8, 9, 11, 14], []), ([2, 3, 4, 8, 9, 11, 14, 15], []), ([2, 3, 4, 8, 9, 11, 14, 15], []), ([2, 3, 4, 8, 9, 11, 14, 15, 87], []), ([6], []), ([2, 3, 4, 8, 9, 11, 14, 90], []), ([6], []), ([8, 9, 11, 14, 16, 17], []), ([11, 14, 108], []), ([6], []), ([11, 14, 15], []), ([14, 15], []), ([14, 15, 113], []), ([6], []), ([116], []), ([6], []), ([6], [])] = some (x_lFnExactConductLine, r_lFnExactConductLine) := by kernel_rfl
def us_lFnExactConductLine := And.intro @u_lFnExactConductLine (And.intro @u_lFnExactConductLine_1 (And.intro @u_lFnExactConductLine_2 (And.intro @u_lFnExactConductLine_3 (And.intro @u_lFnExactConductLine_4 (And.intro @u_lFnExactConductLine_5 (And.intro @u_lFnExactConductLine_6 (And.intro @u_lFnExactConductLine_7 (And.intro @u_lFnExactConductLine_8 (And.intro @u_lFnExactConductLine_9 (And.intro @u_lFnExactConductLine_10 (And.intro @u_lFnExactConductLine_11 (And.intro @u_lFnExactConductLine_12 (And.intro @u_lFnExactConductLine_13 (And.intro @u_lFnExactConductLine_14 (And.intro @u_lFnExactConductLine_15 (And.intro @u_lFnExactConductLine_16 (And.intro @u_lFnExactConductLine_17 (And.intro @u_lFnExactConductLine_18 (And.intro @u_lFnExactConductLine_19 (And.intro @u_lFnExactConductLine_20 (And.intro @u_lFnExactConductLine_21 (And.intro @u_lFnExactConductLine_22 (And.intro @u_lFnExactConductLine_23 (And.intro @u_lFnExactConductLine_24 (And.intro @u_lFnExactConductLine_25 (And.intro @u_lFnExactConductLine_26 (And.intro @u_lFnExactConductLine_27 (And.intro @u_lFnExactConductLine_28 (And.intro @u_lFnExactConductLine_29 (And.intro @u_lFnExactConductLine_30 (And.intro @u_lFnExactConductLine_31 (And.intro @u_lFnExactConductLine_32 (And.intro @u_lFnExactConductLine_33 (And.intro @u_lFnExactConductLine_34 (And.intro @u_lFnExactConductLine_35 (And.intro @u_lFnExactConductLine_36 (And.intro @u_lFnExactConductLine_37 @u_lFnExactConductLine_38)))))))))))))))))))))))))))))))))))))

theorem lFnExactConductLine_ok (nm : List UInt8) (st : Int) (v : Value) (cs : List (List UInt8)) (b s t : List UInt8) (hnm : nm.length ≤ 9223372036854775807) (hl : cs.length ≤ 9223372036854775807) (hs : ∀ x ∈ cs, x.length ≤ 9223372036854775807) (hb : b.length ≤ 9223372036854775807 ∧ s.length ≤ 9223372036854775807) (w : World) (h : Sq fS 1 w v cs) : Fn 5 [mV nm st v, kV b s, S t] w (fun r _ => r = .bool true) := by
  (refine callsV_of mix Try.func5 c_lFnExactConductLine ?_; simp only [↓vsd, vsn, gW, qd, qv, ev, pick, argE, List.map_cons, List.map_nil, Option.map_some, Option.map_none, zipE, List.cons_append, List.nil_append, ne_eq, eq_self, forall_const, implies_true, if_true, if_false, reduceIte, List.cons.injEq, reduceCtorEq, Nat.reduceEqDiff, List.length_nil, List.length_cons, Nat.reduceAdd, Nat.reduceLT, List.set_cons_zero, List.set_cons_succ, ↓us_lFnExactConductLine, r_lFnExactConductLine])
  refine m_al ?_
  rintro b1 w1 hb1 hblk1 hx1 hs1
  have h1 : Blk w1 b1 (fM nm st v) 55 := hblk1
  simp only [↓vsd, vsn, gW, qd, qv, ev, pick, argE, List.map_cons, List.map_nil, Option.map_some, Option.map_none, zipE, List.cons_append, List.nil_append, ne_eq, eq_self, forall_const, implies_true, if_true, if_false, reduceIte, List.cons.injEq, reduceCtorEq, Nat.reduceEqDiff, List.length_nil, List.length_cons, Nat.reduceAdd, Nat.reduceLT, List.set_cons_zero, List.set_cons_succ, ↓us_lFnExactConductLine, r_lFnExactConductLine, h1.facts, fMg]
  refine m_al ?_
  rintro b2 w2 hb2 hblk2 hx2 hs2
  have h2 : Blk w2 b2 (fQ b s) 39 := hblk2
  have h12 := h1.ext hx2
  have hx12 := hx1.trans hx2
  simp only [↓vsd, vsn, gW, qd, qv, ev, pick, argE, List.map_cons, List.map_nil, Option.map_some, Option.map_none, zipE, List.cons_append, List.nil_append, ne_eq, eq_self, forall_const, implies_true, if_true, if_false, reduceIte, List.cons.injEq, reduceCtorEq, Nat.reduceEqDiff, List.length_nil, List.length_cons, Nat.reduceAdd, Nat.reduceLT, List.set_cons_zero, List.set_cons_succ, ↓us_lFnExactConductLine, r_lFnExactConductLine, h12.facts, h2.facts, fMg, fQg]
  refine ⟨fun _ => hx12, fun hcall => ?_⟩
  have ht : t.length ≤ 1000000000 := by omega
  refine m_call (lszMethod_ok nm st v cs 1048576 (by decide) hnm hl hs _ (h.ext hx12)) ?_
  rintro _ w3 hx3 ⟨m, rfl, hm1, hm⟩
  have hx13 := hx12.trans hx3
  have h13 := h12.ext hx3
  have h23 := h2.ext hx3
  simp only [↓vsd, vsn, gW, qd, qv, ev, pick, argE, List.map_cons, List.map_nil, Option.map_some, Option.map_none, zipE, List.cons_append, List.nil_append, ne_eq, eq_self, forall_const, implies_true, if_true, if_false, reduceIte, List.cons.injEq, reduceCtorEq, Nat.reduceEqDiff, List.length_nil, List.length_cons, Nat.reduceAdd, Nat.reduceLT, List.set_cons_zero, List.set_cons_succ, ↓us_lFnExactConductLine, r_lFnExactConductLine, h13.facts, h23.facts, fMg, fQg]
  refine ⟨fun _ => hx13, fun h0 => ?_⟩
  obtain ⟨hnm, hl, hs⟩ := hm h0
  refine m_call (lszCalls_ok b s m ⟨hm1, h0⟩ hb _) ?_
  rintro _ w4 hx4 ⟨m2, rfl, hm21, hm2⟩
  have hx14 := hx13.trans hx4
  have h14 := h13.ext hx4
  have h24 := h23.ext hx4
  simp only [↓vsd, vsn, gW, qd, qv, ev, pick, argE, List.map_cons, List.map_nil, Option.map_some, Option.map_none, zipE, List.cons_append, List.nil_append, ne_eq, eq_self, forall_const, implies_true, if_true, if_false, reduceIte, List.cons.injEq, reduceCtorEq, Nat.reduceEqDiff, List.length_nil, List.length_cons, Nat.reduceAdd, Nat.reduceLT, List.set_cons_zero, List.set_cons_succ, ↓us_lFnExactConductLine, r_lFnExactConductLine, h14.facts, h24.facts, fMg, fQg]
  refine ⟨fun _ => hx14, fun h02 => ?_⟩
  have hb := hm2 h02
  refine m_call (ltoMethod_ok nm st v cs hl _ (h.ext (dr hx14))) ?_
  rintro _ w5 hx5 ⟨x5, rfl, ho5⟩
  have hx5 := ud hx5
  have h25 := h24.ext hx5
  have hx15 := hx14.trans hx5
  simp only [↓vsd, vsn, gW, qd, qv, ev, pick, argE, List.map_cons, List.map_nil, Option.map_some, Option.map_none, zipE, List.cons_append, List.nil_append, ne_eq, eq_self, forall_const, implies_true, if_true, if_false, reduceIte, List.cons.injEq, reduceCtorEq, Nat.reduceEqDiff, List.length_nil, List.length_cons, Nat.reduceAdd, Nat.reduceLT, List.set_cons_zero, List.set_cons_succ, ↓us_lFnExactConductLine, r_lFnExactConductLine, h25.facts, fQg]
  refine m_call (ltoCalls_ok b s _) ?_
  rintro _ w6 hx6 rfl
  have hx16 := hx15.trans hx6
  simp only [↓vsd, vsn, gW, qd, qv, ev, pick, argE, List.map_cons, List.map_nil, Option.map_some, Option.map_none, zipE, List.cons_append, List.nil_append, ne_eq, eq_self, forall_const, implies_true, if_true, if_false, reduceIte, List.cons.injEq, reduceCtorEq, Nat.reduceEqDiff, List.length_nil, List.length_cons, Nat.reduceAdd, Nat.reduceLT, List.set_cons_zero, List.set_cons_succ, ↓us_lFnExactConductLine, r_lFnExactConductLine]
  refine m_call (sConductLine_ok nm st x5 cs b s t hnm hs (by omega) hb ht _ (ho5.ext hx6).sq) ?_
  rintro _ w7 hx7 ⟨y7, rfl, ho7⟩
  have hx17 := hx16.trans hx7
  have h17 := h14.ext ((hx5.trans hx6).trans hx7)
  have h27 := h25.ext (hx6.trans hx7)
  simp only [↓vsd, vsn, gW, qd, qv, ev, pick, argE, List.map_cons, List.map_nil, Option.map_some, Option.map_none, zipE, List.cons_append, List.nil_append, ne_eq, eq_self, forall_const, implies_true, if_true, if_false, reduceIte, List.cons.injEq, reduceCtorEq, Nat.reduceEqDiff, List.length_nil, List.length_cons, Nat.reduceAdd, Nat.reduceLT, List.set_cons_zero, List.set_cons_succ, ↓us_lFnExactConductLine, r_lFnExactConductLine, h17.facts, h27.facts, fMg, fQg]
  refine m_call (ltoMethod_ok nm st v cs hl _ (h.ext hx17)) ?_
  rintro _ w8 hx8 ⟨x8, rfl, ho8⟩
  simp only [↓vsd, vsn, gW, qd, qv, ev, pick, argE, List.map_cons, List.map_nil, Option.map_some, Option.map_none, zipE, List.cons_append, List.nil_append, ne_eq, eq_self, forall_const, implies_true, if_true, if_false, reduceIte, List.cons.injEq, reduceCtorEq, Nat.reduceEqDiff, List.length_nil, List.length_cons, Nat.reduceAdd, Nat.reduceLT, List.set_cons_zero, List.set_cons_succ, ↓us_lFnExactConductLine, r_lFnExactConductLine]
  have h18 := h17.ext hx8
  have h28 := h27.ext hx8
  have hx18 := hx17.trans hx8
  refine m_al ?_
  rintro b9 w9 hb9 hblk9 hx9 hs9
  have h19 := h18.ext hx9
  have h29 := h28.ext hx9
  simp only [↓vsd, vsn, gW, qd, qv, ev, pick, argE, List.map_cons, List.map_nil, Option.map_some, Option.map_none, zipE, List.cons_append, List.nil_append, ne_eq, eq_self, forall_const, implies_true, if_true, if_false, reduceIte, List.cons.injEq, reduceCtorEq, Nat.reduceEqDiff, List.length_nil, List.length_cons, Nat.reduceAdd, Nat.reduceLT, List.set_cons_zero, List.set_cons_succ, ↓us_lFnExactConductLine, r_lFnExactConductLine, h19.facts, h29.facts, fMg, fQg]
  refine m_st hblk9 rfl (Nat.le_refl 3) (fM_one nm st x8 ho8.sq.one') ?_
  rintro w10 hblk10 hu10
  have hb10 : Blk w10 b9 (fM nm st x8) 58 := hblk10
  have hx19 := hx18.trans hx9
  have hx110 : Ext w w10 := hu10.below hx19 (by have := hx18.size; omega)
  have ho10 := (ho8.ext hx9).upd hu10 (ho8.away (by omega))
  have h110 := hu10.blk h19 (by have := h18.lt; omega)
  have h210 := hu10.blk h29 (by have := h28.lt; omega)
  have hw10 := ((ho7.ext hx8).ext hx9).upd hu10 ((ho7.ext hx8).away (by omega))
  simp only [↓vsd, vsn, gW, qd, qv, ev, pick, argE, List.map_cons, List.map_nil, Option.map_some, Option.map_none, zipE, List.cons_append, List.nil_append, ne_eq, eq_self, forall_const, implies_true, if_true, if_false, reduceIte, List.cons.injEq, reduceCtorEq, Nat.reduceEqDiff, List.length_nil, List.length_cons, Nat.reduceAdd, Nat.reduceLT, List.set_cons_zero, List.set_cons_succ, ↓us_lFnExactConductLine, r_lFnExactConductLine, h110.facts, h210.facts, hb10.facts, fMg, fQg]
  refine m_call (ltoCalls_ok b s _) ?_
  rintro _ w11 hx11 rfl
  have hx11 := ud hx11
  have h111 := h110.ext hx11
  have h211 := h210.ext hx11
  have hb11 := hb10.ext hx11
  have hx111 := hx110.trans hx11
  simp only [↓vsd, vsn, gW, qd, qv, ev, pick, argE, List.map_cons, List.map_nil, Option.map_some, Option.map_none, zipE, List.cons_append, List.nil_append, ne_eq, eq_self, forall_const, implies_true, if_true, if_false, reduceIte, List.cons.injEq, reduceCtorEq, Nat.reduceEqDiff, List.length_nil, List.length_cons, Nat.reduceAdd, Nat.reduceLT, List.set_cons_zero, List.set_cons_succ, ↓us_lFnExactConductLine, r_lFnExactConductLine, h111.facts, h211.facts, hb11.facts, fMg, fQg]
  refine m_call (iConductLine_ok nm st x8 cs b s t hnm hs (by omega) hb ht _ (ho10.ext hx11).sq) ?_
  rintro _ w12 hx12' ⟨y12, rfl, ho12⟩
  have hx112 := hx111.trans hx12'
  have hw12 := (hw10.ext hx11).ext hx12'
  have ho812 := (ho10.ext hx11).ext hx12'
  have hLl : (lineR nm st cs b s t).length ≤ 1000 := by
    unfold lineR
    split
    · rename_i hmv
      have := hmv.1.2.2.1
      simp only [lineL, List.length_map, List.length_range]; omega
    · simp
  generalize hmvb : decide (LineOk nm st cs b s t) = mb at *
  generalize hL : lineR nm st cs b s t = L at *
  have h112 := h111.ext hx12'
  have h212 := h211.ext hx12'
  have hb12 := hb11.ext hx12'
  simp only [↓vsd, vsn, gW, qd, qv, ev, pick, argE, List.map_cons, List.map_nil, Option.map_some, Option.map_none, zipE, List.cons_append, List.nil_append, ne_eq, eq_self, forall_const, implies_true, if_true, if_false, reduceIte, List.cons.injEq, reduceCtorEq, Nat.reduceEqDiff, List.length_nil, List.length_cons, Nat.reduceAdd, Nat.reduceLT, List.set_cons_zero, List.set_cons_succ, ↓us_lFnExactConductLine, r_lFnExactConductLine]
  refine m_call (leqStringS_ok y12 y7 L L _ ho12.sq hw12.sq (by omega)) ?_
  rintro _ w13 hx13' rfl
  have hx113 := hx112.trans hx13'
  have h113 := h112.ext hx13'
  have h213 := h212.ext hx13'
  have hb13 := hb12.ext hx13'
  simp only [↓vsd, vsn, gW, qd, qv, ev, pick, argE, List.map_cons, List.map_nil, Option.map_some, Option.map_none, zipE, List.cons_append, List.nil_append, ne_eq, eq_self, forall_const, implies_true, if_true, if_false, reduceIte, List.cons.injEq, reduceCtorEq, Nat.reduceEqDiff, List.length_nil, List.length_cons, Nat.reduceAdd, Nat.reduceLT, List.set_cons_zero, List.set_cons_succ, ↓us_lFnExactConductLine, r_lFnExactConductLine, h113.facts, h213.facts, hb13.facts, fMg, fQg]
  refine m_call (ltoMethod_ok nm st v cs hl _ (h.ext (dr hx113))) ?_
  rintro _ w14 hx14' ⟨x14, rfl, ho14⟩
  have hx14' := ud hx14'
  have hx114 := hx113.trans hx14'
  have h114 := h113.ext hx14'
  have h214 := h213.ext hx14'
  have hb14 := hb13.ext hx14'
  simp only [↓vsd, vsn, gW, qd, qv, ev, pick, argE, List.map_cons, List.map_nil, Option.map_some, Option.map_none, zipE, List.cons_append, List.nil_append, ne_eq, eq_self, forall_const, implies_true, if_true, if_false, reduceIte, List.cons.injEq, reduceCtorEq, Nat.reduceEqDiff, List.length_nil, List.length_cons, Nat.reduceAdd, Nat.reduceLT, List.set_cons_zero, List.set_cons_succ, ↓us_lFnExactConductLine, r_lFnExactConductLine, h114.facts, h214.facts, hb14.facts, fMg, fQg]
  refine m_call (leqMethod_ok nm nm st st x8 x14 cs cs (by omega) _ ((ho812.ext hx13').ext hx14').sq ho14.sq) ?_
  rintro _ w15 hx15' rfl
  have hx115 := hx114.trans hx15'
  have h115 := h114.ext hx15'
  have h215 := h214.ext hx15'
  have hb15 := hb14.ext hx15'
  simp only [↓vsd, vsn, gW, qd, qv, ev, pick, argE, List.map_cons, List.map_nil, Option.map_some, Option.map_none, zipE, List.cons_append, List.nil_append, ne_eq, eq_self, forall_const, implies_true, if_true, if_false, reduceIte, List.cons.injEq, reduceCtorEq, Nat.reduceEqDiff, List.length_nil, List.length_cons, Nat.reduceAdd, Nat.reduceLT, List.set_cons_zero, List.set_cons_succ, ↓us_lFnExactConductLine, r_lFnExactConductLine, h115.facts, h215.facts, hb15.facts, fMg, fQg]
  have ho815 := ((ho812.ext hx13').ext hx14').ext hx15'
  have ho1215 := ((ho12.ext hx13').ext hx14').ext hx15'
  have hw15 := ((hw12.ext hx13').ext hx14').ext hx15'
  refine m_callw (.inl rfl) (lmarkMethod_ok nm st x8 cs _ 1 (by omega) (by omega) _ ho815) ?_
  rintro _ w16 ⟨rfl, ho816, hg16⟩
  have hs8 := hx8.size
  have hs7 := hx7.size
  have hxs17 := hx17.size
  have hx116 : Ext w w16 := (ho815.mono (B' := w.heap.size) hxs17).grown hx115 (Nat.le_refl _) hg16
  have hx8far : ∀ c, x8.ownBlock = some c → w7.heap.size ≤ c ∧ c < w8.heap.size := fun c hc => ⟨(ho8.bound c hc).1, ho8.lt c hc⟩
  have hs810 : w8.heap.size ≤ w11.heap.size := by have := hx9.size; have := hu10.size; have := hx11.size; omega
  have h116 := h115.same (hg16.block b1 h115.lt (fun e => by have := (hx8far b1 e.symm).1; have := h17.lt; omega))
  have h216 := h215.same (hg16.block b2 h215.lt (fun e => by have := (hx8far b2 e.symm).1; have := h27.lt; omega))
  have ho1216 := ho1215.off hg16 (fun c hc => ho12.away' (by have := (hx8far c hc).2; omega))
  have hw16 := hw15.off hg16 (fun c hc => ho7.away (hx8far c hc).1)
  simp only [↓vsd, vsn, gW, qd, qv, ev, pick, argE, List.map_cons, List.map_nil, Option.map_some, Option.map_none, zipE, List.cons_append, List.nil_append, ne_eq, eq_self, forall_const, implies_true, if_true, if_false, reduceIte, List.cons.injEq, reduceCtorEq, Nat.reduceEqDiff, List.length_nil, List.length_cons, Nat.reduceAdd, Nat.reduceLT, List.set_cons_zero, List.set_cons_succ, ↓us_lFnExactConductLine, r_lFnExactConductLine]
  refine ⟨fun _ => ?_, fun hneg => by omega⟩
  refine m_call (leqStringS_ok y12 y7 L L _ ho1216.sq hw16.sq (by omega)) ?_
  rintro _ w17 hx17' rfl
  have hx117 := hx116.trans hx17'
  simp only [↓vsd, vsn, gW, qd, qv, ev, pick, argE, List.map_cons, List.map_nil, Option.map_some, Option.map_none, zipE, List.cons_append, List.nil_append, ne_eq, eq_self, forall_const, implies_true, if_true, if_false, reduceIte, List.cons.injEq, reduceCtorEq, Nat.reduceEqDiff, List.length_nil, List.length_cons, Nat.reduceAdd, Nat.reduceLT, List.set_cons_zero, List.set_cons_succ, ↓us_lFnExactConductLine, r_lFnExactConductLine]
  refine ⟨fun hneg => by omega, fun _ => ?_⟩
  refine m_callw (.inl rfl) (lmarkStringS_ok y12 L _ 1 (by omega) (by omega) _ (ho1216.ext hx17')) ?_
  rintro _ w18 ⟨rfl, ho1218, hg18⟩
  have hx118 : Ext w w18 := ((ho1216.ext hx17').mono (B' := w.heap.size) (by have := hx111.size; omega)).grown hx117 (Nat.le_refl _) hg18
  have h118 := (h116.ext hx17').same (hg18.block b1 (h116.ext hx17').lt (fun e => by have := (ho1218.bound b1 e.symm).1; have := h17.lt; omega))
  have h218 := (h216.ext hx17').same (hg18.block b2 (h216.ext hx17').lt (fun e => by have := (ho1218.bound b2 e.symm).1; have := h27.lt; omega))
  have hw18 := (hw16.ext hx17').off hg18 (fun c hc => ho7.away (by have := (ho1218.bound c hc).1; omega))
  simp only [↓vsd, vsn, gW, qd, qv, ev, pick, argE, List.map_cons, List.map_nil, Option.map_some, Option.map_none, zipE, List.cons_append, List.nil_append, ne_eq, eq_self, forall_const, implies_true, if_true, if_false, reduceIte, List.cons.injEq, reduceCtorEq, Nat.reduceEqDiff, List.length_nil, List.length_cons, Nat.reduceAdd, Nat.reduceLT, List.set_cons_zero, List.set_cons_succ, ↓us_lFnExactConductLine, r_lFnExactConductLine]
  refine m_call (lheldStringS_ok y12 L.length 1 (by omega) (by omega) _ ho1218.sq) ?_
  rintro _ w19 hx19' rfl
  have hx119 := hx118.trans hx19'
  have h119 := h118.ext hx19'
  have h219 := h218.ext hx19'
  simp only [↓vsd, vsn, gW, qd, qv, ev, pick, argE, List.map_cons, List.map_nil, Option.map_some, Option.map_none, zipE, List.cons_append, List.nil_append, ne_eq, eq_self, forall_const, implies_true, if_true, if_false, reduceIte, List.cons.injEq, reduceCtorEq, Nat.reduceEqDiff, List.length_nil, List.length_cons, Nat.reduceAdd, Nat.reduceLT, List.set_cons_zero, List.set_cons_succ, ↓us_lFnExactConductLine, r_lFnExactConductLine, h119.facts, h219.facts, fMg, fQg]
  refine ⟨fun hneg => by omega, fun _ => ?_⟩
  refine m_call (ltoMethod_ok nm st v cs hl _ (h.ext (dr hx119))) ?_
  rintro _ w20 hx20 ⟨x20, rfl, ho20⟩
  have hx20 := ud hx20
  have h220 := h219.ext hx20
  simp only [↓vsd, vsn, gW, qd, qv, ev, pick, argE, List.map_cons, List.map_nil, Option.map_some, Option.map_none, zipE, List.cons_append, List.nil_append, ne_eq, eq_self, forall_const, implies_true, if_true, if_false, reduceIte, List.cons.injEq, reduceCtorEq, Nat.reduceEqDiff, List.length_nil, List.length_cons, Nat.reduceAdd, Nat.reduceLT, List.set_cons_zero, List.set_cons_succ, ↓us_lFnExactConductLine, r_lFnExactConductLine, h220.facts, fQg]
  refine m_call (ltoCalls_ok b s _) ?_
  rintro _ w21 hx21 rfl
  simp only [↓vsd, vsn, gW, qd, qv, ev, pick, argE, List.map_cons, List.map_nil, Option.map_some, Option.map_none, zipE, List.cons_append, List.nil_append, ne_eq, eq_self, forall_const, implies_true, if_true, if_false, reduceIte, List.cons.injEq, reduceCtorEq, Nat.reduceEqDiff, List.length_nil, List.length_cons, Nat.reduceAdd, Nat.reduceLT, List.set_cons_zero, List.set_cons_succ, ↓us_lFnExactConductLine, r_lFnExactConductLine]
  refine m_call (iConductLine_ok nm st x20 cs b s t hnm hs (by omega) hb ht _ (ho20.ext hx21).sq) ?_
  rintro _ w22 hx22 ⟨y22, rfl, ho22⟩
  have hx1922 := (hx20.trans hx21).trans hx22
  rw [hmvb]
  have ho22 := ho22.to hL
  simp only [↓vsd, vsn, gW, qd, qv, ev, pick, argE, List.map_cons, List.map_nil, Option.map_some, Option.map_none, zipE, List.cons_append, List.nil_append, ne_eq, eq_self, forall_const, implies_true, if_true, if_false, reduceIte, List.cons.injEq, reduceCtorEq, Nat.reduceEqDiff, List.length_nil, List.length_cons, Nat.reduceAdd, Nat.reduceLT, List.set_cons_zero, List.set_cons_succ, ↓us_lFnExactConductLine, r_lFnExactConductLine]
  refine m_call (leqStringS_ok y22 y7 L L _ ho22.sq ((hw18.ext hx19').ext hx1922).sq (by omega)) ?_
  rintro _ w23 hx23 rfl
  simp only [↓vsd, vsn, gW, qd, qv, ev, pick, argE, List.map_cons, List.map_nil, Option.map_some, Option.map_none, zipE, List.cons_append, List.nil_append, ne_eq, eq_self, forall_const, implies_true, if_true, if_false, reduceIte, List.cons.injEq, reduceCtorEq, Nat.reduceEqDiff, List.length_nil, List.length_cons, Nat.reduceAdd, Nat.reduceLT, List.set_cons_zero, List.set_cons_succ, ↓us_lFnExactConductLine, r_lFnExactConductLine]
  refine m_call (lheldStringS_ok y12 L.length 1 (by omega) (by omega) _ (((ho1218.ext hx19').ext hx1922).ext hx23).sq) ?_
  rintro _ w24 hx24 rfl
  simp only [↓vsd, vsn, gW, qd, qv, ev, pick, argE, List.map_cons, List.map_nil, Option.map_some, Option.map_none, zipE, List.cons_append, List.nil_append, ne_eq, eq_self, forall_const, implies_true, if_true, if_false, reduceIte, List.cons.injEq, reduceCtorEq, Nat.reduceEqDiff, List.length_nil, List.length_cons, Nat.reduceAdd, Nat.reduceLT, List.set_cons_zero, List.set_cons_succ, ↓us_lFnExactConductLine, r_lFnExactConductLine]
  exact ⟨fun h => by omega, fun _ => ((hx119.trans hx1922).trans hx23).trans hx24⟩
end Go.Proofs.Ytjcnmobdlkmaeaa
