/-
  RunsIn and FitsRow: what program and reference compute; the calls of the laws FnExactRunsIn and FnExactFitsRow.
  Conditions: none.
-/
import Derived.Test.YtnocgihggdgkeaaA2
set_option linter.unusedSimpArgs false
set_option linter.unusedVariables false
set_option linter.defProp false
namespace Go.Proofs.Ytnocgihggdgkeaa
open Go Go.RowKit
def t_sRunsIn_1 : X := (.cond (.t 17) (.seq (.reg [4, 5] (.c (.q 4 [] (.mv (.c (.int .i64 0)))) (.c (.q 5 [] (.mv (.c (.bool false)))) .nil))) .ret) .skip)
theorem u_sRunsIn_1 (P : Program) (k : KT) (e : Env) (w : World) : vcK P t_sRunsIn_1 k e w = vcK P (.cond (.t 17) (.seq (.reg [4, 5] (.c (.q 4 [] (.mv (.c (.int .i64 0)))) (.c (.q 5 [] (.mv (.c (.bool false)))) .nil))) .ret) .skip) k e w := rfl
def t_sRunsIn_2 : X := (.cond (.t 23) .skip (.exit 0))
theorem u_sRunsIn_2 (P : Program) (k : KT) (e : Env) (w : World) : vcK P t_sRunsIn_2 k e w = vcK P (.cond (.t 23) .skip (.exit 0)) k e w := rfl
def t_sRunsIn_3 : X := (.cond (.t 41) (.reg [0, 1, 6, 7] (.c (.q 42 [] (.mv (.t 6))) (.c (.q 43 [] (.bin .add (.t 42) (.c (.int .i64 1)))) (.c (.q 6 [] (.mv (.t 43))) .nil)))) .skip)
theorem u_sRunsIn_3 (P : Program) (k : KT) (e : Env) (w : World) : vcK P t_sRunsIn_3 k e w = vcK P (.cond (.t 41) (.reg [0, 1, 6, 7] (.c (.q 42 [] (.mv (.t 6))) (.c (.q 43 [] (.bin .add (.t 42) (.c (.int .i64 1)))) (.c (.q 6 [] (.mv (.t 43))) .nil)))) .skip) k e w := rfl
def t_sRunsIn_4 : X := (.reg [0, 1, 6, 7] (.c (.q 24 [] (.mv (.t 7))) (.c (.q 25 [] (.bin .add (.t 24) (.c (.int .i64 1)))) (.c (.q 7 [] (.mv (.t 25))) .nil))))
theorem u_sRunsIn_4 (P : Program) (k : KT) (e : Env) (w : World) : vcK P t_sRunsIn_4 k e w = vcK P (.reg [0, 1, 6, 7] (.c (.q 24 [] (.mv (.t 7))) (.c (.q 25 [] (.bin .add (.t 24) (.c (.int .i64 1)))) (.c (.q 7 [] (.mv (.t 25))) .nil)))) k e w := rfl
def t_sRunsIn_5 : X := (.seq (.blk 1 (.seq (.reg [0, 1, 6, 7, 41] (.c (.q 26 [] (.mv (.t 0))) (.c (.q 27 [] (.mv (.t 7))) (.c (.q 28 [] (.mv (.t 7))) (.c (.q 29 [] (.mv (.t 1))) (.c (.q 30 [] (.bin .add (.t 28) (.t 29))) (.c (.q 31 [] (.sub (.t 26) (some (.t 27)) (some (.t 30)))) (.c (.e (some 32) [] (.call false 135 [(.t 31), (.c (.int .i64 1))])) (.c (.q 33 [] (.mv (.t 32))) (.c (.q 34 [(33, false)] (.mv (.t 0))) (.c (.q 35 [(33, false)] (.mv (.t 7))) (.c (.q 36 [(33, false)] (.mv (.t 7))) (.c (.q 37 [(33, false)] (.mv (.t 1))) (.c (.q 38 [(33, false)] (.bin .add (.t 36) (.t 37))) (.c (.q 39 [(33, false)] (.sub (.t 34) (some (.t 35)) (some (.t 38)))) (.c (.e (some 40) [(33, false)] (.call false 135 [(.t 39), (.c (.int .i64 (-1)))])) (.c (.q 41 [] (.pick (.t 33) (.c (.bool true)) (.t 40))) .nil))))))))))))))))) t_sRunsIn_3)) t_sRunsIn_4)
theorem u_sRunsIn_5 (P : Program) (k : KT) (e : Env) (w : World) : vcK P t_sRunsIn_5 k e w = vcK P (.seq (.blk 1 (.seq (.reg [0, 1, 6, 7, 41] (.c (.q 26 [] (.mv (.t 0))) (.c (.q 27 [] (.mv (.t 7))) (.c (.q 28 [] (.mv (.t 7))) (.c (.q 29 [] (.mv (.t 1))) (.c (.q 30 [] (.bin .add (.t 28) (.t 29))) (.c (.q 31 [] (.sub (.t 26) (some (.t 27)) (some (.t 30)))) (.c (.e (some 32) [] (.call false 135 [(.t 31), (.c (.int .i64 1))])) (.c (.q 33 [] (.mv (.t 32))) (.c (.q 34 [(33, false)] (.mv (.t 0))) (.c (.q 35 [(33, false)] (.mv (.t 7))) (.c (.q 36 [(33, false)] (.mv (.t 7))) (.c (.q 37 [(33, false)] (.mv (.t 1))) (.c (.q 38 [(33, false)] (.bin .add (.t 36) (.t 37))) (.c (.q 39 [(33, false)] (.sub (.t 34) (some (.t 35)) (some (.t 38)))) (.c (.e (some 40) [(33, false)] (.call false 135 [(.t 39), (.c (.int .i64 (-1)))])) (.c (.q 41 [] (.pick (.t 33) (.c (.bool true)) (.t 40))) .nil))))))))))))))))) t_sRunsIn_3)) t_sRunsIn_4) k e w := rfl
def t_sRunsIn_6 : X := (.seq (.seq (.reg [0, 1, 6, 7, 23] (.c (.q 18 [] (.mv (.t 7))) (.c (.q 19 [] (.mv (.t 1))) (.c (.q 20 [] (.bin .add (.t 18) (.t 19))) (.c (.q 21 [] (.mv (.t 0))) (.c (.q 22 [] (.len (.t 21))) (.c (.q 23 [] (.bin .leq (.t 20) (.t 22))) .nil))))))) t_sRunsIn_2) t_sRunsIn_5)
theorem u_sRunsIn_6 (P : Program) (k : KT) (e : Env) (w : World) : vcK P t_sRunsIn_6 k e w = vcK P (.seq (.seq (.reg [0, 1, 6, 7, 23] (.c (.q 18 [] (.mv (.t 7))) (.c (.q 19 [] (.mv (.t 1))) (.c (.q 20 [] (.bin .add (.t 18) (.t 19))) (.c (.q 21 [] (.mv (.t 0))) (.c (.q 22 [] (.len (.t 21))) (.c (.q 23 [] (.bin .leq (.t 20) (.t 22))) .nil))))))) t_sRunsIn_2) t_sRunsIn_5) k e w := rfl
def t_sRunsIn_7 : X := (.blk 0 (.loop [6, 7] [0, 1] t_sRunsIn_6))
theorem u_sRunsIn_7 (P : Program) (k : KT) (e : Env) (w : World) : vcK P t_sRunsIn_7 k e w = vcK P (.blk 0 (.loop [6, 7] [0, 1] t_sRunsIn_6)) k e w := rfl
def t_sRunsIn_8 : X := (.seq (.reg [4, 5] (.c (.q 44 [] (.mv (.t 6))) (.c (.q 4 [] (.mv (.t 44))) (.c (.q 5 [] (.mv (.c (.bool true)))) .nil)))) .ret)
theorem u_sRunsIn_8 (P : Program) (k : KT) (e : Env) (w : World) : vcK P t_sRunsIn_8 k e w = vcK P (.seq (.reg [4, 5] (.c (.q 44 [] (.mv (.t 6))) (.c (.q 4 [] (.mv (.t 44))) (.c (.q 5 [] (.mv (.c (.bool true)))) .nil)))) .ret) k e w := rfl
def t_sRunsIn_9 : X := (.seq (.seq (.reg [0, 1, 6, 7] (.c (.q 7 [] (.mv (.c (.int .i64 0)))) .nil)) t_sRunsIn_7) t_sRunsIn_8)
theorem u_sRunsIn_9 (P : Program) (k : KT) (e : Env) (w : World) : vcK P t_sRunsIn_9 k e w = vcK P (.seq (.seq (.reg [0, 1, 6, 7] (.c (.q 7 [] (.mv (.c (.int .i64 0)))) .nil)) t_sRunsIn_7) t_sRunsIn_8) k e w := rfl
def t_sRunsIn_10 : X := (.seq (.reg [0, 1, 6] (.c (.q 6 [] (.mv (.c (.int .i64 0)))) .nil)) t_sRunsIn_9)
theorem u_sRunsIn_10 (P : Program) (k : KT) (e : Env) (w : World) : vcK P t_sRunsIn_10 k e w = vcK P (.seq (.reg [0, 1, 6] (.c (.q 6 [] (.mv (.c (.int .i64 0)))) .nil)) t_sRunsIn_9) k e w := rfl
def t_sRunsIn_11 : X := (.seq (.seq (.reg [0, 1, 17] (.c (.q 8 [] (.mv (.t 0))) (.c (.e (some 9) [] (.call false 103 [(.t 8)])) (.c (.q 10 [] (.not (.t 9))) (.c (.q 11 [] (.mv (.t 10))) (.c (.q 12 [(11, false)] (.mv (.t 1))) (.c (.q 13 [(11, false)] (.mv (.t 0))) (.c (.q 14 [(11, false)] (.len (.t 13))) (.c (.e (some 15) [(11, false)] (.call false 87 [(.t 12), (.c (.int .i64 2)), (.t 14)])) (.c (.q 16 [(11, false)] (.not (.t 15))) (.c (.q 17 [] (.pick (.t 11) (.c (.bool true)) (.t 16))) .nil))))))))))) t_sRunsIn_1) t_sRunsIn_10)
theorem u_sRunsIn_11 (P : Program) (k : KT) (e : Env) (w : World) : vcK P t_sRunsIn_11 k e w = vcK P (.seq (.seq (.reg [0, 1, 17] (.c (.q 8 [] (.mv (.t 0))) (.c (.e (some 9) [] (.call false 103 [(.t 8)])) (.c (.q 10 [] (.not (.t 9))) (.c (.q 11 [] (.mv (.t 10))) (.c (.q 12 [(11, false)] (.mv (.t 1))) (.c (.q 13 [(11, false)] (.mv (.t 0))) (.c (.q 14 [(11, false)] (.len (.t 13))) (.c (.e (some 15) [(11, false)] (.call false 87 [(.t 12), (.c (.int .i64 2)), (.t 14)])) (.c (.q 16 [(11, false)] (.not (.t 15))) (.c (.q 17 [] (.pick (.t 11) (.c (.bool true)) (.t 16))) .nil))))))))))) t_sRunsIn_1) t_sRunsIn_10) k e w := rfl
def x_sRunsIn : X := (.seq (.reg [0, 1] (.c (.q 4 [] (.mv (.c (.int .i64 0)))) (.c (.q 5 [] (.mv (.c (.bool false)))) .nil))) t_sRunsIn_11)
theorem u_sRunsIn (P : Program) (k : KT) (e : Env) (w : World) : vcK P x_sRunsIn k e w = vcK P (.seq (.reg [0, 1] (.c (.q 4 [] (.mv (.c (.int .i64 0)))) (.c (.q 5 [] (.mv (.c (.bool false)))) .nil))) t_sRunsIn_11) k e w := rfl
def r_sRunsIn : List XO := [(.mv (.t 4)), (.mv (.t 5))]
theorem c_sRunsIn : convF Try.prog [95, 96, 97, 107, 117, 118, 128, 129, 134, 144, 145, 153, 156, 174, 175, 182] Try.f70 [([0, 1], []), ([0, 1, 17], []), ([4, 5], []), ([0, 1, 6], []), ([0, 1, 6, 7], []), ([6, 7], [0, 1]), ([0, 1, 6, 7, 23], []), ([0, 1, 6, 7, 41], []), ([0, 1, 6, 7], []), ([0, 1, 6, 7], []), ([4, 5], [])] = some (x_sRunsIn, r_sRunsIn) := by kernel_rfl
def us_sRunsIn := And.intro @u_sRunsIn (And.intro @u_sRunsIn_1 (And.intro @u_sRunsIn_2 (And.intro @u_sRunsIn_3 (And.intro @u_sRunsIn_4 (And.intro @u_sRunsIn_5 (And.intro @u_sRunsIn_6 (And.intro @u_sRunsIn_7 (And.intro @u_sRunsIn_8 (And.intro @u_sRunsIn_9 (And.intro @u_sRunsIn_10 @u_sRunsIn_11))))))))))
def t_sl16Run_1 : X := (.cond (.t 9) .skip (.exit 0))
theorem u_sl16Run_1 (P : Program) (k : KT) (e : Env) (w : World) : vcK P t_sl16Run_1 k e w = vcK P (.cond (.t 9) .skip (.exit 0)) k e w := rfl
def t_sl16Run_2 : X := (.cond (.t 23) (.seq (.reg [4] (.c (.q 4 [] (.mv (.c (.bool false)))) .nil)) .ret) .skip)
theorem u_sl16Run_2 (P : Program) (k : KT) (e : Env) (w : World) : vcK P t_sl16Run_2 k e w = vcK P (.cond (.t 23) (.seq (.reg [4] (.c (.q 4 [] (.mv (.c (.bool false)))) .nil)) .ret) .skip) k e w := rfl
def t_sl16Run_3 : X := (.reg [0, 1, 5] (.c (.q 10 [] (.mv (.t 5))) (.c (.q 11 [] (.bin .add (.t 10) (.c (.int .i64 1)))) (.c (.q 5 [] (.mv (.t 11))) .nil))))
theorem u_sl16Run_3 (P : Program) (k : KT) (e : Env) (w : World) : vcK P t_sl16Run_3 k e w = vcK P (.reg [0, 1, 5] (.c (.q 10 [] (.mv (.t 5))) (.c (.q 11 [] (.bin .add (.t 10) (.c (.int .i64 1)))) (.c (.q 5 [] (.mv (.t 11))) .nil)))) k e w := rfl
def t_sl16Run_4 : X := (.seq (.blk 1 (.seq (.drw [0, 1, 5, 23] (.c (.q 12 [] (.mv (.t 0))) (.c (.q 13 [] (.mv (.t 5))) (.c (.q 14 [] (.idx (.t 12) (.t 13))) (.c (.q 15 [] (.cvi .i64 (.t 14))) (.c (.q 16 [] (.mv (.t 0))) (.c (.q 17 [] (.mv (.t 5))) (.c (.q 18 [] (.bin .sub (.t 17) (.c (.int .i64 1)))) (.c (.q 19 [] (.idx (.t 16) (.t 18))) (.c (.q 20 [] (.cvi .i64 (.t 19))) (.c (.q 21 [] (.bin .sub (.t 15) (.t 20))) (.c (.q 22 [] (.mv (.t 1))) (.c (.q 23 [] (.bin .neq (.t 21) (.t 22))) .nil))))))))))))) t_sl16Run_2)) t_sl16Run_3)
theorem u_sl16Run_4 (P : Program) (k : KT) (e : Env) (w : World) : vcK P t_sl16Run_4 k e w = vcK P (.seq (.blk 1 (.seq (.drw [0, 1, 5, 23] (.c (.q 12 [] (.mv (.t 0))) (.c (.q 13 [] (.mv (.t 5))) (.c (.q 14 [] (.idx (.t 12) (.t 13))) (.c (.q 15 [] (.cvi .i64 (.t 14))) (.c (.q 16 [] (.mv (.t 0))) (.c (.q 17 [] (.mv (.t 5))) (.c (.q 18 [] (.bin .sub (.t 17) (.c (.int .i64 1)))) (.c (.q 19 [] (.idx (.t 16) (.t 18))) (.c (.q 20 [] (.cvi .i64 (.t 19))) (.c (.q 21 [] (.bin .sub (.t 15) (.t 20))) (.c (.q 22 [] (.mv (.t 1))) (.c (.q 23 [] (.bin .neq (.t 21) (.t 22))) .nil))))))))))))) t_sl16Run_2)) t_sl16Run_3) k e w := rfl
def t_sl16Run_5 : X := (.seq (.seq (.reg [0, 1, 5, 9] (.c (.q 6 [] (.mv (.t 5))) (.c (.q 7 [] (.mv (.t 0))) (.c (.q 8 [] (.len (.t 7))) (.c (.q 9 [] (.bin .lss (.t 6) (.t 8))) .nil))))) t_sl16Run_1) t_sl16Run_4)
theorem u_sl16Run_5 (P : Program) (k : KT) (e : Env) (w : World) : vcK P t_sl16Run_5 k e w = vcK P (.seq (.seq (.reg [0, 1, 5, 9] (.c (.q 6 [] (.mv (.t 5))) (.c (.q 7 [] (.mv (.t 0))) (.c (.q 8 [] (.len (.t 7))) (.c (.q 9 [] (.bin .lss (.t 6) (.t 8))) .nil))))) t_sl16Run_1) t_sl16Run_4) k e w := rfl
def t_sl16Run_6 : X := (.blk 0 (.loop [5] [0, 1] t_sl16Run_5))
theorem u_sl16Run_6 (P : Program) (k : KT) (e : Env) (w : World) : vcK P t_sl16Run_6 k e w = vcK P (.blk 0 (.loop [5] [0, 1] t_sl16Run_5)) k e w := rfl
def t_sl16Run_7 : X := (.seq (.reg [4] (.c (.q 4 [] (.mv (.c (.bool true)))) .nil)) .ret)
theorem u_sl16Run_7 (P : Program) (k : KT) (e : Env) (w : World) : vcK P t_sl16Run_7 k e w = vcK P (.seq (.reg [4] (.c (.q 4 [] (.mv (.c (.bool true)))) .nil)) .ret) k e w := rfl
def t_sl16Run_8 : X := (.seq (.seq (.reg [0, 1, 5] (.c (.q 5 [] (.mv (.c (.int .i64 1)))) .nil)) t_sl16Run_6) t_sl16Run_7)
theorem u_sl16Run_8 (P : Program) (k : KT) (e : Env) (w : World) : vcK P t_sl16Run_8 k e w = vcK P (.seq (.seq (.reg [0, 1, 5] (.c (.q 5 [] (.mv (.c (.int .i64 1)))) .nil)) t_sl16Run_6) t_sl16Run_7) k e w := rfl
def x_sl16Run : X := (.seq (.reg [0, 1] (.c (.q 4 [] (.mv (.c (.bool false)))) .nil)) t_sl16Run_8)
theorem u_sl16Run (P : Program) (k : KT) (e : Env) (w : World) : vcK P x_sl16Run k e w = vcK P (.seq (.reg [0, 1] (.c (.q 4 [] (.mv (.c (.bool false)))) .nil)) t_sl16Run_8) k e w := rfl
def r_sl16Run : List XO := [(.mv (.t 4))]
theorem c_sl16Run : convF Try.prog [95, 96, 97, 107, 117, 118, 128, 129, 134, 144, 145, 153, 156, 174, 175, 182] Try.f135 [([0, 1], []), ([0, 1, 5], []), ([5], [0, 1]), ([0, 1, 5, 9], []), ([0, 1, 5, 23], []), ([4], []), ([0, 1, 5], []), ([4], [])] = some (x_sl16Run, r_sl16Run) := by kernel_rfl
def us_sl16Run := And.intro @u_sl16Run (And.intro @u_sl16Run_1 (And.intro @u_sl16Run_2 (And.intro @u_sl16Run_3 (And.intro @u_sl16Run_4 (And.intro @u_sl16Run_5 (And.intro @u_sl16Run_6 (And.intro @u_sl16Run_7 @u_sl16Run_8)))))))
def t_iRunsIn_1 : X := (.cond (.t 20) (.seq (.reg [4, 5] (.c (.q 4 [] (.mv (.c (.int .i64 0)))) (.c (.q 5 [] (.mv (.c (.bool false)))) .nil))) .ret) .skip)
theorem u_iRunsIn_1 (P : Program) (k : KT) (e : Env) (w : World) : vcK P t_iRunsIn_1 k e w = vcK P (.cond (.t 20) (.seq (.reg [4, 5] (.c (.q 4 [] (.mv (.c (.int .i64 0)))) (.c (.q 5 [] (.mv (.c (.bool false)))) .nil))) .ret) .skip) k e w := rfl
def t_iRunsIn_2 : X := (.cond (.t 26) .skip (.exit 0))
theorem u_iRunsIn_2 (P : Program) (k : KT) (e : Env) (w : World) : vcK P t_iRunsIn_2 k e w = vcK P (.cond (.t 26) .skip (.exit 0)) k e w := rfl
def t_iRunsIn_3 : X := (.cond (.t 35) .skip (.exit 2))
theorem u_iRunsIn_3 (P : Program) (k : KT) (e : Env) (w : World) : vcK P t_iRunsIn_3 k e w = vcK P (.cond (.t 35) .skip (.exit 2)) k e w := rfl
def t_iRunsIn_4 : X := (.drw [0, 1, 6, 7, 8, 9, 10] (.c (.q 50 [] (.mv (.t 9))) (.c (.q 51 [] (.mv (.t 50))) (.c (.q 52 [(51, true)] (.mv (.t 0))) (.c (.q 53 [(51, true)] (.mv (.t 10))) (.c (.q 54 [(51, true)] (.idx (.t 52) (.t 53))) (.c (.q 55 [(51, true)] (.mv (.t 0))) (.c (.q 56 [(51, true)] (.mv (.t 10))) (.c (.q 57 [(51, true)] (.bin .sub (.t 56) (.c (.int .i64 1)))) (.c (.q 58 [(51, true)] (.idx (.t 55) (.t 57))) (.c (.q 59 [(51, true)] (.bin .sub (.t 58) (.c (.int .u8 1)))) (.c (.q 60 [(51, true)] (.bin .eql (.t 54) (.t 59))) (.c (.q 61 [] (.pick (.t 51) (.t 60) (.c (.bool false)))) (.c (.q 9 [] (.mv (.t 61))) .nil))))))))))))))
theorem u_iRunsIn_4 (P : Program) (k : KT) (e : Env) (w : World) : vcK P t_iRunsIn_4 k e w = vcK P (.drw [0, 1, 6, 7, 8, 9, 10] (.c (.q 50 [] (.mv (.t 9))) (.c (.q 51 [] (.mv (.t 50))) (.c (.q 52 [(51, true)] (.mv (.t 0))) (.c (.q 53 [(51, true)] (.mv (.t 10))) (.c (.q 54 [(51, true)] (.idx (.t 52) (.t 53))) (.c (.q 55 [(51, true)] (.mv (.t 0))) (.c (.q 56 [(51, true)] (.mv (.t 10))) (.c (.q 57 [(51, true)] (.bin .sub (.t 56) (.c (.int .i64 1)))) (.c (.q 58 [(51, true)] (.idx (.t 55) (.t 57))) (.c (.q 59 [(51, true)] (.bin .sub (.t 58) (.c (.int .u8 1)))) (.c (.q 60 [(51, true)] (.bin .eql (.t 54) (.t 59))) (.c (.q 61 [] (.pick (.t 51) (.t 60) (.c (.bool false)))) (.c (.q 9 [] (.mv (.t 61))) .nil)))))))))))))) k e w := rfl
def t_iRunsIn_5 : X := (.reg [0, 1, 6, 7, 8, 9, 10] (.c (.q 36 [] (.mv (.t 10))) (.c (.q 37 [] (.bin .add (.t 36) (.c (.int .i64 1)))) (.c (.q 10 [] (.mv (.t 37))) .nil))))
theorem u_iRunsIn_5 (P : Program) (k : KT) (e : Env) (w : World) : vcK P t_iRunsIn_5 k e w = vcK P (.reg [0, 1, 6, 7, 8, 9, 10] (.c (.q 36 [] (.mv (.t 10))) (.c (.q 37 [] (.bin .add (.t 36) (.c (.int .i64 1)))) (.c (.q 10 [] (.mv (.t 37))) .nil)))) k e w := rfl
def t_iRunsIn_6 : X := (.seq (.blk 3 (.seq (.drw [0, 1, 6, 7, 8, 9, 10] (.c (.q 38 [] (.mv (.t 8))) (.c (.q 39 [] (.mv (.t 38))) (.c (.q 40 [(39, true)] (.mv (.t 0))) (.c (.q 41 [(39, true)] (.mv (.t 10))) (.c (.q 42 [(39, true)] (.idx (.t 40) (.t 41))) (.c (.q 43 [(39, true)] (.mv (.t 0))) (.c (.q 44 [(39, true)] (.mv (.t 10))) (.c (.q 45 [(39, true)] (.bin .sub (.t 44) (.c (.int .i64 1)))) (.c (.q 46 [(39, true)] (.idx (.t 43) (.t 45))) (.c (.q 47 [(39, true)] (.bin .add (.t 46) (.c (.int .u8 1)))) (.c (.q 48 [(39, true)] (.bin .eql (.t 42) (.t 47))) (.c (.q 49 [] (.pick (.t 39) (.t 48) (.c (.bool false)))) (.c (.q 8 [] (.mv (.t 49))) .nil)))))))))))))) t_iRunsIn_4)) t_iRunsIn_5)
theorem u_iRunsIn_6 (P : Program) (k : KT) (e : Env) (w : World) : vcK P t_iRunsIn_6 k e w = vcK P (.seq (.blk 3 (.seq (.drw [0, 1, 6, 7, 8, 9, 10] (.c (.q 38 [] (.mv (.t 8))) (.c (.q 39 [] (.mv (.t 38))) (.c (.q 40 [(39, true)] (.mv (.t 0))) (.c (.q 41 [(39, true)] (.mv (.t 10))) (.c (.q 42 [(39, true)] (.idx (.t 40) (.t 41))) (.c (.q 43 [(39, true)] (.mv (.t 0))) (.c (.q 44 [(39, true)] (.mv (.t 10))) (.c (.q 45 [(39, true)] (.bin .sub (.t 44) (.c (.int .i64 1)))) (.c (.q 46 [(39, true)] (.idx (.t 43) (.t 45))) (.c (.q 47 [(39, true)] (.bin .add (.t 46) (.c (.int .u8 1)))) (.c (.q 48 [(39, true)] (.bin .eql (.t 42) (.t 47))) (.c (.q 49 [] (.pick (.t 39) (.t 48) (.c (.bool false)))) (.c (.q 8 [] (.mv (.t 49))) .nil)))))))))))))) t_iRunsIn_4)) t_iRunsIn_5) k e w := rfl
def t_iRunsIn_7 : X := (.seq (.seq (.reg [0, 1, 6, 7, 8, 9, 10, 35] (.c (.q 31 [] (.mv (.t 10))) (.c (.q 32 [] (.mv (.t 7))) (.c (.q 33 [] (.mv (.t 1))) (.c (.q 34 [] (.bin .add (.t 32) (.t 33))) (.c (.q 35 [] (.bin .lss (.t 31) (.t 34))) .nil)))))) t_iRunsIn_3) t_iRunsIn_6)
theorem u_iRunsIn_7 (P : Program) (k : KT) (e : Env) (w : World) : vcK P t_iRunsIn_7 k e w = vcK P (.seq (.seq (.reg [0, 1, 6, 7, 8, 9, 10, 35] (.c (.q 31 [] (.mv (.t 10))) (.c (.q 32 [] (.mv (.t 7))) (.c (.q 33 [] (.mv (.t 1))) (.c (.q 34 [] (.bin .add (.t 32) (.t 33))) (.c (.q 35 [] (.bin .lss (.t 31) (.t 34))) .nil)))))) t_iRunsIn_3) t_iRunsIn_6) k e w := rfl
def t_iRunsIn_8 : X := (.blk 2 (.loop [8, 9, 10] [0, 1, 6, 7] t_iRunsIn_7))
theorem u_iRunsIn_8 (P : Program) (k : KT) (e : Env) (w : World) : vcK P t_iRunsIn_8 k e w = vcK P (.blk 2 (.loop [8, 9, 10] [0, 1, 6, 7] t_iRunsIn_7)) k e w := rfl
def t_iRunsIn_9 : X := (.cond (.t 65) (.reg [0, 1, 6, 7] (.c (.q 66 [] (.mv (.t 6))) (.c (.q 67 [] (.bin .add (.t 66) (.c (.int .i64 1)))) (.c (.q 6 [] (.mv (.t 67))) .nil)))) .skip)
theorem u_iRunsIn_9 (P : Program) (k : KT) (e : Env) (w : World) : vcK P t_iRunsIn_9 k e w = vcK P (.cond (.t 65) (.reg [0, 1, 6, 7] (.c (.q 66 [] (.mv (.t 6))) (.c (.q 67 [] (.bin .add (.t 66) (.c (.int .i64 1)))) (.c (.q 6 [] (.mv (.t 67))) .nil)))) .skip) k e w := rfl
def t_iRunsIn_10 : X := (.seq (.reg [0, 1, 6, 7, 65] (.c (.q 62 [] (.mv (.t 8))) (.c (.q 63 [] (.mv (.t 62))) (.c (.q 64 [(63, false)] (.mv (.t 9))) (.c (.q 65 [] (.pick (.t 63) (.c (.bool true)) (.t 64))) .nil))))) t_iRunsIn_9)
theorem u_iRunsIn_10 (P : Program) (k : KT) (e : Env) (w : World) : vcK P t_iRunsIn_10 k e w = vcK P (.seq (.reg [0, 1, 6, 7, 65] (.c (.q 62 [] (.mv (.t 8))) (.c (.q 63 [] (.mv (.t 62))) (.c (.q 64 [(63, false)] (.mv (.t 9))) (.c (.q 65 [] (.pick (.t 63) (.c (.bool true)) (.t 64))) .nil))))) t_iRunsIn_9) k e w := rfl
def t_iRunsIn_11 : X := (.seq (.seq (.reg [0, 1, 6, 7, 8, 9, 10] (.c (.q 29 [] (.mv (.t 7))) (.c (.q 30 [] (.bin .add (.t 29) (.c (.int .i64 1)))) (.c (.q 10 [] (.mv (.t 30))) .nil)))) t_iRunsIn_8) t_iRunsIn_10)
theorem u_iRunsIn_11 (P : Program) (k : KT) (e : Env) (w : World) : vcK P t_iRunsIn_11 k e w = vcK P (.seq (.seq (.reg [0, 1, 6, 7, 8, 9, 10] (.c (.q 29 [] (.mv (.t 7))) (.c (.q 30 [] (.bin .add (.t 29) (.c (.int .i64 1)))) (.c (.q 10 [] (.mv (.t 30))) .nil)))) t_iRunsIn_8) t_iRunsIn_10) k e w := rfl
def t_iRunsIn_12 : X := (.reg [0, 1, 6, 7] (.c (.q 27 [] (.mv (.t 7))) (.c (.q 28 [] (.bin .add (.t 27) (.c (.int .i64 1)))) (.c (.q 7 [] (.mv (.t 28))) .nil))))
theorem u_iRunsIn_12 (P : Program) (k : KT) (e : Env) (w : World) : vcK P t_iRunsIn_12 k e w = vcK P (.reg [0, 1, 6, 7] (.c (.q 27 [] (.mv (.t 7))) (.c (.q 28 [] (.bin .add (.t 27) (.c (.int .i64 1)))) (.c (.q 7 [] (.mv (.t 28))) .nil)))) k e w := rfl
def t_iRunsIn_13 : X := (.seq (.blk 1 (.seq (.reg [0, 1, 6, 7, 8, 9] (.c (.q 8 [] (.mv (.c (.bool true)))) (.c (.q 9 [] (.mv (.c (.bool true)))) .nil))) t_iRunsIn_11)) t_iRunsIn_12)
theorem u_iRunsIn_13 (P : Program) (k : KT) (e : Env) (w : World) : vcK P t_iRunsIn_13 k e w = vcK P (.seq (.blk 1 (.seq (.reg [0, 1, 6, 7, 8, 9] (.c (.q 8 [] (.mv (.c (.bool true)))) (.c (.q 9 [] (.mv (.c (.bool true)))) .nil))) t_iRunsIn_11)) t_iRunsIn_12) k e w := rfl
def t_iRunsIn_14 : X := (.seq (.seq (.reg [0, 1, 6, 7, 26] (.c (.q 21 [] (.mv (.t 7))) (.c (.q 22 [] (.mv (.t 1))) (.c (.q 23 [] (.bin .add (.t 21) (.t 22))) (.c (.q 24 [] (.mv (.t 0))) (.c (.q 25 [] (.len (.t 24))) (.c (.q 26 [] (.bin .leq (.t 23) (.t 25))) .nil))))))) t_iRunsIn_2) t_iRunsIn_13)
theorem u_iRunsIn_14 (P : Program) (k : KT) (e : Env) (w : World) : vcK P t_iRunsIn_14 k e w = vcK P (.seq (.seq (.reg [0, 1, 6, 7, 26] (.c (.q 21 [] (.mv (.t 7))) (.c (.q 22 [] (.mv (.t 1))) (.c (.q 23 [] (.bin .add (.t 21) (.t 22))) (.c (.q 24 [] (.mv (.t 0))) (.c (.q 25 [] (.len (.t 24))) (.c (.q 26 [] (.bin .leq (.t 23) (.t 25))) .nil))))))) t_iRunsIn_2) t_iRunsIn_13) k e w := rfl
def t_iRunsIn_15 : X := (.blk 0 (.loop [6, 7] [0, 1] t_iRunsIn_14))
theorem u_iRunsIn_15 (P : Program) (k : KT) (e : Env) (w : World) : vcK P t_iRunsIn_15 k e w = vcK P (.blk 0 (.loop [6, 7] [0, 1] t_iRunsIn_14)) k e w := rfl
def t_iRunsIn_16 : X := (.seq (.reg [4, 5] (.c (.q 68 [] (.mv (.t 6))) (.c (.q 4 [] (.mv (.t 68))) (.c (.q 5 [] (.mv (.c (.bool true)))) .nil)))) .ret)
theorem u_iRunsIn_16 (P : Program) (k : KT) (e : Env) (w : World) : vcK P t_iRunsIn_16 k e w = vcK P (.seq (.reg [4, 5] (.c (.q 68 [] (.mv (.t 6))) (.c (.q 4 [] (.mv (.t 68))) (.c (.q 5 [] (.mv (.c (.bool true)))) .nil)))) .ret) k e w := rfl
def t_iRunsIn_17 : X := (.seq (.seq (.reg [0, 1, 6, 7] (.c (.q 7 [] (.mv (.c (.int .i64 0)))) .nil)) t_iRunsIn_15) t_iRunsIn_16)
theorem u_iRunsIn_17 (P : Program) (k : KT) (e : Env) (w : World) : vcK P t_iRunsIn_17 k e w = vcK P (.seq (.seq (.reg [0, 1, 6, 7] (.c (.q 7 [] (.mv (.c (.int .i64 0)))) .nil)) t_iRunsIn_15) t_iRunsIn_16) k e w := rfl
def t_iRunsIn_18 : X := (.seq (.reg [0, 1, 6] (.c (.q 6 [] (.mv (.c (.int .i64 0)))) .nil)) t_iRunsIn_17)
theorem u_iRunsIn_18 (P : Program) (k : KT) (e : Env) (w : World) : vcK P t_iRunsIn_18 k e w = vcK P (.seq (.reg [0, 1, 6] (.c (.q 6 [] (.mv (.c (.int .i64 0)))) .nil)) t_iRunsIn_17) k e w := rfl
def t_iRunsIn_19 : X := (.seq (.seq (.reg [0, 1, 20] (.c (.q 11 [] (.mv (.t 0))) (.c (.e (some 12) [] (.call false 24 [(.t 11)])) (.c (.q 13 [] (.not (.t 12))) (.c (.q 14 [] (.mv (.t 13))) (.c (.q 15 [(14, false)] (.mv (.t 1))) (.c (.q 16 [(14, false)] (.mv (.t 0))) (.c (.q 17 [(14, false)] (.len (.t 16))) (.c (.e (some 18) [(14, false)] (.call false 90 [(.t 15), (.c (.int .i64 2)), (.t 17)])) (.c (.q 19 [(14, false)] (.not (.t 18))) (.c (.q 20 [] (.pick (.t 14) (.c (.bool true)) (.t 19))) .nil))))))))))) t_iRunsIn_1) t_iRunsIn_18)
theorem u_iRunsIn_19 (P : Program) (k : KT) (e : Env) (w : World) : vcK P t_iRunsIn_19 k e w = vcK P (.seq (.seq (.reg [0, 1, 20] (.c (.q 11 [] (.mv (.t 0))) (.c (.e (some 12) [] (.call false 24 [(.t 11)])) (.c (.q 13 [] (.not (.t 12))) (.c (.q 14 [] (.mv (.t 13))) (.c (.q 15 [(14, false)] (.mv (.t 1))) (.c (.q 16 [(14, false)] (.mv (.t 0))) (.c (.q 17 [(14, false)] (.len (.t 16))) (.c (.e (some 18) [(14, false)] (.call false 90 [(.t 15), (.c (.int .i64 2)), (.t 17)])) (.c (.q 19 [(14, false)] (.not (.t 18))) (.c (.q 20 [] (.pick (.t 14) (.c (.bool true)) (.t 19))) .nil))))))))))) t_iRunsIn_1) t_iRunsIn_18) k e w := rfl
def x_iRunsIn : X := (.seq (.reg [0, 1] (.c (.q 4 [] (.mv (.c (.int .i64 0)))) (.c (.q 5 [] (.mv (.c (.bool false)))) .nil))) t_iRunsIn_19)
theorem u_iRunsIn (P : Program) (k : KT) (e : Env) (w : World) : vcK P x_iRunsIn k e w = vcK P (.seq (.reg [0, 1] (.c (.q 4 [] (.mv (.c (.int .i64 0)))) (.c (.q 5 [] (.mv (.c (.bool false)))) .nil))) t_iRunsIn_19) k e w := rfl
def r_iRunsIn : List XO := [(.mv (.t 4)), (.mv (.t 5))]
theorem c_iRunsIn : convF Try.prog [95, 96, 97, 107, 117, 118, 128, 129, 134, 144, 145, 153, 156, 174, 175, 182] Try.f69 [([0, 1], []), ([0, 1, 20], []), ([4, 5], []), ([0, 1, 6], []), ([0, 1, 6, 7], []), ([6, 7], [0, 1]), ([0, 1, 6, 7, 26], []), ([0, 1, 6, 7, 8, 9], []), ([0, 1, 6, 7, 8, 9, 10], []), ([8, 9, 10], [0, 1, 6, 7]), ([0, 1, 6, 7, 8, 9, 10, 35], []), ([0, 1, 6, 7, 8, 9, 10], []), ([0, 1, 6, 7, 8, 9, 10], []), ([0, 1, 6, 7, 8, 9, 10], []), ([0, 1, 6, 7, 65], []), ([0, 1, 6, 7], []), ([0, 1, 6, 7], []), ([4, 5], [])] = some (x_iRunsIn, r_iRunsIn) := by kernel_rfl
def us_iRunsIn := And.intro @u_iRunsIn (And.intro @u_iRunsIn_1 (And.intro @u_iRunsIn_2 (And.intro @u_iRunsIn_3 (And.intro @u_iRunsIn_4 (And.intro @u_iRunsIn_5 (And.intro @u_iRunsIn_6 (And.intro @u_iRunsIn_7 (And.intro @u_iRunsIn_8 (And.intro @u_iRunsIn_9 (And.intro @u_iRunsIn_10 (And.intro @u_iRunsIn_11 (And.intro @u_iRunsIn_12 (And.intro @u_iRunsIn_13 (And.intro @u_iRunsIn_14 (And.intro @u_iRunsIn_15 (And.intro @u_iRunsIn_16 (And.intro @u_iRunsIn_17 (And.intro @u_iRunsIn_18 @u_iRunsIn_19))))))))))))))))))
def t_ifits_1 : X := (.cond (.t 6) (.seq (.reg [4] (.c (.q 7 [] (.mv (.t 1))) (.c (.q 8 [] (.bin .eql (.t 7) (.s []))) (.c (.q 4 [] (.mv (.t 8))) .nil)))) .ret) .skip)
theorem u_ifits_1 (P : Program) (k : KT) (e : Env) (w : World) : vcK P t_ifits_1 k e w = vcK P (.cond (.t 6) (.seq (.reg [4] (.c (.q 7 [] (.mv (.t 1))) (.c (.q 8 [] (.bin .eql (.t 7) (.s []))) (.c (.q 4 [] (.mv (.t 8))) .nil)))) .ret) .skip) k e w := rfl
def t_ifits_2 : X := (.cond (.t 11) (.seq (.reg [4] (.c (.q 12 [] (.mv (.t 0))) (.c (.q 13 [] (.sub (.t 12) (some (.c (.int .i64 1))) none)) (.c (.q 14 [] (.mv (.t 1))) (.c (.e (some 15) [] (.call false 93 [(.t 13), (.t 14)])) (.c (.q 16 [] (.mv (.t 15))) (.c (.q 17 [(16, false)] (.mv (.t 1))) (.c (.q 18 [(16, false)] (.bin .neq (.t 17) (.s []))) (.c (.q 19 [(16, false)] (.mv (.t 18))) (.c (.q 20 [(19, true), (16, false)] (.mv (.t 0))) (.c (.q 21 [(19, true), (16, false)] (.mv (.t 1))) (.c (.q 22 [(19, true), (16, false)] (.sub (.t 21) (some (.c (.int .i64 1))) none)) (.c (.e (some 23) [(19, true), (16, false)] (.call false 93 [(.t 20), (.t 22)])) (.c (.q 24 [(16, false)] (.pick (.t 19) (.t 23) (.c (.bool false)))) (.c (.q 25 [] (.pick (.t 16) (.c (.bool true)) (.t 24))) (.c (.q 4 [] (.mv (.t 25))) .nil)))))))))))))))) .ret) .skip)
theorem u_ifits_2 (P : Program) (k : KT) (e : Env) (w : World) : vcK P t_ifits_2 k e w = vcK P (.cond (.t 11) (.seq (.reg [4] (.c (.q 12 [] (.mv (.t 0))) (.c (.q 13 [] (.sub (.t 12) (some (.c (.int .i64 1))) none)) (.c (.q 14 [] (.mv (.t 1))) (.c (.e (some 15) [] (.call false 93 [(.t 13), (.t 14)])) (.c (.q 16 [] (.mv (.t 15))) (.c (.q 17 [(16, false)] (.mv (.t 1))) (.c (.q 18 [(16, false)] (.bin .neq (.t 17) (.s []))) (.c (.q 19 [(16, false)] (.mv (.t 18))) (.c (.q 20 [(19, true), (16, false)] (.mv (.t 0))) (.c (.q 21 [(19, true), (16, false)] (.mv (.t 1))) (.c (.q 22 [(19, true), (16, false)] (.sub (.t 21) (some (.c (.int .i64 1))) none)) (.c (.e (some 23) [(19, true), (16, false)] (.call false 93 [(.t 20), (.t 22)])) (.c (.q 24 [(16, false)] (.pick (.t 19) (.t 23) (.c (.bool false)))) (.c (.q 25 [] (.pick (.t 16) (.c (.bool true)) (.t 24))) (.c (.q 4 [] (.mv (.t 25))) .nil)))))))))))))))) .ret) .skip) k e w := rfl
def t_ifits_3 : X := (.seq (.drw [4] (.c (.q 26 [] (.mv (.t 1))) (.c (.q 27 [] (.bin .neq (.t 26) (.s []))) (.c (.q 28 [] (.mv (.t 27))) (.c (.q 29 [(28, true)] (.mv (.t 0))) (.c (.q 30 [(28, true)] (.idx (.t 29) (.c (.int .i64 0)))) (.c (.q 31 [(28, true)] (.bin .eql (.t 30) (.c (.int .u8 63)))) (.c (.q 32 [(28, true)] (.mv (.t 31))) (.c (.q 33 [(32, false), (28, true)] (.mv (.t 0))) (.c (.q 34 [(32, false), (28, true)] (.idx (.t 33) (.c (.int .i64 0)))) (.c (.q 35 [(32, false), (28, true)] (.mv (.t 1))) (.c (.q 36 [(32, false), (28, true)] (.idx (.t 35) (.c (.int .i64 0)))) (.c (.q 37 [(32, false), (28, true)] (.bin .eql (.t 34) (.t 36))) (.c (.q 38 [(28, true)] (.pick (.t 32) (.c (.bool true)) (.t 37))) (.c (.q 39 [] (.pick (.t 28) (.t 38) (.c (.bool false)))) (.c (.q 40 [] (.mv (.t 39))) (.c (.q 41 [(40, true)] (.mv (.t 0))) (.c (.q 42 [(40, true)] (.sub (.t 41) (some (.c (.int .i64 1))) none)) (.c (.q 43 [(40, true)] (.mv (.t 1))) (.c (.q 44 [(40, true)] (.sub (.t 43) (some (.c (.int .i64 1))) none)) (.c (.e (some 45) [(40, true)] (.call false 93 [(.t 42), (.t 44)])) (.c (.q 46 [] (.pick (.t 40) (.t 45) (.c (.bool false)))) (.c (.q 4 [] (.mv (.t 46))) .nil))))))))))))))))))))))) .ret)
theorem u_ifits_3 (P : Program) (k : KT) (e : Env) (w : World) : vcK P t_ifits_3 k e w = vcK P (.seq (.drw [4] (.c (.q 26 [] (.mv (.t 1))) (.c (.q 27 [] (.bin .neq (.t 26) (.s []))) (.c (.q 28 [] (.mv (.t 27))) (.c (.q 29 [(28, true)] (.mv (.t 0))) (.c (.q 30 [(28, true)] (.idx (.t 29) (.c (.int .i64 0)))) (.c (.q 31 [(28, true)] (.bin .eql (.t 30) (.c (.int .u8 63)))) (.c (.q 32 [(28, true)] (.mv (.t 31))) (.c (.q 33 [(32, false), (28, true)] (.mv (.t 0))) (.c (.q 34 [(32, false), (28, true)] (.idx (.t 33) (.c (.int .i64 0)))) (.c (.q 35 [(32, false), (28, true)] (.mv (.t 1))) (.c (.q 36 [(32, false), (28, true)] (.idx (.t 35) (.c (.int .i64 0)))) (.c (.q 37 [(32, false), (28, true)] (.bin .eql (.t 34) (.t 36))) (.c (.q 38 [(28, true)] (.pick (.t 32) (.c (.bool true)) (.t 37))) (.c (.q 39 [] (.pick (.t 28) (.t 38) (.c (.bool false)))) (.c (.q 40 [] (.mv (.t 39))) (.c (.q 41 [(40, true)] (.mv (.t 0))) (.c (.q 42 [(40, true)] (.sub (.t 41) (some (.c (.int .i64 1))) none)) (.c (.q 43 [(40, true)] (.mv (.t 1))) (.c (.q 44 [(40, true)] (.sub (.t 43) (some (.c (.int .i64 1))) none)) (.c (.e (some 45) [(40, true)] (.call false 93 [(.t 42), (.t 44)])) (.c (.q 46 [] (.pick (.t 40) (.t 45) (.c (.bool false)))) (.c (.q 4 [] (.mv (.t 46))) .nil))))))))))))))))))))))) .ret) k e w := rfl
def t_ifits_4 : X := (.seq (.seq (.reg [0, 1, 11] (.c (.q 9 [] (.mv (.t 0))) (.c (.q 10 [] (.idx (.t 9) (.c (.int .i64 0)))) (.c (.q 11 [] (.bin .eql (.t 10) (.c (.int .u8 42)))) .nil)))) t_ifits_2) t_ifits_3)
theorem u_ifits_4 (P : Program) (k : KT) (e : Env) (w : World) : vcK P t_ifits_4 k e w = vcK P (.seq (.seq (.reg [0, 1, 11] (.c (.q 9 [] (.mv (.t 0))) (.c (.q 10 [] (.idx (.t 9) (.c (.int .i64 0)))) (.c (.q 11 [] (.bin .eql (.t 10) (.c (.int .u8 42)))) .nil)))) t_ifits_2) t_ifits_3) k e w := rfl
def t_ifits_5 : X := (.seq (.seq (.reg [0, 1, 6] (.c (.q 5 [] (.mv (.t 0))) (.c (.q 6 [] (.bin .eql (.t 5) (.s []))) .nil))) t_ifits_1) t_ifits_4)
theorem u_ifits_5 (P : Program) (k : KT) (e : Env) (w : World) : vcK P t_ifits_5 k e w = vcK P (.seq (.seq (.reg [0, 1, 6] (.c (.q 5 [] (.mv (.t 0))) (.c (.q 6 [] (.bin .eql (.t 5) (.s []))) .nil))) t_ifits_1) t_ifits_4) k e w := rfl
def x_ifits : X := (.seq (.reg [0, 1] (.c (.q 4 [] (.mv (.c (.bool false)))) .nil)) t_ifits_5)
theorem u_ifits (P : Program) (k : KT) (e : Env) (w : World) : vcK P x_ifits k e w = vcK P (.seq (.reg [0, 1] (.c (.q 4 [] (.mv (.c (.bool false)))) .nil)) t_ifits_5) k e w := rfl
def r_ifits : List XO := [(.mv (.t 4))]
theorem c_ifits : convF Try.prog [95, 96, 97, 107, 117, 118, 128, 129, 134, 144, 145, 153, 156, 174, 175, 182] Try.f93 [([0, 1], []), ([0, 1, 6], []), ([4], []), ([0, 1, 11], []), ([4], []), ([4], [])] = some (x_ifits, r_ifits) := by kernel_rfl
def us_ifits := And.intro @u_ifits (And.intro @u_ifits_1 (And.intro @u_ifits_2 (And.intro @u_ifits_3 (And.intro @u_ifits_4 @u_ifits_5))))
def t_sl16Fits_1 : X := (.cond (.t 10) (.seq (.reg [4] (.c (.q 14 [] (.mv (.t 0))) (.c (.q 15 [] (.sub (.t 14) (some (.c (.int .i64 1))) none)) (.c (.q 16 [] (.mv (.t 1))) (.c (.e (some 17) [] (.call false 89 [(.t 15), (.t 16)])) (.c (.q 18 [] (.mv (.t 17))) (.c (.q 19 [(18, false)] (.mv (.t 1))) (.c (.q 20 [(18, false)] (.bin .neq (.t 19) (.s []))) (.c (.q 21 [(18, false)] (.mv (.t 20))) (.c (.q 22 [(21, true), (18, false)] (.mv (.t 0))) (.c (.q 23 [(21, true), (18, false)] (.mv (.t 1))) (.c (.q 24 [(21, true), (18, false)] (.sub (.t 23) (some (.c (.int .i64 1))) none)) (.c (.e (some 25) [(21, true), (18, false)] (.call false 89 [(.t 22), (.t 24)])) (.c (.q 26 [(18, false)] (.pick (.t 21) (.t 25) (.c (.bool false)))) (.c (.q 27 [] (.pick (.t 18) (.c (.bool true)) (.t 26))) (.c (.q 4 [] (.mv (.t 27))) .nil)))))))))))))))) .ret) .skip)
theorem u_sl16Fits_1 (P : Program) (k : KT) (e : Env) (w : World) : vcK P t_sl16Fits_1 k e w = vcK P (.cond (.t 10) (.seq (.reg [4] (.c (.q 14 [] (.mv (.t 0))) (.c (.q 15 [] (.sub (.t 14) (some (.c (.int .i64 1))) none)) (.c (.q 16 [] (.mv (.t 1))) (.c (.e (some 17) [] (.call false 89 [(.t 15), (.t 16)])) (.c (.q 18 [] (.mv (.t 17))) (.c (.q 19 [(18, false)] (.mv (.t 1))) (.c (.q 20 [(18, false)] (.bin .neq (.t 19) (.s []))) (.c (.q 21 [(18, false)] (.mv (.t 20))) (.c (.q 22 [(21, true), (18, false)] (.mv (.t 0))) (.c (.q 23 [(21, true), (18, false)] (.mv (.t 1))) (.c (.q 24 [(21, true), (18, false)] (.sub (.t 23) (some (.c (.int .i64 1))) none)) (.c (.e (some 25) [(21, true), (18, false)] (.call false 89 [(.t 22), (.t 24)])) (.c (.q 26 [(18, false)] (.pick (.t 21) (.t 25) (.c (.bool false)))) (.c (.q 27 [] (.pick (.t 18) (.c (.bool true)) (.t 26))) (.c (.q 4 [] (.mv (.t 27))) .nil)))))))))))))))) .ret) .skip) k e w := rfl
def t_sl16Fits_2 : X := (.cond (.t 5) (.seq (.reg [4] (.c (.q 8 [] (.mv (.t 1))) (.c (.q 9 [] (.bin .eql (.t 8) (.s []))) (.c (.q 4 [] (.mv (.t 9))) .nil)))) .ret) (.seq (.reg [0, 1, 10] (.c (.q 11 [] (.mv (.t 0))) (.c (.q 12 [] (.idx (.t 11) (.c (.int .i64 0)))) (.c (.q 13 [] (.bin .eql (.t 12) (.c (.int .u8 42)))) (.c (.q 10 [] (.mv (.t 13))) .nil))))) t_sl16Fits_1))
theorem u_sl16Fits_2 (P : Program) (k : KT) (e : Env) (w : World) : vcK P t_sl16Fits_2 k e w = vcK P (.cond (.t 5) (.seq (.reg [4] (.c (.q 8 [] (.mv (.t 1))) (.c (.q 9 [] (.bin .eql (.t 8) (.s []))) (.c (.q 4 [] (.mv (.t 9))) .nil)))) .ret) (.seq (.reg [0, 1, 10] (.c (.q 11 [] (.mv (.t 0))) (.c (.q 12 [] (.idx (.t 11) (.c (.int .i64 0)))) (.c (.q 13 [] (.bin .eql (.t 12) (.c (.int .u8 42)))) (.c (.q 10 [] (.mv (.t 13))) .nil))))) t_sl16Fits_1)) k e w := rfl
def t_sl16Fits_3 : X := (.seq (.drw [4] (.c (.q 28 [] (.mv (.t 1))) (.c (.q 29 [] (.bin .neq (.t 28) (.s []))) (.c (.q 30 [] (.mv (.t 29))) (.c (.q 31 [(30, true)] (.mv (.t 0))) (.c (.q 32 [(30, true)] (.idx (.t 31) (.c (.int .i64 0)))) (.c (.q 33 [(30, true)] (.bin .eql (.t 32) (.c (.int .u8 63)))) (.c (.q 34 [(30, true)] (.mv (.t 33))) (.c (.q 35 [(34, false), (30, true)] (.mv (.t 0))) (.c (.q 36 [(34, false), (30, true)] (.idx (.t 35) (.c (.int .i64 0)))) (.c (.q 37 [(34, false), (30, true)] (.mv (.t 1))) (.c (.q 38 [(34, false), (30, true)] (.idx (.t 37) (.c (.int .i64 0)))) (.c (.q 39 [(34, false), (30, true)] (.bin .eql (.t 36) (.t 38))) (.c (.q 40 [(30, true)] (.pick (.t 34) (.c (.bool true)) (.t 39))) (.c (.q 41 [] (.pick (.t 30) (.t 40) (.c (.bool false)))) (.c (.q 42 [] (.mv (.t 41))) (.c (.q 43 [(42, true)] (.mv (.t 0))) (.c (.q 44 [(42, true)] (.sub (.t 43) (some (.c (.int .i64 1))) none)) (.c (.q 45 [(42, true)] (.mv (.t 1))) (.c (.q 46 [(42, true)] (.sub (.t 45) (some (.c (.int .i64 1))) none)) (.c (.e (some 47) [(42, true)] (.call false 89 [(.t 44), (.t 46)])) (.c (.q 48 [] (.pick (.t 42) (.t 47) (.c (.bool false)))) (.c (.q 4 [] (.mv (.t 48))) .nil))))))))))))))))))))))) .ret)
theorem u_sl16Fits_3 (P : Program) (k : KT) (e : Env) (w : World) : vcK P t_sl16Fits_3 k e w = vcK P (.seq (.drw [4] (.c (.q 28 [] (.mv (.t 1))) (.c (.q 29 [] (.bin .neq (.t 28) (.s []))) (.c (.q 30 [] (.mv (.t 29))) (.c (.q 31 [(30, true)] (.mv (.t 0))) (.c (.q 32 [(30, true)] (.idx (.t 31) (.c (.int .i64 0)))) (.c (.q 33 [(30, true)] (.bin .eql (.t 32) (.c (.int .u8 63)))) (.c (.q 34 [(30, true)] (.mv (.t 33))) (.c (.q 35 [(34, false), (30, true)] (.mv (.t 0))) (.c (.q 36 [(34, false), (30, true)] (.idx (.t 35) (.c (.int .i64 0)))) (.c (.q 37 [(34, false), (30, true)] (.mv (.t 1))) (.c (.q 38 [(34, false), (30, true)] (.idx (.t 37) (.c (.int .i64 0)))) (.c (.q 39 [(34, false), (30, true)] (.bin .eql (.t 36) (.t 38))) (.c (.q 40 [(30, true)] (.pick (.t 34) (.c (.bool true)) (.t 39))) (.c (.q 41 [] (.pick (.t 30) (.t 40) (.c (.bool false)))) (.c (.q 42 [] (.mv (.t 41))) (.c (.q 43 [(42, true)] (.mv (.t 0))) (.c (.q 44 [(42, true)] (.sub (.t 43) (some (.c (.int .i64 1))) none)) (.c (.q 45 [(42, true)] (.mv (.t 1))) (.c (.q 46 [(42, true)] (.sub (.t 45) (some (.c (.int .i64 1))) none)) (.c (.e (some 47) [(42, true)] (.call false 89 [(.t 44), (.t 46)])) (.c (.q 48 [] (.pick (.t 42) (.t 47) (.c (.bool false)))) (.c (.q 4 [] (.mv (.t 48))) .nil))))))))))))))))))))))) .ret) k e w := rfl
def t_sl16Fits_4 : X := (.seq (.blk 0 (.seq (.reg [0, 1, 5] (.c (.q 6 [] (.mv (.t 0))) (.c (.q 7 [] (.bin .eql (.t 6) (.s []))) (.c (.q 5 [] (.mv (.t 7))) .nil)))) t_sl16Fits_2)) t_sl16Fits_3)
theorem u_sl16Fits_4 (P : Program) (k : KT) (e : Env) (w : World) : vcK P t_sl16Fits_4 k e w = vcK P (.seq (.blk 0 (.seq (.reg [0, 1, 5] (.c (.q 6 [] (.mv (.t 0))) (.c (.q 7 [] (.bin .eql (.t 6) (.s []))) (.c (.q 5 [] (.mv (.t 7))) .nil)))) t_sl16Fits_2)) t_sl16Fits_3) k e w := rfl
def x_sl16Fits : X := (.seq (.reg [0, 1] (.c (.q 4 [] (.mv (.c (.bool false)))) .nil)) t_sl16Fits_4)
theorem u_sl16Fits (P : Program) (k : KT) (e : Env) (w : World) : vcK P x_sl16Fits k e w = vcK P (.seq (.reg [0, 1] (.c (.q 4 [] (.mv (.c (.bool false)))) .nil)) t_sl16Fits_4) k e w := rfl
def r_sl16Fits : List XO := [(.mv (.t 4))]
theorem c_sl16Fits : convF Try.prog [95, 96, 97, 107, 117, 118, 128, 129, 134, 144, 145, 153, 156, 174, 175, 182] Try.f89 [([0, 1], []), ([0, 1, 5], []), ([4], []), ([0, 1, 10], []), ([4], []), ([4], [])] = some (x_sl16Fits, r_sl16Fits) := by kernel_rfl
def us_sl16Fits := And.intro @u_sl16Fits (And.intro @u_sl16Fits_1 (And.intro @u_sl16Fits_2 (And.intro @u_sl16Fits_3 @u_sl16Fits_4)))
def t_iFitsRow_1 : X := (.cond (.t 13) (.seq (.reg [4, 5] (.c (.q 4 [] (.mv (.c (.bool false)))) (.c (.q 5 [] (.mv (.c (.bool false)))) .nil))) .ret) .skip)
theorem u_iFitsRow_1 (P : Program) (k : KT) (e : Env) (w : World) : vcK P t_iFitsRow_1 k e w = vcK P (.cond (.t 13) (.seq (.reg [4, 5] (.c (.q 4 [] (.mv (.c (.bool false)))) (.c (.q 5 [] (.mv (.c (.bool false)))) .nil))) .ret) .skip) k e w := rfl
def t_iFitsRow_2 : X := (.seq (.reg [4, 5] (.c (.q 14 [] (.mv (.t 0))) (.c (.q 15 [] (.mv (.t 1))) (.c (.e (some 16) [] (.call false 93 [(.t 14), (.t 15)])) (.c (.q 4 [] (.mv (.t 16))) (.c (.q 5 [] (.mv (.c (.bool true)))) .nil)))))) .ret)
theorem u_iFitsRow_2 (P : Program) (k : KT) (e : Env) (w : World) : vcK P t_iFitsRow_2 k e w = vcK P (.seq (.reg [4, 5] (.c (.q 14 [] (.mv (.t 0))) (.c (.q 15 [] (.mv (.t 1))) (.c (.e (some 16) [] (.call false 93 [(.t 14), (.t 15)])) (.c (.q 4 [] (.mv (.t 16))) (.c (.q 5 [] (.mv (.c (.bool true)))) .nil)))))) .ret) k e w := rfl
def t_iFitsRow_3 : X := (.seq (.seq (.reg [0, 1, 13] (.c (.q 6 [] (.mv (.t 0))) (.c (.e (some 7) [] (.call false 72 [(.t 6)])) (.c (.q 8 [] (.not (.t 7))) (.c (.q 9 [] (.mv (.t 8))) (.c (.q 10 [(9, false)] (.mv (.t 1))) (.c (.e (some 11) [(9, false)] (.call false 24 [(.t 10)])) (.c (.q 12 [(9, false)] (.not (.t 11))) (.c (.q 13 [] (.pick (.t 9) (.c (.bool true)) (.t 12))) .nil))))))))) t_iFitsRow_1) t_iFitsRow_2)
theorem u_iFitsRow_3 (P : Program) (k : KT) (e : Env) (w : World) : vcK P t_iFitsRow_3 k e w = vcK P (.seq (.seq (.reg [0, 1, 13] (.c (.q 6 [] (.mv (.t 0))) (.c (.e (some 7) [] (.call false 72 [(.t 6)])) (.c (.q 8 [] (.not (.t 7))) (.c (.q 9 [] (.mv (.t 8))) (.c (.q 10 [(9, false)] (.mv (.t 1))) (.c (.e (some 11) [(9, false)] (.call false 24 [(.t 10)])) (.c (.q 12 [(9, false)] (.not (.t 11))) (.c (.q 13 [] (.pick (.t 9) (.c (.bool true)) (.t 12))) .nil))))))))) t_iFitsRow_1) t_iFitsRow_2) k e w := rfl
def x_iFitsRow : X := (.seq (.reg [0, 1] (.c (.q 4 [] (.mv (.c (.bool false)))) (.c (.q 5 [] (.mv (.c (.bool false)))) .nil))) t_iFitsRow_3)
theorem u_iFitsRow (P : Program) (k : KT) (e : Env) (w : World) : vcK P x_iFitsRow k e w = vcK P (.seq (.reg [0, 1] (.c (.q 4 [] (.mv (.c (.bool false)))) (.c (.q 5 [] (.mv (.c (.bool false)))) .nil))) t_iFitsRow_3) k e w := rfl
def r_iFitsRow : List XO := [(.mv (.t 4)), (.mv (.t 5))]
theorem c_iFitsRow : convF Try.prog [95, 96, 97, 107, 117, 118, 128, 129, 134, 144, 145, 153, 156, 174, 175, 182] Try.f62 [([0, 1], []), ([0, 1, 13], []), ([4, 5], []), ([4, 5], [])] = some (x_iFitsRow, r_iFitsRow) := by kernel_rfl
def us_iFitsRow := And.intro @u_iFitsRow (And.intro @u_iFitsRow_1 (And.intro @u_iFitsRow_2 @u_iFitsRow_3))
def t_sFitsRow_1 : X := (.cond (.t 13) (.seq (.reg [4, 5] (.c (.q 4 [] (.mv (.c (.bool false)))) (.c (.q 5 [] (.mv (.c (.bool false)))) .nil))) .ret) .skip)
theorem u_sFitsRow_1 (P : Program) (k : KT) (e : Env) (w : World) : vcK P t_sFitsRow_1 k e w = vcK P (.cond (.t 13) (.seq (.reg [4, 5] (.c (.q 4 [] (.mv (.c (.bool false)))) (.c (.q 5 [] (.mv (.c (.bool false)))) .nil))) .ret) .skip) k e w := rfl
def t_sFitsRow_2 : X := (.seq (.reg [4, 5] (.c (.q 14 [] (.mv (.t 0))) (.c (.q 15 [] (.mv (.t 1))) (.c (.e (some 16) [] (.call false 89 [(.t 14), (.t 15)])) (.c (.q 4 [] (.mv (.t 16))) (.c (.q 5 [] (.mv (.c (.bool true)))) .nil)))))) .ret)
theorem u_sFitsRow_2 (P : Program) (k : KT) (e : Env) (w : World) : vcK P t_sFitsRow_2 k e w = vcK P (.seq (.reg [4, 5] (.c (.q 14 [] (.mv (.t 0))) (.c (.q 15 [] (.mv (.t 1))) (.c (.e (some 16) [] (.call false 89 [(.t 14), (.t 15)])) (.c (.q 4 [] (.mv (.t 16))) (.c (.q 5 [] (.mv (.c (.bool true)))) .nil)))))) .ret) k e w := rfl
def t_sFitsRow_3 : X := (.seq (.seq (.reg [0, 1, 13] (.c (.q 6 [] (.mv (.t 0))) (.c (.e (some 7) [] (.call false 86 [(.t 6)])) (.c (.q 8 [] (.not (.t 7))) (.c (.q 9 [] (.mv (.t 8))) (.c (.q 10 [(9, false)] (.mv (.t 1))) (.c (.e (some 11) [(9, false)] (.call false 103 [(.t 10)])) (.c (.q 12 [(9, false)] (.not (.t 11))) (.c (.q 13 [] (.pick (.t 9) (.c (.bool true)) (.t 12))) .nil))))))))) t_sFitsRow_1) t_sFitsRow_2)
theorem u_sFitsRow_3 (P : Program) (k : KT) (e : Env) (w : World) : vcK P t_sFitsRow_3 k e w = vcK P (.seq (.seq (.reg [0, 1, 13] (.c (.q 6 [] (.mv (.t 0))) (.c (.e (some 7) [] (.call false 86 [(.t 6)])) (.c (.q 8 [] (.not (.t 7))) (.c (.q 9 [] (.mv (.t 8))) (.c (.q 10 [(9, false)] (.mv (.t 1))) (.c (.e (some 11) [(9, false)] (.call false 103 [(.t 10)])) (.c (.q 12 [(9, false)] (.not (.t 11))) (.c (.q 13 [] (.pick (.t 9) (.c (.bool true)) (.t 12))) .nil))))))))) t_sFitsRow_1) t_sFitsRow_2) k e w := rfl
def x_sFitsRow : X := (.seq (.reg [0, 1] (.c (.q 4 [] (.mv (.c (.bool false)))) (.c (.q 5 [] (.mv (.c (.bool false)))) .nil))) t_sFitsRow_3)
theorem u_sFitsRow (P : Program) (k : KT) (e : Env) (w : World) : vcK P x_sFitsRow k e w = vcK P (.seq (.reg [0, 1] (.c (.q 4 [] (.mv (.c (.bool false)))) (.c (.q 5 [] (.mv (.c (.bool false)))) .nil))) t_sFitsRow_3) k e w := rfl
def r_sFitsRow : List XO := [(.mv (.t 4)), (.mv (.t 5))]
theorem c_sFitsRow : convF Try.prog [95, 96, 97, 107, 117, 118, 128, 129, 134, 144, 145, 153, 156, 174, 175, 182] Try.f63 [([0, 1], []), ([0, 1, 13], []), ([4, 5], []), ([4, 5], [])] = some (x_sFitsRow, r_sFitsRow) := by kernel_rfl
def us_sFitsRow := And.intro @u_sFitsRow (And.intro @u_sFitsRow_1 (And.intro @u_sFitsRow_2 @u_sFitsRow_3))

/-- How many numbers below k have p. -/
def cnt (p : Nat → Bool) : Nat → Nat
  | 0 => 0
  | k + 1 => cnt p k + if p k then 1 else 0
theorem cnt_le (p : Nat → Bool) (k : Nat) : cnt p k ≤ k := by
  induction k with
  | zero => exact Nat.le_refl _
  | succ k ih => unfold cnt; split <;> omega
theorem cnt_t {p : Nat → Bool} {k : Nat} (h : p k = true) : ((cnt p (k + 1) : Nat) : Int) = (cnt p k : Nat) + 1 := by simp [cnt, h]
theorem cnt_f {p : Nat → Bool} {k : Nat} (h : p k = false) : cnt p (k + 1) = cnt p k := by simp [cnt, h]
/-- From place 1 to place k - 1 each byte is the one ahead of it and d. -/
def RunBy (l : List UInt8) (d : Int) (k : Nat) : Prop := ∀ i < k, 1 ≤ i → ((l.getD i 0).toNat : Int) - (l.getD (i - 1) 0).toNat = d
instance (l : List UInt8) (d : Int) (k : Nat) : Decidable (RunBy l d k) := by unfold RunBy; infer_instance
theorem RunBy.succ {l : List UInt8} {d : Int} {k : Nat} (h : RunBy l d k) (h1 : 1 ≤ k → ((l.getD k 0).toNat : Int) - (l.getD (k - 1) 0).toNat = d) : RunBy l d (k + 1) := fun i hi h2 => by
  by_cases he : i = k
  · subst he; exact h1 h2
  · exact h i (by omega) h2
theorem RunBy_succ {l : List UInt8} {d : Int} {k : Nat} : RunBy l d (k + 1) ↔ RunBy l d k ∧ (1 ≤ k → ((l.getD k 0).toNat : Int) - (l.getD (k - 1) 0).toNat = d) :=
  ⟨fun h => ⟨fun i hi h1 => h i (by omega) h1, fun h1 => h k (by omega) h1⟩, fun h => h.1.succ h.2⟩
theorem sl16Run_ok (l : List UInt8) (hl : l.length < 1000000000) (d : Int) (w : World) : Fn 135 [S l, .int .i64 d] w (fun v _ => v = .bool (decide (RunBy l d l.length))) := by
  (refine callsV_of mix Try.func135 c_sl16Run ?_; simp only [↓vsd, vsn, gW, qd, qv, ev, pick, argE, List.map_cons, List.map_nil, Option.map_some, Option.map_none, zipE, List.cons_append, List.nil_append, ne_eq, eq_self, forall_const, implies_true, if_true, if_false, reduceIte, List.cons.injEq, reduceCtorEq, Nat.reduceEqDiff, List.length_nil, List.length_cons, Nat.reduceAdd, Nat.reduceLT, List.set_cons_zero, List.set_cons_succ, ↓us_sl16Run, r_sl16Run])
  refine m_upto l.length (fun k vs w' => vs = [.int .i64 (k + 1 : Nat)] ∧ RunBy l d (k + 1) ∧ Ext w w') ⟨rfl, fun i hi h => by omega, Ext.refl _⟩ ?_
  rintro k vs w' hk ⟨rfl, hup, hx⟩
  simp only [↓vsd, vsn, gW, qd, qv, ev, pick, argE, List.map_cons, List.map_nil, Option.map_some, Option.map_none, zipE, List.cons_append, List.nil_append, ne_eq, eq_self, forall_const, implies_true, if_true, if_false, reduceIte, List.cons.injEq, reduceCtorEq, Nat.reduceEqDiff, List.length_nil, List.length_cons, Nat.reduceAdd, Nat.reduceLT, List.set_cons_zero, List.set_cons_succ, ↓us_sl16Run, r_sl16Run]
  rw [Nat.add_sub_cancel]
  have hb := (l.getD (k + 1) 0).toNat_lt
  have hc := (l.getD k 0).toNat_lt
  ((repeat' (first | (with_reducible refine And.intro ?_ ?_) | intro _)) <;> (try first | omega | ((with_reducible refine inR_i64 ?_) <;> omega) | ((with_reducible refine inR_u8 ?_) <;> omega) | with_reducible assumption | exact Ext.refl _))
  · rename_i hlt hne
    have : ¬ RunBy l d l.length := fun h => hne (h (k + 1) (by omega) (by omega))
    simp [this]
  · rename_i hlt he
    exact UpTo.next (by omega) ⟨by simp, hup.succ (fun _ => he), dr hx⟩
  · rename_i hge
    have : RunBy l d l.length := fun i hi h => hup i (by omega) h
    simp [this]
/-- The run of n bells from place i on. -/
def RunAt (l : List UInt8) (n i : Nat) : Bool := decide (RunBy ((l.take (i + n)).drop i) 1 n) || decide (RunBy ((l.take (i + n)).drop i) (-1) n)
theorem sub_len (l : List UInt8) (i n : Nat) (h : i + n ≤ l.length) : ((l.take (i + n)).drop i).length = n := by simp; omega
def runsOf (l : List UInt8) (n : Int) : Value := if IsRow l ∧ 2 ≤ n ∧ n ≤ l.length then .tuple ⟨[.int .i64 (cnt (RunAt l n.toNat) (l.length + 1 - n.toNat)), .bool true]⟩ else .tuple ⟨[.int .i64 0, .bool false]⟩
theorem sRunsIn_ok (l : List UInt8) (n : Int) (w : World) : Fn 70 [S l, .int .i64 n] w (fun v _ => v = runsOf l n) := by
  (refine callsV_of mix Try.func70 c_sRunsIn ?_; simp only [↓vsd, vsn, gW, qd, qv, ev, pick, argE, List.map_cons, List.map_nil, Option.map_some, Option.map_none, zipE, List.cons_append, List.nil_append, ne_eq, eq_self, forall_const, implies_true, if_true, if_false, reduceIte, List.cons.injEq, reduceCtorEq, Nat.reduceEqDiff, List.length_nil, List.length_cons, Nat.reduceAdd, Nat.reduceLT, List.set_cons_zero, List.set_cons_succ, ↓us_sRunsIn, r_sRunsIn])
  refine m_call (sl1Row_ok _ _) ?_
  rintro _ w1 hx1 rfl
  simp only [↓vsd, vsn, gW, qd, qv, ev, pick, argE, List.map_cons, List.map_nil, Option.map_some, Option.map_none, zipE, List.cons_append, List.nil_append, ne_eq, eq_self, forall_const, implies_true, if_true, if_false, reduceIte, List.cons.injEq, reduceCtorEq, Nat.reduceEqDiff, List.length_nil, List.length_cons, Nat.reduceAdd, Nat.reduceLT, List.set_cons_zero, List.set_cons_succ, ↓us_sRunsIn, r_sRunsIn]
  refine ⟨fun hr => ?_, fun hr => ⟨hx1, by simp [runsOf, hr]⟩⟩
  refine m_call (sl1In_ok _ _ _ _) ?_
  rintro _ w2 hx2 rfl
  simp only [↓vsd, vsn, gW, qd, qv, ev, pick, argE, List.map_cons, List.map_nil, Option.map_some, Option.map_none, zipE, List.cons_append, List.nil_append, ne_eq, eq_self, forall_const, implies_true, if_true, if_false, reduceIte, List.cons.injEq, reduceCtorEq, Nat.reduceEqDiff, List.length_nil, List.length_cons, Nat.reduceAdd, Nat.reduceLT, List.set_cons_zero, List.set_cons_succ, ↓us_sRunsIn, r_sRunsIn]
  refine ⟨fun hn => ⟨hx1.trans hx2, ?_⟩, fun hn => ?_⟩
  · rw [runsOf, if_neg (fun h => by rcases hn with h1 | h1 | h1; exact h1 hr; all_goals omega)]
  have hlen := hr.1
  obtain ⟨n, rfl⟩ : ∃ k : Nat, n = k := ⟨n.toNat, by omega⟩
  refine m_upto (l.length + 1 - n) (fun k vs w' => vs = [.int .i64 (cnt (RunAt l n) k : Nat), .int .i64 k] ∧ Ext w w') ⟨rfl, hx1.trans hx2⟩ ?_
  rintro k vs w' hk ⟨rfl, hx⟩
  have hc := cnt_le (RunAt l n) k
  simp only [↓vsd, vsn, gW, qd, qv, ev, pick, argE, List.map_cons, List.map_nil, Option.map_some, Option.map_none, zipE, List.cons_append, List.nil_append, ne_eq, eq_self, forall_const, implies_true, if_true, if_false, reduceIte, List.cons.injEq, reduceCtorEq, Nat.reduceEqDiff, List.length_nil, List.length_cons, Nat.reduceAdd, Nat.reduceLT, List.set_cons_zero, List.set_cons_succ, ↓us_sRunsIn, r_sRunsIn]
  refine ⟨inR_i64 (by omega), fun hle => ⟨inR_i64 (by omega), by omega, ?_⟩, fun hgt => ⟨hx, ?_⟩⟩
  · have hsl := sub_len l k n (by omega)
    refine m_call (sl16Run_ok _ (by omega) _ _) ?_
    rintro _ w3 hx3 rfl
    simp only [↓vsd, vsn, gW, qd, qv, ev, pick, argE, List.map_cons, List.map_nil, Option.map_some, Option.map_none, zipE, List.cons_append, List.nil_append, ne_eq, eq_self, forall_const, implies_true, if_true, if_false, reduceIte, List.cons.injEq, reduceCtorEq, Nat.reduceEqDiff, List.length_nil, List.length_cons, Nat.reduceAdd, Nat.reduceLT, List.set_cons_zero, List.set_cons_succ, ↓us_sRunsIn, r_sRunsIn]
    rw [hsl]
    ((repeat' (first | (with_reducible refine And.intro ?_ ?_) | intro _)) <;> (try first | omega | ((with_reducible refine inR_i64 ?_) <;> omega) | ((with_reducible refine inR_u8 ?_) <;> omega) | with_reducible assumption | exact Ext.refl _))
    · refine m_call (sl16Run_ok _ (by omega) _ _) ?_
      rintro _ w4 hx4 rfl
      simp only [↓vsd, vsn, gW, qd, qv, ev, pick, argE, List.map_cons, List.map_nil, Option.map_some, Option.map_none, zipE, List.cons_append, List.nil_append, ne_eq, eq_self, forall_const, implies_true, if_true, if_false, reduceIte, List.cons.injEq, reduceCtorEq, Nat.reduceEqDiff, List.length_nil, List.length_cons, Nat.reduceAdd, Nat.reduceLT, List.set_cons_zero, List.set_cons_succ, ↓us_sRunsIn, r_sRunsIn]
      rw [hsl]
      ((repeat' (first | (with_reducible refine And.intro ?_ ?_) | intro _)) <;> (try first | omega | ((with_reducible refine inR_i64 ?_) <;> omega) | ((with_reducible refine inR_u8 ?_) <;> omega) | with_reducible assumption | exact Ext.refl _))
      · rename_i h1 h2
        exact UpTo.next (by omega) ⟨by rw [cnt_t (by simpa [RunAt] using h2)]; rfl, (hx.trans hx3).trans hx4⟩
      · rename_i h1 h2
        exact UpTo.next (by omega) ⟨by rw [cnt_f (by simpa [RunAt] using h2)]; rfl, (hx.trans hx3).trans hx4⟩
    · rename_i h1 h2
      exact UpTo.next (by omega) ⟨by rw [cnt_t (by simp [RunAt, h1])]; rfl, hx.trans hx3⟩
    · rename_i h1 h2
      exact absurd h1 h2
  · obtain rfl : k = l.length + 1 - n := by omega
    rw [runsOf, if_pos ⟨hr, by omega, by omega⟩]; rfl
theorem iRunsIn_ok (l : List UInt8) (n : Int) (w : World) : Fn 69 [S l, .int .i64 n] w (fun v _ => v = runsOf l n) := by
  (refine callsV_of mix Try.func69 c_iRunsIn ?_; simp only [↓vsd, vsn, gW, qd, qv, ev, pick, argE, List.map_cons, List.map_nil, Option.map_some, Option.map_none, zipE, List.cons_append, List.nil_append, ne_eq, eq_self, forall_const, implies_true, if_true, if_false, reduceIte, List.cons.injEq, reduceCtorEq, Nat.reduceEqDiff, List.length_nil, List.length_cons, Nat.reduceAdd, Nat.reduceLT, List.set_cons_zero, List.set_cons_succ, ↓us_iRunsIn, r_iRunsIn])
  refine m_call (iGoodRow_ok _ _) ?_
  rintro _ w1 hx1 rfl
  simp only [↓vsd, vsn, gW, qd, qv, ev, pick, argE, List.map_cons, List.map_nil, Option.map_some, Option.map_none, zipE, List.cons_append, List.nil_append, ne_eq, eq_self, forall_const, implies_true, if_true, if_false, reduceIte, List.cons.injEq, reduceCtorEq, Nat.reduceEqDiff, List.length_nil, List.length_cons, Nat.reduceAdd, Nat.reduceLT, List.set_cons_zero, List.set_cons_succ, ↓us_iRunsIn, r_iRunsIn]
  refine ⟨fun hr => ?_, fun hr => ⟨hx1, by simp [runsOf, hr]⟩⟩
  refine m_call (iwithin_ok _ _ _ _) ?_
  rintro _ w2 hx2 rfl
  simp only [↓vsd, vsn, gW, qd, qv, ev, pick, argE, List.map_cons, List.map_nil, Option.map_some, Option.map_none, zipE, List.cons_append, List.nil_append, ne_eq, eq_self, forall_const, implies_true, if_true, if_false, reduceIte, List.cons.injEq, reduceCtorEq, Nat.reduceEqDiff, List.length_nil, List.length_cons, Nat.reduceAdd, Nat.reduceLT, List.set_cons_zero, List.set_cons_succ, ↓us_iRunsIn, r_iRunsIn]
  refine ⟨fun hn => ⟨hx1.trans hx2, ?_⟩, fun hn => ?_⟩
  · rw [runsOf, if_neg (fun h => by rcases hn with h1 | h1 | h1; exact h1 hr; all_goals omega)]
  have hlen := hr.1
  obtain ⟨n, rfl⟩ : ∃ k : Nat, n = k := ⟨n.toNat, by omega⟩
  refine m_upto (l.length + 1 - n) (fun k vs w' => vs = [.int .i64 (cnt (RunAt l n) k : Nat), .int .i64 k] ∧ Ext w w') ⟨rfl, hx1.trans hx2⟩ ?_
  rintro k vs w' hk ⟨rfl, hx⟩
  have hc := cnt_le (RunAt l n) k
  simp only [↓vsd, vsn, gW, qd, qv, ev, pick, argE, List.map_cons, List.map_nil, Option.map_some, Option.map_none, zipE, List.cons_append, List.nil_append, ne_eq, eq_self, forall_const, implies_true, if_true, if_false, reduceIte, List.cons.injEq, reduceCtorEq, Nat.reduceEqDiff, List.length_nil, List.length_cons, Nat.reduceAdd, Nat.reduceLT, List.set_cons_zero, List.set_cons_succ, ↓us_iRunsIn, r_iRunsIn]
  refine ⟨inR_i64 (by omega), fun hle => ⟨inR_i64 (by omega), ?_⟩, fun hgt => ⟨hx, ?_⟩⟩
  · have hsl := sub_len l k n (by omega)
    have hat : ∀ i < n, ((l.take (k + n)).drop k).getD i 0 = l.getD (k + i) 0 := fun i hi => by simp [List.getD_eq_getElem?_getD, List.getElem?_take, show k + i < k + n by omega]
    refine m_upto (n - 1) (fun m vs w' => vs = [.bool (decide (RunBy ((l.take (k + n)).drop k) 1 (m + 1))), .bool (decide (RunBy ((l.take (k + n)).drop k) (-1) (m + 1))), .int .i64 (k + 1 + m : Nat)] ∧ Ext w w') ⟨?_, hx⟩ ?_
    · have h0 (d : Int) : RunBy ((l.take (k + n)).drop k) d (0 + 1) := fun i hi h => by omega
      simp [h0]
    rintro m vs w3 hm ⟨rfl, hx3⟩
    have hs (d : Int) (hm' : m + 1 < n) : RunBy ((l.take (k + n)).drop k) d (m + 1 + 1) ↔ RunBy ((l.take (k + n)).drop k) d (m + 1) ∧ ((l.getD (k + 1 + m) 0).toNat : Int) - (l.getD (k + 1 + m - 1) 0).toNat = d := by
      rw [RunBy_succ]
      refine and_congr_right fun _ => ?_
      rw [hat _ hm', hat _ (by omega), show k + (m + 1) = k + 1 + m by omega, show k + (m + 1 - 1) = k + 1 + m - 1 by omega]
      exact ⟨fun h => h (by omega), fun h _ => h⟩
    simp only [↓vsd, vsn, gW, qd, qv, ev, pick, argE, List.map_cons, List.map_nil, Option.map_some, Option.map_none, zipE, List.cons_append, List.nil_append, ne_eq, eq_self, forall_const, implies_true, if_true, if_false, reduceIte, List.cons.injEq, reduceCtorEq, Nat.reduceEqDiff, List.length_nil, List.length_cons, Nat.reduceAdd, Nat.reduceLT, List.set_cons_zero, List.set_cons_succ, ↓us_iRunsIn, r_iRunsIn]
    have hb : m + 1 < n → 49 ≤ (l.getD (k + 1 + m - 1) 0).toNat ∧ (l.getD (k + 1 + m - 1) 0).toNat < 49 + l.length := fun hm' => ⟨(hr.2 _ (by omega)).1, (hr.2 _ (by omega)).2.1⟩
    ((repeat' (first | (with_reducible refine And.intro ?_ ?_) | intro _)) <;> (try first | omega | ((with_reducible refine inR_i64 ?_) <;> omega) | ((with_reducible refine inR_u8 ?_) <;> omega) | with_reducible assumption | exact Ext.refl _))
    · refine UpTo.next (by omega) ⟨?_, dr (dr hx3)⟩
      simp only [hs _ (show m + 1 < n by omega), Bool.decide_and]
      congr 2
      · congr 2; exact propext (by omega)
      · congr 3; exact propext (by omega)
    · rename_i h1
      obtain rfl : n = m + 1 := by omega
      exact UpTo.next (by omega) ⟨by rw [cnt_t (by simpa [RunAt] using h1)]; rfl, hx3⟩
    · rename_i h1
      obtain rfl : n = m + 1 := by omega
      exact UpTo.next (by omega) ⟨by rw [cnt_f (by simpa [RunAt] using h1)]; rfl, hx3⟩
  · obtain rfl : k = l.length + 1 - n := by omega
    rw [runsOf, if_pos ⟨hr, by omega, by omega⟩]; rfl
/-- The pattern p fits the bells r. -/
def fitsL : List UInt8 → List UInt8 → Bool
  | [], r => decide (r = [])
  | c :: p, [] => decide ((c.toNat : Int) = 42) && fitsL p []
  | c :: p, d :: r => if (c.toNat : Int) = 42 then fitsL p (d :: r) || fitsL (c :: p) r else (decide ((c.toNat : Int) = 63) || decide ((c.toNat : Int) = (d.toNat : Int))) && fitsL p r
termination_by p r => p.length + r.length
theorem ifits_ok (n : Nat) : ∀ (p r : List UInt8), p.length + r.length ≤ n → ∀ w, Fn 93 [S p, S r] w (fun v _ => v = .bool (fitsL p r)) := by
  induction n with
  | zero =>
    intro p r h w
    obtain rfl : p = [] := List.length_eq_zero_iff.1 (by omega)
    obtain rfl : r = [] := List.length_eq_zero_iff.1 (by omega)
    (refine callsV_of mix Try.func93 c_ifits ?_; simp only [↓vsd, vsn, gW, qd, qv, ev, pick, argE, List.map_cons, List.map_nil, Option.map_some, Option.map_none, zipE, List.cons_append, List.nil_append, ne_eq, eq_self, forall_const, implies_true, if_true, if_false, reduceIte, List.cons.injEq, reduceCtorEq, Nat.reduceEqDiff, List.length_nil, List.length_cons, Nat.reduceAdd, Nat.reduceLT, List.set_cons_zero, List.set_cons_succ, ↓us_ifits, r_ifits])
    exact ⟨Ext.refl _, by simp [fitsL]⟩
  | succ n ih =>
    intro p r h w
    cases p with
    | nil =>
      (refine callsV_of mix Try.func93 c_ifits ?_; simp only [↓vsd, vsn, gW, qd, qv, ev, pick, argE, List.map_cons, List.map_nil, Option.map_some, Option.map_none, zipE, List.cons_append, List.nil_append, ne_eq, eq_self, forall_const, implies_true, if_true, if_false, reduceIte, List.cons.injEq, reduceCtorEq, Nat.reduceEqDiff, List.length_nil, List.length_cons, Nat.reduceAdd, Nat.reduceLT, List.set_cons_zero, List.set_cons_succ, ↓us_ifits, r_ifits])
      exact ⟨Ext.refl _, by simp [fitsL]⟩
    | cons c p =>
      simp only [List.length_cons] at h
      (refine callsV_of mix Try.func93 c_ifits ?_; simp only [↓vsd, vsn, gW, qd, qv, ev, pick, argE, List.map_cons, List.map_nil, Option.map_some, Option.map_none, zipE, List.cons_append, List.nil_append, ne_eq, eq_self, forall_const, implies_true, if_true, if_false, reduceIte, List.cons.injEq, reduceCtorEq, Nat.reduceEqDiff, List.length_nil, List.length_cons, Nat.reduceAdd, Nat.reduceLT, List.set_cons_zero, List.set_cons_succ, ↓us_ifits, r_ifits])
      cases r with
      | nil =>
        simp only [↓vsd, vsn, gW, qd, qv, ev, pick, argE, List.map_cons, List.map_nil, Option.map_some, Option.map_none, zipE, List.cons_append, List.nil_append, ne_eq, eq_self, forall_const, implies_true, if_true, if_false, reduceIte, List.cons.injEq, reduceCtorEq, Nat.reduceEqDiff, List.length_nil, List.length_cons, Nat.reduceAdd, Nat.reduceLT, List.set_cons_zero, List.set_cons_succ, ↓us_ifits, r_ifits, List.drop_succ_cons, List.drop_zero, List.getD_cons_zero, fitsL]
        ((repeat' (first | (with_reducible refine And.intro ?_ ?_) | intro _)) <;> (try first | omega | ((with_reducible refine inR_i64 ?_) <;> omega) | ((with_reducible refine inR_u8 ?_) <;> omega) | with_reducible assumption | exact Ext.refl _))
        · refine m_call (ih p [] (by simp; omega) _) ?_
          rintro _ w1 hx1 rfl
          simp only [↓vsd, vsn, gW, qd, qv, ev, pick, argE, List.map_cons, List.map_nil, Option.map_some, Option.map_none, zipE, List.cons_append, List.nil_append, ne_eq, eq_self, forall_const, implies_true, if_true, if_false, reduceIte, List.cons.injEq, reduceCtorEq, Nat.reduceEqDiff, List.length_nil, List.length_cons, Nat.reduceAdd, Nat.reduceLT, List.set_cons_zero, List.set_cons_succ, ↓us_ifits, r_ifits]
          rename_i h1
          exact ⟨hx1, by simp [h1]⟩
        · rename_i h1
          simp [h1]
      | cons d r =>
        simp only [List.length_cons] at h
        simp only [↓vsd, vsn, gW, qd, qv, ev, pick, argE, List.map_cons, List.map_nil, Option.map_some, Option.map_none, zipE, List.cons_append, List.nil_append, ne_eq, eq_self, forall_const, implies_true, if_true, if_false, reduceIte, List.cons.injEq, reduceCtorEq, Nat.reduceEqDiff, List.length_nil, List.length_cons, Nat.reduceAdd, Nat.reduceLT, List.set_cons_zero, List.set_cons_succ, ↓us_ifits, r_ifits, List.drop_succ_cons, List.drop_zero, List.getD_cons_zero, fitsL]
        ((repeat' (first | (with_reducible refine And.intro ?_ ?_) | intro _)) <;> (try first | omega | ((with_reducible refine inR_i64 ?_) <;> omega) | ((with_reducible refine inR_u8 ?_) <;> omega) | with_reducible assumption | exact Ext.refl _))
        · refine m_call (ih p (d :: r) (by simp; omega) _) ?_
          rintro _ w1 hx1 rfl
          simp only [↓vsd, vsn, gW, qd, qv, ev, pick, argE, List.map_cons, List.map_nil, Option.map_some, Option.map_none, zipE, List.cons_append, List.nil_append, ne_eq, eq_self, forall_const, implies_true, if_true, if_false, reduceIte, List.cons.injEq, reduceCtorEq, Nat.reduceEqDiff, List.length_nil, List.length_cons, Nat.reduceAdd, Nat.reduceLT, List.set_cons_zero, List.set_cons_succ, ↓us_ifits, r_ifits, List.drop_succ_cons, List.drop_zero]
          ((repeat' (first | (with_reducible refine And.intro ?_ ?_) | intro _)) <;> (try first | omega | ((with_reducible refine inR_i64 ?_) <;> omega) | ((with_reducible refine inR_u8 ?_) <;> omega) | with_reducible assumption | exact Ext.refl _))
          · refine m_call (ih (c :: p) r (by simp; omega) _) ?_
            rintro _ w2 hx2 rfl
            simp only [↓vsd, vsn, gW, qd, qv, ev, pick, argE, List.map_cons, List.map_nil, Option.map_some, Option.map_none, zipE, List.cons_append, List.nil_append, ne_eq, eq_self, forall_const, implies_true, if_true, if_false, reduceIte, List.cons.injEq, reduceCtorEq, Nat.reduceEqDiff, List.length_nil, List.length_cons, Nat.reduceAdd, Nat.reduceLT, List.set_cons_zero, List.set_cons_succ, ↓us_ifits, r_ifits]
            rename_i h1 h2
            exact ⟨hx1.trans hx2, by simp [h1, h2]⟩
          · rename_i h1 h2
            simp [h1, h2]
        · refine m_call (ih p r (by omega) _) ?_
          rintro _ w1 hx1 rfl
          simp only [↓vsd, vsn, gW, qd, qv, ev, pick, argE, List.map_cons, List.map_nil, Option.map_some, Option.map_none, zipE, List.cons_append, List.nil_append, ne_eq, eq_self, forall_const, implies_true, if_true, if_false, reduceIte, List.cons.injEq, reduceCtorEq, Nat.reduceEqDiff, List.length_nil, List.length_cons, Nat.reduceAdd, Nat.reduceLT, List.set_cons_zero, List.set_cons_succ, ↓us_ifits, r_ifits]
          rename_i h1 h2
          exact ⟨ud hx1, by simp [h1, h2]⟩
        · rename_i h1 h2
          simp [h1, h2]
theorem sl16Fits_ok (n : Nat) : ∀ (p r : List UInt8), p.length + r.length ≤ n → ∀ w, Fn 89 [S p, S r] w (fun v _ => v = .bool (fitsL p r)) := by
  induction n with
  | zero =>
    intro p r h w
    obtain rfl : p = [] := List.length_eq_zero_iff.1 (by omega)
    obtain rfl : r = [] := List.length_eq_zero_iff.1 (by omega)
    (refine callsV_of mix Try.func89 c_sl16Fits ?_; simp only [↓vsd, vsn, gW, qd, qv, ev, pick, argE, List.map_cons, List.map_nil, Option.map_some, Option.map_none, zipE, List.cons_append, List.nil_append, ne_eq, eq_self, forall_const, implies_true, if_true, if_false, reduceIte, List.cons.injEq, reduceCtorEq, Nat.reduceEqDiff, List.length_nil, List.length_cons, Nat.reduceAdd, Nat.reduceLT, List.set_cons_zero, List.set_cons_succ, ↓us_sl16Fits, r_sl16Fits])
    exact ⟨Ext.refl _, by simp [fitsL]⟩
  | succ n ih =>
    intro p r h w
    cases p with
    | nil =>
      (refine callsV_of mix Try.func89 c_sl16Fits ?_; simp only [↓vsd, vsn, gW, qd, qv, ev, pick, argE, List.map_cons, List.map_nil, Option.map_some, Option.map_none, zipE, List.cons_append, List.nil_append, ne_eq, eq_self, forall_const, implies_true, if_true, if_false, reduceIte, List.cons.injEq, reduceCtorEq, Nat.reduceEqDiff, List.length_nil, List.length_cons, Nat.reduceAdd, Nat.reduceLT, List.set_cons_zero, List.set_cons_succ, ↓us_sl16Fits, r_sl16Fits])
      exact ⟨Ext.refl _, by simp [fitsL]⟩
    | cons c p =>
      simp only [List.length_cons] at h
      (refine callsV_of mix Try.func89 c_sl16Fits ?_; simp only [↓vsd, vsn, gW, qd, qv, ev, pick, argE, List.map_cons, List.map_nil, Option.map_some, Option.map_none, zipE, List.cons_append, List.nil_append, ne_eq, eq_self, forall_const, implies_true, if_true, if_false, reduceIte, List.cons.injEq, reduceCtorEq, Nat.reduceEqDiff, List.length_nil, List.length_cons, Nat.reduceAdd, Nat.reduceLT, List.set_cons_zero, List.set_cons_succ, ↓us_sl16Fits, r_sl16Fits])
      cases r with
      | nil =>
        simp only [↓vsd, vsn, gW, qd, qv, ev, pick, argE, List.map_cons, List.map_nil, Option.map_some, Option.map_none, zipE, List.cons_append, List.nil_append, ne_eq, eq_self, forall_const, implies_true, if_true, if_false, reduceIte, List.cons.injEq, reduceCtorEq, Nat.reduceEqDiff, List.length_nil, List.length_cons, Nat.reduceAdd, Nat.reduceLT, List.set_cons_zero, List.set_cons_succ, ↓us_sl16Fits, r_sl16Fits, List.drop_succ_cons, List.drop_zero, List.getD_cons_zero, fitsL]
        ((repeat' (first | (with_reducible refine And.intro ?_ ?_) | intro _)) <;> (try first | omega | ((with_reducible refine inR_i64 ?_) <;> omega) | ((with_reducible refine inR_u8 ?_) <;> omega) | with_reducible assumption | exact Ext.refl _))
        · refine m_call (ih p [] (by simp; omega) _) ?_
          rintro _ w1 hx1 rfl
          simp only [↓vsd, vsn, gW, qd, qv, ev, pick, argE, List.map_cons, List.map_nil, Option.map_some, Option.map_none, zipE, List.cons_append, List.nil_append, ne_eq, eq_self, forall_const, implies_true, if_true, if_false, reduceIte, List.cons.injEq, reduceCtorEq, Nat.reduceEqDiff, List.length_nil, List.length_cons, Nat.reduceAdd, Nat.reduceLT, List.set_cons_zero, List.set_cons_succ, ↓us_sl16Fits, r_sl16Fits]
          rename_i h1
          exact ⟨hx1, by simp [h1]⟩
        · rename_i h1
          simp [h1]
      | cons d r =>
        simp only [List.length_cons] at h
        simp only [↓vsd, vsn, gW, qd, qv, ev, pick, argE, List.map_cons, List.map_nil, Option.map_some, Option.map_none, zipE, List.cons_append, List.nil_append, ne_eq, eq_self, forall_const, implies_true, if_true, if_false, reduceIte, List.cons.injEq, reduceCtorEq, Nat.reduceEqDiff, List.length_nil, List.length_cons, Nat.reduceAdd, Nat.reduceLT, List.set_cons_zero, List.set_cons_succ, ↓us_sl16Fits, r_sl16Fits, List.drop_succ_cons, List.drop_zero, List.getD_cons_zero, fitsL]
        ((repeat' (first | (with_reducible refine And.intro ?_ ?_) | intro _)) <;> (try first | omega | ((with_reducible refine inR_i64 ?_) <;> omega) | ((with_reducible refine inR_u8 ?_) <;> omega) | with_reducible assumption | exact Ext.refl _))
        · refine m_call (ih p (d :: r) (by simp; omega) _) ?_
          rintro _ w1 hx1 rfl
          simp only [↓vsd, vsn, gW, qd, qv, ev, pick, argE, List.map_cons, List.map_nil, Option.map_some, Option.map_none, zipE, List.cons_append, List.nil_append, ne_eq, eq_self, forall_const, implies_true, if_true, if_false, reduceIte, List.cons.injEq, reduceCtorEq, Nat.reduceEqDiff, List.length_nil, List.length_cons, Nat.reduceAdd, Nat.reduceLT, List.set_cons_zero, List.set_cons_succ, ↓us_sl16Fits, r_sl16Fits, List.drop_succ_cons, List.drop_zero]
          ((repeat' (first | (with_reducible refine And.intro ?_ ?_) | intro _)) <;> (try first | omega | ((with_reducible refine inR_i64 ?_) <;> omega) | ((with_reducible refine inR_u8 ?_) <;> omega) | with_reducible assumption | exact Ext.refl _))
          · refine m_call (ih (c :: p) r (by simp; omega) _) ?_
            rintro _ w2 hx2 rfl
            simp only [↓vsd, vsn, gW, qd, qv, ev, pick, argE, List.map_cons, List.map_nil, Option.map_some, Option.map_none, zipE, List.cons_append, List.nil_append, ne_eq, eq_self, forall_const, implies_true, if_true, if_false, reduceIte, List.cons.injEq, reduceCtorEq, Nat.reduceEqDiff, List.length_nil, List.length_cons, Nat.reduceAdd, Nat.reduceLT, List.set_cons_zero, List.set_cons_succ, ↓us_sl16Fits, r_sl16Fits]
            rename_i h1 h2
            exact ⟨hx1.trans hx2, by simp [h1, h2]⟩
          · rename_i h1 h2
            simp [h1, h2]
        · refine m_call (ih p r (by omega) _) ?_
          rintro _ w1 hx1 rfl
          simp only [↓vsd, vsn, gW, qd, qv, ev, pick, argE, List.map_cons, List.map_nil, Option.map_some, Option.map_none, zipE, List.cons_append, List.nil_append, ne_eq, eq_self, forall_const, implies_true, if_true, if_false, reduceIte, List.cons.injEq, reduceCtorEq, Nat.reduceEqDiff, List.length_nil, List.length_cons, Nat.reduceAdd, Nat.reduceLT, List.set_cons_zero, List.set_cons_succ, ↓us_sl16Fits, r_sl16Fits]
          rename_i h1 h2
          exact ⟨ud hx1, by simp [h1, h2]⟩
        · rename_i h1 h2
          simp [h1, h2]
def fitsV (p r : List UInt8) : Value := if IsPat p ∧ IsRow r then .tuple ⟨[.bool (fitsL p r), .bool true]⟩ else .tuple ⟨[.bool false, .bool false]⟩
theorem iFitsRow_ok (p r : List UInt8) (hp : p.length ≤ 1048576) (w : World) : Fn 62 [S p, S r] w (fun v _ => v = fitsV p r) := by
  (refine callsV_of mix Try.func62 c_iFitsRow ?_; simp only [↓vsd, vsn, gW, qd, qv, ev, pick, argE, List.map_cons, List.map_nil, Option.map_some, Option.map_none, zipE, List.cons_append, List.nil_append, ne_eq, eq_self, forall_const, implies_true, if_true, if_false, reduceIte, List.cons.injEq, reduceCtorEq, Nat.reduceEqDiff, List.length_nil, List.length_cons, Nat.reduceAdd, Nat.reduceLT, List.set_cons_zero, List.set_cons_succ, ↓us_iFitsRow, r_iFitsRow])
  refine m_call (iGoodPattern_ok _ (by omega) _) ?_
  rintro _ w1 hx1 rfl
  simp only [↓vsd, vsn, gW, qd, qv, ev, pick, argE, List.map_cons, List.map_nil, Option.map_some, Option.map_none, zipE, List.cons_append, List.nil_append, ne_eq, eq_self, forall_const, implies_true, if_true, if_false, reduceIte, List.cons.injEq, reduceCtorEq, Nat.reduceEqDiff, List.length_nil, List.length_cons, Nat.reduceAdd, Nat.reduceLT, List.set_cons_zero, List.set_cons_succ, ↓us_iFitsRow, r_iFitsRow]
  refine ⟨fun h1 => m_call (iGoodRow_ok _ _) ?_, fun h1 => ⟨hx1, by simp [fitsV, h1]⟩⟩
  rintro _ w2 hx2 rfl
  simp only [↓vsd, vsn, gW, qd, qv, ev, pick, argE, List.map_cons, List.map_nil, Option.map_some, Option.map_none, zipE, List.cons_append, List.nil_append, ne_eq, eq_self, forall_const, implies_true, if_true, if_false, reduceIte, List.cons.injEq, reduceCtorEq, Nat.reduceEqDiff, List.length_nil, List.length_cons, Nat.reduceAdd, Nat.reduceLT, List.set_cons_zero, List.set_cons_succ, ↓us_iFitsRow, r_iFitsRow]
  refine ⟨fun h2 => ⟨hx1.trans hx2, ?_⟩, fun h2 => m_call (ifits_ok _ _ _ (Nat.le_refl _) _) ?_⟩
  · rw [fitsV, if_neg (by simpa [h1] using h2)]
  rintro _ w3 hx3 rfl
  simp only [↓vsd, vsn, gW, qd, qv, ev, pick, argE, List.map_cons, List.map_nil, Option.map_some, Option.map_none, zipE, List.cons_append, List.nil_append, ne_eq, eq_self, forall_const, implies_true, if_true, if_false, reduceIte, List.cons.injEq, reduceCtorEq, Nat.reduceEqDiff, List.length_nil, List.length_cons, Nat.reduceAdd, Nat.reduceLT, List.set_cons_zero, List.set_cons_succ, ↓us_iFitsRow, r_iFitsRow]
  exact ⟨(hx1.trans hx2).trans hx3, by rw [fitsV, if_pos (by simpa using h2)]⟩
theorem sFitsRow_ok (p r : List UInt8) (hp : p.length ≤ 1048576) (w : World) : Fn 63 [S p, S r] w (fun v _ => v = fitsV p r) := by
  (refine callsV_of mix Try.func63 c_sFitsRow ?_; simp only [↓vsd, vsn, gW, qd, qv, ev, pick, argE, List.map_cons, List.map_nil, Option.map_some, Option.map_none, zipE, List.cons_append, List.nil_append, ne_eq, eq_self, forall_const, implies_true, if_true, if_false, reduceIte, List.cons.injEq, reduceCtorEq, Nat.reduceEqDiff, List.length_nil, List.length_cons, Nat.reduceAdd, Nat.reduceLT, List.set_cons_zero, List.set_cons_succ, ↓us_sFitsRow, r_sFitsRow])
  refine m_call (sl16Good_ok _ (by omega) _) ?_
  rintro _ w1 hx1 rfl
  simp only [↓vsd, vsn, gW, qd, qv, ev, pick, argE, List.map_cons, List.map_nil, Option.map_some, Option.map_none, zipE, List.cons_append, List.nil_append, ne_eq, eq_self, forall_const, implies_true, if_true, if_false, reduceIte, List.cons.injEq, reduceCtorEq, Nat.reduceEqDiff, List.length_nil, List.length_cons, Nat.reduceAdd, Nat.reduceLT, List.set_cons_zero, List.set_cons_succ, ↓us_sFitsRow, r_sFitsRow]
  refine ⟨fun h1 => m_call (sl1Row_ok _ _) ?_, fun h1 => ⟨hx1, by simp [fitsV, h1]⟩⟩
  rintro _ w2 hx2 rfl
  simp only [↓vsd, vsn, gW, qd, qv, ev, pick, argE, List.map_cons, List.map_nil, Option.map_some, Option.map_none, zipE, List.cons_append, List.nil_append, ne_eq, eq_self, forall_const, implies_true, if_true, if_false, reduceIte, List.cons.injEq, reduceCtorEq, Nat.reduceEqDiff, List.length_nil, List.length_cons, Nat.reduceAdd, Nat.reduceLT, List.set_cons_zero, List.set_cons_succ, ↓us_sFitsRow, r_sFitsRow]
  refine ⟨fun h2 => ⟨hx1.trans hx2, ?_⟩, fun h2 => m_call (sl16Fits_ok _ _ _ (Nat.le_refl _) _) ?_⟩
  · rw [fitsV, if_neg (by simpa [h1] using h2)]
  rintro _ w3 hx3 rfl
  simp only [↓vsd, vsn, gW, qd, qv, ev, pick, argE, List.map_cons, List.map_nil, Option.map_some, Option.map_none, zipE, List.cons_append, List.nil_append, ne_eq, eq_self, forall_const, implies_true, if_true, if_false, reduceIte, List.cons.injEq, reduceCtorEq, Nat.reduceEqDiff, List.length_nil, List.length_cons, Nat.reduceAdd, Nat.reduceLT, List.set_cons_zero, List.set_cons_succ, ↓us_sFitsRow, r_sFitsRow]
  exact ⟨(hx1.trans hx2).trans hx3, by rw [fitsV, if_pos (by simpa using h2)]⟩
end Go.Proofs.Ytnocgihggdgkeaa
