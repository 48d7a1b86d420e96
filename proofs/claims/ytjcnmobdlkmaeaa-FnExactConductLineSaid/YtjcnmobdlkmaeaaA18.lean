/-
  The transposition of a coursing order by a call, of both sides.
  Conditions: none.
-/
import Derived.Test.YtjcnmobdlkmaeaaA17
import Derived.Test.YtjcnmobdlkmaeaaA12
set_option linter.unusedSimpArgs false
set_option linter.unusedVariables false
set_option linter.defProp false
namespace Go.Proofs.Ytjcnmobdlkmaeaa
open Go Go.RowKit
def t_icalledLead_1 : X := (.cond (.t 28) (.reg [6, 7] (.c (.q 30 [] (.fa 2 (.t 7))) (.c (.q 31 [] (.ld (.t 30))) (.c (.q 32 [] (.mv (.t 8))) (.c (.q 33 [] (.fa 1 (.t 4))) (.c (.q 34 [] (.ld (.t 33))) (.c (.q 35 [] (.ia 1 (.t 31) (.t 32))) (.c (.e none [] (.st 1 (.t 35) (.t 34))) .nil)))))))) .skip)
theorem u_icalledLead_1 (P : Program) (k : KT) (e : Env) (w : World) : vcK P t_icalledLead_1 k e w = vcK P (.cond (.t 28) (.reg [6, 7] (.c (.q 30 [] (.fa 2 (.t 7))) (.c (.q 31 [] (.ld (.t 30))) (.c (.q 32 [] (.mv (.t 8))) (.c (.q 33 [] (.fa 1 (.t 4))) (.c (.q 34 [] (.ld (.t 33))) (.c (.q 35 [] (.ia 1 (.t 31) (.t 32))) (.c (.e none [] (.st 1 (.t 35) (.t 34))) .nil)))))))) .skip) k e w := rfl
def t_icalledLead_2 : X := (.cond (.t 20) (.reg [6, 7] (.c (.q 22 [] (.fa 2 (.t 7))) (.c (.q 23 [] (.ld (.t 22))) (.c (.q 24 [] (.mv (.t 8))) (.c (.q 25 [] (.fa 0 (.t 4))) (.c (.q 26 [] (.ld (.t 25))) (.c (.q 27 [] (.ia 1 (.t 23) (.t 24))) (.c (.e none [] (.st 1 (.t 27) (.t 26))) .nil)))))))) (.seq (.reg [4, 6, 7, 8, 28] (.c (.q 29 [] (.bin .eql (.t 19) (.s [115]))) (.c (.q 28 [] (.mv (.t 29))) .nil))) t_icalledLead_1))
theorem u_icalledLead_2 (P : Program) (k : KT) (e : Env) (w : World) : vcK P t_icalledLead_2 k e w = vcK P (.cond (.t 20) (.reg [6, 7] (.c (.q 22 [] (.fa 2 (.t 7))) (.c (.q 23 [] (.ld (.t 22))) (.c (.q 24 [] (.mv (.t 8))) (.c (.q 25 [] (.fa 0 (.t 4))) (.c (.q 26 [] (.ld (.t 25))) (.c (.q 27 [] (.ia 1 (.t 23) (.t 24))) (.c (.e none [] (.st 1 (.t 27) (.t 26))) .nil)))))))) (.seq (.reg [4, 6, 7, 8, 28] (.c (.q 29 [] (.bin .eql (.t 19) (.s [115]))) (.c (.q 28 [] (.mv (.t 29))) .nil))) t_icalledLead_1)) k e w := rfl
def t_icalledLead_3 : X := (.blk 0 (.seq (.reg [4, 6, 7, 8, 19, 20] (.c (.q 21 [] (.bin .eql (.t 19) (.s [98]))) (.c (.q 20 [] (.mv (.t 21))) .nil))) t_icalledLead_2))
theorem u_icalledLead_3 (P : Program) (k : KT) (e : Env) (w : World) : vcK P t_icalledLead_3 k e w = vcK P (.blk 0 (.seq (.reg [4, 6, 7, 8, 19, 20] (.c (.q 21 [] (.bin .eql (.t 19) (.s [98]))) (.c (.q 20 [] (.mv (.t 21))) .nil))) t_icalledLead_2)) k e w := rfl
def t_icalledLead_4 : X := (.seq (.reg [6] (.c (.q 36 [] (.lda 3 (.t 7))) (.c (.e none [] (.st 3 (.t 6) (.t 36))) .nil))) .ret)
theorem u_icalledLead_4 (P : Program) (k : KT) (e : Env) (w : World) : vcK P t_icalledLead_4 k e w = vcK P (.seq (.reg [6] (.c (.q 36 [] (.lda 3 (.t 7))) (.c (.e none [] (.st 3 (.t 6) (.t 36))) .nil))) .ret) k e w := rfl
def t_icalledLead_5 : X := (.seq (.seq (.reg [4, 6, 7, 8, 19] (.c (.q 19 [] (.mv (.t 2))) .nil)) t_icalledLead_3) t_icalledLead_4)
theorem u_icalledLead_5 (P : Program) (k : KT) (e : Env) (w : World) : vcK P t_icalledLead_5 k e w = vcK P (.seq (.seq (.reg [4, 6, 7, 8, 19] (.c (.q 19 [] (.mv (.t 2))) .nil)) t_icalledLead_3) t_icalledLead_4) k e w := rfl
def t_icalledLead_6 : X := (.seq (.reg [2, 4, 6, 7, 8] (.c (.q 15 [] (.fa 2 (.t 7))) (.c (.q 16 [] (.ld (.t 15))) (.c (.q 17 [] (.lens (.t 16))) (.c (.q 18 [] (.bin .sub (.t 17) (.c (.int .i64 1)))) (.c (.q 8 [] (.mv (.t 18))) .nil)))))) t_icalledLead_5)
theorem u_icalledLead_6 (P : Program) (k : KT) (e : Env) (w : World) : vcK P t_icalledLead_6 k e w = vcK P (.seq (.reg [2, 4, 6, 7, 8] (.c (.q 15 [] (.fa 2 (.t 7))) (.c (.q 16 [] (.ld (.t 15))) (.c (.q 17 [] (.lens (.t 16))) (.c (.q 18 [] (.bin .sub (.t 17) (.c (.int .i64 1)))) (.c (.q 8 [] (.mv (.t 18))) .nil)))))) t_icalledLead_5) k e w := rfl
def t_icalledLead_7 : X := (.seq (.drw [2, 4, 6, 7] (.c (.q 9 [] (.lda 3 (.t 3))) (.c (.q 11 [] (.fa 2 (.t 3))) (.c (.q 12 [] (.ld (.t 11))) (.alt (.c (.e (some 10) [] (.bsl 9 1 [])) (.alt (.c (.e (some 13) [] (.apf 42 9 1 16 [(S [])] 42 (.t 10) (.t 12))) (.alt (.c (.e (some 14) [] (.call false 197 [(.t 9), (.t 13)])) (.c (.e (some 7) [] (.al 58 [(S []), (.int .i64 0), (.slice none 0 0)])) (.c (.e none [] (.st 3 (.t 7) (.t 14))) .nil))) (.c (.e (some 7) [] (.al 58 [(S []), (.int .i64 0), (.slice none 0 0)])) (.c (.e (some 14) [] (.call false 197 [(.t 9), (.t 13)])) (.c (.e none [] (.st 3 (.t 7) (.t 14))) .nil))))) (.c (.e (some 7) [] (.al 58 [(S []), (.int .i64 0), (.slice none 0 0)])) (.c (.e (some 13) [] (.apf 42 9 1 16 [(S [])] 42 (.t 10) (.t 12))) (.c (.e (some 14) [] (.call false 197 [(.t 9), (.t 13)])) (.c (.e none [] (.st 3 (.t 7) (.t 14))) .nil)))))) (.c (.e (some 7) [] (.al 58 [(S []), (.int .i64 0), (.slice none 0 0)])) (.c (.e (some 10) [] (.bsl 9 1 [])) (.c (.e (some 13) [] (.apf 42 9 1 16 [(S [])] 42 (.t 10) (.t 12))) (.c (.e (some 14) [] (.call false 197 [(.t 9), (.t 13)])) (.c (.e none [] (.st 3 (.t 7) (.t 14))) .nil)))))))))) t_icalledLead_6)
theorem u_icalledLead_7 (P : Program) (k : KT) (e : Env) (w : World) : vcK P t_icalledLead_7 k e w = vcK P (.seq (.drw [2, 4, 6, 7] (.c (.q 9 [] (.lda 3 (.t 3))) (.c (.q 11 [] (.fa 2 (.t 3))) (.c (.q 12 [] (.ld (.t 11))) (.alt (.c (.e (some 10) [] (.bsl 9 1 [])) (.alt (.c (.e (some 13) [] (.apf 42 9 1 16 [(S [])] 42 (.t 10) (.t 12))) (.alt (.c (.e (some 14) [] (.call false 197 [(.t 9), (.t 13)])) (.c (.e (some 7) [] (.al 58 [(S []), (.int .i64 0), (.slice none 0 0)])) (.c (.e none [] (.st 3 (.t 7) (.t 14))) .nil))) (.c (.e (some 7) [] (.al 58 [(S []), (.int .i64 0), (.slice none 0 0)])) (.c (.e (some 14) [] (.call false 197 [(.t 9), (.t 13)])) (.c (.e none [] (.st 3 (.t 7) (.t 14))) .nil))))) (.c (.e (some 7) [] (.al 58 [(S []), (.int .i64 0), (.slice none 0 0)])) (.c (.e (some 13) [] (.apf 42 9 1 16 [(S [])] 42 (.t 10) (.t 12))) (.c (.e (some 14) [] (.call false 197 [(.t 9), (.t 13)])) (.c (.e none [] (.st 3 (.t 7) (.t 14))) .nil)))))) (.c (.e (some 7) [] (.al 58 [(S []), (.int .i64 0), (.slice none 0 0)])) (.c (.e (some 10) [] (.bsl 9 1 [])) (.c (.e (some 13) [] (.apf 42 9 1 16 [(S [])] 42 (.t 10) (.t 12))) (.c (.e (some 14) [] (.call false 197 [(.t 9), (.t 13)])) (.c (.e none [] (.st 3 (.t 7) (.t 14))) .nil)))))))))) t_icalledLead_6) k e w := rfl
def x_icalledLead : X := (.seq (.reg [2, 3, 4, 6] (.c (.e (some 3) [] (.box 58 (.t 0))) (.c (.e (some 4) [] (.box 47 (.t 1))) (.c (.e (some 6) [] (.al 58 [(S []), (.int .i64 0), (.slice none 0 0)])) .nil)))) t_icalledLead_7)
theorem u_icalledLead (P : Program) (k : KT) (e : Env) (w : World) : vcK P x_icalledLead k e w = vcK P (.seq (.reg [2, 3, 4, 6] (.c (.e (some 3) [] (.box 58 (.t 0))) (.c (.e (some 4) [] (.box 47 (.t 1))) (.c (.e (some 6) [] (.al 58 [(S []), (.int .i64 0), (.slice none 0 0)])) .nil)))) t_icalledLead_7) k e w := rfl
def r_icalledLead : List XO := [(.lda 3 (.t 6))]
theorem c_icalledLead : convF Try.prog [145, 147, 148, 149, 158, 205, 206, 232, 234, 247, 248, 256, 261, 283, 284, 299, 300, 307, 1000000] Try.f305 [([2, 3, 4, 6], []), ([2, 4, 6, 7], []), ([2, 4, 6, 7, 8], []), ([4, 6, 7, 8, 19], []), ([4, 6, 7, 8, 19, 20], []), ([6, 7], []), ([4, 6, 7, 8, 28], []), ([6, 7], []), ([6], [])] = some (x_icalledLead, r_icalledLead) := by kernel_rfl
def us_icalledLead := And.intro @u_icalledLead (And.intro @u_icalledLead_1 (And.intro @u_icalledLead_2 (And.intro @u_icalledLead_3 (And.intro @u_icalledLead_4 (And.intro @u_icalledLead_5 (And.intro @u_icalledLead_6 @u_icalledLead_7))))))
def t_icallHead_1 : X := (.seq (.reg [6] (.c (.q 7 [] (.lda 3 (.t 3))) (.c (.q 8 [] (.lda 2 (.t 4))) (.c (.q 9 [] (.mv (.t 2))) (.c (.e (some 10) [] (.call false 305 [(.t 7), (.t 8), (.t 9)])) (.c (.e (some 11) [] (.call false 190 [(.t 10)])) (.c (.q 6 [] (.mv (.t 11))) .nil))))))) .ret)
theorem u_icallHead_1 (P : Program) (k : KT) (e : Env) (w : World) : vcK P t_icallHead_1 k e w = vcK P (.seq (.reg [6] (.c (.q 7 [] (.lda 3 (.t 3))) (.c (.q 8 [] (.lda 2 (.t 4))) (.c (.q 9 [] (.mv (.t 2))) (.c (.e (some 10) [] (.call false 305 [(.t 7), (.t 8), (.t 9)])) (.c (.e (some 11) [] (.call false 190 [(.t 10)])) (.c (.q 6 [] (.mv (.t 11))) .nil))))))) .ret) k e w := rfl
def x_icallHead : X := (.seq (.reg [2, 3, 4] (.c (.e (some 3) [] (.box 58 (.t 0))) (.c (.e (some 4) [] (.box 47 (.t 1))) (.c (.q 6 [] (.mv (.s []))) .nil)))) t_icallHead_1)
theorem u_icallHead (P : Program) (k : KT) (e : Env) (w : World) : vcK P x_icallHead k e w = vcK P (.seq (.reg [2, 3, 4] (.c (.e (some 3) [] (.box 58 (.t 0))) (.c (.e (some 4) [] (.box 47 (.t 1))) (.c (.q 6 [] (.mv (.s []))) .nil)))) t_icallHead_1) k e w := rfl
def r_icallHead : List XO := [(.mv (.t 6))]
theorem c_icallHead : convF Try.prog [145, 147, 148, 149, 158, 205, 206, 232, 234, 247, 248, 256, 261, 283, 284, 299, 300, 307] Try.f271 [([2, 3, 4], []), ([6], [])] = some (x_icallHead, r_icallHead) := by kernel_rfl
def us_icallHead := And.intro @u_icallHead @u_icallHead_1
def t_iplaceOf_1 : X := (.cond (.t 17) (.seq (.reg [4] (.c (.q 18 [] (.mv (.t 5))) (.c (.q 19 [] (.bin .add (.t 18) (.c (.int .i64 1)))) (.c (.q 4 [] (.mv (.t 19))) .nil)))) .ret) .skip)
theorem u_iplaceOf_1 (P : Program) (k : KT) (e : Env) (w : World) : vcK P t_iplaceOf_1 k e w = vcK P (.cond (.t 17) (.seq (.reg [4] (.c (.q 18 [] (.mv (.t 5))) (.c (.q 19 [] (.bin .add (.t 18) (.c (.int .i64 1)))) (.c (.q 4 [] (.mv (.t 19))) .nil)))) .ret) .skip) k e w := rfl
def t_iplaceOf_2 : X := (.seq (.reg [0, 1, 5, 7, 8, 17] (.c (.q 11 [] (.mv (.t 0))) (.c (.q 12 [] (.mv (.t 5))) (.c (.q 13 [] (.idx (.t 11) (.t 12))) (.c (.q 14 [] (.bin .sub (.t 13) (.c (.int .u8 48)))) (.c (.q 15 [] (.cvi .i64 (.t 14))) (.c (.q 16 [] (.mv (.t 1))) (.c (.q 17 [] (.bin .eql (.t 15) (.t 16))) .nil)))))))) t_iplaceOf_1)
theorem u_iplaceOf_2 (P : Program) (k : KT) (e : Env) (w : World) : vcK P t_iplaceOf_2 k e w = vcK P (.seq (.reg [0, 1, 5, 7, 8, 17] (.c (.q 11 [] (.mv (.t 0))) (.c (.q 12 [] (.mv (.t 5))) (.c (.q 13 [] (.idx (.t 11) (.t 12))) (.c (.q 14 [] (.bin .sub (.t 13) (.c (.int .u8 48)))) (.c (.q 15 [] (.cvi .i64 (.t 14))) (.c (.q 16 [] (.mv (.t 1))) (.c (.q 17 [] (.bin .eql (.t 15) (.t 16))) .nil)))))))) t_iplaceOf_1) k e w := rfl
def t_iplaceOf_3 : X := (.reg [0, 1, 7, 8] (.c (.q 20 [] (.bin .add (.t 8) (.c (.int .i64 1)))) (.c (.q 8 [] (.mv (.t 20))) .nil)))
theorem u_iplaceOf_3 (P : Program) (k : KT) (e : Env) (w : World) : vcK P t_iplaceOf_3 k e w = vcK P (.reg [0, 1, 7, 8] (.c (.q 20 [] (.bin .add (.t 8) (.c (.int .i64 1)))) (.c (.q 8 [] (.mv (.t 20))) .nil))) k e w := rfl
def t_iplaceOf_4 : X := (.seq (.blk 1 (.seq (.reg [0, 1, 5, 7, 8] (.c (.q 10 [] (.mv (.t 8))) (.c (.q 5 [] (.mv (.t 10))) .nil))) t_iplaceOf_2)) t_iplaceOf_3)
theorem u_iplaceOf_4 (P : Program) (k : KT) (e : Env) (w : World) : vcK P t_iplaceOf_4 k e w = vcK P (.seq (.blk 1 (.seq (.reg [0, 1, 5, 7, 8] (.c (.q 10 [] (.mv (.t 8))) (.c (.q 5 [] (.mv (.t 10))) .nil))) t_iplaceOf_2)) t_iplaceOf_3) k e w := rfl
def t_iplaceOf_5 : X := (.seq (.cond (.t 9) .skip (.exit 0)) t_iplaceOf_4)
theorem u_iplaceOf_5 (P : Program) (k : KT) (e : Env) (w : World) : vcK P t_iplaceOf_5 k e w = vcK P (.seq (.cond (.t 9) .skip (.exit 0)) t_iplaceOf_4) k e w := rfl
def t_iplaceOf_6 : X := (.seq (.reg [0, 1, 7, 8, 9] (.c (.q 9 [] (.bin .lss (.t 8) (.t 7))) .nil)) t_iplaceOf_5)
theorem u_iplaceOf_6 (P : Program) (k : KT) (e : Env) (w : World) : vcK P t_iplaceOf_6 k e w = vcK P (.seq (.reg [0, 1, 7, 8, 9] (.c (.q 9 [] (.bin .lss (.t 8) (.t 7))) .nil)) t_iplaceOf_5) k e w := rfl
def t_iplaceOf_7 : X := (.blk 0 (.loop [8] [0, 1, 7] t_iplaceOf_6))
theorem u_iplaceOf_7 (P : Program) (k : KT) (e : Env) (w : World) : vcK P t_iplaceOf_7 k e w = vcK P (.blk 0 (.loop [8] [0, 1, 7] t_iplaceOf_6)) k e w := rfl
def t_iplaceOf_8 : X := (.seq (.reg [4] (.c (.q 4 [] (.mv (.c (.int .i64 0)))) .nil)) .ret)
theorem u_iplaceOf_8 (P : Program) (k : KT) (e : Env) (w : World) : vcK P t_iplaceOf_8 k e w = vcK P (.seq (.reg [4] (.c (.q 4 [] (.mv (.c (.int .i64 0)))) .nil)) .ret) k e w := rfl
def t_iplaceOf_9 : X := (.seq (.seq (.reg [0, 1, 7, 8] (.c (.q 6 [] (.mv (.t 0))) (.c (.q 7 [] (.len (.t 6))) (.c (.q 8 [] (.mv (.c (.int .i64 0)))) .nil)))) t_iplaceOf_7) t_iplaceOf_8)
theorem u_iplaceOf_9 (P : Program) (k : KT) (e : Env) (w : World) : vcK P t_iplaceOf_9 k e w = vcK P (.seq (.seq (.reg [0, 1, 7, 8] (.c (.q 6 [] (.mv (.t 0))) (.c (.q 7 [] (.len (.t 6))) (.c (.q 8 [] (.mv (.c (.int .i64 0)))) .nil)))) t_iplaceOf_7) t_iplaceOf_8) k e w := rfl
def x_iplaceOf : X := (.seq (.reg [0, 1] (.c (.q 4 [] (.mv (.c (.int .i64 0)))) .nil)) t_iplaceOf_9)
theorem u_iplaceOf (P : Program) (k : KT) (e : Env) (w : World) : vcK P x_iplaceOf k e w = vcK P (.seq (.reg [0, 1] (.c (.q 4 [] (.mv (.c (.int .i64 0)))) .nil)) t_iplaceOf_9) k e w := rfl
def r_iplaceOf : List XO := [(.mv (.t 4))]
theorem c_iplaceOf : convF Try.prog [145, 147, 148, 149, 158, 205, 206, 232, 234, 247, 248, 256, 261, 283, 284, 299, 300, 307] Try.f275 [([0, 1], []), ([0, 1, 7, 8], []), ([8], [0, 1, 7]), ([0, 1, 7, 8, 9], []), ([0, 1, 5, 7, 8], []), ([0, 1, 5, 7, 8, 17], []), ([4], []), ([0, 1, 7, 8], []), ([4], [])] = some (x_iplaceOf, r_iplaceOf) := by kernel_rfl
def us_iplaceOf := And.intro @u_iplaceOf (And.intro @u_iplaceOf_1 (And.intro @u_iplaceOf_2 (And.intro @u_iplaceOf_3 (And.intro @u_iplaceOf_4 (And.intro @u_iplaceOf_5 (And.intro @u_iplaceOf_6 (And.intro @u_iplaceOf_7 (And.intro @u_iplaceOf_8 @u_iplaceOf_9))))))))
def t_icallMoves_1 : X := (.cond (.t 19) (.seq (.reg [6, 7] (.c (.q 6 [] (.mv (.c (.slice none 0 0)))) (.c (.q 7 [] (.mv (.c (.bool false)))) .nil))) .ret) .skip)
theorem u_icallMoves_1 (P : Program) (k : KT) (e : Env) (w : World) : vcK P t_icallMoves_1 k e w = vcK P (.cond (.t 19) (.seq (.reg [6, 7] (.c (.q 6 [] (.mv (.c (.slice none 0 0)))) (.c (.q 7 [] (.mv (.c (.bool false)))) .nil))) .ret) .skip) k e w := rfl
def t_icallMoves_2 : X := (.reg [9, 10, 11, 28, 29] (.c (.q 32 [] (.mv (.t 11))) (.c (.q 33 [] (.mv (.t 9))) (.c (.q 34 [] (.mv (.t 10))) (.c (.q 35 [] (.mv (.t 12))) (.c (.q 36 [] (.idx (.t 34) (.t 35))) (.c (.q 37 [] (.bin .sub (.t 36) (.c (.int .u8 48)))) (.c (.q 38 [] (.cvi .i64 (.t 37))) (.c (.e (some 39) [] (.call false 275 [(.t 33), (.t 38)])) (.c (.q 40 [] (.bin .sub (.t 39) (.c (.int .i64 1)))) (.c (.e (some 41) [] (.bsl 3 1 [(.t 40)])) (.c (.e (some 42) [] (.app 28 3 1 8 [(.int .i64 0)] 28 (.t 32) (.t 41))) (.c (.q 11 [] (.mv (.t 42))) .nil)))))))))))))
theorem u_icallMoves_2 (P : Program) (k : KT) (e : Env) (w : World) : vcK P t_icallMoves_2 k e w = vcK P (.reg [9, 10, 11, 28, 29] (.c (.q 32 [] (.mv (.t 11))) (.c (.q 33 [] (.mv (.t 9))) (.c (.q 34 [] (.mv (.t 10))) (.c (.q 35 [] (.mv (.t 12))) (.c (.q 36 [] (.idx (.t 34) (.t 35))) (.c (.q 37 [] (.bin .sub (.t 36) (.c (.int .u8 48)))) (.c (.q 38 [] (.cvi .i64 (.t 37))) (.c (.e (some 39) [] (.call false 275 [(.t 33), (.t 38)])) (.c (.q 40 [] (.bin .sub (.t 39) (.c (.int .i64 1)))) (.c (.e (some 41) [] (.bsl 3 1 [(.t 40)])) (.c (.e (some 42) [] (.app 28 3 1 8 [(.int .i64 0)] 28 (.t 32) (.t 41))) (.c (.q 11 [] (.mv (.t 42))) .nil))))))))))))) k e w := rfl
def t_icallMoves_3 : X := (.reg [9, 10, 11, 28, 29] (.c (.q 43 [] (.bin .add (.t 29) (.c (.int .i64 1)))) (.c (.q 29 [] (.mv (.t 43))) .nil)))
theorem u_icallMoves_3 (P : Program) (k : KT) (e : Env) (w : World) : vcK P t_icallMoves_3 k e w = vcK P (.reg [9, 10, 11, 28, 29] (.c (.q 43 [] (.bin .add (.t 29) (.c (.int .i64 1)))) (.c (.q 29 [] (.mv (.t 43))) .nil))) k e w := rfl
def t_icallMoves_4 : X := (.seq (.blk 1 (.seq (.reg [9, 10, 11, 12, 28, 29] (.c (.q 31 [] (.mv (.t 29))) (.c (.q 12 [] (.mv (.t 31))) .nil))) t_icallMoves_2)) t_icallMoves_3)
theorem u_icallMoves_4 (P : Program) (k : KT) (e : Env) (w : World) : vcK P t_icallMoves_4 k e w = vcK P (.seq (.blk 1 (.seq (.reg [9, 10, 11, 12, 28, 29] (.c (.q 31 [] (.mv (.t 29))) (.c (.q 12 [] (.mv (.t 31))) .nil))) t_icallMoves_2)) t_icallMoves_3) k e w := rfl
def t_icallMoves_5 : X := (.seq (.cond (.t 30) .skip (.exit 0)) t_icallMoves_4)
theorem u_icallMoves_5 (P : Program) (k : KT) (e : Env) (w : World) : vcK P t_icallMoves_5 k e w = vcK P (.seq (.cond (.t 30) .skip (.exit 0)) t_icallMoves_4) k e w := rfl
def t_icallMoves_6 : X := (.seq (.reg [9, 10, 11, 28, 29, 30] (.c (.q 30 [] (.bin .lss (.t 29) (.t 28))) .nil)) t_icallMoves_5)
theorem u_icallMoves_6 (P : Program) (k : KT) (e : Env) (w : World) : vcK P t_icallMoves_6 k e w = vcK P (.seq (.reg [9, 10, 11, 28, 29, 30] (.c (.q 30 [] (.bin .lss (.t 29) (.t 28))) .nil)) t_icallMoves_5) k e w := rfl
def t_icallMoves_7 : X := (.blk 0 (.loop [11, 29] [9, 10, 28] t_icallMoves_6))
theorem u_icallMoves_7 (P : Program) (k : KT) (e : Env) (w : World) : vcK P t_icallMoves_7 k e w = vcK P (.blk 0 (.loop [11, 29] [9, 10, 28] t_icallMoves_6)) k e w := rfl
def t_icallMoves_8 : X := (.seq (.reg [6, 7] (.c (.q 44 [] (.mv (.t 11))) (.c (.q 6 [] (.mv (.t 44))) (.c (.q 7 [] (.mv (.c (.bool true)))) .nil)))) .ret)
theorem u_icallMoves_8 (P : Program) (k : KT) (e : Env) (w : World) : vcK P t_icallMoves_8 k e w = vcK P (.seq (.reg [6, 7] (.c (.q 44 [] (.mv (.t 11))) (.c (.q 6 [] (.mv (.t 44))) (.c (.q 7 [] (.mv (.c (.bool true)))) .nil)))) .ret) k e w := rfl
def t_icallMoves_9 : X := (.seq (.seq (.reg [9, 10, 11, 28, 29] (.c (.q 27 [] (.mv (.t 10))) (.c (.q 28 [] (.len (.t 27))) (.c (.q 29 [] (.mv (.c (.int .i64 0)))) .nil)))) t_icallMoves_7) t_icallMoves_8)
theorem u_icallMoves_9 (P : Program) (k : KT) (e : Env) (w : World) : vcK P t_icallMoves_9 k e w = vcK P (.seq (.seq (.reg [9, 10, 11, 28, 29] (.c (.q 27 [] (.mv (.t 10))) (.c (.q 28 [] (.len (.t 27))) (.c (.q 29 [] (.mv (.c (.int .i64 0)))) .nil)))) t_icallMoves_7) t_icallMoves_8) k e w := rfl
def t_icallMoves_10 : X := (.seq (.reg [9, 10, 11] (.c (.e (some 26) [] (.bsl 3 1 [])) (.c (.q 11 [] (.mv (.t 26))) .nil))) t_icallMoves_9)
theorem u_icallMoves_10 (P : Program) (k : KT) (e : Env) (w : World) : vcK P t_icallMoves_10 k e w = vcK P (.seq (.reg [9, 10, 11] (.c (.e (some 26) [] (.bsl 3 1 [])) (.c (.q 11 [] (.mv (.t 26))) .nil))) t_icallMoves_9) k e w := rfl
def t_icallMoves_11 : X := (.seq (.reg [9, 10] (.c (.q 24 [] (.mv (.t 8))) (.c (.e (some 25) [] (.call false 185 [(.t 24)])) (.c (.q 10 [] (.mv (.t 25))) .nil)))) t_icallMoves_10)
theorem u_icallMoves_11 (P : Program) (k : KT) (e : Env) (w : World) : vcK P t_icallMoves_11 k e w = vcK P (.seq (.reg [9, 10] (.c (.q 24 [] (.mv (.t 8))) (.c (.e (some 25) [] (.call false 185 [(.t 24)])) (.c (.q 10 [] (.mv (.t 25))) .nil)))) t_icallMoves_10) k e w := rfl
def t_icallMoves_12 : X := (.seq (.reg [8, 9] (.c (.q 20 [] (.fa 1 (.t 3))) (.c (.q 21 [] (.ld (.t 20))) (.c (.e (some 22) [] (.call false 161 [(.t 21)])) (.c (.e (some 23) [] (.call false 185 [(.t 22)])) (.c (.q 9 [] (.mv (.t 23))) .nil)))))) t_icallMoves_11)
theorem u_icallMoves_12 (P : Program) (k : KT) (e : Env) (w : World) : vcK P t_icallMoves_12 k e w = vcK P (.seq (.reg [8, 9] (.c (.q 20 [] (.fa 1 (.t 3))) (.c (.q 21 [] (.ld (.t 20))) (.c (.e (some 22) [] (.call false 161 [(.t 21)])) (.c (.e (some 23) [] (.call false 185 [(.t 22)])) (.c (.q 9 [] (.mv (.t 23))) .nil)))))) t_icallMoves_11) k e w := rfl
def t_icallMoves_13 : X := (.seq (.seq (.reg [3, 8, 19] (.c (.q 17 [] (.mv (.t 8))) (.c (.q 18 [] (.idx (.t 17) (.c (.int .i64 0)))) (.c (.q 19 [] (.bin .neq (.t 18) (.c (.int .u8 49)))) .nil)))) t_icallMoves_1) t_icallMoves_12)
theorem u_icallMoves_13 (P : Program) (k : KT) (e : Env) (w : World) : vcK P t_icallMoves_13 k e w = vcK P (.seq (.seq (.reg [3, 8, 19] (.c (.q 17 [] (.mv (.t 8))) (.c (.q 18 [] (.idx (.t 17) (.c (.int .i64 0)))) (.c (.q 19 [] (.bin .neq (.t 18) (.c (.int .u8 49)))) .nil)))) t_icallMoves_1) t_icallMoves_12) k e w := rfl
def t_icallMoves_14 : X := (.seq (.reg [3, 8] (.c (.q 13 [] (.lda 3 (.t 3))) (.c (.q 14 [] (.lda 2 (.t 4))) (.c (.q 15 [] (.mv (.t 2))) (.c (.e (some 16) [] (.call false 271 [(.t 13), (.t 14), (.t 15)])) (.c (.q 8 [] (.mv (.t 16))) .nil)))))) t_icallMoves_13)
theorem u_icallMoves_14 (P : Program) (k : KT) (e : Env) (w : World) : vcK P t_icallMoves_14 k e w = vcK P (.seq (.reg [3, 8] (.c (.q 13 [] (.lda 3 (.t 3))) (.c (.q 14 [] (.lda 2 (.t 4))) (.c (.q 15 [] (.mv (.t 2))) (.c (.e (some 16) [] (.call false 271 [(.t 13), (.t 14), (.t 15)])) (.c (.q 8 [] (.mv (.t 16))) .nil)))))) t_icallMoves_13) k e w := rfl
def x_icallMoves : X := (.seq (.reg [2, 3, 4] (.c (.e (some 3) [] (.box 58 (.t 0))) (.c (.e (some 4) [] (.box 47 (.t 1))) (.c (.q 6 [] (.mv (.c (.slice none 0 0)))) (.c (.q 7 [] (.mv (.c (.bool false)))) .nil))))) t_icallMoves_14)
theorem u_icallMoves (P : Program) (k : KT) (e : Env) (w : World) : vcK P x_icallMoves k e w = vcK P (.seq (.reg [2, 3, 4] (.c (.e (some 3) [] (.box 58 (.t 0))) (.c (.e (some 4) [] (.box 47 (.t 1))) (.c (.q 6 [] (.mv (.c (.slice none 0 0)))) (.c (.q 7 [] (.mv (.c (.bool false)))) .nil))))) t_icallMoves_14) k e w := rfl
def r_icallMoves : List XO := [(.mv (.t 6)), (.mv (.t 7))]
theorem c_icallMoves : convF Try.prog [145, 147, 148, 149, 158, 205, 206, 232, 234, 247, 248, 256, 261, 283, 284, 299, 300, 307] Try.f186 [([2, 3, 4], []), ([3, 8], []), ([3, 8, 19], []), ([6, 7], []), ([8, 9], []), ([9, 10], []), ([9, 10, 11], []), ([9, 10, 11, 28, 29], []), ([11, 29], [9, 10, 28]), ([9, 10, 11, 28, 29, 30], []), ([9, 10, 11, 12, 28, 29], []), ([9, 10, 11, 28, 29], []), ([9, 10, 11, 28, 29], []), ([6, 7], [])] = some (x_icallMoves, r_icallMoves) := by kernel_rfl
def us_icallMoves := And.intro @u_icallMoves (And.intro @u_icallMoves_1 (And.intro @u_icallMoves_2 (And.intro @u_icallMoves_3 (And.intro @u_icallMoves_4 (And.intro @u_icallMoves_5 (And.intro @u_icallMoves_6 (And.intro @u_icallMoves_7 (And.intro @u_icallMoves_8 (And.intro @u_icallMoves_9 (And.intro @u_icallMoves_10 (And.intro @u_icallMoves_11 (And.intro @u_icallMoves_12 (And.intro @u_icallMoves_13 @u_icallMoves_14)))))))))))))
def t_sl15Moves_1 : X := (.cond (.t 27) (.reg [3, 4, 6, 15, 20] (.c (.q 28 [] (.mv (.t 4))) (.c (.q 29 [] (.mv (.t 7))) (.c (.e (some 30) [] (.bsl 3 1 [(.t 29)])) (.c (.e (some 31) [] (.app 28 3 1 8 [(.int .i64 0)] 28 (.t 28) (.t 30))) (.c (.q 4 [] (.mv (.t 31))) .nil)))))) .skip)
theorem u_sl15Moves_1 (P : Program) (k : KT) (e : Env) (w : World) : vcK P t_sl15Moves_1 k e w = vcK P (.cond (.t 27) (.reg [3, 4, 6, 15, 20] (.c (.q 28 [] (.mv (.t 4))) (.c (.q 29 [] (.mv (.t 7))) (.c (.e (some 30) [] (.bsl 3 1 [(.t 29)])) (.c (.e (some 31) [] (.app 28 3 1 8 [(.int .i64 0)] 28 (.t 28) (.t 30))) (.c (.q 4 [] (.mv (.t 31))) .nil)))))) .skip) k e w := rfl
def t_sl15Moves_2 : X := (.seq (.reg [3, 4, 6, 7, 15, 20, 27] (.c (.q 25 [] (.mv (.t 8))) (.c (.q 26 [] (.mv (.t 6))) (.c (.q 27 [] (.bin .eql (.t 25) (.t 26))) .nil)))) t_sl15Moves_1)
theorem u_sl15Moves_2 (P : Program) (k : KT) (e : Env) (w : World) : vcK P t_sl15Moves_2 k e w = vcK P (.seq (.reg [3, 4, 6, 7, 15, 20, 27] (.c (.q 25 [] (.mv (.t 8))) (.c (.q 26 [] (.mv (.t 6))) (.c (.q 27 [] (.bin .eql (.t 25) (.t 26))) .nil)))) t_sl15Moves_1) k e w := rfl
def t_sl15Moves_3 : X := (.blk 3 (.seq (.reg [3, 4, 6, 7, 8, 15, 20] (.c (.q 23 [] (.ext 1 (.t 21))) (.c (.q 24 [] (.ext 2 (.t 21))) (.c (.q 7 [] (.mv (.t 23))) (.c (.q 8 [] (.mv (.t 24))) .nil))))) t_sl15Moves_2))
theorem u_sl15Moves_3 (P : Program) (k : KT) (e : Env) (w : World) : vcK P t_sl15Moves_3 k e w = vcK P (.blk 3 (.seq (.reg [3, 4, 6, 7, 8, 15, 20] (.c (.q 23 [] (.ext 1 (.t 21))) (.c (.q 24 [] (.ext 2 (.t 21))) (.c (.q 7 [] (.mv (.t 23))) (.c (.q 8 [] (.mv (.t 24))) .nil))))) t_sl15Moves_2)) k e w := rfl
def t_sl15Moves_4 : X := (.seq (.cond (.t 22) .skip (.exit 2)) t_sl15Moves_3)
theorem u_sl15Moves_4 (P : Program) (k : KT) (e : Env) (w : World) : vcK P t_sl15Moves_4 k e w = vcK P (.seq (.cond (.t 22) .skip (.exit 2)) t_sl15Moves_3) k e w := rfl
def t_sl15Moves_5 : X := (.seq (.reg [3, 4, 6, 15, 20, 21, 22] (.c (.e (some 21) [] (.nxt (.t 20))) (.c (.q 22 [] (.ext 0 (.t 21))) .nil))) t_sl15Moves_4)
theorem u_sl15Moves_5 (P : Program) (k : KT) (e : Env) (w : World) : vcK P t_sl15Moves_5 k e w = vcK P (.seq (.reg [3, 4, 6, 15, 20, 21, 22] (.c (.e (some 21) [] (.nxt (.t 20))) (.c (.q 22 [] (.ext 0 (.t 21))) .nil))) t_sl15Moves_4) k e w := rfl
def t_sl15Moves_6 : X := (.blk 2 (.loop [4] [3, 6, 15, 20] t_sl15Moves_5))
theorem u_sl15Moves_6 (P : Program) (k : KT) (e : Env) (w : World) : vcK P t_sl15Moves_6 k e w = vcK P (.blk 2 (.loop [4] [3, 6, 15, 20] t_sl15Moves_5)) k e w := rfl
def t_sl15Moves_7 : X := (.seq (.reg [3, 4, 6, 15, 20] (.c (.q 19 [] (.mv (.t 3))) (.c (.e (some 20) [] (.rng (.t 19))) .nil))) t_sl15Moves_6)
theorem u_sl15Moves_7 (P : Program) (k : KT) (e : Env) (w : World) : vcK P t_sl15Moves_7 k e w = vcK P (.seq (.reg [3, 4, 6, 15, 20] (.c (.q 19 [] (.mv (.t 3))) (.c (.e (some 20) [] (.rng (.t 19))) .nil))) t_sl15Moves_6) k e w := rfl
def t_sl15Moves_8 : X := (.blk 1 (.seq (.reg [3, 4, 6, 15] (.c (.q 18 [] (.ext 2 (.t 16))) (.c (.q 6 [] (.mv (.t 18))) .nil))) t_sl15Moves_7))
theorem u_sl15Moves_8 (P : Program) (k : KT) (e : Env) (w : World) : vcK P t_sl15Moves_8 k e w = vcK P (.blk 1 (.seq (.reg [3, 4, 6, 15] (.c (.q 18 [] (.ext 2 (.t 16))) (.c (.q 6 [] (.mv (.t 18))) .nil))) t_sl15Moves_7)) k e w := rfl
def t_sl15Moves_9 : X := (.seq (.cond (.t 17) .skip (.exit 0)) t_sl15Moves_8)
theorem u_sl15Moves_9 (P : Program) (k : KT) (e : Env) (w : World) : vcK P t_sl15Moves_9 k e w = vcK P (.seq (.cond (.t 17) .skip (.exit 0)) t_sl15Moves_8) k e w := rfl
def t_sl15Moves_10 : X := (.seq (.reg [3, 4, 15, 16, 17] (.c (.e (some 16) [] (.nxt (.t 15))) (.c (.q 17 [] (.ext 0 (.t 16))) .nil))) t_sl15Moves_9)
theorem u_sl15Moves_10 (P : Program) (k : KT) (e : Env) (w : World) : vcK P t_sl15Moves_10 k e w = vcK P (.seq (.reg [3, 4, 15, 16, 17] (.c (.e (some 16) [] (.nxt (.t 15))) (.c (.q 17 [] (.ext 0 (.t 16))) .nil))) t_sl15Moves_9) k e w := rfl
def t_sl15Moves_11 : X := (.blk 0 (.loop [4] [3, 15] t_sl15Moves_10))
theorem u_sl15Moves_11 (P : Program) (k : KT) (e : Env) (w : World) : vcK P t_sl15Moves_11 k e w = vcK P (.blk 0 (.loop [4] [3, 15] t_sl15Moves_10)) k e w := rfl
def t_sl15Moves_12 : X := (.seq (.reg [2] (.c (.q 32 [] (.mv (.t 4))) (.c (.q 2 [] (.mv (.t 32))) .nil))) .ret)
theorem u_sl15Moves_12 (P : Program) (k : KT) (e : Env) (w : World) : vcK P t_sl15Moves_12 k e w = vcK P (.seq (.reg [2] (.c (.q 32 [] (.mv (.t 4))) (.c (.q 2 [] (.mv (.t 32))) .nil))) .ret) k e w := rfl
def t_sl15Moves_13 : X := (.seq (.seq (.reg [3, 4, 15] (.c (.q 13 [] (.mv (.t 0))) (.c (.e (some 14) [] (.call false 179 [(.t 13)])) (.c (.e (some 15) [] (.rng (.t 14))) .nil)))) t_sl15Moves_11) t_sl15Moves_12)
theorem u_sl15Moves_13 (P : Program) (k : KT) (e : Env) (w : World) : vcK P t_sl15Moves_13 k e w = vcK P (.seq (.seq (.reg [3, 4, 15] (.c (.q 13 [] (.mv (.t 0))) (.c (.e (some 14) [] (.call false 179 [(.t 13)])) (.c (.e (some 15) [] (.rng (.t 14))) .nil)))) t_sl15Moves_11) t_sl15Moves_12) k e w := rfl
def t_sl15Moves_14 : X := (.seq (.reg [0, 3, 4] (.c (.q 4 [] (.mv (.c (.slice none 0 0)))) .nil)) t_sl15Moves_13)
theorem u_sl15Moves_14 (P : Program) (k : KT) (e : Env) (w : World) : vcK P t_sl15Moves_14 k e w = vcK P (.seq (.reg [0, 3, 4] (.c (.q 4 [] (.mv (.c (.slice none 0 0)))) .nil)) t_sl15Moves_13) k e w := rfl
def t_sl15Moves_15 : X := (.seq (.reg [0, 3] (.c (.q 9 [] (.mv (.t 0))) (.c (.q 10 [] (.len (.t 9))) (.c (.e (some 11) [] (.call false 180 [(.t 10)])) (.c (.e (some 12) [] (.call false 179 [(.t 11)])) (.c (.q 3 [] (.mv (.t 12))) .nil)))))) t_sl15Moves_14)
theorem u_sl15Moves_15 (P : Program) (k : KT) (e : Env) (w : World) : vcK P t_sl15Moves_15 k e w = vcK P (.seq (.reg [0, 3] (.c (.q 9 [] (.mv (.t 0))) (.c (.q 10 [] (.len (.t 9))) (.c (.e (some 11) [] (.call false 180 [(.t 10)])) (.c (.e (some 12) [] (.call false 179 [(.t 11)])) (.c (.q 3 [] (.mv (.t 12))) .nil)))))) t_sl15Moves_14) k e w := rfl
def x_sl15Moves : X := (.seq (.reg [0] (.c (.q 2 [] (.mv (.c (.slice none 0 0)))) .nil)) t_sl15Moves_15)
theorem u_sl15Moves (P : Program) (k : KT) (e : Env) (w : World) : vcK P x_sl15Moves k e w = vcK P (.seq (.reg [0] (.c (.q 2 [] (.mv (.c (.slice none 0 0)))) .nil)) t_sl15Moves_15) k e w := rfl
def r_sl15Moves : List XO := [(.mv (.t 2))]
theorem c_sl15Moves : convF Try.prog [145, 147, 148, 149, 158, 205, 206, 232, 234, 247, 248, 256, 261, 283, 284, 299, 300, 307] Try.f273 [([0], []), ([0, 3], []), ([0, 3, 4], []), ([3, 4, 15], []), ([4], [3, 15]), ([3, 4, 15, 16, 17], []), ([3, 4, 6, 15], []), ([3, 4, 6, 15, 20], []), ([4], [3, 6, 15, 20]), ([3, 4, 6, 15, 20, 21, 22], []), ([3, 4, 6, 7, 8, 15, 20], []), ([3, 4, 6, 7, 15, 20, 27], []), ([3, 4, 6, 15, 20], []), ([2], [])] = some (x_sl15Moves, r_sl15Moves) := by kernel_rfl
def us_sl15Moves := And.intro @u_sl15Moves (And.intro @u_sl15Moves_1 (And.intro @u_sl15Moves_2 (And.intro @u_sl15Moves_3 (And.intro @u_sl15Moves_4 (And.intro @u_sl15Moves_5 (And.intro @u_sl15Moves_6 (And.intro @u_sl15Moves_7 (And.intro @u_sl15Moves_8 (And.intro @u_sl15Moves_9 (And.intro @u_sl15Moves_10 (And.intro @u_sl15Moves_11 (And.intro @u_sl15Moves_12 (And.intro @u_sl15Moves_13 (And.intro @u_sl15Moves_14 @u_sl15Moves_15))))))))))))))
def t_sCallMoves_1 : X := (.cond (.t 25) (.seq (.reg [6, 7] (.c (.q 6 [] (.mv (.c (.slice none 0 0)))) (.c (.q 7 [] (.mv (.c (.bool false)))) .nil))) .ret) .skip)
theorem u_sCallMoves_1 (P : Program) (k : KT) (e : Env) (w : World) : vcK P t_sCallMoves_1 k e w = vcK P (.cond (.t 25) (.seq (.reg [6, 7] (.c (.q 6 [] (.mv (.c (.slice none 0 0)))) (.c (.q 7 [] (.mv (.c (.bool false)))) .nil))) .ret) .skip) k e w := rfl
def t_sCallMoves_2 : X := (.seq (.reg [6, 7] (.c (.q 26 [] (.lda 3 (.t 3))) (.c (.q 27 [] (.lda 2 (.t 4))) (.c (.q 28 [] (.mv (.t 2))) (.c (.e (some 29) [] (.call false 243 [(.t 26), (.t 27), (.t 28)])) (.c (.e (some 30) [] (.call false 273 [(.t 29)])) (.c (.q 6 [] (.mv (.t 30))) (.c (.q 7 [] (.mv (.c (.bool true)))) .nil)))))))) .ret)
theorem u_sCallMoves_2 (P : Program) (k : KT) (e : Env) (w : World) : vcK P t_sCallMoves_2 k e w = vcK P (.seq (.reg [6, 7] (.c (.q 26 [] (.lda 3 (.t 3))) (.c (.q 27 [] (.lda 2 (.t 4))) (.c (.q 28 [] (.mv (.t 2))) (.c (.e (some 29) [] (.call false 243 [(.t 26), (.t 27), (.t 28)])) (.c (.e (some 30) [] (.call false 273 [(.t 29)])) (.c (.q 6 [] (.mv (.t 30))) (.c (.q 7 [] (.mv (.c (.bool true)))) .nil)))))))) .ret) k e w := rfl
def t_sCallMoves_3 : X := (.seq (.seq (.reg [2, 3, 4, 25] (.c (.q 8 [] (.lda 3 (.t 3))) (.c (.e (some 9) [] (.call false 177 [(.t 8)])) (.c (.q 10 [] (.not (.t 9))) (.c (.q 11 [] (.mv (.t 10))) (.c (.q 12 [(11, false)] (.lda 3 (.t 3))) (.c (.q 13 [(11, false)] (.lda 2 (.t 4))) (.c (.q 14 [(11, false)] (.mv (.t 2))) (.c (.e (some 15) [(11, false)] (.call false 242 [(.t 12), (.t 13), (.t 14)])) (.c (.q 16 [(11, false)] (.not (.t 15))) (.c (.q 17 [] (.pick (.t 11) (.c (.bool true)) (.t 16))) (.c (.q 18 [] (.mv (.t 17))) (.c (.q 19 [(18, false)] (.lda 3 (.t 3))) (.c (.q 20 [(18, false)] (.lda 2 (.t 4))) (.c (.q 21 [(18, false)] (.mv (.t 2))) (.c (.e (some 22) [(18, false)] (.call false 243 [(.t 19), (.t 20), (.t 21)])) (.c (.q 23 [(18, false)] (.idx (.t 22) (.c (.int .i64 0)))) (.c (.q 24 [(18, false)] (.bin .neq (.t 23) (.c (.int .u8 49)))) (.c (.q 25 [] (.pick (.t 18) (.c (.bool true)) (.t 24))) .nil))))))))))))))))))) t_sCallMoves_1) t_sCallMoves_2)
theorem u_sCallMoves_3 (P : Program) (k : KT) (e : Env) (w : World) : vcK P t_sCallMoves_3 k e w = vcK P (.seq (.seq (.reg [2, 3, 4, 25] (.c (.q 8 [] (.lda 3 (.t 3))) (.c (.e (some 9) [] (.call false 177 [(.t 8)])) (.c (.q 10 [] (.not (.t 9))) (.c (.q 11 [] (.mv (.t 10))) (.c (.q 12 [(11, false)] (.lda 3 (.t 3))) (.c (.q 13 [(11, false)] (.lda 2 (.t 4))) (.c (.q 14 [(11, false)] (.mv (.t 2))) (.c (.e (some 15) [(11, false)] (.call false 242 [(.t 12), (.t 13), (.t 14)])) (.c (.q 16 [(11, false)] (.not (.t 15))) (.c (.q 17 [] (.pick (.t 11) (.c (.bool true)) (.t 16))) (.c (.q 18 [] (.mv (.t 17))) (.c (.q 19 [(18, false)] (.lda 3 (.t 3))) (.c (.q 20 [(18, false)] (.lda 2 (.t 4))) (.c (.q 21 [(18, false)] (.mv (.t 2))) (.c (.e (some 22) [(18, false)] (.call false 243 [(.t 19), (.t 20), (.t 21)])) (.c (.q 23 [(18, false)] (.idx (.t 22) (.c (.int .i64 0)))) (.c (.q 24 [(18, false)] (.bin .neq (.t 23) (.c (.int .u8 49)))) (.c (.q 25 [] (.pick (.t 18) (.c (.bool true)) (.t 24))) .nil))))))))))))))))))) t_sCallMoves_1) t_sCallMoves_2) k e w := rfl
def x_sCallMoves : X := (.seq (.reg [2, 3, 4] (.c (.e (some 3) [] (.box 58 (.t 0))) (.c (.e (some 4) [] (.box 47 (.t 1))) (.c (.q 6 [] (.mv (.c (.slice none 0 0)))) (.c (.q 7 [] (.mv (.c (.bool false)))) .nil))))) t_sCallMoves_3)
theorem u_sCallMoves (P : Program) (k : KT) (e : Env) (w : World) : vcK P x_sCallMoves k e w = vcK P (.seq (.reg [2, 3, 4] (.c (.e (some 3) [] (.box 58 (.t 0))) (.c (.e (some 4) [] (.box 47 (.t 1))) (.c (.q 6 [] (.mv (.c (.slice none 0 0)))) (.c (.q 7 [] (.mv (.c (.bool false)))) .nil))))) t_sCallMoves_3) k e w := rfl
def r_sCallMoves : List XO := [(.mv (.t 6)), (.mv (.t 7))]
theorem c_sCallMoves : convF Try.prog [145, 147, 148, 149, 158, 205, 206, 232, 234, 247, 248, 256, 261, 283, 284, 299, 300, 307] Try.f181 [([2, 3, 4], []), ([2, 3, 4, 25], []), ([6, 7], []), ([6, 7], [])] = some (x_sCallMoves, r_sCallMoves) := by kernel_rfl
def us_sCallMoves := And.intro @u_sCallMoves (And.intro @u_sCallMoves_1 (And.intro @u_sCallMoves_2 @u_sCallMoves_3))

/-- The coursing order of rounds. -/
def wholeL (n : Nat) : List UInt8 := courseL (roundsL n)
/-- The place of a bell in the coursing order of rounds. -/
def posC (n : Nat) (b : UInt8) : Nat := (wholeL n).findIdx fun x => x == b
theorem whole_len : ∀ n < 9, (wholeL n).length = n - 1 := by decide
theorem whole_low : ∀ n < 9, ∀ c ∈ wholeL n, 50 ≤ c.toNat ∧ c.toNat ≤ 56 := by decide
theorem whole_pos : ∀ n < 9, ∀ v < 9, 2 ≤ v → v ≤ n → posC n (UInt8.ofNat (48 + v)) < (wholeL n).length := by decide +kernel
theorem whole_at : ∀ n < 9, ∀ v < 9, 2 ≤ v → v ≤ n → ∀ i < (wholeL n).length, decide ((wholeL n).getD i 0 = UInt8.ofNat (48 + v)) = decide (i = posC n (UInt8.ofNat (48 + v))) := by decide +kernel
def movesL (h : List UInt8) : List Nat := (courseL h).map (posC h.length)
theorem course_len (h : List UInt8) (hl : h.length < 9) : (courseL h).length = h.length - 1 := by rw [courseL, List.length_map, cou_len _ hl]
/-- The bells of a coursing order. -/
theorem course_get {h : List UInt8} (hr : IsRow h) (h1 : h.getD 0 0 = 49) (i : Nat) (hi : i < (courseL h).length) : ∃ v, 2 ≤ v ∧ v ≤ h.length ∧ (courseL h).getD i 0 = UInt8.ofNat (48 + v) := by
  have h8 := hr.1
  have hlt : i < (coursingL h.length).length := by simpa [courseL] using hi
  have hp := cou_in _ (by omega) i hlt
  rw [courseL, getD_map _ 0 _ _ _ hlt]
  obtain ⟨q, hq⟩ : ∃ q : Nat, (coursingL h.length).getD i 0 = (q + 1 : Nat) := ⟨((coursingL h.length).getD i 0).toNat - 1, by omega⟩
  rw [hq] at hp ⊢
  rw [Int.toNat_natCast, Nat.add_sub_cancel]
  have hlow := hr.low (i := q) (by omega)
  have hhigh := hr.high (i := q) (by omega)
  have hne := (hr.2 q (by omega)).2.2 0 (by omega)
  rw [h1] at hne
  have hn : (h.getD q 0).toNat ≠ 49 := fun e => hne (UInt8.toNat_inj.1 (by rw [e]; rfl))
  refine ⟨(h.getD q 0).toNat - 48, by omega, by omega, ?_⟩
  rw [show 48 + ((h.getD q 0).toNat - 48) = (h.getD q 0).toNat by omega]
  exact u8_eq rfl
theorem course_low {h : List UInt8} (hr : IsRow h) : ∀ c ∈ courseL h, 49 ≤ c.toNat ∧ c.toNat ≤ 56 := fun c hc => by
  have h8 := hr.1
  simp only [courseL, List.mem_map] at hc
  obtain ⟨p, hp, rfl⟩ := hc
  obtain ⟨i, hi, rfl⟩ := List.getElem_of_mem hp
  have hp := cou_in _ (by omega) i hi
  rw [List.getD_eq_getElem?_getD, List.getElem?_eq_getElem hi, Option.getD_some] at hp
  have hlow := hr.low (i := ((coursingL h.length)[i]).toNat - 1) (by omega)
  have hhigh := hr.high (i := ((coursingL h.length)[i]).toNat - 1) (by omega)
  omega
/-- p is the place of bell b in r, 0 if there is none. -/
def PlaceIs (r : List UInt8) (b : Int) (p : Nat) : Prop := (p = 0 ∧ ∀ i < r.length, ((r.getD i 0).toNat : Int) - 48 ≠ b) ∨ (1 ≤ p ∧ p ≤ r.length ∧ ((r.getD (p - 1) 0).toNat : Int) - 48 = b ∧ ∀ i < p - 1, ((r.getD i 0).toNat : Int) - 48 ≠ b)
theorem iplaceOf_ok (r : List UInt8) (b : Int) (hl : r.length ≤ 1000000) (hr : ∀ c ∈ r, 48 ≤ c.toNat) (w : World) : Fn 275 [S r, .int .i64 b] w (fun v _ => ∃ p : Nat, v = .int .i64 p ∧ PlaceIs r b p) := by
  (refine callsV_of mix Try.func275 c_iplaceOf ?_; simp only [↓vsd, vsn, gW, qd, qv, ev, pick, argE, List.map_cons, List.map_nil, Option.map_some, Option.map_none, zipE, List.cons_append, List.nil_append, ne_eq, eq_self, forall_const, implies_true, if_true, if_false, reduceIte, List.cons.injEq, reduceCtorEq, Nat.reduceEqDiff, List.length_nil, List.length_cons, Nat.reduceAdd, Nat.reduceLT, List.set_cons_zero, List.set_cons_succ, ↓us_iplaceOf, r_iplaceOf])
  refine m_upto r.length (fun k vs w' => vs = [.int .i64 k] ∧ (∀ i < k, ((r.getD i 0).toNat : Int) - 48 ≠ b) ∧ Ext w w') ⟨rfl, by simp, Ext.refl _⟩ ?_
  rintro k vs w1 hk ⟨rfl, hall, hx⟩
  by_cases hlt : k < r.length
  · have hltI : (k : Int) < r.length := by omega
    have hltJ : ¬ (r.length : Int) ≤ k := by omega
    have h48 := hr _ (getD_mem 0 hlt)
    have hb := (r.getD k 0).toNat_lt
    simp only [↓vsd, vsn, gW, qd, qv, ev, pick, argE, List.map_cons, List.map_nil, Option.map_some, Option.map_none, zipE, List.cons_append, List.nil_append, ne_eq, eq_self, forall_const, implies_true, if_true, if_false, reduceIte, List.cons.injEq, reduceCtorEq, Nat.reduceEqDiff, List.length_nil, List.length_cons, Nat.reduceAdd, Nat.reduceLT, List.set_cons_zero, List.set_cons_succ, ↓us_iplaceOf, r_iplaceOf, hltI, hltJ]
    refine ⟨by omega, inR_u8 (by omega), inR_i64 (by omega), fun he => ⟨inR_i64 (by omega), hx, k + 1, rfl, .inr ⟨by omega, by omega, by rw [Nat.add_sub_cancel]; exact he, by rw [Nat.add_sub_cancel]; exact hall⟩⟩, fun hne => ⟨inR_i64 (by omega), UpTo.next hlt ⟨rfl, fun i hi => ?_, hx⟩⟩⟩
    rcases Nat.lt_succ_iff_lt_or_eq.1 hi with h | rfl
    · exact hall i h
    · exact hne
  · obtain rfl : k = r.length := by omega
    have hltI : ¬ (r.length : Int) < r.length := by omega
    simp only [↓vsd, vsn, gW, qd, qv, ev, pick, argE, List.map_cons, List.map_nil, Option.map_some, Option.map_none, zipE, List.cons_append, List.nil_append, ne_eq, eq_self, forall_const, implies_true, if_true, if_false, reduceIte, List.cons.injEq, reduceCtorEq, Nat.reduceEqDiff, List.length_nil, List.length_cons, Nat.reduceAdd, Nat.reduceLT, List.set_cons_zero, List.set_cons_succ, ↓us_iplaceOf, r_iplaceOf, hltI]
    exact ⟨hx, 0, rfl, .inl ⟨rfl, hall⟩⟩
theorem iwithChanges_ok (nm : List UInt8) (st : Int) (v u : Value) (w : World) (hu : u.oneCell' = true) (hc : oneC u) : Fn 197 [mV nm st v, u] w (fun r _ => r = mV nm st u) := by
  (refine callsV_of mix Try.func197 c_iwithChanges ?_; simp only [↓vsd, vsn, gW, qd, qv, ev, pick, argE, List.map_cons, List.map_nil, Option.map_some, Option.map_none, zipE, List.cons_append, List.nil_append, ne_eq, eq_self, forall_const, implies_true, if_true, if_false, reduceIte, List.cons.injEq, reduceCtorEq, Nat.reduceEqDiff, List.length_nil, List.length_cons, Nat.reduceAdd, Nat.reduceLT, List.set_cons_zero, List.set_cons_succ, ↓us_iwithChanges, r_iwithChanges])
  refine m_al ?_
  rintro b1 w1 hb1 hblk1 hx1 hs1
  have h1 : Blk w1 b1 (fM nm st v) 58 := hblk1
  simp only [↓vsd, vsn, gW, qd, qv, ev, pick, argE, List.map_cons, List.map_nil, Option.map_some, Option.map_none, zipE, List.cons_append, List.nil_append, ne_eq, eq_self, forall_const, implies_true, if_true, if_false, reduceIte, List.cons.injEq, reduceCtorEq, Nat.reduceEqDiff, List.length_nil, List.length_cons, Nat.reduceAdd, Nat.reduceLT, List.set_cons_zero, List.set_cons_succ, ↓us_iwithChanges, r_iwithChanges, h1.facts, fMg]
  refine m_al ?_
  rintro b2 w2 hb2 hblk2 hx2 hs2
  have h12 := h1.ext hx2
  simp only [↓vsd, vsn, gW, qd, qv, ev, pick, argE, List.map_cons, List.map_nil, Option.map_some, Option.map_none, zipE, List.cons_append, List.nil_append, ne_eq, eq_self, forall_const, implies_true, if_true, if_false, reduceIte, List.cons.injEq, reduceCtorEq, Nat.reduceEqDiff, List.length_nil, List.length_cons, Nat.reduceAdd, Nat.reduceLT, List.set_cons_zero, List.set_cons_succ, ↓us_iwithChanges, r_iwithChanges, h12.facts, fMg]
  refine ⟨hc, m_st hblk2 rfl (Nat.le_refl 3) (fM_one nm st u hu) ?_⟩
  rintro w3 hblk3 hu3
  have h3 : Blk w3 b2 (fM nm st u) 58 := hblk3
  have hx3 : Ext w w3 := hu3.below (hx1.trans hx2) (by omega)
  simp only [↓vsd, vsn, gW, qd, qv, ev, pick, argE, List.map_cons, List.map_nil, Option.map_some, Option.map_none, zipE, List.cons_append, List.nil_append, ne_eq, eq_self, forall_const, implies_true, if_true, if_false, reduceIte, List.cons.injEq, reduceCtorEq, Nat.reduceEqDiff, List.length_nil, List.length_cons, Nat.reduceAdd, Nat.reduceLT, List.set_cons_zero, List.set_cons_succ, ↓us_iwithChanges, r_iwithChanges, h3.facts, fMg]
  exact hx3
theorem set_last {α : Type} {cs : List α} (h : 1 ≤ cs.length) (x : α) : cs.set (cs.length - 1) x = cs.take (cs.length - 1) ++ [x] := by
  rw [List.set_eq_take_append_cons_drop, if_pos (by omega), List.drop_eq_nil_of_le (by omega)]
theorem take_last {α : Type} {cs : List α} (d : α) (h : 1 ≤ cs.length) : cs.take (cs.length - 1) ++ [cs.getD (cs.length - 1) d] = cs := by
  have := set_last h (cs.getD (cs.length - 1) d)
  rw [← this]
  apply List.ext_getElem?
  intro i
  rw [List.getElem?_set]
  by_cases hi : cs.length - 1 = i
  · subst hi; rw [if_pos rfl, if_pos (by omega), List.getD_eq_getElem?_getD, List.getElem?_eq_getElem (by omega)]; rfl
  · rw [if_neg hi]
theorem icalledLead_ok (nm : List UInt8) (st : Int) (v : Value) (cs : List (List UInt8)) (b s call : List UInt8) (hc : 1 ≤ cs.length ∧ cs.length ≤ 40) (w : World) (h : Sq fS 1 w v cs) : Fn 305 [mV nm st v, kV b s, S call] w (fun r w' => ∃ x, r = mV nm st x ∧ Own fS 1 9 w.heap.size w' x (calledCs cs b s call)) := by
  (refine callsV_of mix Try.func305 c_icalledLead ?_; simp only [↓vsd, vsn, gW, qd, qv, ev, pick, argE, List.map_cons, List.map_nil, Option.map_some, Option.map_none, zipE, List.cons_append, List.nil_append, ne_eq, eq_self, forall_const, implies_true, if_true, if_false, reduceIte, List.cons.injEq, reduceCtorEq, Nat.reduceEqDiff, List.length_nil, List.length_cons, Nat.reduceAdd, Nat.reduceLT, List.set_cons_zero, List.set_cons_succ, ↓us_icalledLead, r_icalledLead])
  refine m_al ?_
  rintro b1 w1 hb1 hblk1 hx1 hs1
  have h1 : Blk w1 b1 (fM nm st v) 58 := hblk1
  simp only [↓vsd, vsn, gW, qd, qv, ev, pick, argE, List.map_cons, List.map_nil, Option.map_some, Option.map_none, zipE, List.cons_append, List.nil_append, ne_eq, eq_self, forall_const, implies_true, if_true, if_false, reduceIte, List.cons.injEq, reduceCtorEq, Nat.reduceEqDiff, List.length_nil, List.length_cons, Nat.reduceAdd, Nat.reduceLT, List.set_cons_zero, List.set_cons_succ, ↓us_icalledLead, r_icalledLead, h1.facts, fMg]
  refine m_al ?_
  rintro b2 w2 hb2 hblk2 hx2 hs2
  have h2 : Blk w2 b2 (fQ b s) 47 := hblk2
  have h12 := h1.ext hx2
  have hx12 := hx1.trans hx2
  simp only [↓vsd, vsn, gW, qd, qv, ev, pick, argE, List.map_cons, List.map_nil, Option.map_some, Option.map_none, zipE, List.cons_append, List.nil_append, ne_eq, eq_self, forall_const, implies_true, if_true, if_false, reduceIte, List.cons.injEq, reduceCtorEq, Nat.reduceEqDiff, List.length_nil, List.length_cons, Nat.reduceAdd, Nat.reduceLT, List.set_cons_zero, List.set_cons_succ, ↓us_icalledLead, r_icalledLead, h12.facts, h2.facts, fMg, fQg]
  refine m_al ?_
  rintro b3 w3 hb3 hblk3 hx3 hs3
  have hb3' : Blk w3 b3 (fM [] 0 (.slice none 0 0)) 58 := hblk3
  have h13 := h12.ext hx3
  have h23 := h2.ext hx3
  have hx13 := hx12.trans hx3
  have hI : ((cs.length : Nat) : Int) - 1 = ((cs.length - 1 : Nat) : Int) := by omega
  simp only [↓vsd, vsn, gW, qd, qv, ev, pick, argE, List.map_cons, List.map_nil, Option.map_some, Option.map_none, zipE, List.cons_append, List.nil_append, ne_eq, eq_self, forall_const, implies_true, if_true, if_false, reduceIte, List.cons.injEq, reduceCtorEq, Nat.reduceEqDiff, List.length_nil, List.length_cons, Nat.reduceAdd, Nat.reduceLT, List.set_cons_zero, List.set_cons_succ, ↓us_icalledLead, r_icalledLead, h13.facts, h23.facts, fMg, fQg]
  have hq := h.ext hx13
  refine ⟨?_, ?_⟩
  · refine m_bsl (by simp) ?_
    rintro b4 w4 hb4 hblk4 hx4 hs4
    have hx4 := ud hx4
    have hb4 : b4 = w3.heap.size := hb4
    simp only [↓vsd, vsn, gW, qd, qv, ev, pick, argE, List.map_cons, List.map_nil, Option.map_some, Option.map_none, zipE, List.cons_append, List.nil_append, ne_eq, eq_self, forall_const, implies_true, if_true, if_false, reduceIte, List.cons.injEq, reduceCtorEq, Nat.reduceEqDiff, List.length_nil, List.length_cons, Nat.reduceAdd, Nat.reduceLT, List.set_cons_zero, List.set_cons_succ, ↓us_icalledLead, r_icalledLead]
    refine ⟨?_, ?_⟩
    · refine m_apf (B := w3.heap.size) fS_len hblk4 (by omega) (hq.ext hx4) fS_one (by decide) (by omega) (by decide) ?_
      rintro x w5 ho5 hx5 _
      simp only [↓vsd, vsn, gW, qd, qv, ev, pick, argE, List.map_cons, List.map_nil, Option.map_some, Option.map_none, zipE, List.cons_append, List.nil_append, ne_eq, eq_self, forall_const, implies_true, if_true, if_false, reduceIte, List.cons.injEq, reduceCtorEq, Nat.reduceEqDiff, List.length_nil, List.length_cons, Nat.reduceAdd, Nat.reduceLT, List.set_cons_zero, List.set_cons_succ, ↓us_icalledLead, r_icalledLead]
      refine ⟨?_, ?_⟩
      · refine m_call (iwithChanges_ok nm st v x _ ho5.sq.one' (of_eq_true ho5.sq.oneC)) ?_
        rintro _ w6 hx6 rfl
        simp only [↓vsd, vsn, gW, qd, qv, ev, pick, argE, List.map_cons, List.map_nil, Option.map_some, Option.map_none, zipE, List.cons_append, List.nil_append, ne_eq, eq_self, forall_const, implies_true, if_true, if_false, reduceIte, List.cons.injEq, reduceCtorEq, Nat.reduceEqDiff, List.length_nil, List.length_cons, Nat.reduceAdd, Nat.reduceLT, List.set_cons_zero, List.set_cons_succ, ↓us_icalledLead, r_icalledLead]
        refine m_al ?_
        rintro bo wt hbe hblko hx7 hs7
        have hbo : Blk wt bo (fM [] 0 (.slice none 0 0)) 58 := hblko
        have hxt : Ext w3 wt := ((hx4.trans hx5).trans hx6).trans hx7
        have hot := (ho5.ext hx6).ext hx7
        have haw : Away x bo := (ho5.ext hx6).away (by omega)
        have h36 := ((hx4.trans hx5).trans hx6).size
        simp only [↓vsd, vsn, gW, qd, qv, ev, pick, argE, List.map_cons, List.map_nil, Option.map_some, Option.map_none, zipE, List.cons_append, List.nil_append, ne_eq, eq_self, forall_const, implies_true, if_true, if_false, reduceIte, List.cons.injEq, reduceCtorEq, Nat.reduceEqDiff, List.length_nil, List.length_cons, Nat.reduceAdd, Nat.reduceLT, List.set_cons_zero, List.set_cons_succ, ↓us_icalledLead, r_icalledLead]
        refine m_st hbo rfl (Nat.le_refl 3) (fM_one nm st x hot.sq.one') ?_
        rintro wu hbu' hu
        have hbu : Blk wu bo (fM nm st x) 58 := hbu'
        have hou := hot.upd hu haw
        have hxu : Ext w3 wu := hu.below hxt (by omega)
        have h2u := h23.ext hxu
        have h3u := hu.blk (hb3'.ext hxt) (by omega)
        simp only [↓vsd, vsn, gW, qd, qv, ev, pick, argE, List.map_cons, List.map_nil, Option.map_some, Option.map_none, zipE, List.cons_append, List.nil_append, ne_eq, eq_self, forall_const, implies_true, if_true, if_false, reduceIte, List.cons.injEq, reduceCtorEq, Nat.reduceEqDiff, List.length_nil, List.length_cons, Nat.reduceAdd, Nat.reduceLT, List.set_cons_zero, List.set_cons_succ, ↓us_icalledLead, r_icalledLead, hbu.facts, h2u.facts, fMg, fQg, hou.sq.facts, hI]
        refine ⟨inR_i64 (by omega), fun hc1 => ⟨by omega, m_set1 (cs.length - 1) b hou rfl (by omega) rfl fS_one ?_⟩, fun hc1 => ⟨fun hc2 => ⟨by omega, m_set1 (cs.length - 1) s hou rfl (by omega) rfl fS_one ?_⟩, fun hc2 => ?_⟩⟩
        · rintro wa hoa hga _
          have hxa : Ext w3 wa := hou.grown hxu (Nat.le_refl _) hga
          have hba := hbu.same (hga.block bo hbu.lt (fun e => haw e.symm))
          have h3a := h3u.same (hga.block b3 h3u.lt (fun e => by have := (hou.bound b3 e.symm).1; omega))
          simp only [↓vsd, vsn, gW, qd, qv, ev, pick, argE, List.map_cons, List.map_nil, Option.map_some, Option.map_none, zipE, List.cons_append, List.nil_append, ne_eq, eq_self, forall_const, implies_true, if_true, if_false, reduceIte, List.cons.injEq, reduceCtorEq, Nat.reduceEqDiff, List.length_nil, List.length_cons, Nat.reduceAdd, Nat.reduceLT, List.set_cons_zero, List.set_cons_succ, ↓us_icalledLead, r_icalledLead, hba.facts, fMg]
          refine m_st h3a rfl (Nat.le_refl 3) (fM_one nm st x hoa.sq.one') ?_
          rintro wb hbb hub
          have hbb' : Blk wb b3 (fM nm st x) 58 := hbb
          have hxb : Ext w wb := hub.below (hx13.trans hxa) (by have := hx12.size; omega)
          have hob := hoa.upd hub (hoa.away' (by omega))
          simp only [↓vsd, vsn, gW, qd, qv, ev, pick, argE, List.map_cons, List.map_nil, Option.map_some, Option.map_none, zipE, List.cons_append, List.nil_append, ne_eq, eq_self, forall_const, implies_true, if_true, if_false, reduceIte, List.cons.injEq, reduceCtorEq, Nat.reduceEqDiff, List.length_nil, List.length_cons, Nat.reduceAdd, Nat.reduceLT, List.set_cons_zero, List.set_cons_succ, ↓us_icalledLead, r_icalledLead, hbb'.facts, fMg]
          exact ⟨hxb, x, rfl, (hob.mono hx13.size).to (by rw [set_last hc.1, calledCs, chgOf, if_pos hc1])⟩
        · rintro wa hoa hga _
          have hxa : Ext w3 wa := hou.grown hxu (Nat.le_refl _) hga
          have hba := hbu.same (hga.block bo hbu.lt (fun e => haw e.symm))
          have h3a := h3u.same (hga.block b3 h3u.lt (fun e => by have := (hou.bound b3 e.symm).1; omega))
          simp only [↓vsd, vsn, gW, qd, qv, ev, pick, argE, List.map_cons, List.map_nil, Option.map_some, Option.map_none, zipE, List.cons_append, List.nil_append, ne_eq, eq_self, forall_const, implies_true, if_true, if_false, reduceIte, List.cons.injEq, reduceCtorEq, Nat.reduceEqDiff, List.length_nil, List.length_cons, Nat.reduceAdd, Nat.reduceLT, List.set_cons_zero, List.set_cons_succ, ↓us_icalledLead, r_icalledLead, hba.facts, fMg]
          refine m_st h3a rfl (Nat.le_refl 3) (fM_one nm st x hoa.sq.one') ?_
          rintro wb hbb hub
          have hbb' : Blk wb b3 (fM nm st x) 58 := hbb
          have hxb : Ext w wb := hub.below (hx13.trans hxa) (by have := hx12.size; omega)
          have hob := hoa.upd hub (hoa.away' (by omega))
          simp only [↓vsd, vsn, gW, qd, qv, ev, pick, argE, List.map_cons, List.map_nil, Option.map_some, Option.map_none, zipE, List.cons_append, List.nil_append, ne_eq, eq_self, forall_const, implies_true, if_true, if_false, reduceIte, List.cons.injEq, reduceCtorEq, Nat.reduceEqDiff, List.length_nil, List.length_cons, Nat.reduceAdd, Nat.reduceLT, List.set_cons_zero, List.set_cons_succ, ↓us_icalledLead, r_icalledLead, hbb'.facts, fMg]
          exact ⟨hxb, x, rfl, (hob.mono hx13.size).to (by rw [set_last hc.1, calledCs, chgOf, if_neg hc1, if_pos hc2])⟩
        · refine m_st h3u rfl (Nat.le_refl 3) (fM_one nm st x hou.sq.one') ?_
          rintro wb hbb hub
          have hbb' : Blk wb b3 (fM nm st x) 58 := hbb
          have hxb : Ext w wb := hub.below (hx13.trans hxu) (by have := hx12.size; omega)
          have hob := hou.upd hub (hou.away' (by omega))
          simp only [↓vsd, vsn, gW, qd, qv, ev, pick, argE, List.map_cons, List.map_nil, Option.map_some, Option.map_none, zipE, List.cons_append, List.nil_append, ne_eq, eq_self, forall_const, implies_true, if_true, if_false, reduceIte, List.cons.injEq, reduceCtorEq, Nat.reduceEqDiff, List.length_nil, List.length_cons, Nat.reduceAdd, Nat.reduceLT, List.set_cons_zero, List.set_cons_succ, ↓us_icalledLead, r_icalledLead, hbb'.facts, fMg]
          exact ⟨hxb, x, rfl, (hob.mono hx13.size).to (by rw [calledCs, chgOf, if_neg hc1, if_neg hc2, take_last _ hc.1])⟩
      · refine m_al ?_
        rintro bo w6 hbe hblko hx6 hs6
        simp only [↓vsd, vsn, gW, qd, qv, ev, pick, argE, List.map_cons, List.map_nil, Option.map_some, Option.map_none, zipE, List.cons_append, List.nil_append, ne_eq, eq_self, forall_const, implies_true, if_true, if_false, reduceIte, List.cons.injEq, reduceCtorEq, Nat.reduceEqDiff, List.length_nil, List.length_cons, Nat.reduceAdd, Nat.reduceLT, List.set_cons_zero, List.set_cons_succ, ↓us_icalledLead, r_icalledLead]
        refine m_call (iwithChanges_ok nm st v x _ ho5.sq.one' (of_eq_true ho5.sq.oneC)) ?_
        rintro _ wt hx7 rfl
        have hbo : Blk wt bo (fM [] 0 (.slice none 0 0)) 58 := Blk.ext hblko hx7
        have hxt : Ext w3 wt := ((hx4.trans hx5).trans hx6).trans hx7
        have hot := (ho5.ext hx6).ext hx7
        have haw : Away x bo := ho5.away (by omega)
        have h36 := (hx4.trans hx5).size
        simp only [↓vsd, vsn, gW, qd, qv, ev, pick, argE, List.map_cons, List.map_nil, Option.map_some, Option.map_none, zipE, List.cons_append, List.nil_append, ne_eq, eq_self, forall_const, implies_true, if_true, if_false, reduceIte, List.cons.injEq, reduceCtorEq, Nat.reduceEqDiff, List.length_nil, List.length_cons, Nat.reduceAdd, Nat.reduceLT, List.set_cons_zero, List.set_cons_succ, ↓us_icalledLead, r_icalledLead]
        refine m_st hbo rfl (Nat.le_refl 3) (fM_one nm st x hot.sq.one') ?_
        rintro wu hbu' hu
        have hbu : Blk wu bo (fM nm st x) 58 := hbu'
        have hou := hot.upd hu haw
        have hxu : Ext w3 wu := hu.below hxt (by omega)
        have h2u := h23.ext hxu
        have h3u := hu.blk (hb3'.ext hxt) (by omega)
        simp only [↓vsd, vsn, gW, qd, qv, ev, pick, argE, List.map_cons, List.map_nil, Option.map_some, Option.map_none, zipE, List.cons_append, List.nil_append, ne_eq, eq_self, forall_const, implies_true, if_true, if_false, reduceIte, List.cons.injEq, reduceCtorEq, Nat.reduceEqDiff, List.length_nil, List.length_cons, Nat.reduceAdd, Nat.reduceLT, List.set_cons_zero, List.set_cons_succ, ↓us_icalledLead, r_icalledLead, hbu.facts, h2u.facts, fMg, fQg, hou.sq.facts, hI]
        refine ⟨inR_i64 (by omega), fun hc1 => ⟨by omega, m_set1 (cs.length - 1) b hou rfl (by omega) rfl fS_one ?_⟩, fun hc1 => ⟨fun hc2 => ⟨by omega, m_set1 (cs.length - 1) s hou rfl (by omega) rfl fS_one ?_⟩, fun hc2 => ?_⟩⟩
        · rintro wa hoa hga _
          have hxa : Ext w3 wa := hou.grown hxu (Nat.le_refl _) hga
          have hba := hbu.same (hga.block bo hbu.lt (fun e => haw e.symm))
          have h3a := h3u.same (hga.block b3 h3u.lt (fun e => by have := (hou.bound b3 e.symm).1; omega))
          simp only [↓vsd, vsn, gW, qd, qv, ev, pick, argE, List.map_cons, List.map_nil, Option.map_some, Option.map_none, zipE, List.cons_append, List.nil_append, ne_eq, eq_self, forall_const, implies_true, if_true, if_false, reduceIte, List.cons.injEq, reduceCtorEq, Nat.reduceEqDiff, List.length_nil, List.length_cons, Nat.reduceAdd, Nat.reduceLT, List.set_cons_zero, List.set_cons_succ, ↓us_icalledLead, r_icalledLead, hba.facts, fMg]
          refine m_st h3a rfl (Nat.le_refl 3) (fM_one nm st x hoa.sq.one') ?_
          rintro wb hbb hub
          have hbb' : Blk wb b3 (fM nm st x) 58 := hbb
          have hxb : Ext w wb := hub.below (hx13.trans hxa) (by have := hx12.size; omega)
          have hob := hoa.upd hub (hoa.away' (by omega))
          simp only [↓vsd, vsn, gW, qd, qv, ev, pick, argE, List.map_cons, List.map_nil, Option.map_some, Option.map_none, zipE, List.cons_append, List.nil_append, ne_eq, eq_self, forall_const, implies_true, if_true, if_false, reduceIte, List.cons.injEq, reduceCtorEq, Nat.reduceEqDiff, List.length_nil, List.length_cons, Nat.reduceAdd, Nat.reduceLT, List.set_cons_zero, List.set_cons_succ, ↓us_icalledLead, r_icalledLead, hbb'.facts, fMg]
          exact ⟨hxb, x, rfl, (hob.mono hx13.size).to (by rw [set_last hc.1, calledCs, chgOf, if_pos hc1])⟩
        · rintro wa hoa hga _
          have hxa : Ext w3 wa := hou.grown hxu (Nat.le_refl _) hga
          have hba := hbu.same (hga.block bo hbu.lt (fun e => haw e.symm))
          have h3a := h3u.same (hga.block b3 h3u.lt (fun e => by have := (hou.bound b3 e.symm).1; omega))
          simp only [↓vsd, vsn, gW, qd, qv, ev, pick, argE, List.map_cons, List.map_nil, Option.map_some, Option.map_none, zipE, List.cons_append, List.nil_append, ne_eq, eq_self, forall_const, implies_true, if_true, if_false, reduceIte, List.cons.injEq, reduceCtorEq, Nat.reduceEqDiff, List.length_nil, List.length_cons, Nat.reduceAdd, Nat.reduceLT, List.set_cons_zero, List.set_cons_succ, ↓us_icalledLead, r_icalledLead, hba.facts, fMg]
          refine m_st h3a rfl (Nat.le_refl 3) (fM_one nm st x hoa.sq.one') ?_
          rintro wb hbb hub
          have hbb' : Blk wb b3 (fM nm st x) 58 := hbb
          have hxb : Ext w wb := hub.below (hx13.trans hxa) (by have := hx12.size; omega)
          have hob := hoa.upd hub (hoa.away' (by omega))
          simp only [↓vsd, vsn, gW, qd, qv, ev, pick, argE, List.map_cons, List.map_nil, Option.map_some, Option.map_none, zipE, List.cons_append, List.nil_append, ne_eq, eq_self, forall_const, implies_true, if_true, if_false, reduceIte, List.cons.injEq, reduceCtorEq, Nat.reduceEqDiff, List.length_nil, List.length_cons, Nat.reduceAdd, Nat.reduceLT, List.set_cons_zero, List.set_cons_succ, ↓us_icalledLead, r_icalledLead, hbb'.facts, fMg]
          exact ⟨hxb, x, rfl, (hob.mono hx13.size).to (by rw [set_last hc.1, calledCs, chgOf, if_neg hc1, if_pos hc2])⟩
        · refine m_st h3u rfl (Nat.le_refl 3) (fM_one nm st x hou.sq.one') ?_
          rintro wb hbb hub
          have hbb' : Blk wb b3 (fM nm st x) 58 := hbb
          have hxb : Ext w wb := hub.below (hx13.trans hxu) (by have := hx12.size; omega)
          have hob := hou.upd hub (hou.away' (by omega))
          simp only [↓vsd, vsn, gW, qd, qv, ev, pick, argE, List.map_cons, List.map_nil, Option.map_some, Option.map_none, zipE, List.cons_append, List.nil_append, ne_eq, eq_self, forall_const, implies_true, if_true, if_false, reduceIte, List.cons.injEq, reduceCtorEq, Nat.reduceEqDiff, List.length_nil, List.length_cons, Nat.reduceAdd, Nat.reduceLT, List.set_cons_zero, List.set_cons_succ, ↓us_icalledLead, r_icalledLead, hbb'.facts, fMg]
          exact ⟨hxb, x, rfl, (hob.mono hx13.size).to (by rw [calledCs, chgOf, if_neg hc1, if_neg hc2, take_last _ hc.1])⟩
    · refine m_al ?_
      rintro bo w5 hbe hblko hx5 hs5
      simp only [↓vsd, vsn, gW, qd, qv, ev, pick, argE, List.map_cons, List.map_nil, Option.map_some, Option.map_none, zipE, List.cons_append, List.nil_append, ne_eq, eq_self, forall_const, implies_true, if_true, if_false, reduceIte, List.cons.injEq, reduceCtorEq, Nat.reduceEqDiff, List.length_nil, List.length_cons, Nat.reduceAdd, Nat.reduceLT, List.set_cons_zero, List.set_cons_succ, ↓us_icalledLead, r_icalledLead]
      refine m_apf (B := w3.heap.size) fS_len (hblk4.ext hx5) (by omega) ((hq.ext hx4).ext hx5) fS_one (by decide) (by omega) (by decide) ?_
      rintro x w6 ho6 hx6 hbx
      simp only [↓vsd, vsn, gW, qd, qv, ev, pick, argE, List.map_cons, List.map_nil, Option.map_some, Option.map_none, zipE, List.cons_append, List.nil_append, ne_eq, eq_self, forall_const, implies_true, if_true, if_false, reduceIte, List.cons.injEq, reduceCtorEq, Nat.reduceEqDiff, List.length_nil, List.length_cons, Nat.reduceAdd, Nat.reduceLT, List.set_cons_zero, List.set_cons_succ, ↓us_icalledLead, r_icalledLead]
      refine m_call (iwithChanges_ok nm st v x _ ho6.sq.one' (of_eq_true ho6.sq.oneC)) ?_
      rintro _ wt hx7 rfl
      have hbo : Blk wt bo (fM [] 0 (.slice none 0 0)) 58 := (Blk.ext hblko hx6).ext hx7
      have hxt : Ext w3 wt := ((hx4.trans hx5).trans hx6).trans hx7
      have hot := ho6.ext hx7
      have h36 := hx4.size
      have haw : Away x bo := fun e => by rcases hbx bo e with h | h <;> omega
      simp only [↓vsd, vsn, gW, qd, qv, ev, pick, argE, List.map_cons, List.map_nil, Option.map_some, Option.map_none, zipE, List.cons_append, List.nil_append, ne_eq, eq_self, forall_const, implies_true, if_true, if_false, reduceIte, List.cons.injEq, reduceCtorEq, Nat.reduceEqDiff, List.length_nil, List.length_cons, Nat.reduceAdd, Nat.reduceLT, List.set_cons_zero, List.set_cons_succ, ↓us_icalledLead, r_icalledLead]
      refine m_st hbo rfl (Nat.le_refl 3) (fM_one nm st x hot.sq.one') ?_
      rintro wu hbu' hu
      have hbu : Blk wu bo (fM nm st x) 58 := hbu'
      have hou := hot.upd hu haw
      have hxu : Ext w3 wu := hu.below hxt (by omega)
      have h2u := h23.ext hxu
      have h3u := hu.blk (hb3'.ext hxt) (by omega)
      simp only [↓vsd, vsn, gW, qd, qv, ev, pick, argE, List.map_cons, List.map_nil, Option.map_some, Option.map_none, zipE, List.cons_append, List.nil_append, ne_eq, eq_self, forall_const, implies_true, if_true, if_false, reduceIte, List.cons.injEq, reduceCtorEq, Nat.reduceEqDiff, List.length_nil, List.length_cons, Nat.reduceAdd, Nat.reduceLT, List.set_cons_zero, List.set_cons_succ, ↓us_icalledLead, r_icalledLead, hbu.facts, h2u.facts, fMg, fQg, hou.sq.facts, hI]
      refine ⟨inR_i64 (by omega), fun hc1 => ⟨by omega, m_set1 (cs.length - 1) b hou rfl (by omega) rfl fS_one ?_⟩, fun hc1 => ⟨fun hc2 => ⟨by omega, m_set1 (cs.length - 1) s hou rfl (by omega) rfl fS_one ?_⟩, fun hc2 => ?_⟩⟩
      · rintro wa hoa hga _
        have hxa : Ext w3 wa := hou.grown hxu (Nat.le_refl _) hga
        have hba := hbu.same (hga.block bo hbu.lt (fun e => haw e.symm))
        have h3a := h3u.same (hga.block b3 h3u.lt (fun e => by have := (hou.bound b3 e.symm).1; omega))
        simp only [↓vsd, vsn, gW, qd, qv, ev, pick, argE, List.map_cons, List.map_nil, Option.map_some, Option.map_none, zipE, List.cons_append, List.nil_append, ne_eq, eq_self, forall_const, implies_true, if_true, if_false, reduceIte, List.cons.injEq, reduceCtorEq, Nat.reduceEqDiff, List.length_nil, List.length_cons, Nat.reduceAdd, Nat.reduceLT, List.set_cons_zero, List.set_cons_succ, ↓us_icalledLead, r_icalledLead, hba.facts, fMg]
        refine m_st h3a rfl (Nat.le_refl 3) (fM_one nm st x hoa.sq.one') ?_
        rintro wb hbb hub
        have hbb' : Blk wb b3 (fM nm st x) 58 := hbb
        have hxb : Ext w wb := hub.below (hx13.trans hxa) (by have := hx12.size; omega)
        have hob := hoa.upd hub (hoa.away' (by omega))
        simp only [↓vsd, vsn, gW, qd, qv, ev, pick, argE, List.map_cons, List.map_nil, Option.map_some, Option.map_none, zipE, List.cons_append, List.nil_append, ne_eq, eq_self, forall_const, implies_true, if_true, if_false, reduceIte, List.cons.injEq, reduceCtorEq, Nat.reduceEqDiff, List.length_nil, List.length_cons, Nat.reduceAdd, Nat.reduceLT, List.set_cons_zero, List.set_cons_succ, ↓us_icalledLead, r_icalledLead, hbb'.facts, fMg]
        exact ⟨hxb, x, rfl, (hob.mono hx13.size).to (by rw [set_last hc.1, calledCs, chgOf, if_pos hc1])⟩
      · rintro wa hoa hga _
        have hxa : Ext w3 wa := hou.grown hxu (Nat.le_refl _) hga
        have hba := hbu.same (hga.block bo hbu.lt (fun e => haw e.symm))
        have h3a := h3u.same (hga.block b3 h3u.lt (fun e => by have := (hou.bound b3 e.symm).1; omega))
        simp only [↓vsd, vsn, gW, qd, qv, ev, pick, argE, List.map_cons, List.map_nil, Option.map_some, Option.map_none, zipE, List.cons_append, List.nil_append, ne_eq, eq_self, forall_const, implies_true, if_true, if_false, reduceIte, List.cons.injEq, reduceCtorEq, Nat.reduceEqDiff, List.length_nil, List.length_cons, Nat.reduceAdd, Nat.reduceLT, List.set_cons_zero, List.set_cons_succ, ↓us_icalledLead, r_icalledLead, hba.facts, fMg]
        refine m_st h3a rfl (Nat.le_refl 3) (fM_one nm st x hoa.sq.one') ?_
        rintro wb hbb hub
        have hbb' : Blk wb b3 (fM nm st x) 58 := hbb
        have hxb : Ext w wb := hub.below (hx13.trans hxa) (by have := hx12.size; omega)
        have hob := hoa.upd hub (hoa.away' (by omega))
        simp only [↓vsd, vsn, gW, qd, qv, ev, pick, argE, List.map_cons, List.map_nil, Option.map_some, Option.map_none, zipE, List.cons_append, List.nil_append, ne_eq, eq_self, forall_const, implies_true, if_true, if_false, reduceIte, List.cons.injEq, reduceCtorEq, Nat.reduceEqDiff, List.length_nil, List.length_cons, Nat.reduceAdd, Nat.reduceLT, List.set_cons_zero, List.set_cons_succ, ↓us_icalledLead, r_icalledLead, hbb'.facts, fMg]
        exact ⟨hxb, x, rfl, (hob.mono hx13.size).to (by rw [set_last hc.1, calledCs, chgOf, if_neg hc1, if_pos hc2])⟩
      · refine m_st h3u rfl (Nat.le_refl 3) (fM_one nm st x hou.sq.one') ?_
        rintro wb hbb hub
        have hbb' : Blk wb b3 (fM nm st x) 58 := hbb
        have hxb : Ext w wb := hub.below (hx13.trans hxu) (by have := hx12.size; omega)
        have hob := hou.upd hub (hou.away' (by omega))
        simp only [↓vsd, vsn, gW, qd, qv, ev, pick, argE, List.map_cons, List.map_nil, Option.map_some, Option.map_none, zipE, List.cons_append, List.nil_append, ne_eq, eq_self, forall_const, implies_true, if_true, if_false, reduceIte, List.cons.injEq, reduceCtorEq, Nat.reduceEqDiff, List.length_nil, List.length_cons, Nat.reduceAdd, Nat.reduceLT, List.set_cons_zero, List.set_cons_succ, ↓us_icalledLead, r_icalledLead, hbb'.facts, fMg]
        exact ⟨hxb, x, rfl, (hob.mono hx13.size).to (by rw [calledCs, chgOf, if_neg hc1, if_neg hc2, take_last _ hc.1])⟩
  · refine m_al ?_
    rintro bo w4 hbe hblko hx4 hs4
    have hx4 := ud hx4
    have hbe : bo = w3.heap.size := hbe
    simp only [↓vsd, vsn, gW, qd, qv, ev, pick, argE, List.map_cons, List.map_nil, Option.map_some, Option.map_none, zipE, List.cons_append, List.nil_append, ne_eq, eq_self, forall_const, implies_true, if_true, if_false, reduceIte, List.cons.injEq, reduceCtorEq, Nat.reduceEqDiff, List.length_nil, List.length_cons, Nat.reduceAdd, Nat.reduceLT, List.set_cons_zero, List.set_cons_succ, ↓us_icalledLead, r_icalledLead]
    refine m_bsl (by simp) ?_
    rintro b4 w5 hb4 hblk4 hx5 hs5
    simp only [↓vsd, vsn, gW, qd, qv, ev, pick, argE, List.map_cons, List.map_nil, Option.map_some, Option.map_none, zipE, List.cons_append, List.nil_append, ne_eq, eq_self, forall_const, implies_true, if_true, if_false, reduceIte, List.cons.injEq, reduceCtorEq, Nat.reduceEqDiff, List.length_nil, List.length_cons, Nat.reduceAdd, Nat.reduceLT, List.set_cons_zero, List.set_cons_succ, ↓us_icalledLead, r_icalledLead]
    refine m_apf (B := b4) fS_len hblk4 (Nat.le_refl _) ((hq.ext hx4).ext hx5) fS_one (by decide) (by omega) (by decide) ?_
    rintro x w6 ho6 hx6 _
    simp only [↓vsd, vsn, gW, qd, qv, ev, pick, argE, List.map_cons, List.map_nil, Option.map_some, Option.map_none, zipE, List.cons_append, List.nil_append, ne_eq, eq_self, forall_const, implies_true, if_true, if_false, reduceIte, List.cons.injEq, reduceCtorEq, Nat.reduceEqDiff, List.length_nil, List.length_cons, Nat.reduceAdd, Nat.reduceLT, List.set_cons_zero, List.set_cons_succ, ↓us_icalledLead, r_icalledLead]
    refine m_call (iwithChanges_ok nm st v x _ ho6.sq.one' (of_eq_true ho6.sq.oneC)) ?_
    rintro _ wt hx7 rfl
    have hbo : Blk wt bo (fM [] 0 (.slice none 0 0)) 58 := ((Blk.ext hblko hx5).ext hx6).ext hx7
    have hxt : Ext w3 wt := ((hx4.trans hx5).trans hx6).trans hx7
    have hot := (ho6.ext hx7).mono (B' := w3.heap.size) (by omega)
    have h36 := hx4.size
    have haw : Away x bo := ho6.away' (by omega)
    simp only [↓vsd, vsn, gW, qd, qv, ev, pick, argE, List.map_cons, List.map_nil, Option.map_some, Option.map_none, zipE, List.cons_append, List.nil_append, ne_eq, eq_self, forall_const, implies_true, if_true, if_false, reduceIte, List.cons.injEq, reduceCtorEq, Nat.reduceEqDiff, List.length_nil, List.length_cons, Nat.reduceAdd, Nat.reduceLT, List.set_cons_zero, List.set_cons_succ, ↓us_icalledLead, r_icalledLead]
    refine m_st hbo rfl (Nat.le_refl 3) (fM_one nm st x hot.sq.one') ?_
    rintro wu hbu' hu
    have hbu : Blk wu bo (fM nm st x) 58 := hbu'
    have hou := hot.upd hu haw
    have hxu : Ext w3 wu := hu.below hxt (by omega)
    have h2u := h23.ext hxu
    have h3u := hu.blk (hb3'.ext hxt) (by omega)
    simp only [↓vsd, vsn, gW, qd, qv, ev, pick, argE, List.map_cons, List.map_nil, Option.map_some, Option.map_none, zipE, List.cons_append, List.nil_append, ne_eq, eq_self, forall_const, implies_true, if_true, if_false, reduceIte, List.cons.injEq, reduceCtorEq, Nat.reduceEqDiff, List.length_nil, List.length_cons, Nat.reduceAdd, Nat.reduceLT, List.set_cons_zero, List.set_cons_succ, ↓us_icalledLead, r_icalledLead, hbu.facts, h2u.facts, fMg, fQg, hou.sq.facts, hI]
    refine ⟨inR_i64 (by omega), fun hc1 => ⟨by omega, m_set1 (cs.length - 1) b hou rfl (by omega) rfl fS_one ?_⟩, fun hc1 => ⟨fun hc2 => ⟨by omega, m_set1 (cs.length - 1) s hou rfl (by omega) rfl fS_one ?_⟩, fun hc2 => ?_⟩⟩
    · rintro wa hoa hga _
      have hxa : Ext w3 wa := hou.grown hxu (Nat.le_refl _) hga
      have hba := hbu.same (hga.block bo hbu.lt (fun e => haw e.symm))
      have h3a := h3u.same (hga.block b3 h3u.lt (fun e => by have := (hou.bound b3 e.symm).1; omega))
      simp only [↓vsd, vsn, gW, qd, qv, ev, pick, argE, List.map_cons, List.map_nil, Option.map_some, Option.map_none, zipE, List.cons_append, List.nil_append, ne_eq, eq_self, forall_const, implies_true, if_true, if_false, reduceIte, List.cons.injEq, reduceCtorEq, Nat.reduceEqDiff, List.length_nil, List.length_cons, Nat.reduceAdd, Nat.reduceLT, List.set_cons_zero, List.set_cons_succ, ↓us_icalledLead, r_icalledLead, hba.facts, fMg]
      refine m_st h3a rfl (Nat.le_refl 3) (fM_one nm st x hoa.sq.one') ?_
      rintro wb hbb hub
      have hbb' : Blk wb b3 (fM nm st x) 58 := hbb
      have hxb : Ext w wb := hub.below (hx13.trans hxa) (by have := hx12.size; omega)
      have hob := hoa.upd hub (hoa.away' (by omega))
      simp only [↓vsd, vsn, gW, qd, qv, ev, pick, argE, List.map_cons, List.map_nil, Option.map_some, Option.map_none, zipE, List.cons_append, List.nil_append, ne_eq, eq_self, forall_const, implies_true, if_true, if_false, reduceIte, List.cons.injEq, reduceCtorEq, Nat.reduceEqDiff, List.length_nil, List.length_cons, Nat.reduceAdd, Nat.reduceLT, List.set_cons_zero, List.set_cons_succ, ↓us_icalledLead, r_icalledLead, hbb'.facts, fMg]
      exact ⟨hxb, x, rfl, (hob.mono hx13.size).to (by rw [set_last hc.1, calledCs, chgOf, if_pos hc1])⟩
    · rintro wa hoa hga _
      have hxa : Ext w3 wa := hou.grown hxu (Nat.le_refl _) hga
      have hba := hbu.same (hga.block bo hbu.lt (fun e => haw e.symm))
      have h3a := h3u.same (hga.block b3 h3u.lt (fun e => by have := (hou.bound b3 e.symm).1; omega))
      simp only [↓vsd, vsn, gW, qd, qv, ev, pick, argE, List.map_cons, List.map_nil, Option.map_some, Option.map_none, zipE, List.cons_append, List.nil_append, ne_eq, eq_self, forall_const, implies_true, if_true, if_false, reduceIte, List.cons.injEq, reduceCtorEq, Nat.reduceEqDiff, List.length_nil, List.length_cons, Nat.reduceAdd, Nat.reduceLT, List.set_cons_zero, List.set_cons_succ, ↓us_icalledLead, r_icalledLead, hba.facts, fMg]
      refine m_st h3a rfl (Nat.le_refl 3) (fM_one nm st x hoa.sq.one') ?_
      rintro wb hbb hub
      have hbb' : Blk wb b3 (fM nm st x) 58 := hbb
      have hxb : Ext w wb := hub.below (hx13.trans hxa) (by have := hx12.size; omega)
      have hob := hoa.upd hub (hoa.away' (by omega))
      simp only [↓vsd, vsn, gW, qd, qv, ev, pick, argE, List.map_cons, List.map_nil, Option.map_some, Option.map_none, zipE, List.cons_append, List.nil_append, ne_eq, eq_self, forall_const, implies_true, if_true, if_false, reduceIte, List.cons.injEq, reduceCtorEq, Nat.reduceEqDiff, List.length_nil, List.length_cons, Nat.reduceAdd, Nat.reduceLT, List.set_cons_zero, List.set_cons_succ, ↓us_icalledLead, r_icalledLead, hbb'.facts, fMg]
      exact ⟨hxb, x, rfl, (hob.mono hx13.size).to (by rw [set_last hc.1, calledCs, chgOf, if_neg hc1, if_pos hc2])⟩
    · refine m_st h3u rfl (Nat.le_refl 3) (fM_one nm st x hou.sq.one') ?_
      rintro wb hbb hub
      have hbb' : Blk wb b3 (fM nm st x) 58 := hbb
      have hxb : Ext w wb := hub.below (hx13.trans hxu) (by have := hx12.size; omega)
      have hob := hou.upd hub (hou.away' (by omega))
      simp only [↓vsd, vsn, gW, qd, qv, ev, pick, argE, List.map_cons, List.map_nil, Option.map_some, Option.map_none, zipE, List.cons_append, List.nil_append, ne_eq, eq_self, forall_const, implies_true, if_true, if_false, reduceIte, List.cons.injEq, reduceCtorEq, Nat.reduceEqDiff, List.length_nil, List.length_cons, Nat.reduceAdd, Nat.reduceLT, List.set_cons_zero, List.set_cons_succ, ↓us_icalledLead, r_icalledLead, hbb'.facts, fMg]
      exact ⟨hxb, x, rfl, (hob.mono hx13.size).to (by rw [calledCs, chgOf, if_neg hc1, if_neg hc2, take_last _ hc.1])⟩
theorem icallHead_ok (nm : List UInt8) (st : Nat) (v : Value) (cs : List (List UInt8)) (b s call : List UInt8) (hm : IsMC nm st cs b s) (w : World) (h : Sq fS 1 w v cs) : Fn 271 [mV nm st v, kV b s, S call] w (fun r _ => r = S (headC st cs b s call)) := by
  (refine callsV_of mix Try.func271 c_icallHead ?_; simp only [↓vsd, vsn, gW, qd, qv, ev, pick, argE, List.map_cons, List.map_nil, Option.map_some, Option.map_none, zipE, List.cons_append, List.nil_append, ne_eq, eq_self, forall_const, implies_true, if_true, if_false, reduceIte, List.cons.injEq, reduceCtorEq, Nat.reduceEqDiff, List.length_nil, List.length_cons, Nat.reduceAdd, Nat.reduceLT, List.set_cons_zero, List.set_cons_succ, ↓us_icallHead, r_icallHead])
  refine m_al ?_
  rintro b1 w1 hb1 hblk1 hx1 hs1
  have h1 : Blk w1 b1 (fM nm st v) 58 := hblk1
  simp only [↓vsd, vsn, gW, qd, qv, ev, pick, argE, List.map_cons, List.map_nil, Option.map_some, Option.map_none, zipE, List.cons_append, List.nil_append, ne_eq, eq_self, forall_const, implies_true, if_true, if_false, reduceIte, List.cons.injEq, reduceCtorEq, Nat.reduceEqDiff, List.length_nil, List.length_cons, Nat.reduceAdd, Nat.reduceLT, List.set_cons_zero, List.set_cons_succ, ↓us_icallHead, r_icallHead, h1.facts, fMg]
  refine m_al ?_
  rintro b2 w2 hb2 hblk2 hx2 hs2
  have h2 : Blk w2 b2 (fQ b s) 47 := hblk2
  have h12 := h1.ext hx2
  have hx12 := hx1.trans hx2
  simp only [↓vsd, vsn, gW, qd, qv, ev, pick, argE, List.map_cons, List.map_nil, Option.map_some, Option.map_none, zipE, List.cons_append, List.nil_append, ne_eq, eq_self, forall_const, implies_true, if_true, if_false, reduceIte, List.cons.injEq, reduceCtorEq, Nat.reduceEqDiff, List.length_nil, List.length_cons, Nat.reduceAdd, Nat.reduceLT, List.set_cons_zero, List.set_cons_succ, ↓us_icallHead, r_icallHead, h12.facts, h2.facts, fMg, fQg]
  refine m_call (icalledLead_ok nm st v cs b s call hm.1.2.2.1 _ (h.ext hx12)) ?_
  rintro _ w3 hx3 ⟨x, rfl, ho⟩
  simp only [↓vsd, vsn, gW, qd, qv, ev, pick, argE, List.map_cons, List.map_nil, Option.map_some, Option.map_none, zipE, List.cons_append, List.nil_append, ne_eq, eq_self, forall_const, implies_true, if_true, if_false, reduceIte, List.cons.injEq, reduceCtorEq, Nat.reduceEqDiff, List.length_nil, List.length_cons, Nat.reduceAdd, Nat.reduceLT, List.set_cons_zero, List.set_cons_succ, ↓us_icallHead, r_icallHead]
  refine m_call (ileadHead_ok nm st x _ (hm.called call) _ ho.sq) ?_
  rintro _ w4 hx4 rfl
  simp only [↓vsd, vsn, gW, qd, qv, ev, pick, argE, List.map_cons, List.map_nil, Option.map_some, Option.map_none, zipE, List.cons_append, List.nil_append, ne_eq, eq_self, forall_const, implies_true, if_true, if_false, reduceIte, List.cons.injEq, reduceCtorEq, Nat.reduceEqDiff, List.length_nil, List.length_cons, Nat.reduceAdd, Nat.reduceLT, List.set_cons_zero, List.set_cons_succ, ↓us_icallHead, r_icallHead]
  exact ⟨(hx12.trans hx3).trans hx4, rfl⟩
def moveV (nm : List UInt8) (st : Int) (cs : List (List UInt8)) (b s call : List UInt8) : Prop := (IsLarge nm st cs ∧ IsMC nm st cs b s ∧ IsCall call) ∧ (headC st.toNat cs b s call).getD 0 0 = 49
instance (nm : List UInt8) (st : Int) (cs : List (List UInt8)) (b s call : List UInt8) : Decidable (moveV nm st cs b s call) := by unfold moveV; infer_instance
def movesI (h : List UInt8) : List Int := (movesL h).map fun p : Nat => (p : Int)
theorem movesI_len (h : List UInt8) (hl : h.length < 9) : (movesI h).length = h.length - 1 := by rw [movesI, List.length_map, movesL, List.length_map, course_len h hl]
theorem movesI_get (h : List UInt8) (i : Nat) (hi : i < (courseL h).length) : (movesI h).getD i 0 = (posC h.length ((courseL h).getD i 0) : Nat) := by
  rw [movesI, movesL, List.map_map, getD_map _ 0 _ _ _ hi]; rfl
theorem whole_get {n v : Nat} (hn : n < 9) (h2 : 2 ≤ v) (hv : v ≤ n) {i : Nat} (hi : i < (wholeL n).length) : (wholeL n).getD i 0 = UInt8.ofNat (48 + v) ↔ i = posC n (UInt8.ofNat (48 + v)) :=
  decide_eq_decide.1 (whole_at n hn v (by omega) h2 hv i hi)
theorem place_whole {n v p : Nat} (hn : n < 9) (h2 : 2 ≤ v) (hv : v ≤ n) (h : PlaceIs (wholeL n) v p) : p = posC n (UInt8.ofNat (48 + v)) + 1 := by
  have hp := whole_pos n hn v (by omega) h2 hv
  have e48 : (UInt8.ofNat (48 + v)).toNat = 48 + v := u8_nat (by omega)
  rcases h with ⟨rfl, hno⟩ | ⟨h1, hle, he, _⟩
  · have := (whole_get hn h2 hv hp).2 rfl
    have hc := hno _ hp
    rw [this, e48] at hc
    omega
  · have : (wholeL n).getD (p - 1) 0 = UInt8.ofNat (48 + v) := UInt8.toNat_inj.1 (by omega)
    have := (whole_get hn h2 hv (i := p - 1) (by omega)).1 this
    omega
theorem icallMoves_ok (nm : List UInt8) (st : Nat) (v : Value) (cs : List (List UInt8)) (b s call : List UInt8) (hm : IsMC nm st cs b s) (h4 : 4 ≤ st) (w : World) (h : Sq fS 1 w v cs) :
    Fn 186 [mV nm st v, kV b s, S call] w (fun r w' => ∃ x, r = .tuple ⟨[x, .bool (decide ((headC st cs b s call).getD 0 0 = 49))]⟩ ∧ Own fI 1 3 w.heap.size w' x (if (headC st cs b s call).getD 0 0 = 49 then movesI (headC st cs b s call) else [])) := by
  (refine callsV_of mix Try.func186 c_icallMoves ?_; simp only [↓vsd, vsn, gW, qd, qv, ev, pick, argE, List.map_cons, List.map_nil, Option.map_some, Option.map_none, zipE, List.cons_append, List.nil_append, ne_eq, eq_self, forall_const, implies_true, if_true, if_false, reduceIte, List.cons.injEq, reduceCtorEq, Nat.reduceEqDiff, List.length_nil, List.length_cons, Nat.reduceAdd, Nat.reduceLT, List.set_cons_zero, List.set_cons_succ, ↓us_icallMoves, r_icallMoves])
  refine m_al ?_
  rintro b1 w1 hb1 hblk1 hx1 hs1
  have h1 : Blk w1 b1 (fM nm st v) 58 := hblk1
  simp only [↓vsd, vsn, gW, qd, qv, ev, pick, argE, List.map_cons, List.map_nil, Option.map_some, Option.map_none, zipE, List.cons_append, List.nil_append, ne_eq, eq_self, forall_const, implies_true, if_true, if_false, reduceIte, List.cons.injEq, reduceCtorEq, Nat.reduceEqDiff, List.length_nil, List.length_cons, Nat.reduceAdd, Nat.reduceLT, List.set_cons_zero, List.set_cons_succ, ↓us_icallMoves, r_icallMoves, h1.facts, fMg]
  refine m_al ?_
  rintro b2 w2 hb2 hblk2 hx2 hs2
  have h2 : Blk w2 b2 (fQ b s) 47 := hblk2
  have h12 := h1.ext hx2
  have hx12 := hx1.trans hx2
  simp only [↓vsd, vsn, gW, qd, qv, ev, pick, argE, List.map_cons, List.map_nil, Option.map_some, Option.map_none, zipE, List.cons_append, List.nil_append, ne_eq, eq_self, forall_const, implies_true, if_true, if_false, reduceIte, List.cons.injEq, reduceCtorEq, Nat.reduceEqDiff, List.length_nil, List.length_cons, Nat.reduceAdd, Nat.reduceLT, List.set_cons_zero, List.set_cons_succ, ↓us_icallMoves, r_icallMoves, h12.facts, h2.facts, fMg, fQg]
  refine m_call (icallHead_ok nm st v cs b s call hm _ (h.ext hx12)) ?_
  rintro _ w3 hx3 rfl
  have h13 := h12.ext hx3
  have hx13 := hx12.trans hx3
  obtain ⟨hr, hl⟩ := headC_row hm call
  have h8 := hr.1
  generalize hh : headC st cs b s call = h' at hr hl h8 ⊢
  have e49 : (((h'.getD 0 0).toNat : Int) = 49) = (h'.getD 0 0 = 49) := propext ⟨fun e => UInt8.toNat_inj.1 (by show _ = 49; omega), fun e => by rw [e]; rfl⟩
  simp only [↓vsd, vsn, gW, qd, qv, ev, pick, argE, List.map_cons, List.map_nil, Option.map_some, Option.map_none, zipE, List.cons_append, List.nil_append, ne_eq, eq_self, forall_const, implies_true, if_true, if_false, reduceIte, List.cons.injEq, reduceCtorEq, Nat.reduceEqDiff, List.length_nil, List.length_cons, Nat.reduceAdd, Nat.reduceLT, List.set_cons_zero, List.set_cons_succ, ↓us_icallMoves, r_icallMoves, h13.facts, fMg, e49]
  refine ⟨by omega, fun hne => ⟨hx13, ?_⟩, fun he => ?_⟩
  · rw [decide_eq_false hne, if_neg hne]
    exact ⟨_, rfl, Own.nil fI_len⟩
  · rw [if_pos he, decide_eq_true he]
    refine m_call (irounds_ok st (by omega) _) ?_
    rintro _ w4 hx4 rfl
    simp only [↓vsd, vsn, gW, qd, qv, ev, pick, argE, List.map_cons, List.map_nil, Option.map_some, Option.map_none, zipE, List.cons_append, List.nil_append, ne_eq, eq_self, forall_const, implies_true, if_true, if_false, reduceIte, List.cons.injEq, reduceCtorEq, Nat.reduceEqDiff, List.length_nil, List.length_cons, Nat.reduceAdd, Nat.reduceLT, List.set_cons_zero, List.set_cons_succ, ↓us_icallMoves, r_icallMoves]
    refine m_call (icourseOf_ok (roundsL st) (by rw [roundsL_len]; omega) (by rw [roundsL_len]; omega) _) ?_
    rintro _ w5 hx5 rfl
    simp only [↓vsd, vsn, gW, qd, qv, ev, pick, argE, List.map_cons, List.map_nil, Option.map_some, Option.map_none, zipE, List.cons_append, List.nil_append, ne_eq, eq_self, forall_const, implies_true, if_true, if_false, reduceIte, List.cons.injEq, reduceCtorEq, Nat.reduceEqDiff, List.length_nil, List.length_cons, Nat.reduceAdd, Nat.reduceLT, List.set_cons_zero, List.set_cons_succ, ↓us_icallMoves, r_icallMoves]
    refine m_call (icourseOf_ok h' (by omega) (by omega) _) ?_
    rintro _ w6 hx6 rfl
    have hx16 := ((hx13.trans hx4).trans hx5).trans hx6
    have hcl := course_len h' (by omega)
    simp only [↓vsd, vsn, gW, qd, qv, ev, pick, argE, List.map_cons, List.map_nil, Option.map_some, Option.map_none, zipE, List.cons_append, List.nil_append, ne_eq, eq_self, forall_const, implies_true, if_true, if_false, reduceIte, List.cons.injEq, reduceCtorEq, Nat.reduceEqDiff, List.length_nil, List.length_cons, Nat.reduceAdd, Nat.reduceLT, List.set_cons_zero, List.set_cons_succ, ↓us_icallMoves, r_icallMoves, hcl]
    refine m_bsl (by simp) ?_
    rintro b7 w7 hb7 hblk7 hx7 hs7
    simp only [↓vsd, vsn, gW, qd, qv, ev, pick, argE, List.map_cons, List.map_nil, Option.map_some, Option.map_none, zipE, List.cons_append, List.nil_append, ne_eq, eq_self, forall_const, implies_true, if_true, if_false, reduceIte, List.cons.injEq, reduceCtorEq, Nat.reduceEqDiff, List.length_nil, List.length_cons, Nat.reduceAdd, Nat.reduceLT, List.set_cons_zero, List.set_cons_succ, ↓us_icallMoves, r_icallMoves]
    have hx17 := hx16.trans hx7
    refine m_upto (courseL h').length (fun i vs w' => ∃ x, vs = [x, .int .i64 i] ∧ Own fI 1 3 w.heap.size w' x ((movesI h').take i) ∧ Ext w w') ⟨_, rfl, (Own.empty fI_len hblk7 (by have := hx16.size; omega)).to (by simp), hx17⟩ ?_
    rintro i vs wi hi ⟨x, rfl, hox, hxi⟩
    by_cases hlt : i < (courseL h').length
    · have hltI : (i : Int) < (courseL h').length := by omega
      have hltJ : ¬ ((courseL h').length : Int) ≤ i := by omega
      obtain ⟨v', hv2, hvl, hget⟩ := course_get hr he i hlt
      have e48 : ((UInt8.ofNat (48 + v')).toNat : Int) - 48 = (v' : Nat) := by rw [u8_nat (by omega)]; omega
      simp only [↓vsd, vsn, gW, qd, qv, ev, pick, argE, List.map_cons, List.map_nil, Option.map_some, Option.map_none, zipE, List.cons_append, List.nil_append, ne_eq, eq_self, forall_const, implies_true, if_true, if_false, reduceIte, List.cons.injEq, reduceCtorEq, Nat.reduceEqDiff, List.length_nil, List.length_cons, Nat.reduceAdd, Nat.reduceLT, List.set_cons_zero, List.set_cons_succ, ↓us_icallMoves, r_icallMoves, hltI, hltJ, hget, e48]
      refine ⟨by omega, inR_u8 (by omega), inR_i64 (by omega), ?_⟩
      have hwl := whole_len st (by omega)
      refine m_call (iplaceOf_ok (courseL (roundsL st)) v' (by show (wholeL st).length ≤ 1000000; omega) (fun c hc => by have := whole_low st (by omega) c hc; omega) _) ?_
      rintro _ wj hxj ⟨p, rfl, hp⟩
      have hp := place_whole (n := st) (by omega) hv2 (by omega) hp
      have hpI : (p : Int) - 1 = (posC st (UInt8.ofNat (48 + v')) : Nat) := by omega
      simp only [↓vsd, vsn, gW, qd, qv, ev, pick, argE, List.map_cons, List.map_nil, Option.map_some, Option.map_none, zipE, List.cons_append, List.nil_append, ne_eq, eq_self, forall_const, implies_true, if_true, if_false, reduceIte, List.cons.injEq, reduceCtorEq, Nat.reduceEqDiff, List.length_nil, List.length_cons, Nat.reduceAdd, Nat.reduceLT, List.set_cons_zero, List.set_cons_succ, ↓us_icallMoves, r_icallMoves, hpI]
      have hpl := whole_pos st (by omega) v' (by omega) hv2 (by omega)
      refine ⟨inR_i64 (by omega), m_bsl (one_el rfl) ?_⟩
      rintro bk wk hbk hblkk hxk hsk
      simp only [↓vsd, vsn, gW, qd, qv, ev, pick, argE, List.map_cons, List.map_nil, Option.map_some, Option.map_none, zipE, List.cons_append, List.nil_append, ne_eq, eq_self, forall_const, implies_true, if_true, if_false, reduceIte, List.cons.injEq, reduceCtorEq, Nat.reduceEqDiff, List.length_nil, List.length_cons, Nat.reduceAdd, Nat.reduceLT, List.set_cons_zero, List.set_cons_succ, ↓us_icallMoves, r_icallMoves]
      have hxj := hxj
      have hok := (hox.ext hxj).ext hxk
      have hml := movesI_len h' (by omega)
      refine m_app hok (Sq.one fI_len hblkk rfl) fI_one (by decide) (by rw [List.length_take]; simp; omega) (by decide) (((hxi.trans hxj).trans hxk).size) ?_
      rintro x2 wl hol hgl
      have hxl := hok.grown ((hxi.trans hxj).trans hxk) (Nat.le_refl _) hgl
      simp only [↓vsd, vsn, gW, qd, qv, ev, pick, argE, List.map_cons, List.map_nil, Option.map_some, Option.map_none, zipE, List.cons_append, List.nil_append, ne_eq, eq_self, forall_const, implies_true, if_true, if_false, reduceIte, List.cons.injEq, reduceCtorEq, Nat.reduceEqDiff, List.length_nil, List.length_cons, Nat.reduceAdd, Nat.reduceLT, List.set_cons_zero, List.set_cons_succ, ↓us_icallMoves, r_icallMoves]
      refine ⟨inR_i64 (by omega), UpTo.next hlt ⟨x2, rfl, hol.to ?_, hxl⟩⟩
      rw [List.take_add_one, List.getElem?_eq_getElem (by omega)]
      have hg := movesI_get h' i hlt
      rw [List.getD_eq_getElem?_getD, List.getElem?_eq_getElem (by omega), Option.getD_some, hget, hl] at hg
      rw [hg]
      rfl
    · obtain rfl : i = (courseL h').length := by omega
      have hltI : ¬ ((courseL h').length : Int) < (courseL h').length := by omega
      simp only [↓vsd, vsn, gW, qd, qv, ev, pick, argE, List.map_cons, List.map_nil, Option.map_some, Option.map_none, zipE, List.cons_append, List.nil_append, ne_eq, eq_self, forall_const, implies_true, if_true, if_false, reduceIte, List.cons.injEq, reduceCtorEq, Nat.reduceEqDiff, List.length_nil, List.length_cons, Nat.reduceAdd, Nat.reduceLT, List.set_cons_zero, List.set_cons_succ, ↓us_icallMoves, r_icallMoves, hltI]
      exact ⟨hxi, x, rfl, hox.to (by rw [List.take_of_length_le (by rw [movesI_len h' (by omega), hcl]; exact Nat.le_refl _)])⟩
theorem sl15Moves_ok (h : List UInt8) (hr : IsRow h) (h1 : h.getD 0 0 = 49) (h4 : 4 ≤ h.length) (w : World) : Fn 273 [S h] w (fun r w' => Own fI 1 3 w.heap.size w' r (movesI h)) := by
  (refine callsV_of mix Try.func273 c_sl15Moves ?_; simp only [↓vsd, vsn, gW, qd, qv, ev, pick, argE, List.map_cons, List.map_nil, Option.map_some, Option.map_none, zipE, List.cons_append, List.nil_append, ne_eq, eq_self, forall_const, implies_true, if_true, if_false, reduceIte, List.cons.injEq, reduceCtorEq, Nat.reduceEqDiff, List.length_nil, List.length_cons, Nat.reduceAdd, Nat.reduceLT, List.set_cons_zero, List.set_cons_succ, ↓us_sl15Moves, r_sl15Moves])
  have h8 := hr.1
  refine m_call (sl1Rounds_ok h.length (by omega) _) ?_
  rintro _ w1 hx1 rfl
  simp only [↓vsd, vsn, gW, qd, qv, ev, pick, argE, List.map_cons, List.map_nil, Option.map_some, Option.map_none, zipE, List.cons_append, List.nil_append, ne_eq, eq_self, forall_const, implies_true, if_true, if_false, reduceIte, List.cons.injEq, reduceCtorEq, Nat.reduceEqDiff, List.length_nil, List.length_cons, Nat.reduceAdd, Nat.reduceLT, List.set_cons_zero, List.set_cons_succ, ↓us_sl15Moves, r_sl15Moves]
  refine m_call (sl15Course_ok (roundsL h.length) (by rw [roundsL_len]; omega) (by rw [roundsL_len]; omega) _) ?_
  rintro _ w2 hx2 rfl
  simp only [↓vsd, vsn, gW, qd, qv, ev, pick, argE, List.map_cons, List.map_nil, Option.map_some, Option.map_none, zipE, List.cons_append, List.nil_append, ne_eq, eq_self, forall_const, implies_true, if_true, if_false, reduceIte, List.cons.injEq, reduceCtorEq, Nat.reduceEqDiff, List.length_nil, List.length_cons, Nat.reduceAdd, Nat.reduceLT, List.set_cons_zero, List.set_cons_succ, ↓us_sl15Moves, r_sl15Moves]
  refine m_call (sl15Course_ok h (by omega) (by omega) _) ?_
  rintro _ w3 hx3 rfl
  have hx13 := (hx1.trans hx2).trans hx3
  simp only [↓vsd, vsn, gW, qd, qv, ev, pick, argE, List.map_cons, List.map_nil, Option.map_some, Option.map_none, zipE, List.cons_append, List.nil_append, ne_eq, eq_self, forall_const, implies_true, if_true, if_false, reduceIte, List.cons.injEq, reduceCtorEq, Nat.reduceEqDiff, List.length_nil, List.length_cons, Nat.reduceAdd, Nat.reduceLT, List.set_cons_zero, List.set_cons_succ, ↓us_sl15Moves, r_sl15Moves]
  refine m_rng ?_
  rintro b4 w4 hb4 hit4 hx4 hs4
  have hx14 := hx13.trans hx4
  simp only [↓vsd, vsn, gW, qd, qv, ev, pick, argE, List.map_cons, List.map_nil, Option.map_some, Option.map_none, zipE, List.cons_append, List.nil_append, ne_eq, eq_self, forall_const, implies_true, if_true, if_false, reduceIte, List.cons.injEq, reduceCtorEq, Nat.reduceEqDiff, List.length_nil, List.length_cons, Nat.reduceAdd, Nat.reduceLT, List.set_cons_zero, List.set_cons_succ, ↓us_sl15Moves, r_sl15Moves]
  have h128 : ∀ c ∈ courseL h, c.toNat < 128 := fun c hc => by have := course_low hr c hc; omega
  have hcl := course_len h (by omega)
  have hml := movesI_len h (by omega)
  have hwl := whole_len h.length (by omega)
  refine m_upto (courseL h).length (fun i vs w' => ∃ x, vs = [x] ∧ Own fI 1 3 w.heap.size w' x ((movesI h).take i) ∧ Ext w w' ∧ Itr w' b4 (courseL h) i ∧ Away x b4) ⟨_, rfl, (Own.nil fI_len).to (by simp), hx14, hit4, Away.nil _⟩ ?_
  rintro i vs w5 hi ⟨x, rfl, hox, hx5, hit5, haw5⟩
  simp only [↓vsd, vsn, gW, qd, qv, ev, pick, argE, List.map_cons, List.map_nil, Option.map_some, Option.map_none, zipE, List.cons_append, List.nil_append, ne_eq, eq_self, forall_const, implies_true, if_true, if_false, reduceIte, List.cons.injEq, reduceCtorEq, Nat.reduceEqDiff, List.length_nil, List.length_cons, Nat.reduceAdd, Nat.reduceLT, List.set_cons_zero, List.set_cons_succ, ↓us_sl15Moves, r_sl15Moves]
  refine m_nxt hit5 h128 ?_ ?_
  · intro hlt w6 hit6 hu6
    obtain ⟨v', hv2, hvl, hget⟩ := course_get hr h1 i hlt
    have hpl := whole_pos h.length (by omega) v' (by omega) hv2 hvl
    have hox6 := hox.upd hu6 haw5
    have hx6 : Ext w w6 := hu6.below hx5 (by have := hx13.size; omega)
    simp only [↓vsd, vsn, gW, qd, qv, ev, pick, argE, List.map_cons, List.map_nil, Option.map_some, Option.map_none, zipE, List.cons_append, List.nil_append, ne_eq, eq_self, forall_const, implies_true, if_true, if_false, reduceIte, List.cons.injEq, reduceCtorEq, Nat.reduceEqDiff, List.length_nil, List.length_cons, Nat.reduceAdd, Nat.reduceLT, List.set_cons_zero, List.set_cons_succ, ↓us_sl15Moves, r_sl15Moves, hget]
    refine m_rng ?_
    rintro b7 w7 hb7 hit7 hx7 hs7
    simp only [↓vsd, vsn, gW, qd, qv, ev, pick, argE, List.map_cons, List.map_nil, Option.map_some, Option.map_none, zipE, List.cons_append, List.nil_append, ne_eq, eq_self, forall_const, implies_true, if_true, if_false, reduceIte, List.cons.injEq, reduceCtorEq, Nat.reduceEqDiff, List.length_nil, List.length_cons, Nat.reduceAdd, Nat.reduceLT, List.set_cons_zero, List.set_cons_succ, ↓us_sl15Moves, r_sl15Moves]
    have h128' : ∀ c ∈ wholeL h.length, c.toNat < 128 := fun c hc => by have := whole_low h.length (by omega) c hc; omega
    refine m_upto (wholeL h.length).length (fun j vs w' => ∃ y, vs = [y] ∧ Own fI 1 3 w.heap.size w' y ((movesI h).take i ++ if posC h.length (UInt8.ofNat (48 + v')) < j then [(posC h.length (UInt8.ofNat (48 + v')) : Int)] else []) ∧ Ext w w' ∧ Itr w' b4 (courseL h) (i + 1) ∧ Away y b4 ∧ Itr w' b7 (wholeL h.length) j ∧ Away y b7)
      ⟨x, rfl, ((hox6.ext hx7).to (by simp)), hx6.trans hx7, hit6.ext hx7, haw5, hit7, hox6.away (by omega)⟩ ?_
    rintro j vs w8 hj ⟨y, rfl, hoy, hx8, hit8, haw8, hitj, hawj⟩
    have h4lt := hit8.lt
    have h7lt := hitj.lt
    have hne47 : b7 ≠ b4 := by have := hit6.lt; omega
    simp only [↓vsd, vsn, gW, qd, qv, ev, pick, argE, List.map_cons, List.map_nil, Option.map_some, Option.map_none, zipE, List.cons_append, List.nil_append, ne_eq, eq_self, forall_const, implies_true, if_true, if_false, reduceIte, List.cons.injEq, reduceCtorEq, Nat.reduceEqDiff, List.length_nil, List.length_cons, Nat.reduceAdd, Nat.reduceLT, List.set_cons_zero, List.set_cons_succ, ↓us_sl15Moves, r_sl15Moves]
    refine m_nxt hitj h128' ?_ ?_
    · intro hltj w9 hit9 hu9
      have hoy9 := hoy.upd hu9 hawj
      have hx9 : Ext w w9 := hu9.below hx8 (by have := hx6.size; omega)
      have hit49 := hit8.grown hu9.grown (fun e => hne47 (Option.some.inj e))
      have hjl : j < (wholeL h.length).length := hltj
      have hiff := whole_get (by omega) hv2 hvl hjl
      have e48 := u8_nat (n := 48 + v') (by omega)
      by_cases hjp : j = posC h.length (UInt8.ofNat (48 + v'))
      · have hgj := hiff.2 hjp
        simp only [↓vsd, vsn, gW, qd, qv, ev, pick, argE, List.map_cons, List.map_nil, Option.map_some, Option.map_none, zipE, List.cons_append, List.nil_append, ne_eq, eq_self, forall_const, implies_true, if_true, if_false, reduceIte, List.cons.injEq, reduceCtorEq, Nat.reduceEqDiff, List.length_nil, List.length_cons, Nat.reduceAdd, Nat.reduceLT, List.set_cons_zero, List.set_cons_succ, ↓us_sl15Moves, r_sl15Moves, hgj]
        refine m_bsl (one_el rfl) ?_
        rintro bk wk hbk hblkk hxk hsk
        simp only [↓vsd, vsn, gW, qd, qv, ev, pick, argE, List.map_cons, List.map_nil, Option.map_some, Option.map_none, zipE, List.cons_append, List.nil_append, ne_eq, eq_self, forall_const, implies_true, if_true, if_false, reduceIte, List.cons.injEq, reduceCtorEq, Nat.reduceEqDiff, List.length_nil, List.length_cons, Nat.reduceAdd, Nat.reduceLT, List.set_cons_zero, List.set_cons_succ, ↓us_sl15Moves, r_sl15Moves]
        have hok := hoy9.ext hxk
        refine m_app2 hok (Sq.one fI_len hblkk rfl) fI_one (by decide) (by rw [if_neg (by omega), List.append_nil, List.length_take]; simp; omega) (by decide) ((hx9.trans hxk).size) ?_
        rintro y2 wl hol hgl hnl
        have hxl := hok.grown (hx9.trans hxk) (Nat.le_refl _) hgl
        simp only [↓vsd, vsn, gW, qd, qv, ev, pick, argE, List.map_cons, List.map_nil, Option.map_some, Option.map_none, zipE, List.cons_append, List.nil_append, ne_eq, eq_self, forall_const, implies_true, if_true, if_false, reduceIte, List.cons.injEq, reduceCtorEq, Nat.reduceEqDiff, List.length_nil, List.length_cons, Nat.reduceAdd, Nat.reduceLT, List.set_cons_zero, List.set_cons_succ, ↓us_sl15Moves, r_sl15Moves]
        refine UpTo.next hltj ⟨y2, rfl, hol.to ?_, hxl, (hit49.ext hxk).grown hgl haw8, haw8.next (hit49.ext hxk).lt hnl, (hit9.ext hxk).grown hgl hawj, hawj.next (hit9.ext hxk).lt hnl⟩
        rw [if_neg (by omega), List.append_nil, if_pos (by omega), hjp]
      · have hgj : ¬ (wholeL h.length).getD j 0 = UInt8.ofNat (48 + v') := fun e => hjp (hiff.1 e)
        have hgI : ¬ (((wholeL h.length).getD j 0).toNat : Int) = ((UInt8.ofNat (48 + v')).toNat : Nat) := fun e => hgj (UInt8.toNat_inj.1 (by omega))
        simp only [↓vsd, vsn, gW, qd, qv, ev, pick, argE, List.map_cons, List.map_nil, Option.map_some, Option.map_none, zipE, List.cons_append, List.nil_append, ne_eq, eq_self, forall_const, implies_true, if_true, if_false, reduceIte, List.cons.injEq, reduceCtorEq, Nat.reduceEqDiff, List.length_nil, List.length_cons, Nat.reduceAdd, Nat.reduceLT, List.set_cons_zero, List.set_cons_succ, ↓us_sl15Moves, r_sl15Moves, hgI]
        refine UpTo.next hltj ⟨y, rfl, hoy9.to ?_, hx9, hit49, haw8, hit9, hawj⟩
        by_cases hlj : posC h.length (UInt8.ofNat (48 + v')) < j
        · rw [if_pos hlj, if_pos (by omega)]
        · rw [if_neg hlj, if_neg (by omega)]
    · intro hge
      simp only [↓vsd, vsn, gW, qd, qv, ev, pick, argE, List.map_cons, List.map_nil, Option.map_some, Option.map_none, zipE, List.cons_append, List.nil_append, ne_eq, eq_self, forall_const, implies_true, if_true, if_false, reduceIte, List.cons.injEq, reduceCtorEq, Nat.reduceEqDiff, List.length_nil, List.length_cons, Nat.reduceAdd, Nat.reduceLT, List.set_cons_zero, List.set_cons_succ, ↓us_sl15Moves, r_sl15Moves]
      refine UpTo.next hlt ⟨y, rfl, hoy.to ?_, hx8, hit8, haw8⟩
      rw [if_pos (by omega), List.take_add_one, List.getElem?_eq_getElem (by omega)]
      have hg := movesI_get h i hlt
      rw [List.getD_eq_getElem?_getD, List.getElem?_eq_getElem (by omega), Option.getD_some, hget] at hg
      rw [hg]
      rfl
  · intro hge
    simp only [↓vsd, vsn, gW, qd, qv, ev, pick, argE, List.map_cons, List.map_nil, Option.map_some, Option.map_none, zipE, List.cons_append, List.nil_append, ne_eq, eq_self, forall_const, implies_true, if_true, if_false, reduceIte, List.cons.injEq, reduceCtorEq, Nat.reduceEqDiff, List.length_nil, List.length_cons, Nat.reduceAdd, Nat.reduceLT, List.set_cons_zero, List.set_cons_succ, ↓us_sl15Moves, r_sl15Moves]
    exact ⟨hx5, hox.to (by rw [List.take_of_length_le (by omega)])⟩
theorem head_char {l : List UInt8} : (((l.getD 0 0).toNat : Int) = 49) = (l.getD 0 0 = 49) := propext ⟨fun e => UInt8.toNat_inj.1 (by show _ = 49; omega), fun e => by rw [e]; rfl⟩
theorem sCallMoves_ok (nm : List UInt8) (st : Int) (v : Value) (cs : List (List UInt8)) (b s call : List UInt8) (hnm : nm.length ≤ 1048576) (hs : ∀ c ∈ cs, c.length ≤ 1048576) (hl : cs.length ≤ 1000000000) (hb : b.length ≤ 1048576 ∧ s.length ≤ 1048576) (w : World) (h : Sq fS 1 w v cs) :
    Fn 181 [mV nm st v, kV b s, S call] w (fun r w' => ∃ x, r = .tuple ⟨[x, .bool (decide (moveV nm st cs b s call))]⟩ ∧ Own fI 1 3 w.heap.size w' x (if moveV nm st cs b s call then movesI (headC st.toNat cs b s call) else [])) := by
  (refine callsV_of mix Try.func181 c_sCallMoves ?_; simp only [↓vsd, vsn, gW, qd, qv, ev, pick, argE, List.map_cons, List.map_nil, Option.map_some, Option.map_none, zipE, List.cons_append, List.nil_append, ne_eq, eq_self, forall_const, implies_true, if_true, if_false, reduceIte, List.cons.injEq, reduceCtorEq, Nat.reduceEqDiff, List.length_nil, List.length_cons, Nat.reduceAdd, Nat.reduceLT, List.set_cons_zero, List.set_cons_succ, ↓us_sCallMoves, r_sCallMoves])
  refine m_al ?_
  rintro b1 w1 hb1 hblk1 hx1 hs1
  have h1 : Blk w1 b1 (fM nm st v) 58 := hblk1
  simp only [↓vsd, vsn, gW, qd, qv, ev, pick, argE, List.map_cons, List.map_nil, Option.map_some, Option.map_none, zipE, List.cons_append, List.nil_append, ne_eq, eq_self, forall_const, implies_true, if_true, if_false, reduceIte, List.cons.injEq, reduceCtorEq, Nat.reduceEqDiff, List.length_nil, List.length_cons, Nat.reduceAdd, Nat.reduceLT, List.set_cons_zero, List.set_cons_succ, ↓us_sCallMoves, r_sCallMoves, h1.facts, fMg]
  refine m_al ?_
  rintro b2 w2 hb2 hblk2 hx2 hs2
  have h2 : Blk w2 b2 (fQ b s) 47 := hblk2
  have h12 := h1.ext hx2
  have hx12 := hx1.trans hx2
  simp only [↓vsd, vsn, gW, qd, qv, ev, pick, argE, List.map_cons, List.map_nil, Option.map_some, Option.map_none, zipE, List.cons_append, List.nil_append, ne_eq, eq_self, forall_const, implies_true, if_true, if_false, reduceIte, List.cons.injEq, reduceCtorEq, Nat.reduceEqDiff, List.length_nil, List.length_cons, Nat.reduceAdd, Nat.reduceLT, List.set_cons_zero, List.set_cons_succ, ↓us_sCallMoves, r_sCallMoves, h12.facts, h2.facts, fMg, fQg]
  have hno : ¬ moveV nm st cs b s call → ∀ w', ∃ x, Value.tuple ⟨[.slice none 0 0, .bool false]⟩ = .tuple ⟨[x, .bool (decide (moveV nm st cs b s call))]⟩ ∧ Own fI 1 3 w.heap.size w' x (if moveV nm st cs b s call then movesI (headC st.toNat cs b s call) else []) := fun hn w' =>
    ⟨_, by rw [decide_eq_false hn], by rw [if_neg hn]; exact Own.nil fI_len⟩
  refine m_call (sl15Good_ok nm st v cs hnm hs hl _ (h.ext hx12)) ?_
  rintro _ w3 hx3 rfl
  have hx13 := hx12.trans hx3
  have h13 := h12.ext hx3
  have h23 := h2.ext hx3
  by_cases hL : IsLarge nm st cs
  · simp only [↓vsd, vsn, gW, qd, qv, ev, pick, argE, List.map_cons, List.map_nil, Option.map_some, Option.map_none, zipE, List.cons_append, List.nil_append, ne_eq, eq_self, forall_const, implies_true, if_true, if_false, reduceIte, List.cons.injEq, reduceCtorEq, Nat.reduceEqDiff, List.length_nil, List.length_cons, Nat.reduceAdd, Nat.reduceLT, List.set_cons_zero, List.set_cons_succ, ↓us_sCallMoves, r_sCallMoves, hL, h13.facts, h23.facts, fMg, fQg]
    refine m_call (sl8Asked_ok nm st v cs b s call hnm hs hl hb _ (h.ext hx13)) ?_
    rintro _ w4 hx4 rfl
    have hx14 := hx13.trans hx4
    have h14 := h13.ext hx4
    have h24 := h23.ext hx4
    by_cases hM : IsMC nm st cs b s ∧ IsCall call
    · obtain ⟨n, rfl⟩ : ∃ n : Nat, st = n := ⟨st.toNat, by have := hM.1.1.2.1; omega⟩
      obtain ⟨hr, hrl⟩ := headC_row hM.1 call
      have h8 := hr.1
      have hn4 := hL.2
      simp only [↓vsd, vsn, gW, qd, qv, ev, pick, argE, List.map_cons, List.map_nil, Option.map_some, Option.map_none, zipE, List.cons_append, List.nil_append, ne_eq, eq_self, forall_const, implies_true, if_true, if_false, reduceIte, List.cons.injEq, reduceCtorEq, Nat.reduceEqDiff, List.length_nil, List.length_cons, Nat.reduceAdd, Nat.reduceLT, List.set_cons_zero, List.set_cons_succ, ↓us_sCallMoves, r_sCallMoves, hM, h14.facts, h24.facts, fMg, fQg]
      refine m_call (sl8Head_ok nm n v cs b s call hM.1 _ (h.ext hx14)) ?_
      rintro _ w5 hx5 rfl
      have hx15 := hx14.trans hx5
      have h15 := h14.ext hx5
      have h25 := h24.ext hx5
      have e : moveV nm n cs b s call = ((headC n cs b s call).getD 0 0 = 49) := propext ⟨fun h => h.2, fun h => ⟨⟨hL, hM.1, hM.2⟩, h⟩⟩
      have hlI : 0 < ((headC n cs b s call).length : Int) := by omega
      by_cases he : (headC n cs b s call).getD 0 0 = 49
      · have heI : (((headC n cs b s call).getD 0 0).toNat : Int) = 49 := by rw [he]; rfl
        simp only [↓vsd, vsn, gW, qd, qv, ev, pick, argE, List.map_cons, List.map_nil, Option.map_some, Option.map_none, zipE, List.cons_append, List.nil_append, ne_eq, eq_self, forall_const, implies_true, if_true, if_false, reduceIte, List.cons.injEq, reduceCtorEq, Nat.reduceEqDiff, List.length_nil, List.length_cons, Nat.reduceAdd, Nat.reduceLT, List.set_cons_zero, List.set_cons_succ, ↓us_sCallMoves, r_sCallMoves, heI, hlI, h15.facts, h25.facts, fMg, fQg]
        refine ⟨by omega, m_call (sl8Head_ok nm n v cs b s call hM.1 _ (h.ext hx15)) ?_⟩
        rintro _ w6 hx6 rfl
        simp only [↓vsd, vsn, gW, qd, qv, ev, pick, argE, List.map_cons, List.map_nil, Option.map_some, Option.map_none, zipE, List.cons_append, List.nil_append, ne_eq, eq_self, forall_const, implies_true, if_true, if_false, reduceIte, List.cons.injEq, reduceCtorEq, Nat.reduceEqDiff, List.length_nil, List.length_cons, Nat.reduceAdd, Nat.reduceLT, List.set_cons_zero, List.set_cons_succ, ↓us_sCallMoves, r_sCallMoves]
        refine m_call (sl15Moves_ok _ hr he (by omega) _) ?_
        rintro x w7 hx7 ho7
        simp only [↓vsd, vsn, gW, qd, qv, ev, pick, argE, List.map_cons, List.map_nil, Option.map_some, Option.map_none, zipE, List.cons_append, List.nil_append, ne_eq, eq_self, forall_const, implies_true, if_true, if_false, reduceIte, List.cons.injEq, reduceCtorEq, Nat.reduceEqDiff, List.length_nil, List.length_cons, Nat.reduceAdd, Nat.reduceLT, List.set_cons_zero, List.set_cons_succ, ↓us_sCallMoves, r_sCallMoves]
        exact ⟨(hx15.trans hx6).trans hx7, x, by simp only [e, he, decide_true], (ho7.mono (hx15.trans hx6).size).to (by simp only [e, he, if_true, Int.toNat_natCast])⟩
      · have heI : ¬ (((headC n cs b s call).getD 0 0).toNat : Int) = 49 := fun hh => he (by rw [← head_char]; exact hh)
        simp only [↓vsd, vsn, gW, qd, qv, ev, pick, argE, List.map_cons, List.map_nil, Option.map_some, Option.map_none, zipE, List.cons_append, List.nil_append, ne_eq, eq_self, forall_const, implies_true, if_true, if_false, reduceIte, List.cons.injEq, reduceCtorEq, Nat.reduceEqDiff, List.length_nil, List.length_cons, Nat.reduceAdd, Nat.reduceLT, List.set_cons_zero, List.set_cons_succ, ↓us_sCallMoves, r_sCallMoves, heI, hlI, h15.facts, h25.facts, fMg, fQg]
        exact ⟨by omega, hx15, hno (fun hh => he hh.2) _⟩
    · simp only [↓vsd, vsn, gW, qd, qv, ev, pick, argE, List.map_cons, List.map_nil, Option.map_some, Option.map_none, zipE, List.cons_append, List.nil_append, ne_eq, eq_self, forall_const, implies_true, if_true, if_false, reduceIte, List.cons.injEq, reduceCtorEq, Nat.reduceEqDiff, List.length_nil, List.length_cons, Nat.reduceAdd, Nat.reduceLT, List.set_cons_zero, List.set_cons_succ, ↓us_sCallMoves, r_sCallMoves, hM]
      exact ⟨hx14, hno (fun hh => hM ⟨hh.1.2.1, hh.1.2.2⟩) _⟩
  · simp only [↓vsd, vsn, gW, qd, qv, ev, pick, argE, List.map_cons, List.map_nil, Option.map_some, Option.map_none, zipE, List.cons_append, List.nil_append, ne_eq, eq_self, forall_const, implies_true, if_true, if_false, reduceIte, List.cons.injEq, reduceCtorEq, Nat.reduceEqDiff, List.length_nil, List.length_cons, Nat.reduceAdd, Nat.reduceLT, List.set_cons_zero, List.set_cons_succ, ↓us_sCallMoves, r_sCallMoves, hL]
    exact ⟨hx13, hno (fun hh => hL hh.1.1) _⟩
end Go.Proofs.Ytjcnmobdlkmaeaa
