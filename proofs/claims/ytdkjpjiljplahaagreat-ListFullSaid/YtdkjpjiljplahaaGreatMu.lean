/- ListFull: its loops, what they come to. -/
import Derived.Test.YtdkjpjiljplahaaGreatMt
namespace Go.Fl
open Go Go.Sx Go.Proofs

def tl15f : List (Nat × Tmpl) := (39, gSorted.t) :: tl14a
theorem tl15f_ok : AllT tl15f := allT_cons gSorted_ok tl14a_ok
def tm15f : CH := tmOf tl15f
theorem tm15f_ok : CallOK SG prog tm15f := tmOf_ok tl15f_ok

def envZF (c : E) (m : Nat) : Blk := .cells (cfgE c ++ [.ptr m (.int 0), .int .i64 (.int 0)])
/-- variables: the shape, where the numbers begin, the numbers, what their block is, the capacity, where the list begins, n; the words 7, what is in 8, how many 9, the round 10 -/
def inBF : Blk := .inp [.int .i64] (.var 1) (.var 2) (.var 3)
def fulE : E := .f4 210 (.var 0) (.var 7) (.f2 208 (.var 2) (.var 8)) (.f4 50 (.var 5) (.var 6) (.var 10) (.var 9))
def fulTm (l : List (Nat × SV)) : List SV := tms 130 ([(1, .one (.c (.slice 5 (.var 1) (.o1 (.lenR 1) (.var 2)) (.var 4)))), (5, iE (.var 6)), (6, pE 1), (7, uE (.var 5)), (9, inV 4)] ++ l)
def fulH (m r : E) : SH := [(1, envZF (.var 0) 3), (3, .res 0 m), (4, .row .bool r), (5, inBF)]
def negF (i : Nat) : St := ⟨[], [], 6, [(.o2 .lss (.var i) (.int 0), true)]⟩
def len16F : St := ⟨[], [], 6, [(.o2 .eql (.o1 .lenB (.var 8)) (.int 16), false)]⟩
def cntF : St := ⟨[], [], 6, [(.f2 209 (.var 8) (.var 9), false)]⟩
def lFull : LoopT :=
  ⟨fulTm [(10, iE (.var 9)), (11, iE (.var 10))], fulH (.var 7) (.var 8), 6,
   [(.exit 0, ⟨fulTm [], fulH (.f1 98 (.f1 98 (.f1 98 fulE))) (.f1 97 (.f1 98 fulE)), 6, [(.f1 97 fulE, true)]⟩),
    (.ret, ⟨tms 130 [(4, bE (.bool false))], [], 6, [(.f1 97 fulE, false)]⟩), (.fail, negF 10), (.fail, len16F), (.fail, cntF)]⟩
/-- the first that is in: k 11, j 12 -/
def fndTm (j : E) : List SV := fulTm [(10, iE (.var 9)), (11, iE (.var 10)), (12, iE (.var 11)), (14, iE j)]
def lFind : LoopT :=
  ⟨fndTm (.var 12), [(1, envZF (.var 0) 3), (4, .row .bool (.var 8)), (5, inBF)], 6,
   [(.exit 3, ⟨fndTm (.f2 200 (.var 8) (.var 12)), [(1, envZF (.var 0) 3), (4, .row .bool (.var 8)), (5, inBF)], 6, []⟩), (.fail, negF 12), (.fail, len16F), (.fail, ⟨[], [], 6, [(.o2 .lss (.f2 200 (.var 8) (.var 12)) (.int 16), false)]⟩)]⟩
def qFull : List Nat := [1, 1, 1, 1, 1, 0, 1, 0]
def qFind : List Nat := [1, 1, 1, 1, 1, 0, 1, 0, 0, 1, 0, 0, 1, 1, 0, 1, 1, 1, 0, 1, 1, 0, 1, 0, 0]
def qFRel : List Nat := [1, 0, 0, 1, 1, 0, 1, 1, 1, 0, 1, 1, 0, 1, 0, 0]
def lhFind : LH := lhOf [(qFRel, lFind)]
def lhFull : LH := lhOf [(qFull, lFull)]
end Go.Fl

/- Rounds of ListFull's loops, as they are carried out: printed. -/
namespace Go.Fl
open Go Go.Sx
abbrev kyF : E := .o2 (.bits .and .i64) (.o2 (.nthR 1 0) (.var 2) (.var 10)) (.int 15)
abbrev jF : E := .f2 200 (.var 8) (.int 0)
abbrev dF : E := .f3 63 (.f2 60 (.var 0) (.int 0)) (.f4 50 (.var 5) (.int 2) kyF (.int 0)) (.var 7)
abbrev bF : E := .f3 63 (.f2 60 (.var 0) (.int 0)) (.f4 50 (.var 5) (.int 1) kyF (.int 0)) (.f1 104 dF)
abbrev rF : E := .f3 63 (.f2 60 (.var 0) (.int 0)) (.f4 50 (.var 5) (.int 3) jF (.int 0)) (.f1 104 bF)
abbrev tF : E := .f3 63 (.f2 60 (.var 0) (.int 0)) (.f4 50 (.var 5) (.int 2) kyF (.int 0)) (.f1 104 rF)
abbrev cfF : List S1 := [.int .i64 (.f1 0 (.var 0)), .int .i64 (.f1 1 (.var 0)), .int .i64 (.f1 2 (.var 0)), .int .i64 (.f1 3 (.var 0)), .int .i64 (.f1 4 (.var 0)), .int .i64 (.f1 5 (.var 0)), .int .i64 (.f1 6 (.var 0)), .ptr 3 (.int 0), .int .i64 (.int 0)]

abbrev xF0 : SV := .one (.c (.slice 5 (.var 1) (.o1 (.lenR 1) (.var 2)) (.var 4)))
abbrev xF1 : SV := .one (.c (.ptr 1 (.int 0)))
abbrev xF2 : SV := .one (.c (.slice 4 (.int 0) (.int 16) (.int 16)))
abbrev hF0 : Nat × Blk := (4, .row .bool (.var 8))
abbrev hF1 : Nat × Blk := (5, .inp [(.int .i64)] (.var 1) (.var 2) (.var 3))
abbrev xF3 : SV := .one (.c (.ptr 4 (.var 12)))
abbrev pF0 : Path := ((.o2 .lss (.var 12) (.int 0)), false) :: []
abbrev pF1 : Path := ((.o2 .lss (.var 12) (.int 16)), true) :: pF0
abbrev pF2 : Path := ((.o2 .inB (.var 8) (.var 12)), true) :: pF1
abbrev xF4 : SV := .one (.c (.int .i64 (.o1 .nat (.o1 (.lenR 1) (.var 2)))))
abbrev xF5 : SV := .one (.c (.bool (.o2 .lss (.var 10) (.o1 .nat (.o1 (.lenR 1) (.var 2))))))
abbrev xF6 : SV := .one (.c (.bool (.o2 .lss (.var 10) (.int 40))))
abbrev pF3 : Path := ((.o2 .lss (.var 10) (.o1 .nat (.o1 (.lenR 1) (.var 2)))), true) :: []
abbrev pF4 : Path := ((.o2 .lss (.var 10) (.int 40)), true) :: pF3
abbrev xF7 : SV := .one (.c (.int .i64 kyF))
abbrev xF8 : SV := .one (.c (.ptr 6 (.int 0)))
abbrev xF9 : SV := .one (.c (.rp 5 (.var 1) (.var 10) 1 0))
abbrev xF10 : SV := .one (.c (.int .i64 (.o2 (.nthR 1 0) (.var 2) (.var 10))))
abbrev xF11 : SV := .one (.agg [.int .i64 (.f1 100 dF), .int .u64 (.f1 101 dF), .int .i64 (.f1 102 dF), .int .i64 (.f1 103 dF)])
abbrev hF2 : Nat × Blk := (6, .cells [.int .i64 (.f1 100 dF), .int .u64 (.f1 101 dF), .int .i64 (.f1 102 dF), .int .i64 (.f1 103 dF)])
abbrev hF3 : Nat × Blk := (3, .res 0 (.f1 104 dF))
abbrev pF5 : Path := ((.o2 .lss (.var 10) (.int 0)), false) :: pF4
abbrev pF6 : Path := ((.o2 .lss (.var 10) (.o1 (.lenR 1) (.var 2))), true) :: pF5
abbrev xF12 : SV := .one (.c (.int .i64 (.o2 (.arith .add .i64) (.var 10) (.int 1))))
abbrev xF13 : SV := .one (.c (.bool (.o2 .nthB (.var 8) kyF)))
abbrev xF14 : SV := .one (.c (.ptr 4 kyF))
abbrev xF15 : SV := .one (.c (.int .i64 (.f1 100 dF)))
abbrev xF16 : SV := .one (.c (.bool (.o1 .not (.o2 .eql (.f1 100 dF) (.int 0)))))
abbrev xF17 : SV := .one (.c (.ptr 6 (.int 2)))
abbrev xF18 : SV := .one (.c (.int .i64 (.f1 102 dF)))
abbrev xF19 : SV := .one (.c (.bool (.o1 .not (.o2 .eql (.f1 102 dF) (.int 0)))))
abbrev pF7 : Path := ((.o2 .lss kyF (.int 0)), false) :: pF6
abbrev pF8 : Path := ((.o2 .lss kyF (.int 16)), true) :: pF7
abbrev pF9 : Path := ((.o2 .inB (.var 8) kyF), true) :: pF8
abbrev pF10 : Path := ((.o2 .nthB (.var 8) kyF), true) :: pF9
abbrev pF11 : Path := ((.o2 .eql (.f1 100 dF) (.int 0)), true) :: pF10
abbrev xF20 : SV := .one (.c (.bool (.bool false)))
abbrev xF21 : SV := .one (.c (.bool (.bool true)))
abbrev xF22 : SV := .one (.c (.bool (.o1 .not (.o2 .eql (.f1 102 dF) (.int 1)))))
abbrev xF23 : SV := .one (.c (.bool (.o1 .not (.o2 .lss (.var 9) (.o2 (.arith .sub .i64) (.var 6) (.int 1))))))
abbrev xF24 : SV := .one (.c (.int .i64 (.o2 (.arith .sub .i64) (.var 6) (.int 1))))
abbrev pF12 : Path := ((.o2 .nthB (.var 8) kyF), false) :: pF9
abbrev pF13 : Path := ((.o2 .lss (.var 9) (.o2 (.arith .sub .i64) (.var 6) (.int 1))), true) :: pF12
abbrev pF14 : Path := ((.o2 .eql (.f1 100 dF) (.int 0)), true) :: pF13
abbrev xF25 : SV := .one (.c (.int .i64 jF))
abbrev xF26 : SV := .one (.agg [.int .i64 (.f1 100 rF), .int .u64 (.f1 101 rF), .int .i64 (.f1 102 rF), .int .i64 (.f1 103 rF)])
abbrev xF27 : SV := .one (.c (.int .i64 (.f1 102 rF)))
abbrev xF28 : SV := .one (.c (.bool (.o1 .not (.o2 .eql (.f1 102 rF) (.int 1)))))
abbrev xF29 : SV := .one (.agg [.int .i64 (.f1 100 tF), .int .u64 (.f1 101 tF), .int .i64 (.f1 102 tF), .int .i64 (.f1 103 tF)])
abbrev xF30 : SV := .one (.c (.int .i64 (.f1 102 tF)))
abbrev xF31 : SV := .one (.c (.bool (.o1 .not (.o2 .eql (.f1 102 tF) (.int 1)))))
abbrev hF4 : Nat × Blk := (3, .res 0 (.f1 104 tF))
abbrev pF15 : Path := ((.o2 .lss (.var 9) (.o2 (.arith .sub .i64) (.var 6) (.int 1))), false) :: pF12
abbrev pF16 : Path := ((.o2 .eql (.f1 100 dF) (.int 7)), true) :: pF15
abbrev pF17 : Path := ((.o2 .eql (.f1 102 dF) (.int 0)), true) :: pF16
abbrev pF18 : Path := ((.o2 .eql (.f1 102 bF) (.int 0)), true) :: pF17
abbrev pF19 : Path := ((.o2 .lss (.int 0) (.var 9)), true) :: pF18
abbrev pF20 : Path := ((.o2 .eql (.f1 102 rF) (.int 1)), true) :: pF19
abbrev pF21 : Path := ((.o2 .eql (.f1 102 tF) (.int 1)), true) :: pF20
abbrev xF32 : SV := .one (.c (.ptr 4 jF))
abbrev pF22 : Path := ((.o2 .lss jF (.int 0)), false) :: pF21
abbrev pF23 : Path := ((.o2 .lss jF (.int 16)), true) :: pF22
abbrev pF24 : Path := ((.o2 .inB (.var 8) jF), true) :: pF23
abbrev xF33 : SV := .one (.c (.bool (.o1 .not (.o2 .eql (.f1 100 dF) (.int 7)))))
abbrev xF34 : SV := .one (.c (.bool (.o1 .not (.o2 .eql (.f1 102 bF) (.int 0)))))
def lFind_0 : St := ⟨tms 130 [(1, xF0), (5, .one (.c (xi 6))), (6, xF1), (7, .one (.c (xu 5))), (9, xF2), (10, .one (.c (xi 9))), (11, .one (.c (xi 10))), (12, .one (.c (xi 11))), (14, .one (.c (xi 12))), (99, xF2), (100, .one (.c (xi 12)))], [(1, .cells cfF), hF0, hF1], 6, ((.o2 .lss (.var 12) (.int 0)), true) :: []⟩
def lFind_1 : St := ⟨tms 130 [(1, xF0), (5, .one (.c (xi 6))), (6, xF1), (7, .one (.c (xu 5))), (9, xF2), (10, .one (.c (xi 9))), (11, .one (.c (xi 10))), (12, .one (.c (xi 11))), (14, .one (.c (xi 12))), (99, xF2), (100, .one (.c (xi 12))), (101, xF3), (102, .one (.c (.bool (.o2 .nthB (.var 8) (.var 12))))), (103, .one (.c (.bool (.o1 .not (.o2 .nthB (.var 8) (.var 12))))))], [(1, .cells cfF), hF0, hF1], 6, ((.o2 .nthB (.var 8) (.var 12)), true) :: pF2⟩
def lFind_2 : St := ⟨tms 130 [(1, xF0), (5, .one (.c (xi 6))), (6, xF1), (7, .one (.c (xu 5))), (9, xF2), (10, .one (.c (xi 9))), (11, .one (.c (xi 10))), (12, .one (.c (xi 11))), (14, .one (.c (.int .i64 (.o2 (.arith .add .i64) (.var 12) (.int 1))))), (99, xF2), (100, .one (.c (xi 12))), (101, xF3), (102, .one (.c (.bool (.o2 .nthB (.var 8) (.var 12))))), (103, .one (.c (.bool (.o1 .not (.o2 .nthB (.var 8) (.var 12)))))), (104, .one (.c (xi 12))), (105, .one (.c (.int .i64 (.o2 (.arith .add .i64) (.var 12) (.int 1)))))], [(1, .cells cfF), hF0, hF1], 6, ((.o2 .nthB (.var 8) (.var 12)), false) :: pF2⟩
def lFind_3 : St := ⟨tms 130 [(1, xF0), (5, .one (.c (xi 6))), (6, xF1), (7, .one (.c (xu 5))), (9, xF2), (10, .one (.c (xi 9))), (11, .one (.c (xi 10))), (12, .one (.c (xi 11))), (14, .one (.c (xi 12))), (99, xF2), (100, .one (.c (xi 12))), (101, xF3)], [(1, .cells cfF), hF0, hF1], 6, ((.o2 .inB (.var 8) (.var 12)), false) :: pF1⟩
def lFind_4 : St := ⟨tms 130 [(1, xF0), (5, .one (.c (xi 6))), (6, xF1), (7, .one (.c (xu 5))), (9, xF2), (10, .one (.c (xi 9))), (11, .one (.c (xi 10))), (12, .one (.c (xi 11))), (14, .one (.c (xi 12))), (99, xF2), (100, .one (.c (xi 12)))], [(1, .cells cfF), hF0, hF1], 6, ((.o2 .lss (.var 12) (.int 16)), false) :: pF0⟩
def lFind_ls : List Leaf := [(.fail, lFind_0), ((.exit 3), lFind_1), (.norm, lFind_2), (.fail, lFind_3), (.fail, lFind_4)]
def lFull_0 : St := ⟨tms 130 [(1, xF0), (5, .one (.c (xi 6))), (6, xF1), (7, .one (.c (xu 5))), (9, xF2), (10, .one (.c (xi 9))), (11, .one (.c (xi 10))), (31, .one (.c (xi 10))), (32, xF0), (33, xF4), (34, xF5), (35, xF5), (36, .one (.c (xi 10))), (37, xF6), (38, xF6), (41, xF0), (42, .one (.c (xi 10)))], [(1, .cells cfF), (3, .res 0 (.var 7)), hF0, hF1], 6, ((.o2 .lss (.var 10) (.int 0)), true) :: pF4⟩
def lFull_1 : St := ⟨tms 130 [(1, xF0), (5, .one (.c (xi 6))), (6, xF1), (7, .one (.c (xu 5))), (9, xF2), (10, .one (.c (xi 9))), (11, .one (.c (xi 10))), (12, xF7), (13, xF8), (31, .one (.c (xi 10))), (32, xF0), (33, xF4), (34, xF5), (35, xF5), (36, .one (.c (xi 10))), (37, xF6), (38, xF6), (41, xF0), (42, .one (.c (xi 10))), (43, xF9), (44, xF10), (45, xF7), (46, .one (.agg cfF)), (47, .one (.c (xu 5))), (48, xF7), (49, xF11), (64, xF2), (65, xF7)], [hF2, hF0, hF1, hF3, (1, .cells cfF)], 7, ((.o2 .lss kyF (.int 0)), true) :: pF6⟩
def lFull_2 : St := ⟨tms 130 [(1, xF0), (5, .one (.c (xi 6))), (6, xF1), (7, .one (.c (xu 5))), (9, xF2), (10, .one (.c (xi 9))), (11, xF12), (12, xF7), (13, xF8), (31, .one (.c (xi 10))), (32, xF0), (33, xF4), (34, xF5), (35, xF5), (36, .one (.c (xi 10))), (37, xF6), (38, xF6), (39, .one (.c (xi 10))), (40, xF12), (41, xF0), (42, .one (.c (xi 10))), (43, xF9), (44, xF10), (45, xF7), (46, .one (.agg cfF)), (47, .one (.c (xu 5))), (48, xF7), (49, xF11), (63, xF13), (64, xF2), (65, xF7), (66, xF14), (67, xF13), (68, xF8), (69, xF15), (70, xF16), (71, xF16), (72, xF17), (73, xF18), (74, xF19), (75, xF19)], [hF2, hF0, hF1, hF3, (1, .cells cfF)], 7, ((.o2 .eql (.f1 102 dF) (.int 0)), true) :: pF11⟩
def lFull_3 : St := ⟨tms 130 [(1, xF0), (4, xF20), (5, .one (.c (xi 6))), (6, xF1), (7, .one (.c (xu 5))), (9, xF2), (10, .one (.c (xi 9))), (11, .one (.c (xi 10))), (12, xF7), (13, xF8), (31, .one (.c (xi 10))), (32, xF0), (33, xF4), (34, xF5), (35, xF5), (36, .one (.c (xi 10))), (37, xF6), (38, xF6), (41, xF0), (42, .one (.c (xi 10))), (43, xF9), (44, xF10), (45, xF7), (46, .one (.agg cfF)), (47, .one (.c (xu 5))), (48, xF7), (49, xF11), (63, xF13), (64, xF2), (65, xF7), (66, xF14), (67, xF13), (68, xF8), (69, xF15), (70, xF16), (71, xF16), (72, xF17), (73, xF18), (74, xF19), (75, xF19)], [hF2, hF0, hF1, hF3, (1, .cells cfF)], 7, ((.o2 .eql (.f1 102 dF) (.int 0)), false) :: pF11⟩
def lFull_4 : St := ⟨tms 130 [(1, xF0), (4, xF20), (5, .one (.c (xi 6))), (6, xF1), (7, .one (.c (xu 5))), (9, xF2), (10, .one (.c (xi 9))), (11, .one (.c (xi 10))), (12, xF7), (13, xF8), (31, .one (.c (xi 10))), (32, xF0), (33, xF4), (34, xF5), (35, xF5), (36, .one (.c (xi 10))), (37, xF6), (38, xF6), (41, xF0), (42, .one (.c (xi 10))), (43, xF9), (44, xF10), (45, xF7), (46, .one (.agg cfF)), (47, .one (.c (xu 5))), (48, xF7), (49, xF11), (63, xF13), (64, xF2), (65, xF7), (66, xF14), (67, xF13), (68, xF8), (69, xF15), (70, xF16), (71, xF16), (72, .tup []), (73, .tup []), (74, .tup []), (75, xF21)], [hF2, hF0, hF1, hF3, (1, .cells cfF)], 7, ((.o2 .eql (.f1 100 dF) (.int 0)), false) :: pF10⟩
def lFull_5 : St := ⟨tms 130 [(1, xF0), (5, .one (.c (xi 6))), (6, xF1), (7, .one (.c (xu 5))), (9, xF2), (10, .one (.c (.int .i64 (.o2 (.arith .add .i64) (.var 9) (.int 1))))), (11, xF12), (12, xF7), (13, xF8), (31, .one (.c (xi 10))), (32, xF0), (33, xF4), (34, xF5), (35, xF5), (36, .one (.c (xi 10))), (37, xF6), (38, xF6), (39, .one (.c (xi 10))), (40, xF12), (41, xF0), (42, .one (.c (xi 10))), (43, xF9), (44, xF10), (45, xF7), (46, .one (.agg cfF)), (47, .one (.c (xu 5))), (48, xF7), (49, xF11), (50, xF8), (51, xF15), (52, xF16), (53, xF16), (54, xF17), (55, xF18), (56, xF22), (57, xF22), (58, xF2), (59, xF7), (60, xF14), (61, .one (.c (xi 9))), (62, .one (.c (.int .i64 (.o2 (.arith .add .i64) (.var 9) (.int 1))))), (63, xF13), (64, xF2), (65, xF7), (66, xF14), (67, xF13), (76, xF23), (77, .one (.c (xi 9))), (78, .one (.c (xi 6))), (79, xF24), (80, xF23)], [hF2, (4, .row .bool (.o3 .setB (.var 8) kyF (.bool true))), hF1, hF3, (1, .cells cfF)], 7, ((.o2 .eql (.f1 102 dF) (.int 1)), true) :: pF14⟩
def lFull_6 : St := ⟨tms 130 [(1, xF0), (4, xF20), (5, .one (.c (xi 6))), (6, xF1), (7, .one (.c (xu 5))), (9, xF2), (10, .one (.c (xi 9))), (11, .one (.c (xi 10))), (12, xF7), (13, xF8), (31, .one (.c (xi 10))), (32, xF0), (33, xF4), (34, xF5), (35, xF5), (36, .one (.c (xi 10))), (37, xF6), (38, xF6), (41, xF0), (42, .one (.c (xi 10))), (43, xF9), (44, xF10), (45, xF7), (46, .one (.agg cfF)), (47, .one (.c (xu 5))), (48, xF7), (49, xF11), (50, xF8), (51, xF15), (52, xF16), (53, xF16), (54, xF17), (55, xF18), (56, xF22), (57, xF22), (63, xF13), (64, xF2), (65, xF7), (66, xF14), (67, xF13), (76, xF23), (77, .one (.c (xi 9))), (78, .one (.c (xi 6))), (79, xF24), (80, xF23)], [hF2, hF0, hF1, hF3, (1, .cells cfF)], 7, ((.o2 .eql (.f1 102 dF) (.int 1)), false) :: pF14⟩
def lFull_7 : St := ⟨tms 130 [(1, xF0), (4, xF20), (5, .one (.c (xi 6))), (6, xF1), (7, .one (.c (xu 5))), (9, xF2), (10, .one (.c (xi 9))), (11, .one (.c (xi 10))), (12, xF7), (13, xF8), (31, .one (.c (xi 10))), (32, xF0), (33, xF4), (34, xF5), (35, xF5), (36, .one (.c (xi 10))), (37, xF6), (38, xF6), (41, xF0), (42, .one (.c (xi 10))), (43, xF9), (44, xF10), (45, xF7), (46, .one (.agg cfF)), (47, .one (.c (xu 5))), (48, xF7), (49, xF11), (50, xF8), (51, xF15), (52, xF16), (53, xF16), (54, .tup []), (55, .tup []), (56, .tup []), (57, xF21), (63, xF13), (64, xF2), (65, xF7), (66, xF14), (67, xF13), (76, xF23), (77, .one (.c (xi 9))), (78, .one (.c (xi 6))), (79, xF24), (80, xF23)], [hF2, hF0, hF1, hF3, (1, .cells cfF)], 7, ((.o2 .eql (.f1 100 dF) (.int 0)), false) :: pF13⟩
def lFull_8 : St := ⟨tms 130 [(1, xF0), (5, .one (.c (xi 6))), (6, xF1), (7, .one (.c (xu 5))), (9, xF2), (10, .one (.c (xi 9))), (11, .one (.c (xi 10))), (12, xF7), (14, xF25), (106, .one (.agg cfF)), (107, .one (.c (xu 5))), (108, xF25), (109, xF26), (110, xF27), (111, xF28), (112, xF28), (113, .one (.agg cfF)), (114, .one (.c (xu 5))), (115, xF7), (116, xF29), (117, xF30), (118, xF31), (119, xF31), (120, xF2), (121, xF25), (122, xF2), (123, xF7)], [hF2, hF1, hF0, hF4, (1, .cells cfF)], 7, ((.o2 .lss jF (.int 0)), true) :: pF21⟩
def lFull_9 : St := ⟨tms 130 [(1, xF0), (5, .one (.c (xi 6))), (6, xF1), (7, .one (.c (xu 5))), (9, xF2), (10, .one (.c (xi 9))), (11, xF12), (12, xF7), (14, xF25), (39, .one (.c (xi 10))), (40, xF12), (106, .one (.agg cfF)), (107, .one (.c (xu 5))), (108, xF25), (109, xF26), (110, xF27), (111, xF28), (112, xF28), (113, .one (.agg cfF)), (114, .one (.c (xu 5))), (115, xF7), (116, xF29), (117, xF30), (118, xF31), (119, xF31), (120, xF2), (121, xF25), (122, xF2), (123, xF7), (124, xF32), (125, xF14)], [hF2, hF1, (4, .row .bool (.o3 .setB (.o3 .setB (.var 8) jF (.bool false)) kyF (.bool true))), hF4, (1, .cells cfF)], 7, ((.o2 .inB (.o3 .setB (.var 8) jF (.bool false)) kyF), true) :: pF24⟩
def lFull_10 : St := ⟨tms 130 [(1, xF0), (5, .one (.c (xi 6))), (6, xF1), (7, .one (.c (xu 5))), (9, xF2), (10, .one (.c (xi 9))), (11, .one (.c (xi 10))), (12, xF7), (14, xF25), (106, .one (.agg cfF)), (107, .one (.c (xu 5))), (108, xF25), (109, xF26), (110, xF27), (111, xF28), (112, xF28), (113, .one (.agg cfF)), (114, .one (.c (xu 5))), (115, xF7), (116, xF29), (117, xF30), (118, xF31), (119, xF31), (120, xF2), (121, xF25), (122, xF2), (123, xF7), (124, xF32), (125, xF14)], [hF2, hF1, (4, .row .bool (.o3 .setB (.var 8) jF (.bool false))), hF4, (1, .cells cfF)], 7, ((.o2 .inB (.o3 .setB (.var 8) jF (.bool false)) kyF), false) :: pF24⟩
def lFull_11 : St := ⟨tms 130 [(1, xF0), (5, .one (.c (xi 6))), (6, xF1), (7, .one (.c (xu 5))), (9, xF2), (10, .one (.c (xi 9))), (11, .one (.c (xi 10))), (12, xF7), (14, xF25), (106, .one (.agg cfF)), (107, .one (.c (xu 5))), (108, xF25), (109, xF26), (110, xF27), (111, xF28), (112, xF28), (113, .one (.agg cfF)), (114, .one (.c (xu 5))), (115, xF7), (116, xF29), (117, xF30), (118, xF31), (119, xF31), (120, xF2), (121, xF25), (122, xF2), (123, xF7), (124, xF32)], [hF2, hF1, hF0, hF4, (1, .cells cfF)], 7, ((.o2 .inB (.var 8) jF), false) :: pF23⟩
def lFull_12 : St := ⟨tms 130 [(1, xF0), (5, .one (.c (xi 6))), (6, xF1), (7, .one (.c (xu 5))), (9, xF2), (10, .one (.c (xi 9))), (11, .one (.c (xi 10))), (12, xF7), (14, xF25), (106, .one (.agg cfF)), (107, .one (.c (xu 5))), (108, xF25), (109, xF26), (110, xF27), (111, xF28), (112, xF28), (113, .one (.agg cfF)), (114, .one (.c (xu 5))), (115, xF7), (116, xF29), (117, xF30), (118, xF31), (119, xF31), (120, xF2), (121, xF25), (122, xF2), (123, xF7)], [hF2, hF1, hF0, hF4, (1, .cells cfF)], 7, ((.o2 .lss jF (.int 16)), false) :: pF22⟩
def lFull_13 : St := ⟨tms 130 [(1, xF0), (4, xF20), (5, .one (.c (xi 6))), (6, xF1), (7, .one (.c (xu 5))), (9, xF2), (10, .one (.c (xi 9))), (11, .one (.c (xi 10))), (12, xF7), (14, xF25), (106, .one (.agg cfF)), (107, .one (.c (xu 5))), (108, xF25), (109, xF26), (110, xF27), (111, xF28), (112, xF28), (113, .one (.agg cfF)), (114, .one (.c (xu 5))), (115, xF7), (116, xF29), (117, xF30), (118, xF31), (119, xF31)], [hF2, hF1, hF0, hF4, (1, .cells cfF)], 7, ((.o2 .eql (.f1 102 tF) (.int 1)), false) :: pF20⟩
def lFull_14 : St := ⟨tms 130 [(1, xF0), (4, xF20), (5, .one (.c (xi 6))), (6, xF1), (7, .one (.c (xu 5))), (9, xF2), (10, .one (.c (xi 9))), (11, .one (.c (xi 10))), (12, xF7), (14, xF25), (106, .one (.agg cfF)), (107, .one (.c (xu 5))), (108, xF25), (109, xF26), (110, xF27), (111, xF28), (112, xF28), (113, .tup []), (114, .tup []), (115, .tup []), (116, .tup []), (117, .tup []), (118, .tup []), (119, xF21)], [hF2, hF1, hF0, (3, .res 0 (.f1 104 rF)), (1, .cells cfF)], 7, ((.o2 .eql (.f1 102 rF) (.int 1)), false) :: pF19⟩
def lFull_15 : St := ⟨[], [], 0, ((.o2 .lss (.int 0) (.int 0)), true) :: pF19⟩
def lFull_16 : St := ⟨[], [], 0, ((.o2 .eql (.o1 .lenB (.var 8)) (.int 16)), false) :: pF19⟩
def lFull_17 : St := ⟨[], [], 0, ((.o2 .lss jF (.int 16)), false) :: pF19⟩
def lFull_18 : St := ⟨tms 130 [(1, xF0), (5, .one (.c (xi 6))), (6, xF1), (7, .one (.c (xu 5))), (9, xF2), (10, .one (.c (xi 9))), (11, xF12), (12, xF7), (13, xF8), (31, .one (.c (xi 10))), (32, xF0), (33, xF4), (34, xF5), (35, xF5), (36, .one (.c (xi 10))), (37, xF6), (38, xF6), (39, .one (.c (xi 10))), (40, xF12), (41, xF0), (42, .one (.c (xi 10))), (43, xF9), (44, xF10), (45, xF7), (46, .one (.agg cfF)), (47, .one (.c (xu 5))), (48, xF7), (49, xF11), (63, xF13), (64, xF2), (65, xF7), (66, xF14), (67, xF13), (76, xF23), (77, .one (.c (xi 9))), (78, .one (.c (xi 6))), (79, xF24), (80, xF23), (81, xF8), (82, xF15), (83, xF33), (84, xF33), (85, xF17), (86, xF18), (87, xF19), (88, xF19), (89, xF19), (90, .one (.agg cfF)), (91, .one (.c (xu 5))), (92, xF7), (93, .one (.agg [.int .i64 (.f1 100 bF), .int .u64 (.f1 101 bF), .int .i64 (.f1 102 bF), .int .i64 (.f1 103 bF)])), (94, .one (.c (.int .i64 (.f1 102 bF)))), (95, xF34), (96, xF34), (97, .one (.c (xi 9))), (98, .one (.c (.bool (.o2 .lss (.int 0) (.var 9)))))], [hF2, hF0, hF1, (3, .res 0 (.f1 104 bF)), (1, .cells cfF)], 7, ((.o2 .lss (.int 0) (.var 9)), false) :: pF18⟩
def lFull_19 : St := ⟨tms 130 [(1, xF0), (4, xF20), (5, .one (.c (xi 6))), (6, xF1), (7, .one (.c (xu 5))), (9, xF2), (10, .one (.c (xi 9))), (11, .one (.c (xi 10))), (12, xF7), (13, xF8), (31, .one (.c (xi 10))), (32, xF0), (33, xF4), (34, xF5), (35, xF5), (36, .one (.c (xi 10))), (37, xF6), (38, xF6), (41, xF0), (42, .one (.c (xi 10))), (43, xF9), (44, xF10), (45, xF7), (46, .one (.agg cfF)), (47, .one (.c (xu 5))), (48, xF7), (49, xF11), (63, xF13), (64, xF2), (65, xF7), (66, xF14), (67, xF13), (76, xF23), (77, .one (.c (xi 9))), (78, .one (.c (xi 6))), (79, xF24), (80, xF23), (81, xF8), (82, xF15), (83, xF33), (84, xF33), (85, xF17), (86, xF18), (87, xF19), (88, xF19), (89, xF19), (90, .one (.agg cfF)), (91, .one (.c (xu 5))), (92, xF7), (93, .one (.agg [.int .i64 (.f1 100 bF), .int .u64 (.f1 101 bF), .int .i64 (.f1 102 bF), .int .i64 (.f1 103 bF)])), (94, .one (.c (.int .i64 (.f1 102 bF)))), (95, xF34), (96, xF34)], [hF2, hF0, hF1, (3, .res 0 (.f1 104 bF)), (1, .cells cfF)], 7, ((.o2 .eql (.f1 102 bF) (.int 0)), false) :: pF17⟩
def lFull_20 : St := ⟨tms 130 [(1, xF0), (4, xF20), (5, .one (.c (xi 6))), (6, xF1), (7, .one (.c (xu 5))), (9, xF2), (10, .one (.c (xi 9))), (11, .one (.c (xi 10))), (12, xF7), (13, xF8), (31, .one (.c (xi 10))), (32, xF0), (33, xF4), (34, xF5), (35, xF5), (36, .one (.c (xi 10))), (37, xF6), (38, xF6), (41, xF0), (42, .one (.c (xi 10))), (43, xF9), (44, xF10), (45, xF7), (46, .one (.agg cfF)), (47, .one (.c (xu 5))), (48, xF7), (49, xF11), (63, xF13), (64, xF2), (65, xF7), (66, xF14), (67, xF13), (76, xF23), (77, .one (.c (xi 9))), (78, .one (.c (xi 6))), (79, xF24), (80, xF23), (81, xF8), (82, xF15), (83, xF33), (84, xF33), (85, xF17), (86, xF18), (87, xF19), (88, xF19), (89, xF19), (90, .tup []), (91, .tup []), (92, .tup []), (93, .tup []), (94, .tup []), (95, .tup []), (96, xF21)], [hF2, hF0, hF1, hF3, (1, .cells cfF)], 7, ((.o2 .eql (.f1 102 dF) (.int 0)), false) :: pF16⟩
def lFull_21 : St := ⟨tms 130 [(1, xF0), (4, xF20), (5, .one (.c (xi 6))), (6, xF1), (7, .one (.c (xu 5))), (9, xF2), (10, .one (.c (xi 9))), (11, .one (.c (xi 10))), (12, xF7), (13, xF8), (31, .one (.c (xi 10))), (32, xF0), (33, xF4), (34, xF5), (35, xF5), (36, .one (.c (xi 10))), (37, xF6), (38, xF6), (41, xF0), (42, .one (.c (xi 10))), (43, xF9), (44, xF10), (45, xF7), (46, .one (.agg cfF)), (47, .one (.c (xu 5))), (48, xF7), (49, xF11), (63, xF13), (64, xF2), (65, xF7), (66, xF14), (67, xF13), (76, xF23), (77, .one (.c (xi 9))), (78, .one (.c (xi 6))), (79, xF24), (80, xF23), (81, xF8), (82, xF15), (83, xF33), (84, xF33), (85, .tup []), (86, .tup []), (87, .tup []), (88, xF21), (89, xF21), (90, .tup []), (91, .tup []), (92, .tup []), (93, .tup []), (94, .tup []), (95, .tup []), (96, xF21)], [hF2, hF0, hF1, hF3, (1, .cells cfF)], 7, ((.o2 .eql (.f1 100 dF) (.int 7)), false) :: pF15⟩
def lFull_22 : St := ⟨tms 130 [(1, xF0), (5, .one (.c (xi 6))), (6, xF1), (7, .one (.c (xu 5))), (9, xF2), (10, .one (.c (xi 9))), (11, .one (.c (xi 10))), (12, xF7), (13, xF8), (31, .one (.c (xi 10))), (32, xF0), (33, xF4), (34, xF5), (35, xF5), (36, .one (.c (xi 10))), (37, xF6), (38, xF6), (41, xF0), (42, .one (.c (xi 10))), (43, xF9), (44, xF10), (45, xF7), (46, .one (.agg cfF)), (47, .one (.c (xu 5))), (48, xF7), (49, xF11), (64, xF2), (65, xF7), (66, xF14)], [hF2, hF0, hF1, hF3, (1, .cells cfF)], 7, ((.o2 .inB (.var 8) kyF), false) :: pF8⟩
def lFull_23 : St := ⟨tms 130 [(1, xF0), (5, .one (.c (xi 6))), (6, xF1), (7, .one (.c (xu 5))), (9, xF2), (10, .one (.c (xi 9))), (11, .one (.c (xi 10))), (12, xF7), (13, xF8), (31, .one (.c (xi 10))), (32, xF0), (33, xF4), (34, xF5), (35, xF5), (36, .one (.c (xi 10))), (37, xF6), (38, xF6), (41, xF0), (42, .one (.c (xi 10))), (43, xF9), (44, xF10), (45, xF7), (46, .one (.agg cfF)), (47, .one (.c (xu 5))), (48, xF7), (49, xF11), (64, xF2), (65, xF7)], [hF2, hF0, hF1, hF3, (1, .cells cfF)], 7, ((.o2 .lss kyF (.int 16)), false) :: pF7⟩
def lFull_24 : St := ⟨tms 130 [(1, xF0), (5, .one (.c (xi 6))), (6, xF1), (7, .one (.c (xu 5))), (9, xF2), (10, .one (.c (xi 9))), (11, .one (.c (xi 10))), (31, .one (.c (xi 10))), (32, xF0), (33, xF4), (34, xF5), (35, xF5), (36, .one (.c (xi 10))), (37, xF6), (38, xF6), (41, xF0), (42, .one (.c (xi 10)))], [(1, .cells cfF), (3, .res 0 (.var 7)), hF0, hF1], 6, ((.o2 .lss (.var 10) (.o1 (.lenR 1) (.var 2))), false) :: pF5⟩
def lFull_25 : St := ⟨tms 130 [(1, xF0), (5, .one (.c (xi 6))), (6, xF1), (7, .one (.c (xu 5))), (9, xF2), (10, .one (.c (xi 9))), (11, .one (.c (xi 10))), (31, .one (.c (xi 10))), (32, xF0), (33, xF4), (34, xF5), (35, xF5), (36, .one (.c (xi 10))), (37, xF6), (38, xF6)], [(1, .cells cfF), (3, .res 0 (.var 7)), hF0, hF1], 6, ((.o2 .lss (.var 10) (.int 40)), false) :: pF3⟩
def lFull_26 : St := ⟨tms 130 [(1, xF0), (5, .one (.c (xi 6))), (6, xF1), (7, .one (.c (xu 5))), (9, xF2), (10, .one (.c (xi 9))), (11, .one (.c (xi 10))), (31, .one (.c (xi 10))), (32, xF0), (33, xF4), (34, xF5), (35, xF5), (36, .tup []), (37, .tup []), (38, xF20)], [(1, .cells cfF), (3, .res 0 (.var 7)), hF0, hF1], 6, ((.o2 .lss (.var 10) (.o1 .nat (.o1 (.lenR 1) (.var 2)))), false) :: []⟩
def lFull_ls : List Leaf := [(.fail, lFull_0), (.fail, lFull_1), (.norm, lFull_2), (.ret, lFull_3), (.ret, lFull_4), (.norm, lFull_5), (.ret, lFull_6), (.ret, lFull_7), (.fail, lFull_8), (.norm, lFull_9), (.fail, lFull_10), (.fail, lFull_11), (.fail, lFull_12), (.ret, lFull_13), (.ret, lFull_14), (.fail, lFull_15), (.fail, lFull_16), (.fail, lFull_17), (.norm, lFull_18), (.ret, lFull_19), (.ret, lFull_20), (.ret, lFull_21), (.fail, lFull_22), (.fail, lFull_23), (.fail, lFull_24), ((.exit 0), lFull_25), ((.exit 0), lFull_26)]
end Go.Fl

/- ListFull: its loops, shown. -/
namespace Go.Fl
open Go Go.Sx Go.Proofs
set_option maxRecDepth 100000
set_option linter.unusedVariables false

/-! ### how many are in -/
theorem cnt_le (l : List Bool) : cntT l ≤ l.length := List.length_filter_le _ _
theorem cnt_on : ∀ (l : List Bool) (k : Nat), k < l.length → l.getD k false = false → cntT (l.set k true) = cntT l + 1
  | [], k, h, _ => by simp at h
  | b :: r, 0, _, h => by
    simp only [List.getD_cons_zero] at h
    subst h
    simp [cntT]
  | b :: r, k + 1, h, e => by
    have := cnt_on r k (by simpa using h) (by simpa using e)
    simp only [cntT] at this ⊢
    cases b <;> simp [this]
theorem cnt_off : ∀ (l : List Bool) (k : Nat), l.getD k false = true → cntT (l.set k false) + 1 = cntT l
  | [], k, h => by simp at h
  | b :: r, 0, h => by
    simp only [List.getD_cons_zero] at h
    subst h
    simp [cntT]
  | b :: r, k + 1, e => by
    have := cnt_off r k (by simpa using e)
    simp only [cntT] at this ⊢
    cases b <;> simp [this]
theorem cnt_pos : ∀ (l : List Bool), 0 < cntT l → ∃ k, k < l.length ∧ l.getD k false = true
  | [], h => by simp [cntT] at h
  | true :: r, _ => ⟨0, by simp, rfl⟩
  | false :: r, h => by
    have h' : 0 < cntT r := by simpa [cntT] using h
    obtain ⟨k, h1, h2⟩ := cnt_pos r h'
    exact ⟨k + 1, by simpa using h1, by simpa using h2⟩
theorem cnt_finds {l : List Bool} (h16 : l.length = 16) (h : 0 < cntT l) : 0 ≤ skipTo l 16 0 ∧ skipTo l 16 0 < 16 ∧ l.getD (skipTo l 16 0).toNat false = true := by
  obtain ⟨k, h1, h2⟩ := cnt_pos l h
  exact skip_finds l k (by omega) (by omega) (by simpa using h2) 16 0 (Int.le_refl _) (by omega) (by decide)

theorem row_eqvF {v : V} {g g' : E} (h : (g.den SG v).toBools = (g'.den SG v).toBools) : Blk.eqv SG v (.row .bool g) (.row .bool g') := fun n o hp id hv hh => by
  subst hv
  obtain ⟨h1, ty, h2⟩ := hh
  refine ⟨h1, ty, ?_⟩
  rw [h2]
  simp only [rowVals, h]

/-! ### the first that is in -/
theorem len_ofF {t : LoopT} {v : V} (hq : ReqL t v) (hm : ((.fail, len16F) : Leaf) ∈ t.outs) : (v 8).toBools.length = 16 := by
  by_cases h : (v 8).toBools.length = 16
  · exact h
  · exact (fail_not hq hm fun x hx => by
      rw [List.mem_singleton.1 hx]
      show (((v 8).toBools.length : Int) == 16) = false
      exact beq_eq_false_iff_ne.2 (by omega)).elim
theorem len_onF {σ : V} (h : (σ 8).toBools.length = 16) : ¬ PT SG σ len16F.pa := fun hc => by
  have h1 : (((σ 8).toBools.length : Int) == 16) = false := pt1 hc
  rw [h] at h1; cases h1
theorem neg_ofF {t : LoopT} {v : V} {i : Nat} (hq : ReqL t v) (hm : ((.fail, negF i) : Leaf) ∈ t.outs) : ¬ (v i).toInt < 0 := fun h => fail_not hq hm fun x hx => by rw [List.mem_singleton.1 hx]; exact decide_eq_true h
theorem neg_onF {i : Nat} {k : Int} (σ : V) (h : (σ i).toInt = k) (h0 : ¬ k < 0) : ¬ PT SG σ (negF i).pa := fun hc => h0 (by rw [← h]; exact of_dec_t (pt1 hc))
def μF (v : V) : Nat := (16 - (v 12).toInt).toNat
abbrev fdV (v : V) := skipTo (v 8).toBools (16 - (v 12).toInt).toNat (v 12).toInt
def fσ : Nat → E := fun j => match j with | 12 => .o2 (.arith .add .i64) (.var 12) (.int 1) | j => .var j
theorem lFind_ok : lFind.ok SG prog (loopAt 9 qFind) := by
  have h0 : ∀ v : V, ReqL lFind v → ¬ (v 12).toInt < 0 := fun v hq => neg_ofF hq (.tail _ (.head _))
  have hl : ∀ v : V, ReqL lFind v → (v 8).toBools.length = 16 := fun v hq => len_ofF hq (.tail _ (.tail _ (.head _)))
  have hs : ∀ v : V, ReqL lFind v → fdV v < 16 := fun v hq => by
    by_cases h : fdV v < 16
    · exact h
    · exact (fail_not hq (.tail _ (.tail _ (.tail _ (.head _)))) fun x hx => by
        rw [List.mem_singleton.1 hx]
        exact decide_eq_false h).elim
  have hex : ∀ (s : St) (v : V), fdV v = (v 12).toInt → tmSame (fndTm (.f2 200 (.var 8) (.var 12))) (s.tm.set 14 (iE (.f2 200 (.var 8) (.var 12)))) = true → s.tm[14]? = some (iE (.var 12)) →
      EndsOK v s.H [(1, envZF (.var 0) 3), (4, .row .bool (.var 8)), (5, inBF)] → RoundOK SG lFind μF (.exit 3, s) v := fun s v h1 h2 h3 h4 => by
    refine round_exitE (.head _) (tmEq_set (tmSame_eq h2) fun y hy => ?_) h4 fun x hx => by cases hx
    rw [h3] at hy
    simp only [Option.some.injEq] at hy
    subst hy
    refine ⟨rfl, fun n hn => ?_⟩
    subst hn
    show Value.int .i64 (n.v 12).toInt = Value.int .i64 (fdV n.v)
    rw [h1]
  refine loop_ok tm15f_ok (ls := lFind_ls) μF (by kernel_rfl) (by kernel_rfl) (allL_cons ?_ <| allL_cons ?_ <| allL_cons ?_ <| allL_cons ?_ <| allL_cons ?_ <| allL_nil _)
  all_goals intro v hp hq
  · exact absurd (of_dec_t (ptM hp 0 rfl)) (h0 v hq)
  · have hk : (v 12).toInt < 16 := of_dec_t (ptM hp 2 rfl)
    have hb : (v 8).toBools.getD (v 12).toInt.toNat false = true := ptM hp 0 rfl
    refine hex _ v ?_ (by kernel_rfl) rfl (ends_cons rfl (eqv_rfl _ _) <| ends_cons rfl (eqv_rfl _ _) <| ends_cons rfl (eqv_rfl _ _) <| ends_nil _ _)
    obtain ⟨f, hf⟩ : ∃ f, (16 - (v 12).toInt).toNat = f + 1 := ⟨(16 - (v 12).toInt).toNat - 1, by omega⟩
    rw [fdV, hf]
    simp only [skipTo, hb, Bool.not_true, Bool.and_false, Bool.false_eq_true, if_false]
  · have hk : (v 12).toInt < 16 := of_dec_t (ptM hp 2 rfl)
    have hb : (v 8).toBools.getD (v 12).toInt.toNat false = false := ptM hp 0 rfl
    obtain ⟨hf, hs'⟩ := toNat_on (h0 v hq) hk (by decide)
    have e : fdV v = skipTo (v 8).toBools (16 - i64 ((v 12).toInt + 1)).toNat (i64 ((v 12).toInt + 1)) := by
      rw [fdV, hf]
      simp only [skipTo, hb, (ltT _ _).2 hk, Bool.not_false, Bool.and_true, if_true]
    have key : E.den SG (fun j => (fσ j).den SG v) (.f2 200 (.var 8) (.var 12)) = E.den SG v (.f2 200 (.var 8) (.var 12)) := by
      show G.int (skipTo (v 8).toBools (16 - i64 ((v 12).toInt + 1)).toNat (i64 ((v 12).toInt + 1))) = G.int (fdV v)
      rw [e]
    refine round_on' 12 [.f2 200 (.var 8) (.var 12)] fσ (by kernel_rfl) (pcs_cons rfl (eqv_rfl _ _) <| pcs_cons rfl (eqv_rfl _ _) <| pcs_cons rfl (eqv_rfl _ _) <| pcs_nil _ _ _) ?_ ?_ (by kernel_rfl) ?_ ?_
    · show (16 - i64 ((v 12).toInt + 1)).toNat < (16 - (v 12).toInt).toNat
      omega
    · intro y hy hf
      rcases List.mem_cons.1 hy with rfl | hy
      · cases hf
      · rcases List.mem_cons.1 hy with rfl | hy
        · exact neg_onF _ (k := i64 ((v 12).toInt + 1)) rfl (by have := h0 v hq; omega)
        · rcases List.mem_cons.1 hy with rfl | hy
          · exact len_onF (hl v hq)
          · rw [List.mem_singleton.1 hy]
            intro hc
            have h1 : decide (skipTo (v 8).toBools (16 - i64 ((v 12).toInt + 1)).toNat (i64 ((v 12).toInt + 1)) < 16) = false := pt1 hc
            rw [← e] at h1
            exact absurd (hs v hq) (of_decide_eq_false h1)
    · intro i hi
      match i, hi with
      | 0, _ => rfl
      | 1, _ => rfl
      | 2, _ => rfl
      | 3, _ => rfl
      | 4, _ => rfl
      | 5, _ => rfl
      | 6, _ => rfl
      | 7, _ => rfl
      | 8, _ => rfl
      | 9, _ => rfl
      | 10, _ => rfl
      | 11, _ => rfl
    · intro e he
      rw [List.mem_singleton.1 he]
      exact key
  · have hk : (v 12).toInt < 16 := of_dec_t (ptM hp 1 rfl)
    have h1 : ¬ (v 12).toInt.toNat < (v 8).toBools.length := of_dec_f (ptM hp 0 rfl)
    have := h0 v hq
    have := hl v hq
    omega
  · have hk : ¬ (v 12).toInt < 16 := of_dec_f (ptM hp 0 rfl)
    have h1 := hs v hq
    rw [fdV, show (16 - (v 12).toInt).toNat = 0 by omega] at h1
    exact absurd h1 hk
end Go.Fl

/- ListFull: its outer loop, shown. -/
namespace Go.Fl
open Go Go.Sx Go.Proofs
set_option maxRecDepth 100000
set_option linter.unusedVariables false

def μG (v : V) : Nat := (40 - (v 10).toInt).toNat
abbrev kyV (v : V) : Int := keyA ((v 2).toInts.getD ((v 10).toInt.toNat * 1 + 0) 0)
abbrev jV (v : V) : Int := skipTo (v 8).toBools 16 0
abbrev dV (v : V) := askP (gcfg (v 0)) 0 (v 5).toInt 2 (kyV v) (gmem (v 7))
abbrev bVV (v : V) := askP (gcfg (v 0)) 0 (v 5).toInt 1 (kyV v) (dV v).2
abbrev rV (v : V) := askP (gcfg (v 0)) 0 (v 5).toInt 3 (jV v) (bVV v).2
abbrev tV (v : V) := askP (gcfg (v 0)) 0 (v 5).toInt 2 (kyV v) (rV v).2
abbrev foV (v : V) := fullOne (gcfg (v 0)) (v 5).toInt (v 6).toInt ((v 2).toInts.getD ((v 10).toInt.toNat * 1 + 0) 0) (v 9).toInt (v 8).toBools (gmem (v 7))
abbrev fgV (v : V) (f : Nat) := fullGo (gcfg (v 0)) (v 5).toInt (v 6).toInt (v 2).toInts f (v 10).toInt (v 9).toInt (v 8).toBools (gmem (v 7))
theorem fulE_den (v : V) : fulE.den SG v = .u (.pair (.bool (fgV v (40 - (v 10).toInt).toNat).1) (.pair (.bools (fgV v (40 - (v 10).toInt).toNat).2.1)
    (.pair (.int (fgV v (40 - (v 10).toInt).toNat).2.2.1) (.mem (fgV v (40 - (v 10).toInt).toNat).2.2.2)))) := rfl
theorem askF (c : Cfg) (h k y : Int) (m : GU) : F3 63 (.u (.cw c 0)) (.u (.quad h k y 0)) m = pdm (askP c 0 h k y (gmem m)) := rfl
theorem pdm_e (x : Done × Mem) : F1 100 (pdm x) = .int x.1.e := rfl
theorem pdm_v (x : Done × Mem) : F1 102 (pdm x) = .int x.1.value := rfl
theorem pdm_m (x : Done × Mem) : F1 104 (pdm x) = .u (.mem x.2) := rfl
theorem kyF_den (v : V) : kyF.den SG v = .int (kyV v) := rfl
theorem sixteen : ((16 : Int) - 0).toNat = 16 := by decide
theorem jF_den (v : V) : jF.den SG v = .int (jV v) := by
  show G.int (skipTo (v 8).toBools ((16 : Int) - 0).toNat 0) = _
  rw [sixteen]
theorem dF_den (v : V) : dF.den SG v = pdm (dV v) := by
  show F3 63 (F2 60 (v 0) (.int 0)) (F4 50 (v 5) (.int 2) (kyF.den SG v) (.int 0)) (v 7) = _
  rw [kyF_den]
  show F3 63 (.u (.cw (gcfg (v 0)) 0)) (.u (.quad (v 5).toInt 2 (kyV v) 0)) (v 7) = _
  rw [askF]
theorem bF_den (v : V) : bF.den SG v = pdm (bVV v) := by
  show F3 63 (F2 60 (v 0) (.int 0)) (F4 50 (v 5) (.int 1) (kyF.den SG v) (.int 0)) (F1 104 (dF.den SG v)) = _
  rw [kyF_den, dF_den, pdm_m]
  show F3 63 (.u (.cw (gcfg (v 0)) 0)) (.u (.quad (v 5).toInt 1 (kyV v) 0)) (.u (.mem (dV v).2)) = _
  rw [askF, gmem_u]
theorem rF_den (v : V) : rF.den SG v = pdm (rV v) := by
  show F3 63 (F2 60 (v 0) (.int 0)) (F4 50 (v 5) (.int 3) (jF.den SG v) (.int 0)) (F1 104 (bF.den SG v)) = _
  rw [jF_den, bF_den, pdm_m]
  show F3 63 (.u (.cw (gcfg (v 0)) 0)) (.u (.quad (v 5).toInt 3 (jV v) 0)) (.u (.mem (bVV v).2)) = _
  rw [askF, gmem_u]
theorem tF_den (v : V) : tF.den SG v = pdm (tV v) := by
  show F3 63 (F2 60 (v 0) (.int 0)) (F4 50 (v 5) (.int 2) (kyF.den SG v) (.int 0)) (F1 104 (rF.den SG v)) = _
  rw [kyF_den, rF_den, pdm_m]
  show F3 63 (.u (.cw (gcfg (v 0)) 0)) (.u (.quad (v 5).toInt 2 (kyV v) 0)) (.u (.mem (rV v).2)) = _
  rw [askF, gmem_u]
/-- what the way says of an answer -/
theorem way_e {v : V} {x : E} {y : Done × Mem} (h : x.den SG v = pdm y) {j : Int} {b : Bool} (hp : (E.den SG v (.o2 .eql (.f1 100 x) (.int j))).toBool = b) : (y.1.e == j) = b := by
  rw [eql_den, show E.den SG v (.f1 100 x) = F1 100 (x.den SG v) from rfl, h, pdm_e] at hp
  exact hp
theorem way_v {v : V} {x : E} {y : Done × Mem} (h : x.den SG v = pdm y) {j : Int} {b : Bool} (hp : (E.den SG v (.o2 .eql (.f1 102 x) (.int j))).toBool = b) : (y.1.value == j) = b := by
  rw [eql_den, show E.den SG v (.f1 102 x) = F1 102 (x.den SG v) from rfl, h, pdm_v] at hp
  exact hp
theorem way_m {v : V} {x : E} {y : Done × Mem} (h : x.den SG v = pdm y) : E.den SG v (.f1 104 x) = .u (.mem y.2) := by
  show F1 104 (x.den SG v) = _
  rw [h, pdm_m]

theorem fg_on {v : V} {k : Nat} (hl : ltI (v 10).toInt (((v 2).toInts.length / 1 : Nat) : Int) = true) :
    fgV v (k + 1) = if (foV v).1 then fullGo (gcfg (v 0)) (v 5).toInt (v 6).toInt (v 2).toInts k (i64 ((v 10).toInt + 1)) (foV v).2.2.1 (foV v).2.1 (foV v).2.2.2 else foV v := by
  simp only [fgV, fullGo, hl, if_true]
theorem fg_end {v : V} {k : Nat} (hl : ltI (v 10).toInt (((v 2).toInts.length / 1 : Nat) : Int) = false) : fgV v k = (true, (v 8).toBools, (v 9).toInt, gmem (v 7)) := by
  cases k with
  | zero => rfl
  | succ k => simp only [fgV, fullGo, hl, Bool.false_eq_true, if_false]
theorem ful_ret {s : St} {v : V} (hn0 : ¬ (v 10).toInt < 0) (hn : (v 10).toInt < 40) (hl : ltI (v 10).toInt (((v 2).toInts.length / 1 : Nat) : Int) = true) (hb : (foV v).1 = false)
    (ht : tmSame (tms 130 [(4, bE (.bool false))]) s.tm = true) : RoundOK SG lFull μG (.ret, s) v := by
  obtain ⟨hk, _⟩ := toNat_on hn0 hn (by decide)
  refine round_ret (.tail _ (.head _)) ht (ends_nil _ _) fun x hx => ?_
  rw [List.mem_singleton.1 hx]
  show (gfst (fulE.den SG v)).toBool = false
  rw [fulE_den, hk, fg_on hl, hb]
  simp only [Bool.false_eq_true, if_false, hb]; rfl
theorem ful_exit {s : St} {v : V} (h : fgV v (40 - (v 10).toInt).toNat = (true, (v 8).toBools, (v 9).toInt, gmem (v 7))) (ht : tmSame (fulTm []) s.tm = true)
    (h1 : s.H.get 1 = some (envZF (.var 0) 3)) (h3 : s.H.get 3 = some (.res 0 (.var 7))) (h4 : s.H.get 4 = some (.row .bool (.var 8))) (h5 : s.H.get 5 = some inBF) : RoundOK SG lFull μG (.exit 0, s) v := by
  refine round_exit (.head _) ht (ends_cons h1 (eqv_rfl _ _) <| ends_cons h3 (wf_mem ?_) <| ends_cons h4 (row_eqvF ?_) <| ends_cons h5 (eqv_rfl _ _) <| ends_nil _ _) fun x hx => ?_
  · show _ = gsnd (gsnd (gsnd (fulE.den SG v)))
    rw [fulE_den, h]; rfl
  · show _ = (gfst (gsnd (fulE.den SG v))).toBools
    rw [fulE_den, h]; rfl
  · rw [List.mem_singleton.1 hx]
    show (gfst (fulE.den SG v)).toBool = true
    rw [fulE_den, h]; rfl
def gσ (m r n : E) : Nat → E := fun j => match j with | 7 => m | 8 => r | 9 => n | 10 => .o2 (.arith .add .i64) (.var 10) (.int 1) | j => .var j
theorem cnt_onF {σ : V} {c : Nat} {n : Int} (h : cntT (σ 8).toBools = c) (h' : (σ 9).toInt = n) (e : (c : Int) = n) : ¬ PT SG σ cntF.pa := fun hc => by
  have h1 : decide ((cntT (σ 8).toBools : Int) = (σ 9).toInt) = false := pt1 hc
  rw [h, h', e] at h1
  simp at h1
theorem ful_norm {s : St} {v : V} (m r n : E) (m' : Mem) (hm : m.den SG v = .u (.mem m')) (hn0 : ¬ (v 10).toInt < 0) (hn : (v 10).toInt < 40) (hl : ltI (v 10).toInt (((v 2).toInts.length / 1 : Nat) : Int) = true)
    (h : foV v = (true, (r.den SG v).toBools, (n.den SG v).toInt, m')) (h16 : (r.den SG v).toBools.length = 16) (hc : (cntT (r.den SG v).toBools : Int) = (n.den SG v).toInt)
    (ht : tmFit (gσ m r n) id lFull.tm s.tm = true) (hH : PcsOK v s.H (gσ m r n) (fulH (.var 7) (.var 8))) : RoundOK SG lFull μG (.norm, s) v := by
  obtain ⟨hk, hs⟩ := toNat_on hn0 hn (by decide)
  have key : E.den SG (fun j => (gσ m r n j).den SG v) fulE = E.den SG v fulE := by
    have e : fgV v (40 - (v 10).toInt).toNat = fullGo (gcfg (v 0)) (v 5).toInt (v 6).toInt (v 2).toInts (40 - i64 ((v 10).toInt + 1)).toNat (i64 ((v 10).toInt + 1)) (n.den SG v).toInt (r.den SG v).toBools m' := by
      rw [hk, fg_on hl, h]
      simp only [if_true]
    rw [fulE_den v, e, fulE_den]
    have e7 : gmem (E.den SG v (gσ m r n 7)) = m' := by
      show gmem (m.den SG v) = m'
      rw [hm, gmem_u]
    simp only [fgV, e7]
    rfl
  refine round_on' 7 [.f1 98 (.f1 98 (.f1 98 fulE)), .f1 97 (.f1 98 fulE), .f1 97 fulE] (gσ m r n) ht hH ?_ ?_ (by kernel_rfl) ?_ ?_
  · show (40 - i64 ((v 10).toInt + 1)).toNat < (40 - (v 10).toInt).toNat
    omega
  · intro y hy hf
    rcases List.mem_cons.1 hy with rfl | hy
    · cases hf
    · rcases List.mem_cons.1 hy with rfl | hy
      · cases hf
      · rcases List.mem_cons.1 hy with rfl | hy
        · exact neg_onF _ (k := i64 ((v 10).toInt + 1)) rfl (by omega)
        · rcases List.mem_cons.1 hy with rfl | hy
          · exact len_onF h16
          · rw [List.mem_singleton.1 hy]
            exact cnt_onF rfl rfl hc
  · intro i hi
    match i, hi with
    | 0, _ => rfl
    | 1, _ => rfl
    | 2, _ => rfl
    | 3, _ => rfl
    | 4, _ => rfl
    | 5, _ => rfl
    | 6, _ => rfl
  · intro e he
    rcases List.mem_cons.1 he with rfl | he
    · exact congrArg (fun r => F1 98 (F1 98 (F1 98 r))) key
    · rcases List.mem_cons.1 he with rfl | he
      · exact congrArg (fun r => F1 97 (F1 98 r)) key
      · rw [List.mem_singleton.1 he]
        exact congrArg (fun r => F1 97 r) key
theorem in_full : codeAt (loopAt 9 qFull) qFRel = some (.loop (loopAt 9 qFind)) := by kernel_rfl
theorem lhFind_ok : LoopOK SG prog (loopAt 9 qFull) lhFind := lhOf_ok fun x hx body hb => by
  rw [List.mem_singleton.1 hx] at hb ⊢
  simp only [in_full, Option.some.injEq, Code.loop.injEq] at hb
  rw [← hb]; exact lFind_ok
end Go.Fl

/- ListFull: its outer loop, way by way. -/
namespace Go.Fl
open Go Go.Sx Go.Proofs
set_option maxRecDepth 100000
set_option linter.unusedVariables false
set_option linter.unusedSimpArgs false

theorem ky_ok (v : V) : 0 ≤ kyV v ∧ kyV v < 16 := keyA_ok _
def onE : E := .o3 .setB (.var 8) kyF (.bool true)
def offE : E := .o3 .setB (.var 8) jF (.bool false)
def swE : E := .o3 .setB offE kyF (.bool true)
theorem onE_den (v : V) : onE.den SG v = .bools ((v 8).toBools.set (kyV v).toNat true) := by
  show O3.setB.ap (v 8) (kyF.den SG v) (.bool true) = _
  rw [kyF_den]; rfl
theorem offE_den (v : V) : offE.den SG v = .bools ((v 8).toBools.set (jV v).toNat false) := by
  show O3.setB.ap (v 8) (jF.den SG v) (.bool false) = _
  rw [jF_den]; rfl
theorem swE_den (v : V) : swE.den SG v = .bools (((v 8).toBools.set (jV v).toNat false).set (kyV v).toNat true) := by
  show O3.setB.ap (offE.den SG v) (kyF.den SG v) (.bool true) = _
  rw [offE_den, kyF_den]; rfl
def upE : E := .o2 (.arith .add .i64) (.var 9) (.int 1)
theorem upE_den (v : V) : upE.den SG v = .int (i64 ((v 9).toInt + 1)) := rfl
theorem lss_of {v : V} {a b : E} {c : Bool} {x y : Int} (ha : a.den SG v = .int x) (hb : b.den SG v = .int y) (h : (E.den SG v (.o2 .lss a b)).toBool = c) : ltI x y = c := by
  have h' : decide ((a.den SG v).toInt < (b.den SG v).toInt) = c := h
  rw [ha, hb] at h'
  exact h'
section
variable {s : St} {v : V} (hn0 : ¬ (v 10).toInt < 0) (h16 : (v 8).toBools.length = 16) (hc : (cntT (v 8).toBools : Int) = (v 9).toInt)
theorem fin_pcs (m r n : E) (h1 : s.H.get 1 = some (envZF (.var 0) 3)) (h3 : s.H.get 3 = some (.res 0 m)) (h4 : s.H.get 4 = some (.row .bool r)) (h5 : s.H.get 5 = some inBF) : PcsOK v s.H (gσ m r n) (fulH (.var 7) (.var 8)) :=
  pcs_cons h1 (eqv_rfl _ _) <| pcs_cons h3 (eqv_rfl _ _) <| pcs_cons h4 (eqv_rfl _ _) <| pcs_cons h5 (eqv_rfl _ _) <| pcs_nil _ _ _
end
theorem lFull_ok : lFull.ok SG prog (loopAt 9 qFull) := by
  have h0 : ∀ v : V, ReqL lFull v → ¬ (v 10).toInt < 0 := fun v hq => neg_ofF hq (.tail _ (.tail _ (.head _)))
  have hl : ∀ v : V, ReqL lFull v → (v 8).toBools.length = 16 := fun v hq => len_ofF hq (.tail _ (.tail _ (.tail _ (.head _))))
  have hc : ∀ v : V, ReqL lFull v → (cntT (v 8).toBools : Int) = (v 9).toInt := fun v hq => by
    by_cases h : (cntT (v 8).toBools : Int) = (v 9).toInt
    · exact h
    · exact (fail_not hq (.tail _ (.tail _ (.tail _ (.tail _ (.head _))))) fun x hx => by
        rw [List.mem_singleton.1 hx]
        exact decide_eq_false h).elim
  have hj : ∀ v : V, ReqL lFull v → ltI 0 (v 9).toInt = true → 0 ≤ jV v ∧ jV v < 16 ∧ (v 8).toBools.getD (jV v).toNat false = true := fun v hq hp => by
    have h1 := (ltT _ _).1 hp
    have h2 := hc v hq
    exact cnt_finds (hl v hq) (by omega)
  refine loop_okM tm15f_ok lhFind_ok (ls := lFull_ls) μG (by kernel_rfl) (by kernel_rfl) (allL_cons ?_ <| allL_cons ?_ <| allL_cons ?_ <| allL_cons ?_ <| allL_cons ?_ <| allL_cons ?_ <| allL_cons ?_ <| allL_cons ?_ <| allL_cons ?_ <| allL_cons ?_ <| allL_cons ?_ <| allL_cons ?_ <| allL_cons ?_ <| allL_cons ?_ <| allL_cons ?_ <| allL_cons ?_ <| allL_cons ?_ <| allL_cons ?_ <| allL_cons ?_ <| allL_cons ?_ <| allL_cons ?_ <| allL_cons ?_ <| allL_cons ?_ <| allL_cons ?_ <| allL_cons ?_ <| allL_cons ?_ <| allL_cons ?_ <| allL_nil _)
  all_goals intro v hp hq
  · exact absurd (of_dec_t (ptM hp 0 rfl)) (h0 v hq)
  · have h1 : kyV v < 0 := of_dec_t (ptM hp 0 rfl)
    have := ky_ok v
    omega
  · have d2 : ((dV v).1.value == 0) = true := way_v (dF_den v) (ptM hp 0 rfl)
    have d1 : ((dV v).1.e == 0) = true := way_e (dF_den v) (ptM hp 1 rfl)
    have hin : (v 8).toBools.getD (kyV v).toNat false = true := ptM hp 2 rfl
    have hlen : ltI (v 10).toInt (((v 2).toInts.length / 1 : Nat) : Int) = true := ptM hp 6 rfl
    have hi : (v 10).toInt < 40 := of_dec_t (ptM hp 8 rfl)
    exact ful_norm (.f1 104 dF) (.var 8) (.var 9) _ (way_m (dF_den v)) (h0 v hq) hi hlen (by show foV v = (true, (v 8).toBools, (v 9).toInt, (dV v).2); simp only [foV, fullOne, fullNo, fullSwap, hin, d1, d2, Bool.false_eq_true, if_false, if_true, Bool.and_true, Bool.and_false, Bool.true_and, Bool.false_and, Bool.and_self]; try rfl) (hl v hq) (hc v hq) (by kernel_rfl) (fin_pcs _ _ _ rfl rfl rfl rfl)
  · have d2 : ((dV v).1.value == 0) = false := way_v (dF_den v) (ptM hp 0 rfl)
    have d1 : ((dV v).1.e == 0) = true := way_e (dF_den v) (ptM hp 1 rfl)
    have hin : (v 8).toBools.getD (kyV v).toNat false = true := ptM hp 2 rfl
    have hlen : ltI (v 10).toInt (((v 2).toInts.length / 1 : Nat) : Int) = true := ptM hp 6 rfl
    have hi : (v 10).toInt < 40 := of_dec_t (ptM hp 8 rfl)
    exact ful_ret (h0 v hq) hi hlen (by simp only [foV, fullOne, fullNo, fullSwap, hin, d1, d2, Bool.false_eq_true, if_false, if_true, Bool.and_true, Bool.and_false, Bool.true_and, Bool.false_and, Bool.and_self]) (by kernel_rfl)
  · have d1 : ((dV v).1.e == 0) = false := way_e (dF_den v) (ptM hp 0 rfl)
    have hin : (v 8).toBools.getD (kyV v).toNat false = true := ptM hp 1 rfl
    have hlen : ltI (v 10).toInt (((v 2).toInts.length / 1 : Nat) : Int) = true := ptM hp 5 rfl
    have hi : (v 10).toInt < 40 := of_dec_t (ptM hp 7 rfl)
    exact ful_ret (h0 v hq) hi hlen (by simp only [foV, fullOne, fullNo, fullSwap, hin, d1, Bool.false_eq_true, if_false, if_true, Bool.and_true, Bool.and_false, Bool.true_and, Bool.false_and, Bool.and_self]) (by kernel_rfl)
  · have d2 : ((dV v).1.value == 1) = true := way_v (dF_den v) (ptM hp 0 rfl)
    have d1 : ((dV v).1.e == 0) = true := way_e (dF_den v) (ptM hp 1 rfl)
    have hmany : ltI (v 9).toInt (i64 ((v 6).toInt - 1)) = true := ptM hp 2 rfl
    have hin : (v 8).toBools.getD (kyV v).toNat false = false := ptM hp 3 rfl
    have hlen : ltI (v 10).toInt (((v 2).toInts.length / 1 : Nat) : Int) = true := ptM hp 7 rfl
    have hi : (v 10).toInt < 40 := of_dec_t (ptM hp 9 rfl)
    have hky := ky_ok v
    have h16 := hl v hq
    have hcn := hc v hq
    have hle := cnt_le (v 8).toBools
    exact ful_norm (.f1 104 dF) onE upE _ (way_m (dF_den v)) (h0 v hq) hi hlen (by rw [onE_den, upE_den]; simp only [foV, fullOne, fullNo, fullSwap, hin, hmany, d1, d2, Bool.false_eq_true, if_false, if_true, Bool.and_true, Bool.and_false, Bool.true_and, Bool.false_and, Bool.and_self]; try rfl) (by rw [onE_den]; show (List.set _ _ _).length = 16; rw [List.length_set]; exact hl v hq) (by rw [onE_den, upE_den]; show ((cntT ((v 8).toBools.set (kyV v).toNat true) : Nat) : Int) = i64 ((v 9).toInt + 1); rw [cnt_on _ _ (by omega) hin, i64_in' (by omega)]; omega) (by kernel_rfl) (fin_pcs _ _ _ rfl rfl rfl rfl)
  · have d2 : ((dV v).1.value == 1) = false := way_v (dF_den v) (ptM hp 0 rfl)
    have d1 : ((dV v).1.e == 0) = true := way_e (dF_den v) (ptM hp 1 rfl)
    have hmany : ltI (v 9).toInt (i64 ((v 6).toInt - 1)) = true := ptM hp 2 rfl
    have hin : (v 8).toBools.getD (kyV v).toNat false = false := ptM hp 3 rfl
    have hlen : ltI (v 10).toInt (((v 2).toInts.length / 1 : Nat) : Int) = true := ptM hp 7 rfl
    have hi : (v 10).toInt < 40 := of_dec_t (ptM hp 9 rfl)
    exact ful_ret (h0 v hq) hi hlen (by simp only [foV, fullOne, fullNo, fullSwap, hin, hmany, d1, d2, Bool.false_eq_true, if_false, if_true, Bool.and_true, Bool.and_false, Bool.true_and, Bool.false_and, Bool.and_self]) (by kernel_rfl)
  · have d1 : ((dV v).1.e == 0) = false := way_e (dF_den v) (ptM hp 0 rfl)
    have hmany : ltI (v 9).toInt (i64 ((v 6).toInt - 1)) = true := ptM hp 1 rfl
    have hin : (v 8).toBools.getD (kyV v).toNat false = false := ptM hp 2 rfl
    have hlen : ltI (v 10).toInt (((v 2).toInts.length / 1 : Nat) : Int) = true := ptM hp 6 rfl
    have hi : (v 10).toInt < 40 := of_dec_t (ptM hp 8 rfl)
    exact ful_ret (h0 v hq) hi hlen (by simp only [foV, fullOne, fullNo, fullSwap, hin, hmany, d1, Bool.false_eq_true, if_false, if_true, Bool.and_true, Bool.and_false, Bool.true_and, Bool.false_and, Bool.and_self]) (by kernel_rfl)
  · have hpos : ltI 0 (v 9).toInt = true := ptM hp 3 rfl
    have hjj := hj v hq hpos
    have h1 := (ltT _ _).1 (lss_of (jF_den v) rfl (ptM hp 0 rfl))
    omega
  · have t1 : ((tV v).1.value == 1) = true := way_v (tF_den v) (ptM hp 4 rfl)
    have r1 : ((rV v).1.value == 1) = true := way_v (rF_den v) (ptM hp 5 rfl)
    have hpos : ltI 0 (v 9).toInt = true := ptM hp 6 rfl
    have b2 : ((bVV v).1.value == 0) = true := way_v (bF_den v) (ptM hp 7 rfl)
    have d2 : ((dV v).1.value == 0) = true := way_v (dF_den v) (ptM hp 8 rfl)
    have d1 : ((dV v).1.e == 7) = true := way_e (dF_den v) (ptM hp 9 rfl)
    have hmany : ltI (v 9).toInt (i64 ((v 6).toInt - 1)) = false := ptM hp 10 rfl
    have hin : (v 8).toBools.getD (kyV v).toNat false = false := ptM hp 11 rfl
    have hlen : ltI (v 10).toInt (((v 2).toInts.length / 1 : Nat) : Int) = true := ptM hp 15 rfl
    have hi : (v 10).toInt < 40 := of_dec_t (ptM hp 17 rfl)
    have hky := ky_ok v
    have hjj := hj v hq hpos
    have h16 := hl v hq
    have hcn := hc v hq
    have hof := cnt_off _ _ hjj.2.2
    have hno : ((v 8).toBools.set (jV v).toNat false).getD (kyV v).toNat false = false := by
      have hne : ¬ (kyV v).toNat = (jV v).toNat := fun e => by rw [e, hjj.2.2] at hin; cases hin
      rw [getD_set _ _ _ _ (by omega), if_neg hne]; exact hin
    exact ful_norm (.f1 104 tF) swE (.var 9) _ (way_m (tF_den v)) (h0 v hq) hi hlen (by rw [swE_den]; show foV v = (true, ((v 8).toBools.set (jV v).toNat false).set (kyV v).toNat true, (v 9).toInt, (tV v).2); simp only [foV, fullOne, fullNo, fullSwap, hin, hmany, d1, d2, b2, hpos, r1, t1, Bool.false_eq_true, if_false, if_true, Bool.and_true, Bool.and_false, Bool.true_and, Bool.false_and, Bool.and_self]; try rfl) (by rw [swE_den]; show (List.set (List.set _ _ _) _ _).length = 16; rw [List.length_set, List.length_set]; exact hl v hq) (by rw [swE_den]; show ((cntT (((v 8).toBools.set (jV v).toNat false).set (kyV v).toNat true) : Nat) : Int) = (v 9).toInt; rw [cnt_on _ _ (by rw [List.length_set]; omega) hno]; omega) (by kernel_rfl) (fin_pcs _ _ _ rfl rfl rfl rfl)
  · have hpos : ltI 0 (v 9).toInt = true := ptM hp 6 rfl
    have h1 : decide ((kyF.den SG v).toInt.toNat < (offE.den SG v).toBools.length) = false := ptM hp 0 rfl
    rw [kyF_den, offE_den] at h1
    have h2 := of_decide_eq_false h1
    simp only [G.toBools_bools, G.toInt_int, List.length_set] at h2
    have := ky_ok v
    have := hl v hq
    omega
  · have hpos : ltI 0 (v 9).toInt = true := ptM hp 5 rfl
    have hjj := hj v hq hpos
    have h1 : decide ((jF.den SG v).toInt.toNat < (v 8).toBools.length) = false := ptM hp 0 rfl
    rw [jF_den] at h1
    have h2 := of_decide_eq_false h1
    simp only [G.toInt_int] at h2
    have := hl v hq
    omega
  · have hpos : ltI 0 (v 9).toInt = true := ptM hp 4 rfl
    have hjj := hj v hq hpos
    have h1 := (ltF _ _).1 (lss_of (jF_den v) rfl (ptM hp 0 rfl))
    omega
  · have t1 : ((tV v).1.value == 1) = false := way_v (tF_den v) (ptM hp 0 rfl)
    have r1 : ((rV v).1.value == 1) = true := way_v (rF_den v) (ptM hp 1 rfl)
    have hpos : ltI 0 (v 9).toInt = true := ptM hp 2 rfl
    have b2 : ((bVV v).1.value == 0) = true := way_v (bF_den v) (ptM hp 3 rfl)
    have d2 : ((dV v).1.value == 0) = true := way_v (dF_den v) (ptM hp 4 rfl)
    have d1 : ((dV v).1.e == 7) = true := way_e (dF_den v) (ptM hp 5 rfl)
    have hmany : ltI (v 9).toInt (i64 ((v 6).toInt - 1)) = false := ptM hp 6 rfl
    have hin : (v 8).toBools.getD (kyV v).toNat false = false := ptM hp 7 rfl
    have hlen : ltI (v 10).toInt (((v 2).toInts.length / 1 : Nat) : Int) = true := ptM hp 11 rfl
    have hi : (v 10).toInt < 40 := of_dec_t (ptM hp 13 rfl)
    exact ful_ret (h0 v hq) hi hlen (by simp only [foV, fullOne, fullNo, fullSwap, hin, hmany, d1, d2, b2, hpos, r1, t1, Bool.false_eq_true, if_false, if_true, Bool.and_true, Bool.and_false, Bool.true_and, Bool.false_and, Bool.and_self]) (by kernel_rfl)
  · have r1 : ((rV v).1.value == 1) = false := way_v (rF_den v) (ptM hp 0 rfl)
    have hpos : ltI 0 (v 9).toInt = true := ptM hp 1 rfl
    have b2 : ((bVV v).1.value == 0) = true := way_v (bF_den v) (ptM hp 2 rfl)
    have d2 : ((dV v).1.value == 0) = true := way_v (dF_den v) (ptM hp 3 rfl)
    have d1 : ((dV v).1.e == 7) = true := way_e (dF_den v) (ptM hp 4 rfl)
    have hmany : ltI (v 9).toInt (i64 ((v 6).toInt - 1)) = false := ptM hp 5 rfl
    have hin : (v 8).toBools.getD (kyV v).toNat false = false := ptM hp 6 rfl
    have hlen : ltI (v 10).toInt (((v 2).toInts.length / 1 : Nat) : Int) = true := ptM hp 10 rfl
    have hi : (v 10).toInt < 40 := of_dec_t (ptM hp 12 rfl)
    exact ful_ret (h0 v hq) hi hlen (by simp only [foV, fullOne, fullNo, fullSwap, hin, hmany, d1, d2, b2, hpos, r1, Bool.false_eq_true, if_false, if_true, Bool.and_true, Bool.and_false, Bool.true_and, Bool.false_and, Bool.and_self]) (by kernel_rfl)
  · have h : decide ((0 : Int) < 0) = true := ptM hp 0 rfl
    cases h
  · have h1 : (((v 8).toBools.length : Int) == 16) = false := ptM hp 0 rfl
    rw [hl v hq] at h1; cases h1
  · have hpos : ltI 0 (v 9).toInt = true := ptM hp 1 rfl
    have hjj := hj v hq hpos
    have h1 := (ltF _ _).1 (lss_of (jF_den v) rfl (ptM hp 0 rfl))
    omega
  · have hpos : ltI 0 (v 9).toInt = false := ptM hp 0 rfl
    have b2 : ((bVV v).1.value == 0) = true := way_v (bF_den v) (ptM hp 1 rfl)
    have d2 : ((dV v).1.value == 0) = true := way_v (dF_den v) (ptM hp 2 rfl)
    have d1 : ((dV v).1.e == 7) = true := way_e (dF_den v) (ptM hp 3 rfl)
    have hmany : ltI (v 9).toInt (i64 ((v 6).toInt - 1)) = false := ptM hp 4 rfl
    have hin : (v 8).toBools.getD (kyV v).toNat false = false := ptM hp 5 rfl
    have hlen : ltI (v 10).toInt (((v 2).toInts.length / 1 : Nat) : Int) = true := ptM hp 9 rfl
    have hi : (v 10).toInt < 40 := of_dec_t (ptM hp 11 rfl)
    exact ful_norm (.f1 104 bF) (.var 8) (.var 9) _ (way_m (bF_den v)) (h0 v hq) hi hlen (by show foV v = (true, (v 8).toBools, (v 9).toInt, (bVV v).2); simp only [foV, fullOne, fullNo, fullSwap, hin, hmany, d1, d2, b2, hpos, Bool.false_eq_true, if_false, if_true, Bool.and_true, Bool.and_false, Bool.true_and, Bool.false_and, Bool.and_self]; try rfl) (hl v hq) (hc v hq) (by kernel_rfl) (fin_pcs _ _ _ rfl rfl rfl rfl)
  · have b2 : ((bVV v).1.value == 0) = false := way_v (bF_den v) (ptM hp 0 rfl)
    have d2 : ((dV v).1.value == 0) = true := way_v (dF_den v) (ptM hp 1 rfl)
    have d1 : ((dV v).1.e == 7) = true := way_e (dF_den v) (ptM hp 2 rfl)
    have hmany : ltI (v 9).toInt (i64 ((v 6).toInt - 1)) = false := ptM hp 3 rfl
    have hin : (v 8).toBools.getD (kyV v).toNat false = false := ptM hp 4 rfl
    have hlen : ltI (v 10).toInt (((v 2).toInts.length / 1 : Nat) : Int) = true := ptM hp 8 rfl
    have hi : (v 10).toInt < 40 := of_dec_t (ptM hp 10 rfl)
    exact ful_ret (h0 v hq) hi hlen (by simp only [foV, fullOne, fullNo, fullSwap, hin, hmany, d1, d2, b2, Bool.false_eq_true, if_false, if_true, Bool.and_true, Bool.and_false, Bool.true_and, Bool.false_and, Bool.and_self]) (by kernel_rfl)
  · have d2 : ((dV v).1.value == 0) = false := way_v (dF_den v) (ptM hp 0 rfl)
    have d1 : ((dV v).1.e == 7) = true := way_e (dF_den v) (ptM hp 1 rfl)
    have hmany : ltI (v 9).toInt (i64 ((v 6).toInt - 1)) = false := ptM hp 2 rfl
    have hin : (v 8).toBools.getD (kyV v).toNat false = false := ptM hp 3 rfl
    have hlen : ltI (v 10).toInt (((v 2).toInts.length / 1 : Nat) : Int) = true := ptM hp 7 rfl
    have hi : (v 10).toInt < 40 := of_dec_t (ptM hp 9 rfl)
    exact ful_ret (h0 v hq) hi hlen (by simp only [foV, fullOne, fullNo, fullSwap, hin, hmany, d1, d2, Bool.false_eq_true, if_false, if_true, Bool.and_true, Bool.and_false, Bool.true_and, Bool.false_and, Bool.and_self]) (by kernel_rfl)
  · have d1 : ((dV v).1.e == 7) = false := way_e (dF_den v) (ptM hp 0 rfl)
    have hmany : ltI (v 9).toInt (i64 ((v 6).toInt - 1)) = false := ptM hp 1 rfl
    have hin : (v 8).toBools.getD (kyV v).toNat false = false := ptM hp 2 rfl
    have hlen : ltI (v 10).toInt (((v 2).toInts.length / 1 : Nat) : Int) = true := ptM hp 6 rfl
    have hi : (v 10).toInt < 40 := of_dec_t (ptM hp 8 rfl)
    exact ful_ret (h0 v hq) hi hlen (by simp only [foV, fullOne, fullNo, fullSwap, hin, hmany, d1, Bool.false_eq_true, if_false, if_true, Bool.and_true, Bool.and_false, Bool.true_and, Bool.false_and, Bool.and_self]) (by kernel_rfl)
  · have h1 : ¬ (kyV v).toNat < (v 8).toBools.length := of_dec_f (ptM hp 0 rfl)
    have := hl v hq
    have := ky_ok v
    omega
  · have h1 : ¬ kyV v < 16 := of_dec_f (ptM hp 0 rfl)
    have := ky_ok v
    omega
  · have h1 : ¬ (v 10).toInt < (((v 2).toInts.length / 1 : Nat) : Int) := of_dec_f (ptM hp 0 rfl)
    have h2 : (v 10).toInt < (((((v 2).toInts.length / 1 : Nat) : Int).toNat : Nat) : Int) := of_dec_t (ptM hp 3 rfl)
    rw [Int.toNat_natCast] at h2
    exact absurd h2 h1
  · have hi : ¬ (v 10).toInt < 40 := of_dec_f (ptM hp 0 rfl)
    exact ful_exit (by rw [show (40 - (v 10).toInt).toNat = 0 by omega]; rfl) (by kernel_rfl) rfl rfl rfl rfl
  · have h2 : ¬ (v 10).toInt < (((((v 2).toInts.length / 1 : Nat) : Int).toNat : Nat) : Int) := of_dec_f (ptM hp 0 rfl)
    rw [Int.toNat_natCast] at h2
    exact ful_exit (fg_end (decide_eq_false h2)) (by kernel_rfl) rfl rfl rfl rfl
end Go.Fl

/- ListFull: the function. -/
namespace Go.Fl
open Go Go.Sx Go.Proofs
set_option maxRecDepth 100000
set_option linter.unusedVariables false

theorem at_Full : CallAt SG prog 9 (callL tab tm15f 20 20 lhFull 9) := callL_at tab_ok tm15f_ok (lh_ok fun x hx => by rw [List.mem_singleton.1 hx]; exact lFull_ok)
def gFull : GSpec := ⟨[iE (.var 6), .one (.c (.slice 5 (.var 1) (.o1 (.lenR 1) (.var 2)) (.var 4)))], [(5, inBF)], 6, [⟨bE (.bool true), none, [(5, inBF)], 6, []⟩], []⟩
def gFullN : GSpec := ⟨[iE (.var 6), .one (.c .nils)], [], 1, [val (bE (.bool true))], []⟩
def nNE : E := .o2 (.arith .add .i64) (.int 1) (.o2 (.bits .and .i64) (.var 6) (.int 7))
def cNE : E := c16 nNE
def bNE : E := begE cNE
def zNE : E := .o1 .zerosB (.int 16)
def tNE : E := .f4 210 cNE (.f1 104 bNE) (.f2 208 (.var 2) zNE) (.f4 50 (.f1 101 bNE) nNE (.int 0) (.int 0))
def nOf (k : Int) : Int := i64 (1 + ibits .and k 7)
theorem nOf_ok (k : Int) : 1 ≤ nOf k ∧ nOf k ≤ 8 := by
  have h := keyW_ok k
  show 1 ≤ i64 (1 + keyW k) ∧ i64 (1 + keyW k) ≤ 8
  rw [i64_in' (by omega)]
  omega
abbrev nV (v : V) : Int := nOf (v 6).toInt
theorem nNE_den (v : V) : nNE.den SG v = .int (nV v) := rfl
theorem c_at (a b c d e f g : Int) : F4 60 (F4 50 (.int a) (.int b) (.int c) (.int d)) (.int e) (.int f) (.int g) = .u (.cfg ⟨a, b, c, d, e, f, g⟩) := rfl
theorem cNE_den (v : V) : cNE.den SG v = .u (.cfg (cfgA 4 (nV v) 12 40)) := by
  show F4 60 (F4 50 (.int 4) (nNE.den SG v) (.int 12) (.int 40)) (.int 100) (.int 600) (.int 3) = _
  rw [nNE_den, c_at]; rfl
theorem b_at (c : Cfg) : F3 62 (F2 60 (.u (.cfg c)) (.int 0)) (.u (.actx ⟨1, 2, 0, 0, 0, 0, true⟩)) (F1 93 (.u (.cfg c))) = pdm (doP c 0 ⟨1, 2, 0, 0, 0, 0, true⟩ (freshMem c)) := rfl
theorem bNE_den (v : V) : bNE.den SG v = pdm (begunD (nV v)) := by
  show F3 62 (F2 60 (cNE.den SG v) (.int 0)) (.u (.actx ⟨1, 2, 0, 0, 0, 0, true⟩)) (F1 93 (cNE.den SG v)) = _
  rw [cNE_den, b_at]; rfl
theorem pdm_h (x : Done × Mem) : F1 101 (pdm x) = .int x.1.handle := rfl
attribute [local irreducible] begunD fullGo sortedP nOf
theorem bN_e (v : V) : E.den SG v (.f1 100 bNE) = .int (begunD (nV v)).1.e := by
  show F1 100 (bNE.den SG v) = _
  rw [bNE_den, pdm_e]
theorem bN_h (v : V) : E.den SG v (.f1 101 bNE) = .int (begunD (nV v)).1.handle := by
  show F1 101 (bNE.den SG v) = _
  rw [bNE_den, pdm_h]
theorem bN_m (v : V) : E.den SG v (.f1 104 bNE) = .u (.mem (begunD (nV v)).2) := by
  show F1 104 (bNE.den SG v) = _
  rw [bNE_den, pdm_m]
theorem zNE_den (v : V) : E.den SG v zNE = .bools (List.replicate 16 false) := rfl
abbrev thF (n : Int) (g : List Int) := fullGo (cfgA 4 n 12 40) (begunD n).1.handle n g 40 0 0 (List.replicate 16 false) (begunD n).2
theorem f4_210 (c : Cfg) (m : Mem) (g : List Int) (r : List Bool) (q : GU) : F4 210 (.u (.cfg c)) (.u (.mem m)) (.u (.pair (.ints g) (.bools r))) q =
    .u (.pair (.bool (fuR c m g r (gquad q)).1) (.pair (.bools (fuR c m g r (gquad q)).2.1) (.pair (.int (fuR c m g r (gquad q)).2.2.1) (.mem (fuR c m g r (gquad q)).2.2.2)))) := rfl
theorem forty : ((40 : Int) - 0).toNat = 40 := by decide
theorem fuR_at (c : Cfg) (m : Mem) (g : List Int) (r : List Bool) (h n : Int) : fuR c m g r (h, n, 0, 0) = fullGo c h n g 40 0 0 r m := by
  show fullGo c h n g ((40 : Int) - 0).toNat 0 0 r m = _
  rw [forty]
theorem tNE_den (v : V) : tNE.den SG v = .u (.pair (.bool (thF (nV v) (v 2).toInts).1) (.pair (.bools (thF (nV v) (v 2).toInts).2.1) (.pair (.int (thF (nV v) (v 2).toInts).2.2.1) (.mem (thF (nV v) (v 2).toInts).2.2.2)))) := by
  show F4 210 (E.den SG v cNE) (E.den SG v (.f1 104 bNE)) (F2 208 (v 2) (E.den SG v zNE)) (F4 50 (E.den SG v (.f1 101 bNE)) (nNE.den SG v) (.int 0) (.int 0)) = _
  rw [cNE_den, bN_h, bN_m, zNE_den, nNE_den]
  show F4 210 (.u (.cfg (cfgA 4 (nV v) 12 40))) (.u (.mem (begunD (nV v)).2)) (.u (.pair (.ints (v 2).toInts) (.bools (List.replicate 16 false)))) (.u (.quad (begunD (nV v)).1.handle (nV v) 0 0)) = _
  rw [f4_210, gquad_u, fuR_at]
theorem bN_no {v : V} {pa : Path} (hp : PT SG v pa) (i : Nat) (hi : pa[i]? = some (.o2 .eql (.f1 100 bNE) (.int 0), false)) : False := by
  have h := ptM hp i hi
  rw [eql_den, bN_e, (full_law (nOf_ok _).1 (nOf_ok _).2 []).1] at h
  cases h
theorem check_ok {n : Int} (h0 : 1 ≤ n) (h1 : n ≤ 8) : cfgCheck (cfgA 4 n 12 40) = true := by
  have : n = 1 ∨ n = 2 ∨ n = 3 ∨ n = 4 ∨ n = 5 ∨ n = 6 ∨ n = 7 ∨ n = 8 := by omega
  rcases this with rfl | rfl | rfl | rfl | rfl | rfl | rfl | rfl <;> decide
theorem cN_no {v : V} {pa : Path} (hp : PT SG v pa) (i : Nat) (hi : pa[i]? = some (.f1 92 cNE, false)) : False := by
  have h := ptM hp i hi
  rw [show E.den SG v (.f1 92 cNE) = F1 92 (E.den SG v cNE) from rfl, cNE_den] at h
  have h : cfgCheck (cfgA 4 (nV v) 12 40) = false := h
  rw [check_ok (nOf_ok _).1 (nOf_ok _).2] at h
  cases h
theorem tN_ok (v : V) : E.den SG v (.f1 97 tNE) = .bool (thF (nV v) (v 2).toInts).1 := by
  show gfst (tNE.den SG v) = _
  rw [tNE_den]; rfl
theorem tN_ins (v : V) : E.den SG v (.f1 97 (.f1 98 tNE)) = .bools (thF (nV v) (v 2).toInts).2.1 := by
  show gfst (gsnd (tNE.den SG v)) = _
  rw [tNE_den]; rfl
theorem tN_mem (v : V) : E.den SG v (.f1 98 (.f1 98 (.f1 98 tNE))) = .u (.mem (thF (nV v) (v 2).toInts).2.2.2) := by
  show gsnd (gsnd (gsnd (tNE.den SG v))) = _
  rw [tNE_den]; rfl
theorem tN_no {v : V} {pa : Path} (hp : PT SG v pa) (i : Nat) (hi : pa[i]? = some (.f1 97 tNE, false)) : False := by
  have h := ptM hp i hi
  obtain ⟨_, ins, many, m', h1, _⟩ := full_law (nOf_ok (v 6).toInt).1 (nOf_ok _).2 (v 2).toInts
  rw [tN_ok, show thF (nV v) (v 2).toInts = (true, ins, many, m') from h1] at h
  cases h
theorem f3_206F (c : Cfg) (h : Int) (m : Mem) (r : List Bool) : F3 206 (.u (.cw c h)) (.u (.mem m)) (.bools r) = .bool (sortedP c h m r) := rfl
def stF : List CO := [
  ⟨true, bE (.f3 206 (.f2 60 cNE (.f1 101 bNE)) (.f1 98 (.f1 98 (.f1 98 tNE))) (.f1 97 (.f1 98 tNE))), [(5, inBF)], 18, [(.f1 97 tNE, true), (.o2 .eql (.f1 100 bNE) (.int 0), true)]⟩,
  ⟨false, .tup [], [], 0, [(.o2 .eql (.o1 .lenB (.f1 97 (.f1 98 tNE))) (.int 16), false), (.f1 97 tNE, true), (.o2 .eql (.f1 100 bNE) (.int 0), true)]⟩,
  ⟨true, bE (.bool false), [], 18, [(.f1 97 tNE, false), (.o2 .eql (.f1 100 bNE) (.int 0), true)]⟩,
  ⟨false, .tup [], [], 0, [(.o2 .lss (.int 0) (.int 0), true), (.o2 .eql (.f1 100 bNE) (.int 0), true)]⟩,
  ⟨false, .tup [], [], 0, [(.o2 .eql (.o1 .lenB zNE) (.int 16), false), (.o2 .eql (.f1 100 bNE) (.int 0), true)]⟩,
  ⟨false, .tup [], [], 0, [(.f2 209 zNE (.int 0), false), (.o2 .eql (.f1 100 bNE) (.int 0), true)]⟩,
  ⟨true, bE (.bool false), [(5, inBF)], 17, [(.o2 .eql (.f1 100 bNE) (.int 0), false)]⟩,
  ⟨false, .tup [], [], 0, [(.f1 92 cNE, false)]⟩]
theorem lenB_denF (v : V) (a : E) : E.den SG v (.o1 .lenB a) = .int ((a.den SG v).toBools.length : Int) := rfl
theorem zN_no {v : V} {pa : Path} (hp : PT SG v pa) (i : Nat) (hi : pa[i]? = some (.o2 .eql (.o1 .lenB zNE) (.int 16), false)) : False := by
  have h := ptM hp i hi
  rw [eql_den, lenB_denF, zNE_den] at h
  cases h
theorem gFull_ok : gFull.t.ok SG prog 9 := by
  refine GSpec.ok at_Full gFull (by kernel_rfl) ⟨stF, by as_aux_lemma => kernel_rfl,
    allC_cons (fun v hp hq => ?_) <| allC_cons (gNo fun n hp hq => ?_) <| allC_cons (gNo fun n hp hq => tN_no hp 0 rfl) <| allC_cons (gNo fun n hp hq => ?_) <| allC_cons (gNo fun n hp hq => zN_no hp 0 rfl) <|
    allC_cons (gNo fun n hp hq => ?_) <| allC_cons (gNo fun n hp hq => bN_no hp 0 rfl) <| allC_cons (gNo fun n hp hq => cN_no hp 0 rfl) <| allC_nil _⟩
  · refine ⟨_, .head _, (pt_nil _).2 trivial, endOK_none rfl (fun n hn => ?_) (rest_cons rfl rfl (eqv_rfl _ _) rest_nil)⟩
    subst hn
    obtain ⟨_, ins, many, m', h1, _, h2⟩ := full_law (nOf_ok (n.v 6).toInt).1 (nOf_ok _).2 (n.v 2).toInts
    have e : E.den SG n.v (.f3 206 (.f2 60 cNE (.f1 101 bNE)) (.f1 98 (.f1 98 (.f1 98 tNE))) (.f1 97 (.f1 98 tNE))) = .bool true := by
      show F3 206 (F2 60 (E.den SG n.v cNE) (E.den SG n.v (.f1 101 bNE))) (E.den SG n.v (.f1 98 (.f1 98 (.f1 98 tNE)))) (E.den SG n.v (.f1 97 (.f1 98 tNE))) = _
      rw [cNE_den, bN_h, tN_mem, tN_ins, show thF (nV n.v) (n.v 2).toInts = (true, ins, many, m') from h1]
      show F3 206 (.u (.cw (cfgA 4 (nV n.v) 12 40) (begunD (nV n.v)).1.handle)) (.u (.mem m')) (.bools ins) = _
      rw [f3_206F, h2]
    rw [bE_den, bE_den, e]; rfl
  · have h := ptM hp 0 rfl
    obtain ⟨_, ins, many, m', h1, h16, _⟩ := full_law (nOf_ok (n.v 6).toInt).1 (nOf_ok _).2 (n.v 2).toInts
    rw [eql_den, lenB_denF, tN_ins, show thF (nV n.v) (n.v 2).toInts = (true, ins, many, m') from h1] at h
    simp only [G.toBools_bools, h16] at h
    cases h
  · have h : decide ((0 : Int) < 0) = true := ptM hp 0 rfl
    cases h
  · have h : decide ((cntT (List.replicate 16 false) : Int) = 0) = false := ptM hp 0 rfl
    cases h
def stFN : List CO := [
  ⟨true, bE (.f3 206 (.f2 60 cNE (.f1 101 bNE)) (.f1 104 bNE) zNE), [], 13, [(.o2 .eql (.f1 100 bNE) (.int 0), true)]⟩,
  ⟨false, .tup [], [], 0, [(.o2 .eql (.o1 .lenB zNE) (.int 16), false), (.o2 .eql (.f1 100 bNE) (.int 0), true)]⟩,
  ⟨true, bE (.bool false), [], 12, [(.o2 .eql (.f1 100 bNE) (.int 0), false)]⟩,
  ⟨false, .tup [], [], 0, [(.f1 92 cNE, false)]⟩]
theorem begunF_sorted {n : Int} (h0 : 1 ≤ n) (h1 : n ≤ 8) : sortedP (cfgA 4 n 12 40) (begunD n).1.handle (begunD n).2 (List.replicate 16 false) = true := by
  obtain ⟨_, ins, many, m', h1, _, h2⟩ := full_law h0 h1 []
  have e : fullGo (cfgA 4 n 12 40) (begunD n).1.handle n [] 40 0 0 (List.replicate 16 false) (begunD n).2 = (true, List.replicate 16 false, 0, (begunD n).2) := by
    unfold fullGo
    rw [(ltF _ _).2 (by decide)]; rfl
  rw [e] at h1
  simp only [Prod.mk.injEq, true_and] at h1
  obtain ⟨h3, _, h4⟩ := h1
  rw [← h3, ← h4] at h2
  exact h2
theorem gFullN_ok : gFullN.t.ok SG prog 9 := by
  refine GSpec.ok at_Full gFullN (by kernel_rfl) ⟨stFN, by as_aux_lemma => kernel_rfl,
    allC_cons (fun v hp hq => ?_) <| allC_cons (gNo fun n hp hq => zN_no hp 0 rfl) <| allC_cons (gNo fun n hp hq => bN_no hp 0 rfl) <| allC_cons (gNo fun n hp hq => cN_no hp 0 rfl) <| allC_nil _⟩
  refine ⟨_, .head _, (pt_nil _).2 trivial, endOK_none rfl (fun n hn => ?_) rest_nil⟩
  subst hn
  have e : E.den SG n.v (.f3 206 (.f2 60 cNE (.f1 101 bNE)) (.f1 104 bNE) zNE) = .bool true := by
    show F3 206 (F2 60 (E.den SG n.v cNE) (E.den SG n.v (.f1 101 bNE))) (E.den SG n.v (.f1 104 bNE)) (E.den SG n.v zNE) = _
    rw [cNE_den, bN_h, bN_m, zNE_den]
    show F3 206 (.u (.cw (cfgA 4 (nV n.v) 12 40) (begunD (nV n.v)).1.handle)) (.u (.mem (begunD (nV n.v)).2)) (.bools (List.replicate 16 false)) = _
    rw [f3_206F, begunF_sorted (nOf_ok _).1 (nOf_ok _).2]
  rw [bE_den, e]; rfl
end Go.Fl
