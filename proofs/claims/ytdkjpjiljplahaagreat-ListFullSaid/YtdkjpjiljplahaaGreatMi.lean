/- Templates, level 8, shown: the list's step, put together. -/
import Derived.Test.YtdkjpjiljplahaaGreatMhA
import Derived.Test.YtdkjpjiljplahaaGreatMhB
import Derived.Test.YtdkjpjiljplahaaGreatMc
namespace Go.Fl
open Go Go.Sx Go.Proofs
variable [ExtF]

theorem mList_ok : mList.t.ok SG prog 36 := MSpec.ok tm7_ok mList rfl (by kernel_rfl) (allS_cons mList_c0 <| allS_cons mList_c1 <| allS_nil _)
end Go.Fl

/- Templates, level 9: what begins: checks, words, lists. -/
namespace Go.Fl
open Go Go.Sx Go.Proofs
variable [ExtF]

def tl7 : List (Nat × Tmpl) := ts7 ++ (ts6 ++ (ts5 ++ (49, tOf) :: (ts4 ++ (ts3 ++ (ts2 ++ ts1)))))
theorem tl7_ok : AllT tl7 := allT_app ts7_ok (allT_app ts6_ok (allT_app ts5_ok (allT_cons tOf_ok (allT_app ts4_ok (allT_app ts3_ok (allT_app ts2_ok ts1_ok))))))
def tl8 : List (Nat × Tmpl) := (37, mListDone.t) :: (36, mList.t) :: tl7
theorem tl8_ok : AllT tl8 := allT_cons mListDone_ok <| allT_cons mList_ok tl7_ok
def tm8 : CH := tmOf tl8
theorem tm8_ok : CallOK SG prog tm8 := tmOf_ok tl8_ok

def okR (r k : Nat) (e : E) (pa : Path) : OutG := ⟨.tup [.c (.ptr r (.int 0)), .c (.int .i64 (.int 0))], some (r, k, e), [], r + 1, pa⟩
def noR (pa : Path) : OutG := ⟨.tup [.c .nilp, .c (.int .i64 (.int 1))], none, [], 3, pa⟩
def val (ret : SV) : OutG := ⟨ret, none, [], 1, []⟩

def gListCheck : GSpec := ⟨[iE v0, iE v1], [], 1, [val (bE (.f2 41 v0 v1))], []⟩
def gCfgCheck : GSpec := ⟨[cfgV], [], 1, [val (bE (.f1 92 v0))], []⟩
def gMemNew : GSpec := ⟨[iE v0], [], 1, [noR [(.f1 96 v0, false)], okR 6 0 (.f1 94 v0) [(.f1 96 v0, true)]], []⟩
def mMemStore : MSpec := memSp [pV, iE (.var 3), uE (.var 4)] (iE (.f2 23 (.var 0) (.var 3))) (.f3 7 (.var 0) (.var 3) (.var 4))
def gListNew : GSpec := ⟨[iE v0, iE v1, uE v2], [], 1, [noR [(.f2 41 v0 v1, false)], okR 1 8 (.f3 5 v0 v1 v2) [(.f2 41 v0 v1, true)]], []⟩
end Go.Fl

/- Templates, level 9, shown. -/
namespace Go.Fl
open Go Go.Sx Go.Proofs
variable [ExtF]
set_option linter.unusedSimpArgs false
set_option maxRecDepth 100000
set_option maxHeartbeats 2000000

abbrev z90 : E := .o2 .lss (.var 0) (.int 1)
abbrev z91 : E := .o2 .lss (.int 3) (.var 0)
abbrev z92 : E := .o2 .lss (.var 1) (.int 0)
abbrev z9p3 : Path := (z91, false) :: [(z90, false)]
theorem gListCheck_ok : gListCheck.t.ok SG prog 35 := by
  refine GSpec.ok (callX_at (rounds := 20) (depth := 20) tab_ok tm8_ok) gListCheck (by kernel_rfl) ⟨[⟨true, .one (.c (.bool (.bool false))), [], 1, [(z90, true)]⟩,
    ⟨true, .one (.c (.bool (.bool false))), [], 1, [(z91, true), (z90, false)]⟩,
    ⟨true, .one (.c (.bool (.bool false))), [], 1, (z92, true) :: z9p3⟩,
    ⟨true, .one (.c (.bool (.o2 .lss (.var 1) (.int 1073741824)))), [], 1, (z92, false) :: z9p3⟩], by as_aux_lemma => kernel_rfl,
    allC_cons (gW 0 rfl rfl rfl rfl ?_) <|
    allC_cons (gW 0 rfl rfl rfl rfl ?_) <|
    allC_cons (gW 0 rfl rfl rfl rfl ?_) <|
    allC_cons (gW 0 rfl rfl rfl rfl ?_) <|
    allC_nil _⟩
  all_goals
    intro n hp hq
    simp only [pt_nil, pt_cons, E.den, gListCheck, okR, noR, val, cfgV, v0, v1, v2, memS, listS, optG, optH, optP, sg_f1, sg_f2, sg_f3, sg_f4, f2_41, O1.ap, O3.ap, ap_arith, ap_bits, ap_div, ap_shift, ap_eql, ap_lss, ap_beq, ap_min, ap_max, ap_nthI, ap_nthB, ap_inI, ap_inB, G.toInt_int, G.toBool_bool, G.toInts_ints, ltI_t, ltI_f, inN_t, inN_f, and_true, Nat.zero_add, Nat.reduceAdd, arith_add, arith_sub, arith_mul, i64, u64, cas_by, openAt, pinAt, Bool.not_eq_true', Bool.not_eq_false', beq_iff_eq, beq_eq_false_iff_ne, ne_eq] at hp
    first
    | (exfalso; simp at hp; done)
    | (simp only [gListCheck, okR, noR, val, cfgV, v0, v1, v2, memS, listS, optG, optH, optP, xi, xu, xb, SV.den, S2.den, S1.den, cellsDen, List.map, iE, uE, bE, E.den, pt_nil, pt_cons, sg_f1, sg_f2, sg_f3, sg_f4, f2_41, O1.ap, O3.ap, ap_arith, ap_bits, ap_div, ap_shift, ap_eql, ap_lss, ap_beq, ap_min, ap_max, ap_nthI, ap_nthB, ap_inI, ap_inB, G.toInt_int, G.toBool_bool, G.toInts_ints, ltI_t, ltI_f, inN_t, inN_f, and_true, Nat.zero_add, Nat.reduceAdd, arith_add, arith_sub, arith_mul, i64, u64, cas_by, openAt, pinAt, gplace_u, ggive_u, ghelp_u, galloc_u, gdrop_u, gaccess_u, gact_u, glst_u, gmem_u, gcfg_u, gquad_u, gactx_u, gcw_u, gdm_u, gdm_p, gam_u, gam_p, glm_u, glm_p, listCheck, ltI, hp, reduceIte, if_true, if_false, not_true, not_false_iff, Classical.not_not, true_and, and_true, false_and, and_false, true_or, or_true, false_or, or_false, Bool.not_true, Bool.not_false, Bool.and_true, Bool.and_false, Bool.false_and, Bool.true_and, decide_true, decide_false, Int.reduceEq, Bool.false_eq_true, Bool.true_eq_false]; done)
    | (simp only [gListCheck, okR, noR, val, cfgV, v0, v1, v2, memS, listS, optG, optH, optP, xi, xu, xb, SV.den, S2.den, S1.den, cellsDen, List.map, iE, uE, bE, E.den, pt_nil, pt_cons, sg_f1, sg_f2, sg_f3, sg_f4, f2_41, O1.ap, O3.ap, ap_arith, ap_bits, ap_div, ap_shift, ap_eql, ap_lss, ap_beq, ap_min, ap_max, ap_nthI, ap_nthB, ap_inI, ap_inB, G.toInt_int, G.toBool_bool, G.toInts_ints, ltI_t, ltI_f, inN_t, inN_f, and_true, Nat.zero_add, Nat.reduceAdd, arith_add, arith_sub, arith_mul, i64, u64, cas_by, openAt, pinAt, gplace_u, ggive_u, ghelp_u, galloc_u, gdrop_u, gaccess_u, gact_u, glst_u, gmem_u, gcfg_u, gquad_u, gactx_u, gcw_u, gdm_u, gdm_p, gam_u, gam_p, glm_u, glm_p, listCheck, ltI]; simp [hp]; done)
    | (simp only [gListCheck, okR, noR, val, cfgV, v0, v1, v2, memS, listS, optG, optH, optP, xi, xu, xb, SV.den, S2.den, S1.den, cellsDen, List.map, iE, uE, bE, E.den, pt_nil, pt_cons, sg_f1, sg_f2, sg_f3, sg_f4, f2_41, O1.ap, O3.ap, ap_arith, ap_bits, ap_div, ap_shift, ap_eql, ap_lss, ap_beq, ap_min, ap_max, ap_nthI, ap_nthB, ap_inI, ap_inB, G.toInt_int, G.toBool_bool, G.toInts_ints, ltI_t, ltI_f, inN_t, inN_f, and_true, Nat.zero_add, Nat.reduceAdd, arith_add, arith_sub, arith_mul, i64, u64, cas_by, openAt, pinAt, gplace_u, ggive_u, ghelp_u, galloc_u, gdrop_u, gaccess_u, gact_u, glst_u, gmem_u, gcfg_u, gquad_u, gactx_u, gcw_u, gdm_u, gdm_p, gam_u, gam_p, glm_u, glm_p, listCheck, ltI]; simp_all; done)
    | (exfalso; simp_all; done)
    | (exfalso; omega)
    | (refine ⟨(pt_nil n.v).2 trivial, ?_⟩; show Value.bool (decide ((n.v 1).toInt < 1073741824)) = Value.bool (listCheck (n.v 0).toInt (n.v 1).toInt); congr 1; rw [Bool.eq_iff_iff]; simp only [listCheck, ltI, Bool.and_eq_true, Bool.not_eq_true', decide_eq_true_eq, decide_eq_false_iff_not]; omega)
    | skip

abbrev z94 : E := .f1 4 (.var 0)
abbrev z95 : E := .o2 .lss z94 (.int 1)
abbrev z96 : E := .f1 2 (.var 0)
abbrev z97 : E := .o2 .lss z96 (.int 1)
abbrev z98 : E := .f1 0 (.var 0)
abbrev z99 : E := .o2 .lss z98 (.int 1)
abbrev z910 : E := .o2 .lss (.int 65535) z94
abbrev z911 : E := .f1 5 (.var 0)
abbrev z912 : E := .o2 .lss z911 (.int 0)
abbrev z913 : E := .o2 .lss (.int 1000) z911
abbrev z914 : E := .f1 6 (.var 0)
abbrev z915 : E := .o2 .lss z914 (.int 1)
abbrev z916 : E := .o2 .lss (.int 64) z96
abbrev z917 : E := .f1 3 (.var 0)
abbrev z918 : E := .o2 .lss z917 (.int 17)
abbrev z919 : E := .o2 .lss (.int 8) z98
abbrev z920 : E := .f1 1 (.var 0)
abbrev z921 : E := .o2 .lss z920 (.int 1)
abbrev z922 : E := .o2 .lss (.int 65536) z920
abbrev z923 : E := .o2 .lss (.int 256) z917
abbrev z9p24 : Path := (z97, true) :: [(z99, true)]
abbrev z9p25 : Path := (z95, false) :: z9p24
abbrev z9p26 : Path := (z910, false) :: z9p25
abbrev z9p27 : Path := (z912, false) :: z9p26
abbrev z9p28 : Path := (z913, false) :: z9p27
abbrev z9p29 : Path := (z97, false) :: [(z99, true)]
abbrev z9p30 : Path := (z916, true) :: z9p29
abbrev z9p31 : Path := (z95, false) :: z9p30
abbrev z9p32 : Path := (z910, false) :: z9p31
abbrev z9p33 : Path := (z912, false) :: z9p32
abbrev z9p34 : Path := (z913, false) :: z9p33
abbrev z9p35 : Path := (z916, false) :: z9p29
abbrev z9p36 : Path := (z918, true) :: z9p35
abbrev z9p37 : Path := (z95, false) :: z9p36
abbrev z9p38 : Path := (z910, false) :: z9p37
abbrev z9p39 : Path := (z912, false) :: z9p38
abbrev z9p40 : Path := (z913, false) :: z9p39
abbrev z9p41 : Path := (z918, false) :: z9p35
abbrev z9p42 : Path := (z95, false) :: z9p41
abbrev z9p43 : Path := (z910, false) :: z9p42
abbrev z9p44 : Path := (z912, false) :: z9p43
abbrev z9p45 : Path := (z913, false) :: z9p44
abbrev z9p46 : Path := (z919, true) :: [(z99, false)]
abbrev z9p47 : Path := (z97, true) :: z9p46
abbrev z9p48 : Path := (z95, false) :: z9p47
abbrev z9p49 : Path := (z910, false) :: z9p48
abbrev z9p50 : Path := (z912, false) :: z9p49
abbrev z9p51 : Path := (z913, false) :: z9p50
abbrev z9p52 : Path := (z97, false) :: z9p46
abbrev z9p53 : Path := (z916, true) :: z9p52
abbrev z9p54 : Path := (z95, false) :: z9p53
abbrev z9p55 : Path := (z910, false) :: z9p54
abbrev z9p56 : Path := (z912, false) :: z9p55
abbrev z9p57 : Path := (z913, false) :: z9p56
abbrev z9p58 : Path := (z916, false) :: z9p52
abbrev z9p59 : Path := (z918, true) :: z9p58
abbrev z9p60 : Path := (z95, false) :: z9p59
abbrev z9p61 : Path := (z910, false) :: z9p60
abbrev z9p62 : Path := (z912, false) :: z9p61
abbrev z9p63 : Path := (z913, false) :: z9p62
abbrev z9p64 : Path := (z918, false) :: z9p58
abbrev z9p65 : Path := (z95, false) :: z9p64
abbrev z9p66 : Path := (z910, false) :: z9p65
abbrev z9p67 : Path := (z912, false) :: z9p66
abbrev z9p68 : Path := (z913, false) :: z9p67
abbrev z9p69 : Path := (z919, false) :: [(z99, false)]
abbrev z9p70 : Path := (z921, true) :: z9p69
abbrev z9p71 : Path := (z97, true) :: z9p70
abbrev z9p72 : Path := (z95, false) :: z9p71
abbrev z9p73 : Path := (z910, false) :: z9p72
abbrev z9p74 : Path := (z912, false) :: z9p73
abbrev z9p75 : Path := (z913, false) :: z9p74
abbrev z9p76 : Path := (z97, false) :: z9p70
abbrev z9p77 : Path := (z916, true) :: z9p76
abbrev z9p78 : Path := (z95, false) :: z9p77
abbrev z9p79 : Path := (z910, false) :: z9p78
abbrev z9p80 : Path := (z912, false) :: z9p79
abbrev z9p81 : Path := (z913, false) :: z9p80
abbrev z9p82 : Path := (z916, false) :: z9p76
abbrev z9p83 : Path := (z918, true) :: z9p82
abbrev z9p84 : Path := (z95, false) :: z9p83
abbrev z9p85 : Path := (z910, false) :: z9p84
abbrev z9p86 : Path := (z912, false) :: z9p85
abbrev z9p87 : Path := (z913, false) :: z9p86
abbrev z9p88 : Path := (z918, false) :: z9p82
abbrev z9p89 : Path := (z95, false) :: z9p88
abbrev z9p90 : Path := (z910, false) :: z9p89
abbrev z9p91 : Path := (z912, false) :: z9p90
abbrev z9p92 : Path := (z913, false) :: z9p91
abbrev z9p93 : Path := (z921, false) :: z9p69
abbrev z9p94 : Path := (z97, true) :: z9p93
abbrev z9p95 : Path := (z95, true) :: z9p94
abbrev z9p96 : Path := (z95, false) :: z9p94
abbrev z9p97 : Path := (z910, true) :: z9p96
abbrev z9p98 : Path := (z910, false) :: z9p96
abbrev z9p99 : Path := (z912, true) :: z9p98
abbrev z9p100 : Path := (z912, false) :: z9p98
abbrev z9p101 : Path := (z913, true) :: z9p100
abbrev z9p102 : Path := (z913, false) :: z9p100
abbrev z9p103 : Path := (z915, true) :: z9p102
abbrev z9p104 : Path := (z915, false) :: z9p102
abbrev z9p105 : Path := (z97, false) :: z9p93
abbrev z9p106 : Path := (z916, true) :: z9p105
abbrev z9p107 : Path := (z95, true) :: z9p106
abbrev z9p108 : Path := (z95, false) :: z9p106
abbrev z9p109 : Path := (z910, true) :: z9p108
abbrev z9p110 : Path := (z910, false) :: z9p108
abbrev z9p111 : Path := (z912, true) :: z9p110
abbrev z9p112 : Path := (z912, false) :: z9p110
abbrev z9p113 : Path := (z913, true) :: z9p112
abbrev z9p114 : Path := (z913, false) :: z9p112
abbrev z9p115 : Path := (z915, true) :: z9p114
abbrev z9p116 : Path := (z915, false) :: z9p114
abbrev z9p117 : Path := (z916, false) :: z9p105
abbrev z9p118 : Path := (z918, true) :: z9p117
abbrev z9p119 : Path := (z95, true) :: z9p118
abbrev z9p120 : Path := (z95, false) :: z9p118
abbrev z9p121 : Path := (z910, true) :: z9p120
abbrev z9p122 : Path := (z910, false) :: z9p120
abbrev z9p123 : Path := (z912, true) :: z9p122
abbrev z9p124 : Path := (z912, false) :: z9p122
abbrev z9p125 : Path := (z913, true) :: z9p124
abbrev z9p126 : Path := (z913, false) :: z9p124
abbrev z9p127 : Path := (z915, true) :: z9p126
abbrev z9p128 : Path := (z915, false) :: z9p126
abbrev z9p129 : Path := (z918, false) :: z9p117
abbrev z9p130 : Path := (z95, true) :: z9p129
abbrev z9p131 : Path := (z922, false) :: z9p130
abbrev z9p132 : Path := (z95, false) :: z9p129
abbrev z9p133 : Path := (z910, true) :: z9p132
abbrev z9p134 : Path := (z922, false) :: z9p133
abbrev z9p135 : Path := (z910, false) :: z9p132
abbrev z9p136 : Path := (z912, true) :: z9p135
abbrev z9p137 : Path := (z922, false) :: z9p136
abbrev z9p138 : Path := (z912, false) :: z9p135
abbrev z9p139 : Path := (z913, true) :: z9p138
abbrev z9p140 : Path := (z922, false) :: z9p139
abbrev z9p141 : Path := (z913, false) :: z9p138
abbrev z9p142 : Path := (z915, true) :: z9p141
abbrev z9p143 : Path := (z922, false) :: z9p142
abbrev z9p144 : Path := (z915, false) :: z9p141
abbrev z9p145 : Path := (z922, false) :: z9p144
theorem gCfgCheck_ok : gCfgCheck.t.ok SG prog 161 := by
  refine GSpec.ok (callX_at (rounds := 20) (depth := 20) tab_ok tm8_ok) gCfgCheck (by kernel_rfl) ⟨[⟨true, .one (.c (.bool (.bool false))), [], 2, (z95, true) :: z9p24⟩,
    ⟨true, .one (.c (.bool (.bool false))), [], 2, (z910, true) :: z9p25⟩,
    ⟨true, .one (.c (.bool (.bool false))), [], 2, (z912, true) :: z9p26⟩,
    ⟨true, .one (.c (.bool (.bool false))), [], 2, (z913, true) :: z9p27⟩,
    ⟨true, .one (.c (.bool (.bool false))), [], 2, (z915, true) :: z9p28⟩,
    ⟨true, .one (.c (.bool (.bool false))), [], 2, (z915, false) :: z9p28⟩,
    ⟨true, .one (.c (.bool (.bool false))), [], 2, (z95, true) :: z9p30⟩,
    ⟨true, .one (.c (.bool (.bool false))), [], 2, (z910, true) :: z9p31⟩,
    ⟨true, .one (.c (.bool (.bool false))), [], 2, (z912, true) :: z9p32⟩,
    ⟨true, .one (.c (.bool (.bool false))), [], 2, (z913, true) :: z9p33⟩,
    ⟨true, .one (.c (.bool (.bool false))), [], 2, (z915, true) :: z9p34⟩,
    ⟨true, .one (.c (.bool (.bool false))), [], 2, (z915, false) :: z9p34⟩,
    ⟨true, .one (.c (.bool (.bool false))), [], 2, (z95, true) :: z9p36⟩,
    ⟨true, .one (.c (.bool (.bool false))), [], 2, (z910, true) :: z9p37⟩,
    ⟨true, .one (.c (.bool (.bool false))), [], 2, (z912, true) :: z9p38⟩,
    ⟨true, .one (.c (.bool (.bool false))), [], 2, (z913, true) :: z9p39⟩,
    ⟨true, .one (.c (.bool (.bool false))), [], 2, (z915, true) :: z9p40⟩,
    ⟨true, .one (.c (.bool (.bool false))), [], 2, (z915, false) :: z9p40⟩,
    ⟨true, .one (.c (.bool (.bool false))), [], 2, (z95, true) :: z9p41⟩,
    ⟨true, .one (.c (.bool (.bool false))), [], 2, (z910, true) :: z9p42⟩,
    ⟨true, .one (.c (.bool (.bool false))), [], 2, (z912, true) :: z9p43⟩,
    ⟨true, .one (.c (.bool (.bool false))), [], 2, (z913, true) :: z9p44⟩,
    ⟨true, .one (.c (.bool (.bool false))), [], 2, (z915, true) :: z9p45⟩,
    ⟨true, .one (.c (.bool (.bool false))), [], 2, (z915, false) :: z9p45⟩,
    ⟨true, .one (.c (.bool (.bool false))), [], 2, (z95, true) :: z9p47⟩,
    ⟨true, .one (.c (.bool (.bool false))), [], 2, (z910, true) :: z9p48⟩,
    ⟨true, .one (.c (.bool (.bool false))), [], 2, (z912, true) :: z9p49⟩,
    ⟨true, .one (.c (.bool (.bool false))), [], 2, (z913, true) :: z9p50⟩,
    ⟨true, .one (.c (.bool (.bool false))), [], 2, (z915, true) :: z9p51⟩,
    ⟨true, .one (.c (.bool (.bool false))), [], 2, (z915, false) :: z9p51⟩,
    ⟨true, .one (.c (.bool (.bool false))), [], 2, (z95, true) :: z9p53⟩,
    ⟨true, .one (.c (.bool (.bool false))), [], 2, (z910, true) :: z9p54⟩,
    ⟨true, .one (.c (.bool (.bool false))), [], 2, (z912, true) :: z9p55⟩,
    ⟨true, .one (.c (.bool (.bool false))), [], 2, (z913, true) :: z9p56⟩,
    ⟨true, .one (.c (.bool (.bool false))), [], 2, (z915, true) :: z9p57⟩,
    ⟨true, .one (.c (.bool (.bool false))), [], 2, (z915, false) :: z9p57⟩,
    ⟨true, .one (.c (.bool (.bool false))), [], 2, (z95, true) :: z9p59⟩,
    ⟨true, .one (.c (.bool (.bool false))), [], 2, (z910, true) :: z9p60⟩,
    ⟨true, .one (.c (.bool (.bool false))), [], 2, (z912, true) :: z9p61⟩,
    ⟨true, .one (.c (.bool (.bool false))), [], 2, (z913, true) :: z9p62⟩,
    ⟨true, .one (.c (.bool (.bool false))), [], 2, (z915, true) :: z9p63⟩,
    ⟨true, .one (.c (.bool (.bool false))), [], 2, (z915, false) :: z9p63⟩,
    ⟨true, .one (.c (.bool (.bool false))), [], 2, (z95, true) :: z9p64⟩,
    ⟨true, .one (.c (.bool (.bool false))), [], 2, (z910, true) :: z9p65⟩,
    ⟨true, .one (.c (.bool (.bool false))), [], 2, (z912, true) :: z9p66⟩,
    ⟨true, .one (.c (.bool (.bool false))), [], 2, (z913, true) :: z9p67⟩,
    ⟨true, .one (.c (.bool (.bool false))), [], 2, (z915, true) :: z9p68⟩,
    ⟨true, .one (.c (.bool (.bool false))), [], 2, (z915, false) :: z9p68⟩,
    ⟨true, .one (.c (.bool (.bool false))), [], 2, (z95, true) :: z9p71⟩,
    ⟨true, .one (.c (.bool (.bool false))), [], 2, (z910, true) :: z9p72⟩,
    ⟨true, .one (.c (.bool (.bool false))), [], 2, (z912, true) :: z9p73⟩,
    ⟨true, .one (.c (.bool (.bool false))), [], 2, (z913, true) :: z9p74⟩,
    ⟨true, .one (.c (.bool (.bool false))), [], 2, (z915, true) :: z9p75⟩,
    ⟨true, .one (.c (.bool (.bool false))), [], 2, (z915, false) :: z9p75⟩,
    ⟨true, .one (.c (.bool (.bool false))), [], 2, (z95, true) :: z9p77⟩,
    ⟨true, .one (.c (.bool (.bool false))), [], 2, (z910, true) :: z9p78⟩,
    ⟨true, .one (.c (.bool (.bool false))), [], 2, (z912, true) :: z9p79⟩,
    ⟨true, .one (.c (.bool (.bool false))), [], 2, (z913, true) :: z9p80⟩,
    ⟨true, .one (.c (.bool (.bool false))), [], 2, (z915, true) :: z9p81⟩,
    ⟨true, .one (.c (.bool (.bool false))), [], 2, (z915, false) :: z9p81⟩,
    ⟨true, .one (.c (.bool (.bool false))), [], 2, (z95, true) :: z9p83⟩,
    ⟨true, .one (.c (.bool (.bool false))), [], 2, (z910, true) :: z9p84⟩,
    ⟨true, .one (.c (.bool (.bool false))), [], 2, (z912, true) :: z9p85⟩,
    ⟨true, .one (.c (.bool (.bool false))), [], 2, (z913, true) :: z9p86⟩,
    ⟨true, .one (.c (.bool (.bool false))), [], 2, (z915, true) :: z9p87⟩,
    ⟨true, .one (.c (.bool (.bool false))), [], 2, (z915, false) :: z9p87⟩,
    ⟨true, .one (.c (.bool (.bool false))), [], 2, (z95, true) :: z9p88⟩,
    ⟨true, .one (.c (.bool (.bool false))), [], 2, (z910, true) :: z9p89⟩,
    ⟨true, .one (.c (.bool (.bool false))), [], 2, (z912, true) :: z9p90⟩,
    ⟨true, .one (.c (.bool (.bool false))), [], 2, (z913, true) :: z9p91⟩,
    ⟨true, .one (.c (.bool (.bool false))), [], 2, (z915, true) :: z9p92⟩,
    ⟨true, .one (.c (.bool (.bool false))), [], 2, (z915, false) :: z9p92⟩,
    ⟨true, .one (.c (.bool (.bool false))), [], 2, (z922, true) :: z9p95⟩,
    ⟨true, .one (.c (.bool (.bool false))), [], 2, (z922, false) :: z9p95⟩,
    ⟨true, .one (.c (.bool (.bool false))), [], 2, (z922, true) :: z9p97⟩,
    ⟨true, .one (.c (.bool (.bool false))), [], 2, (z922, false) :: z9p97⟩,
    ⟨true, .one (.c (.bool (.bool false))), [], 2, (z922, true) :: z9p99⟩,
    ⟨true, .one (.c (.bool (.bool false))), [], 2, (z922, false) :: z9p99⟩,
    ⟨true, .one (.c (.bool (.bool false))), [], 2, (z922, true) :: z9p101⟩,
    ⟨true, .one (.c (.bool (.bool false))), [], 2, (z922, false) :: z9p101⟩,
    ⟨true, .one (.c (.bool (.bool false))), [], 2, (z922, true) :: z9p103⟩,
    ⟨true, .one (.c (.bool (.bool false))), [], 2, (z922, false) :: z9p103⟩,
    ⟨true, .one (.c (.bool (.bool false))), [], 2, (z922, true) :: z9p104⟩,
    ⟨true, .one (.c (.bool (.bool false))), [], 2, (z922, false) :: z9p104⟩,
    ⟨true, .one (.c (.bool (.bool false))), [], 2, (z922, true) :: z9p107⟩,
    ⟨true, .one (.c (.bool (.bool false))), [], 2, (z922, false) :: z9p107⟩,
    ⟨true, .one (.c (.bool (.bool false))), [], 2, (z922, true) :: z9p109⟩,
    ⟨true, .one (.c (.bool (.bool false))), [], 2, (z922, false) :: z9p109⟩,
    ⟨true, .one (.c (.bool (.bool false))), [], 2, (z922, true) :: z9p111⟩,
    ⟨true, .one (.c (.bool (.bool false))), [], 2, (z922, false) :: z9p111⟩,
    ⟨true, .one (.c (.bool (.bool false))), [], 2, (z922, true) :: z9p113⟩,
    ⟨true, .one (.c (.bool (.bool false))), [], 2, (z922, false) :: z9p113⟩,
    ⟨true, .one (.c (.bool (.bool false))), [], 2, (z922, true) :: z9p115⟩,
    ⟨true, .one (.c (.bool (.bool false))), [], 2, (z922, false) :: z9p115⟩,
    ⟨true, .one (.c (.bool (.bool false))), [], 2, (z922, true) :: z9p116⟩,
    ⟨true, .one (.c (.bool (.bool false))), [], 2, (z922, false) :: z9p116⟩,
    ⟨true, .one (.c (.bool (.bool false))), [], 2, (z922, true) :: z9p119⟩,
    ⟨true, .one (.c (.bool (.bool false))), [], 2, (z922, false) :: z9p119⟩,
    ⟨true, .one (.c (.bool (.bool false))), [], 2, (z922, true) :: z9p121⟩,
    ⟨true, .one (.c (.bool (.bool false))), [], 2, (z922, false) :: z9p121⟩,
    ⟨true, .one (.c (.bool (.bool false))), [], 2, (z922, true) :: z9p123⟩,
    ⟨true, .one (.c (.bool (.bool false))), [], 2, (z922, false) :: z9p123⟩,
    ⟨true, .one (.c (.bool (.bool false))), [], 2, (z922, true) :: z9p125⟩,
    ⟨true, .one (.c (.bool (.bool false))), [], 2, (z922, false) :: z9p125⟩,
    ⟨true, .one (.c (.bool (.bool false))), [], 2, (z922, true) :: z9p127⟩,
    ⟨true, .one (.c (.bool (.bool false))), [], 2, (z922, false) :: z9p127⟩,
    ⟨true, .one (.c (.bool (.bool false))), [], 2, (z922, true) :: z9p128⟩,
    ⟨true, .one (.c (.bool (.bool false))), [], 2, (z922, false) :: z9p128⟩,
    ⟨true, .one (.c (.bool (.bool false))), [], 2, (z922, true) :: z9p130⟩,
    ⟨true, .one (.c (.bool (.bool false))), [], 2, (z923, true) :: z9p131⟩,
    ⟨true, .one (.c (.bool (.bool false))), [], 2, (z923, false) :: z9p131⟩,
    ⟨true, .one (.c (.bool (.bool false))), [], 2, (z922, true) :: z9p133⟩,
    ⟨true, .one (.c (.bool (.bool false))), [], 2, (z923, true) :: z9p134⟩,
    ⟨true, .one (.c (.bool (.bool false))), [], 2, (z923, false) :: z9p134⟩,
    ⟨true, .one (.c (.bool (.bool false))), [], 2, (z922, true) :: z9p136⟩,
    ⟨true, .one (.c (.bool (.bool false))), [], 2, (z923, true) :: z9p137⟩,
    ⟨true, .one (.c (.bool (.bool false))), [], 2, (z923, false) :: z9p137⟩,
    ⟨true, .one (.c (.bool (.bool false))), [], 2, (z922, true) :: z9p139⟩,
    ⟨true, .one (.c (.bool (.bool false))), [], 2, (z923, true) :: z9p140⟩,
    ⟨true, .one (.c (.bool (.bool false))), [], 2, (z923, false) :: z9p140⟩,
    ⟨true, .one (.c (.bool (.bool false))), [], 2, (z922, true) :: z9p142⟩,
    ⟨true, .one (.c (.bool (.bool false))), [], 2, (z923, true) :: z9p143⟩,
    ⟨true, .one (.c (.bool (.bool false))), [], 2, (z923, false) :: z9p143⟩,
    ⟨true, .one (.c (.bool (.bool false))), [], 2, (z922, true) :: z9p144⟩,
    ⟨true, .one (.c (.bool (.bool false))), [], 2, (z923, true) :: z9p145⟩,
    ⟨true, .one (.c (.bool (.o1 .not (.o2 .lss (.int 16) z914)))), [], 2, (z923, false) :: z9p145⟩], by as_aux_lemma => kernel_rfl,
    allC_cons (gW 0 rfl rfl rfl rfl ?_) <|
    allC_cons (gW 0 rfl rfl rfl rfl ?_) <|
    allC_cons (gW 0 rfl rfl rfl rfl ?_) <|
    allC_cons (gW 0 rfl rfl rfl rfl ?_) <|
    allC_cons (gW 0 rfl rfl rfl rfl ?_) <|
    allC_cons (gW 0 rfl rfl rfl rfl ?_) <|
    allC_cons (gW 0 rfl rfl rfl rfl ?_) <|
    allC_cons (gW 0 rfl rfl rfl rfl ?_) <|
    allC_cons (gW 0 rfl rfl rfl rfl ?_) <|
    allC_cons (gW 0 rfl rfl rfl rfl ?_) <|
    allC_cons (gW 0 rfl rfl rfl rfl ?_) <|
    allC_cons (gW 0 rfl rfl rfl rfl ?_) <|
    allC_cons (gW 0 rfl rfl rfl rfl ?_) <|
    allC_cons (gW 0 rfl rfl rfl rfl ?_) <|
    allC_cons (gW 0 rfl rfl rfl rfl ?_) <|
    allC_cons (gW 0 rfl rfl rfl rfl ?_) <|
    allC_cons (gW 0 rfl rfl rfl rfl ?_) <|
    allC_cons (gW 0 rfl rfl rfl rfl ?_) <|
    allC_cons (gW 0 rfl rfl rfl rfl ?_) <|
    allC_cons (gW 0 rfl rfl rfl rfl ?_) <|
    allC_cons (gW 0 rfl rfl rfl rfl ?_) <|
    allC_cons (gW 0 rfl rfl rfl rfl ?_) <|
    allC_cons (gW 0 rfl rfl rfl rfl ?_) <|
    allC_cons (gW 0 rfl rfl rfl rfl ?_) <|
    allC_cons (gW 0 rfl rfl rfl rfl ?_) <|
    allC_cons (gW 0 rfl rfl rfl rfl ?_) <|
    allC_cons (gW 0 rfl rfl rfl rfl ?_) <|
    allC_cons (gW 0 rfl rfl rfl rfl ?_) <|
    allC_cons (gW 0 rfl rfl rfl rfl ?_) <|
    allC_cons (gW 0 rfl rfl rfl rfl ?_) <|
    allC_cons (gW 0 rfl rfl rfl rfl ?_) <|
    allC_cons (gW 0 rfl rfl rfl rfl ?_) <|
    allC_cons (gW 0 rfl rfl rfl rfl ?_) <|
    allC_cons (gW 0 rfl rfl rfl rfl ?_) <|
    allC_cons (gW 0 rfl rfl rfl rfl ?_) <|
    allC_cons (gW 0 rfl rfl rfl rfl ?_) <|
    allC_cons (gW 0 rfl rfl rfl rfl ?_) <|
    allC_cons (gW 0 rfl rfl rfl rfl ?_) <|
    allC_cons (gW 0 rfl rfl rfl rfl ?_) <|
    allC_cons (gW 0 rfl rfl rfl rfl ?_) <|
    allC_cons (gW 0 rfl rfl rfl rfl ?_) <|
    allC_cons (gW 0 rfl rfl rfl rfl ?_) <|
    allC_cons (gW 0 rfl rfl rfl rfl ?_) <|
    allC_cons (gW 0 rfl rfl rfl rfl ?_) <|
    allC_cons (gW 0 rfl rfl rfl rfl ?_) <|
    allC_cons (gW 0 rfl rfl rfl rfl ?_) <|
    allC_cons (gW 0 rfl rfl rfl rfl ?_) <|
    allC_cons (gW 0 rfl rfl rfl rfl ?_) <|
    allC_cons (gW 0 rfl rfl rfl rfl ?_) <|
    allC_cons (gW 0 rfl rfl rfl rfl ?_) <|
    allC_cons (gW 0 rfl rfl rfl rfl ?_) <|
    allC_cons (gW 0 rfl rfl rfl rfl ?_) <|
    allC_cons (gW 0 rfl rfl rfl rfl ?_) <|
    allC_cons (gW 0 rfl rfl rfl rfl ?_) <|
    allC_cons (gW 0 rfl rfl rfl rfl ?_) <|
    allC_cons (gW 0 rfl rfl rfl rfl ?_) <|
    allC_cons (gW 0 rfl rfl rfl rfl ?_) <|
    allC_cons (gW 0 rfl rfl rfl rfl ?_) <|
    allC_cons (gW 0 rfl rfl rfl rfl ?_) <|
    allC_cons (gW 0 rfl rfl rfl rfl ?_) <|
    allC_cons (gW 0 rfl rfl rfl rfl ?_) <|
    allC_cons (gW 0 rfl rfl rfl rfl ?_) <|
    allC_cons (gW 0 rfl rfl rfl rfl ?_) <|
    allC_cons (gW 0 rfl rfl rfl rfl ?_) <|
    allC_cons (gW 0 rfl rfl rfl rfl ?_) <|
    allC_cons (gW 0 rfl rfl rfl rfl ?_) <|
    allC_cons (gW 0 rfl rfl rfl rfl ?_) <|
    allC_cons (gW 0 rfl rfl rfl rfl ?_) <|
    allC_cons (gW 0 rfl rfl rfl rfl ?_) <|
    allC_cons (gW 0 rfl rfl rfl rfl ?_) <|
    allC_cons (gW 0 rfl rfl rfl rfl ?_) <|
    allC_cons (gW 0 rfl rfl rfl rfl ?_) <|
    allC_cons (gW 0 rfl rfl rfl rfl ?_) <|
    allC_cons (gW 0 rfl rfl rfl rfl ?_) <|
    allC_cons (gW 0 rfl rfl rfl rfl ?_) <|
    allC_cons (gW 0 rfl rfl rfl rfl ?_) <|
    allC_cons (gW 0 rfl rfl rfl rfl ?_) <|
    allC_cons (gW 0 rfl rfl rfl rfl ?_) <|
    allC_cons (gW 0 rfl rfl rfl rfl ?_) <|
    allC_cons (gW 0 rfl rfl rfl rfl ?_) <|
    allC_cons (gW 0 rfl rfl rfl rfl ?_) <|
    allC_cons (gW 0 rfl rfl rfl rfl ?_) <|
    allC_cons (gW 0 rfl rfl rfl rfl ?_) <|
    allC_cons (gW 0 rfl rfl rfl rfl ?_) <|
    allC_cons (gW 0 rfl rfl rfl rfl ?_) <|
    allC_cons (gW 0 rfl rfl rfl rfl ?_) <|
    allC_cons (gW 0 rfl rfl rfl rfl ?_) <|
    allC_cons (gW 0 rfl rfl rfl rfl ?_) <|
    allC_cons (gW 0 rfl rfl rfl rfl ?_) <|
    allC_cons (gW 0 rfl rfl rfl rfl ?_) <|
    allC_cons (gW 0 rfl rfl rfl rfl ?_) <|
    allC_cons (gW 0 rfl rfl rfl rfl ?_) <|
    allC_cons (gW 0 rfl rfl rfl rfl ?_) <|
    allC_cons (gW 0 rfl rfl rfl rfl ?_) <|
    allC_cons (gW 0 rfl rfl rfl rfl ?_) <|
    allC_cons (gW 0 rfl rfl rfl rfl ?_) <|
    allC_cons (gW 0 rfl rfl rfl rfl ?_) <|
    allC_cons (gW 0 rfl rfl rfl rfl ?_) <|
    allC_cons (gW 0 rfl rfl rfl rfl ?_) <|
    allC_cons (gW 0 rfl rfl rfl rfl ?_) <|
    allC_cons (gW 0 rfl rfl rfl rfl ?_) <|
    allC_cons (gW 0 rfl rfl rfl rfl ?_) <|
    allC_cons (gW 0 rfl rfl rfl rfl ?_) <|
    allC_cons (gW 0 rfl rfl rfl rfl ?_) <|
    allC_cons (gW 0 rfl rfl rfl rfl ?_) <|
    allC_cons (gW 0 rfl rfl rfl rfl ?_) <|
    allC_cons (gW 0 rfl rfl rfl rfl ?_) <|
    allC_cons (gW 0 rfl rfl rfl rfl ?_) <|
    allC_cons (gW 0 rfl rfl rfl rfl ?_) <|
    allC_cons (gW 0 rfl rfl rfl rfl ?_) <|
    allC_cons (gW 0 rfl rfl rfl rfl ?_) <|
    allC_cons (gW 0 rfl rfl rfl rfl ?_) <|
    allC_cons (gW 0 rfl rfl rfl rfl ?_) <|
    allC_cons (gW 0 rfl rfl rfl rfl ?_) <|
    allC_cons (gW 0 rfl rfl rfl rfl ?_) <|
    allC_cons (gW 0 rfl rfl rfl rfl ?_) <|
    allC_cons (gW 0 rfl rfl rfl rfl ?_) <|
    allC_cons (gW 0 rfl rfl rfl rfl ?_) <|
    allC_cons (gW 0 rfl rfl rfl rfl ?_) <|
    allC_cons (gW 0 rfl rfl rfl rfl ?_) <|
    allC_cons (gW 0 rfl rfl rfl rfl ?_) <|
    allC_cons (gW 0 rfl rfl rfl rfl ?_) <|
    allC_cons (gW 0 rfl rfl rfl rfl ?_) <|
    allC_cons (gW 0 rfl rfl rfl rfl ?_) <|
    allC_cons (gW 0 rfl rfl rfl rfl ?_) <|
    allC_cons (gW 0 rfl rfl rfl rfl ?_) <|
    allC_nil _⟩
  all_goals
    intro n hp hq
    simp only [pt_nil, pt_cons, E.den, gCfgCheck, okR, noR, val, cfgV, v0, v1, v2, memS, listS, optG, optH, optP, sg_f1, sg_f2, sg_f3, sg_f4, f1_0, f1_1, f1_2, f1_3, f1_4, f1_5, f1_6, f1_92, O1.ap, O3.ap, ap_arith, ap_bits, ap_div, ap_shift, ap_eql, ap_lss, ap_beq, ap_min, ap_max, ap_nthI, ap_nthB, ap_inI, ap_inB, G.toInt_int, G.toBool_bool, G.toInts_ints, ltI_t, ltI_f, inN_t, inN_f, and_true, Nat.zero_add, Nat.reduceAdd, arith_add, arith_sub, arith_mul, i64, u64, cas_by, openAt, pinAt, Bool.not_eq_true', Bool.not_eq_false', beq_iff_eq, beq_eq_false_iff_ne, ne_eq] at hp
    first
    | (exfalso; simp at hp; done)
    | (simp only [gCfgCheck, okR, noR, val, cfgV, v0, v1, v2, memS, listS, optG, optH, optP, xi, xu, xb, SV.den, S2.den, S1.den, cellsDen, List.map, iE, uE, bE, E.den, pt_nil, pt_cons, sg_f1, sg_f2, sg_f3, sg_f4, f1_0, f1_1, f1_2, f1_3, f1_4, f1_5, f1_6, f1_92, O1.ap, O3.ap, ap_arith, ap_bits, ap_div, ap_shift, ap_eql, ap_lss, ap_beq, ap_min, ap_max, ap_nthI, ap_nthB, ap_inI, ap_inB, G.toInt_int, G.toBool_bool, G.toInts_ints, ltI_t, ltI_f, inN_t, inN_f, and_true, Nat.zero_add, Nat.reduceAdd, arith_add, arith_sub, arith_mul, i64, u64, cas_by, openAt, pinAt, gplace_u, ggive_u, ghelp_u, galloc_u, gdrop_u, gaccess_u, gact_u, glst_u, gmem_u, gcfg_u, gquad_u, gactx_u, gcw_u, gdm_u, gdm_p, gam_u, gam_p, glm_u, glm_p, cfgCheck, ltI, hp, reduceIte, if_true, if_false, not_true, not_false_iff, Classical.not_not, true_and, and_true, false_and, and_false, true_or, or_true, false_or, or_false, Bool.not_true, Bool.not_false, Bool.and_true, Bool.and_false, Bool.false_and, Bool.true_and, decide_true, decide_false, Int.reduceEq, Bool.false_eq_true, Bool.true_eq_false]; done)
    | (simp only [gCfgCheck, okR, noR, val, cfgV, v0, v1, v2, memS, listS, optG, optH, optP, xi, xu, xb, SV.den, S2.den, S1.den, cellsDen, List.map, iE, uE, bE, E.den, pt_nil, pt_cons, sg_f1, sg_f2, sg_f3, sg_f4, f1_0, f1_1, f1_2, f1_3, f1_4, f1_5, f1_6, f1_92, O1.ap, O3.ap, ap_arith, ap_bits, ap_div, ap_shift, ap_eql, ap_lss, ap_beq, ap_min, ap_max, ap_nthI, ap_nthB, ap_inI, ap_inB, G.toInt_int, G.toBool_bool, G.toInts_ints, ltI_t, ltI_f, inN_t, inN_f, and_true, Nat.zero_add, Nat.reduceAdd, arith_add, arith_sub, arith_mul, i64, u64, cas_by, openAt, pinAt, gplace_u, ggive_u, ghelp_u, galloc_u, gdrop_u, gaccess_u, gact_u, glst_u, gmem_u, gcfg_u, gquad_u, gactx_u, gcw_u, gdm_u, gdm_p, gam_u, gam_p, glm_u, glm_p, cfgCheck, ltI]; simp [hp]; done)
    | (simp only [gCfgCheck, okR, noR, val, cfgV, v0, v1, v2, memS, listS, optG, optH, optP, xi, xu, xb, SV.den, S2.den, S1.den, cellsDen, List.map, iE, uE, bE, E.den, pt_nil, pt_cons, sg_f1, sg_f2, sg_f3, sg_f4, f1_0, f1_1, f1_2, f1_3, f1_4, f1_5, f1_6, f1_92, O1.ap, O3.ap, ap_arith, ap_bits, ap_div, ap_shift, ap_eql, ap_lss, ap_beq, ap_min, ap_max, ap_nthI, ap_nthB, ap_inI, ap_inB, G.toInt_int, G.toBool_bool, G.toInts_ints, ltI_t, ltI_f, inN_t, inN_f, and_true, Nat.zero_add, Nat.reduceAdd, arith_add, arith_sub, arith_mul, i64, u64, cas_by, openAt, pinAt, gplace_u, ggive_u, ghelp_u, galloc_u, gdrop_u, gaccess_u, gact_u, glst_u, gmem_u, gcfg_u, gquad_u, gactx_u, gcw_u, gdm_u, gdm_p, gam_u, gam_p, glm_u, glm_p, cfgCheck, ltI]; simp_all; done)
    | (exfalso; simp_all; done)
    | (exfalso; omega)
    | (refine ⟨(pt_nil n.v).2 trivial, ?_⟩; show Value.bool (!decide (16 < (gcfg (n.v 0)).tries)) = Value.bool (cfgCheck (gcfg (n.v 0))); congr 1; rw [Bool.eq_iff_iff]; simp only [cfgCheck, ltI, Bool.and_eq_true, Bool.not_eq_true', decide_eq_true_eq, decide_eq_false_iff_not]; omega)
    | skip

abbrev z9146 : E := .o2 .lss (.var 0) (.int 1)
abbrev z9147 : E := .o2 .lss (.int 1048576) (.var 0)
abbrev z9148 : E := .o2 .lss (.var 0) (.int 0)
abbrev z9149 : E := .o2 .lss (.int 35184372088832) (.var 0)
abbrev z9150 : E := .o1 .zerosI (.var 0)
abbrev z9p151 : Path := (z9147, false) :: [(z9146, false)]
abbrev z9p152 : Path := (z9148, false) :: z9p151
theorem gMemNew_ok : gMemNew.t.ok SG prog 208 := by
  refine GSpec.ok (callX_at (rounds := 20) (depth := 20) tab_ok tm8_ok) gMemNew (by kernel_rfl) ⟨[⟨true, .tup [.c (.nilp), .c (.int .i64 (.int 1))], [], 1, [(z9146, true)]⟩,
    ⟨true, .tup [.c (.nilp), .c (.int .i64 (.int 1))], [], 1, [(z9147, true), (z9146, false)]⟩,
    ⟨false, .tup [], [], 0, (z9148, true) :: z9p151⟩,
    ⟨false, .tup [], [], 0, (z9149, true) :: z9p152⟩,
    ⟨true, .tup [.c (.ptr 6 (.int 0)), .c (.int .i64 (.int 0))], [(6, .cells [.slice 2 (.int 0) (.var 0) (.var 0), .slice 4 (.int 0) (.var 0) (.var 0), .int .i64 (.int 0), .int .i64 (.int 0), .int .i64 (.int 0), .int .i64 (.int 0), .bool (.bool false)]), (4, .row (.int .i64) z9150), (2, .row (.int .u64) z9150)], 9, (z9149, false) :: z9p152⟩], by as_aux_lemma => kernel_rfl,
    allC_cons (gW 0 rfl rfl rfl rfl ?_) <|
    allC_cons (gW 0 rfl rfl rfl rfl ?_) <|
    allC_cons (gNo ?_) <|
    allC_cons (gNo ?_) <|
    allC_cons (gWR 1 memS (by simp [kinds]) (fun j => match j with | 0 => z9150 | 1 => z9150 | 2 => (.int 0) | 3 => (.int 0) | 4 => (.int 0) | 5 => (.int 0) | 6 => (.bool false) | 7 => (.var 0) | 8 => (.var 0) | _ => .int 0) (fun j => match j with | 2 => 2 | 3 => 4 | 1 => 6 | _ => 0) (by kernel_rfl) rfl rfl rfl rfl rfl ?_) <|
    allC_nil _⟩
  all_goals
    intro n hp hq
    simp only [pt_nil, pt_cons, E.den, gMemNew, okR, noR, val, cfgV, v0, v1, v2, memS, listS, optG, optH, optP, sg_f1, sg_f2, sg_f3, sg_f4, f1_94, f1_96, O1.ap, O3.ap, ap_arith, ap_bits, ap_div, ap_shift, ap_eql, ap_lss, ap_beq, ap_min, ap_max, ap_nthI, ap_nthB, ap_inI, ap_inB, G.toInt_int, G.toBool_bool, G.toInts_ints, ltI_t, ltI_f, inN_t, inN_f, and_true, Nat.zero_add, Nat.reduceAdd, arith_add, arith_sub, arith_mul, i64, u64, cas_by, openAt, pinAt, Bool.not_eq_true', Bool.not_eq_false', beq_iff_eq, beq_eq_false_iff_ne, ne_eq] at hp
    first
    | (exfalso; simp at hp; done)
    | (simp only [gMemNew, okR, noR, val, cfgV, v0, v1, v2, memS, listS, optG, optH, optP, xi, xu, xb, SV.den, S2.den, S1.den, cellsDen, List.map, iE, uE, bE, E.den, pt_nil, pt_cons, sg_f1, sg_f2, sg_f3, sg_f4, f1_94, f1_96, O1.ap, O3.ap, ap_arith, ap_bits, ap_div, ap_shift, ap_eql, ap_lss, ap_beq, ap_min, ap_max, ap_nthI, ap_nthB, ap_inI, ap_inB, G.toInt_int, G.toBool_bool, G.toInts_ints, ltI_t, ltI_f, inN_t, inN_f, and_true, Nat.zero_add, Nat.reduceAdd, arith_add, arith_sub, arith_mul, i64, u64, cas_by, openAt, pinAt, gplace_u, ggive_u, ghelp_u, galloc_u, gdrop_u, gaccess_u, gact_u, glst_u, gmem_u, gcfg_u, gquad_u, gactx_u, gcw_u, gdm_u, gdm_p, gam_u, gam_p, glm_u, glm_p, memNew, List.length_replicate, ltI, hp, reduceIte, if_true, if_false, not_true, not_false_iff, Classical.not_not, true_and, and_true, false_and, and_false, true_or, or_true, false_or, or_false, Bool.not_true, Bool.not_false, Bool.and_true, Bool.and_false, Bool.false_and, Bool.true_and, decide_true, decide_false, Int.reduceEq, Bool.false_eq_true, Bool.true_eq_false]; done)
    | (simp only [gMemNew, okR, noR, val, cfgV, v0, v1, v2, memS, listS, optG, optH, optP, xi, xu, xb, SV.den, S2.den, S1.den, cellsDen, List.map, iE, uE, bE, E.den, pt_nil, pt_cons, sg_f1, sg_f2, sg_f3, sg_f4, f1_94, f1_96, O1.ap, O3.ap, ap_arith, ap_bits, ap_div, ap_shift, ap_eql, ap_lss, ap_beq, ap_min, ap_max, ap_nthI, ap_nthB, ap_inI, ap_inB, G.toInt_int, G.toBool_bool, G.toInts_ints, ltI_t, ltI_f, inN_t, inN_f, and_true, Nat.zero_add, Nat.reduceAdd, arith_add, arith_sub, arith_mul, i64, u64, cas_by, openAt, pinAt, gplace_u, ggive_u, ghelp_u, galloc_u, gdrop_u, gaccess_u, gact_u, glst_u, gmem_u, gcfg_u, gquad_u, gactx_u, gcw_u, gdm_u, gdm_p, gam_u, gam_p, glm_u, glm_p, memNew, List.length_replicate, ltI]; simp [hp]; done)
    | (simp only [gMemNew, okR, noR, val, cfgV, v0, v1, v2, memS, listS, optG, optH, optP, xi, xu, xb, SV.den, S2.den, S1.den, cellsDen, List.map, iE, uE, bE, E.den, pt_nil, pt_cons, sg_f1, sg_f2, sg_f3, sg_f4, f1_94, f1_96, O1.ap, O3.ap, ap_arith, ap_bits, ap_div, ap_shift, ap_eql, ap_lss, ap_beq, ap_min, ap_max, ap_nthI, ap_nthB, ap_inI, ap_inB, G.toInt_int, G.toBool_bool, G.toInts_ints, ltI_t, ltI_f, inN_t, inN_f, and_true, Nat.zero_add, Nat.reduceAdd, arith_add, arith_sub, arith_mul, i64, u64, cas_by, openAt, pinAt, gplace_u, ggive_u, ghelp_u, galloc_u, gdrop_u, gaccess_u, gact_u, glst_u, gmem_u, gcfg_u, gquad_u, gactx_u, gcw_u, gdm_u, gdm_p, gam_u, gam_p, glm_u, glm_p, memNew, List.length_replicate, ltI]; simp_all; done)
    | (exfalso; simp_all; done)
    | (exfalso; omega)
    | (exfalso; simp only [E.den, sg_f1, sg_f2, sg_f3, sg_f4, f1_94, f1_96, O1.ap, O3.ap, ap_arith, ap_bits, ap_div, ap_shift, ap_eql, ap_lss, ap_beq, ap_min, ap_max, ap_nthI, ap_nthB, ap_inI, ap_inB, G.toInt_int, G.toBool_bool, G.toInts_ints, ltI_t, ltI_f, inN_t, inN_f, and_true, Nat.zero_add, Nat.reduceAdd, arith_add, arith_sub, arith_mul, i64, u64, cas_by, openAt, pinAt] at hp; omega)
    | (simp only [gMemNew, okR, noR, val, cfgV, v0, v1, v2, memS, listS, optG, optH, optP, xi, xu, xb, SV.den, S2.den, S1.den, cellsDen, List.map, iE, uE, bE, E.den, pt_nil, pt_cons, sg_f1, sg_f2, sg_f3, sg_f4, f1_94, f1_96, O1.ap, O3.ap, ap_arith, ap_bits, ap_div, ap_shift, ap_eql, ap_lss, ap_beq, ap_min, ap_max, ap_nthI, ap_nthB, ap_inI, ap_inB, G.toInt_int, G.toBool_bool, G.toInts_ints, ltI_t, ltI_f, inN_t, inN_f, and_true, Nat.zero_add, Nat.reduceAdd, arith_add, arith_sub, arith_mul, i64, u64, cas_by, openAt, pinAt, memNew, List.length_replicate]; simp [ltI]; omega)
    | skip

abbrev z9153 : E := .o2 .lss (.var 3) (.int 0)
abbrev z9154 : E := .o3 .setI (.var 10) (.var 3) (.var 4)
abbrev z9155 : E := .o2 (.arith .add .i64) (.var 12) (.int 1)
abbrev z9156 : E := .o2 .eql (.o2 .nthI (.var 10) (.var 3)) (.var 4)
abbrev z9157 : E := .o1 .not z9156
abbrev z9158 : E := .o2 .inI (.var 10) (.var 3)
abbrev z9159 : E := .o2 .lss (.var 3) (.var 17)
abbrev z9160 : E := .o2 .lss (.var 3) (.o1 .nat (.var 17))
abbrev z9161 : E := .o3 .setI (.var 11) (.var 3) z9155
abbrev z9162 : E := .o2 .inI (.var 11) (.var 3)
abbrev z9163 : E := .o2 .lss (.var 3) (.var 18)
abbrev z9p164 : Path := (z9160, true) :: [(z9153, false)]
abbrev z9p165 : Path := (z9159, true) :: z9p164
abbrev z9p166 : Path := (z9158, true) :: z9p165
abbrev z9p167 : Path := (z9156, false) :: z9p166
abbrev z9p168 : Path := (z9163, true) :: z9p167
theorem mMemStore_ok : mMemStore.t.ok SG prog 209 := by
  refine MSpec.ok tm8_ok mMemStore rfl (by kernel_rfl) (
  allS_cons ⟨[⟨true, .one (.c (.int .i64 (.int 2))), [(5, .row (.int .i64) (.var 11)), (4, .row (.int .u64) (.var 10)), (1, .cells (ch (cell1 memS 10 2) []))], 20, [(z9153, true)]⟩,
    ⟨true, .one (.c (.int .i64 (.int 0))), [(5, .row (.int .i64) (.var 11)), (4, .row (.int .u64) z9154), (1, .cells (ch (cell1 memS 10 2) [(2, .int .i64 z9155), (4, xi 3), (5, xi 13), (6, .bool z9157)]))], 20, (z9156, true) :: z9p166⟩,
    ⟨true, .one (.c (.int .i64 (.int 0))), [(5, .row (.int .i64) z9161), (4, .row (.int .u64) z9154), (1, .cells (ch (cell1 memS 10 2) [(2, .int .i64 z9155), (4, xi 3), (5, xi 13), (6, .bool z9157)]))], 31, (z9162, true) :: z9p168⟩,
    ⟨false, .tup [], [], 0, (z9162, false) :: z9p168⟩,
    ⟨false, .tup [], [], 0, (z9163, false) :: z9p167⟩,
    ⟨false, .tup [], [], 0, (z9158, false) :: z9p165⟩,
    ⟨false, .tup [], [], 0, (z9159, false) :: z9p164⟩,
    ⟨true, .one (.c (.int .i64 (.int 2))), [(5, .row (.int .i64) (.var 11)), (4, .row (.int .u64) (.var 10)), (1, .cells (ch (cell1 memS 10 2) []))], 20, [(z9160, false), (z9153, false)]⟩], by as_aux_lemma => kernel_rfl,
    allC_cons (way0 memS (by simp [kinds]) (fun j => match j with  | j => .var (j + 10)) (fun j => match j with | 2 => 4 | 3 => 5 | 1 => 1 | _ => 0) (by kernel_rfl) rfl rfl ?_) <|
    allC_cons (way0 memS (by simp [kinds]) (fun j => match j with | 0 => z9154 | 2 => z9155 | 4 => (.var 3) | 5 => (.var 13) | 6 => z9157 | j => .var (j + 10)) (fun j => match j with | 2 => 4 | 3 => 5 | 1 => 1 | _ => 0) (by kernel_rfl) rfl rfl ?_) <|
    allC_cons (way0 memS (by simp [kinds]) (fun j => match j with | 0 => z9154 | 1 => z9161 | 2 => z9155 | 4 => (.var 3) | 5 => (.var 13) | 6 => z9157 | j => .var (j + 10)) (fun j => match j with | 2 => 4 | 3 => 5 | 1 => 1 | _ => 0) (by kernel_rfl) rfl rfl ?_) <|
    allC_cons (wayNo ?_) <|
    allC_cons (wayNo ?_) <|
    allC_cons (wayNo ?_) <|
    allC_cons (wayNo ?_) <|
    allC_cons (way0 memS (by simp [kinds]) (fun j => match j with  | j => .var (j + 10)) (fun j => match j with | 2 => 4 | 3 => 5 | 1 => 1 | _ => 0) (by kernel_rfl) rfl rfl ?_) <|
    allC_nil _⟩ <|
  allS_nil _)
  all_goals as_aux_lemma =>
    intro n hp hg hi
    simp only [pt_nil, pt_cons, E.den, sg_f1, sg_f2, sg_f3, sg_f4, f2_23, f3_7, O1.ap, O3.ap, ap_arith, ap_bits, ap_div, ap_shift, ap_eql, ap_lss, ap_beq, ap_min, ap_max, ap_nthI, ap_nthB, ap_inI, ap_inB, G.toInt_int, G.toBool_bool, G.toInts_ints, ltI_t, ltI_f, inN_t, inN_f, and_true, Nat.zero_add, Nat.reduceAdd, arith_add, arith_sub, arith_mul, i64, u64, cas_by, openAt, pinAt] at hp
    simp only [mMemStore, memSp, memS, sg_f1, sg_f2, sg_f3, sg_f4, f2_23, f3_7, O1.ap, O3.ap, ap_arith, ap_bits, ap_div, ap_shift, ap_eql, ap_lss, ap_beq, ap_min, ap_max, ap_nthI, ap_nthB, ap_inI, ap_inB, G.toInt_int, G.toBool_bool, G.toInts_ints, ltI_t, ltI_f, inN_t, inN_f, and_true, Nat.zero_add, Nat.reduceAdd, arith_add, arith_sub, arith_mul, i64, u64, cas_by, openAt, pinAt] at hg hi
    obtain ⟨i1, i2, i3⟩ := hi
    (try simp only [i1, i2] at hp)
    first
    | (exfalso; omega)
    | ((first | (have hk := inW_t (w := G.toInts (n.v 10)) (a := G.toInt (n.v 3)) (by omega) (by omega)) | (have hk := inW_f (w := G.toInts (n.v 10)) (a := G.toInt (n.v 3)) (by omega)) | (have hk := trivial))
       refine ⟨?_, ?_, ?_⟩
       · simp only [mMemStore, memSp, xi, xu, xb, SV.den, S2.den, S1.den, cellsDen, List.map, iE, uE, bE, E.den, sg_f1, sg_f2, sg_f3, sg_f4, f2_23, f3_7, O1.ap, O3.ap, ap_arith, ap_bits, ap_div, ap_shift, ap_eql, ap_lss, ap_beq, ap_min, ap_max, ap_nthI, ap_nthB, ap_inI, ap_inB, G.toInt_int, G.toBool_bool, G.toInts_ints, ltI_t, ltI_f, inN_t, inN_f, and_true, Nat.zero_add, Nat.reduceAdd, arith_add, arith_sub, arith_mul, i64, u64, cas_by, openAt, pinAt, hg, gmem_u, Mem.by', Mem.step, Mem.at', Mem.set, Mem.load, Mem.val, Mem.store, Mem.casOk, Mem.cas, Mem.add, Mem.whenAt, okA_inW, hk, i64, u64, List.length_set] <;> first | rfl | (simp only [hp, reduceIte, Bool.false_eq_true, Bool.true_and, if_true, if_false, Bool.not_true, Bool.not_false, Bool.and_true, Bool.and_false, Bool.false_and]; done) | (simp_all; done)
       · simp only [memS, xi, xu, xb, SV.den, S2.den, S1.den, cellsDen, List.map, iE, uE, bE, E.den, sg_f1, sg_f2, sg_f3, sg_f4, f2_23, f3_7, O1.ap, O3.ap, ap_arith, ap_bits, ap_div, ap_shift, ap_eql, ap_lss, ap_beq, ap_min, ap_max, ap_nthI, ap_nthB, ap_inI, ap_inB, G.toInt_int, G.toBool_bool, G.toInts_ints, ltI_t, ltI_f, inN_t, inN_f, and_true, Nat.zero_add, Nat.reduceAdd, arith_add, arith_sub, arith_mul, i64, u64, cas_by, openAt, pinAt, hg, gmem_u, List.length_set] <;> first | exact ⟨i1, i2, i3⟩ | (simp_all; done)
       · simp only [mMemStore, memSp, memS, xi, xu, xb, SV.den, S2.den, S1.den, cellsDen, List.map, iE, uE, bE, E.den, sg_f1, sg_f2, sg_f3, sg_f4, f2_23, f3_7, O1.ap, O3.ap, ap_arith, ap_bits, ap_div, ap_shift, ap_eql, ap_lss, ap_beq, ap_min, ap_max, ap_nthI, ap_nthB, ap_inI, ap_inB, G.toInt_int, G.toBool_bool, G.toInts_ints, ltI_t, ltI_f, inN_t, inN_f, and_true, Nat.zero_add, Nat.reduceAdd, arith_add, arith_sub, arith_mul, i64, u64, cas_by, openAt, pinAt, hg, gmem_u, Mem.by', Mem.step, Mem.at', Mem.set, Mem.load, Mem.val, Mem.store, Mem.casOk, Mem.cas, Mem.add, Mem.whenAt, okA_inW, hk, i64, u64, List.length_set] <;> first | rfl | (simp only [hp, reduceIte, Bool.false_eq_true, Bool.true_and, if_true, if_false, Bool.not_true, Bool.not_false, Bool.and_true, Bool.and_false, Bool.false_and]; done) | (simp_all; done))

abbrev z9169 : E := .o2 .lss (.var 0) (.int 1)
abbrev z9170 : E := .o2 .lss (.int 3) (.var 0)
abbrev z9171 : E := .o2 .lss (.var 1) (.int 0)
abbrev z9172 : E := .o2 .lss (.var 1) (.int 1073741824)
abbrev z9p173 : Path := (z9170, false) :: [(z9169, false)]
abbrev z9p174 : Path := (z9171, false) :: z9p173
theorem gListNew_ok : gListNew.t.ok SG prog 33 := by
  refine GSpec.ok (callX_at (rounds := 20) (depth := 20) tab_ok tm8_ok) gListNew (by kernel_rfl) ⟨[⟨true, .tup [.c (.nilp), .c (.int .i64 (.int 1))], [], 1, [(z9169, true)]⟩,
    ⟨true, .tup [.c (.nilp), .c (.int .i64 (.int 1))], [], 1, [(z9170, true), (z9169, false)]⟩,
    ⟨true, .tup [.c (.nilp), .c (.int .i64 (.int 1))], [], 1, (z9171, true) :: z9p173⟩,
    ⟨true, .tup [.c (.ptr 1 (.int 0)), .c (.int .i64 (.int 0))], [(1, .cells [xi 0, xi 1, xu 2, .int .i64 (.int 0), .nilp, .int .u64 (.int 0), .int .u64 (.int 0), .int .i64 (.int 0), .int .u64 (.int 0), .int .i64 (.int 0), .int .i64 (.int 0), .int .u64 (.int 0), .int .i64 (.int 0), .int .i64 (.int 0)])], 2, (z9172, true) :: z9p174⟩,
    ⟨true, .tup [.c (.nilp), .c (.int .i64 (.int 1))], [], 1, (z9172, false) :: z9p174⟩], by as_aux_lemma => kernel_rfl,
    allC_cons (gW 0 rfl rfl rfl rfl ?_) <|
    allC_cons (gW 0 rfl rfl rfl rfl ?_) <|
    allC_cons (gW 0 rfl rfl rfl rfl ?_) <|
    allC_cons (gWR 1 (listS false) (by simp [kinds]) (fun j => match j with | 0 => (.var 0) | 1 => (.var 1) | 2 => (.var 2) | 3 => (.int 0) | 4 => (.int 0) | 5 => (.int 0) | 6 => (.int 0) | 7 => (.int 0) | 8 => (.int 0) | 9 => (.int 0) | 10 => (.int 0) | 11 => (.int 0) | 12 => (.int 0) | _ => .int 0) (fun j => match j with | 1 => 1 | _ => 0) (by kernel_rfl) rfl rfl rfl rfl rfl ?_) <|
    allC_cons (gW 0 rfl rfl rfl rfl ?_) <|
    allC_nil _⟩
  all_goals
    intro n hp hq
    simp only [pt_nil, pt_cons, E.den, gListNew, okR, noR, val, cfgV, v0, v1, v2, memS, listS, optG, optH, optP, sg_f1, sg_f2, sg_f3, sg_f4, f2_41, f3_5, O1.ap, O3.ap, ap_arith, ap_bits, ap_div, ap_shift, ap_eql, ap_lss, ap_beq, ap_min, ap_max, ap_nthI, ap_nthB, ap_inI, ap_inB, G.toInt_int, G.toBool_bool, G.toInts_ints, ltI_t, ltI_f, inN_t, inN_f, and_true, Nat.zero_add, Nat.reduceAdd, arith_add, arith_sub, arith_mul, i64, u64, cas_by, openAt, pinAt, Bool.not_eq_true', Bool.not_eq_false', beq_iff_eq, beq_eq_false_iff_ne, ne_eq] at hp
    first
    | (exfalso; simp at hp; done)
    | (simp only [gListNew, okR, noR, val, cfgV, v0, v1, v2, memS, listS, optG, optH, optP, xi, xu, xb, SV.den, S2.den, S1.den, cellsDen, List.map, iE, uE, bE, E.den, pt_nil, pt_cons, sg_f1, sg_f2, sg_f3, sg_f4, f2_41, f3_5, O1.ap, O3.ap, ap_arith, ap_bits, ap_div, ap_shift, ap_eql, ap_lss, ap_beq, ap_min, ap_max, ap_nthI, ap_nthB, ap_inI, ap_inB, G.toInt_int, G.toBool_bool, G.toInts_ints, ltI_t, ltI_f, inN_t, inN_f, and_true, Nat.zero_add, Nat.reduceAdd, arith_add, arith_sub, arith_mul, i64, u64, cas_by, openAt, pinAt, gplace_u, ggive_u, ghelp_u, galloc_u, gdrop_u, gaccess_u, gact_u, glst_u, gmem_u, gcfg_u, gquad_u, gactx_u, gcw_u, gdm_u, gdm_p, gam_u, gam_p, glm_u, glm_p, listNew, listCheck, ltI, hp, reduceIte, if_true, if_false, not_true, not_false_iff, Classical.not_not, true_and, and_true, false_and, and_false, true_or, or_true, false_or, or_false, Bool.not_true, Bool.not_false, Bool.and_true, Bool.and_false, Bool.false_and, Bool.true_and, decide_true, decide_false, Int.reduceEq, Bool.false_eq_true, Bool.true_eq_false]; done)
    | (simp only [gListNew, okR, noR, val, cfgV, v0, v1, v2, memS, listS, optG, optH, optP, xi, xu, xb, SV.den, S2.den, S1.den, cellsDen, List.map, iE, uE, bE, E.den, pt_nil, pt_cons, sg_f1, sg_f2, sg_f3, sg_f4, f2_41, f3_5, O1.ap, O3.ap, ap_arith, ap_bits, ap_div, ap_shift, ap_eql, ap_lss, ap_beq, ap_min, ap_max, ap_nthI, ap_nthB, ap_inI, ap_inB, G.toInt_int, G.toBool_bool, G.toInts_ints, ltI_t, ltI_f, inN_t, inN_f, and_true, Nat.zero_add, Nat.reduceAdd, arith_add, arith_sub, arith_mul, i64, u64, cas_by, openAt, pinAt, gplace_u, ggive_u, ghelp_u, galloc_u, gdrop_u, gaccess_u, gact_u, glst_u, gmem_u, gcfg_u, gquad_u, gactx_u, gcw_u, gdm_u, gdm_p, gam_u, gam_p, glm_u, glm_p, listNew, listCheck, ltI]; simp [hp]; done)
    | (simp only [gListNew, okR, noR, val, cfgV, v0, v1, v2, memS, listS, optG, optH, optP, xi, xu, xb, SV.den, S2.den, S1.den, cellsDen, List.map, iE, uE, bE, E.den, pt_nil, pt_cons, sg_f1, sg_f2, sg_f3, sg_f4, f2_41, f3_5, O1.ap, O3.ap, ap_arith, ap_bits, ap_div, ap_shift, ap_eql, ap_lss, ap_beq, ap_min, ap_max, ap_nthI, ap_nthB, ap_inI, ap_inB, G.toInt_int, G.toBool_bool, G.toInts_ints, ltI_t, ltI_f, inN_t, inN_f, and_true, Nat.zero_add, Nat.reduceAdd, arith_add, arith_sub, arith_mul, i64, u64, cas_by, openAt, pinAt, gplace_u, ggive_u, ghelp_u, galloc_u, gdrop_u, gaccess_u, gact_u, glst_u, gmem_u, gcfg_u, gquad_u, gactx_u, gcw_u, gdm_u, gdm_p, gam_u, gam_p, glm_u, glm_p, listNew, listCheck, ltI]; simp_all; done)
    | (exfalso; simp_all; done)
    | (exfalso; omega)
    | skip

end Go.Fl
