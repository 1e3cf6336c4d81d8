/- Templates, level 10: loops: an act alone, what is asked of a list alone, an arena's words at the beginning. -/
import Derived.Test.YtdkjpjiljplahaaGreatMi
import Derived.Test.YtdkjpjiljplahaaGreatMc
namespace Go.Fl
open Go Go.Sx Go.Proofs
variable [ExtF]

def tl9 : List (Nat × Tmpl) := (35, gListCheck.t) :: (161, gCfgCheck.t) :: (208, gMemNew.t) :: (209, mMemStore.t) :: (33, gListNew.t) :: tl8
theorem tl9_ok : AllT tl9 := allT_cons gListCheck_ok <| allT_cons gCfgCheck_ok <| allT_cons gMemNew_ok <| allT_cons mMemStore_ok <| allT_cons gListNew_ok tl8_ok
def tm9 : CH := tmOf tl9
theorem tm9_ok : CallOK SG prog tm9 := tmOf_ok tl9_ok

/-- temporaries: some that are known -/
def tms (n : Nat) (l : List (Nat × SV)) : List SV := l.foldl (fun acc p => acc.set p.1 p.2) (List.replicate n SV.any)
def pE (i : Nat) : SV := .one (.c (.ptr i (.int 0)))
def envC (c : Nat) (m : Nat) (who : Nat) : Blk := .cells (cfgE (.var c) ++ [.ptr m (.int 0), .int .i64 (.var who)])

/-- somebody (number 2, var 2) goes on step by step in an arena (its words number 3, var 3; its shape var 0; who var 1), from round var 4 on -/
def runE (s mk : Nat) : E := .f3 s (.f2 60 (.var 0) (.var 1)) (.f2 mk (.var 2) (.var 3)) (.var 4)
def runTm (n tEnv tOut tObj tI : Nat) (i : Option E) : List SV :=
  tms n ([(tEnv, pE 1), (tOut, pE 4), (tObj, pE 2)] ++ match i with | some e => [(tI, iE e)] | none => [])
def runL (n tEnv tOut tObj tI k s mk p1 p2 : Nat) : LoopT :=
  ⟨runTm n tEnv tOut tObj tI (some (.var 4)), [(1, envC 0 3 1), (2, .res k (.var 2)), (3, .res 0 (.var 3))], 5,
   [(.exit 0, ⟨runTm n tEnv tOut tObj tI none, [(1, envC 0 3 1), (2, .res k (.f1 p1 (runE s mk))), (3, .res 0 (.f1 p2 (runE s mk)))], 5, []⟩),
    (.fail, ⟨[], [], 5, [(.o2 .lss (.var 4) (.int 0), true)]⟩)]⟩
def lDo : LoopT := runL 26 2 4 5 7 7 60 61 105 106
def lAsk : LoopT := runL 32 4 8 9 11 8 61 62 107 108

/-- slots that are laid, from number var 2 on: the shape's number 1 (var 0), the words number 2 (var 1) -/
def freshTm (i : Option E) : List SV := tms 55 ([(1, pE 1), (4, pE 2), (20, iE (.f1 1 (.var 0)))] ++ match i with | some e => [(21, iE e)] | none => [])
def lFresh : LoopT :=
  ⟨freshTm (some (.var 2)), [(1, .cells (cfgE (.var 0))), (2, .res 0 (.var 1))], 3,
   [(.exit 0, ⟨freshTm none, [(1, .cells (cfgE (.var 0))), (2, .res 0 (.f3 8 (.var 0) (.var 2) (.var 1)))], 3, []⟩),
    (.fail, ⟨[], [], 3, [(.o2 .lss (.var 2) (.int 0), true)]⟩), (.fail, ⟨[], [], 3, [(.f1 92 (.var 0), false)]⟩)]⟩
end Go.Fl

/- Rounds of loops, as they are carried out: printed. -/
namespace Go.Fl
open Go Go.Sx

def lDo_0 : St := ⟨[.any, .any, .one (.c (.ptr 1 (.int 0))), .any, .one (.c (.ptr 4 (.int 0))), .one (.c (.ptr 2 (.int 0))), .any, .one (.c (xi 4)), .any, .any, .any, .any, .any, .any, .any, .any, .any, .one (.c (xi 4)), .one (.c (.bool (.o2 .lss (.var 4) (.int 500)))), .any, .any, .one (.c (.ptr 2 (.int 0))), .one (.agg [.int .i64 (.f1 0 (.var 0)), .int .i64 (.f1 1 (.var 0)), .int .i64 (.f1 2 (.var 0)), .int .i64 (.f1 3 (.var 0)), .int .i64 (.f1 4 (.var 0)), .int .i64 (.f1 5 (.var 0)), .int .i64 (.f1 6 (.var 0)), .ptr 3 (.int 0), xi 1]), .one (.c (.bool (.f4 42 (.var 2) (.var 3) (.var 0) (.var 1)))), .any, .any], [(3, .res 0 (.f4 41 (.var 2) (.var 3) (.var 0) (.var 1))), (2, .res 7 (.f4 40 (.var 2) (.var 3) (.var 0) (.var 1))), (1, .cells [.int .i64 (.f1 0 (.var 0)), .int .i64 (.f1 1 (.var 0)), .int .i64 (.f1 2 (.var 0)), .int .i64 (.f1 3 (.var 0)), .int .i64 (.f1 4 (.var 0)), .int .i64 (.f1 5 (.var 0)), .int .i64 (.f1 6 (.var 0)), .ptr 3 (.int 0), xi 1])], 5, [((.f4 42 (.var 2) (.var 3) (.var 0) (.var 1)), true), ((.o2 .lss (.var 4) (.int 500)), true)]⟩
def lDo_1 : St := ⟨[.any, .any, .one (.c (.ptr 1 (.int 0))), .any, .one (.c (.ptr 4 (.int 0))), .one (.c (.ptr 2 (.int 0))), .any, .one (.c (.int .i64 (.o2 (.arith .add .i64) (.var 4) (.int 1)))), .any, .any, .any, .any, .any, .any, .any, .any, .any, .one (.c (xi 4)), .one (.c (.bool (.o2 .lss (.var 4) (.int 500)))), .one (.c (xi 4)), .one (.c (.int .i64 (.o2 (.arith .add .i64) (.var 4) (.int 1)))), .one (.c (.ptr 2 (.int 0))), .one (.agg [.int .i64 (.f1 0 (.var 0)), .int .i64 (.f1 1 (.var 0)), .int .i64 (.f1 2 (.var 0)), .int .i64 (.f1 3 (.var 0)), .int .i64 (.f1 4 (.var 0)), .int .i64 (.f1 5 (.var 0)), .int .i64 (.f1 6 (.var 0)), .ptr 3 (.int 0), xi 1]), .one (.c (.bool (.f4 42 (.var 2) (.var 3) (.var 0) (.var 1)))), .any, .any], [(3, .res 0 (.f4 41 (.var 2) (.var 3) (.var 0) (.var 1))), (2, .res 7 (.f4 40 (.var 2) (.var 3) (.var 0) (.var 1))), (1, .cells [.int .i64 (.f1 0 (.var 0)), .int .i64 (.f1 1 (.var 0)), .int .i64 (.f1 2 (.var 0)), .int .i64 (.f1 3 (.var 0)), .int .i64 (.f1 4 (.var 0)), .int .i64 (.f1 5 (.var 0)), .int .i64 (.f1 6 (.var 0)), .ptr 3 (.int 0), xi 1])], 5, [((.f4 42 (.var 2) (.var 3) (.var 0) (.var 1)), false), ((.o2 .lss (.var 4) (.int 500)), true)]⟩
def lDo_2 : St := ⟨[.any, .any, .one (.c (.ptr 1 (.int 0))), .any, .one (.c (.ptr 4 (.int 0))), .one (.c (.ptr 2 (.int 0))), .any, .one (.c (xi 4)), .any, .any, .any, .any, .any, .any, .any, .any, .any, .one (.c (xi 4)), .one (.c (.bool (.o2 .lss (.var 4) (.int 500)))), .any, .any, .any, .any, .any, .any, .any], [(1, .cells [.int .i64 (.f1 0 (.var 0)), .int .i64 (.f1 1 (.var 0)), .int .i64 (.f1 2 (.var 0)), .int .i64 (.f1 3 (.var 0)), .int .i64 (.f1 4 (.var 0)), .int .i64 (.f1 5 (.var 0)), .int .i64 (.f1 6 (.var 0)), .ptr 3 (.int 0), xi 1]), (2, .res 7 (.var 2)), (3, .res 0 (.var 3))], 5, [((.o2 .lss (.var 4) (.int 500)), false)]⟩
def lDo_ls : List Leaf := [((.exit 0), lDo_0), (.norm, lDo_1), ((.exit 0), lDo_2)]
def lAsk_0 : St := ⟨[.any, .any, .any, .any, .one (.c (.ptr 1 (.int 0))), .any, .any, .any, .one (.c (.ptr 4 (.int 0))), .one (.c (.ptr 2 (.int 0))), .any, .one (.c (xi 4)), .any, .any, .any, .any, .any, .any, .any, .any, .any, .any, .any, .one (.c (xi 4)), .one (.c (.bool (.o2 .lss (.var 4) (.int 20000)))), .any, .any, .one (.c (.ptr 2 (.int 0))), .one (.agg [.int .i64 (.f1 0 (.var 0)), .int .i64 (.f1 1 (.var 0)), .int .i64 (.f1 2 (.var 0)), .int .i64 (.f1 3 (.var 0)), .int .i64 (.f1 4 (.var 0)), .int .i64 (.f1 5 (.var 0)), .int .i64 (.f1 6 (.var 0)), .ptr 3 (.int 0), xi 1]), .one (.c (.bool (.f4 45 (.var 2) (.var 3) (.var 0) (.var 1)))), .any, .any], [(3, .res 0 (.f4 44 (.var 2) (.var 3) (.var 0) (.var 1))), (2, .res 8 (.f4 43 (.var 2) (.var 3) (.var 0) (.var 1))), (1, .cells [.int .i64 (.f1 0 (.var 0)), .int .i64 (.f1 1 (.var 0)), .int .i64 (.f1 2 (.var 0)), .int .i64 (.f1 3 (.var 0)), .int .i64 (.f1 4 (.var 0)), .int .i64 (.f1 5 (.var 0)), .int .i64 (.f1 6 (.var 0)), .ptr 3 (.int 0), xi 1])], 5, [((.f4 45 (.var 2) (.var 3) (.var 0) (.var 1)), true), ((.o2 .lss (.var 4) (.int 20000)), true)]⟩
def lAsk_1 : St := ⟨[.any, .any, .any, .any, .one (.c (.ptr 1 (.int 0))), .any, .any, .any, .one (.c (.ptr 4 (.int 0))), .one (.c (.ptr 2 (.int 0))), .any, .one (.c (.int .i64 (.o2 (.arith .add .i64) (.var 4) (.int 1)))), .any, .any, .any, .any, .any, .any, .any, .any, .any, .any, .any, .one (.c (xi 4)), .one (.c (.bool (.o2 .lss (.var 4) (.int 20000)))), .one (.c (xi 4)), .one (.c (.int .i64 (.o2 (.arith .add .i64) (.var 4) (.int 1)))), .one (.c (.ptr 2 (.int 0))), .one (.agg [.int .i64 (.f1 0 (.var 0)), .int .i64 (.f1 1 (.var 0)), .int .i64 (.f1 2 (.var 0)), .int .i64 (.f1 3 (.var 0)), .int .i64 (.f1 4 (.var 0)), .int .i64 (.f1 5 (.var 0)), .int .i64 (.f1 6 (.var 0)), .ptr 3 (.int 0), xi 1]), .one (.c (.bool (.f4 45 (.var 2) (.var 3) (.var 0) (.var 1)))), .any, .any], [(3, .res 0 (.f4 44 (.var 2) (.var 3) (.var 0) (.var 1))), (2, .res 8 (.f4 43 (.var 2) (.var 3) (.var 0) (.var 1))), (1, .cells [.int .i64 (.f1 0 (.var 0)), .int .i64 (.f1 1 (.var 0)), .int .i64 (.f1 2 (.var 0)), .int .i64 (.f1 3 (.var 0)), .int .i64 (.f1 4 (.var 0)), .int .i64 (.f1 5 (.var 0)), .int .i64 (.f1 6 (.var 0)), .ptr 3 (.int 0), xi 1])], 5, [((.f4 45 (.var 2) (.var 3) (.var 0) (.var 1)), false), ((.o2 .lss (.var 4) (.int 20000)), true)]⟩
def lAsk_2 : St := ⟨[.any, .any, .any, .any, .one (.c (.ptr 1 (.int 0))), .any, .any, .any, .one (.c (.ptr 4 (.int 0))), .one (.c (.ptr 2 (.int 0))), .any, .one (.c (xi 4)), .any, .any, .any, .any, .any, .any, .any, .any, .any, .any, .any, .one (.c (xi 4)), .one (.c (.bool (.o2 .lss (.var 4) (.int 20000)))), .any, .any, .any, .any, .any, .any, .any], [(1, .cells [.int .i64 (.f1 0 (.var 0)), .int .i64 (.f1 1 (.var 0)), .int .i64 (.f1 2 (.var 0)), .int .i64 (.f1 3 (.var 0)), .int .i64 (.f1 4 (.var 0)), .int .i64 (.f1 5 (.var 0)), .int .i64 (.f1 6 (.var 0)), .ptr 3 (.int 0), xi 1]), (2, .res 8 (.var 2)), (3, .res 0 (.var 3))], 5, [((.o2 .lss (.var 4) (.int 20000)), false)]⟩
def lAsk_ls : List Leaf := [((.exit 0), lAsk_0), (.norm, lAsk_1), ((.exit 0), lAsk_2)]
def lFresh_0 : St := ⟨[.any, .one (.c (.ptr 1 (.int 0))), .any, .any, .one (.c (.ptr 2 (.int 0))), .any, .one (.c (xi 2)), .any, .any, .any, .any, .any, .any, .any, .any, .any, .any, .any, .any, .any, .one (.c (.int .i64 (.f1 1 (.var 0)))), .one (.c (.int .i64 (.o2 (.arith .add .i64) (.var 2) (.int 1)))), .one (.c (.bool (.o2 .lss (.var 2) (.f1 1 (.var 0))))), .one (.c (xi 2)), .one (.c (.ptr 2 (.int 0))), .one (.agg [.int .i64 (.f1 0 (.var 0)), .int .i64 (.f1 1 (.var 0)), .int .i64 (.f1 2 (.var 0)), .int .i64 (.f1 3 (.var 0)), .int .i64 (.f1 4 (.var 0)), .int .i64 (.f1 5 (.var 0)), .int .i64 (.f1 6 (.var 0))]), .one (.c (xi 2)), .one (.c (.int .i64 (.f2 0 (.var 0) (.var 2)))), .one (.agg [.int .i64 (.int 0), .int .i64 (.int 0), .int .i64 (.int 1), .int .i64 (.int 0)]), .one (.c (.int .u64 (.f4 0 (.int 0) (.int 0) (.int 1) (.int 0)))), .one (.c (.int .i64 (.f2 23 (.var 1) (.f2 0 (.var 0) (.var 2))))), .one (.c (.ptr 2 (.int 0))), .one (.agg [.int .i64 (.f1 0 (.var 0)), .int .i64 (.f1 1 (.var 0)), .int .i64 (.f1 2 (.var 0)), .int .i64 (.f1 3 (.var 0)), .int .i64 (.f1 4 (.var 0)), .int .i64 (.f1 5 (.var 0)), .int .i64 (.f1 6 (.var 0))]), .one (.c (xi 2)), .one (.c (.int .i64 (.f2 0 (.var 0) (.var 2)))), .one (.c (.int .i64 (.o2 (.arith .add .i64) (.f2 0 (.var 0) (.var 2)) (.int 1)))), .one (.c (xi 2)), .one (.c (.int .i64 (.o2 (.arith .add .i64) (.var 2) (.int 1)))), .one (.c (.int .u64 (.f2 11 (.o2 (.arith .add .i64) (.var 2) (.int 1)) (.int 0)))), .one (.c (.int .i64 (.f2 23 (.f3 7 (.var 1) (.f2 0 (.var 0) (.var 2)) (.f4 0 (.int 0) (.int 0) (.int 1) (.int 0))) (.o2 (.arith .add .i64) (.f2 0 (.var 0) (.var 2)) (.int 1))))), .one (.c (.int .i64 (.o2 (.arith .add .i64) (.var 2) (.int 1)))), .any, .any, .any, .any, .any, .any, .any, .any, .any, .any, .any, .any, .any, .any], [(2, .res 0 (.f3 7 (.f3 7 (.var 1) (.f2 0 (.var 0) (.var 2)) (.f4 0 (.int 0) (.int 0) (.int 1) (.int 0))) (.o2 (.arith .add .i64) (.f2 0 (.var 0) (.var 2)) (.int 1)) (.f2 11 (.o2 (.arith .add .i64) (.var 2) (.int 1)) (.int 0)))), (1, .cells [.int .i64 (.f1 0 (.var 0)), .int .i64 (.f1 1 (.var 0)), .int .i64 (.f1 2 (.var 0)), .int .i64 (.f1 3 (.var 0)), .int .i64 (.f1 4 (.var 0)), .int .i64 (.f1 5 (.var 0)), .int .i64 (.f1 6 (.var 0))])], 3, [((.o2 .lss (.var 2) (.f1 1 (.var 0))), true)]⟩
def lFresh_1 : St := ⟨[.any, .one (.c (.ptr 1 (.int 0))), .any, .any, .one (.c (.ptr 2 (.int 0))), .any, .any, .any, .any, .any, .any, .any, .any, .any, .any, .any, .any, .any, .any, .any, .one (.c (.int .i64 (.f1 1 (.var 0)))), .one (.c (xi 2)), .one (.c (.bool (.o2 .lss (.var 2) (.f1 1 (.var 0))))), .any, .any, .any, .any, .any, .any, .any, .any, .any, .any, .any, .any, .any, .any, .any, .any, .any, .any, .any, .any, .any, .any, .any, .any, .any, .any, .any, .any, .any, .any, .any, .any], [(1, .cells [.int .i64 (.f1 0 (.var 0)), .int .i64 (.f1 1 (.var 0)), .int .i64 (.f1 2 (.var 0)), .int .i64 (.f1 3 (.var 0)), .int .i64 (.f1 4 (.var 0)), .int .i64 (.f1 5 (.var 0)), .int .i64 (.f1 6 (.var 0))]), (2, .res 0 (.var 1))], 3, [((.o2 .lss (.var 2) (.f1 1 (.var 0))), false)]⟩
def lFresh_ls : List Leaf := [(.norm, lFresh_0), ((.exit 0), lFresh_1)]
end Go.Fl

/- Templates, level 10, shown: the loops. -/
namespace Go.Fl
open Go Go.Sx Go.Proofs
variable [ExtF]
set_option maxRecDepth 100000

theorem lss_den (v : V) (a b : E) (c : Bool) : (E.den SG v (.o2 .lss a b)).toBool = c ↔ (decide ((a.den SG v).toInt < (b.den SG v).toInt)) = c := Iff.rfl
theorem pt1 {v : V} {e : E} {b : Bool} {l : Path} (h : PT SG v ((e, b) :: l)) : (e.den SG v).toBool = b := h _ (List.mem_cons_self ..)
theorem pt2 {v : V} {x : E × Bool} {e : E} {b : Bool} {l : Path} (h : PT SG v (x :: (e, b) :: l)) : (e.den SG v).toBool = b := h _ (List.mem_cons_of_mem _ (List.mem_cons_self ..))
theorem pt_nil' (v : V) : PT SG v [] := (pt_nil v).2 trivial
end Go.Fl
namespace Go.Fl
open Go Go.Sx Go.Proofs
set_option maxRecDepth 100000
theorem of_dec_t {p : Prop} {_ : Decidable p} (h : decide p = true) : p := of_decide_eq_true h
theorem of_dec_f {p : Prop} {_ : Decidable p} (h : decide p = false) : ¬ p := of_decide_eq_false h

/-- the round's number goes on -/
theorem toNat_on {n i : Int} (h0 : ¬ i < 0) (h : i < n) (hn : n ≤ 9223372036854775807) : (n - i).toNat = (n - i64 (i + 1)).toNat + 1 ∧ i64 (i + 1) = i + 1 := by
  have := i64_in (n := i + 1) (by omega)
  omega

end Go.Fl
namespace Go.Fl
open Go Go.Sx Go.Proofs
variable [ExtF]
set_option maxRecDepth 100000
theorem lDo_ok : lDo.ok SG prog (loopAt 105 [1, 1, 1, 0, 1, 0]) := by
  refine loop_ok tm9_ok (ls := lDo_ls) (fun v => (500 - (v 4).toInt).toNat) (by kernel_rfl) (by kernel_rfl) (allL_cons ?_ <| allL_cons ?_ <| allL_cons ?_ <| allL_nil _)
  · intro v hp hq
    have h0 : ¬ (v 4).toInt < 0 := fun h => hq _ (.tail _ (.head _)) rfl fun x hx => by rw [List.mem_singleton.1 hx]; exact decide_eq_true h
    have hd : (actStep (gcfg (v 0)) (v 1).toInt (gact (v 2)) (gmem (v 3))).2.2 = true := pt1 hp
    have hi : (v 4).toInt < 500 := of_dec_t (pt2 hp)
    obtain ⟨hk, _⟩ := toNat_on h0 hi (by decide)
    have hr := (congrArg (fun k => runAct (gcfg (v 0)) (v 1).toInt k (gact (v 2)) (gmem (v 3))) hk).trans (runAct_done hd)
    refine round_exit (.head _) (by kernel_rfl) (ends_cons rfl (eqv_rfl _ _) <| ends_cons rfl (Blk.eqv_res ?_) <| ends_cons rfl (Blk.eqv_res ?_) <| ends_nil _ _) (pt_nil' v)
    · exact congrArg (fun r : Act × Mem => G.u (U.act r.1)) hr.symm
    · exact congrArg (fun r : Act × Mem => G.u (U.mem r.2)) hr.symm
  · intro v hp hq
    have h0 : ¬ (v 4).toInt < 0 := fun h => hq _ (.tail _ (.head _)) rfl fun x hx => by rw [List.mem_singleton.1 hx]; exact decide_eq_true h
    have hd : (actStep (gcfg (v 0)) (v 1).toInt (gact (v 2)) (gmem (v 3))).2.2 = false := pt1 hp
    have hi : (v 4).toInt < 500 := of_dec_t (pt2 hp)
    obtain ⟨hk, hs⟩ := toNat_on h0 hi (by decide)
    have hr := (congrArg (fun k => runAct (gcfg (v 0)) (v 1).toInt k (gact (v 2)) (gmem (v 3))) hk).trans (runAct_on hd)
    refine round_on' 2 [.f1 105 (runE 60 61), .f1 106 (runE 60 61)]
      (fun j => match j with | 2 => .f4 40 (.var 2) (.var 3) (.var 0) (.var 1) | 3 => .f4 41 (.var 2) (.var 3) (.var 0) (.var 1) | 4 => .o2 (.arith .add .i64) (.var 4) (.int 1) | j => .var j)
      (by kernel_rfl) (pcs_cons rfl (eqv_rfl _ _) <| pcs_cons rfl (eqv_rfl _ _) <| pcs_cons rfl (eqv_rfl _ _) <| pcs_nil _ _ _) ?_ ?_ (by kernel_rfl) ?_ ?_
    · show (500 - i64 ((v 4).toInt + 1)).toNat < (500 - (v 4).toInt).toNat
      omega
    · intro y hy hf
      rcases List.mem_cons.1 hy with rfl | hy
      · cases hf
      · rw [List.mem_singleton.1 hy]
        intro hc
        have : i64 ((v 4).toInt + 1) < 0 := of_dec_t (pt1 hc)
        omega
    · intro i hi
      match i, hi with
      | 0, _ => rfl
      | 1, _ => rfl
    · intro e he
      rcases List.mem_cons.1 he with rfl | he
      · exact congrArg (fun r : Act × Mem => G.u (U.act r.1)) hr.symm
      · rw [List.mem_singleton.1 he]
        exact congrArg (fun r : Act × Mem => G.u (U.mem r.2)) hr.symm
  · intro v hp hq
    have hi : ¬ (v 4).toInt < 500 := of_dec_f (pt1 hp)
    have hk : (500 - (v 4).toInt).toNat = 0 := by omega
    have hr := congrArg (fun k => runAct (gcfg (v 0)) (v 1).toInt k (gact (v 2)) (gmem (v 3))) hk
    refine round_exit (.head _) (by kernel_rfl) (ends_cons rfl (eqv_rfl _ _) <| ends_cons rfl (wf_act ?_) <| ends_cons rfl (wf_mem ?_) <| ends_nil _ _) (pt_nil' v)
    · exact congrArg (fun r : Act × Mem => G.u (U.act r.1)) hr.symm
    · exact congrArg (fun r : Act × Mem => G.u (U.mem r.2)) hr.symm

theorem lAsk_ok : lAsk.ok SG prog (loopAt 38 [1, 1, 1, 0, 1, 0]) := by
  refine loop_ok tm9_ok (ls := lAsk_ls) (fun v => (20000 - (v 4).toInt).toNat) (by kernel_rfl) (by kernel_rfl) (allL_cons ?_ <| allL_cons ?_ <| allL_cons ?_ <| allL_nil _)
  · intro v hp hq
    have h0 : ¬ (v 4).toInt < 0 := fun h => hq _ (.tail _ (.head _)) rfl fun x hx => by rw [List.mem_singleton.1 hx]; exact decide_eq_true h
    have hd : (listStep (gcfg (v 0)) (v 1).toInt (glst (v 2)) (gmem (v 3))).2.2 = true := pt1 hp
    have hi : (v 4).toInt < 20000 := of_dec_t (pt2 hp)
    obtain ⟨hk, _⟩ := toNat_on h0 hi (by decide)
    have hr := (congrArg (fun k => runLst (gcfg (v 0)) (v 1).toInt k (glst (v 2)) (gmem (v 3))) hk).trans (runLst_done hd)
    refine round_exit (.head _) (by kernel_rfl) (ends_cons rfl (eqv_rfl _ _) <| ends_cons rfl (Blk.eqv_res ?_) <| ends_cons rfl (Blk.eqv_res ?_) <| ends_nil _ _) (pt_nil' v)
    · exact congrArg (fun r : Lst × Mem => G.u (U.lst r.1)) hr.symm
    · exact congrArg (fun r : Lst × Mem => G.u (U.mem r.2)) hr.symm
  · intro v hp hq
    have h0 : ¬ (v 4).toInt < 0 := fun h => hq _ (.tail _ (.head _)) rfl fun x hx => by rw [List.mem_singleton.1 hx]; exact decide_eq_true h
    have hd : (listStep (gcfg (v 0)) (v 1).toInt (glst (v 2)) (gmem (v 3))).2.2 = false := pt1 hp
    have hi : (v 4).toInt < 20000 := of_dec_t (pt2 hp)
    obtain ⟨hk, hs⟩ := toNat_on h0 hi (by decide)
    have hr := (congrArg (fun k => runLst (gcfg (v 0)) (v 1).toInt k (glst (v 2)) (gmem (v 3))) hk).trans (runLst_on hd)
    refine round_on' 2 [.f1 107 (runE 61 62), .f1 108 (runE 61 62)]
      (fun j => match j with | 2 => .f4 43 (.var 2) (.var 3) (.var 0) (.var 1) | 3 => .f4 44 (.var 2) (.var 3) (.var 0) (.var 1) | 4 => .o2 (.arith .add .i64) (.var 4) (.int 1) | j => .var j)
      (by kernel_rfl) (pcs_cons rfl (eqv_rfl _ _) <| pcs_cons rfl (eqv_rfl _ _) <| pcs_cons rfl (eqv_rfl _ _) <| pcs_nil _ _ _) ?_ ?_ (by kernel_rfl) ?_ ?_
    · show (20000 - i64 ((v 4).toInt + 1)).toNat < (20000 - (v 4).toInt).toNat
      omega
    · intro y hy hf
      rcases List.mem_cons.1 hy with rfl | hy
      · cases hf
      · rw [List.mem_singleton.1 hy]
        intro hc
        have : i64 ((v 4).toInt + 1) < 0 := of_dec_t (pt1 hc)
        omega
    · intro i hi
      match i, hi with
      | 0, _ => rfl
      | 1, _ => rfl
    · intro e he
      rcases List.mem_cons.1 he with rfl | he
      · exact congrArg (fun r : Lst × Mem => G.u (U.lst r.1)) hr.symm
      · rw [List.mem_singleton.1 he]
        exact congrArg (fun r : Lst × Mem => G.u (U.mem r.2)) hr.symm
  · intro v hp hq
    have hi : ¬ (v 4).toInt < 20000 := of_dec_f (pt1 hp)
    have hk : (20000 - (v 4).toInt).toNat = 0 := by omega
    have hr := congrArg (fun k => runLst (gcfg (v 0)) (v 1).toInt k (glst (v 2)) (gmem (v 3))) hk
    refine round_exit (.head _) (by kernel_rfl) (ends_cons rfl (eqv_rfl _ _) <| ends_cons rfl (wf_lst ?_) <| ends_cons rfl (wf_mem ?_) <| ends_nil _ _) (pt_nil' v)
    · exact congrArg (fun r : Lst × Mem => G.u (U.lst r.1)) hr.symm
    · exact congrArg (fun r : Lst × Mem => G.u (U.mem r.2)) hr.symm

end Go.Fl
namespace Go.Fl
open Go Go.Sx Go.Proofs
set_option maxRecDepth 100000
theorem store_who (m : Mem) (w a x : Int) : (m.store w a x).who = w := by
  simp only [Mem.store]
  split
  · simp only [Mem.set]; split <;> rfl
  · rfl
end Go.Fl
namespace Go.Fl
open Go Go.Sx Go.Proofs
variable [ExtF]
set_option maxRecDepth 100000
def freshOneE : E := .f3 7 (.f3 7 (.var 1) (.f2 0 (.var 0) (.var 2)) (.f4 0 (.int 0) (.int 0) (.int 1) (.int 0))) (.o2 (.arith .add .i64) (.f2 0 (.var 0) (.var 2)) (.int 1)) (.f2 11 (.o2 (.arith .add .i64) (.var 2) (.int 1)) (.int 0))
theorem freshOneE_den (v : V) : freshOneE.den SG v = G.u (U.mem (freshOne (gcfg (v 0)) (v 2).toInt (gmem (v 1)))) := by
  show G.u (U.mem (((gmem (v 1)).store (gmem (v 1)).who (slotAt (gcfg (v 0)) (v 2).toInt) (putSlot 0 0 1 0)).store ((gmem (v 1)).store (gmem (v 1)).who (slotAt (gcfg (v 0)) (v 2).toInt) (putSlot 0 0 1 0)).who
    (i64 (slotAt (gcfg (v 0)) (v 2).toInt + 1)) (putTop (i64 ((v 2).toInt + 1)) 0))) = _
  rw [store_who]; rfl
end Go.Fl
namespace Go.Fl
open Go Go.Sx Go.Proofs
set_option maxRecDepth 100000
theorem freshLoop_on (c : Cfg) (k : Nat) (i : Int) (m : Mem) : freshLoop c (k + 1) i m = freshLoop c k (i64 (i + 1)) (freshOne c i m) := rfl
end Go.Fl
namespace Go.Fl
open Go Go.Sx Go.Proofs
variable [ExtF]
set_option maxRecDepth 100000
end Go.Fl
namespace Go.Fl
open Go Go.Sx Go.Proofs
set_option maxRecDepth 100000
set_option maxRecDepth 100000
set_option maxRecDepth 100000
set_option maxRecDepth 100000
set_option maxRecDepth 100000
set_option maxRecDepth 100000
set_option maxRecDepth 100000
theorem cfg_slots {c : Cfg} (h : cfgCheck c = true) : 1 ≤ c.slots ∧ c.slots ≤ 65536 := by
  simp only [cfgCheck, Bool.and_eq_true, Bool.not_eq_true', ltI_f] at h
  omega
end Go.Fl
namespace Go.Fl
open Go Go.Sx Go.Proofs
variable [ExtF]
set_option maxRecDepth 100000
set_option maxRecDepth 100000
set_option maxRecDepth 100000
set_option maxRecDepth 100000
set_option maxRecDepth 100000
set_option maxRecDepth 100000
set_option maxRecDepth 100000
theorem lFresh_ok : lFresh.ok SG prog (loopAt 141 [1, 1, 1, 1, 0, 1, 0]) := by
  refine loop_ok tm9_ok (ls := lFresh_ls) (fun v => ((gcfg (v 0)).slots - (v 2).toInt).toNat) (by kernel_rfl) (by kernel_rfl) (allL_cons ?_ <| allL_cons ?_ <| allL_nil _)
  · intro v hp hq
    have h0 : ¬ (v 2).toInt < 0 := fun h => hq _ (.tail _ (.head _)) rfl fun x hx => by rw [List.mem_singleton.1 hx]; exact decide_eq_true h
    have hc : cfgCheck (gcfg (v 0)) = true := by
      cases hb : cfgCheck (gcfg (v 0)) with
      | true => rfl
      | false => exact (hq _ (.tail _ (.tail _ (.head _))) rfl fun x hx => by rw [List.mem_singleton.1 hx]; exact hb).elim
    have hsl := cfg_slots hc
    have hi : (v 2).toInt < (gcfg (v 0)).slots := of_dec_t (pt1 hp)
    obtain ⟨hk, hs⟩ := toNat_on h0 hi (by omega)
    have hr := (congrArg (fun k => freshLoop (gcfg (v 0)) k (v 2).toInt (gmem (v 1))) hk).trans (freshLoop_on _ _ _ _)
    refine round_on' 1 [.f3 8 (.var 0) (.var 2) (.var 1)]
      (fun j => match j with | 1 => freshOneE | 2 => .o2 (.arith .add .i64) (.var 2) (.int 1) | j => .var j)
      (by kernel_rfl) (pcs_cons rfl (eqv_rfl _ _) <| pcs_cons rfl (eqv_rfl _ _) <| pcs_nil _ _ _) ?_ ?_ (by kernel_rfl) ?_ ?_
    · show ((gcfg (v 0)).slots - i64 ((v 2).toInt + 1)).toNat < ((gcfg (v 0)).slots - (v 2).toInt).toNat
      omega
    · intro y hy hf
      rcases List.mem_cons.1 hy with rfl | hy
      · cases hf
      · rcases List.mem_cons.1 hy with rfl | hy
        · intro hc
          have : i64 ((v 2).toInt + 1) < 0 := of_dec_t (pt1 hc)
          omega
        · rw [List.mem_singleton.1 hy]
          intro hc'
          have h2 : cfgCheck (gcfg (v 0)) = false := pt1 hc'
          rw [hc] at h2; cases h2
    · intro i hi
      match i, hi with
      | 0, _ => rfl
    · intro e he
      rw [List.mem_singleton.1 he]
      show G.u (U.mem (freshLoop (gcfg (v 0)) ((gcfg (v 0)).slots - i64 ((v 2).toInt + 1)).toNat (i64 ((v 2).toInt + 1)) (gmem (freshOneE.den SG v)))) =
        G.u (U.mem (freshLoop (gcfg (v 0)) ((gcfg (v 0)).slots - (v 2).toInt).toNat (v 2).toInt (gmem (v 1))))
      rw [freshOneE_den, hr]; rfl
  · intro v hp hq
    have hi : ¬ (v 2).toInt < (gcfg (v 0)).slots := of_dec_f (pt1 hp)
    have hk : ((gcfg (v 0)).slots - (v 2).toInt).toNat = 0 := by omega
    have hr := congrArg (fun k => freshLoop (gcfg (v 0)) k (v 2).toInt (gmem (v 1))) hk
    refine round_exit (.head _) (by kernel_rfl) (ends_cons rfl (eqv_rfl _ _) <| ends_cons rfl (wf_mem ?_) <| ends_nil _ _) (pt_nil' v)
    show G.u (U.mem (gmem (v 1))) = G.u (U.mem (freshLoop (gcfg (v 0)) ((gcfg (v 0)).slots - (v 2).toInt).toNat (v 2).toInt (gmem (v 1))))
    rw [hk]; rfl
end Go.Fl

/- Templates, level 11: an act alone, what is asked of a list alone, an arena's words. -/
namespace Go.Fl
open Go Go.Sx Go.Proofs
variable [ExtF]

def lhDo : LH := lhOf [([1, 1, 1, 0, 1, 0], lDo)]
def lhAsk : LH := lhOf [([1, 1, 1, 0, 1, 0], lAsk)]
def lhFresh : LH := lhOf [([1, 1, 1, 1, 0, 1, 0], lFresh)]
theorem at_Do : CallAt SG prog 105 (callL tab tm9 20 20 lhDo 105) := callL_at tab_ok tm9_ok (lh_ok fun x hx => by rw [List.mem_singleton.1 hx]; exact lDo_ok)
theorem at_Ask : CallAt SG prog 38 (callL tab tm9 20 20 lhAsk 38) := callL_at tab_ok tm9_ok (lh_ok fun x hx => by rw [List.mem_singleton.1 hx]; exact lAsk_ok)
theorem at_Fresh : CallAt SG prog 141 (callL tab tm9 20 20 lhFresh 141) := callL_at tab_ok tm9_ok (lh_ok fun x hx => by rw [List.mem_singleton.1 hx]; exact lFresh_ok)

def doneA (d : E) : List S1 := [.int .i64 (.f1 100 d), .int .u64 (.f1 101 d), .int .i64 (.f1 102 d), .int .i64 (.f1 103 d)]
def actE (k : Int) : E := .f4 51 (.f4 50 (.int k) (.var 5) (.var 6) (.var 7)) (.var 8) (.var 9) (.var 10)
def doE (k : Int) : E := .f3 62 (.f2 60 (.var 2) (.var 3)) (actE k) (.var 1)
def gDo : GSpec := ⟨[ev3, .one (.agg [.int .i64 (.int 1), xi 5, xu 6, xi 7, xi 8, xi 9, xb 10])], [(2, .res 0 (.var 1))], 3, [⟨.one (.agg (doneA (doE 1))), none, [(2, .res 0 (.f1 104 (doE 1)))], 3, []⟩], []⟩
def askE : E := .f3 63 (.f2 60 (.var 2) (.var 3)) (.f4 50 (.var 4) (.var 5) (.var 6) (.int 0)) (.var 1)
def gAsk : GSpec := ⟨[ev3, uE (.var 4), iE (.var 5), iE (.var 6)], [(2, .res 0 (.var 1))], 3, [⟨.one (.agg (doneA askE)), none, [(2, .res 0 (.f1 104 askE))], 3, []⟩], []⟩
/-- words that a callee made -/
def okM (r : Nat) (e : E) (pa : Path) : OutG := ⟨.tup [.c (.ptr r (.int 0)), .c (.int .i64 (.int 0))], none, [(r, .res 0 e)], r + 1, pa⟩
def gFresh : GSpec := ⟨[cfgV], [], 1, [noR [(.f1 92 v0, false)], okM 7 (.f1 93 v0) [(.f1 92 v0, true)]], []⟩

end Go.Fl
namespace Go.Fl
open Go Go.Sx Go.Proofs

theorem lenOf_ok {c : Cfg} (h : cfgCheck c = true) : (!(ltI (lenOf c) 1) && !(ltI 1048576 (lenOf c))) = true := by
  simp only [cfgCheck, Bool.and_eq_true, Bool.not_eq_true', ltI_f] at h
  obtain ⟨⟨⟨⟨⟨h1, h2⟩, h3⟩, h4⟩, ⟨⟨h5, h6⟩, h7⟩, h8⟩, _⟩ := h
  have hm : c.words * c.chunks ≤ 256 * 64 := Int.mul_le_mul (by omega) (by omega) (by omega) (by omega)
  have hm0 : 0 ≤ c.words * c.chunks := Int.mul_nonneg (by omega) (by omega)
  simp only [lenOf, baseAt]
  rw [i64_in (n := 6 + c.threads) (by omega), i64_in (n := 2 * c.slots) (by omega), i64_in (n := 3 * c.chunks) (by omega), i64_in (n := c.words * c.chunks) (by omega),
    i64_in (n := 6 + c.threads + 2 * c.slots) (by omega), i64_in (n := 6 + c.threads + 2 * c.slots + 3 * c.chunks) (by omega), i64_in (n := 6 + c.threads + 2 * c.slots + 3 * c.chunks + c.words * c.chunks) (by omega)]
  simp only [Bool.and_eq_true, Bool.not_eq_true', ltI_f]
  omega
end Go.Fl
namespace Go.Fl
open Go Go.Sx Go.Proofs
variable [ExtF]

end Go.Fl

/- Templates, level 11, shown. -/
namespace Go.Fl
open Go Go.Sx Go.Proofs
variable [ExtF]
set_option linter.unusedSimpArgs false
set_option maxRecDepth 100000
set_option maxHeartbeats 2000000

abbrev z110 : E := .f4 51 (.f4 50 (.int 1) (.var 5) (.var 6) (.var 7)) (.var 8) (.var 9) (.var 10)
abbrev z111 : E := .f3 60 (.f2 60 (.var 2) (.var 3)) (.f2 61 (.f1 91 z110) (.var 1)) (.int 0)
abbrev z11p2 : Path := [((.f1 90 z110), true)]
theorem gDo_ok : gDo.t.ok SG prog 105 := by
  refine GSpec.ok at_Do gDo (by kernel_rfl) ⟨[⟨true, .one (.agg [.int .i64 (.int 1), .int .u64 (.int 0), .int .i64 (.int 0), .int .i64 (.int 0)]), [(2, .res 0 (.var 1))], 8, [((.f1 90 z110), false)]⟩,
    ⟨true, .one (.agg [.int .i64 (.f1 72 (.f1 105 z111)), .int .u64 (.f1 73 (.f1 105 z111)), .int .i64 (.f1 74 (.f1 105 z111)), .int .i64 (.f1 75 (.f1 105 z111))]), [(2, .res 0 (.f1 106 z111))], 11, z11p2⟩,
    ⟨false, .tup [], [], 0, ((.o2 .lss (.int 0) (.int 0)), true) :: z11p2⟩], by as_aux_lemma => kernel_rfl,
    allC_cons (gWM 0 rfl rfl rfl rfl rfl ?_) <|
    allC_cons (gWM 0 rfl rfl rfl rfl rfl ?_) <|
    allC_cons (gBad 0 rfl fun _ => by as_aux_lemma => kernel_rfl) <|
    allC_nil _⟩
  all_goals
    intro n hp hq
    simp only [pt_nil, pt_cons, E.den, gDo, okR, okM, noR, val, cfgV, v0, v1, v2, memS, listS, optG, optH, optP, doneA, actE, doE, askE, runE, ev3, envV, cfgE, sg_f1, sg_f2, sg_f3, sg_f4, f1_0, f1_1, f1_2, f1_3, f1_4, f1_5, f1_6, f1_72, f1_73, f1_74, f1_75, f1_90, f1_91, f1_100, f1_101, f1_102, f1_103, f1_104, f1_105, f1_106, f2_60, f2_61, f3_60, f3_62, f4_51, f4_50, O1.ap, O3.ap, ap_arith, ap_bits, ap_div, ap_shift, ap_eql, ap_lss, ap_beq, ap_min, ap_max, ap_nthI, ap_nthB, ap_inI, ap_inB, G.toInt_int, G.toBool_bool, G.toInts_ints, ltI_t, ltI_f, inN_t, inN_f, and_true, Nat.zero_add, Nat.reduceAdd, arith_add, arith_sub, arith_mul, i64, u64, cas_by, openAt, pinAt, Bool.not_eq_true', Bool.not_eq_false', beq_iff_eq, beq_eq_false_iff_ne, ne_eq] at hp
    first
    | (exfalso; simp at hp; done)
    | (simp only [gDo, okR, okM, noR, val, cfgV, v0, v1, v2, memS, listS, optG, optH, optP, doneA, actE, doE, askE, runE, ev3, envV, cfgE, xi, xu, xb, SV.den, S2.den, S1.den, cellsDen, List.map, iE, uE, bE, E.den, pt_nil, pt_cons, sg_f1, sg_f2, sg_f3, sg_f4, f1_0, f1_1, f1_2, f1_3, f1_4, f1_5, f1_6, f1_72, f1_73, f1_74, f1_75, f1_90, f1_91, f1_100, f1_101, f1_102, f1_103, f1_104, f1_105, f1_106, f2_60, f2_61, f3_60, f3_62, f4_51, f4_50, O1.ap, O3.ap, ap_arith, ap_bits, ap_div, ap_shift, ap_eql, ap_lss, ap_beq, ap_min, ap_max, ap_nthI, ap_nthB, ap_inI, ap_inB, G.toInt_int, G.toBool_bool, G.toInts_ints, ltI_t, ltI_f, inN_t, inN_f, and_true, Nat.zero_add, Nat.reduceAdd, arith_add, arith_sub, arith_mul, i64, u64, cas_by, openAt, pinAt, gplace_u, ggive_u, ghelp_u, galloc_u, gdrop_u, gaccess_u, gact_u, glst_u, gmem_u, gcfg_u, gquad_u, gactx_u, gcw_u, gdm_u, gdm_p, gam_u, gam_p, glm_u, glm_p, doP, hp, reduceIte, if_true, if_false, not_true, not_false_iff, Classical.not_not, true_and, and_true, false_and, and_false, true_or, or_true, false_or, or_false, Bool.not_true, Bool.not_false, Bool.and_true, Bool.and_false, Bool.false_and, Bool.true_and, decide_true, decide_false, Int.reduceEq, Bool.false_eq_true, Bool.true_eq_false]; done)
    | (simp only [gDo, okR, okM, noR, val, cfgV, v0, v1, v2, memS, listS, optG, optH, optP, doneA, actE, doE, askE, runE, ev3, envV, cfgE, xi, xu, xb, SV.den, S2.den, S1.den, cellsDen, List.map, iE, uE, bE, E.den, pt_nil, pt_cons, sg_f1, sg_f2, sg_f3, sg_f4, f1_0, f1_1, f1_2, f1_3, f1_4, f1_5, f1_6, f1_72, f1_73, f1_74, f1_75, f1_90, f1_91, f1_100, f1_101, f1_102, f1_103, f1_104, f1_105, f1_106, f2_60, f2_61, f3_60, f3_62, f4_51, f4_50, O1.ap, O3.ap, ap_arith, ap_bits, ap_div, ap_shift, ap_eql, ap_lss, ap_beq, ap_min, ap_max, ap_nthI, ap_nthB, ap_inI, ap_inB, G.toInt_int, G.toBool_bool, G.toInts_ints, ltI_t, ltI_f, inN_t, inN_f, and_true, Nat.zero_add, Nat.reduceAdd, arith_add, arith_sub, arith_mul, i64, u64, cas_by, openAt, pinAt, gplace_u, ggive_u, ghelp_u, galloc_u, gdrop_u, gaccess_u, gact_u, glst_u, gmem_u, gcfg_u, gquad_u, gactx_u, gcw_u, gdm_u, gdm_p, gam_u, gam_p, glm_u, glm_p, doP]; simp [hp]; done)
    | (simp only [gDo, okR, okM, noR, val, cfgV, v0, v1, v2, memS, listS, optG, optH, optP, doneA, actE, doE, askE, runE, ev3, envV, cfgE, xi, xu, xb, SV.den, S2.den, S1.den, cellsDen, List.map, iE, uE, bE, E.den, pt_nil, pt_cons, sg_f1, sg_f2, sg_f3, sg_f4, f1_0, f1_1, f1_2, f1_3, f1_4, f1_5, f1_6, f1_72, f1_73, f1_74, f1_75, f1_90, f1_91, f1_100, f1_101, f1_102, f1_103, f1_104, f1_105, f1_106, f2_60, f2_61, f3_60, f3_62, f4_51, f4_50, O1.ap, O3.ap, ap_arith, ap_bits, ap_div, ap_shift, ap_eql, ap_lss, ap_beq, ap_min, ap_max, ap_nthI, ap_nthB, ap_inI, ap_inB, G.toInt_int, G.toBool_bool, G.toInts_ints, ltI_t, ltI_f, inN_t, inN_f, and_true, Nat.zero_add, Nat.reduceAdd, arith_add, arith_sub, arith_mul, i64, u64, cas_by, openAt, pinAt, gplace_u, ggive_u, ghelp_u, galloc_u, gdrop_u, gaccess_u, gact_u, glst_u, gmem_u, gcfg_u, gquad_u, gactx_u, gcw_u, gdm_u, gdm_p, gam_u, gam_p, glm_u, glm_p, doP]; simp_all; done)
    | (exfalso; simp_all; done)
    | (exfalso; omega)
    | skip

abbrev z113 : E := .f2 41 (.var 5) (.var 6)
abbrev z114 : E := .f3 61 (.f2 60 (.var 2) (.var 3)) (.f2 62 (.f3 5 (.var 5) (.var 6) (.var 4)) (.var 1)) (.int 0)
theorem gAsk_ok : gAsk.t.ok SG prog 38 := by
  refine GSpec.ok at_Ask gAsk (by kernel_rfl) ⟨[⟨true, .one (.agg [.int .i64 (.int 1), .int .u64 (.int 0), .int .i64 (.int 0), .int .i64 (.int 0)]), [(2, .res 0 (.var 1))], 7, [(z113, false)]⟩,
    ⟨true, .one (.agg [.int .i64 (.f1 76 (.f1 107 z114)), .int .u64 (.f1 77 (.f1 107 z114)), .int .i64 (.f1 78 (.f1 107 z114)), .int .i64 (.f1 79 (.f1 107 z114))]), [(2, .res 0 (.f1 108 z114))], 6, [(z113, true)]⟩,
    ⟨false, .tup [], [], 0, [((.o2 .lss (.int 0) (.int 0)), true), (z113, true)]⟩], by as_aux_lemma => kernel_rfl,
    allC_cons (gWM 0 rfl rfl rfl rfl rfl ?_) <|
    allC_cons (gWM 0 rfl rfl rfl rfl rfl ?_) <|
    allC_cons (gBad 0 rfl fun _ => by as_aux_lemma => kernel_rfl) <|
    allC_nil _⟩
  all_goals
    intro n hp hq
    simp only [pt_nil, pt_cons, E.den, gAsk, okR, okM, noR, val, cfgV, v0, v1, v2, memS, listS, optG, optH, optP, doneA, actE, doE, askE, runE, ev3, envV, cfgE, sg_f1, sg_f2, sg_f3, sg_f4, f1_0, f1_1, f1_2, f1_3, f1_4, f1_5, f1_6, f1_76, f1_77, f1_78, f1_79, f1_100, f1_101, f1_102, f1_103, f1_104, f1_107, f1_108, f2_41, f2_60, f2_62, f3_61, f3_63, f3_5, f4_50, O1.ap, O3.ap, ap_arith, ap_bits, ap_div, ap_shift, ap_eql, ap_lss, ap_beq, ap_min, ap_max, ap_nthI, ap_nthB, ap_inI, ap_inB, G.toInt_int, G.toBool_bool, G.toInts_ints, ltI_t, ltI_f, inN_t, inN_f, and_true, Nat.zero_add, Nat.reduceAdd, arith_add, arith_sub, arith_mul, i64, u64, cas_by, openAt, pinAt, Bool.not_eq_true', Bool.not_eq_false', beq_iff_eq, beq_eq_false_iff_ne, ne_eq] at hp
    first
    | (exfalso; simp at hp; done)
    | (simp only [gAsk, okR, okM, noR, val, cfgV, v0, v1, v2, memS, listS, optG, optH, optP, doneA, actE, doE, askE, runE, ev3, envV, cfgE, xi, xu, xb, SV.den, S2.den, S1.den, cellsDen, List.map, iE, uE, bE, E.den, pt_nil, pt_cons, sg_f1, sg_f2, sg_f3, sg_f4, f1_0, f1_1, f1_2, f1_3, f1_4, f1_5, f1_6, f1_76, f1_77, f1_78, f1_79, f1_100, f1_101, f1_102, f1_103, f1_104, f1_107, f1_108, f2_41, f2_60, f2_62, f3_61, f3_63, f3_5, f4_50, O1.ap, O3.ap, ap_arith, ap_bits, ap_div, ap_shift, ap_eql, ap_lss, ap_beq, ap_min, ap_max, ap_nthI, ap_nthB, ap_inI, ap_inB, G.toInt_int, G.toBool_bool, G.toInts_ints, ltI_t, ltI_f, inN_t, inN_f, and_true, Nat.zero_add, Nat.reduceAdd, arith_add, arith_sub, arith_mul, i64, u64, cas_by, openAt, pinAt, gplace_u, ggive_u, ghelp_u, galloc_u, gdrop_u, gaccess_u, gact_u, glst_u, gmem_u, gcfg_u, gquad_u, gactx_u, gcw_u, gdm_u, gdm_p, gam_u, gam_p, glm_u, glm_p, askP, hp, reduceIte, if_true, if_false, not_true, not_false_iff, Classical.not_not, true_and, and_true, false_and, and_false, true_or, or_true, false_or, or_false, Bool.not_true, Bool.not_false, Bool.and_true, Bool.and_false, Bool.false_and, Bool.true_and, decide_true, decide_false, Int.reduceEq, Bool.false_eq_true, Bool.true_eq_false]; done)
    | (simp only [gAsk, okR, okM, noR, val, cfgV, v0, v1, v2, memS, listS, optG, optH, optP, doneA, actE, doE, askE, runE, ev3, envV, cfgE, xi, xu, xb, SV.den, S2.den, S1.den, cellsDen, List.map, iE, uE, bE, E.den, pt_nil, pt_cons, sg_f1, sg_f2, sg_f3, sg_f4, f1_0, f1_1, f1_2, f1_3, f1_4, f1_5, f1_6, f1_76, f1_77, f1_78, f1_79, f1_100, f1_101, f1_102, f1_103, f1_104, f1_107, f1_108, f2_41, f2_60, f2_62, f3_61, f3_63, f3_5, f4_50, O1.ap, O3.ap, ap_arith, ap_bits, ap_div, ap_shift, ap_eql, ap_lss, ap_beq, ap_min, ap_max, ap_nthI, ap_nthB, ap_inI, ap_inB, G.toInt_int, G.toBool_bool, G.toInts_ints, ltI_t, ltI_f, inN_t, inN_f, and_true, Nat.zero_add, Nat.reduceAdd, arith_add, arith_sub, arith_mul, i64, u64, cas_by, openAt, pinAt, gplace_u, ggive_u, ghelp_u, galloc_u, gdrop_u, gaccess_u, gact_u, glst_u, gmem_u, gcfg_u, gquad_u, gactx_u, gcw_u, gdm_u, gdm_p, gam_u, gam_p, glm_u, glm_p, askP]; simp [hp]; done)
    | (simp only [gAsk, okR, okM, noR, val, cfgV, v0, v1, v2, memS, listS, optG, optH, optP, doneA, actE, doE, askE, runE, ev3, envV, cfgE, xi, xu, xb, SV.den, S2.den, S1.den, cellsDen, List.map, iE, uE, bE, E.den, pt_nil, pt_cons, sg_f1, sg_f2, sg_f3, sg_f4, f1_0, f1_1, f1_2, f1_3, f1_4, f1_5, f1_6, f1_76, f1_77, f1_78, f1_79, f1_100, f1_101, f1_102, f1_103, f1_104, f1_107, f1_108, f2_41, f2_60, f2_62, f3_61, f3_63, f3_5, f4_50, O1.ap, O3.ap, ap_arith, ap_bits, ap_div, ap_shift, ap_eql, ap_lss, ap_beq, ap_min, ap_max, ap_nthI, ap_nthB, ap_inI, ap_inB, G.toInt_int, G.toBool_bool, G.toInts_ints, ltI_t, ltI_f, inN_t, inN_f, and_true, Nat.zero_add, Nat.reduceAdd, arith_add, arith_sub, arith_mul, i64, u64, cas_by, openAt, pinAt, gplace_u, ggive_u, ghelp_u, galloc_u, gdrop_u, gaccess_u, gact_u, glst_u, gmem_u, gcfg_u, gquad_u, gactx_u, gcw_u, gdm_u, gdm_p, gam_u, gam_p, glm_u, glm_p, askP]; simp_all; done)
    | (exfalso; simp_all; done)
    | (exfalso; omega)
    | skip

abbrev z115 : E := .f1 40 (.var 0)
abbrev z116 : E := .f1 92 (.var 0)
abbrev z11p7 : Path := ((.f1 96 z115), true) :: [(z116, true)]
theorem gFresh_ok : gFresh.t.ok SG prog 141 := by
  refine GSpec.ok at_Fresh gFresh (by kernel_rfl) ⟨[⟨true, .tup [.c (.nilp), .c (.int .i64 (.int 1))], [], 4, [((.f1 96 z115), false), (z116, true)]⟩,
    ⟨true, .tup [.c (.ptr 7 (.int 0)), .c (.int .i64 (.int 0))], [(7, .res 0 (.f3 7 (.f3 7 (.f3 8 (.var 0) (.int 0) (.f1 94 z115)) (.o2 (.arith .add .i64) (.f2 0 (.var 0) (.o2 (.arith .sub .i64) (.f1 1 (.var 0)) (.int 1))) (.int 1)) (.f2 11 (.int (-1)) (.int 0))) (.int 1) (.f2 11 (.int 0) (.int 0))))], 8, z11p7⟩,
    ⟨false, .tup [], [], 0, ((.o2 .lss (.int 0) (.int 0)), true) :: z11p7⟩,
    ⟨false, .tup [], [], 0, (z116, false) :: z11p7⟩,
    ⟨true, .tup [.c (.nilp), .c (.int .i64 (.int 1))], [], 2, [(z116, false)]⟩], by as_aux_lemma => kernel_rfl,
    allC_cons (gW 0 rfl rfl rfl rfl ?_) <|
    allC_cons (gWM 1 rfl rfl rfl rfl rfl ?_) <|
    allC_cons (gBad 0 rfl fun _ => by as_aux_lemma => kernel_rfl) <|
    allC_cons (gNo ?_) <|
    allC_cons (gW 0 rfl rfl rfl rfl ?_) <|
    allC_nil _⟩
  all_goals
    intro n hp hq
    simp only [pt_nil, pt_cons, E.den, gFresh, okR, okM, noR, val, cfgV, v0, v1, v2, memS, listS, optG, optH, optP, doneA, actE, doE, askE, runE, ev3, envV, cfgE, sg_f1, sg_f2, sg_f3, sg_f4, f1_0, f1_1, f1_2, f1_3, f1_4, f1_5, f1_6, f1_40, f1_92, f1_93, f1_94, f1_96, f2_0, f2_11, f3_7, f3_8, O1.ap, O3.ap, ap_arith, ap_bits, ap_div, ap_shift, ap_eql, ap_lss, ap_beq, ap_min, ap_max, ap_nthI, ap_nthB, ap_inI, ap_inB, G.toInt_int, G.toBool_bool, G.toInts_ints, ltI_t, ltI_f, inN_t, inN_f, and_true, Nat.zero_add, Nat.reduceAdd, arith_add, arith_sub, arith_mul, i64, u64, cas_by, openAt, pinAt, Bool.not_eq_true', Bool.not_eq_false', beq_iff_eq, beq_eq_false_iff_ne, ne_eq] at hp
    first
    | (exfalso; simp at hp; done)
    | (simp only [gFresh, okR, okM, noR, val, cfgV, v0, v1, v2, memS, listS, optG, optH, optP, doneA, actE, doE, askE, runE, ev3, envV, cfgE, xi, xu, xb, SV.den, S2.den, S1.den, cellsDen, List.map, iE, uE, bE, E.den, pt_nil, pt_cons, sg_f1, sg_f2, sg_f3, sg_f4, f1_0, f1_1, f1_2, f1_3, f1_4, f1_5, f1_6, f1_40, f1_92, f1_93, f1_94, f1_96, f2_0, f2_11, f3_7, f3_8, O1.ap, O3.ap, ap_arith, ap_bits, ap_div, ap_shift, ap_eql, ap_lss, ap_beq, ap_min, ap_max, ap_nthI, ap_nthB, ap_inI, ap_inB, G.toInt_int, G.toBool_bool, G.toInts_ints, ltI_t, ltI_f, inN_t, inN_f, and_true, Nat.zero_add, Nat.reduceAdd, arith_add, arith_sub, arith_mul, i64, u64, cas_by, openAt, pinAt, gplace_u, ggive_u, ghelp_u, galloc_u, gdrop_u, gaccess_u, gact_u, glst_u, gmem_u, gcfg_u, gquad_u, gactx_u, gcw_u, gdm_u, gdm_p, gam_u, gam_p, glm_u, glm_p, freshMem, freshEnd, freshFrom, store_who, hp, reduceIte, if_true, if_false, not_true, not_false_iff, Classical.not_not, true_and, and_true, false_and, and_false, true_or, or_true, false_or, or_false, Bool.not_true, Bool.not_false, Bool.and_true, Bool.and_false, Bool.false_and, Bool.true_and, decide_true, decide_false, Int.reduceEq, Bool.false_eq_true, Bool.true_eq_false]; done)
    | (simp only [gFresh, okR, okM, noR, val, cfgV, v0, v1, v2, memS, listS, optG, optH, optP, doneA, actE, doE, askE, runE, ev3, envV, cfgE, xi, xu, xb, SV.den, S2.den, S1.den, cellsDen, List.map, iE, uE, bE, E.den, pt_nil, pt_cons, sg_f1, sg_f2, sg_f3, sg_f4, f1_0, f1_1, f1_2, f1_3, f1_4, f1_5, f1_6, f1_40, f1_92, f1_93, f1_94, f1_96, f2_0, f2_11, f3_7, f3_8, O1.ap, O3.ap, ap_arith, ap_bits, ap_div, ap_shift, ap_eql, ap_lss, ap_beq, ap_min, ap_max, ap_nthI, ap_nthB, ap_inI, ap_inB, G.toInt_int, G.toBool_bool, G.toInts_ints, ltI_t, ltI_f, inN_t, inN_f, and_true, Nat.zero_add, Nat.reduceAdd, arith_add, arith_sub, arith_mul, i64, u64, cas_by, openAt, pinAt, gplace_u, ggive_u, ghelp_u, galloc_u, gdrop_u, gaccess_u, gact_u, glst_u, gmem_u, gcfg_u, gquad_u, gactx_u, gcw_u, gdm_u, gdm_p, gam_u, gam_p, glm_u, glm_p, freshMem, freshEnd, freshFrom, store_who]; simp [hp]; done)
    | (simp only [gFresh, okR, okM, noR, val, cfgV, v0, v1, v2, memS, listS, optG, optH, optP, doneA, actE, doE, askE, runE, ev3, envV, cfgE, xi, xu, xb, SV.den, S2.den, S1.den, cellsDen, List.map, iE, uE, bE, E.den, pt_nil, pt_cons, sg_f1, sg_f2, sg_f3, sg_f4, f1_0, f1_1, f1_2, f1_3, f1_4, f1_5, f1_6, f1_40, f1_92, f1_93, f1_94, f1_96, f2_0, f2_11, f3_7, f3_8, O1.ap, O3.ap, ap_arith, ap_bits, ap_div, ap_shift, ap_eql, ap_lss, ap_beq, ap_min, ap_max, ap_nthI, ap_nthB, ap_inI, ap_inB, G.toInt_int, G.toBool_bool, G.toInts_ints, ltI_t, ltI_f, inN_t, inN_f, and_true, Nat.zero_add, Nat.reduceAdd, arith_add, arith_sub, arith_mul, i64, u64, cas_by, openAt, pinAt, gplace_u, ggive_u, ghelp_u, galloc_u, gdrop_u, gaccess_u, gact_u, glst_u, gmem_u, gcfg_u, gquad_u, gactx_u, gcw_u, gdm_u, gdm_p, gam_u, gam_p, glm_u, glm_p, freshMem, freshEnd, freshFrom, store_who]; simp_all; done)
    | (exfalso; simp_all; done)
    | (exfalso; omega)
    | (exfalso; have h9 := lenOf_ok hp.2; simp_all; done)
    | (exact absurd (hp.1.symm.trans hp.2.2) (by simp))
    | skip

end Go.Fl
