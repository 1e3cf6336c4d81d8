/- From a template to what a statement's walk asks. -/
import Derived.Test.YtdkjpjiljplahaaGreatMc
import Derived.Below
namespace Go.Fl
open Go Go.Sx Go.Proofs Go.RowKit

/-- nothing is added -/
instance ext0 : ExtF := { x1 := fun _ a => a, x2 := fun _ a _ => a, x3 := fun _ a _ _ => a, x4 := fun _ a _ _ _ => a, ks := fun _ => [], ok := fun _ _ h => by cases h }

theorem walk_of [ExtF] {g : GSpec} {f : FuncId} (h : g.t.ok SG prog f) (hpre : g.pre = []) (hreq : g.reqs = []) (hout : ∀ x ∈ g.outs, x.ret = .one (.c (.bool (.bool true)))) (v : V) (w : World) :
    Calls prog f (g.args.map (SV.den SG (envAt v))).toArray w fun e w' => e = .returned (.bool true) ∧ Below w.heap.size w w' := by
  refine Calls.mono (h (envAt v) (fun _ => 0) w (by intro p hp; rw [show g.t.pre = [] from hpre] at hp; cases hp) (fun c hc hok => ?_)) ?_
  · exfalso
    have : g.t.outs = g.outs.map OutG.co := by simp [GSpec.t, hreq]
    rw [this] at hc
    obtain ⟨x, _, rfl⟩ := List.mem_map.1 hc
    simp [OutG.co] at hok
  · rintro e w' ⟨c, hc, hok, hpt, n', o', rfl, hs, hfr, hext⟩
    have : g.t.outs = g.outs.map OutG.co := by simp [GSpec.t, hreq]
    rw [this] at hc
    obtain ⟨x, hx, rfl⟩ := List.mem_map.1 hc
    refine ⟨?_, hfr.os, hfr.tape, hfr.output, hfr.size, fun k hk => (hfr.same k hk rfl).2⟩
    rw [show (OutG.co x).ret = x.ret from rfl, hout x hx]; rfl
end Go.Fl
