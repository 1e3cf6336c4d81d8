/-
  No cell of these rows narrows 'for every input' (looked for: loops, veiled, ifaces, maps, wideKeys, modest, calm, conditions, laid).
  DERIVED. THE GIVEN ROWS OF THIS SEAT. 27 by the template 'for every input the law returns true; each argument reads behind the call as it read before'; 0 by the template 'total and deterministic' (their statements: YtdkjpjiljplahaaGreatTotals.lean).
  GIVEN WITH THE SEED: the statements are not yours to turn. If you find one false, say at which input.
  Laid BY PROGRAM, IN A SANDBOX (cutbox-rows.mjs): the forced cells as the released guide's own fill.sh prints them over the translation 3780d9736716c5f9… (all of the seat's roots in one cut). By AI agents, Wed Nov 11 2026. No macro, syntax, notation, axiom, sorry.
-/
import Derived.Test.YtdkjpjiljplahaaGreatChecked
import GoSem.Claim
import GoSem.ClaimJoined
import GoSem.ClaimMapViews
import Derived.JoinedTies
import Derived.KernelRfl
namespace Go.Proofs.YtdkjpjiljplahaaGreat
/- THE CELL 'sum', in the pinned program and in every row, IS THE sha256 OF THE DUMP (.gsa) THAT YtdkjpjiljplahaaGreatProg.lean LOADS. Nothing in Lean hashes anything: it is a label: what it is worth is what the hold of that sum in a sandbox is worth. -/
noncomputable def Tryz.pinned : Pinned := { name := "ytdkjpjiljplahaagreat", sum := "3780d9736716c5f990db4b411bbf0b8115e305c545ae2b06e4ef380d7401682f", checked := Tryz.checked }
namespace Rows
def none {H : Type} : Left H := { results := [], args := [] }

/-- 'footlockerlaw16.ListLinks': WHATEVER THE INPUT: true; the input reads as it did. -/
def listLinksSpec : ChangeSpec := { name := "listLinks", fn := fun _ => fun
  | [d1, d2] => { results := [.lit (.bool true)], args := [d1, d2] }
  | _ => none }
def listLinksRow : OpenClaim := { program := "ytdkjpjiljplahaagreat", sum := "3780d9736716c5f990db4b411bbf0b8115e305c545ae2b06e4ef380d7401682f", func := "footlocker/footlockerlaw16.ListLinks", spec := "listLinks", unfollowed := true, recurses := true, apart := false }
def ListLinksSaid : Prop := listLinksRow.holds Tryz.pinned (OpenSpec.ofChange listLinksSpec)

/-- ITS FALSE NEIGHBOUR: 'it returns false'. Refute it at one input. -/
def listLinksWrong : ChangeSpec := { name := "listLinks", fn := fun _ => fun
  | [d1, d2] => { results := [.lit (.bool false)], args := [d1, d2] }
  | _ => none }
def ListLinksWrongFalsely : Prop := listLinksRow.holds Tryz.pinned (OpenSpec.ofChange listLinksWrong)

/-- 'footlockerlaw16.ListNone': WHATEVER THE INPUT: true; the input reads as it did. -/
def listNoneSpec : ChangeSpec := { name := "listNone", fn := fun _ => fun
  | [d1, d2, d3] => { results := [.lit (.bool true)], args := [d1, d2, d3] }
  | _ => none }
def listNoneRow : OpenClaim := { program := "ytdkjpjiljplahaagreat", sum := "3780d9736716c5f990db4b411bbf0b8115e305c545ae2b06e4ef380d7401682f", func := "footlocker/footlockerlaw16.ListNone", spec := "listNone", unfollowed := true, recurses := true, apart := false }
def ListNoneSaid : Prop := listNoneRow.holds Tryz.pinned (OpenSpec.ofChange listNoneSpec)

/-- ITS FALSE NEIGHBOUR: 'it returns false'. Refute it at one input. -/
def listNoneWrong : ChangeSpec := { name := "listNone", fn := fun _ => fun
  | [d1, d2, d3] => { results := [.lit (.bool false)], args := [d1, d2, d3] }
  | _ => none }
def ListNoneWrongFalsely : Prop := listNoneRow.holds Tryz.pinned (OpenSpec.ofChange listNoneWrong)

/-- 'footlockerlaw16.ListOnce': WHATEVER THE INPUT: true; the input reads as it did. -/
def listOnceSpec : ChangeSpec := { name := "listOnce", fn := fun _ => fun
  | [d1, d2, d3] => { results := [.lit (.bool true)], args := [d1, d2, d3] }
  | _ => none }
def listOnceRow : OpenClaim := { program := "ytdkjpjiljplahaagreat", sum := "3780d9736716c5f990db4b411bbf0b8115e305c545ae2b06e4ef380d7401682f", func := "footlocker/footlockerlaw16.ListOnce", spec := "listOnce", unfollowed := true, recurses := true, apart := false }
def ListOnceSaid : Prop := listOnceRow.holds Tryz.pinned (OpenSpec.ofChange listOnceSpec)

/-- ITS FALSE NEIGHBOUR: 'it returns false'. Refute it at one input. -/
def listOnceWrong : ChangeSpec := { name := "listOnce", fn := fun _ => fun
  | [d1, d2, d3] => { results := [.lit (.bool false)], args := [d1, d2, d3] }
  | _ => none }
def ListOnceWrongFalsely : Prop := listOnceRow.holds Tryz.pinned (OpenSpec.ofChange listOnceWrong)

/-- 'footlockerlaw16.ListStuck': WHATEVER THE INPUT: true; the input reads as it did. -/
def listStuckSpec : ChangeSpec := { name := "listStuck", fn := fun _ => fun
  | [d1, d2, d3] => { results := [.lit (.bool true)], args := [d1, d2, d3] }
  | _ => none }
def listStuckRow : OpenClaim := { program := "ytdkjpjiljplahaagreat", sum := "3780d9736716c5f990db4b411bbf0b8115e305c545ae2b06e4ef380d7401682f", func := "footlocker/footlockerlaw16.ListStuck", spec := "listStuck", unfollowed := true, recurses := true, apart := false }
def ListStuckSaid : Prop := listStuckRow.holds Tryz.pinned (OpenSpec.ofChange listStuckSpec)

/-- ITS FALSE NEIGHBOUR: 'it returns false'. Refute it at one input. -/
def listStuckWrong : ChangeSpec := { name := "listStuck", fn := fun _ => fun
  | [d1, d2, d3] => { results := [.lit (.bool false)], args := [d1, d2, d3] }
  | _ => none }
def ListStuckWrongFalsely : Prop := listStuckRow.holds Tryz.pinned (OpenSpec.ofChange listStuckWrong)

/-- 'footlockerlaw16.ListAlone': WHATEVER THE INPUT: true; the input reads as it did. -/
def listAloneSpec : ChangeSpec := { name := "listAlone", fn := fun _ => fun
  | [d] => { results := [.lit (.bool true)], args := [d] }
  | _ => none }
def listAloneRow : OpenClaim := { program := "ytdkjpjiljplahaagreat", sum := "3780d9736716c5f990db4b411bbf0b8115e305c545ae2b06e4ef380d7401682f", func := "footlocker/footlockerlaw16.ListAlone", spec := "listAlone", unfollowed := true, recurses := true, apart := false }
def ListAloneSaid : Prop := listAloneRow.holds Tryz.pinned (OpenSpec.ofChange listAloneSpec)

/-- ITS FALSE NEIGHBOUR: 'it returns false'. Refute it at one input. -/
def listAloneWrong : ChangeSpec := { name := "listAlone", fn := fun _ => fun
  | [d] => { results := [.lit (.bool false)], args := [d] }
  | _ => none }
def ListAloneWrongFalsely : Prop := listAloneRow.holds Tryz.pinned (OpenSpec.ofChange listAloneWrong)

/-- 'footlockerlaw16.ListShares': WHATEVER THE INPUT: true; the input reads as it did. -/
def listSharesSpec : ChangeSpec := { name := "listShares", fn := fun _ => fun
  | [d1, d2] => { results := [.lit (.bool true)], args := [d1, d2] }
  | _ => none }
def listSharesRow : OpenClaim := { program := "ytdkjpjiljplahaagreat", sum := "3780d9736716c5f990db4b411bbf0b8115e305c545ae2b06e4ef380d7401682f", func := "footlocker/footlockerlaw16.ListShares", spec := "listShares", unfollowed := true, recurses := true, apart := false }
def ListSharesSaid : Prop := listSharesRow.holds Tryz.pinned (OpenSpec.ofChange listSharesSpec)

/-- ITS FALSE NEIGHBOUR: 'it returns false'. Refute it at one input. -/
def listSharesWrong : ChangeSpec := { name := "listShares", fn := fun _ => fun
  | [d1, d2] => { results := [.lit (.bool false)], args := [d1, d2] }
  | _ => none }
def ListSharesWrongFalsely : Prop := listSharesRow.holds Tryz.pinned (OpenSpec.ofChange listSharesWrong)

/-- 'footlockerlaw16.ListFull': WHATEVER THE INPUT: true; the input reads as it did. -/
def listFullSpec : ChangeSpec := { name := "listFull", fn := fun _ => fun
  | [d1, d2] => { results := [.lit (.bool true)], args := [d1, d2] }
  | _ => none }
def listFullRow : OpenClaim := { program := "ytdkjpjiljplahaagreat", sum := "3780d9736716c5f990db4b411bbf0b8115e305c545ae2b06e4ef380d7401682f", func := "footlocker/footlockerlaw16.ListFull", spec := "listFull", unfollowed := true, recurses := true, apart := false }
def ListFullSaid : Prop := listFullRow.holds Tryz.pinned (OpenSpec.ofChange listFullSpec)

/-- ITS FALSE NEIGHBOUR: 'it returns false'. Refute it at one input. -/
def listFullWrong : ChangeSpec := { name := "listFull", fn := fun _ => fun
  | [d1, d2] => { results := [.lit (.bool false)], args := [d1, d2] }
  | _ => none }
def ListFullWrongFalsely : Prop := listFullRow.holds Tryz.pinned (OpenSpec.ofChange listFullWrong)

/-- 'footlockertop.FootlockerStill': WHATEVER THE INPUT: true; the input reads as it did. -/
def footlockerStillSpec : ChangeSpec := { name := "footlockerStill", fn := fun _ => fun
  | [d] => { results := [.lit (.bool true)], args := [d] }
  | _ => none }
def footlockerStillRow : OpenClaim := { program := "ytdkjpjiljplahaagreat", sum := "3780d9736716c5f990db4b411bbf0b8115e305c545ae2b06e4ef380d7401682f", func := "footlocker/footlockertop.FootlockerStill", spec := "footlockerStill", unfollowed := true, recurses := true, apart := false }
def FootlockerStillSaid : Prop := footlockerStillRow.holds Tryz.pinned (OpenSpec.ofChange footlockerStillSpec)

/-- ITS FALSE NEIGHBOUR: 'it returns false'. Refute it at one input. -/
def footlockerStillWrong : ChangeSpec := { name := "footlockerStill", fn := fun _ => fun
  | [d] => { results := [.lit (.bool false)], args := [d] }
  | _ => none }
def FootlockerStillWrongFalsely : Prop := footlockerStillRow.holds Tryz.pinned (OpenSpec.ofChange footlockerStillWrong)

/-- 'footlockerlaw16.ListSteps': WHATEVER THE INPUT: true; the input reads as it did. -/
def listStepsSpec : ChangeSpec := { name := "listSteps", fn := fun _ => fun
  | [d] => { results := [.lit (.bool true)], args := [d] }
  | _ => none }
def listStepsRow : OpenClaim := { program := "ytdkjpjiljplahaagreat", sum := "3780d9736716c5f990db4b411bbf0b8115e305c545ae2b06e4ef380d7401682f", func := "footlocker/footlockerlaw16.ListSteps", spec := "listSteps", unfollowed := true, recurses := true, apart := false }
def ListStepsSaid : Prop := listStepsRow.holds Tryz.pinned (OpenSpec.ofChange listStepsSpec)

/-- ITS FALSE NEIGHBOUR: 'it returns false'. Refute it at one input. -/
def listStepsWrong : ChangeSpec := { name := "listSteps", fn := fun _ => fun
  | [d] => { results := [.lit (.bool false)], args := [d] }
  | _ => none }
def ListStepsWrongFalsely : Prop := listStepsRow.holds Tryz.pinned (OpenSpec.ofChange listStepsWrong)

/-- 'footlockertop.FootlockerLost': WHATEVER THE INPUT: true; the input reads as it did. -/
def footlockerLostSpec : ChangeSpec := { name := "footlockerLost", fn := fun _ => fun
  | [d] => { results := [.lit (.bool true)], args := [d] }
  | _ => none }
def footlockerLostRow : OpenClaim := { program := "ytdkjpjiljplahaagreat", sum := "3780d9736716c5f990db4b411bbf0b8115e305c545ae2b06e4ef380d7401682f", func := "footlocker/footlockertop.FootlockerLost", spec := "footlockerLost", unfollowed := true, recurses := true, apart := false }
def FootlockerLostSaid : Prop := footlockerLostRow.holds Tryz.pinned (OpenSpec.ofChange footlockerLostSpec)

/-- ITS FALSE NEIGHBOUR: 'it returns false'. Refute it at one input. -/
def footlockerLostWrong : ChangeSpec := { name := "footlockerLost", fn := fun _ => fun
  | [d] => { results := [.lit (.bool false)], args := [d] }
  | _ => none }
def FootlockerLostWrongFalsely : Prop := footlockerLostRow.holds Tryz.pinned (OpenSpec.ofChange footlockerLostWrong)

/-- 'footlockerlaw17.ShelfSpreads': WHATEVER THE INPUT: true; the input reads as it did. -/
def shelfSpreadsSpec : ChangeSpec := { name := "shelfSpreads", fn := fun _ => fun
  | [d1, d2] => { results := [.lit (.bool true)], args := [d1, d2] }
  | _ => none }
def shelfSpreadsRow : OpenClaim := { program := "ytdkjpjiljplahaagreat", sum := "3780d9736716c5f990db4b411bbf0b8115e305c545ae2b06e4ef380d7401682f", func := "footlocker/footlockerlaw17.ShelfSpreads", spec := "shelfSpreads", unfollowed := true, recurses := true, apart := false }
def ShelfSpreadsSaid : Prop := shelfSpreadsRow.holds Tryz.pinned (OpenSpec.ofChange shelfSpreadsSpec)

/-- ITS FALSE NEIGHBOUR: 'it returns false'. Refute it at one input. -/
def shelfSpreadsWrong : ChangeSpec := { name := "shelfSpreads", fn := fun _ => fun
  | [d1, d2] => { results := [.lit (.bool false)], args := [d1, d2] }
  | _ => none }
def ShelfSpreadsWrongFalsely : Prop := shelfSpreadsRow.holds Tryz.pinned (OpenSpec.ofChange shelfSpreadsWrong)

/-- 'footlockerlaw17.ShelfNone': WHATEVER THE INPUT: true; the input reads as it did. -/
def shelfNoneSpec : ChangeSpec := { name := "shelfNone", fn := fun _ => fun
  | [d1, d2] => { results := [.lit (.bool true)], args := [d1, d2] }
  | _ => none }
def shelfNoneRow : OpenClaim := { program := "ytdkjpjiljplahaagreat", sum := "3780d9736716c5f990db4b411bbf0b8115e305c545ae2b06e4ef380d7401682f", func := "footlocker/footlockerlaw17.ShelfNone", spec := "shelfNone", unfollowed := true, recurses := true, apart := false }
def ShelfNoneSaid : Prop := shelfNoneRow.holds Tryz.pinned (OpenSpec.ofChange shelfNoneSpec)

/-- ITS FALSE NEIGHBOUR: 'it returns false'. Refute it at one input. -/
def shelfNoneWrong : ChangeSpec := { name := "shelfNone", fn := fun _ => fun
  | [d1, d2] => { results := [.lit (.bool false)], args := [d1, d2] }
  | _ => none }
def ShelfNoneWrongFalsely : Prop := shelfNoneRow.holds Tryz.pinned (OpenSpec.ofChange shelfNoneWrong)

/-- 'footlockertop.FootlockerSafe': WHATEVER THE INPUT: true; the input reads as it did. -/
def footlockerSafeSpec : ChangeSpec := { name := "footlockerSafe", fn := fun _ => fun
  | [d] => { results := [.lit (.bool true)], args := [d] }
  | _ => none }
def footlockerSafeRow : OpenClaim := { program := "ytdkjpjiljplahaagreat", sum := "3780d9736716c5f990db4b411bbf0b8115e305c545ae2b06e4ef380d7401682f", func := "footlocker/footlockertop.FootlockerSafe", spec := "footlockerSafe", unfollowed := true, recurses := true, apart := false }
def FootlockerSafeSaid : Prop := footlockerSafeRow.holds Tryz.pinned (OpenSpec.ofChange footlockerSafeSpec)

/-- ITS FALSE NEIGHBOUR: 'it returns false'. Refute it at one input. -/
def footlockerSafeWrong : ChangeSpec := { name := "footlockerSafe", fn := fun _ => fun
  | [d] => { results := [.lit (.bool false)], args := [d] }
  | _ => none }
def FootlockerSafeWrongFalsely : Prop := footlockerSafeRow.holds Tryz.pinned (OpenSpec.ofChange footlockerSafeWrong)

/-- 'footlockerlaw17.ShelfApart': WHATEVER THE INPUT: true; the input reads as it did. -/
def shelfApartSpec : ChangeSpec := { name := "shelfApart", fn := fun _ => fun
  | [d1, d2] => { results := [.lit (.bool true)], args := [d1, d2] }
  | _ => none }
def shelfApartRow : OpenClaim := { program := "ytdkjpjiljplahaagreat", sum := "3780d9736716c5f990db4b411bbf0b8115e305c545ae2b06e4ef380d7401682f", func := "footlocker/footlockerlaw17.ShelfApart", spec := "shelfApart", unfollowed := true, recurses := true, apart := false }
def ShelfApartSaid : Prop := shelfApartRow.holds Tryz.pinned (OpenSpec.ofChange shelfApartSpec)

/-- ITS FALSE NEIGHBOUR: 'it returns false'. Refute it at one input. -/
def shelfApartWrong : ChangeSpec := { name := "shelfApart", fn := fun _ => fun
  | [d1, d2] => { results := [.lit (.bool false)], args := [d1, d2] }
  | _ => none }
def ShelfApartWrongFalsely : Prop := shelfApartRow.holds Tryz.pinned (OpenSpec.ofChange shelfApartWrong)

/-- 'footlockerlaw18.WorkerPlays': WHATEVER THE INPUT: true; the input reads as it did. -/
def workerPlaysSpec : ChangeSpec := { name := "workerPlays", fn := fun _ => fun
  | [d] => { results := [.lit (.bool true)], args := [d] }
  | _ => none }
def workerPlaysRow : OpenClaim := { program := "ytdkjpjiljplahaagreat", sum := "3780d9736716c5f990db4b411bbf0b8115e305c545ae2b06e4ef380d7401682f", func := "footlocker/footlockerlaw18.WorkerPlays", spec := "workerPlays", unfollowed := true, recurses := true, apart := false }
def WorkerPlaysSaid : Prop := workerPlaysRow.holds Tryz.pinned (OpenSpec.ofChange workerPlaysSpec)

/-- ITS FALSE NEIGHBOUR: 'it returns false'. Refute it at one input. -/
def workerPlaysWrong : ChangeSpec := { name := "workerPlays", fn := fun _ => fun
  | [d] => { results := [.lit (.bool false)], args := [d] }
  | _ => none }
def WorkerPlaysWrongFalsely : Prop := workerPlaysRow.holds Tryz.pinned (OpenSpec.ofChange workerPlaysWrong)

/-- 'footlockerlaw18.WorkerSteps': WHATEVER THE INPUT: true; the input reads as it did. -/
def workerStepsSpec : ChangeSpec := { name := "workerSteps", fn := fun _ => fun
  | [d] => { results := [.lit (.bool true)], args := [d] }
  | _ => none }
def workerStepsRow : OpenClaim := { program := "ytdkjpjiljplahaagreat", sum := "3780d9736716c5f990db4b411bbf0b8115e305c545ae2b06e4ef380d7401682f", func := "footlocker/footlockerlaw18.WorkerSteps", spec := "workerSteps", unfollowed := true, recurses := true, apart := false }
def WorkerStepsSaid : Prop := workerStepsRow.holds Tryz.pinned (OpenSpec.ofChange workerStepsSpec)

/-- ITS FALSE NEIGHBOUR: 'it returns false'. Refute it at one input. -/
def workerStepsWrong : ChangeSpec := { name := "workerSteps", fn := fun _ => fun
  | [d] => { results := [.lit (.bool false)], args := [d] }
  | _ => none }
def WorkerStepsWrongFalsely : Prop := workerStepsRow.holds Tryz.pinned (OpenSpec.ofChange workerStepsWrong)

/-- 'footlockerlaw18.WorkerChecks': WHATEVER THE INPUT: true; the input reads as it did. -/
def workerChecksSpec : ChangeSpec := { name := "workerChecks", fn := fun _ => fun
  | [d1, d2, d3] => { results := [.lit (.bool true)], args := [d1, d2, d3] }
  | _ => none }
def workerChecksRow : OpenClaim := { program := "ytdkjpjiljplahaagreat", sum := "3780d9736716c5f990db4b411bbf0b8115e305c545ae2b06e4ef380d7401682f", func := "footlocker/footlockerlaw18.WorkerChecks", spec := "workerChecks", unfollowed := true, recurses := true, apart := false }
def WorkerChecksSaid : Prop := workerChecksRow.holds Tryz.pinned (OpenSpec.ofChange workerChecksSpec)

/-- ITS FALSE NEIGHBOUR: 'it returns false'. Refute it at one input. -/
def workerChecksWrong : ChangeSpec := { name := "workerChecks", fn := fun _ => fun
  | [d1, d2, d3] => { results := [.lit (.bool false)], args := [d1, d2, d3] }
  | _ => none }
def WorkerChecksWrongFalsely : Prop := workerChecksRow.holds Tryz.pinned (OpenSpec.ofChange workerChecksWrong)

/-- 'footlockerlaw18.WorkerNone': WHATEVER THE INPUT: true; the input reads as it did. -/
def workerNoneSpec : ChangeSpec := { name := "workerNone", fn := fun _ => fun
  | [d] => { results := [.lit (.bool true)], args := [d] }
  | _ => none }
def workerNoneRow : OpenClaim := { program := "ytdkjpjiljplahaagreat", sum := "3780d9736716c5f990db4b411bbf0b8115e305c545ae2b06e4ef380d7401682f", func := "footlocker/footlockerlaw18.WorkerNone", spec := "workerNone", unfollowed := true, recurses := true, apart := false }
def WorkerNoneSaid : Prop := workerNoneRow.holds Tryz.pinned (OpenSpec.ofChange workerNoneSpec)

/-- ITS FALSE NEIGHBOUR: 'it returns false'. Refute it at one input. -/
def workerNoneWrong : ChangeSpec := { name := "workerNone", fn := fun _ => fun
  | [d] => { results := [.lit (.bool false)], args := [d] }
  | _ => none }
def WorkerNoneWrongFalsely : Prop := workerNoneRow.holds Tryz.pinned (OpenSpec.ofChange workerNoneWrong)

/-- 'footlockerlaw18.WorkerLater': WHATEVER THE INPUT: true; the input reads as it did. -/
def workerLaterSpec : ChangeSpec := { name := "workerLater", fn := fun _ => fun
  | [d1, d2] => { results := [.lit (.bool true)], args := [d1, d2] }
  | _ => none }
def workerLaterRow : OpenClaim := { program := "ytdkjpjiljplahaagreat", sum := "3780d9736716c5f990db4b411bbf0b8115e305c545ae2b06e4ef380d7401682f", func := "footlocker/footlockerlaw18.WorkerLater", spec := "workerLater", unfollowed := true, recurses := true, apart := false }
def WorkerLaterSaid : Prop := workerLaterRow.holds Tryz.pinned (OpenSpec.ofChange workerLaterSpec)

/-- ITS FALSE NEIGHBOUR: 'it returns false'. Refute it at one input. -/
def workerLaterWrong : ChangeSpec := { name := "workerLater", fn := fun _ => fun
  | [d1, d2] => { results := [.lit (.bool false)], args := [d1, d2] }
  | _ => none }
def WorkerLaterWrongFalsely : Prop := workerLaterRow.holds Tryz.pinned (OpenSpec.ofChange workerLaterWrong)

/-- 'footlockerlaw21.WorldTells': WHATEVER THE INPUT: true; the input reads as it did. -/
def worldTellsSpec : ChangeSpec := { name := "worldTells", fn := fun _ => fun
  | [d1, d2, d3] => { results := [.lit (.bool true)], args := [d1, d2, d3] }
  | _ => none }
def worldTellsRow : OpenClaim := { program := "ytdkjpjiljplahaagreat", sum := "3780d9736716c5f990db4b411bbf0b8115e305c545ae2b06e4ef380d7401682f", func := "footlocker/footlockerlaw21.WorldTells", spec := "worldTells", unfollowed := true, recurses := true, apart := false }
def WorldTellsSaid : Prop := worldTellsRow.holds Tryz.pinned (OpenSpec.ofChange worldTellsSpec)

/-- ITS FALSE NEIGHBOUR: 'it returns false'. Refute it at one input. -/
def worldTellsWrong : ChangeSpec := { name := "worldTells", fn := fun _ => fun
  | [d1, d2, d3] => { results := [.lit (.bool false)], args := [d1, d2, d3] }
  | _ => none }
def WorldTellsWrongFalsely : Prop := worldTellsRow.holds Tryz.pinned (OpenSpec.ofChange worldTellsWrong)

/-- 'footlockerlaw21.WorldPicks': WHATEVER THE INPUT: true; the input reads as it did. -/
def worldPicksSpec : ChangeSpec := { name := "worldPicks", fn := fun _ => fun
  | [d1, d2, d3] => { results := [.lit (.bool true)], args := [d1, d2, d3] }
  | _ => none }
def worldPicksRow : OpenClaim := { program := "ytdkjpjiljplahaagreat", sum := "3780d9736716c5f990db4b411bbf0b8115e305c545ae2b06e4ef380d7401682f", func := "footlocker/footlockerlaw21.WorldPicks", spec := "worldPicks", unfollowed := true, recurses := true, apart := false }
def WorldPicksSaid : Prop := worldPicksRow.holds Tryz.pinned (OpenSpec.ofChange worldPicksSpec)

/-- ITS FALSE NEIGHBOUR: 'it returns false'. Refute it at one input. -/
def worldPicksWrong : ChangeSpec := { name := "worldPicks", fn := fun _ => fun
  | [d1, d2, d3] => { results := [.lit (.bool false)], args := [d1, d2, d3] }
  | _ => none }
def WorldPicksWrongFalsely : Prop := worldPicksRow.holds Tryz.pinned (OpenSpec.ofChange worldPicksWrong)

/-- 'footlockerlaw21.WorldWild': WHATEVER THE INPUT: true; the input reads as it did. -/
def worldWildSpec : ChangeSpec := { name := "worldWild", fn := fun _ => fun
  | [d1, d2, d3] => { results := [.lit (.bool true)], args := [d1, d2, d3] }
  | _ => none }
def worldWildRow : OpenClaim := { program := "ytdkjpjiljplahaagreat", sum := "3780d9736716c5f990db4b411bbf0b8115e305c545ae2b06e4ef380d7401682f", func := "footlocker/footlockerlaw21.WorldWild", spec := "worldWild", unfollowed := true, recurses := true, apart := false }
def WorldWildSaid : Prop := worldWildRow.holds Tryz.pinned (OpenSpec.ofChange worldWildSpec)

/-- ITS FALSE NEIGHBOUR: 'it returns false'. Refute it at one input. -/
def worldWildWrong : ChangeSpec := { name := "worldWild", fn := fun _ => fun
  | [d1, d2, d3] => { results := [.lit (.bool false)], args := [d1, d2, d3] }
  | _ => none }
def WorldWildWrongFalsely : Prop := worldWildRow.holds Tryz.pinned (OpenSpec.ofChange worldWildWrong)

/-- 'footlockerlaw21.WorldRounds': WHATEVER THE INPUT: true; the input reads as it did. -/
def worldRoundsSpec : ChangeSpec := { name := "worldRounds", fn := fun _ => fun
  | [d1, d2, d3] => { results := [.lit (.bool true)], args := [d1, d2, d3] }
  | _ => none }
def worldRoundsRow : OpenClaim := { program := "ytdkjpjiljplahaagreat", sum := "3780d9736716c5f990db4b411bbf0b8115e305c545ae2b06e4ef380d7401682f", func := "footlocker/footlockerlaw21.WorldRounds", spec := "worldRounds", unfollowed := true, recurses := true, apart := false }
def WorldRoundsSaid : Prop := worldRoundsRow.holds Tryz.pinned (OpenSpec.ofChange worldRoundsSpec)

/-- ITS FALSE NEIGHBOUR: 'it returns false'. Refute it at one input. -/
def worldRoundsWrong : ChangeSpec := { name := "worldRounds", fn := fun _ => fun
  | [d1, d2, d3] => { results := [.lit (.bool false)], args := [d1, d2, d3] }
  | _ => none }
def WorldRoundsWrongFalsely : Prop := worldRoundsRow.holds Tryz.pinned (OpenSpec.ofChange worldRoundsWrong)

/-- 'footlockerlaw21.WorldSame': WHATEVER THE INPUT: true; the input reads as it did. -/
def worldSameSpec : ChangeSpec := { name := "worldSame", fn := fun _ => fun
  | [d1, d2, d3] => { results := [.lit (.bool true)], args := [d1, d2, d3] }
  | _ => none }
def worldSameRow : OpenClaim := { program := "ytdkjpjiljplahaagreat", sum := "3780d9736716c5f990db4b411bbf0b8115e305c545ae2b06e4ef380d7401682f", func := "footlocker/footlockerlaw21.WorldSame", spec := "worldSame", unfollowed := true, recurses := true, apart := false }
def WorldSameSaid : Prop := worldSameRow.holds Tryz.pinned (OpenSpec.ofChange worldSameSpec)

/-- ITS FALSE NEIGHBOUR: 'it returns false'. Refute it at one input. -/
def worldSameWrong : ChangeSpec := { name := "worldSame", fn := fun _ => fun
  | [d1, d2, d3] => { results := [.lit (.bool false)], args := [d1, d2, d3] }
  | _ => none }
def WorldSameWrongFalsely : Prop := worldSameRow.holds Tryz.pinned (OpenSpec.ofChange worldSameWrong)

/-- 'footlockerlaw21.WorldSees': WHATEVER THE INPUT: true; the input reads as it did. -/
def worldSeesSpec : ChangeSpec := { name := "worldSees", fn := fun _ => fun
  | [d1, d2, d3] => { results := [.lit (.bool true)], args := [d1, d2, d3] }
  | _ => none }
def worldSeesRow : OpenClaim := { program := "ytdkjpjiljplahaagreat", sum := "3780d9736716c5f990db4b411bbf0b8115e305c545ae2b06e4ef380d7401682f", func := "footlocker/footlockerlaw21.WorldSees", spec := "worldSees", unfollowed := true, recurses := true, apart := false }
def WorldSeesSaid : Prop := worldSeesRow.holds Tryz.pinned (OpenSpec.ofChange worldSeesSpec)

/-- ITS FALSE NEIGHBOUR: 'it returns false'. Refute it at one input. -/
def worldSeesWrong : ChangeSpec := { name := "worldSees", fn := fun _ => fun
  | [d1, d2, d3] => { results := [.lit (.bool false)], args := [d1, d2, d3] }
  | _ => none }
def WorldSeesWrongFalsely : Prop := worldSeesRow.holds Tryz.pinned (OpenSpec.ofChange worldSeesWrong)

/-- 'footlockerlaw21.WorldNone': WHATEVER THE INPUT: true; the input reads as it did. -/
def worldNoneSpec : ChangeSpec := { name := "worldNone", fn := fun _ => fun
  | [d1, d2, d3] => { results := [.lit (.bool true)], args := [d1, d2, d3] }
  | _ => none }
def worldNoneRow : OpenClaim := { program := "ytdkjpjiljplahaagreat", sum := "3780d9736716c5f990db4b411bbf0b8115e305c545ae2b06e4ef380d7401682f", func := "footlocker/footlockerlaw21.WorldNone", spec := "worldNone", unfollowed := true, recurses := true, apart := false }
def WorldNoneSaid : Prop := worldNoneRow.holds Tryz.pinned (OpenSpec.ofChange worldNoneSpec)

/-- ITS FALSE NEIGHBOUR: 'it returns false'. Refute it at one input. -/
def worldNoneWrong : ChangeSpec := { name := "worldNone", fn := fun _ => fun
  | [d1, d2, d3] => { results := [.lit (.bool false)], args := [d1, d2, d3] }
  | _ => none }
def WorldNoneWrongFalsely : Prop := worldNoneRow.holds Tryz.pinned (OpenSpec.ofChange worldNoneWrong)

/-- 'footlockertop.FootlockerQuiet': WHATEVER THE INPUT: true; the input reads as it did. -/
def footlockerQuietSpec : ChangeSpec := { name := "footlockerQuiet", fn := fun _ => fun
  | [d] => { results := [.lit (.bool true)], args := [d] }
  | _ => none }
def footlockerQuietRow : OpenClaim := { program := "ytdkjpjiljplahaagreat", sum := "3780d9736716c5f990db4b411bbf0b8115e305c545ae2b06e4ef380d7401682f", func := "footlocker/footlockertop.FootlockerQuiet", spec := "footlockerQuiet", unfollowed := true, recurses := true, apart := false }
def FootlockerQuietSaid : Prop := footlockerQuietRow.holds Tryz.pinned (OpenSpec.ofChange footlockerQuietSpec)

/-- ITS FALSE NEIGHBOUR: 'it returns false'. Refute it at one input. -/
def footlockerQuietWrong : ChangeSpec := { name := "footlockerQuiet", fn := fun _ => fun
  | [d] => { results := [.lit (.bool false)], args := [d] }
  | _ => none }
def FootlockerQuietWrongFalsely : Prop := footlockerQuietRow.holds Tryz.pinned (OpenSpec.ofChange footlockerQuietWrong)

/- THE SECOND FORM. 'bulk': how many values and letters a reading holds, each counted each time it is reached (what is shared counts as often as it is met; a slice's spare places count too). A statement '..UptoSaid' is the law's where the arguments, and the package variables that the reading takes, are together of bulk at most 1048576: NARROWER than '..Said'. Prove '..Said' where nothing that the law and all that it calls make is longer than what came in: it says more and counts as full. Else prove '..UptoSaid'. A law counts once. -/
mutual
def uptoBulk {H : Type} : DataW H → Nat
  | .lit (.string bytes) => bytes.length + 1
  | .lit _ => 1
  | .nil => 1
  | .ptr d => uptoBulk d + 1
  | .slice elems spare => uptoBulkAll elems + uptoBulkAll spare + 1
  | .agg parts => uptoBulkAll parts + 1
  | .iface _ d => uptoBulk d + 1
  | .map entries => uptoBulkEntries entries + 1
  | .held _ => 1
def uptoBulkAll {H : Type} : List (DataW H) → Nat
  | [] => 0
  | d :: r => uptoBulk d + uptoBulkAll r
def uptoBulkEntries {H : Type} : List (Lit × DataW H) → Nat
  | [] => 0
  | x :: r => uptoBulkEntry x + uptoBulkEntries r
def uptoBulkEntry {H : Type} : Lit × DataW H → Nat
  | (.string bytes, d) => bytes.length + uptoBulk d + 1
  | (_, d) => uptoBulk d + 1
 end
def uptoSmall : (H : Type) → List (DataW H) → Bool := fun _ ds => decide (uptoBulkAll ds ≤ 1048576)
def OpenSpec.upto (s : _root_.Go.ChangeSpec) : _root_.Go.OpenSpec := { _root_.Go.OpenSpec.ofChange s with cond := some uptoSmall }

/-- 'footlockerlaw16.ListLinks', WHERE WHAT IT READS IS OF BULK AT MOST 1048576: true; the input reads as it did. -/
def listLinksUptoRow : OpenClaim := { program := "ytdkjpjiljplahaagreat", sum := "3780d9736716c5f990db4b411bbf0b8115e305c545ae2b06e4ef380d7401682f", func := "footlocker/footlockerlaw16.ListLinks", spec := "listLinks", unfollowed := true, recurses := true, apart := false, narrowed := true }
def ListLinksUptoSaid : Prop := listLinksUptoRow.holds Tryz.pinned (OpenSpec.upto listLinksSpec)

/-- 'footlockerlaw16.ListNone', WHERE WHAT IT READS IS OF BULK AT MOST 1048576: true; the input reads as it did. -/
def listNoneUptoRow : OpenClaim := { program := "ytdkjpjiljplahaagreat", sum := "3780d9736716c5f990db4b411bbf0b8115e305c545ae2b06e4ef380d7401682f", func := "footlocker/footlockerlaw16.ListNone", spec := "listNone", unfollowed := true, recurses := true, apart := false, narrowed := true }
def ListNoneUptoSaid : Prop := listNoneUptoRow.holds Tryz.pinned (OpenSpec.upto listNoneSpec)

/-- 'footlockerlaw16.ListOnce', WHERE WHAT IT READS IS OF BULK AT MOST 1048576: true; the input reads as it did. -/
def listOnceUptoRow : OpenClaim := { program := "ytdkjpjiljplahaagreat", sum := "3780d9736716c5f990db4b411bbf0b8115e305c545ae2b06e4ef380d7401682f", func := "footlocker/footlockerlaw16.ListOnce", spec := "listOnce", unfollowed := true, recurses := true, apart := false, narrowed := true }
def ListOnceUptoSaid : Prop := listOnceUptoRow.holds Tryz.pinned (OpenSpec.upto listOnceSpec)

/-- 'footlockerlaw16.ListStuck', WHERE WHAT IT READS IS OF BULK AT MOST 1048576: true; the input reads as it did. -/
def listStuckUptoRow : OpenClaim := { program := "ytdkjpjiljplahaagreat", sum := "3780d9736716c5f990db4b411bbf0b8115e305c545ae2b06e4ef380d7401682f", func := "footlocker/footlockerlaw16.ListStuck", spec := "listStuck", unfollowed := true, recurses := true, apart := false, narrowed := true }
def ListStuckUptoSaid : Prop := listStuckUptoRow.holds Tryz.pinned (OpenSpec.upto listStuckSpec)

/-- 'footlockerlaw16.ListAlone', WHERE WHAT IT READS IS OF BULK AT MOST 1048576: true; the input reads as it did. -/
def listAloneUptoRow : OpenClaim := { program := "ytdkjpjiljplahaagreat", sum := "3780d9736716c5f990db4b411bbf0b8115e305c545ae2b06e4ef380d7401682f", func := "footlocker/footlockerlaw16.ListAlone", spec := "listAlone", unfollowed := true, recurses := true, apart := false, narrowed := true }
def ListAloneUptoSaid : Prop := listAloneUptoRow.holds Tryz.pinned (OpenSpec.upto listAloneSpec)

/-- 'footlockerlaw16.ListShares', WHERE WHAT IT READS IS OF BULK AT MOST 1048576: true; the input reads as it did. -/
def listSharesUptoRow : OpenClaim := { program := "ytdkjpjiljplahaagreat", sum := "3780d9736716c5f990db4b411bbf0b8115e305c545ae2b06e4ef380d7401682f", func := "footlocker/footlockerlaw16.ListShares", spec := "listShares", unfollowed := true, recurses := true, apart := false, narrowed := true }
def ListSharesUptoSaid : Prop := listSharesUptoRow.holds Tryz.pinned (OpenSpec.upto listSharesSpec)

/-- 'footlockerlaw16.ListFull', WHERE WHAT IT READS IS OF BULK AT MOST 1048576: true; the input reads as it did. -/
def listFullUptoRow : OpenClaim := { program := "ytdkjpjiljplahaagreat", sum := "3780d9736716c5f990db4b411bbf0b8115e305c545ae2b06e4ef380d7401682f", func := "footlocker/footlockerlaw16.ListFull", spec := "listFull", unfollowed := true, recurses := true, apart := false, narrowed := true }
def ListFullUptoSaid : Prop := listFullUptoRow.holds Tryz.pinned (OpenSpec.upto listFullSpec)

/-- 'footlockertop.FootlockerStill', WHERE WHAT IT READS IS OF BULK AT MOST 1048576: true; the input reads as it did. -/
def footlockerStillUptoRow : OpenClaim := { program := "ytdkjpjiljplahaagreat", sum := "3780d9736716c5f990db4b411bbf0b8115e305c545ae2b06e4ef380d7401682f", func := "footlocker/footlockertop.FootlockerStill", spec := "footlockerStill", unfollowed := true, recurses := true, apart := false, narrowed := true }
def FootlockerStillUptoSaid : Prop := footlockerStillUptoRow.holds Tryz.pinned (OpenSpec.upto footlockerStillSpec)

/-- 'footlockerlaw16.ListSteps', WHERE WHAT IT READS IS OF BULK AT MOST 1048576: true; the input reads as it did. -/
def listStepsUptoRow : OpenClaim := { program := "ytdkjpjiljplahaagreat", sum := "3780d9736716c5f990db4b411bbf0b8115e305c545ae2b06e4ef380d7401682f", func := "footlocker/footlockerlaw16.ListSteps", spec := "listSteps", unfollowed := true, recurses := true, apart := false, narrowed := true }
def ListStepsUptoSaid : Prop := listStepsUptoRow.holds Tryz.pinned (OpenSpec.upto listStepsSpec)

/-- 'footlockertop.FootlockerLost', WHERE WHAT IT READS IS OF BULK AT MOST 1048576: true; the input reads as it did. -/
def footlockerLostUptoRow : OpenClaim := { program := "ytdkjpjiljplahaagreat", sum := "3780d9736716c5f990db4b411bbf0b8115e305c545ae2b06e4ef380d7401682f", func := "footlocker/footlockertop.FootlockerLost", spec := "footlockerLost", unfollowed := true, recurses := true, apart := false, narrowed := true }
def FootlockerLostUptoSaid : Prop := footlockerLostUptoRow.holds Tryz.pinned (OpenSpec.upto footlockerLostSpec)

/-- 'footlockerlaw17.ShelfSpreads', WHERE WHAT IT READS IS OF BULK AT MOST 1048576: true; the input reads as it did. -/
def shelfSpreadsUptoRow : OpenClaim := { program := "ytdkjpjiljplahaagreat", sum := "3780d9736716c5f990db4b411bbf0b8115e305c545ae2b06e4ef380d7401682f", func := "footlocker/footlockerlaw17.ShelfSpreads", spec := "shelfSpreads", unfollowed := true, recurses := true, apart := false, narrowed := true }
def ShelfSpreadsUptoSaid : Prop := shelfSpreadsUptoRow.holds Tryz.pinned (OpenSpec.upto shelfSpreadsSpec)

/-- 'footlockerlaw17.ShelfNone', WHERE WHAT IT READS IS OF BULK AT MOST 1048576: true; the input reads as it did. -/
def shelfNoneUptoRow : OpenClaim := { program := "ytdkjpjiljplahaagreat", sum := "3780d9736716c5f990db4b411bbf0b8115e305c545ae2b06e4ef380d7401682f", func := "footlocker/footlockerlaw17.ShelfNone", spec := "shelfNone", unfollowed := true, recurses := true, apart := false, narrowed := true }
def ShelfNoneUptoSaid : Prop := shelfNoneUptoRow.holds Tryz.pinned (OpenSpec.upto shelfNoneSpec)

/-- 'footlockertop.FootlockerSafe', WHERE WHAT IT READS IS OF BULK AT MOST 1048576: true; the input reads as it did. -/
def footlockerSafeUptoRow : OpenClaim := { program := "ytdkjpjiljplahaagreat", sum := "3780d9736716c5f990db4b411bbf0b8115e305c545ae2b06e4ef380d7401682f", func := "footlocker/footlockertop.FootlockerSafe", spec := "footlockerSafe", unfollowed := true, recurses := true, apart := false, narrowed := true }
def FootlockerSafeUptoSaid : Prop := footlockerSafeUptoRow.holds Tryz.pinned (OpenSpec.upto footlockerSafeSpec)

/-- 'footlockerlaw17.ShelfApart', WHERE WHAT IT READS IS OF BULK AT MOST 1048576: true; the input reads as it did. -/
def shelfApartUptoRow : OpenClaim := { program := "ytdkjpjiljplahaagreat", sum := "3780d9736716c5f990db4b411bbf0b8115e305c545ae2b06e4ef380d7401682f", func := "footlocker/footlockerlaw17.ShelfApart", spec := "shelfApart", unfollowed := true, recurses := true, apart := false, narrowed := true }
def ShelfApartUptoSaid : Prop := shelfApartUptoRow.holds Tryz.pinned (OpenSpec.upto shelfApartSpec)

/-- 'footlockerlaw18.WorkerPlays', WHERE WHAT IT READS IS OF BULK AT MOST 1048576: true; the input reads as it did. -/
def workerPlaysUptoRow : OpenClaim := { program := "ytdkjpjiljplahaagreat", sum := "3780d9736716c5f990db4b411bbf0b8115e305c545ae2b06e4ef380d7401682f", func := "footlocker/footlockerlaw18.WorkerPlays", spec := "workerPlays", unfollowed := true, recurses := true, apart := false, narrowed := true }
def WorkerPlaysUptoSaid : Prop := workerPlaysUptoRow.holds Tryz.pinned (OpenSpec.upto workerPlaysSpec)

/-- 'footlockerlaw18.WorkerSteps', WHERE WHAT IT READS IS OF BULK AT MOST 1048576: true; the input reads as it did. -/
def workerStepsUptoRow : OpenClaim := { program := "ytdkjpjiljplahaagreat", sum := "3780d9736716c5f990db4b411bbf0b8115e305c545ae2b06e4ef380d7401682f", func := "footlocker/footlockerlaw18.WorkerSteps", spec := "workerSteps", unfollowed := true, recurses := true, apart := false, narrowed := true }
def WorkerStepsUptoSaid : Prop := workerStepsUptoRow.holds Tryz.pinned (OpenSpec.upto workerStepsSpec)

/-- 'footlockerlaw18.WorkerChecks', WHERE WHAT IT READS IS OF BULK AT MOST 1048576: true; the input reads as it did. -/
def workerChecksUptoRow : OpenClaim := { program := "ytdkjpjiljplahaagreat", sum := "3780d9736716c5f990db4b411bbf0b8115e305c545ae2b06e4ef380d7401682f", func := "footlocker/footlockerlaw18.WorkerChecks", spec := "workerChecks", unfollowed := true, recurses := true, apart := false, narrowed := true }
def WorkerChecksUptoSaid : Prop := workerChecksUptoRow.holds Tryz.pinned (OpenSpec.upto workerChecksSpec)

/-- 'footlockerlaw18.WorkerNone', WHERE WHAT IT READS IS OF BULK AT MOST 1048576: true; the input reads as it did. -/
def workerNoneUptoRow : OpenClaim := { program := "ytdkjpjiljplahaagreat", sum := "3780d9736716c5f990db4b411bbf0b8115e305c545ae2b06e4ef380d7401682f", func := "footlocker/footlockerlaw18.WorkerNone", spec := "workerNone", unfollowed := true, recurses := true, apart := false, narrowed := true }
def WorkerNoneUptoSaid : Prop := workerNoneUptoRow.holds Tryz.pinned (OpenSpec.upto workerNoneSpec)

/-- 'footlockerlaw18.WorkerLater', WHERE WHAT IT READS IS OF BULK AT MOST 1048576: true; the input reads as it did. -/
def workerLaterUptoRow : OpenClaim := { program := "ytdkjpjiljplahaagreat", sum := "3780d9736716c5f990db4b411bbf0b8115e305c545ae2b06e4ef380d7401682f", func := "footlocker/footlockerlaw18.WorkerLater", spec := "workerLater", unfollowed := true, recurses := true, apart := false, narrowed := true }
def WorkerLaterUptoSaid : Prop := workerLaterUptoRow.holds Tryz.pinned (OpenSpec.upto workerLaterSpec)

/-- 'footlockerlaw21.WorldTells', WHERE WHAT IT READS IS OF BULK AT MOST 1048576: true; the input reads as it did. -/
def worldTellsUptoRow : OpenClaim := { program := "ytdkjpjiljplahaagreat", sum := "3780d9736716c5f990db4b411bbf0b8115e305c545ae2b06e4ef380d7401682f", func := "footlocker/footlockerlaw21.WorldTells", spec := "worldTells", unfollowed := true, recurses := true, apart := false, narrowed := true }
def WorldTellsUptoSaid : Prop := worldTellsUptoRow.holds Tryz.pinned (OpenSpec.upto worldTellsSpec)

/-- 'footlockerlaw21.WorldPicks', WHERE WHAT IT READS IS OF BULK AT MOST 1048576: true; the input reads as it did. -/
def worldPicksUptoRow : OpenClaim := { program := "ytdkjpjiljplahaagreat", sum := "3780d9736716c5f990db4b411bbf0b8115e305c545ae2b06e4ef380d7401682f", func := "footlocker/footlockerlaw21.WorldPicks", spec := "worldPicks", unfollowed := true, recurses := true, apart := false, narrowed := true }
def WorldPicksUptoSaid : Prop := worldPicksUptoRow.holds Tryz.pinned (OpenSpec.upto worldPicksSpec)

/-- 'footlockerlaw21.WorldWild', WHERE WHAT IT READS IS OF BULK AT MOST 1048576: true; the input reads as it did. -/
def worldWildUptoRow : OpenClaim := { program := "ytdkjpjiljplahaagreat", sum := "3780d9736716c5f990db4b411bbf0b8115e305c545ae2b06e4ef380d7401682f", func := "footlocker/footlockerlaw21.WorldWild", spec := "worldWild", unfollowed := true, recurses := true, apart := false, narrowed := true }
def WorldWildUptoSaid : Prop := worldWildUptoRow.holds Tryz.pinned (OpenSpec.upto worldWildSpec)

/-- 'footlockerlaw21.WorldRounds', WHERE WHAT IT READS IS OF BULK AT MOST 1048576: true; the input reads as it did. -/
def worldRoundsUptoRow : OpenClaim := { program := "ytdkjpjiljplahaagreat", sum := "3780d9736716c5f990db4b411bbf0b8115e305c545ae2b06e4ef380d7401682f", func := "footlocker/footlockerlaw21.WorldRounds", spec := "worldRounds", unfollowed := true, recurses := true, apart := false, narrowed := true }
def WorldRoundsUptoSaid : Prop := worldRoundsUptoRow.holds Tryz.pinned (OpenSpec.upto worldRoundsSpec)

/-- 'footlockerlaw21.WorldSame', WHERE WHAT IT READS IS OF BULK AT MOST 1048576: true; the input reads as it did. -/
def worldSameUptoRow : OpenClaim := { program := "ytdkjpjiljplahaagreat", sum := "3780d9736716c5f990db4b411bbf0b8115e305c545ae2b06e4ef380d7401682f", func := "footlocker/footlockerlaw21.WorldSame", spec := "worldSame", unfollowed := true, recurses := true, apart := false, narrowed := true }
def WorldSameUptoSaid : Prop := worldSameUptoRow.holds Tryz.pinned (OpenSpec.upto worldSameSpec)

/-- 'footlockerlaw21.WorldSees', WHERE WHAT IT READS IS OF BULK AT MOST 1048576: true; the input reads as it did. -/
def worldSeesUptoRow : OpenClaim := { program := "ytdkjpjiljplahaagreat", sum := "3780d9736716c5f990db4b411bbf0b8115e305c545ae2b06e4ef380d7401682f", func := "footlocker/footlockerlaw21.WorldSees", spec := "worldSees", unfollowed := true, recurses := true, apart := false, narrowed := true }
def WorldSeesUptoSaid : Prop := worldSeesUptoRow.holds Tryz.pinned (OpenSpec.upto worldSeesSpec)

/-- 'footlockerlaw21.WorldNone', WHERE WHAT IT READS IS OF BULK AT MOST 1048576: true; the input reads as it did. -/
def worldNoneUptoRow : OpenClaim := { program := "ytdkjpjiljplahaagreat", sum := "3780d9736716c5f990db4b411bbf0b8115e305c545ae2b06e4ef380d7401682f", func := "footlocker/footlockerlaw21.WorldNone", spec := "worldNone", unfollowed := true, recurses := true, apart := false, narrowed := true }
def WorldNoneUptoSaid : Prop := worldNoneUptoRow.holds Tryz.pinned (OpenSpec.upto worldNoneSpec)

/-- 'footlockertop.FootlockerQuiet', WHERE WHAT IT READS IS OF BULK AT MOST 1048576: true; the input reads as it did. -/
def footlockerQuietUptoRow : OpenClaim := { program := "ytdkjpjiljplahaagreat", sum := "3780d9736716c5f990db4b411bbf0b8115e305c545ae2b06e4ef380d7401682f", func := "footlocker/footlockertop.FootlockerQuiet", spec := "footlockerQuiet", unfollowed := true, recurses := true, apart := false, narrowed := true }
def FootlockerQuietUptoSaid : Prop := footlockerQuietUptoRow.holds Tryz.pinned (OpenSpec.upto footlockerQuietSpec)

end Rows
end Go.Proofs.YtdkjpjiljplahaaGreat
