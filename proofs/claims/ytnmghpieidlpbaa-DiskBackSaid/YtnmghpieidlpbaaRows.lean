/-
  No cell of these rows narrows 'for every input' (looked for: loops, veiled, ifaces, maps, wideKeys, modest, calm, conditions, laid).
  DERIVED. THE GIVEN ROWS OF THIS SEAT. 9 by the template 'for every input the law returns true; each argument reads behind the call as it read before'; 0 by the template 'total and deterministic' (their statements: YtnmghpieidlpbaaTotals.lean).
  GIVEN WITH THE SEED: the statements are not yours to turn. If you find one false, say at which input.
  Laid BY PROGRAM, IN A SANDBOX (cutbox-rows.mjs): the forced cells as the released guide's own fill.sh prints them over the translation a4d09079660219f0… (all of the seat's roots in one cut). By AI agents, Wed Nov 11 2026. No macro, syntax, notation, axiom, sorry.
-/
import Derived.Test.YtnmghpieidlpbaaChecked
import GoSem.Claim
import GoSem.ClaimJoined
import GoSem.ClaimMapViews
import Derived.JoinedTies
import Derived.KernelRfl
namespace Go.Proofs.Ytnmghpieidlpbaa
/- THE CELL 'sum', in the pinned program and in every row, IS THE sha256 OF THE DUMP (.gsa) THAT YtnmghpieidlpbaaProg.lean LOADS. Nothing in Lean hashes anything: it is a label: what it is worth is what the hold of that sum in a sandbox is worth. -/
noncomputable def Try.pinned : Pinned := { name := "ytnmghpieidlpbaa", sum := "a4d09079660219f0f515f9e6aee03ecf872b844099303bd60b5406f5c74a4736", checked := Try.checked }
namespace Rows
def none {H : Type} : Left H := { results := [], args := [] }

/-- 'proteuslaw28.DiskTold': WHATEVER THE INPUT: true; the input reads as it did. -/
def diskToldSpec : ChangeSpec := { name := "diskTold", fn := fun _ => fun
  | [d1, d2, d3, d4] => { results := [.lit (.bool true)], args := [d1, d2, d3, d4] }
  | _ => none }
def diskToldRow : OpenClaim := { program := "ytnmghpieidlpbaa", sum := "a4d09079660219f0f515f9e6aee03ecf872b844099303bd60b5406f5c74a4736", func := "proteus/proteuslaw28.DiskTold", spec := "diskTold", unfollowed := true, recurses := true, apart := false }
def DiskToldSaid : Prop := diskToldRow.holds Try.pinned (OpenSpec.ofChange diskToldSpec)

/-- ITS FALSE NEIGHBOUR: 'it returns false'. Refute it at one input. -/
def diskToldWrong : ChangeSpec := { name := "diskTold", fn := fun _ => fun
  | [d1, d2, d3, d4] => { results := [.lit (.bool false)], args := [d1, d2, d3, d4] }
  | _ => none }
def DiskToldWrongFalsely : Prop := diskToldRow.holds Try.pinned (OpenSpec.ofChange diskToldWrong)

/-- 'proteuslaw28.DiskOrder': WHATEVER THE INPUT: true; the input reads as it did. -/
def diskOrderSpec : ChangeSpec := { name := "diskOrder", fn := fun _ => fun
  | [d1, d2, d3, d4] => { results := [.lit (.bool true)], args := [d1, d2, d3, d4] }
  | _ => none }
def diskOrderRow : OpenClaim := { program := "ytnmghpieidlpbaa", sum := "a4d09079660219f0f515f9e6aee03ecf872b844099303bd60b5406f5c74a4736", func := "proteus/proteuslaw28.DiskOrder", spec := "diskOrder", unfollowed := true, recurses := true, apart := false }
def DiskOrderSaid : Prop := diskOrderRow.holds Try.pinned (OpenSpec.ofChange diskOrderSpec)

/-- ITS FALSE NEIGHBOUR: 'it returns false'. Refute it at one input. -/
def diskOrderWrong : ChangeSpec := { name := "diskOrder", fn := fun _ => fun
  | [d1, d2, d3, d4] => { results := [.lit (.bool false)], args := [d1, d2, d3, d4] }
  | _ => none }
def DiskOrderWrongFalsely : Prop := diskOrderRow.holds Try.pinned (OpenSpec.ofChange diskOrderWrong)

/-- 'proteuslaw28.DiskOpened': WHATEVER THE INPUT: true; the input reads as it did. -/
def diskOpenedSpec : ChangeSpec := { name := "diskOpened", fn := fun _ => fun
  | [d] => { results := [.lit (.bool true)], args := [d] }
  | _ => none }
def diskOpenedRow : OpenClaim := { program := "ytnmghpieidlpbaa", sum := "a4d09079660219f0f515f9e6aee03ecf872b844099303bd60b5406f5c74a4736", func := "proteus/proteuslaw28.DiskOpened", spec := "diskOpened", unfollowed := true, recurses := true, apart := false }
def DiskOpenedSaid : Prop := diskOpenedRow.holds Try.pinned (OpenSpec.ofChange diskOpenedSpec)

/-- ITS FALSE NEIGHBOUR: 'it returns false'. Refute it at one input. -/
def diskOpenedWrong : ChangeSpec := { name := "diskOpened", fn := fun _ => fun
  | [d] => { results := [.lit (.bool false)], args := [d] }
  | _ => none }
def DiskOpenedWrongFalsely : Prop := diskOpenedRow.holds Try.pinned (OpenSpec.ofChange diskOpenedWrong)

/-- 'proteuslaw28.DiskRoom': WHATEVER THE INPUT: true; the input reads as it did. -/
def diskRoomSpec : ChangeSpec := { name := "diskRoom", fn := fun _ => fun
  | [d1, d2] => { results := [.lit (.bool true)], args := [d1, d2] }
  | _ => none }
def diskRoomRow : OpenClaim := { program := "ytnmghpieidlpbaa", sum := "a4d09079660219f0f515f9e6aee03ecf872b844099303bd60b5406f5c74a4736", func := "proteus/proteuslaw28.DiskRoom", spec := "diskRoom", unfollowed := true, recurses := true, apart := false }
def DiskRoomSaid : Prop := diskRoomRow.holds Try.pinned (OpenSpec.ofChange diskRoomSpec)

/-- ITS FALSE NEIGHBOUR: 'it returns false'. Refute it at one input. -/
def diskRoomWrong : ChangeSpec := { name := "diskRoom", fn := fun _ => fun
  | [d1, d2] => { results := [.lit (.bool false)], args := [d1, d2] }
  | _ => none }
def DiskRoomWrongFalsely : Prop := diskRoomRow.holds Try.pinned (OpenSpec.ofChange diskRoomWrong)

/-- 'proteuslaw28.DiskSurvives': WHATEVER THE INPUT: true; the input reads as it did. -/
def diskSurvivesSpec : ChangeSpec := { name := "diskSurvives", fn := fun _ => fun
  | [d1, d2, d3] => { results := [.lit (.bool true)], args := [d1, d2, d3] }
  | _ => none }
def diskSurvivesRow : OpenClaim := { program := "ytnmghpieidlpbaa", sum := "a4d09079660219f0f515f9e6aee03ecf872b844099303bd60b5406f5c74a4736", func := "proteus/proteuslaw28.DiskSurvives", spec := "diskSurvives", unfollowed := true, recurses := true, apart := false }
def DiskSurvivesSaid : Prop := diskSurvivesRow.holds Try.pinned (OpenSpec.ofChange diskSurvivesSpec)

/-- ITS FALSE NEIGHBOUR: 'it returns false'. Refute it at one input. -/
def diskSurvivesWrong : ChangeSpec := { name := "diskSurvives", fn := fun _ => fun
  | [d1, d2, d3] => { results := [.lit (.bool false)], args := [d1, d2, d3] }
  | _ => none }
def DiskSurvivesWrongFalsely : Prop := diskSurvivesRow.holds Try.pinned (OpenSpec.ofChange diskSurvivesWrong)

/-- 'proteuslaw28.DiskLogs': WHATEVER THE INPUT: true; the input reads as it did. -/
def diskLogsSpec : ChangeSpec := { name := "diskLogs", fn := fun _ => fun
  | [d1, d2] => { results := [.lit (.bool true)], args := [d1, d2] }
  | _ => none }
def diskLogsRow : OpenClaim := { program := "ytnmghpieidlpbaa", sum := "a4d09079660219f0f515f9e6aee03ecf872b844099303bd60b5406f5c74a4736", func := "proteus/proteuslaw28.DiskLogs", spec := "diskLogs", unfollowed := true, recurses := true, apart := false }
def DiskLogsSaid : Prop := diskLogsRow.holds Try.pinned (OpenSpec.ofChange diskLogsSpec)

/-- ITS FALSE NEIGHBOUR: 'it returns false'. Refute it at one input. -/
def diskLogsWrong : ChangeSpec := { name := "diskLogs", fn := fun _ => fun
  | [d1, d2] => { results := [.lit (.bool false)], args := [d1, d2] }
  | _ => none }
def DiskLogsWrongFalsely : Prop := diskLogsRow.holds Try.pinned (OpenSpec.ofChange diskLogsWrong)

/-- 'proteuslaw28.DiskDoes': WHATEVER THE INPUT: true; the input reads as it did. -/
def diskDoesSpec : ChangeSpec := { name := "diskDoes", fn := fun _ => fun
  | [d1, d2, d3, d4] => { results := [.lit (.bool true)], args := [d1, d2, d3, d4] }
  | _ => none }
def diskDoesRow : OpenClaim := { program := "ytnmghpieidlpbaa", sum := "a4d09079660219f0f515f9e6aee03ecf872b844099303bd60b5406f5c74a4736", func := "proteus/proteuslaw28.DiskDoes", spec := "diskDoes", unfollowed := true, recurses := true, apart := false }
def DiskDoesSaid : Prop := diskDoesRow.holds Try.pinned (OpenSpec.ofChange diskDoesSpec)

/-- ITS FALSE NEIGHBOUR: 'it returns false'. Refute it at one input. -/
def diskDoesWrong : ChangeSpec := { name := "diskDoes", fn := fun _ => fun
  | [d1, d2, d3, d4] => { results := [.lit (.bool false)], args := [d1, d2, d3, d4] }
  | _ => none }
def DiskDoesWrongFalsely : Prop := diskDoesRow.holds Try.pinned (OpenSpec.ofChange diskDoesWrong)

/-- 'proteuslaw28.DiskTexts': WHATEVER THE INPUT: true; the input reads as it did. -/
def diskTextsSpec : ChangeSpec := { name := "diskTexts", fn := fun _ => fun
  | [d1, d2, d3] => { results := [.lit (.bool true)], args := [d1, d2, d3] }
  | _ => none }
def diskTextsRow : OpenClaim := { program := "ytnmghpieidlpbaa", sum := "a4d09079660219f0f515f9e6aee03ecf872b844099303bd60b5406f5c74a4736", func := "proteus/proteuslaw28.DiskTexts", spec := "diskTexts", unfollowed := true, recurses := true, apart := false }
def DiskTextsSaid : Prop := diskTextsRow.holds Try.pinned (OpenSpec.ofChange diskTextsSpec)

/-- ITS FALSE NEIGHBOUR: 'it returns false'. Refute it at one input. -/
def diskTextsWrong : ChangeSpec := { name := "diskTexts", fn := fun _ => fun
  | [d1, d2, d3] => { results := [.lit (.bool false)], args := [d1, d2, d3] }
  | _ => none }
def DiskTextsWrongFalsely : Prop := diskTextsRow.holds Try.pinned (OpenSpec.ofChange diskTextsWrong)

/-- 'proteuslaw28.DiskBack': WHATEVER THE INPUT: true; the input reads as it did. -/
def diskBackSpec : ChangeSpec := { name := "diskBack", fn := fun _ => fun
  | [d1, d2, d3, d4] => { results := [.lit (.bool true)], args := [d1, d2, d3, d4] }
  | _ => none }
def diskBackRow : OpenClaim := { program := "ytnmghpieidlpbaa", sum := "a4d09079660219f0f515f9e6aee03ecf872b844099303bd60b5406f5c74a4736", func := "proteus/proteuslaw28.DiskBack", spec := "diskBack", unfollowed := true, recurses := true, apart := false }
def DiskBackSaid : Prop := diskBackRow.holds Try.pinned (OpenSpec.ofChange diskBackSpec)

/-- ITS FALSE NEIGHBOUR: 'it returns false'. Refute it at one input. -/
def diskBackWrong : ChangeSpec := { name := "diskBack", fn := fun _ => fun
  | [d1, d2, d3, d4] => { results := [.lit (.bool false)], args := [d1, d2, d3, d4] }
  | _ => none }
def DiskBackWrongFalsely : Prop := diskBackRow.holds Try.pinned (OpenSpec.ofChange diskBackWrong)

/- THE SECOND FORM. 'bulk': how many values and letters a reading holds, each counted each time it is reached (what is shared counts as often as it is met; a slice's spare places count too). A statement '..UptoSaid' is the law's where the arguments, and the package variables that the reading takes, are together of bulk at most 1048576: NARROWER than '..Said'. Prove '..Said' where nothing that the law and all that it calls make is longer than what came in: it says more and counts as full. Else prove '..UptoSaid'. A law counts once. -/
mutual
def uptoBulk {H : Type} : DataW H → Nat
  | .lit (.string bytes) => bytes.length + 1
  | .lit _ => 1
  | .nil => 1
  | .ptr d => uptoBulk d + 1
  | .slice elems spare => uptoBulkAll elems + uptoBulkAll spare + 1
  | .agg parts => uptoBulkAll parts + 1
  | .iface _ d => uptoBulk d + 1
  | .map entries => uptoBulkEntries entries + 1
  | .held _ => 1
def uptoBulkAll {H : Type} : List (DataW H) → Nat
  | [] => 0
  | d :: r => uptoBulk d + uptoBulkAll r
def uptoBulkEntries {H : Type} : List (Lit × DataW H) → Nat
  | [] => 0
  | x :: r => uptoBulkEntry x + uptoBulkEntries r
def uptoBulkEntry {H : Type} : Lit × DataW H → Nat
  | (.string bytes, d) => bytes.length + uptoBulk d + 1
  | (_, d) => uptoBulk d + 1
 end
def uptoSmall : (H : Type) → List (DataW H) → Bool := fun _ ds => decide (uptoBulkAll ds ≤ 1048576)
def OpenSpec.upto (s : _root_.Go.ChangeSpec) : _root_.Go.OpenSpec := { _root_.Go.OpenSpec.ofChange s with cond := some uptoSmall }

/-- 'proteuslaw28.DiskTold', WHERE WHAT IT READS IS OF BULK AT MOST 1048576: true; the input reads as it did. -/
def diskToldUptoRow : OpenClaim := { program := "ytnmghpieidlpbaa", sum := "a4d09079660219f0f515f9e6aee03ecf872b844099303bd60b5406f5c74a4736", func := "proteus/proteuslaw28.DiskTold", spec := "diskTold", unfollowed := true, recurses := true, apart := false, narrowed := true }
def DiskToldUptoSaid : Prop := diskToldUptoRow.holds Try.pinned (OpenSpec.upto diskToldSpec)

/-- 'proteuslaw28.DiskOrder', WHERE WHAT IT READS IS OF BULK AT MOST 1048576: true; the input reads as it did. -/
def diskOrderUptoRow : OpenClaim := { program := "ytnmghpieidlpbaa", sum := "a4d09079660219f0f515f9e6aee03ecf872b844099303bd60b5406f5c74a4736", func := "proteus/proteuslaw28.DiskOrder", spec := "diskOrder", unfollowed := true, recurses := true, apart := false, narrowed := true }
def DiskOrderUptoSaid : Prop := diskOrderUptoRow.holds Try.pinned (OpenSpec.upto diskOrderSpec)

/-- 'proteuslaw28.DiskOpened', WHERE WHAT IT READS IS OF BULK AT MOST 1048576: true; the input reads as it did. -/
def diskOpenedUptoRow : OpenClaim := { program := "ytnmghpieidlpbaa", sum := "a4d09079660219f0f515f9e6aee03ecf872b844099303bd60b5406f5c74a4736", func := "proteus/proteuslaw28.DiskOpened", spec := "diskOpened", unfollowed := true, recurses := true, apart := false, narrowed := true }
def DiskOpenedUptoSaid : Prop := diskOpenedUptoRow.holds Try.pinned (OpenSpec.upto diskOpenedSpec)

/-- 'proteuslaw28.DiskRoom', WHERE WHAT IT READS IS OF BULK AT MOST 1048576: true; the input reads as it did. -/
def diskRoomUptoRow : OpenClaim := { program := "ytnmghpieidlpbaa", sum := "a4d09079660219f0f515f9e6aee03ecf872b844099303bd60b5406f5c74a4736", func := "proteus/proteuslaw28.DiskRoom", spec := "diskRoom", unfollowed := true, recurses := true, apart := false, narrowed := true }
def DiskRoomUptoSaid : Prop := diskRoomUptoRow.holds Try.pinned (OpenSpec.upto diskRoomSpec)

/-- 'proteuslaw28.DiskSurvives', WHERE WHAT IT READS IS OF BULK AT MOST 1048576: true; the input reads as it did. -/
def diskSurvivesUptoRow : OpenClaim := { program := "ytnmghpieidlpbaa", sum := "a4d09079660219f0f515f9e6aee03ecf872b844099303bd60b5406f5c74a4736", func := "proteus/proteuslaw28.DiskSurvives", spec := "diskSurvives", unfollowed := true, recurses := true, apart := false, narrowed := true }
def DiskSurvivesUptoSaid : Prop := diskSurvivesUptoRow.holds Try.pinned (OpenSpec.upto diskSurvivesSpec)

/-- 'proteuslaw28.DiskLogs', WHERE WHAT IT READS IS OF BULK AT MOST 1048576: true; the input reads as it did. -/
def diskLogsUptoRow : OpenClaim := { program := "ytnmghpieidlpbaa", sum := "a4d09079660219f0f515f9e6aee03ecf872b844099303bd60b5406f5c74a4736", func := "proteus/proteuslaw28.DiskLogs", spec := "diskLogs", unfollowed := true, recurses := true, apart := false, narrowed := true }
def DiskLogsUptoSaid : Prop := diskLogsUptoRow.holds Try.pinned (OpenSpec.upto diskLogsSpec)

/-- 'proteuslaw28.DiskDoes', WHERE WHAT IT READS IS OF BULK AT MOST 1048576: true; the input reads as it did. -/
def diskDoesUptoRow : OpenClaim := { program := "ytnmghpieidlpbaa", sum := "a4d09079660219f0f515f9e6aee03ecf872b844099303bd60b5406f5c74a4736", func := "proteus/proteuslaw28.DiskDoes", spec := "diskDoes", unfollowed := true, recurses := true, apart := false, narrowed := true }
def DiskDoesUptoSaid : Prop := diskDoesUptoRow.holds Try.pinned (OpenSpec.upto diskDoesSpec)

/-- 'proteuslaw28.DiskTexts', WHERE WHAT IT READS IS OF BULK AT MOST 1048576: true; the input reads as it did. -/
def diskTextsUptoRow : OpenClaim := { program := "ytnmghpieidlpbaa", sum := "a4d09079660219f0f515f9e6aee03ecf872b844099303bd60b5406f5c74a4736", func := "proteus/proteuslaw28.DiskTexts", spec := "diskTexts", unfollowed := true, recurses := true, apart := false, narrowed := true }
def DiskTextsUptoSaid : Prop := diskTextsUptoRow.holds Try.pinned (OpenSpec.upto diskTextsSpec)

/-- 'proteuslaw28.DiskBack', WHERE WHAT IT READS IS OF BULK AT MOST 1048576: true; the input reads as it did. -/
def diskBackUptoRow : OpenClaim := { program := "ytnmghpieidlpbaa", sum := "a4d09079660219f0f515f9e6aee03ecf872b844099303bd60b5406f5c74a4736", func := "proteus/proteuslaw28.DiskBack", spec := "diskBack", unfollowed := true, recurses := true, apart := false, narrowed := true }
def DiskBackUptoSaid : Prop := diskBackUptoRow.holds Try.pinned (OpenSpec.upto diskBackSpec)

end Rows
end Go.Proofs.Ytnmghpieidlpbaa
