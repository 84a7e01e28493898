/-
  No cell of these rows narrows 'for every input' (looked for: loops, veiled, ifaces, maps, wideKeys, modest, calm, conditions, laid).
  DERIVED. THE GIVEN ROWS OF THIS SEAT. 9 by the template 'for every input the law returns true; each argument reads behind the call as it read before'; 0 by the template 'total and deterministic' (their statements: YtaekiecidbhjhaaTotals.lean).
  GIVEN WITH THE SEED: the statements are not yours to turn. If you find one false, say at which input.
  Laid BY PROGRAM, IN A SANDBOX (cutbox-rows.mjs): the forced cells as the released guide's own fill.sh prints them over the translation 1f62143e85b6e20a… (all of the seat's roots in one cut). By AI agents, Wed Nov 11 2026. No macro, syntax, notation, axiom, sorry.
-/
import Derived.Test.YtaekiecidbhjhaaChecked
import GoSem.Claim
import GoSem.ClaimJoined
import GoSem.ClaimMapViews
import Derived.JoinedTies
import Derived.KernelRfl
namespace Go.Proofs.Ytaekiecidbhjhaa
/- THE CELL 'sum', in the pinned program and in every row, IS THE sha256 OF THE DUMP (.gsa) THAT YtaekiecidbhjhaaProg.lean LOADS. Nothing in Lean hashes anything: it is a label: what it is worth is what the hold of that sum in a sandbox is worth. -/
noncomputable def Try.pinned : Pinned := { name := "ytaekiecidbhjhaa", sum := "1f62143e85b6e20afb6bb4d55dcc1d919ff1f5ff4af64c2df7c40a84da315ad6", checked := Try.checked }
namespace Rows
def none {H : Type} : Left H := { results := [], args := [] }

/-- 'chapletlaw09.MemdirParts': WHATEVER THE INPUT: true; the input reads as it did. -/
def memdirPartsSpec : ChangeSpec := { name := "memdirParts", fn := fun _ => fun
  | [d] => { results := [.lit (.bool true)], args := [d] }
  | _ => none }
def memdirPartsRow : OpenClaim := { program := "ytaekiecidbhjhaa", sum := "1f62143e85b6e20afb6bb4d55dcc1d919ff1f5ff4af64c2df7c40a84da315ad6", func := "chaplet/chapletlaw09.MemdirParts", spec := "memdirParts", apart := false }
def MemdirPartsSaid : Prop := memdirPartsRow.holds Try.pinned (OpenSpec.ofChange memdirPartsSpec)

/-- ITS FALSE NEIGHBOUR: 'it returns false'. Refute it at one input. -/
def memdirPartsWrong : ChangeSpec := { name := "memdirParts", fn := fun _ => fun
  | [d] => { results := [.lit (.bool false)], args := [d] }
  | _ => none }
def MemdirPartsWrongFalsely : Prop := memdirPartsRow.holds Try.pinned (OpenSpec.ofChange memdirPartsWrong)

/-- 'chapletlaw04.QueuePlays': WHATEVER THE INPUT: true; the input reads as it did. -/
def queuePlaysSpec : ChangeSpec := { name := "queuePlays", fn := fun _ => fun
  | [d1, d2, d3] => { results := [.lit (.bool true)], args := [d1, d2, d3] }
  | _ => none }
def queuePlaysRow : OpenClaim := { program := "ytaekiecidbhjhaa", sum := "1f62143e85b6e20afb6bb4d55dcc1d919ff1f5ff4af64c2df7c40a84da315ad6", func := "chaplet/chapletlaw04.QueuePlays", spec := "queuePlays", apart := false }
def QueuePlaysSaid : Prop := queuePlaysRow.holds Try.pinned (OpenSpec.ofChange queuePlaysSpec)

/-- ITS FALSE NEIGHBOUR: 'it returns false'. Refute it at one input. -/
def queuePlaysWrong : ChangeSpec := { name := "queuePlays", fn := fun _ => fun
  | [d1, d2, d3] => { results := [.lit (.bool false)], args := [d1, d2, d3] }
  | _ => none }
def QueuePlaysWrongFalsely : Prop := queuePlaysRow.holds Try.pinned (OpenSpec.ofChange queuePlaysWrong)

/-- 'chapletlaw05.PoolPlays': WHATEVER THE INPUT: true; the input reads as it did. -/
def poolPlaysSpec : ChangeSpec := { name := "poolPlays", fn := fun _ => fun
  | [d1, d2, d3, d4] => { results := [.lit (.bool true)], args := [d1, d2, d3, d4] }
  | _ => none }
def poolPlaysRow : OpenClaim := { program := "ytaekiecidbhjhaa", sum := "1f62143e85b6e20afb6bb4d55dcc1d919ff1f5ff4af64c2df7c40a84da315ad6", func := "chaplet/chapletlaw05.PoolPlays", spec := "poolPlays", apart := false }
def PoolPlaysSaid : Prop := poolPlaysRow.holds Try.pinned (OpenSpec.ofChange poolPlaysSpec)

/-- ITS FALSE NEIGHBOUR: 'it returns false'. Refute it at one input. -/
def poolPlaysWrong : ChangeSpec := { name := "poolPlays", fn := fun _ => fun
  | [d1, d2, d3, d4] => { results := [.lit (.bool false)], args := [d1, d2, d3, d4] }
  | _ => none }
def PoolPlaysWrongFalsely : Prop := poolPlaysRow.holds Try.pinned (OpenSpec.ofChange poolPlaysWrong)

/-- 'chapletlaw09.MemdirErrors': WHATEVER THE INPUT: true; the input reads as it did. -/
def memdirErrorsSpec : ChangeSpec := { name := "memdirErrors", fn := fun _ => fun
  | [d1, d2] => { results := [.lit (.bool true)], args := [d1, d2] }
  | _ => none }
def memdirErrorsRow : OpenClaim := { program := "ytaekiecidbhjhaa", sum := "1f62143e85b6e20afb6bb4d55dcc1d919ff1f5ff4af64c2df7c40a84da315ad6", func := "chaplet/chapletlaw09.MemdirErrors", spec := "memdirErrors", apart := false }
def MemdirErrorsSaid : Prop := memdirErrorsRow.holds Try.pinned (OpenSpec.ofChange memdirErrorsSpec)

/-- ITS FALSE NEIGHBOUR: 'it returns false'. Refute it at one input. -/
def memdirErrorsWrong : ChangeSpec := { name := "memdirErrors", fn := fun _ => fun
  | [d1, d2] => { results := [.lit (.bool false)], args := [d1, d2] }
  | _ => none }
def MemdirErrorsWrongFalsely : Prop := memdirErrorsRow.holds Try.pinned (OpenSpec.ofChange memdirErrorsWrong)

/-- 'chapletlaw02.PlanTells': WHATEVER THE INPUT: true; the input reads as it did. -/
def planTellsSpec : ChangeSpec := { name := "planTells", fn := fun _ => fun
  | [d1, d2, d3, d4, d5, d6, d7] => { results := [.lit (.bool true)], args := [d1, d2, d3, d4, d5, d6, d7] }
  | _ => none }
def planTellsRow : OpenClaim := { program := "ytaekiecidbhjhaa", sum := "1f62143e85b6e20afb6bb4d55dcc1d919ff1f5ff4af64c2df7c40a84da315ad6", func := "chaplet/chapletlaw02.PlanTells", spec := "planTells", unfollowed := true, recurses := true, apart := false }
def PlanTellsSaid : Prop := planTellsRow.holds Try.pinned (OpenSpec.ofChange planTellsSpec)

/-- ITS FALSE NEIGHBOUR: 'it returns false'. Refute it at one input. -/
def planTellsWrong : ChangeSpec := { name := "planTells", fn := fun _ => fun
  | [d1, d2, d3, d4, d5, d6, d7] => { results := [.lit (.bool false)], args := [d1, d2, d3, d4, d5, d6, d7] }
  | _ => none }
def PlanTellsWrongFalsely : Prop := planTellsRow.holds Try.pinned (OpenSpec.ofChange planTellsWrong)

/-- 'chapletlaw09.MemdirPlays': WHATEVER THE INPUT: true; the input reads as it did. -/
def memdirPlaysSpec : ChangeSpec := { name := "memdirPlays", fn := fun _ => fun
  | [d1, d2, d3, d4, d5, d6, d7] => { results := [.lit (.bool true)], args := [d1, d2, d3, d4, d5, d6, d7] }
  | _ => none }
def memdirPlaysRow : OpenClaim := { program := "ytaekiecidbhjhaa", sum := "1f62143e85b6e20afb6bb4d55dcc1d919ff1f5ff4af64c2df7c40a84da315ad6", func := "chaplet/chapletlaw09.MemdirPlays", spec := "memdirPlays", apart := false }
def MemdirPlaysSaid : Prop := memdirPlaysRow.holds Try.pinned (OpenSpec.ofChange memdirPlaysSpec)

/-- ITS FALSE NEIGHBOUR: 'it returns false'. Refute it at one input. -/
def memdirPlaysWrong : ChangeSpec := { name := "memdirPlays", fn := fun _ => fun
  | [d1, d2, d3, d4, d5, d6, d7] => { results := [.lit (.bool false)], args := [d1, d2, d3, d4, d5, d6, d7] }
  | _ => none }
def MemdirPlaysWrongFalsely : Prop := memdirPlaysRow.holds Try.pinned (OpenSpec.ofChange memdirPlaysWrong)

/-- 'chapletlaw09.MemdirRows': WHATEVER THE INPUT: true; the input reads as it did. -/
def memdirRowsSpec : ChangeSpec := { name := "memdirRows", fn := fun _ => fun
  | [d1, d2] => { results := [.lit (.bool true)], args := [d1, d2] }
  | _ => none }
def memdirRowsRow : OpenClaim := { program := "ytaekiecidbhjhaa", sum := "1f62143e85b6e20afb6bb4d55dcc1d919ff1f5ff4af64c2df7c40a84da315ad6", func := "chaplet/chapletlaw09.MemdirRows", spec := "memdirRows", apart := false }
def MemdirRowsSaid : Prop := memdirRowsRow.holds Try.pinned (OpenSpec.ofChange memdirRowsSpec)

/-- ITS FALSE NEIGHBOUR: 'it returns false'. Refute it at one input. -/
def memdirRowsWrong : ChangeSpec := { name := "memdirRows", fn := fun _ => fun
  | [d1, d2] => { results := [.lit (.bool false)], args := [d1, d2] }
  | _ => none }
def MemdirRowsWrongFalsely : Prop := memdirRowsRow.holds Try.pinned (OpenSpec.ofChange memdirRowsWrong)

/-- 'chapletlaw01.CrcSums': WHATEVER THE INPUT: true; the input reads as it did. -/
def crcSumsSpec : ChangeSpec := { name := "crcSums", fn := fun _ => fun
  | [d1, d2, d3, d4] => { results := [.lit (.bool true)], args := [d1, d2, d3, d4] }
  | _ => none }
def crcSumsRow : OpenClaim := { program := "ytaekiecidbhjhaa", sum := "1f62143e85b6e20afb6bb4d55dcc1d919ff1f5ff4af64c2df7c40a84da315ad6", func := "chaplet/chapletlaw01.CrcSums", spec := "crcSums", apart := false }
def CrcSumsSaid : Prop := crcSumsRow.holds Try.pinned (OpenSpec.ofChange crcSumsSpec)

/-- ITS FALSE NEIGHBOUR: 'it returns false'. Refute it at one input. -/
def crcSumsWrong : ChangeSpec := { name := "crcSums", fn := fun _ => fun
  | [d1, d2, d3, d4] => { results := [.lit (.bool false)], args := [d1, d2, d3, d4] }
  | _ => none }
def CrcSumsWrongFalsely : Prop := crcSumsRow.holds Try.pinned (OpenSpec.ofChange crcSumsWrong)

/-- 'chapletlaw03.PacketPacks': WHATEVER THE INPUT: true; the input reads as it did. -/
def packetPacksSpec : ChangeSpec := { name := "packetPacks", fn := fun _ => fun
  | [d1, d2, d3, d4] => { results := [.lit (.bool true)], args := [d1, d2, d3, d4] }
  | _ => none }
def packetPacksRow : OpenClaim := { program := "ytaekiecidbhjhaa", sum := "1f62143e85b6e20afb6bb4d55dcc1d919ff1f5ff4af64c2df7c40a84da315ad6", func := "chaplet/chapletlaw03.PacketPacks", spec := "packetPacks", apart := false }
def PacketPacksSaid : Prop := packetPacksRow.holds Try.pinned (OpenSpec.ofChange packetPacksSpec)

/-- ITS FALSE NEIGHBOUR: 'it returns false'. Refute it at one input. -/
def packetPacksWrong : ChangeSpec := { name := "packetPacks", fn := fun _ => fun
  | [d1, d2, d3, d4] => { results := [.lit (.bool false)], args := [d1, d2, d3, d4] }
  | _ => none }
def PacketPacksWrongFalsely : Prop := packetPacksRow.holds Try.pinned (OpenSpec.ofChange packetPacksWrong)

/- THE SECOND FORM. 'bulk': how many values and letters a reading holds, each counted each time it is reached (what is shared counts as often as it is met; a slice's spare places count too). A statement '..UptoSaid' is the law's where the arguments, and the package variables that the reading takes, are together of bulk at most 1048576: NARROWER than '..Said'. Prove '..Said' where nothing that the law and all that it calls make is longer than what came in: it says more and counts as full. Else prove '..UptoSaid'. A law counts once. -/
mutual
def uptoBulk {H : Type} : DataW H → Nat
  | .lit (.string bytes) => bytes.length + 1
  | .lit _ => 1
  | .nil => 1
  | .ptr d => uptoBulk d + 1
  | .slice elems spare => uptoBulkAll elems + uptoBulkAll spare + 1
  | .agg parts => uptoBulkAll parts + 1
  | .iface _ d => uptoBulk d + 1
  | .map entries => uptoBulkEntries entries + 1
  | .held _ => 1
def uptoBulkAll {H : Type} : List (DataW H) → Nat
  | [] => 0
  | d :: r => uptoBulk d + uptoBulkAll r
def uptoBulkEntries {H : Type} : List (Lit × DataW H) → Nat
  | [] => 0
  | x :: r => uptoBulkEntry x + uptoBulkEntries r
def uptoBulkEntry {H : Type} : Lit × DataW H → Nat
  | (.string bytes, d) => bytes.length + uptoBulk d + 1
  | (_, d) => uptoBulk d + 1
 end
def uptoSmall : (H : Type) → List (DataW H) → Bool := fun _ ds => decide (uptoBulkAll ds ≤ 1048576)
def OpenSpec.upto (s : _root_.Go.ChangeSpec) : _root_.Go.OpenSpec := { _root_.Go.OpenSpec.ofChange s with cond := some uptoSmall }

/-- 'chapletlaw09.MemdirParts', WHERE WHAT IT READS IS OF BULK AT MOST 1048576: true; the input reads as it did. -/
def memdirPartsUptoRow : OpenClaim := { program := "ytaekiecidbhjhaa", sum := "1f62143e85b6e20afb6bb4d55dcc1d919ff1f5ff4af64c2df7c40a84da315ad6", func := "chaplet/chapletlaw09.MemdirParts", spec := "memdirParts", apart := false, narrowed := true }
def MemdirPartsUptoSaid : Prop := memdirPartsUptoRow.holds Try.pinned (OpenSpec.upto memdirPartsSpec)

/-- 'chapletlaw04.QueuePlays', WHERE WHAT IT READS IS OF BULK AT MOST 1048576: true; the input reads as it did. -/
def queuePlaysUptoRow : OpenClaim := { program := "ytaekiecidbhjhaa", sum := "1f62143e85b6e20afb6bb4d55dcc1d919ff1f5ff4af64c2df7c40a84da315ad6", func := "chaplet/chapletlaw04.QueuePlays", spec := "queuePlays", apart := false, narrowed := true }
def QueuePlaysUptoSaid : Prop := queuePlaysUptoRow.holds Try.pinned (OpenSpec.upto queuePlaysSpec)

/-- 'chapletlaw05.PoolPlays', WHERE WHAT IT READS IS OF BULK AT MOST 1048576: true; the input reads as it did. -/
def poolPlaysUptoRow : OpenClaim := { program := "ytaekiecidbhjhaa", sum := "1f62143e85b6e20afb6bb4d55dcc1d919ff1f5ff4af64c2df7c40a84da315ad6", func := "chaplet/chapletlaw05.PoolPlays", spec := "poolPlays", apart := false, narrowed := true }
def PoolPlaysUptoSaid : Prop := poolPlaysUptoRow.holds Try.pinned (OpenSpec.upto poolPlaysSpec)

/-- 'chapletlaw09.MemdirErrors', WHERE WHAT IT READS IS OF BULK AT MOST 1048576: true; the input reads as it did. -/
def memdirErrorsUptoRow : OpenClaim := { program := "ytaekiecidbhjhaa", sum := "1f62143e85b6e20afb6bb4d55dcc1d919ff1f5ff4af64c2df7c40a84da315ad6", func := "chaplet/chapletlaw09.MemdirErrors", spec := "memdirErrors", apart := false, narrowed := true }
def MemdirErrorsUptoSaid : Prop := memdirErrorsUptoRow.holds Try.pinned (OpenSpec.upto memdirErrorsSpec)

/-- 'chapletlaw02.PlanTells', WHERE WHAT IT READS IS OF BULK AT MOST 1048576: true; the input reads as it did. -/
def planTellsUptoRow : OpenClaim := { program := "ytaekiecidbhjhaa", sum := "1f62143e85b6e20afb6bb4d55dcc1d919ff1f5ff4af64c2df7c40a84da315ad6", func := "chaplet/chapletlaw02.PlanTells", spec := "planTells", unfollowed := true, recurses := true, apart := false, narrowed := true }
def PlanTellsUptoSaid : Prop := planTellsUptoRow.holds Try.pinned (OpenSpec.upto planTellsSpec)

/-- 'chapletlaw09.MemdirPlays', WHERE WHAT IT READS IS OF BULK AT MOST 1048576: true; the input reads as it did. -/
def memdirPlaysUptoRow : OpenClaim := { program := "ytaekiecidbhjhaa", sum := "1f62143e85b6e20afb6bb4d55dcc1d919ff1f5ff4af64c2df7c40a84da315ad6", func := "chaplet/chapletlaw09.MemdirPlays", spec := "memdirPlays", apart := false, narrowed := true }
def MemdirPlaysUptoSaid : Prop := memdirPlaysUptoRow.holds Try.pinned (OpenSpec.upto memdirPlaysSpec)

/-- 'chapletlaw09.MemdirRows', WHERE WHAT IT READS IS OF BULK AT MOST 1048576: true; the input reads as it did. -/
def memdirRowsUptoRow : OpenClaim := { program := "ytaekiecidbhjhaa", sum := "1f62143e85b6e20afb6bb4d55dcc1d919ff1f5ff4af64c2df7c40a84da315ad6", func := "chaplet/chapletlaw09.MemdirRows", spec := "memdirRows", apart := false, narrowed := true }
def MemdirRowsUptoSaid : Prop := memdirRowsUptoRow.holds Try.pinned (OpenSpec.upto memdirRowsSpec)

/-- 'chapletlaw01.CrcSums', WHERE WHAT IT READS IS OF BULK AT MOST 1048576: true; the input reads as it did. -/
def crcSumsUptoRow : OpenClaim := { program := "ytaekiecidbhjhaa", sum := "1f62143e85b6e20afb6bb4d55dcc1d919ff1f5ff4af64c2df7c40a84da315ad6", func := "chaplet/chapletlaw01.CrcSums", spec := "crcSums", apart := false, narrowed := true }
def CrcSumsUptoSaid : Prop := crcSumsUptoRow.holds Try.pinned (OpenSpec.upto crcSumsSpec)

/-- 'chapletlaw03.PacketPacks', WHERE WHAT IT READS IS OF BULK AT MOST 1048576: true; the input reads as it did. -/
def packetPacksUptoRow : OpenClaim := { program := "ytaekiecidbhjhaa", sum := "1f62143e85b6e20afb6bb4d55dcc1d919ff1f5ff4af64c2df7c40a84da315ad6", func := "chaplet/chapletlaw03.PacketPacks", spec := "packetPacks", apart := false, narrowed := true }
def PacketPacksUptoSaid : Prop := packetPacksUptoRow.holds Try.pinned (OpenSpec.upto packetPacksSpec)

end Rows
end Go.Proofs.Ytaekiecidbhjhaa
