/- Facts on the types of this program: each closed, by the kernel. -/
import Derived.Test.YtaekiecidbhjhaaSl
import Derived.Test.YtaekiecidbhjhaaRows
import Derived.KernelRfl
import Derived.WalkSpells
import Derived.Deep.DeepCutAuto
import Derived.Deep.CutBlock
import Derived.Deep.QuietTactic
import Derived.BigQuiet
import Derived.Deep.RegionLaw
import Derived.Deep.RegionHeld3
import Derived.Lib.Hide
namespace Go.Proofs.Ytaekiecidbhjhaa
open Go.RowKit

abbrev VI (n : Int) : Value := .int .i64 n
abbrev VB (b : Bool) : Value := .bool b
abbrev VP (b o : Nat) : Value := .pointer (some ⟨b, o, none⟩)
abbrev VNil : Value := .slice none 0 0

theorem ty_ints : SlTy Try.prog 22 3 1 8 := SlTy.of (z := VI 0) (by kernel_rfl) (by kernel_rfl) rfl (by decide) (by decide)
theorem ty_bytes : SlTy Try.prog 90 5 1 1 := SlTy.of (z := .int .u8 0) (by kernel_rfl) (by kernel_rfl) rfl (by decide) (by decide)
theorem ty_pkts : SlTy Try.prog 40 43 9 88 := SlTy.of (z := .agg #[VI 0, VI 0, VI 0, VI 0, VI 0, VI 0, VI 0, VB false, VNil]) (by kernel_rfl) (by kernel_rfl) rfl (by decide) (by decide)

theorem ty_errs : SlTy Try.prog 58 44 1 8 := SlTy.of (z := VI 0) (by kernel_rfl) (by kernel_rfl) rfl (by decide) (by decide)

def isStruct : Option TypeDesc → Bool
  | some (.struct _) => true
  | _ => false
theorem isStruct.out {d : Option TypeDesc} (h : isStruct d = true) : ∃ fs, d = some (.struct fs) := by
  unfold isStruct at h
  split at h
  · exact ⟨_, rfl⟩
  · cases h

/-- Numbers in a slice that is ours. -/
def Ints (v : Value) (xs : List Int) : HProp := Sl 3 1 v xs.length (xs.map VI)
/-- Numbers in a slice that can be read. -/
def RdI (w : World) (v : Value) (xs : List Int) : Prop := Rd w 1 v xs.length (xs.map VI)
theorem Ints.rd {w : World} {l : List HProp} {v : Value} {xs : List Int} (h : Sat w (Ints v xs :: l)) : RdI w v xs := Sl.rd h
theorem one_ints (xs : List Int) : ∀ u ∈ xs.map VI, u.oneCell' = true := by
  intro u hu
  obtain ⟨x, _, rfl⟩ := List.mem_map.1 hu
  rfl
theorem Ints.nil (w : World) (l : List HProp) (hs : Sat w l) : Sat w (Ints VNil [] :: l) := Sl.nil _ _ w l hs
end Go.Proofs.Ytaekiecidbhjhaa
