/-
  No cell of these rows narrows 'for every input' (looked for: loops, veiled, ifaces, maps, wideKeys, modest, calm, conditions, laid).
  DERIVED. THE GIVEN ROWS OF THIS SEAT. 11 by the template 'for every input the law returns true; each argument reads behind the call as it read before'; 0 by the template 'total and deterministic' (their statements: YtjnogknjdjphaaaGreatTotals.lean).
  GIVEN WITH THE SEED: the statements are not yours to turn. If you find one false, say at which input.
  Laid BY PROGRAM, IN A SANDBOX (cutbox-rows.mjs): the forced cells as the released guide's own fill.sh prints them over the translation deb1c661e20fefdd… (all of the seat's roots in one cut). By AI agents, Wed Nov 11 2026. No macro, syntax, notation, axiom, sorry.
-/
import Derived.Test.YtjnogknjdjphaaaGreatChecked
import GoSem.Claim
import GoSem.ClaimJoined
import GoSem.ClaimMapViews
import Derived.JoinedTies
import Derived.KernelRfl
namespace Go.Proofs.YtjnogknjdjphaaaGreat
/- THE CELL 'sum', in the pinned program and in every row, IS THE sha256 OF THE DUMP (.gsa) THAT YtjnogknjdjphaaaGreatProg.lean LOADS. Nothing in Lean hashes anything: it is a label: what it is worth is what the hold of that sum in a sandbox is worth. -/
noncomputable def Tryz.pinned : Pinned := { name := "ytjnogknjdjphaaagreat", sum := "deb1c661e20fefdde294cdad120a5420720b2e93d6e3e3de0a375f8a00ad5296", checked := Tryz.checked }
namespace Rows
def none {H : Type} : Left H := { results := [], args := [] }

/-- 'solventlaw21.DurableEachDisk': WHATEVER THE INPUT: true; the input reads as it did. -/
def durableEachDiskSpec : ChangeSpec := { name := "durableEachDisk", fn := fun _ => fun
  | [d1, d2, d3, d4, d5, d6] => { results := [.lit (.bool true)], args := [d1, d2, d3, d4, d5, d6] }
  | _ => none }
def durableEachDiskRow : OpenClaim := { program := "ytjnogknjdjphaaagreat", sum := "deb1c661e20fefdde294cdad120a5420720b2e93d6e3e3de0a375f8a00ad5296", func := "solvent/solventlaw21.DurableEachDisk", spec := "durableEachDisk", unfollowed := true, recurses := true, apart := false }
def DurableEachDiskSaid : Prop := durableEachDiskRow.holds Tryz.pinned (OpenSpec.ofChange durableEachDiskSpec)

/-- ITS FALSE NEIGHBOUR: 'it returns false'. Refute it at one input. -/
def durableEachDiskWrong : ChangeSpec := { name := "durableEachDisk", fn := fun _ => fun
  | [d1, d2, d3, d4, d5, d6] => { results := [.lit (.bool false)], args := [d1, d2, d3, d4, d5, d6] }
  | _ => none }
def DurableEachDiskWrongFalsely : Prop := durableEachDiskRow.holds Tryz.pinned (OpenSpec.ofChange durableEachDiskWrong)

/-- 'solventlaw21.DurableRefuses': WHATEVER THE INPUT: true; the input reads as it did. -/
def durableRefusesSpec : ChangeSpec := { name := "durableRefuses", fn := fun _ => fun
  | [d1, d2, d3, d4] => { results := [.lit (.bool true)], args := [d1, d2, d3, d4] }
  | _ => none }
def durableRefusesRow : OpenClaim := { program := "ytjnogknjdjphaaagreat", sum := "deb1c661e20fefdde294cdad120a5420720b2e93d6e3e3de0a375f8a00ad5296", func := "solvent/solventlaw21.DurableRefuses", spec := "durableRefuses", unfollowed := true, recurses := true, apart := false }
def DurableRefusesSaid : Prop := durableRefusesRow.holds Tryz.pinned (OpenSpec.ofChange durableRefusesSpec)

/-- ITS FALSE NEIGHBOUR: 'it returns false'. Refute it at one input. -/
def durableRefusesWrong : ChangeSpec := { name := "durableRefuses", fn := fun _ => fun
  | [d1, d2, d3, d4] => { results := [.lit (.bool false)], args := [d1, d2, d3, d4] }
  | _ => none }
def DurableRefusesWrongFalsely : Prop := durableRefusesRow.holds Tryz.pinned (OpenSpec.ofChange durableRefusesWrong)

/-- 'solventlaw20.CkptPlays': WHATEVER THE INPUT: true; the input reads as it did. -/
def ckptPlaysSpec : ChangeSpec := { name := "ckptPlays", fn := fun _ => fun
  | [d1, d2] => { results := [.lit (.bool true)], args := [d1, d2] }
  | _ => none }
def ckptPlaysRow : OpenClaim := { program := "ytjnogknjdjphaaagreat", sum := "deb1c661e20fefdde294cdad120a5420720b2e93d6e3e3de0a375f8a00ad5296", func := "solvent/solventlaw20.CkptPlays", spec := "ckptPlays", inPlace := ["maps.clone"], unfollowed := true, recurses := true, apart := false }
def CkptPlaysSaid : Prop := ckptPlaysRow.holds Tryz.pinned (OpenSpec.ofChange ckptPlaysSpec)

/-- ITS FALSE NEIGHBOUR: 'it returns false'. Refute it at one input. -/
def ckptPlaysWrong : ChangeSpec := { name := "ckptPlays", fn := fun _ => fun
  | [d1, d2] => { results := [.lit (.bool false)], args := [d1, d2] }
  | _ => none }
def CkptPlaysWrongFalsely : Prop := ckptPlaysRow.holds Tryz.pinned (OpenSpec.ofChange ckptPlaysWrong)

/-- 'solventlaw20.CkptCapacityIsReached': WHATEVER THE INPUT: true; the input reads as it did. -/
def ckptCapacityIsReachedSpec : ChangeSpec := { name := "ckptCapacityIsReached", fn := fun _ => fun
  | [d1, d2] => { results := [.lit (.bool true)], args := [d1, d2] }
  | _ => none }
def ckptCapacityIsReachedRow : OpenClaim := { program := "ytjnogknjdjphaaagreat", sum := "deb1c661e20fefdde294cdad120a5420720b2e93d6e3e3de0a375f8a00ad5296", func := "solvent/solventlaw20.CkptCapacityIsReached", spec := "ckptCapacityIsReached", inPlace := ["maps.clone"], unfollowed := true, recurses := true, apart := false }
def CkptCapacityIsReachedSaid : Prop := ckptCapacityIsReachedRow.holds Tryz.pinned (OpenSpec.ofChange ckptCapacityIsReachedSpec)

/-- ITS FALSE NEIGHBOUR: 'it returns false'. Refute it at one input. -/
def ckptCapacityIsReachedWrong : ChangeSpec := { name := "ckptCapacityIsReached", fn := fun _ => fun
  | [d1, d2] => { results := [.lit (.bool false)], args := [d1, d2] }
  | _ => none }
def CkptCapacityIsReachedWrongFalsely : Prop := ckptCapacityIsReachedRow.holds Tryz.pinned (OpenSpec.ofChange ckptCapacityIsReachedWrong)

/-- 'solventlaw19.MirrorReadsMatchSpec': WHATEVER THE INPUT: true; the input reads as it did. -/
def mirrorReadsMatchSpecSpec : ChangeSpec := { name := "mirrorReadsMatchSpec", fn := fun _ => fun
  | [d1, d2, d3, d4] => { results := [.lit (.bool true)], args := [d1, d2, d3, d4] }
  | _ => none }
def mirrorReadsMatchSpecRow : OpenClaim := { program := "ytjnogknjdjphaaagreat", sum := "deb1c661e20fefdde294cdad120a5420720b2e93d6e3e3de0a375f8a00ad5296", func := "solvent/solventlaw19.MirrorReadsMatchSpec", spec := "mirrorReadsMatchSpec", inPlace := ["maps.clone"], unfollowed := true, recurses := true, apart := false }
def MirrorReadsMatchSpecSaid : Prop := mirrorReadsMatchSpecRow.holds Tryz.pinned (OpenSpec.ofChange mirrorReadsMatchSpecSpec)

/-- ITS FALSE NEIGHBOUR: 'it returns false'. Refute it at one input. -/
def mirrorReadsMatchSpecWrong : ChangeSpec := { name := "mirrorReadsMatchSpec", fn := fun _ => fun
  | [d1, d2, d3, d4] => { results := [.lit (.bool false)], args := [d1, d2, d3, d4] }
  | _ => none }
def MirrorReadsMatchSpecWrongFalsely : Prop := mirrorReadsMatchSpecRow.holds Tryz.pinned (OpenSpec.ofChange mirrorReadsMatchSpecWrong)

/-- 'solventlaw19.MirrorLasts': WHATEVER THE INPUT: true; the input reads as it did. -/
def mirrorLastsSpec : ChangeSpec := { name := "mirrorLasts", fn := fun _ => fun
  | [d1, d2, d3] => { results := [.lit (.bool true)], args := [d1, d2, d3] }
  | _ => none }
def mirrorLastsRow : OpenClaim := { program := "ytjnogknjdjphaaagreat", sum := "deb1c661e20fefdde294cdad120a5420720b2e93d6e3e3de0a375f8a00ad5296", func := "solvent/solventlaw19.MirrorLasts", spec := "mirrorLasts", inPlace := ["maps.clone"], unfollowed := true, recurses := true, apart := false }
def MirrorLastsSaid : Prop := mirrorLastsRow.holds Tryz.pinned (OpenSpec.ofChange mirrorLastsSpec)

/-- ITS FALSE NEIGHBOUR: 'it returns false'. Refute it at one input. -/
def mirrorLastsWrong : ChangeSpec := { name := "mirrorLasts", fn := fun _ => fun
  | [d1, d2, d3] => { results := [.lit (.bool false)], args := [d1, d2, d3] }
  | _ => none }
def MirrorLastsWrongFalsely : Prop := mirrorLastsRow.holds Tryz.pinned (OpenSpec.ofChange mirrorLastsWrong)

/-- 'solventlaw19.MirrorOneSuffices': WHATEVER THE INPUT: true; the input reads as it did. -/
def mirrorOneSufficesSpec : ChangeSpec := { name := "mirrorOneSuffices", fn := fun _ => fun
  | [d1, d2, d3, d4] => { results := [.lit (.bool true)], args := [d1, d2, d3, d4] }
  | _ => none }
def mirrorOneSufficesRow : OpenClaim := { program := "ytjnogknjdjphaaagreat", sum := "deb1c661e20fefdde294cdad120a5420720b2e93d6e3e3de0a375f8a00ad5296", func := "solvent/solventlaw19.MirrorOneSuffices", spec := "mirrorOneSuffices", inPlace := ["maps.clone"], unfollowed := true, recurses := true, apart := false }
def MirrorOneSufficesSaid : Prop := mirrorOneSufficesRow.holds Tryz.pinned (OpenSpec.ofChange mirrorOneSufficesSpec)

/-- ITS FALSE NEIGHBOUR: 'it returns false'. Refute it at one input. -/
def mirrorOneSufficesWrong : ChangeSpec := { name := "mirrorOneSuffices", fn := fun _ => fun
  | [d1, d2, d3, d4] => { results := [.lit (.bool false)], args := [d1, d2, d3, d4] }
  | _ => none }
def MirrorOneSufficesWrongFalsely : Prop := mirrorOneSufficesRow.holds Tryz.pinned (OpenSpec.ofChange mirrorOneSufficesWrong)

/-- 'solventlaw19.MirrorMatchesSpec': WHATEVER THE INPUT: true; the input reads as it did. -/
def mirrorMatchesSpecSpec : ChangeSpec := { name := "mirrorMatchesSpec", fn := fun _ => fun
  | [d1, d2] => { results := [.lit (.bool true)], args := [d1, d2] }
  | _ => none }
def mirrorMatchesSpecRow : OpenClaim := { program := "ytjnogknjdjphaaagreat", sum := "deb1c661e20fefdde294cdad120a5420720b2e93d6e3e3de0a375f8a00ad5296", func := "solvent/solventlaw19.MirrorMatchesSpec", spec := "mirrorMatchesSpec", inPlace := ["maps.clone"], unfollowed := true, recurses := true, apart := false }
def MirrorMatchesSpecSaid : Prop := mirrorMatchesSpecRow.holds Tryz.pinned (OpenSpec.ofChange mirrorMatchesSpecSpec)

/-- ITS FALSE NEIGHBOUR: 'it returns false'. Refute it at one input. -/
def mirrorMatchesSpecWrong : ChangeSpec := { name := "mirrorMatchesSpec", fn := fun _ => fun
  | [d1, d2] => { results := [.lit (.bool false)], args := [d1, d2] }
  | _ => none }
def MirrorMatchesSpecWrongFalsely : Prop := mirrorMatchesSpecRow.holds Tryz.pinned (OpenSpec.ofChange mirrorMatchesSpecWrong)

/-- 'solventlaw19.MirrorSyncs': WHATEVER THE INPUT: true; the input reads as it did. -/
def mirrorSyncsSpec : ChangeSpec := { name := "mirrorSyncs", fn := fun _ => fun
  | [d1, d2] => { results := [.lit (.bool true)], args := [d1, d2] }
  | _ => none }
def mirrorSyncsRow : OpenClaim := { program := "ytjnogknjdjphaaagreat", sum := "deb1c661e20fefdde294cdad120a5420720b2e93d6e3e3de0a375f8a00ad5296", func := "solvent/solventlaw19.MirrorSyncs", spec := "mirrorSyncs", inPlace := ["maps.clone"], unfollowed := true, recurses := true, apart := false }
def MirrorSyncsSaid : Prop := mirrorSyncsRow.holds Tryz.pinned (OpenSpec.ofChange mirrorSyncsSpec)

/-- ITS FALSE NEIGHBOUR: 'it returns false'. Refute it at one input. -/
def mirrorSyncsWrong : ChangeSpec := { name := "mirrorSyncs", fn := fun _ => fun
  | [d1, d2] => { results := [.lit (.bool false)], args := [d1, d2] }
  | _ => none }
def MirrorSyncsWrongFalsely : Prop := mirrorSyncsRow.holds Tryz.pinned (OpenSpec.ofChange mirrorSyncsWrong)

/-- 'solventlaw21.DurableKeeps': WHATEVER THE INPUT: true; the input reads as it did. -/
def durableKeepsSpec : ChangeSpec := { name := "durableKeeps", fn := fun _ => fun
  | [d1, d2, d3, d4, d5, d6, d7, d8] => { results := [.lit (.bool true)], args := [d1, d2, d3, d4, d5, d6, d7, d8] }
  | _ => none }
def durableKeepsRow : OpenClaim := { program := "ytjnogknjdjphaaagreat", sum := "deb1c661e20fefdde294cdad120a5420720b2e93d6e3e3de0a375f8a00ad5296", func := "solvent/solventlaw21.DurableKeeps", spec := "durableKeeps", unfollowed := true, recurses := true, apart := false }
def DurableKeepsSaid : Prop := durableKeepsRow.holds Tryz.pinned (OpenSpec.ofChange durableKeepsSpec)

/-- ITS FALSE NEIGHBOUR: 'it returns false'. Refute it at one input. -/
def durableKeepsWrong : ChangeSpec := { name := "durableKeeps", fn := fun _ => fun
  | [d1, d2, d3, d4, d5, d6, d7, d8] => { results := [.lit (.bool false)], args := [d1, d2, d3, d4, d5, d6, d7, d8] }
  | _ => none }
def DurableKeepsWrongFalsely : Prop := durableKeepsRow.holds Tryz.pinned (OpenSpec.ofChange durableKeepsWrong)

/-- 'solventlaw21.DurableGenerations': WHATEVER THE INPUT: true; the input reads as it did. -/
def durableGenerationsSpec : ChangeSpec := { name := "durableGenerations", fn := fun _ => fun
  | [d1, d2, d3] => { results := [.lit (.bool true)], args := [d1, d2, d3] }
  | _ => none }
def durableGenerationsRow : OpenClaim := { program := "ytjnogknjdjphaaagreat", sum := "deb1c661e20fefdde294cdad120a5420720b2e93d6e3e3de0a375f8a00ad5296", func := "solvent/solventlaw21.DurableGenerations", spec := "durableGenerations", inPlace := ["maps.clone"], unfollowed := true, recurses := true, apart := false }
def DurableGenerationsSaid : Prop := durableGenerationsRow.holds Tryz.pinned (OpenSpec.ofChange durableGenerationsSpec)

/-- ITS FALSE NEIGHBOUR: 'it returns false'. Refute it at one input. -/
def durableGenerationsWrong : ChangeSpec := { name := "durableGenerations", fn := fun _ => fun
  | [d1, d2, d3] => { results := [.lit (.bool false)], args := [d1, d2, d3] }
  | _ => none }
def DurableGenerationsWrongFalsely : Prop := durableGenerationsRow.holds Tryz.pinned (OpenSpec.ofChange durableGenerationsWrong)

/- THE SECOND FORM. 'bulk': how many values and letters a reading holds, each counted each time it is reached (what is shared counts as often as it is met; a slice's spare places count too). A statement '..UptoSaid' is the law's where the arguments, and the package variables that the reading takes, are together of bulk at most 1048576: NARROWER than '..Said'. Prove '..Said' where nothing that the law and all that it calls make is longer than what came in: it says more and counts as full. Else prove '..UptoSaid'. A law counts once. -/
mutual
def uptoBulk {H : Type} : DataW H → Nat
  | .lit (.string bytes) => bytes.length + 1
  | .lit _ => 1
  | .nil => 1
  | .ptr d => uptoBulk d + 1
  | .slice elems spare => uptoBulkAll elems + uptoBulkAll spare + 1
  | .agg parts => uptoBulkAll parts + 1
  | .iface _ d => uptoBulk d + 1
  | .map entries => uptoBulkEntries entries + 1
  | .held _ => 1
def uptoBulkAll {H : Type} : List (DataW H) → Nat
  | [] => 0
  | d :: r => uptoBulk d + uptoBulkAll r
def uptoBulkEntries {H : Type} : List (Lit × DataW H) → Nat
  | [] => 0
  | x :: r => uptoBulkEntry x + uptoBulkEntries r
def uptoBulkEntry {H : Type} : Lit × DataW H → Nat
  | (.string bytes, d) => bytes.length + uptoBulk d + 1
  | (_, d) => uptoBulk d + 1
 end
def uptoSmall : (H : Type) → List (DataW H) → Bool := fun _ ds => decide (uptoBulkAll ds ≤ 1048576)
def OpenSpec.upto (s : _root_.Go.ChangeSpec) : _root_.Go.OpenSpec := { _root_.Go.OpenSpec.ofChange s with cond := some uptoSmall }

/-- 'solventlaw21.DurableEachDisk', WHERE WHAT IT READS IS OF BULK AT MOST 1048576: true; the input reads as it did. -/
def durableEachDiskUptoRow : OpenClaim := { program := "ytjnogknjdjphaaagreat", sum := "deb1c661e20fefdde294cdad120a5420720b2e93d6e3e3de0a375f8a00ad5296", func := "solvent/solventlaw21.DurableEachDisk", spec := "durableEachDisk", unfollowed := true, recurses := true, apart := false, narrowed := true }
def DurableEachDiskUptoSaid : Prop := durableEachDiskUptoRow.holds Tryz.pinned (OpenSpec.upto durableEachDiskSpec)

/-- 'solventlaw21.DurableRefuses', WHERE WHAT IT READS IS OF BULK AT MOST 1048576: true; the input reads as it did. -/
def durableRefusesUptoRow : OpenClaim := { program := "ytjnogknjdjphaaagreat", sum := "deb1c661e20fefdde294cdad120a5420720b2e93d6e3e3de0a375f8a00ad5296", func := "solvent/solventlaw21.DurableRefuses", spec := "durableRefuses", unfollowed := true, recurses := true, apart := false, narrowed := true }
def DurableRefusesUptoSaid : Prop := durableRefusesUptoRow.holds Tryz.pinned (OpenSpec.upto durableRefusesSpec)

/-- 'solventlaw20.CkptPlays', WHERE WHAT IT READS IS OF BULK AT MOST 1048576: true; the input reads as it did. -/
def ckptPlaysUptoRow : OpenClaim := { program := "ytjnogknjdjphaaagreat", sum := "deb1c661e20fefdde294cdad120a5420720b2e93d6e3e3de0a375f8a00ad5296", func := "solvent/solventlaw20.CkptPlays", spec := "ckptPlays", inPlace := ["maps.clone"], unfollowed := true, recurses := true, apart := false, narrowed := true }
def CkptPlaysUptoSaid : Prop := ckptPlaysUptoRow.holds Tryz.pinned (OpenSpec.upto ckptPlaysSpec)

/-- 'solventlaw20.CkptCapacityIsReached', WHERE WHAT IT READS IS OF BULK AT MOST 1048576: true; the input reads as it did. -/
def ckptCapacityIsReachedUptoRow : OpenClaim := { program := "ytjnogknjdjphaaagreat", sum := "deb1c661e20fefdde294cdad120a5420720b2e93d6e3e3de0a375f8a00ad5296", func := "solvent/solventlaw20.CkptCapacityIsReached", spec := "ckptCapacityIsReached", inPlace := ["maps.clone"], unfollowed := true, recurses := true, apart := false, narrowed := true }
def CkptCapacityIsReachedUptoSaid : Prop := ckptCapacityIsReachedUptoRow.holds Tryz.pinned (OpenSpec.upto ckptCapacityIsReachedSpec)

/-- 'solventlaw19.MirrorReadsMatchSpec', WHERE WHAT IT READS IS OF BULK AT MOST 1048576: true; the input reads as it did. -/
def mirrorReadsMatchSpecUptoRow : OpenClaim := { program := "ytjnogknjdjphaaagreat", sum := "deb1c661e20fefdde294cdad120a5420720b2e93d6e3e3de0a375f8a00ad5296", func := "solvent/solventlaw19.MirrorReadsMatchSpec", spec := "mirrorReadsMatchSpec", inPlace := ["maps.clone"], unfollowed := true, recurses := true, apart := false, narrowed := true }
def MirrorReadsMatchSpecUptoSaid : Prop := mirrorReadsMatchSpecUptoRow.holds Tryz.pinned (OpenSpec.upto mirrorReadsMatchSpecSpec)

/-- 'solventlaw19.MirrorLasts', WHERE WHAT IT READS IS OF BULK AT MOST 1048576: true; the input reads as it did. -/
def mirrorLastsUptoRow : OpenClaim := { program := "ytjnogknjdjphaaagreat", sum := "deb1c661e20fefdde294cdad120a5420720b2e93d6e3e3de0a375f8a00ad5296", func := "solvent/solventlaw19.MirrorLasts", spec := "mirrorLasts", inPlace := ["maps.clone"], unfollowed := true, recurses := true, apart := false, narrowed := true }
def MirrorLastsUptoSaid : Prop := mirrorLastsUptoRow.holds Tryz.pinned (OpenSpec.upto mirrorLastsSpec)

/-- 'solventlaw19.MirrorOneSuffices', WHERE WHAT IT READS IS OF BULK AT MOST 1048576: true; the input reads as it did. -/
def mirrorOneSufficesUptoRow : OpenClaim := { program := "ytjnogknjdjphaaagreat", sum := "deb1c661e20fefdde294cdad120a5420720b2e93d6e3e3de0a375f8a00ad5296", func := "solvent/solventlaw19.MirrorOneSuffices", spec := "mirrorOneSuffices", inPlace := ["maps.clone"], unfollowed := true, recurses := true, apart := false, narrowed := true }
def MirrorOneSufficesUptoSaid : Prop := mirrorOneSufficesUptoRow.holds Tryz.pinned (OpenSpec.upto mirrorOneSufficesSpec)

/-- 'solventlaw19.MirrorMatchesSpec', WHERE WHAT IT READS IS OF BULK AT MOST 1048576: true; the input reads as it did. -/
def mirrorMatchesSpecUptoRow : OpenClaim := { program := "ytjnogknjdjphaaagreat", sum := "deb1c661e20fefdde294cdad120a5420720b2e93d6e3e3de0a375f8a00ad5296", func := "solvent/solventlaw19.MirrorMatchesSpec", spec := "mirrorMatchesSpec", inPlace := ["maps.clone"], unfollowed := true, recurses := true, apart := false, narrowed := true }
def MirrorMatchesSpecUptoSaid : Prop := mirrorMatchesSpecUptoRow.holds Tryz.pinned (OpenSpec.upto mirrorMatchesSpecSpec)

/-- 'solventlaw19.MirrorSyncs', WHERE WHAT IT READS IS OF BULK AT MOST 1048576: true; the input reads as it did. -/
def mirrorSyncsUptoRow : OpenClaim := { program := "ytjnogknjdjphaaagreat", sum := "deb1c661e20fefdde294cdad120a5420720b2e93d6e3e3de0a375f8a00ad5296", func := "solvent/solventlaw19.MirrorSyncs", spec := "mirrorSyncs", inPlace := ["maps.clone"], unfollowed := true, recurses := true, apart := false, narrowed := true }
def MirrorSyncsUptoSaid : Prop := mirrorSyncsUptoRow.holds Tryz.pinned (OpenSpec.upto mirrorSyncsSpec)

/-- 'solventlaw21.DurableKeeps', WHERE WHAT IT READS IS OF BULK AT MOST 1048576: true; the input reads as it did. -/
def durableKeepsUptoRow : OpenClaim := { program := "ytjnogknjdjphaaagreat", sum := "deb1c661e20fefdde294cdad120a5420720b2e93d6e3e3de0a375f8a00ad5296", func := "solvent/solventlaw21.DurableKeeps", spec := "durableKeeps", unfollowed := true, recurses := true, apart := false, narrowed := true }
def DurableKeepsUptoSaid : Prop := durableKeepsUptoRow.holds Tryz.pinned (OpenSpec.upto durableKeepsSpec)

/-- 'solventlaw21.DurableGenerations', WHERE WHAT IT READS IS OF BULK AT MOST 1048576: true; the input reads as it did. -/
def durableGenerationsUptoRow : OpenClaim := { program := "ytjnogknjdjphaaagreat", sum := "deb1c661e20fefdde294cdad120a5420720b2e93d6e3e3de0a375f8a00ad5296", func := "solvent/solventlaw21.DurableGenerations", spec := "durableGenerations", inPlace := ["maps.clone"], unfollowed := true, recurses := true, apart := false, narrowed := true }
def DurableGenerationsUptoSaid : Prop := durableGenerationsUptoRow.holds Tryz.pinned (OpenSpec.upto durableGenerationsSpec)

end Rows
end Go.Proofs.YtjnogknjdjphaaaGreat
