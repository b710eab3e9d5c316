/-
  No cell of these rows narrows 'for every input' (looked for: loops, veiled, ifaces, maps, wideKeys, modest, calm, conditions, laid).
  DERIVED. THE GIVEN ROWS OF THIS SEAT. 4 by the template 'for every input the law returns true; each argument reads behind the call as it read before'; 0 by the template 'total and deterministic' (their statements: YtdhcgfdnhlhapaaTotals.lean).
  GIVEN WITH THE SEED: the statements are not yours to turn. If you find one false, say at which input.
  Laid BY PROGRAM, IN A SANDBOX (cutbox-rows.mjs): the forced cells as the released guide's own fill.sh prints them over the translation e4ea72cdc79b99bf… (all of the seat's roots in one cut). By AI agents, Wed Nov 11 2026. No macro, syntax, notation, axiom, sorry.
-/
import Derived.Test.YtdhcgfdnhlhapaaChecked
import GoSem.Claim
import GoSem.ClaimJoined
import GoSem.ClaimMapViews
import Derived.JoinedTies
import Derived.KernelRfl
namespace Go.Proofs.Ytdhcgfdnhlhapaa
/- THE CELL 'sum', in the pinned program and in every row, IS THE sha256 OF THE DUMP (.gsa) THAT YtdhcgfdnhlhapaaProg.lean LOADS. Nothing in Lean hashes anything: it is a label: what it is worth is what the hold of that sum in a sandbox is worth. -/
noncomputable def Try.pinned : Pinned := { name := "ytdhcgfdnhlhapaa", sum := "e4ea72cdc79b99bf416f909a72d559fa7d38c039d11dcc69df2c3d4fd1c83bfb", checked := Try.checked }
namespace Rows
def none {H : Type} : Left H := { results := [], args := [] }

/-- 'reedpipelaw21.TnsbitsNone': WHATEVER THE INPUT: true; the input reads as it did. -/
def tnsbitsNoneSpec : ChangeSpec := { name := "tnsbitsNone", fn := fun _ => fun
  | [d1, d2] => { results := [.lit (.bool true)], args := [d1, d2] }
  | _ => none }
def tnsbitsNoneRow : OpenClaim := { program := "ytdhcgfdnhlhapaa", sum := "e4ea72cdc79b99bf416f909a72d559fa7d38c039d11dcc69df2c3d4fd1c83bfb", func := "reedpipe/reedpipelaw21.TnsbitsNone", spec := "tnsbitsNone", unfollowed := true, recurses := true, apart := false }
def TnsbitsNoneSaid : Prop := tnsbitsNoneRow.holds Try.pinned (OpenSpec.ofChange tnsbitsNoneSpec)

/-- ITS FALSE NEIGHBOUR: 'it returns false'. Refute it at one input. -/
def tnsbitsNoneWrong : ChangeSpec := { name := "tnsbitsNone", fn := fun _ => fun
  | [d1, d2] => { results := [.lit (.bool false)], args := [d1, d2] }
  | _ => none }
def TnsbitsNoneWrongFalsely : Prop := tnsbitsNoneRow.holds Try.pinned (OpenSpec.ofChange tnsbitsNoneWrong)

/-- 'reedpipelaw21.TnsbitsNarrow': WHATEVER THE INPUT: true; the input reads as it did. -/
def tnsbitsNarrowSpec : ChangeSpec := { name := "tnsbitsNarrow", fn := fun _ => fun
  | [d1, d2] => { results := [.lit (.bool true)], args := [d1, d2] }
  | _ => none }
def tnsbitsNarrowRow : OpenClaim := { program := "ytdhcgfdnhlhapaa", sum := "e4ea72cdc79b99bf416f909a72d559fa7d38c039d11dcc69df2c3d4fd1c83bfb", func := "reedpipe/reedpipelaw21.TnsbitsNarrow", spec := "tnsbitsNarrow", unfollowed := true, recurses := true, apart := false }
def TnsbitsNarrowSaid : Prop := tnsbitsNarrowRow.holds Try.pinned (OpenSpec.ofChange tnsbitsNarrowSpec)

/-- ITS FALSE NEIGHBOUR: 'it returns false'. Refute it at one input. -/
def tnsbitsNarrowWrong : ChangeSpec := { name := "tnsbitsNarrow", fn := fun _ => fun
  | [d1, d2] => { results := [.lit (.bool false)], args := [d1, d2] }
  | _ => none }
def TnsbitsNarrowWrongFalsely : Prop := tnsbitsNarrowRow.holds Try.pinned (OpenSpec.ofChange tnsbitsNarrowWrong)

/-- 'reedpipelaw21.TnsbitsNames': WHATEVER THE INPUT: true; the input reads as it did. -/
def tnsbitsNamesSpec : ChangeSpec := { name := "tnsbitsNames", fn := fun _ => fun
  | [] => { results := [.lit (.bool true)], args := [] }
  | _ => none }
def tnsbitsNamesRow : OpenClaim := { program := "ytdhcgfdnhlhapaa", sum := "e4ea72cdc79b99bf416f909a72d559fa7d38c039d11dcc69df2c3d4fd1c83bfb", func := "reedpipe/reedpipelaw21.TnsbitsNames", spec := "tnsbitsNames", unfollowed := true, recurses := true, apart := false }
def TnsbitsNamesSaid : Prop := tnsbitsNamesRow.holds Try.pinned (OpenSpec.ofChange tnsbitsNamesSpec)

/-- ITS FALSE NEIGHBOUR: 'it returns false'. Refute it at one input. -/
def tnsbitsNamesWrong : ChangeSpec := { name := "tnsbitsNames", fn := fun _ => fun
  | [] => { results := [.lit (.bool false)], args := [] }
  | _ => none }
def TnsbitsNamesWrongFalsely : Prop := tnsbitsNamesRow.holds Try.pinned (OpenSpec.ofChange tnsbitsNamesWrong)

/-- 'reedpipelaw21.TnsbitsBack': WHATEVER THE INPUT: true; the input reads as it did. -/
def tnsbitsBackSpec : ChangeSpec := { name := "tnsbitsBack", fn := fun _ => fun
  | [d1, d2, d3, d4, d5] => { results := [.lit (.bool true)], args := [d1, d2, d3, d4, d5] }
  | _ => none }
def tnsbitsBackRow : OpenClaim := { program := "ytdhcgfdnhlhapaa", sum := "e4ea72cdc79b99bf416f909a72d559fa7d38c039d11dcc69df2c3d4fd1c83bfb", func := "reedpipe/reedpipelaw21.TnsbitsBack", spec := "tnsbitsBack", unfollowed := true, recurses := true, apart := false }
def TnsbitsBackSaid : Prop := tnsbitsBackRow.holds Try.pinned (OpenSpec.ofChange tnsbitsBackSpec)

/-- ITS FALSE NEIGHBOUR: 'it returns false'. Refute it at one input. -/
def tnsbitsBackWrong : ChangeSpec := { name := "tnsbitsBack", fn := fun _ => fun
  | [d1, d2, d3, d4, d5] => { results := [.lit (.bool false)], args := [d1, d2, d3, d4, d5] }
  | _ => none }
def TnsbitsBackWrongFalsely : Prop := tnsbitsBackRow.holds Try.pinned (OpenSpec.ofChange tnsbitsBackWrong)

/- THE SECOND FORM. 'bulk': how many values and letters a reading holds, each counted each time it is reached (what is shared counts as often as it is met; a slice's spare places count too). A statement '..UptoSaid' is the law's where the arguments, and the package variables that the reading takes, are together of bulk at most 1048576: NARROWER than '..Said'. Prove '..Said' where nothing that the law and all that it calls make is longer than what came in: it says more and counts as full. Else prove '..UptoSaid'. A law counts once. -/
mutual
def uptoBulk {H : Type} : DataW H → Nat
  | .lit (.string bytes) => bytes.length + 1
  | .lit _ => 1
  | .nil => 1
  | .ptr d => uptoBulk d + 1
  | .slice elems spare => uptoBulkAll elems + uptoBulkAll spare + 1
  | .agg parts => uptoBulkAll parts + 1
  | .iface _ d => uptoBulk d + 1
  | .map entries => uptoBulkEntries entries + 1
  | .held _ => 1
def uptoBulkAll {H : Type} : List (DataW H) → Nat
  | [] => 0
  | d :: r => uptoBulk d + uptoBulkAll r
def uptoBulkEntries {H : Type} : List (Lit × DataW H) → Nat
  | [] => 0
  | x :: r => uptoBulkEntry x + uptoBulkEntries r
def uptoBulkEntry {H : Type} : Lit × DataW H → Nat
  | (.string bytes, d) => bytes.length + uptoBulk d + 1
  | (_, d) => uptoBulk d + 1
 end
def uptoSmall : (H : Type) → List (DataW H) → Bool := fun _ ds => decide (uptoBulkAll ds ≤ 1048576)
def OpenSpec.upto (s : _root_.Go.ChangeSpec) : _root_.Go.OpenSpec := { _root_.Go.OpenSpec.ofChange s with cond := some uptoSmall }

/-- 'reedpipelaw21.TnsbitsNone', WHERE WHAT IT READS IS OF BULK AT MOST 1048576: true; the input reads as it did. -/
def tnsbitsNoneUptoRow : OpenClaim := { program := "ytdhcgfdnhlhapaa", sum := "e4ea72cdc79b99bf416f909a72d559fa7d38c039d11dcc69df2c3d4fd1c83bfb", func := "reedpipe/reedpipelaw21.TnsbitsNone", spec := "tnsbitsNone", unfollowed := true, recurses := true, apart := false, narrowed := true }
def TnsbitsNoneUptoSaid : Prop := tnsbitsNoneUptoRow.holds Try.pinned (OpenSpec.upto tnsbitsNoneSpec)

/-- 'reedpipelaw21.TnsbitsNarrow', WHERE WHAT IT READS IS OF BULK AT MOST 1048576: true; the input reads as it did. -/
def tnsbitsNarrowUptoRow : OpenClaim := { program := "ytdhcgfdnhlhapaa", sum := "e4ea72cdc79b99bf416f909a72d559fa7d38c039d11dcc69df2c3d4fd1c83bfb", func := "reedpipe/reedpipelaw21.TnsbitsNarrow", spec := "tnsbitsNarrow", unfollowed := true, recurses := true, apart := false, narrowed := true }
def TnsbitsNarrowUptoSaid : Prop := tnsbitsNarrowUptoRow.holds Try.pinned (OpenSpec.upto tnsbitsNarrowSpec)

/-- 'reedpipelaw21.TnsbitsNames', WHERE WHAT IT READS IS OF BULK AT MOST 1048576: true; the input reads as it did. -/
def tnsbitsNamesUptoRow : OpenClaim := { program := "ytdhcgfdnhlhapaa", sum := "e4ea72cdc79b99bf416f909a72d559fa7d38c039d11dcc69df2c3d4fd1c83bfb", func := "reedpipe/reedpipelaw21.TnsbitsNames", spec := "tnsbitsNames", unfollowed := true, recurses := true, apart := false, narrowed := true }
def TnsbitsNamesUptoSaid : Prop := tnsbitsNamesUptoRow.holds Try.pinned (OpenSpec.upto tnsbitsNamesSpec)

/-- 'reedpipelaw21.TnsbitsBack', WHERE WHAT IT READS IS OF BULK AT MOST 1048576: true; the input reads as it did. -/
def tnsbitsBackUptoRow : OpenClaim := { program := "ytdhcgfdnhlhapaa", sum := "e4ea72cdc79b99bf416f909a72d559fa7d38c039d11dcc69df2c3d4fd1c83bfb", func := "reedpipe/reedpipelaw21.TnsbitsBack", spec := "tnsbitsBack", unfollowed := true, recurses := true, apart := false, narrowed := true }
def TnsbitsBackUptoSaid : Prop := tnsbitsBackUptoRow.holds Try.pinned (OpenSpec.upto tnsbitsBackSpec)

end Rows
end Go.Proofs.Ytdhcgfdnhlhapaa
