/-
  No cell of these rows narrows 'for every input' (looked for: loops, veiled, ifaces, maps, wideKeys, modest, calm, conditions, laid).
  DERIVED. THE GIVEN ROWS OF THIS SEAT. 10 by the template 'for every input the law returns true; each argument reads behind the call as it read before'; 0 by the template 'total and deterministic' (their statements: YtocechkkeadgkaaGreatTotals.lean).
  GIVEN WITH THE SEED: the statements are not yours to turn. If you find one false, say at which input.
  Laid BY PROGRAM, IN A SANDBOX (cutbox-rows.mjs): the forced cells as the released guide's own fill.sh prints them over the translation 70e2ebb650e29c5c… (all of the seat's roots in one cut). By AI agents, Wed Nov 11 2026. No macro, syntax, notation, axiom, sorry.
-/
import Derived.Test.YtocechkkeadgkaaGreatChecked
import GoSem.Claim
import GoSem.ClaimJoined
import GoSem.ClaimMapViews
import Derived.JoinedTies
import Derived.KernelRfl
namespace Go.Proofs.YtocechkkeadgkaaGreat
/- THE CELL 'sum', in the pinned program and in every row, IS THE sha256 OF THE DUMP (.gsa) THAT YtocechkkeadgkaaGreatProg.lean LOADS. Nothing in Lean hashes anything: it is a label: what it is worth is what the hold of that sum in a sandbox is worth. -/
noncomputable def Tryz.pinned : Pinned := { name := "ytocechkkeadgkaagreat", sum := "70e2ebb650e29c5caec4f436b51d58361746d3073ff5a4f0a14234477827e7fd", checked := Tryz.checked }
namespace Rows
def none {H : Type} : Left H := { results := [], args := [] }

/-- 'dioramalaw10.EditDoes': WHATEVER THE INPUT: true; the input reads as it did. -/
def editDoesSpec : ChangeSpec := { name := "editDoes", fn := fun _ => fun
  | [d1, d2] => { results := [.lit (.bool true)], args := [d1, d2] }
  | _ => none }
def editDoesRow : OpenClaim := { program := "ytocechkkeadgkaagreat", sum := "70e2ebb650e29c5caec4f436b51d58361746d3073ff5a4f0a14234477827e7fd", func := "diorama/dioramalaw10.EditDoes", spec := "editDoes", inPlace := ["slices.overlaps[diorama/api.Handle]"], unfollowed := true, recurses := true, plainKeys := false, apart := false }
def EditDoesSaid : Prop := editDoesRow.holds Tryz.pinned (OpenSpec.ofChange editDoesSpec)

/-- ITS FALSE NEIGHBOUR: 'it returns false'. Refute it at one input. -/
def editDoesWrong : ChangeSpec := { name := "editDoes", fn := fun _ => fun
  | [d1, d2] => { results := [.lit (.bool false)], args := [d1, d2] }
  | _ => none }
def EditDoesWrongFalsely : Prop := editDoesRow.holds Tryz.pinned (OpenSpec.ofChange editDoesWrong)

/-- 'dioramalaw10.EditBack': WHATEVER THE INPUT: true; the input reads as it did. -/
def editBackSpec : ChangeSpec := { name := "editBack", fn := fun _ => fun
  | [d1, d2] => { results := [.lit (.bool true)], args := [d1, d2] }
  | _ => none }
def editBackRow : OpenClaim := { program := "ytocechkkeadgkaagreat", sum := "70e2ebb650e29c5caec4f436b51d58361746d3073ff5a4f0a14234477827e7fd", func := "diorama/dioramalaw10.EditBack", spec := "editBack", inPlace := ["slices.overlaps[diorama/api.Handle]"], unfollowed := true, recurses := true, plainKeys := false, apart := false }
def EditBackSaid : Prop := editBackRow.holds Tryz.pinned (OpenSpec.ofChange editBackSpec)

/-- ITS FALSE NEIGHBOUR: 'it returns false'. Refute it at one input. -/
def editBackWrong : ChangeSpec := { name := "editBack", fn := fun _ => fun
  | [d1, d2] => { results := [.lit (.bool false)], args := [d1, d2] }
  | _ => none }
def EditBackWrongFalsely : Prop := editBackRow.holds Tryz.pinned (OpenSpec.ofChange editBackWrong)

/-- 'dioramalaw10.EditKeeps': WHATEVER THE INPUT: true; the input reads as it did. -/
def editKeepsSpec : ChangeSpec := { name := "editKeeps", fn := fun _ => fun
  | [d1, d2] => { results := [.lit (.bool true)], args := [d1, d2] }
  | _ => none }
def editKeepsRow : OpenClaim := { program := "ytocechkkeadgkaagreat", sum := "70e2ebb650e29c5caec4f436b51d58361746d3073ff5a4f0a14234477827e7fd", func := "diorama/dioramalaw10.EditKeeps", spec := "editKeeps", inPlace := ["slices.overlaps[diorama/api.Handle]"], unfollowed := true, recurses := true, plainKeys := false, apart := false }
def EditKeepsSaid : Prop := editKeepsRow.holds Tryz.pinned (OpenSpec.ofChange editKeepsSpec)

/-- ITS FALSE NEIGHBOUR: 'it returns false'. Refute it at one input. -/
def editKeepsWrong : ChangeSpec := { name := "editKeeps", fn := fun _ => fun
  | [d1, d2] => { results := [.lit (.bool false)], args := [d1, d2] }
  | _ => none }
def EditKeepsWrongFalsely : Prop := editKeepsRow.holds Tryz.pinned (OpenSpec.ofChange editKeepsWrong)

/-- 'dioramalaw10.EditTouches': WHATEVER THE INPUT: true; the input reads as it did. -/
def editTouchesSpec : ChangeSpec := { name := "editTouches", fn := fun _ => fun
  | [d1, d2] => { results := [.lit (.bool true)], args := [d1, d2] }
  | _ => none }
def editTouchesRow : OpenClaim := { program := "ytocechkkeadgkaagreat", sum := "70e2ebb650e29c5caec4f436b51d58361746d3073ff5a4f0a14234477827e7fd", func := "diorama/dioramalaw10.EditTouches", spec := "editTouches", inPlace := ["slices.overlaps[diorama/api.Handle]"], unfollowed := true, recurses := true, plainKeys := false, apart := false }
def EditTouchesSaid : Prop := editTouchesRow.holds Tryz.pinned (OpenSpec.ofChange editTouchesSpec)

/-- ITS FALSE NEIGHBOUR: 'it returns false'. Refute it at one input. -/
def editTouchesWrong : ChangeSpec := { name := "editTouches", fn := fun _ => fun
  | [d1, d2] => { results := [.lit (.bool false)], args := [d1, d2] }
  | _ => none }
def EditTouchesWrongFalsely : Prop := editTouchesRow.holds Tryz.pinned (OpenSpec.ofChange editTouchesWrong)

/-- 'dioramalaw12.PathsRight': WHATEVER THE INPUT: true; the input reads as it did. -/
def pathsRightSpec : ChangeSpec := { name := "pathsRight", fn := fun _ => fun
  | [d] => { results := [.lit (.bool true)], args := [d] }
  | _ => none }
def pathsRightRow : OpenClaim := { program := "ytocechkkeadgkaagreat", sum := "70e2ebb650e29c5caec4f436b51d58361746d3073ff5a4f0a14234477827e7fd", func := "diorama/dioramalaw12.PathsRight", spec := "pathsRight", inPlace := ["slices.overlaps[diorama/api.Handle]"], unfollowed := true, recurses := true, plainKeys := false, apart := false }
def PathsRightSaid : Prop := pathsRightRow.holds Tryz.pinned (OpenSpec.ofChange pathsRightSpec)

/-- ITS FALSE NEIGHBOUR: 'it returns false'. Refute it at one input. -/
def pathsRightWrong : ChangeSpec := { name := "pathsRight", fn := fun _ => fun
  | [d] => { results := [.lit (.bool false)], args := [d] }
  | _ => none }
def PathsRightWrongFalsely : Prop := pathsRightRow.holds Tryz.pinned (OpenSpec.ofChange pathsRightWrong)

/-- 'dioramalaw12.PathsWhole': WHATEVER THE INPUT: true; the input reads as it did. -/
def pathsWholeSpec : ChangeSpec := { name := "pathsWhole", fn := fun _ => fun
  | [d1, d2] => { results := [.lit (.bool true)], args := [d1, d2] }
  | _ => none }
def pathsWholeRow : OpenClaim := { program := "ytocechkkeadgkaagreat", sum := "70e2ebb650e29c5caec4f436b51d58361746d3073ff5a4f0a14234477827e7fd", func := "diorama/dioramalaw12.PathsWhole", spec := "pathsWhole", inPlace := ["slices.overlaps[diorama/api.Handle]"], unfollowed := true, recurses := true, plainKeys := false, apart := false }
def PathsWholeSaid : Prop := pathsWholeRow.holds Tryz.pinned (OpenSpec.ofChange pathsWholeSpec)

/-- ITS FALSE NEIGHBOUR: 'it returns false'. Refute it at one input. -/
def pathsWholeWrong : ChangeSpec := { name := "pathsWhole", fn := fun _ => fun
  | [d1, d2] => { results := [.lit (.bool false)], args := [d1, d2] }
  | _ => none }
def PathsWholeWrongFalsely : Prop := pathsWholeRow.holds Tryz.pinned (OpenSpec.ofChange pathsWholeWrong)

/-- 'dioramalaw12.PathsLook': WHATEVER THE INPUT: true; the input reads as it did. -/
def pathsLookSpec : ChangeSpec := { name := "pathsLook", fn := fun _ => fun
  | [d1, d2] => { results := [.lit (.bool true)], args := [d1, d2] }
  | _ => none }
def pathsLookRow : OpenClaim := { program := "ytocechkkeadgkaagreat", sum := "70e2ebb650e29c5caec4f436b51d58361746d3073ff5a4f0a14234477827e7fd", func := "diorama/dioramalaw12.PathsLook", spec := "pathsLook", inPlace := ["slices.overlaps[diorama/api.Handle]"], unfollowed := true, recurses := true, plainKeys := false, apart := false }
def PathsLookSaid : Prop := pathsLookRow.holds Tryz.pinned (OpenSpec.ofChange pathsLookSpec)

/-- ITS FALSE NEIGHBOUR: 'it returns false'. Refute it at one input. -/
def pathsLookWrong : ChangeSpec := { name := "pathsLook", fn := fun _ => fun
  | [d1, d2] => { results := [.lit (.bool false)], args := [d1, d2] }
  | _ => none }
def PathsLookWrongFalsely : Prop := pathsLookRow.holds Tryz.pinned (OpenSpec.ofChange pathsLookWrong)

/-- 'dioramalaw11.FilePlain': WHATEVER THE INPUT: true; the input reads as it did. -/
def filePlainSpec : ChangeSpec := { name := "filePlain", fn := fun _ => fun
  | [d] => { results := [.lit (.bool true)], args := [d] }
  | _ => none }
def filePlainRow : OpenClaim := { program := "ytocechkkeadgkaagreat", sum := "70e2ebb650e29c5caec4f436b51d58361746d3073ff5a4f0a14234477827e7fd", func := "diorama/dioramalaw11.FilePlain", spec := "filePlain", inPlace := ["slices.overlaps[diorama/api.Handle]"], unfollowed := true, recurses := true, plainKeys := false, apart := false }
def FilePlainSaid : Prop := filePlainRow.holds Tryz.pinned (OpenSpec.ofChange filePlainSpec)

/-- ITS FALSE NEIGHBOUR: 'it returns false'. Refute it at one input. -/
def filePlainWrong : ChangeSpec := { name := "filePlain", fn := fun _ => fun
  | [d] => { results := [.lit (.bool false)], args := [d] }
  | _ => none }
def FilePlainWrongFalsely : Prop := filePlainRow.holds Tryz.pinned (OpenSpec.ofChange filePlainWrong)

/-- 'dioramalaw26.RasterImage': WHATEVER THE INPUT: true; the input reads as it did. -/
def rasterImageSpec : ChangeSpec := { name := "rasterImage", fn := fun _ => fun
  | [d1, d2, d3, d4] => { results := [.lit (.bool true)], args := [d1, d2, d3, d4] }
  | _ => none }
def rasterImageRow : OpenClaim := { program := "ytocechkkeadgkaagreat", sum := "70e2ebb650e29c5caec4f436b51d58361746d3073ff5a4f0a14234477827e7fd", func := "diorama/dioramalaw26.RasterImage", spec := "rasterImage", unfollowed := true, recurses := true, plainKeys := false, apart := false }
def RasterImageSaid : Prop := rasterImageRow.holds Tryz.pinned (OpenSpec.ofChange rasterImageSpec)

/-- ITS FALSE NEIGHBOUR: 'it returns false'. Refute it at one input. -/
def rasterImageWrong : ChangeSpec := { name := "rasterImage", fn := fun _ => fun
  | [d1, d2, d3, d4] => { results := [.lit (.bool false)], args := [d1, d2, d3, d4] }
  | _ => none }
def RasterImageWrongFalsely : Prop := rasterImageRow.holds Tryz.pinned (OpenSpec.ofChange rasterImageWrong)

/-- 'dioramalaw11.FileBack': WHATEVER THE INPUT: true; the input reads as it did. -/
def fileBackSpec : ChangeSpec := { name := "fileBack", fn := fun _ => fun
  | [d1, d2] => { results := [.lit (.bool true)], args := [d1, d2] }
  | _ => none }
def fileBackRow : OpenClaim := { program := "ytocechkkeadgkaagreat", sum := "70e2ebb650e29c5caec4f436b51d58361746d3073ff5a4f0a14234477827e7fd", func := "diorama/dioramalaw11.FileBack", spec := "fileBack", inPlace := ["slices.overlaps[diorama/api.Handle]"], unfollowed := true, recurses := true, plainKeys := false, apart := false }
def FileBackSaid : Prop := fileBackRow.holds Tryz.pinned (OpenSpec.ofChange fileBackSpec)

/-- ITS FALSE NEIGHBOUR: 'it returns false'. Refute it at one input. -/
def fileBackWrong : ChangeSpec := { name := "fileBack", fn := fun _ => fun
  | [d1, d2] => { results := [.lit (.bool false)], args := [d1, d2] }
  | _ => none }
def FileBackWrongFalsely : Prop := fileBackRow.holds Tryz.pinned (OpenSpec.ofChange fileBackWrong)

/- THE SECOND FORM. 'bulk': how many values and letters a reading holds, each counted each time it is reached (what is shared counts as often as it is met; a slice's spare places count too). A statement '..UptoSaid' is the law's where the arguments, and the package variables that the reading takes, are together of bulk at most 1048576: NARROWER than '..Said'. Prove '..Said' where nothing that the law and all that it calls make is longer than what came in: it says more and counts as full. Else prove '..UptoSaid'. A law counts once. -/
mutual
def uptoBulk {H : Type} : DataW H → Nat
  | .lit (.string bytes) => bytes.length + 1
  | .lit _ => 1
  | .nil => 1
  | .ptr d => uptoBulk d + 1
  | .slice elems spare => uptoBulkAll elems + uptoBulkAll spare + 1
  | .agg parts => uptoBulkAll parts + 1
  | .iface _ d => uptoBulk d + 1
  | .map entries => uptoBulkEntries entries + 1
  | .held _ => 1
def uptoBulkAll {H : Type} : List (DataW H) → Nat
  | [] => 0
  | d :: r => uptoBulk d + uptoBulkAll r
def uptoBulkEntries {H : Type} : List (Lit × DataW H) → Nat
  | [] => 0
  | x :: r => uptoBulkEntry x + uptoBulkEntries r
def uptoBulkEntry {H : Type} : Lit × DataW H → Nat
  | (.string bytes, d) => bytes.length + uptoBulk d + 1
  | (_, d) => uptoBulk d + 1
 end
def uptoSmall : (H : Type) → List (DataW H) → Bool := fun _ ds => decide (uptoBulkAll ds ≤ 1048576)
def OpenSpec.upto (s : _root_.Go.ChangeSpec) : _root_.Go.OpenSpec := { _root_.Go.OpenSpec.ofChange s with cond := some uptoSmall }

/-- 'dioramalaw10.EditDoes', WHERE WHAT IT READS IS OF BULK AT MOST 1048576: true; the input reads as it did. -/
def editDoesUptoRow : OpenClaim := { program := "ytocechkkeadgkaagreat", sum := "70e2ebb650e29c5caec4f436b51d58361746d3073ff5a4f0a14234477827e7fd", func := "diorama/dioramalaw10.EditDoes", spec := "editDoes", inPlace := ["slices.overlaps[diorama/api.Handle]"], unfollowed := true, recurses := true, plainKeys := false, apart := false, narrowed := true }
def EditDoesUptoSaid : Prop := editDoesUptoRow.holds Tryz.pinned (OpenSpec.upto editDoesSpec)

/-- 'dioramalaw10.EditBack', WHERE WHAT IT READS IS OF BULK AT MOST 1048576: true; the input reads as it did. -/
def editBackUptoRow : OpenClaim := { program := "ytocechkkeadgkaagreat", sum := "70e2ebb650e29c5caec4f436b51d58361746d3073ff5a4f0a14234477827e7fd", func := "diorama/dioramalaw10.EditBack", spec := "editBack", inPlace := ["slices.overlaps[diorama/api.Handle]"], unfollowed := true, recurses := true, plainKeys := false, apart := false, narrowed := true }
def EditBackUptoSaid : Prop := editBackUptoRow.holds Tryz.pinned (OpenSpec.upto editBackSpec)

/-- 'dioramalaw10.EditKeeps', WHERE WHAT IT READS IS OF BULK AT MOST 1048576: true; the input reads as it did. -/
def editKeepsUptoRow : OpenClaim := { program := "ytocechkkeadgkaagreat", sum := "70e2ebb650e29c5caec4f436b51d58361746d3073ff5a4f0a14234477827e7fd", func := "diorama/dioramalaw10.EditKeeps", spec := "editKeeps", inPlace := ["slices.overlaps[diorama/api.Handle]"], unfollowed := true, recurses := true, plainKeys := false, apart := false, narrowed := true }
def EditKeepsUptoSaid : Prop := editKeepsUptoRow.holds Tryz.pinned (OpenSpec.upto editKeepsSpec)

/-- 'dioramalaw10.EditTouches', WHERE WHAT IT READS IS OF BULK AT MOST 1048576: true; the input reads as it did. -/
def editTouchesUptoRow : OpenClaim := { program := "ytocechkkeadgkaagreat", sum := "70e2ebb650e29c5caec4f436b51d58361746d3073ff5a4f0a14234477827e7fd", func := "diorama/dioramalaw10.EditTouches", spec := "editTouches", inPlace := ["slices.overlaps[diorama/api.Handle]"], unfollowed := true, recurses := true, plainKeys := false, apart := false, narrowed := true }
def EditTouchesUptoSaid : Prop := editTouchesUptoRow.holds Tryz.pinned (OpenSpec.upto editTouchesSpec)

/-- 'dioramalaw12.PathsRight', WHERE WHAT IT READS IS OF BULK AT MOST 1048576: true; the input reads as it did. -/
def pathsRightUptoRow : OpenClaim := { program := "ytocechkkeadgkaagreat", sum := "70e2ebb650e29c5caec4f436b51d58361746d3073ff5a4f0a14234477827e7fd", func := "diorama/dioramalaw12.PathsRight", spec := "pathsRight", inPlace := ["slices.overlaps[diorama/api.Handle]"], unfollowed := true, recurses := true, plainKeys := false, apart := false, narrowed := true }
def PathsRightUptoSaid : Prop := pathsRightUptoRow.holds Tryz.pinned (OpenSpec.upto pathsRightSpec)

/-- 'dioramalaw12.PathsWhole', WHERE WHAT IT READS IS OF BULK AT MOST 1048576: true; the input reads as it did. -/
def pathsWholeUptoRow : OpenClaim := { program := "ytocechkkeadgkaagreat", sum := "70e2ebb650e29c5caec4f436b51d58361746d3073ff5a4f0a14234477827e7fd", func := "diorama/dioramalaw12.PathsWhole", spec := "pathsWhole", inPlace := ["slices.overlaps[diorama/api.Handle]"], unfollowed := true, recurses := true, plainKeys := false, apart := false, narrowed := true }
def PathsWholeUptoSaid : Prop := pathsWholeUptoRow.holds Tryz.pinned (OpenSpec.upto pathsWholeSpec)

/-- 'dioramalaw12.PathsLook', WHERE WHAT IT READS IS OF BULK AT MOST 1048576: true; the input reads as it did. -/
def pathsLookUptoRow : OpenClaim := { program := "ytocechkkeadgkaagreat", sum := "70e2ebb650e29c5caec4f436b51d58361746d3073ff5a4f0a14234477827e7fd", func := "diorama/dioramalaw12.PathsLook", spec := "pathsLook", inPlace := ["slices.overlaps[diorama/api.Handle]"], unfollowed := true, recurses := true, plainKeys := false, apart := false, narrowed := true }
def PathsLookUptoSaid : Prop := pathsLookUptoRow.holds Tryz.pinned (OpenSpec.upto pathsLookSpec)

/-- 'dioramalaw11.FilePlain', WHERE WHAT IT READS IS OF BULK AT MOST 1048576: true; the input reads as it did. -/
def filePlainUptoRow : OpenClaim := { program := "ytocechkkeadgkaagreat", sum := "70e2ebb650e29c5caec4f436b51d58361746d3073ff5a4f0a14234477827e7fd", func := "diorama/dioramalaw11.FilePlain", spec := "filePlain", inPlace := ["slices.overlaps[diorama/api.Handle]"], unfollowed := true, recurses := true, plainKeys := false, apart := false, narrowed := true }
def FilePlainUptoSaid : Prop := filePlainUptoRow.holds Tryz.pinned (OpenSpec.upto filePlainSpec)

/-- 'dioramalaw26.RasterImage', WHERE WHAT IT READS IS OF BULK AT MOST 1048576: true; the input reads as it did. -/
def rasterImageUptoRow : OpenClaim := { program := "ytocechkkeadgkaagreat", sum := "70e2ebb650e29c5caec4f436b51d58361746d3073ff5a4f0a14234477827e7fd", func := "diorama/dioramalaw26.RasterImage", spec := "rasterImage", unfollowed := true, recurses := true, plainKeys := false, apart := false, narrowed := true }
def RasterImageUptoSaid : Prop := rasterImageUptoRow.holds Tryz.pinned (OpenSpec.upto rasterImageSpec)

/-- 'dioramalaw11.FileBack', WHERE WHAT IT READS IS OF BULK AT MOST 1048576: true; the input reads as it did. -/
def fileBackUptoRow : OpenClaim := { program := "ytocechkkeadgkaagreat", sum := "70e2ebb650e29c5caec4f436b51d58361746d3073ff5a4f0a14234477827e7fd", func := "diorama/dioramalaw11.FileBack", spec := "fileBack", inPlace := ["slices.overlaps[diorama/api.Handle]"], unfollowed := true, recurses := true, plainKeys := false, apart := false, narrowed := true }
def FileBackUptoSaid : Prop := fileBackUptoRow.holds Tryz.pinned (OpenSpec.upto fileBackSpec)

end Rows
end Go.Proofs.YtocechkkeadgkaaGreat
