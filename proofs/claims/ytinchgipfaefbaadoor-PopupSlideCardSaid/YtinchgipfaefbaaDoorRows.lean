/-
  NARROWER THAN 'FOR EVERY INPUT', by the rows' own cells (each row's printed sentence says how): PopupCheck: laid · PopupFlip: laid · PopupPlace: laid · PopupConstrain: laid · PopupFits: laid · PopupUnchanged: laid · PopupSize: laid · PopupSlide: laid.
  DERIVED. THE GIVEN ROWS OF THIS SEAT. 8 by the template 'for every input the law returns true; each argument reads behind the call as it read before'; 0 by the template 'total and deterministic' (their statements: YtinchgipfaefbaaDoorTotals.lean).
  GIVEN WITH THE SEED: the statements are not yours to turn. If you find one false, say at which input.
  Laid BY PROGRAM, IN A SANDBOX (cutbox-rows.mjs): the forced cells as the released guide's own fill.sh prints them over the translation c2f8fadff86273c7… (all of the seat's roots in one cut). By AI agents, Wed Nov 11 2026. No macro, syntax, notation, axiom, sorry.
-/
import Derived.Test.YtinchgipfaefbaaDoorChecked
import GoSem.Claim
import GoSem.ClaimJoined
import GoSem.ClaimMapViews
import Derived.JoinedTies
import Derived.KernelRfl
namespace Go.Proofs.YtinchgipfaefbaaDoor
/- THE CELL 'sum', in the pinned program and in every row, IS THE sha256 OF THE DUMP (.gsa) THAT YtinchgipfaefbaaDoorProg.lean LOADS. Nothing in Lean hashes anything: it is a label: what it is worth is what the hold of that sum in a sandbox is worth. -/
noncomputable def Tryd.pinned : Pinned := { name := "ytinchgipfaefbaadoor", sum := "c2f8fadff86273c7b416d3d1fb33fc85d1b79c714c46576c1d212a9483283546", checked := Tryd.checked }
namespace Rows
def none {H : Type} : Left H := { results := [], args := [] }

/- WHAT THE LISTED PACKAGE-LEVEL VARIABLES READ AS WHEN THE CALL BEGINS. Each datum BY PROGRAM (the guide's laid-datum.mjs) off the statement by which the dump's own 'gosem.cut.vars' lays the variable. In a bare row this is a premise. The card (YtinchgipfaefbaaDoorCards.lean) ties it to the program's text. -/
def laid_compositor_popup_sidesX {H : Type} : DataW H := .agg [.lit (.int .i64 0), .lit (.int .i64 0), .lit (.int .i64 0), .lit (.int .i64 (-1)), .lit (.int .i64 1), .lit (.int .i64 (-1)), .lit (.int .i64 (-1)), .lit (.int .i64 1), .lit (.int .i64 1)]
def laid_compositor_popup_sidesY {H : Type} : DataW H := .agg [.lit (.int .i64 0), .lit (.int .i64 (-1)), .lit (.int .i64 1), .lit (.int .i64 0), .lit (.int .i64 0), .lit (.int .i64 (-1)), .lit (.int .i64 1), .lit (.int .i64 (-1)), .lit (.int .i64 1)]
def laid_compositor_popup_flipsX {H : Type} : DataW H := .agg [.lit (.int .i64 0), .lit (.int .i64 1), .lit (.int .i64 2), .lit (.int .i64 4), .lit (.int .i64 3), .lit (.int .i64 7), .lit (.int .i64 8), .lit (.int .i64 5), .lit (.int .i64 6)]
def laid_compositor_popup_flipsY {H : Type} : DataW H := .agg [.lit (.int .i64 0), .lit (.int .i64 2), .lit (.int .i64 1), .lit (.int .i64 3), .lit (.int .i64 4), .lit (.int .i64 6), .lit (.int .i64 5), .lit (.int .i64 8), .lit (.int .i64 7)]

/-- 'compositorlaw21.PopupCheck': WHATEVER THE INPUT: true; the input reads as it did. -/
def popupCheckSpec : ChangeSpec := { name := "popupCheck", fn := fun _ => fun
  | [d] => { results := [.lit (.bool true)], args := [d] }
  | _ => none }
def popupCheckRow : OpenClaim := { program := "ytinchgipfaefbaadoor", sum := "c2f8fadff86273c7b416d3d1fb33fc85d1b79c714c46576c1d212a9483283546", func := "compositor/compositorlaw21.PopupCheck", spec := "popupCheck", unfollowed := true, recurses := true, named := ["compositor/popup.sidesX", "compositor/popup.sidesY", "compositor/popup.flipsX", "compositor/popup.flipsY"], apart := false, laid := [("compositor/popup.sidesX", laid_compositor_popup_sidesX), ("compositor/popup.sidesY", laid_compositor_popup_sidesY), ("compositor/popup.flipsX", laid_compositor_popup_flipsX), ("compositor/popup.flipsY", laid_compositor_popup_flipsY)] }
def PopupCheckSaid : Prop := popupCheckRow.holds Tryd.pinned (OpenSpec.ofChange popupCheckSpec)

/-- ITS FALSE NEIGHBOUR: 'it returns false'. Refute it at one input. -/
def popupCheckWrong : ChangeSpec := { name := "popupCheck", fn := fun _ => fun
  | [d] => { results := [.lit (.bool false)], args := [d] }
  | _ => none }
def PopupCheckWrongFalsely : Prop := popupCheckRow.holds Tryd.pinned (OpenSpec.ofChange popupCheckWrong)

/-- 'compositorlaw21.PopupFlip': WHATEVER THE INPUT: true; the input reads as it did. -/
def popupFlipSpec : ChangeSpec := { name := "popupFlip", fn := fun _ => fun
  | [d1, d2] => { results := [.lit (.bool true)], args := [d1, d2] }
  | _ => none }
def popupFlipRow : OpenClaim := { program := "ytinchgipfaefbaadoor", sum := "c2f8fadff86273c7b416d3d1fb33fc85d1b79c714c46576c1d212a9483283546", func := "compositor/compositorlaw21.PopupFlip", spec := "popupFlip", unfollowed := true, recurses := true, named := ["compositor/popup.flipsX", "compositor/popup.flipsY", "compositor/popup.sidesX", "compositor/popup.sidesY"], apart := false, laid := [("compositor/popup.sidesX", laid_compositor_popup_sidesX), ("compositor/popup.sidesY", laid_compositor_popup_sidesY), ("compositor/popup.flipsX", laid_compositor_popup_flipsX), ("compositor/popup.flipsY", laid_compositor_popup_flipsY)] }
def PopupFlipSaid : Prop := popupFlipRow.holds Tryd.pinned (OpenSpec.ofChange popupFlipSpec)

/-- ITS FALSE NEIGHBOUR: 'it returns false'. Refute it at one input. -/
def popupFlipWrong : ChangeSpec := { name := "popupFlip", fn := fun _ => fun
  | [d1, d2] => { results := [.lit (.bool false)], args := [d1, d2] }
  | _ => none }
def PopupFlipWrongFalsely : Prop := popupFlipRow.holds Tryd.pinned (OpenSpec.ofChange popupFlipWrong)

/-- 'compositorlaw21.PopupPlace': WHATEVER THE INPUT: true; the input reads as it did. -/
def popupPlaceSpec : ChangeSpec := { name := "popupPlace", fn := fun _ => fun
  | [d] => { results := [.lit (.bool true)], args := [d] }
  | _ => none }
def popupPlaceRow : OpenClaim := { program := "ytinchgipfaefbaadoor", sum := "c2f8fadff86273c7b416d3d1fb33fc85d1b79c714c46576c1d212a9483283546", func := "compositor/compositorlaw21.PopupPlace", spec := "popupPlace", unfollowed := true, recurses := true, named := ["compositor/popup.sidesX", "compositor/popup.sidesY", "compositor/popup.flipsX", "compositor/popup.flipsY"], apart := false, laid := [("compositor/popup.sidesX", laid_compositor_popup_sidesX), ("compositor/popup.sidesY", laid_compositor_popup_sidesY), ("compositor/popup.flipsX", laid_compositor_popup_flipsX), ("compositor/popup.flipsY", laid_compositor_popup_flipsY)] }
def PopupPlaceSaid : Prop := popupPlaceRow.holds Tryd.pinned (OpenSpec.ofChange popupPlaceSpec)

/-- ITS FALSE NEIGHBOUR: 'it returns false'. Refute it at one input. -/
def popupPlaceWrong : ChangeSpec := { name := "popupPlace", fn := fun _ => fun
  | [d] => { results := [.lit (.bool false)], args := [d] }
  | _ => none }
def PopupPlaceWrongFalsely : Prop := popupPlaceRow.holds Tryd.pinned (OpenSpec.ofChange popupPlaceWrong)

/-- 'compositorlaw21.PopupConstrain': WHATEVER THE INPUT: true; the input reads as it did. -/
def popupConstrainSpec : ChangeSpec := { name := "popupConstrain", fn := fun _ => fun
  | [d1, d2] => { results := [.lit (.bool true)], args := [d1, d2] }
  | _ => none }
def popupConstrainRow : OpenClaim := { program := "ytinchgipfaefbaadoor", sum := "c2f8fadff86273c7b416d3d1fb33fc85d1b79c714c46576c1d212a9483283546", func := "compositor/compositorlaw21.PopupConstrain", spec := "popupConstrain", unfollowed := true, recurses := true, named := ["compositor/popup.sidesX", "compositor/popup.sidesY", "compositor/popup.flipsX", "compositor/popup.flipsY"], apart := false, laid := [("compositor/popup.sidesX", laid_compositor_popup_sidesX), ("compositor/popup.sidesY", laid_compositor_popup_sidesY), ("compositor/popup.flipsX", laid_compositor_popup_flipsX), ("compositor/popup.flipsY", laid_compositor_popup_flipsY)] }
def PopupConstrainSaid : Prop := popupConstrainRow.holds Tryd.pinned (OpenSpec.ofChange popupConstrainSpec)

/-- ITS FALSE NEIGHBOUR: 'it returns false'. Refute it at one input. -/
def popupConstrainWrong : ChangeSpec := { name := "popupConstrain", fn := fun _ => fun
  | [d1, d2] => { results := [.lit (.bool false)], args := [d1, d2] }
  | _ => none }
def PopupConstrainWrongFalsely : Prop := popupConstrainRow.holds Tryd.pinned (OpenSpec.ofChange popupConstrainWrong)

/-- 'compositorlaw21.PopupFits': WHATEVER THE INPUT: true; the input reads as it did. -/
def popupFitsSpec : ChangeSpec := { name := "popupFits", fn := fun _ => fun
  | [d1, d2] => { results := [.lit (.bool true)], args := [d1, d2] }
  | _ => none }
def popupFitsRow : OpenClaim := { program := "ytinchgipfaefbaadoor", sum := "c2f8fadff86273c7b416d3d1fb33fc85d1b79c714c46576c1d212a9483283546", func := "compositor/compositorlaw21.PopupFits", spec := "popupFits", unfollowed := true, recurses := true, named := ["compositor/popup.sidesX", "compositor/popup.sidesY", "compositor/popup.flipsX", "compositor/popup.flipsY"], apart := false, laid := [("compositor/popup.sidesX", laid_compositor_popup_sidesX), ("compositor/popup.sidesY", laid_compositor_popup_sidesY), ("compositor/popup.flipsX", laid_compositor_popup_flipsX), ("compositor/popup.flipsY", laid_compositor_popup_flipsY)] }
def PopupFitsSaid : Prop := popupFitsRow.holds Tryd.pinned (OpenSpec.ofChange popupFitsSpec)

/-- ITS FALSE NEIGHBOUR: 'it returns false'. Refute it at one input. -/
def popupFitsWrong : ChangeSpec := { name := "popupFits", fn := fun _ => fun
  | [d1, d2] => { results := [.lit (.bool false)], args := [d1, d2] }
  | _ => none }
def PopupFitsWrongFalsely : Prop := popupFitsRow.holds Tryd.pinned (OpenSpec.ofChange popupFitsWrong)

/-- 'compositorlaw21.PopupUnchanged': WHATEVER THE INPUT: true; the input reads as it did. -/
def popupUnchangedSpec : ChangeSpec := { name := "popupUnchanged", fn := fun _ => fun
  | [d1, d2] => { results := [.lit (.bool true)], args := [d1, d2] }
  | _ => none }
def popupUnchangedRow : OpenClaim := { program := "ytinchgipfaefbaadoor", sum := "c2f8fadff86273c7b416d3d1fb33fc85d1b79c714c46576c1d212a9483283546", func := "compositor/compositorlaw21.PopupUnchanged", spec := "popupUnchanged", unfollowed := true, recurses := true, named := ["compositor/popup.sidesX", "compositor/popup.sidesY", "compositor/popup.flipsX", "compositor/popup.flipsY"], apart := false, laid := [("compositor/popup.sidesX", laid_compositor_popup_sidesX), ("compositor/popup.sidesY", laid_compositor_popup_sidesY), ("compositor/popup.flipsX", laid_compositor_popup_flipsX), ("compositor/popup.flipsY", laid_compositor_popup_flipsY)] }
def PopupUnchangedSaid : Prop := popupUnchangedRow.holds Tryd.pinned (OpenSpec.ofChange popupUnchangedSpec)

/-- ITS FALSE NEIGHBOUR: 'it returns false'. Refute it at one input. -/
def popupUnchangedWrong : ChangeSpec := { name := "popupUnchanged", fn := fun _ => fun
  | [d1, d2] => { results := [.lit (.bool false)], args := [d1, d2] }
  | _ => none }
def PopupUnchangedWrongFalsely : Prop := popupUnchangedRow.holds Tryd.pinned (OpenSpec.ofChange popupUnchangedWrong)

/-- 'compositorlaw21.PopupSize': WHATEVER THE INPUT: true; the input reads as it did. -/
def popupSizeSpec : ChangeSpec := { name := "popupSize", fn := fun _ => fun
  | [d1, d2] => { results := [.lit (.bool true)], args := [d1, d2] }
  | _ => none }
def popupSizeRow : OpenClaim := { program := "ytinchgipfaefbaadoor", sum := "c2f8fadff86273c7b416d3d1fb33fc85d1b79c714c46576c1d212a9483283546", func := "compositor/compositorlaw21.PopupSize", spec := "popupSize", unfollowed := true, recurses := true, named := ["compositor/popup.sidesX", "compositor/popup.sidesY", "compositor/popup.flipsX", "compositor/popup.flipsY"], apart := false, laid := [("compositor/popup.sidesX", laid_compositor_popup_sidesX), ("compositor/popup.sidesY", laid_compositor_popup_sidesY), ("compositor/popup.flipsX", laid_compositor_popup_flipsX), ("compositor/popup.flipsY", laid_compositor_popup_flipsY)] }
def PopupSizeSaid : Prop := popupSizeRow.holds Tryd.pinned (OpenSpec.ofChange popupSizeSpec)

/-- ITS FALSE NEIGHBOUR: 'it returns false'. Refute it at one input. -/
def popupSizeWrong : ChangeSpec := { name := "popupSize", fn := fun _ => fun
  | [d1, d2] => { results := [.lit (.bool false)], args := [d1, d2] }
  | _ => none }
def PopupSizeWrongFalsely : Prop := popupSizeRow.holds Tryd.pinned (OpenSpec.ofChange popupSizeWrong)

/-- 'compositorlaw21.PopupSlide': WHATEVER THE INPUT: true; the input reads as it did. -/
def popupSlideSpec : ChangeSpec := { name := "popupSlide", fn := fun _ => fun
  | [d1, d2] => { results := [.lit (.bool true)], args := [d1, d2] }
  | _ => none }
def popupSlideRow : OpenClaim := { program := "ytinchgipfaefbaadoor", sum := "c2f8fadff86273c7b416d3d1fb33fc85d1b79c714c46576c1d212a9483283546", func := "compositor/compositorlaw21.PopupSlide", spec := "popupSlide", unfollowed := true, recurses := true, named := ["compositor/popup.sidesX", "compositor/popup.sidesY", "compositor/popup.flipsX", "compositor/popup.flipsY"], apart := false, laid := [("compositor/popup.sidesX", laid_compositor_popup_sidesX), ("compositor/popup.sidesY", laid_compositor_popup_sidesY), ("compositor/popup.flipsX", laid_compositor_popup_flipsX), ("compositor/popup.flipsY", laid_compositor_popup_flipsY)] }
def PopupSlideSaid : Prop := popupSlideRow.holds Tryd.pinned (OpenSpec.ofChange popupSlideSpec)

/-- ITS FALSE NEIGHBOUR: 'it returns false'. Refute it at one input. -/
def popupSlideWrong : ChangeSpec := { name := "popupSlide", fn := fun _ => fun
  | [d1, d2] => { results := [.lit (.bool false)], args := [d1, d2] }
  | _ => none }
def PopupSlideWrongFalsely : Prop := popupSlideRow.holds Tryd.pinned (OpenSpec.ofChange popupSlideWrong)

/- THE SECOND FORM. 'bulk': how many values and letters a reading holds, each counted each time it is reached (what is shared counts as often as it is met; a slice's spare places count too). A statement '..UptoSaid' is the law's where the arguments, and the package variables that the reading takes, are together of bulk at most 1048576: NARROWER than '..Said'. Prove '..Said' where nothing that the law and all that it calls make is longer than what came in: it says more and counts as full. Else prove '..UptoSaid'. A law counts once. -/
mutual
def uptoBulk {H : Type} : DataW H → Nat
  | .lit (.string bytes) => bytes.length + 1
  | .lit _ => 1
  | .nil => 1
  | .ptr d => uptoBulk d + 1
  | .slice elems spare => uptoBulkAll elems + uptoBulkAll spare + 1
  | .agg parts => uptoBulkAll parts + 1
  | .iface _ d => uptoBulk d + 1
  | .map entries => uptoBulkEntries entries + 1
  | .held _ => 1
def uptoBulkAll {H : Type} : List (DataW H) → Nat
  | [] => 0
  | d :: r => uptoBulk d + uptoBulkAll r
def uptoBulkEntries {H : Type} : List (Lit × DataW H) → Nat
  | [] => 0
  | x :: r => uptoBulkEntry x + uptoBulkEntries r
def uptoBulkEntry {H : Type} : Lit × DataW H → Nat
  | (.string bytes, d) => bytes.length + uptoBulk d + 1
  | (_, d) => uptoBulk d + 1
 end
def uptoSmall : (H : Type) → List (DataW H) → Bool := fun _ ds => decide (uptoBulkAll ds ≤ 1048576)
def OpenSpec.upto (s : _root_.Go.ChangeSpec) : _root_.Go.OpenSpec := { _root_.Go.OpenSpec.ofChange s with cond := some uptoSmall }

/-- 'compositorlaw21.PopupCheck', WHERE WHAT IT READS IS OF BULK AT MOST 1048576: true; the input reads as it did. -/
def popupCheckUptoRow : OpenClaim := { program := "ytinchgipfaefbaadoor", sum := "c2f8fadff86273c7b416d3d1fb33fc85d1b79c714c46576c1d212a9483283546", func := "compositor/compositorlaw21.PopupCheck", spec := "popupCheck", unfollowed := true, recurses := true, named := ["compositor/popup.sidesX", "compositor/popup.sidesY", "compositor/popup.flipsX", "compositor/popup.flipsY"], apart := false, laid := [("compositor/popup.sidesX", laid_compositor_popup_sidesX), ("compositor/popup.sidesY", laid_compositor_popup_sidesY), ("compositor/popup.flipsX", laid_compositor_popup_flipsX), ("compositor/popup.flipsY", laid_compositor_popup_flipsY)], narrowed := true }
def PopupCheckUptoSaid : Prop := popupCheckUptoRow.holds Tryd.pinned (OpenSpec.upto popupCheckSpec)

/-- 'compositorlaw21.PopupFlip', WHERE WHAT IT READS IS OF BULK AT MOST 1048576: true; the input reads as it did. -/
def popupFlipUptoRow : OpenClaim := { program := "ytinchgipfaefbaadoor", sum := "c2f8fadff86273c7b416d3d1fb33fc85d1b79c714c46576c1d212a9483283546", func := "compositor/compositorlaw21.PopupFlip", spec := "popupFlip", unfollowed := true, recurses := true, named := ["compositor/popup.flipsX", "compositor/popup.flipsY", "compositor/popup.sidesX", "compositor/popup.sidesY"], apart := false, laid := [("compositor/popup.sidesX", laid_compositor_popup_sidesX), ("compositor/popup.sidesY", laid_compositor_popup_sidesY), ("compositor/popup.flipsX", laid_compositor_popup_flipsX), ("compositor/popup.flipsY", laid_compositor_popup_flipsY)], narrowed := true }
def PopupFlipUptoSaid : Prop := popupFlipUptoRow.holds Tryd.pinned (OpenSpec.upto popupFlipSpec)

/-- 'compositorlaw21.PopupPlace', WHERE WHAT IT READS IS OF BULK AT MOST 1048576: true; the input reads as it did. -/
def popupPlaceUptoRow : OpenClaim := { program := "ytinchgipfaefbaadoor", sum := "c2f8fadff86273c7b416d3d1fb33fc85d1b79c714c46576c1d212a9483283546", func := "compositor/compositorlaw21.PopupPlace", spec := "popupPlace", unfollowed := true, recurses := true, named := ["compositor/popup.sidesX", "compositor/popup.sidesY", "compositor/popup.flipsX", "compositor/popup.flipsY"], apart := false, laid := [("compositor/popup.sidesX", laid_compositor_popup_sidesX), ("compositor/popup.sidesY", laid_compositor_popup_sidesY), ("compositor/popup.flipsX", laid_compositor_popup_flipsX), ("compositor/popup.flipsY", laid_compositor_popup_flipsY)], narrowed := true }
def PopupPlaceUptoSaid : Prop := popupPlaceUptoRow.holds Tryd.pinned (OpenSpec.upto popupPlaceSpec)

/-- 'compositorlaw21.PopupConstrain', WHERE WHAT IT READS IS OF BULK AT MOST 1048576: true; the input reads as it did. -/
def popupConstrainUptoRow : OpenClaim := { program := "ytinchgipfaefbaadoor", sum := "c2f8fadff86273c7b416d3d1fb33fc85d1b79c714c46576c1d212a9483283546", func := "compositor/compositorlaw21.PopupConstrain", spec := "popupConstrain", unfollowed := true, recurses := true, named := ["compositor/popup.sidesX", "compositor/popup.sidesY", "compositor/popup.flipsX", "compositor/popup.flipsY"], apart := false, laid := [("compositor/popup.sidesX", laid_compositor_popup_sidesX), ("compositor/popup.sidesY", laid_compositor_popup_sidesY), ("compositor/popup.flipsX", laid_compositor_popup_flipsX), ("compositor/popup.flipsY", laid_compositor_popup_flipsY)], narrowed := true }
def PopupConstrainUptoSaid : Prop := popupConstrainUptoRow.holds Tryd.pinned (OpenSpec.upto popupConstrainSpec)

/-- 'compositorlaw21.PopupFits', WHERE WHAT IT READS IS OF BULK AT MOST 1048576: true; the input reads as it did. -/
def popupFitsUptoRow : OpenClaim := { program := "ytinchgipfaefbaadoor", sum := "c2f8fadff86273c7b416d3d1fb33fc85d1b79c714c46576c1d212a9483283546", func := "compositor/compositorlaw21.PopupFits", spec := "popupFits", unfollowed := true, recurses := true, named := ["compositor/popup.sidesX", "compositor/popup.sidesY", "compositor/popup.flipsX", "compositor/popup.flipsY"], apart := false, laid := [("compositor/popup.sidesX", laid_compositor_popup_sidesX), ("compositor/popup.sidesY", laid_compositor_popup_sidesY), ("compositor/popup.flipsX", laid_compositor_popup_flipsX), ("compositor/popup.flipsY", laid_compositor_popup_flipsY)], narrowed := true }
def PopupFitsUptoSaid : Prop := popupFitsUptoRow.holds Tryd.pinned (OpenSpec.upto popupFitsSpec)

/-- 'compositorlaw21.PopupUnchanged', WHERE WHAT IT READS IS OF BULK AT MOST 1048576: true; the input reads as it did. -/
def popupUnchangedUptoRow : OpenClaim := { program := "ytinchgipfaefbaadoor", sum := "c2f8fadff86273c7b416d3d1fb33fc85d1b79c714c46576c1d212a9483283546", func := "compositor/compositorlaw21.PopupUnchanged", spec := "popupUnchanged", unfollowed := true, recurses := true, named := ["compositor/popup.sidesX", "compositor/popup.sidesY", "compositor/popup.flipsX", "compositor/popup.flipsY"], apart := false, laid := [("compositor/popup.sidesX", laid_compositor_popup_sidesX), ("compositor/popup.sidesY", laid_compositor_popup_sidesY), ("compositor/popup.flipsX", laid_compositor_popup_flipsX), ("compositor/popup.flipsY", laid_compositor_popup_flipsY)], narrowed := true }
def PopupUnchangedUptoSaid : Prop := popupUnchangedUptoRow.holds Tryd.pinned (OpenSpec.upto popupUnchangedSpec)

/-- 'compositorlaw21.PopupSize', WHERE WHAT IT READS IS OF BULK AT MOST 1048576: true; the input reads as it did. -/
def popupSizeUptoRow : OpenClaim := { program := "ytinchgipfaefbaadoor", sum := "c2f8fadff86273c7b416d3d1fb33fc85d1b79c714c46576c1d212a9483283546", func := "compositor/compositorlaw21.PopupSize", spec := "popupSize", unfollowed := true, recurses := true, named := ["compositor/popup.sidesX", "compositor/popup.sidesY", "compositor/popup.flipsX", "compositor/popup.flipsY"], apart := false, laid := [("compositor/popup.sidesX", laid_compositor_popup_sidesX), ("compositor/popup.sidesY", laid_compositor_popup_sidesY), ("compositor/popup.flipsX", laid_compositor_popup_flipsX), ("compositor/popup.flipsY", laid_compositor_popup_flipsY)], narrowed := true }
def PopupSizeUptoSaid : Prop := popupSizeUptoRow.holds Tryd.pinned (OpenSpec.upto popupSizeSpec)

/-- 'compositorlaw21.PopupSlide', WHERE WHAT IT READS IS OF BULK AT MOST 1048576: true; the input reads as it did. -/
def popupSlideUptoRow : OpenClaim := { program := "ytinchgipfaefbaadoor", sum := "c2f8fadff86273c7b416d3d1fb33fc85d1b79c714c46576c1d212a9483283546", func := "compositor/compositorlaw21.PopupSlide", spec := "popupSlide", unfollowed := true, recurses := true, named := ["compositor/popup.sidesX", "compositor/popup.sidesY", "compositor/popup.flipsX", "compositor/popup.flipsY"], apart := false, laid := [("compositor/popup.sidesX", laid_compositor_popup_sidesX), ("compositor/popup.sidesY", laid_compositor_popup_sidesY), ("compositor/popup.flipsX", laid_compositor_popup_flipsX), ("compositor/popup.flipsY", laid_compositor_popup_flipsY)], narrowed := true }
def PopupSlideUptoSaid : Prop := popupSlideUptoRow.holds Tryd.pinned (OpenSpec.upto popupSlideSpec)

end Rows
end Go.Proofs.YtinchgipfaefbaaDoor
