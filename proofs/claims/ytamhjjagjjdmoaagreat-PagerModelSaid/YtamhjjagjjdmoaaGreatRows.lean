/-
  No cell of these rows narrows 'for every input' (looked for: loops, veiled, ifaces, maps, wideKeys, modest, calm, conditions, laid).
  DERIVED. THE GIVEN ROWS OF THIS SEAT. 13 by the template 'for every input the law returns true; each argument reads behind the call as it read before'; 0 by the template 'total and deterministic' (their statements: YtamhjjagjjdmoaaGreatTotals.lean).
  GIVEN WITH THE SEED: the statements are not yours to turn. If you find one false, say at which input.
  Laid BY PROGRAM, IN A SANDBOX (cutbox-rows.mjs): the forced cells as the released guide's own fill.sh prints them over the translation 0546aef1b06138fa… (all of the seat's roots in one cut). By AI agents, Wed Nov 11 2026. No macro, syntax, notation, axiom, sorry.
-/
import Derived.Test.YtamhjjagjjdmoaaGreatChecked
import GoSem.Claim
import GoSem.ClaimJoined
import GoSem.ClaimMapViews
import Derived.JoinedTies
import Derived.KernelRfl
namespace Go.Proofs.YtamhjjagjjdmoaaGreat
/- THE CELL 'sum', in the pinned program and in every row, IS THE sha256 OF THE DUMP (.gsa) THAT YtamhjjagjjdmoaaGreatProg.lean LOADS. Nothing in Lean hashes anything: it is a label: what it is worth is what the hold of that sum in a sandbox is worth. -/
noncomputable def Tryz.pinned : Pinned := { name := "ytamhjjagjjdmoaagreat", sum := "0546aef1b06138fa5464d9902223ad3e0754f3bf98a08a8d36eeef46010ad970", checked := Tryz.checked }
namespace Rows
def none {H : Type} : Left H := { results := [], args := [] }

/-- 'cadastrelaw12.PagerTwo': WHATEVER THE INPUT: true; the input reads as it did. -/
def pagerTwoSpec : ChangeSpec := { name := "pagerTwo", fn := fun _ => fun
  | [d] => { results := [.lit (.bool true)], args := [d] }
  | _ => none }
def pagerTwoRow : OpenClaim := { program := "ytamhjjagjjdmoaagreat", sum := "0546aef1b06138fa5464d9902223ad3e0754f3bf98a08a8d36eeef46010ad970", func := "cadastre/cadastrelaw12.PagerTwo", spec := "pagerTwo", unfollowed := true, recurses := true, apart := false }
def PagerTwoSaid : Prop := pagerTwoRow.holds Tryz.pinned (OpenSpec.ofChange pagerTwoSpec)

/-- ITS FALSE NEIGHBOUR: 'it returns false'. Refute it at one input. -/
def pagerTwoWrong : ChangeSpec := { name := "pagerTwo", fn := fun _ => fun
  | [d] => { results := [.lit (.bool false)], args := [d] }
  | _ => none }
def PagerTwoWrongFalsely : Prop := pagerTwoRow.holds Tryz.pinned (OpenSpec.ofChange pagerTwoWrong)

/-- 'cadastrelaw12.PagerForms': WHATEVER THE INPUT: true; the input reads as it did. -/
def pagerFormsSpec : ChangeSpec := { name := "pagerForms", fn := fun _ => fun
  | [d] => { results := [.lit (.bool true)], args := [d] }
  | _ => none }
def pagerFormsRow : OpenClaim := { program := "ytamhjjagjjdmoaagreat", sum := "0546aef1b06138fa5464d9902223ad3e0754f3bf98a08a8d36eeef46010ad970", func := "cadastre/cadastrelaw12.PagerForms", spec := "pagerForms", inPlace := ["maps.clone"], unfollowed := true, recurses := true, apart := false }
def PagerFormsSaid : Prop := pagerFormsRow.holds Tryz.pinned (OpenSpec.ofChange pagerFormsSpec)

/-- ITS FALSE NEIGHBOUR: 'it returns false'. Refute it at one input. -/
def pagerFormsWrong : ChangeSpec := { name := "pagerForms", fn := fun _ => fun
  | [d] => { results := [.lit (.bool false)], args := [d] }
  | _ => none }
def PagerFormsWrongFalsely : Prop := pagerFormsRow.holds Tryz.pinned (OpenSpec.ofChange pagerFormsWrong)

/-- 'cadastrelaw12.PagerMarks': WHATEVER THE INPUT: true; the input reads as it did. -/
def pagerMarksSpec : ChangeSpec := { name := "pagerMarks", fn := fun _ => fun
  | [d] => { results := [.lit (.bool true)], args := [d] }
  | _ => none }
def pagerMarksRow : OpenClaim := { program := "ytamhjjagjjdmoaagreat", sum := "0546aef1b06138fa5464d9902223ad3e0754f3bf98a08a8d36eeef46010ad970", func := "cadastre/cadastrelaw12.PagerMarks", spec := "pagerMarks", inPlace := ["maps.clone"], unfollowed := true, recurses := true, apart := false }
def PagerMarksSaid : Prop := pagerMarksRow.holds Tryz.pinned (OpenSpec.ofChange pagerMarksSpec)

/-- ITS FALSE NEIGHBOUR: 'it returns false'. Refute it at one input. -/
def pagerMarksWrong : ChangeSpec := { name := "pagerMarks", fn := fun _ => fun
  | [d] => { results := [.lit (.bool false)], args := [d] }
  | _ => none }
def PagerMarksWrongFalsely : Prop := pagerMarksRow.holds Tryz.pinned (OpenSpec.ofChange pagerMarksWrong)

/-- 'cadastrelaw12.PagerLasts': WHATEVER THE INPUT: true; the input reads as it did. -/
def pagerLastsSpec : ChangeSpec := { name := "pagerLasts", fn := fun _ => fun
  | [d] => { results := [.lit (.bool true)], args := [d] }
  | _ => none }
def pagerLastsRow : OpenClaim := { program := "ytamhjjagjjdmoaagreat", sum := "0546aef1b06138fa5464d9902223ad3e0754f3bf98a08a8d36eeef46010ad970", func := "cadastre/cadastrelaw12.PagerLasts", spec := "pagerLasts", unfollowed := true, recurses := true, apart := false }
def PagerLastsSaid : Prop := pagerLastsRow.holds Tryz.pinned (OpenSpec.ofChange pagerLastsSpec)

/-- ITS FALSE NEIGHBOUR: 'it returns false'. Refute it at one input. -/
def pagerLastsWrong : ChangeSpec := { name := "pagerLasts", fn := fun _ => fun
  | [d] => { results := [.lit (.bool false)], args := [d] }
  | _ => none }
def PagerLastsWrongFalsely : Prop := pagerLastsRow.holds Tryz.pinned (OpenSpec.ofChange pagerLastsWrong)

/-- 'cadastrelaw12.PagerModel': WHATEVER THE INPUT: true; the input reads as it did. -/
def pagerModelSpec : ChangeSpec := { name := "pagerModel", fn := fun _ => fun
  | [d] => { results := [.lit (.bool true)], args := [d] }
  | _ => none }
def pagerModelRow : OpenClaim := { program := "ytamhjjagjjdmoaagreat", sum := "0546aef1b06138fa5464d9902223ad3e0754f3bf98a08a8d36eeef46010ad970", func := "cadastre/cadastrelaw12.PagerModel", spec := "pagerModel", inPlace := ["maps.clone"], unfollowed := true, recurses := true, apart := false }
def PagerModelSaid : Prop := pagerModelRow.holds Tryz.pinned (OpenSpec.ofChange pagerModelSpec)

/-- ITS FALSE NEIGHBOUR: 'it returns false'. Refute it at one input. -/
def pagerModelWrong : ChangeSpec := { name := "pagerModel", fn := fun _ => fun
  | [d] => { results := [.lit (.bool false)], args := [d] }
  | _ => none }
def PagerModelWrongFalsely : Prop := pagerModelRow.holds Tryz.pinned (OpenSpec.ofChange pagerModelWrong)

/-- 'cadastrelaw12.PagerEnds': WHATEVER THE INPUT: true; the input reads as it did. -/
def pagerEndsSpec : ChangeSpec := { name := "pagerEnds", fn := fun _ => fun
  | [d] => { results := [.lit (.bool true)], args := [d] }
  | _ => none }
def pagerEndsRow : OpenClaim := { program := "ytamhjjagjjdmoaagreat", sum := "0546aef1b06138fa5464d9902223ad3e0754f3bf98a08a8d36eeef46010ad970", func := "cadastre/cadastrelaw12.PagerEnds", spec := "pagerEnds", inPlace := ["maps.clone"], unfollowed := true, recurses := true, apart := false }
def PagerEndsSaid : Prop := pagerEndsRow.holds Tryz.pinned (OpenSpec.ofChange pagerEndsSpec)

/-- ITS FALSE NEIGHBOUR: 'it returns false'. Refute it at one input. -/
def pagerEndsWrong : ChangeSpec := { name := "pagerEnds", fn := fun _ => fun
  | [d] => { results := [.lit (.bool false)], args := [d] }
  | _ => none }
def PagerEndsWrongFalsely : Prop := pagerEndsRow.holds Tryz.pinned (OpenSpec.ofChange pagerEndsWrong)

/-- 'cadastrelaw12.PagerCrashes': WHATEVER THE INPUT: true; the input reads as it did. -/
def pagerCrashesSpec : ChangeSpec := { name := "pagerCrashes", fn := fun _ => fun
  | [d] => { results := [.lit (.bool true)], args := [d] }
  | _ => none }
def pagerCrashesRow : OpenClaim := { program := "ytamhjjagjjdmoaagreat", sum := "0546aef1b06138fa5464d9902223ad3e0754f3bf98a08a8d36eeef46010ad970", func := "cadastre/cadastrelaw12.PagerCrashes", spec := "pagerCrashes", unfollowed := true, recurses := true, apart := false }
def PagerCrashesSaid : Prop := pagerCrashesRow.holds Tryz.pinned (OpenSpec.ofChange pagerCrashesSpec)

/-- ITS FALSE NEIGHBOUR: 'it returns false'. Refute it at one input. -/
def pagerCrashesWrong : ChangeSpec := { name := "pagerCrashes", fn := fun _ => fun
  | [d] => { results := [.lit (.bool false)], args := [d] }
  | _ => none }
def PagerCrashesWrongFalsely : Prop := pagerCrashesRow.holds Tryz.pinned (OpenSpec.ofChange pagerCrashesWrong)

/-- 'cadastrelaw13.PagesBack': WHATEVER THE INPUT: true; the input reads as it did. -/
def pagesBackSpec : ChangeSpec := { name := "pagesBack", fn := fun _ => fun
  | [d] => { results := [.lit (.bool true)], args := [d] }
  | _ => none }
def pagesBackRow : OpenClaim := { program := "ytamhjjagjjdmoaagreat", sum := "0546aef1b06138fa5464d9902223ad3e0754f3bf98a08a8d36eeef46010ad970", func := "cadastre/cadastrelaw13.PagesBack", spec := "pagesBack", inPlace := ["maps.clone"], unfollowed := true, recurses := true, apart := false }
def PagesBackSaid : Prop := pagesBackRow.holds Tryz.pinned (OpenSpec.ofChange pagesBackSpec)

/-- ITS FALSE NEIGHBOUR: 'it returns false'. Refute it at one input. -/
def pagesBackWrong : ChangeSpec := { name := "pagesBack", fn := fun _ => fun
  | [d] => { results := [.lit (.bool false)], args := [d] }
  | _ => none }
def PagesBackWrongFalsely : Prop := pagesBackRow.holds Tryz.pinned (OpenSpec.ofChange pagesBackWrong)

/-- 'cadastrelaw12.PagerFolds': WHATEVER THE INPUT: true; the input reads as it did. -/
def pagerFoldsSpec : ChangeSpec := { name := "pagerFolds", fn := fun _ => fun
  | [d] => { results := [.lit (.bool true)], args := [d] }
  | _ => none }
def pagerFoldsRow : OpenClaim := { program := "ytamhjjagjjdmoaagreat", sum := "0546aef1b06138fa5464d9902223ad3e0754f3bf98a08a8d36eeef46010ad970", func := "cadastre/cadastrelaw12.PagerFolds", spec := "pagerFolds", inPlace := ["maps.clone"], unfollowed := true, recurses := true, apart := false }
def PagerFoldsSaid : Prop := pagerFoldsRow.holds Tryz.pinned (OpenSpec.ofChange pagerFoldsSpec)

/-- ITS FALSE NEIGHBOUR: 'it returns false'. Refute it at one input. -/
def pagerFoldsWrong : ChangeSpec := { name := "pagerFolds", fn := fun _ => fun
  | [d] => { results := [.lit (.bool false)], args := [d] }
  | _ => none }
def PagerFoldsWrongFalsely : Prop := pagerFoldsRow.holds Tryz.pinned (OpenSpec.ofChange pagerFoldsWrong)

/-- 'cadastrelaw13.PagesModel': WHATEVER THE INPUT: true; the input reads as it did. -/
def pagesModelSpec : ChangeSpec := { name := "pagesModel", fn := fun _ => fun
  | [d] => { results := [.lit (.bool true)], args := [d] }
  | _ => none }
def pagesModelRow : OpenClaim := { program := "ytamhjjagjjdmoaagreat", sum := "0546aef1b06138fa5464d9902223ad3e0754f3bf98a08a8d36eeef46010ad970", func := "cadastre/cadastrelaw13.PagesModel", spec := "pagesModel", unfollowed := true, recurses := true, apart := false }
def PagesModelSaid : Prop := pagesModelRow.holds Tryz.pinned (OpenSpec.ofChange pagesModelSpec)

/-- ITS FALSE NEIGHBOUR: 'it returns false'. Refute it at one input. -/
def pagesModelWrong : ChangeSpec := { name := "pagesModel", fn := fun _ => fun
  | [d] => { results := [.lit (.bool false)], args := [d] }
  | _ => none }
def PagesModelWrongFalsely : Prop := pagesModelRow.holds Tryz.pinned (OpenSpec.ofChange pagesModelWrong)

/-- 'cadastrelaw14.TreeOrders': WHATEVER THE INPUT: true; the input reads as it did. -/
def treeOrdersSpec : ChangeSpec := { name := "treeOrders", fn := fun _ => fun
  | [d] => { results := [.lit (.bool true)], args := [d] }
  | _ => none }
def treeOrdersRow : OpenClaim := { program := "ytamhjjagjjdmoaagreat", sum := "0546aef1b06138fa5464d9902223ad3e0754f3bf98a08a8d36eeef46010ad970", func := "cadastre/cadastrelaw14.TreeOrders", spec := "treeOrders", inPlace := ["internal/bytealg.Compare", "slices.overlaps[[]byte]", "slices.overlaps[int]"], unfollowed := true, recurses := true, apart := false }
def TreeOrdersSaid : Prop := treeOrdersRow.holds Tryz.pinned (OpenSpec.ofChange treeOrdersSpec)

/-- ITS FALSE NEIGHBOUR: 'it returns false'. Refute it at one input. -/
def treeOrdersWrong : ChangeSpec := { name := "treeOrders", fn := fun _ => fun
  | [d] => { results := [.lit (.bool false)], args := [d] }
  | _ => none }
def TreeOrdersWrongFalsely : Prop := treeOrdersRow.holds Tryz.pinned (OpenSpec.ofChange treeOrdersWrong)

/-- 'cadastrelaw14.TreeWalks': WHATEVER THE INPUT: true; the input reads as it did. -/
def treeWalksSpec : ChangeSpec := { name := "treeWalks", fn := fun _ => fun
  | [d] => { results := [.lit (.bool true)], args := [d] }
  | _ => none }
def treeWalksRow : OpenClaim := { program := "ytamhjjagjjdmoaagreat", sum := "0546aef1b06138fa5464d9902223ad3e0754f3bf98a08a8d36eeef46010ad970", func := "cadastre/cadastrelaw14.TreeWalks", spec := "treeWalks", inPlace := ["internal/bytealg.Compare", "slices.overlaps[[]byte]", "slices.overlaps[int]"], unfollowed := true, recurses := true, apart := false }
def TreeWalksSaid : Prop := treeWalksRow.holds Tryz.pinned (OpenSpec.ofChange treeWalksSpec)

/-- ITS FALSE NEIGHBOUR: 'it returns false'. Refute it at one input. -/
def treeWalksWrong : ChangeSpec := { name := "treeWalks", fn := fun _ => fun
  | [d] => { results := [.lit (.bool false)], args := [d] }
  | _ => none }
def TreeWalksWrongFalsely : Prop := treeWalksRow.holds Tryz.pinned (OpenSpec.ofChange treeWalksWrong)

/-- 'cadastrelaw14.TreeNone': WHATEVER THE INPUT: true; the input reads as it did. -/
def treeNoneSpec : ChangeSpec := { name := "treeNone", fn := fun _ => fun
  | [d] => { results := [.lit (.bool true)], args := [d] }
  | _ => none }
def treeNoneRow : OpenClaim := { program := "ytamhjjagjjdmoaagreat", sum := "0546aef1b06138fa5464d9902223ad3e0754f3bf98a08a8d36eeef46010ad970", func := "cadastre/cadastrelaw14.TreeNone", spec := "treeNone", inPlace := ["internal/bytealg.Compare", "slices.overlaps[[]byte]", "slices.overlaps[int]"], unfollowed := true, recurses := true, apart := false }
def TreeNoneSaid : Prop := treeNoneRow.holds Tryz.pinned (OpenSpec.ofChange treeNoneSpec)

/-- ITS FALSE NEIGHBOUR: 'it returns false'. Refute it at one input. -/
def treeNoneWrong : ChangeSpec := { name := "treeNone", fn := fun _ => fun
  | [d] => { results := [.lit (.bool false)], args := [d] }
  | _ => none }
def TreeNoneWrongFalsely : Prop := treeNoneRow.holds Tryz.pinned (OpenSpec.ofChange treeNoneWrong)

/- THE SECOND FORM. 'bulk': how many values and letters a reading holds, each counted each time it is reached (what is shared counts as often as it is met; a slice's spare places count too). A statement '..UptoSaid' is the law's where the arguments, and the package variables that the reading takes, are together of bulk at most 1048576: NARROWER than '..Said'. Prove '..Said' where nothing that the law and all that it calls make is longer than what came in: it says more and counts as full. Else prove '..UptoSaid'. A law counts once. -/
mutual
def uptoBulk {H : Type} : DataW H → Nat
  | .lit (.string bytes) => bytes.length + 1
  | .lit _ => 1
  | .nil => 1
  | .ptr d => uptoBulk d + 1
  | .slice elems spare => uptoBulkAll elems + uptoBulkAll spare + 1
  | .agg parts => uptoBulkAll parts + 1
  | .iface _ d => uptoBulk d + 1
  | .map entries => uptoBulkEntries entries + 1
  | .held _ => 1
def uptoBulkAll {H : Type} : List (DataW H) → Nat
  | [] => 0
  | d :: r => uptoBulk d + uptoBulkAll r
def uptoBulkEntries {H : Type} : List (Lit × DataW H) → Nat
  | [] => 0
  | x :: r => uptoBulkEntry x + uptoBulkEntries r
def uptoBulkEntry {H : Type} : Lit × DataW H → Nat
  | (.string bytes, d) => bytes.length + uptoBulk d + 1
  | (_, d) => uptoBulk d + 1
 end
def uptoSmall : (H : Type) → List (DataW H) → Bool := fun _ ds => decide (uptoBulkAll ds ≤ 1048576)
def OpenSpec.upto (s : _root_.Go.ChangeSpec) : _root_.Go.OpenSpec := { _root_.Go.OpenSpec.ofChange s with cond := some uptoSmall }

/-- 'cadastrelaw12.PagerTwo', WHERE WHAT IT READS IS OF BULK AT MOST 1048576: true; the input reads as it did. -/
def pagerTwoUptoRow : OpenClaim := { program := "ytamhjjagjjdmoaagreat", sum := "0546aef1b06138fa5464d9902223ad3e0754f3bf98a08a8d36eeef46010ad970", func := "cadastre/cadastrelaw12.PagerTwo", spec := "pagerTwo", unfollowed := true, recurses := true, apart := false, narrowed := true }
def PagerTwoUptoSaid : Prop := pagerTwoUptoRow.holds Tryz.pinned (OpenSpec.upto pagerTwoSpec)

/-- 'cadastrelaw12.PagerForms', WHERE WHAT IT READS IS OF BULK AT MOST 1048576: true; the input reads as it did. -/
def pagerFormsUptoRow : OpenClaim := { program := "ytamhjjagjjdmoaagreat", sum := "0546aef1b06138fa5464d9902223ad3e0754f3bf98a08a8d36eeef46010ad970", func := "cadastre/cadastrelaw12.PagerForms", spec := "pagerForms", inPlace := ["maps.clone"], unfollowed := true, recurses := true, apart := false, narrowed := true }
def PagerFormsUptoSaid : Prop := pagerFormsUptoRow.holds Tryz.pinned (OpenSpec.upto pagerFormsSpec)

/-- 'cadastrelaw12.PagerMarks', WHERE WHAT IT READS IS OF BULK AT MOST 1048576: true; the input reads as it did. -/
def pagerMarksUptoRow : OpenClaim := { program := "ytamhjjagjjdmoaagreat", sum := "0546aef1b06138fa5464d9902223ad3e0754f3bf98a08a8d36eeef46010ad970", func := "cadastre/cadastrelaw12.PagerMarks", spec := "pagerMarks", inPlace := ["maps.clone"], unfollowed := true, recurses := true, apart := false, narrowed := true }
def PagerMarksUptoSaid : Prop := pagerMarksUptoRow.holds Tryz.pinned (OpenSpec.upto pagerMarksSpec)

/-- 'cadastrelaw12.PagerLasts', WHERE WHAT IT READS IS OF BULK AT MOST 1048576: true; the input reads as it did. -/
def pagerLastsUptoRow : OpenClaim := { program := "ytamhjjagjjdmoaagreat", sum := "0546aef1b06138fa5464d9902223ad3e0754f3bf98a08a8d36eeef46010ad970", func := "cadastre/cadastrelaw12.PagerLasts", spec := "pagerLasts", unfollowed := true, recurses := true, apart := false, narrowed := true }
def PagerLastsUptoSaid : Prop := pagerLastsUptoRow.holds Tryz.pinned (OpenSpec.upto pagerLastsSpec)

/-- 'cadastrelaw12.PagerModel', WHERE WHAT IT READS IS OF BULK AT MOST 1048576: true; the input reads as it did. -/
def pagerModelUptoRow : OpenClaim := { program := "ytamhjjagjjdmoaagreat", sum := "0546aef1b06138fa5464d9902223ad3e0754f3bf98a08a8d36eeef46010ad970", func := "cadastre/cadastrelaw12.PagerModel", spec := "pagerModel", inPlace := ["maps.clone"], unfollowed := true, recurses := true, apart := false, narrowed := true }
def PagerModelUptoSaid : Prop := pagerModelUptoRow.holds Tryz.pinned (OpenSpec.upto pagerModelSpec)

/-- 'cadastrelaw12.PagerEnds', WHERE WHAT IT READS IS OF BULK AT MOST 1048576: true; the input reads as it did. -/
def pagerEndsUptoRow : OpenClaim := { program := "ytamhjjagjjdmoaagreat", sum := "0546aef1b06138fa5464d9902223ad3e0754f3bf98a08a8d36eeef46010ad970", func := "cadastre/cadastrelaw12.PagerEnds", spec := "pagerEnds", inPlace := ["maps.clone"], unfollowed := true, recurses := true, apart := false, narrowed := true }
def PagerEndsUptoSaid : Prop := pagerEndsUptoRow.holds Tryz.pinned (OpenSpec.upto pagerEndsSpec)

/-- 'cadastrelaw12.PagerCrashes', WHERE WHAT IT READS IS OF BULK AT MOST 1048576: true; the input reads as it did. -/
def pagerCrashesUptoRow : OpenClaim := { program := "ytamhjjagjjdmoaagreat", sum := "0546aef1b06138fa5464d9902223ad3e0754f3bf98a08a8d36eeef46010ad970", func := "cadastre/cadastrelaw12.PagerCrashes", spec := "pagerCrashes", unfollowed := true, recurses := true, apart := false, narrowed := true }
def PagerCrashesUptoSaid : Prop := pagerCrashesUptoRow.holds Tryz.pinned (OpenSpec.upto pagerCrashesSpec)

/-- 'cadastrelaw13.PagesBack', WHERE WHAT IT READS IS OF BULK AT MOST 1048576: true; the input reads as it did. -/
def pagesBackUptoRow : OpenClaim := { program := "ytamhjjagjjdmoaagreat", sum := "0546aef1b06138fa5464d9902223ad3e0754f3bf98a08a8d36eeef46010ad970", func := "cadastre/cadastrelaw13.PagesBack", spec := "pagesBack", inPlace := ["maps.clone"], unfollowed := true, recurses := true, apart := false, narrowed := true }
def PagesBackUptoSaid : Prop := pagesBackUptoRow.holds Tryz.pinned (OpenSpec.upto pagesBackSpec)

/-- 'cadastrelaw12.PagerFolds', WHERE WHAT IT READS IS OF BULK AT MOST 1048576: true; the input reads as it did. -/
def pagerFoldsUptoRow : OpenClaim := { program := "ytamhjjagjjdmoaagreat", sum := "0546aef1b06138fa5464d9902223ad3e0754f3bf98a08a8d36eeef46010ad970", func := "cadastre/cadastrelaw12.PagerFolds", spec := "pagerFolds", inPlace := ["maps.clone"], unfollowed := true, recurses := true, apart := false, narrowed := true }
def PagerFoldsUptoSaid : Prop := pagerFoldsUptoRow.holds Tryz.pinned (OpenSpec.upto pagerFoldsSpec)

/-- 'cadastrelaw13.PagesModel', WHERE WHAT IT READS IS OF BULK AT MOST 1048576: true; the input reads as it did. -/
def pagesModelUptoRow : OpenClaim := { program := "ytamhjjagjjdmoaagreat", sum := "0546aef1b06138fa5464d9902223ad3e0754f3bf98a08a8d36eeef46010ad970", func := "cadastre/cadastrelaw13.PagesModel", spec := "pagesModel", unfollowed := true, recurses := true, apart := false, narrowed := true }
def PagesModelUptoSaid : Prop := pagesModelUptoRow.holds Tryz.pinned (OpenSpec.upto pagesModelSpec)

/-- 'cadastrelaw14.TreeOrders', WHERE WHAT IT READS IS OF BULK AT MOST 1048576: true; the input reads as it did. -/
def treeOrdersUptoRow : OpenClaim := { program := "ytamhjjagjjdmoaagreat", sum := "0546aef1b06138fa5464d9902223ad3e0754f3bf98a08a8d36eeef46010ad970", func := "cadastre/cadastrelaw14.TreeOrders", spec := "treeOrders", inPlace := ["internal/bytealg.Compare", "slices.overlaps[[]byte]", "slices.overlaps[int]"], unfollowed := true, recurses := true, apart := false, narrowed := true }
def TreeOrdersUptoSaid : Prop := treeOrdersUptoRow.holds Tryz.pinned (OpenSpec.upto treeOrdersSpec)

/-- 'cadastrelaw14.TreeWalks', WHERE WHAT IT READS IS OF BULK AT MOST 1048576: true; the input reads as it did. -/
def treeWalksUptoRow : OpenClaim := { program := "ytamhjjagjjdmoaagreat", sum := "0546aef1b06138fa5464d9902223ad3e0754f3bf98a08a8d36eeef46010ad970", func := "cadastre/cadastrelaw14.TreeWalks", spec := "treeWalks", inPlace := ["internal/bytealg.Compare", "slices.overlaps[[]byte]", "slices.overlaps[int]"], unfollowed := true, recurses := true, apart := false, narrowed := true }
def TreeWalksUptoSaid : Prop := treeWalksUptoRow.holds Tryz.pinned (OpenSpec.upto treeWalksSpec)

/-- 'cadastrelaw14.TreeNone', WHERE WHAT IT READS IS OF BULK AT MOST 1048576: true; the input reads as it did. -/
def treeNoneUptoRow : OpenClaim := { program := "ytamhjjagjjdmoaagreat", sum := "0546aef1b06138fa5464d9902223ad3e0754f3bf98a08a8d36eeef46010ad970", func := "cadastre/cadastrelaw14.TreeNone", spec := "treeNone", inPlace := ["internal/bytealg.Compare", "slices.overlaps[[]byte]", "slices.overlaps[int]"], unfollowed := true, recurses := true, apart := false, narrowed := true }
def TreeNoneUptoSaid : Prop := treeNoneUptoRow.holds Tryz.pinned (OpenSpec.upto treeNoneSpec)

end Rows
end Go.Proofs.YtamhjjagjjdmoaaGreat
