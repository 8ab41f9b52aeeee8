/-
  NARROWER THAN 'FOR EVERY INPUT', by the rows' own cells (each row's printed sentence says how): RankTexts: loops · RankTypes: loops.
  DERIVED. THE GIVEN ROWS OF THIS SEAT. 8 by the template 'for every input the law returns true; each argument reads behind the call as it read before'; 0 by the template 'total and deterministic' (their statements: YtjgnhhgigickaaaTotals.lean).
  GIVEN WITH THE SEED: the statements are not yours to turn. If you find one false, say at which input.
  Laid BY PROGRAM, IN A SANDBOX (cutbox-rows.mjs): the forced cells as the released guide's own fill.sh prints them over the translation f890470ead7ea8fd… (all of the seat's roots in one cut). By AI agents, Wed Nov 11 2026. No macro, syntax, notation, axiom, sorry.
-/
import Derived.Test.YtjgnhhgigickaaaChecked
import GoSem.Claim
import GoSem.ClaimJoined
import GoSem.ClaimMapViews
import Derived.JoinedTies
import Derived.KernelRfl
namespace Go.Proofs.Ytjgnhhgigickaaa
/- THE CELL 'sum', in the pinned program and in every row, IS THE sha256 OF THE DUMP (.gsa) THAT YtjgnhhgigickaaaProg.lean LOADS. Nothing in Lean hashes anything: it is a label: what it is worth is what the hold of that sum in a sandbox is worth. -/
noncomputable def Try.pinned : Pinned := { name := "ytjgnhhgigickaaa", sum := "f890470ead7ea8fd9b92f3e7477c7df89d1c3c412979850e40a825908ed89964", checked := Try.checked }
namespace Rows
def none {H : Type} : Left H := { results := [], args := [] }

/-- 'hoarstonelaw14.RankTexts': WHATEVER THE INPUT: true; the input reads as it did. -/
def rankTextsSpec : ChangeSpec := { name := "rankTexts", fn := fun _ => fun
  | [d1, d2] => { results := [.lit (.bool true)], args := [d1, d2] }
  | _ => none }
def rankTextsRow : OpenClaim := { program := "ytjgnhhgigickaaa", sum := "f890470ead7ea8fd9b92f3e7477c7df89d1c3c412979850e40a825908ed89964", func := "hoarstone/hoarstonelaw14.RankTexts", spec := "rankTexts", unfollowed := true, recurses := true, loops := true, apart := false }
def RankTextsSaid : Prop := rankTextsRow.holds Try.pinned (OpenSpec.ofChange rankTextsSpec)

/-- ITS FALSE NEIGHBOUR: 'it returns false'. Refute it at one input. -/
def rankTextsWrong : ChangeSpec := { name := "rankTexts", fn := fun _ => fun
  | [d1, d2] => { results := [.lit (.bool false)], args := [d1, d2] }
  | _ => none }
def RankTextsWrongFalsely : Prop := rankTextsRow.holds Try.pinned (OpenSpec.ofChange rankTextsWrong)

/-- 'hoarstonelaw14.RankOrder': WHATEVER THE INPUT: true; the input reads as it did. -/
def rankOrderSpec : ChangeSpec := { name := "rankOrder", fn := fun _ => fun
  | [d1, d2, d3, d4] => { results := [.lit (.bool true)], args := [d1, d2, d3, d4] }
  | _ => none }
def rankOrderRow : OpenClaim := { program := "ytjgnhhgigickaaa", sum := "f890470ead7ea8fd9b92f3e7477c7df89d1c3c412979850e40a825908ed89964", func := "hoarstone/hoarstonelaw14.RankOrder", spec := "rankOrder", unfollowed := true, recurses := true, apart := false }
def RankOrderSaid : Prop := rankOrderRow.holds Try.pinned (OpenSpec.ofChange rankOrderSpec)

/-- ITS FALSE NEIGHBOUR: 'it returns false'. Refute it at one input. -/
def rankOrderWrong : ChangeSpec := { name := "rankOrder", fn := fun _ => fun
  | [d1, d2, d3, d4] => { results := [.lit (.bool false)], args := [d1, d2, d3, d4] }
  | _ => none }
def RankOrderWrongFalsely : Prop := rankOrderRow.holds Try.pinned (OpenSpec.ofChange rankOrderWrong)

/-- 'hoarstonelaw14.RankRead': WHATEVER THE INPUT: true; the input reads as it did. -/
def rankReadSpec : ChangeSpec := { name := "rankRead", fn := fun _ => fun
  | [d1, d2, d3] => { results := [.lit (.bool true)], args := [d1, d2, d3] }
  | _ => none }
def rankReadRow : OpenClaim := { program := "ytjgnhhgigickaaa", sum := "f890470ead7ea8fd9b92f3e7477c7df89d1c3c412979850e40a825908ed89964", func := "hoarstone/hoarstonelaw14.RankRead", spec := "rankRead", unfollowed := true, recurses := true, apart := false }
def RankReadSaid : Prop := rankReadRow.holds Try.pinned (OpenSpec.ofChange rankReadSpec)

/-- ITS FALSE NEIGHBOUR: 'it returns false'. Refute it at one input. -/
def rankReadWrong : ChangeSpec := { name := "rankRead", fn := fun _ => fun
  | [d1, d2, d3] => { results := [.lit (.bool false)], args := [d1, d2, d3] }
  | _ => none }
def RankReadWrongFalsely : Prop := rankReadRow.holds Try.pinned (OpenSpec.ofChange rankReadWrong)

/-- 'hoarstonelaw14.RankHas': WHATEVER THE INPUT: true; the input reads as it did. -/
def rankHasSpec : ChangeSpec := { name := "rankHas", fn := fun _ => fun
  | [d1, d2] => { results := [.lit (.bool true)], args := [d1, d2] }
  | _ => none }
def rankHasRow : OpenClaim := { program := "ytjgnhhgigickaaa", sum := "f890470ead7ea8fd9b92f3e7477c7df89d1c3c412979850e40a825908ed89964", func := "hoarstone/hoarstonelaw14.RankHas", spec := "rankHas", unfollowed := true, recurses := true, apart := false }
def RankHasSaid : Prop := rankHasRow.holds Try.pinned (OpenSpec.ofChange rankHasSpec)

/-- ITS FALSE NEIGHBOUR: 'it returns false'. Refute it at one input. -/
def rankHasWrong : ChangeSpec := { name := "rankHas", fn := fun _ => fun
  | [d1, d2] => { results := [.lit (.bool false)], args := [d1, d2] }
  | _ => none }
def RankHasWrongFalsely : Prop := rankHasRow.holds Try.pinned (OpenSpec.ofChange rankHasWrong)

/-- 'hoarstonelaw14.RankPlain': WHATEVER THE INPUT: true; the input reads as it did. -/
def rankPlainSpec : ChangeSpec := { name := "rankPlain", fn := fun _ => fun
  | [d] => { results := [.lit (.bool true)], args := [d] }
  | _ => none }
def rankPlainRow : OpenClaim := { program := "ytjgnhhgigickaaa", sum := "f890470ead7ea8fd9b92f3e7477c7df89d1c3c412979850e40a825908ed89964", func := "hoarstone/hoarstonelaw14.RankPlain", spec := "rankPlain", unfollowed := true, recurses := true, apart := false }
def RankPlainSaid : Prop := rankPlainRow.holds Try.pinned (OpenSpec.ofChange rankPlainSpec)

/-- ITS FALSE NEIGHBOUR: 'it returns false'. Refute it at one input. -/
def rankPlainWrong : ChangeSpec := { name := "rankPlain", fn := fun _ => fun
  | [d] => { results := [.lit (.bool false)], args := [d] }
  | _ => none }
def RankPlainWrongFalsely : Prop := rankPlainRow.holds Try.pinned (OpenSpec.ofChange rankPlainWrong)

/-- 'hoarstonelaw14.RankGeneral': WHATEVER THE INPUT: true; the input reads as it did. -/
def rankGeneralSpec : ChangeSpec := { name := "rankGeneral", fn := fun _ => fun
  | [d1, d2] => { results := [.lit (.bool true)], args := [d1, d2] }
  | _ => none }
def rankGeneralRow : OpenClaim := { program := "ytjgnhhgigickaaa", sum := "f890470ead7ea8fd9b92f3e7477c7df89d1c3c412979850e40a825908ed89964", func := "hoarstone/hoarstonelaw14.RankGeneral", spec := "rankGeneral", unfollowed := true, recurses := true, apart := false }
def RankGeneralSaid : Prop := rankGeneralRow.holds Try.pinned (OpenSpec.ofChange rankGeneralSpec)

/-- ITS FALSE NEIGHBOUR: 'it returns false'. Refute it at one input. -/
def rankGeneralWrong : ChangeSpec := { name := "rankGeneral", fn := fun _ => fun
  | [d1, d2] => { results := [.lit (.bool false)], args := [d1, d2] }
  | _ => none }
def RankGeneralWrongFalsely : Prop := rankGeneralRow.holds Try.pinned (OpenSpec.ofChange rankGeneralWrong)

/-- 'hoarstonelaw14.RankTypes': WHATEVER THE INPUT: true; the input reads as it did. -/
def rankTypesSpec : ChangeSpec := { name := "rankTypes", fn := fun _ => fun
  | [d1, d2, d3] => { results := [.lit (.bool true)], args := [d1, d2, d3] }
  | _ => none }
def rankTypesRow : OpenClaim := { program := "ytjgnhhgigickaaa", sum := "f890470ead7ea8fd9b92f3e7477c7df89d1c3c412979850e40a825908ed89964", func := "hoarstone/hoarstonelaw14.RankTypes", spec := "rankTypes", unfollowed := true, recurses := true, loops := true, apart := false }
def RankTypesSaid : Prop := rankTypesRow.holds Try.pinned (OpenSpec.ofChange rankTypesSpec)

/-- ITS FALSE NEIGHBOUR: 'it returns false'. Refute it at one input. -/
def rankTypesWrong : ChangeSpec := { name := "rankTypes", fn := fun _ => fun
  | [d1, d2, d3] => { results := [.lit (.bool false)], args := [d1, d2, d3] }
  | _ => none }
def RankTypesWrongFalsely : Prop := rankTypesRow.holds Try.pinned (OpenSpec.ofChange rankTypesWrong)

/-- 'hoarstonelaw14.RankShown': WHATEVER THE INPUT: true; the input reads as it did. -/
def rankShownSpec : ChangeSpec := { name := "rankShown", fn := fun _ => fun
  | [d1, d2, d3] => { results := [.lit (.bool true)], args := [d1, d2, d3] }
  | _ => none }
def rankShownRow : OpenClaim := { program := "ytjgnhhgigickaaa", sum := "f890470ead7ea8fd9b92f3e7477c7df89d1c3c412979850e40a825908ed89964", func := "hoarstone/hoarstonelaw14.RankShown", spec := "rankShown", unfollowed := true, recurses := true, apart := false }
def RankShownSaid : Prop := rankShownRow.holds Try.pinned (OpenSpec.ofChange rankShownSpec)

/-- ITS FALSE NEIGHBOUR: 'it returns false'. Refute it at one input. -/
def rankShownWrong : ChangeSpec := { name := "rankShown", fn := fun _ => fun
  | [d1, d2, d3] => { results := [.lit (.bool false)], args := [d1, d2, d3] }
  | _ => none }
def RankShownWrongFalsely : Prop := rankShownRow.holds Try.pinned (OpenSpec.ofChange rankShownWrong)

/- THE SECOND FORM. 'bulk': how many values and letters a reading holds, each counted each time it is reached (what is shared counts as often as it is met; a slice's spare places count too). A statement '..UptoSaid' is the law's where the arguments, and the package variables that the reading takes, are together of bulk at most 1048576: NARROWER than '..Said'. Prove '..Said' where nothing that the law and all that it calls make is longer than what came in: it says more and counts as full. Else prove '..UptoSaid'. A law counts once. -/
mutual
def uptoBulk {H : Type} : DataW H → Nat
  | .lit (.string bytes) => bytes.length + 1
  | .lit _ => 1
  | .nil => 1
  | .ptr d => uptoBulk d + 1
  | .slice elems spare => uptoBulkAll elems + uptoBulkAll spare + 1
  | .agg parts => uptoBulkAll parts + 1
  | .iface _ d => uptoBulk d + 1
  | .map entries => uptoBulkEntries entries + 1
  | .held _ => 1
def uptoBulkAll {H : Type} : List (DataW H) → Nat
  | [] => 0
  | d :: r => uptoBulk d + uptoBulkAll r
def uptoBulkEntries {H : Type} : List (Lit × DataW H) → Nat
  | [] => 0
  | x :: r => uptoBulkEntry x + uptoBulkEntries r
def uptoBulkEntry {H : Type} : Lit × DataW H → Nat
  | (.string bytes, d) => bytes.length + uptoBulk d + 1
  | (_, d) => uptoBulk d + 1
 end
def uptoSmall : (H : Type) → List (DataW H) → Bool := fun _ ds => decide (uptoBulkAll ds ≤ 1048576)
def OpenSpec.upto (s : _root_.Go.ChangeSpec) : _root_.Go.OpenSpec := { _root_.Go.OpenSpec.ofChange s with cond := some uptoSmall }

/-- 'hoarstonelaw14.RankTexts', WHERE WHAT IT READS IS OF BULK AT MOST 1048576: true; the input reads as it did. -/
def rankTextsUptoRow : OpenClaim := { program := "ytjgnhhgigickaaa", sum := "f890470ead7ea8fd9b92f3e7477c7df89d1c3c412979850e40a825908ed89964", func := "hoarstone/hoarstonelaw14.RankTexts", spec := "rankTexts", unfollowed := true, recurses := true, loops := true, apart := false, narrowed := true }
def RankTextsUptoSaid : Prop := rankTextsUptoRow.holds Try.pinned (OpenSpec.upto rankTextsSpec)

/-- 'hoarstonelaw14.RankOrder', WHERE WHAT IT READS IS OF BULK AT MOST 1048576: true; the input reads as it did. -/
def rankOrderUptoRow : OpenClaim := { program := "ytjgnhhgigickaaa", sum := "f890470ead7ea8fd9b92f3e7477c7df89d1c3c412979850e40a825908ed89964", func := "hoarstone/hoarstonelaw14.RankOrder", spec := "rankOrder", unfollowed := true, recurses := true, apart := false, narrowed := true }
def RankOrderUptoSaid : Prop := rankOrderUptoRow.holds Try.pinned (OpenSpec.upto rankOrderSpec)

/-- 'hoarstonelaw14.RankRead', WHERE WHAT IT READS IS OF BULK AT MOST 1048576: true; the input reads as it did. -/
def rankReadUptoRow : OpenClaim := { program := "ytjgnhhgigickaaa", sum := "f890470ead7ea8fd9b92f3e7477c7df89d1c3c412979850e40a825908ed89964", func := "hoarstone/hoarstonelaw14.RankRead", spec := "rankRead", unfollowed := true, recurses := true, apart := false, narrowed := true }
def RankReadUptoSaid : Prop := rankReadUptoRow.holds Try.pinned (OpenSpec.upto rankReadSpec)

/-- 'hoarstonelaw14.RankHas', WHERE WHAT IT READS IS OF BULK AT MOST 1048576: true; the input reads as it did. -/
def rankHasUptoRow : OpenClaim := { program := "ytjgnhhgigickaaa", sum := "f890470ead7ea8fd9b92f3e7477c7df89d1c3c412979850e40a825908ed89964", func := "hoarstone/hoarstonelaw14.RankHas", spec := "rankHas", unfollowed := true, recurses := true, apart := false, narrowed := true }
def RankHasUptoSaid : Prop := rankHasUptoRow.holds Try.pinned (OpenSpec.upto rankHasSpec)

/-- 'hoarstonelaw14.RankPlain', WHERE WHAT IT READS IS OF BULK AT MOST 1048576: true; the input reads as it did. -/
def rankPlainUptoRow : OpenClaim := { program := "ytjgnhhgigickaaa", sum := "f890470ead7ea8fd9b92f3e7477c7df89d1c3c412979850e40a825908ed89964", func := "hoarstone/hoarstonelaw14.RankPlain", spec := "rankPlain", unfollowed := true, recurses := true, apart := false, narrowed := true }
def RankPlainUptoSaid : Prop := rankPlainUptoRow.holds Try.pinned (OpenSpec.upto rankPlainSpec)

/-- 'hoarstonelaw14.RankGeneral', WHERE WHAT IT READS IS OF BULK AT MOST 1048576: true; the input reads as it did. -/
def rankGeneralUptoRow : OpenClaim := { program := "ytjgnhhgigickaaa", sum := "f890470ead7ea8fd9b92f3e7477c7df89d1c3c412979850e40a825908ed89964", func := "hoarstone/hoarstonelaw14.RankGeneral", spec := "rankGeneral", unfollowed := true, recurses := true, apart := false, narrowed := true }
def RankGeneralUptoSaid : Prop := rankGeneralUptoRow.holds Try.pinned (OpenSpec.upto rankGeneralSpec)

/-- 'hoarstonelaw14.RankTypes', WHERE WHAT IT READS IS OF BULK AT MOST 1048576: true; the input reads as it did. -/
def rankTypesUptoRow : OpenClaim := { program := "ytjgnhhgigickaaa", sum := "f890470ead7ea8fd9b92f3e7477c7df89d1c3c412979850e40a825908ed89964", func := "hoarstone/hoarstonelaw14.RankTypes", spec := "rankTypes", unfollowed := true, recurses := true, loops := true, apart := false, narrowed := true }
def RankTypesUptoSaid : Prop := rankTypesUptoRow.holds Try.pinned (OpenSpec.upto rankTypesSpec)

/-- 'hoarstonelaw14.RankShown', WHERE WHAT IT READS IS OF BULK AT MOST 1048576: true; the input reads as it did. -/
def rankShownUptoRow : OpenClaim := { program := "ytjgnhhgigickaaa", sum := "f890470ead7ea8fd9b92f3e7477c7df89d1c3c412979850e40a825908ed89964", func := "hoarstone/hoarstonelaw14.RankShown", spec := "rankShown", unfollowed := true, recurses := true, apart := false, narrowed := true }
def RankShownUptoSaid : Prop := rankShownUptoRow.holds Try.pinned (OpenSpec.upto rankShownSpec)

end Rows
end Go.Proofs.Ytjgnhhgigickaaa
