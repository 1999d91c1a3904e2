/-
  No cell of these rows narrows 'for every input' (looked for: loops, veiled, ifaces, maps, wideKeys, modest, calm, conditions, laid).
  DERIVED. THE GIVEN ROWS OF THIS SEAT. 8 by the template 'for every input the law returns true; each argument reads behind the call as it read before'; 0 by the template 'total and deterministic' (their statements: YtnpgplgbnmphdaaTotals.lean).
  GIVEN WITH THE SEED: the statements are not yours to turn. If you find one false, say at which input.
  Laid BY PROGRAM, IN A SANDBOX (cutbox-rows.mjs): the forced cells as the released guide's own fill.sh prints them over the translation 4f8770f8e3870978… (all of the seat's roots in one cut). By AI agents, Wed Nov 11 2026. No macro, syntax, notation, axiom, sorry.
-/
import Derived.Test.YtnpgplgbnmphdaaChecked
import GoSem.Claim
import GoSem.ClaimJoined
import GoSem.ClaimMapViews
import Derived.JoinedTies
import Derived.KernelRfl
namespace Go.Proofs.Ytnpgplgbnmphdaa
/- THE CELL 'sum', in the pinned program and in every row, IS THE sha256 OF THE DUMP (.gsa) THAT YtnpgplgbnmphdaaProg.lean LOADS. Nothing in Lean hashes anything: it is a label: what it is worth is what the hold of that sum in a sandbox is worth. -/
noncomputable def Try.pinned : Pinned := { name := "ytnpgplgbnmphdaa", sum := "4f8770f8e387097879f40ab1992614357aaf0a7c1da78492450eeb30ddb575e6", checked := Try.checked }
namespace Rows
def none {H : Type} : Left H := { results := [], args := [] }

/-- 'sextonlaw01.TlvNums': WHATEVER THE INPUT: true; the input reads as it did. -/
def tlvNumsSpec : ChangeSpec := { name := "tlvNums", fn := fun _ => fun
  | [d1, d2] => { results := [.lit (.bool true)], args := [d1, d2] }
  | _ => none }
def tlvNumsRow : OpenClaim := { program := "ytnpgplgbnmphdaa", sum := "4f8770f8e387097879f40ab1992614357aaf0a7c1da78492450eeb30ddb575e6", func := "sexton/sextonlaw01.TlvNums", spec := "tlvNums", apart := false }
def TlvNumsSaid : Prop := tlvNumsRow.holds Try.pinned (OpenSpec.ofChange tlvNumsSpec)

/-- ITS FALSE NEIGHBOUR: 'it returns false'. Refute it at one input. -/
def tlvNumsWrong : ChangeSpec := { name := "tlvNums", fn := fun _ => fun
  | [d1, d2] => { results := [.lit (.bool false)], args := [d1, d2] }
  | _ => none }
def TlvNumsWrongFalsely : Prop := tlvNumsRow.holds Try.pinned (OpenSpec.ofChange tlvNumsWrong)

/-- 'sextonlaw01.TlvNumbers': WHATEVER THE INPUT: true; the input reads as it did. -/
def tlvNumbersSpec : ChangeSpec := { name := "tlvNumbers", fn := fun _ => fun
  | [d] => { results := [.lit (.bool true)], args := [d] }
  | _ => none }
def tlvNumbersRow : OpenClaim := { program := "ytnpgplgbnmphdaa", sum := "4f8770f8e387097879f40ab1992614357aaf0a7c1da78492450eeb30ddb575e6", func := "sexton/sextonlaw01.TlvNumbers", spec := "tlvNumbers", apart := false }
def TlvNumbersSaid : Prop := tlvNumbersRow.holds Try.pinned (OpenSpec.ofChange tlvNumbersSpec)

/-- ITS FALSE NEIGHBOUR: 'it returns false'. Refute it at one input. -/
def tlvNumbersWrong : ChangeSpec := { name := "tlvNumbers", fn := fun _ => fun
  | [d] => { results := [.lit (.bool false)], args := [d] }
  | _ => none }
def TlvNumbersWrongFalsely : Prop := tlvNumbersRow.holds Try.pinned (OpenSpec.ofChange tlvNumbersWrong)

/-- 'sextonlaw01.TlvFinds': WHATEVER THE INPUT: true; the input reads as it did. -/
def tlvFindsSpec : ChangeSpec := { name := "tlvFinds", fn := fun _ => fun
  | [d1, d2] => { results := [.lit (.bool true)], args := [d1, d2] }
  | _ => none }
def tlvFindsRow : OpenClaim := { program := "ytnpgplgbnmphdaa", sum := "4f8770f8e387097879f40ab1992614357aaf0a7c1da78492450eeb30ddb575e6", func := "sexton/sextonlaw01.TlvFinds", spec := "tlvFinds", apart := false }
def TlvFindsSaid : Prop := tlvFindsRow.holds Try.pinned (OpenSpec.ofChange tlvFindsSpec)

/-- ITS FALSE NEIGHBOUR: 'it returns false'. Refute it at one input. -/
def tlvFindsWrong : ChangeSpec := { name := "tlvFinds", fn := fun _ => fun
  | [d1, d2] => { results := [.lit (.bool false)], args := [d1, d2] }
  | _ => none }
def TlvFindsWrongFalsely : Prop := tlvFindsRow.holds Try.pinned (OpenSpec.ofChange tlvFindsWrong)

/-- 'sextonlaw01.TlvPacks': WHATEVER THE INPUT: true; the input reads as it did. -/
def tlvPacksSpec : ChangeSpec := { name := "tlvPacks", fn := fun _ => fun
  | [d] => { results := [.lit (.bool true)], args := [d] }
  | _ => none }
def tlvPacksRow : OpenClaim := { program := "ytnpgplgbnmphdaa", sum := "4f8770f8e387097879f40ab1992614357aaf0a7c1da78492450eeb30ddb575e6", func := "sexton/sextonlaw01.TlvPacks", spec := "tlvPacks", apart := false }
def TlvPacksSaid : Prop := tlvPacksRow.holds Try.pinned (OpenSpec.ofChange tlvPacksSpec)

/-- ITS FALSE NEIGHBOUR: 'it returns false'. Refute it at one input. -/
def tlvPacksWrong : ChangeSpec := { name := "tlvPacks", fn := fun _ => fun
  | [d] => { results := [.lit (.bool false)], args := [d] }
  | _ => none }
def TlvPacksWrongFalsely : Prop := tlvPacksRow.holds Try.pinned (OpenSpec.ofChange tlvPacksWrong)

/-- 'sextonlaw01.TlvUnpacks': WHATEVER THE INPUT: true; the input reads as it did. -/
def tlvUnpacksSpec : ChangeSpec := { name := "tlvUnpacks", fn := fun _ => fun
  | [d] => { results := [.lit (.bool true)], args := [d] }
  | _ => none }
def tlvUnpacksRow : OpenClaim := { program := "ytnpgplgbnmphdaa", sum := "4f8770f8e387097879f40ab1992614357aaf0a7c1da78492450eeb30ddb575e6", func := "sexton/sextonlaw01.TlvUnpacks", spec := "tlvUnpacks", apart := false }
def TlvUnpacksSaid : Prop := tlvUnpacksRow.holds Try.pinned (OpenSpec.ofChange tlvUnpacksSpec)

/-- ITS FALSE NEIGHBOUR: 'it returns false'. Refute it at one input. -/
def tlvUnpacksWrong : ChangeSpec := { name := "tlvUnpacks", fn := fun _ => fun
  | [d] => { results := [.lit (.bool false)], args := [d] }
  | _ => none }
def TlvUnpacksWrongFalsely : Prop := tlvUnpacksRow.holds Try.pinned (OpenSpec.ofChange tlvUnpacksWrong)

/-- 'sextonlaw01.TlvParts': WHATEVER THE INPUT: true; the input reads as it did. -/
def tlvPartsSpec : ChangeSpec := { name := "tlvParts", fn := fun _ => fun
  | [d1, d2] => { results := [.lit (.bool true)], args := [d1, d2] }
  | _ => none }
def tlvPartsRow : OpenClaim := { program := "ytnpgplgbnmphdaa", sum := "4f8770f8e387097879f40ab1992614357aaf0a7c1da78492450eeb30ddb575e6", func := "sexton/sextonlaw01.TlvParts", spec := "tlvParts", apart := false }
def TlvPartsSaid : Prop := tlvPartsRow.holds Try.pinned (OpenSpec.ofChange tlvPartsSpec)

/-- ITS FALSE NEIGHBOUR: 'it returns false'. Refute it at one input. -/
def tlvPartsWrong : ChangeSpec := { name := "tlvParts", fn := fun _ => fun
  | [d1, d2] => { results := [.lit (.bool false)], args := [d1, d2] }
  | _ => none }
def TlvPartsWrongFalsely : Prop := tlvPartsRow.holds Try.pinned (OpenSpec.ofChange tlvPartsWrong)

/-- 'sextonlaw01.TlvBack': WHATEVER THE INPUT: true; the input reads as it did. -/
def tlvBackSpec : ChangeSpec := { name := "tlvBack", fn := fun _ => fun
  | [d] => { results := [.lit (.bool true)], args := [d] }
  | _ => none }
def tlvBackRow : OpenClaim := { program := "ytnpgplgbnmphdaa", sum := "4f8770f8e387097879f40ab1992614357aaf0a7c1da78492450eeb30ddb575e6", func := "sexton/sextonlaw01.TlvBack", spec := "tlvBack", apart := false }
def TlvBackSaid : Prop := tlvBackRow.holds Try.pinned (OpenSpec.ofChange tlvBackSpec)

/-- ITS FALSE NEIGHBOUR: 'it returns false'. Refute it at one input. -/
def tlvBackWrong : ChangeSpec := { name := "tlvBack", fn := fun _ => fun
  | [d] => { results := [.lit (.bool false)], args := [d] }
  | _ => none }
def TlvBackWrongFalsely : Prop := tlvBackRow.holds Try.pinned (OpenSpec.ofChange tlvBackWrong)

/-- 'sextonlaw01.TlvAgain': WHATEVER THE INPUT: true; the input reads as it did. -/
def tlvAgainSpec : ChangeSpec := { name := "tlvAgain", fn := fun _ => fun
  | [d1, d2, d3] => { results := [.lit (.bool true)], args := [d1, d2, d3] }
  | _ => none }
def tlvAgainRow : OpenClaim := { program := "ytnpgplgbnmphdaa", sum := "4f8770f8e387097879f40ab1992614357aaf0a7c1da78492450eeb30ddb575e6", func := "sexton/sextonlaw01.TlvAgain", spec := "tlvAgain", apart := false }
def TlvAgainSaid : Prop := tlvAgainRow.holds Try.pinned (OpenSpec.ofChange tlvAgainSpec)

/-- ITS FALSE NEIGHBOUR: 'it returns false'. Refute it at one input. -/
def tlvAgainWrong : ChangeSpec := { name := "tlvAgain", fn := fun _ => fun
  | [d1, d2, d3] => { results := [.lit (.bool false)], args := [d1, d2, d3] }
  | _ => none }
def TlvAgainWrongFalsely : Prop := tlvAgainRow.holds Try.pinned (OpenSpec.ofChange tlvAgainWrong)

/- THE SECOND FORM. 'bulk': how many values and letters a reading holds, each counted each time it is reached (what is shared counts as often as it is met; a slice's spare places count too). A statement '..UptoSaid' is the law's where the arguments, and the package variables that the reading takes, are together of bulk at most 1048576: NARROWER than '..Said'. Prove '..Said' where nothing that the law and all that it calls make is longer than what came in: it says more and counts as full. Else prove '..UptoSaid'. A law counts once. -/
mutual
def uptoBulk {H : Type} : DataW H → Nat
  | .lit (.string bytes) => bytes.length + 1
  | .lit _ => 1
  | .nil => 1
  | .ptr d => uptoBulk d + 1
  | .slice elems spare => uptoBulkAll elems + uptoBulkAll spare + 1
  | .agg parts => uptoBulkAll parts + 1
  | .iface _ d => uptoBulk d + 1
  | .map entries => uptoBulkEntries entries + 1
  | .held _ => 1
def uptoBulkAll {H : Type} : List (DataW H) → Nat
  | [] => 0
  | d :: r => uptoBulk d + uptoBulkAll r
def uptoBulkEntries {H : Type} : List (Lit × DataW H) → Nat
  | [] => 0
  | x :: r => uptoBulkEntry x + uptoBulkEntries r
def uptoBulkEntry {H : Type} : Lit × DataW H → Nat
  | (.string bytes, d) => bytes.length + uptoBulk d + 1
  | (_, d) => uptoBulk d + 1
 end
def uptoSmall : (H : Type) → List (DataW H) → Bool := fun _ ds => decide (uptoBulkAll ds ≤ 1048576)
def OpenSpec.upto (s : _root_.Go.ChangeSpec) : _root_.Go.OpenSpec := { _root_.Go.OpenSpec.ofChange s with cond := some uptoSmall }

/-- 'sextonlaw01.TlvNums', WHERE WHAT IT READS IS OF BULK AT MOST 1048576: true; the input reads as it did. -/
def tlvNumsUptoRow : OpenClaim := { program := "ytnpgplgbnmphdaa", sum := "4f8770f8e387097879f40ab1992614357aaf0a7c1da78492450eeb30ddb575e6", func := "sexton/sextonlaw01.TlvNums", spec := "tlvNums", apart := false, narrowed := true }
def TlvNumsUptoSaid : Prop := tlvNumsUptoRow.holds Try.pinned (OpenSpec.upto tlvNumsSpec)

/-- 'sextonlaw01.TlvNumbers', WHERE WHAT IT READS IS OF BULK AT MOST 1048576: true; the input reads as it did. -/
def tlvNumbersUptoRow : OpenClaim := { program := "ytnpgplgbnmphdaa", sum := "4f8770f8e387097879f40ab1992614357aaf0a7c1da78492450eeb30ddb575e6", func := "sexton/sextonlaw01.TlvNumbers", spec := "tlvNumbers", apart := false, narrowed := true }
def TlvNumbersUptoSaid : Prop := tlvNumbersUptoRow.holds Try.pinned (OpenSpec.upto tlvNumbersSpec)

/-- 'sextonlaw01.TlvFinds', WHERE WHAT IT READS IS OF BULK AT MOST 1048576: true; the input reads as it did. -/
def tlvFindsUptoRow : OpenClaim := { program := "ytnpgplgbnmphdaa", sum := "4f8770f8e387097879f40ab1992614357aaf0a7c1da78492450eeb30ddb575e6", func := "sexton/sextonlaw01.TlvFinds", spec := "tlvFinds", apart := false, narrowed := true }
def TlvFindsUptoSaid : Prop := tlvFindsUptoRow.holds Try.pinned (OpenSpec.upto tlvFindsSpec)

/-- 'sextonlaw01.TlvPacks', WHERE WHAT IT READS IS OF BULK AT MOST 1048576: true; the input reads as it did. -/
def tlvPacksUptoRow : OpenClaim := { program := "ytnpgplgbnmphdaa", sum := "4f8770f8e387097879f40ab1992614357aaf0a7c1da78492450eeb30ddb575e6", func := "sexton/sextonlaw01.TlvPacks", spec := "tlvPacks", apart := false, narrowed := true }
def TlvPacksUptoSaid : Prop := tlvPacksUptoRow.holds Try.pinned (OpenSpec.upto tlvPacksSpec)

/-- 'sextonlaw01.TlvUnpacks', WHERE WHAT IT READS IS OF BULK AT MOST 1048576: true; the input reads as it did. -/
def tlvUnpacksUptoRow : OpenClaim := { program := "ytnpgplgbnmphdaa", sum := "4f8770f8e387097879f40ab1992614357aaf0a7c1da78492450eeb30ddb575e6", func := "sexton/sextonlaw01.TlvUnpacks", spec := "tlvUnpacks", apart := false, narrowed := true }
def TlvUnpacksUptoSaid : Prop := tlvUnpacksUptoRow.holds Try.pinned (OpenSpec.upto tlvUnpacksSpec)

/-- 'sextonlaw01.TlvParts', WHERE WHAT IT READS IS OF BULK AT MOST 1048576: true; the input reads as it did. -/
def tlvPartsUptoRow : OpenClaim := { program := "ytnpgplgbnmphdaa", sum := "4f8770f8e387097879f40ab1992614357aaf0a7c1da78492450eeb30ddb575e6", func := "sexton/sextonlaw01.TlvParts", spec := "tlvParts", apart := false, narrowed := true }
def TlvPartsUptoSaid : Prop := tlvPartsUptoRow.holds Try.pinned (OpenSpec.upto tlvPartsSpec)

/-- 'sextonlaw01.TlvBack', WHERE WHAT IT READS IS OF BULK AT MOST 1048576: true; the input reads as it did. -/
def tlvBackUptoRow : OpenClaim := { program := "ytnpgplgbnmphdaa", sum := "4f8770f8e387097879f40ab1992614357aaf0a7c1da78492450eeb30ddb575e6", func := "sexton/sextonlaw01.TlvBack", spec := "tlvBack", apart := false, narrowed := true }
def TlvBackUptoSaid : Prop := tlvBackUptoRow.holds Try.pinned (OpenSpec.upto tlvBackSpec)

/-- 'sextonlaw01.TlvAgain', WHERE WHAT IT READS IS OF BULK AT MOST 1048576: true; the input reads as it did. -/
def tlvAgainUptoRow : OpenClaim := { program := "ytnpgplgbnmphdaa", sum := "4f8770f8e387097879f40ab1992614357aaf0a7c1da78492450eeb30ddb575e6", func := "sexton/sextonlaw01.TlvAgain", spec := "tlvAgain", apart := false, narrowed := true }
def TlvAgainUptoSaid : Prop := tlvAgainUptoRow.holds Try.pinned (OpenSpec.upto tlvAgainSpec)

end Rows
end Go.Proofs.Ytnpgplgbnmphdaa
