import Derived.Test.YtdkfkdekiljcoaaQ
set_option linter.unusedSimpArgs false
set_option linter.unusedVariables false
namespace Go.Proofs.Ytdkfkdekiljcoaa
open Go.RowKit

def isPlain (k : Int) : Prop := k = 1 ∨ k = 2 ∨ k = 3 ∨ k = 4 ∨ k = 5 ∨ k = 13 ∨ k = 14
def E0 : ByteArray := ⟨#[]⟩
/-- The explicit form of validity, class by class. -/
def VForm (k i1 i2 i3 i4 i5 : Int) (root data : ByteArray) : Prop :=
  (isPlain k ∧ i1 = 0 ∧ i2 = 0 ∧ i3 = 0 ∧ i4 = 0 ∧ i5 = 0 ∧ root = E0 ∧ data = E0) ∨
  ((k = 6 ∨ k = 12 ∨ k = 16) ∧ (0 ≤ i1 ∧ i1 ≤ 4294967295) ∧ i2 = 0 ∧ i3 = 0 ∧ i4 = 0 ∧ i5 = 0 ∧ root = E0 ∧ data = E0) ∨
  (k = 7 ∧ (data.size : Int) ≤ 512 ∧ i1 = 0 ∧ i2 = 0 ∧ i3 = 0 ∧ i4 = 0 ∧ i5 = 0 ∧ root = E0) ∨
  ((k = 8 ∨ k = 10 ∨ k = 15) ∧ (0 ≤ i1 ∧ i1 ≤ 4294967295) ∧ (0 ≤ i2 ∧ i2 ≤ 4294967295) ∧ (1 ≤ i3 ∧ i3 ≤ 1024) ∧ i4 = 0 ∧ i5 = 0 ∧ root = E0 ∧ data = E0) ∨
  (k = 9 ∧ (0 ≤ i1 ∧ i1 ≤ 4294967295) ∧ (0 ≤ i2 ∧ i2 ≤ 4294967295) ∧ (1 ≤ (data.size : Int) ∧ (data.size : Int) ≤ 1024) ∧ i3 = 0 ∧ i4 = 0 ∧ i5 = 0 ∧ root = E0) ∨
  (k = 11 ∧ (1 ≤ i1 ∧ i1 ≤ 65535) ∧ i2 = 0 ∧ i3 = 0 ∧ i4 = 0 ∧ i5 = 0 ∧ root = E0 ∧ data = E0) ∨
  (k = 17 ∧ (0 ≤ i1 ∧ i1 ≤ 255) ∧ (data.size : Int) ≤ 4096 ∧ i2 = 0 ∧ i3 = 0 ∧ i4 = 0 ∧ i5 = 0 ∧ root = E0) ∨
  ((k = 18 ∨ k = 20) ∧ (32 ≤ (root.size : Int) ∧ (root.size : Int) ≤ 32) ∧ (0 ≤ i4 ∧ i4 ≤ 4294967295) ∧ (0 ≤ i1 ∧ i1 ≤ 4294967295) ∧ (0 ≤ i3 ∧ i3 ≤ 4294967295) ∧ (0 ≤ i5 ∧ i5 ≤ 4294967295) ∧ i2 = 0 ∧ data = E0) ∨
  (k = 19 ∧ (32 ≤ (root.size : Int) ∧ (root.size : Int) ≤ 32) ∧ (0 ≤ i4 ∧ i4 ≤ 4294967295) ∧ (0 ≤ i1 ∧ i1 ≤ 4294967295) ∧ (0 ≤ i3 ∧ i3 ≤ 4294967295) ∧ (0 ≤ i5 ∧ i5 ≤ 4294967295) ∧ 32 ≤ (data.size : Int) ∧ (data.size : Int) ≤ 2048 ∧ (data.size : Int) % 32 = 0 ∧ i2 = 0)
end Go.Proofs.Ytdkfkdekiljcoaa
