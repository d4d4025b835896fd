/- Contracts of the marks: whole numbers, texts. -/
import Derived.Test.YtoejpoioleffpaaM1
import Derived.Test.YtoejpoioleffpaaProg
namespace Go.Proofs.Ytoejpoioleffpaa
set_option linter.all false
open Go Go.RowKit Go.Proofs


theorem dig_pos {n : Nat} (h : ¬ n = 0) : dig n = dig (n / 10) ++ [UInt8.ofNat (48 + n % 10)] := by
  rw [dig]; simp [h]
theorem dig_zero : dig 0 = [] := by rw [dig]; simp

end Go.Proofs.Ytoejpoioleffpaa
