import Derived.Test.YthdnpgpnodgicaaGreatPbT
set_option linter.unusedVariables false
set_option linter.unusedSimpArgs false
set_option maxRecDepth 100000
namespace Go.Proofs.YthdnpgpnodgicaaGreat
open Go Go.Pb Go.RowKit
def shlI (a b : Int) : Int := wr (a * 2 ^ min b.toNat 64)
def shrI (a b : Int) : Int := Int.fdiv a (2 ^ min b.toNat 64)
theorem bv7 {P : Program} {t : TypeId} {ox oy : Operand} {a b : Int} (h : 0 ≤ b) : binF P .shl t ox oy (vi a) (vi b) = some (vi (shlI a b)) := al4 di4 (fun _ _ => rfl) (by
 simp only [Op.shift]; rw [if_neg (by omega)]; rfl)
theorem ee0 {P : Program} {t : TypeId} {ox oy : Operand} {a b : Int} (h : 0 ≤ b) : binF P .shr t ox oy (vi a) (vi b) = some (vi (shrI a b)) := al4 cf1 (fun _ _ => rfl) (by
 simp only [Op.shift]; rw [if_neg (by omega)]; rfl)
theorem as3 {b : Int} (h0 : 0 ≤ b) (h1 : b ≤ 32) : shlI 1 b = 2 ^ b.toNat := by
 unfold shlI
 have h : (2 : Int) ^ b.toNat ≤ 2 ^ 32 := by exact_mod_cast Nat.pow_le_pow_right (n := 2) (by decide) (by omega)
 have h2 : (0 : Int) < 2 ^ b.toNat := Int.pow_pos (by decide)
 rw [Nat.min_eq_left (by omega), Int.one_mul, dm (by omega) (by omega)]
end Go.Proofs.YthdnpgpnodgicaaGreat
