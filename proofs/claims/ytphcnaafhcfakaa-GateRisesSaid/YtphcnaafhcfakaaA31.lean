/-
  The law that data sent again are what they were: the walk.
-/
import Derived.Test.YtphcnaafhcfakaaA30
-- all by hand
namespace Go.Proofs.Ytphcnaafhcfakaa
open Go.Hb Go.ChangeShapes Go.WideShapes
attribute [local irreducible] LR CW At Ev thn blk finK noG again CallsTo DW QL dnext TW
set_option linter.unusedSimpArgs false
set_option linter.unusedVariables false
set_option maxRecDepth 100000

def broughtD (d : Dat) : Dat := ⟨1 + bring d.rseq 9007199254740991, 1 + bring d.rrep 8, 1 + bring d.seq 9007199254740991, 1 + bring d.sender 8, bring d.stamp 9007199254740992, d.msg⟩
theorem brought_may (d : Dat) : mayOld (broughtD d) = true := by
  have h1 := bring_bd d.rseq 9007199254740991 (by omega)
  have h2 := bring_bd d.rrep 8 (by omega)
  have h3 := bring_bd d.seq 9007199254740991 (by omega)
  have h4 := bring_bd d.sender 8 (by omega)
  have h5 := bring_bd d.stamp 9007199254740992 (by omega)
  unfold mayOld broughtD
  simp only [decide_eq_true_eq, ringE_zero]
  omega

theorem inner_old {d : Dat} (hm : mayOld d = true) (hb : Byt d.msg.body) (hc : check d.msg = 0) (hk : d.msg.kind ≠ 5) : inner (oldM d) = (d, 0) := by
  have h := check_oldM hm hb hc hk
  have hu := unpack_bytes hc
  unfold inner
  rw [if_pos ⟨h, rfl⟩]
  unfold innerD
  show ((⟨d.rseq, d.rrep, d.seq, d.sender, d.stamp, (unpack (bytesM d.msg)).1⟩ : Dat), (0 : Int)) = (d, 0)
  rw [hu]

end Go.Proofs.Ytphcnaafhcfakaa
